/- The tied card of the law holds. No condition. -/
import Derived.Test.YtmdfoigdflaliaaGreatDoorPtt16
import Derived.Test.YtmdfoigdflaliaaGreatDoorPtt18
set_option maxHeartbeats 40000000
set_option maxRecDepth 20000
set_option linter.unusedSimpArgs false
set_option linter.unusedVariables false
namespace Go.Proofs.YtmdfoigdflaliaaGreatDoor
open Go.Gh
open Nat (reduceEqDiff reduceLeDiff reduceAdd reduceLT)
open Int (reduceNe)
open Go.Lib
theorem w13 (g:Gram) (hd:drV g) (s:ByteArray) (hs:(Z6 s).length ≤ 1048576) (f:Int):Pu 13 [Gr g,T s,I f] (· = .tup [Tr ((parTS g niN f (Z6 s)).getD []),B (parTS g niN f (Z6 s)).isSome]):=by
 have hg:=drG_sm hd.1
 refine Pure.bor ?_
 have hnil:∀H,Bor H (.tup [.agg [ZE],B false]) (.tup [Tr [],B false]):=fun H=> .tup (.cons (.agg (.cons .nil .nil)) (.cons .refl .nil))
 have hwi:=w24 f 1 999
 rw[parTS_one]
 by_cases hf:1≤f∧f≤999
 case neg=>
  rw[if_neg hf]
  rw[decide_eq_false hf] at hwi
  refine ZN mxd i13 rfl (by simp) ?_;simp (maxSteps:=9^7) only[↓ S2,S2,ZT,↓reduceIte,reduceNe,reduceEqDiff,reduceCtorEq,reduceLeDiff,reduceAdd,reduceLT]
  ((try refine qI ?_);(repeat ((first|with_reducible refine qU ?_ | simp only[Z5]);try simp (maxSteps:=9^7) +contextual only[↓ S2,S2,↓reduceIte,reduceNe,reduceEqDiff,reduceCtorEq,reduceLeDiff,reduceAdd,reduceLT,VQ,]));(try simp +contextual (disch:=omega) only[Z2,]);(with_reducible repeat' (first|intro h|refine And.intro (by omega) ?_ | refine exP (by omega) ?_ | apply And.intro)))
  refine callS.eq hwi ?_
  ((try refine qI ?_);(repeat ((first|with_reducible refine qU ?_ | simp only[Z5]);try simp (maxSteps:=9^7) +contextual only[↓ S2,S2,↓reduceIte,reduceNe,reduceEqDiff,reduceCtorEq,reduceLeDiff,reduceAdd,reduceLT,VQ,]));(try simp +contextual (disch:=omega) only[Z2,]);(with_reducible repeat' (first|intro h|refine And.intro (by omega) ?_ | refine exP (by omega) ?_ | apply And.intro)))
  exact hnil _
 rw[if_pos hf]
 rw[decide_eq_true hf] at hwi
 refine gstartG i13 rfl (by simp) ?_
 refine Zn mxd ?_
 ((try refine qI ?_);(repeat ((first|with_reducible refine qU ?_ | simp only[Z5]);try simp (maxSteps:=9^7) +contextual only[↓ S2,S2,↓reduceIte,reduceNe,reduceEqDiff,reduceCtorEq,reduceLeDiff,reduceAdd,reduceLT,VQ,]));(try simp +contextual (disch:=omega) only[Z2,]);(with_reducible repeat' (first|intro h|refine And.intro (by omega) ?_ | refine exP (by omega) ?_ | apply And.intro)))
 refine Zn mxd ?_
 ((try refine qI ?_);(repeat ((first|with_reducible refine qU ?_ | simp only[Z5]);try simp (maxSteps:=9^7) +contextual only[↓ S2,S2,↓reduceIte,reduceNe,reduceEqDiff,reduceCtorEq,reduceLeDiff,reduceAdd,reduceLT,VQ,]));(try simp +contextual (disch:=omega) only[Z2,]);(with_reducible repeat' (first|intro h|refine And.intro (by omega) ?_ | refine exP (by omega) ?_ | apply And.intro)))
 refine callS.eq hwi ?_
 ((try refine qI ?_);(repeat ((first|with_reducible refine qU ?_ | simp only[Z5]);try simp (maxSteps:=9^7) +contextual only[↓ S2,S2,↓reduceIte,reduceNe,reduceEqDiff,reduceCtorEq,reduceLeDiff,reduceAdd,reduceLT,VQ,]));(try simp +contextual (disch:=omega) only[Z2,]);(with_reducible repeat' (first|intro h|refine And.intro (by omega) ?_ | refine exP (by omega) ?_ | apply And.intro)))
 refine Zn mxd ?_
 ((try refine qI ?_);(repeat ((first|with_reducible refine qU ?_ | simp only[Z5]);try simp (maxSteps:=9^7) +contextual only[↓ S2,S2,↓reduceIte,reduceNe,reduceEqDiff,reduceCtorEq,reduceLeDiff,reduceAdd,reduceLT,VQ,]));(try simp +contextual (disch:=omega) only[Z2,]);(with_reducible repeat' (first|intro h|refine And.intro (by omega) ?_ | refine exP (by omega) ?_ | apply And.intro)))
 rename_i r8
 have hnode:=o31 g hg hd.1.2.2.2 f (by omega) (by omega) s hs 1016 0 0 r8 [] (by omega) (by omega) (by omega)
 simp only[Int.natCast_zero,Int.add_zero] at hnode
 refine Zn mxd ?_
 ((try refine qI ?_);(repeat ((first|with_reducible refine qU ?_ | simp only[Z5]);try simp (maxSteps:=9^7) +contextual only[↓ S2,S2,↓reduceIte,reduceNe,reduceEqDiff,reduceCtorEq,reduceLeDiff,reduceAdd,reduceLT,VQ,]));(try simp +contextual (disch:=omega) only[Z2,]);(with_reducible repeat' (first|intro h|refine And.intro (by omega) ?_ | refine exP (by omega) ?_ | apply And.intro)))
 refine callS.of hnode ?_
 rintro _ _ ⟨fs,hfs,rfl⟩ hn2
 unfold nsR at hfs
 rw[List.drop_zero] at hfs
 rcases hfs with ⟨hno,rfl,x,y,rfl⟩|⟨F,a',hF,rfl,rfl, -,hid⟩
 ·rw[hno]
  ((try refine qI ?_);(repeat ((first|with_reducible refine qU ?_ | simp only[Z5]);try simp (maxSteps:=9^7) +contextual only[↓ S2,S2,↓reduceIte,reduceNe,reduceEqDiff,reduceCtorEq,reduceLeDiff,reduceAdd,reduceLT,VQ,]));(try simp +contextual (disch:=omega) only[Z2,]);(with_reducible repeat' (first|intro h|refine And.intro (by omega) ?_ | refine exP (by omega) ?_ | apply And.intro)))
  refine ZD mxd ?_
  ((try refine qI ?_);(repeat ((first|with_reducible refine qU ?_ | simp only[Z5]);try simp (maxSteps:=9^7) +contextual only[↓ S2,S2,↓reduceIte,reduceNe,reduceEqDiff,reduceCtorEq,reduceLeDiff,reduceAdd,reduceLT,VQ,]));(try simp +contextual (disch:=omega) only[Z2,]);(with_reducible repeat' (first|intro h|refine And.intro (by omega) ?_ | refine exP (by omega) ?_ | apply And.intro)))
  exact hnil _
 ·rw[hF]
  have hvn:=oneS_vn hd.2 hF
  have hfl:(F.flt 0 (-1) 0).length = F.sz:=Fo.flt_len ..
  have hfm:=w8 g (F.flt 0 (-1) 0) hg (by omega) (fun x hx=>by have:=Fo.flt_kids F 0 (-1) 0 x hx;omega) (vn_len hvn 0 (-1) 0)
  change Pure _ _ _ (· = .val (mkS (Zu g (F.flt 0 (-1) 0)))) at hfm
  dsimp only
  generalize F.flt 0 (-1) 0=t at *
  ((try refine qI ?_);(repeat ((first|with_reducible refine qU ?_ | simp only[Z5]);try simp (maxSteps:=9^7) +contextual only[↓ S2,S2,↓reduceIte,reduceNe,reduceEqDiff,reduceCtorEq,reduceLeDiff,reduceAdd,reduceLT,VQ,]));(try simp +contextual (disch:=omega) only[Z2,]);(with_reducible repeat' (first|intro h|refine And.intro (by omega) ?_ | refine exP (by omega) ?_ | apply And.intro)))
  refine Zn mxd ?_
  by_cases hs0:s=⟨#[]⟩
  ·have e5:(s=⟨#[]⟩)=True:=eq_true hs0
   rw[if_neg (fun h=>h.1 (by rw[hs0]))]
   ((try refine qI ?_);(repeat ((first|with_reducible refine qU ?_ | simp only[Z5]);try simp (maxSteps:=9^7) +contextual only[↓ S2,S2,↓reduceIte,reduceNe,reduceEqDiff,reduceCtorEq,reduceLeDiff,reduceAdd,reduceLT,VQ,e5]));(try simp +contextual (disch:=omega) only[Z2,e5]);(with_reducible repeat' (first|intro h|refine And.intro (by omega) ?_ | refine exP (by omega) ?_ | apply And.intro)))
   exact hnil _
  ·have e5:(s=⟨#[]⟩)=False:=eq_false hs0
   have hne:Z6 s≠[]:=fun h=>hs0 (congrArg bA h)
   ((try refine qI ?_);(repeat ((first|with_reducible refine qU ?_ | simp only[Z5]);try simp (maxSteps:=9^7) +contextual only[↓ S2,S2,↓reduceIte,reduceNe,reduceEqDiff,reduceCtorEq,reduceLeDiff,reduceAdd,reduceLT,VQ,e5]));(try simp +contextual (disch:=omega) only[Z2,e5]);(with_reducible repeat' (first|intro h|refine And.intro (by omega) ?_ | refine exP (by omega) ?_ | apply And.intro)))
   refine callS.eq hfm ?_
   by_cases he:Zu g t=Z6 s
   ·have e6:((⟨(Zu g t).toArray⟩:ByteArray)=s)=True:=eq_true (congrArg bA he)
    rw[if_pos ⟨hne,he⟩]
    ((try refine qI ?_);(repeat ((first|with_reducible refine qU ?_ | simp only[Z5]);try simp (maxSteps:=9^7) +contextual only[↓ S2,S2,↓reduceIte,reduceNe,reduceEqDiff,reduceCtorEq,reduceLeDiff,reduceAdd,reduceLT,VQ,e6]));(try simp +contextual (disch:=omega) only[Z2,e6]);(with_reducible repeat' (first|intro h|refine And.intro (by omega) ?_ | refine exP (by omega) ?_ | apply And.intro)))
    refine ZD mxd ?_
    ((try refine qI ?_);(repeat ((first|with_reducible refine qU ?_ | simp only[Z5]);try simp (maxSteps:=9^7) +contextual only[↓ S2,S2,↓reduceIte,reduceNe,reduceEqDiff,reduceCtorEq,reduceLeDiff,reduceAdd,reduceLT,VQ,]));(try simp +contextual (disch:=omega) only[Z2,]);(with_reducible repeat' (first|intro h|refine And.intro (by omega) ?_ | refine exP (by omega) ?_ | apply And.intro)))
    exact .tup (.cons .refl (.cons .refl .nil))
   ·have e6:((⟨(Zu g t).toArray⟩:ByteArray)=s)=False:=eq_false fun h=>he (congrArg Z6 h)
    rw[if_neg (fun h=>he h.2)]
    ((try refine qI ?_);(repeat ((first|with_reducible refine qU ?_ | simp only[Z5]);try simp (maxSteps:=9^7) +contextual only[↓ S2,S2,↓reduceIte,reduceNe,reduceEqDiff,reduceCtorEq,reduceLeDiff,reduceAdd,reduceLT,VQ,e6]));(try simp +contextual (disch:=omega) only[Z2,e6]);(with_reducible repeat' (first|intro h|refine And.intro (by omega) ?_ | refine exP (by omega) ?_ | apply And.intro)))
    exact hnil _
theorem p3 (bs:List UInt8):PureT Tryz.prog Tryz.tb 3 [Bs bs] (· = B true):=by
 refine (?_ : GCalls _ _ _ _ _)
 refine GCalls.mono (R:=fun g _ => g=B true) ?_ fun _ _ h=>h
 refine gstartG i3 rfl (by simp) ?_
 refine Zn mxd ?_
 ((try refine qI ?_);(repeat ((first|with_reducible refine qU ?_ | simp only[Z5]);try simp (maxSteps:=9^7) +contextual only[↓ S2,S2,↓reduceIte,reduceNe,reduceEqDiff,reduceCtorEq,reduceLeDiff,reduceAdd,reduceLT,VQ,]));(try simp +contextual (disch:=omega) only[Z2,]);(with_reducible repeat' (first|intro h|refine And.intro (by omega) ?_ | refine exP (by omega) ?_ | apply And.intro)))
 refine Zn mxd ?_
 ((try refine qI ?_);(repeat ((first|with_reducible refine qU ?_ | simp only[Z5]);try simp (maxSteps:=9^7) +contextual only[↓ S2,S2,↓reduceIte,reduceNe,reduceEqDiff,reduceCtorEq,reduceLeDiff,reduceAdd,reduceLT,VQ,]));(try simp +contextual (disch:=omega) only[Z2,]);(with_reducible repeat' (first|intro h|refine And.intro (by omega) ?_ | refine exP (by omega) ?_ | apply And.intro)))
 refine callS.eq (w4 bs) ?_
 by_cases hb:(1048576:Int)<bs.length
 ·have hb':=eq_true hb
  ((try refine qI ?_);(repeat ((first|with_reducible refine qU ?_ | simp only[Z5]);try simp (maxSteps:=9^7) +contextual only[↓ S2,S2,↓reduceIte,reduceNe,reduceEqDiff,reduceCtorEq,reduceLeDiff,reduceAdd,reduceLT,VQ,hb',decide_true]));(try simp +contextual (disch:=omega) only[Z2,hb',decide_true]);(with_reducible repeat' (first|intro h|refine And.intro (by omega) ?_ | refine exP (by omega) ?_ | apply And.intro)))
 ·have hb':=eq_false hb
  ((try refine qI ?_);(repeat ((first|with_reducible refine qU ?_ | simp only[Z5]);try simp (maxSteps:=9^7) +contextual only[↓ S2,S2,↓reduceIte,reduceNe,reduceEqDiff,reduceCtorEq,reduceLeDiff,reduceAdd,reduceLT,VQ,hb',decide_false]));(try simp +contextual (disch:=omega) only[Z2,hb',decide_false]);(with_reducible repeat' (first|intro h|refine And.intro (by omega) ?_ | refine exP (by omega) ?_ | apply And.intro)))
  refine Zn mxd ?_
  ((try refine qI ?_);(repeat ((first|with_reducible refine qU ?_ | simp only[Z5]);try simp (maxSteps:=9^7) +contextual only[↓ S2,S2,↓reduceIte,reduceNe,reduceEqDiff,reduceCtorEq,reduceLeDiff,reduceAdd,reduceLT,VQ,]));(try simp +contextual (disch:=omega) only[Z2,]);(with_reducible repeat' (first|intro h|refine And.intro (by omega) ?_ | refine exP (by omega) ?_ | apply And.intro)))
  refine callS.of ((w5 bs (by omega)).frame _) ?_
  rintro _ _ ⟨⟨g,t,hg,ht,rfl⟩,rfl⟩ _
  have hsm:=drG_sm hg.1
  have hkk:∀x∈t,x.kids.length≤1048576:=fun x hx=>by have:=(ht.1 x hx).1;omega
  have hrr:∀x∈t,(Z6 x.rule).length ≤ 1048576:=fun x hx=>by
   have h16:x.rule.size≤16:=(ht.1 x hx).2
   rw[Zo] at h16
   omega
  have htl:t.length≤1048576:=by have:=ht.2.2;omega
  have hk:=tt_one (t:=t) hg.2
  have q1:=p6 g t hsm htl hkk hrr
  change PureT _ _ _ _ (· = T (bA (Zu g t))) at q1
  have q3:=w8 g t hsm htl hkk hrr
  change Pure _ _ _ (· = T (bA (Zu g t))) at q3
  have q2:=p7 g hsm (bA (Zu g t)) (by rw[chA (Zu g t)];have:=fmtT0_lenV (t:=t) hg.2;omega) (by rw[chA (Zu g t)];exact fmtT0_ascV hg.2) 1
  rw[chA (Zu g t)] at q2
  have q5:=w11 t 0 htl
  generalize Zu g t=F at *
  generalize hS:bA F=S at *
  generalize hX:(YW g niN 1 F).getD []=X at *
  generalize hO:(YW g niN 1 F).isSome = ok at *
  ((try refine qI ?_);(repeat ((first|with_reducible refine qU ?_ | simp only[Z5]);try simp (maxSteps:=9^7) +contextual only[↓ S2,S2,↓reduceIte,reduceNe,reduceEqDiff,reduceCtorEq,reduceLeDiff,reduceAdd,reduceLT,VQ,]));(try simp +contextual (disch:=omega) only[Z2,]);(with_reducible repeat' (first|intro h|refine And.intro (by omega) ?_ | refine exP (by omega) ?_ | apply And.intro)))
  refine Zn mxd ?_
  ((try refine qI ?_);(repeat ((first|with_reducible refine qU ?_ | simp only[Z5]);try simp (maxSteps:=9^7) +contextual only[↓ S2,S2,↓reduceIte,reduceNe,reduceEqDiff,reduceCtorEq,reduceLeDiff,reduceAdd,reduceLT,VQ,]));(try simp +contextual (disch:=omega) only[Z2,]);(with_reducible repeat' (first|intro h|refine And.intro (by omega) ?_ | refine exP (by omega) ?_ | apply And.intro)))
  refine callS.eqT q1 (tabH_10 _) Tryz.tb10 ?_
  ((try refine qI ?_);(repeat ((first|with_reducible refine qU ?_ | simp only[Z5]);try simp (maxSteps:=9^7) +contextual only[↓ S2,S2,↓reduceIte,reduceNe,reduceEqDiff,reduceCtorEq,reduceLeDiff,reduceAdd,reduceLT,VQ,]));(try simp +contextual (disch:=omega) only[Z2,]);(with_reducible repeat' (first|intro h|refine And.intro (by omega) ?_ | refine exP (by omega) ?_ | apply And.intro)))
  refine Zn mxd ?_
  ((try refine qI ?_);(repeat ((first|with_reducible refine qU ?_ | simp only[Z5]);try simp (maxSteps:=9^7) +contextual only[↓ S2,S2,↓reduceIte,reduceNe,reduceEqDiff,reduceCtorEq,reduceLeDiff,reduceAdd,reduceLT,VQ,]));(try simp +contextual (disch:=omega) only[Z2,]);(with_reducible repeat' (first|intro h|refine And.intro (by omega) ?_ | refine exP (by omega) ?_ | apply And.intro)))
  refine callS.eqT q2 Tryz.tbH (fun _ h=>h) ?_
  ((try refine qI ?_);(repeat ((first|with_reducible refine qU ?_ | simp only[Z5]);try simp (maxSteps:=9^7) +contextual only[↓ S2,S2,↓reduceIte,reduceNe,reduceEqDiff,reduceCtorEq,reduceLeDiff,reduceAdd,reduceLT,VQ,]));(try simp +contextual (disch:=omega) only[Z2,]);(with_reducible repeat' (first|intro h|refine And.intro (by omega) ?_ | refine exP (by omega) ?_ | apply And.intro)))
  refine GW.cut mxd (fun env' H'=>subE env' [(0,Bs bs),(2,B false)]∧H'=Tryz.tb) ?_ ?_
  ·rcases hk with ⟨h1,h2⟩|⟨h1,u,h2,h3,h4,h5⟩
   ·have e5:(S=⟨#[]⟩)=True:=eq_true (by rw[←hS,h1])
    obtain rfl:X=[]:=by rw[←hX,h2];rfl
    obtain rfl:ok=false:=by rw[←hO,h2];rfl
    ((try refine qI ?_);(repeat ((first|with_reducible refine qU ?_ | simp only[Z5]);try simp (maxSteps:=9^7) +contextual only[↓ S2,S2,↓reduceIte,reduceNe,reduceEqDiff,reduceCtorEq,reduceLeDiff,reduceAdd,reduceLT,VQ,e5]));(try simp +contextual (disch:=omega) only[Z2,e5]);(with_reducible repeat' (first|intro h|refine And.intro (by omega) ?_ | refine exP (by omega) ?_ | apply And.intro)))
    refine callS.eq q3 ?_
    ((try refine qI ?_);(repeat ((first|with_reducible refine qU ?_ | simp only[Z5]);try simp (maxSteps:=9^7) only[↓ S2,S2,ZT,↓reduceIte,reduceNe,reduceEqDiff,reduceCtorEq,reduceLeDiff,reduceAdd,reduceLT,e5,decide_true,decide_false,Bool.not_true,Bool.not_false,not_true_eq_false,not_false_eq_true]));(try simp +contextual (disch:=omega) only[Z2,e5,decide_true,decide_false,Bool.not_true,Bool.not_false,not_true_eq_false,not_false_eq_true]);(with_reducible repeat' (first|intro h|refine And.intro (by omega) ?_ | refine exP (by omega) ?_ | apply And.intro)))
    exact (by simp[E2])
   ·have e5:(S=⟨#[]⟩)=False:=eq_false fun h=>h1 (by have:=congrArg Z6 (hS.trans h);rw[chA F] at this;exact this)
    have q4:=w9 u t
    have q6:=w10 u 0 h5
    rw[h3] at q4
    rw[h4] at q6
    obtain rfl:X=u:=by rw[←hX,h2];rfl
    obtain rfl:ok=true:=by rw[←hO,h2];rfl
    ((try refine qI ?_);(repeat ((first|with_reducible refine qU ?_ | simp only[Z5]);try simp (maxSteps:=9^7) +contextual only[↓ S2,S2,↓reduceIte,reduceNe,reduceEqDiff,reduceCtorEq,reduceLeDiff,reduceAdd,reduceLT,VQ,e5]));(try simp +contextual (disch:=omega) only[Z2,e5]);(with_reducible repeat' (first|intro h|refine And.intro (by omega) ?_ | refine exP (by omega) ?_ | apply And.intro)))
    refine callS.eq q3 ?_
    ((try refine qI ?_);(repeat ((first|with_reducible refine qU ?_ | simp only[Z5]);try simp (maxSteps:=9^7) only[↓ S2,S2,ZT,↓reduceIte,reduceNe,reduceEqDiff,reduceCtorEq,reduceLeDiff,reduceAdd,reduceLT,e5,decide_true,decide_false,Bool.not_true,Bool.not_false,not_true_eq_false,not_false_eq_true]));(try simp +contextual (disch:=omega) only[Z2,e5,decide_true,decide_false,Bool.not_true,Bool.not_false,not_true_eq_false,not_false_eq_true]);(with_reducible repeat' (first|intro h|refine And.intro (by omega) ?_ | refine exP (by omega) ?_ | apply And.intro)))
    refine callS.eq q4 ?_
    ((try refine qI ?_);(repeat ((first|with_reducible refine qU ?_ | simp only[Z5]);try simp (maxSteps:=9^7) +contextual only[↓ S2,S2,↓reduceIte,reduceNe,reduceEqDiff,reduceCtorEq,reduceLeDiff,reduceAdd,reduceLT,VQ,e5]));(try simp +contextual (disch:=omega) only[Z2,e5]);(with_reducible repeat' (first|intro h|refine And.intro (by omega) ?_ | refine exP (by omega) ?_ | apply And.intro)))
    refine callS.eq q6 ?_
    ((try refine qI ?_);(repeat ((first|with_reducible refine qU ?_ | simp only[Z5]);try simp (maxSteps:=9^7) +contextual only[↓ S2,S2,↓reduceIte,reduceNe,reduceEqDiff,reduceCtorEq,reduceLeDiff,reduceAdd,reduceLT,VQ,e5]));(try simp +contextual (disch:=omega) only[Z2,e5]);(with_reducible repeat' (first|intro h|refine And.intro (by omega) ?_ | refine exP (by omega) ?_ | apply And.intro)))
    refine callS.eq q5 ?_
    ((try refine qI ?_);(repeat ((first|with_reducible refine qU ?_ | simp only[Z5]);try simp (maxSteps:=9^7) +contextual only[↓ S2,S2,↓reduceIte,reduceNe,reduceEqDiff,reduceCtorEq,reduceLeDiff,reduceAdd,reduceLT,VQ,e5]));(try simp +contextual (disch:=omega) only[Z2,e5]);(with_reducible repeat' (first|intro h|refine And.intro (by omega) ?_ | refine exP (by omega) ?_ | apply And.intro)))
    exact (by simp[E2])
  ·rintro env' _ ⟨he,rfl⟩
   refine GW.ent (FE.of he) ?_
   clear q1 q2 q3 q5 hk hsm hkk hrr htl hg ht he hS
   refine Zn mxd ?_
   ((try refine qI ?_);(repeat ((first|with_reducible refine qU ?_ | simp only[Z5]);try simp (maxSteps:=9^7) +contextual only[↓ S2,S2,↓reduceIte,reduceNe,reduceEqDiff,reduceCtorEq,reduceLeDiff,reduceAdd,reduceLT,VQ,]));(try simp +contextual (disch:=omega) only[Z2,]);(with_reducible repeat' (first|intro h|refine And.intro (by omega) ?_ | refine exP (by omega) ?_ | apply And.intro)))
   refine callS.of ((w12 bs (by omega)).frame _) ?_
   rintro _ _ ⟨⟨h,u,f,hh,hu,hul,hf,rfl⟩,rfl⟩ _
   have hsm:=drG_sm hh.1
   have q2:=p7 h hsm u (by omega) hu f
   have q3:=w13 h hh u (by omega) f
   rw[tt_two hh.2] at q3
   have key:seqI ((YW h niN f (Z6 u)).getD []) f∧((YW h niN f (Z6 u)).getD []).length ≤ 16∧((YW h niN f (Z6 u)).isSome = true→PureT Tryz.prog (tab10 1) 6 [Gr h,Tr ((YW h niN f (Z6 u)).getD [])] (· = T u)):=by
    cases hP:YW h niN f (Z6 u) with
    | none=>exact ⟨fun j hj=>by simp at hj,by simp,fun h=>by cases h⟩
    | some y=>
     obtain ⟨k1,k2,k3,k4,k5⟩:=tt_some hP
     refine ⟨k1,k3,fun _ => ?_⟩
     have q:=p6 h y hsm (by omega) (fun x hx=>by have:=k4 x hx;omega) k5
     change PureT _ _ _ _ (· = T (bA (Zu h y))) at q
     rw[k2] at q
     exact q
   generalize (YW h niN f (Z6 u)).getD []=Y at *
   generalize (YW h niN f (Z6 u)).isSome = ok at *
   obtain ⟨hseq,hYl,q1⟩:=key
   clear hh hu hul hsm
   ((try refine qI ?_);(repeat ((first|with_reducible refine qU ?_ | simp only[Z5]);try simp (maxSteps:=9^7) +contextual only[↓ S2,S2,↓reduceIte,reduceNe,reduceEqDiff,reduceCtorEq,reduceLeDiff,reduceAdd,reduceLT,VQ,]));(try simp +contextual (disch:=omega) only[Z2,]);(with_reducible repeat' (first|intro h|refine And.intro (by omega) ?_ | refine exP (by omega) ?_ | apply And.intro)))
   refine Zn mxd ?_
   ((try refine qI ?_);(repeat ((first|with_reducible refine qU ?_ | simp only[Z5]);try simp (maxSteps:=9^7) +contextual only[↓ S2,S2,↓reduceIte,reduceNe,reduceEqDiff,reduceCtorEq,reduceLeDiff,reduceAdd,reduceLT,VQ,]));(try simp +contextual (disch:=omega) only[Z2,]);(with_reducible repeat' (first|intro h|refine And.intro (by omega) ?_ | refine exP (by omega) ?_ | apply And.intro)))
   refine callS.eqT q2 Tryz.tbH (fun _ h=>h) ?_
   ((try refine qI ?_);(repeat ((first|with_reducible refine qU ?_ | simp only[Z5]);try simp (maxSteps:=9^7) +contextual only[↓ S2,S2,↓reduceIte,reduceNe,reduceEqDiff,reduceCtorEq,reduceLeDiff,reduceAdd,reduceLT,VQ,]));(try simp +contextual (disch:=omega) only[Z2,]);(with_reducible repeat' (first|intro h|refine And.intro (by omega) ?_ | refine exP (by omega) ?_ | apply And.intro)))
   refine Zn mxd ?_
   ((try refine qI ?_);(repeat ((first|with_reducible refine qU ?_ | simp only[Z5]);try simp (maxSteps:=9^7) +contextual only[↓ S2,S2,↓reduceIte,reduceNe,reduceEqDiff,reduceCtorEq,reduceLeDiff,reduceAdd,reduceLT,VQ,]));(try simp +contextual (disch:=omega) only[Z2,]);(with_reducible repeat' (first|intro h|refine And.intro (by omega) ?_ | refine exP (by omega) ?_ | apply And.intro)))
   refine callS.eq q3 ?_
   ((try refine qI ?_);(repeat ((first|with_reducible refine qU ?_ | simp only[Z5]);try simp (maxSteps:=9^7) +contextual only[↓ S2,S2,↓reduceIte,reduceNe,reduceEqDiff,reduceCtorEq,reduceLeDiff,reduceAdd,reduceLT,VQ,]));(try simp +contextual (disch:=omega) only[Z2,]);(with_reducible repeat' (first|intro h|refine And.intro (by omega) ?_ | refine exP (by omega) ?_ | apply And.intro)))
   refine Zn mxd ?_
   ((try refine qI ?_);(repeat ((first|with_reducible refine qU ?_ | simp only[Z5]);try simp (maxSteps:=9^7) +contextual only[↓ S2,S2,↓reduceIte,reduceNe,reduceEqDiff,reduceCtorEq,reduceLeDiff,reduceAdd,reduceLT,VQ,]));(try simp +contextual (disch:=omega) only[Z2,]);(with_reducible repeat' (first|intro h|refine And.intro (by omega) ?_ | refine exP (by omega) ?_ | apply And.intro)))
   refine ZD mxd ?_
   ((try refine qI ?_);(repeat ((first|with_reducible refine qU ?_ | simp only[Z5]);try simp (maxSteps:=9^7) +contextual only[↓ S2,S2,↓reduceIte,reduceNe,reduceEqDiff,reduceCtorEq,reduceLeDiff,reduceAdd,reduceLT,VQ,]));(try simp +contextual (disch:=omega) only[Z2,]);(with_reducible repeat' (first|intro h|refine And.intro (by omega) ?_ | refine exP (by omega) ?_ | apply And.intro)))
   refine Y5 mxd (ι:={ k:Nat // k≤Y.length }) (fun k=>[(0,Bs bs),(8,.rop 2 (Gr h)),(9,T u),(10,I f),(11,.rop 1 (Tr Y)),(12,B ok),(15,I k.1)]) (fun _ => Tryz.tb) (fun k=>Y.length-k.1) ⟨0,by simp⟩ (by simp[E2]) rfl ?_
   rintro ⟨k,hk⟩
   dsimp only at hk ⊢
   rcases nL k Y.length with hlt|hge
   ·have e1:=hseq k hlt
    have e0:((k:Int)<(Y.length:Int))=True:=eq_true (by omega)
    have i2:((0:Int)≤(k:Int))=True:=eq_true (by omega)
    have w1:IntKind.i64.wrap (f+(k:Int))=f+(k:Int):=wrap64 (by omega) (by omega)
    ((try refine qI ?_);(repeat ((first|with_reducible refine qU ?_ | simp only[Z5]);try simp (maxSteps:=9^7) only[↓ S2,S2,ZT,↓reduceIte,reduceNe,reduceEqDiff,reduceCtorEq,reduceLeDiff,reduceAdd,reduceLT,e0,e1,w1,i2,hlt,Int.toNat_natCast,decide_true,decide_false,not_true_eq_false,not_false_eq_true]));(try simp +contextual (disch:=omega) only[Z2,e0,e1,w1,i2,hlt,Int.toNat_natCast,decide_true,decide_false,not_true_eq_false,not_false_eq_true]);(with_reducible repeat' (first|intro h|refine And.intro (by omega) ?_ | refine exP (by omega) ?_ | apply And.intro)))
    exact nx ⟨k+1,by omega⟩ (by dsimp only;omega) (by simp[E2]) rfl
   ·have e0:((k:Int)<(Y.length:Int))=False:=eq_false (by omega)
    cases ok with
    | false=>((try refine qI ?_);(repeat ((first|with_reducible refine qU ?_ | simp only[Z5]);try simp (maxSteps:=9^7) +contextual only[↓ S2,S2,↓reduceIte,reduceNe,reduceEqDiff,reduceCtorEq,reduceLeDiff,reduceAdd,reduceLT,VQ,e0]));(try simp +contextual (disch:=omega) only[Z2,e0]);(with_reducible repeat' (first|intro h|refine And.intro (by omega) ?_ | refine exP (by omega) ?_ | apply And.intro)))
    | true=>
     ((try refine qI ?_);(repeat ((first|with_reducible refine qU ?_ | simp only[Z5]);try simp (maxSteps:=9^7) +contextual only[↓ S2,S2,↓reduceIte,reduceNe,reduceEqDiff,reduceCtorEq,reduceLeDiff,reduceAdd,reduceLT,VQ,e0]));(try simp +contextual (disch:=omega) only[Z2,e0]);(with_reducible repeat' (first|intro h|refine And.intro (by omega) ?_ | refine exP (by omega) ?_ | apply And.intro)))
     refine callS.eqT (q1 rfl) (tabH_10 _) Tryz.tb10 ?_
     ((try refine qI ?_);(repeat ((first|with_reducible refine qU ?_ | simp only[Z5]);try simp (maxSteps:=9^7) +contextual only[↓ S2,S2,↓reduceIte,reduceNe,reduceEqDiff,reduceCtorEq,reduceLeDiff,reduceAdd,reduceLT,VQ,]));(try simp +contextual (disch:=omega) only[Z2,]);(with_reducible repeat' (first|intro h|refine And.intro (by omega) ?_ | refine exP (by omega) ?_ | apply And.intro)))
end Go.Proofs.YtmdfoigdflaliaaGreatDoor
