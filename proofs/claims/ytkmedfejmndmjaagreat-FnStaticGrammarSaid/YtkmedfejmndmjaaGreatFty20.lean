/- The law returns true whatever the input, and the input reads behind the call as before. No condition. -/
import Derived.Test.YtkmedfejmndmjaaGreatFty18
set_option maxHeartbeats 40000000
set_option maxRecDepth 20000
set_option linter.unusedSimpArgs false
set_option linter.unusedVariables false
namespace Go.Proofs.YtkmedfejmndmjaaGreat
open Go.Gh
open Nat (reduceEqDiff reduceLeDiff reduceAdd reduceLT)
open Int (reduceNe)
theorem o120 (s:ByteArray) (hs:shT s) (first plain:Bool):Dc Tryz.prog 120 [T s,B first,B plain] (fun g H1=>∃(l:List Att) (r:Nat),drS ⟨s,l⟩∧g = .agg [T s,.own r 4 0 l.length]∧H1=[(r,4,l.map At)]):=by
 refine Dc.of fun rc H=> ?_
 refine ZY mxd i120 rfl (by simp) ?_;simp (maxSteps:=9^7) only[↓ S2,S2,Z5,↓reduceIte,reduceNe,reduceEqDiff,reduceCtorEq,reduceLeDiff,reduceAdd,reduceLT]
 ((try refine qI ?_);(repeat ((first|with_reducible refine qU ?_ | simp only[Z8]);try simp (maxSteps:=9^7) +contextual only[↓ S2,S2,↓reduceIte,reduceNe,reduceEqDiff,reduceCtorEq,reduceLeDiff,reduceAdd,reduceLT,VQ,]));(try simp +contextual (disch:=omega) only[Z2,]);(with_reducible repeat' (first|intro h|refine And.intro (by omega) ?_ | refine exP (by omega) ?_ | apply And.intro)))
 refine callS.dv (Y8 _ (by omega)) (by simp only[Z9, *,if_true,if_false]) ?_
 rintro _ ⟨n,hn,rfl⟩
 ((try refine qI ?_);(repeat ((first|with_reducible refine qU ?_ | simp only[Z8]);try simp (maxSteps:=9^7) +contextual only[↓ S2,S2,↓reduceIte,reduceNe,reduceEqDiff,reduceCtorEq,reduceLeDiff,reduceAdd,reduceLT,VQ,]));(try simp +contextual (disch:=omega) only[Z2,]);(with_reducible repeat' (first|intro h|refine And.intro (by omega) ?_ | refine exP (by omega) ?_ | apply And.intro)))
 rename_i r9
 obtain ⟨v,hv,hvn⟩:=vfresh (names ((r9,2,[.agg [T s,.val (.slice none 0 0)]])::(rc,3,[.cur])::H))
 refine Yw mxd (ι:={ x:(Nat×List Att)×Nat // x.2≤n+1∧x.1.2.length=x.2∧drL x.1.2 }) (fun x=>[(0,.ptr rc 3 0 0),(2,B first),(3,B plain),(8,.raw 2),(9,.ptr r9 2 0 0),(10,I (1+n)),(11,I x.1.2)]) (fun x=>(x.1.1.1,4,x.1.1.2.map At)::(r9,2,[.agg [T s,.own x.1.1.1 4 0 x.1.1.2.length]])::(rc,3,[.cur])::H) (fun x=>n+1-x.1.2) ⟨((v,[]),0),by simp,rfl,drL_nil⟩ (FE.virtF (sz:=2) (sz1:=4) (i:=0) (j:=1) (es:=[.agg [T s,.val (.slice none 0 0)]]) (gs:=[T s,.val (.slice none 0 0)]) Z4 rfl rfl hv hvn) (by simp[E2]) (by simp[ZD]) ?_
 rintro ⟨⟨⟨q,l⟩,i⟩,hi,hl,hd⟩ hn2
 dsimp only at hi hl hd hn2 ⊢
 have h4:=ZX hn2
 (replace h4:=h4;simp only[VN] at h4)
 refine Zp mxd ?_
 rcases nL i (n+1) with hlt|hge
 ·have hA:=ltr_get i
  ((try refine qI ?_);(repeat ((first|with_reducible refine qU ?_ | simp only[Z8]);try simp (maxSteps:=9^7) +contextual only[↓ S2,S2,↓reduceIte,reduceNe,reduceEqDiff,reduceCtorEq,reduceLeDiff,reduceAdd,reduceLT,VQ,hA]));(try simp +contextual (disch:=omega) only[Z2,hA]);(with_reducible repeat' (first|intro h|refine And.intro (by omega) ?_ | refine exP (by omega) ?_ | apply And.intro)))
  all_goals try exact oF
  refine callA.dv (w163 _ rfl (by simp)) (by simp only[Z9,h4,if_false,if_true]) ?_
  intro _ hg;obtain ⟨t,ht,rfl⟩:=YZ (lo:=1) (hi:=4) rfl hg;clear hg
  ((try refine qI ?_);(repeat ((first|with_reducible refine qU ?_ | simp only[Z8]);try simp (maxSteps:=9^7) +contextual only[↓ S2,S2,↓reduceIte,reduceNe,reduceEqDiff,reduceCtorEq,reduceLeDiff,reduceAdd,reduceLT,VQ,]));(try simp +contextual (disch:=omega) only[Z2,]);(with_reducible repeat' (first|intro h|refine And.intro (by omega) ?_ | refine exP (by omega) ?_ | apply And.intro)))
  refine callA.dv (w163 _ rfl (by simp)) (by simp only[Z9,h4,if_false,if_true]) ?_
  intro _ hg;obtain ⟨m,hm,rfl⟩:=YZ (lo:=1) (hi:=3) rfl hg;clear hg
  have h0:m=1∨m=2∨m=3:=by omega
  rcases h0 with rfl|rfl|rfl<;>cases first<;>cases plain
  all_goals ((((try refine qI ?_);(repeat ((first|with_reducible refine qU ?_ | simp only[Z8]);try simp (maxSteps:=9^7) only[↓ S2,S2,Z5,↓reduceIte,reduceNe,reduceEqDiff,reduceCtorEq,reduceLeDiff,reduceAdd,reduceLT,Z9,Z7,Z6,h4,List.length_map,ZO,Int.reduceEq,decide_true,decide_false]));(try simp +contextual (disch:=omega) only[Z2,Z9,Z7,Z6,h4,List.length_map,ZO,Int.reduceEq,decide_true,decide_false]);(with_reducible repeat' (first|intro h|refine And.intro (by omega) ?_ | refine exP (by omega) ?_ | apply And.intro)));(repeat' (have h:=ZX h;simp only[ZZ,ZV,Z0,ZW,and_true,true_and] at h;((try refine qI ?_);(repeat ((first|with_reducible refine qU ?_ | simp only[Z8]);try simp (maxSteps:=9^7) only[↓ S2,S2,Z5,↓reduceIte,reduceNe,reduceEqDiff,reduceCtorEq,reduceLeDiff,reduceAdd,reduceLT,Z9,Z7,Z6,h4,List.length_map,ZO,Int.reduceEq,decide_true,decide_false,h]));(try simp +contextual (disch:=omega) only[Z2,Z9,Z7,Z6,h4,List.length_map,ZO,Int.reduceEq,decide_true,decide_false,h]);(with_reducible repeat' (first|intro h|refine And.intro (by omega) ?_ | refine exP (by omega) ?_ | apply And.intro)))))))
  all_goals ((repeat' ((first|(refine callS.dv (w163 _ rfl (by simp)) (by first|exact Z4|(simp only[Z9, *,if_true,if_false];done)) ?_;intro _ hg;obtain ⟨_,_,rfl⟩:=YZ (lo:=1) (hi:=4) rfl hg;clear hg)|(refine callS.dv (Y8 _ (by omega)) (by first|exact Z4|(simp only[Z9, *,if_true,if_false];done)) ?_;rintro _ ⟨_,_,rfl⟩)|(refine callS.dv (w75 _) (by first|exact Z4|(simp only[Z9, *,if_true,if_false];done)) ?_;rintro _ ⟨_,_,_,_,rfl⟩)|(refine callS.dv (w36 _) (by first|exact Z4|(simp only[Z9, *,if_true,if_false];done)) ?_;rintro _ ⟨_,rfl⟩)|(refine callS.dv (w191) (by first|exact Z4|(simp only[Z9, *,if_true,if_false];done)) ?_;rintro _ ⟨_,_,rfl⟩)|(refine callS.dv (w78 _ rfl (by simp)) (by first|exact Z4|(simp only[Z9, *,if_true,if_false];done)) ?_;intro _ hg;obtain ⟨_,_,rfl⟩:=Ze rfl hg;clear hg)|(refine callS.dv (w163 _ rfl (by simp)) (by first|exact Z4|(simp only[Z9, *,if_true,if_false];done)) ?_;intro _ hg;obtain ⟨_,_,rfl⟩:=YZ (lo:= -9223372036854775808) (hi:=9223372036854775807) rfl hg;clear hg)|(refine callA.dv (w163 _ rfl (by simp)) (by first|exact Z4|(simp only[Z9, *,if_true,if_false];done)) ?_;intro _ hg;obtain ⟨_,_,rfl⟩:=YZ (lo:=1) (hi:=4) rfl hg;clear hg)|(refine callA.dv (Y8 _ (by omega)) (by first|exact Z4|(simp only[Z9, *,if_true,if_false];done)) ?_;rintro _ ⟨_,_,rfl⟩)|(refine callA.dv (w75 _) (by first|exact Z4|(simp only[Z9, *,if_true,if_false];done)) ?_;rintro _ ⟨_,_,_,_,rfl⟩)|(refine callA.dv (w36 _) (by first|exact Z4|(simp only[Z9, *,if_true,if_false];done)) ?_;rintro _ ⟨_,rfl⟩)|(refine callA.dv (w191) (by first|exact Z4|(simp only[Z9, *,if_true,if_false];done)) ?_;rintro _ ⟨_,_,rfl⟩)|(refine callA.dv (w78 _ rfl (by simp)) (by first|exact Z4|(simp only[Z9, *,if_true,if_false];done)) ?_;intro _ hg;obtain ⟨_,_,rfl⟩:=Ze rfl hg;clear hg)|(refine callA.dv (w163 _ rfl (by simp)) (by first|exact Z4|(simp only[Z9, *,if_true,if_false];done)) ?_;intro _ hg;obtain ⟨_,_,rfl⟩:=YZ (lo:= -9223372036854775808) (hi:=9223372036854775807) rfl hg;clear hg));(first|(have h':=h;(((try refine qI ?_);(repeat ((first|with_reducible refine qU ?_ | simp only[Z8]);try simp (maxSteps:=9^7) only[↓ S2,S2,Z5,↓reduceIte,reduceNe,reduceEqDiff,reduceCtorEq,reduceLeDiff,reduceAdd,reduceLT,Z9,Z7,Z6,h4,List.length_map,ZO,Int.reduceEq,decide_true,decide_false,h']));(try simp +contextual (disch:=omega) only[Z2,Z9,Z7,Z6,h4,List.length_map,ZO,Int.reduceEq,decide_true,decide_false,h']);(with_reducible repeat' (first|intro h|refine And.intro (by omega) ?_ | refine exP (by omega) ?_ | apply And.intro)));(repeat' (have h:=ZX h;simp only[ZZ,ZV,Z0,ZW,and_true,true_and] at h;((try refine qI ?_);(repeat ((first|with_reducible refine qU ?_ | simp only[Z8]);try simp (maxSteps:=9^7) only[↓ S2,S2,Z5,↓reduceIte,reduceNe,reduceEqDiff,reduceCtorEq,reduceLeDiff,reduceAdd,reduceLT,Z9,Z7,Z6,h4,List.length_map,ZO,Int.reduceEq,decide_true,decide_false,h',h]));(try simp +contextual (disch:=omega) only[Z2,Z9,Z7,Z6,h4,List.length_map,ZO,Int.reduceEq,decide_true,decide_false,h',h]);(with_reducible repeat' (first|intro h|refine And.intro (by omega) ?_ | refine exP (by omega) ?_ | apply And.intro)))))))|(((try refine qI ?_);(repeat ((first|with_reducible refine qU ?_ | simp only[Z8]);try simp (maxSteps:=9^7) only[↓ S2,S2,Z5,↓reduceIte,reduceNe,reduceEqDiff,reduceCtorEq,reduceLeDiff,reduceAdd,reduceLT,Z9,Z7,Z6,h4,List.length_map,ZO,Int.reduceEq,decide_true,decide_false]));(try simp +contextual (disch:=omega) only[Z2,Z9,Z7,Z6,h4,List.length_map,ZO,Int.reduceEq,decide_true,decide_false]);(with_reducible repeat' (first|intro h|refine And.intro (by omega) ?_ | refine exP (by omega) ?_ | apply And.intro)));(repeat' (have h:=ZX h;simp only[ZZ,ZV,Z0,ZW,and_true,true_and] at h;((try refine qI ?_);(repeat ((first|with_reducible refine qU ?_ | simp only[Z8]);try simp (maxSteps:=9^7) only[↓ S2,S2,Z5,↓reduceIte,reduceNe,reduceEqDiff,reduceCtorEq,reduceLeDiff,reduceAdd,reduceLT,Z9,Z7,Z6,h4,List.length_map,ZO,Int.reduceEq,decide_true,decide_false,h]));(try simp +contextual (disch:=omega) only[Z2,Z9,Z7,Z6,h4,List.length_map,ZO,Int.reduceEq,decide_true,decide_false,h]);(with_reducible repeat' (first|intro h|refine And.intro (by omega) ?_ | refine exP (by omega) ?_ | apply And.intro))))))))))
  all_goals try exact oF
  all_goals
   rename_i q2 _
   rw[tL (by simp)]
   refine nxAtt fun a ha=> ?_
   have hda:drA i a:=by rw[ha];exact ⟨rfl,by dsimp only;omega,by dsimp only;omega,rfl⟩
   refine nxF ⟨((q2,l++[a]),i+1),by dsimp only;omega,by simp;omega,drL_app hd (by rw[hl];exact hda)⟩ (by simp<;>omega) (FE.perm (H:=[_,_,_,_,_]) (L:=[(q2,4,List.map At l++[At a]),(r9,2,[.agg [T s,.own q2 4 0 (l.length+1)]]),(rc,3,[.cur])]) (by simp[subH,ZU,names, *])) (by simp[E2]) (by simp)
 ·(((try refine qI ?_);(repeat ((first|with_reducible refine qU ?_ | simp only[Z8]);try simp (maxSteps:=9^7) only[↓ S2,S2,Z5,↓reduceIte,reduceNe,reduceEqDiff,reduceCtorEq,reduceLeDiff,reduceAdd,reduceLT,Z9,Z7,Z6,h4]));(try simp +contextual (disch:=omega) only[Z2,Z9,Z7,Z6,h4]);(with_reducible repeat' (first|intro h|refine And.intro (by omega) ?_ | refine exP (by omega) ?_ | apply And.intro)));(repeat' (have h:=ZX h;simp only[ZZ,ZV,Z0,ZW,and_true,true_and] at h;((try refine qI ?_);(repeat ((first|with_reducible refine qU ?_ | simp only[Z8]);try simp (maxSteps:=9^7) only[↓ S2,S2,Z5,↓reduceIte,reduceNe,reduceEqDiff,reduceCtorEq,reduceLeDiff,reduceAdd,reduceLT,Z9,Z7,Z6,h4,h]));(try simp +contextual (disch:=omega) only[Z2,Z9,Z7,Z6,h4,h]);(with_reducible repeat' (first|intro h|refine And.intro (by omega) ?_ | refine exP (by omega) ?_ | apply And.intro))))))
  all_goals try exact oF
  exact ⟨_,[(q,_)],[_,_,_],[],⟨l,q,⟨hs,by show 1≤l.length;omega,by show l.length≤4;omega,hd⟩,rfl,rfl⟩,.refl,rfl,by simp[subH,ZU,names, *]⟩
theorem v121 (k:Nat) (hk:k<2):Pu 121 [I k] (· = T (ByteArray.mk #[UInt8.ofNat (48+k)])):=by
 refine Pure.bor ?_
 have h0:k=0∨k=1:=by omega
 rcases h0 with rfl|rfl
 ·refine ZY mxd i121 rfl (by simp) ?_;simp (maxSteps:=9^7) only[↓ S2,S2,Z5,↓reduceIte,reduceNe,reduceEqDiff,reduceCtorEq,reduceLeDiff,reduceAdd,reduceLT]
  ((try refine qI ?_);(repeat ((first|with_reducible refine qU ?_ | simp only[Z8]);try simp (maxSteps:=9^7) +contextual only[↓ S2,S2,↓reduceIte,reduceNe,reduceEqDiff,reduceCtorEq,reduceLeDiff,reduceAdd,reduceLT,VQ,]));(try simp +contextual (disch:=omega) only[Z2,]);(with_reducible repeat' (first|intro h|refine And.intro (by omega) ?_ | refine exP (by omega) ?_ | apply And.intro)))
  exact .refl
 ·refine ZY mxd i121 rfl (by simp) ?_;simp (maxSteps:=9^7) only[↓ S2,S2,Z5,↓reduceIte,reduceNe,reduceEqDiff,reduceCtorEq,reduceLeDiff,reduceAdd,reduceLT]
  ((try refine qI ?_);(repeat ((first|with_reducible refine qU ?_ | simp only[Z8]);try simp (maxSteps:=9^7) +contextual only[↓ S2,S2,↓reduceIte,reduceNe,reduceEqDiff,reduceCtorEq,reduceLeDiff,reduceAdd,reduceLT,VQ,Int.reduceEq,decide_false]));(try simp +contextual (disch:=omega) only[Z2,Int.reduceEq,decide_false]);(with_reducible repeat' (first|intro h|refine And.intro (by omega) ?_ | refine exP (by omega) ?_ | apply And.intro)))
  refine Y1 mxd (ι:=Bool) (fun x=>[(0,I (if x then 0 else 1)),(3,B false),(4,T (if x then ByteArray.mk #[49] else ByteArray.mk #[]))]) (fun _ => []) (fun x=>if x then 0 else 1) false (by simp[E2]) (by simp[subH]) ?_
  intro b _
  have e1:Int.tmod 1 10=1:=rfl
  have e2:Int.tdiv 1 10=0:=rfl
  cases b
  ·((try refine qI ?_);(repeat ((first|with_reducible refine qU ?_ | simp only[Z8]);try simp (maxSteps:=9^7) +contextual only[↓ S2,S2,↓reduceIte,reduceNe,reduceEqDiff,reduceCtorEq,reduceLeDiff,reduceAdd,reduceLT,VQ,Int.reduceEq,Int.reduceLT,decide_false,Bool.false_eq_true,if_false,e1,e2]));(try simp +contextual (disch:=omega) only[Z2,Int.reduceEq,Int.reduceLT,decide_false,Bool.false_eq_true,if_false,e1,e2]);(with_reducible repeat' (first|intro h|refine And.intro (by omega) ?_ | refine exP (by omega) ?_ | apply And.intro)))
   all_goals first
    | exact Nat.le_of_ble_eq_true rfl
    | exact px true (by decide) (by simp[E2];rfl) (by simp[subH])
  ·((try refine qI ?_);(repeat ((first|with_reducible refine qU ?_ | simp only[Z8]);try simp (maxSteps:=9^7) +contextual only[↓ S2,S2,↓reduceIte,reduceNe,reduceEqDiff,reduceCtorEq,reduceLeDiff,reduceAdd,reduceLT,VQ,Int.reduceEq,decide_false,if_true]));(try simp +contextual (disch:=omega) only[Z2,Int.reduceEq,decide_false,if_true]);(with_reducible repeat' (first|intro h|refine And.intro (by omega) ?_ | refine exP (by omega) ?_ | apply And.intro)))
   exact .refl
theorem w120 (s:ByteArray) (hs:shT s) (first plain:Bool):Dv Tryz.prog 120 [T s,B first,B plain] (fun v=>∃y,drS y∧v=Sy y):=
 (o120 s hs first plain).frz fun g H1 ⟨l,r,h1,h2,h3⟩=>by
  subst h2 h3
  exact ⟨_,⟨_,h1,rfl⟩,.agg (.cons .refl (.cons (Bor.allM (fun _ => rfl) Z4 rfl) .nil))⟩
theorem w6 (bs:List UInt8):Pu 6 [Bs bs] (· = B (decide ((1048576:Int)<bs.length))):=by
 refine ZY mxd i6 rfl (by simp) ?_;simp (maxSteps:=9^7) only[↓ S2,S2,Z5,↓reduceIte,reduceNe,reduceEqDiff,reduceCtorEq,reduceLeDiff,reduceAdd,reduceLT]
 ((try refine qI ?_);(repeat ((first|with_reducible refine qU ?_ | simp only[Z8]);try simp (maxSteps:=9^7) +contextual only[↓ S2,S2,↓reduceIte,reduceNe,reduceEqDiff,reduceCtorEq,reduceLeDiff,reduceAdd,reduceLT,VQ,List.length_map]));(try simp +contextual (disch:=omega) only[Z2,List.length_map]);(with_reducible repeat' (first|intro h|refine And.intro (by omega) ?_ | refine exP (by omega) ?_ | apply And.intro)))
theorem y10 (rs:Nat) (X Y Z:GV) (g:Gram) (s:ByteArray) (hg:Zw g):PuR Tryz.prog (syR rs g) 10 [GrO rs g X,T s] (.tup [Sy (Zq g.syms s),B (hSym g.syms s)]):=by
 refine PuR.minB ?_
 change GCalls _ _ _ [(rs,2,g.syms.map Sy)] _
 have hlen:=hg.1
 refine ZY mxd i10 rfl (by simp) ?_;simp (maxSteps:=9^7) only[↓ S2,S2,Z5,↓reduceIte,reduceNe,reduceEqDiff,reduceCtorEq,reduceLeDiff,reduceAdd,reduceLT]
 refine ZF mxd (ι:={ i:Nat // i≤g.syms.length∧∀y∈g.syms.take i,decide (y.name=s)=false }) (fun i=>[(1,T s),(2,.rop 2 (GrO rs g X)),(4,.raw 2),(6,I i.1)]) (fun _ => [(rs,2,g.syms.map Sy)]) (fun i=>g.syms.length-i.1) ⟨0,by simp⟩ (by simp[E2]) rfl ?_
 rintro ⟨i,hi,hn⟩
 ((try refine qI ?_);(repeat ((first|with_reducible refine qU ?_ | simp only[Z8]);try simp (maxSteps:=9^7) only[↓ S2,S2,Z5,↓reduceIte,reduceNe,reduceEqDiff,reduceCtorEq,reduceLeDiff,reduceAdd,reduceLT]));(try simp +contextual (disch:=omega) only[Z2]);(with_reducible repeat' (first|intro h|refine And.intro (by omega) ?_ | refine exP (by omega) ?_ | apply And.intro)))
 ·subst h
  refine callS.eq (w43 g.syms[i] (hg.2.2.1 _ (gM _))) ?_
  ((try refine qI ?_);(repeat ((first|with_reducible refine qU ?_ | simp only[Z8]);try simp (maxSteps:=9^7) only[↓ S2,S2,Z5,↓reduceIte,reduceNe,reduceEqDiff,reduceCtorEq,reduceLeDiff,reduceAdd,reduceLT]));(try simp +contextual (disch:=omega) only[Z2]);(with_reducible repeat' (first|intro h|refine And.intro (by omega) ?_ | refine exP (by omega) ?_ | apply And.intro)))
  have e:=find_hit (p:=fun x:Sym=>decide (x.name=g.syms[i].name)) (xs:=g.syms) (i:=i) (by assumption) (by simp) hn
  simp only[Zq,hSym,e]
  exact ⟨[],.refl,(by repeat' (first|exact trivial|(refine And.intro (by simp only[Z9, *,if_true,if_false];try rfl) (And.intro (by simp[ZT,ZS, *]) ?_))))⟩
 ·exact nx ⟨i+1,by omega,Zg (by assumption) (by simp[*]) hn⟩ (by simp;omega) (by simp[E2]) rfl
 ·have:i=g.syms.length:=by omega
  subst this
  rw[tL (Nat.le_refl _)] at hn
  have e:=find_none hn
  simp only[Zq,hSym,e]
  exact ⟨[],.tup (.cons (.agg (.cons .refl (.cons .nil .nil))) (.cons .refl .nil)),(by repeat' (first|exact trivial|(refine And.intro (by simp only[Z9, *,if_true,if_false];try rfl) (And.intro (by simp[ZT,ZS, *]) ?_))))⟩
theorem x11 (X Y Z:GV) (r:Rul) (p:Int) (hr:Zk r):Pu 11 [RuX r Y Z,I p] (· = T (Zz r p)):=by
 have hl:=hr.1
 refine ZY mxd i11 rfl (by simp) ?_;simp (maxSteps:=9^7) only[↓ S2,S2,Z5,↓reduceIte,reduceNe,reduceEqDiff,reduceCtorEq,reduceLeDiff,reduceAdd,reduceLT]
 ((try refine qI ?_);(repeat ((first|with_reducible refine qU ?_ | simp only[Z8]);try simp (maxSteps:=9^7) only[↓ S2,S2,Z5,↓reduceIte,reduceNe,reduceEqDiff,reduceCtorEq,reduceLeDiff,reduceAdd,reduceLT]));(try simp +contextual (disch:=omega) only[Z2]);(with_reducible repeat' (first|intro h|refine And.intro (by omega) ?_ | refine exP (by omega) ?_ | apply And.intro)))
 ·simp[Zz,h]
 refine callS.eq (w44 _ _ _) ?_
 ((try refine qI ?_);(repeat ((first|with_reducible refine qU ?_ | simp only[Z8]);try simp (maxSteps:=9^7) only[↓ S2,S2,Z5,↓reduceIte,reduceNe,reduceEqDiff,reduceCtorEq,reduceLeDiff,reduceAdd,reduceLT]));(try simp +contextual (disch:=omega) only[Z2]);(with_reducible repeat' (first|intro h|refine And.intro (by omega) ?_ | refine exP (by omega) ?_ | apply And.intro)))
 ·simp only[Zz,if_neg (show ¬p=0 from by assumption),if_pos h,Z1 (show (p-1).toNat < r.right.length by omega)]
 ·simp only[Zz,if_neg (show ¬p=0 from by assumption),if_neg h];rfl
theorem y186 (rs:Nat) (X Y Z:GV) (g:Gram) (r:Rul) (hg:Zw g) (hr:Zk r) (hr3:r.right.length≤3):PuR Tryz.prog (syR rs g) 186 [GrO rs g X,RuX r Y Z] (OcS (reqO g r)):=by
 refine PuR.minB ?_
 change GCalls _ _ _ [(rs,2,g.syms.map Sy)] _
 refine ZY mxd i186 rfl (by simp) ?_;simp (maxSteps:=9^7) only[↓ S2,S2,Z5,↓reduceIte,reduceNe,reduceEqDiff,reduceCtorEq,reduceLeDiff,reduceAdd,reduceLT]
 ((try refine qI ?_);(repeat ((first|with_reducible refine qU ?_ | simp only[Z8]);try simp (maxSteps:=9^7) +contextual only[↓ S2,S2,↓reduceIte,reduceNe,reduceEqDiff,reduceCtorEq,reduceLeDiff,reduceAdd,reduceLT,VQ,]));(try simp +contextual (disch:=omega) only[Z2,]);(with_reducible repeat' (first|intro h|refine And.intro (by omega) ?_ | refine exP (by omega) ?_ | apply And.intro)))
 rename_i r0
 refine Y1 mxd (ι:={ x:Nat×Nat // x.2≤r.right.length+1 }) (fun x=>[(2,.rop 2 (GrO rs g X)),(3,.rop 6 (RuX r Y Z)),(5,.own x.1.1 2 0 (Zs g r x.1.2).length),(6,I x.1.2)]) (fun x=>[(x.1.1,2,(Zs g r x.1.2).map Occ),(rs,2,g.syms.map Sy)]) (fun x=>r.right.length+1-x.1.2) ⟨(r0,0),by simp⟩ (by simp[E2,Zs]) (by simp[subH,ZU,names,Zs, *]) ?_
 rintro ⟨⟨q,i⟩,hi⟩ hn
 dsimp only at hi hn ⊢
 have hnn:=hn
 (replace hnn:=hnn;simp only[VN] at hnn)
 rcases nL i (r.right.length+1) with hlt|hge
 ·((try refine qI ?_);(repeat ((first|with_reducible refine qU ?_ | simp only[Z8]);try simp (maxSteps:=9^7) +contextual only[↓ S2,S2,↓reduceIte,reduceNe,reduceEqDiff,reduceCtorEq,reduceLeDiff,reduceAdd,reduceLT,VQ,]));(try simp +contextual (disch:=omega) only[Z2,]);(with_reducible repeat' (first|intro h|refine And.intro (by omega) ?_ | refine exP (by omega) ?_ | apply And.intro)))
  all_goals try exact oF
  refine callS.eq (x11 X Y Z r i hr) ?_
  ((try refine qI ?_);(repeat ((first|with_reducible refine qU ?_ | simp only[Z8]);try simp (maxSteps:=9^7) +contextual only[↓ S2,S2,↓reduceIte,reduceNe,reduceEqDiff,reduceCtorEq,reduceLeDiff,reduceAdd,reduceLT,VQ,]));(try simp +contextual (disch:=omega) only[Z2,]);(with_reducible repeat' (first|intro h|refine And.intro (by omega) ?_ | refine exP (by omega) ?_ | apply And.intro)))
  refine callS.eqR (y10 rs X Y Z g _ hg) (by simp only[Z9,hnn,if_true,if_false]) ?_
  have hbl:=reqA_len hg r i
  have hst:Zs g r (i+1)=Zs g r i++((((Zq g.syms (Zz r i)).atts.filter fun a=>decide (a.mode=if i=0 then 2 else 1)).map fun a=>((i:Int),a.name))):=rfl
  have hsm:=YB hg (Zz r i)
  unfold smSy at hsm
  generalize Zq g.syms (Zz r i)=s at *
  by_cases h0:i=0
  ·have hi1:((i:Int)=0)=True:=eq_true (by omega)
   rw[if_pos h0] at hst
   ((try refine qI ?_);(repeat ((first|with_reducible refine qU ?_ | simp only[Z8]);try simp (maxSteps:=9^7) +contextual only[↓ S2,S2,↓reduceIte,reduceNe,reduceEqDiff,reduceCtorEq,reduceLeDiff,reduceAdd,reduceLT,VQ,hi1,decide_true]));(try simp +contextual (disch:=omega) only[Z2,hi1,decide_true]);(with_reducible repeat' (first|intro h|refine And.intro (by omega) ?_ | refine exP (by omega) ?_ | apply And.intro)))
   obtain ⟨F,hF⟩:∃F:Nat→List Oc,∀k,F k=Zs g r i++(((s.atts.take k).filter fun a=>decide (a.mode=2)).map fun a=>((i:Int),a.name)):=⟨_,fun _ => rfl⟩
   have hF0:F 0=Zs g r i:=by rw[hF];simp
   have hFe:F s.atts.length=Zs g r (i+1):=by rw[hF,hst,List.take_length]
   have hFs:∀k (hk:k<s.atts.length),F (k+1)=F k++(if s.atts[k].mode = 2 then [((i:Int),s.atts[k].name)] else []):=fun k hk=>by
    rw[hF,hF,reqP_take (g:=g) (r:=r) (pos:=i) (m:=2) (by simp[h0]) s.atts hk,List.append_assoc]
   have hFl:∀k,(F k).length ≤ (Zs g r i).length + s.atts.length:=fun k=>by
    have h1:=List.length_filter_le (fun a:Att=>decide (a.mode=2)) (s.atts.take k)
    rw[List.length_take] at h1
    rw[hF,List.length_append,List.length_map];omega
   clear hF
   refine Y1 mxd (ι:={ x:Nat×Nat // x.2≤s.atts.length }) (fun x=>[(2,.rop 2 (GrO rs g X)),(3,.rop 6 (RuX r Y Z)),(5,.own x.1.1 2 0 (F x.1.2).length),(6,I i),(7,.rop 2 (Sy s)),(9,I 2),(10,I x.1.2)]) (fun x=>[(x.1.1,2,(F x.1.2).map Occ),(rs,2,g.syms.map Sy)]) (fun x=>s.atts.length-x.1.2) ⟨(q,0),by simp⟩ (by simp[E2,hF0]) (by simp[subH,ZU,names,hF0, *]) ?_
   rintro ⟨⟨q,k⟩,hk⟩ hn
   dsimp only at hk hn ⊢
   have hnn:=hn
   (replace hnn:=hnn;simp only[VN] at hnn)
   have hl1:=hFl k
   rcases nL k s.atts.length with hlt2|hge2
   ·have e:=hFs k hlt2
    rcases Decidable.em (s.atts[k].mode = 2) with hm|hm
    ·rw[if_pos hm] at e
     have el:(F (k+1)).length = (F k).length + 1:=by rw[e];simp
     ((try refine qI ?_);(repeat ((first|with_reducible refine qU ?_ | simp only[Z8]);try simp (maxSteps:=9^7) +contextual only[↓ S2,S2,↓reduceIte,reduceNe,reduceEqDiff,reduceCtorEq,reduceLeDiff,reduceAdd,reduceLT,VQ,hm,List.length_append,List.length_singleton,List.length_map,List.length_take,ZO]));(try simp +contextual (disch:=omega) only[Z2,hm,List.length_append,List.length_singleton,List.length_map,List.length_take,ZO]);(with_reducible repeat' (first|intro h|refine And.intro (by omega) ?_ | refine exP (by omega) ?_ | apply And.intro)))
     all_goals try exact oF
     rename_i q2 _ q3
     refine px ⟨(q3,k+1),by omega⟩ (by simp<;>omega) (by simp[E2,el]) ?_
     show subH _ [(q3,2,(F (k+1)).map Occ),(rs,2,g.syms.map Sy)]
     rw[e,List.map_append,tL (by simp)]
     exact (by repeat' (first|exact trivial|(refine And.intro (by simp only[Z9, *,if_true,if_false];try rfl) (And.intro (by simp[ZT,ZS, *]) ?_))))
    ·rw[if_neg hm,List.append_nil] at e
     ((try refine qI ?_);(repeat ((first|with_reducible refine qU ?_ | simp only[Z8]);try simp (maxSteps:=9^7) +contextual only[↓ S2,S2,↓reduceIte,reduceNe,reduceEqDiff,reduceCtorEq,reduceLeDiff,reduceAdd,reduceLT,VQ,hm]));(try simp +contextual (disch:=omega) only[Z2,hm]);(with_reducible repeat' (first|intro h|refine And.intro (by omega) ?_ | refine exP (by omega) ?_ | apply And.intro)))
     all_goals try exact oF
     refine px ⟨(q,k+1),by omega⟩ (by simp<;>omega) (by simp[E2,e]) ?_
     show subH _ [(q,2,(F (k+1)).map Occ),(rs,2,g.syms.map Sy)]
     rw[e]
     exact (by repeat' (first|exact trivial|(refine And.intro (by simp only[Z9, *,if_true,if_false];try rfl) (And.intro (by simp[ZT,ZS, *]) ?_))))
   ·obtain rfl:k=s.atts.length:=by omega
    rw[hFe]
    ((try refine qI ?_);(repeat ((first|with_reducible refine qU ?_ | simp only[Z8]);try simp (maxSteps:=9^7) +contextual only[↓ S2,S2,↓reduceIte,reduceNe,reduceEqDiff,reduceCtorEq,reduceLeDiff,reduceAdd,reduceLT,VQ,]));(try simp +contextual (disch:=omega) only[Z2,]);(with_reducible repeat' (first|intro h|refine And.intro (by omega) ?_ | refine exP (by omega) ?_ | apply And.intro)))
    all_goals try exact oF
    exact px ⟨(q,i+1),by omega⟩ (by simp<;>omega) (by simp[E2]) (by repeat' (first|exact trivial|(refine And.intro (by simp only[Z9, *,if_true,if_false];try rfl) (And.intro (by simp[ZT,ZS, *]) ?_))))
  ·have hi1:((i:Int)=0)=False:=eq_false (by omega)
   rw[if_neg h0] at hst
   ((try refine qI ?_);(repeat ((first|with_reducible refine qU ?_ | simp only[Z8]);try simp (maxSteps:=9^7) +contextual only[↓ S2,S2,↓reduceIte,reduceNe,reduceEqDiff,reduceCtorEq,reduceLeDiff,reduceAdd,reduceLT,VQ,hi1,decide_false]));(try simp +contextual (disch:=omega) only[Z2,hi1,decide_false]);(with_reducible repeat' (first|intro h|refine And.intro (by omega) ?_ | refine exP (by omega) ?_ | apply And.intro)))
   obtain ⟨F,hF⟩:∃F:Nat→List Oc,∀k,F k=Zs g r i++(((s.atts.take k).filter fun a=>decide (a.mode=1)).map fun a=>((i:Int),a.name)):=⟨_,fun _ => rfl⟩
   have hF0:F 0=Zs g r i:=by rw[hF];simp
   have hFe:F s.atts.length=Zs g r (i+1):=by rw[hF,hst,List.take_length]
   have hFs:∀k (hk:k<s.atts.length),F (k+1)=F k++(if s.atts[k].mode = 1 then [((i:Int),s.atts[k].name)] else []):=fun k hk=>by
    rw[hF,hF,reqP_take (g:=g) (r:=r) (pos:=i) (m:=1) (by simp[h0]) s.atts hk,List.append_assoc]
   have hFl:∀k,(F k).length ≤ (Zs g r i).length + s.atts.length:=fun k=>by
    have h1:=List.length_filter_le (fun a:Att=>decide (a.mode=1)) (s.atts.take k)
    rw[List.length_take] at h1
    rw[hF,List.length_append,List.length_map];omega
   clear hF
   refine Y1 mxd (ι:={ x:Nat×Nat // x.2≤s.atts.length }) (fun x=>[(2,.rop 2 (GrO rs g X)),(3,.rop 6 (RuX r Y Z)),(5,.own x.1.1 2 0 (F x.1.2).length),(6,I i),(7,.rop 2 (Sy s)),(9,I 1),(10,I x.1.2)]) (fun x=>[(x.1.1,2,(F x.1.2).map Occ),(rs,2,g.syms.map Sy)]) (fun x=>s.atts.length-x.1.2) ⟨(q,0),by simp⟩ (by simp[E2,hF0]) (by simp[subH,ZU,names,hF0, *]) ?_
   rintro ⟨⟨q,k⟩,hk⟩ hn
   dsimp only at hk hn ⊢
   have hnn:=hn
   (replace hnn:=hnn;simp only[VN] at hnn)
   have hl1:=hFl k
   rcases nL k s.atts.length with hlt2|hge2
   ·have e:=hFs k hlt2
    rcases Decidable.em (s.atts[k].mode = 1) with hm|hm
    ·rw[if_pos hm] at e
     have el:(F (k+1)).length = (F k).length + 1:=by rw[e];simp
     ((try refine qI ?_);(repeat ((first|with_reducible refine qU ?_ | simp only[Z8]);try simp (maxSteps:=9^7) +contextual only[↓ S2,S2,↓reduceIte,reduceNe,reduceEqDiff,reduceCtorEq,reduceLeDiff,reduceAdd,reduceLT,VQ,hm,List.length_append,List.length_singleton,List.length_map,List.length_take,ZO]));(try simp +contextual (disch:=omega) only[Z2,hm,List.length_append,List.length_singleton,List.length_map,List.length_take,ZO]);(with_reducible repeat' (first|intro h|refine And.intro (by omega) ?_ | refine exP (by omega) ?_ | apply And.intro)))
     all_goals try exact oF
     rename_i q2 _ q3
     refine px ⟨(q3,k+1),by omega⟩ (by simp<;>omega) (by simp[E2,el]) ?_
     show subH _ [(q3,2,(F (k+1)).map Occ),(rs,2,g.syms.map Sy)]
     rw[e,List.map_append,tL (by simp)]
     exact (by repeat' (first|exact trivial|(refine And.intro (by simp only[Z9, *,if_true,if_false];try rfl) (And.intro (by simp[ZT,ZS, *]) ?_))))
    ·rw[if_neg hm,List.append_nil] at e
     ((try refine qI ?_);(repeat ((first|with_reducible refine qU ?_ | simp only[Z8]);try simp (maxSteps:=9^7) +contextual only[↓ S2,S2,↓reduceIte,reduceNe,reduceEqDiff,reduceCtorEq,reduceLeDiff,reduceAdd,reduceLT,VQ,hm]));(try simp +contextual (disch:=omega) only[Z2,hm]);(with_reducible repeat' (first|intro h|refine And.intro (by omega) ?_ | refine exP (by omega) ?_ | apply And.intro)))
     all_goals try exact oF
     refine px ⟨(q,k+1),by omega⟩ (by simp<;>omega) (by simp[E2,e]) ?_
     show subH _ [(q,2,(F (k+1)).map Occ),(rs,2,g.syms.map Sy)]
     rw[e]
     exact (by repeat' (first|exact trivial|(refine And.intro (by simp only[Z9, *,if_true,if_false];try rfl) (And.intro (by simp[ZT,ZS, *]) ?_))))
   ·obtain rfl:k=s.atts.length:=by omega
    rw[hFe]
    ((try refine qI ?_);(repeat ((first|with_reducible refine qU ?_ | simp only[Z8]);try simp (maxSteps:=9^7) +contextual only[↓ S2,S2,↓reduceIte,reduceNe,reduceEqDiff,reduceCtorEq,reduceLeDiff,reduceAdd,reduceLT,VQ,]));(try simp +contextual (disch:=omega) only[Z2,]);(with_reducible repeat' (first|intro h|refine And.intro (by omega) ?_ | refine exP (by omega) ?_ | apply And.intro)))
    all_goals try exact oF
    exact px ⟨(q,i+1),by omega⟩ (by simp<;>omega) (by simp[E2]) (by repeat' (first|exact trivial|(refine And.intro (by simp only[Z9, *,if_true,if_false];try rfl) (And.intro (by simp[ZT,ZS, *]) ?_))))
 ·obtain rfl:i=r.right.length+1:=by omega
  ((try refine qI ?_);(repeat ((first|with_reducible refine qU ?_ | simp only[Z8]);try simp (maxSteps:=9^7) +contextual only[↓ S2,S2,↓reduceIte,reduceNe,reduceEqDiff,reduceCtorEq,reduceLeDiff,reduceAdd,reduceLT,VQ,]));(try simp +contextual (disch:=omega) only[Z2,]);(with_reducible repeat' (first|intro h|refine And.intro (by omega) ?_ | refine exP (by omega) ?_ | apply And.intro)))
  all_goals try exact oF
  exact ⟨[(q,2,_)],bor_OcS Z4 rfl,(by repeat' (first|exact trivial|(refine And.intro (by simp only[Z9, *,if_true,if_false];try rfl) (And.intro (by simp[ZT,ZS, *]) ?_))))⟩
end Go.Proofs.YtkmedfejmndmjaaGreat
