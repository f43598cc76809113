/- The tied card of the law holds. No condition. -/
import Derived.Test.YtmdfoigdflaliaaGreatDoorPtt13
import Derived.Test.YtmdfoigdflaliaaGreatDoorPtt14
import Derived.Test.YtmdfoigdflaliaaGreatDoorPtt15
set_option maxHeartbeats 40000000
set_option maxRecDepth 20000
set_option linter.unusedSimpArgs false
set_option linter.unusedVariables false
namespace Go.Proofs.YtmdfoigdflaliaaGreatDoor
open Go.Gh
open Nat (reduceEqDiff reduceLeDiff reduceAdd reduceLT)
open Int (reduceNe)
open Go.Lib
theorem e18 (g:Gram) (hg:smGr g) (f:Int) (hf0:0≤f) (hf1:f≤1000) (m:Nat) (ih:∀m',m'<m→∀(l:List UInt8) (ns:List Nod) (q rp:Nat) (p pl:Int) (H:GH),l.length≤m'→l.length≤1048576→asc l→ns.length≤16→(∀x∈Tryz.tb,x∈H)→Gc 18 [.ptr rp 5 0 0,I p,I pl] ((q,6,ns.map NdO)::(rp,5,[RdG (SyS g.syms) (RuS g.rules) l f (.own q 6 0 ns.length)])::H) (ndR g f l ns p pl rp H)):∀(l:List UInt8) (ns:List Nod) (q rp:Nat) (p pl:Int) (H:GH),l.length≤m→l.length≤1048576→asc l→ns.length≤16→(∀x∈Tryz.tb,x∈H)→Gc 18 [.ptr rp 5 0 0,I p,I pl] ((q,6,ns.map NdO)::(rp,5,[RdG (SyS g.syms) (RuS g.rules) l f (.own q 6 0 ns.length)])::H) (ndR g f l ns p pl rp H):=by
 intro l ns q rp p pl H hm hl ha hns hT
 refine GCalls.nd fun hn0=> ?_
 have h7:=Z0 hn0
 (replace h7:=h7;simp only[VN] at h7)
 have hfin:Y8 g niN f l ns.length=none→∀X z,ndR g f l ns p pl rp H (B false) (X++(rp,5,z)::H):=fun h X z=> .inl ⟨h,rfl,X,z,rfl⟩
 by_cases h16:ns.length=16
 ·have e0:((ns.length:Int)=16)=True:=eq_true (by omega)
  have hno:Y8 g niN f l ns.length=none:=by rw[h16];exact oneI_16 l
  refine ZN mxd i18 rfl (by simp) ?_;simp (maxSteps:=9^7) only[↓ S2,S2,ZT,↓reduceIte,reduceNe,reduceEqDiff,reduceCtorEq,reduceLeDiff,reduceAdd,reduceLT]
  ((try refine qI ?_);(repeat ((first|with_reducible refine qU ?_ | simp only[Z5]);try simp (maxSteps:=9^7) +contextual only[↓ S2,S2,↓reduceIte,reduceNe,reduceEqDiff,reduceCtorEq,reduceLeDiff,reduceAdd,reduceLT,VQ,h7,e0]));(try simp +contextual (disch:=omega) only[Z2,h7,e0]);(with_reducible repeat' (first|intro h|refine And.intro (by omega) ?_ | refine exP (by omega) ?_ | apply And.intro)))
  exact hfin hno [_] _
 have e0:((ns.length:Int)=16)=False:=eq_false (by omega)
 have hsk:=o38 (a:=SyS g.syms) (b:=RuS g.rules) (X:= .own q 6 0 ns.length) (l:=l) (f:=f) 40 (rp:=rp) (H:=(q,6,ns.map NdO)::(rp,5,[RdG (SyS g.syms) (RuS g.rules) l f (.own q 6 0 ns.length)])::H) (by simp only[Z9,h7,if_true,if_false])
 simp only[Z8,h7,if_true,if_false] at hsk
 rcases skp_cases 40 l with ⟨l0,rfl,hs⟩|⟨hs0,hs⟩
 case inr=>
  rw[hs] at hsk
  refine ZN mxd i18 rfl (by simp) ?_;simp (maxSteps:=9^7) only[↓ S2,S2,ZT,↓reduceIte,reduceNe,reduceEqDiff,reduceCtorEq,reduceLeDiff,reduceAdd,reduceLT]
  ((try refine qI ?_);(repeat ((first|with_reducible refine qU ?_ | simp only[Z5]);try simp (maxSteps:=9^7) +contextual only[↓ S2,S2,↓reduceIte,reduceNe,reduceEqDiff,reduceCtorEq,reduceLeDiff,reduceAdd,reduceLT,VQ,h7,e0]));(try simp +contextual (disch:=omega) only[Z2,h7,e0]);(with_reducible repeat' (first|intro h|refine And.intro (by omega) ?_ | refine exP (by omega) ?_ | apply And.intro)))
  refine callS.of hsk ?_
  rintro _ _ ⟨rfl,rfl⟩ -
  ((try refine qI ?_);(repeat ((first|with_reducible refine qU ?_ | simp only[Z5]);try simp (maxSteps:=9^7) +contextual only[↓ S2,S2,↓reduceIte,reduceNe,reduceEqDiff,reduceCtorEq,reduceLeDiff,reduceAdd,reduceLT,VQ,h7]));(try simp +contextual (disch:=omega) only[Z2,h7]);(with_reducible repeat' (first|intro h|refine And.intro (by omega) ?_ | refine exP (by omega) ?_ | apply And.intro)))
  exact hfin (oneI_no hs0) [_] _
 rw[hs] at hsk
 dsimp only at hsk
 simp only[List.length_cons] at hm hl
 obtain ⟨m,rfl⟩:∃m',m=m'+1:=⟨m-1,by omega⟩
 have hwd:=o39 (a:=SyS g.syms) (b:=RuS g.rules) (X:= .own q 6 0 ns.length) (l:=l0) (f:=f) (by omega) ha.tl (rp:=rp) (H:=(q,6,ns.map NdO)::(rp,5,[RdG (SyS g.syms) (RuS g.rules) l0 f (.own q 6 0 ns.length)])::H) (by simp only[Z9,h7,if_true,if_false])
 simp only[Z8,h7,if_true,if_false] at hwd
 have hbad:=fun h=>oneI_bad (g:=g) (ni:=niN) (first:=f) (l:=l0) (i:=ns.length) h
 have hlit0:=fun h=>oneI_lit (g:=g) (ni:=niN) (first:=f) (l:=l0) (i:=ns.length) h
 have hknone:=fun v=>oneI_knone (g:=g) (ni:=niN) (first:=f) (l:=l0) (i:=ns.length) (v:=v) h16
 have hend:=fun v ks l2=>oneI_end (g:=g) (ni:=niN) (first:=f) (l:=l0) (i:=ns.length) (v:=v) (ks:=ks) (l2:=l2) h16
 have hwl:(l0.takeWhile inW).length ≤ l0.length:=(List.takeWhile_sublist inW).length_le
 have hl1:=tw_len (p:=inW) l0
 have ha1:asc (l0.dropWhile inW):=ha.tl.dw
 have hfr:=w36 g (bA (l0.takeWhile inW)) hg
 have hvn:=w40 (bA (l0.takeWhile inW)) (bA_sz (by omega))
 have hrl:(ZH g.rules (bA (l0.takeWhile inW))).right.length ≤ 1048576:=by
  rcases fRul_mem g.rules (bA (l0.takeWhile inW)) with h|h
  ·exact (hg.2.2.2 _ h).1
  ·rw[h];decide
 generalize hW:bA (l0.takeWhile inW)=W at *
 generalize l0.dropWhile inW=l1 at *
 generalize hR:ZH g.rules W=R at *
 generalize Y6 g.rules W=hr at *
 generalize ZA W=vn at *
 refine gstartG i18 rfl (by simp) ?_
 refine Zn mxd ?_
 ((try refine qI ?_);(repeat ((first|with_reducible refine qU ?_ | simp only[Z5]);try simp (maxSteps:=9^7) +contextual only[↓ S2,S2,↓reduceIte,reduceNe,reduceEqDiff,reduceCtorEq,reduceLeDiff,reduceAdd,reduceLT,VQ,]));(try simp +contextual (disch:=omega) only[Z2,]);(with_reducible repeat' (first|intro h|refine And.intro (by omega) ?_ | refine exP (by omega) ?_ | apply And.intro)))
 refine Zn mxd ?_
 ((try refine qI ?_);(repeat ((first|with_reducible refine qU ?_ | simp only[Z5]);try simp (maxSteps:=9^7) +contextual only[↓ S2,S2,↓reduceIte,reduceNe,reduceEqDiff,reduceCtorEq,reduceLeDiff,reduceAdd,reduceLT,VQ,h7]));(try simp +contextual (disch:=omega) only[Z2,h7]);(with_reducible repeat' (first|intro h|refine And.intro (by omega) ?_ | refine exP (by omega) ?_ | apply And.intro)))
 refine Zn mxd ?_
 ((try refine qI ?_);(repeat ((first|with_reducible refine qU ?_ | simp only[Z5]);try simp (maxSteps:=9^7) +contextual only[↓ S2,S2,↓reduceIte,reduceNe,reduceEqDiff,reduceCtorEq,reduceLeDiff,reduceAdd,reduceLT,VQ,h7,e0]));(try simp +contextual (disch:=omega) only[Z2,h7,e0]);(with_reducible repeat' (first|intro h|refine And.intro (by omega) ?_ | refine exP (by omega) ?_ | apply And.intro)))
 refine callS.of hsk ?_
 rintro _ _ ⟨rfl,rfl⟩ -
 ((try refine qI ?_);(repeat ((first|with_reducible refine qU ?_ | simp only[Z5]);try simp (maxSteps:=9^7) +contextual only[↓ S2,S2,↓reduceIte,reduceNe,reduceEqDiff,reduceCtorEq,reduceLeDiff,reduceAdd,reduceLT,VQ,h7]));(try simp +contextual (disch:=omega) only[Z2,h7]);(with_reducible repeat' (first|intro h|refine And.intro (by omega) ?_ | refine exP (by omega) ?_ | apply And.intro)))
 refine Zn mxd ?_
 ((try refine qI ?_);(repeat ((first|with_reducible refine qU ?_ | simp only[Z5]);try simp (maxSteps:=9^7) +contextual only[↓ S2,S2,↓reduceIte,reduceNe,reduceEqDiff,reduceCtorEq,reduceLeDiff,reduceAdd,reduceLT,VQ,h7]));(try simp +contextual (disch:=omega) only[Z2,h7]);(with_reducible repeat' (first|intro h|refine And.intro (by omega) ?_ | refine exP (by omega) ?_ | apply And.intro)))
 refine callF.of hwd ?_
 rintro _ _ ⟨rfl,rfl⟩ -
 refine ⟨kpt_rd (a:=SyS g.syms) (b:=RuS g.rules) (l:=l0) (l':=l1) (f:=f) (X:= .own q 6 0 ns.length) (by simp only[Z9,h7,if_true,if_false]) (by simp only[Z9,h7,if_true,if_false]),?_⟩
 ((try refine qI ?_);(repeat ((first|with_reducible refine qU ?_ | simp only[Z5]);try simp (maxSteps:=9^7) +contextual only[↓ S2,S2,↓reduceIte,reduceNe,reduceEqDiff,reduceCtorEq,reduceLeDiff,reduceAdd,reduceLT,VQ,h7]));(try simp +contextual (disch:=omega) only[Z2,h7]);(with_reducible repeat' (first|intro h|refine And.intro (by omega) ?_ | refine exP (by omega) ?_ | apply And.intro)))
 all_goals try exact oF
 rename_i r8
 have h8:=h
 clear h hwd hsk
 refine Zn mxd ?_
 ((try refine qI ?_);(repeat ((first|with_reducible refine qU ?_ | simp only[Z5]);try simp (maxSteps:=9^7) +contextual only[↓ S2,S2,↓reduceIte,reduceNe,reduceEqDiff,reduceCtorEq,reduceLeDiff,reduceAdd,reduceLT,VQ,h7,h8]));(try simp +contextual (disch:=omega) only[Z2,h7,h8]);(with_reducible repeat' (first|intro h|refine And.intro (by omega) ?_ | refine exP (by omega) ?_ | apply And.intro)))
 refine callS.eq hfr ?_
 ((try refine qI ?_);(repeat ((first|with_reducible refine qU ?_ | simp only[Z5]);try simp (maxSteps:=9^7) +contextual only[↓ S2,S2,↓reduceIte,reduceNe,reduceEqDiff,reduceCtorEq,reduceLeDiff,reduceAdd,reduceLT,VQ,h7,h8]));(try simp +contextual (disch:=omega) only[Z2,h7,h8]);(with_reducible repeat' (first|intro h|refine And.intro (by omega) ?_ | refine exP (by omega) ?_ | apply And.intro)))
 refine Zn mxd ?_
 cases hr with
 | false=>
  ((try refine qI ?_);(repeat ((first|with_reducible refine qU ?_ | simp only[Z5]);try simp (maxSteps:=9^7) +contextual only[↓ S2,S2,↓reduceIte,reduceNe,reduceEqDiff,reduceCtorEq,reduceLeDiff,reduceAdd,reduceLT,VQ,h7,h8]));(try simp +contextual (disch:=omega) only[Z2,h7,h8]);(with_reducible repeat' (first|intro h|refine And.intro (by omega) ?_ | refine exP (by omega) ?_ | apply And.intro)))
  exact .inl ⟨hbad (by simp),rfl,[_,_],_,rfl⟩
 | true=>
  ((try refine qI ?_);(repeat ((first|with_reducible refine qU ?_ | simp only[Z5]);try simp (maxSteps:=9^7) +contextual only[↓ S2,S2,↓reduceIte,reduceNe,reduceEqDiff,reduceCtorEq,reduceLeDiff,reduceAdd,reduceLT,VQ,h7,h8]));(try simp +contextual (disch:=omega) only[Z2,h7,h8]);(with_reducible repeat' (first|intro h|refine And.intro (by omega) ?_ | refine exP (by omega) ?_ | apply And.intro)))
  refine callS.eq hvn ?_
  cases vn with
  | false=>
   ((try refine qI ?_);(repeat ((first|with_reducible refine qU ?_ | simp only[Z5]);try simp (maxSteps:=9^7) +contextual only[↓ S2,S2,↓reduceIte,reduceNe,reduceEqDiff,reduceCtorEq,reduceLeDiff,reduceAdd,reduceLT,VQ,h7,h8]));(try simp +contextual (disch:=omega) only[Z2,h7,h8]);(with_reducible repeat' (first|intro h|refine And.intro (by omega) ?_ | refine exP (by omega) ?_ | apply And.intro)))
   exact .inl ⟨hbad (by simp),rfl,[_,_],_,rfl⟩
  | true=>
   ((try refine qI ?_);(repeat ((first|with_reducible refine qU ?_ | simp only[Z5]);try simp (maxSteps:=9^7) +contextual only[↓ S2,S2,↓reduceIte,reduceNe,reduceEqDiff,reduceCtorEq,reduceLeDiff,reduceAdd,reduceLT,VQ,h7,h8]));(try simp +contextual (disch:=omega) only[Z2,h7,h8]);(with_reducible repeat' (first|intro h|refine And.intro (by omega) ?_ | refine exP (by omega) ?_ | apply And.intro)))
   have hlit0:=hlit0
   have hknone:=fun v h hk=>hknone v rfl rfl h hk
   have hend:=fun v ks l2 h hk=>hend v ks l2 rfl rfl h hk
   clear hbad hfr hvn
   refine GW.cut mxd (fun env' H'=>∃(ok:Bool) (lt:Int) (l2:List UInt8),asc l2∧l2.length≤l0.length∧(ok=true→YO niN R.lit l1=some (lt,l2))∧(ok=false→Y8 g niN f (40::l0) ns.length=none)∧subE env' [(0,.ptr rp 5 0 0),(7,I ns.length),(8,.ptr r8 6 0 0),(9,.rop 6 (Ru R)),(10,B ok)]∧H'=(r8,6,[.agg [I (f+(ns.length:Int)),I p,I pl,I lt,T W,ZE]])::(q,6,ns.map NdO)::(rp,5,[RdG (SyS g.syms) (RuS g.rules) l2 f (.own q 6 0 ns.length)])::H) ?_ ?_
   ·cases hlt:R.lit with
    | false=>
     ((try refine qI ?_);(repeat ((first|with_reducible refine qU ?_ | simp only[Z5]);try simp (maxSteps:=9^7) +contextual only[↓ S2,S2,↓reduceIte,reduceNe,reduceEqDiff,reduceCtorEq,reduceLeDiff,reduceAdd,reduceLT,VQ,h7,h8,hlt]));(try simp +contextual (disch:=omega) only[Z2,h7,h8,hlt]);(with_reducible repeat' (first|intro h|refine And.intro (by omega) ?_ | refine exP (by omega) ?_ | apply And.intro)))
     exact ⟨true,0,l1,ha1,by omega,fun _ => rdLit_f l1,(fun h=>by cases h),by simp[E2,hlt],rfl⟩
    | true=>
     have hsk2:=o38 (a:=SyS g.syms) (b:=RuS g.rules) (X:= .own q 6 0 ns.length) (l:=l1) (f:=f) 32 (rp:=rp) (H:=(r8,6,[.agg [I (f+(ns.length:Int)),I p,I pl,I 0,T W,ZE]])::(q,6,ns.map NdO)::(rp,5,[RdG (SyS g.syms) (RuS g.rules) l1 f (.own q 6 0 ns.length)])::H) (by simp only[Z9,h7,h8,if_true,if_false])
     simp only[Z8,h7,h8,if_true,if_false] at hsk2
     rcases skp_cases 32 l1 with ⟨l2,hl2e,hs2⟩|⟨hs0,hs2⟩
     ·rw[hs2] at hsk2
      dsimp only at hsk2
      rw[hl2e] at ha1 hl1
      simp only[List.length_cons] at hl1
      have hw2:=o39 (a:=SyS g.syms) (b:=RuS g.rules) (X:= .own q 6 0 ns.length) (l:=l2) (f:=f) (by omega) ha1.tl (rp:=rp) (H:=(r8,6,[.agg [I (f+(ns.length:Int)),I p,I pl,I 0,T W,ZE]])::(q,6,ns.map NdO)::(rp,5,[RdG (SyS g.syms) (RuS g.rules) l2 f (.own q 6 0 ns.length)])::H) (by simp only[Z9,h7,h8,if_true,if_false])
      simp only[Z8,h7,h8,if_true,if_false] at hw2
      have hwl2:(l2.takeWhile inW).length ≤ l2.length:=(List.takeWhile_sublist inW).length_le
      have hdl2:=tw_len (p:=inW) l2
      have hpi:=p41 (l2.takeWhile inW) (by omega)
      ((try refine qI ?_);(repeat ((first|with_reducible refine qU ?_ | simp only[Z5]);try simp (maxSteps:=9^7) +contextual only[↓ S2,S2,↓reduceIte,reduceNe,reduceEqDiff,reduceCtorEq,reduceLeDiff,reduceAdd,reduceLT,VQ,h7,h8,hlt]));(try simp +contextual (disch:=omega) only[Z2,h7,h8,hlt]);(with_reducible repeat' (first|intro h|refine And.intro (by omega) ?_ | refine exP (by omega) ?_ | apply And.intro)))
      refine callS.of hsk2 ?_
      rintro _ _ ⟨rfl,rfl⟩ -
      ((try refine qI ?_);(repeat ((first|with_reducible refine qU ?_ | simp only[Z5]);try simp (maxSteps:=9^7) +contextual only[↓ S2,S2,↓reduceIte,reduceNe,reduceEqDiff,reduceCtorEq,reduceLeDiff,reduceAdd,reduceLT,VQ,h7,h8]));(try simp +contextual (disch:=omega) only[Z2,h7,h8]);(with_reducible repeat' (first|intro h|refine And.intro (by omega) ?_ | refine exP (by omega) ?_ | apply And.intro)))
      refine callS.of hw2 ?_
      rintro _ _ ⟨rfl,rfl⟩ -
      ((try refine qI ?_);(repeat ((first|with_reducible refine qU ?_ | simp only[Z5]);try simp (maxSteps:=9^7) +contextual only[↓ S2,S2,↓reduceIte,reduceNe,reduceEqDiff,reduceCtorEq,reduceLeDiff,reduceAdd,reduceLT,VQ,h7,h8]));(try simp +contextual (disch:=omega) only[Z2,h7,h8]);(with_reducible repeat' (first|intro h|refine And.intro (by omega) ?_ | refine exP (by omega) ?_ | apply And.intro)))
      refine callS.eqT hpi Tryz.tbH (fun x h=>List.mem_cons_of_mem _ (List.mem_cons_of_mem _ (List.mem_cons_of_mem _ (hT x h)))) ?_
      ((try refine qI ?_);(repeat ((first|with_reducible refine qU ?_ | simp only[Z5]);try simp (maxSteps:=9^7) +contextual only[↓ S2,S2,↓reduceIte,reduceNe,reduceEqDiff,reduceCtorEq,reduceLeDiff,reduceAdd,reduceLT,VQ,h7,h8]));(try simp +contextual (disch:=omega) only[Z2,h7,h8]);(with_reducible repeat' (first|intro h|refine And.intro (by omega) ?_ | refine exP (by omega) ?_ | apply And.intro)))
      exact ⟨true,(niN (l2.takeWhile inW)).1,l2.dropWhile inW,ha1.tl.dw,by omega,fun _ => by rw[hl2e];exact rdLit_t l2,(fun h=>by cases h),by simp[E2,hlt],rfl⟩
     ·rw[hs2] at hsk2
      dsimp only at hsk2
      have hw2:=o39 (a:=SyS g.syms) (b:=RuS g.rules) (X:= .own q 6 0 ns.length) (l:=l1) (f:=f) (by omega) ha1 (rp:=rp) (H:=(r8,6,[.agg [I (f+(ns.length:Int)),I p,I pl,I 0,T W,ZE]])::(q,6,ns.map NdO)::(rp,5,[RdG (SyS g.syms) (RuS g.rules) l1 f (.own q 6 0 ns.length)])::H) (by simp only[Z9,h7,h8,if_true,if_false])
      simp only[Z8,h7,h8,if_true,if_false] at hw2
      have hwl2:(l1.takeWhile inW).length ≤ l1.length:=(List.takeWhile_sublist inW).length_le
      have hdl2:=tw_len (p:=inW) l1
      have hpi:=p41 (l1.takeWhile inW) (by omega)
      have hno:=hlit0 (by rw[hlt];exact rdLit_n hs0)
      ((try refine qI ?_);(repeat ((first|with_reducible refine qU ?_ | simp only[Z5]);try simp (maxSteps:=9^7) +contextual only[↓ S2,S2,↓reduceIte,reduceNe,reduceEqDiff,reduceCtorEq,reduceLeDiff,reduceAdd,reduceLT,VQ,h7,h8,hlt]));(try simp +contextual (disch:=omega) only[Z2,h7,h8,hlt]);(with_reducible repeat' (first|intro h|refine And.intro (by omega) ?_ | refine exP (by omega) ?_ | apply And.intro)))
      refine callS.of hsk2 ?_
      rintro _ _ ⟨rfl,rfl⟩ -
      ((try refine qI ?_);(repeat ((first|with_reducible refine qU ?_ | simp only[Z5]);try simp (maxSteps:=9^7) +contextual only[↓ S2,S2,↓reduceIte,reduceNe,reduceEqDiff,reduceCtorEq,reduceLeDiff,reduceAdd,reduceLT,VQ,h7,h8]));(try simp +contextual (disch:=omega) only[Z2,h7,h8]);(with_reducible repeat' (first|intro h|refine And.intro (by omega) ?_ | refine exP (by omega) ?_ | apply And.intro)))
      refine callS.of hw2 ?_
      rintro _ _ ⟨rfl,rfl⟩ -
      ((try refine qI ?_);(repeat ((first|with_reducible refine qU ?_ | simp only[Z5]);try simp (maxSteps:=9^7) +contextual only[↓ S2,S2,↓reduceIte,reduceNe,reduceEqDiff,reduceCtorEq,reduceLeDiff,reduceAdd,reduceLT,VQ,h7,h8]));(try simp +contextual (disch:=omega) only[Z2,h7,h8]);(with_reducible repeat' (first|intro h|refine And.intro (by omega) ?_ | refine exP (by omega) ?_ | apply And.intro)))
      refine callS.eqT hpi Tryz.tbH (fun x h=>List.mem_cons_of_mem _ (List.mem_cons_of_mem _ (List.mem_cons_of_mem _ (hT x h)))) ?_
      ((try refine qI ?_);(repeat ((first|with_reducible refine qU ?_ | simp only[Z5]);try simp (maxSteps:=9^7) +contextual only[↓ S2,S2,↓reduceIte,reduceNe,reduceEqDiff,reduceCtorEq,reduceLeDiff,reduceAdd,reduceLT,VQ,h7,h8]));(try simp +contextual (disch:=omega) only[Z2,h7,h8]);(with_reducible repeat' (first|intro h|refine And.intro (by omega) ?_ | refine exP (by omega) ?_ | apply And.intro)))
      exact ⟨false,(niN (l1.takeWhile inW)).1,l1.dropWhile inW,ha1.dw,by omega,(fun h=>by cases h),fun _ => hno,by simp[E2,hlt],rfl⟩
   ·rintro env1 _ ⟨ok0,lt,l2,ha2,hl2,hok1,hok2,he1,rfl⟩
    refine GW.ent (FE.of he1) ?_
    clear he1 hlit0
    refine Zn mxd ?_
    ((try refine qI ?_);(repeat ((first|with_reducible refine qU ?_ | simp only[Z5]);try simp (maxSteps:=9^7) +contextual only[↓ S2,S2,↓reduceIte,reduceNe,reduceEqDiff,reduceCtorEq,reduceLeDiff,reduceAdd,reduceLT,VQ,h7,h8,List.length_append,List.length_singleton,List.length_map,ZM]));(try simp +contextual (disch:=omega) only[Z2,h7,h8,List.length_append,List.length_singleton,List.length_map,ZM]);(with_reducible repeat' (first|intro h|refine And.intro (by omega) ?_ | refine exP (by omega) ?_ | apply And.intro)))
    all_goals try exact oF
    rename_i r1 _ r2
    have h9:=h
    refine GW.cut mxd (fun env' H'=>∃(ok:Bool) (G:Fo) (lj:List UInt8) (q':Nat),asc lj∧(ok=true→kidI g niN f R.right.length l2 (ns.length+1)=some (G,lj)∧ok0=true)∧(ok=false→Y8 g niN f (40::l0) ns.length=none)∧neH ((q',6,[])::(rp,5,[])::H)∧subE env' [(0,.ptr rp 5 0 0),(10,B ok)]∧H'=(q',6,(ns++ndK ⟨f+(ns.length:Int),p,pl,lt,W,[]⟩ G ns.length).map NdO)::(rp,5,[RdG (SyS g.syms) (RuS g.rules) lj f (.own q' 6 0 (ns.length+1+G.sz))])::H) ?_ ?_
    ·((try refine qI ?_);(repeat ((first|with_reducible refine qU ?_ | simp only[Z5]);try simp (maxSteps:=9^7) +contextual only[↓ S2,S2,↓reduceIte,reduceNe,reduceEqDiff,reduceCtorEq,reduceLeDiff,reduceAdd,reduceLT,VQ,h7,h8,h9]));(try simp +contextual (disch:=omega) only[Z2,h7,h8,h9]);(with_reducible repeat' (first|intro h|refine And.intro (by omega) ?_ | refine exP (by omega) ?_ | apply And.intro)))
     refine Zd mxd (ι:={ x:(Nat×Fo)×(Nat×List UInt8×Bool) // x.1.2.cnt=x.2.1∧x.2.1≤R.right.length∧asc x.2.2.1∧x.2.2.1.length≤l0.length∧ns.length+1+x.1.2.sz≤16∧(x.2.2.2=true→kidP g niN f R.right.length l2 (ns.length+1) x.1.2 x.2.1 x.2.2.1∧ok0=true)∧(x.2.2.2=false→Y8 g niN f (40::l0) ns.length=none) }) (fun x=>[(0,.ptr rp 5 0 0),(7,I ns.length),(10,B x.1.2.2.2),(79,I R.right.length),(80,I x.1.2.1)]) (fun x=>(x.1.1.1,6,(ns++ndK ⟨f+(ns.length:Int),p,pl,lt,W,[]⟩ x.1.1.2 ns.length).map NdO)::(rp,5,[RdG (SyS g.syms) (RuS g.rules) x.1.2.2.1 f (.own x.1.1.1 6 0 (ns.length+1+x.1.1.2.sz))])::H) (fun x=>R.right.length-x.1.2.1) ⟨((r2,.nil),(0,l2,ok0)),rfl,Nat.zero_le _,ha2,hl2,by show ns.length+1+0≤16;omega,fun h=>⟨kidP_0 _ _ _ _ _ _,h⟩,hok2⟩ (FE.trans (FE.perm (H:=[_,_,_,_]) (L:=[(r2,_),(rp,_)]) (by repeat' (first|exact trivial|(refine And.intro (by simp only[Z9, *,if_true,if_false];try rfl) (And.intro (by simp[ZR,ZP, *]) ?_))))) FE.nilK) (by simp[E2]) (by simp[ndK_nil,List.take_of_length_le,Fo.sz]) ?_
     clear h7 h8 h9 h
     rintro ⟨⟨⟨q',G⟩,j,lj,ok⟩,hc,hj,haj,hlj,hsz,hk1,hk2⟩ hn
     dsimp only at hc hj haj hlj hsz hk1 hk2 hn ⊢
     have h70:=Z0 hn
     have h7:=h70
     (replace h7:=h7;simp only[VN] at h7)
     rcases nL j R.right.length with hlt|hge
     ·have e1:((j:Int)<R.right.length)=True:=eq_true (by omega)
      refine Zn mxd ?_
      ((try refine qI ?_);(repeat ((first|with_reducible refine qU ?_ | simp only[Z5]);try simp (maxSteps:=9^7) +contextual only[↓ S2,S2,↓reduceIte,reduceNe,reduceEqDiff,reduceCtorEq,reduceLeDiff,reduceAdd,reduceLT,VQ,e1]));(try simp +contextual (disch:=omega) only[Z2,e1]);(with_reducible repeat' (first|intro h|refine And.intro (by omega) ?_ | refine exP (by omega) ?_ | apply And.intro)))
      refine Zn mxd ?_
      ((try refine qI ?_);(repeat ((first|with_reducible refine qU ?_ | simp only[Z5]);try simp (maxSteps:=9^7) +contextual only[↓ S2,S2,↓reduceIte,reduceNe,reduceEqDiff,reduceCtorEq,reduceLeDiff,reduceAdd,reduceLT,VQ,e1]));(try simp +contextual (disch:=omega) only[Z2,e1]);(with_reducible repeat' (first|intro h|refine And.intro (by omega) ?_ | refine exP (by omega) ?_ | apply And.intro)))
      refine GW.seq (GW.block ?_)
      refine Zn mxd ?_
      ((try refine qI ?_);(repeat ((first|with_reducible refine qU ?_ | simp only[Z5]);try simp (maxSteps:=9^7) +contextual only[↓ S2,S2,↓reduceIte,reduceNe,reduceEqDiff,reduceCtorEq,reduceLeDiff,reduceAdd,reduceLT,VQ,]));(try simp +contextual (disch:=omega) only[Z2,]);(with_reducible repeat' (first|intro h|refine And.intro (by omega) ?_ | refine exP (by omega) ?_ | apply And.intro)))
      refine GW.cut mxd (fun env' H'=>∃(ok2:Bool) (lk:List UInt8),asc lk∧(ok2=true→lj=32::lk∧ok=true)∧(ok2=false→Y8 g niN f (40::l0) ns.length=none)∧subE env' [(0,.ptr rp 5 0 0),(7,I ns.length),(10,B ok2),(11,I j),(79,I R.right.length),(80,I j)]∧H'=(q',6,(ns++ndK ⟨f+(ns.length:Int),p,pl,lt,W,[]⟩ G ns.length).map NdO)::(rp,5,[RdG (SyS g.syms) (RuS g.rules) lk f (.own q' 6 0 (ns.length+1+G.sz))])::H) ?_ ?_
      ·cases ok with
       | false=>
        ((try refine qI ?_);(repeat ((first|with_reducible refine qU ?_ | simp only[Z5]);try simp (maxSteps:=9^7) +contextual only[↓ S2,S2,↓reduceIte,reduceNe,reduceEqDiff,reduceCtorEq,reduceLeDiff,reduceAdd,reduceLT,VQ,h7]));(try simp +contextual (disch:=omega) only[Z2,h7]);(with_reducible repeat' (first|intro h|refine And.intro (by omega) ?_ | refine exP (by omega) ?_ | apply And.intro)))
        exact ⟨false,lj,haj,(fun h=>by cases h),fun _ => hk2 rfl,(by simp[E2]),rfl⟩
       | true=>
        have hsk4:=o38 (a:=SyS g.syms) (b:=RuS g.rules) (X:= .own q' 6 0 (ns.length+1+G.sz)) (l:=lj) (f:=f) 32 (rp:=rp) (H:=(q',6,(ns++ndK ⟨f+(ns.length:Int),p,pl,lt,W,[]⟩ G ns.length).map NdO)::(rp,5,[RdG (SyS g.syms) (RuS g.rules) lj f (.own q' 6 0 (ns.length+1+G.sz))])::H) (by simp only[Z9,h7,if_true,if_false])
        simp only[Z8,h7,if_true,if_false] at hsk4
        rcases skp_cases 32 lj with ⟨lk,hlk,hs2⟩|⟨hs0,hs2⟩
        ·rw[hs2] at hsk4
         rw[hlk] at haj
         ((try refine qI ?_);(repeat ((first|with_reducible refine qU ?_ | simp only[Z5]);try simp (maxSteps:=9^7) +contextual only[↓ S2,S2,↓reduceIte,reduceNe,reduceEqDiff,reduceCtorEq,reduceLeDiff,reduceAdd,reduceLT,VQ,h7]));(try simp +contextual (disch:=omega) only[Z2,h7]);(with_reducible repeat' (first|intro h|refine And.intro (by omega) ?_ | refine exP (by omega) ?_ | apply And.intro)))
         refine callS.of hsk4 ?_
         rintro _ _ ⟨rfl,rfl⟩ -
         ((try refine qI ?_);(repeat ((first|with_reducible refine qU ?_ | simp only[Z5]);try simp (maxSteps:=9^7) +contextual only[↓ S2,S2,↓reduceIte,reduceNe,reduceEqDiff,reduceCtorEq,reduceLeDiff,reduceAdd,reduceLT,VQ,h7]));(try simp +contextual (disch:=omega) only[Z2,h7]);(with_reducible repeat' (first|intro h|refine And.intro (by omega) ?_ | refine exP (by omega) ?_ | apply And.intro)))
         exact ⟨true,lk,haj.tl,by first|exact fun _ => ⟨hlk,rfl⟩|exact fun _ => hlk,(fun h=>by cases h),(by simp[E2]),rfl⟩
        ·rw[hs2] at hsk4
         have hno:=hknone (lt,l2) (hok1 (hk1 rfl).2) ((hk1 rfl).1.no hlt fun l3 e=>absurd e (hs0 l3))
         ((try refine qI ?_);(repeat ((first|with_reducible refine qU ?_ | simp only[Z5]);try simp (maxSteps:=9^7) +contextual only[↓ S2,S2,↓reduceIte,reduceNe,reduceEqDiff,reduceCtorEq,reduceLeDiff,reduceAdd,reduceLT,VQ,h7]));(try simp +contextual (disch:=omega) only[Z2,h7]);(with_reducible repeat' (first|intro h|refine And.intro (by omega) ?_ | refine exP (by omega) ?_ | apply And.intro)))
         refine callS.of hsk4 ?_
         rintro _ _ ⟨rfl,rfl⟩ -
         ((try refine qI ?_);(repeat ((first|with_reducible refine qU ?_ | simp only[Z5]);try simp (maxSteps:=9^7) +contextual only[↓ S2,S2,↓reduceIte,reduceNe,reduceEqDiff,reduceCtorEq,reduceLeDiff,reduceAdd,reduceLT,VQ,h7]));(try simp +contextual (disch:=omega) only[Z2,h7]);(with_reducible repeat' (first|intro h|refine And.intro (by omega) ?_ | refine exP (by omega) ?_ | apply And.intro)))
         exact ⟨false,lj,haj,(fun h=>by cases h),fun _ => hno,(by simp[E2]),rfl⟩
      ·rintro env2 _ ⟨ok2,lk,hak,hk3,hk4,he2,rfl⟩
       refine GW.ent (FE.of he2) ?_
       have hlen:=ndE_len ns ⟨f+(ns.length:Int),p,pl,lt,W,[]⟩ G
       have hat:=ndE_at ns ⟨f+(ns.length:Int),p,pl,lt,W,[]⟩ G
       have ZI:=ndE_set ns ⟨f+(ns.length:Int),p,pl,lt,W,[]⟩ G
       have hkl:(G.strt (ns.length+1:Nat)).length = j:=by rw[Fo.strt_len,hc]
       dsimp only at hat ZI
       refine GW.opn (r:=q') (i:=ns.length) (j:=5) ZX hat rfl fun r5 hn5=> ?_
       simp only[YR,List.set_cons_succ,List.set_cons_zero] at hn5 ⊢
       have h8:=Z0 hn5
       (replace h8:=h8;simp only[VN] at h8)
       generalize (ns++ndK ⟨f+(ns.length:Int),p,pl,lt,W,[]⟩ G ns.length).map NdO=E at *
       refine Zn mxd ?_
       ((try refine qI ?_);(repeat ((first|with_reducible refine qU ?_ | simp only[Z5]);try simp (maxSteps:=9^7) +contextual only[↓ S2,S2,↓reduceIte,reduceNe,reduceEqDiff,reduceCtorEq,reduceLeDiff,reduceAdd,reduceLT,VQ,h7,h8,hkl,not_false_eq_true,List.getElem_set_self,List.set_set,List.length_set,List.length_map,ZM]));(try simp +contextual (disch:=omega) only[Z2,h7,h8,hkl,not_false_eq_true,List.getElem_set_self,List.set_set,List.length_set,List.length_map,ZM]);(with_reducible repeat' (first|intro h|refine And.intro (by omega) ?_ | refine exP (by omega) ?_ | apply And.intro)))
       all_goals try exact oF
       all_goals try omega
       rename_i r6 _ r7
       have h9:=h
       have hiE:ns.length<E.length:=by omega
       refine GW.ent (env':=[(0,.ptr rp 5 0 0),(7,I ns.length),(10,B ok2),(11,I j),(79,I R.right.length),(80,I j)]) (FE.trans (FE.of (by simp[E2])) (FE.trans (FE.perm (H:=[_,_,_,_]) (L:=[(r7,_),(q',_),(rp,_)]) (by repeat' (first|exact trivial|(refine And.intro (by simp only[Z9, *,if_true,if_false];try rfl) (And.intro (by simp[ZR,ZP, *]) ?_))))) (FE.closeT (T:=(q',6,E.set ns.length (.agg [I (f+(ns.length:Int)),I p,I pl,I lt,T W,.own r7 1 0 (j+1)]))::(rp,5,[RdG (SyS g.syms) (RuS g.rules) lk f (.own q' 6 0 (ns.length+1+G.sz))])::H) (r:=q') (i:=ns.length) (j:=5) (by simp only[ne_eq,h9,not_false_eq_true]) ZX hiE rfl (by rw[List.length_append,List.length_take,List.length_map,List.length_singleton];omega)))) ?_
       have htk:(((G.strt (ns.length+1:Nat)).map I).take j++[I ((ns.length+1+G.sz:Nat):Int)])=(G.strt (ns.length+1:Nat)++[((ns.length+1+G.sz:Nat):Int)]).map I:=by
        rw[tL (by rw[List.length_map];omega),List.map_append];rfl
       have hset2:=ZI (G.strt (ns.length+1:Nat)++[((ns.length+1+G.sz:Nat):Int)])
       simp only[YR,List.set_cons_succ,List.set_cons_zero]
       rw[htk,hset2]
       have hnx:=fun F (hF:F.one)=>ndK_app (x:=⟨f+(ns.length:Int),p,pl,lt,W,[]⟩) (G:=G) (F:=F) (i:=ns.length) (j:=j) hc hF
       have hnl:(ns++(⟨f+(ns.length:Int),p,pl,lt,W,G.strt (ns.length+1:Nat)++[((ns.length+1+G.sz:Nat):Int)]⟩::G.flt (ns.length+1:Nat) ns.length 1)).length = ns.length+1+G.sz:=by
        rw[List.length_append,List.length_cons,Fo.flt_len];omega
       dsimp only at hnx ⊢
       clear ZI hset2 hat hlen htk hn5 hiE
       obtain ⟨ns2,hns2⟩:∃ns2,ns++((⟨f+(ns.length:Int),p,pl,lt,W,G.strt (ns.length+1:Nat)++[((ns.length+1+G.sz:Nat):Int)]⟩:Nod)::G.flt (ns.length+1:Nat) ns.length 1)=ns2:=⟨_,rfl⟩
       rw[hns2] at hnl ⊢
       refine ZD mxd ?_
       cases ok2 with
       | false=>
        ((try refine qI ?_);(repeat ((first|with_reducible refine qU ?_ | simp only[Z5]);try simp (maxSteps:=9^7) +contextual only[↓ S2,S2,↓reduceIte,reduceNe,reduceEqDiff,reduceCtorEq,reduceLeDiff,reduceAdd,reduceLT,VQ,h7]));(try simp +contextual (disch:=omega) only[Z2,h7]);(with_reducible repeat' (first|intro h|refine And.intro (by omega) ?_ | refine exP (by omega) ?_ | apply And.intro)))
        exact .inl ⟨hk4 rfl,rfl,[_],_,rfl⟩
       | true=>
        obtain ⟨rfl,rfl⟩:=hk3 rfl
        simp only[List.length_cons] at hlj
        have ih:=ih m (by omega) lk ns2 q' rp ns.length ((j:Int)+1) H (by omega) (by omega) hak (by omega) hT
        unfold ndR at ih
        rw[hnl] at ih
        ((try refine qI ?_);(repeat ((first|with_reducible refine qU ?_ | simp only[Z5]);try simp (maxSteps:=9^7) +contextual only[↓ S2,S2,↓reduceIte,reduceNe,reduceEqDiff,reduceCtorEq,reduceLeDiff,reduceAdd,reduceLT,VQ,h7]));(try simp +contextual (disch:=omega) only[Z2,h7]);(with_reducible repeat' (first|intro h|refine And.intro (by omega) ?_ | refine exP (by omega) ?_ | apply And.intro)))
        all_goals try exact oF
        refine callS.of ih ?_
        rintro _ _ (⟨hno,rfl,X,z,rfl⟩|⟨F,l3,q3,hF,rfl,rfl⟩) -
        ·((try refine qI ?_);(repeat ((first|with_reducible refine qU ?_ | simp only[Z5]);try simp (maxSteps:=9^7) +contextual only[↓ S2,S2,↓reduceIte,reduceNe,reduceEqDiff,reduceCtorEq,reduceLeDiff,reduceAdd,reduceLT,VQ,]));(try simp +contextual (disch:=omega) only[Z2,]);(with_reducible repeat' (first|intro h|refine And.intro (by omega) ?_ | refine exP (by omega) ?_ | apply And.intro)))
         exact .inl ⟨hknone (lt,l2) (hok1 (hk1 rfl).2) ((hk1 rfl).1.no hlt fun l3 e=>by cases e;exact hno),rfl,X,z,rfl⟩
        ·obtain ⟨m1,m2⟩:=oneI_mem hF
         obtain ⟨o1,o2⟩:=oneI_one g niN f hF
         ((try refine qI ?_);(repeat ((first|with_reducible refine qU ?_ | simp only[Z5]);try simp (maxSteps:=9^7) +contextual only[↓ S2,S2,↓reduceIte,reduceNe,reduceEqDiff,reduceCtorEq,reduceLeDiff,reduceAdd,reduceLT,VQ,]));(try simp +contextual (disch:=omega) only[Z2,]);(with_reducible repeat' (first|intro h|refine And.intro (by omega) ?_ | refine exP (by omega) ?_ | apply And.intro)))
         refine ZD mxd ?_
         ((try refine qI ?_);(repeat ((first|with_reducible refine qU ?_ | simp only[Z5]);try simp (maxSteps:=9^7) +contextual only[↓ S2,S2,↓reduceIte,reduceNe,reduceEqDiff,reduceCtorEq,reduceLeDiff,reduceAdd,reduceLT,VQ,]));(try simp +contextual (disch:=omega) only[Z2,]);(with_reducible repeat' (first|intro h|refine And.intro (by omega) ?_ | refine exP (by omega) ?_ | apply And.intro)))
         all_goals try exact oF
         exact nx ⟨((q3,G.app F),(j+1,l3,true)),by rw[Fo.app_cnt,hc,Fo.one_cnt o1],hlt,hak.of m1,by dsimp only;omega,by dsimp only;rw[Fo.app_sz];have:=m2 (by omega);omega,fun _ => ⟨(hk1 rfl).1.step hlt hF,(hk1 rfl).2⟩,(fun h=>by cases h)⟩ (by dsimp only;omega) (by simp[E2]) (by dsimp only;rw[hnx F o1,Fo.app_sz,←hns2];simp[Nat.add_assoc])
     ·obtain rfl:j=R.right.length:=by omega
      have e1:((R.right.length:Int)<R.right.length)=False:=eq_false (by omega)
      refine ZD mxd ?_
      ((try refine qI ?_);(repeat ((first|with_reducible refine qU ?_ | simp only[Z5]);try simp (maxSteps:=9^7) +contextual only[↓ S2,S2,↓reduceIte,reduceNe,reduceEqDiff,reduceCtorEq,reduceLeDiff,reduceAdd,reduceLT,VQ,e1]));(try simp +contextual (disch:=omega) only[Z2,e1]);(with_reducible repeat' (first|intro h|refine And.intro (by omega) ?_ | refine exP (by omega) ?_ | apply And.intro)))
      exact ⟨ok,G,lj,q',haj,fun h=>⟨(hk1 h).1.all,(hk1 h).2⟩,hk2,h70,(by simp[E2]),rfl⟩
    ·rintro env2 _ ⟨ok,G,lj,q',haj,hk1,hk2,hne,he2,rfl⟩
     refine GW.ent (FE.of he2) ?_
     have h7:=hne
     (replace h7:=h7;simp only[VN] at h7)
     refine ZD mxd ?_
     cases ok with
     | false=>
      ((try refine qI ?_);(repeat ((first|with_reducible refine qU ?_ | simp only[Z5]);try simp (maxSteps:=9^7) +contextual only[↓ S2,S2,↓reduceIte,reduceNe,reduceEqDiff,reduceCtorEq,reduceLeDiff,reduceAdd,reduceLT,VQ,h7]));(try simp +contextual (disch:=omega) only[Z2,h7]);(with_reducible repeat' (first|intro h|refine And.intro (by omega) ?_ | refine exP (by omega) ?_ | apply And.intro)))
      exact .inl ⟨hk2 rfl,rfl,[_],_,rfl⟩
     | true=>
      have hsk3:=o38 (a:=SyS g.syms) (b:=RuS g.rules) (X:= .own q' 6 0 (ns.length+1+G.sz)) (l:=lj) (f:=f) 41 (rp:=rp) (H:=(q',6,(ns++ndK ⟨f+(ns.length:Int),p,pl,lt,W,[]⟩ G ns.length).map NdO)::(rp,5,[RdG (SyS g.syms) (RuS g.rules) lj f (.own q' 6 0 (ns.length+1+G.sz))])::H) (by simp only[Z9,h7,if_true,if_false])
      simp only[Z8,h7,if_true,if_false] at hsk3
      rcases hend (lt,l2) G lj (hok1 (hk1 rfl).2) (hk1 rfl).1 with ⟨t,rfl,ho⟩|⟨hs0,ho⟩
      ·rw[skp_hit] at hsk3
       ((try refine qI ?_);(repeat ((first|with_reducible refine qU ?_ | simp only[Z5]);try simp (maxSteps:=9^7) +contextual only[↓ S2,S2,↓reduceIte,reduceNe,reduceEqDiff,reduceCtorEq,reduceLeDiff,reduceAdd,reduceLT,VQ,h7]));(try simp +contextual (disch:=omega) only[Z2,h7]);(with_reducible repeat' (first|intro h|refine And.intro (by omega) ?_ | refine exP (by omega) ?_ | apply And.intro)))
       refine callS.of hsk3 ?_
       rintro _ _ ⟨rfl,rfl⟩ -
       ((try refine qI ?_);(repeat ((first|with_reducible refine qU ?_ | simp only[Z5]);try simp (maxSteps:=9^7) +contextual only[↓ S2,S2,↓reduceIte,reduceNe,reduceEqDiff,reduceCtorEq,reduceLeDiff,reduceAdd,reduceLT,VQ,h7]));(try simp +contextual (disch:=omega) only[Z2,h7]);(with_reducible repeat' (first|intro h|refine And.intro (by omega) ?_ | refine exP (by omega) ?_ | apply And.intro)))
       refine .inr ⟨_,t,q',ho,rfl,?_⟩
       rw[flt_one1,sz_one1,Nat.add_assoc]
      ·rw[skp_miss hs0] at hsk3
       ((try refine qI ?_);(repeat ((first|with_reducible refine qU ?_ | simp only[Z5]);try simp (maxSteps:=9^7) +contextual only[↓ S2,S2,↓reduceIte,reduceNe,reduceEqDiff,reduceCtorEq,reduceLeDiff,reduceAdd,reduceLT,VQ,h7]));(try simp +contextual (disch:=omega) only[Z2,h7]);(with_reducible repeat' (first|intro h|refine And.intro (by omega) ?_ | refine exP (by omega) ?_ | apply And.intro)))
       refine callS.of hsk3 ?_
       rintro _ _ ⟨rfl,rfl⟩ -
       ((try refine qI ?_);(repeat ((first|with_reducible refine qU ?_ | simp only[Z5]);try simp (maxSteps:=9^7) +contextual only[↓ S2,S2,↓reduceIte,reduceNe,reduceEqDiff,reduceCtorEq,reduceLeDiff,reduceAdd,reduceLT,VQ,h7]));(try simp +contextual (disch:=omega) only[Z2,h7]);(with_reducible repeat' (first|intro h|refine And.intro (by omega) ?_ | refine exP (by omega) ?_ | apply And.intro)))
       exact .inl ⟨ho,rfl,[_],_,rfl⟩
theorem o18 (g:Gram) (hg:smGr g) (f:Int) (hf0:0≤f) (hf1:f≤1000) (m:Nat):∀(l:List UInt8) (ns:List Nod) (q rp:Nat) (p pl:Int) (H:GH),l.length≤m→l.length≤1048576→asc l→ns.length≤16→(∀x∈Tryz.tb,x∈H)→Gc 18 [.ptr rp 5 0 0,I p,I pl] ((q,6,ns.map NdO)::(rp,5,[RdG (SyS g.syms) (RuS g.rules) l f (.own q 6 0 ns.length)])::H) (ndR g f l ns p pl rp H):=
 Nat.strongRecOn m fun m ih=>e18 g hg f hf0 hf1 m ih
theorem p7 (g:Gram) (hg:smGr g) (s:ByteArray) (hs:(Z6 s).length ≤ 1048576) (ha:asc (Z6 s)) (f:Int):PureT Tryz.prog Tryz.tb 7 [Gr g,T s,I f] (· = .tup [Tr ((YW g niN f (Z6 s)).getD []),B (YW g niN f (Z6 s)).isSome]):=by
 refine PureT.bor ?_
 have hnil:∀H,Bor H (.tup [.agg [ZE],B false]) (.tup [Tr [],B false]):=fun H=> .tup (.cons (.agg (.cons .nil .nil)) (.cons .refl .nil))
 have hwi:=w17 f 1 999
 have hnd:=Tryz.tbH.1
 have hT:∀x∈Tryz.tb,x∈Tryz.tb:=fun _ h=>h
 have hT10:=Tryz.tb10
 generalize hH:Tryz.tb=H at hnd hT10 ⊢
 have hT:∀x∈Tryz.tb,x∈H:=fun x h=>hH▸h
 clear hH
 rw[parTI_one]
 by_cases hf:1≤f∧f≤999
 case neg=>
  rw[if_neg hf]
  rw[decide_eq_false hf] at hwi
  refine ZN mxd i7 rfl (by simp) ?_;simp (maxSteps:=9^7) only[↓ S2,S2,ZT,↓reduceIte,reduceNe,reduceEqDiff,reduceCtorEq,reduceLeDiff,reduceAdd,reduceLT]
  ((try refine qI ?_);(repeat ((first|with_reducible refine qU ?_ | simp only[Z5]);try simp (maxSteps:=9^7) +contextual only[↓ S2,S2,↓reduceIte,reduceNe,reduceEqDiff,reduceCtorEq,reduceLeDiff,reduceAdd,reduceLT,VQ,]));(try simp +contextual (disch:=omega) only[Z2,]);(with_reducible repeat' (first|intro h|refine And.intro (by omega) ?_ | refine exP (by omega) ?_ | apply And.intro)))
  refine callS.eq hwi ?_
  ((try refine qI ?_);(repeat ((first|with_reducible refine qU ?_ | simp only[Z5]);try simp (maxSteps:=9^7) +contextual only[↓ S2,S2,↓reduceIte,reduceNe,reduceEqDiff,reduceCtorEq,reduceLeDiff,reduceAdd,reduceLT,VQ,]));(try simp +contextual (disch:=omega) only[Z2,]);(with_reducible repeat' (first|intro h|refine And.intro (by omega) ?_ | refine exP (by omega) ?_ | apply And.intro)))
  exact hnil _
 rw[if_pos hf]
 rw[decide_eq_true hf] at hwi
 refine gstartG i7 rfl (by simp) ?_
 refine Zn mxd ?_
 ((try refine qI ?_);(repeat ((first|with_reducible refine qU ?_ | simp only[Z5]);try simp (maxSteps:=9^7) +contextual only[↓ S2,S2,↓reduceIte,reduceNe,reduceEqDiff,reduceCtorEq,reduceLeDiff,reduceAdd,reduceLT,VQ,]));(try simp +contextual (disch:=omega) only[Z2,]);(with_reducible repeat' (first|intro h|refine And.intro (by omega) ?_ | refine exP (by omega) ?_ | apply And.intro)))
 refine Zn mxd ?_
 ((try refine qI ?_);(repeat ((first|with_reducible refine qU ?_ | simp only[Z5]);try simp (maxSteps:=9^7) +contextual only[↓ S2,S2,↓reduceIte,reduceNe,reduceEqDiff,reduceCtorEq,reduceLeDiff,reduceAdd,reduceLT,VQ,]));(try simp +contextual (disch:=omega) only[Z2,]);(with_reducible repeat' (first|intro h|refine And.intro (by omega) ?_ | refine exP (by omega) ?_ | apply And.intro)))
 rename_i r8
 obtain ⟨v,hv,hvn⟩:=vfresh (names ((r8,5,[RdG (SyS g.syms) (RuS g.rules) (Z6 s) f ZE])::H))
 have hne:¬v=r8:=fun e=>hvn (by rw[e];exact List.mem_cons_self)
 have hne':¬r8=v:=fun e=>hne e.symm
 have hbs:bA (Z6 s)=s:=rfl
 refine GW.ent (FE.virtF (r:=r8) (sz:=5) (sz1:=6) (i:=0) (j:=4) (es:=[RdG (SyS g.syms) (RuS g.rules) (Z6 s) f ZE]) (gs:=[SyS g.syms,RuS g.rules,T (bA (Z6 s)),I f,ZE]) ZX rfl rfl hv hvn) ?_
 simp only[YR,List.set_cons_succ,List.set_cons_zero]
 have hnode:=o18 g hg f (by omega) (by omega) (Z6 s).length (Z6 s) [] v r8 (-1) 0 H (Nat.le_refl _) hs ha (by simp) hT
 unfold ndR at hnode
 simp only[List.map_nil,List.length_nil,List.nil_append,Nat.zero_add] at hnode
 refine Zn mxd ?_
 ((try refine qI ?_);(repeat ((first|with_reducible refine qU ?_ | simp only[Z5]);try simp (maxSteps:=9^7) +contextual only[↓ S2,S2,↓reduceIte,reduceNe,reduceEqDiff,reduceCtorEq,reduceLeDiff,reduceAdd,reduceLT,VQ,hne,hne']));(try simp +contextual (disch:=omega) only[Z2,hne,hne']);(with_reducible repeat' (first|intro h|refine And.intro (by omega) ?_ | refine exP (by omega) ?_ | apply And.intro)))
 refine callS.eq hwi ?_
 ((try refine qI ?_);(repeat ((first|with_reducible refine qU ?_ | simp only[Z5]);try simp (maxSteps:=9^7) +contextual only[↓ S2,S2,↓reduceIte,reduceNe,reduceEqDiff,reduceCtorEq,reduceLeDiff,reduceAdd,reduceLT,VQ,hne,hne']));(try simp +contextual (disch:=omega) only[Z2,hne,hne']);(with_reducible repeat' (first|intro h|refine And.intro (by omega) ?_ | refine exP (by omega) ?_ | apply And.intro)))
 refine callS.of hnode ?_
 rintro _ _ (⟨hno,rfl,X,z,rfl⟩|⟨F,l2,q,hF,rfl,rfl⟩) hn2
 ·rw[hno]
  ((try refine qI ?_);(repeat ((first|with_reducible refine qU ?_ | simp only[Z5]);try simp (maxSteps:=9^7) +contextual only[↓ S2,S2,↓reduceIte,reduceNe,reduceEqDiff,reduceCtorEq,reduceLeDiff,reduceAdd,reduceLT,VQ,]));(try simp +contextual (disch:=omega) only[Z2,]);(with_reducible repeat' (first|intro h|refine And.intro (by omega) ?_ | refine exP (by omega) ?_ | apply And.intro)))
  exact hnil _
 ·have h7:=Z0 hn2
  (replace h7:=h7;simp only[VN] at h7)
  rw[hF]
  have hvn:=oneI_vn hF
  have hsz:=(oneI_mem hF).2 (by omega)
  have hfl:(F.flt 0 (-1) 0).length = F.sz:=Fo.flt_len ..
  have hfm:=p6 g (F.flt 0 (-1) 0) hg (by omega) (fun x hx=>by have:=Fo.flt_kids F 0 (-1) 0 x hx;omega) (vn_len hvn 0 (-1) 0)
  change PureT _ _ _ _ (· = .val (mkS (Zu g (F.flt 0 (-1) 0)))) at hfm
  have hb:∀Z:GH,ZW Z q=some (6,(F.flt 0 (-1) 0).map NdO)→Bor Z (.agg [.own q 6 0 F.sz]) (Tr (F.flt 0 (-1) 0)):=fun Z k=>bor_TrK k hfl
  have h00:((0:Nat):Int)=0:=rfl
  simp only[h00] at hn2 ⊢
  cases l2 with
  | cons a l2=>
   have e0:((⟨(a::l2).toArray⟩:ByteArray)=⟨#[]⟩)=False:=eq_false fun h=>by have:=congrArg Z6 h;cases this
   ((try refine qI ?_);(repeat ((first|with_reducible refine qU ?_ | simp only[Z5]);try simp (maxSteps:=9^7) +contextual only[↓ S2,S2,↓reduceIte,reduceNe,reduceEqDiff,reduceCtorEq,reduceLeDiff,reduceAdd,reduceLT,VQ,h7,e0]));(try simp +contextual (disch:=omega) only[Z2,h7,e0]);(with_reducible repeat' (first|intro h|refine And.intro (by omega) ?_ | refine exP (by omega) ?_ | apply And.intro)))
   exact hnil _
  | nil=>
   dsimp only
   generalize F.flt 0 (-1) 0=t at *
   ((try refine qI ?_);(repeat ((first|with_reducible refine qU ?_ | simp only[Z5]);try simp (maxSteps:=9^7) +contextual only[↓ S2,S2,↓reduceIte,reduceNe,reduceEqDiff,reduceCtorEq,reduceLeDiff,reduceAdd,reduceLT,VQ,h7]));(try simp +contextual (disch:=omega) only[Z2,h7]);(with_reducible repeat' (first|intro h|refine And.intro (by omega) ?_ | refine exP (by omega) ?_ | apply And.intro)))
   refine callS.borT hfm (tabH_10 1) (fun x h=>List.mem_cons_of_mem _ (List.mem_cons_of_mem _ (hT10 x h))) (.cons .refl (.cons (hb _ ZX) .nil)) rfl ?_
   by_cases he:Zu g t=Z6 s
   ·have e5:((⟨(Zu g t).toArray⟩:ByteArray)=s)=True:=eq_true (congrArg bA he)
    rw[if_pos he]
    ((try refine qI ?_);(repeat ((first|with_reducible refine qU ?_ | simp only[Z5]);try simp (maxSteps:=9^7) +contextual only[↓ S2,S2,↓reduceIte,reduceNe,reduceEqDiff,reduceCtorEq,reduceLeDiff,reduceAdd,reduceLT,VQ,h7,e5]));(try simp +contextual (disch:=omega) only[Z2,h7,e5]);(with_reducible repeat' (first|intro h|refine And.intro (by omega) ?_ | refine exP (by omega) ?_ | apply And.intro)))
    refine ZD mxd ?_
    ((try refine qI ?_);(repeat ((first|with_reducible refine qU ?_ | simp only[Z5]);try simp (maxSteps:=9^7) +contextual only[↓ S2,S2,↓reduceIte,reduceNe,reduceEqDiff,reduceCtorEq,reduceLeDiff,reduceAdd,reduceLT,VQ,h7]));(try simp +contextual (disch:=omega) only[Z2,h7]);(with_reducible repeat' (first|intro h|refine And.intro (by omega) ?_ | refine exP (by omega) ?_ | apply And.intro)))
    exact .tup (.cons (hb _ ZX) (.cons .refl .nil))
   ·have e5:((⟨(Zu g t).toArray⟩:ByteArray)=s)=False:=eq_false fun h=>he (congrArg Z6 h)
    rw[if_neg he]
    ((try refine qI ?_);(repeat ((first|with_reducible refine qU ?_ | simp only[Z5]);try simp (maxSteps:=9^7) +contextual only[↓ S2,S2,↓reduceIte,reduceNe,reduceEqDiff,reduceCtorEq,reduceLeDiff,reduceAdd,reduceLT,VQ,h7,e5]));(try simp +contextual (disch:=omega) only[Z2,h7,e5]);(with_reducible repeat' (first|intro h|refine And.intro (by omega) ?_ | refine exP (by omega) ?_ | apply And.intro)))
    exact hnil _
theorem wa29 (s:ByteArray) (hs:(Z6 s).length ≤ 500000) (hc:asc (Z6 s)) (es:List GV) (ha:noAg es=true) (hl:0<es.length) (hm:ltA 32 es=true):Dv Tryz.prog 29 [T s,.sl 1 es] (fun g=>∃t,(Z6 t).length ≤ (Z6 s).length + 32∧asc (Z6 t)∧g=T t):=by
 refine Dv.of0 fun rc H=> ?_
 refine ZN mxd i29 rfl (by simp) ?_;simp (maxSteps:=9^7) only[↓ S2,S2,ZT,↓reduceIte,reduceNe,reduceEqDiff,reduceCtorEq,reduceLeDiff,reduceAdd,reduceLT]
 ((try refine qI ?_);(repeat ((first|with_reducible refine qU ?_ | simp only[Z5]);try simp (maxSteps:=9^7) +contextual only[↓ S2,S2,↓reduceIte,reduceNe,reduceEqDiff,reduceCtorEq,reduceLeDiff,reduceAdd,reduceLT,VQ,]));(try simp +contextual (disch:=omega) only[Z2,]);(with_reducible repeat' (first|intro h|refine And.intro (by omega) ?_ | refine exP (by omega) ?_ | apply And.intro)))
 refine callS.dv (wz47 ((Z6 s).length + 1) (by omega)) ZX ?_
 rintro _ ⟨k,hk,rfl⟩
 ((try refine qI ?_);(repeat ((first|with_reducible refine qU ?_ | simp only[Z5]);try simp (maxSteps:=9^7) +contextual only[↓ S2,S2,↓reduceIte,reduceNe,reduceEqDiff,reduceCtorEq,reduceLeDiff,reduceAdd,reduceLT,VQ,]));(try simp +contextual (disch:=omega) only[Z2,]);(with_reducible repeat' (first|intro h|refine And.intro (by omega) ?_ | refine exP (by omega) ?_ | apply And.intro)))
 refine callS.dv (wz47 6 (by omega)) ZX ?_
 rintro _ ⟨j,hj,rfl⟩
 ((try refine qI ?_);(repeat ((first|with_reducible refine qU ?_ | simp only[Z5]);try simp (maxSteps:=9^7) +contextual only[↓ S2,S2,↓reduceIte,reduceNe,reduceEqDiff,reduceCtorEq,reduceLeDiff,reduceAdd,reduceLT,VQ,]));(try simp +contextual (disch:=omega) only[Z2,]);(with_reducible repeat' (first|intro h|refine And.intro (by omega) ?_ | refine exP (by omega) ?_ | apply And.intro)))
 all_goals try exact oF
 ·refine callA.dv (w49 es ha hl) ZX ?_
  intro g hg
  obtain ⟨t,ht,hta,rfl⟩:=ltA_mem hm hg
  ((try refine qI ?_);(repeat ((first|with_reducible refine qU ?_ | simp only[Z5]);try simp (maxSteps:=9^7) +contextual only[↓ S2,S2,↓reduceIte,reduceNe,reduceEqDiff,reduceCtorEq,reduceLeDiff,reduceAdd,reduceLT,VQ,]));(try simp +contextual (disch:=omega) only[Z2,]);(with_reducible repeat' (first|intro h|refine And.intro (by omega) ?_ | refine exP (by omega) ?_ | apply And.intro)))
  all_goals try exact oF
  all_goals first
   | (simp only[chA,List.length_append,List.length_take,List.length_drop];omega)
   | exact ⟨_,by simp only[chA,List.length_append,List.length_take,List.length_drop];omega,by rw[chA,chA,chA];exact asc.app (asc.app (asc.take hc _) hta) (asc.drop (asc.take hc _) _),rfl⟩
   | exact ⟨_,by simp only[chA,List.length_append,List.length_take,List.length_drop];omega,by simp only[chA];exact asc.app (asc.app (asc.take hc _) hta) (asc.drop (asc.take hc _) _),rfl⟩
 ·exact ⟨_,by simp only[chA,List.length_take,List.length_drop];omega,by simp only[chA];exact asc.take hc _,rfl⟩
 ·exact ⟨_,by omega,hc,rfl⟩
theorem wn14 (bs:List UInt8) (hb:bs.length≤1048576):Pu 14 [Bs bs] (fun v=>∃g t,drV g∧bentT t∧v = .tup [Gr g,Tr t]):=by
 refine ZN mxd i14 rfl (by simp) ?_;simp (maxSteps:=9^7) only[↓ S2,S2,ZT,↓reduceIte,reduceNe,reduceEqDiff,reduceCtorEq,reduceLeDiff,reduceAdd,reduceLT]
 (((try refine qI ?_);(repeat ((first|with_reducible refine qU ?_ | simp only[Z5]);try simp (maxSteps:=9^7) only[↓ S2,S2,ZT,↓reduceIte,reduceNe,reduceEqDiff,reduceCtorEq,reduceLeDiff,reduceAdd,reduceLT,Z9,Z8,Z7]));(try simp +contextual (disch:=omega) only[Z2,Z9,Z8,Z7]);(with_reducible repeat' (first|intro h|refine And.intro (by omega) ?_ | refine exP (by omega) ?_ | apply And.intro)));(repeat' (have h:=Z0 h;simp only[Z1,ZY,Z3,ZZ,and_true,true_and] at h;((try refine qI ?_);(repeat ((first|with_reducible refine qU ?_ | simp only[Z5]);try simp (maxSteps:=9^7) only[↓ S2,S2,ZT,↓reduceIte,reduceNe,reduceEqDiff,reduceCtorEq,reduceLeDiff,reduceAdd,reduceLT,Z9,Z8,Z7,h]));(try simp +contextual (disch:=omega) only[Z2,Z9,Z8,Z7,h]);(with_reducible repeat' (first|intro h|refine And.intro (by omega) ?_ | refine exP (by omega) ?_ | apply And.intro))))))
 refine callS.of (o26 bs hb _) ?_
 rintro _ _ ⟨rc,rfl,rfl⟩ hn
 (((try refine qI ?_);(repeat ((first|with_reducible refine qU ?_ | simp only[Z5]);try simp (maxSteps:=9^7) only[↓ S2,S2,ZT,↓reduceIte,reduceNe,reduceEqDiff,reduceCtorEq,reduceLeDiff,reduceAdd,reduceLT,Z9,Z8,Z7]));(try simp +contextual (disch:=omega) only[Z2,Z9,Z8,Z7]);(with_reducible repeat' (first|intro h|refine And.intro (by omega) ?_ | refine exP (by omega) ?_ | apply And.intro)));(repeat' (have h:=Z0 h;simp only[Z1,ZY,Z3,ZZ,and_true,true_and] at h;((try refine qI ?_);(repeat ((first|with_reducible refine qU ?_ | simp only[Z5]);try simp (maxSteps:=9^7) only[↓ S2,S2,ZT,↓reduceIte,reduceNe,reduceEqDiff,reduceCtorEq,reduceLeDiff,reduceAdd,reduceLT,Z9,Z8,Z7,h]));(try simp +contextual (disch:=omega) only[Z2,Z9,Z8,Z7,h]);(with_reducible repeat' (first|intro h|refine And.intro (by omega) ?_ | refine exP (by omega) ?_ | apply And.intro))))))
 refine callS.dv (w32 2) ZX ?_
 rintro _ ⟨b,rfl⟩
 (((try refine qI ?_);(repeat ((first|with_reducible refine qU ?_ | simp only[Z5]);try simp (maxSteps:=9^7) only[↓ S2,S2,ZT,↓reduceIte,reduceNe,reduceEqDiff,reduceCtorEq,reduceLeDiff,reduceAdd,reduceLT,Z9,Z8,Z7]));(try simp +contextual (disch:=omega) only[Z2,Z9,Z8,Z7]);(with_reducible repeat' (first|intro h|refine And.intro (by omega) ?_ | refine exP (by omega) ?_ | apply And.intro)));(repeat' (have h:=Z0 h;simp only[Z1,ZY,Z3,ZZ,and_true,true_and] at h;((try refine qI ?_);(repeat ((first|with_reducible refine qU ?_ | simp only[Z5]);try simp (maxSteps:=9^7) only[↓ S2,S2,ZT,↓reduceIte,reduceNe,reduceEqDiff,reduceCtorEq,reduceLeDiff,reduceAdd,reduceLT,Z9,Z8,Z7,h]));(try simp +contextual (disch:=omega) only[Z2,Z9,Z8,Z7,h]);(with_reducible repeat' (first|intro h|refine And.intro (by omega) ?_ | refine exP (by omega) ?_ | apply And.intro))))))
 refine callS.dv (wn27 b) ZX ?_
 rintro _ ⟨g,hg,rfl⟩
 (((try refine qI ?_);(repeat ((first|with_reducible refine qU ?_ | simp only[Z5]);try simp (maxSteps:=9^7) only[↓ S2,S2,ZT,↓reduceIte,reduceNe,reduceEqDiff,reduceCtorEq,reduceLeDiff,reduceAdd,reduceLT,Z9,Z8,Z7]));(try simp +contextual (disch:=omega) only[Z2,Z9,Z8,Z7]);(with_reducible repeat' (first|intro h|refine And.intro (by omega) ?_ | refine exP (by omega) ?_ | apply And.intro)));(repeat' (have h:=Z0 h;simp only[Z1,ZY,Z3,ZZ,and_true,true_and] at h;((try refine qI ?_);(repeat ((first|with_reducible refine qU ?_ | simp only[Z5]);try simp (maxSteps:=9^7) only[↓ S2,S2,ZT,↓reduceIte,reduceNe,reduceEqDiff,reduceCtorEq,reduceLeDiff,reduceAdd,reduceLT,Z9,Z8,Z7,h]));(try simp +contextual (disch:=omega) only[Z2,Z9,Z8,Z7,h]);(with_reducible repeat' (first|intro h|refine And.intro (by omega) ?_ | refine exP (by omega) ?_ | apply And.intro))))))
 refine callA.dv (w33 g hg.1) ZX ?_
 rintro _ ⟨t,ht,rfl⟩
 (((try refine qI ?_);(repeat ((first|with_reducible refine qU ?_ | simp only[Z5]);try simp (maxSteps:=9^7) only[↓ S2,S2,ZT,↓reduceIte,reduceNe,reduceEqDiff,reduceCtorEq,reduceLeDiff,reduceAdd,reduceLT,Z9,Z8,Z7]));(try simp +contextual (disch:=omega) only[Z2,Z9,Z8,Z7]);(with_reducible repeat' (first|intro h|refine And.intro (by omega) ?_ | refine exP (by omega) ?_ | apply And.intro)));(repeat' (have h:=Z0 h;simp only[Z1,ZY,Z3,ZZ,and_true,true_and] at h;((try refine qI ?_);(repeat ((first|with_reducible refine qU ?_ | simp only[Z5]);try simp (maxSteps:=9^7) only[↓ S2,S2,ZT,↓reduceIte,reduceNe,reduceEqDiff,reduceCtorEq,reduceLeDiff,reduceAdd,reduceLT,Z9,Z8,Z7,h]));(try simp +contextual (disch:=omega) only[Z2,Z9,Z8,Z7,h]);(with_reducible repeat' (first|intro h|refine And.intro (by omega) ?_ | refine exP (by omega) ?_ | apply And.intro))))))
 exact ⟨g,t,hg,ht,rfl⟩
theorem w5 (bs:List UInt8) (hb:bs.length≤1048576):Pu 5 [Bs bs] (fun v=>∃g t,drV g∧bentT t∧v = .tup [Gr g,Tr t]):=by
 refine ZN mxd i5 rfl (by simp) ?_;simp (maxSteps:=9^7) only[↓ S2,S2,ZT,↓reduceIte,reduceNe,reduceEqDiff,reduceCtorEq,reduceLeDiff,reduceAdd,reduceLT]
 (((try refine qI ?_);(repeat ((first|with_reducible refine qU ?_ | simp only[Z5]);try simp (maxSteps:=9^7) only[↓ S2,S2,ZT,↓reduceIte,reduceNe,reduceEqDiff,reduceCtorEq,reduceLeDiff,reduceAdd,reduceLT,Z9,Z8,Z7]));(try simp +contextual (disch:=omega) only[Z2,Z9,Z8,Z7]);(with_reducible repeat' (first|intro h|refine And.intro (by omega) ?_ | refine exP (by omega) ?_ | apply And.intro)));(repeat' (have h:=Z0 h;simp only[Z1,ZY,Z3,ZZ,and_true,true_and] at h;((try refine qI ?_);(repeat ((first|with_reducible refine qU ?_ | simp only[Z5]);try simp (maxSteps:=9^7) only[↓ S2,S2,ZT,↓reduceIte,reduceNe,reduceEqDiff,reduceCtorEq,reduceLeDiff,reduceAdd,reduceLT,Z9,Z8,Z7,h]));(try simp +contextual (disch:=omega) only[Z2,Z9,Z8,Z7,h]);(with_reducible repeat' (first|intro h|refine And.intro (by omega) ?_ | refine exP (by omega) ?_ | apply And.intro))))))
 refine callS.of ((wn14 bs hb).frame _) ?_
 rintro _ _ ⟨⟨g,t,hg,ht,rfl⟩,rfl⟩ _
 (((try refine qI ?_);(repeat ((first|with_reducible refine qU ?_ | simp only[Z5]);try simp (maxSteps:=9^7) only[↓ S2,S2,ZT,↓reduceIte,reduceNe,reduceEqDiff,reduceCtorEq,reduceLeDiff,reduceAdd,reduceLT,Z9,Z8,Z7]));(try simp +contextual (disch:=omega) only[Z2,Z9,Z8,Z7]);(with_reducible repeat' (first|intro h|refine And.intro (by omega) ?_ | refine exP (by omega) ?_ | apply And.intro)));(repeat' (have h:=Z0 h;simp only[Z1,ZY,Z3,ZZ,and_true,true_and] at h;((try refine qI ?_);(repeat ((first|with_reducible refine qU ?_ | simp only[Z5]);try simp (maxSteps:=9^7) only[↓ S2,S2,ZT,↓reduceIte,reduceNe,reduceEqDiff,reduceCtorEq,reduceLeDiff,reduceAdd,reduceLT,Z9,Z8,Z7,h]));(try simp +contextual (disch:=omega) only[Z2,Z9,Z8,Z7,h]);(with_reducible repeat' (first|intro h|refine And.intro (by omega) ?_ | refine exP (by omega) ?_ | apply And.intro))))))
 exact ⟨g,t,hg,ht,rfl⟩
theorem w12 (bs:List UInt8) (hb:bs.length≤1048576):Pu 12 [Bs bs] (fun v=>∃(g:Gram) (u:ByteArray) (f:Int),drV g∧asc (Z6 u)∧(Z6 u).length ≤ 544∧(0≤f∧f≤999)∧v = .tup [Gr g,T u,I f]):=by
 refine ZN mxd i12 rfl (by simp) ?_;simp (maxSteps:=9^7) only[↓ S2,S2,ZT,↓reduceIte,reduceNe,reduceEqDiff,reduceCtorEq,reduceLeDiff,reduceAdd,reduceLT]
 (((try refine qI ?_);(repeat ((first|with_reducible refine qU ?_ | simp only[Z5]);try simp (maxSteps:=9^7) only[↓ S2,S2,ZT,↓reduceIte,reduceNe,reduceEqDiff,reduceCtorEq,reduceLeDiff,reduceAdd,reduceLT,Z9,Z8,Z7]));(try simp +contextual (disch:=omega) only[Z2,Z9,Z8,Z7]);(with_reducible repeat' (first|intro h|refine And.intro (by omega) ?_ | refine exP (by omega) ?_ | apply And.intro)));(repeat' (have h:=Z0 h;simp only[Z1,ZY,Z3,ZZ,and_true,true_and] at h;((try refine qI ?_);(repeat ((first|with_reducible refine qU ?_ | simp only[Z5]);try simp (maxSteps:=9^7) only[↓ S2,S2,ZT,↓reduceIte,reduceNe,reduceEqDiff,reduceCtorEq,reduceLeDiff,reduceAdd,reduceLT,Z9,Z8,Z7,h]));(try simp +contextual (disch:=omega) only[Z2,Z9,Z8,Z7,h]);(with_reducible repeat' (first|intro h|refine And.intro (by omega) ?_ | refine exP (by omega) ?_ | apply And.intro))))))
 refine callS.of (o26 bs hb _) ?_
 rintro _ _ ⟨rc,rfl,rfl⟩ hn
 (((try refine qI ?_);(repeat ((first|with_reducible refine qU ?_ | simp only[Z5]);try simp (maxSteps:=9^7) only[↓ S2,S2,ZT,↓reduceIte,reduceNe,reduceEqDiff,reduceCtorEq,reduceLeDiff,reduceAdd,reduceLT,Z9,Z8,Z7]));(try simp +contextual (disch:=omega) only[Z2,Z9,Z8,Z7]);(with_reducible repeat' (first|intro h|refine And.intro (by omega) ?_ | refine exP (by omega) ?_ | apply And.intro)));(repeat' (have h:=Z0 h;simp only[Z1,ZY,Z3,ZZ,and_true,true_and] at h;((try refine qI ?_);(repeat ((first|with_reducible refine qU ?_ | simp only[Z5]);try simp (maxSteps:=9^7) only[↓ S2,S2,ZT,↓reduceIte,reduceNe,reduceEqDiff,reduceCtorEq,reduceLeDiff,reduceAdd,reduceLT,Z9,Z8,Z7,h]));(try simp +contextual (disch:=omega) only[Z2,Z9,Z8,Z7,h]);(with_reducible repeat' (first|intro h|refine And.intro (by omega) ?_ | refine exP (by omega) ?_ | apply And.intro))))))
 refine callS.dv (wn27 true) ZX ?_
 rintro _ ⟨g,hg,rfl⟩
 (((try refine qI ?_);(repeat ((first|with_reducible refine qU ?_ | simp only[Z5]);try simp (maxSteps:=9^7) only[↓ S2,S2,ZT,↓reduceIte,reduceNe,reduceEqDiff,reduceCtorEq,reduceLeDiff,reduceAdd,reduceLT,Z9,Z8,Z7]));(try simp +contextual (disch:=omega) only[Z2,Z9,Z8,Z7]);(with_reducible repeat' (first|intro h|refine And.intro (by omega) ?_ | refine exP (by omega) ?_ | apply And.intro)));(repeat' (have h:=Z0 h;simp only[Z1,ZY,Z3,ZZ,and_true,true_and] at h;((try refine qI ?_);(repeat ((first|with_reducible refine qU ?_ | simp only[Z5]);try simp (maxSteps:=9^7) only[↓ S2,S2,ZT,↓reduceIte,reduceNe,reduceEqDiff,reduceCtorEq,reduceLeDiff,reduceAdd,reduceLT,Z9,Z8,Z7,h]));(try simp +contextual (disch:=omega) only[Z2,Z9,Z8,Z7,h]);(with_reducible repeat' (first|intro h|refine And.intro (by omega) ?_ | refine exP (by omega) ?_ | apply And.intro))))))
 refine callA.dc (o28 g hg.1) (by simp only[Z9, *,if_true,if_false]) ?_
 rintro _ _ ⟨q,t,ht,rfl,rfl⟩ hn9
 have h9:=Z0 hn9
 simp only[List.cons_append,List.nil_append] at h9 ⊢
 (replace h9:=h9;simp only[VN] at h9)
 (((try refine qI ?_);(repeat ((first|with_reducible refine qU ?_ | simp only[Z5]);try simp (maxSteps:=9^7) only[↓ S2,S2,ZT,↓reduceIte,reduceNe,reduceEqDiff,reduceCtorEq,reduceLeDiff,reduceAdd,reduceLT,Z9,Z8,Z7,h9]));(try simp +contextual (disch:=omega) only[Z2,Z9,Z8,Z7,h9]);(with_reducible repeat' (first|intro h|refine And.intro (by omega) ?_ | refine exP (by omega) ?_ | apply And.intro)));(repeat' (have h:=Z0 h;simp only[Z1,ZY,Z3,ZZ,and_true,true_and] at h;((try refine qI ?_);(repeat ((first|with_reducible refine qU ?_ | simp only[Z5]);try simp (maxSteps:=9^7) only[↓ S2,S2,ZT,↓reduceIte,reduceNe,reduceEqDiff,reduceCtorEq,reduceLeDiff,reduceAdd,reduceLT,Z9,Z8,Z7,h9,h]));(try simp +contextual (disch:=omega) only[Z2,Z9,Z8,Z7,h9,h]);(with_reducible repeat' (first|intro h|refine And.intro (by omega) ?_ | refine exP (by omega) ?_ | apply And.intro))))))
 have hsm:smGr g:=drG_sm hg.1
 refine ⟨.val (mkS (fmtT g t)),(GCalls.lend (R:=fun v H1=>v = .val (mkS (fmtT g t))∧H1=[]) (fun H0=>((w8 g t hsm (by have:=ht.2.2;omega) (fun x hx=>by have:=(ht.1 x hx).1;omega) (fun x hx=>by have h16:x.rule.size≤16:=(ht.1 x hx).2;rw[Zo] at h16;omega)).frame H0).mono fun v H' ⟨e1,e2⟩=>⟨[],⟨e1,rfl⟩,e2⟩) (.cons .refl (.cons (bor_TrK ZX rfl) .nil)) (by rintro v H1 ⟨rfl,rfl⟩;exact ⟨rfl,rfl⟩)).mono fun v H' ⟨H1,⟨e1,e2⟩,e3⟩=>⟨e1,by rw[e3,e2];rfl⟩,?_⟩
 have hA:=fmtT0_ascV (t:=t) hg.2
 have hL:=fmtT0_lenV (t:=t) hg.2
 change asc (fmtT g t) at hA
 change (fmtT g t).length ≤ 512 at hL
 generalize fmtT g t=z at *
 (((try refine qI ?_);(repeat ((first|with_reducible refine qU ?_ | simp only[Z5]);try simp (maxSteps:=9^7) only[↓ S2,S2,ZT,↓reduceIte,reduceNe,reduceEqDiff,reduceCtorEq,reduceLeDiff,reduceAdd,reduceLT,Z9,Z8,Z7,h9]));(try simp +contextual (disch:=omega) only[Z2,Z9,Z8,Z7,h9]);(with_reducible repeat' (first|intro h|refine And.intro (by omega) ?_ | refine exP (by omega) ?_ | apply And.intro)));(repeat' (have h:=Z0 h;simp only[Z1,ZY,Z3,ZZ,and_true,true_and] at h;((try refine qI ?_);(repeat ((first|with_reducible refine qU ?_ | simp only[Z5]);try simp (maxSteps:=9^7) only[↓ S2,S2,ZT,↓reduceIte,reduceNe,reduceEqDiff,reduceCtorEq,reduceLeDiff,reduceAdd,reduceLT,Z9,Z8,Z7,h9,h]));(try simp +contextual (disch:=omega) only[Z2,Z9,Z8,Z7,h9,h]);(with_reducible repeat' (first|intro h|refine And.intro (by omega) ?_ | refine exP (by omega) ?_ | apply And.intro))))))
 refine callA.dv (wa29 (bA z) (by rw[chA];omega) (by rw[chA];exact hA) _ rfl (by simp) rfl) (by simp only[Z9, *,if_true,if_false]) ?_
 rintro _ ⟨u,hu1,hu2,rfl⟩
 have e1:(Z6 (bA z)).length = z.length:=congrArg List.length (chA z)
 (((try refine qI ?_);(repeat ((first|with_reducible refine qU ?_ | simp only[Z5]);try simp (maxSteps:=9^7) only[↓ S2,S2,ZT,↓reduceIte,reduceNe,reduceEqDiff,reduceCtorEq,reduceLeDiff,reduceAdd,reduceLT,Z9,Z8,Z7,h9]));(try simp +contextual (disch:=omega) only[Z2,Z9,Z8,Z7,h9]);(with_reducible repeat' (first|intro h|refine And.intro (by omega) ?_ | refine exP (by omega) ?_ | apply And.intro)));(repeat' (have h:=Z0 h;simp only[Z1,ZY,Z3,ZZ,and_true,true_and] at h;((try refine qI ?_);(repeat ((first|with_reducible refine qU ?_ | simp only[Z5]);try simp (maxSteps:=9^7) only[↓ S2,S2,ZT,↓reduceIte,reduceNe,reduceEqDiff,reduceCtorEq,reduceLeDiff,reduceAdd,reduceLT,Z9,Z8,Z7,h9,h]));(try simp +contextual (disch:=omega) only[Z2,Z9,Z8,Z7,h9,h]);(with_reducible repeat' (first|intro h|refine And.intro (by omega) ?_ | refine exP (by omega) ?_ | apply And.intro))))))
 refine callA.dv (w30 _ rfl (by simp)) (by simp only[Z9, *,if_true,if_false]) ?_
 intro _ hg2
 obtain ⟨f,hf,rfl⟩:=YK (lo:=0) (hi:=999) rfl hg2
 (((try refine qI ?_);(repeat ((first|with_reducible refine qU ?_ | simp only[Z5]);try simp (maxSteps:=9^7) only[↓ S2,S2,ZT,↓reduceIte,reduceNe,reduceEqDiff,reduceCtorEq,reduceLeDiff,reduceAdd,reduceLT,Z9,Z8,Z7,h9]));(try simp +contextual (disch:=omega) only[Z2,Z9,Z8,Z7,h9]);(with_reducible repeat' (first|intro h|refine And.intro (by omega) ?_ | refine exP (by omega) ?_ | apply And.intro)));(repeat' (have h:=Z0 h;simp only[Z1,ZY,Z3,ZZ,and_true,true_and] at h;((try refine qI ?_);(repeat ((first|with_reducible refine qU ?_ | simp only[Z5]);try simp (maxSteps:=9^7) only[↓ S2,S2,ZT,↓reduceIte,reduceNe,reduceEqDiff,reduceCtorEq,reduceLeDiff,reduceAdd,reduceLT,Z9,Z8,Z7,h9,h]));(try simp +contextual (disch:=omega) only[Z2,Z9,Z8,Z7,h9,h]);(with_reducible repeat' (first|intro h|refine And.intro (by omega) ?_ | refine exP (by omega) ?_ | apply And.intro))))))
 exact ⟨g,u,f,hg,hu2,by omega,hf,rfl⟩
end Go.Proofs.YtmdfoigdflaliaaGreatDoor
