/- The tied card of the law holds. No condition. -/
import Derived.Test.YtcegkonjphbfaaaGreatDoorPru15
import Derived.Test.YtcegkonjphbfaaaGreatDoorPru16
set_option maxHeartbeats 40000000
set_option maxRecDepth 20000
set_option linter.unusedSimpArgs false
set_option linter.unusedVariables false
namespace Go.Proofs.YtcegkonjphbfaaaGreatDoor
open Go.Gh
open Nat (reduceEqDiff reduceLeDiff reduceAdd reduceLT)
open Int (reduceNe)
open Go.Lib
theorem w39 (t:List Eqn) (f:Nat) (cs:List GV) (hp:∀x∈t,Pu f (Qn x::Qn x::cs) (· = B true)) :
 Pu 39 [QnS t,QnS t,.clo f cs] (· = B true):=by
 refine GCalls.lenA fun hl=> ?_
 have hlen:=hl.1.1
 simp only[List.length_map,Y2] at hlen
 refine Z8 mxd i39 rfl (by simp) ?_;simp (maxSteps:=9^7) only[↓ S2,S2,Yt,↓reduceIte,reduceNe,reduceEqDiff,reduceCtorEq,reduceLeDiff,reduceAdd,reduceLT]
 ((try refine qI ?_);(repeat ((first|with_reducible refine qU ?_ | simp only[YD]);try simp (maxSteps:=9^7) +contextual only[↓ S2,S2,↓reduceIte,reduceNe,reduceEqDiff,reduceCtorEq,reduceLeDiff,reduceAdd,reduceLT,VQ,List.length_map]));(try simp +contextual (disch:=omega) only[Z2,List.length_map]);(with_reducible repeat' (first|intro h|refine And.intro (by omega) ?_ | refine exP (by omega) ?_ | apply And.intro)))
 all_goals try exact oF
 refine Y3 mxd (ι:={ i:Nat // i≤t.length }) (fun i=>[(0,QnS t),(15,QnS t),(1,QnS t),(2,.clo f cs),(16,I t.length),(17,I i.1)]) (fun _ => []) (fun i=>t.length-i.1) ⟨0,by omega⟩ (by simp[E2]) rfl ?_
 rintro ⟨i,hi⟩
 dsimp only
 rcases nL i t.length with hlt|hge
 ·((try refine qI ?_);(repeat ((first|with_reducible refine qU ?_ | simp only[YD]);try simp (maxSteps:=9^7) +contextual only[↓ S2,S2,↓reduceIte,reduceNe,reduceEqDiff,reduceCtorEq,reduceLeDiff,reduceAdd,reduceLT,VQ,hlt]));(try simp +contextual (disch:=omega) only[Z2,hlt]);(with_reducible repeat' (first|intro h|refine And.intro (by omega) ?_ | refine exP (by omega) ?_ | apply And.intro)))
  all_goals try exact oF
  refine callS.eq (hp t[i] (gM hlt)) ?_
  ((try refine qI ?_);(repeat ((first|with_reducible refine qU ?_ | simp only[YD]);try simp (maxSteps:=9^7) +contextual only[↓ S2,S2,↓reduceIte,reduceNe,reduceEqDiff,reduceCtorEq,reduceLeDiff,reduceAdd,reduceLT,VQ,]));(try simp +contextual (disch:=omega) only[Z2,]);(with_reducible repeat' (first|intro h|refine And.intro (by omega) ?_ | refine exP (by omega) ?_ | apply And.intro)))
  all_goals exact nx ⟨i+1,by omega⟩ (by simp<;>omega) (by simp[E2]) rfl
 ·((try refine qI ?_);(repeat ((first|with_reducible refine qU ?_ | simp only[YD]);try simp (maxSteps:=9^7) +contextual only[↓ S2,S2,↓reduceIte,reduceNe,reduceEqDiff,reduceCtorEq,reduceLeDiff,reduceAdd,reduceLT,VQ,]));(try simp +contextual (disch:=omega) only[Z2,]);(with_reducible repeat' (first|intro h|refine And.intro (by omega) ?_ | refine exP (by omega) ?_ | apply And.intro)))
  all_goals try exact oF
theorem w40 (x:Eqn):Pu 40 [Qn x,Qn x] (· = B true):=by
 have he:=w41 x.expr
 rw[Zw] at he
 refine Z8 mxd i40 rfl (by simp) ?_;simp (maxSteps:=9^7) only[↓ S2,S2,Yt,↓reduceIte,reduceNe,reduceEqDiff,reduceCtorEq,reduceLeDiff,reduceAdd,reduceLT]
 ((try refine qI ?_);(repeat ((first|with_reducible refine qU ?_ | simp only[YD]);try simp (maxSteps:=9^7) +contextual only[↓ S2,S2,↓reduceIte,reduceNe,reduceEqDiff,reduceCtorEq,reduceLeDiff,reduceAdd,reduceLT,VQ,decide_true]));(try simp +contextual (disch:=omega) only[Z2,decide_true]);(with_reducible repeat' (first|intro h|refine And.intro (by omega) ?_ | refine exP (by omega) ?_ | apply And.intro)))
 refine callS.eq he ?_
 ((try refine qI ?_);(repeat ((first|with_reducible refine qU ?_ | simp only[YD]);try simp (maxSteps:=9^7) +contextual only[↓ S2,S2,↓reduceIte,reduceNe,reduceEqDiff,reduceCtorEq,reduceLeDiff,reduceAdd,reduceLT,VQ,]));(try simp +contextual (disch:=omega) only[Z2,]);(with_reducible repeat' (first|intro h|refine And.intro (by omega) ?_ | refine exP (by omega) ?_ | apply And.intro)))
theorem w42 (t:List Con) (f:Nat) (cs:List GV) (hp:∀x∈t,Pu f (Co x::Co x::cs) (· = B true)) :
 Pu 42 [CoS t,CoS t,.clo f cs] (· = B true):=by
 refine GCalls.lenA fun hl=> ?_
 have hlen:=hl.1.1
 simp only[List.length_map,Y2] at hlen
 refine Z8 mxd i42 rfl (by simp) ?_;simp (maxSteps:=9^7) only[↓ S2,S2,Yt,↓reduceIte,reduceNe,reduceEqDiff,reduceCtorEq,reduceLeDiff,reduceAdd,reduceLT]
 ((try refine qI ?_);(repeat ((first|with_reducible refine qU ?_ | simp only[YD]);try simp (maxSteps:=9^7) +contextual only[↓ S2,S2,↓reduceIte,reduceNe,reduceEqDiff,reduceCtorEq,reduceLeDiff,reduceAdd,reduceLT,VQ,List.length_map]));(try simp +contextual (disch:=omega) only[Z2,List.length_map]);(with_reducible repeat' (first|intro h|refine And.intro (by omega) ?_ | refine exP (by omega) ?_ | apply And.intro)))
 all_goals try exact oF
 refine Y3 mxd (ι:={ i:Nat // i≤t.length }) (fun i=>[(0,CoS t),(15,CoS t),(1,CoS t),(2,.clo f cs),(16,I t.length),(17,I i.1)]) (fun _ => []) (fun i=>t.length-i.1) ⟨0,by omega⟩ (by simp[E2]) rfl ?_
 rintro ⟨i,hi⟩
 dsimp only
 rcases nL i t.length with hlt|hge
 ·((try refine qI ?_);(repeat ((first|with_reducible refine qU ?_ | simp only[YD]);try simp (maxSteps:=9^7) +contextual only[↓ S2,S2,↓reduceIte,reduceNe,reduceEqDiff,reduceCtorEq,reduceLeDiff,reduceAdd,reduceLT,VQ,hlt]));(try simp +contextual (disch:=omega) only[Z2,hlt]);(with_reducible repeat' (first|intro h|refine And.intro (by omega) ?_ | refine exP (by omega) ?_ | apply And.intro)))
  all_goals try exact oF
  refine callS.eq (hp t[i] (gM hlt)) ?_
  ((try refine qI ?_);(repeat ((first|with_reducible refine qU ?_ | simp only[YD]);try simp (maxSteps:=9^7) +contextual only[↓ S2,S2,↓reduceIte,reduceNe,reduceEqDiff,reduceCtorEq,reduceLeDiff,reduceAdd,reduceLT,VQ,]));(try simp +contextual (disch:=omega) only[Z2,]);(with_reducible repeat' (first|intro h|refine And.intro (by omega) ?_ | refine exP (by omega) ?_ | apply And.intro)))
  all_goals exact nx ⟨i+1,by omega⟩ (by simp<;>omega) (by simp[E2]) rfl
 ·((try refine qI ?_);(repeat ((first|with_reducible refine qU ?_ | simp only[YD]);try simp (maxSteps:=9^7) +contextual only[↓ S2,S2,↓reduceIte,reduceNe,reduceEqDiff,reduceCtorEq,reduceLeDiff,reduceAdd,reduceLT,VQ,]));(try simp +contextual (disch:=omega) only[Z2,]);(with_reducible repeat' (first|intro h|refine And.intro (by omega) ?_ | refine exP (by omega) ?_ | apply And.intro)))
  all_goals try exact oF
theorem w43 (x:Con):Pu 43 [Co x,Co x] (· = B true):=by
 have he:=w41 x.goal
 have hf:=w41 x.value
 rw[Zw] at he hf
 refine Z8 mxd i43 rfl (by simp) ?_;simp (maxSteps:=9^7) only[↓ S2,S2,Yt,↓reduceIte,reduceNe,reduceEqDiff,reduceCtorEq,reduceLeDiff,reduceAdd,reduceLT]
 ((try refine qI ?_);(repeat ((first|with_reducible refine qU ?_ | simp only[YD]);try simp (maxSteps:=9^7) +contextual only[↓ S2,S2,↓reduceIte,reduceNe,reduceEqDiff,reduceCtorEq,reduceLeDiff,reduceAdd,reduceLT,VQ,decide_true]));(try simp +contextual (disch:=omega) only[Z2,decide_true]);(with_reducible repeat' (first|intro h|refine And.intro (by omega) ?_ | refine exP (by omega) ?_ | apply And.intro)))
 refine callS.eq he ?_
 ((try refine qI ?_);(repeat ((first|with_reducible refine qU ?_ | simp only[YD]);try simp (maxSteps:=9^7) +contextual only[↓ S2,S2,↓reduceIte,reduceNe,reduceEqDiff,reduceCtorEq,reduceLeDiff,reduceAdd,reduceLT,VQ,]));(try simp +contextual (disch:=omega) only[Z2,]);(with_reducible repeat' (first|intro h|refine And.intro (by omega) ?_ | refine exP (by omega) ?_ | apply And.intro)))
 refine callS.eq hf ?_
 ((try refine qI ?_);(repeat ((first|with_reducible refine qU ?_ | simp only[YD]);try simp (maxSteps:=9^7) +contextual only[↓ S2,S2,↓reduceIte,reduceNe,reduceEqDiff,reduceCtorEq,reduceLeDiff,reduceAdd,reduceLT,VQ,]));(try simp +contextual (disch:=omega) only[Z2,]);(with_reducible repeat' (first|intro h|refine And.intro (by omega) ?_ | refine exP (by omega) ?_ | apply And.intro)))
theorem w12 (r:Rul):Pu 12 [Ru r,Ru r] (· = B true):=by
 have h1:=w31 r.right r.right
 rw[decide_eq_true rfl] at h1
 have h2:=w39 r.eqs 40 [] fun x _ => w40 x
 have h3:=w42 r.cons 43 [] fun x _ => w43 x
 refine Z8 mxd i12 rfl (by simp) ?_;simp (maxSteps:=9^7) only[↓ S2,S2,Yt,↓reduceIte,reduceNe,reduceEqDiff,reduceCtorEq,reduceLeDiff,reduceAdd,reduceLT]
 ((try refine qI ?_);(repeat ((first|with_reducible refine qU ?_ | simp only[YD]);try simp (maxSteps:=9^7) +contextual only[↓ S2,S2,↓reduceIte,reduceNe,reduceEqDiff,reduceCtorEq,reduceLeDiff,reduceAdd,reduceLT,VQ,decide_true]));(try simp +contextual (disch:=omega) only[Z2,decide_true]);(with_reducible repeat' (first|intro h|refine And.intro (by omega) ?_ | refine exP (by omega) ?_ | apply And.intro)))
 refine callS.eq h1 ?_
 ((try refine qI ?_);(repeat ((first|with_reducible refine qU ?_ | simp only[YD]);try simp (maxSteps:=9^7) +contextual only[↓ S2,S2,↓reduceIte,reduceNe,reduceEqDiff,reduceCtorEq,reduceLeDiff,reduceAdd,reduceLT,VQ,]));(try simp +contextual (disch:=omega) only[Z2,]);(with_reducible repeat' (first|intro h|refine And.intro (by omega) ?_ | refine exP (by omega) ?_ | apply And.intro)))
 refine callS.eq h2 ?_
 ((try refine qI ?_);(repeat ((first|with_reducible refine qU ?_ | simp only[YD]);try simp (maxSteps:=9^7) +contextual only[↓ S2,S2,↓reduceIte,reduceNe,reduceEqDiff,reduceCtorEq,reduceLeDiff,reduceAdd,reduceLT,VQ,]));(try simp +contextual (disch:=omega) only[Z2,]);(with_reducible repeat' (first|intro h|refine And.intro (by omega) ?_ | refine exP (by omega) ?_ | apply And.intro)))
 refine callS.eq h3 ?_
 ((try refine qI ?_);(repeat ((first|with_reducible refine qU ?_ | simp only[YD]);try simp (maxSteps:=9^7) +contextual only[↓ S2,S2,↓reduceIte,reduceNe,reduceEqDiff,reduceCtorEq,reduceLeDiff,reduceAdd,reduceLT,VQ,]));(try simp +contextual (disch:=omega) only[Z2,]);(with_reducible repeat' (first|intro h|refine And.intro (by omega) ?_ | refine exP (by omega) ?_ | apply And.intro)))
theorem w6 (bs:List UInt8) (hb:bs.length≤1048576):Pu 6 [Bs bs] (fun v=>∃r,shRu r∧v=Ru r):=by
 refine Z8 mxd i6 rfl (by simp) ?_;simp (maxSteps:=9^7) only[↓ S2,S2,Yt,↓reduceIte,reduceNe,reduceEqDiff,reduceCtorEq,reduceLeDiff,reduceAdd,reduceLT]
 (((try refine qI ?_);(repeat ((first|with_reducible refine qU ?_ | simp only[YD]);try simp (maxSteps:=9^7) only[↓ S2,S2,Yt,↓reduceIte,reduceNe,reduceEqDiff,reduceCtorEq,reduceLeDiff,reduceAdd,reduceLT,Z4,ZR,ZS]));(try simp +contextual (disch:=omega) only[Z2,Z4,ZR,ZS]);(with_reducible repeat' (first|intro h|refine And.intro (by omega) ?_ | refine exP (by omega) ?_ | apply And.intro)));(repeat' (have h:=ZP h;simp only[ZD,Zy,ZH,ZA,and_true,true_and] at h;((try refine qI ?_);(repeat ((first|with_reducible refine qU ?_ | simp only[YD]);try simp (maxSteps:=9^7) only[↓ S2,S2,Yt,↓reduceIte,reduceNe,reduceEqDiff,reduceCtorEq,reduceLeDiff,reduceAdd,reduceLT,Z4,ZR,ZS,h]));(try simp +contextual (disch:=omega) only[Z2,Z4,ZR,ZS,h]);(with_reducible repeat' (first|intro h|refine And.intro (by omega) ?_ | refine exP (by omega) ?_ | apply And.intro))))))
 refine callS.of (o23 bs hb _) ?_
 rintro _ _ ⟨rc,rfl,rfl⟩ hn
 (((try refine qI ?_);(repeat ((first|with_reducible refine qU ?_ | simp only[YD]);try simp (maxSteps:=9^7) only[↓ S2,S2,Yt,↓reduceIte,reduceNe,reduceEqDiff,reduceCtorEq,reduceLeDiff,reduceAdd,reduceLT,Z4,ZR,ZS]));(try simp +contextual (disch:=omega) only[Z2,Z4,ZR,ZS]);(with_reducible repeat' (first|intro h|refine And.intro (by omega) ?_ | refine exP (by omega) ?_ | apply And.intro)));(repeat' (have h:=ZP h;simp only[ZD,Zy,ZH,ZA,and_true,true_and] at h;((try refine qI ?_);(repeat ((first|with_reducible refine qU ?_ | simp only[YD]);try simp (maxSteps:=9^7) only[↓ S2,S2,Yt,↓reduceIte,reduceNe,reduceEqDiff,reduceCtorEq,reduceLeDiff,reduceAdd,reduceLT,Z4,ZR,ZS,h]));(try simp +contextual (disch:=omega) only[Z2,Z4,ZR,ZS,h]);(with_reducible repeat' (first|intro h|refine And.intro (by omega) ?_ | refine exP (by omega) ?_ | apply And.intro))))))
 refine callS.dv w22 Z6 ?_
 rintro _ ⟨r,hr,rfl⟩
 (((try refine qI ?_);(repeat ((first|with_reducible refine qU ?_ | simp only[YD]);try simp (maxSteps:=9^7) only[↓ S2,S2,Yt,↓reduceIte,reduceNe,reduceEqDiff,reduceCtorEq,reduceLeDiff,reduceAdd,reduceLT,Z4,ZR,ZS]));(try simp +contextual (disch:=omega) only[Z2,Z4,ZR,ZS]);(with_reducible repeat' (first|intro h|refine And.intro (by omega) ?_ | refine exP (by omega) ?_ | apply And.intro)));(repeat' (have h:=ZP h;simp only[ZD,Zy,ZH,ZA,and_true,true_and] at h;((try refine qI ?_);(repeat ((first|with_reducible refine qU ?_ | simp only[YD]);try simp (maxSteps:=9^7) only[↓ S2,S2,Yt,↓reduceIte,reduceNe,reduceEqDiff,reduceCtorEq,reduceLeDiff,reduceAdd,reduceLT,Z4,ZR,ZS,h]));(try simp +contextual (disch:=omega) only[Z2,Z4,ZR,ZS,h]);(with_reducible repeat' (first|intro h|refine And.intro (by omega) ?_ | refine exP (by omega) ?_ | apply And.intro))))))
 exact ⟨r,hr,rfl⟩
theorem w14 (bs:List UInt8) (hb:bs.length≤1048576):Pu 14 [Bs bs] (fun v=>∃t:List ByteArray,t.length≤8∧(∀x∈t,(Z9 x).length ≤ 1000000)∧v=TS t):=by
 refine Pure.borE ?_
 refine Z8 mxd i14 rfl (by simp) ?_;simp (maxSteps:=9^7) only[↓ S2,S2,Yt,↓reduceIte,reduceNe,reduceEqDiff,reduceCtorEq,reduceLeDiff,reduceAdd,reduceLT]
 (((try refine qI ?_);(repeat ((first|with_reducible refine qU ?_ | simp only[YD]);try simp (maxSteps:=9^7) only[↓ S2,S2,Yt,↓reduceIte,reduceNe,reduceEqDiff,reduceCtorEq,reduceLeDiff,reduceAdd,reduceLT,Z4,ZR,ZS]));(try simp +contextual (disch:=omega) only[Z2,Z4,ZR,ZS]);(with_reducible repeat' (first|intro h|refine And.intro (by omega) ?_ | refine exP (by omega) ?_ | apply And.intro)));(repeat' (have h:=ZP h;simp only[ZD,Zy,ZH,ZA,and_true,true_and] at h;((try refine qI ?_);(repeat ((first|with_reducible refine qU ?_ | simp only[YD]);try simp (maxSteps:=9^7) only[↓ S2,S2,Yt,↓reduceIte,reduceNe,reduceEqDiff,reduceCtorEq,reduceLeDiff,reduceAdd,reduceLT,Z4,ZR,ZS,h]));(try simp +contextual (disch:=omega) only[Z2,Z4,ZR,ZS,h]);(with_reducible repeat' (first|intro h|refine And.intro (by omega) ?_ | refine exP (by omega) ?_ | apply And.intro))))))
 refine callS.of (o23 bs hb _) ?_
 rintro _ _ ⟨rc,rfl,rfl⟩ hn
 (((try refine qI ?_);(repeat ((first|with_reducible refine qU ?_ | simp only[YD]);try simp (maxSteps:=9^7) only[↓ S2,S2,Yt,↓reduceIte,reduceNe,reduceEqDiff,reduceCtorEq,reduceLeDiff,reduceAdd,reduceLT,Z4,ZR,ZS]));(try simp +contextual (disch:=omega) only[Z2,Z4,ZR,ZS]);(with_reducible repeat' (first|intro h|refine And.intro (by omega) ?_ | refine exP (by omega) ?_ | apply And.intro)));(repeat' (have h:=ZP h;simp only[ZD,Zy,ZH,ZA,and_true,true_and] at h;((try refine qI ?_);(repeat ((first|with_reducible refine qU ?_ | simp only[YD]);try simp (maxSteps:=9^7) only[↓ S2,S2,Yt,↓reduceIte,reduceNe,reduceEqDiff,reduceCtorEq,reduceLeDiff,reduceAdd,reduceLT,Z4,ZR,ZS,h]));(try simp +contextual (disch:=omega) only[Z2,Z4,ZR,ZS,h]);(with_reducible repeat' (first|intro h|refine And.intro (by omega) ?_ | refine exP (by omega) ?_ | apply And.intro))))))
 refine callS.dc z47 Z6 ?_
 rintro _ _ ⟨r,q1,q2,hr,rfl,rfl⟩ hn
 have h4:=ZP hn
 simp only[List.cons_append,List.nil_append] at h4
 (replace h4:=h4;simp only[VN] at h4)
 have hsh:=frR_sh hr
 have hf:∀H0,Gc 10 [Ru r] H0 (fun g H'=>∃H1,(∃q,g = .own q 1 0 (Zp r).length ∧ H1=[(q,1,((Zp r).map bA).map T)])∧H'=H1++H0):=fun H0=>
  (o10 r (shRu_ok hsh) (shRu_sm hsh) H0).mono fun g H' ⟨q,h1,h2⟩=>⟨_,⟨q,h1,rfl⟩,h2⟩
 have hlen:=frR_len hr
 have hch:=fmtR_ch (r:=r)
 (((try refine qI ?_);(repeat ((first|with_reducible refine qU ?_ | simp only[YD]);try simp (maxSteps:=9^7) only[↓ S2,S2,Yt,↓reduceIte,reduceNe,reduceEqDiff,reduceCtorEq,reduceLeDiff,reduceAdd,reduceLT,Z4,ZR,ZS,h4]));(try simp +contextual (disch:=omega) only[Z2,Z4,ZR,ZS,h4]);(with_reducible repeat' (first|intro h|refine And.intro (by omega) ?_ | refine exP (by omega) ?_ | apply And.intro)));(repeat' (have h:=ZP h;simp only[ZD,Zy,ZH,ZA,and_true,true_and] at h;((try refine qI ?_);(repeat ((first|with_reducible refine qU ?_ | simp only[YD]);try simp (maxSteps:=9^7) only[↓ S2,S2,Yt,↓reduceIte,reduceNe,reduceEqDiff,reduceCtorEq,reduceLeDiff,reduceAdd,reduceLT,Z4,ZR,ZS,h4,h]));(try simp +contextual (disch:=omega) only[Z2,Z4,ZR,ZS,h4,h]);(with_reducible repeat' (first|intro h|refine And.intro (by omega) ?_ | refine exP (by omega) ?_ | apply And.intro))))))
 refine callS.lend hf (.cons (bor_RuF (r:=r) (L:=r.right) (by simp only[Z4,h4,if_true,if_false]) (Nat.le_refl _) List.take_length Z6 rfl) .nil) (by rintro v H1 ⟨q,rfl,rfl⟩;simp[noD,noDL,noDH,noDL_eq]) ?_
 rintro _ _ ⟨q,rfl,rfl⟩ hn3
 have h6:=ZP hn3
 simp only[List.cons_append,List.nil_append] at h6 ⊢
 (replace h6:=h6;simp only[VN] at h6)
 clear hf
 generalize Zp r=F at *
 have hend:∀(L:List ByteArray) (n:Nat) (H:GH),L.length=n→n≤8→(∀x∈L,(Z9 x).length ≤ 1000000)→∃G,(∃t:List ByteArray,t.length≤8∧(∀x∈t,(Z9 x).length ≤ 1000000)∧G=TS t)∧Bor ((q,1,L.map T)::H) (.own q 1 0 n) G:=fun L n H h1 h2 h3=>
  ⟨_,⟨L,by omega,h3,rfl⟩,Bor.seen (f:=T) (fun a=>by simp[view,Y5]) Z6 h1⟩
 have hlF:(F.map bA).length = F.length:=List.length_map ..
 have hcF:∀x∈F.map bA,(Z9 x).length ≤ 10000:=fun x hx=>by
  obtain ⟨y,hy,rfl⟩:=List.mem_map.1 hx
  rw[chA];exact hch y hy
 generalize F.map bA=L at *
 have hl5:L.length≤5:=by omega
 rw[←hlF]
 (((try refine qI ?_);(repeat ((first|with_reducible refine qU ?_ | simp only[YD]);try simp (maxSteps:=9^7) only[↓ S2,S2,Yt,↓reduceIte,reduceNe,reduceEqDiff,reduceCtorEq,reduceLeDiff,reduceAdd,reduceLT,Z4,ZR,ZS,h4,h6]));(try simp +contextual (disch:=omega) only[Z2,Z4,ZR,ZS,h4,h6]);(with_reducible repeat' (first|intro h|refine And.intro (by omega) ?_ | refine exP (by omega) ?_ | apply And.intro)));(repeat' (have h:=ZP h;simp only[ZD,Zy,ZH,ZA,and_true,true_and] at h;((try refine qI ?_);(repeat ((first|with_reducible refine qU ?_ | simp only[YD]);try simp (maxSteps:=9^7) only[↓ S2,S2,Yt,↓reduceIte,reduceNe,reduceEqDiff,reduceCtorEq,reduceLeDiff,reduceAdd,reduceLT,Z4,ZR,ZS,h4,h6,h]));(try simp +contextual (disch:=omega) only[Z2,Z4,ZR,ZS,h4,h6,h]);(with_reducible repeat' (first|intro h|refine And.intro (by omega) ?_ | refine exP (by omega) ?_ | apply And.intro))))))
 ·refine callS.dv (w48 2) (by simp only[Z4,h4,h6,if_true,if_false]) ?_
  rintro _ ⟨b,rfl⟩
  cases b
  ·(((try refine qI ?_);(repeat ((first|with_reducible refine qU ?_ | simp only[YD]);try simp (maxSteps:=9^7) only[↓ S2,S2,Yt,↓reduceIte,reduceNe,reduceEqDiff,reduceCtorEq,reduceLeDiff,reduceAdd,reduceLT,Z4,ZR,ZS,h4,h6]));(try simp +contextual (disch:=omega) only[Z2,Z4,ZR,ZS,h4,h6]);(with_reducible repeat' (first|intro h|refine And.intro (by omega) ?_ | refine exP (by omega) ?_ | apply And.intro)));(repeat' (have h:=ZP h;simp only[ZD,Zy,ZH,ZA,and_true,true_and] at h;((try refine qI ?_);(repeat ((first|with_reducible refine qU ?_ | simp only[YD]);try simp (maxSteps:=9^7) only[↓ S2,S2,Yt,↓reduceIte,reduceNe,reduceEqDiff,reduceCtorEq,reduceLeDiff,reduceAdd,reduceLT,Z4,ZR,ZS,h4,h6,h]));(try simp +contextual (disch:=omega) only[Z2,Z4,ZR,ZS,h4,h6,h]);(with_reducible repeat' (first|intro h|refine And.intro (by omega) ?_ | refine exP (by omega) ?_ | apply And.intro))))))
   exact hend _ _ _ rfl (by omega) fun x hx=>Nat.le_trans (hcF x hx) (by omega)
  ·(((try refine qI ?_);(repeat ((first|with_reducible refine qU ?_ | simp only[YD]);try simp (maxSteps:=9^7) only[↓ S2,S2,Yt,↓reduceIte,reduceNe,reduceEqDiff,reduceCtorEq,reduceLeDiff,reduceAdd,reduceLT,Z4,ZR,ZS,h4,h6]));(try simp +contextual (disch:=omega) only[Z2,Z4,ZR,ZS,h4,h6]);(with_reducible repeat' (first|intro h|refine And.intro (by omega) ?_ | refine exP (by omega) ?_ | apply And.intro)));(repeat' (have h:=ZP h;simp only[ZD,Zy,ZH,ZA,and_true,true_and] at h;((try refine qI ?_);(repeat ((first|with_reducible refine qU ?_ | simp only[YD]);try simp (maxSteps:=9^7) only[↓ S2,S2,Yt,↓reduceIte,reduceNe,reduceEqDiff,reduceCtorEq,reduceLeDiff,reduceAdd,reduceLT,Z4,ZR,ZS,h4,h6,h]));(try simp +contextual (disch:=omega) only[Z2,Z4,ZR,ZS,h4,h6,h]);(with_reducible repeat' (first|intro h|refine And.intro (by omega) ?_ | refine exP (by omega) ?_ | apply And.intro))))))
   refine callS.dv (wz49 L.length (by omega)) (by simp only[Z4,h4,h6,if_true,if_false]) ?_
   rintro _ ⟨k,hk,rfl⟩
   (((try refine qI ?_);(repeat ((first|with_reducible refine qU ?_ | simp only[YD]);try simp (maxSteps:=9^7) only[↓ S2,S2,Yt,↓reduceIte,reduceNe,reduceEqDiff,reduceCtorEq,reduceLeDiff,reduceAdd,reduceLT,Z4,ZR,ZS,h4,h6,List.length_map,hk,List.getElem_map]));(try simp +contextual (disch:=omega) only[Z2,Z4,ZR,ZS,h4,h6,List.length_map,hk,List.getElem_map]);(with_reducible repeat' (first|intro h|refine And.intro (by omega) ?_ | refine exP (by omega) ?_ | apply And.intro)));(repeat' (have h:=ZP h;simp only[ZD,Zy,ZH,ZA,and_true,true_and] at h;((try refine qI ?_);(repeat ((first|with_reducible refine qU ?_ | simp only[YD]);try simp (maxSteps:=9^7) only[↓ S2,S2,Yt,↓reduceIte,reduceNe,reduceEqDiff,reduceCtorEq,reduceLeDiff,reduceAdd,reduceLT,Z4,ZR,ZS,h4,h6,List.length_map,hk,List.getElem_map,h]));(try simp +contextual (disch:=omega) only[Z2,Z4,ZR,ZS,h4,h6,List.length_map,hk,List.getElem_map,h]);(with_reducible repeat' (first|intro h|refine And.intro (by omega) ?_ | refine exP (by omega) ?_ | apply And.intro))))))
   refine callS.dv (w50 L[k] (Nat.le_trans (hcF _ (gM _)) (by omega)) _ rfl (by simp) rfl) (by simp only[Z4,h4,h6,if_true,if_false]) ?_
   rintro _ ⟨t,ht,rfl⟩
   (((try refine qI ?_);(repeat ((first|with_reducible refine qU ?_ | simp only[YD]);try simp (maxSteps:=9^7) only[↓ S2,S2,Yt,↓reduceIte,reduceNe,reduceEqDiff,reduceCtorEq,reduceLeDiff,reduceAdd,reduceLT,Z4,ZR,ZS,h4,h6,List.length_map,hk,List.getElem_map]));(try simp +contextual (disch:=omega) only[Z2,Z4,ZR,ZS,h4,h6,List.length_map,hk,List.getElem_map]);(with_reducible repeat' (first|intro h|refine And.intro (by omega) ?_ | refine exP (by omega) ?_ | apply And.intro)));(repeat' (have h:=ZP h;simp only[ZD,Zy,ZH,ZA,and_true,true_and] at h;((try refine qI ?_);(repeat ((first|with_reducible refine qU ?_ | simp only[YD]);try simp (maxSteps:=9^7) only[↓ S2,S2,Yt,↓reduceIte,reduceNe,reduceEqDiff,reduceCtorEq,reduceLeDiff,reduceAdd,reduceLT,Z4,ZR,ZS,h4,h6,List.length_map,hk,List.getElem_map,h]));(try simp +contextual (disch:=omega) only[Z2,Z4,ZR,ZS,h4,h6,List.length_map,hk,List.getElem_map,h]);(with_reducible repeat' (first|intro h|refine And.intro (by omega) ?_ | refine exP (by omega) ?_ | apply And.intro))))))
   have e:=List.map_set (f:=T) (l:=L) (i:=k) (a:=t)
   rw[←e]
   exact hend (L.set k t) _ _ (List.length_set ..) (by omega) fun x hx=>by
    rcases List.mem_or_eq_of_mem_set hx with hx|rfl
    ·exact Nat.le_trans (hcF x hx) (by omega)
    ·have:=hcF L[k] (gM _);omega
 ·exact hend _ _ _ rfl (by omega) fun x hx=>Nat.le_trans (hcF x hx) (by omega)
theorem w9 (xs ys:List ByteArray):Pu 9 [TS xs,TS ys] (· = B (decide (xs=ys))):=by
 refine GCalls.lenA fun hl=> ?_
 have hl:=hl.1.1
 simp only[List.length_map,Y2] at hl
 refine Z8 mxd i9 rfl (by simp) ?_;simp (maxSteps:=9^7) only[↓ S2,S2,Yt,↓reduceIte,reduceNe,reduceEqDiff,reduceCtorEq,reduceLeDiff,reduceAdd,reduceLT]
 ((try refine qI ?_);(repeat ((first|with_reducible refine qU ?_ | simp only[YD]);try simp (maxSteps:=9^7) only[↓ S2,S2,Yt,↓reduceIte,reduceNe,reduceEqDiff,reduceCtorEq,reduceLeDiff,reduceAdd,reduceLT]));(try simp +contextual (disch:=omega) only[Z2]);(with_reducible repeat' (first|intro h|refine And.intro (by omega) ?_ | refine exP (by omega) ?_ | apply And.intro)))
 rotate_left
 ·simp;rintro rfl;exact h rfl
 refine Y3 mxd (ι:={ i:Nat // i≤xs.length∧xs.take i=ys.take i }) (fun i=>[(0,TS xs),(1,TS ys),(5,I i.1)]) (fun _ => []) (fun i=>xs.length-i.1) ⟨0,by simp⟩ (by simp[E2]) rfl ?_
 rintro ⟨i,hi,hp⟩
 ((try refine qI ?_);(repeat ((first|with_reducible refine qU ?_ | simp only[YD]);try simp (maxSteps:=9^7) only[↓ S2,S2,Yt,↓reduceIte,reduceNe,reduceEqDiff,reduceCtorEq,reduceLeDiff,reduceAdd,reduceLT]));(try simp +contextual (disch:=omega) only[Z2]);(with_reducible repeat' (first|intro h|refine And.intro (by omega) ?_ | refine exP (by omega) ?_ | apply And.intro)))
 ·exact nx ⟨i+1,by omega,take_eq_step hp (by omega) (by omega) h⟩ (by simp;omega) (by simp[E2]) rfl
 ·simp;rintro rfl;simp at h
 ·have:i=xs.length:=by omega
  subst this
  rw[tL (by omega),tL (by omega)] at hp
  simp[hp]
theorem p3 (bs:List UInt8):PureT Tryz.prog Tryz.tb 3 [Bs bs] (· = B true):=by
 refine (?_ : GCalls _ _ _ _ _)
 refine GCalls.mono (R:=fun g _ => g=B true) ?_ fun _ _ h=>h
 refine gstartG i3 rfl (by simp) ?_
 refine gwpS mxd ?_
 ((try refine qI ?_);(repeat ((first|with_reducible refine qU ?_ | simp only[YD]);try simp (maxSteps:=9^7) +contextual only[↓ S2,S2,↓reduceIte,reduceNe,reduceEqDiff,reduceCtorEq,reduceLeDiff,reduceAdd,reduceLT,VQ,]));(try simp +contextual (disch:=omega) only[Z2,]);(with_reducible repeat' (first|intro h|refine And.intro (by omega) ?_ | refine exP (by omega) ?_ | apply And.intro)))
 refine gwpS mxd ?_
 ((try refine qI ?_);(repeat ((first|with_reducible refine qU ?_ | simp only[YD]);try simp (maxSteps:=9^7) +contextual only[↓ S2,S2,↓reduceIte,reduceNe,reduceEqDiff,reduceCtorEq,reduceLeDiff,reduceAdd,reduceLT,VQ,]));(try simp +contextual (disch:=omega) only[Z2,]);(with_reducible repeat' (first|intro h|refine And.intro (by omega) ?_ | refine exP (by omega) ?_ | apply And.intro)))
 refine callS.eq (w5 bs) ?_
 by_cases hb:(1048576:Int)<bs.length
 ·have hb':=eq_true hb
  ((try refine qI ?_);(repeat ((first|with_reducible refine qU ?_ | simp only[YD]);try simp (maxSteps:=9^7) +contextual only[↓ S2,S2,↓reduceIte,reduceNe,reduceEqDiff,reduceCtorEq,reduceLeDiff,reduceAdd,reduceLT,VQ,hb',decide_true]));(try simp +contextual (disch:=omega) only[Z2,hb',decide_true]);(with_reducible repeat' (first|intro h|refine And.intro (by omega) ?_ | refine exP (by omega) ?_ | apply And.intro)))
 ·have hb':=eq_false hb
  ((try refine qI ?_);(repeat ((first|with_reducible refine qU ?_ | simp only[YD]);try simp (maxSteps:=9^7) +contextual only[↓ S2,S2,↓reduceIte,reduceNe,reduceEqDiff,reduceCtorEq,reduceLeDiff,reduceAdd,reduceLT,VQ,hb',decide_false]));(try simp +contextual (disch:=omega) only[Z2,hb',decide_false]);(with_reducible repeat' (first|intro h|refine And.intro (by omega) ?_ | refine exP (by omega) ?_ | apply And.intro)))
  refine gwpS mxd ?_
  ((try refine qI ?_);(repeat ((first|with_reducible refine qU ?_ | simp only[YD]);try simp (maxSteps:=9^7) +contextual only[↓ S2,S2,↓reduceIte,reduceNe,reduceEqDiff,reduceCtorEq,reduceLeDiff,reduceAdd,reduceLT,VQ,]));(try simp +contextual (disch:=omega) only[Z2,]);(with_reducible repeat' (first|intro h|refine And.intro (by omega) ?_ | refine exP (by omega) ?_ | apply And.intro)))
  refine callS.of ((w6 bs (by omega)).frame _) ?_
  rintro _ _ ⟨⟨r,hr,rfl⟩,rfl⟩ _
  have hok:=shRu_ok hr
  have hsm:=shRu_sm hr
  have q1:=p7 r hok hsm
  have q3:=w10 r hok hsm
  have q7:=w13 r hok hsm
  have hv:=fmtR_val (r:=r)
  have hn:=shR_len hr
  have hc:=fmtR_ch (r:=r)
  have hf:=parS_fore r
  have hml:((Zp r).map bA).map Z9=Zp r:=map_chA _
  have q2:=p8 ((Zp r).map bA) (by rw[List.length_map];omega) (fun l hl=>by obtain ⟨x,hx,rfl⟩:=List.mem_map.1 hl;rw[chA];exact Nat.le_trans (hc x hx) (by omega))
  have q5:=w11 ((Zp r).map bA) (by rw[List.length_map];omega) (fun l hl=>by obtain ⟨x,hx,rfl⟩:=List.mem_map.1 hl;rw[chA];exact Nat.le_trans (hc x hx) (by omega))
  rw[hml] at q2 q5
  have hlF:((Zp r).map bA).length = (Zp r).length := List.length_map ..
  have q6:=w12 r
  generalize (parS (Zp r)).getD rulZ=x at *
  generalize (parS (Zp r)).isSome = ok at *
  generalize Zp r=F at *
  generalize F.map bA=L at *
  have q4:=w9 L L
  rw[decide_eq_true rfl] at q4
  ((try refine qI ?_);(repeat ((first|with_reducible refine qU ?_ | simp only[YD]);try simp (maxSteps:=9^7) +contextual only[↓ S2,S2,↓reduceIte,reduceNe,reduceEqDiff,reduceCtorEq,reduceLeDiff,reduceAdd,reduceLT,VQ,]));(try simp +contextual (disch:=omega) only[Z2,]);(with_reducible repeat' (first|intro h|refine And.intro (by omega) ?_ | refine exP (by omega) ?_ | apply And.intro)))
  refine gwpS mxd ?_
  ((try refine qI ?_);(repeat ((first|with_reducible refine qU ?_ | simp only[YD]);try simp (maxSteps:=9^7) +contextual only[↓ S2,S2,↓reduceIte,reduceNe,reduceEqDiff,reduceCtorEq,reduceLeDiff,reduceAdd,reduceLT,VQ,]));(try simp +contextual (disch:=omega) only[Z2,]);(with_reducible repeat' (first|intro h|refine And.intro (by omega) ?_ | refine exP (by omega) ?_ | apply And.intro)))
  refine callS.eqT q1 (Zm _) Tryz.tb10 ?_
  ((try refine qI ?_);(repeat ((first|with_reducible refine qU ?_ | simp only[YD]);try simp (maxSteps:=9^7) +contextual only[↓ S2,S2,↓reduceIte,reduceNe,reduceEqDiff,reduceCtorEq,reduceLeDiff,reduceAdd,reduceLT,VQ,]));(try simp +contextual (disch:=omega) only[Z2,]);(with_reducible repeat' (first|intro h|refine And.intro (by omega) ?_ | refine exP (by omega) ?_ | apply And.intro)))
  refine gwpS mxd ?_
  ((try refine qI ?_);(repeat ((first|with_reducible refine qU ?_ | simp only[YD]);try simp (maxSteps:=9^7) +contextual only[↓ S2,S2,↓reduceIte,reduceNe,reduceEqDiff,reduceCtorEq,reduceLeDiff,reduceAdd,reduceLT,VQ,]));(try simp +contextual (disch:=omega) only[Z2,]);(with_reducible repeat' (first|intro h|refine And.intro (by omega) ?_ | refine exP (by omega) ?_ | apply And.intro)))
  refine callS.eqT q2 Tryz.tbH (fun _ h=>h) ?_
  ((try refine qI ?_);(repeat ((first|with_reducible refine qU ?_ | simp only[YD]);try simp (maxSteps:=9^7) +contextual only[↓ S2,S2,↓reduceIte,reduceNe,reduceEqDiff,reduceCtorEq,reduceLeDiff,reduceAdd,reduceLT,VQ,]));(try simp +contextual (disch:=omega) only[Z2,]);(with_reducible repeat' (first|intro h|refine And.intro (by omega) ?_ | refine exP (by omega) ?_ | apply And.intro)))
  refine gwpS mxd ?_
  ((try refine qI ?_);(repeat ((first|with_reducible refine qU ?_ | simp only[YD]);try simp (maxSteps:=9^7) +contextual only[↓ S2,S2,↓reduceIte,reduceNe,reduceEqDiff,reduceCtorEq,reduceLeDiff,reduceAdd,reduceLT,VQ,]));(try simp +contextual (disch:=omega) only[Z2,]);(with_reducible repeat' (first|intro h|refine And.intro (by omega) ?_ | refine exP (by omega) ?_ | apply And.intro)))
  refine callS.eq q3 ?_
  ((try refine qI ?_);(repeat ((first|with_reducible refine qU ?_ | simp only[YD]);try simp (maxSteps:=9^7) +contextual only[↓ S2,S2,↓reduceIte,reduceNe,reduceEqDiff,reduceCtorEq,reduceLeDiff,reduceAdd,reduceLT,VQ,]));(try simp +contextual (disch:=omega) only[Z2,]);(with_reducible repeat' (first|intro h|refine And.intro (by omega) ?_ | refine exP (by omega) ?_ | apply And.intro)))
  refine callS.eq q4 ?_
  ((try refine qI ?_);(repeat ((first|with_reducible refine qU ?_ | simp only[YD]);try simp (maxSteps:=9^7) +contextual only[↓ S2,S2,↓reduceIte,reduceNe,reduceEqDiff,reduceCtorEq,reduceLeDiff,reduceAdd,reduceLT,VQ,]));(try simp +contextual (disch:=omega) only[Z2,]);(with_reducible repeat' (first|intro h|refine And.intro (by omega) ?_ | refine exP (by omega) ?_ | apply And.intro)))
  refine gwpS mxd ?_
  ((try refine qI ?_);(repeat ((first|with_reducible refine qU ?_ | simp only[YD]);try simp (maxSteps:=9^7) +contextual only[↓ S2,S2,↓reduceIte,reduceNe,reduceEqDiff,reduceCtorEq,reduceLeDiff,reduceAdd,reduceLT,VQ,]));(try simp +contextual (disch:=omega) only[Z2,]);(with_reducible repeat' (first|intro h|refine And.intro (by omega) ?_ | refine exP (by omega) ?_ | apply And.intro)))
  refine callS.eq q5 ?_
  ((try refine qI ?_);(repeat ((first|with_reducible refine qU ?_ | simp only[YD]);try simp (maxSteps:=9^7) +contextual only[↓ S2,S2,↓reduceIte,reduceNe,reduceEqDiff,reduceCtorEq,reduceLeDiff,reduceAdd,reduceLT,VQ,]));(try simp +contextual (disch:=omega) only[Z2,]);(with_reducible repeat' (first|intro h|refine And.intro (by omega) ?_ | refine exP (by omega) ?_ | apply And.intro)))
  refine GW.cut mxd (fun env' H'=>subE env' [(0,Bs bs),(2,B false)]∧H'=Tryz.tb) ?_ ?_
  ·rcases Nat.eq_zero_or_pos L.length with hz|hz
   ·have e0:((0:Int)<L.length)=False:=eq_false (by omega)
    cases ok
    ·((try refine qI ?_);(repeat ((first|with_reducible refine qU ?_ | simp only[YD]);try simp (maxSteps:=9^7) +contextual only[↓ S2,S2,↓reduceIte,reduceNe,reduceEqDiff,reduceCtorEq,reduceLeDiff,reduceAdd,reduceLT,VQ,e0,gt_iff_lt]));(try simp +contextual (disch:=omega) only[Z2,e0,gt_iff_lt]);(with_reducible repeat' (first|intro h|refine And.intro (by omega) ?_ | refine exP (by omega) ?_ | apply And.intro)))
     exact (by simp[E2])
    ·have hf:=hf rfl
     subst hf
     ((try refine qI ?_);(repeat ((first|with_reducible refine qU ?_ | simp only[YD]);try simp (maxSteps:=9^7) +contextual only[↓ S2,S2,↓reduceIte,reduceNe,reduceEqDiff,reduceCtorEq,reduceLeDiff,reduceAdd,reduceLT,VQ,e0,gt_iff_lt]));(try simp +contextual (disch:=omega) only[Z2,e0,gt_iff_lt]);(with_reducible repeat' (first|intro h|refine And.intro (by omega) ?_ | refine exP (by omega) ?_ | apply And.intro)))
     refine callS.eq q6 ?_
     ((try refine qI ?_);(repeat ((first|with_reducible refine qU ?_ | simp only[YD]);try simp (maxSteps:=9^7) +contextual only[↓ S2,S2,↓reduceIte,reduceNe,reduceEqDiff,reduceCtorEq,reduceLeDiff,reduceAdd,reduceLT,VQ,e0,gt_iff_lt]));(try simp +contextual (disch:=omega) only[Z2,e0,gt_iff_lt]);(with_reducible repeat' (first|intro h|refine And.intro (by omega) ?_ | refine exP (by omega) ?_ | apply And.intro)))
     exact (by simp[E2])
   ·have e0:((0:Int)<L.length)=True:=eq_true (by omega)
    rw[hv (by omega)] at q7
    cases ok
    ·((try refine qI ?_);(repeat ((first|with_reducible refine qU ?_ | simp only[YD]);try simp (maxSteps:=9^7) +contextual only[↓ S2,S2,↓reduceIte,reduceNe,reduceEqDiff,reduceCtorEq,reduceLeDiff,reduceAdd,reduceLT,VQ,e0,gt_iff_lt]));(try simp +contextual (disch:=omega) only[Z2,e0,gt_iff_lt]);(with_reducible repeat' (first|intro h|refine And.intro (by omega) ?_ | refine exP (by omega) ?_ | apply And.intro)))
     refine callS.eq q7 ?_
     ((try refine qI ?_);(repeat ((first|with_reducible refine qU ?_ | simp only[YD]);try simp (maxSteps:=9^7) +contextual only[↓ S2,S2,↓reduceIte,reduceNe,reduceEqDiff,reduceCtorEq,reduceLeDiff,reduceAdd,reduceLT,VQ,]));(try simp +contextual (disch:=omega) only[Z2,]);(with_reducible repeat' (first|intro h|refine And.intro (by omega) ?_ | refine exP (by omega) ?_ | apply And.intro)))
     exact (by simp[E2])
    ·have hf:=hf rfl
     subst hf
     ((try refine qI ?_);(repeat ((first|with_reducible refine qU ?_ | simp only[YD]);try simp (maxSteps:=9^7) +contextual only[↓ S2,S2,↓reduceIte,reduceNe,reduceEqDiff,reduceCtorEq,reduceLeDiff,reduceAdd,reduceLT,VQ,e0,gt_iff_lt]));(try simp +contextual (disch:=omega) only[Z2,e0,gt_iff_lt]);(with_reducible repeat' (first|intro h|refine And.intro (by omega) ?_ | refine exP (by omega) ?_ | apply And.intro)))
     refine callS.eq q6 ?_
     ((try refine qI ?_);(repeat ((first|with_reducible refine qU ?_ | simp only[YD]);try simp (maxSteps:=9^7) +contextual only[↓ S2,S2,↓reduceIte,reduceNe,reduceEqDiff,reduceCtorEq,reduceLeDiff,reduceAdd,reduceLT,VQ,e0,gt_iff_lt]));(try simp +contextual (disch:=omega) only[Z2,e0,gt_iff_lt]);(with_reducible repeat' (first|intro h|refine And.intro (by omega) ?_ | refine exP (by omega) ?_ | apply And.intro)))
     refine callS.eq q7 ?_
     ((try refine qI ?_);(repeat ((first|with_reducible refine qU ?_ | simp only[YD]);try simp (maxSteps:=9^7) +contextual only[↓ S2,S2,↓reduceIte,reduceNe,reduceEqDiff,reduceCtorEq,reduceLeDiff,reduceAdd,reduceLT,VQ,]));(try simp +contextual (disch:=omega) only[Z2,]);(with_reducible repeat' (first|intro h|refine And.intro (by omega) ?_ | refine exP (by omega) ?_ | apply And.intro)))
     exact (by simp[E2])
  ·rintro env' _ ⟨he,rfl⟩
   refine GW.ent (FE.of he) ?_
   clear q1 q2 q3 q4 q5 q6 q7 hv hn hc hf hml hlF hok hsm hr he
   refine gwpS mxd ?_
   ((try refine qI ?_);(repeat ((first|with_reducible refine qU ?_ | simp only[YD]);try simp (maxSteps:=9^7) +contextual only[↓ S2,S2,↓reduceIte,reduceNe,reduceEqDiff,reduceCtorEq,reduceLeDiff,reduceAdd,reduceLT,VQ,]));(try simp +contextual (disch:=omega) only[Z2,]);(with_reducible repeat' (first|intro h|refine And.intro (by omega) ?_ | refine exP (by omega) ?_ | apply And.intro)))
   refine callS.of ((w14 bs (by omega)).frame _) ?_
   rintro _ _ ⟨⟨t,ht,hc,rfl⟩,rfl⟩ _
   have q2:=p8 t (by omega) (fun x hx=>Nat.le_trans (hc x hx) (by omega))
   have q5:=w11 t (by omega) (fun x hx=>Nat.le_trans (hc x hx) (by omega))
   have hl2:(t.map Z9).length ≤ 1048576:=by rw[List.length_map];omega
   have hc2:∀l∈t.map Z9,l.length≤1048576:=fun l hl=>by
    obtain ⟨x,hx,rfl⟩:=List.mem_map.1 hl
    exact Nat.le_trans (hc x hx) (by omega)
   have q1:=p7 _ (parS_okz hl2 hc2) (parS_sm hl2 hc2)
   have hbk:=parS_back t
   clear ht hc hl2 hc2
   generalize (parS (t.map Z9)).getD rulZ=y at *
   generalize (parS (t.map Z9)).isSome = ok at *
   have q4:=w9 t t
   rw[decide_eq_true rfl] at q4
   ((try refine qI ?_);(repeat ((first|with_reducible refine qU ?_ | simp only[YD]);try simp (maxSteps:=9^7) +contextual only[↓ S2,S2,↓reduceIte,reduceNe,reduceEqDiff,reduceCtorEq,reduceLeDiff,reduceAdd,reduceLT,VQ,]));(try simp +contextual (disch:=omega) only[Z2,]);(with_reducible repeat' (first|intro h|refine And.intro (by omega) ?_ | refine exP (by omega) ?_ | apply And.intro)))
   refine gwpS mxd ?_
   ((try refine qI ?_);(repeat ((first|with_reducible refine qU ?_ | simp only[YD]);try simp (maxSteps:=9^7) +contextual only[↓ S2,S2,↓reduceIte,reduceNe,reduceEqDiff,reduceCtorEq,reduceLeDiff,reduceAdd,reduceLT,VQ,]));(try simp +contextual (disch:=omega) only[Z2,]);(with_reducible repeat' (first|intro h|refine And.intro (by omega) ?_ | refine exP (by omega) ?_ | apply And.intro)))
   refine callS.eqT q2 Tryz.tbH (fun _ h=>h) ?_
   ((try refine qI ?_);(repeat ((first|with_reducible refine qU ?_ | simp only[YD]);try simp (maxSteps:=9^7) +contextual only[↓ S2,S2,↓reduceIte,reduceNe,reduceEqDiff,reduceCtorEq,reduceLeDiff,reduceAdd,reduceLT,VQ,]));(try simp +contextual (disch:=omega) only[Z2,]);(with_reducible repeat' (first|intro h|refine And.intro (by omega) ?_ | refine exP (by omega) ?_ | apply And.intro)))
   refine gwpS mxd ?_
   ((try refine qI ?_);(repeat ((first|with_reducible refine qU ?_ | simp only[YD]);try simp (maxSteps:=9^7) +contextual only[↓ S2,S2,↓reduceIte,reduceNe,reduceEqDiff,reduceCtorEq,reduceLeDiff,reduceAdd,reduceLT,VQ,]));(try simp +contextual (disch:=omega) only[Z2,]);(with_reducible repeat' (first|intro h|refine And.intro (by omega) ?_ | refine exP (by omega) ?_ | apply And.intro)))
   refine callS.eq q5 ?_
   ((try refine qI ?_);(repeat ((first|with_reducible refine qU ?_ | simp only[YD]);try simp (maxSteps:=9^7) +contextual only[↓ S2,S2,↓reduceIte,reduceNe,reduceEqDiff,reduceCtorEq,reduceLeDiff,reduceAdd,reduceLT,VQ,]));(try simp +contextual (disch:=omega) only[Z2,]);(with_reducible repeat' (first|intro h|refine And.intro (by omega) ?_ | refine exP (by omega) ?_ | apply And.intro)))
   refine YP mxd ?_
   cases ok
   ·((try refine qI ?_);(repeat ((first|with_reducible refine qU ?_ | simp only[YD]);try simp (maxSteps:=9^7) +contextual only[↓ S2,S2,↓reduceIte,reduceNe,reduceEqDiff,reduceCtorEq,reduceLeDiff,reduceAdd,reduceLT,VQ,]));(try simp +contextual (disch:=omega) only[Z2,]);(with_reducible repeat' (first|intro h|refine And.intro (by omega) ?_ | refine exP (by omega) ?_ | apply And.intro)))
   ·rw[hbk rfl] at q1
    ((try refine qI ?_);(repeat ((first|with_reducible refine qU ?_ | simp only[YD]);try simp (maxSteps:=9^7) +contextual only[↓ S2,S2,↓reduceIte,reduceNe,reduceEqDiff,reduceCtorEq,reduceLeDiff,reduceAdd,reduceLT,VQ,]));(try simp +contextual (disch:=omega) only[Z2,]);(with_reducible repeat' (first|intro h|refine And.intro (by omega) ?_ | refine exP (by omega) ?_ | apply And.intro)))
    refine callS.eqT q1 (Zm _) Tryz.tb10 ?_
    ((try refine qI ?_);(repeat ((first|with_reducible refine qU ?_ | simp only[YD]);try simp (maxSteps:=9^7) +contextual only[↓ S2,S2,↓reduceIte,reduceNe,reduceEqDiff,reduceCtorEq,reduceLeDiff,reduceAdd,reduceLT,VQ,]));(try simp +contextual (disch:=omega) only[Z2,]);(with_reducible repeat' (first|intro h|refine And.intro (by omega) ?_ | refine exP (by omega) ?_ | apply And.intro)))
    refine callS.eq q4 ?_
    ((try refine qI ?_);(repeat ((first|with_reducible refine qU ?_ | simp only[YD]);try simp (maxSteps:=9^7) +contextual only[↓ S2,S2,↓reduceIte,reduceNe,reduceEqDiff,reduceCtorEq,reduceLeDiff,reduceAdd,reduceLT,VQ,]));(try simp +contextual (disch:=omega) only[Z2,]);(with_reducible repeat' (first|intro h|refine And.intro (by omega) ?_ | refine exP (by omega) ?_ | apply And.intro)))
end Go.Proofs.YtcegkonjphbfaaaGreatDoor
