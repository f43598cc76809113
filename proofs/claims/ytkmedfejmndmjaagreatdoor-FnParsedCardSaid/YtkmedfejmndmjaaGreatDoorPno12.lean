/- The tied card of the law holds. No condition. -/
import Derived.Test.YtkmedfejmndmjaaGreatDoorPno4
import Derived.Test.YtkmedfejmndmjaaGreatDoorPno11
set_option maxHeartbeats 40000000
set_option maxRecDepth 20000
set_option linter.unusedSimpArgs false
set_option linter.unusedVariables false
namespace Go.Proofs.YtkmedfejmndmjaaGreatDoor
open Go.Gh
open Nat (reduceEqDiff reduceLeDiff reduceAdd reduceLT)
open Int (reduceNe)
open Go.Lib
theorem p53 (n t:Int) (hc:(t=1∧0≤n∧n≤1000000)∨(t=2∧0≤n∧n≤4095)∨(t=3∧(n=0∨n=1))):PureT Tryz.prog (tab10 1) 53 [I n,I t] (· = .val (mkS (ZO (.mk 1 n 0 t noS noS [])))):=by
 have hok:=okV_con hc
 have hty:=w82 n t
 rw[hok] at hty
 rcases hc with ⟨rfl,h0,h1⟩|⟨rfl,h0,h1⟩|⟨rfl,h1⟩
 ·rw[txt_num]
  refine Z6 mxd i53 rfl (by simp) ?_;simp (maxSteps:=9^7) only[↓ S2,S2,Z7,↓reduceIte,reduceNe,reduceEqDiff,reduceCtorEq,reduceLeDiff,reduceAdd,reduceLT]
  ((try refine qI ?_);(repeat ((first|with_reducible refine qU ?_ | simp only[Z9]);try simp (maxSteps:=9^7) +contextual only[↓ S2,S2,↓reduceIte,reduceNe,reduceEqDiff,reduceCtorEq,reduceLeDiff,reduceAdd,reduceLT,VQ,]));(try simp +contextual (disch:=omega) only[Z2,]);(with_reducible repeat' (first|intro h|refine And.intro (by omega) ?_ | refine exP (by omega) ?_ | apply And.intro)))
  refine callS.eq hty ?_
  ((try refine qI ?_);(repeat ((first|with_reducible refine qU ?_ | simp only[Z9]);try simp (maxSteps:=9^7) +contextual only[↓ S2,S2,↓reduceIte,reduceNe,reduceEqDiff,reduceCtorEq,reduceLeDiff,reduceAdd,reduceLT,VQ,]));(try simp +contextual (disch:=omega) only[Z2,]);(with_reducible repeat' (first|intro h|refine And.intro (by omega) ?_ | refine exP (by omega) ?_ | apply And.intro)))
  refine callS.eqT (p54 n (by omega) (by omega)) (Zf 1) (fun _ h=>h) ?_
  ((try refine qI ?_);(repeat ((first|with_reducible refine qU ?_ | simp only[Z9]);try simp (maxSteps:=9^7) +contextual only[↓ S2,S2,↓reduceIte,reduceNe,reduceEqDiff,reduceCtorEq,reduceLeDiff,reduceAdd,reduceLT,VQ,]));(try simp +contextual (disch:=omega) only[Z2,]);(with_reducible repeat' (first|intro h|refine And.intro (by omega) ?_ | refine exP (by omega) ?_ | apply And.intro)))
 ·rw[txt_set]
  have hjl:(Zi [32] ((YS n).map fun k:Nat=>itoa k)).length ≤ 96:=by
   have h3:=join_len ((YS n).map fun k:Nat=>itoa k) (by
    intro x hx
    obtain ⟨k,hk,rfl⟩:=List.mem_map.1 hx
    have:=(setL_lt n).2 k hk
    exact YL (by omega) (by omega))
   have h4:=setL_len n
   rw[List.length_map] at h3
   omega
  change GCalls _ _ _ [(7,1000000,[])] _
  refine Z6 mxd i53 rfl (by simp) ?_;simp (maxSteps:=9^7) only[↓ S2,S2,Z7,↓reduceIte,reduceNe,reduceEqDiff,reduceCtorEq,reduceLeDiff,reduceAdd,reduceLT]
  ((try refine qI ?_);(repeat ((first|with_reducible refine qU ?_ | simp only[Z9]);try simp (maxSteps:=9^7) +contextual only[↓ S2,S2,↓reduceIte,reduceNe,reduceEqDiff,reduceCtorEq,reduceLeDiff,reduceAdd,reduceLT,VQ,]));(try simp +contextual (disch:=omega) only[Z2,]);(with_reducible repeat' (first|intro h|refine And.intro (by omega) ?_ | refine exP (by omega) ?_ | apply And.intro)))
  refine callS.eq hty ?_
  ((try refine qI ?_);(repeat ((first|with_reducible refine qU ?_ | simp only[Z9]);try simp (maxSteps:=9^7) +contextual only[↓ S2,S2,↓reduceIte,reduceNe,reduceEqDiff,reduceCtorEq,reduceLeDiff,reduceAdd,reduceLT,VQ,]));(try simp +contextual (disch:=omega) only[Z2,]);(with_reducible repeat' (first|intro h|refine And.intro (by omega) ?_ | refine exP (by omega) ?_ | apply And.intro)))
  rename_i r
  refine ploop mxd (ι:={ x:Nat×Nat // x.2≤12 }) (fun x=>[(0,I n),(1,I 2),(5,.own x.1.1 1 0 (setK n x.1.2).length),(41,I x.1.2)]) (fun x=>[(x.1.1,1,((setK n x.1.2).map nS).map T),(7,1000000,[])]) (fun x=>12-x.1.2) ⟨(r,0),by simp⟩ (by simp[E2,setK_zero]) (by simp[subH,Z3,names,setK_zero, *]) ?_
  rintro ⟨⟨q,i⟩,hi⟩ hn
  dsimp only at hi hn ⊢
  have hn0:=hn
  (replace hn0:=hn0;simp only[VN] at hn0)
  have hkl:=setK_len n i
  rcases nL i 12 with hlt|hge
  ·have hit:((i:Int)<12)=True:=eq_true (by omega)
   have hwu:=wrapU (i:Int) (by omega) (by omega)
   have hbt:=bit_of h0 h1 (k:=i) (by omega)
   have hst:=setK_succ n i
   cases hb:n.toNat.testBit i with
   | true=>
    rw[hb,if_pos rfl] at hbt hst
    ((try refine qI ?_);(repeat ((first|with_reducible refine qU ?_ | simp only[Z9]);try simp (maxSteps:=9^7) +contextual only[↓ S2,S2,↓reduceIte,reduceNe,reduceEqDiff,reduceCtorEq,reduceLeDiff,reduceAdd,reduceLT,VQ,hit,hwu,hbt]));(try simp +contextual (disch:=omega) only[Z2,hit,hwu,hbt]);(with_reducible repeat' (first|intro h|refine And.intro (by omega) ?_ | refine exP (by omega) ?_ | apply And.intro)))
    all_goals try exact oF
    refine callS.eqT (p54 (i:Int) (by omega) (by omega)) (Zf 1) (by simp[tab10]) ?_
    ((try refine qI ?_);(repeat ((first|with_reducible refine qU ?_ | simp only[Z9]);try simp (maxSteps:=9^7) +contextual only[↓ S2,S2,↓reduceIte,reduceNe,reduceEqDiff,reduceCtorEq,reduceLeDiff,reduceAdd,reduceLT,VQ,List.length_map]));(try simp +contextual (disch:=omega) only[Z2,List.length_map]);(with_reducible repeat' (first|intro h|refine And.intro (by omega) ?_ | refine exP (by omega) ?_ | apply And.intro)))
    all_goals try exact oF
    all_goals try (simp;omega;done)
    rename_i r1 _ r2
    exact px ⟨(r2,i+1),hlt⟩ (by dsimp only;omega) (by dsimp only;rw[hst];simp[E2]) (by dsimp only;rw[hst];simp[subH,Z3,names,List.take_of_length_le, *])
   | false=>
    rw[hb,if_neg (by decide)] at hbt hst
    ((try refine qI ?_);(repeat ((first|with_reducible refine qU ?_ | simp only[Z9]);try simp (maxSteps:=9^7) +contextual only[↓ S2,S2,↓reduceIte,reduceNe,reduceEqDiff,reduceCtorEq,reduceLeDiff,reduceAdd,reduceLT,VQ,hit,hwu,hbt]));(try simp +contextual (disch:=omega) only[Z2,hit,hwu,hbt]);(with_reducible repeat' (first|intro h|refine And.intro (by omega) ?_ | refine exP (by omega) ?_ | apply And.intro)))
    all_goals try exact oF
    exact px ⟨(q,i+1),hlt⟩ (by dsimp only;omega) (by dsimp only;rw[hst];simp[E2]) (by dsimp only;rw[hst];simp[subH,Z3,names, *])
  ·obtain rfl:i=12:=by omega
   have hit:(((12:Nat):Int)<12)=False:=eq_false (by omega)
   ((try refine qI ?_);(repeat ((first|with_reducible refine qU ?_ | simp only[Z9]);try simp (maxSteps:=9^7) +contextual only[↓ S2,S2,↓reduceIte,reduceNe,reduceEqDiff,reduceCtorEq,reduceLeDiff,reduceAdd,reduceLT,VQ,hit]));(try simp +contextual (disch:=omega) only[Z2,hit]);(with_reducible repeat' (first|intro h|refine And.intro (by omega) ?_ | refine exP (by omega) ?_ | apply And.intro)))
   all_goals try exact oF
   have ej:((YS n).map nS).map Z8=(YS n).map fun k:Nat=>itoa k:=by rw[List.map_map];rfl
   refine callS.borA (w85 ((YS n).map nS) ⟨#[32]⟩ (by have:=setL_len n;rw[List.length_map];omega) (by rw[ej];exact Nat.le_trans hjl (by omega))) (.cons (Bor.seen (f:=T) (fun a=>by simp[view,YJ]) Z4 (by rw[List.length_map];rfl)) (.cons .refl .nil)) rfl ?_
   rw[ej,show Z8 ⟨#[32]⟩=[32] from rfl]
   generalize Zi [32] ((YS n).map fun k:Nat=>itoa k)=J at *
   ((try refine qI ?_);(repeat ((first|with_reducible refine qU ?_ | simp only[Z9]);try simp (maxSteps:=9^7) +contextual only[↓ S2,S2,↓reduceIte,reduceNe,reduceEqDiff,reduceCtorEq,reduceLeDiff,reduceAdd,reduceLT,VQ,]));(try simp +contextual (disch:=omega) only[Z2,]);(with_reducible repeat' (first|intro h|refine And.intro (by omega) ?_ | refine exP (by omega) ?_ | apply And.intro)))
   all_goals first|(exfalso;omega)|(simp[chA];done)|(simp[chA];omega)
 ·rw[txt_bool]
  rcases h1 with rfl|rfl
  ·refine Z6 mxd i53 rfl (by simp) ?_;simp (maxSteps:=9^7) only[↓ S2,S2,Z7,↓reduceIte,reduceNe,reduceEqDiff,reduceCtorEq,reduceLeDiff,reduceAdd,reduceLT]
   ((try refine qI ?_);(repeat ((first|with_reducible refine qU ?_ | simp only[Z9]);try simp (maxSteps:=9^7) +contextual only[↓ S2,S2,↓reduceIte,reduceNe,reduceEqDiff,reduceCtorEq,reduceLeDiff,reduceAdd,reduceLT,VQ,]));(try simp +contextual (disch:=omega) only[Z2,]);(with_reducible repeat' (first|intro h|refine And.intro (by omega) ?_ | refine exP (by omega) ?_ | apply And.intro)))
   refine callS.eq hty ?_
   ((try refine qI ?_);(repeat ((first|with_reducible refine qU ?_ | simp only[Z9]);try simp (maxSteps:=9^7) +contextual only[↓ S2,S2,↓reduceIte,reduceNe,reduceEqDiff,reduceCtorEq,reduceLeDiff,reduceAdd,reduceLT,VQ,]));(try simp +contextual (disch:=omega) only[Z2,]);(with_reducible repeat' (first|intro h|refine And.intro (by omega) ?_ | refine exP (by omega) ?_ | apply And.intro)))
   all_goals rfl
  ·refine Z6 mxd i53 rfl (by simp) ?_;simp (maxSteps:=9^7) only[↓ S2,S2,Z7,↓reduceIte,reduceNe,reduceEqDiff,reduceCtorEq,reduceLeDiff,reduceAdd,reduceLT]
   ((try refine qI ?_);(repeat ((first|with_reducible refine qU ?_ | simp only[Z9]);try simp (maxSteps:=9^7) +contextual only[↓ S2,S2,↓reduceIte,reduceNe,reduceEqDiff,reduceCtorEq,reduceLeDiff,reduceAdd,reduceLT,VQ,]));(try simp +contextual (disch:=omega) only[Z2,]);(with_reducible repeat' (first|intro h|refine And.intro (by omega) ?_ | refine exP (by omega) ?_ | apply And.intro)))
   refine callS.eq hty ?_
   ((try refine qI ?_);(repeat ((first|with_reducible refine qU ?_ | simp only[Z9]);try simp (maxSteps:=9^7) +contextual only[↓ S2,S2,↓reduceIte,reduceNe,reduceEqDiff,reduceCtorEq,reduceLeDiff,reduceAdd,reduceLT,VQ,]));(try simp +contextual (disch:=omega) only[Z2,]);(with_reducible repeat' (first|intro h|refine And.intro (by omega) ?_ | refine exP (by omega) ?_ | apply And.intro)))
   all_goals rfl
theorem w87 (e:Exp):Pu 87 [Ex e] (· = I (lvE e)):=by
 have hag:Go.Gh.isAgg (Ex e)=true:=by rw[ZC];rfl
 by_cases h4:e.kind=4
 ·rw[lvE_4 h4]
  refine Z6 mxd i87 rfl (by simp) ?_;simp (maxSteps:=9^7) only[↓ S2,S2,Z7,↓reduceIte,reduceNe,reduceEqDiff,reduceCtorEq,reduceLeDiff,reduceAdd,reduceLT]
  ((try refine qI ?_);(repeat ((first|with_reducible refine qU ?_ | simp only[Z9]);try simp (maxSteps:=9^7) +contextual only[↓ S2,S2,↓reduceIte,reduceNe,reduceEqDiff,reduceCtorEq,reduceLeDiff,reduceAdd,reduceLT,VQ,XE,h4,hag]));(try simp +contextual (disch:=omega) only[Z2,XE,h4,hag]);(with_reducible repeat' (first|intro h|refine And.intro (by omega) ?_ | refine exP (by omega) ?_ | apply And.intro)))
  all_goals try exact oF
  refine callS.eq (w88 _) ?_
  ((try refine qI ?_);(repeat ((first|with_reducible refine qU ?_ | simp only[Z9]);try simp (maxSteps:=9^7) +contextual only[↓ S2,S2,↓reduceIte,reduceNe,reduceEqDiff,reduceCtorEq,reduceLeDiff,reduceAdd,reduceLT,VQ,]));(try simp +contextual (disch:=omega) only[Z2,]);(with_reducible repeat' (first|intro h|refine And.intro (by omega) ?_ | refine exP (by omega) ?_ | apply And.intro)))
 ·refine Z6 mxd i87 rfl (by simp) ?_;simp (maxSteps:=9^7) only[↓ S2,S2,Z7,↓reduceIte,reduceNe,reduceEqDiff,reduceCtorEq,reduceLeDiff,reduceAdd,reduceLT]
  ((try refine qI ?_);(repeat ((first|with_reducible refine qU ?_ | simp only[Z9]);try simp (maxSteps:=9^7) +contextual only[↓ S2,S2,↓reduceIte,reduceNe,reduceEqDiff,reduceCtorEq,reduceLeDiff,reduceAdd,reduceLT,VQ,XE,h4,hag]));(try simp +contextual (disch:=omega) only[Z2,XE,h4,hag]);(with_reducible repeat' (first|intro h|refine And.intro (by omega) ?_ | refine exP (by omega) ?_ | apply And.intro)))
  all_goals first|(simp[lvE, *];done)|trace_state
theorem w89 (n:Int) (h1:1≤n) (h2:n≤12):Pu 89 [I n] (· = T (opW n)):=by
 have hw:=w84 n 1 12
 rw[decide_eq_true (show 1≤n∧n≤12 from ⟨h1,h2⟩)] at hw
 have:=mem12 h1 h2
 simp only[List.mem_cons,List.not_mem_nil,or_false] at this
 rcases this with rfl|rfl|rfl|rfl|rfl|rfl|rfl|rfl|rfl|rfl|rfl|rfl
 all_goals (
  refine Z6 mxd i89 rfl (by simp) ?_;simp (maxSteps:=9^7) only[↓ S2,S2,Z7,↓reduceIte,reduceNe,reduceEqDiff,reduceCtorEq,reduceLeDiff,reduceAdd,reduceLT]
  ((try refine qI ?_);(repeat ((first|with_reducible refine qU ?_ | simp only[Z9]);try simp (maxSteps:=9^7) +contextual only[↓ S2,S2,↓reduceIte,reduceNe,reduceEqDiff,reduceCtorEq,reduceLeDiff,reduceAdd,reduceLT,VQ,]));(try simp +contextual (disch:=omega) only[Z2,]);(with_reducible repeat' (first|intro h|refine And.intro (by omega) ?_ | refine exP (by omega) ?_ | apply And.intro)))
  refine callS.eq hw ?_
  ((try refine qI ?_);(repeat ((first|with_reducible refine qU ?_ | simp only[Z9]);try simp (maxSteps:=9^7) +contextual only[↓ S2,S2,↓reduceIte,reduceNe,reduceEqDiff,reduceCtorEq,reduceLeDiff,reduceAdd,reduceLT,VQ,Int.reduceSub,Int.reduceToNat,List.getElem_cons_zero,List.getElem_cons_succ]));(try simp +contextual (disch:=omega) only[Z2,Int.reduceSub,Int.reduceToNat,List.getElem_cons_zero,List.getElem_cons_succ]);(with_reducible repeat' (first|intro h|refine And.intro (by omega) ?_ | refine exP (by omega) ?_ | apply And.intro)))
  refine stop_aidx rfl rfl rfl (by decide) (by decide) ?_
  ((try refine qI ?_);(repeat ((first|with_reducible refine qU ?_ | simp only[Z9]);try simp (maxSteps:=9^7) +contextual only[↓ S2,S2,↓reduceIte,reduceNe,reduceEqDiff,reduceCtorEq,reduceLeDiff,reduceAdd,reduceLT,VQ,]));(try simp +contextual (disch:=omega) only[Z2,]);(with_reducible repeat' (first|intro h|refine And.intro (by omega) ?_ | refine exP (by omega) ?_ | apply And.intro)))
  all_goals first|rfl|trace_state)
theorem Tryz.opd7 (e:Exp) (L:Nat) (hL:L≤4) (hlen:(ZO e).length ≤ 1000000) (h:PureT Tryz.prog (tab10 1) 28 [Ex e] (· = .val (mkS (ZO e)))):PureT Tryz.prog (tab10 1) 55 [Ex e,I L] (· = .val (mkS (oprT L e))):=by
 have hag:Go.Gh.isAgg (Ex e)=true:=by rw[ZC];rfl
 have hlv:=lvE_bd e
 rw[oprT_eq]
 generalize ZO e=A at *
 by_cases hc:lvE e<L
 ·rw[if_pos hc]
  have hc':((lvE e:Int)<(L:Int))=True:=eq_true (by omega)
  refine Z6 mxd i55 rfl (by simp) ?_;simp (maxSteps:=9^7) only[↓ S2,S2,Z7,↓reduceIte,reduceNe,reduceEqDiff,reduceCtorEq,reduceLeDiff,reduceAdd,reduceLT]
  ((try refine qI ?_);(repeat ((first|with_reducible refine qU ?_ | simp only[Z9]);try simp (maxSteps:=9^7) +contextual only[↓ S2,S2,↓reduceIte,reduceNe,reduceEqDiff,reduceCtorEq,reduceLeDiff,reduceAdd,reduceLT,VQ,XE,hag]));(try simp +contextual (disch:=omega) only[Z2,XE,hag]);(with_reducible repeat' (first|intro h|refine And.intro (by omega) ?_ | refine exP (by omega) ?_ | apply And.intro)))
  refine callS.eq (w87 e) ?_
  ((try refine qI ?_);(repeat ((first|with_reducible refine qU ?_ | simp only[Z9]);try simp (maxSteps:=9^7) +contextual only[↓ S2,S2,↓reduceIte,reduceNe,reduceEqDiff,reduceCtorEq,reduceLeDiff,reduceAdd,reduceLT,VQ,hc',XE,hag]));(try simp +contextual (disch:=omega) only[Z2,hc',XE,hag]);(with_reducible repeat' (first|intro h|refine And.intro (by omega) ?_ | refine exP (by omega) ?_ | apply And.intro)))
  ((try refine qI ?_);(repeat ((first|with_reducible refine qU ?_ | simp only[Z9]);try simp (maxSteps:=9^7) +contextual only[↓ S2,S2,↓reduceIte,reduceNe,reduceEqDiff,reduceCtorEq,reduceLeDiff,reduceAdd,reduceLT,VQ,hc',XE,hag]));(try simp +contextual (disch:=omega) only[Z2,hc',XE,hag]);(with_reducible repeat' (first|intro h|refine And.intro (by omega) ?_ | refine exP (by omega) ?_ | apply And.intro)))
  refine callS.eqT h (Zf 1) (fun _ h=>h) ?_
  ((try refine qI ?_);(repeat ((first|with_reducible refine qU ?_ | simp only[Z9]);try simp (maxSteps:=9^7) +contextual only[↓ S2,S2,↓reduceIte,reduceNe,reduceEqDiff,reduceCtorEq,reduceLeDiff,reduceAdd,reduceLT,VQ,XE]));(try simp +contextual (disch:=omega) only[Z2,XE]);(with_reducible repeat' (first|intro h|refine And.intro (by omega) ?_ | refine exP (by omega) ?_ | apply And.intro)))
  all_goals first|(exfalso;omega)|(simp only[chA,List.length_append,List.length_cons,List.length_nil];omega)|(simp[chA];done)|trace_state
 ·rw[if_neg hc]
  have hc':((lvE e:Int)<(L:Int))=False:=eq_false (by omega)
  refine Z6 mxd i55 rfl (by simp) ?_;simp (maxSteps:=9^7) only[↓ S2,S2,Z7,↓reduceIte,reduceNe,reduceEqDiff,reduceCtorEq,reduceLeDiff,reduceAdd,reduceLT]
  ((try refine qI ?_);(repeat ((first|with_reducible refine qU ?_ | simp only[Z9]);try simp (maxSteps:=9^7) +contextual only[↓ S2,S2,↓reduceIte,reduceNe,reduceEqDiff,reduceCtorEq,reduceLeDiff,reduceAdd,reduceLT,VQ,XE,hag]));(try simp +contextual (disch:=omega) only[Z2,XE,hag]);(with_reducible repeat' (first|intro h|refine And.intro (by omega) ?_ | refine exP (by omega) ?_ | apply And.intro)))
  refine callS.eq (w87 e) ?_
  ((try refine qI ?_);(repeat ((first|with_reducible refine qU ?_ | simp only[Z9]);try simp (maxSteps:=9^7) +contextual only[↓ S2,S2,↓reduceIte,reduceNe,reduceEqDiff,reduceCtorEq,reduceLeDiff,reduceAdd,reduceLT,VQ,hc',XE,hag]));(try simp +contextual (disch:=omega) only[Z2,hc',XE,hag]);(with_reducible repeat' (first|intro h|refine And.intro (by omega) ?_ | refine exP (by omega) ?_ | apply And.intro)))
  ((try refine qI ?_);(repeat ((first|with_reducible refine qU ?_ | simp only[Z9]);try simp (maxSteps:=9^7) +contextual only[↓ S2,S2,↓reduceIte,reduceNe,reduceEqDiff,reduceCtorEq,reduceLeDiff,reduceAdd,reduceLT,VQ,hc',XE,hag]));(try simp +contextual (disch:=omega) only[Z2,hc',XE,hag]);(with_reducible repeat' (first|intro h|refine And.intro (by omega) ?_ | refine exP (by omega) ?_ | apply And.intro)))
  refine callS.eqT h (Zf 1) (fun _ h=>h) ?_
  ((try refine qI ?_);(repeat ((first|with_reducible refine qU ?_ | simp only[Z9]);try simp (maxSteps:=9^7) +contextual only[↓ S2,S2,↓reduceIte,reduceNe,reduceEqDiff,reduceCtorEq,reduceLeDiff,reduceAdd,reduceLT,VQ,]));(try simp +contextual (disch:=omega) only[Z2,]);(with_reducible repeat' (first|intro h|refine And.intro (by omega) ?_ | refine exP (by omega) ?_ | apply And.intro)))
theorem Tryz.opt7 (e a b:Exp) (h:IsOp e a b) (he:e = .mk 4 e.n 0 0 noS noS [a,b]) (hla:(ZO a).length ≤ 500000) (hlb:(ZO b).length ≤ 500000)
 (ha:PureT Tryz.prog (tab10 1) 28 [Ex a] (· = .val (mkS (ZO a)))) (hb:PureT Tryz.prog (tab10 1) 28 [Ex b] (· = .val (mkS (ZO b)))):PureT Tryz.prog (tab10 1) 56 [Ex e] (· = .val (mkS (ZO e))):=by
 have n0:=h.n0
 have n1:=h.n1
 have hag:=h.a
 have hge:Go.Gh.isAgg (Ex e)=true:=by rw[ZC];rfl
 have hga:Go.Gh.isAgg (Ex a)=true:=by rw[ZC];rfl
 have hgb:Go.Gh.isAgg (Ex b)=true:=by rw[ZC];rfl
 have how:=w89 e.n n0 n1
 have hwl:=opW_len e.n (mem12 n0 n1)
 have hlv:=w88 e.n
 have htx:=h.txt he
 rw[htx]
 clear htx he h
 rcases opLv_cases e.n with h4|h4|h4|h4
 ·have hA:=Tryz.opd7 a 2 (by omega) (by omega) ha
  have hB:=Tryz.opd7 b (1+1) (by omega) (by omega) hb
  have hAl:=YU 2 a
  have hBl:=YU (1+1) b
  rw[h4] at hlv ⊢
  rw[if_neg (by decide),show max 1 2=2 from rfl]
  replace hlv:Pu 88 [I e.n] (· = I 1):=hlv
  generalize oprT 2 a=A at *
  generalize oprT (1+1) b=B at *
  refine Z6 mxd i56 rfl (by simp) ?_;simp (maxSteps:=9^7) only[↓ S2,S2,Z7,↓reduceIte,reduceNe,reduceEqDiff,reduceCtorEq,reduceLeDiff,reduceAdd,reduceLT]
  ((try refine qI ?_);(repeat ((first|with_reducible refine qU ?_ | simp only[Z9]);try simp (maxSteps:=9^7) +contextual only[↓ S2,S2,↓reduceIte,reduceNe,reduceEqDiff,reduceCtorEq,reduceLeDiff,reduceAdd,reduceLT,VQ,XE,hag,hga,hgb,Int.reduceToNat,List.getElem_cons_zero,List.getElem_cons_succ,hge]));(try simp +contextual (disch:=omega) only[Z2,XE,hag,hga,hgb,Int.reduceToNat,List.getElem_cons_zero,List.getElem_cons_succ,hge]);(with_reducible repeat' (first|intro h|refine And.intro (by omega) ?_ | refine exP (by omega) ?_ | apply And.intro)))
  ((try refine qI ?_);(repeat ((first|with_reducible refine qU ?_ | simp only[Z9]);try simp (maxSteps:=9^7) +contextual only[↓ S2,S2,↓reduceIte,reduceNe,reduceEqDiff,reduceCtorEq,reduceLeDiff,reduceAdd,reduceLT,VQ,XE,hag,hga,hgb,Int.reduceToNat,List.getElem_cons_zero,List.getElem_cons_succ,hge]));(try simp +contextual (disch:=omega) only[Z2,XE,hag,hga,hgb,Int.reduceToNat,List.getElem_cons_zero,List.getElem_cons_succ,hge]);(with_reducible repeat' (first|intro h|refine And.intro (by omega) ?_ | refine exP (by omega) ?_ | apply And.intro)))
  all_goals try exact oF
  refine callS.eq hlv ?_
  ((try refine qI ?_);(repeat ((first|with_reducible refine qU ?_ | simp only[Z9]);try simp (maxSteps:=9^7) +contextual only[↓ S2,S2,↓reduceIte,reduceNe,reduceEqDiff,reduceCtorEq,reduceLeDiff,reduceAdd,reduceLT,VQ,XE,hag,hga,hgb,Int.reduceToNat,List.getElem_cons_zero,List.getElem_cons_succ,hge]));(try simp +contextual (disch:=omega) only[Z2,XE,hag,hga,hgb,Int.reduceToNat,List.getElem_cons_zero,List.getElem_cons_succ,hge]);(with_reducible repeat' (first|intro h|refine And.intro (by omega) ?_ | refine exP (by omega) ?_ | apply And.intro)))
  ((try refine qI ?_);(repeat ((first|with_reducible refine qU ?_ | simp only[Z9]);try simp (maxSteps:=9^7) +contextual only[↓ S2,S2,↓reduceIte,reduceNe,reduceEqDiff,reduceCtorEq,reduceLeDiff,reduceAdd,reduceLT,VQ,XE,hag,hga,hgb,Int.reduceToNat,List.getElem_cons_zero,List.getElem_cons_succ,hge]));(try simp +contextual (disch:=omega) only[Z2,XE,hag,hga,hgb,Int.reduceToNat,List.getElem_cons_zero,List.getElem_cons_succ,hge]);(with_reducible repeat' (first|intro h|refine And.intro (by omega) ?_ | refine exP (by omega) ?_ | apply And.intro)))
  all_goals try exact oF
  refine callS.eqT hA (Zf 1) (fun _ h=>h) ?_
  ((try refine qI ?_);(repeat ((first|with_reducible refine qU ?_ | simp only[Z9]);try simp (maxSteps:=9^7) +contextual only[↓ S2,S2,↓reduceIte,reduceNe,reduceEqDiff,reduceCtorEq,reduceLeDiff,reduceAdd,reduceLT,VQ,XE,hag,hga,hgb,Int.reduceToNat,List.getElem_cons_zero,List.getElem_cons_succ,hge]));(try simp +contextual (disch:=omega) only[Z2,XE,hag,hga,hgb,Int.reduceToNat,List.getElem_cons_zero,List.getElem_cons_succ,hge]);(with_reducible repeat' (first|intro h|refine And.intro (by omega) ?_ | refine exP (by omega) ?_ | apply And.intro)))
  all_goals first|(exfalso;omega)|(simp only[chA,List.length_append,List.length_cons,List.length_nil];omega)|(simp[chA];done)|skip
  refine callS.eq how ?_
  ((try refine qI ?_);(repeat ((first|with_reducible refine qU ?_ | simp only[Z9]);try simp (maxSteps:=9^7) +contextual only[↓ S2,S2,↓reduceIte,reduceNe,reduceEqDiff,reduceCtorEq,reduceLeDiff,reduceAdd,reduceLT,VQ,XE,hag,hga,hgb,Int.reduceToNat,List.getElem_cons_zero,List.getElem_cons_succ,hge]));(try simp +contextual (disch:=omega) only[Z2,XE,hag,hga,hgb,Int.reduceToNat,List.getElem_cons_zero,List.getElem_cons_succ,hge]);(with_reducible repeat' (first|intro h|refine And.intro (by omega) ?_ | refine exP (by omega) ?_ | apply And.intro)))
  ((try refine qI ?_);(repeat ((first|with_reducible refine qU ?_ | simp only[Z9]);try simp (maxSteps:=9^7) +contextual only[↓ S2,S2,↓reduceIte,reduceNe,reduceEqDiff,reduceCtorEq,reduceLeDiff,reduceAdd,reduceLT,VQ,XE,hag,hga,hgb,Int.reduceToNat,List.getElem_cons_zero,List.getElem_cons_succ,hge]));(try simp +contextual (disch:=omega) only[Z2,XE,hag,hga,hgb,Int.reduceToNat,List.getElem_cons_zero,List.getElem_cons_succ,hge]);(with_reducible repeat' (first|intro h|refine And.intro (by omega) ?_ | refine exP (by omega) ?_ | apply And.intro)))
  all_goals first|(exfalso;omega)|(simp only[chA,List.length_append,List.length_cons,List.length_nil];omega)|(simp[chA];done)|skip
  refine callS.eqT hB (Zf 1) (fun _ h=>h) ?_
  ((try refine qI ?_);(repeat ((first|with_reducible refine qU ?_ | simp only[Z9]);try simp (maxSteps:=9^7) +contextual only[↓ S2,S2,↓reduceIte,reduceNe,reduceEqDiff,reduceCtorEq,reduceLeDiff,reduceAdd,reduceLT,VQ,]));(try simp +contextual (disch:=omega) only[Z2,]);(with_reducible repeat' (first|intro h|refine And.intro (by omega) ?_ | refine exP (by omega) ?_ | apply And.intro)))
  all_goals first|(exfalso;omega)|(simp only[chA,List.length_append,List.length_cons,List.length_nil];omega)|(simp[chA];done)|skip
 ·have hA:=Tryz.opd7 a 2 (by omega) (by omega) ha
  have hB:=Tryz.opd7 b (2+1) (by omega) (by omega) hb
  have hAl:=YU 2 a
  have hBl:=YU (2+1) b
  rw[h4] at hlv ⊢
  rw[if_neg (by decide),show max 2 2=2 from rfl]
  replace hlv:Pu 88 [I e.n] (· = I 2):=hlv
  generalize oprT 2 a=A at *
  generalize oprT (2+1) b=B at *
  refine Z6 mxd i56 rfl (by simp) ?_;simp (maxSteps:=9^7) only[↓ S2,S2,Z7,↓reduceIte,reduceNe,reduceEqDiff,reduceCtorEq,reduceLeDiff,reduceAdd,reduceLT]
  ((try refine qI ?_);(repeat ((first|with_reducible refine qU ?_ | simp only[Z9]);try simp (maxSteps:=9^7) +contextual only[↓ S2,S2,↓reduceIte,reduceNe,reduceEqDiff,reduceCtorEq,reduceLeDiff,reduceAdd,reduceLT,VQ,XE,hag,hga,hgb,Int.reduceToNat,List.getElem_cons_zero,List.getElem_cons_succ,hge]));(try simp +contextual (disch:=omega) only[Z2,XE,hag,hga,hgb,Int.reduceToNat,List.getElem_cons_zero,List.getElem_cons_succ,hge]);(with_reducible repeat' (first|intro h|refine And.intro (by omega) ?_ | refine exP (by omega) ?_ | apply And.intro)))
  ((try refine qI ?_);(repeat ((first|with_reducible refine qU ?_ | simp only[Z9]);try simp (maxSteps:=9^7) +contextual only[↓ S2,S2,↓reduceIte,reduceNe,reduceEqDiff,reduceCtorEq,reduceLeDiff,reduceAdd,reduceLT,VQ,XE,hag,hga,hgb,Int.reduceToNat,List.getElem_cons_zero,List.getElem_cons_succ,hge]));(try simp +contextual (disch:=omega) only[Z2,XE,hag,hga,hgb,Int.reduceToNat,List.getElem_cons_zero,List.getElem_cons_succ,hge]);(with_reducible repeat' (first|intro h|refine And.intro (by omega) ?_ | refine exP (by omega) ?_ | apply And.intro)))
  all_goals try exact oF
  refine callS.eq hlv ?_
  ((try refine qI ?_);(repeat ((first|with_reducible refine qU ?_ | simp only[Z9]);try simp (maxSteps:=9^7) +contextual only[↓ S2,S2,↓reduceIte,reduceNe,reduceEqDiff,reduceCtorEq,reduceLeDiff,reduceAdd,reduceLT,VQ,XE,hag,hga,hgb,Int.reduceToNat,List.getElem_cons_zero,List.getElem_cons_succ,hge]));(try simp +contextual (disch:=omega) only[Z2,XE,hag,hga,hgb,Int.reduceToNat,List.getElem_cons_zero,List.getElem_cons_succ,hge]);(with_reducible repeat' (first|intro h|refine And.intro (by omega) ?_ | refine exP (by omega) ?_ | apply And.intro)))
  ((try refine qI ?_);(repeat ((first|with_reducible refine qU ?_ | simp only[Z9]);try simp (maxSteps:=9^7) +contextual only[↓ S2,S2,↓reduceIte,reduceNe,reduceEqDiff,reduceCtorEq,reduceLeDiff,reduceAdd,reduceLT,VQ,XE,hag,hga,hgb,Int.reduceToNat,List.getElem_cons_zero,List.getElem_cons_succ,hge]));(try simp +contextual (disch:=omega) only[Z2,XE,hag,hga,hgb,Int.reduceToNat,List.getElem_cons_zero,List.getElem_cons_succ,hge]);(with_reducible repeat' (first|intro h|refine And.intro (by omega) ?_ | refine exP (by omega) ?_ | apply And.intro)))
  all_goals try exact oF
  refine callS.eqT hA (Zf 1) (fun _ h=>h) ?_
  ((try refine qI ?_);(repeat ((first|with_reducible refine qU ?_ | simp only[Z9]);try simp (maxSteps:=9^7) +contextual only[↓ S2,S2,↓reduceIte,reduceNe,reduceEqDiff,reduceCtorEq,reduceLeDiff,reduceAdd,reduceLT,VQ,XE,hag,hga,hgb,Int.reduceToNat,List.getElem_cons_zero,List.getElem_cons_succ,hge]));(try simp +contextual (disch:=omega) only[Z2,XE,hag,hga,hgb,Int.reduceToNat,List.getElem_cons_zero,List.getElem_cons_succ,hge]);(with_reducible repeat' (first|intro h|refine And.intro (by omega) ?_ | refine exP (by omega) ?_ | apply And.intro)))
  all_goals first|(exfalso;omega)|(simp only[chA,List.length_append,List.length_cons,List.length_nil];omega)|(simp[chA];done)|skip
  refine callS.eq how ?_
  ((try refine qI ?_);(repeat ((first|with_reducible refine qU ?_ | simp only[Z9]);try simp (maxSteps:=9^7) +contextual only[↓ S2,S2,↓reduceIte,reduceNe,reduceEqDiff,reduceCtorEq,reduceLeDiff,reduceAdd,reduceLT,VQ,XE,hag,hga,hgb,Int.reduceToNat,List.getElem_cons_zero,List.getElem_cons_succ,hge]));(try simp +contextual (disch:=omega) only[Z2,XE,hag,hga,hgb,Int.reduceToNat,List.getElem_cons_zero,List.getElem_cons_succ,hge]);(with_reducible repeat' (first|intro h|refine And.intro (by omega) ?_ | refine exP (by omega) ?_ | apply And.intro)))
  ((try refine qI ?_);(repeat ((first|with_reducible refine qU ?_ | simp only[Z9]);try simp (maxSteps:=9^7) +contextual only[↓ S2,S2,↓reduceIte,reduceNe,reduceEqDiff,reduceCtorEq,reduceLeDiff,reduceAdd,reduceLT,VQ,XE,hag,hga,hgb,Int.reduceToNat,List.getElem_cons_zero,List.getElem_cons_succ,hge]));(try simp +contextual (disch:=omega) only[Z2,XE,hag,hga,hgb,Int.reduceToNat,List.getElem_cons_zero,List.getElem_cons_succ,hge]);(with_reducible repeat' (first|intro h|refine And.intro (by omega) ?_ | refine exP (by omega) ?_ | apply And.intro)))
  all_goals first|(exfalso;omega)|(simp only[chA,List.length_append,List.length_cons,List.length_nil];omega)|(simp[chA];done)|skip
  refine callS.eqT hB (Zf 1) (fun _ h=>h) ?_
  ((try refine qI ?_);(repeat ((first|with_reducible refine qU ?_ | simp only[Z9]);try simp (maxSteps:=9^7) +contextual only[↓ S2,S2,↓reduceIte,reduceNe,reduceEqDiff,reduceCtorEq,reduceLeDiff,reduceAdd,reduceLT,VQ,]));(try simp +contextual (disch:=omega) only[Z2,]);(with_reducible repeat' (first|intro h|refine And.intro (by omega) ?_ | refine exP (by omega) ?_ | apply And.intro)))
  all_goals first|(exfalso;omega)|(simp only[chA,List.length_append,List.length_cons,List.length_nil];omega)|(simp[chA];done)|skip
 ·have hA:=Tryz.opd7 a 3 (by omega) (by omega) ha
  have hB:=Tryz.opd7 b (3+1) (by omega) (by omega) hb
  have hAl:=YU 3 a
  have hBl:=YU (3+1) b
  rw[h4] at hlv ⊢
  rw[if_neg (by decide),show max 3 2=3 from rfl]
  replace hlv:Pu 88 [I e.n] (· = I 3):=hlv
  generalize oprT 3 a=A at *
  generalize oprT (3+1) b=B at *
  refine Z6 mxd i56 rfl (by simp) ?_;simp (maxSteps:=9^7) only[↓ S2,S2,Z7,↓reduceIte,reduceNe,reduceEqDiff,reduceCtorEq,reduceLeDiff,reduceAdd,reduceLT]
  ((try refine qI ?_);(repeat ((first|with_reducible refine qU ?_ | simp only[Z9]);try simp (maxSteps:=9^7) +contextual only[↓ S2,S2,↓reduceIte,reduceNe,reduceEqDiff,reduceCtorEq,reduceLeDiff,reduceAdd,reduceLT,VQ,XE,hag,hga,hgb,Int.reduceToNat,List.getElem_cons_zero,List.getElem_cons_succ,hge]));(try simp +contextual (disch:=omega) only[Z2,XE,hag,hga,hgb,Int.reduceToNat,List.getElem_cons_zero,List.getElem_cons_succ,hge]);(with_reducible repeat' (first|intro h|refine And.intro (by omega) ?_ | refine exP (by omega) ?_ | apply And.intro)))
  ((try refine qI ?_);(repeat ((first|with_reducible refine qU ?_ | simp only[Z9]);try simp (maxSteps:=9^7) +contextual only[↓ S2,S2,↓reduceIte,reduceNe,reduceEqDiff,reduceCtorEq,reduceLeDiff,reduceAdd,reduceLT,VQ,XE,hag,hga,hgb,Int.reduceToNat,List.getElem_cons_zero,List.getElem_cons_succ,hge]));(try simp +contextual (disch:=omega) only[Z2,XE,hag,hga,hgb,Int.reduceToNat,List.getElem_cons_zero,List.getElem_cons_succ,hge]);(with_reducible repeat' (first|intro h|refine And.intro (by omega) ?_ | refine exP (by omega) ?_ | apply And.intro)))
  all_goals try exact oF
  refine callS.eq hlv ?_
  ((try refine qI ?_);(repeat ((first|with_reducible refine qU ?_ | simp only[Z9]);try simp (maxSteps:=9^7) +contextual only[↓ S2,S2,↓reduceIte,reduceNe,reduceEqDiff,reduceCtorEq,reduceLeDiff,reduceAdd,reduceLT,VQ,XE,hag,hga,hgb,Int.reduceToNat,List.getElem_cons_zero,List.getElem_cons_succ,hge]));(try simp +contextual (disch:=omega) only[Z2,XE,hag,hga,hgb,Int.reduceToNat,List.getElem_cons_zero,List.getElem_cons_succ,hge]);(with_reducible repeat' (first|intro h|refine And.intro (by omega) ?_ | refine exP (by omega) ?_ | apply And.intro)))
  ((try refine qI ?_);(repeat ((first|with_reducible refine qU ?_ | simp only[Z9]);try simp (maxSteps:=9^7) +contextual only[↓ S2,S2,↓reduceIte,reduceNe,reduceEqDiff,reduceCtorEq,reduceLeDiff,reduceAdd,reduceLT,VQ,XE,hag,hga,hgb,Int.reduceToNat,List.getElem_cons_zero,List.getElem_cons_succ,hge]));(try simp +contextual (disch:=omega) only[Z2,XE,hag,hga,hgb,Int.reduceToNat,List.getElem_cons_zero,List.getElem_cons_succ,hge]);(with_reducible repeat' (first|intro h|refine And.intro (by omega) ?_ | refine exP (by omega) ?_ | apply And.intro)))
  all_goals try exact oF
  refine callS.eqT hA (Zf 1) (fun _ h=>h) ?_
  ((try refine qI ?_);(repeat ((first|with_reducible refine qU ?_ | simp only[Z9]);try simp (maxSteps:=9^7) +contextual only[↓ S2,S2,↓reduceIte,reduceNe,reduceEqDiff,reduceCtorEq,reduceLeDiff,reduceAdd,reduceLT,VQ,XE,hag,hga,hgb,Int.reduceToNat,List.getElem_cons_zero,List.getElem_cons_succ,hge]));(try simp +contextual (disch:=omega) only[Z2,XE,hag,hga,hgb,Int.reduceToNat,List.getElem_cons_zero,List.getElem_cons_succ,hge]);(with_reducible repeat' (first|intro h|refine And.intro (by omega) ?_ | refine exP (by omega) ?_ | apply And.intro)))
  all_goals first|(exfalso;omega)|(simp only[chA,List.length_append,List.length_cons,List.length_nil];omega)|(simp[chA];done)|skip
  refine callS.eq how ?_
  ((try refine qI ?_);(repeat ((first|with_reducible refine qU ?_ | simp only[Z9]);try simp (maxSteps:=9^7) +contextual only[↓ S2,S2,↓reduceIte,reduceNe,reduceEqDiff,reduceCtorEq,reduceLeDiff,reduceAdd,reduceLT,VQ,XE,hag,hga,hgb,Int.reduceToNat,List.getElem_cons_zero,List.getElem_cons_succ,hge]));(try simp +contextual (disch:=omega) only[Z2,XE,hag,hga,hgb,Int.reduceToNat,List.getElem_cons_zero,List.getElem_cons_succ,hge]);(with_reducible repeat' (first|intro h|refine And.intro (by omega) ?_ | refine exP (by omega) ?_ | apply And.intro)))
  ((try refine qI ?_);(repeat ((first|with_reducible refine qU ?_ | simp only[Z9]);try simp (maxSteps:=9^7) +contextual only[↓ S2,S2,↓reduceIte,reduceNe,reduceEqDiff,reduceCtorEq,reduceLeDiff,reduceAdd,reduceLT,VQ,XE,hag,hga,hgb,Int.reduceToNat,List.getElem_cons_zero,List.getElem_cons_succ,hge]));(try simp +contextual (disch:=omega) only[Z2,XE,hag,hga,hgb,Int.reduceToNat,List.getElem_cons_zero,List.getElem_cons_succ,hge]);(with_reducible repeat' (first|intro h|refine And.intro (by omega) ?_ | refine exP (by omega) ?_ | apply And.intro)))
  all_goals first|(exfalso;omega)|(simp only[chA,List.length_append,List.length_cons,List.length_nil];omega)|(simp[chA];done)|skip
  refine callS.eqT hB (Zf 1) (fun _ h=>h) ?_
  ((try refine qI ?_);(repeat ((first|with_reducible refine qU ?_ | simp only[Z9]);try simp (maxSteps:=9^7) +contextual only[↓ S2,S2,↓reduceIte,reduceNe,reduceEqDiff,reduceCtorEq,reduceLeDiff,reduceAdd,reduceLT,VQ,]));(try simp +contextual (disch:=omega) only[Z2,]);(with_reducible repeat' (first|intro h|refine And.intro (by omega) ?_ | refine exP (by omega) ?_ | apply And.intro)))
  all_goals first|(exfalso;omega)|(simp only[chA,List.length_append,List.length_cons,List.length_nil];omega)|(simp[chA];done)|skip
 ·rw[h4] at hlv ⊢
  rw[if_pos rfl]
  replace hlv:Pu 88 [I e.n] (· = I 4):=hlv
  generalize ZO a=A at *
  generalize ZO b=B at *
  refine Z6 mxd i56 rfl (by simp) ?_;simp (maxSteps:=9^7) only[↓ S2,S2,Z7,↓reduceIte,reduceNe,reduceEqDiff,reduceCtorEq,reduceLeDiff,reduceAdd,reduceLT]
  ((try refine qI ?_);(repeat ((first|with_reducible refine qU ?_ | simp only[Z9]);try simp (maxSteps:=9^7) +contextual only[↓ S2,S2,↓reduceIte,reduceNe,reduceEqDiff,reduceCtorEq,reduceLeDiff,reduceAdd,reduceLT,VQ,XE,hag,hga,hgb,Int.reduceToNat,List.getElem_cons_zero,List.getElem_cons_succ,hge]));(try simp +contextual (disch:=omega) only[Z2,XE,hag,hga,hgb,Int.reduceToNat,List.getElem_cons_zero,List.getElem_cons_succ,hge]);(with_reducible repeat' (first|intro h|refine And.intro (by omega) ?_ | refine exP (by omega) ?_ | apply And.intro)))
  ((try refine qI ?_);(repeat ((first|with_reducible refine qU ?_ | simp only[Z9]);try simp (maxSteps:=9^7) +contextual only[↓ S2,S2,↓reduceIte,reduceNe,reduceEqDiff,reduceCtorEq,reduceLeDiff,reduceAdd,reduceLT,VQ,XE,hag,hga,hgb,Int.reduceToNat,List.getElem_cons_zero,List.getElem_cons_succ,hge]));(try simp +contextual (disch:=omega) only[Z2,XE,hag,hga,hgb,Int.reduceToNat,List.getElem_cons_zero,List.getElem_cons_succ,hge]);(with_reducible repeat' (first|intro h|refine And.intro (by omega) ?_ | refine exP (by omega) ?_ | apply And.intro)))
  all_goals try exact oF
  refine callS.eq hlv ?_
  ((try refine qI ?_);(repeat ((first|with_reducible refine qU ?_ | simp only[Z9]);try simp (maxSteps:=9^7) +contextual only[↓ S2,S2,↓reduceIte,reduceNe,reduceEqDiff,reduceCtorEq,reduceLeDiff,reduceAdd,reduceLT,VQ,XE,hag,hga,hgb,Int.reduceToNat,List.getElem_cons_zero,List.getElem_cons_succ,hge]));(try simp +contextual (disch:=omega) only[Z2,XE,hag,hga,hgb,Int.reduceToNat,List.getElem_cons_zero,List.getElem_cons_succ,hge]);(with_reducible repeat' (first|intro h|refine And.intro (by omega) ?_ | refine exP (by omega) ?_ | apply And.intro)))
  ((try refine qI ?_);(repeat ((first|with_reducible refine qU ?_ | simp only[Z9]);try simp (maxSteps:=9^7) +contextual only[↓ S2,S2,↓reduceIte,reduceNe,reduceEqDiff,reduceCtorEq,reduceLeDiff,reduceAdd,reduceLT,VQ,XE,hag,hga,hgb,Int.reduceToNat,List.getElem_cons_zero,List.getElem_cons_succ,hge]));(try simp +contextual (disch:=omega) only[Z2,XE,hag,hga,hgb,Int.reduceToNat,List.getElem_cons_zero,List.getElem_cons_succ,hge]);(with_reducible repeat' (first|intro h|refine And.intro (by omega) ?_ | refine exP (by omega) ?_ | apply And.intro)))
  all_goals try exact oF
  refine callS.eq how ?_
  ((try refine qI ?_);(repeat ((first|with_reducible refine qU ?_ | simp only[Z9]);try simp (maxSteps:=9^7) +contextual only[↓ S2,S2,↓reduceIte,reduceNe,reduceEqDiff,reduceCtorEq,reduceLeDiff,reduceAdd,reduceLT,VQ,XE,hag,hga,hgb,Int.reduceToNat,List.getElem_cons_zero,List.getElem_cons_succ,hge]));(try simp +contextual (disch:=omega) only[Z2,XE,hag,hga,hgb,Int.reduceToNat,List.getElem_cons_zero,List.getElem_cons_succ,hge]);(with_reducible repeat' (first|intro h|refine And.intro (by omega) ?_ | refine exP (by omega) ?_ | apply And.intro)))
  all_goals first|(exfalso;omega)|(simp only[chA,List.length_append,List.length_cons,List.length_nil];omega)|(simp[chA];done)|skip
  refine callS.eqT ha (Zf 1) (fun _ h=>h) ?_
  ((try refine qI ?_);(repeat ((first|with_reducible refine qU ?_ | simp only[Z9]);try simp (maxSteps:=9^7) +contextual only[↓ S2,S2,↓reduceIte,reduceNe,reduceEqDiff,reduceCtorEq,reduceLeDiff,reduceAdd,reduceLT,VQ,XE,hag,hga,hgb,Int.reduceToNat,List.getElem_cons_zero,List.getElem_cons_succ,hge]));(try simp +contextual (disch:=omega) only[Z2,XE,hag,hga,hgb,Int.reduceToNat,List.getElem_cons_zero,List.getElem_cons_succ,hge]);(with_reducible repeat' (first|intro h|refine And.intro (by omega) ?_ | refine exP (by omega) ?_ | apply And.intro)))
  ((try refine qI ?_);(repeat ((first|with_reducible refine qU ?_ | simp only[Z9]);try simp (maxSteps:=9^7) +contextual only[↓ S2,S2,↓reduceIte,reduceNe,reduceEqDiff,reduceCtorEq,reduceLeDiff,reduceAdd,reduceLT,VQ,XE,hag,hga,hgb,Int.reduceToNat,List.getElem_cons_zero,List.getElem_cons_succ,hge]));(try simp +contextual (disch:=omega) only[Z2,XE,hag,hga,hgb,Int.reduceToNat,List.getElem_cons_zero,List.getElem_cons_succ,hge]);(with_reducible repeat' (first|intro h|refine And.intro (by omega) ?_ | refine exP (by omega) ?_ | apply And.intro)))
  all_goals first|(exfalso;omega)|(simp only[chA,List.length_append,List.length_cons,List.length_nil];omega)|(simp[chA];done)|skip
  refine callS.eqT hb (Zf 1) (fun _ h=>h) ?_
  ((try refine qI ?_);(repeat ((first|with_reducible refine qU ?_ | simp only[Z9]);try simp (maxSteps:=9^7) +contextual only[↓ S2,S2,↓reduceIte,reduceNe,reduceEqDiff,reduceCtorEq,reduceLeDiff,reduceAdd,reduceLT,VQ,]));(try simp +contextual (disch:=omega) only[Z2,]);(with_reducible repeat' (first|intro h|refine And.intro (by omega) ?_ | refine exP (by omega) ?_ | apply And.intro)))
  all_goals first|(exfalso;omega)|(simp only[chA,List.length_append,List.length_cons,List.length_nil];omega)|(simp[chA];done)|skip
theorem p28:∀(e:Exp),allE YG e=true→Zo e≤1000→PureT Tryz.prog (tab10 1) 28 [Ex e] (· = .val (mkS (ZO e))):=by
 refine Exp.indA fun e ih=> ?_
 intro hv hc
 obtain ⟨hn,hv⟩:=allE_args hv
 have hag:Go.Gh.isAgg (Ex e)=true:=by rw[ZC];rfl
 rcases (node_c hn).c with ⟨n,h1,h2,he⟩|⟨n,h1,h2,he⟩|⟨n,h1,he⟩|he|⟨p,m,h1,h2,h3,he⟩|⟨n,a,b,h1,h2,he⟩|⟨a,b,c,he⟩|⟨p,h1,h2,he⟩|he|⟨s,m,a,h1,h2,he⟩
 ·have hk:e.kind=1:=by rw[he];rfl
  have hft:=p53 e.n e.type (.inl ⟨by rw[he];rfl,by rw[he];exact h1,by rw[he];exact h2⟩)
  have ee:Exp.mk 1 e.n 0 e.type noS noS []=e:=by rw[he];rfl
  rw[ee] at hft
  refine Z6 mxd i28 rfl (by simp) ?_;simp (maxSteps:=9^7) only[↓ S2,S2,Z7,↓reduceIte,reduceNe,reduceEqDiff,reduceCtorEq,reduceLeDiff,reduceAdd,reduceLT]
  ((try refine qI ?_);(repeat ((first|with_reducible refine qU ?_ | simp only[Z9]);try simp (maxSteps:=9^7) +contextual only[↓ S2,S2,↓reduceIte,reduceNe,reduceEqDiff,reduceCtorEq,reduceLeDiff,reduceAdd,reduceLT,VQ,XE,hk,hag,Int.reduceToNat,List.getElem_cons_zero,List.getElem_cons_succ]));(try simp +contextual (disch:=omega) only[Z2,XE,hk,hag,Int.reduceToNat,List.getElem_cons_zero,List.getElem_cons_succ]);(with_reducible repeat' (first|intro h|refine And.intro (by omega) ?_ | refine exP (by omega) ?_ | apply And.intro)))
  refine callS.eqT hft (Zf 1) (fun _ h=>h) ?_
  ((try refine qI ?_);(repeat ((first|with_reducible refine qU ?_ | simp only[Z9]);try simp (maxSteps:=9^7) +contextual only[↓ S2,S2,↓reduceIte,reduceNe,reduceEqDiff,reduceCtorEq,reduceLeDiff,reduceAdd,reduceLT,VQ,]));(try simp +contextual (disch:=omega) only[Z2,]);(with_reducible repeat' (first|intro h|refine And.intro (by omega) ?_ | refine exP (by omega) ?_ | apply And.intro)))
 ·have hk:e.kind=1:=by rw[he];rfl
  have hft:=p53 e.n e.type (.inr (.inl ⟨by rw[he];rfl,by rw[he];exact h1,by rw[he];exact h2⟩))
  have ee:Exp.mk 1 e.n 0 e.type noS noS []=e:=by rw[he];rfl
  rw[ee] at hft
  refine Z6 mxd i28 rfl (by simp) ?_;simp (maxSteps:=9^7) only[↓ S2,S2,Z7,↓reduceIte,reduceNe,reduceEqDiff,reduceCtorEq,reduceLeDiff,reduceAdd,reduceLT]
  ((try refine qI ?_);(repeat ((first|with_reducible refine qU ?_ | simp only[Z9]);try simp (maxSteps:=9^7) +contextual only[↓ S2,S2,↓reduceIte,reduceNe,reduceEqDiff,reduceCtorEq,reduceLeDiff,reduceAdd,reduceLT,VQ,XE,hk,hag,Int.reduceToNat,List.getElem_cons_zero,List.getElem_cons_succ]));(try simp +contextual (disch:=omega) only[Z2,XE,hk,hag,Int.reduceToNat,List.getElem_cons_zero,List.getElem_cons_succ]);(with_reducible repeat' (first|intro h|refine And.intro (by omega) ?_ | refine exP (by omega) ?_ | apply And.intro)))
  refine callS.eqT hft (Zf 1) (fun _ h=>h) ?_
  ((try refine qI ?_);(repeat ((first|with_reducible refine qU ?_ | simp only[Z9]);try simp (maxSteps:=9^7) +contextual only[↓ S2,S2,↓reduceIte,reduceNe,reduceEqDiff,reduceCtorEq,reduceLeDiff,reduceAdd,reduceLT,VQ,]));(try simp +contextual (disch:=omega) only[Z2,]);(with_reducible repeat' (first|intro h|refine And.intro (by omega) ?_ | refine exP (by omega) ?_ | apply And.intro)))
 ·have hk:e.kind=1:=by rw[he];rfl
  have hft:=p53 e.n e.type (.inr (.inr ⟨by rw[he];rfl,by rw[he];exact h1⟩))
  have ee:Exp.mk 1 e.n 0 e.type noS noS []=e:=by rw[he];rfl
  rw[ee] at hft
  refine Z6 mxd i28 rfl (by simp) ?_;simp (maxSteps:=9^7) only[↓ S2,S2,Z7,↓reduceIte,reduceNe,reduceEqDiff,reduceCtorEq,reduceLeDiff,reduceAdd,reduceLT]
  ((try refine qI ?_);(repeat ((first|with_reducible refine qU ?_ | simp only[Z9]);try simp (maxSteps:=9^7) +contextual only[↓ S2,S2,↓reduceIte,reduceNe,reduceEqDiff,reduceCtorEq,reduceLeDiff,reduceAdd,reduceLT,VQ,XE,hk,hag,Int.reduceToNat,List.getElem_cons_zero,List.getElem_cons_succ]));(try simp +contextual (disch:=omega) only[Z2,XE,hk,hag,Int.reduceToNat,List.getElem_cons_zero,List.getElem_cons_succ]);(with_reducible repeat' (first|intro h|refine And.intro (by omega) ?_ | refine exP (by omega) ?_ | apply And.intro)))
  refine callS.eqT hft (Zf 1) (fun _ h=>h) ?_
  ((try refine qI ?_);(repeat ((first|with_reducible refine qU ?_ | simp only[Z9]);try simp (maxSteps:=9^7) +contextual only[↓ S2,S2,↓reduceIte,reduceNe,reduceEqDiff,reduceCtorEq,reduceLeDiff,reduceAdd,reduceLT,VQ,]));(try simp +contextual (disch:=omega) only[Z2,]);(with_reducible repeat' (first|intro h|refine And.intro (by omega) ?_ | refine exP (by omega) ?_ | apply And.intro)))
 ·have hk:e.kind=2:=by rw[he];rfl
  have htx:ZO e = _ := (congrArg ZO he).trans txt_lit
  rw[htx]
  refine Z6 mxd i28 rfl (by simp) ?_;simp (maxSteps:=9^7) only[↓ S2,S2,Z7,↓reduceIte,reduceNe,reduceEqDiff,reduceCtorEq,reduceLeDiff,reduceAdd,reduceLT]
  ((try refine qI ?_);(repeat ((first|with_reducible refine qU ?_ | simp only[Z9]);try simp (maxSteps:=9^7) +contextual only[↓ S2,S2,↓reduceIte,reduceNe,reduceEqDiff,reduceCtorEq,reduceLeDiff,reduceAdd,reduceLT,VQ,XE,hk,hag,Int.reduceToNat,List.getElem_cons_zero,List.getElem_cons_succ]));(try simp +contextual (disch:=omega) only[Z2,XE,hk,hag,Int.reduceToNat,List.getElem_cons_zero,List.getElem_cons_succ]);(with_reducible repeat' (first|intro h|refine And.intro (by omega) ?_ | refine exP (by omega) ?_ | apply And.intro)))
  all_goals try exact oF
 ·have hk:e.kind=3:=by rw[he];rfl
  have hp0:0≤e.pos∧e.pos≤3:=by rw[he];exact ⟨h1,h2⟩
  have hnl:(Z8 e.name).length ≤ 8:=by rw[he];exact XX h3
  have htx:ZO e=36::(itoa e.pos++46::Z8 e.name):=by rw[he];exact txt_attr p m
  rw[htx]
  have hfi:=p54 e.pos (by omega) (by omega)
  have hpl:=YL hp0.1 (by omega)
  generalize itoa e.pos=A at *
  refine Z6 mxd i28 rfl (by simp) ?_;simp (maxSteps:=9^7) only[↓ S2,S2,Z7,↓reduceIte,reduceNe,reduceEqDiff,reduceCtorEq,reduceLeDiff,reduceAdd,reduceLT]
  ((try refine qI ?_);(repeat ((first|with_reducible refine qU ?_ | simp only[Z9]);try simp (maxSteps:=9^7) +contextual only[↓ S2,S2,↓reduceIte,reduceNe,reduceEqDiff,reduceCtorEq,reduceLeDiff,reduceAdd,reduceLT,VQ,XE,hk,hag,Int.reduceToNat,List.getElem_cons_zero,List.getElem_cons_succ]));(try simp +contextual (disch:=omega) only[Z2,XE,hk,hag,Int.reduceToNat,List.getElem_cons_zero,List.getElem_cons_succ]);(with_reducible repeat' (first|intro h|refine And.intro (by omega) ?_ | refine exP (by omega) ?_ | apply And.intro)))
  refine callS.eqT hfi (Zf 1) (fun _ h=>h) ?_
  ((try refine qI ?_);(repeat ((first|with_reducible refine qU ?_ | simp only[Z9]);try simp (maxSteps:=9^7) +contextual only[↓ S2,S2,↓reduceIte,reduceNe,reduceEqDiff,reduceCtorEq,reduceLeDiff,reduceAdd,reduceLT,VQ,XE,hk,hag,Int.reduceToNat,List.getElem_cons_zero,List.getElem_cons_succ]));(try simp +contextual (disch:=omega) only[Z2,XE,hk,hag,Int.reduceToNat,List.getElem_cons_zero,List.getElem_cons_succ]);(with_reducible repeat' (first|intro h|refine And.intro (by omega) ?_ | refine exP (by omega) ?_ | apply And.intro)))
  all_goals first|(exfalso;omega)|(simp only[chA,List.length_append,List.length_cons,List.length_nil];omega)|(simp[chA];done)|skip
 ·have hk:e.kind=4:=by rw[he];rfl
  have hen:e.n=n:=by rw[he];rfl
  have har:e.args=[a,b]:=by rw[he];rfl
  have hcn:Zo e=1+Zo a+Zo b:=by rw[he,Y4];simp[Exp.args];omega
  have hva:=hv a (by rw[har];simp)
  have hvb:=hv b (by rw[har];simp)
  have ha:=ih a (by rw[har];simp) hva (by omega)
  have hb:=ih b (by rw[har];simp) hvb (by omega)
  have hla:=X8 a hva
  have hlb:=X8 b hvb
  have hop:=Tryz.opt7 e a b ⟨hk,by rw[hen];exact h1,by rw[hen];exact h2,har⟩ (by rw[hen];exact he) (by omega) (by omega) ha hb
  refine Z6 mxd i28 rfl (by simp) ?_;simp (maxSteps:=9^7) only[↓ S2,S2,Z7,↓reduceIte,reduceNe,reduceEqDiff,reduceCtorEq,reduceLeDiff,reduceAdd,reduceLT]
  ((try refine qI ?_);(repeat ((first|with_reducible refine qU ?_ | simp only[Z9]);try simp (maxSteps:=9^7) +contextual only[↓ S2,S2,↓reduceIte,reduceNe,reduceEqDiff,reduceCtorEq,reduceLeDiff,reduceAdd,reduceLT,VQ,XE,hk,hag,Int.reduceToNat,List.getElem_cons_zero,List.getElem_cons_succ]));(try simp +contextual (disch:=omega) only[Z2,XE,hk,hag,Int.reduceToNat,List.getElem_cons_zero,List.getElem_cons_succ]);(with_reducible repeat' (first|intro h|refine And.intro (by omega) ?_ | refine exP (by omega) ?_ | apply And.intro)))
  refine callS.eqT hop (Zf 1) (fun _ h=>h) ?_
  ((try refine qI ?_);(repeat ((first|with_reducible refine qU ?_ | simp only[Z9]);try simp (maxSteps:=9^7) +contextual only[↓ S2,S2,↓reduceIte,reduceNe,reduceEqDiff,reduceCtorEq,reduceLeDiff,reduceAdd,reduceLT,VQ,]));(try simp +contextual (disch:=omega) only[Z2,]);(with_reducible repeat' (first|intro h|refine And.intro (by omega) ?_ | refine exP (by omega) ?_ | apply And.intro)))
 ·have hk:e.kind=5:=by rw[he];rfl
  have har:e.args=[a,b,c]:=by rw[he];rfl
  have hcn:Zo e=1+Zo a+Zo b+Zo c:=by rw[he,Y4];simp[Exp.args];omega
  have hva:=hv a (by rw[har];simp)
  have hvb:=hv b (by rw[har];simp)
  have hvc:=hv c (by rw[har];simp)
  have ha:=ih a (by rw[har];simp) hva (by omega)
  have hb:=ih b (by rw[har];simp) hvb (by omega)
  have hcc:=ih c (by rw[har];simp) hvc (by omega)
  have hla:=X8 a hva
  have hlb:=X8 b hvb
  have hlc:=X8 c hvc
  have hga:Go.Gh.isAgg (Ex a)=true:=by rw[ZC];rfl
  have hgb:Go.Gh.isAgg (Ex b)=true:=by rw[ZC];rfl
  have hgc:Go.Gh.isAgg (Ex c)=true:=by rw[ZC];rfl
  have htx:ZO e=[105,102,32]++ZO a++[32,116,104,101,110,32]++ZO b++[32,101,108,115,101,32]++ZO c:=by rw[he];exact txt_if a b c
  rw[htx]
  generalize ZO a=A at *
  generalize ZO b=B at *
  generalize ZO c=C at *
  refine Z6 mxd i28 rfl (by simp) ?_;simp (maxSteps:=9^7) only[↓ S2,S2,Z7,↓reduceIte,reduceNe,reduceEqDiff,reduceCtorEq,reduceLeDiff,reduceAdd,reduceLT]
  ((try refine qI ?_);(repeat ((first|with_reducible refine qU ?_ | simp only[Z9]);try simp (maxSteps:=9^7) +contextual only[↓ S2,S2,↓reduceIte,reduceNe,reduceEqDiff,reduceCtorEq,reduceLeDiff,reduceAdd,reduceLT,VQ,XE,hk,hag,Int.reduceToNat,List.getElem_cons_zero,List.getElem_cons_succ,har,hga,hgb,hgc]));(try simp +contextual (disch:=omega) only[Z2,XE,hk,hag,Int.reduceToNat,List.getElem_cons_zero,List.getElem_cons_succ,har,hga,hgb,hgc]);(with_reducible repeat' (first|intro h|refine And.intro (by omega) ?_ | refine exP (by omega) ?_ | apply And.intro)))
  ((try refine qI ?_);(repeat ((first|with_reducible refine qU ?_ | simp only[Z9]);try simp (maxSteps:=9^7) +contextual only[↓ S2,S2,↓reduceIte,reduceNe,reduceEqDiff,reduceCtorEq,reduceLeDiff,reduceAdd,reduceLT,VQ,XE,hk,hag,Int.reduceToNat,List.getElem_cons_zero,List.getElem_cons_succ,har,hga,hgb,hgc]));(try simp +contextual (disch:=omega) only[Z2,XE,hk,hag,Int.reduceToNat,List.getElem_cons_zero,List.getElem_cons_succ,har,hga,hgb,hgc]);(with_reducible repeat' (first|intro h|refine And.intro (by omega) ?_ | refine exP (by omega) ?_ | apply And.intro)))
  all_goals first|(exfalso;omega)|(simp only[chA,List.length_append,List.length_cons,List.length_nil];omega)|(simp[chA];done)|skip
  refine callS.eqT ha (Zf 1) (fun _ h=>h) ?_
  ((try refine qI ?_);(repeat ((first|with_reducible refine qU ?_ | simp only[Z9]);try simp (maxSteps:=9^7) +contextual only[↓ S2,S2,↓reduceIte,reduceNe,reduceEqDiff,reduceCtorEq,reduceLeDiff,reduceAdd,reduceLT,VQ,XE,hk,hag,Int.reduceToNat,List.getElem_cons_zero,List.getElem_cons_succ,har,hga,hgb,hgc]));(try simp +contextual (disch:=omega) only[Z2,XE,hk,hag,Int.reduceToNat,List.getElem_cons_zero,List.getElem_cons_succ,har,hga,hgb,hgc]);(with_reducible repeat' (first|intro h|refine And.intro (by omega) ?_ | refine exP (by omega) ?_ | apply And.intro)))
  ((try refine qI ?_);(repeat ((first|with_reducible refine qU ?_ | simp only[Z9]);try simp (maxSteps:=9^7) +contextual only[↓ S2,S2,↓reduceIte,reduceNe,reduceEqDiff,reduceCtorEq,reduceLeDiff,reduceAdd,reduceLT,VQ,XE,hk,hag,Int.reduceToNat,List.getElem_cons_zero,List.getElem_cons_succ,har,hga,hgb,hgc]));(try simp +contextual (disch:=omega) only[Z2,XE,hk,hag,Int.reduceToNat,List.getElem_cons_zero,List.getElem_cons_succ,har,hga,hgb,hgc]);(with_reducible repeat' (first|intro h|refine And.intro (by omega) ?_ | refine exP (by omega) ?_ | apply And.intro)))
  all_goals first|(exfalso;omega)|(simp only[chA,List.length_append,List.length_cons,List.length_nil];omega)|(simp[chA];done)|skip
  refine callS.eqT hb (Zf 1) (fun _ h=>h) ?_
  ((try refine qI ?_);(repeat ((first|with_reducible refine qU ?_ | simp only[Z9]);try simp (maxSteps:=9^7) +contextual only[↓ S2,S2,↓reduceIte,reduceNe,reduceEqDiff,reduceCtorEq,reduceLeDiff,reduceAdd,reduceLT,VQ,XE,hk,hag,Int.reduceToNat,List.getElem_cons_zero,List.getElem_cons_succ,har,hga,hgb,hgc]));(try simp +contextual (disch:=omega) only[Z2,XE,hk,hag,Int.reduceToNat,List.getElem_cons_zero,List.getElem_cons_succ,har,hga,hgb,hgc]);(with_reducible repeat' (first|intro h|refine And.intro (by omega) ?_ | refine exP (by omega) ?_ | apply And.intro)))
  ((try refine qI ?_);(repeat ((first|with_reducible refine qU ?_ | simp only[Z9]);try simp (maxSteps:=9^7) +contextual only[↓ S2,S2,↓reduceIte,reduceNe,reduceEqDiff,reduceCtorEq,reduceLeDiff,reduceAdd,reduceLT,VQ,XE,hk,hag,Int.reduceToNat,List.getElem_cons_zero,List.getElem_cons_succ,har,hga,hgb,hgc]));(try simp +contextual (disch:=omega) only[Z2,XE,hk,hag,Int.reduceToNat,List.getElem_cons_zero,List.getElem_cons_succ,har,hga,hgb,hgc]);(with_reducible repeat' (first|intro h|refine And.intro (by omega) ?_ | refine exP (by omega) ?_ | apply And.intro)))
  all_goals first|(exfalso;omega)|(simp only[chA,List.length_append,List.length_cons,List.length_nil];omega)|(simp[chA];done)|skip
  refine callS.eqT hcc (Zf 1) (fun _ h=>h) ?_
  ((try refine qI ?_);(repeat ((first|with_reducible refine qU ?_ | simp only[Z9]);try simp (maxSteps:=9^7) +contextual only[↓ S2,S2,↓reduceIte,reduceNe,reduceEqDiff,reduceCtorEq,reduceLeDiff,reduceAdd,reduceLT,VQ,XE,hk,hag,Int.reduceToNat,List.getElem_cons_zero,List.getElem_cons_succ]));(try simp +contextual (disch:=omega) only[Z2,XE,hk,hag,Int.reduceToNat,List.getElem_cons_zero,List.getElem_cons_succ]);(with_reducible repeat' (first|intro h|refine And.intro (by omega) ?_ | refine exP (by omega) ?_ | apply And.intro)))
  all_goals first|(exfalso;omega)|(simp only[chA,List.length_append,List.length_cons,List.length_nil];omega)|(simp[chA];done)|skip
 ·have hk:e.kind=6:=by rw[he];rfl
  have hp0:0≤e.pos∧e.pos≤3:=by rw[he];exact ⟨h1,h2⟩
  have htx:ZO e=[115,101,108,102,40]++(itoa e.pos++[41]):=by rw[he];exact txt_self p
  rw[htx]
  have hfi:=p54 e.pos (by omega) (by omega)
  have hpl:=YL hp0.1 (by omega)
  generalize itoa e.pos=A at *
  refine Z6 mxd i28 rfl (by simp) ?_;simp (maxSteps:=9^7) only[↓ S2,S2,Z7,↓reduceIte,reduceNe,reduceEqDiff,reduceCtorEq,reduceLeDiff,reduceAdd,reduceLT]
  ((try refine qI ?_);(repeat ((first|with_reducible refine qU ?_ | simp only[Z9]);try simp (maxSteps:=9^7) +contextual only[↓ S2,S2,↓reduceIte,reduceNe,reduceEqDiff,reduceCtorEq,reduceLeDiff,reduceAdd,reduceLT,VQ,XE,hk,hag,Int.reduceToNat,List.getElem_cons_zero,List.getElem_cons_succ]));(try simp +contextual (disch:=omega) only[Z2,XE,hk,hag,Int.reduceToNat,List.getElem_cons_zero,List.getElem_cons_succ]);(with_reducible repeat' (first|intro h|refine And.intro (by omega) ?_ | refine exP (by omega) ?_ | apply And.intro)))
  refine callS.eqT hfi (Zf 1) (fun _ h=>h) ?_
  ((try refine qI ?_);(repeat ((first|with_reducible refine qU ?_ | simp only[Z9]);try simp (maxSteps:=9^7) +contextual only[↓ S2,S2,↓reduceIte,reduceNe,reduceEqDiff,reduceCtorEq,reduceLeDiff,reduceAdd,reduceLT,VQ,XE,hk,hag,Int.reduceToNat,List.getElem_cons_zero,List.getElem_cons_succ]));(try simp +contextual (disch:=omega) only[Z2,XE,hk,hag,Int.reduceToNat,List.getElem_cons_zero,List.getElem_cons_succ]);(with_reducible repeat' (first|intro h|refine And.intro (by omega) ?_ | refine exP (by omega) ?_ | apply And.intro)))
  all_goals first|(exfalso;omega)|(simp only[chA,List.length_append,List.length_cons,List.length_nil];omega)|(simp[chA];done)|skip
 ·have hk:e.kind=7:=by rw[he];rfl
  have htx:ZO e = _ := (congrArg ZO he).trans txt_none
  rw[htx]
  refine Z6 mxd i28 rfl (by simp) ?_;simp (maxSteps:=9^7) only[↓ S2,S2,Z7,↓reduceIte,reduceNe,reduceEqDiff,reduceCtorEq,reduceLeDiff,reduceAdd,reduceLT]
  ((try refine qI ?_);(repeat ((first|with_reducible refine qU ?_ | simp only[Z9]);try simp (maxSteps:=9^7) +contextual only[↓ S2,S2,↓reduceIte,reduceNe,reduceEqDiff,reduceCtorEq,reduceLeDiff,reduceAdd,reduceLT,VQ,XE,hk,hag,Int.reduceToNat,List.getElem_cons_zero,List.getElem_cons_succ]));(try simp +contextual (disch:=omega) only[Z2,XE,hk,hag,Int.reduceToNat,List.getElem_cons_zero,List.getElem_cons_succ]);(with_reducible repeat' (first|intro h|refine And.intro (by omega) ?_ | refine exP (by omega) ?_ | apply And.intro)))
  all_goals try exact oF
 ·have hk:e.kind=8:=by rw[he];rfl
  have har:e.args=[a]:=by rw[he];rfl
  have hcn:Zo e=1+Zo a:=by rw[he,Y4];simp[Exp.args]
  have hva:=hv a (by rw[har];simp)
  have ha:=ih a (by rw[har];simp) hva (by omega)
  have hla:=X8 a hva
  have hga:Go.Gh.isAgg (Ex a)=true:=by rw[ZC];rfl
  have hat:=Tryz.opd7 a 4 (by omega) (by omega) ha
  have hal:=YU 4 a
  have hsl:(Z8 e.sym).length ≤ 8:=by rw[he];exact XX h1
  have hnl:(Z8 e.name).length ≤ 8:=by rw[he];exact XX h2
  have htx:ZO e=Z8 e.sym++46::(Z8 e.name++[32,111,102,32]++oprT 4 a):=by rw[he];exact txt_rem s m a
  rw[htx]
  generalize oprT 4 a=A at *
  refine Z6 mxd i28 rfl (by simp) ?_;simp (maxSteps:=9^7) only[↓ S2,S2,Z7,↓reduceIte,reduceNe,reduceEqDiff,reduceCtorEq,reduceLeDiff,reduceAdd,reduceLT]
  ((try refine qI ?_);(repeat ((first|with_reducible refine qU ?_ | simp only[Z9]);try simp (maxSteps:=9^7) +contextual only[↓ S2,S2,↓reduceIte,reduceNe,reduceEqDiff,reduceCtorEq,reduceLeDiff,reduceAdd,reduceLT,VQ,XE,hk,hag,Int.reduceToNat,List.getElem_cons_zero,List.getElem_cons_succ,har,hga]));(try simp +contextual (disch:=omega) only[Z2,XE,hk,hag,Int.reduceToNat,List.getElem_cons_zero,List.getElem_cons_succ,har,hga]);(with_reducible repeat' (first|intro h|refine And.intro (by omega) ?_ | refine exP (by omega) ?_ | apply And.intro)))
  ((try refine qI ?_);(repeat ((first|with_reducible refine qU ?_ | simp only[Z9]);try simp (maxSteps:=9^7) +contextual only[↓ S2,S2,↓reduceIte,reduceNe,reduceEqDiff,reduceCtorEq,reduceLeDiff,reduceAdd,reduceLT,VQ,XE,hk,hag,Int.reduceToNat,List.getElem_cons_zero,List.getElem_cons_succ,har,hga]));(try simp +contextual (disch:=omega) only[Z2,XE,hk,hag,Int.reduceToNat,List.getElem_cons_zero,List.getElem_cons_succ,har,hga]);(with_reducible repeat' (first|intro h|refine And.intro (by omega) ?_ | refine exP (by omega) ?_ | apply And.intro)))
  all_goals first|(exfalso;omega)|(simp only[chA,List.length_append,List.length_cons,List.length_nil];omega)|(simp[chA];done)|skip
  refine callS.eqT hat (Zf 1) (fun _ h=>h) ?_
  ((try refine qI ?_);(repeat ((first|with_reducible refine qU ?_ | simp only[Z9]);try simp (maxSteps:=9^7) +contextual only[↓ S2,S2,↓reduceIte,reduceNe,reduceEqDiff,reduceCtorEq,reduceLeDiff,reduceAdd,reduceLT,VQ,XE,hk,hag,Int.reduceToNat,List.getElem_cons_zero,List.getElem_cons_succ]));(try simp +contextual (disch:=omega) only[Z2,XE,hk,hag,Int.reduceToNat,List.getElem_cons_zero,List.getElem_cons_succ]);(with_reducible repeat' (first|intro h|refine And.intro (by omega) ?_ | refine exP (by omega) ?_ | apply And.intro)))
  all_goals first|(exfalso;omega)|(simp only[chA,List.length_append,List.length_cons,List.length_nil];omega)|(simp[chA];done)|skip
theorem p10 (e:Exp) (h1:okE e) (h2:wEx e≤1048576):PureT Tryz.prog (tab10 1) 10 [Ex e] (· = .val (mkS (fmtE e))):=by
 have hv:=w27 e h1 h2
 have hag:Go.Gh.isAgg (Ex e)=true:=by rw[ZC];rfl
 unfold fmtE
 by_cases h:YZ e=true
 ·have ht:PureT Tryz.prog (tab10 1) 28 [Ex e] (· = .val (mkS (ZO e))):=by
   simp only[YZ,Bool.and_eq_true,decide_eq_true_eq] at h
   exact p28 e h.2 (by omega)
  rw[h] at hv
  rw[if_pos h]
  refine Z6 mxd i10 rfl (by simp) ?_;simp (maxSteps:=9^7) only[↓ S2,S2,Z7,↓reduceIte,reduceNe,reduceEqDiff,reduceCtorEq,reduceLeDiff,reduceAdd,reduceLT]
  ((try refine qI ?_);(repeat ((first|with_reducible refine qU ?_ | simp only[Z9]);try simp (maxSteps:=9^7) +contextual only[↓ S2,S2,↓reduceIte,reduceNe,reduceEqDiff,reduceCtorEq,reduceLeDiff,reduceAdd,reduceLT,VQ,XE,hag]));(try simp +contextual (disch:=omega) only[Z2,XE,hag]);(with_reducible repeat' (first|intro h|refine And.intro (by omega) ?_ | refine exP (by omega) ?_ | apply And.intro)))
  refine callS.eq hv ?_
  ((try refine qI ?_);(repeat ((first|with_reducible refine qU ?_ | simp only[Z9]);try simp (maxSteps:=9^7) +contextual only[↓ S2,S2,↓reduceIte,reduceNe,reduceEqDiff,reduceCtorEq,reduceLeDiff,reduceAdd,reduceLT,VQ,XE,hag]));(try simp +contextual (disch:=omega) only[Z2,XE,hag]);(with_reducible repeat' (first|intro h|refine And.intro (by omega) ?_ | refine exP (by omega) ?_ | apply And.intro)))
  refine callS.eqT ht (Zf 1) (fun _ h=>h) ?_
  ((try refine qI ?_);(repeat ((first|with_reducible refine qU ?_ | simp only[Z9]);try simp (maxSteps:=9^7) +contextual only[↓ S2,S2,↓reduceIte,reduceNe,reduceEqDiff,reduceCtorEq,reduceLeDiff,reduceAdd,reduceLT,VQ,]));(try simp +contextual (disch:=omega) only[Z2,]);(with_reducible repeat' (first|intro h|refine And.intro (by omega) ?_ | refine exP (by omega) ?_ | apply And.intro)))
 ·rw[Bool.eq_false_iff.2 h] at hv
  rw[if_neg h]
  refine Z6 mxd i10 rfl (by simp) ?_;simp (maxSteps:=9^7) only[↓ S2,S2,Z7,↓reduceIte,reduceNe,reduceEqDiff,reduceCtorEq,reduceLeDiff,reduceAdd,reduceLT]
  ((try refine qI ?_);(repeat ((first|with_reducible refine qU ?_ | simp only[Z9]);try simp (maxSteps:=9^7) +contextual only[↓ S2,S2,↓reduceIte,reduceNe,reduceEqDiff,reduceCtorEq,reduceLeDiff,reduceAdd,reduceLT,VQ,XE,hag]));(try simp +contextual (disch:=omega) only[Z2,XE,hag]);(with_reducible repeat' (first|intro h|refine And.intro (by omega) ?_ | refine exP (by omega) ?_ | apply And.intro)))
  refine callS.eq hv ?_
  ((try refine qI ?_);(repeat ((first|with_reducible refine qU ?_ | simp only[Z9]);try simp (maxSteps:=9^7) +contextual only[↓ S2,S2,↓reduceIte,reduceNe,reduceEqDiff,reduceCtorEq,reduceLeDiff,reduceAdd,reduceLT,VQ,]));(try simp +contextual (disch:=omega) only[Z2,]);(with_reducible repeat' (first|intro h|refine And.intro (by omega) ?_ | refine exP (by omega) ?_ | apply And.intro)))
theorem p23 (s:ByteArray) (hs:(Z8 s).length ≤ 1048576):PureT Tryz.prog (tabE 1 3) 23 [T s] (· = .tup [.val (mkS (if (Zj (Z8 s)).2 ≥ 0 then [] else fmtE (Zj (Z8 s)).1)),B (!decide ((Zj (Z8 s)).2 ≥ 0))]):=by
 have hp:=p13 s hs
 obtain ⟨v1,v2⟩:=parV_sz (Z8 s)
 generalize Zj (Z8 s)=P at *
 obtain ⟨e,b⟩:=P
 dsimp only at hp v1 v2 ⊢
 have hag:Go.Gh.isAgg (Ex e)=true:=by rw[ZC];rfl
 by_cases hb:0≤b
 ·have hb':(0≤b)=True:=eq_true hb
  rw[if_pos hb,decide_eq_true (show b≥0 from hb)]
  refine Z6 mxd i23 rfl (by simp) ?_;simp (maxSteps:=9^7) only[↓ S2,S2,Z7,↓reduceIte,reduceNe,reduceEqDiff,reduceCtorEq,reduceLeDiff,reduceAdd,reduceLT]
  ((try refine qI ?_);(repeat ((first|with_reducible refine qU ?_ | simp only[Z9]);try simp (maxSteps:=9^7) +contextual only[↓ S2,S2,↓reduceIte,reduceNe,reduceEqDiff,reduceCtorEq,reduceLeDiff,reduceAdd,reduceLT,VQ,]));(try simp +contextual (disch:=omega) only[Z2,]);(with_reducible repeat' (first|intro h|refine And.intro (by omega) ?_ | refine exP (by omega) ?_ | apply And.intro)))
  refine callS.eqT hp (YM (by decide)) (fun _ h=>h) ?_
  ((try refine qI ?_);(repeat ((first|with_reducible refine qU ?_ | simp only[Z9]);try simp (maxSteps:=9^7) +contextual only[↓ S2,S2,↓reduceIte,reduceNe,reduceEqDiff,reduceCtorEq,reduceLeDiff,reduceAdd,reduceLT,VQ,XE,hag,hb']));(try simp +contextual (disch:=omega) only[Z2,XE,hag,hb']);(with_reducible repeat' (first|intro h|refine And.intro (by omega) ?_ | refine exP (by omega) ?_ | apply And.intro)))
 ·have hb':(0≤b)=False:=eq_false hb
  rw[if_neg hb,decide_eq_false (show ¬b≥0 from hb)]
  refine Z6 mxd i23 rfl (by simp) ?_;simp (maxSteps:=9^7) only[↓ S2,S2,Z7,↓reduceIte,reduceNe,reduceEqDiff,reduceCtorEq,reduceLeDiff,reduceAdd,reduceLT]
  ((try refine qI ?_);(repeat ((first|with_reducible refine qU ?_ | simp only[Z9]);try simp (maxSteps:=9^7) +contextual only[↓ S2,S2,↓reduceIte,reduceNe,reduceEqDiff,reduceCtorEq,reduceLeDiff,reduceAdd,reduceLT,VQ,]));(try simp +contextual (disch:=omega) only[Z2,]);(with_reducible repeat' (first|intro h|refine And.intro (by omega) ?_ | refine exP (by omega) ?_ | apply And.intro)))
  refine callS.eqT hp (YM (by decide)) (fun _ h=>h) ?_
  ((try refine qI ?_);(repeat ((first|with_reducible refine qU ?_ | simp only[Z9]);try simp (maxSteps:=9^7) +contextual only[↓ S2,S2,↓reduceIte,reduceNe,reduceEqDiff,reduceCtorEq,reduceLeDiff,reduceAdd,reduceLT,VQ,XE,hag,hb']));(try simp +contextual (disch:=omega) only[Z2,XE,hag,hb']);(with_reducible repeat' (first|intro h|refine And.intro (by omega) ?_ | refine exP (by omega) ?_ | apply And.intro)))
  ((try refine qI ?_);(repeat ((first|with_reducible refine qU ?_ | simp only[Z9]);try simp (maxSteps:=9^7) +contextual only[↓ S2,S2,↓reduceIte,reduceNe,reduceEqDiff,reduceCtorEq,reduceLeDiff,reduceAdd,reduceLT,VQ,XE,hag,hb']));(try simp +contextual (disch:=omega) only[Z2,XE,hag,hb']);(with_reducible repeat' (first|intro h|refine And.intro (by omega) ?_ | refine exP (by omega) ?_ | apply And.intro)))
  refine callS.eqT (p10 e v1 v2) (Zf 1) Tryz.inE ?_
  ((try refine qI ?_);(repeat ((first|with_reducible refine qU ?_ | simp only[Z9]);try simp (maxSteps:=9^7) +contextual only[↓ S2,S2,↓reduceIte,reduceNe,reduceEqDiff,reduceCtorEq,reduceLeDiff,reduceAdd,reduceLT,VQ,]));(try simp +contextual (disch:=omega) only[Z2,]);(with_reducible repeat' (first|intro h|refine And.intro (by omega) ?_ | refine exP (by omega) ?_ | apply And.intro)))
theorem p6 (s:ByteArray) (hs0:s.size≤maxLen):PureT Tryz.prog (tabE 1 3) 6 [T s] (· = B true):=by
 have hs1:=hs0
 simp only[maxLen,Zu] at hs1
 refine Z6 mxd i6 rfl (by simp) ?_;simp (maxSteps:=9^7) only[↓ S2,S2,Z7,↓reduceIte,reduceNe,reduceEqDiff,reduceCtorEq,reduceLeDiff,reduceAdd,reduceLT]
 ((try refine qI ?_);(repeat ((first|with_reducible refine qU ?_ | simp only[Z9]);try simp (maxSteps:=9^7) +contextual only[↓ S2,S2,↓reduceIte,reduceNe,reduceEqDiff,reduceCtorEq,reduceLeDiff,reduceAdd,reduceLT,VQ,]));(try simp +contextual (disch:=omega) only[Z2,]);(with_reducible repeat' (first|intro h|refine And.intro (by omega) ?_ | refine exP (by omega) ?_ | apply And.intro)))
 all_goals try exact oF
 have hs:(Z8 s).length ≤ 1048576:=by omega
 have q1:=w22 s hs
 have q2:=p23 s hs
 generalize (if (Zj (Z8 s)).2 ≥ 0 then [] else fmtE (Zj (Z8 s)).1)=A at *
 generalize (!decide ((Zj (Z8 s)).2 ≥ 0))=b at *
 refine callS.eq q1 ?_
 ((try refine qI ?_);(repeat ((first|with_reducible refine qU ?_ | simp only[Z9]);try simp (maxSteps:=9^7) +contextual only[↓ S2,S2,↓reduceIte,reduceNe,reduceEqDiff,reduceCtorEq,reduceLeDiff,reduceAdd,reduceLT,VQ,]));(try simp +contextual (disch:=omega) only[Z2,]);(with_reducible repeat' (first|intro h|refine And.intro (by omega) ?_ | refine exP (by omega) ?_ | apply And.intro)))
 refine callS.eqT q2 (YM (by decide)) (fun _ h=>h) ?_
 ((try refine qI ?_);(repeat ((first|with_reducible refine qU ?_ | simp only[Z9]);try simp (maxSteps:=9^7) +contextual only[↓ S2,S2,↓reduceIte,reduceNe,reduceEqDiff,reduceCtorEq,reduceLeDiff,reduceAdd,reduceLT,VQ,]));(try simp +contextual (disch:=omega) only[Z2,]);(with_reducible repeat' (first|intro h|refine And.intro (by omega) ?_ | refine exP (by omega) ?_ | apply And.intro)))
 all_goals first|rfl|(simp;done)|trace_state
theorem w37 (t:List Exp) (f:Nat) (cs:List GV) (hp:∀x∈t,Pu f (Ex x::Ex x::cs) (· = B true)) :
 Pu 37 [ExS t,ExS t,.clo f cs] (· = B true):=by
 refine GCalls.lenA fun hl=> ?_
 have hlen:=hl.1.1
 simp only[List.length_map,YW] at hlen
 refine Z6 mxd i37 rfl (by simp) ?_;simp (maxSteps:=9^7) only[↓ S2,S2,Z7,↓reduceIte,reduceNe,reduceEqDiff,reduceCtorEq,reduceLeDiff,reduceAdd,reduceLT]
 ((try refine qI ?_);(repeat ((first|with_reducible refine qU ?_ | simp only[Z9]);try simp (maxSteps:=9^7) +contextual only[↓ S2,S2,↓reduceIte,reduceNe,reduceEqDiff,reduceCtorEq,reduceLeDiff,reduceAdd,reduceLT,VQ,XE,List.length_map]));(try simp +contextual (disch:=omega) only[Z2,XE,List.length_map]);(with_reducible repeat' (first|intro h|refine And.intro (by omega) ?_ | refine exP (by omega) ?_ | apply And.intro)))
 all_goals try exact oF
 refine Yt mxd (ι:={ i:Nat // i≤t.length }) (fun i=>[(0,ExS t),(15,ExS t),(1,ExS t),(2,.clo f cs),(16,I t.length),(17,I i.1)]) (fun _ => []) (fun i=>t.length-i.1) ⟨0,by omega⟩ (by simp[E2]) rfl ?_
 rintro ⟨i,hi⟩
 dsimp only
 rcases nL i t.length with hlt|hge
 ·have hag:Go.Gh.isAgg (Ex t[i])=true:=by rw[ZC];rfl
  ((try refine qI ?_);(repeat ((first|with_reducible refine qU ?_ | simp only[Z9]);try simp (maxSteps:=9^7) +contextual only[↓ S2,S2,↓reduceIte,reduceNe,reduceEqDiff,reduceCtorEq,reduceLeDiff,reduceAdd,reduceLT,VQ,XE,hag,hlt]));(try simp +contextual (disch:=omega) only[Z2,XE,hag,hlt]);(with_reducible repeat' (first|intro h|refine And.intro (by omega) ?_ | refine exP (by omega) ?_ | apply And.intro)))
  ((try refine qI ?_);(repeat ((first|with_reducible refine qU ?_ | simp only[Z9]);try simp (maxSteps:=9^7) +contextual only[↓ S2,S2,↓reduceIte,reduceNe,reduceEqDiff,reduceCtorEq,reduceLeDiff,reduceAdd,reduceLT,VQ,XE,hag,hlt]));(try simp +contextual (disch:=omega) only[Z2,XE,hag,hlt]);(with_reducible repeat' (first|intro h|refine And.intro (by omega) ?_ | refine exP (by omega) ?_ | apply And.intro)))
  all_goals try exact oF
  refine callS.eq (hp t[i] (gM hlt)) ?_
  ((try refine qI ?_);(repeat ((first|with_reducible refine qU ?_ | simp only[Z9]);try simp (maxSteps:=9^7) +contextual only[↓ S2,S2,↓reduceIte,reduceNe,reduceEqDiff,reduceCtorEq,reduceLeDiff,reduceAdd,reduceLT,VQ,]));(try simp +contextual (disch:=omega) only[Z2,]);(with_reducible repeat' (first|intro h|refine And.intro (by omega) ?_ | refine exP (by omega) ?_ | apply And.intro)))
  all_goals exact nx ⟨i+1,by omega⟩ (by simp<;>omega) (by simp[E2]) rfl
 ·((try refine qI ?_);(repeat ((first|with_reducible refine qU ?_ | simp only[Z9]);try simp (maxSteps:=9^7) +contextual only[↓ S2,S2,↓reduceIte,reduceNe,reduceEqDiff,reduceCtorEq,reduceLeDiff,reduceAdd,reduceLT,VQ,XE]));(try simp +contextual (disch:=omega) only[Z2,XE]);(with_reducible repeat' (first|intro h|refine And.intro (by omega) ?_ | refine exP (by omega) ?_ | apply And.intro)))
  all_goals try exact oF
theorem w15:∀(e:Exp),Pu 15 [Ex e,Ex e] (· = B true):=by
 refine Exp.indA fun e ih=> ?_
 have hag:Go.Gh.isAgg (Ex e)=true:=by rw[ZC];rfl
 have hs:Pu 36 [Ex e,Ex e] (· = B true):=by
  have:=w36 e e.kind e.n e.pos e.type e.sym e.name e.args
  simp only[decide_true,Bool.and_true,Bool.true_and] at this
  have e2:Ex e = .agg [I e.kind,I e.n,I e.pos,I e.type,T e.sym,T e.name,ExS e.args]:=ZC e
  rw[←e2] at this
  exact this
 have hf:=w37 e.args 15 [] ih
 refine Z6 mxd i15 rfl (by simp) ?_;simp (maxSteps:=9^7) only[↓ S2,S2,Z7,↓reduceIte,reduceNe,reduceEqDiff,reduceCtorEq,reduceLeDiff,reduceAdd,reduceLT]
 ((try refine qI ?_);(repeat ((first|with_reducible refine qU ?_ | simp only[Z9]);try simp (maxSteps:=9^7) +contextual only[↓ S2,S2,↓reduceIte,reduceNe,reduceEqDiff,reduceCtorEq,reduceLeDiff,reduceAdd,reduceLT,VQ,XE,hag]));(try simp +contextual (disch:=omega) only[Z2,XE,hag]);(with_reducible repeat' (first|intro h|refine And.intro (by omega) ?_ | refine exP (by omega) ?_ | apply And.intro)))
 refine callS.eq hs ?_
 ((try refine qI ?_);(repeat ((first|with_reducible refine qU ?_ | simp only[Z9]);try simp (maxSteps:=9^7) +contextual only[↓ S2,S2,↓reduceIte,reduceNe,reduceEqDiff,reduceCtorEq,reduceLeDiff,reduceAdd,reduceLT,VQ,XE,hag]));(try simp +contextual (disch:=omega) only[Z2,XE,hag]);(with_reducible repeat' (first|intro h|refine And.intro (by omega) ?_ | refine exP (by omega) ?_ | apply And.intro)))
 ((try refine qI ?_);(repeat ((first|with_reducible refine qU ?_ | simp only[Z9]);try simp (maxSteps:=9^7) +contextual only[↓ S2,S2,↓reduceIte,reduceNe,reduceEqDiff,reduceCtorEq,reduceLeDiff,reduceAdd,reduceLT,VQ,XE,hag]));(try simp +contextual (disch:=omega) only[Z2,XE,hag]);(with_reducible repeat' (first|intro h|refine And.intro (by omega) ?_ | refine exP (by omega) ?_ | apply And.intro)))
 refine callS.eq hf ?_
 ((try refine qI ?_);(repeat ((first|with_reducible refine qU ?_ | simp only[Z9]);try simp (maxSteps:=9^7) +contextual only[↓ S2,S2,↓reduceIte,reduceNe,reduceEqDiff,reduceCtorEq,reduceLeDiff,reduceAdd,reduceLT,VQ,]));(try simp +contextual (disch:=omega) only[Z2,]);(with_reducible repeat' (first|intro h|refine And.intro (by omega) ?_ | refine exP (by omega) ?_ | apply And.intro)))
theorem w77 (s:ByteArray) (hs:(Z8 s).length ≤ 500000) (es:List GV) (ha:noAg es=true) (hl:0<es.length) (hm:ltQ 32 es=true):Dv Tryz.prog 77 [T s,.sl 1 es] (fun g=>∃t,(Z8 t).length ≤ (Z8 s).length + 32∧g=T t):=by
 refine Dv.of0 fun rc H=> ?_
 refine Z6 mxd i77 rfl (by simp) ?_;simp (maxSteps:=9^7) only[↓ S2,S2,Z7,↓reduceIte,reduceNe,reduceEqDiff,reduceCtorEq,reduceLeDiff,reduceAdd,reduceLT]
 ((try refine qI ?_);(repeat ((first|with_reducible refine qU ?_ | simp only[Z9]);try simp (maxSteps:=9^7) +contextual only[↓ S2,S2,↓reduceIte,reduceNe,reduceEqDiff,reduceCtorEq,reduceLeDiff,reduceAdd,reduceLT,VQ,]));(try simp +contextual (disch:=omega) only[Z2,]);(with_reducible repeat' (first|intro h|refine And.intro (by omega) ?_ | refine exP (by omega) ?_ | apply And.intro)))
 refine callS.dv (wz45 ((Z8 s).length + 1) (by omega)) Z4 ?_
 rintro _ ⟨k,hk,rfl⟩
 ((try refine qI ?_);(repeat ((first|with_reducible refine qU ?_ | simp only[Z9]);try simp (maxSteps:=9^7) +contextual only[↓ S2,S2,↓reduceIte,reduceNe,reduceEqDiff,reduceCtorEq,reduceLeDiff,reduceAdd,reduceLT,VQ,]));(try simp +contextual (disch:=omega) only[Z2,]);(with_reducible repeat' (first|intro h|refine And.intro (by omega) ?_ | refine exP (by omega) ?_ | apply And.intro)))
 refine callS.dv (wz45 6 (by omega)) Z4 ?_
 rintro _ ⟨j,hj,rfl⟩
 ((try refine qI ?_);(repeat ((first|with_reducible refine qU ?_ | simp only[Z9]);try simp (maxSteps:=9^7) +contextual only[↓ S2,S2,↓reduceIte,reduceNe,reduceEqDiff,reduceCtorEq,reduceLeDiff,reduceAdd,reduceLT,VQ,]));(try simp +contextual (disch:=omega) only[Z2,]);(with_reducible repeat' (first|intro h|refine And.intro (by omega) ?_ | refine exP (by omega) ?_ | apply And.intro)))
 all_goals try exact oF
 ·refine callA.dv (w47 es ha hl) Z4 ?_
  intro g hg
  obtain ⟨t,ht,rfl⟩:=ltQ_mem hm hg
  ((try refine qI ?_);(repeat ((first|with_reducible refine qU ?_ | simp only[Z9]);try simp (maxSteps:=9^7) +contextual only[↓ S2,S2,↓reduceIte,reduceNe,reduceEqDiff,reduceCtorEq,reduceLeDiff,reduceAdd,reduceLT,VQ,]));(try simp +contextual (disch:=omega) only[Z2,]);(with_reducible repeat' (first|intro h|refine And.intro (by omega) ?_ | refine exP (by omega) ?_ | apply And.intro)))
  all_goals try exact oF
  all_goals first
   | (simp only[chA,List.length_append,List.length_take,List.length_drop];omega)
   | exact ⟨_,by simp only[chA,List.length_append,List.length_take,List.length_drop];omega,rfl⟩
   | trace_state
 ·exact ⟨_,by simp only[chA,List.length_take,List.length_drop];omega,rfl⟩
 ·exact ⟨_,by omega,rfl⟩
theorem w43:Dv Tryz.prog 43 [] (fun g=>∃t,(Z8 t).length ≤ 500000∧g=T t):=by
 refine Dv.of0 fun rc H=> ?_
 refine Z6 mxd i43 rfl (by simp) ?_;simp (maxSteps:=9^7) only[↓ S2,S2,Z7,↓reduceIte,reduceNe,reduceEqDiff,reduceCtorEq,reduceLeDiff,reduceAdd,reduceLT]
 ((try refine qI ?_);(repeat ((first|with_reducible refine qU ?_ | simp only[Z9]);try simp (maxSteps:=9^7) +contextual only[↓ S2,S2,↓reduceIte,reduceNe,reduceEqDiff,reduceCtorEq,reduceLeDiff,reduceAdd,reduceLT,VQ,]));(try simp +contextual (disch:=omega) only[Z2,]);(with_reducible repeat' (first|intro h|refine And.intro (by omega) ?_ | refine exP (by omega) ?_ | apply And.intro)))
 refine callS.dv (Dc.exp o44) Z4 ?_
 rintro _ ⟨e,he,rfl⟩
 have hex:=shEx_ok (shD_ex (by omega) he)
 have hfl:(fmtE e).length ≤ 100000:=fmt_len e
 have hag:Go.Gh.isAgg (Ex e)=true:=by rw[ZC];rfl
 have hfm:=w11 e hex.1 hex.2
 generalize fmtE e=A at *
 ((try refine qI ?_);(repeat ((first|with_reducible refine qU ?_ | simp only[Z9]);try simp (maxSteps:=9^7) +contextual only[↓ S2,S2,↓reduceIte,reduceNe,reduceEqDiff,reduceCtorEq,reduceLeDiff,reduceAdd,reduceLT,VQ,XE,hag]));(try simp +contextual (disch:=omega) only[Z2,XE,hag]);(with_reducible repeat' (first|intro h|refine And.intro (by omega) ?_ | refine exP (by omega) ?_ | apply And.intro)))
 refine callS.eq hfm ?_
 ((try refine qI ?_);(repeat ((first|with_reducible refine qU ?_ | simp only[Z9]);try simp (maxSteps:=9^7) +contextual only[↓ S2,S2,↓reduceIte,reduceNe,reduceEqDiff,reduceCtorEq,reduceLeDiff,reduceAdd,reduceLT,VQ,]));(try simp +contextual (disch:=omega) only[Z2,]);(with_reducible repeat' (first|intro h|refine And.intro (by omega) ?_ | refine exP (by omega) ?_ | apply And.intro)))
 refine callS.dv (wz45 5 (by omega)) Z4 ?_
 rintro _ ⟨j,hj,rfl⟩
 ((try refine qI ?_);(repeat ((first|with_reducible refine qU ?_ | simp only[Z9]);try simp (maxSteps:=9^7) +contextual only[↓ S2,S2,↓reduceIte,reduceNe,reduceEqDiff,reduceCtorEq,reduceLeDiff,reduceAdd,reduceLT,VQ,]));(try simp +contextual (disch:=omega) only[Z2,]);(with_reducible repeat' (first|intro h|refine And.intro (by omega) ?_ | refine exP (by omega) ?_ | apply And.intro)))
 all_goals try exact oF
 ·refine callS.dv (w77 ⟨A.toArray⟩ (by rw[chA A];omega) _ rfl (by simp) rfl) Z4 ?_
  rintro _ ⟨t,ht,rfl⟩
  rw[chA A] at ht
  ((try refine qI ?_);(repeat ((first|with_reducible refine qU ?_ | simp only[Z9]);try simp (maxSteps:=9^7) +contextual only[↓ S2,S2,↓reduceIte,reduceNe,reduceEqDiff,reduceCtorEq,reduceLeDiff,reduceAdd,reduceLT,VQ,]));(try simp +contextual (disch:=omega) only[Z2,]);(with_reducible repeat' (first|intro h|refine And.intro (by omega) ?_ | refine exP (by omega) ?_ | apply And.intro)))
  all_goals exact ⟨t,by omega,rfl⟩
 ·refine callS.dv (w47 _ rfl (by simp)) Z4 ?_
  intro g hg
  obtain ⟨t,ht,rfl⟩:=ltQ_mem (n:=32) rfl hg
  ((try refine qI ?_);(repeat ((first|with_reducible refine qU ?_ | simp only[Z9]);try simp (maxSteps:=9^7) +contextual only[↓ S2,S2,↓reduceIte,reduceNe,reduceEqDiff,reduceCtorEq,reduceLeDiff,reduceAdd,reduceLT,VQ,]));(try simp +contextual (disch:=omega) only[Z2,]);(with_reducible repeat' (first|intro h|refine And.intro (by omega) ?_ | refine exP (by omega) ?_ | apply And.intro)))
  all_goals exact ⟨t,by omega,rfl⟩
 ·exact ⟨_,by rw[chA A];omega,rfl⟩
theorem w20 (bs:List UInt8) (hb:bs.length≤1048576):Pu 20 [Bs bs] (fun v=>∃t,(Z8 t).length ≤ 500000∧v=T t):=by
 refine Z6 mxd i20 rfl (by simp) ?_;simp (maxSteps:=9^7) only[↓ S2,S2,Z7,↓reduceIte,reduceNe,reduceEqDiff,reduceCtorEq,reduceLeDiff,reduceAdd,reduceLT]
 refine callS.of (o26 bs hb _) ?_
 rintro _ _ ⟨rc,rfl,rfl⟩ _
 ((try refine qI ?_);(repeat ((first|with_reducible refine qU ?_ | simp only[Z9]);try simp (maxSteps:=9^7) +contextual only[↓ S2,S2,↓reduceIte,reduceNe,reduceEqDiff,reduceCtorEq,reduceLeDiff,reduceAdd,reduceLT,VQ,]));(try simp +contextual (disch:=omega) only[Z2,]);(with_reducible repeat' (first|intro h|refine And.intro (by omega) ?_ | refine exP (by omega) ?_ | apply And.intro)))
 refine callS.dv w43 Z4 ?_
 rintro _ ⟨t,ht,rfl⟩
 ((try refine qI ?_);(repeat ((first|with_reducible refine qU ?_ | simp only[Z9]);try simp (maxSteps:=9^7) +contextual only[↓ S2,S2,↓reduceIte,reduceNe,reduceEqDiff,reduceCtorEq,reduceLeDiff,reduceAdd,reduceLT,VQ,]));(try simp +contextual (disch:=omega) only[Z2,]);(with_reducible repeat' (first|intro h|refine And.intro (by omega) ?_ | refine exP (by omega) ?_ | apply And.intro)))
 exact ⟨t,ht,rfl⟩
theorem w24 (bs:List UInt8) (hb:bs.length≤1048576):Pu 24 [Bs bs] (fun v=>∃t,(Z8 t).length ≤ 500000∧v=T t):=by
 refine Z6 mxd i24 rfl (by simp) ?_;simp (maxSteps:=9^7) only[↓ S2,S2,Z7,↓reduceIte,reduceNe,reduceEqDiff,reduceCtorEq,reduceLeDiff,reduceAdd,reduceLT]
 refine callS.of (o26 bs hb _) ?_
 rintro _ _ ⟨rc,rfl,rfl⟩ _
 ((try refine qI ?_);(repeat ((first|with_reducible refine qU ?_ | simp only[Z9]);try simp (maxSteps:=9^7) +contextual only[↓ S2,S2,↓reduceIte,reduceNe,reduceEqDiff,reduceCtorEq,reduceLeDiff,reduceAdd,reduceLT,VQ,]));(try simp +contextual (disch:=omega) only[Z2,]);(with_reducible repeat' (first|intro h|refine And.intro (by omega) ?_ | refine exP (by omega) ?_ | apply And.intro)))
 refine callS.dv w43 Z4 ?_
 rintro _ ⟨t,ht,rfl⟩
 ((try refine qI ?_);(repeat ((first|with_reducible refine qU ?_ | simp only[Z9]);try simp (maxSteps:=9^7) +contextual only[↓ S2,S2,↓reduceIte,reduceNe,reduceEqDiff,reduceCtorEq,reduceLeDiff,reduceAdd,reduceLT,VQ,]));(try simp +contextual (disch:=omega) only[Z2,]);(with_reducible repeat' (first|intro h|refine And.intro (by omega) ?_ | refine exP (by omega) ?_ | apply And.intro)))
 exact ⟨t,ht,rfl⟩
theorem w9 (bs:List UInt8) (hb:bs.length≤1048576):Pu 9 [Bs bs] (fun v=>∃e,shEx e∧v=Ex e):=by
 refine Z6 mxd i9 rfl (by simp) ?_;simp (maxSteps:=9^7) only[↓ S2,S2,Z7,↓reduceIte,reduceNe,reduceEqDiff,reduceCtorEq,reduceLeDiff,reduceAdd,reduceLT]
 refine callS.of (o26 bs hb _) ?_
 rintro _ _ ⟨rc,rfl,rfl⟩ _
 ((try refine qI ?_);(repeat ((first|with_reducible refine qU ?_ | simp only[Z9]);try simp (maxSteps:=9^7) +contextual only[↓ S2,S2,↓reduceIte,reduceNe,reduceEqDiff,reduceCtorEq,reduceLeDiff,reduceAdd,reduceLT,VQ,]));(try simp +contextual (disch:=omega) only[Z2,]);(with_reducible repeat' (first|intro h|refine And.intro (by omega) ?_ | refine exP (by omega) ?_ | apply And.intro)))
 refine callS.dv w25 Z4 ?_
 rintro _ ⟨e,he,rfl⟩
 have hag:Go.Gh.isAgg (Ex e)=true:=by rw[ZC];rfl
 ((try refine qI ?_);(repeat ((first|with_reducible refine qU ?_ | simp only[Z9]);try simp (maxSteps:=9^7) +contextual only[↓ S2,S2,↓reduceIte,reduceNe,reduceEqDiff,reduceCtorEq,reduceLeDiff,reduceAdd,reduceLT,VQ,XE,hag]));(try simp +contextual (disch:=omega) only[Z2,XE,hag]);(with_reducible repeat' (first|intro h|refine And.intro (by omega) ?_ | refine exP (by omega) ?_ | apply And.intro)))
 all_goals exact ⟨e,he,by first|rfl|exact (ZC e).symm⟩
end Go.Proofs.YtkmedfejmndmjaaGreatDoor
