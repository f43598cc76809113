/- The laws FnEdits, FnEdited and FnSwapped return true whatever the input, and the input reads behind the call as before. No condition. -/
import Derived.Test.YtknbnefbgpnkgaaGreatFed25
import Derived.Test.YtknbnefbgpnkgaaGreatFed34
set_option maxHeartbeats 40000000
set_option maxRecDepth 20000
set_option linter.unusedSimpArgs false
set_option linter.unusedVariables false
namespace Go.Proofs.YtknbnefbgpnkgaaGreat
open Go.Gh
open Nat (reduceEqDiff reduceLeDiff reduceAdd reduceLT)
open Int (reduceNe)
theorem w6 (bs:List UInt8):Pu 6 [Bs bs] (· = B true):=by
 refine Pure.bor ?_
 refine ZZ mxd i6 rfl (by simp) ?_;refine X0 ?_
 (refine V0 ?_)
 refine callS.eq (w8 bs) ?_
 by_cases hb:(1048576:Int)<bs.length
 ·have hb':=eq_true hb
  (refine V1 (jO hb' @decide_true) ?_)
  all_goals exact .refl
 ·have hb':=eq_false hb
  (refine V1 (jO hb' @decide_false) ?_)
  refine callS.of ((w23 bs oT).frame _) ?_
  rintro _ _ ⟨⟨g,t,L,hg,ht,hL4,hL,rfl⟩,rfl⟩ _
  have hsm:=drG_sm hg
  have hok:=drG_ok hg
  obtain ⟨hl,hk⟩:=goodT_sm ht
  have hLs:∀e∈L,e.tree.length≤1048576∧∀x∈e.tree,x.kids.length≤1048576:=fun e he=>drE_sm (hL e he)
  have q1:=q24 g t L hsm hok hl hk oT hLs
  have q2:=q25 g t L hsm hok hl hk oT hLs
  have q3:=w18 (Zq g t L L.length) (Zq g t L L.length)
  rw[all2_refl] at q3
  have hcl:=Yl g t L
  have q4:=w12 (edC g t L) (edC g t L) oT
  rw[show decide (edC g t L=edC g t L)=true by simp] at q4
  obtain ⟨k,hk1,ek⟩:=tmod_rng (a:=(at0N bs 2:Int)) (n:=L.length+1) oT oT
  have ek:(at0N bs 2:Int).tmod ((L.length:Int)+1)=k:=ek
  have hkl:k≤L.length:=by omega
  have q5:=q24 g t (L.take k) hsm hok hl hk (by simp;omega) (fun e he=>hLs e (List.mem_of_mem_take he))
  obtain ⟨hl2,hk2⟩:=edTr_sm2 (g:=g) (L:=L.take k) ht (L.take k).length
  have q6:=q24 g (Zq g t (L.take k) (L.take k).length) (L.drop k) hsm hok hl2 hk2 (by simp;omega) (fun e he=>hLs e (List.mem_of_mem_drop he))
  obtain ⟨z1,z2⟩:=edits_law (g:=g) (t:=t) hkl
  have c1:=Yl g t (L.take k)
  have c2:=Yl g (Zq g t (L.take k) (L.take k).length) (L.drop k)
  rw[z1] at q6
  generalize edC g t (L.take k)=C1 at *
  generalize edC g (Zq g t (L.take k) (L.take k).length) (L.drop k)=C2 at *
  generalize Zq g t (L.take k) (L.take k).length = U1 at *
  generalize Zq g t L L.length=U at *
  generalize edC g t L=C at *
  simp only[List.length_take,List.length_drop] at c1 c2
  have q7:=w22 bs oT 2 oT
  (refine V0 ?_)
  refine callS.eq q1 ?_
  (refine V0 ?_)
  refine callS.eq q2 ?_
  (refine V0 ?_)
  refine callS.eq q3 ?_
  (refine V0 ?_)
  refine callS.eq q4 ?_
  (refine V0 ?_)
  refine callS.eq q7 ?_
  (refine V1 (jO ek @List.length_map.{0,0}) ?_)
  all_goals try exact oF
  have es1:GV.sl 5 (List.drop (Int.toNat 0) (List.take ((k:Nat):Int).toNat (List.map Ed L)))=EdS (L.take k):=by simp[List.map_take]
  rw[es1]
  refine callS.eq q5 ?_
  (refine V1 (jO ek @List.length_map.{0,0}) ?_)
  all_goals try exact oF
  have es2:GV.sl 5 (List.drop k (List.take L.length (List.map Ed L)))=EdS (L.drop k):=by rw[tL (by simp),←List.map_drop]
  rw[es2]
  refine callS.eq q6 ?_
  (refine V0 ?_)
  refine callS.eq q3 ?_
  ((try refine qI ?_);(repeat ((first|with_reducible refine qU ?_ | simp only[ZP]);try simp (maxSteps:=9^7) +contextual only[↓ S2,S2,↓reduceIte,reduceNe,reduceEqDiff,reduceCtorEq,reduceLeDiff,reduceAdd,reduceLT,VQ,List.length_map,List.take_of_length_le,List.length_append]));(try simp +contextual (disch:=omega) only[Z2,List.length_map,List.take_of_length_le,List.length_append]);(with_reducible repeat' (first|intro h|refine jO oT ?_ | refine exP oT ?_ | apply jO)))
  all_goals try exact oF
  have e3:List.take C1.length (List.map I C1)++List.map I C2=C.map I:=by rw[tL (by simp),←List.map_append,z2]
  rw[e3]
  refine callS.borA q4 (.cons (Bor.allM (fun _ => rfl) ZX (by have:=congrArg List.length z2;simpa using this.symm)) (.cons .refl .nil)) rfl ?_
  (refine V0 ?_)
  exact .refl
end Go.Proofs.YtknbnefbgpnkgaaGreat
