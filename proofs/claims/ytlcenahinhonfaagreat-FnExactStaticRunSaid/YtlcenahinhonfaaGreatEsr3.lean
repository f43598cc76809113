/- The law FnExactStaticRun returns true whatever the input, and the input reads behind the call as before. No condition. -/
import Derived.Test.YtlcenahinhonfaaGreatEsr2
set_option maxHeartbeats 40000000
namespace Go.Proofs.YtlcenahinhonfaaGreat
open Go.Gh
open Nat (reduceEqDiff reduceLeDiff reduceAdd reduceLT)
open Int (reduceNe)
set_option maxRecDepth 20000
set_option linter.unusedSimpArgs false
set_option linter.unusedVariables false
theorem w81 (r n : Nat) (k : Int) (es : List ByteArray) (H : GH) (hr : hget H r = some (1, es.map T)) (hn : es.length = n) (hk : 0 ≤ k) (hb : k + smw wS es < 9223372036854775807) :
  Gc 81 [.own r 1 0 n, I k] H (fun g H' => g = I (k + smw wS es) ∧ H' = hset H r ((smk wS mkTx es k).map T)) := by
 refine gstart mxd i81 rfl (by simp) ?_; refine X0 ?_
 refine wloop mxd (ι := { i : Nat // i ≤ n }) (fun i => [(0, .own r 1 0 n), (1, I (k + smw wS (es.take i.1))), (5, I i.1)]) (fun i => hset H r ((smk wS mkTx (es.take i.1) k ++ es.drop i.1).map T)) (fun i => n - i.1) ⟨0, by omega⟩ (by simp [E2, smw]) (by simp [smk]; rw [hset_self hr]) ?_
 rintro ⟨i, hi⟩
 rcases nL i n with h | h
 ·have ht : i < es.length := by omega
  have e1 : smw wS (es.take (i + 1)) = smw wS (es.take i) + 1 := smw_step wS ht
  have e2 := smw_take wS es (i + 1)
  have e3 := smw_len wS (fun _ => by simp [wS, wI, wA]) es
  have hl : (smk wS mkTx (es.take i) k ++ es.drop i).length = es.length := smid_len wS mkTx
  (refine R1 (jO (hgS hr) @hset_set) ?_; with_reducible repeat' first|exact trivial|intro h|refine aO ?_|refine eO ?_|apply jO)
  ·refine callS.eq (w79 _ (by omega)) ?_
   (refine R1 (jO (hgS hr) @hset_set) ?_; with_reducible repeat' first|exact trivial|intro h|refine aO ?_|refine eO ?_|apply jO)
   refine nx ⟨i + 1, by omega⟩ (by simp; omega) (by simp [E2]; omega) ?_
   rw [← smid_set wS mkTx ht, List.map_set]
  all_goals (exfalso; omega)
 ·have : i = n := by omega
  subst this
  (refine R1 (jO (hgS hr) @hset_set) ?_; with_reducible repeat' first|exact trivial|intro h|refine aO ?_|refine eO ?_|apply jO)
  ·rw [tL (by omega)]
  ·rw [tL (by omega), List.drop_of_length_le (by omega), List.append_nil]
theorem w80 (r n : Nat) (k : Int) (es : List Att) (H : GH) (hr : hget H r = some (4, es.map At)) (hn : es.length = n) (hk : 0 ≤ k) (hb : k + smw wA es < 9223372036854775807) :
  Gc 80 [.own r 4 0 n, I k] H (fun g H' => g = I (k + smw wA es) ∧ H' = hset H r ((smk wA mkA es k).map At)) := by
 refine gstart mxd i80 rfl (by simp) ?_; refine X0 ?_
 refine wloop mxd (ι := { i : Nat // i ≤ n }) (fun i => [(0, .own r 4 0 n), (1, I (k + smw wA (es.take i.1))), (5, I i.1)]) (fun i => hset H r ((smk wA mkA (es.take i.1) k ++ es.drop i.1).map At)) (fun i => n - i.1) ⟨0, by omega⟩ (by simp [E2, smw]) (by simp [smk]; rw [hset_self hr]) ?_
 rintro ⟨i, hi⟩
 rcases nL i n with h | h
 ·have ht : i < es.length := by omega
  have e1 : smw wA (es.take (i + 1)) = smw wA (es.take i) + 4 := smw_step wA ht
  have e2 := smw_take wA es (i + 1)
  have e3 := smw_len wA (fun _ => by simp [wS, wI, wA]) es
  have hl : (smk wA mkA (es.take i) k ++ es.drop i).length = es.length := smid_len wA mkA
  (refine R1 (jO (hgS hr) (jO @hset_set (jO @List.getElem_set_self.{0} (jO @List.set_set.{0} @List.length_set.{0})))) ?_; with_reducible repeat' first|exact trivial|intro h|refine aO ?_|refine eO ?_|apply jO)
  ·refine callS.eq (w79 _ (by omega)) ?_
   (refine R1 (jO (hgS hr) (jO @hset_set (jO @List.getElem_set_self.{0} (jO @List.set_set.{0} @List.length_set.{0})))) ?_; with_reducible repeat' first|exact trivial|intro h|refine aO ?_|refine eO ?_|apply jO)
   refine nx ⟨i + 1, by omega⟩ (by simp; omega) (by simp [E2]; omega) ?_
   rw [← smid_set wA mkA ht, List.map_set]
  all_goals (exfalso; omega)
 ·have : i = n := by omega
  subst this
  (refine R1 (jO (hgS hr) @hset_set) ?_; with_reducible repeat' first|exact trivial|intro h|refine aO ?_|refine eO ?_|apply jO)
  ·rw [tL (by omega)]
  ·rw [tL (by omega), List.drop_of_length_le (by omega), List.append_nil]
theorem w37 (r n : Nat) (k : Int) (es : List Sym) (H : GH) (hr : hget H r = some (2, es.map SyO)) (hn : es.length = n) (hk : 0 ≤ k) (hb : k + smw wSym es < 9223372036854775807) :
  Gc 37 [.own r 2 0 n, I k] H (fun g H' => g = I (k + smw wSym es) ∧ H' = hset H r ((smk wSym mkSym es k).map SyO)) := by
 refine gstart mxd i37 rfl (by simp) ?_; refine X0 ?_
 refine wloopF mxd (ι := { i : Nat // i ≤ n }) (fun i => [(0, .own r 2 0 n), (1, I (k + smw wSym (es.take i.1))), (5, I i.1)]) (fun i => hset H r ((smk wSym mkSym (es.take i.1) k ++ es.drop i.1).map SyO)) (fun i => n - i.1) ⟨0, by omega⟩ FE.refl (by simp [E2, smw]) (by simp [smk]; rw [hset_self hr]) ?_
 rintro ⟨i, hi⟩ hnd
 dsimp only at hnd ⊢
 rcases nL i n with h | h
 ·have ht : i < es.length := by omega
  have hml : (smk wSym mkSym (es.take i) k ++ es.drop i).length = es.length := smid_len wSym mkSym
  have hmid : i < (smk wSym mkSym (es.take i) k ++ es.drop i).length := by rw [hml]; exact ht
  have e1 : smw wSym (es.take (i + 1)) = smw wSym (es.take i) + (1 + smw wA es[i].atts) := smw_step wSym ht
  have e2 := smw_take wSym es (i + 1)
  have e3 := smw_len wSym (fun x => by show 1 ≤ 1 + _; omega) es
  refine GW.opn (r := r) (i := i) (j := 1) (hget_set hr) (by rw [List.getElem?_map, List.getElem?_eq_getElem hmid, smid_get _ _ ht]; rfl) rfl fun r1 hn1 => ?_
  have hne : r1 ≠ r := ne_of_new hn1 (hget_set hr)
  rw [hset_set]
  refine gwp_ok mxd ?_
  (refine R1 (jO (hgO hne) (jO (hsO hne) (jO (hgS hr) (jO @hset_set (jO @List.getElem_set_self.{0} (jO @List.set_set.{0} @List.length_set.{0})))))) ?_; with_reducible repeat' first|exact trivial|intro h|refine aO ?_|refine eO ?_|apply jO)
  all_goals try exact oF
  refine callS.eq (w79 _ (by omega)) ?_
  (refine R1 (jO (hgO hne) (jO (hsO hne) (jO (hgS hr) (jO @hset_set (jO @List.getElem_set_self.{0} (jO @List.set_set.{0} @List.length_set.{0})))))) ?_; with_reducible repeat' first|exact trivial|intro h|refine aO ?_|refine eO ?_|apply jO)
  all_goals try exact oF
  refine callS.of (w80 r1 _ _ es[i].atts _ hget_new (by simp) (by omega) (by omega)) ?_
  rintro g H' ⟨rfl, rfl⟩ -
  rw [hset_new]
  (refine R1 (jO (hgO hne) (jO (hsO hne) (jO (hgS hr) (jO @hset_set (jO @List.getElem_set_self.{0} (jO @List.set_set.{0} @List.length_set.{0})))))) ?_; with_reducible repeat' first|exact trivial|intro h|refine aO ?_|refine eO ?_|apply jO)
  all_goals try exact oF
  refine nxF ⟨i + 1, by omega⟩ (by simp; omega) (FE.close3 hr hne (j := 1) (by simpa using hmid) rfl (by simp [smk_len])) (by simp [E2]; omega) ?_
  show hset H r ((List.map SyO _).set i (SyO (mkSym es[i] (k + smw wSym (es.take i))))) = _
  rw [← List.map_set, smid_set wSym mkSym ht]
 ·have : i = n := by omega
  subst this
  refine gwp_ok mxd ?_
  (refine R0 ?_; with_reducible repeat' first|exact trivial|intro h|refine aO ?_|refine eO ?_|apply jO)
  ·rw [tL (by omega)]
  ·rw [tL (by omega), List.drop_of_length_le (by omega), List.append_nil]
theorem wa142 : ∀ (e : Exp) (r n : Nat) (k : Int) (H : GH) (_ : hget H r = some (7, e.args.map ExO)) (_ : e.args.length = n) (_ : 0 ≤ k) (_ : k + smw ctE e.args < 9223372036854775807),
  Gc 142 [.own r 7 0 n, I k] H (fun g H' => g = I (k + smw ctE e.args) ∧ H' = hset H r ((smk ctE mkE e.args k).map ExO)) := by
 refine Exp.indA fun e ih => ?_
 intro r n k H hr hn hk hb
 generalize e.args = es at *
 refine gstart mxd i142 rfl (by simp) ?_; refine X0 ?_
 refine wloopF mxd (ι := { i : Nat // i ≤ n }) (fun i => [(0, .own r 7 0 n), (1, I (k + smw ctE (es.take i.1))), (5, I i.1)]) (fun i => hset H r ((smk ctE mkE (es.take i.1) k ++ es.drop i.1).map ExO)) (fun i => n - i.1) ⟨0, by omega⟩ FE.refl (by simp [E2, smw]) (by simp [smk]; rw [hset_self hr]) ?_
 rintro ⟨i, hi⟩ hnd
 dsimp only at hnd ⊢
 rcases nL i n with h | h
 ·have ht : i < es.length := by omega
  have hml : (smk ctE mkE (es.take i) k ++ es.drop i).length = es.length := smid_len ctE mkE
  have hmid : i < (smk ctE mkE (es.take i) k ++ es.drop i).length := by rw [hml]; exact ht
  have e0 := ctE_eq es[i]
  have e1 : smw ctE (es.take (i + 1)) = smw ctE (es.take i) + (ctE es[i]) := smw_step ctE ht
  have e2 := smw_take ctE es (i + 1)
  have e3 := smw_len ctE (fun x => by rw [ctE_eq]; omega) es
  refine GW.opn (r := r) (i := i) (j := 6) (hget_set hr) (by rw [List.getElem?_map, List.getElem?_eq_getElem hmid, smid_get _ _ ht]; exact congrArg some (ExO_eq es[i])) rfl fun r1 hn1 => ?_
  have hne : r1 ≠ r := ne_of_new hn1 (hget_set hr)
  rw [hset_set]
  refine gwp_ok mxd ?_
  (refine R1 (jO (hgO hne) (jO (hsO hne) (jO (hgS hr) (jO @hset_set (jO @List.getElem_set_self.{0} (jO @List.set_set.{0} @List.length_set.{0})))))) ?_; with_reducible repeat' first|exact trivial|intro h|refine aO ?_|refine eO ?_|apply jO)
  all_goals try exact oF
  refine callS.eq (w79 _ (by omega)) ?_
  (refine R1 (jO (hgO hne) (jO (hsO hne) (jO (hgS hr) (jO @hset_set (jO @List.getElem_set_self.{0} (jO @List.set_set.{0} @List.length_set.{0})))))) ?_; with_reducible repeat' first|exact trivial|intro h|refine aO ?_|refine eO ?_|apply jO)
  all_goals try exact oF
  refine callS.eq (w79 _ (by omega)) ?_
  (refine R1 (jO (hgO hne) (jO (hsO hne) (jO (hgS hr) (jO @hset_set (jO @List.getElem_set_self.{0} (jO @List.set_set.{0} @List.length_set.{0})))))) ?_; with_reducible repeat' first|exact trivial|intro h|refine aO ?_|refine eO ?_|apply jO)
  all_goals try exact oF
  refine callS.of (ih es[i] (gM _) r1 _ _ _ hget_new (by simp) (by omega) (by omega)) ?_
  rintro g H' ⟨rfl, rfl⟩ -
  rw [hset_new]
  (refine R1 (jO (hgO hne) (jO (hsO hne) (jO (hgS hr) (jO @hset_set (jO @List.getElem_set_self.{0} (jO @List.set_set.{0} @List.length_set.{0})))))) ?_; with_reducible repeat' first|exact trivial|intro h|refine aO ?_|refine eO ?_|apply jO)
  all_goals try exact oF
  refine nxF ⟨i + 1, by omega⟩ (by simp; omega) (FE.close3 hr hne (j := 6) (by simpa using hmid) rfl (by simp [smk_len])) (by simp [E2]; omega) ?_
  rw [← smid_set ctE mkE ht, List.map_set, mkE_eq, ExO_eq]
  rfl
 ·have : i = n := by omega
  subst this
  refine gwp_ok mxd ?_
  (refine R0 ?_; with_reducible repeat' first|exact trivial|intro h|refine aO ?_|refine eO ?_|apply jO)
  ·rw [tL (by omega)]
  ·rw [tL (by omega), List.drop_of_length_le (by omega), List.append_nil]
theorem w142 (r n : Nat) (k : Int) (es : List Exp) (H : GH) (hr : hget H r = some (7, es.map ExO)) (hn : es.length = n) (hk : 0 ≤ k) (hb : k + smw ctE es < 9223372036854775807) :
  Gc 142 [.own r 7 0 n, I k] H (fun g H' => g = I (k + smw ctE es) ∧ H' = hset H r ((smk ctE mkE es k).map ExO)) :=
 wa142 (.mk 0 0 0 0 noS noS es) r n k H hr hn hk hb
theorem w82 (r n : Nat) (k : Int) (es : List Eqn) (H : GH) (hr : hget H r = some (9, es.map QnO)) (hn : es.length = n) (hk : 0 ≤ k) (hb : k + smw wQ es < 9223372036854775807) :
  Gc 82 [.own r 9 0 n, I k] H (fun g H' => g = I (k + smw wQ es) ∧ H' = hset H r ((smk wQ mkQ es k).map QnO)) := by
 refine gstart mxd i82 rfl (by simp) ?_; refine X0 ?_
 refine wloopF mxd (ι := { i : Nat // i ≤ n }) (fun i => [(0, .own r 9 0 n), (1, I (k + smw wQ (es.take i.1))), (5, I i.1)]) (fun i => hset H r ((smk wQ mkQ (es.take i.1) k ++ es.drop i.1).map QnO)) (fun i => n - i.1) ⟨0, by omega⟩ FE.refl (by simp [E2, smw]) (by simp [smk]; rw [hset_self hr]) ?_
 rintro ⟨i, hi⟩ hnd
 dsimp only at hnd ⊢
 rcases nL i n with h | h
 ·have ht : i < es.length := by omega
  have hml : (smk wQ mkQ (es.take i) k ++ es.drop i).length = es.length := smid_len wQ mkQ
  have hmid : i < (smk wQ mkQ (es.take i) k ++ es.drop i).length := by rw [hml]; exact ht
  have e0 := ctE_eq es[i].expr
  have e1 : smw wQ (es.take (i + 1)) = smw wQ (es.take i) + (2 + ctE es[i].expr) := smw_step wQ ht
  have e2 := smw_take wQ es (i + 1)
  have e3 := smw_len wQ (fun x => by show 1 ≤ 2 + _; omega) es
  refine GW.opn (r := r) (i := i) (j := 8) (hget_set hr) (by rw [List.getElem?_map, List.getElem?_eq_getElem hmid, smid_get _ _ ht]; rfl) rfl fun r1 hn1 => ?_
  have hne : r1 ≠ r := ne_of_new hn1 (hget_set hr)
  rw [hset_set]
  refine gwp_ok mxd ?_
  (refine R1 (jO (hgO hne) (jO (hsO hne) (jO (hgS hr) (jO @hset_set (jO @List.getElem_set_self.{0} (jO @List.set_set.{0} @List.length_set.{0})))))) ?_; with_reducible repeat' first|exact trivial|intro h|refine aO ?_|refine eO ?_|apply jO)
  all_goals try exact oF
  refine callS.eq (w79 _ (by omega)) ?_
  (refine R1 (jO (hgO hne) (jO (hsO hne) (jO (hgS hr) (jO @hset_set (jO @List.getElem_set_self.{0} (jO @List.set_set.{0} @List.length_set.{0})))))) ?_; with_reducible repeat' first|exact trivial|intro h|refine aO ?_|refine eO ?_|apply jO)
  all_goals try exact oF
  refine callS.eq (w79 _ (by omega)) ?_
  (refine R1 (jO (hgO hne) (jO (hsO hne) (jO (hgS hr) (jO @hset_set (jO @List.getElem_set_self.{0} (jO @List.set_set.{0} @List.length_set.{0})))))) ?_; with_reducible repeat' first|exact trivial|intro h|refine aO ?_|refine eO ?_|apply jO)
  all_goals try exact oF
  refine callS.eq (w79 _ (by omega)) ?_
  (refine R1 (jO (hgO hne) (jO (hsO hne) (jO (hgS hr) (jO @hset_set (jO @List.getElem_set_self.{0} (jO @List.set_set.{0} @List.length_set.{0})))))) ?_; with_reducible repeat' first|exact trivial|intro h|refine aO ?_|refine eO ?_|apply jO)
  all_goals try exact oF
  refine callS.of (w142 r1 _ _ es[i].expr.args _ hget_new (by simp) (by omega) (by omega)) ?_
  rintro g H' ⟨rfl, rfl⟩ -
  rw [hset_new]
  (refine R1 (jO (hgO hne) (jO (hsO hne) (jO (hgS hr) (jO @hset_set (jO @List.getElem_set_self.{0} (jO @List.set_set.{0} @List.length_set.{0})))))) ?_; with_reducible repeat' first|exact trivial|intro h|refine aO ?_|refine eO ?_|apply jO)
  all_goals try exact oF
  refine nxF ⟨i + 1, by omega⟩ (by simp; omega) (FE.close3 hr hne (j := 8) (by simpa using hmid) rfl (by simp [smk_len])) (by simp [E2]; omega) ?_
  have ee : mkQ es[i] (k + smw wQ (es.take i)) = _ := (congrArg (Eqn.mk _ _) (mkE_eq _ _))
  rw [← smid_set wQ mkQ ht, List.map_set, ee]
  rfl
 ·have : i = n := by omega
  subst this
  refine gwp_ok mxd ?_
  (refine R0 ?_; with_reducible repeat' first|exact trivial|intro h|refine aO ?_|refine eO ?_|apply jO)
  ·rw [tL (by omega)]
  ·rw [tL (by omega), List.drop_of_length_le (by omega), List.append_nil]
theorem w83 (r n : Nat) (k : Int) (es : List Con) (H : GH) (hr : hget H r = some (16, es.map CoO)) (hn : es.length = n) (hk : 0 ≤ k) (hb : k + smw wC es < 9223372036854775807) :
  Gc 83 [.own r 16 0 n, I k] H (fun g H' => g = I (k + smw wC es) ∧ H' = hset H r ((smk wC mkC es k).map CoO)) := by
 refine gstart mxd i83 rfl (by simp) ?_; refine X0 ?_
 refine wloopF mxd (ι := { i : Nat // i ≤ n }) (fun i => [(0, .own r 16 0 n), (1, I (k + smw wC (es.take i.1))), (5, I i.1)]) (fun i => hset H r ((smk wC mkC (es.take i.1) k ++ es.drop i.1).map CoO)) (fun i => n - i.1) ⟨0, by omega⟩ FE.refl (by simp [E2, smw]) (by simp [smk]; rw [hset_self hr]) ?_
 rintro ⟨i, hi⟩ hnd
 dsimp only at hnd ⊢
 rcases nL i n with h | h
 ·have ht : i < es.length := by omega
  have hml : (smk wC mkC (es.take i) k ++ es.drop i).length = es.length := smid_len wC mkC
  have hmid : i < (smk wC mkC (es.take i) k ++ es.drop i).length := by rw [hml]; exact ht
  have e0 := ctE_eq es[i].goal
  have e00 := ctE_eq es[i].value
  have e1 : smw wC (es.take (i + 1)) = smw wC (es.take i) + (2 + ctE es[i].goal + ctE es[i].value) := smw_step wC ht
  have e2 := smw_take wC es (i + 1)
  have e3 := smw_len wC (fun x => by show 1 ≤ 2 + _ + _; omega) es
  refine GW.opn (r := r) (i := i) (j := 8) (hget_set hr) (by rw [List.getElem?_map, List.getElem?_eq_getElem hmid, smid_get _ _ ht]; rfl) rfl fun r1 hn1 => ?_
  have hne1 : r1 ≠ r := ne_of_new hn1 (hget_set hr)
  rw [hset_set]
  refine GW.opn (r := r) (i := i) (j := 15) (by rw [hget_old hne1, hget_set hr]) (List.getElem?_set_self (by simpa using hmid)) rfl fun r2 hn2 => ?_
  have hne2 : r2 ≠ r := ne_of_new hn2 (by rw [hget_old hne1, hget_set hr])
  have hne21 : r2 ≠ r1 := ne_of_new hn2 hget_new
  rw [hset_old hne1, hset_set, List.set_set]
  refine gwp_ok mxd ?_
  (refine R1 (jO (hgO hne1) (jO (hsO hne1) (jO (hgO hne2) (jO (hsO hne2) (jO (hgO hne21) (jO (hsO hne21) (jO (hgS hr) (jO @hset_set (jO @List.getElem_set_self.{0} (jO @List.set_set.{0} @List.length_set.{0})))))))))) ?_; with_reducible repeat' first|exact trivial|intro h|refine aO ?_|refine eO ?_|apply jO)
  all_goals try exact oF
  iterate 4
   (refine callS.eq (w79 _ (by omega)) ?_
    (refine R1 (jO (hgO hne1) (jO (hsO hne1) (jO (hgO hne2) (jO (hsO hne2) (jO (hgO hne21) (jO (hsO hne21) (jO (hgS hr) (jO @hset_set (jO @List.getElem_set_self.{0} (jO @List.set_set.{0} @List.length_set.{0})))))))))) ?_; with_reducible repeat' first|exact trivial|intro h|refine aO ?_|refine eO ?_|apply jO))
  all_goals try exact oF
  refine callS.of (w142 r1 _ _ es[i].goal.args _ (by rw [hget_old hne21, hget_new]) (by simp) (by omega) (by omega)) ?_
  rintro g H' ⟨rfl, rfl⟩ -
  rw [hset_old hne21, hset_new]
  (refine R1 (jO (hgO hne1) (jO (hsO hne1) (jO (hgO hne2) (jO (hsO hne2) (jO (hgO hne21) (jO (hsO hne21) (jO (hgS hr) (jO @hset_set (jO @List.getElem_set_self.{0} (jO @List.set_set.{0} @List.length_set.{0})))))))))) ?_; with_reducible repeat' first|exact trivial|intro h|refine aO ?_|refine eO ?_|apply jO)
  all_goals try exact oF
  iterate 2
   (refine callS.eq (w79 _ (by omega)) ?_
    (refine R1 (jO (hgO hne1) (jO (hsO hne1) (jO (hgO hne2) (jO (hsO hne2) (jO (hgO hne21) (jO (hsO hne21) (jO (hgS hr) (jO @hset_set (jO @List.getElem_set_self.{0} (jO @List.set_set.{0} @List.length_set.{0})))))))))) ?_; with_reducible repeat' first|exact trivial|intro h|refine aO ?_|refine eO ?_|apply jO))
  all_goals try exact oF
  refine callS.of (w142 r2 _ _ es[i].value.args _ hget_new (by simp) (by omega) (by omega)) ?_
  rintro g H' ⟨rfl, rfl⟩ -
  rw [hset_new]
  (refine R1 (jO (hgO hne1) (jO (hsO hne1) (jO (hgO hne2) (jO (hsO hne2) (jO (hgO hne21) (jO (hsO hne21) (jO (hgS hr) (jO @hset_set (jO @List.getElem_set_self.{0} (jO @List.set_set.{0} @List.length_set.{0})))))))))) ?_; with_reducible repeat' first|exact trivial|intro h|refine aO ?_|refine eO ?_|apply jO)
  all_goals try exact oF
  refine nxF ⟨i + 1, by omega⟩ (by simp; omega) (FE.trans (FE.closeT (r := r) (j := 15) (i := i) hne2 (by rw [hget_old hne1, hget_set hr]) (by simpa using hmid) rfl (by simp [smk_len])) (by rw [hset_old hne1, hset_set]; exact FE.closeT (r := r) (j := 8) (i := i) hne1 (hget_set hr) (by simpa using hmid) rfl (by simp [smk_len]))) (by simp [E2]; omega) ?_
  have ee := congr (congrArg (Con.mk (mtext (k + smw wC (es.take i))) (mtext (k + smw wC (es.take i) + 1))) (mkE_eq es[i].goal (k + smw wC (es.take i) + 1 + 1))) (mkE_eq es[i].value (k + smw wC (es.take i) + 1 + 1 + 1 + 1 + 1 + 1 + 1 + 1 + smw ctE es[i].goal.args))
  rw [← smid_set wC mkC ht, List.map_set, show mkC es[i] (k + smw wC (es.take i)) = _ from ee, hset_set]
  rfl
 ·have : i = n := by omega
  subst this
  refine gwp_ok mxd ?_
  (refine R0 ?_; with_reducible repeat' first|exact trivial|intro h|refine aO ?_|refine eO ?_|apply jO)
  ·rw [tL (by omega)]
  ·rw [tL (by omega), List.drop_of_length_le (by omega), List.append_nil]
theorem w38 (r n : Nat) (k : Int) (es : List Rul) (H : GH) (hr : hget H r = some (6, es.map RuO)) (hn : es.length = n) (hk : 0 ≤ k) (hb : k + smw wR es < 9223372036854775807) :
  Gc 38 [.own r 6 0 n, I k] H (fun g H' => g = I (k + smw wR es) ∧ H' = hset H r ((smk wR mkR es k).map RuO)) := by
 refine gstart mxd i38 rfl (by simp) ?_; refine X0 ?_
 refine wloopF mxd (ι := { i : Nat // i ≤ n }) (fun i => [(0, .own r 6 0 n), (1, I (k + smw wR (es.take i.1))), (5, I i.1)]) (fun i => hset H r ((smk wR mkR (es.take i.1) k ++ es.drop i.1).map RuO)) (fun i => n - i.1) ⟨0, by omega⟩ FE.refl (by simp [E2, smw]) (by simp [smk]; rw [hset_self hr]) ?_
 rintro ⟨i, hi⟩ hnd
 dsimp only at hnd ⊢
 rcases nL i n with h | h
 ·have ht : i < es.length := by omega
  have hml : (smk wR mkR (es.take i) k ++ es.drop i).length = es.length := smid_len wR mkR
  have hmid : i < (smk wR mkR (es.take i) k ++ es.drop i).length := by rw [hml]; exact ht
  have e1 : smw wR (es.take (i + 1)) = smw wR (es.take i) + (3 + smw wS es[i].right + smw wQ es[i].eqs + smw wC es[i].cons) := smw_step wR ht
  have e2 := smw_take wR es (i + 1)
  have e3 := smw_len wR (fun x => by show 1 ≤ 3 + _ + _ + _; omega) es
  refine GW.opn (r := r) (i := i) (j := 2) (hget_set hr) (by rw [List.getElem?_map, List.getElem?_eq_getElem hmid, smid_get _ _ ht]; rfl) rfl fun r1 hn1 => ?_
  have hne1 : r1 ≠ r := ne_of_new hn1 (hget_set hr)
  rw [hset_set]
  refine GW.opn (r := r) (i := i) (j := 4) (by rw [hget_old hne1, hget_set hr]) (List.getElem?_set_self (by simpa using hmid)) rfl fun r2 hn2 => ?_
  have hne2 : r2 ≠ r := ne_of_new hn2 (by rw [hget_old hne1, hget_set hr])
  have hne21 : r2 ≠ r1 := ne_of_new hn2 hget_new
  rw [hset_old hne1, hset_set, List.set_set]
  refine GW.opn (r := r) (i := i) (j := 5) (by rw [hget_old hne2, hget_old hne1, hget_set hr]) (List.getElem?_set_self (by simpa using hmid)) rfl fun r3 hn3 => ?_
  have hne3 : r3 ≠ r := ne_of_new hn3 (by rw [hget_old hne2, hget_old hne1, hget_set hr])
  have hne31 : r3 ≠ r1 := ne_of_new hn3 (by rw [hget_old hne21, hget_new])
  have hne32 : r3 ≠ r2 := ne_of_new hn3 hget_new
  rw [hset_old hne2, hset_old hne1, hset_set, List.set_set]
  refine gwp_ok mxd ?_
  (refine R1 (jO (hgO hne1) (jO (hsO hne1) (jO (hgO hne2) (jO (hsO hne2) (jO (hgO hne21) (jO (hsO hne21) (jO (hgO hne3) (jO (hsO hne3) (jO (hgO hne31) (jO (hsO hne31) (jO (hgO hne32) (jO (hsO hne32) (jO @hset_new (jO @hget_new (jO (hgS hr) (jO @hset_set (jO @List.getElem_set_self.{0} (jO @List.set_set.{0} @List.length_set.{0})))))))))))))))))) ?_; with_reducible repeat' first|exact trivial|intro h|refine aO ?_|refine eO ?_|apply jO)
  all_goals try exact oF
  iterate 2
   (refine callS.eq (w79 _ (by omega)) ?_
    (refine R1 (jO (hgO hne1) (jO (hsO hne1) (jO (hgO hne2) (jO (hsO hne2) (jO (hgO hne21) (jO (hsO hne21) (jO (hgO hne3) (jO (hsO hne3) (jO (hgO hne31) (jO (hsO hne31) (jO (hgO hne32) (jO (hsO hne32) (jO @hset_new (jO @hget_new (jO (hgS hr) (jO @hset_set (jO @List.getElem_set_self.{0} (jO @List.set_set.{0} @List.length_set.{0})))))))))))))))))) ?_; with_reducible repeat' first|exact trivial|intro h|refine aO ?_|refine eO ?_|apply jO))
  all_goals try exact oF
  refine callS.of (w81 r1 _ _ es[i].right _ (by rw [hget_old hne31, hget_old hne21, hget_new]) (by simp) (by omega) (by omega)) ?_
  rintro g H' ⟨rfl, rfl⟩ -
  rw [hset_old hne31, hset_old hne21, hset_new]
  (refine R1 (jO (hgO hne1) (jO (hsO hne1) (jO (hgO hne2) (jO (hsO hne2) (jO (hgO hne21) (jO (hsO hne21) (jO (hgO hne3) (jO (hsO hne3) (jO (hgO hne31) (jO (hsO hne31) (jO (hgO hne32) (jO (hsO hne32) (jO @hset_new (jO @hget_new (jO (hgS hr) (jO @hset_set (jO @List.getElem_set_self.{0} (jO @List.set_set.{0} @List.length_set.{0})))))))))))))))))) ?_; with_reducible repeat' first|exact trivial|intro h|refine aO ?_|refine eO ?_|apply jO)
  all_goals try exact oF
  refine callS.of (w82 r2 _ _ es[i].eqs _ (by rw [hget_old hne32, hget_new]) (by simp) (by omega) (by omega)) ?_
  rintro g H' ⟨rfl, rfl⟩ -
  rw [hset_old hne32, hset_new]
  (refine R1 (jO (hgO hne1) (jO (hsO hne1) (jO (hgO hne2) (jO (hsO hne2) (jO (hgO hne21) (jO (hsO hne21) (jO (hgO hne3) (jO (hsO hne3) (jO (hgO hne31) (jO (hsO hne31) (jO (hgO hne32) (jO (hsO hne32) (jO @hset_new (jO @hget_new (jO (hgS hr) (jO @hset_set (jO @List.getElem_set_self.{0} (jO @List.set_set.{0} @List.length_set.{0})))))))))))))))))) ?_; with_reducible repeat' first|exact trivial|intro h|refine aO ?_|refine eO ?_|apply jO)
  all_goals try exact oF
  refine callS.of (w83 r3 _ _ es[i].cons _ hget_new (by simp) (by omega) (by omega)) ?_
  rintro g H' ⟨rfl, rfl⟩ -
  rw [hset_new]
  (refine R1 (jO (hgO hne1) (jO (hsO hne1) (jO (hgO hne2) (jO (hsO hne2) (jO (hgO hne21) (jO (hsO hne21) (jO (hgO hne3) (jO (hsO hne3) (jO (hgO hne31) (jO (hsO hne31) (jO (hgO hne32) (jO (hsO hne32) (jO @hset_new (jO @hget_new (jO (hgS hr) (jO @hset_set (jO @List.getElem_set_self.{0} (jO @List.set_set.{0} @List.length_set.{0})))))))))))))))))) ?_; with_reducible repeat' first|exact trivial|intro h|refine aO ?_|refine eO ?_|apply jO)
  all_goals try exact oF
  refine nxF ⟨i + 1, by omega⟩ (by simp; omega) (FE.trans (FE.closeT (r := r) (j := 5) (i := i) hne3 (by rw [hget_old hne2, hget_old hne1, hget_set hr]) (by simpa using hmid) rfl (by simp [smk_len])) (FE.trans (by rw [hset_old hne2, hset_old hne1, hset_set]; exact FE.closeT (r := r) (j := 4) (i := i) hne2 (by rw [hget_old hne1, hget_set hr]) (by simpa using hmid) rfl (by simp [smk_len])) (by rw [hset_old hne1, hset_set]; exact FE.closeT (r := r) (j := 2) (i := i) hne1 (hget_set hr) (by simpa using hmid) rfl (by simp [smk_len])))) (by simp [E2]; omega) ?_
  rw [← smid_set wR mkR ht, List.map_set, hset_set]
  rfl
 ·have : i = n := by omega
  subst this
  refine gwp_ok mxd ?_
  (refine R0 ?_; with_reducible repeat' first|exact trivial|intro h|refine aO ?_|refine eO ?_|apply jO)
  ·rw [tL (by omega)]
  ·rw [tL (by omega), List.drop_of_length_le (by omega), List.append_nil]
theorem w13 (rs rr n m : Nat) (k : Int) (x : Gram) (H : GH) (hne : rs ≠ rr) (h1 : hget H rs = some (2, x.syms.map SyO)) (h2 : hget H rr = some (6, x.rules.map RuO)) (hn : x.syms.length = n) (hm : x.rules.length = m) (hk : 0 ≤ k) (hb : k + smw wSym x.syms + smw wR x.rules < 9223372036854775807) :
  Gc 13 [.agg [.own rs 2 0 n, .own rr 6 0 m], I k] H (fun g H' => g = I (k + smw wSym x.syms + smw wR x.rules) ∧ H' = hset (hset H rs ((smk wSym mkSym x.syms k).map SyO)) rr ((smk wR mkR x.rules (k + smw wSym x.syms)).map RuO)) := by
 refine gstart mxd i13 rfl (by simp) ?_; refine X0 ?_
 refine callS.of (w37 rs n k x.syms _ h1 hn hk (by omega)) ?_
 rintro g H' ⟨rfl, rfl⟩ -
 (refine R0 ?_; with_reducible repeat' first|exact trivial|intro h|refine aO ?_|refine eO ?_|apply jO)
 refine callS.of (w38 rr m _ x.rules _ (by rw [hget_set_ne hne]; exact h2) hm (by omega) (by omega)) ?_
 rintro g H' ⟨rfl, rfl⟩ -
 (refine R0 ?_; with_reducible repeat' first|exact trivial|intro h|refine aO ?_|refine eO ?_|apply jO)
theorem o161 (x : Con) (hx : smCo x) (H : GH) : Gc 161 [Co x] H (fun g H' => ∃ gs Rs, (∃ r1 r2, gs = [T x.sym, T x.name, I x.goal.kind, I x.goal.n, I x.goal.pos, I x.goal.type, T x.goal.sym, T x.goal.name, .own r1 7 0 x.goal.args.length, I x.value.kind, I x.value.n, I x.value.pos, I x.value.type, T x.value.sym, T x.value.name, .own r2 7 0 x.value.args.length] ∧ Rs = [(r2, 7, x.value.args.map ExO), (r1, 7, x.goal.args.map ExO)]) ∧ g = .agg gs ∧ H' = Rs ++ H) := by
 have h0 : Gc 161 [Co x] H (fun g H' => ∃ r1 r2 r0 e, ¬ r1 = r0 ∧ ¬ r2 = r0 ∧ ¬ r2 = r1 ∧ g = .agg [T x.sym, T x.name, I x.goal.kind, I x.goal.n, I x.goal.pos, I x.goal.type, T x.goal.sym, T x.goal.name, .own r1 7 0 x.goal.args.length, I x.value.kind, I x.value.n, I x.value.pos, I x.value.type, T x.value.sym, T x.value.name, .own r2 7 0 x.value.args.length] ∧ H' = (r2, 7, x.value.args.map ExO) :: (r1, 7, x.goal.args.map ExO) :: (r0, 16, e) :: H) := by
  refine gstart mxd i161 rfl (by simp) ?_; refine X0 ?_
  (refine V1 @XE ?_; with_reducible repeat' first|exact trivial|intro h|refine aO ?_|refine eO ?_|apply jO)
  rename_i r0
  refine callS.of (o201 x.goal hx.1 _) ?_
  rintro g H' ⟨r1, rfl, rfl⟩ hn
  replace hn := neH_of hn
  (replace hn := hn; simp only [VN] at hn)
  (refine V1 (jO hn @XE) ?_; with_reducible repeat' first|exact trivial|intro h|refine aO ?_|refine eO ?_|apply jO)
  refine callS.of (o201 x.value hx.2 _) ?_
  rintro g H' ⟨r2, rfl, rfl⟩ hn2
  replace hn2 := neH_of hn2
  (replace hn2 := hn2; simp only [VN] at hn2)
  (refine V1 (jO hn2 @XE) ?_; with_reducible repeat' first|exact trivial|intro h|refine aO ?_|refine eO ?_|apply jO)
  exact ⟨r1, r2, r0, _, by simp [hn2], by simp [hn2], by simp [hn2], rfl, rfl⟩
 refine h0.fr ?_
 rintro g H' ⟨r1, r2, r0, e, n1, n2, n3, rfl, rfl⟩
 exact ⟨_, _, FR.perm (H := [_, _, _]) (L := [(r2, 7, x.value.args.map ExO), (r1, 7, x.goal.args.map ExO)]) (by simp [subH, hget, names, *]), _, _, ⟨r1, r2, rfl, rfl⟩, rfl, rfl⟩
theorem o106 (xs : List Con) (hl : xs.length ≤ 1048576) (hx : ∀ x ∈ xs, smCo x) (H : GH) : Gc 106 [CoS xs] H (fun g H' => ∃ r, g = .own r 16 0 xs.length ∧ H' = (r, 16, xs.map CoO) :: H) :=
 toSoN mxd i106 (fun _ => rfl) (fun _ => rfl)
  (fun x gs Rs => ∃ r1 r2, gs = [T x.sym, T x.name, I x.goal.kind, I x.goal.n, I x.goal.pos, I x.goal.type, T x.goal.sym, T x.goal.name, .own r1 7 0 x.goal.args.length, I x.value.kind, I x.value.n, I x.value.pos, I x.value.type, T x.value.sym, T x.value.name, .own r2 7 0 x.value.args.length] ∧ Rs = [(r2, 7, x.value.args.map ExO), (r1, 7, x.goal.args.map ExO)])
  (fun x => [T x.sym, T x.name, I x.goal.kind, I x.goal.n, I x.goal.pos, I x.goal.type, T x.goal.sym, T x.goal.name, .osl 7 (x.goal.args.map ExO), I x.value.kind, I x.value.n, I x.value.pos, I x.value.type, T x.value.sym, T x.value.name, .osl 7 (x.value.args.map ExO)])
  (by rintro x gs Rs ⟨r1, r2, rfl, rfl⟩; rfl)
  (by
   rintro x gs Rs ⟨r1, r2, rfl, rfl⟩ env r L i H hn hi
   replace hn := neH_of hn
   simp only [List.cons_append, List.nil_append] at hn ⊢
   (replace hn := hn; simp only [VN] at hn)
   have h1 := FE.closeT (env := env) (T := (r1, 7, x.goal.args.map ExO) :: (r, 16, L.set i (.agg [T x.sym, T x.name, I x.goal.kind, I x.goal.n, I x.goal.pos, I x.goal.type, T x.goal.sym, T x.goal.name, .own r1 7 0 x.goal.args.length, I x.value.kind, I x.value.n, I x.value.pos, I x.value.type, T x.value.sym, T x.value.name, .own r2 7 0 x.value.args.length])) :: H) (r := r) (r2 := r2) (j := 15) (ks := x.value.args.map ExO) (i := i) (by simp [hn]) (by simp only [hget_c, hn, if_true, if_false]; rfl) hi rfl (by simp)
   simp only [hset_c, hn, if_true, if_false] at h1
   refine FE.trans h1 ?_
   have h2 := FE.close2 (env := env) (H := H) (r := r) (r1 := r1) (j := 8) (i := i) (L := L) (sz := 16) (sz1 := 7) (ks := x.goal.args.map ExO) (gs := [T x.sym, T x.name, I x.goal.kind, I x.goal.n, I x.goal.pos, I x.goal.type, T x.goal.sym, T x.goal.name, .own r1 7 0 x.goal.args.length, I x.value.kind, I x.value.n, I x.value.pos, I x.value.type, T x.value.sym, T x.value.name, .osl 7 (x.value.args.map ExO)]) (by simp [hn]) hi rfl (by simp)
   exact h2)
  xs hl (by decide) (fun x hm H => o161 x (hx x hm) H) H
theorem o57 (x : Rul) (hx : smRu x) (H : GH) : Gc 57 [Ru x] H (fun g H' => ∃ gs Rs, (∃ r1 r2 r3, gs = [T x.name, T x.left, .own r1 1 0 x.right.length, B x.lit, .own r2 9 0 x.eqs.length, .own r3 16 0 x.cons.length] ∧ Rs = [(r3, 16, x.cons.map CoO), (r2, 9, x.eqs.map QnO), (r1, 1, x.right.map T)]) ∧ g = .agg gs ∧ H' = Rs ++ H) := by
 have h0 : Gc 57 [Ru x] H (fun g H' => ∃ r1 r2 r3 r0 e, ¬ r1 = r0 ∧ ¬ r2 = r0 ∧ ¬ r2 = r1 ∧ ¬ r3 = r0 ∧ ¬ r3 = r1 ∧ ¬ r3 = r2 ∧ g = .agg [T x.name, T x.left, .own r1 1 0 x.right.length, B x.lit, .own r2 9 0 x.eqs.length, .own r3 16 0 x.cons.length] ∧ H' = (r3, 16, x.cons.map CoO) :: (r2, 9, x.eqs.map QnO) :: (r1, 1, x.right.map T) :: (r0, 6, e) :: H) := by
  refine gstart mxd i57 rfl (by simp) ?_; refine X0 ?_
  (refine V0 ?_; with_reducible repeat' first|exact trivial|intro h|refine aO ?_|refine eO ?_|apply jO)
  rename_i r0
  refine callS.of (o104 x.right hx.1 _) ?_
  rintro g H' ⟨r1, rfl, rfl⟩ hn
  replace hn := neH_of hn
  (replace hn := hn; simp only [VN] at hn)
  (refine V1 hn ?_; with_reducible repeat' first|exact trivial|intro h|refine aO ?_|refine eO ?_|apply jO)
  refine callS.of (o105 x.eqs hx.2.1 hx.2.2.2.1 _) ?_
  rintro g H' ⟨r2, rfl, rfl⟩ hn2
  replace hn2 := neH_of hn2
  (replace hn2 := hn2; simp only [VN] at hn2)
  (refine V1 hn2 ?_; with_reducible repeat' first|exact trivial|intro h|refine aO ?_|refine eO ?_|apply jO)
  refine callS.of (o106 x.cons hx.2.2.1 hx.2.2.2.2 _) ?_
  rintro g H' ⟨r3, rfl, rfl⟩ hn3
  replace hn3 := neH_of hn3
  (replace hn3 := hn3; simp only [VN] at hn3)
  (refine V1 hn3 ?_; with_reducible repeat' first|exact trivial|intro h|refine aO ?_|refine eO ?_|apply jO)
  exact ⟨r1, r2, r3, r0, _, by simp [hn3], by simp [hn3], by simp [hn3], by simp [hn3], by simp [hn3], by simp [hn3], rfl, rfl⟩
 refine h0.fr ?_
 rintro g H' ⟨r1, r2, r3, r0, e, n1, n2, n3, n4, n5, n6, rfl, rfl⟩
 exact ⟨_, _, FR.perm (H := [_, _, _, _]) (L := [(r3, 16, x.cons.map CoO), (r2, 9, x.eqs.map QnO), (r1, 1, x.right.map T)]) (by simp [subH, hget, names, *]), _, _, ⟨r1, r2, r3, rfl, rfl⟩, rfl, rfl⟩
theorem o27 (xs : List Rul) (hl : xs.length ≤ 1048576) (hx : ∀ x ∈ xs, smRu x) (H : GH) : Gc 27 [RuS xs] H (fun g H' => ∃ r, g = .own r 6 0 xs.length ∧ H' = (r, 6, xs.map RuO) :: H) :=
 toSoN mxd i27 (fun _ => rfl) (fun _ => rfl)
  (fun x gs Rs => ∃ r1 r2 r3, gs = [T x.name, T x.left, .own r1 1 0 x.right.length, B x.lit, .own r2 9 0 x.eqs.length, .own r3 16 0 x.cons.length] ∧ Rs = [(r3, 16, x.cons.map CoO), (r2, 9, x.eqs.map QnO), (r1, 1, x.right.map T)])
  (fun x => [T x.name, T x.left, .osl 1 (x.right.map T), B x.lit, .osl 9 (x.eqs.map QnO), .osl 16 (x.cons.map CoO)])
  (by rintro x gs Rs ⟨r1, r2, r3, rfl, rfl⟩; rfl)
  (by
   rintro x gs Rs ⟨r1, r2, r3, rfl, rfl⟩ env r L i H hn hi
   replace hn := neH_of hn
   simp only [List.cons_append, List.nil_append] at hn ⊢
   (replace hn := hn; simp only [VN] at hn)
   have h1 := FE.closeT (env := env) (T := (r2, 9, x.eqs.map QnO) :: (r1, 1, x.right.map T) :: (r, 6, L.set i (.agg [T x.name, T x.left, .own r1 1 0 x.right.length, B x.lit, .own r2 9 0 x.eqs.length, .own r3 16 0 x.cons.length])) :: H) (r := r) (r2 := r3) (j := 5) (ks := x.cons.map CoO) (i := i) (by simp [hn]) (by simp only [hget_c, hn, if_true, if_false]; rfl) hi rfl (by simp)
   simp only [hset_c, hn, if_true, if_false] at h1
   refine FE.trans h1 ?_
   have h2 := FE.closeT (env := env) (T := (r1, 1, x.right.map T) :: (r, 6, L.set i (.agg [T x.name, T x.left, .own r1 1 0 x.right.length, B x.lit, .own r2 9 0 x.eqs.length, .osl 16 (x.cons.map CoO)])) :: H) (r := r) (r2 := r2) (j := 4) (ks := x.eqs.map QnO) (i := i) (by simp [hn]) (by simp only [hget_c, hn, if_true, if_false]; rfl) hi rfl (by simp)
   simp only [hset_c, hn, if_true, if_false] at h2
   refine FE.trans h2 ?_
   have h3 := FE.close2 (env := env) (H := H) (r := r) (r1 := r1) (j := 2) (i := i) (L := L) (sz := 6) (sz1 := 1) (ks := x.right.map T) (gs := [T x.name, T x.left, .own r1 1 0 x.right.length, B x.lit, .osl 9 (x.eqs.map QnO), .osl 16 (x.cons.map CoO)]) (by simp [hn]) hi rfl (by simp)
   exact h3)
  xs hl (by decide) (fun x hm H => o57 x (hx x hm) H) H
theorem o7 (x : Gram) (hx : smGr x) (H : GH) : Gc 7 [Gr x] H (fun g H' => ∃ rs rr, ¬ rr = rs ∧ g = .agg [.own rs 2 0 x.syms.length, .own rr 6 0 x.rules.length] ∧ H' = (rr, 6, x.rules.map RuO) :: (rs, 2, x.syms.map SyO) :: H) := by
 have h0 : Gc 7 [Gr x] H (fun g H' => ∃ rs rr r0 e, ¬ rs = r0 ∧ ¬ rr = r0 ∧ ¬ rr = rs ∧ g = .agg [.own rs 2 0 x.syms.length, .own rr 6 0 x.rules.length] ∧ H' = (rr, 6, x.rules.map RuO) :: (rs, 2, x.syms.map SyO) :: (r0, 2, e) :: H) := by
  refine gstart mxd i7 rfl (by simp) ?_; refine X0 ?_
  (refine V0 ?_; with_reducible repeat' first|exact trivial|intro h|refine aO ?_|refine eO ?_|apply jO)
  rename_i r0
  refine callS.of (o26 x.syms hx.1 hx.2.2.1 _) ?_
  rintro g H' ⟨r1, rfl, rfl⟩ hn
  replace hn := neH_of hn
  (replace hn := hn; simp only [VN] at hn)
  (refine V1 hn ?_; with_reducible repeat' first|exact trivial|intro h|refine aO ?_|refine eO ?_|apply jO)
  refine callS.of (o27 x.rules hx.2.1 hx.2.2.2 _) ?_
  rintro g H' ⟨r2, rfl, rfl⟩ hn2
  replace hn2 := neH_of hn2
  (replace hn2 := hn2; simp only [VN] at hn2)
  (refine V1 hn2 ?_; with_reducible repeat' first|exact trivial|intro h|refine aO ?_|refine eO ?_|apply jO)
  exact ⟨r1, r2, r0, _, by simp [hn2], by simp [hn2], by simp [hn2], rfl, rfl⟩
 refine h0.fr ?_
 rintro g H' ⟨r1, r2, r0, e, n1, n2, n3, rfl, rfl⟩
 exact ⟨_, _, FR.perm (H := [_, _, _]) (L := [(r2, 6, x.rules.map RuO), (r1, 2, x.syms.map SyO)]) (by simp [subH, hget, names, *]), r1, r2, n3, rfl, rfl⟩
theorem o177 : ∀ (e : Exp), wEx e ≤ 1048576 → ∀ H, Gc 177 [Ex e] H (fun g H' => ∃ r, g = .agg [I e.kind, I e.n, I e.pos, I e.type, T e.sym, T e.name, .own r 7 0 e.args.length] ∧ H' = (r, 7, e.args.map ExO) :: H) := by
 refine Exp.indA fun e ih hw H => ?_
 obtain ⟨hl, ha⟩ := args_small hw
 have h0 : Gc 177 [Ex e] H (fun g H' => ∃ r r0 u, ¬ r = r0 ∧ g = .agg [I e.kind, I e.n, I e.pos, I e.type, T e.sym, T e.name, .own r 7 0 e.args.length] ∧ H' = (r, 7, e.args.map ExO) :: (r0, 7, u) :: H) := by
  rw [Ex_eq]
  refine gstart mxd i177 rfl (by simp) ?_; refine X0 ?_
  (refine V0 ?_; with_reducible repeat' first|exact trivial|intro h|refine aO ?_|refine eO ?_|apply jO)
  rename_i rb
  obtain ⟨q0, ho, hq⟩ := vfresh (names ((rb, 7, [GV.agg [I e.kind, I e.n, I e.pos, I e.type, T e.sym, T e.name, ExS e.args]]) :: H))
  refine wloopF mxd (ι := { y : Nat × Nat // y.2 ≤ e.args.length }) (fun y => [(1, .ptr rb 7 0 0), (2, .raw 7), (3, .own y.1.1 7 0 y.1.2), (7, ExS e.args), (8, I e.args.length), (9, I y.1.2)]) (fun y => (y.1.1, 7, (e.args.take y.1.2).map ExO) :: (rb, 7, [.agg [I e.kind, I e.n, I e.pos, I e.type, T e.sym, T e.name, ExS e.args]]) :: H) (fun y => e.args.length - y.1.2) ⟨(q0, 0), by simp⟩ (FE.virt (j := 3) (sz := 7) rfl ho hq) (by simp [E2, eset]) rfl ?_
  rintro ⟨⟨q, k⟩, hk⟩ hn
  dsimp only at hk hn ⊢
  refine gwp_ok mxd ?_
  replace hn := neH_of hn
  (replace hn := hn; simp only [VN] at hn)
  rcases nL k e.args.length with hlt | hge
  ·(refine V1 (jO hn (jO @XE (jO @List.length_append.{0} (jO @List.length_singleton.{0} (jO @List.length_map.{0,0} (jO @List.length_take.{0} @maxLv)))))) ?_; with_reducible repeat' first|exact trivial|intro h|refine aO ?_|refine eO ?_|apply jO)
   all_goals try exact oF
   refine callS.of (ih e.args[k] (gM _) (ha _ (gM _)) _) ?_
   rintro g H' ⟨rc, rfl, rfl⟩ hnc
   replace hnc := neH_of hnc
   (replace hnc := hnc; simp only [VN] at hnc)
   (refine V1 (jO hn (jO hnc (jO @List.length_append.{0} (jO @List.length_singleton.{0} (jO @List.length_map.{0,0} (jO @List.length_take.{0} @maxLv)))))) ?_; with_reducible repeat' first|exact trivial|intro h|refine aO ?_|refine eO ?_|apply jO)
   all_goals try exact oF
   rename_i r3 _ r4
   refine nxF ⟨(r4, k + 1), by omega⟩ (by simp; omega) (FE.trans (FE.perm (H := [_, _, _, _]) (L := [(r4, _), (rc, _), (rb, _)]) (by repeat' (first | exact trivial | (refine And.intro (by simp only [hget_c, *, if_true, if_false]; try rfl) (And.intro (by simp [names_cons, names_nil, *]) ?_))))) (FE.closeL2 (j := 6) (by simp [*]) rfl (by simp))) (by simp [E2]) ?_
   rw [tL (by simp; omega), ← take_snocM ExO hlt, ExO_eq]
   rfl
  ·obtain rfl : k = e.args.length := by omega
   (refine V1 (jO hn (jO @XE @maxLv)) ?_; with_reducible repeat' first|exact trivial|intro h|refine aO ?_|refine eO ?_|apply jO)
   all_goals try exact oF
   rw [List.take_length]
   exact ⟨q, rb, _, hn.1.1, rfl, rfl⟩
 refine h0.fr ?_
 rintro g H' ⟨r, r0, u, hne, rfl, rfl⟩
 exact ⟨_, _, FR.perm (H := [_, _]) (L := [(r, 7, e.args.map ExO)]) (by simp [subH, hget, names]), r, rfl, rfl⟩
theorem w100 (r : Rul) (o : Int × ByteArray) (hr : smRu r) : Pu 100 [Ru r, Occ o] (· = .tup [Ex (eqnE r o), B (eqnF r o).isSome]) := by
 refine Pure.bor ?_
 have hlen := hr.2.1
 refine gstart mxd i100 rfl (by simp) ?_; refine X0 ?_
 refine wloop mxd (ι := { i : Nat // i ≤ r.eqs.length ∧ ∀ y ∈ r.eqs.take i, decide (y.pos = o.1 ∧ y.name = o.2) = false }) (fun i => [(2, .rop 6 (Ru r)), (3, .rop 2 (Occ o)), (4, .raw 7), (6, I i.1)]) (fun _ => []) (fun i => r.eqs.length - i.1) ⟨0, by simp⟩ (by simp [E2]) rfl ?_
 rintro ⟨i, hi, hn⟩
 rcases nL i r.eqs.length with hlt | hge
 ·by_cases he : r.eqs[i].pos = o.1 ∧ r.eqs[i].name = o.2
  ·(refine V1 (jO @XE (jO he (jO @and_self @decide_true))) ?_; with_reducible repeat' first|exact trivial|intro h|refine aO ?_|refine eO ?_|apply jO)
   all_goals try exact oF
   refine callS.eq (w152 r.eqs[i].expr (hr.2.2.2.1 _ (gM _))) ?_
   (refine V1 @XE ?_; with_reducible repeat' first|exact trivial|intro h|refine aO ?_|refine eO ?_|apply jO)
   have e := find_hit (p := fun x : Eqn => decide (x.pos = o.1 ∧ x.name = o.2)) (xs := r.eqs) (i := i) hlt (by simp [he]) hn
   simp only [eqnE, eqnF, e]
   exact .refl
  ·(refine V1 @XE ?_; with_reducible repeat' first|exact trivial|intro h|refine aO ?_|refine eO ?_|apply jO)
   all_goals first
    | exact nx ⟨i + 1, by omega, take_step hlt (by simp [he]) hn⟩ (by simp; omega) (by simp [E2]) rfl
    | (exfalso; omega)
    | (exfalso; exact he ⟨by assumption, by assumption⟩)
 ·have : i = r.eqs.length := by omega
  subst this
  rw [tL (Nat.le_refl _)] at hn
  have e := find_none hn
  (refine V1 @XE ?_; with_reducible repeat' first|exact trivial|intro h|refine aO ?_|refine eO ?_|apply jO)
  all_goals try exact oF
  simp only [eqnE, eqnF, e]
  exact .tup (.cons (.agg (.cons .refl (.cons .refl (.cons .refl (.cons .refl (.cons .refl (.cons .refl (.cons .nil .nil)))))))) (.cons .refl .nil))
theorem o132 (r : Rul) (o : Int × ByteArray) (hr : smRu r) (H : GH) : Gc 132 [Ru r, Occ o] H (fun g H' => ∃ q, g = .tup [.agg [I (eqnE r o).kind, I (eqnE r o).n, I (eqnE r o).pos, I (eqnE r o).type, T (eqnE r o).sym, T (eqnE r o).name, .own q 7 0 (eqnE r o).args.length], B (eqnF r o).isSome] ∧ H' = (q, 7, (eqnE r o).args.map ExO) :: H) := by
 have h0 : Gc 132 [Ru r, Occ o] H (fun g H' => (∃ q, g = .tup [.agg [I (eqnE r o).kind, I (eqnE r o).n, I (eqnE r o).pos, I (eqnE r o).type, T (eqnE r o).sym, T (eqnE r o).name, .own q 7 0 (eqnE r o).args.length], B (eqnF r o).isSome] ∧ H' = (q, 7, (eqnE r o).args.map ExO) :: H) ∨ (eqnF r o = none ∧ g = .tup [.agg [I 0, I 0, I 0, I 0, T noS, T noS, .val (.slice none 0 0)], B false] ∧ H' = H)) := by
  have hlen := hr.2.1
  refine gstart mxd i132 rfl (by simp) ?_; refine X0 ?_
  refine wloop mxd (ι := { i : Nat // i ≤ r.eqs.length ∧ ∀ y ∈ r.eqs.take i, decide (y.pos = o.1 ∧ y.name = o.2) = false }) (fun i => [(3, .rop 2 (Occ o)), (4, .raw 7), (9, QnS r.eqs), (10, I r.eqs.length), (11, I i.1)]) (fun _ => H) (fun i => r.eqs.length - i.1) ⟨0, by simp⟩ (by simp [E2]) rfl ?_
  rintro ⟨i, hi, hn⟩
  rcases nL i r.eqs.length with hlt | hge
  ·by_cases he : r.eqs[i].pos = o.1 ∧ r.eqs[i].name = o.2
   ·(refine V1 (jO @XE (jO he (jO @and_self @decide_true))) ?_; with_reducible repeat' first|exact trivial|intro h|refine aO ?_|refine eO ?_|apply jO)
    all_goals try exact oF
    refine callS.of (o177 r.eqs[i].expr (hr.2.2.2.1 _ (gM _)) _) ?_
    rintro g H' ⟨q, rfl, rfl⟩ hq
    (refine V1 @XE ?_; with_reducible repeat' first|exact trivial|intro h|refine aO ?_|refine eO ?_|apply jO)
    have e := find_hit (p := fun x : Eqn => decide (x.pos = o.1 ∧ x.name = o.2)) (xs := r.eqs) (i := i) hlt (by simp [he]) hn
    simp only [eqnE, eqnF, e]
    exact .inl ⟨q, rfl, rfl⟩
   ·(refine V1 @XE ?_; with_reducible repeat' first|exact trivial|intro h|refine aO ?_|refine eO ?_|apply jO)
    all_goals first
     | exact nx ⟨i + 1, by omega, take_step hlt (by simp [he]) hn⟩ (by simp; omega) (by simp [E2]) rfl
     | (exfalso; omega)
     | (exfalso; exact he ⟨by assumption, by assumption⟩)
  ·have : i = r.eqs.length := by omega
   subst this
   rw [tL (Nat.le_refl _)] at hn
   have e := find_none hn
   (refine V1 @XE ?_; with_reducible repeat' first|exact trivial|intro h|refine aO ?_|refine eO ?_|apply jO)
   all_goals try exact oF
   exact .inr ⟨e, rfl⟩
 refine h0.fr ?_
 rintro g H' (⟨q, rfl, rfl⟩ | ⟨e, rfl, rfl⟩)
 ·exact ⟨_, _, FR.refl _ _, q, rfl, rfl⟩
 ·refine ⟨_, _, FR.trans (FR.addv (r := vname H') (sz := 7) (vname_odd H') (vname_new H')) (FR.sub (.tup (.cons (.agg (nilL_bor (l := [_, _, _, _, _, _]) (r := vname H') (sz := 7))) (.cons .refl .nil)))), vname H', ?_, ?_⟩
  ·simp only [eqnE, e]; rfl
  ·simp only [eqnE, e]; rfl
theorem w52 (g : Gram) (t : List Nod) (x : Int × ByteArray) (hg : smGr g) (hl : t.length ≤ 1048576) : Pu 52 [Gr g, Tr t, Ins x] (· = .tup [DfG (defO g t x) (defE g t x), B (defB g t x)]) := by
 refine Pure.bor ?_
 have hz : Bor [] (.tup [.agg [I 0, I 0, I 0, I 0, I 0, T noS, T noS, .val (.slice none 0 0)], B false]) (.tup [DfG 0 expZ, B false]) := .tup (.cons (.agg (.cons .refl (.cons .refl (.cons .refl (.cons .refl (.cons .refl (.cons .refl (.cons .refl (.cons .nil .nil))))))))) (.cons .refl .nil))
 refine gstart mxd i52 rfl (by simp) ?_; refine X0 ?_
 refine callS.eq (w98 g t x hg) ?_
 (refine V0 ?_; with_reducible repeat' first|exact trivial|intro h|refine aO ?_|refine eO ?_|apply jO)
 refine callS.eq (w99 t x.1) ?_
 by_cases h1 : hasN g t x.1 x.2 = true
 ·obtain ⟨hi1, hi2⟩ := hasN_ix h1
  obtain ⟨n, hin⟩ : ∃ n : Nat, ixOf (fun y : Nod => decide (y.id = x.1)) t = n := ⟨(ixOf (fun y : Nod => decide (y.id = x.1)) t).toNat, by omega⟩
  have hn : n < t.length := by omega
  by_cases h2 : (attN g t x.1 x.2).mode = 3
  ·have hB : defB g t x = false := by simp [defB, h2]
   simp only [defO, defE, hB]
   (refine V1 (jO h1 h2) ?_; with_reducible repeat' first|exact trivial|intro h|refine aO ?_|refine eO ?_|apply jO)
   all_goals first | exact hz | (exfalso; omega)
  by_cases h3 : (attN g t x.1 x.2).mode = 1
  ·have ho : ownN g t x = (t[n].parent, t[n].place) := by simp only [ownN, if_pos h3, hin, Int.toNat_natCast]; rw [getD_lt hn]
   by_cases hr : 0 ≤ t[n].parent ∧ t[n].parent < t.length
   ·obtain ⟨m, hm⟩ : ∃ m : Nat, t[n].parent = m := ⟨(t[n].parent).toNat, by omega⟩
    have hmt : m < t.length := by omega
    have hrr : 0 ≤ (m : Int) ∧ (m : Int) ≤ t.length - 1 := by omega
    have hgt : t.getD m nodZ = t[m] := getD_lt hmt
    (refine V1 (jO h1 (jO h2 (jO h3 hin))) ?_; with_reducible repeat' first|exact trivial|intro h|refine aO ?_|refine eO ?_|apply jO)
    all_goals try exact oF
    refine callS.eq (w50 _ _ _) ?_
    (refine V1 (jO hm hrr) ?_; with_reducible repeat' first|exact trivial|intro h|refine aO ?_|refine eO ?_|apply jO)
    all_goals try exact oF
    refine callS.eq (w51 g _ hg) ?_
    (refine V1 hm ?_; with_reducible repeat' first|exact trivial|intro h|refine aO ?_|refine eO ?_|apply jO)
    all_goals try exact oF
    refine callS.eq (w100 (fRul g.rules t[m].rule) (t[n].place, x.2) (smRu_f hg _)) ?_
    by_cases h5 : (eqnF (fRul g.rules t[m].rule) (t[n].place, x.2)).isSome = true
    ·have hB : defB g t x = true := by simp [defB, h1, h2, ho, hm, h5, hmt, hgt]
     have hE : defE g t x = eqnE (fRul g.rules t[m].rule) (t[n].place, x.2) := by simp only [defE, hB, if_true, ho, hm, Int.toNat_natCast, hgt]
     have hO : defO g t x = m := by simp only [defO, hB, if_true, ho, hm]
     rw [hE, hO, hB]
     (refine V1 (jO h5 (jO hm @XE)) ?_; with_reducible repeat' first|exact trivial|intro h|refine aO ?_|refine eO ?_|apply jO)
     first | exact .refl | (rw [Ex_eq]; exact .refl)
    ·have h5' : (eqnF (fRul g.rules t[m].rule) (t[n].place, x.2)).isSome = false := by simpa using h5
     have hB : defB g t x = false := by simp only [defB, ho, hm, Int.toNat_natCast, hgt, h5', Bool.and_false]
     simp only [defO, defE, hB]
     (refine V1 (jO h5' @XE) ?_; with_reducible repeat' first|exact trivial|intro h|refine aO ?_|refine eO ?_|apply jO)
     exact hz
   ·have hr1 : ¬ (0 ≤ t[n].parent ∧ t[n].parent ≤ t.length - 1) := by omega
    have hB : defB g t x = false := by simp only [defB, ho, decide_eq_false hr, Bool.and_false, Bool.false_and]
    simp only [defO, defE, hB]
    (refine V1 (jO h1 (jO h2 (jO h3 hin))) ?_; with_reducible repeat' first|exact trivial|intro h|refine aO ?_|refine eO ?_|apply jO)
    all_goals try exact oF
    refine callS.eq (w50 _ _ _) ?_
    (refine V1 hr1 ?_; with_reducible repeat' first|exact trivial|intro h|refine aO ?_|refine eO ?_|apply jO)
    exact hz
  ·have ho : ownN g t x = ((n : Int), 0) := by simp only [ownN, if_neg h3, hin]
   by_cases hr : 0 ≤ (n : Int) ∧ (n : Int) < t.length
   ·obtain ⟨m, hm⟩ : ∃ m : Nat, (n : Int) = m := ⟨((n : Int)).toNat, by omega⟩
    have hmt : m < t.length := by omega
    have hrr : 0 ≤ (m : Int) ∧ (m : Int) ≤ t.length - 1 := by omega
    have hgt : t.getD m nodZ = t[m] := getD_lt hmt
    (refine V1 (jO h1 (jO h2 (jO h3 hin))) ?_; with_reducible repeat' first|exact trivial|intro h|refine aO ?_|refine eO ?_|apply jO)
    all_goals try exact oF
    refine callS.eq (w50 _ _ _) ?_
    (refine V1 (jO hm hrr) ?_; with_reducible repeat' first|exact trivial|intro h|refine aO ?_|refine eO ?_|apply jO)
    all_goals try exact oF
    refine callS.eq (w51 g _ hg) ?_
    (refine V1 hm ?_; with_reducible repeat' first|exact trivial|intro h|refine aO ?_|refine eO ?_|apply jO)
    all_goals try exact oF
    refine callS.eq (w100 (fRul g.rules t[m].rule) ((0 : Int), x.2) (smRu_f hg _)) ?_
    by_cases h5 : (eqnF (fRul g.rules t[m].rule) ((0 : Int), x.2)).isSome = true
    ·have hB : defB g t x = true := by simp [defB, h1, h2, ho, hm, h5, hmt, hgt]
     have hE : defE g t x = eqnE (fRul g.rules t[m].rule) ((0 : Int), x.2) := by simp only [defE, hB, if_true, ho, hm, Int.toNat_natCast, hgt]
     have hO : defO g t x = m := by simp only [defO, hB, if_true, ho, hm]
     rw [hE, hO, hB]
     (refine V1 (jO h5 (jO hm @XE)) ?_; with_reducible repeat' first|exact trivial|intro h|refine aO ?_|refine eO ?_|apply jO)
     first | exact .refl | (rw [Ex_eq]; exact .refl)
    ·have h5' : (eqnF (fRul g.rules t[m].rule) ((0 : Int), x.2)).isSome = false := by simpa using h5
     have hB : defB g t x = false := by simp only [defB, ho, hm, Int.toNat_natCast, hgt, h5', Bool.and_false]
     simp only [defO, defE, hB]
     (refine V1 (jO h5' @XE) ?_; with_reducible repeat' first|exact trivial|intro h|refine aO ?_|refine eO ?_|apply jO)
     exact hz
   ·exfalso; omega
 ·have h1' : hasN g t x.1 x.2 = false := by simpa using h1
  have hB : defB g t x = false := by simp [defB, h1']
  simp only [defO, defE, hB]
  (refine V1 h1' ?_; with_reducible repeat' first|exact trivial|intro h|refine aO ?_|refine eO ?_|apply jO)
  all_goals first | exact hz | (exfalso; omega)
theorem o72 (g : Gram) (t : List Nod) (x : Int × ByteArray) (hg : smGr g) (hl : t.length ≤ 1048576) (H : GH) : Gc 72 [Gr g, Tr t, Ins x] H (fun v H' => ∃ H1, (∃ q, v = .tup [.agg [I (defO g t x), I (defE g t x).kind, I (defE g t x).n, I (defE g t x).pos, I (defE g t x).type, T (defE g t x).sym, T (defE g t x).name, .own q 7 0 (defE g t x).args.length], B (defB g t x)] ∧ H1 = [(q, 7, (defE g t x).args.map ExO)]) ∧ H' = H1 ++ H) := by
 have h0 : Gc 72 [Gr g, Tr t, Ins x] H (fun v H' => (defB g t x = true ∧ ∃ q H2, v = .tup [.agg [I (defO g t x), I (defE g t x).kind, I (defE g t x).n, I (defE g t x).pos, I (defE g t x).type, T (defE g t x).sym, T (defE g t x).name, .own q 7 0 (defE g t x).args.length], B true] ∧ H' = ((q, 7, (defE g t x).args.map ExO) :: H2) ++ H) ∨ (defB g t x = false ∧ v = .tup [.agg [I 0, I 0, I 0, I 0, I 0, T noS, T noS, .val (.slice none 0 0)], B false] ∧ ∃ H2, H' = H2 ++ H)) := by
  refine gstart mxd i72 rfl (by simp) ?_; refine X0 ?_
  refine callS.eq (w130 g t x hg) ?_
  by_cases h1 : hasN g t x.1 x.2 = true
  ·obtain ⟨hi1, hi2⟩ := hasN_ix h1
   obtain ⟨n, hin⟩ : ∃ n : Nat, ixOf (fun y : Nod => decide (y.id = x.1)) t = n := ⟨(ixOf (fun y : Nod => decide (y.id = x.1)) t).toNat, by omega⟩
   have hn : n < t.length := by omega
   by_cases h2 : (attN g t x.1 x.2).mode = 3
   ·have hB : defB g t x = false := by simp [defB, h2]
    (refine V1 (jO h1 h2) ?_; with_reducible repeat' first|exact trivial|intro h|refine aO ?_|refine eO ?_|apply jO)
    all_goals first | exact .inr ⟨hB, rfl, [], rfl⟩ | (exfalso; omega)
   (refine V1 (jO h1 h2) ?_; with_reducible repeat' first|exact trivial|intro h|refine aO ?_|refine eO ?_|apply jO)
   all_goals try exact oF
   refine callS.eq (w131 t x.1) ?_
   by_cases h3 : (attN g t x.1 x.2).mode = 1
   ·have ho : ownN g t x = (t[n].parent, t[n].place) := by simp only [ownN, if_pos h3, hin, Int.toNat_natCast]; rw [getD_lt hn]
    by_cases hr : 0 ≤ t[n].parent ∧ t[n].parent < t.length
    ·obtain ⟨m, hm⟩ : ∃ m : Nat, t[n].parent = m := ⟨(t[n].parent).toNat, by omega⟩
     have hmt : m < t.length := by omega
     have hrr : 0 ≤ (m : Int) ∧ (m : Int) < t.length := by omega
     have hgt : t.getD m nodZ = t[m] := getD_lt hmt
     (refine V1 (jO h1 (jO h2 (jO h3 hin))) ?_; with_reducible repeat' first|exact trivial|intro h|refine aO ?_|refine eO ?_|apply jO)
     all_goals try exact oF
     refine callS.eq (w128 t _) ?_
     (refine V1 (jO hm hrr) ?_; with_reducible repeat' first|exact trivial|intro h|refine aO ?_|refine eO ?_|apply jO)
     all_goals try exact oF
     refine callS.eq (w129 g _ hg) ?_
     (refine V1 hm ?_; with_reducible repeat' first|exact trivial|intro h|refine aO ?_|refine eO ?_|apply jO)
     all_goals try exact oF
     refine callS.of (o132 (fRul g.rules t[m].rule) (t[n].place, x.2) (smRu_f hg _) _) ?_
     rintro v H' ⟨q, rfl, rfl⟩ hq
     by_cases h5 : (eqnF (fRul g.rules t[m].rule) (t[n].place, x.2)).isSome = true
     ·have hB : defB g t x = true := by simp [defB, h1, h2, ho, hm, h5, hmt, hgt]
      have hE : defE g t x = eqnE (fRul g.rules t[m].rule) (t[n].place, x.2) := by simp only [defE, hB, if_true, ho, hm, Int.toNat_natCast, hgt]
      have hO : defO g t x = m := by simp only [defO, hB, if_true, ho, hm]
      rw [hE, hO]
      (refine V1 (jO h5 hm) ?_; with_reducible repeat' first|exact trivial|intro h|refine aO ?_|refine eO ?_|apply jO)
      exact .inl ⟨hB, q, [_], rfl, rfl⟩
     ·have h5' : (eqnF (fRul g.rules t[m].rule) (t[n].place, x.2)).isSome = false := by simpa using h5
      have hB : defB g t x = false := by simp only [defB, ho, hm, Int.toNat_natCast, hgt, h5', Bool.and_false]
      (refine V1 h5' ?_; with_reducible repeat' first|exact trivial|intro h|refine aO ?_|refine eO ?_|apply jO)
      exact .inr ⟨hB, rfl, [_, _], rfl⟩
    ·have hB : defB g t x = false := by simp only [defB, ho, decide_eq_false hr, Bool.and_false, Bool.false_and]
     (refine V1 (jO h1 (jO h2 (jO h3 hin))) ?_; with_reducible repeat' first|exact trivial|intro h|refine aO ?_|refine eO ?_|apply jO)
     all_goals try exact oF
     refine callS.eq (w128 t _) ?_
     (refine V1 hr ?_; with_reducible repeat' first|exact trivial|intro h|refine aO ?_|refine eO ?_|apply jO)
     exact .inr ⟨hB, rfl, [_], rfl⟩
   ·have ho : ownN g t x = ((n : Int), 0) := by simp only [ownN, if_neg h3, hin]
    by_cases hr : 0 ≤ (n : Int) ∧ (n : Int) < t.length
    ·obtain ⟨m, hm⟩ : ∃ m : Nat, (n : Int) = m := ⟨((n : Int)).toNat, by omega⟩
     have hmt : m < t.length := by omega
     have hrr : 0 ≤ (m : Int) ∧ (m : Int) < t.length := by omega
     have hgt : t.getD m nodZ = t[m] := getD_lt hmt
     (refine V1 (jO h1 (jO h2 (jO h3 hin))) ?_; with_reducible repeat' first|exact trivial|intro h|refine aO ?_|refine eO ?_|apply jO)
     all_goals try exact oF
     refine callS.eq (w128 t _) ?_
     (refine V1 (jO hm hrr) ?_; with_reducible repeat' first|exact trivial|intro h|refine aO ?_|refine eO ?_|apply jO)
     all_goals try exact oF
     refine callS.eq (w129 g _ hg) ?_
     (refine V1 hm ?_; with_reducible repeat' first|exact trivial|intro h|refine aO ?_|refine eO ?_|apply jO)
     all_goals try exact oF
     refine callS.of (o132 (fRul g.rules t[m].rule) ((0 : Int), x.2) (smRu_f hg _) _) ?_
     rintro v H' ⟨q, rfl, rfl⟩ hq
     by_cases h5 : (eqnF (fRul g.rules t[m].rule) ((0 : Int), x.2)).isSome = true
     ·have hB : defB g t x = true := by simp [defB, h1, h2, ho, hm, h5, hmt, hgt]
      have hE : defE g t x = eqnE (fRul g.rules t[m].rule) ((0 : Int), x.2) := by simp only [defE, hB, if_true, ho, hm, Int.toNat_natCast, hgt]
      have hO : defO g t x = m := by simp only [defO, hB, if_true, ho, hm]
      rw [hE, hO]
      (refine V1 (jO h5 hm) ?_; with_reducible repeat' first|exact trivial|intro h|refine aO ?_|refine eO ?_|apply jO)
      exact .inl ⟨hB, q, [_], rfl, rfl⟩
     ·have h5' : (eqnF (fRul g.rules t[m].rule) ((0 : Int), x.2)).isSome = false := by simpa using h5
      have hB : defB g t x = false := by simp only [defB, ho, hm, Int.toNat_natCast, hgt, h5', Bool.and_false]
      (refine V1 h5' ?_; with_reducible repeat' first|exact trivial|intro h|refine aO ?_|refine eO ?_|apply jO)
      exact .inr ⟨hB, rfl, [_, _], rfl⟩
    ·exfalso; omega
  ·have h1' : hasN g t x.1 x.2 = false := by simpa using h1
   have hB : defB g t x = false := by simp [defB, h1']
   (refine V1 h1' ?_; with_reducible repeat' first|exact trivial|intro h|refine aO ?_|refine eO ?_|apply jO)
   all_goals first | exact .inr ⟨hB, rfl, [], rfl⟩ | (exfalso; omega)
 refine h0.fr ?_
 rintro v H' (⟨hB, q, H2, rfl, rfl⟩ | ⟨hB, rfl, H2, rfl⟩)
 ·rw [hB]
  exact ⟨_, _, FR.perm (H := (q, 7, (defE g t x).args.map ExO) :: H2) (L := [(q, 7, (defE g t x).args.map ExO)]) (by simp [subH, hget, names]), _, ⟨q, rfl, rfl⟩, rfl⟩
 ·have hE : defE g t x = expZ := by simp [defE, hB]
  have hO : defO g t x = 0 := by simp [defO, hB]
  rw [hB, hE, hO]
  refine ⟨_, _, FR.trans (FR.perm (H := H2) (L := []) trivial) (FR.trans (FR.addv (r := vname ([] ++ H)) (sz := 7) (vname_odd _) (vname_new _)) (FR.sub (.tup (.cons (.agg (nilL_bor (l := [_, _, _, _, _, _, _]) (r := vname ([] ++ H)) (sz := 7))) (.cons .refl .nil))))), _, ⟨vname ([] ++ H), rfl, rfl⟩, rfl⟩
theorem w49 (g : Gram) (t : List Nod) (hg : smGr g) (hl : t.length ≤ 1048576) (hk : ∀ x ∈ t, x.kids.length ≤ 1048576) : ∀ (f i : Nat) (p q : Int) (s : ByteArray), t.length ≤ i + f → Pu 49 [Gr g, Tr t, I i, I p, I q, T s] (· = I (walkE g t f i p q s)) := by
 intro f
 induction f with
 | zero =>
  intro i p q s hf
  refine gstart mxd i49 rfl (by simp) ?_; refine X0 ?_
  (refine R0 ?_; with_reducible repeat' first|exact trivial|intro h|refine aO ?_|refine eO ?_|apply jO)
  all_goals first | rfl | (exfalso; omega)
 | succ f ih =>
  intro i p q s hf
  refine gstart mxd i49 rfl (by simp) ?_; refine X0 ?_
  by_cases hi : i < t.length
  rotate_left
  ·rw [walkE_out (by omega)]
   (refine R0 ?_; with_reducible repeat' first|exact trivial|intro h|refine aO ?_|refine eO ?_|apply jO)
   all_goals first | rfl | (exfalso; omega)
  have hw : walkE g t (f + 1) i p q s = if fitV g t[i] p q s then kidsW (walkE g t f) i t[i].kids (fRul g.rules t[i].rule).right 0 (i + 1) else -1 := by simp only [walkE, if_pos hi, getD_lt hi]
  have hkk := hk _ (gM hi)
  have hr := smRu_f hg t[i].rule
  have hrr := hr.1
  rw [hw]
  by_cases hv : fitV g t[i] p q s = true
  ·rw [if_pos hv]
   obtain ⟨h1, h2, h3, h4, h5, h6, h7⟩ := fitV_iff.1 hv
   subst h2 h3 h4
   clear hw hv
   have hR : ∃ R, fRul g.rules t[i].rule = R := ⟨_, rfl⟩
   obtain ⟨R, hR⟩ := hR
   rw [hR] at hr hrr h5 h7 ⊢
   have main : ∀ (Q : Exit → Env → GH → Prop), True := fun _ => trivial
   rcases h7 with h7 | h7
   ·(with_reducible repeat' first|refine callS.eq (w51 _ _ hg) ?_|refine callS.eq (w96 _ _) ?_|exact trivial|refine aO ?_|refine eO ?_|apply jO|refine K1 (jO h1 (jO h5 (jO okV1 (jO (eq_true h6) (jO h7 hR))))) ?_|intro h)
    all_goals try exact oF
    have hVV : ∃ V, kidsW (walkE g t f) i t[i].kids R.right 0 (i + 1) = V := ⟨_, rfl⟩
    obtain ⟨V, hVV⟩ := hVV
    rw [hVV]
    refine wloop mxd (ι := { x : Nat × Int // x.1 ≤ R.right.length ∧ (i : Int) < x.2 ∧ x.2 ≤ t.length ∧ kidsW (walkE g t f) i (t[i].kids.drop x.1) (R.right.drop x.1) x.1 x.2 = V }) (fun x => [(2, I i), (6, .rop 2 (Gr g)), (7, .rop 1 (Tr t)), (13, .rop 6 (Nd t[i])), (14, .rop 6 (Ru R)), (16, I x.1.2), (17, I x.1.1)]) (fun _ => []) (fun x => R.right.length - x.1.1) ⟨(0, i + 1), by simp, by simp; omega, by simp; omega, by simpa using hVV⟩ (by simp [E2, h7]) rfl ?_
    rintro ⟨⟨k, a⟩, hk1, ha1, ha2, hV⟩
    dsimp only at hk1 ha1 ha2 hV ⊢
    rcases nL k R.right.length with hlt | hge
    ·rw [kidsW_step (by omega) hlt] at hV
     by_cases hc : t[i].kids[k] = a
     ·rw [if_neg (by simpa using hc)] at hV
      obtain ⟨m, rfl⟩ : ∃ m : Nat, a = m := ⟨a.toNat, by omega⟩
      have hm := walkE_ge (g := g) (t := t) f m i ((k : Int) + 1) R.right[k]
      simp only [Int.toNat_natCast] at hV
      (with_reducible repeat' first|refine callS.eq (ih m _ _ _ (by omega)) ?_|exact trivial|refine aO ?_|refine eO ?_|apply jO|refine K1 (jO h5 hc) ?_|intro h)
      all_goals try exact oF
      ·rw [if_pos (by assumption)] at hV; rw [← hV]
      ·rw [if_neg (by assumption)] at hV
       exact nx ⟨(k + 1, walkE g t f m i ((k : Int) + 1) R.right[k]), by omega, by dsimp only; omega, by dsimp only; omega, hV⟩ (by simp; omega) (by simp [E2]) rfl
     ·rw [if_pos (by simpa using hc)] at hV
      (with_reducible repeat' first|refine callS.eq (ih _ _ _ _ (by omega)) ?_|exact trivial|refine aO ?_|refine eO ?_|apply jO|refine K1 (jO h5 hc) ?_|intro h)
      all_goals first | (rw [← hV]; done) | (exfalso; omega)
    ·rw [kidsW_end (by omega)] at hV
     (refine R0 ?_; with_reducible repeat' first|exact trivial|intro h|refine aO ?_|refine eO ?_|apply jO)
     all_goals first | (rw [← hV]; done) | (exfalso; omega)
   ·(with_reducible repeat' first|refine callS.eq (w51 _ _ hg) ?_|refine callS.eq (w96 _ _) ?_|exact trivial|refine aO ?_|refine eO ?_|apply jO|refine K1 (jO h1 (jO h5 (jO okV1 (jO (eq_true h6) (jO h7.1 (jO (eq_true h7.2) hR)))))) ?_|intro h)
    all_goals try exact oF
    have hVV : ∃ V, kidsW (walkE g t f) i t[i].kids R.right 0 (i + 1) = V := ⟨_, rfl⟩
    obtain ⟨V, hVV⟩ := hVV
    rw [hVV]
    refine wloop mxd (ι := { x : Nat × Int // x.1 ≤ R.right.length ∧ (i : Int) < x.2 ∧ x.2 ≤ t.length ∧ kidsW (walkE g t f) i (t[i].kids.drop x.1) (R.right.drop x.1) x.1 x.2 = V }) (fun x => [(2, I i), (6, .rop 2 (Gr g)), (7, .rop 1 (Tr t)), (13, .rop 6 (Nd t[i])), (14, .rop 6 (Ru R)), (16, I x.1.2), (17, I x.1.1)]) (fun _ => []) (fun x => R.right.length - x.1.1) ⟨(0, i + 1), by simp, by simp; omega, by simp; omega, by simpa using hVV⟩ (by simp [E2, h7]) rfl ?_
    rintro ⟨⟨k, a⟩, hk1, ha1, ha2, hV⟩
    dsimp only at hk1 ha1 ha2 hV ⊢
    rcases nL k R.right.length with hlt | hge
    ·rw [kidsW_step (by omega) hlt] at hV
     by_cases hc : t[i].kids[k] = a
     ·rw [if_neg (by simpa using hc)] at hV
      obtain ⟨m, rfl⟩ : ∃ m : Nat, a = m := ⟨a.toNat, by omega⟩
      have hm := walkE_ge (g := g) (t := t) f m i ((k : Int) + 1) R.right[k]
      simp only [Int.toNat_natCast] at hV
      (with_reducible repeat' first|refine callS.eq (ih m _ _ _ (by omega)) ?_|exact trivial|refine aO ?_|refine eO ?_|apply jO|refine K1 (jO h5 hc) ?_|intro h)
      all_goals try exact oF
      ·rw [if_pos (by assumption)] at hV; rw [← hV]
      ·rw [if_neg (by assumption)] at hV
       exact nx ⟨(k + 1, walkE g t f m i ((k : Int) + 1) R.right[k]), by omega, by dsimp only; omega, by dsimp only; omega, hV⟩ (by simp; omega) (by simp [E2]) rfl
     ·rw [if_pos (by simpa using hc)] at hV
      (with_reducible repeat' first|refine callS.eq (ih _ _ _ _ (by omega)) ?_|exact trivial|refine aO ?_|refine eO ?_|apply jO|refine K1 (jO h5 hc) ?_|intro h)
      all_goals first | (rw [← hV]; done) | (exfalso; omega)
    ·rw [kidsW_end (by omega)] at hV
     (refine R0 ?_; with_reducible repeat' first|exact trivial|intro h|refine aO ?_|refine eO ?_|apply jO)
     all_goals first | (rw [← hV]; done) | (exfalso; omega)
  ·rw [if_neg hv]
   rw [fitV_iff] at hv
   (with_reducible repeat' first|refine callS.eq (w51 _ _ hg) ?_|refine callS.eq (w96 _ _) ?_|exact trivial|refine aO ?_|refine eO ?_|apply jO|refine K0 ?_|intro h)
   all_goals try rfl
   all_goals (exfalso; apply hv; simp_all only [okV1, decide_eq_true_eq, decide_eq_false_iff_not, true_and, and_true, or_true, true_or, not_true_eq_false, not_false_eq_true]; done)
theorem w127 (g : Gram) (t : List Nod) (hg : smGr g) (hl : t.length ≤ 1048576) (hk : ∀ x ∈ t, x.kids.length ≤ 1048576) : ∀ (f i : Nat) (p q : Int) (s : ByteArray), t.length ≤ i + f → Pu 127 [Gr g, Tr t, I i, I p, I q, T s] (· = I (walkE g t f i p q s)) := by
 intro f
 induction f with
 | zero =>
  intro i p q s hf
  refine gstart mxd i127 rfl (by simp) ?_; refine X0 ?_
  (refine R0 ?_; with_reducible repeat' first|exact trivial|intro h|refine aO ?_|refine eO ?_|apply jO)
  all_goals first | rfl | (exfalso; omega)
 | succ f ih =>
  intro i p q s hf
  refine gstart mxd i127 rfl (by simp) ?_; refine X0 ?_
  by_cases hi : i < t.length
  rotate_left
  ·rw [walkE_out (by omega)]
   (refine R0 ?_; with_reducible repeat' first|exact trivial|intro h|refine aO ?_|refine eO ?_|apply jO)
   all_goals first | rfl | (exfalso; omega)
  have hw : walkE g t (f + 1) i p q s = if fitV g t[i] p q s then kidsW (walkE g t f) i t[i].kids (fRul g.rules t[i].rule).right 0 (i + 1) else -1 := by simp only [walkE, if_pos hi, getD_lt hi]
  have hkk := hk _ (gM hi)
  have hr := smRu_f hg t[i].rule
  have hrr := hr.1
  rw [hw]
  by_cases hv : fitV g t[i] p q s = true
  ·rw [if_pos hv]
   obtain ⟨h1, h2, h3, h4, h5, h6, h7⟩ := fitV_iff.1 hv
   subst h2 h3 h4
   clear hw hv
   have hR : ∃ R, fRul g.rules t[i].rule = R := ⟨_, rfl⟩
   obtain ⟨R, hR⟩ := hR
   rw [hR] at hr hrr h5 h7 ⊢
   have main : ∀ (Q : Exit → Env → GH → Prop), True := fun _ => trivial
   rcases h7 with h7 | h7
   ·(with_reducible repeat' first|refine callS.eq (w129 _ _ hg) ?_|refine callS.eq (w111 _ _ _) ?_|exact trivial|refine aO ?_|refine eO ?_|apply jO|refine K1 (jO h1 (jO h5 (jO (eq_true h6) (jO h7 hR)))) ?_|intro h)
    all_goals try exact oF
    have hVV : ∃ V, kidsW (walkE g t f) i t[i].kids R.right 0 (i + 1) = V := ⟨_, rfl⟩
    obtain ⟨V, hVV⟩ := hVV
    rw [hVV]
    refine wloop mxd (ι := { x : Nat × Int // x.1 ≤ R.right.length ∧ (i : Int) < x.2 ∧ x.2 ≤ t.length ∧ kidsW (walkE g t f) i (t[i].kids.drop x.1) (R.right.drop x.1) x.1 x.2 = V }) (fun x => [(2, I i), (6, .rop 2 (Gr g)), (7, .rop 1 (Tr t)), (14, .rop 6 (Ru R)), (16, I x.1.2), (84, IS t[i].kids), (85, I R.right.length), (86, I x.1.1)]) (fun _ => []) (fun x => R.right.length - x.1.1) ⟨(0, i + 1), by simp, by simp; omega, by simp; omega, by simpa using hVV⟩ (by simp [E2, h7]) rfl ?_
    rintro ⟨⟨k, a⟩, hk1, ha1, ha2, hV⟩
    dsimp only at hk1 ha1 ha2 hV ⊢
    rcases nL k R.right.length with hlt | hge
    ·rw [kidsW_step (by omega) hlt] at hV
     by_cases hc : t[i].kids[k] = a
     ·rw [if_neg (by simpa using hc)] at hV
      obtain ⟨m, rfl⟩ : ∃ m : Nat, a = m := ⟨a.toNat, by omega⟩
      have hm := walkE_ge (g := g) (t := t) f m i ((k : Int) + 1) R.right[k]
      simp only [Int.toNat_natCast] at hV
      (with_reducible repeat' first|refine callS.eq (ih m _ _ _ (by omega)) ?_|exact trivial|refine aO ?_|refine eO ?_|apply jO|refine K1 (jO h5 hc) ?_|intro h)
      all_goals try exact oF
      ·rw [if_pos (by assumption)] at hV; rw [← hV]
      ·rw [if_neg (by assumption)] at hV
       exact nx ⟨(k + 1, walkE g t f m i ((k : Int) + 1) R.right[k]), by omega, by dsimp only; omega, by dsimp only; omega, hV⟩ (by simp; omega) (by simp [E2]) rfl
     ·rw [if_pos (by simpa using hc)] at hV
      (with_reducible repeat' first|refine callS.eq (ih _ _ _ _ (by omega)) ?_|exact trivial|refine aO ?_|refine eO ?_|apply jO|refine K1 (jO h5 hc) ?_|intro h)
      all_goals first | (rw [← hV]; done) | (exfalso; omega)
    ·rw [kidsW_end (by omega)] at hV
     (refine R0 ?_; with_reducible repeat' first|exact trivial|intro h|refine aO ?_|refine eO ?_|apply jO)
     all_goals first | (rw [← hV]; done) | (exfalso; omega)
   ·(with_reducible repeat' first|refine callS.eq (w129 _ _ hg) ?_|refine callS.eq (w111 _ _ _) ?_|exact trivial|refine aO ?_|refine eO ?_|apply jO|refine K1 (jO h1 (jO h5 (jO (eq_true h6) (jO h7.1 (jO (eq_true h7.2) hR))))) ?_|intro h)
    all_goals try exact oF
    have hVV : ∃ V, kidsW (walkE g t f) i t[i].kids R.right 0 (i + 1) = V := ⟨_, rfl⟩
    obtain ⟨V, hVV⟩ := hVV
    rw [hVV]
    refine wloop mxd (ι := { x : Nat × Int // x.1 ≤ R.right.length ∧ (i : Int) < x.2 ∧ x.2 ≤ t.length ∧ kidsW (walkE g t f) i (t[i].kids.drop x.1) (R.right.drop x.1) x.1 x.2 = V }) (fun x => [(2, I i), (6, .rop 2 (Gr g)), (7, .rop 1 (Tr t)), (14, .rop 6 (Ru R)), (16, I x.1.2), (84, IS t[i].kids), (85, I R.right.length), (86, I x.1.1)]) (fun _ => []) (fun x => R.right.length - x.1.1) ⟨(0, i + 1), by simp, by simp; omega, by simp; omega, by simpa using hVV⟩ (by simp [E2, h7]) rfl ?_
    rintro ⟨⟨k, a⟩, hk1, ha1, ha2, hV⟩
    dsimp only at hk1 ha1 ha2 hV ⊢
    rcases nL k R.right.length with hlt | hge
    ·rw [kidsW_step (by omega) hlt] at hV
     by_cases hc : t[i].kids[k] = a
     ·rw [if_neg (by simpa using hc)] at hV
      obtain ⟨m, rfl⟩ : ∃ m : Nat, a = m := ⟨a.toNat, by omega⟩
      have hm := walkE_ge (g := g) (t := t) f m i ((k : Int) + 1) R.right[k]
      simp only [Int.toNat_natCast] at hV
      (with_reducible repeat' first|refine callS.eq (ih m _ _ _ (by omega)) ?_|exact trivial|refine aO ?_|refine eO ?_|apply jO|refine K1 (jO h5 hc) ?_|intro h)
      all_goals try exact oF
      ·rw [if_pos (by assumption)] at hV; rw [← hV]
      ·rw [if_neg (by assumption)] at hV
       exact nx ⟨(k + 1, walkE g t f m i ((k : Int) + 1) R.right[k]), by omega, by dsimp only; omega, by dsimp only; omega, hV⟩ (by simp; omega) (by simp [E2]) rfl
     ·rw [if_pos (by simpa using hc)] at hV
      (with_reducible repeat' first|refine callS.eq (ih _ _ _ _ (by omega)) ?_|exact trivial|refine aO ?_|refine eO ?_|apply jO|refine K1 (jO h5 hc) ?_|intro h)
      all_goals first | (rw [← hV]; done) | (exfalso; omega)
    ·rw [kidsW_end (by omega)] at hV
     (refine R0 ?_; with_reducible repeat' first|exact trivial|intro h|refine aO ?_|refine eO ?_|apply jO)
     all_goals first | (rw [← hV]; done) | (exfalso; omega)
  ·rw [if_neg hv]
   rw [fitV_iff] at hv
   (with_reducible repeat' first|refine callS.eq (w129 _ _ hg) ?_|refine callS.eq (w111 _ _ _) ?_|exact trivial|refine aO ?_|refine eO ?_|apply jO|refine K0 ?_|intro h)
   all_goals try rfl
   all_goals (exfalso; apply hv; simp_all only [okV1, decide_eq_true_eq, decide_eq_false_iff_not, true_and, and_true, or_true, true_or, not_true_eq_false, not_false_eq_true]; done)
theorem w95 (l : List Int) (x : Int) : Pu 95 [IS l, I x] (· = B (hasI l x)) := by
 refine GCalls.lenA fun hl => ?_
 have hlen := hl.1.1
 simp only [List.length_map, maxL] at hlen
 refine gstart mxd i95 rfl (by simp) ?_; refine X0 ?_
 refine wloop mxd (ι := { i : Nat // i ≤ l.length ∧ ∀ y ∈ l.take i, decide (y = x) = false }) (fun i => [(0, IS l), (1, I x), (5, I i.1)]) (fun _ => []) (fun i => l.length - i.1) ⟨0, by simp⟩ (by simp [E2]) rfl ?_
 rintro ⟨i, hi, hn⟩
 (refine R0 ?_; with_reducible repeat' first|exact trivial|intro h|refine aO ?_|refine eO ?_|apply jO)
 ·rw [hasI_hit (by assumption) h]
 ·exact nx ⟨i + 1, by omega, take_step (by assumption) (by simpa using h) hn⟩ (by simp; omega) (by simp [E2]) rfl
 ·have : i = l.length := by omega
  subst this
  rw [tL (Nat.le_refl _)] at hn
  rw [hasI_none hn]
theorem w48 (t : List Nod) (hl : t.length ≤ 1048576) : Pu 48 [Tr t] (· = B (idsV t && decide (1 ≤ t.length ∧ t.length ≤ 16))) := by
 refine Pure.bor ?_
 refine gstart mxd i48 rfl (by simp) ?_; refine X0 ?_
 (refine R0 ?_; with_reducible repeat' first|exact trivial|intro h|refine aO ?_|refine eO ?_|apply jO)
 rename_i r
 refine ploop mxd (ι := { x : Nat × Nat // x.2 ≤ t.length ∧ ∀ j, j < x.2 → gid t j = true }) (fun x => [(1, .rop 1 (Tr t)), (3, .own x.1.1 1 0 x.1.2), (4, I x.1.2)]) (fun x => [(x.1.1, 1, ((t.take x.1.2).map (·.id)).map I)]) (fun x => t.length - x.1.2) ⟨(r, 0), by simp⟩ (by simp [E2]) (by simp [subH, hget, names]) ?_
 rintro ⟨⟨r, i⟩, hi, hn⟩ -
 dsimp only at hi hn ⊢
 rcases nL i t.length with hlt | hge
 ·(with_reducible repeat' first|refine callS.eq (w50 _ _ _) ?_|exact trivial|refine aO ?_|refine eO ?_|apply jO|refine K0 ?_|intro h)
  all_goals try exact oF
  ·refine callS.borA (w95 ((t.take i).map (·.id)) t[i].id) (.cons (bor_IS hget_new (by simp; omega)) (.cons .refl .nil)) rfl ?_
   (refine R0 ?_; with_reducible repeat' first|exact trivial|intro h|refine aO ?_|refine eO ?_|apply jO)
   ·rw [hasI_map] at h
    rw [idsV_bad hlt (gid_f2 hlt h)]
    exact .refl
   ·rename_i q2
    have h2 := neH_of h
    (replace h2 := h2; simp only [VN] at h2)
    (refine R1 (jO @hget_c (jO @hset_c (jO @hdel_c (jO h2 @t_ldf)))) ?_; with_reducible repeat' first|exact trivial|intro h|refine aO ?_|refine eO ?_|apply jO)
    ·simp; omega
    rename_i hh _ _ _ q3
    have h3 := neH_of h
    (replace h3 := h3; simp only [VN] at h3)
    rw [takeApp2 I (·.id) t i hlt]
    refine px ⟨(q3, i + 1), by omega, fun j hj => ?_⟩ (by simp; omega) (by simp [E2]) (by simp [subH, hget, names, h3])
    rcases nL j i with hji | hji
    ·exact hn j hji
    ·have : j = i := by omega
     subst this
     exact gid_t hlt (by assumption) (by rw [← hasI_map]; assumption)
  ·rw [idsV_bad hlt (gid_f1 hlt (by assumption))]
   exact .refl
 ·have : i = t.length := by omega
  subst this
  (with_reducible repeat' first|refine callS.eq (w50 _ _ _) ?_|exact trivial|refine aO ?_|refine eO ?_|apply jO|refine K0 ?_|intro h)
  have e : B (decide (1 ≤ (t.length : Int) ∧ (t.length : Int) ≤ 16)) = B (idsV t && decide (1 ≤ t.length ∧ t.length ≤ 16)) := by rw [idsV_ok hn, Bool.true_and]; exact bEq (by omega)
  rw [← e]
  exact .refl
theorem w126 (x y : Nod) : Pu 126 [Nd x, .rop 6 (Nd y)] (· = B (decide (x.id = y.id))) := by
 refine gstart mxd i126 rfl (by simp) ?_; refine X0 ?_
 try (refine R0 ?_; with_reducible repeat' first|exact trivial|intro h|refine aO ?_|refine eO ?_|apply jO)
theorem w125 (t : List Nod) (f : Nat) (cs : List GV) (p : Nod → Bool) (hp : ∀ x ∈ t, Pu f (Nd x :: cs) (· = B (p x))) :
  Pu 125 [NdS t, .clo f cs] (· = B (t.any p)) := by
 refine gstart mxd i125 rfl (by simp) ?_; refine X0 ?_
 refine callS.eq (w174 t f cs p hp) ?_
 (refine R0 ?_; with_reducible repeat' first|exact trivial|intro h|refine aO ?_|refine eO ?_|apply jO)
 rw [← any_ix]
theorem w69 (g : Gram) (t : List Nod) (s : ByteArray) (hg : smGr g) (hl : t.length ≤ 1048576) (hk : ∀ x ∈ t, x.kids.length ≤ 1048576) : Pu 69 [Gr g, Tr t, T s] (· = B (treeOf g t s)) := by
 refine gstart mxd i69 rfl (by simp) ?_; refine X0 ?_
 refine callS.eq (w111 _ _ _) ?_
 (refine R0 ?_; with_reducible repeat' first|exact trivial|intro h|refine aO ?_|refine eO ?_|apply jO)
 rotate_left
 ·simp only [treeOf]; rw [decide_eq_false (by omega)]; rfl
 refine wloop mxd (ι := { i : Nat // i ≤ t.length ∧ ∀ j, j < i → gid t j = true }) (fun i => [(2, T s), (3, .rop 2 (Gr g)), (4, .rop 1 (Tr t)), (15, NdS t), (16, I t.length), (17, I i.1)]) (fun _ => []) (fun i => t.length - i.1) ⟨0, by simp⟩ (by simp [E2]) rfl ?_
 rintro ⟨i, hi, hn⟩
 rcases nL i t.length with hlt | hge
 ·(with_reducible repeat' first|refine callS.eq (w111 _ _ _) ?_|exact trivial|refine aO ?_|refine eO ?_|apply jO|refine K0 ?_|intro h)
  all_goals try exact oF
  ·rw [show List.drop (Int.toNat 0) (List.take i (List.map Nd t)) = (t.take i).map Nd from by simp [List.map_take]]
   refine callS.eq (w125 (t.take i) _ _ (fun y => decide (y.id = t[i].id)) fun x _ => w126 x t[i]) ?_
   (refine R0 ?_; with_reducible repeat' first|exact trivial|intro h|refine aO ?_|refine eO ?_|apply jO)
   ·rw [treeOf_bad (idsV_bad hlt (gid_f2 hlt h))]
   ·refine nx ⟨i + 1, by omega, fun j hj => ?_⟩ (by simp; omega) (by simp [E2]) rfl
    rcases nL j i with hji | hji
    ·exact hn j hji
    ·have : j = i := by omega
     subst this
     exact gid_t hlt (by assumption) h
  ·rw [treeOf_bad (idsV_bad hlt (gid_f1 hlt (by assumption)))]
 ·have : i = t.length := by omega
  subst this
  have hw := w127 g t hg hl hk t.length 0 (-1) 0 s (by omega)
  simp only [Int.natCast_zero] at hw
  (with_reducible repeat' first|refine callS.eq (hw) ?_|exact trivial|refine aO ?_|refine eO ?_|apply jO|refine K0 ?_|intro h)
  simp only [treeOf, idsV_ok hn, Bool.true_and]
  rw [decide_eq_true (show 1 ≤ t.length ∧ t.length ≤ 16 by omega), Bool.true_and]
theorem w23 (g : Gram) (t : List Nod) (s : ByteArray) (hg : smGr g) (hl : t.length ≤ 1048576) (hk : ∀ x ∈ t, x.kids.length ≤ 1048576) : Pu 23 [Gr g, Tr t, T s] (· = B (treeOf g t s)) := by
 have hw := w49 g t hg hl hk t.length 0 (-1) 0 s (by omega)
 simp only [Int.natCast_zero] at hw
 refine gstart mxd i23 rfl (by simp) ?_; refine X0 ?_
 (with_reducible repeat' first|refine callS.eq (w48 t hl) ?_|refine callS.eq (hw) ?_|exact trivial|refine aO ?_|refine eO ?_|apply jO|refine K0 ?_|intro h)
 all_goals first | (simp_all [treeOf]; done) | (simp_all [treeOf]; intros; omega)
theorem w31 (g : Gram) (t : List Nod) (hg : smGr g) (hl : t.length ≤ 1048576) (hk : ∀ x ∈ t, x.kids.length ≤ 1048576) : Pu 31 [Gr g, Tr t] (· = B (treeOf g t (symN g t 0))) := by
 refine gstart mxd i31 rfl (by simp) ?_; refine X0 ?_
 (with_reducible repeat' first|refine callS.eq (w70 g t 0 hg) ?_|refine callS.eq (w69 g t _ hg hl hk) ?_|exact trivial|refine aO ?_|refine eO ?_|apply jO|refine K1 @maxLv ?_|intro h)
theorem o20 (g : Gram) (t : List Nod) (hg : smGr g) (hl : t.length ≤ 1048576) (hk : ∀ x ∈ t, x.kids.length ≤ 1048576) (H : GH) : Gc 20 [Gr g, Tr t] H (fun v H' => ∃ H1, (∃ r, v = .own r 2 0 (insL g t).length ∧ H1 = [(r, 2, (insL g t).map Ins)]) ∧ H' = H1 ++ H) := by
 refine gstart mxd i20 rfl (by simp) ?_; refine X0 ?_
 (refine V0 ?_; with_reducible repeat' first|exact trivial|intro h|refine aO ?_|refine eO ?_|apply jO)
 rename_i r0
 refine callS.eq (w24 g t 0 hg) ?_
 (refine V0 ?_; with_reducible repeat' first|exact trivial|intro h|refine aO ?_|refine eO ?_|apply jO)
 refine callS.eq (w23 g t _ hg hl hk) ?_
 have hil := insL_len hg t
 by_cases ht : treeOf g t (symN g t 0) = true
 ·have htl := treeOf_len ht
  have hia := insA_len hg t
  rw [insL, if_pos ht] at hil ⊢
  (refine V1 ht ?_; with_reducible repeat' first|exact trivial|intro h|refine aO ?_|refine eO ?_|apply jO)
  refine wloopN mxd (ι := { y : Nat × Nat // y.2 ≤ t.length }) (fun y => [(2, .rop 2 (Gr g)), (3, .rop 1 (Tr t)), (5, .own y.1.1 2 0 (insA g t y.1.2).length), (6, I y.1.2)]) (fun y => (y.1.1, 2, (insA g t y.1.2).map Ins) :: H) (fun y => t.length - y.1.2) ⟨(r0, 0), by simp⟩ (by simp [E2, insA]) (by simp [insA]) ?_
  rintro ⟨⟨q, i⟩, hi⟩ hn
  dsimp only at hi hn ⊢
  replace hn := neH_of hn
  (replace hn := hn; simp only [VN] at hn)
  rcases nL i t.length with hlt | hge
  ·(refine V1 hn ?_; with_reducible repeat' first|exact trivial|intro h|refine aO ?_|refine eO ?_|apply jO)
   all_goals try exact oF
   refine callS.eq (w24 g t i hg) ?_
   (refine V1 hn ?_; with_reducible repeat' first|exact trivial|intro h|refine aO ?_|refine eO ?_|apply jO)
   refine callS.eq (w43 g _ hg) ?_
   (refine V1 hn ?_; with_reducible repeat' first|exact trivial|intro h|refine aO ?_|refine eO ?_|apply jO)
   have hsl : (fSym g.syms (symN g t i)).atts.length ≤ 1048576 := smSy_f hg _
   have hik : insK g t i = (fSym g.syms (symN g t i)).atts.map fun a => (t[i].id, a.name) := by simp only [insK]; rw [getD_lt hlt]
   have hai := hia i
   generalize fSym g.syms (symN g t i) = s at *
   refine wloopN mxd (ι := { y : Nat × Nat // y.2 ≤ s.atts.length }) (fun y => [(2, .rop 2 (Gr g)), (3, .rop 1 (Tr t)), (5, .own y.1.1 2 0 ((insA g t i).length + y.1.2)), (6, I i), (7, .rop 2 (Sy s)), (9, I y.1.2)]) (fun y => (y.1.1, 2, (insA g t i ++ (insK g t i).take y.1.2).map Ins) :: H) (fun y => s.atts.length - y.1.2) ⟨(q, 0), by simp⟩ (by simp [E2]) (by simp) ?_
   rintro ⟨⟨q2, k⟩, hk2⟩ hn2
   dsimp only at hk2 hn2 ⊢
   replace hn2 := neH_of hn2
   (replace hn2 := hn2; simp only [VN] at hn2)
   have hkl : (insK g t i).length = s.atts.length := by rw [hik]; simp
   rcases nL k s.atts.length with hlt2 | hge2
   ·(refine V1 (jO hn2 (jO @List.length_append.{0} (jO @List.length_singleton.{0} (jO @List.length_map.{0,0} (jO @List.length_take.{0} @maxLv))))) ?_; with_reducible repeat' first|exact trivial|intro h|refine aO ?_|refine eO ?_|apply jO)
    all_goals try exact oF
    rename_i r3 _ r4
    refine nxF ⟨(r4, k + 1), by omega⟩ (by simp; omega) (FE.perm (H := [_, _]) (L := [(r4, _)]) (by repeat' (first | exact trivial | (refine And.intro (by simp only [hget_c, *, if_true, if_false]; try rfl) (And.intro (by simp [names_cons, names_nil, *]) ?_))))) (by simp [E2]; omega) ?_
    have hk3 : k < (insK g t i).length := by omega
    have hx : (insK g t i)[k] = (t[i].id, s.atts[k].name) := by simp only [hik, List.getElem_map]
    have e := takeApp3 Ins (insA g t i) (insK g t i) k hk3 ((insA g t i).length + k) (by simp; omega)
    rw [hx] at e
    rw [← hik]
    exact congrArg (fun l => (r4, 2, l) :: H) e
   ·obtain rfl : k = s.atts.length := by omega
    (refine V1 (jO hn2 @maxLv) ?_; with_reducible repeat' first|exact trivial|intro h|refine aO ?_|refine eO ?_|apply jO)
    all_goals try exact oF
    have ha : insA g t (i + 1) = insA g t i ++ insK g t i := rfl
    refine nx ⟨(q2, i + 1), by omega⟩ (by simp; omega) (by simp [E2, ha, hkl]) ?_
    rw [ha, tL (by omega)]
  ·obtain rfl : i = t.length := by omega
   (refine V1 hn ?_; with_reducible repeat' first|exact trivial|intro h|refine aO ?_|refine eO ?_|apply jO)
   all_goals try exact oF
   exact ⟨_, ⟨q, rfl, rfl⟩, rfl⟩
 ·rw [insL, if_neg ht]
  have ht' : treeOf g t (symN g t 0) = false := by simpa using ht
  (refine V1 ht' ?_; with_reducible repeat' first|exact trivial|intro h|refine aO ?_|refine eO ?_|apply jO)
  exact ⟨_, ⟨r0, rfl, rfl⟩, rfl⟩
theorem o32 (g : Gram) (t : List Nod) (hg : smGr g) (hl : t.length ≤ 1048576) (hk : ∀ x ∈ t, x.kids.length ≤ 1048576) (H : GH) : Gc 32 [Gr g, Tr t] H (fun v H' => ∃ H1, (∃ r, v = .own r 2 0 (insL g t).length ∧ H1 = [(r, 2, (insL g t).map Ins)]) ∧ H' = H1 ++ H) := by
 refine gstart mxd i32 rfl (by simp) ?_; refine X0 ?_
 (refine V0 ?_; with_reducible repeat' first|exact trivial|intro h|refine aO ?_|refine eO ?_|apply jO)
 rename_i r0
 refine callS.eq (w31 g t hg hl hk) ?_
 have hil := insL_len hg t
 by_cases ht : treeOf g t (symN g t 0) = true
 ·have htl := treeOf_len ht
  have hia := insA_len hg t
  rw [insL, if_pos ht] at hil ⊢
  (refine V1 ht ?_; with_reducible repeat' first|exact trivial|intro h|refine aO ?_|refine eO ?_|apply jO)
  refine wloopN mxd (ι := { y : Nat × Nat // y.2 ≤ t.length }) (fun y => [(2, .rop 2 (Gr g)), (3, .rop 1 (Tr t)), (5, .own y.1.1 2 0 (insA g t y.1.2).length), (19, NdS t), (20, I t.length), (21, I y.1.2)]) (fun y => (y.1.1, 2, (insA g t y.1.2).map Ins) :: H) (fun y => t.length - y.1.2) ⟨(r0, 0), by simp⟩ (by simp [E2, insA]) (by simp [insA]) ?_
  rintro ⟨⟨q, i⟩, hi⟩ hn
  dsimp only at hi hn ⊢
  replace hn := neH_of hn
  (replace hn := hn; simp only [VN] at hn)
  rcases nL i t.length with hlt | hge
  ·(refine V1 hn ?_; with_reducible repeat' first|exact trivial|intro h|refine aO ?_|refine eO ?_|apply jO)
   all_goals try exact oF
   refine callS.eq (w70 g t i hg) ?_
   (refine V1 hn ?_; with_reducible repeat' first|exact trivial|intro h|refine aO ?_|refine eO ?_|apply jO)
   refine callS.eq (w71 g _ hg) ?_
   (refine V1 hn ?_; with_reducible repeat' first|exact trivial|intro h|refine aO ?_|refine eO ?_|apply jO)
   have hsl : (fSym g.syms (symN g t i)).atts.length ≤ 1048576 := smSy_f hg _
   have hik : insK g t i = (fSym g.syms (symN g t i)).atts.map fun a => (t[i].id, a.name) := by simp only [insK]; rw [getD_lt hlt]
   have hai := hia i
   generalize fSym g.syms (symN g t i) = s at *
   refine wloopN mxd (ι := { y : Nat × Nat // y.2 ≤ s.atts.length }) (fun y => [(2, .rop 2 (Gr g)), (3, .rop 1 (Tr t)), (5, .own y.1.1 2 0 ((insA g t i).length + y.1.2)), (19, NdS t), (20, I t.length), (21, I i), (7, .rop 6 (Nd t[i])), (36, AtS s.atts), (37, I s.atts.length), (38, I y.1.2)]) (fun y => (y.1.1, 2, (insA g t i ++ (insK g t i).take y.1.2).map Ins) :: H) (fun y => s.atts.length - y.1.2) ⟨(q, 0), by simp⟩ (by simp [E2]) (by simp) ?_
   rintro ⟨⟨q2, k⟩, hk2⟩ hn2
   dsimp only at hk2 hn2 ⊢
   replace hn2 := neH_of hn2
   (replace hn2 := hn2; simp only [VN] at hn2)
   have hkl : (insK g t i).length = s.atts.length := by rw [hik]; simp
   rcases nL k s.atts.length with hlt2 | hge2
   ·(refine V1 (jO hn2 (jO @List.length_append.{0} (jO @List.length_singleton.{0} (jO @List.length_map.{0,0} (jO @List.length_take.{0} @maxLv))))) ?_; with_reducible repeat' first|exact trivial|intro h|refine aO ?_|refine eO ?_|apply jO)
    all_goals try exact oF
    rename_i r3 _ r4
    refine nxF ⟨(r4, k + 1), by omega⟩ (by simp; omega) (FE.perm (H := [_, _]) (L := [(r4, _)]) (by repeat' (first | exact trivial | (refine And.intro (by simp only [hget_c, *, if_true, if_false]; try rfl) (And.intro (by simp [names_cons, names_nil, *]) ?_))))) (by simp [E2]; omega) ?_
    have hk3 : k < (insK g t i).length := by omega
    have hx : (insK g t i)[k] = (t[i].id, s.atts[k].name) := by simp only [hik, List.getElem_map]
    have e := takeApp3 Ins (insA g t i) (insK g t i) k hk3 ((insA g t i).length + k) (by simp; omega)
    rw [hx] at e
    rw [← hik]
    exact congrArg (fun l => (r4, 2, l) :: H) e
   ·obtain rfl : k = s.atts.length := by omega
    (refine V1 (jO hn2 @maxLv) ?_; with_reducible repeat' first|exact trivial|intro h|refine aO ?_|refine eO ?_|apply jO)
    all_goals try exact oF
    have ha : insA g t (i + 1) = insA g t i ++ insK g t i := rfl
    refine nx ⟨(q2, i + 1), by omega⟩ (by simp; omega) (by simp [E2, ha, hkl]) ?_
    rw [ha, tL (by omega)]
  ·obtain rfl : i = t.length := by omega
   (refine V1 hn ?_; with_reducible repeat' first|exact trivial|intro h|refine aO ?_|refine eO ?_|apply jO)
   all_goals try exact oF
   exact ⟨_, ⟨q, rfl, rfl⟩, rfl⟩
 ·rw [insL, if_neg ht]
  have ht' : treeOf g t (symN g t 0) = false := by simpa using ht
  (refine V1 ht' ?_; with_reducible repeat' first|exact trivial|intro h|refine aO ?_|refine eO ?_|apply jO)
  exact ⟨_, ⟨r0, rfl, rfl⟩, rfl⟩
theorem q20 (g : Gram) (t : List Nod) (hg : smGr g) (hl : t.length ≤ 1048576) (hk : ∀ x ∈ t, x.kids.length ≤ 1048576) : Pu 20 [Gr g, Tr t] (· = InsS (insL g t)) :=
 Pure.bor ((o20 g t hg hl hk []).mono fun v H' ⟨H1, ⟨r, h1, h2⟩, h3⟩ => by
  subst h1; subst h2; subst h3
  exact bor_Ins hget_new rfl)
theorem q32 (g : Gram) (t : List Nod) (hg : smGr g) (hl : t.length ≤ 1048576) (hk : ∀ x ∈ t, x.kids.length ≤ 1048576) : Pu 32 [Gr g, Tr t] (· = InsS (insL g t)) :=
 Pure.bor ((o32 g t hg hl hk []).mono fun v H' ⟨H1, ⟨r, h1, h2⟩, h3⟩ => by
  subst h1; subst h2; subst h3
  exact bor_Ins hget_new rfl)
theorem q72 (g : Gram) (t : List Nod) (x : Int × ByteArray) (hg : smGr g) (hl : t.length ≤ 1048576) : Pu 72 [Gr g, Tr t, Ins x] (· = .tup [DfG (defO g t x) (defE g t x), B (defB g t x)]) :=
 Pure.bor ((o72 g t x hg hl []).mono fun v H' ⟨H1, ⟨r, h1, h2⟩, h3⟩ => by
  subst h1; subst h2; subst h3
  exact .tup (.cons (bor_Df hget_new rfl) (.cons .refl .nil)))
end Go.Proofs.YtlcenahinhonfaaGreat
