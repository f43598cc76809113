/- The law FnExactTreeCycle returns true whatever the input, and the input reads behind the call as before. No condition. -/
import Derived.Test.YtbdmpkidcpblaaaGreatCyc13
namespace Go.Proofs.YtbdmpkidcpblaaaGreat
open Go.Gh
set_option maxRecDepth 20000
set_option linter.unusedSimpArgs false
set_option linter.unusedVariables false
set_option maxHeartbeats 2000000 in
theorem o209 (L : List Oc) (r n : Nat) (T : GH) (hL : L.length = n) (hb : n ≤ 4194304) : GCalls Tryz.prog 209 [.own r 2 0 n] ((r, 2, L.map Occ) :: T)
    (fun v H' => v = .own r 2 0 (cpO L).length ∧ H' = (r, 2, (cpO L).map Occ) :: T) := by
  subst hL
  refine gstart mxd i209 rfl (by simp) ?_; simp (maxSteps := 2000000) only [↓ S2, S2, vIte, ↓reduceIte, Int.reduceNe, Nat.reduceEqDiff, reduceCtorEq, Nat.reduceLeDiff, Nat.reduceAdd, Nat.reduceLT]
  by_cases h2 : L.length < 2
  · have e : cpO L = L := cpO_short (by omega)
    rw [e]
    ((try with_reducible refine mkQI ?_); (repeat ((first | (with_reducible refine mkQU ?_) | simp only [brGen]); try simp (maxSteps := 4000000) +contextual only [↓ S2, S2, vIte, ↓reduceIte, Int.reduceNe, Nat.reduceEqDiff, reduceCtorEq, Nat.reduceLeDiff, Nat.reduceAdd, Nat.reduceLT, hget_c, hset_c, hdel_c, neN, neA_cons, neA_nil, h2])); (try simp +contextual (disch := omega) only [Z2, h2]); (repeat' (first | (with_reducible intro h) | (with_reducible refine And.intro (by omega) ?_) | (with_reducible refine exP (by omega) ?_) | (with_reducible apply And.intro))))
    all_goals try (exfalso; omega)
  · have h2' : ¬ ((L.length : Int) < 2) := by omega
    ((try with_reducible refine mkQI ?_); (repeat ((first | (with_reducible refine mkQU ?_) | simp only [brGen]); try simp (maxSteps := 4000000) +contextual only [↓ S2, S2, vIte, ↓reduceIte, Int.reduceNe, Nat.reduceEqDiff, reduceCtorEq, Nat.reduceLeDiff, Nat.reduceAdd, Nat.reduceLT, hget_c, hset_c, hdel_c, neN, neA_cons, neA_nil, h2'])); (try simp +contextual (disch := omega) only [Z2, h2']); (repeat' (first | (with_reducible intro h) | (with_reducible refine And.intro (by omega) ?_) | (with_reducible refine exP (by omega) ?_) | (with_reducible apply And.intro))))
    all_goals try (exfalso; omega)
    refine wloop mxd (ι := { k : Nat // 1 ≤ k ∧ k ≤ L.length ∧ cpO (L.take k) = L.take k }) (fun k => [(0, .own r 2 0 L.length), (3, I k.1)]) (fun k => (r, 2, L.map Occ) :: T) (fun k => L.length - k.1) ⟨1, by omega, by omega, cpO_short (by simp; omega)⟩ (by simp [E2]) rfl ?_
    rintro ⟨k, hk1, hk2, hk⟩
    rcases Nat.lt_or_ge k L.length with h | h
    · obtain ⟨m, rfl⟩ : ∃ m, k = m + 1 := ⟨k - 1, by omega⟩
      have hst := cpO_take h
      have hm : ((m + 1 : Nat) : Int) - 1 = m := by omega
      have hnn : ((L.length : Int) - ((m + 1 : Nat) : Int)).toNat = L.length - (m + 1) := by omega
      have hno : ¬ L[m + 1] = L[m] → cpO (L.take (m + 2)) = L.take (m + 2) := fun he => by
        rw [hst, if_neg he, hk, List.take_add_one (i := m + 1), List.getElem?_eq_getElem h]; rfl
      ((try with_reducible refine mkQI ?_); (repeat ((first | (with_reducible refine mkQU ?_) | simp only [brGen]); try simp (maxSteps := 4000000) +contextual only [↓ S2, S2, vIte, ↓reduceIte, Int.reduceNe, Nat.reduceEqDiff, reduceCtorEq, Nat.reduceLeDiff, Nat.reduceAdd, Nat.reduceLT, hget_c, hset_c, hdel_c, neN, neA_cons, neA_nil, List.length_map, hm, hnn])); (try simp +contextual (disch := omega) only [Z2, List.length_map, hm, hnn]); (repeat' (first | (with_reducible intro h) | (with_reducible refine And.intro (by omega) ?_) | (with_reducible refine exP (by omega) ?_) | (with_reducible apply And.intro))))
      all_goals try (exfalso; omega)
      · rename_i hf
        simp only [Int.toNat_natCast] at hf h
        have he : L[m + 1] = L[m] := Prod.ext hf h
        rw [if_pos he, hk] at hst
        have i1 : (cpO (L.take (m + 1 + 1))).length = m + 1 := by rw [show m + 1 + 1 = m + 2 from rfl, hst]; simp; omega
        refine wloop mxd (ι := { y : Nat × List Oc // cpI L m y.1 y.2 }) (fun y => [(0, .own r 2 0 L.length), (3, I (cpO (L.take (m + 1 + y.1.1))).length), (4, .own r 2 (m + 1) (L.length - (m + 1))), (5, I y.1.1)]) (fun y => (r, 2, y.1.2.map Occ) :: T) (fun y => L.length - y.1.1) ⟨(1, L), by omega, by dsimp only; omega, rfl, by dsimp only; omega, by dsimp only; rw [i1, show m + 1 + 1 = m + 2 from rfl, hst], rfl⟩ (by simp only [i1]; simp [E2]) rfl ?_
        rintro ⟨⟨j, X⟩, hI⟩
        obtain ⟨hj1, hj2, hx1, hx2, hx3, hx4⟩ := id hI
        dsimp only at hI hj1 hj2 hx1 hx2 hx3 hx4 ⊢
        rcases Nat.lt_or_ge (m + 1 + j) L.length with hlt | hge
        · have hi2 : m + 1 + ((j : Int) - 1).toNat = m + j := by omega
          ((try with_reducible refine mkQI ?_); (repeat ((first | (with_reducible refine mkQU ?_) | simp only [brGen]); try simp (maxSteps := 4000000) +contextual only [↓ S2, S2, vIte, ↓reduceIte, Int.reduceNe, Nat.reduceEqDiff, reduceCtorEq, Nat.reduceLeDiff, Nat.reduceAdd, Nat.reduceLT, hget_c, hset_c, hdel_c, neN, neA_cons, neA_nil, List.length_map, hx1])); (try simp +contextual (disch := omega) only [Z2, List.length_map, hx1]); (repeat' (first | (with_reducible intro h) | (with_reducible refine And.intro (by omega) ?_) | (with_reducible refine exP (by omega) ?_) | (with_reducible apply And.intro))))
          all_goals try (exfalso; omega)
          · rename_i hf
            obtain ⟨b1, b2⟩ := cpI_eq hI hlt hi2 (by omega) (by omega) (Prod.ext hf h)
            exact nx ⟨(j + 1, X), b1⟩ (by simp; omega) (by simp only [b2]; simp [E2]) rfl
          · rename_i hf
            obtain ⟨b1, b2⟩ := cpI_ne hI hlt hi2 (by omega) (by omega) (fun e => h (congrArg Prod.snd e))
            refine nx ⟨(j + 1, _), b1⟩ (by simp; omega) (by simp only [b2]; simp [E2]) ?_
            rw [List.map_set, ← hf]
          · obtain ⟨b1, b2⟩ := cpI_ne hI hlt hi2 (by omega) (by omega) (fun e => h (congrArg Prod.fst e))
            refine nx ⟨(j + 1, _), b1⟩ (by simp; omega) (by simp only [b2]; simp [E2]) ?_
            rw [List.map_set]
        · have hje : m + 1 + j = L.length := by omega
          have hle := cpO_len L
          have e2 : (cpO (L.take (m + 1 + j))) = cpO L := by rw [hje, List.take_length]
          rw [e2] at hx3
          simp only [e2]
          ((try with_reducible refine mkQI ?_); (repeat ((first | (with_reducible refine mkQU ?_) | simp only [brGen]); try simp (maxSteps := 4000000) +contextual only [↓ S2, S2, vIte, ↓reduceIte, Int.reduceNe, Nat.reduceEqDiff, reduceCtorEq, Nat.reduceLeDiff, Nat.reduceAdd, Nat.reduceLT, hget_c, hset_c, hdel_c, neN, neA_cons, neA_nil, List.length_map, hx1])); (try simp +contextual (disch := omega) only [Z2, List.length_map, hx1]); (repeat' (first | (with_reducible intro h) | (with_reducible refine And.intro (by omega) ?_) | (with_reducible refine exP (by omega) ?_) | (with_reducible apply And.intro))))
          all_goals first | omega | (simp; done) | (rw [← List.map_take, hx3])
      · simp only [Int.toNat_natCast] at h
        exact nx ⟨m + 2, by omega, by omega, hno fun e => h (congrArg Prod.snd e)⟩ (by simp; omega) (by simp [E2]; omega) rfl
      · simp only [Int.toNat_natCast] at h
        exact nx ⟨m + 2, by omega, by omega, hno fun e => h (congrArg Prod.fst e)⟩ (by simp; omega) (by simp [E2]; omega) rfl
    · obtain rfl : k = L.length := by omega
      rw [List.take_length] at hk
      rw [hk]
      ((try with_reducible refine mkQI ?_); (repeat ((first | (with_reducible refine mkQU ?_) | simp only [brGen]); try simp (maxSteps := 4000000) +contextual only [↓ S2, S2, vIte, ↓reduceIte, Int.reduceNe, Nat.reduceEqDiff, reduceCtorEq, Nat.reduceLeDiff, Nat.reduceAdd, Nat.reduceLT, hget_c, hset_c, hdel_c, neN, neA_cons, neA_nil, ])); (try simp +contextual (disch := omega) only [Z2, ]); (repeat' (first | (with_reducible intro h) | (with_reducible refine And.intro (by omega) ?_) | (with_reducible refine exP (by omega) ?_) | (with_reducible apply And.intro))))
      all_goals try (exfalso; omega)
theorem o139 (e : Exp) (hw : wEx e ≤ 1048576) (H : GH) : GCalls Tryz.prog 139 [Ex e] H (fun v H' => ∃ H1, (∃ r, v = .own r 2 0 (usE e []).length ∧ H1 = [(r, 2, (usE e []).map Occ)]) ∧ H' = H1 ++ H) := by
  have h0 : GCalls Tryz.prog 139 [Ex e] H (fun v H' => ∃ r rb u, ¬ r = rb ∧ v = .own r 2 0 (usE e []).length ∧ H' = (r, 2, (usE e []).map Occ) :: (rb, 1, u) :: H) := by
    have e1 := occE_len e
    have e2 := srO_len (occE e)
    have e3 := usE_cp e
    refine gstart mxd i139 rfl (by simp) ?_; simp (maxSteps := 2000000) only [↓ S2, S2, vIte, ↓reduceIte, Int.reduceNe, Nat.reduceEqDiff, reduceCtorEq, Nat.reduceLeDiff, Nat.reduceAdd, Nat.reduceLT]
    ((try with_reducible refine mkQI ?_); (repeat ((first | (with_reducible refine mkQU ?_) | simp only [brGen]); try simp (maxSteps := 4000000) +contextual only [↓ S2, S2, vIte, ↓reduceIte, Int.reduceNe, Nat.reduceEqDiff, reduceCtorEq, Nat.reduceLeDiff, Nat.reduceAdd, Nat.reduceLT, hget_c, hset_c, hdel_c, neN, neA_cons, neA_nil, XE])); (try simp +contextual (disch := omega) only [Z2, XE]); (repeat' (first | (with_reducible intro h) | (with_reducible refine And.intro (by omega) ?_) | (with_reducible refine exP (by omega) ?_) | (with_reducible apply And.intro))))
    rename_i q _ rb
    refine callS.of (GCalls.sub (H := [_, _]) (L := [(q, 2, ([] : List Oc).map Occ), (rb, 1, [.own q 2 0 ([] : List Oc).length])]) (T := H) ?_ (o178 rb H e [] q (by simp; omega))) ?_
    · simp [subH, hget, names, *]
    rintro v H' ⟨q', rfl, rfl⟩ hn
    rw [List.nil_append] at hn ⊢
    replace hn := neH_of hn
    (replace hn := hn; simp only [neH_cons, neH_nil, neA_cons, neA_nil, and_true, true_and] at hn)
    ((try with_reducible refine mkQI ?_); (repeat ((first | (with_reducible refine mkQU ?_) | simp only [brGen]); try simp (maxSteps := 4000000) +contextual only [↓ S2, S2, vIte, ↓reduceIte, Int.reduceNe, Nat.reduceEqDiff, reduceCtorEq, Nat.reduceLeDiff, Nat.reduceAdd, Nat.reduceLT, hget_c, hset_c, hdel_c, neN, neA_cons, neA_nil, hn])); (try simp +contextual (disch := omega) only [Z2, hn]); (repeat' (first | (with_reducible intro h) | (with_reducible refine And.intro (by omega) ?_) | (with_reducible refine exP (by omega) ?_) | (with_reducible apply And.intro))))
    refine callS.of (o207 hget_new rfl (by omega)) ?_
    rintro v H' ⟨rfl, rfl⟩ -
    rw [hset_new]
    ((try with_reducible refine mkQI ?_); (repeat ((first | (with_reducible refine mkQU ?_) | simp only [brGen]); try simp (maxSteps := 4000000) +contextual only [↓ S2, S2, vIte, ↓reduceIte, Int.reduceNe, Nat.reduceEqDiff, reduceCtorEq, Nat.reduceLeDiff, Nat.reduceAdd, Nat.reduceLT, hget_c, hset_c, hdel_c, neN, neA_cons, neA_nil, hn])); (try simp +contextual (disch := omega) only [Z2, hn]); (repeat' (first | (with_reducible intro h) | (with_reducible refine And.intro (by omega) ?_) | (with_reducible refine exP (by omega) ?_) | (with_reducible apply And.intro))))
    refine callS.of (o209 (srO (occE e)) q' _ _ e2 (by omega)) ?_
    rintro v H' ⟨rfl, rfl⟩ -
    rw [e3]
    ((try with_reducible refine mkQI ?_); (repeat ((first | (with_reducible refine mkQU ?_) | simp only [brGen]); try simp (maxSteps := 4000000) +contextual only [↓ S2, S2, vIte, ↓reduceIte, Int.reduceNe, Nat.reduceEqDiff, reduceCtorEq, Nat.reduceLeDiff, Nat.reduceAdd, Nat.reduceLT, hget_c, hset_c, hdel_c, neN, neA_cons, neA_nil, hn])); (try simp +contextual (disch := omega) only [Z2, hn]); (repeat' (first | (with_reducible intro h) | (with_reducible refine And.intro (by omega) ?_) | (with_reducible refine exP (by omega) ?_) | (with_reducible apply And.intro))))
    exact ⟨q', rb, _, by simp [hn], rfl, rfl⟩
  refine h0.fr ?_
  rintro v H' ⟨r, rb, u, n1, rfl, rfl⟩
  exact ⟨_, _, FR.perm (H := [_, _]) (L := [(r, 2, (usE e []).map Occ)]) (by simp [subH, hget, names, *]), _, ⟨r, rfl, rfl⟩, rfl⟩
theorem q139 (e : Exp) (hw : wEx e ≤ 1048576) : Pure Tryz.prog 139 [Ex e] (· = OcS (usE e [])) :=
  Pure.bor ((o139 e hw []).mono fun v H' ⟨H1, ⟨r, h1, h2⟩, h3⟩ => by
    subst h1; subst h2; subst h3
    exact Bor.allM (fun _ => rfl) hget_new rfl)
end Go.Proofs.YtbdmpkidcpblaaaGreat

