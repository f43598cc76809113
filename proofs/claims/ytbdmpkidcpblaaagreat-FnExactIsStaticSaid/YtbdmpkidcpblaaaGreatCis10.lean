/- The laws FnExactIsSolution and FnExactIsStatic return true whatever the input, and the input reads behind the call as before. No condition. -/
import Derived.Test.YtbdmpkidcpblaaaGreatCis9
namespace Go.Proofs.YtbdmpkidcpblaaaGreat
open Go.Gh
open Nat (reduceEqDiff reduceLeDiff reduceAdd reduceLT)
open Int (reduceNe)
set_option maxRecDepth 20000
set_option linter.unusedSimpArgs false
set_option linter.unusedVariables false
theorem o206 (e : Exp) (l : List Oc) (hl : l.length ≤ 4194304) (rb q : Nat) (T : GH) : GCalls Tryz.prog 206 [Ex e, .ptr rb 1 0 0] ((q, 2, l.map Occ) :: (rb, 1, [.own q 2 0 l.length]) :: T)
    (fun v H' => ∃ q', v = B true ∧ H' = (q', 2, (l ++ occ1 e).map Occ) :: (rb, 1, [.own q' 2 0 (l ++ occ1 e).length]) :: T) := by
  refine GCalls.nd fun hn => ?_
  replace hn := neH_of hn
  (replace hn := hn; simp only [VN] at hn)
  by_cases hk : e.kind = 3
  · have h0 : GCalls Tryz.prog 206 [Ex e, .ptr rb 1 0 0] ((q, 2, l.map Occ) :: (rb, 1, [.own q 2 0 l.length]) :: T)
        (fun v H' => ∃ q' r1 u, ¬ q' = r1 ∧ ¬ q' = rb ∧ ¬ r1 = rb ∧ v = B true ∧ H' = (q', 2, (l ++ occ1 e).map Occ) :: (r1, 2, u) :: (rb, 1, [.own q' 2 0 (l ++ occ1 e).length]) :: T) := by
      refine gstart mxd i206 rfl (by simp) ?_; refine X0 ?_
      (refine V1 (jO @XE (jO hk (jO hn (jO @List.length_map.{0,0} @maxLv)))) ?_; with_reducible repeat' first | exact trivial | intro h | refine aO ?_ | refine eO ?_ | apply And.intro)
      rename_i r1 _ r2
      have e1 : occ1 e = [(e.pos, e.name)] := by simp [occ1, hk]
      refine ⟨r2, r1, [Occ (e.pos, e.name)], by simp [*], by simp [*], by simp [*], ?_⟩
      rw [e1, List.take_of_length_le (by simp), List.map_append, List.length_append]
      rfl
    refine h0.fr ?_
    rintro v H' ⟨q', r1, u, n1, n2, n3, rfl, rfl⟩
    exact ⟨_, _, FR.perm (H := [_, _, _]) (L := [(q', 2, (l ++ occ1 e).map Occ), (rb, 1, [.own q' 2 0 (l ++ occ1 e).length])]) (by simp [subH, hget, names, *]), q', rfl, rfl⟩
  · have e1 : occ1 e = [] := by simp [occ1, hk]
    rw [e1, List.append_nil]
    refine gstart mxd i206 rfl (by simp) ?_; refine X0 ?_
    (refine V1 (jO @XE (jO hk hn)) ?_; with_reducible repeat' first | exact trivial | intro h | refine aO ?_ | refine eO ?_ | apply And.intro)
    exact ⟨q, rfl⟩
theorem o177 (t : List Exp) (f : Nat) (cs : List GV) (n0 rb : Nat) (T : GH) (hb : n0 + (occEL t).length ≤ 4194304)
    (hp : ∀ a ∈ t, ∀ (l : List Oc) (q : Nat), l.length + (occE a).length ≤ 4194304 → GCalls Tryz.prog f (Ex a :: cs) ((q, 2, l.map Occ) :: (rb, 1, [.own q 2 0 l.length]) :: T) (fun v H' => ∃ q', v = B false ∧ H' = (q', 2, (l ++ occE a).map Occ) :: (rb, 1, [.own q' 2 0 (l ++ occE a).length]) :: T))
    (l : List Oc) (q : Nat) (hl : l.length = n0) :
    GCalls Tryz.prog 177 [ExS t, .clo f cs] ((q, 2, l.map Occ) :: (rb, 1, [.own q 2 0 l.length]) :: T) (fun v H' => ∃ q', v = I (-1) ∧ H' = (q', 2, (l ++ occEL t).map Occ) :: (rb, 1, [.own q' 2 0 (l ++ occEL t).length]) :: T) := by
  refine GCalls.lenA fun hlen => ?_
  have hlen := hlen.1.1
  simp only [List.length_map, maxL] at hlen
  refine gstart mxd i177 rfl (by simp) ?_; refine X0 ?_
  (refine V0 ?_; with_reducible repeat' first | exact trivial | intro h | refine aO ?_ | refine eO ?_ | apply And.intro)
  refine wloopN mxd (ι := { y : Nat × Nat // y.2 ≤ t.length }) (fun y => [(0, ExS t), (1, .clo f cs), (7, I t.length), (8, I y.1.2)]) (fun y => (y.1.1, 2, (l ++ occEL (t.take y.1.2)).map Occ) :: (rb, 1, [.own y.1.1 2 0 (l ++ occEL (t.take y.1.2)).length]) :: T) (fun y => t.length - y.1.2) ⟨(q, 0), by simp⟩ (by simp [E2]) (by simp [occEL]) ?_
  rintro ⟨⟨q, i⟩, hi⟩ hn
  dsimp only at hi hn ⊢
  replace hn := neH_of hn
  (replace hn := hn; simp only [VN] at hn)
  rcases Nat.lt_or_ge i t.length with h | h
  · have e1 := occEL_step h
    have e2 : (occEL (t.take (i + 1))).length ≤ (occEL t).length := by
      have e3 : t = t.take (i + 1) ++ t.drop (i + 1) := (List.take_append_drop _ _).symm
      have e4 : occEL t = occEL (t.take (i + 1)) ++ occEL (t.drop (i + 1)) := by
        conv => lhs; rw [e3]
        exact occEL_app _ _
      rw [e4, List.length_append]; omega
    have e5 : (occEL (t.take (i + 1))).length = (occEL (t.take i)).length + (occE t[i]).length := by rw [e1, List.length_append]
    ((try refine qI ?_); (repeat ((first | with_reducible refine qU ?_ | simp only [brGen]); try simp (maxSteps := 9^7) +contextual only [↓ S2, S2, ↓reduceIte, reduceNe, reduceEqDiff, reduceCtorEq, reduceLeDiff, reduceAdd, reduceLT, VQ, hn, isAgg_Ex, geR_Ex, gsize_Ex, stor_Ex])); (try simp +contextual (disch := omega) only [Z2, hn, isAgg_Ex, geR_Ex, gsize_Ex, stor_Ex]); (with_reducible repeat' (first | intro h | refine And.intro (by omega) ?_ | refine exP (by omega) ?_ | apply And.intro)))
    all_goals try (exfalso; omega)
    refine callS.of (hp t[i] (List.getElem_mem _) _ q (by rw [List.length_append]; omega)) ?_
    rintro v H' ⟨q', rfl, rfl⟩ hn2
    rw [List.append_assoc, ← e1] at hn2 ⊢
    (refine V1 hn ?_; with_reducible repeat' first | exact trivial | intro h | refine aO ?_ | refine eO ?_ | apply And.intro)
    exact nx ⟨(q', i + 1), by omega⟩ (by simp; omega) (by simp [E2]) rfl
  · obtain rfl : i = t.length := by omega
    (refine V1 hn ?_; with_reducible repeat' first | exact trivial | intro h | refine aO ?_ | refine eO ?_ | apply And.intro)
    all_goals try (exfalso; omega)
    rw [List.take_length]
    exact ⟨q, rfl⟩
theorem o109 (t : List Exp) (f : Nat) (cs : List GV) (n0 rb : Nat) (T : GH) (hb : n0 + (occEL t).length ≤ 4194304)
    (hp : ∀ a ∈ t, ∀ (l : List Oc) (q : Nat), l.length + (occE a).length ≤ 4194304 → GCalls Tryz.prog f (Ex a :: cs) ((q, 2, l.map Occ) :: (rb, 1, [.own q 2 0 l.length]) :: T) (fun v H' => ∃ q', v = B false ∧ H' = (q', 2, (l ++ occE a).map Occ) :: (rb, 1, [.own q' 2 0 (l ++ occE a).length]) :: T))
    (l : List Oc) (q : Nat) (hl : l.length = n0) :
    GCalls Tryz.prog 109 [ExS t, .clo f cs] ((q, 2, l.map Occ) :: (rb, 1, [.own q 2 0 l.length]) :: T) (fun v H' => ∃ q', v = B false ∧ H' = (q', 2, (l ++ occEL t).map Occ) :: (rb, 1, [.own q' 2 0 (l ++ occEL t).length]) :: T) := by
  refine gstart mxd i109 rfl (by simp) ?_; refine X0 ?_
  (refine V0 ?_; with_reducible repeat' first | exact trivial | intro h | refine aO ?_ | refine eO ?_ | apply And.intro)
  refine callS.of (o177 t f cs n0 rb T hb hp l q hl) ?_
  rintro v H' ⟨q', rfl, rfl⟩ hn2
  (refine V0 ?_; with_reducible repeat' first | exact trivial | intro h | refine aO ?_ | refine eO ?_ | apply And.intro)
  exact ⟨q', by simp⟩
theorem o178 (rb : Nat) (T : GH) : ∀ (e : Exp) (l : List Oc) (q : Nat), l.length + (occE e).length ≤ 4194304 →
    GCalls Tryz.prog 178 [Ex e, .clo 206 [.ptr rb 1 0 0]] ((q, 2, l.map Occ) :: (rb, 1, [.own q 2 0 l.length]) :: T) (fun v H' => ∃ q', v = B true ∧ H' = (q', 2, (l ++ occE e).map Occ) :: (rb, 1, [.own q' 2 0 (l ++ occE e).length]) :: T) := by
  refine Exp.indA fun e ih l q hb => ?_
  have e0 := occE_eq e
  have e1 : (occE e).length = (occ1 e).length + (occEL e.args).length := by rw [e0, List.length_append]
  refine gstart mxd i178 rfl (by simp) ?_; refine X0 ?_
  ((try refine qI ?_); (repeat ((first | with_reducible refine qU ?_ | simp only [brGen]); try simp (maxSteps := 9^7) +contextual only [↓ S2, S2, ↓reduceIte, reduceNe, reduceEqDiff, reduceCtorEq, reduceLeDiff, reduceAdd, reduceLT, VQ, XE, gs_clo])); (try simp +contextual (disch := omega) only [Z2, XE, gs_clo]); (with_reducible repeat' (first | intro h | refine And.intro (by omega) ?_ | refine exP (by omega) ?_ | apply And.intro)))
  refine callS.of (o206 e l (by omega) rb q T) ?_
  rintro v H' ⟨q', rfl, rfl⟩ hn
  replace hn := neH_of hn
  (replace hn := hn; simp only [VN] at hn)
  (refine V1 (jO hn @XE) ?_; with_reducible repeat' first | exact trivial | intro h | refine aO ?_ | refine eO ?_ | apply And.intro)
  refine callS.of (o109 e.args 229 _ (l ++ occ1 e).length rb T (by rw [List.length_append]; omega) (fun a ha l q hb => ?_) (l ++ occ1 e) q' rfl) ?_
  · refine gstart mxd i229 rfl (by simp) ?_; refine X0 ?_
    (refine V1 @XE ?_; with_reducible repeat' first | exact trivial | intro h | refine aO ?_ | refine eO ?_ | apply And.intro)
    refine callS.of (ih a ha l q hb) ?_
    rintro v H' ⟨q', rfl, rfl⟩ hn
    (refine V0 ?_; with_reducible repeat' first | exact trivial | intro h | refine aO ?_ | refine eO ?_ | apply And.intro)
    exact ⟨q', rfl⟩
  · rintro v H' ⟨q2, rfl, rfl⟩ hn
    (refine V0 ?_; with_reducible repeat' first | exact trivial | intro h | refine aO ?_ | refine eO ?_ | apply And.intro)
    rw [e0, List.append_assoc]
    exact ⟨q2, rfl⟩
set_option maxHeartbeats 2000000 in
theorem o209 (L : List Oc) (r n : Nat) (T : GH) (hL : L.length = n) (hb : n ≤ 4194304) : GCalls Tryz.prog 209 [.own r 2 0 n] ((r, 2, L.map Occ) :: T)
    (fun v H' => v = .own r 2 0 (cpO L).length ∧ H' = (r, 2, (cpO L).map Occ) :: T) := by
  subst hL
  refine gstart mxd i209 rfl (by simp) ?_; refine X0 ?_
  by_cases h2 : L.length < 2
  · have e : cpO L = L := cpO_short (by omega)
    rw [e]
    (refine V1 h2 ?_; with_reducible repeat' first | exact trivial | intro h | refine aO ?_ | refine eO ?_ | apply And.intro)
    all_goals try (exfalso; omega)
  · have h2' : ¬ ((L.length : Int) < 2) := by omega
    (refine V1 h2' ?_; with_reducible repeat' first | exact trivial | intro h | refine aO ?_ | refine eO ?_ | apply And.intro)
    all_goals try (exfalso; omega)
    refine wloop mxd (ι := { k : Nat // 1 ≤ k ∧ k ≤ L.length ∧ cpO (L.take k) = L.take k }) (fun k => [(0, .own r 2 0 L.length), (3, I k.1)]) (fun k => (r, 2, L.map Occ) :: T) (fun k => L.length - k.1) ⟨1, by omega, by omega, cpO_short (by simp; omega)⟩ (by simp [E2]) rfl ?_
    rintro ⟨k, hk1, hk2, hk⟩
    rcases Nat.lt_or_ge k L.length with h | h
    · obtain ⟨m, rfl⟩ : ∃ m, k = m + 1 := ⟨k - 1, by omega⟩
      have hst := cpO_take h
      have hm : ((m + 1 : Nat) : Int) - 1 = m := by omega
      have hnn : ((L.length : Int) - ((m + 1 : Nat) : Int)).toNat = L.length - (m + 1) := by omega
      have hno : ¬ L[m + 1] = L[m] → cpO (L.take (m + 2)) = L.take (m + 2) := fun he => by
        rw [hst, if_neg he, hk, List.take_add_one (i := m + 1), List.getElem?_eq_getElem h]; rfl
      (refine V1 (jO @List.length_map.{0,0} (jO hm hnn)) ?_; with_reducible repeat' first | exact trivial | intro h | refine aO ?_ | refine eO ?_ | apply And.intro)
      all_goals try (exfalso; omega)
      · rename_i hf
        simp only [Int.toNat_natCast] at hf h
        have he : L[m + 1] = L[m] := Prod.ext hf h
        rw [if_pos he, hk] at hst
        have i1 : (cpO (L.take (m + 1 + 1))).length = m + 1 := by rw [show m + 1 + 1 = m + 2 from rfl, hst]; simp; omega
        refine wloop mxd (ι := { y : Nat × List Oc // cpI L m y.1 y.2 }) (fun y => [(0, .own r 2 0 L.length), (3, I (cpO (L.take (m + 1 + y.1.1))).length), (4, .own r 2 (m + 1) (L.length - (m + 1))), (5, I y.1.1)]) (fun y => (r, 2, y.1.2.map Occ) :: T) (fun y => L.length - y.1.1) ⟨(1, L), by omega, by dsimp only; omega, rfl, by dsimp only; omega, by dsimp only; rw [i1, show m + 1 + 1 = m + 2 from rfl, hst], rfl⟩ (by simp only [i1]; simp [E2]) rfl ?_
        rintro ⟨⟨j, X⟩, hI⟩
        obtain ⟨hj1, hj2, hx1, hx2, hx3, hx4⟩ := id hI
        dsimp only at hI hj1 hj2 hx1 hx2 hx3 hx4 ⊢
        rcases Nat.lt_or_ge (m + 1 + j) L.length with hlt | hge
        · have hi2 : m + 1 + ((j : Int) - 1).toNat = m + j := by omega
          (refine V1 (jO @List.length_map.{0,0} hx1) ?_; with_reducible repeat' first | exact trivial | intro h | refine aO ?_ | refine eO ?_ | apply And.intro)
          all_goals try (exfalso; omega)
          · rename_i hf
            obtain ⟨b1, b2⟩ := cpI_eq hI hlt hi2 (by omega) (by omega) (Prod.ext hf h)
            exact nx ⟨(j + 1, X), b1⟩ (by simp; omega) (by simp only [b2]; simp [E2]) rfl
          · rename_i hf
            obtain ⟨b1, b2⟩ := cpI_ne hI hlt hi2 (by omega) (by omega) (fun e => h (congrArg Prod.snd e))
            refine nx ⟨(j + 1, _), b1⟩ (by simp; omega) (by simp only [b2]; simp [E2]) ?_
            rw [List.map_set, ← hf]
          · obtain ⟨b1, b2⟩ := cpI_ne hI hlt hi2 (by omega) (by omega) (fun e => h (congrArg Prod.fst e))
            refine nx ⟨(j + 1, _), b1⟩ (by simp; omega) (by simp only [b2]; simp [E2]) ?_
            rw [List.map_set]
        · have hje : m + 1 + j = L.length := by omega
          have hle := cpO_len L
          have e2 : (cpO (L.take (m + 1 + j))) = cpO L := by rw [hje, List.take_length]
          rw [e2] at hx3
          simp only [e2]
          (refine V1 (jO @List.length_map.{0,0} hx1) ?_; with_reducible repeat' first | exact trivial | intro h | refine aO ?_ | refine eO ?_ | apply And.intro)
          all_goals first | omega | (simp; done) | (rw [← List.map_take, hx3])
      · simp only [Int.toNat_natCast] at h
        exact nx ⟨m + 2, by omega, by omega, hno fun e => h (congrArg Prod.snd e)⟩ (by simp; omega) (by simp [E2]; omega) rfl
      · simp only [Int.toNat_natCast] at h
        exact nx ⟨m + 2, by omega, by omega, hno fun e => h (congrArg Prod.fst e)⟩ (by simp; omega) (by simp [E2]; omega) rfl
    · obtain rfl : k = L.length := by omega
      rw [List.take_length] at hk
      rw [hk]
      (refine V0 ?_; with_reducible repeat' first | exact trivial | intro h | refine aO ?_ | refine eO ?_ | apply And.intro)
      all_goals try (exfalso; omega)
theorem o139 (e : Exp) (hw : wEx e ≤ 1048576) (H : GH) : GCalls Tryz.prog 139 [Ex e] H (fun v H' => ∃ H1, (∃ r, v = .own r 2 0 (usE e []).length ∧ H1 = [(r, 2, (usE e []).map Occ)]) ∧ H' = H1 ++ H) := by
  have h0 : GCalls Tryz.prog 139 [Ex e] H (fun v H' => ∃ r rb u, ¬ r = rb ∧ v = .own r 2 0 (usE e []).length ∧ H' = (r, 2, (usE e []).map Occ) :: (rb, 1, u) :: H) := by
    have e1 := occE_len e
    have e2 := srO_len (occE e)
    have e3 := usE_cp e
    refine gstart mxd i139 rfl (by simp) ?_; refine X0 ?_
    (refine V1 @XE ?_; with_reducible repeat' first | exact trivial | intro h | refine aO ?_ | refine eO ?_ | apply And.intro)
    rename_i q _ rb
    refine callS.of (GCalls.sub (H := [_, _]) (L := [(q, 2, ([] : List Oc).map Occ), (rb, 1, [.own q 2 0 ([] : List Oc).length])]) (T := H) ?_ (o178 rb H e [] q (by simp; omega))) ?_
    · simp [subH, hget, names, *]
    rintro v H' ⟨q', rfl, rfl⟩ hn
    rw [List.nil_append] at hn ⊢
    replace hn := neH_of hn
    (replace hn := hn; simp only [VN] at hn)
    (refine V1 hn ?_; with_reducible repeat' first | exact trivial | intro h | refine aO ?_ | refine eO ?_ | apply And.intro)
    refine callS.of (o207 hget_new rfl (by omega)) ?_
    rintro v H' ⟨rfl, rfl⟩ -
    rw [hset_new]
    (refine V1 hn ?_; with_reducible repeat' first | exact trivial | intro h | refine aO ?_ | refine eO ?_ | apply And.intro)
    refine callS.of (o209 (srO (occE e)) q' _ _ e2 (by omega)) ?_
    rintro v H' ⟨rfl, rfl⟩ -
    rw [e3]
    (refine V1 hn ?_; with_reducible repeat' first | exact trivial | intro h | refine aO ?_ | refine eO ?_ | apply And.intro)
    exact ⟨q', rb, _, by simp [hn], rfl, rfl⟩
  refine h0.fr ?_
  rintro v H' ⟨r, rb, u, n1, rfl, rfl⟩
  exact ⟨_, _, FR.perm (H := [_, _]) (L := [(r, 2, (usE e []).map Occ)]) (by simp [subH, hget, names, *]), _, ⟨r, rfl, rfl⟩, rfl⟩
theorem q139 (e : Exp) (hw : wEx e ≤ 1048576) : Pure Tryz.prog 139 [Ex e] (· = OcS (usE e [])) :=
  Pure.bor ((o139 e hw []).mono fun v H' ⟨H1, ⟨r, h1, h2⟩, h3⟩ => by
    subst h1; subst h2; subst h3
    exact Bor.allM (fun _ => rfl) hget_new rfl)
theorem w64 (L : List Oc) (y : Oc) : Pure Tryz.prog 64 [InsS L, Ins y] (· = I (ixI L y)) := by
  refine GCalls.lenA fun hlen => ?_
  have hlen := hlen.1.1
  simp only [List.length_map, maxL] at hlen
  refine gstart mxd i64 rfl (by simp) ?_; refine X0 ?_
  (refine V0 ?_; with_reducible repeat' first | exact trivial | intro h | refine aO ?_ | refine eO ?_ | apply And.intro)
  refine wloop mxd (ι := { i : Nat // i ≤ L.length ∧ ∀ a ∈ L.take i, decide (a = y) = false }) (fun i => [(0, InsS L), (3, .rop 2 (Ins y)), (5, I i.1)]) (fun _ => []) (fun i => L.length - i.1) ⟨0, by simp⟩ (by simp [E2]) rfl ?_
  rintro ⟨i, hi, hn⟩
  rcases Nat.lt_or_ge i L.length with hlt | hge
  · by_cases he : L[i] = y
    · have he1 : L[i].1 = y.1 := by rw [he]
      have he2 : L[i].2 = y.2 := by rw [he]
      have e : ixI L y = i := ixOf_hit hlt (by simp [he]) hn
      rw [e]
      (refine V1 (jO he1 he2) ?_; with_reducible repeat' first | exact trivial | intro h | refine aO ?_ | refine eO ?_ | apply And.intro)
      all_goals first | rfl | (exfalso; omega)
    · (refine V0 ?_; with_reducible repeat' first | exact trivial | intro h | refine aO ?_ | refine eO ?_ | apply And.intro)
      all_goals first
        | (exfalso; exact he (Prod.ext (by assumption) (by assumption)))
        | (exfalso; omega)
        | exact nx ⟨i + 1, by omega, take_step hlt (by simp [he]) hn⟩ (by simp; omega) (by simp [E2]) rfl
  · obtain rfl : i = L.length := by omega
    rw [List.take_length] at hn
    have e : ixI L y = -1 := ixOf_none hn
    rw [e]
    (refine V0 ?_; with_reducible repeat' first | exact trivial | intro h | refine aO ?_ | refine eO ?_ | apply And.intro)
    all_goals first | rfl | (exfalso; omega)
theorem w141 (L : List Oc) (y : Oc) : Pure Tryz.prog 141 [InsS L, Ins y] (· = I (ixI L y)) := by
  refine GCalls.lenA fun hlen => ?_
  have hlen := hlen.1.1
  simp only [List.length_map, maxL] at hlen
  refine gstart mxd i141 rfl (by simp) ?_; refine X0 ?_
  (refine V0 ?_; with_reducible repeat' first | exact trivial | intro h | refine aO ?_ | refine eO ?_ | apply And.intro)
  refine wloop mxd (ι := { i : Nat // i ≤ L.length ∧ ∀ a ∈ L.take i, decide (a = y) = false }) (fun i => [(0, InsS L), (3, .rop 2 (Ins y)), (7, I L.length), (8, I i.1)]) (fun _ => []) (fun i => L.length - i.1) ⟨0, by simp⟩ (by simp [E2]) rfl ?_
  rintro ⟨i, hi, hn⟩
  rcases Nat.lt_or_ge i L.length with hlt | hge
  · by_cases he : L[i] = y
    · have he1 : y.1 = L[i].1 := by rw [he]
      have he2 : y.2 = L[i].2 := by rw [he]
      have e : ixI L y = i := ixOf_hit hlt (by simp [he]) hn
      rw [e]
      (refine V1 (jO he1 he2) ?_; with_reducible repeat' first | exact trivial | intro h | refine aO ?_ | refine eO ?_ | apply And.intro)
      all_goals first | rfl | (exfalso; omega)
    · (refine V0 ?_; with_reducible repeat' first | exact trivial | intro h | refine aO ?_ | refine eO ?_ | apply And.intro)
      all_goals first
        | (exfalso; exact he (Prod.ext (Eq.symm (by assumption)) (Eq.symm (by assumption))))
        | (exfalso; omega)
        | exact nx ⟨i + 1, by omega, take_step hlt (by simp [he]) hn⟩ (by simp; omega) (by simp [E2]) rfl
  · obtain rfl : i = L.length := by omega
    rw [List.take_length] at hn
    have e : ixI L y = -1 := ixOf_none hn
    rw [e]
    (refine V0 ?_; with_reducible repeat' first | exact trivial | intro h | refine aO ?_ | refine eO ?_ | apply And.intro)
    all_goals first | rfl | (exfalso; omega)
theorem w76 (L : List Oc) (y : Oc) : Pure Tryz.prog 76 [InsS L, Ins y] (· = I (ixI L y)) := by
  refine gstart mxd i76 rfl (by simp) ?_; refine X0 ?_
  (refine V0 ?_; with_reducible repeat' first | exact trivial | intro h | refine aO ?_ | refine eO ?_ | apply And.intro)
  refine callS.eq (w141 L y) ?_
  (refine V0 ?_; with_reducible repeat' first | exact trivial | intro h | refine aO ?_ | refine eO ?_ | apply And.intro)
theorem w180 (t : List Sym) (f : Nat) (cs : List GV) (p : Sym → Bool) (hp : ∀ x ∈ t, Pure Tryz.prog f (Sy x :: cs) (· = B (p x))) :
    Pure Tryz.prog 180 [SyS t, .clo f cs] (· = I (ixOf p t)) := by
  refine GCalls.lenA fun hl => ?_
  have hlen := hl.1.1
  simp only [List.length_map, maxL] at hlen
  refine gstart mxd i180 rfl (by simp) ?_; refine X0 ?_
  (refine V0 ?_; with_reducible repeat' first | exact trivial | intro h | refine aO ?_ | refine eO ?_ | apply And.intro)
  refine wloop mxd (ι := { i : Nat // i ≤ t.length ∧ ∀ y ∈ t.take i, p y = false }) (fun i => [(0, SyS t), (1, .clo f cs), (7, I t.length), (8, I i.1)]) (fun _ => []) (fun i => t.length - i.1) ⟨0, by simp⟩ (by simp [E2]) rfl ?_
  rintro ⟨i, hi, hn⟩
  rcases Nat.lt_or_ge i t.length with hlt | hge
  · (refine V1 @XE ?_; with_reducible repeat' first | exact trivial | intro h | refine aO ?_ | refine eO ?_ | apply And.intro)
    all_goals try (exfalso; omega)
    refine callS.eq (hp t[i] (List.getElem_mem hlt)) ?_
    by_cases hb : p t[i] = true
    · have e := ixOf_hit hlt hb hn
      rw [e]
      (refine V1 hb ?_; with_reducible repeat' first | exact trivial | intro h | refine aO ?_ | refine eO ?_ | apply And.intro)
    · have hb' : p t[i] = false := by simpa using hb
      (refine V1 hb' ?_; with_reducible repeat' first | exact trivial | intro h | refine aO ?_ | refine eO ?_ | apply And.intro)
      exact nx ⟨i + 1, by omega, take_step hlt hb' hn⟩ (by simp <;> omega) (by simp [E2]) rfl
  · obtain rfl : i = t.length := by omega
    rw [List.take_length] at hn
    rw [ixOf_none hn]
    (refine V0 ?_; with_reducible repeat' first | exact trivial | intro h | refine aO ?_ | refine eO ?_ | apply And.intro)
    all_goals first | (exfalso; omega) | skip
theorem w112 (t : List Sym) (f : Nat) (cs : List GV) (p : Sym → Bool) (hp : ∀ x ∈ t, Pure Tryz.prog f (Sy x :: cs) (· = B (p x))) :
    Pure Tryz.prog 112 [SyS t, .clo f cs] (· = B (t.any p)) := by
  refine gstart mxd i112 rfl (by simp) ?_; refine X0 ?_
  refine callS.eq (w180 t f cs p hp) ?_
  (refine R0 ?_; with_reducible repeat' first | exact trivial | intro h | refine aO ?_ | refine eO ?_ | apply And.intro)
  rw [← any_ix]
theorem w176 (t : List Rul) (f : Nat) (cs : List GV) (p : Rul → Bool) (hp : ∀ x ∈ t, Pure Tryz.prog f (Ru x :: cs) (· = B (p x))) :
    Pure Tryz.prog 176 [RuS t, .clo f cs] (· = I (ixOf p t)) := by
  refine GCalls.lenA fun hl => ?_
  have hlen := hl.1.1
  simp only [List.length_map, maxL] at hlen
  refine gstart mxd i176 rfl (by simp) ?_; refine X0 ?_
  (refine V0 ?_; with_reducible repeat' first | exact trivial | intro h | refine aO ?_ | refine eO ?_ | apply And.intro)
  refine wloop mxd (ι := { i : Nat // i ≤ t.length ∧ ∀ y ∈ t.take i, p y = false }) (fun i => [(0, RuS t), (1, .clo f cs), (7, I t.length), (8, I i.1)]) (fun _ => []) (fun i => t.length - i.1) ⟨0, by simp⟩ (by simp [E2]) rfl ?_
  rintro ⟨i, hi, hn⟩
  rcases Nat.lt_or_ge i t.length with hlt | hge
  · (refine V1 @XE ?_; with_reducible repeat' first | exact trivial | intro h | refine aO ?_ | refine eO ?_ | apply And.intro)
    all_goals try (exfalso; omega)
    refine callS.eq (hp t[i] (List.getElem_mem hlt)) ?_
    by_cases hb : p t[i] = true
    · have e := ixOf_hit hlt hb hn
      rw [e]
      (refine V1 hb ?_; with_reducible repeat' first | exact trivial | intro h | refine aO ?_ | refine eO ?_ | apply And.intro)
    · have hb' : p t[i] = false := by simpa using hb
      (refine V1 hb' ?_; with_reducible repeat' first | exact trivial | intro h | refine aO ?_ | refine eO ?_ | apply And.intro)
      exact nx ⟨i + 1, by omega, take_step hlt hb' hn⟩ (by simp <;> omega) (by simp [E2]) rfl
  · obtain rfl : i = t.length := by omega
    rw [List.take_length] at hn
    rw [ixOf_none hn]
    (refine V0 ?_; with_reducible repeat' first | exact trivial | intro h | refine aO ?_ | refine eO ?_ | apply And.intro)
    all_goals first | (exfalso; omega) | skip
theorem w107 (t : List Rul) (f : Nat) (cs : List GV) (p : Rul → Bool) (hp : ∀ x ∈ t, Pure Tryz.prog f (Ru x :: cs) (· = B (p x))) :
    Pure Tryz.prog 107 [RuS t, .clo f cs] (· = B (t.any p)) := by
  refine gstart mxd i107 rfl (by simp) ?_; refine X0 ?_
  refine callS.eq (w176 t f cs p hp) ?_
  (refine R0 ?_; with_reducible repeat' first | exact trivial | intro h | refine aO ?_ | refine eO ?_ | apply And.intro)
  rw [← any_ix]
theorem w163 (t : List Att) (f : Nat) (cs : List GV) (p : Att → Bool) (hp : ∀ x ∈ t, Pure Tryz.prog f (At x :: cs) (· = B (p x))) :
    Pure Tryz.prog 163 [AtS t, .clo f cs] (· = I (ixOf p t)) := by
  refine GCalls.lenA fun hl => ?_
  have hlen := hl.1.1
  simp only [List.length_map, maxL] at hlen
  refine gstart mxd i163 rfl (by simp) ?_; refine X0 ?_
  (refine V0 ?_; with_reducible repeat' first | exact trivial | intro h | refine aO ?_ | refine eO ?_ | apply And.intro)
  refine wloop mxd (ι := { i : Nat // i ≤ t.length ∧ ∀ y ∈ t.take i, p y = false }) (fun i => [(0, AtS t), (1, .clo f cs), (7, I t.length), (8, I i.1)]) (fun _ => []) (fun i => t.length - i.1) ⟨0, by simp⟩ (by simp [E2]) rfl ?_
  rintro ⟨i, hi, hn⟩
  rcases Nat.lt_or_ge i t.length with hlt | hge
  · (refine V1 @XE ?_; with_reducible repeat' first | exact trivial | intro h | refine aO ?_ | refine eO ?_ | apply And.intro)
    all_goals try (exfalso; omega)
    refine callS.eq (hp t[i] (List.getElem_mem hlt)) ?_
    by_cases hb : p t[i] = true
    · have e := ixOf_hit hlt hb hn
      rw [e]
      (refine V1 hb ?_; with_reducible repeat' first | exact trivial | intro h | refine aO ?_ | refine eO ?_ | apply And.intro)
    · have hb' : p t[i] = false := by simpa using hb
      (refine V1 hb' ?_; with_reducible repeat' first | exact trivial | intro h | refine aO ?_ | refine eO ?_ | apply And.intro)
      exact nx ⟨i + 1, by omega, take_step hlt hb' hn⟩ (by simp <;> omega) (by simp [E2]) rfl
  · obtain rfl : i = t.length := by omega
    rw [List.take_length] at hn
    rw [ixOf_none hn]
    (refine V0 ?_; with_reducible repeat' first | exact trivial | intro h | refine aO ?_ | refine eO ?_ | apply And.intro)
    all_goals first | (exfalso; omega) | skip
theorem w95 (t : List Att) (f : Nat) (cs : List GV) (p : Att → Bool) (hp : ∀ x ∈ t, Pure Tryz.prog f (At x :: cs) (· = B (p x))) :
    Pure Tryz.prog 95 [AtS t, .clo f cs] (· = B (t.any p)) := by
  refine gstart mxd i95 rfl (by simp) ?_; refine X0 ?_
  refine callS.eq (w163 t f cs p hp) ?_
  (refine R0 ?_; with_reducible repeat' first | exact trivial | intro h | refine aO ?_ | refine eO ?_ | apply And.intro)
  rw [← any_ix]
theorem w226 (t : List Oc) (f : Nat) (cs : List GV) (p : Oc → Bool) (hp : ∀ x ∈ t, Pure Tryz.prog f (Occ x :: cs) (· = B (p x))) :
    Pure Tryz.prog 226 [OcS t, .clo f cs] (· = I (ixOf p t)) := by
  refine GCalls.lenA fun hl => ?_
  have hlen := hl.1.1
  simp only [List.length_map, maxL] at hlen
  refine gstart mxd i226 rfl (by simp) ?_; refine X0 ?_
  (refine V0 ?_; with_reducible repeat' first | exact trivial | intro h | refine aO ?_ | refine eO ?_ | apply And.intro)
  refine wloop mxd (ι := { i : Nat // i ≤ t.length ∧ ∀ y ∈ t.take i, p y = false }) (fun i => [(0, OcS t), (1, .clo f cs), (7, I t.length), (8, I i.1)]) (fun _ => []) (fun i => t.length - i.1) ⟨0, by simp⟩ (by simp [E2]) rfl ?_
  rintro ⟨i, hi, hn⟩
  rcases Nat.lt_or_ge i t.length with hlt | hge
  · (refine V1 @XE ?_; with_reducible repeat' first | exact trivial | intro h | refine aO ?_ | refine eO ?_ | apply And.intro)
    all_goals try (exfalso; omega)
    refine callS.eq (hp t[i] (List.getElem_mem hlt)) ?_
    by_cases hb : p t[i] = true
    · have e := ixOf_hit hlt hb hn
      rw [e]
      (refine V1 hb ?_; with_reducible repeat' first | exact trivial | intro h | refine aO ?_ | refine eO ?_ | apply And.intro)
    · have hb' : p t[i] = false := by simpa using hb
      (refine V1 hb' ?_; with_reducible repeat' first | exact trivial | intro h | refine aO ?_ | refine eO ?_ | apply And.intro)
      exact nx ⟨i + 1, by omega, take_step hlt hb' hn⟩ (by simp <;> omega) (by simp [E2]) rfl
  · obtain rfl : i = t.length := by omega
    rw [List.take_length] at hn
    rw [ixOf_none hn]
    (refine V0 ?_; with_reducible repeat' first | exact trivial | intro h | refine aO ?_ | refine eO ?_ | apply And.intro)
    all_goals first | (exfalso; omega) | skip
theorem w165 (t : List Oc) (f : Nat) (cs : List GV) (p : Oc → Bool) (hp : ∀ x ∈ t, Pure Tryz.prog f (Occ x :: cs) (· = B (p x))) :
    Pure Tryz.prog 165 [OcS t, .clo f cs] (· = B (t.any p)) := by
  refine gstart mxd i165 rfl (by simp) ?_; refine X0 ?_
  refine callS.eq (w226 t f cs p hp) ?_
  (refine R0 ?_; with_reducible repeat' first | exact trivial | intro h | refine aO ?_ | refine eO ?_ | apply And.intro)
  rw [← any_ix]
theorem w227 (t : List Eqn) (f : Nat) (cs : List GV) (p : Eqn → Bool) (hp : ∀ x ∈ t, Pure Tryz.prog f (Qn x :: cs) (· = B (p x))) :
    Pure Tryz.prog 227 [QnS t, .clo f cs] (· = I (ixOf p t)) := by
  refine GCalls.lenA fun hl => ?_
  have hlen := hl.1.1
  simp only [List.length_map, maxL] at hlen
  refine gstart mxd i227 rfl (by simp) ?_; refine X0 ?_
  (refine V0 ?_; with_reducible repeat' first | exact trivial | intro h | refine aO ?_ | refine eO ?_ | apply And.intro)
  refine wloop mxd (ι := { i : Nat // i ≤ t.length ∧ ∀ y ∈ t.take i, p y = false }) (fun i => [(0, QnS t), (1, .clo f cs), (7, I t.length), (8, I i.1)]) (fun _ => []) (fun i => t.length - i.1) ⟨0, by simp⟩ (by simp [E2]) rfl ?_
  rintro ⟨i, hi, hn⟩
  rcases Nat.lt_or_ge i t.length with hlt | hge
  · (refine V1 @XE ?_; with_reducible repeat' first | exact trivial | intro h | refine aO ?_ | refine eO ?_ | apply And.intro)
    all_goals try (exfalso; omega)
    refine callS.eq (hp t[i] (List.getElem_mem hlt)) ?_
    by_cases hb : p t[i] = true
    · have e := ixOf_hit hlt hb hn
      rw [e]
      (refine V1 hb ?_; with_reducible repeat' first | exact trivial | intro h | refine aO ?_ | refine eO ?_ | apply And.intro)
    · have hb' : p t[i] = false := by simpa using hb
      (refine V1 hb' ?_; with_reducible repeat' first | exact trivial | intro h | refine aO ?_ | refine eO ?_ | apply And.intro)
      exact nx ⟨i + 1, by omega, take_step hlt hb' hn⟩ (by simp <;> omega) (by simp [E2]) rfl
  · obtain rfl : i = t.length := by omega
    rw [List.take_length] at hn
    rw [ixOf_none hn]
    (refine V0 ?_; with_reducible repeat' first | exact trivial | intro h | refine aO ?_ | refine eO ?_ | apply And.intro)
    all_goals first | (exfalso; omega) | skip
theorem w168 (t : List Eqn) (f : Nat) (cs : List GV) (p : Eqn → Bool) (hp : ∀ x ∈ t, Pure Tryz.prog f (Qn x :: cs) (· = B (p x))) :
    Pure Tryz.prog 168 [QnS t, .clo f cs] (· = B (t.any p)) := by
  refine gstart mxd i168 rfl (by simp) ?_; refine X0 ?_
  refine callS.eq (w227 t f cs p hp) ?_
  (refine R0 ?_; with_reducible repeat' first | exact trivial | intro h | refine aO ?_ | refine eO ?_ | apply And.intro)
  rw [← any_ix]
end Go.Proofs.YtbdmpkidcpblaaaGreat
