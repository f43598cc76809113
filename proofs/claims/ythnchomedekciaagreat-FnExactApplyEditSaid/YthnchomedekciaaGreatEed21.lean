/- The law FnExactApplyEdit returns true whatever the input, and the input reads behind the call as before. No condition. -/
import Derived.Test.YthnchomedekciaaGreatEed20
set_option maxHeartbeats 40000000
namespace Go.Proofs.YthnchomedekciaaGreat
open Go.Gh
open Nat (reduceEqDiff reduceLeDiff reduceAdd reduceLT)
open Int (reduceNe)
set_option maxRecDepth 20000
set_option linter.unusedSimpArgs false
set_option linter.unusedVariables false
theorem p13 (g : Gram) (t : List Nod) (e : Edi) (hg : smGr g) (ho : okGr g) (hl : t.length ≤ 1048576) (hx : ∀ x ∈ t, x.kids.length ≤ 1048576) (hu1 : e.tree.length ≤ 1048576) (hu2 : ∀ x ∈ e.tree, x.kids.length ≤ 1048576) (H : GH) :
  GCalls Tryz.prog 13 [Gr g, Tr t, Ed e] H (fun v H' => ∃ H1, (∃ r, v = .tup [.agg [.own r 6 0 (edT g t e).1.length], I (edT g t e).2] ∧ H1 = [(r, 6, (edT g t e).1.map NdO)]) ∧ H' = H1 ++ H) :=
 (o13 g t e hg ho hl hx hu1 hu2 H).mono fun v H' ⟨r, h1, h2⟩ => ⟨_, ⟨r, h1, rfl⟩, h2⟩
theorem w3 (g : Gram) (t : List Nod) (e : Edi) (ho : okGr g) (ht : ∀ x ∈ t, x.rule.size ≤ maxLen) (he : ∀ x ∈ e.tree, x.rule.size ≤ maxLen) : Pure Tryz.prog 3 [Gr g, Tr t, Ed e] (· = B true) := by
 refine gstart mxd i3 rfl (by simp) ?_; refine X0 ?_
 refine callS.eq (w6 g _ (by omega) (by omega) ho) ?_
 (refine R0 ?_; with_reducible repeat' first|exact trivial|intro h|refine aO ?_|refine eO ?_|apply jO)
 have h1 := szv_nn h
 have hs := smGr_of (g := g) (by omega)
 have hcg := ctGr g
 rw [szv_pos h1]
 refine callS.eq (w7 t _ (by omega) (by omega) ht) ?_
 (refine R0 ?_; with_reducible repeat' first|exact trivial|intro h|refine aO ?_|refine eO ?_|apply jO)
 have hb := szTr h (by omega)
 have hm := mkEnd_small h (by omega)
 have h2 := szv_nn h
 rw [szv_pos h2]
 refine callS.eq (w8 e _ (by omega) (by omega) he) ?_
 (refine R0 ?_; with_reducible repeat' first|exact trivial|intro h|refine aO ?_|refine eO ?_|apply jO)
 have hb2 := szTr h (by omega)
 have hm2 := mkEnd_small h (by omega)
 have hme := mkEnd_le 1 t
 have hme2 := mkEnd_le 1 e.tree
 have hst := edT_mk g t e
 have q1 := q9 g t e hs ho hb.1 hb.2 hb2.1 hb2.2
 have q2 := q13 g t e hs ho hb.1 hb.2 hb2.1 hb2.2
 have q3 := p13 g t e hs ho hb.1 hb.2 hb2.1 hb2.2
 generalize edT g t e = S at *
 obtain ⟨s, c⟩ := S
 dsimp only at hst q1 q2 q3
 have hms := mkEnd_le 1 s
 refine callS.eq (w10 g hs) ?_
 (refine V0 ?_; with_reducible repeat' first|exact trivial|intro h|refine aO ?_|refine eO ?_|apply jO)
 refine callS.eq (w11 t hb.1 hb.2) ?_
 (refine V0 ?_; with_reducible repeat' first|exact trivial|intro h|refine aO ?_|refine eO ?_|apply jO)
 refine callS.eq (w12 e hb2.1 hb2.2) ?_
 (refine V0 ?_; with_reducible repeat' first|exact trivial|intro h|refine aO ?_|refine eO ?_|apply jO)
 refine callS.eq q1 ?_
 (refine V0 ?_; with_reducible repeat' first|exact trivial|intro h|refine aO ?_|refine eO ?_|apply jO)
 refine callS.of (o10 g hs _) ?_
 rintro v H' ⟨rs, rr, hrr, rfl, rfl⟩ -
 (refine V1 hrr ?_; with_reducible repeat' first|exact trivial|intro h|refine aO ?_|refine eO ?_|apply jO)
 refine callS.of (o11 t hb.1 hb.2 _) ?_
 rintro v H' ⟨rt, rfl, rfl⟩ hn
 replace hn := neH_of hn
 (replace hn := hn; simp only [VN] at hn)
 (refine V1 hn ?_; with_reducible repeat' first|exact trivial|intro h|refine aO ?_|refine eO ?_|apply jO)
 refine callS.of (o12 e hb2.1 hb2.2 _) ?_
 rintro v H' ⟨re, rfl, rfl⟩ hn2
 replace hn2 := neH_of hn2
 (replace hn2 := hn2; simp only [VN] at hn2)
 (refine V1 hn2 ?_; with_reducible repeat' first|exact trivial|intro h|refine aO ?_|refine eO ?_|apply jO)
 refine callS.lend q3 (.cons (bor_Gr (rs := rs) (rr := rr) (by simp [hget_c, hn2]) (by simp [hget_c, hn2]) rfl rfl) (.cons (bor_Tr (by simp [hget_c, hn2]) rfl) (.cons (bor_Ed hget_new rfl) .nil))) (by rintro v H1 ⟨r, rfl, rfl⟩; simp [noD, noDH, noDL_eq]) ?_
 rintro v H1 ⟨rg, rfl, rfl⟩ hng
 simp only [List.cons_append, List.nil_append] at hng ⊢
 replace hng := neH_of hng
 (replace hng := hng; simp only [VN] at hng)
 (refine V1 hng ?_; with_reducible repeat' first|exact trivial|intro h|refine aO ?_|refine eO ?_|apply jO)
 refine callS.borA (w14 s s) (.cons (bor_Tr hget_new rfl) (.cons .refl .nil)) rfl ?_
 (refine V1 hng ?_; with_reducible repeat' first|exact trivial|intro h|refine aO ?_|refine eO ?_|apply jO)
 refine callS.eq (w10 g hs) ?_
 (refine V1 hng ?_; with_reducible repeat' first|exact trivial|intro h|refine aO ?_|refine eO ?_|apply jO)
 refine callS.borA (w15 g g) (.cons (bor_Gr (rs := rs) (rr := rr) (by simp [hget_c, hng]) (by simp [hget_c, hng]) rfl rfl) (.cons .refl .nil)) rfl ?_
 (refine V1 hng ?_; with_reducible repeat' first|exact trivial|intro h|refine aO ?_|refine eO ?_|apply jO)
 refine callS.eq (w11 t hb.1 hb.2) ?_
 (refine V1 hng ?_; with_reducible repeat' first|exact trivial|intro h|refine aO ?_|refine eO ?_|apply jO)
 refine callS.borA (w14 t t) (.cons (bor_Tr (by simp [hget_c, hng]) rfl) (.cons .refl .nil)) rfl ?_
 (refine V1 hng ?_; with_reducible repeat' first|exact trivial|intro h|refine aO ?_|refine eO ?_|apply jO)
 refine callS.eq (w12 e hb2.1 hb2.2) ?_
 (refine V1 hng ?_; with_reducible repeat' first|exact trivial|intro h|refine aO ?_|refine eO ?_|apply jO)
 refine callS.borA (w16 e e) (.cons (bor_Ed (by simp [hget_c, hng]) rfl) (.cons .refl .nil)) rfl ?_
 (refine V1 hng ?_; with_reducible repeat' first|exact trivial|intro h|refine aO ?_|refine eO ?_|apply jO)
 refine callS.of (w17 rs rr g.syms.length g.rules.length 1 g _ (by simp [hng]) (by simp [hget_c, hng]) (by simp [hget_c, hng]) rfl rfl (by omega) (by omega)) ?_
 rintro v H' ⟨rfl, rfl⟩ -
 (refine V1 hng ?_; with_reducible repeat' first|exact trivial|intro h|refine aO ?_|refine eO ?_|apply jO)
 obtain ⟨k0, hk0⟩ : ∃ k0 : Int, k0 = 1 + smw wSym g.syms + smw wR g.rules := ⟨_, rfl⟩
 have hmf := mkEnd_from k0 t
 refine callS.of (w18 rt t.length (1 + smw wSym g.syms + smw wR g.rules) t _ (by simp [hget_c, hng]) rfl (by omega) (by rw [← hk0]; omega)) ?_
 rintro v H' ⟨rfl, rfl⟩ -
 rw [← hk0]
 generalize hk1 : mkEnd k0 t = k1 at *
 have hmg := mkEnd_from k1 e.tree
 (refine V1 hng ?_; with_reducible repeat' first|exact trivial|intro h|refine aO ?_|refine eO ?_|apply jO)
 refine callS.of (w19 re e.tree.length k1 _ _ _ _ e.tree _ (by simp [hget_c, hng]) rfl (by omega) (by omega)) ?_
 rintro v H' ⟨rfl, rfl⟩ -
 have hmk : ¬ (mkEnd k1 e.tree < 0) := by omega
 (refine V1 (jO hng hmk) ?_; with_reducible repeat' first|exact trivial|intro h|refine aO ?_|refine eO ?_|apply jO)
 refine callS.borA (w14 s s) (.cons (bor_Tr hget_new rfl) (.cons .refl .nil)) rfl ?_
 (refine V1 hng ?_; with_reducible repeat' first|exact trivial|intro h|refine aO ?_|refine eO ?_|apply jO)
 refine callS.of (w18 rg s.length 1 s _ hget_new rfl (by omega) (by omega)) ?_
 rintro v H' ⟨rfl, rfl⟩ -
 rw [hset_new]
 (refine V1 hng ?_; with_reducible repeat' first|exact trivial|intro h|refine aO ?_|refine eO ?_|apply jO)
 refine callS.borA (w20 1 s (by omega) (by omega)) (.cons (bor_Tr hget_new (mkNods_len _ _)) (.cons .refl .nil)) rfl ?_
 have hmq : ¬ (mkEnd 1 s < 0) := by omega
 (refine V1 (jO hng hmq) ?_; with_reducible repeat' first|exact trivial|intro h|refine aO ?_|refine eO ?_|apply jO)
 refine callS.eq (w10 g hs) ?_
 (refine V1 hng ?_; with_reducible repeat' first|exact trivial|intro h|refine aO ?_|refine eO ?_|apply jO)
 refine callS.eq (w11 t hb.1 hb.2) ?_
 (refine V1 hng ?_; with_reducible repeat' first|exact trivial|intro h|refine aO ?_|refine eO ?_|apply jO)
 refine callS.eq (w12 e hb2.1 hb2.2) ?_
 (refine V1 hng ?_; with_reducible repeat' first|exact trivial|intro h|refine aO ?_|refine eO ?_|apply jO)
 refine callS.eq q2 ?_
 (refine V1 hng ?_; with_reducible repeat' first|exact trivial|intro h|refine aO ?_|refine eO ?_|apply jO)
 refine callS.eq (w14 s s) ?_
 (refine V1 hng ?_; with_reducible repeat' first|exact trivial|intro h|refine aO ?_|refine eO ?_|apply jO)
 refine callS.borA (w20 1 s (by omega) (by omega)) (.cons (bor_Tr hget_new (mkNods_len _ _)) (.cons .refl .nil)) rfl ?_
 (refine V1 (jO hng hmq) ?_; with_reducible repeat' first|exact trivial|intro h|refine aO ?_|refine eO ?_|apply jO)
end Go.Proofs.YthnchomedekciaaGreat
