/- The law FnExactApplyEdits returns true whatever the input, and the input reads behind the call as before. No condition. -/
import Derived.Test.YthnchomedekciaaGreatEes17
set_option maxHeartbeats 40000000
namespace Go.Proofs.YthnchomedekciaaGreat
open Go.Gh
open Nat (reduceEqDiff reduceLeDiff reduceAdd reduceLT)
open Int (reduceNe)
set_option maxRecDepth 20000
set_option linter.unusedSimpArgs false
set_option linter.unusedVariables false
theorem w4 (g : Gram) (t : List Nod) (L : List Edi) (ho : okGr g) (ht : ∀ x ∈ t, x.rule.size ≤ maxLen) (he : ∀ e ∈ L, ∀ x ∈ e.tree, x.rule.size ≤ maxLen) : Pu 4 [Gr g, Tr t, EdS L] (· = B true) := by
 refine gstart mxd i4 rfl (by simp) ?_; refine X0 ?_
 refine callS.eq (w6 g _ (by omega) (by omega) ho) ?_
 (refine R0 ?_; with_reducible repeat' first|exact trivial|intro h|refine aO ?_|refine eO ?_|apply jO)
 have h1 := szv_nn h
 have hs := smGr_of (g := g) (by omega)
 have hcg := ctGr g
 rw [szv_pos h1]
 refine callS.eq (w7 t _ (by omega) (by omega) ht) ?_
 (refine R0 ?_; with_reducible repeat' first|exact trivial|intro h|refine aO ?_|refine eO ?_|apply jO)
 have hb := szTr h (by omega)
 have hm := mkEnd_small h (by omega)
 have h2 := szv_nn h
 rw [szv_pos h2]
 refine callS.eq (w21 L _ (by omega) (by omega) he) ?_
 (refine R0 ?_; with_reducible repeat' first|exact trivial|intro h|refine aO ?_|refine eO ?_|apply jO)
 have h3 := szv_nn h
 have hL0 := wtS_mem (wt := wEd) (l := L) (n := 1048576) (by omega)
 have hL := hL0.1
 have hu : ∀ e ∈ L, e.tree.length ≤ 1048576 ∧ ∀ x ∈ e.tree, x.kids.length ≤ 1048576 := fun e he => by
  obtain ⟨k1, k2⟩ := wtS_mem (hL0.2 e he)
  exact ⟨k1, fun x hx => by have := k2 x hx; simp only [wNd] at this; omega⟩
 have hwm := smw_sum wMk (f := wEd) (l := L) 5 (fun e _ => wMk_le e)
 have hme := mkEnd_le 1 t
 have hst : mkEnd 1 (edTr g t L L.length) ≤ 6291457 := by
  have := edTr_mk g t L L.length
  omega
 have hCl := edC_len g t L
 have q1 := q22 g t L hs ho hb.1 hb.2 hL hu
 have q2 := q24 g t L hs ho hb.1 hb.2 hL hu
 have q3 := o24 g t L hs ho hb.1 hb.2 hL hu
 generalize edTr g t L L.length = s at *
 generalize edC g t L = C at *
 rw [← hCl] at q3
 have hms := mkEnd_le 1 s
 refine callS.eq (w10 g hs) ?_
 (refine V0 ?_; with_reducible repeat' first|exact trivial|intro h|refine aO ?_|refine eO ?_|apply jO)
 refine callS.eq (w11 t hb.1 hb.2) ?_
 (refine V0 ?_; with_reducible repeat' first|exact trivial|intro h|refine aO ?_|refine eO ?_|apply jO)
 refine callS.eq (w23 L hL hu) ?_
 (refine V0 ?_; with_reducible repeat' first|exact trivial|intro h|refine aO ?_|refine eO ?_|apply jO)
 refine callS.eq q1 ?_
 (refine V0 ?_; with_reducible repeat' first|exact trivial|intro h|refine aO ?_|refine eO ?_|apply jO)
 refine callS.of (o10 g hs _) ?_
 rintro v H' ⟨rs, rr, hrr, rfl, rfl⟩ -
 (refine V1 hrr ?_; with_reducible repeat' first|exact trivial|intro h|refine aO ?_|refine eO ?_|apply jO)
 refine callS.of (o11 t hb.1 hb.2 _) ?_
 rintro v H' ⟨rt, rfl, rfl⟩ hn
 replace hn := neH_of hn
 (replace hn := hn; simp only [VN] at hn)
 (refine V1 hn ?_; with_reducible repeat' first|exact trivial|intro h|refine aO ?_|refine eO ?_|apply jO)
 refine callS.of (o23 L hL hu _) ?_
 rintro v H' ⟨re, rfl, rfl⟩ hn2
 replace hn2 := neH_of hn2
 (replace hn2 := hn2; simp only [VN] at hn2)
 (refine V1 hn2 ?_; with_reducible repeat' first|exact trivial|intro h|refine aO ?_|refine eO ?_|apply jO)
 refine callS.lend q3 (.cons (bor_Gr (rs := rs) (rr := rr) (by simp [hget_c, hn2]) (by simp [hget_c, hn2]) rfl rfl) (.cons (bor_Tr (by simp [hget_c, hn2]) rfl) (.cons (bor_EdS hget_new rfl) .nil))) (by rintro v H1 ⟨q, c, hqc, rfl, rfl⟩; simp [noD, noDL, noDH, noDL_eq]) ?_
 rintro v H1 ⟨rg, rc, hqc, rfl, rfl⟩ hng
 simp only [List.cons_append, List.nil_append] at hng ⊢
 replace hng := neH_of hng
 (replace hng := hng; simp only [VN] at hng)
 (refine V1 hng ?_; with_reducible repeat' first|exact trivial|intro h|refine aO ?_|refine eO ?_|apply jO)
 refine callS.borA (w14 s s) (.cons (bor_Tr (by simp [hget_c, hng]) rfl) (.cons .refl .nil)) rfl ?_
 (refine V1 hng ?_; with_reducible repeat' first|exact trivial|intro h|refine aO ?_|refine eO ?_|apply jO)
 refine callS.borA (w25 C C) (.cons (bor_IS hget_new rfl) (.cons .refl .nil)) rfl ?_
 (refine V1 hng ?_; with_reducible repeat' first|exact trivial|intro h|refine aO ?_|refine eO ?_|apply jO)
 refine callS.eq (w10 g hs) ?_
 (refine V1 hng ?_; with_reducible repeat' first|exact trivial|intro h|refine aO ?_|refine eO ?_|apply jO)
 refine callS.borA (w15 g g) (.cons (bor_Gr (rs := rs) (rr := rr) (by simp [hget_c, hng]) (by simp [hget_c, hng]) rfl rfl) (.cons .refl .nil)) rfl ?_
 (refine V1 hng ?_; with_reducible repeat' first|exact trivial|intro h|refine aO ?_|refine eO ?_|apply jO)
 refine callS.eq (w11 t hb.1 hb.2) ?_
 (refine V1 hng ?_; with_reducible repeat' first|exact trivial|intro h|refine aO ?_|refine eO ?_|apply jO)
 refine callS.borA (w14 t t) (.cons (bor_Tr (by simp [hget_c, hng]) rfl) (.cons .refl .nil)) rfl ?_
 (refine V1 hng ?_; with_reducible repeat' first|exact trivial|intro h|refine aO ?_|refine eO ?_|apply jO)
 refine callS.eq (w23 L hL hu) ?_
 (refine V1 hng ?_; with_reducible repeat' first|exact trivial|intro h|refine aO ?_|refine eO ?_|apply jO)
 refine callS.borA (w26 L L) (.cons (bor_EdS (by simp [hget_c, hng]) rfl) (.cons .refl .nil)) rfl ?_
 (refine V1 hng ?_; with_reducible repeat' first|exact trivial|intro h|refine aO ?_|refine eO ?_|apply jO)
 refine callS.of (w17 rs rr g.syms.length g.rules.length 1 g _ (by simp [hng]) (by simp [hget_c, hng]) (by simp [hget_c, hng]) rfl rfl (by omega) (by omega)) ?_
 rintro v H' ⟨rfl, rfl⟩ -
 (refine V1 hng ?_; with_reducible repeat' first|exact trivial|intro h|refine aO ?_|refine eO ?_|apply jO)
 obtain ⟨k0, hk0⟩ : ∃ k0 : Int, k0 = 1 + smw wSym g.syms + smw wR g.rules := ⟨_, rfl⟩
 have hmf := mkEnd_from k0 t
 refine callS.of (w18 rt t.length (1 + smw wSym g.syms + smw wR g.rules) t _ (by simp [hget_c, hng]) rfl (by omega) (by rw [← hk0]; omega)) ?_
 rintro v H' ⟨rfl, rfl⟩ -
 rw [← hk0]
 generalize hk1 : mkEnd k0 t = k1 at *
 (refine V1 hng ?_; with_reducible repeat' first|exact trivial|intro h|refine aO ?_|refine eO ?_|apply jO)
 refine callS.of (w27 re L.length k1 L _ (by simp [hget_c, hng]) rfl (by omega) (by omega)) ?_
 rintro v H' ⟨rfl, rfl⟩ -
 have hmk : ¬ (k1 + smw wMk L < 0) := by omega
 (refine V1 (jO hng hmk) ?_; with_reducible repeat' first|exact trivial|intro h|refine aO ?_|refine eO ?_|apply jO)
 refine callS.borA (w14 s s) (.cons (bor_Tr (by simp [hget_c, hng]) rfl) (.cons .refl .nil)) rfl ?_
 (refine V1 hng ?_; with_reducible repeat' first|exact trivial|intro h|refine aO ?_|refine eO ?_|apply jO)
 refine callS.borA (w25 C C) (.cons (bor_IS hget_new rfl) (.cons .refl .nil)) rfl ?_
 (refine V1 hng ?_; with_reducible repeat' first|exact trivial|intro h|refine aO ?_|refine eO ?_|apply jO)
 refine callS.of (w18 rg s.length 1 s _ (by simp [hget_c, hng]) rfl (by omega) (by omega)) ?_
 rintro v H' ⟨rfl, rfl⟩ -
 (refine V1 hng ?_; with_reducible repeat' first|exact trivial|intro h|refine aO ?_|refine eO ?_|apply jO)
 refine callS.of (w28 rc C.length (mkEnd 1 s) C _ hget_new rfl (by omega) (by omega)) ?_
 rintro v H' ⟨rfl, rfl⟩ -
 rw [hset_new]
 (refine V1 hng ?_; with_reducible repeat' first|exact trivial|intro h|refine aO ?_|refine eO ?_|apply jO)
 refine callS.borA (w20 1 s (by omega) (by omega)) (.cons (bor_Tr (by simp [hget_c, hng]) (mkNods_len _ _)) (.cons .refl .nil)) rfl ?_
 have hmq : ¬ (mkEnd 1 s < 0) := by omega
 have hmq2 : ¬ (mkEnd 1 s + C.length < 0) := by omega
 (refine V1 (jO hng hmq) ?_; with_reducible repeat' first|exact trivial|intro h|refine aO ?_|refine eO ?_|apply jO)
 refine callS.borA (w29 C.length (mkEnd 1 s) (by omega) (by omega)) (.cons (bor_IS hget_new (upFrom_len _ _)) (.cons .refl .nil)) rfl ?_
 (refine V1 (jO hng (jO hmq hmq2)) ?_; with_reducible repeat' first|exact trivial|intro h|refine aO ?_|refine eO ?_|apply jO)
 refine callS.eq (w10 g hs) ?_
 (refine V1 hng ?_; with_reducible repeat' first|exact trivial|intro h|refine aO ?_|refine eO ?_|apply jO)
 refine callS.eq (w11 t hb.1 hb.2) ?_
 (refine V1 hng ?_; with_reducible repeat' first|exact trivial|intro h|refine aO ?_|refine eO ?_|apply jO)
 refine callS.eq (w23 L hL hu) ?_
 (refine V1 hng ?_; with_reducible repeat' first|exact trivial|intro h|refine aO ?_|refine eO ?_|apply jO)
 refine callS.eq q2 ?_
 (refine V1 hng ?_; with_reducible repeat' first|exact trivial|intro h|refine aO ?_|refine eO ?_|apply jO)
 refine callS.eq (w14 s s) ?_
 (refine V1 hng ?_; with_reducible repeat' first|exact trivial|intro h|refine aO ?_|refine eO ?_|apply jO)
 refine callS.eq (w25 C C) ?_
 (refine V1 hng ?_; with_reducible repeat' first|exact trivial|intro h|refine aO ?_|refine eO ?_|apply jO)
 refine callS.borA (w20 1 s (by omega) (by omega)) (.cons (bor_Tr (by simp [hget_c, hng]) (mkNods_len _ _)) (.cons .refl .nil)) rfl ?_
 (refine V1 (jO hng hmq) ?_; with_reducible repeat' first|exact trivial|intro h|refine aO ?_|refine eO ?_|apply jO)
 refine callS.borA (w29 C.length (mkEnd 1 s) (by omega) (by omega)) (.cons (bor_IS hget_new (upFrom_len _ _)) (.cons .refl .nil)) rfl ?_
 (refine V1 (jO hng (jO hmq hmq2)) ?_; with_reducible repeat' first|exact trivial|intro h|refine aO ?_|refine eO ?_|apply jO)
end Go.Proofs.YthnchomedekciaaGreat
namespace Go.Proofs.YthnchomedekciaaGreat
open Go.ChangeShapes Go.WideShapes Go.ChangeAt Go.RowKit Go.Gh
theorem Tryz.own : ownKnob Tryz.prog.godebug = none := by kernel_rfl
theorem Tryz.laidOut : laidOutB Tryz.prog = true := by kernel_rfl
theorem Tryz.mapsRowed : mapsRowed Tryz.prog = true := by kernel_rfl
def Tryz.R : TypeId → Option (GV → Prop) := fun t => if t = 227 then some ExQ else none
set_option maxRecDepth 100000 in
theorem Tryz.knot {H : Type} {enc : TypeId × Value → H} {W : World} {spare : Nat → Bool} {held : Bool} : ∀ f t Q cs x, Tryz.R t = some Q → DataW.trod enc Tryz.prog W 0 spare held f t cs = some x → Lf W [.pr Q] cs :=
 Go.Gh.knot (tE := 229) (ts := ExT) (ag := true) 8 (by kernel_rfl) (by kernel_rfl) (by kernel_rfl) (by decide) (fun g h => exQ h)
end Go.Proofs.YthnchomedekciaaGreat
