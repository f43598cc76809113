/- The law FnExactFormatTree returns true whatever the input, and the input reads behind the call as before. No condition. -/
import Derived.Test.YtbdmpkidcpblaaaGreatDoorCft3
namespace Go.Proofs.YtbdmpkidcpblaaaGreatDoor
open Go.ChangeShapes Go.WideShapes Go.ChangeAt Go.RowKit Go.Gh
theorem Tryz.own : ownKnob Tryz.prog.godebug = none := by kernel_rfl
theorem Tryz.laidOut : laidOutB Tryz.prog = true := by kernel_rfl
theorem Tryz.mapsRowed : mapsRowed Tryz.prog = true := by kernel_rfl
def Tryz.R : TypeId → Option (GV → Prop) := fun t => if t = 118 then some ExQ else none
set_option maxRecDepth 100000 in
theorem Tryz.knot {H : Type} {enc : TypeId × Value → H} {W : World} {spare : Nat → Bool} {held : Bool} : ∀ f t Q cs x, Tryz.R t = some Q → DataW.trod enc Tryz.prog W 0 spare held f t cs = some x → Lf W [.pr Q] cs :=
  Go.Gh.knot (tE := 120) (ts := ExT) (ag := true) 8 (by kernel_rfl) (by kernel_rfl) (by kernel_rfl) (by decide) (fun g h => exQ h)
end Go.Proofs.YtbdmpkidcpblaaaGreatDoor

namespace Go.Proofs.YtbdmpkidcpblaaaGreatDoor
open Go.Gh
set_option maxRecDepth 20000
set_option linter.unusedSimpArgs false
set_option linter.unusedVariables false
open Go.ChangeShapes Go.WideShapes Go.ChangeAt Go.RowKit Go.Lib
abbrev Tryz.laid : List (String × DataW Unit) := [("math/bits.deBruijn32tab", Rows.laid_math_bits_deBruijn32tab), ("math/bits.deBruijn64tab", Rows.laid_math_bits_deBruijn64tab), ("internal/strconv.uint64pow10", Rows.laid_internal_strconv_uint64pow10)]
set_option maxRecDepth 100000 in
theorem Tryz.door_met (os : Os) (args : Array Value) : laidMetH Tryz.prog Tryz.laid ((World.doorLaid Tryz.prog 24 os).forCall (fun _ _ => 0) ⟨#[], args, []⟩).memory :=
  laidMetH_of_parts3 (fuel := 8) (laidMet_of_run' 8 (by kernel_rfl) (by kernel_rfl)) (by kernel_rfl) (by kernel_rfl)
theorem Tryz.tp10 : (Tryz.prog.globals[0]?).map (·.type) = some 162 := by kernel_rfl
set_option maxRecDepth 100000 in
theorem Tryz.of_laid {W : World} (h : laidMetH Tryz.prog Tryz.laid W) : TabIs Tryz.prog W "internal/strconv.uint64pow10" .u64 pow10Tab := by
  rw [MakeChecks.laidMetH_plain _ _ _ (by kernel_rfl)] at h
  obtain ⟨ps, ⟨g0, t0, cs0, f0, p0, q0, hg0, ht0, hv0, hd0, ⟨g1, t1, cs1, f1, p1, q1, hg1, ht1, hv1, hd1, ⟨g2, t2, cs2, f2, p2, q2, hg2, ht2, hv2, hd2, _, _⟩, _⟩, _⟩, _, _⟩ := h
  obtain rfl := Option.some.inj (Tryz.gp10.symm.trans hg2)
  obtain rfl := Option.some.inj (Tryz.tp10.symm.trans ht2)
  have e : (Rows.laid_internal_strconv_uint64pow10 : DataW Unit) = tabData .u64 pow10Tab := by rfl
  rw [e] at hd2
  unfold TabIs
  rw [hv2, ← cells_of_tab Tryz.underlying162 Tryz.underlying156 (by kernel_rfl) (by kernel_rfl) hd2]
end Go.Proofs.YtbdmpkidcpblaaaGreatDoor

namespace Go.Proofs.YtbdmpkidcpblaaaGreatDoor
open Go.ChangeShapes Go.WideShapes Go.ChangeAt Go.RowKit Go.Gh
set_option maxRecDepth 100000 in
theorem l3 (os : Os) (started : os.Started) (H : Type) (enc : TypeId × Value → H) :
    ReturnsInHanded {} Tryz.checked os 3 .any (fun w args => (Rows.fnExactFormatTreeSpec.pre enc Tryz.prog Tryz.f3 [] false w args ∧ laidMetH Tryz.prog Tryz.laid w) ∧ sizedMet enc Tryz.prog Tryz.f3 (OpenSpec.ofChange Rows.fnExactFormatTreeSpec) false w args) (Rows.fnExactFormatTreeSpec.post enc Tryz.prog Tryz.f3 false true false false) := by
  refine returnsInHanded_of_change_and (C := Tryz.checked) (X := fun w _ => laidMetH Tryz.prog Tryz.laid w) (fun _ _ _ hh h => h.of_heap hh) Tryz.own started (by kernel_rfl) Tryz.func3
    (ChangeSpec.witness_shaped (enc := enc) (C := Tryz.checked) (os := os) (X := fun w _ => laidMetH Tryz.prog Tryz.laid w) false (World.doorLaid Tryz.prog 24 os) #[.agg #[.slice none 0 0, .slice none 0 0], .agg #[.slice none 0 0]] 8 rfl (World.shaped_of_RefB (by kernel_rfl) (by kernel_rfl)) (by kernel_rfl) (by kernel_rfl) (by kernel_rfl) (Tryz.door_met os _)) ?_
  intro W base args ds gs before hval0 hW _ _ hL _
  have hval : ∀ (j : Nat) t v, Tryz.f3.params[j]? = some t → args[j]? = some v → Value.okWide Tryz.prog W .any base t v := hval0
  have hW' := hW
  obtain ⟨p, q, hA0, hV, rfl, hfz, hnd⟩ := hW
  have hA : DataW.TrodAll enc Tryz.prog W 0 (fun _ => true) true Tryz.f3.params.toList args.toList ds p := hA0
  rw [Tryz.params3] at hA hval
  obtain ⟨v0, v1, d0, d1, p0, p1, rfl, rfl, rfl, h0, h1⟩ := trodAll_two hA
  obtain ⟨rfl, rfl⟩ := trodVars_none hV
  obtain ⟨g0, m0, e0⟩ := lift_valR (P := Tryz.prog) (R := Tryz.R) 8 Tryz.knot (by kernel_rfl) (ts := GrT) (ag := true) (by kernel_rfl) (hval 0 _ v0 rfl rfl) h0
  obtain ⟨g1, m1, e1⟩ := lift_val (P := Tryz.prog) 8 (by kernel_rfl) (hval 1 _ v1 rfl rfl) h1
  obtain ⟨g, rfl, hg⟩ := t_Gr e0
  obtain ⟨t, rfl, ht⟩ := t_Tr e1
  clear hA0 hval0
  simp only [List.append_nil] at hW'
  have hlt := hW'.lt
  refine ((p3 g t hg ht).out i3 (W := W) (args := [v0, v1]) (.cons0 m0 (.cons0 m1 .nil0)) (HM.tab10 Tryz.gp10 (Tryz.of_laid hL)) (tabH_10 0).1).mono fun e W' ⟨v, g, D, he, hg, hm, hb⟩ => ?_
  subst he; subst hg
  have hv := MV.val_inv hm
  subst hv
  exact ⟨_, rfl, post_of_below (pa := p0 ++ p1) (pv := []) hW' (fun _ _ _ => trodAll_mk1 (shut_bool Tryz.underlying4 _)) (fun sp hsp => trodAll_mk2 (WideElems.Trod_stays Tryz.laidOut (by kernel_rfl) (of_decide_eq_true (by kernel_rfl)) h0 (fun x hx => hb.same (hlt x (by simp [hx]))) (fun x hx => hsp x (by simp [hx]))) (WideElems.Trod_stays Tryz.laidOut (by kernel_rfl) (of_decide_eq_true (by kernel_rfl)) h1 (fun x hx => hb.same (hlt x (by simp [hx]))) (fun x hx => hsp x (by simp [hx])))) (fun _ _ => rfl) (by simp)
    hb (ok_one (by kernel_rfl) rfl (okWide_bool_mk Tryz.underlying4 _))⟩
set_option maxRecDepth 100000 in
theorem ja3 : (Rows.fnExactFormatTreeRow.inPlace == Tryz.prog.inPlace 3) = true := by kernel_rfl
set_option maxRecDepth 100000 in
theorem jb3 : (Rows.fnExactFormatTreeRow.unfollowed == Tryz.prog.unfollowed 3) = true := by kernel_rfl
set_option maxRecDepth 100000 in
theorem jc3 : (Rows.fnExactFormatTreeRow.recurses == Tryz.prog.recurses 3) = true := by kernel_rfl
set_option maxRecDepth 100000 in
theorem jd3 : (Rows.fnExactFormatTreeRow.named == Tryz.prog.varsNamed 3) = true := by kernel_rfl
set_option maxRecDepth 100000 in
theorem j3 : joinedFacts Tryz.prog 3 Tryz.f3 Rows.fnExactFormatTreeSpec Rows.fnExactFormatTreeRow = true := by
  unfold joinedFacts
  rw [ja3, jb3, jc3, jd3, Tryz.laidOut, Tryz.mapsRowed]
  kernel_rfl
theorem h3 : Rows.FnExactFormatTreeSaid :=
  OpenClaim.holds_of_wide 3 Tryz.f3 rfl rfl rfl rfl rfl rfl rfl ⟨rfl, rfl, rfl, rfl, rfl⟩ rfl rfl rfl rfl rfl (by kernel_rfl) Tryz.func3 j3
    (of_decide_eq_true (by kernel_rfl)) (by unfold Func.isWrapper; first | (rw [if_pos (by decide +kernel)]; kernel_rfl) | (rw [if_neg (by decide +kernel)]; exact ⟨rfl, rfl⟩))
    (fun os started H enc _ => l3 os started H enc)
end Go.Proofs.YtbdmpkidcpblaaaGreatDoor

namespace Go.Proofs.YtbdmpkidcpblaaaGreatDoor
open Go
theorem k3 : Rows.FnExactFormatTreeCardSaid :=
  Claim7.holds_tied_plain_at .later [] [.data, .data, .data] true (true, "b7f09d4f61358b79312eeb3a0a2812eabab14cfea8b24fbd1fc54bedc66d6420") false
    h3 (fun _ h => by cases h) (by kernel_rfl) (fun _ h => by cases h) fnExactFormatTree_row_tie rfl ⟨rfl, rfl⟩ (by kernel_rfl) rfl
    (fun f fn hf hfn => by
      obtain rfl : f = 3 := Option.some.inj ((show Tryz.prog.funcNamed "loop.example/g00512/laws.FnExactFormatTree" = some 3 by kernel_rfl).symm.trans hf) |>.symm
      obtain rfl : fn = Tryz.f3 := (Option.some.inj (Tryz.func3.symm.trans hfn)).symm
      exact ⟨by kernel_rfl, fun j t ht => by
        rw [Tryz.params3] at ht
        have hm : t ∈ [25, 28] := by simpa using Array.mem_of_getElem? ht
        have hall : ([25, 28].all fun u => !Tryz.prog.wantsStandIn u) = true := by kernel_rfl
        exact (show Tryz.prog.wantsStandIn t = false by simpa using List.all_eq_true.1 hall t hm)⟩)
    (by kernel_rfl)
end Go.Proofs.YtbdmpkidcpblaaaGreatDoor

