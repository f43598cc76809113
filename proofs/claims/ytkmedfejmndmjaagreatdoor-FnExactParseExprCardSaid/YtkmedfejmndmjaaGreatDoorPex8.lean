/- The tied card of the law FnExactParseExpr holds. No condition. -/
import Derived.Test.YtkmedfejmndmjaaGreatDoorPex7
set_option linter.unusedSimpArgs false
set_option linter.unusedVariables false
namespace Go.Proofs.YtkmedfejmndmjaaGreatDoor
open Go.Gh
set_option maxRecDepth 20000
set_option linter.unusedSimpArgs false
set_option linter.unusedVariables false
open Go.ChangeShapes Go.WideShapes Go.ChangeAt Go.RowKit Go.Lib
theorem Tryz.own : ownKnob Tryz.prog.godebug = none := by kernel_rfl
theorem Tryz.laidOut : laidOutB Tryz.prog = true := by kernel_rfl
theorem Tryz.mapsRowed : mapsRowed Tryz.prog = true := by kernel_rfl
abbrev Tryz.laid : List (String × DataW Unit) := [("math/bits.deBruijn32tab", Rows.laid_math_bits_deBruijn32tab), ("math/bits.deBruijn64tab", Rows.laid_math_bits_deBruijn64tab), ("internal/strconv.uint64pow10", Rows.laid_internal_strconv_uint64pow10), ("strconv.ErrRange", Rows.laid_strconv_ErrRange), ("strconv.ErrSyntax", Rows.laid_strconv_ErrSyntax)]
set_option maxRecDepth 100000 in
theorem Tryz.door_met (os : Os) (args : Array Value) : laidMetH Tryz.prog Tryz.laid ((World.doorLaid Tryz.prog 400 os).forCall (fun _ _ => 0) ⟨#[], args, []⟩).memory :=
  laidMetH_of_parts3 (fuel := 8) (laidMet_of_run' 8 (by kernel_rfl) (by kernel_rfl)) (by kernel_rfl) (by kernel_rfl)
theorem Tryz.tp10 : (Tryz.prog.globals[1]?).map (·.type) = some 144 := by kernel_rfl
theorem Tryz.gpR : Tryz.prog.globalNamed "strconv.ErrRange" = some 3 := by kernel_rfl
theorem Tryz.tpR : (Tryz.prog.globals[3]?).map (·.type) = some 108 := by kernel_rfl
set_option maxRecDepth 100000 in
theorem Tryz.of_laid {W : World} (h : laidMetH Tryz.prog Tryz.laid W) : TabIs Tryz.prog W "internal/strconv.uint64pow10" .u64 pow10Tab ∧ ∃ u v, W.var? Tryz.prog "strconv.ErrRange" = some #[.iface u v] := by
  rw [MakeChecks.laidMetH_plain _ _ _ (by kernel_rfl)] at h
  obtain ⟨ps, ⟨g0, t0, cs0, f0, p0, q0, hg0, ht0, hv0, hd0, ⟨g1, t1, cs1, f1, p1, q1, hg1, ht1, hv1, hd1, ⟨g2, t2, cs2, f2, p2, q2, hg2, ht2, hv2, hd2, ⟨g3, t3, cs3, f3, p3, q3, hg3, ht3, hv3, hd3, _, _⟩, _⟩, _⟩, _⟩, _, _⟩ := h
  obtain rfl := Option.some.inj (Tryz.gp10.symm.trans hg2)
  obtain rfl := Option.some.inj (Tryz.tp10.symm.trans ht2)
  obtain rfl := Option.some.inj (Tryz.gpR.symm.trans hg3)
  obtain rfl := Option.some.inj (Tryz.tpR.symm.trans ht3)
  have e : (Rows.laid_internal_strconv_uint64pow10 : DataW Unit) = tabData .u64 pow10Tab := by rfl
  rw [e] at hd2
  obtain ⟨u, v, hc⟩ := ifcTrod ⟨_, Tryz.underlying108⟩ hd3
  refine ⟨?_, u, v, ?_⟩
  · unfold TabIs
    rw [hv2, ← cells_of_tab Tryz.underlying144 Tryz.underlying130 (by kernel_rfl) (by kernel_rfl) hd2]
  · rw [hv3, ← hc]
theorem Tryz.hmE {W : World} (h : laidMetH Tryz.prog Tryz.laid W) : HM W (below W) (tabE 1 3) [] := HM.tabE Tryz.gp10 (Tryz.of_laid h).1 Tryz.gpR (Tryz.of_laid h).2
end Go.Proofs.YtkmedfejmndmjaaGreatDoor

namespace Go.Proofs.YtkmedfejmndmjaaGreatDoor
open Go.Gh
set_option maxRecDepth 20000
set_option linter.unusedSimpArgs false
set_option linter.unusedVariables false
open Go.ChangeShapes Go.WideShapes Go.ChangeAt Go.RowKit Go.Lib
set_option maxRecDepth 100000 in
theorem l4 (os : Os) (started : os.Started) (H : Type) (enc : TypeId × Value → H) :
    ReturnsInHanded {} Tryz.checked os 4 .any (fun w args => (Rows.fnExactParseExprSpec.pre enc Tryz.prog Tryz.f4 [] false w args ∧ laidMetH Tryz.prog Tryz.laid w) ∧ sizedMet enc Tryz.prog Tryz.f4 (OpenSpec.ofChange Rows.fnExactParseExprSpec) false w args) (Rows.fnExactParseExprSpec.post enc Tryz.prog Tryz.f4 false true false false) := by
  refine returnsInHanded_of_change_and (C := Tryz.checked) (X := fun w _ => laidMetH Tryz.prog Tryz.laid w) (fun _ _ _ hh h => h.of_heap hh) Tryz.own started (by kernel_rfl) Tryz.func4
    (ChangeSpec.witness_shaped (enc := enc) (C := Tryz.checked) (os := os) (X := fun w _ => laidMetH Tryz.prog Tryz.laid w) false (World.doorLaid Tryz.prog 400 os) #[.string (ByteArray.mk #[])] 8 rfl (World.shaped_of_RefB (by kernel_rfl) (by kernel_rfl)) (by kernel_rfl) (by kernel_rfl) (by kernel_rfl) (Tryz.door_met os _)) ?_
  intro W base args ds gs before hval0 hW _ _ hL _
  have hval : ∀ (j : Nat) t v, Tryz.f4.params[j]? = some t → args[j]? = some v → Value.okWide Tryz.prog W .any base t v := hval0
  have hW' := hW
  obtain ⟨p, q, hA0, hV, rfl, hfz, hnd⟩ := hW
  have hA : DataW.TrodAll enc Tryz.prog W 0 (fun _ => true) true Tryz.f4.params.toList args.toList ds p := hA0
  rw [Tryz.params4] at hA hval
  obtain ⟨v0, d0, rfl, rfl, h0⟩ := trodAll_one hA
  obtain ⟨rfl, rfl⟩ := trodVars_none hV
  obtain ⟨g0, m0, e0⟩ := lift_val (P := Tryz.prog) 8 (by kernel_rfl) (hval 0 _ v0 rfl rfl) h0
  obtain ⟨s, rfl, hs⟩ := t_T e0
  clear hA0 hval0
  simp only [List.append_nil] at hW'
  have hlt := hW'.lt
  refine ((p4 s hs).out i4 (W := W) (args := [v0]) (.cons0 m0 .nil0) (Tryz.hmE hL) (tabH_E (by decide)).1).mono fun e W' ⟨v, g, D, he, hg, hm, hb⟩ => ?_
  subst he; subst hg
  have hv := MV.val_inv hm
  subst hv
  exact ⟨_, rfl, post_of_below (pa := p) (pv := []) hW' (fun _ _ _ => trodAll_mk1 (shut_bool Tryz.underlying4 _)) (fun sp hsp => trodAll_mk1 (WideElems.Trod_stays Tryz.laidOut (by kernel_rfl) (of_decide_eq_true (by kernel_rfl)) h0 (fun x hx => hb.same (hlt x (by simp [hx]))) (fun x hx => hsp x (by simp [hx])))) (fun _ _ => rfl) (by simp)
    hb (ok_one (by kernel_rfl) rfl (okWide_bool_mk Tryz.underlying4 _))⟩
set_option maxRecDepth 100000 in
theorem ja4 : (Rows.fnExactParseExprRow.inPlace == Tryz.prog.inPlace 4) = true := by kernel_rfl
set_option maxRecDepth 100000 in
theorem jb4 : (Rows.fnExactParseExprRow.unfollowed == Tryz.prog.unfollowed 4) = true := by kernel_rfl
set_option maxRecDepth 100000 in
theorem jc4 : (Rows.fnExactParseExprRow.recurses == Tryz.prog.recurses 4) = true := by kernel_rfl
set_option maxRecDepth 100000 in
theorem jd4 : (Rows.fnExactParseExprRow.named == Tryz.prog.varsNamed 4) = true := by kernel_rfl
set_option maxRecDepth 100000 in
theorem j4 : joinedFacts Tryz.prog 4 Tryz.f4 Rows.fnExactParseExprSpec Rows.fnExactParseExprRow = true := by
  unfold joinedFacts
  rw [ja4, jb4, jc4, jd4, Tryz.laidOut, Tryz.mapsRowed]
  kernel_rfl
theorem h4 : Rows.FnExactParseExprSaid :=
  OpenClaim.holds_of_wide 4 Tryz.f4 rfl rfl rfl rfl rfl rfl rfl ⟨rfl, rfl, rfl, rfl, rfl⟩ rfl rfl rfl rfl rfl (by kernel_rfl) Tryz.func4 j4
    (of_decide_eq_true (by kernel_rfl)) (by unfold Func.isWrapper; first | (rw [if_pos (by decide +kernel)]; kernel_rfl) | (rw [if_neg (by decide +kernel)]; exact ⟨rfl, rfl⟩))
    (fun os started H enc _ => l4 os started H enc)
end Go.Proofs.YtkmedfejmndmjaaGreatDoor

namespace Go.Proofs.YtkmedfejmndmjaaGreatDoor
open Go
theorem k4 : Rows.FnExactParseExprCardSaid :=
  Claim7.holds_tied_plain_at .later [] [.data, .data, .data, .sentinel, .sentinel] true (true, "b47cf557a4c37f833000115d283ea831dd35555457dea04de4e620cd5c419f10") true
    h4 (fun _ h => by cases h) (by kernel_rfl) (fun _ h => by cases h) fnExactParseExpr_row_tie rfl ⟨rfl, rfl⟩ (by kernel_rfl) rfl
    (fun f fn hf hfn => by
      obtain rfl : f = 4 := Option.some.inj ((show Tryz.prog.funcNamed "loop.example/g00512/laws.FnExactParseExpr" = some 4 by kernel_rfl).symm.trans hf) |>.symm
      obtain rfl : fn = Tryz.f4 := (Option.some.inj (Tryz.func4.symm.trans hfn)).symm
      exact ⟨by kernel_rfl, fun j t ht => by
        rw [Tryz.params4] at ht
        have hm : t ∈ [9] := by simpa using Array.mem_of_getElem? ht
        have hall : ([9].all fun u => !Tryz.prog.wantsStandIn u) = true := by kernel_rfl
        exact (show Tryz.prog.wantsStandIn t = false by simpa using List.all_eq_true.1 hall t hm)⟩)
    (by kernel_rfl)
end Go.Proofs.YtkmedfejmndmjaaGreatDoor

