/- The law FnExactDependsOn returns true whatever the input, and the input reads behind the call as before. No condition. -/
import Derived.Test.YtkepdhkomchlgaaGreatCdo12
namespace Go.Proofs.YtkepdhkomchlgaaGreat
open Go.Gh
set_option maxRecDepth 20000
set_option linter.unusedSimpArgs false
set_option linter.unusedVariables false
open Go.Shelf
def Tryz.sortO_ren : Go.Shelf.Ren := ⟨fun | 6 => 114 | 15 => 188 | 14 => 187 | 28 => 254 | 29 => 255 | 20 => 246 | 21 => 247 | 22 => 248 | 23 => 249 | 24 => 250 | 25 => 251 | 26 => 252 | 27 => 253 | 46 => 295 | 47 => 296 | 48 => 297 | 49 => 298 | 50 => 299 | 57 => 322 | n => n, fun | 22 => 84 | 24 => 89 | 25 => 154 | 3 => 3 | 39 => 214 | 0 => 0 | 53 => 268 | 55 => 270 | 4 => 4 | 46 => 261 | 45 => 260 | 50 => 265 | 5 => 5 | 9 => 9 | 66 => 296 | 70 => 300 | 76 => 308 | 77 => 67 | n => n, fun | n => n⟩
theorem Tryz.sortO : Go.Proofs.SlLaysF0.n6 Tryz.prog Tryz.sortO_ren := {
  mixed := by kernel_rfl
  f6 := ⟨Tryz.f114.name, by decide, Tryz.func114.trans (congrArg some (by kernel_rfl))⟩
  f14 := ⟨Tryz.f187.name, by decide, Tryz.func187.trans (congrArg some (by kernel_rfl))⟩
  f15 := Tryz.func188.trans (congrArg some (by kernel_rfl))
  f20 := ⟨Tryz.f246.name, by decide, Tryz.func246.trans (congrArg some (by kernel_rfl))⟩
  f21 := ⟨Tryz.f247.name, by decide, Tryz.func247.trans (congrArg some (by kernel_rfl))⟩
  f22 := ⟨Tryz.f248.name, by decide, Tryz.func248.trans (congrArg some (by kernel_rfl))⟩
  f23 := ⟨Tryz.f249.name, by decide, Tryz.func249.trans (congrArg some (by kernel_rfl))⟩
  f24 := ⟨Tryz.f250.name, by decide, Tryz.func250.trans (congrArg some (by kernel_rfl))⟩
  f25 := ⟨Tryz.f251.name, by decide, Tryz.func251.trans (congrArg some (by kernel_rfl))⟩
  f26 := ⟨Tryz.f252.name, by decide, Tryz.func252.trans (congrArg some (by kernel_rfl))⟩
  f27 := ⟨Tryz.f253.name, by decide, Tryz.func253.trans (congrArg some (by kernel_rfl))⟩
  f28 := Tryz.func254.trans (congrArg some (by kernel_rfl))
  f29 := Tryz.func255.trans (congrArg some (by kernel_rfl))
  f46 := ⟨Tryz.f295.name, by decide, Tryz.func295.trans (congrArg some (by kernel_rfl))⟩
  f47 := Tryz.func296.trans (congrArg some (by kernel_rfl))
  f48 := Tryz.func297.trans (congrArg some (by kernel_rfl))
  f49 := ⟨Tryz.f298.name, by decide, Tryz.func298.trans (congrArg some (by kernel_rfl))⟩
  f50 := ⟨Tryz.f299.name, by decide, Tryz.func299.trans (congrArg some (by kernel_rfl))⟩
  f57 := ⟨Tryz.f322.name, by decide, Tryz.func322.trans (congrArg some (by kernel_rfl))⟩
  t0 := Tryz.underlying0
  a0 := Tryz.isAgg0
  z0 := Tryz.sizeOf0
  v0 := Tryz.zeroValue0
  t3 := Tryz.underlying3
  a3 := Tryz.isAgg3
  z3 := Tryz.sizeOf3
  v3 := Tryz.zeroValue3
  t4 := Tryz.underlying4
  a4 := Tryz.isAgg4
  z4 := Tryz.sizeOf4
  v4 := Tryz.zeroValue4
  t5 := Tryz.underlying5
  a5 := Tryz.isAgg5
  z5 := Tryz.sizeOf5
  v5 := Tryz.zeroValue5
  t9 := Tryz.underlying9
  a9 := Tryz.isAgg9
  z9 := Tryz.sizeOf9
  v9 := Tryz.zeroValue9
  t22 := Tryz.underlying84
  a22 := Tryz.isAgg84
  z22 := Tryz.sizeOf84
  v22 := Tryz.zeroValue84
  t25 := Tryz.underlying154
  a25 := Tryz.isAgg154
  z25 := Tryz.sizeOf154
  v25 := Tryz.zeroValue154
  t39 := Tryz.underlying214
  a39 := Tryz.isAgg214
  z39 := Tryz.sizeOf214
  v39 := Tryz.zeroValue214
  t45 := Tryz.underlying260
  a45 := Tryz.isAgg260
  z45 := Tryz.sizeOf260
  v45 := Tryz.zeroValue260
  t46 := Tryz.underlying261
  a46 := Tryz.isAgg261
  z46 := Tryz.sizeOf261
  v46 := Tryz.zeroValue261
  t50 := Tryz.underlying265
  a50 := Tryz.isAgg265
  z50 := Tryz.sizeOf265
  v50 := Tryz.zeroValue265
  t53 := Tryz.underlying268
  a53 := Tryz.isAgg268
  z53 := Tryz.sizeOf268
  v53 := Tryz.zeroValue268
  t55 := Tryz.underlying270
  a55 := Tryz.isAgg270
  z55 := Tryz.sizeOf270
  v55 := Tryz.zeroValue270
  t66 := Tryz.underlying296
  a66 := Tryz.isAgg296
  z66 := Tryz.sizeOf296
  v66 := Tryz.zeroValue296
  t70 := Tryz.underlying300
  a70 := Tryz.isAgg300
  z70 := Tryz.sizeOf300
  v70 := Tryz.zeroValue300
  t76 := Tryz.underlying308
  a76 := Tryz.isAgg308
  z76 := Tryz.sizeOf308
  v76 := Tryz.zeroValue308
  t77 := Tryz.underlying67
  a77 := Tryz.isAgg67
  z77 := Tryz.sizeOf67
  v77 := Tryz.zeroValue67 }
end Go.Proofs.YtkepdhkomchlgaaGreat

namespace Go.Proofs.YtkepdhkomchlgaaGreat
open Go.Gh
set_option maxRecDepth 20000
set_option linter.unusedSimpArgs false
set_option linter.unusedVariables false
open Go.Shelf Go.RowKit Go.Lib Go.Sort
set_option maxHeartbeats 1000000 in
theorem Tryz.nanI (x : Int) (w : World) : Calls Tryz.prog 256 #[.int .i64 x] w fun e w' => e = .returned (.bool false) ∧ w' = w := by
  go_enter Tryz.func256, Tryz.ntmps256
  go_wp2
  go_ret
  exact ⟨by simp, rfl⟩
set_option maxHeartbeats 1000000 in
theorem Tryz.nanS (x : ByteArray) (w : World) : Calls Tryz.prog 257 #[.string x] w fun e w' => e = .returned (.bool false) ∧ w' = w := by
  go_enter Tryz.func257, Tryz.ntmps257
  go_wp2
  go_ret
  exact ⟨by simp, rfl⟩
set_option maxHeartbeats 1000000 in
theorem Tryz.cmpI (x y : Int) (w : World) : Calls Tryz.prog 190 #[.int .i64 x, .int .i64 y] w fun e w' => e = .returned (.int .i64 (if x < y then -1 else if y < x then 1 else 0)) ∧ w' = w := by
  go_enter Tryz.func190, Tryz.ntmps190
  go_wp2_with (go_at_call 256; refine (Tryz.nanI _ _).mono ?_; rintro e w' ⟨rfl, hw⟩; rw [hw])
  all_goals (go_ret; refine ⟨?_, rfl⟩; (repeat' split) <;> first | rfl | (exfalso; omega))
set_option maxHeartbeats 1000000 in
theorem Tryz.cmpS (x y : ByteArray) (w : World) : Calls Tryz.prog 191 #[.string x, .string y] w fun e w' => e = .returned (.int .i64 (if ltN x y = true then -1 else if ltN y x = true then 1 else 0)) ∧ w' = w := by
  go_enter Tryz.func191, Tryz.ntmps191
  go_wp2_with (go_at_call 257; refine (Tryz.nanS _ _).mono ?_; rintro e w' ⟨rfl, hw⟩; rw [hw])
  all_goals (go_ret; refine ⟨?_, rfl⟩)
  all_goals simp only [Lib.toList_data] at *
  all_goals simp_all [ltN, ltS_or, ByteArray.ext_iff, Lib.toList_data]
  · exfalso
    rename_i h1 h2
    exact h2 (congrArg ByteArray.data (ltN_tri (a := x) (b := y) h1 (by assumption)))
  · exfalso
    rename_i h2 h3
    have e : x = y := ByteArray.ext h3
    subst e
    simp_all
set_option maxHeartbeats 2000000 in
theorem Tryz.or2 (x y : Int) (b cap : Nat) (w : World) (hc : 2 ≤ cap) (h0 : w.cell? ⟨b, 0, none⟩ = some (.int .i64 x)) (h1 : w.cell? ⟨b, 1, none⟩ = some (.int .i64 y)) : Calls Tryz.prog 189 #[.slice (some ⟨b, 0, none⟩) 2 cap] w fun e w' => e = .returned (.int .i64 (if x ≠ 0 then x else y)) ∧ w' = w := by
  go_enter Tryz.func189, Tryz.ntmps189
  go_wp2
  refine wp_loop_rounds 3 ?_
  rw [rounds_succ]
  go_wp2
  · go_ret; first | exact ⟨rfl, rfl⟩ | (exfalso; simp_all; done)
  · go_ret; first | exact ⟨rfl, rfl⟩ | (exfalso; simp_all; done)
  · rw [rounds_succ]
    go_wp2
    · go_ret; first | exact ⟨rfl, rfl⟩ | (exfalso; simp_all; done)
    · go_ret; first | exact ⟨rfl, rfl⟩ | (exfalso; simp_all; done)
    · rw [rounds_succ]
      go_wp2
      all_goals go_ret
      all_goals (try subst_vars)
      all_goals first | exact ⟨rfl, rfl⟩ | (exfalso; simp_all; done) | (refine ⟨?_, rfl⟩; have hy : y = 0 := (by simp_all); subst hy; rfl)
set_option maxHeartbeats 2000000 in
theorem Tryz.closure115 (x y : Oc) (W : World) : Calls Tryz.prog 115 #[.agg #[.int .i64 x.1, .string x.2], .agg #[.int .i64 y.1, .string y.2]] W fun e w' => e = .returned (.int .i64 (cfO x y)) ∧ ∃ q os', w' = grow (W.drewN q) os' := by
  have hi := fun W' => Tryz.cmpI x.1 y.1 W'
  have hs := fun W' => Tryz.cmpS x.2 y.2 W'
  unfold cfO
  generalize (if x.1 < y.1 then (-1 : Int) else if y.1 < x.1 then 1 else 0) = a at hi ⊢
  generalize (if ltN x.2 y.2 = true then (-1 : Int) else if ltN y.2 x.2 = true then 1 else 0) = b at hs ⊢
  have ho := fun bb cap W' h1 h2 h3 => Tryz.or2 a b bb cap W' h1 h2 h3
  generalize (if a ≠ 0 then a else b) = r at ho ⊢
  go_enter Tryz.func115, Tryz.ntmps115
  go_wp2
  obtain ⟨W2, hW2⟩ : ∃ W2, W2 = (W.alloc (.cells #[.int .i64 x.1, .string x.2] 89)).alloc (.cells #[.int .i64 y.1, .string y.2] 89) := ⟨_, rfl⟩
  have c1 : W2.cell? ⟨W.heap.size, 0, none⟩ = some (.int .i64 x.1) := by rw [hW2, cellB _ _ _ _ (by rw [sizeA]; omega)]; exact cellA _ _ _ 0
  have c2 : W2.cell? ⟨W.heap.size, 1, none⟩ = some (.string x.2) := by rw [hW2, cellB _ _ _ _ (by rw [sizeA]; omega)]; exact cellA _ _ _ 1
  have c3 : W2.cell? ⟨W.heap.size + 1, 0, none⟩ = some (.int .i64 y.1) := by rw [hW2, ← sizeA W (.cells #[.int .i64 x.1, .string x.2] 89)]; exact cellA _ _ _ 0
  have c4 : W2.cell? ⟨W.heap.size + 1, 1, none⟩ = some (.string y.2) := by rw [hW2, ← sizeA W (.cells #[.int .i64 x.1, .string x.2] 89)]; exact cellA _ _ _ 1
  have c5 : grow W #[.cells #[.int .i64 x.1, .string x.2] 89, .cells #[.int .i64 y.1, .string y.2] 89] = W2 := by rw [hW2, alloc_eq_grow, alloc_eq_grow, grow_grow]; rfl
  rw [← hW2]
  clear hW2
  go_region_held3 (fun w' => w'.cell? ⟨W.heap.size, 0, none⟩ = some (.int .i64 x.1) ∧ w'.cell? ⟨W.heap.size, 1, none⟩ = some (.string x.2) ∧ w'.cell? ⟨W.heap.size + 1, 0, none⟩ = some (.int .i64 y.1) ∧ w'.cell? ⟨W.heap.size + 1, 1, none⟩ = some (.string y.2)) (go_keep) (first | (go_at_call 190; refine (hi _).mono ?_; rintro e w' ⟨rfl, rfl⟩) | (go_at_call 191; refine (hs _).mono ?_; rintro e w' ⟨rfl, rfl⟩) | (go_at_call 189; refine (ho _ 2 _ (Nat.le_refl _) (cell1a _ _ _ _) (cell1b _ _ _ _)).mono ?_; rintro e w' ⟨rfl, rfl⟩))
  go_wp2
  go_ret
  refine ⟨rfl, 1, #[.cells #[.int .i64 x.1, .string x.2] 89, .cells #[.int .i64 y.1, .string y.2] 89, .cells #[.int .i64 a, .int .i64 b] 3], ?_⟩
  rw [← c5, alloc_eq_grow, grow_grow]
  rfl
theorem Tryz.sortC (w : World) (b cap : Nat) (d : Array Oc) (hH : HoldsK encO 2 w b 0 d) (hb : b < w.heap.size) (hs : d.size < 4611686018427387904) :
    Calls Tryz.prog 114 #[.slice (some ⟨b, 0, none⟩) d.size cap, .func (.func 115) #[] #[]] w fun e w' => e = .returned (.tuple #[]) ∧ ∃ n os, w' = sortWorldK encO 2 w b 0 n (srO d.toList).toArray os := by
  have eg : ∀ args w, (callFunc 115 args).run Tryz.prog w = .ok (.enter 115 args) w := enters_of Tryz.func115 (by kernel_rfl) rfl
  have h := AnyQ.slices_SortFunc_total Tryz.sortO 2 Tryz.isAgg89 Tryz.sizeOf89 encO encO_len encO_one cfO (by rw [cfO_eq]; exact ltO_swo) 115 #[] b 0 cap d w eg (fun _ _ _ _ x y => Tryz.closure115 x y _) hH hb hs (by rw [cfO_eq]; exact fun x y => ltO_tri)
  rw [cfO_eq] at h
  exact h
theorem Tryz.sortN (p : Option Addr) (cap : Nat) (fv : Value) (w : World) : Calls Tryz.prog 114 #[.slice p 0 cap, fv] w fun e w' => e = .returned (.tuple #[]) ∧ w' = w :=
  AnyF.slices_SortFunc_none { Tryz.sortO with } p cap fv w
set_option maxRecDepth 100000 in
theorem o114 {r n : Nat} {l : List Oc} {H : GH} (hr : hget H r = some (2, l.map Occ)) (hn : l.length = n) (hb : n < 4611686018427387904) :
    GCalls Tryz.prog 114 [.own r 2 0 n, .clo 115 []] H (fun v H' => v = uG ∧ H' = hset H r ((srO l).map Occ)) := by
  have eg : ∀ args w, (callFunc 114 args).run Tryz.prog w = .ok (.enter 114 args) w := enters_of Tryz.func114 (by kernel_rfl) rfl
  exact sort_ok (P := Tryz.prog) (fs := 114) (g := 115) Tryz.sortC Tryz.sortN eg hr hn hb
end Go.Proofs.YtkepdhkomchlgaaGreat

