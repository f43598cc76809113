/- The law FnExactApplyEdit returns true whatever the input, and the input reads behind the call as before. No condition. -/
import Derived.Test.YthnchomedekciaaGreatEed7
set_option maxHeartbeats 40000000
namespace Go.Proofs.YthnchomedekciaaGreat
open Go.Gh
open Nat (reduceEqDiff reduceLeDiff reduceAdd reduceLT)
open Int (reduceNe)
set_option maxRecDepth 20000
set_option linter.unusedSimpArgs false
set_option linter.unusedVariables false
open Go.Shelf
def Tryz.sortO_ren : Go.Shelf.Ren := ⟨fun | 6 => 277 | 15 => 307 | 14 => 306 | 28 => 329 | 29 => 330 | 20 => 321 | 21 => 322 | 22 => 323 | 23 => 324 | 24 => 325 | 25 => 326 | 26 => 327 | 27 => 328 | 46 => 334 | 47 => 335 | 48 => 336 | 49 => 337 | 50 => 338 | 57 => 339 | n => n, fun | 22 => 253 | 24 => 191 | 25 => 282 | 3 => 3 | 39 => 280 | 0 => 0 | 53 => 310 | 55 => 312 | 4 => 4 | 46 => 303 | 45 => 302 | 50 => 307 | 5 => 5 | 9 => 9 | 66 => 314 | 70 => 318 | 76 => 320 | 77 => 117 | n => n, fun | n => n⟩
theorem Tryz.sortO : Go.Proofs.SlLaysF0.n6 Tryz.prog Tryz.sortO_ren := {
 mixed := by kernel_rfl
 f6 := ⟨Tryz.f277.name, by decide, Tryz.func277.trans (congrArg some (by kernel_rfl))⟩
 f14 := ⟨Tryz.f306.name, by decide, Tryz.func306.trans (congrArg some (by kernel_rfl))⟩
 f15 := Tryz.func307.trans (congrArg some (by kernel_rfl))
 f20 := ⟨Tryz.f321.name, by decide, Tryz.func321.trans (congrArg some (by kernel_rfl))⟩
 f21 := ⟨Tryz.f322.name, by decide, Tryz.func322.trans (congrArg some (by kernel_rfl))⟩
 f22 := ⟨Tryz.f323.name, by decide, Tryz.func323.trans (congrArg some (by kernel_rfl))⟩
 f23 := ⟨Tryz.f324.name, by decide, Tryz.func324.trans (congrArg some (by kernel_rfl))⟩
 f24 := ⟨Tryz.f325.name, by decide, Tryz.func325.trans (congrArg some (by kernel_rfl))⟩
 f25 := ⟨Tryz.f326.name, by decide, Tryz.func326.trans (congrArg some (by kernel_rfl))⟩
 f26 := ⟨Tryz.f327.name, by decide, Tryz.func327.trans (congrArg some (by kernel_rfl))⟩
 f27 := ⟨Tryz.f328.name, by decide, Tryz.func328.trans (congrArg some (by kernel_rfl))⟩
 f28 := Tryz.func329.trans (congrArg some (by kernel_rfl))
 f29 := Tryz.func330.trans (congrArg some (by kernel_rfl))
 f46 := ⟨Tryz.f334.name, by decide, Tryz.func334.trans (congrArg some (by kernel_rfl))⟩
 f47 := Tryz.func335.trans (congrArg some (by kernel_rfl))
 f48 := Tryz.func336.trans (congrArg some (by kernel_rfl))
 f49 := ⟨Tryz.f337.name, by decide, Tryz.func337.trans (congrArg some (by kernel_rfl))⟩
 f50 := ⟨Tryz.f338.name, by decide, Tryz.func338.trans (congrArg some (by kernel_rfl))⟩
 f57 := ⟨Tryz.f339.name, by decide, Tryz.func339.trans (congrArg some (by kernel_rfl))⟩
 t0 := Tryz.underlying0
 a0 := Tryz.isAgg0
 z0 := Tryz.sizeOf0
 v0 := Tryz.zeroValue0
 t3 := Tryz.underlying3
 a3 := Tryz.isAgg3
 z3 := Tryz.sizeOf3
 v3 := Tryz.zeroValue3
 t4 := Tryz.underlying4
 a4 := Tryz.isAgg4
 z4 := Tryz.sizeOf4
 v4 := Tryz.zeroValue4
 t5 := Tryz.underlying5
 a5 := Tryz.isAgg5
 z5 := Tryz.sizeOf5
 v5 := Tryz.zeroValue5
 t9 := Tryz.underlying9
 a9 := Tryz.isAgg9
 z9 := Tryz.sizeOf9
 v9 := Tryz.zeroValue9
 t22 := Tryz.underlying253
 a22 := Tryz.isAgg253
 z22 := Tryz.sizeOf253
 v22 := Tryz.zeroValue253
 t25 := Tryz.underlying282
 a25 := Tryz.isAgg282
 z25 := Tryz.sizeOf282
 v25 := Tryz.zeroValue282
 t39 := Tryz.underlying280
 a39 := Tryz.isAgg280
 z39 := Tryz.sizeOf280
 v39 := Tryz.zeroValue280
 t45 := Tryz.underlying302
 a45 := Tryz.isAgg302
 z45 := Tryz.sizeOf302
 v45 := Tryz.zeroValue302
 t46 := Tryz.underlying303
 a46 := Tryz.isAgg303
 z46 := Tryz.sizeOf303
 v46 := Tryz.zeroValue303
 t50 := Tryz.underlying307
 a50 := Tryz.isAgg307
 z50 := Tryz.sizeOf307
 v50 := Tryz.zeroValue307
 t53 := Tryz.underlying310
 a53 := Tryz.isAgg310
 z53 := Tryz.sizeOf310
 v53 := Tryz.zeroValue310
 t55 := Tryz.underlying312
 a55 := Tryz.isAgg312
 z55 := Tryz.sizeOf312
 v55 := Tryz.zeroValue312
 t66 := Tryz.underlying314
 a66 := Tryz.isAgg314
 z66 := Tryz.sizeOf314
 v66 := Tryz.zeroValue314
 t70 := Tryz.underlying318
 a70 := Tryz.isAgg318
 z70 := Tryz.sizeOf318
 v70 := Tryz.zeroValue318
 t76 := Tryz.underlying320
 a76 := Tryz.isAgg320
 z76 := Tryz.sizeOf320
 v76 := Tryz.zeroValue320
 t77 := Tryz.underlying117
 a77 := Tryz.isAgg117
 z77 := Tryz.sizeOf117
 v77 := Tryz.zeroValue117 }
end Go.Proofs.YthnchomedekciaaGreat
namespace Go.Proofs.YthnchomedekciaaGreat
open Go.Gh
open Nat (reduceEqDiff reduceLeDiff reduceAdd reduceLT)
open Int (reduceNe)
set_option maxRecDepth 20000
set_option linter.unusedSimpArgs false
set_option linter.unusedVariables false
open Go.Shelf Go.RowKit Go.Lib Go.Sort
theorem Tryz.nanI (x : Int) (w : World) : Calls Tryz.prog 331 #[.int .i64 x] w fun e w' => e = .returned (.bool false) ∧ w' = w := by
 go_enter Tryz.func331, Tryz.ntmps331
 go_wp2
 go_ret
 exact ⟨by simp, rfl⟩
theorem Tryz.nanS (x : ByteArray) (w : World) : Calls Tryz.prog 332 #[.string x] w fun e w' => e = .returned (.bool false) ∧ w' = w := by
 go_enter Tryz.func332, Tryz.ntmps332
 go_wp2
 go_ret
 exact ⟨by simp, rfl⟩
theorem Tryz.cmpI (x y : Int) (w : World) : Calls Tryz.prog 309 #[.int .i64 x, .int .i64 y] w fun e w' => e = .returned (.int .i64 (if x < y then -1 else if y < x then 1 else 0)) ∧ w' = w := by
 go_enter Tryz.func309, Tryz.ntmps309
 go_wp2_with (go_at_call 331; refine (Tryz.nanI _ _).mono ?_; rintro e w' ⟨rfl, hw⟩; rw [hw])
 all_goals (go_ret; refine ⟨?_, rfl⟩; (repeat' split) <;> first | rfl | (exfalso; omega))
theorem Tryz.cmpS (x y : ByteArray) (w : World) : Calls Tryz.prog 310 #[.string x, .string y] w fun e w' => e = .returned (.int .i64 (if ltN x y = true then -1 else if ltN y x = true then 1 else 0)) ∧ w' = w := by
 go_enter Tryz.func310, Tryz.ntmps310
 go_wp2_with (go_at_call 332; refine (Tryz.nanS _ _).mono ?_; rintro e w' ⟨rfl, hw⟩; rw [hw])
 all_goals (go_ret; refine ⟨?_, rfl⟩)
 all_goals simp only [Lib.toList_data] at *
 all_goals simp_all [ltN, ltS_or, ByteArray.ext_iff, Lib.toList_data]
 ·exfalso
  rename_i h1 h2
  exact h2 (congrArg ByteArray.data (ltN_tri (a := x) (b := y) h1 (by assumption)))
 ·exfalso
  rename_i h2 h3
  have e : x = y := ByteArray.ext h3
  subst e
  simp_all
theorem Tryz.or2 (x y : Int) (b cap : Nat) (w : World) (hc : 2 ≤ cap) (h0 : w.cell? ⟨b, 0, none⟩ = some (.int .i64 x)) (h1 : w.cell? ⟨b, 1, none⟩ = some (.int .i64 y)) : Calls Tryz.prog 308 #[.slice (some ⟨b, 0, none⟩) 2 cap] w fun e w' => e = .returned (.int .i64 (if x ≠ 0 then x else y)) ∧ w' = w := by
 go_enter Tryz.func308, Tryz.ntmps308
 go_wp2
 refine wp_loop_rounds 3 ?_
 rw [rounds_succ]
 go_wp2
 ·go_ret; first | exact ⟨rfl, rfl⟩ | (exfalso; simp_all; done)
 ·go_ret; first | exact ⟨rfl, rfl⟩ | (exfalso; simp_all; done)
 ·rw [rounds_succ]
  go_wp2
  ·go_ret; first | exact ⟨rfl, rfl⟩ | (exfalso; simp_all; done)
  ·go_ret; first | exact ⟨rfl, rfl⟩ | (exfalso; simp_all; done)
  ·rw [rounds_succ]
   go_wp2
   all_goals go_ret
   all_goals (try subst_vars)
   all_goals first | exact ⟨rfl, rfl⟩ | (exfalso; simp_all; done) | (refine ⟨?_, rfl⟩; have hy : y = 0 := (by simp_all); subst hy; rfl)
theorem Tryz.closure278 (x y : Oc) (W : World) : Calls Tryz.prog 278 #[.agg #[.int .i64 x.1, .string x.2], .agg #[.int .i64 y.1, .string y.2]] W fun e w' => e = .returned (.int .i64 (cfO x y)) ∧ ∃ q os', w' = grow (W.drewN q) os' := by
 have hi := fun W' => Tryz.cmpI x.1 y.1 W'
 have hs := fun W' => Tryz.cmpS x.2 y.2 W'
 unfold cfO
 generalize (if x.1 < y.1 then (-1 : Int) else if y.1 < x.1 then 1 else 0) = a at hi ⊢
 generalize (if ltN x.2 y.2 = true then (-1 : Int) else if ltN y.2 x.2 = true then 1 else 0) = b at hs ⊢
 have ho := fun bb cap W' h1 h2 h3 => Tryz.or2 a b bb cap W' h1 h2 h3
 generalize (if a ≠ 0 then a else b) = r at ho ⊢
 go_enter Tryz.func278, Tryz.ntmps278
 go_wp2
 obtain ⟨W2, hW2⟩ : ∃ W2, W2 = (W.alloc (.cells #[.int .i64 x.1, .string x.2] 191)).alloc (.cells #[.int .i64 y.1, .string y.2] 191) := ⟨_, rfl⟩
 have c1 : W2.cell? ⟨W.heap.size, 0, none⟩ = some (.int .i64 x.1) := by rw [hW2, cellB _ _ _ _ (by rw [sizeA]; omega)]; exact cellA _ _ _ 0
 have c2 : W2.cell? ⟨W.heap.size, 1, none⟩ = some (.string x.2) := by rw [hW2, cellB _ _ _ _ (by rw [sizeA]; omega)]; exact cellA _ _ _ 1
 have c3 : W2.cell? ⟨W.heap.size + 1, 0, none⟩ = some (.int .i64 y.1) := by rw [hW2, ← sizeA W (.cells #[.int .i64 x.1, .string x.2] 191)]; exact cellA _ _ _ 0
 have c4 : W2.cell? ⟨W.heap.size + 1, 1, none⟩ = some (.string y.2) := by rw [hW2, ← sizeA W (.cells #[.int .i64 x.1, .string x.2] 191)]; exact cellA _ _ _ 1
 have c5 : grow W #[.cells #[.int .i64 x.1, .string x.2] 191, .cells #[.int .i64 y.1, .string y.2] 191] = W2 := by rw [hW2, alloc_eq_grow, alloc_eq_grow, grow_grow]; rfl
 rw [← hW2]
 clear hW2
 go_region_held3 (fun w' => w'.cell? ⟨W.heap.size, 0, none⟩ = some (.int .i64 x.1) ∧ w'.cell? ⟨W.heap.size, 1, none⟩ = some (.string x.2) ∧ w'.cell? ⟨W.heap.size + 1, 0, none⟩ = some (.int .i64 y.1) ∧ w'.cell? ⟨W.heap.size + 1, 1, none⟩ = some (.string y.2)) (go_keep) (first | (go_at_call 309; refine (hi _).mono ?_; rintro e w' ⟨rfl, rfl⟩) | (go_at_call 310; refine (hs _).mono ?_; rintro e w' ⟨rfl, rfl⟩) | (go_at_call 308; refine (ho _ 2 _ (Nat.le_refl _) (cell1a _ _ _ _) (cell1b _ _ _ _)).mono ?_; rintro e w' ⟨rfl, rfl⟩))
 go_wp2
 go_ret
 refine ⟨rfl, 1, #[.cells #[.int .i64 x.1, .string x.2] 191, .cells #[.int .i64 y.1, .string y.2] 191, .cells #[.int .i64 a, .int .i64 b] 3], ?_⟩
 rw [← c5, alloc_eq_grow, grow_grow]
 rfl
theorem Tryz.sortC (w : World) (b cap : Nat) (d : Array Oc) (hH : HoldsK encO 2 w b 0 d) (hb : b < w.heap.size) (hs : d.size < 4611686018427387904) :
  Calls Tryz.prog 277 #[.slice (some ⟨b, 0, none⟩) d.size cap, .func (.func 278) #[] #[]] w fun e w' => e = .returned (.tuple #[]) ∧ ∃ n os, w' = sortWorldK encO 2 w b 0 n (srO d.toList).toArray os := by
 have eg : ∀ args w, (callFunc 278 args).run Tryz.prog w = .ok (.enter 278 args) w := enters_of Tryz.func278 (by kernel_rfl) rfl
 have h := AnyQ.slices_SortFunc_total Tryz.sortO 2 Tryz.isAgg191 Tryz.sizeOf191 encO encO_len encO_one cfO (by rw [cfO_eq]; exact ltO_swo) 278 #[] b 0 cap d w eg (fun _ _ _ _ x y => Tryz.closure278 x y _) hH hb hs (by rw [cfO_eq]; exact fun x y => ltO_tri)
 rw [cfO_eq] at h
 exact h
theorem Tryz.sortN (p : Option Addr) (cap : Nat) (fv : Value) (w : World) : Calls Tryz.prog 277 #[.slice p 0 cap, fv] w fun e w' => e = .returned (.tuple #[]) ∧ w' = w :=
 AnyF.slices_SortFunc_none { Tryz.sortO with } p cap fv w
set_option maxRecDepth 100000 in
theorem o277 {r n : Nat} {l : List Oc} {H : GH} (hr : hget H r = some (2, l.map Occ)) (hn : l.length = n) (hb : n < 4611686018427387904) :
  GCalls Tryz.prog 277 [.own r 2 0 n, .clo 278 []] H (fun v H' => v = uG ∧ H' = hset H r ((srO l).map Occ)) := by
 have eg : ∀ args w, (callFunc 277 args).run Tryz.prog w = .ok (.enter 277 args) w := enters_of Tryz.func277 (by kernel_rfl) rfl
 exact sort_ok (P := Tryz.prog) (fs := 277) (g := 278) Tryz.sortC Tryz.sortN eg hr hn hb
end Go.Proofs.YthnchomedekciaaGreat
