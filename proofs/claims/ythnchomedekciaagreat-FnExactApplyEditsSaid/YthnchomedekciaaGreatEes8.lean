/- The law FnExactApplyEdits returns true whatever the input, and the input reads behind the call as before. No condition. -/
import Derived.Test.YthnchomedekciaaGreatEes7
set_option maxHeartbeats 40000000
namespace Go.Proofs.YthnchomedekciaaGreat
open Go.Gh
open Nat (reduceEqDiff reduceLeDiff reduceAdd reduceLT)
open Int (reduceNe)
set_option maxRecDepth 20000
set_option linter.unusedSimpArgs false
set_option linter.unusedVariables false
open Go.Shelf
def Tryz.sortO_ren : Go.Shelf.Ren := ⟨fun | 6 => 277 | 15 => 307 | 14 => 306 | 28 => 329 | 29 => 330 | 20 => 321 | 21 => 322 | 22 => 323 | 23 => 324 | 24 => 325 | 25 => 326 | 26 => 327 | 27 => 328 | 46 => 334 | 47 => 335 | 48 => 336 | 49 => 337 | 50 => 338 | 57 => 339 | n => n, fun | 22 => 253 | 24 => 191 | 25 => 282 | 3 => 3 | 39 => 280 | 0 => 0 | 53 => 310 | 55 => 312 | 4 => 4 | 46 => 303 | 45 => 302 | 50 => 307 | 5 => 5 | 9 => 9 | 66 => 314 | 70 => 318 | 76 => 320 | 77 => 117 | n => n, fun | n => n⟩
theorem Tryz.sortO : Go.Proofs.SlLaysF0.n6 Tryz.prog Tryz.sortO_ren := {
 mixed := by kernel_rfl
 f6 := ⟨Tryz.f277.name, by decide, Tryz.func277.trans (congrArg some (by kernel_rfl))⟩
 f14 := ⟨Tryz.f306.name, by decide, Tryz.func306.trans (congrArg some (by kernel_rfl))⟩
 f15 := Tryz.func307.trans (congrArg some (by kernel_rfl))
 f20 := ⟨Tryz.f321.name, by decide, Tryz.func321.trans (congrArg some (by kernel_rfl))⟩
 f21 := ⟨Tryz.f322.name, by decide, Tryz.func322.trans (congrArg some (by kernel_rfl))⟩
 f22 := ⟨Tryz.f323.name, by decide, Tryz.func323.trans (congrArg some (by kernel_rfl))⟩
 f23 := ⟨Tryz.f324.name, by decide, Tryz.func324.trans (congrArg some (by kernel_rfl))⟩
 f24 := ⟨Tryz.f325.name, by decide, Tryz.func325.trans (congrArg some (by kernel_rfl))⟩
 f25 := ⟨Tryz.f326.name, by decide, Tryz.func326.trans (congrArg some (by kernel_rfl))⟩
 f26 := ⟨Tryz.f327.name, by decide, Tryz.func327.trans (congrArg some (by kernel_rfl))⟩
 f27 := ⟨Tryz.f328.name, by decide, Tryz.func328.trans (congrArg some (by kernel_rfl))⟩
 f28 := Tryz.func329.trans (congrArg some (by kernel_rfl))
 f29 := Tryz.func330.trans (congrArg some (by kernel_rfl))
 f46 := ⟨Tryz.f334.name, by decide, Tryz.func334.trans (congrArg some (by kernel_rfl))⟩
 f47 := Tryz.func335.trans (congrArg some (by kernel_rfl))
 f48 := Tryz.func336.trans (congrArg some (by kernel_rfl))
 f49 := ⟨Tryz.f337.name, by decide, Tryz.func337.trans (congrArg some (by kernel_rfl))⟩
 f50 := ⟨Tryz.f338.name, by decide, Tryz.func338.trans (congrArg some (by kernel_rfl))⟩
 f57 := ⟨Tryz.f339.name, by decide, Tryz.func339.trans (congrArg some (by kernel_rfl))⟩
 t0 := Tryz.underlying0
 a0 := Tryz.isAgg0
 z0 := Tryz.sizeOf0
 v0 := Tryz.zeroValue0
 t3 := Tryz.underlying3
 a3 := Tryz.isAgg3
 z3 := Tryz.sizeOf3
 v3 := Tryz.zeroValue3
 t4 := Tryz.underlying4
 a4 := Tryz.isAgg4
 z4 := Tryz.sizeOf4
 v4 := Tryz.zeroValue4
 t5 := Tryz.underlying5
 a5 := Tryz.isAgg5
 z5 := Tryz.sizeOf5
 v5 := Tryz.zeroValue5
 t9 := Tryz.underlying9
 a9 := Tryz.isAgg9
 z9 := Tryz.sizeOf9
 v9 := Tryz.zeroValue9
 t22 := Tryz.underlying253
 a22 := Tryz.isAgg253
 z22 := Tryz.sizeOf253
 v22 := Tryz.zeroValue253
 t25 := Tryz.underlying282
 a25 := Tryz.isAgg282
 z25 := Tryz.sizeOf282
 v25 := Tryz.zeroValue282
 t39 := Tryz.underlying280
 a39 := Tryz.isAgg280
 z39 := Tryz.sizeOf280
 v39 := Tryz.zeroValue280
 t45 := Tryz.underlying302
 a45 := Tryz.isAgg302
 z45 := Tryz.sizeOf302
 v45 := Tryz.zeroValue302
 t46 := Tryz.underlying303
 a46 := Tryz.isAgg303
 z46 := Tryz.sizeOf303
 v46 := Tryz.zeroValue303
 t50 := Tryz.underlying307
 a50 := Tryz.isAgg307
 z50 := Tryz.sizeOf307
 v50 := Tryz.zeroValue307
 t53 := Tryz.underlying310
 a53 := Tryz.isAgg310
 z53 := Tryz.sizeOf310
 v53 := Tryz.zeroValue310
 t55 := Tryz.underlying312
 a55 := Tryz.isAgg312
 z55 := Tryz.sizeOf312
 v55 := Tryz.zeroValue312
 t66 := Tryz.underlying314
 a66 := Tryz.isAgg314
 z66 := Tryz.sizeOf314
 v66 := Tryz.zeroValue314
 t70 := Tryz.underlying318
 a70 := Tryz.isAgg318
 z70 := Tryz.sizeOf318
 v70 := Tryz.zeroValue318
 t76 := Tryz.underlying320
 a76 := Tryz.isAgg320
 z76 := Tryz.sizeOf320
 v76 := Tryz.zeroValue320
 t77 := Tryz.underlying117
 a77 := Tryz.isAgg117
 z77 := Tryz.sizeOf117
 v77 := Tryz.zeroValue117 }
end Go.Proofs.YthnchomedekciaaGreat
namespace Go.Proofs.YthnchomedekciaaGreat
open Go.Gh
open Nat (reduceEqDiff reduceLeDiff reduceAdd reduceLT)
open Int (reduceNe)
set_option maxRecDepth 20000
set_option linter.unusedSimpArgs false
set_option linter.unusedVariables false
open Go.Shelf Go.RowKit Go.Lib Go.Sort
theorem Tryz.nanI (x : Int) (w : World) : Calls Tryz.prog 331 #[.int .i64 x] w fun e w' => e = .returned (.bool false) ∧ w' = w := by
 go_enter Tryz.func331, Tryz.ntmps331
 go_wp2
 go_ret
 exact ⟨by simp, rfl⟩
theorem Tryz.nanS (x : ByteArray) (w : World) : Calls Tryz.prog 332 #[.string x] w fun e w' => e = .returned (.bool false) ∧ w' = w := by
 go_enter Tryz.func332, Tryz.ntmps332
 go_wp2
 go_ret
 exact ⟨by simp, rfl⟩
theorem Tryz.cmpI (x y : Int) (w : World) : Calls Tryz.prog 309 #[.int .i64 x, .int .i64 y] w fun e w' => e = .returned (.int .i64 (if x < y then -1 else if y < x then 1 else 0)) ∧ w' = w := by
 go_enter Tryz.func309, Tryz.ntmps309
 go_wp2_with (go_at_call 331; refine (Tryz.nanI _ _).mono ?_; rintro e w' ⟨rfl, hw⟩; rw [hw])
 all_goals (go_ret; refine ⟨?_, rfl⟩; (repeat' split) <;> first | rfl | (exfalso; omega))
theorem Tryz.cmpS (x y : ByteArray) (w : World) : Calls Tryz.prog 310 #[.string x, .string y] w fun e w' => e = .returned (.int .i64 (if ltN x y = true then -1 else if ltN y x = true then 1 else 0)) ∧ w' = w := by
 go_enter Tryz.func310, Tryz.ntmps310
 go_wp2_with (go_at_call 332; refine (Tryz.nanS _ _).mono ?_; rintro e w' ⟨rfl, hw⟩; rw [hw])
 all_goals (go_ret; refine ⟨?_, rfl⟩)
 all_goals simp only [Lib.toList_data] at *
 all_goals simp_all [ltN, ltS_or, ByteArray.ext_iff, Lib.toList_data]
 ·exfalso
  rename_i h1 h2
  exact h2 (congrArg ByteArray.data (ltN_tri (a := x) (b := y) h1 (by assumption)))
 ·exfalso
  rename_i h2 h3
  have e : x = y := ByteArray.ext h3
  subst e
  simp_all
theorem Tryz.or2 (x y : Int) (b cap : Nat) (w : World) (hc : 2 ≤ cap) (h0 : w.cell? ⟨b, 0, none⟩ = some (.int .i64 x)) (h1 : w.cell? ⟨b, 1, none⟩ = some (.int .i64 y)) : Calls Tryz.prog 308 #[.slice (some ⟨b, 0, none⟩) 2 cap] w fun e w' => e = .returned (.int .i64 (if x ≠ 0 then x else y)) ∧ w' = w := by
 go_enter Tryz.func308, Tryz.ntmps308
 go_wp2
 refine wp_loop_rounds 3 ?_
 rw [rounds_succ]
 go_wp2
 ·go_ret; first | exact ⟨rfl, rfl⟩ | (exfalso; simp_all; done)
 ·go_ret; first | exact ⟨rfl, rfl⟩ | (exfalso; simp_all; done)
 ·rw [rounds_succ]
  go_wp2
  ·go_ret; first | exact ⟨rfl, rfl⟩ | (exfalso; simp_all; done)
  ·go_ret; first | exact ⟨rfl, rfl⟩ | (exfalso; simp_all; done)
  ·rw [rounds_succ]
   go_wp2
   all_goals go_ret
   all_goals (try subst_vars)
   all_goals first | exact ⟨rfl, rfl⟩ | (exfalso; simp_all; done) | (refine ⟨?_, rfl⟩; have hy : y = 0 := (by simp_all); subst hy; rfl)
theorem Tryz.closure278 (x y : Oc) (W : World) : Calls Tryz.prog 278 #[.agg #[.int .i64 x.1, .string x.2], .agg #[.int .i64 y.1, .string y.2]] W fun e w' => e = .returned (.int .i64 (cfO x y)) ∧ ∃ q os', w' = grow (W.drewN q) os' := by
 have hi := fun W' => Tryz.cmpI x.1 y.1 W'
 have hs := fun W' => Tryz.cmpS x.2 y.2 W'
 unfold cfO
 generalize (if x.1 < y.1 then (-1 : Int) else if y.1 < x.1 then 1 else 0) = a at hi ⊢
 generalize (if ltN x.2 y.2 = true then (-1 : Int) else if ltN y.2 x.2 = true then 1 else 0) = b at hs ⊢
 have ho := fun bb cap W' h1 h2 h3 => Tryz.or2 a b bb cap W' h1 h2 h3
 generalize (if a ≠ 0 then a else b) = r at ho ⊢
 go_enter Tryz.func278, Tryz.ntmps278
 go_wp2
 obtain ⟨W2, hW2⟩ : ∃ W2, W2 = (W.alloc (.cells #[.int .i64 x.1, .string x.2] 191)).alloc (.cells #[.int .i64 y.1, .string y.2] 191) := ⟨_, rfl⟩
 have c1 : W2.cell? ⟨W.heap.size, 0, none⟩ = some (.int .i64 x.1) := by rw [hW2, cellB _ _ _ _ (by rw [sizeA]; omega)]; exact cellA _ _ _ 0
 have c2 : W2.cell? ⟨W.heap.size, 1, none⟩ = some (.string x.2) := by rw [hW2, cellB _ _ _ _ (by rw [sizeA]; omega)]; exact cellA _ _ _ 1
 have c3 : W2.cell? ⟨W.heap.size + 1, 0, none⟩ = some (.int .i64 y.1) := by rw [hW2, ← sizeA W (.cells #[.int .i64 x.1, .string x.2] 191)]; exact cellA _ _ _ 0
 have c4 : W2.cell? ⟨W.heap.size + 1, 1, none⟩ = some (.string y.2) := by rw [hW2, ← sizeA W (.cells #[.int .i64 x.1, .string x.2] 191)]; exact cellA _ _ _ 1
 have c5 : grow W #[.cells #[.int .i64 x.1, .string x.2] 191, .cells #[.int .i64 y.1, .string y.2] 191] = W2 := by rw [hW2, alloc_eq_grow, alloc_eq_grow, grow_grow]; rfl
 rw [← hW2]
 clear hW2
 go_region_held3 (fun w' => w'.cell? ⟨W.heap.size, 0, none⟩ = some (.int .i64 x.1) ∧ w'.cell? ⟨W.heap.size, 1, none⟩ = some (.string x.2) ∧ w'.cell? ⟨W.heap.size + 1, 0, none⟩ = some (.int .i64 y.1) ∧ w'.cell? ⟨W.heap.size + 1, 1, none⟩ = some (.string y.2)) (go_keep) (first | (go_at_call 309; refine (hi _).mono ?_; rintro e w' ⟨rfl, rfl⟩) | (go_at_call 310; refine (hs _).mono ?_; rintro e w' ⟨rfl, rfl⟩) | (go_at_call 308; refine (ho _ 2 _ (Nat.le_refl _) (cell1a _ _ _ _) (cell1b _ _ _ _)).mono ?_; rintro e w' ⟨rfl, rfl⟩))
 go_wp2
 go_ret
 refine ⟨rfl, 1, #[.cells #[.int .i64 x.1, .string x.2] 191, .cells #[.int .i64 y.1, .string y.2] 191, .cells #[.int .i64 a, .int .i64 b] 3], ?_⟩
 rw [← c5, alloc_eq_grow, grow_grow]
 rfl
theorem Tryz.sortC (w : World) (b cap : Nat) (d : Array Oc) (hH : HoldsK encO 2 w b 0 d) (hb : b < w.heap.size) (hs : d.size < 4611686018427387904) :
  Calls Tryz.prog 277 #[.slice (some ⟨b, 0, none⟩) d.size cap, .func (.func 278) #[] #[]] w fun e w' => e = .returned (.tuple #[]) ∧ ∃ n os, w' = sortWorldK encO 2 w b 0 n (srO d.toList).toArray os := by
 have eg : ∀ args w, (callFunc 278 args).run Tryz.prog w = .ok (.enter 278 args) w := enters_of Tryz.func278 (by kernel_rfl) rfl
 have h := AnyQ.slices_SortFunc_total Tryz.sortO 2 Tryz.isAgg191 Tryz.sizeOf191 encO encO_len encO_one cfO (by rw [cfO_eq]; exact ltO_swo) 278 #[] b 0 cap d w eg (fun _ _ _ _ x y => Tryz.closure278 x y _) hH hb hs (by rw [cfO_eq]; exact fun x y => ltO_tri)
 rw [cfO_eq] at h
 exact h
theorem Tryz.sortN (p : Option Addr) (cap : Nat) (fv : Value) (w : World) : Calls Tryz.prog 277 #[.slice p 0 cap, fv] w fun e w' => e = .returned (.tuple #[]) ∧ w' = w :=
 AnyF.slices_SortFunc_none { Tryz.sortO with } p cap fv w
set_option maxRecDepth 100000 in
theorem o277 {r n : Nat} {l : List Oc} {H : GH} (hr : hget H r = some (2, l.map Occ)) (hn : l.length = n) (hb : n < 4611686018427387904) :
  Gc 277 [.own r 2 0 n, .clo 278 []] H (fun v H' => v = uG ∧ H' = hset H r ((srO l).map Occ)) := by
 have eg : ∀ args w, (callFunc 277 args).run Tryz.prog w = .ok (.enter 277 args) w := enters_of Tryz.func277 (by kernel_rfl) rfl
 exact sort_ok (P := Tryz.prog) (fs := 277) (g := 278) Tryz.sortC Tryz.sortN eg hr hn hb
end Go.Proofs.YthnchomedekciaaGreat
namespace Go.Proofs.YthnchomedekciaaGreat
open Go.Gh
open Nat (reduceEqDiff reduceLeDiff reduceAdd reduceLT)
open Int (reduceNe)
set_option maxRecDepth 20000
set_option linter.unusedSimpArgs false
set_option linter.unusedVariables false
theorem o276 (e : Exp) (l : List Oc) (hl : l.length ≤ 4194304) (rb q : Nat) (T : GH) : Gc 276 [Ex e, .ptr rb 1 0 0] ((q, 2, l.map Occ) :: (rb, 1, [.own q 2 0 l.length]) :: T)
    (fun v H' => ∃ q', v = B true ∧ H' = (q', 2, (l ++ occ1 e).map Occ) :: (rb, 1, [.own q' 2 0 (l ++ occ1 e).length]) :: T) := by
  refine GCalls.nd fun hn => ?_
  replace hn := neH_of hn
  (replace hn := hn; simp only [VN] at hn)
  by_cases hk : e.kind = 3
  · have h0 : Gc 276 [Ex e, .ptr rb 1 0 0] ((q, 2, l.map Occ) :: (rb, 1, [.own q 2 0 l.length]) :: T)
        (fun v H' => ∃ q' r1 u, ¬ q' = r1 ∧ ¬ q' = rb ∧ ¬ r1 = rb ∧ v = B true ∧ H' = (q', 2, (l ++ occ1 e).map Occ) :: (r1, 2, u) :: (rb, 1, [.own q' 2 0 (l ++ occ1 e).length]) :: T) := by
      refine gstart mxd i276 rfl (by simp) ?_; refine X0 ?_
      (refine V1 (jO @XE (jO hk (jO hn (jO @List.length_map.{0,0} @maxLv)))) ?_; with_reducible repeat' first|exact trivial|intro h|refine aO ?_|refine eO ?_|apply jO)
      rename_i r1 _ r2
      have e1 : occ1 e = [(e.pos, e.name)] := by simp [occ1, hk]
      refine ⟨r2, r1, [Occ (e.pos, e.name)], by simp [*], by simp [*], by simp [*], ?_⟩
      rw [e1, List.take_of_length_le (by simp), List.map_append, List.length_append]
      rfl
    refine h0.fr ?_
    rintro v H' ⟨q', r1, u, n1, n2, n3, rfl, rfl⟩
    exact ⟨_, _, FR.perm (H := [_, _, _]) (L := [(q', 2, (l ++ occ1 e).map Occ), (rb, 1, [.own q' 2 0 (l ++ occ1 e).length])]) (by simp [subH, hget, names, *]), q', rfl, rfl⟩
  · have e1 : occ1 e = [] := by simp [occ1, hk]
    rw [e1, List.append_nil]
    refine gstart mxd i276 rfl (by simp) ?_; refine X0 ?_
    (refine V1 (jO @XE (jO hk hn)) ?_; with_reducible repeat' first|exact trivial|intro h|refine aO ?_|refine eO ?_|apply jO)
    exact ⟨q, rfl⟩
theorem o230 (t : List Exp) (f : Nat) (cs : List GV) (n0 rb : Nat) (T : GH) (hb : n0 + (occEL t).length ≤ 4194304)
  (hp : ∀ a ∈ t, ∀ (l : List Oc) (q : Nat), l.length + (occE a).length ≤ 4194304 → Gc f (Ex a :: cs) ((q, 2, l.map Occ) :: (rb, 1, [.own q 2 0 l.length]) :: T) (fun v H' => ∃ q', v = B false ∧ H' = (q', 2, (l ++ occE a).map Occ) :: (rb, 1, [.own q' 2 0 (l ++ occE a).length]) :: T))
  (l : List Oc) (q : Nat) (hl : l.length = n0) :
  Gc 230 [ExS t, .clo f cs] ((q, 2, l.map Occ) :: (rb, 1, [.own q 2 0 l.length]) :: T) (fun v H' => ∃ q', v = I (-1) ∧ H' = (q', 2, (l ++ occEL t).map Occ) :: (rb, 1, [.own q' 2 0 (l ++ occEL t).length]) :: T) := by
 refine GCalls.lenA fun hlen => ?_
 have hlen := hlen.1.1
 simp only [List.length_map, maxL] at hlen
 refine gstart mxd i230 rfl (by simp) ?_; refine X0 ?_
 (refine V0 ?_; with_reducible repeat' first|exact trivial|intro h|refine aO ?_|refine eO ?_|apply jO)
 refine wloopN mxd (ι := { y : Nat × Nat // y.2 ≤ t.length }) (fun y => [(0, ExS t), (1, .clo f cs), (7, I t.length), (8, I y.1.2)]) (fun y => (y.1.1, 2, (l ++ occEL (t.take y.1.2)).map Occ) :: (rb, 1, [.own y.1.1 2 0 (l ++ occEL (t.take y.1.2)).length]) :: T) (fun y => t.length - y.1.2) ⟨(q, 0), by simp⟩ (by simp [E2]) (by simp [occEL]) ?_
 rintro ⟨⟨q, i⟩, hi⟩ hn
 dsimp only at hi hn ⊢
 replace hn := neH_of hn
 (replace hn := hn; simp only [VN] at hn)
 rcases Nat.lt_or_ge i t.length with h | h
 ·have e1 := occEL_step h
  have e2 : (occEL (t.take (i + 1))).length ≤ (occEL t).length := by
   have e3 : t = t.take (i + 1) ++ t.drop (i + 1) := (List.take_append_drop _ _).symm
   have e4 : occEL t = occEL (t.take (i + 1)) ++ occEL (t.drop (i + 1)) := by
    conv => lhs; rw [e3]
    exact occEL_app _ _
   rw [e4, List.length_append]; omega
  have e5 : (occEL (t.take (i + 1))).length = (occEL (t.take i)).length + (occE t[i]).length := by rw [e1, List.length_append]
  ((try refine qI ?_); (repeat ((first | with_reducible refine qU ?_ | simp only [brGen]); try simp (maxSteps := 9^7) +contextual only [↓ S2, S2, ↓reduceIte, reduceNe, reduceEqDiff, reduceCtorEq, reduceLeDiff, reduceAdd, reduceLT, VQ, hn, isAgg_Ex, geR_Ex, gsize_Ex, stor_Ex])); (try simp +contextual (disch := omega) only [Z2, hn, isAgg_Ex, geR_Ex, gsize_Ex, stor_Ex]); (with_reducible repeat' (first | intro h | refine And.intro (by omega) ?_ | refine exP (by omega) ?_ | apply And.intro)))
  all_goals try (exfalso; omega)
  refine callS.of (hp t[i] (List.getElem_mem _) _ q (by rw [List.length_append]; omega)) ?_
  rintro v H' ⟨q', rfl, rfl⟩ hn2
  rw [List.append_assoc, ← e1] at hn2 ⊢
  (refine V1 hn ?_; with_reducible repeat' first|exact trivial|intro h|refine aO ?_|refine eO ?_|apply jO)
  exact nx ⟨(q', i + 1), by omega⟩ (by simp; omega) (by simp [E2]) rfl
 ·obtain rfl : i = t.length := by omega
  (refine V1 hn ?_; with_reducible repeat' first|exact trivial|intro h|refine aO ?_|refine eO ?_|apply jO)
  all_goals try (exfalso; omega)
  rw [List.take_length]
  exact ⟨q, rfl⟩
theorem o176 (t : List Exp) (f : Nat) (cs : List GV) (n0 rb : Nat) (T : GH) (hb : n0 + (occEL t).length ≤ 4194304)
  (hp : ∀ a ∈ t, ∀ (l : List Oc) (q : Nat), l.length + (occE a).length ≤ 4194304 → Gc f (Ex a :: cs) ((q, 2, l.map Occ) :: (rb, 1, [.own q 2 0 l.length]) :: T) (fun v H' => ∃ q', v = B false ∧ H' = (q', 2, (l ++ occE a).map Occ) :: (rb, 1, [.own q' 2 0 (l ++ occE a).length]) :: T))
  (l : List Oc) (q : Nat) (hl : l.length = n0) :
  Gc 176 [ExS t, .clo f cs] ((q, 2, l.map Occ) :: (rb, 1, [.own q 2 0 l.length]) :: T) (fun v H' => ∃ q', v = B false ∧ H' = (q', 2, (l ++ occEL t).map Occ) :: (rb, 1, [.own q' 2 0 (l ++ occEL t).length]) :: T) := by
 refine gstart mxd i176 rfl (by simp) ?_; refine X0 ?_
 (refine V0 ?_; with_reducible repeat' first|exact trivial|intro h|refine aO ?_|refine eO ?_|apply jO)
 refine callS.of (o230 t f cs n0 rb T hb hp l q hl) ?_
 rintro v H' ⟨q', rfl, rfl⟩ hn2
 (refine V0 ?_; with_reducible repeat' first|exact trivial|intro h|refine aO ?_|refine eO ?_|apply jO)
 exact ⟨q', by simp⟩
theorem o231 (rb : Nat) (T : GH) : ∀ (e : Exp) (l : List Oc) (q : Nat), l.length + (occE e).length ≤ 4194304 →
  Gc 231 [Ex e, .clo 276 [.ptr rb 1 0 0]] ((q, 2, l.map Occ) :: (rb, 1, [.own q 2 0 l.length]) :: T) (fun v H' => ∃ q', v = B true ∧ H' = (q', 2, (l ++ occE e).map Occ) :: (rb, 1, [.own q' 2 0 (l ++ occE e).length]) :: T) := by
 refine Exp.indA fun e ih l q hb => ?_
 have e0 := occE_eq e
 have e1 : (occE e).length = (occ1 e).length + (occEL e.args).length := by rw [e0, List.length_append]
 refine gstart mxd i231 rfl (by simp) ?_; refine X0 ?_
 ((try refine qI ?_); (repeat ((first | with_reducible refine qU ?_ | simp only [brGen]); try simp (maxSteps := 9^7) +contextual only [↓ S2, S2, ↓reduceIte, reduceNe, reduceEqDiff, reduceCtorEq, reduceLeDiff, reduceAdd, reduceLT, VQ, XE, gs_clo])); (try simp +contextual (disch := omega) only [Z2, XE, gs_clo]); (with_reducible repeat' (first | intro h | refine And.intro (by omega) ?_ | refine exP (by omega) ?_ | apply And.intro)))
 refine callS.of (o276 e l (by omega) rb q T) ?_
 rintro v H' ⟨q', rfl, rfl⟩ hn
 replace hn := neH_of hn
 (replace hn := hn; simp only [VN] at hn)
 (refine V1 (jO hn @XE) ?_; with_reducible repeat' first|exact trivial|intro h|refine aO ?_|refine eO ?_|apply jO)
 refine callS.of (o176 e.args 280 _ (l ++ occ1 e).length rb T (by rw [List.length_append]; omega) (fun a ha l q hb => ?_) (l ++ occ1 e) q' rfl) ?_
 ·refine gstart mxd i280 rfl (by simp) ?_; refine X0 ?_
  (refine V1 @XE ?_; with_reducible repeat' first|exact trivial|intro h|refine aO ?_|refine eO ?_|apply jO)
  refine callS.of (ih a ha l q hb) ?_
  rintro v H' ⟨q', rfl, rfl⟩ hn
  (refine V0 ?_; with_reducible repeat' first|exact trivial|intro h|refine aO ?_|refine eO ?_|apply jO)
  exact ⟨q', rfl⟩
 ·rintro v H' ⟨q2, rfl, rfl⟩ hn
  (refine V0 ?_; with_reducible repeat' first|exact trivial|intro h|refine aO ?_|refine eO ?_|apply jO)
  rw [e0, List.append_assoc]
  exact ⟨q2, rfl⟩
theorem o279 (L : List Oc) (r n : Nat) (T : GH) (hL : L.length = n) (hb : n ≤ 4194304) : Gc 279 [.own r 2 0 n] ((r, 2, L.map Occ) :: T)
  (fun v H' => v = .own r 2 0 (cpO L).length ∧ H' = (r, 2, (cpO L).map Occ) :: T) := by
 subst hL
 refine gstart mxd i279 rfl (by simp) ?_; refine X0 ?_
 by_cases h2 : L.length < 2
 ·have e : cpO L = L := cpO_short (by omega)
  rw [e]
  (refine V1 h2 ?_; with_reducible repeat' first|exact trivial|intro h|refine aO ?_|refine eO ?_|apply jO)
  all_goals try (exfalso; omega)
 ·have h2' : ¬ ((L.length : Int) < 2) := by omega
  (refine V1 h2' ?_; with_reducible repeat' first|exact trivial|intro h|refine aO ?_|refine eO ?_|apply jO)
  all_goals try (exfalso; omega)
  refine wloop mxd (ι := { k : Nat // 1 ≤ k ∧ k ≤ L.length ∧ cpO (L.take k) = L.take k }) (fun k => [(0, .own r 2 0 L.length), (3, I k.1)]) (fun k => (r, 2, L.map Occ) :: T) (fun k => L.length - k.1) ⟨1, by omega, by omega, cpO_short (by simp; omega)⟩ (by simp [E2]) rfl ?_
  rintro ⟨k, hk1, hk2, hk⟩
  rcases Nat.lt_or_ge k L.length with h | h
  ·obtain ⟨m, rfl⟩ : ∃ m, k = m + 1 := ⟨k - 1, by omega⟩
   have hst := cpO_take h
   have hm : ((m + 1 : Nat) : Int) - 1 = m := by omega
   have hnn : ((L.length : Int) - ((m + 1 : Nat) : Int)).toNat = L.length - (m + 1) := by omega
   have hno : ¬ L[m + 1] = L[m] → cpO (L.take (m + 2)) = L.take (m + 2) := fun he => by
    rw [hst, if_neg he, hk, List.take_add_one (i := m + 1), List.getElem?_eq_getElem h]; rfl
   (refine V1 (jO @List.length_map.{0,0} (jO hm hnn)) ?_; with_reducible repeat' first|exact trivial|intro h|refine aO ?_|refine eO ?_|apply jO)
   all_goals try (exfalso; omega)
   ·rename_i hf
    simp only [Int.toNat_natCast] at hf h
    have he : L[m + 1] = L[m] := Prod.ext hf h
    rw [if_pos he, hk] at hst
    have i1 : (cpO (L.take (m + 1 + 1))).length = m + 1 := by rw [show m + 1 + 1 = m + 2 from rfl, hst]; simp; omega
    refine wloop mxd (ι := { y : Nat × List Oc // cpI L m y.1 y.2 }) (fun y => [(0, .own r 2 0 L.length), (3, I (cpO (L.take (m + 1 + y.1.1))).length), (4, .own r 2 (m + 1) (L.length - (m + 1))), (5, I y.1.1)]) (fun y => (r, 2, y.1.2.map Occ) :: T) (fun y => L.length - y.1.1) ⟨(1, L), by omega, by dsimp only; omega, rfl, by dsimp only; omega, by dsimp only; rw [i1, show m + 1 + 1 = m + 2 from rfl, hst], rfl⟩ (by simp only [i1]; simp [E2]) rfl ?_
    rintro ⟨⟨j, X⟩, hI⟩
    obtain ⟨hj1, hj2, hx1, hx2, hx3, hx4⟩ := id hI
    dsimp only at hI hj1 hj2 hx1 hx2 hx3 hx4 ⊢
    rcases Nat.lt_or_ge (m + 1 + j) L.length with hlt | hge
    ·have hi2 : m + 1 + ((j : Int) - 1).toNat = m + j := by omega
     (refine V1 (jO @List.length_map.{0,0} hx1) ?_; with_reducible repeat' first|exact trivial|intro h|refine aO ?_|refine eO ?_|apply jO)
     all_goals try (exfalso; omega)
     ·rename_i hf
      obtain ⟨b1, b2⟩ := cpI_eq hI hlt hi2 (by omega) (by omega) (Prod.ext hf h)
      exact nx ⟨(j + 1, X), b1⟩ (by simp; omega) (by simp only [b2]; simp [E2]) rfl
     ·rename_i hf
      obtain ⟨b1, b2⟩ := cpI_ne hI hlt hi2 (by omega) (by omega) (fun e => h (congrArg Prod.snd e))
      refine nx ⟨(j + 1, _), b1⟩ (by simp; omega) (by simp only [b2]; simp [E2]) ?_
      rw [List.map_set, ← hf]
     ·obtain ⟨b1, b2⟩ := cpI_ne hI hlt hi2 (by omega) (by omega) (fun e => h (congrArg Prod.fst e))
      refine nx ⟨(j + 1, _), b1⟩ (by simp; omega) (by simp only [b2]; simp [E2]) ?_
      rw [List.map_set]
    ·have hje : m + 1 + j = L.length := by omega
     have hle := cpO_len L
     have e2 : (cpO (L.take (m + 1 + j))) = cpO L := by rw [hje, List.take_length]
     rw [e2] at hx3
     simp only [e2]
     (refine V1 (jO @List.length_map.{0,0} hx1) ?_; with_reducible repeat' first|exact trivial|intro h|refine aO ?_|refine eO ?_|apply jO)
     all_goals first | omega | (simp; done) | (rw [← List.map_take, hx3])
   ·simp only [Int.toNat_natCast] at h
    exact nx ⟨m + 2, by omega, by omega, hno fun e => h (congrArg Prod.snd e)⟩ (by simp; omega) (by simp [E2]; omega) rfl
   ·simp only [Int.toNat_natCast] at h
    exact nx ⟨m + 2, by omega, by omega, hno fun e => h (congrArg Prod.fst e)⟩ (by simp; omega) (by simp [E2]; omega) rfl
  ·obtain rfl : k = L.length := by omega
   rw [List.take_length] at hk
   rw [hk]
   (refine V0 ?_; with_reducible repeat' first|exact trivial|intro h|refine aO ?_|refine eO ?_|apply jO)
   all_goals try (exfalso; omega)
theorem o226 (e : Exp) (hw : wEx e ≤ 1048576) (H : GH) : Gc 226 [Ex e] H (fun v H' => ∃ H1, (∃ r, v = .own r 2 0 (usE e []).length ∧ H1 = [(r, 2, (usE e []).map Occ)]) ∧ H' = H1 ++ H) := by
 have h0 : Gc 226 [Ex e] H (fun v H' => ∃ r rb u, ¬ r = rb ∧ v = .own r 2 0 (usE e []).length ∧ H' = (r, 2, (usE e []).map Occ) :: (rb, 1, u) :: H) := by
  have e1 := occE_len e
  have e2 := srO_len (occE e)
  have e3 := usE_cp e
  refine gstart mxd i226 rfl (by simp) ?_; refine X0 ?_
  (refine V1 @XE ?_; with_reducible repeat' first|exact trivial|intro h|refine aO ?_|refine eO ?_|apply jO)
  rename_i q _ rb
  refine callS.of (GCalls.sub (H := [_, _]) (L := [(q, 2, ([] : List Oc).map Occ), (rb, 1, [.own q 2 0 ([] : List Oc).length])]) (T := H) ?_ (o231 rb H e [] q (by simp; omega))) ?_
  ·simp [subH, hget, names, *]
  rintro v H' ⟨q', rfl, rfl⟩ hn
  rw [List.nil_append] at hn ⊢
  replace hn := neH_of hn
  (replace hn := hn; simp only [VN] at hn)
  (refine V1 hn ?_; with_reducible repeat' first|exact trivial|intro h|refine aO ?_|refine eO ?_|apply jO)
  refine callS.of (o277 hget_new rfl (by omega)) ?_
  rintro v H' ⟨rfl, rfl⟩ -
  rw [hset_new]
  (refine V1 hn ?_; with_reducible repeat' first|exact trivial|intro h|refine aO ?_|refine eO ?_|apply jO)
  refine callS.of (o279 (srO (occE e)) q' _ _ e2 (by omega)) ?_
  rintro v H' ⟨rfl, rfl⟩ -
  rw [e3]
  (refine V1 hn ?_; with_reducible repeat' first|exact trivial|intro h|refine aO ?_|refine eO ?_|apply jO)
  exact ⟨q', rb, _, by simp [hn], rfl, rfl⟩
 refine h0.fr ?_
 rintro v H' ⟨r, rb, u, n1, rfl, rfl⟩
 exact ⟨_, _, FR.perm (H := [_, _]) (L := [(r, 2, (usE e []).map Occ)]) (by simp [subH, hget, names, *]), _, ⟨r, rfl, rfl⟩, rfl⟩
theorem q226 (e : Exp) (hw : wEx e ≤ 1048576) : Pu 226 [Ex e] (· = OcS (usE e [])) :=
 Pure.bor ((o226 e hw []).mono fun v H' ⟨H1, ⟨r, h1, h2⟩, h3⟩ => by
  subst h1; subst h2; subst h3
  exact Bor.allM (fun _ => rfl) hget_new rfl)
theorem w233 (t : List Sym) (f : Nat) (cs : List GV) (p : Sym → Bool) (hp : ∀ x ∈ t, Pu f (Sy x :: cs) (· = B (p x))) :
  Pu 233 [SyS t, .clo f cs] (· = I (ixOf p t)) := by
 refine GCalls.lenA fun hl => ?_
 have hlen := hl.1.1
 simp only [List.length_map, maxL] at hlen
 refine gstart mxd i233 rfl (by simp) ?_; refine X0 ?_
 (refine V0 ?_; with_reducible repeat' first|exact trivial|intro h|refine aO ?_|refine eO ?_|apply jO)
 refine wloop mxd (ι := { i : Nat // i ≤ t.length ∧ ∀ y ∈ t.take i, p y = false }) (fun i => [(0, SyS t), (1, .clo f cs), (7, I t.length), (8, I i.1)]) (fun _ => []) (fun i => t.length - i.1) ⟨0, by simp⟩ (by simp [E2]) rfl ?_
 rintro ⟨i, hi, hn⟩
 rcases Nat.lt_or_ge i t.length with hlt | hge
 ·(refine V1 @XE ?_; with_reducible repeat' first|exact trivial|intro h|refine aO ?_|refine eO ?_|apply jO)
  all_goals try (exfalso; omega)
  refine callS.eq (hp t[i] (List.getElem_mem hlt)) ?_
  by_cases hb : p t[i] = true
  ·have e := ixOf_hit hlt hb hn
   rw [e]
   (refine V1 hb ?_; with_reducible repeat' first|exact trivial|intro h|refine aO ?_|refine eO ?_|apply jO)
  ·have hb' : p t[i] = false := by simpa using hb
   (refine V1 hb' ?_; with_reducible repeat' first|exact trivial|intro h|refine aO ?_|refine eO ?_|apply jO)
   exact nx ⟨i + 1, by omega, take_step hlt hb' hn⟩ (by simp <;> omega) (by simp [E2]) rfl
 ·obtain rfl : i = t.length := by omega
  rw [List.take_length] at hn
  rw [ixOf_none hn]
  (refine V0 ?_; with_reducible repeat' first|exact trivial|intro h|refine aO ?_|refine eO ?_|apply jO)
  all_goals first | (exfalso; omega) | skip
theorem w179 (t : List Sym) (f : Nat) (cs : List GV) (p : Sym → Bool) (hp : ∀ x ∈ t, Pu f (Sy x :: cs) (· = B (p x))) :
  Pu 179 [SyS t, .clo f cs] (· = B (t.any p)) := by
 refine gstart mxd i179 rfl (by simp) ?_; refine X0 ?_
 refine callS.eq (w233 t f cs p hp) ?_
 (refine R0 ?_; with_reducible repeat' first|exact trivial|intro h|refine aO ?_|refine eO ?_|apply jO)
 rw [← any_ix]
theorem w229 (t : List Rul) (f : Nat) (cs : List GV) (p : Rul → Bool) (hp : ∀ x ∈ t, Pu f (Ru x :: cs) (· = B (p x))) :
  Pu 229 [RuS t, .clo f cs] (· = I (ixOf p t)) := by
 refine GCalls.lenA fun hl => ?_
 have hlen := hl.1.1
 simp only [List.length_map, maxL] at hlen
 refine gstart mxd i229 rfl (by simp) ?_; refine X0 ?_
 (refine V0 ?_; with_reducible repeat' first|exact trivial|intro h|refine aO ?_|refine eO ?_|apply jO)
 refine wloop mxd (ι := { i : Nat // i ≤ t.length ∧ ∀ y ∈ t.take i, p y = false }) (fun i => [(0, RuS t), (1, .clo f cs), (7, I t.length), (8, I i.1)]) (fun _ => []) (fun i => t.length - i.1) ⟨0, by simp⟩ (by simp [E2]) rfl ?_
 rintro ⟨i, hi, hn⟩
 rcases Nat.lt_or_ge i t.length with hlt | hge
 ·(refine V1 @XE ?_; with_reducible repeat' first|exact trivial|intro h|refine aO ?_|refine eO ?_|apply jO)
  all_goals try (exfalso; omega)
  refine callS.eq (hp t[i] (List.getElem_mem hlt)) ?_
  by_cases hb : p t[i] = true
  ·have e := ixOf_hit hlt hb hn
   rw [e]
   (refine V1 hb ?_; with_reducible repeat' first|exact trivial|intro h|refine aO ?_|refine eO ?_|apply jO)
  ·have hb' : p t[i] = false := by simpa using hb
   (refine V1 hb' ?_; with_reducible repeat' first|exact trivial|intro h|refine aO ?_|refine eO ?_|apply jO)
   exact nx ⟨i + 1, by omega, take_step hlt hb' hn⟩ (by simp <;> omega) (by simp [E2]) rfl
 ·obtain rfl : i = t.length := by omega
  rw [List.take_length] at hn
  rw [ixOf_none hn]
  (refine V0 ?_; with_reducible repeat' first|exact trivial|intro h|refine aO ?_|refine eO ?_|apply jO)
  all_goals first | (exfalso; omega) | skip
theorem w174 (t : List Rul) (f : Nat) (cs : List GV) (p : Rul → Bool) (hp : ∀ x ∈ t, Pu f (Ru x :: cs) (· = B (p x))) :
  Pu 174 [RuS t, .clo f cs] (· = B (t.any p)) := by
 refine gstart mxd i174 rfl (by simp) ?_; refine X0 ?_
 refine callS.eq (w229 t f cs p hp) ?_
 (refine R0 ?_; with_reducible repeat' first|exact trivial|intro h|refine aO ?_|refine eO ?_|apply jO)
 rw [← any_ix]
theorem w234 (t : List Att) (f : Nat) (cs : List GV) (p : Att → Bool) (hp : ∀ x ∈ t, Pu f (At x :: cs) (· = B (p x))) :
  Pu 234 [AtS t, .clo f cs] (· = I (ixOf p t)) := by
 refine GCalls.lenA fun hl => ?_
 have hlen := hl.1.1
 simp only [List.length_map, maxL] at hlen
 refine gstart mxd i234 rfl (by simp) ?_; refine X0 ?_
 (refine V0 ?_; with_reducible repeat' first|exact trivial|intro h|refine aO ?_|refine eO ?_|apply jO)
 refine wloop mxd (ι := { i : Nat // i ≤ t.length ∧ ∀ y ∈ t.take i, p y = false }) (fun i => [(0, AtS t), (1, .clo f cs), (7, I t.length), (8, I i.1)]) (fun _ => []) (fun i => t.length - i.1) ⟨0, by simp⟩ (by simp [E2]) rfl ?_
 rintro ⟨i, hi, hn⟩
 rcases Nat.lt_or_ge i t.length with hlt | hge
 ·(refine V1 @XE ?_; with_reducible repeat' first|exact trivial|intro h|refine aO ?_|refine eO ?_|apply jO)
  all_goals try (exfalso; omega)
  refine callS.eq (hp t[i] (List.getElem_mem hlt)) ?_
  by_cases hb : p t[i] = true
  ·have e := ixOf_hit hlt hb hn
   rw [e]
   (refine V1 hb ?_; with_reducible repeat' first|exact trivial|intro h|refine aO ?_|refine eO ?_|apply jO)
  ·have hb' : p t[i] = false := by simpa using hb
   (refine V1 hb' ?_; with_reducible repeat' first|exact trivial|intro h|refine aO ?_|refine eO ?_|apply jO)
   exact nx ⟨i + 1, by omega, take_step hlt hb' hn⟩ (by simp <;> omega) (by simp [E2]) rfl
 ·obtain rfl : i = t.length := by omega
  rw [List.take_length] at hn
  rw [ixOf_none hn]
  (refine V0 ?_; with_reducible repeat' first|exact trivial|intro h|refine aO ?_|refine eO ?_|apply jO)
  all_goals first | (exfalso; omega) | skip
theorem w181 (t : List Att) (f : Nat) (cs : List GV) (p : Att → Bool) (hp : ∀ x ∈ t, Pu f (At x :: cs) (· = B (p x))) :
  Pu 181 [AtS t, .clo f cs] (· = B (t.any p)) := by
 refine gstart mxd i181 rfl (by simp) ?_; refine X0 ?_
 refine callS.eq (w234 t f cs p hp) ?_
 (refine R0 ?_; with_reducible repeat' first|exact trivial|intro h|refine aO ?_|refine eO ?_|apply jO)
 rw [← any_ix]
theorem w300 (t : List Oc) (f : Nat) (cs : List GV) (p : Oc → Bool) (hp : ∀ x ∈ t, Pu f (Occ x :: cs) (· = B (p x))) :
  Pu 300 [OcS t, .clo f cs] (· = I (ixOf p t)) := by
 refine GCalls.lenA fun hl => ?_
 have hlen := hl.1.1
 simp only [List.length_map, maxL] at hlen
 refine gstart mxd i300 rfl (by simp) ?_; refine X0 ?_
 (refine V0 ?_; with_reducible repeat' first|exact trivial|intro h|refine aO ?_|refine eO ?_|apply jO)
 refine wloop mxd (ι := { i : Nat // i ≤ t.length ∧ ∀ y ∈ t.take i, p y = false }) (fun i => [(0, OcS t), (1, .clo f cs), (7, I t.length), (8, I i.1)]) (fun _ => []) (fun i => t.length - i.1) ⟨0, by simp⟩ (by simp [E2]) rfl ?_
 rintro ⟨i, hi, hn⟩
 rcases Nat.lt_or_ge i t.length with hlt | hge
 ·(refine V1 @XE ?_; with_reducible repeat' first|exact trivial|intro h|refine aO ?_|refine eO ?_|apply jO)
  all_goals try (exfalso; omega)
  refine callS.eq (hp t[i] (List.getElem_mem hlt)) ?_
  by_cases hb : p t[i] = true
  ·have e := ixOf_hit hlt hb hn
   rw [e]
   (refine V1 hb ?_; with_reducible repeat' first|exact trivial|intro h|refine aO ?_|refine eO ?_|apply jO)
  ·have hb' : p t[i] = false := by simpa using hb
   (refine V1 hb' ?_; with_reducible repeat' first|exact trivial|intro h|refine aO ?_|refine eO ?_|apply jO)
   exact nx ⟨i + 1, by omega, take_step hlt hb' hn⟩ (by simp <;> omega) (by simp [E2]) rfl
 ·obtain rfl : i = t.length := by omega
  rw [List.take_length] at hn
  rw [ixOf_none hn]
  (refine V0 ?_; with_reducible repeat' first|exact trivial|intro h|refine aO ?_|refine eO ?_|apply jO)
  all_goals first | (exfalso; omega) | skip
theorem w260 (t : List Oc) (f : Nat) (cs : List GV) (p : Oc → Bool) (hp : ∀ x ∈ t, Pu f (Occ x :: cs) (· = B (p x))) :
  Pu 260 [OcS t, .clo f cs] (· = B (t.any p)) := by
 refine gstart mxd i260 rfl (by simp) ?_; refine X0 ?_
 refine callS.eq (w300 t f cs p hp) ?_
 (refine R0 ?_; with_reducible repeat' first|exact trivial|intro h|refine aO ?_|refine eO ?_|apply jO)
 rw [← any_ix]
theorem w301 (t : List Eqn) (f : Nat) (cs : List GV) (p : Eqn → Bool) (hp : ∀ x ∈ t, Pu f (Qn x :: cs) (· = B (p x))) :
  Pu 301 [QnS t, .clo f cs] (· = I (ixOf p t)) := by
 refine GCalls.lenA fun hl => ?_
 have hlen := hl.1.1
 simp only [List.length_map, maxL] at hlen
 refine gstart mxd i301 rfl (by simp) ?_; refine X0 ?_
 (refine V0 ?_; with_reducible repeat' first|exact trivial|intro h|refine aO ?_|refine eO ?_|apply jO)
 refine wloop mxd (ι := { i : Nat // i ≤ t.length ∧ ∀ y ∈ t.take i, p y = false }) (fun i => [(0, QnS t), (1, .clo f cs), (7, I t.length), (8, I i.1)]) (fun _ => []) (fun i => t.length - i.1) ⟨0, by simp⟩ (by simp [E2]) rfl ?_
 rintro ⟨i, hi, hn⟩
 rcases Nat.lt_or_ge i t.length with hlt | hge
 ·(refine V1 @XE ?_; with_reducible repeat' first|exact trivial|intro h|refine aO ?_|refine eO ?_|apply jO)
  all_goals try (exfalso; omega)
  refine callS.eq (hp t[i] (List.getElem_mem hlt)) ?_
  by_cases hb : p t[i] = true
  ·have e := ixOf_hit hlt hb hn
   rw [e]
   (refine V1 hb ?_; with_reducible repeat' first|exact trivial|intro h|refine aO ?_|refine eO ?_|apply jO)
  ·have hb' : p t[i] = false := by simpa using hb
   (refine V1 hb' ?_; with_reducible repeat' first|exact trivial|intro h|refine aO ?_|refine eO ?_|apply jO)
   exact nx ⟨i + 1, by omega, take_step hlt hb' hn⟩ (by simp <;> omega) (by simp [E2]) rfl
 ·obtain rfl : i = t.length := by omega
  rw [List.take_length] at hn
  rw [ixOf_none hn]
  (refine V0 ?_; with_reducible repeat' first|exact trivial|intro h|refine aO ?_|refine eO ?_|apply jO)
  all_goals first | (exfalso; omega) | skip
theorem w263 (t : List Eqn) (f : Nat) (cs : List GV) (p : Eqn → Bool) (hp : ∀ x ∈ t, Pu f (Qn x :: cs) (· = B (p x))) :
  Pu 263 [QnS t, .clo f cs] (· = B (t.any p)) := by
 refine gstart mxd i263 rfl (by simp) ?_; refine X0 ?_
 refine callS.eq (w301 t f cs p hp) ?_
 (refine R0 ?_; with_reducible repeat' first|exact trivial|intro h|refine aO ?_|refine eO ?_|apply jO)
 rw [← any_ix]
end Go.Proofs.YthnchomedekciaaGreat
