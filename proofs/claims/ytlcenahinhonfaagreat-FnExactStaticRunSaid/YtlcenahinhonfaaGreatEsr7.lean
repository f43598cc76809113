/- The law FnExactStaticRun returns true whatever the input, and the input reads behind the call as before. No condition. -/
import Derived.Test.YtlcenahinhonfaaGreatEsr6
set_option maxHeartbeats 40000000
namespace Go.Proofs.YtlcenahinhonfaaGreat
open Go.Gh
open Nat (reduceEqDiff reduceLeDiff reduceAdd reduceLT)
open Int (reduceNe)
set_option maxRecDepth 20000
set_option linter.unusedSimpArgs false
set_option linter.unusedVariables false
open Go.Shelf
def Tryz.sortO_ren : Go.Shelf.Ren := ⟨fun | 6 => 203 | 15 => 242 | 14 => 241 | 28 => 284 | 29 => 285 | 20 => 276 | 21 => 277 | 22 => 278 | 23 => 279 | 24 => 280 | 25 => 281 | 26 => 282 | 27 => 283 | 46 => 297 | 47 => 298 | 48 => 299 | 49 => 300 | 50 => 301 | 57 => 303 | n => n, fun | 22 => 200 | 24 => 145 | 25 => 241 | 3 => 3 | 39 => 237 | 0 => 0 | 53 => 278 | 55 => 280 | 4 => 4 | 46 => 271 | 45 => 270 | 50 => 275 | 5 => 5 | 9 => 9 | 66 => 285 | 70 => 289 | 76 => 291 | 77 => 148 | n => n, fun | n => n⟩
theorem Tryz.sortO : Go.Proofs.SlLaysF0.n6 Tryz.prog Tryz.sortO_ren := {
 mixed := by kernel_rfl
 f6 := ⟨Tryz.f203.name, by decide, Tryz.func203.trans (congrArg some (by kernel_rfl))⟩
 f14 := ⟨Tryz.f241.name, by decide, Tryz.func241.trans (congrArg some (by kernel_rfl))⟩
 f15 := Tryz.func242.trans (congrArg some (by kernel_rfl))
 f20 := ⟨Tryz.f276.name, by decide, Tryz.func276.trans (congrArg some (by kernel_rfl))⟩
 f21 := ⟨Tryz.f277.name, by decide, Tryz.func277.trans (congrArg some (by kernel_rfl))⟩
 f22 := ⟨Tryz.f278.name, by decide, Tryz.func278.trans (congrArg some (by kernel_rfl))⟩
 f23 := ⟨Tryz.f279.name, by decide, Tryz.func279.trans (congrArg some (by kernel_rfl))⟩
 f24 := ⟨Tryz.f280.name, by decide, Tryz.func280.trans (congrArg some (by kernel_rfl))⟩
 f25 := ⟨Tryz.f281.name, by decide, Tryz.func281.trans (congrArg some (by kernel_rfl))⟩
 f26 := ⟨Tryz.f282.name, by decide, Tryz.func282.trans (congrArg some (by kernel_rfl))⟩
 f27 := ⟨Tryz.f283.name, by decide, Tryz.func283.trans (congrArg some (by kernel_rfl))⟩
 f28 := Tryz.func284.trans (congrArg some (by kernel_rfl))
 f29 := Tryz.func285.trans (congrArg some (by kernel_rfl))
 f46 := ⟨Tryz.f297.name, by decide, Tryz.func297.trans (congrArg some (by kernel_rfl))⟩
 f47 := Tryz.func298.trans (congrArg some (by kernel_rfl))
 f48 := Tryz.func299.trans (congrArg some (by kernel_rfl))
 f49 := ⟨Tryz.f300.name, by decide, Tryz.func300.trans (congrArg some (by kernel_rfl))⟩
 f50 := ⟨Tryz.f301.name, by decide, Tryz.func301.trans (congrArg some (by kernel_rfl))⟩
 f57 := ⟨Tryz.f303.name, by decide, Tryz.func303.trans (congrArg some (by kernel_rfl))⟩
 t0 := Tryz.underlying0
 a0 := Tryz.isAgg0
 z0 := Tryz.sizeOf0
 v0 := Tryz.zeroValue0
 t3 := Tryz.underlying3
 a3 := Tryz.isAgg3
 z3 := Tryz.sizeOf3
 v3 := Tryz.zeroValue3
 t4 := Tryz.underlying4
 a4 := Tryz.isAgg4
 z4 := Tryz.sizeOf4
 v4 := Tryz.zeroValue4
 t5 := Tryz.underlying5
 a5 := Tryz.isAgg5
 z5 := Tryz.sizeOf5
 v5 := Tryz.zeroValue5
 t9 := Tryz.underlying9
 a9 := Tryz.isAgg9
 z9 := Tryz.sizeOf9
 v9 := Tryz.zeroValue9
 t22 := Tryz.underlying200
 a22 := Tryz.isAgg200
 z22 := Tryz.sizeOf200
 v22 := Tryz.zeroValue200
 t25 := Tryz.underlying241
 a25 := Tryz.isAgg241
 z25 := Tryz.sizeOf241
 v25 := Tryz.zeroValue241
 t39 := Tryz.underlying237
 a39 := Tryz.isAgg237
 z39 := Tryz.sizeOf237
 v39 := Tryz.zeroValue237
 t45 := Tryz.underlying270
 a45 := Tryz.isAgg270
 z45 := Tryz.sizeOf270
 v45 := Tryz.zeroValue270
 t46 := Tryz.underlying271
 a46 := Tryz.isAgg271
 z46 := Tryz.sizeOf271
 v46 := Tryz.zeroValue271
 t50 := Tryz.underlying275
 a50 := Tryz.isAgg275
 z50 := Tryz.sizeOf275
 v50 := Tryz.zeroValue275
 t53 := Tryz.underlying278
 a53 := Tryz.isAgg278
 z53 := Tryz.sizeOf278
 v53 := Tryz.zeroValue278
 t55 := Tryz.underlying280
 a55 := Tryz.isAgg280
 z55 := Tryz.sizeOf280
 v55 := Tryz.zeroValue280
 t66 := Tryz.underlying285
 a66 := Tryz.isAgg285
 z66 := Tryz.sizeOf285
 v66 := Tryz.zeroValue285
 t70 := Tryz.underlying289
 a70 := Tryz.isAgg289
 z70 := Tryz.sizeOf289
 v70 := Tryz.zeroValue289
 t76 := Tryz.underlying291
 a76 := Tryz.isAgg291
 z76 := Tryz.sizeOf291
 v76 := Tryz.zeroValue291
 t77 := Tryz.underlying148
 a77 := Tryz.isAgg148
 z77 := Tryz.sizeOf148
 v77 := Tryz.zeroValue148 }
end Go.Proofs.YtlcenahinhonfaaGreat
namespace Go.Proofs.YtlcenahinhonfaaGreat
open Go.Gh
open Nat (reduceEqDiff reduceLeDiff reduceAdd reduceLT)
open Int (reduceNe)
set_option maxRecDepth 20000
set_option linter.unusedSimpArgs false
set_option linter.unusedVariables false
open Go.Shelf Go.RowKit Go.Lib Go.Sort
theorem Tryz.nanI (x : Int) (w : World) : Calls Tryz.prog 286 #[.int .i64 x] w fun e w' => e = .returned (.bool false) ∧ w' = w := by
 go_enter Tryz.func286, Tryz.ntmps286
 go_wp2
 go_ret
 exact ⟨by simp, rfl⟩
theorem Tryz.nanS (x : ByteArray) (w : World) : Calls Tryz.prog 287 #[.string x] w fun e w' => e = .returned (.bool false) ∧ w' = w := by
 go_enter Tryz.func287, Tryz.ntmps287
 go_wp2
 go_ret
 exact ⟨by simp, rfl⟩
theorem Tryz.cmpI (x y : Int) (w : World) : Calls Tryz.prog 244 #[.int .i64 x, .int .i64 y] w fun e w' => e = .returned (.int .i64 (if x < y then -1 else if y < x then 1 else 0)) ∧ w' = w := by
 go_enter Tryz.func244, Tryz.ntmps244
 go_wp2_with (go_at_call 286; refine (Tryz.nanI _ _).mono ?_; rintro e w' ⟨rfl, hw⟩; rw [hw])
 all_goals (go_ret; refine ⟨?_, rfl⟩; (repeat' split) <;> first | rfl | (exfalso; omega))
theorem Tryz.cmpS (x y : ByteArray) (w : World) : Calls Tryz.prog 245 #[.string x, .string y] w fun e w' => e = .returned (.int .i64 (if ltN x y = true then -1 else if ltN y x = true then 1 else 0)) ∧ w' = w := by
 go_enter Tryz.func245, Tryz.ntmps245
 go_wp2_with (go_at_call 287; refine (Tryz.nanS _ _).mono ?_; rintro e w' ⟨rfl, hw⟩; rw [hw])
 all_goals (go_ret; refine ⟨?_, rfl⟩)
 all_goals simp only [Lib.toList_data] at *
 all_goals simp_all [ltN, ltS_or, ByteArray.ext_iff, Lib.toList_data]
 ·exfalso
  rename_i h1 h2
  exact h2 (congrArg ByteArray.data (ltN_tri (a := x) (b := y) h1 (by assumption)))
 ·exfalso
  rename_i h2 h3
  have e : x = y := ByteArray.ext h3
  subst e
  simp_all
theorem Tryz.or2 (x y : Int) (b cap : Nat) (w : World) (hc : 2 ≤ cap) (h0 : w.cell? ⟨b, 0, none⟩ = some (.int .i64 x)) (h1 : w.cell? ⟨b, 1, none⟩ = some (.int .i64 y)) : Calls Tryz.prog 243 #[.slice (some ⟨b, 0, none⟩) 2 cap] w fun e w' => e = .returned (.int .i64 (if x ≠ 0 then x else y)) ∧ w' = w := by
 go_enter Tryz.func243, Tryz.ntmps243
 go_wp2
 refine wp_loop_rounds 3 ?_
 rw [rounds_succ]
 go_wp2
 ·go_ret; first | exact ⟨rfl, rfl⟩ | (exfalso; simp_all; done)
 ·go_ret; first | exact ⟨rfl, rfl⟩ | (exfalso; simp_all; done)
 ·rw [rounds_succ]
  go_wp2
  ·go_ret; first | exact ⟨rfl, rfl⟩ | (exfalso; simp_all; done)
  ·go_ret; first | exact ⟨rfl, rfl⟩ | (exfalso; simp_all; done)
  ·rw [rounds_succ]
   go_wp2
   all_goals go_ret
   all_goals (try subst_vars)
   all_goals first | exact ⟨rfl, rfl⟩ | (exfalso; simp_all; done) | (refine ⟨?_, rfl⟩; have hy : y = 0 := (by simp_all); subst hy; rfl)
theorem Tryz.closure204 (x y : Oc) (W : World) : Calls Tryz.prog 204 #[.agg #[.int .i64 x.1, .string x.2], .agg #[.int .i64 y.1, .string y.2]] W fun e w' => e = .returned (.int .i64 (cfO x y)) ∧ ∃ q os', w' = grow (W.drewN q) os' := by
 have hi := fun W' => Tryz.cmpI x.1 y.1 W'
 have hs := fun W' => Tryz.cmpS x.2 y.2 W'
 unfold cfO
 generalize (if x.1 < y.1 then (-1 : Int) else if y.1 < x.1 then 1 else 0) = a at hi ⊢
 generalize (if ltN x.2 y.2 = true then (-1 : Int) else if ltN y.2 x.2 = true then 1 else 0) = b at hs ⊢
 have ho := fun bb cap W' h1 h2 h3 => Tryz.or2 a b bb cap W' h1 h2 h3
 generalize (if a ≠ 0 then a else b) = r at ho ⊢
 go_enter Tryz.func204, Tryz.ntmps204
 go_wp2
 obtain ⟨W2, hW2⟩ : ∃ W2, W2 = (W.alloc (.cells #[.int .i64 x.1, .string x.2] 145)).alloc (.cells #[.int .i64 y.1, .string y.2] 145) := ⟨_, rfl⟩
 have c1 : W2.cell? ⟨W.heap.size, 0, none⟩ = some (.int .i64 x.1) := by rw [hW2, cellB _ _ _ _ (by rw [sizeA]; omega)]; exact cellA _ _ _ 0
 have c2 : W2.cell? ⟨W.heap.size, 1, none⟩ = some (.string x.2) := by rw [hW2, cellB _ _ _ _ (by rw [sizeA]; omega)]; exact cellA _ _ _ 1
 have c3 : W2.cell? ⟨W.heap.size + 1, 0, none⟩ = some (.int .i64 y.1) := by rw [hW2, ← sizeA W (.cells #[.int .i64 x.1, .string x.2] 145)]; exact cellA _ _ _ 0
 have c4 : W2.cell? ⟨W.heap.size + 1, 1, none⟩ = some (.string y.2) := by rw [hW2, ← sizeA W (.cells #[.int .i64 x.1, .string x.2] 145)]; exact cellA _ _ _ 1
 have c5 : grow W #[.cells #[.int .i64 x.1, .string x.2] 145, .cells #[.int .i64 y.1, .string y.2] 145] = W2 := by rw [hW2, alloc_eq_grow, alloc_eq_grow, grow_grow]; rfl
 rw [← hW2]
 clear hW2
 go_region_held3 (fun w' => w'.cell? ⟨W.heap.size, 0, none⟩ = some (.int .i64 x.1) ∧ w'.cell? ⟨W.heap.size, 1, none⟩ = some (.string x.2) ∧ w'.cell? ⟨W.heap.size + 1, 0, none⟩ = some (.int .i64 y.1) ∧ w'.cell? ⟨W.heap.size + 1, 1, none⟩ = some (.string y.2)) (go_keep) (first | (go_at_call 244; refine (hi _).mono ?_; rintro e w' ⟨rfl, rfl⟩) | (go_at_call 245; refine (hs _).mono ?_; rintro e w' ⟨rfl, rfl⟩) | (go_at_call 243; refine (ho _ 2 _ (Nat.le_refl _) (cell1a _ _ _ _) (cell1b _ _ _ _)).mono ?_; rintro e w' ⟨rfl, rfl⟩))
 go_wp2
 go_ret
 refine ⟨rfl, 1, #[.cells #[.int .i64 x.1, .string x.2] 145, .cells #[.int .i64 y.1, .string y.2] 145, .cells #[.int .i64 a, .int .i64 b] 3], ?_⟩
 rw [← c5, alloc_eq_grow, grow_grow]
 rfl
theorem Tryz.sortC (w : World) (b cap : Nat) (d : Array Oc) (hH : HoldsK encO 2 w b 0 d) (hb : b < w.heap.size) (hs : d.size < 4611686018427387904) :
  Calls Tryz.prog 203 #[.slice (some ⟨b, 0, none⟩) d.size cap, .func (.func 204) #[] #[]] w fun e w' => e = .returned (.tuple #[]) ∧ ∃ n os, w' = sortWorldK encO 2 w b 0 n (srO d.toList).toArray os := by
 have eg : ∀ args w, (callFunc 204 args).run Tryz.prog w = .ok (.enter 204 args) w := enters_of Tryz.func204 (by kernel_rfl) rfl
 have h := AnyQ.slices_SortFunc_total Tryz.sortO 2 Tryz.isAgg145 Tryz.sizeOf145 encO encO_len encO_one cfO (by rw [cfO_eq]; exact ltO_swo) 204 #[] b 0 cap d w eg (fun _ _ _ _ x y => Tryz.closure204 x y _) hH hb hs (by rw [cfO_eq]; exact fun x y => ltO_tri)
 rw [cfO_eq] at h
 exact h
theorem Tryz.sortN (p : Option Addr) (cap : Nat) (fv : Value) (w : World) : Calls Tryz.prog 203 #[.slice p 0 cap, fv] w fun e w' => e = .returned (.tuple #[]) ∧ w' = w :=
 AnyF.slices_SortFunc_none { Tryz.sortO with } p cap fv w
set_option maxRecDepth 100000 in
theorem o203 {r n : Nat} {l : List Oc} {H : GH} (hr : hget H r = some (2, l.map Occ)) (hn : l.length = n) (hb : n < 4611686018427387904) :
  Gc 203 [.own r 2 0 n, .clo 204 []] H (fun v H' => v = uG ∧ H' = hset H r ((srO l).map Occ)) := by
 have eg : ∀ args w, (callFunc 203 args).run Tryz.prog w = .ok (.enter 203 args) w := enters_of Tryz.func203 (by kernel_rfl) rfl
 exact sort_ok (P := Tryz.prog) (fs := 203) (g := 204) Tryz.sortC Tryz.sortN eg hr hn hb
end Go.Proofs.YtlcenahinhonfaaGreat
namespace Go.Proofs.YtlcenahinhonfaaGreat
open Go.Gh
open Nat (reduceEqDiff reduceLeDiff reduceAdd reduceLT)
open Int (reduceNe)
set_option maxRecDepth 20000
set_option linter.unusedSimpArgs false
set_option linter.unusedVariables false
theorem o202 (e : Exp) (l : List Oc) (hl : l.length ≤ 4194304) (rb q : Nat) (T : GH) : Gc 202 [Ex e, .ptr rb 1 0 0] ((q, 2, l.map Occ) :: (rb, 1, [.own q 2 0 l.length]) :: T)
    (fun v H' => ∃ q', v = B true ∧ H' = (q', 2, (l ++ occ1 e).map Occ) :: (rb, 1, [.own q' 2 0 (l ++ occ1 e).length]) :: T) := by
  refine GCalls.nd fun hn => ?_
  replace hn := neH_of hn
  (replace hn := hn; simp only [VN] at hn)
  by_cases hk : e.kind = 3
  · have h0 : Gc 202 [Ex e, .ptr rb 1 0 0] ((q, 2, l.map Occ) :: (rb, 1, [.own q 2 0 l.length]) :: T)
        (fun v H' => ∃ q' r1 u, ¬ q' = r1 ∧ ¬ q' = rb ∧ ¬ r1 = rb ∧ v = B true ∧ H' = (q', 2, (l ++ occ1 e).map Occ) :: (r1, 2, u) :: (rb, 1, [.own q' 2 0 (l ++ occ1 e).length]) :: T) := by
      refine gstart mxd i202 rfl (by simp) ?_; refine X0 ?_
      (refine V1 (jO @XE (jO hk (jO hn (jO @List.length_map.{0,0} @maxLv)))) ?_; with_reducible repeat' first|exact trivial|intro h|refine aO ?_|refine eO ?_|apply jO)
      rename_i r1 _ r2
      have e1 : occ1 e = [(e.pos, e.name)] := by simp [occ1, hk]
      refine ⟨r2, r1, [Occ (e.pos, e.name)], by simp [*], by simp [*], by simp [*], ?_⟩
      rw [e1, tL (by simp), List.map_append, List.length_append]
      rfl
    refine h0.fr ?_
    rintro v H' ⟨q', r1, u, n1, n2, n3, rfl, rfl⟩
    exact ⟨_, _, FR.perm (H := [_, _, _]) (L := [(q', 2, (l ++ occ1 e).map Occ), (rb, 1, [.own q' 2 0 (l ++ occ1 e).length])]) (by simp [subH, hget, names, *]), q', rfl, rfl⟩
  · have e1 : occ1 e = [] := by simp [occ1, hk]
    rw [e1, List.append_nil]
    refine gstart mxd i202 rfl (by simp) ?_; refine X0 ?_
    (refine V1 (jO @XE (jO hk hn)) ?_; with_reducible repeat' first|exact trivial|intro h|refine aO ?_|refine eO ?_|apply jO)
    exact ⟨q, rfl⟩
theorem o169 (t : List Exp) (f : Nat) (cs : List GV) (n0 rb : Nat) (T : GH) (hb : n0 + (occEL t).length ≤ 4194304)
  (hp : ∀ a ∈ t, ∀ (l : List Oc) (q : Nat), l.length + (occE a).length ≤ 4194304 → Gc f (Ex a :: cs) ((q, 2, l.map Occ) :: (rb, 1, [.own q 2 0 l.length]) :: T) (fun v H' => ∃ q', v = B false ∧ H' = (q', 2, (l ++ occE a).map Occ) :: (rb, 1, [.own q' 2 0 (l ++ occE a).length]) :: T))
  (l : List Oc) (q : Nat) (hl : l.length = n0) :
  Gc 169 [ExS t, .clo f cs] ((q, 2, l.map Occ) :: (rb, 1, [.own q 2 0 l.length]) :: T) (fun v H' => ∃ q', v = I (-1) ∧ H' = (q', 2, (l ++ occEL t).map Occ) :: (rb, 1, [.own q' 2 0 (l ++ occEL t).length]) :: T) := by
 refine GCalls.lenA fun hlen => ?_
 have hlen := hlen.1.1
 simp only [List.length_map, maxL] at hlen
 refine gstart mxd i169 rfl (by simp) ?_; refine X0 ?_
 (refine V0 ?_; with_reducible repeat' first|exact trivial|intro h|refine aO ?_|refine eO ?_|apply jO)
 refine wloopN mxd (ι := { y : Nat × Nat // y.2 ≤ t.length }) (fun y => [(0, ExS t), (1, .clo f cs), (7, I t.length), (8, I y.1.2)]) (fun y => (y.1.1, 2, (l ++ occEL (t.take y.1.2)).map Occ) :: (rb, 1, [.own y.1.1 2 0 (l ++ occEL (t.take y.1.2)).length]) :: T) (fun y => t.length - y.1.2) ⟨(q, 0), by simp⟩ (by simp [E2]) (by simp [occEL]) ?_
 rintro ⟨⟨q, i⟩, hi⟩ hn
 dsimp only at hi hn ⊢
 replace hn := neH_of hn
 (replace hn := hn; simp only [VN] at hn)
 rcases nL i t.length with h | h
 ·have e1 := occEL_step h
  have e2 : (occEL (t.take (i + 1))).length ≤ (occEL t).length := by
   have e3 : t = t.take (i + 1) ++ t.drop (i + 1) := (List.take_append_drop _ _).symm
   have e4 : occEL t = occEL (t.take (i + 1)) ++ occEL (t.drop (i + 1)) := by
    conv => lhs; rw [e3]
    exact occEL_app _ _
   rw [e4, List.length_append]; omega
  have e5 : (occEL (t.take (i + 1))).length = (occEL (t.take i)).length + (occE t[i]).length := by rw [e1, List.length_append]
  (refine V1 (jO hn (jO @isAgg_Ex (jO @geR_Ex (jO @gsize_Ex @stor_Ex)))) ?_; with_reducible repeat' first|exact trivial|intro h|refine aO ?_|refine eO ?_|apply jO)
  all_goals try exact oF
  refine callS.of (hp t[i] (gM _) _ q (by rw [List.length_append]; omega)) ?_
  rintro v H' ⟨q', rfl, rfl⟩ hn2
  rw [List.append_assoc, ← e1] at hn2 ⊢
  (refine V1 hn ?_; with_reducible repeat' first|exact trivial|intro h|refine aO ?_|refine eO ?_|apply jO)
  exact nx ⟨(q', i + 1), by omega⟩ (by simp; omega) (by simp [E2]) rfl
 ·obtain rfl : i = t.length := by omega
  (refine V1 hn ?_; with_reducible repeat' first|exact trivial|intro h|refine aO ?_|refine eO ?_|apply jO)
  all_goals try exact oF
  rw [List.take_length]
  exact ⟨q, rfl⟩
theorem o119 (t : List Exp) (f : Nat) (cs : List GV) (n0 rb : Nat) (T : GH) (hb : n0 + (occEL t).length ≤ 4194304)
  (hp : ∀ a ∈ t, ∀ (l : List Oc) (q : Nat), l.length + (occE a).length ≤ 4194304 → Gc f (Ex a :: cs) ((q, 2, l.map Occ) :: (rb, 1, [.own q 2 0 l.length]) :: T) (fun v H' => ∃ q', v = B false ∧ H' = (q', 2, (l ++ occE a).map Occ) :: (rb, 1, [.own q' 2 0 (l ++ occE a).length]) :: T))
  (l : List Oc) (q : Nat) (hl : l.length = n0) :
  Gc 119 [ExS t, .clo f cs] ((q, 2, l.map Occ) :: (rb, 1, [.own q 2 0 l.length]) :: T) (fun v H' => ∃ q', v = B false ∧ H' = (q', 2, (l ++ occEL t).map Occ) :: (rb, 1, [.own q' 2 0 (l ++ occEL t).length]) :: T) := by
 refine gstart mxd i119 rfl (by simp) ?_; refine X0 ?_
 (refine V0 ?_; with_reducible repeat' first|exact trivial|intro h|refine aO ?_|refine eO ?_|apply jO)
 refine callS.of (o169 t f cs n0 rb T hb hp l q hl) ?_
 rintro v H' ⟨q', rfl, rfl⟩ hn2
 (refine V0 ?_; with_reducible repeat' first|exact trivial|intro h|refine aO ?_|refine eO ?_|apply jO)
 exact ⟨q', by simp⟩
theorem o170 (rb : Nat) (T : GH) : ∀ (e : Exp) (l : List Oc) (q : Nat), l.length + (occE e).length ≤ 4194304 →
  Gc 170 [Ex e, .clo 202 [.ptr rb 1 0 0]] ((q, 2, l.map Occ) :: (rb, 1, [.own q 2 0 l.length]) :: T) (fun v H' => ∃ q', v = B true ∧ H' = (q', 2, (l ++ occE e).map Occ) :: (rb, 1, [.own q' 2 0 (l ++ occE e).length]) :: T) := by
 refine Exp.indA fun e ih l q hb => ?_
 have e0 := occE_eq e
 have e1 : (occE e).length = (occ1 e).length + (occEL e.args).length := by rw [e0, List.length_append]
 refine gstart mxd i170 rfl (by simp) ?_; refine X0 ?_
 ((try refine qI ?_); (repeat ((first | with_reducible refine qU ?_ | simp only [brGen]); try simp (maxSteps := 9^7) +contextual only [↓ S2, S2, ↓reduceIte, reduceNe, reduceEqDiff, reduceCtorEq, reduceLeDiff, reduceAdd, reduceLT, VQ, XE, gs_clo])); (try simp +contextual (disch := omega) only [Z2, XE, gs_clo]); (with_reducible repeat' (first | intro h | refine And.intro (by omega) ?_ | refine exP (by omega) ?_ | apply And.intro)))
 refine callS.of (o202 e l (by omega) rb q T) ?_
 rintro v H' ⟨q', rfl, rfl⟩ hn
 replace hn := neH_of hn
 (replace hn := hn; simp only [VN] at hn)
 (refine V1 (jO hn @XE) ?_; with_reducible repeat' first|exact trivial|intro h|refine aO ?_|refine eO ?_|apply jO)
 refine callS.of (o119 e.args 215 _ (l ++ occ1 e).length rb T (by rw [List.length_append]; omega) (fun a ha l q hb => ?_) (l ++ occ1 e) q' rfl) ?_
 ·refine gstart mxd i215 rfl (by simp) ?_; refine X0 ?_
  (refine V1 @XE ?_; with_reducible repeat' first|exact trivial|intro h|refine aO ?_|refine eO ?_|apply jO)
  refine callS.of (ih a ha l q hb) ?_
  rintro v H' ⟨q', rfl, rfl⟩ hn
  (refine V0 ?_; with_reducible repeat' first|exact trivial|intro h|refine aO ?_|refine eO ?_|apply jO)
  exact ⟨q', rfl⟩
 ·rintro v H' ⟨q2, rfl, rfl⟩ hn
  (refine V0 ?_; with_reducible repeat' first|exact trivial|intro h|refine aO ?_|refine eO ?_|apply jO)
  rw [e0, List.append_assoc]
  exact ⟨q2, rfl⟩
theorem o205 (L : List Oc) (r n : Nat) (T : GH) (hL : L.length = n) (hb : n ≤ 4194304) : Gc 205 [.own r 2 0 n] ((r, 2, L.map Occ) :: T)
  (fun v H' => v = .own r 2 0 (cpO L).length ∧ H' = (r, 2, (cpO L).map Occ) :: T) := by
 subst hL
 refine gstart mxd i205 rfl (by simp) ?_; refine X0 ?_
 by_cases h2 : L.length < 2
 ·have e : cpO L = L := cpO_short (by omega)
  rw [e]
  (refine V1 h2 ?_; with_reducible repeat' first|exact trivial|intro h|refine aO ?_|refine eO ?_|apply jO)
  all_goals try exact oF
 ·have h2' : ¬ ((L.length : Int) < 2) := by omega
  (refine V1 h2' ?_; with_reducible repeat' first|exact trivial|intro h|refine aO ?_|refine eO ?_|apply jO)
  all_goals try exact oF
  refine wloop mxd (ι := { k : Nat // 1 ≤ k ∧ k ≤ L.length ∧ cpO (L.take k) = L.take k }) (fun k => [(0, .own r 2 0 L.length), (3, I k.1)]) (fun k => (r, 2, L.map Occ) :: T) (fun k => L.length - k.1) ⟨1, by omega, by omega, cpO_short (by simp; omega)⟩ (by simp [E2]) rfl ?_
  rintro ⟨k, hk1, hk2, hk⟩
  rcases nL k L.length with h | h
  ·obtain ⟨m, rfl⟩ : ∃ m, k = m + 1 := ⟨k - 1, by omega⟩
   have hst := cpO_take h
   have hm : ((m + 1 : Nat) : Int) - 1 = m := by omega
   have hnn : ((L.length : Int) - ((m + 1 : Nat) : Int)).toNat = L.length - (m + 1) := by omega
   have hno : ¬ L[m + 1] = L[m] → cpO (L.take (m + 2)) = L.take (m + 2) := fun he => by
    rw [hst, if_neg he, hk, List.take_add_one (i := m + 1), List.getElem?_eq_getElem h]; rfl
   (refine V1 (jO @List.length_map.{0,0} (jO hm hnn)) ?_; with_reducible repeat' first|exact trivial|intro h|refine aO ?_|refine eO ?_|apply jO)
   all_goals try exact oF
   ·rename_i hf
    simp only [Int.toNat_natCast] at hf h
    have he : L[m + 1] = L[m] := Prod.ext hf h
    rw [if_pos he, hk] at hst
    have i1 : (cpO (L.take (m + 1 + 1))).length = m + 1 := by rw [show m + 1 + 1 = m + 2 from rfl, hst]; simp; omega
    refine wloop mxd (ι := { y : Nat × List Oc // cpI L m y.1 y.2 }) (fun y => [(0, .own r 2 0 L.length), (3, I (cpO (L.take (m + 1 + y.1.1))).length), (4, .own r 2 (m + 1) (L.length - (m + 1))), (5, I y.1.1)]) (fun y => (r, 2, y.1.2.map Occ) :: T) (fun y => L.length - y.1.1) ⟨(1, L), by omega, by dsimp only; omega, rfl, by dsimp only; omega, by dsimp only; rw [i1, show m + 1 + 1 = m + 2 from rfl, hst], rfl⟩ (by simp only [i1]; simp [E2]) rfl ?_
    rintro ⟨⟨j, X⟩, hI⟩
    obtain ⟨hj1, hj2, hx1, hx2, hx3, hx4⟩ := id hI
    dsimp only at hI hj1 hj2 hx1 hx2 hx3 hx4 ⊢
    rcases nL (m + 1 + j) L.length with hlt | hge
    ·have hi2 : m + 1 + ((j : Int) - 1).toNat = m + j := by omega
     (refine V1 (jO @List.length_map.{0,0} hx1) ?_; with_reducible repeat' first|exact trivial|intro h|refine aO ?_|refine eO ?_|apply jO)
     all_goals try exact oF
     ·rename_i hf
      obtain ⟨b1, b2⟩ := cpI_eq hI hlt hi2 (by omega) (by omega) (Prod.ext hf h)
      exact nx ⟨(j + 1, X), b1⟩ (by simp; omega) (by simp only [b2]; simp [E2]) rfl
     ·rename_i hf
      obtain ⟨b1, b2⟩ := cpI_ne hI hlt hi2 (by omega) (by omega) (fun e => h (congrArg Prod.snd e))
      refine nx ⟨(j + 1, _), b1⟩ (by simp; omega) (by simp only [b2]; simp [E2]) ?_
      rw [List.map_set, ← hf]
     ·obtain ⟨b1, b2⟩ := cpI_ne hI hlt hi2 (by omega) (by omega) (fun e => h (congrArg Prod.fst e))
      refine nx ⟨(j + 1, _), b1⟩ (by simp; omega) (by simp only [b2]; simp [E2]) ?_
      rw [List.map_set]
    ·have hje : m + 1 + j = L.length := by omega
     have hle := cpO_len L
     have e2 : (cpO (L.take (m + 1 + j))) = cpO L := by rw [hje, List.take_length]
     rw [e2] at hx3
     simp only [e2]
     (refine V1 (jO @List.length_map.{0,0} hx1) ?_; with_reducible repeat' first|exact trivial|intro h|refine aO ?_|refine eO ?_|apply jO)
     all_goals first | omega | (simp; done) | (rw [← List.map_take, hx3])
   ·simp only [Int.toNat_natCast] at h
    exact nx ⟨m + 2, by omega, by omega, hno fun e => h (congrArg Prod.snd e)⟩ (by simp; omega) (by simp [E2]; omega) rfl
   ·simp only [Int.toNat_natCast] at h
    exact nx ⟨m + 2, by omega, by omega, hno fun e => h (congrArg Prod.fst e)⟩ (by simp; omega) (by simp [E2]; omega) rfl
  ·obtain rfl : k = L.length := by omega
   rw [List.take_length] at hk
   rw [hk]
   (refine V0 ?_; with_reducible repeat' first|exact trivial|intro h|refine aO ?_|refine eO ?_|apply jO)
   all_goals try exact oF
theorem o162 (e : Exp) (hw : wEx e ≤ 1048576) (H : GH) : Gc 162 [Ex e] H (fun v H' => ∃ H1, (∃ r, v = .own r 2 0 (usE e []).length ∧ H1 = [(r, 2, (usE e []).map Occ)]) ∧ H' = H1 ++ H) := by
 have h0 : Gc 162 [Ex e] H (fun v H' => ∃ r rb u, ¬ r = rb ∧ v = .own r 2 0 (usE e []).length ∧ H' = (r, 2, (usE e []).map Occ) :: (rb, 1, u) :: H) := by
  have e1 := occE_len e
  have e2 := srO_len (occE e)
  have e3 := usE_cp e
  refine gstart mxd i162 rfl (by simp) ?_; refine X0 ?_
  (refine V1 @XE ?_; with_reducible repeat' first|exact trivial|intro h|refine aO ?_|refine eO ?_|apply jO)
  rename_i q _ rb
  refine callS.of (GCalls.sub (H := [_, _]) (L := [(q, 2, ([] : List Oc).map Occ), (rb, 1, [.own q 2 0 ([] : List Oc).length])]) (T := H) ?_ (o170 rb H e [] q (by simp; omega))) ?_
  ·simp [subH, hget, names, *]
  rintro v H' ⟨q', rfl, rfl⟩ hn
  rw [List.nil_append] at hn ⊢
  replace hn := neH_of hn
  (replace hn := hn; simp only [VN] at hn)
  (refine V1 hn ?_; with_reducible repeat' first|exact trivial|intro h|refine aO ?_|refine eO ?_|apply jO)
  refine callS.of (o203 hget_new rfl (by omega)) ?_
  rintro v H' ⟨rfl, rfl⟩ -
  rw [hset_new]
  (refine V1 hn ?_; with_reducible repeat' first|exact trivial|intro h|refine aO ?_|refine eO ?_|apply jO)
  refine callS.of (o205 (srO (occE e)) q' _ _ e2 (by omega)) ?_
  rintro v H' ⟨rfl, rfl⟩ -
  rw [e3]
  (refine V1 hn ?_; with_reducible repeat' first|exact trivial|intro h|refine aO ?_|refine eO ?_|apply jO)
  exact ⟨q', rb, _, by simp [hn], rfl, rfl⟩
 refine h0.fr ?_
 rintro v H' ⟨r, rb, u, n1, rfl, rfl⟩
 exact ⟨_, _, FR.perm (H := [_, _]) (L := [(r, 2, (usE e []).map Occ)]) (by simp [subH, hget, names, *]), _, ⟨r, rfl, rfl⟩, rfl⟩
theorem q162 (e : Exp) (hw : wEx e ≤ 1048576) : Pu 162 [Ex e] (· = OcS (usE e [])) :=
 Pure.bor ((o162 e hw []).mono fun v H' ⟨H1, ⟨r, h1, h2⟩, h3⟩ => by
  subst h1; subst h2; subst h3
  exact Bor.allM (fun _ => rfl) hget_new rfl)
theorem o91 (g : Gram) (t : List Nod) (x : Int × ByteArray) (hg : smGr g) (hl : t.length ≤ 1048576) (hk : ∀ x ∈ t, x.kids.length ≤ 1048576) (H : GH) : Gc 91 [Gr g, Tr t, Ins x] H (fun v H' => ∃ H1, (∃ r, v = .own r 2 0 (stI g t x).length ∧ H1 = [(r, 2, (stI g t x).map Ins)]) ∧ H' = H1 ++ H) := by
 refine gstart mxd i91 rfl (by simp) ?_; refine X0 ?_
 (refine V0 ?_; with_reducible repeat' first|exact trivial|intro h|refine aO ?_|refine eO ?_|apply jO)
 rename_i r0
 refine callS.eq (w52 g t x hg hl) ?_
 by_cases hB : defB g t x = true
 ·have hul := usE_sm (defE_small hg t x)
  (refine V1 hB ?_; with_reducible repeat' first|exact trivial|intro h|refine aO ?_|refine eO ?_|apply jO)
  have hq := w146 (defE g t x) (defE_small hg t x)
  rw [Ex_eq] at hq
  refine callS.eq hq ?_
  clear hq
  have hst : stI g t x = (usE (defE g t x) []).filterMap (stF t (defO g t x)) := rfl
  rw [hst]
  generalize usE (defE g t x) [] = U at *
  generalize defE g t x = e at *
  generalize defO g t x = o at *
  (refine V0 ?_; with_reducible repeat' first|exact trivial|intro h|refine aO ?_|refine eO ?_|apply jO)
  refine wloopN mxd (ι := { y : Nat × Nat // y.2 ≤ U.length }) (fun y => [(3, .rop 2 (Gr g)), (4, .rop 1 (Tr t)), (7, .own y.1.1 2 0 ((U.take y.1.2).filterMap (stF t o)).length), (8, .rop 8 (DfG o e)), (10, OcS U), (11, I y.1.2)]) (fun y => (y.1.1, 2, ((U.take y.1.2).filterMap (stF t o)).map Ins) :: H) (fun y => U.length - y.1.2) ⟨(r0, 0), by simp⟩ (by simp [E2]) (by simp) ?_
  rintro ⟨⟨q, i⟩, hi⟩ hn
  dsimp only at hi hn ⊢
  replace hn := neH_of hn
  (replace hn := hn; simp only [VN] at hn)
  have hfl := List.length_filterMap_le (stF t o) (U.take i)
  simp only [List.length_take] at hfl
  rcases nL i U.length with hlt | hge
  ·have hs := fm_step (stF t o) hlt
   (refine V1 hn ?_; with_reducible repeat' first|exact trivial|intro h|refine aO ?_|refine eO ?_|apply jO)
   all_goals try exact oF
   refine callS.eq (w147 g t o U[i] hk) ?_
   by_cases hx : (instAt t o U[i]).2 = true
   ·have hf : stF t o U[i] = some (instAt t o U[i]).1 := by simp [stF, hx]
    rw [hf] at hs
    (refine V1 (jO hn (jO hx (jO @List.length_append.{0} (jO @List.length_singleton.{0} (jO @List.length_map.{0,0} @maxLv))))) ?_; with_reducible repeat' first|exact trivial|intro h|refine aO ?_|refine eO ?_|apply jO)
    all_goals try exact oF
    rename_i r3 _ r4
    refine nxF ⟨(r4, i + 1), by omega⟩ (by simp; omega) (FE.perm (H := [_, _]) (L := [(r4, _)]) (by repeat' (first | exact trivial | (refine And.intro (by simp only [hget_c, *, if_true, if_false]; try rfl) (And.intro (by simp [names_cons, names_nil, *]) ?_))))) (by simp [E2, hs]) ?_
    rw [hs, tL (by simp), List.map_append]
    rfl
   ·have hx' : (instAt t o U[i]).2 = false := by simpa using hx
    have hf : stF t o U[i] = none := by simp [stF, hx']
    rw [hf] at hs
    (refine V1 (jO hn hx') ?_; with_reducible repeat' first|exact trivial|intro h|refine aO ?_|refine eO ?_|apply jO)
    exact nx ⟨(q, i + 1), by omega⟩ (by simp; omega) (by simp [E2, hs]) (by simp [hs])
  ·obtain rfl : i = U.length := by omega
   (refine V1 hn ?_; with_reducible repeat' first|exact trivial|intro h|refine aO ?_|refine eO ?_|apply jO)
   all_goals try exact oF
   rw [List.take_length]
   exact ⟨_, ⟨q, rfl, rfl⟩, rfl⟩
 ·have hB' : defB g t x = false := by simpa using hB
  rw [stI_no hB']
  (refine V1 hB' ?_; with_reducible repeat' first|exact trivial|intro h|refine aO ?_|refine eO ?_|apply jO)
  exact ⟨_, ⟨r0, rfl, rfl⟩, rfl⟩
theorem o112 (g : Gram) (t : List Nod) (x : Int × ByteArray) (hg : smGr g) (hl : t.length ≤ 1048576) (hk : ∀ x ∈ t, x.kids.length ≤ 1048576) (H : GH) : Gc 112 [Gr g, Tr t, Ins x] H (fun v H' => ∃ H1, (∃ r, v = .own r 2 0 (stI g t x).length ∧ H1 = [(r, 2, (stI g t x).map Ins)]) ∧ H' = H1 ++ H) := by
 refine gstart mxd i112 rfl (by simp) ?_; refine X0 ?_
 (refine V0 ?_; with_reducible repeat' first|exact trivial|intro h|refine aO ?_|refine eO ?_|apply jO)
 rename_i r0
 refine callS.eq (q72 g t x hg hl) ?_
 by_cases hB : defB g t x = true
 ·have hul := usE_sm (defE_small hg t x)
  (refine V1 hB ?_; with_reducible repeat' first|exact trivial|intro h|refine aO ?_|refine eO ?_|apply jO)
  have hq := q162 (defE g t x) (defE_small hg t x)
  rw [Ex_eq] at hq
  refine callS.eq hq ?_
  clear hq
  have hst : stI g t x = (usE (defE g t x) []).filterMap (stF t (defO g t x)) := rfl
  rw [hst]
  generalize usE (defE g t x) [] = U at *
  generalize defE g t x = e at *
  generalize defO g t x = o at *
  (refine V0 ?_; with_reducible repeat' first|exact trivial|intro h|refine aO ?_|refine eO ?_|apply jO)
  refine wloopN mxd (ι := { y : Nat × Nat // y.2 ≤ U.length }) (fun y => [(3, .rop 2 (Gr g)), (4, .rop 1 (Tr t)), (7, .own y.1.1 2 0 ((U.take y.1.2).filterMap (stF t o)).length), (8, .rop 8 (DfG o e)), (27, OcS U), (28, I U.length), (29, I y.1.2)]) (fun y => (y.1.1, 2, ((U.take y.1.2).filterMap (stF t o)).map Ins) :: H) (fun y => U.length - y.1.2) ⟨(r0, 0), by simp⟩ (by simp [E2]) (by simp) ?_
  rintro ⟨⟨q, i⟩, hi⟩ hn
  dsimp only at hi hn ⊢
  replace hn := neH_of hn
  (replace hn := hn; simp only [VN] at hn)
  have hfl := List.length_filterMap_le (stF t o) (U.take i)
  simp only [List.length_take] at hfl
  rcases nL i U.length with hlt | hge
  ·have hs := fm_step (stF t o) hlt
   (refine V1 hn ?_; with_reducible repeat' first|exact trivial|intro h|refine aO ?_|refine eO ?_|apply jO)
   all_goals try exact oF
   refine callS.eq (w163 g t o U[i] hk) ?_
   by_cases hx : (instAt t o U[i]).2 = true
   ·have hf : stF t o U[i] = some (instAt t o U[i]).1 := by simp [stF, hx]
    rw [hf] at hs
    (refine V1 (jO hn (jO hx (jO @List.length_append.{0} (jO @List.length_singleton.{0} (jO @List.length_map.{0,0} @maxLv))))) ?_; with_reducible repeat' first|exact trivial|intro h|refine aO ?_|refine eO ?_|apply jO)
    all_goals try exact oF
    rename_i r3 _ r4
    refine nxF ⟨(r4, i + 1), by omega⟩ (by simp; omega) (FE.perm (H := [_, _]) (L := [(r4, _)]) (by repeat' (first | exact trivial | (refine And.intro (by simp only [hget_c, *, if_true, if_false]; try rfl) (And.intro (by simp [names_cons, names_nil, *]) ?_))))) (by simp [E2, hs]) ?_
    rw [hs, tL (by simp), List.map_append]
    rfl
   ·have hx' : (instAt t o U[i]).2 = false := by simpa using hx
    have hf : stF t o U[i] = none := by simp [stF, hx']
    rw [hf] at hs
    (refine V1 (jO hn hx') ?_; with_reducible repeat' first|exact trivial|intro h|refine aO ?_|refine eO ?_|apply jO)
    exact nx ⟨(q, i + 1), by omega⟩ (by simp; omega) (by simp [E2, hs]) (by simp [hs])
  ·obtain rfl : i = U.length := by omega
   (refine V1 hn ?_; with_reducible repeat' first|exact trivial|intro h|refine aO ?_|refine eO ?_|apply jO)
   all_goals try exact oF
   rw [List.take_length]
   exact ⟨_, ⟨q, rfl, rfl⟩, rfl⟩
 ·have hB' : defB g t x = false := by simpa using hB
  rw [stI_no hB']
  (refine V1 hB' ?_; with_reducible repeat' first|exact trivial|intro h|refine aO ?_|refine eO ?_|apply jO)
  exact ⟨_, ⟨r0, rfl, rfl⟩, rfl⟩
theorem q91 (g : Gram) (t : List Nod) (x : Int × ByteArray) (hg : smGr g) (hl : t.length ≤ 1048576) (hk : ∀ x ∈ t, x.kids.length ≤ 1048576) : Pu 91 [Gr g, Tr t, Ins x] (· = InsS (stI g t x)) :=
 Pure.bor ((o91 g t x hg hl hk []).mono fun v H' ⟨H1, ⟨r, h1, h2⟩, h3⟩ => by
  subst h1; subst h2; subst h3
  exact bor_Ins hget_new rfl)
theorem q112 (g : Gram) (t : List Nod) (x : Int × ByteArray) (hg : smGr g) (hl : t.length ≤ 1048576) (hk : ∀ x ∈ t, x.kids.length ≤ 1048576) : Pu 112 [Gr g, Tr t, Ins x] (· = InsS (stI g t x)) :=
 Pure.bor ((o112 g t x hg hl hk []).mono fun v H' ⟨H1, ⟨r, h1, h2⟩, h3⟩ => by
  subst h1; subst h2; subst h3
  exact bor_Ins hget_new rfl)
theorem w92 (L : List Oc) (y : Oc) : Pu 92 [InsS L, Ins y] (· = I (ixI L y)) := by
 refine GCalls.lenA fun hlen => ?_
 have hlen := hlen.1.1
 simp only [List.length_map, maxL] at hlen
 refine gstart mxd i92 rfl (by simp) ?_; refine X0 ?_
 (refine V0 ?_; with_reducible repeat' first|exact trivial|intro h|refine aO ?_|refine eO ?_|apply jO)
 refine wloop mxd (ι := { i : Nat // i ≤ L.length ∧ ∀ a ∈ L.take i, decide (a = y) = false }) (fun i => [(0, InsS L), (3, .rop 2 (Ins y)), (5, I i.1)]) (fun _ => []) (fun i => L.length - i.1) ⟨0, by simp⟩ (by simp [E2]) rfl ?_
 rintro ⟨i, hi, hn⟩
 rcases nL i L.length with hlt | hge
 ·by_cases he : L[i] = y
  ·have he1 : L[i].1 = y.1 := by rw [he]
   have he2 : L[i].2 = y.2 := by rw [he]
   have e : ixI L y = i := ixOf_hit hlt (by simp [he]) hn
   rw [e]
   (refine V1 (jO he1 he2) ?_; with_reducible repeat' first|exact trivial|intro h|refine aO ?_|refine eO ?_|apply jO)
   all_goals first | rfl | (exfalso; omega)
  ·(refine V0 ?_; with_reducible repeat' first|exact trivial|intro h|refine aO ?_|refine eO ?_|apply jO)
   all_goals first
    | (exfalso; exact he (Prod.ext (by assumption) (by assumption)))
    | (exfalso; omega)
    | exact nx ⟨i + 1, by omega, take_step hlt (by simp [he]) hn⟩ (by simp; omega) (by simp [E2]) rfl
 ·obtain rfl : i = L.length := by omega
  rw [List.take_length] at hn
  have e : ixI L y = -1 := ixOf_none hn
  rw [e]
  (refine V0 ?_; with_reducible repeat' first|exact trivial|intro h|refine aO ?_|refine eO ?_|apply jO)
  all_goals first | rfl | (exfalso; omega)
theorem w164 (L : List Oc) (y : Oc) : Pu 164 [InsS L, Ins y] (· = I (ixI L y)) := by
 refine GCalls.lenA fun hlen => ?_
 have hlen := hlen.1.1
 simp only [List.length_map, maxL] at hlen
 refine gstart mxd i164 rfl (by simp) ?_; refine X0 ?_
 (refine V0 ?_; with_reducible repeat' first|exact trivial|intro h|refine aO ?_|refine eO ?_|apply jO)
 refine wloop mxd (ι := { i : Nat // i ≤ L.length ∧ ∀ a ∈ L.take i, decide (a = y) = false }) (fun i => [(0, InsS L), (3, .rop 2 (Ins y)), (7, I L.length), (8, I i.1)]) (fun _ => []) (fun i => L.length - i.1) ⟨0, by simp⟩ (by simp [E2]) rfl ?_
 rintro ⟨i, hi, hn⟩
 rcases nL i L.length with hlt | hge
 ·by_cases he : L[i] = y
  ·have he1 : y.1 = L[i].1 := by rw [he]
   have he2 : y.2 = L[i].2 := by rw [he]
   have e : ixI L y = i := ixOf_hit hlt (by simp [he]) hn
   rw [e]
   (refine V1 (jO he1 he2) ?_; with_reducible repeat' first|exact trivial|intro h|refine aO ?_|refine eO ?_|apply jO)
   all_goals first | rfl | (exfalso; omega)
  ·(refine V0 ?_; with_reducible repeat' first|exact trivial|intro h|refine aO ?_|refine eO ?_|apply jO)
   all_goals first
    | (exfalso; exact he (Prod.ext (Eq.symm (by assumption)) (Eq.symm (by assumption))))
    | (exfalso; omega)
    | exact nx ⟨i + 1, by omega, take_step hlt (by simp [he]) hn⟩ (by simp; omega) (by simp [E2]) rfl
 ·obtain rfl : i = L.length := by omega
  rw [List.take_length] at hn
  have e : ixI L y = -1 := ixOf_none hn
  rw [e]
  (refine V0 ?_; with_reducible repeat' first|exact trivial|intro h|refine aO ?_|refine eO ?_|apply jO)
  all_goals first | rfl | (exfalso; omega)
theorem w113 (L : List Oc) (y : Oc) : Pu 113 [InsS L, Ins y] (· = I (ixI L y)) := by
 refine gstart mxd i113 rfl (by simp) ?_; refine X0 ?_
 (refine V0 ?_; with_reducible repeat' first|exact trivial|intro h|refine aO ?_|refine eO ?_|apply jO)
 refine callS.eq (w164 L y) ?_
 (refine V0 ?_; with_reducible repeat' first|exact trivial|intro h|refine aO ?_|refine eO ?_|apply jO)
end Go.Proofs.YtlcenahinhonfaaGreat
