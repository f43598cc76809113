/- The law FnExactStaticRun returns true whatever the input, and the input reads behind the call as before. No condition. -/
import Derived.Test.YtlcenahinhonfaaGreatLib2
import Derived.Shelf.SlSortCmp.NoneTotal
import Derived.Laws.Cover1
import Derived.Deep.RegionHeld3
import Derived.Shelf.SlGeneric
import Derived.KernelRfl
set_option maxHeartbeats 40000000
/- The program's data as plain data, and their ghosts. -/
namespace Go.Gh
set_option linter.unusedSimpArgs false
set_option linter.unusedVariables false
abbrev T (s : ByteArray) : GV := .val (.string s)
theorem chars_inj {s t : ByteArray} : chars s = chars t ↔ s = t := by
 constructor
 ·intro h; obtain ⟨a⟩ := s; obtain ⟨b⟩ := t; simp only [chars] at h; congr 1; exact Array.ext' h
 ·rintro rfl; rfl
@[ext] structure Nod where
 id : Int
 parent : Int
 place : Int
 lit : Int
 rule : ByteArray
 kids : List Int
deriving DecidableEq
abbrev Nd (x : Nod) : GV := .agg [I x.id, I x.parent, I x.place, I x.lit, T x.rule, IS x.kids]
abbrev NdS (l : List Nod) : GV := .sl 6 (l.map Nd)
abbrev wNd (x : Nod) : Nat := (chars x.rule).length + x.kids.length
@[ext] structure Slo where
 pos : Int
 name : ByteArray
 val : Int
deriving DecidableEq
abbrev Occ (x : Int × ByteArray) : GV := .agg [I x.1, T x.2]
abbrev wOcc (x : Int × ByteArray) : Nat := (chars x.2).length
abbrev Slt (x : Slo) : GV := .agg [I x.pos, T x.name, I x.val]
abbrev SltS (l : List Slo) : GV := .sl 3 (l.map Slt)
abbrev Tr (l : List Nod) : GV := .agg [NdS l]
theorem e_nil (e : Env) : subE e [] = True := (rfl)
theorem e_cons (e : Env) (j : Nat) (g : GV) (r : Env) : subE e ((j, g) :: r) = (eget e j = some g ∧ subE e r) := (rfl)
theorem n_val (v : Value) : nraw (.val v) = true := (rfl)
theorem n_sl (sz : Nat) (es : List GV) : nraw (.sl sz es) = true := (rfl)
theorem n_agg (cs : List GV) : nraw (.agg cs) = true := (rfl)
theorem n_rop (sz : Nat) (g : GV) : nraw (.rop sz g) = true := (rfl)
theorem n_ptr (r sz i o : Nat) : nraw (.ptr r sz i o) = true := (rfl)
theorem n_own (r sz k n : Nat) : nraw (.own r sz k n) = true := (rfl)
theorem n_clo (f : Nat) (cs : List GV) : nraw (.clo f cs) = true := (rfl)
theorem n_tup (cs : List GV) : nraw (.tup cs) = true := (rfl)
theorem E2 : type_of% (And.intro @e_nil (And.intro @e_cons (And.intro @n_val (And.intro @n_sl (And.intro @n_agg (And.intro @n_rop (And.intro @n_ptr (And.intro @n_own (And.intro @n_clo (And.intro @n_tup (And.intro @x_get @Option.some.injEq.{0}))))))))))) :=
 And.intro @e_nil (And.intro @e_cons (And.intro @n_val (And.intro @n_sl (And.intro @n_agg (And.intro @n_rop (And.intro @n_ptr (And.intro @n_own (And.intro @n_clo (And.intro @n_tup (And.intro @x_get @Option.some.injEq.{0}))))))))))
theorem maxLv : maxL = 9223372036854775807 := (rfl)
theorem Z2 : type_of% (And.intro @Int.ofNat_lt (And.intro @Int.natCast_nonneg (And.intro @true_and (And.intro @u_ext (And.intro @exists_prop_of_true (And.intro @Int.natCast_zero (And.intro @chars_inj (And.intro @Int.natCast_inj (And.intro maxLv (And.intro @not_true_eq_false (And.intro @false_implies (And.intro @true_implies (And.intro @and_true (And.intro @implies_true.{0} @wrap64)))))))))))))) :=
 And.intro @Int.ofNat_lt (And.intro @Int.natCast_nonneg (And.intro @true_and (And.intro @u_ext (And.intro @exists_prop_of_true (And.intro @Int.natCast_zero (And.intro @chars_inj (And.intro @Int.natCast_inj (And.intro maxLv (And.intro @not_true_eq_false (And.intro @false_implies (And.intro @true_implies (And.intro @and_true (And.intro @implies_true.{0} @wrap64)))))))))))))
theorem lenOk_map {α : Type} {f : α → GV} {l : List α} (h : LenOkL (l.map f)) : ∀ x ∈ l, LenOk (f x) := fun x hx => h.all _ (List.mem_map.2 ⟨x, hx, rfl⟩)
theorem lenTr {l : List Nod} (h : LenOk (Tr l)) : l.length ≤ 9223372036854775807 ∧ ∀ x ∈ l, x.kids.length ≤ 9223372036854775807 := by
 simp only [LenOk, LenOkL, List.length_map, maxL] at h
 refine ⟨h.1.1, fun x hx => ?_⟩
 have := lenOk_map h.1.2 x hx
 simp only [LenOk, LenOkL, List.length_map, maxL] at this
 exact this.2.2.2.2.2.1.1
end Go.Gh
/- What the program computes, in plain words: trees. -/
namespace Go.Gh
set_option linter.unusedSimpArgs false
set_option linter.unusedVariables false
def kidStep (hs : List Int) (k : Nat) (m : Int) (c : Int) : Int := if (k : Int) < c ∧ c < k + 1 + hs.length then max m (hs.getD (c - k - 1).toNat 0) else m
def kidMax (hs : List Int) (k : Nat) (kids : List Int) : Int := kids.foldl (kidStep hs k) 0
def hts : Nat → List Nod → List Int
 | _, [] => []
 | k, x :: r => (kidMax (hts (k + 1) r) k x.kids + 1) :: hts (k + 1) r
end Go.Gh
namespace Go.Gh
end Go.Gh
namespace Go.Gh
theorem sum_mem {α : Type} (f : α → Nat) : ∀ (l : List α) (x : α), x ∈ l → f x ≤ (l.map f).sum
 | y :: l, x, h => by
  simp only [List.map_cons, List.sum_cons]
  rcases List.mem_cons.1 h with rfl | h
  ·omega
  ·have := sum_mem f l x h; omega
theorem szTr {t : List Nod} {left : Int} (h : ¬ szv left (wtS wNd t) < 0) (hl : left ≤ 1048576 := by omega) : t.length ≤ 1048576 ∧ ∀ x ∈ t, x.kids.length ≤ 1048576 := by
 have h1 := szv_nn h
 simp only [wtS] at h1
 refine ⟨by omega, fun x hx => ?_⟩
 have := sum_mem wNd t x hx
 simp only [wNd] at this h1
 omega
theorem take_eq_step {α : Type} {xs ys : List α} {i : Nat} (hp : xs.take i = ys.take i) (h1 : i < xs.length) (h2 : i < ys.length) (h : xs[i] = ys[i]) : xs.take (i + 1) = ys.take (i + 1) := by
 rw [List.take_add_one, List.take_add_one, hp, List.getElem?_eq_getElem h1, List.getElem?_eq_getElem h2, h]
theorem bEq {p q : Prop} [Decidable p] [Decidable q] (h : p ↔ q) : B (decide p) = B (decide q) := by
 have : decide p = decide q := by by_cases hp : p <;> simp [hp, ← h]
 rw [this]
theorem exP {p : Prop} {q : p → Prop} (h : p) (hq : q h) : ∃ h, q h := ⟨h, hq⟩
end Go.Gh
namespace Go.Gh
def atOcc (o : Int × ByteArray) (s : Slo) : Bool := decide (s.pos = o.1) && decide (s.name = o.2)
def slotValue (xs : List Slo) (o : Int × ByteArray) : Int := ((xs.find? (atOcc o)).map (·.val)).getD 0
theorem find_hit {α : Type} {p : α → Bool} : ∀ {xs : List α} {i : Nat} (h : i < xs.length), p xs[i] = true → (∀ a ∈ xs.take i, p a = false) → xs.find? p = some xs[i]
 | x :: xs, 0, _, hp, _ => by simp at hp; simp [hp]
 | x :: xs, i + 1, h, hp, hn => by
  have h1 : p x = false := hn x (by simp)
  simp only [List.find?_cons, h1]
  simpa using find_hit (p := p) (xs := xs) (i := i) (by simpa using h) (by simpa using hp) (fun a ha => hn a (by simp [ha]))
theorem find_none {α : Type} {p : α → Bool} {xs : List α} (hn : ∀ a ∈ xs, p a = false) : xs.find? p = none := by
 rw [List.find?_eq_none]; intro x hx; simp [hn x hx]
end Go.Gh
/- The laws' own functions on slices, whatever the element: sizes, copies, comparisons. -/
namespace Go.Gh
set_option linter.unusedSimpArgs false
set_option linter.unusedVariables false
set_option maxRecDepth 20000
section
variable {P : Program} {α : Type} {f : α → GV} {k kx sz : Nat} {det ag : Bool}
theorem eqS (mxd : P.follows .mixedOrders = true) (hF : IsFun P k ⟨⟨27, []⟩,
 (.seq (.reg [(.mk (some 4) none (.mov (.k (.val (.bool false)))))]) (.seq (.seq (.reg [(.mk (some 6) none (.mov (.t 0))), (.mk (some 7) none (.len (.t 6))), (.mk (some 8) none (.mov (.t 1))), (.mk (some 9) none (.len
 (.t 8))), (.mk (some 10) none (.bin .neq (.t 7) (.t 9)))]) (.cond 10 (.seq (.reg [(.mk (some 4) none (.mov (.k (.val (.bool false)))))]) .ret) .skip)) (.seq (.seq (.reg [(.mk (some 5) none (.mov (.k (.val (.int .i64
 0)))))]) (.block 0 (.loop (.seq (.seq (.reg [(.mk (some 11) none (.mov (.t 5))), (.mk (some 12) none (.mov (.t 0))), (.mk (some 13) none (.len (.t 12))), (.mk (some 14) none (.bin .lss (.t 11) (.t 13)))]) (.cond 14
 .skip (.exit 0))) (.seq (.block 1 (.seq (.reg [(.mk (some 17) none (.mov (.t 0))), (.mk (some 18) none (.mov (.t 5))), (.mk (some 19) none (.iaddr sz (.t 17) (.t 18))), (.mk (some 21) none (.mov (.t 1))), (.mk (some
 22) none (.mov (.t 5))), (.mk (some 23) none (.iaddr sz (.t 21) (.t 22))), (.mk (some 20) none (.load sz ag (.t 19))), (.mk (some 24) none (.load sz ag (.t 23))), (.mk (some 25) none (.call det kx [(.t 20), (.t
 24)])), (.mk (some 26) none (.not (.t 25)))]) (.cond 26 (.seq (.reg [(.mk (some 4) none (.mov (.k (.val (.bool false)))))]) .ret) .skip))) (.reg [(.mk (some 15) none (.mov (.t 5))), (.mk (some 16) none (.bin .add (.t
 15) (.k (.val (.int .i64 1))))), (.mk (some 5) none (.mov (.t 16)))])))))) (.seq (.reg [(.mk (some 4) none (.mov (.k (.val (.bool true)))))]) .ret)))), [.t 4]⟩)
  [DecidableEq α] (hag : ∀ a, isAgg (f a) = ag) (hr : ∀ a, geR (some (f a)) = some (f a)) (xs ys : List α) (hx : ∀ a ∈ xs, ∀ b ∈ ys, Pure P kx [f a, f b] (· = B (decide (a = b)))) :
  Pure P k [.sl sz (xs.map f), .sl sz (ys.map f)] (· = B (decide (xs = ys))) := by
 refine GCalls.lenA fun hl => ?_
 have hlen := hl.1.1
 simp only [List.length_map, maxL] at hlen
 refine gstart mxd hF rfl (by simp) ?_
 ((try simp only [↓ S2, S2, ↓reduceIte, Nat.reduceEqDiff, reduceCtorEq, Nat.reduceLeDiff, Nat.reduceAdd, Nat.reduceLT, hr, hag]); (try simp only [brGen]; try simp only [↓ S2, S2, ↓reduceIte, Nat.reduceEqDiff, reduceCtorEq, Nat.reduceLeDiff, Nat.reduceAdd, Nat.reduceLT, hr, hag]); (try simp +contextual (disch := omega) only [Z2]); (repeat' (first | (with_reducible intro h) | (with_reducible refine And.intro (by omega) ?_) | (with_reducible refine exP (by omega) ?_) | (with_reducible apply And.intro))))
 rotate_left
 ·simp; rintro rfl; exact h rfl
 refine wloop mxd (ι := { i : Nat // i ≤ xs.length ∧ xs.take i = ys.take i }) (fun i => [(0, .sl sz (xs.map f)), (1, .sl sz (ys.map f)), (5, I i.1)]) (fun _ => []) (fun i => xs.length - i.1) ⟨0, by simp⟩ (by simp [E2]) rfl ?_
 rintro ⟨i, hi, hp⟩
 ((try simp only [↓ S2, S2, ↓reduceIte, Nat.reduceEqDiff, reduceCtorEq, Nat.reduceLeDiff, Nat.reduceAdd, Nat.reduceLT, hr, hag]); (try simp only [brGen]; try simp only [↓ S2, S2, ↓reduceIte, Nat.reduceEqDiff, reduceCtorEq, Nat.reduceLeDiff, Nat.reduceAdd, Nat.reduceLT, hr, hag]); (try simp +contextual (disch := omega) only [Z2]); (repeat' (first | (with_reducible intro h) | (with_reducible refine And.intro (by omega) ?_) | (with_reducible refine exP (by omega) ?_) | (with_reducible apply And.intro))))
 ·refine callS.eq (hx xs[i] (List.getElem_mem _) ys[i] (List.getElem_mem _)) ?_
  ((try simp only [↓ S2, S2, ↓reduceIte, Nat.reduceEqDiff, reduceCtorEq, Nat.reduceLeDiff, Nat.reduceAdd, Nat.reduceLT, hr, hag]); (try simp only [brGen]; try simp only [↓ S2, S2, ↓reduceIte, Nat.reduceEqDiff, reduceCtorEq, Nat.reduceLeDiff, Nat.reduceAdd, Nat.reduceLT, hr, hag]); (try simp +contextual (disch := omega) only [Z2]); (repeat' (first | (with_reducible intro h) | (with_reducible refine And.intro (by omega) ?_) | (with_reducible refine exP (by omega) ?_) | (with_reducible apply And.intro))))
  ·exact nx ⟨i + 1, by omega, take_eq_step hp (by omega) (by omega) h⟩ (by simp; omega) (by simp [E2]) rfl
  ·simp; rintro rfl; simp at h
 ·have : i = xs.length := by omega
  subst this
  rw [List.take_of_length_le (by omega), List.take_of_length_le (by omega)] at hp
  simp [hp]
theorem toSo (mxd : P.follows .mixedOrders = true) {bytes : Nat} {z : GV} (hF : IsFun P k ⟨⟨23, []⟩,
 (.seq (.reg [(.mk (some 2) none (.mov (.k (.val (.slice none 0 0)))))]) (.seq (.reg [(.mk (some 5) none (.mov (.t 0))), (.mk (some 6) none (.len (.t 5))), (.mk (some 7) none (.mkslice sz bytes z (.t 6) (.t 6))), (.mk (some 3) none (.mov (.t 7)))]) (.seq (.seq (.reg [(.mk (some 4) none (.mov (.k (.val (.int .i64 0)))))]) (.block 0 (.loop (.seq (.seq (.reg [(.mk (some 8)
 none (.mov (.t 4))), (.mk (some 9) none (.mov (.t 0))), (.mk (some 10) none (.len (.t 9))), (.mk (some 11) none (.bin .lss (.t 8) (.t 10)))]) (.cond 11 .skip (.exit 0))) (.seq (.block 1 (.reg [(.mk (some 14) none
 (.mov (.t 3))), (.mk (some 15) none (.mov (.t 4))), (.mk (some 16) none (.mov (.t 0))), (.mk (some 17) none (.mov (.t 4))), (.mk (some 18) none (.iaddr sz (.t 16) (.t 17))), (.mk (some 19) none (.load sz ag (.t 18))),
 (.mk (some 20) none (.call det kx [(.t 19)])), (.mk (some 21) none (.iaddr sz (.t 14) (.t 15))), (.mk none none (.store sz (.t 21) (.t 20)))])) (.reg [(.mk (some 12) none (.mov (.t 4))), (.mk (some 13) none (.bin .add
 (.t 12) (.k (.val (.int .i64 1))))), (.mk (some 4) none (.mov (.t 13)))])))))) (.seq (.reg [(.mk (some 22) none (.mov (.t 3))), (.mk (some 2) none (.mov (.t 22)))]) .ret)))), [.t 2]⟩)
  (hag : ∀ a, isAgg (f a) = ag) (hr : ∀ a, geR (some (f a)) = some (f a)) (hsz : ∀ a, gsize (f a) = sz) (hst : ∀ a, storable (f a) = true) (xs : List α) (hlen : xs.length ≤ 1048576) (hb : bytes ≤ 1024)
  (hx : ∀ a ∈ xs, Pure P kx [f a] (· = f a)) (H : GH) :
  GCalls P k [.sl sz (xs.map f)] H (fun g H' => ∃ r, g = .own r sz 0 xs.length ∧ H' = (r, sz, xs.map f) :: H) := by
 have hbb : (bytes : Int) * (xs.length : Int) ≤ 281474976710656 := by
  have h1 : bytes * xs.length ≤ 1073741824 := Nat.le_trans (Nat.mul_le_mul hb hlen) (by decide)
  have h2 : ((bytes * xs.length : Nat) : Int) ≤ 1073741824 := by omega
  rw [Int.natCast_mul] at h2
  omega
 refine gstart mxd hF rfl (by simp) ?_
 simp only [↓ S2, S2, ↓reduceIte, Nat.reduceEqDiff, reduceCtorEq, Nat.reduceLeDiff, Nat.reduceAdd, Nat.reduceLT, hr, hag]
 refine ⟨by omega, by omega, hbb, by omega, fun r hr' => ?_⟩
 refine wloop mxd (ι := { i : Nat // i ≤ xs.length }) (fun i => [(0, .sl sz (xs.map f)), (3, .own r sz 0 xs.length), (4, I i.1)]) (fun i => (r, sz, (xs.take i.1).map f ++ List.replicate (xs.length - i.1) z) :: H) (fun i => xs.length - i.1) ⟨0, by simp⟩ (by simp [E2]) (by simp) ?_
 rintro ⟨i, hi⟩
 ((try simp only [↓ S2, S2, ↓reduceIte, Nat.reduceEqDiff, reduceCtorEq, Nat.reduceLeDiff, Nat.reduceAdd, Nat.reduceLT, hr, hag]); (try simp only [brGen]; try simp only [↓ S2, S2, ↓reduceIte, Nat.reduceEqDiff, reduceCtorEq, Nat.reduceLeDiff, Nat.reduceAdd, Nat.reduceLT, hr, hag]); (try simp +contextual (disch := omega) only [Z2]); (repeat' (first | (with_reducible intro h) | (with_reducible refine And.intro (by omega) ?_) | (with_reducible refine exP (by omega) ?_) | (with_reducible apply And.intro))))
 ·refine callS.eq (hx xs[i] (List.getElem_mem _)) ?_
  ((try simp only [↓ S2, S2, ↓reduceIte, Nat.reduceEqDiff, reduceCtorEq, Nat.reduceLeDiff, Nat.reduceAdd, Nat.reduceLT, hr, hag, hsz, hst, stw]); (try simp only [brGen]; try simp only [↓ S2, S2, ↓reduceIte, Nat.reduceEqDiff, reduceCtorEq, Nat.reduceLeDiff, Nat.reduceAdd, Nat.reduceLT, hr, hag, hsz, hst, stw]); (try simp +contextual (disch := omega) only [Z2]); (repeat' (first | (with_reducible intro h) | (with_reducible refine And.intro (by omega) ?_) | (with_reducible refine exP (by omega) ?_) | (with_reducible apply And.intro))))
  refine ⟨by simp; omega, nx ⟨i + 1, by omega⟩ (by simp; omega) (by simp [E2]) ?_⟩
  rw [fill_set xs f z i h]
 ·have : i = xs.length := by omega
  subst this
  exact ⟨r, rfl, by simp⟩
theorem szS (mxd : P.follows .mixedOrders = true) (wt : α → Nat) (hF : IsFun P k ⟨⟨27, []⟩,
 (.seq (.reg [(.mk (some 4) none (.mov (.k (.val (.int .i64 0)))))]) (.seq (.reg [(.mk (some 6) none (.mov (.t 1))), (.mk (some 7) none (.mov (.t 0))), (.mk (some 8) none (.len (.t 7))), (.mk (some 9) none (.bin .sub
 (.t 6) (.t 8))), (.mk (some 1) none (.mov (.t 9)))]) (.seq (.seq (.reg [(.mk (some 10) none (.mov (.t 1))), (.mk (some 11) none (.bin .lss (.t 10) (.k (.val (.int .i64 0)))))]) (.cond 11 (.seq (.reg [(.mk (some 4)
 none (.mov (.k (.val (.int .i64 (-1))))))]) .ret) .skip)) (.seq (.seq (.reg [(.mk (some 5) none (.mov (.k (.val (.int .i64 0)))))]) (.block 0 (.loop (.seq (.seq (.reg [(.mk (some 12) none (.mov (.t 5))), (.mk (some
 13) none (.mov (.t 0))), (.mk (some 14) none (.len (.t 13))), (.mk (some 15) none (.bin .lss (.t 12) (.t 14)))]) (.cond 15 .skip (.exit 0))) (.seq (.block 1 (.seq (.reg [(.mk (some 18) none (.mov (.t 0))), (.mk (some
 19) none (.mov (.t 5))), (.mk (some 20) none (.iaddr sz (.t 18) (.t 19))), (.mk (some 21) none (.load sz ag (.t 20))), (.mk (some 22) none (.mov (.t 1))), (.mk (some 23) none (.call det kx [(.t 21), (.t 22)])), (.mk
 (some 1) none (.mov (.t 23)))]) (.seq (.reg [(.mk (some 24) none (.mov (.t 1))), (.mk (some 25) none (.bin .lss (.t 24) (.k (.val (.int .i64 0)))))]) (.cond 25 (.seq (.reg [(.mk (some 4) none (.mov (.k (.val (.int
 .i64 (-1))))))]) .ret) .skip)))) (.reg [(.mk (some 16) none (.mov (.t 5))), (.mk (some 17) none (.bin .add (.t 16) (.k (.val (.int .i64 1))))), (.mk (some 5) none (.mov (.t 17)))])))))) (.seq (.reg [(.mk (some 26)
 none (.mov (.t 1))), (.mk (some 4) none (.mov (.t 26)))]) .ret))))), [.t 4]⟩)
  (hag : ∀ a, isAgg (f a) = ag) (hr : ∀ a, geR (some (f a)) = some (f a)) (xs : List α) (left : Int) (h0 : 0 ≤ left) (h1 : left ≤ 1048576)
  (hx : ∀ a ∈ xs, ∀ l : Int, 0 ≤ l → l ≤ 1048576 → Pure P kx [f a, I l] (· = I (szv l (wt a)))) :
  Pure P k [.sl sz (xs.map f), I left] (· = I (szv left (wtS wt xs))) := by
 refine GCalls.lenA fun hl => ?_
 have hlen := hl.1.1
 simp only [List.length_map, maxL] at hlen
 refine gstart mxd hF rfl (by simp) ?_
 ((try simp only [↓ S2, S2, ↓reduceIte, Nat.reduceEqDiff, reduceCtorEq, Nat.reduceLeDiff, Nat.reduceAdd, Nat.reduceLT, hr, hag]); (try simp only [brGen]; try simp only [↓ S2, S2, ↓reduceIte, Nat.reduceEqDiff, reduceCtorEq, Nat.reduceLeDiff, Nat.reduceAdd, Nat.reduceLT, hr, hag]); (try simp +contextual (disch := omega) only [Z2]); (repeat' (first | (with_reducible intro h) | (with_reducible refine And.intro (by omega) ?_) | (with_reducible refine exP (by omega) ?_) | (with_reducible apply And.intro))))
 ·congr 2; simp only [szv, wtS]; omega
 refine wloop mxd (ι := { i : Nat // i ≤ xs.length ∧ ((xs.length + psum wt xs i : Nat) : Int) ≤ left }) (fun i => [(0, .sl sz (xs.map f)), (1, I (left - ((xs.length + psum wt xs i.1 : Nat) : Int))), (5, I i.1)])
  (fun _ => []) (fun i => xs.length - i.1) ⟨0, by simp [psum_zero]; omega⟩ (by simp [E2, psum_zero]) rfl ?_
 rintro ⟨i, hi, hp⟩
 ((try simp only [↓ S2, S2, ↓reduceIte, Nat.reduceEqDiff, reduceCtorEq, Nat.reduceLeDiff, Nat.reduceAdd, Nat.reduceLT, hr, hag]); (try simp only [brGen]; try simp only [↓ S2, S2, ↓reduceIte, Nat.reduceEqDiff, reduceCtorEq, Nat.reduceLeDiff, Nat.reduceAdd, Nat.reduceLT, hr, hag]); (try simp +contextual (disch := omega) only [Z2]); (repeat' (first | (with_reducible intro h) | (with_reducible refine And.intro (by omega) ?_) | (with_reducible refine exP (by omega) ?_) | (with_reducible apply And.intro))))
 ·have e1 := psum_succ wt xs i h
  have e2 := psum_le wt xs (i + 1)
  refine callS.eq (hx xs[i] (List.getElem_mem _) _ (by omega) (by omega)) ?_
  ((try simp only [↓ S2, S2, ↓reduceIte, Nat.reduceEqDiff, reduceCtorEq, Nat.reduceLeDiff, Nat.reduceAdd, Nat.reduceLT, hr, hag]); (try simp only [brGen]; try simp only [↓ S2, S2, ↓reduceIte, Nat.reduceEqDiff, reduceCtorEq, Nat.reduceLeDiff, Nat.reduceAdd, Nat.reduceLT, hr, hag]); (try simp +contextual (disch := omega) only [Z2]); (repeat' (first | (with_reducible intro h) | (with_reducible refine And.intro (by omega) ?_) | (with_reducible refine exP (by omega) ?_) | (with_reducible apply And.intro))))
  ·congr 2; simp only [szv, wtS] at *; omega
  ·have e3 := szv_nn h
   refine nx ⟨i + 1, by omega, by omega⟩ (by simp; omega) ?_ rfl
   rw [szv_pos e3]
   simp [E2]
   omega
 ·have : i = xs.length := by omega
  subst this
  rw [psum_all]
  congr 2; simp only [szv, wtS]; rw [psum_all] at hp; omega
end
end Go.Gh
/- Arguments of the statements, by their types. -/
namespace Go.Gh
theorem t_int {g : GV} (h : ET false [.int .i64] g) : ∃ n : Int, g = I n := by
 obtain ⟨gs, k1, k2⟩ := h
 simp only [CTs, CT] at k1
 obtain ⟨g, gs', rfl, ⟨n, rfl, _⟩, rfl⟩ := k1
 simp at k2
 exact ⟨n, k2.symm⟩
theorem c_ints {g : GV} (h : CT (.sl false [.int .i64]) g) : ∃ xs : List Int, g = IS xs := by
 simp only [CT] at h
 obtain ⟨es, rfl, _, he⟩ := h
 obtain ⟨l, rfl, _⟩ := list_of (f := I) (ok := fun _ => True) fun e hm => by
  obtain ⟨n, hn⟩ := t_int (he e hm)
  exact ⟨n, hn, trivial⟩
 exact ⟨l, rfl⟩
theorem t_one {t : Ty} {g : GV} (h : ET false [t] g) : CT t g := by
 obtain ⟨gs, k1, k2⟩ := h
 simp only [CTs] at k1
 obtain ⟨g, gs', rfl, hg, rfl⟩ := k1
 simp at k2
 rw [← k2]; exact hg
theorem t_agg1 {t : Ty} {g : GV} (h : ET true [t] g) : ∃ x, g = .agg [x] ∧ CT t x := by
 obtain ⟨gs, k1, k2⟩ := h
 simp only [CTs] at k1
 obtain ⟨g, gs', rfl, hg, rfl⟩ := k1
 exact ⟨g, by simpa using k2, hg⟩
theorem c_sl {ag : Bool} {ts : List Ty} {α : Type} {f : α → GV} {ok : α → Prop} {g : GV} (h : CT (.sl ag ts) g) (he : ∀ e, ET ag ts e → ∃ a, e = f a ∧ ok a) : ∃ l : List α, g = .sl ts.length (l.map f) ∧ ∀ a ∈ l, ok a := by
 simp only [CT] at h
 obtain ⟨es, rfl, _, hs⟩ := h
 obtain ⟨l, rfl, hl⟩ := list_of (f := f) (ok := ok) fun e hm => he e (hs e hm)
 exact ⟨l, rfl, hl⟩
theorem t_Nod {g : GV} (h : ET true [.int .i64, .int .i64, .int .i64, .int .i64, .str, .sl false [.int .i64]] g) : ∃ x : Nod, g = Nd x ∧ x.rule.size ≤ maxLen := by
 obtain ⟨gs, k1, k2⟩ := h
 rw [CTs] at k1
 obtain ⟨g1, _, rfl, h1, k1⟩ := k1
 rw [CTs] at k1
 obtain ⟨g2, _, rfl, h2, k1⟩ := k1
 rw [CTs] at k1
 obtain ⟨g3, _, rfl, h3, k1⟩ := k1
 rw [CTs] at k1
 obtain ⟨g4, _, rfl, h4, k1⟩ := k1
 rw [CTs] at k1
 obtain ⟨g5, _, rfl, h5, k1⟩ := k1
 rw [CTs] at k1
 obtain ⟨g6, _, rfl, h6, k1⟩ := k1
 simp only [CTs] at k1
 subst k1
 obtain ⟨xs, rfl⟩ := c_ints h6
 simp only [CT] at h1 h2 h3 h4 h5
 obtain ⟨n1, rfl, _⟩ := h1
 obtain ⟨n2, rfl, _⟩ := h2
 obtain ⟨n3, rfl, _⟩ := h3
 obtain ⟨n4, rfl, _⟩ := h4
 obtain ⟨s, rfl, hs⟩ := h5
 exact ⟨⟨n1, n2, n3, n4, s, xs⟩, by simpa using k2, hs⟩
theorem t_Tr {g : GV} (h : ET true [.sl true [.int .i64, .int .i64, .int .i64, .int .i64, .str, .sl false [.int .i64]]] g) : ∃ t : List Nod, g = Tr t ∧ ∀ x ∈ t, x.rule.size ≤ maxLen := by
 obtain ⟨x, rfl, hx⟩ := t_agg1 h
 obtain ⟨l, rfl, hl⟩ := c_sl hx fun e he => t_Nod he
 exact ⟨l, rfl, hl⟩
end Go.Gh
/- What the laws' marks are. -/
namespace Go.Gh
set_option linter.unusedSimpArgs false
set_option linter.unusedVariables false
theorem vIte (P : Program) (c : Prop) [Decidable c] (g : GV) (d : Option Nat) (is : List GI) (K : Env → GH → Prop) (env : Env) (H : GH) : valS P (if c then some g else none) d is K env H = (c ∧ gsteps P is K (gput env d g) H) := by
 by_cases h : c <;> simp [h, valS]
theorem nxF {ι : Type} {E : ι → Env} {G : ι → GH} {μ : ι → Nat} {i : ι} {e e' : Env} {H H' : GH} (j : ι) (hm : μ j < μ i) (hf : FE e H e' H') (h : subE e' (E j)) (hh : H' = G j) : Nx E G μ i e H := by
 subst hh
 exact ⟨j, FE.trans hf (FE.of h), hm⟩
theorem wloopN {P : Program} {cf : Cfg} (mxd : P.follows .mixedOrders = true) {ι : Type} {x : GC} {Q : Exit → Env → GH → Prop} {env : Env} {H : GH} (E : ι → Env) (G : ι → GH) (μ : ι → Nat) (i0 : ι) (h0 : subE env (E i0)) (hh : H = G i0)
  (round : ∀ i, (names (G i)).Nodup → gwp P cf x (thenG (Nx E G μ i) Q) (E i) (G i)) : GW P cf (.loop x) Q env H := by
 subst hh
 exact GW.loop E G μ i0 (FE.of h0) fun i => GW.names fun hn => gwp_ok mxd (round i hn)
theorem wloopF {P : Program} {cf : Cfg} (mxd : P.follows .mixedOrders = true) {ι : Type} {x : GC} {Q : Exit → Env → GH → Prop} {env env' : Env} {H H' : GH} (E : ι → Env) (G : ι → GH) (μ : ι → Nat) (i0 : ι) (hf : FE env H env' H') (h0 : subE env' (E i0)) (hh : H' = G i0)
  (round : ∀ i, (names (G i)).Nodup → GW P cf x (thenG (Nx E G μ i) Q) (E i) (G i)) : GW P cf (.loop x) Q env H := by
 subst hh
 exact GW.loop E G μ i0 (FE.trans hf (FE.of h0)) fun i => GW.names fun hn => round i hn
def dgt (k : Int) : UInt8 := UInt8.ofNat (IntKind.u8.wrap (IntKind.i64.wrap (48 + k.tmod 10))).toNat
def dig : Nat → Int → List UInt8 → List UInt8
 | 0, _, acc => acc
 | f + 1, k, acc => if 0 < k then dig f (k.tdiv 10) (dgt k :: acc) else acc
theorem dig_end : ∀ (f : Nat) {k : Int} (acc : List UInt8), ¬ 0 < k → dig f k acc = acc
 | 0, _, _, _ => rfl
 | f + 1, k, acc, h => by simp [dig, h]
def mtext (k : Int) : ByteArray := if k ≤ 0 then ⟨#[109, 48]⟩ else ⟨(109 :: dig k.toNat k []).toArray⟩
def upFrom : Int → Nat → List Int
 | _, 0 => []
 | k, n + 1 => k :: upFrom (k + 1) n
theorem upFrom_len : ∀ (n : Nat) (k : Int), (upFrom k n).length = n
 | 0, _ => rfl
 | n + 1, k => by simp [upFrom, upFrom_len n]
theorem upFrom_snoc : ∀ (n : Nat) (k : Int), upFrom k (n + 1) = upFrom k n ++ [k + n]
 | 0, k => by simp [upFrom]
 | n + 1, k => by rw [upFrom, upFrom_snoc n (k + 1)]; simp [upFrom]; omega
theorem upFrom_get : ∀ (n : Nat) (k : Int) (i : Nat) (h : i < (upFrom k n).length), (upFrom k n)[i] = k + i
 | 0, k, i, h => by simp [upFrom] at h
 | n + 1, k, 0, _ => by simp [upFrom]
 | n + 1, k, i + 1, h => by simp [upFrom, upFrom_get n (k + 1) i (by simpa [upFrom] using h)]; omega
abbrev NdO (x : Nod) : GV := .agg [I x.id, I x.parent, I x.place, I x.lit, T x.rule, .osl 1 (x.kids.map I)]
theorem view_NdO (t : List Nod) : (t.map NdO).map view = t.map Nd := by
 induction t with
 | nil => rfl
 | cons x t ih =>
  simp only [List.map_cons, ih, List.cons.injEq, and_true]
  simp [view, viewL, viewL_eq]
theorem viewL_NdO (t : List Nod) : viewL (t.map NdO) = t.map Nd := by rw [viewL_eq, view_NdO]
theorem bor_NdO {H : GH} {r n : Nat} {t : List Nod} (hr : hget H r = some (6, t.map NdO)) (hn : t.length = n) : Bor H (.own r 6 0 n) (NdS t) := by
 have := Bor.own (H := H) (k := 0) (n := n) hr (by simp [hn])
 rw [List.drop_zero, List.take_of_length_le (by simp [hn]), viewL_NdO] at this
 exact this
theorem bor_Tr {H : GH} {r n : Nat} {t : List Nod} (hr : hget H r = some (6, t.map NdO)) (hn : t.length = n) : Bor H (.agg [.own r 6 0 n]) (Tr t) := .agg (.cons (bor_NdO hr hn) .nil)
theorem bor_IS {H : GH} {r n : Nat} {l : List Int} (hr : hget H r = some (1, l.map I)) (hn : l.length = n) : Bor H (.own r 1 0 n) (IS l) := .all hr (by simp [hn]) (by simp [view])
def mkNod (k : Int) (x : Nod) : Nod := ⟨k, k + 1, k + 1 + 1, k + 1 + 1 + 1, mtext (k + 1 + 1 + 1 + 1), upFrom (k + 1 + 1 + 1 + 1 + 1) x.kids.length⟩
def mkNods : Int → List Nod → List Nod
 | _, [] => []
 | k, x :: t => mkNod k x :: mkNods (k + 5 + x.kids.length) t
def mkEnd : Int → List Nod → Int
 | k, [] => k
 | k, x :: t => mkEnd (k + 5 + x.kids.length) t
theorem FE.close2 {env : Env} {H : GH} {r r1 sz sz1 i j n : Nat} {L gs ks : List GV} (hne : r1 ≠ r) (hi : i < L.length) (hg : gs[j]? = some (.own r1 sz1 0 n)) (hn : ks.length = n) :
  FE env ((r1, sz1, ks) :: (r, sz, L.set i (.agg gs)) :: H) env ((r, sz, L.set i (.agg (gs.set j (.osl sz1 ks)))) :: H) := by
 have := FE.close (env := env) (H := (r1, sz1, ks) :: (r, sz, L.set i (.agg gs)) :: H) (r := r) (r1 := r1) (Ne.symm hne) (by rw [hget_old hne, hget_new]) (List.getElem?_set_self hi) hg hget_new hn
 rwa [hset_old hne, hset_new, hdel_new, List.set_set] at this
theorem FE.close3 {env : Env} {H : GH} {r r1 sz sz1 i j n : Nat} {L gs ks es0 : List GV} (hr : hget H r = some (sz, es0)) (hne : r1 ≠ r) (hi : i < L.length) (hg : gs[j]? = some (.own r1 sz1 0 n)) (hn : ks.length = n) :
  FE env ((r1, sz1, ks) :: hset H r (L.set i (.agg gs))) env (hset H r (L.set i (.agg (gs.set j (.osl sz1 ks))))) := by
 have := FE.close (env := env) (H := (r1, sz1, ks) :: hset H r (L.set i (.agg gs))) (r := r) (r1 := r1) (Ne.symm hne) (by rw [hget_old hne, hget_set hr]) (List.getElem?_set_self hi) hg hget_new hn
 rwa [hset_old hne, hset_set, hdel_new, List.set_set] at this
theorem mkNods_len : ∀ (k : Int) (t : List Nod), (mkNods k t).length = t.length
 | _, [] => rfl
 | k, x :: t => by simp [mkNods, mkNods_len _ t]
theorem mkNods_snoc : ∀ (k : Int) (t : List Nod) (x : Nod), mkNods k (t ++ [x]) = mkNods k t ++ [mkNod (mkEnd k t) x]
 | _, [], _ => rfl
 | k, y :: t, x => by simp [mkNods, mkEnd, mkNods_snoc _ t x]
theorem mkEnd_snoc : ∀ (k : Int) (t : List Nod) (x : Nod), mkEnd k (t ++ [x]) = mkEnd k t + 5 + x.kids.length
 | _, [], _ => rfl
 | k, y :: t, x => by simp [mkEnd, mkEnd_snoc _ t x]
theorem mkEnd_app : ∀ (k : Int) (t u : List Nod), mkEnd k (t ++ u) = mkEnd (mkEnd k t) u
 | _, [], _ => rfl
 | k, y :: t, u => by simp [mkEnd, mkEnd_app _ t u]
theorem mkEnd_le : ∀ (k : Int) (t : List Nod), k ≤ mkEnd k t
 | _, [] => Int.le_refl _
 | k, x :: t => by have := mkEnd_le (k + 5 + x.kids.length) t; simp only [mkEnd]; omega
theorem mkEnd_step {k : Int} {t : List Nod} {i : Nat} (h : i < t.length) : mkEnd k (t.take (i + 1)) = mkEnd k (t.take i) + 5 + t[i].kids.length := by
 rw [List.take_add_one, List.getElem?_eq_getElem h]; exact mkEnd_snoc _ _ _
theorem mkNods_step {k : Int} {t : List Nod} {i : Nat} (h : i < t.length) : mkNods k (t.take (i + 1)) = mkNods k (t.take i) ++ [mkNod (mkEnd k (t.take i)) t[i]] := by
 rw [List.take_add_one, List.getElem?_eq_getElem h]; exact mkNods_snoc _ _ _
theorem mkEnd_take {k : Int} {t : List Nod} (i : Nat) : mkEnd k (t.take i) ≤ mkEnd k t := by
 have := mkEnd_app k (t.take i) (t.drop i)
 rw [List.take_append_drop] at this
 rw [this]; exact mkEnd_le _ _
theorem mid_get {k : Int} {t : List Nod} {i : Nat} (h : i < t.length) (h' : i < (mkNods k (t.take i) ++ t.drop i).length) : (mkNods k (t.take i) ++ t.drop i)[i] = t[i] := by
 rw [List.getElem_append_right (by simp [mkNods_len]; omega)]
 have e : i + (i - (mkNods k (t.take i)).length) = i := by simp [mkNods_len]; omega
 simp only [List.getElem_drop, e]
theorem mid_set {k : Int} {t : List Nod} {i : Nat} (h : i < t.length) : (mkNods k (t.take i) ++ t.drop i).set i (mkNod (mkEnd k (t.take i)) t[i]) = mkNods k (t.take (i + 1)) ++ t.drop (i + 1) := by
 rw [List.set_append_right _ _ (by simp [mkNods_len]; omega), mkNods_step h]
 have e : i - (mkNods k (t.take i)).length = 0 := by simp [mkNods_len]; omega
 rw [e, List.drop_eq_getElem_cons h, List.set_cons_zero, List.append_assoc]
 rfl
theorem mkEnd_len : ∀ (k : Int) (t : List Nod), k + 5 * t.length ≤ mkEnd k t
 | _, [] => by simp [mkEnd]
 | k, x :: t => by have := mkEnd_len (k + 5 + x.kids.length) t; simp only [mkEnd, List.length_cons]; omega
def idsAt (t : List Nod) (ks : List Int) : List Int := ks.filterMap fun (k : Int) => if 0 ≤ k ∧ k < (t.length : Int) then (t[k.toNat]?).map (·.id) else none
def nodeIds (t : List Nod) (i : Int) : List Int := if 0 ≤ i ∧ i < t.length then idsAt t (i :: ((t[i.toNat]?).map (·.kids)).getD []) else []
theorem idsAt_snoc_in {t : List Nod} {l : List Int} {k : Int} (h0 : 0 ≤ k) (h : k.toNat < t.length) : idsAt t (l ++ [k]) = idsAt t l ++ [t[k.toNat].id] := by
 simp only [idsAt, List.filterMap_append, List.filterMap_cons, List.filterMap_nil]
 rw [if_pos (by omega), List.getElem?_eq_getElem h]
 rfl
theorem idsAt_snoc_out {t : List Nod} {l : List Int} {k : Int} (h : ¬ (0 ≤ k ∧ k < (t.length : Int))) : idsAt t (l ++ [k]) = idsAt t l := by
 simp only [idsAt, List.filterMap_append, List.filterMap_cons, List.filterMap_nil]
 rw [if_neg h]
 simp
theorem idsAt_len (t : List Nod) (l : List Int) : (idsAt t l).length ≤ l.length := List.length_filterMap_le _ _
theorem nodeIds_in {t : List Nod} {i : Nat} (h : i < t.length) : nodeIds t i = idsAt t ((i : Int) :: t[i].kids) := by
 simp only [nodeIds]
 rw [if_pos (by omega), Int.toNat_natCast, List.getElem?_eq_getElem h]
 rfl
theorem take_cons_step {l : List Int} {x : Int} {j : Nat} (h : j < l.length) : x :: l.take (j + 1) = (x :: l.take j) ++ [l[j]] := by
 rw [List.take_add_one, List.getElem?_eq_getElem h]; rfl
theorem take_step' {l : List Int} {j : Nat} (h : j < l.length) : l.take (j + 1) = l.take j ++ [l[j]] := by
 rw [List.take_add_one, List.getElem?_eq_getElem h]; rfl
theorem FE.swap {env : Env} {H : GH} {x y : Nat × Nat × List GV} : FE env (x :: y :: H) env (y :: x :: H) := by
 intro w0 D0 O0 N a w ⟨hdf, hsz, D, Ω, ρw, hi⟩
 obtain ⟨r1, sz1, es1⟩ := x
 obtain ⟨r2, sz2, es2⟩ := y
 obtain ⟨F1, G1, e1, h1, F2, F3, e2, h2, h3⟩ := hi.st.hm
 have hp : ∀ x, (F2 ++ (F1 ++ F3)).count x = Ω.count x := by
  intro x; rw [e1, e2]; simp only [List.count_append]; omega
 have hmem : ∀ x ∈ F2 ++ (F1 ++ F3), x ∈ Ω := fun x hx => by
  have := List.count_pos_iff.2 hx
  exact List.count_pos_iff.1 (by rw [← hp]; exact this)
 refine ⟨hdf, hsz, D, F2 ++ (F1 ++ F3), ρw, hi.st' ⟨⟨F2, _, rfl, h2, F1, F3, rfl, h1, h3⟩, ?_, ?_, fun x hx => hi.st.dj x (hmem x hx), hi.st.ds⟩ hmem⟩
 ·rw [List.nodup_iff_count]
  intro x
  rw [hp]
  exact List.nodup_iff_count.1 hi.st.nd x
 ·have := hi.st.nn
  simp only [names, List.map_cons, List.nodup_cons, List.mem_cons, not_or] at this ⊢
  exact ⟨⟨fun e => this.1.1 e.symm, this.2.1⟩, this.1.2, this.2.2⟩
theorem mkEnd_eq : ∀ (k : Int) (t : List Nod), mkEnd k t = k + 5 * t.length + ((t.map (·.kids.length)).sum : Nat)
 | k, [] => by simp [mkEnd]
 | k, x :: t => by
  have := mkEnd_eq (k + 5 + x.kids.length) t
  simp only [mkEnd, List.length_cons, List.map_cons, List.sum_cons]
  omega
theorem sum_le {α : Type} {f g : α → Nat} (h : ∀ a, f a ≤ g a) : ∀ l : List α, (l.map f).sum ≤ (l.map g).sum
 | [] => Nat.le_refl _
 | a :: l => by have := h a; have := sum_le h l; simp only [List.map_cons, List.sum_cons]; omega
theorem mkEnd_small {t : List Nod} {left : Int} (h : ¬ szv left (wtS wNd t) < 0) (hl : left ≤ 1048576 := by omega) : mkEnd 1 t ≤ 6291457 := by
 have h1 := szv_nn h
 have h2 := sum_le (f := fun x : Nod => x.kids.length) (g := wNd) (fun a => by simp only [wNd]; omega) t
 rw [mkEnd_eq]
 simp only [wtS] at h1
 omega
theorem callS.borA {P : Program} {K : Env → GH → Prop} {is : List GI} {env : Env} {H : GH} {d : Option Nat} {det : Bool} {f : FuncId} {gs gs' : List GV} {G : GV} (h : Pure P f gs' (· = G)) (hb : BorL H gs gs') (hs : scal G = true) (hk : gsteps P is K (gput env d G) H) : callS P det f (some gs) d is K env H := by
 cases det
 ·exact callS.bor h hb hs hk
 ·exact ⟨G, h.borrow hb (fun _ e => by rw [e]; exact hs), hk⟩
end Go.Gh
/- Expressions as plain data, and their ghosts. -/
namespace Go.Gh
set_option linter.unusedSimpArgs false
set_option linter.unusedVariables false
inductive Exp where
 | mk (kind n pos type : Int) (sym name : ByteArray) (args : List Exp)
def Exp.kind : Exp → Int | .mk k _ _ _ _ _ _ => k
def Exp.n : Exp → Int | .mk _ n _ _ _ _ _ => n
def Exp.pos : Exp → Int | .mk _ _ p _ _ _ _ => p
def Exp.type : Exp → Int | .mk _ _ _ t _ _ _ => t
def Exp.sym : Exp → ByteArray | .mk _ _ _ _ s _ _ => s
def Exp.name : Exp → ByteArray | .mk _ _ _ _ _ m _ => m
def Exp.args : Exp → List Exp | .mk _ _ _ _ _ _ a => a
mutual
def Ex : Exp → GV
 | .mk k n p t s m a => .agg [I k, I n, I p, I t, T s, T m, .sl 7 (ExL a)]
def ExL : List Exp → List GV
 | [] => []
 | e :: l => Ex e :: ExL l
end
theorem ExL_eq (l : List Exp) : ExL l = l.map Ex := by
 induction l with
 | nil => rfl
 | cons e l ih => simp [ExL, ih]
abbrev ExS (l : List Exp) : GV := .sl 7 (l.map Ex)
theorem Ex_eq (e : Exp) : Ex e = .agg [I e.kind, I e.n, I e.pos, I e.type, T e.sym, T e.name, ExS e.args] := by
 cases e; simp only [Ex, ExL_eq]; rfl
theorem Exp.ext_iff {x y : Exp} : x = y ↔ x.kind = y.kind ∧ x.n = y.n ∧ x.pos = y.pos ∧ x.type = y.type ∧ x.sym = y.sym ∧ x.name = y.name ∧ x.args = y.args := by
 cases x; cases y
 simp [Exp.kind, Exp.n, Exp.pos, Exp.type, Exp.sym, Exp.name, Exp.args]
mutual
theorem Exp.indA {p : Exp → Prop} (h : ∀ e, (∀ a ∈ e.args, p a) → p e) : ∀ e, p e
 | .mk k n q t s m a => h _ (Exp.indL h a)
theorem Exp.indL {p : Exp → Prop} (h : ∀ e, (∀ a ∈ e.args, p a) → p e) : ∀ (l : List Exp), ∀ a ∈ l, p a
 | [], a, hm => by cases hm
 | e :: l, a, hm => by
  have he : p e := Exp.indA h e
  have hl := Exp.indL h l
  rcases List.mem_cons.1 hm with rfl | hm
  ·exact he
  ·exact hl a hm
end
mutual
def wEx : Exp → Nat
 | .mk _ _ _ _ s m a => (chars s).length + (chars m).length + (a.length + wExL a)
def wExL : List Exp → Nat
 | [] => 0
 | e :: l => wEx e + wExL l
end
theorem wExL_eq (l : List Exp) : wExL l = (l.map wEx).sum := by
 induction l with
 | nil => rfl
 | cons e l ih => simp [wExL, ih]
theorem wEx_eq (e : Exp) : wEx e = (chars e.sym).length + (chars e.name).length + wtS wEx e.args := by
 cases e; simp only [wEx, wExL_eq, wtS]; rfl
mutual
def okE : Exp → Prop
 | .mk _ _ _ _ s m a => s.size ≤ maxLen ∧ m.size ≤ maxLen ∧ okEL a
def okEL : List Exp → Prop
 | [] => True
 | e :: l => okE e ∧ okEL l
end
theorem okEL_eq {l : List Exp} : okEL l ↔ ∀ a ∈ l, okE a := by
 induction l with
 | nil => simp [okEL]
 | cons e l ih => simp [okEL, ih]
theorem okE_eq {e : Exp} : okE e ↔ e.sym.size ≤ maxLen ∧ e.name.size ≤ maxLen ∧ ∀ a ∈ e.args, okE a := by
 cases e; simp only [okE, okEL_eq]; rfl
mutual
instance decExp : (x y : Exp) → Decidable (x = y)
 | .mk k n p t s m a, .mk k' n' p' t' s' m' a' =>
  match decExpL a a' with
  | isTrue h => decidable_of_iff (k = k' ∧ n = n' ∧ p = p' ∧ t = t' ∧ s = s' ∧ m = m') (by simp [h])
  | isFalse h => isFalse (by simp [h])
instance decExpL : (x y : List Exp) → Decidable (x = y)
 | [], [] => isTrue rfl
 | [], _ :: _ => isFalse (by simp)
 | _ :: _, [] => isFalse (by simp)
 | e :: l, e' :: l' => match decExp e e', decExpL l l' with
  | isTrue h, isTrue h' => isTrue (by rw [h, h'])
  | isFalse h, _ => isFalse (by simp [h])
  | _, isFalse h => isFalse (by simp [h])
end
theorem args_small {e : Exp} (h : wEx e ≤ 1048576) : e.args.length ≤ 1048576 ∧ ∀ a ∈ e.args, wEx a ≤ 1048576 := by
 rw [wEx_eq] at h
 simp only [wtS] at h
 refine ⟨by omega, fun a ha => ?_⟩
 have := sum_mem wEx e.args a ha
 omega
theorem isAgg_Ex (e : Exp) : isAgg (Ex e) = true := by rw [Ex_eq]; rfl
theorem geR_Ex (e : Exp) : geR (some (Ex e)) = some (Ex e) := by rw [Ex_eq]; rfl
theorem gsize_Ex (e : Exp) : gsize (Ex e) = 7 := by rw [Ex_eq]; rfl
theorem stor_Ex (e : Exp) : storable (Ex e) = true := by rw [Ex_eq]; rfl
theorem view_Ex (e : Exp) : view (Ex e) = Ex e := by rw [Ex_eq]; rfl
end Go.Gh
/- Arguments of recursive types, seen as ghosts. -/
namespace Go.Gh
open Go.RowKit Go.ChangeShapes Go.WideShapes Go.Deep
theorem open_sliceF {H : Type} {enc : TypeId × Value → H} {P : Program} {w : World} {base : Nat} {spare : Nat → Bool} {held : Bool} {t e : TypeId} {fuel : Nat} {cs : List Value} {x : DataW H × List MemPlace}
  (ht : P.underlying t = some (.slice e)) (h : DataW.trod enc P w base spare held fuel t cs = some x) :
  cs = [.slice none 0 0] ∨ ∃ (a : Addr) (len cap n : Nat), fuel = n + 1 ∧ cs = [.slice (some a) len cap] ∧ len ≤ cap ∧ cap ≤ maxLen ∧
   ∀ i, i < len → ∃ cs' y, w.cells? base (a.add (i * P.cellsOf e)) (P.cellsOf e) = some cs' ∧ DataW.trod enc P w base spare held n e cs' = some y := by
 rcases DataW.trod_slice ht h with h0 | ⟨a, len, cap, elems, rest, n, hn, rfl, rfl, hb, hl, hm, hlen, hel, hsp, hns⟩
 ·exact .inl h0.1
 refine .inr ⟨a, len, cap, n, hn, rfl, hl, hm, fun i hi => ?_⟩
 have key := hel i hi
 rw [List.getElem?_eq_getElem (by omega)] at key
 obtain ⟨cs', h1, h2⟩ := Option.bind_eq_some_iff.1 key
 exact ⟨cs', _, h1, h2⟩
theorem Lf.mono1 {W : World} {t u : Ty} {cs : List Value} (h : Lf W [t] cs) (hq : ∀ g, CT t g → CT u g) : Lf W [u] cs := by
 obtain ⟨gs, h1, h2, h3⟩ := h
 simp only [CTs] at h2
 obtain ⟨g, gs', rfl, h2, rfl⟩ := h2
 exact ⟨[g], h1, by simp only [CTs]; exact ⟨g, [], rfl, hq g h2, rfl⟩, h3⟩
theorem slice_lf {P : Program} {W : World} {ag : Bool} {ts : List Ty} {e : TypeId} {a : Addr} {len cap : Nat} (hone : ag = false → ts.length = 1) (hsz : ts.length = P.cellsOf e) (hpos : 0 < ts.length)
  (hl : len ≤ cap) (hcap : cap ≤ maxLen) (hel : ∀ i, i < len → ∃ cs', W.cells? 0 (a.add (i * P.cellsOf e)) (P.cellsOf e) = some cs' ∧ Lf W ts cs') : Lf W [.sl ag ts] [.slice (some a) len cap] := by
 obtain ⟨es, cells, h1, h2, h3, h4⟩ := elems_ok (W := W) (a := a) (sz := P.cellsOf e) (Q := ET ag ts) len fun i hi => by
  obtain ⟨cs', k1, gs, m1, m2, m3⟩ := hel i hi
  refine ⟨cs', k1, ?_⟩
  cases ag
  ·have hg := ML.len _ _ _ m1
   have hg2 := m2.len
   have hone := hone rfl
   match gs, cs', m1, hg, hg2 with
   | [g], [u], m1, _, _ =>
    simp only [ML] at m1
    obtain ⟨v', us, F1, F2, q1, q2, q3, q4, q5⟩ := m1
    have q6 : F1 = [] ∧ F2 = [] := by simpa using q2.symm
    obtain ⟨rfl, rfl⟩ := q6
    simp only [List.cons.injEq] at q1
    obtain ⟨rfl, rfl⟩ := q1
    have hu : u.cells = #[u] := cells1 (m3 u (by simp))
    exact ⟨u, g, by simp [hu], fun x hx => by rw [hu] at hx; simp at hx; subst hx; exact m3 _ (by simp), q3, [g], m2, by simp⟩
   | [], _, _, _, hg2 => simp at hg2; omega
   | _ :: _ :: _, _, _, _, hg2 => simp at hg2; omega
   | [_], [], _, hg, _ => simp at hg
   | [_], _ :: _ :: _, _, hg, _ => simp at hg
  ·exact ⟨.agg cs'.toArray, .agg gs, by simp [Value.cells], fun x hx => m3 x (by simpa [Value.cells] using hx), by simp only [MV]; exact ⟨cs', rfl, m3, m1⟩, gs, m2, by simp⟩
 refine .one (g := .sl ts.length es) ?_ (by simp only [CT]; exact ⟨es, rfl, by simp only [maxL, maxLen] at *; omega, h3⟩) rfl
 simp only [MV]
 refine ⟨trivial, ?_⟩
 cases len with
 | zero =>
  left
  have : es = [] := by simpa using h1
  exact ⟨this, _, _, rfl⟩
 | succ len =>
  right
  have hl2 := MF.len _ _ _ _ h2
  have hpos : 0 < cells.length := by rw [hl2, h1, ← hsz]; exact Nat.mul_pos (by omega) hpos
  have h0 := h4 0 cells[0] (by simp [hpos])
  simp only [Addr.add, if_true] at h0
  unfold World.cell? at h0
  split at h0
  case h_2 => cases h0
  rename_i c T fz hb
  split at h0
  ·cases h0
  rename_i hsp
  have hsp' : a.spot = none := by cases hs : a.spot <;> simp [hs] at hsp ⊢
  obtain ⟨ab, ao, ax⟩ := a
  simp only at hsp' hb h0
  subst hsp'
  refine ⟨ab, ao, cap, cells, by rw [h1], by omega, by simp only [maxL, maxLen] at *; omega, lt_of_heap hb, ⟨c, T, fz, hb, fun j u hj => ?_⟩, by rw [hsz]; exact h2⟩
  have := h4 j u hj
  rw [add_none] at this
  simpa [World.cell?, hb] using this
def tyR (P : Program) (R : TypeId → Option (GV → Prop)) : Nat → TypeId → Option (Bool × List Ty)
 | 0, _ => none
 | n + 1, t => match R t with
  | some Q => some (false, [.pr Q])
  | none => match P.underlying t with
   | some .bool => some (false, [.bool])
   | some (.int k) => some (false, [.int k])
   | some .string => some (false, [.str])
   | some (.slice e) => match tyR P R n e with
    | some (ag, ts) => if ts.length = P.cellsOf e ∧ 0 < ts.length then some (false, [.sl ag ts]) else none
    | none => none
   | some (.struct fs) => match fieldsTy P (tyR P R n) fs.toList 0 with
    | some ts => if ts.length = P.cellsOf t then some (true, ts) else none
    | none => none
   | _ => none
theorem tyR_one {P : Program} {R : TypeId → Option (GV → Prop)} : ∀ {n : Nat} {t : TypeId} {ts : List Ty}, tyR P R n t = some (false, ts) → ts.length = 1
 | 0, _, _, h => by simp [tyR] at h
 | n + 1, t, ts, he => by
  unfold tyR at he
  split at he
  ·simp only [Option.some.injEq, Prod.mk.injEq] at he; rw [← he.2]; rfl
  split at he
  ·simp only [Option.some.injEq, Prod.mk.injEq] at he; rw [← he.2]; rfl
  ·simp only [Option.some.injEq, Prod.mk.injEq] at he; rw [← he.2]; rfl
  ·simp only [Option.some.injEq, Prod.mk.injEq] at he; rw [← he.2]; rfl
  ·split at he
   ·split at he
    ·simp only [Option.some.injEq, Prod.mk.injEq] at he; rw [← he.2]; rfl
    ·cases he
   ·cases he
  ·split at he
   ·split at he
    ·simp only [Option.some.injEq, Prod.mk.injEq] at he; cases he.1
    ·cases he
   ·cases he
  ·cases he
theorem liftR {H : Type} {enc : TypeId × Value → H} {P : Program} {W : World} {spare : Nat → Bool} {held : Bool} {R : TypeId → Option (GV → Prop)} : ∀ (n : Nat) {t : TypeId} {ag : Bool} {ts : List Ty} {fuel : Nat} {cs : List Value} {x : DataW H × List MemPlace},
  (∀ f, f ≤ fuel → ∀ t Q cs x, R t = some Q → DataW.trod enc P W 0 spare held f t cs = some x → Lf W [.pr Q] cs) →
  tyR P R n t = some (ag, ts) → DataW.trod enc P W 0 spare held fuel t cs = some x → Lf W ts cs
 | 0, _, _, _, _, _, _, _, h, _ => by simp [tyR] at h
 | n + 1, t, ag, ts, fuel, cs, x, hR, h, hx => by
  unfold tyR at h
  split at h
  ·rename_i Q hq
   simp only [Option.some.injEq, Prod.mk.injEq] at h
   obtain ⟨rfl, rfl⟩ := h
   exact hR fuel (Nat.le_refl _) t Q cs x hq hx
  split at h
  ·rename_i ht
   simp only [Option.some.injEq, Prod.mk.injEq] at h
   obtain ⟨rfl, rfl⟩ := h
   obtain ⟨b, rfl, _⟩ := DataW.trod_bool ht hx
   exact .one .val0 ⟨b, rfl⟩ rfl
  ·rename_i k ht
   simp only [Option.some.injEq, Prod.mk.injEq] at h
   obtain ⟨rfl, rfl⟩ := h
   obtain ⟨b, rfl, _, hw⟩ := DataW.trod_int ht hx
   exact .one .val0 ⟨b, rfl, hw⟩ rfl
  ·rename_i ht
   simp only [Option.some.injEq, Prod.mk.injEq] at h
   obtain ⟨rfl, rfl⟩ := h
   obtain ⟨b, rfl, _, hw⟩ := DataW.trod_string ht hx
   exact .one .val0 ⟨b, rfl, hw⟩ rfl
  ·rename_i e ht
   split at h
   case h_2 => cases h
   rename_i ag' ts' he
   split at h
   case isFalse => cases h
   rename_i hc
   simp only [Option.some.injEq, Prod.mk.injEq] at h
   obtain ⟨rfl, rfl⟩ := h
   rcases open_sliceF ht hx with rfl | ⟨a, len, cap, n', rfl, rfl, hl, hcap, hel⟩
   ·exact .one (g := .sl ts'.length []) (by simp only [MV]; exact ⟨trivial, .inl ⟨trivial, _, _, rfl⟩⟩) (by simp only [CT]; exact ⟨[], rfl, by simp [maxL], by simp⟩) rfl
   ·refine slice_lf (fun ha => tyR_one (by rw [← ha]; exact he)) hc.1 hc.2 hl hcap fun i hi => ?_
    obtain ⟨cs', y, k1, k2⟩ := hel i hi
    exact ⟨cs', k1, liftR n (fun f hf => hR f (by omega)) he k2⟩
  ·rename_i fs ht
   split at h
   case h_2 => cases h
   rename_i ts' hfs
   split at h
   case isFalse => cases h
   rename_i hlen
   simp only [Option.some.injEq, Prod.mk.injEq] at h
   obtain ⟨rfl, rfl⟩ := h
   obtain ⟨xs, n', hn, _, hl, hxs, hf⟩ := DataW.trod_struct ht hx
   have := fields_ok (W := W) (cs := cs) hfs fun f hfm a us hus => by
    obtain ⟨i, hi, hif⟩ := List.mem_iff_getElem.1 hfm
    have hi' : i < fs.size := by simpa using hi
    have := hf i f (by rw [← hif]; simp [hi'])
    rw [List.getElem?_eq_getElem (by omega)] at this
    exact liftR n (fun f hf => hR f (by omega)) hus this
   rw [List.drop_zero, List.take_of_length_le (by omega)] at this
   exact this
  ·cases h
theorem knot {H : Type} {enc : TypeId × Value → H} {P : Program} {W : World} {spare : Nat → Bool} {held : Bool} {tA tE : TypeId} {Q : GV → Prop} (k : Nat) {ag : Bool} {ts : List Ty}
  (hA : P.underlying tA = some (.slice tE)) (hE : tyR P (fun t => if t = tA then some Q else none) k tE = some (ag, ts)) (hsz : ts.length = P.cellsOf tE) (hpos : 0 < ts.length)
  (hQ : ∀ g, CT (.sl ag ts) g → Q g) : ∀ fuel t Q' cs x, (fun t => if t = tA then some Q else none) t = some Q' → DataW.trod enc P W 0 spare held fuel t cs = some x → Lf W [.pr Q'] cs := by
 intro fuel
 induction fuel using Nat.strongRecOn with
 | ind fuel ih =>
  intro t Q' cs x ht hx
  simp only at ht
  split at ht
  case isFalse => cases ht
  rename_i hta
  subst hta
  simp only [Option.some.injEq] at ht
  subst ht
  refine Lf.mono1 (t := .sl ag ts) ?_ fun g hg => by simp only [CT]; exact hQ g hg
  rcases open_sliceF hA hx with rfl | ⟨a, len, cap, n', rfl, rfl, hl, hcap, hel⟩
  ·exact .one (g := .sl ts.length []) (by simp only [MV]; exact ⟨trivial, .inl ⟨trivial, _, _, rfl⟩⟩) (by simp only [CT]; exact ⟨[], rfl, by simp [maxL], by simp⟩) rfl
  ·refine slice_lf (fun ha => tyR_one (by rw [← ha]; exact hE)) hsz hpos hl hcap fun i hi => ?_
   obtain ⟨cs', y, k1, k2⟩ := hel i hi
   exact ⟨cs', k1, liftR k (fun f hf => ih f (by omega)) hE k2⟩
theorem lift_valR {H : Type} {enc : TypeId × Value → H} {P : Program} {W : World} {spare : Nat → Bool} {held : Bool} {r : Reach} {b0 : Nat} {R : TypeId → Option (GV → Prop)} (n : Nat) {t : TypeId} {ag : Bool} {ts : List Ty} {v : Value} {d : DataW H} {ps : List MemPlace}
  (hR : ∀ f, ∀ t Q cs x, R t = some Q → DataW.trod enc P W 0 spare held f t cs = some x → Lf W [.pr Q] cs)
  (hn : R t = none) (ht : tyR P R n t = some (ag, ts)) (hv : Value.okWide P W r b0 t v) (hx : DataW.Trod enc P W 0 spare held t v d ps) : ∃ g, MV W (below W) g v [] ∧ ET ag ts g := by
 obtain ⟨fuel, hx⟩ := hx
 obtain ⟨gs, h1, h2, h3⟩ := liftR n (fun f _ => hR f) ht hx
 cases n with
 | zero => simp [tyR] at ht
 | succ n =>
 have leaf : ag = false → v.oneCell' = true → ∃ g, MV W (below W) g v [] ∧ ET ag ts g := by
  intro ha hv1
  subst ha
  rw [cells1 hv1] at h1
  match gs, h1 with
  | [g], h1 =>
   simp only [ML] at h1
   obtain ⟨v', us, F1, F2, q1, q2, q3, q4, q5⟩ := h1
   have q6 : F1 = [] ∧ F2 = [] := by simpa using q2.symm
   obtain ⟨rfl, rfl⟩ := q6
   simp only [List.cons.injEq] at q1
   obtain ⟨rfl, rfl⟩ := q1
   exact ⟨g, q3, [g], h2, by simp⟩
  | [], h1 => have := ML.len _ _ _ h1; simp at this
  | _ :: _ :: _, h1 => have := ML.len _ _ _ h1; simp at this
 unfold tyR at ht
 split at ht
 ·rename_i Q hq
  rw [hn] at hq; cases hq
 split at ht
 ·rename_i hu
  simp only [Option.some.injEq, Prod.mk.injEq] at ht
  refine leaf ht.1.symm ?_
  simp only [Value.okWide, hu, Cell.okWide] at hv
  cases v <;> simp_all [Cell.ok, Value.oneCell']
 ·rename_i k hu
  simp only [Option.some.injEq, Prod.mk.injEq] at ht
  refine leaf ht.1.symm ?_
  simp only [Value.okWide, hu, Cell.okWide] at hv
  cases v <;> simp_all [Cell.ok, Value.oneCell']
 ·rename_i hu
  simp only [Option.some.injEq, Prod.mk.injEq] at ht
  refine leaf ht.1.symm ?_
  simp only [Value.okWide, hu, Cell.okWide] at hv
  cases v <;> simp_all [Cell.ok, Value.oneCell']
 ·rename_i e hu
  have ha : ag = false := by
   split at ht
   ·split at ht
    ·simp only [Option.some.injEq, Prod.mk.injEq] at ht; exact ht.1.symm
    ·cases ht
   ·cases ht
  refine leaf ha ?_
  simp only [Value.okWide, hu, Cell.okWide] at hv
  cases v <;> simp_all [Cell.ok, Value.oneCell']
 ·rename_i fs hu
  have ha : ag = true := by
   split at ht
   ·split at ht
    ·simp only [Option.some.injEq, Prod.mk.injEq] at ht; exact ht.1.symm
    ·cases ht
   ·cases ht
  subst ha
  obtain ⟨cs, rfl, _⟩ := okWide_struct hu hv
  exact ⟨.agg gs, by simp only [MV]; exact ⟨cs.toList, by simp, fun x hx => h3 x (by simpa [Value.cells] using hx), by simpa [Value.cells] using h1⟩, gs, h2, by simp⟩
 ·cases ht
end Go.Gh
/- Expressions as arguments of statements. -/
namespace Go.Gh
set_option linter.unusedSimpArgs false
set_option linter.unusedVariables false
def ExQ (g : GV) : Prop := ∃ l : List Exp, g = ExS l ∧ ∀ a ∈ l, okE a
abbrev ExT : List Ty := [.int .i64, .int .i64, .int .i64, .int .i64, .str, .str, .pr ExQ]
theorem t_Exp {g : GV} (h : ET true ExT g) : ∃ e : Exp, g = Ex e ∧ okE e := by
 obtain ⟨gs, k1, k2⟩ := h
 simp only [CTs, CT, ExQ] at k1
 obtain ⟨_, _, rfl, ⟨k, rfl, _⟩, _, _, rfl, ⟨n, rfl, _⟩, _, _, rfl, ⟨p, rfl, _⟩, _, _, rfl, ⟨t, rfl, _⟩, _, _, rfl, ⟨s, rfl, hs⟩, _, _, rfl, ⟨m, rfl, hm⟩, _, _, rfl, ⟨l, rfl, hl⟩, rfl⟩ := k1
 refine ⟨.mk k n p t s m l, ?_, okE_eq.2 ⟨hs, hm, hl⟩⟩
 rw [Ex_eq]
 exact k2
theorem exQ {g : GV} (h : CT (.sl true ExT) g) : ExQ g := by
 obtain ⟨l, rfl, hl⟩ := c_sl h fun e he => t_Exp he
 exact ⟨l, rfl, hl⟩
end Go.Gh
/- Values and operators, as plain functions. -/
namespace Go.Gh
set_option linter.unusedSimpArgs false
set_option linter.unusedVariables false
theorem wrapU (n : Int) (h : 0 ≤ n) (h2 : n ≤ 18446744073709551615) : IntKind.u64.wrap n = n := by
 simp only [IntKind.wrap, IntKind.bits, IntKind.signed]
 simp; omega
def satV (n : Int) : Int := max (-1000000) (min 1000000 n)
def trV (b : Bool) : Int := if b then 1 else 0
def coV (v k : Int) : Int := if k = 1 then satV v else if k = 2 then andI .i64 v 4095 else if k = 3 then trV (!decide (v = 0)) else if k = 4 ∧ 0 ≤ v ∧ v ≤ 999 then v else 0
def opT (op : Int) : Int × Int × Int :=
 if 1 ≤ op ∧ op ≤ 5 then (1, 1, 1) else if 6 ≤ op ∧ op ≤ 8 then (2, 2, 2) else if op = 9 ∨ op = 10 then (1, 1, 3) else if op = 11 then (2, 1, 3) else if op = 12 then (2, 1, 2) else (0, 0, 0)
abbrev opG (op : Int) : GV := .tup [I (opT op).1, I (opT op).2.1, I (opT op).2.2]
def okV (v k : Int) : Bool := decide (1 ≤ k ∧ k ≤ 4) && decide (coV v k = v)
def apW (op a b : Int) : Int :=
 if op = 1 then satV (IntKind.i64.wrap (a + b)) else if op = 2 then satV (IntKind.i64.wrap (a - b)) else if op = 3 then satV (IntKind.i64.wrap (a * b)) else
 if op = 4 then max a b else if op = 5 then min a b else if op = 6 then orI .i64 a b else if op = 7 then andI .i64 a b else if op = 8 then andNotI .i64 a b else
 if op = 9 then trV (decide (a < b)) else if op = 10 then trV (decide (a = b)) else
 if op = 11 then (if 0 ≤ b ∧ b ≤ 11 then trV (decide (andI .i64 (shrI .i64 a b) 1 = 1)) else 0) else
 if op = 12 then (if 0 ≤ b ∧ b ≤ 11 then orI .i64 a (shlI .i64 1 b) else a) else 0
def apV (op a b : Int) : Int := apW op (coV a (opT op).1) (coV b (opT op).2.1)
theorem opG0 {op : Int} (h : ¬(1 ≤ op ∧ op ≤ 12)) : opG op = .tup [I 0, I 0, I 0] := by
 have : opT op = (0, 0, 0) := by
  unfold opT
  rw [if_neg (by omega), if_neg (by omega), if_neg (by omega), if_neg (by omega), if_neg (by omega)]
 simp only [opG, this]
theorem apW11 {a b : Int} (h : ¬(0 ≤ b ∧ b ≤ 11)) : apW 11 a b = 0 := by simp only [apW, if_neg h]; rfl
theorem apW12 {a b : Int} (h : ¬(0 ≤ b ∧ b ≤ 11)) : apW 12 a b = a := by simp only [apW, if_neg h]; rfl
end Go.Gh
/- Counts of an expression. -/
namespace Go.Gh
set_option linter.unusedSimpArgs false
set_option linter.unusedVariables false
mutual
def cntE : Exp → Nat
 | .mk _ _ _ _ _ _ a => 1 + cntEL a
def cntEL : List Exp → Nat
 | [] => 0
 | e :: l => cntE e + cntEL l
end
theorem cntEL_eq (l : List Exp) : cntEL l = (l.map cntE).sum := by
 induction l with
 | nil => rfl
 | cons e l ih => simp [cntEL, ih]
theorem cntE_eq (e : Exp) : cntE e = 1 + (e.args.map cntE).sum := by
 cases e; simp only [cntE, cntEL_eq]; rfl
theorem cntE_le : ∀ e, cntE e ≤ wEx e + 1 := by
 refine Exp.indA fun e ih => ?_
 rw [cntE_eq, wEx_eq]
 have : ∀ l : List Exp, (∀ a ∈ l, cntE a ≤ wEx a + 1) → (l.map cntE).sum ≤ l.length + (l.map wEx).sum := by
  intro l
  induction l with
  | nil => intro _; simp
  | cons a l ih =>
   intro h
   have h1 := h a (by simp)
   have h2 := ih fun b hb => h b (by simp [hb])
   simp only [List.map_cons, List.sum_cons, List.length_cons]; omega
 have := this e.args ih
 simp only [wtS]; omega
theorem sumT (f : Exp → Nat) (l : List Exp) (i : Nat) (h : i < l.length) : ((l.take (i + 1)).map f).sum = ((l.take i).map f).sum + f l[i] := psum_succ f l i h
theorem sumT_le (f : Exp → Nat) (l : List Exp) (i : Nat) : ((l.take i).map f).sum ≤ (l.map f).sum := psum_le f l i
def mxL : List Nat → Nat
 | [] => 0
 | a :: l => max a (mxL l)
theorem mxL_app (l m : List Nat) : mxL (l ++ m) = max (mxL l) (mxL m) := by
 induction l with
 | nil => simp [mxL]
 | cons a l ih => simp only [List.cons_append, mxL, ih]; omega
theorem mxL_le (l : List Nat) : mxL l ≤ l.sum := by
 induction l with
 | nil => simp [mxL]
 | cons a l ih => simp only [mxL, List.sum_cons]; omega
mutual
def dpE : Exp → Nat
 | .mk _ _ _ _ _ _ a => 1 + dpEL a
def dpEL : List Exp → Nat
 | [] => 0
 | e :: l => max (dpE e) (dpEL l)
end
theorem dpEL_eq (l : List Exp) : dpEL l = mxL (l.map dpE) := by
 induction l with
 | nil => rfl
 | cons e l ih => simp [dpEL, mxL, ih]
theorem dpE_eq (e : Exp) : dpE e = 1 + mxL (e.args.map dpE) := by
 cases e; simp only [dpE, dpEL_eq]; rfl
theorem sumL_le {l : List Exp} {f g : Exp → Nat} (h : ∀ a ∈ l, f a ≤ g a) : (l.map f).sum ≤ (l.map g).sum := by
 induction l with
 | nil => simp
 | cons a l ih =>
  have h1 := h a (by simp)
  have h2 := ih fun b hb => h b (by simp [hb])
  simp only [List.map_cons, List.sum_cons]; omega
theorem dpE_le : ∀ e, dpE e ≤ cntE e := by
 refine Exp.indA fun e ih => ?_
 rw [cntE_eq, dpE_eq]
 have h1 := mxL_le (e.args.map dpE)
 have h2 := sumL_le ih
 omega
theorem mxT (f : Exp → Nat) (l : List Exp) (i : Nat) (h : i < l.length) : mxL ((l.take (i + 1)).map f) = max (mxL ((l.take i).map f)) (f l[i]) := by
 rw [List.take_succ_eq_append_getElem h, List.map_append, mxL_app]; simp [mxL]
theorem mxT_le (f : Exp → Nat) (l : List Exp) (i : Nat) : mxL ((l.take i).map f) ≤ (l.map f).sum :=
 Nat.le_trans (mxL_le _) (sumT_le f l i)
end Go.Gh
/- Predicates on all nodes of an expression. -/
namespace Go.Gh
set_option linter.unusedSimpArgs false
set_option linter.unusedVariables false
mutual
def allE (p : Exp → Bool) : Exp → Bool
 | .mk k n q t s m a => p (.mk k n q t s m a) && allEL p a
def allEL (p : Exp → Bool) : List Exp → Bool
 | [] => true
 | e :: l => allE p e && allEL p l
end
theorem allEL_eq (p : Exp → Bool) (l : List Exp) : allEL p l = l.all (allE p) := by
 induction l with
 | nil => rfl
 | cons e l ih => simp [allEL, ih]
theorem allE_eq (p : Exp → Bool) (e : Exp) : allE p e = (p e && e.args.all (allE p)) := by
 cases e; simp only [allE, allEL_eq]; rfl
theorem any_ix {α : Type} (p : α → Bool) (l : List α) : decide (0 ≤ ixOf p l) = l.any p := by
 unfold ixOf
 cases h : l.findIdx? p with
 | none =>
  have := List.findIdx?_eq_none_iff.1 h
  simp; exact this
 | some i =>
  obtain ⟨h1, h2, _⟩ := List.findIdx?_eq_some_iff_getElem.1 h
  simp
  exact ⟨l[i], List.getElem_mem h1, h2⟩
theorem any_not {α : Type} (p : α → Bool) (l : List α) : (!l.any fun a => !p a) = l.all p := by
 induction l with
 | nil => rfl
 | cons a l ih => simp only [List.any_cons, List.all_cons, Bool.not_or, Bool.not_not, ih]
theorem all_take {p : Exp → Bool} {l : List Exp} {i : Nat} (h : i < l.length) (hp : p l[i] = true) (hn : ∀ a ∈ l.take i, p a = true) : ∀ a ∈ l.take (i + 1), p a = true := by
 intro a ha
 rw [List.take_add_one, List.getElem?_eq_getElem h, Option.toList_some, List.mem_append] at ha
 rcases ha with ha | ha
 ·exact hn a ha
 ·simp only [List.mem_singleton] at ha; rw [ha]; exact hp
end Go.Gh
/- Names. -/
namespace Go.Gh
set_option linter.unusedSimpArgs false
set_option linter.unusedVariables false
def letV (c : UInt8) : Bool := decide (97 ≤ (c.toNat : Int)) && decide ((c.toNat : Int) ≤ 122)
def digV (c : UInt8) : Bool := decide (48 ≤ (c.toNat : Int)) && decide ((c.toNat : Int) ≤ 57)
def kwS : List ByteArray := [⟨#[105, 102]⟩, ⟨#[116, 104, 101, 110]⟩, ⟨#[101, 108, 115, 101]⟩, ⟨#[116, 114, 117, 101]⟩, ⟨#[102, 97, 108, 115, 101]⟩, ⟨#[108, 105, 116]⟩, ⟨#[110, 111, 110, 101]⟩,
 ⟨#[115, 101, 108, 102]⟩, ⟨#[111, 102]⟩, ⟨#[109, 97, 120]⟩, ⟨#[109, 105, 110]⟩, ⟨#[119, 105, 116, 104]⟩, ⟨#[104, 97, 115]⟩]
def hasS (l : List ByteArray) (s : ByteArray) : Bool := l.any fun x => decide (x = s)
theorem hasS_hit {l : List ByteArray} {s : ByteArray} {i : Nat} (h : i < l.length) (e : l[i] = s) : hasS l s = true := by
 simp only [hasS, List.any_eq_true]; exact ⟨l[i], List.getElem_mem h, by simp [e]⟩
theorem hasS_none {l : List ByteArray} {s : ByteArray} (h : ∀ x ∈ l, decide (x = s) = false) : hasS l s = false := by
 simp only [hasS, List.any_eq_false]; intro x hx; simpa using h x hx
def resV (s : ByteArray) : Bool := hasS kwS s
def shp : List UInt8 → Bool
 | [] => false
 | c :: l => letV c && l.all fun c => letV c || digV c
theorem shp_iff (l : List UInt8) : shp l = true ↔ 0 < l.length ∧ ∀ (j : Nat) (h : j < l.length), letV l[j] = true ∨ (j ≠ 0 ∧ digV l[j] = true) := by
 cases l with
 | nil => simp [shp]
 | cons c l =>
  simp only [shp, Bool.and_eq_true, List.all_eq_true, Bool.or_eq_true, List.length_cons]
  constructor
  ·rintro ⟨h1, h2⟩
   refine ⟨by omega, fun j hj => ?_⟩
   cases j with
   | zero => exact .inl h1
   | succ j =>
    have := h2 l[j] (List.getElem_mem _)
    simp only [List.getElem_cons_succ]
    rcases this with h | h
    ·exact .inl h
    ·exact .inr ⟨by omega, h⟩
  ·rintro ⟨_, h⟩
   constructor
   ·have := h 0 (by omega)
    simpa using this
   ·intro x hx
    obtain ⟨j, hj, rfl⟩ := List.mem_iff_getElem.1 hx
    have := h (j + 1) (by omega)
    simp only [List.getElem_cons_succ] at this
    rcases this with h | h
    ·exact .inl h
    ·exact .inr h.2
def nameV (s : ByteArray) : Bool := shp (chars s) && decide ((chars s).length ≤ 8) && !resV s
end Go.Gh
/- Names: steps. -/
namespace Go.Gh
set_option linter.unusedSimpArgs false
set_option linter.unusedVariables false
theorem shp_bad {l : List UInt8} {i : Nat} (h : i < l.length) (h1 : ¬(letV l[i] = true ∨ (i ≠ 0 ∧ digV l[i] = true))) : shp l = false := by
 cases hs : shp l with
 | false => rfl
 | true => exact absurd (((shp_iff l).1 hs).2 i h) h1
theorem shp_step {l : List UInt8} {i : Nat} (h : i < l.length) (hn : ∀ (j : Nat) (h : j < l.length), j < i → letV l[j] = true ∨ (j ≠ 0 ∧ digV l[j] = true)) (hg : letV l[i] = true ∨ (i ≠ 0 ∧ digV l[i] = true)) :
  ∀ (j : Nat) (h : j < l.length), j < i + 1 → letV l[j] = true ∨ (j ≠ 0 ∧ digV l[j] = true) := by
 intro j hj hji
 by_cases e : j = i
 ·subst e; exact hg
 ·exact hn j hj (by omega)
theorem shp_end {l : List UInt8} (hn : ∀ (j : Nat) (h : j < l.length), j < l.length → letV l[j] = true ∨ (j ≠ 0 ∧ digV l[j] = true)) : shp l = decide (0 < l.length) := by
 by_cases h : 0 < l.length
 ·rw [decide_eq_true h]; exact (shp_iff l).2 ⟨h, fun j hj => hn j hj hj⟩
 ·rw [decide_eq_false h]
  cases l with
  | nil => rfl
  | cons a l => simp at h
end Go.Gh
/- Valid nodes. -/
namespace Go.Gh
set_option linter.unusedSimpArgs false
set_option linter.unusedVariables false
def arity (k : Int) : Nat := if k = 4 then 2 else if k = 5 then 3 else if k = 8 then 1 else 0
def noS : ByteArray := ⟨#[]⟩
def bareV (e : Exp) : Bool :=
 decide (e.args.length = arity e.kind) && (decide (e.kind = 3 ∨ e.kind = 6) || decide (e.pos = 0)) && (decide (e.kind = 3 ∨ e.kind = 8) || decide (e.name = noS)) && (decide (e.kind = 1 ∨ e.kind = 4) || decide (e.n = 0)) &&
 (decide (e.kind = 1) || decide (e.type = 0)) && (decide (e.kind = 8) || decide (e.sym = noS))
end Go.Gh
/- Symbols, rules and grammars as plain data, and their ghosts. -/
namespace Go.Gh
set_option linter.unusedSimpArgs false
set_option linter.unusedVariables false
theorem nraw_Ex (e : Exp) : nraw (Ex e) = true := by rw [Ex_eq]; rfl
theorem clean_Ex (e : Exp) : clean (Ex e) = true := by rw [Ex_eq]; rfl
theorem sub_Ex0 (e : Exp) : sub (Ex e) 0 1 false = some (I e.kind) := by rw [Ex_eq]; rfl
theorem sub_Ex1 (e : Exp) : sub (Ex e) 1 1 false = some (I e.n) := by rw [Ex_eq]; rfl
theorem sub_Ex2 (e : Exp) : sub (Ex e) 2 1 false = some (I e.pos) := by rw [Ex_eq]; rfl
theorem sub_Ex3 (e : Exp) : sub (Ex e) 3 1 false = some (I e.type) := by rw [Ex_eq]; rfl
theorem sub_Ex4 (e : Exp) : sub (Ex e) 4 1 false = some (T e.sym) := by rw [Ex_eq]; rfl
theorem sub_Ex5 (e : Exp) : sub (Ex e) 5 1 false = some (T e.name) := by rw [Ex_eq]; rfl
theorem sub_Ex6 (e : Exp) : sub (Ex e) 6 1 false = some (ExS e.args) := by rw [Ex_eq]; rfl
theorem fold_Ex (e : Exp) : GV.agg [I e.kind, I e.n, I e.pos, I e.type, T e.sym, T e.name, .sl 7 (e.args.map Ex)] = Ex e := (Ex_eq e).symm
abbrev ExC (e : Exp) : List GV := [I e.kind, I e.n, I e.pos, I e.type, T e.sym, T e.name, ExS e.args]
theorem upd_Ex (gs : List GV) (o : Nat) (e : Exp) : upd (.agg gs) o (Ex e) = if o + 7 ≤ gs.length then some (.agg (gs.take o ++ (ExC e ++ gs.drop (o + 7)))) else none := by rw [Ex_eq]; rfl
theorem upd_ExO (e : Exp) (o r sz k n : Nat) : upd (Ex e) o (.own r sz k n) = if o < 7 then some (.agg ((ExC e).set o (.own r sz k n))) else none := by rw [Ex_eq]; rfl
theorem XE : type_of% (And.intro @isAgg_Ex (And.intro @geR_Ex (And.intro @gsize_Ex (And.intro @stor_Ex (And.intro @nraw_Ex (And.intro @clean_Ex (And.intro @sub_Ex0 (And.intro @sub_Ex1 (And.intro @sub_Ex2 (And.intro @sub_Ex3 (And.intro @sub_Ex4 (And.intro @sub_Ex5 (And.intro @sub_Ex6 (And.intro @fold_Ex (And.intro @upd_ExO @upd_Ex))))))))))))))) :=
 And.intro @isAgg_Ex (And.intro @geR_Ex (And.intro @gsize_Ex (And.intro @stor_Ex (And.intro @nraw_Ex (And.intro @clean_Ex (And.intro @sub_Ex0 (And.intro @sub_Ex1 (And.intro @sub_Ex2 (And.intro @sub_Ex3 (And.intro @sub_Ex4 (And.intro @sub_Ex5 (And.intro @sub_Ex6 (And.intro @fold_Ex (And.intro @upd_ExO @upd_Ex))))))))))))))
@[ext] structure Att where
 name : ByteArray
 type : Int
 mode : Int
 circ : Bool
deriving DecidableEq
abbrev At (x : Att) : GV := .agg [T x.name, I x.type, I x.mode, B x.circ]
abbrev AtS (l : List Att) : GV := .sl 4 (l.map At)
abbrev wAt (x : Att) : Nat := (chars x.name).length
@[ext] structure Sym where
 name : ByteArray
 atts : List Att
deriving DecidableEq
abbrev Sy (x : Sym) : GV := .agg [T x.name, AtS x.atts]
abbrev SyS (l : List Sym) : GV := .sl 2 (l.map Sy)
abbrev wSy (x : Sym) : Nat := (chars x.name).length + wtS wAt x.atts
@[ext] structure Eqn where
 pos : Int
 name : ByteArray
 expr : Exp
deriving DecidableEq
abbrev Qn (x : Eqn) : GV := .agg [I x.pos, T x.name, I x.expr.kind, I x.expr.n, I x.expr.pos, I x.expr.type, T x.expr.sym, T x.expr.name, ExS x.expr.args]
abbrev QnS (l : List Eqn) : GV := .sl 9 (l.map Qn)
abbrev wEq (x : Eqn) : Nat := (chars x.name).length + wEx x.expr
@[ext] structure Con where
 sym : ByteArray
 name : ByteArray
 goal : Exp
 value : Exp
deriving DecidableEq
abbrev Co (x : Con) : GV := .agg [T x.sym, T x.name, I x.goal.kind, I x.goal.n, I x.goal.pos, I x.goal.type, T x.goal.sym, T x.goal.name, ExS x.goal.args, I x.value.kind, I x.value.n, I x.value.pos, I x.value.type, T x.value.sym, T x.value.name, ExS x.value.args]
abbrev CoS (l : List Con) : GV := .sl 16 (l.map Co)
abbrev wCo (x : Con) : Nat := (chars x.sym).length + (chars x.name).length + wEx x.goal + wEx x.value
abbrev TS (l : List ByteArray) : GV := .sl 1 (l.map T)
abbrev wT (s : ByteArray) : Nat := (chars s).length
@[ext] structure Rul where
 name : ByteArray
 left : ByteArray
 right : List ByteArray
 lit : Bool
 eqs : List Eqn
 cons : List Con
deriving DecidableEq
abbrev Ru (x : Rul) : GV := .agg [T x.name, T x.left, TS x.right, B x.lit, QnS x.eqs, CoS x.cons]
abbrev RuS (l : List Rul) : GV := .sl 6 (l.map Ru)
abbrev wRu (x : Rul) : Nat := (chars x.name).length + (chars x.left).length + wtS wT x.right + wtS wEq x.eqs + wtS wCo x.cons
@[ext] structure Gram where
 syms : List Sym
 rules : List Rul
deriving DecidableEq
abbrev Gr (g : Gram) : GV := .agg [SyS g.syms, RuS g.rules]
abbrev wGr (g : Gram) : Nat := wtS wSy g.syms + wtS wRu g.rules
def okAt (x : Att) : Prop := x.name.size ≤ maxLen
def okSy (x : Sym) : Prop := x.name.size ≤ maxLen ∧ ∀ a ∈ x.atts, okAt a
def okEq (x : Eqn) : Prop := x.name.size ≤ maxLen ∧ okE x.expr
def okCo (x : Con) : Prop := x.sym.size ≤ maxLen ∧ x.name.size ≤ maxLen ∧ okE x.goal ∧ okE x.value
def okRu (x : Rul) : Prop := x.name.size ≤ maxLen ∧ x.left.size ≤ maxLen ∧ (∀ s ∈ x.right, s.size ≤ maxLen) ∧ (∀ q ∈ x.eqs, okEq q) ∧ ∀ c ∈ x.cons, okCo c
def okGr (g : Gram) : Prop := (∀ s ∈ g.syms, okSy s) ∧ ∀ r ∈ g.rules, okRu r
def smSy (x : Sym) : Prop := x.atts.length ≤ 1048576
def smEq (x : Eqn) : Prop := wEx x.expr ≤ 1048576
def smCo (x : Con) : Prop := wEx x.goal ≤ 1048576 ∧ wEx x.value ≤ 1048576
def smRu (x : Rul) : Prop := x.right.length ≤ 1048576 ∧ x.eqs.length ≤ 1048576 ∧ x.cons.length ≤ 1048576 ∧ (∀ q ∈ x.eqs, smEq q) ∧ ∀ c ∈ x.cons, smCo c
def smGr (g : Gram) : Prop := g.syms.length ≤ 1048576 ∧ g.rules.length ≤ 1048576 ∧ (∀ s ∈ g.syms, smSy s) ∧ ∀ r ∈ g.rules, smRu r
theorem wtS_mem {α : Type} {wt : α → Nat} {l : List α} {n : Nat} (h : wtS wt l ≤ n) : l.length ≤ n ∧ ∀ a ∈ l, wt a ≤ n := by
 simp only [wtS] at h
 exact ⟨by omega, fun a ha => by have := sum_mem wt l a ha; omega⟩
theorem smRu_of {x : Rul} (h : wRu x ≤ 1048576) : smRu x := by
 simp only [wRu] at h
 obtain ⟨h1, _⟩ := wtS_mem (wt := wT) (l := x.right) (n := 1048576) (by omega)
 obtain ⟨h2, h3⟩ := wtS_mem (wt := wEq) (l := x.eqs) (n := 1048576) (by omega)
 obtain ⟨h4, h5⟩ := wtS_mem (wt := wCo) (l := x.cons) (n := 1048576) (by omega)
 exact ⟨h1, h2, h4, fun q hq => by have := h3 q hq; simp only [wEq] at this; unfold smEq; omega, fun c hc => by have := h5 c hc; simp only [wCo] at this; unfold smCo; omega⟩
theorem smGr_of {g : Gram} (h : wGr g ≤ 1048576) : smGr g := by
 simp only [wGr] at h
 obtain ⟨h1, h2⟩ := wtS_mem (wt := wSy) (l := g.syms) (n := 1048576) (by omega)
 obtain ⟨h3, h4⟩ := wtS_mem (wt := wRu) (l := g.rules) (n := 1048576) (by omega)
 refine ⟨h1, h3, fun s hs => ?_, fun r hr => smRu_of (h4 r hr)⟩
 have := h2 s hs
 simp only [wSy, wtS] at this
 unfold smSy; omega
theorem getD_lt {α : Type} {l : List α} {i : Nat} {d : α} (h : i < l.length) : l.getD i d = l[i] := by
 rw [List.getD_eq_getElem?_getD, List.getElem?_eq_getElem h]; rfl
def symZ : Sym := ⟨noS, []⟩
def attZ : Att := ⟨noS, 0, 0, false⟩
def rulZ : Rul := ⟨noS, noS, [], false, [], []⟩
def fSym (l : List Sym) (n : ByteArray) : Sym := (l.find? fun s => decide (s.name = n)).getD symZ
def hSym (l : List Sym) (n : ByteArray) : Bool := (l.find? fun s => decide (s.name = n)).isSome
def fRul (l : List Rul) (n : ByteArray) : Rul := (l.find? fun s => decide (s.name = n)).getD rulZ
def hRul (l : List Rul) (n : ByteArray) : Bool := (l.find? fun s => decide (s.name = n)).isSome
def fAtt (l : List Att) (n : ByteArray) : Att := (l.find? fun s => decide (s.name = n)).getD attZ
def hAtt (l : List Att) (n : ByteArray) : Bool := (l.find? fun s => decide (s.name = n)).isSome
theorem fRul_mem (l : List Rul) (n : ByteArray) : fRul l n ∈ l ∨ fRul l n = rulZ := by
 unfold fRul
 cases h : l.find? fun s => decide (s.name = n) with
 | none => exact .inr rfl
 | some a => exact .inl (List.mem_of_find?_eq_some h)
theorem fSym_mem (l : List Sym) (n : ByteArray) : fSym l n ∈ l ∨ fSym l n = symZ := by
 unfold fSym
 cases h : l.find? fun s => decide (s.name = n) with
 | none => exact .inr rfl
 | some a => exact .inl (List.mem_of_find?_eq_some h)
theorem smRu_f {g : Gram} (h : smGr g) (n : ByteArray) : smRu (fRul g.rules n) := by
 rcases fRul_mem g.rules n with h1 | h1
 ·exact h.2.2.2 _ h1
 ·rw [h1]; simp [smRu, rulZ]
theorem smSy_f {g : Gram} (h : smGr g) (n : ByteArray) : smSy (fSym g.syms n) := by
 rcases fSym_mem g.syms n with h1 | h1
 ·exact h.2.2.1 _ h1
 ·rw [h1]; simp [smSy, symZ]
def symAt (r : Rul) (pos : Int) : ByteArray := if pos = 0 then r.left else if 1 ≤ pos ∧ pos ≤ r.right.length then r.right.getD (pos - 1).toNat noS else noS
def nodZ : Nod := ⟨0, 0, 0, 0, noS, []⟩
def symN (g : Gram) (t : List Nod) (i : Int) : ByteArray := if 0 ≤ i ∧ i < t.length then (fRul g.rules (t.getD i.toNat nodZ).rule).left else noS
theorem symN_in {g : Gram} {t : List Nod} {i : Nat} (h : i < t.length) : symN g t i = (fRul g.rules t[i].rule).left := by
 simp only [symN, Int.toNat_natCast]
 rw [if_pos (by omega), getD_lt h]
theorem symN_out {g : Gram} {t : List Nod} {i : Int} (h : ¬ (0 ≤ i ∧ i < t.length)) : symN g t i = noS := by simp only [symN, if_neg h]
def attAt (g : Gram) (r : Rul) (pos : Int) (name : ByteArray) : Att := if 0 ≤ pos ∧ pos ≤ r.right.length then fAtt (fSym g.syms (symAt r pos)).atts name else attZ
def hasAt (g : Gram) (r : Rul) (pos : Int) (name : ByteArray) : Bool := if 0 ≤ pos ∧ pos ≤ r.right.length then hAtt (fSym g.syms (symAt r pos)).atts name else false
def attN (g : Gram) (t : List Nod) (n : Int) (name : ByteArray) : Att := if 0 ≤ ixOf (fun y => decide (y.id = n)) t then fAtt (fSym g.syms (symN g t (ixOf (fun y => decide (y.id = n)) t))).atts name else attZ
def hasN (g : Gram) (t : List Nod) (n : Int) (name : ByteArray) : Bool := if 0 ≤ ixOf (fun y => decide (y.id = n)) t then hAtt (fSym g.syms (symN g t (ixOf (fun y => decide (y.id = n)) t))).atts name else false
theorem ixOf_cases {α : Type} (p : α → Bool) (xs : List α) : ixOf p xs = -1 ∨ (0 ≤ ixOf p xs ∧ ixOf p xs < xs.length) := by
 unfold ixOf
 cases h : xs.findIdx? p with
 | none => exact .inl rfl
 | some i =>
  obtain ⟨h1, _, _⟩ := List.findIdx?_eq_some_iff_getElem.1 h
  exact .inr ⟨by simp, by simpa using h1⟩
abbrev Ins (x : Int × ByteArray) : GV := .agg [I x.1, T x.2]
abbrev InsS (l : List (Int × ByteArray)) : GV := .sl 2 (l.map Ins)
end Go.Gh
/- Instances of a tree. -/
namespace Go.Gh
set_option linter.unusedSimpArgs false
set_option linter.unusedVariables false
def nodeAt (t : List Nod) (i pos : Int) : Option Int :=
 if 0 ≤ i ∧ i < t.length ∧ 0 ≤ pos ∧ pos ≤ (t.getD i.toNat nodZ).kids.length then
  let k := if pos = 0 then i else (t.getD i.toNat nodZ).kids.getD (pos - 1).toNat 0
  if 0 ≤ k ∧ k < t.length then some k else none
 else none
def instAt (t : List Nod) (i : Int) (o : Int × ByteArray) : (Int × ByteArray) × Bool :=
 match nodeAt t i o.1 with
 | some k => (((t.getD k.toNat nodZ).id, o.2), true)
 | none => ((0, noS), false)
theorem fAtt_no {l : List Att} {n : ByteArray} (h : hAtt l n = false) : fAtt l n = attZ := by
 simp only [hAtt, fAtt] at *
 cases e : l.find? fun s => decide (s.name = n) with
 | none => rfl
 | some a => rw [e] at h; simp at h
theorem inst0 {t : List Nod} {i : Nat} {o : Int × ByteArray} (hi : i < t.length) (h0 : o.1 = 0) : instAt t i o = ((t[i].id, o.2), true) := by
 simp only [instAt, nodeAt, Int.toNat_natCast, getD_lt hi, h0]
 rw [if_pos (by omega)]
 simp only [if_true]
 rw [if_pos (by omega)]
 simp only [Int.toNat_natCast, getD_lt hi]
theorem inst1 {t : List Nod} {i : Nat} {o : Int × ByteArray} (hi : i < t.length) (h1 : 1 ≤ o.1) (hj : (o.1 - 1).toNat < t[i].kids.length) (hk : 0 ≤ t[i].kids[(o.1 - 1).toNat]) (hl : (t[i].kids[(o.1 - 1).toNat]).toNat < t.length) :
  instAt t i o = ((t[(t[i].kids[(o.1 - 1).toNat]).toNat].id, o.2), true) := by
 simp only [instAt, nodeAt, Int.toNat_natCast, getD_lt hi]
 have e : (if o.1 = 0 then (i : Int) else t[i].kids.getD (o.1 - 1).toNat 0) = t[i].kids[(o.1 - 1).toNat] := by rw [if_neg (by omega), getD_lt hj]
 rw [if_pos (by omega)]
 simp only [e]
 rw [if_pos (by omega)]
 simp only [getD_lt hl]
theorem inst2 {t : List Nod} {i : Nat} {o : Int × ByteArray} (hi : i < t.length) (h1 : 1 ≤ o.1) (hj : (o.1 - 1).toNat < t[i].kids.length) (hk : ¬ (0 ≤ t[i].kids[(o.1 - 1).toNat] ∧ t[i].kids[(o.1 - 1).toNat] < t.length)) :
  instAt t i o = ((0, noS), false) := by
 simp only [instAt, nodeAt, Int.toNat_natCast, getD_lt hi]
 have e : (if o.1 = 0 then (i : Int) else t[i].kids.getD (o.1 - 1).toNat 0) = t[i].kids[(o.1 - 1).toNat] := by rw [if_neg (by omega), getD_lt hj]
 rw [if_pos (by omega)]
 simp only [e]
 rw [if_neg (by omega)]
theorem inst3 {t : List Nod} {i : Nat} {o : Int × ByteArray} (hi : i < t.length) (h : ¬ (0 ≤ o.1 ∧ o.1 ≤ t[i].kids.length)) : instAt t i o = ((0, noS), false) := by
 simp only [instAt, nodeAt, Int.toNat_natCast, getD_lt hi]
 rw [if_neg (by omega)]
theorem inst4 {t : List Nod} {i : Int} {o : Int × ByteArray} (h : ¬ (0 ≤ i ∧ i < t.length)) : instAt t i o = ((0, noS), false) := by
 simp only [instAt, nodeAt]
 rw [if_neg (by omega)]
end Go.Gh
/- Grammars as arguments of statements. -/
namespace Go.Gh
set_option linter.unusedSimpArgs false
set_option linter.unusedVariables false
theorem t_T {g : GV} (h : ET false [.str] g) : ∃ s : ByteArray, g = T s ∧ s.size ≤ maxLen := by
 obtain ⟨s, rfl, hs⟩ := t_one h
 exact ⟨s, rfl, hs⟩
abbrev AtT : List Ty := [.str, .int .i64, .int .i64, .bool]
theorem t_Att {g : GV} (h : ET true AtT g) : ∃ x : Att, g = At x ∧ okAt x := by
 obtain ⟨gs, k1, k2⟩ := h
 simp only [CTs, CT] at k1
 obtain ⟨_, _, rfl, ⟨s, rfl, hs⟩, _, _, rfl, ⟨a, rfl, _⟩, _, _, rfl, ⟨b, rfl, _⟩, _, _, rfl, ⟨c, rfl⟩, rfl⟩ := k1
 exact ⟨⟨s, a, b, c⟩, by simpa using k2, hs⟩
abbrev SyT : List Ty := [.str, .sl true AtT]
theorem t_Sym {g : GV} (h : ET true SyT g) : ∃ x : Sym, g = Sy x ∧ okSy x := by
 obtain ⟨gs, k1, k2⟩ := h
 rw [CTs] at k1
 obtain ⟨_, _, rfl, h1, k1⟩ := k1
 rw [CTs] at k1
 obtain ⟨_, _, rfl, h2, k1⟩ := k1
 simp only [CTs] at k1
 subst k1
 obtain ⟨l, rfl, hl⟩ := c_sl h2 fun e he => t_Att he
 simp only [CT] at h1
 obtain ⟨s, rfl, hs⟩ := h1
 exact ⟨⟨s, l⟩, by simpa using k2, hs, hl⟩
abbrev QnT : List Ty := [.int .i64, .str, .int .i64, .int .i64, .int .i64, .int .i64, .str, .str, .pr ExQ]
theorem t_Eqn {g : GV} (h : ET true QnT g) : ∃ x : Eqn, g = Qn x ∧ okEq x := by
 obtain ⟨gs, k1, k2⟩ := h
 simp only [CTs, CT, ExQ] at k1
 obtain ⟨_, _, rfl, ⟨i, rfl, _⟩, _, _, rfl, ⟨u, rfl, hu⟩, _, _, rfl, ⟨k, rfl, _⟩, _, _, rfl, ⟨n, rfl, _⟩, _, _, rfl, ⟨p, rfl, _⟩, _, _, rfl, ⟨t, rfl, _⟩, _, _, rfl, ⟨s, rfl, hs⟩, _, _, rfl, ⟨m, rfl, hm⟩, _, _, rfl, ⟨l, rfl, hl⟩, rfl⟩ := k1
 exact ⟨⟨i, u, .mk k n p t s m l⟩, k2, hu, okE_eq.2 ⟨hs, hm, hl⟩⟩
abbrev CoT : List Ty := [.str, .str, .int .i64, .int .i64, .int .i64, .int .i64, .str, .str, .pr ExQ, .int .i64, .int .i64, .int .i64, .int .i64, .str, .str, .pr ExQ]
theorem t_Con {g : GV} (h : ET true CoT g) : ∃ x : Con, g = Co x ∧ okCo x := by
 obtain ⟨gs, k1, k2⟩ := h
 simp only [CTs, CT, ExQ] at k1
 obtain ⟨_, _, rfl, ⟨a, rfl, ha⟩, _, _, rfl, ⟨b, rfl, hb⟩, _, _, rfl, ⟨k, rfl, _⟩, _, _, rfl, ⟨n, rfl, _⟩, _, _, rfl, ⟨p, rfl, _⟩, _, _, rfl, ⟨t, rfl, _⟩, _, _, rfl, ⟨s, rfl, hs⟩, _, _, rfl, ⟨m, rfl, hm⟩, _, _, rfl, ⟨l, rfl, hl⟩,
  _, _, rfl, ⟨k', rfl, _⟩, _, _, rfl, ⟨n', rfl, _⟩, _, _, rfl, ⟨p', rfl, _⟩, _, _, rfl, ⟨t', rfl, _⟩, _, _, rfl, ⟨s', rfl, hs'⟩, _, _, rfl, ⟨m', rfl, hm'⟩, _, _, rfl, ⟨l', rfl, hl'⟩, rfl⟩ := k1
 exact ⟨⟨a, b, .mk k n p t s m l, .mk k' n' p' t' s' m' l'⟩, k2, ha, hb, okE_eq.2 ⟨hs, hm, hl⟩, okE_eq.2 ⟨hs', hm', hl'⟩⟩
abbrev RuT : List Ty := [.str, .str, .sl false [.str], .bool, .sl true QnT, .sl true CoT]
theorem t_Rul {g : GV} (h : ET true RuT g) : ∃ x : Rul, g = Ru x ∧ okRu x := by
 obtain ⟨gs, k1, k2⟩ := h
 rw [CTs] at k1
 obtain ⟨_, _, rfl, h1, k1⟩ := k1
 rw [CTs] at k1
 obtain ⟨_, _, rfl, h2, k1⟩ := k1
 rw [CTs] at k1
 obtain ⟨_, _, rfl, h3, k1⟩ := k1
 rw [CTs] at k1
 obtain ⟨_, _, rfl, h4, k1⟩ := k1
 rw [CTs] at k1
 obtain ⟨_, _, rfl, h5, k1⟩ := k1
 rw [CTs] at k1
 obtain ⟨_, _, rfl, h6, k1⟩ := k1
 simp only [CTs] at k1
 subst k1
 obtain ⟨l3, rfl, hl3⟩ := c_sl h3 fun e he => t_T he
 obtain ⟨l5, rfl, hl5⟩ := c_sl h5 fun e he => t_Eqn he
 obtain ⟨l6, rfl, hl6⟩ := c_sl h6 fun e he => t_Con he
 simp only [CT] at h1 h2 h4
 obtain ⟨a, rfl, ha⟩ := h1
 obtain ⟨b, rfl, hb⟩ := h2
 obtain ⟨c, rfl⟩ := h4
 exact ⟨⟨a, b, l3, c, l5, l6⟩, k2, ha, hb, hl3, hl5, hl6⟩
abbrev GrT : List Ty := [.sl true SyT, .sl true RuT]
theorem t_Gr {g : GV} (h : ET true GrT g) : ∃ x : Gram, g = Gr x ∧ okGr x := by
 obtain ⟨gs, k1, k2⟩ := h
 rw [CTs] at k1
 obtain ⟨_, _, rfl, h1, k1⟩ := k1
 rw [CTs] at k1
 obtain ⟨_, _, rfl, h2, k1⟩ := k1
 simp only [CTs] at k1
 subst k1
 obtain ⟨l1, rfl, hl1⟩ := c_sl h1 fun e he => t_Sym he
 obtain ⟨l2, rfl, hl2⟩ := c_sl h2 fun e he => t_Rul he
 exact ⟨⟨l1, l2⟩, k2, hl1, hl2⟩
end Go.Gh
/- Trees of a grammar; types of expressions. -/
namespace Go.Gh
set_option linter.unusedSimpArgs false
set_option linter.unusedVariables false
def gid (t : List Nod) (i : Nat) : Bool := decide (1 ≤ (t.getD i nodZ).id ∧ (t.getD i nodZ).id ≤ 999) && !((t.take i).any fun y => decide (y.id = (t.getD i nodZ).id))
def idsV (t : List Nod) : Bool := (List.range t.length).all (gid t)
theorem idsV_bad {t : List Nod} {i : Nat} (h : i < t.length) (hb : gid t i = false) : idsV t = false := by
 simp only [idsV, List.all_eq_false, List.mem_range]
 exact ⟨i, h, by simp [hb]⟩
theorem idsV_ok {t : List Nod} (h : ∀ j, j < t.length → gid t j = true) : idsV t = true := by
 simp only [idsV, List.all_eq_true, List.mem_range]
 exact h
def fitV (g : Gram) (x : Nod) (parent place : Int) (sym : ByteArray) : Bool :=
 hRul g.rules x.rule && decide ((fRul g.rules x.rule).left = sym) && decide (x.parent = parent) && decide (x.place = place) && decide (x.kids.length = (fRul g.rules x.rule).right.length) &&
 decide (-1000000 ≤ x.lit ∧ x.lit ≤ 1000000) && ((fRul g.rules x.rule).lit || decide (x.lit = 0))
def kidsW (w : Nat → Int → Int → ByteArray → Int) (i : Nat) : List Int → List ByteArray → Int → Int → Int
 | c :: cs, s :: ss, k, at' => if c ≠ at' then -1 else if w at'.toNat i (k + 1) s < 0 then -1 else kidsW w i cs ss (k + 1) (w at'.toNat i (k + 1) s)
 | _, _, _, at' => at'
def walkE (g : Gram) (t : List Nod) : Nat → Nat → Int → Int → ByteArray → Int
 | 0, _, _, _, _ => -1
 | f + 1, i, p, q, s => if i < t.length then
   if fitV g (t.getD i nodZ) p q s then kidsW (walkE g t f) i (t.getD i nodZ).kids (fRul g.rules (t.getD i nodZ).rule).right 0 (i + 1) else -1
  else -1
theorem kidsW_ge {w : Nat → Int → Int → ByteArray → Int} {n : Int} {i : Nat} (hw : ∀ a p q s, 0 ≤ w a p q s → (a : Int) < w a p q s ∧ w a p q s ≤ n) : ∀ (cs : List Int) (ss : List ByteArray) (k a : Int), 0 ≤ a → a ≤ n →
  kidsW w i cs ss k a = -1 ∨ (a ≤ kidsW w i cs ss k a ∧ kidsW w i cs ss k a ≤ n)
 | [], _, k, a, h0, h1 => by right; simp [kidsW]; omega
 | _ :: _, [], k, a, h0, h1 => by right; simp [kidsW]; omega
 | c :: cs, s :: ss, k, a, h0, h1 => by
  simp only [kidsW]
  split
  ·exact .inl rfl
  split
  ·exact .inl rfl
  ·rename_i h2
   have h3 := hw a.toNat i (k + 1) s (by omega)
   rcases kidsW_ge hw cs ss (k + 1) (w a.toNat i (k + 1) s) (by omega) h3.2 with h | h
   ·exact .inl h
   ·exact .inr (by omega)
theorem walkE_ge {g : Gram} {t : List Nod} : ∀ (f i : Nat) (p q : Int) (s : ByteArray), 0 ≤ walkE g t f i p q s → (i : Int) < walkE g t f i p q s ∧ walkE g t f i p q s ≤ t.length
 | 0, i, p, q, s, h => by simp [walkE] at h
 | f + 1, i, p, q, s, h => by
  simp only [walkE] at h ⊢
  split at h
  ·rename_i hi
   rw [if_pos hi]
   split at h
   ·rename_i hf
    rw [if_pos hf]
    rcases kidsW_ge (w := walkE g t f) (n := t.length) (i := i) (fun a p q s h => walkE_ge f a p q s h) (t.getD i nodZ).kids (fRul g.rules (t.getD i nodZ).rule).right 0 (i + 1) (by omega) (by omega) with h2 | h2
    ·rw [h2] at h; omega
    ·omega
   ·omega
  ·omega
theorem walkE_out {g : Gram} {t : List Nod} {f i : Nat} {p q : Int} {s : ByteArray} (h : t.length ≤ i) : walkE g t f i p q s = -1 := by
 cases f with
 | zero => rfl
 | succ f => simp only [walkE]; rw [if_neg (by omega)]
def treeOf (g : Gram) (t : List Nod) (s : ByteArray) : Bool := decide (1 ≤ t.length ∧ t.length ≤ 16) && (idsV t && decide (walkE g t t.length 0 (-1) 0 s = t.length))
theorem kidsW_step {w : Nat → Int → Int → ByteArray → Int} {i k : Nat} {cs : List Int} {ss : List ByteArray} {a : Int} (h1 : k < cs.length) (h2 : k < ss.length) :
  kidsW w i (cs.drop k) (ss.drop k) k a = if cs[k] ≠ a then -1 else if w a.toNat i ((k : Int) + 1) ss[k] < 0 then -1 else kidsW w i (cs.drop (k + 1)) (ss.drop (k + 1)) ((k + 1 : Nat) : Int) (w a.toNat i ((k : Int) + 1) ss[k]) := by
 rw [List.drop_eq_getElem_cons h1, List.drop_eq_getElem_cons h2, kidsW]
 simp only [Int.natCast_add, Int.natCast_one]
theorem kidsW_end {w : Nat → Int → Int → ByteArray → Int} {i k : Nat} {cs : List Int} {ss : List ByteArray} {a : Int} {p : Int} (h1 : cs.length ≤ k) : kidsW w i (cs.drop k) (ss.drop k) p a = a := by
 rw [List.drop_eq_nil_of_le h1]; cases ss.drop k <;> rfl
theorem fitV_iff {g : Gram} {x : Nod} {p q : Int} {s : ByteArray} : fitV g x p q s = true ↔ hRul g.rules x.rule = true ∧ (fRul g.rules x.rule).left = s ∧ x.parent = p ∧ x.place = q ∧ x.kids.length = (fRul g.rules x.rule).right.length ∧ (-1000000 ≤ x.lit ∧ x.lit ≤ 1000000) ∧
  ((fRul g.rules x.rule).lit = true ∨ (fRul g.rules x.rule).lit = false ∧ x.lit = 0) := by
 simp only [fitV, Bool.and_eq_true, decide_eq_true_eq, Bool.or_eq_true, and_assoc]
 cases (fRul g.rules x.rule).lit <;> simp
theorem okV1 (n : Int) : okV n 1 = decide (-1000000 ≤ n ∧ n ≤ 1000000) := by
 simp only [okV, coV, satV]
 by_cases h : -1000000 ≤ n ∧ n ≤ 1000000
 ·simp [h]; omega
 ·simp [h]; omega
theorem gid_f1 {t : List Nod} {i : Nat} (h : i < t.length) (hb : ¬ (1 ≤ t[i].id ∧ t[i].id ≤ 999)) : gid t i = false := by
 simp only [gid, getD_lt h, decide_eq_false hb, Bool.false_and]
theorem gid_f2 {t : List Nod} {i : Nat} (h : i < t.length) (hb : ((t.take i).any fun y => decide (y.id = t[i].id)) = true) : gid t i = false := by
 simp only [gid, getD_lt h, hb, Bool.not_true, Bool.and_false]
theorem gid_t {t : List Nod} {i : Nat} (h : i < t.length) (ha : 1 ≤ t[i].id ∧ t[i].id ≤ 999) (hb : ((t.take i).any fun y => decide (y.id = t[i].id)) = false) : gid t i = true := by
 simp only [gid, getD_lt h, decide_eq_true ha, hb, Bool.not_false, Bool.and_true]
def hasI (l : List Int) (x : Int) : Bool := l.any fun y => decide (y = x)
theorem hasI_hit {l : List Int} {x : Int} {i : Nat} (h : i < l.length) (e : l[i] = x) : hasI l x = true := by
 simp only [hasI, List.any_eq_true]; exact ⟨l[i], List.getElem_mem h, by simp [e]⟩
theorem hasI_none {l : List Int} {x : Int} (h : ∀ y ∈ l, decide (y = x) = false) : hasI l x = false := by
 simp only [hasI, List.any_eq_false]; intro y hy; simpa using h y hy
theorem hasI_map (t : List Nod) (x : Int) : hasI (t.map (·.id)) x = t.any fun y => decide (y.id = x) := by
 simp only [hasI, List.any_map]; rfl
def tyK (g : Gram) (r : Rul) (e : Exp) (ts : List Int) : Int :=
 if e.kind = 1 then e.type else
 if e.kind = 2 then (if r.lit then 1 else 0) else
 if e.kind = 3 then (attAt g r e.pos e.name).type else
 if e.kind = 4 then (if ts.length = 2 ∧ ts.getD 0 0 = (opT e.n).1 ∧ ts.getD 1 0 = (opT e.n).2.1 then (opT e.n).2.2 else 0) else
 if e.kind = 5 then (if ts.length = 3 ∧ ts.getD 0 0 = 3 ∧ ts.getD 1 0 = ts.getD 2 0 then ts.getD 1 0 else 0) else
 if e.kind = 6 then (if 0 ≤ e.pos ∧ e.pos ≤ r.right.length then 4 else 0) else
 if e.kind = 7 then 4 else
 if e.kind = 8 then (if ts.length = 1 ∧ ts.getD 0 0 = 4 then (fAtt (fSym g.syms e.sym).atts e.name).type else 0) else 0
mutual
def tyE (g : Gram) (r : Rul) : Exp → Int
 | .mk k n p t s m a => tyK g r (.mk k n p t s m a) (tyEL g r a)
def tyEL (g : Gram) (r : Rul) : List Exp → List Int
 | [] => []
 | e :: l => tyE g r e :: tyEL g r l
end
theorem tyEL_eq (g : Gram) (r : Rul) (l : List Exp) : tyEL g r l = l.map (tyE g r) := by
 induction l with
 | nil => rfl
 | cons e l ih => simp [tyEL, ih]
theorem tyE_eq (g : Gram) (r : Rul) (e : Exp) : tyE g r e = tyK g r e (e.args.map (tyE g r)) := by
 cases e; simp only [tyE, tyEL_eq]; rfl
end Go.Gh
namespace Go.Gh
theorem takeApp2 {α β : Type} (f : β → GV) (h : α → β) (l : List α) (i : Nat) (hi : i < l.length) : List.take i (List.map f (List.map h (List.take i l))) ++ [f (h l[i])] = List.map f (List.map h (List.take (i + 1) l)) := by
 have := takeApp (fun a => f (h a)) l i hi
 simp only [List.map_map]; exact this
theorem treeOf_bad {g : Gram} {t : List Nod} {s : ByteArray} (h : idsV t = false) : treeOf g t s = false := by
 simp only [treeOf, h, Bool.false_and, Bool.and_false]
theorem getDm {α : Type} {l : List α} {f : α → Int} {k : Nat} (h : k < l.length) : (l.map f).getD k 0 = f l[k] := by
 rw [getD_lt (by simpa using h), List.getElem_map]
theorem Bor.of_eq {H : GH} {g g' : GV} (h : g = g') : Bor H g g' := h ▸ Bor.refl
end Go.Gh
/- Valid expressions, and their values. -/
namespace Go.Gh
set_option linter.unusedSimpArgs false
set_option linter.unusedVariables false
def nodeV (e : Exp) : Bool :=
 decide (1 ≤ e.kind ∧ e.kind ≤ 8) && bareV e &&
 (if e.kind = 1 then decide (1 ≤ e.type ∧ e.type ≤ 3) && okV e.n e.type && decide (0 ≤ e.n) else
  if e.kind = 3 then decide (0 ≤ e.pos ∧ e.pos ≤ 3) && nameV e.name else
  if e.kind = 6 then decide (0 ≤ e.pos ∧ e.pos ≤ 3) else
  if e.kind = 4 then decide (1 ≤ e.n ∧ e.n ≤ 12) else
  if e.kind = 8 then nameV e.sym && nameV e.name else true)
def validE (e : Exp) : Bool := decide (cntE e ≤ 24) && decide (dpE e ≤ 6) && allE nodeV e
theorem allE_args {p : Exp → Bool} {e : Exp} (h : allE p e = true) : p e = true ∧ ∀ a ∈ e.args, allE p a = true := by
 rw [allE_eq, Bool.and_eq_true, List.all_eq_true] at h
 exact h
theorem nodeV_args {e : Exp} (h : nodeV e = true) : e.args.length = arity e.kind := by
 simp only [nodeV, bareV, Bool.and_eq_true, decide_eq_true_eq] at h
 exact h.1.2.1.1.1.1.1
theorem nodeV_pos {e : Exp} (h : nodeV e = true) : 0 ≤ e.pos := by
 simp only [nodeV, bareV, Bool.and_eq_true, Bool.or_eq_true, decide_eq_true_eq] at h
 obtain ⟨⟨h1, ⟨⟨⟨⟨⟨h2, h3⟩, h4⟩, h5⟩, h6⟩, h7⟩⟩, h8⟩ := h
 rcases h3 with (h3 | h3) | h3
 ·simp only [h3] at h8; simp at h8; exact h8.1.1
 ·simp only [h3] at h8; simp at h8; exact h8.1
 ·omega
def evK (sl : List Slo) (lit : Int) (ids : List Int) (e : Exp) (vs : List Int) : Int :=
 if e.kind = 1 then e.n else
 if e.kind = 2 then lit else
 if e.kind = 3 then slotValue sl (e.pos, e.name) else
 if e.kind = 4 then apV e.n (vs.getD 0 0) (vs.getD 1 0) else
 if e.kind = 5 then (if vs.getD 0 0 = 0 then vs.getD 2 0 else vs.getD 1 0) else
 if e.kind = 6 then (if e.pos < ids.length then ids.getD e.pos.toNat 0 else 0) else 0
mutual
def evE (sl : List Slo) (lit : Int) (ids : List Int) : Exp → Int
 | .mk k n p t s m a => evK sl lit ids (.mk k n p t s m a) (evEL sl lit ids a)
def evEL (sl : List Slo) (lit : Int) (ids : List Int) : List Exp → List Int
 | [] => []
 | e :: l => evE sl lit ids e :: evEL sl lit ids l
end
theorem evEL_eq (sl : List Slo) (lit : Int) (ids : List Int) (l : List Exp) : evEL sl lit ids l = l.map (evE sl lit ids) := by
 induction l with
 | nil => rfl
 | cons e l ih => simp [evEL, ih]
theorem evE_eq (sl : List Slo) (lit : Int) (ids : List Int) (e : Exp) : evE sl lit ids e = evK sl lit ids e (e.args.map (evE sl lit ids)) := by
 cases e; simp only [evE, evEL_eq]; rfl
theorem shp_iff' (l : List UInt8) : shp l = true ↔ 0 < l.length ∧ (∀ h : 0 < l.length, letV l[0] = true) ∧ ∀ (j : Nat) (h : j < l.length), letV l[j] = true ∨ digV l[j] = true := by
 rw [shp_iff]
 constructor
 ·rintro ⟨h1, h2⟩
  refine ⟨h1, fun h => ?_, fun j hj => ?_⟩
  ·rcases h2 0 h with h3 | h3
   ·exact h3
   ·exact absurd rfl h3.1
  ·rcases h2 j hj with h3 | h3
   ·exact .inl h3
   ·exact .inr h3.2
 ·rintro ⟨h1, h2, h3⟩
  refine ⟨h1, fun j hj => ?_⟩
  by_cases h0 : j = 0
  ·subst h0; exact .inl (h2 hj)
  ·rcases h3 j hj with h4 | h4
   ·exact .inl h4
   ·exact .inr ⟨h0, h4⟩
theorem shp_no {l : List UInt8} {i : Nat} (h : i < l.length) (h1 : letV l[i] = false) (h2 : digV l[i] = false) : shp l = false := by
 cases hs : shp l with
 | false => rfl
 | true =>
  rcases ((shp_iff' l).1 hs).2.2 i h with h3 | h3
  ·rw [h1] at h3; cases h3
  ·rw [h2] at h3; cases h3
theorem shp_no0 {l : List UInt8} (h : 0 < l.length) (h1 : letV l[0] = false) : shp l = false := by
 cases hs : shp l with
 | false => rfl
 | true =>
  have := ((shp_iff' l).1 hs).2.1 h
  rw [h1] at this; cases this
theorem shp_yes {l : List UInt8} (h : 0 < l.length) (h1 : letV l[0] = true) (hn : ∀ (j : Nat) (h : j < l.length), letV l[j] = true ∨ digV l[j] = true) : shp l = true := (shp_iff' l).2 ⟨h, fun _ => h1, hn⟩
end Go.Gh
namespace Go.Gh
theorem Bor.clo {H : GH} {f : Nat} {gs gs' : List GV} (h : BorL H gs gs') : Bor H (.clo f gs) (.clo f gs') := fun w D Ω v hst hm => by
 simp only [MV] at hm ⊢
 obtain ⟨h0, vs, h1, h2⟩ := hm
 exact ⟨h0, vs, h1, h w D Ω vs hst h2⟩
theorem Bor.rop {H : GH} {sz : Nat} {g g' : GV} (h : Bor H g g') : Bor H (.rop sz g) (.rop sz g') := fun w D Ω v hst hm => by
 simp only [MV] at hm ⊢
 obtain ⟨h0, b, off, u, h1, h2, h3, h4, h5, h6⟩ := hm
 exact ⟨h0, b, off, u, h1, .inl h2, h3, h4, h5, h w D Ω u hst h6⟩
theorem nameV_parts (s : ByteArray) : nameV s = (shp (chars s) && decide ((chars s).length ≤ 8) && !resV s) := rfl
theorem okV_rng {n t : Int} (h : okV n t = true) : 1 ≤ t ∧ t ≤ 4 := by
 simp only [okV, Bool.and_eq_true, decide_eq_true_eq] at h; exact h.1
theorem allE_no {p : Exp → Bool} {e : Exp} {i : Nat} (h : i < e.args.length) (hb : allE p e.args[i] = false) : allE p e = false := by
 rw [allE_eq]
 have : e.args.all (allE p) = false := by
  rw [List.all_eq_false]
  exact ⟨e.args[i], List.getElem_mem h, by simp [hb]⟩
 rw [this, Bool.and_false]
theorem allE_yes {p : Exp → Bool} {e : Exp} (h : ∀ a ∈ e.args, allE p a = true) : allE p e = p e := by
 rw [allE_eq, List.all_eq_true.2 h, Bool.and_true]
end Go.Gh
namespace Go.Gh
theorem noS_eq : (ByteArray.mk #[]) = noS := rfl
theorem upd_nf (gs : List GV) (o : Nat) : upd (.agg gs) o (.val .nilFunc) = if o < gs.length then some (.agg (gs.set o (.val .nilFunc))) else none := rfl
theorem stor_nf : storable (.val .nilFunc) = true := by simp [storable, Value.cells, Value.oneCell']
theorem gs_clo (f : Nat) (cs : List GV) : gsize (.clo f cs) = 1 := rfl
theorem cells_nf : gsize (.val .nilFunc) = 1 := rfl
end Go.Gh
/- Grammars of one's own. -/
namespace Go.Gh
set_option linter.unusedSimpArgs false
set_option linter.unusedVariables false
set_option maxRecDepth 20000
abbrev SyO (x : Sym) : GV := .agg [T x.name, .osl 4 (x.atts.map At)]
mutual
def ExO : Exp → GV
 | .mk k n p t s m a => .agg [I k, I n, I p, I t, T s, T m, .osl 7 (ExOL a)]
def ExOL : List Exp → List GV
 | [] => []
 | e :: l => ExO e :: ExOL l
end
theorem ExOL_eq (l : List Exp) : ExOL l = l.map ExO := by
 induction l with
 | nil => rfl
 | cons e l ih => simp [ExOL, ih]
theorem ExO_eq (e : Exp) : ExO e = .agg [I e.kind, I e.n, I e.pos, I e.type, T e.sym, T e.name, .osl 7 (e.args.map ExO)] := by
 cases e; simp only [ExO, ExOL_eq]; rfl
abbrev QnO (x : Eqn) : GV := .agg [I x.pos, T x.name, I x.expr.kind, I x.expr.n, I x.expr.pos, I x.expr.type, T x.expr.sym, T x.expr.name, .osl 7 (x.expr.args.map ExO)]
abbrev CoO (x : Con) : GV := .agg [T x.sym, T x.name, I x.goal.kind, I x.goal.n, I x.goal.pos, I x.goal.type, T x.goal.sym, T x.goal.name, .osl 7 (x.goal.args.map ExO), I x.value.kind, I x.value.n, I x.value.pos, I x.value.type, T x.value.sym, T x.value.name, .osl 7 (x.value.args.map ExO)]
abbrev RuO (x : Rul) : GV := .agg [T x.name, T x.left, .osl 1 (x.right.map T), B x.lit, .osl 9 (x.eqs.map QnO), .osl 16 (x.cons.map CoO)]
theorem view_ExO : ∀ e : Exp, view (ExO e) = Ex e := by
 refine Exp.indA fun e ih => ?_
 rw [ExO_eq, Ex_eq]
 have : (e.args.map ExO).map view = e.args.map Ex := by
  rw [List.map_map]; exact List.map_congr_left fun a ha => ih a ha
 simp [view, viewL, viewL_eq, this]
theorem view_QnO (x : Eqn) : view (QnO x) = Qn x := by simp [view, viewL, viewL_eq, view_ExO]
theorem view_CoO (x : Con) : view (CoO x) = Co x := by simp [view, viewL, viewL_eq, view_ExO]
theorem view_SyO (x : Sym) : view (SyO x) = Sy x := by simp [view, viewL, viewL_eq]
theorem view_RuO (x : Rul) : view (RuO x) = Ru x := by
 have h1 : (x.eqs.map QnO).map view = x.eqs.map Qn := by rw [List.map_map]; exact List.map_congr_left fun a _ => view_QnO a
 have h2 : (x.cons.map CoO).map view = x.cons.map Co := by rw [List.map_map]; exact List.map_congr_left fun a _ => view_CoO a
 simp only [view, viewL, viewL_eq, h1, h2]
 simp [view]
theorem Bor.seen {α : Type} {f g : α → GV} {H : GH} {r sz n : Nat} {l : List α} (hv : ∀ a, view (f a) = g a) (hr : hget H r = some (sz, l.map f)) (hl : l.length = n) : Bor H (.own r sz 0 n) (.sl sz (l.map g)) := by
 have := Bor.own (k := 0) (n := n) hr (by simp [hl])
 rw [List.drop_zero, List.take_of_length_le (by simp [hl]), viewL_eq, List.map_map] at this
 have e : l.map (view ∘ f) = l.map g := List.map_congr_left fun a _ => hv a
 rwa [e] at this
theorem bor_Gr {H : GH} {rs rr n m : Nat} {g : Gram} (h1 : hget H rs = some (2, g.syms.map SyO)) (h2 : hget H rr = some (6, g.rules.map RuO)) (hn : g.syms.length = n) (hm : g.rules.length = m) : Bor H (.agg [.own rs 2 0 n, .own rr 6 0 m]) (Gr g) :=
 .agg (.cons (Bor.seen view_SyO h1 hn) (.cons (Bor.seen view_RuO h2 hm) .nil))
theorem hget_appR {r : Nat} : ∀ {Rs H : GH}, r ∉ names Rs → hget (Rs ++ H) r = hget H r
 | [], _, _ => rfl
 | (q, x) :: Rs, H, h => by
  simp only [names, List.map_cons, List.mem_cons, not_or] at h
  simp only [List.cons_append, hget]
  rw [if_neg (fun e => h.1 e.symm)]
  exact hget_appR h.2
theorem hset_appR {r : Nat} {es : List GV} : ∀ {Rs H : GH}, r ∉ names Rs → hset (Rs ++ H) r es = Rs ++ hset H r es
 | [], _, _ => rfl
 | (q, sz, x) :: Rs, H, h => by
  simp only [names, List.map_cons, List.mem_cons, not_or] at h
  simp only [List.cons_append, hset]
  rw [if_neg (fun e => h.1 e.symm), hset_appR h.2]
section
variable {P : Program} {α : Type} {f : α → GV} {k kx sz : Nat} {ag : Bool}
theorem toSo1 (mxd : P.follows .mixedOrders = true) {bytes : Nat} {z : GV} (hF : IsFun P k ⟨⟨23, []⟩,
 (.seq (.reg [(.mk (some 2) none (.mov (.k (.val (.slice none 0 0)))))]) (.seq (.reg [(.mk (some 5) none (.mov (.t 0))), (.mk (some 6) none (.len (.t 5))), (.mk (some 7) none (.mkslice sz bytes z (.t 6) (.t 6))), (.mk (some 3) none (.mov (.t 7)))]) (.seq (.seq (.reg [(.mk (some 4) none (.mov (.k (.val (.int .i64 0)))))]) (.block 0 (.loop (.seq (.seq (.reg [(.mk (some 8)
 none (.mov (.t 4))), (.mk (some 9) none (.mov (.t 0))), (.mk (some 10) none (.len (.t 9))), (.mk (some 11) none (.bin .lss (.t 8) (.t 10)))]) (.cond 11 .skip (.exit 0))) (.seq (.block 1 (.reg [(.mk (some 14) none
 (.mov (.t 3))), (.mk (some 15) none (.mov (.t 4))), (.mk (some 16) none (.mov (.t 0))), (.mk (some 17) none (.mov (.t 4))), (.mk (some 18) none (.iaddr sz (.t 16) (.t 17))), (.mk (some 19) none (.load sz ag (.t 18))),
 (.mk (some 20) none (.call false kx [(.t 19)])), (.mk (some 21) none (.iaddr sz (.t 14) (.t 15))), (.mk none none (.store sz (.t 21) (.t 20)))])) (.reg [(.mk (some 12) none (.mov (.t 4))), (.mk (some 13) none (.bin .add
 (.t 12) (.k (.val (.int .i64 1))))), (.mk (some 4) none (.mov (.t 13)))])))))) (.seq (.reg [(.mk (some 22) none (.mov (.t 3))), (.mk (some 2) none (.mov (.t 22)))]) .ret)))), [.t 2]⟩)
  (hag : ∀ a, isAgg (f a) = ag) (hr : ∀ a, geR (some (f a)) = some (f a)) (j sz1 : Nat) (ks : α → List GV) (bs : α → Nat → List GV) (fO : α → List GV) (hbl : ∀ a r, (bs a r).length = sz) (hbj : ∀ a r, (bs a r)[j]? = some (.own r sz1 0 (ks a).length))
  (hO : ∀ a r, (bs a r).set j (.osl sz1 (ks a)) = fO a) (xs : List α) (hlen : xs.length ≤ 1048576) (hb : bytes ≤ 1024)
  (hx : ∀ a ∈ xs, ∀ H, GCalls P kx [f a] H (fun g H' => ∃ r, g = .agg (bs a r) ∧ H' = (r, sz1, ks a) :: H)) (H : GH) :
  GCalls P k [.sl sz (xs.map f)] H (fun g H' => ∃ r, g = .own r sz 0 xs.length ∧ H' = (r, sz, xs.map (fun a => .agg (fO a))) :: H) := by
 have hbb : (bytes : Int) * (xs.length : Int) ≤ 281474976710656 := by
  have h1 : bytes * xs.length ≤ 1073741824 := Nat.le_trans (Nat.mul_le_mul hb hlen) (by decide)
  have h2 : ((bytes * xs.length : Nat) : Int) ≤ 1073741824 := by omega
  rw [Int.natCast_mul] at h2
  omega
 refine gstart mxd hF rfl (by simp) ?_
 simp only [↓ S2, S2, ↓reduceIte, Nat.reduceEqDiff, reduceCtorEq, Nat.reduceLeDiff, Nat.reduceAdd, Nat.reduceLT, hr, hag]
 refine ⟨by omega, by omega, hbb, by omega, fun r hr' => ?_⟩
 refine wloop mxd (ι := { i : Nat // i ≤ xs.length }) (fun i => [(0, .sl sz (xs.map f)), (3, .own r sz 0 xs.length), (4, I i.1)]) (fun i => (r, sz, (xs.take i.1).map (fun a => .agg (fO a)) ++ List.replicate (xs.length - i.1) z) :: H) (fun i => xs.length - i.1) ⟨0, by simp⟩ (by simp [E2]) (by simp) ?_
 rintro ⟨i, hi⟩
 rcases Nat.lt_or_ge i xs.length with h | h
 ·simp only [↓ S2, S2, ↓reduceIte, Nat.reduceEqDiff, reduceCtorEq, Nat.reduceLeDiff, Nat.reduceAdd, Nat.reduceLT, hr, hag, brGen]
  simp +contextual (disch := omega) only [Z2]
  refine ⟨fun _ => ?_, fun hh => absurd h hh⟩
  refine callS.of (hx xs[i] (List.getElem_mem _) _) ?_
  rintro g H' ⟨r1, rfl, rfl⟩ hn
  have hne : r1 ≠ r := ne_of_new hn hget_new
  simp only [↓ S2, S2, ↓reduceIte, Nat.reduceEqDiff, reduceCtorEq, Nat.reduceLeDiff, Nat.reduceAdd, Nat.reduceLT, hr, hag, hbl, hget_old hne, hset_old hne, stw]
  simp +contextual (disch := omega) only [Z2]
  refine ⟨h, by simp; omega, nxF ⟨i + 1, by omega⟩ (by simp; omega) (FE.close2 (j := j) hne (by simp; omega) (hbj _ _) rfl) (by simp [E2]) ?_⟩
  rw [hO]
  have e := fill_set xs (fun a => GV.agg (fO a)) z i h
  rw [← e]
 ·have : i = xs.length := by omega
  subst this
  simp only [↓ S2, S2, ↓reduceIte, Nat.reduceEqDiff, reduceCtorEq, Nat.reduceLeDiff, Nat.reduceAdd, Nat.reduceLT, hr, hag, brGen]
  simp +contextual (disch := omega) only [Z2]
  exact ⟨fun hh => absurd hh (by omega), fun _ => ⟨r, rfl, by simp⟩⟩
theorem toSoN (mxd : P.follows .mixedOrders = true) {bytes : Nat} {z : GV} (hF : IsFun P k ⟨⟨23, []⟩,
 (.seq (.reg [(.mk (some 2) none (.mov (.k (.val (.slice none 0 0)))))]) (.seq (.reg [(.mk (some 5) none (.mov (.t 0))), (.mk (some 6) none (.len (.t 5))), (.mk (some 7) none (.mkslice sz bytes z (.t 6) (.t 6))), (.mk (some 3) none (.mov (.t 7)))]) (.seq (.seq (.reg [(.mk (some 4) none (.mov (.k (.val (.int .i64 0)))))]) (.block 0 (.loop (.seq (.seq (.reg [(.mk (some 8)
 none (.mov (.t 4))), (.mk (some 9) none (.mov (.t 0))), (.mk (some 10) none (.len (.t 9))), (.mk (some 11) none (.bin .lss (.t 8) (.t 10)))]) (.cond 11 .skip (.exit 0))) (.seq (.block 1 (.reg [(.mk (some 14) none
 (.mov (.t 3))), (.mk (some 15) none (.mov (.t 4))), (.mk (some 16) none (.mov (.t 0))), (.mk (some 17) none (.mov (.t 4))), (.mk (some 18) none (.iaddr sz (.t 16) (.t 17))), (.mk (some 19) none (.load sz ag (.t 18))),
 (.mk (some 20) none (.call false kx [(.t 19)])), (.mk (some 21) none (.iaddr sz (.t 14) (.t 15))), (.mk none none (.store sz (.t 21) (.t 20)))])) (.reg [(.mk (some 12) none (.mov (.t 4))), (.mk (some 13) none (.bin .add
 (.t 12) (.k (.val (.int .i64 1))))), (.mk (some 4) none (.mov (.t 13)))])))))) (.seq (.reg [(.mk (some 22) none (.mov (.t 3))), (.mk (some 2) none (.mov (.t 22)))]) .ret)))), [.t 2]⟩)
  (hag : ∀ a, isAgg (f a) = ag) (hr : ∀ a, geR (some (f a)) = some (f a)) (R : α → List GV → GH → Prop) (fO : α → List GV) (hbl : ∀ a gs Rs, R a gs Rs → gs.length = sz)
  (hcl : ∀ a gs Rs, R a gs Rs → ∀ (env : Env) (r : Nat) (L : List GV) (i : Nat) (H : GH), (names (Rs ++ (r, sz, L) :: H)).Nodup → i < L.length → FE env (Rs ++ (r, sz, L.set i (.agg gs)) :: H) env ((r, sz, L.set i (.agg (fO a))) :: H))
  (xs : List α) (hlen : xs.length ≤ 1048576) (hb : bytes ≤ 1024)
  (hx : ∀ a ∈ xs, ∀ H, GCalls P kx [f a] H (fun g H' => ∃ gs Rs, R a gs Rs ∧ g = .agg gs ∧ H' = Rs ++ H)) (H : GH) :
  GCalls P k [.sl sz (xs.map f)] H (fun g H' => ∃ r, g = .own r sz 0 xs.length ∧ H' = (r, sz, xs.map (fun a => .agg (fO a))) :: H) := by
 have hbb : (bytes : Int) * (xs.length : Int) ≤ 281474976710656 := by
  have h1 : bytes * xs.length ≤ 1073741824 := Nat.le_trans (Nat.mul_le_mul hb hlen) (by decide)
  have h2 : ((bytes * xs.length : Nat) : Int) ≤ 1073741824 := by omega
  rw [Int.natCast_mul] at h2
  omega
 refine gstart mxd hF rfl (by simp) ?_
 simp only [↓ S2, S2, ↓reduceIte, Nat.reduceEqDiff, reduceCtorEq, Nat.reduceLeDiff, Nat.reduceAdd, Nat.reduceLT, hr, hag]
 refine ⟨by omega, by omega, hbb, by omega, fun r hr' => ?_⟩
 refine wloop mxd (ι := { i : Nat // i ≤ xs.length }) (fun i => [(0, .sl sz (xs.map f)), (3, .own r sz 0 xs.length), (4, I i.1)]) (fun i => (r, sz, (xs.take i.1).map (fun a => .agg (fO a)) ++ List.replicate (xs.length - i.1) z) :: H) (fun i => xs.length - i.1) ⟨0, by simp⟩ (by simp [E2]) (by simp) ?_
 rintro ⟨i, hi⟩
 rcases Nat.lt_or_ge i xs.length with h | h
 ·simp only [↓ S2, S2, ↓reduceIte, Nat.reduceEqDiff, reduceCtorEq, Nat.reduceLeDiff, Nat.reduceAdd, Nat.reduceLT, hr, hag, brGen]
  simp +contextual (disch := omega) only [Z2]
  refine ⟨fun _ => ?_, fun hh => absurd h hh⟩
  refine callS.of (hx xs[i] (List.getElem_mem _) _) ?_
  rintro g H' ⟨gs, Rs, hR, rfl, rfl⟩ hn
  have hgl := hbl _ _ _ hR
  have hne : r ∉ names Rs := fun hin => by
   simp only [names, List.map_append, List.map_cons] at hn hin
   exact (List.nodup_append.1 hn).2.2 r hin r (by simp) rfl
  simp only [↓ S2, S2, ↓reduceIte, Nat.reduceEqDiff, reduceCtorEq, Nat.reduceLeDiff, Nat.reduceAdd, Nat.reduceLT, hr, hag, hgl, hget_appR hne, hset_appR hne, stw]
  simp +contextual (disch := omega) only [Z2]
  refine ⟨h, by simp; omega, nxF ⟨i + 1, by omega⟩ (by simp; omega) (hcl _ _ _ hR _ _ _ _ _ hn (by simp; omega)) (by simp [E2]) ?_⟩
  have e := fill_set xs (fun a => GV.agg (fO a)) z i h
  rw [← e]
 ·have : i = xs.length := by omega
  subst this
  simp only [↓ S2, S2, ↓reduceIte, Nat.reduceEqDiff, reduceCtorEq, Nat.reduceLeDiff, Nat.reduceAdd, Nat.reduceLT, hr, hag, brGen]
  simp +contextual (disch := omega) only [Z2]
  exact ⟨fun hh => absurd hh (by omega), fun _ => ⟨r, rfl, by simp⟩⟩
end
theorem FR.perm {g : GV} {H L T : GH} (hs : subH H L) : FR g (H ++ T) g (L ++ T) := by
 intro w D Ω v hv hst
 obtain ⟨Ω', h1, h2⟩ := St.sub hst hs
 exact ⟨D, Ω', hv, h1, ⟨fun _ h => h, fun _ _ h => .inl h, fun b hb _ => h2 b hb, Kept.refl _ _, rfl, rfl, rfl⟩⟩
end Go.Gh
/- Trees cut out of trees. -/
namespace Go.Gh
theorem FE.closeL {env : Env} {H : GH} {r r1 sz sz1 j n : Nat} {L gs ks : List GV} (hne : r ≠ r1) (hr : hget H r = some (sz, L ++ [.agg gs])) (hg : gs[j]? = some (.own r1 sz1 0 n)) (hr1 : hget H r1 = some (sz1, ks)) (hn : ks.length = n) :
  FE env H env (hdel (hset H r (L ++ [.agg (gs.set j (.osl sz1 ks))])) r1) := by
 have := FE.close (env := env) (i := L.length) hne hr (by simp) hg hr1 hn
 simpa using this
end Go.Gh
/- What the laws' marks are: lists marked one element after the other; expressions; instances; grammars. -/
namespace Go.Gh
set_option linter.unusedSimpArgs false
set_option linter.unusedVariables false
section
variable {α : Type} (w : α → Nat) (m : α → Int → α)
def smw : List α → Nat
 | [] => 0
 | a :: l => w a + smw l
def smk : List α → Int → List α
 | [], _ => []
 | a :: l, k => m a k :: smk l (k + w a)
theorem smk_len : ∀ (l : List α) (k : Int), (smk w m l k).length = l.length
 | [], _ => rfl
 | a :: l, k => by simp [smk, smk_len l]
theorem smw_app : ∀ (l u : List α), smw w (l ++ u) = smw w l + smw w u
 | [], u => by simp [smw]
 | a :: l, u => by simp [smw, smw_app l u]; omega
theorem smk_snoc : ∀ (l : List α) (k : Int) (x : α), smk w m (l ++ [x]) k = smk w m l k ++ [m x (k + smw w l)]
 | [], k, x => by simp [smk, smw]
 | a :: l, k, x => by
  have := smk_snoc l (k + w a) x
  have e : k + (w a : Int) + (smw w l : Int) = k + ((w a + smw w l : Nat) : Int) := by omega
  simp [smk, smw, this, e]
theorem smw_step {l : List α} {i : Nat} (h : i < l.length) : smw w (l.take (i + 1)) = smw w (l.take i) + w l[i] := by
 rw [List.take_add_one, List.getElem?_eq_getElem h, smw_app]; simp [smw]
theorem smw_take (l : List α) (i : Nat) : smw w (l.take i) ≤ smw w l := by
 have := smw_app w (l.take i) (l.drop i)
 rw [List.take_append_drop] at this
 omega
theorem smk_step {l : List α} {i : Nat} {k : Int} (h : i < l.length) : smk w m (l.take (i + 1)) k = smk w m (l.take i) k ++ [m l[i] (k + smw w (l.take i))] := by
 rw [List.take_add_one, List.getElem?_eq_getElem h]; exact smk_snoc w m _ _ _
theorem smid_get {l : List α} {k : Int} {i : Nat} (h : i < l.length) (h' : i < (smk w m (l.take i) k ++ l.drop i).length) : (smk w m (l.take i) k ++ l.drop i)[i] = l[i] := by
 rw [List.getElem_append_right (by simp [smk_len]; omega)]
 have e : i + (i - (smk w m (l.take i) k).length) = i := by simp [smk_len]; omega
 simp only [List.getElem_drop, e]
theorem smid_set {l : List α} {k : Int} {i : Nat} (h : i < l.length) : (smk w m (l.take i) k ++ l.drop i).set i (m l[i] (k + smw w (l.take i))) = smk w m (l.take (i + 1)) k ++ l.drop (i + 1) := by
 rw [List.set_append_right _ _ (by simp [smk_len]; omega), smk_step w m h]
 have e : i - (smk w m (l.take i) k).length = 0 := by simp [smk_len]; omega
 rw [e, List.drop_eq_getElem_cons h, List.set_cons_zero, List.append_assoc]
 rfl
theorem smid_len {l : List α} {k : Int} {i : Nat} : (smk w m (l.take i) k ++ l.drop i).length = l.length := by
 simp [smk_len]; omega
theorem smw_len (hw : ∀ a, 1 ≤ w a) : ∀ l : List α, l.length ≤ smw w l
 | [] => by simp
 | a :: l => by have := hw a; have := smw_len hw l; simp only [smw, List.length_cons]; omega
theorem smw_sum {f : α → Nat} (c : Nat) : ∀ {l : List α}, (∀ a ∈ l, w a ≤ c * (1 + f a)) → smw w l ≤ c * wtS f l
 | [], _ => by simp [smw]
 | a :: l, h => by
  have h1 := h a (by simp)
  have h2 := smw_sum (f := f) (l := l) c (fun b hb => h b (by simp [hb]))
  simp only [wtS, List.length_cons, List.map_cons, List.sum_cons, smw] at h2 ⊢
  have e : c * (l.length + 1 + (f a + (l.map f).sum)) = c * (1 + f a) + c * (l.length + (l.map f).sum) := by
   rw [← Nat.mul_add]; congr 1; omega
  omega
end
section
variable {α : Type} {f : α → α}
end
theorem St.exchC {w : World} {D : Nat → Prop} {H : GH} {Ω : List Nat} (h : St w D H Ω) {r sz i : Nat} {es : List GV} {e e' : GV} (hr : hget H r = some (sz, es)) (he : es[i]? = some e) (hx : ∀ v F, MV w D e v F → ∃ v', v'.cells = v.cells ∧ MV w D e' v' F) : St w D (hset H r (es.set i e')) Ω := by
 obtain ⟨Ω1, F', Ω2, hΩ, hR, hput, _⟩ := HM.take h.hm hr
 obtain ⟨b, c, T, fz, F0, k1, k2, k3, k4, k5, k6, k7⟩ := hR.es_ne (fun e => by rw [e] at he; simp at he)
 obtain ⟨pre, v, post, A1, Ai, A2, m1, m2, m3, m4, m5, m6, m7⟩ := MF.split sz es _ F0 i _ k7 he
 obtain ⟨v', hc, hv'⟩ := hx _ _ m6
 have hmf := m7 w D (fun _ => True) e' v' Ai (Kept.refl _ _) (fun _ _ => trivial) (fun _ h => h) (fun _ _ => trivial) (by rw [hc]; exact m3) (by unfold okc at m4 ⊢; rw [hc]; exact m4) hv'
 rw [hc, ← m1, ← m5] at hmf
 have hRM : RM w D r sz (es.set i e') F' := .inl ⟨b, c, T, fz, F0, k1, k2, k3, by simpa using k4, by simpa using k5, k6, by simpa using hmf⟩
 have hfin := hput w D (fun _ => True) _ _ (Kept.refl _ _) (fun _ _ => trivial) (fun _ h => h) (fun _ _ => trivial) hRM
 rw [← hΩ] at hfin
 exact ⟨hfin, h.nd, by rw [names_hset]; exact h.nn, h.dj, h.ds⟩
theorem FE.exchC {env : Env} {H : GH} {r sz i : Nat} {es : List GV} {e e' : GV} (hr : hget H r = some (sz, es)) (he : es[i]? = some e) (hx : ∀ w D v F, MV w D e v F → ∃ v', v'.cells = v.cells ∧ MV w D e' v' F) : FE env H env (hset H r (es.set i e')) := by
 intro w0 D0 O0 N a w ⟨hdf, hsz, D, Ω, ρw, hi⟩
 exact ⟨hdf, hsz, D, Ω, ρw, hi.st' (hi.st.exchC hr he (hx w D)) (fun _ h => h)⟩
theorem MV.unagg {w : World} {D : Nat → Prop} {g : GV} : ∀ v F, MV w D (.agg [g]) v F → ∃ v', v'.cells = v.cells ∧ MV w D g v' F := fun v F h => by
 simp only [MV] at h
 obtain ⟨vs, rfl, h1, h2⟩ := h
 simp only [ML] at h2
 obtain ⟨u, vs', F1, F2, rfl, rfl, h3, rfl, rfl⟩ := h2
 have ho := h1 u (by simp)
 refine ⟨u, ?_, by simpa using h3⟩
 cases u <;> first | rfl | (simp [Value.oneCell'] at ho)
theorem FE.unagg {env : Env} {H : GH} {r sz : Nat} {g : GV} (hr : hget H r = some (sz, [.agg [g]])) : FE env H env (hset H r [g]) :=
 FE.exchC (i := 0) hr rfl (fun _ _ => MV.unagg)
theorem FE.closeT {env : Env} {T : GH} {r r2 sz sz2 i j n : Nat} {L gs ks : List GV} (hne : r2 ≠ r) (hr : hget T r = some (sz, L.set i (.agg gs))) (hi : i < L.length) (hg : gs[j]? = some (.own r2 sz2 0 n)) (hn : ks.length = n) :
  FE env ((r2, sz2, ks) :: T) env (hset T r (L.set i (.agg (gs.set j (.osl sz2 ks))))) := by
 have := FE.close (env := env) (H := (r2, sz2, ks) :: T) (r := r) (r1 := r2) (i := i) (j := j) (Ne.symm hne) (by rw [hget_old hne]; exact hr) (List.getElem?_set_self hi) hg hget_new hn
 rwa [hset_old hne, hdel_new, List.set_set] at this
abbrev wS (_ : ByteArray) : Nat := 1
abbrev mkTx (_ : ByteArray) (k : Int) : ByteArray := mtext k
abbrev wI (_ : Int × ByteArray) : Nat := 2
abbrev wA (_ : Att) : Nat := 4
abbrev mkA (_ : Att) (k : Int) : Att := ⟨mtext k, k + 1, k + 1 + 1, decide ((k + 1 + 1 + 1).tmod 3 = 0)⟩
abbrev wSym (x : Sym) : Nat := 1 + smw wA x.atts
abbrev mkSym (x : Sym) (k : Int) : Sym := ⟨mtext k, smk wA mkA x.atts (k + 1)⟩
mutual
def ctE : Exp → Nat
 | .mk _ _ _ _ _ _ a => 6 + ctEL a
def ctEL : List Exp → Nat
 | [] => 0
 | e :: l => ctE e + ctEL l
end
theorem ctEL_eq (l : List Exp) : ctEL l = smw ctE l := by
 induction l with
 | nil => rfl
 | cons e l ih => simp [ctEL, smw, ih]
theorem ctE_eq (e : Exp) : ctE e = 6 + smw ctE e.args := by
 cases e; simp only [ctE, ctEL_eq]; rfl
mutual
def mkE : Exp → Int → Exp
 | .mk _ _ _ _ _ _ a, k => .mk k (k + 1) (k + 1 + 1) (k + 1 + 1 + 1) (mtext (k + 1 + 1 + 1 + 1)) (mtext (k + 1 + 1 + 1 + 1 + 1)) (mkEL a (k + 1 + 1 + 1 + 1 + 1 + 1))
def mkEL : List Exp → Int → List Exp
 | [], _ => []
 | e :: l, k => mkE e k :: mkEL l (k + ctE e)
end
theorem mkEL_eq : ∀ (l : List Exp) (k : Int), mkEL l k = smk ctE mkE l k
 | [], _ => rfl
 | e :: l, k => by simp [mkEL, smk, mkEL_eq l]
theorem mkE_eq (e : Exp) (k : Int) : mkE e k = .mk k (k + 1) (k + 1 + 1) (k + 1 + 1 + 1) (mtext (k + 1 + 1 + 1 + 1)) (mtext (k + 1 + 1 + 1 + 1 + 1)) (smk ctE mkE e.args (k + 1 + 1 + 1 + 1 + 1 + 1)) := by
 cases e; simp only [mkE, mkEL_eq]; rfl
theorem ctE_le : ∀ e : Exp, ctE e ≤ 6 * (1 + wEx e) := by
 refine Exp.indA fun e ih => ?_
 have h := smw_sum ctE (f := wEx) 6 ih
 rw [ctE_eq, wEx_eq]
 omega
abbrev wQ (x : Eqn) : Nat := 2 + ctE x.expr
abbrev mkQ (x : Eqn) (k : Int) : Eqn := ⟨k, mtext (k + 1), mkE x.expr (k + 1 + 1)⟩
abbrev wC (x : Con) : Nat := 2 + ctE x.goal + ctE x.value
abbrev mkC (x : Con) (k : Int) : Con := ⟨mtext k, mtext (k + 1), mkE x.goal (k + 1 + 1), mkE x.value (k + 1 + 1 + 1 + 1 + 1 + 1 + 1 + 1 + smw ctE x.goal.args)⟩
abbrev wR (x : Rul) : Nat := 3 + smw wS x.right + smw wQ x.eqs + smw wC x.cons
abbrev mkR (x : Rul) (k : Int) : Rul := ⟨mtext k, mtext (k + 1), smk wS mkTx x.right (k + 1 + 1), decide ((k + 1 + 1 + smw wS x.right).tmod 3 = 0), smk wQ mkQ x.eqs (k + 1 + 1 + smw wS x.right + 1), smk wC mkC x.cons (k + 1 + 1 + smw wS x.right + 1 + smw wQ x.eqs)⟩
end Go.Gh
/- A subtree of a tree replaced. -/
namespace Go.Gh
set_option linter.unusedSimpArgs false
set_option linter.unusedVariables false
theorem neN (r : Nat) (x : Nat × List GV) (H : GH) : (names ((r, x) :: H)).Nodup = (neA r H ∧ (names H).Nodup) := by
 apply propext
 constructor
 ·intro h
  have h2 := h
  simp only [names, List.map_cons, List.nodup_cons] at h2
  exact ⟨neA_of h2.1, h2.2⟩
 ·rintro ⟨h1, h2⟩
  simp only [names, List.map_cons, List.nodup_cons]
  refine ⟨?_, h2⟩
  clear h2
  induction H with
  | nil => simp
  | cons y H ih =>
   obtain ⟨q, y⟩ := y
   simp only [neA_cons] at h1
   simp only [List.map_cons, List.mem_cons, not_or]
   exact ⟨h1.1, ih h1.2.2⟩
theorem FE.closeL2 {env : Env} {H : GH} {r r1 sz sz1 j n : Nat} {L gs ks : List GV} (hne : ¬ r = r1) (hg : gs[j]? = some (.own r1 sz1 0 n)) (hn : ks.length = n) :
  FE env ((r, sz, L ++ [.agg gs]) :: (r1, sz1, ks) :: H) env ((r, sz, L ++ [.agg (gs.set j (.osl sz1 ks))]) :: H) := by
 have h := FE.closeL (env := env) (H := (r, sz, L ++ [.agg gs]) :: (r1, sz1, ks) :: H) (r := r) (r1 := r1) hne hget_new hg (by rw [hget_old hne, hget_new]) hn
 rwa [hset_new, hdel_old hne, hdel_new] at h
theorem Bor.ptr {H : GH} {r sz : Nat} {g : GV} (hr : hget H r = some (sz, [g])) : Bor H (.ptr r sz 0 0) (.rop sz (view g)) := fun w D Ω v h hv => by
 obtain ⟨F, hF, hFΩ⟩ := h.hm.mem hr
 simp only [MV] at hv ⊢
 obtain ⟨_, b, rfl, hb, rfl⟩ := hv
 rcases hF with ⟨b', c, T, fz, F', k1, k2, k3, k4, k5, k6, k7⟩ | ⟨k1, _, _⟩
 ·have : b' = b := by omega
  subst this
  simp only [MF] at k7
  obtain ⟨u, cs', F1, F2, e1, e2, e3, rfl, e5, rfl, rfl⟩ := k7
  refine ⟨trivial, b', 0, u, by simp, .inr (hFΩ _ (by simp [k6])), ⟨c, T, fz, k2, fun j x hj => ?_⟩, e3, e2, MV.view (fun _ => .inl) g u F1 (fun x hx => .inr (hFΩ x (by simp [k6, hx]))) e5⟩
  have e1' : c.toList.take (1 * sz) = u.cells.toList := by simpa using e1
  have h2 : (c.toList.take (1 * sz))[j]? = some x := by rw [e1']; exact hj
  rw [List.getElem?_take] at h2
  split at h2
  ·simpa using h2
  ·cases h2
 ·omega
theorem take_snocM {α β : Type} (f : α → β) {l : List α} {k : Nat} (h : k < l.length) : (l.take k).map f ++ [f l[k]] = (l.take (k + 1)).map f := by
 rw [List.take_add_one, List.getElem?_eq_getElem h, List.map_append]; rfl
theorem mkEnd_from (k : Int) (t : List Nod) : mkEnd k t = k - 1 + mkEnd 1 t := by
 rw [mkEnd_eq, mkEnd_eq]; omega
end Go.Gh
/- Instances of a tree: all of them. -/
namespace Go.Gh
set_option linter.unusedSimpArgs false
set_option linter.unusedVariables false
def insK (g : Gram) (t : List Nod) (i : Nat) : List (Int × ByteArray) := (fSym g.syms (symN g t i)).atts.map fun a => ((t.getD i nodZ).id, a.name)
def insA (g : Gram) (t : List Nod) : Nat → List (Int × ByteArray)
 | 0 => []
 | n + 1 => insA g t n ++ insK g t n
def insL (g : Gram) (t : List Nod) : List (Int × ByteArray) := if treeOf g t (symN g t 0) = true then insA g t t.length else []
theorem insA_len {g : Gram} (hg : smGr g) (t : List Nod) : ∀ n, (insA g t n).length ≤ n * 1048576
 | 0 => by simp [insA]
 | n + 1 => by
  have h1 := insA_len hg t n
  have h2 : (fSym g.syms (symN g t n)).atts.length ≤ 1048576 := smSy_f hg _
  simp only [insA, insK, List.length_append, List.length_map]
  omega
theorem treeOf_len {g : Gram} {t : List Nod} {s : ByteArray} (h : treeOf g t s = true) : 1 ≤ t.length ∧ t.length ≤ 16 := by
 simp only [treeOf, Bool.and_eq_true, decide_eq_true_eq] at h
 exact h.1
theorem insL_len {g : Gram} (hg : smGr g) (t : List Nod) : (insL g t).length ≤ 16777216 := by
 unfold insL
 split
 ·rename_i h
  have h1 := treeOf_len h
  have h2 := insA_len hg t t.length
  omega
 ·simp
theorem takeApp3 {α : Type} (f : α → GV) (p l : List α) (i : Nat) (h : i < l.length) (n : Nat) (hn : (p ++ l.take i).length = n) : List.take n (List.map f (p ++ List.take i l)) ++ [f l[i]] = List.map f (p ++ List.take (i + 1) l) := by
 rw [List.take_of_length_le (by simp at hn ⊢; omega), List.take_add_one (i := i) (l := l), List.getElem?_eq_getElem h, List.map_append, List.map_append, List.map_append, List.append_assoc]
 rfl
theorem wSym_le (x : Sym) : wSym x ≤ 14 * (1 + wSy x) := by
 have h := smw_sum wA (f := wAt) (l := x.atts) 14 (fun a _ => by simp only [wA]; omega)
 simp only [wSym, wSy]
 omega
theorem wR_le (x : Rul) : wR x ≤ 14 * (1 + wRu x) := by
 have h1 := smw_sum wS (f := wT) (l := x.right) 14 (fun a _ => by simp only [wS]; omega)
 have h2 := smw_sum wQ (f := wEq) (l := x.eqs) 14 (fun a _ => by have := ctE_le a.expr; simp only [wQ, wEq]; omega)
 have h3 := smw_sum wC (f := wCo) (l := x.cons) 14 (fun a _ => by have := ctE_le a.goal; have := ctE_le a.value; simp only [wC, wCo]; omega)
 simp only [wR, wRu]
 omega
theorem ctGr (g : Gram) : smw wSym g.syms + smw wR g.rules ≤ 14 * wGr g := by
 have h1 := smw_sum wSym (f := wSy) (l := g.syms) 14 (fun a _ => wSym_le a)
 have h2 := smw_sum wR (f := wRu) (l := g.rules) 14 (fun a _ => wR_le a)
 simp only [wGr]
 omega
theorem bor_Ins {H : GH} {r n : Nat} {l : List (Int × ByteArray)} (hr : hget H r = some (2, l.map Ins)) (hn : l.length = n) : Bor H (.own r 2 0 n) (InsS l) := Bor.allM (fun _ => rfl) hr hn
end Go.Gh
/- Definitions of instances. -/
namespace Go.Gh
set_option linter.unusedSimpArgs false
set_option linter.unusedVariables false
def expZ : Exp := .mk 0 0 0 0 noS noS []
def eqnF (r : Rul) (o : Int × ByteArray) : Option Eqn := r.eqs.find? fun q => decide (q.pos = o.1 ∧ q.name = o.2)
def eqnE (r : Rul) (o : Int × ByteArray) : Exp := ((eqnF r o).map (·.expr)).getD expZ
theorem eqnE_small {r : Rul} (hr : smRu r) (o : Int × ByteArray) : wEx (eqnE r o) ≤ 1048576 := by
 unfold eqnE eqnF
 cases h : r.eqs.find? fun q => decide (q.pos = o.1 ∧ q.name = o.2) with
 | none => simp [expZ, wEx, wExL, noS, chars]
 | some q => exact hr.2.2.2.1 q (List.mem_of_find?_eq_some h)
def ownN (g : Gram) (t : List Nod) (x : Int × ByteArray) : Int × Int :=
 if (attN g t x.1 x.2).mode = 1 then ((t.getD (ixOf (fun y => decide (y.id = x.1)) t).toNat nodZ).parent, (t.getD (ixOf (fun y => decide (y.id = x.1)) t).toNat nodZ).place) else (ixOf (fun y => decide (y.id = x.1)) t, 0)
def defB (g : Gram) (t : List Nod) (x : Int × ByteArray) : Bool :=
 hasN g t x.1 x.2 && (!decide ((attN g t x.1 x.2).mode = 3) && (decide (0 ≤ (ownN g t x).1 ∧ (ownN g t x).1 < t.length) && (eqnF (fRul g.rules (t.getD (ownN g t x).1.toNat nodZ).rule) ((ownN g t x).2, x.2)).isSome))
def defO (g : Gram) (t : List Nod) (x : Int × ByteArray) : Int := if defB g t x = true then (ownN g t x).1 else 0
def defE (g : Gram) (t : List Nod) (x : Int × ByteArray) : Exp := if defB g t x = true then eqnE (fRul g.rules (t.getD (ownN g t x).1.toNat nodZ).rule) ((ownN g t x).2, x.2) else expZ
theorem defE_small {g : Gram} (hg : smGr g) (t : List Nod) (x : Int × ByteArray) : wEx (defE g t x) ≤ 1048576 := by
 unfold defE
 split
 ·exact eqnE_small (smRu_f hg _) _
 ·simp [expZ, wEx, wExL, noS, chars]
abbrev DfG (o : Int) (e : Exp) : GV := .agg [I o, I e.kind, I e.n, I e.pos, I e.type, T e.sym, T e.name, ExS e.args]
theorem nilL_bor {H : GH} {r sz : Nat} : ∀ {l : List GV}, BorL H (l ++ [.val (.slice none 0 0)]) (l ++ [.own r sz 0 0])
 | [] => .cons .virt .nil
 | _ :: _ => .cons .refl nilL_bor
theorem bor_Df {H : GH} {q n : Nat} {o : Int} {e : Exp} (hr : hget H q = some (7, e.args.map ExO)) (hn : e.args.length = n) : Bor H (.agg [I o, I e.kind, I e.n, I e.pos, I e.type, T e.sym, T e.name, .own q 7 0 n]) (DfG o e) :=
 .agg (.cons .refl (.cons .refl (.cons .refl (.cons .refl (.cons .refl (.cons .refl (.cons .refl (.cons (Bor.seen view_ExO hr hn) .nil))))))))
theorem hasN_ix {g : Gram} {t : List Nod} {n : Int} {m : ByteArray} (h : hasN g t n m = true) : 0 ≤ ixOf (fun y => decide (y.id = n)) t ∧ ixOf (fun y => decide (y.id = n)) t < t.length := by
 unfold hasN at h
 split at h
 ·rcases ixOf_cases (fun y : Nod => decide (y.id = n)) t with h1 | h1
  ·omega
  ·exact h1
 ·cases h
end Go.Gh
/- The attributes that an expression uses. -/
namespace Go.Gh
set_option linter.unusedSimpArgs false
set_option linter.unusedVariables false
theorem Pure.froz {P : Program} {f : FuncId} {gs gs' : List GV} {R : GV → Prop} {H : GH} (h : Pure P f gs' R) (hb : BorL H gs gs') : GCalls P f gs H (fun g H' => R g ∧ H' = []) := by
 intro w D Ω args hst hargs
 have hds : ∀ b, (D b ∨ b ∈ Ω) → b < w.heap.size := fun b hb => hb.elim (hst.ds b) (HM.flt hst.hm b)
 refine Yld.mono (fun v w' ⟨g, H', D', Ω', k1, k2, k3, k4⟩ => ?_) (h w _ [] args (St.nil hds) (hb w D Ω args hst hargs))
 exact ⟨g, [], D', [], ⟨k1, rfl⟩, k2, St.nil k3.ds, ⟨fun b hb => k4.d0 b (.inl hb), fun b hl hD => (k4.dn b hl hD).elim (fun h => h) (fun h => by simp at h), fun b hb hl => by simp at hb,
  k4.kp.mono fun _ _ _ => by simp, k4.os, k4.tape, k4.output⟩⟩
abbrev Oc := Int × ByteArray
abbrev OcS (l : List Oc) : GV := .sl 2 (l.map Occ)
def ltN (a b : ByteArray) : Bool := Op.bytesLess (chars a) (chars b)
def ltO (a b : Oc) : Bool := decide (a.1 < b.1) || (decide (a.1 = b.1) && ltN a.2 b.2)
def atO : List Oc → Oc → Nat
 | [], _ => 0
 | a :: l, o => if ltO a o = true then atO l o + 1 else 0
def putO (l : List Oc) (o : Oc) : List Oc := if l[atO l o]? = some o then l else l.take (atO l o) ++ o :: l.drop (atO l o)
mutual
def usE : Exp → List Oc → List Oc
 | .mk k _ p _ _ m a, l => usEL a (if k = 3 then putO l (p, m) else l)
def usEL : List Exp → List Oc → List Oc
 | [], l => l
 | e :: r, l => usEL r (usE e l)
end
theorem usE_eq (e : Exp) (l : List Oc) : usE e l = usEL e.args (if e.kind = 3 then putO l (e.pos, e.name) else l) := by
 cases e; rfl
theorem usEL_step {al : List Exp} {i : Nat} (h : i < al.length) (l : List Oc) : usEL (al.take (i + 1)) l = usE al[i] (usEL (al.take i) l) := by
 have hs : ∀ (al : List Exp) (e : Exp) (l : List Oc), usEL (al ++ [e]) l = usE e (usEL al l) := by
  intro al e
  induction al with
  | nil => intro l; rfl
  | cons a al ih => intro l; exact ih _
 rw [List.take_add_one, List.getElem?_eq_getElem h]
 exact hs _ _ _
theorem atO_le : ∀ (l : List Oc) (o : Oc), atO l o ≤ l.length
 | [], _ => Nat.le_refl _
 | a :: l, o => by
  have := atO_le l o
  simp only [atO, List.length_cons]
  split <;> omega
theorem atO_of : ∀ {l : List Oc} {o : Oc} {i : Nat}, i ≤ l.length → (∀ a ∈ l.take i, ltO a o = true) → (∀ h : i < l.length, ltO l[i] o = false) → atO l o = i
 | [], _, i, h, _, _ => by simp at h; subst h; rfl
 | a :: l, o, 0, _, _, h2 => by
  have := h2 (by simp)
  simp only [List.getElem_cons_zero] at this
  simp [atO, this]
 | a :: l, o, i + 1, h, h1, h2 => by
  have ha := h1 a (by simp)
  have := atO_of (l := l) (o := o) (i := i) (by simpa using h) (fun b hb => h1 b (by simp [hb])) (fun hi => by have := h2 (by simpa using hi); simpa using this)
  simp [atO, ha, this]
theorem take_all_step {α : Type} {p : α → Bool} {l : List α} {i : Nat} (h : i < l.length) (hp : p l[i] = true) (hn : ∀ a ∈ l.take i, p a = true) : ∀ a ∈ l.take (i + 1), p a = true := by
 rw [List.take_add_one, List.getElem?_eq_getElem h]
 intro a ha
 rcases List.mem_append.1 ha with ha | ha
 ·exact hn a ha
 ·simp at ha; subst ha; exact hp
theorem putM {l : List Oc} {o : Oc} {i : Nat} (hi : i ≤ l.length) : List.take (min i l.length - Int.toNat 0 + 1) (List.take (min i l.length - Int.toNat 0) (List.drop (Int.toNat 0) (List.take i (List.map Occ l))) ++ [Occ o]) ++ List.drop i (List.take l.length (List.map Occ l)) = (l.take i ++ o :: l.drop i).map Occ := by
 have hm : min i l.length = i := by omega
 have h0 : Int.toNat 0 = 0 := rfl
 have a1 : List.take i (List.take i (List.map Occ l)) = (l.take i).map Occ := by rw [List.take_take, Nat.min_self, List.map_take]
 have a2 : List.take l.length (List.map Occ l) = List.map Occ l := List.take_of_length_le (by simp)
 rw [h0, hm, Nat.sub_zero, List.drop_zero, a1, a2, List.take_of_length_le (l := (l.take i).map Occ ++ [Occ o]) (by simp; omega), List.map_append, List.map_cons, List.map_drop, List.append_assoc]
 rfl
theorem putN {l : List Oc} {o : Oc} {i : Nat} (hi : i ≤ l.length) : min i l.length - Int.toNat 0 + 1 + (min l.length l.length - i) = (l.take i ++ o :: l.drop i).length := by
 have h0 : Int.toNat 0 = 0 := rfl
 rw [h0]; simp; omega
theorem putO_len (l : List Oc) (o : Oc) : (putO l o).length ≤ l.length + 1 := by
 unfold putO
 split
 ·omega
 ·have := atO_le l o
  simp; omega
theorem wExL_step {al : List Exp} {i : Nat} (h : i < al.length) : wExL (al.take (i + 1)) = wExL (al.take i) + wEx al[i] := by
 rw [wExL_eq, wExL_eq, List.take_add_one, List.getElem?_eq_getElem h]
 simp only [Option.toList_some, List.map_append, List.map_cons, List.map_nil, List.sum_append, List.sum_cons, List.sum_nil, Nat.add_zero]
theorem wExL_take (al : List Exp) (i : Nat) : wExL (al.take i) ≤ wExL al := by
 have := congrArg (fun l : List Exp => (l.map wEx).sum) (List.take_append_drop i al)
 simp only [List.map_append, List.sum_append] at this
 rw [wExL_eq, wExL_eq]
 omega
theorem wEx_args (e : Exp) : e.args.length + wExL e.args ≤ wEx e := by
 cases e; simp only [wEx, Exp.args]; omega
mutual
theorem usE_len : ∀ (e : Exp) (l : List Oc), (usE e l).length ≤ l.length + (1 + wEx e)
 | .mk k n p t s m a, l => by
  have h1 := usEL_len a (if k = 3 then putO l (p, m) else l)
  have h2 : (if k = 3 then putO l (p, m) else l).length ≤ l.length + 1 := by split; exact putO_len _ _; omega
  simp only [usE, wEx]
  omega
theorem usEL_len : ∀ (al : List Exp) (l : List Oc), (usEL al l).length ≤ l.length + (al.length + wExL al)
 | [], l => by simp [usEL, wExL]
 | e :: r, l => by
  have h1 := usE_len e l
  have h2 := usEL_len r (usE e l)
  simp only [usEL, wExL, List.length_cons]
  omega
end
end Go.Gh
/- The attributes that an expression uses: in order, once each. -/
namespace Go.Gh
set_option linter.unusedSimpArgs false
set_option linter.unusedVariables false
theorem ltN_eq (a b : ByteArray) : ltN a b = decide (chars a < chars b) := Proofs.bytesLess_eq _ _
theorem ltN_irr (a : ByteArray) : ltN a a = false := by
 rw [ltN_eq]; exact decide_eq_false (List.lt_irrefl _)
theorem ltN_trans {a b c : ByteArray} (h : ltN a b = true) (k : ltN b c = true) : ltN a c = true := by
 rw [ltN_eq, decide_eq_true_eq] at *; exact List.lt_trans h k
theorem ltN_tri {a b : ByteArray} (h : ltN a b = false) (k : ltN b a = false) : a = b := by
 rw [ltN_eq, decide_eq_false_iff_not] at *
 exact chars_inj.1 (List.le_antisymm (List.not_lt.1 k) (List.not_lt.1 h))
theorem ltO_iff {a b : Oc} : ltO a b = true ↔ a.1 < b.1 ∨ (a.1 = b.1 ∧ ltN a.2 b.2 = true) := by simp [ltO]
theorem ltO_irr (a : Oc) : ltO a a = false := by simp [ltO, ltN_irr]
theorem ltO_trans {a b c : Oc} (h : ltO a b = true) (k : ltO b c = true) : ltO a c = true := by
 rw [ltO_iff] at *
 rcases h with h | ⟨h1, h2⟩ <;> rcases k with k | ⟨k1, k2⟩
 ·exact .inl (by omega)
 ·exact .inl (by omega)
 ·exact .inl (by omega)
 ·exact .inr ⟨by omega, ltN_trans h2 k2⟩
theorem ltO_tri {a b : Oc} (h : ltO a b = false) (k : ltO b a = false) : a = b := by
 have h' : ¬ (a.1 < b.1 ∨ (a.1 = b.1 ∧ ltN a.2 b.2 = true)) := fun e => by rw [ltO_iff.2 e] at h; cases h
 have k' : ¬ (b.1 < a.1 ∨ (b.1 = a.1 ∧ ltN b.2 a.2 = true)) := fun e => by rw [ltO_iff.2 e] at k; cases k
 have e : a.1 = b.1 := by omega
 refine Prod.ext e (ltN_tri ?_ ?_)
 ·cases q : ltN a.2 b.2
  ·rfl
  ·exact absurd (.inr ⟨e, q⟩) h'
 ·cases q : ltN b.2 a.2
  ·rfl
  ·exact absurd (.inr ⟨e.symm, q⟩) k'
theorem ltO_asym {a b : Oc} (h : ltO a b = true) : ltO b a = false := by
 cases q : ltO b a
 ·rfl
 ·have := ltO_trans h q; rw [ltO_irr] at this; cases this
theorem ltO_swo : Sort.SWO ltO where
 irrefl := ltO_irr
 trans _ _ _ := ltO_trans
 ntrans x y z h k := by
  cases q : ltO x z
  ·rfl
  ·cases e : ltO y x
   ·rw [ltO_tri h e] at q; rw [q] at k; cases k
   ·have := ltO_trans e q; rw [this] at k; cases k
abbrev SSO (l : List Oc) : Prop := l.Pairwise fun a b => ltO a b = true
theorem SSO.ext : ∀ {l k : List Oc}, SSO l → SSO k → (∀ x, x ∈ l ↔ x ∈ k) → l = k
 | [], [], _, _, _ => rfl
 | [], b :: k, _, _, h => by have := (h b).2 (by simp); simp at this
 | a :: l, [], _, _, h => by have := (h a).1 (by simp); simp at this
 | a :: l, b :: k, h1, h2, h => by
  rw [SSO, List.pairwise_cons] at h1 h2
  have e : a = b := by
   rcases List.mem_cons.1 ((h a).1 (by simp)) with e | e
   ·exact e
   ·rcases List.mem_cons.1 ((h b).2 (by simp)) with e' | e'
    ·exact e'.symm
    ·have q1 := h2.1 a e
     have q2 := h1.1 b e'
     rw [ltO_asym q1] at q2; cases q2
  subst e
  congr 1
  refine SSO.ext h1.2 h2.2 fun x => ⟨fun hx => ?_, fun hx => ?_⟩
  ·rcases List.mem_cons.1 ((h x).1 (by simp [hx])) with e | e
   ·subst e; have := h1.1 _ hx; rw [ltO_irr] at this; cases this
   ·exact e
  ·rcases List.mem_cons.1 ((h x).2 (by simp [hx])) with e | e
   ·subst e; have := h2.1 _ hx; rw [ltO_irr] at this; cases this
   ·exact e
theorem putO_nil (o : Oc) : putO [] o = [o] := rfl
theorem putO_cons (a : Oc) (l : List Oc) (o : Oc) : putO (a :: l) o = if ltO a o = true then a :: putO l o else if a = o then a :: l else o :: a :: l := by
 unfold putO
 by_cases h : ltO a o = true
 ·simp only [atO, if_pos h, List.getElem?_cons_succ]
  split <;> rfl
 ·simp only [atO, if_neg h, List.getElem?_cons_zero, Option.some.injEq]
  split <;> simp
theorem putO_ss (o : Oc) : ∀ {l : List Oc}, SSO l → SSO (putO l o) ∧ ∀ x, x ∈ putO l o ↔ x ∈ l ∨ x = o
 | [], _ => by rw [putO_nil]; simp
 | a :: l, h => by
  rw [SSO, List.pairwise_cons] at h
  obtain ⟨i1, i2⟩ := putO_ss o h.2
  rw [putO_cons]
  by_cases h1 : ltO a o = true
  ·rw [if_pos h1]
   refine ⟨List.pairwise_cons.2 ⟨fun x hx => ?_, i1⟩, fun x => ?_⟩
   ·rcases (i2 x).1 hx with e | e
    ·exact h.1 x e
    ·rw [e]; exact h1
   ·simp only [List.mem_cons, i2 x, or_assoc]
  ·rw [if_neg h1]
   by_cases h2 : a = o
   ·rw [if_pos h2]
    exact ⟨List.pairwise_cons.2 h, fun x => ⟨.inl, fun e => e.elim id fun e => by simp [e, h2]⟩⟩
   ·rw [if_neg h2]
    have h3 : ltO o a = true := by
     cases q : ltO o a
     ·exact absurd (ltO_tri (by simpa using h1) q) h2
     ·rfl
    refine ⟨List.pairwise_cons.2 ⟨fun x hx => ?_, List.pairwise_cons.2 h⟩, fun x => ?_⟩
    ·rcases List.mem_cons.1 hx with e | e
     ·rw [e]; exact h3
     ·exact ltO_trans h3 (h.1 x e)
    ·simp only [List.mem_cons]; constructor
     ·rintro (e | e | e); exact .inr e; exact .inl (.inl e); exact .inl (.inr e)
     ·rintro ((e | e) | e); exact .inr (.inl e); exact .inr (.inr e); exact .inl e
mutual
def occE : Exp → List Oc
 | .mk k _ p _ _ m a => (if k = 3 then [(p, m)] else []) ++ occEL a
def occEL : List Exp → List Oc
 | [] => []
 | e :: r => occE e ++ occEL r
end
mutual
theorem usE_fold : ∀ (e : Exp) (l : List Oc), usE e l = (occE e).foldl putO l
 | .mk k _ p _ _ m a, l => by
  simp only [usE, occE, usEL_fold a, List.foldl_append]
  split <;> rfl
theorem usEL_fold : ∀ (al : List Exp) (l : List Oc), usEL al l = (occEL al).foldl putO l
 | [], l => rfl
 | e :: r, l => by simp only [usEL, occEL, usEL_fold r, usE_fold e, List.foldl_append]
end
theorem foldO_ss : ∀ (os : List Oc) {l : List Oc}, SSO l → SSO (os.foldl putO l) ∧ ∀ x, x ∈ os.foldl putO l ↔ x ∈ l ∨ x ∈ os
 | [], l, h => by simp [h]
 | o :: os, l, h => by
  obtain ⟨h1, h2⟩ := putO_ss o h
  obtain ⟨h3, h4⟩ := foldO_ss os h1
  refine ⟨h3, fun x => ?_⟩
  rw [List.foldl_cons, h4 x, h2 x, List.mem_cons, or_assoc]
def cpO (l : List Oc) : List Oc := l.foldl (fun acc x => if acc.getLast? = some x then acc else acc ++ [x]) []
theorem cpO_snoc (l : List Oc) (x : Oc) : cpO (l ++ [x]) = if (cpO l).getLast? = some x then cpO l else cpO l ++ [x] := by
 unfold cpO
 rw [List.foldl_append]
 rfl
theorem snocInd {α : Type} {p : List α → Prop} (h0 : p []) (h1 : ∀ l x, p l → p (l ++ [x])) (l : List α) : p l := by
 have key : ∀ r : List α, p r.reverse := fun r => by
  induction r with
  | nil => exact h0
  | cons a r ih => rw [List.reverse_cons]; exact h1 _ _ ih
 have := key l.reverse
 rwa [List.reverse_reverse] at this
theorem cpO_last (l : List Oc) : (cpO l).getLast? = l.getLast? := by
 refine snocInd (p := fun l => (cpO l).getLast? = l.getLast?) rfl (fun l x ih => ?_) l
 rw [cpO_snoc]
 split
 ·rename_i h; rw [h]; simp
 ·simp
theorem cpO_step (l : List Oc) (x : Oc) : cpO (l ++ [x]) = if l.getLast? = some x then cpO l else cpO l ++ [x] := by rw [cpO_snoc, cpO_last]
theorem cpO_mem (l : List Oc) : ∀ x, x ∈ cpO l ↔ x ∈ l := by
 refine snocInd (p := fun l => ∀ x, x ∈ cpO l ↔ x ∈ l) (fun x => Iff.rfl) (fun l y ih x => ?_) l
 rw [cpO_step]
 split
 ·rename_i h
  rw [ih x, List.mem_append, List.mem_singleton]
  exact ⟨.inl, fun e => e.elim id fun e => by rw [e]; exact List.mem_of_getLast? h⟩
 ·rw [List.mem_append, List.mem_append, ih x]
theorem cpO_ss (l : List Oc) : (l.Pairwise fun a b => ltO b a = false) → SSO (cpO l) := by
 refine snocInd (p := fun l => (l.Pairwise fun a b => ltO b a = false) → SSO (cpO l)) (fun _ => List.Pairwise.nil) (fun l y ih h => ?_) l
 rw [List.pairwise_append] at h
 obtain ⟨h1, _, h3⟩ := h
 rw [cpO_step]
 split
 ·exact ih h1
 ·rename_i hne
  refine List.pairwise_append.2 ⟨ih h1, List.pairwise_singleton _ _, fun a ha b hb => ?_⟩
  rw [List.mem_singleton] at hb
  subst hb
  have ha' := (cpO_mem l a).1 ha
  have q := h3 a ha' b (by simp)
  cases e : ltO a b
  ·exfalso
   have hab := ltO_tri e q
   subst hab
   obtain ⟨z, hz⟩ : ∃ z, l.getLast? = some z := by
    cases hl : l.getLast? with
    | none => rw [List.getLast?_eq_none_iff] at hl; subst hl; simp at ha'
    | some z => exact ⟨z, rfl⟩
   rw [hz] at hne
   have hz' := List.mem_of_getLast? hz
   have q2 := h3 z hz' a (by simp)
   have q3 : ltO z a = false := by
    obtain ⟨l', rfl⟩ : ∃ l', l = l' ++ [z] := by
     rcases List.eq_nil_or_concat l with e | ⟨l', b, e⟩
     ·subst e; simp at ha'
     ·refine ⟨l', ?_⟩
      rw [List.concat_eq_append] at e
      subst e
      simp at hz
      rw [hz]
    rw [List.pairwise_append] at h1
    rcases List.mem_append.1 ha' with e1 | e1
    ·exact h1.2.2 a e1 z (by simp)
    ·rw [List.mem_singleton] at e1; rw [e1]; exact ltO_irr z
   exact hne (by rw [ltO_tri q3 q2])
  ·rfl
abbrev srO (l : List Oc) : List Oc := l.mergeSort fun x y => !ltO y x
theorem srO_sorted (l : List Oc) : (srO l).Pairwise fun a b => ltO b a = false := by
 have h := List.pairwise_mergeSort (le := fun x y : Oc => !ltO y x)
  (fun a b c h k => by
   simp only [Bool.not_eq_true'] at h k ⊢
   exact ltO_swo.ntrans _ _ _ k h)
  (fun a b => by
   cases e : ltO b a
   ·simp
   ·simp [ltO_asym e]) l
 exact h.imp fun h => by simpa using h
theorem usE_cp (e : Exp) : cpO (srO (occE e)) = usE e [] := by
 rw [usE_fold]
 obtain ⟨h1, h2⟩ := foldO_ss (occE e) (l := []) List.Pairwise.nil
 refine SSO.ext (cpO_ss _ (srO_sorted _)) h1 fun x => ?_
 rw [cpO_mem, h2 x, (List.mergeSort_perm _ _).mem_iff]
 simp
theorem srO_len (l : List Oc) : (srO l).length = l.length := List.length_mergeSort _
mutual
theorem occE_len : ∀ e : Exp, (occE e).length ≤ 1 + wEx e
 | .mk k n p t s m a => by
  have h1 := occEL_len a
  simp only [occE, wEx, List.length_append]
  have h2 : (if k = 3 then [(p, m)] else []).length ≤ 1 := by split <;> simp
  omega
theorem occEL_len : ∀ al : List Exp, (occEL al).length ≤ al.length + wExL al
 | [] => by simp [occEL]
 | e :: r => by
  have h1 := occE_len e
  have h2 := occEL_len r
  simp only [occEL, wExL, List.length_cons, List.length_append]
  omega
end
theorem cpO_len (l : List Oc) : (cpO l).length ≤ l.length := by
 refine snocInd (p := fun l => (cpO l).length ≤ l.length) (Nat.le_refl _) (fun l x ih => ?_) l
 rw [cpO_step]
 split <;> simp <;> omega
theorem cpO_take {l : List Oc} {j : Nat} (h : j + 1 < l.length) : cpO (l.take (j + 2)) = if l[j + 1] = l[j] then cpO (l.take (j + 1)) else cpO (l.take (j + 1)) ++ [l[j + 1]] := by
 have e : l.take (j + 2) = l.take (j + 1) ++ [l[j + 1]] := by rw [List.take_add_one (i := j + 1), List.getElem?_eq_getElem h]; rfl
 have e2 : (l.take (j + 1)).getLast? = some l[j] := by
  rw [List.take_add_one, List.getElem?_eq_getElem (by omega : j < l.length), Option.toList_some, List.getLast?_append]
  rfl
 rw [e, cpO_step, e2]
 simp only [Option.some.injEq]
 by_cases hq : l[j] = l[j + 1]
 ·rw [if_pos hq, if_pos hq.symm]
 ·rw [if_neg hq, if_neg (fun e => hq e.symm)]
end Go.Gh
/- slices.SortFunc at occurrences: the kit's contract, over ghosts. A slice of own slices. -/
namespace Go.Gh
set_option linter.unusedSimpArgs false
set_option linter.unusedVariables false
open Go.Sort (HoldsK Holds flatK putRowK grow)
open Go.Proofs (sortWorldK)
def encO (o : Oc) : List Value := [.int .i64 o.1, .string o.2]
theorem encO_len (o : Oc) : (encO o).length = 2 := rfl
theorem encO_one (o : Oc) : ∀ v ∈ encO o, v.oneCell' = true := by
 intro v hv
 simp only [encO, List.mem_cons, List.not_mem_nil, or_false] at hv
 rcases hv with rfl | rfl <;> rfl
theorem MF_Occ {w : World} {D : Nat → Prop} : ∀ {l : List Oc} {cs : List Value} {F : List Nat}, MF w D 2 (l.map Occ) cs F → cs = l.flatMap encO ∧ F = []
 | [], cs, F, h => by simpa [MF] using h
 | o :: l, cs, F, h => by
  simp only [List.map_cons, MF] at h
  obtain ⟨v, cs', F1, F2, h1, h2, h3, h4, h5, h6⟩ := h
  obtain ⟨e1, e2⟩ := MF_Occ h6
  simp only [MV, ML] at h5
  obtain ⟨vs, rfl, _, u1, us, G1, G2, rfl, rfl, ⟨rfl, rfl⟩, u2, us2, G3, G4, rfl, rfl, ⟨rfl, rfl⟩, rfl, rfl⟩ := h5
  subst e1 e2 h1 h4
  exact ⟨rfl, rfl⟩
theorem Occ_MF (w : World) (D : Nat → Prop) : ∀ l : List Oc, MF w D 2 (l.map Occ) (l.flatMap encO) []
 | [] => by simp [MF]
 | o :: l => by
  simp only [List.map_cons, MF]
  refine ⟨.agg (encO o).toArray, l.flatMap encO, [], [], rfl, rfl, ?_, rfl, ?_, Occ_MF w D l⟩
  ·intro x hx
   exact encO_one o x (by simpa [Value.cells] using hx)
  ·simp only [MV, ML]
   exact ⟨encO o, rfl, encO_one o, _, _, [], [], rfl, rfl, ⟨rfl, rfl⟩, _, _, [], [], rfl, rfl, ⟨rfl, rfl⟩, rfl, rfl⟩
theorem flat_len : ∀ l : List Oc, (l.flatMap encO).length = l.length * 2
 | [] => rfl
 | o :: l => by simp only [List.flatMap_cons, List.length_append, flat_len l, List.length_cons, encO_len]; omega
theorem flat_get : ∀ (l : List Oc) (t : Nat), t < l.length * 2 → (l.flatMap encO)[t]? = some ((encO l[t / 2]!)[t % 2]!)
 | [], t, h => by simp at h
 | o :: l, t, h => by
  simp only [List.flatMap_cons]
  match t, h with
  | 0, _ => rfl
  | 1, _ => rfl
  | t + 2, h =>
   have e1 : (t + 2) / 2 = t / 2 + 1 := by omega
   have e2 : (t + 2) % 2 = t % 2 := by omega
   rw [List.getElem?_append_right (by simp [encO_len]), e1, e2, encO_len, Nat.add_sub_cancel, flat_get l t (by simp at h; omega)]
   simp
theorem flatK_toList (l : List Oc) : (flatK encO 2 l.toArray).toList = l.flatMap encO := by
 refine List.ext_getElem? fun t => ?_
 rcases Nat.lt_or_ge t (l.length * 2) with h | h
 ·rw [flat_get l t h]
  have h' : t < (flatK encO 2 l.toArray).size := by simpa using h
  rw [Array.getElem?_toList, Array.getElem?_eq_getElem h', ← getElem!_pos (flatK encO 2 l.toArray) t h', Sort.get_flatK _ _ _ _ (by simpa using h)]
  simp
 ·rw [List.getElem?_eq_none (l := l.flatMap encO) (by rw [flat_len]; exact h), List.getElem?_eq_none (by simpa using h)]
theorem St.putO {w w' : World} {D : Nat → Prop} {H : GH} {Ω : List Nat} (h : St w D H Ω) {r : Nat} {l l' : List Oc} (hr : hget H r = some (2, l.map Occ)) (hl : l'.length = l.length) (hk : Kept w w' (fun x => r ≠ 2 * x))
  (hos : w'.os = w.os) (htp : w'.tape = w.tape) (hou : w'.output = w.output)
  (hb : ∀ b c T fz, r = 2 * b → w.heap[b]? = some (Obj.cells c T fz) → Thaw c fz → l.length * 2 ≤ c.size → ∃ c', w'.heap[b]? = some (Obj.cells c' T fz) ∧ c'.size = c.size ∧ c'.toList.take (l.length * 2) = l'.flatMap encO) :
  ∃ Ω', St w' D (hset H r (l'.map Occ)) Ω' ∧ Ev w D Ω w' D Ω' := by
 obtain ⟨Ω1, F, Ω2, hΩ, hR, hput, _⟩ := HM.take h.hm hr
 have hDr : ∀ b, F = [b] → r = 2 * b → ∀ x, D x → r ≠ 2 * x := fun b hF e x hx e' => by
  have : x = b := by omega
  subst this
  exact h.dj x (by rw [hΩ, hF]; simp) hx
 rcases hR with ⟨b, c, T, fz, F', k1, k2, k3, k4, k5, k6, k7⟩ | ⟨k1, k2, k3⟩
 ·rw [List.length_map] at k4 k5 k7
  obtain ⟨c', c1, c2, c3⟩ := hb b c T fz k1 k2 k3 k4
  obtain ⟨_, e0⟩ := MF_Occ k7
  subst e0
  subst k6 hΩ
  have hnd := h.nd
  have hbΩ : b ∈ Ω1 ++ ([b] ++ Ω2) := by simp
  have hb1 : ∀ x ∈ Ω1 ++ Ω2, r ≠ 2 * x := fun x hx e => by
   have : x = b := by omega
   subst this
   simp only [List.nodup_append, List.nodup_cons, List.mem_append, List.mem_cons, List.cons_append] at hnd hx
   rcases hx with hx | hx
   ·exact hnd.2.2 _ hx _ (.inl rfl) rfl
   ·exact hnd.2.1.1 (by simpa using hx)
  refine ⟨Ω1 ++ ([b] ++ Ω2), ⟨hput w' D (fun x => r ≠ 2 * x) _ _ hk (hDr b rfl k1) (fun _ h => h) hb1 ?_, hnd, by rw [names_hset]; exact h.nn, h.dj, fun x hx => Nat.lt_of_lt_of_le (h.ds x hx) hk.size⟩,
   ⟨fun _ h => h, fun _ _ h => .inl h, fun x hx _ => hx, hk.mono ?_, hos, htp, hou⟩⟩
  ·refine .inl ⟨b, c', T, fz, [], k1, c1, ?_, by rw [List.length_map, hl, c2]; exact k4, by rw [List.length_map, hl]; exact k5, rfl, ?_⟩
   ·unfold Thaw at *; rw [c2]; exact k3
   ·rw [List.length_map, hl, c3]; exact Occ_MF w' D l'
  ·intro x _ hx e
   have : x = b := by omega
   subst this
   exact hx hbΩ
 ·have e0 : l = [] := by simpa using k2
  subst e0 k3 hΩ
  have e1 : l' = [] := List.eq_nil_of_length_eq_zero hl
  subst e1
  have hne : ∀ x : Nat, r ≠ 2 * x := fun x e => by omega
  exact ⟨_, ⟨hput w' D (fun x => r ≠ 2 * x) _ [] hk (fun x _ => hne x) (fun _ h => h) (fun x _ => hne x) (.inr ⟨⟨k1.1, fun h4 h5 => (k1.2 h4 h5).keep hk (fun x _ => hne x) (fun _ h => h)⟩, rfl, rfl⟩), h.nd, by rw [names_hset]; exact h.nn, h.dj, fun x hx => Nat.lt_of_lt_of_le (h.ds x hx) hk.size⟩,
   ⟨fun _ h => h, fun _ _ h => .inl h, fun x hx _ => hx, hk.mono fun x _ _ => hne x, hos, htp, hou⟩⟩
theorem kept_sort {w : World} {b n : Nat} {dk : Array Oc} {os : Array Obj} : Kept w (sortWorldK encO 2 w b 0 n dk os) (fun x => x ≠ b) := by
 have hsz : (putRowK encO 2 (Sort.ahead w n) b 0 dk).heap.size = w.heap.size := by simp [putRowK, Sort.putRow, Sort.mapBlock, Sort.ahead]
 have hget : ∀ x, x < w.heap.size → (sortWorldK encO 2 w b 0 n dk os).heap[x]? = (putRowK encO 2 (Sort.ahead w n) b 0 dk).heap[x]? := fun x hx => by
  show ((putRowK encO 2 (Sort.ahead w n) b 0 dk).heap ++ os)[x]? = _
  rw [Array.getElem?_append_left (by rw [hsz]; exact hx)]
 refine ⟨fun x hx hne => ?_, ?_, fun x c T fz hx => ?_⟩
 ·rw [hget x hx]
  simp only [putRowK, Sort.putRow, Sort.mapBlock, Sort.ahead, Array.getElem?_modify]
  rw [if_neg (fun e => hne e.symm)]
 ·show w.heap.size ≤ ((putRowK encO 2 (Sort.ahead w n) b 0 dk).heap ++ os).size
  rw [Array.size_append, hsz]; omega
 ·rw [hget x (lt_of_heap hx)]
  simp only [putRowK, Sort.putRow, Sort.mapBlock, Sort.ahead, Array.getElem?_modify]
  by_cases e : b = x
  ·subst e
   simp only [if_true, hx, Option.map_some, Sort.onCells]
   exact ⟨_, _, rfl, by simp [Sort.putCells]⟩
  ·rw [if_neg e]; exact ⟨c, fz, hx, rfl⟩
theorem cells_sort {w : World} {b n : Nat} {dk : List Oc} {os : Array Obj} {c : Array Value} {T : TypeId} {fz : Nat × Nat} (hx : w.heap[b]? = some (.cells c T fz)) (hs : dk.length * 2 ≤ c.size) :
  ∃ c', (sortWorldK encO 2 w b 0 n dk.toArray os).heap[b]? = some (.cells c' T fz) ∧ c'.size = c.size ∧ c'.toList.take (dk.length * 2) = dk.flatMap encO := by
 have hsz : (putRowK encO 2 (Sort.ahead w n) b 0 dk.toArray).heap.size = w.heap.size := by simp [putRowK, Sort.putRow, Sort.mapBlock, Sort.ahead]
 have e : (sortWorldK encO 2 w b 0 n dk.toArray os).heap[b]? = (putRowK encO 2 (Sort.ahead w n) b 0 dk.toArray).heap[b]? := by
  show ((putRowK encO 2 (Sort.ahead w n) b 0 dk.toArray).heap ++ os)[b]? = _
  rw [Array.getElem?_append_left (by rw [hsz]; exact lt_of_heap hx)]
 rw [e]
 simp only [putRowK, Sort.putRow, Sort.mapBlock, Sort.ahead, Array.getElem?_modify, if_true, hx, Option.map_some, Sort.onCells]
 refine ⟨_, rfl, by simp [Sort.putCells], ?_⟩
 rw [← flatK_toList]
 refine List.ext_getElem? fun t => ?_
 rcases Nat.lt_or_ge t (dk.length * 2) with h | h
 ·have h1 : t < c.size := by omega
  have h' : t < (flatK encO 2 dk.toArray).size := by simpa using h
  rw [List.getElem?_take_of_lt h, Array.getElem?_toList, Array.getElem?_toList, Array.getElem?_eq_getElem h']
  simp only [Sort.putCells, Array.getElem?_mapIdx, Array.getElem?_eq_getElem h1, Option.map_some]
  rw [if_pos ⟨Nat.zero_le _, by simpa using h⟩, Nat.sub_zero, getElem!_pos (flatK encO 2 dk.toArray) t h']
  rfl
 ·rw [List.getElem?_eq_none (by simp; omega), List.getElem?_eq_none (by simpa using h)]
theorem sort_ok {P : Program} {fs g : Nat} (hc : ∀ (w : World) (b cap : Nat) (d : Array Oc), HoldsK encO 2 w b 0 d → b < w.heap.size → d.size < 4611686018427387904 →
      Calls P fs #[.slice (some ⟨b, 0, none⟩) d.size cap, .func (.func g) #[] #[]] w fun e w' => e = .returned (.tuple #[]) ∧ ∃ n os, w' = sortWorldK encO 2 w b 0 n (srO d.toList).toArray os)
    (h0 : ∀ (p : Option Addr) (cap : Nat) (fv : Value) (w : World), Calls P fs #[.slice p 0 cap, fv] w fun e w' => e = .returned (.tuple #[]) ∧ w' = w)
    (eg : ∀ args w, (callFunc fs args).run P w = .ok (.enter fs args) w)
    {r n : Nat} {l : List Oc} {H : GH} (hr : hget H r = some (2, l.map Occ)) (hn : l.length = n) (hb : n < 4611686018427387904) :
    GCalls P fs [.own r 2 0 n, .clo g []] H (fun v H' => v = uG ∧ H' = hset H r ((srO l).map Occ)) := by
  intro w D Ω args hst hargs
  simp only [ML] at hargs
  obtain ⟨v1, vs1, F1, F2, rfl, e1, hv1, v2, vs2, F3, F4, rfl, e2, hv2, rfl, e3⟩ := hargs
  simp only [MV, ML] at hv1 hv2
  obtain ⟨rfl, hv1⟩ := hv1
  obtain ⟨rfl, vs, rfl, rfl, _⟩ := hv2
  rw [eg]
  show Calls P fs _ w _
  by_cases hz : n = 0
  · have e0 : l = [] := List.eq_nil_of_length_eq_zero (by omega)
    subst e0
    have hH : hset H r ((srO []).map Occ) = H := by
      have : srO [] = [] := by simp [srO]
      rw [this]; exact hset_self hr
    have key : ∀ p cap, v1 = .slice p 0 cap → Calls P fs #[v1, .func (.func g) #[] #[]] w (fun e w'' => ∃ v, e = .returned v ∧ Post w D Ω (fun v H' => v = uG ∧ H' = hset H r ((srO []).map Occ)) v w'') := fun p cap e => by
      subst e
      refine (h0 p cap _ w).mono ?_
      rintro e w' ⟨rfl, rfl⟩
      exact ⟨_, rfl, Post.here hst ⟨rfl, hH.symm⟩ (MV.val_mk _)⟩
    rcases hv1 with ⟨b, cap, c, T, fz, q0, hp, _⟩ | ⟨_, a, hp⟩
    · rw [hz] at hp; exact key _ _ hp
    · exact key _ _ hp
  · rcases hv1 with ⟨b, cap, c, T, fz, q0, hp, q1, q2, q3⟩ | ⟨q, _⟩
    case inr => exact absurd q hz
    rw [Nat.zero_mul] at hp
    subst hp
    obtain ⟨F, hF, hFΩ⟩ := hst.hm.mem hr
    obtain ⟨b', c', T', fz', F', k1, k2, k3, k4, k5, k6, k7⟩ := hF.es_ne (fun e => by
      have : l = [] := by simpa using e
      subst this; exact hz (by simpa using hn.symm))
    have : b' = b := by omega
    subst this
    rw [q2] at k2
    simp only [Option.some.injEq, Obj.cells.injEq] at k2
    obtain ⟨rfl, rfl, rfl⟩ := k2
    rw [List.length_map] at k4 k7
    obtain ⟨hcs, _⟩ := MF_Occ k7
    have hH : HoldsK encO 2 w b' 0 l.toArray := by
      intro j hj
      have hj' : j < l.length * 2 := by simpa using hj
      have hjc : j < c.size := by omega
      have hx := flat_get l j hj'
      rw [← hcs, List.getElem?_take_of_lt hj', Array.getElem?_toList] at hx
      refine ⟨?_, ?_⟩
      · rw [Nat.zero_add]
        simp only [World.cell?, q2, Option.isSome_none, Bool.false_eq_true, if_false, hx, id]
        rw [Sort.get_flatK _ _ _ _ (by simpa using hj')]
        simp
      · rw [Nat.zero_add]
        simp only [World.frozen?, q2]
        exact k3 j hjc
    have hcall := hc w b' cap l.toArray hH (lt_of_heap q2) (by simpa [hn] using hb)
    have hsz : l.toArray.size = n := by simpa using hn
    rw [hsz] at hcall
    refine hcall.mono ?_
    rintro e w' ⟨rfl, m, os, rfl⟩
    have hkp : Kept w (sortWorldK encO 2 w b' 0 m (srO l).toArray os) (fun x => r ≠ 2 * x) := (kept_sort (b := b')).mono fun x _ hx e => hx (by omega)
    obtain ⟨Ω', c1, c2⟩ := hst.putO (l' := srO l) hr (srO_len l) hkp rfl rfl rfl (fun b c2 T2 fz2 e1 e2 _ hs => by
      have : b = b' := by omega
      subst this
      rw [q2] at e2
      simp only [Option.some.injEq, Obj.cells.injEq] at e2
      obtain ⟨rfl, rfl, rfl⟩ := e2
      have := cells_sort (n := m) (dk := srO l) (os := os) q2 (by rw [srO_len]; exact hs)
      rwa [srO_len] at this)
    exact ⟨_, rfl, _, _, D, Ω', ⟨rfl, rfl⟩, MV.val_mk _, c1, c2⟩
theorem hget_hset_ne {r q : Nat} {es : List GV} (h : r ≠ q) : ∀ {H : GH}, hget (hset H r es) q = hget H q
 | [] => rfl
 | (p, sz, fs) :: H => by
  simp only [hset]
  by_cases h1 : p = r
  ·rw [if_pos h1, hget, hget, if_neg (by omega), if_neg (by omega)]
  ·rw [if_neg h1, hget, hget, hget_hset_ne h]
theorem MV.agg1 {w : World} {D : Nat → Prop} {r sz k n : Nat} : ∀ v F, MV w D (.own r sz k n) v F → ∃ v', v'.cells = v.cells ∧ MV w D (.agg [.own r sz k n]) v' F := fun v F h => by
 have hs : ∃ a m c, v = .slice a m c := by
  simp only [MV] at h
  rcases h.2 with ⟨b, cap, c, T, fz, _, hp, _⟩ | ⟨_, a, hp⟩
  ·exact ⟨_, _, _, hp⟩
  ·exact ⟨_, _, _, hp⟩
 obtain ⟨a, m, c, rfl⟩ := hs
 refine ⟨.agg #[.slice a m c], rfl, ?_⟩
 have hF : F = [] := by simp only [MV] at h; exact h.1
 subst hF
 rw [MV]
 refine ⟨[.slice a m c], rfl, by simp [Value.oneCell'], ?_⟩
 rw [ML]
 exact ⟨_, _, [], [], rfl, rfl, h, by simp [ML]⟩
theorem FE.closeE {env : Env} {H : GH} {r r1 sz sz1 i n : Nat} {es ks : List GV} (hne : r ≠ r1) (hr : hget H r = some (sz, es)) (he : es[i]? = some (.own r1 sz1 0 n)) (hr1 : hget H r1 = some (sz1, ks)) (hn : ks.length = n) :
  FE env H env (hdel (hset H r (es.set i (.osl sz1 ks))) r1) := by
 have hi : i < es.length := by
  rcases Nat.lt_or_ge i es.length with h | h
  ·exact h
  ·rw [List.getElem?_eq_none h] at he; cases he
 have h1 := FE.exchC (env := env) (i := i) (e' := .agg [.own r1 sz1 0 n]) hr he (fun _ _ => MV.agg1)
 have h2 := FE.close (env := env) (H := hset H r (es.set i (.agg [.own r1 sz1 0 n]))) (r := r) (r1 := r1) (i := i) (j := 0) hne (by rw [hget_set hr]) (List.getElem?_set_self hi) rfl (by rw [hget_hset_ne hne]; exact hr1) hn
 have h3 := FE.exchC (env := env) (H := hdel (hset (hset H r (es.set i (.agg [.own r1 sz1 0 n]))) r ((es.set i (.agg [.own r1 sz1 0 n])).set i (.agg [.osl sz1 ks]))) r1) (r := r) (i := i) (e' := .osl sz1 ks) (by rw [hget_hdel hne, hset_set, hget_set hr]) (List.getElem?_set_self (by simpa using hi)) (fun _ _ => MV.unagg)
 refine FE.trans h1 (FE.trans h2 ?_)
 rw [hset_hdel hne, hset_set, hset_set, List.set_set, List.set_set] at h3
 rw [hset_set, List.set_set]
 exact h3
theorem FE.closeE2 {env : Env} {H : GH} {r r1 sz sz1 n : Nat} {L ks : List GV} (hne : ¬ r = r1) (hn : ks.length = n) :
  FE env ((r, sz, L ++ [.own r1 sz1 0 n]) :: (r1, sz1, ks) :: H) env ((r, sz, L ++ [.osl sz1 ks]) :: H) := by
 have h := FE.closeE (env := env) (H := (r, sz, L ++ [.own r1 sz1 0 n]) :: (r1, sz1, ks) :: H) (r := r) (r1 := r1) (sz1 := sz1) (ks := ks) (n := n) (i := L.length) hne hget_new (by simp) (by rw [hget_old hne, hget_new]) hn
 rw [hset_new, hdel_old hne, hdel_new] at h
 simpa using h
open Go.Proofs (ltOf)
theorem ltS_or (x y : ByteArray) : (Op.bytesLess x.data.toList y.data.toList || x.data.toList == y.data.toList) = !ltN y x := by
 have h := ltN_irr x
 cases e1 : ltN x y
 ·cases e2 : ltN y x
  ·have := ltN_tri e1 e2
   subst this
   simp
  ·have e3 : Op.bytesLess x.data.toList y.data.toList = false := e1
   rw [e3]
   simp only [Bool.false_or, Bool.not_true, beq_eq_false_iff_ne]
   intro e4
   have : x = y := chars_inj.1 e4
   subst this
   rw [h] at e2; cases e2
 ·have e2 : ltN y x = false := by
   cases q : ltN y x
   ·rfl
   ·have := ltN_trans e1 q; rw [h] at this; cases this
  have e3 : Op.bytesLess x.data.toList y.data.toList = true := e1
  rw [e3, e2]; rfl
theorem cellA (W : World) (cs : Array Value) (T : TypeId) (i : Nat) : (W.alloc (.cells cs T)).cell? ⟨W.heap.size, i, none⟩ = cs[i]? := by
 simp only [World.cell?, hp_new]; rfl
theorem cellB (W : World) (o : Obj) (b i : Nat) (h : b < W.heap.size) : (W.alloc o).cell? ⟨b, i, none⟩ = W.cell? ⟨b, i, none⟩ := by
 simp only [World.cell?, hp_old _ _ _ h]
theorem cell1a (W : World) (v0 v1 : Value) (T : TypeId) : ((W.alloc (.cells #[v0, v1] T)).drew).cell? ⟨W.heap.size, 0, none⟩ = some v0 := cellA W _ T 0
theorem cell1b (W : World) (v0 v1 : Value) (T : TypeId) : ((W.alloc (.cells #[v0, v1] T)).drew).cell? ⟨W.heap.size, 1, none⟩ = some v1 := cellA W _ T 1
theorem sizeA (W : World) (o : Obj) : (W.alloc o).heap.size = W.heap.size + 1 := by simp
def cfO (x y : Oc) : Int := if (if x.1 < y.1 then (-1 : Int) else if y.1 < x.1 then 1 else 0) ≠ 0 then (if x.1 < y.1 then -1 else if y.1 < x.1 then 1 else 0) else if ltN x.2 y.2 = true then -1 else if ltN y.2 x.2 = true then 1 else 0
theorem cfO_lt (x y : Oc) : ltOf cfO x y = ltO x y := by
 unfold ltOf cfO ltO
 by_cases h1 : x.1 < y.1
 ·simp [h1]
 ·by_cases h2 : y.1 < x.1
  ·have : ¬ x.1 = y.1 := by omega
   simp [h1, h2, this]
  ·have : x.1 = y.1 := by omega
   cases e1 : ltN x.2 y.2
   ·cases e2 : ltN y.2 x.2 <;> simp [h1, h2, this, e1, e2]
   ·simp [h1, h2, this, e1]
theorem cfO_eq : ltOf cfO = ltO := funext fun x => funext fun y => cfO_lt x y
end Go.Gh
/- Checks of a grammar. -/
namespace Go.Gh
set_option linter.unusedSimpArgs false
set_option linter.unusedVariables false
def firstI (n : Nat) (p : Nat → Bool) : Int := match (List.range n).find? p with
 | some i => i
 | none => -1
theorem firstI_hit {n i : Nat} {p : Nat → Bool} (h : i < n) (hp : p i = true) (hn : ∀ j, j < i → p j = false) : firstI n p = i := by
 have e : (List.range n).find? p = some i := by
  rw [List.find?_range_eq_some]
  exact ⟨hp, by simpa using h, fun j hj => by simp [hn j hj]⟩
 simp [firstI, e]
theorem firstI_none {n : Nat} {p : Nat → Bool} (hn : ∀ j, j < n → p j = false) : firstI n p = -1 := by
 have e : (List.range n).find? p = none := by
  rw [List.find?_eq_none]
  intro j hj
  rw [hn j (by simpa using hj)]
  simp
 simp [firstI, e]
theorem firstI_rng (n : Nat) (p : Nat → Bool) : firstI n p = -1 ∨ (0 ≤ firstI n p ∧ firstI n p < n) := by
 unfold firstI
 cases e : (List.range n).find? p with
 | none => exact .inl rfl
 | some i =>
  have := List.mem_of_find?_eq_some e
  simp at this
  refine .inr ⟨?_, ?_⟩
  ·show (0 : Int) ≤ (i : Int)
   omega
  ·show (i : Int) < n
   omega
theorem firstI_no {n : Nat} {p : Nat → Bool} (h : firstI n p = -1) {j : Nat} (hj : j < n) : p j = false := by
 unfold firstI at h
 cases e : (List.range n).find? p with
 | none =>
  rw [List.find?_eq_none] at e
  simpa using e j (by simpa using hj)
 | some i =>
  rw [e] at h
  have h' : (i : Int) = -1 := h
  omega
theorem lt_step {p : Nat → Bool} {i : Nat} {b : Bool} (h : p i = b) (hn : ∀ j, j < i → p j = b) : ∀ j, j < i + 1 → p j = b := fun j hj => by
 rcases Nat.lt_succ_iff_lt_or_eq.1 hj with e | e
 ·exact hn j e
 ·rw [e]; exact h
theorem rngAll_no {n i : Nat} {p : Nat → Bool} (h : i < n) (hp : p i = false) : (List.range n).all p = false := by
 rw [List.all_eq_false]
 exact ⟨i, by simpa using h, by simp [hp]⟩
theorem rngAll_yes {n : Nat} {p : Nat → Bool} (h : ∀ j, j < n → p j = true) : (List.range n).all p = true := by
 rw [List.all_eq_true]
 intro j hj
 exact h j (by simpa using hj)
theorem all_no {α : Type} {p : α → Bool} {l : List α} {i : Nat} (h : i < l.length) (hp : p l[i] = false) : l.all p = false := by
 rw [List.all_eq_false]
 exact ⟨l[i], List.getElem_mem h, by simp [hp]⟩
theorem any_yes {α : Type} {p : α → Bool} {l : List α} {i : Nat} (h : i < l.length) (hp : p l[i] = true) : l.any p = true := by
 rw [List.any_eq_true]
 exact ⟨l[i], List.getElem_mem h, hp⟩
theorem all_yes {α : Type} {p : α → Bool} {l : List α} (h : ∀ a ∈ l, p a = true) : l.all p = true := List.all_eq_true.2 h
theorem any_no {α : Type} {p : α → Bool} {l : List α} (h : ∀ a ∈ l, p a = false) : l.any p = false := by
 rw [List.any_eq_false]
 intro a ha
 rw [h a ha]; simp
theorem takeP_step {α : Type} {p : α → Bool} {l : List α} {i : Nat} {b : Bool} (h : i < l.length) (hp : p l[i] = b) (hn : ∀ a ∈ l.take i, p a = b) : ∀ a ∈ l.take (i + 1), p a = b := by
 intro a ha
 rw [List.take_add_one, List.getElem?_eq_getElem h, Option.toList_some, List.mem_append] at ha
 rcases ha with ha | ha
 ·exact hn a ha
 ·simp only [List.mem_singleton] at ha; rw [ha]; exact hp
def attV (a : Att) : Bool := nameV a.name && (decide (1 ≤ a.type ∧ a.type ≤ 4) && (decide (1 ≤ a.mode ∧ a.mode ≤ 3) && (if a.mode = 3 then decide (a.type = 2) && !a.circ else !a.circ || decide (a.type = 2))))
def dupA (l : List Att) (i : Nat) : Bool := (l.take i).any fun o => decide (o.name = (l.getD i attZ).name)
def symV (s : Sym) : Bool := s.atts.all attV && ((List.range s.atts.length).all fun i => !dupA s.atts i) && (nameV s.name && decide (s.atts.length ≤ 4))
def fitE (e : Exp) (n : Int) : Bool := validE e && allE (fun x => decide (x.pos ≤ n)) e
def eqnV (n : Nat) (q : Eqn) : Bool := fitE q.expr n && (nameV q.name && decide (0 ≤ q.pos ∧ q.pos ≤ n))
def conV (n : Nat) (c : Con) : Bool := fitE c.goal n && (fitE c.value n && (nameV c.sym && nameV c.name))
def rulV (r : Rul) : Bool := nameV r.name && (nameV r.left && (decide (r.right.length ≤ 3) && (decide (r.cons.length ≤ 2) && (r.right.all nameV && (r.eqs.all (eqnV r.right.length) && r.cons.all (conV r.right.length))))))
def symB (g : Gram) (i : Nat) : Bool := !symV (g.syms.getD i symZ) || (g.syms.take i).any fun o => decide (o.name = (g.syms.getD i symZ).name)
def rulB (g : Gram) (i : Nat) : Bool := !rulV (g.rules.getD i rulZ) || (g.rules.take i).any fun o => decide (o.name = (g.rules.getD i rulZ).name)
def sfI (g : Gram) : Int := if 0 ≤ firstI g.syms.length (symB g) then firstI g.syms.length (symB g) else firstI g.rules.length (rulB g)
def reqP (g : Gram) (r : Rul) (pos : Nat) : List Oc := ((fSym g.syms (symAt r pos)).atts.filter fun a => decide (a.mode = if pos = 0 then 2 else 1)).map fun a => ((pos : Int), a.name)
def reqA (g : Gram) (r : Rul) : Nat → List Oc
 | 0 => []
 | n + 1 => reqA g r n ++ reqP g r n
def reqO (g : Gram) (r : Rul) : List Oc := reqA g r (r.right.length + 1)
def mayU (g : Gram) (r : Rul) (o : Oc) : Bool := hasAt g r o.1 o.2 && decide ((attAt g r o.1 o.2).mode = if o.1 = 0 then 1 else 2)
def unkR (g : Gram) (r : Rul) : Bool := !((List.range (r.right.length + 1)).all fun pos => hSym g.syms (symAt r pos))
def misR (g : Gram) (r : Rul) : Bool := (reqO g r).any fun o => !(eqnF r o).isSome
def hasO (l : List Oc) (o : Oc) : Bool := l.any fun y => decide (y = o)
def atQ (q : Eqn) : Oc := (q.pos, q.name)
def extR (g : Gram) (r : Rul) : Bool := !((List.range r.eqs.length).all fun i => hasO (reqO g r) ((r.eqs.map atQ).getD i (0, noS)) && !hasO ((r.eqs.map atQ).take i) ((r.eqs.map atQ).getD i (0, noS)))
def useB (g : Gram) (r : Rul) (e : Exp) : Bool := (usE e []).any fun o => !mayU g r o
def expR (r : Rul) : List Exp := r.eqs.map (·.expr) ++ r.cons.flatMap fun c => [c.goal, c.value]
def misU (g : Gram) (r : Rul) : Bool := (expR r).any (useB g r)
def brk (g : Gram) (r : Rul) (c : Nat) : Bool := if c = 3 then unkR g r else if c = 4 then misR g r else if c = 5 then extR g r else misU g r
def brF (g : Gram) (c : Nat) : Int := firstI g.rules.length fun i => brk g (g.rules.getD i rulZ) c
def shpC (g : Gram) : Int × Int :=
 if ¬ ((1 ≤ g.syms.length ∧ g.syms.length ≤ 4) ∧ (1 ≤ g.rules.length ∧ g.rules.length ≤ 8)) then (1, 0)
 else if 0 ≤ sfI g then (1, sfI g)
 else if ((g.syms.getD 0 symZ).atts.any fun a => decide (a.mode = 1)) = true then (2, 0)
 else if 0 ≤ brF g 3 then (3, brF g 3) else if 0 ≤ brF g 4 then (4, brF g 4) else if 0 ≤ brF g 5 then (5, brF g 5) else if 0 ≤ brF g 6 then (6, brF g 6) else (0, 0)
def misT (g : Gram) (r : Rul) : Bool := (r.eqs.any fun q => !decide (tyE g r q.expr = (attAt g r q.pos q.name).type)) ||
 r.cons.any fun c => !decide (tyE g r c.goal = 4) || (!decide (tyE g r c.value = 2) || !decide ((fAtt (fSym g.syms c.sym).atts c.name).mode = 3))
def hOf (g : Gram) (out : List Int) (n : ByteArray) : Int := if ixOf (fun s : Sym => decide (s.name = n)) g.syms < 0 then 0 else out.getD (ixOf (fun s : Sym => decide (s.name = n)) g.syms).toNat 0
def rchR (g : Gram) (out : List Int) (s : ByteArray) (r : Rul) : Bool := decide (r.left = s) && r.right.all fun c => decide (0 < hOf g out c)
def rchS (g : Gram) (out : List Int) (s : ByteArray) : Bool := g.rules.any (rchR g out s)
def hNext (g : Gram) (round : Int) (out : List Int) (i : Nat) : Int := if 0 < out.getD i 0 then out.getD i 0 else if rchS g out (g.syms.getD i symZ).name then round else out.getD i 0
def hIt (g : Gram) : Nat → List Int
 | 0 => List.replicate g.syms.length 0
 | k + 1 => (List.range g.syms.length).map (hNext g ((k : Int) + 1) (hIt g k))
def hgts (g : Gram) : List Int := hIt g g.syms.length
def minH (g : Gram) (n : ByteArray) : Int := hOf g (hgts g) n
theorem hIt_len (g : Gram) : ∀ k, (hIt g k).length = g.syms.length
 | 0 => by simp [hIt]
 | k + 1 => by simp [hIt]
theorem hIt_nn (g : Gram) : ∀ k, ∀ x ∈ hIt g k, 0 ≤ x
 | 0, x, h => by simp [hIt] at h; omega
 | k + 1, x, h => by
  simp only [hIt, List.mem_map, List.mem_range] at h
  obtain ⟨i, hi, rfl⟩ := h
  have hg : 0 ≤ (hIt g k).getD i 0 := by
   rw [getD_lt (by rw [hIt_len]; exact hi)]
   exact hIt_nn g k _ (List.getElem_mem _)
  simp only [hNext]
  split
  ·exact hg
  ·split
   ·omega
   ·exact hg
def tyF (g : Gram) : Int := firstI g.rules.length fun i => misT g (g.rules.getD i rulZ)
def emF (g : Gram) : Int := firstI g.syms.length fun i => decide ((hgts g).getD i 0 = 0)
def chkG (g : Gram) : Int × Int :=
 if (shpC g).1 ≠ 0 then shpC g else if 0 ≤ tyF g then (7, tyF g) else if 0 ≤ emF g then (8, emF g) else (0, 0)
def accG (g : Gram) : Bool := decide ((chkG g).1 = 0)
end Go.Gh
/- Inputs of instances; orders and cycles. -/
namespace Go.Gh
set_option linter.unusedSimpArgs false
set_option linter.unusedVariables false
def stF (t : List Nod) (o : Int) (u : Oc) : Option Oc := if (instAt t o u).2 = true then some (instAt t o u).1 else none
def stI (g : Gram) (t : List Nod) (x : Oc) : List Oc := (usE (defE g t x) []).filterMap (stF t (defO g t x))
theorem stI_no {g : Gram} {t : List Nod} {x : Oc} (h : defB g t x = false) : stI g t x = [] := by
 have : defE g t x = expZ := by simp [defE, h]
 simp [stI, this, expZ, usE, usEL]
theorem stI_len {g : Gram} (hg : smGr g) (t : List Nod) (x : Oc) : (stI g t x).length ≤ 2097152 := by
 have h1 := List.length_filterMap_le (stF t (defO g t x)) (usE (defE g t x) [])
 have h2 := usE_len (defE g t x) []
 have h3 := defE_small hg t x
 simp only [stI]
 simp only [List.length_nil] at h2
 omega
theorem usE_sm {e : Exp} (h : wEx e ≤ 1048576) : (usE e []).length ≤ 1048577 := by
 have h2 := usE_len e []
 simp only [List.length_nil] at h2
 omega
theorem fm_step {α β : Type} (f : α → Option β) {l : List α} {i : Nat} (h : i < l.length) : (l.take (i + 1)).filterMap f = (l.take i).filterMap f ++ (f l[i]).toList := by
 rw [List.take_add_one, List.getElem?_eq_getElem h, List.filterMap_append]
 cases e : f l[i] <;> simp [e]
def ixI (L : List Oc) (y : Oc) : Int := ixOf (fun z => decide (z = y)) L
theorem ixI_rng (L : List Oc) (y : Oc) : -1 ≤ ixI L y ∧ ixI L y < L.length := by
 rcases ixOf_cases (fun z => decide (z = y)) L with h | h <;> unfold ixI <;> omega
def rowI (g : Gram) (t : List Nod) (L : List Oc) (x : Oc) : List Int := (stI g t x).map (ixI L)
def tabI (g : Gram) (t : List Nod) : List (List Int) := (insL g t).map (rowI g t (insL g t))
abbrev TbS (T : List (List Int)) : GV := .sl 1 (T.map IS)
abbrev ItO (l : List Int) : GV := .osl 1 (l.map I)
theorem view_ItO (l : List Int) : view (ItO l) = IS l := by
 simp [view, viewL_eq]
def okT (T : List (List Int)) : Prop := T.length ≤ 16777216 ∧ ∀ r ∈ T, r.length ≤ 2097152 ∧ ∀ k ∈ r, -1 ≤ k ∧ k < T.length
theorem tabI_ok {g : Gram} (hg : smGr g) (t : List Nod) : okT (tabI g t) := by
 refine ⟨by simpa [tabI] using insL_len hg t, fun r hr => ?_⟩
 simp only [tabI, List.mem_map] at hr
 obtain ⟨x, hx, rfl⟩ := hr
 refine ⟨by simpa [rowI] using stI_len hg t x, fun k hk => ?_⟩
 simp only [rowI, List.mem_map] at hk
 obtain ⟨y, hy, rfl⟩ := hk
 have := ixI_rng (insL g t) y
 simpa [tabI] using this
def fltR (n : Nat) (r : List Int) : List Int := r.filter fun k => decide (0 ≤ k ∧ k ≤ (n : Int) - 1)
def fltT (T : List (List Int)) : List (List Int) := T.map (fltR T.length)
def rdyT (T : List (List Int)) (out : List Int) (i : Nat) : Bool := !hasI out i && (T.getD i []).all fun k => decide (k < 0) || hasI out k
def ordT (T : List (List Int)) : Nat → List Int → Option (List Int)
 | 0, out => some out
 | f + 1, out => if 0 ≤ firstI T.length (rdyT T out) then ordT T f (out ++ [firstI T.length (rdyT T out)]) else none
def ordL (T : List (List Int)) : List Int := (ordT T T.length []).getD []
def ordB (T : List (List Int)) : Bool := (ordT T T.length []).isSome
def dC (T : List (List Int)) (goal : Nat) (d : Nat) (out : List Int) (k : Int) : Bool :=
 if d = 1 then decide (k = goal) else decide (k ≠ goal) && decide (0 ≤ k) && decide (out.getD k.toNat 0 = (d : Int) - 1)
def dS (T : List (List Int)) (goal : Nat) (d : Nat) (out : List Int) (i : Nat) : Int :=
 if out.getD i 0 ≠ 0 then out.getD i 0 else if (T.getD i []).any (dC T goal d out) then d else 0
def dL (T : List (List Int)) (goal : Nat) : Nat → List Int
 | 0 => List.replicate T.length 0
 | d + 1 => (List.range T.length).map (dS T goal (d + 1) (dL T goal d))
def dst (T : List (List Int)) (goal : Nat) : List Int := dL T goal T.length
end Go.Gh
/- Calls under a heap in another order; names that differ from the start. -/
namespace Go.Gh
set_option linter.unusedSimpArgs false
set_option linter.unusedVariables false
theorem GCalls.nd {P : Program} {f : FuncId} {gs : List GV} {H : GH} {R : GV → GH → Prop} (h : (names H).Nodup → GCalls P f gs H R) : GCalls P f gs H R :=
 fun w D Ω args hst hargs => h hst.nn w D Ω args hst hargs
theorem GCalls.sub {P : Program} {f : FuncId} {gs : List GV} {H L T : GH} {R : GV → GH → Prop} (hs : subH H L) (h : GCalls P f gs (L ++ T) R) : GCalls P f gs (H ++ T) R := by
 intro w D Ω args hst hargs
 obtain ⟨Ω', h1, h2⟩ := hst.sub hs
 refine Yld.mono (fun v w' ⟨g, H', D', Ω'', k1, k2, k3, k4⟩ => ?_) (h w D Ω' args h1 hargs)
 exact ⟨g, H', D', Ω'', k1, k2, k3, ⟨k4.d0, fun b hb hD => (k4.dn b hb hD).imp id (h2 b), fun b hb hl => h2 b (k4.on b hb hl), k4.kp.mono fun b _ hb hb' => hb (h2 b hb'), k4.os, k4.tape, k4.output⟩⟩
theorem drop_get {α : Type} {X L : List α} {a i : Nat} (h : X.drop a = L.drop a) (ha : a ≤ i) (hx : i < X.length) (hl : i < L.length) : X[i] = L[i] := by
 have e := congrArg (fun l : List α => l[i - a]?) h
 simp only [List.getElem?_drop] at e
 rw [show a + (i - a) = i by omega, List.getElem?_eq_getElem hx, List.getElem?_eq_getElem hl] at e
 exact Option.some.inj e
theorem cpO_next {l : List Oc} {j : Nat} (h1 : 1 ≤ j) (h : j < l.length) : cpO (l.take (j + 1)) = if l[j] = l[j - 1] then cpO (l.take j) else cpO (l.take j) ++ [l[j]] := by
 obtain ⟨i, rfl⟩ : ∃ i, j = i + 1 := ⟨j - 1, by omega⟩
 exact cpO_take h
theorem cpO_short {l : List Oc} (h : l.length ≤ 1) : cpO l = l := by
 match l, h with
 | [], _ => rfl
 | [a], _ => rfl
def occ1 (e : Exp) : List Oc := if e.kind = 3 then [(e.pos, e.name)] else []
theorem occE_eq (e : Exp) : occE e = occ1 e ++ occEL e.args := by cases e; rfl
theorem occEL_app (al bl : List Exp) : occEL (al ++ bl) = occEL al ++ occEL bl := by
 induction al with
 | nil => simp [occEL]
 | cons a al ih => simp only [List.cons_append, occEL, ih, List.append_assoc]
theorem occEL_step {al : List Exp} {i : Nat} (h : i < al.length) : occEL (al.take (i + 1)) = occEL (al.take i) ++ occE al[i] := by
 have hs : ∀ (al : List Exp) (e : Exp), occEL (al ++ [e]) = occEL al ++ occE e := by
  intro al e
  induction al with
  | nil => simp [occEL]
  | cons a al ih => simp only [List.cons_append, occEL, ih, List.append_assoc]
 rw [List.take_add_one, List.getElem?_eq_getElem h]
 exact hs _ _
def cpI (L : List Oc) (m j : Nat) (X : List Oc) : Prop := 1 ≤ j ∧ m + 1 + j ≤ L.length ∧ X.length = L.length ∧ (cpO (L.take (m + 1 + j))).length ≤ m + j ∧
 X.take (cpO (L.take (m + 1 + j))).length = cpO (L.take (m + 1 + j)) ∧ X.drop (m + j) = L.drop (m + j)
theorem cpI_eq {L X : List Oc} {m j i : Nat} (h : cpI L m j X) (hl : m + 1 + j < L.length) (hi : i = m + j) (h1 : m + 1 + j < X.length) (h2 : i < X.length) (he : X[m + 1 + j] = X[i]) :
  cpI L m (j + 1) X ∧ cpO (L.take (m + 1 + (j + 1))) = cpO (L.take (m + 1 + j)) := by
 subst hi
 obtain ⟨a1, a2, a3, a4, a5, a6⟩ := h
 have q1 : X[m + j] = L[m + j]'(by omega) := drop_get a6 (Nat.le_refl _) h2 (by omega)
 have q2 : X[m + 1 + j] = L[m + 1 + j] := drop_get a6 (by omega) h1 hl
 have e := cpO_next (l := L) (j := m + 1 + j) (by omega) hl
 rw [if_pos (by rw [← q2, he, q1]; congr 1; omega)] at e
 have e' : cpO (L.take (m + 1 + (j + 1))) = cpO (L.take (m + 1 + j)) := e
 refine ⟨⟨by omega, by omega, a3, by rw [e']; omega, by rw [e']; exact a5, ?_⟩, e'⟩
 have := congrArg (List.drop 1) a6
 simpa [List.drop_drop, Nat.add_assoc] using this
theorem cpI_ne {L X : List Oc} {m j i : Nat} (h : cpI L m j X) (hl : m + 1 + j < L.length) (hi : i = m + j) (h1 : m + 1 + j < X.length) (h2 : i < X.length) (he : X[m + 1 + j] ≠ X[i]) :
  cpI L m (j + 1) (X.set (cpO (L.take (m + 1 + j))).length X[m + 1 + j]) ∧ (cpO (L.take (m + 1 + (j + 1)))).length = (cpO (L.take (m + 1 + j))).length + 1 := by
 subst hi
 obtain ⟨a1, a2, a3, a4, a5, a6⟩ := h
 have q1 : X[m + j] = L[m + j]'(by omega) := drop_get a6 (Nat.le_refl _) h2 (by omega)
 have q2 : X[m + 1 + j] = L[m + 1 + j] := drop_get a6 (by omega) h1 hl
 have e := cpO_next (l := L) (j := m + 1 + j) (by omega) hl
 have hne : ¬ L[m + 1 + j] = L[m + 1 + j - 1]'(by omega) := fun q => he (by
  rw [q2, q1, q]; congr 1; omega)
 rw [if_neg hne] at e
 have e' : cpO (L.take (m + 1 + (j + 1))) = cpO (L.take (m + 1 + j)) ++ [L[m + 1 + j]] := e
 have el : (cpO (L.take (m + 1 + (j + 1)))).length = (cpO (L.take (m + 1 + j))).length + 1 := by rw [e']; simp
 refine ⟨⟨by omega, by omega, by simpa using a3, by rw [el]; omega, ?_, ?_⟩, el⟩
 ·rw [el, e', List.take_add_one, List.getElem?_set_self (by omega), List.take_set_of_le (Nat.le_refl _), a5, q2]
  rfl
 ·rw [List.drop_set_of_lt (by omega)]
  have := congrArg (List.drop 1) a6
  simpa [List.drop_drop, Nat.add_assoc] using this
end Go.Gh
/- Checks of a grammar: steps. -/
namespace Go.Gh
set_option linter.unusedSimpArgs false
set_option linter.unusedVariables false
theorem bor_TS {H : GH} {r n : Nat} {l : List ByteArray} (hr : hget H r = some (1, l.map T)) (hn : l.length = n) : Bor H (.own r 1 0 n) (TS l) := Bor.allM (fun _ => rfl) hr hn
theorem bor_OcS {H : GH} {r n : Nat} {l : List Oc} (hr : hget H r = some (2, l.map Occ)) (hn : l.length = n) : Bor H (.own r 2 0 n) (OcS l) := Bor.allM (fun _ => rfl) hr hn
theorem bor_ExS {H : GH} {r n : Nat} {l : List Exp} (hr : hget H r = some (7, l.map Ex)) (hn : l.length = n) : Bor H (.own r 7 0 n) (ExS l) := Bor.allM view_Ex hr hn
theorem symV_a {s : Sym} {i : Nat} (h : i < s.atts.length) (hb : attV s.atts[i] = false) : symV s = false := by
 simp only [symV, all_no h hb, Bool.false_and]
theorem symV_d {s : Sym} {i : Nat} (h : i < s.atts.length) (hb : dupA s.atts i = true) : symV s = false := by
 simp only [symV, rngAll_no (p := fun i => !dupA s.atts i) h (by simp [hb]), Bool.false_and, Bool.and_false]
theorem symV_ok {s : Sym} (h1 : ∀ a ∈ s.atts, attV a = true) (h2 : ∀ j, j < s.atts.length → dupA s.atts j = false) : symV s = (nameV s.name && decide (s.atts.length ≤ 4)) := by
 have e := rngAll_yes (n := s.atts.length) (p := fun i => !dupA s.atts i) (fun j hj => by simp [h2 j hj])
 simp only [symV, all_yes h1, e, Bool.true_and]
def dstS (l : List ByteArray) : Bool := (List.range l.length).all fun i => !hasS (l.take i) (l.getD i noS)
theorem dstS_no {l : List ByteArray} {i : Nat} (h : i < l.length) (hb : hasS (l.take i) l[i] = true) : dstS l = false :=
 rngAll_no (p := fun i => !hasS (l.take i) (l.getD i noS)) h (by rw [getD_lt h, hb]; rfl)
theorem dstS_yes {l : List ByteArray} (h : ∀ j (hj : j < l.length), hasS (l.take j) l[j] = false) : dstS l = true :=
 rngAll_yes (p := fun i => !hasS (l.take i) (l.getD i noS)) (fun j hj => by rw [getD_lt hj, h j hj]; rfl)
theorem hasS_map {α : Type} (f : α → ByteArray) (l : List α) (s : ByteArray) : hasS (l.map f) s = l.any fun o => decide (f o = s) := by
 simp only [hasS, List.any_map]; rfl
theorem dupA_eq {l : List Att} {i : Nat} (h : i < l.length) : dupA l i = (l.take i).any fun o => decide (o.name = l[i].name) := by
 simp only [dupA, getD_lt h]
theorem dstS_atts (l : List Att) : dstS (l.map (·.name)) = (List.range l.length).all fun i => !dupA l i := by
 simp only [dstS, List.length_map]
 apply Bool.eq_iff_iff.2
 simp only [List.all_eq_true, List.mem_range]
 constructor
 ·intro h j hj
  have := h j hj
  rw [← List.map_take, hasS_map, getD_lt (by simpa using hj), List.getElem_map] at this
  rw [dupA_eq hj]; exact this
 ·intro h j hj
  have := h j hj
  rw [← List.map_take, hasS_map, getD_lt (by simpa using hj), List.getElem_map]
  rw [dupA_eq hj] at this; exact this
theorem symV_spec {s : Sym} (h1 : ∀ a ∈ s.atts, attV a = true) : symV s = (nameV s.name && (decide (s.atts.length ≤ 4) && dstS (s.atts.map (·.name)))) := by
 rw [dstS_atts]
 simp only [symV, all_yes h1, Bool.true_and]
 cases nameV s.name <;> cases (List.range s.atts.length).all fun i => !dupA s.atts i <;> simp
theorem rulV_r {r : Rul} {i : Nat} (h : i < r.right.length) (hb : nameV r.right[i] = false) : rulV r = false := by
 simp only [rulV, all_no h hb, Bool.false_and, Bool.and_false]
theorem rulV_e {r : Rul} {i : Nat} (h : i < r.eqs.length) (hb : eqnV r.right.length r.eqs[i] = false) : rulV r = false := by
 simp only [rulV, all_no h hb, Bool.false_and, Bool.and_false]
theorem rulV_c {r : Rul} {i : Nat} (h : i < r.cons.length) (hb : conV r.right.length r.cons[i] = false) : rulV r = false := by
 simp only [rulV, all_no h hb, Bool.false_and, Bool.and_false]
theorem rulV_h {r : Rul} (h : ¬ (nameV r.name = true ∧ nameV r.left = true ∧ r.right.length ≤ 3 ∧ r.cons.length ≤ 2)) : rulV r = false := by
 cases e : rulV r with
 | false => rfl
 | true =>
  simp only [rulV, Bool.and_eq_true, decide_eq_true_eq] at e
  exact absurd ⟨e.1, e.2.1, e.2.2.1, e.2.2.2.1⟩ h
theorem rulV_ok {r : Rul} (h : nameV r.name = true ∧ nameV r.left = true ∧ r.right.length ≤ 3 ∧ r.cons.length ≤ 2) (h1 : ∀ s ∈ r.right, nameV s = true) (h2 : ∀ q ∈ r.eqs, eqnV r.right.length q = true) (h3 : ∀ c ∈ r.cons, conV r.right.length c = true) : rulV r = true := by
 simp only [rulV, Bool.and_eq_true, decide_eq_true_eq, List.all_eq_true]
 exact ⟨h.1, h.2.1, h.2.2.1, h.2.2.2, h1, h2, h3⟩
theorem rulV_pos {r : Rul} (h : rulV r = true) : ∀ q ∈ r.eqs, 0 ≤ q.pos ∧ q.pos ≤ r.right.length := by
 intro q hq
 simp only [rulV, Bool.and_eq_true, decide_eq_true_eq, List.all_eq_true] at h
 have := h.2.2.2.2.2.1 q hq
 simp only [eqnV, Bool.and_eq_true, decide_eq_true_eq] at this
 exact this.2.2
theorem symB_eq {g : Gram} {i : Nat} (h : i < g.syms.length) : symB g i = (!symV g.syms[i] || (g.syms.take i).any fun o => decide (o.name = g.syms[i].name)) := by
 simp only [symB, getD_lt h]
theorem rulB_eq {g : Gram} {i : Nat} (h : i < g.rules.length) : rulB g i = (!rulV g.rules[i] || (g.rules.take i).any fun o => decide (o.name = g.rules[i].name)) := by
 simp only [rulB, getD_lt h]
theorem sfI_s {g : Gram} {i : Nat} (h : i < g.syms.length) (hb : symB g i = true) (hn : ∀ j, j < i → symB g j = false) : sfI g = i := by
 have e := firstI_hit h hb hn
 simp only [sfI, e]
 rw [if_pos (by omega)]
theorem sfI_r {g : Gram} {i : Nat} (hs : ∀ j, j < g.syms.length → symB g j = false) (h : i < g.rules.length) (hb : rulB g i = true) (hn : ∀ j, j < i → rulB g j = false) : sfI g = i := by
 have e := firstI_hit h hb hn
 simp only [sfI, firstI_none hs, e]
 rw [if_neg (by omega)]
theorem sfI_n {g : Gram} (hs : ∀ j, j < g.syms.length → symB g j = false) (hn : ∀ j, j < g.rules.length → rulB g j = false) : sfI g = -1 := by
 simp only [sfI, firstI_none hs, firstI_none hn]
 rw [if_neg (by omega)]
theorem sfI_no {g : Gram} (h : ¬ 0 ≤ sfI g) : (∀ j, j < g.syms.length → symB g j = false) ∧ ∀ j, j < g.rules.length → rulB g j = false := by
 unfold sfI at h
 split at h
 ·omega
 ·rename_i h1
  have e1 : firstI g.syms.length (symB g) = -1 := by rcases firstI_rng g.syms.length (symB g) with h2 | h2 <;> omega
  have e2 : firstI g.rules.length (rulB g) = -1 := by rcases firstI_rng g.rules.length (rulB g) with h2 | h2 <;> omega
  exact ⟨fun j hj => firstI_no e1 hj, fun j hj => firstI_no e2 hj⟩
theorem hasO_hit {l : List Oc} {o : Oc} {i : Nat} (h : i < l.length) (e : l[i] = o) : hasO l o = true :=
 any_yes (p := fun y => decide (y = o)) h (by simp [e])
theorem hasO_none {l : List Oc} {o : Oc} (h : ∀ y ∈ l, decide (y = o) = false) : hasO l o = false := any_no h
theorem reqP_take {g : Gram} {r : Rul} {pos : Nat} {m : Int} (hm : m = if pos = 0 then 2 else 1) (l : List Att) {i : Nat} (h : i < l.length) :
  (((l.take (i + 1)).filter fun a => decide (a.mode = m)).map fun a => ((pos : Int), a.name)) = (((l.take i).filter fun a => decide (a.mode = m)).map fun a => ((pos : Int), a.name)) ++ (if l[i].mode = m then [((pos : Int), l[i].name)] else []) := by
 rw [List.take_add_one, List.getElem?_eq_getElem h, List.filter_append, List.map_append]
 by_cases e : l[i].mode = m <;> simp [e]
theorem unkR_no {g : Gram} {r : Rul} {i : Nat} (h : i < r.right.length + 1) (hb : hSym g.syms (symAt r i) = false) : unkR g r = true := by
 simp only [unkR, rngAll_no (p := fun pos : Nat => hSym g.syms (symAt r pos)) h hb, Bool.not_false]
theorem unkR_ok {g : Gram} {r : Rul} (h : ∀ j, j < r.right.length + 1 → hSym g.syms (symAt r (j : Nat)) = true) : unkR g r = false := by
 simp only [unkR, rngAll_yes (p := fun pos : Nat => hSym g.syms (symAt r pos)) h, Bool.not_true]
theorem eqnF_any (r : Rul) (o : Oc) : (eqnF r o).isSome = r.eqs.any fun q => decide (q.pos = o.1 ∧ q.name = o.2) := by
 unfold eqnF
 induction r.eqs with
 | nil => rfl
 | cons q l ih =>
  simp only [List.find?_cons, List.any_cons]
  cases decide (q.pos = o.1 ∧ q.name = o.2) with
  | true => rfl
  | false => rw [Bool.false_or, ← ih]
theorem extR_no {g : Gram} {r : Rul} {i : Nat} (h : i < r.eqs.length) (hb : hasO (reqO g r) (atQ r.eqs[i]) = false ∨ hasO ((r.eqs.take i).map atQ) (atQ r.eqs[i]) = true) : extR g r = true := by
 have := rngAll_no (n := r.eqs.length) (i := i) (p := fun i => hasO (reqO g r) ((r.eqs.map atQ).getD i (0, noS)) && !hasO ((r.eqs.map atQ).take i) ((r.eqs.map atQ).getD i (0, noS))) h (by
  rw [getD_lt (by simpa using h), List.getElem_map, ← List.map_take]
  rcases hb with hb | hb
  ·rw [hb]; rfl
  ·rw [hb, Bool.not_true, Bool.and_false])
 simp only [extR, this, Bool.not_false]
theorem extR_ok {g : Gram} {r : Rul} (h : ∀ j (hj : j < r.eqs.length), hasO (reqO g r) (atQ r.eqs[j]) = true ∧ hasO ((r.eqs.take j).map atQ) (atQ r.eqs[j]) = false) : extR g r = false := by
 have := rngAll_yes (n := r.eqs.length) (p := fun i => hasO (reqO g r) ((r.eqs.map atQ).getD i (0, noS)) && !hasO ((r.eqs.map atQ).take i) ((r.eqs.map atQ).getD i (0, noS))) (fun i hi => by
  rw [getD_lt (by simpa using hi), List.getElem_map, ← List.map_take, (h i hi).1, (h i hi).2]; rfl)
 simp only [extR, this, Bool.not_true]
theorem hasO_map (l : List Eqn) (o : Oc) : hasO (l.map atQ) o = l.any fun q => decide (q.pos = o.1 ∧ q.name = o.2) := by
 simp only [hasO, List.any_map]
 congr 1
 funext q
 simp only [Function.comp, atQ, Prod.ext_iff]
theorem reqA_len {g : Gram} (hg : smGr g) (r : Rul) : ∀ n, (reqA g r n).length ≤ n * 1048576
 | 0 => by simp [reqA]
 | n + 1 => by
  have h1 := reqA_len hg r n
  have h2 : (reqP g r n).length ≤ 1048576 := by
   have h3 := List.length_filter_le (fun a : Att => decide (a.mode = if n = 0 then 2 else 1)) (fSym g.syms (symAt r n)).atts
   have h4 := smSy_f hg (symAt r n)
   unfold smSy at h4
   simp only [reqP, List.length_map]
   omega
  simp only [reqA, List.length_append]
  omega
theorem rulV_len {r : Rul} (h : rulV r = true) : r.right.length ≤ 3 := by
 simp only [rulV, Bool.and_eq_true, decide_eq_true_eq] at h
 exact h.2.2.1
theorem rul_ok {g : Gram} (h : ¬ 0 ≤ sfI g) {j : Nat} (hj : j < g.rules.length) : rulV g.rules[j] = true := by
 have := (sfI_no h).2 j hj
 rw [rulB_eq hj, Bool.or_eq_false_iff] at this
 simpa using this.1
def cfl (l : List Con) : List Exp := l.flatMap fun c => [c.goal, c.value]
theorem cfl_len (l : List Con) : (cfl l).length = 2 * l.length := by
 induction l with
 | nil => rfl
 | cons a l ih => simp only [cfl, List.flatMap_cons, List.length_append] at ih ⊢; rw [ih]; simp; omega
theorem cfl_step {l : List Con} {i : Nat} (h : i < l.length) : cfl (l.take (i + 1)) = cfl (l.take i) ++ [l[i].goal, l[i].value] := by
 rw [List.take_add_one, List.getElem?_eq_getElem h, Option.toList_some]
 unfold cfl
 rw [List.flatMap_append]
 simp
theorem expR_eq (r : Rul) : expR r = r.eqs.map (·.expr) ++ cfl r.cons := rfl
theorem expR_sm {r : Rul} (h : smRu r) : ∀ e ∈ expR r, wEx e ≤ 1048576 := by
 intro e he
 rw [expR_eq, List.mem_append] at he
 rcases he with he | he
 ·obtain ⟨q, hq, rfl⟩ := List.mem_map.1 he
  exact h.2.2.2.1 q hq
 ·simp only [cfl, List.mem_flatMap] at he
  obtain ⟨c, hc, he⟩ := he
  have := h.2.2.2.2 c hc
  simp only [List.mem_cons, List.not_mem_nil, or_false] at he
  rcases he with rfl | rfl
  ·exact this.1
  ·exact this.2
theorem misU_eq (g : Gram) (r : Rul) : misU g r = ((r.eqs.any fun q => useB g r q.expr) || r.cons.any fun c => useB g r c.goal || useB g r c.value) := by
 unfold misU
 rw [expR_eq, List.any_append, List.any_map]
 congr 1
 induction r.cons with
 | nil => rfl
 | cons a l ih =>
  have : cfl (a :: l) = [a.goal, a.value] ++ cfl l := rfl
  rw [this, List.any_append, ih]
  simp [Bool.or_assoc]
theorem misU_e {g : Gram} {r : Rul} {i : Nat} (h : i < r.eqs.length) (hb : useB g r r.eqs[i].expr = true) : misU g r = true := by
 rw [misU_eq, any_yes (p := fun q : Eqn => useB g r q.expr) h hb, Bool.true_or]
theorem misU_c {g : Gram} {r : Rul} {i : Nat} (h : i < r.cons.length) (hb : useB g r r.cons[i].goal = true ∨ useB g r r.cons[i].value = true) : misU g r = true := by
 rw [misU_eq, any_yes (p := fun c : Con => useB g r c.goal || useB g r c.value) h (by rcases hb with hb | hb <;> simp [hb]), Bool.or_true]
theorem misU_n {g : Gram} {r : Rul} (h1 : ∀ q ∈ r.eqs, useB g r q.expr = false) (h2 : ∀ c ∈ r.cons, (useB g r c.goal || useB g r c.value) = false) : misU g r = false := by
 rw [misU_eq, any_no (p := fun q : Eqn => useB g r q.expr) h1, any_no (p := fun c : Con => useB g r c.goal || useB g r c.value) h2]; rfl
theorem misT_e {g : Gram} {r : Rul} {i : Nat} (h : i < r.eqs.length) (hb : ¬ tyE g r r.eqs[i].expr = (attAt g r r.eqs[i].pos r.eqs[i].name).type) : misT g r = true := by
 unfold misT
 rw [any_yes (p := fun q : Eqn => !decide (tyE g r q.expr = (attAt g r q.pos q.name).type)) h (by simp [hb]), Bool.true_or]
def conT (g : Gram) (r : Rul) (c : Con) : Bool := !decide (tyE g r c.goal = 4) || (!decide (tyE g r c.value = 2) || !decide ((fAtt (fSym g.syms c.sym).atts c.name).mode = 3))
theorem misT_c {g : Gram} {r : Rul} {i : Nat} (h : i < r.cons.length) (hb : conT g r r.cons[i] = true) : misT g r = true := by
 unfold misT
 have := any_yes (p := conT g r) h hb
 show (_ || r.cons.any (conT g r)) = true
 rw [this, Bool.or_true]
theorem misT_n {g : Gram} {r : Rul} (h1 : ∀ q ∈ r.eqs, decide (tyE g r q.expr = (attAt g r q.pos q.name).type) = true) (h2 : ∀ c ∈ r.cons, conT g r c = false) : misT g r = false := by
 unfold misT
 rw [any_no (p := fun q : Eqn => !decide (tyE g r q.expr = (attAt g r q.pos q.name).type)) (fun q hq => by simp only [h1 q hq]; rfl)]
 have := any_no (p := conT g r) h2
 show (_ || r.cons.any (conT g r)) = false
 rw [this]; rfl
theorem brF_hit {g : Gram} {i c : Nat} (h : i < g.rules.length) (hb : brk g g.rules[i] c = true) (hn : ∀ j (hj : j < g.rules.length), j < i → brk g g.rules[j] c = false) : brF g c = i :=
 firstI_hit h (by rw [getD_lt h]; exact hb) (fun j hj => by rw [getD_lt (by omega)]; exact hn j (by omega) hj)
theorem brF_none {g : Gram} {c : Nat} (hn : ∀ j (hj : j < g.rules.length), brk g g.rules[j] c = false) : brF g c = -1 :=
 firstI_none (fun j hj => by rw [getD_lt (by omega)]; exact hn j (by omega))
def shpG (g : Gram) : Prop := ((1 ≤ g.syms.length ∧ g.syms.length ≤ 4) ∧ (1 ≤ g.rules.length ∧ g.rules.length ≤ 8)) ∧ ¬ 0 ≤ sfI g ∧ ((g.syms.getD 0 symZ).atts.any fun a => decide (a.mode = 1)) = false
theorem shpC_hit {g : Gram} (h : shpG g) {c i : Nat} (hc : 3 ≤ c) (hc6 : c ≤ 6) (hn : ∀ d, 3 ≤ d → d < c → brF g d = -1) (hb : brF g c = i) : shpC g = ((c : Int), (i : Int)) := by
 obtain ⟨h1, h2, h3⟩ := h
 simp only [shpC]
 rw [if_neg (by simp only [Decidable.not_not]; exact h1), if_neg h2, if_neg (by rw [h3]; simp)]
 rcases (by omega : c = 3 ∨ c = 4 ∨ c = 5 ∨ c = 6) with e | e | e | e <;> subst e
 ·rw [hb, if_pos (by omega)]; rfl
 ·rw [hn 3 (by omega) (by omega), hb, if_neg (by omega), if_pos (by omega)]; rfl
 ·rw [hn 3 (by omega) (by omega), hn 4 (by omega) (by omega), hb, if_neg (by omega), if_neg (by omega), if_pos (by omega)]; rfl
 ·rw [hn 3 (by omega) (by omega), hn 4 (by omega) (by omega), hn 5 (by omega) (by omega), hb, if_neg (by omega), if_neg (by omega), if_neg (by omega), if_pos (by omega)]; rfl
theorem shpC_none {g : Gram} (h : shpG g) (hn : ∀ d, 3 ≤ d → d < 7 → brF g d = -1) : shpC g = (0, 0) := by
 obtain ⟨h1, h2, h3⟩ := h
 simp only [shpC]
 rw [if_neg (by simp only [Decidable.not_not]; exact h1), if_neg h2, if_neg (by rw [h3]; simp), hn 3 (by omega) (by omega), hn 4 (by omega) (by omega), hn 5 (by omega) (by omega), hn 6 (by omega) (by omega)]
 rfl
theorem shpC_b1 {g : Gram} (h : ¬ ((1 ≤ g.syms.length ∧ g.syms.length ≤ 4) ∧ (1 ≤ g.rules.length ∧ g.rules.length ≤ 8))) : shpC g = (1, 0) := by
 simp only [shpC]; rw [if_pos h]
theorem shpC_b2 {g : Gram} (h1 : (1 ≤ g.syms.length ∧ g.syms.length ≤ 4) ∧ (1 ≤ g.rules.length ∧ g.rules.length ≤ 8)) (h : 0 ≤ sfI g) : shpC g = (1, sfI g) := by
 simp only [shpC]; rw [if_neg (by simp only [Decidable.not_not]; exact h1), if_pos h]
theorem shpC_b3 {g : Gram} (h1 : (1 ≤ g.syms.length ∧ g.syms.length ≤ 4) ∧ (1 ≤ g.rules.length ∧ g.rules.length ≤ 8)) (h2 : ¬ 0 ≤ sfI g) (h : ((g.syms.getD 0 symZ).atts.any fun a => decide (a.mode = 1)) = true) : shpC g = (2, 0) := by
 simp only [shpC]; rw [if_neg (by simp only [Decidable.not_not]; exact h1), if_neg h2, if_pos h]
theorem shpC_ok {g : Gram} (h : (shpC g).1 = 0) : shpG g := by
 unfold shpG
 by_cases h1 : (1 ≤ g.syms.length ∧ g.syms.length ≤ 4) ∧ (1 ≤ g.rules.length ∧ g.rules.length ≤ 8)
 ·refine ⟨h1, ?_⟩
  by_cases h2 : 0 ≤ sfI g
  ·rw [shpC_b2 h1 h2] at h; simp at h
  ·refine ⟨h2, ?_⟩
   cases h3 : (g.syms.getD 0 symZ).atts.any fun a => decide (a.mode = 1) with
   | false => rfl
   | true => rw [shpC_b3 h1 h2 h3] at h; simp at h
 ·rw [shpC_b1 h1] at h; simp at h
theorem ix_syms {g : Gram} (hs : ∀ j, j < g.syms.length → symB g j = false) {i : Nat} (h : i < g.syms.length) : ixOf (fun s : Sym => decide (s.name = g.syms[i].name)) g.syms = i := by
 refine ixOf_hit h (by simp) fun a ha => ?_
 have := hs i h
 rw [symB_eq h, Bool.or_eq_false_iff, List.any_eq_false] at this
 simpa using this.2 a ha
theorem minH_at {g : Gram} (hs : ∀ j, j < g.syms.length → symB g j = false) {i : Nat} (h : i < g.syms.length) : minH g g.syms[i].name = (hgts g).getD i 0 := by
 simp only [minH, hOf, ix_syms hs h]
 rw [if_neg (by omega)]
 simp
theorem hgts_len (g : Gram) : (hgts g).length = g.syms.length := hIt_len g _
theorem hgts_nn (g : Gram) : ∀ x ∈ hgts g, 0 ≤ x := hIt_nn g _
theorem tyF_hit {g : Gram} {i : Nat} (h : i < g.rules.length) (hb : misT g g.rules[i] = true) (hn : ∀ j (hj : j < g.rules.length), j < i → misT g g.rules[j] = false) : tyF g = i :=
 firstI_hit h (by rw [getD_lt h]; exact hb) (fun j hj => by rw [getD_lt (by omega)]; exact hn j (by omega) hj)
theorem tyF_none {g : Gram} (hn : ∀ j (hj : j < g.rules.length), misT g g.rules[j] = false) : tyF g = -1 :=
 firstI_none (fun j hj => by rw [getD_lt (by omega)]; exact hn j (by omega))
theorem emF_hit {g : Gram} {i : Nat} (h : i < g.syms.length) (hb : (hgts g).getD i 0 = 0) (hn : ∀ j, j < i → ¬ (hgts g).getD j 0 = 0) : emF g = i :=
 firstI_hit h (by simpa using hb) (fun j hj => by simpa using hn j hj)
theorem emF_none {g : Gram} (hn : ∀ j, j < g.syms.length → ¬ (hgts g).getD j 0 = 0) : emF g = -1 :=
 firstI_none (fun j hj => by simpa using hn j hj)
theorem chkG_1 {g : Gram} (h : (shpC g).1 ≠ 0) : chkG g = shpC g := by simp only [chkG]; rw [if_pos h]
theorem chkG_2 {g : Gram} (h : (shpC g).1 = 0) {i : Nat} (h2 : tyF g = i) : chkG g = (7, (i : Int)) := by
 simp only [chkG]; rw [if_neg (by simpa using h), h2, if_pos (by omega)]
theorem chkG_3 {g : Gram} (h : (shpC g).1 = 0) (h1 : tyF g = -1) {i : Nat} (h2 : emF g = i) : chkG g = (8, (i : Int)) := by
 simp only [chkG]; rw [if_neg (by simpa using h), h1, h2, if_neg (by omega), if_pos (by omega)]
theorem chkG_4 {g : Gram} (h : (shpC g).1 = 0) (h1 : tyF g = -1) (h2 : emF g = -1) : chkG g = (0, 0) := by
 simp only [chkG]; rw [if_neg (by simpa using h), h1, h2, if_neg (by omega), if_neg (by omega)]
end Go.Gh
/- Heights of symbols: steps. -/
namespace Go.Gh
set_option linter.unusedSimpArgs false
set_option linter.unusedVariables false
def rchP (g : Gram) (out : List Int) (s : ByteArray) (r : Rul) (k : Nat) : Bool := decide (r.left = s) && (r.right.take k).all fun c => decide (0 < hOf g out c)
theorem rchP_step {g : Gram} {out : List Int} {s : ByteArray} {r : Rul} {k : Nat} (h : k < r.right.length) : rchP g out s r (k + 1) = (rchP g out s r k && decide (0 < hOf g out r.right[k])) := by
 unfold rchP
 rw [List.take_add_one, List.getElem?_eq_getElem h, Option.toList_some, List.all_append, Bool.and_assoc]
 simp
theorem rchP_end (g : Gram) (out : List Int) (s : ByteArray) (r : Rul) : rchP g out s r r.right.length = rchR g out s r := by
 unfold rchP rchR
 rw [List.take_length]
theorem hNext_eq {g : Gram} {k i : Nat} (h : i < g.syms.length) : (hIt g (k + 1)).getD i 0 = hNext g ((k : Int) + 1) (hIt g k) i := by
 rw [getD_lt (by rw [hIt_len]; exact h)]
 simp [hIt]
def nxt (g : Gram) (k i : Nat) (Y : List Int) : Prop := Y.length = g.syms.length ∧ ∀ j, j < g.syms.length → Y.getD j 0 = if j < i then (hIt g (k + 1)).getD j 0 else (hIt g k).getD j 0
theorem nxt_0 (g : Gram) (k : Nat) : nxt g k 0 (hIt g k) := ⟨hIt_len g k, fun j hj => by simp⟩
theorem nxt_n {g : Gram} {k : Nat} {Y : List Int} (h : nxt g k g.syms.length Y) : Y = hIt g (k + 1) := by
 refine List.ext_getElem (by rw [h.1, hIt_len]) fun j h1 h2 => ?_
 have h3 := h.1
 have := h.2 j (by omega)
 rw [if_pos (by omega), getD_lt h1, getD_lt h2] at this
 exact this
theorem nxt_keep {g : Gram} {k i : Nat} {Y : List Int} (h : nxt g k i Y) (hi : i < g.syms.length) (he : hNext g ((k : Int) + 1) (hIt g k) i = (hIt g k).getD i 0) : nxt g k (i + 1) Y := by
 refine ⟨h.1, fun j hj => ?_⟩
 rw [h.2 j hj]
 by_cases e : j = i
 ·subst e
  rw [if_neg (by omega), if_pos (by omega), hNext_eq hi, he]
 ·by_cases e2 : j < i
  ·rw [if_pos e2, if_pos (by omega)]
  ·rw [if_neg e2, if_neg (by omega)]
theorem nxt_set {g : Gram} {k i : Nat} {Y : List Int} {v : Int} (h : nxt g k i Y) (hi : i < g.syms.length) (he : hNext g ((k : Int) + 1) (hIt g k) i = v) : nxt g k (i + 1) (Y.set i v) := by
 have h1 := h.1
 refine ⟨by rw [List.length_set]; exact h.1, fun j hj => ?_⟩
 rw [getD_lt (by rw [List.length_set]; omega), List.getElem_set]
 by_cases e : i = j
 ·subst e
  rw [if_pos rfl, if_pos (by omega), hNext_eq hi, he]
 ·rw [if_neg e, ← getD_lt (d := 0) (by omega), h.2 j hj]
  by_cases e2 : j < i
  ·rw [if_pos e2, if_pos (by omega)]
  ·rw [if_neg e2, if_neg (by omega)]
theorem soT_E2 (a b : Exp) : soT (some (7, [Ex a, Ex b])) 7 7 0 2 = some [Ex a, Ex b] := by
 simp [soT, cleanL, clean_Ex]
theorem soT_I {l : List Int} {n : Nat} (h : l.length = n) : soT (some (1, l.map I)) 1 1 0 n = some (l.map I) := by
 subst h
 have hc : cleanL (l.map I) = true := by
  induction l with
  | nil => rfl
  | cons a l ih => simp only [List.map_cons, cleanL, ih]; rfl
 simp only [soT, List.drop_zero, List.length_map, Nat.zero_add, Nat.le_refl, true_and]
 rw [List.take_of_length_le (by simp), hc]; simp
end Go.Gh
/- Static grammars. -/
namespace Go.Gh
set_option linter.unusedSimpArgs false
set_option linter.unusedVariables false
def nrE (e : Exp) : Bool := allE (fun x => !decide (x.kind = 8)) e
theorem nrE_arg {e : Exp} {i : Nat} (h : i < e.args.length) (hb : nrE e.args[i] = false) : nrE e = false := allE_no h hb
theorem nrE_end {e : Exp} (h : ∀ a ∈ e.args, nrE a = true) : nrE e = !decide (e.kind = 8) := allE_yes h
def noA (g : Gram) : Bool := g.syms.all fun s => s.atts.all fun a => !(a.circ || decide (a.mode = 3))
def remQ (r : Rul) : Bool := r.eqs.any fun q => !nrE q.expr
def remR (r : Rul) : Bool := (expR r).any fun e => !nrE e
def hasA (g : Gram) (p : Att → Bool) : Bool := g.syms.any fun s => s.atts.any p
def staS (g : Gram) : Bool := noA g && (!g.rules.any remQ && accG g)
def staI (g : Gram) : Bool := accG g && (!g.rules.any remR && (!(hasA g fun a => decide (a.mode = 3)) && !hasA g fun a => a.circ))
theorem accG_ty {g : Gram} (h : accG g = true) : (shpC g).1 = 0 ∧ ¬ 0 ≤ tyF g := by
 simp only [accG, decide_eq_true_eq] at h
 by_cases h1 : (shpC g).1 = 0
 ·refine ⟨h1, fun h2 => ?_⟩
  simp only [chkG] at h
  rw [if_neg (by simpa using h1), if_pos h2] at h
  simp at h
 ·rw [chkG_1 h1] at h
  exact absurd h h1
theorem accG_mis {g : Gram} (h : accG g = true) : ∀ r ∈ g.rules, misT g r = false := by
 intro r hr
 have h2 := (accG_ty h).2
 obtain ⟨i, hi, rfl⟩ := List.mem_iff_getElem.1 hr
 have e : tyF g = -1 := by rcases firstI_rng g.rules.length (fun i => misT g (g.rules.getD i rulZ)) with h3 | h3 <;> unfold tyF at h2 ⊢ <;> omega
 have := firstI_no e hi
 rwa [getD_lt hi] at this
theorem misT_con {g : Gram} {r : Rul} (h : misT g r = false) : ∀ c ∈ r.cons, (fAtt (fSym g.syms c.sym).atts c.name).mode = 3 := by
 intro c hc
 unfold misT at h
 rw [Bool.or_eq_false_iff, List.any_eq_false] at h
 have := h.2
 rw [List.any_eq_false] at this
 have := this c hc
 simp only [Bool.or_eq_true, not_or, Bool.not_eq_true, Bool.not_eq_false', decide_eq_true_eq] at this
 exact this.2.2
theorem mode3 {g : Gram} {s n : ByteArray} (h : (fAtt (fSym g.syms s).atts n).mode = 3) : ∃ y ∈ g.syms, ∃ a ∈ y.atts, a.mode = 3 := by
 have h1 : fAtt (fSym g.syms s).atts n ∈ (fSym g.syms s).atts := by
  unfold fAtt at h ⊢
  cases e : (fSym g.syms s).atts.find? fun y => decide (y.name = n) with
  | none => rw [e] at h; simp [attZ] at h
  | some a => exact List.mem_of_find?_eq_some e
 rcases fSym_mem g.syms s with h2 | h2
 ·exact ⟨_, h2, _, h1, h⟩
 ·rw [h2] at h1; simp [symZ] at h1
theorem noA_iff {g : Gram} : noA g = (!(hasA g fun a => decide (a.mode = 3)) && !hasA g fun a => a.circ) := by
 apply Bool.eq_iff_iff.2
 simp only [noA, hasA, List.all_eq_true, Bool.and_eq_true, Bool.not_eq_true', List.any_eq_false, Bool.not_eq_true, Bool.or_eq_false_iff, decide_eq_false_iff_not]
 constructor
 ·intro h
  exact ⟨fun s hs a ha => (h s hs a ha).2, fun s hs a ha => (h s hs a ha).1⟩
 ·rintro ⟨h1, h2⟩ s hs a ha
  exact ⟨h2 s hs a ha, h1 s hs a ha⟩
theorem no_cons {g : Gram} (h : accG g = true) (hn : noA g = true) : ∀ r ∈ g.rules, r.cons = [] := by
 intro r hr
 cases e : r.cons with
 | nil => rfl
 | cons c l =>
  have h1 := misT_con (accG_mis h r hr) c (by rw [e]; simp)
  obtain ⟨y, hy, a, ha, h2⟩ := mode3 h1
  have h3 := List.all_eq_true.1 hn y hy
  have h4 := List.all_eq_true.1 h3 a ha
  simp [h2] at h4
theorem any_congr' {α : Type} {p q : α → Bool} {l : List α} (h : ∀ a ∈ l, p a = q a) : l.any p = l.any q := by
 induction l with
 | nil => rfl
 | cons a l ih =>
  simp only [List.any_cons]
  rw [h a (by simp), ih fun b hb => h b (by simp [hb])]
theorem staI_eq (g : Gram) : staI g = staS g := by
 unfold staI staS
 rw [← noA_iff]
 cases ha : accG g with
 | false => simp
 | true =>
  cases hn : noA g with
  | false => simp
  | true =>
   have hc := no_cons ha hn
   have : g.rules.any remR = g.rules.any remQ := any_congr' fun r hr => by
    unfold remR remQ
    rw [expR_eq, hc r hr]
    simp only [cfl, List.flatMap_nil, List.append_nil, List.any_map]
    rfl
   rw [this]
theorem noA_no {g : Gram} {i j : Nat} (h : i < g.syms.length) (h2 : j < g.syms[i].atts.length) (hb : (g.syms[i].atts[j].circ || decide (g.syms[i].atts[j].mode = 3)) = true) : noA g = false :=
 all_no (p := fun s : Sym => s.atts.all fun a => !(a.circ || decide (a.mode = 3))) h (all_no h2 (by rw [hb]; rfl))
end Go.Gh
/- Tables: slices of own slices, opened and closed; their marks. -/
namespace Go.Gh
set_option linter.unusedSimpArgs false
set_option linter.unusedVariables false
theorem bor_Tb {H : GH} {r n : Nat} {T : List (List Int)} (hr : hget H r = some (1, T.map ItO)) (hn : T.length = n) : Bor H (.own r 1 0 n) (TbS T) := Bor.seen view_ItO hr hn
end Go.Gh
/- Orders: what the loops keep. -/
namespace Go.Gh
set_option linter.unusedSimpArgs false
set_option linter.unusedVariables false
abbrev BS (l : List Bool) : GV := .sl 1 (l.map B)
def metB (dn : List Bool) (row : List Int) : Bool := row.all fun k => decide (k < 0) || dn.getD k.toNat false
def dnL (n : Nat) (out : List Int) : List Bool := (List.range n).map fun i : Nat => hasI out (i : Int)
theorem dnL_len (n : Nat) (out : List Int) : (dnL n out).length = n := by simp [dnL]
theorem dnL_get {n : Nat} {out : List Int} {i : Nat} (h : i < (dnL n out).length) : (dnL n out)[i] = hasI out i := by simp [dnL]
theorem dnL_zero (n : Nat) : (dnL n []).map B = List.replicate n (B false) := by
 simp only [dnL, List.map_map]
 refine List.ext_getElem (by simp) fun i h1 h2 => ?_
 simp [hasI]
theorem bor_BS {H : GH} {r n : Nat} {l : List Bool} (hr : hget H r = some (1, l.map B)) (hn : l.length = n) : Bor H (.own r 1 0 n) (BS l) := Bor.allM (fun _ => rfl) hr hn
theorem hasI_snoc (out : List Int) (a x : Int) : hasI (out ++ [a]) x = (hasI out x || decide (a = x)) := by simp [hasI]
theorem dnL_snoc {n : Nat} {out : List Int} {a : Nat} (h : a < n) : dnL n (out ++ [(a : Int)]) = (dnL n out).set a true := by
 refine List.ext_getElem (by simp [dnL]) fun i h1 h2 => ?_
 rw [dnL_get, List.getElem_set, hasI_snoc]
 by_cases e : a = i
 ·subst e; simp
 ·rw [if_neg e, dnL_get]
  have : ¬ ((a : Int) = i) := by omega
  simp [this]
theorem metB_dn {n : Nat} {out row : List Int} (h : ∀ k ∈ row, -1 ≤ k ∧ k < n) : metB (dnL n out) row = row.all fun k => decide (k < 0) || hasI out k := by
 unfold metB
 induction row with
 | nil => rfl
 | cons k row ih =>
  simp only [List.all_cons]
  rw [ih fun x hx => h x (by simp [hx])]
  congr 1
  have hk := h k (by simp)
  by_cases e : k < 0
  ·simp [e]
  ·have e2 : k.toNat < (dnL n out).length := by rw [dnL_len]; omega
   rw [getD_lt e2, dnL_get]
   congr 2
   omega
theorem rdyT_eq {T : List (List Int)} (hT : okT T) {out : List Int} {i : Nat} (h : i < T.length) : rdyT T out i = (!hasI out i && metB (dnL T.length out) T[i]) := by
 unfold rdyT
 rw [getD_lt h, metB_dn fun k hk => (hT.2 _ (List.getElem_mem h)).2 k hk]
def firstG (n : Nat) (p : Nat → Bool) (m : Nat) : Int := firstI n fun i => decide (m ≤ i) && p i
theorem firstG_top (n : Nat) (p : Nat → Bool) : firstG n p n = -1 := firstI_none fun j hj => by simp; omega
theorem firstG_zero (n : Nat) (p : Nat → Bool) : firstG n p 0 = firstI n p := by simp [firstG]
theorem firstG_yes {n m : Nat} {p : Nat → Bool} (h : m < n) (hp : p m = true) : firstG n p m = m :=
 firstI_hit h (by simp [hp]) fun j hj => by simp; omega
theorem firstG_no {n m : Nat} {p : Nat → Bool} (hp : p m = false) : firstG n p m = firstG n p (m + 1) := by
 unfold firstG
 congr 1
 funext i
 by_cases e : i = m
 ·subst e; simp [hp]
 ·by_cases e2 : m ≤ i
  ·have : m + 1 ≤ i := by omega
   simp [e2, this]
  ·have : ¬ m + 1 ≤ i := by omega
   simp [e2, this]
def ordI (T : List (List Int)) (out : List Int) : Prop := out.length ≤ T.length ∧ ordT T (T.length - out.length) out = ordT T T.length []
theorem ordI_start (T : List (List Int)) : ordI T [] := ⟨by simp, by simp⟩
theorem ordI_end {T : List (List Int)} {out : List Int} (h : ordI T out) (hl : ¬ out.length < T.length) : ordL T = out ∧ ordB T = true := by
 obtain ⟨h1, h2⟩ := h
 rw [show T.length - out.length = 0 by omega] at h2
 have : ordT T T.length [] = some out := by rw [← h2]; rfl
 simp [ordL, ordB, this]
theorem ordI_stuck {T : List (List Int)} {out : List Int} (h : ordI T out) (hl : out.length < T.length) (hf : firstI T.length (rdyT T out) < 0) : ordL T = [] ∧ ordB T = false := by
 obtain ⟨h1, h2⟩ := h
 obtain ⟨m, hm⟩ : ∃ m, T.length - out.length = m + 1 := ⟨T.length - out.length - 1, by omega⟩
 rw [hm, ordT, if_neg (by omega)] at h2
 simp [ordL, ordB, ← h2]
theorem ordI_next {T : List (List Int)} {out : List Int} (h : ordI T out) (hl : out.length < T.length) (hf : 0 ≤ firstI T.length (rdyT T out)) : ordI T (out ++ [firstI T.length (rdyT T out)]) := by
 obtain ⟨h1, h2⟩ := h
 obtain ⟨m, hm⟩ : ∃ m, T.length - out.length = m + 1 := ⟨T.length - out.length - 1, by omega⟩
 rw [hm, ordT, if_pos hf] at h2
 refine ⟨by simp; omega, ?_⟩
 rw [← h2]
 congr 1
 simp; omega
theorem ixOf_no {α : Type} {p : α → Bool} {l : List α} (h : ixOf p l = -1) : ∀ a ∈ l, p a = false := by
 unfold ixOf at h
 cases e : l.findIdx? p with
 | none => exact fun a ha => by simpa using List.findIdx?_eq_none_iff.1 e a ha
 | some i =>
  rw [e] at h
  have h' : (i : Int) = -1 := h
  omega
theorem ixOf_at {α : Type} {p : α → Bool} {l : List α} {i : Nat} (h : ixOf p l = i) : ∃ hl : i < l.length, p l[i] = true ∧ ∀ a ∈ l.take i, p a = false := by
 unfold ixOf at h
 cases e : l.findIdx? p with
 | none =>
  rw [e] at h
  have h' : (-1 : Int) = i := h
  omega
 | some j =>
  rw [e] at h
  have h' : (j : Int) = i := h
  have : j = i := by omega
  subst this
  obtain ⟨h1, h2, h3⟩ := List.findIdx?_eq_some_iff_getElem.1 e
  refine ⟨h1, h2, fun a ha => ?_⟩
  obtain ⟨k, hk, rfl⟩ := List.mem_take_iff_getElem.1 ha
  simpa using h3 k (by omega)
def dlI (L : List Int) (p : Int → Bool) (j : Nat) (X : List Int) : Prop := j ≤ L.length ∧ X.length = L.length ∧ ((L.take j).filter fun k => !p k).length + 1 ≤ j ∧
 X.take ((L.take j).filter fun k => !p k).length = ((L.take j).filter fun k => !p k) ∧ X.drop j = L.drop j
theorem filter_all {α : Type} {p : α → Bool} {l : List α} (h : ∀ a ∈ l, p a = false) : l.filter (fun k => !p k) = l := by
 rw [List.filter_eq_self]
 intro a ha
 rw [h a ha]; rfl
theorem flt_step {p : Int → Bool} {l : List Int} {i : Nat} (h : i < l.length) : (l.take (i + 1)).filter (fun k => !p k) = (l.take i).filter (fun k => !p k) ++ (if p l[i] = true then [] else [l[i]]) := by
 rw [List.take_add_one, List.getElem?_eq_getElem h, List.filter_append]
 by_cases e : p l[i] = true
 ·simp [e]
 ·simp [e]
theorem dlI_start {L : List Int} {p : Int → Bool} {i : Nat} (h : ixOf p L = i) : dlI L p (i + 1) L ∧ ((L.take (i + 1)).filter fun k => !p k).length = i := by
 obtain ⟨h1, h2, h3⟩ := ixOf_at h
 have e : (L.take (i + 1)).filter (fun k => !p k) = L.take i := by rw [flt_step h1, if_pos h2, List.append_nil, filter_all h3]
 have el : ((L.take (i + 1)).filter fun k => !p k).length = i := by rw [e, List.length_take]; omega
 exact ⟨⟨by omega, rfl, by omega, by rw [el, e], rfl⟩, el⟩
theorem dlI_get {L X : List Int} {p : Int → Bool} {j : Nat} (h : dlI L p j X) (hl : j < L.length) (hx : j < X.length) : X[j] = L[j] := drop_get h.2.2.2.2 (Nat.le_refl _) hx hl
theorem drop_next {X L : List Int} {j : Nat} (h : X.drop j = L.drop j) : X.drop (j + 1) = L.drop (j + 1) := by
 have := congrArg (List.drop 1) h
 simpa [List.drop_drop, Nat.add_assoc, Nat.add_comm] using this
theorem dlI_drop {L X : List Int} {p : Int → Bool} {j : Nat} (h : dlI L p j X) (hl : j < L.length) (hp : p L[j] = true) : dlI L p (j + 1) X ∧ (L.take (j + 1)).filter (fun k => !p k) = (L.take j).filter (fun k => !p k) := by
 obtain ⟨a1, a2, a3, a4, a5⟩ := h
 have e : (L.take (j + 1)).filter (fun k => !p k) = (L.take j).filter (fun k => !p k) := by rw [flt_step hl, if_pos hp, List.append_nil]
 exact ⟨⟨by omega, a2, by rw [e]; omega, by rw [e]; exact a4, drop_next a5⟩, e⟩
theorem dlI_keep {L X : List Int} {p : Int → Bool} {j : Nat} (h : dlI L p j X) (hl : j < L.length) (hp : p L[j] = false) :
  dlI L p (j + 1) (X.set ((L.take j).filter fun k => !p k).length L[j]) ∧ ((L.take (j + 1)).filter fun k => !p k).length = ((L.take j).filter fun k => !p k).length + 1 := by
 obtain ⟨a1, a2, a3, a4, a5⟩ := h
 have e : (L.take (j + 1)).filter (fun k => !p k) = (L.take j).filter (fun k => !p k) ++ [L[j]] := by rw [flt_step hl, if_neg (by simp [hp])]
 have el : ((L.take (j + 1)).filter fun k => !p k).length = ((L.take j).filter fun k => !p k).length + 1 := by rw [e]; simp
 refine ⟨⟨by omega, by simpa using a2, by omega, ?_, ?_⟩, el⟩
 ·rw [el, e, List.take_add_one, List.getElem?_set_self (by omega), List.take_set_of_le (Nat.le_refl _), a4]
  rfl
 ·rw [List.drop_set_of_lt (by omega)]
  exact drop_next a5
theorem fltR_eq (n : Nat) (r : List Int) : r.filter (fun k => !(!decide (0 ≤ k ∧ k ≤ (n : Int) - 1))) = fltR n r := by simp [fltR]
theorem rdyT_flt {T : List (List Int)} (hT : okT T) {out : List Int} {i : Nat} (h : i < T.length) : rdyT T out i = (!hasI out i && !((fltR T.length T[i]).any fun k => !hasI out k)) := by
 unfold rdyT
 rw [getD_lt h]
 congr 1
 have hr := (hT.2 _ (List.getElem_mem h)).2
 generalize T[i] = row at hr ⊢
 unfold fltR
 induction row with
 | nil => rfl
 | cons k row ih =>
  have hk := hr k (by simp)
  have h2 := ih fun x hx => hr x (by simp [hx])
  simp only [List.all_cons, h2]
  by_cases e : k < 0
  ·have : ¬ (0 ≤ k ∧ k ≤ (T.length : Int) - 1) := by omega
   simp [e, List.filter_cons, this]
  ·have : (0 ≤ k ∧ k ≤ (T.length : Int) - 1) := by omega
   simp [e, List.filter_cons, this]
theorem fltT_get {T : List (List Int)} {i : Nat} (h : i < (fltT T).length) (h2 : i < T.length) : (fltT T)[i] = fltR T.length T[i] := by simp [fltT]
theorem ordT_len {T : List (List Int)} : ∀ (f : Nat) (out L : List Int), ordT T f out = some L → L.length = out.length + f
 | 0, out, L, h => by simp only [ordT, Option.some.injEq] at h; rw [h]; rfl
 | f + 1, out, L, h => by
  simp only [ordT] at h
  split at h
  ·have := ordT_len f _ L h
   simp at this; omega
  ·cases h
theorem ordL_len (T : List (List Int)) : (ordL T).length ≤ T.length := by
 unfold ordL
 cases h : ordT T T.length [] with
 | none => simp
 | some L => have := ordT_len _ _ _ h; simp at this ⊢; omega
end Go.Gh
/- Solutions. -/
namespace Go.Gh
set_option linter.unusedSimpArgs false
set_option linter.unusedVariables false
theorem kidsW_in {w : Nat → Int → Int → ByteArray → Int} {n : Int} {i : Nat} (hw : ∀ a p q s, 0 ≤ w a p q s → (a : Int) < w a p q s ∧ w a p q s ≤ n) : ∀ (cs : List Int) (ss : List ByteArray) (k a : Int), cs.length = ss.length → 0 ≤ a → 0 ≤ kidsW w i cs ss k a →
  (∀ c ∈ cs, 0 ≤ c ∧ c < n)
 | [], _, _, _, _, _, _ => fun c hc => by cases hc
 | c :: cs, [], _, _, h, _, _ => by simp at h
 | c :: cs, s :: ss, k, a, hl, ha, h => by
  simp only [kidsW] at h
  split at h
  ·omega
  rename_i h1
  split at h
  ·omega
  rename_i h2
  have h3 := hw a.toNat i (k + 1) s (by omega)
  have ih := kidsW_in hw cs ss (k + 1) (w a.toNat i (k + 1) s) (by simpa using hl) (by omega) h
  intro x hx
  rcases List.mem_cons.1 hx with rfl | hx
  ·simp only [ne_eq, Decidable.not_not] at h1
   omega
  ·exact ih x hx
theorem kidsW_all {w : Nat → Int → Int → ByteArray → Int} {n : Int} {i : Nat} {P : Nat → Prop} (hw : ∀ a p q s, 0 ≤ w a p q s → (a : Int) < w a p q s ∧ w a p q s ≤ n) (hP : ∀ (a : Nat) p q s, 0 ≤ w a p q s → ∀ j : Nat, a ≤ j → (j : Int) < w a p q s → P j) :
  ∀ (cs : List Int) (ss : List ByteArray) (k a : Int), 0 ≤ a → 0 ≤ kidsW w i cs ss k a → ∀ j : Nat, a ≤ j → (j : Int) < kidsW w i cs ss k a → P j
 | [], _, k, a, ha, h, j, h1, h2 => by simp only [kidsW] at h2; omega
 | c :: cs, [], k, a, ha, h, j, h1, h2 => by simp only [kidsW] at h2; omega
 | c :: cs, s :: ss, k, a, ha, h, j, h1, h2 => by
  simp only [kidsW] at h h2
  split at h
  ·omega
  rename_i g1
  rw [if_neg g1] at h2
  split at h
  ·omega
  rename_i g2
  rw [if_neg g2] at h2
  have h3 := hw a.toNat i (k + 1) s (by omega)
  by_cases hj : (j : Int) < w a.toNat i (k + 1) s
  ·exact hP a.toNat i (k + 1) s (by omega) j (by omega) hj
  ·exact kidsW_all hw hP cs ss (k + 1) (w a.toNat i (k + 1) s) (by omega) h j (by omega) h2
def kidsIn (t : List Nod) (j : Nat) : Prop := ∀ c ∈ (t.getD j nodZ).kids, 0 ≤ c ∧ c < t.length
theorem walkE_kids {g : Gram} {t : List Nod} : ∀ (f i : Nat) (p q : Int) (s : ByteArray), 0 ≤ walkE g t f i p q s → ∀ j : Nat, i ≤ j → (j : Int) < walkE g t f i p q s → kidsIn t j
 | 0, i, p, q, s, h, j, h1, h2 => by simp [walkE] at h
 | f + 1, i, p, q, s, h, j, h1, h2 => by
  simp only [walkE] at h h2
  split at h
  ·rename_i hi
   rw [if_pos hi] at h2
   split at h
   ·rename_i hf
    rw [if_pos hf] at h2
    have hl := (fitV_iff.1 hf).2.2.2.2.1
    by_cases e : j = i
    ·subst e
     exact kidsW_in (w := walkE g t f) (fun a p q s h => walkE_ge f a p q s h) _ _ 0 ((j : Int) + 1) hl (by omega) h
    ·exact kidsW_all (w := walkE g t f) (n := t.length) (P := kidsIn t) (fun a p q s h => walkE_ge f a p q s h) (fun a p q s h j h1 h2 => walkE_kids f a p q s h j h1 h2) _ _ 0 ((i : Int) + 1) (by omega) h j (by omega) h2
   ·omega
  ·omega
theorem treeOf_parts {g : Gram} {t : List Nod} {s : ByteArray} (h : treeOf g t s = true) : (1 ≤ t.length ∧ t.length ≤ 16) ∧ idsV t = true ∧ walkE g t t.length 0 (-1) 0 s = t.length := by
 simpa only [treeOf, Bool.and_eq_true, decide_eq_true_eq] using h
theorem tree_kids {g : Gram} {t : List Nod} {s : ByteArray} (h : treeOf g t s = true) {i : Nat} (hi : i < t.length) : ∀ c ∈ t[i].kids, 0 ≤ c ∧ c < t.length := by
 obtain ⟨_, _, h1⟩ := treeOf_parts h
 have := walkE_kids (g := g) (t := t) t.length 0 (-1) 0 s (by omega) i (by omega) (by rw [h1]; omega)
 unfold kidsIn at this
 rwa [getD_lt hi] at this
theorem insA_mem {g : Gram} {t : List Nod} {x : Oc} : ∀ {n : Nat}, x ∈ insA g t n ↔ ∃ i, i < n ∧ x ∈ insK g t i
 | 0 => by simp [insA]
 | n + 1 => by
  simp only [insA, List.mem_append, insA_mem (n := n)]
  constructor
  ·rintro (⟨i, h, k⟩ | h)
   ·exact ⟨i, by omega, k⟩
   ·exact ⟨n, by omega, h⟩
  ·rintro ⟨i, h, k⟩
   by_cases e : i = n
   ·subst e; exact .inr k
   ·exact .inl ⟨i, by omega, k⟩
theorem ins_in {g : Gram} {t : List Nod} (h : treeOf g t (symN g t 0) = true) {i : Nat} (hi : i < t.length) {a : Att} (ha : a ∈ (fSym g.syms (symN g t i)).atts) : (t[i].id, a.name) ∈ insL g t := by
 unfold insL
 rw [if_pos h, insA_mem]
 refine ⟨i, hi, ?_⟩
 simp only [insK, List.mem_map]
 exact ⟨a, ha, by rw [getD_lt hi]⟩
theorem ixI_in {L : List Oc} {x : Oc} (h : x ∈ L) : 0 ≤ ixI L x ∧ ixI L x < L.length := by
 rcases ixOf_cases (fun z => decide (z = x)) L with h1 | h1
 ·have := ixOf_no h1 x h
  simp at this
 ·exact h1
theorem bor_Slt {H : GH} {r n : Nat} {l : List Slo} (hr : hget H r = some (3, l.map Slt)) (hn : l.length = n) : Bor H (.own r 3 0 n) (SltS l) := Bor.allM (fun _ => rfl) hr hn
def slV (t : List Nod) (L : List Oc) (vs : List Int) (at' : Int) (a : Att) : Int := vs.getD (ixI L ((t.getD at'.toNat nodZ).id, a.name)).toNat 0
def slK (g : Gram) (t : List Nod) (L : List Oc) (vs : List Int) (pos : Nat) (at' : Int) : List Slo := (fSym g.syms (symN g t at')).atts.map fun a => ⟨pos, a.name, slV t L vs at' a⟩
def slA (g : Gram) (t : List Nod) (L : List Oc) (vs : List Int) (ks : List Int) : Nat → List Slo
 | 0 => []
 | n + 1 => slA g t L vs ks n ++ slK g t L vs n (ks.getD n 0)
def slL (g : Gram) (t : List Nod) (i : Nat) (L : List Oc) (vs : List Int) : List Slo := slA g t L vs ((i : Int) :: (t.getD i nodZ).kids) ((t.getD i nodZ).kids.length + 1)
def evV (e : Exp) (sl : List Slo) (lit : Int) (ids : List Int) : Int := if validE e then evE sl lit ids e else 0
def vaX (g : Gram) (t : List Nod) (L : List Oc) (vs : List Int) (x : Oc) : Int :=
 if defB g t x = true then evV (defE g t x) (slL g t (defO g t x).toNat L vs) (t.getD (defO g t x).toNat nodZ).lit (nodeIds t (defO g t x)) else 0
end Go.Gh
/- Solutions: the steps. -/
namespace Go.Gh
set_option linter.unusedSimpArgs false
set_option linter.unusedVariables false
theorem okE_expZ : okE expZ := by
 rw [okE_eq]
 exact ⟨Nat.zero_le _, Nat.zero_le _, fun a h => by cases h⟩
theorem defE_ok {g : Gram} (hg : okGr g) (t : List Nod) (x : Oc) : okE (defE g t x) := by
 unfold defE
 split
 ·unfold eqnE eqnF
  generalize hr : fRul g.rules _ = r
  cases h : r.eqs.find? fun q => decide (q.pos = _ ∧ q.name = _) with
  | none => exact okE_expZ
  | some q =>
   have hq := List.mem_of_find?_eq_some h
   rcases fRul_mem g.rules (t.getD (ownN g t x).1.toNat nodZ).rule with h1 | h1
   ·rw [hr] at h1
    exact ((hg.2 _ h1).2.2.2.1 q hq).2
   ·rw [hr] at h1
    subst h1
    simp [rulZ] at hq
 ·exact okE_expZ
theorem defO_in {g : Gram} {t : List Nod} {x : Oc} (h : defB g t x = true) : ∃ j : Nat, defO g t x = j ∧ j < t.length := by
 have h0 := h
 simp only [defB, Bool.and_eq_true, decide_eq_true_eq] at h0
 obtain ⟨_, _, h1, _⟩ := h0
 refine ⟨(ownN g t x).1.toNat, ?_, by omega⟩
 unfold defO
 rw [if_pos h]
 omega
theorem kidsW_len {w : Nat → Int → Int → ByteArray → Int} {i : Nat} (hw : ∀ a p q s, 0 ≤ w a p q s → (a : Int) < w a p q s) : ∀ (cs : List Int) (ss : List ByteArray) (k a : Int), cs.length = ss.length → 0 ≤ a → 0 ≤ kidsW w i cs ss k a → a + cs.length ≤ kidsW w i cs ss k a
 | [], _, k, a, _, ha, h => by simp [kidsW]
 | c :: cs, [], k, a, hl, _, _ => by simp at hl
 | c :: cs, s :: ss, k, a, hl, ha, h => by
  simp only [kidsW] at h ⊢
  split at h
  ·omega
  rename_i g1
  rw [if_neg g1]
  split at h
  ·omega
  rename_i g2
  rw [if_neg g2]
  have h3 := hw a.toNat i (k + 1) s (by omega)
  have ih := kidsW_len hw cs ss (k + 1) (w a.toNat i (k + 1) s) (by simpa using hl) (by omega) h
  simp only [List.length_cons]
  omega
theorem walkE_kl {g : Gram} {t : List Nod} : ∀ (f i : Nat) (p q : Int) (s : ByteArray), 0 ≤ walkE g t f i p q s → ∀ j : Nat, i ≤ j → (j : Int) < walkE g t f i p q s → (t.getD j nodZ).kids.length ≤ t.length
 | 0, i, p, q, s, h, j, h1, h2 => by simp [walkE] at h
 | f + 1, i, p, q, s, h, j, h1, h2 => by
  have hge := walkE_ge (g := g) (t := t) (f + 1) i p q s h
  simp only [walkE] at h h2 hge
  split at h
  ·rename_i hi
   rw [if_pos hi] at h2 hge
   split at h
   ·rename_i hf
    rw [if_pos hf] at h2 hge
    have hl := (fitV_iff.1 hf).2.2.2.2.1
    by_cases e : j = i
    ·subst e
     have := kidsW_len (w := walkE g t f) (fun a p q s h => (walkE_ge f a p q s h).1) _ _ 0 ((j : Int) + 1) hl (by omega) h
     omega
    ·exact kidsW_all (w := walkE g t f) (n := t.length) (P := fun j => (t.getD j nodZ).kids.length ≤ t.length) (fun a p q s h => walkE_ge f a p q s h) (fun a p q s h j h1 h2 => walkE_kl f a p q s h j h1 h2) _ _ 0 ((i : Int) + 1) (by omega) h j (by omega) h2
   ·omega
  ·omega
theorem tree_kl {g : Gram} {t : List Nod} {s : ByteArray} (h : treeOf g t s = true) {i : Nat} (hi : i < t.length) : t[i].kids.length ≤ 16 := by
 obtain ⟨h0, _, h1⟩ := treeOf_parts h
 have := walkE_kl (g := g) (t := t) t.length 0 (-1) 0 s (by omega) i (by omega) (by rw [h1]; omega)
 rw [getD_lt hi] at this
 omega
theorem tree_ids {g : Gram} {t : List Nod} {s : ByteArray} (h : treeOf g t s = true) {i : Nat} (hi : i < t.length) : (nodeIds t i).length ≤ 1048576 := by
 rw [nodeIds_in hi]
 have := idsAt_len t ((i : Int) :: t[i].kids)
 have := tree_kl h hi
 simp only [List.length_cons] at *
 omega
theorem slA_len {g : Gram} {t : List Nod} {L : List Oc} {vs ks : List Int} (hg : smGr g) : ∀ n, (slA g t L vs ks n).length ≤ n * 1048576
 | 0 => by simp [slA]
 | n + 1 => by
  have h1 := smSy_f hg (symN g t (ks.getD n 0))
  unfold smSy at h1
  have := slA_len (g := g) (t := t) (L := L) (vs := vs) (ks := ks) hg n
  simp only [slA, slK, List.length_append, List.length_map]
  omega
end Go.Gh
/- The static run. -/
namespace Go.Gh
set_option linter.unusedSimpArgs false
set_option linter.unusedVariables false
theorem ordT_mem {T : List (List Int)} : ∀ (f : Nat) (out L : List Int), ordT T f out = some L → (∀ k ∈ out, 0 ≤ k ∧ k < (T.length : Int)) → ∀ k ∈ L, 0 ≤ k ∧ k < (T.length : Int)
 | 0, out, L, h, ho => by
  simp only [ordT, Option.some.injEq] at h
  subst h
  exact ho
 | f + 1, out, L, h, ho => by
  simp only [ordT] at h
  split at h
  ·rename_i hf
   refine ordT_mem f _ _ h fun k hk => ?_
   rcases List.mem_append.1 hk with hk | hk
   ·exact ho k hk
   ·have e : k = firstI T.length (rdyT T out) := by simpa using hk
    rcases firstI_rng T.length (rdyT T out) with h1 | h1
    ·omega
    ·rw [e]; exact h1
  ·cases h
theorem ordL_mem (T : List (List Int)) : ∀ k ∈ ordL T, 0 ≤ k ∧ k < (T.length : Int) := by
 unfold ordL
 cases h : ordT T T.length [] with
 | none => simp
 | some L => exact ordT_mem _ _ _ h (by simp)
def runV (g : Gram) (t : List Nod) (L : List Oc) (O : List Int) : Nat → List Int
 | 0 => List.replicate L.length 0
 | k + 1 => (runV g t L O k).set (O.getD k 0).toNat (vaX g t L (runV g t L O k) (L.getD (O.getD k 0).toNat (0, noS)))
theorem runV_len (g : Gram) (t : List Nod) (L : List Oc) (O : List Int) : ∀ k, (runV g t L O k).length = L.length
 | 0 => by simp [runV]
 | k + 1 => by simp only [runV, List.length_set]; exact runV_len g t L O k
def runB (g : Gram) (t : List Nod) : Bool := staS g && (treeOf g t (symN g t 0) && ordB (tabI g t))
def runL (g : Gram) (t : List Nod) : List Int := if runB g t = true then runV g t (insL g t) (ordL (tabI g t)) (ordL (tabI g t)).length else []
theorem runV_s {g : Gram} {t : List Nod} {L : List Oc} {O : List Int} {k j : Nat} (h : k < O.length) (hj : O[k] = j) (hjl : j < L.length) : runV g t L O (k + 1) = (runV g t L O k).set j (vaX g t L (runV g t L O k) L[j]) := by
 simp only [runV, getD_lt h, hj, Int.toNat_natCast, getD_lt hjl]
theorem insL_no {g : Gram} {t : List Nod} (h : treeOf g t (symN g t 0) = false) : insL g t = [] := by
 unfold insL
 rw [if_neg (by rw [h]; simp)]
end Go.Gh
namespace Go.Gh
@[irreducible] def MkQ (p : Prop) : Prop := p
theorem qI {p : Prop} (h : MkQ p) : p := by unfold MkQ at h; exact h
theorem qU {p : Prop} (h : p) : MkQ p := by unfold MkQ; exact h
theorem VQ : type_of% (And.intro @hget_c (And.intro @hset_c (And.intro @hdel_c (And.intro @neN (And.intro @neA_cons (And.intro @neA_nil @vIte)))))) := (And.intro @hget_c (And.intro @hset_c (And.intro @hdel_c (And.intro @neN (And.intro @neA_cons (And.intro @neA_nil @vIte))))))
theorem VN : type_of% (And.intro @neH_cons (And.intro @neH_nil (And.intro @neA_cons (And.intro @neA_nil (And.intro @and_true @true_and))))) := (And.intro @neH_cons (And.intro @neH_nil (And.intro @neA_cons (And.intro @neA_nil (And.intro @and_true @true_and)))))
open Nat (reduceEqDiff reduceLeDiff reduceAdd reduceLT)
open Int (reduceNe)
theorem aO {a b : Prop} (k : b) (h : a := by omega) : a ∧ b := And.intro h k
theorem eO {a : Prop} {b : a → Prop} (h : a := by omega) (k : b h) : ∃ h, b h := Exists.intro h k
theorem jO {a b : Prop} (x : a) (y : b) : a ∧ b := And.intro x y
theorem V0 {p q : Prop} (k : q) (h : q → p := by intro k; first | ((try simp (maxSteps := 9^7) +contextual only [↓ S2, S2, ↓reduceIte, reduceNe, reduceEqDiff, reduceCtorEq, reduceLeDiff, reduceAdd, reduceLT, VQ]); (repeat (simp only [brGen]; try simp (maxSteps := 9^7) +contextual only [↓ S2, S2, ↓reduceIte, reduceNe, reduceEqDiff, reduceCtorEq, reduceLeDiff, reduceAdd, reduceLT, VQ])); (try simp +contextual (disch := omega) only [Z2]); exact k) | (have _ : True := k; (try simp (maxSteps := 9^7) +contextual only [↓ S2, S2, ↓reduceIte, reduceNe, reduceEqDiff, reduceCtorEq, reduceLeDiff, reduceAdd, reduceLT, VQ]); (repeat (simp only [brGen]; try simp (maxSteps := 9^7) +contextual only [↓ S2, S2, ↓reduceIte, reduceNe, reduceEqDiff, reduceCtorEq, reduceLeDiff, reduceAdd, reduceLT, VQ])); (try simp +contextual (disch := omega) only [Z2]); done)) : p := h k
theorem V1 {p q f : Prop} (a : f) (k : q) (h : f → q → p := by intro a k; first | ((try simp (maxSteps := 9^7) +contextual only [↓ S2, S2, ↓reduceIte, reduceNe, reduceEqDiff, reduceCtorEq, reduceLeDiff, reduceAdd, reduceLT, VQ, a]); (repeat (simp only [brGen]; try simp (maxSteps := 9^7) +contextual only [↓ S2, S2, ↓reduceIte, reduceNe, reduceEqDiff, reduceCtorEq, reduceLeDiff, reduceAdd, reduceLT, VQ, a])); (try simp +contextual (disch := omega) only [Z2, a]); first | exact k | (revert a; exact k)) | (have _ : True := k; (try simp (maxSteps := 9^7) +contextual only [↓ S2, S2, ↓reduceIte, reduceNe, reduceEqDiff, reduceCtorEq, reduceLeDiff, reduceAdd, reduceLT, VQ, a]); (repeat (simp only [brGen]; try simp (maxSteps := 9^7) +contextual only [↓ S2, S2, ↓reduceIte, reduceNe, reduceEqDiff, reduceCtorEq, reduceLeDiff, reduceAdd, reduceLT, VQ, a])); (try simp +contextual (disch := omega) only [Z2, a]); done)) : p := h a k
theorem V2 {p q f : Prop} (a : f) (k : q) (h : f → q → p := by intro a k; first | ((try simp (maxSteps := 9^7) +contextual only [↓ S2, S2, ↓reduceIte, reduceNe, reduceEqDiff, reduceCtorEq, reduceLeDiff, reduceAdd, reduceLT, VQ, Int.reduceEq, Int.reduceLT, Int.reduceLE, Int.reduceToNat, a]); (repeat (simp only [brGen]; try simp (maxSteps := 9^7) +contextual only [↓ S2, S2, ↓reduceIte, reduceNe, reduceEqDiff, reduceCtorEq, reduceLeDiff, reduceAdd, reduceLT, VQ, Int.reduceEq, Int.reduceLT, Int.reduceLE, Int.reduceToNat, a])); (try simp +contextual (disch := omega) only [Z2, a]); first | exact k | (revert a; exact k)) | (have _ : True := k; (try simp (maxSteps := 9^7) +contextual only [↓ S2, S2, ↓reduceIte, reduceNe, reduceEqDiff, reduceCtorEq, reduceLeDiff, reduceAdd, reduceLT, VQ, Int.reduceEq, Int.reduceLT, Int.reduceLE, Int.reduceToNat, a]); (repeat (simp only [brGen]; try simp (maxSteps := 9^7) +contextual only [↓ S2, S2, ↓reduceIte, reduceNe, reduceEqDiff, reduceCtorEq, reduceLeDiff, reduceAdd, reduceLT, VQ, Int.reduceEq, Int.reduceLT, Int.reduceLE, Int.reduceToNat, a])); (try simp +contextual (disch := omega) only [Z2, a]); done)) : p := h a k
theorem R0 {p q : Prop} (k : q) (h : q → p := by intro k; first | ((try simp (maxSteps := 9^7) only [↓ S2, S2, vIte, ↓reduceIte, reduceNe, reduceEqDiff, reduceCtorEq, reduceLeDiff, reduceAdd, reduceLT]); (repeat (simp only [brGen]; try simp (maxSteps := 9^7) only [↓ S2, S2, vIte, ↓reduceIte, reduceNe, reduceEqDiff, reduceCtorEq, reduceLeDiff, reduceAdd, reduceLT])); (try simp +contextual (disch := omega) only [Z2]); exact k) | (have _ : True := k; (try simp (maxSteps := 9^7) only [↓ S2, S2, vIte, ↓reduceIte, reduceNe, reduceEqDiff, reduceCtorEq, reduceLeDiff, reduceAdd, reduceLT]); (repeat (simp only [brGen]; try simp (maxSteps := 9^7) only [↓ S2, S2, vIte, ↓reduceIte, reduceNe, reduceEqDiff, reduceCtorEq, reduceLeDiff, reduceAdd, reduceLT])); (try simp +contextual (disch := omega) only [Z2]); done)) : p := h k
theorem R1 {p q f : Prop} (a : f) (k : q) (h : f → q → p := by intro a k; first | ((try simp (maxSteps := 9^7) only [↓ S2, S2, vIte, ↓reduceIte, reduceNe, reduceEqDiff, reduceCtorEq, reduceLeDiff, reduceAdd, reduceLT, a]); (repeat (simp only [brGen]; try simp (maxSteps := 9^7) only [↓ S2, S2, vIte, ↓reduceIte, reduceNe, reduceEqDiff, reduceCtorEq, reduceLeDiff, reduceAdd, reduceLT, a])); (try simp +contextual (disch := omega) only [Z2, a]); first | exact k | (revert a; exact k)) | (have _ : True := k; (try simp (maxSteps := 9^7) only [↓ S2, S2, vIte, ↓reduceIte, reduceNe, reduceEqDiff, reduceCtorEq, reduceLeDiff, reduceAdd, reduceLT, a]); (repeat (simp only [brGen]; try simp (maxSteps := 9^7) only [↓ S2, S2, vIte, ↓reduceIte, reduceNe, reduceEqDiff, reduceCtorEq, reduceLeDiff, reduceAdd, reduceLT, a])); (try simp +contextual (disch := omega) only [Z2, a]); done)) : p := h a k
theorem X0 {p q : Prop} (k : q) (h : q → p := by intro k; first | ((try simp (maxSteps := 9^7) only [↓ S2, S2, vIte, ↓reduceIte, reduceNe, reduceEqDiff, reduceCtorEq, reduceLeDiff, reduceAdd, reduceLT]); exact k) | (have _ : True := k; (try simp (maxSteps := 9^7) only [↓ S2, S2, vIte, ↓reduceIte, reduceNe, reduceEqDiff, reduceCtorEq, reduceLeDiff, reduceAdd, reduceLT]); done)) : p := h k
theorem K0 {p q : Prop} (k : q) (h : q → p := by intro k; first | (simp (maxSteps := 9^7) only [↓ S2, S2, vIte, ↓reduceIte, reduceNe, reduceEqDiff, reduceCtorEq, reduceLeDiff, reduceAdd, reduceLT]; exact k) | (simp only [brGen]; exact k) | (simp +contextual (disch := omega) only [Z2]; exact k) | (have _ : True := k; simp (maxSteps := 9^7) only [↓ S2, S2, vIte, ↓reduceIte, reduceNe, reduceEqDiff, reduceCtorEq, reduceLeDiff, reduceAdd, reduceLT]; done) | (have _ : True := k; simp only [brGen]; done) | (have _ : True := k; simp +contextual (disch := omega) only [Z2]; done)) : p := h k
theorem K1 {p q f : Prop} (a : f) (k : q) (h : f → q → p := by intro a k; first | (simp (maxSteps := 9^7) only [↓ S2, S2, vIte, ↓reduceIte, reduceNe, reduceEqDiff, reduceCtorEq, reduceLeDiff, reduceAdd, reduceLT, a]; first | exact k | (revert a; exact k)) | (simp only [brGen]; first | exact k | (revert a; exact k)) | (simp +contextual (disch := omega) only [Z2]; first | exact k | (revert a; exact k)) | (have _ : True := k; simp (maxSteps := 9^7) only [↓ S2, S2, vIte, ↓reduceIte, reduceNe, reduceEqDiff, reduceCtorEq, reduceLeDiff, reduceAdd, reduceLT, a]; done) | (have _ : True := k; simp only [brGen]; done) | (have _ : True := k; simp +contextual (disch := omega) only [Z2]; done)) : p := h a k
theorem oF {p : Prop} (h : False := by omega) : p := h.elim
theorem nL (a b : Nat) : a < b ∨ a ≥ b := Nat.lt_or_ge a b
theorem gM {α : Type} {l : List α} {n : Nat} (h : n < l.length) : l[n] ∈ l := List.getElem_mem h
theorem tL {α : Type} {l : List α} {i : Nat} (h : l.length ≤ i) : l.take i = l := List.take_of_length_le h
theorem bC (b : Bool) : b = false ∨ b = true := (Bool.eq_false_or_eq_true b).symm
theorem hgO {r q : Nat} (h : r ≠ q) (x : Nat × List GV) (H : GH) : hget ((r, x) :: H) q = hget H q := hget_old h
theorem hsO {r q : Nat} (h : r ≠ q) (s : Nat) (e f : List GV) (H : GH) : hset ((r, s, e) :: H) q f = (r, s, e) :: hset H q f := hset_old h
theorem hdO {r q : Nat} (h : r ≠ q) (x : Nat × List GV) (H : GH) : hdel ((r, x) :: H) q = (r, x) :: hdel H q := hdel_old h
theorem hgS {r s : Nat} {e : List GV} {H : GH} (h : hget H r = some (s, e)) (f : List GV) : hget (hset H r f) r = some (s, f) := hget_set h
end Go.Gh
/- Short words for ghost code. -/
namespace Go.Gh.Z
abbrev x (d : Nat) (o : GOp) : GI := ⟨some d, none, o⟩
abbrev y (d g : Nat) (o : GOp) : GI := ⟨some d, some (g, true), o⟩
abbrev z (d g : Nat) (o : GOp) : GI := ⟨some d, some (g, false), o⟩
abbrev m (d a : Nat) : GI := ⟨some d, none, .mov (.t a)⟩
abbrev k (d : Nat) (n : Int) : GI := ⟨some d, none, .mov (.k (.val (.int .i64 n)))⟩
abbrev b (d : Nat) (n : Bool) : GI := ⟨some d, none, .mov (.k (.val (.bool n)))⟩
abbrev l (d a : Nat) : GI := ⟨some d, none, .load 1 false (.t a)⟩
abbrev h (d n a : Nat) : GI := ⟨some d, none, .load n true (.t a)⟩
abbrev f (d o a : Nat) : GI := ⟨some d, none, .faddr o 1 false (.t a)⟩
abbrev e (d o n a : Nat) : GI := ⟨some d, none, .faddr o n true (.t a)⟩
abbrev i (d n a c : Nat) : GI := ⟨some d, none, .iaddr n (.t a) (.t c)⟩
abbrev c (d f : Nat) (a : List GE) : GI := ⟨some d, none, .call false f a⟩
abbrev o (d : Nat) (p : BinOp) (a b : Nat) : GI := ⟨some d, none, .bin p (.t a) (.t b)⟩
abbrev q (d : Nat) (p : BinOp) (a : Nat) (n : Int) : GI := ⟨some d, none, .bin p (.t a) (.k (.val (.int .i64 n)))⟩
abbrev n (d a : Nat) : GI := ⟨some d, none, .len (.t a)⟩
abbrev w (d a : Nat) : GI := ⟨some d, none, .not (.t a)⟩
abbrev a (d n r : Nat) : GI := ⟨some d, none, .boxro n (.t r)⟩
abbrev t (d n r : Nat) : GI := ⟨some d, none, .stro n d (.t r)⟩
abbrev u (d n : Nat) : GI := ⟨some d, none, .allocr n⟩
abbrev v (d r j : Nat) : GI := ⟨some d, none, .ext (.t r) j⟩
abbrev p (n o a : Nat) : GOp := .faddr o n false (.t a)
abbrev r (n a : Nat) : GOp := .load n false (.t a)
abbrev j (n a : Nat) : GOp := .load n true (.t a)
abbrev C (c e : Nat) (x : GC) : GC := .seq (.cond c .skip (.exit e)) x
abbrev B (n : Nat) (x : GC) : GC := .block n (.loop x)
abbrev s (a : List GI) (b : GC) : GC := .seq (.reg a) b
end Go.Gh.Z
namespace Go.Gh
theorem jF {P : Program} {f : Nat} {fn : Func} {F : GFun} {c : Code} (h : P.funcs[f]? = some fn) (md : List (Nat × Nat) := []) (h0 : fn.body = some c := by rfl) (h1 : (fn.name == "runtime.NumGoroutine") = false := by kernel_rfl) (h2 : compC P F.cf md c = some F.gc := by kernel_rfl) (h3 : compRes P fn.results.toList = some F.gr := by kernel_rfl) (h4 : fn.ntmps = F.cf.N := by rfl) : IsFun P f F := ⟨fn, c, md, h, h1, h0, h2, h3, h4⟩
end Go.Gh
