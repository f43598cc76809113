/- The law FnExactFormatTree returns true whatever the input, and the input reads behind the call as before. No condition. -/
import Derived.Test.YtbdmpkidcpblaaaGreatDoorLib2
import Derived.Lib.ItoaNum
import Derived.Lib.LaidTab
import Derived.Sort.Grow
import Derived.Shelf.Strconv.Itoa3
import Derived.Deep.Draws
import Derived.LaidMore
import Derived.OpenShut
import Derived.Stop.Joined
import Derived.SevenTiedAt
import Derived.Shelf.SlSortCmp.NoneTotal
import Derived.Laws.Cover1
import Derived.Deep.RegionHeld3
import Derived.Shelf.SlGeneric
import Derived.Test.YtbdmpkidcpblaaaGreatDoorRows
import Derived.Test.YtbdmpkidcpblaaaGreatDoorChecked
import Derived.KernelRfl
import Derived.Test.YtbdmpkidcpblaaaGreatDoorCards
import Derived.Test.YtbdmpkidcpblaaaGreatDoorTie
/- The program's data as plain data, and their ghosts. -/
namespace Go.Gh
set_option linter.unusedSimpArgs false
set_option linter.unusedVariables false
abbrev T (s : ByteArray) : GV := .val (.string s)
theorem chars_inj {s t : ByteArray} : chars s = chars t ↔ s = t := by
  constructor
  · intro h; obtain ⟨a⟩ := s; obtain ⟨b⟩ := t; simp only [chars] at h; congr 1; exact Array.ext' h
  · rintro rfl; rfl
@[ext] structure Nod where
  id : Int
  parent : Int
  place : Int
  lit : Int
  rule : ByteArray
  kids : List Int
deriving DecidableEq
abbrev Nd (x : Nod) : GV := .agg [I x.id, I x.parent, I x.place, I x.lit, T x.rule, IS x.kids]
abbrev NdS (l : List Nod) : GV := .sl 6 (l.map Nd)
abbrev wNd (x : Nod) : Nat := (chars x.rule).length + x.kids.length
@[ext] structure Slo where
  pos : Int
  name : ByteArray
  val : Int
deriving DecidableEq
abbrev Occ (x : Int × ByteArray) : GV := .agg [I x.1, T x.2]
abbrev wOcc (x : Int × ByteArray) : Nat := (chars x.2).length
abbrev Tr (l : List Nod) : GV := .agg [NdS l]
theorem e_nil (e : Env) : subE e [] = True := (rfl)
theorem e_cons (e : Env) (j : Nat) (g : GV) (r : Env) : subE e ((j, g) :: r) = (eget e j = some g ∧ subE e r) := (rfl)
theorem n_val (v : Value) : nraw (.val v) = true := (rfl)
theorem n_sl (sz : Nat) (es : List GV) : nraw (.sl sz es) = true := (rfl)
theorem n_agg (cs : List GV) : nraw (.agg cs) = true := (rfl)
theorem n_rop (sz : Nat) (g : GV) : nraw (.rop sz g) = true := (rfl)
theorem n_ptr (r sz i o : Nat) : nraw (.ptr r sz i o) = true := (rfl)
theorem n_own (r sz k n : Nat) : nraw (.own r sz k n) = true := (rfl)
theorem n_clo (f : Nat) (cs : List GV) : nraw (.clo f cs) = true := (rfl)
theorem n_tup (cs : List GV) : nraw (.tup cs) = true := (rfl)
theorem E2 : type_of% (And.intro @e_nil (And.intro @e_cons (And.intro @n_val (And.intro @n_sl (And.intro @n_agg (And.intro @n_rop (And.intro @n_ptr (And.intro @n_own (And.intro @n_clo (And.intro @n_tup (And.intro @x_get @Option.some.injEq.{0}))))))))))) :=
  And.intro @e_nil (And.intro @e_cons (And.intro @n_val (And.intro @n_sl (And.intro @n_agg (And.intro @n_rop (And.intro @n_ptr (And.intro @n_own (And.intro @n_clo (And.intro @n_tup (And.intro @x_get @Option.some.injEq.{0}))))))))))
theorem maxLv : maxL = 9223372036854775807 := (rfl)
theorem Z2 : type_of% (And.intro @Int.ofNat_lt (And.intro @Int.natCast_nonneg (And.intro @true_and (And.intro @u_ext (And.intro @exists_prop_of_true (And.intro @Int.natCast_zero (And.intro @chars_inj (And.intro @Int.natCast_inj (And.intro maxLv (And.intro @not_true_eq_false (And.intro @false_implies (And.intro @true_implies (And.intro @and_true (And.intro @implies_true.{0} @wrap64)))))))))))))) :=
  And.intro @Int.ofNat_lt (And.intro @Int.natCast_nonneg (And.intro @true_and (And.intro @u_ext (And.intro @exists_prop_of_true (And.intro @Int.natCast_zero (And.intro @chars_inj (And.intro @Int.natCast_inj (And.intro maxLv (And.intro @not_true_eq_false (And.intro @false_implies (And.intro @true_implies (And.intro @and_true (And.intro @implies_true.{0} @wrap64)))))))))))))
theorem lenOk_map {α : Type} {f : α → GV} {l : List α} (h : LenOkL (l.map f)) : ∀ x ∈ l, LenOk (f x) := fun x hx => h.all _ (List.mem_map.2 ⟨x, hx, rfl⟩)
theorem lenTr {l : List Nod} (h : LenOk (Tr l)) : l.length ≤ 9223372036854775807 ∧ ∀ x ∈ l, x.kids.length ≤ 9223372036854775807 := by
  simp only [LenOk, LenOkL, List.length_map, maxL] at h
  refine ⟨h.1.1, fun x hx => ?_⟩
  have := lenOk_map h.1.2 x hx
  simp only [LenOk, LenOkL, List.length_map, maxL] at this
  exact this.2.2.2.2.2.1.1
end Go.Gh

/- What the program computes, in plain words: trees. -/
namespace Go.Gh
set_option linter.unusedSimpArgs false
set_option linter.unusedVariables false
end Go.Gh
namespace Go.Gh
end Go.Gh
namespace Go.Gh
theorem sum_mem {α : Type} (f : α → Nat) : ∀ (l : List α) (x : α), x ∈ l → f x ≤ (l.map f).sum
  | y :: l, x, h => by
    simp only [List.map_cons, List.sum_cons]
    rcases List.mem_cons.1 h with rfl | h
    · omega
    · have := sum_mem f l x h; omega
theorem szTr {t : List Nod} {left : Int} (h : ¬ szv left (wtS wNd t) < 0) (hl : left ≤ 1048576 := by omega) : t.length ≤ 1048576 ∧ ∀ x ∈ t, x.kids.length ≤ 1048576 := by
  have h1 := szv_nn h
  simp only [wtS] at h1
  refine ⟨by omega, fun x hx => ?_⟩
  have := sum_mem wNd t x hx
  simp only [wNd] at this h1
  omega
end Go.Gh
namespace Go.Gh
theorem take_eq_step {α : Type} {xs ys : List α} {i : Nat} (hp : xs.take i = ys.take i) (h1 : i < xs.length) (h2 : i < ys.length) (h : xs[i] = ys[i]) : xs.take (i + 1) = ys.take (i + 1) := by
  rw [List.take_add_one, List.take_add_one, hp, List.getElem?_eq_getElem h1, List.getElem?_eq_getElem h2, h]
end Go.Gh
namespace Go.Gh
theorem bEq {p q : Prop} [Decidable p] [Decidable q] (h : p ↔ q) : B (decide p) = B (decide q) := by
  have : decide p = decide q := by by_cases hp : p <;> simp [hp, ← h]
  rw [this]
end Go.Gh
namespace Go.Gh
theorem exP {p : Prop} {q : p → Prop} (h : p) (hq : q h) : ∃ h, q h := ⟨h, hq⟩
end Go.Gh
namespace Go.Gh
end Go.Gh
namespace Go.Gh
end Go.Gh
namespace Go.Gh
theorem find_hit {α : Type} {p : α → Bool} : ∀ {xs : List α} {i : Nat} (h : i < xs.length), p xs[i] = true → (∀ a ∈ xs.take i, p a = false) → xs.find? p = some xs[i]
  | x :: xs, 0, _, hp, _ => by simp at hp; simp [hp]
  | x :: xs, i + 1, h, hp, hn => by
    have h1 : p x = false := hn x (by simp)
    simp only [List.find?_cons, h1]
    simpa using find_hit (p := p) (xs := xs) (i := i) (by simpa using h) (by simpa using hp) (fun a ha => hn a (by simp [ha]))
theorem find_none {α : Type} {p : α → Bool} {xs : List α} (hn : ∀ a ∈ xs, p a = false) : xs.find? p = none := by
  rw [List.find?_eq_none]; intro x hx; simp [hn x hx]
end Go.Gh

/- The laws' own functions on slices, whatever the element: sizes, copies, comparisons. -/
namespace Go.Gh
set_option linter.unusedSimpArgs false
set_option linter.unusedVariables false
set_option maxRecDepth 20000
section
variable {P : Program} {α : Type} {f : α → GV} {k kx sz : Nat} {det ag : Bool}
theorem eqS (mxd : P.follows .mixedOrders = true) (hF : IsFun P k ⟨⟨27, []⟩,
  (.seq (.reg [(.mk (some 4) none (.mov (.k (.val (.bool false)))))]) (.seq (.seq (.reg [(.mk (some 6) none (.mov (.t 0))), (.mk (some 7) none (.len (.t 6))), (.mk (some 8) none (.mov (.t 1))), (.mk (some 9) none (.len
  (.t 8))), (.mk (some 10) none (.bin .neq (.t 7) (.t 9)))]) (.cond 10 (.seq (.reg [(.mk (some 4) none (.mov (.k (.val (.bool false)))))]) .ret) .skip)) (.seq (.seq (.reg [(.mk (some 5) none (.mov (.k (.val (.int .i64
  0)))))]) (.block 0 (.loop (.seq (.seq (.reg [(.mk (some 11) none (.mov (.t 5))), (.mk (some 12) none (.mov (.t 0))), (.mk (some 13) none (.len (.t 12))), (.mk (some 14) none (.bin .lss (.t 11) (.t 13)))]) (.cond 14
  .skip (.exit 0))) (.seq (.block 1 (.seq (.reg [(.mk (some 17) none (.mov (.t 0))), (.mk (some 18) none (.mov (.t 5))), (.mk (some 19) none (.iaddr sz (.t 17) (.t 18))), (.mk (some 21) none (.mov (.t 1))), (.mk (some
  22) none (.mov (.t 5))), (.mk (some 23) none (.iaddr sz (.t 21) (.t 22))), (.mk (some 20) none (.load sz ag (.t 19))), (.mk (some 24) none (.load sz ag (.t 23))), (.mk (some 25) none (.call det kx [(.t 20), (.t
  24)])), (.mk (some 26) none (.not (.t 25)))]) (.cond 26 (.seq (.reg [(.mk (some 4) none (.mov (.k (.val (.bool false)))))]) .ret) .skip))) (.reg [(.mk (some 15) none (.mov (.t 5))), (.mk (some 16) none (.bin .add (.t
  15) (.k (.val (.int .i64 1))))), (.mk (some 5) none (.mov (.t 16)))])))))) (.seq (.reg [(.mk (some 4) none (.mov (.k (.val (.bool true)))))]) .ret)))), [.t 4]⟩)
    [DecidableEq α] (hag : ∀ a, isAgg (f a) = ag) (hr : ∀ a, geR (some (f a)) = some (f a)) (xs ys : List α) (hx : ∀ a ∈ xs, ∀ b ∈ ys, Pure P kx [f a, f b] (· = B (decide (a = b)))) :
    Pure P k [.sl sz (xs.map f), .sl sz (ys.map f)] (· = B (decide (xs = ys))) := by
  refine GCalls.lenA fun hl => ?_
  have hlen := hl.1.1
  simp only [List.length_map, maxL] at hlen
  refine gstart mxd hF rfl (by simp) ?_
  ((try simp only [↓ S2, S2, ↓reduceIte, Nat.reduceEqDiff, reduceCtorEq, Nat.reduceLeDiff, Nat.reduceAdd, Nat.reduceLT, hr, hag]); (try simp only [brGen]; try simp only [↓ S2, S2, ↓reduceIte, Nat.reduceEqDiff, reduceCtorEq, Nat.reduceLeDiff, Nat.reduceAdd, Nat.reduceLT, hr, hag]); (try simp +contextual (disch := omega) only [Z2]); (repeat' (first | (with_reducible intro h) | (with_reducible refine And.intro (by omega) ?_) | (with_reducible refine exP (by omega) ?_) | (with_reducible apply And.intro))))
  rotate_left
  · simp; rintro rfl; exact h rfl
  refine wloop mxd (ι := { i : Nat // i ≤ xs.length ∧ xs.take i = ys.take i }) (fun i => [(0, .sl sz (xs.map f)), (1, .sl sz (ys.map f)), (5, I i.1)]) (fun _ => []) (fun i => xs.length - i.1) ⟨0, by simp⟩ (by simp [E2]) rfl ?_
  rintro ⟨i, hi, hp⟩
  ((try simp only [↓ S2, S2, ↓reduceIte, Nat.reduceEqDiff, reduceCtorEq, Nat.reduceLeDiff, Nat.reduceAdd, Nat.reduceLT, hr, hag]); (try simp only [brGen]; try simp only [↓ S2, S2, ↓reduceIte, Nat.reduceEqDiff, reduceCtorEq, Nat.reduceLeDiff, Nat.reduceAdd, Nat.reduceLT, hr, hag]); (try simp +contextual (disch := omega) only [Z2]); (repeat' (first | (with_reducible intro h) | (with_reducible refine And.intro (by omega) ?_) | (with_reducible refine exP (by omega) ?_) | (with_reducible apply And.intro))))
  · refine callS.eq (hx xs[i] (List.getElem_mem _) ys[i] (List.getElem_mem _)) ?_
    ((try simp only [↓ S2, S2, ↓reduceIte, Nat.reduceEqDiff, reduceCtorEq, Nat.reduceLeDiff, Nat.reduceAdd, Nat.reduceLT, hr, hag]); (try simp only [brGen]; try simp only [↓ S2, S2, ↓reduceIte, Nat.reduceEqDiff, reduceCtorEq, Nat.reduceLeDiff, Nat.reduceAdd, Nat.reduceLT, hr, hag]); (try simp +contextual (disch := omega) only [Z2]); (repeat' (first | (with_reducible intro h) | (with_reducible refine And.intro (by omega) ?_) | (with_reducible refine exP (by omega) ?_) | (with_reducible apply And.intro))))
    · exact nx ⟨i + 1, by omega, take_eq_step hp (by omega) (by omega) h⟩ (by simp; omega) (by simp [E2]) rfl
    · simp; rintro rfl; simp at h
  · have : i = xs.length := by omega
    subst this
    rw [List.take_of_length_le (by omega), List.take_of_length_le (by omega)] at hp
    simp [hp]
theorem toSo (mxd : P.follows .mixedOrders = true) {bytes : Nat} {z : GV} (hF : IsFun P k ⟨⟨23, []⟩,
  (.seq (.reg [(.mk (some 2) none (.mov (.k (.val (.slice none 0 0)))))]) (.seq (.reg [(.mk (some 5) none (.mov (.t 0))), (.mk (some 6) none (.len (.t 5))), (.mk (some 7) none (.mkslice sz bytes z (.t 6) (.t 6))), (.mk (some 3) none (.mov (.t 7)))]) (.seq (.seq (.reg [(.mk (some 4) none (.mov (.k (.val (.int .i64 0)))))]) (.block 0 (.loop (.seq (.seq (.reg [(.mk (some 8)
  none (.mov (.t 4))), (.mk (some 9) none (.mov (.t 0))), (.mk (some 10) none (.len (.t 9))), (.mk (some 11) none (.bin .lss (.t 8) (.t 10)))]) (.cond 11 .skip (.exit 0))) (.seq (.block 1 (.reg [(.mk (some 14) none
  (.mov (.t 3))), (.mk (some 15) none (.mov (.t 4))), (.mk (some 16) none (.mov (.t 0))), (.mk (some 17) none (.mov (.t 4))), (.mk (some 18) none (.iaddr sz (.t 16) (.t 17))), (.mk (some 19) none (.load sz ag (.t 18))),
  (.mk (some 20) none (.call det kx [(.t 19)])), (.mk (some 21) none (.iaddr sz (.t 14) (.t 15))), (.mk none none (.store sz (.t 21) (.t 20)))])) (.reg [(.mk (some 12) none (.mov (.t 4))), (.mk (some 13) none (.bin .add
  (.t 12) (.k (.val (.int .i64 1))))), (.mk (some 4) none (.mov (.t 13)))])))))) (.seq (.reg [(.mk (some 22) none (.mov (.t 3))), (.mk (some 2) none (.mov (.t 22)))]) .ret)))), [.t 2]⟩)
    (hag : ∀ a, isAgg (f a) = ag) (hr : ∀ a, geR (some (f a)) = some (f a)) (hsz : ∀ a, gsize (f a) = sz) (hst : ∀ a, storable (f a) = true) (xs : List α) (hlen : xs.length ≤ 1048576) (hb : bytes ≤ 1024)
    (hx : ∀ a ∈ xs, Pure P kx [f a] (· = f a)) (H : GH) :
    GCalls P k [.sl sz (xs.map f)] H (fun g H' => ∃ r, g = .own r sz 0 xs.length ∧ H' = (r, sz, xs.map f) :: H) := by
  have hbb : (bytes : Int) * (xs.length : Int) ≤ 281474976710656 := by
    have h1 : bytes * xs.length ≤ 1073741824 := Nat.le_trans (Nat.mul_le_mul hb hlen) (by decide)
    have h2 : ((bytes * xs.length : Nat) : Int) ≤ 1073741824 := by omega
    rw [Int.natCast_mul] at h2
    omega
  refine gstart mxd hF rfl (by simp) ?_
  simp only [↓ S2, S2, ↓reduceIte, Nat.reduceEqDiff, reduceCtorEq, Nat.reduceLeDiff, Nat.reduceAdd, Nat.reduceLT, hr, hag]
  refine ⟨by omega, by omega, hbb, by omega, fun r hr' => ?_⟩
  refine wloop mxd (ι := { i : Nat // i ≤ xs.length }) (fun i => [(0, .sl sz (xs.map f)), (3, .own r sz 0 xs.length), (4, I i.1)]) (fun i => (r, sz, (xs.take i.1).map f ++ List.replicate (xs.length - i.1) z) :: H) (fun i => xs.length - i.1) ⟨0, by simp⟩ (by simp [E2]) (by simp) ?_
  rintro ⟨i, hi⟩
  ((try simp only [↓ S2, S2, ↓reduceIte, Nat.reduceEqDiff, reduceCtorEq, Nat.reduceLeDiff, Nat.reduceAdd, Nat.reduceLT, hr, hag]); (try simp only [brGen]; try simp only [↓ S2, S2, ↓reduceIte, Nat.reduceEqDiff, reduceCtorEq, Nat.reduceLeDiff, Nat.reduceAdd, Nat.reduceLT, hr, hag]); (try simp +contextual (disch := omega) only [Z2]); (repeat' (first | (with_reducible intro h) | (with_reducible refine And.intro (by omega) ?_) | (with_reducible refine exP (by omega) ?_) | (with_reducible apply And.intro))))
  · refine callS.eq (hx xs[i] (List.getElem_mem _)) ?_
    ((try simp only [↓ S2, S2, ↓reduceIte, Nat.reduceEqDiff, reduceCtorEq, Nat.reduceLeDiff, Nat.reduceAdd, Nat.reduceLT, hr, hag, hsz, hst, stw]); (try simp only [brGen]; try simp only [↓ S2, S2, ↓reduceIte, Nat.reduceEqDiff, reduceCtorEq, Nat.reduceLeDiff, Nat.reduceAdd, Nat.reduceLT, hr, hag, hsz, hst, stw]); (try simp +contextual (disch := omega) only [Z2]); (repeat' (first | (with_reducible intro h) | (with_reducible refine And.intro (by omega) ?_) | (with_reducible refine exP (by omega) ?_) | (with_reducible apply And.intro))))
    refine ⟨by simp; omega, nx ⟨i + 1, by omega⟩ (by simp; omega) (by simp [E2]) ?_⟩
    rw [fill_set xs f z i h]
  · have : i = xs.length := by omega
    subst this
    exact ⟨r, rfl, by simp⟩
theorem szS (mxd : P.follows .mixedOrders = true) (wt : α → Nat) (hF : IsFun P k ⟨⟨27, []⟩,
  (.seq (.reg [(.mk (some 4) none (.mov (.k (.val (.int .i64 0)))))]) (.seq (.reg [(.mk (some 6) none (.mov (.t 1))), (.mk (some 7) none (.mov (.t 0))), (.mk (some 8) none (.len (.t 7))), (.mk (some 9) none (.bin .sub
  (.t 6) (.t 8))), (.mk (some 1) none (.mov (.t 9)))]) (.seq (.seq (.reg [(.mk (some 10) none (.mov (.t 1))), (.mk (some 11) none (.bin .lss (.t 10) (.k (.val (.int .i64 0)))))]) (.cond 11 (.seq (.reg [(.mk (some 4)
  none (.mov (.k (.val (.int .i64 (-1))))))]) .ret) .skip)) (.seq (.seq (.reg [(.mk (some 5) none (.mov (.k (.val (.int .i64 0)))))]) (.block 0 (.loop (.seq (.seq (.reg [(.mk (some 12) none (.mov (.t 5))), (.mk (some
  13) none (.mov (.t 0))), (.mk (some 14) none (.len (.t 13))), (.mk (some 15) none (.bin .lss (.t 12) (.t 14)))]) (.cond 15 .skip (.exit 0))) (.seq (.block 1 (.seq (.reg [(.mk (some 18) none (.mov (.t 0))), (.mk (some
  19) none (.mov (.t 5))), (.mk (some 20) none (.iaddr sz (.t 18) (.t 19))), (.mk (some 21) none (.load sz ag (.t 20))), (.mk (some 22) none (.mov (.t 1))), (.mk (some 23) none (.call det kx [(.t 21), (.t 22)])), (.mk
  (some 1) none (.mov (.t 23)))]) (.seq (.reg [(.mk (some 24) none (.mov (.t 1))), (.mk (some 25) none (.bin .lss (.t 24) (.k (.val (.int .i64 0)))))]) (.cond 25 (.seq (.reg [(.mk (some 4) none (.mov (.k (.val (.int
  .i64 (-1))))))]) .ret) .skip)))) (.reg [(.mk (some 16) none (.mov (.t 5))), (.mk (some 17) none (.bin .add (.t 16) (.k (.val (.int .i64 1))))), (.mk (some 5) none (.mov (.t 17)))])))))) (.seq (.reg [(.mk (some 26)
  none (.mov (.t 1))), (.mk (some 4) none (.mov (.t 26)))]) .ret))))), [.t 4]⟩)
    (hag : ∀ a, isAgg (f a) = ag) (hr : ∀ a, geR (some (f a)) = some (f a)) (xs : List α) (left : Int) (h0 : 0 ≤ left) (h1 : left ≤ 1048576)
    (hx : ∀ a ∈ xs, ∀ l : Int, 0 ≤ l → l ≤ 1048576 → Pure P kx [f a, I l] (· = I (szv l (wt a)))) :
    Pure P k [.sl sz (xs.map f), I left] (· = I (szv left (wtS wt xs))) := by
  refine GCalls.lenA fun hl => ?_
  have hlen := hl.1.1
  simp only [List.length_map, maxL] at hlen
  refine gstart mxd hF rfl (by simp) ?_
  ((try simp only [↓ S2, S2, ↓reduceIte, Nat.reduceEqDiff, reduceCtorEq, Nat.reduceLeDiff, Nat.reduceAdd, Nat.reduceLT, hr, hag]); (try simp only [brGen]; try simp only [↓ S2, S2, ↓reduceIte, Nat.reduceEqDiff, reduceCtorEq, Nat.reduceLeDiff, Nat.reduceAdd, Nat.reduceLT, hr, hag]); (try simp +contextual (disch := omega) only [Z2]); (repeat' (first | (with_reducible intro h) | (with_reducible refine And.intro (by omega) ?_) | (with_reducible refine exP (by omega) ?_) | (with_reducible apply And.intro))))
  · congr 2; simp only [szv, wtS]; omega
  refine wloop mxd (ι := { i : Nat // i ≤ xs.length ∧ ((xs.length + psum wt xs i : Nat) : Int) ≤ left }) (fun i => [(0, .sl sz (xs.map f)), (1, I (left - ((xs.length + psum wt xs i.1 : Nat) : Int))), (5, I i.1)])
    (fun _ => []) (fun i => xs.length - i.1) ⟨0, by simp [psum_zero]; omega⟩ (by simp [E2, psum_zero]) rfl ?_
  rintro ⟨i, hi, hp⟩
  ((try simp only [↓ S2, S2, ↓reduceIte, Nat.reduceEqDiff, reduceCtorEq, Nat.reduceLeDiff, Nat.reduceAdd, Nat.reduceLT, hr, hag]); (try simp only [brGen]; try simp only [↓ S2, S2, ↓reduceIte, Nat.reduceEqDiff, reduceCtorEq, Nat.reduceLeDiff, Nat.reduceAdd, Nat.reduceLT, hr, hag]); (try simp +contextual (disch := omega) only [Z2]); (repeat' (first | (with_reducible intro h) | (with_reducible refine And.intro (by omega) ?_) | (with_reducible refine exP (by omega) ?_) | (with_reducible apply And.intro))))
  · have e1 := psum_succ wt xs i h
    have e2 := psum_le wt xs (i + 1)
    refine callS.eq (hx xs[i] (List.getElem_mem _) _ (by omega) (by omega)) ?_
    ((try simp only [↓ S2, S2, ↓reduceIte, Nat.reduceEqDiff, reduceCtorEq, Nat.reduceLeDiff, Nat.reduceAdd, Nat.reduceLT, hr, hag]); (try simp only [brGen]; try simp only [↓ S2, S2, ↓reduceIte, Nat.reduceEqDiff, reduceCtorEq, Nat.reduceLeDiff, Nat.reduceAdd, Nat.reduceLT, hr, hag]); (try simp +contextual (disch := omega) only [Z2]); (repeat' (first | (with_reducible intro h) | (with_reducible refine And.intro (by omega) ?_) | (with_reducible refine exP (by omega) ?_) | (with_reducible apply And.intro))))
    · congr 2; simp only [szv, wtS] at *; omega
    · have e3 := szv_nn h
      refine nx ⟨i + 1, by omega, by omega⟩ (by simp; omega) ?_ rfl
      rw [szv_pos e3]
      simp [E2]
      omega
  · have : i = xs.length := by omega
    subst this
    rw [psum_all]
    congr 2; simp only [szv, wtS]; rw [psum_all] at hp; omega
end
end Go.Gh

/- Arguments of the statements, by their types. -/
namespace Go.Gh
theorem t_int {g : GV} (h : ET false [.int .i64] g) : ∃ n : Int, g = I n := by
  obtain ⟨gs, k1, k2⟩ := h
  simp only [CTs, CT] at k1
  obtain ⟨g, gs', rfl, ⟨n, rfl, _⟩, rfl⟩ := k1
  simp at k2
  exact ⟨n, k2.symm⟩
theorem c_ints {g : GV} (h : CT (.sl false [.int .i64]) g) : ∃ xs : List Int, g = IS xs := by
  simp only [CT] at h
  obtain ⟨es, rfl, _, he⟩ := h
  obtain ⟨l, rfl, _⟩ := list_of (f := I) (ok := fun _ => True) fun e hm => by
    obtain ⟨n, hn⟩ := t_int (he e hm)
    exact ⟨n, hn, trivial⟩
  exact ⟨l, rfl⟩
theorem t_one {t : Ty} {g : GV} (h : ET false [t] g) : CT t g := by
  obtain ⟨gs, k1, k2⟩ := h
  simp only [CTs] at k1
  obtain ⟨g, gs', rfl, hg, rfl⟩ := k1
  simp at k2
  rw [← k2]; exact hg
theorem t_agg1 {t : Ty} {g : GV} (h : ET true [t] g) : ∃ x, g = .agg [x] ∧ CT t x := by
  obtain ⟨gs, k1, k2⟩ := h
  simp only [CTs] at k1
  obtain ⟨g, gs', rfl, hg, rfl⟩ := k1
  exact ⟨g, by simpa using k2, hg⟩
theorem c_sl {ag : Bool} {ts : List Ty} {α : Type} {f : α → GV} {ok : α → Prop} {g : GV} (h : CT (.sl ag ts) g) (he : ∀ e, ET ag ts e → ∃ a, e = f a ∧ ok a) : ∃ l : List α, g = .sl ts.length (l.map f) ∧ ∀ a ∈ l, ok a := by
  simp only [CT] at h
  obtain ⟨es, rfl, _, hs⟩ := h
  obtain ⟨l, rfl, hl⟩ := list_of (f := f) (ok := ok) fun e hm => he e (hs e hm)
  exact ⟨l, rfl, hl⟩
theorem t_Nod {g : GV} (h : ET true [.int .i64, .int .i64, .int .i64, .int .i64, .str, .sl false [.int .i64]] g) : ∃ x : Nod, g = Nd x ∧ x.rule.size ≤ maxLen := by
  obtain ⟨gs, k1, k2⟩ := h
  rw [CTs] at k1
  obtain ⟨g1, _, rfl, h1, k1⟩ := k1
  rw [CTs] at k1
  obtain ⟨g2, _, rfl, h2, k1⟩ := k1
  rw [CTs] at k1
  obtain ⟨g3, _, rfl, h3, k1⟩ := k1
  rw [CTs] at k1
  obtain ⟨g4, _, rfl, h4, k1⟩ := k1
  rw [CTs] at k1
  obtain ⟨g5, _, rfl, h5, k1⟩ := k1
  rw [CTs] at k1
  obtain ⟨g6, _, rfl, h6, k1⟩ := k1
  simp only [CTs] at k1
  subst k1
  obtain ⟨xs, rfl⟩ := c_ints h6
  simp only [CT] at h1 h2 h3 h4 h5
  obtain ⟨n1, rfl, _⟩ := h1
  obtain ⟨n2, rfl, _⟩ := h2
  obtain ⟨n3, rfl, _⟩ := h3
  obtain ⟨n4, rfl, _⟩ := h4
  obtain ⟨s, rfl, hs⟩ := h5
  exact ⟨⟨n1, n2, n3, n4, s, xs⟩, by simpa using k2, hs⟩
theorem t_Tr {g : GV} (h : ET true [.sl true [.int .i64, .int .i64, .int .i64, .int .i64, .str, .sl false [.int .i64]]] g) : ∃ t : List Nod, g = Tr t ∧ ∀ x ∈ t, x.rule.size ≤ maxLen := by
  obtain ⟨x, rfl, hx⟩ := t_agg1 h
  obtain ⟨l, rfl, hl⟩ := c_sl hx fun e he => t_Nod he
  exact ⟨l, rfl, hl⟩
end Go.Gh

/- What the laws' marks are. -/
namespace Go.Gh
set_option linter.unusedSimpArgs false
set_option linter.unusedVariables false
theorem vIte (P : Program) (c : Prop) [Decidable c] (g : GV) (d : Option Nat) (is : List GI) (K : Env → GH → Prop) (env : Env) (H : GH) : valS P (if c then some g else none) d is K env H = (c ∧ gsteps P is K (gput env d g) H) := by
  by_cases h : c <;> simp [h, valS]
theorem bor_IS {H : GH} {r n : Nat} {l : List Int} (hr : hget H r = some (1, l.map I)) (hn : l.length = n) : Bor H (.own r 1 0 n) (IS l) := .all hr (by simp [hn]) (by simp [view])
theorem FE.swap {env : Env} {H : GH} {x y : Nat × Nat × List GV} : FE env (x :: y :: H) env (y :: x :: H) := by
  intro w0 D0 O0 N a w ⟨hdf, hsz, D, Ω, ρw, hi⟩
  obtain ⟨r1, sz1, es1⟩ := x
  obtain ⟨r2, sz2, es2⟩ := y
  obtain ⟨F1, G1, e1, h1, F2, F3, e2, h2, h3⟩ := hi.st.hm
  have hp : ∀ x, (F2 ++ (F1 ++ F3)).count x = Ω.count x := by
    intro x; rw [e1, e2]; simp only [List.count_append]; omega
  have hmem : ∀ x ∈ F2 ++ (F1 ++ F3), x ∈ Ω := fun x hx => by
    have := List.count_pos_iff.2 hx
    exact List.count_pos_iff.1 (by rw [← hp]; exact this)
  refine ⟨hdf, hsz, D, F2 ++ (F1 ++ F3), ρw, hi.st' ⟨⟨F2, _, rfl, h2, F1, F3, rfl, h1, h3⟩, ?_, ?_, fun x hx => hi.st.dj x (hmem x hx), hi.st.ds⟩ hmem⟩
  · rw [List.nodup_iff_count]
    intro x
    rw [hp]
    exact List.nodup_iff_count.1 hi.st.nd x
  · have := hi.st.nn
    simp only [names, List.map_cons, List.nodup_cons, List.mem_cons, not_or] at this ⊢
    exact ⟨⟨fun e => this.1.1 e.symm, this.2.1⟩, this.1.2, this.2.2⟩
theorem callS.borA {P : Program} {K : Env → GH → Prop} {is : List GI} {env : Env} {H : GH} {d : Option Nat} {det : Bool} {f : FuncId} {gs gs' : List GV} {G : GV} (h : Pure P f gs' (· = G)) (hb : BorL H gs gs') (hs : scal G = true) (hk : gsteps P is K (gput env d G) H) : callS P det f (some gs) d is K env H := by
  cases det
  · exact callS.bor h hb hs hk
  · exact ⟨G, h.borrow hb (fun _ e => by rw [e]; exact hs), hk⟩
end Go.Gh

/- Expressions as plain data, and their ghosts. -/
namespace Go.Gh
set_option linter.unusedSimpArgs false
set_option linter.unusedVariables false
inductive Exp where
  | mk (kind n pos type : Int) (sym name : ByteArray) (args : List Exp)
def Exp.kind : Exp → Int | .mk k _ _ _ _ _ _ => k
def Exp.n : Exp → Int | .mk _ n _ _ _ _ _ => n
def Exp.pos : Exp → Int | .mk _ _ p _ _ _ _ => p
def Exp.type : Exp → Int | .mk _ _ _ t _ _ _ => t
def Exp.sym : Exp → ByteArray | .mk _ _ _ _ s _ _ => s
def Exp.name : Exp → ByteArray | .mk _ _ _ _ _ m _ => m
def Exp.args : Exp → List Exp | .mk _ _ _ _ _ _ a => a
mutual
def Ex : Exp → GV
  | .mk k n p t s m a => .agg [I k, I n, I p, I t, T s, T m, .sl 7 (ExL a)]
def ExL : List Exp → List GV
  | [] => []
  | e :: l => Ex e :: ExL l
end
theorem ExL_eq (l : List Exp) : ExL l = l.map Ex := by
  induction l with
  | nil => rfl
  | cons e l ih => simp [ExL, ih]
abbrev ExS (l : List Exp) : GV := .sl 7 (l.map Ex)
theorem Ex_eq (e : Exp) : Ex e = .agg [I e.kind, I e.n, I e.pos, I e.type, T e.sym, T e.name, ExS e.args] := by
  cases e; simp only [Ex, ExL_eq]; rfl
theorem Exp.ext_iff {x y : Exp} : x = y ↔ x.kind = y.kind ∧ x.n = y.n ∧ x.pos = y.pos ∧ x.type = y.type ∧ x.sym = y.sym ∧ x.name = y.name ∧ x.args = y.args := by
  cases x; cases y
  simp [Exp.kind, Exp.n, Exp.pos, Exp.type, Exp.sym, Exp.name, Exp.args]
mutual
theorem Exp.indA {p : Exp → Prop} (h : ∀ e, (∀ a ∈ e.args, p a) → p e) : ∀ e, p e
  | .mk k n q t s m a => h _ (Exp.indL h a)
theorem Exp.indL {p : Exp → Prop} (h : ∀ e, (∀ a ∈ e.args, p a) → p e) : ∀ (l : List Exp), ∀ a ∈ l, p a
  | [], a, hm => by cases hm
  | e :: l, a, hm => by
    have he : p e := Exp.indA h e
    have hl := Exp.indL h l
    rcases List.mem_cons.1 hm with rfl | hm
    · exact he
    · exact hl a hm
end
mutual
def wEx : Exp → Nat
  | .mk _ _ _ _ s m a => (chars s).length + (chars m).length + (a.length + wExL a)
def wExL : List Exp → Nat
  | [] => 0
  | e :: l => wEx e + wExL l
end
theorem wExL_eq (l : List Exp) : wExL l = (l.map wEx).sum := by
  induction l with
  | nil => rfl
  | cons e l ih => simp [wExL, ih]
theorem wEx_eq (e : Exp) : wEx e = (chars e.sym).length + (chars e.name).length + wtS wEx e.args := by
  cases e; simp only [wEx, wExL_eq, wtS]; rfl
mutual
def okE : Exp → Prop
  | .mk _ _ _ _ s m a => s.size ≤ maxLen ∧ m.size ≤ maxLen ∧ okEL a
def okEL : List Exp → Prop
  | [] => True
  | e :: l => okE e ∧ okEL l
end
theorem okEL_eq {l : List Exp} : okEL l ↔ ∀ a ∈ l, okE a := by
  induction l with
  | nil => simp [okEL]
  | cons e l ih => simp [okEL, ih]
theorem okE_eq {e : Exp} : okE e ↔ e.sym.size ≤ maxLen ∧ e.name.size ≤ maxLen ∧ ∀ a ∈ e.args, okE a := by
  cases e; simp only [okE, okEL_eq]; rfl
mutual
instance decExp : (x y : Exp) → Decidable (x = y)
  | .mk k n p t s m a, .mk k' n' p' t' s' m' a' =>
    match decExpL a a' with
    | isTrue h => decidable_of_iff (k = k' ∧ n = n' ∧ p = p' ∧ t = t' ∧ s = s' ∧ m = m') (by simp [h])
    | isFalse h => isFalse (by simp [h])
instance decExpL : (x y : List Exp) → Decidable (x = y)
  | [], [] => isTrue rfl
  | [], _ :: _ => isFalse (by simp)
  | _ :: _, [] => isFalse (by simp)
  | e :: l, e' :: l' => match decExp e e', decExpL l l' with
    | isTrue h, isTrue h' => isTrue (by rw [h, h'])
    | isFalse h, _ => isFalse (by simp [h])
    | _, isFalse h => isFalse (by simp [h])
end
theorem args_small {e : Exp} (h : wEx e ≤ 1048576) : e.args.length ≤ 1048576 ∧ ∀ a ∈ e.args, wEx a ≤ 1048576 := by
  rw [wEx_eq] at h
  simp only [wtS] at h
  refine ⟨by omega, fun a ha => ?_⟩
  have := sum_mem wEx e.args a ha
  omega
theorem isAgg_Ex (e : Exp) : isAgg (Ex e) = true := by rw [Ex_eq]; rfl
theorem geR_Ex (e : Exp) : geR (some (Ex e)) = some (Ex e) := by rw [Ex_eq]; rfl
theorem gsize_Ex (e : Exp) : gsize (Ex e) = 7 := by rw [Ex_eq]; rfl
theorem stor_Ex (e : Exp) : storable (Ex e) = true := by rw [Ex_eq]; rfl
theorem view_Ex (e : Exp) : view (Ex e) = Ex e := by rw [Ex_eq]; rfl
end Go.Gh

/- Arguments of recursive types, seen as ghosts. -/
namespace Go.Gh
open Go.RowKit Go.ChangeShapes Go.WideShapes Go.Deep
theorem open_sliceF {H : Type} {enc : TypeId × Value → H} {P : Program} {w : World} {base : Nat} {spare : Nat → Bool} {held : Bool} {t e : TypeId} {fuel : Nat} {cs : List Value} {x : DataW H × List MemPlace}
    (ht : P.underlying t = some (.slice e)) (h : DataW.trod enc P w base spare held fuel t cs = some x) :
    cs = [.slice none 0 0] ∨ ∃ (a : Addr) (len cap n : Nat), fuel = n + 1 ∧ cs = [.slice (some a) len cap] ∧ len ≤ cap ∧ cap ≤ maxLen ∧
      ∀ i, i < len → ∃ cs' y, w.cells? base (a.add (i * P.cellsOf e)) (P.cellsOf e) = some cs' ∧ DataW.trod enc P w base spare held n e cs' = some y := by
  rcases DataW.trod_slice ht h with h0 | ⟨a, len, cap, elems, rest, n, hn, rfl, rfl, hb, hl, hm, hlen, hel, hsp, hns⟩
  · exact .inl h0.1
  refine .inr ⟨a, len, cap, n, hn, rfl, hl, hm, fun i hi => ?_⟩
  have key := hel i hi
  rw [List.getElem?_eq_getElem (by omega)] at key
  obtain ⟨cs', h1, h2⟩ := Option.bind_eq_some_iff.1 key
  exact ⟨cs', _, h1, h2⟩
theorem Lf.mono1 {W : World} {t u : Ty} {cs : List Value} (h : Lf W [t] cs) (hq : ∀ g, CT t g → CT u g) : Lf W [u] cs := by
  obtain ⟨gs, h1, h2, h3⟩ := h
  simp only [CTs] at h2
  obtain ⟨g, gs', rfl, h2, rfl⟩ := h2
  exact ⟨[g], h1, by simp only [CTs]; exact ⟨g, [], rfl, hq g h2, rfl⟩, h3⟩
theorem slice_lf {P : Program} {W : World} {ag : Bool} {ts : List Ty} {e : TypeId} {a : Addr} {len cap : Nat} (hone : ag = false → ts.length = 1) (hsz : ts.length = P.cellsOf e) (hpos : 0 < ts.length)
    (hl : len ≤ cap) (hcap : cap ≤ maxLen) (hel : ∀ i, i < len → ∃ cs', W.cells? 0 (a.add (i * P.cellsOf e)) (P.cellsOf e) = some cs' ∧ Lf W ts cs') : Lf W [.sl ag ts] [.slice (some a) len cap] := by
  obtain ⟨es, cells, h1, h2, h3, h4⟩ := elems_ok (W := W) (a := a) (sz := P.cellsOf e) (Q := ET ag ts) len fun i hi => by
    obtain ⟨cs', k1, gs, m1, m2, m3⟩ := hel i hi
    refine ⟨cs', k1, ?_⟩
    cases ag
    · have hg := ML.len _ _ _ m1
      have hg2 := m2.len
      have hone := hone rfl
      match gs, cs', m1, hg, hg2 with
      | [g], [u], m1, _, _ =>
        simp only [ML] at m1
        obtain ⟨v', us, F1, F2, q1, q2, q3, q4, q5⟩ := m1
        have q6 : F1 = [] ∧ F2 = [] := by simpa using q2.symm
        obtain ⟨rfl, rfl⟩ := q6
        simp only [List.cons.injEq] at q1
        obtain ⟨rfl, rfl⟩ := q1
        have hu : u.cells = #[u] := cells1 (m3 u (by simp))
        exact ⟨u, g, by simp [hu], fun x hx => by rw [hu] at hx; simp at hx; subst hx; exact m3 _ (by simp), q3, [g], m2, by simp⟩
      | [], _, _, _, hg2 => simp at hg2; omega
      | _ :: _ :: _, _, _, _, hg2 => simp at hg2; omega
      | [_], [], _, hg, _ => simp at hg
      | [_], _ :: _ :: _, _, hg, _ => simp at hg
    · exact ⟨.agg cs'.toArray, .agg gs, by simp [Value.cells], fun x hx => m3 x (by simpa [Value.cells] using hx), by simp only [MV]; exact ⟨cs', rfl, m3, m1⟩, gs, m2, by simp⟩
  refine .one (g := .sl ts.length es) ?_ (by simp only [CT]; exact ⟨es, rfl, by simp only [maxL, maxLen] at *; omega, h3⟩) rfl
  simp only [MV]
  refine ⟨trivial, ?_⟩
  cases len with
  | zero =>
    left
    have : es = [] := by simpa using h1
    exact ⟨this, _, _, rfl⟩
  | succ len =>
    right
    have hl2 := MF.len _ _ _ _ h2
    have hpos : 0 < cells.length := by rw [hl2, h1, ← hsz]; exact Nat.mul_pos (by omega) hpos
    have h0 := h4 0 cells[0] (by simp [hpos])
    simp only [Addr.add, if_true] at h0
    unfold World.cell? at h0
    split at h0
    case h_2 => cases h0
    rename_i c T fz hb
    split at h0
    · cases h0
    rename_i hsp
    have hsp' : a.spot = none := by cases hs : a.spot <;> simp [hs] at hsp ⊢
    obtain ⟨ab, ao, ax⟩ := a
    simp only at hsp' hb h0
    subst hsp'
    refine ⟨ab, ao, cap, cells, by rw [h1], by omega, by simp only [maxL, maxLen] at *; omega, lt_of_heap hb, ⟨c, T, fz, hb, fun j u hj => ?_⟩, by rw [hsz]; exact h2⟩
    have := h4 j u hj
    rw [add_none] at this
    simpa [World.cell?, hb] using this
def tyR (P : Program) (R : TypeId → Option (GV → Prop)) : Nat → TypeId → Option (Bool × List Ty)
  | 0, _ => none
  | n + 1, t => match R t with
    | some Q => some (false, [.pr Q])
    | none => match P.underlying t with
      | some .bool => some (false, [.bool])
      | some (.int k) => some (false, [.int k])
      | some .string => some (false, [.str])
      | some (.slice e) => match tyR P R n e with
        | some (ag, ts) => if ts.length = P.cellsOf e ∧ 0 < ts.length then some (false, [.sl ag ts]) else none
        | none => none
      | some (.struct fs) => match fieldsTy P (tyR P R n) fs.toList 0 with
        | some ts => if ts.length = P.cellsOf t then some (true, ts) else none
        | none => none
      | _ => none
theorem tyR_one {P : Program} {R : TypeId → Option (GV → Prop)} : ∀ {n : Nat} {t : TypeId} {ts : List Ty}, tyR P R n t = some (false, ts) → ts.length = 1
  | 0, _, _, h => by simp [tyR] at h
  | n + 1, t, ts, he => by
    unfold tyR at he
    split at he
    · simp only [Option.some.injEq, Prod.mk.injEq] at he; rw [← he.2]; rfl
    split at he
    · simp only [Option.some.injEq, Prod.mk.injEq] at he; rw [← he.2]; rfl
    · simp only [Option.some.injEq, Prod.mk.injEq] at he; rw [← he.2]; rfl
    · simp only [Option.some.injEq, Prod.mk.injEq] at he; rw [← he.2]; rfl
    · split at he
      · split at he
        · simp only [Option.some.injEq, Prod.mk.injEq] at he; rw [← he.2]; rfl
        · cases he
      · cases he
    · split at he
      · split at he
        · simp only [Option.some.injEq, Prod.mk.injEq] at he; cases he.1
        · cases he
      · cases he
    · cases he
theorem liftR {H : Type} {enc : TypeId × Value → H} {P : Program} {W : World} {spare : Nat → Bool} {held : Bool} {R : TypeId → Option (GV → Prop)} : ∀ (n : Nat) {t : TypeId} {ag : Bool} {ts : List Ty} {fuel : Nat} {cs : List Value} {x : DataW H × List MemPlace},
    (∀ f, f ≤ fuel → ∀ t Q cs x, R t = some Q → DataW.trod enc P W 0 spare held f t cs = some x → Lf W [.pr Q] cs) →
    tyR P R n t = some (ag, ts) → DataW.trod enc P W 0 spare held fuel t cs = some x → Lf W ts cs
  | 0, _, _, _, _, _, _, _, h, _ => by simp [tyR] at h
  | n + 1, t, ag, ts, fuel, cs, x, hR, h, hx => by
    unfold tyR at h
    split at h
    · rename_i Q hq
      simp only [Option.some.injEq, Prod.mk.injEq] at h
      obtain ⟨rfl, rfl⟩ := h
      exact hR fuel (Nat.le_refl _) t Q cs x hq hx
    split at h
    · rename_i ht
      simp only [Option.some.injEq, Prod.mk.injEq] at h
      obtain ⟨rfl, rfl⟩ := h
      obtain ⟨b, rfl, _⟩ := DataW.trod_bool ht hx
      exact .one .val0 ⟨b, rfl⟩ rfl
    · rename_i k ht
      simp only [Option.some.injEq, Prod.mk.injEq] at h
      obtain ⟨rfl, rfl⟩ := h
      obtain ⟨b, rfl, _, hw⟩ := DataW.trod_int ht hx
      exact .one .val0 ⟨b, rfl, hw⟩ rfl
    · rename_i ht
      simp only [Option.some.injEq, Prod.mk.injEq] at h
      obtain ⟨rfl, rfl⟩ := h
      obtain ⟨b, rfl, _, hw⟩ := DataW.trod_string ht hx
      exact .one .val0 ⟨b, rfl, hw⟩ rfl
    · rename_i e ht
      split at h
      case h_2 => cases h
      rename_i ag' ts' he
      split at h
      case isFalse => cases h
      rename_i hc
      simp only [Option.some.injEq, Prod.mk.injEq] at h
      obtain ⟨rfl, rfl⟩ := h
      rcases open_sliceF ht hx with rfl | ⟨a, len, cap, n', rfl, rfl, hl, hcap, hel⟩
      · exact .one (g := .sl ts'.length []) (by simp only [MV]; exact ⟨trivial, .inl ⟨trivial, _, _, rfl⟩⟩) (by simp only [CT]; exact ⟨[], rfl, by simp [maxL], by simp⟩) rfl
      · refine slice_lf (fun ha => tyR_one (by rw [← ha]; exact he)) hc.1 hc.2 hl hcap fun i hi => ?_
        obtain ⟨cs', y, k1, k2⟩ := hel i hi
        exact ⟨cs', k1, liftR n (fun f hf => hR f (by omega)) he k2⟩
    · rename_i fs ht
      split at h
      case h_2 => cases h
      rename_i ts' hfs
      split at h
      case isFalse => cases h
      rename_i hlen
      simp only [Option.some.injEq, Prod.mk.injEq] at h
      obtain ⟨rfl, rfl⟩ := h
      obtain ⟨xs, n', hn, _, hl, hxs, hf⟩ := DataW.trod_struct ht hx
      have := fields_ok (W := W) (cs := cs) hfs fun f hfm a us hus => by
        obtain ⟨i, hi, hif⟩ := List.mem_iff_getElem.1 hfm
        have hi' : i < fs.size := by simpa using hi
        have := hf i f (by rw [← hif]; simp [hi'])
        rw [List.getElem?_eq_getElem (by omega)] at this
        exact liftR n (fun f hf => hR f (by omega)) hus this
      rw [List.drop_zero, List.take_of_length_le (by omega)] at this
      exact this
    · cases h
theorem knot {H : Type} {enc : TypeId × Value → H} {P : Program} {W : World} {spare : Nat → Bool} {held : Bool} {tA tE : TypeId} {Q : GV → Prop} (k : Nat) {ag : Bool} {ts : List Ty}
    (hA : P.underlying tA = some (.slice tE)) (hE : tyR P (fun t => if t = tA then some Q else none) k tE = some (ag, ts)) (hsz : ts.length = P.cellsOf tE) (hpos : 0 < ts.length)
    (hQ : ∀ g, CT (.sl ag ts) g → Q g) : ∀ fuel t Q' cs x, (fun t => if t = tA then some Q else none) t = some Q' → DataW.trod enc P W 0 spare held fuel t cs = some x → Lf W [.pr Q'] cs := by
  intro fuel
  induction fuel using Nat.strongRecOn with
  | ind fuel ih =>
    intro t Q' cs x ht hx
    simp only at ht
    split at ht
    case isFalse => cases ht
    rename_i hta
    subst hta
    simp only [Option.some.injEq] at ht
    subst ht
    refine Lf.mono1 (t := .sl ag ts) ?_ fun g hg => by simp only [CT]; exact hQ g hg
    rcases open_sliceF hA hx with rfl | ⟨a, len, cap, n', rfl, rfl, hl, hcap, hel⟩
    · exact .one (g := .sl ts.length []) (by simp only [MV]; exact ⟨trivial, .inl ⟨trivial, _, _, rfl⟩⟩) (by simp only [CT]; exact ⟨[], rfl, by simp [maxL], by simp⟩) rfl
    · refine slice_lf (fun ha => tyR_one (by rw [← ha]; exact hE)) hsz hpos hl hcap fun i hi => ?_
      obtain ⟨cs', y, k1, k2⟩ := hel i hi
      exact ⟨cs', k1, liftR k (fun f hf => ih f (by omega)) hE k2⟩
theorem lift_valR {H : Type} {enc : TypeId × Value → H} {P : Program} {W : World} {spare : Nat → Bool} {held : Bool} {r : Reach} {b0 : Nat} {R : TypeId → Option (GV → Prop)} (n : Nat) {t : TypeId} {ag : Bool} {ts : List Ty} {v : Value} {d : DataW H} {ps : List MemPlace}
    (hR : ∀ f, ∀ t Q cs x, R t = some Q → DataW.trod enc P W 0 spare held f t cs = some x → Lf W [.pr Q] cs)
    (hn : R t = none) (ht : tyR P R n t = some (ag, ts)) (hv : Value.okWide P W r b0 t v) (hx : DataW.Trod enc P W 0 spare held t v d ps) : ∃ g, MV W (below W) g v [] ∧ ET ag ts g := by
  obtain ⟨fuel, hx⟩ := hx
  obtain ⟨gs, h1, h2, h3⟩ := liftR n (fun f _ => hR f) ht hx
  cases n with
  | zero => simp [tyR] at ht
  | succ n =>
  have leaf : ag = false → v.oneCell' = true → ∃ g, MV W (below W) g v [] ∧ ET ag ts g := by
    intro ha hv1
    subst ha
    rw [cells1 hv1] at h1
    match gs, h1 with
    | [g], h1 =>
      simp only [ML] at h1
      obtain ⟨v', us, F1, F2, q1, q2, q3, q4, q5⟩ := h1
      have q6 : F1 = [] ∧ F2 = [] := by simpa using q2.symm
      obtain ⟨rfl, rfl⟩ := q6
      simp only [List.cons.injEq] at q1
      obtain ⟨rfl, rfl⟩ := q1
      exact ⟨g, q3, [g], h2, by simp⟩
    | [], h1 => have := ML.len _ _ _ h1; simp at this
    | _ :: _ :: _, h1 => have := ML.len _ _ _ h1; simp at this
  unfold tyR at ht
  split at ht
  · rename_i Q hq
    rw [hn] at hq; cases hq
  split at ht
  · rename_i hu
    simp only [Option.some.injEq, Prod.mk.injEq] at ht
    refine leaf ht.1.symm ?_
    simp only [Value.okWide, hu, Cell.okWide] at hv
    cases v <;> simp_all [Cell.ok, Value.oneCell']
  · rename_i k hu
    simp only [Option.some.injEq, Prod.mk.injEq] at ht
    refine leaf ht.1.symm ?_
    simp only [Value.okWide, hu, Cell.okWide] at hv
    cases v <;> simp_all [Cell.ok, Value.oneCell']
  · rename_i hu
    simp only [Option.some.injEq, Prod.mk.injEq] at ht
    refine leaf ht.1.symm ?_
    simp only [Value.okWide, hu, Cell.okWide] at hv
    cases v <;> simp_all [Cell.ok, Value.oneCell']
  · rename_i e hu
    have ha : ag = false := by
      split at ht
      · split at ht
        · simp only [Option.some.injEq, Prod.mk.injEq] at ht; exact ht.1.symm
        · cases ht
      · cases ht
    refine leaf ha ?_
    simp only [Value.okWide, hu, Cell.okWide] at hv
    cases v <;> simp_all [Cell.ok, Value.oneCell']
  · rename_i fs hu
    have ha : ag = true := by
      split at ht
      · split at ht
        · simp only [Option.some.injEq, Prod.mk.injEq] at ht; exact ht.1.symm
        · cases ht
      · cases ht
    subst ha
    obtain ⟨cs, rfl, _⟩ := okWide_struct hu hv
    exact ⟨.agg gs, by simp only [MV]; exact ⟨cs.toList, by simp, fun x hx => h3 x (by simpa [Value.cells] using hx), by simpa [Value.cells] using h1⟩, gs, h2, by simp⟩
  · cases ht
end Go.Gh

/- Expressions as arguments of statements. -/
namespace Go.Gh
set_option linter.unusedSimpArgs false
set_option linter.unusedVariables false
def ExQ (g : GV) : Prop := ∃ l : List Exp, g = ExS l ∧ ∀ a ∈ l, okE a
abbrev ExT : List Ty := [.int .i64, .int .i64, .int .i64, .int .i64, .str, .str, .pr ExQ]
theorem t_Exp {g : GV} (h : ET true ExT g) : ∃ e : Exp, g = Ex e ∧ okE e := by
  obtain ⟨gs, k1, k2⟩ := h
  simp only [CTs, CT, ExQ] at k1
  obtain ⟨_, _, rfl, ⟨k, rfl, _⟩, _, _, rfl, ⟨n, rfl, _⟩, _, _, rfl, ⟨p, rfl, _⟩, _, _, rfl, ⟨t, rfl, _⟩, _, _, rfl, ⟨s, rfl, hs⟩, _, _, rfl, ⟨m, rfl, hm⟩, _, _, rfl, ⟨l, rfl, hl⟩, rfl⟩ := k1
  refine ⟨.mk k n p t s m l, ?_, okE_eq.2 ⟨hs, hm, hl⟩⟩
  rw [Ex_eq]
  exact k2
theorem exQ {g : GV} (h : CT (.sl true ExT) g) : ExQ g := by
  obtain ⟨l, rfl, hl⟩ := c_sl h fun e he => t_Exp he
  exact ⟨l, rfl, hl⟩
end Go.Gh

/- Values and operators, as plain functions. -/
namespace Go.Gh
set_option linter.unusedSimpArgs false
set_option linter.unusedVariables false
def satV (n : Int) : Int := max (-1000000) (min 1000000 n)
def trV (b : Bool) : Int := if b then 1 else 0
def coV (v k : Int) : Int := if k = 1 then satV v else if k = 2 then andI .i64 v 4095 else if k = 3 then trV (!decide (v = 0)) else if k = 4 ∧ 0 ≤ v ∧ v ≤ 999 then v else 0
def okV (v k : Int) : Bool := decide (1 ≤ k ∧ k ≤ 4) && decide (coV v k = v)
end Go.Gh

/- Counts of an expression. -/
namespace Go.Gh
set_option linter.unusedSimpArgs false
set_option linter.unusedVariables false
end Go.Gh

/- Predicates on all nodes of an expression. -/
namespace Go.Gh
set_option linter.unusedSimpArgs false
set_option linter.unusedVariables false
theorem any_ix {α : Type} (p : α → Bool) (l : List α) : decide (0 ≤ ixOf p l) = l.any p := by
  unfold ixOf
  cases h : l.findIdx? p with
  | none =>
    have := List.findIdx?_eq_none_iff.1 h
    simp; exact this
  | some i =>
    obtain ⟨h1, h2, _⟩ := List.findIdx?_eq_some_iff_getElem.1 h
    simp
    exact ⟨l[i], List.getElem_mem h1, h2⟩
end Go.Gh

/- Names. -/
namespace Go.Gh
set_option linter.unusedSimpArgs false
set_option linter.unusedVariables false
end Go.Gh

/- Names: steps. -/
namespace Go.Gh
set_option linter.unusedSimpArgs false
set_option linter.unusedVariables false
end Go.Gh

/- Valid nodes. -/
namespace Go.Gh
set_option linter.unusedSimpArgs false
set_option linter.unusedVariables false
def noS : ByteArray := ⟨#[]⟩
end Go.Gh

/- Symbols, rules and grammars as plain data, and their ghosts. -/
namespace Go.Gh
set_option linter.unusedSimpArgs false
set_option linter.unusedVariables false
theorem nraw_Ex (e : Exp) : nraw (Ex e) = true := by rw [Ex_eq]; rfl
theorem clean_Ex (e : Exp) : clean (Ex e) = true := by rw [Ex_eq]; rfl
theorem sub_Ex0 (e : Exp) : sub (Ex e) 0 1 false = some (I e.kind) := by rw [Ex_eq]; rfl
theorem sub_Ex1 (e : Exp) : sub (Ex e) 1 1 false = some (I e.n) := by rw [Ex_eq]; rfl
theorem sub_Ex2 (e : Exp) : sub (Ex e) 2 1 false = some (I e.pos) := by rw [Ex_eq]; rfl
theorem sub_Ex3 (e : Exp) : sub (Ex e) 3 1 false = some (I e.type) := by rw [Ex_eq]; rfl
theorem sub_Ex4 (e : Exp) : sub (Ex e) 4 1 false = some (T e.sym) := by rw [Ex_eq]; rfl
theorem sub_Ex5 (e : Exp) : sub (Ex e) 5 1 false = some (T e.name) := by rw [Ex_eq]; rfl
theorem sub_Ex6 (e : Exp) : sub (Ex e) 6 1 false = some (ExS e.args) := by rw [Ex_eq]; rfl
theorem fold_Ex (e : Exp) : GV.agg [I e.kind, I e.n, I e.pos, I e.type, T e.sym, T e.name, .sl 7 (e.args.map Ex)] = Ex e := (Ex_eq e).symm
abbrev ExC (e : Exp) : List GV := [I e.kind, I e.n, I e.pos, I e.type, T e.sym, T e.name, ExS e.args]
theorem upd_Ex (gs : List GV) (o : Nat) (e : Exp) : upd (.agg gs) o (Ex e) = if o + 7 ≤ gs.length then some (.agg (gs.take o ++ (ExC e ++ gs.drop (o + 7)))) else none := by rw [Ex_eq]; rfl
theorem upd_ExO (e : Exp) (o r sz k n : Nat) : upd (Ex e) o (.own r sz k n) = if o < 7 then some (.agg ((ExC e).set o (.own r sz k n))) else none := by rw [Ex_eq]; rfl
theorem XE : type_of% (And.intro @isAgg_Ex (And.intro @geR_Ex (And.intro @gsize_Ex (And.intro @stor_Ex (And.intro @nraw_Ex (And.intro @clean_Ex (And.intro @sub_Ex0 (And.intro @sub_Ex1 (And.intro @sub_Ex2 (And.intro @sub_Ex3 (And.intro @sub_Ex4 (And.intro @sub_Ex5 (And.intro @sub_Ex6 (And.intro @fold_Ex (And.intro @upd_ExO @upd_Ex))))))))))))))) :=
  And.intro @isAgg_Ex (And.intro @geR_Ex (And.intro @gsize_Ex (And.intro @stor_Ex (And.intro @nraw_Ex (And.intro @clean_Ex (And.intro @sub_Ex0 (And.intro @sub_Ex1 (And.intro @sub_Ex2 (And.intro @sub_Ex3 (And.intro @sub_Ex4 (And.intro @sub_Ex5 (And.intro @sub_Ex6 (And.intro @fold_Ex (And.intro @upd_ExO @upd_Ex))))))))))))))
@[ext] structure Att where
  name : ByteArray
  type : Int
  mode : Int
  circ : Bool
deriving DecidableEq
abbrev At (x : Att) : GV := .agg [T x.name, I x.type, I x.mode, B x.circ]
abbrev AtS (l : List Att) : GV := .sl 4 (l.map At)
abbrev wAt (x : Att) : Nat := (chars x.name).length
@[ext] structure Sym where
  name : ByteArray
  atts : List Att
deriving DecidableEq
abbrev Sy (x : Sym) : GV := .agg [T x.name, AtS x.atts]
abbrev SyS (l : List Sym) : GV := .sl 2 (l.map Sy)
abbrev wSy (x : Sym) : Nat := (chars x.name).length + wtS wAt x.atts
@[ext] structure Eqn where
  pos : Int
  name : ByteArray
  expr : Exp
deriving DecidableEq
abbrev Qn (x : Eqn) : GV := .agg [I x.pos, T x.name, I x.expr.kind, I x.expr.n, I x.expr.pos, I x.expr.type, T x.expr.sym, T x.expr.name, ExS x.expr.args]
abbrev QnS (l : List Eqn) : GV := .sl 9 (l.map Qn)
abbrev wEq (x : Eqn) : Nat := (chars x.name).length + wEx x.expr
@[ext] structure Con where
  sym : ByteArray
  name : ByteArray
  goal : Exp
  value : Exp
deriving DecidableEq
abbrev Co (x : Con) : GV := .agg [T x.sym, T x.name, I x.goal.kind, I x.goal.n, I x.goal.pos, I x.goal.type, T x.goal.sym, T x.goal.name, ExS x.goal.args, I x.value.kind, I x.value.n, I x.value.pos, I x.value.type, T x.value.sym, T x.value.name, ExS x.value.args]
abbrev CoS (l : List Con) : GV := .sl 16 (l.map Co)
abbrev wCo (x : Con) : Nat := (chars x.sym).length + (chars x.name).length + wEx x.goal + wEx x.value
abbrev TS (l : List ByteArray) : GV := .sl 1 (l.map T)
abbrev wT (s : ByteArray) : Nat := (chars s).length
@[ext] structure Rul where
  name : ByteArray
  left : ByteArray
  right : List ByteArray
  lit : Bool
  eqs : List Eqn
  cons : List Con
deriving DecidableEq
abbrev Ru (x : Rul) : GV := .agg [T x.name, T x.left, TS x.right, B x.lit, QnS x.eqs, CoS x.cons]
abbrev RuS (l : List Rul) : GV := .sl 6 (l.map Ru)
abbrev wRu (x : Rul) : Nat := (chars x.name).length + (chars x.left).length + wtS wT x.right + wtS wEq x.eqs + wtS wCo x.cons
@[ext] structure Gram where
  syms : List Sym
  rules : List Rul
deriving DecidableEq
abbrev Gr (g : Gram) : GV := .agg [SyS g.syms, RuS g.rules]
abbrev wGr (g : Gram) : Nat := wtS wSy g.syms + wtS wRu g.rules
def okAt (x : Att) : Prop := x.name.size ≤ maxLen
def okSy (x : Sym) : Prop := x.name.size ≤ maxLen ∧ ∀ a ∈ x.atts, okAt a
def okEq (x : Eqn) : Prop := x.name.size ≤ maxLen ∧ okE x.expr
def okCo (x : Con) : Prop := x.sym.size ≤ maxLen ∧ x.name.size ≤ maxLen ∧ okE x.goal ∧ okE x.value
def okRu (x : Rul) : Prop := x.name.size ≤ maxLen ∧ x.left.size ≤ maxLen ∧ (∀ s ∈ x.right, s.size ≤ maxLen) ∧ (∀ q ∈ x.eqs, okEq q) ∧ ∀ c ∈ x.cons, okCo c
def okGr (g : Gram) : Prop := (∀ s ∈ g.syms, okSy s) ∧ ∀ r ∈ g.rules, okRu r
def smSy (x : Sym) : Prop := x.atts.length ≤ 1048576
def smEq (x : Eqn) : Prop := wEx x.expr ≤ 1048576
def smCo (x : Con) : Prop := wEx x.goal ≤ 1048576 ∧ wEx x.value ≤ 1048576
def smRu (x : Rul) : Prop := x.right.length ≤ 1048576 ∧ x.eqs.length ≤ 1048576 ∧ x.cons.length ≤ 1048576 ∧ (∀ q ∈ x.eqs, smEq q) ∧ ∀ c ∈ x.cons, smCo c
def smGr (g : Gram) : Prop := g.syms.length ≤ 1048576 ∧ g.rules.length ≤ 1048576 ∧ (∀ s ∈ g.syms, smSy s) ∧ ∀ r ∈ g.rules, smRu r
theorem wtS_mem {α : Type} {wt : α → Nat} {l : List α} {n : Nat} (h : wtS wt l ≤ n) : l.length ≤ n ∧ ∀ a ∈ l, wt a ≤ n := by
  simp only [wtS] at h
  exact ⟨by omega, fun a ha => by have := sum_mem wt l a ha; omega⟩
theorem smRu_of {x : Rul} (h : wRu x ≤ 1048576) : smRu x := by
  simp only [wRu] at h
  obtain ⟨h1, _⟩ := wtS_mem (wt := wT) (l := x.right) (n := 1048576) (by omega)
  obtain ⟨h2, h3⟩ := wtS_mem (wt := wEq) (l := x.eqs) (n := 1048576) (by omega)
  obtain ⟨h4, h5⟩ := wtS_mem (wt := wCo) (l := x.cons) (n := 1048576) (by omega)
  exact ⟨h1, h2, h4, fun q hq => by have := h3 q hq; simp only [wEq] at this; unfold smEq; omega, fun c hc => by have := h5 c hc; simp only [wCo] at this; unfold smCo; omega⟩
theorem smGr_of {g : Gram} (h : wGr g ≤ 1048576) : smGr g := by
  simp only [wGr] at h
  obtain ⟨h1, h2⟩ := wtS_mem (wt := wSy) (l := g.syms) (n := 1048576) (by omega)
  obtain ⟨h3, h4⟩ := wtS_mem (wt := wRu) (l := g.rules) (n := 1048576) (by omega)
  refine ⟨h1, h3, fun s hs => ?_, fun r hr => smRu_of (h4 r hr)⟩
  have := h2 s hs
  simp only [wSy, wtS] at this
  unfold smSy; omega
theorem getD_lt {α : Type} {l : List α} {i : Nat} {d : α} (h : i < l.length) : l.getD i d = l[i] := by
  rw [List.getD_eq_getElem?_getD, List.getElem?_eq_getElem h]; rfl
def rulZ : Rul := ⟨noS, noS, [], false, [], []⟩
def fRul (l : List Rul) (n : ByteArray) : Rul := (l.find? fun s => decide (s.name = n)).getD rulZ
def hRul (l : List Rul) (n : ByteArray) : Bool := (l.find? fun s => decide (s.name = n)).isSome
theorem fRul_mem (l : List Rul) (n : ByteArray) : fRul l n ∈ l ∨ fRul l n = rulZ := by
  unfold fRul
  cases h : l.find? fun s => decide (s.name = n) with
  | none => exact .inr rfl
  | some a => exact .inl (List.mem_of_find?_eq_some h)
theorem smRu_f {g : Gram} (h : smGr g) (n : ByteArray) : smRu (fRul g.rules n) := by
  rcases fRul_mem g.rules n with h1 | h1
  · exact h.2.2.2 _ h1
  · rw [h1]; simp [smRu, rulZ]
def nodZ : Nod := ⟨0, 0, 0, 0, noS, []⟩
def symN (g : Gram) (t : List Nod) (i : Int) : ByteArray := if 0 ≤ i ∧ i < t.length then (fRul g.rules (t.getD i.toNat nodZ).rule).left else noS
theorem symN_in {g : Gram} {t : List Nod} {i : Nat} (h : i < t.length) : symN g t i = (fRul g.rules t[i].rule).left := by
  simp only [symN, Int.toNat_natCast]
  rw [if_pos (by omega), getD_lt h]
theorem symN_out {g : Gram} {t : List Nod} {i : Int} (h : ¬ (0 ≤ i ∧ i < t.length)) : symN g t i = noS := by simp only [symN, if_neg h]
end Go.Gh

/- Instances of a tree. -/
namespace Go.Gh
set_option linter.unusedSimpArgs false
set_option linter.unusedVariables false
end Go.Gh

/- Grammars as arguments of statements. -/
namespace Go.Gh
set_option linter.unusedSimpArgs false
set_option linter.unusedVariables false
theorem t_T {g : GV} (h : ET false [.str] g) : ∃ s : ByteArray, g = T s ∧ s.size ≤ maxLen := by
  obtain ⟨s, rfl, hs⟩ := t_one h
  exact ⟨s, rfl, hs⟩
abbrev AtT : List Ty := [.str, .int .i64, .int .i64, .bool]
theorem t_Att {g : GV} (h : ET true AtT g) : ∃ x : Att, g = At x ∧ okAt x := by
  obtain ⟨gs, k1, k2⟩ := h
  simp only [CTs, CT] at k1
  obtain ⟨_, _, rfl, ⟨s, rfl, hs⟩, _, _, rfl, ⟨a, rfl, _⟩, _, _, rfl, ⟨b, rfl, _⟩, _, _, rfl, ⟨c, rfl⟩, rfl⟩ := k1
  exact ⟨⟨s, a, b, c⟩, by simpa using k2, hs⟩
abbrev SyT : List Ty := [.str, .sl true AtT]
theorem t_Sym {g : GV} (h : ET true SyT g) : ∃ x : Sym, g = Sy x ∧ okSy x := by
  obtain ⟨gs, k1, k2⟩ := h
  rw [CTs] at k1
  obtain ⟨_, _, rfl, h1, k1⟩ := k1
  rw [CTs] at k1
  obtain ⟨_, _, rfl, h2, k1⟩ := k1
  simp only [CTs] at k1
  subst k1
  obtain ⟨l, rfl, hl⟩ := c_sl h2 fun e he => t_Att he
  simp only [CT] at h1
  obtain ⟨s, rfl, hs⟩ := h1
  exact ⟨⟨s, l⟩, by simpa using k2, hs, hl⟩
abbrev QnT : List Ty := [.int .i64, .str, .int .i64, .int .i64, .int .i64, .int .i64, .str, .str, .pr ExQ]
theorem t_Eqn {g : GV} (h : ET true QnT g) : ∃ x : Eqn, g = Qn x ∧ okEq x := by
  obtain ⟨gs, k1, k2⟩ := h
  simp only [CTs, CT, ExQ] at k1
  obtain ⟨_, _, rfl, ⟨i, rfl, _⟩, _, _, rfl, ⟨u, rfl, hu⟩, _, _, rfl, ⟨k, rfl, _⟩, _, _, rfl, ⟨n, rfl, _⟩, _, _, rfl, ⟨p, rfl, _⟩, _, _, rfl, ⟨t, rfl, _⟩, _, _, rfl, ⟨s, rfl, hs⟩, _, _, rfl, ⟨m, rfl, hm⟩, _, _, rfl, ⟨l, rfl, hl⟩, rfl⟩ := k1
  exact ⟨⟨i, u, .mk k n p t s m l⟩, k2, hu, okE_eq.2 ⟨hs, hm, hl⟩⟩
abbrev CoT : List Ty := [.str, .str, .int .i64, .int .i64, .int .i64, .int .i64, .str, .str, .pr ExQ, .int .i64, .int .i64, .int .i64, .int .i64, .str, .str, .pr ExQ]
theorem t_Con {g : GV} (h : ET true CoT g) : ∃ x : Con, g = Co x ∧ okCo x := by
  obtain ⟨gs, k1, k2⟩ := h
  simp only [CTs, CT, ExQ] at k1
  obtain ⟨_, _, rfl, ⟨a, rfl, ha⟩, _, _, rfl, ⟨b, rfl, hb⟩, _, _, rfl, ⟨k, rfl, _⟩, _, _, rfl, ⟨n, rfl, _⟩, _, _, rfl, ⟨p, rfl, _⟩, _, _, rfl, ⟨t, rfl, _⟩, _, _, rfl, ⟨s, rfl, hs⟩, _, _, rfl, ⟨m, rfl, hm⟩, _, _, rfl, ⟨l, rfl, hl⟩,
    _, _, rfl, ⟨k', rfl, _⟩, _, _, rfl, ⟨n', rfl, _⟩, _, _, rfl, ⟨p', rfl, _⟩, _, _, rfl, ⟨t', rfl, _⟩, _, _, rfl, ⟨s', rfl, hs'⟩, _, _, rfl, ⟨m', rfl, hm'⟩, _, _, rfl, ⟨l', rfl, hl'⟩, rfl⟩ := k1
  exact ⟨⟨a, b, .mk k n p t s m l, .mk k' n' p' t' s' m' l'⟩, k2, ha, hb, okE_eq.2 ⟨hs, hm, hl⟩, okE_eq.2 ⟨hs', hm', hl'⟩⟩
abbrev RuT : List Ty := [.str, .str, .sl false [.str], .bool, .sl true QnT, .sl true CoT]
theorem t_Rul {g : GV} (h : ET true RuT g) : ∃ x : Rul, g = Ru x ∧ okRu x := by
  obtain ⟨gs, k1, k2⟩ := h
  rw [CTs] at k1
  obtain ⟨_, _, rfl, h1, k1⟩ := k1
  rw [CTs] at k1
  obtain ⟨_, _, rfl, h2, k1⟩ := k1
  rw [CTs] at k1
  obtain ⟨_, _, rfl, h3, k1⟩ := k1
  rw [CTs] at k1
  obtain ⟨_, _, rfl, h4, k1⟩ := k1
  rw [CTs] at k1
  obtain ⟨_, _, rfl, h5, k1⟩ := k1
  rw [CTs] at k1
  obtain ⟨_, _, rfl, h6, k1⟩ := k1
  simp only [CTs] at k1
  subst k1
  obtain ⟨l3, rfl, hl3⟩ := c_sl h3 fun e he => t_T he
  obtain ⟨l5, rfl, hl5⟩ := c_sl h5 fun e he => t_Eqn he
  obtain ⟨l6, rfl, hl6⟩ := c_sl h6 fun e he => t_Con he
  simp only [CT] at h1 h2 h4
  obtain ⟨a, rfl, ha⟩ := h1
  obtain ⟨b, rfl, hb⟩ := h2
  obtain ⟨c, rfl⟩ := h4
  exact ⟨⟨a, b, l3, c, l5, l6⟩, k2, ha, hb, hl3, hl5, hl6⟩
abbrev GrT : List Ty := [.sl true SyT, .sl true RuT]
theorem t_Gr {g : GV} (h : ET true GrT g) : ∃ x : Gram, g = Gr x ∧ okGr x := by
  obtain ⟨gs, k1, k2⟩ := h
  rw [CTs] at k1
  obtain ⟨_, _, rfl, h1, k1⟩ := k1
  rw [CTs] at k1
  obtain ⟨_, _, rfl, h2, k1⟩ := k1
  simp only [CTs] at k1
  subst k1
  obtain ⟨l1, rfl, hl1⟩ := c_sl h1 fun e he => t_Sym he
  obtain ⟨l2, rfl, hl2⟩ := c_sl h2 fun e he => t_Rul he
  exact ⟨⟨l1, l2⟩, k2, hl1, hl2⟩
end Go.Gh

/- Trees of a grammar; types of expressions. -/
namespace Go.Gh
set_option linter.unusedSimpArgs false
set_option linter.unusedVariables false
def gid (t : List Nod) (i : Nat) : Bool := decide (1 ≤ (t.getD i nodZ).id ∧ (t.getD i nodZ).id ≤ 999) && !((t.take i).any fun y => decide (y.id = (t.getD i nodZ).id))
def idsV (t : List Nod) : Bool := (List.range t.length).all (gid t)
theorem idsV_bad {t : List Nod} {i : Nat} (h : i < t.length) (hb : gid t i = false) : idsV t = false := by
  simp only [idsV, List.all_eq_false, List.mem_range]
  exact ⟨i, h, by simp [hb]⟩
theorem idsV_ok {t : List Nod} (h : ∀ j, j < t.length → gid t j = true) : idsV t = true := by
  simp only [idsV, List.all_eq_true, List.mem_range]
  exact h
def fitV (g : Gram) (x : Nod) (parent place : Int) (sym : ByteArray) : Bool :=
  hRul g.rules x.rule && decide ((fRul g.rules x.rule).left = sym) && decide (x.parent = parent) && decide (x.place = place) && decide (x.kids.length = (fRul g.rules x.rule).right.length) &&
  decide (-1000000 ≤ x.lit ∧ x.lit ≤ 1000000) && ((fRul g.rules x.rule).lit || decide (x.lit = 0))
def kidsW (w : Nat → Int → Int → ByteArray → Int) (i : Nat) : List Int → List ByteArray → Int → Int → Int
  | c :: cs, s :: ss, k, at' => if c ≠ at' then -1 else if w at'.toNat i (k + 1) s < 0 then -1 else kidsW w i cs ss (k + 1) (w at'.toNat i (k + 1) s)
  | _, _, _, at' => at'
def walkE (g : Gram) (t : List Nod) : Nat → Nat → Int → Int → ByteArray → Int
  | 0, _, _, _, _ => -1
  | f + 1, i, p, q, s => if i < t.length then
      if fitV g (t.getD i nodZ) p q s then kidsW (walkE g t f) i (t.getD i nodZ).kids (fRul g.rules (t.getD i nodZ).rule).right 0 (i + 1) else -1
    else -1
theorem kidsW_ge {w : Nat → Int → Int → ByteArray → Int} {n : Int} {i : Nat} (hw : ∀ a p q s, 0 ≤ w a p q s → (a : Int) < w a p q s ∧ w a p q s ≤ n) : ∀ (cs : List Int) (ss : List ByteArray) (k a : Int), 0 ≤ a → a ≤ n →
    kidsW w i cs ss k a = -1 ∨ (a ≤ kidsW w i cs ss k a ∧ kidsW w i cs ss k a ≤ n)
  | [], _, k, a, h0, h1 => by right; simp [kidsW]; omega
  | _ :: _, [], k, a, h0, h1 => by right; simp [kidsW]; omega
  | c :: cs, s :: ss, k, a, h0, h1 => by
    simp only [kidsW]
    split
    · exact .inl rfl
    split
    · exact .inl rfl
    · rename_i h2
      have h3 := hw a.toNat i (k + 1) s (by omega)
      rcases kidsW_ge hw cs ss (k + 1) (w a.toNat i (k + 1) s) (by omega) h3.2 with h | h
      · exact .inl h
      · exact .inr (by omega)
theorem walkE_ge {g : Gram} {t : List Nod} : ∀ (f i : Nat) (p q : Int) (s : ByteArray), 0 ≤ walkE g t f i p q s → (i : Int) < walkE g t f i p q s ∧ walkE g t f i p q s ≤ t.length
  | 0, i, p, q, s, h => by simp [walkE] at h
  | f + 1, i, p, q, s, h => by
    simp only [walkE] at h ⊢
    split at h
    · rename_i hi
      rw [if_pos hi]
      split at h
      · rename_i hf
        rw [if_pos hf]
        rcases kidsW_ge (w := walkE g t f) (n := t.length) (i := i) (fun a p q s h => walkE_ge f a p q s h) (t.getD i nodZ).kids (fRul g.rules (t.getD i nodZ).rule).right 0 (i + 1) (by omega) (by omega) with h2 | h2
        · rw [h2] at h; omega
        · omega
      · omega
    · omega
theorem walkE_out {g : Gram} {t : List Nod} {f i : Nat} {p q : Int} {s : ByteArray} (h : t.length ≤ i) : walkE g t f i p q s = -1 := by
  cases f with
  | zero => rfl
  | succ f => simp only [walkE]; rw [if_neg (by omega)]
def treeOf (g : Gram) (t : List Nod) (s : ByteArray) : Bool := decide (1 ≤ t.length ∧ t.length ≤ 16) && (idsV t && decide (walkE g t t.length 0 (-1) 0 s = t.length))
theorem kidsW_step {w : Nat → Int → Int → ByteArray → Int} {i k : Nat} {cs : List Int} {ss : List ByteArray} {a : Int} (h1 : k < cs.length) (h2 : k < ss.length) :
    kidsW w i (cs.drop k) (ss.drop k) k a = if cs[k] ≠ a then -1 else if w a.toNat i ((k : Int) + 1) ss[k] < 0 then -1 else kidsW w i (cs.drop (k + 1)) (ss.drop (k + 1)) ((k + 1 : Nat) : Int) (w a.toNat i ((k : Int) + 1) ss[k]) := by
  rw [List.drop_eq_getElem_cons h1, List.drop_eq_getElem_cons h2, kidsW]
  simp only [Int.natCast_add, Int.natCast_one]
theorem kidsW_end {w : Nat → Int → Int → ByteArray → Int} {i k : Nat} {cs : List Int} {ss : List ByteArray} {a : Int} {p : Int} (h1 : cs.length ≤ k) : kidsW w i (cs.drop k) (ss.drop k) p a = a := by
  rw [List.drop_eq_nil_of_le h1]; cases ss.drop k <;> rfl
theorem fitV_iff {g : Gram} {x : Nod} {p q : Int} {s : ByteArray} : fitV g x p q s = true ↔ hRul g.rules x.rule = true ∧ (fRul g.rules x.rule).left = s ∧ x.parent = p ∧ x.place = q ∧ x.kids.length = (fRul g.rules x.rule).right.length ∧ (-1000000 ≤ x.lit ∧ x.lit ≤ 1000000) ∧
    ((fRul g.rules x.rule).lit = true ∨ (fRul g.rules x.rule).lit = false ∧ x.lit = 0) := by
  simp only [fitV, Bool.and_eq_true, decide_eq_true_eq, Bool.or_eq_true, and_assoc]
  cases (fRul g.rules x.rule).lit <;> simp
theorem okV1 (n : Int) : okV n 1 = decide (-1000000 ≤ n ∧ n ≤ 1000000) := by
  simp only [okV, coV, satV]
  by_cases h : -1000000 ≤ n ∧ n ≤ 1000000
  · simp [h]; omega
  · simp [h]; omega
theorem gid_f1 {t : List Nod} {i : Nat} (h : i < t.length) (hb : ¬ (1 ≤ t[i].id ∧ t[i].id ≤ 999)) : gid t i = false := by
  simp only [gid, getD_lt h, decide_eq_false hb, Bool.false_and]
theorem gid_f2 {t : List Nod} {i : Nat} (h : i < t.length) (hb : ((t.take i).any fun y => decide (y.id = t[i].id)) = true) : gid t i = false := by
  simp only [gid, getD_lt h, hb, Bool.not_true, Bool.and_false]
theorem gid_t {t : List Nod} {i : Nat} (h : i < t.length) (ha : 1 ≤ t[i].id ∧ t[i].id ≤ 999) (hb : ((t.take i).any fun y => decide (y.id = t[i].id)) = false) : gid t i = true := by
  simp only [gid, getD_lt h, decide_eq_true ha, hb, Bool.not_false, Bool.and_true]
def hasI (l : List Int) (x : Int) : Bool := l.any fun y => decide (y = x)
theorem hasI_hit {l : List Int} {x : Int} {i : Nat} (h : i < l.length) (e : l[i] = x) : hasI l x = true := by
  simp only [hasI, List.any_eq_true]; exact ⟨l[i], List.getElem_mem h, by simp [e]⟩
theorem hasI_none {l : List Int} {x : Int} (h : ∀ y ∈ l, decide (y = x) = false) : hasI l x = false := by
  simp only [hasI, List.any_eq_false]; intro y hy; simpa using h y hy
theorem hasI_map (t : List Nod) (x : Int) : hasI (t.map (·.id)) x = t.any fun y => decide (y.id = x) := by
  simp only [hasI, List.any_map]; rfl
end Go.Gh
namespace Go.Gh
theorem takeApp2 {α β : Type} (f : β → GV) (h : α → β) (l : List α) (i : Nat) (hi : i < l.length) : List.take i (List.map f (List.map h (List.take i l))) ++ [f (h l[i])] = List.map f (List.map h (List.take (i + 1) l)) := by
  have := takeApp (fun a => f (h a)) l i hi
  simp only [List.map_map]; exact this
theorem treeOf_bad {g : Gram} {t : List Nod} {s : ByteArray} (h : idsV t = false) : treeOf g t s = false := by
  simp only [treeOf, h, Bool.false_and, Bool.and_false]
end Go.Gh
namespace Go.Gh
end Go.Gh
namespace Go.Gh
end Go.Gh

/- Valid expressions, and their values. -/
namespace Go.Gh
set_option linter.unusedSimpArgs false
set_option linter.unusedVariables false
end Go.Gh
namespace Go.Gh
theorem Bor.clo {H : GH} {f : Nat} {gs gs' : List GV} (h : BorL H gs gs') : Bor H (.clo f gs) (.clo f gs') := fun w D Ω v hst hm => by
  simp only [MV] at hm ⊢
  obtain ⟨h0, vs, h1, h2⟩ := hm
  exact ⟨h0, vs, h1, h w D Ω vs hst h2⟩
theorem Bor.rop {H : GH} {sz : Nat} {g g' : GV} (h : Bor H g g') : Bor H (.rop sz g) (.rop sz g') := fun w D Ω v hst hm => by
  simp only [MV] at hm ⊢
  obtain ⟨h0, b, off, u, h1, h2, h3, h4, h5, h6⟩ := hm
  exact ⟨h0, b, off, u, h1, .inl h2, h3, h4, h5, h w D Ω u hst h6⟩
end Go.Gh
namespace Go.Gh
end Go.Gh
namespace Go.Gh
end Go.Gh
namespace Go.Gh
end Go.Gh
namespace Go.Gh
end Go.Gh

/- Grammars of one's own. -/
namespace Go.Gh
set_option linter.unusedSimpArgs false
set_option linter.unusedVariables false
set_option maxRecDepth 20000
theorem Bor.seen {α : Type} {f g : α → GV} {H : GH} {r sz n : Nat} {l : List α} (hv : ∀ a, view (f a) = g a) (hr : hget H r = some (sz, l.map f)) (hl : l.length = n) : Bor H (.own r sz 0 n) (.sl sz (l.map g)) := by
  have := Bor.own (k := 0) (n := n) hr (by simp [hl])
  rw [List.drop_zero, List.take_of_length_le (by simp [hl]), viewL_eq, List.map_map] at this
  have e : l.map (view ∘ f) = l.map g := List.map_congr_left fun a _ => hv a
  rwa [e] at this
section
variable {P : Program} {α : Type} {f : α → GV} {k kx sz : Nat} {ag : Bool}
end
theorem FR.perm {g : GV} {H L T : GH} (hs : subH H L) : FR g (H ++ T) g (L ++ T) := by
  intro w D Ω v hv hst
  obtain ⟨Ω', h1, h2⟩ := St.sub hst hs
  exact ⟨D, Ω', hv, h1, ⟨fun _ h => h, fun _ _ h => .inl h, fun b hb _ => h2 b hb, Kept.refl _ _, rfl, rfl, rfl⟩⟩
end Go.Gh

/- Trees cut out of trees. -/
namespace Go.Gh
end Go.Gh

/- What the laws' marks are: lists marked one element after the other; expressions; instances; grammars. -/
namespace Go.Gh
set_option linter.unusedSimpArgs false
set_option linter.unusedVariables false
section
variable {α : Type} (w : α → Nat) (m : α → Int → α)
end
section
variable {α : Type} {f : α → α}
end
end Go.Gh

/- A subtree of a tree replaced. -/
namespace Go.Gh
set_option linter.unusedSimpArgs false
set_option linter.unusedVariables false
theorem neN (r : Nat) (x : Nat × List GV) (H : GH) : (names ((r, x) :: H)).Nodup = (neA r H ∧ (names H).Nodup) := by
  apply propext
  constructor
  · intro h
    have h2 := h
    simp only [names, List.map_cons, List.nodup_cons] at h2
    exact ⟨neA_of h2.1, h2.2⟩
  · rintro ⟨h1, h2⟩
    simp only [names, List.map_cons, List.nodup_cons]
    refine ⟨?_, h2⟩
    clear h2
    induction H with
    | nil => simp
    | cons y H ih =>
      obtain ⟨q, y⟩ := y
      simp only [neA_cons] at h1
      simp only [List.map_cons, List.mem_cons, not_or]
      exact ⟨h1.1, ih h1.2.2⟩
theorem Bor.ptr {H : GH} {r sz : Nat} {g : GV} (hr : hget H r = some (sz, [g])) : Bor H (.ptr r sz 0 0) (.rop sz (view g)) := fun w D Ω v h hv => by
  obtain ⟨F, hF, hFΩ⟩ := h.hm.mem hr
  simp only [MV] at hv ⊢
  obtain ⟨_, b, rfl, hb, rfl⟩ := hv
  rcases hF with ⟨b', c, T, fz, F', k1, k2, k3, k4, k5, k6, k7⟩ | ⟨k1, _, _⟩
  · have : b' = b := by omega
    subst this
    simp only [MF] at k7
    obtain ⟨u, cs', F1, F2, e1, e2, e3, rfl, e5, rfl, rfl⟩ := k7
    refine ⟨trivial, b', 0, u, by simp, .inr (hFΩ _ (by simp [k6])), ⟨c, T, fz, k2, fun j x hj => ?_⟩, e3, e2, MV.view (fun _ => .inl) g u F1 (fun x hx => .inr (hFΩ x (by simp [k6, hx]))) e5⟩
    have e1' : c.toList.take (1 * sz) = u.cells.toList := by simpa using e1
    have h2 : (c.toList.take (1 * sz))[j]? = some x := by rw [e1']; exact hj
    rw [List.getElem?_take] at h2
    split at h2
    · simpa using h2
    · cases h2
  · omega
end Go.Gh

/- Instances of a tree: all of them. -/
namespace Go.Gh
set_option linter.unusedSimpArgs false
set_option linter.unusedVariables false
end Go.Gh

/- Definitions of instances. -/
namespace Go.Gh
set_option linter.unusedSimpArgs false
set_option linter.unusedVariables false
end Go.Gh

/- The attributes that an expression uses. -/
namespace Go.Gh
set_option linter.unusedSimpArgs false
set_option linter.unusedVariables false
abbrev Oc := Int × ByteArray
def ltN (a b : ByteArray) : Bool := Op.bytesLess (chars a) (chars b)
def ltO (a b : Oc) : Bool := decide (a.1 < b.1) || (decide (a.1 = b.1) && ltN a.2 b.2)
end Go.Gh

/- Calls that need tables: package-level variables that nobody writes. -/
namespace Go.Gh
open Go.ChangeShapes Go.WideShapes Go.ChangeAt Go.RowKit
set_option linter.unusedSimpArgs false
set_option linter.unusedVariables false
def tabH (T : GH) : Prop := (names T).Nodup ∧ ∀ x ∈ T, x.1 % 4 = 3 ∧ 1000000 ≤ x.2.1 ∧ x.2.2 = []
def PureT (P : Program) (T : GH) (f : FuncId) (gs : List GV) (R : GV → Prop) : Prop := GCalls P f gs T (fun g _ => R g)
theorem hget_mem : ∀ {H : GH} {x : Nat × Nat × List GV}, (names H).Nodup → x ∈ H → hget H x.1 = some x.2
  | [], _, _, h => by cases h
  | (r, y) :: H, x, hn, h => by
    simp only [names, List.map_cons, List.nodup_cons] at hn
    simp only [hget]
    rcases List.mem_cons.1 h with rfl | h
    · simp
    · have : r ≠ x.1 := fun e => hn.1 (by rw [e]; exact List.mem_map_of_mem h)
      rw [if_neg this]
      exact hget_mem hn.2 h
theorem HM.tabs {w : World} {D : Nat → Prop} {H : GH} {Ω : List Nat} (h : HM w D H Ω) (hn : (names H).Nodup) : ∀ {T : GH}, (∀ x ∈ T, x.1 % 4 = 3 ∧ 1000000 ≤ x.2.1 ∧ x.2.2 = []) → (∀ x ∈ T, x ∈ H) → HM w D T []
  | [], _, _ => rfl
  | (r, sz, es) :: T, hT, hs => by
    obtain ⟨F, hF, _⟩ := h.mem (hget_mem hn (hs _ (List.mem_cons_self ..)))
    have ht := hT _ (List.mem_cons_self ..)
    refine ⟨[], [], rfl, ?_, HM.tabs h hn (fun x hx => hT x (List.mem_cons_of_mem _ hx)) (fun x hx => hs x (List.mem_cons_of_mem _ hx))⟩
    rcases hF with ⟨b, c, T, fz, F', k1, _⟩ | hF
    · have := ht.1
      dsimp only at this k1
      omega
    · exact .inr ⟨hF.1, ht.2.2, rfl⟩
theorem PureT.frame {P : Program} {T : GH} {f : FuncId} {gs : List GV} {R : GV → Prop} (h : PureT P T f gs R) (hT : tabH T) {H : GH} (hs : ∀ x ∈ T, x ∈ H) : GCalls P f gs H (fun g H' => R g ∧ H' = H) := by
  intro w D Ω args hst hargs
  have hs0 : St w D T [] := ⟨HM.tabs hst.hm hst.nn hT.2 hs, List.nodup_nil, hT.1, by simp, hst.ds⟩
  refine Yld.mono (fun v w' ⟨g, H', D', Ω', k1, k2, k3, k4⟩ => ?_) (h w D [] args hs0 hargs)
  have hk : Kept w w' (fun _ => True) := k4.kp.mono fun _ _ _ => by simp
  have hlt : ∀ b ∈ Ω, b < w.heap.size := HM.flt hst.hm
  refine ⟨g, H, D', Ω, ⟨k1, rfl⟩, k2, ⟨HM.keep hk (fun _ _ => trivial) k4.d0 (fun _ _ => trivial) hst.hm, hst.nd, hst.nn, fun b hb hD => ?_, k3.ds⟩,
    ⟨k4.d0, fun b hb hD => .inl ((k4.dn b hb hD).resolve_right (by simp)), fun _ h _ => h, hk.mono fun _ _ _ => trivial, k4.os, k4.tape, k4.output⟩⟩
  rcases k4.dn b (hlt b hb) hD with h1 | h1
  · exact hst.dj b hb h1
  · simp at h1
theorem PureT.bor {P : Program} {T : GH} {f : FuncId} {gs : List GV} {G : GV} (h : GCalls P f gs T (fun g H => Bor H g G)) : PureT P T f gs (· = G) :=
  h.fr fun _ _ hb => ⟨G, [], FR.all hb, rfl⟩
theorem PureT.of {P : Program} {T : GH} {f : FuncId} {gs : List GV} {R : GV → Prop} (h : Pure P f gs R) : PureT P T f gs R := (h.frame T).mono fun _ _ h => h.1
theorem callS.eqT {P : Program} {K : Env → GH → Prop} {is : List GI} {env : Env} {H T : GH} {d : Option Nat} {det : Bool} {f : FuncId} {gs : List GV} {G : GV} (h : PureT P T f gs (· = G)) (hT : tabH T) (hs : ∀ x ∈ T, x ∈ H) (hk : gsteps P is K (gput env d G) H) : callS P det f (some gs) d is K env H := by
  unfold callS
  cases det
  · exact ⟨fun g H' => g = G ∧ H' = H, h.frame hT hs, fun g H' ⟨e1, e2⟩ _ => by subst e1; subst e2; exact hk⟩
  · exact ⟨G, h.frame hT hs, hk⟩
theorem PureT.out {P : Program} {T : GH} {f : FuncId} {F : GFun} {gs : List GV} {R : GV → Prop} (h : PureT P T f gs R) (hF : IsFun P f F) {W : World} {args : List Value} (hargs : ML W (below W) gs args []) (hT : HM W (below W) T []) (hn : (names T).Nodup) :
    Calls P f args.toArray W fun e W' => ∃ v g D, e = .returned v ∧ R g ∧ MV W' D g v [] ∧ Below W.heap.size W W' := by
  have := h W (below W) [] args ⟨hT, List.nodup_nil, hn, by simp, fun _ h => h⟩ hargs
  rw [callFunc_run hF] at this
  refine Calls.mono this fun e W' ⟨v, h1, g, H', D', Ω', k1, k2, k3, k4⟩ => ⟨v, g, D', h1, k1, k2, ?_⟩
  exact ⟨k4.os, k4.tape, k4.output, k4.kp.size, fun k hk => k4.kp.block k hk (by simp)⟩
def tab10 (n : Nat) : GH := [(4 * n + 3, 1000000, [])]
theorem tabH_10 (n : Nat) : tabH (tab10 n) := ⟨by simp [tab10, names], fun x hx => by
  simp only [tab10, List.mem_singleton] at hx
  subst hx
  exact ⟨by dsimp only; omega, by dsimp only; omega, rfl⟩⟩
open Lib in
theorem HM.tab10 {P : Program} {W : World} {n : Nat} {s : String} (hg : P.globalNamed s = some n) (h : TabIs P W s .u64 pow10Tab) : HM W (below W) (tab10 n) [] := by
  simp only [TabIs, World.var?, hg, Option.bind_some] at h
  refine ⟨[], [], rfl, .inr ⟨⟨by omega, fun _ _ => ?_⟩, rfl, rfl⟩, rfl⟩
  have e : (4 * n + 3) / 4 = n := by omega
  unfold TB
  rw [e]
  split at h
  case h_2 => cases h
  rename_i c T fz hb
  simp only [Option.some.injEq] at h
  refine ⟨lt_of_heap hb, c, T, fz, hb, ?_⟩
  rw [h]
  simp only [tabP, if_true, pow10Tab, List.map_map]
  rfl
open Lib in
theorem HM.is10 {P : Program} {w : World} {D : Nat → Prop} {n : Nat} {s : String} {H : GH} {Ω : List Nat} (hg : P.globalNamed s = some n) (h : HM w D H Ω) (hn : (names H).Nodup) (hm : (4 * n + 3, 1000000, []) ∈ H) : TabIs P w s .u64 pow10Tab := by
  obtain ⟨F, hF, _⟩ := h.mem (hget_mem hn hm)
  have e : (4 * n + 3) / 4 = n := by omega
  rcases hF with ⟨b, c, T, fz, F', k1, _⟩ | hF
  · dsimp only at k1; omega
  · obtain ⟨_, c, T, fz, h1, h2⟩ := hF.1.2 (by dsimp only; omega) (Nat.le_refl _)
    dsimp only at h1
    rw [e] at h1
    simp only [TabIs, World.var?, hg, Option.bind_some, h1]
    simp only [tabP, if_true] at h2
    rw [h2]
    simp only [pow10Tab, List.map_map]
    rfl
open Lib Go.Sort in
theorem itoa_ok {P : Program} {f g : Nat} {s : String} (hg : P.globalNamed s = some g) {args : Int → Array Value} {n : Int} {gs : List GV} (hgs : ∀ w D vs, ML w D gs vs [] → vs.toArray = args n)
    (hc : ∀ w : World, TabIs P w s .u64 pow10Tab → Calls P f (args n) w fun e w' => e = .returned (.string ⟨(itoa n).toArray⟩) ∧ ∃ k os, w' = grow (w.drewN k) os)
    (eg : ∀ args w, (callFunc f args).run P w = .ok (.enter f args) w) : PureT P (tab10 g) f gs (· = .val (mkS (itoa n))) := by
  intro w D Ω vs hst hargs
  rw [eg, hgs _ _ _ hargs]
  show Calls P f _ w _
  refine (hc w (HM.is10 hg hst.hm hst.nn (by simp [tab10]))).mono ?_
  rintro e w' ⟨rfl, k, os, rfl⟩
  have hk : Kept w (grow (w.drewN k) os) (fun _ => True) := by
    refine ⟨fun b hb _ => ?_, ?_, fun b c T fz hx => ⟨c, fz, ?_, rfl⟩⟩
    · show (w.heap ++ os)[b]? = _
      rw [Array.getElem?_append_left hb]
    · show _ ≤ (w.heap ++ os).size
      rw [Array.size_append]; omega
    · show (w.heap ++ os)[b]? = _
      rw [Array.getElem?_append_left (lt_of_heap hx)]; exact hx
  refine ⟨_, rfl, _, tab10 g, D, Ω, rfl, MV.val_mk _, ⟨HM.keep hk (fun _ _ => trivial) (fun _ h => h) (fun _ _ => trivial) hst.hm, hst.nd, hst.nn, hst.dj, fun b hb => Nat.lt_of_lt_of_le (hst.ds b hb) hk.size⟩,
    ⟨fun _ h => h, fun _ _ h => .inl h, fun _ h _ => h, hk.mono fun _ _ _ => trivial, rfl, rfl, rfl⟩⟩
end Go.Gh

/- Numbers in decimal, digit by digit from the right. -/
namespace Go.Gh
open Lib
set_option linter.unusedSimpArgs false
set_option linter.unusedVariables false
def dgs (u : Nat) : List UInt8 := if u = 0 then [] else decDigits u
theorem dgs_step {u : Nat} (h : u ≠ 0) (out : List UInt8) : dgs u ++ out = dgs (u / 10) ++ (UInt8.ofNat (48 + u % 10) :: out) := by
  unfold dgs
  rw [if_neg h]
  by_cases h1 : u < 10
  · rw [decDigits_one h1, if_pos (by omega), Nat.mod_eq_of_lt h1]
    rfl
  · rw [decDigits, dif_neg h1, if_neg (by omega)]
    simp
theorem itoa_dgs {n : Int} (h : n ≠ 0) : itoa n = if n < 0 then 45 :: dgs n.natAbs else dgs n.natAbs := by
  unfold itoa dgs
  have e : n.natAbs ≠ 0 := by omega
  rw [if_neg e]
  by_cases h1 : n < 0
  · rw [if_pos h1, if_pos h1]
  · rw [if_neg h1, if_neg h1]
    congr 1
    omega
theorem itoa_0 : itoa 0 = [48] := by
  unfold itoa
  rw [if_neg (by omega)]
  exact decDigits_one (by decide)
theorem nDigits_le : ∀ (k u : Nat), u < 10 ^ (k + 1) → nDigits u ≤ k + 1
  | 0, u, h => by rw [nDigits_small (by simpa using h)]; omega
  | k + 1, u, h => by
    rw [nDigits]
    split
    · omega
    · have := nDigits_le k (u / 10) (by rw [Nat.pow_succ] at h; omega)
      omega
theorem dgs_len {u : Nat} (h : u ≤ 9223372036854775808) : (dgs u).length ≤ 19 := by
  unfold dgs
  split
  · simp
  · rw [decDigits_length]
    exact nDigits_le 18 u (by omega)
theorem itoa_len {n : Int} (h0 : -9223372036854775808 ≤ n) (h1 : n ≤ 9223372036854775807) : (itoa n).length ≤ 20 := by
  by_cases h : n = 0
  · subst h; rw [itoa_0]; simp
  · rw [itoa_dgs h]
    have := dgs_len (u := n.natAbs) (by omega)
    split <;> simp <;> omega
theorem tmod10 (n : Int) : (if n.tmod 10 < 0 then 0 - n.tmod 10 else n.tmod 10) = ((n.natAbs % 10 : Nat) : Int) := by
  have h : (n.tmod 10).natAbs = n.natAbs % 10 := by rw [Int.natAbs_tmod]; rfl
  split <;> omega
theorem tdiv10 (n : Int) : (n.tdiv 10).natAbs = n.natAbs / 10 := by rw [Int.natAbs_tdiv]; rfl
theorem digB : ∀ d, d < 10 → UInt8.ofNat (IntKind.u8.wrap (48 + ((d : Nat) : Int))).toNat = UInt8.ofNat (48 + d) := by decide
theorem lenOK {a b : ByteArray} (h : (chars a).length + (chars b).length ≤ 9223372036854775807) : (chars a).length + (chars b).length ≤ 9223372036854775807 := h
theorem chk (l : List UInt8) : chars ⟨l.toArray⟩ = l := rfl
theorem mod_lt10 (u : Nat) : u % 10 < 10 := Nat.mod_lt _ (by decide)
end Go.Gh

/- What the lifts of cards need of the kit. -/

/- The attributes that an expression uses: in order, once each. -/
namespace Go.Gh
set_option linter.unusedSimpArgs false
set_option linter.unusedVariables false
theorem ltN_eq (a b : ByteArray) : ltN a b = decide (chars a < chars b) := Proofs.bytesLess_eq _ _
theorem ltN_irr (a : ByteArray) : ltN a a = false := by
  rw [ltN_eq]; exact decide_eq_false (List.lt_irrefl _)
theorem ltN_trans {a b c : ByteArray} (h : ltN a b = true) (k : ltN b c = true) : ltN a c = true := by
  rw [ltN_eq, decide_eq_true_eq] at *; exact List.lt_trans h k
theorem ltO_iff {a b : Oc} : ltO a b = true ↔ a.1 < b.1 ∨ (a.1 = b.1 ∧ ltN a.2 b.2 = true) := by simp [ltO]
theorem ltO_irr (a : Oc) : ltO a a = false := by simp [ltO, ltN_irr]
theorem ltO_trans {a b c : Oc} (h : ltO a b = true) (k : ltO b c = true) : ltO a c = true := by
  rw [ltO_iff] at *
  rcases h with h | ⟨h1, h2⟩ <;> rcases k with k | ⟨k1, k2⟩
  · exact .inl (by omega)
  · exact .inl (by omega)
  · exact .inl (by omega)
  · exact .inr ⟨by omega, ltN_trans h2 k2⟩
theorem ltO_asym {a b : Oc} (h : ltO a b = true) : ltO b a = false := by
  cases q : ltO b a
  · rfl
  · have := ltO_trans h q; rw [ltO_irr] at this; cases this
abbrev SSO (l : List Oc) : Prop := l.Pairwise fun a b => ltO a b = true
theorem SSO.ext : ∀ {l k : List Oc}, SSO l → SSO k → (∀ x, x ∈ l ↔ x ∈ k) → l = k
  | [], [], _, _, _ => rfl
  | [], b :: k, _, _, h => by have := (h b).2 (by simp); simp at this
  | a :: l, [], _, _, h => by have := (h a).1 (by simp); simp at this
  | a :: l, b :: k, h1, h2, h => by
    rw [SSO, List.pairwise_cons] at h1 h2
    have e : a = b := by
      rcases List.mem_cons.1 ((h a).1 (by simp)) with e | e
      · exact e
      · rcases List.mem_cons.1 ((h b).2 (by simp)) with e' | e'
        · exact e'.symm
        · have q1 := h2.1 a e
          have q2 := h1.1 b e'
          rw [ltO_asym q1] at q2; cases q2
    subst e
    congr 1
    refine SSO.ext h1.2 h2.2 fun x => ⟨fun hx => ?_, fun hx => ?_⟩
    · rcases List.mem_cons.1 ((h x).1 (by simp [hx])) with e | e
      · subst e; have := h1.1 _ hx; rw [ltO_irr] at this; cases this
      · exact e
    · rcases List.mem_cons.1 ((h x).2 (by simp [hx])) with e | e
      · subst e; have := h2.1 _ hx; rw [ltO_irr] at this; cases this
      · exact e
end Go.Gh

/- slices.SortFunc at occurrences: the kit's contract, over ghosts. A slice of own slices. -/
namespace Go.Gh
set_option linter.unusedSimpArgs false
set_option linter.unusedVariables false
open Go.Sort (HoldsK Holds flatK putRowK grow)
open Go.Proofs (sortWorldK)
open Go.Proofs (ltOf)
end Go.Gh

/- Checks of a grammar. -/
namespace Go.Gh
set_option linter.unusedSimpArgs false
set_option linter.unusedVariables false
end Go.Gh

/- Inputs of instances; orders and cycles. -/
namespace Go.Gh
set_option linter.unusedSimpArgs false
set_option linter.unusedVariables false
def dC (T : List (List Int)) (goal : Nat) (d : Nat) (out : List Int) (k : Int) : Bool :=
  if d = 1 then decide (k = goal) else decide (k ≠ goal) && decide (0 ≤ k) && decide (out.getD k.toNat 0 = (d : Int) - 1)
def dS (T : List (List Int)) (goal : Nat) (d : Nat) (out : List Int) (i : Nat) : Int :=
  if out.getD i 0 ≠ 0 then out.getD i 0 else if (T.getD i []).any (dC T goal d out) then d else 0
def dL (T : List (List Int)) (goal : Nat) : Nat → List Int
  | 0 => List.replicate T.length 0
  | d + 1 => (List.range T.length).map (dS T goal (d + 1) (dL T goal d))
def dst (T : List (List Int)) (goal : Nat) : List Int := dL T goal T.length
end Go.Gh

/- Calls under a heap in another order; names that differ from the start. -/
namespace Go.Gh
set_option linter.unusedSimpArgs false
set_option linter.unusedVariables false
theorem GCalls.nd {P : Program} {f : FuncId} {gs : List GV} {H : GH} {R : GV → GH → Prop} (h : (names H).Nodup → GCalls P f gs H R) : GCalls P f gs H R :=
  fun w D Ω args hst hargs => h hst.nn w D Ω args hst hargs
theorem GCalls.sub {P : Program} {f : FuncId} {gs : List GV} {H L T : GH} {R : GV → GH → Prop} (hs : subH H L) (h : GCalls P f gs (L ++ T) R) : GCalls P f gs (H ++ T) R := by
  intro w D Ω args hst hargs
  obtain ⟨Ω', h1, h2⟩ := hst.sub hs
  refine Yld.mono (fun v w' ⟨g, H', D', Ω'', k1, k2, k3, k4⟩ => ?_) (h w D Ω' args h1 hargs)
  exact ⟨g, H', D', Ω'', k1, k2, k3, ⟨k4.d0, fun b hb hD => (k4.dn b hb hD).imp id (h2 b), fun b hb hl => h2 b (k4.on b hb hl), k4.kp.mono fun b _ hb hb' => hb (h2 b hb'), k4.os, k4.tape, k4.output⟩⟩
end Go.Gh

/- Checks of a grammar: steps. -/
namespace Go.Gh
set_option linter.unusedSimpArgs false
set_option linter.unusedVariables false
end Go.Gh

/- Heights of symbols: steps. -/
namespace Go.Gh
set_option linter.unusedSimpArgs false
set_option linter.unusedVariables false
end Go.Gh

/- Static grammars. -/
namespace Go.Gh
set_option linter.unusedSimpArgs false
set_option linter.unusedVariables false
end Go.Gh

/- Tables: slices of own slices, opened and closed; their marks. -/
namespace Go.Gh
set_option linter.unusedSimpArgs false
set_option linter.unusedVariables false
end Go.Gh

/- Orders: what the loops keep. -/
namespace Go.Gh
set_option linter.unusedSimpArgs false
set_option linter.unusedVariables false
end Go.Gh

/- Solutions. -/
namespace Go.Gh
set_option linter.unusedSimpArgs false
set_option linter.unusedVariables false
theorem treeOf_parts {g : Gram} {t : List Nod} {s : ByteArray} (h : treeOf g t s = true) : (1 ≤ t.length ∧ t.length ≤ 16) ∧ idsV t = true ∧ walkE g t t.length 0 (-1) 0 s = t.length := by
  simpa only [treeOf, Bool.and_eq_true, decide_eq_true_eq] using h
end Go.Gh

/- Solutions: the steps. -/
namespace Go.Gh
set_option linter.unusedSimpArgs false
set_option linter.unusedVariables false
end Go.Gh

/- Trees as text. -/
namespace Go.Gh
open Lib
set_option linter.unusedSimpArgs false
set_option linter.unusedVariables false
def txtN (g : Gram) (t : List Nod) : Nat → Nat → List UInt8
  | 0, _ => []
  | f + 1, i => ((40 :: chars (t.getD i nodZ).rule) ++ (if (fRul g.rules (t.getD i nodZ).rule).lit = true then 32 :: itoa (t.getD i nodZ).lit else [])) ++ (((t.getD i nodZ).kids.flatMap fun c => 32 :: txtN g t f c.toNat) ++ [41])
theorem kidsW_txt {w : Nat → Int → Int → ByteArray → Int} {i : Nat} {T : Nat → List UInt8} {D : Int} (hw : ∀ a p q s, 0 ≤ w a p q s → (a : Int) < w a p q s ∧ ((T a).length : Int) + 1 ≤ (w a p q s - a) * D) : ∀ (cs : List Int) (ss : List ByteArray) (k a : Int), cs.length = ss.length → 0 ≤ a → 0 ≤ kidsW w i cs ss k a →
    (∀ c ∈ cs, 0 ≤ c ∧ ∃ p q s, 0 ≤ w c.toNat p q s) ∧ ((cs.flatMap fun c => 32 :: T c.toNat).length : Int) ≤ (kidsW w i cs ss k a - a) * D
  | [], _, k, a, _, ha, h => by simp [kidsW]
  | c :: cs, [], k, a, hl, _, _ => by simp at hl
  | c :: cs, s :: ss, k, a, hl, ha, h => by
    simp only [kidsW] at h ⊢
    split at h
    · omega
    rename_i g1
    rw [if_neg g1]
    split at h
    · omega
    rename_i g2
    rw [if_neg g2]
    have h3 := hw a.toNat i (k + 1) s (by omega)
    obtain ⟨h4, h5⟩ := kidsW_txt hw cs ss (k + 1) (w a.toNat i (k + 1) s) (by simpa using hl) (by omega) h
    have hca : c = a := by simpa using g1
    subst hca
    refine ⟨fun x hx => ?_, ?_⟩
    · rcases List.mem_cons.1 hx with rfl | hx
      · exact ⟨ha, (i : Int), k + 1, s, by omega⟩
      · exact h4 x hx
    · simp only [List.flatMap_cons, List.length_append, List.length_cons]
      have e : ((c.toNat : Nat) : Int) = c := by omega
      rw [e] at h3
      generalize w c.toNat i (k + 1) s = y at *
      generalize kidsW w i cs ss (k + 1) y = z at *
      have e2 : (z - c) * D = (z - y) * D + (y - c) * D := by rw [← Int.add_mul]; congr 1; omega
      rw [e2]
      have := h3.2
      push_cast
      omega
theorem walkE_txt {g : Gram} {t : List Nod} {D : Int} (hD : ∀ x ∈ t, ((chars x.rule).length : Int) + 24 ≤ D) : ∀ (f i : Nat) (p q : Int) (s : ByteArray), 0 ≤ walkE g t f i p q s →
    ((txtN g t f i).length : Int) + 1 ≤ (walkE g t f i p q s - i) * D
  | 0, i, p, q, s, h => by simp [walkE] at h
  | f + 1, i, p, q, s, h => by
    simp only [walkE] at h ⊢
    split at h
    · rename_i hi
      rw [if_pos hi]
      split at h
      · rename_i hf
        rw [if_pos hf]
        obtain ⟨_, _, _, _, hl, hlit, _⟩ := fitV_iff.1 hf
        have h2 := kidsW_txt (w := walkE g t f) (T := txtN g t f) (D := D) (fun a p q s h => ⟨(walkE_ge f a p q s h).1, walkE_txt hD f a p q s h⟩) _ _ 0 ((i : Int) + 1) hl (by omega) h
        have h3 := hD (t.getD i nodZ) (by rw [getD_lt hi]; exact List.getElem_mem hi)
        have h4 := itoa_len (n := (t.getD i nodZ).lit) (by omega) (by omega)
        have h5 : (((if (fRul g.rules (t.getD i nodZ).rule).lit = true then 32 :: itoa (t.getD i nodZ).lit else []) : List UInt8).length : Int) ≤ 21 := by
          split
          · simp only [List.length_cons]; omega
          · simp
        generalize hz : kidsW (walkE g t f) i (t.getD i nodZ).kids (fRul g.rules (t.getD i nodZ).rule).right 0 ((i : Int) + 1) = z at *
        have e2 : (z - i) * D = (z - ((i : Int) + 1)) * D + D := by rw [show z - (i : Int) = (z - ((i : Int) + 1)) + 1 by omega, Int.add_mul, Int.one_mul]
        rw [e2]
        have h6 := h2.2
        simp only [txtN, List.length_append, List.length_cons, List.length_nil] at h6 ⊢
        omega
      · omega
    · omega
theorem fm_st {α β : Type} (F : α → List β) (l : List α) {j : Nat} (h : j < l.length) : (l.take (j + 1)).flatMap F = (l.take j).flatMap F ++ F l[j] := by
  rw [List.take_add_one, List.getElem?_eq_getElem h]
  simp only [List.flatMap_append, Option.toList_some, List.flatMap_cons, List.flatMap_nil, List.append_nil]
theorem fm_len {α β : Type} (F : α → List β) (l : List α) (j : Nat) : ((l.take j).flatMap F).length ≤ (l.flatMap F).length := by
  have : (l.flatMap F) = (l.take j).flatMap F ++ (l.drop j).flatMap F := by rw [← List.flatMap_append, List.take_append_drop]
  rw [this, List.length_append]
  omega
theorem walkE_node {g : Gram} {t : List Nod} {D : Int} (hD : ∀ x ∈ t, ((chars x.rule).length : Int) + 24 ≤ D) (hD2 : D ≤ 4194304) (ht : t.length ≤ 1048576) {f i : Nat} {p q : Int} {s : ByteArray} (h : 0 ≤ walkE g t (f + 1) i p q s) :
    ∃ hi : i < t.length, (-1000000 ≤ t[i].lit ∧ t[i].lit ≤ 1000000) ∧ (∀ c ∈ t[i].kids, ∃ j : Nat, c = j ∧ ∃ p q s, 0 ≤ walkE g t f j p q s) ∧ (txtN g t (f + 1) i).length ≤ 4398046511104 := by
  have hge := walkE_ge (f + 1) i p q s h
  have hlen := walkE_txt hD (f + 1) i p q s h
  have h0 := h
  simp only [walkE] at h
  split at h
  · rename_i hi
    split at h
    · rename_i hf
      obtain ⟨_, _, _, _, hl, hlit, _⟩ := fitV_iff.1 hf
      have h2 := kidsW_txt (w := walkE g t f) (T := txtN g t f) (D := D) (fun a p q s h => ⟨(walkE_ge f a p q s h).1, walkE_txt hD f a p q s h⟩) _ _ 0 ((i : Int) + 1) hl (by omega) h
      rw [getD_lt hi] at hlit h2
      refine ⟨hi, hlit, fun c hc => ?_, ?_⟩
      · obtain ⟨h3, h4⟩ := h2.1 c hc
        exact ⟨c.toNat, by omega, h4⟩
      · have h24 := hD t[i] (List.getElem_mem hi)
        have h5 : (walkE g t (f + 1) i p q s - i) * D ≤ 1048576 * 4194304 := Int.mul_le_mul (by omega) hD2 (by omega) (by omega)
        omega
    · omega
  · omega
end Go.Gh

namespace Go.Proofs.YtbdmpkidcpblaaaGreatDoor
open Go.Gh
def g3 : GFun := ⟨⟨45, [2,3,7,8]⟩,
  (.seq (.reg [(.mk (some 2) none (.boxro 2 (.t 0))), (.mk (some 3) none (.boxro 1 (.t 1))), (.mk (some 4) none (.mov (.k (.val (.bool false)))))]) (.seq (.reg [(.mk (some 5) none (.mov (.k (.val (.int .i64
  1048576)))))]) (.seq (.reg [(.mk (some 10) none (.load 2 true (.t 2))), (.mk (some 11) none (.mov (.t 5))), (.mk (some 12) none (.call false 4 [(.t 10), (.t 11)])), (.mk (some 5) none (.mov (.t 12)))]) (.seq (.seq
  (.reg [(.mk (some 13) none (.mov (.t 5))), (.mk (some 14) none (.bin .lss (.t 13) (.k (.val (.int .i64 0)))))]) (.cond 14 (.seq (.reg [(.mk (some 4) none (.mov (.k (.val (.bool true)))))]) .ret) .skip)) (.seq (.reg
  [(.mk (some 15) none (.load 1 true (.t 3))), (.mk (some 16) none (.mov (.t 5))), (.mk (some 17) none (.call false 5 [(.t 15), (.t 16)])), (.mk (some 5) none (.mov (.t 17)))]) (.seq (.seq (.reg [(.mk (some 18) none
  (.mov (.t 5))), (.mk (some 19) none (.bin .lss (.t 18) (.k (.val (.int .i64 0)))))]) (.cond 19 (.seq (.reg [(.mk (some 4) none (.mov (.k (.val (.bool true)))))]) .ret) .skip)) (.seq (.reg [(.mk (some 20) none (.load 2
  true (.t 2))), (.mk (some 21) none (.call true 7 [(.t 20)])), (.mk (some 22) none (.load 1 true (.t 3))), (.mk (some 23) none (.call true 8 [(.t 22)])), (.mk (some 24) none (.call true 6 [(.t 21), (.t 23)])), (.mk
  (some 6) none (.mov (.t 24)))]) (.seq (.reg [(.mk (some 25) none (.load 2 true (.t 2))), (.mk (some 26) none (.call false 7 [(.t 25)])), (.mk (some 7) none (.allocr 2)), (.mk (some 7) none (.stro 2 7 (.t 26)))]) (.seq
  (.reg [(.mk (some 27) none (.load 1 true (.t 3))), (.mk (some 28) none (.call false 8 [(.t 27)])), (.mk (some 8) none (.allocr 1)), (.mk (some 8) none (.stro 1 8 (.t 28)))]) (.seq (.reg [(.mk (some 29) none (.load 2
  true (.t 7))), (.mk (some 30) none (.load 1 true (.t 8))), (.mk (some 31) none (.call false 9 [(.t 29), (.t 30)])), (.mk (some 9) none (.mov (.t 31)))]) (.seq (.seq (.reg [(.mk (some 32) none (.mov (.t 9))), (.mk
  (some 33) none (.mov (.t 6))), (.mk (some 34) none (.bin .neq (.t 32) (.t 33)))]) (.cond 34 (.seq (.reg [(.mk (some 4) none (.mov (.k (.val (.bool false)))))]) .ret) .skip)) (.seq (.seq (.reg [(.mk (some 35) none
  (.load 2 true (.t 7))), (.mk (some 36) none (.load 2 true (.t 2))), (.mk (some 37) none (.call true 7 [(.t 36)])), (.mk (some 38) none (.call true 10 [(.t 35), (.t 37)])), (.mk (some 39) none (.not (.t 38)))]) (.cond
  39 (.seq (.reg [(.mk (some 4) none (.mov (.k (.val (.bool false)))))]) .ret) .skip)) (.seq (.seq (.reg [(.mk (some 40) none (.load 1 true (.t 8))), (.mk (some 41) none (.load 1 true (.t 3))), (.mk (some 42) none
  (.call true 8 [(.t 41)])), (.mk (some 43) none (.call true 11 [(.t 40), (.t 42)])), (.mk (some 44) none (.not (.t 43)))]) (.cond 44 (.seq (.reg [(.mk (some 4) none (.mov (.k (.val (.bool false)))))]) .ret) .skip))
  (.seq (.reg [(.mk (some 4) none (.mov (.k (.val (.bool true)))))]) .ret)))))))))))))),
  [(.t 4)]⟩
theorem i3 : IsFun Tryz.prog 3 g3 := ⟨Tryz.f3, _, [], Tryz.func3, by kernel_rfl, rfl, by kernel_rfl, by kernel_rfl, rfl⟩
def g4 : GFun := ⟨⟨18, [2]⟩,
  (.seq (.reg [(.mk (some 2) none (.boxro 2 (.t 0))), (.mk (some 4) none (.mov (.k (.val (.int .i64 0)))))]) (.seq (.reg [(.mk (some 5) none (.faddr 0 1 false (.t 2))), (.mk (some 6) none (.load 1 false (.t 5))), (.mk
  (some 7) none (.mov (.t 1))), (.mk (some 8) none (.call false 12 [(.t 6), (.t 7)])), (.mk (some 1) none (.mov (.t 8)))]) (.seq (.seq (.reg [(.mk (some 9) none (.mov (.t 1))), (.mk (some 10) none (.bin .lss (.t 9) (.k
  (.val (.int .i64 0)))))]) (.cond 10 (.seq (.reg [(.mk (some 4) none (.mov (.k (.val (.int .i64 (-1))))))]) .ret) .skip)) (.seq (.reg [(.mk (some 11) none (.faddr 1 1 false (.t 2))), (.mk (some 12) none (.load 1 false
  (.t 11))), (.mk (some 13) none (.mov (.t 1))), (.mk (some 14) none (.call false 13 [(.t 12), (.t 13)])), (.mk (some 1) none (.mov (.t 14)))]) (.seq (.seq (.reg [(.mk (some 15) none (.mov (.t 1))), (.mk (some 16) none
  (.bin .lss (.t 15) (.k (.val (.int .i64 0)))))]) (.cond 16 (.seq (.reg [(.mk (some 4) none (.mov (.k (.val (.int .i64 (-1))))))]) .ret) .skip)) (.seq (.reg [(.mk (some 17) none (.mov (.t 1))), (.mk (some 4) none (.mov
  (.t 17)))]) .ret)))))),
  [(.t 4)]⟩
theorem i4 : IsFun Tryz.prog 4 g4 := ⟨Tryz.f4, _, [], Tryz.func4, by kernel_rfl, rfl, by kernel_rfl, by kernel_rfl, rfl⟩
def g5 : GFun := ⟨⟨12, [2]⟩,
  (.seq (.reg [(.mk (some 2) none (.boxro 1 (.t 0))), (.mk (some 4) none (.mov (.k (.val (.int .i64 0)))))]) (.seq (.reg [(.mk (some 5) none (.faddr 0 1 false (.t 2))), (.mk (some 6) none (.load 1 false (.t 5))), (.mk
  (some 7) none (.mov (.t 1))), (.mk (some 8) none (.call false 14 [(.t 6), (.t 7)])), (.mk (some 1) none (.mov (.t 8)))]) (.seq (.seq (.reg [(.mk (some 9) none (.mov (.t 1))), (.mk (some 10) none (.bin .lss (.t 9) (.k
  (.val (.int .i64 0)))))]) (.cond 10 (.seq (.reg [(.mk (some 4) none (.mov (.k (.val (.int .i64 (-1))))))]) .ret) .skip)) (.seq (.reg [(.mk (some 11) none (.mov (.t 1))), (.mk (some 4) none (.mov (.t 11)))]) .ret)))),
  [(.t 4)]⟩
theorem i5 : IsFun Tryz.prog 5 g5 := ⟨Tryz.f5, _, [], Tryz.func5, by kernel_rfl, rfl, by kernel_rfl, by kernel_rfl, rfl⟩
def g6 : GFun := ⟨⟨15, [2,3]⟩,
  (.seq (.reg [(.mk (some 2) none (.boxro 2 (.t 0))), (.mk (some 3) none (.boxro 1 (.t 1))), (.mk (some 4) none (.mov (.k (.val (.string (ByteArray.mk #[]))))))]) (.seq (.seq (.reg [(.mk (some 5) none (.load 2 true (.t
  2))), (.mk (some 6) none (.load 1 true (.t 3))), (.mk (some 7) none (.load 2 true (.t 2))), (.mk (some 8) none (.load 1 true (.t 3))), (.mk (some 9) none (.call true 16 [(.t 7), (.t 8), (.k (.val (.int .i64 0)))])),
  (.mk (some 10) none (.call true 15 [(.t 5), (.t 6), (.t 9)])), (.mk (some 11) none (.not (.t 10)))]) (.cond 11 (.seq (.reg [(.mk (some 4) none (.mov (.k (.val (.string (ByteArray.mk #[]))))))]) .ret) .skip)) (.seq
  (.reg [(.mk (some 12) none (.load 2 true (.t 2))), (.mk (some 13) none (.load 1 true (.t 3))), (.mk (some 14) none (.call false 17 [(.t 12), (.t 13), (.k (.val (.int .i64 0)))])), (.mk (some 4) none (.mov (.t 14)))])
  .ret))),
  [(.t 4)]⟩
theorem i6 : IsFun Tryz.prog 6 g6 := ⟨Tryz.f6, _, [], Tryz.func6, by kernel_rfl, rfl, by kernel_rfl, by kernel_rfl, rfl⟩
def g7 : GFun := ⟨⟨13, [1,2]⟩,
  (.seq (.reg [(.mk (some 1) none (.boxro 2 (.t 0))), (.mk (some 2) none (.allocr 2))]) (.seq (.reg [(.mk (some 3) none (.alloc 2 (.agg [(.val (.slice none 0 0)), (.val (.slice none 0 0))])))]) (.seq (.reg [(.mk (some
  4) none (.faddr 0 1 false (.t 1))), (.mk (some 5) none (.load 1 false (.t 4))), (.mk (some 6) none (.call false 18 [(.t 5)])), (.mk (some 7) none (.faddr 0 1 false (.t 3))), (.mk none none (.store 1 (.t 7) (.t 6)))])
  (.seq (.reg [(.mk (some 8) none (.faddr 1 1 false (.t 1))), (.mk (some 9) none (.load 1 false (.t 8))), (.mk (some 10) none (.call false 19 [(.t 9)])), (.mk (some 11) none (.faddr 1 1 false (.t 3))), (.mk none none
  (.store 1 (.t 11) (.t 10)))]) (.seq (.reg [(.mk (some 12) none (.load 2 true (.t 3))), (.mk (some 2) none (.stro 2 2 (.t 12)))]) .ret))))),
  [(.c 2 2 true)]⟩
theorem i7 : IsFun Tryz.prog 7 g7 := ⟨Tryz.f7, _, [], Tryz.func7, by kernel_rfl, rfl, by kernel_rfl, by kernel_rfl, rfl⟩
def g8 : GFun := ⟨⟨9, [1,2]⟩,
  (.seq (.reg [(.mk (some 1) none (.boxro 1 (.t 0))), (.mk (some 2) none (.allocr 1))]) (.seq (.reg [(.mk (some 3) none (.alloc 1 (.agg [(.val (.slice none 0 0))])))]) (.seq (.reg [(.mk (some 4) none (.faddr 0 1 false
  (.t 1))), (.mk (some 5) none (.load 1 false (.t 4))), (.mk (some 6) none (.call false 20 [(.t 5)])), (.mk (some 7) none (.faddr 0 1 false (.t 3))), (.mk none none (.store 1 (.t 7) (.t 6)))]) (.seq (.reg [(.mk (some 8)
  none (.load 1 true (.t 3))), (.mk (some 2) none (.stro 1 2 (.t 8)))]) .ret)))),
  [(.c 2 1 true)]⟩
theorem i8 : IsFun Tryz.prog 8 g8 := ⟨Tryz.f8, _, [], Tryz.func8, by kernel_rfl, rfl, by kernel_rfl, by kernel_rfl, rfl⟩
def g9 : GFun := ⟨⟨12, [2,3]⟩,
  (.seq (.reg [(.mk (some 2) none (.boxro 2 (.t 0))), (.mk (some 3) none (.boxro 1 (.t 1))), (.mk (some 4) none (.mov (.k (.val (.string (ByteArray.mk #[]))))))]) (.seq (.seq (.reg [(.mk (some 5) none (.load 2 true (.t
  2))), (.mk (some 6) none (.load 1 true (.t 3))), (.mk (some 7) none (.call false 21 [(.t 5), (.t 6)])), (.mk (some 8) none (.not (.t 7)))]) (.cond 8 (.seq (.reg [(.mk (some 4) none (.mov (.k (.val (.string
  (ByteArray.mk #[]))))))]) .ret) .skip)) (.seq (.reg [(.mk (some 9) none (.load 2 true (.t 2))), (.mk (some 10) none (.load 1 true (.t 3))), (.mk (some 11) none (.call false 22 [(.t 9), (.t 10), (.k (.val (.int .i64
  0)))])), (.mk (some 4) none (.mov (.t 11)))]) .ret))),
  [(.t 4)]⟩
theorem i9 : IsFun Tryz.prog 9 g9 := ⟨Tryz.f9, _, [], Tryz.func9, by kernel_rfl, rfl, by kernel_rfl, by kernel_rfl, rfl⟩
def g10 : GFun := ⟨⟨17, [2,3]⟩,
  (.seq (.reg [(.mk (some 2) none (.boxro 2 (.t 0))), (.mk (some 3) none (.boxro 2 (.t 1))), (.mk (some 4) none (.mov (.k (.val (.bool false)))))]) (.seq (.seq (.reg [(.mk (some 5) none (.faddr 0 1 false (.t 2))), (.mk
  (some 6) none (.load 1 false (.t 5))), (.mk (some 7) none (.faddr 0 1 false (.t 3))), (.mk (some 8) none (.load 1 false (.t 7))), (.mk (some 9) none (.call false 23 [(.t 6), (.t 8)])), (.mk (some 10) none (.not (.t
  9)))]) (.cond 10 (.seq (.reg [(.mk (some 4) none (.mov (.k (.val (.bool false)))))]) .ret) .skip)) (.seq (.seq (.reg [(.mk (some 11) none (.faddr 1 1 false (.t 2))), (.mk (some 12) none (.load 1 false (.t 11))), (.mk
  (some 13) none (.faddr 1 1 false (.t 3))), (.mk (some 14) none (.load 1 false (.t 13))), (.mk (some 15) none (.call false 24 [(.t 12), (.t 14)])), (.mk (some 16) none (.not (.t 15)))]) (.cond 16 (.seq (.reg [(.mk
  (some 4) none (.mov (.k (.val (.bool false)))))]) .ret) .skip)) (.seq (.reg [(.mk (some 4) none (.mov (.k (.val (.bool true)))))]) .ret)))),
  [(.t 4)]⟩
theorem i10 : IsFun Tryz.prog 10 g10 := ⟨Tryz.f10, _, [], Tryz.func10, by kernel_rfl, rfl, by kernel_rfl, by kernel_rfl, rfl⟩
def g11 : GFun := ⟨⟨11, [2,3]⟩,
  (.seq (.reg [(.mk (some 2) none (.boxro 1 (.t 0))), (.mk (some 3) none (.boxro 1 (.t 1))), (.mk (some 4) none (.mov (.k (.val (.bool false)))))]) (.seq (.seq (.reg [(.mk (some 5) none (.faddr 0 1 false (.t 2))), (.mk
  (some 6) none (.load 1 false (.t 5))), (.mk (some 7) none (.faddr 0 1 false (.t 3))), (.mk (some 8) none (.load 1 false (.t 7))), (.mk (some 9) none (.call false 25 [(.t 6), (.t 8)])), (.mk (some 10) none (.not (.t
  9)))]) (.cond 10 (.seq (.reg [(.mk (some 4) none (.mov (.k (.val (.bool false)))))]) .ret) .skip)) (.seq (.reg [(.mk (some 4) none (.mov (.k (.val (.bool true)))))]) .ret))),
  [(.t 4)]⟩
theorem i11 : IsFun Tryz.prog 11 g11 := ⟨Tryz.f11, _, [], Tryz.func11, by kernel_rfl, rfl, by kernel_rfl, by kernel_rfl, rfl⟩
def g12 : GFun := ⟨⟨27, []⟩,
  (.seq (.reg [(.mk (some 4) none (.mov (.k (.val (.int .i64 0)))))]) (.seq (.reg [(.mk (some 6) none (.mov (.t 1))), (.mk (some 7) none (.mov (.t 0))), (.mk (some 8) none (.len (.t 7))), (.mk (some 9) none (.bin .sub
  (.t 6) (.t 8))), (.mk (some 1) none (.mov (.t 9)))]) (.seq (.seq (.reg [(.mk (some 10) none (.mov (.t 1))), (.mk (some 11) none (.bin .lss (.t 10) (.k (.val (.int .i64 0)))))]) (.cond 11 (.seq (.reg [(.mk (some 4)
  none (.mov (.k (.val (.int .i64 (-1))))))]) .ret) .skip)) (.seq (.seq (.reg [(.mk (some 5) none (.mov (.k (.val (.int .i64 0)))))]) (.block 0 (.loop (.seq (.seq (.reg [(.mk (some 12) none (.mov (.t 5))), (.mk (some
  13) none (.mov (.t 0))), (.mk (some 14) none (.len (.t 13))), (.mk (some 15) none (.bin .lss (.t 12) (.t 14)))]) (.cond 15 .skip (.exit 0))) (.seq (.block 1 (.seq (.reg [(.mk (some 18) none (.mov (.t 0))), (.mk (some
  19) none (.mov (.t 5))), (.mk (some 20) none (.iaddr 2 (.t 18) (.t 19))), (.mk (some 21) none (.load 2 true (.t 20))), (.mk (some 22) none (.mov (.t 1))), (.mk (some 23) none (.call false 26 [(.t 21), (.t 22)])), (.mk
  (some 1) none (.mov (.t 23)))]) (.seq (.reg [(.mk (some 24) none (.mov (.t 1))), (.mk (some 25) none (.bin .lss (.t 24) (.k (.val (.int .i64 0)))))]) (.cond 25 (.seq (.reg [(.mk (some 4) none (.mov (.k (.val (.int
  .i64 (-1))))))]) .ret) .skip)))) (.reg [(.mk (some 16) none (.mov (.t 5))), (.mk (some 17) none (.bin .add (.t 16) (.k (.val (.int .i64 1))))), (.mk (some 5) none (.mov (.t 17)))])))))) (.seq (.reg [(.mk (some 26)
  none (.mov (.t 1))), (.mk (some 4) none (.mov (.t 26)))]) .ret))))),
  [(.t 4)]⟩
theorem i12 : IsFun Tryz.prog 12 g12 := ⟨Tryz.f12, _, [], Tryz.func12, by kernel_rfl, rfl, by kernel_rfl, by kernel_rfl, rfl⟩
def g13 : GFun := ⟨⟨27, []⟩,
  (.seq (.reg [(.mk (some 4) none (.mov (.k (.val (.int .i64 0)))))]) (.seq (.reg [(.mk (some 6) none (.mov (.t 1))), (.mk (some 7) none (.mov (.t 0))), (.mk (some 8) none (.len (.t 7))), (.mk (some 9) none (.bin .sub
  (.t 6) (.t 8))), (.mk (some 1) none (.mov (.t 9)))]) (.seq (.seq (.reg [(.mk (some 10) none (.mov (.t 1))), (.mk (some 11) none (.bin .lss (.t 10) (.k (.val (.int .i64 0)))))]) (.cond 11 (.seq (.reg [(.mk (some 4)
  none (.mov (.k (.val (.int .i64 (-1))))))]) .ret) .skip)) (.seq (.seq (.reg [(.mk (some 5) none (.mov (.k (.val (.int .i64 0)))))]) (.block 0 (.loop (.seq (.seq (.reg [(.mk (some 12) none (.mov (.t 5))), (.mk (some
  13) none (.mov (.t 0))), (.mk (some 14) none (.len (.t 13))), (.mk (some 15) none (.bin .lss (.t 12) (.t 14)))]) (.cond 15 .skip (.exit 0))) (.seq (.block 1 (.seq (.reg [(.mk (some 18) none (.mov (.t 0))), (.mk (some
  19) none (.mov (.t 5))), (.mk (some 20) none (.iaddr 6 (.t 18) (.t 19))), (.mk (some 21) none (.load 6 true (.t 20))), (.mk (some 22) none (.mov (.t 1))), (.mk (some 23) none (.call false 27 [(.t 21), (.t 22)])), (.mk
  (some 1) none (.mov (.t 23)))]) (.seq (.reg [(.mk (some 24) none (.mov (.t 1))), (.mk (some 25) none (.bin .lss (.t 24) (.k (.val (.int .i64 0)))))]) (.cond 25 (.seq (.reg [(.mk (some 4) none (.mov (.k (.val (.int
  .i64 (-1))))))]) .ret) .skip)))) (.reg [(.mk (some 16) none (.mov (.t 5))), (.mk (some 17) none (.bin .add (.t 16) (.k (.val (.int .i64 1))))), (.mk (some 5) none (.mov (.t 17)))])))))) (.seq (.reg [(.mk (some 26)
  none (.mov (.t 1))), (.mk (some 4) none (.mov (.t 26)))]) .ret))))),
  [(.t 4)]⟩
theorem i13 : IsFun Tryz.prog 13 g13 := ⟨Tryz.f13, _, [], Tryz.func13, by kernel_rfl, rfl, by kernel_rfl, by kernel_rfl, rfl⟩
def g14 : GFun := ⟨⟨27, []⟩,
  (.seq (.reg [(.mk (some 4) none (.mov (.k (.val (.int .i64 0)))))]) (.seq (.reg [(.mk (some 6) none (.mov (.t 1))), (.mk (some 7) none (.mov (.t 0))), (.mk (some 8) none (.len (.t 7))), (.mk (some 9) none (.bin .sub
  (.t 6) (.t 8))), (.mk (some 1) none (.mov (.t 9)))]) (.seq (.seq (.reg [(.mk (some 10) none (.mov (.t 1))), (.mk (some 11) none (.bin .lss (.t 10) (.k (.val (.int .i64 0)))))]) (.cond 11 (.seq (.reg [(.mk (some 4)
  none (.mov (.k (.val (.int .i64 (-1))))))]) .ret) .skip)) (.seq (.seq (.reg [(.mk (some 5) none (.mov (.k (.val (.int .i64 0)))))]) (.block 0 (.loop (.seq (.seq (.reg [(.mk (some 12) none (.mov (.t 5))), (.mk (some
  13) none (.mov (.t 0))), (.mk (some 14) none (.len (.t 13))), (.mk (some 15) none (.bin .lss (.t 12) (.t 14)))]) (.cond 15 .skip (.exit 0))) (.seq (.block 1 (.seq (.reg [(.mk (some 18) none (.mov (.t 0))), (.mk (some
  19) none (.mov (.t 5))), (.mk (some 20) none (.iaddr 6 (.t 18) (.t 19))), (.mk (some 21) none (.load 6 true (.t 20))), (.mk (some 22) none (.mov (.t 1))), (.mk (some 23) none (.call false 28 [(.t 21), (.t 22)])), (.mk
  (some 1) none (.mov (.t 23)))]) (.seq (.reg [(.mk (some 24) none (.mov (.t 1))), (.mk (some 25) none (.bin .lss (.t 24) (.k (.val (.int .i64 0)))))]) (.cond 25 (.seq (.reg [(.mk (some 4) none (.mov (.k (.val (.int
  .i64 (-1))))))]) .ret) .skip)))) (.reg [(.mk (some 16) none (.mov (.t 5))), (.mk (some 17) none (.bin .add (.t 16) (.k (.val (.int .i64 1))))), (.mk (some 5) none (.mov (.t 17)))])))))) (.seq (.reg [(.mk (some 26)
  none (.mov (.t 1))), (.mk (some 4) none (.mov (.t 26)))]) .ret))))),
  [(.t 4)]⟩
theorem i14 : IsFun Tryz.prog 14 g14 := ⟨Tryz.f14, _, [], Tryz.func14, by kernel_rfl, rfl, by kernel_rfl, by kernel_rfl, rfl⟩
def g15 : GFun := ⟨⟨19, [3,4]⟩,
  (.seq (.reg [(.mk (some 3) none (.boxro 2 (.t 0))), (.mk (some 4) none (.boxro 1 (.t 1))), (.mk (some 6) none (.mov (.k (.val (.bool false)))))]) (.seq (.reg [(.mk (some 7) none (.load 1 true (.t 4))), (.mk (some 8)
  none (.call true 29 [(.t 7)])), (.mk (some 9) none (.mov (.t 8))), (.mk (some 12) (some (9, true)) (.mov (.t 2))), (.mk (some 14) (some (9, true)) (.faddr 0 1 false (.t 4))), (.mk (some 10) (some (9, true)) (.load 2
  true (.t 3))), (.mk (some 11) (some (9, true)) (.load 1 true (.t 4))), (.mk (some 13) (some (9, true)) (.call true 30 [(.t 10), (.t 11), (.k (.val (.int .i64 0))), (.k (.val (.int .i64 (-1)))), (.k (.val (.int .i64
  0))), (.t 12)])), (.mk (some 15) (some (9, true)) (.load 1 false (.t 14))), (.mk (some 16) (some (9, true)) (.len (.t 15))), (.mk (some 17) (some (9, true)) (.bin .eql (.t 13) (.t 16))), (.mk (some 18) none (.pick (.t
  9) (.t 17) (.k (.val (.bool false))))), (.mk (some 6) none (.mov (.t 18)))]) .ret)),
  [(.t 6)]⟩
theorem i15 : IsFun Tryz.prog 15 g15 := ⟨Tryz.f15, _, [], Tryz.func15, by kernel_rfl, rfl, by kernel_rfl, by kernel_rfl, rfl⟩
def g16 : GFun := ⟨⟨29, [3,4,7]⟩,
  (.seq (.reg [(.mk (some 3) none (.boxro 2 (.t 0))), (.mk (some 4) none (.boxro 1 (.t 1))), (.mk (some 6) none (.mov (.k (.val (.string (ByteArray.mk #[]))))))]) (.seq (.seq (.reg [(.mk (some 9) none (.mov (.t 2))),
  (.mk (some 10) none (.faddr 0 1 false (.t 4))), (.mk (some 11) none (.load 1 false (.t 10))), (.mk (some 12) none (.len (.t 11))), (.mk (some 13) none (.bin .sub (.t 12) (.k (.val (.int .i64 1))))), (.mk (some 14)
  none (.call false 31 [(.t 9), (.k (.val (.int .i64 0))), (.t 13)])), (.mk (some 15) none (.not (.t 14)))]) (.cond 15 (.seq (.reg [(.mk (some 6) none (.mov (.k (.val (.string (ByteArray.mk #[]))))))]) .ret) .skip))
  (.seq (.reg [(.mk (some 18) none (.faddr 0 1 false (.t 4))), (.mk (some 20) none (.mov (.t 2))), (.mk (some 7) none (.allocr 6)), (.mk (some 17) none (.load 2 true (.t 3))), (.mk (some 19) none (.load 1 false (.t
  18))), (.mk (some 21) none (.iaddr 6 (.t 19) (.t 20))), (.mk (some 22) none (.faddr 4 1 false (.t 21))), (.mk (some 23) none (.load 1 false (.t 22))), (.mk (some 24) none (.call true 32 [(.t 17), (.t 23)])), (.mk
  (some 16) none (.mov (.t 24))), (.mk (some 25) none (.ext (.t 16) 0)), (.mk (some 26) none (.ext (.t 16) 1)), (.mk (some 7) none (.stro 6 7 (.t 25))), (.mk (some 8) none (.mov (.t 26)))]) (.seq (.reg [(.mk (some 27)
  none (.faddr 1 1 false (.t 7))), (.mk (some 28) none (.load 1 false (.t 27))), (.mk (some 6) none (.mov (.t 28)))]) .ret)))),
  [(.t 6)]⟩
theorem i16 : IsFun Tryz.prog 16 g16 := ⟨Tryz.f16, _, [], Tryz.func16, by kernel_rfl, rfl, by kernel_rfl, by kernel_rfl, rfl⟩
def g17 : GFun := ⟨⟨55, [3,4,7,8]⟩,
  (.seq (.reg [(.mk (some 3) none (.boxro 2 (.t 0))), (.mk (some 4) none (.boxro 1 (.t 1))), (.mk (some 6) none (.mov (.k (.val (.string (ByteArray.mk #[]))))))]) (.seq (.reg [(.mk (some 12) none (.faddr 0 1 false (.t
  4))), (.mk (some 13) none (.load 1 false (.t 12))), (.mk (some 14) none (.mov (.t 2))), (.mk (some 15) none (.iaddr 6 (.t 13) (.t 14))), (.mk (some 16) none (.load 6 true (.t 15))), (.mk (some 7) none (.allocr 6)),
  (.mk (some 7) none (.stro 6 7 (.t 16)))]) (.seq (.reg [(.mk (some 18) none (.load 2 true (.t 3))), (.mk (some 19) none (.faddr 4 1 false (.t 7))), (.mk (some 20) none (.load 1 false (.t 19))), (.mk (some 21) none
  (.call false 32 [(.t 18), (.t 20)])), (.mk (some 17) none (.mov (.t 21))), (.mk (some 22) none (.ext (.t 17) 0)), (.mk (some 23) none (.ext (.t 17) 1)), (.mk (some 8) none (.allocr 6)), (.mk (some 8) none (.stro 6 8
  (.t 22))), (.mk (some 9) none (.mov (.t 23)))]) (.seq (.reg [(.mk (some 24) none (.faddr 4 1 false (.t 7))), (.mk (some 25) none (.load 1 false (.t 24))), (.mk (some 26) none (.bin .add (.k (.val (.string
  (ByteArray.mk #[40])))) (.t 25))), (.mk (some 10) none (.mov (.t 26)))]) (.seq (.seq (.reg [(.mk (some 27) none (.faddr 3 1 false (.t 8))), (.mk (some 28) none (.load 1 false (.t 27)))]) (.cond 28 (.reg [(.mk (some
  29) none (.mov (.t 10))), (.mk (some 30) none (.bin .add (.t 29) (.k (.val (.string (ByteArray.mk #[32])))))), (.mk (some 31) none (.faddr 3 1 false (.t 7))), (.mk (some 32) none (.load 1 false (.t 31))), (.mk (some
  33) none (.call false 33 [(.t 32)])), (.mk (some 34) none (.bin .add (.t 30) (.t 33))), (.mk (some 10) none (.mov (.t 34)))]) .skip)) (.seq (.seq (.reg [(.mk (some 11) none (.mov (.k (.val (.int .i64 0)))))]) (.block
  0 (.loop (.seq (.seq (.reg [(.mk (some 35) none (.mov (.t 11))), (.mk (some 36) none (.faddr 5 1 false (.t 7))), (.mk (some 37) none (.load 1 false (.t 36))), (.mk (some 38) none (.len (.t 37))), (.mk (some 39) none
  (.bin .lss (.t 35) (.t 38)))]) (.cond 39 .skip (.exit 0))) (.seq (.block 1 (.reg [(.mk (some 42) none (.mov (.t 10))), (.mk (some 43) none (.bin .add (.t 42) (.k (.val (.string (ByteArray.mk #[32])))))), (.mk (some
  46) none (.faddr 5 1 false (.t 7))), (.mk (some 48) none (.mov (.t 11))), (.mk (some 44) none (.load 2 true (.t 3))), (.mk (some 45) none (.load 1 true (.t 4))), (.mk (some 47) none (.load 1 false (.t 46))), (.mk
  (some 49) none (.iaddr 1 (.t 47) (.t 48))), (.mk (some 50) none (.load 1 false (.t 49))), (.mk (some 51) none (.call true 17 [(.t 44), (.t 45), (.t 50)])), (.mk (some 52) none (.bin .add (.t 43) (.t 51))), (.mk (some
  10) none (.mov (.t 52)))])) (.reg [(.mk (some 40) none (.mov (.t 11))), (.mk (some 41) none (.bin .add (.t 40) (.k (.val (.int .i64 1))))), (.mk (some 11) none (.mov (.t 41)))])))))) (.seq (.reg [(.mk (some 53) none
  (.mov (.t 10))), (.mk (some 54) none (.bin .add (.t 53) (.k (.val (.string (ByteArray.mk #[41])))))), (.mk (some 6) none (.mov (.t 54)))]) .ret))))))),
  [(.t 6)]⟩
theorem i17 : IsFun Tryz.prog 17 g17 := ⟨Tryz.f17, _, [], Tryz.func17, by kernel_rfl, rfl, by kernel_rfl, by kernel_rfl, rfl⟩
def g18 : GFun := ⟨⟨23, []⟩,
  (.seq (.reg [(.mk (some 2) none (.mov (.k (.val (.slice none 0 0)))))]) (.seq (.reg [(.mk (some 5) none (.mov (.t 0))), (.mk (some 6) none (.len (.t 5))), (.mk (some 7) none (.mkslice 2 40 (.agg [(.val (.string
  (ByteArray.mk #[]))), (.val (.slice none 0 0))]) (.t 6) (.t 6))), (.mk (some 3) none (.mov (.t 7)))]) (.seq (.seq (.reg [(.mk (some 4) none (.mov (.k (.val (.int .i64 0)))))]) (.block 0 (.loop (.seq (.seq (.reg [(.mk
  (some 8) none (.mov (.t 4))), (.mk (some 9) none (.mov (.t 0))), (.mk (some 10) none (.len (.t 9))), (.mk (some 11) none (.bin .lss (.t 8) (.t 10)))]) (.cond 11 .skip (.exit 0))) (.seq (.block 1 (.reg [(.mk (some 14)
  none (.mov (.t 3))), (.mk (some 15) none (.mov (.t 4))), (.mk (some 16) none (.mov (.t 0))), (.mk (some 17) none (.mov (.t 4))), (.mk (some 18) none (.iaddr 2 (.t 16) (.t 17))), (.mk (some 19) none (.load 2 true (.t
  18))), (.mk (some 20) none (.call false 34 [(.t 19)])), (.mk (some 21) none (.iaddr 2 (.t 14) (.t 15))), (.mk none none (.store 2 (.t 21) (.t 20)))])) (.reg [(.mk (some 12) none (.mov (.t 4))), (.mk (some 13) none
  (.bin .add (.t 12) (.k (.val (.int .i64 1))))), (.mk (some 4) none (.mov (.t 13)))])))))) (.seq (.reg [(.mk (some 22) none (.mov (.t 3))), (.mk (some 2) none (.mov (.t 22)))]) .ret)))),
  [(.t 2)]⟩
theorem i18 : IsFun Tryz.prog 18 g18 := ⟨Tryz.f18, _, [], Tryz.func18, by kernel_rfl, rfl, by kernel_rfl, by kernel_rfl, rfl⟩
def g19 : GFun := ⟨⟨23, []⟩,
  (.seq (.reg [(.mk (some 2) none (.mov (.k (.val (.slice none 0 0)))))]) (.seq (.reg [(.mk (some 5) none (.mov (.t 0))), (.mk (some 6) none (.len (.t 5))), (.mk (some 7) none (.mkslice 6 112 (.agg [(.val (.string
  (ByteArray.mk #[]))), (.val (.string (ByteArray.mk #[]))), (.val (.slice none 0 0)), (.val (.bool false)), (.val (.slice none 0 0)), (.val (.slice none 0 0))]) (.t 6) (.t 6))), (.mk (some 3) none (.mov (.t 7)))])
  (.seq (.seq (.reg [(.mk (some 4) none (.mov (.k (.val (.int .i64 0)))))]) (.block 0 (.loop (.seq (.seq (.reg [(.mk (some 8) none (.mov (.t 4))), (.mk (some 9) none (.mov (.t 0))), (.mk (some 10) none (.len (.t 9))),
  (.mk (some 11) none (.bin .lss (.t 8) (.t 10)))]) (.cond 11 .skip (.exit 0))) (.seq (.block 1 (.reg [(.mk (some 14) none (.mov (.t 3))), (.mk (some 15) none (.mov (.t 4))), (.mk (some 16) none (.mov (.t 0))), (.mk
  (some 17) none (.mov (.t 4))), (.mk (some 18) none (.iaddr 6 (.t 16) (.t 17))), (.mk (some 19) none (.load 6 true (.t 18))), (.mk (some 20) none (.call false 35 [(.t 19)])), (.mk (some 21) none (.iaddr 6 (.t 14) (.t
  15))), (.mk none none (.store 6 (.t 21) (.t 20)))])) (.reg [(.mk (some 12) none (.mov (.t 4))), (.mk (some 13) none (.bin .add (.t 12) (.k (.val (.int .i64 1))))), (.mk (some 4) none (.mov (.t 13)))])))))) (.seq (.reg
  [(.mk (some 22) none (.mov (.t 3))), (.mk (some 2) none (.mov (.t 22)))]) .ret)))),
  [(.t 2)]⟩
theorem i19 : IsFun Tryz.prog 19 g19 := ⟨Tryz.f19, _, [], Tryz.func19, by kernel_rfl, rfl, by kernel_rfl, by kernel_rfl, rfl⟩
def g20 : GFun := ⟨⟨23, []⟩,
  (.seq (.reg [(.mk (some 2) none (.mov (.k (.val (.slice none 0 0)))))]) (.seq (.reg [(.mk (some 5) none (.mov (.t 0))), (.mk (some 6) none (.len (.t 5))), (.mk (some 7) none (.mkslice 6 72 (.agg [(.val (.int .i64 0)),
  (.val (.int .i64 0)), (.val (.int .i64 0)), (.val (.int .i64 0)), (.val (.string (ByteArray.mk #[]))), (.val (.slice none 0 0))]) (.t 6) (.t 6))), (.mk (some 3) none (.mov (.t 7)))]) (.seq (.seq (.reg [(.mk (some 4)
  none (.mov (.k (.val (.int .i64 0)))))]) (.block 0 (.loop (.seq (.seq (.reg [(.mk (some 8) none (.mov (.t 4))), (.mk (some 9) none (.mov (.t 0))), (.mk (some 10) none (.len (.t 9))), (.mk (some 11) none (.bin .lss (.t
  8) (.t 10)))]) (.cond 11 .skip (.exit 0))) (.seq (.block 1 (.reg [(.mk (some 14) none (.mov (.t 3))), (.mk (some 15) none (.mov (.t 4))), (.mk (some 16) none (.mov (.t 0))), (.mk (some 17) none (.mov (.t 4))), (.mk
  (some 18) none (.iaddr 6 (.t 16) (.t 17))), (.mk (some 19) none (.load 6 true (.t 18))), (.mk (some 20) none (.call false 36 [(.t 19)])), (.mk (some 21) none (.iaddr 6 (.t 14) (.t 15))), (.mk none none (.store 6 (.t
  21) (.t 20)))])) (.reg [(.mk (some 12) none (.mov (.t 4))), (.mk (some 13) none (.bin .add (.t 12) (.k (.val (.int .i64 1))))), (.mk (some 4) none (.mov (.t 13)))])))))) (.seq (.reg [(.mk (some 22) none (.mov (.t
  3))), (.mk (some 2) none (.mov (.t 22)))]) .ret)))),
  [(.t 2)]⟩
theorem i20 : IsFun Tryz.prog 20 g20 := ⟨Tryz.f20, _, [], Tryz.func20, by kernel_rfl, rfl, by kernel_rfl, by kernel_rfl, rfl⟩
def g21 : GFun := ⟨⟨11, [2,3]⟩,
  (.seq (.reg [(.mk (some 2) none (.boxro 2 (.t 0))), (.mk (some 3) none (.boxro 1 (.t 1))), (.mk (some 4) none (.mov (.k (.val (.bool false)))))]) (.seq (.reg [(.mk (some 5) none (.load 2 true (.t 2))), (.mk (some 6)
  none (.load 1 true (.t 3))), (.mk (some 7) none (.load 2 true (.t 2))), (.mk (some 8) none (.load 1 true (.t 3))), (.mk (some 9) none (.call true 38 [(.t 7), (.t 8), (.k (.val (.int .i64 0)))])), (.mk (some 10) none
  (.call true 37 [(.t 5), (.t 6), (.t 9)])), (.mk (some 4) none (.mov (.t 10)))]) .ret)),
  [(.t 4)]⟩
theorem i21 : IsFun Tryz.prog 21 g21 := ⟨Tryz.f21, _, [], Tryz.func21, by kernel_rfl, rfl, by kernel_rfl, by kernel_rfl, rfl⟩
def g22 : GFun := ⟨⟨53, [3,4,7,9]⟩,
  (.seq (.reg [(.mk (some 3) none (.boxro 2 (.t 0))), (.mk (some 4) none (.boxro 1 (.t 1))), (.mk (some 6) none (.mov (.k (.val (.string (ByteArray.mk #[]))))))]) (.seq (.reg [(.mk (some 13) none (.faddr 0 1 false (.t
  4))), (.mk (some 14) none (.load 1 false (.t 13))), (.mk (some 15) none (.mov (.t 2))), (.mk (some 16) none (.iaddr 6 (.t 14) (.t 15))), (.mk (some 17) none (.load 6 true (.t 16))), (.mk (some 7) none (.allocr 6)),
  (.mk (some 7) none (.stro 6 7 (.t 17)))]) (.seq (.reg [(.mk (some 18) none (.faddr 4 1 false (.t 7))), (.mk (some 19) none (.load 1 false (.t 18))), (.mk (some 20) none (.bin .add (.k (.val (.string (ByteArray.mk
  #[40])))) (.t 19))), (.mk (some 8) none (.mov (.t 20)))]) (.seq (.seq (.reg [(.mk (some 22) none (.load 2 true (.t 3))), (.mk (some 23) none (.faddr 4 1 false (.t 7))), (.mk (some 24) none (.load 1 false (.t 23))),
  (.mk (some 25) none (.call false 39 [(.t 22), (.t 24)])), (.mk (some 21) none (.mov (.t 25))), (.mk (some 26) none (.ext (.t 21) 0)), (.mk (some 27) none (.ext (.t 21) 1)), (.mk (some 9) none (.allocr 6)), (.mk (some
  9) none (.stro 6 9 (.t 26))), (.mk (some 10) none (.mov (.t 27)))]) (.seq (.reg [(.mk (some 28) none (.faddr 3 1 false (.t 9))), (.mk (some 29) none (.load 1 false (.t 28)))]) (.cond 29 (.reg [(.mk (some 30) none
  (.mov (.t 8))), (.mk (some 31) none (.faddr 3 1 false (.t 7))), (.mk (some 32) none (.load 1 false (.t 31))), (.mk (some 33) none (.call false 40 [(.t 32)])), (.mk (some 34) none (.bin .add (.k (.val (.string
  (ByteArray.mk #[32])))) (.t 33))), (.mk (some 35) none (.bin .add (.t 30) (.t 34))), (.mk (some 8) none (.mov (.t 35)))]) .skip))) (.seq (.seq (.reg [(.mk (some 36) none (.faddr 5 1 false (.t 7))), (.mk (some 37) none
  (.load 1 false (.t 36))), (.mk (some 38) none (.len (.t 37))), (.mk (some 39) none (.mov (.k (.val (.int .i64 0)))))]) (.block 0 (.loop (.seq (.reg [(.mk (some 40) none (.bin .lss (.t 39) (.t 38)))]) (.seq (.cond 40
  .skip (.exit 0)) (.seq (.block 1 (.seq (.reg [(.mk (some 41) none (.iaddr 1 (.t 37) (.t 39))), (.mk (some 42) none (.load 1 false (.t 41))), (.mk (some 12) none (.mov (.t 42)))]) (.reg [(.mk (some 43) none (.mov (.t
  8))), (.mk (some 44) none (.load 2 true (.t 3))), (.mk (some 45) none (.load 1 true (.t 4))), (.mk (some 46) none (.mov (.t 12))), (.mk (some 47) none (.call false 22 [(.t 44), (.t 45), (.t 46)])), (.mk (some 48) none
  (.bin .add (.k (.val (.string (ByteArray.mk #[32])))) (.t 47))), (.mk (some 49) none (.bin .add (.t 43) (.t 48))), (.mk (some 8) none (.mov (.t 49)))]))) (.reg [(.mk (some 50) none (.bin .add (.t 39) (.k (.val (.int
  .i64 1))))), (.mk (some 39) none (.mov (.t 50)))]))))))) (.seq (.reg [(.mk (some 51) none (.mov (.t 8))), (.mk (some 52) none (.bin .add (.t 51) (.k (.val (.string (ByteArray.mk #[41])))))), (.mk (some 6) none (.mov
  (.t 52)))]) .ret)))))),
  [(.t 6)]⟩
theorem i22 : IsFun Tryz.prog 22 g22 := ⟨Tryz.f22, _, [], Tryz.func22, by kernel_rfl, rfl, by kernel_rfl, by kernel_rfl, rfl⟩
def g23 : GFun := ⟨⟨27, []⟩,
  (.seq (.reg [(.mk (some 4) none (.mov (.k (.val (.bool false)))))]) (.seq (.seq (.reg [(.mk (some 6) none (.mov (.t 0))), (.mk (some 7) none (.len (.t 6))), (.mk (some 8) none (.mov (.t 1))), (.mk (some 9) none (.len
  (.t 8))), (.mk (some 10) none (.bin .neq (.t 7) (.t 9)))]) (.cond 10 (.seq (.reg [(.mk (some 4) none (.mov (.k (.val (.bool false)))))]) .ret) .skip)) (.seq (.seq (.reg [(.mk (some 5) none (.mov (.k (.val (.int .i64
  0)))))]) (.block 0 (.loop (.seq (.seq (.reg [(.mk (some 11) none (.mov (.t 5))), (.mk (some 12) none (.mov (.t 0))), (.mk (some 13) none (.len (.t 12))), (.mk (some 14) none (.bin .lss (.t 11) (.t 13)))]) (.cond 14
  .skip (.exit 0))) (.seq (.block 1 (.seq (.reg [(.mk (some 17) none (.mov (.t 0))), (.mk (some 18) none (.mov (.t 5))), (.mk (some 19) none (.iaddr 2 (.t 17) (.t 18))), (.mk (some 21) none (.mov (.t 1))), (.mk (some
  22) none (.mov (.t 5))), (.mk (some 23) none (.iaddr 2 (.t 21) (.t 22))), (.mk (some 20) none (.load 2 true (.t 19))), (.mk (some 24) none (.load 2 true (.t 23))), (.mk (some 25) none (.call true 41 [(.t 20), (.t
  24)])), (.mk (some 26) none (.not (.t 25)))]) (.cond 26 (.seq (.reg [(.mk (some 4) none (.mov (.k (.val (.bool false)))))]) .ret) .skip))) (.reg [(.mk (some 15) none (.mov (.t 5))), (.mk (some 16) none (.bin .add (.t
  15) (.k (.val (.int .i64 1))))), (.mk (some 5) none (.mov (.t 16)))])))))) (.seq (.reg [(.mk (some 4) none (.mov (.k (.val (.bool true)))))]) .ret)))),
  [(.t 4)]⟩
theorem i23 : IsFun Tryz.prog 23 g23 := ⟨Tryz.f23, _, [], Tryz.func23, by kernel_rfl, rfl, by kernel_rfl, by kernel_rfl, rfl⟩
def g24 : GFun := ⟨⟨27, []⟩,
  (.seq (.reg [(.mk (some 4) none (.mov (.k (.val (.bool false)))))]) (.seq (.seq (.reg [(.mk (some 6) none (.mov (.t 0))), (.mk (some 7) none (.len (.t 6))), (.mk (some 8) none (.mov (.t 1))), (.mk (some 9) none (.len
  (.t 8))), (.mk (some 10) none (.bin .neq (.t 7) (.t 9)))]) (.cond 10 (.seq (.reg [(.mk (some 4) none (.mov (.k (.val (.bool false)))))]) .ret) .skip)) (.seq (.seq (.reg [(.mk (some 5) none (.mov (.k (.val (.int .i64
  0)))))]) (.block 0 (.loop (.seq (.seq (.reg [(.mk (some 11) none (.mov (.t 5))), (.mk (some 12) none (.mov (.t 0))), (.mk (some 13) none (.len (.t 12))), (.mk (some 14) none (.bin .lss (.t 11) (.t 13)))]) (.cond 14
  .skip (.exit 0))) (.seq (.block 1 (.seq (.reg [(.mk (some 17) none (.mov (.t 0))), (.mk (some 18) none (.mov (.t 5))), (.mk (some 19) none (.iaddr 6 (.t 17) (.t 18))), (.mk (some 21) none (.mov (.t 1))), (.mk (some
  22) none (.mov (.t 5))), (.mk (some 23) none (.iaddr 6 (.t 21) (.t 22))), (.mk (some 20) none (.load 6 true (.t 19))), (.mk (some 24) none (.load 6 true (.t 23))), (.mk (some 25) none (.call true 42 [(.t 20), (.t
  24)])), (.mk (some 26) none (.not (.t 25)))]) (.cond 26 (.seq (.reg [(.mk (some 4) none (.mov (.k (.val (.bool false)))))]) .ret) .skip))) (.reg [(.mk (some 15) none (.mov (.t 5))), (.mk (some 16) none (.bin .add (.t
  15) (.k (.val (.int .i64 1))))), (.mk (some 5) none (.mov (.t 16)))])))))) (.seq (.reg [(.mk (some 4) none (.mov (.k (.val (.bool true)))))]) .ret)))),
  [(.t 4)]⟩
theorem i24 : IsFun Tryz.prog 24 g24 := ⟨Tryz.f24, _, [], Tryz.func24, by kernel_rfl, rfl, by kernel_rfl, by kernel_rfl, rfl⟩
def g25 : GFun := ⟨⟨27, []⟩,
  (.seq (.reg [(.mk (some 4) none (.mov (.k (.val (.bool false)))))]) (.seq (.seq (.reg [(.mk (some 6) none (.mov (.t 0))), (.mk (some 7) none (.len (.t 6))), (.mk (some 8) none (.mov (.t 1))), (.mk (some 9) none (.len
  (.t 8))), (.mk (some 10) none (.bin .neq (.t 7) (.t 9)))]) (.cond 10 (.seq (.reg [(.mk (some 4) none (.mov (.k (.val (.bool false)))))]) .ret) .skip)) (.seq (.seq (.reg [(.mk (some 5) none (.mov (.k (.val (.int .i64
  0)))))]) (.block 0 (.loop (.seq (.seq (.reg [(.mk (some 11) none (.mov (.t 5))), (.mk (some 12) none (.mov (.t 0))), (.mk (some 13) none (.len (.t 12))), (.mk (some 14) none (.bin .lss (.t 11) (.t 13)))]) (.cond 14
  .skip (.exit 0))) (.seq (.block 1 (.seq (.reg [(.mk (some 17) none (.mov (.t 0))), (.mk (some 18) none (.mov (.t 5))), (.mk (some 19) none (.iaddr 6 (.t 17) (.t 18))), (.mk (some 21) none (.mov (.t 1))), (.mk (some
  22) none (.mov (.t 5))), (.mk (some 23) none (.iaddr 6 (.t 21) (.t 22))), (.mk (some 20) none (.load 6 true (.t 19))), (.mk (some 24) none (.load 6 true (.t 23))), (.mk (some 25) none (.call true 43 [(.t 20), (.t
  24)])), (.mk (some 26) none (.not (.t 25)))]) (.cond 26 (.seq (.reg [(.mk (some 4) none (.mov (.k (.val (.bool false)))))]) .ret) .skip))) (.reg [(.mk (some 15) none (.mov (.t 5))), (.mk (some 16) none (.bin .add (.t
  15) (.k (.val (.int .i64 1))))), (.mk (some 5) none (.mov (.t 16)))])))))) (.seq (.reg [(.mk (some 4) none (.mov (.k (.val (.bool true)))))]) .ret)))),
  [(.t 4)]⟩
theorem i25 : IsFun Tryz.prog 25 g25 := ⟨Tryz.f25, _, [], Tryz.func25, by kernel_rfl, rfl, by kernel_rfl, by kernel_rfl, rfl⟩
def g26 : GFun := ⟨⟨19, [2]⟩,
  (.seq (.reg [(.mk (some 2) none (.boxro 2 (.t 0))), (.mk (some 4) none (.mov (.k (.val (.int .i64 0)))))]) (.seq (.reg [(.mk (some 5) none (.mov (.t 1))), (.mk (some 6) none (.faddr 0 1 false (.t 2))), (.mk (some 7)
  none (.load 1 false (.t 6))), (.mk (some 8) none (.slen (.t 7))), (.mk (some 9) none (.bin .sub (.t 5) (.t 8))), (.mk (some 1) none (.mov (.t 9)))]) (.seq (.seq (.reg [(.mk (some 10) none (.mov (.t 1))), (.mk (some
  11) none (.bin .lss (.t 10) (.k (.val (.int .i64 0)))))]) (.cond 11 (.seq (.reg [(.mk (some 4) none (.mov (.k (.val (.int .i64 (-1))))))]) .ret) .skip)) (.seq (.reg [(.mk (some 12) none (.faddr 1 1 false (.t 2))),
  (.mk (some 13) none (.load 1 false (.t 12))), (.mk (some 14) none (.mov (.t 1))), (.mk (some 15) none (.call false 44 [(.t 13), (.t 14)])), (.mk (some 1) none (.mov (.t 15)))]) (.seq (.seq (.reg [(.mk (some 16) none
  (.mov (.t 1))), (.mk (some 17) none (.bin .lss (.t 16) (.k (.val (.int .i64 0)))))]) (.cond 17 (.seq (.reg [(.mk (some 4) none (.mov (.k (.val (.int .i64 (-1))))))]) .ret) .skip)) (.seq (.reg [(.mk (some 18) none
  (.mov (.t 1))), (.mk (some 4) none (.mov (.t 18)))]) .ret)))))),
  [(.t 4)]⟩
theorem i26 : IsFun Tryz.prog 26 g26 := ⟨Tryz.f26, _, [], Tryz.func26, by kernel_rfl, rfl, by kernel_rfl, by kernel_rfl, rfl⟩
def g27 : GFun := ⟨⟨38, [2]⟩,
  (.seq (.reg [(.mk (some 2) none (.boxro 6 (.t 0))), (.mk (some 4) none (.mov (.k (.val (.int .i64 0)))))]) (.seq (.reg [(.mk (some 5) none (.mov (.t 1))), (.mk (some 6) none (.faddr 0 1 false (.t 2))), (.mk (some 7)
  none (.load 1 false (.t 6))), (.mk (some 8) none (.slen (.t 7))), (.mk (some 9) none (.bin .sub (.t 5) (.t 8))), (.mk (some 1) none (.mov (.t 9)))]) (.seq (.seq (.reg [(.mk (some 10) none (.mov (.t 1))), (.mk (some
  11) none (.bin .lss (.t 10) (.k (.val (.int .i64 0)))))]) (.cond 11 (.seq (.reg [(.mk (some 4) none (.mov (.k (.val (.int .i64 (-1))))))]) .ret) .skip)) (.seq (.reg [(.mk (some 12) none (.mov (.t 1))), (.mk (some 13)
  none (.faddr 1 1 false (.t 2))), (.mk (some 14) none (.load 1 false (.t 13))), (.mk (some 15) none (.slen (.t 14))), (.mk (some 16) none (.bin .sub (.t 12) (.t 15))), (.mk (some 1) none (.mov (.t 16)))]) (.seq (.seq
  (.reg [(.mk (some 17) none (.mov (.t 1))), (.mk (some 18) none (.bin .lss (.t 17) (.k (.val (.int .i64 0)))))]) (.cond 18 (.seq (.reg [(.mk (some 4) none (.mov (.k (.val (.int .i64 (-1))))))]) .ret) .skip)) (.seq
  (.reg [(.mk (some 19) none (.faddr 2 1 false (.t 2))), (.mk (some 20) none (.load 1 false (.t 19))), (.mk (some 21) none (.mov (.t 1))), (.mk (some 22) none (.call false 45 [(.t 20), (.t 21)])), (.mk (some 1) none
  (.mov (.t 22)))]) (.seq (.seq (.reg [(.mk (some 23) none (.mov (.t 1))), (.mk (some 24) none (.bin .lss (.t 23) (.k (.val (.int .i64 0)))))]) (.cond 24 (.seq (.reg [(.mk (some 4) none (.mov (.k (.val (.int .i64
  (-1))))))]) .ret) .skip)) (.seq (.reg [(.mk (some 25) none (.faddr 4 1 false (.t 2))), (.mk (some 26) none (.load 1 false (.t 25))), (.mk (some 27) none (.mov (.t 1))), (.mk (some 28) none (.call false 46 [(.t 26),
  (.t 27)])), (.mk (some 1) none (.mov (.t 28)))]) (.seq (.seq (.reg [(.mk (some 29) none (.mov (.t 1))), (.mk (some 30) none (.bin .lss (.t 29) (.k (.val (.int .i64 0)))))]) (.cond 30 (.seq (.reg [(.mk (some 4) none
  (.mov (.k (.val (.int .i64 (-1))))))]) .ret) .skip)) (.seq (.reg [(.mk (some 31) none (.faddr 5 1 false (.t 2))), (.mk (some 32) none (.load 1 false (.t 31))), (.mk (some 33) none (.mov (.t 1))), (.mk (some 34) none
  (.call false 47 [(.t 32), (.t 33)])), (.mk (some 1) none (.mov (.t 34)))]) (.seq (.seq (.reg [(.mk (some 35) none (.mov (.t 1))), (.mk (some 36) none (.bin .lss (.t 35) (.k (.val (.int .i64 0)))))]) (.cond 36 (.seq
  (.reg [(.mk (some 4) none (.mov (.k (.val (.int .i64 (-1))))))]) .ret) .skip)) (.seq (.reg [(.mk (some 37) none (.mov (.t 1))), (.mk (some 4) none (.mov (.t 37)))]) .ret)))))))))))),
  [(.t 4)]⟩
theorem i27 : IsFun Tryz.prog 27 g27 := ⟨Tryz.f27, _, [], Tryz.func27, by kernel_rfl, rfl, by kernel_rfl, by kernel_rfl, rfl⟩
def g28 : GFun := ⟨⟨19, [2]⟩,
  (.seq (.reg [(.mk (some 2) none (.boxro 6 (.t 0))), (.mk (some 4) none (.mov (.k (.val (.int .i64 0)))))]) (.seq (.reg [(.mk (some 5) none (.mov (.t 1))), (.mk (some 6) none (.faddr 4 1 false (.t 2))), (.mk (some 7)
  none (.load 1 false (.t 6))), (.mk (some 8) none (.slen (.t 7))), (.mk (some 9) none (.bin .sub (.t 5) (.t 8))), (.mk (some 1) none (.mov (.t 9)))]) (.seq (.seq (.reg [(.mk (some 10) none (.mov (.t 1))), (.mk (some
  11) none (.bin .lss (.t 10) (.k (.val (.int .i64 0)))))]) (.cond 11 (.seq (.reg [(.mk (some 4) none (.mov (.k (.val (.int .i64 (-1))))))]) .ret) .skip)) (.seq (.reg [(.mk (some 12) none (.faddr 5 1 false (.t 2))),
  (.mk (some 13) none (.load 1 false (.t 12))), (.mk (some 14) none (.mov (.t 1))), (.mk (some 15) none (.call false 48 [(.t 13), (.t 14)])), (.mk (some 1) none (.mov (.t 15)))]) (.seq (.seq (.reg [(.mk (some 16) none
  (.mov (.t 1))), (.mk (some 17) none (.bin .lss (.t 16) (.k (.val (.int .i64 0)))))]) (.cond 17 (.seq (.reg [(.mk (some 4) none (.mov (.k (.val (.int .i64 (-1))))))]) .ret) .skip)) (.seq (.reg [(.mk (some 18) none
  (.mov (.t 1))), (.mk (some 4) none (.mov (.t 18)))]) .ret)))))),
  [(.t 4)]⟩
theorem i28 : IsFun Tryz.prog 28 g28 := ⟨Tryz.f28, _, [], Tryz.func28, by kernel_rfl, rfl, by kernel_rfl, by kernel_rfl, rfl⟩
def g29 : GFun := ⟨⟨43, [1]⟩,
  (.seq (.reg [(.mk (some 1) none (.boxro 1 (.t 0))), (.mk (some 2) none (.mov (.k (.val (.bool false)))))]) (.seq (.reg [(.mk (some 5) none (.bslice 1 [] 0 false [])), (.mk (some 3) none (.mov (.t 5)))]) (.seq (.seq
  (.reg [(.mk (some 4) none (.mov (.k (.val (.int .i64 0)))))]) (.block 0 (.loop (.seq (.seq (.reg [(.mk (some 6) none (.mov (.t 4))), (.mk (some 7) none (.faddr 0 1 false (.t 1))), (.mk (some 8) none (.load 1 false (.t
  7))), (.mk (some 9) none (.len (.t 8))), (.mk (some 10) none (.bin .lss (.t 6) (.t 9)))]) (.cond 10 .skip (.exit 0))) (.seq (.block 1 (.seq (.seq (.reg [(.mk (some 13) none (.faddr 0 1 false (.t 1))), (.mk (some 14)
  none (.load 1 false (.t 13))), (.mk (some 15) none (.mov (.t 4))), (.mk (some 16) none (.iaddr 6 (.t 14) (.t 15))), (.mk (some 17) none (.faddr 0 1 false (.t 16))), (.mk (some 18) none (.load 1 false (.t 17))), (.mk
  (some 19) none (.call false 31 [(.t 18), (.k (.val (.int .i64 1))), (.k (.val (.int .i64 999)))])), (.mk (some 20) none (.not (.t 19))), (.mk (some 21) none (.mov (.t 20))), (.mk (some 22) (some (21, false)) (.mov (.t
  3))), (.mk (some 23) (some (21, false)) (.faddr 0 1 false (.t 1))), (.mk (some 24) (some (21, false)) (.load 1 false (.t 23))), (.mk (some 25) (some (21, false)) (.mov (.t 4))), (.mk (some 26) (some (21, false))
  (.iaddr 6 (.t 24) (.t 25))), (.mk (some 27) (some (21, false)) (.faddr 0 1 false (.t 26))), (.mk (some 28) (some (21, false)) (.load 1 false (.t 27))), (.mk (some 29) (some (21, false)) (.call false 49 [(.t 22), (.t
  28)])), (.mk (some 30) none (.pick (.t 21) (.k (.val (.bool true))) (.t 29)))]) (.cond 30 (.seq (.reg [(.mk (some 2) none (.mov (.k (.val (.bool false)))))]) .ret) .skip)) (.reg [(.mk (some 31) none (.mov (.t 3))),
  (.mk (some 32) none (.faddr 0 1 false (.t 1))), (.mk (some 33) none (.load 1 false (.t 32))), (.mk (some 34) none (.mov (.t 4))), (.mk (some 35) none (.iaddr 6 (.t 33) (.t 34))), (.mk (some 36) none (.faddr 0 1 false
  (.t 35))), (.mk (some 37) none (.load 1 false (.t 36))), (.mk (some 38) none (.bslice 1 [] 1 false [(0, (.t 37))])), (.mk (some 39) none (.append 1 8 (.t 31) (.t 38))), (.mk (some 3) none (.mov (.t 39)))]))) (.reg
  [(.mk (some 11) none (.mov (.t 4))), (.mk (some 12) none (.bin .add (.t 11) (.k (.val (.int .i64 1))))), (.mk (some 4) none (.mov (.t 12)))])))))) (.seq (.reg [(.mk (some 40) none (.mov (.t 3))), (.mk (some 41) none
  (.len (.t 40))), (.mk (some 42) none (.call false 31 [(.t 41), (.k (.val (.int .i64 1))), (.k (.val (.int .i64 16)))])), (.mk (some 2) none (.mov (.t 42)))]) .ret)))),
  [(.t 2)]⟩
theorem i29 : IsFun Tryz.prog 29 g29 := ⟨Tryz.f29, _, [], Tryz.func29, by kernel_rfl, rfl, by kernel_rfl, by kernel_rfl, rfl⟩
def g30 : GFun := ⟨⟨109, [6,7,13,14]⟩,
  (.seq (.reg [(.mk (some 6) none (.boxro 2 (.t 0))), (.mk (some 7) none (.boxro 1 (.t 1))), (.mk (some 12) none (.mov (.k (.val (.int .i64 0)))))]) (.seq (.seq (.reg [(.mk (some 18) none (.mov (.t 2))), (.mk (some 19)
  none (.faddr 0 1 false (.t 7))), (.mk (some 20) none (.load 1 false (.t 19))), (.mk (some 21) none (.len (.t 20))), (.mk (some 22) none (.bin .geq (.t 18) (.t 21)))]) (.cond 22 (.seq (.reg [(.mk (some 12) none (.mov
  (.k (.val (.int .i64 (-1))))))]) .ret) .skip)) (.seq (.reg [(.mk (some 23) none (.faddr 0 1 false (.t 7))), (.mk (some 24) none (.load 1 false (.t 23))), (.mk (some 25) none (.mov (.t 2))), (.mk (some 26) none (.iaddr
  6 (.t 24) (.t 25))), (.mk (some 27) none (.load 6 true (.t 26))), (.mk (some 13) none (.allocr 6)), (.mk (some 13) none (.stro 6 13 (.t 27)))]) (.seq (.reg [(.mk (some 29) none (.load 2 true (.t 6))), (.mk (some 30)
  none (.faddr 4 1 false (.t 13))), (.mk (some 31) none (.load 1 false (.t 30))), (.mk (some 32) none (.call false 32 [(.t 29), (.t 31)])), (.mk (some 28) none (.mov (.t 32))), (.mk (some 33) none (.ext (.t 28) 0)),
  (.mk (some 34) none (.ext (.t 28) 1)), (.mk (some 14) none (.allocr 6)), (.mk (some 14) none (.stro 6 14 (.t 33))), (.mk (some 15) none (.mov (.t 34)))]) (.seq (.seq (.reg [(.mk (some 35) none (.mov (.t 15))), (.mk
  (some 36) none (.not (.t 35))), (.mk (some 37) none (.mov (.t 36))), (.mk (some 38) (some (37, false)) (.faddr 1 1 false (.t 14))), (.mk (some 39) (some (37, false)) (.load 1 false (.t 38))), (.mk (some 40) (some (37,
  false)) (.mov (.t 5))), (.mk (some 41) (some (37, false)) (.bin .neq (.t 39) (.t 40))), (.mk (some 42) none (.pick (.t 37) (.k (.val (.bool true))) (.t 41))), (.mk (some 43) none (.mov (.t 42))), (.mk (some 44) (some
  (43, false)) (.faddr 1 1 false (.t 13))), (.mk (some 45) (some (43, false)) (.load 1 false (.t 44))), (.mk (some 46) (some (43, false)) (.mov (.t 3))), (.mk (some 47) (some (43, false)) (.bin .neq (.t 45) (.t 46))),
  (.mk (some 48) none (.pick (.t 43) (.k (.val (.bool true))) (.t 47))), (.mk (some 49) none (.mov (.t 48))), (.mk (some 50) (some (49, false)) (.faddr 2 1 false (.t 13))), (.mk (some 51) (some (49, false)) (.load 1
  false (.t 50))), (.mk (some 52) (some (49, false)) (.mov (.t 4))), (.mk (some 53) (some (49, false)) (.bin .neq (.t 51) (.t 52))), (.mk (some 54) none (.pick (.t 49) (.k (.val (.bool true))) (.t 53))), (.mk (some 55)
  none (.mov (.t 54))), (.mk (some 56) (some (55, false)) (.faddr 5 1 false (.t 13))), (.mk (some 57) (some (55, false)) (.load 1 false (.t 56))), (.mk (some 58) (some (55, false)) (.len (.t 57))), (.mk (some 59) (some
  (55, false)) (.faddr 2 1 false (.t 14))), (.mk (some 60) (some (55, false)) (.load 1 false (.t 59))), (.mk (some 61) (some (55, false)) (.len (.t 60))), (.mk (some 62) (some (55, false)) (.bin .neq (.t 58) (.t 61))),
  (.mk (some 63) none (.pick (.t 55) (.k (.val (.bool true))) (.t 62)))]) (.cond 63 (.seq (.reg [(.mk (some 12) none (.mov (.k (.val (.int .i64 (-1))))))]) .ret) .skip)) (.seq (.seq (.reg [(.mk (some 64) none (.faddr 3
  1 false (.t 13))), (.mk (some 65) none (.load 1 false (.t 64))), (.mk (some 66) none (.call false 50 [(.t 65), (.k (.val (.int .i64 1)))])), (.mk (some 67) none (.not (.t 66))), (.mk (some 68) none (.mov (.t 67))),
  (.mk (some 69) (some (68, false)) (.faddr 3 1 false (.t 14))), (.mk (some 70) (some (68, false)) (.load 1 false (.t 69))), (.mk (some 71) (some (68, false)) (.not (.t 70))), (.mk (some 72) (some (68, false)) (.mov (.t
  71))), (.mk (some 73) (some (72, true)) (.faddr 3 1 false (.t 13))), (.mk (some 74) (some (72, true)) (.load 1 false (.t 73))), (.mk (some 75) (some (72, true)) (.bin .neq (.t 74) (.k (.val (.int .i64 0))))), (.mk
  (some 76) (some (68, false)) (.pick (.t 72) (.t 75) (.k (.val (.bool false))))), (.mk (some 77) none (.pick (.t 68) (.k (.val (.bool true))) (.t 76)))]) (.cond 77 (.seq (.reg [(.mk (some 12) none (.mov (.k (.val (.int
  .i64 (-1))))))]) .ret) .skip)) (.seq (.reg [(.mk (some 78) none (.mov (.t 2))), (.mk (some 79) none (.bin .add (.t 78) (.k (.val (.int .i64 1))))), (.mk (some 16) none (.mov (.t 79)))]) (.seq (.seq (.reg [(.mk (some
  17) none (.mov (.k (.val (.int .i64 0)))))]) (.block 0 (.loop (.seq (.seq (.reg [(.mk (some 80) none (.mov (.t 17))), (.mk (some 81) none (.faddr 2 1 false (.t 14))), (.mk (some 82) none (.load 1 false (.t 81))), (.mk
  (some 83) none (.len (.t 82))), (.mk (some 84) none (.bin .lss (.t 80) (.t 83)))]) (.cond 84 .skip (.exit 0))) (.seq (.block 1 (.seq (.seq (.reg [(.mk (some 87) none (.faddr 5 1 false (.t 13))), (.mk (some 88) none
  (.load 1 false (.t 87))), (.mk (some 89) none (.mov (.t 17))), (.mk (some 90) none (.iaddr 1 (.t 88) (.t 89))), (.mk (some 91) none (.load 1 false (.t 90))), (.mk (some 92) none (.mov (.t 16))), (.mk (some 93) none
  (.bin .neq (.t 91) (.t 92)))]) (.cond 93 (.seq (.reg [(.mk (some 12) none (.mov (.k (.val (.int .i64 (-1))))))]) .ret) .skip)) (.seq (.reg [(.mk (some 96) none (.mov (.t 16))), (.mk (some 97) none (.mov (.t 2))), (.mk
  (some 98) none (.mov (.t 17))), (.mk (some 99) none (.bin .add (.t 98) (.k (.val (.int .i64 1))))), (.mk (some 100) none (.faddr 2 1 false (.t 14))), (.mk (some 102) none (.mov (.t 17))), (.mk (some 94) none (.load 2
  true (.t 6))), (.mk (some 95) none (.load 1 true (.t 7))), (.mk (some 101) none (.load 1 false (.t 100))), (.mk (some 103) none (.iaddr 1 (.t 101) (.t 102))), (.mk (some 104) none (.load 1 false (.t 103))), (.mk (some
  105) none (.call true 30 [(.t 94), (.t 95), (.t 96), (.t 97), (.t 99), (.t 104)])), (.mk (some 16) none (.mov (.t 105)))]) (.seq (.reg [(.mk (some 106) none (.mov (.t 16))), (.mk (some 107) none (.bin .lss (.t 106)
  (.k (.val (.int .i64 0)))))]) (.cond 107 (.seq (.reg [(.mk (some 12) none (.mov (.k (.val (.int .i64 (-1))))))]) .ret) .skip))))) (.reg [(.mk (some 85) none (.mov (.t 17))), (.mk (some 86) none (.bin .add (.t 85) (.k
  (.val (.int .i64 1))))), (.mk (some 17) none (.mov (.t 86)))])))))) (.seq (.reg [(.mk (some 108) none (.mov (.t 16))), (.mk (some 12) none (.mov (.t 108)))]) .ret))))))))),
  [(.t 12)]⟩
theorem i30 : IsFun Tryz.prog 30 g30 := ⟨Tryz.f30, _, [], Tryz.func30, by kernel_rfl, rfl, by kernel_rfl, by kernel_rfl, rfl⟩
def g31 : GFun := ⟨⟨15, []⟩,
  (.seq (.reg [(.mk (some 6) none (.mov (.k (.val (.bool false)))))]) (.seq (.reg [(.mk (some 7) none (.mov (.t 0))), (.mk (some 8) none (.mov (.t 1))), (.mk (some 9) none (.bin .geq (.t 7) (.t 8))), (.mk (some 10) none
  (.mov (.t 9))), (.mk (some 11) (some (10, true)) (.mov (.t 0))), (.mk (some 12) (some (10, true)) (.mov (.t 2))), (.mk (some 13) (some (10, true)) (.bin .leq (.t 11) (.t 12))), (.mk (some 14) none (.pick (.t 10) (.t
  13) (.k (.val (.bool false))))), (.mk (some 6) none (.mov (.t 14)))]) .ret)),
  [(.t 6)]⟩
theorem i31 : IsFun Tryz.prog 31 g31 := ⟨Tryz.f31, _, [], Tryz.func31, by kernel_rfl, rfl, by kernel_rfl, by kernel_rfl, rfl⟩
def g32 : GFun := ⟨⟨29, [2,4]⟩,
  (.seq (.reg [(.mk (some 2) none (.boxro 2 (.t 0))), (.mk (some 4) none (.allocr 6)), (.mk (some 5) none (.mov (.k (.val (.bool false)))))]) (.seq (.seq (.reg [(.mk (some 6) none (.mov (.k (.val (.int .i64 0)))))])
  (.block 0 (.loop (.seq (.seq (.reg [(.mk (some 7) none (.mov (.t 6))), (.mk (some 8) none (.faddr 1 1 false (.t 2))), (.mk (some 9) none (.load 1 false (.t 8))), (.mk (some 10) none (.len (.t 9))), (.mk (some 11) none
  (.bin .lss (.t 7) (.t 10)))]) (.cond 11 .skip (.exit 0))) (.seq (.block 1 (.seq (.reg [(.mk (some 14) none (.faddr 1 1 false (.t 2))), (.mk (some 15) none (.load 1 false (.t 14))), (.mk (some 16) none (.mov (.t 6))),
  (.mk (some 17) none (.iaddr 6 (.t 15) (.t 16))), (.mk (some 18) none (.faddr 0 1 false (.t 17))), (.mk (some 19) none (.load 1 false (.t 18))), (.mk (some 20) none (.mov (.t 1))), (.mk (some 21) none (.bin .eql (.t
  19) (.t 20)))]) (.cond 21 (.seq (.reg [(.mk (some 22) none (.faddr 1 1 false (.t 2))), (.mk (some 23) none (.load 1 false (.t 22))), (.mk (some 24) none (.mov (.t 6))), (.mk (some 25) none (.iaddr 6 (.t 23) (.t 24))),
  (.mk (some 26) none (.load 6 true (.t 25))), (.mk (some 27) none (.call false 51 [(.t 26)])), (.mk (some 4) none (.stro 6 4 (.t 27))), (.mk (some 5) none (.mov (.k (.val (.bool true)))))]) .ret) .skip))) (.reg [(.mk
  (some 12) none (.mov (.t 6))), (.mk (some 13) none (.bin .add (.t 12) (.k (.val (.int .i64 1))))), (.mk (some 6) none (.mov (.t 13)))])))))) (.seq (.reg [(.mk (some 28) none (.build [(.val (.string (ByteArray.mk
  #[]))), (.val (.string (ByteArray.mk #[]))), (.val (.slice none 0 0)), (.val (.bool false)), (.val (.slice none 0 0)), (.val (.slice none 0 0))] [])), (.mk (some 4) none (.stro 6 4 (.t 28))), (.mk (some 5) none (.mov
  (.k (.val (.bool false)))))]) .ret))),
  [(.c 4 6 true), (.t 5)]⟩
theorem i32 : IsFun Tryz.prog 32 g32 := ⟨Tryz.f32, _, [], Tryz.func32, by kernel_rfl, rfl, by kernel_rfl, by kernel_rfl, rfl⟩
def g33 : GFun := ⟨⟨31, []⟩,
  (.seq (.reg [(.mk (some 2) none (.mov (.k (.val (.string (ByteArray.mk #[]))))))]) (.seq (.seq (.reg [(.mk (some 6) none (.mov (.t 0))), (.mk (some 7) none (.bin .eql (.t 6) (.k (.val (.int .i64 0)))))]) (.cond 7
  (.seq (.reg [(.mk (some 2) none (.mov (.k (.val (.string (ByteArray.mk #[48]))))))]) .ret) .skip)) (.seq (.reg [(.mk (some 8) none (.mov (.t 0))), (.mk (some 9) none (.bin .lss (.t 8) (.k (.val (.int .i64 0))))), (.mk
  (some 3) none (.mov (.t 9)))]) (.seq (.reg [(.mk (some 4) none (.mov (.k (.val (.string (ByteArray.mk #[]))))))]) (.seq (.block 0 (.loop (.seq (.seq (.reg [(.mk (some 10) none (.mov (.t 0))), (.mk (some 11) none (.bin
  .neq (.t 10) (.k (.val (.int .i64 0)))))]) (.cond 11 .skip (.exit 0))) (.block 1 (.seq (.reg [(.mk (some 12) none (.mov (.t 0))), (.mk (some 13) none (.bin .rem (.t 12) (.k (.val (.int .i64 10))))), (.mk (some 5) none
  (.mov (.t 13)))]) (.seq (.seq (.reg [(.mk (some 14) none (.mov (.t 5))), (.mk (some 15) none (.bin .lss (.t 14) (.k (.val (.int .i64 0)))))]) (.cond 15 (.reg [(.mk (some 16) none (.mov (.t 5))), (.mk (some 17) none
  (.bin .sub (.k (.val (.int .i64 0))) (.t 16))), (.mk (some 5) none (.mov (.t 17)))]) .skip)) (.seq (.reg [(.mk (some 18) none (.mov (.t 5))), (.mk (some 19) none (.bin .add (.k (.val (.int .i64 48))) (.t 18))), (.mk
  (some 20) none (.conv .u8 (.t 19))), (.mk (some 21) none (.bslice 1 [] 1 false [(0, (.t 20))])), (.mk (some 22) none (.b2s (.t 21))), (.mk (some 23) none (.mov (.t 4))), (.mk (some 24) none (.bin .add (.t 22) (.t
  23))), (.mk (some 4) none (.mov (.t 24)))]) (.reg [(.mk (some 25) none (.mov (.t 0))), (.mk (some 26) none (.bin .quo (.t 25) (.k (.val (.int .i64 10))))), (.mk (some 0) none (.mov (.t 26)))])))))))) (.seq (.seq (.reg
  [(.mk (some 27) none (.mov (.t 3)))]) (.cond 27 (.seq (.reg [(.mk (some 28) none (.mov (.t 4))), (.mk (some 29) none (.bin .add (.k (.val (.string (ByteArray.mk #[45])))) (.t 28))), (.mk (some 2) none (.mov (.t
  29)))]) .ret) .skip)) (.seq (.reg [(.mk (some 30) none (.mov (.t 4))), (.mk (some 2) none (.mov (.t 30)))]) .ret))))))),
  [(.t 2)]⟩
theorem i33 : IsFun Tryz.prog 33 g33 := ⟨Tryz.f33, _, [], Tryz.func33, by kernel_rfl, rfl, by kernel_rfl, by kernel_rfl, rfl⟩
def g34 : GFun := ⟨⟨12, [1,2]⟩,
  (.seq (.reg [(.mk (some 1) none (.boxro 2 (.t 0))), (.mk (some 2) none (.allocr 2))]) (.seq (.reg [(.mk (some 3) none (.alloc 2 (.agg [(.val (.string (ByteArray.mk #[]))), (.val (.slice none 0 0))])))]) (.seq (.reg
  [(.mk (some 4) none (.faddr 0 1 false (.t 1))), (.mk (some 5) none (.load 1 false (.t 4))), (.mk (some 6) none (.faddr 0 1 false (.t 3))), (.mk none none (.store 1 (.t 6) (.t 5)))]) (.seq (.reg [(.mk (some 7) none
  (.faddr 1 1 false (.t 1))), (.mk (some 8) none (.load 1 false (.t 7))), (.mk (some 9) none (.call false 52 [(.t 8)])), (.mk (some 10) none (.faddr 1 1 false (.t 3))), (.mk none none (.store 1 (.t 10) (.t 9)))]) (.seq
  (.reg [(.mk (some 11) none (.load 2 true (.t 3))), (.mk (some 2) none (.stro 2 2 (.t 11)))]) .ret))))),
  [(.c 2 2 true)]⟩
theorem i34 : IsFun Tryz.prog 34 g34 := ⟨Tryz.f34, _, [], Tryz.func34, by kernel_rfl, rfl, by kernel_rfl, by kernel_rfl, rfl⟩
def g35 : GFun := ⟨⟨26, [1,2]⟩,
  (.seq (.reg [(.mk (some 1) none (.boxro 6 (.t 0))), (.mk (some 2) none (.allocr 6))]) (.seq (.reg [(.mk (some 3) none (.alloc 6 (.agg [(.val (.string (ByteArray.mk #[]))), (.val (.string (ByteArray.mk #[]))), (.val
  (.slice none 0 0)), (.val (.bool false)), (.val (.slice none 0 0)), (.val (.slice none 0 0))])))]) (.seq (.reg [(.mk (some 4) none (.faddr 0 1 false (.t 1))), (.mk (some 5) none (.load 1 false (.t 4))), (.mk (some 6)
  none (.faddr 0 1 false (.t 3))), (.mk none none (.store 1 (.t 6) (.t 5)))]) (.seq (.reg [(.mk (some 7) none (.faddr 1 1 false (.t 1))), (.mk (some 8) none (.load 1 false (.t 7))), (.mk (some 9) none (.faddr 1 1 false
  (.t 3))), (.mk none none (.store 1 (.t 9) (.t 8)))]) (.seq (.reg [(.mk (some 10) none (.faddr 2 1 false (.t 1))), (.mk (some 11) none (.load 1 false (.t 10))), (.mk (some 12) none (.call false 53 [(.t 11)])), (.mk
  (some 13) none (.faddr 2 1 false (.t 3))), (.mk none none (.store 1 (.t 13) (.t 12)))]) (.seq (.reg [(.mk (some 14) none (.faddr 3 1 false (.t 1))), (.mk (some 15) none (.load 1 false (.t 14))), (.mk (some 16) none
  (.faddr 3 1 false (.t 3))), (.mk none none (.store 1 (.t 16) (.t 15)))]) (.seq (.reg [(.mk (some 17) none (.faddr 4 1 false (.t 1))), (.mk (some 18) none (.load 1 false (.t 17))), (.mk (some 19) none (.call false 54
  [(.t 18)])), (.mk (some 20) none (.faddr 4 1 false (.t 3))), (.mk none none (.store 1 (.t 20) (.t 19)))]) (.seq (.reg [(.mk (some 21) none (.faddr 5 1 false (.t 1))), (.mk (some 22) none (.load 1 false (.t 21))), (.mk
  (some 23) none (.call false 55 [(.t 22)])), (.mk (some 24) none (.faddr 5 1 false (.t 3))), (.mk none none (.store 1 (.t 24) (.t 23)))]) (.seq (.reg [(.mk (some 25) none (.load 6 true (.t 3))), (.mk (some 2) none
  (.stro 6 2 (.t 25)))]) .ret))))))))),
  [(.c 2 6 true)]⟩
theorem i35 : IsFun Tryz.prog 35 g35 := ⟨Tryz.f35, _, [], Tryz.func35, by kernel_rfl, rfl, by kernel_rfl, by kernel_rfl, rfl⟩
def g36 : GFun := ⟨⟨24, [1,2]⟩,
  (.seq (.reg [(.mk (some 1) none (.boxro 6 (.t 0))), (.mk (some 2) none (.allocr 6))]) (.seq (.reg [(.mk (some 3) none (.alloc 6 (.agg [(.val (.int .i64 0)), (.val (.int .i64 0)), (.val (.int .i64 0)), (.val (.int .i64
  0)), (.val (.string (ByteArray.mk #[]))), (.val (.slice none 0 0))])))]) (.seq (.reg [(.mk (some 4) none (.faddr 0 1 false (.t 1))), (.mk (some 5) none (.load 1 false (.t 4))), (.mk (some 6) none (.faddr 0 1 false (.t
  3))), (.mk none none (.store 1 (.t 6) (.t 5)))]) (.seq (.reg [(.mk (some 7) none (.faddr 1 1 false (.t 1))), (.mk (some 8) none (.load 1 false (.t 7))), (.mk (some 9) none (.faddr 1 1 false (.t 3))), (.mk none none
  (.store 1 (.t 9) (.t 8)))]) (.seq (.reg [(.mk (some 10) none (.faddr 2 1 false (.t 1))), (.mk (some 11) none (.load 1 false (.t 10))), (.mk (some 12) none (.faddr 2 1 false (.t 3))), (.mk none none (.store 1 (.t 12)
  (.t 11)))]) (.seq (.reg [(.mk (some 13) none (.faddr 3 1 false (.t 1))), (.mk (some 14) none (.load 1 false (.t 13))), (.mk (some 15) none (.faddr 3 1 false (.t 3))), (.mk none none (.store 1 (.t 15) (.t 14)))]) (.seq
  (.reg [(.mk (some 16) none (.faddr 4 1 false (.t 1))), (.mk (some 17) none (.load 1 false (.t 16))), (.mk (some 18) none (.faddr 4 1 false (.t 3))), (.mk none none (.store 1 (.t 18) (.t 17)))]) (.seq (.reg [(.mk (some
  19) none (.faddr 5 1 false (.t 1))), (.mk (some 20) none (.load 1 false (.t 19))), (.mk (some 21) none (.call false 56 [(.t 20)])), (.mk (some 22) none (.faddr 5 1 false (.t 3))), (.mk none none (.store 1 (.t 22) (.t
  21)))]) (.seq (.reg [(.mk (some 23) none (.load 6 true (.t 3))), (.mk (some 2) none (.stro 6 2 (.t 23)))]) .ret))))))))),
  [(.c 2 6 true)]⟩
theorem i36 : IsFun Tryz.prog 36 g36 := ⟨Tryz.f36, _, [], Tryz.func36, by kernel_rfl, rfl, by kernel_rfl, by kernel_rfl, rfl⟩
def g37 : GFun := ⟨⟨43, [3,4,8]⟩,
  (.seq (.reg [(.mk (some 3) none (.boxro 2 (.t 0))), (.mk (some 4) none (.boxro 1 (.t 1))), (.mk (some 6) none (.mov (.k (.val (.bool false)))))]) (.seq (.seq (.reg [(.mk (some 9) none (.faddr 0 1 false (.t 4))), (.mk
  (some 10) none (.load 1 false (.t 9))), (.mk (some 11) none (.len (.t 10))), (.mk (some 12) none (.call false 57 [(.t 11), (.k (.val (.int .i64 1))), (.k (.val (.int .i64 16)))])), (.mk (some 13) none (.not (.t
  12)))]) (.cond 13 (.seq (.reg [(.mk (some 6) none (.mov (.k (.val (.bool false)))))]) .ret) .skip)) (.seq (.seq (.reg [(.mk (some 14) none (.faddr 0 1 false (.t 4))), (.mk (some 15) none (.load 1 false (.t 14))), (.mk
  (some 16) none (.len (.t 15))), (.mk (some 17) none (.mov (.k (.val (.int .i64 0)))))]) (.block 0 (.loop (.seq (.reg [(.mk (some 18) none (.bin .lss (.t 17) (.t 16)))]) (.seq (.cond 18 .skip (.exit 0)) (.seq (.block 1
  (.seq (.reg [(.mk (some 19) none (.mov (.t 17))), (.mk (some 20) none (.iaddr 6 (.t 15) (.t 17))), (.mk (some 21) none (.load 6 true (.t 20))), (.mk (some 8) none (.allocr 6)), (.mk (some 7) none (.mov (.t 19))), (.mk
  (some 8) none (.stro 6 8 (.t 21)))]) (.seq (.reg [(.mk (some 22) none (.faddr 0 1 false (.t 8))), (.mk (some 23) none (.load 1 false (.t 22))), (.mk (some 24) none (.call false 57 [(.t 23), (.k (.val (.int .i64 1))),
  (.k (.val (.int .i64 999)))])), (.mk (some 25) none (.not (.t 24))), (.mk (some 26) none (.mov (.t 25))), (.mk (some 27) (some (26, false)) (.faddr 0 1 false (.t 4))), (.mk (some 28) (some (26, false)) (.load 1 false
  (.t 27))), (.mk (some 29) (some (26, false)) (.mov (.t 7))), (.mk (some 30) (some (26, false)) (.slc 6 (.t 28) none (some (.t 29)))), (.mk (some 31) (some (26, false)) (.mkfn 59 [(.t 8)])), (.mk (some 32) (some (26,
  false)) (.call false 58 [(.t 30), (.t 31)])), (.mk (some 33) none (.pick (.t 26) (.k (.val (.bool true))) (.t 32)))]) (.cond 33 (.seq (.reg [(.mk (some 6) none (.mov (.k (.val (.bool false)))))]) .ret) .skip)))) (.reg
  [(.mk (some 34) none (.bin .add (.t 17) (.k (.val (.int .i64 1))))), (.mk (some 17) none (.mov (.t 34)))]))))))) (.seq (.reg [(.mk (some 37) none (.mov (.t 2))), (.mk (some 39) none (.faddr 0 1 false (.t 4))), (.mk
  (some 35) none (.load 2 true (.t 3))), (.mk (some 36) none (.load 1 true (.t 4))), (.mk (some 38) none (.call true 60 [(.t 35), (.t 36), (.k (.val (.int .i64 0))), (.k (.val (.int .i64 (-1)))), (.k (.val (.int .i64
  0))), (.t 37)])), (.mk (some 40) none (.load 1 false (.t 39))), (.mk (some 41) none (.len (.t 40))), (.mk (some 42) none (.bin .eql (.t 38) (.t 41))), (.mk (some 6) none (.mov (.t 42)))]) .ret)))),
  [(.t 6)]⟩
theorem i37 : IsFun Tryz.prog 37 g37 := ⟨Tryz.f37, _, [], Tryz.func37, by kernel_rfl, rfl, by kernel_rfl, by kernel_rfl, rfl⟩
def g38 : GFun := ⟨⟨26, [3,4,7]⟩,
  (.seq (.reg [(.mk (some 3) none (.boxro 2 (.t 0))), (.mk (some 4) none (.boxro 1 (.t 1))), (.mk (some 6) none (.mov (.k (.val (.string (ByteArray.mk #[]))))))]) (.seq (.seq (.reg [(.mk (some 9) none (.load 1 true (.t
  4))), (.mk (some 10) none (.mov (.t 2))), (.mk (some 11) none (.call false 61 [(.t 9), (.t 10)])), (.mk (some 12) none (.not (.t 11)))]) (.cond 12 (.seq (.reg [(.mk (some 6) none (.mov (.k (.val (.string (ByteArray.mk
  #[]))))))]) .ret) .skip)) (.seq (.reg [(.mk (some 15) none (.faddr 0 1 false (.t 4))), (.mk (some 17) none (.mov (.t 2))), (.mk (some 7) none (.allocr 6)), (.mk (some 14) none (.load 2 true (.t 3))), (.mk (some 16)
  none (.load 1 false (.t 15))), (.mk (some 18) none (.iaddr 6 (.t 16) (.t 17))), (.mk (some 19) none (.faddr 4 1 false (.t 18))), (.mk (some 20) none (.load 1 false (.t 19))), (.mk (some 21) none (.call true 39 [(.t
  14), (.t 20)])), (.mk (some 13) none (.mov (.t 21))), (.mk (some 22) none (.ext (.t 13) 0)), (.mk (some 23) none (.ext (.t 13) 1)), (.mk (some 7) none (.stro 6 7 (.t 22))), (.mk (some 8) none (.mov (.t 23)))]) (.seq
  (.reg [(.mk (some 24) none (.faddr 1 1 false (.t 7))), (.mk (some 25) none (.load 1 false (.t 24))), (.mk (some 6) none (.mov (.t 25)))]) .ret)))),
  [(.t 6)]⟩
theorem i38 : IsFun Tryz.prog 38 g38 := ⟨Tryz.f38, _, [], Tryz.func38, by kernel_rfl, rfl, by kernel_rfl, by kernel_rfl, rfl⟩
def g39 : GFun := ⟨⟨22, [2,4,7]⟩,
  (.seq (.reg [(.mk (some 2) none (.boxro 2 (.t 0))), (.mk (some 4) none (.allocr 6)), (.mk (some 5) none (.mov (.k (.val (.bool false)))))]) (.seq (.seq (.reg [(.mk (some 8) none (.faddr 1 1 false (.t 2))), (.mk (some
  9) none (.load 1 false (.t 8))), (.mk (some 10) none (.len (.t 9))), (.mk (some 11) none (.mov (.k (.val (.int .i64 0)))))]) (.block 0 (.loop (.seq (.reg [(.mk (some 12) none (.bin .lss (.t 11) (.t 10)))]) (.seq
  (.cond 12 .skip (.exit 0)) (.seq (.block 1 (.seq (.reg [(.mk (some 13) none (.iaddr 6 (.t 9) (.t 11))), (.mk (some 14) none (.load 6 true (.t 13))), (.mk (some 7) none (.allocr 6)), (.mk (some 7) none (.stro 6 7 (.t
  14)))]) (.seq (.reg [(.mk (some 15) none (.faddr 0 1 false (.t 7))), (.mk (some 16) none (.load 1 false (.t 15))), (.mk (some 17) none (.mov (.t 1))), (.mk (some 18) none (.bin .eql (.t 16) (.t 17)))]) (.cond 18 (.seq
  (.reg [(.mk (some 19) none (.load 6 true (.t 7))), (.mk (some 4) none (.stro 6 4 (.t 19))), (.mk (some 5) none (.mov (.k (.val (.bool true)))))]) .ret) .skip)))) (.reg [(.mk (some 20) none (.bin .add (.t 11) (.k (.val
  (.int .i64 1))))), (.mk (some 11) none (.mov (.t 20)))]))))))) (.seq (.reg [(.mk (some 21) none (.build [(.val (.string (ByteArray.mk #[]))), (.val (.string (ByteArray.mk #[]))), (.val (.slice none 0 0)), (.val (.bool
  false)), (.val (.slice none 0 0)), (.val (.slice none 0 0))] [])), (.mk (some 4) none (.stro 6 4 (.t 21))), (.mk (some 5) none (.mov (.k (.val (.bool false)))))]) .ret))),
  [(.c 4 6 true), (.t 5)]⟩
theorem i39 : IsFun Tryz.prog 39 g39 := ⟨Tryz.f39, _, [], Tryz.func39, by kernel_rfl, rfl, by kernel_rfl, by kernel_rfl, rfl⟩
def g40 : GFun := ⟨⟨5, []⟩,
  (.seq (.reg [(.mk (some 2) none (.mov (.k (.val (.string (ByteArray.mk #[]))))))]) (.seq (.reg [(.mk (some 3) none (.mov (.t 0))), (.mk (some 4) none (.call false 62 [(.t 3)])), (.mk (some 2) none (.mov (.t 4)))])
  .ret)),
  [(.t 2)]⟩
theorem i40 : IsFun Tryz.prog 40 g40 := ⟨Tryz.f40, _, [], Tryz.func40, by kernel_rfl, rfl, by kernel_rfl, by kernel_rfl, rfl⟩
def g41 : GFun := ⟨⟨16, [2,3]⟩,
  (.seq (.reg [(.mk (some 2) none (.boxro 2 (.t 0))), (.mk (some 3) none (.boxro 2 (.t 1))), (.mk (some 4) none (.mov (.k (.val (.bool false)))))]) (.seq (.seq (.reg [(.mk (some 5) none (.faddr 0 1 false (.t 2))), (.mk
  (some 6) none (.load 1 false (.t 5))), (.mk (some 7) none (.faddr 0 1 false (.t 3))), (.mk (some 8) none (.load 1 false (.t 7))), (.mk (some 9) none (.bin .neq (.t 6) (.t 8)))]) (.cond 9 (.seq (.reg [(.mk (some 4)
  none (.mov (.k (.val (.bool false)))))]) .ret) .skip)) (.seq (.seq (.reg [(.mk (some 10) none (.faddr 1 1 false (.t 2))), (.mk (some 11) none (.load 1 false (.t 10))), (.mk (some 12) none (.faddr 1 1 false (.t 3))),
  (.mk (some 13) none (.load 1 false (.t 12))), (.mk (some 14) none (.call false 63 [(.t 11), (.t 13)])), (.mk (some 15) none (.not (.t 14)))]) (.cond 15 (.seq (.reg [(.mk (some 4) none (.mov (.k (.val (.bool
  false)))))]) .ret) .skip)) (.seq (.reg [(.mk (some 4) none (.mov (.k (.val (.bool true)))))]) .ret)))),
  [(.t 4)]⟩
theorem i41 : IsFun Tryz.prog 41 g41 := ⟨Tryz.f41, _, [], Tryz.func41, by kernel_rfl, rfl, by kernel_rfl, by kernel_rfl, rfl⟩
def g42 : GFun := ⟨⟨38, [2,3]⟩,
  (.seq (.reg [(.mk (some 2) none (.boxro 6 (.t 0))), (.mk (some 3) none (.boxro 6 (.t 1))), (.mk (some 4) none (.mov (.k (.val (.bool false)))))]) (.seq (.seq (.reg [(.mk (some 5) none (.faddr 0 1 false (.t 2))), (.mk
  (some 6) none (.load 1 false (.t 5))), (.mk (some 7) none (.faddr 0 1 false (.t 3))), (.mk (some 8) none (.load 1 false (.t 7))), (.mk (some 9) none (.bin .neq (.t 6) (.t 8)))]) (.cond 9 (.seq (.reg [(.mk (some 4)
  none (.mov (.k (.val (.bool false)))))]) .ret) .skip)) (.seq (.seq (.reg [(.mk (some 10) none (.faddr 1 1 false (.t 2))), (.mk (some 11) none (.load 1 false (.t 10))), (.mk (some 12) none (.faddr 1 1 false (.t 3))),
  (.mk (some 13) none (.load 1 false (.t 12))), (.mk (some 14) none (.bin .neq (.t 11) (.t 13)))]) (.cond 14 (.seq (.reg [(.mk (some 4) none (.mov (.k (.val (.bool false)))))]) .ret) .skip)) (.seq (.seq (.reg [(.mk
  (some 15) none (.faddr 2 1 false (.t 2))), (.mk (some 16) none (.load 1 false (.t 15))), (.mk (some 17) none (.faddr 2 1 false (.t 3))), (.mk (some 18) none (.load 1 false (.t 17))), (.mk (some 19) none (.call false
  64 [(.t 16), (.t 18)])), (.mk (some 20) none (.not (.t 19)))]) (.cond 20 (.seq (.reg [(.mk (some 4) none (.mov (.k (.val (.bool false)))))]) .ret) .skip)) (.seq (.seq (.reg [(.mk (some 21) none (.faddr 3 1 false (.t
  2))), (.mk (some 22) none (.load 1 false (.t 21))), (.mk (some 23) none (.faddr 3 1 false (.t 3))), (.mk (some 24) none (.load 1 false (.t 23))), (.mk (some 25) none (.beq true (.t 22) (.t 24)))]) (.cond 25 (.seq
  (.reg [(.mk (some 4) none (.mov (.k (.val (.bool false)))))]) .ret) .skip)) (.seq (.seq (.reg [(.mk (some 26) none (.faddr 4 1 false (.t 2))), (.mk (some 27) none (.load 1 false (.t 26))), (.mk (some 28) none (.faddr
  4 1 false (.t 3))), (.mk (some 29) none (.load 1 false (.t 28))), (.mk (some 30) none (.call false 65 [(.t 27), (.t 29)])), (.mk (some 31) none (.not (.t 30)))]) (.cond 31 (.seq (.reg [(.mk (some 4) none (.mov (.k
  (.val (.bool false)))))]) .ret) .skip)) (.seq (.seq (.reg [(.mk (some 32) none (.faddr 5 1 false (.t 2))), (.mk (some 33) none (.load 1 false (.t 32))), (.mk (some 34) none (.faddr 5 1 false (.t 3))), (.mk (some 35)
  none (.load 1 false (.t 34))), (.mk (some 36) none (.call false 66 [(.t 33), (.t 35)])), (.mk (some 37) none (.not (.t 36)))]) (.cond 37 (.seq (.reg [(.mk (some 4) none (.mov (.k (.val (.bool false)))))]) .ret)
  .skip)) (.seq (.reg [(.mk (some 4) none (.mov (.k (.val (.bool true)))))]) .ret)))))))),
  [(.t 4)]⟩
theorem i42 : IsFun Tryz.prog 42 g42 := ⟨Tryz.f42, _, [], Tryz.func42, by kernel_rfl, rfl, by kernel_rfl, by kernel_rfl, rfl⟩
def g43 : GFun := ⟨⟨36, [2,3]⟩,
  (.seq (.reg [(.mk (some 2) none (.boxro 6 (.t 0))), (.mk (some 3) none (.boxro 6 (.t 1))), (.mk (some 4) none (.mov (.k (.val (.bool false)))))]) (.seq (.seq (.reg [(.mk (some 5) none (.faddr 0 1 false (.t 2))), (.mk
  (some 6) none (.load 1 false (.t 5))), (.mk (some 7) none (.faddr 0 1 false (.t 3))), (.mk (some 8) none (.load 1 false (.t 7))), (.mk (some 9) none (.bin .neq (.t 6) (.t 8)))]) (.cond 9 (.seq (.reg [(.mk (some 4)
  none (.mov (.k (.val (.bool false)))))]) .ret) .skip)) (.seq (.seq (.reg [(.mk (some 10) none (.faddr 1 1 false (.t 2))), (.mk (some 11) none (.load 1 false (.t 10))), (.mk (some 12) none (.faddr 1 1 false (.t 3))),
  (.mk (some 13) none (.load 1 false (.t 12))), (.mk (some 14) none (.bin .neq (.t 11) (.t 13)))]) (.cond 14 (.seq (.reg [(.mk (some 4) none (.mov (.k (.val (.bool false)))))]) .ret) .skip)) (.seq (.seq (.reg [(.mk
  (some 15) none (.faddr 2 1 false (.t 2))), (.mk (some 16) none (.load 1 false (.t 15))), (.mk (some 17) none (.faddr 2 1 false (.t 3))), (.mk (some 18) none (.load 1 false (.t 17))), (.mk (some 19) none (.bin .neq (.t
  16) (.t 18)))]) (.cond 19 (.seq (.reg [(.mk (some 4) none (.mov (.k (.val (.bool false)))))]) .ret) .skip)) (.seq (.seq (.reg [(.mk (some 20) none (.faddr 3 1 false (.t 2))), (.mk (some 21) none (.load 1 false (.t
  20))), (.mk (some 22) none (.faddr 3 1 false (.t 3))), (.mk (some 23) none (.load 1 false (.t 22))), (.mk (some 24) none (.bin .neq (.t 21) (.t 23)))]) (.cond 24 (.seq (.reg [(.mk (some 4) none (.mov (.k (.val (.bool
  false)))))]) .ret) .skip)) (.seq (.seq (.reg [(.mk (some 25) none (.faddr 4 1 false (.t 2))), (.mk (some 26) none (.load 1 false (.t 25))), (.mk (some 27) none (.faddr 4 1 false (.t 3))), (.mk (some 28) none (.load 1
  false (.t 27))), (.mk (some 29) none (.bin .neq (.t 26) (.t 28)))]) (.cond 29 (.seq (.reg [(.mk (some 4) none (.mov (.k (.val (.bool false)))))]) .ret) .skip)) (.seq (.seq (.reg [(.mk (some 30) none (.faddr 5 1 false
  (.t 2))), (.mk (some 31) none (.load 1 false (.t 30))), (.mk (some 32) none (.faddr 5 1 false (.t 3))), (.mk (some 33) none (.load 1 false (.t 32))), (.mk (some 34) none (.call false 67 [(.t 31), (.t 33)])), (.mk
  (some 35) none (.not (.t 34)))]) (.cond 35 (.seq (.reg [(.mk (some 4) none (.mov (.k (.val (.bool false)))))]) .ret) .skip)) (.seq (.reg [(.mk (some 4) none (.mov (.k (.val (.bool true)))))]) .ret)))))))),
  [(.t 4)]⟩
theorem i43 : IsFun Tryz.prog 43 g43 := ⟨Tryz.f43, _, [], Tryz.func43, by kernel_rfl, rfl, by kernel_rfl, by kernel_rfl, rfl⟩
def g44 : GFun := ⟨⟨27, []⟩,
  (.seq (.reg [(.mk (some 4) none (.mov (.k (.val (.int .i64 0)))))]) (.seq (.reg [(.mk (some 6) none (.mov (.t 1))), (.mk (some 7) none (.mov (.t 0))), (.mk (some 8) none (.len (.t 7))), (.mk (some 9) none (.bin .sub
  (.t 6) (.t 8))), (.mk (some 1) none (.mov (.t 9)))]) (.seq (.seq (.reg [(.mk (some 10) none (.mov (.t 1))), (.mk (some 11) none (.bin .lss (.t 10) (.k (.val (.int .i64 0)))))]) (.cond 11 (.seq (.reg [(.mk (some 4)
  none (.mov (.k (.val (.int .i64 (-1))))))]) .ret) .skip)) (.seq (.seq (.reg [(.mk (some 5) none (.mov (.k (.val (.int .i64 0)))))]) (.block 0 (.loop (.seq (.seq (.reg [(.mk (some 12) none (.mov (.t 5))), (.mk (some
  13) none (.mov (.t 0))), (.mk (some 14) none (.len (.t 13))), (.mk (some 15) none (.bin .lss (.t 12) (.t 14)))]) (.cond 15 .skip (.exit 0))) (.seq (.block 1 (.seq (.reg [(.mk (some 18) none (.mov (.t 0))), (.mk (some
  19) none (.mov (.t 5))), (.mk (some 20) none (.iaddr 4 (.t 18) (.t 19))), (.mk (some 21) none (.load 4 true (.t 20))), (.mk (some 22) none (.mov (.t 1))), (.mk (some 23) none (.call false 68 [(.t 21), (.t 22)])), (.mk
  (some 1) none (.mov (.t 23)))]) (.seq (.reg [(.mk (some 24) none (.mov (.t 1))), (.mk (some 25) none (.bin .lss (.t 24) (.k (.val (.int .i64 0)))))]) (.cond 25 (.seq (.reg [(.mk (some 4) none (.mov (.k (.val (.int
  .i64 (-1))))))]) .ret) .skip)))) (.reg [(.mk (some 16) none (.mov (.t 5))), (.mk (some 17) none (.bin .add (.t 16) (.k (.val (.int .i64 1))))), (.mk (some 5) none (.mov (.t 17)))])))))) (.seq (.reg [(.mk (some 26)
  none (.mov (.t 1))), (.mk (some 4) none (.mov (.t 26)))]) .ret))))),
  [(.t 4)]⟩
theorem i44 : IsFun Tryz.prog 44 g44 := ⟨Tryz.f44, _, [], Tryz.func44, by kernel_rfl, rfl, by kernel_rfl, by kernel_rfl, rfl⟩
def g45 : GFun := ⟨⟨28, []⟩,
  (.seq (.reg [(.mk (some 4) none (.mov (.k (.val (.int .i64 0)))))]) (.seq (.reg [(.mk (some 6) none (.mov (.t 1))), (.mk (some 7) none (.mov (.t 0))), (.mk (some 8) none (.len (.t 7))), (.mk (some 9) none (.bin .sub
  (.t 6) (.t 8))), (.mk (some 1) none (.mov (.t 9)))]) (.seq (.seq (.reg [(.mk (some 10) none (.mov (.t 1))), (.mk (some 11) none (.bin .lss (.t 10) (.k (.val (.int .i64 0)))))]) (.cond 11 (.seq (.reg [(.mk (some 4)
  none (.mov (.k (.val (.int .i64 (-1))))))]) .ret) .skip)) (.seq (.seq (.reg [(.mk (some 5) none (.mov (.k (.val (.int .i64 0)))))]) (.block 0 (.loop (.seq (.seq (.reg [(.mk (some 12) none (.mov (.t 5))), (.mk (some
  13) none (.mov (.t 0))), (.mk (some 14) none (.len (.t 13))), (.mk (some 15) none (.bin .lss (.t 12) (.t 14)))]) (.cond 15 .skip (.exit 0))) (.seq (.block 1 (.seq (.reg [(.mk (some 18) none (.mov (.t 1))), (.mk (some
  19) none (.mov (.t 0))), (.mk (some 20) none (.mov (.t 5))), (.mk (some 21) none (.iaddr 1 (.t 19) (.t 20))), (.mk (some 22) none (.load 1 false (.t 21))), (.mk (some 23) none (.slen (.t 22))), (.mk (some 24) none
  (.bin .sub (.t 18) (.t 23))), (.mk (some 1) none (.mov (.t 24)))]) (.seq (.reg [(.mk (some 25) none (.mov (.t 1))), (.mk (some 26) none (.bin .lss (.t 25) (.k (.val (.int .i64 0)))))]) (.cond 26 (.seq (.reg [(.mk
  (some 4) none (.mov (.k (.val (.int .i64 (-1))))))]) .ret) .skip)))) (.reg [(.mk (some 16) none (.mov (.t 5))), (.mk (some 17) none (.bin .add (.t 16) (.k (.val (.int .i64 1))))), (.mk (some 5) none (.mov (.t
  17)))])))))) (.seq (.reg [(.mk (some 27) none (.mov (.t 1))), (.mk (some 4) none (.mov (.t 27)))]) .ret))))),
  [(.t 4)]⟩
theorem i45 : IsFun Tryz.prog 45 g45 := ⟨Tryz.f45, _, [], Tryz.func45, by kernel_rfl, rfl, by kernel_rfl, by kernel_rfl, rfl⟩
def g46 : GFun := ⟨⟨27, []⟩,
  (.seq (.reg [(.mk (some 4) none (.mov (.k (.val (.int .i64 0)))))]) (.seq (.reg [(.mk (some 6) none (.mov (.t 1))), (.mk (some 7) none (.mov (.t 0))), (.mk (some 8) none (.len (.t 7))), (.mk (some 9) none (.bin .sub
  (.t 6) (.t 8))), (.mk (some 1) none (.mov (.t 9)))]) (.seq (.seq (.reg [(.mk (some 10) none (.mov (.t 1))), (.mk (some 11) none (.bin .lss (.t 10) (.k (.val (.int .i64 0)))))]) (.cond 11 (.seq (.reg [(.mk (some 4)
  none (.mov (.k (.val (.int .i64 (-1))))))]) .ret) .skip)) (.seq (.seq (.reg [(.mk (some 5) none (.mov (.k (.val (.int .i64 0)))))]) (.block 0 (.loop (.seq (.seq (.reg [(.mk (some 12) none (.mov (.t 5))), (.mk (some
  13) none (.mov (.t 0))), (.mk (some 14) none (.len (.t 13))), (.mk (some 15) none (.bin .lss (.t 12) (.t 14)))]) (.cond 15 .skip (.exit 0))) (.seq (.block 1 (.seq (.reg [(.mk (some 18) none (.mov (.t 0))), (.mk (some
  19) none (.mov (.t 5))), (.mk (some 20) none (.iaddr 9 (.t 18) (.t 19))), (.mk (some 21) none (.load 9 true (.t 20))), (.mk (some 22) none (.mov (.t 1))), (.mk (some 23) none (.call false 69 [(.t 21), (.t 22)])), (.mk
  (some 1) none (.mov (.t 23)))]) (.seq (.reg [(.mk (some 24) none (.mov (.t 1))), (.mk (some 25) none (.bin .lss (.t 24) (.k (.val (.int .i64 0)))))]) (.cond 25 (.seq (.reg [(.mk (some 4) none (.mov (.k (.val (.int
  .i64 (-1))))))]) .ret) .skip)))) (.reg [(.mk (some 16) none (.mov (.t 5))), (.mk (some 17) none (.bin .add (.t 16) (.k (.val (.int .i64 1))))), (.mk (some 5) none (.mov (.t 17)))])))))) (.seq (.reg [(.mk (some 26)
  none (.mov (.t 1))), (.mk (some 4) none (.mov (.t 26)))]) .ret))))),
  [(.t 4)]⟩
theorem i46 : IsFun Tryz.prog 46 g46 := ⟨Tryz.f46, _, [], Tryz.func46, by kernel_rfl, rfl, by kernel_rfl, by kernel_rfl, rfl⟩
def g47 : GFun := ⟨⟨27, []⟩,
  (.seq (.reg [(.mk (some 4) none (.mov (.k (.val (.int .i64 0)))))]) (.seq (.reg [(.mk (some 6) none (.mov (.t 1))), (.mk (some 7) none (.mov (.t 0))), (.mk (some 8) none (.len (.t 7))), (.mk (some 9) none (.bin .sub
  (.t 6) (.t 8))), (.mk (some 1) none (.mov (.t 9)))]) (.seq (.seq (.reg [(.mk (some 10) none (.mov (.t 1))), (.mk (some 11) none (.bin .lss (.t 10) (.k (.val (.int .i64 0)))))]) (.cond 11 (.seq (.reg [(.mk (some 4)
  none (.mov (.k (.val (.int .i64 (-1))))))]) .ret) .skip)) (.seq (.seq (.reg [(.mk (some 5) none (.mov (.k (.val (.int .i64 0)))))]) (.block 0 (.loop (.seq (.seq (.reg [(.mk (some 12) none (.mov (.t 5))), (.mk (some
  13) none (.mov (.t 0))), (.mk (some 14) none (.len (.t 13))), (.mk (some 15) none (.bin .lss (.t 12) (.t 14)))]) (.cond 15 .skip (.exit 0))) (.seq (.block 1 (.seq (.reg [(.mk (some 18) none (.mov (.t 0))), (.mk (some
  19) none (.mov (.t 5))), (.mk (some 20) none (.iaddr 16 (.t 18) (.t 19))), (.mk (some 21) none (.load 16 true (.t 20))), (.mk (some 22) none (.mov (.t 1))), (.mk (some 23) none (.call false 70 [(.t 21), (.t 22)])),
  (.mk (some 1) none (.mov (.t 23)))]) (.seq (.reg [(.mk (some 24) none (.mov (.t 1))), (.mk (some 25) none (.bin .lss (.t 24) (.k (.val (.int .i64 0)))))]) (.cond 25 (.seq (.reg [(.mk (some 4) none (.mov (.k (.val
  (.int .i64 (-1))))))]) .ret) .skip)))) (.reg [(.mk (some 16) none (.mov (.t 5))), (.mk (some 17) none (.bin .add (.t 16) (.k (.val (.int .i64 1))))), (.mk (some 5) none (.mov (.t 17)))])))))) (.seq (.reg [(.mk (some
  26) none (.mov (.t 1))), (.mk (some 4) none (.mov (.t 26)))]) .ret))))),
  [(.t 4)]⟩
theorem i47 : IsFun Tryz.prog 47 g47 := ⟨Tryz.f47, _, [], Tryz.func47, by kernel_rfl, rfl, by kernel_rfl, by kernel_rfl, rfl⟩
def g48 : GFun := ⟨⟨12, []⟩,
  (.seq (.reg [(.mk (some 4) none (.mov (.k (.val (.int .i64 0)))))]) (.seq (.reg [(.mk (some 5) none (.mov (.t 1))), (.mk (some 6) none (.mov (.t 0))), (.mk (some 7) none (.len (.t 6))), (.mk (some 8) none (.bin .sub
  (.t 5) (.t 7))), (.mk (some 1) none (.mov (.t 8)))]) (.seq (.seq (.reg [(.mk (some 9) none (.mov (.t 1))), (.mk (some 10) none (.bin .lss (.t 9) (.k (.val (.int .i64 0)))))]) (.cond 10 (.seq (.reg [(.mk (some 4) none
  (.mov (.k (.val (.int .i64 (-1))))))]) .ret) .skip)) (.seq (.reg [(.mk (some 11) none (.mov (.t 1))), (.mk (some 4) none (.mov (.t 11)))]) .ret)))),
  [(.t 4)]⟩
theorem i48 : IsFun Tryz.prog 48 g48 := ⟨Tryz.f48, _, [], Tryz.func48, by kernel_rfl, rfl, by kernel_rfl, by kernel_rfl, rfl⟩
def g49 : GFun := ⟨⟨18, []⟩,
  (.seq (.reg [(.mk (some 4) none (.mov (.k (.val (.bool false)))))]) (.seq (.seq (.reg [(.mk (some 5) none (.mov (.k (.val (.int .i64 0)))))]) (.block 0 (.loop (.seq (.seq (.reg [(.mk (some 6) none (.mov (.t 5))), (.mk
  (some 7) none (.mov (.t 0))), (.mk (some 8) none (.len (.t 7))), (.mk (some 9) none (.bin .lss (.t 6) (.t 8)))]) (.cond 9 .skip (.exit 0))) (.seq (.block 1 (.seq (.reg [(.mk (some 12) none (.mov (.t 0))), (.mk (some
  13) none (.mov (.t 5))), (.mk (some 14) none (.iaddr 1 (.t 12) (.t 13))), (.mk (some 15) none (.load 1 false (.t 14))), (.mk (some 16) none (.mov (.t 1))), (.mk (some 17) none (.bin .eql (.t 15) (.t 16)))]) (.cond 17
  (.seq (.reg [(.mk (some 4) none (.mov (.k (.val (.bool true)))))]) .ret) .skip))) (.reg [(.mk (some 10) none (.mov (.t 5))), (.mk (some 11) none (.bin .add (.t 10) (.k (.val (.int .i64 1))))), (.mk (some 5) none (.mov
  (.t 11)))])))))) (.seq (.reg [(.mk (some 4) none (.mov (.k (.val (.bool false)))))]) .ret))),
  [(.t 4)]⟩
theorem i49 : IsFun Tryz.prog 49 g49 := ⟨Tryz.f49, _, [], Tryz.func49, by kernel_rfl, rfl, by kernel_rfl, by kernel_rfl, rfl⟩
def g50 : GFun := ⟨⟨14, []⟩,
  (.seq (.reg [(.mk (some 4) none (.mov (.k (.val (.bool false)))))]) (.seq (.reg [(.mk (some 5) none (.mov (.t 1))), (.mk (some 6) none (.call false 31 [(.t 5), (.k (.val (.int .i64 1))), (.k (.val (.int .i64 4)))])),
  (.mk (some 7) none (.mov (.t 6))), (.mk (some 8) (some (7, true)) (.mov (.t 0))), (.mk (some 9) (some (7, true)) (.mov (.t 1))), (.mk (some 10) (some (7, true)) (.call false 71 [(.t 8), (.t 9)])), (.mk (some 11) (some
  (7, true)) (.mov (.t 0))), (.mk (some 12) (some (7, true)) (.bin .eql (.t 10) (.t 11))), (.mk (some 13) none (.pick (.t 7) (.t 12) (.k (.val (.bool false))))), (.mk (some 4) none (.mov (.t 13)))]) .ret)),
  [(.t 4)]⟩
theorem i50 : IsFun Tryz.prog 50 g50 := ⟨Tryz.f50, _, [], Tryz.func50, by kernel_rfl, rfl, by kernel_rfl, by kernel_rfl, rfl⟩
def g51 : GFun := ⟨⟨73, [1,2,6,1000003]⟩,
  (.seq (.reg [(.mk (some 1) none (.boxro 6 (.t 0))), (.mk (some 2) none (.allocr 6))]) (.seq (.reg [(.mk (some 7) none (.faddr 0 1 false (.t 1))), (.mk (some 8) none (.loadr 1 false (.t 7))), (.mk (some 9) none (.faddr
  1 1 false (.t 1))), (.mk (some 10) none (.loadr 1 false (.t 9))), (.mk (some 11) none (.faddr 3 1 false (.t 1))), (.mk (some 12) none (.loadr 1 false (.t 11))), (.mk (some 14) none (.faddr 2 1 false (.t 1))), (.mk
  (some 15) none (.loadr 1 false (.t 14))), (.mk (some 3) none (.allocr 6)), (.mk (some 13) none (.bslice 1 [] 0 false [])), (.mk (some 16) none (.append 1 16 (.t 13) (.t 15))), (.mk (some 17) none (.build [(.val
  (.string (ByteArray.mk #[]))), (.val (.string (ByteArray.mk #[]))), (.val (.slice none 0 0)), (.val (.bool false)), (.val (.slice none 0 0)), (.val (.slice none 0 0))] [(0, (1, (.t 8))), (1, (1, (.t 10))), (3, (1, (.t
  12))), (2, (1, (.t 16)))])), (.mk (some 3) none (.strb 6 3 (.t 17)))]) (.seq (.seq (.reg [(.mk (some 4) none (.mov (.k (.val (.int .i64 0)))))]) (.block 0 (.loop (.seq (.seq (.reg [(.mk (some 18) none (.mov (.t 4))),
  (.mk (some 19) none (.faddr 4 1 false (.t 1))), (.mk (some 20) none (.load 1 false (.t 19))), (.mk (some 21) none (.len (.t 20))), (.mk (some 22) none (.bin .lss (.t 18) (.t 21)))]) (.cond 22 .skip (.exit 0))) (.seq
  (.block 1 (.reg [(.mk (some 25) none (.faddr 4 1 false (.t 3))), (.mk (some 27) none (.faddr 4 1 false (.t 1))), (.mk (some 29) none (.mov (.t 4))), (.mk (some 33) none (.faddr 4 1 false (.t 1))), (.mk (some 35) none
  (.mov (.t 4))), (.mk (some 26) none (.load 1 false (.t 25))), (.mk (some 28) none (.load 1 false (.t 27))), (.mk (some 30) none (.iaddr 9 (.t 28) (.t 29))), (.mk (some 31) none (.faddr 0 2 true (.t 30))), (.mk (some
  32) none (.load 2 true (.t 31))), (.mk (some 34) none (.load 1 false (.t 33))), (.mk (some 36) none (.iaddr 9 (.t 34) (.t 35))), (.mk (some 37) none (.faddr 2 7 true (.t 36))), (.mk (some 38) none (.load 7 true (.t
  37))), (.mk (some 39) none (.call true 72 [(.t 38)])), (.mk (some 40) none (.build [(.val (.int .i64 0)), (.val (.string (ByteArray.mk #[]))), (.val (.int .i64 0)), (.val (.int .i64 0)), (.val (.int .i64 0)), (.val
  (.int .i64 0)), (.val (.string (ByteArray.mk #[]))), (.val (.string (ByteArray.mk #[]))), (.val (.slice none 0 0))] [(0, (2, (.t 32))), (2, (7, (.t 39)))])), (.mk (some 41) none (.bslice 9 [] 1 true [(0, (.t 40))])),
  (.mk (some 42) none (.append 9 112 (.t 26) (.t 41))), (.mk (some 43) none (.faddr 4 1 false (.t 3))), (.mk none none (.store 1 (.t 43) (.t 42)))])) (.reg [(.mk (some 23) none (.mov (.t 4))), (.mk (some 24) none (.bin
  .add (.t 23) (.k (.val (.int .i64 1))))), (.mk (some 4) none (.mov (.t 24)))])))))) (.seq (.seq (.reg [(.mk (some 5) none (.mov (.k (.val (.int .i64 0)))))]) (.block 2 (.loop (.seq (.seq (.reg [(.mk (some 44) none
  (.mov (.t 5))), (.mk (some 45) none (.faddr 5 1 false (.t 1))), (.mk (some 46) none (.load 1 false (.t 45))), (.mk (some 47) none (.len (.t 46))), (.mk (some 48) none (.bin .lss (.t 44) (.t 47)))]) (.cond 48 .skip
  (.exit 2))) (.seq (.block 3 (.seq (.reg [(.mk (some 51) none (.faddr 5 1 false (.t 1))), (.mk (some 52) none (.load 1 false (.t 51))), (.mk (some 53) none (.mov (.t 5))), (.mk (some 54) none (.iaddr 16 (.t 52) (.t
  53))), (.mk (some 55) none (.load 16 true (.t 54))), (.mk (some 6) none (.allocr 16)), (.mk (some 6) none (.stro 16 6 (.t 55)))]) (.reg [(.mk (some 56) none (.faddr 5 1 false (.t 3))), (.mk (some 58) none (.faddr 0 1
  false (.t 6))), (.mk (some 60) none (.faddr 1 1 false (.t 6))), (.mk (some 62) none (.faddr 2 7 true (.t 6))), (.mk (some 65) none (.faddr 9 7 true (.t 6))), (.mk (some 57) none (.load 1 false (.t 56))), (.mk (some
  59) none (.load 1 false (.t 58))), (.mk (some 61) none (.load 1 false (.t 60))), (.mk (some 63) none (.load 7 true (.t 62))), (.mk (some 64) none (.call true 72 [(.t 63)])), (.mk (some 66) none (.load 7 true (.t
  65))), (.mk (some 67) none (.call true 72 [(.t 66)])), (.mk (some 68) none (.build [(.val (.string (ByteArray.mk #[]))), (.val (.string (ByteArray.mk #[]))), (.val (.int .i64 0)), (.val (.int .i64 0)), (.val (.int
  .i64 0)), (.val (.int .i64 0)), (.val (.string (ByteArray.mk #[]))), (.val (.string (ByteArray.mk #[]))), (.val (.slice none 0 0)), (.val (.int .i64 0)), (.val (.int .i64 0)), (.val (.int .i64 0)), (.val (.int .i64
  0)), (.val (.string (ByteArray.mk #[]))), (.val (.string (ByteArray.mk #[]))), (.val (.slice none 0 0))] [(0, (1, (.t 59))), (1, (1, (.t 61))), (2, (7, (.t 64))), (9, (7, (.t 67)))])), (.mk (some 69) none (.bslice 16
  [] 1 true [(0, (.t 68))])), (.mk (some 70) none (.append 16 208 (.t 57) (.t 69))), (.mk (some 71) none (.faddr 5 1 false (.t 3))), (.mk none none (.store 1 (.t 71) (.t 70)))]))) (.reg [(.mk (some 49) none (.mov (.t
  5))), (.mk (some 50) none (.bin .add (.t 49) (.k (.val (.int .i64 1))))), (.mk (some 5) none (.mov (.t 50)))])))))) (.seq (.reg [(.mk (some 72) none (.load 6 true (.t 3))), (.mk (some 2) none (.stro 6 2 (.t 72)))])
  .ret))))),
  [(.c 2 6 true)]⟩
theorem i51 : IsFun Tryz.prog 51 g51 := ⟨Tryz.f51, _, [], Tryz.func51, by kernel_rfl, rfl, by kernel_rfl, by kernel_rfl, rfl⟩
def g52 : GFun := ⟨⟨23, []⟩,
  (.seq (.reg [(.mk (some 2) none (.mov (.k (.val (.slice none 0 0)))))]) (.seq (.reg [(.mk (some 5) none (.mov (.t 0))), (.mk (some 6) none (.len (.t 5))), (.mk (some 7) none (.mkslice 4 40 (.agg [(.val (.string
  (ByteArray.mk #[]))), (.val (.int .i64 0)), (.val (.int .i64 0)), (.val (.bool false))]) (.t 6) (.t 6))), (.mk (some 3) none (.mov (.t 7)))]) (.seq (.seq (.reg [(.mk (some 4) none (.mov (.k (.val (.int .i64 0)))))])
  (.block 0 (.loop (.seq (.seq (.reg [(.mk (some 8) none (.mov (.t 4))), (.mk (some 9) none (.mov (.t 0))), (.mk (some 10) none (.len (.t 9))), (.mk (some 11) none (.bin .lss (.t 8) (.t 10)))]) (.cond 11 .skip (.exit
  0))) (.seq (.block 1 (.reg [(.mk (some 14) none (.mov (.t 3))), (.mk (some 15) none (.mov (.t 4))), (.mk (some 16) none (.mov (.t 0))), (.mk (some 17) none (.mov (.t 4))), (.mk (some 18) none (.iaddr 4 (.t 16) (.t
  17))), (.mk (some 19) none (.load 4 true (.t 18))), (.mk (some 20) none (.call false 73 [(.t 19)])), (.mk (some 21) none (.iaddr 4 (.t 14) (.t 15))), (.mk none none (.store 4 (.t 21) (.t 20)))])) (.reg [(.mk (some 12)
  none (.mov (.t 4))), (.mk (some 13) none (.bin .add (.t 12) (.k (.val (.int .i64 1))))), (.mk (some 4) none (.mov (.t 13)))])))))) (.seq (.reg [(.mk (some 22) none (.mov (.t 3))), (.mk (some 2) none (.mov (.t 22)))])
  .ret)))),
  [(.t 2)]⟩
theorem i52 : IsFun Tryz.prog 52 g52 := ⟨Tryz.f52, _, [], Tryz.func52, by kernel_rfl, rfl, by kernel_rfl, by kernel_rfl, rfl⟩
def g53 : GFun := ⟨⟨22, []⟩,
  (.seq (.reg [(.mk (some 2) none (.mov (.k (.val (.slice none 0 0)))))]) (.seq (.reg [(.mk (some 5) none (.mov (.t 0))), (.mk (some 6) none (.len (.t 5))), (.mk (some 7) none (.mkslice 1 16 (.val (.string (ByteArray.mk
  #[]))) (.t 6) (.t 6))), (.mk (some 3) none (.mov (.t 7)))]) (.seq (.seq (.reg [(.mk (some 4) none (.mov (.k (.val (.int .i64 0)))))]) (.block 0 (.loop (.seq (.seq (.reg [(.mk (some 8) none (.mov (.t 4))), (.mk (some
  9) none (.mov (.t 0))), (.mk (some 10) none (.len (.t 9))), (.mk (some 11) none (.bin .lss (.t 8) (.t 10)))]) (.cond 11 .skip (.exit 0))) (.seq (.block 1 (.reg [(.mk (some 14) none (.mov (.t 3))), (.mk (some 15) none
  (.mov (.t 4))), (.mk (some 16) none (.mov (.t 0))), (.mk (some 17) none (.mov (.t 4))), (.mk (some 18) none (.iaddr 1 (.t 16) (.t 17))), (.mk (some 19) none (.load 1 false (.t 18))), (.mk (some 20) none (.iaddr 1 (.t
  14) (.t 15))), (.mk none none (.store 1 (.t 20) (.t 19)))])) (.reg [(.mk (some 12) none (.mov (.t 4))), (.mk (some 13) none (.bin .add (.t 12) (.k (.val (.int .i64 1))))), (.mk (some 4) none (.mov (.t 13)))]))))))
  (.seq (.reg [(.mk (some 21) none (.mov (.t 3))), (.mk (some 2) none (.mov (.t 21)))]) .ret)))),
  [(.t 2)]⟩
theorem i53 : IsFun Tryz.prog 53 g53 := ⟨Tryz.f53, _, [], Tryz.func53, by kernel_rfl, rfl, by kernel_rfl, by kernel_rfl, rfl⟩
def g54 : GFun := ⟨⟨23, []⟩,
  (.seq (.reg [(.mk (some 2) none (.mov (.k (.val (.slice none 0 0)))))]) (.seq (.reg [(.mk (some 5) none (.mov (.t 0))), (.mk (some 6) none (.len (.t 5))), (.mk (some 7) none (.mkslice 9 112 (.agg [(.val (.int .i64
  0)), (.val (.string (ByteArray.mk #[]))), (.val (.int .i64 0)), (.val (.int .i64 0)), (.val (.int .i64 0)), (.val (.int .i64 0)), (.val (.string (ByteArray.mk #[]))), (.val (.string (ByteArray.mk #[]))), (.val (.slice
  none 0 0))]) (.t 6) (.t 6))), (.mk (some 3) none (.mov (.t 7)))]) (.seq (.seq (.reg [(.mk (some 4) none (.mov (.k (.val (.int .i64 0)))))]) (.block 0 (.loop (.seq (.seq (.reg [(.mk (some 8) none (.mov (.t 4))), (.mk
  (some 9) none (.mov (.t 0))), (.mk (some 10) none (.len (.t 9))), (.mk (some 11) none (.bin .lss (.t 8) (.t 10)))]) (.cond 11 .skip (.exit 0))) (.seq (.block 1 (.reg [(.mk (some 14) none (.mov (.t 3))), (.mk (some 15)
  none (.mov (.t 4))), (.mk (some 16) none (.mov (.t 0))), (.mk (some 17) none (.mov (.t 4))), (.mk (some 18) none (.iaddr 9 (.t 16) (.t 17))), (.mk (some 19) none (.load 9 true (.t 18))), (.mk (some 20) none (.call
  false 74 [(.t 19)])), (.mk (some 21) none (.iaddr 9 (.t 14) (.t 15))), (.mk none none (.store 9 (.t 21) (.t 20)))])) (.reg [(.mk (some 12) none (.mov (.t 4))), (.mk (some 13) none (.bin .add (.t 12) (.k (.val (.int
  .i64 1))))), (.mk (some 4) none (.mov (.t 13)))])))))) (.seq (.reg [(.mk (some 22) none (.mov (.t 3))), (.mk (some 2) none (.mov (.t 22)))]) .ret)))),
  [(.t 2)]⟩
theorem i54 : IsFun Tryz.prog 54 g54 := ⟨Tryz.f54, _, [], Tryz.func54, by kernel_rfl, rfl, by kernel_rfl, by kernel_rfl, rfl⟩
def g55 : GFun := ⟨⟨23, []⟩,
  (.seq (.reg [(.mk (some 2) none (.mov (.k (.val (.slice none 0 0)))))]) (.seq (.reg [(.mk (some 5) none (.mov (.t 0))), (.mk (some 6) none (.len (.t 5))), (.mk (some 7) none (.mkslice 16 208 (.agg [(.val (.string
  (ByteArray.mk #[]))), (.val (.string (ByteArray.mk #[]))), (.val (.int .i64 0)), (.val (.int .i64 0)), (.val (.int .i64 0)), (.val (.int .i64 0)), (.val (.string (ByteArray.mk #[]))), (.val (.string (ByteArray.mk
  #[]))), (.val (.slice none 0 0)), (.val (.int .i64 0)), (.val (.int .i64 0)), (.val (.int .i64 0)), (.val (.int .i64 0)), (.val (.string (ByteArray.mk #[]))), (.val (.string (ByteArray.mk #[]))), (.val (.slice none 0
  0))]) (.t 6) (.t 6))), (.mk (some 3) none (.mov (.t 7)))]) (.seq (.seq (.reg [(.mk (some 4) none (.mov (.k (.val (.int .i64 0)))))]) (.block 0 (.loop (.seq (.seq (.reg [(.mk (some 8) none (.mov (.t 4))), (.mk (some 9)
  none (.mov (.t 0))), (.mk (some 10) none (.len (.t 9))), (.mk (some 11) none (.bin .lss (.t 8) (.t 10)))]) (.cond 11 .skip (.exit 0))) (.seq (.block 1 (.reg [(.mk (some 14) none (.mov (.t 3))), (.mk (some 15) none
  (.mov (.t 4))), (.mk (some 16) none (.mov (.t 0))), (.mk (some 17) none (.mov (.t 4))), (.mk (some 18) none (.iaddr 16 (.t 16) (.t 17))), (.mk (some 19) none (.load 16 true (.t 18))), (.mk (some 20) none (.call false
  75 [(.t 19)])), (.mk (some 21) none (.iaddr 16 (.t 14) (.t 15))), (.mk none none (.store 16 (.t 21) (.t 20)))])) (.reg [(.mk (some 12) none (.mov (.t 4))), (.mk (some 13) none (.bin .add (.t 12) (.k (.val (.int .i64
  1))))), (.mk (some 4) none (.mov (.t 13)))])))))) (.seq (.reg [(.mk (some 22) none (.mov (.t 3))), (.mk (some 2) none (.mov (.t 22)))]) .ret)))),
  [(.t 2)]⟩
theorem i55 : IsFun Tryz.prog 55 g55 := ⟨Tryz.f55, _, [], Tryz.func55, by kernel_rfl, rfl, by kernel_rfl, by kernel_rfl, rfl⟩
def g56 : GFun := ⟨⟨22, []⟩,
  (.seq (.reg [(.mk (some 2) none (.mov (.k (.val (.slice none 0 0)))))]) (.seq (.reg [(.mk (some 5) none (.mov (.t 0))), (.mk (some 6) none (.len (.t 5))), (.mk (some 7) none (.mkslice 1 8 (.val (.int .i64 0)) (.t 6)
  (.t 6))), (.mk (some 3) none (.mov (.t 7)))]) (.seq (.seq (.reg [(.mk (some 4) none (.mov (.k (.val (.int .i64 0)))))]) (.block 0 (.loop (.seq (.seq (.reg [(.mk (some 8) none (.mov (.t 4))), (.mk (some 9) none (.mov
  (.t 0))), (.mk (some 10) none (.len (.t 9))), (.mk (some 11) none (.bin .lss (.t 8) (.t 10)))]) (.cond 11 .skip (.exit 0))) (.seq (.block 1 (.reg [(.mk (some 14) none (.mov (.t 3))), (.mk (some 15) none (.mov (.t
  4))), (.mk (some 16) none (.mov (.t 0))), (.mk (some 17) none (.mov (.t 4))), (.mk (some 18) none (.iaddr 1 (.t 16) (.t 17))), (.mk (some 19) none (.load 1 false (.t 18))), (.mk (some 20) none (.iaddr 1 (.t 14) (.t
  15))), (.mk none none (.store 1 (.t 20) (.t 19)))])) (.reg [(.mk (some 12) none (.mov (.t 4))), (.mk (some 13) none (.bin .add (.t 12) (.k (.val (.int .i64 1))))), (.mk (some 4) none (.mov (.t 13)))])))))) (.seq (.reg
  [(.mk (some 21) none (.mov (.t 3))), (.mk (some 2) none (.mov (.t 21)))]) .ret)))),
  [(.t 2)]⟩
theorem i56 : IsFun Tryz.prog 56 g56 := ⟨Tryz.f56, _, [], Tryz.func56, by kernel_rfl, rfl, by kernel_rfl, by kernel_rfl, rfl⟩
def g57 : GFun := ⟨⟨15, []⟩,
  (.seq (.reg [(.mk (some 6) none (.mov (.k (.val (.bool false)))))]) (.seq (.reg [(.mk (some 7) none (.mov (.t 0))), (.mk (some 8) none (.mov (.t 1))), (.mk (some 9) none (.bin .geq (.t 7) (.t 8))), (.mk (some 10) none
  (.mov (.t 9))), (.mk (some 11) (some (10, true)) (.mov (.t 0))), (.mk (some 12) (some (10, true)) (.mov (.t 2))), (.mk (some 13) (some (10, true)) (.bin .leq (.t 11) (.t 12))), (.mk (some 14) none (.pick (.t 10) (.t
  13) (.k (.val (.bool false))))), (.mk (some 6) none (.mov (.t 14)))]) .ret)),
  [(.t 6)]⟩
theorem i57 : IsFun Tryz.prog 57 g57 := ⟨Tryz.f57, _, [], Tryz.func57, by kernel_rfl, rfl, by kernel_rfl, by kernel_rfl, rfl⟩
def g58 : GFun := ⟨⟨9, []⟩,
  (.seq (.reg [(.mk (some 4) none (.mov (.k (.val (.bool false)))))]) (.seq (.reg [(.mk (some 5) none (.mov (.t 0))), (.mk (some 6) none (.mov (.t 1))), (.mk (some 7) none (.call false 76 [(.t 5), (.t 6)])), (.mk (some
  8) none (.bin .geq (.t 7) (.k (.val (.int .i64 0))))), (.mk (some 4) none (.mov (.t 8)))]) .ret)),
  [(.t 4)]⟩
theorem i58 : IsFun Tryz.prog 58 g58 := ⟨Tryz.f58, _, [], Tryz.func58, by kernel_rfl, rfl, by kernel_rfl, by kernel_rfl, rfl⟩
def g59 : GFun := ⟨⟨9, [2]⟩,
  (.seq (.reg [(.mk (some 2) none (.boxro 6 (.t 0))), (.mk (some 3) none (.mov (.k (.val (.bool false)))))]) (.seq (.reg [(.mk (some 4) none (.faddr 0 1 false (.t 2))), (.mk (some 5) none (.load 1 false (.t 4))), (.mk
  (some 6) none (.faddr 0 1 false (.t 1))), (.mk (some 7) none (.load 1 false (.t 6))), (.mk (some 8) none (.bin .eql (.t 5) (.t 7))), (.mk (some 3) none (.mov (.t 8)))]) .ret)),
  [(.t 3)]⟩
theorem i59 : IsFun Tryz.prog 59 g59 := ⟨Tryz.f59, _, [], Tryz.func59, by kernel_rfl, rfl, by kernel_rfl, by kernel_rfl, rfl⟩
def g60 : GFun := ⟨⟨110, [6,7,13,14]⟩,
  (.seq (.reg [(.mk (some 6) none (.boxro 2 (.t 0))), (.mk (some 7) none (.boxro 1 (.t 1))), (.mk (some 12) none (.mov (.k (.val (.int .i64 0)))))]) (.seq (.seq (.reg [(.mk (some 19) none (.mov (.t 2))), (.mk (some 20)
  none (.faddr 0 1 false (.t 7))), (.mk (some 21) none (.load 1 false (.t 20))), (.mk (some 22) none (.len (.t 21))), (.mk (some 23) none (.bin .geq (.t 19) (.t 22)))]) (.cond 23 (.seq (.reg [(.mk (some 12) none (.mov
  (.k (.val (.int .i64 (-1))))))]) .ret) .skip)) (.seq (.reg [(.mk (some 24) none (.faddr 0 1 false (.t 7))), (.mk (some 25) none (.load 1 false (.t 24))), (.mk (some 26) none (.mov (.t 2))), (.mk (some 27) none (.iaddr
  6 (.t 25) (.t 26))), (.mk (some 28) none (.load 6 true (.t 27))), (.mk (some 13) none (.allocr 6)), (.mk (some 13) none (.stro 6 13 (.t 28)))]) (.seq (.reg [(.mk (some 30) none (.load 2 true (.t 6))), (.mk (some 31)
  none (.faddr 4 1 false (.t 13))), (.mk (some 32) none (.load 1 false (.t 31))), (.mk (some 33) none (.call false 39 [(.t 30), (.t 32)])), (.mk (some 29) none (.mov (.t 33))), (.mk (some 34) none (.ext (.t 29) 0)),
  (.mk (some 35) none (.ext (.t 29) 1)), (.mk (some 14) none (.allocr 6)), (.mk (some 14) none (.stro 6 14 (.t 34))), (.mk (some 15) none (.mov (.t 35)))]) (.seq (.seq (.reg [(.mk (some 36) none (.mov (.t 15))), (.mk
  (some 37) none (.not (.t 36))), (.mk (some 38) none (.mov (.t 37))), (.mk (some 39) (some (38, false)) (.faddr 1 1 false (.t 14))), (.mk (some 40) (some (38, false)) (.load 1 false (.t 39))), (.mk (some 41) (some (38,
  false)) (.mov (.t 5))), (.mk (some 42) (some (38, false)) (.bin .neq (.t 40) (.t 41))), (.mk (some 43) none (.pick (.t 38) (.k (.val (.bool true))) (.t 42))), (.mk (some 44) none (.mov (.t 43))), (.mk (some 45) (some
  (44, false)) (.faddr 1 1 false (.t 13))), (.mk (some 46) (some (44, false)) (.load 1 false (.t 45))), (.mk (some 47) (some (44, false)) (.mov (.t 3))), (.mk (some 48) (some (44, false)) (.bin .neq (.t 46) (.t 47))),
  (.mk (some 49) none (.pick (.t 44) (.k (.val (.bool true))) (.t 48))), (.mk (some 50) none (.mov (.t 49))), (.mk (some 51) (some (50, false)) (.faddr 2 1 false (.t 13))), (.mk (some 52) (some (50, false)) (.load 1
  false (.t 51))), (.mk (some 53) (some (50, false)) (.mov (.t 4))), (.mk (some 54) (some (50, false)) (.bin .neq (.t 52) (.t 53))), (.mk (some 55) none (.pick (.t 50) (.k (.val (.bool true))) (.t 54))), (.mk (some 56)
  none (.mov (.t 55))), (.mk (some 57) (some (56, false)) (.faddr 5 1 false (.t 13))), (.mk (some 58) (some (56, false)) (.load 1 false (.t 57))), (.mk (some 59) (some (56, false)) (.len (.t 58))), (.mk (some 60) (some
  (56, false)) (.faddr 2 1 false (.t 14))), (.mk (some 61) (some (56, false)) (.load 1 false (.t 60))), (.mk (some 62) (some (56, false)) (.len (.t 61))), (.mk (some 63) (some (56, false)) (.bin .neq (.t 59) (.t 62))),
  (.mk (some 64) none (.pick (.t 56) (.k (.val (.bool true))) (.t 63))), (.mk (some 65) none (.mov (.t 64))), (.mk (some 66) (some (65, false)) (.faddr 3 1 false (.t 13))), (.mk (some 67) (some (65, false)) (.load 1
  false (.t 66))), (.mk (some 68) (some (65, false)) (.call false 57 [(.t 67), (.k (.val (.int .i64 (-1000000)))), (.k (.val (.int .i64 1000000)))])), (.mk (some 69) (some (65, false)) (.not (.t 68))), (.mk (some 70)
  none (.pick (.t 65) (.k (.val (.bool true))) (.t 69))), (.mk (some 71) none (.mov (.t 70))), (.mk (some 72) (some (71, false)) (.faddr 3 1 false (.t 14))), (.mk (some 73) (some (71, false)) (.load 1 false (.t 72))),
  (.mk (some 74) (some (71, false)) (.not (.t 73))), (.mk (some 75) (some (71, false)) (.mov (.t 74))), (.mk (some 76) (some (75, true)) (.faddr 3 1 false (.t 13))), (.mk (some 77) (some (75, true)) (.load 1 false (.t
  76))), (.mk (some 78) (some (75, true)) (.bin .neq (.t 77) (.k (.val (.int .i64 0))))), (.mk (some 79) (some (71, false)) (.pick (.t 75) (.t 78) (.k (.val (.bool false))))), (.mk (some 80) none (.pick (.t 71) (.k
  (.val (.bool true))) (.t 79)))]) (.cond 80 (.seq (.reg [(.mk (some 12) none (.mov (.k (.val (.int .i64 (-1))))))]) .ret) .skip)) (.seq (.reg [(.mk (some 81) none (.mov (.t 2))), (.mk (some 82) none (.bin .add (.t 81)
  (.k (.val (.int .i64 1))))), (.mk (some 16) none (.mov (.t 82)))]) (.seq (.seq (.reg [(.mk (some 83) none (.faddr 5 1 false (.t 13))), (.mk (some 84) none (.load 1 false (.t 83))), (.mk (some 85) none (.len (.t 84))),
  (.mk (some 86) none (.mov (.k (.val (.int .i64 0)))))]) (.block 0 (.loop (.seq (.reg [(.mk (some 87) none (.bin .lss (.t 86) (.t 85)))]) (.seq (.cond 87 .skip (.exit 0)) (.seq (.block 1 (.seq (.reg [(.mk (some 88)
  none (.mov (.t 86))), (.mk (some 89) none (.iaddr 1 (.t 84) (.t 86))), (.mk (some 90) none (.load 1 false (.t 89))), (.mk (some 17) none (.mov (.t 88))), (.mk (some 18) none (.mov (.t 90)))]) (.seq (.seq (.reg [(.mk
  (some 91) none (.mov (.t 18))), (.mk (some 92) none (.mov (.t 16))), (.mk (some 93) none (.bin .neq (.t 91) (.t 92)))]) (.cond 93 (.seq (.reg [(.mk (some 12) none (.mov (.k (.val (.int .i64 (-1))))))]) .ret) .skip))
  (.seq (.reg [(.mk (some 96) none (.mov (.t 16))), (.mk (some 97) none (.mov (.t 2))), (.mk (some 98) none (.mov (.t 17))), (.mk (some 99) none (.bin .add (.t 98) (.k (.val (.int .i64 1))))), (.mk (some 100) none
  (.faddr 2 1 false (.t 14))), (.mk (some 102) none (.mov (.t 17))), (.mk (some 94) none (.load 2 true (.t 6))), (.mk (some 95) none (.load 1 true (.t 7))), (.mk (some 101) none (.load 1 false (.t 100))), (.mk (some
  103) none (.iaddr 1 (.t 101) (.t 102))), (.mk (some 104) none (.load 1 false (.t 103))), (.mk (some 105) none (.call true 60 [(.t 94), (.t 95), (.t 96), (.t 97), (.t 99), (.t 104)])), (.mk (some 16) none (.mov (.t
  105)))]) (.seq (.reg [(.mk (some 106) none (.mov (.t 16))), (.mk (some 107) none (.bin .lss (.t 106) (.k (.val (.int .i64 0)))))]) (.cond 107 (.seq (.reg [(.mk (some 12) none (.mov (.k (.val (.int .i64 (-1))))))])
  .ret) .skip)))))) (.reg [(.mk (some 108) none (.bin .add (.t 86) (.k (.val (.int .i64 1))))), (.mk (some 86) none (.mov (.t 108)))]))))))) (.seq (.reg [(.mk (some 109) none (.mov (.t 16))), (.mk (some 12) none (.mov
  (.t 109)))]) .ret)))))))),
  [(.t 12)]⟩
theorem i60 : IsFun Tryz.prog 60 g60 := ⟨Tryz.f60, _, [], Tryz.func60, by kernel_rfl, rfl, by kernel_rfl, by kernel_rfl, rfl⟩
def g61 : GFun := ⟨⟨11, [2]⟩,
  (.seq (.reg [(.mk (some 2) none (.boxro 1 (.t 0))), (.mk (some 4) none (.mov (.k (.val (.bool false)))))]) (.seq (.reg [(.mk (some 5) none (.mov (.t 1))), (.mk (some 6) none (.faddr 0 1 false (.t 2))), (.mk (some 7)
  none (.load 1 false (.t 6))), (.mk (some 8) none (.len (.t 7))), (.mk (some 9) none (.bin .sub (.t 8) (.k (.val (.int .i64 1))))), (.mk (some 10) none (.call false 57 [(.t 5), (.k (.val (.int .i64 0))), (.t 9)])),
  (.mk (some 4) none (.mov (.t 10)))]) .ret)),
  [(.t 4)]⟩
theorem i61 : IsFun Tryz.prog 61 g61 := ⟨Tryz.f61, _, [], Tryz.func61, by kernel_rfl, rfl, by kernel_rfl, by kernel_rfl, rfl⟩
def g63 : GFun := ⟨⟨27, []⟩,
  (.seq (.reg [(.mk (some 4) none (.mov (.k (.val (.bool false)))))]) (.seq (.seq (.reg [(.mk (some 6) none (.mov (.t 0))), (.mk (some 7) none (.len (.t 6))), (.mk (some 8) none (.mov (.t 1))), (.mk (some 9) none (.len
  (.t 8))), (.mk (some 10) none (.bin .neq (.t 7) (.t 9)))]) (.cond 10 (.seq (.reg [(.mk (some 4) none (.mov (.k (.val (.bool false)))))]) .ret) .skip)) (.seq (.seq (.reg [(.mk (some 5) none (.mov (.k (.val (.int .i64
  0)))))]) (.block 0 (.loop (.seq (.seq (.reg [(.mk (some 11) none (.mov (.t 5))), (.mk (some 12) none (.mov (.t 0))), (.mk (some 13) none (.len (.t 12))), (.mk (some 14) none (.bin .lss (.t 11) (.t 13)))]) (.cond 14
  .skip (.exit 0))) (.seq (.block 1 (.seq (.reg [(.mk (some 17) none (.mov (.t 0))), (.mk (some 18) none (.mov (.t 5))), (.mk (some 19) none (.iaddr 4 (.t 17) (.t 18))), (.mk (some 21) none (.mov (.t 1))), (.mk (some
  22) none (.mov (.t 5))), (.mk (some 23) none (.iaddr 4 (.t 21) (.t 22))), (.mk (some 20) none (.load 4 true (.t 19))), (.mk (some 24) none (.load 4 true (.t 23))), (.mk (some 25) none (.call true 78 [(.t 20), (.t
  24)])), (.mk (some 26) none (.not (.t 25)))]) (.cond 26 (.seq (.reg [(.mk (some 4) none (.mov (.k (.val (.bool false)))))]) .ret) .skip))) (.reg [(.mk (some 15) none (.mov (.t 5))), (.mk (some 16) none (.bin .add (.t
  15) (.k (.val (.int .i64 1))))), (.mk (some 5) none (.mov (.t 16)))])))))) (.seq (.reg [(.mk (some 4) none (.mov (.k (.val (.bool true)))))]) .ret)))),
  [(.t 4)]⟩
theorem i63 : IsFun Tryz.prog 63 g63 := ⟨Tryz.f63, _, [], Tryz.func63, by kernel_rfl, rfl, by kernel_rfl, by kernel_rfl, rfl⟩
def g64 : GFun := ⟨⟨26, []⟩,
  (.seq (.reg [(.mk (some 4) none (.mov (.k (.val (.bool false)))))]) (.seq (.seq (.reg [(.mk (some 6) none (.mov (.t 0))), (.mk (some 7) none (.len (.t 6))), (.mk (some 8) none (.mov (.t 1))), (.mk (some 9) none (.len
  (.t 8))), (.mk (some 10) none (.bin .neq (.t 7) (.t 9)))]) (.cond 10 (.seq (.reg [(.mk (some 4) none (.mov (.k (.val (.bool false)))))]) .ret) .skip)) (.seq (.seq (.reg [(.mk (some 5) none (.mov (.k (.val (.int .i64
  0)))))]) (.block 0 (.loop (.seq (.seq (.reg [(.mk (some 11) none (.mov (.t 5))), (.mk (some 12) none (.mov (.t 0))), (.mk (some 13) none (.len (.t 12))), (.mk (some 14) none (.bin .lss (.t 11) (.t 13)))]) (.cond 14
  .skip (.exit 0))) (.seq (.block 1 (.seq (.reg [(.mk (some 17) none (.mov (.t 0))), (.mk (some 18) none (.mov (.t 5))), (.mk (some 19) none (.iaddr 1 (.t 17) (.t 18))), (.mk (some 21) none (.mov (.t 1))), (.mk (some
  22) none (.mov (.t 5))), (.mk (some 23) none (.iaddr 1 (.t 21) (.t 22))), (.mk (some 20) none (.load 1 false (.t 19))), (.mk (some 24) none (.load 1 false (.t 23))), (.mk (some 25) none (.bin .neq (.t 20) (.t 24)))])
  (.cond 25 (.seq (.reg [(.mk (some 4) none (.mov (.k (.val (.bool false)))))]) .ret) .skip))) (.reg [(.mk (some 15) none (.mov (.t 5))), (.mk (some 16) none (.bin .add (.t 15) (.k (.val (.int .i64 1))))), (.mk (some 5)
  none (.mov (.t 16)))])))))) (.seq (.reg [(.mk (some 4) none (.mov (.k (.val (.bool true)))))]) .ret)))),
  [(.t 4)]⟩
theorem i64 : IsFun Tryz.prog 64 g64 := ⟨Tryz.f64, _, [], Tryz.func64, by kernel_rfl, rfl, by kernel_rfl, by kernel_rfl, rfl⟩
def g65 : GFun := ⟨⟨27, []⟩,
  (.seq (.reg [(.mk (some 4) none (.mov (.k (.val (.bool false)))))]) (.seq (.seq (.reg [(.mk (some 6) none (.mov (.t 0))), (.mk (some 7) none (.len (.t 6))), (.mk (some 8) none (.mov (.t 1))), (.mk (some 9) none (.len
  (.t 8))), (.mk (some 10) none (.bin .neq (.t 7) (.t 9)))]) (.cond 10 (.seq (.reg [(.mk (some 4) none (.mov (.k (.val (.bool false)))))]) .ret) .skip)) (.seq (.seq (.reg [(.mk (some 5) none (.mov (.k (.val (.int .i64
  0)))))]) (.block 0 (.loop (.seq (.seq (.reg [(.mk (some 11) none (.mov (.t 5))), (.mk (some 12) none (.mov (.t 0))), (.mk (some 13) none (.len (.t 12))), (.mk (some 14) none (.bin .lss (.t 11) (.t 13)))]) (.cond 14
  .skip (.exit 0))) (.seq (.block 1 (.seq (.reg [(.mk (some 17) none (.mov (.t 0))), (.mk (some 18) none (.mov (.t 5))), (.mk (some 19) none (.iaddr 9 (.t 17) (.t 18))), (.mk (some 21) none (.mov (.t 1))), (.mk (some
  22) none (.mov (.t 5))), (.mk (some 23) none (.iaddr 9 (.t 21) (.t 22))), (.mk (some 20) none (.load 9 true (.t 19))), (.mk (some 24) none (.load 9 true (.t 23))), (.mk (some 25) none (.call true 79 [(.t 20), (.t
  24)])), (.mk (some 26) none (.not (.t 25)))]) (.cond 26 (.seq (.reg [(.mk (some 4) none (.mov (.k (.val (.bool false)))))]) .ret) .skip))) (.reg [(.mk (some 15) none (.mov (.t 5))), (.mk (some 16) none (.bin .add (.t
  15) (.k (.val (.int .i64 1))))), (.mk (some 5) none (.mov (.t 16)))])))))) (.seq (.reg [(.mk (some 4) none (.mov (.k (.val (.bool true)))))]) .ret)))),
  [(.t 4)]⟩
theorem i65 : IsFun Tryz.prog 65 g65 := ⟨Tryz.f65, _, [], Tryz.func65, by kernel_rfl, rfl, by kernel_rfl, by kernel_rfl, rfl⟩
def g66 : GFun := ⟨⟨27, []⟩,
  (.seq (.reg [(.mk (some 4) none (.mov (.k (.val (.bool false)))))]) (.seq (.seq (.reg [(.mk (some 6) none (.mov (.t 0))), (.mk (some 7) none (.len (.t 6))), (.mk (some 8) none (.mov (.t 1))), (.mk (some 9) none (.len
  (.t 8))), (.mk (some 10) none (.bin .neq (.t 7) (.t 9)))]) (.cond 10 (.seq (.reg [(.mk (some 4) none (.mov (.k (.val (.bool false)))))]) .ret) .skip)) (.seq (.seq (.reg [(.mk (some 5) none (.mov (.k (.val (.int .i64
  0)))))]) (.block 0 (.loop (.seq (.seq (.reg [(.mk (some 11) none (.mov (.t 5))), (.mk (some 12) none (.mov (.t 0))), (.mk (some 13) none (.len (.t 12))), (.mk (some 14) none (.bin .lss (.t 11) (.t 13)))]) (.cond 14
  .skip (.exit 0))) (.seq (.block 1 (.seq (.reg [(.mk (some 17) none (.mov (.t 0))), (.mk (some 18) none (.mov (.t 5))), (.mk (some 19) none (.iaddr 16 (.t 17) (.t 18))), (.mk (some 21) none (.mov (.t 1))), (.mk (some
  22) none (.mov (.t 5))), (.mk (some 23) none (.iaddr 16 (.t 21) (.t 22))), (.mk (some 20) none (.load 16 true (.t 19))), (.mk (some 24) none (.load 16 true (.t 23))), (.mk (some 25) none (.call true 80 [(.t 20), (.t
  24)])), (.mk (some 26) none (.not (.t 25)))]) (.cond 26 (.seq (.reg [(.mk (some 4) none (.mov (.k (.val (.bool false)))))]) .ret) .skip))) (.reg [(.mk (some 15) none (.mov (.t 5))), (.mk (some 16) none (.bin .add (.t
  15) (.k (.val (.int .i64 1))))), (.mk (some 5) none (.mov (.t 16)))])))))) (.seq (.reg [(.mk (some 4) none (.mov (.k (.val (.bool true)))))]) .ret)))),
  [(.t 4)]⟩
theorem i66 : IsFun Tryz.prog 66 g66 := ⟨Tryz.f66, _, [], Tryz.func66, by kernel_rfl, rfl, by kernel_rfl, by kernel_rfl, rfl⟩
def g67 : GFun := ⟨⟨26, []⟩,
  (.seq (.reg [(.mk (some 4) none (.mov (.k (.val (.bool false)))))]) (.seq (.seq (.reg [(.mk (some 6) none (.mov (.t 0))), (.mk (some 7) none (.len (.t 6))), (.mk (some 8) none (.mov (.t 1))), (.mk (some 9) none (.len
  (.t 8))), (.mk (some 10) none (.bin .neq (.t 7) (.t 9)))]) (.cond 10 (.seq (.reg [(.mk (some 4) none (.mov (.k (.val (.bool false)))))]) .ret) .skip)) (.seq (.seq (.reg [(.mk (some 5) none (.mov (.k (.val (.int .i64
  0)))))]) (.block 0 (.loop (.seq (.seq (.reg [(.mk (some 11) none (.mov (.t 5))), (.mk (some 12) none (.mov (.t 0))), (.mk (some 13) none (.len (.t 12))), (.mk (some 14) none (.bin .lss (.t 11) (.t 13)))]) (.cond 14
  .skip (.exit 0))) (.seq (.block 1 (.seq (.reg [(.mk (some 17) none (.mov (.t 0))), (.mk (some 18) none (.mov (.t 5))), (.mk (some 19) none (.iaddr 1 (.t 17) (.t 18))), (.mk (some 21) none (.mov (.t 1))), (.mk (some
  22) none (.mov (.t 5))), (.mk (some 23) none (.iaddr 1 (.t 21) (.t 22))), (.mk (some 20) none (.load 1 false (.t 19))), (.mk (some 24) none (.load 1 false (.t 23))), (.mk (some 25) none (.bin .neq (.t 20) (.t 24)))])
  (.cond 25 (.seq (.reg [(.mk (some 4) none (.mov (.k (.val (.bool false)))))]) .ret) .skip))) (.reg [(.mk (some 15) none (.mov (.t 5))), (.mk (some 16) none (.bin .add (.t 15) (.k (.val (.int .i64 1))))), (.mk (some 5)
  none (.mov (.t 16)))])))))) (.seq (.reg [(.mk (some 4) none (.mov (.k (.val (.bool true)))))]) .ret)))),
  [(.t 4)]⟩
theorem i67 : IsFun Tryz.prog 67 g67 := ⟨Tryz.f67, _, [], Tryz.func67, by kernel_rfl, rfl, by kernel_rfl, by kernel_rfl, rfl⟩
def g68 : GFun := ⟨⟨13, [2]⟩,
  (.seq (.reg [(.mk (some 2) none (.boxro 4 (.t 0))), (.mk (some 4) none (.mov (.k (.val (.int .i64 0)))))]) (.seq (.reg [(.mk (some 5) none (.mov (.t 1))), (.mk (some 6) none (.faddr 0 1 false (.t 2))), (.mk (some 7)
  none (.load 1 false (.t 6))), (.mk (some 8) none (.slen (.t 7))), (.mk (some 9) none (.bin .sub (.t 5) (.t 8))), (.mk (some 1) none (.mov (.t 9)))]) (.seq (.seq (.reg [(.mk (some 10) none (.mov (.t 1))), (.mk (some
  11) none (.bin .lss (.t 10) (.k (.val (.int .i64 0)))))]) (.cond 11 (.seq (.reg [(.mk (some 4) none (.mov (.k (.val (.int .i64 (-1))))))]) .ret) .skip)) (.seq (.reg [(.mk (some 12) none (.mov (.t 1))), (.mk (some 4)
  none (.mov (.t 12)))]) .ret)))),
  [(.t 4)]⟩
theorem i68 : IsFun Tryz.prog 68 g68 := ⟨Tryz.f68, _, [], Tryz.func68, by kernel_rfl, rfl, by kernel_rfl, by kernel_rfl, rfl⟩
def g69 : GFun := ⟨⟨18, [2]⟩,
  (.seq (.reg [(.mk (some 2) none (.boxro 9 (.t 0))), (.mk (some 4) none (.mov (.k (.val (.int .i64 0)))))]) (.seq (.reg [(.mk (some 5) none (.faddr 0 2 true (.t 2))), (.mk (some 6) none (.load 2 true (.t 5))), (.mk
  (some 7) none (.mov (.t 1))), (.mk (some 8) none (.call false 81 [(.t 6), (.t 7)])), (.mk (some 1) none (.mov (.t 8)))]) (.seq (.seq (.reg [(.mk (some 9) none (.mov (.t 1))), (.mk (some 10) none (.bin .lss (.t 9) (.k
  (.val (.int .i64 0)))))]) (.cond 10 (.seq (.reg [(.mk (some 4) none (.mov (.k (.val (.int .i64 (-1))))))]) .ret) .skip)) (.seq (.reg [(.mk (some 11) none (.faddr 2 7 true (.t 2))), (.mk (some 12) none (.load 7 true
  (.t 11))), (.mk (some 13) none (.mov (.t 1))), (.mk (some 14) none (.call false 82 [(.t 12), (.t 13)])), (.mk (some 1) none (.mov (.t 14)))]) (.seq (.seq (.reg [(.mk (some 15) none (.mov (.t 1))), (.mk (some 16) none
  (.bin .lss (.t 15) (.k (.val (.int .i64 0)))))]) (.cond 16 (.seq (.reg [(.mk (some 4) none (.mov (.k (.val (.int .i64 (-1))))))]) .ret) .skip)) (.seq (.reg [(.mk (some 17) none (.mov (.t 1))), (.mk (some 4) none (.mov
  (.t 17)))]) .ret)))))),
  [(.t 4)]⟩
theorem i69 : IsFun Tryz.prog 69 g69 := ⟨Tryz.f69, _, [], Tryz.func69, by kernel_rfl, rfl, by kernel_rfl, by kernel_rfl, rfl⟩
def g70 : GFun := ⟨⟨32, [2]⟩,
  (.seq (.reg [(.mk (some 2) none (.boxro 16 (.t 0))), (.mk (some 4) none (.mov (.k (.val (.int .i64 0)))))]) (.seq (.reg [(.mk (some 5) none (.mov (.t 1))), (.mk (some 6) none (.faddr 0 1 false (.t 2))), (.mk (some 7)
  none (.load 1 false (.t 6))), (.mk (some 8) none (.slen (.t 7))), (.mk (some 9) none (.bin .sub (.t 5) (.t 8))), (.mk (some 1) none (.mov (.t 9)))]) (.seq (.seq (.reg [(.mk (some 10) none (.mov (.t 1))), (.mk (some
  11) none (.bin .lss (.t 10) (.k (.val (.int .i64 0)))))]) (.cond 11 (.seq (.reg [(.mk (some 4) none (.mov (.k (.val (.int .i64 (-1))))))]) .ret) .skip)) (.seq (.reg [(.mk (some 12) none (.mov (.t 1))), (.mk (some 13)
  none (.faddr 1 1 false (.t 2))), (.mk (some 14) none (.load 1 false (.t 13))), (.mk (some 15) none (.slen (.t 14))), (.mk (some 16) none (.bin .sub (.t 12) (.t 15))), (.mk (some 1) none (.mov (.t 16)))]) (.seq (.seq
  (.reg [(.mk (some 17) none (.mov (.t 1))), (.mk (some 18) none (.bin .lss (.t 17) (.k (.val (.int .i64 0)))))]) (.cond 18 (.seq (.reg [(.mk (some 4) none (.mov (.k (.val (.int .i64 (-1))))))]) .ret) .skip)) (.seq
  (.reg [(.mk (some 19) none (.faddr 2 7 true (.t 2))), (.mk (some 20) none (.load 7 true (.t 19))), (.mk (some 21) none (.mov (.t 1))), (.mk (some 22) none (.call false 82 [(.t 20), (.t 21)])), (.mk (some 1) none (.mov
  (.t 22)))]) (.seq (.seq (.reg [(.mk (some 23) none (.mov (.t 1))), (.mk (some 24) none (.bin .lss (.t 23) (.k (.val (.int .i64 0)))))]) (.cond 24 (.seq (.reg [(.mk (some 4) none (.mov (.k (.val (.int .i64 (-1))))))])
  .ret) .skip)) (.seq (.reg [(.mk (some 25) none (.faddr 9 7 true (.t 2))), (.mk (some 26) none (.load 7 true (.t 25))), (.mk (some 27) none (.mov (.t 1))), (.mk (some 28) none (.call false 82 [(.t 26), (.t 27)])), (.mk
  (some 1) none (.mov (.t 28)))]) (.seq (.seq (.reg [(.mk (some 29) none (.mov (.t 1))), (.mk (some 30) none (.bin .lss (.t 29) (.k (.val (.int .i64 0)))))]) (.cond 30 (.seq (.reg [(.mk (some 4) none (.mov (.k (.val
  (.int .i64 (-1))))))]) .ret) .skip)) (.seq (.reg [(.mk (some 31) none (.mov (.t 1))), (.mk (some 4) none (.mov (.t 31)))]) .ret)))))))))),
  [(.t 4)]⟩
theorem i70 : IsFun Tryz.prog 70 g70 := ⟨Tryz.f70, _, [], Tryz.func70, by kernel_rfl, rfl, by kernel_rfl, by kernel_rfl, rfl⟩
def g71 : GFun := ⟨⟨24, []⟩,
  (.seq (.reg [(.mk (some 4) none (.mov (.k (.val (.int .i64 0)))))]) (.seq (.seq (.reg [(.mk (some 5) none (.mov (.t 1)))]) (.block 0 (.seq (.reg [(.mk (some 7) none (.bin .eql (.t 5) (.k (.val (.int .i64 1))))), (.mk
  (some 6) none (.mov (.t 7)))]) (.cond 6 (.seq (.reg [(.mk (some 8) none (.mov (.t 0))), (.mk (some 9) none (.call false 83 [(.t 8)])), (.mk (some 4) none (.mov (.t 9)))]) .ret) (.seq (.reg [(.mk (some 11) none (.bin
  .eql (.t 5) (.k (.val (.int .i64 2))))), (.mk (some 10) none (.mov (.t 11)))]) (.cond 10 (.seq (.reg [(.mk (some 12) none (.mov (.t 0))), (.mk (some 13) none (.bin .and (.t 12) (.k (.val (.int .i64 4095))))), (.mk
  (some 4) none (.mov (.t 13)))]) .ret) (.seq (.reg [(.mk (some 15) none (.bin .eql (.t 5) (.k (.val (.int .i64 3))))), (.mk (some 14) none (.mov (.t 15)))]) (.cond 14 (.seq (.reg [(.mk (some 16) none (.mov (.t 0))),
  (.mk (some 17) none (.bin .neq (.t 16) (.k (.val (.int .i64 0))))), (.mk (some 18) none (.call false 84 [(.t 17)])), (.mk (some 4) none (.mov (.t 18)))]) .ret) (.seq (.reg [(.mk (some 20) none (.bin .eql (.t 5) (.k
  (.val (.int .i64 4))))), (.mk (some 19) none (.mov (.t 20)))]) (.cond 19 (.seq (.reg [(.mk (some 21) none (.mov (.t 0))), (.mk (some 22) none (.call false 31 [(.t 21), (.k (.val (.int .i64 0))), (.k (.val (.int .i64
  999)))]))]) (.cond 22 (.seq (.reg [(.mk (some 23) none (.mov (.t 0))), (.mk (some 4) none (.mov (.t 23)))]) .ret) .skip)) .skip)))))))))) (.seq (.reg [(.mk (some 4) none (.mov (.k (.val (.int .i64 0)))))]) .ret))),
  [(.t 4)]⟩
theorem i71 : IsFun Tryz.prog 71 g71 := ⟨Tryz.f71, _, [], Tryz.func71, by kernel_rfl, rfl, by kernel_rfl, by kernel_rfl, rfl⟩
def g72 : GFun := ⟨⟨25, [2]⟩,
  (.seq (.reg [(.mk (some 1) none (.box 7 (.t 0))), (.mk (some 2) none (.allocr 7))]) (.seq (.reg [(.mk (some 5) none (.bslice 7 [] 0 true [])), (.mk (some 3) none (.mov (.t 5)))]) (.seq (.seq (.reg [(.mk (some 4) none
  (.mov (.k (.val (.int .i64 0)))))]) (.block 0 (.loop (.seq (.seq (.reg [(.mk (some 6) none (.mov (.t 4))), (.mk (some 7) none (.faddr 6 1 false (.t 1))), (.mk (some 8) none (.load 1 false (.t 7))), (.mk (some 9) none
  (.len (.t 8))), (.mk (some 10) none (.bin .lss (.t 6) (.t 9)))]) (.cond 10 .skip (.exit 0))) (.seq (.block 1 (.reg [(.mk (some 13) none (.mov (.t 3))), (.mk (some 14) none (.faddr 6 1 false (.t 1))), (.mk (some 15)
  none (.load 1 false (.t 14))), (.mk (some 16) none (.mov (.t 4))), (.mk (some 17) none (.iaddr 7 (.t 15) (.t 16))), (.mk (some 18) none (.load 7 true (.t 17))), (.mk (some 19) none (.call false 72 [(.t 18)])), (.mk
  (some 20) none (.bslice 7 [] 1 true [(0, (.t 19))])), (.mk (some 21) none (.append 7 88 (.t 13) (.t 20))), (.mk (some 3) none (.mov (.t 21)))])) (.reg [(.mk (some 11) none (.mov (.t 4))), (.mk (some 12) none (.bin
  .add (.t 11) (.k (.val (.int .i64 1))))), (.mk (some 4) none (.mov (.t 12)))])))))) (.seq (.reg [(.mk (some 22) none (.mov (.t 3))), (.mk (some 23) none (.faddr 6 1 false (.t 1))), (.mk none none (.store 1 (.t 23) (.t
  22)))]) (.seq (.reg [(.mk (some 24) none (.load 7 true (.t 1))), (.mk (some 2) none (.stro 7 2 (.t 24)))]) .ret))))),
  [(.c 2 7 true)]⟩
theorem i72 : IsFun Tryz.prog 72 g72 := ⟨Tryz.f72, _, [], Tryz.func72, by kernel_rfl, rfl, by kernel_rfl, by kernel_rfl, rfl⟩
def g73 : GFun := ⟨⟨17, [1,2]⟩,
  (.seq (.reg [(.mk (some 1) none (.boxro 4 (.t 0))), (.mk (some 2) none (.allocr 4))]) (.seq (.reg [(.mk (some 3) none (.alloc 4 (.agg [(.val (.string (ByteArray.mk #[]))), (.val (.int .i64 0)), (.val (.int .i64 0)),
  (.val (.bool false))])))]) (.seq (.reg [(.mk (some 4) none (.faddr 0 1 false (.t 1))), (.mk (some 5) none (.load 1 false (.t 4))), (.mk (some 6) none (.faddr 0 1 false (.t 3))), (.mk none none (.store 1 (.t 6) (.t
  5)))]) (.seq (.reg [(.mk (some 7) none (.faddr 1 1 false (.t 1))), (.mk (some 8) none (.load 1 false (.t 7))), (.mk (some 9) none (.faddr 1 1 false (.t 3))), (.mk none none (.store 1 (.t 9) (.t 8)))]) (.seq (.reg
  [(.mk (some 10) none (.faddr 2 1 false (.t 1))), (.mk (some 11) none (.load 1 false (.t 10))), (.mk (some 12) none (.faddr 2 1 false (.t 3))), (.mk none none (.store 1 (.t 12) (.t 11)))]) (.seq (.reg [(.mk (some 13)
  none (.faddr 3 1 false (.t 1))), (.mk (some 14) none (.load 1 false (.t 13))), (.mk (some 15) none (.faddr 3 1 false (.t 3))), (.mk none none (.store 1 (.t 15) (.t 14)))]) (.seq (.reg [(.mk (some 16) none (.load 4
  true (.t 3))), (.mk (some 2) none (.stro 4 2 (.t 16)))]) .ret))))))),
  [(.c 2 4 true)]⟩
theorem i73 : IsFun Tryz.prog 73 g73 := ⟨Tryz.f73, _, [], Tryz.func73, by kernel_rfl, rfl, by kernel_rfl, by kernel_rfl, rfl⟩
def g74 : GFun := ⟨⟨13, [1,2]⟩,
  (.seq (.reg [(.mk (some 1) none (.boxro 9 (.t 0))), (.mk (some 2) none (.allocr 9))]) (.seq (.reg [(.mk (some 3) none (.alloc 9 (.agg [(.val (.int .i64 0)), (.val (.string (ByteArray.mk #[]))), (.val (.int .i64 0)),
  (.val (.int .i64 0)), (.val (.int .i64 0)), (.val (.int .i64 0)), (.val (.string (ByteArray.mk #[]))), (.val (.string (ByteArray.mk #[]))), (.val (.slice none 0 0))])))]) (.seq (.reg [(.mk (some 4) none (.faddr 0 2
  true (.t 1))), (.mk (some 5) none (.load 2 true (.t 4))), (.mk (some 6) none (.call false 85 [(.t 5)])), (.mk (some 7) none (.faddr 0 2 true (.t 3))), (.mk none none (.store 2 (.t 7) (.t 6)))]) (.seq (.reg [(.mk (some
  8) none (.faddr 2 7 true (.t 1))), (.mk (some 9) none (.load 7 true (.t 8))), (.mk (some 10) none (.call false 86 [(.t 9)])), (.mk (some 11) none (.faddr 2 7 true (.t 3))), (.mk none none (.store 7 (.t 11) (.t 10)))])
  (.seq (.reg [(.mk (some 12) none (.load 9 true (.t 3))), (.mk (some 2) none (.stro 9 2 (.t 12)))]) .ret))))),
  [(.c 2 9 true)]⟩
theorem i74 : IsFun Tryz.prog 74 g74 := ⟨Tryz.f74, _, [], Tryz.func74, by kernel_rfl, rfl, by kernel_rfl, by kernel_rfl, rfl⟩
def g75 : GFun := ⟨⟨19, [1,2]⟩,
  (.seq (.reg [(.mk (some 1) none (.boxro 16 (.t 0))), (.mk (some 2) none (.allocr 16))]) (.seq (.reg [(.mk (some 3) none (.alloc 16 (.agg [(.val (.string (ByteArray.mk #[]))), (.val (.string (ByteArray.mk #[]))), (.val
  (.int .i64 0)), (.val (.int .i64 0)), (.val (.int .i64 0)), (.val (.int .i64 0)), (.val (.string (ByteArray.mk #[]))), (.val (.string (ByteArray.mk #[]))), (.val (.slice none 0 0)), (.val (.int .i64 0)), (.val (.int
  .i64 0)), (.val (.int .i64 0)), (.val (.int .i64 0)), (.val (.string (ByteArray.mk #[]))), (.val (.string (ByteArray.mk #[]))), (.val (.slice none 0 0))])))]) (.seq (.reg [(.mk (some 4) none (.faddr 0 1 false (.t
  1))), (.mk (some 5) none (.load 1 false (.t 4))), (.mk (some 6) none (.faddr 0 1 false (.t 3))), (.mk none none (.store 1 (.t 6) (.t 5)))]) (.seq (.reg [(.mk (some 7) none (.faddr 1 1 false (.t 1))), (.mk (some 8)
  none (.load 1 false (.t 7))), (.mk (some 9) none (.faddr 1 1 false (.t 3))), (.mk none none (.store 1 (.t 9) (.t 8)))]) (.seq (.reg [(.mk (some 10) none (.faddr 2 7 true (.t 1))), (.mk (some 11) none (.load 7 true (.t
  10))), (.mk (some 12) none (.call false 86 [(.t 11)])), (.mk (some 13) none (.faddr 2 7 true (.t 3))), (.mk none none (.store 7 (.t 13) (.t 12)))]) (.seq (.reg [(.mk (some 14) none (.faddr 9 7 true (.t 1))), (.mk
  (some 15) none (.load 7 true (.t 14))), (.mk (some 16) none (.call false 86 [(.t 15)])), (.mk (some 17) none (.faddr 9 7 true (.t 3))), (.mk none none (.store 7 (.t 17) (.t 16)))]) (.seq (.reg [(.mk (some 18) none
  (.load 16 true (.t 3))), (.mk (some 2) none (.stro 16 2 (.t 18)))]) .ret))))))),
  [(.c 2 16 true)]⟩
theorem i75 : IsFun Tryz.prog 75 g75 := ⟨Tryz.f75, _, [], Tryz.func75, by kernel_rfl, rfl, by kernel_rfl, by kernel_rfl, rfl⟩
def g76 : GFun := ⟨⟨19, []⟩,
  (.seq (.reg [(.mk (some 4) none (.mov (.k (.val (.int .i64 0)))))]) (.seq (.seq (.reg [(.mk (some 6) none (.mov (.t 0))), (.mk (some 7) none (.len (.t 6))), (.mk (some 8) none (.mov (.k (.val (.int .i64 0)))))])
  (.block 0 (.loop (.seq (.reg [(.mk (some 9) none (.bin .lss (.t 8) (.t 7)))]) (.seq (.cond 9 .skip (.exit 0)) (.seq (.block 1 (.seq (.reg [(.mk (some 10) none (.mov (.t 8))), (.mk (some 5) none (.mov (.t 10)))]) (.seq
  (.reg [(.mk (some 11) none (.mov (.t 1))), (.mk (some 12) none (.mov (.t 0))), (.mk (some 13) none (.mov (.t 5))), (.mk (some 14) none (.iaddr 6 (.t 12) (.t 13))), (.mk (some 15) none (.load 6 true (.t 14))), (.mk
  (some 16) none (.callv false (.t 11) [(.t 15)]))]) (.cond 16 (.seq (.reg [(.mk (some 17) none (.mov (.t 5))), (.mk (some 4) none (.mov (.t 17)))]) .ret) .skip)))) (.reg [(.mk (some 18) none (.bin .add (.t 8) (.k (.val
  (.int .i64 1))))), (.mk (some 8) none (.mov (.t 18)))]))))))) (.seq (.reg [(.mk (some 4) none (.mov (.k (.val (.int .i64 (-1))))))]) .ret))),
  [(.t 4)]⟩
theorem i76 : IsFun Tryz.prog 76 g76 := ⟨Tryz.f76, _, [], Tryz.func76, by kernel_rfl, rfl, by kernel_rfl, by kernel_rfl, rfl⟩
def g78 : GFun := ⟨⟨25, [2,3]⟩,
  (.seq (.reg [(.mk (some 2) none (.boxro 4 (.t 0))), (.mk (some 3) none (.boxro 4 (.t 1))), (.mk (some 4) none (.mov (.k (.val (.bool false)))))]) (.seq (.seq (.reg [(.mk (some 5) none (.faddr 0 1 false (.t 2))), (.mk
  (some 6) none (.load 1 false (.t 5))), (.mk (some 7) none (.faddr 0 1 false (.t 3))), (.mk (some 8) none (.load 1 false (.t 7))), (.mk (some 9) none (.bin .neq (.t 6) (.t 8)))]) (.cond 9 (.seq (.reg [(.mk (some 4)
  none (.mov (.k (.val (.bool false)))))]) .ret) .skip)) (.seq (.seq (.reg [(.mk (some 10) none (.faddr 1 1 false (.t 2))), (.mk (some 11) none (.load 1 false (.t 10))), (.mk (some 12) none (.faddr 1 1 false (.t 3))),
  (.mk (some 13) none (.load 1 false (.t 12))), (.mk (some 14) none (.bin .neq (.t 11) (.t 13)))]) (.cond 14 (.seq (.reg [(.mk (some 4) none (.mov (.k (.val (.bool false)))))]) .ret) .skip)) (.seq (.seq (.reg [(.mk
  (some 15) none (.faddr 2 1 false (.t 2))), (.mk (some 16) none (.load 1 false (.t 15))), (.mk (some 17) none (.faddr 2 1 false (.t 3))), (.mk (some 18) none (.load 1 false (.t 17))), (.mk (some 19) none (.bin .neq (.t
  16) (.t 18)))]) (.cond 19 (.seq (.reg [(.mk (some 4) none (.mov (.k (.val (.bool false)))))]) .ret) .skip)) (.seq (.seq (.reg [(.mk (some 20) none (.faddr 3 1 false (.t 2))), (.mk (some 21) none (.load 1 false (.t
  20))), (.mk (some 22) none (.faddr 3 1 false (.t 3))), (.mk (some 23) none (.load 1 false (.t 22))), (.mk (some 24) none (.beq true (.t 21) (.t 23)))]) (.cond 24 (.seq (.reg [(.mk (some 4) none (.mov (.k (.val (.bool
  false)))))]) .ret) .skip)) (.seq (.reg [(.mk (some 4) none (.mov (.k (.val (.bool true)))))]) .ret)))))),
  [(.t 4)]⟩
theorem i78 : IsFun Tryz.prog 78 g78 := ⟨Tryz.f78, _, [], Tryz.func78, by kernel_rfl, rfl, by kernel_rfl, by kernel_rfl, rfl⟩
def g79 : GFun := ⟨⟨17, [2,3]⟩,
  (.seq (.reg [(.mk (some 2) none (.boxro 9 (.t 0))), (.mk (some 3) none (.boxro 9 (.t 1))), (.mk (some 4) none (.mov (.k (.val (.bool false)))))]) (.seq (.seq (.reg [(.mk (some 5) none (.faddr 0 2 true (.t 2))), (.mk
  (some 6) none (.load 2 true (.t 5))), (.mk (some 7) none (.faddr 0 2 true (.t 3))), (.mk (some 8) none (.load 2 true (.t 7))), (.mk (some 9) none (.call false 88 [(.t 6), (.t 8)])), (.mk (some 10) none (.not (.t
  9)))]) (.cond 10 (.seq (.reg [(.mk (some 4) none (.mov (.k (.val (.bool false)))))]) .ret) .skip)) (.seq (.seq (.reg [(.mk (some 11) none (.faddr 2 7 true (.t 2))), (.mk (some 12) none (.load 7 true (.t 11))), (.mk
  (some 13) none (.faddr 2 7 true (.t 3))), (.mk (some 14) none (.load 7 true (.t 13))), (.mk (some 15) none (.call false 89 [(.t 12), (.t 14)])), (.mk (some 16) none (.not (.t 15)))]) (.cond 16 (.seq (.reg [(.mk (some
  4) none (.mov (.k (.val (.bool false)))))]) .ret) .skip)) (.seq (.reg [(.mk (some 4) none (.mov (.k (.val (.bool true)))))]) .ret)))),
  [(.t 4)]⟩
theorem i79 : IsFun Tryz.prog 79 g79 := ⟨Tryz.f79, _, [], Tryz.func79, by kernel_rfl, rfl, by kernel_rfl, by kernel_rfl, rfl⟩
def g80 : GFun := ⟨⟨27, [2,3]⟩,
  (.seq (.reg [(.mk (some 2) none (.boxro 16 (.t 0))), (.mk (some 3) none (.boxro 16 (.t 1))), (.mk (some 4) none (.mov (.k (.val (.bool false)))))]) (.seq (.seq (.reg [(.mk (some 5) none (.faddr 0 1 false (.t 2))),
  (.mk (some 6) none (.load 1 false (.t 5))), (.mk (some 7) none (.faddr 0 1 false (.t 3))), (.mk (some 8) none (.load 1 false (.t 7))), (.mk (some 9) none (.bin .neq (.t 6) (.t 8)))]) (.cond 9 (.seq (.reg [(.mk (some
  4) none (.mov (.k (.val (.bool false)))))]) .ret) .skip)) (.seq (.seq (.reg [(.mk (some 10) none (.faddr 1 1 false (.t 2))), (.mk (some 11) none (.load 1 false (.t 10))), (.mk (some 12) none (.faddr 1 1 false (.t
  3))), (.mk (some 13) none (.load 1 false (.t 12))), (.mk (some 14) none (.bin .neq (.t 11) (.t 13)))]) (.cond 14 (.seq (.reg [(.mk (some 4) none (.mov (.k (.val (.bool false)))))]) .ret) .skip)) (.seq (.seq (.reg
  [(.mk (some 15) none (.faddr 2 7 true (.t 2))), (.mk (some 16) none (.load 7 true (.t 15))), (.mk (some 17) none (.faddr 2 7 true (.t 3))), (.mk (some 18) none (.load 7 true (.t 17))), (.mk (some 19) none (.call false
  89 [(.t 16), (.t 18)])), (.mk (some 20) none (.not (.t 19)))]) (.cond 20 (.seq (.reg [(.mk (some 4) none (.mov (.k (.val (.bool false)))))]) .ret) .skip)) (.seq (.seq (.reg [(.mk (some 21) none (.faddr 9 7 true (.t
  2))), (.mk (some 22) none (.load 7 true (.t 21))), (.mk (some 23) none (.faddr 9 7 true (.t 3))), (.mk (some 24) none (.load 7 true (.t 23))), (.mk (some 25) none (.call false 89 [(.t 22), (.t 24)])), (.mk (some 26)
  none (.not (.t 25)))]) (.cond 26 (.seq (.reg [(.mk (some 4) none (.mov (.k (.val (.bool false)))))]) .ret) .skip)) (.seq (.reg [(.mk (some 4) none (.mov (.k (.val (.bool true)))))]) .ret)))))),
  [(.t 4)]⟩
theorem i80 : IsFun Tryz.prog 80 g80 := ⟨Tryz.f80, _, [], Tryz.func80, by kernel_rfl, rfl, by kernel_rfl, by kernel_rfl, rfl⟩
def g81 : GFun := ⟨⟨13, [2]⟩,
  (.seq (.reg [(.mk (some 2) none (.boxro 2 (.t 0))), (.mk (some 4) none (.mov (.k (.val (.int .i64 0)))))]) (.seq (.reg [(.mk (some 5) none (.mov (.t 1))), (.mk (some 6) none (.faddr 1 1 false (.t 2))), (.mk (some 7)
  none (.load 1 false (.t 6))), (.mk (some 8) none (.slen (.t 7))), (.mk (some 9) none (.bin .sub (.t 5) (.t 8))), (.mk (some 1) none (.mov (.t 9)))]) (.seq (.seq (.reg [(.mk (some 10) none (.mov (.t 1))), (.mk (some
  11) none (.bin .lss (.t 10) (.k (.val (.int .i64 0)))))]) (.cond 11 (.seq (.reg [(.mk (some 4) none (.mov (.k (.val (.int .i64 (-1))))))]) .ret) .skip)) (.seq (.reg [(.mk (some 12) none (.mov (.t 1))), (.mk (some 4)
  none (.mov (.t 12)))]) .ret)))),
  [(.t 4)]⟩
theorem i81 : IsFun Tryz.prog 81 g81 := ⟨Tryz.f81, _, [], Tryz.func81, by kernel_rfl, rfl, by kernel_rfl, by kernel_rfl, rfl⟩
def g82 : GFun := ⟨⟨26, [2]⟩,
  (.seq (.reg [(.mk (some 2) none (.boxro 7 (.t 0))), (.mk (some 4) none (.mov (.k (.val (.int .i64 0)))))]) (.seq (.reg [(.mk (some 5) none (.mov (.t 1))), (.mk (some 6) none (.faddr 4 1 false (.t 2))), (.mk (some 7)
  none (.load 1 false (.t 6))), (.mk (some 8) none (.slen (.t 7))), (.mk (some 9) none (.bin .sub (.t 5) (.t 8))), (.mk (some 1) none (.mov (.t 9)))]) (.seq (.seq (.reg [(.mk (some 10) none (.mov (.t 1))), (.mk (some
  11) none (.bin .lss (.t 10) (.k (.val (.int .i64 0)))))]) (.cond 11 (.seq (.reg [(.mk (some 4) none (.mov (.k (.val (.int .i64 (-1))))))]) .ret) .skip)) (.seq (.reg [(.mk (some 12) none (.mov (.t 1))), (.mk (some 13)
  none (.faddr 5 1 false (.t 2))), (.mk (some 14) none (.load 1 false (.t 13))), (.mk (some 15) none (.slen (.t 14))), (.mk (some 16) none (.bin .sub (.t 12) (.t 15))), (.mk (some 1) none (.mov (.t 16)))]) (.seq (.seq
  (.reg [(.mk (some 17) none (.mov (.t 1))), (.mk (some 18) none (.bin .lss (.t 17) (.k (.val (.int .i64 0)))))]) (.cond 18 (.seq (.reg [(.mk (some 4) none (.mov (.k (.val (.int .i64 (-1))))))]) .ret) .skip)) (.seq
  (.reg [(.mk (some 19) none (.faddr 6 1 false (.t 2))), (.mk (some 20) none (.load 1 false (.t 19))), (.mk (some 21) none (.mov (.t 1))), (.mk (some 22) none (.call false 90 [(.t 20), (.t 21)])), (.mk (some 1) none
  (.mov (.t 22)))]) (.seq (.seq (.reg [(.mk (some 23) none (.mov (.t 1))), (.mk (some 24) none (.bin .lss (.t 23) (.k (.val (.int .i64 0)))))]) (.cond 24 (.seq (.reg [(.mk (some 4) none (.mov (.k (.val (.int .i64
  (-1))))))]) .ret) .skip)) (.seq (.reg [(.mk (some 25) none (.mov (.t 1))), (.mk (some 4) none (.mov (.t 25)))]) .ret)))))))),
  [(.t 4)]⟩
theorem i82 : IsFun Tryz.prog 82 g82 := ⟨Tryz.f82, _, [], Tryz.func82, by kernel_rfl, rfl, by kernel_rfl, by kernel_rfl, rfl⟩
def g83 : GFun := ⟨⟨6, []⟩,
  (.seq (.reg [(.mk (some 2) none (.mov (.k (.val (.int .i64 0)))))]) (.seq (.reg [(.mk (some 3) none (.mov (.t 0))), (.mk (some 4) none (.call false 92 [(.k (.val (.int .i64 1000000))), (.t 3)])), (.mk (some 5) none
  (.call false 91 [(.k (.val (.int .i64 (-1000000)))), (.t 4)])), (.mk (some 2) none (.mov (.t 5)))]) .ret)),
  [(.t 2)]⟩
theorem i83 : IsFun Tryz.prog 83 g83 := ⟨Tryz.f83, _, [], Tryz.func83, by kernel_rfl, rfl, by kernel_rfl, by kernel_rfl, rfl⟩
def g84 : GFun := ⟨⟨4, []⟩,
  (.seq (.reg [(.mk (some 2) none (.mov (.k (.val (.int .i64 0)))))]) (.seq (.seq (.reg [(.mk (some 3) none (.mov (.t 0)))]) (.cond 3 (.seq (.reg [(.mk (some 2) none (.mov (.k (.val (.int .i64 1)))))]) .ret) .skip))
  (.seq (.reg [(.mk (some 2) none (.mov (.k (.val (.int .i64 0)))))]) .ret))),
  [(.t 2)]⟩
theorem i84 : IsFun Tryz.prog 84 g84 := ⟨Tryz.f84, _, [], Tryz.func84, by kernel_rfl, rfl, by kernel_rfl, by kernel_rfl, rfl⟩
def g85 : GFun := ⟨⟨11, [1,2]⟩,
  (.seq (.reg [(.mk (some 1) none (.boxro 2 (.t 0))), (.mk (some 2) none (.allocr 2))]) (.seq (.reg [(.mk (some 3) none (.alloc 2 (.agg [(.val (.int .i64 0)), (.val (.string (ByteArray.mk #[])))])))]) (.seq (.reg [(.mk
  (some 4) none (.faddr 0 1 false (.t 1))), (.mk (some 5) none (.load 1 false (.t 4))), (.mk (some 6) none (.faddr 0 1 false (.t 3))), (.mk none none (.store 1 (.t 6) (.t 5)))]) (.seq (.reg [(.mk (some 7) none (.faddr 1
  1 false (.t 1))), (.mk (some 8) none (.load 1 false (.t 7))), (.mk (some 9) none (.faddr 1 1 false (.t 3))), (.mk none none (.store 1 (.t 9) (.t 8)))]) (.seq (.reg [(.mk (some 10) none (.load 2 true (.t 3))), (.mk
  (some 2) none (.stro 2 2 (.t 10)))]) .ret))))),
  [(.c 2 2 true)]⟩
theorem i85 : IsFun Tryz.prog 85 g85 := ⟨Tryz.f85, _, [], Tryz.func85, by kernel_rfl, rfl, by kernel_rfl, by kernel_rfl, rfl⟩
def g86 : GFun := ⟨⟨27, [1,2]⟩,
  (.seq (.reg [(.mk (some 1) none (.boxro 7 (.t 0))), (.mk (some 2) none (.allocr 7))]) (.seq (.reg [(.mk (some 3) none (.alloc 7 (.agg [(.val (.int .i64 0)), (.val (.int .i64 0)), (.val (.int .i64 0)), (.val (.int .i64
  0)), (.val (.string (ByteArray.mk #[]))), (.val (.string (ByteArray.mk #[]))), (.val (.slice none 0 0))])))]) (.seq (.reg [(.mk (some 4) none (.faddr 0 1 false (.t 1))), (.mk (some 5) none (.load 1 false (.t 4))),
  (.mk (some 6) none (.faddr 0 1 false (.t 3))), (.mk none none (.store 1 (.t 6) (.t 5)))]) (.seq (.reg [(.mk (some 7) none (.faddr 1 1 false (.t 1))), (.mk (some 8) none (.load 1 false (.t 7))), (.mk (some 9) none
  (.faddr 1 1 false (.t 3))), (.mk none none (.store 1 (.t 9) (.t 8)))]) (.seq (.reg [(.mk (some 10) none (.faddr 2 1 false (.t 1))), (.mk (some 11) none (.load 1 false (.t 10))), (.mk (some 12) none (.faddr 2 1 false
  (.t 3))), (.mk none none (.store 1 (.t 12) (.t 11)))]) (.seq (.reg [(.mk (some 13) none (.faddr 3 1 false (.t 1))), (.mk (some 14) none (.load 1 false (.t 13))), (.mk (some 15) none (.faddr 3 1 false (.t 3))), (.mk
  none none (.store 1 (.t 15) (.t 14)))]) (.seq (.reg [(.mk (some 16) none (.faddr 4 1 false (.t 1))), (.mk (some 17) none (.load 1 false (.t 16))), (.mk (some 18) none (.faddr 4 1 false (.t 3))), (.mk none none (.store
  1 (.t 18) (.t 17)))]) (.seq (.reg [(.mk (some 19) none (.faddr 5 1 false (.t 1))), (.mk (some 20) none (.load 1 false (.t 19))), (.mk (some 21) none (.faddr 5 1 false (.t 3))), (.mk none none (.store 1 (.t 21) (.t
  20)))]) (.seq (.reg [(.mk (some 22) none (.faddr 6 1 false (.t 1))), (.mk (some 23) none (.load 1 false (.t 22))), (.mk (some 24) none (.call false 93 [(.t 23)])), (.mk (some 25) none (.faddr 6 1 false (.t 3))), (.mk
  none none (.store 1 (.t 25) (.t 24)))]) (.seq (.reg [(.mk (some 26) none (.load 7 true (.t 3))), (.mk (some 2) none (.stro 7 2 (.t 26)))]) .ret)))))))))),
  [(.c 2 7 true)]⟩
theorem i86 : IsFun Tryz.prog 86 g86 := ⟨Tryz.f86, _, [], Tryz.func86, by kernel_rfl, rfl, by kernel_rfl, by kernel_rfl, rfl⟩
def g88 : GFun := ⟨⟨15, [2,3]⟩,
  (.seq (.reg [(.mk (some 2) none (.boxro 2 (.t 0))), (.mk (some 3) none (.boxro 2 (.t 1))), (.mk (some 4) none (.mov (.k (.val (.bool false)))))]) (.seq (.seq (.reg [(.mk (some 5) none (.faddr 0 1 false (.t 2))), (.mk
  (some 6) none (.load 1 false (.t 5))), (.mk (some 7) none (.faddr 0 1 false (.t 3))), (.mk (some 8) none (.load 1 false (.t 7))), (.mk (some 9) none (.bin .neq (.t 6) (.t 8)))]) (.cond 9 (.seq (.reg [(.mk (some 4)
  none (.mov (.k (.val (.bool false)))))]) .ret) .skip)) (.seq (.seq (.reg [(.mk (some 10) none (.faddr 1 1 false (.t 2))), (.mk (some 11) none (.load 1 false (.t 10))), (.mk (some 12) none (.faddr 1 1 false (.t 3))),
  (.mk (some 13) none (.load 1 false (.t 12))), (.mk (some 14) none (.bin .neq (.t 11) (.t 13)))]) (.cond 14 (.seq (.reg [(.mk (some 4) none (.mov (.k (.val (.bool false)))))]) .ret) .skip)) (.seq (.reg [(.mk (some 4)
  none (.mov (.k (.val (.bool true)))))]) .ret)))),
  [(.t 4)]⟩
theorem i88 : IsFun Tryz.prog 88 g88 := ⟨Tryz.f88, _, [], Tryz.func88, by kernel_rfl, rfl, by kernel_rfl, by kernel_rfl, rfl⟩
def g89 : GFun := ⟨⟨41, [2,3]⟩,
  (.seq (.reg [(.mk (some 2) none (.boxro 7 (.t 0))), (.mk (some 3) none (.boxro 7 (.t 1))), (.mk (some 4) none (.mov (.k (.val (.bool false)))))]) (.seq (.seq (.reg [(.mk (some 5) none (.faddr 0 1 false (.t 2))), (.mk
  (some 6) none (.load 1 false (.t 5))), (.mk (some 7) none (.faddr 0 1 false (.t 3))), (.mk (some 8) none (.load 1 false (.t 7))), (.mk (some 9) none (.bin .neq (.t 6) (.t 8)))]) (.cond 9 (.seq (.reg [(.mk (some 4)
  none (.mov (.k (.val (.bool false)))))]) .ret) .skip)) (.seq (.seq (.reg [(.mk (some 10) none (.faddr 1 1 false (.t 2))), (.mk (some 11) none (.load 1 false (.t 10))), (.mk (some 12) none (.faddr 1 1 false (.t 3))),
  (.mk (some 13) none (.load 1 false (.t 12))), (.mk (some 14) none (.bin .neq (.t 11) (.t 13)))]) (.cond 14 (.seq (.reg [(.mk (some 4) none (.mov (.k (.val (.bool false)))))]) .ret) .skip)) (.seq (.seq (.reg [(.mk
  (some 15) none (.faddr 2 1 false (.t 2))), (.mk (some 16) none (.load 1 false (.t 15))), (.mk (some 17) none (.faddr 2 1 false (.t 3))), (.mk (some 18) none (.load 1 false (.t 17))), (.mk (some 19) none (.bin .neq (.t
  16) (.t 18)))]) (.cond 19 (.seq (.reg [(.mk (some 4) none (.mov (.k (.val (.bool false)))))]) .ret) .skip)) (.seq (.seq (.reg [(.mk (some 20) none (.faddr 3 1 false (.t 2))), (.mk (some 21) none (.load 1 false (.t
  20))), (.mk (some 22) none (.faddr 3 1 false (.t 3))), (.mk (some 23) none (.load 1 false (.t 22))), (.mk (some 24) none (.bin .neq (.t 21) (.t 23)))]) (.cond 24 (.seq (.reg [(.mk (some 4) none (.mov (.k (.val (.bool
  false)))))]) .ret) .skip)) (.seq (.seq (.reg [(.mk (some 25) none (.faddr 4 1 false (.t 2))), (.mk (some 26) none (.load 1 false (.t 25))), (.mk (some 27) none (.faddr 4 1 false (.t 3))), (.mk (some 28) none (.load 1
  false (.t 27))), (.mk (some 29) none (.bin .neq (.t 26) (.t 28)))]) (.cond 29 (.seq (.reg [(.mk (some 4) none (.mov (.k (.val (.bool false)))))]) .ret) .skip)) (.seq (.seq (.reg [(.mk (some 30) none (.faddr 5 1 false
  (.t 2))), (.mk (some 31) none (.load 1 false (.t 30))), (.mk (some 32) none (.faddr 5 1 false (.t 3))), (.mk (some 33) none (.load 1 false (.t 32))), (.mk (some 34) none (.bin .neq (.t 31) (.t 33)))]) (.cond 34 (.seq
  (.reg [(.mk (some 4) none (.mov (.k (.val (.bool false)))))]) .ret) .skip)) (.seq (.seq (.reg [(.mk (some 35) none (.faddr 6 1 false (.t 2))), (.mk (some 36) none (.load 1 false (.t 35))), (.mk (some 37) none (.faddr
  6 1 false (.t 3))), (.mk (some 38) none (.load 1 false (.t 37))), (.mk (some 39) none (.call false 98 [(.t 36), (.t 38)])), (.mk (some 40) none (.not (.t 39)))]) (.cond 40 (.seq (.reg [(.mk (some 4) none (.mov (.k
  (.val (.bool false)))))]) .ret) .skip)) (.seq (.reg [(.mk (some 4) none (.mov (.k (.val (.bool true)))))]) .ret))))))))),
  [(.t 4)]⟩
theorem i89 : IsFun Tryz.prog 89 g89 := ⟨Tryz.f89, _, [], Tryz.func89, by kernel_rfl, rfl, by kernel_rfl, by kernel_rfl, rfl⟩
def g90 : GFun := ⟨⟨27, []⟩,
  (.seq (.reg [(.mk (some 4) none (.mov (.k (.val (.int .i64 0)))))]) (.seq (.reg [(.mk (some 6) none (.mov (.t 1))), (.mk (some 7) none (.mov (.t 0))), (.mk (some 8) none (.len (.t 7))), (.mk (some 9) none (.bin .sub
  (.t 6) (.t 8))), (.mk (some 1) none (.mov (.t 9)))]) (.seq (.seq (.reg [(.mk (some 10) none (.mov (.t 1))), (.mk (some 11) none (.bin .lss (.t 10) (.k (.val (.int .i64 0)))))]) (.cond 11 (.seq (.reg [(.mk (some 4)
  none (.mov (.k (.val (.int .i64 (-1))))))]) .ret) .skip)) (.seq (.seq (.reg [(.mk (some 5) none (.mov (.k (.val (.int .i64 0)))))]) (.block 0 (.loop (.seq (.seq (.reg [(.mk (some 12) none (.mov (.t 5))), (.mk (some
  13) none (.mov (.t 0))), (.mk (some 14) none (.len (.t 13))), (.mk (some 15) none (.bin .lss (.t 12) (.t 14)))]) (.cond 15 .skip (.exit 0))) (.seq (.block 1 (.seq (.reg [(.mk (some 18) none (.mov (.t 0))), (.mk (some
  19) none (.mov (.t 5))), (.mk (some 20) none (.iaddr 7 (.t 18) (.t 19))), (.mk (some 21) none (.load 7 true (.t 20))), (.mk (some 22) none (.mov (.t 1))), (.mk (some 23) none (.call false 82 [(.t 21), (.t 22)])), (.mk
  (some 1) none (.mov (.t 23)))]) (.seq (.reg [(.mk (some 24) none (.mov (.t 1))), (.mk (some 25) none (.bin .lss (.t 24) (.k (.val (.int .i64 0)))))]) (.cond 25 (.seq (.reg [(.mk (some 4) none (.mov (.k (.val (.int
  .i64 (-1))))))]) .ret) .skip)))) (.reg [(.mk (some 16) none (.mov (.t 5))), (.mk (some 17) none (.bin .add (.t 16) (.k (.val (.int .i64 1))))), (.mk (some 5) none (.mov (.t 17)))])))))) (.seq (.reg [(.mk (some 26)
  none (.mov (.t 1))), (.mk (some 4) none (.mov (.t 26)))]) .ret))))),
  [(.t 4)]⟩
theorem i90 : IsFun Tryz.prog 90 g90 := ⟨Tryz.f90, _, [], Tryz.func90, by kernel_rfl, rfl, by kernel_rfl, by kernel_rfl, rfl⟩
def g91 : GFun := ⟨⟨10, []⟩,
  (.seq (.reg [(.mk (some 4) none (.mov (.k (.val (.int .i64 0)))))]) (.seq (.seq (.reg [(.mk (some 5) none (.mov (.t 0))), (.mk (some 6) none (.mov (.t 1))), (.mk (some 7) none (.bin .gtr (.t 5) (.t 6)))]) (.cond 7
  (.seq (.reg [(.mk (some 8) none (.mov (.t 0))), (.mk (some 4) none (.mov (.t 8)))]) .ret) .skip)) (.seq (.reg [(.mk (some 9) none (.mov (.t 1))), (.mk (some 4) none (.mov (.t 9)))]) .ret))),
  [(.t 4)]⟩
theorem i91 : IsFun Tryz.prog 91 g91 := ⟨Tryz.f91, _, [], Tryz.func91, by kernel_rfl, rfl, by kernel_rfl, by kernel_rfl, rfl⟩
def g92 : GFun := ⟨⟨10, []⟩,
  (.seq (.reg [(.mk (some 4) none (.mov (.k (.val (.int .i64 0)))))]) (.seq (.seq (.reg [(.mk (some 5) none (.mov (.t 0))), (.mk (some 6) none (.mov (.t 1))), (.mk (some 7) none (.bin .lss (.t 5) (.t 6)))]) (.cond 7
  (.seq (.reg [(.mk (some 8) none (.mov (.t 0))), (.mk (some 4) none (.mov (.t 8)))]) .ret) .skip)) (.seq (.reg [(.mk (some 9) none (.mov (.t 1))), (.mk (some 4) none (.mov (.t 9)))]) .ret))),
  [(.t 4)]⟩
theorem i92 : IsFun Tryz.prog 92 g92 := ⟨Tryz.f92, _, [], Tryz.func92, by kernel_rfl, rfl, by kernel_rfl, by kernel_rfl, rfl⟩
def g93 : GFun := ⟨⟨23, []⟩,
  (.seq (.reg [(.mk (some 2) none (.mov (.k (.val (.slice none 0 0)))))]) (.seq (.reg [(.mk (some 5) none (.mov (.t 0))), (.mk (some 6) none (.len (.t 5))), (.mk (some 7) none (.mkslice 7 88 (.agg [(.val (.int .i64 0)),
  (.val (.int .i64 0)), (.val (.int .i64 0)), (.val (.int .i64 0)), (.val (.string (ByteArray.mk #[]))), (.val (.string (ByteArray.mk #[]))), (.val (.slice none 0 0))]) (.t 6) (.t 6))), (.mk (some 3) none (.mov (.t
  7)))]) (.seq (.seq (.reg [(.mk (some 4) none (.mov (.k (.val (.int .i64 0)))))]) (.block 0 (.loop (.seq (.seq (.reg [(.mk (some 8) none (.mov (.t 4))), (.mk (some 9) none (.mov (.t 0))), (.mk (some 10) none (.len (.t
  9))), (.mk (some 11) none (.bin .lss (.t 8) (.t 10)))]) (.cond 11 .skip (.exit 0))) (.seq (.block 1 (.reg [(.mk (some 14) none (.mov (.t 3))), (.mk (some 15) none (.mov (.t 4))), (.mk (some 16) none (.mov (.t 0))),
  (.mk (some 17) none (.mov (.t 4))), (.mk (some 18) none (.iaddr 7 (.t 16) (.t 17))), (.mk (some 19) none (.load 7 true (.t 18))), (.mk (some 20) none (.call false 86 [(.t 19)])), (.mk (some 21) none (.iaddr 7 (.t 14)
  (.t 15))), (.mk none none (.store 7 (.t 21) (.t 20)))])) (.reg [(.mk (some 12) none (.mov (.t 4))), (.mk (some 13) none (.bin .add (.t 12) (.k (.val (.int .i64 1))))), (.mk (some 4) none (.mov (.t 13)))])))))) (.seq
  (.reg [(.mk (some 22) none (.mov (.t 3))), (.mk (some 2) none (.mov (.t 22)))]) .ret)))),
  [(.t 2)]⟩
theorem i93 : IsFun Tryz.prog 93 g93 := ⟨Tryz.f93, _, [], Tryz.func93, by kernel_rfl, rfl, by kernel_rfl, by kernel_rfl, rfl⟩
def g98 : GFun := ⟨⟨27, []⟩,
  (.seq (.reg [(.mk (some 4) none (.mov (.k (.val (.bool false)))))]) (.seq (.seq (.reg [(.mk (some 6) none (.mov (.t 0))), (.mk (some 7) none (.len (.t 6))), (.mk (some 8) none (.mov (.t 1))), (.mk (some 9) none (.len
  (.t 8))), (.mk (some 10) none (.bin .neq (.t 7) (.t 9)))]) (.cond 10 (.seq (.reg [(.mk (some 4) none (.mov (.k (.val (.bool false)))))]) .ret) .skip)) (.seq (.seq (.reg [(.mk (some 5) none (.mov (.k (.val (.int .i64
  0)))))]) (.block 0 (.loop (.seq (.seq (.reg [(.mk (some 11) none (.mov (.t 5))), (.mk (some 12) none (.mov (.t 0))), (.mk (some 13) none (.len (.t 12))), (.mk (some 14) none (.bin .lss (.t 11) (.t 13)))]) (.cond 14
  .skip (.exit 0))) (.seq (.block 1 (.seq (.reg [(.mk (some 17) none (.mov (.t 0))), (.mk (some 18) none (.mov (.t 5))), (.mk (some 19) none (.iaddr 7 (.t 17) (.t 18))), (.mk (some 21) none (.mov (.t 1))), (.mk (some
  22) none (.mov (.t 5))), (.mk (some 23) none (.iaddr 7 (.t 21) (.t 22))), (.mk (some 20) none (.load 7 true (.t 19))), (.mk (some 24) none (.load 7 true (.t 23))), (.mk (some 25) none (.call true 89 [(.t 20), (.t
  24)])), (.mk (some 26) none (.not (.t 25)))]) (.cond 26 (.seq (.reg [(.mk (some 4) none (.mov (.k (.val (.bool false)))))]) .ret) .skip))) (.reg [(.mk (some 15) none (.mov (.t 5))), (.mk (some 16) none (.bin .add (.t
  15) (.k (.val (.int .i64 1))))), (.mk (some 5) none (.mov (.t 16)))])))))) (.seq (.reg [(.mk (some 4) none (.mov (.k (.val (.bool true)))))]) .ret)))),
  [(.t 4)]⟩
theorem i98 : IsFun Tryz.prog 98 g98 := ⟨Tryz.f98, _, [], Tryz.func98, by kernel_rfl, rfl, by kernel_rfl, by kernel_rfl, rfl⟩
end Go.Proofs.YtbdmpkidcpblaaaGreatDoor

namespace Go.Proofs.YtbdmpkidcpblaaaGreatDoor
open Go.Gh
set_option maxRecDepth 20000
set_option linter.unusedSimpArgs false
set_option linter.unusedVariables false
theorem mxd : Tryz.prog.follows .mixedOrders = true := Checked.mixed Tryz.checked
end Go.Proofs.YtbdmpkidcpblaaaGreatDoor

namespace Go.Proofs.YtbdmpkidcpblaaaGreatDoor
open Go.Gh
set_option maxRecDepth 20000
set_option linter.unusedSimpArgs false
set_option linter.unusedVariables false
theorem w48 (xs : List Int) (left : Int) (h0 : 0 ≤ left) (h1 : left ≤ 1048576) : Pure Tryz.prog 48 [IS xs, I left] (· = I (szv left xs.length)) := by
  refine GCalls.lenA fun hl => ?_
  have hl := hl.1.1
  simp only [List.length_map, maxL] at hl
  refine gstart mxd i48 rfl (by simp) ?_; simp (maxSteps := 2000000) only [↓ S2, S2, vIte, ↓reduceIte, Int.reduceNe, Nat.reduceEqDiff, reduceCtorEq, Nat.reduceLeDiff, Nat.reduceAdd, Nat.reduceLT]
  ((try simp (maxSteps := 2000000) only [↓ S2, S2, vIte, ↓reduceIte, Int.reduceNe, Nat.reduceEqDiff, reduceCtorEq, Nat.reduceLeDiff, Nat.reduceAdd, Nat.reduceLT]); (repeat (simp only [brGen]; try simp (maxSteps := 2000000) only [↓ S2, S2, vIte, ↓reduceIte, Int.reduceNe, Nat.reduceEqDiff, reduceCtorEq, Nat.reduceLeDiff, Nat.reduceAdd, Nat.reduceLT])); (try simp +contextual (disch := omega) only [Z2]); (repeat' (first | (with_reducible intro h) | (with_reducible refine And.intro (by omega) ?_) | (with_reducible refine exP (by omega) ?_) | (with_reducible apply And.intro)))) <;> (congr 2; simp only [szv]; omega)
theorem w28 (x : Nod) (left : Int) (h0 : 0 ≤ left) (h1 : left ≤ 1048576) (hx : x.rule.size ≤ maxLen) : Pure Tryz.prog 28 [Nd x, I left] (· = I (szv left (wNd x))) := by
  simp only [maxLen, size_chars] at hx
  refine gstart mxd i28 rfl (by simp) ?_; simp (maxSteps := 2000000) only [↓ S2, S2, vIte, ↓reduceIte, Int.reduceNe, Nat.reduceEqDiff, reduceCtorEq, Nat.reduceLeDiff, Nat.reduceAdd, Nat.reduceLT]
  ((try simp (maxSteps := 2000000) only [↓ S2, S2, vIte, ↓reduceIte, Int.reduceNe, Nat.reduceEqDiff, reduceCtorEq, Nat.reduceLeDiff, Nat.reduceAdd, Nat.reduceLT]); (repeat (simp only [brGen]; try simp (maxSteps := 2000000) only [↓ S2, S2, vIte, ↓reduceIte, Int.reduceNe, Nat.reduceEqDiff, reduceCtorEq, Nat.reduceLeDiff, Nat.reduceAdd, Nat.reduceLT])); (try simp +contextual (disch := omega) only [Z2]); (repeat' (first | (with_reducible intro h) | (with_reducible refine And.intro (by omega) ?_) | (with_reducible refine exP (by omega) ?_) | (with_reducible apply And.intro))))
  · congr 2; simp only [szv, wNd]; omega
  refine callS.eq (w48 _ _ (by omega) (by omega)) ?_
  ((try simp (maxSteps := 2000000) only [↓ S2, S2, vIte, ↓reduceIte, Int.reduceNe, Nat.reduceEqDiff, reduceCtorEq, Nat.reduceLeDiff, Nat.reduceAdd, Nat.reduceLT]); (repeat (simp only [brGen]; try simp (maxSteps := 2000000) only [↓ S2, S2, vIte, ↓reduceIte, Int.reduceNe, Nat.reduceEqDiff, reduceCtorEq, Nat.reduceLeDiff, Nat.reduceAdd, Nat.reduceLT])); (try simp +contextual (disch := omega) only [Z2]); (repeat' (first | (with_reducible intro h) | (with_reducible refine And.intro (by omega) ?_) | (with_reducible refine exP (by omega) ?_) | (with_reducible apply And.intro)))) <;> (congr 2; simp only [szv, wNd] at *; omega)
theorem w14 (xs : List Nod) (left : Int) (h0 : 0 ≤ left) (h1 : left ≤ 1048576) (hx : ∀ x ∈ xs, x.rule.size ≤ maxLen) : Pure Tryz.prog 14 [NdS xs, I left] (· = I (szv left (wtS wNd xs))) :=
  szS mxd wNd i14 (fun _ => rfl) (fun _ => rfl) xs left h0 h1 fun x hm l a b => w28 x l a b (hx x hm)
theorem w5 (t : List Nod) (left : Int) (h0 : 0 ≤ left) (h1 : left ≤ 1048576) (hx : ∀ x ∈ t, x.rule.size ≤ maxLen) : Pure Tryz.prog 5 [Tr t, I left] (· = I (szv left (wtS wNd t))) := by
  refine gstart mxd i5 rfl (by simp) ?_; simp (maxSteps := 2000000) only [↓ S2, S2, vIte, ↓reduceIte, Int.reduceNe, Nat.reduceEqDiff, reduceCtorEq, Nat.reduceLeDiff, Nat.reduceAdd, Nat.reduceLT]
  refine callS.eq (w14 _ _ (by omega) (by omega) hx) ?_
  ((try simp (maxSteps := 2000000) only [↓ S2, S2, vIte, ↓reduceIte, Int.reduceNe, Nat.reduceEqDiff, reduceCtorEq, Nat.reduceLeDiff, Nat.reduceAdd, Nat.reduceLT]); (repeat (simp only [brGen]; try simp (maxSteps := 2000000) only [↓ S2, S2, vIte, ↓reduceIte, Int.reduceNe, Nat.reduceEqDiff, reduceCtorEq, Nat.reduceLeDiff, Nat.reduceAdd, Nat.reduceLT])); (try simp +contextual (disch := omega) only [Z2]); (repeat' (first | (with_reducible intro h) | (with_reducible refine And.intro (by omega) ?_) | (with_reducible refine exP (by omega) ?_) | (with_reducible apply And.intro)))) <;> (congr 2; simp only [szv] at *; omega)
theorem o56 (xs : List Int) (hx : xs.length ≤ 1048576) (H : GH) : GCalls Tryz.prog 56 [IS xs] H (fun g H' => ∃ r, g = .own r 1 0 xs.length ∧ H' = (r, 1, xs.map I) :: H) := by
  refine gstart mxd i56 rfl (by simp) ?_; simp (maxSteps := 2000000) only [↓ S2, S2, vIte, ↓reduceIte, Int.reduceNe, Nat.reduceEqDiff, reduceCtorEq, Nat.reduceLeDiff, Nat.reduceAdd, Nat.reduceLT]
  refine ⟨by omega, by omega, by omega, by omega, fun r hr => ?_⟩
  refine wloop mxd (ι := { i : Nat // i ≤ xs.length }) (fun i => [(0, IS xs), (3, .own r 1 0 xs.length), (4, I i.1)]) (fun i => (r, 1, (xs.take i.1 ++ List.replicate (xs.length - i.1) 0).map I) :: H) (fun i => xs.length - i.1) ⟨0, by simp⟩ (by simp [E2]) (by simp) ?_
  rintro ⟨i, hi⟩
  ((try simp (maxSteps := 2000000) only [↓ S2, S2, vIte, ↓reduceIte, Int.reduceNe, Nat.reduceEqDiff, reduceCtorEq, Nat.reduceLeDiff, Nat.reduceAdd, Nat.reduceLT]); (repeat (simp only [brGen]; try simp (maxSteps := 2000000) only [↓ S2, S2, vIte, ↓reduceIte, Int.reduceNe, Nat.reduceEqDiff, reduceCtorEq, Nat.reduceLeDiff, Nat.reduceAdd, Nat.reduceLT])); (try simp +contextual (disch := omega) only [Z2]); (repeat' (first | (with_reducible intro h) | (with_reducible refine And.intro (by omega) ?_) | (with_reducible refine exP (by omega) ?_) | (with_reducible apply And.intro))))
  · refine ⟨by simp; omega, nx ⟨i + 1, by omega⟩ (by simp; omega) (by simp [E2]) ?_⟩
    have e := fill_set xs id 0 i (by omega)
    simp only [List.map_id, id_eq] at e
    rw [← e]
  · have : i = xs.length := by omega
    subst this
    exact ⟨r, rfl, by simp⟩
theorem w56 (xs : List Int) (hx : xs.length ≤ 1048576) : Pure Tryz.prog 56 [IS xs] (· = IS xs) := by
  refine (o56 xs hx []).fr ?_
  rintro g H' ⟨r, rfl, rfl⟩
  exact ⟨_, _, FR.freeze hget_new (.all hget_new (by simp) (by simp [view])), rfl⟩
theorem w36 (x : Nod) (hx : x.kids.length ≤ 1048576) : Pure Tryz.prog 36 [Nd x] (· = Nd x) := by
  refine gstart mxd i36 rfl (by simp) ?_; simp (maxSteps := 2000000) only [↓ S2, S2, vIte, ↓reduceIte, Int.reduceNe, Nat.reduceEqDiff, reduceCtorEq, Nat.reduceLeDiff, Nat.reduceAdd, Nat.reduceLT]
  intro r hr
  refine callS.eq (w56 _ hx) ?_
  ((try simp (maxSteps := 2000000) only [↓ S2, S2, vIte, ↓reduceIte, Int.reduceNe, Nat.reduceEqDiff, reduceCtorEq, Nat.reduceLeDiff, Nat.reduceAdd, Nat.reduceLT]); (repeat (simp only [brGen]; try simp (maxSteps := 2000000) only [↓ S2, S2, vIte, ↓reduceIte, Int.reduceNe, Nat.reduceEqDiff, reduceCtorEq, Nat.reduceLeDiff, Nat.reduceAdd, Nat.reduceLT])); (try simp +contextual (disch := omega) only [Z2]); (repeat' (first | (with_reducible intro h) | (with_reducible refine And.intro (by omega) ?_) | (with_reducible refine exP (by omega) ?_) | (with_reducible apply And.intro))))
theorem w20 (xs : List Nod) (hl : xs.length ≤ 1048576) (hx : ∀ x ∈ xs, x.kids.length ≤ 1048576) : Pure Tryz.prog 20 [NdS xs] (· = NdS xs) :=
  freezeS (fun _ => rfl) fun H => toSo mxd i20 (fun _ => rfl) (fun _ => rfl) (fun _ => rfl) (fun _ => rfl) xs hl (by decide) (fun x hm => w36 x (hx x hm)) H
theorem w8 (t : List Nod) (hl : t.length ≤ 1048576) (hx : ∀ x ∈ t, x.kids.length ≤ 1048576) : Pure Tryz.prog 8 [Tr t] (· = Tr t) := by
  refine gstart mxd i8 rfl (by simp) ?_; simp (maxSteps := 2000000) only [↓ S2, S2, vIte, ↓reduceIte, Int.reduceNe, Nat.reduceEqDiff, reduceCtorEq, Nat.reduceLeDiff, Nat.reduceAdd, Nat.reduceLT]
  intro r hr
  refine callS.eq (w20 _ hl hx) ?_
  ((try simp (maxSteps := 2000000) only [↓ S2, S2, vIte, ↓reduceIte, Int.reduceNe, Nat.reduceEqDiff, reduceCtorEq, Nat.reduceLeDiff, Nat.reduceAdd, Nat.reduceLT]); (repeat (simp only [brGen]; try simp (maxSteps := 2000000) only [↓ S2, S2, vIte, ↓reduceIte, Int.reduceNe, Nat.reduceEqDiff, reduceCtorEq, Nat.reduceLeDiff, Nat.reduceAdd, Nat.reduceLT])); (try simp +contextual (disch := omega) only [Z2]); (repeat' (first | (with_reducible intro h) | (with_reducible refine And.intro (by omega) ?_) | (with_reducible refine exP (by omega) ?_) | (with_reducible apply And.intro))))
theorem w67 (xs ys : List Int) : Pure Tryz.prog 67 [IS xs, IS ys] (· = B (decide (xs = ys))) := by
  refine GCalls.lenA fun hl => ?_
  have hl := hl.1.1
  simp only [List.length_map, maxL] at hl
  refine gstart mxd i67 rfl (by simp) ?_; simp (maxSteps := 2000000) only [↓ S2, S2, vIte, ↓reduceIte, Int.reduceNe, Nat.reduceEqDiff, reduceCtorEq, Nat.reduceLeDiff, Nat.reduceAdd, Nat.reduceLT]
  ((try simp (maxSteps := 2000000) only [↓ S2, S2, vIte, ↓reduceIte, Int.reduceNe, Nat.reduceEqDiff, reduceCtorEq, Nat.reduceLeDiff, Nat.reduceAdd, Nat.reduceLT]); (repeat (simp only [brGen]; try simp (maxSteps := 2000000) only [↓ S2, S2, vIte, ↓reduceIte, Int.reduceNe, Nat.reduceEqDiff, reduceCtorEq, Nat.reduceLeDiff, Nat.reduceAdd, Nat.reduceLT])); (try simp +contextual (disch := omega) only [Z2]); (repeat' (first | (with_reducible intro h) | (with_reducible refine And.intro (by omega) ?_) | (with_reducible refine exP (by omega) ?_) | (with_reducible apply And.intro))))
  rotate_left
  · simp; rintro rfl; exact h rfl
  refine wloop mxd (ι := { i : Nat // i ≤ xs.length ∧ xs.take i = ys.take i }) (fun i => [(0, IS xs), (1, IS ys), (5, I i.1)]) (fun _ => []) (fun i => xs.length - i.1) ⟨0, by simp⟩ (by simp [E2]) rfl ?_
  rintro ⟨i, hi, hp⟩
  ((try simp (maxSteps := 2000000) only [↓ S2, S2, vIte, ↓reduceIte, Int.reduceNe, Nat.reduceEqDiff, reduceCtorEq, Nat.reduceLeDiff, Nat.reduceAdd, Nat.reduceLT]); (repeat (simp only [brGen]; try simp (maxSteps := 2000000) only [↓ S2, S2, vIte, ↓reduceIte, Int.reduceNe, Nat.reduceEqDiff, reduceCtorEq, Nat.reduceLeDiff, Nat.reduceAdd, Nat.reduceLT])); (try simp +contextual (disch := omega) only [Z2]); (repeat' (first | (with_reducible intro h) | (with_reducible refine And.intro (by omega) ?_) | (with_reducible refine exP (by omega) ?_) | (with_reducible apply And.intro))))
  · exact nx ⟨i + 1, by omega, take_eq_step hp (by omega) (by omega) h⟩ (by simp; omega) (by simp [E2]) rfl
  · simp; rintro rfl; simp at h
  · have : i = xs.length := by omega
    subst this
    rw [List.take_of_length_le (by omega), List.take_of_length_le (by omega)] at hp
    simp [hp]
theorem w43 (x y : Nod) : Pure Tryz.prog 43 [Nd x, Nd y] (· = B (decide (x = y))) := by
  refine gstart mxd i43 rfl (by simp) ?_; simp (maxSteps := 2000000) only [↓ S2, S2, vIte, ↓reduceIte, Int.reduceNe, Nat.reduceEqDiff, reduceCtorEq, Nat.reduceLeDiff, Nat.reduceAdd, Nat.reduceLT]
  ((try simp (maxSteps := 2000000) only [↓ S2, S2, vIte, ↓reduceIte, Int.reduceNe, Nat.reduceEqDiff, reduceCtorEq, Nat.reduceLeDiff, Nat.reduceAdd, Nat.reduceLT]); (repeat (simp only [brGen]; try simp (maxSteps := 2000000) only [↓ S2, S2, vIte, ↓reduceIte, Int.reduceNe, Nat.reduceEqDiff, reduceCtorEq, Nat.reduceLeDiff, Nat.reduceAdd, Nat.reduceLT])); (try simp +contextual (disch := omega) only [Z2]); (repeat' (first | (with_reducible intro h) | (with_reducible refine And.intro (by omega) ?_) | (with_reducible refine exP (by omega) ?_) | (with_reducible apply And.intro))))
  all_goals first
    | (simp [Nod.ext_iff, *]; done)
    | skip
  refine callS.eq (w67 _ _) ?_
  ((try simp (maxSteps := 2000000) only [↓ S2, S2, vIte, ↓reduceIte, Int.reduceNe, Nat.reduceEqDiff, reduceCtorEq, Nat.reduceLeDiff, Nat.reduceAdd, Nat.reduceLT]); (repeat (simp only [brGen]; try simp (maxSteps := 2000000) only [↓ S2, S2, vIte, ↓reduceIte, Int.reduceNe, Nat.reduceEqDiff, reduceCtorEq, Nat.reduceLeDiff, Nat.reduceAdd, Nat.reduceLT])); (try simp +contextual (disch := omega) only [Z2]); (repeat' (first | (with_reducible intro h) | (with_reducible refine And.intro (by omega) ?_) | (with_reducible refine exP (by omega) ?_) | (with_reducible apply And.intro)))) <;> simp [Nod.ext_iff, *]
theorem w25 (xs ys : List Nod) : Pure Tryz.prog 25 [NdS xs, NdS ys] (· = B (decide (xs = ys))) :=
  eqS mxd i25 (fun _ => rfl) (fun _ => rfl) xs ys fun x _ y _ => w43 x y
theorem w11 (t u : List Nod) : Pure Tryz.prog 11 [Tr t, Tr u] (· = B (decide (t = u))) := by
  refine gstart mxd i11 rfl (by simp) ?_; simp (maxSteps := 2000000) only [↓ S2, S2, vIte, ↓reduceIte, Int.reduceNe, Nat.reduceEqDiff, reduceCtorEq, Nat.reduceLeDiff, Nat.reduceAdd, Nat.reduceLT]
  refine callS.eq (w25 _ _) ?_
  ((try simp (maxSteps := 2000000) only [↓ S2, S2, vIte, ↓reduceIte, Int.reduceNe, Nat.reduceEqDiff, reduceCtorEq, Nat.reduceLeDiff, Nat.reduceAdd, Nat.reduceLT]); (repeat (simp only [brGen]; try simp (maxSteps := 2000000) only [↓ S2, S2, vIte, ↓reduceIte, Int.reduceNe, Nat.reduceEqDiff, reduceCtorEq, Nat.reduceLeDiff, Nat.reduceAdd, Nat.reduceLT])); (try simp +contextual (disch := omega) only [Z2]); (repeat' (first | (with_reducible intro h) | (with_reducible refine And.intro (by omega) ?_) | (with_reducible refine exP (by omega) ?_) | (with_reducible apply And.intro)))) <;> simp [*]
theorem w31 (x lo hi : Int) : Pure Tryz.prog 31 [I x, I lo, I hi] (· = B (decide (lo ≤ x ∧ x ≤ hi))) := by
  refine gstart mxd i31 rfl (by simp) ?_; simp (maxSteps := 2000000) only [↓ S2, S2, vIte, ↓reduceIte, Int.reduceNe, Nat.reduceEqDiff, reduceCtorEq, Nat.reduceLeDiff, Nat.reduceAdd, Nat.reduceLT]
  ((try simp (maxSteps := 2000000) only [↓ S2, S2, vIte, ↓reduceIte, Int.reduceNe, Nat.reduceEqDiff, reduceCtorEq, Nat.reduceLeDiff, Nat.reduceAdd, Nat.reduceLT]); (repeat (simp only [brGen]; try simp (maxSteps := 2000000) only [↓ S2, S2, vIte, ↓reduceIte, Int.reduceNe, Nat.reduceEqDiff, reduceCtorEq, Nat.reduceLeDiff, Nat.reduceAdd, Nat.reduceLT])); (try simp +contextual (disch := omega) only [Z2]); (repeat' (first | (with_reducible intro h) | (with_reducible refine And.intro (by omega) ?_) | (with_reducible refine exP (by omega) ?_) | (with_reducible apply And.intro)))) <;> simp [*]
theorem w57 (x lo hi : Int) : Pure Tryz.prog 57 [I x, I lo, I hi] (· = B (decide (lo ≤ x ∧ x ≤ hi))) := by
  refine gstart mxd i57 rfl (by simp) ?_; simp (maxSteps := 2000000) only [↓ S2, S2, vIte, ↓reduceIte, Int.reduceNe, Nat.reduceEqDiff, reduceCtorEq, Nat.reduceLeDiff, Nat.reduceAdd, Nat.reduceLT]
  ((try simp (maxSteps := 2000000) only [↓ S2, S2, vIte, ↓reduceIte, Int.reduceNe, Nat.reduceEqDiff, reduceCtorEq, Nat.reduceLeDiff, Nat.reduceAdd, Nat.reduceLT]); (repeat (simp only [brGen]; try simp (maxSteps := 2000000) only [↓ S2, S2, vIte, ↓reduceIte, Int.reduceNe, Nat.reduceEqDiff, reduceCtorEq, Nat.reduceLeDiff, Nat.reduceAdd, Nat.reduceLT])); (try simp +contextual (disch := omega) only [Z2]); (repeat' (first | (with_reducible intro h) | (with_reducible refine And.intro (by omega) ?_) | (with_reducible refine exP (by omega) ?_) | (with_reducible apply And.intro)))) <;> simp [*]
theorem w76 (t : List Nod) (f : Nat) (cs : List GV) (p : Nod → Bool) (hp : ∀ x ∈ t, Pure Tryz.prog f (Nd x :: cs) (· = B (p x))) :
    Pure Tryz.prog 76 [NdS t, .clo f cs] (· = I (ixOf p t)) := by
  refine GCalls.lenA fun hl => ?_
  have hlen := hl.1.1
  simp only [List.length_map, maxL] at hlen
  refine gstart mxd i76 rfl (by simp) ?_; simp (maxSteps := 2000000) only [↓ S2, S2, vIte, ↓reduceIte, Int.reduceNe, Nat.reduceEqDiff, reduceCtorEq, Nat.reduceLeDiff, Nat.reduceAdd, Nat.reduceLT]
  refine wloop mxd (ι := { i : Nat // i ≤ t.length ∧ ∀ y ∈ t.take i, p y = false }) (fun i => [(0, NdS t), (1, .clo f cs), (7, I t.length), (8, I i.1)]) (fun _ => []) (fun i => t.length - i.1) ⟨0, by simp⟩ (by simp [E2]) rfl ?_
  rintro ⟨i, hi, hn⟩
  ((try simp (maxSteps := 2000000) only [↓ S2, S2, vIte, ↓reduceIte, Int.reduceNe, Nat.reduceEqDiff, reduceCtorEq, Nat.reduceLeDiff, Nat.reduceAdd, Nat.reduceLT]); (repeat (simp only [brGen]; try simp (maxSteps := 2000000) only [↓ S2, S2, vIte, ↓reduceIte, Int.reduceNe, Nat.reduceEqDiff, reduceCtorEq, Nat.reduceLeDiff, Nat.reduceAdd, Nat.reduceLT])); (try simp +contextual (disch := omega) only [Z2]); (repeat' (first | (with_reducible intro h) | (with_reducible refine And.intro (by omega) ?_) | (with_reducible refine exP (by omega) ?_) | (with_reducible apply And.intro))))
  · refine callS.eq (hp t[i] (List.getElem_mem _)) ?_
    ((try simp (maxSteps := 2000000) only [↓ S2, S2, vIte, ↓reduceIte, Int.reduceNe, Nat.reduceEqDiff, reduceCtorEq, Nat.reduceLeDiff, Nat.reduceAdd, Nat.reduceLT]); (repeat (simp only [brGen]; try simp (maxSteps := 2000000) only [↓ S2, S2, vIte, ↓reduceIte, Int.reduceNe, Nat.reduceEqDiff, reduceCtorEq, Nat.reduceLeDiff, Nat.reduceAdd, Nat.reduceLT])); (try simp +contextual (disch := omega) only [Z2]); (repeat' (first | (with_reducible intro h) | (with_reducible refine And.intro (by omega) ?_) | (with_reducible refine exP (by omega) ?_) | (with_reducible apply And.intro))))
    · rw [ixOf_hit (by assumption) h hn]
    · exact nx ⟨i + 1, by omega, take_step (by assumption) h hn⟩ (by simp; omega) (by simp [E2]) rfl
  · have : i = t.length := by omega
    subst this
    rw [List.take_of_length_le (Nat.le_refl _)] at hn
    rw [ixOf_none hn]
end Go.Proofs.YtbdmpkidcpblaaaGreatDoor

namespace Go.Proofs.YtbdmpkidcpblaaaGreatDoor
open Go.Gh
set_option maxRecDepth 20000
set_option linter.unusedSimpArgs false
set_option linter.unusedVariables false
theorem w81 (x : Int × ByteArray) (left : Int) (h0 : 0 ≤ left) (h1 : left ≤ 1048576) (hx : x.2.size ≤ maxLen) : Pure Tryz.prog 81 [Occ x, I left] (· = I (szv left (wOcc x))) := by
  simp only [maxLen, size_chars] at hx
  refine gstart mxd i81 rfl (by simp) ?_; simp (maxSteps := 2000000) only [↓ S2, S2, vIte, ↓reduceIte, Int.reduceNe, Nat.reduceEqDiff, reduceCtorEq, Nat.reduceLeDiff, Nat.reduceAdd, Nat.reduceLT]
  ((try simp (maxSteps := 2000000) only [↓ S2, S2, vIte, ↓reduceIte, Int.reduceNe, Nat.reduceEqDiff, reduceCtorEq, Nat.reduceLeDiff, Nat.reduceAdd, Nat.reduceLT]); (repeat (simp only [brGen]; try simp (maxSteps := 2000000) only [↓ S2, S2, vIte, ↓reduceIte, Int.reduceNe, Nat.reduceEqDiff, reduceCtorEq, Nat.reduceLeDiff, Nat.reduceAdd, Nat.reduceLT])); (try simp +contextual (disch := omega) only [Z2]); (repeat' (first | (with_reducible intro h) | (with_reducible refine And.intro (by omega) ?_) | (with_reducible refine exP (by omega) ?_) | (with_reducible apply And.intro)))) <;> (congr 2; simp only [szv, wOcc]; omega)
theorem w85 (x : Int × ByteArray) : Pure Tryz.prog 85 [Occ x] (· = Occ x) := by
  refine gstart mxd i85 rfl (by simp) ?_; simp (maxSteps := 2000000) only [↓ S2, S2, vIte, ↓reduceIte, Int.reduceNe, Nat.reduceEqDiff, reduceCtorEq, Nat.reduceLeDiff, Nat.reduceAdd, Nat.reduceLT]
  ((try simp (maxSteps := 2000000) only [↓ S2, S2, vIte, ↓reduceIte, Int.reduceNe, Nat.reduceEqDiff, reduceCtorEq, Nat.reduceLeDiff, Nat.reduceAdd, Nat.reduceLT]); (repeat (simp only [brGen]; try simp (maxSteps := 2000000) only [↓ S2, S2, vIte, ↓reduceIte, Int.reduceNe, Nat.reduceEqDiff, reduceCtorEq, Nat.reduceLeDiff, Nat.reduceAdd, Nat.reduceLT])); (try simp +contextual (disch := omega) only [Z2]); (repeat' (first | (with_reducible intro h) | (with_reducible refine And.intro (by omega) ?_) | (with_reducible refine exP (by omega) ?_) | (with_reducible apply And.intro))))
theorem w88 (x y : Int × ByteArray) : Pure Tryz.prog 88 [Occ x, Occ y] (· = B (decide (x = y))) := by
  refine gstart mxd i88 rfl (by simp) ?_; simp (maxSteps := 2000000) only [↓ S2, S2, vIte, ↓reduceIte, Int.reduceNe, Nat.reduceEqDiff, reduceCtorEq, Nat.reduceLeDiff, Nat.reduceAdd, Nat.reduceLT]
  ((try simp (maxSteps := 2000000) only [↓ S2, S2, vIte, ↓reduceIte, Int.reduceNe, Nat.reduceEqDiff, reduceCtorEq, Nat.reduceLeDiff, Nat.reduceAdd, Nat.reduceLT]); (repeat (simp only [brGen]; try simp (maxSteps := 2000000) only [↓ S2, S2, vIte, ↓reduceIte, Int.reduceNe, Nat.reduceEqDiff, reduceCtorEq, Nat.reduceLeDiff, Nat.reduceAdd, Nat.reduceLT])); (try simp +contextual (disch := omega) only [Z2]); (repeat' (first | (with_reducible intro h) | (with_reducible refine And.intro (by omega) ?_) | (with_reducible refine exP (by omega) ?_) | (with_reducible apply And.intro)))) <;> simp [Prod.ext_iff, *]
end Go.Proofs.YtbdmpkidcpblaaaGreatDoor

namespace Go.Proofs.YtbdmpkidcpblaaaGreatDoor
open Go.Gh
set_option maxRecDepth 20000
set_option linter.unusedSimpArgs false
set_option linter.unusedVariables false
theorem w82 : ∀ (e : Exp), okE e → ∀ left : Int, 0 ≤ left → left ≤ 1048576 → Pure Tryz.prog 82 [Ex e, I left] (· = I (szv left (wEx e))) := by
  refine Exp.indA fun e ih ho left h0 h1 => ?_
  obtain ⟨hs, hm, ha⟩ := okE_eq.1 ho
  simp only [maxLen, size_chars] at hs hm
  rw [Ex_eq]
  refine gstart mxd i82 rfl (by simp) ?_; simp (maxSteps := 2000000) only [↓ S2, S2, vIte, ↓reduceIte, Int.reduceNe, Nat.reduceEqDiff, reduceCtorEq, Nat.reduceLeDiff, Nat.reduceAdd, Nat.reduceLT]
  ((try simp (maxSteps := 2000000) only [↓ S2, S2, vIte, ↓reduceIte, Int.reduceNe, Nat.reduceEqDiff, reduceCtorEq, Nat.reduceLeDiff, Nat.reduceAdd, Nat.reduceLT]); (repeat (simp only [brGen]; try simp (maxSteps := 2000000) only [↓ S2, S2, vIte, ↓reduceIte, Int.reduceNe, Nat.reduceEqDiff, reduceCtorEq, Nat.reduceLeDiff, Nat.reduceAdd, Nat.reduceLT])); (try simp +contextual (disch := omega) only [Z2]); (repeat' (first | (with_reducible intro h) | (with_reducible refine And.intro (by omega) ?_) | (with_reducible refine exP (by omega) ?_) | (with_reducible apply And.intro))))
  · congr 2; rw [wEx_eq]; simp only [szv]; omega
  · congr 2; rw [wEx_eq]; simp only [szv]; omega
  refine callS.eq (szS mxd wEx i90 isAgg_Ex geR_Ex e.args _ (by omega) (by omega) fun a ham l a0 a1 => ih a ham (ha a ham) l a0 a1) ?_
  ((try simp (maxSteps := 2000000) only [↓ S2, S2, vIte, ↓reduceIte, Int.reduceNe, Nat.reduceEqDiff, reduceCtorEq, Nat.reduceLeDiff, Nat.reduceAdd, Nat.reduceLT]); (repeat (simp only [brGen]; try simp (maxSteps := 2000000) only [↓ S2, S2, vIte, ↓reduceIte, Int.reduceNe, Nat.reduceEqDiff, reduceCtorEq, Nat.reduceLeDiff, Nat.reduceAdd, Nat.reduceLT])); (try simp +contextual (disch := omega) only [Z2]); (repeat' (first | (with_reducible intro h) | (with_reducible refine And.intro (by omega) ?_) | (with_reducible refine exP (by omega) ?_) | (with_reducible apply And.intro)))) <;> (congr 2; rw [wEx_eq]; simp only [szv] at *; omega)
theorem w86 : ∀ (e : Exp), wEx e ≤ 1048576 → Pure Tryz.prog 86 [Ex e] (· = Ex e) := by
  refine Exp.indA fun e ih hw => ?_
  obtain ⟨hl, ha⟩ := args_small hw
  rw [Ex_eq]
  refine gstart mxd i86 rfl (by simp) ?_; simp (maxSteps := 2000000) only [↓ S2, S2, vIte, ↓reduceIte, Int.reduceNe, Nat.reduceEqDiff, reduceCtorEq, Nat.reduceLeDiff, Nat.reduceAdd, Nat.reduceLT]
  intro r hr
  refine callS.eq (freezeS view_Ex fun H => toSo mxd i93 isAgg_Ex geR_Ex gsize_Ex stor_Ex e.args hl (by decide) (fun a ham => ih a ham (ha a ham)) H) ?_
  ((try simp (maxSteps := 2000000) only [↓ S2, S2, vIte, ↓reduceIte, Int.reduceNe, Nat.reduceEqDiff, reduceCtorEq, Nat.reduceLeDiff, Nat.reduceAdd, Nat.reduceLT]); (repeat (simp only [brGen]; try simp (maxSteps := 2000000) only [↓ S2, S2, vIte, ↓reduceIte, Int.reduceNe, Nat.reduceEqDiff, reduceCtorEq, Nat.reduceLeDiff, Nat.reduceAdd, Nat.reduceLT])); (try simp +contextual (disch := omega) only [Z2]); (repeat' (first | (with_reducible intro h) | (with_reducible refine And.intro (by omega) ?_) | (with_reducible refine exP (by omega) ?_) | (with_reducible apply And.intro))))
theorem w89 : ∀ (x y : Exp), Pure Tryz.prog 89 [Ex x, Ex y] (· = B (decide (x = y))) := by
  refine Exp.indA fun x ih y => ?_
  rw [Ex_eq, Ex_eq y]
  refine gstart mxd i89 rfl (by simp) ?_; simp (maxSteps := 2000000) only [↓ S2, S2, vIte, ↓reduceIte, Int.reduceNe, Nat.reduceEqDiff, reduceCtorEq, Nat.reduceLeDiff, Nat.reduceAdd, Nat.reduceLT]
  ((try simp (maxSteps := 2000000) only [↓ S2, S2, vIte, ↓reduceIte, Int.reduceNe, Nat.reduceEqDiff, reduceCtorEq, Nat.reduceLeDiff, Nat.reduceAdd, Nat.reduceLT]); (repeat (simp only [brGen]; try simp (maxSteps := 2000000) only [↓ S2, S2, vIte, ↓reduceIte, Int.reduceNe, Nat.reduceEqDiff, reduceCtorEq, Nat.reduceLeDiff, Nat.reduceAdd, Nat.reduceLT])); (try simp +contextual (disch := omega) only [Z2]); (repeat' (first | (with_reducible intro h) | (with_reducible refine And.intro (by omega) ?_) | (with_reducible refine exP (by omega) ?_) | (with_reducible apply And.intro))))
  all_goals first
    | (simp [Exp.ext_iff, *]; done)
    | skip
  refine callS.eq (eqS mxd i98 isAgg_Ex geR_Ex x.args y.args fun a ha b _ => ih a ha b) ?_
  ((try simp (maxSteps := 2000000) only [↓ S2, S2, vIte, ↓reduceIte, Int.reduceNe, Nat.reduceEqDiff, reduceCtorEq, Nat.reduceLeDiff, Nat.reduceAdd, Nat.reduceLT]); (repeat (simp only [brGen]; try simp (maxSteps := 2000000) only [↓ S2, S2, vIte, ↓reduceIte, Int.reduceNe, Nat.reduceEqDiff, reduceCtorEq, Nat.reduceLeDiff, Nat.reduceAdd, Nat.reduceLT])); (try simp +contextual (disch := omega) only [Z2]); (repeat' (first | (with_reducible intro h) | (with_reducible refine And.intro (by omega) ?_) | (with_reducible refine exP (by omega) ?_) | (with_reducible apply And.intro)))) <;> simp [Exp.ext_iff, *]
end Go.Proofs.YtbdmpkidcpblaaaGreatDoor

