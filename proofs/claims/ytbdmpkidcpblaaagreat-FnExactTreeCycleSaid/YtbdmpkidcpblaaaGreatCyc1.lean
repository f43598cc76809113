/- The law FnExactTreeCycle returns true whatever the input, and the input reads behind the call as before. No condition. -/
import Derived.Test.YtbdmpkidcpblaaaGreatLib2
import Derived.Shelf.SlSortCmp.NoneTotal
import Derived.Laws.Cover1
import Derived.Deep.RegionHeld3
import Derived.Shelf.SlGeneric
/- The program's data as plain data, and their ghosts. -/
namespace Go.Gh
set_option linter.unusedSimpArgs false
set_option linter.unusedVariables false
abbrev T (s : ByteArray) : GV := .val (.string s)
theorem chars_inj {s t : ByteArray} : chars s = chars t ↔ s = t := by
  constructor
  · intro h; obtain ⟨a⟩ := s; obtain ⟨b⟩ := t; simp only [chars] at h; congr 1; exact Array.ext' h
  · rintro rfl; rfl
@[ext] structure Nod where
  id : Int
  parent : Int
  place : Int
  lit : Int
  rule : ByteArray
  kids : List Int
deriving DecidableEq
abbrev Nd (x : Nod) : GV := .agg [I x.id, I x.parent, I x.place, I x.lit, T x.rule, IS x.kids]
abbrev NdS (l : List Nod) : GV := .sl 6 (l.map Nd)
abbrev wNd (x : Nod) : Nat := (chars x.rule).length + x.kids.length
@[ext] structure Slo where
  pos : Int
  name : ByteArray
  val : Int
deriving DecidableEq
abbrev Occ (x : Int × ByteArray) : GV := .agg [I x.1, T x.2]
abbrev wOcc (x : Int × ByteArray) : Nat := (chars x.2).length
abbrev Tr (l : List Nod) : GV := .agg [NdS l]
theorem e_nil (e : Env) : subE e [] = True := (rfl)
theorem e_cons (e : Env) (j : Nat) (g : GV) (r : Env) : subE e ((j, g) :: r) = (eget e j = some g ∧ subE e r) := (rfl)
theorem n_val (v : Value) : nraw (.val v) = true := (rfl)
theorem n_sl (sz : Nat) (es : List GV) : nraw (.sl sz es) = true := (rfl)
theorem n_agg (cs : List GV) : nraw (.agg cs) = true := (rfl)
theorem n_rop (sz : Nat) (g : GV) : nraw (.rop sz g) = true := (rfl)
theorem n_ptr (r sz i o : Nat) : nraw (.ptr r sz i o) = true := (rfl)
theorem n_own (r sz k n : Nat) : nraw (.own r sz k n) = true := (rfl)
theorem n_clo (f : Nat) (cs : List GV) : nraw (.clo f cs) = true := (rfl)
theorem n_tup (cs : List GV) : nraw (.tup cs) = true := (rfl)
theorem E2 : type_of% (And.intro @e_nil (And.intro @e_cons (And.intro @n_val (And.intro @n_sl (And.intro @n_agg (And.intro @n_rop (And.intro @n_ptr (And.intro @n_own (And.intro @n_clo (And.intro @n_tup (And.intro @x_get @Option.some.injEq.{0}))))))))))) :=
  And.intro @e_nil (And.intro @e_cons (And.intro @n_val (And.intro @n_sl (And.intro @n_agg (And.intro @n_rop (And.intro @n_ptr (And.intro @n_own (And.intro @n_clo (And.intro @n_tup (And.intro @x_get @Option.some.injEq.{0}))))))))))
theorem maxLv : maxL = 9223372036854775807 := (rfl)
theorem Z2 : type_of% (And.intro @Int.ofNat_lt (And.intro @Int.natCast_nonneg (And.intro @true_and (And.intro @u_ext (And.intro @exists_prop_of_true (And.intro @Int.natCast_zero (And.intro @chars_inj (And.intro @Int.natCast_inj (And.intro maxLv (And.intro @not_true_eq_false (And.intro @false_implies (And.intro @true_implies (And.intro @and_true (And.intro @implies_true.{0} @wrap64)))))))))))))) :=
  And.intro @Int.ofNat_lt (And.intro @Int.natCast_nonneg (And.intro @true_and (And.intro @u_ext (And.intro @exists_prop_of_true (And.intro @Int.natCast_zero (And.intro @chars_inj (And.intro @Int.natCast_inj (And.intro maxLv (And.intro @not_true_eq_false (And.intro @false_implies (And.intro @true_implies (And.intro @and_true (And.intro @implies_true.{0} @wrap64)))))))))))))
theorem lenOk_map {α : Type} {f : α → GV} {l : List α} (h : LenOkL (l.map f)) : ∀ x ∈ l, LenOk (f x) := fun x hx => h.all _ (List.mem_map.2 ⟨x, hx, rfl⟩)
theorem lenTr {l : List Nod} (h : LenOk (Tr l)) : l.length ≤ 9223372036854775807 ∧ ∀ x ∈ l, x.kids.length ≤ 9223372036854775807 := by
  simp only [LenOk, LenOkL, List.length_map, maxL] at h
  refine ⟨h.1.1, fun x hx => ?_⟩
  have := lenOk_map h.1.2 x hx
  simp only [LenOk, LenOkL, List.length_map, maxL] at this
  exact this.2.2.2.2.2.1.1
end Go.Gh

/- What the program computes, in plain words: trees. -/
namespace Go.Gh
set_option linter.unusedSimpArgs false
set_option linter.unusedVariables false
end Go.Gh
namespace Go.Gh
end Go.Gh
namespace Go.Gh
theorem sum_mem {α : Type} (f : α → Nat) : ∀ (l : List α) (x : α), x ∈ l → f x ≤ (l.map f).sum
  | y :: l, x, h => by
    simp only [List.map_cons, List.sum_cons]
    rcases List.mem_cons.1 h with rfl | h
    · omega
    · have := sum_mem f l x h; omega
theorem szTr {t : List Nod} {left : Int} (h : ¬ szv left (wtS wNd t) < 0) (hl : left ≤ 1048576 := by omega) : t.length ≤ 1048576 ∧ ∀ x ∈ t, x.kids.length ≤ 1048576 := by
  have h1 := szv_nn h
  simp only [wtS] at h1
  refine ⟨by omega, fun x hx => ?_⟩
  have := sum_mem wNd t x hx
  simp only [wNd] at this h1
  omega
end Go.Gh
namespace Go.Gh
theorem take_eq_step {α : Type} {xs ys : List α} {i : Nat} (hp : xs.take i = ys.take i) (h1 : i < xs.length) (h2 : i < ys.length) (h : xs[i] = ys[i]) : xs.take (i + 1) = ys.take (i + 1) := by
  rw [List.take_add_one, List.take_add_one, hp, List.getElem?_eq_getElem h1, List.getElem?_eq_getElem h2, h]
end Go.Gh
namespace Go.Gh
theorem bEq {p q : Prop} [Decidable p] [Decidable q] (h : p ↔ q) : B (decide p) = B (decide q) := by
  have : decide p = decide q := by by_cases hp : p <;> simp [hp, ← h]
  rw [this]
end Go.Gh
namespace Go.Gh
theorem exP {p : Prop} {q : p → Prop} (h : p) (hq : q h) : ∃ h, q h := ⟨h, hq⟩
end Go.Gh
namespace Go.Gh
end Go.Gh
namespace Go.Gh
end Go.Gh
namespace Go.Gh
theorem find_hit {α : Type} {p : α → Bool} : ∀ {xs : List α} {i : Nat} (h : i < xs.length), p xs[i] = true → (∀ a ∈ xs.take i, p a = false) → xs.find? p = some xs[i]
  | x :: xs, 0, _, hp, _ => by simp at hp; simp [hp]
  | x :: xs, i + 1, h, hp, hn => by
    have h1 : p x = false := hn x (by simp)
    simp only [List.find?_cons, h1]
    simpa using find_hit (p := p) (xs := xs) (i := i) (by simpa using h) (by simpa using hp) (fun a ha => hn a (by simp [ha]))
theorem find_none {α : Type} {p : α → Bool} {xs : List α} (hn : ∀ a ∈ xs, p a = false) : xs.find? p = none := by
  rw [List.find?_eq_none]; intro x hx; simp [hn x hx]
end Go.Gh

/- The laws' own functions on slices, whatever the element: sizes, copies, comparisons. -/
namespace Go.Gh
set_option linter.unusedSimpArgs false
set_option linter.unusedVariables false
set_option maxRecDepth 20000
section
variable {P : Program} {α : Type} {f : α → GV} {k kx sz : Nat} {det ag : Bool}
theorem eqS (mxd : P.follows .mixedOrders = true) (hF : IsFun P k ⟨⟨27, []⟩,
  (.seq (.reg [(.mk (some 4) none (.mov (.k (.val (.bool false)))))]) (.seq (.seq (.reg [(.mk (some 6) none (.mov (.t 0))), (.mk (some 7) none (.len (.t 6))), (.mk (some 8) none (.mov (.t 1))), (.mk (some 9) none (.len
  (.t 8))), (.mk (some 10) none (.bin .neq (.t 7) (.t 9)))]) (.cond 10 (.seq (.reg [(.mk (some 4) none (.mov (.k (.val (.bool false)))))]) .ret) .skip)) (.seq (.seq (.reg [(.mk (some 5) none (.mov (.k (.val (.int .i64
  0)))))]) (.block 0 (.loop (.seq (.seq (.reg [(.mk (some 11) none (.mov (.t 5))), (.mk (some 12) none (.mov (.t 0))), (.mk (some 13) none (.len (.t 12))), (.mk (some 14) none (.bin .lss (.t 11) (.t 13)))]) (.cond 14
  .skip (.exit 0))) (.seq (.block 1 (.seq (.reg [(.mk (some 17) none (.mov (.t 0))), (.mk (some 18) none (.mov (.t 5))), (.mk (some 19) none (.iaddr sz (.t 17) (.t 18))), (.mk (some 21) none (.mov (.t 1))), (.mk (some
  22) none (.mov (.t 5))), (.mk (some 23) none (.iaddr sz (.t 21) (.t 22))), (.mk (some 20) none (.load sz ag (.t 19))), (.mk (some 24) none (.load sz ag (.t 23))), (.mk (some 25) none (.call det kx [(.t 20), (.t
  24)])), (.mk (some 26) none (.not (.t 25)))]) (.cond 26 (.seq (.reg [(.mk (some 4) none (.mov (.k (.val (.bool false)))))]) .ret) .skip))) (.reg [(.mk (some 15) none (.mov (.t 5))), (.mk (some 16) none (.bin .add (.t
  15) (.k (.val (.int .i64 1))))), (.mk (some 5) none (.mov (.t 16)))])))))) (.seq (.reg [(.mk (some 4) none (.mov (.k (.val (.bool true)))))]) .ret)))), [.t 4]⟩)
    [DecidableEq α] (hag : ∀ a, isAgg (f a) = ag) (hr : ∀ a, geR (some (f a)) = some (f a)) (xs ys : List α) (hx : ∀ a ∈ xs, ∀ b ∈ ys, Pure P kx [f a, f b] (· = B (decide (a = b)))) :
    Pure P k [.sl sz (xs.map f), .sl sz (ys.map f)] (· = B (decide (xs = ys))) := by
  refine GCalls.lenA fun hl => ?_
  have hlen := hl.1.1
  simp only [List.length_map, maxL] at hlen
  refine gstart mxd hF rfl (by simp) ?_
  ((try simp only [↓ S2, S2, ↓reduceIte, Nat.reduceEqDiff, reduceCtorEq, Nat.reduceLeDiff, Nat.reduceAdd, Nat.reduceLT, hr, hag]); (try simp only [brGen]; try simp only [↓ S2, S2, ↓reduceIte, Nat.reduceEqDiff, reduceCtorEq, Nat.reduceLeDiff, Nat.reduceAdd, Nat.reduceLT, hr, hag]); (try simp +contextual (disch := omega) only [Z2]); (repeat' (first | (with_reducible intro h) | (with_reducible refine And.intro (by omega) ?_) | (with_reducible refine exP (by omega) ?_) | (with_reducible apply And.intro))))
  rotate_left
  · simp; rintro rfl; exact h rfl
  refine wloop mxd (ι := { i : Nat // i ≤ xs.length ∧ xs.take i = ys.take i }) (fun i => [(0, .sl sz (xs.map f)), (1, .sl sz (ys.map f)), (5, I i.1)]) (fun _ => []) (fun i => xs.length - i.1) ⟨0, by simp⟩ (by simp [E2]) rfl ?_
  rintro ⟨i, hi, hp⟩
  ((try simp only [↓ S2, S2, ↓reduceIte, Nat.reduceEqDiff, reduceCtorEq, Nat.reduceLeDiff, Nat.reduceAdd, Nat.reduceLT, hr, hag]); (try simp only [brGen]; try simp only [↓ S2, S2, ↓reduceIte, Nat.reduceEqDiff, reduceCtorEq, Nat.reduceLeDiff, Nat.reduceAdd, Nat.reduceLT, hr, hag]); (try simp +contextual (disch := omega) only [Z2]); (repeat' (first | (with_reducible intro h) | (with_reducible refine And.intro (by omega) ?_) | (with_reducible refine exP (by omega) ?_) | (with_reducible apply And.intro))))
  · refine callS.eq (hx xs[i] (List.getElem_mem _) ys[i] (List.getElem_mem _)) ?_
    ((try simp only [↓ S2, S2, ↓reduceIte, Nat.reduceEqDiff, reduceCtorEq, Nat.reduceLeDiff, Nat.reduceAdd, Nat.reduceLT, hr, hag]); (try simp only [brGen]; try simp only [↓ S2, S2, ↓reduceIte, Nat.reduceEqDiff, reduceCtorEq, Nat.reduceLeDiff, Nat.reduceAdd, Nat.reduceLT, hr, hag]); (try simp +contextual (disch := omega) only [Z2]); (repeat' (first | (with_reducible intro h) | (with_reducible refine And.intro (by omega) ?_) | (with_reducible refine exP (by omega) ?_) | (with_reducible apply And.intro))))
    · exact nx ⟨i + 1, by omega, take_eq_step hp (by omega) (by omega) h⟩ (by simp; omega) (by simp [E2]) rfl
    · simp; rintro rfl; simp at h
  · have : i = xs.length := by omega
    subst this
    rw [List.take_of_length_le (by omega), List.take_of_length_le (by omega)] at hp
    simp [hp]
theorem toSo (mxd : P.follows .mixedOrders = true) {bytes : Nat} {z : GV} (hF : IsFun P k ⟨⟨23, []⟩,
  (.seq (.reg [(.mk (some 2) none (.mov (.k (.val (.slice none 0 0)))))]) (.seq (.reg [(.mk (some 5) none (.mov (.t 0))), (.mk (some 6) none (.len (.t 5))), (.mk (some 7) none (.mkslice sz bytes z (.t 6) (.t 6))), (.mk (some 3) none (.mov (.t 7)))]) (.seq (.seq (.reg [(.mk (some 4) none (.mov (.k (.val (.int .i64 0)))))]) (.block 0 (.loop (.seq (.seq (.reg [(.mk (some 8)
  none (.mov (.t 4))), (.mk (some 9) none (.mov (.t 0))), (.mk (some 10) none (.len (.t 9))), (.mk (some 11) none (.bin .lss (.t 8) (.t 10)))]) (.cond 11 .skip (.exit 0))) (.seq (.block 1 (.reg [(.mk (some 14) none
  (.mov (.t 3))), (.mk (some 15) none (.mov (.t 4))), (.mk (some 16) none (.mov (.t 0))), (.mk (some 17) none (.mov (.t 4))), (.mk (some 18) none (.iaddr sz (.t 16) (.t 17))), (.mk (some 19) none (.load sz ag (.t 18))),
  (.mk (some 20) none (.call det kx [(.t 19)])), (.mk (some 21) none (.iaddr sz (.t 14) (.t 15))), (.mk none none (.store sz (.t 21) (.t 20)))])) (.reg [(.mk (some 12) none (.mov (.t 4))), (.mk (some 13) none (.bin .add
  (.t 12) (.k (.val (.int .i64 1))))), (.mk (some 4) none (.mov (.t 13)))])))))) (.seq (.reg [(.mk (some 22) none (.mov (.t 3))), (.mk (some 2) none (.mov (.t 22)))]) .ret)))), [.t 2]⟩)
    (hag : ∀ a, isAgg (f a) = ag) (hr : ∀ a, geR (some (f a)) = some (f a)) (hsz : ∀ a, gsize (f a) = sz) (hst : ∀ a, storable (f a) = true) (xs : List α) (hlen : xs.length ≤ 1048576) (hb : bytes ≤ 1024)
    (hx : ∀ a ∈ xs, Pure P kx [f a] (· = f a)) (H : GH) :
    GCalls P k [.sl sz (xs.map f)] H (fun g H' => ∃ r, g = .own r sz 0 xs.length ∧ H' = (r, sz, xs.map f) :: H) := by
  have hbb : (bytes : Int) * (xs.length : Int) ≤ 281474976710656 := by
    have h1 : bytes * xs.length ≤ 1073741824 := Nat.le_trans (Nat.mul_le_mul hb hlen) (by decide)
    have h2 : ((bytes * xs.length : Nat) : Int) ≤ 1073741824 := by omega
    rw [Int.natCast_mul] at h2
    omega
  refine gstart mxd hF rfl (by simp) ?_
  simp only [↓ S2, S2, ↓reduceIte, Nat.reduceEqDiff, reduceCtorEq, Nat.reduceLeDiff, Nat.reduceAdd, Nat.reduceLT, hr, hag]
  refine ⟨by omega, by omega, hbb, by omega, fun r hr' => ?_⟩
  refine wloop mxd (ι := { i : Nat // i ≤ xs.length }) (fun i => [(0, .sl sz (xs.map f)), (3, .own r sz 0 xs.length), (4, I i.1)]) (fun i => (r, sz, (xs.take i.1).map f ++ List.replicate (xs.length - i.1) z) :: H) (fun i => xs.length - i.1) ⟨0, by simp⟩ (by simp [E2]) (by simp) ?_
  rintro ⟨i, hi⟩
  ((try simp only [↓ S2, S2, ↓reduceIte, Nat.reduceEqDiff, reduceCtorEq, Nat.reduceLeDiff, Nat.reduceAdd, Nat.reduceLT, hr, hag]); (try simp only [brGen]; try simp only [↓ S2, S2, ↓reduceIte, Nat.reduceEqDiff, reduceCtorEq, Nat.reduceLeDiff, Nat.reduceAdd, Nat.reduceLT, hr, hag]); (try simp +contextual (disch := omega) only [Z2]); (repeat' (first | (with_reducible intro h) | (with_reducible refine And.intro (by omega) ?_) | (with_reducible refine exP (by omega) ?_) | (with_reducible apply And.intro))))
  · refine callS.eq (hx xs[i] (List.getElem_mem _)) ?_
    ((try simp only [↓ S2, S2, ↓reduceIte, Nat.reduceEqDiff, reduceCtorEq, Nat.reduceLeDiff, Nat.reduceAdd, Nat.reduceLT, hr, hag, hsz, hst, stw]); (try simp only [brGen]; try simp only [↓ S2, S2, ↓reduceIte, Nat.reduceEqDiff, reduceCtorEq, Nat.reduceLeDiff, Nat.reduceAdd, Nat.reduceLT, hr, hag, hsz, hst, stw]); (try simp +contextual (disch := omega) only [Z2]); (repeat' (first | (with_reducible intro h) | (with_reducible refine And.intro (by omega) ?_) | (with_reducible refine exP (by omega) ?_) | (with_reducible apply And.intro))))
    refine ⟨by simp; omega, nx ⟨i + 1, by omega⟩ (by simp; omega) (by simp [E2]) ?_⟩
    rw [fill_set xs f z i h]
  · have : i = xs.length := by omega
    subst this
    exact ⟨r, rfl, by simp⟩
theorem szS (mxd : P.follows .mixedOrders = true) (wt : α → Nat) (hF : IsFun P k ⟨⟨27, []⟩,
  (.seq (.reg [(.mk (some 4) none (.mov (.k (.val (.int .i64 0)))))]) (.seq (.reg [(.mk (some 6) none (.mov (.t 1))), (.mk (some 7) none (.mov (.t 0))), (.mk (some 8) none (.len (.t 7))), (.mk (some 9) none (.bin .sub
  (.t 6) (.t 8))), (.mk (some 1) none (.mov (.t 9)))]) (.seq (.seq (.reg [(.mk (some 10) none (.mov (.t 1))), (.mk (some 11) none (.bin .lss (.t 10) (.k (.val (.int .i64 0)))))]) (.cond 11 (.seq (.reg [(.mk (some 4)
  none (.mov (.k (.val (.int .i64 (-1))))))]) .ret) .skip)) (.seq (.seq (.reg [(.mk (some 5) none (.mov (.k (.val (.int .i64 0)))))]) (.block 0 (.loop (.seq (.seq (.reg [(.mk (some 12) none (.mov (.t 5))), (.mk (some
  13) none (.mov (.t 0))), (.mk (some 14) none (.len (.t 13))), (.mk (some 15) none (.bin .lss (.t 12) (.t 14)))]) (.cond 15 .skip (.exit 0))) (.seq (.block 1 (.seq (.reg [(.mk (some 18) none (.mov (.t 0))), (.mk (some
  19) none (.mov (.t 5))), (.mk (some 20) none (.iaddr sz (.t 18) (.t 19))), (.mk (some 21) none (.load sz ag (.t 20))), (.mk (some 22) none (.mov (.t 1))), (.mk (some 23) none (.call det kx [(.t 21), (.t 22)])), (.mk
  (some 1) none (.mov (.t 23)))]) (.seq (.reg [(.mk (some 24) none (.mov (.t 1))), (.mk (some 25) none (.bin .lss (.t 24) (.k (.val (.int .i64 0)))))]) (.cond 25 (.seq (.reg [(.mk (some 4) none (.mov (.k (.val (.int
  .i64 (-1))))))]) .ret) .skip)))) (.reg [(.mk (some 16) none (.mov (.t 5))), (.mk (some 17) none (.bin .add (.t 16) (.k (.val (.int .i64 1))))), (.mk (some 5) none (.mov (.t 17)))])))))) (.seq (.reg [(.mk (some 26)
  none (.mov (.t 1))), (.mk (some 4) none (.mov (.t 26)))]) .ret))))), [.t 4]⟩)
    (hag : ∀ a, isAgg (f a) = ag) (hr : ∀ a, geR (some (f a)) = some (f a)) (xs : List α) (left : Int) (h0 : 0 ≤ left) (h1 : left ≤ 1048576)
    (hx : ∀ a ∈ xs, ∀ l : Int, 0 ≤ l → l ≤ 1048576 → Pure P kx [f a, I l] (· = I (szv l (wt a)))) :
    Pure P k [.sl sz (xs.map f), I left] (· = I (szv left (wtS wt xs))) := by
  refine GCalls.lenA fun hl => ?_
  have hlen := hl.1.1
  simp only [List.length_map, maxL] at hlen
  refine gstart mxd hF rfl (by simp) ?_
  ((try simp only [↓ S2, S2, ↓reduceIte, Nat.reduceEqDiff, reduceCtorEq, Nat.reduceLeDiff, Nat.reduceAdd, Nat.reduceLT, hr, hag]); (try simp only [brGen]; try simp only [↓ S2, S2, ↓reduceIte, Nat.reduceEqDiff, reduceCtorEq, Nat.reduceLeDiff, Nat.reduceAdd, Nat.reduceLT, hr, hag]); (try simp +contextual (disch := omega) only [Z2]); (repeat' (first | (with_reducible intro h) | (with_reducible refine And.intro (by omega) ?_) | (with_reducible refine exP (by omega) ?_) | (with_reducible apply And.intro))))
  · congr 2; simp only [szv, wtS]; omega
  refine wloop mxd (ι := { i : Nat // i ≤ xs.length ∧ ((xs.length + psum wt xs i : Nat) : Int) ≤ left }) (fun i => [(0, .sl sz (xs.map f)), (1, I (left - ((xs.length + psum wt xs i.1 : Nat) : Int))), (5, I i.1)])
    (fun _ => []) (fun i => xs.length - i.1) ⟨0, by simp [psum_zero]; omega⟩ (by simp [E2, psum_zero]) rfl ?_
  rintro ⟨i, hi, hp⟩
  ((try simp only [↓ S2, S2, ↓reduceIte, Nat.reduceEqDiff, reduceCtorEq, Nat.reduceLeDiff, Nat.reduceAdd, Nat.reduceLT, hr, hag]); (try simp only [brGen]; try simp only [↓ S2, S2, ↓reduceIte, Nat.reduceEqDiff, reduceCtorEq, Nat.reduceLeDiff, Nat.reduceAdd, Nat.reduceLT, hr, hag]); (try simp +contextual (disch := omega) only [Z2]); (repeat' (first | (with_reducible intro h) | (with_reducible refine And.intro (by omega) ?_) | (with_reducible refine exP (by omega) ?_) | (with_reducible apply And.intro))))
  · have e1 := psum_succ wt xs i h
    have e2 := psum_le wt xs (i + 1)
    refine callS.eq (hx xs[i] (List.getElem_mem _) _ (by omega) (by omega)) ?_
    ((try simp only [↓ S2, S2, ↓reduceIte, Nat.reduceEqDiff, reduceCtorEq, Nat.reduceLeDiff, Nat.reduceAdd, Nat.reduceLT, hr, hag]); (try simp only [brGen]; try simp only [↓ S2, S2, ↓reduceIte, Nat.reduceEqDiff, reduceCtorEq, Nat.reduceLeDiff, Nat.reduceAdd, Nat.reduceLT, hr, hag]); (try simp +contextual (disch := omega) only [Z2]); (repeat' (first | (with_reducible intro h) | (with_reducible refine And.intro (by omega) ?_) | (with_reducible refine exP (by omega) ?_) | (with_reducible apply And.intro))))
    · congr 2; simp only [szv, wtS] at *; omega
    · have e3 := szv_nn h
      refine nx ⟨i + 1, by omega, by omega⟩ (by simp; omega) ?_ rfl
      rw [szv_pos e3]
      simp [E2]
      omega
  · have : i = xs.length := by omega
    subst this
    rw [psum_all]
    congr 2; simp only [szv, wtS]; rw [psum_all] at hp; omega
end
end Go.Gh

/- Arguments of the statements, by their types. -/
namespace Go.Gh
theorem t_int {g : GV} (h : ET false [.int .i64] g) : ∃ n : Int, g = I n := by
  obtain ⟨gs, k1, k2⟩ := h
  simp only [CTs, CT] at k1
  obtain ⟨g, gs', rfl, ⟨n, rfl, _⟩, rfl⟩ := k1
  simp at k2
  exact ⟨n, k2.symm⟩
theorem c_ints {g : GV} (h : CT (.sl false [.int .i64]) g) : ∃ xs : List Int, g = IS xs := by
  simp only [CT] at h
  obtain ⟨es, rfl, _, he⟩ := h
  obtain ⟨l, rfl, _⟩ := list_of (f := I) (ok := fun _ => True) fun e hm => by
    obtain ⟨n, hn⟩ := t_int (he e hm)
    exact ⟨n, hn, trivial⟩
  exact ⟨l, rfl⟩
theorem t_one {t : Ty} {g : GV} (h : ET false [t] g) : CT t g := by
  obtain ⟨gs, k1, k2⟩ := h
  simp only [CTs] at k1
  obtain ⟨g, gs', rfl, hg, rfl⟩ := k1
  simp at k2
  rw [← k2]; exact hg
theorem t_agg1 {t : Ty} {g : GV} (h : ET true [t] g) : ∃ x, g = .agg [x] ∧ CT t x := by
  obtain ⟨gs, k1, k2⟩ := h
  simp only [CTs] at k1
  obtain ⟨g, gs', rfl, hg, rfl⟩ := k1
  exact ⟨g, by simpa using k2, hg⟩
theorem c_sl {ag : Bool} {ts : List Ty} {α : Type} {f : α → GV} {ok : α → Prop} {g : GV} (h : CT (.sl ag ts) g) (he : ∀ e, ET ag ts e → ∃ a, e = f a ∧ ok a) : ∃ l : List α, g = .sl ts.length (l.map f) ∧ ∀ a ∈ l, ok a := by
  simp only [CT] at h
  obtain ⟨es, rfl, _, hs⟩ := h
  obtain ⟨l, rfl, hl⟩ := list_of (f := f) (ok := ok) fun e hm => he e (hs e hm)
  exact ⟨l, rfl, hl⟩
theorem t_Nod {g : GV} (h : ET true [.int .i64, .int .i64, .int .i64, .int .i64, .str, .sl false [.int .i64]] g) : ∃ x : Nod, g = Nd x ∧ x.rule.size ≤ maxLen := by
  obtain ⟨gs, k1, k2⟩ := h
  rw [CTs] at k1
  obtain ⟨g1, _, rfl, h1, k1⟩ := k1
  rw [CTs] at k1
  obtain ⟨g2, _, rfl, h2, k1⟩ := k1
  rw [CTs] at k1
  obtain ⟨g3, _, rfl, h3, k1⟩ := k1
  rw [CTs] at k1
  obtain ⟨g4, _, rfl, h4, k1⟩ := k1
  rw [CTs] at k1
  obtain ⟨g5, _, rfl, h5, k1⟩ := k1
  rw [CTs] at k1
  obtain ⟨g6, _, rfl, h6, k1⟩ := k1
  simp only [CTs] at k1
  subst k1
  obtain ⟨xs, rfl⟩ := c_ints h6
  simp only [CT] at h1 h2 h3 h4 h5
  obtain ⟨n1, rfl, _⟩ := h1
  obtain ⟨n2, rfl, _⟩ := h2
  obtain ⟨n3, rfl, _⟩ := h3
  obtain ⟨n4, rfl, _⟩ := h4
  obtain ⟨s, rfl, hs⟩ := h5
  exact ⟨⟨n1, n2, n3, n4, s, xs⟩, by simpa using k2, hs⟩
theorem t_Tr {g : GV} (h : ET true [.sl true [.int .i64, .int .i64, .int .i64, .int .i64, .str, .sl false [.int .i64]]] g) : ∃ t : List Nod, g = Tr t ∧ ∀ x ∈ t, x.rule.size ≤ maxLen := by
  obtain ⟨x, rfl, hx⟩ := t_agg1 h
  obtain ⟨l, rfl, hl⟩ := c_sl hx fun e he => t_Nod he
  exact ⟨l, rfl, hl⟩
end Go.Gh

/- What the laws' marks are. -/
namespace Go.Gh
set_option linter.unusedSimpArgs false
set_option linter.unusedVariables false
theorem vIte (P : Program) (c : Prop) [Decidable c] (g : GV) (d : Option Nat) (is : List GI) (K : Env → GH → Prop) (env : Env) (H : GH) : valS P (if c then some g else none) d is K env H = (c ∧ gsteps P is K (gput env d g) H) := by
  by_cases h : c <;> simp [h, valS]
theorem nxF {ι : Type} {E : ι → Env} {G : ι → GH} {μ : ι → Nat} {i : ι} {e e' : Env} {H H' : GH} (j : ι) (hm : μ j < μ i) (hf : FE e H e' H') (h : subE e' (E j)) (hh : H' = G j) : Nx E G μ i e H := by
  subst hh
  exact ⟨j, FE.trans hf (FE.of h), hm⟩
theorem wloopN {P : Program} {cf : Cfg} (mxd : P.follows .mixedOrders = true) {ι : Type} {x : GC} {Q : Exit → Env → GH → Prop} {env : Env} {H : GH} (E : ι → Env) (G : ι → GH) (μ : ι → Nat) (i0 : ι) (h0 : subE env (E i0)) (hh : H = G i0)
    (round : ∀ i, (names (G i)).Nodup → gwp P cf x (thenG (Nx E G μ i) Q) (E i) (G i)) : GW P cf (.loop x) Q env H := by
  subst hh
  exact GW.loop E G μ i0 (FE.of h0) fun i => GW.names fun hn => gwp_ok mxd (round i hn)
theorem wloopF {P : Program} {cf : Cfg} (mxd : P.follows .mixedOrders = true) {ι : Type} {x : GC} {Q : Exit → Env → GH → Prop} {env env' : Env} {H H' : GH} (E : ι → Env) (G : ι → GH) (μ : ι → Nat) (i0 : ι) (hf : FE env H env' H') (h0 : subE env' (E i0)) (hh : H' = G i0)
    (round : ∀ i, (names (G i)).Nodup → GW P cf x (thenG (Nx E G μ i) Q) (E i) (G i)) : GW P cf (.loop x) Q env H := by
  subst hh
  exact GW.loop E G μ i0 (FE.trans hf (FE.of h0)) fun i => GW.names fun hn => round i hn
def dgt (k : Int) : UInt8 := UInt8.ofNat (IntKind.u8.wrap (IntKind.i64.wrap (48 + k.tmod 10))).toNat
def dig : Nat → Int → List UInt8 → List UInt8
  | 0, _, acc => acc
  | f + 1, k, acc => if 0 < k then dig f (k.tdiv 10) (dgt k :: acc) else acc
theorem dig_end : ∀ (f : Nat) {k : Int} (acc : List UInt8), ¬ 0 < k → dig f k acc = acc
  | 0, _, _, _ => rfl
  | f + 1, k, acc, h => by simp [dig, h]
def mtext (k : Int) : ByteArray := if k ≤ 0 then ⟨#[109, 48]⟩ else ⟨(109 :: dig k.toNat k []).toArray⟩
def upFrom : Int → Nat → List Int
  | _, 0 => []
  | k, n + 1 => k :: upFrom (k + 1) n
theorem upFrom_len : ∀ (n : Nat) (k : Int), (upFrom k n).length = n
  | 0, _ => rfl
  | n + 1, k => by simp [upFrom, upFrom_len n]
theorem upFrom_snoc : ∀ (n : Nat) (k : Int), upFrom k (n + 1) = upFrom k n ++ [k + n]
  | 0, k => by simp [upFrom]
  | n + 1, k => by rw [upFrom, upFrom_snoc n (k + 1)]; simp [upFrom]; omega
theorem upFrom_get : ∀ (n : Nat) (k : Int) (i : Nat) (h : i < (upFrom k n).length), (upFrom k n)[i] = k + i
  | 0, k, i, h => by simp [upFrom] at h
  | n + 1, k, 0, _ => by simp [upFrom]
  | n + 1, k, i + 1, h => by simp [upFrom, upFrom_get n (k + 1) i (by simpa [upFrom] using h)]; omega
abbrev NdO (x : Nod) : GV := .agg [I x.id, I x.parent, I x.place, I x.lit, T x.rule, .osl 1 (x.kids.map I)]
theorem view_NdO (t : List Nod) : (t.map NdO).map view = t.map Nd := by
  induction t with
  | nil => rfl
  | cons x t ih =>
    simp only [List.map_cons, ih, List.cons.injEq, and_true]
    simp [view, viewL, viewL_eq]
theorem viewL_NdO (t : List Nod) : viewL (t.map NdO) = t.map Nd := by rw [viewL_eq, view_NdO]
theorem bor_NdO {H : GH} {r n : Nat} {t : List Nod} (hr : hget H r = some (6, t.map NdO)) (hn : t.length = n) : Bor H (.own r 6 0 n) (NdS t) := by
  have := Bor.own (H := H) (k := 0) (n := n) hr (by simp [hn])
  rw [List.drop_zero, List.take_of_length_le (by simp [hn]), viewL_NdO] at this
  exact this
theorem bor_Tr {H : GH} {r n : Nat} {t : List Nod} (hr : hget H r = some (6, t.map NdO)) (hn : t.length = n) : Bor H (.agg [.own r 6 0 n]) (Tr t) := .agg (.cons (bor_NdO hr hn) .nil)
theorem bor_IS {H : GH} {r n : Nat} {l : List Int} (hr : hget H r = some (1, l.map I)) (hn : l.length = n) : Bor H (.own r 1 0 n) (IS l) := .all hr (by simp [hn]) (by simp [view])
def mkNod (k : Int) (x : Nod) : Nod := ⟨k, k + 1, k + 1 + 1, k + 1 + 1 + 1, mtext (k + 1 + 1 + 1 + 1), upFrom (k + 1 + 1 + 1 + 1 + 1) x.kids.length⟩
def mkNods : Int → List Nod → List Nod
  | _, [] => []
  | k, x :: t => mkNod k x :: mkNods (k + 5 + x.kids.length) t
def mkEnd : Int → List Nod → Int
  | k, [] => k
  | k, x :: t => mkEnd (k + 5 + x.kids.length) t
theorem FE.close2 {env : Env} {H : GH} {r r1 sz sz1 i j n : Nat} {L gs ks : List GV} (hne : r1 ≠ r) (hi : i < L.length) (hg : gs[j]? = some (.own r1 sz1 0 n)) (hn : ks.length = n) :
    FE env ((r1, sz1, ks) :: (r, sz, L.set i (.agg gs)) :: H) env ((r, sz, L.set i (.agg (gs.set j (.osl sz1 ks)))) :: H) := by
  have := FE.close (env := env) (H := (r1, sz1, ks) :: (r, sz, L.set i (.agg gs)) :: H) (r := r) (r1 := r1) (Ne.symm hne) (by rw [hget_old hne, hget_new]) (List.getElem?_set_self hi) hg hget_new hn
  rwa [hset_old hne, hset_new, hdel_new, List.set_set] at this
theorem FE.close3 {env : Env} {H : GH} {r r1 sz sz1 i j n : Nat} {L gs ks es0 : List GV} (hr : hget H r = some (sz, es0)) (hne : r1 ≠ r) (hi : i < L.length) (hg : gs[j]? = some (.own r1 sz1 0 n)) (hn : ks.length = n) :
    FE env ((r1, sz1, ks) :: hset H r (L.set i (.agg gs))) env (hset H r (L.set i (.agg (gs.set j (.osl sz1 ks))))) := by
  have := FE.close (env := env) (H := (r1, sz1, ks) :: hset H r (L.set i (.agg gs))) (r := r) (r1 := r1) (Ne.symm hne) (by rw [hget_old hne, hget_set hr]) (List.getElem?_set_self hi) hg hget_new hn
  rwa [hset_old hne, hset_set, hdel_new, List.set_set] at this
theorem mkNods_len : ∀ (k : Int) (t : List Nod), (mkNods k t).length = t.length
  | _, [] => rfl
  | k, x :: t => by simp [mkNods, mkNods_len _ t]
theorem mkNods_snoc : ∀ (k : Int) (t : List Nod) (x : Nod), mkNods k (t ++ [x]) = mkNods k t ++ [mkNod (mkEnd k t) x]
  | _, [], _ => rfl
  | k, y :: t, x => by simp [mkNods, mkEnd, mkNods_snoc _ t x]
theorem mkEnd_snoc : ∀ (k : Int) (t : List Nod) (x : Nod), mkEnd k (t ++ [x]) = mkEnd k t + 5 + x.kids.length
  | _, [], _ => rfl
  | k, y :: t, x => by simp [mkEnd, mkEnd_snoc _ t x]
theorem mkEnd_app : ∀ (k : Int) (t u : List Nod), mkEnd k (t ++ u) = mkEnd (mkEnd k t) u
  | _, [], _ => rfl
  | k, y :: t, u => by simp [mkEnd, mkEnd_app _ t u]
theorem mkEnd_le : ∀ (k : Int) (t : List Nod), k ≤ mkEnd k t
  | _, [] => Int.le_refl _
  | k, x :: t => by have := mkEnd_le (k + 5 + x.kids.length) t; simp only [mkEnd]; omega
theorem mkEnd_step {k : Int} {t : List Nod} {i : Nat} (h : i < t.length) : mkEnd k (t.take (i + 1)) = mkEnd k (t.take i) + 5 + t[i].kids.length := by
  rw [List.take_add_one, List.getElem?_eq_getElem h]; exact mkEnd_snoc _ _ _
theorem mkNods_step {k : Int} {t : List Nod} {i : Nat} (h : i < t.length) : mkNods k (t.take (i + 1)) = mkNods k (t.take i) ++ [mkNod (mkEnd k (t.take i)) t[i]] := by
  rw [List.take_add_one, List.getElem?_eq_getElem h]; exact mkNods_snoc _ _ _
theorem mkEnd_take {k : Int} {t : List Nod} (i : Nat) : mkEnd k (t.take i) ≤ mkEnd k t := by
  have := mkEnd_app k (t.take i) (t.drop i)
  rw [List.take_append_drop] at this
  rw [this]; exact mkEnd_le _ _
theorem mid_get {k : Int} {t : List Nod} {i : Nat} (h : i < t.length) (h' : i < (mkNods k (t.take i) ++ t.drop i).length) : (mkNods k (t.take i) ++ t.drop i)[i] = t[i] := by
  rw [List.getElem_append_right (by simp [mkNods_len]; omega)]
  have e : i + (i - (mkNods k (t.take i)).length) = i := by simp [mkNods_len]; omega
  simp only [List.getElem_drop, e]
theorem mid_set {k : Int} {t : List Nod} {i : Nat} (h : i < t.length) : (mkNods k (t.take i) ++ t.drop i).set i (mkNod (mkEnd k (t.take i)) t[i]) = mkNods k (t.take (i + 1)) ++ t.drop (i + 1) := by
  rw [List.set_append_right _ _ (by simp [mkNods_len]; omega), mkNods_step h]
  have e : i - (mkNods k (t.take i)).length = 0 := by simp [mkNods_len]; omega
  rw [e, List.drop_eq_getElem_cons h, List.set_cons_zero, List.append_assoc]
  rfl
theorem mkEnd_len : ∀ (k : Int) (t : List Nod), k + 5 * t.length ≤ mkEnd k t
  | _, [] => by simp [mkEnd]
  | k, x :: t => by have := mkEnd_len (k + 5 + x.kids.length) t; simp only [mkEnd, List.length_cons]; omega
theorem FE.swap {env : Env} {H : GH} {x y : Nat × Nat × List GV} : FE env (x :: y :: H) env (y :: x :: H) := by
  intro w0 D0 O0 N a w ⟨hdf, hsz, D, Ω, ρw, hi⟩
  obtain ⟨r1, sz1, es1⟩ := x
  obtain ⟨r2, sz2, es2⟩ := y
  obtain ⟨F1, G1, e1, h1, F2, F3, e2, h2, h3⟩ := hi.st.hm
  have hp : ∀ x, (F2 ++ (F1 ++ F3)).count x = Ω.count x := by
    intro x; rw [e1, e2]; simp only [List.count_append]; omega
  have hmem : ∀ x ∈ F2 ++ (F1 ++ F3), x ∈ Ω := fun x hx => by
    have := List.count_pos_iff.2 hx
    exact List.count_pos_iff.1 (by rw [← hp]; exact this)
  refine ⟨hdf, hsz, D, F2 ++ (F1 ++ F3), ρw, hi.st' ⟨⟨F2, _, rfl, h2, F1, F3, rfl, h1, h3⟩, ?_, ?_, fun x hx => hi.st.dj x (hmem x hx), hi.st.ds⟩ hmem⟩
  · rw [List.nodup_iff_count]
    intro x
    rw [hp]
    exact List.nodup_iff_count.1 hi.st.nd x
  · have := hi.st.nn
    simp only [names, List.map_cons, List.nodup_cons, List.mem_cons, not_or] at this ⊢
    exact ⟨⟨fun e => this.1.1 e.symm, this.2.1⟩, this.1.2, this.2.2⟩
theorem mkEnd_eq : ∀ (k : Int) (t : List Nod), mkEnd k t = k + 5 * t.length + ((t.map (·.kids.length)).sum : Nat)
  | k, [] => by simp [mkEnd]
  | k, x :: t => by
    have := mkEnd_eq (k + 5 + x.kids.length) t
    simp only [mkEnd, List.length_cons, List.map_cons, List.sum_cons]
    omega
theorem sum_le {α : Type} {f g : α → Nat} (h : ∀ a, f a ≤ g a) : ∀ l : List α, (l.map f).sum ≤ (l.map g).sum
  | [] => Nat.le_refl _
  | a :: l => by have := h a; have := sum_le h l; simp only [List.map_cons, List.sum_cons]; omega
theorem mkEnd_small {t : List Nod} {left : Int} (h : ¬ szv left (wtS wNd t) < 0) (hl : left ≤ 1048576 := by omega) : mkEnd 1 t ≤ 6291457 := by
  have h1 := szv_nn h
  have h2 := sum_le (f := fun x : Nod => x.kids.length) (g := wNd) (fun a => by simp only [wNd]; omega) t
  rw [mkEnd_eq]
  simp only [wtS] at h1
  omega
theorem callS.borA {P : Program} {K : Env → GH → Prop} {is : List GI} {env : Env} {H : GH} {d : Option Nat} {det : Bool} {f : FuncId} {gs gs' : List GV} {G : GV} (h : Pure P f gs' (· = G)) (hb : BorL H gs gs') (hs : scal G = true) (hk : gsteps P is K (gput env d G) H) : callS P det f (some gs) d is K env H := by
  cases det
  · exact callS.bor h hb hs hk
  · exact ⟨G, h.borrow hb (fun _ e => by rw [e]; exact hs), hk⟩
end Go.Gh

/- Expressions as plain data, and their ghosts. -/
namespace Go.Gh
set_option linter.unusedSimpArgs false
set_option linter.unusedVariables false
inductive Exp where
  | mk (kind n pos type : Int) (sym name : ByteArray) (args : List Exp)
def Exp.kind : Exp → Int | .mk k _ _ _ _ _ _ => k
def Exp.n : Exp → Int | .mk _ n _ _ _ _ _ => n
def Exp.pos : Exp → Int | .mk _ _ p _ _ _ _ => p
def Exp.type : Exp → Int | .mk _ _ _ t _ _ _ => t
def Exp.sym : Exp → ByteArray | .mk _ _ _ _ s _ _ => s
def Exp.name : Exp → ByteArray | .mk _ _ _ _ _ m _ => m
def Exp.args : Exp → List Exp | .mk _ _ _ _ _ _ a => a
mutual
def Ex : Exp → GV
  | .mk k n p t s m a => .agg [I k, I n, I p, I t, T s, T m, .sl 7 (ExL a)]
def ExL : List Exp → List GV
  | [] => []
  | e :: l => Ex e :: ExL l
end
theorem ExL_eq (l : List Exp) : ExL l = l.map Ex := by
  induction l with
  | nil => rfl
  | cons e l ih => simp [ExL, ih]
abbrev ExS (l : List Exp) : GV := .sl 7 (l.map Ex)
theorem Ex_eq (e : Exp) : Ex e = .agg [I e.kind, I e.n, I e.pos, I e.type, T e.sym, T e.name, ExS e.args] := by
  cases e; simp only [Ex, ExL_eq]; rfl
theorem Exp.ext_iff {x y : Exp} : x = y ↔ x.kind = y.kind ∧ x.n = y.n ∧ x.pos = y.pos ∧ x.type = y.type ∧ x.sym = y.sym ∧ x.name = y.name ∧ x.args = y.args := by
  cases x; cases y
  simp [Exp.kind, Exp.n, Exp.pos, Exp.type, Exp.sym, Exp.name, Exp.args]
mutual
theorem Exp.indA {p : Exp → Prop} (h : ∀ e, (∀ a ∈ e.args, p a) → p e) : ∀ e, p e
  | .mk k n q t s m a => h _ (Exp.indL h a)
theorem Exp.indL {p : Exp → Prop} (h : ∀ e, (∀ a ∈ e.args, p a) → p e) : ∀ (l : List Exp), ∀ a ∈ l, p a
  | [], a, hm => by cases hm
  | e :: l, a, hm => by
    have he : p e := Exp.indA h e
    have hl := Exp.indL h l
    rcases List.mem_cons.1 hm with rfl | hm
    · exact he
    · exact hl a hm
end
mutual
def wEx : Exp → Nat
  | .mk _ _ _ _ s m a => (chars s).length + (chars m).length + (a.length + wExL a)
def wExL : List Exp → Nat
  | [] => 0
  | e :: l => wEx e + wExL l
end
theorem wExL_eq (l : List Exp) : wExL l = (l.map wEx).sum := by
  induction l with
  | nil => rfl
  | cons e l ih => simp [wExL, ih]
theorem wEx_eq (e : Exp) : wEx e = (chars e.sym).length + (chars e.name).length + wtS wEx e.args := by
  cases e; simp only [wEx, wExL_eq, wtS]; rfl
mutual
def okE : Exp → Prop
  | .mk _ _ _ _ s m a => s.size ≤ maxLen ∧ m.size ≤ maxLen ∧ okEL a
def okEL : List Exp → Prop
  | [] => True
  | e :: l => okE e ∧ okEL l
end
theorem okEL_eq {l : List Exp} : okEL l ↔ ∀ a ∈ l, okE a := by
  induction l with
  | nil => simp [okEL]
  | cons e l ih => simp [okEL, ih]
theorem okE_eq {e : Exp} : okE e ↔ e.sym.size ≤ maxLen ∧ e.name.size ≤ maxLen ∧ ∀ a ∈ e.args, okE a := by
  cases e; simp only [okE, okEL_eq]; rfl
mutual
instance decExp : (x y : Exp) → Decidable (x = y)
  | .mk k n p t s m a, .mk k' n' p' t' s' m' a' =>
    match decExpL a a' with
    | isTrue h => decidable_of_iff (k = k' ∧ n = n' ∧ p = p' ∧ t = t' ∧ s = s' ∧ m = m') (by simp [h])
    | isFalse h => isFalse (by simp [h])
instance decExpL : (x y : List Exp) → Decidable (x = y)
  | [], [] => isTrue rfl
  | [], _ :: _ => isFalse (by simp)
  | _ :: _, [] => isFalse (by simp)
  | e :: l, e' :: l' => match decExp e e', decExpL l l' with
    | isTrue h, isTrue h' => isTrue (by rw [h, h'])
    | isFalse h, _ => isFalse (by simp [h])
    | _, isFalse h => isFalse (by simp [h])
end
theorem args_small {e : Exp} (h : wEx e ≤ 1048576) : e.args.length ≤ 1048576 ∧ ∀ a ∈ e.args, wEx a ≤ 1048576 := by
  rw [wEx_eq] at h
  simp only [wtS] at h
  refine ⟨by omega, fun a ha => ?_⟩
  have := sum_mem wEx e.args a ha
  omega
theorem isAgg_Ex (e : Exp) : isAgg (Ex e) = true := by rw [Ex_eq]; rfl
theorem geR_Ex (e : Exp) : geR (some (Ex e)) = some (Ex e) := by rw [Ex_eq]; rfl
theorem gsize_Ex (e : Exp) : gsize (Ex e) = 7 := by rw [Ex_eq]; rfl
theorem stor_Ex (e : Exp) : storable (Ex e) = true := by rw [Ex_eq]; rfl
theorem view_Ex (e : Exp) : view (Ex e) = Ex e := by rw [Ex_eq]; rfl
end Go.Gh

/- Arguments of recursive types, seen as ghosts. -/
namespace Go.Gh
open Go.RowKit Go.ChangeShapes Go.WideShapes Go.Deep
theorem open_sliceF {H : Type} {enc : TypeId × Value → H} {P : Program} {w : World} {base : Nat} {spare : Nat → Bool} {held : Bool} {t e : TypeId} {fuel : Nat} {cs : List Value} {x : DataW H × List MemPlace}
    (ht : P.underlying t = some (.slice e)) (h : DataW.trod enc P w base spare held fuel t cs = some x) :
    cs = [.slice none 0 0] ∨ ∃ (a : Addr) (len cap n : Nat), fuel = n + 1 ∧ cs = [.slice (some a) len cap] ∧ len ≤ cap ∧ cap ≤ maxLen ∧
      ∀ i, i < len → ∃ cs' y, w.cells? base (a.add (i * P.cellsOf e)) (P.cellsOf e) = some cs' ∧ DataW.trod enc P w base spare held n e cs' = some y := by
  rcases DataW.trod_slice ht h with h0 | ⟨a, len, cap, elems, rest, n, hn, rfl, rfl, hb, hl, hm, hlen, hel, hsp, hns⟩
  · exact .inl h0.1
  refine .inr ⟨a, len, cap, n, hn, rfl, hl, hm, fun i hi => ?_⟩
  have key := hel i hi
  rw [List.getElem?_eq_getElem (by omega)] at key
  obtain ⟨cs', h1, h2⟩ := Option.bind_eq_some_iff.1 key
  exact ⟨cs', _, h1, h2⟩
theorem Lf.mono1 {W : World} {t u : Ty} {cs : List Value} (h : Lf W [t] cs) (hq : ∀ g, CT t g → CT u g) : Lf W [u] cs := by
  obtain ⟨gs, h1, h2, h3⟩ := h
  simp only [CTs] at h2
  obtain ⟨g, gs', rfl, h2, rfl⟩ := h2
  exact ⟨[g], h1, by simp only [CTs]; exact ⟨g, [], rfl, hq g h2, rfl⟩, h3⟩
theorem slice_lf {P : Program} {W : World} {ag : Bool} {ts : List Ty} {e : TypeId} {a : Addr} {len cap : Nat} (hone : ag = false → ts.length = 1) (hsz : ts.length = P.cellsOf e) (hpos : 0 < ts.length)
    (hl : len ≤ cap) (hcap : cap ≤ maxLen) (hel : ∀ i, i < len → ∃ cs', W.cells? 0 (a.add (i * P.cellsOf e)) (P.cellsOf e) = some cs' ∧ Lf W ts cs') : Lf W [.sl ag ts] [.slice (some a) len cap] := by
  obtain ⟨es, cells, h1, h2, h3, h4⟩ := elems_ok (W := W) (a := a) (sz := P.cellsOf e) (Q := ET ag ts) len fun i hi => by
    obtain ⟨cs', k1, gs, m1, m2, m3⟩ := hel i hi
    refine ⟨cs', k1, ?_⟩
    cases ag
    · have hg := ML.len _ _ _ m1
      have hg2 := m2.len
      have hone := hone rfl
      match gs, cs', m1, hg, hg2 with
      | [g], [u], m1, _, _ =>
        simp only [ML] at m1
        obtain ⟨v', us, F1, F2, q1, q2, q3, q4, q5⟩ := m1
        have q6 : F1 = [] ∧ F2 = [] := by simpa using q2.symm
        obtain ⟨rfl, rfl⟩ := q6
        simp only [List.cons.injEq] at q1
        obtain ⟨rfl, rfl⟩ := q1
        have hu : u.cells = #[u] := cells1 (m3 u (by simp))
        exact ⟨u, g, by simp [hu], fun x hx => by rw [hu] at hx; simp at hx; subst hx; exact m3 _ (by simp), q3, [g], m2, by simp⟩
      | [], _, _, _, hg2 => simp at hg2; omega
      | _ :: _ :: _, _, _, _, hg2 => simp at hg2; omega
      | [_], [], _, hg, _ => simp at hg
      | [_], _ :: _ :: _, _, hg, _ => simp at hg
    · exact ⟨.agg cs'.toArray, .agg gs, by simp [Value.cells], fun x hx => m3 x (by simpa [Value.cells] using hx), by simp only [MV]; exact ⟨cs', rfl, m3, m1⟩, gs, m2, by simp⟩
  refine .one (g := .sl ts.length es) ?_ (by simp only [CT]; exact ⟨es, rfl, by simp only [maxL, maxLen] at *; omega, h3⟩) rfl
  simp only [MV]
  refine ⟨trivial, ?_⟩
  cases len with
  | zero =>
    left
    have : es = [] := by simpa using h1
    exact ⟨this, _, _, rfl⟩
  | succ len =>
    right
    have hl2 := MF.len _ _ _ _ h2
    have hpos : 0 < cells.length := by rw [hl2, h1, ← hsz]; exact Nat.mul_pos (by omega) hpos
    have h0 := h4 0 cells[0] (by simp [hpos])
    simp only [Addr.add, if_true] at h0
    unfold World.cell? at h0
    split at h0
    case h_2 => cases h0
    rename_i c T fz hb
    split at h0
    · cases h0
    rename_i hsp
    have hsp' : a.spot = none := by cases hs : a.spot <;> simp [hs] at hsp ⊢
    obtain ⟨ab, ao, ax⟩ := a
    simp only at hsp' hb h0
    subst hsp'
    refine ⟨ab, ao, cap, cells, by rw [h1], by omega, by simp only [maxL, maxLen] at *; omega, lt_of_heap hb, ⟨c, T, fz, hb, fun j u hj => ?_⟩, by rw [hsz]; exact h2⟩
    have := h4 j u hj
    rw [add_none] at this
    simpa [World.cell?, hb] using this
def tyR (P : Program) (R : TypeId → Option (GV → Prop)) : Nat → TypeId → Option (Bool × List Ty)
  | 0, _ => none
  | n + 1, t => match R t with
    | some Q => some (false, [.pr Q])
    | none => match P.underlying t with
      | some .bool => some (false, [.bool])
      | some (.int k) => some (false, [.int k])
      | some .string => some (false, [.str])
      | some (.slice e) => match tyR P R n e with
        | some (ag, ts) => if ts.length = P.cellsOf e ∧ 0 < ts.length then some (false, [.sl ag ts]) else none
        | none => none
      | some (.struct fs) => match fieldsTy P (tyR P R n) fs.toList 0 with
        | some ts => if ts.length = P.cellsOf t then some (true, ts) else none
        | none => none
      | _ => none
theorem tyR_one {P : Program} {R : TypeId → Option (GV → Prop)} : ∀ {n : Nat} {t : TypeId} {ts : List Ty}, tyR P R n t = some (false, ts) → ts.length = 1
  | 0, _, _, h => by simp [tyR] at h
  | n + 1, t, ts, he => by
    unfold tyR at he
    split at he
    · simp only [Option.some.injEq, Prod.mk.injEq] at he; rw [← he.2]; rfl
    split at he
    · simp only [Option.some.injEq, Prod.mk.injEq] at he; rw [← he.2]; rfl
    · simp only [Option.some.injEq, Prod.mk.injEq] at he; rw [← he.2]; rfl
    · simp only [Option.some.injEq, Prod.mk.injEq] at he; rw [← he.2]; rfl
    · split at he
      · split at he
        · simp only [Option.some.injEq, Prod.mk.injEq] at he; rw [← he.2]; rfl
        · cases he
      · cases he
    · split at he
      · split at he
        · simp only [Option.some.injEq, Prod.mk.injEq] at he; cases he.1
        · cases he
      · cases he
    · cases he
theorem liftR {H : Type} {enc : TypeId × Value → H} {P : Program} {W : World} {spare : Nat → Bool} {held : Bool} {R : TypeId → Option (GV → Prop)} : ∀ (n : Nat) {t : TypeId} {ag : Bool} {ts : List Ty} {fuel : Nat} {cs : List Value} {x : DataW H × List MemPlace},
    (∀ f, f ≤ fuel → ∀ t Q cs x, R t = some Q → DataW.trod enc P W 0 spare held f t cs = some x → Lf W [.pr Q] cs) →
    tyR P R n t = some (ag, ts) → DataW.trod enc P W 0 spare held fuel t cs = some x → Lf W ts cs
  | 0, _, _, _, _, _, _, _, h, _ => by simp [tyR] at h
  | n + 1, t, ag, ts, fuel, cs, x, hR, h, hx => by
    unfold tyR at h
    split at h
    · rename_i Q hq
      simp only [Option.some.injEq, Prod.mk.injEq] at h
      obtain ⟨rfl, rfl⟩ := h
      exact hR fuel (Nat.le_refl _) t Q cs x hq hx
    split at h
    · rename_i ht
      simp only [Option.some.injEq, Prod.mk.injEq] at h
      obtain ⟨rfl, rfl⟩ := h
      obtain ⟨b, rfl, _⟩ := DataW.trod_bool ht hx
      exact .one .val0 ⟨b, rfl⟩ rfl
    · rename_i k ht
      simp only [Option.some.injEq, Prod.mk.injEq] at h
      obtain ⟨rfl, rfl⟩ := h
      obtain ⟨b, rfl, _, hw⟩ := DataW.trod_int ht hx
      exact .one .val0 ⟨b, rfl, hw⟩ rfl
    · rename_i ht
      simp only [Option.some.injEq, Prod.mk.injEq] at h
      obtain ⟨rfl, rfl⟩ := h
      obtain ⟨b, rfl, _, hw⟩ := DataW.trod_string ht hx
      exact .one .val0 ⟨b, rfl, hw⟩ rfl
    · rename_i e ht
      split at h
      case h_2 => cases h
      rename_i ag' ts' he
      split at h
      case isFalse => cases h
      rename_i hc
      simp only [Option.some.injEq, Prod.mk.injEq] at h
      obtain ⟨rfl, rfl⟩ := h
      rcases open_sliceF ht hx with rfl | ⟨a, len, cap, n', rfl, rfl, hl, hcap, hel⟩
      · exact .one (g := .sl ts'.length []) (by simp only [MV]; exact ⟨trivial, .inl ⟨trivial, _, _, rfl⟩⟩) (by simp only [CT]; exact ⟨[], rfl, by simp [maxL], by simp⟩) rfl
      · refine slice_lf (fun ha => tyR_one (by rw [← ha]; exact he)) hc.1 hc.2 hl hcap fun i hi => ?_
        obtain ⟨cs', y, k1, k2⟩ := hel i hi
        exact ⟨cs', k1, liftR n (fun f hf => hR f (by omega)) he k2⟩
    · rename_i fs ht
      split at h
      case h_2 => cases h
      rename_i ts' hfs
      split at h
      case isFalse => cases h
      rename_i hlen
      simp only [Option.some.injEq, Prod.mk.injEq] at h
      obtain ⟨rfl, rfl⟩ := h
      obtain ⟨xs, n', hn, _, hl, hxs, hf⟩ := DataW.trod_struct ht hx
      have := fields_ok (W := W) (cs := cs) hfs fun f hfm a us hus => by
        obtain ⟨i, hi, hif⟩ := List.mem_iff_getElem.1 hfm
        have hi' : i < fs.size := by simpa using hi
        have := hf i f (by rw [← hif]; simp [hi'])
        rw [List.getElem?_eq_getElem (by omega)] at this
        exact liftR n (fun f hf => hR f (by omega)) hus this
      rw [List.drop_zero, List.take_of_length_le (by omega)] at this
      exact this
    · cases h
theorem knot {H : Type} {enc : TypeId × Value → H} {P : Program} {W : World} {spare : Nat → Bool} {held : Bool} {tA tE : TypeId} {Q : GV → Prop} (k : Nat) {ag : Bool} {ts : List Ty}
    (hA : P.underlying tA = some (.slice tE)) (hE : tyR P (fun t => if t = tA then some Q else none) k tE = some (ag, ts)) (hsz : ts.length = P.cellsOf tE) (hpos : 0 < ts.length)
    (hQ : ∀ g, CT (.sl ag ts) g → Q g) : ∀ fuel t Q' cs x, (fun t => if t = tA then some Q else none) t = some Q' → DataW.trod enc P W 0 spare held fuel t cs = some x → Lf W [.pr Q'] cs := by
  intro fuel
  induction fuel using Nat.strongRecOn with
  | ind fuel ih =>
    intro t Q' cs x ht hx
    simp only at ht
    split at ht
    case isFalse => cases ht
    rename_i hta
    subst hta
    simp only [Option.some.injEq] at ht
    subst ht
    refine Lf.mono1 (t := .sl ag ts) ?_ fun g hg => by simp only [CT]; exact hQ g hg
    rcases open_sliceF hA hx with rfl | ⟨a, len, cap, n', rfl, rfl, hl, hcap, hel⟩
    · exact .one (g := .sl ts.length []) (by simp only [MV]; exact ⟨trivial, .inl ⟨trivial, _, _, rfl⟩⟩) (by simp only [CT]; exact ⟨[], rfl, by simp [maxL], by simp⟩) rfl
    · refine slice_lf (fun ha => tyR_one (by rw [← ha]; exact hE)) hsz hpos hl hcap fun i hi => ?_
      obtain ⟨cs', y, k1, k2⟩ := hel i hi
      exact ⟨cs', k1, liftR k (fun f hf => ih f (by omega)) hE k2⟩
theorem lift_valR {H : Type} {enc : TypeId × Value → H} {P : Program} {W : World} {spare : Nat → Bool} {held : Bool} {r : Reach} {b0 : Nat} {R : TypeId → Option (GV → Prop)} (n : Nat) {t : TypeId} {ag : Bool} {ts : List Ty} {v : Value} {d : DataW H} {ps : List MemPlace}
    (hR : ∀ f, ∀ t Q cs x, R t = some Q → DataW.trod enc P W 0 spare held f t cs = some x → Lf W [.pr Q] cs)
    (hn : R t = none) (ht : tyR P R n t = some (ag, ts)) (hv : Value.okWide P W r b0 t v) (hx : DataW.Trod enc P W 0 spare held t v d ps) : ∃ g, MV W (below W) g v [] ∧ ET ag ts g := by
  obtain ⟨fuel, hx⟩ := hx
  obtain ⟨gs, h1, h2, h3⟩ := liftR n (fun f _ => hR f) ht hx
  cases n with
  | zero => simp [tyR] at ht
  | succ n =>
  have leaf : ag = false → v.oneCell' = true → ∃ g, MV W (below W) g v [] ∧ ET ag ts g := by
    intro ha hv1
    subst ha
    rw [cells1 hv1] at h1
    match gs, h1 with
    | [g], h1 =>
      simp only [ML] at h1
      obtain ⟨v', us, F1, F2, q1, q2, q3, q4, q5⟩ := h1
      have q6 : F1 = [] ∧ F2 = [] := by simpa using q2.symm
      obtain ⟨rfl, rfl⟩ := q6
      simp only [List.cons.injEq] at q1
      obtain ⟨rfl, rfl⟩ := q1
      exact ⟨g, q3, [g], h2, by simp⟩
    | [], h1 => have := ML.len _ _ _ h1; simp at this
    | _ :: _ :: _, h1 => have := ML.len _ _ _ h1; simp at this
  unfold tyR at ht
  split at ht
  · rename_i Q hq
    rw [hn] at hq; cases hq
  split at ht
  · rename_i hu
    simp only [Option.some.injEq, Prod.mk.injEq] at ht
    refine leaf ht.1.symm ?_
    simp only [Value.okWide, hu, Cell.okWide] at hv
    cases v <;> simp_all [Cell.ok, Value.oneCell']
  · rename_i k hu
    simp only [Option.some.injEq, Prod.mk.injEq] at ht
    refine leaf ht.1.symm ?_
    simp only [Value.okWide, hu, Cell.okWide] at hv
    cases v <;> simp_all [Cell.ok, Value.oneCell']
  · rename_i hu
    simp only [Option.some.injEq, Prod.mk.injEq] at ht
    refine leaf ht.1.symm ?_
    simp only [Value.okWide, hu, Cell.okWide] at hv
    cases v <;> simp_all [Cell.ok, Value.oneCell']
  · rename_i e hu
    have ha : ag = false := by
      split at ht
      · split at ht
        · simp only [Option.some.injEq, Prod.mk.injEq] at ht; exact ht.1.symm
        · cases ht
      · cases ht
    refine leaf ha ?_
    simp only [Value.okWide, hu, Cell.okWide] at hv
    cases v <;> simp_all [Cell.ok, Value.oneCell']
  · rename_i fs hu
    have ha : ag = true := by
      split at ht
      · split at ht
        · simp only [Option.some.injEq, Prod.mk.injEq] at ht; exact ht.1.symm
        · cases ht
      · cases ht
    subst ha
    obtain ⟨cs, rfl, _⟩ := okWide_struct hu hv
    exact ⟨.agg gs, by simp only [MV]; exact ⟨cs.toList, by simp, fun x hx => h3 x (by simpa [Value.cells] using hx), by simpa [Value.cells] using h1⟩, gs, h2, by simp⟩
  · cases ht
end Go.Gh

/- Expressions as arguments of statements. -/
namespace Go.Gh
set_option linter.unusedSimpArgs false
set_option linter.unusedVariables false
def ExQ (g : GV) : Prop := ∃ l : List Exp, g = ExS l ∧ ∀ a ∈ l, okE a
abbrev ExT : List Ty := [.int .i64, .int .i64, .int .i64, .int .i64, .str, .str, .pr ExQ]
theorem t_Exp {g : GV} (h : ET true ExT g) : ∃ e : Exp, g = Ex e ∧ okE e := by
  obtain ⟨gs, k1, k2⟩ := h
  simp only [CTs, CT, ExQ] at k1
  obtain ⟨_, _, rfl, ⟨k, rfl, _⟩, _, _, rfl, ⟨n, rfl, _⟩, _, _, rfl, ⟨p, rfl, _⟩, _, _, rfl, ⟨t, rfl, _⟩, _, _, rfl, ⟨s, rfl, hs⟩, _, _, rfl, ⟨m, rfl, hm⟩, _, _, rfl, ⟨l, rfl, hl⟩, rfl⟩ := k1
  refine ⟨.mk k n p t s m l, ?_, okE_eq.2 ⟨hs, hm, hl⟩⟩
  rw [Ex_eq]
  exact k2
theorem exQ {g : GV} (h : CT (.sl true ExT) g) : ExQ g := by
  obtain ⟨l, rfl, hl⟩ := c_sl h fun e he => t_Exp he
  exact ⟨l, rfl, hl⟩
end Go.Gh

/- Values and operators, as plain functions. -/
namespace Go.Gh
set_option linter.unusedSimpArgs false
set_option linter.unusedVariables false
def satV (n : Int) : Int := max (-1000000) (min 1000000 n)
def trV (b : Bool) : Int := if b then 1 else 0
def coV (v k : Int) : Int := if k = 1 then satV v else if k = 2 then andI .i64 v 4095 else if k = 3 then trV (!decide (v = 0)) else if k = 4 ∧ 0 ≤ v ∧ v ≤ 999 then v else 0
def okV (v k : Int) : Bool := decide (1 ≤ k ∧ k ≤ 4) && decide (coV v k = v)
end Go.Gh

/- Counts of an expression. -/
namespace Go.Gh
set_option linter.unusedSimpArgs false
set_option linter.unusedVariables false
end Go.Gh

/- Predicates on all nodes of an expression. -/
namespace Go.Gh
set_option linter.unusedSimpArgs false
set_option linter.unusedVariables false
theorem any_ix {α : Type} (p : α → Bool) (l : List α) : decide (0 ≤ ixOf p l) = l.any p := by
  unfold ixOf
  cases h : l.findIdx? p with
  | none =>
    have := List.findIdx?_eq_none_iff.1 h
    simp; exact this
  | some i =>
    obtain ⟨h1, h2, _⟩ := List.findIdx?_eq_some_iff_getElem.1 h
    simp
    exact ⟨l[i], List.getElem_mem h1, h2⟩
end Go.Gh

/- Names. -/
namespace Go.Gh
set_option linter.unusedSimpArgs false
set_option linter.unusedVariables false
end Go.Gh

/- Names: steps. -/
namespace Go.Gh
set_option linter.unusedSimpArgs false
set_option linter.unusedVariables false
end Go.Gh

/- Valid nodes. -/
namespace Go.Gh
set_option linter.unusedSimpArgs false
set_option linter.unusedVariables false
def noS : ByteArray := ⟨#[]⟩
end Go.Gh

/- Symbols, rules and grammars as plain data, and their ghosts. -/
namespace Go.Gh
set_option linter.unusedSimpArgs false
set_option linter.unusedVariables false
theorem nraw_Ex (e : Exp) : nraw (Ex e) = true := by rw [Ex_eq]; rfl
theorem clean_Ex (e : Exp) : clean (Ex e) = true := by rw [Ex_eq]; rfl
theorem sub_Ex0 (e : Exp) : sub (Ex e) 0 1 false = some (I e.kind) := by rw [Ex_eq]; rfl
theorem sub_Ex1 (e : Exp) : sub (Ex e) 1 1 false = some (I e.n) := by rw [Ex_eq]; rfl
theorem sub_Ex2 (e : Exp) : sub (Ex e) 2 1 false = some (I e.pos) := by rw [Ex_eq]; rfl
theorem sub_Ex3 (e : Exp) : sub (Ex e) 3 1 false = some (I e.type) := by rw [Ex_eq]; rfl
theorem sub_Ex4 (e : Exp) : sub (Ex e) 4 1 false = some (T e.sym) := by rw [Ex_eq]; rfl
theorem sub_Ex5 (e : Exp) : sub (Ex e) 5 1 false = some (T e.name) := by rw [Ex_eq]; rfl
theorem sub_Ex6 (e : Exp) : sub (Ex e) 6 1 false = some (ExS e.args) := by rw [Ex_eq]; rfl
theorem fold_Ex (e : Exp) : GV.agg [I e.kind, I e.n, I e.pos, I e.type, T e.sym, T e.name, .sl 7 (e.args.map Ex)] = Ex e := (Ex_eq e).symm
abbrev ExC (e : Exp) : List GV := [I e.kind, I e.n, I e.pos, I e.type, T e.sym, T e.name, ExS e.args]
theorem upd_Ex (gs : List GV) (o : Nat) (e : Exp) : upd (.agg gs) o (Ex e) = if o + 7 ≤ gs.length then some (.agg (gs.take o ++ (ExC e ++ gs.drop (o + 7)))) else none := by rw [Ex_eq]; rfl
theorem upd_ExO (e : Exp) (o r sz k n : Nat) : upd (Ex e) o (.own r sz k n) = if o < 7 then some (.agg ((ExC e).set o (.own r sz k n))) else none := by rw [Ex_eq]; rfl
theorem XE : type_of% (And.intro @isAgg_Ex (And.intro @geR_Ex (And.intro @gsize_Ex (And.intro @stor_Ex (And.intro @nraw_Ex (And.intro @clean_Ex (And.intro @sub_Ex0 (And.intro @sub_Ex1 (And.intro @sub_Ex2 (And.intro @sub_Ex3 (And.intro @sub_Ex4 (And.intro @sub_Ex5 (And.intro @sub_Ex6 (And.intro @fold_Ex (And.intro @upd_ExO @upd_Ex))))))))))))))) :=
  And.intro @isAgg_Ex (And.intro @geR_Ex (And.intro @gsize_Ex (And.intro @stor_Ex (And.intro @nraw_Ex (And.intro @clean_Ex (And.intro @sub_Ex0 (And.intro @sub_Ex1 (And.intro @sub_Ex2 (And.intro @sub_Ex3 (And.intro @sub_Ex4 (And.intro @sub_Ex5 (And.intro @sub_Ex6 (And.intro @fold_Ex (And.intro @upd_ExO @upd_Ex))))))))))))))
@[ext] structure Att where
  name : ByteArray
  type : Int
  mode : Int
  circ : Bool
deriving DecidableEq
abbrev At (x : Att) : GV := .agg [T x.name, I x.type, I x.mode, B x.circ]
abbrev AtS (l : List Att) : GV := .sl 4 (l.map At)
abbrev wAt (x : Att) : Nat := (chars x.name).length
@[ext] structure Sym where
  name : ByteArray
  atts : List Att
deriving DecidableEq
abbrev Sy (x : Sym) : GV := .agg [T x.name, AtS x.atts]
abbrev SyS (l : List Sym) : GV := .sl 2 (l.map Sy)
abbrev wSy (x : Sym) : Nat := (chars x.name).length + wtS wAt x.atts
@[ext] structure Eqn where
  pos : Int
  name : ByteArray
  expr : Exp
deriving DecidableEq
abbrev Qn (x : Eqn) : GV := .agg [I x.pos, T x.name, I x.expr.kind, I x.expr.n, I x.expr.pos, I x.expr.type, T x.expr.sym, T x.expr.name, ExS x.expr.args]
abbrev QnS (l : List Eqn) : GV := .sl 9 (l.map Qn)
abbrev wEq (x : Eqn) : Nat := (chars x.name).length + wEx x.expr
@[ext] structure Con where
  sym : ByteArray
  name : ByteArray
  goal : Exp
  value : Exp
deriving DecidableEq
abbrev Co (x : Con) : GV := .agg [T x.sym, T x.name, I x.goal.kind, I x.goal.n, I x.goal.pos, I x.goal.type, T x.goal.sym, T x.goal.name, ExS x.goal.args, I x.value.kind, I x.value.n, I x.value.pos, I x.value.type, T x.value.sym, T x.value.name, ExS x.value.args]
abbrev CoS (l : List Con) : GV := .sl 16 (l.map Co)
abbrev wCo (x : Con) : Nat := (chars x.sym).length + (chars x.name).length + wEx x.goal + wEx x.value
abbrev TS (l : List ByteArray) : GV := .sl 1 (l.map T)
abbrev wT (s : ByteArray) : Nat := (chars s).length
@[ext] structure Rul where
  name : ByteArray
  left : ByteArray
  right : List ByteArray
  lit : Bool
  eqs : List Eqn
  cons : List Con
deriving DecidableEq
abbrev Ru (x : Rul) : GV := .agg [T x.name, T x.left, TS x.right, B x.lit, QnS x.eqs, CoS x.cons]
abbrev RuS (l : List Rul) : GV := .sl 6 (l.map Ru)
abbrev wRu (x : Rul) : Nat := (chars x.name).length + (chars x.left).length + wtS wT x.right + wtS wEq x.eqs + wtS wCo x.cons
@[ext] structure Gram where
  syms : List Sym
  rules : List Rul
deriving DecidableEq
abbrev Gr (g : Gram) : GV := .agg [SyS g.syms, RuS g.rules]
abbrev wGr (g : Gram) : Nat := wtS wSy g.syms + wtS wRu g.rules
def okAt (x : Att) : Prop := x.name.size ≤ maxLen
def okSy (x : Sym) : Prop := x.name.size ≤ maxLen ∧ ∀ a ∈ x.atts, okAt a
def okEq (x : Eqn) : Prop := x.name.size ≤ maxLen ∧ okE x.expr
def okCo (x : Con) : Prop := x.sym.size ≤ maxLen ∧ x.name.size ≤ maxLen ∧ okE x.goal ∧ okE x.value
def okRu (x : Rul) : Prop := x.name.size ≤ maxLen ∧ x.left.size ≤ maxLen ∧ (∀ s ∈ x.right, s.size ≤ maxLen) ∧ (∀ q ∈ x.eqs, okEq q) ∧ ∀ c ∈ x.cons, okCo c
def okGr (g : Gram) : Prop := (∀ s ∈ g.syms, okSy s) ∧ ∀ r ∈ g.rules, okRu r
def smSy (x : Sym) : Prop := x.atts.length ≤ 1048576
def smEq (x : Eqn) : Prop := wEx x.expr ≤ 1048576
def smCo (x : Con) : Prop := wEx x.goal ≤ 1048576 ∧ wEx x.value ≤ 1048576
def smRu (x : Rul) : Prop := x.right.length ≤ 1048576 ∧ x.eqs.length ≤ 1048576 ∧ x.cons.length ≤ 1048576 ∧ (∀ q ∈ x.eqs, smEq q) ∧ ∀ c ∈ x.cons, smCo c
def smGr (g : Gram) : Prop := g.syms.length ≤ 1048576 ∧ g.rules.length ≤ 1048576 ∧ (∀ s ∈ g.syms, smSy s) ∧ ∀ r ∈ g.rules, smRu r
theorem wtS_mem {α : Type} {wt : α → Nat} {l : List α} {n : Nat} (h : wtS wt l ≤ n) : l.length ≤ n ∧ ∀ a ∈ l, wt a ≤ n := by
  simp only [wtS] at h
  exact ⟨by omega, fun a ha => by have := sum_mem wt l a ha; omega⟩
theorem smRu_of {x : Rul} (h : wRu x ≤ 1048576) : smRu x := by
  simp only [wRu] at h
  obtain ⟨h1, _⟩ := wtS_mem (wt := wT) (l := x.right) (n := 1048576) (by omega)
  obtain ⟨h2, h3⟩ := wtS_mem (wt := wEq) (l := x.eqs) (n := 1048576) (by omega)
  obtain ⟨h4, h5⟩ := wtS_mem (wt := wCo) (l := x.cons) (n := 1048576) (by omega)
  exact ⟨h1, h2, h4, fun q hq => by have := h3 q hq; simp only [wEq] at this; unfold smEq; omega, fun c hc => by have := h5 c hc; simp only [wCo] at this; unfold smCo; omega⟩
theorem smGr_of {g : Gram} (h : wGr g ≤ 1048576) : smGr g := by
  simp only [wGr] at h
  obtain ⟨h1, h2⟩ := wtS_mem (wt := wSy) (l := g.syms) (n := 1048576) (by omega)
  obtain ⟨h3, h4⟩ := wtS_mem (wt := wRu) (l := g.rules) (n := 1048576) (by omega)
  refine ⟨h1, h3, fun s hs => ?_, fun r hr => smRu_of (h4 r hr)⟩
  have := h2 s hs
  simp only [wSy, wtS] at this
  unfold smSy; omega
theorem getD_lt {α : Type} {l : List α} {i : Nat} {d : α} (h : i < l.length) : l.getD i d = l[i] := by
  rw [List.getD_eq_getElem?_getD, List.getElem?_eq_getElem h]; rfl
def symZ : Sym := ⟨noS, []⟩
def attZ : Att := ⟨noS, 0, 0, false⟩
def rulZ : Rul := ⟨noS, noS, [], false, [], []⟩
def fSym (l : List Sym) (n : ByteArray) : Sym := (l.find? fun s => decide (s.name = n)).getD symZ
def hSym (l : List Sym) (n : ByteArray) : Bool := (l.find? fun s => decide (s.name = n)).isSome
def fRul (l : List Rul) (n : ByteArray) : Rul := (l.find? fun s => decide (s.name = n)).getD rulZ
def hRul (l : List Rul) (n : ByteArray) : Bool := (l.find? fun s => decide (s.name = n)).isSome
def fAtt (l : List Att) (n : ByteArray) : Att := (l.find? fun s => decide (s.name = n)).getD attZ
def hAtt (l : List Att) (n : ByteArray) : Bool := (l.find? fun s => decide (s.name = n)).isSome
theorem fRul_mem (l : List Rul) (n : ByteArray) : fRul l n ∈ l ∨ fRul l n = rulZ := by
  unfold fRul
  cases h : l.find? fun s => decide (s.name = n) with
  | none => exact .inr rfl
  | some a => exact .inl (List.mem_of_find?_eq_some h)
theorem fSym_mem (l : List Sym) (n : ByteArray) : fSym l n ∈ l ∨ fSym l n = symZ := by
  unfold fSym
  cases h : l.find? fun s => decide (s.name = n) with
  | none => exact .inr rfl
  | some a => exact .inl (List.mem_of_find?_eq_some h)
theorem smRu_f {g : Gram} (h : smGr g) (n : ByteArray) : smRu (fRul g.rules n) := by
  rcases fRul_mem g.rules n with h1 | h1
  · exact h.2.2.2 _ h1
  · rw [h1]; simp [smRu, rulZ]
theorem smSy_f {g : Gram} (h : smGr g) (n : ByteArray) : smSy (fSym g.syms n) := by
  rcases fSym_mem g.syms n with h1 | h1
  · exact h.2.2.1 _ h1
  · rw [h1]; simp [smSy, symZ]
def nodZ : Nod := ⟨0, 0, 0, 0, noS, []⟩
def symN (g : Gram) (t : List Nod) (i : Int) : ByteArray := if 0 ≤ i ∧ i < t.length then (fRul g.rules (t.getD i.toNat nodZ).rule).left else noS
theorem symN_in {g : Gram} {t : List Nod} {i : Nat} (h : i < t.length) : symN g t i = (fRul g.rules t[i].rule).left := by
  simp only [symN, Int.toNat_natCast]
  rw [if_pos (by omega), getD_lt h]
theorem symN_out {g : Gram} {t : List Nod} {i : Int} (h : ¬ (0 ≤ i ∧ i < t.length)) : symN g t i = noS := by simp only [symN, if_neg h]
def attN (g : Gram) (t : List Nod) (n : Int) (name : ByteArray) : Att := if 0 ≤ ixOf (fun y => decide (y.id = n)) t then fAtt (fSym g.syms (symN g t (ixOf (fun y => decide (y.id = n)) t))).atts name else attZ
def hasN (g : Gram) (t : List Nod) (n : Int) (name : ByteArray) : Bool := if 0 ≤ ixOf (fun y => decide (y.id = n)) t then hAtt (fSym g.syms (symN g t (ixOf (fun y => decide (y.id = n)) t))).atts name else false
theorem ixOf_cases {α : Type} (p : α → Bool) (xs : List α) : ixOf p xs = -1 ∨ (0 ≤ ixOf p xs ∧ ixOf p xs < xs.length) := by
  unfold ixOf
  cases h : xs.findIdx? p with
  | none => exact .inl rfl
  | some i =>
    obtain ⟨h1, _, _⟩ := List.findIdx?_eq_some_iff_getElem.1 h
    exact .inr ⟨by simp, by simpa using h1⟩
abbrev Ins (x : Int × ByteArray) : GV := .agg [I x.1, T x.2]
abbrev InsS (l : List (Int × ByteArray)) : GV := .sl 2 (l.map Ins)
end Go.Gh

/- Instances of a tree. -/
namespace Go.Gh
set_option linter.unusedSimpArgs false
set_option linter.unusedVariables false
def nodeAt (t : List Nod) (i pos : Int) : Option Int :=
  if 0 ≤ i ∧ i < t.length ∧ 0 ≤ pos ∧ pos ≤ (t.getD i.toNat nodZ).kids.length then
    let k := if pos = 0 then i else (t.getD i.toNat nodZ).kids.getD (pos - 1).toNat 0
    if 0 ≤ k ∧ k < t.length then some k else none
  else none
def instAt (t : List Nod) (i : Int) (o : Int × ByteArray) : (Int × ByteArray) × Bool :=
  match nodeAt t i o.1 with
  | some k => (((t.getD k.toNat nodZ).id, o.2), true)
  | none => ((0, noS), false)
theorem inst0 {t : List Nod} {i : Nat} {o : Int × ByteArray} (hi : i < t.length) (h0 : o.1 = 0) : instAt t i o = ((t[i].id, o.2), true) := by
  simp only [instAt, nodeAt, Int.toNat_natCast, getD_lt hi, h0]
  rw [if_pos (by omega)]
  simp only [if_true]
  rw [if_pos (by omega)]
  simp only [Int.toNat_natCast, getD_lt hi]
theorem inst1 {t : List Nod} {i : Nat} {o : Int × ByteArray} (hi : i < t.length) (h1 : 1 ≤ o.1) (hj : (o.1 - 1).toNat < t[i].kids.length) (hk : 0 ≤ t[i].kids[(o.1 - 1).toNat]) (hl : (t[i].kids[(o.1 - 1).toNat]).toNat < t.length) :
    instAt t i o = ((t[(t[i].kids[(o.1 - 1).toNat]).toNat].id, o.2), true) := by
  simp only [instAt, nodeAt, Int.toNat_natCast, getD_lt hi]
  have e : (if o.1 = 0 then (i : Int) else t[i].kids.getD (o.1 - 1).toNat 0) = t[i].kids[(o.1 - 1).toNat] := by rw [if_neg (by omega), getD_lt hj]
  rw [if_pos (by omega)]
  simp only [e]
  rw [if_pos (by omega)]
  simp only [getD_lt hl]
theorem inst2 {t : List Nod} {i : Nat} {o : Int × ByteArray} (hi : i < t.length) (h1 : 1 ≤ o.1) (hj : (o.1 - 1).toNat < t[i].kids.length) (hk : ¬ (0 ≤ t[i].kids[(o.1 - 1).toNat] ∧ t[i].kids[(o.1 - 1).toNat] < t.length)) :
    instAt t i o = ((0, noS), false) := by
  simp only [instAt, nodeAt, Int.toNat_natCast, getD_lt hi]
  have e : (if o.1 = 0 then (i : Int) else t[i].kids.getD (o.1 - 1).toNat 0) = t[i].kids[(o.1 - 1).toNat] := by rw [if_neg (by omega), getD_lt hj]
  rw [if_pos (by omega)]
  simp only [e]
  rw [if_neg (by omega)]
theorem inst3 {t : List Nod} {i : Nat} {o : Int × ByteArray} (hi : i < t.length) (h : ¬ (0 ≤ o.1 ∧ o.1 ≤ t[i].kids.length)) : instAt t i o = ((0, noS), false) := by
  simp only [instAt, nodeAt, Int.toNat_natCast, getD_lt hi]
  rw [if_neg (by omega)]
theorem inst4 {t : List Nod} {i : Int} {o : Int × ByteArray} (h : ¬ (0 ≤ i ∧ i < t.length)) : instAt t i o = ((0, noS), false) := by
  simp only [instAt, nodeAt]
  rw [if_neg (by omega)]
end Go.Gh

/- Grammars as arguments of statements. -/
namespace Go.Gh
set_option linter.unusedSimpArgs false
set_option linter.unusedVariables false
theorem t_T {g : GV} (h : ET false [.str] g) : ∃ s : ByteArray, g = T s ∧ s.size ≤ maxLen := by
  obtain ⟨s, rfl, hs⟩ := t_one h
  exact ⟨s, rfl, hs⟩
abbrev AtT : List Ty := [.str, .int .i64, .int .i64, .bool]
theorem t_Att {g : GV} (h : ET true AtT g) : ∃ x : Att, g = At x ∧ okAt x := by
  obtain ⟨gs, k1, k2⟩ := h
  simp only [CTs, CT] at k1
  obtain ⟨_, _, rfl, ⟨s, rfl, hs⟩, _, _, rfl, ⟨a, rfl, _⟩, _, _, rfl, ⟨b, rfl, _⟩, _, _, rfl, ⟨c, rfl⟩, rfl⟩ := k1
  exact ⟨⟨s, a, b, c⟩, by simpa using k2, hs⟩
abbrev SyT : List Ty := [.str, .sl true AtT]
theorem t_Sym {g : GV} (h : ET true SyT g) : ∃ x : Sym, g = Sy x ∧ okSy x := by
  obtain ⟨gs, k1, k2⟩ := h
  rw [CTs] at k1
  obtain ⟨_, _, rfl, h1, k1⟩ := k1
  rw [CTs] at k1
  obtain ⟨_, _, rfl, h2, k1⟩ := k1
  simp only [CTs] at k1
  subst k1
  obtain ⟨l, rfl, hl⟩ := c_sl h2 fun e he => t_Att he
  simp only [CT] at h1
  obtain ⟨s, rfl, hs⟩ := h1
  exact ⟨⟨s, l⟩, by simpa using k2, hs, hl⟩
abbrev QnT : List Ty := [.int .i64, .str, .int .i64, .int .i64, .int .i64, .int .i64, .str, .str, .pr ExQ]
theorem t_Eqn {g : GV} (h : ET true QnT g) : ∃ x : Eqn, g = Qn x ∧ okEq x := by
  obtain ⟨gs, k1, k2⟩ := h
  simp only [CTs, CT, ExQ] at k1
  obtain ⟨_, _, rfl, ⟨i, rfl, _⟩, _, _, rfl, ⟨u, rfl, hu⟩, _, _, rfl, ⟨k, rfl, _⟩, _, _, rfl, ⟨n, rfl, _⟩, _, _, rfl, ⟨p, rfl, _⟩, _, _, rfl, ⟨t, rfl, _⟩, _, _, rfl, ⟨s, rfl, hs⟩, _, _, rfl, ⟨m, rfl, hm⟩, _, _, rfl, ⟨l, rfl, hl⟩, rfl⟩ := k1
  exact ⟨⟨i, u, .mk k n p t s m l⟩, k2, hu, okE_eq.2 ⟨hs, hm, hl⟩⟩
abbrev CoT : List Ty := [.str, .str, .int .i64, .int .i64, .int .i64, .int .i64, .str, .str, .pr ExQ, .int .i64, .int .i64, .int .i64, .int .i64, .str, .str, .pr ExQ]
theorem t_Con {g : GV} (h : ET true CoT g) : ∃ x : Con, g = Co x ∧ okCo x := by
  obtain ⟨gs, k1, k2⟩ := h
  simp only [CTs, CT, ExQ] at k1
  obtain ⟨_, _, rfl, ⟨a, rfl, ha⟩, _, _, rfl, ⟨b, rfl, hb⟩, _, _, rfl, ⟨k, rfl, _⟩, _, _, rfl, ⟨n, rfl, _⟩, _, _, rfl, ⟨p, rfl, _⟩, _, _, rfl, ⟨t, rfl, _⟩, _, _, rfl, ⟨s, rfl, hs⟩, _, _, rfl, ⟨m, rfl, hm⟩, _, _, rfl, ⟨l, rfl, hl⟩,
    _, _, rfl, ⟨k', rfl, _⟩, _, _, rfl, ⟨n', rfl, _⟩, _, _, rfl, ⟨p', rfl, _⟩, _, _, rfl, ⟨t', rfl, _⟩, _, _, rfl, ⟨s', rfl, hs'⟩, _, _, rfl, ⟨m', rfl, hm'⟩, _, _, rfl, ⟨l', rfl, hl'⟩, rfl⟩ := k1
  exact ⟨⟨a, b, .mk k n p t s m l, .mk k' n' p' t' s' m' l'⟩, k2, ha, hb, okE_eq.2 ⟨hs, hm, hl⟩, okE_eq.2 ⟨hs', hm', hl'⟩⟩
abbrev RuT : List Ty := [.str, .str, .sl false [.str], .bool, .sl true QnT, .sl true CoT]
theorem t_Rul {g : GV} (h : ET true RuT g) : ∃ x : Rul, g = Ru x ∧ okRu x := by
  obtain ⟨gs, k1, k2⟩ := h
  rw [CTs] at k1
  obtain ⟨_, _, rfl, h1, k1⟩ := k1
  rw [CTs] at k1
  obtain ⟨_, _, rfl, h2, k1⟩ := k1
  rw [CTs] at k1
  obtain ⟨_, _, rfl, h3, k1⟩ := k1
  rw [CTs] at k1
  obtain ⟨_, _, rfl, h4, k1⟩ := k1
  rw [CTs] at k1
  obtain ⟨_, _, rfl, h5, k1⟩ := k1
  rw [CTs] at k1
  obtain ⟨_, _, rfl, h6, k1⟩ := k1
  simp only [CTs] at k1
  subst k1
  obtain ⟨l3, rfl, hl3⟩ := c_sl h3 fun e he => t_T he
  obtain ⟨l5, rfl, hl5⟩ := c_sl h5 fun e he => t_Eqn he
  obtain ⟨l6, rfl, hl6⟩ := c_sl h6 fun e he => t_Con he
  simp only [CT] at h1 h2 h4
  obtain ⟨a, rfl, ha⟩ := h1
  obtain ⟨b, rfl, hb⟩ := h2
  obtain ⟨c, rfl⟩ := h4
  exact ⟨⟨a, b, l3, c, l5, l6⟩, k2, ha, hb, hl3, hl5, hl6⟩
abbrev GrT : List Ty := [.sl true SyT, .sl true RuT]
theorem t_Gr {g : GV} (h : ET true GrT g) : ∃ x : Gram, g = Gr x ∧ okGr x := by
  obtain ⟨gs, k1, k2⟩ := h
  rw [CTs] at k1
  obtain ⟨_, _, rfl, h1, k1⟩ := k1
  rw [CTs] at k1
  obtain ⟨_, _, rfl, h2, k1⟩ := k1
  simp only [CTs] at k1
  subst k1
  obtain ⟨l1, rfl, hl1⟩ := c_sl h1 fun e he => t_Sym he
  obtain ⟨l2, rfl, hl2⟩ := c_sl h2 fun e he => t_Rul he
  exact ⟨⟨l1, l2⟩, k2, hl1, hl2⟩
end Go.Gh

/- Trees of a grammar; types of expressions. -/
namespace Go.Gh
set_option linter.unusedSimpArgs false
set_option linter.unusedVariables false
def gid (t : List Nod) (i : Nat) : Bool := decide (1 ≤ (t.getD i nodZ).id ∧ (t.getD i nodZ).id ≤ 999) && !((t.take i).any fun y => decide (y.id = (t.getD i nodZ).id))
def idsV (t : List Nod) : Bool := (List.range t.length).all (gid t)
theorem idsV_bad {t : List Nod} {i : Nat} (h : i < t.length) (hb : gid t i = false) : idsV t = false := by
  simp only [idsV, List.all_eq_false, List.mem_range]
  exact ⟨i, h, by simp [hb]⟩
theorem idsV_ok {t : List Nod} (h : ∀ j, j < t.length → gid t j = true) : idsV t = true := by
  simp only [idsV, List.all_eq_true, List.mem_range]
  exact h
def fitV (g : Gram) (x : Nod) (parent place : Int) (sym : ByteArray) : Bool :=
  hRul g.rules x.rule && decide ((fRul g.rules x.rule).left = sym) && decide (x.parent = parent) && decide (x.place = place) && decide (x.kids.length = (fRul g.rules x.rule).right.length) &&
  decide (-1000000 ≤ x.lit ∧ x.lit ≤ 1000000) && ((fRul g.rules x.rule).lit || decide (x.lit = 0))
def kidsW (w : Nat → Int → Int → ByteArray → Int) (i : Nat) : List Int → List ByteArray → Int → Int → Int
  | c :: cs, s :: ss, k, at' => if c ≠ at' then -1 else if w at'.toNat i (k + 1) s < 0 then -1 else kidsW w i cs ss (k + 1) (w at'.toNat i (k + 1) s)
  | _, _, _, at' => at'
def walkE (g : Gram) (t : List Nod) : Nat → Nat → Int → Int → ByteArray → Int
  | 0, _, _, _, _ => -1
  | f + 1, i, p, q, s => if i < t.length then
      if fitV g (t.getD i nodZ) p q s then kidsW (walkE g t f) i (t.getD i nodZ).kids (fRul g.rules (t.getD i nodZ).rule).right 0 (i + 1) else -1
    else -1
theorem kidsW_ge {w : Nat → Int → Int → ByteArray → Int} {n : Int} {i : Nat} (hw : ∀ a p q s, 0 ≤ w a p q s → (a : Int) < w a p q s ∧ w a p q s ≤ n) : ∀ (cs : List Int) (ss : List ByteArray) (k a : Int), 0 ≤ a → a ≤ n →
    kidsW w i cs ss k a = -1 ∨ (a ≤ kidsW w i cs ss k a ∧ kidsW w i cs ss k a ≤ n)
  | [], _, k, a, h0, h1 => by right; simp [kidsW]; omega
  | _ :: _, [], k, a, h0, h1 => by right; simp [kidsW]; omega
  | c :: cs, s :: ss, k, a, h0, h1 => by
    simp only [kidsW]
    split
    · exact .inl rfl
    split
    · exact .inl rfl
    · rename_i h2
      have h3 := hw a.toNat i (k + 1) s (by omega)
      rcases kidsW_ge hw cs ss (k + 1) (w a.toNat i (k + 1) s) (by omega) h3.2 with h | h
      · exact .inl h
      · exact .inr (by omega)
theorem walkE_ge {g : Gram} {t : List Nod} : ∀ (f i : Nat) (p q : Int) (s : ByteArray), 0 ≤ walkE g t f i p q s → (i : Int) < walkE g t f i p q s ∧ walkE g t f i p q s ≤ t.length
  | 0, i, p, q, s, h => by simp [walkE] at h
  | f + 1, i, p, q, s, h => by
    simp only [walkE] at h ⊢
    split at h
    · rename_i hi
      rw [if_pos hi]
      split at h
      · rename_i hf
        rw [if_pos hf]
        rcases kidsW_ge (w := walkE g t f) (n := t.length) (i := i) (fun a p q s h => walkE_ge f a p q s h) (t.getD i nodZ).kids (fRul g.rules (t.getD i nodZ).rule).right 0 (i + 1) (by omega) (by omega) with h2 | h2
        · rw [h2] at h; omega
        · omega
      · omega
    · omega
theorem walkE_out {g : Gram} {t : List Nod} {f i : Nat} {p q : Int} {s : ByteArray} (h : t.length ≤ i) : walkE g t f i p q s = -1 := by
  cases f with
  | zero => rfl
  | succ f => simp only [walkE]; rw [if_neg (by omega)]
def treeOf (g : Gram) (t : List Nod) (s : ByteArray) : Bool := decide (1 ≤ t.length ∧ t.length ≤ 16) && (idsV t && decide (walkE g t t.length 0 (-1) 0 s = t.length))
theorem kidsW_step {w : Nat → Int → Int → ByteArray → Int} {i k : Nat} {cs : List Int} {ss : List ByteArray} {a : Int} (h1 : k < cs.length) (h2 : k < ss.length) :
    kidsW w i (cs.drop k) (ss.drop k) k a = if cs[k] ≠ a then -1 else if w a.toNat i ((k : Int) + 1) ss[k] < 0 then -1 else kidsW w i (cs.drop (k + 1)) (ss.drop (k + 1)) ((k + 1 : Nat) : Int) (w a.toNat i ((k : Int) + 1) ss[k]) := by
  rw [List.drop_eq_getElem_cons h1, List.drop_eq_getElem_cons h2, kidsW]
  simp only [Int.natCast_add, Int.natCast_one]
theorem kidsW_end {w : Nat → Int → Int → ByteArray → Int} {i k : Nat} {cs : List Int} {ss : List ByteArray} {a : Int} {p : Int} (h1 : cs.length ≤ k) : kidsW w i (cs.drop k) (ss.drop k) p a = a := by
  rw [List.drop_eq_nil_of_le h1]; cases ss.drop k <;> rfl
theorem fitV_iff {g : Gram} {x : Nod} {p q : Int} {s : ByteArray} : fitV g x p q s = true ↔ hRul g.rules x.rule = true ∧ (fRul g.rules x.rule).left = s ∧ x.parent = p ∧ x.place = q ∧ x.kids.length = (fRul g.rules x.rule).right.length ∧ (-1000000 ≤ x.lit ∧ x.lit ≤ 1000000) ∧
    ((fRul g.rules x.rule).lit = true ∨ (fRul g.rules x.rule).lit = false ∧ x.lit = 0) := by
  simp only [fitV, Bool.and_eq_true, decide_eq_true_eq, Bool.or_eq_true, and_assoc]
  cases (fRul g.rules x.rule).lit <;> simp
theorem okV1 (n : Int) : okV n 1 = decide (-1000000 ≤ n ∧ n ≤ 1000000) := by
  simp only [okV, coV, satV]
  by_cases h : -1000000 ≤ n ∧ n ≤ 1000000
  · simp [h]; omega
  · simp [h]; omega
theorem gid_f1 {t : List Nod} {i : Nat} (h : i < t.length) (hb : ¬ (1 ≤ t[i].id ∧ t[i].id ≤ 999)) : gid t i = false := by
  simp only [gid, getD_lt h, decide_eq_false hb, Bool.false_and]
theorem gid_f2 {t : List Nod} {i : Nat} (h : i < t.length) (hb : ((t.take i).any fun y => decide (y.id = t[i].id)) = true) : gid t i = false := by
  simp only [gid, getD_lt h, hb, Bool.not_true, Bool.and_false]
theorem gid_t {t : List Nod} {i : Nat} (h : i < t.length) (ha : 1 ≤ t[i].id ∧ t[i].id ≤ 999) (hb : ((t.take i).any fun y => decide (y.id = t[i].id)) = false) : gid t i = true := by
  simp only [gid, getD_lt h, decide_eq_true ha, hb, Bool.not_false, Bool.and_true]
def hasI (l : List Int) (x : Int) : Bool := l.any fun y => decide (y = x)
theorem hasI_hit {l : List Int} {x : Int} {i : Nat} (h : i < l.length) (e : l[i] = x) : hasI l x = true := by
  simp only [hasI, List.any_eq_true]; exact ⟨l[i], List.getElem_mem h, by simp [e]⟩
theorem hasI_none {l : List Int} {x : Int} (h : ∀ y ∈ l, decide (y = x) = false) : hasI l x = false := by
  simp only [hasI, List.any_eq_false]; intro y hy; simpa using h y hy
theorem hasI_map (t : List Nod) (x : Int) : hasI (t.map (·.id)) x = t.any fun y => decide (y.id = x) := by
  simp only [hasI, List.any_map]; rfl
end Go.Gh
namespace Go.Gh
theorem takeApp2 {α β : Type} (f : β → GV) (h : α → β) (l : List α) (i : Nat) (hi : i < l.length) : List.take i (List.map f (List.map h (List.take i l))) ++ [f (h l[i])] = List.map f (List.map h (List.take (i + 1) l)) := by
  have := takeApp (fun a => f (h a)) l i hi
  simp only [List.map_map]; exact this
theorem treeOf_bad {g : Gram} {t : List Nod} {s : ByteArray} (h : idsV t = false) : treeOf g t s = false := by
  simp only [treeOf, h, Bool.false_and, Bool.and_false]
end Go.Gh
namespace Go.Gh
end Go.Gh
namespace Go.Gh
end Go.Gh

/- Valid expressions, and their values. -/
namespace Go.Gh
set_option linter.unusedSimpArgs false
set_option linter.unusedVariables false
end Go.Gh
namespace Go.Gh
theorem Bor.clo {H : GH} {f : Nat} {gs gs' : List GV} (h : BorL H gs gs') : Bor H (.clo f gs) (.clo f gs') := fun w D Ω v hst hm => by
  simp only [MV] at hm ⊢
  obtain ⟨h0, vs, h1, h2⟩ := hm
  exact ⟨h0, vs, h1, h w D Ω vs hst h2⟩
theorem Bor.rop {H : GH} {sz : Nat} {g g' : GV} (h : Bor H g g') : Bor H (.rop sz g) (.rop sz g') := fun w D Ω v hst hm => by
  simp only [MV] at hm ⊢
  obtain ⟨h0, b, off, u, h1, h2, h3, h4, h5, h6⟩ := hm
  exact ⟨h0, b, off, u, h1, .inl h2, h3, h4, h5, h w D Ω u hst h6⟩
end Go.Gh
namespace Go.Gh
end Go.Gh
namespace Go.Gh
end Go.Gh
namespace Go.Gh
end Go.Gh
namespace Go.Gh
theorem gs_clo (f : Nat) (cs : List GV) : gsize (.clo f cs) = 1 := rfl
end Go.Gh

/- Grammars of one's own. -/
namespace Go.Gh
set_option linter.unusedSimpArgs false
set_option linter.unusedVariables false
set_option maxRecDepth 20000
abbrev SyO (x : Sym) : GV := .agg [T x.name, .osl 4 (x.atts.map At)]
mutual
def ExO : Exp → GV
  | .mk k n p t s m a => .agg [I k, I n, I p, I t, T s, T m, .osl 7 (ExOL a)]
def ExOL : List Exp → List GV
  | [] => []
  | e :: l => ExO e :: ExOL l
end
theorem ExOL_eq (l : List Exp) : ExOL l = l.map ExO := by
  induction l with
  | nil => rfl
  | cons e l ih => simp [ExOL, ih]
theorem ExO_eq (e : Exp) : ExO e = .agg [I e.kind, I e.n, I e.pos, I e.type, T e.sym, T e.name, .osl 7 (e.args.map ExO)] := by
  cases e; simp only [ExO, ExOL_eq]; rfl
abbrev QnO (x : Eqn) : GV := .agg [I x.pos, T x.name, I x.expr.kind, I x.expr.n, I x.expr.pos, I x.expr.type, T x.expr.sym, T x.expr.name, .osl 7 (x.expr.args.map ExO)]
abbrev CoO (x : Con) : GV := .agg [T x.sym, T x.name, I x.goal.kind, I x.goal.n, I x.goal.pos, I x.goal.type, T x.goal.sym, T x.goal.name, .osl 7 (x.goal.args.map ExO), I x.value.kind, I x.value.n, I x.value.pos, I x.value.type, T x.value.sym, T x.value.name, .osl 7 (x.value.args.map ExO)]
abbrev RuO (x : Rul) : GV := .agg [T x.name, T x.left, .osl 1 (x.right.map T), B x.lit, .osl 9 (x.eqs.map QnO), .osl 16 (x.cons.map CoO)]
theorem view_ExO : ∀ e : Exp, view (ExO e) = Ex e := by
  refine Exp.indA fun e ih => ?_
  rw [ExO_eq, Ex_eq]
  have : (e.args.map ExO).map view = e.args.map Ex := by
    rw [List.map_map]; exact List.map_congr_left fun a ha => ih a ha
  simp [view, viewL, viewL_eq, this]
theorem view_QnO (x : Eqn) : view (QnO x) = Qn x := by simp [view, viewL, viewL_eq, view_ExO]
theorem view_CoO (x : Con) : view (CoO x) = Co x := by simp [view, viewL, viewL_eq, view_ExO]
theorem view_SyO (x : Sym) : view (SyO x) = Sy x := by simp [view, viewL, viewL_eq]
theorem view_RuO (x : Rul) : view (RuO x) = Ru x := by
  have h1 : (x.eqs.map QnO).map view = x.eqs.map Qn := by rw [List.map_map]; exact List.map_congr_left fun a _ => view_QnO a
  have h2 : (x.cons.map CoO).map view = x.cons.map Co := by rw [List.map_map]; exact List.map_congr_left fun a _ => view_CoO a
  simp only [view, viewL, viewL_eq, h1, h2]
  simp [view]
theorem Bor.seen {α : Type} {f g : α → GV} {H : GH} {r sz n : Nat} {l : List α} (hv : ∀ a, view (f a) = g a) (hr : hget H r = some (sz, l.map f)) (hl : l.length = n) : Bor H (.own r sz 0 n) (.sl sz (l.map g)) := by
  have := Bor.own (k := 0) (n := n) hr (by simp [hl])
  rw [List.drop_zero, List.take_of_length_le (by simp [hl]), viewL_eq, List.map_map] at this
  have e : l.map (view ∘ f) = l.map g := List.map_congr_left fun a _ => hv a
  rwa [e] at this
theorem bor_Gr {H : GH} {rs rr n m : Nat} {g : Gram} (h1 : hget H rs = some (2, g.syms.map SyO)) (h2 : hget H rr = some (6, g.rules.map RuO)) (hn : g.syms.length = n) (hm : g.rules.length = m) : Bor H (.agg [.own rs 2 0 n, .own rr 6 0 m]) (Gr g) :=
  .agg (.cons (Bor.seen view_SyO h1 hn) (.cons (Bor.seen view_RuO h2 hm) .nil))
theorem hget_appR {r : Nat} : ∀ {Rs H : GH}, r ∉ names Rs → hget (Rs ++ H) r = hget H r
  | [], _, _ => rfl
  | (q, x) :: Rs, H, h => by
    simp only [names, List.map_cons, List.mem_cons, not_or] at h
    simp only [List.cons_append, hget]
    rw [if_neg (fun e => h.1 e.symm)]
    exact hget_appR h.2
theorem hset_appR {r : Nat} {es : List GV} : ∀ {Rs H : GH}, r ∉ names Rs → hset (Rs ++ H) r es = Rs ++ hset H r es
  | [], _, _ => rfl
  | (q, sz, x) :: Rs, H, h => by
    simp only [names, List.map_cons, List.mem_cons, not_or] at h
    simp only [List.cons_append, hset]
    rw [if_neg (fun e => h.1 e.symm), hset_appR h.2]
section
variable {P : Program} {α : Type} {f : α → GV} {k kx sz : Nat} {ag : Bool}
theorem toSo1 (mxd : P.follows .mixedOrders = true) {bytes : Nat} {z : GV} (hF : IsFun P k ⟨⟨23, []⟩,
  (.seq (.reg [(.mk (some 2) none (.mov (.k (.val (.slice none 0 0)))))]) (.seq (.reg [(.mk (some 5) none (.mov (.t 0))), (.mk (some 6) none (.len (.t 5))), (.mk (some 7) none (.mkslice sz bytes z (.t 6) (.t 6))), (.mk (some 3) none (.mov (.t 7)))]) (.seq (.seq (.reg [(.mk (some 4) none (.mov (.k (.val (.int .i64 0)))))]) (.block 0 (.loop (.seq (.seq (.reg [(.mk (some 8)
  none (.mov (.t 4))), (.mk (some 9) none (.mov (.t 0))), (.mk (some 10) none (.len (.t 9))), (.mk (some 11) none (.bin .lss (.t 8) (.t 10)))]) (.cond 11 .skip (.exit 0))) (.seq (.block 1 (.reg [(.mk (some 14) none
  (.mov (.t 3))), (.mk (some 15) none (.mov (.t 4))), (.mk (some 16) none (.mov (.t 0))), (.mk (some 17) none (.mov (.t 4))), (.mk (some 18) none (.iaddr sz (.t 16) (.t 17))), (.mk (some 19) none (.load sz ag (.t 18))),
  (.mk (some 20) none (.call false kx [(.t 19)])), (.mk (some 21) none (.iaddr sz (.t 14) (.t 15))), (.mk none none (.store sz (.t 21) (.t 20)))])) (.reg [(.mk (some 12) none (.mov (.t 4))), (.mk (some 13) none (.bin .add
  (.t 12) (.k (.val (.int .i64 1))))), (.mk (some 4) none (.mov (.t 13)))])))))) (.seq (.reg [(.mk (some 22) none (.mov (.t 3))), (.mk (some 2) none (.mov (.t 22)))]) .ret)))), [.t 2]⟩)
    (hag : ∀ a, isAgg (f a) = ag) (hr : ∀ a, geR (some (f a)) = some (f a)) (j sz1 : Nat) (ks : α → List GV) (bs : α → Nat → List GV) (fO : α → List GV) (hbl : ∀ a r, (bs a r).length = sz) (hbj : ∀ a r, (bs a r)[j]? = some (.own r sz1 0 (ks a).length))
    (hO : ∀ a r, (bs a r).set j (.osl sz1 (ks a)) = fO a) (xs : List α) (hlen : xs.length ≤ 1048576) (hb : bytes ≤ 1024)
    (hx : ∀ a ∈ xs, ∀ H, GCalls P kx [f a] H (fun g H' => ∃ r, g = .agg (bs a r) ∧ H' = (r, sz1, ks a) :: H)) (H : GH) :
    GCalls P k [.sl sz (xs.map f)] H (fun g H' => ∃ r, g = .own r sz 0 xs.length ∧ H' = (r, sz, xs.map (fun a => .agg (fO a))) :: H) := by
  have hbb : (bytes : Int) * (xs.length : Int) ≤ 281474976710656 := by
    have h1 : bytes * xs.length ≤ 1073741824 := Nat.le_trans (Nat.mul_le_mul hb hlen) (by decide)
    have h2 : ((bytes * xs.length : Nat) : Int) ≤ 1073741824 := by omega
    rw [Int.natCast_mul] at h2
    omega
  refine gstart mxd hF rfl (by simp) ?_
  simp only [↓ S2, S2, ↓reduceIte, Nat.reduceEqDiff, reduceCtorEq, Nat.reduceLeDiff, Nat.reduceAdd, Nat.reduceLT, hr, hag]
  refine ⟨by omega, by omega, hbb, by omega, fun r hr' => ?_⟩
  refine wloop mxd (ι := { i : Nat // i ≤ xs.length }) (fun i => [(0, .sl sz (xs.map f)), (3, .own r sz 0 xs.length), (4, I i.1)]) (fun i => (r, sz, (xs.take i.1).map (fun a => .agg (fO a)) ++ List.replicate (xs.length - i.1) z) :: H) (fun i => xs.length - i.1) ⟨0, by simp⟩ (by simp [E2]) (by simp) ?_
  rintro ⟨i, hi⟩
  rcases Nat.lt_or_ge i xs.length with h | h
  · simp only [↓ S2, S2, ↓reduceIte, Nat.reduceEqDiff, reduceCtorEq, Nat.reduceLeDiff, Nat.reduceAdd, Nat.reduceLT, hr, hag, brGen]
    simp +contextual (disch := omega) only [Z2]
    refine ⟨fun _ => ?_, fun hh => absurd h hh⟩
    refine callS.of (hx xs[i] (List.getElem_mem _) _) ?_
    rintro g H' ⟨r1, rfl, rfl⟩ hn
    have hne : r1 ≠ r := ne_of_new hn hget_new
    simp only [↓ S2, S2, ↓reduceIte, Nat.reduceEqDiff, reduceCtorEq, Nat.reduceLeDiff, Nat.reduceAdd, Nat.reduceLT, hr, hag, hbl, hget_old hne, hset_old hne, stw]
    simp +contextual (disch := omega) only [Z2]
    refine ⟨h, by simp; omega, nxF ⟨i + 1, by omega⟩ (by simp; omega) (FE.close2 (j := j) hne (by simp; omega) (hbj _ _) rfl) (by simp [E2]) ?_⟩
    rw [hO]
    have e := fill_set xs (fun a => GV.agg (fO a)) z i h
    rw [← e]
  · have : i = xs.length := by omega
    subst this
    simp only [↓ S2, S2, ↓reduceIte, Nat.reduceEqDiff, reduceCtorEq, Nat.reduceLeDiff, Nat.reduceAdd, Nat.reduceLT, hr, hag, brGen]
    simp +contextual (disch := omega) only [Z2]
    exact ⟨fun hh => absurd hh (by omega), fun _ => ⟨r, rfl, by simp⟩⟩
theorem toSoN (mxd : P.follows .mixedOrders = true) {bytes : Nat} {z : GV} (hF : IsFun P k ⟨⟨23, []⟩,
  (.seq (.reg [(.mk (some 2) none (.mov (.k (.val (.slice none 0 0)))))]) (.seq (.reg [(.mk (some 5) none (.mov (.t 0))), (.mk (some 6) none (.len (.t 5))), (.mk (some 7) none (.mkslice sz bytes z (.t 6) (.t 6))), (.mk (some 3) none (.mov (.t 7)))]) (.seq (.seq (.reg [(.mk (some 4) none (.mov (.k (.val (.int .i64 0)))))]) (.block 0 (.loop (.seq (.seq (.reg [(.mk (some 8)
  none (.mov (.t 4))), (.mk (some 9) none (.mov (.t 0))), (.mk (some 10) none (.len (.t 9))), (.mk (some 11) none (.bin .lss (.t 8) (.t 10)))]) (.cond 11 .skip (.exit 0))) (.seq (.block 1 (.reg [(.mk (some 14) none
  (.mov (.t 3))), (.mk (some 15) none (.mov (.t 4))), (.mk (some 16) none (.mov (.t 0))), (.mk (some 17) none (.mov (.t 4))), (.mk (some 18) none (.iaddr sz (.t 16) (.t 17))), (.mk (some 19) none (.load sz ag (.t 18))),
  (.mk (some 20) none (.call false kx [(.t 19)])), (.mk (some 21) none (.iaddr sz (.t 14) (.t 15))), (.mk none none (.store sz (.t 21) (.t 20)))])) (.reg [(.mk (some 12) none (.mov (.t 4))), (.mk (some 13) none (.bin .add
  (.t 12) (.k (.val (.int .i64 1))))), (.mk (some 4) none (.mov (.t 13)))])))))) (.seq (.reg [(.mk (some 22) none (.mov (.t 3))), (.mk (some 2) none (.mov (.t 22)))]) .ret)))), [.t 2]⟩)
    (hag : ∀ a, isAgg (f a) = ag) (hr : ∀ a, geR (some (f a)) = some (f a)) (R : α → List GV → GH → Prop) (fO : α → List GV) (hbl : ∀ a gs Rs, R a gs Rs → gs.length = sz)
    (hcl : ∀ a gs Rs, R a gs Rs → ∀ (env : Env) (r : Nat) (L : List GV) (i : Nat) (H : GH), (names (Rs ++ (r, sz, L) :: H)).Nodup → i < L.length → FE env (Rs ++ (r, sz, L.set i (.agg gs)) :: H) env ((r, sz, L.set i (.agg (fO a))) :: H))
    (xs : List α) (hlen : xs.length ≤ 1048576) (hb : bytes ≤ 1024)
    (hx : ∀ a ∈ xs, ∀ H, GCalls P kx [f a] H (fun g H' => ∃ gs Rs, R a gs Rs ∧ g = .agg gs ∧ H' = Rs ++ H)) (H : GH) :
    GCalls P k [.sl sz (xs.map f)] H (fun g H' => ∃ r, g = .own r sz 0 xs.length ∧ H' = (r, sz, xs.map (fun a => .agg (fO a))) :: H) := by
  have hbb : (bytes : Int) * (xs.length : Int) ≤ 281474976710656 := by
    have h1 : bytes * xs.length ≤ 1073741824 := Nat.le_trans (Nat.mul_le_mul hb hlen) (by decide)
    have h2 : ((bytes * xs.length : Nat) : Int) ≤ 1073741824 := by omega
    rw [Int.natCast_mul] at h2
    omega
  refine gstart mxd hF rfl (by simp) ?_
  simp only [↓ S2, S2, ↓reduceIte, Nat.reduceEqDiff, reduceCtorEq, Nat.reduceLeDiff, Nat.reduceAdd, Nat.reduceLT, hr, hag]
  refine ⟨by omega, by omega, hbb, by omega, fun r hr' => ?_⟩
  refine wloop mxd (ι := { i : Nat // i ≤ xs.length }) (fun i => [(0, .sl sz (xs.map f)), (3, .own r sz 0 xs.length), (4, I i.1)]) (fun i => (r, sz, (xs.take i.1).map (fun a => .agg (fO a)) ++ List.replicate (xs.length - i.1) z) :: H) (fun i => xs.length - i.1) ⟨0, by simp⟩ (by simp [E2]) (by simp) ?_
  rintro ⟨i, hi⟩
  rcases Nat.lt_or_ge i xs.length with h | h
  · simp only [↓ S2, S2, ↓reduceIte, Nat.reduceEqDiff, reduceCtorEq, Nat.reduceLeDiff, Nat.reduceAdd, Nat.reduceLT, hr, hag, brGen]
    simp +contextual (disch := omega) only [Z2]
    refine ⟨fun _ => ?_, fun hh => absurd h hh⟩
    refine callS.of (hx xs[i] (List.getElem_mem _) _) ?_
    rintro g H' ⟨gs, Rs, hR, rfl, rfl⟩ hn
    have hgl := hbl _ _ _ hR
    have hne : r ∉ names Rs := fun hin => by
      simp only [names, List.map_append, List.map_cons] at hn hin
      exact (List.nodup_append.1 hn).2.2 r hin r (by simp) rfl
    simp only [↓ S2, S2, ↓reduceIte, Nat.reduceEqDiff, reduceCtorEq, Nat.reduceLeDiff, Nat.reduceAdd, Nat.reduceLT, hr, hag, hgl, hget_appR hne, hset_appR hne, stw]
    simp +contextual (disch := omega) only [Z2]
    refine ⟨h, by simp; omega, nxF ⟨i + 1, by omega⟩ (by simp; omega) (hcl _ _ _ hR _ _ _ _ _ hn (by simp; omega)) (by simp [E2]) ?_⟩
    have e := fill_set xs (fun a => GV.agg (fO a)) z i h
    rw [← e]
  · have : i = xs.length := by omega
    subst this
    simp only [↓ S2, S2, ↓reduceIte, Nat.reduceEqDiff, reduceCtorEq, Nat.reduceLeDiff, Nat.reduceAdd, Nat.reduceLT, hr, hag, brGen]
    simp +contextual (disch := omega) only [Z2]
    exact ⟨fun hh => absurd hh (by omega), fun _ => ⟨r, rfl, by simp⟩⟩
end
theorem FR.perm {g : GV} {H L T : GH} (hs : subH H L) : FR g (H ++ T) g (L ++ T) := by
  intro w D Ω v hv hst
  obtain ⟨Ω', h1, h2⟩ := St.sub hst hs
  exact ⟨D, Ω', hv, h1, ⟨fun _ h => h, fun _ _ h => .inl h, fun b hb _ => h2 b hb, Kept.refl _ _, rfl, rfl, rfl⟩⟩
end Go.Gh

/- Trees cut out of trees. -/
namespace Go.Gh
theorem FE.closeL {env : Env} {H : GH} {r r1 sz sz1 j n : Nat} {L gs ks : List GV} (hne : r ≠ r1) (hr : hget H r = some (sz, L ++ [.agg gs])) (hg : gs[j]? = some (.own r1 sz1 0 n)) (hr1 : hget H r1 = some (sz1, ks)) (hn : ks.length = n) :
    FE env H env (hdel (hset H r (L ++ [.agg (gs.set j (.osl sz1 ks))])) r1) := by
  have := FE.close (env := env) (i := L.length) hne hr (by simp) hg hr1 hn
  simpa using this
end Go.Gh

/- What the laws' marks are: lists marked one element after the other; expressions; instances; grammars. -/
namespace Go.Gh
set_option linter.unusedSimpArgs false
set_option linter.unusedVariables false
section
variable {α : Type} (w : α → Nat) (m : α → Int → α)
def smw : List α → Nat
  | [] => 0
  | a :: l => w a + smw l
def smk : List α → Int → List α
  | [], _ => []
  | a :: l, k => m a k :: smk l (k + w a)
theorem smk_len : ∀ (l : List α) (k : Int), (smk w m l k).length = l.length
  | [], _ => rfl
  | a :: l, k => by simp [smk, smk_len l]
theorem smw_app : ∀ (l u : List α), smw w (l ++ u) = smw w l + smw w u
  | [], u => by simp [smw]
  | a :: l, u => by simp [smw, smw_app l u]; omega
theorem smk_snoc : ∀ (l : List α) (k : Int) (x : α), smk w m (l ++ [x]) k = smk w m l k ++ [m x (k + smw w l)]
  | [], k, x => by simp [smk, smw]
  | a :: l, k, x => by
    have := smk_snoc l (k + w a) x
    have e : k + (w a : Int) + (smw w l : Int) = k + ((w a + smw w l : Nat) : Int) := by omega
    simp [smk, smw, this, e]
theorem smw_step {l : List α} {i : Nat} (h : i < l.length) : smw w (l.take (i + 1)) = smw w (l.take i) + w l[i] := by
  rw [List.take_add_one, List.getElem?_eq_getElem h, smw_app]; simp [smw]
theorem smw_take (l : List α) (i : Nat) : smw w (l.take i) ≤ smw w l := by
  have := smw_app w (l.take i) (l.drop i)
  rw [List.take_append_drop] at this
  omega
theorem smk_step {l : List α} {i : Nat} {k : Int} (h : i < l.length) : smk w m (l.take (i + 1)) k = smk w m (l.take i) k ++ [m l[i] (k + smw w (l.take i))] := by
  rw [List.take_add_one, List.getElem?_eq_getElem h]; exact smk_snoc w m _ _ _
theorem smid_get {l : List α} {k : Int} {i : Nat} (h : i < l.length) (h' : i < (smk w m (l.take i) k ++ l.drop i).length) : (smk w m (l.take i) k ++ l.drop i)[i] = l[i] := by
  rw [List.getElem_append_right (by simp [smk_len]; omega)]
  have e : i + (i - (smk w m (l.take i) k).length) = i := by simp [smk_len]; omega
  simp only [List.getElem_drop, e]
theorem smid_set {l : List α} {k : Int} {i : Nat} (h : i < l.length) : (smk w m (l.take i) k ++ l.drop i).set i (m l[i] (k + smw w (l.take i))) = smk w m (l.take (i + 1)) k ++ l.drop (i + 1) := by
  rw [List.set_append_right _ _ (by simp [smk_len]; omega), smk_step w m h]
  have e : i - (smk w m (l.take i) k).length = 0 := by simp [smk_len]; omega
  rw [e, List.drop_eq_getElem_cons h, List.set_cons_zero, List.append_assoc]
  rfl
theorem smid_len {l : List α} {k : Int} {i : Nat} : (smk w m (l.take i) k ++ l.drop i).length = l.length := by
  simp [smk_len]; omega
theorem smw_len (hw : ∀ a, 1 ≤ w a) : ∀ l : List α, l.length ≤ smw w l
  | [] => by simp
  | a :: l => by have := hw a; have := smw_len hw l; simp only [smw, List.length_cons]; omega
theorem smw_sum {f : α → Nat} (c : Nat) : ∀ {l : List α}, (∀ a ∈ l, w a ≤ c * (1 + f a)) → smw w l ≤ c * wtS f l
  | [], _ => by simp [smw]
  | a :: l, h => by
    have h1 := h a (by simp)
    have h2 := smw_sum (f := f) (l := l) c (fun b hb => h b (by simp [hb]))
    simp only [wtS, List.length_cons, List.map_cons, List.sum_cons, smw] at h2 ⊢
    have e : c * (l.length + 1 + (f a + (l.map f).sum)) = c * (1 + f a) + c * (l.length + (l.map f).sum) := by
      rw [← Nat.mul_add]; congr 1; omega
    omega
end
section
variable {α : Type} {f : α → α}
end
theorem St.exchC {w : World} {D : Nat → Prop} {H : GH} {Ω : List Nat} (h : St w D H Ω) {r sz i : Nat} {es : List GV} {e e' : GV} (hr : hget H r = some (sz, es)) (he : es[i]? = some e) (hx : ∀ v F, MV w D e v F → ∃ v', v'.cells = v.cells ∧ MV w D e' v' F) : St w D (hset H r (es.set i e')) Ω := by
  obtain ⟨Ω1, F', Ω2, hΩ, hR, hput, _⟩ := HM.take h.hm hr
  obtain ⟨b, c, T, fz, F0, k1, k2, k3, k4, k5, k6, k7⟩ := hR.es_ne (fun e => by rw [e] at he; simp at he)
  obtain ⟨pre, v, post, A1, Ai, A2, m1, m2, m3, m4, m5, m6, m7⟩ := MF.split sz es _ F0 i _ k7 he
  obtain ⟨v', hc, hv'⟩ := hx _ _ m6
  have hmf := m7 w D (fun _ => True) e' v' Ai (Kept.refl _ _) (fun _ _ => trivial) (fun _ h => h) (fun _ _ => trivial) (by rw [hc]; exact m3) (by unfold okc at m4 ⊢; rw [hc]; exact m4) hv'
  rw [hc, ← m1, ← m5] at hmf
  have hRM : RM w D r sz (es.set i e') F' := .inl ⟨b, c, T, fz, F0, k1, k2, k3, by simpa using k4, by simpa using k5, k6, by simpa using hmf⟩
  have hfin := hput w D (fun _ => True) _ _ (Kept.refl _ _) (fun _ _ => trivial) (fun _ h => h) (fun _ _ => trivial) hRM
  rw [← hΩ] at hfin
  exact ⟨hfin, h.nd, by rw [names_hset]; exact h.nn, h.dj, h.ds⟩
theorem FE.exchC {env : Env} {H : GH} {r sz i : Nat} {es : List GV} {e e' : GV} (hr : hget H r = some (sz, es)) (he : es[i]? = some e) (hx : ∀ w D v F, MV w D e v F → ∃ v', v'.cells = v.cells ∧ MV w D e' v' F) : FE env H env (hset H r (es.set i e')) := by
  intro w0 D0 O0 N a w ⟨hdf, hsz, D, Ω, ρw, hi⟩
  exact ⟨hdf, hsz, D, Ω, ρw, hi.st' (hi.st.exchC hr he (hx w D)) (fun _ h => h)⟩
theorem MV.unagg {w : World} {D : Nat → Prop} {g : GV} : ∀ v F, MV w D (.agg [g]) v F → ∃ v', v'.cells = v.cells ∧ MV w D g v' F := fun v F h => by
  simp only [MV] at h
  obtain ⟨vs, rfl, h1, h2⟩ := h
  simp only [ML] at h2
  obtain ⟨u, vs', F1, F2, rfl, rfl, h3, rfl, rfl⟩ := h2
  have ho := h1 u (by simp)
  refine ⟨u, ?_, by simpa using h3⟩
  cases u <;> first | rfl | (simp [Value.oneCell'] at ho)
theorem FE.unagg {env : Env} {H : GH} {r sz : Nat} {g : GV} (hr : hget H r = some (sz, [.agg [g]])) : FE env H env (hset H r [g]) :=
  FE.exchC (i := 0) hr rfl (fun _ _ => MV.unagg)
theorem FE.closeT {env : Env} {T : GH} {r r2 sz sz2 i j n : Nat} {L gs ks : List GV} (hne : r2 ≠ r) (hr : hget T r = some (sz, L.set i (.agg gs))) (hi : i < L.length) (hg : gs[j]? = some (.own r2 sz2 0 n)) (hn : ks.length = n) :
    FE env ((r2, sz2, ks) :: T) env (hset T r (L.set i (.agg (gs.set j (.osl sz2 ks))))) := by
  have := FE.close (env := env) (H := (r2, sz2, ks) :: T) (r := r) (r1 := r2) (i := i) (j := j) (Ne.symm hne) (by rw [hget_old hne]; exact hr) (List.getElem?_set_self hi) hg hget_new hn
  rwa [hset_old hne, hdel_new, List.set_set] at this
abbrev wS (_ : ByteArray) : Nat := 1
abbrev mkTx (_ : ByteArray) (k : Int) : ByteArray := mtext k
abbrev wI (_ : Int × ByteArray) : Nat := 2
abbrev wA (_ : Att) : Nat := 4
abbrev mkA (_ : Att) (k : Int) : Att := ⟨mtext k, k + 1, k + 1 + 1, decide ((k + 1 + 1 + 1).tmod 3 = 0)⟩
abbrev wSym (x : Sym) : Nat := 1 + smw wA x.atts
abbrev mkSym (x : Sym) (k : Int) : Sym := ⟨mtext k, smk wA mkA x.atts (k + 1)⟩
mutual
def ctE : Exp → Nat
  | .mk _ _ _ _ _ _ a => 6 + ctEL a
def ctEL : List Exp → Nat
  | [] => 0
  | e :: l => ctE e + ctEL l
end
theorem ctEL_eq (l : List Exp) : ctEL l = smw ctE l := by
  induction l with
  | nil => rfl
  | cons e l ih => simp [ctEL, smw, ih]
theorem ctE_eq (e : Exp) : ctE e = 6 + smw ctE e.args := by
  cases e; simp only [ctE, ctEL_eq]; rfl
mutual
def mkE : Exp → Int → Exp
  | .mk _ _ _ _ _ _ a, k => .mk k (k + 1) (k + 1 + 1) (k + 1 + 1 + 1) (mtext (k + 1 + 1 + 1 + 1)) (mtext (k + 1 + 1 + 1 + 1 + 1)) (mkEL a (k + 1 + 1 + 1 + 1 + 1 + 1))
def mkEL : List Exp → Int → List Exp
  | [], _ => []
  | e :: l, k => mkE e k :: mkEL l (k + ctE e)
end
theorem mkEL_eq : ∀ (l : List Exp) (k : Int), mkEL l k = smk ctE mkE l k
  | [], _ => rfl
  | e :: l, k => by simp [mkEL, smk, mkEL_eq l]
theorem mkE_eq (e : Exp) (k : Int) : mkE e k = .mk k (k + 1) (k + 1 + 1) (k + 1 + 1 + 1) (mtext (k + 1 + 1 + 1 + 1)) (mtext (k + 1 + 1 + 1 + 1 + 1)) (smk ctE mkE e.args (k + 1 + 1 + 1 + 1 + 1 + 1)) := by
  cases e; simp only [mkE, mkEL_eq]; rfl
theorem ctE_le : ∀ e : Exp, ctE e ≤ 6 * (1 + wEx e) := by
  refine Exp.indA fun e ih => ?_
  have h := smw_sum ctE (f := wEx) 6 ih
  rw [ctE_eq, wEx_eq]
  omega
abbrev wQ (x : Eqn) : Nat := 2 + ctE x.expr
abbrev mkQ (x : Eqn) (k : Int) : Eqn := ⟨k, mtext (k + 1), mkE x.expr (k + 1 + 1)⟩
abbrev wC (x : Con) : Nat := 2 + ctE x.goal + ctE x.value
abbrev mkC (x : Con) (k : Int) : Con := ⟨mtext k, mtext (k + 1), mkE x.goal (k + 1 + 1), mkE x.value (k + 1 + 1 + 1 + 1 + 1 + 1 + 1 + 1 + smw ctE x.goal.args)⟩
abbrev wR (x : Rul) : Nat := 3 + smw wS x.right + smw wQ x.eqs + smw wC x.cons
abbrev mkR (x : Rul) (k : Int) : Rul := ⟨mtext k, mtext (k + 1), smk wS mkTx x.right (k + 1 + 1), decide ((k + 1 + 1 + smw wS x.right).tmod 3 = 0), smk wQ mkQ x.eqs (k + 1 + 1 + smw wS x.right + 1), smk wC mkC x.cons (k + 1 + 1 + smw wS x.right + 1 + smw wQ x.eqs)⟩
end Go.Gh

/- A subtree of a tree replaced. -/
namespace Go.Gh
set_option linter.unusedSimpArgs false
set_option linter.unusedVariables false
theorem neN (r : Nat) (x : Nat × List GV) (H : GH) : (names ((r, x) :: H)).Nodup = (neA r H ∧ (names H).Nodup) := by
  apply propext
  constructor
  · intro h
    have h2 := h
    simp only [names, List.map_cons, List.nodup_cons] at h2
    exact ⟨neA_of h2.1, h2.2⟩
  · rintro ⟨h1, h2⟩
    simp only [names, List.map_cons, List.nodup_cons]
    refine ⟨?_, h2⟩
    clear h2
    induction H with
    | nil => simp
    | cons y H ih =>
      obtain ⟨q, y⟩ := y
      simp only [neA_cons] at h1
      simp only [List.map_cons, List.mem_cons, not_or]
      exact ⟨h1.1, ih h1.2.2⟩
theorem FE.closeL2 {env : Env} {H : GH} {r r1 sz sz1 j n : Nat} {L gs ks : List GV} (hne : ¬ r = r1) (hg : gs[j]? = some (.own r1 sz1 0 n)) (hn : ks.length = n) :
    FE env ((r, sz, L ++ [.agg gs]) :: (r1, sz1, ks) :: H) env ((r, sz, L ++ [.agg (gs.set j (.osl sz1 ks))]) :: H) := by
  have h := FE.closeL (env := env) (H := (r, sz, L ++ [.agg gs]) :: (r1, sz1, ks) :: H) (r := r) (r1 := r1) hne hget_new hg (by rw [hget_old hne, hget_new]) hn
  rwa [hset_new, hdel_old hne, hdel_new] at h
theorem Bor.ptr {H : GH} {r sz : Nat} {g : GV} (hr : hget H r = some (sz, [g])) : Bor H (.ptr r sz 0 0) (.rop sz (view g)) := fun w D Ω v h hv => by
  obtain ⟨F, hF, hFΩ⟩ := h.hm.mem hr
  simp only [MV] at hv ⊢
  obtain ⟨_, b, rfl, hb, rfl⟩ := hv
  rcases hF with ⟨b', c, T, fz, F', k1, k2, k3, k4, k5, k6, k7⟩ | ⟨k1, _, _⟩
  · have : b' = b := by omega
    subst this
    simp only [MF] at k7
    obtain ⟨u, cs', F1, F2, e1, e2, e3, rfl, e5, rfl, rfl⟩ := k7
    refine ⟨trivial, b', 0, u, by simp, .inr (hFΩ _ (by simp [k6])), ⟨c, T, fz, k2, fun j x hj => ?_⟩, e3, e2, MV.view (fun _ => .inl) g u F1 (fun x hx => .inr (hFΩ x (by simp [k6, hx]))) e5⟩
    have e1' : c.toList.take (1 * sz) = u.cells.toList := by simpa using e1
    have h2 : (c.toList.take (1 * sz))[j]? = some x := by rw [e1']; exact hj
    rw [List.getElem?_take] at h2
    split at h2
    · simpa using h2
    · cases h2
  · omega
theorem take_snocM {α β : Type} (f : α → β) {l : List α} {k : Nat} (h : k < l.length) : (l.take k).map f ++ [f l[k]] = (l.take (k + 1)).map f := by
  rw [List.take_add_one, List.getElem?_eq_getElem h, List.map_append]; rfl
theorem mkEnd_from (k : Int) (t : List Nod) : mkEnd k t = k - 1 + mkEnd 1 t := by
  rw [mkEnd_eq, mkEnd_eq]; omega
end Go.Gh

/- Instances of a tree: all of them. -/
namespace Go.Gh
set_option linter.unusedSimpArgs false
set_option linter.unusedVariables false
def insK (g : Gram) (t : List Nod) (i : Nat) : List (Int × ByteArray) := (fSym g.syms (symN g t i)).atts.map fun a => ((t.getD i nodZ).id, a.name)
def insA (g : Gram) (t : List Nod) : Nat → List (Int × ByteArray)
  | 0 => []
  | n + 1 => insA g t n ++ insK g t n
def insL (g : Gram) (t : List Nod) : List (Int × ByteArray) := if treeOf g t (symN g t 0) = true then insA g t t.length else []
theorem insA_len {g : Gram} (hg : smGr g) (t : List Nod) : ∀ n, (insA g t n).length ≤ n * 1048576
  | 0 => by simp [insA]
  | n + 1 => by
    have h1 := insA_len hg t n
    have h2 : (fSym g.syms (symN g t n)).atts.length ≤ 1048576 := smSy_f hg _
    simp only [insA, insK, List.length_append, List.length_map]
    omega
theorem treeOf_len {g : Gram} {t : List Nod} {s : ByteArray} (h : treeOf g t s = true) : 1 ≤ t.length ∧ t.length ≤ 16 := by
  simp only [treeOf, Bool.and_eq_true, decide_eq_true_eq] at h
  exact h.1
theorem insL_len {g : Gram} (hg : smGr g) (t : List Nod) : (insL g t).length ≤ 16777216 := by
  unfold insL
  split
  · rename_i h
    have h1 := treeOf_len h
    have h2 := insA_len hg t t.length
    omega
  · simp
theorem takeApp3 {α : Type} (f : α → GV) (p l : List α) (i : Nat) (h : i < l.length) (n : Nat) (hn : (p ++ l.take i).length = n) : List.take n (List.map f (p ++ List.take i l)) ++ [f l[i]] = List.map f (p ++ List.take (i + 1) l) := by
  rw [List.take_of_length_le (by simp at hn ⊢; omega), List.take_add_one (i := i) (l := l), List.getElem?_eq_getElem h, List.map_append, List.map_append, List.map_append, List.append_assoc]
  rfl
theorem wSym_le (x : Sym) : wSym x ≤ 14 * (1 + wSy x) := by
  have h := smw_sum wA (f := wAt) (l := x.atts) 14 (fun a _ => by simp only [wA]; omega)
  simp only [wSym, wSy]
  omega
theorem wR_le (x : Rul) : wR x ≤ 14 * (1 + wRu x) := by
  have h1 := smw_sum wS (f := wT) (l := x.right) 14 (fun a _ => by simp only [wS]; omega)
  have h2 := smw_sum wQ (f := wEq) (l := x.eqs) 14 (fun a _ => by have := ctE_le a.expr; simp only [wQ, wEq]; omega)
  have h3 := smw_sum wC (f := wCo) (l := x.cons) 14 (fun a _ => by have := ctE_le a.goal; have := ctE_le a.value; simp only [wC, wCo]; omega)
  simp only [wR, wRu]
  omega
theorem ctGr (g : Gram) : smw wSym g.syms + smw wR g.rules ≤ 14 * wGr g := by
  have h1 := smw_sum wSym (f := wSy) (l := g.syms) 14 (fun a _ => wSym_le a)
  have h2 := smw_sum wR (f := wRu) (l := g.rules) 14 (fun a _ => wR_le a)
  simp only [wGr]
  omega
theorem bor_Ins {H : GH} {r n : Nat} {l : List (Int × ByteArray)} (hr : hget H r = some (2, l.map Ins)) (hn : l.length = n) : Bor H (.own r 2 0 n) (InsS l) := Bor.allM (fun _ => rfl) hr hn
end Go.Gh

/- Definitions of instances. -/
namespace Go.Gh
set_option linter.unusedSimpArgs false
set_option linter.unusedVariables false
def expZ : Exp := .mk 0 0 0 0 noS noS []
def eqnF (r : Rul) (o : Int × ByteArray) : Option Eqn := r.eqs.find? fun q => decide (q.pos = o.1 ∧ q.name = o.2)
def eqnE (r : Rul) (o : Int × ByteArray) : Exp := ((eqnF r o).map (·.expr)).getD expZ
theorem eqnE_small {r : Rul} (hr : smRu r) (o : Int × ByteArray) : wEx (eqnE r o) ≤ 1048576 := by
  unfold eqnE eqnF
  cases h : r.eqs.find? fun q => decide (q.pos = o.1 ∧ q.name = o.2) with
  | none => simp [expZ, wEx, wExL, noS, chars]
  | some q => exact hr.2.2.2.1 q (List.mem_of_find?_eq_some h)
def ownN (g : Gram) (t : List Nod) (x : Int × ByteArray) : Int × Int :=
  if (attN g t x.1 x.2).mode = 1 then ((t.getD (ixOf (fun y => decide (y.id = x.1)) t).toNat nodZ).parent, (t.getD (ixOf (fun y => decide (y.id = x.1)) t).toNat nodZ).place) else (ixOf (fun y => decide (y.id = x.1)) t, 0)
def defB (g : Gram) (t : List Nod) (x : Int × ByteArray) : Bool :=
  hasN g t x.1 x.2 && (!decide ((attN g t x.1 x.2).mode = 3) && (decide (0 ≤ (ownN g t x).1 ∧ (ownN g t x).1 < t.length) && (eqnF (fRul g.rules (t.getD (ownN g t x).1.toNat nodZ).rule) ((ownN g t x).2, x.2)).isSome))
def defO (g : Gram) (t : List Nod) (x : Int × ByteArray) : Int := if defB g t x = true then (ownN g t x).1 else 0
def defE (g : Gram) (t : List Nod) (x : Int × ByteArray) : Exp := if defB g t x = true then eqnE (fRul g.rules (t.getD (ownN g t x).1.toNat nodZ).rule) ((ownN g t x).2, x.2) else expZ
theorem defE_small {g : Gram} (hg : smGr g) (t : List Nod) (x : Int × ByteArray) : wEx (defE g t x) ≤ 1048576 := by
  unfold defE
  split
  · exact eqnE_small (smRu_f hg _) _
  · simp [expZ, wEx, wExL, noS, chars]
abbrev DfG (o : Int) (e : Exp) : GV := .agg [I o, I e.kind, I e.n, I e.pos, I e.type, T e.sym, T e.name, ExS e.args]
theorem nilL_bor {H : GH} {r sz : Nat} : ∀ {l : List GV}, BorL H (l ++ [.val (.slice none 0 0)]) (l ++ [.own r sz 0 0])
  | [] => .cons .virt .nil
  | _ :: _ => .cons .refl nilL_bor
theorem bor_Df {H : GH} {q n : Nat} {o : Int} {e : Exp} (hr : hget H q = some (7, e.args.map ExO)) (hn : e.args.length = n) : Bor H (.agg [I o, I e.kind, I e.n, I e.pos, I e.type, T e.sym, T e.name, .own q 7 0 n]) (DfG o e) :=
  .agg (.cons .refl (.cons .refl (.cons .refl (.cons .refl (.cons .refl (.cons .refl (.cons .refl (.cons (Bor.seen view_ExO hr hn) .nil))))))))
theorem hasN_ix {g : Gram} {t : List Nod} {n : Int} {m : ByteArray} (h : hasN g t n m = true) : 0 ≤ ixOf (fun y => decide (y.id = n)) t ∧ ixOf (fun y => decide (y.id = n)) t < t.length := by
  unfold hasN at h
  split at h
  · rcases ixOf_cases (fun y : Nod => decide (y.id = n)) t with h1 | h1
    · omega
    · exact h1
  · cases h
end Go.Gh

/- The attributes that an expression uses. -/
namespace Go.Gh
set_option linter.unusedSimpArgs false
set_option linter.unusedVariables false
theorem Pure.froz {P : Program} {f : FuncId} {gs gs' : List GV} {R : GV → Prop} {H : GH} (h : Pure P f gs' R) (hb : BorL H gs gs') : GCalls P f gs H (fun g H' => R g ∧ H' = []) := by
  intro w D Ω args hst hargs
  have hds : ∀ b, (D b ∨ b ∈ Ω) → b < w.heap.size := fun b hb => hb.elim (hst.ds b) (HM.flt hst.hm b)
  refine Yld.mono (fun v w' ⟨g, H', D', Ω', k1, k2, k3, k4⟩ => ?_) (h w _ [] args (St.nil hds) (hb w D Ω args hst hargs))
  exact ⟨g, [], D', [], ⟨k1, rfl⟩, k2, St.nil k3.ds, ⟨fun b hb => k4.d0 b (.inl hb), fun b hl hD => (k4.dn b hl hD).elim (fun h => h) (fun h => by simp at h), fun b hb hl => by simp at hb,
    k4.kp.mono fun _ _ _ => by simp, k4.os, k4.tape, k4.output⟩⟩
abbrev Oc := Int × ByteArray
abbrev OcS (l : List Oc) : GV := .sl 2 (l.map Occ)
def ltN (a b : ByteArray) : Bool := Op.bytesLess (chars a) (chars b)
def ltO (a b : Oc) : Bool := decide (a.1 < b.1) || (decide (a.1 = b.1) && ltN a.2 b.2)
def atO : List Oc → Oc → Nat
  | [], _ => 0
  | a :: l, o => if ltO a o = true then atO l o + 1 else 0
def putO (l : List Oc) (o : Oc) : List Oc := if l[atO l o]? = some o then l else l.take (atO l o) ++ o :: l.drop (atO l o)
mutual
def usE : Exp → List Oc → List Oc
  | .mk k _ p _ _ m a, l => usEL a (if k = 3 then putO l (p, m) else l)
def usEL : List Exp → List Oc → List Oc
  | [], l => l
  | e :: r, l => usEL r (usE e l)
end
theorem usE_eq (e : Exp) (l : List Oc) : usE e l = usEL e.args (if e.kind = 3 then putO l (e.pos, e.name) else l) := by
  cases e; rfl
theorem usEL_step {al : List Exp} {i : Nat} (h : i < al.length) (l : List Oc) : usEL (al.take (i + 1)) l = usE al[i] (usEL (al.take i) l) := by
  have hs : ∀ (al : List Exp) (e : Exp) (l : List Oc), usEL (al ++ [e]) l = usE e (usEL al l) := by
    intro al e
    induction al with
    | nil => intro l; rfl
    | cons a al ih => intro l; exact ih _
  rw [List.take_add_one, List.getElem?_eq_getElem h]
  exact hs _ _ _
theorem atO_le : ∀ (l : List Oc) (o : Oc), atO l o ≤ l.length
  | [], _ => Nat.le_refl _
  | a :: l, o => by
    have := atO_le l o
    simp only [atO, List.length_cons]
    split <;> omega
theorem atO_of : ∀ {l : List Oc} {o : Oc} {i : Nat}, i ≤ l.length → (∀ a ∈ l.take i, ltO a o = true) → (∀ h : i < l.length, ltO l[i] o = false) → atO l o = i
  | [], _, i, h, _, _ => by simp at h; subst h; rfl
  | a :: l, o, 0, _, _, h2 => by
    have := h2 (by simp)
    simp only [List.getElem_cons_zero] at this
    simp [atO, this]
  | a :: l, o, i + 1, h, h1, h2 => by
    have ha := h1 a (by simp)
    have := atO_of (l := l) (o := o) (i := i) (by simpa using h) (fun b hb => h1 b (by simp [hb])) (fun hi => by have := h2 (by simpa using hi); simpa using this)
    simp [atO, ha, this]
theorem take_all_step {α : Type} {p : α → Bool} {l : List α} {i : Nat} (h : i < l.length) (hp : p l[i] = true) (hn : ∀ a ∈ l.take i, p a = true) : ∀ a ∈ l.take (i + 1), p a = true := by
  rw [List.take_add_one, List.getElem?_eq_getElem h]
  intro a ha
  rcases List.mem_append.1 ha with ha | ha
  · exact hn a ha
  · simp at ha; subst ha; exact hp
theorem putM {l : List Oc} {o : Oc} {i : Nat} (hi : i ≤ l.length) : List.take (min i l.length - Int.toNat 0 + 1) (List.take (min i l.length - Int.toNat 0) (List.drop (Int.toNat 0) (List.take i (List.map Occ l))) ++ [Occ o]) ++ List.drop i (List.take l.length (List.map Occ l)) = (l.take i ++ o :: l.drop i).map Occ := by
  have hm : min i l.length = i := by omega
  have h0 : Int.toNat 0 = 0 := rfl
  have a1 : List.take i (List.take i (List.map Occ l)) = (l.take i).map Occ := by rw [List.take_take, Nat.min_self, List.map_take]
  have a2 : List.take l.length (List.map Occ l) = List.map Occ l := List.take_of_length_le (by simp)
  rw [h0, hm, Nat.sub_zero, List.drop_zero, a1, a2, List.take_of_length_le (l := (l.take i).map Occ ++ [Occ o]) (by simp; omega), List.map_append, List.map_cons, List.map_drop, List.append_assoc]
  rfl
theorem putN {l : List Oc} {o : Oc} {i : Nat} (hi : i ≤ l.length) : min i l.length - Int.toNat 0 + 1 + (min l.length l.length - i) = (l.take i ++ o :: l.drop i).length := by
  have h0 : Int.toNat 0 = 0 := rfl
  rw [h0]; simp; omega
theorem putO_len (l : List Oc) (o : Oc) : (putO l o).length ≤ l.length + 1 := by
  unfold putO
  split
  · omega
  · have := atO_le l o
    simp; omega
theorem wExL_step {al : List Exp} {i : Nat} (h : i < al.length) : wExL (al.take (i + 1)) = wExL (al.take i) + wEx al[i] := by
  rw [wExL_eq, wExL_eq, List.take_add_one, List.getElem?_eq_getElem h]
  simp only [Option.toList_some, List.map_append, List.map_cons, List.map_nil, List.sum_append, List.sum_cons, List.sum_nil, Nat.add_zero]
theorem wExL_take (al : List Exp) (i : Nat) : wExL (al.take i) ≤ wExL al := by
  have := congrArg (fun l : List Exp => (l.map wEx).sum) (List.take_append_drop i al)
  simp only [List.map_append, List.sum_append] at this
  rw [wExL_eq, wExL_eq]
  omega
theorem wEx_args (e : Exp) : e.args.length + wExL e.args ≤ wEx e := by
  cases e; simp only [wEx, Exp.args]; omega
mutual
theorem usE_len : ∀ (e : Exp) (l : List Oc), (usE e l).length ≤ l.length + (1 + wEx e)
  | .mk k n p t s m a, l => by
    have h1 := usEL_len a (if k = 3 then putO l (p, m) else l)
    have h2 : (if k = 3 then putO l (p, m) else l).length ≤ l.length + 1 := by split; exact putO_len _ _; omega
    simp only [usE, wEx]
    omega
theorem usEL_len : ∀ (al : List Exp) (l : List Oc), (usEL al l).length ≤ l.length + (al.length + wExL al)
  | [], l => by simp [usEL, wExL]
  | e :: r, l => by
    have h1 := usE_len e l
    have h2 := usEL_len r (usE e l)
    simp only [usEL, wExL, List.length_cons]
    omega
end
end Go.Gh

/- The attributes that an expression uses: in order, once each. -/
namespace Go.Gh
set_option linter.unusedSimpArgs false
set_option linter.unusedVariables false
theorem ltN_eq (a b : ByteArray) : ltN a b = decide (chars a < chars b) := Proofs.bytesLess_eq _ _
theorem ltN_irr (a : ByteArray) : ltN a a = false := by
  rw [ltN_eq]; exact decide_eq_false (List.lt_irrefl _)
theorem ltN_trans {a b c : ByteArray} (h : ltN a b = true) (k : ltN b c = true) : ltN a c = true := by
  rw [ltN_eq, decide_eq_true_eq] at *; exact List.lt_trans h k
theorem ltN_tri {a b : ByteArray} (h : ltN a b = false) (k : ltN b a = false) : a = b := by
  rw [ltN_eq, decide_eq_false_iff_not] at *
  exact chars_inj.1 (List.le_antisymm (List.not_lt.1 k) (List.not_lt.1 h))
theorem ltO_iff {a b : Oc} : ltO a b = true ↔ a.1 < b.1 ∨ (a.1 = b.1 ∧ ltN a.2 b.2 = true) := by simp [ltO]
theorem ltO_irr (a : Oc) : ltO a a = false := by simp [ltO, ltN_irr]
theorem ltO_trans {a b c : Oc} (h : ltO a b = true) (k : ltO b c = true) : ltO a c = true := by
  rw [ltO_iff] at *
  rcases h with h | ⟨h1, h2⟩ <;> rcases k with k | ⟨k1, k2⟩
  · exact .inl (by omega)
  · exact .inl (by omega)
  · exact .inl (by omega)
  · exact .inr ⟨by omega, ltN_trans h2 k2⟩
theorem ltO_tri {a b : Oc} (h : ltO a b = false) (k : ltO b a = false) : a = b := by
  have h' : ¬ (a.1 < b.1 ∨ (a.1 = b.1 ∧ ltN a.2 b.2 = true)) := fun e => by rw [ltO_iff.2 e] at h; cases h
  have k' : ¬ (b.1 < a.1 ∨ (b.1 = a.1 ∧ ltN b.2 a.2 = true)) := fun e => by rw [ltO_iff.2 e] at k; cases k
  have e : a.1 = b.1 := by omega
  refine Prod.ext e (ltN_tri ?_ ?_)
  · cases q : ltN a.2 b.2
    · rfl
    · exact absurd (.inr ⟨e, q⟩) h'
  · cases q : ltN b.2 a.2
    · rfl
    · exact absurd (.inr ⟨e.symm, q⟩) k'
theorem ltO_asym {a b : Oc} (h : ltO a b = true) : ltO b a = false := by
  cases q : ltO b a
  · rfl
  · have := ltO_trans h q; rw [ltO_irr] at this; cases this
theorem ltO_swo : Sort.SWO ltO where
  irrefl := ltO_irr
  trans _ _ _ := ltO_trans
  ntrans x y z h k := by
    cases q : ltO x z
    · rfl
    · cases e : ltO y x
      · rw [ltO_tri h e] at q; rw [q] at k; cases k
      · have := ltO_trans e q; rw [this] at k; cases k
abbrev SSO (l : List Oc) : Prop := l.Pairwise fun a b => ltO a b = true
theorem SSO.ext : ∀ {l k : List Oc}, SSO l → SSO k → (∀ x, x ∈ l ↔ x ∈ k) → l = k
  | [], [], _, _, _ => rfl
  | [], b :: k, _, _, h => by have := (h b).2 (by simp); simp at this
  | a :: l, [], _, _, h => by have := (h a).1 (by simp); simp at this
  | a :: l, b :: k, h1, h2, h => by
    rw [SSO, List.pairwise_cons] at h1 h2
    have e : a = b := by
      rcases List.mem_cons.1 ((h a).1 (by simp)) with e | e
      · exact e
      · rcases List.mem_cons.1 ((h b).2 (by simp)) with e' | e'
        · exact e'.symm
        · have q1 := h2.1 a e
          have q2 := h1.1 b e'
          rw [ltO_asym q1] at q2; cases q2
    subst e
    congr 1
    refine SSO.ext h1.2 h2.2 fun x => ⟨fun hx => ?_, fun hx => ?_⟩
    · rcases List.mem_cons.1 ((h x).1 (by simp [hx])) with e | e
      · subst e; have := h1.1 _ hx; rw [ltO_irr] at this; cases this
      · exact e
    · rcases List.mem_cons.1 ((h x).2 (by simp [hx])) with e | e
      · subst e; have := h2.1 _ hx; rw [ltO_irr] at this; cases this
      · exact e
theorem putO_nil (o : Oc) : putO [] o = [o] := rfl
theorem putO_cons (a : Oc) (l : List Oc) (o : Oc) : putO (a :: l) o = if ltO a o = true then a :: putO l o else if a = o then a :: l else o :: a :: l := by
  unfold putO
  by_cases h : ltO a o = true
  · simp only [atO, if_pos h, List.getElem?_cons_succ]
    split <;> rfl
  · simp only [atO, if_neg h, List.getElem?_cons_zero, Option.some.injEq]
    split <;> simp
theorem putO_ss (o : Oc) : ∀ {l : List Oc}, SSO l → SSO (putO l o) ∧ ∀ x, x ∈ putO l o ↔ x ∈ l ∨ x = o
  | [], _ => by rw [putO_nil]; simp
  | a :: l, h => by
    rw [SSO, List.pairwise_cons] at h
    obtain ⟨i1, i2⟩ := putO_ss o h.2
    rw [putO_cons]
    by_cases h1 : ltO a o = true
    · rw [if_pos h1]
      refine ⟨List.pairwise_cons.2 ⟨fun x hx => ?_, i1⟩, fun x => ?_⟩
      · rcases (i2 x).1 hx with e | e
        · exact h.1 x e
        · rw [e]; exact h1
      · simp only [List.mem_cons, i2 x, or_assoc]
    · rw [if_neg h1]
      by_cases h2 : a = o
      · rw [if_pos h2]
        exact ⟨List.pairwise_cons.2 h, fun x => ⟨.inl, fun e => e.elim id fun e => by simp [e, h2]⟩⟩
      · rw [if_neg h2]
        have h3 : ltO o a = true := by
          cases q : ltO o a
          · exact absurd (ltO_tri (by simpa using h1) q) h2
          · rfl
        refine ⟨List.pairwise_cons.2 ⟨fun x hx => ?_, List.pairwise_cons.2 h⟩, fun x => ?_⟩
        · rcases List.mem_cons.1 hx with e | e
          · rw [e]; exact h3
          · exact ltO_trans h3 (h.1 x e)
        · simp only [List.mem_cons]; constructor
          · rintro (e | e | e); exact .inr e; exact .inl (.inl e); exact .inl (.inr e)
          · rintro ((e | e) | e); exact .inr (.inl e); exact .inr (.inr e); exact .inl e
mutual
def occE : Exp → List Oc
  | .mk k _ p _ _ m a => (if k = 3 then [(p, m)] else []) ++ occEL a
def occEL : List Exp → List Oc
  | [] => []
  | e :: r => occE e ++ occEL r
end
mutual
theorem usE_fold : ∀ (e : Exp) (l : List Oc), usE e l = (occE e).foldl putO l
  | .mk k _ p _ _ m a, l => by
    simp only [usE, occE, usEL_fold a, List.foldl_append]
    split <;> rfl
theorem usEL_fold : ∀ (al : List Exp) (l : List Oc), usEL al l = (occEL al).foldl putO l
  | [], l => rfl
  | e :: r, l => by simp only [usEL, occEL, usEL_fold r, usE_fold e, List.foldl_append]
end
theorem foldO_ss : ∀ (os : List Oc) {l : List Oc}, SSO l → SSO (os.foldl putO l) ∧ ∀ x, x ∈ os.foldl putO l ↔ x ∈ l ∨ x ∈ os
  | [], l, h => by simp [h]
  | o :: os, l, h => by
    obtain ⟨h1, h2⟩ := putO_ss o h
    obtain ⟨h3, h4⟩ := foldO_ss os h1
    refine ⟨h3, fun x => ?_⟩
    rw [List.foldl_cons, h4 x, h2 x, List.mem_cons, or_assoc]
def cpO (l : List Oc) : List Oc := l.foldl (fun acc x => if acc.getLast? = some x then acc else acc ++ [x]) []
theorem cpO_snoc (l : List Oc) (x : Oc) : cpO (l ++ [x]) = if (cpO l).getLast? = some x then cpO l else cpO l ++ [x] := by
  unfold cpO
  rw [List.foldl_append]
  rfl
theorem snocInd {α : Type} {p : List α → Prop} (h0 : p []) (h1 : ∀ l x, p l → p (l ++ [x])) (l : List α) : p l := by
  have key : ∀ r : List α, p r.reverse := fun r => by
    induction r with
    | nil => exact h0
    | cons a r ih => rw [List.reverse_cons]; exact h1 _ _ ih
  have := key l.reverse
  rwa [List.reverse_reverse] at this
theorem cpO_last (l : List Oc) : (cpO l).getLast? = l.getLast? := by
  refine snocInd (p := fun l => (cpO l).getLast? = l.getLast?) rfl (fun l x ih => ?_) l
  rw [cpO_snoc]
  split
  · rename_i h; rw [h]; simp
  · simp
theorem cpO_step (l : List Oc) (x : Oc) : cpO (l ++ [x]) = if l.getLast? = some x then cpO l else cpO l ++ [x] := by rw [cpO_snoc, cpO_last]
theorem cpO_mem (l : List Oc) : ∀ x, x ∈ cpO l ↔ x ∈ l := by
  refine snocInd (p := fun l => ∀ x, x ∈ cpO l ↔ x ∈ l) (fun x => Iff.rfl) (fun l y ih x => ?_) l
  rw [cpO_step]
  split
  · rename_i h
    rw [ih x, List.mem_append, List.mem_singleton]
    exact ⟨.inl, fun e => e.elim id fun e => by rw [e]; exact List.mem_of_getLast? h⟩
  · rw [List.mem_append, List.mem_append, ih x]
theorem cpO_ss (l : List Oc) : (l.Pairwise fun a b => ltO b a = false) → SSO (cpO l) := by
  refine snocInd (p := fun l => (l.Pairwise fun a b => ltO b a = false) → SSO (cpO l)) (fun _ => List.Pairwise.nil) (fun l y ih h => ?_) l
  rw [List.pairwise_append] at h
  obtain ⟨h1, _, h3⟩ := h
  rw [cpO_step]
  split
  · exact ih h1
  · rename_i hne
    refine List.pairwise_append.2 ⟨ih h1, List.pairwise_singleton _ _, fun a ha b hb => ?_⟩
    rw [List.mem_singleton] at hb
    subst hb
    have ha' := (cpO_mem l a).1 ha
    have q := h3 a ha' b (by simp)
    cases e : ltO a b
    · exfalso
      have hab := ltO_tri e q
      subst hab
      obtain ⟨z, hz⟩ : ∃ z, l.getLast? = some z := by
        cases hl : l.getLast? with
        | none => rw [List.getLast?_eq_none_iff] at hl; subst hl; simp at ha'
        | some z => exact ⟨z, rfl⟩
      rw [hz] at hne
      have hz' := List.mem_of_getLast? hz
      have q2 := h3 z hz' a (by simp)
      have q3 : ltO z a = false := by
        obtain ⟨l', rfl⟩ : ∃ l', l = l' ++ [z] := by
          rcases List.eq_nil_or_concat l with e | ⟨l', b, e⟩
          · subst e; simp at ha'
          · refine ⟨l', ?_⟩
            rw [List.concat_eq_append] at e
            subst e
            simp at hz
            rw [hz]
        rw [List.pairwise_append] at h1
        rcases List.mem_append.1 ha' with e1 | e1
        · exact h1.2.2 a e1 z (by simp)
        · rw [List.mem_singleton] at e1; rw [e1]; exact ltO_irr z
      exact hne (by rw [ltO_tri q3 q2])
    · rfl
abbrev srO (l : List Oc) : List Oc := l.mergeSort fun x y => !ltO y x
theorem srO_sorted (l : List Oc) : (srO l).Pairwise fun a b => ltO b a = false := by
  have h := List.pairwise_mergeSort (le := fun x y : Oc => !ltO y x)
    (fun a b c h k => by
      simp only [Bool.not_eq_true'] at h k ⊢
      exact ltO_swo.ntrans _ _ _ k h)
    (fun a b => by
      cases e : ltO b a
      · simp
      · simp [ltO_asym e]) l
  exact h.imp fun h => by simpa using h
theorem usE_cp (e : Exp) : cpO (srO (occE e)) = usE e [] := by
  rw [usE_fold]
  obtain ⟨h1, h2⟩ := foldO_ss (occE e) (l := []) List.Pairwise.nil
  refine SSO.ext (cpO_ss _ (srO_sorted _)) h1 fun x => ?_
  rw [cpO_mem, h2 x, (List.mergeSort_perm _ _).mem_iff]
  simp
theorem srO_len (l : List Oc) : (srO l).length = l.length := List.length_mergeSort _
mutual
theorem occE_len : ∀ e : Exp, (occE e).length ≤ 1 + wEx e
  | .mk k n p t s m a => by
    have h1 := occEL_len a
    simp only [occE, wEx, List.length_append]
    have h2 : (if k = 3 then [(p, m)] else []).length ≤ 1 := by split <;> simp
    omega
theorem occEL_len : ∀ al : List Exp, (occEL al).length ≤ al.length + wExL al
  | [] => by simp [occEL]
  | e :: r => by
    have h1 := occE_len e
    have h2 := occEL_len r
    simp only [occEL, wExL, List.length_cons, List.length_append]
    omega
end
theorem cpO_len (l : List Oc) : (cpO l).length ≤ l.length := by
  refine snocInd (p := fun l => (cpO l).length ≤ l.length) (Nat.le_refl _) (fun l x ih => ?_) l
  rw [cpO_step]
  split <;> simp <;> omega
theorem cpO_take {l : List Oc} {j : Nat} (h : j + 1 < l.length) : cpO (l.take (j + 2)) = if l[j + 1] = l[j] then cpO (l.take (j + 1)) else cpO (l.take (j + 1)) ++ [l[j + 1]] := by
  have e : l.take (j + 2) = l.take (j + 1) ++ [l[j + 1]] := by rw [List.take_add_one (i := j + 1), List.getElem?_eq_getElem h]; rfl
  have e2 : (l.take (j + 1)).getLast? = some l[j] := by
    rw [List.take_add_one, List.getElem?_eq_getElem (by omega : j < l.length), Option.toList_some, List.getLast?_append]
    rfl
  rw [e, cpO_step, e2]
  simp only [Option.some.injEq]
  by_cases hq : l[j] = l[j + 1]
  · rw [if_pos hq, if_pos hq.symm]
  · rw [if_neg hq, if_neg (fun e => hq e.symm)]
end Go.Gh

/- slices.SortFunc at occurrences: the kit's contract, over ghosts. A slice of own slices. -/
namespace Go.Gh
set_option linter.unusedSimpArgs false
set_option linter.unusedVariables false
open Go.Sort (HoldsK Holds flatK putRowK grow)
open Go.Proofs (sortWorldK)
def encO (o : Oc) : List Value := [.int .i64 o.1, .string o.2]
theorem encO_len (o : Oc) : (encO o).length = 2 := rfl
theorem encO_one (o : Oc) : ∀ v ∈ encO o, v.oneCell' = true := by
  intro v hv
  simp only [encO, List.mem_cons, List.not_mem_nil, or_false] at hv
  rcases hv with rfl | rfl <;> rfl
theorem MF_Occ {w : World} {D : Nat → Prop} : ∀ {l : List Oc} {cs : List Value} {F : List Nat}, MF w D 2 (l.map Occ) cs F → cs = l.flatMap encO ∧ F = []
  | [], cs, F, h => by simpa [MF] using h
  | o :: l, cs, F, h => by
    simp only [List.map_cons, MF] at h
    obtain ⟨v, cs', F1, F2, h1, h2, h3, h4, h5, h6⟩ := h
    obtain ⟨e1, e2⟩ := MF_Occ h6
    simp only [MV, ML] at h5
    obtain ⟨vs, rfl, _, u1, us, G1, G2, rfl, rfl, ⟨rfl, rfl⟩, u2, us2, G3, G4, rfl, rfl, ⟨rfl, rfl⟩, rfl, rfl⟩ := h5
    subst e1 e2 h1 h4
    exact ⟨rfl, rfl⟩
theorem Occ_MF (w : World) (D : Nat → Prop) : ∀ l : List Oc, MF w D 2 (l.map Occ) (l.flatMap encO) []
  | [] => by simp [MF]
  | o :: l => by
    simp only [List.map_cons, MF]
    refine ⟨.agg (encO o).toArray, l.flatMap encO, [], [], rfl, rfl, ?_, rfl, ?_, Occ_MF w D l⟩
    · intro x hx
      exact encO_one o x (by simpa [Value.cells] using hx)
    · simp only [MV, ML]
      exact ⟨encO o, rfl, encO_one o, _, _, [], [], rfl, rfl, ⟨rfl, rfl⟩, _, _, [], [], rfl, rfl, ⟨rfl, rfl⟩, rfl, rfl⟩
theorem flat_len : ∀ l : List Oc, (l.flatMap encO).length = l.length * 2
  | [] => rfl
  | o :: l => by simp only [List.flatMap_cons, List.length_append, flat_len l, List.length_cons, encO_len]; omega
theorem flat_get : ∀ (l : List Oc) (t : Nat), t < l.length * 2 → (l.flatMap encO)[t]? = some ((encO l[t / 2]!)[t % 2]!)
  | [], t, h => by simp at h
  | o :: l, t, h => by
    simp only [List.flatMap_cons]
    match t, h with
    | 0, _ => rfl
    | 1, _ => rfl
    | t + 2, h =>
      have e1 : (t + 2) / 2 = t / 2 + 1 := by omega
      have e2 : (t + 2) % 2 = t % 2 := by omega
      rw [List.getElem?_append_right (by simp [encO_len]), e1, e2, encO_len, Nat.add_sub_cancel, flat_get l t (by simp at h; omega)]
      simp
theorem flatK_toList (l : List Oc) : (flatK encO 2 l.toArray).toList = l.flatMap encO := by
  refine List.ext_getElem? fun t => ?_
  rcases Nat.lt_or_ge t (l.length * 2) with h | h
  · rw [flat_get l t h]
    have h' : t < (flatK encO 2 l.toArray).size := by simpa using h
    rw [Array.getElem?_toList, Array.getElem?_eq_getElem h', ← getElem!_pos (flatK encO 2 l.toArray) t h', Sort.get_flatK _ _ _ _ (by simpa using h)]
    simp
  · rw [List.getElem?_eq_none (l := l.flatMap encO) (by rw [flat_len]; exact h), List.getElem?_eq_none (by simpa using h)]
theorem St.putO {w w' : World} {D : Nat → Prop} {H : GH} {Ω : List Nat} (h : St w D H Ω) {r : Nat} {l l' : List Oc} (hr : hget H r = some (2, l.map Occ)) (hl : l'.length = l.length) (hk : Kept w w' (fun x => r ≠ 2 * x))
    (hos : w'.os = w.os) (htp : w'.tape = w.tape) (hou : w'.output = w.output)
    (hb : ∀ b c T fz, r = 2 * b → w.heap[b]? = some (Obj.cells c T fz) → Thaw c fz → l.length * 2 ≤ c.size → ∃ c', w'.heap[b]? = some (Obj.cells c' T fz) ∧ c'.size = c.size ∧ c'.toList.take (l.length * 2) = l'.flatMap encO) :
    ∃ Ω', St w' D (hset H r (l'.map Occ)) Ω' ∧ Ev w D Ω w' D Ω' := by
  obtain ⟨Ω1, F, Ω2, hΩ, hR, hput, _⟩ := HM.take h.hm hr
  have hDr : ∀ b, F = [b] → r = 2 * b → ∀ x, D x → r ≠ 2 * x := fun b hF e x hx e' => by
    have : x = b := by omega
    subst this
    exact h.dj x (by rw [hΩ, hF]; simp) hx
  rcases hR with ⟨b, c, T, fz, F', k1, k2, k3, k4, k5, k6, k7⟩ | ⟨k1, k2, k3⟩
  · rw [List.length_map] at k4 k5 k7
    obtain ⟨c', c1, c2, c3⟩ := hb b c T fz k1 k2 k3 k4
    obtain ⟨_, e0⟩ := MF_Occ k7
    subst e0
    subst k6 hΩ
    have hnd := h.nd
    have hbΩ : b ∈ Ω1 ++ ([b] ++ Ω2) := by simp
    have hb1 : ∀ x ∈ Ω1 ++ Ω2, r ≠ 2 * x := fun x hx e => by
      have : x = b := by omega
      subst this
      simp only [List.nodup_append, List.nodup_cons, List.mem_append, List.mem_cons, List.cons_append] at hnd hx
      rcases hx with hx | hx
      · exact hnd.2.2 _ hx _ (.inl rfl) rfl
      · exact hnd.2.1.1 (by simpa using hx)
    refine ⟨Ω1 ++ ([b] ++ Ω2), ⟨hput w' D (fun x => r ≠ 2 * x) _ _ hk (hDr b rfl k1) (fun _ h => h) hb1 ?_, hnd, by rw [names_hset]; exact h.nn, h.dj, fun x hx => Nat.lt_of_lt_of_le (h.ds x hx) hk.size⟩,
      ⟨fun _ h => h, fun _ _ h => .inl h, fun x hx _ => hx, hk.mono ?_, hos, htp, hou⟩⟩
    · refine .inl ⟨b, c', T, fz, [], k1, c1, ?_, by rw [List.length_map, hl, c2]; exact k4, by rw [List.length_map, hl]; exact k5, rfl, ?_⟩
      · unfold Thaw at *; rw [c2]; exact k3
      · rw [List.length_map, hl, c3]; exact Occ_MF w' D l'
    · intro x _ hx e
      have : x = b := by omega
      subst this
      exact hx hbΩ
  · have e0 : l = [] := by simpa using k2
    subst e0 k3 hΩ
    have e1 : l' = [] := List.eq_nil_of_length_eq_zero hl
    subst e1
    have hne : ∀ x : Nat, r ≠ 2 * x := fun x e => by omega
    exact ⟨_, ⟨hput w' D (fun x => r ≠ 2 * x) _ [] hk (fun x _ => hne x) (fun _ h => h) (fun x _ => hne x) (.inr ⟨k1, rfl, rfl⟩), h.nd, by rw [names_hset]; exact h.nn, h.dj, fun x hx => Nat.lt_of_lt_of_le (h.ds x hx) hk.size⟩,
      ⟨fun _ h => h, fun _ _ h => .inl h, fun x hx _ => hx, hk.mono fun x _ _ => hne x, hos, htp, hou⟩⟩
theorem kept_sort {w : World} {b n : Nat} {dk : Array Oc} {os : Array Obj} : Kept w (sortWorldK encO 2 w b 0 n dk os) (fun x => x ≠ b) := by
  have hsz : (putRowK encO 2 (Sort.ahead w n) b 0 dk).heap.size = w.heap.size := by simp [putRowK, Sort.putRow, Sort.mapBlock, Sort.ahead]
  have hget : ∀ x, x < w.heap.size → (sortWorldK encO 2 w b 0 n dk os).heap[x]? = (putRowK encO 2 (Sort.ahead w n) b 0 dk).heap[x]? := fun x hx => by
    show ((putRowK encO 2 (Sort.ahead w n) b 0 dk).heap ++ os)[x]? = _
    rw [Array.getElem?_append_left (by rw [hsz]; exact hx)]
  refine ⟨fun x hx hne => ?_, ?_, fun x c T fz hx => ?_⟩
  · rw [hget x hx]
    simp only [putRowK, Sort.putRow, Sort.mapBlock, Sort.ahead, Array.getElem?_modify]
    rw [if_neg (fun e => hne e.symm)]
  · show w.heap.size ≤ ((putRowK encO 2 (Sort.ahead w n) b 0 dk).heap ++ os).size
    rw [Array.size_append, hsz]; omega
  · rw [hget x (lt_of_heap hx)]
    simp only [putRowK, Sort.putRow, Sort.mapBlock, Sort.ahead, Array.getElem?_modify]
    by_cases e : b = x
    · subst e
      simp only [if_true, hx, Option.map_some, Sort.onCells]
      exact ⟨_, _, rfl, by simp [Sort.putCells]⟩
    · rw [if_neg e]; exact ⟨c, fz, hx, rfl⟩
theorem cells_sort {w : World} {b n : Nat} {dk : List Oc} {os : Array Obj} {c : Array Value} {T : TypeId} {fz : Nat × Nat} (hx : w.heap[b]? = some (.cells c T fz)) (hs : dk.length * 2 ≤ c.size) :
    ∃ c', (sortWorldK encO 2 w b 0 n dk.toArray os).heap[b]? = some (.cells c' T fz) ∧ c'.size = c.size ∧ c'.toList.take (dk.length * 2) = dk.flatMap encO := by
  have hsz : (putRowK encO 2 (Sort.ahead w n) b 0 dk.toArray).heap.size = w.heap.size := by simp [putRowK, Sort.putRow, Sort.mapBlock, Sort.ahead]
  have e : (sortWorldK encO 2 w b 0 n dk.toArray os).heap[b]? = (putRowK encO 2 (Sort.ahead w n) b 0 dk.toArray).heap[b]? := by
    show ((putRowK encO 2 (Sort.ahead w n) b 0 dk.toArray).heap ++ os)[b]? = _
    rw [Array.getElem?_append_left (by rw [hsz]; exact lt_of_heap hx)]
  rw [e]
  simp only [putRowK, Sort.putRow, Sort.mapBlock, Sort.ahead, Array.getElem?_modify, if_true, hx, Option.map_some, Sort.onCells]
  refine ⟨_, rfl, by simp [Sort.putCells], ?_⟩
  rw [← flatK_toList]
  refine List.ext_getElem? fun t => ?_
  rcases Nat.lt_or_ge t (dk.length * 2) with h | h
  · have h1 : t < c.size := by omega
    have h' : t < (flatK encO 2 dk.toArray).size := by simpa using h
    rw [List.getElem?_take_of_lt h, Array.getElem?_toList, Array.getElem?_toList, Array.getElem?_eq_getElem h']
    simp only [Sort.putCells, Array.getElem?_mapIdx, Array.getElem?_eq_getElem h1, Option.map_some]
    rw [if_pos ⟨Nat.zero_le _, by simpa using h⟩, Nat.sub_zero, getElem!_pos (flatK encO 2 dk.toArray) t h']
    rfl
  · rw [List.getElem?_eq_none (by simp; omega), List.getElem?_eq_none (by simpa using h)]
theorem sort_ok {P : Program} {fs g : Nat} (hc : ∀ (w : World) (b cap : Nat) (d : Array Oc), HoldsK encO 2 w b 0 d → b < w.heap.size → d.size < 4611686018427387904 →
      Calls P fs #[.slice (some ⟨b, 0, none⟩) d.size cap, .func (.func g) #[] #[]] w fun e w' => e = .returned (.tuple #[]) ∧ ∃ n os, w' = sortWorldK encO 2 w b 0 n (srO d.toList).toArray os)
    (h0 : ∀ (p : Option Addr) (cap : Nat) (fv : Value) (w : World), Calls P fs #[.slice p 0 cap, fv] w fun e w' => e = .returned (.tuple #[]) ∧ w' = w)
    (eg : ∀ args w, (callFunc fs args).run P w = .ok (.enter fs args) w)
    {r n : Nat} {l : List Oc} {H : GH} (hr : hget H r = some (2, l.map Occ)) (hn : l.length = n) (hb : n < 4611686018427387904) :
    GCalls P fs [.own r 2 0 n, .clo g []] H (fun v H' => v = uG ∧ H' = hset H r ((srO l).map Occ)) := by
  intro w D Ω args hst hargs
  simp only [ML] at hargs
  obtain ⟨v1, vs1, F1, F2, rfl, e1, hv1, v2, vs2, F3, F4, rfl, e2, hv2, rfl, e3⟩ := hargs
  simp only [MV, ML] at hv1 hv2
  obtain ⟨rfl, hv1⟩ := hv1
  obtain ⟨rfl, vs, rfl, rfl, _⟩ := hv2
  rw [eg]
  show Calls P fs _ w _
  by_cases hz : n = 0
  · have e0 : l = [] := List.eq_nil_of_length_eq_zero (by omega)
    subst e0
    have hH : hset H r ((srO []).map Occ) = H := by
      have : srO [] = [] := by simp [srO]
      rw [this]; exact hset_self hr
    have key : ∀ p cap, v1 = .slice p 0 cap → Calls P fs #[v1, .func (.func g) #[] #[]] w (fun e w'' => ∃ v, e = .returned v ∧ Post w D Ω (fun v H' => v = uG ∧ H' = hset H r ((srO []).map Occ)) v w'') := fun p cap e => by
      subst e
      refine (h0 p cap _ w).mono ?_
      rintro e w' ⟨rfl, rfl⟩
      exact ⟨_, rfl, Post.here hst ⟨rfl, hH.symm⟩ (MV.val_mk _)⟩
    rcases hv1 with ⟨b, cap, c, T, fz, q0, hp, _⟩ | ⟨_, a, hp⟩
    · rw [hz] at hp; exact key _ _ hp
    · exact key _ _ hp
  · rcases hv1 with ⟨b, cap, c, T, fz, q0, hp, q1, q2, q3⟩ | ⟨q, _⟩
    case inr => exact absurd q hz
    rw [Nat.zero_mul] at hp
    subst hp
    obtain ⟨F, hF, hFΩ⟩ := hst.hm.mem hr
    obtain ⟨b', c', T', fz', F', k1, k2, k3, k4, k5, k6, k7⟩ := hF.es_ne (fun e => by
      have : l = [] := by simpa using e
      subst this; exact hz (by simpa using hn.symm))
    have : b' = b := by omega
    subst this
    rw [q2] at k2
    simp only [Option.some.injEq, Obj.cells.injEq] at k2
    obtain ⟨rfl, rfl, rfl⟩ := k2
    rw [List.length_map] at k4 k7
    obtain ⟨hcs, _⟩ := MF_Occ k7
    have hH : HoldsK encO 2 w b' 0 l.toArray := by
      intro j hj
      have hj' : j < l.length * 2 := by simpa using hj
      have hjc : j < c.size := by omega
      have hx := flat_get l j hj'
      rw [← hcs, List.getElem?_take_of_lt hj', Array.getElem?_toList] at hx
      refine ⟨?_, ?_⟩
      · rw [Nat.zero_add]
        simp only [World.cell?, q2, Option.isSome_none, Bool.false_eq_true, if_false, hx, id]
        rw [Sort.get_flatK _ _ _ _ (by simpa using hj')]
        simp
      · rw [Nat.zero_add]
        simp only [World.frozen?, q2]
        exact k3 j hjc
    have hcall := hc w b' cap l.toArray hH (lt_of_heap q2) (by simpa [hn] using hb)
    have hsz : l.toArray.size = n := by simpa using hn
    rw [hsz] at hcall
    refine hcall.mono ?_
    rintro e w' ⟨rfl, m, os, rfl⟩
    have hkp : Kept w (sortWorldK encO 2 w b' 0 m (srO l).toArray os) (fun x => r ≠ 2 * x) := (kept_sort (b := b')).mono fun x _ hx e => hx (by omega)
    obtain ⟨Ω', c1, c2⟩ := hst.putO (l' := srO l) hr (srO_len l) hkp rfl rfl rfl (fun b c2 T2 fz2 e1 e2 _ hs => by
      have : b = b' := by omega
      subst this
      rw [q2] at e2
      simp only [Option.some.injEq, Obj.cells.injEq] at e2
      obtain ⟨rfl, rfl, rfl⟩ := e2
      have := cells_sort (n := m) (dk := srO l) (os := os) q2 (by rw [srO_len]; exact hs)
      rwa [srO_len] at this)
    exact ⟨_, rfl, _, _, D, Ω', ⟨rfl, rfl⟩, MV.val_mk _, c1, c2⟩
theorem hget_hset_ne {r q : Nat} {es : List GV} (h : r ≠ q) : ∀ {H : GH}, hget (hset H r es) q = hget H q
  | [] => rfl
  | (p, sz, fs) :: H => by
    simp only [hset]
    by_cases h1 : p = r
    · rw [if_pos h1, hget, hget, if_neg (by omega), if_neg (by omega)]
    · rw [if_neg h1, hget, hget, hget_hset_ne h]
theorem MV.agg1 {w : World} {D : Nat → Prop} {r sz k n : Nat} : ∀ v F, MV w D (.own r sz k n) v F → ∃ v', v'.cells = v.cells ∧ MV w D (.agg [.own r sz k n]) v' F := fun v F h => by
  have hs : ∃ a m c, v = .slice a m c := by
    simp only [MV] at h
    rcases h.2 with ⟨b, cap, c, T, fz, _, hp, _⟩ | ⟨_, a, hp⟩
    · exact ⟨_, _, _, hp⟩
    · exact ⟨_, _, _, hp⟩
  obtain ⟨a, m, c, rfl⟩ := hs
  refine ⟨.agg #[.slice a m c], rfl, ?_⟩
  have hF : F = [] := by simp only [MV] at h; exact h.1
  subst hF
  rw [MV]
  refine ⟨[.slice a m c], rfl, by simp [Value.oneCell'], ?_⟩
  rw [ML]
  exact ⟨_, _, [], [], rfl, rfl, h, by simp [ML]⟩
theorem FE.closeE {env : Env} {H : GH} {r r1 sz sz1 i n : Nat} {es ks : List GV} (hne : r ≠ r1) (hr : hget H r = some (sz, es)) (he : es[i]? = some (.own r1 sz1 0 n)) (hr1 : hget H r1 = some (sz1, ks)) (hn : ks.length = n) :
    FE env H env (hdel (hset H r (es.set i (.osl sz1 ks))) r1) := by
  have hi : i < es.length := by
    rcases Nat.lt_or_ge i es.length with h | h
    · exact h
    · rw [List.getElem?_eq_none h] at he; cases he
  have h1 := FE.exchC (env := env) (i := i) (e' := .agg [.own r1 sz1 0 n]) hr he (fun _ _ => MV.agg1)
  have h2 := FE.close (env := env) (H := hset H r (es.set i (.agg [.own r1 sz1 0 n]))) (r := r) (r1 := r1) (i := i) (j := 0) hne (by rw [hget_set hr]) (List.getElem?_set_self hi) rfl (by rw [hget_hset_ne hne]; exact hr1) hn
  have h3 := FE.exchC (env := env) (H := hdel (hset (hset H r (es.set i (.agg [.own r1 sz1 0 n]))) r ((es.set i (.agg [.own r1 sz1 0 n])).set i (.agg [.osl sz1 ks]))) r1) (r := r) (i := i) (e' := .osl sz1 ks) (by rw [hget_hdel hne, hset_set, hget_set hr]) (List.getElem?_set_self (by simpa using hi)) (fun _ _ => MV.unagg)
  refine FE.trans h1 (FE.trans h2 ?_)
  rw [hset_hdel hne, hset_set, hset_set, List.set_set, List.set_set] at h3
  rw [hset_set, List.set_set]
  exact h3
theorem FE.closeE2 {env : Env} {H : GH} {r r1 sz sz1 n : Nat} {L ks : List GV} (hne : ¬ r = r1) (hn : ks.length = n) :
    FE env ((r, sz, L ++ [.own r1 sz1 0 n]) :: (r1, sz1, ks) :: H) env ((r, sz, L ++ [.osl sz1 ks]) :: H) := by
  have h := FE.closeE (env := env) (H := (r, sz, L ++ [.own r1 sz1 0 n]) :: (r1, sz1, ks) :: H) (r := r) (r1 := r1) (sz1 := sz1) (ks := ks) (n := n) (i := L.length) hne hget_new (by simp) (by rw [hget_old hne, hget_new]) hn
  rw [hset_new, hdel_old hne, hdel_new] at h
  simpa using h
open Go.Proofs (ltOf)
theorem ltS_or (x y : ByteArray) : (Op.bytesLess x.data.toList y.data.toList || x.data.toList == y.data.toList) = !ltN y x := by
  have h := ltN_irr x
  cases e1 : ltN x y
  · cases e2 : ltN y x
    · have := ltN_tri e1 e2
      subst this
      simp
    · have e3 : Op.bytesLess x.data.toList y.data.toList = false := e1
      rw [e3]
      simp only [Bool.false_or, Bool.not_true, beq_eq_false_iff_ne]
      intro e4
      have : x = y := chars_inj.1 e4
      subst this
      rw [h] at e2; cases e2
  · have e2 : ltN y x = false := by
      cases q : ltN y x
      · rfl
      · have := ltN_trans e1 q; rw [h] at this; cases this
    have e3 : Op.bytesLess x.data.toList y.data.toList = true := e1
    rw [e3, e2]; rfl
theorem cellA (W : World) (cs : Array Value) (T : TypeId) (i : Nat) : (W.alloc (.cells cs T)).cell? ⟨W.heap.size, i, none⟩ = cs[i]? := by
  simp only [World.cell?, hp_new]; rfl
theorem cellB (W : World) (o : Obj) (b i : Nat) (h : b < W.heap.size) : (W.alloc o).cell? ⟨b, i, none⟩ = W.cell? ⟨b, i, none⟩ := by
  simp only [World.cell?, hp_old _ _ _ h]
theorem cell1a (W : World) (v0 v1 : Value) (T : TypeId) : ((W.alloc (.cells #[v0, v1] T)).drew).cell? ⟨W.heap.size, 0, none⟩ = some v0 := cellA W _ T 0
theorem cell1b (W : World) (v0 v1 : Value) (T : TypeId) : ((W.alloc (.cells #[v0, v1] T)).drew).cell? ⟨W.heap.size, 1, none⟩ = some v1 := cellA W _ T 1
theorem sizeA (W : World) (o : Obj) : (W.alloc o).heap.size = W.heap.size + 1 := by simp
def cfO (x y : Oc) : Int := if (if x.1 < y.1 then (-1 : Int) else if y.1 < x.1 then 1 else 0) ≠ 0 then (if x.1 < y.1 then -1 else if y.1 < x.1 then 1 else 0) else if ltN x.2 y.2 = true then -1 else if ltN y.2 x.2 = true then 1 else 0
theorem cfO_lt (x y : Oc) : ltOf cfO x y = ltO x y := by
  unfold ltOf cfO ltO
  by_cases h1 : x.1 < y.1
  · simp [h1]
  · by_cases h2 : y.1 < x.1
    · have : ¬ x.1 = y.1 := by omega
      simp [h1, h2, this]
    · have : x.1 = y.1 := by omega
      cases e1 : ltN x.2 y.2
      · cases e2 : ltN y.2 x.2 <;> simp [h1, h2, this, e1, e2]
      · simp [h1, h2, this, e1]
theorem cfO_eq : ltOf cfO = ltO := funext fun x => funext fun y => cfO_lt x y
end Go.Gh

/- Checks of a grammar. -/
namespace Go.Gh
set_option linter.unusedSimpArgs false
set_option linter.unusedVariables false
end Go.Gh

/- Inputs of instances; orders and cycles. -/
namespace Go.Gh
set_option linter.unusedSimpArgs false
set_option linter.unusedVariables false
def stF (t : List Nod) (o : Int) (u : Oc) : Option Oc := if (instAt t o u).2 = true then some (instAt t o u).1 else none
def stI (g : Gram) (t : List Nod) (x : Oc) : List Oc := (usE (defE g t x) []).filterMap (stF t (defO g t x))
theorem stI_no {g : Gram} {t : List Nod} {x : Oc} (h : defB g t x = false) : stI g t x = [] := by
  have : defE g t x = expZ := by simp [defE, h]
  simp [stI, this, expZ, usE, usEL]
theorem stI_len {g : Gram} (hg : smGr g) (t : List Nod) (x : Oc) : (stI g t x).length ≤ 2097152 := by
  have h1 := List.length_filterMap_le (stF t (defO g t x)) (usE (defE g t x) [])
  have h2 := usE_len (defE g t x) []
  have h3 := defE_small hg t x
  simp only [stI]
  simp only [List.length_nil] at h2
  omega
theorem usE_sm {e : Exp} (h : wEx e ≤ 1048576) : (usE e []).length ≤ 1048577 := by
  have h2 := usE_len e []
  simp only [List.length_nil] at h2
  omega
theorem fm_step {α β : Type} (f : α → Option β) {l : List α} {i : Nat} (h : i < l.length) : (l.take (i + 1)).filterMap f = (l.take i).filterMap f ++ (f l[i]).toList := by
  rw [List.take_add_one, List.getElem?_eq_getElem h, List.filterMap_append]
  cases e : f l[i] <;> simp [e]
def ixI (L : List Oc) (y : Oc) : Int := ixOf (fun z => decide (z = y)) L
theorem ixI_rng (L : List Oc) (y : Oc) : -1 ≤ ixI L y ∧ ixI L y < L.length := by
  rcases ixOf_cases (fun z => decide (z = y)) L with h | h <;> unfold ixI <;> omega
def rowI (g : Gram) (t : List Nod) (L : List Oc) (x : Oc) : List Int := (stI g t x).map (ixI L)
def tabI (g : Gram) (t : List Nod) : List (List Int) := (insL g t).map (rowI g t (insL g t))
abbrev TbS (T : List (List Int)) : GV := .sl 1 (T.map IS)
abbrev ItO (l : List Int) : GV := .osl 1 (l.map I)
theorem view_ItO (l : List Int) : view (ItO l) = IS l := by
  simp [view, viewL_eq]
def okT (T : List (List Int)) : Prop := T.length ≤ 16777216 ∧ ∀ r ∈ T, r.length ≤ 2097152 ∧ ∀ k ∈ r, -1 ≤ k ∧ k < T.length
theorem tabI_ok {g : Gram} (hg : smGr g) (t : List Nod) : okT (tabI g t) := by
  refine ⟨by simpa [tabI] using insL_len hg t, fun r hr => ?_⟩
  simp only [tabI, List.mem_map] at hr
  obtain ⟨x, hx, rfl⟩ := hr
  refine ⟨by simpa [rowI] using stI_len hg t x, fun k hk => ?_⟩
  simp only [rowI, List.mem_map] at hk
  obtain ⟨y, hy, rfl⟩ := hk
  have := ixI_rng (insL g t) y
  simpa [tabI] using this
def fltR (n : Nat) (r : List Int) : List Int := r.filter fun k => decide (0 ≤ k ∧ k ≤ (n : Int) - 1)
def fltT (T : List (List Int)) : List (List Int) := T.map (fltR T.length)
def dC (T : List (List Int)) (goal : Nat) (d : Nat) (out : List Int) (k : Int) : Bool :=
  if d = 1 then decide (k = goal) else decide (k ≠ goal) && decide (0 ≤ k) && decide (out.getD k.toNat 0 = (d : Int) - 1)
def dS (T : List (List Int)) (goal : Nat) (d : Nat) (out : List Int) (i : Nat) : Int :=
  if out.getD i 0 ≠ 0 then out.getD i 0 else if (T.getD i []).any (dC T goal d out) then d else 0
def dL (T : List (List Int)) (goal : Nat) : Nat → List Int
  | 0 => List.replicate T.length 0
  | d + 1 => (List.range T.length).map (dS T goal (d + 1) (dL T goal d))
def dst (T : List (List Int)) (goal : Nat) : List Int := dL T goal T.length
theorem dL_len (T : List (List Int)) (goal : Nat) : ∀ d, (dL T goal d).length = T.length
  | 0 => by simp [dL]
  | d + 1 => by simp [dL]
theorem dL_get {T : List (List Int)} {goal d i : Nat} (h : i < T.length) : (dL T goal (d + 1)).getD i 0 = dS T goal (d + 1) (dL T goal d) i := by
  simp only [dL]
  rw [getD_lt (by simpa using h)]
  simp
theorem dL_rng (T : List (List Int)) (goal : Nat) : ∀ d i, i < T.length → 0 ≤ (dL T goal d).getD i 0 ∧ (dL T goal d).getD i 0 ≤ d
  | 0, i, h => by simp [dL, List.getD_eq_getElem?_getD, h]
  | d + 1, i, h => by
    rw [dL_get h]
    have := dL_rng T goal d i h
    simp only [dS]
    split
    · omega
    · split <;> omega
end Go.Gh

/- Calls under a heap in another order; names that differ from the start. -/
namespace Go.Gh
set_option linter.unusedSimpArgs false
set_option linter.unusedVariables false
theorem GCalls.nd {P : Program} {f : FuncId} {gs : List GV} {H : GH} {R : GV → GH → Prop} (h : (names H).Nodup → GCalls P f gs H R) : GCalls P f gs H R :=
  fun w D Ω args hst hargs => h hst.nn w D Ω args hst hargs
theorem GCalls.sub {P : Program} {f : FuncId} {gs : List GV} {H L T : GH} {R : GV → GH → Prop} (hs : subH H L) (h : GCalls P f gs (L ++ T) R) : GCalls P f gs (H ++ T) R := by
  intro w D Ω args hst hargs
  obtain ⟨Ω', h1, h2⟩ := hst.sub hs
  refine Yld.mono (fun v w' ⟨g, H', D', Ω'', k1, k2, k3, k4⟩ => ?_) (h w D Ω' args h1 hargs)
  exact ⟨g, H', D', Ω'', k1, k2, k3, ⟨k4.d0, fun b hb hD => (k4.dn b hb hD).imp id (h2 b), fun b hb hl => h2 b (k4.on b hb hl), k4.kp.mono fun b _ hb hb' => hb (h2 b hb'), k4.os, k4.tape, k4.output⟩⟩
theorem drop_get {α : Type} {X L : List α} {a i : Nat} (h : X.drop a = L.drop a) (ha : a ≤ i) (hx : i < X.length) (hl : i < L.length) : X[i] = L[i] := by
  have e := congrArg (fun l : List α => l[i - a]?) h
  simp only [List.getElem?_drop] at e
  rw [show a + (i - a) = i by omega, List.getElem?_eq_getElem hx, List.getElem?_eq_getElem hl] at e
  exact Option.some.inj e
theorem cpO_next {l : List Oc} {j : Nat} (h1 : 1 ≤ j) (h : j < l.length) : cpO (l.take (j + 1)) = if l[j] = l[j - 1] then cpO (l.take j) else cpO (l.take j) ++ [l[j]] := by
  obtain ⟨i, rfl⟩ : ∃ i, j = i + 1 := ⟨j - 1, by omega⟩
  exact cpO_take h
theorem cpO_short {l : List Oc} (h : l.length ≤ 1) : cpO l = l := by
  match l, h with
  | [], _ => rfl
  | [a], _ => rfl
def occ1 (e : Exp) : List Oc := if e.kind = 3 then [(e.pos, e.name)] else []
theorem occE_eq (e : Exp) : occE e = occ1 e ++ occEL e.args := by cases e; rfl
theorem occEL_app (al bl : List Exp) : occEL (al ++ bl) = occEL al ++ occEL bl := by
  induction al with
  | nil => simp [occEL]
  | cons a al ih => simp only [List.cons_append, occEL, ih, List.append_assoc]
theorem occEL_step {al : List Exp} {i : Nat} (h : i < al.length) : occEL (al.take (i + 1)) = occEL (al.take i) ++ occE al[i] := by
  have hs : ∀ (al : List Exp) (e : Exp), occEL (al ++ [e]) = occEL al ++ occE e := by
    intro al e
    induction al with
    | nil => simp [occEL]
    | cons a al ih => simp only [List.cons_append, occEL, ih, List.append_assoc]
  rw [List.take_add_one, List.getElem?_eq_getElem h]
  exact hs _ _
def cpI (L : List Oc) (m j : Nat) (X : List Oc) : Prop := 1 ≤ j ∧ m + 1 + j ≤ L.length ∧ X.length = L.length ∧ (cpO (L.take (m + 1 + j))).length ≤ m + j ∧
  X.take (cpO (L.take (m + 1 + j))).length = cpO (L.take (m + 1 + j)) ∧ X.drop (m + j) = L.drop (m + j)
theorem cpI_eq {L X : List Oc} {m j i : Nat} (h : cpI L m j X) (hl : m + 1 + j < L.length) (hi : i = m + j) (h1 : m + 1 + j < X.length) (h2 : i < X.length) (he : X[m + 1 + j] = X[i]) :
    cpI L m (j + 1) X ∧ cpO (L.take (m + 1 + (j + 1))) = cpO (L.take (m + 1 + j)) := by
  subst hi
  obtain ⟨a1, a2, a3, a4, a5, a6⟩ := h
  have q1 : X[m + j] = L[m + j]'(by omega) := drop_get a6 (Nat.le_refl _) h2 (by omega)
  have q2 : X[m + 1 + j] = L[m + 1 + j] := drop_get a6 (by omega) h1 hl
  have e := cpO_next (l := L) (j := m + 1 + j) (by omega) hl
  rw [if_pos (by rw [← q2, he, q1]; congr 1; omega)] at e
  have e' : cpO (L.take (m + 1 + (j + 1))) = cpO (L.take (m + 1 + j)) := e
  refine ⟨⟨by omega, by omega, a3, by rw [e']; omega, by rw [e']; exact a5, ?_⟩, e'⟩
  have := congrArg (List.drop 1) a6
  simpa [List.drop_drop, Nat.add_assoc] using this
theorem cpI_ne {L X : List Oc} {m j i : Nat} (h : cpI L m j X) (hl : m + 1 + j < L.length) (hi : i = m + j) (h1 : m + 1 + j < X.length) (h2 : i < X.length) (he : X[m + 1 + j] ≠ X[i]) :
    cpI L m (j + 1) (X.set (cpO (L.take (m + 1 + j))).length X[m + 1 + j]) ∧ (cpO (L.take (m + 1 + (j + 1)))).length = (cpO (L.take (m + 1 + j))).length + 1 := by
  subst hi
  obtain ⟨a1, a2, a3, a4, a5, a6⟩ := h
  have q1 : X[m + j] = L[m + j]'(by omega) := drop_get a6 (Nat.le_refl _) h2 (by omega)
  have q2 : X[m + 1 + j] = L[m + 1 + j] := drop_get a6 (by omega) h1 hl
  have e := cpO_next (l := L) (j := m + 1 + j) (by omega) hl
  have hne : ¬ L[m + 1 + j] = L[m + 1 + j - 1]'(by omega) := fun q => he (by
    rw [q2, q1, q]; congr 1; omega)
  rw [if_neg hne] at e
  have e' : cpO (L.take (m + 1 + (j + 1))) = cpO (L.take (m + 1 + j)) ++ [L[m + 1 + j]] := e
  have el : (cpO (L.take (m + 1 + (j + 1)))).length = (cpO (L.take (m + 1 + j))).length + 1 := by rw [e']; simp
  refine ⟨⟨by omega, by omega, by simpa using a3, by rw [el]; omega, ?_, ?_⟩, el⟩
  · rw [el, e', List.take_add_one, List.getElem?_set_self (by omega), List.take_set_of_le (Nat.le_refl _), a5, q2]
    rfl
  · rw [List.drop_set_of_lt (by omega)]
    have := congrArg (List.drop 1) a6
    simpa [List.drop_drop, Nat.add_assoc] using this
end Go.Gh

/- Tables: slices of own slices, opened and closed; their marks. -/
namespace Go.Gh
set_option linter.unusedSimpArgs false
set_option linter.unusedVariables false
theorem bor_Tb {H : GH} {r n : Nat} {T : List (List Int)} (hr : hget H r = some (1, T.map ItO)) (hn : T.length = n) : Bor H (.own r 1 0 n) (TbS T) := Bor.seen view_ItO hr hn
end Go.Gh

/- Orders: what the loops keep. -/
namespace Go.Gh
set_option linter.unusedSimpArgs false
set_option linter.unusedVariables false
theorem ixOf_no {α : Type} {p : α → Bool} {l : List α} (h : ixOf p l = -1) : ∀ a ∈ l, p a = false := by
  unfold ixOf at h
  cases e : l.findIdx? p with
  | none => exact fun a ha => by simpa using List.findIdx?_eq_none_iff.1 e a ha
  | some i =>
    rw [e] at h
    have h' : (i : Int) = -1 := h
    omega
theorem ixOf_at {α : Type} {p : α → Bool} {l : List α} {i : Nat} (h : ixOf p l = i) : ∃ hl : i < l.length, p l[i] = true ∧ ∀ a ∈ l.take i, p a = false := by
  unfold ixOf at h
  cases e : l.findIdx? p with
  | none =>
    rw [e] at h
    have h' : (-1 : Int) = i := h
    omega
  | some j =>
    rw [e] at h
    have h' : (j : Int) = i := h
    have : j = i := by omega
    subst this
    obtain ⟨h1, h2, h3⟩ := List.findIdx?_eq_some_iff_getElem.1 e
    refine ⟨h1, h2, fun a ha => ?_⟩
    obtain ⟨k, hk, rfl⟩ := List.mem_take_iff_getElem.1 ha
    simpa using h3 k (by omega)
def dlI (L : List Int) (p : Int → Bool) (j : Nat) (X : List Int) : Prop := j ≤ L.length ∧ X.length = L.length ∧ ((L.take j).filter fun k => !p k).length + 1 ≤ j ∧
  X.take ((L.take j).filter fun k => !p k).length = ((L.take j).filter fun k => !p k) ∧ X.drop j = L.drop j
theorem filter_all {α : Type} {p : α → Bool} {l : List α} (h : ∀ a ∈ l, p a = false) : l.filter (fun k => !p k) = l := by
  rw [List.filter_eq_self]
  intro a ha
  rw [h a ha]; rfl
theorem flt_step {p : Int → Bool} {l : List Int} {i : Nat} (h : i < l.length) : (l.take (i + 1)).filter (fun k => !p k) = (l.take i).filter (fun k => !p k) ++ (if p l[i] = true then [] else [l[i]]) := by
  rw [List.take_add_one, List.getElem?_eq_getElem h, List.filter_append]
  by_cases e : p l[i] = true
  · simp [e]
  · simp [e]
theorem dlI_start {L : List Int} {p : Int → Bool} {i : Nat} (h : ixOf p L = i) : dlI L p (i + 1) L ∧ ((L.take (i + 1)).filter fun k => !p k).length = i := by
  obtain ⟨h1, h2, h3⟩ := ixOf_at h
  have e : (L.take (i + 1)).filter (fun k => !p k) = L.take i := by rw [flt_step h1, if_pos h2, List.append_nil, filter_all h3]
  have el : ((L.take (i + 1)).filter fun k => !p k).length = i := by rw [e, List.length_take]; omega
  exact ⟨⟨by omega, rfl, by omega, by rw [el, e], rfl⟩, el⟩
theorem dlI_get {L X : List Int} {p : Int → Bool} {j : Nat} (h : dlI L p j X) (hl : j < L.length) (hx : j < X.length) : X[j] = L[j] := drop_get h.2.2.2.2 (Nat.le_refl _) hx hl
theorem drop_next {X L : List Int} {j : Nat} (h : X.drop j = L.drop j) : X.drop (j + 1) = L.drop (j + 1) := by
  have := congrArg (List.drop 1) h
  simpa [List.drop_drop, Nat.add_assoc, Nat.add_comm] using this
theorem dlI_drop {L X : List Int} {p : Int → Bool} {j : Nat} (h : dlI L p j X) (hl : j < L.length) (hp : p L[j] = true) : dlI L p (j + 1) X ∧ (L.take (j + 1)).filter (fun k => !p k) = (L.take j).filter (fun k => !p k) := by
  obtain ⟨a1, a2, a3, a4, a5⟩ := h
  have e : (L.take (j + 1)).filter (fun k => !p k) = (L.take j).filter (fun k => !p k) := by rw [flt_step hl, if_pos hp, List.append_nil]
  exact ⟨⟨by omega, a2, by rw [e]; omega, by rw [e]; exact a4, drop_next a5⟩, e⟩
theorem dlI_keep {L X : List Int} {p : Int → Bool} {j : Nat} (h : dlI L p j X) (hl : j < L.length) (hp : p L[j] = false) :
    dlI L p (j + 1) (X.set ((L.take j).filter fun k => !p k).length L[j]) ∧ ((L.take (j + 1)).filter fun k => !p k).length = ((L.take j).filter fun k => !p k).length + 1 := by
  obtain ⟨a1, a2, a3, a4, a5⟩ := h
  have e : (L.take (j + 1)).filter (fun k => !p k) = (L.take j).filter (fun k => !p k) ++ [L[j]] := by rw [flt_step hl, if_neg (by simp [hp])]
  have el : ((L.take (j + 1)).filter fun k => !p k).length = ((L.take j).filter fun k => !p k).length + 1 := by rw [e]; simp
  refine ⟨⟨by omega, by simpa using a2, by omega, ?_, ?_⟩, el⟩
  · rw [el, e, List.take_add_one, List.getElem?_set_self (by omega), List.take_set_of_le (Nat.le_refl _), a4]
    rfl
  · rw [List.drop_set_of_lt (by omega)]
    exact drop_next a5
theorem fltR_eq (n : Nat) (r : List Int) : r.filter (fun k => !(!decide (0 ≤ k ∧ k ≤ (n : Int) - 1))) = fltR n r := by simp [fltR]
theorem fltT_get {T : List (List Int)} {i : Nat} (h : i < (fltT T).length) (h2 : i < T.length) : (fltT T)[i] = fltR T.length T[i] := by simp [fltT]
end Go.Gh

/- Distances: the two ways of counting steps. -/
namespace Go.Gh
set_option linter.unusedSimpArgs false
set_option linter.unusedVariables false
def nwB (T : List (List Int)) (F : List Int) (L : List Int) (k : Nat) : Bool := decide (F.getD k 0 < 0) && L.any fun j => hasI (T.getD k []) j
def stF1 (T : List (List Int)) (F L : List Int) (n : Nat) : List Int := (List.range T.length).map fun k => if nwB T F L k then (n : Int) else F.getD k 0
def stLp (T : List (List Int)) (F L : List Int) (m : Nat) : List Int := ((List.range m).filter (nwB T F L)).map fun k : Nat => (k : Int)
def stL1 (T : List (List Int)) (F L : List Int) : List Int := stLp T F L T.length
def bfs (T : List (List Int)) (goal : Nat) : Nat → List Int × List Int
  | 0 => (List.replicate T.length (-1), [(goal : Int)])
  | m + 1 => (stF1 T (bfs T goal m).1 (bfs T goal m).2 (m + 1), stL1 T (bfs T goal m).1 (bfs T goal m).2)
def fD (v : Int) : Int := if v = 0 then -1 else v
def farD (l : List Int) : List Int := l.map fD
theorem farD_get {l : List Int} {i : Nat} (h : i < l.length) : (farD l).getD i 0 = fD (l.getD i 0) := by
  rw [getD_lt (by simpa [farD] using h), getD_lt h]; simp [farD]
theorem dL_keep {T : List (List Int)} {goal d i : Nat} (h : i < T.length) (hd : (dL T goal d).getD i 0 ≠ 0) : (dL T goal (d + 1)).getD i 0 = (dL T goal d).getD i 0 := by
  rw [dL_get h, dS, if_pos hd]
theorem dL_goal {T : List (List Int)} {goal d i : Nat} (h : i < T.length) (hg : (goal : Int) ∈ T[i]) : (dL T goal (d + 1)).getD i 0 ≠ 0 := by
  induction d with
  | zero =>
    rw [dL_get h, dS]
    by_cases e : (dL T goal 0).getD i 0 ≠ 0
    · rw [if_pos e]; exact e
    · rw [if_neg e, if_pos]
      · simp
      · rw [getD_lt h]
        exact List.any_eq_true.2 ⟨_, hg, by simp [dC]⟩
  | succ d ih => rw [dL_keep h ih]; exact ih
theorem hasI_iff {l : List Int} {x : Int} : hasI l x = true ↔ x ∈ l := by
  unfold hasI
  rw [List.any_eq_true]
  exact ⟨fun ⟨y, h1, h2⟩ => by simp at h2; rw [← h2]; exact h1, fun h => ⟨x, h, by simp⟩⟩
def lvD (T : List (List Int)) (goal m : Nat) : List Int := if m = 0 then [(goal : Int)] else ((List.range T.length).filter fun k => decide ((dL T goal m).getD k 0 = m)).map fun k : Nat => (k : Int)
theorem lvD_mem {T : List (List Int)} {goal m : Nat} (hm : m ≠ 0) {x : Int} : x ∈ lvD T goal m ↔ ∃ k : Nat, x = k ∧ k < T.length ∧ (dL T goal m).getD k 0 = m := by
  rw [lvD, if_neg hm, List.mem_map]
  constructor
  · rintro ⟨k, h1, rfl⟩
    rw [List.mem_filter] at h1
    exact ⟨k, rfl, by simpa using h1.1, by simpa using h1.2⟩
  · rintro ⟨k, rfl, h1, h2⟩
    exact ⟨k, by rw [List.mem_filter]; exact ⟨by simpa using h1, by simpa using h2⟩, rfl⟩
theorem nw_dL {T : List (List Int)} (hT : okT T) {goal : Nat} {m k : Nat} (hk : k < T.length) :
    nwB T (farD (dL T goal m)) (lvD T goal m) k = (decide ((dL T goal m).getD k 0 = 0) && (T[k].any (dC T goal (m + 1) (dL T goal m)))) := by
  have hr := (hT.2 _ (List.getElem_mem hk)).2
  have hrg := dL_rng T goal m k hk
  have e1 : decide ((farD (dL T goal m)).getD k 0 < 0) = decide ((dL T goal m).getD k 0 = 0) := by
    rw [farD_get (by rw [dL_len]; exact hk)]
    unfold fD
    generalize (dL T goal m).getD k 0 = v at hrg ⊢
    by_cases e : v = 0
    · simp [e]
    · rw [if_neg e]
      have : ¬ v < 0 := by omega
      simp [e, this]
  unfold nwB
  rw [e1, getD_lt hk]
  by_cases e : (dL T goal m).getD k 0 = 0
  · simp only [e, decide_true, Bool.true_and]
    rw [Bool.eq_iff_iff, List.any_eq_true, List.any_eq_true]
    by_cases hm : m = 0
    · subst hm
      simp only [lvD, if_true]
      constructor
      · rintro ⟨j, h1, h2⟩
        simp at h1; subst h1
        exact ⟨_, hasI_iff.1 h2, by simp [dC]⟩
      · rintro ⟨x, h1, h2⟩
        simp [dC] at h2
        subst h2
        exact ⟨_, by simp, hasI_iff.2 h1⟩
    · have h1m : ¬ m + 1 = 1 := by omega
      constructor
      · rintro ⟨j, h1, h2⟩
        obtain ⟨i, rfl, hi, hd⟩ := (lvD_mem hm).1 h1
        refine ⟨_, hasI_iff.1 h2, ?_⟩
        have hne : ¬ (i : Int) = goal := fun q => by
          rw [q] at h2
          obtain ⟨m', rfl⟩ : ∃ m', m = m' + 1 := ⟨m - 1, by omega⟩
          exact dL_goal hk (hasI_iff.1 h2) e
        have h3 : ((m + 1 : Nat) : Int) - 1 = m := by omega
        simp only [dC, if_neg h1m, Int.toNat_natCast, hd, h3]
        simp [hne]
      · rintro ⟨x, h1, h2⟩
        simp only [dC, if_neg h1m, Bool.and_eq_true, decide_eq_true_eq] at h2
        obtain ⟨⟨h3, h4⟩, h5⟩ := h2
        have hxr := hr x h1
        refine ⟨x, (lvD_mem hm).2 ⟨x.toNat, by omega, by omega, by rw [h5]; omega⟩, hasI_iff.2 h1⟩
  · rw [decide_eq_false e]
    rfl
theorem bfs_eq {T : List (List Int)} (hT : okT T) (goal : Nat) : ∀ m, (bfs T goal m).1 = farD (dL T goal m) ∧ (bfs T goal m).2 = lvD T goal m
  | 0 => by
    refine ⟨?_, by simp [bfs, lvD]⟩
    simp [bfs, farD, dL, fD]
  | m + 1 => by
    obtain ⟨h1, h2⟩ := bfs_eq hT goal m
    have key : ∀ k, k < T.length → nwB T (farD (dL T goal m)) (lvD T goal m) k = decide ((dL T goal (m + 1)).getD k 0 = ((m + 1 : Nat) : Int)) := fun k hk => by
      rw [nw_dL hT hk, dL_get hk, dS, getD_lt hk]
      have hrg := dL_rng T goal m k hk
      generalize (dL T goal m).getD k 0 = v at hrg ⊢
      generalize T[k].any (dC T goal (m + 1) (dL T goal m)) = b
      by_cases e : v = 0
      · subst e
        cases b
        · have : ¬ (0 : Int) = ((m + 1 : Nat) : Int) := by omega
          simp only [decide_true, Bool.and_false, ne_eq, not_true_eq_false, if_false, Bool.false_eq_true, decide_eq_false this]
        · simp only [decide_true, Bool.and_true, ne_eq, not_true_eq_false, if_false, if_true]
      · have : ¬ v = ((m + 1 : Nat) : Int) := by omega
        rw [if_pos e, decide_eq_false e, decide_eq_false this]
        rfl
    refine ⟨?_, ?_⟩
    · simp only [bfs, h1, h2, stF1]
      refine List.ext_getElem (by simp [farD, dL_len]) fun k hk1 hk2 => ?_
      have hk : k < T.length := by simpa using hk1
      have e3 : (farD (dL T goal (m + 1)))[k] = fD ((dL T goal (m + 1)).getD k 0) := by
        rw [getD_lt (by rw [dL_len]; exact hk)]; simp [farD]
      rw [e3]
      simp only [List.getElem_map, List.getElem_range]
      rw [key k hk, farD_get (by rw [dL_len]; exact hk)]
      by_cases q : (dL T goal (m + 1)).getD k 0 = ((m + 1 : Nat) : Int)
      · rw [if_pos (by simpa using q), q]
        unfold fD
        rw [if_neg (by omega)]
      · rw [if_neg (by simpa using q)]
        by_cases e : (dL T goal m).getD k 0 = 0
        · have hq : (dL T goal (m + 1)).getD k 0 = 0 := by
            rw [dL_get hk, dS, if_neg (by simpa using e)] at q ⊢
            split
            · rename_i h; rw [if_pos h] at q; exact absurd rfl q
            · rfl
          rw [hq, e]
        · rw [dL_keep hk e]
    · show stL1 T (bfs T goal m).1 (bfs T goal m).2 = _
      rw [h1, h2, stL1, stLp]
      conv => rhs; rw [lvD, if_neg (Nat.succ_ne_zero m)]
      congr 1
      exact List.filter_congr fun k hk => key k (by simpa using hk)
def negs (l : List Int) : Nat := l.countP fun v => decide (v < 0)
def bmu (F L : List Int) : Nat := negs F + (if L = [] then 0 else 1)
theorem countP_lt {α : Type} {p q : α → Bool} {l : List α} {a : α} (h : ∀ x ∈ l, p x = true → q x = true) (ha : a ∈ l) (hq : q a = true) (hp : ¬ p a = true) : l.countP p < l.countP q := by
  induction l with
  | nil => simp at ha
  | cons x l ih =>
    have hm : l.countP p ≤ l.countP q := List.countP_mono_left fun y hy => h y (by simp [hy])
    simp only [List.countP_cons]
    rcases List.mem_cons.1 ha with rfl | ha'
    · rw [if_neg hp, if_pos hq]; omega
    · have := ih (fun y hy => h y (by simp [hy])) ha'
      by_cases e : p x = true
      · rw [if_pos e, if_pos (h x (by simp) e)]; omega
      · rw [if_neg e]; split <;> omega
theorem stF1_none {T : List (List Int)} {F L : List Int} (hF : F.length = T.length) (h : stL1 T F L = []) (n : Nat) : stF1 T F L n = F := by
  refine List.ext_getElem (by simp [stF1, hF]) fun k hk1 hk2 => ?_
  have hk : k < T.length := by omega
  have hno : nwB T F L k = false := by
    cases q : nwB T F L k
    · rfl
    · have : (k : Int) ∈ stL1 T F L := List.mem_map.2 ⟨k, List.mem_filter.2 ⟨by simpa using hk, q⟩, rfl⟩
      rw [h] at this; simp at this
  simp only [stF1, List.getElem_map, List.getElem_range, hno]
  rw [getD_lt hk2]
  simp
theorem countP_map_range {n : Nat} {f : Nat → Int} : negs ((List.range n).map f) = (List.range n).countP fun k => decide (f k < 0) := by
  simp [negs, List.countP_map, Function.comp_def]
theorem bmu_lt {T : List (List Int)} {F L : List Int} (hF : F.length = T.length) (hL : L ≠ []) {n : Nat} (hn : 1 ≤ n) : bmu (stF1 T F L n) (stL1 T F L) < bmu F L := by
  unfold bmu
  rw [if_neg hL]
  by_cases h : stL1 T F L = []
  · rw [if_pos h, stF1_none hF h]; omega
  · rw [if_neg h]
    have hF2 : F = (List.range T.length).map fun k => F.getD k 0 := by
      refine List.ext_getElem (by simp [hF]) fun k hk1 hk2 => ?_
      simp [getD_lt hk1, List.getElem?_eq_getElem hk1]
    have h1 : negs (stF1 T F L n) < negs F := by
      rw [hF2]
      conv => lhs; rw [← hF2]
      rw [stF1, countP_map_range, countP_map_range]
      obtain ⟨x, hx⟩ := List.exists_mem_of_ne_nil _ h
      obtain ⟨k, hk, rfl⟩ := List.mem_map.1 hx
      rw [List.mem_filter] at hk
      refine countP_lt (a := k) (fun j hj q => ?_) hk.1 ?_ ?_
      · simp only [decide_eq_true_eq] at q ⊢
        split at q
        · omega
        · exact q
      · have := hk.2
        simp only [nwB, Bool.and_eq_true] at this
        exact this.1
      · simp only [hk.2, if_true, decide_eq_true_eq]
        omega
    omega
theorem bfs_len (T : List (List Int)) (goal : Nat) : ∀ m, (bfs T goal m).1.length = T.length
  | 0 => by simp [bfs]
  | m + 1 => by simp [bfs, stF1]
theorem stL1_nil (T : List (List Int)) (F : List Int) : stL1 T F [] = [] := by
  have : ∀ k, nwB T F [] k = false := fun k => by simp [nwB]
  simp [stL1, stLp, this]
theorem bfs_stable {T : List (List Int)} {goal m : Nat} (h : (bfs T goal m).2 = []) : ∀ j, (bfs T goal (m + j)).1 = (bfs T goal m).1 ∧ (bfs T goal (m + j)).2 = []
  | 0 => ⟨rfl, h⟩
  | j + 1 => by
    obtain ⟨h1, h2⟩ := bfs_stable h j
    have e : bfs T goal (m + (j + 1)) = (stF1 T (bfs T goal (m + j)).1 (bfs T goal (m + j)).2 (m + j + 1), stL1 T (bfs T goal (m + j)).1 (bfs T goal (m + j)).2) := rfl
    rw [e]
    simp only
    rw [h2, stL1_nil]
    refine ⟨?_, rfl⟩
    rw [stF1_none (bfs_len T goal _) (stL1_nil _ _), h1]
theorem bmu_bound {T : List (List Int)} {goal : Nat} : ∀ m, (∀ j, j < m → (bfs T goal j).2 ≠ []) → bmu (bfs T goal m).1 (bfs T goal m).2 + m ≤ T.length + 1
  | 0, _ => by
    have h1 : negs (List.replicate T.length (-1)) ≤ T.length := by
      have := List.countP_le_length (p := fun v : Int => decide (v < 0)) (l := List.replicate T.length (-1))
      simpa [negs] using this
    simp only [bfs, bmu]
    simp only [List.cons_ne_nil, if_false]
    omega
  | m + 1, h => by
    have h1 := bmu_bound m fun j hj => h j (by omega)
    have h2 := bmu_lt (T := T) (bfs_len T goal m) (h m (by omega)) (n := m + 1) (by omega)
    have e : bfs T goal (m + 1) = (stF1 T (bfs T goal m).1 (bfs T goal m).2 (m + 1), stL1 T (bfs T goal m).1 (bfs T goal m).2) := rfl
    rw [e]
    simp only
    omega
theorem bfs_end {T : List (List Int)} (hT : okT T) {goal m : Nat} (h : ∀ j, j < m → (bfs T goal j).2 ≠ []) (he : (bfs T goal m).2 = []) : (bfs T goal m).1 = farD (dst T goal) := by
  have hb := bmu_bound m h
  unfold dst
  rw [← (bfs_eq hT goal T.length).1]
  rcases Nat.lt_or_ge T.length m with hl | hl
  · have hm : m = T.length + 1 := by omega
    subst hm
    have e : bfs T goal (T.length + 1) = (stF1 T (bfs T goal T.length).1 (bfs T goal T.length).2 (T.length + 1), stL1 T (bfs T goal T.length).1 (bfs T goal T.length).2) := rfl
    rw [e] at he ⊢
    exact stF1_none (bfs_len T goal _) he _
  · have := (bfs_stable he (T.length - m)).1
    rw [show m + (T.length - m) = T.length by omega] at this
    exact this.symm
def mixF (T : List (List Int)) (F L : List Int) (n k : Nat) : List Int := (stF1 T F L n).take k ++ F.drop k
theorem mixF_len {T : List (List Int)} {F L : List Int} {n k : Nat} (hF : F.length = T.length) (hk : k ≤ T.length) : (mixF T F L n k).length = T.length := by
  simp [mixF, stF1, hF]; omega
theorem mixF_get {T : List (List Int)} {F L : List Int} {n k : Nat} (hF : F.length = T.length) (hk : k < T.length) (h : k < (mixF T F L n k).length) : (mixF T F L n k)[k] = F.getD k 0 := by
  have hl : ((stF1 T F L n).take k).length = k := by simp [stF1]; omega
  simp only [mixF]
  rw [List.getElem_append_right (by omega)]
  simp only [hl, Nat.sub_self, List.getElem_drop, Nat.add_zero]
  rw [getD_lt (by omega)]
theorem mixF_no {T : List (List Int)} {F L : List Int} {n k : Nat} (hF : F.length = T.length) (hk : k < T.length) (h : nwB T F L k = false) : mixF T F L n (k + 1) = mixF T F L n k := by
  unfold mixF
  have e : (stF1 T F L n)[k]'(by simp [stF1]; exact hk) = F[k]'(by omega) := by
    simp only [stF1, List.getElem_map, List.getElem_range, h]
    rw [getD_lt (by omega)]
    rfl
  rw [List.take_add_one, List.getElem?_eq_getElem (by simp [stF1]; exact hk), e, List.drop_eq_getElem_cons (i := k) (l := F) (by omega)]
  simp
theorem mixF_yes {T : List (List Int)} {F L : List Int} {n k : Nat} (hF : F.length = T.length) (hk : k < T.length) (h : nwB T F L k = true) : mixF T F L n (k + 1) = (mixF T F L n k).set k (n : Int) := by
  unfold mixF
  have e : (stF1 T F L n)[k]'(by simp [stF1]; exact hk) = (n : Int) := by
    simp only [stF1, List.getElem_map, List.getElem_range, h]
    rfl
  have hl : ((stF1 T F L n).take k).length = k := by simp [stF1]; omega
  rw [List.take_add_one, List.getElem?_eq_getElem (by simp [stF1]; exact hk), e, List.drop_eq_getElem_cons (i := k) (l := F) (by omega), List.set_append_right _ _ (by omega), hl]
  simp only [Nat.sub_self, List.set_cons_zero, List.append_assoc, Option.toList_some, List.cons_append, List.nil_append]
theorem stLp_no {T : List (List Int)} {F L : List Int} {k : Nat} (h : nwB T F L k = false) : stLp T F L (k + 1) = stLp T F L k := by
  simp [stLp, List.range_succ, List.filter_append, h]
theorem stLp_yes {T : List (List Int)} {F L : List Int} {k : Nat} (h : nwB T F L k = true) : stLp T F L (k + 1) = stLp T F L k ++ [(k : Int)] := by
  simp [stLp, List.range_succ, List.filter_append, h]
theorem stLp_len {T : List (List Int)} {F L : List Int} (k : Nat) : (stLp T F L k).length ≤ k := by
  have := List.length_filter_le (nwB T F L) (List.range k)
  simpa [stLp] using this
theorem mixF_end {T : List (List Int)} {F L : List Int} {n : Nat} (hF : F.length = T.length) : mixF T F L n T.length = stF1 T F L n := by
  unfold mixF
  rw [List.take_of_length_le (by simp [stF1]), List.drop_of_length_le (by omega), List.append_nil]
theorem bfs_small (T : List (List Int)) (goal : Nat) : ∀ m, (bfs T goal m).2.length ≤ T.length + 1
  | 0 => by simp [bfs]
  | m + 1 => by
    have := stLp_len (T := T) (F := (bfs T goal m).1) (L := (bfs T goal m).2) T.length
    simp only [bfs, stL1]; omega
def hitB (T : List (List Int)) (F L : List Int) (k j : Nat) : Bool := decide (F.getD k 0 < 0) && (L.take j).any fun x => hasI (T.getD k []) x
def farH (T : List (List Int)) (F L : List Int) (n k j : Nat) : List Int := if hitB T F L k j = true then (mixF T F L n k).set k (n : Int) else mixF T F L n k
def nxtH (T : List (List Int)) (F L : List Int) (k j : Nat) : List Int := if hitB T F L k j = true then stLp T F L k ++ [(k : Int)] else stLp T F L k
theorem hitB_zero (T : List (List Int)) (F L : List Int) (k : Nat) : hitB T F L k 0 = false := by simp [hitB]
theorem hitB_end {T : List (List Int)} {F L : List Int} {k : Nat} : hitB T F L k L.length = nwB T F L k := by simp [hitB, nwB]
theorem hitB_succ {T : List (List Int)} {F L : List Int} {k j : Nat} (hj : j < L.length) (hk : k < T.length) (hF : k < F.length) : hitB T F L k (j + 1) = (hitB T F L k j || (decide (F[k] < 0) && hasI T[k] L[j])) := by
  unfold hitB
  rw [List.take_add_one, List.getElem?_eq_getElem hj, List.any_append, getD_lt hk, getD_lt hF]
  cases decide (F[k] < 0) <;> simp
theorem farH_len {T : List (List Int)} {F L : List Int} {n k j : Nat} (hF : F.length = T.length) (hk : k ≤ T.length) : (farH T F L n k j).length = T.length := by
  unfold farH
  split
  · rw [List.length_set, mixF_len hF hk]
  · exact mixF_len hF hk
theorem nxtH_len {T : List (List Int)} {F L : List Int} {k j : Nat} : (nxtH T F L k j).length ≤ k + 1 := by
  have := stLp_len (T := T) (F := F) (L := L) k
  unfold nxtH
  split
  · rw [List.length_append, List.length_singleton]; omega
  · omega
theorem farH_next {T : List (List Int)} {F L : List Int} {n k : Nat} (hF : F.length = T.length) (hk : k < T.length) : farH T F L n k L.length = mixF T F L n (k + 1) := by
  unfold farH
  rw [hitB_end]
  by_cases h : nwB T F L k = true
  · rw [if_pos h, mixF_yes hF hk h]
  · rw [if_neg h, mixF_no hF hk (by simpa using h)]
theorem nxtH_next {T : List (List Int)} {F L : List Int} {k : Nat} : nxtH T F L k L.length = stLp T F L (k + 1) := by
  unfold nxtH
  rw [hitB_end]
  by_cases h : nwB T F L k = true
  · rw [if_pos h, stLp_yes h]
  · rw [if_neg h, stLp_no (by simpa using h)]
end Go.Gh

/- Distances in place: a row at a time, an entry at a time. -/
namespace Go.Gh
set_option linter.unusedSimpArgs false
set_option linter.unusedVariables false
def posT (T : List (List Int)) : Prop := ∀ r ∈ T, ∀ k ∈ r, 0 ≤ k
theorem fltT_ok {T : List (List Int)} (h : okT T) : okT (fltT T) := by
  refine ⟨by simpa [fltT] using h.1, fun r hr => ?_⟩
  obtain ⟨x, hx, rfl⟩ := List.mem_map.1 hr
  refine ⟨Nat.le_trans (List.length_filter_le _ _) (h.2 x hx).1, fun k hk => ?_⟩
  have h1 := (List.mem_filter.1 hk).2
  simp only [decide_eq_true_eq] at h1
  have : (fltT T).length = T.length := by simp [fltT]
  omega
theorem fltT_pos (T : List (List Int)) : posT (fltT T) := by
  intro r hr k hk
  obtain ⟨x, hx, rfl⟩ := List.mem_map.1 hr
  have h1 := (List.mem_filter.1 hk).2
  simp only [decide_eq_true_eq] at h1
  exact h1.1
theorem any_flt {p : Int → Bool} {n : Nat} {r : List Int} (hr : ∀ k ∈ r, -1 ≤ k ∧ k < n) (hp : p (-1) = false) : (fltR n r).any p = r.any p := by
  induction r with
  | nil => rfl
  | cons x r ih =>
    have hx := hr x (by simp)
    have h2 := ih fun k hk => hr k (by simp [hk])
    unfold fltR at h2 ⊢
    rw [List.filter_cons]
    by_cases e : 0 ≤ x
    · rw [if_pos (by simp only [decide_eq_true_eq]; omega), List.any_cons, List.any_cons, h2]
    · rw [if_neg (by simp only [decide_eq_true_eq]; omega), h2, List.any_cons, show x = -1 by omega, hp, Bool.false_or]
theorem dL_flt {T : List (List Int)} (hT : okT T) (goal : Nat) : ∀ m, dL (fltT T) goal m = dL T goal m
  | 0 => by simp [dL, fltT]
  | m + 1 => by
    have hl : (fltT T).length = T.length := by simp [fltT]
    simp only [dL, hl]
    rw [dL_flt hT goal m]
    refine List.map_congr_left fun i hi => ?_
    have hi' : i < T.length := by simpa using hi
    simp only [dS]
    rw [getD_lt hi', getD_lt (by omega : i < (fltT T).length), fltT_get (by omega) hi']
    have hd : dC (fltT T) goal (m + 1) (dL T goal m) (-1) = false := by
      unfold dC
      split
      · simp
      · simp
    rw [any_flt (fun k hk => (hT.2 _ (List.getElem_mem hi')).2 k hk) hd]
    rfl
theorem dst_flt {T : List (List Int)} (hT : okT T) (goal : Nat) : dst (fltT T) goal = dst T goal := by
  unfold dst
  rw [dL_flt hT]
  simp [fltT]
def pD (T : List (List Int)) (goal m i : Nat) : List Int := (dL T goal (m + 1)).take i ++ (dL T goal m).drop i
def iD (T : List (List Int)) (goal m i j : Nat) : List Int := (pD T goal m i).set i (if ((T.getD i []).take j).any (dC T goal (m + 1) (dL T goal m)) then (m : Int) + 1 else 0)
theorem pD_len {T : List (List Int)} {goal m i : Nat} (hi : i ≤ T.length) : (pD T goal m i).length = T.length := by
  simp [pD, dL_len]; omega
theorem iD_len {T : List (List Int)} {goal m i j : Nat} (hi : i ≤ T.length) : (iD T goal m i j).length = T.length := by
  simp [iD, pD_len hi]
theorem pD_zero {T : List (List Int)} {goal m : Nat} : pD T goal m 0 = dL T goal m := by simp [pD]
theorem pD_end {T : List (List Int)} {goal m : Nat} : pD T goal m T.length = dL T goal (m + 1) := by
  unfold pD
  rw [List.take_of_length_le (by rw [dL_len]; omega), List.drop_of_length_le (by rw [dL_len]; omega), List.append_nil]
theorem pD_get {T : List (List Int)} {goal m i k : Nat} (hk : k < T.length) (hi : i ≤ T.length) : (pD T goal m i).getD k 0 = if k < i then (dL T goal (m + 1)).getD k 0 else (dL T goal m).getD k 0 := by
  have h1 : ((dL T goal (m + 1)).take i).length = i := by simp only [List.length_take, dL_len]; omega
  unfold pD
  simp only [List.getD_eq_getElem?_getD]
  by_cases e : k < i
  · rw [if_pos e, List.getElem?_append_left (by omega), List.getElem?_take_of_lt e]
  · rw [if_neg e, List.getElem?_append_right (by omega), h1, List.getElem?_drop, show i + (k - i) = k by omega]
theorem pD_at {T : List (List Int)} {goal m i : Nat} (hi : i < T.length) (h : i < (pD T goal m i).length) : (pD T goal m i)[i] = (dL T goal m).getD i 0 := by
  rw [← getD_lt h (d := 0), pD_get hi (by omega), if_neg (by omega)]
theorem pD_succ {T : List (List Int)} {goal m i : Nat} (hi : i < T.length) : pD T goal m (i + 1) = (pD T goal m i).set i ((dL T goal (m + 1)).getD i 0) := by
  have h1 : ((dL T goal (m + 1)).take i).length = i := by simp only [List.length_take, dL_len]; omega
  have h2 : i < (dL T goal (m + 1)).length := by rw [dL_len]; exact hi
  have h3 : i < (dL T goal m).length := by rw [dL_len]; exact hi
  have h4 : (dL T goal (m + 1)).take (i + 1) = (dL T goal (m + 1)).take i ++ [(dL T goal (m + 1))[i]] := by
    rw [List.take_add_one, List.getElem?_eq_getElem h2]; rfl
  unfold pD
  rw [List.set_append_right _ _ (by omega), h1, Nat.sub_self, List.drop_eq_getElem_cons h3, List.set_cons_zero, h4, getD_lt h2, List.append_assoc]
  rfl
theorem set_same {l : List Int} {i : Nat} {x : Int} (h : i < l.length) (e : l[i] = x) : l.set i x = l := by
  subst e; exact List.set_getElem_self h
theorem pD_skip {T : List (List Int)} {goal m i : Nat} (hi : i < T.length) (h : (dL T goal m).getD i 0 ≠ 0) : pD T goal m (i + 1) = pD T goal m i := by
  rw [pD_succ hi, dL_keep hi h]
  exact set_same (by rw [pD_len (by omega)]; exact hi) (pD_at hi _)
theorem iD_zero {T : List (List Int)} {goal m i : Nat} (hi : i < T.length) (h : (dL T goal m).getD i 0 = 0) : iD T goal m i 0 = pD T goal m i := by
  unfold iD
  refine set_same (by rw [pD_len (by omega)]; exact hi) ?_
  rw [pD_at hi]; simpa using h
theorem iD_end {T : List (List Int)} {goal m i : Nat} (hi : i < T.length) (h : (dL T goal m).getD i 0 = 0) : iD T goal m i T[i].length = pD T goal m (i + 1) := by
  rw [pD_succ hi, dL_get hi, dS, if_neg (by simpa using h), iD, getD_lt hi, List.take_length]
  rfl
theorem iD_get {T : List (List Int)} {goal m i j k : Nat} (hi : i < T.length) (hk : k < T.length) (h0 : (dL T goal m).getD i 0 = 0) (hm : m ≠ 0) (h : k < (iD T goal m i j).length) : decide ((iD T goal m i j)[k] = m) = decide ((dL T goal m).getD k 0 = m) := by
  have hrg := dL_rng T goal m k hk
  by_cases e : k = i
  · subst e
    have e1 : (iD T goal m k j)[k] = if ((T.getD k []).take j).any (dC T goal (m + 1) (dL T goal m)) then (m : Int) + 1 else 0 := by simp [iD]
    rw [e1, h0]
    split
    · rw [decide_eq_false (by omega), decide_eq_false (by omega)]
    · rfl
  · have e1 : (iD T goal m i j)[k] = (pD T goal m i).getD k 0 := by
      rw [getD_lt (by rw [pD_len (by omega)]; exact hk)]
      simp only [iD]
      rw [List.getElem_set_ne (by omega)]
    rw [e1, pD_get hk (by omega)]
    by_cases q : k < i
    · rw [if_pos q]
      by_cases z : (dL T goal m).getD k 0 = 0
      · have : ¬ (dL T goal (m + 1)).getD k 0 = m := by
          rw [dL_get hk, dS, if_neg (by simpa using z)]
          split
          · push_cast; omega
          · omega
        rw [decide_eq_false this, decide_eq_false (by omega)]
      · rw [dL_keep hk z]
    · rw [if_neg q]
theorem iD_step {T : List (List Int)} {goal m i j : Nat} (hi : i < T.length) (hj : j < T[i].length) : iD T goal m i (j + 1) = if dC T goal (m + 1) (dL T goal m) T[i][j] then (iD T goal m i j).set i ((m : Int) + 1) else iD T goal m i j := by
  unfold iD
  rw [getD_lt hi, List.take_add_one, List.getElem?_eq_getElem hj, List.any_append, List.set_set]
  simp only [Option.toList, List.any_cons, List.any_nil, Bool.or_false]
  by_cases e : dC T goal (m + 1) (dL T goal m) T[i][j] = true
  · rw [if_pos e, e, Bool.or_true]; rfl
  · rw [if_neg e]
    have e' : dC T goal (m + 1) (dL T goal m) T[i][j] = false := by simpa using e
    rw [e', Bool.or_false]
theorem dC_one {T : List (List Int)} {goal : Nat} {k : Int} : dC T goal (0 + 1) (dL T goal 0) k = decide (k = goal) := by simp [dC]
theorem dC_more {T : List (List Int)} {goal m i j : Nat} (hi : i < T.length) {k : Int} (hk0 : 0 ≤ k) (hk : k < T.length) (h0 : (dL T goal m).getD i 0 = 0) (hm : m ≠ 0) (h : k.toNat < (iD T goal m i j).length) :
    dC T goal (m + 1) (dL T goal m) k = (decide (k ≠ goal) && decide ((iD T goal m i j)[k.toNat] = m)) := by
  rw [iD_get hi (by omega) h0 hm h]
  simp only [dC, if_neg (show ¬ m + 1 = 1 by omega)]
  have : ((m + 1 : Nat) : Int) - 1 = m := by omega
  rw [this, decide_eq_true hk0, Bool.and_true]
end Go.Gh

/- Who depends on whom. -/
namespace Go.Gh
set_option linter.unusedSimpArgs false
set_option linter.unusedVariables false
theorem farD_len {T : List (List Int)} {goal : Nat} : (farD (dst T goal)).length = T.length := by simp [farD, dst, dL_len]
end Go.Gh

/- Shortest cycles. -/
namespace Go.Gh
set_option linter.unusedSimpArgs false
set_option linter.unusedVariables false
def lsF (p : Int → Bool) (b x : Int) : Int := if p x && (decide (b < 0) || decide (x < b)) then x else b
def lstI (p : Int → Bool) (l : List Int) : Int := l.foldl (lsF p) (-1)
theorem lstI_take {p : Int → Bool} {l : List Int} {j : Nat} (hj : j < l.length) : lstI p (l.take (j + 1)) = lsF p (lstI p (l.take j)) l[j] := by
  unfold lstI
  rw [List.take_add_one, List.getElem?_eq_getElem hj, List.foldl_append]
  rfl
theorem lsF_pos {p : Int → Bool} : ∀ (l : List Int) (b : Int), (b = -1 ∨ 0 ≤ b) → (∀ x ∈ l, p x = true → 0 ≤ x) → (l.foldl (lsF p) b = b ∨ (l.foldl (lsF p) b ∈ l ∧ p (l.foldl (lsF p) b) = true))
  | [], b, _, _ => .inl rfl
  | x :: l, b, hb, h => by
    rw [List.foldl_cons]
    by_cases e : (p x && (decide (b < 0) || decide (x < b))) = true
    · have e1 : lsF p b x = x := by rw [lsF, if_pos e]
      have hp : p x = true := by simp only [Bool.and_eq_true] at e; exact e.1
      rw [e1]
      rcases lsF_pos l x (.inr (h x (by simp) hp)) (fun y hy => h y (by simp [hy])) with q | ⟨q1, q2⟩
      · exact .inr ⟨by rw [q]; simp, by rw [q]; exact hp⟩
      · exact .inr ⟨by simp [q1], q2⟩
    · have e1 : lsF p b x = b := by rw [lsF, if_neg e]
      rw [e1]
      rcases lsF_pos l b hb (fun y hy => h y (by simp [hy])) with q | ⟨q1, q2⟩
      · exact .inl q
      · exact .inr ⟨by simp [q1], q2⟩
theorem lsF_some {p : Int → Bool} : ∀ (l : List Int) (b : Int), (∀ x ∈ l, p x = true → 0 ≤ x) → (0 ≤ b ∨ ∃ x ∈ l, p x = true) → 0 ≤ l.foldl (lsF p) b
  | [], b, _, h => by
    rcases h with h | ⟨x, hx, _⟩
    · exact h
    · simp at hx
  | x :: l, b, hp, h => by
    rw [List.foldl_cons]
    refine lsF_some l _ (fun y hy => hp y (by simp [hy])) ?_
    by_cases e : (p x && (decide (b < 0) || decide (x < b))) = true
    · left
      rw [lsF, if_pos e]
      simp only [Bool.and_eq_true] at e
      exact hp x (by simp) e.1
    · rw [lsF, if_neg e]
      rcases h with h | ⟨y, hy, hpy⟩
      · exact .inl h
      · rcases List.mem_cons.1 hy with rfl | hy'
        · left
          simp only [hpy, Bool.true_and, Bool.or_eq_true, decide_eq_true_eq] at e
          omega
        · exact .inr ⟨y, hy', hpy⟩
theorem foldl_flt {p q : Int → Bool} {n : Nat} : ∀ (l : List Int) (b : Int), (∀ x ∈ l, -1 ≤ x ∧ x < n) → (∀ x ∈ l, 0 ≤ x → p x = q x) → (∀ x, q x = true → 0 ≤ x) → (fltR n l).foldl (lsF p) b = l.foldl (lsF q) b
  | [], b, _, _, _ => rfl
  | x :: l, b, h, hpq, hq => by
    have hx := h x (by simp)
    have ih := fun b' => foldl_flt (p := p) (q := q) l b' (fun y hy => h y (by simp [hy])) (fun y hy => hpq y (by simp [hy])) hq
    unfold fltR at ih ⊢
    rw [List.filter_cons, List.foldl_cons]
    by_cases e : 0 ≤ x
    · rw [if_pos (by simp only [decide_eq_true_eq]; omega), List.foldl_cons, ih]
      congr 1
      unfold lsF
      rw [hpq x (by simp) e]
    · rw [if_neg (by simp only [decide_eq_true_eq]; omega), ih]
      have : q x = false := by
        cases c : q x
        · rfl
        · exact absurd (hq x c) e
      congr 1
      unfold lsF
      rw [this]
      simp
theorem dC_nn {T : List (List Int)} {goal d : Nat} {out : List Int} {k : Int} (h : dC T goal d out k = true) : 0 ≤ k := by
  unfold dC at h
  split at h
  · simp only [decide_eq_true_eq] at h; omega
  · simp only [Bool.and_eq_true, decide_eq_true_eq] at h; exact h.1.2
theorem dC_mono {T : List (List Int)} {goal d m : Nat} {k : Int} (hk : k < T.length) (hd : d ≠ 0) (h : dC T goal d (dL T goal m) k = true) : dC T goal d (dL T goal (m + 1)) k = true := by
  have hk0 := dC_nn h
  unfold dC at h ⊢
  by_cases e : d = 1
  · rw [if_pos e] at h ⊢; exact h
  · rw [if_neg e] at h ⊢
    simp only [Bool.and_eq_true, decide_eq_true_eq] at h ⊢
    refine ⟨h.1, ?_⟩
    rw [dL_keep (by omega) (by rw [h.2]; omega)]
    exact h.2
theorem dL_any {T : List (List Int)} (hT : okT T) {goal : Nat} : ∀ (m a n : Nat) (ha : a < T.length), (dL T goal m).getD a 0 = n → n ≠ 0 → T[a].any (dC T goal n (dL T goal m)) = true
  | 0, a, n, ha, h, hn => by
    simp [dL, List.getD_eq_getElem?_getD, ha] at h
    omega
  | m + 1, a, n, ha, h, hn => by
    have mono : ∀ d, d ≠ 0 → T[a].any (dC T goal d (dL T goal m)) = true → T[a].any (dC T goal d (dL T goal (m + 1))) = true := fun d hd q => by
      obtain ⟨x, hx, hp⟩ := List.any_eq_true.1 q
      exact List.any_eq_true.2 ⟨x, hx, dC_mono ((hT.2 _ (List.getElem_mem ha)).2 x hx).2 hd hp⟩
    by_cases e : (dL T goal m).getD a 0 = 0
    · rw [dL_get ha, dS, if_neg (by simpa using e), getD_lt ha] at h
      split at h
      · rename_i q
        obtain rfl : n = m + 1 := by omega
        exact mono _ (by omega) q
      · omega
    · rw [dL_keep ha e] at h
      exact mono n hn (dL_any hT m a n ha h hn)
def nxA (T : List (List Int)) (i n : Nat) (a : Int) : Int := max (lstI (dC T i n (dst T i)) (T.getD a.toNat [])) 0
def stN (T : List (List Int)) (i N : Nat) : Nat → List Int × Int
  | 0 => ([], i)
  | m + 1 => ((stN T i N m).1 ++ [(stN T i N m).2], nxA T i (N - m) (stN T i N m).2)
def dN (T : List (List Int)) (i : Nat) : Nat := ((dst T i).getD i 0).toNat
def thR (T : List (List Int)) (i : Nat) : List Int := (stN T i (dN T i) (dN T i)).1
theorem stN_len (T : List (List Int)) (i N : Nat) : ∀ m, (stN T i N m).1.length = m
  | 0 => rfl
  | m + 1 => by simp [stN, stN_len T i N m]
theorem thR_len (T : List (List Int)) (i : Nat) : (thR T i).length = dN T i := stN_len _ _ _ _
theorem nxA_rng {T : List (List Int)} (hT : okT T) {i n : Nat} {a : Int} (h0 : 0 < T.length) (ha : 0 ≤ a ∧ a < T.length) : 0 ≤ nxA T i n a ∧ nxA T i n a < T.length := by
  have ha' : a.toNat < T.length := by omega
  unfold nxA lstI
  rw [getD_lt ha']
  rcases lsF_pos (p := dC T i n (dst T i)) T[a.toNat] (-1) (.inl rfl) (fun x _ h => dC_nn h) with q | ⟨q1, q2⟩
  · rw [q]; omega
  · have := ((hT.2 _ (List.getElem_mem ha')).2 _ q1).2
    omega
theorem stN_rng {T : List (List Int)} (hT : okT T) {i N : Nat} (hi : i < T.length) : ∀ m, 0 ≤ (stN T i N m).2 ∧ (stN T i N m).2 < T.length
  | 0 => by simp only [stN]; omega
  | m + 1 => nxA_rng hT (by omega) (stN_rng hT hi m)
theorem dst_rng (T : List (List Int)) (goal : Nat) {i : Nat} (h : i < T.length) : 0 ≤ (dst T goal).getD i 0 ∧ (dst T goal).getD i 0 ≤ T.length := dL_rng T goal T.length i h
theorem dN_eq {T : List (List Int)} {i : Nat} (h : i < T.length) : ((dN T i : Nat) : Int) = (dst T i).getD i 0 := by
  have := dst_rng T i h
  unfold dN; omega
theorem dN_le {T : List (List Int)} {i : Nat} (h : i < T.length) : dN T i ≤ T.length := by
  have := dst_rng T i h
  unfold dN; omega
theorem farD_dN {T : List (List Int)} {i : Nat} (hi : i < T.length) (h : i < (farD (dst T i)).length) : (farD (dst T i))[i] = if dN T i = 0 then -1 else (dN T i : Int) := by
  have h2 : i < (dst T i).length := by rw [dst, dL_len]; exact hi
  have := dN_eq hi
  rw [← getD_lt h (d := 0), farD_get h2, ← this]
  unfold fD
  by_cases e : dN T i = 0
  · rw [if_pos e, if_pos (by omega)]
  · rw [if_neg e, if_neg (by omega)]
theorem farD_dC {T : List (List Int)} {i x n : Nat} (hx : x < T.length) (h : x < (farD (dst T i)).length) (hn : 1 < n) : dC T i n (dst T i) (x : Int) = (decide (x ≠ i) && decide ((farD (dst T i))[x] = (n : Int) - 1)) := by
  have h2 : x < (dst T i).length := by rw [dst, dL_len]; exact hx
  have hrg := dst_rng T i hx
  rw [← getD_lt h (d := 0), farD_get h2]
  unfold dC
  rw [if_neg (by omega), decide_eq_true (show (0 : Int) ≤ (x : Int) by omega), Bool.and_true, Int.toNat_natCast]
  have e1 : decide ((x : Int) ≠ i) = decide (x ≠ i) := by
    by_cases e : x = i
    · simp [e]
    · rw [decide_eq_true (by omega), decide_eq_true e]
  have e2 : decide ((dst T i).getD x 0 = (n : Int) - 1) = decide (fD ((dst T i).getD x 0) = (n : Int) - 1) := by
    unfold fD
    split
    · rw [decide_eq_false (by omega), decide_eq_false (by omega)]
    · rfl
  rw [e1, e2]
theorem nxA_in {T : List (List Int)} (hT : okT T) {i n : Nat} {a : Int} (ha : 0 ≤ a ∧ a < T.length) (hn : n ≠ 0) (h : (dst T i).getD a.toNat 0 = n) :
    nxA T i n a = lstI (dC T i n (dst T i)) (T.getD a.toNat []) ∧ dC T i n (dst T i) (nxA T i n a) = true := by
  have ha' : a.toNat < T.length := by omega
  obtain ⟨x, hx, hp⟩ := List.any_eq_true.1 (dL_any hT (goal := i) T.length a.toNat n ha' h hn)
  have h1 : 0 ≤ lstI (dC T i n (dst T i)) T[a.toNat] := lsF_some _ _ (fun x _ h => dC_nn h) (.inr ⟨x, hx, hp⟩)
  unfold nxA
  rw [getD_lt ha']
  rcases lsF_pos (p := dC T i n (dst T i)) T[a.toNat] (-1) (.inl rfl) (fun x _ h => dC_nn h) with q | ⟨q1, q2⟩
  · unfold lstI at h1; omega
  · have e : max (lstI (dC T i n (dst T i)) T[a.toNat]) 0 = lstI (dC T i n (dst T i)) T[a.toNat] := by omega
    rw [e]
    exact ⟨rfl, q2⟩
theorem stN_dst {T : List (List Int)} (hT : okT T) {i : Nat} (hi : i < T.length) : ∀ m, m < dN T i → (dst T i).getD (stN T i (dN T i) m).2.toNat 0 = ((dN T i - m : Nat) : Int)
  | 0, h => by
    have := dN_eq hi
    simp only [stN, Int.toNat_natCast, Nat.sub_zero]; omega
  | m + 1, h => by
    have ih := stN_dst hT hi m (by omega)
    have hr := stN_rng hT (N := dN T i) hi m
    have hq := (nxA_in hT hr (by omega) ih).2
    simp only [stN]
    unfold dC at hq
    rw [if_neg (by omega)] at hq
    simp only [Bool.and_eq_true, decide_eq_true_eq] at hq
    rw [hq.2]; omega
theorem nxA_flt {T : List (List Int)} (hT : okT T) {i m : Nat} (hi : i < T.length) (hm : m + 1 < dN T i) :
    lstI (fun k => decide ((dst T i).getD k.toNat 0 = ((dN T i - 1 - m : Nat) : Int))) (fltR T.length (T.getD (stN T i (dN T i) m).2.toNat [])) = (stN T i (dN T i) (m + 1)).2 := by
  have ih := stN_dst hT hi m (by omega)
  have hr := stN_rng hT (N := dN T i) hi m
  have ha' : (stN T i (dN T i) m).2.toNat < T.length := by omega
  have hne := dN_eq hi
  simp only [stN]
  rw [(nxA_in hT hr (by omega) ih).1, getD_lt ha']
  unfold lstI
  refine foldl_flt _ _ (hT.2 _ (List.getElem_mem ha')).2 (fun x hx hx0 => ?_) (fun x h => dC_nn h)
  unfold dC
  rw [if_neg (show ¬ dN T i - m = 1 by omega), decide_eq_true hx0, Bool.and_true]
  have e : ((dN T i - m : Nat) : Int) - 1 = ((dN T i - 1 - m : Nat) : Int) := by omega
  rw [e]
  by_cases q : x = i
  · subst q
    rw [decide_eq_false (by rw [Int.toNat_natCast]; omega)]
    simp
  · simp [q]
def cyF (b l : List Int) : List Int := if decide (0 < l.length) && (decide (b.length = 0) || decide (l.length < b.length)) then l else b
def cyL (T : List (List Int)) : Nat → List Int
  | 0 => []
  | m + 1 => cyF (cyL T m) (thR T m)
def fiF (T : List (List Int)) (s : Int × Int) (i : Nat) : Int × Int := if decide (0 < (dst T i).getD i 0) && (decide (s.1 < 0) || decide ((dst T i).getD i 0 < s.2)) then ((i : Int), (dst T i).getD i 0) else s
def fiL (T : List (List Int)) : Nat → Int × Int
  | 0 => (-1, 0)
  | m + 1 => fiF T (fiL T m) m
theorem fiL_eq {T : List (List Int)} : ∀ m, m ≤ T.length → (((fiL T m).1 = -1 ∧ cyL T m = []) ∨ (0 ≤ (fiL T m).1 ∧ (fiL T m).1 < m ∧ (fiL T m).2 = dN T (fiL T m).1.toNat ∧ 0 < (fiL T m).2 ∧ cyL T m = thR T (fiL T m).1.toNat))
  | 0, _ => .inl ⟨rfl, rfl⟩
  | m + 1, h => by
    have hd := dN_eq (T := T) (i := m) (by omega)
    have hl := thR_len T m
    have yes {α : Type} {c : Bool} {x y : α} (h : c = true) : (if c then x else y) = x := if_pos h
    have no {α : Type} {c : Bool} {x y : α} (h : ¬ c = true) : (if c then x else y) = y := if_neg h
    rcases fiL_eq (T := T) m (by omega) with ⟨h1, h2⟩ | ⟨h1, h2, h3, h4, h5⟩
    · simp only [fiL, cyL, fiF, cyF, h1, h2, hl, ← hd]
      by_cases e : 0 < dN T m
      · rw [yes (by simp; omega), yes (by simp; omega)]
        exact .inr ⟨by simp, by simp; omega, by simp, by simpa using e, by simp⟩
      · rw [no (by simp; omega), no (by simp; omega)]
        exact .inl ⟨h1, rfl⟩
    · have hl2 := thR_len T (fiL T m).1.toNat
      simp only [fiL, cyL, fiF, cyF, h5, hl, hl2, ← hd]
      generalize fiL T m = s at *
      by_cases e : 0 < dN T m ∧ dN T m < dN T s.1.toNat
      · rw [yes (by simp; omega), yes (by simp; omega)]
        exact .inr ⟨by simp, by simp; omega, by simp, by simp; omega, by simp⟩
      · rw [no (by simp; omega), no (by simp; omega)]
        exact .inr ⟨h1, by omega, h3, h4, rfl⟩
theorem cyF_if (b l : List Int) : cyF b l = if 0 < l.length ∧ (b.length = 0 ∨ l.length < b.length) then l else b := by
  unfold cyF
  simp only [Bool.and_eq_true, Bool.or_eq_true, decide_eq_true_eq]
theorem fiF_if (T : List (List Int)) (s : Int × Int) (i : Nat) : fiF T s i = if 0 < (dst T i).getD i 0 ∧ (s.1 < 0 ∨ (dst T i).getD i 0 < s.2) then ((i : Int), (dst T i).getD i 0) else s := by
  unfold fiF
  simp only [Bool.and_eq_true, Bool.or_eq_true, decide_eq_true_eq]
theorem cyL_le {T : List (List Int)} : ∀ m, m ≤ T.length → (cyL T m).length ≤ T.length
  | 0, _ => by simp [cyL]
  | m + 1, h => by
    have h1 := cyL_le (T := T) m (by omega)
    have h2 := dN_le (T := T) (i := m) (by omega)
    have h3 := thR_len T m
    simp only [cyL]
    rw [cyF_if]
    split <;> omega
end Go.Gh

namespace Go.Gh
@[irreducible] def MkQ (p : Prop) : Prop := p
theorem mkQI {p : Prop} (h : MkQ p) : p := by unfold MkQ at h; exact h
theorem mkQU {p : Prop} (h : p) : MkQ p := by unfold MkQ; exact h
end Go.Gh

/- Short words for ghost code. -/
namespace Go.Gh.Z
abbrev x (d : Nat) (o : GOp) : GI := ⟨some d, none, o⟩
abbrev y (d g : Nat) (o : GOp) : GI := ⟨some d, some (g, true), o⟩
abbrev z (d g : Nat) (o : GOp) : GI := ⟨some d, some (g, false), o⟩
abbrev m (d a : Nat) : GI := ⟨some d, none, .mov (.t a)⟩
abbrev k (d : Nat) (n : Int) : GI := ⟨some d, none, .mov (.k (.val (.int .i64 n)))⟩
abbrev b (d : Nat) (n : Bool) : GI := ⟨some d, none, .mov (.k (.val (.bool n)))⟩
abbrev l (d a : Nat) : GI := ⟨some d, none, .load 1 false (.t a)⟩
abbrev h (d n a : Nat) : GI := ⟨some d, none, .load n true (.t a)⟩
abbrev f (d o a : Nat) : GI := ⟨some d, none, .faddr o 1 false (.t a)⟩
abbrev e (d o n a : Nat) : GI := ⟨some d, none, .faddr o n true (.t a)⟩
abbrev i (d n a c : Nat) : GI := ⟨some d, none, .iaddr n (.t a) (.t c)⟩
abbrev c (d f : Nat) (a : List GE) : GI := ⟨some d, none, .call false f a⟩
abbrev o (d : Nat) (p : BinOp) (a b : Nat) : GI := ⟨some d, none, .bin p (.t a) (.t b)⟩
abbrev q (d : Nat) (p : BinOp) (a : Nat) (n : Int) : GI := ⟨some d, none, .bin p (.t a) (.k (.val (.int .i64 n)))⟩
abbrev n (d a : Nat) : GI := ⟨some d, none, .len (.t a)⟩
abbrev w (d a : Nat) : GI := ⟨some d, none, .not (.t a)⟩
abbrev a (d n r : Nat) : GI := ⟨some d, none, .boxro n (.t r)⟩
abbrev s (a : List GI) (b : GC) : GC := .seq (.reg a) b
end Go.Gh.Z

