/- The law FnExactCheckGrammar returns true whatever the input, and the input reads behind the call as before. No condition. -/
import Derived.Test.YtbdmpkidcpblaaaGreatLib2
import Derived.Shelf.SlSortCmp.NoneTotal
import Derived.Laws.Cover1
import Derived.Deep.RegionHeld3
import Derived.Shelf.SlGeneric
import Derived.Test.YtbdmpkidcpblaaaGreatRows
import Derived.Test.YtbdmpkidcpblaaaGreatChecked
import Derived.KernelRfl
/- The program's data as plain data, and their ghosts. -/
namespace Go.Gh
set_option linter.unusedSimpArgs false
set_option linter.unusedVariables false
abbrev T (s : ByteArray) : GV := .val (.string s)
theorem chars_inj {s t : ByteArray} : chars s = chars t ↔ s = t := by
  constructor
  · intro h; obtain ⟨a⟩ := s; obtain ⟨b⟩ := t; simp only [chars] at h; congr 1; exact Array.ext' h
  · rintro rfl; rfl
@[ext] structure Nod where
  id : Int
  parent : Int
  place : Int
  lit : Int
  rule : ByteArray
  kids : List Int
deriving DecidableEq
@[ext] structure Slo where
  pos : Int
  name : ByteArray
  val : Int
deriving DecidableEq
abbrev Occ (x : Int × ByteArray) : GV := .agg [I x.1, T x.2]
abbrev wOcc (x : Int × ByteArray) : Nat := (chars x.2).length
theorem e_nil (e : Env) : subE e [] = True := (rfl)
theorem e_cons (e : Env) (j : Nat) (g : GV) (r : Env) : subE e ((j, g) :: r) = (eget e j = some g ∧ subE e r) := (rfl)
theorem n_val (v : Value) : nraw (.val v) = true := (rfl)
theorem n_sl (sz : Nat) (es : List GV) : nraw (.sl sz es) = true := (rfl)
theorem n_agg (cs : List GV) : nraw (.agg cs) = true := (rfl)
theorem n_rop (sz : Nat) (g : GV) : nraw (.rop sz g) = true := (rfl)
theorem n_ptr (r sz i o : Nat) : nraw (.ptr r sz i o) = true := (rfl)
theorem n_own (r sz k n : Nat) : nraw (.own r sz k n) = true := (rfl)
theorem n_clo (f : Nat) (cs : List GV) : nraw (.clo f cs) = true := (rfl)
theorem n_tup (cs : List GV) : nraw (.tup cs) = true := (rfl)
theorem E2 : type_of% (And.intro @e_nil (And.intro @e_cons (And.intro @n_val (And.intro @n_sl (And.intro @n_agg (And.intro @n_rop (And.intro @n_ptr (And.intro @n_own (And.intro @n_clo (And.intro @n_tup (And.intro @x_get @Option.some.injEq.{0}))))))))))) :=
  And.intro @e_nil (And.intro @e_cons (And.intro @n_val (And.intro @n_sl (And.intro @n_agg (And.intro @n_rop (And.intro @n_ptr (And.intro @n_own (And.intro @n_clo (And.intro @n_tup (And.intro @x_get @Option.some.injEq.{0}))))))))))
theorem maxLv : maxL = 9223372036854775807 := (rfl)
theorem Z2 : type_of% (And.intro @Int.ofNat_lt (And.intro @Int.natCast_nonneg (And.intro @true_and (And.intro @u_ext (And.intro @exists_prop_of_true (And.intro @Int.natCast_zero (And.intro @chars_inj (And.intro @Int.natCast_inj (And.intro maxLv (And.intro @not_true_eq_false (And.intro @false_implies (And.intro @true_implies (And.intro @and_true (And.intro @implies_true.{0} @wrap64)))))))))))))) :=
  And.intro @Int.ofNat_lt (And.intro @Int.natCast_nonneg (And.intro @true_and (And.intro @u_ext (And.intro @exists_prop_of_true (And.intro @Int.natCast_zero (And.intro @chars_inj (And.intro @Int.natCast_inj (And.intro maxLv (And.intro @not_true_eq_false (And.intro @false_implies (And.intro @true_implies (And.intro @and_true (And.intro @implies_true.{0} @wrap64)))))))))))))
end Go.Gh

/- What the program computes, in plain words: trees. -/
namespace Go.Gh
set_option linter.unusedSimpArgs false
set_option linter.unusedVariables false
def kidStep (hs : List Int) (k : Nat) (m : Int) (c : Int) : Int := if (k : Int) < c ∧ c < k + 1 + hs.length then max m (hs.getD (c - k - 1).toNat 0) else m
def kidMax (hs : List Int) (k : Nat) (kids : List Int) : Int := kids.foldl (kidStep hs k) 0
def hts : Nat → List Nod → List Int
  | _, [] => []
  | k, x :: r => (kidMax (hts (k + 1) r) k x.kids + 1) :: hts (k + 1) r
end Go.Gh
namespace Go.Gh
end Go.Gh
namespace Go.Gh
theorem sum_mem {α : Type} (f : α → Nat) : ∀ (l : List α) (x : α), x ∈ l → f x ≤ (l.map f).sum
  | y :: l, x, h => by
    simp only [List.map_cons, List.sum_cons]
    rcases List.mem_cons.1 h with rfl | h
    · omega
    · have := sum_mem f l x h; omega
end Go.Gh
namespace Go.Gh
theorem take_eq_step {α : Type} {xs ys : List α} {i : Nat} (hp : xs.take i = ys.take i) (h1 : i < xs.length) (h2 : i < ys.length) (h : xs[i] = ys[i]) : xs.take (i + 1) = ys.take (i + 1) := by
  rw [List.take_add_one, List.take_add_one, hp, List.getElem?_eq_getElem h1, List.getElem?_eq_getElem h2, h]
end Go.Gh
namespace Go.Gh
end Go.Gh
namespace Go.Gh
theorem exP {p : Prop} {q : p → Prop} (h : p) (hq : q h) : ∃ h, q h := ⟨h, hq⟩
end Go.Gh
namespace Go.Gh
end Go.Gh
namespace Go.Gh
end Go.Gh
namespace Go.Gh
theorem find_hit {α : Type} {p : α → Bool} : ∀ {xs : List α} {i : Nat} (h : i < xs.length), p xs[i] = true → (∀ a ∈ xs.take i, p a = false) → xs.find? p = some xs[i]
  | x :: xs, 0, _, hp, _ => by simp at hp; simp [hp]
  | x :: xs, i + 1, h, hp, hn => by
    have h1 : p x = false := hn x (by simp)
    simp only [List.find?_cons, h1]
    simpa using find_hit (p := p) (xs := xs) (i := i) (by simpa using h) (by simpa using hp) (fun a ha => hn a (by simp [ha]))
theorem find_none {α : Type} {p : α → Bool} {xs : List α} (hn : ∀ a ∈ xs, p a = false) : xs.find? p = none := by
  rw [List.find?_eq_none]; intro x hx; simp [hn x hx]
end Go.Gh

/- The laws' own functions on slices, whatever the element: sizes, copies, comparisons. -/
namespace Go.Gh
set_option linter.unusedSimpArgs false
set_option linter.unusedVariables false
set_option maxRecDepth 20000
section
variable {P : Program} {α : Type} {f : α → GV} {k kx sz : Nat} {det ag : Bool}
theorem eqS (mxd : P.follows .mixedOrders = true) (hF : IsFun P k ⟨⟨27, []⟩,
  (.seq (.reg [(.mk (some 4) none (.mov (.k (.val (.bool false)))))]) (.seq (.seq (.reg [(.mk (some 6) none (.mov (.t 0))), (.mk (some 7) none (.len (.t 6))), (.mk (some 8) none (.mov (.t 1))), (.mk (some 9) none (.len
  (.t 8))), (.mk (some 10) none (.bin .neq (.t 7) (.t 9)))]) (.cond 10 (.seq (.reg [(.mk (some 4) none (.mov (.k (.val (.bool false)))))]) .ret) .skip)) (.seq (.seq (.reg [(.mk (some 5) none (.mov (.k (.val (.int .i64
  0)))))]) (.block 0 (.loop (.seq (.seq (.reg [(.mk (some 11) none (.mov (.t 5))), (.mk (some 12) none (.mov (.t 0))), (.mk (some 13) none (.len (.t 12))), (.mk (some 14) none (.bin .lss (.t 11) (.t 13)))]) (.cond 14
  .skip (.exit 0))) (.seq (.block 1 (.seq (.reg [(.mk (some 17) none (.mov (.t 0))), (.mk (some 18) none (.mov (.t 5))), (.mk (some 19) none (.iaddr sz (.t 17) (.t 18))), (.mk (some 21) none (.mov (.t 1))), (.mk (some
  22) none (.mov (.t 5))), (.mk (some 23) none (.iaddr sz (.t 21) (.t 22))), (.mk (some 20) none (.load sz ag (.t 19))), (.mk (some 24) none (.load sz ag (.t 23))), (.mk (some 25) none (.call det kx [(.t 20), (.t
  24)])), (.mk (some 26) none (.not (.t 25)))]) (.cond 26 (.seq (.reg [(.mk (some 4) none (.mov (.k (.val (.bool false)))))]) .ret) .skip))) (.reg [(.mk (some 15) none (.mov (.t 5))), (.mk (some 16) none (.bin .add (.t
  15) (.k (.val (.int .i64 1))))), (.mk (some 5) none (.mov (.t 16)))])))))) (.seq (.reg [(.mk (some 4) none (.mov (.k (.val (.bool true)))))]) .ret)))), [.t 4]⟩)
    [DecidableEq α] (hag : ∀ a, isAgg (f a) = ag) (hr : ∀ a, geR (some (f a)) = some (f a)) (xs ys : List α) (hx : ∀ a ∈ xs, ∀ b ∈ ys, Pure P kx [f a, f b] (· = B (decide (a = b)))) :
    Pure P k [.sl sz (xs.map f), .sl sz (ys.map f)] (· = B (decide (xs = ys))) := by
  refine GCalls.lenA fun hl => ?_
  have hlen := hl.1.1
  simp only [List.length_map, maxL] at hlen
  refine gstart mxd hF rfl (by simp) ?_
  ((try simp only [↓ S2, S2, ↓reduceIte, Nat.reduceEqDiff, reduceCtorEq, Nat.reduceLeDiff, Nat.reduceAdd, Nat.reduceLT, hr, hag]); (try simp only [brGen]; try simp only [↓ S2, S2, ↓reduceIte, Nat.reduceEqDiff, reduceCtorEq, Nat.reduceLeDiff, Nat.reduceAdd, Nat.reduceLT, hr, hag]); (try simp +contextual (disch := omega) only [Z2]); (repeat' (first | (with_reducible intro h) | (with_reducible refine And.intro (by omega) ?_) | (with_reducible refine exP (by omega) ?_) | (with_reducible apply And.intro))))
  rotate_left
  · simp; rintro rfl; exact h rfl
  refine wloop mxd (ι := { i : Nat // i ≤ xs.length ∧ xs.take i = ys.take i }) (fun i => [(0, .sl sz (xs.map f)), (1, .sl sz (ys.map f)), (5, I i.1)]) (fun _ => []) (fun i => xs.length - i.1) ⟨0, by simp⟩ (by simp [E2]) rfl ?_
  rintro ⟨i, hi, hp⟩
  ((try simp only [↓ S2, S2, ↓reduceIte, Nat.reduceEqDiff, reduceCtorEq, Nat.reduceLeDiff, Nat.reduceAdd, Nat.reduceLT, hr, hag]); (try simp only [brGen]; try simp only [↓ S2, S2, ↓reduceIte, Nat.reduceEqDiff, reduceCtorEq, Nat.reduceLeDiff, Nat.reduceAdd, Nat.reduceLT, hr, hag]); (try simp +contextual (disch := omega) only [Z2]); (repeat' (first | (with_reducible intro h) | (with_reducible refine And.intro (by omega) ?_) | (with_reducible refine exP (by omega) ?_) | (with_reducible apply And.intro))))
  · refine callS.eq (hx xs[i] (List.getElem_mem _) ys[i] (List.getElem_mem _)) ?_
    ((try simp only [↓ S2, S2, ↓reduceIte, Nat.reduceEqDiff, reduceCtorEq, Nat.reduceLeDiff, Nat.reduceAdd, Nat.reduceLT, hr, hag]); (try simp only [brGen]; try simp only [↓ S2, S2, ↓reduceIte, Nat.reduceEqDiff, reduceCtorEq, Nat.reduceLeDiff, Nat.reduceAdd, Nat.reduceLT, hr, hag]); (try simp +contextual (disch := omega) only [Z2]); (repeat' (first | (with_reducible intro h) | (with_reducible refine And.intro (by omega) ?_) | (with_reducible refine exP (by omega) ?_) | (with_reducible apply And.intro))))
    · exact nx ⟨i + 1, by omega, take_eq_step hp (by omega) (by omega) h⟩ (by simp; omega) (by simp [E2]) rfl
    · simp; rintro rfl; simp at h
  · have : i = xs.length := by omega
    subst this
    rw [List.take_of_length_le (by omega), List.take_of_length_le (by omega)] at hp
    simp [hp]
theorem toSo (mxd : P.follows .mixedOrders = true) {bytes : Nat} {z : GV} (hF : IsFun P k ⟨⟨23, []⟩,
  (.seq (.reg [(.mk (some 2) none (.mov (.k (.val (.slice none 0 0)))))]) (.seq (.reg [(.mk (some 5) none (.mov (.t 0))), (.mk (some 6) none (.len (.t 5))), (.mk (some 7) none (.mkslice sz bytes z (.t 6) (.t 6))), (.mk (some 3) none (.mov (.t 7)))]) (.seq (.seq (.reg [(.mk (some 4) none (.mov (.k (.val (.int .i64 0)))))]) (.block 0 (.loop (.seq (.seq (.reg [(.mk (some 8)
  none (.mov (.t 4))), (.mk (some 9) none (.mov (.t 0))), (.mk (some 10) none (.len (.t 9))), (.mk (some 11) none (.bin .lss (.t 8) (.t 10)))]) (.cond 11 .skip (.exit 0))) (.seq (.block 1 (.reg [(.mk (some 14) none
  (.mov (.t 3))), (.mk (some 15) none (.mov (.t 4))), (.mk (some 16) none (.mov (.t 0))), (.mk (some 17) none (.mov (.t 4))), (.mk (some 18) none (.iaddr sz (.t 16) (.t 17))), (.mk (some 19) none (.load sz ag (.t 18))),
  (.mk (some 20) none (.call det kx [(.t 19)])), (.mk (some 21) none (.iaddr sz (.t 14) (.t 15))), (.mk none none (.store sz (.t 21) (.t 20)))])) (.reg [(.mk (some 12) none (.mov (.t 4))), (.mk (some 13) none (.bin .add
  (.t 12) (.k (.val (.int .i64 1))))), (.mk (some 4) none (.mov (.t 13)))])))))) (.seq (.reg [(.mk (some 22) none (.mov (.t 3))), (.mk (some 2) none (.mov (.t 22)))]) .ret)))), [.t 2]⟩)
    (hag : ∀ a, isAgg (f a) = ag) (hr : ∀ a, geR (some (f a)) = some (f a)) (hsz : ∀ a, gsize (f a) = sz) (hst : ∀ a, storable (f a) = true) (xs : List α) (hlen : xs.length ≤ 1048576) (hb : bytes ≤ 1024)
    (hx : ∀ a ∈ xs, Pure P kx [f a] (· = f a)) (H : GH) :
    GCalls P k [.sl sz (xs.map f)] H (fun g H' => ∃ r, g = .own r sz 0 xs.length ∧ H' = (r, sz, xs.map f) :: H) := by
  have hbb : (bytes : Int) * (xs.length : Int) ≤ 281474976710656 := by
    have h1 : bytes * xs.length ≤ 1073741824 := Nat.le_trans (Nat.mul_le_mul hb hlen) (by decide)
    have h2 : ((bytes * xs.length : Nat) : Int) ≤ 1073741824 := by omega
    rw [Int.natCast_mul] at h2
    omega
  refine gstart mxd hF rfl (by simp) ?_
  simp only [↓ S2, S2, ↓reduceIte, Nat.reduceEqDiff, reduceCtorEq, Nat.reduceLeDiff, Nat.reduceAdd, Nat.reduceLT, hr, hag]
  refine ⟨by omega, by omega, hbb, by omega, fun r hr' => ?_⟩
  refine wloop mxd (ι := { i : Nat // i ≤ xs.length }) (fun i => [(0, .sl sz (xs.map f)), (3, .own r sz 0 xs.length), (4, I i.1)]) (fun i => (r, sz, (xs.take i.1).map f ++ List.replicate (xs.length - i.1) z) :: H) (fun i => xs.length - i.1) ⟨0, by simp⟩ (by simp [E2]) (by simp) ?_
  rintro ⟨i, hi⟩
  ((try simp only [↓ S2, S2, ↓reduceIte, Nat.reduceEqDiff, reduceCtorEq, Nat.reduceLeDiff, Nat.reduceAdd, Nat.reduceLT, hr, hag]); (try simp only [brGen]; try simp only [↓ S2, S2, ↓reduceIte, Nat.reduceEqDiff, reduceCtorEq, Nat.reduceLeDiff, Nat.reduceAdd, Nat.reduceLT, hr, hag]); (try simp +contextual (disch := omega) only [Z2]); (repeat' (first | (with_reducible intro h) | (with_reducible refine And.intro (by omega) ?_) | (with_reducible refine exP (by omega) ?_) | (with_reducible apply And.intro))))
  · refine callS.eq (hx xs[i] (List.getElem_mem _)) ?_
    ((try simp only [↓ S2, S2, ↓reduceIte, Nat.reduceEqDiff, reduceCtorEq, Nat.reduceLeDiff, Nat.reduceAdd, Nat.reduceLT, hr, hag, hsz, hst, stw]); (try simp only [brGen]; try simp only [↓ S2, S2, ↓reduceIte, Nat.reduceEqDiff, reduceCtorEq, Nat.reduceLeDiff, Nat.reduceAdd, Nat.reduceLT, hr, hag, hsz, hst, stw]); (try simp +contextual (disch := omega) only [Z2]); (repeat' (first | (with_reducible intro h) | (with_reducible refine And.intro (by omega) ?_) | (with_reducible refine exP (by omega) ?_) | (with_reducible apply And.intro))))
    refine ⟨by simp; omega, nx ⟨i + 1, by omega⟩ (by simp; omega) (by simp [E2]) ?_⟩
    rw [fill_set xs f z i h]
  · have : i = xs.length := by omega
    subst this
    exact ⟨r, rfl, by simp⟩
theorem szS (mxd : P.follows .mixedOrders = true) (wt : α → Nat) (hF : IsFun P k ⟨⟨27, []⟩,
  (.seq (.reg [(.mk (some 4) none (.mov (.k (.val (.int .i64 0)))))]) (.seq (.reg [(.mk (some 6) none (.mov (.t 1))), (.mk (some 7) none (.mov (.t 0))), (.mk (some 8) none (.len (.t 7))), (.mk (some 9) none (.bin .sub
  (.t 6) (.t 8))), (.mk (some 1) none (.mov (.t 9)))]) (.seq (.seq (.reg [(.mk (some 10) none (.mov (.t 1))), (.mk (some 11) none (.bin .lss (.t 10) (.k (.val (.int .i64 0)))))]) (.cond 11 (.seq (.reg [(.mk (some 4)
  none (.mov (.k (.val (.int .i64 (-1))))))]) .ret) .skip)) (.seq (.seq (.reg [(.mk (some 5) none (.mov (.k (.val (.int .i64 0)))))]) (.block 0 (.loop (.seq (.seq (.reg [(.mk (some 12) none (.mov (.t 5))), (.mk (some
  13) none (.mov (.t 0))), (.mk (some 14) none (.len (.t 13))), (.mk (some 15) none (.bin .lss (.t 12) (.t 14)))]) (.cond 15 .skip (.exit 0))) (.seq (.block 1 (.seq (.reg [(.mk (some 18) none (.mov (.t 0))), (.mk (some
  19) none (.mov (.t 5))), (.mk (some 20) none (.iaddr sz (.t 18) (.t 19))), (.mk (some 21) none (.load sz ag (.t 20))), (.mk (some 22) none (.mov (.t 1))), (.mk (some 23) none (.call det kx [(.t 21), (.t 22)])), (.mk
  (some 1) none (.mov (.t 23)))]) (.seq (.reg [(.mk (some 24) none (.mov (.t 1))), (.mk (some 25) none (.bin .lss (.t 24) (.k (.val (.int .i64 0)))))]) (.cond 25 (.seq (.reg [(.mk (some 4) none (.mov (.k (.val (.int
  .i64 (-1))))))]) .ret) .skip)))) (.reg [(.mk (some 16) none (.mov (.t 5))), (.mk (some 17) none (.bin .add (.t 16) (.k (.val (.int .i64 1))))), (.mk (some 5) none (.mov (.t 17)))])))))) (.seq (.reg [(.mk (some 26)
  none (.mov (.t 1))), (.mk (some 4) none (.mov (.t 26)))]) .ret))))), [.t 4]⟩)
    (hag : ∀ a, isAgg (f a) = ag) (hr : ∀ a, geR (some (f a)) = some (f a)) (xs : List α) (left : Int) (h0 : 0 ≤ left) (h1 : left ≤ 1048576)
    (hx : ∀ a ∈ xs, ∀ l : Int, 0 ≤ l → l ≤ 1048576 → Pure P kx [f a, I l] (· = I (szv l (wt a)))) :
    Pure P k [.sl sz (xs.map f), I left] (· = I (szv left (wtS wt xs))) := by
  refine GCalls.lenA fun hl => ?_
  have hlen := hl.1.1
  simp only [List.length_map, maxL] at hlen
  refine gstart mxd hF rfl (by simp) ?_
  ((try simp only [↓ S2, S2, ↓reduceIte, Nat.reduceEqDiff, reduceCtorEq, Nat.reduceLeDiff, Nat.reduceAdd, Nat.reduceLT, hr, hag]); (try simp only [brGen]; try simp only [↓ S2, S2, ↓reduceIte, Nat.reduceEqDiff, reduceCtorEq, Nat.reduceLeDiff, Nat.reduceAdd, Nat.reduceLT, hr, hag]); (try simp +contextual (disch := omega) only [Z2]); (repeat' (first | (with_reducible intro h) | (with_reducible refine And.intro (by omega) ?_) | (with_reducible refine exP (by omega) ?_) | (with_reducible apply And.intro))))
  · congr 2; simp only [szv, wtS]; omega
  refine wloop mxd (ι := { i : Nat // i ≤ xs.length ∧ ((xs.length + psum wt xs i : Nat) : Int) ≤ left }) (fun i => [(0, .sl sz (xs.map f)), (1, I (left - ((xs.length + psum wt xs i.1 : Nat) : Int))), (5, I i.1)])
    (fun _ => []) (fun i => xs.length - i.1) ⟨0, by simp [psum_zero]; omega⟩ (by simp [E2, psum_zero]) rfl ?_
  rintro ⟨i, hi, hp⟩
  ((try simp only [↓ S2, S2, ↓reduceIte, Nat.reduceEqDiff, reduceCtorEq, Nat.reduceLeDiff, Nat.reduceAdd, Nat.reduceLT, hr, hag]); (try simp only [brGen]; try simp only [↓ S2, S2, ↓reduceIte, Nat.reduceEqDiff, reduceCtorEq, Nat.reduceLeDiff, Nat.reduceAdd, Nat.reduceLT, hr, hag]); (try simp +contextual (disch := omega) only [Z2]); (repeat' (first | (with_reducible intro h) | (with_reducible refine And.intro (by omega) ?_) | (with_reducible refine exP (by omega) ?_) | (with_reducible apply And.intro))))
  · have e1 := psum_succ wt xs i h
    have e2 := psum_le wt xs (i + 1)
    refine callS.eq (hx xs[i] (List.getElem_mem _) _ (by omega) (by omega)) ?_
    ((try simp only [↓ S2, S2, ↓reduceIte, Nat.reduceEqDiff, reduceCtorEq, Nat.reduceLeDiff, Nat.reduceAdd, Nat.reduceLT, hr, hag]); (try simp only [brGen]; try simp only [↓ S2, S2, ↓reduceIte, Nat.reduceEqDiff, reduceCtorEq, Nat.reduceLeDiff, Nat.reduceAdd, Nat.reduceLT, hr, hag]); (try simp +contextual (disch := omega) only [Z2]); (repeat' (first | (with_reducible intro h) | (with_reducible refine And.intro (by omega) ?_) | (with_reducible refine exP (by omega) ?_) | (with_reducible apply And.intro))))
    · congr 2; simp only [szv, wtS] at *; omega
    · have e3 := szv_nn h
      refine nx ⟨i + 1, by omega, by omega⟩ (by simp; omega) ?_ rfl
      rw [szv_pos e3]
      simp [E2]
      omega
  · have : i = xs.length := by omega
    subst this
    rw [psum_all]
    congr 2; simp only [szv, wtS]; rw [psum_all] at hp; omega
end
end Go.Gh

/- Arguments of the statements, by their types. -/
namespace Go.Gh
theorem t_one {t : Ty} {g : GV} (h : ET false [t] g) : CT t g := by
  obtain ⟨gs, k1, k2⟩ := h
  simp only [CTs] at k1
  obtain ⟨g, gs', rfl, hg, rfl⟩ := k1
  simp at k2
  rw [← k2]; exact hg
theorem c_sl {ag : Bool} {ts : List Ty} {α : Type} {f : α → GV} {ok : α → Prop} {g : GV} (h : CT (.sl ag ts) g) (he : ∀ e, ET ag ts e → ∃ a, e = f a ∧ ok a) : ∃ l : List α, g = .sl ts.length (l.map f) ∧ ∀ a ∈ l, ok a := by
  simp only [CT] at h
  obtain ⟨es, rfl, _, hs⟩ := h
  obtain ⟨l, rfl, hl⟩ := list_of (f := f) (ok := ok) fun e hm => he e (hs e hm)
  exact ⟨l, rfl, hl⟩
end Go.Gh

/- What the laws' marks are. -/
namespace Go.Gh
set_option linter.unusedSimpArgs false
set_option linter.unusedVariables false
theorem vIte (P : Program) (c : Prop) [Decidable c] (g : GV) (d : Option Nat) (is : List GI) (K : Env → GH → Prop) (env : Env) (H : GH) : valS P (if c then some g else none) d is K env H = (c ∧ gsteps P is K (gput env d g) H) := by
  by_cases h : c <;> simp [h, valS]
theorem wloopN {P : Program} {cf : Cfg} (mxd : P.follows .mixedOrders = true) {ι : Type} {x : GC} {Q : Exit → Env → GH → Prop} {env : Env} {H : GH} (E : ι → Env) (G : ι → GH) (μ : ι → Nat) (i0 : ι) (h0 : subE env (E i0)) (hh : H = G i0)
    (round : ∀ i, (names (G i)).Nodup → gwp P cf x (thenG (Nx E G μ i) Q) (E i) (G i)) : GW P cf (.loop x) Q env H := by
  subst hh
  exact GW.loop E G μ i0 (FE.of h0) fun i => GW.names fun hn => gwp_ok mxd (round i hn)
theorem bor_IS {H : GH} {r n : Nat} {l : List Int} (hr : hget H r = some (1, l.map I)) (hn : l.length = n) : Bor H (.own r 1 0 n) (IS l) := .all hr (by simp [hn]) (by simp [view])
theorem FE.swap {env : Env} {H : GH} {x y : Nat × Nat × List GV} : FE env (x :: y :: H) env (y :: x :: H) := by
  intro w0 D0 O0 N a w ⟨hdf, hsz, D, Ω, ρw, hi⟩
  obtain ⟨r1, sz1, es1⟩ := x
  obtain ⟨r2, sz2, es2⟩ := y
  obtain ⟨F1, G1, e1, h1, F2, F3, e2, h2, h3⟩ := hi.st.hm
  have hp : ∀ x, (F2 ++ (F1 ++ F3)).count x = Ω.count x := by
    intro x; rw [e1, e2]; simp only [List.count_append]; omega
  have hmem : ∀ x ∈ F2 ++ (F1 ++ F3), x ∈ Ω := fun x hx => by
    have := List.count_pos_iff.2 hx
    exact List.count_pos_iff.1 (by rw [← hp]; exact this)
  refine ⟨hdf, hsz, D, F2 ++ (F1 ++ F3), ρw, hi.st' ⟨⟨F2, _, rfl, h2, F1, F3, rfl, h1, h3⟩, ?_, ?_, fun x hx => hi.st.dj x (hmem x hx), hi.st.ds⟩ hmem⟩
  · rw [List.nodup_iff_count]
    intro x
    rw [hp]
    exact List.nodup_iff_count.1 hi.st.nd x
  · have := hi.st.nn
    simp only [names, List.map_cons, List.nodup_cons, List.mem_cons, not_or] at this ⊢
    exact ⟨⟨fun e => this.1.1 e.symm, this.2.1⟩, this.1.2, this.2.2⟩
theorem callS.borA {P : Program} {K : Env → GH → Prop} {is : List GI} {env : Env} {H : GH} {d : Option Nat} {det : Bool} {f : FuncId} {gs gs' : List GV} {G : GV} (h : Pure P f gs' (· = G)) (hb : BorL H gs gs') (hs : scal G = true) (hk : gsteps P is K (gput env d G) H) : callS P det f (some gs) d is K env H := by
  cases det
  · exact callS.bor h hb hs hk
  · exact ⟨G, h.borrow hb (fun _ e => by rw [e]; exact hs), hk⟩
end Go.Gh

/- Expressions as plain data, and their ghosts. -/
namespace Go.Gh
set_option linter.unusedSimpArgs false
set_option linter.unusedVariables false
inductive Exp where
  | mk (kind n pos type : Int) (sym name : ByteArray) (args : List Exp)
def Exp.kind : Exp → Int | .mk k _ _ _ _ _ _ => k
def Exp.n : Exp → Int | .mk _ n _ _ _ _ _ => n
def Exp.pos : Exp → Int | .mk _ _ p _ _ _ _ => p
def Exp.type : Exp → Int | .mk _ _ _ t _ _ _ => t
def Exp.sym : Exp → ByteArray | .mk _ _ _ _ s _ _ => s
def Exp.name : Exp → ByteArray | .mk _ _ _ _ _ m _ => m
def Exp.args : Exp → List Exp | .mk _ _ _ _ _ _ a => a
mutual
def Ex : Exp → GV
  | .mk k n p t s m a => .agg [I k, I n, I p, I t, T s, T m, .sl 7 (ExL a)]
def ExL : List Exp → List GV
  | [] => []
  | e :: l => Ex e :: ExL l
end
theorem ExL_eq (l : List Exp) : ExL l = l.map Ex := by
  induction l with
  | nil => rfl
  | cons e l ih => simp [ExL, ih]
abbrev ExS (l : List Exp) : GV := .sl 7 (l.map Ex)
theorem Ex_eq (e : Exp) : Ex e = .agg [I e.kind, I e.n, I e.pos, I e.type, T e.sym, T e.name, ExS e.args] := by
  cases e; simp only [Ex, ExL_eq]; rfl
theorem Exp.ext_iff {x y : Exp} : x = y ↔ x.kind = y.kind ∧ x.n = y.n ∧ x.pos = y.pos ∧ x.type = y.type ∧ x.sym = y.sym ∧ x.name = y.name ∧ x.args = y.args := by
  cases x; cases y
  simp [Exp.kind, Exp.n, Exp.pos, Exp.type, Exp.sym, Exp.name, Exp.args]
mutual
theorem Exp.indA {p : Exp → Prop} (h : ∀ e, (∀ a ∈ e.args, p a) → p e) : ∀ e, p e
  | .mk k n q t s m a => h _ (Exp.indL h a)
theorem Exp.indL {p : Exp → Prop} (h : ∀ e, (∀ a ∈ e.args, p a) → p e) : ∀ (l : List Exp), ∀ a ∈ l, p a
  | [], a, hm => by cases hm
  | e :: l, a, hm => by
    have he : p e := Exp.indA h e
    have hl := Exp.indL h l
    rcases List.mem_cons.1 hm with rfl | hm
    · exact he
    · exact hl a hm
end
mutual
def wEx : Exp → Nat
  | .mk _ _ _ _ s m a => (chars s).length + (chars m).length + (a.length + wExL a)
def wExL : List Exp → Nat
  | [] => 0
  | e :: l => wEx e + wExL l
end
theorem wExL_eq (l : List Exp) : wExL l = (l.map wEx).sum := by
  induction l with
  | nil => rfl
  | cons e l ih => simp [wExL, ih]
theorem wEx_eq (e : Exp) : wEx e = (chars e.sym).length + (chars e.name).length + wtS wEx e.args := by
  cases e; simp only [wEx, wExL_eq, wtS]; rfl
mutual
def okE : Exp → Prop
  | .mk _ _ _ _ s m a => s.size ≤ maxLen ∧ m.size ≤ maxLen ∧ okEL a
def okEL : List Exp → Prop
  | [] => True
  | e :: l => okE e ∧ okEL l
end
theorem okEL_eq {l : List Exp} : okEL l ↔ ∀ a ∈ l, okE a := by
  induction l with
  | nil => simp [okEL]
  | cons e l ih => simp [okEL, ih]
theorem okE_eq {e : Exp} : okE e ↔ e.sym.size ≤ maxLen ∧ e.name.size ≤ maxLen ∧ ∀ a ∈ e.args, okE a := by
  cases e; simp only [okE, okEL_eq]; rfl
mutual
instance decExp : (x y : Exp) → Decidable (x = y)
  | .mk k n p t s m a, .mk k' n' p' t' s' m' a' =>
    match decExpL a a' with
    | isTrue h => decidable_of_iff (k = k' ∧ n = n' ∧ p = p' ∧ t = t' ∧ s = s' ∧ m = m') (by simp [h])
    | isFalse h => isFalse (by simp [h])
instance decExpL : (x y : List Exp) → Decidable (x = y)
  | [], [] => isTrue rfl
  | [], _ :: _ => isFalse (by simp)
  | _ :: _, [] => isFalse (by simp)
  | e :: l, e' :: l' => match decExp e e', decExpL l l' with
    | isTrue h, isTrue h' => isTrue (by rw [h, h'])
    | isFalse h, _ => isFalse (by simp [h])
    | _, isFalse h => isFalse (by simp [h])
end
theorem args_small {e : Exp} (h : wEx e ≤ 1048576) : e.args.length ≤ 1048576 ∧ ∀ a ∈ e.args, wEx a ≤ 1048576 := by
  rw [wEx_eq] at h
  simp only [wtS] at h
  refine ⟨by omega, fun a ha => ?_⟩
  have := sum_mem wEx e.args a ha
  omega
theorem isAgg_Ex (e : Exp) : isAgg (Ex e) = true := by rw [Ex_eq]; rfl
theorem geR_Ex (e : Exp) : geR (some (Ex e)) = some (Ex e) := by rw [Ex_eq]; rfl
theorem gsize_Ex (e : Exp) : gsize (Ex e) = 7 := by rw [Ex_eq]; rfl
theorem stor_Ex (e : Exp) : storable (Ex e) = true := by rw [Ex_eq]; rfl
theorem view_Ex (e : Exp) : view (Ex e) = Ex e := by rw [Ex_eq]; rfl
end Go.Gh

/- Arguments of recursive types, seen as ghosts. -/
namespace Go.Gh
open Go.RowKit Go.ChangeShapes Go.WideShapes Go.Deep
theorem open_sliceF {H : Type} {enc : TypeId × Value → H} {P : Program} {w : World} {base : Nat} {spare : Nat → Bool} {held : Bool} {t e : TypeId} {fuel : Nat} {cs : List Value} {x : DataW H × List MemPlace}
    (ht : P.underlying t = some (.slice e)) (h : DataW.trod enc P w base spare held fuel t cs = some x) :
    cs = [.slice none 0 0] ∨ ∃ (a : Addr) (len cap n : Nat), fuel = n + 1 ∧ cs = [.slice (some a) len cap] ∧ len ≤ cap ∧ cap ≤ maxLen ∧
      ∀ i, i < len → ∃ cs' y, w.cells? base (a.add (i * P.cellsOf e)) (P.cellsOf e) = some cs' ∧ DataW.trod enc P w base spare held n e cs' = some y := by
  rcases DataW.trod_slice ht h with h0 | ⟨a, len, cap, elems, rest, n, hn, rfl, rfl, hb, hl, hm, hlen, hel, hsp, hns⟩
  · exact .inl h0.1
  refine .inr ⟨a, len, cap, n, hn, rfl, hl, hm, fun i hi => ?_⟩
  have key := hel i hi
  rw [List.getElem?_eq_getElem (by omega)] at key
  obtain ⟨cs', h1, h2⟩ := Option.bind_eq_some_iff.1 key
  exact ⟨cs', _, h1, h2⟩
theorem Lf.mono1 {W : World} {t u : Ty} {cs : List Value} (h : Lf W [t] cs) (hq : ∀ g, CT t g → CT u g) : Lf W [u] cs := by
  obtain ⟨gs, h1, h2, h3⟩ := h
  simp only [CTs] at h2
  obtain ⟨g, gs', rfl, h2, rfl⟩ := h2
  exact ⟨[g], h1, by simp only [CTs]; exact ⟨g, [], rfl, hq g h2, rfl⟩, h3⟩
theorem slice_lf {P : Program} {W : World} {ag : Bool} {ts : List Ty} {e : TypeId} {a : Addr} {len cap : Nat} (hone : ag = false → ts.length = 1) (hsz : ts.length = P.cellsOf e) (hpos : 0 < ts.length)
    (hl : len ≤ cap) (hcap : cap ≤ maxLen) (hel : ∀ i, i < len → ∃ cs', W.cells? 0 (a.add (i * P.cellsOf e)) (P.cellsOf e) = some cs' ∧ Lf W ts cs') : Lf W [.sl ag ts] [.slice (some a) len cap] := by
  obtain ⟨es, cells, h1, h2, h3, h4⟩ := elems_ok (W := W) (a := a) (sz := P.cellsOf e) (Q := ET ag ts) len fun i hi => by
    obtain ⟨cs', k1, gs, m1, m2, m3⟩ := hel i hi
    refine ⟨cs', k1, ?_⟩
    cases ag
    · have hg := ML.len _ _ _ m1
      have hg2 := m2.len
      have hone := hone rfl
      match gs, cs', m1, hg, hg2 with
      | [g], [u], m1, _, _ =>
        simp only [ML] at m1
        obtain ⟨v', us, F1, F2, q1, q2, q3, q4, q5⟩ := m1
        have q6 : F1 = [] ∧ F2 = [] := by simpa using q2.symm
        obtain ⟨rfl, rfl⟩ := q6
        simp only [List.cons.injEq] at q1
        obtain ⟨rfl, rfl⟩ := q1
        have hu : u.cells = #[u] := cells1 (m3 u (by simp))
        exact ⟨u, g, by simp [hu], fun x hx => by rw [hu] at hx; simp at hx; subst hx; exact m3 _ (by simp), q3, [g], m2, by simp⟩
      | [], _, _, _, hg2 => simp at hg2; omega
      | _ :: _ :: _, _, _, _, hg2 => simp at hg2; omega
      | [_], [], _, hg, _ => simp at hg
      | [_], _ :: _ :: _, _, hg, _ => simp at hg
    · exact ⟨.agg cs'.toArray, .agg gs, by simp [Value.cells], fun x hx => m3 x (by simpa [Value.cells] using hx), by simp only [MV]; exact ⟨cs', rfl, m3, m1⟩, gs, m2, by simp⟩
  refine .one (g := .sl ts.length es) ?_ (by simp only [CT]; exact ⟨es, rfl, by simp only [maxL, maxLen] at *; omega, h3⟩) rfl
  simp only [MV]
  refine ⟨trivial, ?_⟩
  cases len with
  | zero =>
    left
    have : es = [] := by simpa using h1
    exact ⟨this, _, _, rfl⟩
  | succ len =>
    right
    have hl2 := MF.len _ _ _ _ h2
    have hpos : 0 < cells.length := by rw [hl2, h1, ← hsz]; exact Nat.mul_pos (by omega) hpos
    have h0 := h4 0 cells[0] (by simp [hpos])
    simp only [Addr.add, if_true] at h0
    unfold World.cell? at h0
    split at h0
    case h_2 => cases h0
    rename_i c T fz hb
    split at h0
    · cases h0
    rename_i hsp
    have hsp' : a.spot = none := by cases hs : a.spot <;> simp [hs] at hsp ⊢
    obtain ⟨ab, ao, ax⟩ := a
    simp only at hsp' hb h0
    subst hsp'
    refine ⟨ab, ao, cap, cells, by rw [h1], by omega, by simp only [maxL, maxLen] at *; omega, lt_of_heap hb, ⟨c, T, fz, hb, fun j u hj => ?_⟩, by rw [hsz]; exact h2⟩
    have := h4 j u hj
    rw [add_none] at this
    simpa [World.cell?, hb] using this
def tyR (P : Program) (R : TypeId → Option (GV → Prop)) : Nat → TypeId → Option (Bool × List Ty)
  | 0, _ => none
  | n + 1, t => match R t with
    | some Q => some (false, [.pr Q])
    | none => match P.underlying t with
      | some .bool => some (false, [.bool])
      | some (.int k) => some (false, [.int k])
      | some .string => some (false, [.str])
      | some (.slice e) => match tyR P R n e with
        | some (ag, ts) => if ts.length = P.cellsOf e ∧ 0 < ts.length then some (false, [.sl ag ts]) else none
        | none => none
      | some (.struct fs) => match fieldsTy P (tyR P R n) fs.toList 0 with
        | some ts => if ts.length = P.cellsOf t then some (true, ts) else none
        | none => none
      | _ => none
theorem tyR_one {P : Program} {R : TypeId → Option (GV → Prop)} : ∀ {n : Nat} {t : TypeId} {ts : List Ty}, tyR P R n t = some (false, ts) → ts.length = 1
  | 0, _, _, h => by simp [tyR] at h
  | n + 1, t, ts, he => by
    unfold tyR at he
    split at he
    · simp only [Option.some.injEq, Prod.mk.injEq] at he; rw [← he.2]; rfl
    split at he
    · simp only [Option.some.injEq, Prod.mk.injEq] at he; rw [← he.2]; rfl
    · simp only [Option.some.injEq, Prod.mk.injEq] at he; rw [← he.2]; rfl
    · simp only [Option.some.injEq, Prod.mk.injEq] at he; rw [← he.2]; rfl
    · split at he
      · split at he
        · simp only [Option.some.injEq, Prod.mk.injEq] at he; rw [← he.2]; rfl
        · cases he
      · cases he
    · split at he
      · split at he
        · simp only [Option.some.injEq, Prod.mk.injEq] at he; cases he.1
        · cases he
      · cases he
    · cases he
theorem liftR {H : Type} {enc : TypeId × Value → H} {P : Program} {W : World} {spare : Nat → Bool} {held : Bool} {R : TypeId → Option (GV → Prop)} : ∀ (n : Nat) {t : TypeId} {ag : Bool} {ts : List Ty} {fuel : Nat} {cs : List Value} {x : DataW H × List MemPlace},
    (∀ f, f ≤ fuel → ∀ t Q cs x, R t = some Q → DataW.trod enc P W 0 spare held f t cs = some x → Lf W [.pr Q] cs) →
    tyR P R n t = some (ag, ts) → DataW.trod enc P W 0 spare held fuel t cs = some x → Lf W ts cs
  | 0, _, _, _, _, _, _, _, h, _ => by simp [tyR] at h
  | n + 1, t, ag, ts, fuel, cs, x, hR, h, hx => by
    unfold tyR at h
    split at h
    · rename_i Q hq
      simp only [Option.some.injEq, Prod.mk.injEq] at h
      obtain ⟨rfl, rfl⟩ := h
      exact hR fuel (Nat.le_refl _) t Q cs x hq hx
    split at h
    · rename_i ht
      simp only [Option.some.injEq, Prod.mk.injEq] at h
      obtain ⟨rfl, rfl⟩ := h
      obtain ⟨b, rfl, _⟩ := DataW.trod_bool ht hx
      exact .one .val0 ⟨b, rfl⟩ rfl
    · rename_i k ht
      simp only [Option.some.injEq, Prod.mk.injEq] at h
      obtain ⟨rfl, rfl⟩ := h
      obtain ⟨b, rfl, _, hw⟩ := DataW.trod_int ht hx
      exact .one .val0 ⟨b, rfl, hw⟩ rfl
    · rename_i ht
      simp only [Option.some.injEq, Prod.mk.injEq] at h
      obtain ⟨rfl, rfl⟩ := h
      obtain ⟨b, rfl, _, hw⟩ := DataW.trod_string ht hx
      exact .one .val0 ⟨b, rfl, hw⟩ rfl
    · rename_i e ht
      split at h
      case h_2 => cases h
      rename_i ag' ts' he
      split at h
      case isFalse => cases h
      rename_i hc
      simp only [Option.some.injEq, Prod.mk.injEq] at h
      obtain ⟨rfl, rfl⟩ := h
      rcases open_sliceF ht hx with rfl | ⟨a, len, cap, n', rfl, rfl, hl, hcap, hel⟩
      · exact .one (g := .sl ts'.length []) (by simp only [MV]; exact ⟨trivial, .inl ⟨trivial, _, _, rfl⟩⟩) (by simp only [CT]; exact ⟨[], rfl, by simp [maxL], by simp⟩) rfl
      · refine slice_lf (fun ha => tyR_one (by rw [← ha]; exact he)) hc.1 hc.2 hl hcap fun i hi => ?_
        obtain ⟨cs', y, k1, k2⟩ := hel i hi
        exact ⟨cs', k1, liftR n (fun f hf => hR f (by omega)) he k2⟩
    · rename_i fs ht
      split at h
      case h_2 => cases h
      rename_i ts' hfs
      split at h
      case isFalse => cases h
      rename_i hlen
      simp only [Option.some.injEq, Prod.mk.injEq] at h
      obtain ⟨rfl, rfl⟩ := h
      obtain ⟨xs, n', hn, _, hl, hxs, hf⟩ := DataW.trod_struct ht hx
      have := fields_ok (W := W) (cs := cs) hfs fun f hfm a us hus => by
        obtain ⟨i, hi, hif⟩ := List.mem_iff_getElem.1 hfm
        have hi' : i < fs.size := by simpa using hi
        have := hf i f (by rw [← hif]; simp [hi'])
        rw [List.getElem?_eq_getElem (by omega)] at this
        exact liftR n (fun f hf => hR f (by omega)) hus this
      rw [List.drop_zero, List.take_of_length_le (by omega)] at this
      exact this
    · cases h
theorem knot {H : Type} {enc : TypeId × Value → H} {P : Program} {W : World} {spare : Nat → Bool} {held : Bool} {tA tE : TypeId} {Q : GV → Prop} (k : Nat) {ag : Bool} {ts : List Ty}
    (hA : P.underlying tA = some (.slice tE)) (hE : tyR P (fun t => if t = tA then some Q else none) k tE = some (ag, ts)) (hsz : ts.length = P.cellsOf tE) (hpos : 0 < ts.length)
    (hQ : ∀ g, CT (.sl ag ts) g → Q g) : ∀ fuel t Q' cs x, (fun t => if t = tA then some Q else none) t = some Q' → DataW.trod enc P W 0 spare held fuel t cs = some x → Lf W [.pr Q'] cs := by
  intro fuel
  induction fuel using Nat.strongRecOn with
  | ind fuel ih =>
    intro t Q' cs x ht hx
    simp only at ht
    split at ht
    case isFalse => cases ht
    rename_i hta
    subst hta
    simp only [Option.some.injEq] at ht
    subst ht
    refine Lf.mono1 (t := .sl ag ts) ?_ fun g hg => by simp only [CT]; exact hQ g hg
    rcases open_sliceF hA hx with rfl | ⟨a, len, cap, n', rfl, rfl, hl, hcap, hel⟩
    · exact .one (g := .sl ts.length []) (by simp only [MV]; exact ⟨trivial, .inl ⟨trivial, _, _, rfl⟩⟩) (by simp only [CT]; exact ⟨[], rfl, by simp [maxL], by simp⟩) rfl
    · refine slice_lf (fun ha => tyR_one (by rw [← ha]; exact hE)) hsz hpos hl hcap fun i hi => ?_
      obtain ⟨cs', y, k1, k2⟩ := hel i hi
      exact ⟨cs', k1, liftR k (fun f hf => ih f (by omega)) hE k2⟩
theorem lift_valR {H : Type} {enc : TypeId × Value → H} {P : Program} {W : World} {spare : Nat → Bool} {held : Bool} {r : Reach} {b0 : Nat} {R : TypeId → Option (GV → Prop)} (n : Nat) {t : TypeId} {ag : Bool} {ts : List Ty} {v : Value} {d : DataW H} {ps : List MemPlace}
    (hR : ∀ f, ∀ t Q cs x, R t = some Q → DataW.trod enc P W 0 spare held f t cs = some x → Lf W [.pr Q] cs)
    (hn : R t = none) (ht : tyR P R n t = some (ag, ts)) (hv : Value.okWide P W r b0 t v) (hx : DataW.Trod enc P W 0 spare held t v d ps) : ∃ g, MV W (below W) g v [] ∧ ET ag ts g := by
  obtain ⟨fuel, hx⟩ := hx
  obtain ⟨gs, h1, h2, h3⟩ := liftR n (fun f _ => hR f) ht hx
  cases n with
  | zero => simp [tyR] at ht
  | succ n =>
  have leaf : ag = false → v.oneCell' = true → ∃ g, MV W (below W) g v [] ∧ ET ag ts g := by
    intro ha hv1
    subst ha
    rw [cells1 hv1] at h1
    match gs, h1 with
    | [g], h1 =>
      simp only [ML] at h1
      obtain ⟨v', us, F1, F2, q1, q2, q3, q4, q5⟩ := h1
      have q6 : F1 = [] ∧ F2 = [] := by simpa using q2.symm
      obtain ⟨rfl, rfl⟩ := q6
      simp only [List.cons.injEq] at q1
      obtain ⟨rfl, rfl⟩ := q1
      exact ⟨g, q3, [g], h2, by simp⟩
    | [], h1 => have := ML.len _ _ _ h1; simp at this
    | _ :: _ :: _, h1 => have := ML.len _ _ _ h1; simp at this
  unfold tyR at ht
  split at ht
  · rename_i Q hq
    rw [hn] at hq; cases hq
  split at ht
  · rename_i hu
    simp only [Option.some.injEq, Prod.mk.injEq] at ht
    refine leaf ht.1.symm ?_
    simp only [Value.okWide, hu, Cell.okWide] at hv
    cases v <;> simp_all [Cell.ok, Value.oneCell']
  · rename_i k hu
    simp only [Option.some.injEq, Prod.mk.injEq] at ht
    refine leaf ht.1.symm ?_
    simp only [Value.okWide, hu, Cell.okWide] at hv
    cases v <;> simp_all [Cell.ok, Value.oneCell']
  · rename_i hu
    simp only [Option.some.injEq, Prod.mk.injEq] at ht
    refine leaf ht.1.symm ?_
    simp only [Value.okWide, hu, Cell.okWide] at hv
    cases v <;> simp_all [Cell.ok, Value.oneCell']
  · rename_i e hu
    have ha : ag = false := by
      split at ht
      · split at ht
        · simp only [Option.some.injEq, Prod.mk.injEq] at ht; exact ht.1.symm
        · cases ht
      · cases ht
    refine leaf ha ?_
    simp only [Value.okWide, hu, Cell.okWide] at hv
    cases v <;> simp_all [Cell.ok, Value.oneCell']
  · rename_i fs hu
    have ha : ag = true := by
      split at ht
      · split at ht
        · simp only [Option.some.injEq, Prod.mk.injEq] at ht; exact ht.1.symm
        · cases ht
      · cases ht
    subst ha
    obtain ⟨cs, rfl, _⟩ := okWide_struct hu hv
    exact ⟨.agg gs, by simp only [MV]; exact ⟨cs.toList, by simp, fun x hx => h3 x (by simpa [Value.cells] using hx), by simpa [Value.cells] using h1⟩, gs, h2, by simp⟩
  · cases ht
end Go.Gh

/- Expressions as arguments of statements. -/
namespace Go.Gh
set_option linter.unusedSimpArgs false
set_option linter.unusedVariables false
def ExQ (g : GV) : Prop := ∃ l : List Exp, g = ExS l ∧ ∀ a ∈ l, okE a
abbrev ExT : List Ty := [.int .i64, .int .i64, .int .i64, .int .i64, .str, .str, .pr ExQ]
theorem t_Exp {g : GV} (h : ET true ExT g) : ∃ e : Exp, g = Ex e ∧ okE e := by
  obtain ⟨gs, k1, k2⟩ := h
  simp only [CTs, CT, ExQ] at k1
  obtain ⟨_, _, rfl, ⟨k, rfl, _⟩, _, _, rfl, ⟨n, rfl, _⟩, _, _, rfl, ⟨p, rfl, _⟩, _, _, rfl, ⟨t, rfl, _⟩, _, _, rfl, ⟨s, rfl, hs⟩, _, _, rfl, ⟨m, rfl, hm⟩, _, _, rfl, ⟨l, rfl, hl⟩, rfl⟩ := k1
  refine ⟨.mk k n p t s m l, ?_, okE_eq.2 ⟨hs, hm, hl⟩⟩
  rw [Ex_eq]
  exact k2
theorem exQ {g : GV} (h : CT (.sl true ExT) g) : ExQ g := by
  obtain ⟨l, rfl, hl⟩ := c_sl h fun e he => t_Exp he
  exact ⟨l, rfl, hl⟩
end Go.Gh

/- Values and operators, as plain functions. -/
namespace Go.Gh
set_option linter.unusedSimpArgs false
set_option linter.unusedVariables false
def satV (n : Int) : Int := max (-1000000) (min 1000000 n)
def trV (b : Bool) : Int := if b then 1 else 0
def coV (v k : Int) : Int := if k = 1 then satV v else if k = 2 then andI .i64 v 4095 else if k = 3 then trV (!decide (v = 0)) else if k = 4 ∧ 0 ≤ v ∧ v ≤ 999 then v else 0
def opT (op : Int) : Int × Int × Int :=
  if 1 ≤ op ∧ op ≤ 5 then (1, 1, 1) else if 6 ≤ op ∧ op ≤ 8 then (2, 2, 2) else if op = 9 ∨ op = 10 then (1, 1, 3) else if op = 11 then (2, 1, 3) else if op = 12 then (2, 1, 2) else (0, 0, 0)
abbrev opG (op : Int) : GV := .tup [I (opT op).1, I (opT op).2.1, I (opT op).2.2]
def okV (v k : Int) : Bool := decide (1 ≤ k ∧ k ≤ 4) && decide (coV v k = v)
theorem opG0 {op : Int} (h : ¬(1 ≤ op ∧ op ≤ 12)) : opG op = .tup [I 0, I 0, I 0] := by
  have : opT op = (0, 0, 0) := by
    unfold opT
    rw [if_neg (by omega), if_neg (by omega), if_neg (by omega), if_neg (by omega), if_neg (by omega)]
  simp only [opG, this]
end Go.Gh

/- Counts of an expression. -/
namespace Go.Gh
set_option linter.unusedSimpArgs false
set_option linter.unusedVariables false
mutual
def cntE : Exp → Nat
  | .mk _ _ _ _ _ _ a => 1 + cntEL a
def cntEL : List Exp → Nat
  | [] => 0
  | e :: l => cntE e + cntEL l
end
theorem cntEL_eq (l : List Exp) : cntEL l = (l.map cntE).sum := by
  induction l with
  | nil => rfl
  | cons e l ih => simp [cntEL, ih]
theorem cntE_eq (e : Exp) : cntE e = 1 + (e.args.map cntE).sum := by
  cases e; simp only [cntE, cntEL_eq]; rfl
theorem cntE_le : ∀ e, cntE e ≤ wEx e + 1 := by
  refine Exp.indA fun e ih => ?_
  rw [cntE_eq, wEx_eq]
  have : ∀ l : List Exp, (∀ a ∈ l, cntE a ≤ wEx a + 1) → (l.map cntE).sum ≤ l.length + (l.map wEx).sum := by
    intro l
    induction l with
    | nil => intro _; simp
    | cons a l ih =>
      intro h
      have h1 := h a (by simp)
      have h2 := ih fun b hb => h b (by simp [hb])
      simp only [List.map_cons, List.sum_cons, List.length_cons]; omega
  have := this e.args ih
  simp only [wtS]; omega
theorem sumT (f : Exp → Nat) (l : List Exp) (i : Nat) (h : i < l.length) : ((l.take (i + 1)).map f).sum = ((l.take i).map f).sum + f l[i] := psum_succ f l i h
theorem sumT_le (f : Exp → Nat) (l : List Exp) (i : Nat) : ((l.take i).map f).sum ≤ (l.map f).sum := psum_le f l i
def mxL : List Nat → Nat
  | [] => 0
  | a :: l => max a (mxL l)
theorem mxL_app (l m : List Nat) : mxL (l ++ m) = max (mxL l) (mxL m) := by
  induction l with
  | nil => simp [mxL]
  | cons a l ih => simp only [List.cons_append, mxL, ih]; omega
theorem mxL_le (l : List Nat) : mxL l ≤ l.sum := by
  induction l with
  | nil => simp [mxL]
  | cons a l ih => simp only [mxL, List.sum_cons]; omega
mutual
def dpE : Exp → Nat
  | .mk _ _ _ _ _ _ a => 1 + dpEL a
def dpEL : List Exp → Nat
  | [] => 0
  | e :: l => max (dpE e) (dpEL l)
end
theorem dpEL_eq (l : List Exp) : dpEL l = mxL (l.map dpE) := by
  induction l with
  | nil => rfl
  | cons e l ih => simp [dpEL, mxL, ih]
theorem dpE_eq (e : Exp) : dpE e = 1 + mxL (e.args.map dpE) := by
  cases e; simp only [dpE, dpEL_eq]; rfl
theorem sumL_le {l : List Exp} {f g : Exp → Nat} (h : ∀ a ∈ l, f a ≤ g a) : (l.map f).sum ≤ (l.map g).sum := by
  induction l with
  | nil => simp
  | cons a l ih =>
    have h1 := h a (by simp)
    have h2 := ih fun b hb => h b (by simp [hb])
    simp only [List.map_cons, List.sum_cons]; omega
theorem dpE_le : ∀ e, dpE e ≤ cntE e := by
  refine Exp.indA fun e ih => ?_
  rw [cntE_eq, dpE_eq]
  have h1 := mxL_le (e.args.map dpE)
  have h2 := sumL_le ih
  omega
theorem mxT (f : Exp → Nat) (l : List Exp) (i : Nat) (h : i < l.length) : mxL ((l.take (i + 1)).map f) = max (mxL ((l.take i).map f)) (f l[i]) := by
  rw [List.take_succ_eq_append_getElem h, List.map_append, mxL_app]; simp [mxL]
theorem mxT_le (f : Exp → Nat) (l : List Exp) (i : Nat) : mxL ((l.take i).map f) ≤ (l.map f).sum :=
  Nat.le_trans (mxL_le _) (sumT_le f l i)
end Go.Gh

/- Predicates on all nodes of an expression. -/
namespace Go.Gh
set_option linter.unusedSimpArgs false
set_option linter.unusedVariables false
mutual
def allE (p : Exp → Bool) : Exp → Bool
  | .mk k n q t s m a => p (.mk k n q t s m a) && allEL p a
def allEL (p : Exp → Bool) : List Exp → Bool
  | [] => true
  | e :: l => allE p e && allEL p l
end
theorem allEL_eq (p : Exp → Bool) (l : List Exp) : allEL p l = l.all (allE p) := by
  induction l with
  | nil => rfl
  | cons e l ih => simp [allEL, ih]
theorem allE_eq (p : Exp → Bool) (e : Exp) : allE p e = (p e && e.args.all (allE p)) := by
  cases e; simp only [allE, allEL_eq]; rfl
theorem any_ix {α : Type} (p : α → Bool) (l : List α) : decide (0 ≤ ixOf p l) = l.any p := by
  unfold ixOf
  cases h : l.findIdx? p with
  | none =>
    have := List.findIdx?_eq_none_iff.1 h
    simp; exact this
  | some i =>
    obtain ⟨h1, h2, _⟩ := List.findIdx?_eq_some_iff_getElem.1 h
    simp
    exact ⟨l[i], List.getElem_mem h1, h2⟩
theorem any_not {α : Type} (p : α → Bool) (l : List α) : (!l.any fun a => !p a) = l.all p := by
  induction l with
  | nil => rfl
  | cons a l ih => simp only [List.any_cons, List.all_cons, Bool.not_or, Bool.not_not, ih]
theorem all_take {p : Exp → Bool} {l : List Exp} {i : Nat} (h : i < l.length) (hp : p l[i] = true) (hn : ∀ a ∈ l.take i, p a = true) : ∀ a ∈ l.take (i + 1), p a = true := by
  intro a ha
  rw [List.take_add_one, List.getElem?_eq_getElem h, Option.toList_some, List.mem_append] at ha
  rcases ha with ha | ha
  · exact hn a ha
  · simp only [List.mem_singleton] at ha; rw [ha]; exact hp
end Go.Gh

/- Names. -/
namespace Go.Gh
set_option linter.unusedSimpArgs false
set_option linter.unusedVariables false
def letV (c : UInt8) : Bool := decide (97 ≤ (c.toNat : Int)) && decide ((c.toNat : Int) ≤ 122)
def digV (c : UInt8) : Bool := decide (48 ≤ (c.toNat : Int)) && decide ((c.toNat : Int) ≤ 57)
def kwS : List ByteArray := [⟨#[105, 102]⟩, ⟨#[116, 104, 101, 110]⟩, ⟨#[101, 108, 115, 101]⟩, ⟨#[116, 114, 117, 101]⟩, ⟨#[102, 97, 108, 115, 101]⟩, ⟨#[108, 105, 116]⟩, ⟨#[110, 111, 110, 101]⟩,
  ⟨#[115, 101, 108, 102]⟩, ⟨#[111, 102]⟩, ⟨#[109, 97, 120]⟩, ⟨#[109, 105, 110]⟩, ⟨#[119, 105, 116, 104]⟩, ⟨#[104, 97, 115]⟩]
def hasS (l : List ByteArray) (s : ByteArray) : Bool := l.any fun x => decide (x = s)
theorem hasS_hit {l : List ByteArray} {s : ByteArray} {i : Nat} (h : i < l.length) (e : l[i] = s) : hasS l s = true := by
  simp only [hasS, List.any_eq_true]; exact ⟨l[i], List.getElem_mem h, by simp [e]⟩
theorem hasS_none {l : List ByteArray} {s : ByteArray} (h : ∀ x ∈ l, decide (x = s) = false) : hasS l s = false := by
  simp only [hasS, List.any_eq_false]; intro x hx; simpa using h x hx
def resV (s : ByteArray) : Bool := hasS kwS s
def shp : List UInt8 → Bool
  | [] => false
  | c :: l => letV c && l.all fun c => letV c || digV c
theorem shp_iff (l : List UInt8) : shp l = true ↔ 0 < l.length ∧ ∀ (j : Nat) (h : j < l.length), letV l[j] = true ∨ (j ≠ 0 ∧ digV l[j] = true) := by
  cases l with
  | nil => simp [shp]
  | cons c l =>
    simp only [shp, Bool.and_eq_true, List.all_eq_true, Bool.or_eq_true, List.length_cons]
    constructor
    · rintro ⟨h1, h2⟩
      refine ⟨by omega, fun j hj => ?_⟩
      cases j with
      | zero => exact .inl h1
      | succ j =>
        have := h2 l[j] (List.getElem_mem _)
        simp only [List.getElem_cons_succ]
        rcases this with h | h
        · exact .inl h
        · exact .inr ⟨by omega, h⟩
    · rintro ⟨_, h⟩
      constructor
      · have := h 0 (by omega)
        simpa using this
      · intro x hx
        obtain ⟨j, hj, rfl⟩ := List.mem_iff_getElem.1 hx
        have := h (j + 1) (by omega)
        simp only [List.getElem_cons_succ] at this
        rcases this with h | h
        · exact .inl h
        · exact .inr h.2
def nameV (s : ByteArray) : Bool := shp (chars s) && decide ((chars s).length ≤ 8) && !resV s
end Go.Gh

/- Names: steps. -/
namespace Go.Gh
set_option linter.unusedSimpArgs false
set_option linter.unusedVariables false
theorem shp_bad {l : List UInt8} {i : Nat} (h : i < l.length) (h1 : ¬(letV l[i] = true ∨ (i ≠ 0 ∧ digV l[i] = true))) : shp l = false := by
  cases hs : shp l with
  | false => rfl
  | true => exact absurd (((shp_iff l).1 hs).2 i h) h1
theorem shp_step {l : List UInt8} {i : Nat} (h : i < l.length) (hn : ∀ (j : Nat) (h : j < l.length), j < i → letV l[j] = true ∨ (j ≠ 0 ∧ digV l[j] = true)) (hg : letV l[i] = true ∨ (i ≠ 0 ∧ digV l[i] = true)) :
    ∀ (j : Nat) (h : j < l.length), j < i + 1 → letV l[j] = true ∨ (j ≠ 0 ∧ digV l[j] = true) := by
  intro j hj hji
  by_cases e : j = i
  · subst e; exact hg
  · exact hn j hj (by omega)
theorem shp_end {l : List UInt8} (hn : ∀ (j : Nat) (h : j < l.length), j < l.length → letV l[j] = true ∨ (j ≠ 0 ∧ digV l[j] = true)) : shp l = decide (0 < l.length) := by
  by_cases h : 0 < l.length
  · rw [decide_eq_true h]; exact (shp_iff l).2 ⟨h, fun j hj => hn j hj hj⟩
  · rw [decide_eq_false h]
    cases l with
    | nil => rfl
    | cons a l => simp at h
end Go.Gh

/- Valid nodes. -/
namespace Go.Gh
set_option linter.unusedSimpArgs false
set_option linter.unusedVariables false
def arity (k : Int) : Nat := if k = 4 then 2 else if k = 5 then 3 else if k = 8 then 1 else 0
def noS : ByteArray := ⟨#[]⟩
def bareV (e : Exp) : Bool :=
  decide (e.args.length = arity e.kind) && (decide (e.kind = 3 ∨ e.kind = 6) || decide (e.pos = 0)) && (decide (e.kind = 3 ∨ e.kind = 8) || decide (e.name = noS)) && (decide (e.kind = 1 ∨ e.kind = 4) || decide (e.n = 0)) &&
  (decide (e.kind = 1) || decide (e.type = 0)) && (decide (e.kind = 8) || decide (e.sym = noS))
end Go.Gh

/- Symbols, rules and grammars as plain data, and their ghosts. -/
namespace Go.Gh
set_option linter.unusedSimpArgs false
set_option linter.unusedVariables false
theorem nraw_Ex (e : Exp) : nraw (Ex e) = true := by rw [Ex_eq]; rfl
theorem clean_Ex (e : Exp) : clean (Ex e) = true := by rw [Ex_eq]; rfl
theorem sub_Ex0 (e : Exp) : sub (Ex e) 0 1 false = some (I e.kind) := by rw [Ex_eq]; rfl
theorem sub_Ex1 (e : Exp) : sub (Ex e) 1 1 false = some (I e.n) := by rw [Ex_eq]; rfl
theorem sub_Ex2 (e : Exp) : sub (Ex e) 2 1 false = some (I e.pos) := by rw [Ex_eq]; rfl
theorem sub_Ex3 (e : Exp) : sub (Ex e) 3 1 false = some (I e.type) := by rw [Ex_eq]; rfl
theorem sub_Ex4 (e : Exp) : sub (Ex e) 4 1 false = some (T e.sym) := by rw [Ex_eq]; rfl
theorem sub_Ex5 (e : Exp) : sub (Ex e) 5 1 false = some (T e.name) := by rw [Ex_eq]; rfl
theorem sub_Ex6 (e : Exp) : sub (Ex e) 6 1 false = some (ExS e.args) := by rw [Ex_eq]; rfl
theorem fold_Ex (e : Exp) : GV.agg [I e.kind, I e.n, I e.pos, I e.type, T e.sym, T e.name, .sl 7 (e.args.map Ex)] = Ex e := (Ex_eq e).symm
abbrev ExC (e : Exp) : List GV := [I e.kind, I e.n, I e.pos, I e.type, T e.sym, T e.name, ExS e.args]
theorem upd_Ex (gs : List GV) (o : Nat) (e : Exp) : upd (.agg gs) o (Ex e) = if o + 7 ≤ gs.length then some (.agg (gs.take o ++ (ExC e ++ gs.drop (o + 7)))) else none := by rw [Ex_eq]; rfl
theorem upd_ExO (e : Exp) (o r sz k n : Nat) : upd (Ex e) o (.own r sz k n) = if o < 7 then some (.agg ((ExC e).set o (.own r sz k n))) else none := by rw [Ex_eq]; rfl
theorem XE : type_of% (And.intro @isAgg_Ex (And.intro @geR_Ex (And.intro @gsize_Ex (And.intro @stor_Ex (And.intro @nraw_Ex (And.intro @clean_Ex (And.intro @sub_Ex0 (And.intro @sub_Ex1 (And.intro @sub_Ex2 (And.intro @sub_Ex3 (And.intro @sub_Ex4 (And.intro @sub_Ex5 (And.intro @sub_Ex6 (And.intro @fold_Ex (And.intro @upd_ExO @upd_Ex))))))))))))))) :=
  And.intro @isAgg_Ex (And.intro @geR_Ex (And.intro @gsize_Ex (And.intro @stor_Ex (And.intro @nraw_Ex (And.intro @clean_Ex (And.intro @sub_Ex0 (And.intro @sub_Ex1 (And.intro @sub_Ex2 (And.intro @sub_Ex3 (And.intro @sub_Ex4 (And.intro @sub_Ex5 (And.intro @sub_Ex6 (And.intro @fold_Ex (And.intro @upd_ExO @upd_Ex))))))))))))))
@[ext] structure Att where
  name : ByteArray
  type : Int
  mode : Int
  circ : Bool
deriving DecidableEq
abbrev At (x : Att) : GV := .agg [T x.name, I x.type, I x.mode, B x.circ]
abbrev AtS (l : List Att) : GV := .sl 4 (l.map At)
abbrev wAt (x : Att) : Nat := (chars x.name).length
@[ext] structure Sym where
  name : ByteArray
  atts : List Att
deriving DecidableEq
abbrev Sy (x : Sym) : GV := .agg [T x.name, AtS x.atts]
abbrev SyS (l : List Sym) : GV := .sl 2 (l.map Sy)
abbrev wSy (x : Sym) : Nat := (chars x.name).length + wtS wAt x.atts
@[ext] structure Eqn where
  pos : Int
  name : ByteArray
  expr : Exp
deriving DecidableEq
abbrev Qn (x : Eqn) : GV := .agg [I x.pos, T x.name, I x.expr.kind, I x.expr.n, I x.expr.pos, I x.expr.type, T x.expr.sym, T x.expr.name, ExS x.expr.args]
abbrev QnS (l : List Eqn) : GV := .sl 9 (l.map Qn)
abbrev wEq (x : Eqn) : Nat := (chars x.name).length + wEx x.expr
@[ext] structure Con where
  sym : ByteArray
  name : ByteArray
  goal : Exp
  value : Exp
deriving DecidableEq
abbrev Co (x : Con) : GV := .agg [T x.sym, T x.name, I x.goal.kind, I x.goal.n, I x.goal.pos, I x.goal.type, T x.goal.sym, T x.goal.name, ExS x.goal.args, I x.value.kind, I x.value.n, I x.value.pos, I x.value.type, T x.value.sym, T x.value.name, ExS x.value.args]
abbrev CoS (l : List Con) : GV := .sl 16 (l.map Co)
abbrev wCo (x : Con) : Nat := (chars x.sym).length + (chars x.name).length + wEx x.goal + wEx x.value
abbrev TS (l : List ByteArray) : GV := .sl 1 (l.map T)
abbrev wT (s : ByteArray) : Nat := (chars s).length
@[ext] structure Rul where
  name : ByteArray
  left : ByteArray
  right : List ByteArray
  lit : Bool
  eqs : List Eqn
  cons : List Con
deriving DecidableEq
abbrev Ru (x : Rul) : GV := .agg [T x.name, T x.left, TS x.right, B x.lit, QnS x.eqs, CoS x.cons]
abbrev RuS (l : List Rul) : GV := .sl 6 (l.map Ru)
abbrev wRu (x : Rul) : Nat := (chars x.name).length + (chars x.left).length + wtS wT x.right + wtS wEq x.eqs + wtS wCo x.cons
@[ext] structure Gram where
  syms : List Sym
  rules : List Rul
deriving DecidableEq
abbrev Gr (g : Gram) : GV := .agg [SyS g.syms, RuS g.rules]
abbrev wGr (g : Gram) : Nat := wtS wSy g.syms + wtS wRu g.rules
def okAt (x : Att) : Prop := x.name.size ≤ maxLen
def okSy (x : Sym) : Prop := x.name.size ≤ maxLen ∧ ∀ a ∈ x.atts, okAt a
def okEq (x : Eqn) : Prop := x.name.size ≤ maxLen ∧ okE x.expr
def okCo (x : Con) : Prop := x.sym.size ≤ maxLen ∧ x.name.size ≤ maxLen ∧ okE x.goal ∧ okE x.value
def okRu (x : Rul) : Prop := x.name.size ≤ maxLen ∧ x.left.size ≤ maxLen ∧ (∀ s ∈ x.right, s.size ≤ maxLen) ∧ (∀ q ∈ x.eqs, okEq q) ∧ ∀ c ∈ x.cons, okCo c
def okGr (g : Gram) : Prop := (∀ s ∈ g.syms, okSy s) ∧ ∀ r ∈ g.rules, okRu r
def smSy (x : Sym) : Prop := x.atts.length ≤ 1048576
def smEq (x : Eqn) : Prop := wEx x.expr ≤ 1048576
def smCo (x : Con) : Prop := wEx x.goal ≤ 1048576 ∧ wEx x.value ≤ 1048576
def smRu (x : Rul) : Prop := x.right.length ≤ 1048576 ∧ x.eqs.length ≤ 1048576 ∧ x.cons.length ≤ 1048576 ∧ (∀ q ∈ x.eqs, smEq q) ∧ ∀ c ∈ x.cons, smCo c
def smGr (g : Gram) : Prop := g.syms.length ≤ 1048576 ∧ g.rules.length ≤ 1048576 ∧ (∀ s ∈ g.syms, smSy s) ∧ ∀ r ∈ g.rules, smRu r
theorem wtS_mem {α : Type} {wt : α → Nat} {l : List α} {n : Nat} (h : wtS wt l ≤ n) : l.length ≤ n ∧ ∀ a ∈ l, wt a ≤ n := by
  simp only [wtS] at h
  exact ⟨by omega, fun a ha => by have := sum_mem wt l a ha; omega⟩
theorem smRu_of {x : Rul} (h : wRu x ≤ 1048576) : smRu x := by
  simp only [wRu] at h
  obtain ⟨h1, _⟩ := wtS_mem (wt := wT) (l := x.right) (n := 1048576) (by omega)
  obtain ⟨h2, h3⟩ := wtS_mem (wt := wEq) (l := x.eqs) (n := 1048576) (by omega)
  obtain ⟨h4, h5⟩ := wtS_mem (wt := wCo) (l := x.cons) (n := 1048576) (by omega)
  exact ⟨h1, h2, h4, fun q hq => by have := h3 q hq; simp only [wEq] at this; unfold smEq; omega, fun c hc => by have := h5 c hc; simp only [wCo] at this; unfold smCo; omega⟩
theorem smGr_of {g : Gram} (h : wGr g ≤ 1048576) : smGr g := by
  simp only [wGr] at h
  obtain ⟨h1, h2⟩ := wtS_mem (wt := wSy) (l := g.syms) (n := 1048576) (by omega)
  obtain ⟨h3, h4⟩ := wtS_mem (wt := wRu) (l := g.rules) (n := 1048576) (by omega)
  refine ⟨h1, h3, fun s hs => ?_, fun r hr => smRu_of (h4 r hr)⟩
  have := h2 s hs
  simp only [wSy, wtS] at this
  unfold smSy; omega
theorem getD_lt {α : Type} {l : List α} {i : Nat} {d : α} (h : i < l.length) : l.getD i d = l[i] := by
  rw [List.getD_eq_getElem?_getD, List.getElem?_eq_getElem h]; rfl
def symZ : Sym := ⟨noS, []⟩
def attZ : Att := ⟨noS, 0, 0, false⟩
def rulZ : Rul := ⟨noS, noS, [], false, [], []⟩
def fSym (l : List Sym) (n : ByteArray) : Sym := (l.find? fun s => decide (s.name = n)).getD symZ
def hSym (l : List Sym) (n : ByteArray) : Bool := (l.find? fun s => decide (s.name = n)).isSome
def fAtt (l : List Att) (n : ByteArray) : Att := (l.find? fun s => decide (s.name = n)).getD attZ
def hAtt (l : List Att) (n : ByteArray) : Bool := (l.find? fun s => decide (s.name = n)).isSome
theorem fSym_mem (l : List Sym) (n : ByteArray) : fSym l n ∈ l ∨ fSym l n = symZ := by
  unfold fSym
  cases h : l.find? fun s => decide (s.name = n) with
  | none => exact .inr rfl
  | some a => exact .inl (List.mem_of_find?_eq_some h)
theorem smSy_f {g : Gram} (h : smGr g) (n : ByteArray) : smSy (fSym g.syms n) := by
  rcases fSym_mem g.syms n with h1 | h1
  · exact h.2.2.1 _ h1
  · rw [h1]; simp [smSy, symZ]
def symAt (r : Rul) (pos : Int) : ByteArray := if pos = 0 then r.left else if 1 ≤ pos ∧ pos ≤ r.right.length then r.right.getD (pos - 1).toNat noS else noS
def attAt (g : Gram) (r : Rul) (pos : Int) (name : ByteArray) : Att := if 0 ≤ pos ∧ pos ≤ r.right.length then fAtt (fSym g.syms (symAt r pos)).atts name else attZ
def hasAt (g : Gram) (r : Rul) (pos : Int) (name : ByteArray) : Bool := if 0 ≤ pos ∧ pos ≤ r.right.length then hAtt (fSym g.syms (symAt r pos)).atts name else false
theorem ixOf_cases {α : Type} (p : α → Bool) (xs : List α) : ixOf p xs = -1 ∨ (0 ≤ ixOf p xs ∧ ixOf p xs < xs.length) := by
  unfold ixOf
  cases h : xs.findIdx? p with
  | none => exact .inl rfl
  | some i =>
    obtain ⟨h1, _, _⟩ := List.findIdx?_eq_some_iff_getElem.1 h
    exact .inr ⟨by simp, by simpa using h1⟩
end Go.Gh

/- Instances of a tree. -/
namespace Go.Gh
set_option linter.unusedSimpArgs false
set_option linter.unusedVariables false
theorem fAtt_no {l : List Att} {n : ByteArray} (h : hAtt l n = false) : fAtt l n = attZ := by
  simp only [hAtt, fAtt] at *
  cases e : l.find? fun s => decide (s.name = n) with
  | none => rfl
  | some a => rw [e] at h; simp at h
end Go.Gh

/- Grammars as arguments of statements. -/
namespace Go.Gh
set_option linter.unusedSimpArgs false
set_option linter.unusedVariables false
theorem t_T {g : GV} (h : ET false [.str] g) : ∃ s : ByteArray, g = T s ∧ s.size ≤ maxLen := by
  obtain ⟨s, rfl, hs⟩ := t_one h
  exact ⟨s, rfl, hs⟩
abbrev AtT : List Ty := [.str, .int .i64, .int .i64, .bool]
theorem t_Att {g : GV} (h : ET true AtT g) : ∃ x : Att, g = At x ∧ okAt x := by
  obtain ⟨gs, k1, k2⟩ := h
  simp only [CTs, CT] at k1
  obtain ⟨_, _, rfl, ⟨s, rfl, hs⟩, _, _, rfl, ⟨a, rfl, _⟩, _, _, rfl, ⟨b, rfl, _⟩, _, _, rfl, ⟨c, rfl⟩, rfl⟩ := k1
  exact ⟨⟨s, a, b, c⟩, by simpa using k2, hs⟩
abbrev SyT : List Ty := [.str, .sl true AtT]
theorem t_Sym {g : GV} (h : ET true SyT g) : ∃ x : Sym, g = Sy x ∧ okSy x := by
  obtain ⟨gs, k1, k2⟩ := h
  rw [CTs] at k1
  obtain ⟨_, _, rfl, h1, k1⟩ := k1
  rw [CTs] at k1
  obtain ⟨_, _, rfl, h2, k1⟩ := k1
  simp only [CTs] at k1
  subst k1
  obtain ⟨l, rfl, hl⟩ := c_sl h2 fun e he => t_Att he
  simp only [CT] at h1
  obtain ⟨s, rfl, hs⟩ := h1
  exact ⟨⟨s, l⟩, by simpa using k2, hs, hl⟩
abbrev QnT : List Ty := [.int .i64, .str, .int .i64, .int .i64, .int .i64, .int .i64, .str, .str, .pr ExQ]
theorem t_Eqn {g : GV} (h : ET true QnT g) : ∃ x : Eqn, g = Qn x ∧ okEq x := by
  obtain ⟨gs, k1, k2⟩ := h
  simp only [CTs, CT, ExQ] at k1
  obtain ⟨_, _, rfl, ⟨i, rfl, _⟩, _, _, rfl, ⟨u, rfl, hu⟩, _, _, rfl, ⟨k, rfl, _⟩, _, _, rfl, ⟨n, rfl, _⟩, _, _, rfl, ⟨p, rfl, _⟩, _, _, rfl, ⟨t, rfl, _⟩, _, _, rfl, ⟨s, rfl, hs⟩, _, _, rfl, ⟨m, rfl, hm⟩, _, _, rfl, ⟨l, rfl, hl⟩, rfl⟩ := k1
  exact ⟨⟨i, u, .mk k n p t s m l⟩, k2, hu, okE_eq.2 ⟨hs, hm, hl⟩⟩
abbrev CoT : List Ty := [.str, .str, .int .i64, .int .i64, .int .i64, .int .i64, .str, .str, .pr ExQ, .int .i64, .int .i64, .int .i64, .int .i64, .str, .str, .pr ExQ]
theorem t_Con {g : GV} (h : ET true CoT g) : ∃ x : Con, g = Co x ∧ okCo x := by
  obtain ⟨gs, k1, k2⟩ := h
  simp only [CTs, CT, ExQ] at k1
  obtain ⟨_, _, rfl, ⟨a, rfl, ha⟩, _, _, rfl, ⟨b, rfl, hb⟩, _, _, rfl, ⟨k, rfl, _⟩, _, _, rfl, ⟨n, rfl, _⟩, _, _, rfl, ⟨p, rfl, _⟩, _, _, rfl, ⟨t, rfl, _⟩, _, _, rfl, ⟨s, rfl, hs⟩, _, _, rfl, ⟨m, rfl, hm⟩, _, _, rfl, ⟨l, rfl, hl⟩,
    _, _, rfl, ⟨k', rfl, _⟩, _, _, rfl, ⟨n', rfl, _⟩, _, _, rfl, ⟨p', rfl, _⟩, _, _, rfl, ⟨t', rfl, _⟩, _, _, rfl, ⟨s', rfl, hs'⟩, _, _, rfl, ⟨m', rfl, hm'⟩, _, _, rfl, ⟨l', rfl, hl'⟩, rfl⟩ := k1
  exact ⟨⟨a, b, .mk k n p t s m l, .mk k' n' p' t' s' m' l'⟩, k2, ha, hb, okE_eq.2 ⟨hs, hm, hl⟩, okE_eq.2 ⟨hs', hm', hl'⟩⟩
abbrev RuT : List Ty := [.str, .str, .sl false [.str], .bool, .sl true QnT, .sl true CoT]
theorem t_Rul {g : GV} (h : ET true RuT g) : ∃ x : Rul, g = Ru x ∧ okRu x := by
  obtain ⟨gs, k1, k2⟩ := h
  rw [CTs] at k1
  obtain ⟨_, _, rfl, h1, k1⟩ := k1
  rw [CTs] at k1
  obtain ⟨_, _, rfl, h2, k1⟩ := k1
  rw [CTs] at k1
  obtain ⟨_, _, rfl, h3, k1⟩ := k1
  rw [CTs] at k1
  obtain ⟨_, _, rfl, h4, k1⟩ := k1
  rw [CTs] at k1
  obtain ⟨_, _, rfl, h5, k1⟩ := k1
  rw [CTs] at k1
  obtain ⟨_, _, rfl, h6, k1⟩ := k1
  simp only [CTs] at k1
  subst k1
  obtain ⟨l3, rfl, hl3⟩ := c_sl h3 fun e he => t_T he
  obtain ⟨l5, rfl, hl5⟩ := c_sl h5 fun e he => t_Eqn he
  obtain ⟨l6, rfl, hl6⟩ := c_sl h6 fun e he => t_Con he
  simp only [CT] at h1 h2 h4
  obtain ⟨a, rfl, ha⟩ := h1
  obtain ⟨b, rfl, hb⟩ := h2
  obtain ⟨c, rfl⟩ := h4
  exact ⟨⟨a, b, l3, c, l5, l6⟩, k2, ha, hb, hl3, hl5, hl6⟩
abbrev GrT : List Ty := [.sl true SyT, .sl true RuT]
theorem t_Gr {g : GV} (h : ET true GrT g) : ∃ x : Gram, g = Gr x ∧ okGr x := by
  obtain ⟨gs, k1, k2⟩ := h
  rw [CTs] at k1
  obtain ⟨_, _, rfl, h1, k1⟩ := k1
  rw [CTs] at k1
  obtain ⟨_, _, rfl, h2, k1⟩ := k1
  simp only [CTs] at k1
  subst k1
  obtain ⟨l1, rfl, hl1⟩ := c_sl h1 fun e he => t_Sym he
  obtain ⟨l2, rfl, hl2⟩ := c_sl h2 fun e he => t_Rul he
  exact ⟨⟨l1, l2⟩, k2, hl1, hl2⟩
end Go.Gh

/- Trees of a grammar; types of expressions. -/
namespace Go.Gh
set_option linter.unusedSimpArgs false
set_option linter.unusedVariables false
def tyK (g : Gram) (r : Rul) (e : Exp) (ts : List Int) : Int :=
  if e.kind = 1 then e.type else
  if e.kind = 2 then (if r.lit then 1 else 0) else
  if e.kind = 3 then (attAt g r e.pos e.name).type else
  if e.kind = 4 then (if ts.length = 2 ∧ ts.getD 0 0 = (opT e.n).1 ∧ ts.getD 1 0 = (opT e.n).2.1 then (opT e.n).2.2 else 0) else
  if e.kind = 5 then (if ts.length = 3 ∧ ts.getD 0 0 = 3 ∧ ts.getD 1 0 = ts.getD 2 0 then ts.getD 1 0 else 0) else
  if e.kind = 6 then (if 0 ≤ e.pos ∧ e.pos ≤ r.right.length then 4 else 0) else
  if e.kind = 7 then 4 else
  if e.kind = 8 then (if ts.length = 1 ∧ ts.getD 0 0 = 4 then (fAtt (fSym g.syms e.sym).atts e.name).type else 0) else 0
mutual
def tyE (g : Gram) (r : Rul) : Exp → Int
  | .mk k n p t s m a => tyK g r (.mk k n p t s m a) (tyEL g r a)
def tyEL (g : Gram) (r : Rul) : List Exp → List Int
  | [] => []
  | e :: l => tyE g r e :: tyEL g r l
end
theorem tyEL_eq (g : Gram) (r : Rul) (l : List Exp) : tyEL g r l = l.map (tyE g r) := by
  induction l with
  | nil => rfl
  | cons e l ih => simp [tyEL, ih]
theorem tyE_eq (g : Gram) (r : Rul) (e : Exp) : tyE g r e = tyK g r e (e.args.map (tyE g r)) := by
  cases e; simp only [tyE, tyEL_eq]; rfl
end Go.Gh
namespace Go.Gh
theorem takeApp2 {α β : Type} (f : β → GV) (h : α → β) (l : List α) (i : Nat) (hi : i < l.length) : List.take i (List.map f (List.map h (List.take i l))) ++ [f (h l[i])] = List.map f (List.map h (List.take (i + 1) l)) := by
  have := takeApp (fun a => f (h a)) l i hi
  simp only [List.map_map]; exact this
end Go.Gh
namespace Go.Gh
theorem getDm {α : Type} {l : List α} {f : α → Int} {k : Nat} (h : k < l.length) : (l.map f).getD k 0 = f l[k] := by
  rw [getD_lt (by simpa using h), List.getElem_map]
end Go.Gh
namespace Go.Gh
theorem Bor.of_eq {H : GH} {g g' : GV} (h : g = g') : Bor H g g' := h ▸ Bor.refl
end Go.Gh

/- Valid expressions, and their values. -/
namespace Go.Gh
set_option linter.unusedSimpArgs false
set_option linter.unusedVariables false
def nodeV (e : Exp) : Bool :=
  decide (1 ≤ e.kind ∧ e.kind ≤ 8) && bareV e &&
  (if e.kind = 1 then decide (1 ≤ e.type ∧ e.type ≤ 3) && okV e.n e.type && decide (0 ≤ e.n) else
   if e.kind = 3 then decide (0 ≤ e.pos ∧ e.pos ≤ 3) && nameV e.name else
   if e.kind = 6 then decide (0 ≤ e.pos ∧ e.pos ≤ 3) else
   if e.kind = 4 then decide (1 ≤ e.n ∧ e.n ≤ 12) else
   if e.kind = 8 then nameV e.sym && nameV e.name else true)
def validE (e : Exp) : Bool := decide (cntE e ≤ 24) && decide (dpE e ≤ 6) && allE nodeV e
theorem shp_iff' (l : List UInt8) : shp l = true ↔ 0 < l.length ∧ (∀ h : 0 < l.length, letV l[0] = true) ∧ ∀ (j : Nat) (h : j < l.length), letV l[j] = true ∨ digV l[j] = true := by
  rw [shp_iff]
  constructor
  · rintro ⟨h1, h2⟩
    refine ⟨h1, fun h => ?_, fun j hj => ?_⟩
    · rcases h2 0 h with h3 | h3
      · exact h3
      · exact absurd rfl h3.1
    · rcases h2 j hj with h3 | h3
      · exact .inl h3
      · exact .inr h3.2
  · rintro ⟨h1, h2, h3⟩
    refine ⟨h1, fun j hj => ?_⟩
    by_cases h0 : j = 0
    · subst h0; exact .inl (h2 hj)
    · rcases h3 j hj with h4 | h4
      · exact .inl h4
      · exact .inr ⟨h0, h4⟩
theorem shp_no {l : List UInt8} {i : Nat} (h : i < l.length) (h1 : letV l[i] = false) (h2 : digV l[i] = false) : shp l = false := by
  cases hs : shp l with
  | false => rfl
  | true =>
    rcases ((shp_iff' l).1 hs).2.2 i h with h3 | h3
    · rw [h1] at h3; cases h3
    · rw [h2] at h3; cases h3
theorem shp_no0 {l : List UInt8} (h : 0 < l.length) (h1 : letV l[0] = false) : shp l = false := by
  cases hs : shp l with
  | false => rfl
  | true =>
    have := ((shp_iff' l).1 hs).2.1 h
    rw [h1] at this; cases this
theorem shp_yes {l : List UInt8} (h : 0 < l.length) (h1 : letV l[0] = true) (hn : ∀ (j : Nat) (h : j < l.length), letV l[j] = true ∨ digV l[j] = true) : shp l = true := (shp_iff' l).2 ⟨h, fun _ => h1, hn⟩
end Go.Gh
namespace Go.Gh
theorem Bor.clo {H : GH} {f : Nat} {gs gs' : List GV} (h : BorL H gs gs') : Bor H (.clo f gs) (.clo f gs') := fun w D Ω v hst hm => by
  simp only [MV] at hm ⊢
  obtain ⟨h0, vs, h1, h2⟩ := hm
  exact ⟨h0, vs, h1, h w D Ω vs hst h2⟩
theorem Bor.rop {H : GH} {sz : Nat} {g g' : GV} (h : Bor H g g') : Bor H (.rop sz g) (.rop sz g') := fun w D Ω v hst hm => by
  simp only [MV] at hm ⊢
  obtain ⟨h0, b, off, u, h1, h2, h3, h4, h5, h6⟩ := hm
  exact ⟨h0, b, off, u, h1, .inl h2, h3, h4, h5, h w D Ω u hst h6⟩
theorem nameV_parts (s : ByteArray) : nameV s = (shp (chars s) && decide ((chars s).length ≤ 8) && !resV s) := rfl
end Go.Gh
namespace Go.Gh
theorem okV_rng {n t : Int} (h : okV n t = true) : 1 ≤ t ∧ t ≤ 4 := by
  simp only [okV, Bool.and_eq_true, decide_eq_true_eq] at h; exact h.1
theorem allE_no {p : Exp → Bool} {e : Exp} {i : Nat} (h : i < e.args.length) (hb : allE p e.args[i] = false) : allE p e = false := by
  rw [allE_eq]
  have : e.args.all (allE p) = false := by
    rw [List.all_eq_false]
    exact ⟨e.args[i], List.getElem_mem h, by simp [hb]⟩
  rw [this, Bool.and_false]
theorem allE_yes {p : Exp → Bool} {e : Exp} (h : ∀ a ∈ e.args, allE p a = true) : allE p e = p e := by
  rw [allE_eq, List.all_eq_true.2 h, Bool.and_true]
end Go.Gh
namespace Go.Gh
end Go.Gh
namespace Go.Gh
theorem noS_eq : (ByteArray.mk #[]) = noS := rfl
end Go.Gh
namespace Go.Gh
theorem gs_clo (f : Nat) (cs : List GV) : gsize (.clo f cs) = 1 := rfl
end Go.Gh

/- Grammars of one's own. -/
namespace Go.Gh
set_option linter.unusedSimpArgs false
set_option linter.unusedVariables false
set_option maxRecDepth 20000
theorem Bor.seen {α : Type} {f g : α → GV} {H : GH} {r sz n : Nat} {l : List α} (hv : ∀ a, view (f a) = g a) (hr : hget H r = some (sz, l.map f)) (hl : l.length = n) : Bor H (.own r sz 0 n) (.sl sz (l.map g)) := by
  have := Bor.own (k := 0) (n := n) hr (by simp [hl])
  rw [List.drop_zero, List.take_of_length_le (by simp [hl]), viewL_eq, List.map_map] at this
  have e : l.map (view ∘ f) = l.map g := List.map_congr_left fun a _ => hv a
  rwa [e] at this
section
variable {P : Program} {α : Type} {f : α → GV} {k kx sz : Nat} {ag : Bool}
end
theorem FR.perm {g : GV} {H L T : GH} (hs : subH H L) : FR g (H ++ T) g (L ++ T) := by
  intro w D Ω v hv hst
  obtain ⟨Ω', h1, h2⟩ := St.sub hst hs
  exact ⟨D, Ω', hv, h1, ⟨fun _ h => h, fun _ _ h => .inl h, fun b hb _ => h2 b hb, Kept.refl _ _, rfl, rfl, rfl⟩⟩
end Go.Gh

/- Trees cut out of trees. -/
namespace Go.Gh
end Go.Gh

/- What the laws' marks are: lists marked one element after the other; expressions; instances; grammars. -/
namespace Go.Gh
set_option linter.unusedSimpArgs false
set_option linter.unusedVariables false
section
variable {α : Type} (w : α → Nat) (m : α → Int → α)
end
section
variable {α : Type} {f : α → α}
end
end Go.Gh

/- A subtree of a tree replaced. -/
namespace Go.Gh
set_option linter.unusedSimpArgs false
set_option linter.unusedVariables false
theorem neN (r : Nat) (x : Nat × List GV) (H : GH) : (names ((r, x) :: H)).Nodup = (neA r H ∧ (names H).Nodup) := by
  apply propext
  constructor
  · intro h
    have h2 := h
    simp only [names, List.map_cons, List.nodup_cons] at h2
    exact ⟨neA_of h2.1, h2.2⟩
  · rintro ⟨h1, h2⟩
    simp only [names, List.map_cons, List.nodup_cons]
    refine ⟨?_, h2⟩
    clear h2
    induction H with
    | nil => simp
    | cons y H ih =>
      obtain ⟨q, y⟩ := y
      simp only [neA_cons] at h1
      simp only [List.map_cons, List.mem_cons, not_or]
      exact ⟨h1.1, ih h1.2.2⟩
theorem Bor.ptr {H : GH} {r sz : Nat} {g : GV} (hr : hget H r = some (sz, [g])) : Bor H (.ptr r sz 0 0) (.rop sz (view g)) := fun w D Ω v h hv => by
  obtain ⟨F, hF, hFΩ⟩ := h.hm.mem hr
  simp only [MV] at hv ⊢
  obtain ⟨_, b, rfl, hb, rfl⟩ := hv
  rcases hF with ⟨b', c, T, fz, F', k1, k2, k3, k4, k5, k6, k7⟩ | ⟨k1, _, _⟩
  · have : b' = b := by omega
    subst this
    simp only [MF] at k7
    obtain ⟨u, cs', F1, F2, e1, e2, e3, rfl, e5, rfl, rfl⟩ := k7
    refine ⟨trivial, b', 0, u, by simp, .inr (hFΩ _ (by simp [k6])), ⟨c, T, fz, k2, fun j x hj => ?_⟩, e3, e2, MV.view (fun _ => .inl) g u F1 (fun x hx => .inr (hFΩ x (by simp [k6, hx]))) e5⟩
    have e1' : c.toList.take (1 * sz) = u.cells.toList := by simpa using e1
    have h2 : (c.toList.take (1 * sz))[j]? = some x := by rw [e1']; exact hj
    rw [List.getElem?_take] at h2
    split at h2
    · simpa using h2
    · cases h2
  · omega
end Go.Gh

/- Instances of a tree: all of them. -/
namespace Go.Gh
set_option linter.unusedSimpArgs false
set_option linter.unusedVariables false
end Go.Gh

/- Definitions of instances. -/
namespace Go.Gh
set_option linter.unusedSimpArgs false
set_option linter.unusedVariables false
def expZ : Exp := .mk 0 0 0 0 noS noS []
def eqnF (r : Rul) (o : Int × ByteArray) : Option Eqn := r.eqs.find? fun q => decide (q.pos = o.1 ∧ q.name = o.2)
def eqnE (r : Rul) (o : Int × ByteArray) : Exp := ((eqnF r o).map (·.expr)).getD expZ
end Go.Gh

/- The attributes that an expression uses. -/
namespace Go.Gh
set_option linter.unusedSimpArgs false
set_option linter.unusedVariables false
theorem Pure.froz {P : Program} {f : FuncId} {gs gs' : List GV} {R : GV → Prop} {H : GH} (h : Pure P f gs' R) (hb : BorL H gs gs') : GCalls P f gs H (fun g H' => R g ∧ H' = []) := by
  intro w D Ω args hst hargs
  have hds : ∀ b, (D b ∨ b ∈ Ω) → b < w.heap.size := fun b hb => hb.elim (hst.ds b) (HM.flt hst.hm b)
  refine Yld.mono (fun v w' ⟨g, H', D', Ω', k1, k2, k3, k4⟩ => ?_) (h w _ [] args (St.nil hds) (hb w D Ω args hst hargs))
  exact ⟨g, [], D', [], ⟨k1, rfl⟩, k2, St.nil k3.ds, ⟨fun b hb => k4.d0 b (.inl hb), fun b hl hD => (k4.dn b hl hD).elim (fun h => h) (fun h => by simp at h), fun b hb hl => by simp at hb,
    k4.kp.mono fun _ _ _ => by simp, k4.os, k4.tape, k4.output⟩⟩
abbrev Oc := Int × ByteArray
abbrev OcS (l : List Oc) : GV := .sl 2 (l.map Occ)
def ltN (a b : ByteArray) : Bool := Op.bytesLess (chars a) (chars b)
def ltO (a b : Oc) : Bool := decide (a.1 < b.1) || (decide (a.1 = b.1) && ltN a.2 b.2)
def atO : List Oc → Oc → Nat
  | [], _ => 0
  | a :: l, o => if ltO a o = true then atO l o + 1 else 0
def putO (l : List Oc) (o : Oc) : List Oc := if l[atO l o]? = some o then l else l.take (atO l o) ++ o :: l.drop (atO l o)
mutual
def usE : Exp → List Oc → List Oc
  | .mk k _ p _ _ m a, l => usEL a (if k = 3 then putO l (p, m) else l)
def usEL : List Exp → List Oc → List Oc
  | [], l => l
  | e :: r, l => usEL r (usE e l)
end
theorem usE_eq (e : Exp) (l : List Oc) : usE e l = usEL e.args (if e.kind = 3 then putO l (e.pos, e.name) else l) := by
  cases e; rfl
theorem usEL_step {al : List Exp} {i : Nat} (h : i < al.length) (l : List Oc) : usEL (al.take (i + 1)) l = usE al[i] (usEL (al.take i) l) := by
  have hs : ∀ (al : List Exp) (e : Exp) (l : List Oc), usEL (al ++ [e]) l = usE e (usEL al l) := by
    intro al e
    induction al with
    | nil => intro l; rfl
    | cons a al ih => intro l; exact ih _
  rw [List.take_add_one, List.getElem?_eq_getElem h]
  exact hs _ _ _
theorem atO_le : ∀ (l : List Oc) (o : Oc), atO l o ≤ l.length
  | [], _ => Nat.le_refl _
  | a :: l, o => by
    have := atO_le l o
    simp only [atO, List.length_cons]
    split <;> omega
theorem atO_of : ∀ {l : List Oc} {o : Oc} {i : Nat}, i ≤ l.length → (∀ a ∈ l.take i, ltO a o = true) → (∀ h : i < l.length, ltO l[i] o = false) → atO l o = i
  | [], _, i, h, _, _ => by simp at h; subst h; rfl
  | a :: l, o, 0, _, _, h2 => by
    have := h2 (by simp)
    simp only [List.getElem_cons_zero] at this
    simp [atO, this]
  | a :: l, o, i + 1, h, h1, h2 => by
    have ha := h1 a (by simp)
    have := atO_of (l := l) (o := o) (i := i) (by simpa using h) (fun b hb => h1 b (by simp [hb])) (fun hi => by have := h2 (by simpa using hi); simpa using this)
    simp [atO, ha, this]
theorem take_all_step {α : Type} {p : α → Bool} {l : List α} {i : Nat} (h : i < l.length) (hp : p l[i] = true) (hn : ∀ a ∈ l.take i, p a = true) : ∀ a ∈ l.take (i + 1), p a = true := by
  rw [List.take_add_one, List.getElem?_eq_getElem h]
  intro a ha
  rcases List.mem_append.1 ha with ha | ha
  · exact hn a ha
  · simp at ha; subst ha; exact hp
theorem putM {l : List Oc} {o : Oc} {i : Nat} (hi : i ≤ l.length) : List.take (min i l.length - Int.toNat 0 + 1) (List.take (min i l.length - Int.toNat 0) (List.drop (Int.toNat 0) (List.take i (List.map Occ l))) ++ [Occ o]) ++ List.drop i (List.take l.length (List.map Occ l)) = (l.take i ++ o :: l.drop i).map Occ := by
  have hm : min i l.length = i := by omega
  have h0 : Int.toNat 0 = 0 := rfl
  have a1 : List.take i (List.take i (List.map Occ l)) = (l.take i).map Occ := by rw [List.take_take, Nat.min_self, List.map_take]
  have a2 : List.take l.length (List.map Occ l) = List.map Occ l := List.take_of_length_le (by simp)
  rw [h0, hm, Nat.sub_zero, List.drop_zero, a1, a2, List.take_of_length_le (l := (l.take i).map Occ ++ [Occ o]) (by simp; omega), List.map_append, List.map_cons, List.map_drop, List.append_assoc]
  rfl
theorem putN {l : List Oc} {o : Oc} {i : Nat} (hi : i ≤ l.length) : min i l.length - Int.toNat 0 + 1 + (min l.length l.length - i) = (l.take i ++ o :: l.drop i).length := by
  have h0 : Int.toNat 0 = 0 := rfl
  rw [h0]; simp; omega
theorem putO_len (l : List Oc) (o : Oc) : (putO l o).length ≤ l.length + 1 := by
  unfold putO
  split
  · omega
  · have := atO_le l o
    simp; omega
theorem wExL_step {al : List Exp} {i : Nat} (h : i < al.length) : wExL (al.take (i + 1)) = wExL (al.take i) + wEx al[i] := by
  rw [wExL_eq, wExL_eq, List.take_add_one, List.getElem?_eq_getElem h]
  simp only [Option.toList_some, List.map_append, List.map_cons, List.map_nil, List.sum_append, List.sum_cons, List.sum_nil, Nat.add_zero]
theorem wExL_take (al : List Exp) (i : Nat) : wExL (al.take i) ≤ wExL al := by
  have := congrArg (fun l : List Exp => (l.map wEx).sum) (List.take_append_drop i al)
  simp only [List.map_append, List.sum_append] at this
  rw [wExL_eq, wExL_eq]
  omega
theorem wEx_args (e : Exp) : e.args.length + wExL e.args ≤ wEx e := by
  cases e; simp only [wEx, Exp.args]; omega
mutual
theorem usE_len : ∀ (e : Exp) (l : List Oc), (usE e l).length ≤ l.length + (1 + wEx e)
  | .mk k n p t s m a, l => by
    have h1 := usEL_len a (if k = 3 then putO l (p, m) else l)
    have h2 : (if k = 3 then putO l (p, m) else l).length ≤ l.length + 1 := by split; exact putO_len _ _; omega
    simp only [usE, wEx]
    omega
theorem usEL_len : ∀ (al : List Exp) (l : List Oc), (usEL al l).length ≤ l.length + (al.length + wExL al)
  | [], l => by simp [usEL, wExL]
  | e :: r, l => by
    have h1 := usE_len e l
    have h2 := usEL_len r (usE e l)
    simp only [usEL, wExL, List.length_cons]
    omega
end
end Go.Gh

/- The attributes that an expression uses: in order, once each. -/
namespace Go.Gh
set_option linter.unusedSimpArgs false
set_option linter.unusedVariables false
theorem ltN_eq (a b : ByteArray) : ltN a b = decide (chars a < chars b) := Proofs.bytesLess_eq _ _
theorem ltN_irr (a : ByteArray) : ltN a a = false := by
  rw [ltN_eq]; exact decide_eq_false (List.lt_irrefl _)
theorem ltN_trans {a b c : ByteArray} (h : ltN a b = true) (k : ltN b c = true) : ltN a c = true := by
  rw [ltN_eq, decide_eq_true_eq] at *; exact List.lt_trans h k
theorem ltN_tri {a b : ByteArray} (h : ltN a b = false) (k : ltN b a = false) : a = b := by
  rw [ltN_eq, decide_eq_false_iff_not] at *
  exact chars_inj.1 (List.le_antisymm (List.not_lt.1 k) (List.not_lt.1 h))
theorem ltO_iff {a b : Oc} : ltO a b = true ↔ a.1 < b.1 ∨ (a.1 = b.1 ∧ ltN a.2 b.2 = true) := by simp [ltO]
theorem ltO_irr (a : Oc) : ltO a a = false := by simp [ltO, ltN_irr]
theorem ltO_trans {a b c : Oc} (h : ltO a b = true) (k : ltO b c = true) : ltO a c = true := by
  rw [ltO_iff] at *
  rcases h with h | ⟨h1, h2⟩ <;> rcases k with k | ⟨k1, k2⟩
  · exact .inl (by omega)
  · exact .inl (by omega)
  · exact .inl (by omega)
  · exact .inr ⟨by omega, ltN_trans h2 k2⟩
theorem ltO_tri {a b : Oc} (h : ltO a b = false) (k : ltO b a = false) : a = b := by
  have h' : ¬ (a.1 < b.1 ∨ (a.1 = b.1 ∧ ltN a.2 b.2 = true)) := fun e => by rw [ltO_iff.2 e] at h; cases h
  have k' : ¬ (b.1 < a.1 ∨ (b.1 = a.1 ∧ ltN b.2 a.2 = true)) := fun e => by rw [ltO_iff.2 e] at k; cases k
  have e : a.1 = b.1 := by omega
  refine Prod.ext e (ltN_tri ?_ ?_)
  · cases q : ltN a.2 b.2
    · rfl
    · exact absurd (.inr ⟨e, q⟩) h'
  · cases q : ltN b.2 a.2
    · rfl
    · exact absurd (.inr ⟨e.symm, q⟩) k'
theorem ltO_asym {a b : Oc} (h : ltO a b = true) : ltO b a = false := by
  cases q : ltO b a
  · rfl
  · have := ltO_trans h q; rw [ltO_irr] at this; cases this
theorem ltO_swo : Sort.SWO ltO where
  irrefl := ltO_irr
  trans _ _ _ := ltO_trans
  ntrans x y z h k := by
    cases q : ltO x z
    · rfl
    · cases e : ltO y x
      · rw [ltO_tri h e] at q; rw [q] at k; cases k
      · have := ltO_trans e q; rw [this] at k; cases k
abbrev SSO (l : List Oc) : Prop := l.Pairwise fun a b => ltO a b = true
theorem SSO.ext : ∀ {l k : List Oc}, SSO l → SSO k → (∀ x, x ∈ l ↔ x ∈ k) → l = k
  | [], [], _, _, _ => rfl
  | [], b :: k, _, _, h => by have := (h b).2 (by simp); simp at this
  | a :: l, [], _, _, h => by have := (h a).1 (by simp); simp at this
  | a :: l, b :: k, h1, h2, h => by
    rw [SSO, List.pairwise_cons] at h1 h2
    have e : a = b := by
      rcases List.mem_cons.1 ((h a).1 (by simp)) with e | e
      · exact e
      · rcases List.mem_cons.1 ((h b).2 (by simp)) with e' | e'
        · exact e'.symm
        · have q1 := h2.1 a e
          have q2 := h1.1 b e'
          rw [ltO_asym q1] at q2; cases q2
    subst e
    congr 1
    refine SSO.ext h1.2 h2.2 fun x => ⟨fun hx => ?_, fun hx => ?_⟩
    · rcases List.mem_cons.1 ((h x).1 (by simp [hx])) with e | e
      · subst e; have := h1.1 _ hx; rw [ltO_irr] at this; cases this
      · exact e
    · rcases List.mem_cons.1 ((h x).2 (by simp [hx])) with e | e
      · subst e; have := h2.1 _ hx; rw [ltO_irr] at this; cases this
      · exact e
theorem putO_nil (o : Oc) : putO [] o = [o] := rfl
theorem putO_cons (a : Oc) (l : List Oc) (o : Oc) : putO (a :: l) o = if ltO a o = true then a :: putO l o else if a = o then a :: l else o :: a :: l := by
  unfold putO
  by_cases h : ltO a o = true
  · simp only [atO, if_pos h, List.getElem?_cons_succ]
    split <;> rfl
  · simp only [atO, if_neg h, List.getElem?_cons_zero, Option.some.injEq]
    split <;> simp
theorem putO_ss (o : Oc) : ∀ {l : List Oc}, SSO l → SSO (putO l o) ∧ ∀ x, x ∈ putO l o ↔ x ∈ l ∨ x = o
  | [], _ => by rw [putO_nil]; simp
  | a :: l, h => by
    rw [SSO, List.pairwise_cons] at h
    obtain ⟨i1, i2⟩ := putO_ss o h.2
    rw [putO_cons]
    by_cases h1 : ltO a o = true
    · rw [if_pos h1]
      refine ⟨List.pairwise_cons.2 ⟨fun x hx => ?_, i1⟩, fun x => ?_⟩
      · rcases (i2 x).1 hx with e | e
        · exact h.1 x e
        · rw [e]; exact h1
      · simp only [List.mem_cons, i2 x, or_assoc]
    · rw [if_neg h1]
      by_cases h2 : a = o
      · rw [if_pos h2]
        exact ⟨List.pairwise_cons.2 h, fun x => ⟨.inl, fun e => e.elim id fun e => by simp [e, h2]⟩⟩
      · rw [if_neg h2]
        have h3 : ltO o a = true := by
          cases q : ltO o a
          · exact absurd (ltO_tri (by simpa using h1) q) h2
          · rfl
        refine ⟨List.pairwise_cons.2 ⟨fun x hx => ?_, List.pairwise_cons.2 h⟩, fun x => ?_⟩
        · rcases List.mem_cons.1 hx with e | e
          · rw [e]; exact h3
          · exact ltO_trans h3 (h.1 x e)
        · simp only [List.mem_cons]; constructor
          · rintro (e | e | e); exact .inr e; exact .inl (.inl e); exact .inl (.inr e)
          · rintro ((e | e) | e); exact .inr (.inl e); exact .inr (.inr e); exact .inl e
mutual
def occE : Exp → List Oc
  | .mk k _ p _ _ m a => (if k = 3 then [(p, m)] else []) ++ occEL a
def occEL : List Exp → List Oc
  | [] => []
  | e :: r => occE e ++ occEL r
end
mutual
theorem usE_fold : ∀ (e : Exp) (l : List Oc), usE e l = (occE e).foldl putO l
  | .mk k _ p _ _ m a, l => by
    simp only [usE, occE, usEL_fold a, List.foldl_append]
    split <;> rfl
theorem usEL_fold : ∀ (al : List Exp) (l : List Oc), usEL al l = (occEL al).foldl putO l
  | [], l => rfl
  | e :: r, l => by simp only [usEL, occEL, usEL_fold r, usE_fold e, List.foldl_append]
end
theorem foldO_ss : ∀ (os : List Oc) {l : List Oc}, SSO l → SSO (os.foldl putO l) ∧ ∀ x, x ∈ os.foldl putO l ↔ x ∈ l ∨ x ∈ os
  | [], l, h => by simp [h]
  | o :: os, l, h => by
    obtain ⟨h1, h2⟩ := putO_ss o h
    obtain ⟨h3, h4⟩ := foldO_ss os h1
    refine ⟨h3, fun x => ?_⟩
    rw [List.foldl_cons, h4 x, h2 x, List.mem_cons, or_assoc]
def cpO (l : List Oc) : List Oc := l.foldl (fun acc x => if acc.getLast? = some x then acc else acc ++ [x]) []
theorem cpO_snoc (l : List Oc) (x : Oc) : cpO (l ++ [x]) = if (cpO l).getLast? = some x then cpO l else cpO l ++ [x] := by
  unfold cpO
  rw [List.foldl_append]
  rfl
theorem snocInd {α : Type} {p : List α → Prop} (h0 : p []) (h1 : ∀ l x, p l → p (l ++ [x])) (l : List α) : p l := by
  have key : ∀ r : List α, p r.reverse := fun r => by
    induction r with
    | nil => exact h0
    | cons a r ih => rw [List.reverse_cons]; exact h1 _ _ ih
  have := key l.reverse
  rwa [List.reverse_reverse] at this
theorem cpO_last (l : List Oc) : (cpO l).getLast? = l.getLast? := by
  refine snocInd (p := fun l => (cpO l).getLast? = l.getLast?) rfl (fun l x ih => ?_) l
  rw [cpO_snoc]
  split
  · rename_i h; rw [h]; simp
  · simp
theorem cpO_step (l : List Oc) (x : Oc) : cpO (l ++ [x]) = if l.getLast? = some x then cpO l else cpO l ++ [x] := by rw [cpO_snoc, cpO_last]
theorem cpO_mem (l : List Oc) : ∀ x, x ∈ cpO l ↔ x ∈ l := by
  refine snocInd (p := fun l => ∀ x, x ∈ cpO l ↔ x ∈ l) (fun x => Iff.rfl) (fun l y ih x => ?_) l
  rw [cpO_step]
  split
  · rename_i h
    rw [ih x, List.mem_append, List.mem_singleton]
    exact ⟨.inl, fun e => e.elim id fun e => by rw [e]; exact List.mem_of_getLast? h⟩
  · rw [List.mem_append, List.mem_append, ih x]
theorem cpO_ss (l : List Oc) : (l.Pairwise fun a b => ltO b a = false) → SSO (cpO l) := by
  refine snocInd (p := fun l => (l.Pairwise fun a b => ltO b a = false) → SSO (cpO l)) (fun _ => List.Pairwise.nil) (fun l y ih h => ?_) l
  rw [List.pairwise_append] at h
  obtain ⟨h1, _, h3⟩ := h
  rw [cpO_step]
  split
  · exact ih h1
  · rename_i hne
    refine List.pairwise_append.2 ⟨ih h1, List.pairwise_singleton _ _, fun a ha b hb => ?_⟩
    rw [List.mem_singleton] at hb
    subst hb
    have ha' := (cpO_mem l a).1 ha
    have q := h3 a ha' b (by simp)
    cases e : ltO a b
    · exfalso
      have hab := ltO_tri e q
      subst hab
      obtain ⟨z, hz⟩ : ∃ z, l.getLast? = some z := by
        cases hl : l.getLast? with
        | none => rw [List.getLast?_eq_none_iff] at hl; subst hl; simp at ha'
        | some z => exact ⟨z, rfl⟩
      rw [hz] at hne
      have hz' := List.mem_of_getLast? hz
      have q2 := h3 z hz' a (by simp)
      have q3 : ltO z a = false := by
        obtain ⟨l', rfl⟩ : ∃ l', l = l' ++ [z] := by
          rcases List.eq_nil_or_concat l with e | ⟨l', b, e⟩
          · subst e; simp at ha'
          · refine ⟨l', ?_⟩
            rw [List.concat_eq_append] at e
            subst e
            simp at hz
            rw [hz]
        rw [List.pairwise_append] at h1
        rcases List.mem_append.1 ha' with e1 | e1
        · exact h1.2.2 a e1 z (by simp)
        · rw [List.mem_singleton] at e1; rw [e1]; exact ltO_irr z
      exact hne (by rw [ltO_tri q3 q2])
    · rfl
abbrev srO (l : List Oc) : List Oc := l.mergeSort fun x y => !ltO y x
theorem srO_sorted (l : List Oc) : (srO l).Pairwise fun a b => ltO b a = false := by
  have h := List.pairwise_mergeSort (le := fun x y : Oc => !ltO y x)
    (fun a b c h k => by
      simp only [Bool.not_eq_true'] at h k ⊢
      exact ltO_swo.ntrans _ _ _ k h)
    (fun a b => by
      cases e : ltO b a
      · simp
      · simp [ltO_asym e]) l
  exact h.imp fun h => by simpa using h
theorem usE_cp (e : Exp) : cpO (srO (occE e)) = usE e [] := by
  rw [usE_fold]
  obtain ⟨h1, h2⟩ := foldO_ss (occE e) (l := []) List.Pairwise.nil
  refine SSO.ext (cpO_ss _ (srO_sorted _)) h1 fun x => ?_
  rw [cpO_mem, h2 x, (List.mergeSort_perm _ _).mem_iff]
  simp
theorem srO_len (l : List Oc) : (srO l).length = l.length := List.length_mergeSort _
mutual
theorem occE_len : ∀ e : Exp, (occE e).length ≤ 1 + wEx e
  | .mk k n p t s m a => by
    have h1 := occEL_len a
    simp only [occE, wEx, List.length_append]
    have h2 : (if k = 3 then [(p, m)] else []).length ≤ 1 := by split <;> simp
    omega
theorem occEL_len : ∀ al : List Exp, (occEL al).length ≤ al.length + wExL al
  | [] => by simp [occEL]
  | e :: r => by
    have h1 := occE_len e
    have h2 := occEL_len r
    simp only [occEL, wExL, List.length_cons, List.length_append]
    omega
end
theorem cpO_len (l : List Oc) : (cpO l).length ≤ l.length := by
  refine snocInd (p := fun l => (cpO l).length ≤ l.length) (Nat.le_refl _) (fun l x ih => ?_) l
  rw [cpO_step]
  split <;> simp <;> omega
theorem cpO_take {l : List Oc} {j : Nat} (h : j + 1 < l.length) : cpO (l.take (j + 2)) = if l[j + 1] = l[j] then cpO (l.take (j + 1)) else cpO (l.take (j + 1)) ++ [l[j + 1]] := by
  have e : l.take (j + 2) = l.take (j + 1) ++ [l[j + 1]] := by rw [List.take_add_one (i := j + 1), List.getElem?_eq_getElem h]; rfl
  have e2 : (l.take (j + 1)).getLast? = some l[j] := by
    rw [List.take_add_one, List.getElem?_eq_getElem (by omega : j < l.length), Option.toList_some, List.getLast?_append]
    rfl
  rw [e, cpO_step, e2]
  simp only [Option.some.injEq]
  by_cases hq : l[j] = l[j + 1]
  · rw [if_pos hq, if_pos hq.symm]
  · rw [if_neg hq, if_neg (fun e => hq e.symm)]
end Go.Gh

/- slices.SortFunc at occurrences: the kit's contract, over ghosts. A slice of own slices. -/
namespace Go.Gh
set_option linter.unusedSimpArgs false
set_option linter.unusedVariables false
open Go.Sort (HoldsK Holds flatK putRowK grow)
open Go.Proofs (sortWorldK)
def encO (o : Oc) : List Value := [.int .i64 o.1, .string o.2]
theorem encO_len (o : Oc) : (encO o).length = 2 := rfl
theorem encO_one (o : Oc) : ∀ v ∈ encO o, v.oneCell' = true := by
  intro v hv
  simp only [encO, List.mem_cons, List.not_mem_nil, or_false] at hv
  rcases hv with rfl | rfl <;> rfl
theorem MF_Occ {w : World} {D : Nat → Prop} : ∀ {l : List Oc} {cs : List Value} {F : List Nat}, MF w D 2 (l.map Occ) cs F → cs = l.flatMap encO ∧ F = []
  | [], cs, F, h => by simpa [MF] using h
  | o :: l, cs, F, h => by
    simp only [List.map_cons, MF] at h
    obtain ⟨v, cs', F1, F2, h1, h2, h3, h4, h5, h6⟩ := h
    obtain ⟨e1, e2⟩ := MF_Occ h6
    simp only [MV, ML] at h5
    obtain ⟨vs, rfl, _, u1, us, G1, G2, rfl, rfl, ⟨rfl, rfl⟩, u2, us2, G3, G4, rfl, rfl, ⟨rfl, rfl⟩, rfl, rfl⟩ := h5
    subst e1 e2 h1 h4
    exact ⟨rfl, rfl⟩
theorem Occ_MF (w : World) (D : Nat → Prop) : ∀ l : List Oc, MF w D 2 (l.map Occ) (l.flatMap encO) []
  | [] => by simp [MF]
  | o :: l => by
    simp only [List.map_cons, MF]
    refine ⟨.agg (encO o).toArray, l.flatMap encO, [], [], rfl, rfl, ?_, rfl, ?_, Occ_MF w D l⟩
    · intro x hx
      exact encO_one o x (by simpa [Value.cells] using hx)
    · simp only [MV, ML]
      exact ⟨encO o, rfl, encO_one o, _, _, [], [], rfl, rfl, ⟨rfl, rfl⟩, _, _, [], [], rfl, rfl, ⟨rfl, rfl⟩, rfl, rfl⟩
theorem flat_len : ∀ l : List Oc, (l.flatMap encO).length = l.length * 2
  | [] => rfl
  | o :: l => by simp only [List.flatMap_cons, List.length_append, flat_len l, List.length_cons, encO_len]; omega
theorem flat_get : ∀ (l : List Oc) (t : Nat), t < l.length * 2 → (l.flatMap encO)[t]? = some ((encO l[t / 2]!)[t % 2]!)
  | [], t, h => by simp at h
  | o :: l, t, h => by
    simp only [List.flatMap_cons]
    match t, h with
    | 0, _ => rfl
    | 1, _ => rfl
    | t + 2, h =>
      have e1 : (t + 2) / 2 = t / 2 + 1 := by omega
      have e2 : (t + 2) % 2 = t % 2 := by omega
      rw [List.getElem?_append_right (by simp [encO_len]), e1, e2, encO_len, Nat.add_sub_cancel, flat_get l t (by simp at h; omega)]
      simp
theorem flatK_toList (l : List Oc) : (flatK encO 2 l.toArray).toList = l.flatMap encO := by
  refine List.ext_getElem? fun t => ?_
  rcases Nat.lt_or_ge t (l.length * 2) with h | h
  · rw [flat_get l t h]
    have h' : t < (flatK encO 2 l.toArray).size := by simpa using h
    rw [Array.getElem?_toList, Array.getElem?_eq_getElem h', ← getElem!_pos (flatK encO 2 l.toArray) t h', Sort.get_flatK _ _ _ _ (by simpa using h)]
    simp
  · rw [List.getElem?_eq_none (l := l.flatMap encO) (by rw [flat_len]; exact h), List.getElem?_eq_none (by simpa using h)]
theorem St.putO {w w' : World} {D : Nat → Prop} {H : GH} {Ω : List Nat} (h : St w D H Ω) {r : Nat} {l l' : List Oc} (hr : hget H r = some (2, l.map Occ)) (hl : l'.length = l.length) (hk : Kept w w' (fun x => r ≠ 2 * x))
    (hos : w'.os = w.os) (htp : w'.tape = w.tape) (hou : w'.output = w.output)
    (hb : ∀ b c T fz, r = 2 * b → w.heap[b]? = some (Obj.cells c T fz) → Thaw c fz → l.length * 2 ≤ c.size → ∃ c', w'.heap[b]? = some (Obj.cells c' T fz) ∧ c'.size = c.size ∧ c'.toList.take (l.length * 2) = l'.flatMap encO) :
    ∃ Ω', St w' D (hset H r (l'.map Occ)) Ω' ∧ Ev w D Ω w' D Ω' := by
  obtain ⟨Ω1, F, Ω2, hΩ, hR, hput, _⟩ := HM.take h.hm hr
  have hDr : ∀ b, F = [b] → r = 2 * b → ∀ x, D x → r ≠ 2 * x := fun b hF e x hx e' => by
    have : x = b := by omega
    subst this
    exact h.dj x (by rw [hΩ, hF]; simp) hx
  rcases hR with ⟨b, c, T, fz, F', k1, k2, k3, k4, k5, k6, k7⟩ | ⟨k1, k2, k3⟩
  · rw [List.length_map] at k4 k5 k7
    obtain ⟨c', c1, c2, c3⟩ := hb b c T fz k1 k2 k3 k4
    obtain ⟨_, e0⟩ := MF_Occ k7
    subst e0
    subst k6 hΩ
    have hnd := h.nd
    have hbΩ : b ∈ Ω1 ++ ([b] ++ Ω2) := by simp
    have hb1 : ∀ x ∈ Ω1 ++ Ω2, r ≠ 2 * x := fun x hx e => by
      have : x = b := by omega
      subst this
      simp only [List.nodup_append, List.nodup_cons, List.mem_append, List.mem_cons, List.cons_append] at hnd hx
      rcases hx with hx | hx
      · exact hnd.2.2 _ hx _ (.inl rfl) rfl
      · exact hnd.2.1.1 (by simpa using hx)
    refine ⟨Ω1 ++ ([b] ++ Ω2), ⟨hput w' D (fun x => r ≠ 2 * x) _ _ hk (hDr b rfl k1) (fun _ h => h) hb1 ?_, hnd, by rw [names_hset]; exact h.nn, h.dj, fun x hx => Nat.lt_of_lt_of_le (h.ds x hx) hk.size⟩,
      ⟨fun _ h => h, fun _ _ h => .inl h, fun x hx _ => hx, hk.mono ?_, hos, htp, hou⟩⟩
    · refine .inl ⟨b, c', T, fz, [], k1, c1, ?_, by rw [List.length_map, hl, c2]; exact k4, by rw [List.length_map, hl]; exact k5, rfl, ?_⟩
      · unfold Thaw at *; rw [c2]; exact k3
      · rw [List.length_map, hl, c3]; exact Occ_MF w' D l'
    · intro x _ hx e
      have : x = b := by omega
      subst this
      exact hx hbΩ
  · have e0 : l = [] := by simpa using k2
    subst e0 k3 hΩ
    have e1 : l' = [] := List.eq_nil_of_length_eq_zero hl
    subst e1
    have hne : ∀ x : Nat, r ≠ 2 * x := fun x e => by omega
    exact ⟨_, ⟨hput w' D (fun x => r ≠ 2 * x) _ [] hk (fun x _ => hne x) (fun _ h => h) (fun x _ => hne x) (.inr ⟨k1, rfl, rfl⟩), h.nd, by rw [names_hset]; exact h.nn, h.dj, fun x hx => Nat.lt_of_lt_of_le (h.ds x hx) hk.size⟩,
      ⟨fun _ h => h, fun _ _ h => .inl h, fun x hx _ => hx, hk.mono fun x _ _ => hne x, hos, htp, hou⟩⟩
theorem kept_sort {w : World} {b n : Nat} {dk : Array Oc} {os : Array Obj} : Kept w (sortWorldK encO 2 w b 0 n dk os) (fun x => x ≠ b) := by
  have hsz : (putRowK encO 2 (Sort.ahead w n) b 0 dk).heap.size = w.heap.size := by simp [putRowK, Sort.putRow, Sort.mapBlock, Sort.ahead]
  have hget : ∀ x, x < w.heap.size → (sortWorldK encO 2 w b 0 n dk os).heap[x]? = (putRowK encO 2 (Sort.ahead w n) b 0 dk).heap[x]? := fun x hx => by
    show ((putRowK encO 2 (Sort.ahead w n) b 0 dk).heap ++ os)[x]? = _
    rw [Array.getElem?_append_left (by rw [hsz]; exact hx)]
  refine ⟨fun x hx hne => ?_, ?_, fun x c T fz hx => ?_⟩
  · rw [hget x hx]
    simp only [putRowK, Sort.putRow, Sort.mapBlock, Sort.ahead, Array.getElem?_modify]
    rw [if_neg (fun e => hne e.symm)]
  · show w.heap.size ≤ ((putRowK encO 2 (Sort.ahead w n) b 0 dk).heap ++ os).size
    rw [Array.size_append, hsz]; omega
  · rw [hget x (lt_of_heap hx)]
    simp only [putRowK, Sort.putRow, Sort.mapBlock, Sort.ahead, Array.getElem?_modify]
    by_cases e : b = x
    · subst e
      simp only [if_true, hx, Option.map_some, Sort.onCells]
      exact ⟨_, _, rfl, by simp [Sort.putCells]⟩
    · rw [if_neg e]; exact ⟨c, fz, hx, rfl⟩
theorem cells_sort {w : World} {b n : Nat} {dk : List Oc} {os : Array Obj} {c : Array Value} {T : TypeId} {fz : Nat × Nat} (hx : w.heap[b]? = some (.cells c T fz)) (hs : dk.length * 2 ≤ c.size) :
    ∃ c', (sortWorldK encO 2 w b 0 n dk.toArray os).heap[b]? = some (.cells c' T fz) ∧ c'.size = c.size ∧ c'.toList.take (dk.length * 2) = dk.flatMap encO := by
  have hsz : (putRowK encO 2 (Sort.ahead w n) b 0 dk.toArray).heap.size = w.heap.size := by simp [putRowK, Sort.putRow, Sort.mapBlock, Sort.ahead]
  have e : (sortWorldK encO 2 w b 0 n dk.toArray os).heap[b]? = (putRowK encO 2 (Sort.ahead w n) b 0 dk.toArray).heap[b]? := by
    show ((putRowK encO 2 (Sort.ahead w n) b 0 dk.toArray).heap ++ os)[b]? = _
    rw [Array.getElem?_append_left (by rw [hsz]; exact lt_of_heap hx)]
  rw [e]
  simp only [putRowK, Sort.putRow, Sort.mapBlock, Sort.ahead, Array.getElem?_modify, if_true, hx, Option.map_some, Sort.onCells]
  refine ⟨_, rfl, by simp [Sort.putCells], ?_⟩
  rw [← flatK_toList]
  refine List.ext_getElem? fun t => ?_
  rcases Nat.lt_or_ge t (dk.length * 2) with h | h
  · have h1 : t < c.size := by omega
    have h' : t < (flatK encO 2 dk.toArray).size := by simpa using h
    rw [List.getElem?_take_of_lt h, Array.getElem?_toList, Array.getElem?_toList, Array.getElem?_eq_getElem h']
    simp only [Sort.putCells, Array.getElem?_mapIdx, Array.getElem?_eq_getElem h1, Option.map_some]
    rw [if_pos ⟨Nat.zero_le _, by simpa using h⟩, Nat.sub_zero, getElem!_pos (flatK encO 2 dk.toArray) t h']
    rfl
  · rw [List.getElem?_eq_none (by simp; omega), List.getElem?_eq_none (by simpa using h)]
theorem sort_ok {P : Program} {fs g : Nat} (hc : ∀ (w : World) (b cap : Nat) (d : Array Oc), HoldsK encO 2 w b 0 d → b < w.heap.size → d.size < 4611686018427387904 →
      Calls P fs #[.slice (some ⟨b, 0, none⟩) d.size cap, .func (.func g) #[] #[]] w fun e w' => e = .returned (.tuple #[]) ∧ ∃ n os, w' = sortWorldK encO 2 w b 0 n (srO d.toList).toArray os)
    (h0 : ∀ (p : Option Addr) (cap : Nat) (fv : Value) (w : World), Calls P fs #[.slice p 0 cap, fv] w fun e w' => e = .returned (.tuple #[]) ∧ w' = w)
    (eg : ∀ args w, (callFunc fs args).run P w = .ok (.enter fs args) w)
    {r n : Nat} {l : List Oc} {H : GH} (hr : hget H r = some (2, l.map Occ)) (hn : l.length = n) (hb : n < 4611686018427387904) :
    GCalls P fs [.own r 2 0 n, .clo g []] H (fun v H' => v = uG ∧ H' = hset H r ((srO l).map Occ)) := by
  intro w D Ω args hst hargs
  simp only [ML] at hargs
  obtain ⟨v1, vs1, F1, F2, rfl, e1, hv1, v2, vs2, F3, F4, rfl, e2, hv2, rfl, e3⟩ := hargs
  simp only [MV, ML] at hv1 hv2
  obtain ⟨rfl, hv1⟩ := hv1
  obtain ⟨rfl, vs, rfl, rfl, _⟩ := hv2
  rw [eg]
  show Calls P fs _ w _
  by_cases hz : n = 0
  · have e0 : l = [] := List.eq_nil_of_length_eq_zero (by omega)
    subst e0
    have hH : hset H r ((srO []).map Occ) = H := by
      have : srO [] = [] := by simp [srO]
      rw [this]; exact hset_self hr
    have key : ∀ p cap, v1 = .slice p 0 cap → Calls P fs #[v1, .func (.func g) #[] #[]] w (fun e w'' => ∃ v, e = .returned v ∧ Post w D Ω (fun v H' => v = uG ∧ H' = hset H r ((srO []).map Occ)) v w'') := fun p cap e => by
      subst e
      refine (h0 p cap _ w).mono ?_
      rintro e w' ⟨rfl, rfl⟩
      exact ⟨_, rfl, Post.here hst ⟨rfl, hH.symm⟩ (MV.val_mk _)⟩
    rcases hv1 with ⟨b, cap, c, T, fz, q0, hp, _⟩ | ⟨_, a, hp⟩
    · rw [hz] at hp; exact key _ _ hp
    · exact key _ _ hp
  · rcases hv1 with ⟨b, cap, c, T, fz, q0, hp, q1, q2, q3⟩ | ⟨q, _⟩
    case inr => exact absurd q hz
    rw [Nat.zero_mul] at hp
    subst hp
    obtain ⟨F, hF, hFΩ⟩ := hst.hm.mem hr
    obtain ⟨b', c', T', fz', F', k1, k2, k3, k4, k5, k6, k7⟩ := hF.es_ne (fun e => by
      have : l = [] := by simpa using e
      subst this; exact hz (by simpa using hn.symm))
    have : b' = b := by omega
    subst this
    rw [q2] at k2
    simp only [Option.some.injEq, Obj.cells.injEq] at k2
    obtain ⟨rfl, rfl, rfl⟩ := k2
    rw [List.length_map] at k4 k7
    obtain ⟨hcs, _⟩ := MF_Occ k7
    have hH : HoldsK encO 2 w b' 0 l.toArray := by
      intro j hj
      have hj' : j < l.length * 2 := by simpa using hj
      have hjc : j < c.size := by omega
      have hx := flat_get l j hj'
      rw [← hcs, List.getElem?_take_of_lt hj', Array.getElem?_toList] at hx
      refine ⟨?_, ?_⟩
      · rw [Nat.zero_add]
        simp only [World.cell?, q2, Option.isSome_none, Bool.false_eq_true, if_false, hx, id]
        rw [Sort.get_flatK _ _ _ _ (by simpa using hj')]
        simp
      · rw [Nat.zero_add]
        simp only [World.frozen?, q2]
        exact k3 j hjc
    have hcall := hc w b' cap l.toArray hH (lt_of_heap q2) (by simpa [hn] using hb)
    have hsz : l.toArray.size = n := by simpa using hn
    rw [hsz] at hcall
    refine hcall.mono ?_
    rintro e w' ⟨rfl, m, os, rfl⟩
    have hkp : Kept w (sortWorldK encO 2 w b' 0 m (srO l).toArray os) (fun x => r ≠ 2 * x) := (kept_sort (b := b')).mono fun x _ hx e => hx (by omega)
    obtain ⟨Ω', c1, c2⟩ := hst.putO (l' := srO l) hr (srO_len l) hkp rfl rfl rfl (fun b c2 T2 fz2 e1 e2 _ hs => by
      have : b = b' := by omega
      subst this
      rw [q2] at e2
      simp only [Option.some.injEq, Obj.cells.injEq] at e2
      obtain ⟨rfl, rfl, rfl⟩ := e2
      have := cells_sort (n := m) (dk := srO l) (os := os) q2 (by rw [srO_len]; exact hs)
      rwa [srO_len] at this)
    exact ⟨_, rfl, _, _, D, Ω', ⟨rfl, rfl⟩, MV.val_mk _, c1, c2⟩
open Go.Proofs (ltOf)
theorem ltS_or (x y : ByteArray) : (Op.bytesLess x.data.toList y.data.toList || x.data.toList == y.data.toList) = !ltN y x := by
  have h := ltN_irr x
  cases e1 : ltN x y
  · cases e2 : ltN y x
    · have := ltN_tri e1 e2
      subst this
      simp
    · have e3 : Op.bytesLess x.data.toList y.data.toList = false := e1
      rw [e3]
      simp only [Bool.false_or, Bool.not_true, beq_eq_false_iff_ne]
      intro e4
      have : x = y := chars_inj.1 e4
      subst this
      rw [h] at e2; cases e2
  · have e2 : ltN y x = false := by
      cases q : ltN y x
      · rfl
      · have := ltN_trans e1 q; rw [h] at this; cases this
    have e3 : Op.bytesLess x.data.toList y.data.toList = true := e1
    rw [e3, e2]; rfl
theorem cellA (W : World) (cs : Array Value) (T : TypeId) (i : Nat) : (W.alloc (.cells cs T)).cell? ⟨W.heap.size, i, none⟩ = cs[i]? := by
  simp only [World.cell?, hp_new]; rfl
theorem cellB (W : World) (o : Obj) (b i : Nat) (h : b < W.heap.size) : (W.alloc o).cell? ⟨b, i, none⟩ = W.cell? ⟨b, i, none⟩ := by
  simp only [World.cell?, hp_old _ _ _ h]
theorem cell1a (W : World) (v0 v1 : Value) (T : TypeId) : ((W.alloc (.cells #[v0, v1] T)).drew).cell? ⟨W.heap.size, 0, none⟩ = some v0 := cellA W _ T 0
theorem cell1b (W : World) (v0 v1 : Value) (T : TypeId) : ((W.alloc (.cells #[v0, v1] T)).drew).cell? ⟨W.heap.size, 1, none⟩ = some v1 := cellA W _ T 1
theorem sizeA (W : World) (o : Obj) : (W.alloc o).heap.size = W.heap.size + 1 := by simp
def cfO (x y : Oc) : Int := if (if x.1 < y.1 then (-1 : Int) else if y.1 < x.1 then 1 else 0) ≠ 0 then (if x.1 < y.1 then -1 else if y.1 < x.1 then 1 else 0) else if ltN x.2 y.2 = true then -1 else if ltN y.2 x.2 = true then 1 else 0
theorem cfO_lt (x y : Oc) : ltOf cfO x y = ltO x y := by
  unfold ltOf cfO ltO
  by_cases h1 : x.1 < y.1
  · simp [h1]
  · by_cases h2 : y.1 < x.1
    · have : ¬ x.1 = y.1 := by omega
      simp [h1, h2, this]
    · have : x.1 = y.1 := by omega
      cases e1 : ltN x.2 y.2
      · cases e2 : ltN y.2 x.2 <;> simp [h1, h2, this, e1, e2]
      · simp [h1, h2, this, e1]
theorem cfO_eq : ltOf cfO = ltO := funext fun x => funext fun y => cfO_lt x y
end Go.Gh

/- Checks of a grammar. -/
namespace Go.Gh
set_option linter.unusedSimpArgs false
set_option linter.unusedVariables false
def firstI (n : Nat) (p : Nat → Bool) : Int := match (List.range n).find? p with
  | some i => i
  | none => -1
theorem firstI_hit {n i : Nat} {p : Nat → Bool} (h : i < n) (hp : p i = true) (hn : ∀ j, j < i → p j = false) : firstI n p = i := by
  have e : (List.range n).find? p = some i := by
    rw [List.find?_range_eq_some]
    exact ⟨hp, by simpa using h, fun j hj => by simp [hn j hj]⟩
  simp [firstI, e]
theorem firstI_none {n : Nat} {p : Nat → Bool} (hn : ∀ j, j < n → p j = false) : firstI n p = -1 := by
  have e : (List.range n).find? p = none := by
    rw [List.find?_eq_none]
    intro j hj
    rw [hn j (by simpa using hj)]
    simp
  simp [firstI, e]
theorem firstI_rng (n : Nat) (p : Nat → Bool) : firstI n p = -1 ∨ (0 ≤ firstI n p ∧ firstI n p < n) := by
  unfold firstI
  cases e : (List.range n).find? p with
  | none => exact .inl rfl
  | some i =>
    have := List.mem_of_find?_eq_some e
    simp at this
    refine .inr ⟨?_, ?_⟩
    · show (0 : Int) ≤ (i : Int)
      omega
    · show (i : Int) < n
      omega
theorem firstI_no {n : Nat} {p : Nat → Bool} (h : firstI n p = -1) {j : Nat} (hj : j < n) : p j = false := by
  unfold firstI at h
  cases e : (List.range n).find? p with
  | none =>
    rw [List.find?_eq_none] at e
    simpa using e j (by simpa using hj)
  | some i =>
    rw [e] at h
    have h' : (i : Int) = -1 := h
    omega
theorem lt_step {p : Nat → Bool} {i : Nat} {b : Bool} (h : p i = b) (hn : ∀ j, j < i → p j = b) : ∀ j, j < i + 1 → p j = b := fun j hj => by
  rcases Nat.lt_succ_iff_lt_or_eq.1 hj with e | e
  · exact hn j e
  · rw [e]; exact h
theorem rngAll_no {n i : Nat} {p : Nat → Bool} (h : i < n) (hp : p i = false) : (List.range n).all p = false := by
  rw [List.all_eq_false]
  exact ⟨i, by simpa using h, by simp [hp]⟩
theorem rngAll_yes {n : Nat} {p : Nat → Bool} (h : ∀ j, j < n → p j = true) : (List.range n).all p = true := by
  rw [List.all_eq_true]
  intro j hj
  exact h j (by simpa using hj)
theorem all_no {α : Type} {p : α → Bool} {l : List α} {i : Nat} (h : i < l.length) (hp : p l[i] = false) : l.all p = false := by
  rw [List.all_eq_false]
  exact ⟨l[i], List.getElem_mem h, by simp [hp]⟩
theorem any_yes {α : Type} {p : α → Bool} {l : List α} {i : Nat} (h : i < l.length) (hp : p l[i] = true) : l.any p = true := by
  rw [List.any_eq_true]
  exact ⟨l[i], List.getElem_mem h, hp⟩
theorem all_yes {α : Type} {p : α → Bool} {l : List α} (h : ∀ a ∈ l, p a = true) : l.all p = true := List.all_eq_true.2 h
theorem any_no {α : Type} {p : α → Bool} {l : List α} (h : ∀ a ∈ l, p a = false) : l.any p = false := by
  rw [List.any_eq_false]
  intro a ha
  rw [h a ha]; simp
theorem takeP_step {α : Type} {p : α → Bool} {l : List α} {i : Nat} {b : Bool} (h : i < l.length) (hp : p l[i] = b) (hn : ∀ a ∈ l.take i, p a = b) : ∀ a ∈ l.take (i + 1), p a = b := by
  intro a ha
  rw [List.take_add_one, List.getElem?_eq_getElem h, Option.toList_some, List.mem_append] at ha
  rcases ha with ha | ha
  · exact hn a ha
  · simp only [List.mem_singleton] at ha; rw [ha]; exact hp
def attV (a : Att) : Bool := nameV a.name && (decide (1 ≤ a.type ∧ a.type ≤ 4) && (decide (1 ≤ a.mode ∧ a.mode ≤ 3) && (if a.mode = 3 then decide (a.type = 2) && !a.circ else !a.circ || decide (a.type = 2))))
def dupA (l : List Att) (i : Nat) : Bool := (l.take i).any fun o => decide (o.name = (l.getD i attZ).name)
def symV (s : Sym) : Bool := s.atts.all attV && ((List.range s.atts.length).all fun i => !dupA s.atts i) && (nameV s.name && decide (s.atts.length ≤ 4))
def fitE (e : Exp) (n : Int) : Bool := validE e && allE (fun x => decide (x.pos ≤ n)) e
def eqnV (n : Nat) (q : Eqn) : Bool := fitE q.expr n && (nameV q.name && decide (0 ≤ q.pos ∧ q.pos ≤ n))
def conV (n : Nat) (c : Con) : Bool := fitE c.goal n && (fitE c.value n && (nameV c.sym && nameV c.name))
def rulV (r : Rul) : Bool := nameV r.name && (nameV r.left && (decide (r.right.length ≤ 3) && (decide (r.cons.length ≤ 2) && (r.right.all nameV && (r.eqs.all (eqnV r.right.length) && r.cons.all (conV r.right.length))))))
def symB (g : Gram) (i : Nat) : Bool := !symV (g.syms.getD i symZ) || (g.syms.take i).any fun o => decide (o.name = (g.syms.getD i symZ).name)
def rulB (g : Gram) (i : Nat) : Bool := !rulV (g.rules.getD i rulZ) || (g.rules.take i).any fun o => decide (o.name = (g.rules.getD i rulZ).name)
def sfI (g : Gram) : Int := if 0 ≤ firstI g.syms.length (symB g) then firstI g.syms.length (symB g) else firstI g.rules.length (rulB g)
def reqP (g : Gram) (r : Rul) (pos : Nat) : List Oc := ((fSym g.syms (symAt r pos)).atts.filter fun a => decide (a.mode = if pos = 0 then 2 else 1)).map fun a => ((pos : Int), a.name)
def reqA (g : Gram) (r : Rul) : Nat → List Oc
  | 0 => []
  | n + 1 => reqA g r n ++ reqP g r n
def reqO (g : Gram) (r : Rul) : List Oc := reqA g r (r.right.length + 1)
def mayU (g : Gram) (r : Rul) (o : Oc) : Bool := hasAt g r o.1 o.2 && decide ((attAt g r o.1 o.2).mode = if o.1 = 0 then 1 else 2)
def unkR (g : Gram) (r : Rul) : Bool := !((List.range (r.right.length + 1)).all fun pos => hSym g.syms (symAt r pos))
def misR (g : Gram) (r : Rul) : Bool := (reqO g r).any fun o => !(eqnF r o).isSome
def hasO (l : List Oc) (o : Oc) : Bool := l.any fun y => decide (y = o)
def atQ (q : Eqn) : Oc := (q.pos, q.name)
def extR (g : Gram) (r : Rul) : Bool := !((List.range r.eqs.length).all fun i => hasO (reqO g r) ((r.eqs.map atQ).getD i (0, noS)) && !hasO ((r.eqs.map atQ).take i) ((r.eqs.map atQ).getD i (0, noS)))
def useB (g : Gram) (r : Rul) (e : Exp) : Bool := (usE e []).any fun o => !mayU g r o
def expR (r : Rul) : List Exp := r.eqs.map (·.expr) ++ r.cons.flatMap fun c => [c.goal, c.value]
def misU (g : Gram) (r : Rul) : Bool := (expR r).any (useB g r)
def brk (g : Gram) (r : Rul) (c : Nat) : Bool := if c = 3 then unkR g r else if c = 4 then misR g r else if c = 5 then extR g r else misU g r
def brF (g : Gram) (c : Nat) : Int := firstI g.rules.length fun i => brk g (g.rules.getD i rulZ) c
def shpC (g : Gram) : Int × Int :=
  if ¬ ((1 ≤ g.syms.length ∧ g.syms.length ≤ 4) ∧ (1 ≤ g.rules.length ∧ g.rules.length ≤ 8)) then (1, 0)
  else if 0 ≤ sfI g then (1, sfI g)
  else if ((g.syms.getD 0 symZ).atts.any fun a => decide (a.mode = 1)) = true then (2, 0)
  else if 0 ≤ brF g 3 then (3, brF g 3) else if 0 ≤ brF g 4 then (4, brF g 4) else if 0 ≤ brF g 5 then (5, brF g 5) else if 0 ≤ brF g 6 then (6, brF g 6) else (0, 0)
def misT (g : Gram) (r : Rul) : Bool := (r.eqs.any fun q => !decide (tyE g r q.expr = (attAt g r q.pos q.name).type)) ||
  r.cons.any fun c => !decide (tyE g r c.goal = 4) || (!decide (tyE g r c.value = 2) || !decide ((fAtt (fSym g.syms c.sym).atts c.name).mode = 3))
def hOf (g : Gram) (out : List Int) (n : ByteArray) : Int := if ixOf (fun s : Sym => decide (s.name = n)) g.syms < 0 then 0 else out.getD (ixOf (fun s : Sym => decide (s.name = n)) g.syms).toNat 0
def rchR (g : Gram) (out : List Int) (s : ByteArray) (r : Rul) : Bool := decide (r.left = s) && r.right.all fun c => decide (0 < hOf g out c)
def rchS (g : Gram) (out : List Int) (s : ByteArray) : Bool := g.rules.any (rchR g out s)
def hNext (g : Gram) (round : Int) (out : List Int) (i : Nat) : Int := if 0 < out.getD i 0 then out.getD i 0 else if rchS g out (g.syms.getD i symZ).name then round else out.getD i 0
def hIt (g : Gram) : Nat → List Int
  | 0 => List.replicate g.syms.length 0
  | k + 1 => (List.range g.syms.length).map (hNext g ((k : Int) + 1) (hIt g k))
def hgts (g : Gram) : List Int := hIt g g.syms.length
def minH (g : Gram) (n : ByteArray) : Int := hOf g (hgts g) n
theorem hIt_len (g : Gram) : ∀ k, (hIt g k).length = g.syms.length
  | 0 => by simp [hIt]
  | k + 1 => by simp [hIt]
theorem hIt_nn (g : Gram) : ∀ k, ∀ x ∈ hIt g k, 0 ≤ x
  | 0, x, h => by simp [hIt] at h; omega
  | k + 1, x, h => by
    simp only [hIt, List.mem_map, List.mem_range] at h
    obtain ⟨i, hi, rfl⟩ := h
    have hg : 0 ≤ (hIt g k).getD i 0 := by
      rw [getD_lt (by rw [hIt_len]; exact hi)]
      exact hIt_nn g k _ (List.getElem_mem _)
    simp only [hNext]
    split
    · exact hg
    · split
      · omega
      · exact hg
def tyF (g : Gram) : Int := firstI g.rules.length fun i => misT g (g.rules.getD i rulZ)
def emF (g : Gram) : Int := firstI g.syms.length fun i => decide ((hgts g).getD i 0 = 0)
def chkG (g : Gram) : Int × Int :=
  if (shpC g).1 ≠ 0 then shpC g else if 0 ≤ tyF g then (7, tyF g) else if 0 ≤ emF g then (8, emF g) else (0, 0)
end Go.Gh

/- Inputs of instances; orders and cycles. -/
namespace Go.Gh
set_option linter.unusedSimpArgs false
set_option linter.unusedVariables false
theorem usE_sm {e : Exp} (h : wEx e ≤ 1048576) : (usE e []).length ≤ 1048577 := by
  have h2 := usE_len e []
  simp only [List.length_nil] at h2
  omega
def ixI (L : List Oc) (y : Oc) : Int := ixOf (fun z => decide (z = y)) L
def dC (T : List (List Int)) (goal : Nat) (d : Nat) (out : List Int) (k : Int) : Bool :=
  if d = 1 then decide (k = goal) else decide (k ≠ goal) && decide (0 ≤ k) && decide (out.getD k.toNat 0 = (d : Int) - 1)
def dS (T : List (List Int)) (goal : Nat) (d : Nat) (out : List Int) (i : Nat) : Int :=
  if out.getD i 0 ≠ 0 then out.getD i 0 else if (T.getD i []).any (dC T goal d out) then d else 0
def dL (T : List (List Int)) (goal : Nat) : Nat → List Int
  | 0 => List.replicate T.length 0
  | d + 1 => (List.range T.length).map (dS T goal (d + 1) (dL T goal d))
def dst (T : List (List Int)) (goal : Nat) : List Int := dL T goal T.length
end Go.Gh

/- Calls under a heap in another order; names that differ from the start. -/
namespace Go.Gh
set_option linter.unusedSimpArgs false
set_option linter.unusedVariables false
theorem GCalls.nd {P : Program} {f : FuncId} {gs : List GV} {H : GH} {R : GV → GH → Prop} (h : (names H).Nodup → GCalls P f gs H R) : GCalls P f gs H R :=
  fun w D Ω args hst hargs => h hst.nn w D Ω args hst hargs
theorem GCalls.sub {P : Program} {f : FuncId} {gs : List GV} {H L T : GH} {R : GV → GH → Prop} (hs : subH H L) (h : GCalls P f gs (L ++ T) R) : GCalls P f gs (H ++ T) R := by
  intro w D Ω args hst hargs
  obtain ⟨Ω', h1, h2⟩ := hst.sub hs
  refine Yld.mono (fun v w' ⟨g, H', D', Ω'', k1, k2, k3, k4⟩ => ?_) (h w D Ω' args h1 hargs)
  exact ⟨g, H', D', Ω'', k1, k2, k3, ⟨k4.d0, fun b hb hD => (k4.dn b hb hD).imp id (h2 b), fun b hb hl => h2 b (k4.on b hb hl), k4.kp.mono fun b _ hb hb' => hb (h2 b hb'), k4.os, k4.tape, k4.output⟩⟩
theorem drop_get {α : Type} {X L : List α} {a i : Nat} (h : X.drop a = L.drop a) (ha : a ≤ i) (hx : i < X.length) (hl : i < L.length) : X[i] = L[i] := by
  have e := congrArg (fun l : List α => l[i - a]?) h
  simp only [List.getElem?_drop] at e
  rw [show a + (i - a) = i by omega, List.getElem?_eq_getElem hx, List.getElem?_eq_getElem hl] at e
  exact Option.some.inj e
theorem cpO_next {l : List Oc} {j : Nat} (h1 : 1 ≤ j) (h : j < l.length) : cpO (l.take (j + 1)) = if l[j] = l[j - 1] then cpO (l.take j) else cpO (l.take j) ++ [l[j]] := by
  obtain ⟨i, rfl⟩ : ∃ i, j = i + 1 := ⟨j - 1, by omega⟩
  exact cpO_take h
theorem cpO_short {l : List Oc} (h : l.length ≤ 1) : cpO l = l := by
  match l, h with
  | [], _ => rfl
  | [a], _ => rfl
def occ1 (e : Exp) : List Oc := if e.kind = 3 then [(e.pos, e.name)] else []
theorem occE_eq (e : Exp) : occE e = occ1 e ++ occEL e.args := by cases e; rfl
theorem occEL_app (al bl : List Exp) : occEL (al ++ bl) = occEL al ++ occEL bl := by
  induction al with
  | nil => simp [occEL]
  | cons a al ih => simp only [List.cons_append, occEL, ih, List.append_assoc]
theorem occEL_step {al : List Exp} {i : Nat} (h : i < al.length) : occEL (al.take (i + 1)) = occEL (al.take i) ++ occE al[i] := by
  have hs : ∀ (al : List Exp) (e : Exp), occEL (al ++ [e]) = occEL al ++ occE e := by
    intro al e
    induction al with
    | nil => simp [occEL]
    | cons a al ih => simp only [List.cons_append, occEL, ih, List.append_assoc]
  rw [List.take_add_one, List.getElem?_eq_getElem h]
  exact hs _ _
def cpI (L : List Oc) (m j : Nat) (X : List Oc) : Prop := 1 ≤ j ∧ m + 1 + j ≤ L.length ∧ X.length = L.length ∧ (cpO (L.take (m + 1 + j))).length ≤ m + j ∧
  X.take (cpO (L.take (m + 1 + j))).length = cpO (L.take (m + 1 + j)) ∧ X.drop (m + j) = L.drop (m + j)
theorem cpI_eq {L X : List Oc} {m j i : Nat} (h : cpI L m j X) (hl : m + 1 + j < L.length) (hi : i = m + j) (h1 : m + 1 + j < X.length) (h2 : i < X.length) (he : X[m + 1 + j] = X[i]) :
    cpI L m (j + 1) X ∧ cpO (L.take (m + 1 + (j + 1))) = cpO (L.take (m + 1 + j)) := by
  subst hi
  obtain ⟨a1, a2, a3, a4, a5, a6⟩ := h
  have q1 : X[m + j] = L[m + j]'(by omega) := drop_get a6 (Nat.le_refl _) h2 (by omega)
  have q2 : X[m + 1 + j] = L[m + 1 + j] := drop_get a6 (by omega) h1 hl
  have e := cpO_next (l := L) (j := m + 1 + j) (by omega) hl
  rw [if_pos (by rw [← q2, he, q1]; congr 1; omega)] at e
  have e' : cpO (L.take (m + 1 + (j + 1))) = cpO (L.take (m + 1 + j)) := e
  refine ⟨⟨by omega, by omega, a3, by rw [e']; omega, by rw [e']; exact a5, ?_⟩, e'⟩
  have := congrArg (List.drop 1) a6
  simpa [List.drop_drop, Nat.add_assoc] using this
theorem cpI_ne {L X : List Oc} {m j i : Nat} (h : cpI L m j X) (hl : m + 1 + j < L.length) (hi : i = m + j) (h1 : m + 1 + j < X.length) (h2 : i < X.length) (he : X[m + 1 + j] ≠ X[i]) :
    cpI L m (j + 1) (X.set (cpO (L.take (m + 1 + j))).length X[m + 1 + j]) ∧ (cpO (L.take (m + 1 + (j + 1)))).length = (cpO (L.take (m + 1 + j))).length + 1 := by
  subst hi
  obtain ⟨a1, a2, a3, a4, a5, a6⟩ := h
  have q1 : X[m + j] = L[m + j]'(by omega) := drop_get a6 (Nat.le_refl _) h2 (by omega)
  have q2 : X[m + 1 + j] = L[m + 1 + j] := drop_get a6 (by omega) h1 hl
  have e := cpO_next (l := L) (j := m + 1 + j) (by omega) hl
  have hne : ¬ L[m + 1 + j] = L[m + 1 + j - 1]'(by omega) := fun q => he (by
    rw [q2, q1, q]; congr 1; omega)
  rw [if_neg hne] at e
  have e' : cpO (L.take (m + 1 + (j + 1))) = cpO (L.take (m + 1 + j)) ++ [L[m + 1 + j]] := e
  have el : (cpO (L.take (m + 1 + (j + 1)))).length = (cpO (L.take (m + 1 + j))).length + 1 := by rw [e']; simp
  refine ⟨⟨by omega, by omega, by simpa using a3, by rw [el]; omega, ?_, ?_⟩, el⟩
  · rw [el, e', List.take_add_one, List.getElem?_set_self (by omega), List.take_set_of_le (Nat.le_refl _), a5, q2]
    rfl
  · rw [List.drop_set_of_lt (by omega)]
    have := congrArg (List.drop 1) a6
    simpa [List.drop_drop, Nat.add_assoc] using this
end Go.Gh

/- Checks of a grammar: steps. -/
namespace Go.Gh
set_option linter.unusedSimpArgs false
set_option linter.unusedVariables false
theorem bor_TS {H : GH} {r n : Nat} {l : List ByteArray} (hr : hget H r = some (1, l.map T)) (hn : l.length = n) : Bor H (.own r 1 0 n) (TS l) := Bor.allM (fun _ => rfl) hr hn
theorem bor_OcS {H : GH} {r n : Nat} {l : List Oc} (hr : hget H r = some (2, l.map Occ)) (hn : l.length = n) : Bor H (.own r 2 0 n) (OcS l) := Bor.allM (fun _ => rfl) hr hn
theorem bor_ExS {H : GH} {r n : Nat} {l : List Exp} (hr : hget H r = some (7, l.map Ex)) (hn : l.length = n) : Bor H (.own r 7 0 n) (ExS l) := Bor.allM view_Ex hr hn
theorem symV_a {s : Sym} {i : Nat} (h : i < s.atts.length) (hb : attV s.atts[i] = false) : symV s = false := by
  simp only [symV, all_no h hb, Bool.false_and]
theorem symV_d {s : Sym} {i : Nat} (h : i < s.atts.length) (hb : dupA s.atts i = true) : symV s = false := by
  simp only [symV, rngAll_no (p := fun i => !dupA s.atts i) h (by simp [hb]), Bool.false_and, Bool.and_false]
theorem symV_ok {s : Sym} (h1 : ∀ a ∈ s.atts, attV a = true) (h2 : ∀ j, j < s.atts.length → dupA s.atts j = false) : symV s = (nameV s.name && decide (s.atts.length ≤ 4)) := by
  have e := rngAll_yes (n := s.atts.length) (p := fun i => !dupA s.atts i) (fun j hj => by simp [h2 j hj])
  simp only [symV, all_yes h1, e, Bool.true_and]
def dstS (l : List ByteArray) : Bool := (List.range l.length).all fun i => !hasS (l.take i) (l.getD i noS)
theorem dstS_no {l : List ByteArray} {i : Nat} (h : i < l.length) (hb : hasS (l.take i) l[i] = true) : dstS l = false :=
  rngAll_no (p := fun i => !hasS (l.take i) (l.getD i noS)) h (by rw [getD_lt h, hb]; rfl)
theorem dstS_yes {l : List ByteArray} (h : ∀ j (hj : j < l.length), hasS (l.take j) l[j] = false) : dstS l = true :=
  rngAll_yes (p := fun i => !hasS (l.take i) (l.getD i noS)) (fun j hj => by rw [getD_lt hj, h j hj]; rfl)
theorem hasS_map {α : Type} (f : α → ByteArray) (l : List α) (s : ByteArray) : hasS (l.map f) s = l.any fun o => decide (f o = s) := by
  simp only [hasS, List.any_map]; rfl
theorem dupA_eq {l : List Att} {i : Nat} (h : i < l.length) : dupA l i = (l.take i).any fun o => decide (o.name = l[i].name) := by
  simp only [dupA, getD_lt h]
theorem dstS_atts (l : List Att) : dstS (l.map (·.name)) = (List.range l.length).all fun i => !dupA l i := by
  simp only [dstS, List.length_map]
  apply Bool.eq_iff_iff.2
  simp only [List.all_eq_true, List.mem_range]
  constructor
  · intro h j hj
    have := h j hj
    rw [← List.map_take, hasS_map, getD_lt (by simpa using hj), List.getElem_map] at this
    rw [dupA_eq hj]; exact this
  · intro h j hj
    have := h j hj
    rw [← List.map_take, hasS_map, getD_lt (by simpa using hj), List.getElem_map]
    rw [dupA_eq hj] at this; exact this
theorem symV_spec {s : Sym} (h1 : ∀ a ∈ s.atts, attV a = true) : symV s = (nameV s.name && (decide (s.atts.length ≤ 4) && dstS (s.atts.map (·.name)))) := by
  rw [dstS_atts]
  simp only [symV, all_yes h1, Bool.true_and]
  cases nameV s.name <;> cases (List.range s.atts.length).all fun i => !dupA s.atts i <;> simp
theorem rulV_r {r : Rul} {i : Nat} (h : i < r.right.length) (hb : nameV r.right[i] = false) : rulV r = false := by
  simp only [rulV, all_no h hb, Bool.false_and, Bool.and_false]
theorem rulV_e {r : Rul} {i : Nat} (h : i < r.eqs.length) (hb : eqnV r.right.length r.eqs[i] = false) : rulV r = false := by
  simp only [rulV, all_no h hb, Bool.false_and, Bool.and_false]
theorem rulV_c {r : Rul} {i : Nat} (h : i < r.cons.length) (hb : conV r.right.length r.cons[i] = false) : rulV r = false := by
  simp only [rulV, all_no h hb, Bool.false_and, Bool.and_false]
theorem rulV_h {r : Rul} (h : ¬ (nameV r.name = true ∧ nameV r.left = true ∧ r.right.length ≤ 3 ∧ r.cons.length ≤ 2)) : rulV r = false := by
  cases e : rulV r with
  | false => rfl
  | true =>
    simp only [rulV, Bool.and_eq_true, decide_eq_true_eq] at e
    exact absurd ⟨e.1, e.2.1, e.2.2.1, e.2.2.2.1⟩ h
theorem rulV_ok {r : Rul} (h : nameV r.name = true ∧ nameV r.left = true ∧ r.right.length ≤ 3 ∧ r.cons.length ≤ 2) (h1 : ∀ s ∈ r.right, nameV s = true) (h2 : ∀ q ∈ r.eqs, eqnV r.right.length q = true) (h3 : ∀ c ∈ r.cons, conV r.right.length c = true) : rulV r = true := by
  simp only [rulV, Bool.and_eq_true, decide_eq_true_eq, List.all_eq_true]
  exact ⟨h.1, h.2.1, h.2.2.1, h.2.2.2, h1, h2, h3⟩
theorem rulV_pos {r : Rul} (h : rulV r = true) : ∀ q ∈ r.eqs, 0 ≤ q.pos ∧ q.pos ≤ r.right.length := by
  intro q hq
  simp only [rulV, Bool.and_eq_true, decide_eq_true_eq, List.all_eq_true] at h
  have := h.2.2.2.2.2.1 q hq
  simp only [eqnV, Bool.and_eq_true, decide_eq_true_eq] at this
  exact this.2.2
theorem symB_eq {g : Gram} {i : Nat} (h : i < g.syms.length) : symB g i = (!symV g.syms[i] || (g.syms.take i).any fun o => decide (o.name = g.syms[i].name)) := by
  simp only [symB, getD_lt h]
theorem rulB_eq {g : Gram} {i : Nat} (h : i < g.rules.length) : rulB g i = (!rulV g.rules[i] || (g.rules.take i).any fun o => decide (o.name = g.rules[i].name)) := by
  simp only [rulB, getD_lt h]
theorem sfI_s {g : Gram} {i : Nat} (h : i < g.syms.length) (hb : symB g i = true) (hn : ∀ j, j < i → symB g j = false) : sfI g = i := by
  have e := firstI_hit h hb hn
  simp only [sfI, e]
  rw [if_pos (by omega)]
theorem sfI_r {g : Gram} {i : Nat} (hs : ∀ j, j < g.syms.length → symB g j = false) (h : i < g.rules.length) (hb : rulB g i = true) (hn : ∀ j, j < i → rulB g j = false) : sfI g = i := by
  have e := firstI_hit h hb hn
  simp only [sfI, firstI_none hs, e]
  rw [if_neg (by omega)]
theorem sfI_n {g : Gram} (hs : ∀ j, j < g.syms.length → symB g j = false) (hn : ∀ j, j < g.rules.length → rulB g j = false) : sfI g = -1 := by
  simp only [sfI, firstI_none hs, firstI_none hn]
  rw [if_neg (by omega)]
theorem sfI_no {g : Gram} (h : ¬ 0 ≤ sfI g) : (∀ j, j < g.syms.length → symB g j = false) ∧ ∀ j, j < g.rules.length → rulB g j = false := by
  unfold sfI at h
  split at h
  · omega
  · rename_i h1
    have e1 : firstI g.syms.length (symB g) = -1 := by rcases firstI_rng g.syms.length (symB g) with h2 | h2 <;> omega
    have e2 : firstI g.rules.length (rulB g) = -1 := by rcases firstI_rng g.rules.length (rulB g) with h2 | h2 <;> omega
    exact ⟨fun j hj => firstI_no e1 hj, fun j hj => firstI_no e2 hj⟩
theorem hasO_hit {l : List Oc} {o : Oc} {i : Nat} (h : i < l.length) (e : l[i] = o) : hasO l o = true :=
  any_yes (p := fun y => decide (y = o)) h (by simp [e])
theorem hasO_none {l : List Oc} {o : Oc} (h : ∀ y ∈ l, decide (y = o) = false) : hasO l o = false := any_no h
theorem reqP_take {g : Gram} {r : Rul} {pos : Nat} {m : Int} (hm : m = if pos = 0 then 2 else 1) (l : List Att) {i : Nat} (h : i < l.length) :
    (((l.take (i + 1)).filter fun a => decide (a.mode = m)).map fun a => ((pos : Int), a.name)) = (((l.take i).filter fun a => decide (a.mode = m)).map fun a => ((pos : Int), a.name)) ++ (if l[i].mode = m then [((pos : Int), l[i].name)] else []) := by
  rw [List.take_add_one, List.getElem?_eq_getElem h, List.filter_append, List.map_append]
  by_cases e : l[i].mode = m <;> simp [e]
theorem unkR_no {g : Gram} {r : Rul} {i : Nat} (h : i < r.right.length + 1) (hb : hSym g.syms (symAt r i) = false) : unkR g r = true := by
  simp only [unkR, rngAll_no (p := fun pos : Nat => hSym g.syms (symAt r pos)) h hb, Bool.not_false]
theorem unkR_ok {g : Gram} {r : Rul} (h : ∀ j, j < r.right.length + 1 → hSym g.syms (symAt r (j : Nat)) = true) : unkR g r = false := by
  simp only [unkR, rngAll_yes (p := fun pos : Nat => hSym g.syms (symAt r pos)) h, Bool.not_true]
theorem eqnF_any (r : Rul) (o : Oc) : (eqnF r o).isSome = r.eqs.any fun q => decide (q.pos = o.1 ∧ q.name = o.2) := by
  unfold eqnF
  induction r.eqs with
  | nil => rfl
  | cons q l ih =>
    simp only [List.find?_cons, List.any_cons]
    cases decide (q.pos = o.1 ∧ q.name = o.2) with
    | true => rfl
    | false => rw [Bool.false_or, ← ih]
theorem extR_no {g : Gram} {r : Rul} {i : Nat} (h : i < r.eqs.length) (hb : hasO (reqO g r) (atQ r.eqs[i]) = false ∨ hasO ((r.eqs.take i).map atQ) (atQ r.eqs[i]) = true) : extR g r = true := by
  have := rngAll_no (n := r.eqs.length) (i := i) (p := fun i => hasO (reqO g r) ((r.eqs.map atQ).getD i (0, noS)) && !hasO ((r.eqs.map atQ).take i) ((r.eqs.map atQ).getD i (0, noS))) h (by
    rw [getD_lt (by simpa using h), List.getElem_map, ← List.map_take]
    rcases hb with hb | hb
    · rw [hb]; rfl
    · rw [hb, Bool.not_true, Bool.and_false])
  simp only [extR, this, Bool.not_false]
theorem extR_ok {g : Gram} {r : Rul} (h : ∀ j (hj : j < r.eqs.length), hasO (reqO g r) (atQ r.eqs[j]) = true ∧ hasO ((r.eqs.take j).map atQ) (atQ r.eqs[j]) = false) : extR g r = false := by
  have := rngAll_yes (n := r.eqs.length) (p := fun i => hasO (reqO g r) ((r.eqs.map atQ).getD i (0, noS)) && !hasO ((r.eqs.map atQ).take i) ((r.eqs.map atQ).getD i (0, noS))) (fun i hi => by
    rw [getD_lt (by simpa using hi), List.getElem_map, ← List.map_take, (h i hi).1, (h i hi).2]; rfl)
  simp only [extR, this, Bool.not_true]
theorem hasO_map (l : List Eqn) (o : Oc) : hasO (l.map atQ) o = l.any fun q => decide (q.pos = o.1 ∧ q.name = o.2) := by
  simp only [hasO, List.any_map]
  congr 1
  funext q
  simp only [Function.comp, atQ, Prod.ext_iff]
theorem reqA_len {g : Gram} (hg : smGr g) (r : Rul) : ∀ n, (reqA g r n).length ≤ n * 1048576
  | 0 => by simp [reqA]
  | n + 1 => by
    have h1 := reqA_len hg r n
    have h2 : (reqP g r n).length ≤ 1048576 := by
      have h3 := List.length_filter_le (fun a : Att => decide (a.mode = if n = 0 then 2 else 1)) (fSym g.syms (symAt r n)).atts
      have h4 := smSy_f hg (symAt r n)
      unfold smSy at h4
      simp only [reqP, List.length_map]
      omega
    simp only [reqA, List.length_append]
    omega
theorem rulV_len {r : Rul} (h : rulV r = true) : r.right.length ≤ 3 := by
  simp only [rulV, Bool.and_eq_true, decide_eq_true_eq] at h
  exact h.2.2.1
theorem rul_ok {g : Gram} (h : ¬ 0 ≤ sfI g) {j : Nat} (hj : j < g.rules.length) : rulV g.rules[j] = true := by
  have := (sfI_no h).2 j hj
  rw [rulB_eq hj, Bool.or_eq_false_iff] at this
  simpa using this.1
def cfl (l : List Con) : List Exp := l.flatMap fun c => [c.goal, c.value]
theorem cfl_len (l : List Con) : (cfl l).length = 2 * l.length := by
  induction l with
  | nil => rfl
  | cons a l ih => simp only [cfl, List.flatMap_cons, List.length_append] at ih ⊢; rw [ih]; simp; omega
theorem cfl_step {l : List Con} {i : Nat} (h : i < l.length) : cfl (l.take (i + 1)) = cfl (l.take i) ++ [l[i].goal, l[i].value] := by
  rw [List.take_add_one, List.getElem?_eq_getElem h, Option.toList_some]
  unfold cfl
  rw [List.flatMap_append]
  simp
theorem expR_eq (r : Rul) : expR r = r.eqs.map (·.expr) ++ cfl r.cons := rfl
theorem expR_sm {r : Rul} (h : smRu r) : ∀ e ∈ expR r, wEx e ≤ 1048576 := by
  intro e he
  rw [expR_eq, List.mem_append] at he
  rcases he with he | he
  · obtain ⟨q, hq, rfl⟩ := List.mem_map.1 he
    exact h.2.2.2.1 q hq
  · simp only [cfl, List.mem_flatMap] at he
    obtain ⟨c, hc, he⟩ := he
    have := h.2.2.2.2 c hc
    simp only [List.mem_cons, List.not_mem_nil, or_false] at he
    rcases he with rfl | rfl
    · exact this.1
    · exact this.2
theorem misU_eq (g : Gram) (r : Rul) : misU g r = ((r.eqs.any fun q => useB g r q.expr) || r.cons.any fun c => useB g r c.goal || useB g r c.value) := by
  unfold misU
  rw [expR_eq, List.any_append, List.any_map]
  congr 1
  induction r.cons with
  | nil => rfl
  | cons a l ih =>
    have : cfl (a :: l) = [a.goal, a.value] ++ cfl l := rfl
    rw [this, List.any_append, ih]
    simp [Bool.or_assoc]
theorem misU_e {g : Gram} {r : Rul} {i : Nat} (h : i < r.eqs.length) (hb : useB g r r.eqs[i].expr = true) : misU g r = true := by
  rw [misU_eq, any_yes (p := fun q : Eqn => useB g r q.expr) h hb, Bool.true_or]
theorem misU_c {g : Gram} {r : Rul} {i : Nat} (h : i < r.cons.length) (hb : useB g r r.cons[i].goal = true ∨ useB g r r.cons[i].value = true) : misU g r = true := by
  rw [misU_eq, any_yes (p := fun c : Con => useB g r c.goal || useB g r c.value) h (by rcases hb with hb | hb <;> simp [hb]), Bool.or_true]
theorem misU_n {g : Gram} {r : Rul} (h1 : ∀ q ∈ r.eqs, useB g r q.expr = false) (h2 : ∀ c ∈ r.cons, (useB g r c.goal || useB g r c.value) = false) : misU g r = false := by
  rw [misU_eq, any_no (p := fun q : Eqn => useB g r q.expr) h1, any_no (p := fun c : Con => useB g r c.goal || useB g r c.value) h2]; rfl
theorem misT_e {g : Gram} {r : Rul} {i : Nat} (h : i < r.eqs.length) (hb : ¬ tyE g r r.eqs[i].expr = (attAt g r r.eqs[i].pos r.eqs[i].name).type) : misT g r = true := by
  unfold misT
  rw [any_yes (p := fun q : Eqn => !decide (tyE g r q.expr = (attAt g r q.pos q.name).type)) h (by simp [hb]), Bool.true_or]
def conT (g : Gram) (r : Rul) (c : Con) : Bool := !decide (tyE g r c.goal = 4) || (!decide (tyE g r c.value = 2) || !decide ((fAtt (fSym g.syms c.sym).atts c.name).mode = 3))
theorem misT_c {g : Gram} {r : Rul} {i : Nat} (h : i < r.cons.length) (hb : conT g r r.cons[i] = true) : misT g r = true := by
  unfold misT
  have := any_yes (p := conT g r) h hb
  show (_ || r.cons.any (conT g r)) = true
  rw [this, Bool.or_true]
theorem misT_n {g : Gram} {r : Rul} (h1 : ∀ q ∈ r.eqs, decide (tyE g r q.expr = (attAt g r q.pos q.name).type) = true) (h2 : ∀ c ∈ r.cons, conT g r c = false) : misT g r = false := by
  unfold misT
  rw [any_no (p := fun q : Eqn => !decide (tyE g r q.expr = (attAt g r q.pos q.name).type)) (fun q hq => by simp only [h1 q hq]; rfl)]
  have := any_no (p := conT g r) h2
  show (_ || r.cons.any (conT g r)) = false
  rw [this]; rfl
theorem brF_hit {g : Gram} {i c : Nat} (h : i < g.rules.length) (hb : brk g g.rules[i] c = true) (hn : ∀ j (hj : j < g.rules.length), j < i → brk g g.rules[j] c = false) : brF g c = i :=
  firstI_hit h (by rw [getD_lt h]; exact hb) (fun j hj => by rw [getD_lt (by omega)]; exact hn j (by omega) hj)
theorem brF_none {g : Gram} {c : Nat} (hn : ∀ j (hj : j < g.rules.length), brk g g.rules[j] c = false) : brF g c = -1 :=
  firstI_none (fun j hj => by rw [getD_lt (by omega)]; exact hn j (by omega))
def shpG (g : Gram) : Prop := ((1 ≤ g.syms.length ∧ g.syms.length ≤ 4) ∧ (1 ≤ g.rules.length ∧ g.rules.length ≤ 8)) ∧ ¬ 0 ≤ sfI g ∧ ((g.syms.getD 0 symZ).atts.any fun a => decide (a.mode = 1)) = false
theorem shpC_hit {g : Gram} (h : shpG g) {c i : Nat} (hc : 3 ≤ c) (hc6 : c ≤ 6) (hn : ∀ d, 3 ≤ d → d < c → brF g d = -1) (hb : brF g c = i) : shpC g = ((c : Int), (i : Int)) := by
  obtain ⟨h1, h2, h3⟩ := h
  simp only [shpC]
  rw [if_neg (by simp only [Decidable.not_not]; exact h1), if_neg h2, if_neg (by rw [h3]; simp)]
  rcases (by omega : c = 3 ∨ c = 4 ∨ c = 5 ∨ c = 6) with e | e | e | e <;> subst e
  · rw [hb, if_pos (by omega)]; rfl
  · rw [hn 3 (by omega) (by omega), hb, if_neg (by omega), if_pos (by omega)]; rfl
  · rw [hn 3 (by omega) (by omega), hn 4 (by omega) (by omega), hb, if_neg (by omega), if_neg (by omega), if_pos (by omega)]; rfl
  · rw [hn 3 (by omega) (by omega), hn 4 (by omega) (by omega), hn 5 (by omega) (by omega), hb, if_neg (by omega), if_neg (by omega), if_neg (by omega), if_pos (by omega)]; rfl
theorem shpC_none {g : Gram} (h : shpG g) (hn : ∀ d, 3 ≤ d → d < 7 → brF g d = -1) : shpC g = (0, 0) := by
  obtain ⟨h1, h2, h3⟩ := h
  simp only [shpC]
  rw [if_neg (by simp only [Decidable.not_not]; exact h1), if_neg h2, if_neg (by rw [h3]; simp), hn 3 (by omega) (by omega), hn 4 (by omega) (by omega), hn 5 (by omega) (by omega), hn 6 (by omega) (by omega)]
  rfl
theorem shpC_b1 {g : Gram} (h : ¬ ((1 ≤ g.syms.length ∧ g.syms.length ≤ 4) ∧ (1 ≤ g.rules.length ∧ g.rules.length ≤ 8))) : shpC g = (1, 0) := by
  simp only [shpC]; rw [if_pos h]
theorem shpC_b2 {g : Gram} (h1 : (1 ≤ g.syms.length ∧ g.syms.length ≤ 4) ∧ (1 ≤ g.rules.length ∧ g.rules.length ≤ 8)) (h : 0 ≤ sfI g) : shpC g = (1, sfI g) := by
  simp only [shpC]; rw [if_neg (by simp only [Decidable.not_not]; exact h1), if_pos h]
theorem shpC_b3 {g : Gram} (h1 : (1 ≤ g.syms.length ∧ g.syms.length ≤ 4) ∧ (1 ≤ g.rules.length ∧ g.rules.length ≤ 8)) (h2 : ¬ 0 ≤ sfI g) (h : ((g.syms.getD 0 symZ).atts.any fun a => decide (a.mode = 1)) = true) : shpC g = (2, 0) := by
  simp only [shpC]; rw [if_neg (by simp only [Decidable.not_not]; exact h1), if_neg h2, if_pos h]
theorem shpC_ok {g : Gram} (h : (shpC g).1 = 0) : shpG g := by
  unfold shpG
  by_cases h1 : (1 ≤ g.syms.length ∧ g.syms.length ≤ 4) ∧ (1 ≤ g.rules.length ∧ g.rules.length ≤ 8)
  · refine ⟨h1, ?_⟩
    by_cases h2 : 0 ≤ sfI g
    · rw [shpC_b2 h1 h2] at h; simp at h
    · refine ⟨h2, ?_⟩
      cases h3 : (g.syms.getD 0 symZ).atts.any fun a => decide (a.mode = 1) with
      | false => rfl
      | true => rw [shpC_b3 h1 h2 h3] at h; simp at h
  · rw [shpC_b1 h1] at h; simp at h
theorem ix_syms {g : Gram} (hs : ∀ j, j < g.syms.length → symB g j = false) {i : Nat} (h : i < g.syms.length) : ixOf (fun s : Sym => decide (s.name = g.syms[i].name)) g.syms = i := by
  refine ixOf_hit h (by simp) fun a ha => ?_
  have := hs i h
  rw [symB_eq h, Bool.or_eq_false_iff, List.any_eq_false] at this
  simpa using this.2 a ha
theorem minH_at {g : Gram} (hs : ∀ j, j < g.syms.length → symB g j = false) {i : Nat} (h : i < g.syms.length) : minH g g.syms[i].name = (hgts g).getD i 0 := by
  simp only [minH, hOf, ix_syms hs h]
  rw [if_neg (by omega)]
  simp
theorem hgts_len (g : Gram) : (hgts g).length = g.syms.length := hIt_len g _
theorem hgts_nn (g : Gram) : ∀ x ∈ hgts g, 0 ≤ x := hIt_nn g _
theorem tyF_hit {g : Gram} {i : Nat} (h : i < g.rules.length) (hb : misT g g.rules[i] = true) (hn : ∀ j (hj : j < g.rules.length), j < i → misT g g.rules[j] = false) : tyF g = i :=
  firstI_hit h (by rw [getD_lt h]; exact hb) (fun j hj => by rw [getD_lt (by omega)]; exact hn j (by omega) hj)
theorem tyF_none {g : Gram} (hn : ∀ j (hj : j < g.rules.length), misT g g.rules[j] = false) : tyF g = -1 :=
  firstI_none (fun j hj => by rw [getD_lt (by omega)]; exact hn j (by omega))
theorem emF_hit {g : Gram} {i : Nat} (h : i < g.syms.length) (hb : (hgts g).getD i 0 = 0) (hn : ∀ j, j < i → ¬ (hgts g).getD j 0 = 0) : emF g = i :=
  firstI_hit h (by simpa using hb) (fun j hj => by simpa using hn j hj)
theorem emF_none {g : Gram} (hn : ∀ j, j < g.syms.length → ¬ (hgts g).getD j 0 = 0) : emF g = -1 :=
  firstI_none (fun j hj => by simpa using hn j hj)
theorem chkG_1 {g : Gram} (h : (shpC g).1 ≠ 0) : chkG g = shpC g := by simp only [chkG]; rw [if_pos h]
theorem chkG_2 {g : Gram} (h : (shpC g).1 = 0) {i : Nat} (h2 : tyF g = i) : chkG g = (7, (i : Int)) := by
  simp only [chkG]; rw [if_neg (by simpa using h), h2, if_pos (by omega)]
theorem chkG_3 {g : Gram} (h : (shpC g).1 = 0) (h1 : tyF g = -1) {i : Nat} (h2 : emF g = i) : chkG g = (8, (i : Int)) := by
  simp only [chkG]; rw [if_neg (by simpa using h), h1, h2, if_neg (by omega), if_pos (by omega)]
theorem chkG_4 {g : Gram} (h : (shpC g).1 = 0) (h1 : tyF g = -1) (h2 : emF g = -1) : chkG g = (0, 0) := by
  simp only [chkG]; rw [if_neg (by simpa using h), h1, h2, if_neg (by omega), if_neg (by omega)]
end Go.Gh

/- Heights of symbols: steps. -/
namespace Go.Gh
set_option linter.unusedSimpArgs false
set_option linter.unusedVariables false
def rchP (g : Gram) (out : List Int) (s : ByteArray) (r : Rul) (k : Nat) : Bool := decide (r.left = s) && (r.right.take k).all fun c => decide (0 < hOf g out c)
theorem rchP_step {g : Gram} {out : List Int} {s : ByteArray} {r : Rul} {k : Nat} (h : k < r.right.length) : rchP g out s r (k + 1) = (rchP g out s r k && decide (0 < hOf g out r.right[k])) := by
  unfold rchP
  rw [List.take_add_one, List.getElem?_eq_getElem h, Option.toList_some, List.all_append, Bool.and_assoc]
  simp
theorem rchP_end (g : Gram) (out : List Int) (s : ByteArray) (r : Rul) : rchP g out s r r.right.length = rchR g out s r := by
  unfold rchP rchR
  rw [List.take_length]
theorem hNext_eq {g : Gram} {k i : Nat} (h : i < g.syms.length) : (hIt g (k + 1)).getD i 0 = hNext g ((k : Int) + 1) (hIt g k) i := by
  rw [getD_lt (by rw [hIt_len]; exact h)]
  simp [hIt]
def nxt (g : Gram) (k i : Nat) (Y : List Int) : Prop := Y.length = g.syms.length ∧ ∀ j, j < g.syms.length → Y.getD j 0 = if j < i then (hIt g (k + 1)).getD j 0 else (hIt g k).getD j 0
theorem nxt_0 (g : Gram) (k : Nat) : nxt g k 0 (hIt g k) := ⟨hIt_len g k, fun j hj => by simp⟩
theorem nxt_n {g : Gram} {k : Nat} {Y : List Int} (h : nxt g k g.syms.length Y) : Y = hIt g (k + 1) := by
  refine List.ext_getElem (by rw [h.1, hIt_len]) fun j h1 h2 => ?_
  have h3 := h.1
  have := h.2 j (by omega)
  rw [if_pos (by omega), getD_lt h1, getD_lt h2] at this
  exact this
theorem nxt_keep {g : Gram} {k i : Nat} {Y : List Int} (h : nxt g k i Y) (hi : i < g.syms.length) (he : hNext g ((k : Int) + 1) (hIt g k) i = (hIt g k).getD i 0) : nxt g k (i + 1) Y := by
  refine ⟨h.1, fun j hj => ?_⟩
  rw [h.2 j hj]
  by_cases e : j = i
  · subst e
    rw [if_neg (by omega), if_pos (by omega), hNext_eq hi, he]
  · by_cases e2 : j < i
    · rw [if_pos e2, if_pos (by omega)]
    · rw [if_neg e2, if_neg (by omega)]
theorem nxt_set {g : Gram} {k i : Nat} {Y : List Int} {v : Int} (h : nxt g k i Y) (hi : i < g.syms.length) (he : hNext g ((k : Int) + 1) (hIt g k) i = v) : nxt g k (i + 1) (Y.set i v) := by
  have h1 := h.1
  refine ⟨by rw [List.length_set]; exact h.1, fun j hj => ?_⟩
  rw [getD_lt (by rw [List.length_set]; omega), List.getElem_set]
  by_cases e : i = j
  · subst e
    rw [if_pos rfl, if_pos (by omega), hNext_eq hi, he]
  · rw [if_neg e, ← getD_lt (d := 0) (by omega), h.2 j hj]
    by_cases e2 : j < i
    · rw [if_pos e2, if_pos (by omega)]
    · rw [if_neg e2, if_neg (by omega)]
theorem soT_E2 (a b : Exp) : soT (some (7, [Ex a, Ex b])) 7 7 0 2 = some [Ex a, Ex b] := by
  simp [soT, cleanL, clean_Ex]
theorem soT_I {l : List Int} {n : Nat} (h : l.length = n) : soT (some (1, l.map I)) 1 1 0 n = some (l.map I) := by
  subst h
  have hc : cleanL (l.map I) = true := by
    induction l with
    | nil => rfl
    | cons a l ih => simp only [List.map_cons, cleanL, ih]; rfl
  simp only [soT, List.drop_zero, List.length_map, Nat.zero_add, Nat.le_refl, true_and]
  rw [List.take_of_length_le (by simp), hc]; simp
end Go.Gh

namespace Go.Gh
@[irreducible] def MkQ (p : Prop) : Prop := p
theorem mkQI {p : Prop} (h : MkQ p) : p := by unfold MkQ at h; exact h
theorem mkQU {p : Prop} (h : p) : MkQ p := by unfold MkQ; exact h
end Go.Gh

/- Short words for ghost code. -/
namespace Go.Gh.Z
abbrev x (d : Nat) (o : GOp) : GI := ⟨some d, none, o⟩
abbrev y (d g : Nat) (o : GOp) : GI := ⟨some d, some (g, true), o⟩
abbrev z (d g : Nat) (o : GOp) : GI := ⟨some d, some (g, false), o⟩
abbrev m (d a : Nat) : GI := ⟨some d, none, .mov (.t a)⟩
abbrev k (d : Nat) (n : Int) : GI := ⟨some d, none, .mov (.k (.val (.int .i64 n)))⟩
abbrev b (d : Nat) (n : Bool) : GI := ⟨some d, none, .mov (.k (.val (.bool n)))⟩
abbrev l (d a : Nat) : GI := ⟨some d, none, .load 1 false (.t a)⟩
abbrev h (d n a : Nat) : GI := ⟨some d, none, .load n true (.t a)⟩
abbrev f (d o a : Nat) : GI := ⟨some d, none, .faddr o 1 false (.t a)⟩
abbrev e (d o n a : Nat) : GI := ⟨some d, none, .faddr o n true (.t a)⟩
abbrev i (d n a c : Nat) : GI := ⟨some d, none, .iaddr n (.t a) (.t c)⟩
abbrev c (d f : Nat) (a : List GE) : GI := ⟨some d, none, .call false f a⟩
abbrev o (d : Nat) (p : BinOp) (a b : Nat) : GI := ⟨some d, none, .bin p (.t a) (.t b)⟩
abbrev q (d : Nat) (p : BinOp) (a : Nat) (n : Int) : GI := ⟨some d, none, .bin p (.t a) (.k (.val (.int .i64 n)))⟩
abbrev n (d a : Nat) : GI := ⟨some d, none, .len (.t a)⟩
abbrev w (d a : Nat) : GI := ⟨some d, none, .not (.t a)⟩
abbrev a (d n r : Nat) : GI := ⟨some d, none, .boxro n (.t r)⟩
abbrev s (a : List GI) (b : GC) : GC := .seq (.reg a) b
end Go.Gh.Z

namespace Go.Proofs.YtbdmpkidcpblaaaGreat
open Go.Gh Go.Gh.Z
def g4 : GFun := ⟨⟨40,[1,6]⟩,(s [a 1 2 0,b 2 false] (s [k 3 1048576] (s [h 9 2 1,m 10 3,c 11 7 [.t 9,.t 10],m 3 11] (.seq (s [m 12 3,q 13 .lss 12 0] (.cond 13 (s [b 2 true] .ret) .skip)) (s [h 15 2 1,c 16 10 [.t 15],c 17 20 [.t 16],m 14 17,
 x 18 (.ext (.t 14) 0),x 19 (.ext (.t 14) 1),m 4 18,m 5 19] (s [h 20 2 1,c 21 10 [.t 20],x 6 (.allocr 2),x 6 (.stro 2 6 (.t 21))] (s [h 23 2 6,c 24 21 [.t 23],m 22 24,x 25 (.ext (.t 22) 0),x 26 (.ext (.t 22) 1),m 7 25,m 8 26] (.seq
 (s [m 27 7,m 28 4,o 29 .neq 27 28,m 30 29,z 31 30 (.mov (.t 8)),z 32 30 (.mov (.t 5)),z 33 30 (.bin .neq (.t 31) (.t 32)),x 34 (.pick (.t 30) (.k (.val (.bool true))) (.t 33))] (.cond 34 (s [b 2 false] .ret) .skip)) (.seq (s [h 35 2 6,
 h 36 2 1,x 37 (.call true 10 [.t 36]),x 38 (.call true 14 [.t 35,.t 37]),w 39 38] (.cond 39 (s [b 2 false] .ret) .skip)) (s [b 2 true] .ret)))))))))),[.t 2]⟩
theorem i4 : IsFun Tryz.prog 4 g4 := ⟨Tryz.f4, _, [], Tryz.func4, by kernel_rfl, rfl, by kernel_rfl, by kernel_rfl, rfl⟩
def g7 : GFun := ⟨⟨18,[2]⟩,(s [a 2 2 0,k 4 0] (s [f 5 0 2,l 6 5,m 7 1,c 8 27 [.t 6,.t 7],m 1 8] (.seq (s [m 9 1,q 10 .lss 9 0] (.cond 10 (s [k 4 (-1)] .ret) .skip)) (s [f 11 1 2,l 12 11,m 13 1,c 14 28 [.t 12,.t 13],m 1 14] (.seq (s [m 15 1,
 q 16 .lss 15 0] (.cond 16 (s [k 4 (-1)] .ret) .skip)) (s [m 17 1,m 4 17] .ret)))))),[.t 4]⟩
theorem i7 : IsFun Tryz.prog 7 g7 := ⟨Tryz.f7, _, [], Tryz.func7, by kernel_rfl, rfl, by kernel_rfl, by kernel_rfl, rfl⟩
def g10 : GFun := ⟨⟨13,[1,2]⟩,(s [a 1 2 0,x 2 (.allocr 2)] (s [x 3 (.alloc 2 (.agg [(.val (.slice none 0 0)),(.val (.slice none 0 0))]))] (s [f 4 0 1,l 5 4,c 6 32 [.t 5],f 7 0 3,(.mk none none (.store 1 (.t 7) (.t 6)))] (s [f 8 1 1,l 9 8,
 c 10 33 [.t 9],f 11 1 3,(.mk none none (.store 1 (.t 11) (.t 10)))] (s [h 12 2 3,x 2 (.stro 2 2 (.t 12))] .ret))))),[(.c 2 2 true)]⟩
theorem i10 : IsFun Tryz.prog 10 g10 := ⟨Tryz.f10, _, [], Tryz.func10, by kernel_rfl, rfl, by kernel_rfl, by kernel_rfl, rfl⟩
def g14 : GFun := ⟨⟨17,[2,3]⟩,(s [a 2 2 0,a 3 2 1,b 4 false] (.seq (s [f 5 0 2,l 6 5,f 7 0 3,l 8 7,c 9 38 [.t 6,.t 8],w 10 9] (.cond 10 (s [b 4 false] .ret) .skip)) (.seq (s [f 11 1 2,l 12 11,f 13 1 3,l 14 13,c 15 39 [.t 12,.t 14],
 w 16 15] (.cond 16 (s [b 4 false] .ret) .skip)) (s [b 4 true] .ret)))),[.t 4]⟩
theorem i14 : IsFun Tryz.prog 14 g14 := ⟨Tryz.f14, _, [], Tryz.func14, by kernel_rfl, rfl, by kernel_rfl, by kernel_rfl, rfl⟩
def g20 : GFun := ⟨⟨50,[1]⟩,(s [a 1 2 0,k 2 0,k 3 0] (s [h 9 2 1,c 10 44 [.t 9],m 8 10,x 11 (.ext (.t 8) 0),x 12 (.ext (.t 8) 1),m 4 11,m 5 12] (.seq (s [m 13 4,q 14 .neq 13 0] (.cond 14 (s [m 15 4,m 16 5,m 2 15,m 3 16] .ret) .skip))
 (.seq (s [k 6 0] (.block 0 (.loop (.seq (s [m 17 6,f 18 1 1,l 19 18,n 20 19,o 21 .lss 17 20] (.cond 21 .skip (.exit 0))) (.seq (.block 1 (s [f 25 1 1,m 27 6,h 24 2 1,l 26 25,i 28 6 26 27,h 29 6 28,x 30 (.call true 45 [.t 24,.t 29]),
 w 31 30] (.cond 31 (s [m 32 6,k 2 7,m 3 32] .ret) .skip))) (.reg [m 22 6,q 23 .add 22 1,m 6 23])))))) (.seq (s [k 7 0] (.block 2 (.loop (.seq (s [m 33 7,f 34 0 1,l 35 34,n 36 35,o 37 .lss 33 36] (.cond 37 .skip (.exit 2))) (.seq
 (.block 3 (s [f 41 0 1,m 43 7,h 40 2 1,l 42 41,i 44 2 42 43,f 45 0 44,l 46 45,x 47 (.call true 46 [.t 40,.t 46]),w 48 47] (.cond 48 (s [m 49 7,k 2 8,m 3 49] .ret) .skip))) (.reg [m 38 7,q 39 .add 38 1,m 7 39])))))) (s [k 2 0,
 k 3 0] .ret)))))),[.t 2,.t 3]⟩
theorem i20 : IsFun Tryz.prog 20 g20 := ⟨Tryz.f20, _, [], Tryz.func20, by kernel_rfl, rfl, by kernel_rfl, by kernel_rfl, rfl⟩
def g21 : GFun := ⟨⟨44,[1,7]⟩,(s [a 1 2 0,k 2 0,k 3 0] (.seq (s [h 11 2 1,c 12 47 [.t 11],m 10 12,x 13 (.ext (.t 10) 0),x 14 (.ext (.t 10) 1),m 4 13,m 5 14] (s [m 15 4,q 16 .neq 15 0] (.cond 16 (s [m 17 4,m 18 5,m 2 17,
 m 3 18] .ret) .skip))) (.seq (s [f 19 1 1,l 20 19,n 21 20,k 22 0] (.block 0 (.loop (s [o 23 .lss 22 21] (.seq (.cond 23 .skip (.exit 0)) (.seq (.block 1 (s [m 24 22,i 25 6 20 22,h 26 6 25,x 7 (.allocr 6),m 6 24,x 7 (.stro 6 7 (.t 26))]
 (s [h 27 2 1,h 28 6 7,c 29 48 [.t 27,.t 28]] (.cond 29 (s [m 30 6,k 2 7,m 3 30] .ret) .skip)))) (.reg [q 31 .add 22 1,m 22 31]))))))) (.seq (s [h 32 2 1,c 33 49 [.t 32],n 34 33,k 35 0] (.block 2 (.loop (s [o 36 .lss 35 34] (.seq
 (.cond 36 .skip (.exit 2)) (.seq (.block 3 (s [m 37 35,i 38 1 33 35,l 39 38,m 8 37,m 9 39] (s [m 40 9,q 41 .eql 40 0] (.cond 41 (s [m 42 8,k 2 8,m 3 42] .ret) .skip)))) (.reg [q 43 .add 35 1,m 35 43]))))))) (s [k 2 0,k 3 0] .ret))))),
 [.t 2,.t 3]⟩
theorem i21 : IsFun Tryz.prog 21 g21 := ⟨Tryz.f21, _, [], Tryz.func21, by kernel_rfl, rfl, by kernel_rfl, by kernel_rfl, rfl⟩
def g27 : GFun := ⟨⟨27,[]⟩,(s [k 4 0] (s [m 6 1,m 7 0,n 8 7,o 9 .sub 6 8,m 1 9] (.seq (s [m 10 1,q 11 .lss 10 0] (.cond 11 (s [k 4 (-1)] .ret) .skip)) (.seq (s [k 5 0] (.block 0 (.loop (.seq (s [m 12 5,m 13 0,n 14 13,o 15 .lss 12 14]
 (.cond 15 .skip (.exit 0))) (.seq (.block 1 (s [m 18 0,m 19 5,i 20 2 18 19,h 21 2 20,m 22 1,c 23 60 [.t 21,.t 22],m 1 23] (s [m 24 1,q 25 .lss 24 0] (.cond 25 (s [k 4 (-1)] .ret) .skip)))) (.reg [m 16 5,q 17 .add 16 1,m 5 17]))))))
 (s [m 26 1,m 4 26] .ret))))),[.t 4]⟩
theorem i27 : IsFun Tryz.prog 27 g27 := ⟨Tryz.f27, _, [], Tryz.func27, by kernel_rfl, rfl, by kernel_rfl, by kernel_rfl, rfl⟩
def g28 : GFun := ⟨⟨27,[]⟩,(s [k 4 0] (s [m 6 1,m 7 0,n 8 7,o 9 .sub 6 8,m 1 9] (.seq (s [m 10 1,q 11 .lss 10 0] (.cond 11 (s [k 4 (-1)] .ret) .skip)) (.seq (s [k 5 0] (.block 0 (.loop (.seq (s [m 12 5,m 13 0,n 14 13,o 15 .lss 12 14]
 (.cond 15 .skip (.exit 0))) (.seq (.block 1 (s [m 18 0,m 19 5,i 20 6 18 19,h 21 6 20,m 22 1,c 23 61 [.t 21,.t 22],m 1 23] (s [m 24 1,q 25 .lss 24 0] (.cond 25 (s [k 4 (-1)] .ret) .skip)))) (.reg [m 16 5,q 17 .add 16 1,m 5 17]))))))
 (s [m 26 1,m 4 26] .ret))))),[.t 4]⟩
theorem i28 : IsFun Tryz.prog 28 g28 := ⟨Tryz.f28, _, [], Tryz.func28, by kernel_rfl, rfl, by kernel_rfl, by kernel_rfl, rfl⟩
def g32 : GFun := ⟨⟨23,[]⟩,(s [x 2 (.mov (.k (.val (.slice none 0 0))))] (s [m 5 0,n 6 5,x 7 (.mkslice 2 40 (.agg [(.val (.string (ByteArray.mk #[]))),(.val (.slice none 0 0))]) (.t 6) (.t 6)),m 3 7] (.seq (s [k 4 0] (.block 0 (.loop
 (.seq (s [m 8 4,m 9 0,n 10 9,o 11 .lss 8 10] (.cond 11 .skip (.exit 0))) (.seq (.block 1 (.reg [m 14 3,m 15 4,m 16 0,m 17 4,i 18 2 16 17,h 19 2 18,c 20 67 [.t 19],i 21 2 14 15,(.mk none none (.store 2 (.t 21) (.t 20)))])) (.reg [m 12 4,
 q 13 .add 12 1,m 4 13])))))) (s [m 22 3,m 2 22] .ret)))),[.t 2]⟩
theorem i32 : IsFun Tryz.prog 32 g32 := ⟨Tryz.f32, _, [], Tryz.func32, by kernel_rfl, rfl, by kernel_rfl, by kernel_rfl, rfl⟩
def g33 : GFun := ⟨⟨23,[]⟩,(s [x 2 (.mov (.k (.val (.slice none 0 0))))] (s [m 5 0,n 6 5,x 7 (.mkslice 6 112 (.agg [(.val (.string (ByteArray.mk #[]))),(.val (.string (ByteArray.mk #[]))),(.val (.slice none 0 0)),(.val (.bool false)),
 (.val (.slice none 0 0)),(.val (.slice none 0 0))]) (.t 6) (.t 6)),m 3 7] (.seq (s [k 4 0] (.block 0 (.loop (.seq (s [m 8 4,m 9 0,n 10 9,o 11 .lss 8 10] (.cond 11 .skip (.exit 0))) (.seq (.block 1 (.reg [m 14 3,m 15 4,m 16 0,m 17 4,
 i 18 6 16 17,h 19 6 18,c 20 68 [.t 19],i 21 6 14 15,(.mk none none (.store 6 (.t 21) (.t 20)))])) (.reg [m 12 4,q 13 .add 12 1,m 4 13])))))) (s [m 22 3,m 2 22] .ret)))),[.t 2]⟩
theorem i33 : IsFun Tryz.prog 33 g33 := ⟨Tryz.f33, _, [], Tryz.func33, by kernel_rfl, rfl, by kernel_rfl, by kernel_rfl, rfl⟩
def g38 : GFun := ⟨⟨27,[]⟩,(s [b 4 false] (.seq (s [m 6 0,n 7 6,m 8 1,n 9 8,o 10 .neq 7 9] (.cond 10 (s [b 4 false] .ret) .skip)) (.seq (s [k 5 0] (.block 0 (.loop (.seq (s [m 11 5,m 12 0,n 13 12,o 14 .lss 11 13] (.cond 14 .skip
 (.exit 0))) (.seq (.block 1 (s [m 17 0,m 18 5,i 19 2 17 18,m 21 1,m 22 5,i 23 2 21 22,h 20 2 19,h 24 2 23,x 25 (.call true 77 [.t 20,.t 24]),w 26 25] (.cond 26 (s [b 4 false] .ret) .skip))) (.reg [m 15 5,q 16 .add 15 1,m 5 16]))))))
 (s [b 4 true] .ret)))),[.t 4]⟩
theorem i38 : IsFun Tryz.prog 38 g38 := ⟨Tryz.f38, _, [], Tryz.func38, by kernel_rfl, rfl, by kernel_rfl, by kernel_rfl, rfl⟩
def g39 : GFun := ⟨⟨27,[]⟩,(s [b 4 false] (.seq (s [m 6 0,n 7 6,m 8 1,n 9 8,o 10 .neq 7 9] (.cond 10 (s [b 4 false] .ret) .skip)) (.seq (s [k 5 0] (.block 0 (.loop (.seq (s [m 11 5,m 12 0,n 13 12,o 14 .lss 11 13] (.cond 14 .skip
 (.exit 0))) (.seq (.block 1 (s [m 17 0,m 18 5,i 19 6 17 18,m 21 1,m 22 5,i 23 6 21 22,h 20 6 19,h 24 6 23,x 25 (.call true 78 [.t 20,.t 24]),w 26 25] (.cond 26 (s [b 4 false] .ret) .skip))) (.reg [m 15 5,q 16 .add 15 1,m 5 16]))))))
 (s [b 4 true] .ret)))),[.t 4]⟩
theorem i39 : IsFun Tryz.prog 39 g39 := ⟨Tryz.f39, _, [], Tryz.func39, by kernel_rfl, rfl, by kernel_rfl, by kernel_rfl, rfl⟩
def g44 : GFun := ⟨⟨66,[1]⟩,(s [a 1 2 0,k 2 0,k 3 0] (.seq (s [f 8 0 1,l 9 8,n 10 9,c 11 85 [.t 10,(.k (.val (.int .i64 1))),(.k (.val (.int .i64 4)))],w 12 11,m 13 12,z 14 13 (.faddr 1 1 false (.t 1)),z 15 13 (.load 1 false (.t 14)),
 z 16 13 (.len (.t 15)),z 17 13 (.call false 85 [.t 16,(.k (.val (.int .i64 1))),(.k (.val (.int .i64 8)))]),z 18 13 (.not (.t 17)),x 19 (.pick (.t 13) (.k (.val (.bool true))) (.t 18))] (.cond 19 (s [k 2 1,k 3 0] .ret) .skip))
 (s [h 20 2 1,c 21 86 [.t 20],m 4 21] (.seq (s [m 22 4,q 23 .geq 22 0] (.cond 23 (s [m 24 4,k 2 1,m 3 24] .ret) .skip)) (.seq (s [k 5 0] (.block 0 (.loop (.seq (s [m 25 5,f 26 0 1,l 27 26,x 28 (.iaddr 2 (.t 27) (.k (.val (.int .i64 0)))),
 f 29 1 28,l 30 29,n 31 30,o 32 .lss 25 31] (.cond 32 .skip (.exit 0))) (.seq (.block 1 (s [f 35 0 1,l 36 35,x 37 (.iaddr 2 (.t 36) (.k (.val (.int .i64 0)))),f 38 1 37,l 39 38,m 40 5,i 41 4 39 40,f 42 2 41,l 43 42,q 44 .eql 43 1]
 (.cond 44 (s [k 2 2,k 3 0] .ret) .skip))) (.reg [m 33 5,q 34 .add 33 1,m 5 34])))))) (.seq (s [k 6 3] (.block 2 (.loop (.seq (s [m 45 6,q 46 .leq 45 6] (.cond 46 .skip (.exit 2))) (.seq (.block 3 (s [k 7 0] (.block 4 (.loop (.seq
 (s [m 49 7,f 50 1 1,l 51 50,n 52 51,o 53 .lss 49 52] (.cond 53 .skip (.exit 4))) (.seq (.block 5 (s [f 57 1 1,m 59 7,m 62 6,h 56 2 1,l 58 57,i 60 6 58 59,h 61 6 60,x 63 (.call true 87 [.t 56,.t 61,.t 62])] (.cond 63 (s [m 64 6,m 65 7,
 m 2 64,m 3 65] .ret) .skip))) (.reg [m 54 7,q 55 .add 54 1,m 7 55]))))))) (.reg [m 47 6,q 48 .add 47 1,m 6 48])))))) (s [k 2 0,k 3 0] .ret))))))),[.t 2,.t 3]⟩
theorem i44 : IsFun Tryz.prog 44 g44 := ⟨Tryz.f44, _, [], Tryz.func44, by kernel_rfl, rfl, by kernel_rfl, by kernel_rfl, rfl⟩
def g45 : GFun := ⟨⟨90,[2,3,6,8,9,11]⟩,(s [a 2 2 0,a 3 6 1,b 4 false] (.seq (s [k 5 0] (.block 0 (.loop (.seq (s [m 13 5,f 14 4 3,l 15 14,n 16 15,o 17 .lss 13 16] (.cond 17 .skip (.exit 0))) (.seq (.block 1 (s [f 20 4 3,l 21 20,m 22 5,
 i 23 9 21 22,h 24 9 23,x 6 (.allocr 9),x 6 (.stro 9 6 (.t 24))] (s [e 27 2 7 6,e 32 0 2 6,f 33 0 32,e 36 0 2 6,f 37 1 36,h 25 2 2,h 26 6 3,h 28 7 27,x 29 (.call true 88 [.t 25,.t 26,.t 28]),h 30 2 2,h 31 6 3,l 34 33,x 35
 (.call true 90 [.t 31,.t 34]),l 38 37,x 39 (.call true 89 [.t 30,.t 35,.t 38]),o 40 .neq 29 39] (.cond 40 (s [b 4 false] .ret) .skip)))) (.reg [m 18 5,q 19 .add 18 1,m 5 19])))))) (.seq (s [k 7 0] (.block 2 (.loop (.seq (s [m 41 7,
 f 42 5 3,l 43 42,n 44 43,o 45 .lss 41 44] (.cond 45 .skip (.exit 2))) (.seq (.block 3 (s [f 48 5 3,l 49 48,m 50 7,i 51 16 49 50,h 52 16 51,x 8 (.allocr 16),x 8 (.stro 16 8 (.t 52))] (s [h 54 2 2,f 55 0 8,l 56 55,c 57 91 [.t 54,.t 56],
 m 53 57,x 58 (.ext (.t 53) 0),x 59 (.ext (.t 53) 1),x 9 (.allocr 2),x 9 (.stro 2 9 (.t 58)),m 10 59] (s [h 61 2 9,f 62 1 8,l 63 62,c 64 92 [.t 61,.t 63],m 60 64,x 65 (.ext (.t 60) 0),x 66 (.ext (.t 60) 1),x 11 (.allocr 4),x 11
 (.stro 4 11 (.t 65)),m 12 66] (s [m 67 12,w 68 67,m 69 68,z 70 69 (.faddr 2 1 false (.t 11)),z 71 69 (.load 1 false (.t 70)),z 72 69 (.bin .neq (.t 71) (.k (.val (.int .i64 3)))),x 73 (.pick (.t 69) (.k (.val (.bool true))) (.t 72)),
 m 74 73,z 75 74 (.load 2 true (.t 2)),z 76 74 (.load 6 true (.t 3)),z 77 74 (.faddr 2 7 true (.t 8)),z 78 74 (.load 7 true (.t 77)),z 79 74 (.call false 88 [.t 75,.t 76,.t 78]),z 80 74 (.bin .neq (.t 79) (.k (.val (.int .i64 4)))),x 81
 (.pick (.t 74) (.k (.val (.bool true))) (.t 80)),m 82 81,z 83 82 (.load 2 true (.t 2)),z 84 82 (.load 6 true (.t 3)),z 85 82 (.faddr 9 7 true (.t 8)),z 86 82 (.load 7 true (.t 85)),z 87 82 (.call false 88 [.t 83,.t 84,.t 86]),z 88 82
 (.bin .neq (.t 87) (.k (.val (.int .i64 2)))),x 89 (.pick (.t 82) (.k (.val (.bool true))) (.t 88))] (.cond 89 (s [b 4 false] .ret) .skip)))))) (.reg [m 46 7,q 47 .add 46 1,m 7 47])))))) (s [b 4 true] .ret)))),[.t 4]⟩
theorem i45 : IsFun Tryz.prog 45 g45 := ⟨Tryz.f45, _, [], Tryz.func45, by kernel_rfl, rfl, by kernel_rfl, by kernel_rfl, rfl⟩
def g46 : GFun := ⟨⟨9,[2]⟩,(s [a 2 2 0,b 4 false] (s [h 5 2 2,m 6 1,c 7 93 [.t 5,.t 6],q 8 .gtr 7 0,m 4 8] .ret)),[.t 4]⟩
theorem i46 : IsFun Tryz.prog 46 g46 := ⟨Tryz.f46, _, [], Tryz.func46, by kernel_rfl, rfl, by kernel_rfl, by kernel_rfl, rfl⟩
def g47 : GFun := ⟨⟨67,[1,7]⟩,(s [a 1 2 0,k 2 0,k 3 0] (.seq (s [f 9 0 1,l 10 9,n 11 10,c 12 73 [.t 11,(.k (.val (.int .i64 1))),(.k (.val (.int .i64 4)))],w 13 12,m 14 13,z 15 14 (.faddr 1 1 false (.t 1)),z 16 14 (.load 1 false (.t 15)),
 z 17 14 (.len (.t 16)),z 18 14 (.call false 73 [.t 17,(.k (.val (.int .i64 1))),(.k (.val (.int .i64 8)))]),z 19 14 (.not (.t 18)),x 20 (.pick (.t 14) (.k (.val (.bool true))) (.t 19))] (.cond 20 (s [k 2 1,k 3 0] .ret) .skip)) (.seq
 (s [h 21 2 1,c 22 94 [.t 21],m 4 22] (s [m 23 4,q 24 .geq 23 0] (.cond 24 (s [m 25 4,k 2 1,m 3 25] .ret) .skip))) (.seq (s [f 26 0 1,l 27 26,x 28 (.iaddr 2 (.t 27) (.k (.val (.int .i64 0)))),f 29 1 28,l 30 29,x 31 (.call false 95 [.t 30,
 (.k (.clo 96 []))])] (.cond 31 (s [k 2 2,k 3 0] .ret) .skip)) (.seq (s [k 5 3] (.block 0 (.loop (.seq (s [m 32 5,q 33 .leq 32 6] (.cond 33 .skip (.exit 0))) (.seq (.block 1 (s [f 36 1 1,l 37 36,n 38 37,k 39 0] (.block 2 (.loop
 (s [o 40 .lss 39 38] (.seq (.cond 40 .skip (.exit 2)) (.seq (.block 3 (s [m 41 39,i 42 6 37 39,h 43 6 42,x 7 (.allocr 6),m 6 41,x 7 (.stro 6 7 (.t 43))] (s [b 8 false] (.seq (s [m 44 5] (.block 4 (s [q 49 .eql 44 3,m 48 49] (.cond 48
 (.reg [h 50 2 1,h 51 6 7,c 52 97 [.t 50,.t 51],m 8 52]) (s [q 54 .eql 44 4,m 53 54] (.cond 53 (.reg [h 55 2 1,h 56 6 7,c 57 98 [.t 55,.t 56],m 8 57]) (s [q 59 .eql 44 5,m 58 59] (.cond 58 (.reg [h 60 2 1,h 61 6 7,c 62 99 [.t 60,.t 61],
 m 8 62]) (.reg [h 45 2 1,h 46 6 7,c 47 100 [.t 45,.t 46],m 8 47]))))))))) (s [m 63 8] (.cond 63 (s [m 64 5,m 65 6,m 2 64,m 3 65] .ret) .skip)))))) (.reg [q 66 .add 39 1,m 39 66])))))))) (.reg [m 34 5,q 35 .add 34 1,m 5 35])))))) (s [k 2 0,
 k 3 0] .ret)))))),[.t 2,.t 3]⟩
theorem i47 : IsFun Tryz.prog 47 g47 := ⟨Tryz.f47, _, [], Tryz.func47, by kernel_rfl, rfl, by kernel_rfl, by kernel_rfl, rfl⟩
def g48 : GFun := ⟨⟨80,[2,3,6,7,10,11,13]⟩,(s [a 2 2 0,a 3 6 1,b 4 false] (.seq (s [f 15 4 3,l 16 15,n 17 16,k 18 0] (.block 0 (.loop (s [o 19 .lss 18 17] (.seq (.cond 19 .skip (.exit 0)) (.seq (.block 1 (s [i 20 9 16 18,h 21 9 20,x 6
 (.allocr 9),x 6 (.stro 9 6 (.t 21))] (s [h 23 2 2,h 24 6 3,e 25 0 2 6,h 26 2 25,c 27 101 [.t 23,.t 24,.t 26],m 22 27,x 28 (.ext (.t 22) 0),x 29 (.ext (.t 22) 1),x 7 (.allocr 4),x 7 (.stro 4 7 (.t 28)),m 8 29] (s [e 32 2 7 6,f 35 1 7,
 h 30 2 2,h 31 6 3,h 33 7 32,x 34 (.call true 102 [.t 30,.t 31,.t 33]),l 36 35,o 37 .neq 34 36] (.cond 37 (s [b 4 true] .ret) .skip))))) (.reg [q 38 .add 18 1,m 18 38]))))))) (.seq (s [f 39 5 3,l 40 39,n 41 40,k 42 0] (.block 2 (.loop
 (s [o 43 .lss 42 41] (.seq (.cond 43 .skip (.exit 2)) (.seq (.block 3 (s [i 44 16 40 42,h 45 16 44,x 10 (.allocr 16),x 10 (.stro 16 10 (.t 45))] (s [h 47 2 2,f 48 0 10,l 49 48,c 50 103 [.t 47,.t 49],m 46 50,x 51 (.ext (.t 46) 0),x 52
 (.ext (.t 46) 1),x 11 (.allocr 2),x 11 (.stro 2 11 (.t 51)),m 12 52] (s [h 54 2 11,f 55 1 10,l 56 55,c 57 104 [.t 54,.t 56],m 53 57,x 58 (.ext (.t 53) 0),x 59 (.ext (.t 53) 1),x 13 (.allocr 4),x 13 (.stro 4 13 (.t 58)),m 14 59]
 (s [h 60 2 2,h 61 6 3,e 62 2 7 10,h 63 7 62,c 64 102 [.t 60,.t 61,.t 63],q 65 .neq 64 4,m 66 65,z 67 66 (.load 2 true (.t 2)),z 68 66 (.load 6 true (.t 3)),z 69 66 (.faddr 9 7 true (.t 10)),z 70 66 (.load 7 true (.t 69)),z 71 66
 (.call false 102 [.t 67,.t 68,.t 70]),z 72 66 (.bin .neq (.t 71) (.k (.val (.int .i64 2)))),x 73 (.pick (.t 66) (.k (.val (.bool true))) (.t 72)),m 74 73,z 75 74 (.faddr 2 1 false (.t 13)),z 76 74 (.load 1 false (.t 75)),z 77 74
 (.bin .neq (.t 76) (.k (.val (.int .i64 3)))),x 78 (.pick (.t 74) (.k (.val (.bool true))) (.t 77))] (.cond 78 (s [b 4 true] .ret) .skip)))))) (.reg [q 79 .add 42 1,m 42 79]))))))) (s [b 4 false] .ret)))),[.t 4]⟩
theorem i48 : IsFun Tryz.prog 48 g48 := ⟨Tryz.f48, _, [], Tryz.func48, by kernel_rfl, rfl, by kernel_rfl, by kernel_rfl, rfl⟩
def g49 : GFun := ⟨⟨81,[1,8,10]⟩,(s [a 1 2 0,x 2 (.mov (.k (.val (.slice none 0 0))))] (s [f 14 0 1,l 15 14,n 16 15,x 17 (.mkslice 1 8 (.val (.int .i64 0)) (.t 16) (.t 16)),x 3 (.alloc 1 (.val (.slice none 0 0))),(.mk none none (.store 1
 (.t 3) (.t 17)))] (s [x 18 (.mkfn 105 [.t 1,.t 3]),m 4 18] (.seq (s [k 5 1] (.block 0 (.loop (.seq (s [m 19 5,f 20 0 1,l 21 20,n 22 21,o 23 .leq 19 22] (.cond 23 .skip (.exit 0))) (.seq (.block 1 (s [l 26 3,n 27 26,x 28 (.mkslice 1 8
 (.val (.int .i64 0)) (.t 27) (.t 27)),m 6 28] (s [m 29 6,l 30 3,x 31 (.copy 1 (.t 29) (.t 30))] (.seq (s [f 32 0 1,l 33 32,n 34 33,k 35 0] (.block 2 (.loop (s [o 36 .lss 35 34] (.seq (.cond 36 .skip (.exit 2)) (.seq (.block 3 (s [m 37 35,
 i 38 2 33 35,h 39 2 38,x 8 (.allocr 2),m 7 37,x 8 (.stro 2 8 (.t 39))] (.seq (s [l 40 3,m 41 7,i 42 1 40 41,l 43 42,q 44 .gtr 43 0] (.cond 44 (.exit 3) .skip)) (s [f 45 1 1,l 46 45,n 47 46,k 48 0] (.block 4 (.loop (s [o 49 .lss 48 47]
 (.seq (.cond 49 .skip (.exit 4)) (.seq (.block 5 (s [i 50 6 46 48,h 51 6 50,x 10 (.allocr 6),x 10 (.stro 6 10 (.t 51))] (s [f 52 1 10,l 53 52,f 54 0 8,l 55 54,o 56 .eql 53 55,m 11 56] (.seq (s [f 57 2 10,l 58 57,n 59 58,k 60 0] (.block 6
 (.loop (s [o 61 .lss 60 59] (.seq (.cond 61 .skip (.exit 6)) (.seq (.block 7 (s [i 62 1 58 60,l 63 62,m 13 63] (.reg [m 64 11,m 65 64,y 66 65 (.mov (.t 4)),y 67 65 (.mov (.t 13)),y 68 65 (.callv false (.t 66) [.t 67]),y 69 65 (.bin .gtr
 (.t 68) (.k (.val (.int .i64 0)))),x 70 (.pick (.t 65) (.t 69) (.k (.val (.bool false)))),m 11 70]))) (.reg [q 71 .add 60 1,m 60 71]))))))) (s [m 72 11] (.cond 72 (.reg [m 73 6,m 74 7,m 75 5,i 76 1 73 74,(.mk none none (.store 1 (.t 76)
 (.t 75)))]) .skip)))))) (.reg [q 77 .add 48 1,m 48 77])))))))))) (.reg [q 78 .add 35 1,m 35 78]))))))) (.reg [m 79 6,(.mk none none (.store 1 (.t 3) (.t 79)))]))))) (.reg [m 24 5,q 25 .add 24 1,m 5 25])))))) (s [l 80 3,m 2 80] .ret))))),
 [.t 2]⟩
theorem i49 : IsFun Tryz.prog 49 g49 := ⟨Tryz.f49, _, [], Tryz.func49, by kernel_rfl, rfl, by kernel_rfl, by kernel_rfl, rfl⟩
def g60 : GFun := ⟨⟨19,[2]⟩,(s [a 2 2 0,k 4 0] (s [m 5 1,f 6 0 2,l 7 6,x 8 (.slen (.t 7)),o 9 .sub 5 8,m 1 9] (.seq (s [m 10 1,q 11 .lss 10 0] (.cond 11 (s [k 4 (-1)] .ret) .skip)) (s [f 12 1 2,l 13 12,m 14 1,c 15 123 [.t 13,.t 14],
 m 1 15] (.seq (s [m 16 1,q 17 .lss 16 0] (.cond 17 (s [k 4 (-1)] .ret) .skip)) (s [m 18 1,m 4 18] .ret)))))),[.t 4]⟩
theorem i60 : IsFun Tryz.prog 60 g60 := ⟨Tryz.f60, _, [], Tryz.func60, by kernel_rfl, rfl, by kernel_rfl, by kernel_rfl, rfl⟩
def g61 : GFun := ⟨⟨38,[2]⟩,(s [a 2 6 0,k 4 0] (s [m 5 1,f 6 0 2,l 7 6,x 8 (.slen (.t 7)),o 9 .sub 5 8,m 1 9] (.seq (s [m 10 1,q 11 .lss 10 0] (.cond 11 (s [k 4 (-1)] .ret) .skip)) (s [m 12 1,f 13 1 2,l 14 13,x 15 (.slen (.t 14)),
 o 16 .sub 12 15,m 1 16] (.seq (s [m 17 1,q 18 .lss 17 0] (.cond 18 (s [k 4 (-1)] .ret) .skip)) (s [f 19 2 2,l 20 19,m 21 1,c 22 124 [.t 20,.t 21],m 1 22] (.seq (s [m 23 1,q 24 .lss 23 0] (.cond 24 (s [k 4 (-1)] .ret) .skip)) (s [f 25 4 2,
 l 26 25,m 27 1,c 28 125 [.t 26,.t 27],m 1 28] (.seq (s [m 29 1,q 30 .lss 29 0] (.cond 30 (s [k 4 (-1)] .ret) .skip)) (s [f 31 5 2,l 32 31,m 33 1,c 34 126 [.t 32,.t 33],m 1 34] (.seq (s [m 35 1,q 36 .lss 35 0] (.cond 36 (s [k 4
 (-1)] .ret) .skip)) (s [m 37 1,m 4 37] .ret)))))))))))),[.t 4]⟩
theorem i61 : IsFun Tryz.prog 61 g61 := ⟨Tryz.f61, _, [], Tryz.func61, by kernel_rfl, rfl, by kernel_rfl, by kernel_rfl, rfl⟩
def g66 : GFun := ⟨⟨10,[]⟩,(s [k 4 0] (.seq (s [m 5 0,m 6 1,o 7 .gtr 5 6] (.cond 7 (s [m 8 0,m 4 8] .ret) .skip)) (s [m 9 1,m 4 9] .ret))),[.t 4]⟩
theorem i66 : IsFun Tryz.prog 66 g66 := ⟨Tryz.f66, _, [], Tryz.func66, by kernel_rfl, rfl, by kernel_rfl, by kernel_rfl, rfl⟩
def g67 : GFun := ⟨⟨12,[1,2]⟩,(s [a 1 2 0,x 2 (.allocr 2)] (s [x 3 (.alloc 2 (.agg [(.val (.string (ByteArray.mk #[]))),(.val (.slice none 0 0))]))] (s [f 4 0 1,l 5 4,f 6 0 3,(.mk none none (.store 1 (.t 6) (.t 5)))] (s [f 7 1 1,l 8 7,
 c 9 131 [.t 8],f 10 1 3,(.mk none none (.store 1 (.t 10) (.t 9)))] (s [h 11 2 3,x 2 (.stro 2 2 (.t 11))] .ret))))),[(.c 2 2 true)]⟩
theorem i67 : IsFun Tryz.prog 67 g67 := ⟨Tryz.f67, _, [], Tryz.func67, by kernel_rfl, rfl, by kernel_rfl, by kernel_rfl, rfl⟩
def g68 : GFun := ⟨⟨26,[1,2]⟩,(s [a 1 6 0,x 2 (.allocr 6)] (s [x 3 (.alloc 6 (.agg [(.val (.string (ByteArray.mk #[]))),(.val (.string (ByteArray.mk #[]))),(.val (.slice none 0 0)),(.val (.bool false)),(.val (.slice none 0 0)),(.val
 (.slice none 0 0))]))] (s [f 4 0 1,l 5 4,f 6 0 3,(.mk none none (.store 1 (.t 6) (.t 5)))] (s [f 7 1 1,l 8 7,f 9 1 3,(.mk none none (.store 1 (.t 9) (.t 8)))] (s [f 10 2 1,l 11 10,c 12 132 [.t 11],f 13 2 3,(.mk none none (.store 1
 (.t 13) (.t 12)))] (s [f 14 3 1,l 15 14,f 16 3 3,(.mk none none (.store 1 (.t 16) (.t 15)))] (s [f 17 4 1,l 18 17,c 19 133 [.t 18],f 20 4 3,(.mk none none (.store 1 (.t 20) (.t 19)))] (s [f 21 5 1,l 22 21,c 23 134 [.t 22],f 24 5 3,
 (.mk none none (.store 1 (.t 24) (.t 23)))] (s [h 25 6 3,x 2 (.stro 6 2 (.t 25))] .ret))))))))),[(.c 2 6 true)]⟩
theorem i68 : IsFun Tryz.prog 68 g68 := ⟨Tryz.f68, _, [], Tryz.func68, by kernel_rfl, rfl, by kernel_rfl, by kernel_rfl, rfl⟩
def g73 : GFun := ⟨⟨15,[]⟩,(s [b 6 false] (s [m 7 0,m 8 1,o 9 .geq 7 8,m 10 9,y 11 10 (.mov (.t 0)),y 12 10 (.mov (.t 2)),y 13 10 (.bin .leq (.t 11) (.t 12)),x 14 (.pick (.t 10) (.t 13) (.k (.val (.bool false)))),m 6 14] .ret)),[.t 6]⟩
theorem i73 : IsFun Tryz.prog 73 g73 := ⟨Tryz.f73, _, [], Tryz.func73, by kernel_rfl, rfl, by kernel_rfl, by kernel_rfl, rfl⟩
def g77 : GFun := ⟨⟨16,[2,3]⟩,(s [a 2 2 0,a 3 2 1,b 4 false] (.seq (s [f 5 0 2,l 6 5,f 7 0 3,l 8 7,o 9 .neq 6 8] (.cond 9 (s [b 4 false] .ret) .skip)) (.seq (s [f 10 1 2,l 11 10,f 12 1 3,l 13 12,c 14 142 [.t 11,.t 13],w 15 14] (.cond 15
 (s [b 4 false] .ret) .skip)) (s [b 4 true] .ret)))),[.t 4]⟩
theorem i77 : IsFun Tryz.prog 77 g77 := ⟨Tryz.f77, _, [], Tryz.func77, by kernel_rfl, rfl, by kernel_rfl, by kernel_rfl, rfl⟩
def g78 : GFun := ⟨⟨38,[2,3]⟩,(s [a 2 6 0,a 3 6 1,b 4 false] (.seq (s [f 5 0 2,l 6 5,f 7 0 3,l 8 7,o 9 .neq 6 8] (.cond 9 (s [b 4 false] .ret) .skip)) (.seq (s [f 10 1 2,l 11 10,f 12 1 3,l 13 12,o 14 .neq 11 13] (.cond 14
 (s [b 4 false] .ret) .skip)) (.seq (s [f 15 2 2,l 16 15,f 17 2 3,l 18 17,c 19 143 [.t 16,.t 18],w 20 19] (.cond 20 (s [b 4 false] .ret) .skip)) (.seq (s [f 21 3 2,l 22 21,f 23 3 3,l 24 23,x 25 (.beq true (.t 22) (.t 24))] (.cond 25
 (s [b 4 false] .ret) .skip)) (.seq (s [f 26 4 2,l 27 26,f 28 4 3,l 29 28,c 30 144 [.t 27,.t 29],w 31 30] (.cond 31 (s [b 4 false] .ret) .skip)) (.seq (s [f 32 5 2,l 33 32,f 34 5 3,l 35 34,c 36 145 [.t 33,.t 35],w 37 36] (.cond 37
 (s [b 4 false] .ret) .skip)) (s [b 4 true] .ret)))))))),[.t 4]⟩
theorem i78 : IsFun Tryz.prog 78 g78 := ⟨Tryz.f78, _, [], Tryz.func78, by kernel_rfl, rfl, by kernel_rfl, by kernel_rfl, rfl⟩
def g85 : GFun := ⟨⟨15,[]⟩,(s [b 6 false] (s [m 7 0,m 8 1,o 9 .geq 7 8,m 10 9,y 11 10 (.mov (.t 0)),y 12 10 (.mov (.t 2)),y 13 10 (.bin .leq (.t 11) (.t 12)),x 14 (.pick (.t 10) (.t 13) (.k (.val (.bool false)))),m 6 14] .ret)),[.t 6]⟩
theorem i85 : IsFun Tryz.prog 85 g85 := ⟨Tryz.f85, _, [], Tryz.func85, by kernel_rfl, rfl, by kernel_rfl, by kernel_rfl, rfl⟩
def g86 : GFun := ⟨⟨76,[1]⟩,(s [a 1 2 0,k 2 0] (s [x 6 (.bslice 1 [] 0 false []),m 3 6] (.seq (s [k 4 0] (.block 0 (.loop (.seq (s [m 7 4,f 8 0 1,l 9 8,n 10 9,o 11 .lss 7 10] (.cond 11 .skip (.exit 0))) (.seq (.block 1 (.seq (s [f 14 0 1,
 l 15 14,m 16 4,i 17 2 15 16,h 18 2 17,c 19 147 [.t 18],w 20 19,m 21 20,z 22 21 (.mov (.t 3)),z 23 21 (.faddr 0 1 false (.t 1)),z 24 21 (.load 1 false (.t 23)),z 25 21 (.mov (.t 4)),z 26 21 (.iaddr 2 (.t 24) (.t 25)),z 27 21
 (.faddr 0 1 false (.t 26)),z 28 21 (.load 1 false (.t 27)),z 29 21 (.call false 148 [.t 22,.t 28]),x 30 (.pick (.t 21) (.k (.val (.bool true))) (.t 29))] (.cond 30 (s [m 31 4,m 2 31] .ret) .skip)) (.reg [m 32 3,f 33 0 1,l 34 33,m 35 4,
 i 36 2 34 35,f 37 0 36,l 38 37,x 39 (.bslice 1 [] 1 false [(0,(.t 38))]),x 40 (.append 1 16 (.t 32) (.t 39)),m 3 40]))) (.reg [m 12 4,q 13 .add 12 1,m 4 13])))))) (s [x 41 (.bslice 1 [] 0 false []),m 3 41] (.seq (s [k 5 0] (.block 2
 (.loop (.seq (s [m 42 5,f 43 1 1,l 44 43,n 45 44,o 46 .lss 42 45] (.cond 46 .skip (.exit 2))) (.seq (.block 3 (.seq (s [f 49 1 1,l 50 49,m 51 5,i 52 6 50 51,h 53 6 52,c 54 149 [.t 53],w 55 54,m 56 55,z 57 56 (.mov (.t 3)),z 58 56
 (.faddr 1 1 false (.t 1)),z 59 56 (.load 1 false (.t 58)),z 60 56 (.mov (.t 5)),z 61 56 (.iaddr 6 (.t 59) (.t 60)),z 62 56 (.faddr 0 1 false (.t 61)),z 63 56 (.load 1 false (.t 62)),z 64 56 (.call false 148 [.t 57,.t 63]),x 65 (.pick
 (.t 56) (.k (.val (.bool true))) (.t 64))] (.cond 65 (s [m 66 5,m 2 66] .ret) .skip)) (.reg [m 67 3,f 68 1 1,l 69 68,m 70 5,i 71 6 69 70,f 72 0 71,l 73 72,x 74 (.bslice 1 [] 1 false [(0,(.t 73))]),x 75 (.append 1 16 (.t 67) (.t 74)),
 m 3 75]))) (.reg [m 47 5,q 48 .add 47 1,m 5 48])))))) (s [k 2 (-1)] .ret)))))),[.t 2]⟩
theorem i86 : IsFun Tryz.prog 86 g86 := ⟨Tryz.f86, _, [], Tryz.func86, by kernel_rfl, rfl, by kernel_rfl, by kernel_rfl, rfl⟩
def g87 : GFun := ⟨⟨27,[3,4]⟩,(s [a 3 2 0,a 4 6 1,b 6 false] (.seq (s [m 7 2] (.block 0 (s [q 9 .eql 7 3,m 8 9] (.cond 8 (s [h 10 2 3,h 11 6 4,c 12 150 [.t 10,.t 11],w 13 12,m 6 13] .ret) (s [q 15 .eql 7 4,m 14 15] (.cond 14 (s [h 16 2 3,
 h 17 6 4,c 18 151 [.t 16,.t 17],m 6 18] .ret) (s [q 20 .eql 7 5,m 19 20] (.cond 19 (s [h 21 2 3,h 22 6 4,c 23 152 [.t 21,.t 22],m 6 23] .ret) .skip)))))))) (s [h 24 2 3,h 25 6 4,c 26 153 [.t 24,.t 25],m 6 26] .ret))),[.t 6]⟩
theorem i87 : IsFun Tryz.prog 87 g87 := ⟨Tryz.f87, _, [], Tryz.func87, by kernel_rfl, rfl, by kernel_rfl, by kernel_rfl, rfl⟩
def g88 : GFun := ⟨⟨77,[3,4,5]⟩,(s [a 3 2 0,a 4 6 1,a 5 7 2,k 6 0] (.seq (s [f 7 0 5,l 8 7] (.block 0 (s [q 10 .eql 8 1,m 9 10] (.cond 9 (s [f 11 3 5,l 12 11,m 6 12] .ret) (s [q 14 .eql 8 2,m 13 14] (.cond 13 (s [f 15 3 4,l 16 15]
 (.cond 16 (s [k 6 1] .ret) .skip)) (s [q 18 .eql 8 3,m 17 18] (.cond 17 (s [f 19 2 5,l 20 19,f 21 2 4,l 22 21,n 23 22,c 24 85 [.t 20,(.k (.val (.int .i64 0))),.t 23]] (.cond 24 (s [f 27 2 5,f 30 5 5,h 25 2 3,h 26 6 4,l 28 27,x 29
 (.call true 90 [.t 26,.t 28]),l 31 30,x 32 (.call true 89 [.t 25,.t 29,.t 31]),m 6 32] .ret) .skip)) (s [q 34 .eql 8 4,m 33 34] (.cond 33 (s [h 35 2 3,h 36 6 4,h 37 7 5,c 38 154 [.t 35,.t 36,.t 37],m 6 38] .ret) (s [q 40 .eql 8 5,
 m 39 40] (.cond 39 (s [h 41 2 3,h 42 6 4,h 43 7 5,c 44 155 [.t 41,.t 42,.t 43],m 6 44] .ret) (s [q 46 .eql 8 6,m 45 46] (.cond 45 (s [f 47 2 5,l 48 47,f 49 2 4,l 50 49,n 51 50,c 52 85 [.t 48,(.k (.val (.int .i64 0))),.t 51]] (.cond 52
 (s [k 6 4] .ret) .skip)) (s [q 54 .eql 8 7,m 53 54] (.cond 53 (s [k 6 4] .ret) (s [q 56 .eql 8 8,m 55 56] (.cond 55 (s [f 57 6 5,l 58 57,n 59 58,q 60 .eql 59 1,m 61 60,y 64 61 (.faddr 6 1 false (.t 5)),y 62 61 (.load 2 true (.t 3)),
 y 63 61 (.load 6 true (.t 4)),y 65 61 (.load 1 false (.t 64)),y 66 61 (.iaddr 7 (.t 65) (.k (.val (.int .i64 0)))),y 67 61 (.load 7 true (.t 66)),y 68 61 (.call true 88 [.t 62,.t 63,.t 67]),y 69 61 (.bin .eql (.t 68) (.k (.val
 (.int .i64 4)))),x 70 (.pick (.t 61) (.t 69) (.k (.val (.bool false))))] (.cond 70 (s [h 71 2 3,f 72 4 5,l 73 72,f 74 5 5,l 75 74,c 76 89 [.t 71,.t 73,.t 75],m 6 76] .ret) .skip)) .skip)))))))))))))))))) (s [k 6 0] .ret))),[.t 6]⟩
theorem i88 : IsFun Tryz.prog 88 g88 := ⟨Tryz.f88, _, [], Tryz.func88, by kernel_rfl, rfl, by kernel_rfl, by kernel_rfl, rfl⟩
def g89 : GFun := ⟨⟨27,[3,7,9]⟩,(s [a 3 2 0,k 6 0] (s [h 12 2 3,m 13 1,c 14 91 [.t 12,.t 13],m 11 14,x 15 (.ext (.t 11) 0),x 16 (.ext (.t 11) 1),x 7 (.allocr 2),x 7 (.stro 2 7 (.t 15)),m 8 16] (s [h 18 2 7,m 19 2,c 20 92 [.t 18,.t 19],
 m 17 20,x 21 (.ext (.t 17) 0),x 22 (.ext (.t 17) 1),x 9 (.allocr 4),x 9 (.stro 4 9 (.t 21)),m 10 22] (.seq (s [m 23 10,w 24 23] (.cond 24 (s [k 6 0] .ret) .skip)) (s [f 25 1 9,l 26 25,m 6 26] .ret))))),[.t 6]⟩
theorem i89 : IsFun Tryz.prog 89 g89 := ⟨Tryz.f89, _, [], Tryz.func89, by kernel_rfl, rfl, by kernel_rfl, by kernel_rfl, rfl⟩
def g90 : GFun := ⟨⟨21,[2]⟩,(s [a 2 6 0,x 4 (.mov (.k (.val (.string (ByteArray.mk #[])))))] (.seq (s [m 5 1,q 6 .eql 5 0] (.cond 6 (s [f 7 1 2,l 8 7,m 4 8] .ret) .skip)) (.seq (s [m 9 1,f 10 2 2,l 11 10,n 12 11,c 13 85 [.t 9,(.k (.val
 (.int .i64 1))),.t 12],w 14 13] (.cond 14 (s [x 4 (.mov (.k (.val (.string (ByteArray.mk #[])))))] .ret) .skip)) (s [f 15 2 2,l 16 15,m 17 1,q 18 .sub 17 1,i 19 1 16 18,l 20 19,m 4 20] .ret)))),[.t 4]⟩
theorem i90 : IsFun Tryz.prog 90 g90 := ⟨Tryz.f90, _, [], Tryz.func90, by kernel_rfl, rfl, by kernel_rfl, by kernel_rfl, rfl⟩
def g91 : GFun := ⟨⟨29,[2,4]⟩,(s [a 2 2 0,x 4 (.allocr 2),b 5 false] (.seq (s [k 6 0] (.block 0 (.loop (.seq (s [m 7 6,f 8 0 2,l 9 8,n 10 9,o 11 .lss 7 10] (.cond 11 .skip (.exit 0))) (.seq (.block 1 (s [f 14 0 2,l 15 14,m 16 6,
 i 17 2 15 16,f 18 0 17,l 19 18,m 20 1,o 21 .eql 19 20] (.cond 21 (s [f 22 0 2,l 23 22,m 24 6,i 25 2 23 24,h 26 2 25,c 27 156 [.t 26],x 4 (.stro 2 4 (.t 27)),b 5 true] .ret) .skip))) (.reg [m 12 6,q 13 .add 12 1,m 6 13])))))) (s [x 28
 (.build [(.val (.string (ByteArray.mk #[]))),(.val (.slice none 0 0))] []),x 4 (.stro 2 4 (.t 28)),b 5 false] .ret))),[(.c 4 2 true),.t 5]⟩
theorem i91 : IsFun Tryz.prog 91 g91 := ⟨Tryz.f91, _, [], Tryz.func91, by kernel_rfl, rfl, by kernel_rfl, by kernel_rfl, rfl⟩
def g92 : GFun := ⟨⟨28,[2,4]⟩,(s [a 2 2 0,x 4 (.allocr 4),b 5 false] (.seq (s [k 6 0] (.block 0 (.loop (.seq (s [m 7 6,f 8 1 2,l 9 8,n 10 9,o 11 .lss 7 10] (.cond 11 .skip (.exit 0))) (.seq (.block 1 (s [f 14 1 2,l 15 14,m 16 6,
 i 17 4 15 16,f 18 0 17,l 19 18,m 20 1,o 21 .eql 19 20] (.cond 21 (s [f 22 1 2,l 23 22,m 24 6,i 25 4 23 24,h 26 4 25,x 4 (.stro 4 4 (.t 26)),b 5 true] .ret) .skip))) (.reg [m 12 6,q 13 .add 12 1,m 6 13])))))) (s [x 27 (.build [(.val
 (.string (ByteArray.mk #[]))),(.val (.int .i64 0)),(.val (.int .i64 0)),(.val (.bool false))] []),x 4 (.stro 4 4 (.t 27)),b 5 false] .ret))),[(.c 4 4 true),.t 5]⟩
theorem i92 : IsFun Tryz.prog 92 g92 := ⟨Tryz.f92, _, [], Tryz.func92, by kernel_rfl, rfl, by kernel_rfl, by kernel_rfl, rfl⟩
def g93 : GFun := ⟨⟨16,[2]⟩,(s [a 2 2 0,k 4 0] (s [h 6 2 2,m 7 1,c 8 157 [.t 6,.t 7],m 5 8] (.seq (s [m 9 5,q 10 .lss 9 0] (.cond 10 (s [k 4 0] .ret) .skip)) (s [h 11 2 2,c 12 158 [.t 11],m 13 5,i 14 1 12 13,l 15 14,m 4 15] .ret)))),[.t 4]⟩
theorem i93 : IsFun Tryz.prog 93 g93 := ⟨Tryz.f93, _, [], Tryz.func93, by kernel_rfl, rfl, by kernel_rfl, by kernel_rfl, rfl⟩
def g94 : GFun := ⟨⟨49,[1,4,6]⟩,(s [a 1 2 0,k 2 0] (.seq (s [f 7 0 1,l 8 7,n 9 8,k 10 0] (.block 0 (.loop (s [o 11 .lss 10 9] (.seq (.cond 11 .skip (.exit 0)) (.seq (.block 1 (s [m 12 10,i 13 2 8 10,h 14 2 13,x 4 (.allocr 2),m 3 12,x 4
 (.stro 2 4 (.t 14))] (s [h 15 2 4,c 16 159 [.t 15],w 17 16,m 18 17,z 19 18 (.faddr 0 1 false (.t 1)),z 20 18 (.load 1 false (.t 19)),z 21 18 (.mov (.t 3)),z 22 18 (.slc 2 (.t 20) none (some (.t 21))),z 23 18 (.mkfn 160 [.t 4]),z 24 18
 (.call false 112 [.t 22,.t 23]),x 25 (.pick (.t 18) (.k (.val (.bool true))) (.t 24))] (.cond 25 (s [m 26 3,m 2 26] .ret) .skip)))) (.reg [q 27 .add 10 1,m 10 27]))))))) (.seq (s [f 28 1 1,l 29 28,n 30 29,k 31 0] (.block 2 (.loop
 (s [o 32 .lss 31 30] (.seq (.cond 32 .skip (.exit 2)) (.seq (.block 3 (s [m 33 31,i 34 6 29 31,h 35 6 34,x 6 (.allocr 6),m 5 33,x 6 (.stro 6 6 (.t 35))] (s [h 36 6 6,c 37 161 [.t 36],w 38 37,m 39 38,z 40 39 (.faddr 1 1 false (.t 1)),
 z 41 39 (.load 1 false (.t 40)),z 42 39 (.mov (.t 5)),z 43 39 (.slc 6 (.t 41) none (some (.t 42))),z 44 39 (.mkfn 162 [.t 6]),z 45 39 (.call false 107 [.t 43,.t 44]),x 46 (.pick (.t 39) (.k (.val (.bool true))) (.t 45))] (.cond 46
 (s [m 47 5,m 2 47] .ret) .skip)))) (.reg [q 48 .add 31 1,m 31 48]))))))) (s [k 2 (-1)] .ret)))),[.t 2]⟩
theorem i94 : IsFun Tryz.prog 94 g94 := ⟨Tryz.f94, _, [], Tryz.func94, by kernel_rfl, rfl, by kernel_rfl, by kernel_rfl, rfl⟩
def g95 : GFun := ⟨⟨9,[]⟩,(s [b 4 false] (s [m 5 0,m 6 1,c 7 163 [.t 5,.t 6],q 8 .geq 7 0,m 4 8] .ret)),[.t 4]⟩
theorem i95 : IsFun Tryz.prog 95 g95 := ⟨Tryz.f95, _, [], Tryz.func95, by kernel_rfl, rfl, by kernel_rfl, by kernel_rfl, rfl⟩
def g96 : GFun := ⟨⟨6,[1]⟩,(s [a 1 4 0,b 2 false] (s [f 3 2 1,l 4 3,q 5 .eql 4 1,m 2 5] .ret)),[.t 2]⟩
theorem i96 : IsFun Tryz.prog 96 g96 := ⟨Tryz.f96, _, [], Tryz.func96, by kernel_rfl, rfl, by kernel_rfl, by kernel_rfl, rfl⟩
def g97 : GFun := ⟨⟨26,[2,3,6]⟩,(s [a 2 2 0,a 3 6 1,b 4 false] (.seq (s [f 8 2 3,l 9 8,n 10 9,q 11 .add 10 1,k 12 0] (.block 0 (.loop (s [o 13 .lss 12 11] (.seq (.cond 13 .skip (.exit 0)) (.seq (.block 1 (s [m 14 12,m 5 14] (s [m 18 5,x 6
 (.allocr 2),h 16 2 2,h 17 6 3,x 19 (.call true 164 [.t 17,.t 18]),x 20 (.call true 103 [.t 16,.t 19]),m 15 20,x 21 (.ext (.t 15) 0),x 22 (.ext (.t 15) 1),x 6 (.stro 2 6 (.t 21)),m 7 22] (s [m 23 7,w 24 23] (.cond 24
 (s [b 4 true] .ret) .skip))))) (.reg [q 25 .add 12 1,m 12 25]))))))) (s [b 4 false] .ret))),[.t 4]⟩
theorem i97 : IsFun Tryz.prog 97 g97 := ⟨Tryz.f97, _, [], Tryz.func97, by kernel_rfl, rfl, by kernel_rfl, by kernel_rfl, rfl⟩
def g98 : GFun := ⟨⟨10,[2,3]⟩,(s [a 2 2 0,a 3 6 1,b 4 false] (s [h 5 2 2,h 6 6 3,c 7 166 [.t 5,.t 6],x 8 (.mkfn 167 [.t 3]),c 9 165 [.t 7,.t 8],m 4 9] .ret)),[.t 4]⟩
theorem i98 : IsFun Tryz.prog 98 g98 := ⟨Tryz.f98, _, [], Tryz.func98, by kernel_rfl, rfl, by kernel_rfl, by kernel_rfl, rfl⟩
def g99 : GFun := ⟨⟨33,[2,3,7]⟩,(s [a 2 2 0,a 3 6 1,b 4 false] (s [h 8 2 2,h 9 6 3,c 10 166 [.t 8,.t 9],m 5 10] (.seq (s [f 11 4 3,l 12 11,n 13 12,k 14 0] (.block 0 (.loop (s [o 15 .lss 14 13] (.seq (.cond 15 .skip (.exit 0)) (.seq
 (.block 1 (s [m 16 14,i 17 9 12 14,h 18 9 17,x 7 (.allocr 9),m 6 16,x 7 (.stro 9 7 (.t 18))] (s [m 19 5,e 20 0 2 7,h 21 2 20,c 22 170 [.t 19,.t 21],w 23 22,m 24 23,z 25 24 (.faddr 4 1 false (.t 3)),z 26 24 (.load 1 false (.t 25)),z 27 24
 (.mov (.t 6)),z 28 24 (.slc 9 (.t 26) none (some (.t 27))),z 29 24 (.mkfn 171 [.t 7]),z 30 24 (.call false 168 [.t 28,.t 29]),x 31 (.pick (.t 24) (.k (.val (.bool true))) (.t 30))] (.cond 31 (s [b 4 true] .ret) .skip))))
 (.reg [q 32 .add 14 1,m 14 32]))))))) (s [b 4 false] .ret)))),[.t 4]⟩
theorem i99 : IsFun Tryz.prog 99 g99 := ⟨Tryz.f99, _, [], Tryz.func99, by kernel_rfl, rfl, by kernel_rfl, by kernel_rfl, rfl⟩
def g100 : GFun := ⟨⟨9,[2,3]⟩,(s [a 2 2 0,a 3 6 1,b 4 false] (s [h 5 6 3,c 6 110 [.t 5],x 7 (.mkfn 172 [.t 2,.t 3]),c 8 109 [.t 6,.t 7],m 4 8] .ret)),[.t 4]⟩
theorem i100 : IsFun Tryz.prog 100 g100 := ⟨Tryz.f100, _, [], Tryz.func100, by kernel_rfl, rfl, by kernel_rfl, by kernel_rfl, rfl⟩
def g101 : GFun := ⟨⟨33,[3,4,5,6,8]⟩,(s [a 3 2 0,a 4 6 1,a 5 2 2,x 6 (.allocr 4),b 7 false] (.seq (s [f 10 0 5,l 11 10,f 12 2 4,l 13 12,n 14 13,c 15 73 [.t 11,(.k (.val (.int .i64 0))),.t 14],w 16 15] (.cond 16 (s [x 17 (.build [(.val
 (.string (ByteArray.mk #[]))),(.val (.int .i64 0)),(.val (.int .i64 0)),(.val (.bool false))] []),x 6 (.stro 4 6 (.t 17)),b 7 false] .ret) .skip)) (s [f 21 0 5,x 8 (.allocr 2),h 19 2 3,h 20 6 4,l 22 21,x 23 (.call true 164 [.t 20,.t 22]),
 x 24 (.call true 103 [.t 19,.t 23]),m 18 24,x 25 (.ext (.t 18) 0),x 26 (.ext (.t 18) 1),x 8 (.stro 2 8 (.t 25)),m 9 26] (s [h 27 2 8,f 28 1 5,l 29 28,c 30 104 [.t 27,.t 29],x 31 (.ext (.t 30) 0),x 32 (.ext (.t 30) 1),x 6 (.stro 4 6
 (.t 31)),m 7 32] .ret)))),[(.c 6 4 true),.t 7]⟩
theorem i101 : IsFun Tryz.prog 101 g101 := ⟨Tryz.f101, _, [], Tryz.func101, by kernel_rfl, rfl, by kernel_rfl, by kernel_rfl, rfl⟩
def g102 : GFun := ⟨⟨166,[3,4,5,9,10,15,17]⟩,(s [a 3 2 0,a 4 6 1,a 5 7 2,k 6 0] (s [x 19 (.bslice 1 [] 0 false []),m 7 19] (.seq (s [f 20 6 5,l 21 20,n 22 21,k 23 0] (.block 0 (.loop (s [o 24 .lss 23 22] (.seq (.cond 24 .skip (.exit 0))
 (.seq (.block 1 (s [i 25 7 21 23,h 26 7 25,x 9 (.allocr 7),x 9 (.stro 7 9 (.t 26))] (.reg [m 27 7,h 28 2 3,h 29 6 4,h 30 7 9,c 31 102 [.t 28,.t 29,.t 30],x 32 (.bslice 1 [] 1 false [(0,(.t 31))]),x 33 (.append 1 8 (.t 27) (.t 32)),
 m 7 33]))) (.reg [q 34 .add 23 1,m 23 34]))))))) (.seq (.block 2 (s [f 36 0 5,l 37 36,q 38 .eql 37 1,m 35 38] (.cond 35 (s [f 39 3 5,l 40 39,m 6 40] .ret) (s [f 42 0 5,l 43 42,q 44 .eql 43 2,m 45 44,y 46 45 (.faddr 3 1 false (.t 4)),
 y 47 45 (.load 1 false (.t 46)),x 48 (.pick (.t 45) (.t 47) (.k (.val (.bool false)))),m 41 48] (.cond 41 (s [k 6 1] .ret) (s [f 50 0 5,l 51 50,q 52 .eql 51 3,m 49 52] (.cond 49 (s [h 54 2 3,h 55 6 4,f 56 2 5,l 57 56,f 58 5 5,l 59 58,
 x 60 (.build [(.val (.int .i64 0)),(.val (.string (ByteArray.mk #[])))] [(0,(1,(.t 57))),(1,(1,(.t 59)))]),c 61 101 [.t 54,.t 55,.t 60],m 53 61,x 62 (.ext (.t 53) 0),x 63 (.ext (.t 53) 1),x 10 (.allocr 4),x 10 (.stro 4 10 (.t 62)),
 m 11 63] (s [f 64 1 10,l 65 64,m 6 65] .ret)) (s [f 67 0 5,l 68 67,q 69 .eql 68 4,m 70 69,y 71 70 (.mov (.t 7)),y 72 70 (.len (.t 71)),y 73 70 (.bin .eql (.t 72) (.k (.val (.int .i64 2)))),x 74 (.pick (.t 70) (.t 73) (.k (.val
 (.bool false)))),m 66 74] (.cond 66 (s [f 76 1 5,l 77 76,c 78 175 [.t 77],m 75 78,x 79 (.ext (.t 75) 0),x 80 (.ext (.t 75) 1),x 81 (.ext (.t 75) 2),m 12 79,m 13 80,m 14 81] (s [m 82 7,x 83 (.iaddr 1 (.t 82) (.k (.val (.int .i64 0)))),
 l 84 83,m 85 12,o 86 .eql 84 85,m 87 86,y 88 87 (.mov (.t 7)),y 89 87 (.iaddr 1 (.t 88) (.k (.val (.int .i64 1)))),y 90 87 (.load 1 false (.t 89)),y 91 87 (.mov (.t 13)),y 92 87 (.bin .eql (.t 90) (.t 91)),x 93 (.pick (.t 87) (.t 92) (.k
 (.val (.bool false))))] (.cond 93 (s [m 94 14,m 6 94] .ret) .skip))) (s [f 96 0 5,l 97 96,q 98 .eql 97 5,m 99 98,y 100 99 (.mov (.t 7)),y 101 99 (.len (.t 100)),y 102 99 (.bin .eql (.t 101) (.k (.val (.int .i64 3)))),x 103 (.pick (.t 99)
 (.t 102) (.k (.val (.bool false)))),m 95 103] (.cond 95 (s [m 104 7,x 105 (.iaddr 1 (.t 104) (.k (.val (.int .i64 0)))),l 106 105,q 107 .eql 106 3,m 108 107,y 109 108 (.mov (.t 7)),y 110 108 (.iaddr 1 (.t 109) (.k (.val (.int .i64 1)))),
 y 112 108 (.mov (.t 7)),y 113 108 (.iaddr 1 (.t 112) (.k (.val (.int .i64 2)))),y 111 108 (.load 1 false (.t 110)),y 114 108 (.load 1 false (.t 113)),y 115 108 (.bin .eql (.t 111) (.t 114)),x 116 (.pick (.t 108) (.t 115) (.k (.val
 (.bool false))))] (.cond 116 (s [m 117 7,x 118 (.iaddr 1 (.t 117) (.k (.val (.int .i64 1)))),l 119 118,m 6 119] .ret) .skip)) (.seq (s [f 121 0 5,l 122 121,q 123 .eql 122 6,m 124 123,y 125 124 (.faddr 2 1 false (.t 5)),y 126 124
 (.load 1 false (.t 125)),y 127 124 (.faddr 2 1 false (.t 4)),y 128 124 (.load 1 false (.t 127)),y 129 124 (.len (.t 128)),y 130 124 (.call false 73 [.t 126,(.k (.val (.int .i64 0))),.t 129]),x 131 (.pick (.t 124) (.t 130) (.k (.val
 (.bool false)))),m 120 131] (.cond 120 .skip (.reg [f 132 0 5,l 133 132,q 134 .eql 133 7,m 120 134]))) (.cond 120 (s [k 6 4] .ret) (s [f 136 0 5,l 137 136,q 138 .eql 137 8,m 139 138,y 140 139 (.mov (.t 7)),y 141 139 (.len (.t 140)),
 y 142 139 (.bin .eql (.t 141) (.k (.val (.int .i64 1)))),x 143 (.pick (.t 139) (.t 142) (.k (.val (.bool false)))),m 144 143,y 145 144 (.mov (.t 7)),y 146 144 (.iaddr 1 (.t 145) (.k (.val (.int .i64 0)))),y 147 144 (.load 1 false
 (.t 146)),y 148 144 (.bin .eql (.t 147) (.k (.val (.int .i64 4)))),x 149 (.pick (.t 144) (.t 148) (.k (.val (.bool false)))),m 135 149] (.cond 135 (s [h 151 2 3,f 152 4 5,l 153 152,c 154 103 [.t 151,.t 153],m 150 154,x 155 (.ext
 (.t 150) 0),x 156 (.ext (.t 150) 1),x 15 (.allocr 2),x 15 (.stro 2 15 (.t 155)),m 16 156] (s [h 158 2 15,f 159 5 5,l 160 159,c 161 104 [.t 158,.t 160],m 157 161,x 162 (.ext (.t 157) 0),x 163 (.ext (.t 157) 1),x 17 (.allocr 4),x 17
 (.stro 4 17 (.t 162)),m 18 163] (s [f 164 1 17,l 165 164,m 6 165] .ret))) .skip))))))))))))))) (s [k 6 0] .ret))))),[.t 6]⟩
theorem i102 : IsFun Tryz.prog 102 g102 := ⟨Tryz.f102, _, [], Tryz.func102, by kernel_rfl, rfl, by kernel_rfl, by kernel_rfl, rfl⟩
def g103 : GFun := ⟨⟨22,[2,4,7]⟩,(s [a 2 2 0,x 4 (.allocr 2),b 5 false] (.seq (s [f 8 0 2,l 9 8,n 10 9,k 11 0] (.block 0 (.loop (s [o 12 .lss 11 10] (.seq (.cond 12 .skip (.exit 0)) (.seq (.block 1 (s [i 13 2 9 11,h 14 2 13,x 7 (.allocr 2),
 x 7 (.stro 2 7 (.t 14))] (s [f 15 0 7,l 16 15,m 17 1,o 18 .eql 16 17] (.cond 18 (s [h 19 2 7,x 4 (.stro 2 4 (.t 19)),b 5 true] .ret) .skip)))) (.reg [q 20 .add 11 1,m 11 20]))))))) (s [x 21 (.build [(.val (.string (ByteArray.mk #[]))),
 (.val (.slice none 0 0))] []),x 4 (.stro 2 4 (.t 21)),b 5 false] .ret))),[(.c 4 2 true),.t 5]⟩
theorem i103 : IsFun Tryz.prog 103 g103 := ⟨Tryz.f103, _, [], Tryz.func103, by kernel_rfl, rfl, by kernel_rfl, by kernel_rfl, rfl⟩
def g104 : GFun := ⟨⟨22,[2,4,7]⟩,(s [a 2 2 0,x 4 (.allocr 4),b 5 false] (.seq (s [f 8 1 2,l 9 8,n 10 9,k 11 0] (.block 0 (.loop (s [o 12 .lss 11 10] (.seq (.cond 12 .skip (.exit 0)) (.seq (.block 1 (s [i 13 4 9 11,h 14 4 13,x 7 (.allocr 4),
 x 7 (.stro 4 7 (.t 14))] (s [f 15 0 7,l 16 15,m 17 1,o 18 .eql 16 17] (.cond 18 (s [h 19 4 7,x 4 (.stro 4 4 (.t 19)),b 5 true] .ret) .skip)))) (.reg [q 20 .add 11 1,m 11 20]))))))) (s [x 21 (.build [(.val (.string (ByteArray.mk #[]))),
 (.val (.int .i64 0)),(.val (.int .i64 0)),(.val (.bool false))] []),x 4 (.stro 4 4 (.t 21)),b 5 false] .ret))),[(.c 4 4 true),.t 5]⟩
theorem i104 : IsFun Tryz.prog 104 g104 := ⟨Tryz.f104, _, [], Tryz.func104, by kernel_rfl, rfl, by kernel_rfl, by kernel_rfl, rfl⟩
def g105 : GFun := ⟨⟨24,[6]⟩,(s [k 4 0] (.seq (s [f 7 0 1,l 8 7,n 9 8,k 10 0] (.block 0 (.loop (s [o 11 .lss 10 9] (.seq (.cond 11 .skip (.exit 0)) (.seq (.block 1 (s [m 12 10,i 13 2 8 10,h 14 2 13,x 6 (.allocr 2),m 5 12,x 6 (.stro 2 6
 (.t 14))] (s [f 15 0 6,l 16 15,m 17 0,o 18 .eql 16 17] (.cond 18 (s [l 19 2,m 20 5,i 21 1 19 20,l 22 21,m 4 22] .ret) .skip)))) (.reg [q 23 .add 10 1,m 10 23]))))))) (s [k 4 0] .ret))),[.t 4]⟩
theorem i105 : IsFun Tryz.prog 105 g105 := ⟨Tryz.f105, _, [], Tryz.func105, by kernel_rfl, rfl, by kernel_rfl, by kernel_rfl, rfl⟩
def g107 : GFun := ⟨⟨9,[]⟩,(s [b 4 false] (s [m 5 0,m 6 1,c 7 176 [.t 5,.t 6],q 8 .geq 7 0,m 4 8] .ret)),[.t 4]⟩
theorem i107 : IsFun Tryz.prog 107 g107 := ⟨Tryz.f107, _, [], Tryz.func107, by kernel_rfl, rfl, by kernel_rfl, by kernel_rfl, rfl⟩
def g109 : GFun := ⟨⟨9,[]⟩,(s [b 4 false] (s [m 5 0,m 6 1,c 7 177 [.t 5,.t 6],q 8 .geq 7 0,m 4 8] .ret)),[.t 4]⟩
theorem i109 : IsFun Tryz.prog 109 g109 := ⟨Tryz.f109, _, [], Tryz.func109, by kernel_rfl, rfl, by kernel_rfl, by kernel_rfl, rfl⟩
def g110 : GFun := ⟨⟨38,[1,5,7]⟩,(s [a 1 6 0,x 2 (.mov (.k (.val (.slice none 0 0))))] (s [x 8 (.bslice 7 [] 0 true []),m 3 8] (.seq (s [f 9 4 1,l 10 9,n 11 10,k 12 0] (.block 0 (.loop (s [o 13 .lss 12 11] (.seq (.cond 13 .skip (.exit 0))
 (.seq (.block 1 (s [i 14 9 10 12,h 15 9 14,x 5 (.allocr 9),x 5 (.stro 9 5 (.t 15))] (.reg [m 16 3,e 17 2 7 5,h 18 7 17,x 19 (.bslice 7 [] 1 true [(0,(.t 18))]),x 20 (.append 7 88 (.t 16) (.t 19)),m 3 20]))) (.reg [q 21 .add 12 1,
 m 12 21]))))))) (.seq (s [f 22 5 1,l 23 22,n 24 23,k 25 0] (.block 2 (.loop (s [o 26 .lss 25 24] (.seq (.cond 26 .skip (.exit 2)) (.seq (.block 3 (s [i 27 16 23 25,h 28 16 27,x 7 (.allocr 16),x 7 (.stro 16 7 (.t 28))] (.reg [m 29 3,
 e 30 2 7 7,h 31 7 30,e 32 9 7 7,h 33 7 32,x 34 (.bslice 7 [] 2 true [(0,(.t 31)),(1,(.t 33))]),x 35 (.append 7 88 (.t 29) (.t 34)),m 3 35]))) (.reg [q 36 .add 25 1,m 25 36]))))))) (s [m 37 3,m 2 37] .ret))))),[.t 2]⟩
theorem i110 : IsFun Tryz.prog 110 g110 := ⟨Tryz.f110, _, [], Tryz.func110, by kernel_rfl, rfl, by kernel_rfl, by kernel_rfl, rfl⟩
def g112 : GFun := ⟨⟨9,[]⟩,(s [b 4 false] (s [m 5 0,m 6 1,c 7 180 [.t 5,.t 6],q 8 .geq 7 0,m 4 8] .ret)),[.t 4]⟩
theorem i112 : IsFun Tryz.prog 112 g112 := ⟨Tryz.f112, _, [], Tryz.func112, by kernel_rfl, rfl, by kernel_rfl, by kernel_rfl, rfl⟩
def g123 : GFun := ⟨⟨27,[]⟩,(s [k 4 0] (s [m 6 1,m 7 0,n 8 7,o 9 .sub 6 8,m 1 9] (.seq (s [m 10 1,q 11 .lss 10 0] (.cond 11 (s [k 4 (-1)] .ret) .skip)) (.seq (s [k 5 0] (.block 0 (.loop (.seq (s [m 12 5,m 13 0,n 14 13,o 15 .lss 12 14]
 (.cond 15 .skip (.exit 0))) (.seq (.block 1 (s [m 18 0,m 19 5,i 20 4 18 19,h 21 4 20,m 22 1,c 23 193 [.t 21,.t 22],m 1 23] (s [m 24 1,q 25 .lss 24 0] (.cond 25 (s [k 4 (-1)] .ret) .skip)))) (.reg [m 16 5,q 17 .add 16 1,m 5 17]))))))
 (s [m 26 1,m 4 26] .ret))))),[.t 4]⟩
theorem i123 : IsFun Tryz.prog 123 g123 := ⟨Tryz.f123, _, [], Tryz.func123, by kernel_rfl, rfl, by kernel_rfl, by kernel_rfl, rfl⟩
def g124 : GFun := ⟨⟨28,[]⟩,(s [k 4 0] (s [m 6 1,m 7 0,n 8 7,o 9 .sub 6 8,m 1 9] (.seq (s [m 10 1,q 11 .lss 10 0] (.cond 11 (s [k 4 (-1)] .ret) .skip)) (.seq (s [k 5 0] (.block 0 (.loop (.seq (s [m 12 5,m 13 0,n 14 13,o 15 .lss 12 14]
 (.cond 15 .skip (.exit 0))) (.seq (.block 1 (s [m 18 1,m 19 0,m 20 5,i 21 1 19 20,l 22 21,x 23 (.slen (.t 22)),o 24 .sub 18 23,m 1 24] (s [m 25 1,q 26 .lss 25 0] (.cond 26 (s [k 4 (-1)] .ret) .skip)))) (.reg [m 16 5,q 17 .add 16 1,
 m 5 17])))))) (s [m 27 1,m 4 27] .ret))))),[.t 4]⟩
theorem i124 : IsFun Tryz.prog 124 g124 := ⟨Tryz.f124, _, [], Tryz.func124, by kernel_rfl, rfl, by kernel_rfl, by kernel_rfl, rfl⟩
def g125 : GFun := ⟨⟨27,[]⟩,(s [k 4 0] (s [m 6 1,m 7 0,n 8 7,o 9 .sub 6 8,m 1 9] (.seq (s [m 10 1,q 11 .lss 10 0] (.cond 11 (s [k 4 (-1)] .ret) .skip)) (.seq (s [k 5 0] (.block 0 (.loop (.seq (s [m 12 5,m 13 0,n 14 13,o 15 .lss 12 14]
 (.cond 15 .skip (.exit 0))) (.seq (.block 1 (s [m 18 0,m 19 5,i 20 9 18 19,h 21 9 20,m 22 1,c 23 194 [.t 21,.t 22],m 1 23] (s [m 24 1,q 25 .lss 24 0] (.cond 25 (s [k 4 (-1)] .ret) .skip)))) (.reg [m 16 5,q 17 .add 16 1,m 5 17]))))))
 (s [m 26 1,m 4 26] .ret))))),[.t 4]⟩
theorem i125 : IsFun Tryz.prog 125 g125 := ⟨Tryz.f125, _, [], Tryz.func125, by kernel_rfl, rfl, by kernel_rfl, by kernel_rfl, rfl⟩
def g126 : GFun := ⟨⟨27,[]⟩,(s [k 4 0] (s [m 6 1,m 7 0,n 8 7,o 9 .sub 6 8,m 1 9] (.seq (s [m 10 1,q 11 .lss 10 0] (.cond 11 (s [k 4 (-1)] .ret) .skip)) (.seq (s [k 5 0] (.block 0 (.loop (.seq (s [m 12 5,m 13 0,n 14 13,o 15 .lss 12 14]
 (.cond 15 .skip (.exit 0))) (.seq (.block 1 (s [m 18 0,m 19 5,i 20 16 18 19,h 21 16 20,m 22 1,c 23 195 [.t 21,.t 22],m 1 23] (s [m 24 1,q 25 .lss 24 0] (.cond 25 (s [k 4 (-1)] .ret) .skip)))) (.reg [m 16 5,q 17 .add 16 1,m 5 17]))))))
 (s [m 26 1,m 4 26] .ret))))),[.t 4]⟩
theorem i126 : IsFun Tryz.prog 126 g126 := ⟨Tryz.f126, _, [], Tryz.func126, by kernel_rfl, rfl, by kernel_rfl, by kernel_rfl, rfl⟩
def g128 : GFun := ⟨⟨6,[1]⟩,(s [a 1 7 0,x 2 (.mov (.k (.val (.slice none 0 0))))] (s [h 3 7 1,x 4 (.bslice 2 [] 0 true []),c 5 196 [.t 3,.t 4],m 2 5] .ret)),[.t 2]⟩
theorem i128 : IsFun Tryz.prog 128 g128 := ⟨Tryz.f128, _, [], Tryz.func128, by kernel_rfl, rfl, by kernel_rfl, by kernel_rfl, rfl⟩
def g131 : GFun := ⟨⟨23,[]⟩,(s [x 2 (.mov (.k (.val (.slice none 0 0))))] (s [m 5 0,n 6 5,x 7 (.mkslice 4 40 (.agg [(.val (.string (ByteArray.mk #[]))),(.val (.int .i64 0)),(.val (.int .i64 0)),(.val (.bool false))]) (.t 6) (.t 6)),m 3 7]
 (.seq (s [k 4 0] (.block 0 (.loop (.seq (s [m 8 4,m 9 0,n 10 9,o 11 .lss 8 10] (.cond 11 .skip (.exit 0))) (.seq (.block 1 (.reg [m 14 3,m 15 4,m 16 0,m 17 4,i 18 4 16 17,h 19 4 18,c 20 197 [.t 19],i 21 4 14 15,(.mk none none (.store 4
 (.t 21) (.t 20)))])) (.reg [m 12 4,q 13 .add 12 1,m 4 13])))))) (s [m 22 3,m 2 22] .ret)))),[.t 2]⟩
theorem i131 : IsFun Tryz.prog 131 g131 := ⟨Tryz.f131, _, [], Tryz.func131, by kernel_rfl, rfl, by kernel_rfl, by kernel_rfl, rfl⟩
def g132 : GFun := ⟨⟨22,[]⟩,(s [x 2 (.mov (.k (.val (.slice none 0 0))))] (s [m 5 0,n 6 5,x 7 (.mkslice 1 16 (.val (.string (ByteArray.mk #[]))) (.t 6) (.t 6)),m 3 7] (.seq (s [k 4 0] (.block 0 (.loop (.seq (s [m 8 4,m 9 0,n 10 9,
 o 11 .lss 8 10] (.cond 11 .skip (.exit 0))) (.seq (.block 1 (.reg [m 14 3,m 15 4,m 16 0,m 17 4,i 18 1 16 17,l 19 18,i 20 1 14 15,(.mk none none (.store 1 (.t 20) (.t 19)))])) (.reg [m 12 4,q 13 .add 12 1,m 4 13])))))) (s [m 21 3,
 m 2 21] .ret)))),[.t 2]⟩
theorem i132 : IsFun Tryz.prog 132 g132 := ⟨Tryz.f132, _, [], Tryz.func132, by kernel_rfl, rfl, by kernel_rfl, by kernel_rfl, rfl⟩
def g133 : GFun := ⟨⟨23,[]⟩,(s [x 2 (.mov (.k (.val (.slice none 0 0))))] (s [m 5 0,n 6 5,x 7 (.mkslice 9 112 (.agg [(.val (.int .i64 0)),(.val (.string (ByteArray.mk #[]))),(.val (.int .i64 0)),(.val (.int .i64 0)),(.val (.int .i64 0)),
 (.val (.int .i64 0)),(.val (.string (ByteArray.mk #[]))),(.val (.string (ByteArray.mk #[]))),(.val (.slice none 0 0))]) (.t 6) (.t 6)),m 3 7] (.seq (s [k 4 0] (.block 0 (.loop (.seq (s [m 8 4,m 9 0,n 10 9,o 11 .lss 8 10] (.cond 11 .skip
 (.exit 0))) (.seq (.block 1 (.reg [m 14 3,m 15 4,m 16 0,m 17 4,i 18 9 16 17,h 19 9 18,c 20 198 [.t 19],i 21 9 14 15,(.mk none none (.store 9 (.t 21) (.t 20)))])) (.reg [m 12 4,q 13 .add 12 1,m 4 13])))))) (s [m 22 3,m 2 22] .ret)))),
 [.t 2]⟩
theorem i133 : IsFun Tryz.prog 133 g133 := ⟨Tryz.f133, _, [], Tryz.func133, by kernel_rfl, rfl, by kernel_rfl, by kernel_rfl, rfl⟩
def g134 : GFun := ⟨⟨23,[]⟩,(s [x 2 (.mov (.k (.val (.slice none 0 0))))] (s [m 5 0,n 6 5,x 7 (.mkslice 16 208 (.agg [(.val (.string (ByteArray.mk #[]))),(.val (.string (ByteArray.mk #[]))),(.val (.int .i64 0)),(.val (.int .i64 0)),(.val
 (.int .i64 0)),(.val (.int .i64 0)),(.val (.string (ByteArray.mk #[]))),(.val (.string (ByteArray.mk #[]))),(.val (.slice none 0 0)),(.val (.int .i64 0)),(.val (.int .i64 0)),(.val (.int .i64 0)),(.val (.int .i64 0)),(.val (.string
 (ByteArray.mk #[]))),(.val (.string (ByteArray.mk #[]))),(.val (.slice none 0 0))]) (.t 6) (.t 6)),m 3 7] (.seq (s [k 4 0] (.block 0 (.loop (.seq (s [m 8 4,m 9 0,n 10 9,o 11 .lss 8 10] (.cond 11 .skip (.exit 0))) (.seq (.block 1
 (.reg [m 14 3,m 15 4,m 16 0,m 17 4,i 18 16 16 17,h 19 16 18,c 20 199 [.t 19],i 21 16 14 15,(.mk none none (.store 16 (.t 21) (.t 20)))])) (.reg [m 12 4,q 13 .add 12 1,m 4 13])))))) (s [m 22 3,m 2 22] .ret)))),[.t 2]⟩
theorem i134 : IsFun Tryz.prog 134 g134 := ⟨Tryz.f134, _, [], Tryz.func134, by kernel_rfl, rfl, by kernel_rfl, by kernel_rfl, rfl⟩
def g139 : GFun := ⟨⟨12,[1]⟩,(s [a 1 7 0,x 2 (.mov (.k (.val (.slice none 0 0))))] (s [x 4 (.bslice 2 [] 0 true []),x 3 (.alloc 1 (.val (.slice none 0 0))),(.mk none none (.store 1 (.t 3) (.t 4)))] (s [h 5 7 1,x 6 (.mkfn 206 [.t 3]),
 c 7 178 [.t 5,.t 6]] (s [l 8 3,x 9 (.call false 207 [.t 8,(.k (.clo 208 []))])] (s [l 10 3,c 11 209 [.t 10],m 2 11] .ret))))),[.t 2]⟩
theorem i139 : IsFun Tryz.prog 139 g139 := ⟨Tryz.f139, _, [], Tryz.func139, by kernel_rfl, rfl, by kernel_rfl, by kernel_rfl, rfl⟩
def g142 : GFun := ⟨⟨27,[]⟩,(s [b 4 false] (.seq (s [m 6 0,n 7 6,m 8 1,n 9 8,o 10 .neq 7 9] (.cond 10 (s [b 4 false] .ret) .skip)) (.seq (s [k 5 0] (.block 0 (.loop (.seq (s [m 11 5,m 12 0,n 13 12,o 14 .lss 11 13] (.cond 14 .skip
 (.exit 0))) (.seq (.block 1 (s [m 17 0,m 18 5,i 19 4 17 18,m 21 1,m 22 5,i 23 4 21 22,h 20 4 19,h 24 4 23,x 25 (.call true 210 [.t 20,.t 24]),w 26 25] (.cond 26 (s [b 4 false] .ret) .skip))) (.reg [m 15 5,q 16 .add 15 1,m 5 16]))))))
 (s [b 4 true] .ret)))),[.t 4]⟩
theorem i142 : IsFun Tryz.prog 142 g142 := ⟨Tryz.f142, _, [], Tryz.func142, by kernel_rfl, rfl, by kernel_rfl, by kernel_rfl, rfl⟩
def g143 : GFun := ⟨⟨26,[]⟩,(s [b 4 false] (.seq (s [m 6 0,n 7 6,m 8 1,n 9 8,o 10 .neq 7 9] (.cond 10 (s [b 4 false] .ret) .skip)) (.seq (s [k 5 0] (.block 0 (.loop (.seq (s [m 11 5,m 12 0,n 13 12,o 14 .lss 11 13] (.cond 14 .skip
 (.exit 0))) (.seq (.block 1 (s [m 17 0,m 18 5,i 19 1 17 18,m 21 1,m 22 5,i 23 1 21 22,l 20 19,l 24 23,o 25 .neq 20 24] (.cond 25 (s [b 4 false] .ret) .skip))) (.reg [m 15 5,q 16 .add 15 1,m 5 16])))))) (s [b 4 true] .ret)))),[.t 4]⟩
theorem i143 : IsFun Tryz.prog 143 g143 := ⟨Tryz.f143, _, [], Tryz.func143, by kernel_rfl, rfl, by kernel_rfl, by kernel_rfl, rfl⟩
def g144 : GFun := ⟨⟨27,[]⟩,(s [b 4 false] (.seq (s [m 6 0,n 7 6,m 8 1,n 9 8,o 10 .neq 7 9] (.cond 10 (s [b 4 false] .ret) .skip)) (.seq (s [k 5 0] (.block 0 (.loop (.seq (s [m 11 5,m 12 0,n 13 12,o 14 .lss 11 13] (.cond 14 .skip
 (.exit 0))) (.seq (.block 1 (s [m 17 0,m 18 5,i 19 9 17 18,m 21 1,m 22 5,i 23 9 21 22,h 20 9 19,h 24 9 23,x 25 (.call true 211 [.t 20,.t 24]),w 26 25] (.cond 26 (s [b 4 false] .ret) .skip))) (.reg [m 15 5,q 16 .add 15 1,m 5 16]))))))
 (s [b 4 true] .ret)))),[.t 4]⟩
theorem i144 : IsFun Tryz.prog 144 g144 := ⟨Tryz.f144, _, [], Tryz.func144, by kernel_rfl, rfl, by kernel_rfl, by kernel_rfl, rfl⟩
def g145 : GFun := ⟨⟨27,[]⟩,(s [b 4 false] (.seq (s [m 6 0,n 7 6,m 8 1,n 9 8,o 10 .neq 7 9] (.cond 10 (s [b 4 false] .ret) .skip)) (.seq (s [k 5 0] (.block 0 (.loop (.seq (s [m 11 5,m 12 0,n 13 12,o 14 .lss 11 13] (.cond 14 .skip
 (.exit 0))) (.seq (.block 1 (s [m 17 0,m 18 5,i 19 16 17 18,m 21 1,m 22 5,i 23 16 21 22,h 20 16 19,h 24 16 23,x 25 (.call true 212 [.t 20,.t 24]),w 26 25] (.cond 26 (s [b 4 false] .ret) .skip))) (.reg [m 15 5,q 16 .add 15 1,m 5 16]))))))
 (s [b 4 true] .ret)))),[.t 4]⟩
theorem i145 : IsFun Tryz.prog 145 g145 := ⟨Tryz.f145, _, [], Tryz.func145, by kernel_rfl, rfl, by kernel_rfl, by kernel_rfl, rfl⟩
def g147 : GFun := ⟨⟨41,[1]⟩,(s [a 1 2 0,b 2 false] (s [x 5 (.bslice 1 [] 0 false []),m 3 5] (.seq (s [k 4 0] (.block 0 (.loop (.seq (s [m 6 4,f 7 1 1,l 8 7,n 9 8,o 10 .lss 6 9] (.cond 10 .skip (.exit 0))) (.seq (.block 1 (.seq
 (s [f 13 1 1,l 14 13,m 15 4,i 16 4 14 15,h 17 4 16,c 18 213 [.t 17],w 19 18] (.cond 19 (s [b 2 false] .ret) .skip)) (.reg [m 20 3,f 21 1 1,l 22 21,m 23 4,i 24 4 22 23,f 25 0 24,l 26 25,x 27 (.bslice 1 [] 1 false [(0,(.t 26))]),x 28
 (.append 1 16 (.t 20) (.t 27)),m 3 28]))) (.reg [m 11 4,q 12 .add 11 1,m 4 12])))))) (s [f 29 0 1,l 30 29,c 31 214 [.t 30],m 32 31,y 33 32 (.mov (.t 3)),y 34 32 (.len (.t 33)),y 35 32 (.bin .leq (.t 34) (.k (.val (.int .i64 4)))),x 36
 (.pick (.t 32) (.t 35) (.k (.val (.bool false)))),m 37 36,y 38 37 (.mov (.t 3)),y 39 37 (.call false 215 [.t 38]),x 40 (.pick (.t 37) (.t 39) (.k (.val (.bool false)))),m 2 40] .ret)))),[.t 2]⟩
theorem i147 : IsFun Tryz.prog 147 g147 := ⟨Tryz.f147, _, [], Tryz.func147, by kernel_rfl, rfl, by kernel_rfl, by kernel_rfl, rfl⟩
def g148 : GFun := ⟨⟨18,[]⟩,(s [b 4 false] (.seq (s [k 5 0] (.block 0 (.loop (.seq (s [m 6 5,m 7 0,n 8 7,o 9 .lss 6 8] (.cond 9 .skip (.exit 0))) (.seq (.block 1 (s [m 12 0,m 13 5,i 14 1 12 13,l 15 14,m 16 1,o 17 .eql 15 16] (.cond 17
 (s [b 4 true] .ret) .skip))) (.reg [m 10 5,q 11 .add 10 1,m 5 11])))))) (s [b 4 false] .ret))),[.t 4]⟩
theorem i148 : IsFun Tryz.prog 148 g148 := ⟨Tryz.f148, _, [], Tryz.func148, by kernel_rfl, rfl, by kernel_rfl, by kernel_rfl, rfl⟩
def g149 : GFun := ⟨⟨112,[1,6,8]⟩,(s [a 1 6 0,b 2 false] (s [f 9 2 1,l 10 9,n 11 10,m 3 11] (.seq (s [f 12 0 1,l 13 12,c 14 214 [.t 13],w 15 14,m 16 15,z 17 16 (.faddr 1 1 false (.t 1)),z 18 16 (.load 1 false (.t 17)),z 19 16
 (.call false 214 [.t 18]),z 20 16 (.not (.t 19)),x 21 (.pick (.t 16) (.k (.val (.bool true))) (.t 20)),m 22 21,z 23 22 (.mov (.t 3)),z 24 22 (.bin .gtr (.t 23) (.k (.val (.int .i64 3)))),x 25 (.pick (.t 22) (.k (.val (.bool true)))
 (.t 24)),m 26 25,z 27 26 (.faddr 5 1 false (.t 1)),z 28 26 (.load 1 false (.t 27)),z 29 26 (.len (.t 28)),z 30 26 (.bin .gtr (.t 29) (.k (.val (.int .i64 2)))),x 31 (.pick (.t 26) (.k (.val (.bool true))) (.t 30))] (.cond 31
 (s [b 2 false] .ret) .skip)) (.seq (s [k 4 0] (.block 0 (.loop (.seq (s [m 32 4,m 33 3,o 34 .lss 32 33] (.cond 34 .skip (.exit 0))) (.seq (.block 1 (s [f 37 2 1,l 38 37,m 39 4,i 40 1 38 39,l 41 40,c 42 214 [.t 41],w 43 42] (.cond 43
 (s [b 2 false] .ret) .skip))) (.reg [m 35 4,q 36 .add 35 1,m 4 36])))))) (.seq (s [k 5 0] (.block 2 (.loop (.seq (s [m 44 5,f 45 4 1,l 46 45,n 47 46,o 48 .lss 44 47] (.cond 48 .skip (.exit 2))) (.seq (.block 3 (s [f 51 4 1,l 52 51,m 53 5,
 i 54 9 52 53,h 55 9 54,x 6 (.allocr 9),x 6 (.stro 9 6 (.t 55))] (s [e 56 0 2 6,f 57 1 56,l 58 57,c 59 214 [.t 58],w 60 59,m 61 60,z 62 61 (.faddr 0 2 true (.t 6)),z 63 61 (.faddr 0 1 false (.t 62)),z 64 61 (.load 1 false (.t 63)),z 65 61
 (.mov (.t 3)),z 66 61 (.call false 85 [.t 64,(.k (.val (.int .i64 0))),.t 65]),z 67 61 (.not (.t 66)),x 68 (.pick (.t 61) (.k (.val (.bool true))) (.t 67)),m 69 68,z 70 69 (.faddr 2 7 true (.t 6)),z 71 69 (.load 7 true (.t 70)),z 72 69
 (.mov (.t 3)),z 73 69 (.call false 216 [.t 71,.t 72]),z 74 69 (.not (.t 73)),x 75 (.pick (.t 69) (.k (.val (.bool true))) (.t 74))] (.cond 75 (s [b 2 false] .ret) .skip)))) (.reg [m 49 5,q 50 .add 49 1,m 5 50])))))) (.seq (s [k 7 0]
 (.block 4 (.loop (.seq (s [m 76 7,f 77 5 1,l 78 77,n 79 78,o 80 .lss 76 79] (.cond 80 .skip (.exit 4))) (.seq (.block 5 (s [f 83 5 1,l 84 83,m 85 7,i 86 16 84 85,h 87 16 86,x 8 (.allocr 16),x 8 (.stro 16 8 (.t 87))] (s [f 88 0 8,l 89 88,
 c 90 214 [.t 89],w 91 90,m 92 91,z 93 92 (.faddr 1 1 false (.t 8)),z 94 92 (.load 1 false (.t 93)),z 95 92 (.call false 214 [.t 94]),z 96 92 (.not (.t 95)),x 97 (.pick (.t 92) (.k (.val (.bool true))) (.t 96)),m 98 97,z 99 98
 (.faddr 2 7 true (.t 8)),z 100 98 (.load 7 true (.t 99)),z 101 98 (.mov (.t 3)),z 102 98 (.call false 216 [.t 100,.t 101]),z 103 98 (.not (.t 102)),x 104 (.pick (.t 98) (.k (.val (.bool true))) (.t 103)),m 105 104,z 106 105
 (.faddr 9 7 true (.t 8)),z 107 105 (.load 7 true (.t 106)),z 108 105 (.mov (.t 3)),z 109 105 (.call false 216 [.t 107,.t 108]),z 110 105 (.not (.t 109)),x 111 (.pick (.t 105) (.k (.val (.bool true))) (.t 110))] (.cond 111
 (s [b 2 false] .ret) .skip)))) (.reg [m 81 7,q 82 .add 81 1,m 7 82])))))) (s [b 2 true] .ret))))))),[.t 2]⟩
theorem i149 : IsFun Tryz.prog 149 g149 := ⟨Tryz.f149, _, [], Tryz.func149, by kernel_rfl, rfl, by kernel_rfl, by kernel_rfl, rfl⟩
def g150 : GFun := ⟨⟨25,[2,3,6]⟩,(s [a 2 2 0,a 3 6 1,b 4 false] (.seq (s [k 5 0] (.block 0 (.loop (.seq (s [m 8 5,f 9 2 3,l 10 9,n 11 10,o 12 .leq 8 11] (.cond 12 .skip (.exit 0))) (.seq (.block 1 (s [m 18 5,x 6 (.allocr 2),h 16 2 2,
 h 17 6 3,x 19 (.call true 90 [.t 17,.t 18]),x 20 (.call true 91 [.t 16,.t 19]),m 15 20,x 21 (.ext (.t 15) 0),x 22 (.ext (.t 15) 1),x 6 (.stro 2 6 (.t 21)),m 7 22] (s [m 23 7,w 24 23] (.cond 24 (s [b 4 false] .ret) .skip)))) (.reg [m 13 5,
 q 14 .add 13 1,m 5 14])))))) (s [b 4 true] .ret))),[.t 4]⟩
theorem i150 : IsFun Tryz.prog 150 g150 := ⟨Tryz.f150, _, [], Tryz.func150, by kernel_rfl, rfl, by kernel_rfl, by kernel_rfl, rfl⟩
def g151 : GFun := ⟨⟨29,[2,3,7]⟩,(s [a 2 2 0,a 3 6 1,b 4 false] (s [h 9 2 2,h 10 6 3,c 11 217 [.t 9,.t 10],m 5 11] (.seq (s [k 6 0] (.block 0 (.loop (.seq (s [m 12 6,m 13 5,n 14 13,o 15 .lss 12 14] (.cond 15 .skip (.exit 0))) (.seq
 (.block 1 (s [m 20 5,m 21 6,i 22 2 20 21,x 7 (.allocr 7),h 19 6 3,h 23 2 22,x 24 (.call true 186 [.t 19,.t 23]),m 18 24,x 25 (.ext (.t 18) 0),x 26 (.ext (.t 18) 1),x 7 (.stro 7 7 (.t 25)),m 8 26] (s [m 27 8,w 28 27] (.cond 28
 (s [b 4 true] .ret) .skip)))) (.reg [m 16 6,q 17 .add 16 1,m 6 17])))))) (s [b 4 false] .ret)))),[.t 4]⟩
theorem i151 : IsFun Tryz.prog 151 g151 := ⟨Tryz.f151, _, [], Tryz.func151, by kernel_rfl, rfl, by kernel_rfl, by kernel_rfl, rfl⟩
def g152 : GFun := ⟨⟨39,[2,3,8]⟩,(s [a 2 2 0,a 3 6 1,b 4 false] (s [h 9 2 2,h 10 6 3,c 11 217 [.t 9,.t 10],m 5 11] (s [x 12 (.bslice 2 [] 0 true []),m 6 12] (.seq (s [k 7 0] (.block 0 (.loop (.seq (s [m 13 7,f 14 4 3,l 15 14,n 16 15,
 o 17 .lss 13 16] (.cond 17 .skip (.exit 0))) (.seq (.block 1 (s [f 20 4 3,l 21 20,m 22 7,i 23 9 21 22,e 24 0 2 23,h 25 2 24,x 8 (.allocr 2),x 8 (.stro 2 8 (.t 25))] (.seq (s [m 26 5,h 27 2 8,c 28 218 [.t 26,.t 27],w 29 28,m 30 29,z 31 30
 (.mov (.t 6)),z 32 30 (.load 2 true (.t 8)),z 33 30 (.call false 218 [.t 31,.t 32]),x 34 (.pick (.t 30) (.k (.val (.bool true))) (.t 33))] (.cond 34 (s [b 4 true] .ret) .skip)) (.reg [m 35 6,h 36 2 8,x 37 (.bslice 2 [] 1 true [(0,
 (.t 36))]),x 38 (.append 2 24 (.t 35) (.t 37)),m 6 38])))) (.reg [m 18 7,q 19 .add 18 1,m 7 19])))))) (s [b 4 false] .ret))))),[.t 4]⟩
theorem i152 : IsFun Tryz.prog 152 g152 := ⟨Tryz.f152, _, [], Tryz.func152, by kernel_rfl, rfl, by kernel_rfl, by kernel_rfl, rfl⟩
def g153 : GFun := ⟨⟨53,[2,3]⟩,(s [a 2 2 0,a 3 6 1,b 4 false] (.seq (s [k 5 0] (.block 0 (.loop (.seq (s [m 7 5,f 8 4 3,l 9 8,n 10 9,o 11 .lss 7 10] (.cond 11 .skip (.exit 0))) (.seq (.block 1 (s [f 16 4 3,m 18 5,h 14 2 2,h 15 6 3,l 17 16,
 i 19 9 17 18,e 20 2 7 19,h 21 7 20,x 22 (.call true 219 [.t 14,.t 15,.t 21]),w 23 22] (.cond 23 (s [b 4 true] .ret) .skip))) (.reg [m 12 5,q 13 .add 12 1,m 5 13])))))) (.seq (s [k 6 0] (.block 2 (.loop (.seq (s [m 24 6,f 25 5 3,l 26 25,
 n 27 26,o 28 .lss 24 27] (.cond 28 .skip (.exit 2))) (.seq (.block 3 (s [f 33 5 3,m 35 6,h 31 2 2,h 32 6 3,l 34 33,i 36 16 34 35,e 37 2 7 36,h 38 7 37,x 39 (.call true 219 [.t 31,.t 32,.t 38]),w 40 39,m 41 40,z 44 41 (.faddr 5 1 false
 (.t 3)),z 46 41 (.mov (.t 6)),z 42 41 (.load 2 true (.t 2)),z 43 41 (.load 6 true (.t 3)),z 45 41 (.load 1 false (.t 44)),z 47 41 (.iaddr 16 (.t 45) (.t 46)),z 48 41 (.faddr 9 7 true (.t 47)),z 49 41 (.load 7 true (.t 48)),z 50 41
 (.call true 219 [.t 42,.t 43,.t 49]),z 51 41 (.not (.t 50)),x 52 (.pick (.t 41) (.k (.val (.bool true))) (.t 51))] (.cond 52 (s [b 4 true] .ret) .skip))) (.reg [m 29 6,q 30 .add 29 1,m 6 30])))))) (s [b 4 false] .ret)))),[.t 4]⟩
theorem i153 : IsFun Tryz.prog 153 g153 := ⟨Tryz.f153, _, [], Tryz.func153, by kernel_rfl, rfl, by kernel_rfl, by kernel_rfl, rfl⟩
def g154 : GFun := ⟨⟨44,[3,4,5]⟩,(s [a 3 2 0,a 4 6 1,a 5 7 2,k 6 0] (s [f 11 1 5,l 12 11,c 13 220 [.t 12],m 10 13,x 14 (.ext (.t 10) 0),x 15 (.ext (.t 10) 1),x 16 (.ext (.t 10) 2),m 7 14,m 8 15,m 9 16] (.seq (s [f 17 6 5,l 18 17,n 19 18,
 q 20 .neq 19 2,m 21 20,z 24 21 (.faddr 6 1 false (.t 5)),z 29 21 (.mov (.t 7)),z 22 21 (.load 2 true (.t 3)),z 23 21 (.load 6 true (.t 4)),z 25 21 (.load 1 false (.t 24)),z 26 21 (.iaddr 7 (.t 25) (.k (.val (.int .i64 0)))),z 27 21
 (.load 7 true (.t 26)),z 28 21 (.call true 88 [.t 22,.t 23,.t 27]),z 30 21 (.bin .neq (.t 28) (.t 29)),x 31 (.pick (.t 21) (.k (.val (.bool true))) (.t 30)),m 32 31,z 35 32 (.faddr 6 1 false (.t 5)),z 40 32 (.mov (.t 8)),z 33 32
 (.load 2 true (.t 3)),z 34 32 (.load 6 true (.t 4)),z 36 32 (.load 1 false (.t 35)),z 37 32 (.iaddr 7 (.t 36) (.k (.val (.int .i64 1)))),z 38 32 (.load 7 true (.t 37)),z 39 32 (.call true 88 [.t 33,.t 34,.t 38]),z 41 32 (.bin .neq
 (.t 39) (.t 40)),x 42 (.pick (.t 32) (.k (.val (.bool true))) (.t 41))] (.cond 42 (s [k 6 0] .ret) .skip)) (s [m 43 9,m 6 43] .ret)))),[.t 6]⟩
theorem i154 : IsFun Tryz.prog 154 g154 := ⟨Tryz.f154, _, [], Tryz.func154, by kernel_rfl, rfl, by kernel_rfl, by kernel_rfl, rfl⟩
def g155 : GFun := ⟨⟨39,[3,4,5]⟩,(s [a 3 2 0,a 4 6 1,a 5 7 2,k 6 0] (.seq (s [f 8 6 5,l 9 8,n 10 9,q 11 .neq 10 3,m 12 11,z 15 12 (.faddr 6 1 false (.t 5)),z 13 12 (.load 2 true (.t 3)),z 14 12 (.load 6 true (.t 4)),z 16 12 (.load 1 false
 (.t 15)),z 17 12 (.iaddr 7 (.t 16) (.k (.val (.int .i64 0)))),z 18 12 (.load 7 true (.t 17)),z 19 12 (.call true 88 [.t 13,.t 14,.t 18]),z 20 12 (.bin .neq (.t 19) (.k (.val (.int .i64 3)))),x 21 (.pick (.t 12) (.k (.val (.bool true)))
 (.t 20))] (.cond 21 (s [k 6 0] .ret) .skip)) (s [f 24 6 5,h 22 2 3,h 23 6 4,l 25 24,x 26 (.iaddr 7 (.t 25) (.k (.val (.int .i64 1)))),h 27 7 26,x 28 (.call true 88 [.t 22,.t 23,.t 27]),m 7 28] (.seq (s [m 29 7,f 32 6 5,h 30 2 3,h 31 6 4,
 l 33 32,x 34 (.iaddr 7 (.t 33) (.k (.val (.int .i64 2)))),h 35 7 34,x 36 (.call true 88 [.t 30,.t 31,.t 35]),o 37 .neq 29 36] (.cond 37 (s [k 6 0] .ret) .skip)) (s [m 38 7,m 6 38] .ret))))),[.t 6]⟩
theorem i155 : IsFun Tryz.prog 155 g155 := ⟨Tryz.f155, _, [], Tryz.func155, by kernel_rfl, rfl, by kernel_rfl, by kernel_rfl, rfl⟩
def g156 : GFun := ⟨⟨10,[1,2]⟩,(s [a 1 2 0,x 2 (.allocr 2)] (s [f 3 0 1,x 4 (.loadr 1 false (.t 3)),f 6 1 1,x 7 (.loadr 1 false (.t 6)),x 5 (.bslice 4 [] 0 true []),x 8 (.append 4 40 (.t 5) (.t 7)),x 9 (.build [(.val (.string
 (ByteArray.mk #[]))),(.val (.slice none 0 0))] [(0,(1,(.t 4))),(1,(1,(.t 8)))]),x 2 (.stro 2 2 (.t 9))] .ret)),[(.c 2 2 true)]⟩
theorem i156 : IsFun Tryz.prog 156 g156 := ⟨Tryz.f156, _, [], Tryz.func156, by kernel_rfl, rfl, by kernel_rfl, by kernel_rfl, rfl⟩
def g157 : GFun := ⟨⟨22,[2]⟩,(s [a 2 2 0,k 4 0] (.seq (s [k 5 0] (.block 0 (.loop (.seq (s [m 6 5,f 7 0 2,l 8 7,n 9 8,o 10 .lss 6 9] (.cond 10 .skip (.exit 0))) (.seq (.block 1 (s [f 13 0 2,l 14 13,m 15 5,i 16 2 14 15,f 17 0 16,l 18 17,
 m 19 1,o 20 .eql 18 19] (.cond 20 (s [m 21 5,m 4 21] .ret) .skip))) (.reg [m 11 5,q 12 .add 11 1,m 5 12])))))) (s [k 4 (-1)] .ret))),[.t 4]⟩
theorem i157 : IsFun Tryz.prog 157 g157 := ⟨Tryz.f157, _, [], Tryz.func157, by kernel_rfl, rfl, by kernel_rfl, by kernel_rfl, rfl⟩
def g158 : GFun := ⟨⟨50,[1]⟩,(s [a 1 2 0,x 2 (.mov (.k (.val (.slice none 0 0))))] (s [f 7 0 1,l 8 7,n 9 8,x 10 (.mkslice 1 8 (.val (.int .i64 0)) (.t 9) (.t 9)),m 3 10] (.seq (s [k 4 1] (.block 0 (.loop (.seq (s [m 11 4,f 12 0 1,l 13 12,
 n 14 13,o 15 .leq 11 14] (.cond 15 .skip (.exit 0))) (.seq (.block 1 (s [x 18 (.bslice 1 [] 0 false []),m 19 3,x 20 (.append 1 8 (.t 18) (.t 19)),m 5 20] (.seq (s [k 6 0] (.block 2 (.loop (.seq (s [m 21 6,f 22 0 1,l 23 22,n 24 23,
 o 25 .lss 21 24] (.cond 25 .skip (.exit 2))) (.seq (.block 3 (s [m 28 3,m 29 6,i 30 1 28 29,l 31 30,q 32 .eql 31 0,m 33 32,y 35 33 (.faddr 0 1 false (.t 1)),y 37 33 (.mov (.t 6)),y 41 33 (.mov (.t 3)),y 34 33 (.load 2 true (.t 1)),
 y 36 33 (.load 1 false (.t 35)),y 38 33 (.iaddr 2 (.t 36) (.t 37)),y 39 33 (.faddr 0 1 false (.t 38)),y 40 33 (.load 1 false (.t 39)),y 42 33 (.call true 221 [.t 34,.t 40,.t 41]),x 43 (.pick (.t 33) (.t 42) (.k (.val (.bool false))))]
 (.cond 43 (.reg [m 44 5,m 45 6,m 46 4,i 47 1 44 45,(.mk none none (.store 1 (.t 47) (.t 46)))]) .skip))) (.reg [m 26 6,q 27 .add 26 1,m 6 27])))))) (.reg [m 48 5,m 3 48])))) (.reg [m 16 4,q 17 .add 16 1,m 4 17])))))) (s [m 49 3,
 m 2 49] .ret)))),[.t 2]⟩
theorem i158 : IsFun Tryz.prog 158 g158 := ⟨Tryz.f158, _, [], Tryz.func158, by kernel_rfl, rfl, by kernel_rfl, by kernel_rfl, rfl⟩
def g159 : GFun := ⟨⟨34,[1,4]⟩,(s [a 1 2 0,b 2 false] (.seq (s [f 5 1 1,l 6 5,n 7 6,k 8 0] (.block 0 (.loop (s [o 9 .lss 8 7] (.seq (.cond 9 .skip (.exit 0)) (.seq (.block 1 (s [m 10 8,i 11 4 6 8,h 12 4 11,x 4 (.allocr 4),m 3 10,x 4
 (.stro 4 4 (.t 12))] (s [h 13 4 4,c 14 222 [.t 13],w 15 14,m 16 15,z 17 16 (.faddr 1 1 false (.t 1)),z 18 16 (.load 1 false (.t 17)),z 19 16 (.mov (.t 3)),z 20 16 (.slc 4 (.t 18) none (some (.t 19))),z 21 16 (.mkfn 223 [.t 4]),z 22 16
 (.call false 95 [.t 20,.t 21]),x 23 (.pick (.t 16) (.k (.val (.bool true))) (.t 22))] (.cond 23 (s [b 2 false] .ret) .skip)))) (.reg [q 24 .add 8 1,m 8 24]))))))) (s [f 25 0 1,l 26 25,c 27 224 [.t 26],m 28 27,y 29 28 (.faddr 1 1 false
 (.t 1)),y 30 28 (.load 1 false (.t 29)),y 31 28 (.len (.t 30)),y 32 28 (.bin .leq (.t 31) (.k (.val (.int .i64 4)))),x 33 (.pick (.t 28) (.t 32) (.k (.val (.bool false)))),m 2 33] .ret))),[.t 2]⟩
theorem i159 : IsFun Tryz.prog 159 g159 := ⟨Tryz.f159, _, [], Tryz.func159, by kernel_rfl, rfl, by kernel_rfl, by kernel_rfl, rfl⟩
def g160 : GFun := ⟨⟨9,[2]⟩,(s [a 2 2 0,b 3 false] (s [f 4 0 2,l 5 4,f 6 0 1,l 7 6,o 8 .eql 5 7,m 3 8] .ret)),[.t 3]⟩
theorem i160 : IsFun Tryz.prog 160 g160 := ⟨Tryz.f160, _, [], Tryz.func160, by kernel_rfl, rfl, by kernel_rfl, by kernel_rfl, rfl⟩
def g161 : GFun := ⟨⟨104,[1,7,9]⟩,(s [a 1 6 0,b 2 false] (s [f 10 2 1,l 11 10,n 12 11,m 3 12] (.seq (s [f 13 0 1,l 14 13,c 15 224 [.t 14],w 16 15,m 17 16,z 18 17 (.faddr 1 1 false (.t 1)),z 19 17 (.load 1 false (.t 18)),z 20 17
 (.call false 224 [.t 19]),z 21 17 (.not (.t 20)),x 22 (.pick (.t 17) (.k (.val (.bool true))) (.t 21)),m 23 22,z 24 23 (.mov (.t 3)),z 25 23 (.bin .gtr (.t 24) (.k (.val (.int .i64 3)))),x 26 (.pick (.t 23) (.k (.val (.bool true)))
 (.t 25)),m 27 26,z 28 27 (.faddr 5 1 false (.t 1)),z 29 27 (.load 1 false (.t 28)),z 30 27 (.len (.t 29)),z 31 27 (.bin .gtr (.t 30) (.k (.val (.int .i64 2)))),x 32 (.pick (.t 27) (.k (.val (.bool true))) (.t 31))] (.cond 32
 (s [b 2 false] .ret) .skip)) (.seq (s [f 33 2 1,l 34 33,n 35 34,k 36 0] (.block 0 (.loop (s [o 37 .lss 36 35] (.seq (.cond 37 .skip (.exit 0)) (.seq (.block 1 (s [i 38 1 34 36,l 39 38,m 5 39] (s [m 40 5,c 41 224 [.t 40],w 42 41]
 (.cond 42 (s [b 2 false] .ret) .skip)))) (.reg [q 43 .add 36 1,m 36 43]))))))) (.seq (s [f 44 4 1,l 45 44,n 46 45,k 47 0] (.block 2 (.loop (s [o 48 .lss 47 46] (.seq (.cond 48 .skip (.exit 2)) (.seq (.block 3 (s [i 49 9 45 47,h 50 9 49,
 x 7 (.allocr 9),x 7 (.stro 9 7 (.t 50))] (s [e 51 2 7 7,h 52 7 51,m 53 3,c 54 225 [.t 52,.t 53],w 55 54,m 56 55,z 57 56 (.faddr 0 2 true (.t 7)),z 58 56 (.faddr 1 1 false (.t 57)),z 59 56 (.load 1 false (.t 58)),z 60 56
 (.call false 224 [.t 59]),z 61 56 (.not (.t 60)),x 62 (.pick (.t 56) (.k (.val (.bool true))) (.t 61)),m 63 62,z 64 63 (.faddr 0 2 true (.t 7)),z 65 63 (.faddr 0 1 false (.t 64)),z 66 63 (.load 1 false (.t 65)),z 67 63 (.mov (.t 3)),
 z 68 63 (.call false 73 [.t 66,(.k (.val (.int .i64 0))),.t 67]),z 69 63 (.not (.t 68)),x 70 (.pick (.t 63) (.k (.val (.bool true))) (.t 69))] (.cond 70 (s [b 2 false] .ret) .skip)))) (.reg [q 71 .add 47 1,m 47 71]))))))) (.seq
 (s [f 72 5 1,l 73 72,n 74 73,k 75 0] (.block 4 (.loop (s [o 76 .lss 75 74] (.seq (.cond 76 .skip (.exit 4)) (.seq (.block 5 (s [i 77 16 73 75,h 78 16 77,x 9 (.allocr 16),x 9 (.stro 16 9 (.t 78))] (s [e 79 2 7 9,h 80 7 79,m 81 3,
 c 82 225 [.t 80,.t 81],w 83 82,m 84 83,z 85 84 (.faddr 9 7 true (.t 9)),z 86 84 (.load 7 true (.t 85)),z 87 84 (.mov (.t 3)),z 88 84 (.call false 225 [.t 86,.t 87]),z 89 84 (.not (.t 88)),x 90 (.pick (.t 84) (.k (.val (.bool true)))
 (.t 89)),m 91 90,z 92 91 (.faddr 0 1 false (.t 9)),z 93 91 (.load 1 false (.t 92)),z 94 91 (.call false 224 [.t 93]),z 95 91 (.not (.t 94)),x 96 (.pick (.t 91) (.k (.val (.bool true))) (.t 95)),m 97 96,z 98 97 (.faddr 1 1 false (.t 9)),
 z 99 97 (.load 1 false (.t 98)),z 100 97 (.call false 224 [.t 99]),z 101 97 (.not (.t 100)),x 102 (.pick (.t 97) (.k (.val (.bool true))) (.t 101))] (.cond 102 (s [b 2 false] .ret) .skip)))) (.reg [q 103 .add 75 1,m 75 103])))))))
 (s [b 2 true] .ret))))))),[.t 2]⟩
theorem i161 : IsFun Tryz.prog 161 g161 := ⟨Tryz.f161, _, [], Tryz.func161, by kernel_rfl, rfl, by kernel_rfl, by kernel_rfl, rfl⟩
def g162 : GFun := ⟨⟨9,[2]⟩,(s [a 2 6 0,b 3 false] (s [f 4 0 2,l 5 4,f 6 0 1,l 7 6,o 8 .eql 5 7,m 3 8] .ret)),[.t 3]⟩
theorem i162 : IsFun Tryz.prog 162 g162 := ⟨Tryz.f162, _, [], Tryz.func162, by kernel_rfl, rfl, by kernel_rfl, by kernel_rfl, rfl⟩
def g163 : GFun := ⟨⟨19,[]⟩,(s [k 4 0] (.seq (s [m 6 0,n 7 6,k 8 0] (.block 0 (.loop (s [o 9 .lss 8 7] (.seq (.cond 9 .skip (.exit 0)) (.seq (.block 1 (s [m 10 8,m 5 10] (s [m 11 1,m 12 0,m 13 5,i 14 4 12 13,h 15 4 14,x 16 (.callv false
 (.t 11) [.t 15])] (.cond 16 (s [m 17 5,m 4 17] .ret) .skip)))) (.reg [q 18 .add 8 1,m 8 18]))))))) (s [k 4 (-1)] .ret))),[.t 4]⟩
theorem i163 : IsFun Tryz.prog 163 g163 := ⟨Tryz.f163, _, [], Tryz.func163, by kernel_rfl, rfl, by kernel_rfl, by kernel_rfl, rfl⟩
def g164 : GFun := ⟨⟨22,[2]⟩,(s [a 2 6 0,x 4 (.mov (.k (.val (.string (ByteArray.mk #[])))))] (.seq (.block 0 (s [m 6 1,q 7 .eql 6 0,m 5 7] (.cond 5 (s [f 8 1 2,l 9 8,m 4 9] .ret) (s [m 11 1,f 12 2 2,l 13 12,n 14 13,c 15 73 [.t 11,(.k
 (.val (.int .i64 1))),.t 14],m 10 15] (.cond 10 (s [f 16 2 2,l 17 16,m 18 1,q 19 .sub 18 1,i 20 1 17 19,l 21 20,m 4 21] .ret) .skip))))) (s [x 4 (.mov (.k (.val (.string (ByteArray.mk #[])))))] .ret))),[.t 4]⟩
theorem i164 : IsFun Tryz.prog 164 g164 := ⟨Tryz.f164, _, [], Tryz.func164, by kernel_rfl, rfl, by kernel_rfl, by kernel_rfl, rfl⟩
def g165 : GFun := ⟨⟨9,[]⟩,(s [b 4 false] (s [m 5 0,m 6 1,c 7 226 [.t 5,.t 6],q 8 .geq 7 0,m 4 8] .ret)),[.t 4]⟩
theorem i165 : IsFun Tryz.prog 165 g165 := ⟨Tryz.f165, _, [], Tryz.func165, by kernel_rfl, rfl, by kernel_rfl, by kernel_rfl, rfl⟩
def g166 : GFun := ⟨⟨51,[2,3,8,11]⟩,(s [a 2 2 0,a 3 6 1,x 4 (.mov (.k (.val (.slice none 0 0))))] (s [x 12 (.bslice 2 [] 0 true []),m 5 12] (.seq (s [f 13 2 3,l 14 13,n 15 14,q 16 .add 15 1,k 17 0] (.block 0 (.loop (s [o 18 .lss 17 16]
 (.seq (.cond 18 .skip (.exit 0)) (.seq (.block 1 (s [m 19 17,m 6 19] (s [k 7 1] (.seq (s [m 20 6,q 21 .eql 20 0] (.cond 21 (.reg [k 7 2]) .skip)) (s [m 25 6,x 8 (.allocr 2),h 23 2 2,h 24 6 3,x 26 (.call true 164 [.t 24,.t 25]),x 27
 (.call true 103 [.t 23,.t 26]),m 22 27,x 28 (.ext (.t 22) 0),x 29 (.ext (.t 22) 1),x 8 (.stro 2 8 (.t 28)),m 9 29] (s [f 30 1 8,l 31 30,n 32 31,k 33 0] (.block 2 (.loop (s [o 34 .lss 33 32] (.seq (.cond 34 .skip (.exit 2)) (.seq
 (.block 3 (s [i 35 4 31 33,h 36 4 35,x 11 (.allocr 4),x 11 (.stro 4 11 (.t 36))] (s [f 37 2 11,l 38 37,m 39 7,o 40 .eql 38 39] (.cond 40 (.reg [m 41 5,m 42 6,f 43 0 11,l 44 43,x 45 (.build [(.val (.int .i64 0)),(.val (.string
 (ByteArray.mk #[])))] [(0,(1,(.t 42))),(1,(1,(.t 44)))]),x 46 (.bslice 2 [] 1 true [(0,(.t 45))]),x 47 (.append 2 24 (.t 41) (.t 46)),m 5 47]) .skip)))) (.reg [q 48 .add 33 1,m 33 48])))))))))))) (.reg [q 49 .add 17 1,m 17 49])))))))
 (s [m 50 5,m 4 50] .ret)))),[.t 4]⟩
theorem i166 : IsFun Tryz.prog 166 g166 := ⟨Tryz.f166, _, [], Tryz.func166, by kernel_rfl, rfl, by kernel_rfl, by kernel_rfl, rfl⟩
def g167 : GFun := ⟨⟨9,[2]⟩,(s [a 2 2 0,b 3 false] (s [f 4 4 1,l 5 4,x 6 (.mkfn 169 [.t 2]),c 7 168 [.t 5,.t 6],w 8 7,m 3 8] .ret)),[.t 3]⟩
theorem i167 : IsFun Tryz.prog 167 g167 := ⟨Tryz.f167, _, [], Tryz.func167, by kernel_rfl, rfl, by kernel_rfl, by kernel_rfl, rfl⟩
def g168 : GFun := ⟨⟨9,[]⟩,(s [b 4 false] (s [m 5 0,m 6 1,c 7 227 [.t 5,.t 6],q 8 .geq 7 0,m 4 8] .ret)),[.t 4]⟩
theorem i168 : IsFun Tryz.prog 168 g168 := ⟨Tryz.f168, _, [], Tryz.func168, by kernel_rfl, rfl, by kernel_rfl, by kernel_rfl, rfl⟩
def g169 : GFun := ⟨⟨8,[2]⟩,(s [a 2 9 0,b 3 false] (s [e 4 0 2 2,h 5 2 4,h 6 2 1,x 7 (.aeq false [1,2] (.t 5) (.t 6)),m 3 7] .ret)),[.t 3]⟩
theorem i169 : IsFun Tryz.prog 169 g169 := ⟨Tryz.f169, _, [], Tryz.func169, by kernel_rfl, rfl, by kernel_rfl, by kernel_rfl, rfl⟩
def g170 : GFun := ⟨⟨9,[3]⟩,(s [a 3 2 1,b 4 false] (s [m 5 0,h 6 2 3,c 7 228 [.t 5,.t 6],q 8 .geq 7 0,m 4 8] .ret)),[.t 4]⟩
theorem i170 : IsFun Tryz.prog 170 g170 := ⟨Tryz.f170, _, [], Tryz.func170, by kernel_rfl, rfl, by kernel_rfl, by kernel_rfl, rfl⟩
def g171 : GFun := ⟨⟨9,[2]⟩,(s [a 2 9 0,b 3 false] (s [e 4 0 2 2,h 5 2 4,e 6 0 2 1,h 7 2 6,x 8 (.aeq false [1,2] (.t 5) (.t 7)),m 3 8] .ret)),[.t 3]⟩
theorem i171 : IsFun Tryz.prog 171 g171 := ⟨Tryz.f171, _, [], Tryz.func171, by kernel_rfl, rfl, by kernel_rfl, by kernel_rfl, rfl⟩
def g172 : GFun := ⟨⟨9,[3]⟩,(s [a 3 7 0,b 4 false] (s [h 5 7 3,c 6 139 [.t 5],x 7 (.mkfn 173 [.t 1,.t 2]),c 8 165 [.t 6,.t 7],m 4 8] .ret)),[.t 4]⟩
theorem i172 : IsFun Tryz.prog 172 g172 := ⟨Tryz.f172, _, [], Tryz.func172, by kernel_rfl, rfl, by kernel_rfl, by kernel_rfl, rfl⟩
def g173 : GFun := ⟨⟨10,[3]⟩,(s [a 3 2 0,b 4 false] (s [h 5 2 1,h 6 6 2,h 7 2 3,c 8 174 [.t 5,.t 6,.t 7],w 9 8,m 4 9] .ret)),[.t 4]⟩
theorem i173 : IsFun Tryz.prog 173 g173 := ⟨Tryz.f173, _, [], Tryz.func173, by kernel_rfl, rfl, by kernel_rfl, by kernel_rfl, rfl⟩
def g174 : GFun := ⟨⟨31,[3,4,5,7]⟩,(s [a 3 2 0,a 4 6 1,a 5 2 2,b 6 false] (s [h 10 2 3,h 11 6 4,h 12 2 5,c 13 101 [.t 10,.t 11,.t 12],m 9 13,x 14 (.ext (.t 9) 0),x 15 (.ext (.t 9) 1),x 7 (.allocr 4),x 7 (.stro 4 7 (.t 14)),m 8 15] (.seq
 (s [f 16 0 5,l 17 16,q 18 .eql 17 0] (.cond 18 (s [m 19 8,m 20 19,y 21 20 (.faddr 2 1 false (.t 7)),y 22 20 (.load 1 false (.t 21)),y 23 20 (.bin .eql (.t 22) (.k (.val (.int .i64 1)))),x 24 (.pick (.t 20) (.t 23) (.k (.val
 (.bool false)))),m 6 24] .ret) .skip)) (s [m 25 8,m 26 25,y 27 26 (.faddr 2 1 false (.t 7)),y 28 26 (.load 1 false (.t 27)),y 29 26 (.bin .eql (.t 28) (.k (.val (.int .i64 2)))),x 30 (.pick (.t 26) (.t 29) (.k (.val (.bool false)))),
 m 6 30] .ret)))),[.t 6]⟩
theorem i174 : IsFun Tryz.prog 174 g174 := ⟨Tryz.f174, _, [], Tryz.func174, by kernel_rfl, rfl, by kernel_rfl, by kernel_rfl, rfl⟩
def g175 : GFun := ⟨⟨23,[]⟩,(s [k 2 0,k 3 0,k 4 0] (.seq (s [m 5 0] (.block 0 (.seq (s [q 7 .eql 5 1,m 6 7] (.cond 6 .skip (s [q 8 .eql 5 2,m 6 8] (.cond 6 .skip (s [q 9 .eql 5 3,m 6 9] (.cond 6 .skip (s [q 10 .eql 5 4,m 6 10]
 (.cond 6 .skip (.reg [q 11 .eql 5 5,m 6 11]))))))))) (.cond 6 (s [k 2 1,k 3 1,k 4 1] .ret) (.seq (s [q 13 .eql 5 6,m 12 13] (.cond 12 .skip (s [q 14 .eql 5 7,m 12 14] (.cond 12 .skip (.reg [q 15 .eql 5 8,m 12 15]))))) (.cond 12 (s [k 2 2,
 k 3 2,k 4 2] .ret) (.seq (s [q 17 .eql 5 9,m 16 17] (.cond 16 .skip (.reg [q 18 .eql 5 10,m 16 18]))) (.cond 16 (s [k 2 1,k 3 1,k 4 3] .ret) (s [q 20 .eql 5 11,m 19 20] (.cond 19 (s [k 2 2,k 3 1,k 4 3] .ret) (s [q 22 .eql 5 12,m 21 22]
 (.cond 21 (s [k 2 2,k 3 1,k 4 2] .ret) .skip)))))))))))) (s [k 2 0,k 3 0,k 4 0] .ret))),[.t 2,.t 3,.t 4]⟩
theorem i175 : IsFun Tryz.prog 175 g175 := ⟨Tryz.f175, _, [], Tryz.func175, by kernel_rfl, rfl, by kernel_rfl, by kernel_rfl, rfl⟩
def g176 : GFun := ⟨⟨19,[]⟩,(s [k 4 0] (.seq (s [m 6 0,n 7 6,k 8 0] (.block 0 (.loop (s [o 9 .lss 8 7] (.seq (.cond 9 .skip (.exit 0)) (.seq (.block 1 (s [m 10 8,m 5 10] (s [m 11 1,m 12 0,m 13 5,i 14 6 12 13,h 15 6 14,x 16 (.callv false
 (.t 11) [.t 15])] (.cond 16 (s [m 17 5,m 4 17] .ret) .skip)))) (.reg [q 18 .add 8 1,m 8 18]))))))) (s [k 4 (-1)] .ret))),[.t 4]⟩
theorem i176 : IsFun Tryz.prog 176 g176 := ⟨Tryz.f176, _, [], Tryz.func176, by kernel_rfl, rfl, by kernel_rfl, by kernel_rfl, rfl⟩
def g177 : GFun := ⟨⟨19,[]⟩,(s [k 4 0] (.seq (s [m 6 0,n 7 6,k 8 0] (.block 0 (.loop (s [o 9 .lss 8 7] (.seq (.cond 9 .skip (.exit 0)) (.seq (.block 1 (s [m 10 8,m 5 10] (s [m 11 1,m 12 0,m 13 5,i 14 7 12 13,h 15 7 14,x 16 (.callv false
 (.t 11) [.t 15])] (.cond 16 (s [m 17 5,m 4 17] .ret) .skip)))) (.reg [q 18 .add 8 1,m 8 18]))))))) (s [k 4 (-1)] .ret))),[.t 4]⟩
theorem i177 : IsFun Tryz.prog 177 g177 := ⟨Tryz.f177, _, [], Tryz.func177, by kernel_rfl, rfl, by kernel_rfl, by kernel_rfl, rfl⟩
def g178 : GFun := ⟨⟨15,[2,3]⟩,(s [a 2 7 0,a 3 1 1,b 4 false] (s [l 5 3,h 6 7 2,x 7 (.callv false (.t 5) [.t 6]),m 8 7,y 9 8 (.faddr 6 1 false (.t 2)),y 10 8 (.load 1 false (.t 9)),y 11 8 (.mkfn 229 [.t 3]),y 12 8 (.call false 109 [.t 10,
 .t 11]),y 13 8 (.not (.t 12)),x 14 (.pick (.t 8) (.t 13) (.k (.val (.bool false)))),m 4 14] .ret)),[.t 4]⟩
theorem i178 : IsFun Tryz.prog 178 g178 := ⟨Tryz.f178, _, [], Tryz.func178, by kernel_rfl, rfl, by kernel_rfl, by kernel_rfl, rfl⟩
def g180 : GFun := ⟨⟨19,[]⟩,(s [k 4 0] (.seq (s [m 6 0,n 7 6,k 8 0] (.block 0 (.loop (s [o 9 .lss 8 7] (.seq (.cond 9 .skip (.exit 0)) (.seq (.block 1 (s [m 10 8,m 5 10] (s [m 11 1,m 12 0,m 13 5,i 14 2 12 13,h 15 2 14,x 16 (.callv false
 (.t 11) [.t 15])] (.cond 16 (s [m 17 5,m 4 17] .ret) .skip)))) (.reg [q 18 .add 8 1,m 8 18]))))))) (s [k 4 (-1)] .ret))),[.t 4]⟩
theorem i180 : IsFun Tryz.prog 180 g180 := ⟨Tryz.f180, _, [], Tryz.func180, by kernel_rfl, rfl, by kernel_rfl, by kernel_rfl, rfl⟩
def g186 : GFun := ⟨⟨30,[2,3,4]⟩,(s [a 2 6 0,a 3 2 1,x 4 (.allocr 7),b 5 false] (.seq (s [k 6 0] (.block 0 (.loop (.seq (s [m 7 6,f 8 4 2,l 9 8,n 10 9,o 11 .lss 7 10] (.cond 11 .skip (.exit 0))) (.seq (.block 1 (s [f 14 4 2,m 16 6,l 15 14,
 i 17 9 15 16,e 18 0 2 17,h 19 2 18,h 20 2 3,x 21 (.aeq false [1,2] (.t 19) (.t 20))] (.cond 21 (s [f 22 4 2,l 23 22,m 24 6,i 25 9 23 24,e 26 2 7 25,h 27 7 26,c 28 232 [.t 27],x 4 (.stro 7 4 (.t 28)),b 5 true] .ret) .skip))) (.reg [m 12 6,
 q 13 .add 12 1,m 6 13])))))) (s [x 29 (.build [(.val (.int .i64 0)),(.val (.int .i64 0)),(.val (.int .i64 0)),(.val (.int .i64 0)),(.val (.string (ByteArray.mk #[]))),(.val (.string (ByteArray.mk #[]))),(.val (.slice none 0 0))] []),x 4
 (.stro 7 4 (.t 29)),b 5 false] .ret))),[(.c 4 7 true),.t 5]⟩
theorem i186 : IsFun Tryz.prog 186 g186 := ⟨Tryz.f186, _, [], Tryz.func186, by kernel_rfl, rfl, by kernel_rfl, by kernel_rfl, rfl⟩
def g187 : GFun := ⟨⟨15,[1]⟩,(s [a 1 7 0,b 2 false] (s [h 3 7 1,c 4 233 [.t 3,(.k (.val (.int .i64 24)))],q 5 .geq 4 0,m 6 5,y 7 6 (.load 7 true (.t 1)),y 8 6 (.call false 234 [.t 7]),y 9 6 (.bin .leq (.t 8) (.k (.val (.int .i64 6)))),
 x 10 (.pick (.t 6) (.t 9) (.k (.val (.bool false)))),m 11 10,y 12 11 (.load 7 true (.t 1)),y 13 11 (.call false 235 [.t 12]),x 14 (.pick (.t 11) (.t 13) (.k (.val (.bool false)))),m 2 14] .ret)),[.t 2]⟩
theorem i187 : IsFun Tryz.prog 187 g187 := ⟨Tryz.f187, _, [], Tryz.func187, by kernel_rfl, rfl, by kernel_rfl, by kernel_rfl, rfl⟩
def g193 : GFun := ⟨⟨13,[2]⟩,(s [a 2 4 0,k 4 0] (s [m 5 1,f 6 0 2,l 7 6,x 8 (.slen (.t 7)),o 9 .sub 5 8,m 1 9] (.seq (s [m 10 1,q 11 .lss 10 0] (.cond 11 (s [k 4 (-1)] .ret) .skip)) (s [m 12 1,m 4 12] .ret)))),[.t 4]⟩
theorem i193 : IsFun Tryz.prog 193 g193 := ⟨Tryz.f193, _, [], Tryz.func193, by kernel_rfl, rfl, by kernel_rfl, by kernel_rfl, rfl⟩
def g194 : GFun := ⟨⟨18,[2]⟩,(s [a 2 9 0,k 4 0] (s [e 5 0 2 2,h 6 2 5,m 7 1,c 8 243 [.t 6,.t 7],m 1 8] (.seq (s [m 9 1,q 10 .lss 9 0] (.cond 10 (s [k 4 (-1)] .ret) .skip)) (s [e 11 2 7 2,h 12 7 11,m 13 1,c 14 244 [.t 12,.t 13],m 1 14]
 (.seq (s [m 15 1,q 16 .lss 15 0] (.cond 16 (s [k 4 (-1)] .ret) .skip)) (s [m 17 1,m 4 17] .ret)))))),[.t 4]⟩
theorem i194 : IsFun Tryz.prog 194 g194 := ⟨Tryz.f194, _, [], Tryz.func194, by kernel_rfl, rfl, by kernel_rfl, by kernel_rfl, rfl⟩
def g195 : GFun := ⟨⟨32,[2]⟩,(s [a 2 16 0,k 4 0] (s [m 5 1,f 6 0 2,l 7 6,x 8 (.slen (.t 7)),o 9 .sub 5 8,m 1 9] (.seq (s [m 10 1,q 11 .lss 10 0] (.cond 11 (s [k 4 (-1)] .ret) .skip)) (s [m 12 1,f 13 1 2,l 14 13,x 15 (.slen (.t 14)),
 o 16 .sub 12 15,m 1 16] (.seq (s [m 17 1,q 18 .lss 17 0] (.cond 18 (s [k 4 (-1)] .ret) .skip)) (s [e 19 2 7 2,h 20 7 19,m 21 1,c 22 244 [.t 20,.t 21],m 1 22] (.seq (s [m 23 1,q 24 .lss 23 0] (.cond 24 (s [k 4 (-1)] .ret) .skip))
 (s [e 25 9 7 2,h 26 7 25,m 27 1,c 28 244 [.t 26,.t 27],m 1 28] (.seq (s [m 29 1,q 30 .lss 29 0] (.cond 30 (s [k 4 (-1)] .ret) .skip)) (s [m 31 1,m 4 31] .ret)))))))))),[.t 4]⟩
theorem i195 : IsFun Tryz.prog 195 g195 := ⟨Tryz.f195, _, [], Tryz.func195, by kernel_rfl, rfl, by kernel_rfl, by kernel_rfl, rfl⟩
def g196 : GFun := ⟨⟨31,[2]⟩,(s [a 2 7 0,x 4 (.mov (.k (.val (.slice none 0 0))))] (.seq (s [f 6 0 2,l 7 6,q 8 .eql 7 3] (.cond 8 (.reg [m 9 1,f 10 2 2,l 11 10,f 12 5 2,l 13 12,x 14 (.build [(.val (.int .i64 0)),(.val (.string
 (ByteArray.mk #[])))] [(0,(1,(.t 11))),(1,(1,(.t 13)))]),c 15 245 [.t 9,.t 14],m 1 15]) .skip)) (.seq (s [k 5 0] (.block 0 (.loop (.seq (s [m 16 5,f 17 6 2,l 18 17,n 19 18,o 20 .lss 16 19] (.cond 20 .skip (.exit 0))) (.seq (.block 1
 (.reg [f 23 6 2,l 24 23,m 25 5,i 26 7 24 25,h 27 7 26,m 28 1,c 29 196 [.t 27,.t 28],m 1 29])) (.reg [m 21 5,q 22 .add 21 1,m 5 22])))))) (s [m 30 1,m 4 30] .ret)))),[.t 4]⟩
theorem i196 : IsFun Tryz.prog 196 g196 := ⟨Tryz.f196, _, [], Tryz.func196, by kernel_rfl, rfl, by kernel_rfl, by kernel_rfl, rfl⟩
def g197 : GFun := ⟨⟨17,[1,2]⟩,(s [a 1 4 0,x 2 (.allocr 4)] (s [x 3 (.alloc 4 (.agg [(.val (.string (ByteArray.mk #[]))),(.val (.int .i64 0)),(.val (.int .i64 0)),(.val (.bool false))]))] (s [f 4 0 1,l 5 4,f 6 0 3,(.mk none none (.store 1
 (.t 6) (.t 5)))] (s [f 7 1 1,l 8 7,f 9 1 3,(.mk none none (.store 1 (.t 9) (.t 8)))] (s [f 10 2 1,l 11 10,f 12 2 3,(.mk none none (.store 1 (.t 12) (.t 11)))] (s [f 13 3 1,l 14 13,f 15 3 3,(.mk none none (.store 1 (.t 15) (.t 14)))]
 (s [h 16 4 3,x 2 (.stro 4 2 (.t 16))] .ret))))))),[(.c 2 4 true)]⟩
theorem i197 : IsFun Tryz.prog 197 g197 := ⟨Tryz.f197, _, [], Tryz.func197, by kernel_rfl, rfl, by kernel_rfl, by kernel_rfl, rfl⟩
def g198 : GFun := ⟨⟨13,[1,2]⟩,(s [a 1 9 0,x 2 (.allocr 9)] (s [x 3 (.alloc 9 (.agg [(.val (.int .i64 0)),(.val (.string (ByteArray.mk #[]))),(.val (.int .i64 0)),(.val (.int .i64 0)),(.val (.int .i64 0)),(.val (.int .i64 0)),(.val
 (.string (ByteArray.mk #[]))),(.val (.string (ByteArray.mk #[]))),(.val (.slice none 0 0))]))] (s [e 4 0 2 1,h 5 2 4,c 6 246 [.t 5],e 7 0 2 3,(.mk none none (.store 2 (.t 7) (.t 6)))] (s [e 8 2 7 1,h 9 7 8,c 10 247 [.t 9],e 11 2 7 3,
 (.mk none none (.store 7 (.t 11) (.t 10)))] (s [h 12 9 3,x 2 (.stro 9 2 (.t 12))] .ret))))),[(.c 2 9 true)]⟩
theorem i198 : IsFun Tryz.prog 198 g198 := ⟨Tryz.f198, _, [], Tryz.func198, by kernel_rfl, rfl, by kernel_rfl, by kernel_rfl, rfl⟩
def g199 : GFun := ⟨⟨19,[1,2]⟩,(s [a 1 16 0,x 2 (.allocr 16)] (s [x 3 (.alloc 16 (.agg [(.val (.string (ByteArray.mk #[]))),(.val (.string (ByteArray.mk #[]))),(.val (.int .i64 0)),(.val (.int .i64 0)),(.val (.int .i64 0)),(.val
 (.int .i64 0)),(.val (.string (ByteArray.mk #[]))),(.val (.string (ByteArray.mk #[]))),(.val (.slice none 0 0)),(.val (.int .i64 0)),(.val (.int .i64 0)),(.val (.int .i64 0)),(.val (.int .i64 0)),(.val (.string (ByteArray.mk #[]))),(.val
 (.string (ByteArray.mk #[]))),(.val (.slice none 0 0))]))] (s [f 4 0 1,l 5 4,f 6 0 3,(.mk none none (.store 1 (.t 6) (.t 5)))] (s [f 7 1 1,l 8 7,f 9 1 3,(.mk none none (.store 1 (.t 9) (.t 8)))] (s [e 10 2 7 1,h 11 7 10,c 12 247 [.t 11],
 e 13 2 7 3,(.mk none none (.store 7 (.t 13) (.t 12)))] (s [e 14 9 7 1,h 15 7 14,c 16 247 [.t 15],e 17 9 7 3,(.mk none none (.store 7 (.t 17) (.t 16)))] (s [h 18 16 3,x 2 (.stro 16 2 (.t 18))] .ret))))))),[(.c 2 16 true)]⟩
theorem i199 : IsFun Tryz.prog 199 g199 := ⟨Tryz.f199, _, [], Tryz.func199, by kernel_rfl, rfl, by kernel_rfl, by kernel_rfl, rfl⟩
def g206 : GFun := ⟨⟨15,[2]⟩,(s [a 2 7 0,b 3 false] (.seq (s [f 4 0 2,l 5 4,q 6 .eql 5 3] (.cond 6 (.reg [l 7 1,f 8 2 2,l 9 8,f 10 5 2,l 11 10,x 12 (.build [(.val (.int .i64 0)),(.val (.string (ByteArray.mk #[])))] [(0,(1,(.t 9))),(1,(1,
 (.t 11)))]),x 13 (.bslice 2 [] 1 true [(0,(.t 12))]),x 14 (.append 2 24 (.t 7) (.t 13)),(.mk none none (.store 1 (.t 1) (.t 14)))]) .skip)) (s [b 3 true] .ret))),[.t 3]⟩
theorem i206 : IsFun Tryz.prog 206 g206 := ⟨Tryz.f206, _, [], Tryz.func206, by kernel_rfl, rfl, by kernel_rfl, by kernel_rfl, rfl⟩
def g209 : GFun := ⟨⟨61,[]⟩,(s [x 2 (.mov (.k (.val (.slice none 0 0))))] (.seq (s [m 6 0,n 7 6,q 8 .lss 7 2] (.cond 8 (s [m 9 0,m 2 9] .ret) .skip)) (.seq (s [k 3 1] (.block 0 (.loop (.seq (s [m 10 3,m 11 0,n 12 11,o 13 .lss 10 12]
 (.cond 13 .skip (.exit 0))) (.seq (.block 1 (s [m 16 0,m 17 3,i 18 2 16 17,m 20 0,m 21 3,q 22 .sub 21 1,i 23 2 20 22,h 19 2 18,h 24 2 23,x 25 (.aeq false [1,2] (.t 19) (.t 24))] (.cond 25 (s [m 26 0,m 27 3,x 28 (.slc 2 (.t 26) (some
 (.t 27)) none),m 4 28] (.seq (s [k 5 1] (.block 2 (.loop (.seq (s [m 29 5,m 30 4,n 31 30,o 32 .lss 29 31] (.cond 32 .skip (.exit 2))) (.seq (.block 3 (s [m 35 4,m 36 5,i 37 2 35 36,m 39 4,m 40 5,q 41 .sub 40 1,i 42 2 39 41,h 38 2 37,
 h 43 2 42,x 44 (.aeq true [1,2] (.t 38) (.t 43))] (.cond 44 (s [m 45 0,m 46 3,m 47 4,m 48 5,i 49 2 47 48,h 50 2 49,i 51 2 45 46,(.mk none none (.store 2 (.t 51) (.t 50)))] (.reg [m 52 3,q 53 .add 52 1,m 3 53])) .skip))) (.reg [m 33 5,
 q 34 .add 33 1,m 5 34])))))) (s [m 54 0,m 55 3,x 56 (.slc 2 (.t 54) (some (.t 55)) none),(.mk none none (.clr 2 (.t 56)))] (s [m 57 0,m 58 3,x 59 (.slc 2 (.t 57) none (some (.t 58))),m 2 59] .ret)))) .skip))) (.reg [m 14 3,q 15 .add 14 1,
 m 3 15])))))) (s [m 60 0,m 2 60] .ret)))),[.t 2]⟩
theorem i209 : IsFun Tryz.prog 209 g209 := ⟨Tryz.f209, _, [], Tryz.func209, by kernel_rfl, rfl, by kernel_rfl, by kernel_rfl, rfl⟩
def g210 : GFun := ⟨⟨25,[2,3]⟩,(s [a 2 4 0,a 3 4 1,b 4 false] (.seq (s [f 5 0 2,l 6 5,f 7 0 3,l 8 7,o 9 .neq 6 8] (.cond 9 (s [b 4 false] .ret) .skip)) (.seq (s [f 10 1 2,l 11 10,f 12 1 3,l 13 12,o 14 .neq 11 13] (.cond 14
 (s [b 4 false] .ret) .skip)) (.seq (s [f 15 2 2,l 16 15,f 17 2 3,l 18 17,o 19 .neq 16 18] (.cond 19 (s [b 4 false] .ret) .skip)) (.seq (s [f 20 3 2,l 21 20,f 22 3 3,l 23 22,x 24 (.beq true (.t 21) (.t 23))] (.cond 24
 (s [b 4 false] .ret) .skip)) (s [b 4 true] .ret)))))),[.t 4]⟩
theorem i210 : IsFun Tryz.prog 210 g210 := ⟨Tryz.f210, _, [], Tryz.func210, by kernel_rfl, rfl, by kernel_rfl, by kernel_rfl, rfl⟩
def g211 : GFun := ⟨⟨17,[2,3]⟩,(s [a 2 9 0,a 3 9 1,b 4 false] (.seq (s [e 5 0 2 2,h 6 2 5,e 7 0 2 3,h 8 2 7,c 9 259 [.t 6,.t 8],w 10 9] (.cond 10 (s [b 4 false] .ret) .skip)) (.seq (s [e 11 2 7 2,h 12 7 11,e 13 2 7 3,h 14 7 13,
 c 15 260 [.t 12,.t 14],w 16 15] (.cond 16 (s [b 4 false] .ret) .skip)) (s [b 4 true] .ret)))),[.t 4]⟩
theorem i211 : IsFun Tryz.prog 211 g211 := ⟨Tryz.f211, _, [], Tryz.func211, by kernel_rfl, rfl, by kernel_rfl, by kernel_rfl, rfl⟩
def g212 : GFun := ⟨⟨27,[2,3]⟩,(s [a 2 16 0,a 3 16 1,b 4 false] (.seq (s [f 5 0 2,l 6 5,f 7 0 3,l 8 7,o 9 .neq 6 8] (.cond 9 (s [b 4 false] .ret) .skip)) (.seq (s [f 10 1 2,l 11 10,f 12 1 3,l 13 12,o 14 .neq 11 13] (.cond 14
 (s [b 4 false] .ret) .skip)) (.seq (s [e 15 2 7 2,h 16 7 15,e 17 2 7 3,h 18 7 17,c 19 260 [.t 16,.t 18],w 20 19] (.cond 20 (s [b 4 false] .ret) .skip)) (.seq (s [e 21 9 7 2,h 22 7 21,e 23 9 7 3,h 24 7 23,c 25 260 [.t 22,.t 24],w 26 25]
 (.cond 26 (s [b 4 false] .ret) .skip)) (s [b 4 true] .ret)))))),[.t 4]⟩
theorem i212 : IsFun Tryz.prog 212 g212 := ⟨Tryz.f212, _, [], Tryz.func212, by kernel_rfl, rfl, by kernel_rfl, by kernel_rfl, rfl⟩
def g213 : GFun := ⟨⟨39,[1]⟩,(s [a 1 4 0,b 2 false] (.seq (s [f 3 0 1,l 4 3,c 5 214 [.t 4],w 6 5,m 7 6,z 8 7 (.faddr 1 1 false (.t 1)),z 9 7 (.load 1 false (.t 8)),z 10 7 (.call false 85 [.t 9,(.k (.val (.int .i64 1))),(.k (.val
 (.int .i64 4)))]),z 11 7 (.not (.t 10)),x 12 (.pick (.t 7) (.k (.val (.bool true))) (.t 11)),m 13 12,z 14 13 (.faddr 2 1 false (.t 1)),z 15 13 (.load 1 false (.t 14)),z 16 13 (.call false 85 [.t 15,(.k (.val (.int .i64 1))),(.k (.val
 (.int .i64 3)))]),z 17 13 (.not (.t 16)),x 18 (.pick (.t 13) (.k (.val (.bool true))) (.t 17))] (.cond 18 (s [b 2 false] .ret) .skip)) (.seq (s [f 19 2 1,l 20 19,q 21 .eql 20 3,m 22 21,y 23 22 (.faddr 1 1 false (.t 1)),y 24 22
 (.load 1 false (.t 23)),y 25 22 (.bin .neq (.t 24) (.k (.val (.int .i64 2)))),y 26 22 (.mov (.t 25)),z 27 26 (.faddr 3 1 false (.t 1)),z 28 26 (.load 1 false (.t 27)),y 29 22 (.pick (.t 26) (.k (.val (.bool true))) (.t 28)),x 30 (.pick
 (.t 22) (.t 29) (.k (.val (.bool false))))] (.cond 30 (s [b 2 false] .ret) .skip)) (s [f 31 3 1,l 32 31,w 33 32,m 34 33,z 35 34 (.faddr 1 1 false (.t 1)),z 36 34 (.load 1 false (.t 35)),z 37 34 (.bin .eql (.t 36) (.k (.val
 (.int .i64 2)))),x 38 (.pick (.t 34) (.k (.val (.bool true))) (.t 37)),m 2 38] .ret)))),[.t 2]⟩
theorem i213 : IsFun Tryz.prog 213 g213 := ⟨Tryz.f213, _, [], Tryz.func213, by kernel_rfl, rfl, by kernel_rfl, by kernel_rfl, rfl⟩
def g214 : GFun := ⟨⟨15,[]⟩,(s [b 2 false] (s [m 3 0,c 4 261 [.t 3],m 5 4,y 6 5 (.mov (.t 0)),y 7 5 (.slen (.t 6)),y 8 5 (.bin .leq (.t 7) (.k (.val (.int .i64 8)))),x 9 (.pick (.t 5) (.t 8) (.k (.val (.bool false)))),m 10 9,y 11 10 (.mov
 (.t 0)),y 12 10 (.call false 262 [.t 11]),y 13 10 (.not (.t 12)),x 14 (.pick (.t 10) (.t 13) (.k (.val (.bool false)))),m 2 14] .ret)),[.t 2]⟩
theorem i214 : IsFun Tryz.prog 214 g214 := ⟨Tryz.f214, _, [], Tryz.func214, by kernel_rfl, rfl, by kernel_rfl, by kernel_rfl, rfl⟩
def g215 : GFun := ⟨⟨18,[]⟩,(s [b 2 false] (.seq (s [k 3 0] (.block 0 (.loop (.seq (s [m 4 3,m 5 0,n 6 5,o 7 .lss 4 6] (.cond 7 .skip (.exit 0))) (.seq (.block 1 (s [m 10 0,m 11 3,x 12 (.slc 1 (.t 10) none (some (.t 11))),m 13 0,m 14 3,
 i 15 1 13 14,l 16 15,x 17 (.call true 148 [.t 12,.t 16])] (.cond 17 (s [b 2 false] .ret) .skip))) (.reg [m 8 3,q 9 .add 8 1,m 3 9])))))) (s [b 2 true] .ret))),[.t 2]⟩
theorem i215 : IsFun Tryz.prog 215 g215 := ⟨Tryz.f215, _, [], Tryz.func215, by kernel_rfl, rfl, by kernel_rfl, by kernel_rfl, rfl⟩
def g216 : GFun := ⟨⟨12,[2]⟩,(s [a 2 7 0,b 4 false] (s [h 5 7 2,c 6 187 [.t 5],m 7 6,y 8 7 (.load 7 true (.t 2)),y 9 7 (.mov (.t 1)),y 10 7 (.call false 263 [.t 8,.t 9]),x 11 (.pick (.t 7) (.t 10) (.k (.val (.bool false)))),m 4 11] .ret)),
 [.t 4]⟩
theorem i216 : IsFun Tryz.prog 216 g216 := ⟨Tryz.f216, _, [], Tryz.func216, by kernel_rfl, rfl, by kernel_rfl, by kernel_rfl, rfl⟩
def g217 : GFun := ⟨⟨56,[2,3,7]⟩,(s [a 2 2 0,a 3 6 1,x 4 (.mov (.k (.val (.slice none 0 0))))] (s [x 11 (.bslice 2 [] 0 true []),m 5 11] (.seq (s [k 6 0] (.block 0 (.loop (.seq (s [m 12 6,f 13 2 3,l 14 13,n 15 14,o 16 .leq 12 15]
 (.cond 16 .skip (.exit 0))) (.seq (.block 1 (s [m 22 6,x 7 (.allocr 2),h 20 2 2,h 21 6 3,x 23 (.call true 90 [.t 21,.t 22]),x 24 (.call true 91 [.t 20,.t 23]),m 19 24,x 25 (.ext (.t 19) 0),x 26 (.ext (.t 19) 1),x 7 (.stro 2 7 (.t 25)),
 m 8 26] (s [k 9 1] (.seq (s [m 27 6,q 28 .eql 27 0] (.cond 28 (.reg [k 9 2]) .skip)) (s [k 10 0] (.block 2 (.loop (.seq (s [m 29 10,f 30 1 7,l 31 30,n 32 31,o 33 .lss 29 32] (.cond 33 .skip (.exit 2))) (.seq (.block 3 (s [f 36 1 7,l 37 36,
 m 38 10,i 39 4 37 38,f 40 2 39,l 41 40,m 42 9,o 43 .eql 41 42] (.cond 43 (.reg [m 44 5,m 45 6,f 46 1 7,l 47 46,m 48 10,i 49 4 47 48,f 50 0 49,l 51 50,x 52 (.build [(.val (.int .i64 0)),(.val (.string (ByteArray.mk #[])))] [(0,(1,(.t 45))),
 (1,(1,(.t 51)))]),x 53 (.bslice 2 [] 1 true [(0,(.t 52))]),x 54 (.append 2 24 (.t 44) (.t 53)),m 5 54]) .skip))) (.reg [m 34 10,q 35 .add 34 1,m 10 35])))))))))) (.reg [m 17 6,q 18 .add 17 1,m 6 18])))))) (s [m 55 5,m 4 55] .ret)))),
 [.t 4]⟩
theorem i217 : IsFun Tryz.prog 217 g217 := ⟨Tryz.f217, _, [], Tryz.func217, by kernel_rfl, rfl, by kernel_rfl, by kernel_rfl, rfl⟩
def g218 : GFun := ⟨⟨18,[3]⟩,(s [a 3 2 1,b 4 false] (.seq (s [k 5 0] (.block 0 (.loop (.seq (s [m 6 5,m 7 0,n 8 7,o 9 .lss 6 8] (.cond 9 .skip (.exit 0))) (.seq (.block 1 (s [m 12 0,m 13 5,i 14 2 12 13,h 15 2 14,h 16 2 3,x 17
 (.aeq false [1,2] (.t 15) (.t 16))] (.cond 17 (s [b 4 true] .ret) .skip))) (.reg [m 10 5,q 11 .add 10 1,m 5 11])))))) (s [b 4 false] .ret))),[.t 4]⟩
theorem i218 : IsFun Tryz.prog 218 g218 := ⟨Tryz.f218, _, [], Tryz.func218, by kernel_rfl, rfl, by kernel_rfl, by kernel_rfl, rfl⟩
def g219 : GFun := ⟨⟨25,[3,4,5]⟩,(s [a 3 2 0,a 4 6 1,a 5 7 2,b 6 false] (s [h 9 7 5,c 10 128 [.t 9],m 7 10] (.seq (s [k 8 0] (.block 0 (.loop (.seq (s [m 11 8,m 12 7,n 13 12,o 14 .lss 11 13] (.cond 14 .skip (.exit 0))) (.seq (.block 1
 (s [m 19 7,m 20 8,i 21 2 19 20,h 17 2 3,h 18 6 4,h 22 2 21,x 23 (.call true 264 [.t 17,.t 18,.t 22]),w 24 23] (.cond 24 (s [b 6 false] .ret) .skip))) (.reg [m 15 8,q 16 .add 15 1,m 8 16])))))) (s [b 6 true] .ret)))),[.t 6]⟩
theorem i219 : IsFun Tryz.prog 219 g219 := ⟨Tryz.f219, _, [], Tryz.func219, by kernel_rfl, rfl, by kernel_rfl, by kernel_rfl, rfl⟩
def g220 : GFun := ⟨⟨24,[]⟩,(s [k 2 0,k 3 0,k 4 0] (.seq (.block 0 (s [m 6 0,c 7 85 [.t 6,(.k (.val (.int .i64 1))),(.k (.val (.int .i64 5)))],m 5 7] (.cond 5 (s [k 2 1,k 3 1,k 4 1] .ret) (s [m 9 0,c 10 85 [.t 9,(.k (.val (.int .i64 6))),
 (.k (.val (.int .i64 8)))],m 8 10] (.cond 8 (s [k 2 2,k 3 2,k 4 2] .ret) (s [m 12 0,q 13 .eql 12 9,m 14 13,z 15 14 (.mov (.t 0)),z 16 14 (.bin .eql (.t 15) (.k (.val (.int .i64 10)))),x 17 (.pick (.t 14) (.k (.val (.bool true))) (.t 16)),
 m 11 17] (.cond 11 (s [k 2 1,k 3 1,k 4 3] .ret) (s [m 19 0,q 20 .eql 19 11,m 18 20] (.cond 18 (s [k 2 2,k 3 1,k 4 3] .ret) (s [m 22 0,q 23 .eql 22 12,m 21 23] (.cond 21 (s [k 2 2,k 3 1,k 4 2] .ret) .skip))))))))))) (s [k 2 0,k 3 0,
 k 4 0] .ret))),[.t 2,.t 3,.t 4]⟩
theorem i220 : IsFun Tryz.prog 220 g220 := ⟨Tryz.f220, _, [], Tryz.func220, by kernel_rfl, rfl, by kernel_rfl, by kernel_rfl, rfl⟩
def g221 : GFun := ⟨⟨56,[3,8]⟩,(s [a 3 2 0,b 6 false] (.seq (s [k 7 0] (.block 0 (.loop (.seq (s [m 12 7,f 13 1 3,l 14 13,n 15 14,o 16 .lss 12 15] (.cond 16 .skip (.exit 0))) (.seq (.block 1 (s [f 19 1 3,l 20 19,m 21 7,i 22 6 20 21,
 h 23 6 22,x 8 (.allocr 6),x 8 (.stro 6 8 (.t 23))] (s [f 24 1 8,l 25 24,m 26 1,o 27 .eql 25 26,m 9 27] (.seq (s [k 10 0] (.block 2 (.loop (.seq (s [m 28 10,f 29 2 8,l 30 29,n 31 30,o 32 .lss 28 31] (.cond 32 .skip (.exit 2))) (.seq
 (.block 3 (s [f 36 2 8,m 38 10,h 35 2 3,l 37 36,i 39 1 37 38,l 40 39,x 41 (.call true 157 [.t 35,.t 40]),m 11 41] (.reg [m 42 9,m 43 42,y 44 43 (.mov (.t 11)),y 45 43 (.bin .geq (.t 44) (.k (.val (.int .i64 0)))),x 46 (.pick (.t 43)
 (.t 45) (.k (.val (.bool false)))),m 47 46,y 48 47 (.mov (.t 2)),y 49 47 (.mov (.t 11)),y 50 47 (.call false 66 [.t 49,(.k (.val (.int .i64 0)))]),y 51 47 (.iaddr 1 (.t 48) (.t 50)),y 52 47 (.load 1 false (.t 51)),y 53 47 (.bin .gtr
 (.t 52) (.k (.val (.int .i64 0)))),x 54 (.pick (.t 47) (.t 53) (.k (.val (.bool false)))),m 9 54]))) (.reg [m 33 10,q 34 .add 33 1,m 10 34])))))) (s [m 55 9] (.cond 55 (s [b 6 true] .ret) .skip)))))) (.reg [m 17 7,q 18 .add 17 1,
 m 7 18])))))) (s [b 6 false] .ret))),[.t 6]⟩
theorem i221 : IsFun Tryz.prog 221 g221 := ⟨Tryz.f221, _, [], Tryz.func221, by kernel_rfl, rfl, by kernel_rfl, by kernel_rfl, rfl⟩
def g222 : GFun := ⟨⟨40,[1]⟩,(s [a 1 4 0,b 2 false] (.seq (.block 0 (s [f 4 0 1,l 5 4,c 6 224 [.t 5],w 7 6,m 8 7,z 9 8 (.faddr 1 1 false (.t 1)),z 10 8 (.load 1 false (.t 9)),z 11 8 (.call false 265 [.t 10]),z 12 8 (.not (.t 11)),x 13
 (.pick (.t 8) (.k (.val (.bool true))) (.t 12)),m 14 13,z 15 14 (.faddr 2 1 false (.t 1)),z 16 14 (.load 1 false (.t 15)),z 17 14 (.call false 73 [.t 16,(.k (.val (.int .i64 1))),(.k (.val (.int .i64 3)))]),z 18 14 (.not (.t 17)),x 19
 (.pick (.t 14) (.k (.val (.bool true))) (.t 18)),m 3 19] (.cond 3 (s [b 2 false] .ret) (s [f 21 2 1,l 22 21,q 23 .eql 22 3,m 20 23] (.cond 20 (s [f 24 1 1,l 25 24,q 26 .eql 25 2,m 27 26,y 28 27 (.faddr 3 1 false (.t 1)),y 29 27
 (.load 1 false (.t 28)),y 30 27 (.not (.t 29)),x 31 (.pick (.t 27) (.t 30) (.k (.val (.bool false)))),m 2 31] .ret) .skip))))) (s [f 32 3 1,l 33 32,w 34 33,m 35 34,z 36 35 (.faddr 1 1 false (.t 1)),z 37 35 (.load 1 false (.t 36)),z 38 35
 (.bin .eql (.t 37) (.k (.val (.int .i64 2)))),x 39 (.pick (.t 35) (.k (.val (.bool true))) (.t 38)),m 2 39] .ret))),[.t 2]⟩
theorem i222 : IsFun Tryz.prog 222 g222 := ⟨Tryz.f222, _, [], Tryz.func222, by kernel_rfl, rfl, by kernel_rfl, by kernel_rfl, rfl⟩
def g223 : GFun := ⟨⟨9,[2]⟩,(s [a 2 4 0,b 3 false] (s [f 4 0 2,l 5 4,f 6 0 1,l 7 6,o 8 .eql 5 7,m 3 8] .ret)),[.t 3]⟩
theorem i223 : IsFun Tryz.prog 223 g223 := ⟨Tryz.f223, _, [], Tryz.func223, by kernel_rfl, rfl, by kernel_rfl, by kernel_rfl, rfl⟩
def g224 : GFun := ⟨⟨35,[]⟩,(s [b 2 false] (.seq (s [m 4 0,x 5 (.slen (.t 4)),k 6 0] (.block 0 (.loop (s [o 7 .lss 6 5] (.seq (.cond 7 .skip (.exit 0)) (.seq (.block 1 (s [m 8 6,m 3 8] (s [m 9 0,m 10 3,x 11 (.idx (.t 9) (.t 10)),
 c 12 266 [.t 11],w 13 12,m 14 13,y 15 14 (.mov (.t 0)),y 16 14 (.mov (.t 3)),y 17 14 (.idx (.t 15) (.t 16)),y 18 14 (.call false 267 [.t 17]),y 19 14 (.not (.t 18)),x 20 (.pick (.t 14) (.t 19) (.k (.val (.bool false))))] (.cond 20
 (s [b 2 false] .ret) .skip)))) (.reg [q 21 .add 6 1,m 6 21]))))))) (s [m 22 0,x 23 (.slen (.t 22)),c 24 73 [.t 23,(.k (.val (.int .i64 1))),(.k (.val (.int .i64 8)))],m 25 24,y 26 25 (.mov (.t 0)),y 27 25 (.idx (.t 26) (.k (.val
 (.int .i64 0)))),y 28 25 (.call false 266 [.t 27]),x 29 (.pick (.t 25) (.t 28) (.k (.val (.bool false)))),m 30 29,y 31 30 (.mov (.t 0)),y 32 30 (.call false 268 [.t 31]),y 33 30 (.not (.t 32)),x 34 (.pick (.t 30) (.t 33) (.k (.val
 (.bool false)))),m 2 34] .ret))),[.t 2]⟩
theorem i224 : IsFun Tryz.prog 224 g224 := ⟨Tryz.f224, _, [], Tryz.func224, by kernel_rfl, rfl, by kernel_rfl, by kernel_rfl, rfl⟩
def g225 : GFun := ⟨⟨12,[2,3]⟩,(s [a 2 7 0,a 3 1 1,b 4 false] (s [h 5 7 2,c 6 238 [.t 5],m 7 6,y 8 7 (.load 7 true (.t 2)),y 9 7 (.mkfn 269 [.t 3]),y 10 7 (.call false 178 [.t 8,.t 9]),x 11 (.pick (.t 7) (.t 10) (.k (.val (.bool false)))),
 m 4 11] .ret)),[.t 4]⟩
theorem i225 : IsFun Tryz.prog 225 g225 := ⟨Tryz.f225, _, [], Tryz.func225, by kernel_rfl, rfl, by kernel_rfl, by kernel_rfl, rfl⟩
def g226 : GFun := ⟨⟨19,[]⟩,(s [k 4 0] (.seq (s [m 6 0,n 7 6,k 8 0] (.block 0 (.loop (s [o 9 .lss 8 7] (.seq (.cond 9 .skip (.exit 0)) (.seq (.block 1 (s [m 10 8,m 5 10] (s [m 11 1,m 12 0,m 13 5,i 14 2 12 13,h 15 2 14,x 16 (.callv false
 (.t 11) [.t 15])] (.cond 16 (s [m 17 5,m 4 17] .ret) .skip)))) (.reg [q 18 .add 8 1,m 8 18]))))))) (s [k 4 (-1)] .ret))),[.t 4]⟩
theorem i226 : IsFun Tryz.prog 226 g226 := ⟨Tryz.f226, _, [], Tryz.func226, by kernel_rfl, rfl, by kernel_rfl, by kernel_rfl, rfl⟩
def g227 : GFun := ⟨⟨19,[]⟩,(s [k 4 0] (.seq (s [m 6 0,n 7 6,k 8 0] (.block 0 (.loop (s [o 9 .lss 8 7] (.seq (.cond 9 .skip (.exit 0)) (.seq (.block 1 (s [m 10 8,m 5 10] (s [m 11 1,m 12 0,m 13 5,i 14 9 12 13,h 15 9 14,x 16 (.callv false
 (.t 11) [.t 15])] (.cond 16 (s [m 17 5,m 4 17] .ret) .skip)))) (.reg [q 18 .add 8 1,m 8 18]))))))) (s [k 4 (-1)] .ret))),[.t 4]⟩
theorem i227 : IsFun Tryz.prog 227 g227 := ⟨Tryz.f227, _, [], Tryz.func227, by kernel_rfl, rfl, by kernel_rfl, by kernel_rfl, rfl⟩
def g228 : GFun := ⟨⟨19,[3]⟩,(s [a 3 2 1,k 4 0] (.seq (s [m 6 0,n 7 6,k 8 0] (.block 0 (.loop (s [o 9 .lss 8 7] (.seq (.cond 9 .skip (.exit 0)) (.seq (.block 1 (s [m 10 8,m 5 10] (s [m 12 0,m 13 5,i 14 2 12 13,h 11 2 3,h 15 2 14,x 16
 (.aeq false [1,2] (.t 11) (.t 15))] (.cond 16 (s [m 17 5,m 4 17] .ret) .skip)))) (.reg [q 18 .add 8 1,m 8 18]))))))) (s [k 4 (-1)] .ret))),[.t 4]⟩
theorem i228 : IsFun Tryz.prog 228 g228 := ⟨Tryz.f228, _, [], Tryz.func228, by kernel_rfl, rfl, by kernel_rfl, by kernel_rfl, rfl⟩
def g229 : GFun := ⟨⟨8,[2]⟩,(s [a 2 7 0,b 3 false] (s [h 4 7 2,l 5 1,c 6 178 [.t 4,.t 5],w 7 6,m 3 7] .ret)),[.t 3]⟩
theorem i229 : IsFun Tryz.prog 229 g229 := ⟨Tryz.f229, _, [], Tryz.func229, by kernel_rfl, rfl, by kernel_rfl, by kernel_rfl, rfl⟩
def g230 : GFun := ⟨⟨14,[]⟩,(s [b 4 false] (s [m 5 1,c 6 85 [.t 5,(.k (.val (.int .i64 1))),(.k (.val (.int .i64 4)))],m 7 6,y 8 7 (.mov (.t 0)),y 9 7 (.mov (.t 1)),y 10 7 (.call false 270 [.t 8,.t 9]),y 11 7 (.mov (.t 0)),y 12 7
 (.bin .eql (.t 10) (.t 11)),x 13 (.pick (.t 7) (.t 12) (.k (.val (.bool false)))),m 4 13] .ret)),[.t 4]⟩
theorem i230 : IsFun Tryz.prog 230 g230 := ⟨Tryz.f230, _, [], Tryz.func230, by kernel_rfl, rfl, by kernel_rfl, by kernel_rfl, rfl⟩
def g232 : GFun := ⟨⟨25,[2]⟩,(s [x 1 (.box 7 (.t 0)),x 2 (.allocr 7)] (s [x 5 (.bslice 7 [] 0 true []),m 3 5] (.seq (s [k 4 0] (.block 0 (.loop (.seq (s [m 6 4,f 7 6 1,l 8 7,n 9 8,o 10 .lss 6 9] (.cond 10 .skip (.exit 0))) (.seq (.block 1
 (.reg [m 13 3,f 14 6 1,l 15 14,m 16 4,i 17 7 15 16,h 18 7 17,c 19 232 [.t 18],x 20 (.bslice 7 [] 1 true [(0,(.t 19))]),x 21 (.append 7 88 (.t 13) (.t 20)),m 3 21])) (.reg [m 11 4,q 12 .add 11 1,m 4 12])))))) (s [m 22 3,f 23 6 1,
 (.mk none none (.store 1 (.t 23) (.t 22)))] (s [h 24 7 1,x 2 (.stro 7 2 (.t 24))] .ret))))),[(.c 2 7 true)]⟩
theorem i232 : IsFun Tryz.prog 232 g232 := ⟨Tryz.f232, _, [], Tryz.func232, by kernel_rfl, rfl, by kernel_rfl, by kernel_rfl, rfl⟩
def g233 : GFun := ⟨⟨27,[2]⟩,(s [a 2 7 0,k 4 0] (s [m 6 1,q 7 .sub 6 1,m 1 7] (.seq (s [k 5 0] (.block 0 (.loop (.seq (s [m 8 5,f 9 6 2,l 10 9,n 11 10,o 12 .lss 8 11,m 13 12,y 14 13 (.mov (.t 1)),y 15 13 (.bin .geq (.t 14) (.k (.val
 (.int .i64 0)))),x 16 (.pick (.t 13) (.t 15) (.k (.val (.bool false))))] (.cond 16 .skip (.exit 0))) (.seq (.block 1 (.reg [f 19 6 2,l 20 19,m 21 5,i 22 7 20 21,h 23 7 22,m 24 1,c 25 233 [.t 23,.t 24],m 1 25])) (.reg [m 17 5,
 q 18 .add 17 1,m 5 18])))))) (s [m 26 1,m 4 26] .ret)))),[.t 4]⟩
theorem i233 : IsFun Tryz.prog 233 g233 := ⟨Tryz.f233, _, [], Tryz.func233, by kernel_rfl, rfl, by kernel_rfl, by kernel_rfl, rfl⟩
def g234 : GFun := ⟨⟨22,[1]⟩,(s [a 1 7 0,k 2 0] (s [k 3 0] (.seq (s [k 4 0] (.block 0 (.loop (.seq (s [m 5 4,f 6 6 1,l 7 6,n 8 7,o 9 .lss 5 8] (.cond 9 .skip (.exit 0))) (.seq (.block 1 (.reg [m 12 3,f 13 6 1,l 14 13,m 15 4,i 16 7 14 15,
 h 17 7 16,c 18 234 [.t 17],c 19 66 [.t 12,.t 18],m 3 19])) (.reg [m 10 4,q 11 .add 10 1,m 4 11])))))) (s [m 20 3,q 21 .add 20 1,m 2 21] .ret)))),[.t 2]⟩
theorem i234 : IsFun Tryz.prog 234 g234 := ⟨Tryz.f234, _, [], Tryz.func234, by kernel_rfl, rfl, by kernel_rfl, by kernel_rfl, rfl⟩
def g235 : GFun := ⟨⟨20,[1]⟩,(s [a 1 7 0,b 2 false] (.seq (s [k 3 0] (.block 0 (.loop (.seq (s [m 4 3,f 5 6 1,l 6 5,n 7 6,o 8 .lss 4 7] (.cond 8 .skip (.exit 0))) (.seq (.block 1 (s [f 11 6 1,l 12 11,m 13 3,i 14 7 12 13,h 15 7 14,
 c 16 235 [.t 15],w 17 16] (.cond 17 (s [b 2 false] .ret) .skip))) (.reg [m 9 3,q 10 .add 9 1,m 3 10])))))) (s [h 18 7 1,c 19 271 [.t 18],m 2 19] .ret))),[.t 2]⟩
theorem i235 : IsFun Tryz.prog 235 g235 := ⟨Tryz.f235, _, [], Tryz.func235, by kernel_rfl, rfl, by kernel_rfl, by kernel_rfl, rfl⟩
def g238 : GFun := ⟨⟨15,[1]⟩,(s [a 1 7 0,b 2 false] (s [h 3 7 1,c 4 275 [.t 3],q 5 .leq 4 24,m 6 5,y 7 6 (.load 7 true (.t 1)),y 8 6 (.call false 276 [.t 7]),y 9 6 (.bin .leq (.t 8) (.k (.val (.int .i64 6)))),x 10 (.pick (.t 6) (.t 9) (.k
 (.val (.bool false)))),m 11 10,y 12 11 (.load 7 true (.t 1)),y 13 11 (.call false 178 [.t 12,(.k (.clo 277 []))]),x 14 (.pick (.t 11) (.t 13) (.k (.val (.bool false)))),m 2 14] .ret)),[.t 2]⟩
theorem i238 : IsFun Tryz.prog 238 g238 := ⟨Tryz.f238, _, [], Tryz.func238, by kernel_rfl, rfl, by kernel_rfl, by kernel_rfl, rfl⟩
def g243 : GFun := ⟨⟨13,[2]⟩,(s [a 2 2 0,k 4 0] (s [m 5 1,f 6 1 2,l 7 6,x 8 (.slen (.t 7)),o 9 .sub 5 8,m 1 9] (.seq (s [m 10 1,q 11 .lss 10 0] (.cond 11 (s [k 4 (-1)] .ret) .skip)) (s [m 12 1,m 4 12] .ret)))),[.t 4]⟩
theorem i243 : IsFun Tryz.prog 243 g243 := ⟨Tryz.f243, _, [], Tryz.func243, by kernel_rfl, rfl, by kernel_rfl, by kernel_rfl, rfl⟩
def g244 : GFun := ⟨⟨26,[2]⟩,(s [a 2 7 0,k 4 0] (s [m 5 1,f 6 4 2,l 7 6,x 8 (.slen (.t 7)),o 9 .sub 5 8,m 1 9] (.seq (s [m 10 1,q 11 .lss 10 0] (.cond 11 (s [k 4 (-1)] .ret) .skip)) (s [m 12 1,f 13 5 2,l 14 13,x 15 (.slen (.t 14)),
 o 16 .sub 12 15,m 1 16] (.seq (s [m 17 1,q 18 .lss 17 0] (.cond 18 (s [k 4 (-1)] .ret) .skip)) (s [f 19 6 2,l 20 19,m 21 1,c 22 279 [.t 20,.t 21],m 1 22] (.seq (s [m 23 1,q 24 .lss 23 0] (.cond 24 (s [k 4 (-1)] .ret) .skip)) (s [m 25 1,
 m 4 25] .ret)))))))),[.t 4]⟩
theorem i244 : IsFun Tryz.prog 244 g244 := ⟨Tryz.f244, _, [], Tryz.func244, by kernel_rfl, rfl, by kernel_rfl, by kernel_rfl, rfl⟩
def g245 : GFun := ⟨⟨48,[3]⟩,(s [a 3 2 1,x 4 (.mov (.k (.val (.slice none 0 0))))] (s [k 5 0] (.seq (.block 0 (.loop (.seq (s [m 7 5,m 8 0,n 9 8,o 10 .lss 7 9,m 11 10,y 12 11 (.mov (.t 0)),y 13 11 (.mov (.t 5)),y 14 11 (.iaddr 2 (.t 12)
 (.t 13)),y 15 11 (.load 2 true (.t 14)),y 16 11 (.load 2 true (.t 3)),y 17 11 (.call true 280 [.t 15,.t 16]),x 18 (.pick (.t 11) (.t 17) (.k (.val (.bool false))))] (.cond 18 .skip (.exit 0))) (.block 1 (.reg [m 19 5,q 20 .add 19 1,
 m 5 20]))))) (.seq (s [m 21 5,m 22 0,n 23 22,o 24 .lss 21 23,m 25 24,y 26 25 (.mov (.t 0)),y 27 25 (.mov (.t 5)),y 28 25 (.iaddr 2 (.t 26) (.t 27)),y 29 25 (.load 2 true (.t 28)),y 30 25 (.load 2 true (.t 3)),y 31 25 (.aeq false [1,2]
 (.t 29) (.t 30)),x 32 (.pick (.t 25) (.t 31) (.k (.val (.bool false))))] (.cond 32 (s [m 33 0,m 4 33] .ret) .skip)) (s [x 34 (.bslice 2 [] 0 true []),m 35 0,m 36 5,x 37 (.slc 2 (.t 35) none (some (.t 36))),x 38 (.append 2 24 (.t 34)
 (.t 37)),m 6 38] (s [m 39 6,h 40 2 3,x 41 (.bslice 2 [] 1 true [(0,(.t 40))]),x 42 (.append 2 24 (.t 39) (.t 41)),m 6 42] (s [m 43 6,m 44 0,m 45 5,x 46 (.slc 2 (.t 44) (some (.t 45)) none),x 47 (.append 2 24 (.t 43) (.t 46)),
 m 4 47] .ret))))))),[.t 4]⟩
theorem i245 : IsFun Tryz.prog 245 g245 := ⟨Tryz.f245, _, [], Tryz.func245, by kernel_rfl, rfl, by kernel_rfl, by kernel_rfl, rfl⟩
def g246 : GFun := ⟨⟨11,[1,2]⟩,(s [a 1 2 0,x 2 (.allocr 2)] (s [x 3 (.alloc 2 (.agg [(.val (.int .i64 0)),(.val (.string (ByteArray.mk #[])))]))] (s [f 4 0 1,l 5 4,f 6 0 3,(.mk none none (.store 1 (.t 6) (.t 5)))] (s [f 7 1 1,l 8 7,f 9 1 3,
 (.mk none none (.store 1 (.t 9) (.t 8)))] (s [h 10 2 3,x 2 (.stro 2 2 (.t 10))] .ret))))),[(.c 2 2 true)]⟩
theorem i246 : IsFun Tryz.prog 246 g246 := ⟨Tryz.f246, _, [], Tryz.func246, by kernel_rfl, rfl, by kernel_rfl, by kernel_rfl, rfl⟩
def g247 : GFun := ⟨⟨27,[1,2]⟩,(s [a 1 7 0,x 2 (.allocr 7)] (s [x 3 (.alloc 7 (.agg [(.val (.int .i64 0)),(.val (.int .i64 0)),(.val (.int .i64 0)),(.val (.int .i64 0)),(.val (.string (ByteArray.mk #[]))),(.val (.string
 (ByteArray.mk #[]))),(.val (.slice none 0 0))]))] (s [f 4 0 1,l 5 4,f 6 0 3,(.mk none none (.store 1 (.t 6) (.t 5)))] (s [f 7 1 1,l 8 7,f 9 1 3,(.mk none none (.store 1 (.t 9) (.t 8)))] (s [f 10 2 1,l 11 10,f 12 2 3,(.mk none none
 (.store 1 (.t 12) (.t 11)))] (s [f 13 3 1,l 14 13,f 15 3 3,(.mk none none (.store 1 (.t 15) (.t 14)))] (s [f 16 4 1,l 17 16,f 18 4 3,(.mk none none (.store 1 (.t 18) (.t 17)))] (s [f 19 5 1,l 20 19,f 21 5 3,(.mk none none (.store 1
 (.t 21) (.t 20)))] (s [f 22 6 1,l 23 22,c 24 281 [.t 23],f 25 6 3,(.mk none none (.store 1 (.t 25) (.t 24)))] (s [h 26 7 3,x 2 (.stro 7 2 (.t 26))] .ret)))))))))),[(.c 2 7 true)]⟩
theorem i247 : IsFun Tryz.prog 247 g247 := ⟨Tryz.f247, _, [], Tryz.func247, by kernel_rfl, rfl, by kernel_rfl, by kernel_rfl, rfl⟩
def g259 : GFun := ⟨⟨15,[2,3]⟩,(s [a 2 2 0,a 3 2 1,b 4 false] (.seq (s [f 5 0 2,l 6 5,f 7 0 3,l 8 7,o 9 .neq 6 8] (.cond 9 (s [b 4 false] .ret) .skip)) (.seq (s [f 10 1 2,l 11 10,f 12 1 3,l 13 12,o 14 .neq 11 13] (.cond 14
 (s [b 4 false] .ret) .skip)) (s [b 4 true] .ret)))),[.t 4]⟩
theorem i259 : IsFun Tryz.prog 259 g259 := ⟨Tryz.f259, _, [], Tryz.func259, by kernel_rfl, rfl, by kernel_rfl, by kernel_rfl, rfl⟩
def g260 : GFun := ⟨⟨41,[2,3]⟩,(s [a 2 7 0,a 3 7 1,b 4 false] (.seq (s [f 5 0 2,l 6 5,f 7 0 3,l 8 7,o 9 .neq 6 8] (.cond 9 (s [b 4 false] .ret) .skip)) (.seq (s [f 10 1 2,l 11 10,f 12 1 3,l 13 12,o 14 .neq 11 13] (.cond 14
 (s [b 4 false] .ret) .skip)) (.seq (s [f 15 2 2,l 16 15,f 17 2 3,l 18 17,o 19 .neq 16 18] (.cond 19 (s [b 4 false] .ret) .skip)) (.seq (s [f 20 3 2,l 21 20,f 22 3 3,l 23 22,o 24 .neq 21 23] (.cond 24 (s [b 4 false] .ret) .skip)) (.seq
 (s [f 25 4 2,l 26 25,f 27 4 3,l 28 27,o 29 .neq 26 28] (.cond 29 (s [b 4 false] .ret) .skip)) (.seq (s [f 30 5 2,l 31 30,f 32 5 3,l 33 32,o 34 .neq 31 33] (.cond 34 (s [b 4 false] .ret) .skip)) (.seq (s [f 35 6 2,l 36 35,f 37 6 3,l 38 37,
 c 39 294 [.t 36,.t 38],w 40 39] (.cond 40 (s [b 4 false] .ret) .skip)) (s [b 4 true] .ret))))))))),[.t 4]⟩
theorem i260 : IsFun Tryz.prog 260 g260 := ⟨Tryz.f260, _, [], Tryz.func260, by kernel_rfl, rfl, by kernel_rfl, by kernel_rfl, rfl⟩
def g261 : GFun := ⟨⟨45,[]⟩,(s [b 2 false] (.seq (s [k 3 0] (.block 0 (.loop (.seq (s [m 6 3,m 7 0,x 8 (.slen (.t 7)),o 9 .lss 6 8] (.cond 9 .skip (.exit 0))) (.seq (.block 1 (s [m 12 0,m 13 3,x 14 (.idx (.t 12) (.t 13)),x 15 (.bin .geq
 (.t 14) (.k (.val (.int .u8 97)))),m 16 15,y 17 16 (.mov (.t 0)),y 18 16 (.mov (.t 3)),y 19 16 (.idx (.t 17) (.t 18)),y 20 16 (.bin .leq (.t 19) (.k (.val (.int .u8 122)))),x 21 (.pick (.t 16) (.t 20) (.k (.val (.bool false)))),m 4 21]
 (s [m 22 0,m 23 3,x 24 (.idx (.t 22) (.t 23)),x 25 (.bin .geq (.t 24) (.k (.val (.int .u8 48)))),m 26 25,y 27 26 (.mov (.t 0)),y 28 26 (.mov (.t 3)),y 29 26 (.idx (.t 27) (.t 28)),y 30 26 (.bin .leq (.t 29) (.k (.val (.int .u8 57)))),
 x 31 (.pick (.t 26) (.t 30) (.k (.val (.bool false)))),m 5 31] (s [m 32 4,w 33 32,m 34 33,y 35 34 (.mov (.t 3)),y 36 34 (.bin .eql (.t 35) (.k (.val (.int .i64 0)))),y 37 34 (.mov (.t 36)),z 38 37 (.mov (.t 5)),z 39 37 (.not (.t 38)),
 y 40 34 (.pick (.t 37) (.k (.val (.bool true))) (.t 39)),x 41 (.pick (.t 34) (.t 40) (.k (.val (.bool false))))] (.cond 41 (s [b 2 false] .ret) .skip))))) (.reg [m 10 3,q 11 .add 10 1,m 3 11])))))) (s [m 42 0,x 43 (.slen (.t 42)),
 q 44 .gtr 43 0,m 2 44] .ret))),[.t 2]⟩
theorem i261 : IsFun Tryz.prog 261 g261 := ⟨Tryz.f261, _, [], Tryz.func261, by kernel_rfl, rfl, by kernel_rfl, by kernel_rfl, rfl⟩
def g262 : GFun := ⟨⟨6,[]⟩,(s [b 2 false] (s [c 3 295 [],m 4 0,c 5 148 [.t 3,.t 4],m 2 5] .ret)),[.t 2]⟩
theorem i262 : IsFun Tryz.prog 262 g262 := ⟨Tryz.f262, _, [], Tryz.func262, by kernel_rfl, rfl, by kernel_rfl, by kernel_rfl, rfl⟩
def g263 : GFun := ⟨⟨25,[2]⟩,(s [a 2 7 0,b 4 false] (.seq (s [k 5 0] (.block 0 (.loop (.seq (s [m 6 5,f 7 6 2,l 8 7,n 9 8,o 10 .lss 6 9] (.cond 10 .skip (.exit 0))) (.seq (.block 1 (s [f 13 6 2,l 14 13,m 15 5,i 16 7 14 15,h 17 7 16,m 18 1,
 c 19 263 [.t 17,.t 18],w 20 19] (.cond 20 (s [b 4 false] .ret) .skip))) (.reg [m 11 5,q 12 .add 11 1,m 5 12])))))) (s [f 21 2 2,l 22 21,m 23 1,o 24 .leq 22 23,m 4 24] .ret))),[.t 4]⟩
theorem i263 : IsFun Tryz.prog 263 g263 := ⟨Tryz.f263, _, [], Tryz.func263, by kernel_rfl, rfl, by kernel_rfl, by kernel_rfl, rfl⟩
def g264 : GFun := ⟨⟨49,[3,4,5,7,9]⟩,(s [a 3 2 0,a 4 6 1,a 5 2 2,b 6 false] (.seq (s [f 11 0 5,l 12 11,f 13 2 4,l 14 13,n 15 14,c 16 85 [.t 12,(.k (.val (.int .i64 0))),.t 15],w 17 16] (.cond 17 (s [b 6 false] .ret) .skip)) (s [f 21 0 5,
 x 7 (.allocr 2),h 19 2 3,h 20 6 4,l 22 21,x 23 (.call true 90 [.t 20,.t 22]),x 24 (.call true 91 [.t 19,.t 23]),m 18 24,x 25 (.ext (.t 18) 0),x 26 (.ext (.t 18) 1),x 7 (.stro 2 7 (.t 25)),m 8 26] (s [h 28 2 7,f 29 1 5,l 30 29,
 c 31 92 [.t 28,.t 30],m 27 31,x 32 (.ext (.t 27) 0),x 33 (.ext (.t 27) 1),x 9 (.allocr 4),x 9 (.stro 4 9 (.t 32)),m 10 33] (.seq (s [f 34 0 5,l 35 34,q 36 .eql 35 0] (.cond 36 (s [m 37 10,m 38 37,y 39 38 (.faddr 2 1 false (.t 9)),y 40 38
 (.load 1 false (.t 39)),y 41 38 (.bin .eql (.t 40) (.k (.val (.int .i64 1)))),x 42 (.pick (.t 38) (.t 41) (.k (.val (.bool false)))),m 6 42] .ret) .skip)) (s [m 43 10,m 44 43,y 45 44 (.faddr 2 1 false (.t 9)),y 46 44 (.load 1 false
 (.t 45)),y 47 44 (.bin .eql (.t 46) (.k (.val (.int .i64 2)))),x 48 (.pick (.t 44) (.t 47) (.k (.val (.bool false)))),m 6 48] .ret)))))),[.t 6]⟩
theorem i264 : IsFun Tryz.prog 264 g264 := ⟨Tryz.f264, _, [], Tryz.func264, by kernel_rfl, rfl, by kernel_rfl, by kernel_rfl, rfl⟩
def g265 : GFun := ⟨⟨5,[]⟩,(s [b 2 false] (s [m 3 0,c 4 73 [.t 3,(.k (.val (.int .i64 1))),(.k (.val (.int .i64 4)))],m 2 4] .ret)),[.t 2]⟩
theorem i265 : IsFun Tryz.prog 265 g265 := ⟨Tryz.f265, _, [], Tryz.func265, by kernel_rfl, rfl, by kernel_rfl, by kernel_rfl, rfl⟩
def g266 : GFun := ⟨⟨9,[]⟩,(s [b 2 false] (s [m 3 0,x 4 (.bin .geq (.t 3) (.k (.val (.int .u8 97)))),m 5 4,y 6 5 (.mov (.t 0)),y 7 5 (.bin .leq (.t 6) (.k (.val (.int .u8 122)))),x 8 (.pick (.t 5) (.t 7) (.k (.val (.bool false)))),
 m 2 8] .ret)),[.t 2]⟩
theorem i266 : IsFun Tryz.prog 266 g266 := ⟨Tryz.f266, _, [], Tryz.func266, by kernel_rfl, rfl, by kernel_rfl, by kernel_rfl, rfl⟩
def g267 : GFun := ⟨⟨9,[]⟩,(s [b 2 false] (s [m 3 0,x 4 (.bin .geq (.t 3) (.k (.val (.int .u8 48)))),m 5 4,y 6 5 (.mov (.t 0)),y 7 5 (.bin .leq (.t 6) (.k (.val (.int .u8 57)))),x 8 (.pick (.t 5) (.t 7) (.k (.val (.bool false)))),
 m 2 8] .ret)),[.t 2]⟩
theorem i267 : IsFun Tryz.prog 267 g267 := ⟨Tryz.f267, _, [], Tryz.func267, by kernel_rfl, rfl, by kernel_rfl, by kernel_rfl, rfl⟩
def g268 : GFun := ⟨⟨18,[]⟩,(s [b 2 false] (.seq (s [m 3 0] (.block 0 (.seq (s [x 5 (.bin .eql (.t 3) (.k (.val (.string (ByteArray.mk #[105,102]))))),m 4 5] (.cond 4 .skip (s [x 6 (.bin .eql (.t 3) (.k (.val (.string (ByteArray.mk #[116,
 104,101,110]))))),m 4 6] (.cond 4 .skip (s [x 7 (.bin .eql (.t 3) (.k (.val (.string (ByteArray.mk #[101,108,115,101]))))),m 4 7] (.cond 4 .skip (s [x 8 (.bin .eql (.t 3) (.k (.val (.string (ByteArray.mk #[116,114,117,101]))))),m 4 8]
 (.cond 4 .skip (s [x 9 (.bin .eql (.t 3) (.k (.val (.string (ByteArray.mk #[102,97,108,115,101]))))),m 4 9] (.cond 4 .skip (s [x 10 (.bin .eql (.t 3) (.k (.val (.string (ByteArray.mk #[108,105,116]))))),m 4 10] (.cond 4 .skip (s [x 11
 (.bin .eql (.t 3) (.k (.val (.string (ByteArray.mk #[110,111,110,101]))))),m 4 11] (.cond 4 .skip (s [x 12 (.bin .eql (.t 3) (.k (.val (.string (ByteArray.mk #[115,101,108,102]))))),m 4 12] (.cond 4 .skip (s [x 13 (.bin .eql (.t 3) (.k
 (.val (.string (ByteArray.mk #[111,102]))))),m 4 13] (.cond 4 .skip (s [x 14 (.bin .eql (.t 3) (.k (.val (.string (ByteArray.mk #[109,97,120]))))),m 4 14] (.cond 4 .skip (s [x 15 (.bin .eql (.t 3) (.k (.val (.string (ByteArray.mk #[109,
 105,110]))))),m 4 15] (.cond 4 .skip (s [x 16 (.bin .eql (.t 3) (.k (.val (.string (ByteArray.mk #[119,105,116,104]))))),m 4 16] (.cond 4 .skip (.reg [x 17 (.bin .eql (.t 3) (.k (.val (.string (ByteArray.mk #[104,97,115]))))),
 m 4 17]))))))))))))))))))))))))) (.cond 4 (s [b 2 true] .ret) .skip)))) (s [b 2 false] .ret))),[.t 2]⟩
theorem i268 : IsFun Tryz.prog 268 g268 := ⟨Tryz.f268, _, [], Tryz.func268, by kernel_rfl, rfl, by kernel_rfl, by kernel_rfl, rfl⟩
def g269 : GFun := ⟨⟨8,[2]⟩,(s [a 2 7 0,b 3 false] (s [f 4 2 2,l 5 4,l 6 1,o 7 .leq 5 6,m 3 7] .ret)),[.t 3]⟩
theorem i269 : IsFun Tryz.prog 269 g269 := ⟨Tryz.f269, _, [], Tryz.func269, by kernel_rfl, rfl, by kernel_rfl, by kernel_rfl, rfl⟩
def g270 : GFun := ⟨⟨24,[]⟩,(s [k 4 0] (.seq (s [m 5 1] (.block 0 (s [q 7 .eql 5 1,m 6 7] (.cond 6 (s [m 8 0,c 9 272 [.t 8],m 4 9] .ret) (s [q 11 .eql 5 2,m 10 11] (.cond 10 (s [m 12 0,q 13 .and 12 4095,m 4 13] .ret) (s [q 15 .eql 5 3,
 m 14 15] (.cond 14 (s [m 16 0,q 17 .neq 16 0,c 18 274 [.t 17],m 4 18] .ret) (s [q 20 .eql 5 4,m 19 20] (.cond 19 (s [m 21 0,c 22 85 [.t 21,(.k (.val (.int .i64 0))),(.k (.val (.int .i64 999)))]] (.cond 22 (s [m 23 0,
 m 4 23] .ret) .skip)) .skip)))))))))) (s [k 4 0] .ret))),[.t 4]⟩
theorem i270 : IsFun Tryz.prog 270 g270 := ⟨Tryz.f270, _, [], Tryz.func270, by kernel_rfl, rfl, by kernel_rfl, by kernel_rfl, rfl⟩
def g271 : GFun := ⟨⟨61,[1]⟩,(s [a 1 7 0,b 2 false] (.seq (s [f 3 0 1,l 4 3,c 5 85 [.t 4,(.k (.val (.int .i64 1))),(.k (.val (.int .i64 8)))],w 6 5,m 7 6,z 8 7 (.load 7 true (.t 1)),z 9 7 (.call false 296 [.t 8]),z 10 7 (.not (.t 9)),x 11
 (.pick (.t 7) (.k (.val (.bool true))) (.t 10))] (.cond 11 (s [b 2 false] .ret) .skip)) (.seq (s [f 12 0 1,l 13 12] (.block 0 (s [q 15 .eql 13 1,m 14 15] (.cond 14 (s [f 16 3 1,l 17 16,c 18 85 [.t 17,(.k (.val (.int .i64 1))),(.k (.val
 (.int .i64 3)))],m 19 18,y 20 19 (.faddr 1 1 false (.t 1)),y 21 19 (.load 1 false (.t 20)),y 22 19 (.faddr 3 1 false (.t 1)),y 23 19 (.load 1 false (.t 22)),y 24 19 (.call false 230 [.t 21,.t 23]),x 25 (.pick (.t 19) (.t 24) (.k (.val
 (.bool false)))),m 26 25,y 27 26 (.faddr 1 1 false (.t 1)),y 28 26 (.load 1 false (.t 27)),y 29 26 (.bin .geq (.t 28) (.k (.val (.int .i64 0)))),x 30 (.pick (.t 26) (.t 29) (.k (.val (.bool false)))),m 2 30] .ret) (s [q 32 .eql 13 3,
 m 31 32] (.cond 31 (s [f 33 2 1,l 34 33,c 35 85 [.t 34,(.k (.val (.int .i64 0))),(.k (.val (.int .i64 3)))],m 36 35,y 37 36 (.faddr 5 1 false (.t 1)),y 38 36 (.load 1 false (.t 37)),y 39 36 (.call false 214 [.t 38]),x 40 (.pick (.t 36)
 (.t 39) (.k (.val (.bool false)))),m 2 40] .ret) (s [q 42 .eql 13 6,m 41 42] (.cond 41 (s [f 43 2 1,l 44 43,c 45 85 [.t 44,(.k (.val (.int .i64 0))),(.k (.val (.int .i64 3)))],m 2 45] .ret) (s [q 47 .eql 13 4,m 46 47] (.cond 46
 (s [f 48 1 1,l 49 48,c 50 85 [.t 49,(.k (.val (.int .i64 1))),(.k (.val (.int .i64 12)))],m 2 50] .ret) (s [q 52 .eql 13 8,m 51 52] (.cond 51 (s [f 53 4 1,l 54 53,c 55 214 [.t 54],m 56 55,y 57 56 (.faddr 5 1 false (.t 1)),y 58 56
 (.load 1 false (.t 57)),y 59 56 (.call false 214 [.t 58]),x 60 (.pick (.t 56) (.t 59) (.k (.val (.bool false)))),m 2 60] .ret) .skip)))))))))))) (s [b 2 true] .ret)))),[.t 2]⟩
theorem i271 : IsFun Tryz.prog 271 g271 := ⟨Tryz.f271, _, [], Tryz.func271, by kernel_rfl, rfl, by kernel_rfl, by kernel_rfl, rfl⟩
def g272 : GFun := ⟨⟨6,[]⟩,(s [k 2 0] (s [m 3 0,c 4 273 [(.k (.val (.int .i64 1000000))),.t 3],c 5 66 [(.k (.val (.int .i64 (-1000000)))),.t 4],m 2 5] .ret)),[.t 2]⟩
theorem i272 : IsFun Tryz.prog 272 g272 := ⟨Tryz.f272, _, [], Tryz.func272, by kernel_rfl, rfl, by kernel_rfl, by kernel_rfl, rfl⟩
def g273 : GFun := ⟨⟨10,[]⟩,(s [k 4 0] (.seq (s [m 5 0,m 6 1,o 7 .lss 5 6] (.cond 7 (s [m 8 0,m 4 8] .ret) .skip)) (s [m 9 1,m 4 9] .ret))),[.t 4]⟩
theorem i273 : IsFun Tryz.prog 273 g273 := ⟨Tryz.f273, _, [], Tryz.func273, by kernel_rfl, rfl, by kernel_rfl, by kernel_rfl, rfl⟩
def g274 : GFun := ⟨⟨4,[]⟩,(s [k 2 0] (.seq (s [m 3 0] (.cond 3 (s [k 2 1] .ret) .skip)) (s [k 2 0] .ret))),[.t 2]⟩
theorem i274 : IsFun Tryz.prog 274 g274 := ⟨Tryz.f274, _, [], Tryz.func274, by kernel_rfl, rfl, by kernel_rfl, by kernel_rfl, rfl⟩
def g275 : GFun := ⟨⟨19,[1,5]⟩,(s [a 1 7 0,k 2 0] (s [k 3 1] (.seq (s [f 6 6 1,l 7 6,n 8 7,k 9 0] (.block 0 (.loop (s [o 10 .lss 9 8] (.seq (.cond 10 .skip (.exit 0)) (.seq (.block 1 (s [i 11 7 7 9,h 12 7 11,x 5 (.allocr 7),x 5 (.stro 7 5
 (.t 12))] (.reg [m 13 3,h 14 7 5,c 15 275 [.t 14],o 16 .add 13 15,m 3 16]))) (.reg [q 17 .add 9 1,m 9 17]))))))) (s [m 18 3,m 2 18] .ret)))),[.t 2]⟩
theorem i275 : IsFun Tryz.prog 275 g275 := ⟨Tryz.f275, _, [], Tryz.func275, by kernel_rfl, rfl, by kernel_rfl, by kernel_rfl, rfl⟩
def g276 : GFun := ⟨⟨20,[1,5]⟩,(s [a 1 7 0,k 2 0] (s [k 3 0] (.seq (s [f 6 6 1,l 7 6,n 8 7,k 9 0] (.block 0 (.loop (s [o 10 .lss 9 8] (.seq (.cond 10 .skip (.exit 0)) (.seq (.block 1 (s [i 11 7 7 9,h 12 7 11,x 5 (.allocr 7),x 5 (.stro 7 5
 (.t 12))] (.reg [m 13 3,h 14 7 5,c 15 276 [.t 14],x 16 (.mx (.t 13) (.t 15)),m 3 16]))) (.reg [q 17 .add 9 1,m 9 17]))))))) (s [m 18 3,q 19 .add 18 1,m 2 19] .ret)))),[.t 2]⟩
theorem i276 : IsFun Tryz.prog 276 g276 := ⟨Tryz.f276, _, [], Tryz.func276, by kernel_rfl, rfl, by kernel_rfl, by kernel_rfl, rfl⟩
def g277 : GFun := ⟨⟨100,[1]⟩,(s [a 1 7 0,b 2 false] (s [f 5 0 1,l 6 5,f 7 6 1,l 8 7,x 9 (.build [(.val (.int .i64 0)),(.val (.int .i64 0)),(.val (.int .i64 0)),(.val (.int .i64 0)),(.val (.string (ByteArray.mk #[]))),(.val (.string
 (ByteArray.mk #[]))),(.val (.slice none 0 0))] [(0,(1,(.t 6))),(6,(1,(.t 8)))]),x 3 (.alloc 7 (.agg [(.val (.int .i64 0)),(.val (.int .i64 0)),(.val (.int .i64 0)),(.val (.int .i64 0)),(.val (.string (ByteArray.mk #[]))),(.val (.string
 (ByteArray.mk #[]))),(.val (.slice none 0 0))])),(.mk none none (.store 7 (.t 3) (.t 9)))] (s [k 4 0] (.seq (s [f 10 0 1,l 11 10] (.block 0 (s [q 13 .eql 11 1,m 12 13] (.cond 12 (s [f 14 1 1,x 15 (.loadr 1 false (.t 14)),f 16 3 1,x 17
 (.loadr 1 false (.t 16)),f 18 1 3,(.mk none none (.store 1 (.t 18) (.t 15))),f 19 3 3,(.mk none none (.store 1 (.t 19) (.t 17)))] (s [f 20 3 1,l 21 20,q 22 .eql 21 4,m 23 22,z 24 23 (.faddr 1 1 false (.t 1)),z 25 23 (.load 1 false
 (.t 24)),z 26 23 (.faddr 3 1 false (.t 1)),z 27 23 (.load 1 false (.t 26)),z 28 23 (.call false 297 [.t 25,.t 27]),z 29 23 (.not (.t 28)),x 30 (.pick (.t 23) (.k (.val (.bool true))) (.t 29)),m 31 30,z 32 31 (.faddr 1 1 false (.t 1)),
 z 33 31 (.load 1 false (.t 32)),z 34 31 (.bin .lss (.t 33) (.k (.val (.int .i64 0)))),x 35 (.pick (.t 31) (.k (.val (.bool true))) (.t 34))] (.cond 35 (s [b 2 false] .ret) .skip))) (s [q 37 .eql 11 3,m 36 37] (.cond 36 (s [f 38 2 1,x 39
 (.loadr 1 false (.t 38)),f 40 5 1,x 41 (.loadr 1 false (.t 40)),f 42 2 3,(.mk none none (.store 1 (.t 42) (.t 39))),f 43 5 3,(.mk none none (.store 1 (.t 43) (.t 41)))] (s [f 44 5 1,l 45 44,c 46 224 [.t 45],w 47 46] (.cond 47
 (s [b 2 false] .ret) .skip))) (s [q 49 .eql 11 4,m 48 49] (.cond 48 (s [f 50 1 1,l 51 50,f 52 1 3,(.mk none none (.store 1 (.t 52) (.t 51))),k 4 2] (s [f 53 1 1,l 54 53,c 55 73 [.t 54,(.k (.val (.int .i64 1))),(.k (.val (.int .i64 12)))],
 w 56 55] (.cond 56 (s [b 2 false] .ret) .skip))) (s [q 58 .eql 11 5,m 57 58] (.cond 57 (.reg [k 4 3]) (s [q 60 .eql 11 6,m 59 60] (.cond 59 (.reg [f 61 2 1,l 62 61,f 63 2 3,(.mk none none (.store 1 (.t 63) (.t 62)))]) (s [q 65 .eql 11 8,
 m 64 65] (.cond 64 (s [f 66 4 1,x 67 (.loadr 1 false (.t 66)),f 68 5 1,x 69 (.loadr 1 false (.t 68)),f 70 4 3,(.mk none none (.store 1 (.t 70) (.t 67))),f 71 5 3,(.mk none none (.store 1 (.t 71) (.t 69))),k 4 1] (s [f 72 4 1,l 73 72,
 c 74 224 [.t 73],w 75 74,m 76 75,z 77 76 (.faddr 5 1 false (.t 1)),z 78 76 (.load 1 false (.t 77)),z 79 76 (.call false 224 [.t 78]),z 80 76 (.not (.t 79)),x 81 (.pick (.t 76) (.k (.val (.bool true))) (.t 80))] (.cond 81
 (s [b 2 false] .ret) .skip))) (.seq (s [q 83 .eql 11 2,m 82 83] (.cond 82 .skip (.reg [q 84 .eql 11 7,m 82 84]))) (.cond 82 .skip (s [b 2 false] .ret))))))))))))))))) (s [f 85 6 1,l 86 85,n 87 86,m 88 4,o 89 .eql 87 88,m 90 89,y 91 90
 (.faddr 2 1 false (.t 1)),y 92 90 (.load 1 false (.t 91)),y 93 90 (.call false 73 [.t 92,(.k (.val (.int .i64 0))),(.k (.val (.int .i64 3)))]),x 94 (.pick (.t 90) (.t 93) (.k (.val (.bool false)))),m 95 94,y 96 95 (.load 7 true (.t 1)),
 y 97 95 (.load 7 true (.t 3)),y 98 95 (.call false 298 [.t 96,.t 97]),x 99 (.pick (.t 95) (.t 98) (.k (.val (.bool false)))),m 2 99] .ret))))),[.t 2]⟩
theorem i277 : IsFun Tryz.prog 277 g277 := ⟨Tryz.f277, _, [], Tryz.func277, by kernel_rfl, rfl, by kernel_rfl, by kernel_rfl, rfl⟩
def g279 : GFun := ⟨⟨27,[]⟩,(s [k 4 0] (s [m 6 1,m 7 0,n 8 7,o 9 .sub 6 8,m 1 9] (.seq (s [m 10 1,q 11 .lss 10 0] (.cond 11 (s [k 4 (-1)] .ret) .skip)) (.seq (s [k 5 0] (.block 0 (.loop (.seq (s [m 12 5,m 13 0,n 14 13,o 15 .lss 12 14]
 (.cond 15 .skip (.exit 0))) (.seq (.block 1 (s [m 18 0,m 19 5,i 20 7 18 19,h 21 7 20,m 22 1,c 23 244 [.t 21,.t 22],m 1 23] (s [m 24 1,q 25 .lss 24 0] (.cond 25 (s [k 4 (-1)] .ret) .skip)))) (.reg [m 16 5,q 17 .add 16 1,m 5 17]))))))
 (s [m 26 1,m 4 26] .ret))))),[.t 4]⟩
theorem i279 : IsFun Tryz.prog 279 g279 := ⟨Tryz.f279, _, [], Tryz.func279, by kernel_rfl, rfl, by kernel_rfl, by kernel_rfl, rfl⟩
def g280 : GFun := ⟨⟨24,[2,3]⟩,(s [a 2 2 0,a 3 2 1,b 4 false] (s [f 5 0 2,l 6 5,f 7 0 3,l 8 7,o 9 .lss 6 8,m 10 9,z 11 10 (.faddr 0 1 false (.t 2)),z 12 10 (.load 1 false (.t 11)),z 13 10 (.faddr 0 1 false (.t 3)),z 14 10 (.load 1 false
 (.t 13)),z 15 10 (.bin .eql (.t 12) (.t 14)),z 16 10 (.mov (.t 15)),y 17 16 (.faddr 1 1 false (.t 2)),y 18 16 (.load 1 false (.t 17)),y 19 16 (.faddr 1 1 false (.t 3)),y 20 16 (.load 1 false (.t 19)),y 21 16 (.bin .lss (.t 18) (.t 20)),
 z 22 10 (.pick (.t 16) (.t 21) (.k (.val (.bool false)))),x 23 (.pick (.t 10) (.k (.val (.bool true))) (.t 22)),m 4 23] .ret)),[.t 4]⟩
theorem i280 : IsFun Tryz.prog 280 g280 := ⟨Tryz.f280, _, [], Tryz.func280, by kernel_rfl, rfl, by kernel_rfl, by kernel_rfl, rfl⟩
def g281 : GFun := ⟨⟨23,[]⟩,(s [x 2 (.mov (.k (.val (.slice none 0 0))))] (s [m 5 0,n 6 5,x 7 (.mkslice 7 88 (.agg [(.val (.int .i64 0)),(.val (.int .i64 0)),(.val (.int .i64 0)),(.val (.int .i64 0)),(.val (.string (ByteArray.mk #[]))),
 (.val (.string (ByteArray.mk #[]))),(.val (.slice none 0 0))]) (.t 6) (.t 6)),m 3 7] (.seq (s [k 4 0] (.block 0 (.loop (.seq (s [m 8 4,m 9 0,n 10 9,o 11 .lss 8 10] (.cond 11 .skip (.exit 0))) (.seq (.block 1 (.reg [m 14 3,m 15 4,m 16 0,
 m 17 4,i 18 7 16 17,h 19 7 18,c 20 247 [.t 19],i 21 7 14 15,(.mk none none (.store 7 (.t 21) (.t 20)))])) (.reg [m 12 4,q 13 .add 12 1,m 4 13])))))) (s [m 22 3,m 2 22] .ret)))),[.t 2]⟩
theorem i281 : IsFun Tryz.prog 281 g281 := ⟨Tryz.f281, _, [], Tryz.func281, by kernel_rfl, rfl, by kernel_rfl, by kernel_rfl, rfl⟩
def g294 : GFun := ⟨⟨27,[]⟩,(s [b 4 false] (.seq (s [m 6 0,n 7 6,m 8 1,n 9 8,o 10 .neq 7 9] (.cond 10 (s [b 4 false] .ret) .skip)) (.seq (s [k 5 0] (.block 0 (.loop (.seq (s [m 11 5,m 12 0,n 13 12,o 14 .lss 11 13] (.cond 14 .skip
 (.exit 0))) (.seq (.block 1 (s [m 17 0,m 18 5,i 19 7 17 18,m 21 1,m 22 5,i 23 7 21 22,h 20 7 19,h 24 7 23,x 25 (.call true 260 [.t 20,.t 24]),w 26 25] (.cond 26 (s [b 4 false] .ret) .skip))) (.reg [m 15 5,q 16 .add 15 1,m 5 16]))))))
 (s [b 4 true] .ret)))),[.t 4]⟩
theorem i294 : IsFun Tryz.prog 294 g294 := ⟨Tryz.f294, _, [], Tryz.func294, by kernel_rfl, rfl, by kernel_rfl, by kernel_rfl, rfl⟩
def g295 : GFun := ⟨⟨2,[]⟩,(s [x 0 (.mov (.k (.val (.slice none 0 0))))] (s [x 1 (.bslice 1 [] 13 false [(0,(.k (.val (.string (ByteArray.mk #[105,102]))))),(1,(.k (.val (.string (ByteArray.mk #[116,104,101,110]))))),(2,(.k (.val (.string
 (ByteArray.mk #[101,108,115,101]))))),(3,(.k (.val (.string (ByteArray.mk #[116,114,117,101]))))),(4,(.k (.val (.string (ByteArray.mk #[102,97,108,115,101]))))),(5,(.k (.val (.string (ByteArray.mk #[108,105,116]))))),(6,(.k (.val
 (.string (ByteArray.mk #[110,111,110,101]))))),(7,(.k (.val (.string (ByteArray.mk #[115,101,108,102]))))),(8,(.k (.val (.string (ByteArray.mk #[111,102]))))),(9,(.k (.val (.string (ByteArray.mk #[109,97,120]))))),(10,(.k (.val (.string
 (ByteArray.mk #[109,105,110]))))),(11,(.k (.val (.string (ByteArray.mk #[119,105,116,104]))))),(12,(.k (.val (.string (ByteArray.mk #[104,97,115])))))]),m 0 1] .ret)),[.t 0]⟩
theorem i295 : IsFun Tryz.prog 295 g295 := ⟨Tryz.f295, _, [], Tryz.func295, by kernel_rfl, rfl, by kernel_rfl, by kernel_rfl, rfl⟩
def g296 : GFun := ⟨⟨86,[1]⟩,(s [a 1 7 0,b 2 false] (s [k 3 0] (.seq (s [f 7 0 1,l 8 7] (.block 0 (s [q 10 .eql 8 4,m 9 10] (.cond 9 (.reg [k 3 2]) (s [q 12 .eql 8 5,m 11 12] (.cond 11 (.reg [k 3 3]) (s [q 14 .eql 8 8,m 13 14] (.cond 13
 (.reg [k 3 1]) .skip)))))))) (.seq (s [f 15 6 1,l 16 15,n 17 16,m 18 3,o 19 .neq 17 18] (.cond 19 (s [b 2 false] .ret) .skip)) (s [f 20 0 1,l 21 20,q 22 .eql 21 3,m 23 22,z 24 23 (.faddr 0 1 false (.t 1)),z 25 23 (.load 1 false (.t 24)),
 z 26 23 (.bin .eql (.t 25) (.k (.val (.int .i64 6)))),x 27 (.pick (.t 23) (.k (.val (.bool true))) (.t 26)),m 4 27] (s [f 28 0 1,l 29 28,q 30 .eql 29 3,m 31 30,z 32 31 (.faddr 0 1 false (.t 1)),z 33 31 (.load 1 false (.t 32)),z 34 31
 (.bin .eql (.t 33) (.k (.val (.int .i64 8)))),x 35 (.pick (.t 31) (.k (.val (.bool true))) (.t 34)),m 5 35] (s [f 36 0 1,l 37 36,q 38 .eql 37 1,m 39 38,z 40 39 (.faddr 0 1 false (.t 1)),z 41 39 (.load 1 false (.t 40)),z 42 39 (.bin .eql
 (.t 41) (.k (.val (.int .i64 4)))),x 43 (.pick (.t 39) (.k (.val (.bool true))) (.t 42)),m 6 43] (s [m 44 4,m 45 44,z 46 45 (.faddr 2 1 false (.t 1)),z 47 45 (.load 1 false (.t 46)),z 48 45 (.bin .eql (.t 47) (.k (.val (.int .i64 0)))),
 x 49 (.pick (.t 45) (.k (.val (.bool true))) (.t 48)),m 50 49,y 51 50 (.mov (.t 5)),y 52 50 (.mov (.t 51)),z 53 52 (.faddr 5 1 false (.t 1)),z 54 52 (.load 1 false (.t 53)),z 55 52 (.bin .eql (.t 54) (.k (.val (.string
 (ByteArray.mk #[]))))),y 56 50 (.pick (.t 52) (.k (.val (.bool true))) (.t 55)),x 57 (.pick (.t 50) (.t 56) (.k (.val (.bool false)))),m 58 57,y 59 58 (.mov (.t 6)),y 60 58 (.mov (.t 59)),z 61 60 (.faddr 1 1 false (.t 1)),z 62 60
 (.load 1 false (.t 61)),z 63 60 (.bin .eql (.t 62) (.k (.val (.int .i64 0)))),y 64 58 (.pick (.t 60) (.k (.val (.bool true))) (.t 63)),x 65 (.pick (.t 58) (.t 64) (.k (.val (.bool false)))),m 66 65,y 67 66 (.faddr 0 1 false (.t 1)),
 y 68 66 (.load 1 false (.t 67)),y 69 66 (.bin .eql (.t 68) (.k (.val (.int .i64 1)))),y 70 66 (.mov (.t 69)),z 71 70 (.faddr 3 1 false (.t 1)),z 72 70 (.load 1 false (.t 71)),z 73 70 (.bin .eql (.t 72) (.k (.val (.int .i64 0)))),y 74 66
 (.pick (.t 70) (.k (.val (.bool true))) (.t 73)),x 75 (.pick (.t 66) (.t 74) (.k (.val (.bool false)))),m 76 75,y 77 76 (.faddr 0 1 false (.t 1)),y 78 76 (.load 1 false (.t 77)),y 79 76 (.bin .eql (.t 78) (.k (.val (.int .i64 8)))),
 y 80 76 (.mov (.t 79)),z 81 80 (.faddr 4 1 false (.t 1)),z 82 80 (.load 1 false (.t 81)),z 83 80 (.bin .eql (.t 82) (.k (.val (.string (ByteArray.mk #[]))))),y 84 76 (.pick (.t 80) (.k (.val (.bool true))) (.t 83)),x 85 (.pick (.t 76)
 (.t 84) (.k (.val (.bool false)))),m 2 85] .ret)))))))),[.t 2]⟩
theorem i296 : IsFun Tryz.prog 296 g296 := ⟨Tryz.f296, _, [], Tryz.func296, by kernel_rfl, rfl, by kernel_rfl, by kernel_rfl, rfl⟩
def g297 : GFun := ⟨⟨14,[]⟩,(s [b 4 false] (s [m 5 1,c 6 265 [.t 5],m 7 6,y 8 7 (.mov (.t 0)),y 9 7 (.mov (.t 1)),y 10 7 (.call false 299 [.t 8,.t 9]),y 11 7 (.mov (.t 0)),y 12 7 (.bin .eql (.t 10) (.t 11)),x 13 (.pick (.t 7) (.t 12) (.k
 (.val (.bool false)))),m 4 13] .ret)),[.t 4]⟩
theorem i297 : IsFun Tryz.prog 297 g297 := ⟨Tryz.f297, _, [], Tryz.func297, by kernel_rfl, rfl, by kernel_rfl, by kernel_rfl, rfl⟩
def g298 : GFun := ⟨⟨45,[2,3]⟩,(s [a 2 7 0,a 3 7 1,b 4 false] (s [f 5 0 2,l 6 5,f 7 0 3,l 8 7,o 9 .eql 6 8,m 10 9,y 11 10 (.faddr 1 1 false (.t 2)),y 12 10 (.load 1 false (.t 11)),y 13 10 (.faddr 1 1 false (.t 3)),y 14 10 (.load 1 false
 (.t 13)),y 15 10 (.bin .eql (.t 12) (.t 14)),x 16 (.pick (.t 10) (.t 15) (.k (.val (.bool false)))),m 17 16,y 18 17 (.faddr 2 1 false (.t 2)),y 19 17 (.load 1 false (.t 18)),y 20 17 (.faddr 2 1 false (.t 3)),y 21 17 (.load 1 false
 (.t 20)),y 22 17 (.bin .eql (.t 19) (.t 21)),x 23 (.pick (.t 17) (.t 22) (.k (.val (.bool false)))),m 24 23,y 25 24 (.faddr 3 1 false (.t 2)),y 26 24 (.load 1 false (.t 25)),y 27 24 (.faddr 3 1 false (.t 3)),y 28 24 (.load 1 false
 (.t 27)),y 29 24 (.bin .eql (.t 26) (.t 28)),x 30 (.pick (.t 24) (.t 29) (.k (.val (.bool false)))),m 31 30,y 32 31 (.faddr 4 1 false (.t 2)),y 33 31 (.load 1 false (.t 32)),y 34 31 (.faddr 4 1 false (.t 3)),y 35 31 (.load 1 false
 (.t 34)),y 36 31 (.bin .eql (.t 33) (.t 35)),x 37 (.pick (.t 31) (.t 36) (.k (.val (.bool false)))),m 38 37,y 39 38 (.faddr 5 1 false (.t 2)),y 40 38 (.load 1 false (.t 39)),y 41 38 (.faddr 5 1 false (.t 3)),y 42 38 (.load 1 false
 (.t 41)),y 43 38 (.bin .eql (.t 40) (.t 42)),x 44 (.pick (.t 38) (.t 43) (.k (.val (.bool false)))),m 4 44] .ret)),[.t 4]⟩
theorem i298 : IsFun Tryz.prog 298 g298 := ⟨Tryz.f298, _, [], Tryz.func298, by kernel_rfl, rfl, by kernel_rfl, by kernel_rfl, rfl⟩
def g299 : GFun := ⟨⟨29,[]⟩,(s [k 4 0] (.seq (.block 0 (s [m 6 1,q 7 .eql 6 1,m 5 7] (.cond 5 (s [m 8 0,c 9 300 [.t 8],m 4 9] .ret) (s [m 11 1,q 12 .eql 11 2,m 10 12] (.cond 10 (s [m 13 0,q 14 .and 13 4095,m 4 14] .ret) (s [m 16 1,
 q 17 .eql 16 3,m 15 17] (.cond 15 (s [m 18 0,q 19 .neq 18 0,c 20 301 [.t 19],m 4 20] .ret) (s [m 22 1,q 23 .eql 22 4,m 24 23,y 25 24 (.mov (.t 0)),y 26 24 (.call false 73 [.t 25,(.k (.val (.int .i64 0))),(.k (.val (.int .i64 999)))]),
 x 27 (.pick (.t 24) (.t 26) (.k (.val (.bool false)))),m 21 27] (.cond 21 (s [m 28 0,m 4 28] .ret) .skip))))))))) (s [k 4 0] .ret))),[.t 4]⟩
theorem i299 : IsFun Tryz.prog 299 g299 := ⟨Tryz.f299, _, [], Tryz.func299, by kernel_rfl, rfl, by kernel_rfl, by kernel_rfl, rfl⟩
def g300 : GFun := ⟨⟨6,[]⟩,(s [k 2 0] (s [m 3 0,x 4 (.mn (.t 3) (.k (.val (.int .i64 1000000)))),x 5 (.mx (.t 4) (.k (.val (.int .i64 (-1000000))))),m 2 5] .ret)),[.t 2]⟩
theorem i300 : IsFun Tryz.prog 300 g300 := ⟨Tryz.f300, _, [], Tryz.func300, by kernel_rfl, rfl, by kernel_rfl, by kernel_rfl, rfl⟩
def g301 : GFun := ⟨⟨4,[]⟩,(s [k 2 0] (.seq (s [m 3 0] (.cond 3 (s [k 2 1] .ret) .skip)) (s [k 2 0] .ret))),[.t 2]⟩
theorem i301 : IsFun Tryz.prog 301 g301 := ⟨Tryz.f301, _, [], Tryz.func301, by kernel_rfl, rfl, by kernel_rfl, by kernel_rfl, rfl⟩
end Go.Proofs.YtbdmpkidcpblaaaGreat

namespace Go.Proofs.YtbdmpkidcpblaaaGreat
open Go.Gh
set_option maxRecDepth 20000
set_option linter.unusedSimpArgs false
set_option linter.unusedVariables false
theorem mxd : Tryz.prog.follows .mixedOrders = true := Checked.mixed Tryz.checked
end Go.Proofs.YtbdmpkidcpblaaaGreat

namespace Go.Proofs.YtbdmpkidcpblaaaGreat
open Go.Gh
set_option maxRecDepth 20000
set_option linter.unusedSimpArgs false
set_option linter.unusedVariables false
theorem w85 (x lo hi : Int) : Pure Tryz.prog 85 [I x, I lo, I hi] (· = B (decide (lo ≤ x ∧ x ≤ hi))) := by
  refine gstart mxd i85 rfl (by simp) ?_; simp (maxSteps := 2000000) only [↓ S2, S2, vIte, ↓reduceIte, Int.reduceNe, Nat.reduceEqDiff, reduceCtorEq, Nat.reduceLeDiff, Nat.reduceAdd, Nat.reduceLT]
  ((try with_reducible refine mkQI ?_); (repeat ((first | (with_reducible refine mkQU ?_) | simp only [brGen]); try simp (maxSteps := 2000000) only [↓ S2, S2, vIte, ↓reduceIte, Int.reduceNe, Nat.reduceEqDiff, reduceCtorEq, Nat.reduceLeDiff, Nat.reduceAdd, Nat.reduceLT])); (try simp +contextual (disch := omega) only [Z2]); (repeat' (first | (with_reducible intro h) | (with_reducible refine And.intro (by omega) ?_) | (with_reducible refine exP (by omega) ?_) | (with_reducible apply And.intro)))) <;> simp [*]
theorem w73 (x lo hi : Int) : Pure Tryz.prog 73 [I x, I lo, I hi] (· = B (decide (lo ≤ x ∧ x ≤ hi))) := by
  refine gstart mxd i73 rfl (by simp) ?_; simp (maxSteps := 2000000) only [↓ S2, S2, vIte, ↓reduceIte, Int.reduceNe, Nat.reduceEqDiff, reduceCtorEq, Nat.reduceLeDiff, Nat.reduceAdd, Nat.reduceLT]
  ((try with_reducible refine mkQI ?_); (repeat ((first | (with_reducible refine mkQU ?_) | simp only [brGen]); try simp (maxSteps := 2000000) only [↓ S2, S2, vIte, ↓reduceIte, Int.reduceNe, Nat.reduceEqDiff, reduceCtorEq, Nat.reduceLeDiff, Nat.reduceAdd, Nat.reduceLT])); (try simp +contextual (disch := omega) only [Z2]); (repeat' (first | (with_reducible intro h) | (with_reducible refine And.intro (by omega) ?_) | (with_reducible refine exP (by omega) ?_) | (with_reducible apply And.intro)))) <;> simp [*]
end Go.Proofs.YtbdmpkidcpblaaaGreat

namespace Go.Proofs.YtbdmpkidcpblaaaGreat
open Go.Gh
set_option maxRecDepth 20000
set_option linter.unusedSimpArgs false
set_option linter.unusedVariables false
theorem w243 (x : Int × ByteArray) (left : Int) (h0 : 0 ≤ left) (h1 : left ≤ 1048576) (hx : x.2.size ≤ maxLen) : Pure Tryz.prog 243 [Occ x, I left] (· = I (szv left (wOcc x))) := by
  simp only [maxLen, size_chars] at hx
  refine gstart mxd i243 rfl (by simp) ?_; simp (maxSteps := 2000000) only [↓ S2, S2, vIte, ↓reduceIte, Int.reduceNe, Nat.reduceEqDiff, reduceCtorEq, Nat.reduceLeDiff, Nat.reduceAdd, Nat.reduceLT]
  ((try with_reducible refine mkQI ?_); (repeat ((first | (with_reducible refine mkQU ?_) | simp only [brGen]); try simp (maxSteps := 2000000) only [↓ S2, S2, vIte, ↓reduceIte, Int.reduceNe, Nat.reduceEqDiff, reduceCtorEq, Nat.reduceLeDiff, Nat.reduceAdd, Nat.reduceLT])); (try simp +contextual (disch := omega) only [Z2]); (repeat' (first | (with_reducible intro h) | (with_reducible refine And.intro (by omega) ?_) | (with_reducible refine exP (by omega) ?_) | (with_reducible apply And.intro)))) <;> (congr 2; simp only [szv, wOcc]; omega)
theorem w246 (x : Int × ByteArray) : Pure Tryz.prog 246 [Occ x] (· = Occ x) := by
  refine gstart mxd i246 rfl (by simp) ?_; simp (maxSteps := 2000000) only [↓ S2, S2, vIte, ↓reduceIte, Int.reduceNe, Nat.reduceEqDiff, reduceCtorEq, Nat.reduceLeDiff, Nat.reduceAdd, Nat.reduceLT]
  ((try with_reducible refine mkQI ?_); (repeat ((first | (with_reducible refine mkQU ?_) | simp only [brGen]); try simp (maxSteps := 2000000) only [↓ S2, S2, vIte, ↓reduceIte, Int.reduceNe, Nat.reduceEqDiff, reduceCtorEq, Nat.reduceLeDiff, Nat.reduceAdd, Nat.reduceLT])); (try simp +contextual (disch := omega) only [Z2]); (repeat' (first | (with_reducible intro h) | (with_reducible refine And.intro (by omega) ?_) | (with_reducible refine exP (by omega) ?_) | (with_reducible apply And.intro))))
theorem w259 (x y : Int × ByteArray) : Pure Tryz.prog 259 [Occ x, Occ y] (· = B (decide (x = y))) := by
  refine gstart mxd i259 rfl (by simp) ?_; simp (maxSteps := 2000000) only [↓ S2, S2, vIte, ↓reduceIte, Int.reduceNe, Nat.reduceEqDiff, reduceCtorEq, Nat.reduceLeDiff, Nat.reduceAdd, Nat.reduceLT]
  ((try with_reducible refine mkQI ?_); (repeat ((first | (with_reducible refine mkQU ?_) | simp only [brGen]); try simp (maxSteps := 2000000) only [↓ S2, S2, vIte, ↓reduceIte, Int.reduceNe, Nat.reduceEqDiff, reduceCtorEq, Nat.reduceLeDiff, Nat.reduceAdd, Nat.reduceLT])); (try simp +contextual (disch := omega) only [Z2]); (repeat' (first | (with_reducible intro h) | (with_reducible refine And.intro (by omega) ?_) | (with_reducible refine exP (by omega) ?_) | (with_reducible apply And.intro)))) <;> simp [Prod.ext_iff, *]
end Go.Proofs.YtbdmpkidcpblaaaGreat

