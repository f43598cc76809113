/- The law FnExactNodeIds returns true whatever the input, and the input reads behind the call as before. No condition. -/
import Derived.Test.YtpnkabohkmabmaaLib2
import Derived.Test.YtpnkabohkmabmaaRows
import Derived.Test.YtpnkabohkmabmaaChecked
import Derived.KernelRfl
/- The program's data as plain data, and their ghosts. -/
namespace Go.Gh
set_option linter.unusedSimpArgs false
set_option linter.unusedVariables false

/-- A string's ghost. -/
abbrev T (s : ByteArray) : GV := .val (.string s)
theorem chars_inj {s t : ByteArray} : chars s = chars t ↔ s = t := by
  constructor
  · intro h; obtain ⟨a⟩ := s; obtain ⟨b⟩ := t; simp only [chars] at h; congr 1; exact Array.ext' h
  · rintro rfl; rfl
theorem data_inj {s t : ByteArray} : s.data = t.data ↔ s = t := ByteArray.ext_iff.symm

@[ext] structure Nod where
  id : Int
  parent : Int
  place : Int
  lit : Int
  rule : ByteArray
  kids : List Int
deriving DecidableEq
abbrev Nd (x : Nod) : GV := .agg [I x.id, I x.parent, I x.place, I x.lit, T x.rule, IS x.kids]
abbrev NdS (l : List Nod) : GV := .sl 6 (l.map Nd)
abbrev wNd (x : Nod) : Nat := (chars x.rule).length + x.kids.length
@[ext] structure Slo where
  pos : Int
  name : ByteArray
  val : Int
deriving DecidableEq
abbrev Occ (x : Int × ByteArray) : GV := .agg [I x.1, T x.2]
abbrev OccS (l : List (Int × ByteArray)) : GV := .sl 2 (l.map Occ)
abbrev wOcc (x : Int × ByteArray) : Nat := (chars x.2).length
abbrev Slt (x : Slo) : GV := .agg [I x.pos, T x.name, I x.val]
abbrev SltS (l : List Slo) : GV := .sl 3 (l.map Slt)
abbrev wSlo (x : Slo) : Nat := (chars x.name).length
abbrev Tr (l : List Nod) : GV := .agg [NdS l]

theorem e_nil (e : Env) : subE e [] = True := (rfl)
theorem e_cons (e : Env) (j : Nat) (g : GV) (r : Env) : subE e ((j, g) :: r) = (eget e j = some g ∧ nraw g = true ∧ subE e r) := (rfl)
theorem n_val (v : Value) : nraw (.val v) = true := (rfl)
theorem n_sl (sz : Nat) (es : List GV) : nraw (.sl sz es) = true := (rfl)
theorem n_agg (cs : List GV) : nraw (.agg cs) = true := (rfl)
theorem n_rop (sz : Nat) (g : GV) : nraw (.rop sz g) = true := (rfl)
theorem n_ptr (r sz i o : Nat) : nraw (.ptr r sz i o) = true := (rfl)
theorem n_own (r sz k n : Nat) : nraw (.own r sz k n) = true := (rfl)
theorem n_clo (f : Nat) (cs : List GV) : nraw (.clo f cs) = true := (rfl)
theorem n_tup (cs : List GV) : nraw (.tup cs) = true := (rfl)
theorem E2 : type_of% (And.intro @e_nil (And.intro @e_cons (And.intro @n_val (And.intro @n_sl (And.intro @n_agg (And.intro @n_rop (And.intro @n_ptr (And.intro @n_own (And.intro @n_clo (And.intro @n_tup (And.intro @x_get @Option.some.injEq.{0}))))))))))) :=
  And.intro @e_nil (And.intro @e_cons (And.intro @n_val (And.intro @n_sl (And.intro @n_agg (And.intro @n_rop (And.intro @n_ptr (And.intro @n_own (And.intro @n_clo (And.intro @n_tup (And.intro @x_get @Option.some.injEq.{0}))))))))))
theorem maxLv : maxL = 9223372036854775807 := (rfl)
theorem Z2 : type_of% (And.intro @Int.ofNat_lt (And.intro @Int.natCast_nonneg (And.intro @true_and (And.intro @u_ext (And.intro @exists_prop_of_true (And.intro @Int.natCast_zero (And.intro @chars_inj (And.intro @Int.natCast_inj (And.intro maxLv (And.intro @not_true_eq_false (And.intro @false_implies (And.intro @true_implies (And.intro @and_true (And.intro @implies_true.{0} @wrap64)))))))))))))) :=
  And.intro @Int.ofNat_lt (And.intro @Int.natCast_nonneg (And.intro @true_and (And.intro @u_ext (And.intro @exists_prop_of_true (And.intro @Int.natCast_zero (And.intro @chars_inj (And.intro @Int.natCast_inj (And.intro maxLv (And.intro @not_true_eq_false (And.intro @false_implies (And.intro @true_implies (And.intro @and_true (And.intro @implies_true.{0} @wrap64)))))))))))))
theorem lenOk_map {α : Type} {f : α → GV} {l : List α} (h : LenOkL (l.map f)) : ∀ x ∈ l, LenOk (f x) := fun x hx => h.all _ (List.mem_map.2 ⟨x, hx, rfl⟩)
theorem lenTr {l : List Nod} (h : LenOk (Tr l)) : l.length ≤ 9223372036854775807 ∧ ∀ x ∈ l, x.kids.length ≤ 9223372036854775807 := by
  simp only [LenOk, LenOkL, List.length_map, maxL] at h
  refine ⟨h.1.1, fun x hx => ?_⟩
  have := lenOk_map h.1.2 x hx
  simp only [LenOk, LenOkL, List.length_map, maxL] at this
  exact this.2.2.2.2.2.1.1
theorem i_inj (a b : Int) : (I a = I b) = (a = b) := by simp

end Go.Gh

/- What the program computes, in plain words: trees. -/
namespace Go.Gh
set_option linter.unusedSimpArgs false
set_option linter.unusedVariables false

theorem takeWhile_len {α : Type} {p : α → Bool} : ∀ {l : List α} {n : Nat}, n ≤ l.length → (∀ j (h : j < l.length), j < n → p l[j] = true) → (∀ h : n < l.length, p l[n] = false) → (l.takeWhile p).length = n
  | [], n, h, _, _ => by simp at h; simp [h]
  | x :: l, 0, _, _, h2 => by
    have := h2 (by simp)
    simp at this
    simp [this]
  | x :: l, n + 1, h, h1, h2 => by
    have h3 := h1 0 (by simp) (by omega)
    simp at h3
    have h4 := takeWhile_len (p := p) (l := l) (n := n) (by simpa using h) (fun j hj hn => by have := h1 (j + 1) (by simpa using hj) (by omega); simpa using this) (fun hj => by have := h2 (by simpa using hj); simpa using this)
    simp [h3, h4]

/-- How many nodes a subtree has. -/
def subLen (t : List Nod) (i : Nat) : Nat := ((t.drop (i + 1)).takeWhile fun x => decide ((i : Int) ≤ x.parent)).length + 1
theorem subLen_eq {t : List Nod} {i k : Nat} (hik : i < k) (hk : k ≤ t.length) (ha : ∀ j (h : j < t.length), i < j → j < k → (i : Int) ≤ t[j].parent) (hn : ∀ h : k < t.length, ¬ (i : Int) ≤ t[k].parent) : subLen t i = k - i := by
  have := takeWhile_len (p := fun x : Nod => decide ((i : Int) ≤ x.parent)) (l := t.drop (i + 1)) (n := k - (i + 1)) (by simp; omega) (fun j hj hl => by
    simp at hj
    have := ha (i + 1 + j) (by omega) (by omega) (by omega)
    simpa using this) (fun h => by
    simp at h
    have := hn (by omega)
    have e : i + 1 + (k - (i + 1)) = k := by omega
    simp only [List.getElem_drop, e]
    simpa using this)
  rw [subLen, this]; omega
theorem subLen_le {t : List Nod} {i : Nat} (h : i < t.length) : i + subLen t i ≤ t.length := by
  have : ((t.drop (i + 1)).takeWhile fun x => decide ((i : Int) ≤ x.parent)).length ≤ (t.drop (i + 1)).length := (List.takeWhile_sublist _).length_le
  simp at this
  rw [subLen]; omega
theorem subLen_pos {t : List Nod} {i : Nat} : 0 < subLen t i := by simp [subLen]
def treeSize (t : List Nod) (i : Int) : Int := if 0 ≤ i ∧ i < t.length then subLen t i.toNat else 0

/-! ### Heights -/
/-- The greatest height of children: hs: the heights of the nodes behind node k. -/
def kidStep (hs : List Int) (k : Nat) (m : Int) (c : Int) : Int := if (k : Int) < c ∧ c < k + 1 + hs.length then max m (hs.getD (c - k - 1).toNat 0) else m
def kidMax (hs : List Int) (k : Nat) (kids : List Int) : Int := kids.foldl (kidStep hs k) 0
def hts : Nat → List Nod → List Int
  | _, [] => []
  | k, x :: r => (kidMax (hts (k + 1) r) k x.kids + 1) :: hts (k + 1) r
theorem hts_len : ∀ (k : Nat) (l : List Nod), (hts k l).length = l.length
  | _, [] => rfl
  | k, x :: r => by simp [hts, hts_len (k + 1) r]
theorem kidStep_le {hs : List Int} {k : Nat} {m c b : Int} (hm : 0 ≤ m ∧ m ≤ b) (hh : ∀ h ∈ hs, 0 ≤ h ∧ h ≤ b) : 0 ≤ kidStep hs k m c ∧ kidStep hs k m c ≤ b := by
  simp only [kidStep]
  split
  · rename_i hc
    have hi : (c - k - 1).toNat < hs.length := by omega
    rw [List.getD_eq_getElem?_getD, List.getElem?_eq_getElem hi]
    have := hh _ (List.getElem_mem hi)
    simp only [Option.getD_some]
    omega
  · exact hm
theorem kidFold_le {hs : List Int} {k : Nat} {b : Int} (hh : ∀ h ∈ hs, 0 ≤ h ∧ h ≤ b) : ∀ (kids : List Int) (m : Int), 0 ≤ m ∧ m ≤ b → 0 ≤ kids.foldl (kidStep hs k) m ∧ kids.foldl (kidStep hs k) m ≤ b
  | [], m, h => h
  | c :: cs, m, h => kidFold_le hh cs _ (kidStep_le h hh)
theorem hts_le : ∀ (k : Nat) (l : List Nod), ∀ h ∈ hts k l, 0 ≤ h ∧ h ≤ l.length
  | _, [], h, hm => by simp [hts] at hm
  | k, x :: r, h, hm => by
    have ih := hts_le (k + 1) r
    simp only [hts, List.mem_cons] at hm
    rcases hm with rfl | hm
    · have := kidFold_le (k := k) ih x.kids 0 (by omega)
      simp only [kidMax, List.length_cons]
      omega
    · have := ih h hm
      simp only [List.length_cons]
      omega
def treeHt (t : List Nod) (i : Int) : Int := if 0 ≤ i ∧ i < t.length then (hts i.toNat (t.drop i.toNat)).headD 0 else 0

end Go.Gh
namespace Go.Gh
/-- An array of heights at work: k zeros, m, the rest. -/
def arr (k : Nat) (m : Int) (hs : List Int) : List Int := List.replicate k 0 ++ m :: hs
theorem arr_len (k : Nat) (m : Int) (hs : List Int) : (arr k m hs).length = k + 1 + hs.length := by simp [arr]; omega
theorem arr_get (k : Nat) (m : Int) (hs : List Int) (h : k < (arr k m hs).length) : (arr k m hs)[k] = m := by
  simp only [arr]
  rw [List.getElem_append_right (by simp)]
  simp
theorem arr_get2 {k : Nat} {m : Int} {hs : List Int} {c : Int} (h1 : (k : Int) < c) (h2 : c < k + 1 + hs.length) (h : c.toNat < (arr k m hs).length) : (arr k m hs)[c.toNat] = hs.getD (c - k - 1).toNat 0 := by
  have hi : (c - k - 1).toNat < hs.length := by omega
  have e : c.toNat = k + 1 + (c - k - 1).toNat := by omega
  simp only [arr]
  rw [List.getElem_append_right (by simp; omega), List.getD_eq_getElem?_getD, List.getElem?_eq_getElem hi]
  simp only [List.length_replicate, Option.getD_some]
  have e2 : c.toNat - k = (c - k - 1).toNat + 1 := by omega
  simp only [e2, List.getElem_cons_succ]
theorem arr_set (k : Nat) (m v : Int) (hs : List Int) : (arr k m hs).set k v = arr k v hs := by
  simp only [arr]
  rw [List.set_append_right _ _ (by simp)]
  simp
theorem arr_step (k : Nat) (hs : List Int) : List.replicate (k + 1) 0 ++ hs = arr k 0 hs := by
  simp only [arr, List.replicate_succ']
  simp
theorem take_foldl {α β : Type} (f : β → α → β) (b : β) (l : List α) (j : Nat) (h : j < l.length) : (l.take (j + 1)).foldl f b = f ((l.take j).foldl f b) l[j] := by
  rw [List.take_add_one, List.getElem?_eq_getElem h, List.foldl_append]
  rfl
theorem hts_drop {t : List Nod} {k : Nat} (h : k < t.length) : hts k (t.drop k) = (kidMax (hts (k + 1) (t.drop (k + 1))) k t[k].kids + 1) :: hts (k + 1) (t.drop (k + 1)) := by
  rw [List.drop_eq_getElem_cons h, hts]
end Go.Gh
namespace Go.Gh
theorem sum_mem {α : Type} (f : α → Nat) : ∀ (l : List α) (x : α), x ∈ l → f x ≤ (l.map f).sum
  | y :: l, x, h => by
    simp only [List.map_cons, List.sum_cons]
    rcases List.mem_cons.1 h with rfl | h
    · omega
    · have := sum_mem f l x h; omega
theorem szTr {t : List Nod} {left : Int} (h : ¬ szv left (wtS wNd t) < 0) (hl : left ≤ 1048576 := by omega) : t.length ≤ 1048576 ∧ ∀ x ∈ t, x.kids.length ≤ 1048576 := by
  have h1 := szv_nn h
  simp only [wtS] at h1
  refine ⟨by omega, fun x hx => ?_⟩
  have := sum_mem wNd t x hx
  simp only [wNd] at this h1
  omega
end Go.Gh
namespace Go.Gh
theorem take_eq_step {α : Type} {xs ys : List α} {i : Nat} (hp : xs.take i = ys.take i) (h1 : i < xs.length) (h2 : i < ys.length) (h : xs[i] = ys[i]) : xs.take (i + 1) = ys.take (i + 1) := by
  rw [List.take_add_one, List.take_add_one, hp, List.getElem?_eq_getElem h1, List.getElem?_eq_getElem h2, h]
end Go.Gh
namespace Go.Gh
theorem bEq {p q : Prop} [Decidable p] [Decidable q] (h : p ↔ q) : B (decide p) = B (decide q) := by
  have : decide p = decide q := by by_cases hp : p <;> simp [hp, ← h]
  rw [this]
theorem getI {l : List Int} {i : Nat} (h : i < l.length) : l[i] = l.getD i 0 := by
  rw [List.getD_eq_getElem?_getD, List.getElem?_eq_getElem h]; rfl
end Go.Gh
namespace Go.Gh
theorem exP {p : Prop} {q : p → Prop} (h : p) (hq : q h) : ∃ h, q h := ⟨h, hq⟩
end Go.Gh
namespace Go.Gh
theorem headD_eq {l : List Int} (h : 0 < l.length) : l.headD 0 = l[0] := by cases l with
  | nil => simp at h
  | cons x l => rfl
theorem kidStep_in {hs : List Int} {k : Nat} {m c : Int} (h1 : (k : Int) < c) (h2 : c < k + 1 + hs.length) : kidStep hs k m c = max m (hs.getD (c - k - 1).toNat 0) := by rw [kidStep, if_pos ⟨h1, h2⟩]
theorem kidStep_out {hs : List Int} {k : Nat} {m c : Int} (h : ¬ ((k : Int) < c ∧ c < k + 1 + hs.length)) : kidStep hs k m c = m := by rw [kidStep, if_neg h]
theorem getD_le {hs : List Int} {b : Int} (hh : ∀ h ∈ hs, 0 ≤ h ∧ h ≤ b) (hb : 0 ≤ b) (i : Nat) : 0 ≤ hs.getD i 0 ∧ hs.getD i 0 ≤ b := by
  rw [List.getD_eq_getElem?_getD]
  rcases Nat.lt_or_ge i hs.length with h | h
  · rw [List.getElem?_eq_getElem h]; exact hh _ (List.getElem_mem h)
  · rw [List.getElem?_eq_none h]; exact ⟨Int.le_refl 0, hb⟩
end Go.Gh
namespace Go.Gh
/-- Two lists, held against each other. -/
def all2 {α : Type} (p : α → α → Bool) (xs ys : List α) : Bool := decide (xs.length = ys.length) && (xs.zip ys).all fun z => p z.1 z.2
theorem all2_len {α : Type} {p : α → α → Bool} {xs ys : List α} (h : ¬ xs.length = ys.length) : all2 p xs ys = false := by simp [all2, h]
theorem all2_no {α : Type} {p : α → α → Bool} {xs ys : List α} {i : Nat} (h1 : i < xs.length) (h2 : i < ys.length) (h : p xs[i] ys[i] = false) : all2 p xs ys = false := by
  have : (xs.zip ys).all (fun z => p z.1 z.2) = false := by
    rw [List.all_eq_false]
    refine ⟨(xs[i], ys[i]), ?_, by simpa using h⟩
    have h3 : i < (xs.zip ys).length := by simp; omega
    have := List.getElem_mem h3
    rwa [List.getElem_zip] at this
  simp [all2, this]
theorem all2_yes {α : Type} {p : α → α → Bool} {xs ys : List α} (hl : xs.length = ys.length) (h : ∀ j (h1 : j < xs.length) (h2 : j < ys.length), p xs[j] ys[j] = true) : all2 p xs ys = true := by
  simp only [all2, hl, decide_true, Bool.true_and, List.all_eq_true]
  intro z hz
  obtain ⟨j, hj, rfl⟩ := List.getElem_of_mem hz
  rw [List.getElem_zip]
  simp at hj
  exact h j (by omega) (by omega)
theorem all2_step {α : Type} {p : α → α → Bool} {xs ys : List α} {i : Nat} {h1 : i < xs.length} {h2 : i < ys.length} (h : p xs[i] ys[i] = true) (hn : ∀ j (h1 : j < xs.length) (h2 : j < ys.length), j < i → p xs[j] ys[j] = true) :
    ∀ j (h1 : j < xs.length) (h2 : j < ys.length), j < i + 1 → p xs[j] ys[j] = true := by
  intro j k1 k2 hj
  rcases Nat.lt_or_ge j i with h3 | h3
  · exact hn j k1 k2 h3
  · have : j = i := by omega
    subst this; exact h
/-- Two nodes alike, with their Ids or not. -/
def sameNd (ids : Bool) (x y : Nod) : Bool := (!ids || decide (x.id = y.id)) && decide (x.parent = y.parent) && decide (x.place = y.place) && decide (x.lit = y.lit) && decide (x.rule = y.rule) && decide (x.kids = y.kids)
end Go.Gh
namespace Go.Gh
def atOcc (o : Int × ByteArray) (s : Slo) : Bool := decide (s.pos = o.1) && decide (s.name = o.2)
def slotValue (xs : List Slo) (o : Int × ByteArray) : Int := ((xs.find? (atOcc o)).map (·.val)).getD 0
theorem find_hit {α : Type} {p : α → Bool} : ∀ {xs : List α} {i : Nat} (h : i < xs.length), p xs[i] = true → (∀ a ∈ xs.take i, p a = false) → xs.find? p = some xs[i]
  | x :: xs, 0, _, hp, _ => by simp at hp; simp [hp]
  | x :: xs, i + 1, h, hp, hn => by
    have h1 : p x = false := hn x (by simp)
    simp only [List.find?_cons, h1]
    simpa using find_hit (p := p) (xs := xs) (i := i) (by simpa using h) (by simpa using hp) (fun a ha => hn a (by simp [ha]))
theorem find_none {α : Type} {p : α → Bool} {xs : List α} (hn : ∀ a ∈ xs, p a = false) : xs.find? p = none := by
  rw [List.find?_eq_none]; intro x hx; simp [hn x hx]
end Go.Gh

/- The laws' own functions on slices, whatever the element: sizes, copies, comparisons. -/
namespace Go.Gh
set_option linter.unusedSimpArgs false
set_option linter.unusedVariables false
set_option maxRecDepth 20000
section
variable {P : Program} {α : Type} {f : α → GV} {k kx sz : Nat} {det ag : Bool}
/-- Two slices compared, element by element. -/
theorem eqS (mxd : P.follows .mixedOrders = true) (hF : IsFun P k ⟨⟨27, []⟩,
  (.seq (.reg [(.mk (some 4) none (.mov (.k (.val (.bool false)))))]) (.seq (.seq (.reg [(.mk (some 6) none (.mov (.t 0))), (.mk (some 7) none (.len (.t 6))), (.mk (some 8) none (.mov (.t 1))), (.mk (some 9) none (.len
  (.t 8))), (.mk (some 10) none (.bin .neq (.t 7) (.t 9)))]) (.cond 10 (.seq (.reg [(.mk (some 4) none (.mov (.k (.val (.bool false)))))]) .ret) .skip)) (.seq (.seq (.reg [(.mk (some 5) none (.mov (.k (.val (.int .i64
  0)))))]) (.block 0 (.loop (.seq (.seq (.reg [(.mk (some 11) none (.mov (.t 5))), (.mk (some 12) none (.mov (.t 0))), (.mk (some 13) none (.len (.t 12))), (.mk (some 14) none (.bin .lss (.t 11) (.t 13)))]) (.cond 14
  .skip (.exit 0))) (.seq (.block 1 (.seq (.reg [(.mk (some 17) none (.mov (.t 0))), (.mk (some 18) none (.mov (.t 5))), (.mk (some 19) none (.iaddr sz (.t 17) (.t 18))), (.mk (some 21) none (.mov (.t 1))), (.mk (some
  22) none (.mov (.t 5))), (.mk (some 23) none (.iaddr sz (.t 21) (.t 22))), (.mk (some 20) none (.load sz ag (.t 19))), (.mk (some 24) none (.load sz ag (.t 23))), (.mk (some 25) none (.call det kx [(.t 20), (.t
  24)])), (.mk (some 26) none (.not (.t 25)))]) (.cond 26 (.seq (.reg [(.mk (some 4) none (.mov (.k (.val (.bool false)))))]) .ret) .skip))) (.reg [(.mk (some 15) none (.mov (.t 5))), (.mk (some 16) none (.bin .add (.t
  15) (.k (.val (.int .i64 1))))), (.mk (some 5) none (.mov (.t 16)))])))))) (.seq (.reg [(.mk (some 4) none (.mov (.k (.val (.bool true)))))]) .ret)))), [.t 4]⟩)
    [DecidableEq α] (hag : ∀ a, isAgg (f a) = ag) (hr : ∀ a, geR (some (f a)) = some (f a)) (xs ys : List α) (hx : ∀ a ∈ xs, ∀ b ∈ ys, Pure P kx [f a, f b] (· = B (decide (a = b)))) :
    Pure P k [.sl sz (xs.map f), .sl sz (ys.map f)] (· = B (decide (xs = ys))) := by
  refine GCalls.lenA fun hl => ?_
  have hlen := hl.1.1
  simp only [List.length_map, maxL] at hlen
  refine gstart mxd hF rfl (by simp) ?_
  ((try simp only [↓ S2, S2, ↓reduceIte, Nat.reduceEqDiff, reduceCtorEq, Nat.reduceLeDiff, Nat.reduceAdd, Nat.reduceLT, hr, hag]); (try simp only [brGen]; try simp only [↓ S2, S2, ↓reduceIte, Nat.reduceEqDiff, reduceCtorEq, Nat.reduceLeDiff, Nat.reduceAdd, Nat.reduceLT, hr, hag]); (try simp +contextual (disch := omega) only [Z2]); (repeat' (first | (with_reducible intro h) | (with_reducible refine And.intro (by omega) ?_) | (with_reducible refine exP (by omega) ?_) | (with_reducible apply And.intro))))
  rotate_left
  · simp; rintro rfl; exact h rfl
  refine wloop mxd (ι := { i : Nat // i ≤ xs.length ∧ xs.take i = ys.take i }) (fun i => [(0, .sl sz (xs.map f)), (1, .sl sz (ys.map f)), (5, I i.1)]) (fun _ => []) (fun i => xs.length - i.1) ⟨0, by simp⟩ (by simp [E2]) rfl ?_
  rintro ⟨i, hi, hp⟩
  ((try simp only [↓ S2, S2, ↓reduceIte, Nat.reduceEqDiff, reduceCtorEq, Nat.reduceLeDiff, Nat.reduceAdd, Nat.reduceLT, hr, hag]); (try simp only [brGen]; try simp only [↓ S2, S2, ↓reduceIte, Nat.reduceEqDiff, reduceCtorEq, Nat.reduceLeDiff, Nat.reduceAdd, Nat.reduceLT, hr, hag]); (try simp +contextual (disch := omega) only [Z2]); (repeat' (first | (with_reducible intro h) | (with_reducible refine And.intro (by omega) ?_) | (with_reducible refine exP (by omega) ?_) | (with_reducible apply And.intro))))
  · refine callS.eq (hx xs[i] (List.getElem_mem _) ys[i] (List.getElem_mem _)) ?_
    ((try simp only [↓ S2, S2, ↓reduceIte, Nat.reduceEqDiff, reduceCtorEq, Nat.reduceLeDiff, Nat.reduceAdd, Nat.reduceLT, hr, hag]); (try simp only [brGen]; try simp only [↓ S2, S2, ↓reduceIte, Nat.reduceEqDiff, reduceCtorEq, Nat.reduceLeDiff, Nat.reduceAdd, Nat.reduceLT, hr, hag]); (try simp +contextual (disch := omega) only [Z2]); (repeat' (first | (with_reducible intro h) | (with_reducible refine And.intro (by omega) ?_) | (with_reducible refine exP (by omega) ?_) | (with_reducible apply And.intro))))
    · exact nx ⟨i + 1, by omega, take_eq_step hp (by omega) (by omega) h⟩ (by simp; omega) (by simp [E2]) rfl
    · simp; rintro rfl; simp at h
  · have : i = xs.length := by omega
    subst this
    rw [List.take_of_length_le (by omega), List.take_of_length_le (by omega)] at hp
    simp [hp]
/-- A slice copied, element by element: the copy is the caller's own. -/
theorem toSo (mxd : P.follows .mixedOrders = true) {bytes : Nat} {z : GV} (hF : IsFun P k ⟨⟨23, []⟩,
  (.seq (.reg [(.mk (some 2) none (.mov (.k (.val (.slice none 0 0)))))]) (.seq (.reg [(.mk (some 5) none (.mov (.t 0))), (.mk (some 6) none (.len (.t 5))), (.mk (some 7) none (.mkslice sz bytes z (.t 6) (.t 6))), (.mk (some 3) none (.mov (.t 7)))]) (.seq (.seq (.reg [(.mk (some 4) none (.mov (.k (.val (.int .i64 0)))))]) (.block 0 (.loop (.seq (.seq (.reg [(.mk (some 8)
  none (.mov (.t 4))), (.mk (some 9) none (.mov (.t 0))), (.mk (some 10) none (.len (.t 9))), (.mk (some 11) none (.bin .lss (.t 8) (.t 10)))]) (.cond 11 .skip (.exit 0))) (.seq (.block 1 (.reg [(.mk (some 14) none
  (.mov (.t 3))), (.mk (some 15) none (.mov (.t 4))), (.mk (some 16) none (.mov (.t 0))), (.mk (some 17) none (.mov (.t 4))), (.mk (some 18) none (.iaddr sz (.t 16) (.t 17))), (.mk (some 19) none (.load sz ag (.t 18))),
  (.mk (some 20) none (.call det kx [(.t 19)])), (.mk (some 21) none (.iaddr sz (.t 14) (.t 15))), (.mk none none (.store sz (.t 21) (.t 20)))])) (.reg [(.mk (some 12) none (.mov (.t 4))), (.mk (some 13) none (.bin .add
  (.t 12) (.k (.val (.int .i64 1))))), (.mk (some 4) none (.mov (.t 13)))])))))) (.seq (.reg [(.mk (some 22) none (.mov (.t 3))), (.mk (some 2) none (.mov (.t 22)))]) .ret)))), [.t 2]⟩)
    (hag : ∀ a, isAgg (f a) = ag) (hr : ∀ a, geR (some (f a)) = some (f a)) (hsz : ∀ a, gsize (f a) = sz) (hst : ∀ a, storable (f a) = true) (xs : List α) (hlen : xs.length ≤ 1048576) (hb : bytes ≤ 1024)
    (hx : ∀ a ∈ xs, Pure P kx [f a] (· = f a)) (H : GH) :
    GCalls P k [.sl sz (xs.map f)] H (fun g H' => ∃ r, g = .own r sz 0 xs.length ∧ H' = (r, sz, xs.map f) :: H) := by
  have hbb : (bytes : Int) * (xs.length : Int) ≤ 281474976710656 := by
    have h1 : bytes * xs.length ≤ 1073741824 := Nat.le_trans (Nat.mul_le_mul hb hlen) (by decide)
    have h2 : ((bytes * xs.length : Nat) : Int) ≤ 1073741824 := by omega
    rw [Int.natCast_mul] at h2
    omega
  refine gstart mxd hF rfl (by simp) ?_
  simp only [↓ S2, S2, ↓reduceIte, Nat.reduceEqDiff, reduceCtorEq, Nat.reduceLeDiff, Nat.reduceAdd, Nat.reduceLT, hr, hag]
  refine ⟨by omega, by omega, hbb, by omega, fun r hr' => ?_⟩
  refine wloop mxd (ι := { i : Nat // i ≤ xs.length }) (fun i => [(0, .sl sz (xs.map f)), (3, .own r sz 0 xs.length), (4, I i.1)]) (fun i => (r, sz, (xs.take i.1).map f ++ List.replicate (xs.length - i.1) z) :: H) (fun i => xs.length - i.1) ⟨0, by simp⟩ (by simp [E2]) (by simp) ?_
  rintro ⟨i, hi⟩
  ((try simp only [↓ S2, S2, ↓reduceIte, Nat.reduceEqDiff, reduceCtorEq, Nat.reduceLeDiff, Nat.reduceAdd, Nat.reduceLT, hr, hag]); (try simp only [brGen]; try simp only [↓ S2, S2, ↓reduceIte, Nat.reduceEqDiff, reduceCtorEq, Nat.reduceLeDiff, Nat.reduceAdd, Nat.reduceLT, hr, hag]); (try simp +contextual (disch := omega) only [Z2]); (repeat' (first | (with_reducible intro h) | (with_reducible refine And.intro (by omega) ?_) | (with_reducible refine exP (by omega) ?_) | (with_reducible apply And.intro))))
  · refine callS.eq (hx xs[i] (List.getElem_mem _)) ?_
    ((try simp only [↓ S2, S2, ↓reduceIte, Nat.reduceEqDiff, reduceCtorEq, Nat.reduceLeDiff, Nat.reduceAdd, Nat.reduceLT, hr, hag, hsz, hst, stw]); (try simp only [brGen]; try simp only [↓ S2, S2, ↓reduceIte, Nat.reduceEqDiff, reduceCtorEq, Nat.reduceLeDiff, Nat.reduceAdd, Nat.reduceLT, hr, hag, hsz, hst, stw]); (try simp +contextual (disch := omega) only [Z2]); (repeat' (first | (with_reducible intro h) | (with_reducible refine And.intro (by omega) ?_) | (with_reducible refine exP (by omega) ?_) | (with_reducible apply And.intro))))
    refine ⟨by simp; omega, nx ⟨i + 1, by omega⟩ (by simp; omega) (by simp [E2]) ?_⟩
    rw [fill_set xs f z i h]
  · have : i = xs.length := by omega
    subst this
    exact ⟨r, rfl, by simp⟩

/-- What a slice leaves of a budget. -/
theorem szS (mxd : P.follows .mixedOrders = true) (wt : α → Nat) (hF : IsFun P k ⟨⟨27, []⟩,
  (.seq (.reg [(.mk (some 4) none (.mov (.k (.val (.int .i64 0)))))]) (.seq (.reg [(.mk (some 6) none (.mov (.t 1))), (.mk (some 7) none (.mov (.t 0))), (.mk (some 8) none (.len (.t 7))), (.mk (some 9) none (.bin .sub
  (.t 6) (.t 8))), (.mk (some 1) none (.mov (.t 9)))]) (.seq (.seq (.reg [(.mk (some 10) none (.mov (.t 1))), (.mk (some 11) none (.bin .lss (.t 10) (.k (.val (.int .i64 0)))))]) (.cond 11 (.seq (.reg [(.mk (some 4)
  none (.mov (.k (.val (.int .i64 (-1))))))]) .ret) .skip)) (.seq (.seq (.reg [(.mk (some 5) none (.mov (.k (.val (.int .i64 0)))))]) (.block 0 (.loop (.seq (.seq (.reg [(.mk (some 12) none (.mov (.t 5))), (.mk (some
  13) none (.mov (.t 0))), (.mk (some 14) none (.len (.t 13))), (.mk (some 15) none (.bin .lss (.t 12) (.t 14)))]) (.cond 15 .skip (.exit 0))) (.seq (.block 1 (.seq (.reg [(.mk (some 18) none (.mov (.t 0))), (.mk (some
  19) none (.mov (.t 5))), (.mk (some 20) none (.iaddr sz (.t 18) (.t 19))), (.mk (some 21) none (.load sz ag (.t 20))), (.mk (some 22) none (.mov (.t 1))), (.mk (some 23) none (.call det kx [(.t 21), (.t 22)])), (.mk
  (some 1) none (.mov (.t 23)))]) (.seq (.reg [(.mk (some 24) none (.mov (.t 1))), (.mk (some 25) none (.bin .lss (.t 24) (.k (.val (.int .i64 0)))))]) (.cond 25 (.seq (.reg [(.mk (some 4) none (.mov (.k (.val (.int
  .i64 (-1))))))]) .ret) .skip)))) (.reg [(.mk (some 16) none (.mov (.t 5))), (.mk (some 17) none (.bin .add (.t 16) (.k (.val (.int .i64 1))))), (.mk (some 5) none (.mov (.t 17)))])))))) (.seq (.reg [(.mk (some 26)
  none (.mov (.t 1))), (.mk (some 4) none (.mov (.t 26)))]) .ret))))), [.t 4]⟩)
    (hag : ∀ a, isAgg (f a) = ag) (hr : ∀ a, geR (some (f a)) = some (f a)) (xs : List α) (left : Int) (h0 : 0 ≤ left) (h1 : left ≤ 1048576)
    (hx : ∀ a ∈ xs, ∀ l : Int, 0 ≤ l → l ≤ 1048576 → Pure P kx [f a, I l] (· = I (szv l (wt a)))) :
    Pure P k [.sl sz (xs.map f), I left] (· = I (szv left (wtS wt xs))) := by
  refine GCalls.lenA fun hl => ?_
  have hlen := hl.1.1
  simp only [List.length_map, maxL] at hlen
  refine gstart mxd hF rfl (by simp) ?_
  ((try simp only [↓ S2, S2, ↓reduceIte, Nat.reduceEqDiff, reduceCtorEq, Nat.reduceLeDiff, Nat.reduceAdd, Nat.reduceLT, hr, hag]); (try simp only [brGen]; try simp only [↓ S2, S2, ↓reduceIte, Nat.reduceEqDiff, reduceCtorEq, Nat.reduceLeDiff, Nat.reduceAdd, Nat.reduceLT, hr, hag]); (try simp +contextual (disch := omega) only [Z2]); (repeat' (first | (with_reducible intro h) | (with_reducible refine And.intro (by omega) ?_) | (with_reducible refine exP (by omega) ?_) | (with_reducible apply And.intro))))
  · congr 2; simp only [szv, wtS]; omega
  refine wloop mxd (ι := { i : Nat // i ≤ xs.length ∧ ((xs.length + psum wt xs i : Nat) : Int) ≤ left }) (fun i => [(0, .sl sz (xs.map f)), (1, I (left - ((xs.length + psum wt xs i.1 : Nat) : Int))), (5, I i.1)])
    (fun _ => []) (fun i => xs.length - i.1) ⟨0, by simp [psum_zero]; omega⟩ (by simp [E2, psum_zero]) rfl ?_
  rintro ⟨i, hi, hp⟩
  ((try simp only [↓ S2, S2, ↓reduceIte, Nat.reduceEqDiff, reduceCtorEq, Nat.reduceLeDiff, Nat.reduceAdd, Nat.reduceLT, hr, hag]); (try simp only [brGen]; try simp only [↓ S2, S2, ↓reduceIte, Nat.reduceEqDiff, reduceCtorEq, Nat.reduceLeDiff, Nat.reduceAdd, Nat.reduceLT, hr, hag]); (try simp +contextual (disch := omega) only [Z2]); (repeat' (first | (with_reducible intro h) | (with_reducible refine And.intro (by omega) ?_) | (with_reducible refine exP (by omega) ?_) | (with_reducible apply And.intro))))
  · have e1 := psum_succ wt xs i h
    have e2 := psum_le wt xs (i + 1)
    refine callS.eq (hx xs[i] (List.getElem_mem _) _ (by omega) (by omega)) ?_
    ((try simp only [↓ S2, S2, ↓reduceIte, Nat.reduceEqDiff, reduceCtorEq, Nat.reduceLeDiff, Nat.reduceAdd, Nat.reduceLT, hr, hag]); (try simp only [brGen]; try simp only [↓ S2, S2, ↓reduceIte, Nat.reduceEqDiff, reduceCtorEq, Nat.reduceLeDiff, Nat.reduceAdd, Nat.reduceLT, hr, hag]); (try simp +contextual (disch := omega) only [Z2]); (repeat' (first | (with_reducible intro h) | (with_reducible refine And.intro (by omega) ?_) | (with_reducible refine exP (by omega) ?_) | (with_reducible apply And.intro))))
    · congr 2; simp only [szv, wtS] at *; omega
    · have e3 := szv_nn h
      refine nx ⟨i + 1, by omega, by omega⟩ (by simp; omega) ?_ rfl
      rw [szv_pos e3]
      simp [E2]
      omega
  · have : i = xs.length := by omega
    subst this
    rw [psum_all]
    congr 2; simp only [szv, wtS]; rw [psum_all] at hp; omega
end

end Go.Gh

/- What the laws' marks are. -/
namespace Go.Gh
set_option linter.unusedSimpArgs false
set_option linter.unusedVariables false

theorem vIte (P : Program) (c : Prop) [Decidable c] (g : GV) (d : Option Nat) (is : List GI) (K : Env → GH → Prop) (env : Env) (H : GH) : valS P (if c then some g else none) d is K env H = (c ∧ gsteps P is K (gput env d g) H) := by
  by_cases h : c <;> simp [h, valS]
theorem nxF {ι : Type} {E : ι → Env} {G : ι → GH} {μ : ι → Nat} {i : ι} {e e' : Env} {H H' : GH} (j : ι) (hm : μ j < μ i) (hf : FE e H e' H') (h : subE e' (E j)) (hh : H' = G j) : Nx E G μ i e H := by
  subst hh
  exact ⟨j, FE.trans hf (FE.of h), hm⟩
theorem wloopN {P : Program} {cf : Cfg} (mxd : P.follows .mixedOrders = true) {ι : Type} {x : GC} {Q : Exit → Env → GH → Prop} {env : Env} {H : GH} (E : ι → Env) (G : ι → GH) (μ : ι → Nat) (i0 : ι) (h0 : subE env (E i0)) (hh : H = G i0)
    (round : ∀ i, (names (G i)).Nodup → gwp P cf x (thenG (Nx E G μ i) Q) (E i) (G i)) : GW P cf (.loop x) Q env H := by
  subst hh
  exact GW.loop E G μ i0 (FE.of h0) fun i => GW.names fun hn => gwp_ok mxd (round i hn)
theorem wloopF {P : Program} {cf : Cfg} (mxd : P.follows .mixedOrders = true) {ι : Type} {x : GC} {Q : Exit → Env → GH → Prop} {env env' : Env} {H H' : GH} (E : ι → Env) (G : ι → GH) (μ : ι → Nat) (i0 : ι) (hf : FE env H env' H') (h0 : subE env' (E i0)) (hh : H' = G i0)
    (round : ∀ i, (names (G i)).Nodup → GW P cf x (thenG (Nx E G μ i) Q) (E i) (G i)) : GW P cf (.loop x) Q env H := by
  subst hh
  exact GW.loop E G μ i0 (FE.trans hf (FE.of h0)) fun i => GW.names fun hn => round i hn

/-- The digit of a mark. -/
def dgt (k : Int) : UInt8 := UInt8.ofNat (IntKind.u8.wrap (IntKind.i64.wrap (48 + k.tmod 10))).toNat
def dig : Nat → Int → List UInt8 → List UInt8
  | 0, _, acc => acc
  | f + 1, k, acc => if 0 < k then dig f (k.tdiv 10) (dgt k :: acc) else acc
theorem dig_end : ∀ (f : Nat) {k : Int} (acc : List UInt8), ¬ 0 < k → dig f k acc = acc
  | 0, _, _, _ => rfl
  | f + 1, k, acc, h => by simp [dig, h]
def mtext (k : Int) : ByteArray := if k ≤ 0 then ⟨#[109, 48]⟩ else ⟨(109 :: dig k.toNat k []).toArray⟩

def upFrom : Int → Nat → List Int
  | _, 0 => []
  | k, n + 1 => k :: upFrom (k + 1) n
theorem upFrom_len : ∀ (n : Nat) (k : Int), (upFrom k n).length = n
  | 0, _ => rfl
  | n + 1, k => by simp [upFrom, upFrom_len n]
theorem upFrom_snoc : ∀ (n : Nat) (k : Int), upFrom k (n + 1) = upFrom k n ++ [k + n]
  | 0, k => by simp [upFrom]
  | n + 1, k => by rw [upFrom, upFrom_snoc n (k + 1)]; simp [upFrom]; omega
theorem upFrom_get : ∀ (n : Nat) (k : Int) (i : Nat) (h : i < (upFrom k n).length), (upFrom k n)[i] = k + i
  | 0, k, i, h => by simp [upFrom] at h
  | n + 1, k, 0, _ => by simp [upFrom]
  | n + 1, k, i + 1, h => by simp [upFrom, upFrom_get n (k + 1) i (by simpa [upFrom] using h)]; omega

/-! ### Trees of one's own -/
abbrev NdO (x : Nod) : GV := .agg [I x.id, I x.parent, I x.place, I x.lit, T x.rule, .osl 1 (x.kids.map I)]
theorem view_NdO (t : List Nod) : (t.map NdO).map view = t.map Nd := by
  induction t with
  | nil => rfl
  | cons x t ih =>
    simp only [List.map_cons, ih, List.cons.injEq, and_true]
    simp [view, viewL, viewL_eq]
theorem viewL_NdO (t : List Nod) : viewL (t.map NdO) = t.map Nd := by rw [viewL_eq, view_NdO]
theorem bor_NdO {H : GH} {r n : Nat} {t : List Nod} (hr : hget H r = some (6, t.map NdO)) (hn : t.length = n) : Bor H (.own r 6 0 n) (NdS t) := by
  have := Bor.own (H := H) (k := 0) (n := n) hr (by simp [hn])
  rw [List.drop_zero, List.take_of_length_le (by simp [hn]), viewL_NdO] at this
  exact this
theorem bor_Tr {H : GH} {r n : Nat} {t : List Nod} (hr : hget H r = some (6, t.map NdO)) (hn : t.length = n) : Bor H (.agg [.own r 6 0 n]) (Tr t) := .agg (.cons (bor_NdO hr hn) .nil)
theorem bor_IS {H : GH} {r n : Nat} {l : List Int} (hr : hget H r = some (1, l.map I)) (hn : l.length = n) : Bor H (.own r 1 0 n) (IS l) := .all hr (by simp [hn]) (by simp [view])

def mkNod (k : Int) (x : Nod) : Nod := ⟨k, k + 1, k + 1 + 1, k + 1 + 1 + 1, mtext (k + 1 + 1 + 1 + 1), upFrom (k + 1 + 1 + 1 + 1 + 1) x.kids.length⟩
def mkNods : Int → List Nod → List Nod
  | _, [] => []
  | k, x :: t => mkNod k x :: mkNods (k + 5 + x.kids.length) t
def mkEnd : Int → List Nod → Int
  | k, [] => k
  | k, x :: t => mkEnd (k + 5 + x.kids.length) t
theorem FE.close2 {env : Env} {H : GH} {r r1 sz sz1 i j n : Nat} {L gs ks : List GV} (hne : r1 ≠ r) (hi : i < L.length) (hg : gs[j]? = some (.own r1 sz1 0 n)) (hn : ks.length = n) :
    FE env ((r1, sz1, ks) :: (r, sz, L.set i (.agg gs)) :: H) env ((r, sz, L.set i (.agg (gs.set j (.osl sz1 ks)))) :: H) := by
  have := FE.close (env := env) (H := (r1, sz1, ks) :: (r, sz, L.set i (.agg gs)) :: H) (r := r) (r1 := r1) (Ne.symm hne) (by rw [hget_old hne, hget_new]) (List.getElem?_set_self hi) hg hget_new hn
  rwa [hset_old hne, hset_new, hdel_new, List.set_set] at this
theorem FE.close3 {env : Env} {H : GH} {r r1 sz sz1 i j n : Nat} {L gs ks es0 : List GV} (hr : hget H r = some (sz, es0)) (hne : r1 ≠ r) (hi : i < L.length) (hg : gs[j]? = some (.own r1 sz1 0 n)) (hn : ks.length = n) :
    FE env ((r1, sz1, ks) :: hset H r (L.set i (.agg gs))) env (hset H r (L.set i (.agg (gs.set j (.osl sz1 ks))))) := by
  have := FE.close (env := env) (H := (r1, sz1, ks) :: hset H r (L.set i (.agg gs))) (r := r) (r1 := r1) (Ne.symm hne) (by rw [hget_old hne, hget_set hr]) (List.getElem?_set_self hi) hg hget_new hn
  rwa [hset_old hne, hset_set, hdel_new, List.set_set] at this
theorem mkNods_len : ∀ (k : Int) (t : List Nod), (mkNods k t).length = t.length
  | _, [] => rfl
  | k, x :: t => by simp [mkNods, mkNods_len _ t]
theorem mkNods_snoc : ∀ (k : Int) (t : List Nod) (x : Nod), mkNods k (t ++ [x]) = mkNods k t ++ [mkNod (mkEnd k t) x]
  | _, [], _ => rfl
  | k, y :: t, x => by simp [mkNods, mkEnd, mkNods_snoc _ t x]
theorem mkEnd_snoc : ∀ (k : Int) (t : List Nod) (x : Nod), mkEnd k (t ++ [x]) = mkEnd k t + 5 + x.kids.length
  | _, [], _ => rfl
  | k, y :: t, x => by simp [mkEnd, mkEnd_snoc _ t x]
theorem mkEnd_app : ∀ (k : Int) (t u : List Nod), mkEnd k (t ++ u) = mkEnd (mkEnd k t) u
  | _, [], _ => rfl
  | k, y :: t, u => by simp [mkEnd, mkEnd_app _ t u]
theorem mkEnd_le : ∀ (k : Int) (t : List Nod), k ≤ mkEnd k t
  | _, [] => Int.le_refl _
  | k, x :: t => by have := mkEnd_le (k + 5 + x.kids.length) t; simp only [mkEnd]; omega
theorem mkEnd_step {k : Int} {t : List Nod} {i : Nat} (h : i < t.length) : mkEnd k (t.take (i + 1)) = mkEnd k (t.take i) + 5 + t[i].kids.length := by
  rw [List.take_add_one, List.getElem?_eq_getElem h]; exact mkEnd_snoc _ _ _
theorem mkNods_step {k : Int} {t : List Nod} {i : Nat} (h : i < t.length) : mkNods k (t.take (i + 1)) = mkNods k (t.take i) ++ [mkNod (mkEnd k (t.take i)) t[i]] := by
  rw [List.take_add_one, List.getElem?_eq_getElem h]; exact mkNods_snoc _ _ _
theorem mkEnd_take {k : Int} {t : List Nod} (i : Nat) : mkEnd k (t.take i) ≤ mkEnd k t := by
  have := mkEnd_app k (t.take i) (t.drop i)
  rw [List.take_append_drop] at this
  rw [this]; exact mkEnd_le _ _
theorem mid_get {k : Int} {t : List Nod} {i : Nat} (h : i < t.length) (h' : i < (mkNods k (t.take i) ++ t.drop i).length) : (mkNods k (t.take i) ++ t.drop i)[i] = t[i] := by
  rw [List.getElem_append_right (by simp [mkNods_len]; omega)]
  have e : i + (i - (mkNods k (t.take i)).length) = i := by simp [mkNods_len]; omega
  simp only [List.getElem_drop, e]
theorem mid_set {k : Int} {t : List Nod} {i : Nat} (h : i < t.length) : (mkNods k (t.take i) ++ t.drop i).set i (mkNod (mkEnd k (t.take i)) t[i]) = mkNods k (t.take (i + 1)) ++ t.drop (i + 1) := by
  rw [List.set_append_right _ _ (by simp [mkNods_len]; omega), mkNods_step h]
  have e : i - (mkNods k (t.take i)).length = 0 := by simp [mkNods_len]; omega
  rw [e, List.drop_eq_getElem_cons h, List.set_cons_zero, List.append_assoc]
  rfl
theorem mkEnd_len : ∀ (k : Int) (t : List Nod), k + 5 * t.length ≤ mkEnd k t
  | _, [] => by simp [mkEnd]
  | k, x :: t => by have := mkEnd_len (k + 5 + x.kids.length) t; simp only [mkEnd, List.length_cons]; omega
theorem mkNods_get : ∀ {k : Int} {t : List Nod} {i : Nat} (h : i < t.length), (mkNods k t)[i]? = some (mkNod (mkEnd k (t.take i)) t[i])
  | k, x :: t, 0, h => rfl
  | k, x :: t, i + 1, h => by
    have := mkNods_get (k := k + 5 + x.kids.length) (t := t) (i := i) (by simpa using h)
    simpa [mkNods, mkEnd] using this
/-- The Ids of the nodes at these indices. -/
def idsAt (t : List Nod) (ks : List Int) : List Int := ks.filterMap fun (k : Int) => if 0 ≤ k ∧ k < (t.length : Int) then (t[k.toNat]?).map (·.id) else none
def nodeIds (t : List Nod) (i : Int) : List Int := if 0 ≤ i ∧ i < t.length then idsAt t (i :: ((t[i.toNat]?).map (·.kids)).getD []) else []
theorem idsAt_snoc_in {t : List Nod} {l : List Int} {k : Int} (h0 : 0 ≤ k) (h : k.toNat < t.length) : idsAt t (l ++ [k]) = idsAt t l ++ [t[k.toNat].id] := by
  simp only [idsAt, List.filterMap_append, List.filterMap_cons, List.filterMap_nil]
  rw [if_pos (by omega), List.getElem?_eq_getElem h]
  rfl
theorem idsAt_snoc_out {t : List Nod} {l : List Int} {k : Int} (h : ¬ (0 ≤ k ∧ k < (t.length : Int))) : idsAt t (l ++ [k]) = idsAt t l := by
  simp only [idsAt, List.filterMap_append, List.filterMap_cons, List.filterMap_nil]
  rw [if_neg h]
  simp
theorem idsAt_len (t : List Nod) (l : List Int) : (idsAt t l).length ≤ l.length := List.length_filterMap_le _ _
theorem nodeIds_in {t : List Nod} {i : Nat} (h : i < t.length) : nodeIds t i = idsAt t ((i : Int) :: t[i].kids) := by
  simp only [nodeIds]
  rw [if_pos (by omega), Int.toNat_natCast, List.getElem?_eq_getElem h]
  rfl
theorem take_cons_step {l : List Int} {x : Int} {j : Nat} (h : j < l.length) : x :: l.take (j + 1) = (x :: l.take j) ++ [l[j]] := by
  rw [List.take_add_one, List.getElem?_eq_getElem h]; rfl
theorem take_step' {l : List Int} {j : Nat} (h : j < l.length) : l.take (j + 1) = l.take j ++ [l[j]] := by
  rw [List.take_add_one, List.getElem?_eq_getElem h]; rfl
theorem FE.swap {env : Env} {H : GH} {x y : Nat × Nat × List GV} : FE env (x :: y :: H) env (y :: x :: H) := by
  intro w0 D0 O0 N a w ⟨hdf, hsz, D, Ω, ρw, hi⟩
  obtain ⟨r1, sz1, es1⟩ := x
  obtain ⟨r2, sz2, es2⟩ := y
  obtain ⟨F1, G1, e1, h1, F2, F3, e2, h2, h3⟩ := hi.st.hm
  have hp : ∀ x, (F2 ++ (F1 ++ F3)).count x = Ω.count x := by
    intro x; rw [e1, e2]; simp only [List.count_append]; omega
  have hmem : ∀ x ∈ F2 ++ (F1 ++ F3), x ∈ Ω := fun x hx => by
    have := List.count_pos_iff.2 hx
    exact List.count_pos_iff.1 (by rw [← hp]; exact this)
  refine ⟨hdf, hsz, D, F2 ++ (F1 ++ F3), ρw, hi.st' ⟨⟨F2, _, rfl, h2, F1, F3, rfl, h1, h3⟩, ?_, ?_, fun x hx => hi.st.dj x (hmem x hx), hi.st.ds⟩ hmem⟩
  · rw [List.nodup_iff_count]
    intro x
    rw [hp]
    exact List.nodup_iff_count.1 hi.st.nd x
  · have := hi.st.nn
    simp only [names, List.map_cons, List.nodup_cons, List.mem_cons, not_or] at this ⊢
    exact ⟨⟨fun e => this.1.1 e.symm, this.2.1⟩, this.1.2, this.2.2⟩
theorem mkEnd_eq : ∀ (k : Int) (t : List Nod), mkEnd k t = k + 5 * t.length + ((t.map (·.kids.length)).sum : Nat)
  | k, [] => by simp [mkEnd]
  | k, x :: t => by
    have := mkEnd_eq (k + 5 + x.kids.length) t
    simp only [mkEnd, List.length_cons, List.map_cons, List.sum_cons]
    omega
theorem sum_le {α : Type} {f g : α → Nat} (h : ∀ a, f a ≤ g a) : ∀ l : List α, (l.map f).sum ≤ (l.map g).sum
  | [] => Nat.le_refl _
  | a :: l => by have := h a; have := sum_le h l; simp only [List.map_cons, List.sum_cons]; omega
theorem mkEnd_small {t : List Nod} {left : Int} (h : ¬ szv left (wtS wNd t) < 0) (hl : left ≤ 1048576 := by omega) : mkEnd 1 t ≤ 6291457 := by
  have h1 := szv_nn h
  have h2 := sum_le (f := fun x : Nod => x.kids.length) (g := wNd) (fun a => by simp only [wNd]; omega) t
  rw [mkEnd_eq]
  simp only [wtS] at h1
  omega
theorem two_ne {a b : Nat} {x y : Nat × List GV} {H : GH} (h : (names ((a, x) :: (b, y) :: H)).Nodup) : a ≠ b := by
  simp only [names, List.map_cons, List.nodup_cons, List.mem_cons, not_or] at h; exact h.1.1
theorem three_ne {a b c : Nat} {x y z : Nat × List GV} {H : GH} (h : (names ((a, x) :: (b, y) :: (c, z) :: H)).Nodup) : a ≠ b ∧ a ≠ c ∧ b ≠ c := by
  simp only [names, List.map_cons, List.nodup_cons, List.mem_cons, not_or] at h; exact ⟨h.1.1, h.1.2.1, h.2.1.1⟩
theorem four_ne {a b c d : Nat} {x y z u : Nat × List GV} {H : GH} (h : (names ((a, x) :: (b, y) :: (c, z) :: (d, u) :: H)).Nodup) : a ≠ b ∧ a ≠ c ∧ a ≠ d ∧ b ≠ c ∧ b ≠ d ∧ c ≠ d := by
  simp only [names, List.map_cons, List.nodup_cons, List.mem_cons, not_or] at h; exact ⟨h.1.1, h.1.2.1, h.1.2.2.1, h.2.1.1, h.2.1.2.1, h.2.2.1.1⟩
theorem callS.borA {P : Program} {K : Env → GH → Prop} {is : List GI} {env : Env} {H : GH} {d : Option Nat} {det : Bool} {f : FuncId} {gs gs' : List GV} {G : GV} (h : Pure P f gs' (· = G)) (hb : BorL H gs gs') (hs : scal G = true) (hk : gsteps P is K (gput env d G) H) : callS P det f (some gs) d is K env H := by
  cases det
  · exact callS.bor h hb hs hk
  · exact ⟨G, h.borrow hb (fun _ e => by rw [e]; exact hs), hk⟩
end Go.Gh

/- Arguments of the statements, by their types. -/
namespace Go.Gh
theorem t_int {g : GV} (h : ET false [.int .i64] g) : ∃ n : Int, g = I n := by
  obtain ⟨gs, k1, k2⟩ := h
  simp only [CTs, CT] at k1
  obtain ⟨g, gs', rfl, ⟨n, rfl, _⟩, rfl⟩ := k1
  simp at k2
  exact ⟨n, k2.symm⟩
theorem c_ints {g : GV} (h : CT (.sl false [.int .i64]) g) : ∃ xs : List Int, g = IS xs := by
  simp only [CT] at h
  obtain ⟨es, rfl, _, he⟩ := h
  obtain ⟨l, rfl, _⟩ := list_of (f := I) (ok := fun _ => True) fun e hm => by
    obtain ⟨n, hn⟩ := t_int (he e hm)
    exact ⟨n, hn, trivial⟩
  exact ⟨l, rfl⟩
theorem t_one {t : Ty} {g : GV} (h : ET false [t] g) : CT t g := by
  obtain ⟨gs, k1, k2⟩ := h
  simp only [CTs] at k1
  obtain ⟨g, gs', rfl, hg, rfl⟩ := k1
  simp at k2
  rw [← k2]; exact hg
theorem t_agg1 {t : Ty} {g : GV} (h : ET true [t] g) : ∃ x, g = .agg [x] ∧ CT t x := by
  obtain ⟨gs, k1, k2⟩ := h
  simp only [CTs] at k1
  obtain ⟨g, gs', rfl, hg, rfl⟩ := k1
  exact ⟨g, by simpa using k2, hg⟩
theorem c_sl {ag : Bool} {ts : List Ty} {α : Type} {f : α → GV} {ok : α → Prop} {g : GV} (h : CT (.sl ag ts) g) (he : ∀ e, ET ag ts e → ∃ a, e = f a ∧ ok a) : ∃ l : List α, g = .sl ts.length (l.map f) ∧ ∀ a ∈ l, ok a := by
  simp only [CT] at h
  obtain ⟨es, rfl, _, hs⟩ := h
  obtain ⟨l, rfl, hl⟩ := list_of (f := f) (ok := ok) fun e hm => he e (hs e hm)
  exact ⟨l, rfl, hl⟩
theorem t_Nod {g : GV} (h : ET true [.int .i64, .int .i64, .int .i64, .int .i64, .str, .sl false [.int .i64]] g) : ∃ x : Nod, g = Nd x ∧ x.rule.size ≤ maxLen := by
  obtain ⟨gs, k1, k2⟩ := h
  rw [CTs] at k1
  obtain ⟨g1, _, rfl, h1, k1⟩ := k1
  rw [CTs] at k1
  obtain ⟨g2, _, rfl, h2, k1⟩ := k1
  rw [CTs] at k1
  obtain ⟨g3, _, rfl, h3, k1⟩ := k1
  rw [CTs] at k1
  obtain ⟨g4, _, rfl, h4, k1⟩ := k1
  rw [CTs] at k1
  obtain ⟨g5, _, rfl, h5, k1⟩ := k1
  rw [CTs] at k1
  obtain ⟨g6, _, rfl, h6, k1⟩ := k1
  simp only [CTs] at k1
  subst k1
  obtain ⟨xs, rfl⟩ := c_ints h6
  simp only [CT] at h1 h2 h3 h4 h5
  obtain ⟨n1, rfl, _⟩ := h1
  obtain ⟨n2, rfl, _⟩ := h2
  obtain ⟨n3, rfl, _⟩ := h3
  obtain ⟨n4, rfl, _⟩ := h4
  obtain ⟨s, rfl, hs⟩ := h5
  exact ⟨⟨n1, n2, n3, n4, s, xs⟩, by simpa using k2, hs⟩
theorem t_Tr {g : GV} (h : ET true [.sl true [.int .i64, .int .i64, .int .i64, .int .i64, .str, .sl false [.int .i64]]] g) : ∃ t : List Nod, g = Tr t ∧ ∀ x ∈ t, x.rule.size ≤ maxLen := by
  obtain ⟨x, rfl, hx⟩ := t_agg1 h
  obtain ⟨l, rfl, hl⟩ := c_sl hx fun e he => t_Nod he
  exact ⟨l, rfl, hl⟩
theorem t_Slt {g : GV} (h : ET true [.int .i64, .str, .int .i64] g) : ∃ x : Slo, g = Slt x ∧ x.name.size ≤ maxLen := by
  obtain ⟨gs, k1, k2⟩ := h
  simp only [CTs, CT] at k1
  obtain ⟨g1, _, rfl, ⟨n, rfl, _⟩, g2, _, rfl, ⟨s, rfl, hs⟩, g3, _, rfl, ⟨m, rfl, _⟩, rfl⟩ := k1
  exact ⟨⟨n, s, m⟩, by simpa using k2, hs⟩
theorem t_SltS {g : GV} (h : ET false [.sl true [.int .i64, .str, .int .i64]] g) : ∃ l : List Slo, g = SltS l ∧ ∀ x ∈ l, x.name.size ≤ maxLen := by
  obtain ⟨l, rfl, hl⟩ := c_sl (t_one h) fun e he => t_Slt he
  exact ⟨l, rfl, hl⟩
theorem t_Occ {g : GV} (h : ET true [.int .i64, .str] g) : ∃ x : Int × ByteArray, g = Occ x ∧ x.2.size ≤ maxLen := by
  obtain ⟨gs, k1, k2⟩ := h
  simp only [CTs, CT] at k1
  obtain ⟨g1, gs', rfl, ⟨n, rfl, _⟩, g2, gs'', rfl, ⟨s, rfl, hs⟩, rfl⟩ := k1
  exact ⟨(n, s), by simpa using k2, hs⟩
end Go.Gh

namespace Go.Proofs.Ytpnkabohkmabmaa
open Go.Gh

def g9 : GFun := ⟨⟨74, [2,7]⟩,
  (.seq (.reg [(.mk (some 2) none (.boxro 1 (.t 0))), (.mk (some 4) none (.mov (.k (.val (.bool false)))))]) (.seq (.reg [(.mk (some 5) none (.mov (.k (.val (.int .i64 1048576)))))]) (.seq (.reg [(.mk (some 13) none
  (.load 1 true (.t 2))), (.mk (some 14) none (.mov (.t 5))), (.mk (some 15) none (.call false 21 [(.t 13), (.t 14)])), (.mk (some 5) none (.mov (.t 15)))]) (.seq (.seq (.reg [(.mk (some 16) none (.mov (.t 5))), (.mk
  (some 17) none (.bin .lss (.t 16) (.k (.val (.int .i64 0)))))]) (.cond 17 (.seq (.reg [(.mk (some 4) none (.mov (.k (.val (.bool true)))))]) .ret) .skip)) (.seq (.reg [(.mk (some 18) none (.load 1 true (.t 2))), (.mk
  (some 19) none (.call false 23 [(.t 18)])), (.mk (some 20) none (.mov (.t 1))), (.mk (some 21) none (.call false 34 [(.t 19), (.t 20)])), (.mk (some 6) none (.mov (.t 21)))]) (.seq (.reg [(.mk (some 22) none (.load 1
  true (.t 2))), (.mk (some 23) none (.call false 23 [(.t 22)])), (.mk (some 7) none (.allocr 1)), (.mk (some 7) none (.stro 1 7 (.t 23)))]) (.seq (.reg [(.mk (some 24) none (.load 1 true (.t 7))), (.mk (some 25) none
  (.mov (.t 1))), (.mk (some 26) none (.call false 35 [(.t 24), (.t 25)])), (.mk (some 8) none (.mov (.t 26)))]) (.seq (.seq (.reg [(.mk (some 27) none (.mov (.t 8))), (.mk (some 28) none (.mov (.t 6))), (.mk (some 29)
  none (.call false 36 [(.t 27), (.t 28)])), (.mk (some 30) none (.not (.t 29)))]) (.cond 30 (.seq (.reg [(.mk (some 4) none (.mov (.k (.val (.bool false)))))]) .ret) .skip)) (.seq (.seq (.reg [(.mk (some 31) none
  (.load 1 true (.t 7))), (.mk (some 32) none (.load 1 true (.t 2))), (.mk (some 33) none (.call true 23 [(.t 32)])), (.mk (some 34) none (.call true 25 [(.t 31), (.t 33)])), (.mk (some 35) none (.not (.t 34)))]) (.cond
  35 (.seq (.reg [(.mk (some 4) none (.mov (.k (.val (.bool false)))))]) .ret) .skip)) (.seq (.reg [(.mk (some 9) none (.mov (.k (.val (.int .i64 1)))))]) (.seq (.reg [(.mk (some 36) none (.load 1 true (.t 7))), (.mk
  (some 37) none (.mov (.t 9))), (.mk (some 38) none (.call false 37 [(.t 36), (.t 37)])), (.mk (some 9) none (.mov (.t 38)))]) (.seq (.seq (.reg [(.mk (some 39) none (.mov (.t 9))), (.mk (some 40) none (.bin .lss (.t
  39) (.k (.val (.int .i64 0))))), (.mk (some 41) none (.mov (.t 40))), (.mk (some 42) (some (41, false)) (.mov (.t 8))), (.mk (some 43) (some (41, false)) (.mov (.t 6))), (.mk (some 44) (some (41, false)) (.call false
  36 [(.t 42), (.t 43)])), (.mk (some 45) (some (41, false)) (.not (.t 44))), (.mk (some 46) none (.pick (.t 41) (.k (.val (.bool true))) (.t 45)))]) (.cond 46 (.seq (.reg [(.mk (some 4) none (.mov (.k (.val (.bool
  false)))))]) .ret) .skip)) (.seq (.reg [(.mk (some 10) none (.mov (.k (.val (.int .i64 1)))))]) (.seq (.reg [(.mk (some 47) none (.mov (.t 8))), (.mk (some 48) none (.mov (.t 10))), (.mk (some 49) none (.call false 38
  [(.t 47), (.t 48)])), (.mk (some 10) none (.mov (.t 49)))]) (.seq (.reg [(.mk (some 11) none (.mov (.k (.val (.int .i64 1)))))]) (.seq (.reg [(.mk (some 50) none (.mov (.t 8))), (.mk (some 51) none (.mov (.t 11))),
  (.mk (some 52) none (.call false 39 [(.t 50), (.t 51)])), (.mk (some 11) none (.mov (.t 52)))]) (.seq (.seq (.reg [(.mk (some 53) none (.mov (.t 11))), (.mk (some 54) none (.bin .lss (.t 53) (.k (.val (.int .i64
  0)))))]) (.cond 54 (.seq (.reg [(.mk (some 4) none (.mov (.k (.val (.bool false)))))]) .ret) .skip)) (.seq (.seq (.reg [(.mk (some 55) none (.mov (.t 11))), (.mk (some 56) none (.mov (.t 10))), (.mk (some 57) none
  (.bin .neq (.t 55) (.t 56)))]) (.cond 57 (.seq (.reg [(.mk (some 4) none (.mov (.k (.val (.bool false)))))]) .ret) .skip)) (.seq (.reg [(.mk (some 58) none (.load 1 true (.t 2))), (.mk (some 59) none (.call false 23
  [(.t 58)])), (.mk (some 60) none (.mov (.t 1))), (.mk (some 61) none (.call false 35 [(.t 59), (.t 60)])), (.mk (some 12) none (.mov (.t 61)))]) (.seq (.seq (.reg [(.mk (some 62) none (.mov (.t 12))), (.mk (some 63)
  none (.mov (.t 6))), (.mk (some 64) none (.call false 36 [(.t 62), (.t 63)])), (.mk (some 65) none (.not (.t 64)))]) (.cond 65 (.seq (.reg [(.mk (some 4) none (.mov (.k (.val (.bool false)))))]) .ret) .skip)) (.seq
  (.reg [(.mk (some 11) none (.mov (.k (.val (.int .i64 1)))))]) (.seq (.reg [(.mk (some 66) none (.mov (.t 8))), (.mk (some 67) none (.mov (.t 11))), (.mk (some 68) none (.call false 39 [(.t 66), (.t 67)])), (.mk (some
  11) none (.mov (.t 68)))]) (.seq (.seq (.reg [(.mk (some 69) none (.mov (.t 11))), (.mk (some 70) none (.bin .lss (.t 69) (.k (.val (.int .i64 0)))))]) (.cond 70 (.seq (.reg [(.mk (some 4) none (.mov (.k (.val (.bool
  false)))))]) .ret) .skip)) (.seq (.seq (.reg [(.mk (some 71) none (.mov (.t 11))), (.mk (some 72) none (.mov (.t 10))), (.mk (some 73) none (.bin .neq (.t 71) (.t 72)))]) (.cond 73 (.seq (.reg [(.mk (some 4) none
  (.mov (.k (.val (.bool false)))))]) .ret) .skip)) (.seq (.reg [(.mk (some 4) none (.mov (.k (.val (.bool true)))))]) .ret))))))))))))))))))))))))),
  [(.t 4)]⟩
theorem i9 : IsFun Try.prog 9 g9 := ⟨Try.f9, _, [], Try.func9, by kernel_rfl, rfl, by kernel_rfl, by kernel_rfl, rfl⟩

def g21 : GFun := ⟨⟨12, [2]⟩,
  (.seq (.reg [(.mk (some 2) none (.boxro 1 (.t 0))), (.mk (some 4) none (.mov (.k (.val (.int .i64 0)))))]) (.seq (.reg [(.mk (some 5) none (.faddr 0 1 false (.t 2))), (.mk (some 6) none (.load 1 false (.t 5))), (.mk
  (some 7) none (.mov (.t 1))), (.mk (some 8) none (.call false 56 [(.t 6), (.t 7)])), (.mk (some 1) none (.mov (.t 8)))]) (.seq (.seq (.reg [(.mk (some 9) none (.mov (.t 1))), (.mk (some 10) none (.bin .lss (.t 9) (.k
  (.val (.int .i64 0)))))]) (.cond 10 (.seq (.reg [(.mk (some 4) none (.mov (.k (.val (.int .i64 (-1))))))]) .ret) .skip)) (.seq (.reg [(.mk (some 11) none (.mov (.t 1))), (.mk (some 4) none (.mov (.t 11)))]) .ret)))),
  [(.t 4)]⟩
theorem i21 : IsFun Try.prog 21 g21 := ⟨Try.f21, _, [], Try.func21, by kernel_rfl, rfl, by kernel_rfl, by kernel_rfl, rfl⟩

def g23 : GFun := ⟨⟨9, [1,2]⟩,
  (.seq (.reg [(.mk (some 1) none (.boxro 1 (.t 0))), (.mk (some 2) none (.allocr 1))]) (.seq (.reg [(.mk (some 3) none (.alloc 1 (.agg [(.val (.slice none 0 0))])))]) (.seq (.reg [(.mk (some 4) none (.faddr 0 1 false
  (.t 1))), (.mk (some 5) none (.load 1 false (.t 4))), (.mk (some 6) none (.call false 57 [(.t 5)])), (.mk (some 7) none (.faddr 0 1 false (.t 3))), (.mk none none (.store 1 (.t 7) (.t 6)))]) (.seq (.reg [(.mk (some 8)
  none (.load 1 true (.t 3))), (.mk (some 2) none (.stro 1 2 (.t 8)))]) .ret)))),
  [(.c 2 1 true)]⟩
theorem i23 : IsFun Try.prog 23 g23 := ⟨Try.f23, _, [], Try.func23, by kernel_rfl, rfl, by kernel_rfl, by kernel_rfl, rfl⟩

def g25 : GFun := ⟨⟨11, [2,3]⟩,
  (.seq (.reg [(.mk (some 2) none (.boxro 1 (.t 0))), (.mk (some 3) none (.boxro 1 (.t 1))), (.mk (some 4) none (.mov (.k (.val (.bool false)))))]) (.seq (.seq (.reg [(.mk (some 5) none (.faddr 0 1 false (.t 2))), (.mk
  (some 6) none (.load 1 false (.t 5))), (.mk (some 7) none (.faddr 0 1 false (.t 3))), (.mk (some 8) none (.load 1 false (.t 7))), (.mk (some 9) none (.call false 60 [(.t 6), (.t 8)])), (.mk (some 10) none (.not (.t
  9)))]) (.cond 10 (.seq (.reg [(.mk (some 4) none (.mov (.k (.val (.bool false)))))]) .ret) .skip)) (.seq (.reg [(.mk (some 4) none (.mov (.k (.val (.bool true)))))]) .ret))),
  [(.t 4)]⟩
theorem i25 : IsFun Try.prog 25 g25 := ⟨Try.f25, _, [], Try.func25, by kernel_rfl, rfl, by kernel_rfl, by kernel_rfl, rfl⟩

def g34 : GFun := ⟨⟨62, [2]⟩,
  (.seq (.reg [(.mk (some 2) none (.boxro 1 (.t 0))), (.mk (some 4) none (.mov (.k (.val (.slice none 0 0)))))]) (.seq (.reg [(.mk (some 8) none (.bslice 1 [] 0 false [])), (.mk (some 5) none (.mov (.t 8)))]) (.seq
  (.seq (.reg [(.mk (some 9) none (.mov (.t 1))), (.mk (some 10) none (.faddr 0 1 false (.t 2))), (.mk (some 11) none (.load 1 false (.t 10))), (.mk (some 12) none (.len (.t 11))), (.mk (some 13) none (.bin .sub (.t 12)
  (.k (.val (.int .i64 1))))), (.mk (some 14) none (.call false 61 [(.t 9), (.k (.val (.int .i64 0))), (.t 13)])), (.mk (some 15) none (.not (.t 14)))]) (.cond 15 (.seq (.reg [(.mk (some 16) none (.mov (.t 5))), (.mk
  (some 4) none (.mov (.t 16)))]) .ret) .skip)) (.seq (.reg [(.mk (some 17) none (.mov (.t 5))), (.mk (some 18) none (.faddr 0 1 false (.t 2))), (.mk (some 19) none (.load 1 false (.t 18))), (.mk (some 20) none (.mov
  (.t 1))), (.mk (some 21) none (.iaddr 6 (.t 19) (.t 20))), (.mk (some 22) none (.faddr 0 1 false (.t 21))), (.mk (some 23) none (.load 1 false (.t 22))), (.mk (some 24) none (.bslice 1 [] 1 false [(0, (.t 23))])),
  (.mk (some 25) none (.append 1 8 (.t 17) (.t 24))), (.mk (some 5) none (.mov (.t 25)))]) (.seq (.seq (.reg [(.mk (some 6) none (.mov (.k (.val (.int .i64 0)))))]) (.block 0 (.loop (.seq (.seq (.reg [(.mk (some 26)
  none (.mov (.t 6))), (.mk (some 27) none (.faddr 0 1 false (.t 2))), (.mk (some 28) none (.load 1 false (.t 27))), (.mk (some 29) none (.mov (.t 1))), (.mk (some 30) none (.iaddr 6 (.t 28) (.t 29))), (.mk (some 31)
  none (.faddr 5 1 false (.t 30))), (.mk (some 32) none (.load 1 false (.t 31))), (.mk (some 33) none (.len (.t 32))), (.mk (some 34) none (.bin .lss (.t 26) (.t 33)))]) (.cond 34 .skip (.exit 0))) (.seq (.block 1 (.seq
  (.reg [(.mk (some 37) none (.faddr 0 1 false (.t 2))), (.mk (some 38) none (.load 1 false (.t 37))), (.mk (some 39) none (.mov (.t 1))), (.mk (some 40) none (.iaddr 6 (.t 38) (.t 39))), (.mk (some 41) none (.faddr 5 1
  false (.t 40))), (.mk (some 42) none (.load 1 false (.t 41))), (.mk (some 43) none (.mov (.t 6))), (.mk (some 44) none (.iaddr 1 (.t 42) (.t 43))), (.mk (some 45) none (.load 1 false (.t 44))), (.mk (some 7) none
  (.mov (.t 45)))]) (.seq (.reg [(.mk (some 46) none (.mov (.t 7))), (.mk (some 47) none (.faddr 0 1 false (.t 2))), (.mk (some 48) none (.load 1 false (.t 47))), (.mk (some 49) none (.len (.t 48))), (.mk (some 50) none
  (.bin .sub (.t 49) (.k (.val (.int .i64 1))))), (.mk (some 51) none (.call false 61 [(.t 46), (.k (.val (.int .i64 0))), (.t 50)]))]) (.cond 51 (.reg [(.mk (some 52) none (.mov (.t 5))), (.mk (some 53) none (.faddr 0
  1 false (.t 2))), (.mk (some 54) none (.load 1 false (.t 53))), (.mk (some 55) none (.mov (.t 7))), (.mk (some 56) none (.iaddr 6 (.t 54) (.t 55))), (.mk (some 57) none (.faddr 0 1 false (.t 56))), (.mk (some 58) none
  (.load 1 false (.t 57))), (.mk (some 59) none (.bslice 1 [] 1 false [(0, (.t 58))])), (.mk (some 60) none (.append 1 8 (.t 52) (.t 59))), (.mk (some 5) none (.mov (.t 60)))]) .skip)))) (.reg [(.mk (some 35) none (.mov
  (.t 6))), (.mk (some 36) none (.bin .add (.t 35) (.k (.val (.int .i64 1))))), (.mk (some 6) none (.mov (.t 36)))])))))) (.seq (.reg [(.mk (some 61) none (.mov (.t 5))), (.mk (some 4) none (.mov (.t 61)))]) .ret)))))),
  [(.t 4)]⟩
theorem i34 : IsFun Try.prog 34 g34 := ⟨Try.f34, _, [], Try.func34, by kernel_rfl, rfl, by kernel_rfl, by kernel_rfl, rfl⟩

def g35 : GFun := ⟨⟨42, [2]⟩,
  (.seq (.reg [(.mk (some 2) none (.boxro 1 (.t 0))), (.mk (some 4) none (.mov (.k (.val (.slice none 0 0)))))]) (.seq (.reg [(.mk (some 8) none (.bslice 1 [] 0 false [])), (.mk (some 5) none (.mov (.t 8)))]) (.seq
  (.seq (.reg [(.mk (some 9) none (.load 1 true (.t 2))), (.mk (some 10) none (.mov (.t 1))), (.mk (some 11) none (.call false 62 [(.t 9), (.t 10)])), (.mk (some 12) none (.not (.t 11)))]) (.cond 12 (.seq (.reg [(.mk
  (some 13) none (.mov (.t 5))), (.mk (some 4) none (.mov (.t 13)))]) .ret) .skip)) (.seq (.seq (.reg [(.mk (some 14) none (.mov (.t 1))), (.mk (some 15) none (.bslice 1 [] 1 false [(0, (.t 14))])), (.mk (some 16) none
  (.faddr 0 1 false (.t 2))), (.mk (some 17) none (.load 1 false (.t 16))), (.mk (some 18) none (.mov (.t 1))), (.mk (some 19) none (.iaddr 6 (.t 17) (.t 18))), (.mk (some 20) none (.faddr 5 1 false (.t 19))), (.mk
  (some 21) none (.load 1 false (.t 20))), (.mk (some 22) none (.append 1 8 (.t 15) (.t 21))), (.mk (some 23) none (.len (.t 22))), (.mk (some 24) none (.mov (.k (.val (.int .i64 0)))))]) (.block 0 (.loop (.seq (.reg
  [(.mk (some 25) none (.bin .lss (.t 24) (.t 23)))]) (.seq (.cond 25 .skip (.exit 0)) (.seq (.block 1 (.seq (.reg [(.mk (some 26) none (.iaddr 1 (.t 22) (.t 24))), (.mk (some 27) none (.load 1 false (.t 26))), (.mk
  (some 7) none (.mov (.t 27)))]) (.seq (.reg [(.mk (some 28) none (.load 1 true (.t 2))), (.mk (some 29) none (.mov (.t 7))), (.mk (some 30) none (.call false 62 [(.t 28), (.t 29)]))]) (.cond 30 (.reg [(.mk (some 31)
  none (.mov (.t 5))), (.mk (some 32) none (.faddr 0 1 false (.t 2))), (.mk (some 33) none (.load 1 false (.t 32))), (.mk (some 34) none (.mov (.t 7))), (.mk (some 35) none (.iaddr 6 (.t 33) (.t 34))), (.mk (some 36)
  none (.faddr 0 1 false (.t 35))), (.mk (some 37) none (.load 1 false (.t 36))), (.mk (some 38) none (.bslice 1 [] 1 false [(0, (.t 37))])), (.mk (some 39) none (.append 1 8 (.t 31) (.t 38))), (.mk (some 5) none (.mov
  (.t 39)))]) .skip)))) (.reg [(.mk (some 40) none (.bin .add (.t 24) (.k (.val (.int .i64 1))))), (.mk (some 24) none (.mov (.t 40)))]))))))) (.seq (.reg [(.mk (some 41) none (.mov (.t 5))), (.mk (some 4) none (.mov
  (.t 41)))]) .ret))))),
  [(.t 4)]⟩
theorem i35 : IsFun Try.prog 35 g35 := ⟨Try.f35, _, [], Try.func35, by kernel_rfl, rfl, by kernel_rfl, by kernel_rfl, rfl⟩

def g36 : GFun := ⟨⟨26, []⟩,
  (.seq (.reg [(.mk (some 4) none (.mov (.k (.val (.bool false)))))]) (.seq (.seq (.reg [(.mk (some 6) none (.mov (.t 0))), (.mk (some 7) none (.len (.t 6))), (.mk (some 8) none (.mov (.t 1))), (.mk (some 9) none (.len
  (.t 8))), (.mk (some 10) none (.bin .neq (.t 7) (.t 9)))]) (.cond 10 (.seq (.reg [(.mk (some 4) none (.mov (.k (.val (.bool false)))))]) .ret) .skip)) (.seq (.seq (.reg [(.mk (some 5) none (.mov (.k (.val (.int .i64
  0)))))]) (.block 0 (.loop (.seq (.seq (.reg [(.mk (some 11) none (.mov (.t 5))), (.mk (some 12) none (.mov (.t 0))), (.mk (some 13) none (.len (.t 12))), (.mk (some 14) none (.bin .lss (.t 11) (.t 13)))]) (.cond 14
  .skip (.exit 0))) (.seq (.block 1 (.seq (.reg [(.mk (some 17) none (.mov (.t 0))), (.mk (some 18) none (.mov (.t 5))), (.mk (some 19) none (.iaddr 1 (.t 17) (.t 18))), (.mk (some 21) none (.mov (.t 1))), (.mk (some
  22) none (.mov (.t 5))), (.mk (some 23) none (.iaddr 1 (.t 21) (.t 22))), (.mk (some 20) none (.load 1 false (.t 19))), (.mk (some 24) none (.load 1 false (.t 23))), (.mk (some 25) none (.bin .neq (.t 20) (.t 24)))])
  (.cond 25 (.seq (.reg [(.mk (some 4) none (.mov (.k (.val (.bool false)))))]) .ret) .skip))) (.reg [(.mk (some 15) none (.mov (.t 5))), (.mk (some 16) none (.bin .add (.t 15) (.k (.val (.int .i64 1))))), (.mk (some 5)
  none (.mov (.t 16)))])))))) (.seq (.reg [(.mk (some 4) none (.mov (.k (.val (.bool true)))))]) .ret)))),
  [(.t 4)]⟩
theorem i36 : IsFun Try.prog 36 g36 := ⟨Try.f36, _, [], Try.func36, by kernel_rfl, rfl, by kernel_rfl, by kernel_rfl, rfl⟩

def g37 : GFun := ⟨⟨10, [2]⟩,
  (.seq (.reg [(.mk (some 2) none (.boxro 1 (.t 0))), (.mk (some 4) none (.mov (.k (.val (.int .i64 0)))))]) (.seq (.reg [(.mk (some 5) none (.faddr 0 1 false (.t 2))), (.mk (some 6) none (.load 1 false (.t 5))), (.mk
  (some 7) none (.mov (.t 1))), (.mk (some 8) none (.call false 66 [(.t 6), (.t 7)])), (.mk (some 1) none (.mov (.t 8)))]) (.seq (.reg [(.mk (some 9) none (.mov (.t 1))), (.mk (some 4) none (.mov (.t 9)))]) .ret))),
  [(.t 4)]⟩
theorem i37 : IsFun Try.prog 37 g37 := ⟨Try.f37, _, [], Try.func37, by kernel_rfl, rfl, by kernel_rfl, by kernel_rfl, rfl⟩

def g38 : GFun := ⟨⟨19, []⟩,
  (.seq (.reg [(.mk (some 4) none (.mov (.k (.val (.int .i64 0)))))]) (.seq (.seq (.reg [(.mk (some 5) none (.mov (.k (.val (.int .i64 0)))))]) (.block 0 (.loop (.seq (.seq (.reg [(.mk (some 6) none (.mov (.t 5))), (.mk
  (some 7) none (.mov (.t 0))), (.mk (some 8) none (.len (.t 7))), (.mk (some 9) none (.bin .lss (.t 6) (.t 8)))]) (.cond 9 .skip (.exit 0))) (.seq (.block 1 (.seq (.reg [(.mk (some 12) none (.mov (.t 0))), (.mk (some
  13) none (.mov (.t 5))), (.mk (some 14) none (.mov (.t 1))), (.mk (some 15) none (.iaddr 1 (.t 12) (.t 13))), (.mk none none (.store 1 (.t 15) (.t 14)))]) (.reg [(.mk (some 16) none (.mov (.t 1))), (.mk (some 17) none
  (.bin .add (.t 16) (.k (.val (.int .i64 1))))), (.mk (some 1) none (.mov (.t 17)))]))) (.reg [(.mk (some 10) none (.mov (.t 5))), (.mk (some 11) none (.bin .add (.t 10) (.k (.val (.int .i64 1))))), (.mk (some 5) none
  (.mov (.t 11)))])))))) (.seq (.reg [(.mk (some 18) none (.mov (.t 1))), (.mk (some 4) none (.mov (.t 18)))]) .ret))),
  [(.t 4)]⟩
theorem i38 : IsFun Try.prog 38 g38 := ⟨Try.f38, _, [], Try.func38, by kernel_rfl, rfl, by kernel_rfl, by kernel_rfl, rfl⟩

def g39 : GFun := ⟨⟨21, []⟩,
  (.seq (.reg [(.mk (some 4) none (.mov (.k (.val (.int .i64 0)))))]) (.seq (.seq (.reg [(.mk (some 5) none (.mov (.k (.val (.int .i64 0)))))]) (.block 0 (.loop (.seq (.seq (.reg [(.mk (some 6) none (.mov (.t 5))), (.mk
  (some 7) none (.mov (.t 0))), (.mk (some 8) none (.len (.t 7))), (.mk (some 9) none (.bin .lss (.t 6) (.t 8)))]) (.cond 9 .skip (.exit 0))) (.seq (.block 1 (.seq (.seq (.reg [(.mk (some 12) none (.mov (.t 0))), (.mk
  (some 13) none (.mov (.t 5))), (.mk (some 14) none (.iaddr 1 (.t 12) (.t 13))), (.mk (some 15) none (.load 1 false (.t 14))), (.mk (some 16) none (.mov (.t 1))), (.mk (some 17) none (.bin .neq (.t 15) (.t 16)))])
  (.cond 17 (.seq (.reg [(.mk (some 4) none (.mov (.k (.val (.int .i64 (-1))))))]) .ret) .skip)) (.reg [(.mk (some 18) none (.mov (.t 1))), (.mk (some 19) none (.bin .add (.t 18) (.k (.val (.int .i64 1))))), (.mk (some
  1) none (.mov (.t 19)))]))) (.reg [(.mk (some 10) none (.mov (.t 5))), (.mk (some 11) none (.bin .add (.t 10) (.k (.val (.int .i64 1))))), (.mk (some 5) none (.mov (.t 11)))])))))) (.seq (.reg [(.mk (some 20) none
  (.mov (.t 1))), (.mk (some 4) none (.mov (.t 20)))]) .ret))),
  [(.t 4)]⟩
theorem i39 : IsFun Try.prog 39 g39 := ⟨Try.f39, _, [], Try.func39, by kernel_rfl, rfl, by kernel_rfl, by kernel_rfl, rfl⟩

def g51 : GFun := ⟨⟨22, []⟩,
  (.seq (.reg [(.mk (some 2) none (.mov (.k (.val (.slice none 0 0)))))]) (.seq (.reg [(.mk (some 5) none (.mov (.t 0))), (.mk (some 6) none (.len (.t 5))), (.mk (some 7) none (.mkslice 1 8 (.val (.int .i64 0)) (.t 6)
  (.t 6))), (.mk (some 3) none (.mov (.t 7)))]) (.seq (.seq (.reg [(.mk (some 4) none (.mov (.k (.val (.int .i64 0)))))]) (.block 0 (.loop (.seq (.seq (.reg [(.mk (some 8) none (.mov (.t 4))), (.mk (some 9) none (.mov
  (.t 0))), (.mk (some 10) none (.len (.t 9))), (.mk (some 11) none (.bin .lss (.t 8) (.t 10)))]) (.cond 11 .skip (.exit 0))) (.seq (.block 1 (.reg [(.mk (some 14) none (.mov (.t 3))), (.mk (some 15) none (.mov (.t
  4))), (.mk (some 16) none (.mov (.t 0))), (.mk (some 17) none (.mov (.t 4))), (.mk (some 18) none (.iaddr 1 (.t 16) (.t 17))), (.mk (some 19) none (.load 1 false (.t 18))), (.mk (some 20) none (.iaddr 1 (.t 14) (.t
  15))), (.mk none none (.store 1 (.t 20) (.t 19)))])) (.reg [(.mk (some 12) none (.mov (.t 4))), (.mk (some 13) none (.bin .add (.t 12) (.k (.val (.int .i64 1))))), (.mk (some 4) none (.mov (.t 13)))])))))) (.seq (.reg
  [(.mk (some 21) none (.mov (.t 3))), (.mk (some 2) none (.mov (.t 21)))]) .ret)))),
  [(.t 2)]⟩
theorem i51 : IsFun Try.prog 51 g51 := ⟨Try.f51, _, [], Try.func51, by kernel_rfl, rfl, by kernel_rfl, by kernel_rfl, rfl⟩

def g56 : GFun := ⟨⟨27, []⟩,
  (.seq (.reg [(.mk (some 4) none (.mov (.k (.val (.int .i64 0)))))]) (.seq (.reg [(.mk (some 6) none (.mov (.t 1))), (.mk (some 7) none (.mov (.t 0))), (.mk (some 8) none (.len (.t 7))), (.mk (some 9) none (.bin .sub
  (.t 6) (.t 8))), (.mk (some 1) none (.mov (.t 9)))]) (.seq (.seq (.reg [(.mk (some 10) none (.mov (.t 1))), (.mk (some 11) none (.bin .lss (.t 10) (.k (.val (.int .i64 0)))))]) (.cond 11 (.seq (.reg [(.mk (some 4)
  none (.mov (.k (.val (.int .i64 (-1))))))]) .ret) .skip)) (.seq (.seq (.reg [(.mk (some 5) none (.mov (.k (.val (.int .i64 0)))))]) (.block 0 (.loop (.seq (.seq (.reg [(.mk (some 12) none (.mov (.t 5))), (.mk (some
  13) none (.mov (.t 0))), (.mk (some 14) none (.len (.t 13))), (.mk (some 15) none (.bin .lss (.t 12) (.t 14)))]) (.cond 15 .skip (.exit 0))) (.seq (.block 1 (.seq (.reg [(.mk (some 18) none (.mov (.t 0))), (.mk (some
  19) none (.mov (.t 5))), (.mk (some 20) none (.iaddr 6 (.t 18) (.t 19))), (.mk (some 21) none (.load 6 true (.t 20))), (.mk (some 22) none (.mov (.t 1))), (.mk (some 23) none (.call false 89 [(.t 21), (.t 22)])), (.mk
  (some 1) none (.mov (.t 23)))]) (.seq (.reg [(.mk (some 24) none (.mov (.t 1))), (.mk (some 25) none (.bin .lss (.t 24) (.k (.val (.int .i64 0)))))]) (.cond 25 (.seq (.reg [(.mk (some 4) none (.mov (.k (.val (.int
  .i64 (-1))))))]) .ret) .skip)))) (.reg [(.mk (some 16) none (.mov (.t 5))), (.mk (some 17) none (.bin .add (.t 16) (.k (.val (.int .i64 1))))), (.mk (some 5) none (.mov (.t 17)))])))))) (.seq (.reg [(.mk (some 26)
  none (.mov (.t 1))), (.mk (some 4) none (.mov (.t 26)))]) .ret))))),
  [(.t 4)]⟩
theorem i56 : IsFun Try.prog 56 g56 := ⟨Try.f56, _, [], Try.func56, by kernel_rfl, rfl, by kernel_rfl, by kernel_rfl, rfl⟩

def g57 : GFun := ⟨⟨23, []⟩,
  (.seq (.reg [(.mk (some 2) none (.mov (.k (.val (.slice none 0 0)))))]) (.seq (.reg [(.mk (some 5) none (.mov (.t 0))), (.mk (some 6) none (.len (.t 5))), (.mk (some 7) none (.mkslice 6 72 (.agg [(.val (.int .i64 0)),
  (.val (.int .i64 0)), (.val (.int .i64 0)), (.val (.int .i64 0)), (.val (.string (ByteArray.mk #[]))), (.val (.slice none 0 0))]) (.t 6) (.t 6))), (.mk (some 3) none (.mov (.t 7)))]) (.seq (.seq (.reg [(.mk (some 4)
  none (.mov (.k (.val (.int .i64 0)))))]) (.block 0 (.loop (.seq (.seq (.reg [(.mk (some 8) none (.mov (.t 4))), (.mk (some 9) none (.mov (.t 0))), (.mk (some 10) none (.len (.t 9))), (.mk (some 11) none (.bin .lss (.t
  8) (.t 10)))]) (.cond 11 .skip (.exit 0))) (.seq (.block 1 (.reg [(.mk (some 14) none (.mov (.t 3))), (.mk (some 15) none (.mov (.t 4))), (.mk (some 16) none (.mov (.t 0))), (.mk (some 17) none (.mov (.t 4))), (.mk
  (some 18) none (.iaddr 6 (.t 16) (.t 17))), (.mk (some 19) none (.load 6 true (.t 18))), (.mk (some 20) none (.call false 90 [(.t 19)])), (.mk (some 21) none (.iaddr 6 (.t 14) (.t 15))), (.mk none none (.store 6 (.t
  21) (.t 20)))])) (.reg [(.mk (some 12) none (.mov (.t 4))), (.mk (some 13) none (.bin .add (.t 12) (.k (.val (.int .i64 1))))), (.mk (some 4) none (.mov (.t 13)))])))))) (.seq (.reg [(.mk (some 22) none (.mov (.t
  3))), (.mk (some 2) none (.mov (.t 22)))]) .ret)))),
  [(.t 2)]⟩
theorem i57 : IsFun Try.prog 57 g57 := ⟨Try.f57, _, [], Try.func57, by kernel_rfl, rfl, by kernel_rfl, by kernel_rfl, rfl⟩

def g60 : GFun := ⟨⟨27, []⟩,
  (.seq (.reg [(.mk (some 4) none (.mov (.k (.val (.bool false)))))]) (.seq (.seq (.reg [(.mk (some 6) none (.mov (.t 0))), (.mk (some 7) none (.len (.t 6))), (.mk (some 8) none (.mov (.t 1))), (.mk (some 9) none (.len
  (.t 8))), (.mk (some 10) none (.bin .neq (.t 7) (.t 9)))]) (.cond 10 (.seq (.reg [(.mk (some 4) none (.mov (.k (.val (.bool false)))))]) .ret) .skip)) (.seq (.seq (.reg [(.mk (some 5) none (.mov (.k (.val (.int .i64
  0)))))]) (.block 0 (.loop (.seq (.seq (.reg [(.mk (some 11) none (.mov (.t 5))), (.mk (some 12) none (.mov (.t 0))), (.mk (some 13) none (.len (.t 12))), (.mk (some 14) none (.bin .lss (.t 11) (.t 13)))]) (.cond 14
  .skip (.exit 0))) (.seq (.block 1 (.seq (.reg [(.mk (some 17) none (.mov (.t 0))), (.mk (some 18) none (.mov (.t 5))), (.mk (some 19) none (.iaddr 6 (.t 17) (.t 18))), (.mk (some 21) none (.mov (.t 1))), (.mk (some
  22) none (.mov (.t 5))), (.mk (some 23) none (.iaddr 6 (.t 21) (.t 22))), (.mk (some 20) none (.load 6 true (.t 19))), (.mk (some 24) none (.load 6 true (.t 23))), (.mk (some 25) none (.call true 91 [(.t 20), (.t
  24)])), (.mk (some 26) none (.not (.t 25)))]) (.cond 26 (.seq (.reg [(.mk (some 4) none (.mov (.k (.val (.bool false)))))]) .ret) .skip))) (.reg [(.mk (some 15) none (.mov (.t 5))), (.mk (some 16) none (.bin .add (.t
  15) (.k (.val (.int .i64 1))))), (.mk (some 5) none (.mov (.t 16)))])))))) (.seq (.reg [(.mk (some 4) none (.mov (.k (.val (.bool true)))))]) .ret)))),
  [(.t 4)]⟩
theorem i60 : IsFun Try.prog 60 g60 := ⟨Try.f60, _, [], Try.func60, by kernel_rfl, rfl, by kernel_rfl, by kernel_rfl, rfl⟩

def g61 : GFun := ⟨⟨15, []⟩,
  (.seq (.reg [(.mk (some 6) none (.mov (.k (.val (.bool false)))))]) (.seq (.reg [(.mk (some 7) none (.mov (.t 0))), (.mk (some 8) none (.mov (.t 1))), (.mk (some 9) none (.bin .geq (.t 7) (.t 8))), (.mk (some 10) none
  (.mov (.t 9))), (.mk (some 11) (some (10, true)) (.mov (.t 0))), (.mk (some 12) (some (10, true)) (.mov (.t 2))), (.mk (some 13) (some (10, true)) (.bin .leq (.t 11) (.t 12))), (.mk (some 14) none (.pick (.t 10) (.t
  13) (.k (.val (.bool false))))), (.mk (some 6) none (.mov (.t 14)))]) .ret)),
  [(.t 6)]⟩
theorem i61 : IsFun Try.prog 61 g61 := ⟨Try.f61, _, [], Try.func61, by kernel_rfl, rfl, by kernel_rfl, by kernel_rfl, rfl⟩

def g62 : GFun := ⟨⟨11, [2]⟩,
  (.seq (.reg [(.mk (some 2) none (.boxro 1 (.t 0))), (.mk (some 4) none (.mov (.k (.val (.bool false)))))]) (.seq (.reg [(.mk (some 5) none (.mov (.t 1))), (.mk (some 6) none (.faddr 0 1 false (.t 2))), (.mk (some 7)
  none (.load 1 false (.t 6))), (.mk (some 8) none (.len (.t 7))), (.mk (some 9) none (.bin .sub (.t 8) (.k (.val (.int .i64 1))))), (.mk (some 10) none (.call false 74 [(.t 5), (.k (.val (.int .i64 0))), (.t 9)])),
  (.mk (some 4) none (.mov (.t 10)))]) .ret)),
  [(.t 4)]⟩
theorem i62 : IsFun Try.prog 62 g62 := ⟨Try.f62, _, [], Try.func62, by kernel_rfl, rfl, by kernel_rfl, by kernel_rfl, rfl⟩

def g66 : GFun := ⟨⟨56, []⟩,
  (.seq (.reg [(.mk (some 4) none (.mov (.k (.val (.int .i64 0)))))]) (.seq (.seq (.reg [(.mk (some 5) none (.mov (.k (.val (.int .i64 0)))))]) (.block 0 (.loop (.seq (.seq (.reg [(.mk (some 6) none (.mov (.t 5))), (.mk
  (some 7) none (.mov (.t 0))), (.mk (some 8) none (.len (.t 7))), (.mk (some 9) none (.bin .lss (.t 6) (.t 8)))]) (.cond 9 .skip (.exit 0))) (.seq (.block 1 (.seq (.reg [(.mk (some 12) none (.mov (.t 0))), (.mk (some
  13) none (.mov (.t 5))), (.mk (some 14) none (.mov (.t 1))), (.mk (some 15) none (.iaddr 6 (.t 12) (.t 13))), (.mk (some 16) none (.faddr 0 1 false (.t 15))), (.mk none none (.store 1 (.t 16) (.t 14)))]) (.seq (.reg
  [(.mk (some 17) none (.mov (.t 1))), (.mk (some 18) none (.bin .add (.t 17) (.k (.val (.int .i64 1))))), (.mk (some 1) none (.mov (.t 18)))]) (.seq (.reg [(.mk (some 19) none (.mov (.t 0))), (.mk (some 20) none (.mov
  (.t 5))), (.mk (some 21) none (.mov (.t 1))), (.mk (some 22) none (.iaddr 6 (.t 19) (.t 20))), (.mk (some 23) none (.faddr 1 1 false (.t 22))), (.mk none none (.store 1 (.t 23) (.t 21)))]) (.seq (.reg [(.mk (some 24)
  none (.mov (.t 1))), (.mk (some 25) none (.bin .add (.t 24) (.k (.val (.int .i64 1))))), (.mk (some 1) none (.mov (.t 25)))]) (.seq (.reg [(.mk (some 26) none (.mov (.t 0))), (.mk (some 27) none (.mov (.t 5))), (.mk
  (some 28) none (.mov (.t 1))), (.mk (some 29) none (.iaddr 6 (.t 26) (.t 27))), (.mk (some 30) none (.faddr 2 1 false (.t 29))), (.mk none none (.store 1 (.t 30) (.t 28)))]) (.seq (.reg [(.mk (some 31) none (.mov (.t
  1))), (.mk (some 32) none (.bin .add (.t 31) (.k (.val (.int .i64 1))))), (.mk (some 1) none (.mov (.t 32)))]) (.seq (.reg [(.mk (some 33) none (.mov (.t 0))), (.mk (some 34) none (.mov (.t 5))), (.mk (some 35) none
  (.mov (.t 1))), (.mk (some 36) none (.iaddr 6 (.t 33) (.t 34))), (.mk (some 37) none (.faddr 3 1 false (.t 36))), (.mk none none (.store 1 (.t 37) (.t 35)))]) (.seq (.reg [(.mk (some 38) none (.mov (.t 1))), (.mk
  (some 39) none (.bin .add (.t 38) (.k (.val (.int .i64 1))))), (.mk (some 1) none (.mov (.t 39)))]) (.seq (.reg [(.mk (some 40) none (.mov (.t 0))), (.mk (some 41) none (.mov (.t 5))), (.mk (some 42) none (.mov (.t
  1))), (.mk (some 43) none (.call false 96 [(.t 42)])), (.mk (some 44) none (.iaddr 6 (.t 40) (.t 41))), (.mk (some 45) none (.faddr 4 1 false (.t 44))), (.mk none none (.store 1 (.t 45) (.t 43)))]) (.seq (.reg [(.mk
  (some 46) none (.mov (.t 1))), (.mk (some 47) none (.bin .add (.t 46) (.k (.val (.int .i64 1))))), (.mk (some 1) none (.mov (.t 47)))]) (.reg [(.mk (some 48) none (.mov (.t 0))), (.mk (some 49) none (.mov (.t 5))),
  (.mk (some 50) none (.iaddr 6 (.t 48) (.t 49))), (.mk (some 51) none (.faddr 5 1 false (.t 50))), (.mk (some 52) none (.load 1 false (.t 51))), (.mk (some 53) none (.mov (.t 1))), (.mk (some 54) none (.call false 38
  [(.t 52), (.t 53)])), (.mk (some 1) none (.mov (.t 54)))])))))))))))) (.reg [(.mk (some 10) none (.mov (.t 5))), (.mk (some 11) none (.bin .add (.t 10) (.k (.val (.int .i64 1))))), (.mk (some 5) none (.mov (.t
  11)))])))))) (.seq (.reg [(.mk (some 55) none (.mov (.t 1))), (.mk (some 4) none (.mov (.t 55)))]) .ret))),
  [(.t 4)]⟩
theorem i66 : IsFun Try.prog 66 g66 := ⟨Try.f66, _, [], Try.func66, by kernel_rfl, rfl, by kernel_rfl, by kernel_rfl, rfl⟩

def g74 : GFun := ⟨⟨15, []⟩,
  (.seq (.reg [(.mk (some 6) none (.mov (.k (.val (.bool false)))))]) (.seq (.reg [(.mk (some 7) none (.mov (.t 0))), (.mk (some 8) none (.mov (.t 1))), (.mk (some 9) none (.bin .geq (.t 7) (.t 8))), (.mk (some 10) none
  (.mov (.t 9))), (.mk (some 11) (some (10, true)) (.mov (.t 0))), (.mk (some 12) (some (10, true)) (.mov (.t 2))), (.mk (some 13) (some (10, true)) (.bin .leq (.t 11) (.t 12))), (.mk (some 14) none (.pick (.t 10) (.t
  13) (.k (.val (.bool false))))), (.mk (some 6) none (.mov (.t 14)))]) .ret)),
  [(.t 6)]⟩
theorem i74 : IsFun Try.prog 74 g74 := ⟨Try.f74, _, [], Try.func74, by kernel_rfl, rfl, by kernel_rfl, by kernel_rfl, rfl⟩

def g89 : GFun := ⟨⟨19, [2]⟩,
  (.seq (.reg [(.mk (some 2) none (.boxro 6 (.t 0))), (.mk (some 4) none (.mov (.k (.val (.int .i64 0)))))]) (.seq (.reg [(.mk (some 5) none (.mov (.t 1))), (.mk (some 6) none (.faddr 4 1 false (.t 2))), (.mk (some 7)
  none (.load 1 false (.t 6))), (.mk (some 8) none (.slen (.t 7))), (.mk (some 9) none (.bin .sub (.t 5) (.t 8))), (.mk (some 1) none (.mov (.t 9)))]) (.seq (.seq (.reg [(.mk (some 10) none (.mov (.t 1))), (.mk (some
  11) none (.bin .lss (.t 10) (.k (.val (.int .i64 0)))))]) (.cond 11 (.seq (.reg [(.mk (some 4) none (.mov (.k (.val (.int .i64 (-1))))))]) .ret) .skip)) (.seq (.reg [(.mk (some 12) none (.faddr 5 1 false (.t 2))),
  (.mk (some 13) none (.load 1 false (.t 12))), (.mk (some 14) none (.mov (.t 1))), (.mk (some 15) none (.call false 109 [(.t 13), (.t 14)])), (.mk (some 1) none (.mov (.t 15)))]) (.seq (.seq (.reg [(.mk (some 16) none
  (.mov (.t 1))), (.mk (some 17) none (.bin .lss (.t 16) (.k (.val (.int .i64 0)))))]) (.cond 17 (.seq (.reg [(.mk (some 4) none (.mov (.k (.val (.int .i64 (-1))))))]) .ret) .skip)) (.seq (.reg [(.mk (some 18) none
  (.mov (.t 1))), (.mk (some 4) none (.mov (.t 18)))]) .ret)))))),
  [(.t 4)]⟩
theorem i89 : IsFun Try.prog 89 g89 := ⟨Try.f89, _, [], Try.func89, by kernel_rfl, rfl, by kernel_rfl, by kernel_rfl, rfl⟩

def g90 : GFun := ⟨⟨24, [1,2]⟩,
  (.seq (.reg [(.mk (some 1) none (.boxro 6 (.t 0))), (.mk (some 2) none (.allocr 6))]) (.seq (.reg [(.mk (some 3) none (.alloc 6 (.agg [(.val (.int .i64 0)), (.val (.int .i64 0)), (.val (.int .i64 0)), (.val (.int .i64
  0)), (.val (.string (ByteArray.mk #[]))), (.val (.slice none 0 0))])))]) (.seq (.reg [(.mk (some 4) none (.faddr 0 1 false (.t 1))), (.mk (some 5) none (.load 1 false (.t 4))), (.mk (some 6) none (.faddr 0 1 false (.t
  3))), (.mk none none (.store 1 (.t 6) (.t 5)))]) (.seq (.reg [(.mk (some 7) none (.faddr 1 1 false (.t 1))), (.mk (some 8) none (.load 1 false (.t 7))), (.mk (some 9) none (.faddr 1 1 false (.t 3))), (.mk none none
  (.store 1 (.t 9) (.t 8)))]) (.seq (.reg [(.mk (some 10) none (.faddr 2 1 false (.t 1))), (.mk (some 11) none (.load 1 false (.t 10))), (.mk (some 12) none (.faddr 2 1 false (.t 3))), (.mk none none (.store 1 (.t 12)
  (.t 11)))]) (.seq (.reg [(.mk (some 13) none (.faddr 3 1 false (.t 1))), (.mk (some 14) none (.load 1 false (.t 13))), (.mk (some 15) none (.faddr 3 1 false (.t 3))), (.mk none none (.store 1 (.t 15) (.t 14)))]) (.seq
  (.reg [(.mk (some 16) none (.faddr 4 1 false (.t 1))), (.mk (some 17) none (.load 1 false (.t 16))), (.mk (some 18) none (.faddr 4 1 false (.t 3))), (.mk none none (.store 1 (.t 18) (.t 17)))]) (.seq (.reg [(.mk (some
  19) none (.faddr 5 1 false (.t 1))), (.mk (some 20) none (.load 1 false (.t 19))), (.mk (some 21) none (.call false 51 [(.t 20)])), (.mk (some 22) none (.faddr 5 1 false (.t 3))), (.mk none none (.store 1 (.t 22) (.t
  21)))]) (.seq (.reg [(.mk (some 23) none (.load 6 true (.t 3))), (.mk (some 2) none (.stro 6 2 (.t 23)))]) .ret))))))))),
  [(.c 2 6 true)]⟩
theorem i90 : IsFun Try.prog 90 g90 := ⟨Try.f90, _, [], Try.func90, by kernel_rfl, rfl, by kernel_rfl, by kernel_rfl, rfl⟩

def g91 : GFun := ⟨⟨36, [2,3]⟩,
  (.seq (.reg [(.mk (some 2) none (.boxro 6 (.t 0))), (.mk (some 3) none (.boxro 6 (.t 1))), (.mk (some 4) none (.mov (.k (.val (.bool false)))))]) (.seq (.seq (.reg [(.mk (some 5) none (.faddr 0 1 false (.t 2))), (.mk
  (some 6) none (.load 1 false (.t 5))), (.mk (some 7) none (.faddr 0 1 false (.t 3))), (.mk (some 8) none (.load 1 false (.t 7))), (.mk (some 9) none (.bin .neq (.t 6) (.t 8)))]) (.cond 9 (.seq (.reg [(.mk (some 4)
  none (.mov (.k (.val (.bool false)))))]) .ret) .skip)) (.seq (.seq (.reg [(.mk (some 10) none (.faddr 1 1 false (.t 2))), (.mk (some 11) none (.load 1 false (.t 10))), (.mk (some 12) none (.faddr 1 1 false (.t 3))),
  (.mk (some 13) none (.load 1 false (.t 12))), (.mk (some 14) none (.bin .neq (.t 11) (.t 13)))]) (.cond 14 (.seq (.reg [(.mk (some 4) none (.mov (.k (.val (.bool false)))))]) .ret) .skip)) (.seq (.seq (.reg [(.mk
  (some 15) none (.faddr 2 1 false (.t 2))), (.mk (some 16) none (.load 1 false (.t 15))), (.mk (some 17) none (.faddr 2 1 false (.t 3))), (.mk (some 18) none (.load 1 false (.t 17))), (.mk (some 19) none (.bin .neq (.t
  16) (.t 18)))]) (.cond 19 (.seq (.reg [(.mk (some 4) none (.mov (.k (.val (.bool false)))))]) .ret) .skip)) (.seq (.seq (.reg [(.mk (some 20) none (.faddr 3 1 false (.t 2))), (.mk (some 21) none (.load 1 false (.t
  20))), (.mk (some 22) none (.faddr 3 1 false (.t 3))), (.mk (some 23) none (.load 1 false (.t 22))), (.mk (some 24) none (.bin .neq (.t 21) (.t 23)))]) (.cond 24 (.seq (.reg [(.mk (some 4) none (.mov (.k (.val (.bool
  false)))))]) .ret) .skip)) (.seq (.seq (.reg [(.mk (some 25) none (.faddr 4 1 false (.t 2))), (.mk (some 26) none (.load 1 false (.t 25))), (.mk (some 27) none (.faddr 4 1 false (.t 3))), (.mk (some 28) none (.load 1
  false (.t 27))), (.mk (some 29) none (.bin .neq (.t 26) (.t 28)))]) (.cond 29 (.seq (.reg [(.mk (some 4) none (.mov (.k (.val (.bool false)))))]) .ret) .skip)) (.seq (.seq (.reg [(.mk (some 30) none (.faddr 5 1 false
  (.t 2))), (.mk (some 31) none (.load 1 false (.t 30))), (.mk (some 32) none (.faddr 5 1 false (.t 3))), (.mk (some 33) none (.load 1 false (.t 32))), (.mk (some 34) none (.call false 36 [(.t 31), (.t 33)])), (.mk
  (some 35) none (.not (.t 34)))]) (.cond 35 (.seq (.reg [(.mk (some 4) none (.mov (.k (.val (.bool false)))))]) .ret) .skip)) (.seq (.reg [(.mk (some 4) none (.mov (.k (.val (.bool true)))))]) .ret)))))))),
  [(.t 4)]⟩
theorem i91 : IsFun Try.prog 91 g91 := ⟨Try.f91, _, [], Try.func91, by kernel_rfl, rfl, by kernel_rfl, by kernel_rfl, rfl⟩

def g96 : GFun := ⟨⟨20, []⟩,
  (.seq (.reg [(.mk (some 2) none (.mov (.k (.val (.string (ByteArray.mk #[]))))))]) (.seq (.seq (.reg [(.mk (some 4) none (.mov (.t 0))), (.mk (some 5) none (.bin .leq (.t 4) (.k (.val (.int .i64 0)))))]) (.cond 5
  (.seq (.reg [(.mk (some 2) none (.mov (.k (.val (.string (ByteArray.mk #[109, 48]))))))]) .ret) .skip)) (.seq (.reg [(.mk (some 3) none (.mov (.k (.val (.string (ByteArray.mk #[]))))))]) (.seq (.block 0 (.loop (.seq
  (.seq (.reg [(.mk (some 6) none (.mov (.t 0))), (.mk (some 7) none (.bin .gtr (.t 6) (.k (.val (.int .i64 0)))))]) (.cond 7 .skip (.exit 0))) (.block 1 (.seq (.reg [(.mk (some 8) none (.mov (.t 0))), (.mk (some 9)
  none (.bin .rem (.t 8) (.k (.val (.int .i64 10))))), (.mk (some 10) none (.bin .add (.k (.val (.int .i64 48))) (.t 9))), (.mk (some 11) none (.conv .u8 (.t 10))), (.mk (some 12) none (.bslice 1 [] 1 false [(0, (.t
  11))])), (.mk (some 13) none (.b2s (.t 12))), (.mk (some 14) none (.mov (.t 3))), (.mk (some 15) none (.bin .add (.t 13) (.t 14))), (.mk (some 3) none (.mov (.t 15)))]) (.reg [(.mk (some 16) none (.mov (.t 0))), (.mk
  (some 17) none (.bin .quo (.t 16) (.k (.val (.int .i64 10))))), (.mk (some 0) none (.mov (.t 17)))])))))) (.seq (.reg [(.mk (some 18) none (.mov (.t 3))), (.mk (some 19) none (.bin .add (.k (.val (.string
  (ByteArray.mk #[109])))) (.t 18))), (.mk (some 2) none (.mov (.t 19)))]) .ret))))),
  [(.t 2)]⟩
theorem i96 : IsFun Try.prog 96 g96 := ⟨Try.f96, _, [], Try.func96, by kernel_rfl, rfl, by kernel_rfl, by kernel_rfl, rfl⟩

def g109 : GFun := ⟨⟨12, []⟩,
  (.seq (.reg [(.mk (some 4) none (.mov (.k (.val (.int .i64 0)))))]) (.seq (.reg [(.mk (some 5) none (.mov (.t 1))), (.mk (some 6) none (.mov (.t 0))), (.mk (some 7) none (.len (.t 6))), (.mk (some 8) none (.bin .sub
  (.t 5) (.t 7))), (.mk (some 1) none (.mov (.t 8)))]) (.seq (.seq (.reg [(.mk (some 9) none (.mov (.t 1))), (.mk (some 10) none (.bin .lss (.t 9) (.k (.val (.int .i64 0)))))]) (.cond 10 (.seq (.reg [(.mk (some 4) none
  (.mov (.k (.val (.int .i64 (-1))))))]) .ret) .skip)) (.seq (.reg [(.mk (some 11) none (.mov (.t 1))), (.mk (some 4) none (.mov (.t 11)))]) .ret)))),
  [(.t 4)]⟩
theorem i109 : IsFun Try.prog 109 g109 := ⟨Try.f109, _, [], Try.func109, by kernel_rfl, rfl, by kernel_rfl, by kernel_rfl, rfl⟩

end Go.Proofs.Ytpnkabohkmabmaa

namespace Go.Proofs.Ytpnkabohkmabmaa
open Go.Gh
set_option maxRecDepth 20000
set_option linter.unusedSimpArgs false
set_option linter.unusedVariables false
theorem mxd : Try.prog.follows .mixedOrders = true := Checked.mixed Try.checked
end Go.Proofs.Ytpnkabohkmabmaa

namespace Go.Proofs.Ytpnkabohkmabmaa
open Go.Gh
set_option maxRecDepth 20000
set_option linter.unusedSimpArgs false
set_option linter.unusedVariables false
theorem w109 (xs : List Int) (left : Int) (h0 : 0 ≤ left) (h1 : left ≤ 1048576) : Pure Try.prog 109 [IS xs, I left] (· = I (szv left xs.length)) := by
  refine GCalls.lenA fun hl => ?_
  have hl := hl.1.1
  simp only [List.length_map, maxL] at hl
  refine gstart mxd i109 rfl (by simp) ?_; simp only [↓ S2, S2, vIte, ↓reduceIte, Int.reduceNe, Nat.reduceEqDiff, reduceCtorEq, Nat.reduceLeDiff, Nat.reduceAdd, Nat.reduceLT]
  ((try simp only [↓ S2, S2, vIte, ↓reduceIte, Int.reduceNe, Nat.reduceEqDiff, reduceCtorEq, Nat.reduceLeDiff, Nat.reduceAdd, Nat.reduceLT]); (repeat (simp only [brGen]; try simp only [↓ S2, S2, vIte, ↓reduceIte, Int.reduceNe, Nat.reduceEqDiff, reduceCtorEq, Nat.reduceLeDiff, Nat.reduceAdd, Nat.reduceLT])); (try simp +contextual (disch := omega) only [Z2]); (repeat' (first | (with_reducible intro h) | (with_reducible refine And.intro (by omega) ?_) | (with_reducible refine exP (by omega) ?_) | (with_reducible apply And.intro)))) <;> (congr 2; simp only [szv]; omega)
theorem w89 (x : Nod) (left : Int) (h0 : 0 ≤ left) (h1 : left ≤ 1048576) (hx : x.rule.size ≤ maxLen) : Pure Try.prog 89 [Nd x, I left] (· = I (szv left (wNd x))) := by
  simp only [maxLen, size_chars] at hx
  refine gstart mxd i89 rfl (by simp) ?_; simp only [↓ S2, S2, vIte, ↓reduceIte, Int.reduceNe, Nat.reduceEqDiff, reduceCtorEq, Nat.reduceLeDiff, Nat.reduceAdd, Nat.reduceLT]
  ((try simp only [↓ S2, S2, vIte, ↓reduceIte, Int.reduceNe, Nat.reduceEqDiff, reduceCtorEq, Nat.reduceLeDiff, Nat.reduceAdd, Nat.reduceLT]); (repeat (simp only [brGen]; try simp only [↓ S2, S2, vIte, ↓reduceIte, Int.reduceNe, Nat.reduceEqDiff, reduceCtorEq, Nat.reduceLeDiff, Nat.reduceAdd, Nat.reduceLT])); (try simp +contextual (disch := omega) only [Z2]); (repeat' (first | (with_reducible intro h) | (with_reducible refine And.intro (by omega) ?_) | (with_reducible refine exP (by omega) ?_) | (with_reducible apply And.intro))))
  · congr 2; simp only [szv, wNd]; omega
  refine callS.eq (w109 _ _ (by omega) (by omega)) ?_
  ((try simp only [↓ S2, S2, vIte, ↓reduceIte, Int.reduceNe, Nat.reduceEqDiff, reduceCtorEq, Nat.reduceLeDiff, Nat.reduceAdd, Nat.reduceLT]); (repeat (simp only [brGen]; try simp only [↓ S2, S2, vIte, ↓reduceIte, Int.reduceNe, Nat.reduceEqDiff, reduceCtorEq, Nat.reduceLeDiff, Nat.reduceAdd, Nat.reduceLT])); (try simp +contextual (disch := omega) only [Z2]); (repeat' (first | (with_reducible intro h) | (with_reducible refine And.intro (by omega) ?_) | (with_reducible refine exP (by omega) ?_) | (with_reducible apply And.intro)))) <;> (congr 2; simp only [szv, wNd] at *; omega)
theorem w56 (xs : List Nod) (left : Int) (h0 : 0 ≤ left) (h1 : left ≤ 1048576) (hx : ∀ x ∈ xs, x.rule.size ≤ maxLen) : Pure Try.prog 56 [NdS xs, I left] (· = I (szv left (wtS wNd xs))) :=
  szS mxd wNd i56 (fun _ => rfl) (fun _ => rfl) xs left h0 h1 fun x hm l a b => w89 x l a b (hx x hm)
theorem w21 (t : List Nod) (left : Int) (h0 : 0 ≤ left) (h1 : left ≤ 1048576) (hx : ∀ x ∈ t, x.rule.size ≤ maxLen) : Pure Try.prog 21 [Tr t, I left] (· = I (szv left (wtS wNd t))) := by
  refine gstart mxd i21 rfl (by simp) ?_; simp only [↓ S2, S2, vIte, ↓reduceIte, Int.reduceNe, Nat.reduceEqDiff, reduceCtorEq, Nat.reduceLeDiff, Nat.reduceAdd, Nat.reduceLT]
  refine callS.eq (w56 _ _ (by omega) (by omega) hx) ?_
  ((try simp only [↓ S2, S2, vIte, ↓reduceIte, Int.reduceNe, Nat.reduceEqDiff, reduceCtorEq, Nat.reduceLeDiff, Nat.reduceAdd, Nat.reduceLT]); (repeat (simp only [brGen]; try simp only [↓ S2, S2, vIte, ↓reduceIte, Int.reduceNe, Nat.reduceEqDiff, reduceCtorEq, Nat.reduceLeDiff, Nat.reduceAdd, Nat.reduceLT])); (try simp +contextual (disch := omega) only [Z2]); (repeat' (first | (with_reducible intro h) | (with_reducible refine And.intro (by omega) ?_) | (with_reducible refine exP (by omega) ?_) | (with_reducible apply And.intro)))) <;> (congr 2; simp only [szv] at *; omega)
theorem o51 (xs : List Int) (hx : xs.length ≤ 1048576) (H : GH) : GCalls Try.prog 51 [IS xs] H (fun g H' => ∃ r, g = .own r 1 0 xs.length ∧ H' = (r, 1, xs.map I) :: H) := by
  refine gstart mxd i51 rfl (by simp) ?_; simp only [↓ S2, S2, vIte, ↓reduceIte, Int.reduceNe, Nat.reduceEqDiff, reduceCtorEq, Nat.reduceLeDiff, Nat.reduceAdd, Nat.reduceLT]
  refine ⟨by omega, by omega, by omega, by omega, fun r hr => ?_⟩
  refine wloop mxd (ι := { i : Nat // i ≤ xs.length }) (fun i => [(0, IS xs), (3, .own r 1 0 xs.length), (4, I i.1)]) (fun i => (r, 1, (xs.take i.1 ++ List.replicate (xs.length - i.1) 0).map I) :: H) (fun i => xs.length - i.1) ⟨0, by simp⟩ (by simp [E2]) (by simp) ?_
  rintro ⟨i, hi⟩
  ((try simp only [↓ S2, S2, vIte, ↓reduceIte, Int.reduceNe, Nat.reduceEqDiff, reduceCtorEq, Nat.reduceLeDiff, Nat.reduceAdd, Nat.reduceLT]); (repeat (simp only [brGen]; try simp only [↓ S2, S2, vIte, ↓reduceIte, Int.reduceNe, Nat.reduceEqDiff, reduceCtorEq, Nat.reduceLeDiff, Nat.reduceAdd, Nat.reduceLT])); (try simp +contextual (disch := omega) only [Z2]); (repeat' (first | (with_reducible intro h) | (with_reducible refine And.intro (by omega) ?_) | (with_reducible refine exP (by omega) ?_) | (with_reducible apply And.intro))))
  · refine ⟨by simp; omega, nx ⟨i + 1, by omega⟩ (by simp; omega) (by simp [E2]) ?_⟩
    have e := fill_set xs id 0 i (by omega)
    simp only [List.map_id, id_eq] at e
    rw [← e]
  · have : i = xs.length := by omega
    subst this
    exact ⟨r, rfl, by simp⟩
theorem w51 (xs : List Int) (hx : xs.length ≤ 1048576) : Pure Try.prog 51 [IS xs] (· = IS xs) := by
  refine (o51 xs hx []).fr ?_
  rintro g H' ⟨r, rfl, rfl⟩
  exact ⟨_, _, FR.freeze hget_new (.all hget_new (by simp) (by simp [view])), rfl⟩
theorem w90 (x : Nod) (hx : x.kids.length ≤ 1048576) : Pure Try.prog 90 [Nd x] (· = Nd x) := by
  refine gstart mxd i90 rfl (by simp) ?_; simp only [↓ S2, S2, vIte, ↓reduceIte, Int.reduceNe, Nat.reduceEqDiff, reduceCtorEq, Nat.reduceLeDiff, Nat.reduceAdd, Nat.reduceLT]
  intro r hr
  refine callS.eq (w51 _ hx) ?_
  ((try simp only [↓ S2, S2, vIte, ↓reduceIte, Int.reduceNe, Nat.reduceEqDiff, reduceCtorEq, Nat.reduceLeDiff, Nat.reduceAdd, Nat.reduceLT]); (repeat (simp only [brGen]; try simp only [↓ S2, S2, vIte, ↓reduceIte, Int.reduceNe, Nat.reduceEqDiff, reduceCtorEq, Nat.reduceLeDiff, Nat.reduceAdd, Nat.reduceLT])); (try simp +contextual (disch := omega) only [Z2]); (repeat' (first | (with_reducible intro h) | (with_reducible refine And.intro (by omega) ?_) | (with_reducible refine exP (by omega) ?_) | (with_reducible apply And.intro))))
theorem w57 (xs : List Nod) (hl : xs.length ≤ 1048576) (hx : ∀ x ∈ xs, x.kids.length ≤ 1048576) : Pure Try.prog 57 [NdS xs] (· = NdS xs) :=
  freezeS (fun _ => rfl) fun H => toSo mxd i57 (fun _ => rfl) (fun _ => rfl) (fun _ => rfl) (fun _ => rfl) xs hl (by decide) (fun x hm => w90 x (hx x hm)) H
theorem w23 (t : List Nod) (hl : t.length ≤ 1048576) (hx : ∀ x ∈ t, x.kids.length ≤ 1048576) : Pure Try.prog 23 [Tr t] (· = Tr t) := by
  refine gstart mxd i23 rfl (by simp) ?_; simp only [↓ S2, S2, vIte, ↓reduceIte, Int.reduceNe, Nat.reduceEqDiff, reduceCtorEq, Nat.reduceLeDiff, Nat.reduceAdd, Nat.reduceLT]
  intro r hr
  refine callS.eq (w57 _ hl hx) ?_
  ((try simp only [↓ S2, S2, vIte, ↓reduceIte, Int.reduceNe, Nat.reduceEqDiff, reduceCtorEq, Nat.reduceLeDiff, Nat.reduceAdd, Nat.reduceLT]); (repeat (simp only [brGen]; try simp only [↓ S2, S2, vIte, ↓reduceIte, Int.reduceNe, Nat.reduceEqDiff, reduceCtorEq, Nat.reduceLeDiff, Nat.reduceAdd, Nat.reduceLT])); (try simp +contextual (disch := omega) only [Z2]); (repeat' (first | (with_reducible intro h) | (with_reducible refine And.intro (by omega) ?_) | (with_reducible refine exP (by omega) ?_) | (with_reducible apply And.intro))))
theorem w36 (xs ys : List Int) : Pure Try.prog 36 [IS xs, IS ys] (· = B (decide (xs = ys))) := by
  refine GCalls.lenA fun hl => ?_
  have hl := hl.1.1
  simp only [List.length_map, maxL] at hl
  refine gstart mxd i36 rfl (by simp) ?_; simp only [↓ S2, S2, vIte, ↓reduceIte, Int.reduceNe, Nat.reduceEqDiff, reduceCtorEq, Nat.reduceLeDiff, Nat.reduceAdd, Nat.reduceLT]
  ((try simp only [↓ S2, S2, vIte, ↓reduceIte, Int.reduceNe, Nat.reduceEqDiff, reduceCtorEq, Nat.reduceLeDiff, Nat.reduceAdd, Nat.reduceLT]); (repeat (simp only [brGen]; try simp only [↓ S2, S2, vIte, ↓reduceIte, Int.reduceNe, Nat.reduceEqDiff, reduceCtorEq, Nat.reduceLeDiff, Nat.reduceAdd, Nat.reduceLT])); (try simp +contextual (disch := omega) only [Z2]); (repeat' (first | (with_reducible intro h) | (with_reducible refine And.intro (by omega) ?_) | (with_reducible refine exP (by omega) ?_) | (with_reducible apply And.intro))))
  rotate_left
  · simp; rintro rfl; exact h rfl
  refine wloop mxd (ι := { i : Nat // i ≤ xs.length ∧ xs.take i = ys.take i }) (fun i => [(0, IS xs), (1, IS ys), (5, I i.1)]) (fun _ => []) (fun i => xs.length - i.1) ⟨0, by simp⟩ (by simp [E2]) rfl ?_
  rintro ⟨i, hi, hp⟩
  ((try simp only [↓ S2, S2, vIte, ↓reduceIte, Int.reduceNe, Nat.reduceEqDiff, reduceCtorEq, Nat.reduceLeDiff, Nat.reduceAdd, Nat.reduceLT]); (repeat (simp only [brGen]; try simp only [↓ S2, S2, vIte, ↓reduceIte, Int.reduceNe, Nat.reduceEqDiff, reduceCtorEq, Nat.reduceLeDiff, Nat.reduceAdd, Nat.reduceLT])); (try simp +contextual (disch := omega) only [Z2]); (repeat' (first | (with_reducible intro h) | (with_reducible refine And.intro (by omega) ?_) | (with_reducible refine exP (by omega) ?_) | (with_reducible apply And.intro))))
  · exact nx ⟨i + 1, by omega, take_eq_step hp (by omega) (by omega) h⟩ (by simp; omega) (by simp [E2]) rfl
  · simp; rintro rfl; simp at h
  · have : i = xs.length := by omega
    subst this
    rw [List.take_of_length_le (by omega), List.take_of_length_le (by omega)] at hp
    simp [hp]
theorem w91 (x y : Nod) : Pure Try.prog 91 [Nd x, Nd y] (· = B (decide (x = y))) := by
  refine gstart mxd i91 rfl (by simp) ?_; simp only [↓ S2, S2, vIte, ↓reduceIte, Int.reduceNe, Nat.reduceEqDiff, reduceCtorEq, Nat.reduceLeDiff, Nat.reduceAdd, Nat.reduceLT]
  ((try simp only [↓ S2, S2, vIte, ↓reduceIte, Int.reduceNe, Nat.reduceEqDiff, reduceCtorEq, Nat.reduceLeDiff, Nat.reduceAdd, Nat.reduceLT]); (repeat (simp only [brGen]; try simp only [↓ S2, S2, vIte, ↓reduceIte, Int.reduceNe, Nat.reduceEqDiff, reduceCtorEq, Nat.reduceLeDiff, Nat.reduceAdd, Nat.reduceLT])); (try simp +contextual (disch := omega) only [Z2]); (repeat' (first | (with_reducible intro h) | (with_reducible refine And.intro (by omega) ?_) | (with_reducible refine exP (by omega) ?_) | (with_reducible apply And.intro))))
  all_goals first
    | (simp [Nod.ext_iff, *]; done)
    | skip
  refine callS.eq (w36 _ _) ?_
  ((try simp only [↓ S2, S2, vIte, ↓reduceIte, Int.reduceNe, Nat.reduceEqDiff, reduceCtorEq, Nat.reduceLeDiff, Nat.reduceAdd, Nat.reduceLT]); (repeat (simp only [brGen]; try simp only [↓ S2, S2, vIte, ↓reduceIte, Int.reduceNe, Nat.reduceEqDiff, reduceCtorEq, Nat.reduceLeDiff, Nat.reduceAdd, Nat.reduceLT])); (try simp +contextual (disch := omega) only [Z2]); (repeat' (first | (with_reducible intro h) | (with_reducible refine And.intro (by omega) ?_) | (with_reducible refine exP (by omega) ?_) | (with_reducible apply And.intro)))) <;> simp [Nod.ext_iff, *]
theorem w60 (xs ys : List Nod) : Pure Try.prog 60 [NdS xs, NdS ys] (· = B (decide (xs = ys))) :=
  eqS mxd i60 (fun _ => rfl) (fun _ => rfl) xs ys fun x _ y _ => w91 x y
theorem w25 (t u : List Nod) : Pure Try.prog 25 [Tr t, Tr u] (· = B (decide (t = u))) := by
  refine gstart mxd i25 rfl (by simp) ?_; simp only [↓ S2, S2, vIte, ↓reduceIte, Int.reduceNe, Nat.reduceEqDiff, reduceCtorEq, Nat.reduceLeDiff, Nat.reduceAdd, Nat.reduceLT]
  refine callS.eq (w60 _ _) ?_
  ((try simp only [↓ S2, S2, vIte, ↓reduceIte, Int.reduceNe, Nat.reduceEqDiff, reduceCtorEq, Nat.reduceLeDiff, Nat.reduceAdd, Nat.reduceLT]); (repeat (simp only [brGen]; try simp only [↓ S2, S2, vIte, ↓reduceIte, Int.reduceNe, Nat.reduceEqDiff, reduceCtorEq, Nat.reduceLeDiff, Nat.reduceAdd, Nat.reduceLT])); (try simp +contextual (disch := omega) only [Z2]); (repeat' (first | (with_reducible intro h) | (with_reducible refine And.intro (by omega) ?_) | (with_reducible refine exP (by omega) ?_) | (with_reducible apply And.intro)))) <;> simp [*]
theorem w61 (x lo hi : Int) : Pure Try.prog 61 [I x, I lo, I hi] (· = B (decide (lo ≤ x ∧ x ≤ hi))) := by
  refine gstart mxd i61 rfl (by simp) ?_; simp only [↓ S2, S2, vIte, ↓reduceIte, Int.reduceNe, Nat.reduceEqDiff, reduceCtorEq, Nat.reduceLeDiff, Nat.reduceAdd, Nat.reduceLT]
  ((try simp only [↓ S2, S2, vIte, ↓reduceIte, Int.reduceNe, Nat.reduceEqDiff, reduceCtorEq, Nat.reduceLeDiff, Nat.reduceAdd, Nat.reduceLT]); (repeat (simp only [brGen]; try simp only [↓ S2, S2, vIte, ↓reduceIte, Int.reduceNe, Nat.reduceEqDiff, reduceCtorEq, Nat.reduceLeDiff, Nat.reduceAdd, Nat.reduceLT])); (try simp +contextual (disch := omega) only [Z2]); (repeat' (first | (with_reducible intro h) | (with_reducible refine And.intro (by omega) ?_) | (with_reducible refine exP (by omega) ?_) | (with_reducible apply And.intro)))) <;> simp [*]
theorem w74 (x lo hi : Int) : Pure Try.prog 74 [I x, I lo, I hi] (· = B (decide (lo ≤ x ∧ x ≤ hi))) := by
  refine gstart mxd i74 rfl (by simp) ?_; simp only [↓ S2, S2, vIte, ↓reduceIte, Int.reduceNe, Nat.reduceEqDiff, reduceCtorEq, Nat.reduceLeDiff, Nat.reduceAdd, Nat.reduceLT]
  ((try simp only [↓ S2, S2, vIte, ↓reduceIte, Int.reduceNe, Nat.reduceEqDiff, reduceCtorEq, Nat.reduceLeDiff, Nat.reduceAdd, Nat.reduceLT]); (repeat (simp only [brGen]; try simp only [↓ S2, S2, vIte, ↓reduceIte, Int.reduceNe, Nat.reduceEqDiff, reduceCtorEq, Nat.reduceLeDiff, Nat.reduceAdd, Nat.reduceLT])); (try simp +contextual (disch := omega) only [Z2]); (repeat' (first | (with_reducible intro h) | (with_reducible refine And.intro (by omega) ?_) | (with_reducible refine exP (by omega) ?_) | (with_reducible apply And.intro)))) <;> simp [*]
end Go.Proofs.Ytpnkabohkmabmaa

namespace Go.Proofs.Ytpnkabohkmabmaa
open Go.Gh
set_option maxRecDepth 20000
set_option linter.unusedSimpArgs false
set_option linter.unusedVariables false
theorem w62 (t : List Nod) (i : Int) : Pure Try.prog 62 [Tr t, I i] (· = B (decide (0 ≤ i ∧ i < t.length))) := by
  refine GCalls.lenA fun hl => ?_
  obtain ⟨hlen, _⟩ := lenTr hl.1
  refine gstart mxd i62 rfl (by simp) ?_; simp only [↓ S2, S2, vIte, ↓reduceIte, Int.reduceNe, Nat.reduceEqDiff, reduceCtorEq, Nat.reduceLeDiff, Nat.reduceAdd, Nat.reduceLT]
  refine callS.eq (w74 _ _ _) ?_
  ((try simp only [↓ S2, S2, vIte, ↓reduceIte, Int.reduceNe, Nat.reduceEqDiff, reduceCtorEq, Nat.reduceLeDiff, Nat.reduceAdd, Nat.reduceLT]); (repeat (simp only [brGen]; try simp only [↓ S2, S2, vIte, ↓reduceIte, Int.reduceNe, Nat.reduceEqDiff, reduceCtorEq, Nat.reduceLeDiff, Nat.reduceAdd, Nat.reduceLT])); (try simp +contextual (disch := omega) only [Z2]); (repeat' (first | (with_reducible intro h) | (with_reducible refine And.intro (by omega) ?_) | (with_reducible refine exP (by omega) ?_) | (with_reducible apply And.intro))))
  exact bEq (by omega)
end Go.Proofs.Ytpnkabohkmabmaa

namespace Go.Proofs.Ytpnkabohkmabmaa
open Go.Gh
set_option maxRecDepth 20000
set_option linter.unusedSimpArgs false
set_option linter.unusedVariables false
theorem o34 (t : List Nod) (i : Int) (hl : t.length ≤ 1048576) (hx : ∀ x ∈ t, x.kids.length ≤ 1048576) (H : GH) : GCalls Try.prog 34 [Tr t, I i] H (fun g H' => ∃ H1, (∃ r, g = .own r 1 0 (nodeIds t i).length ∧ H1 = [(r, 1, (nodeIds t i).map I)]) ∧ H' = H1 ++ H) := by
  refine gstart mxd i34 rfl (by simp) ?_; simp only [↓ S2, S2, vIte, ↓reduceIte, Int.reduceNe, Nat.reduceEqDiff, reduceCtorEq, Nat.reduceLeDiff, Nat.reduceAdd, Nat.reduceLT]
  intro r hr
  refine callS.eq (w61 _ _ _) ?_
  by_cases hi0 : 0 ≤ i ∧ i ≤ (t.length : Int) - 1
  · obtain ⟨i, rfl⟩ : ∃ k : Nat, i = k := ⟨i.toNat, by omega⟩
    have hi : i < t.length := by omega
    have hk := hx _ (List.getElem_mem hi)
    rw [nodeIds_in hi]
    ((try simp only [↓ S2, S2, vIte, ↓reduceIte, Int.reduceNe, Nat.reduceEqDiff, reduceCtorEq, Nat.reduceLeDiff, Nat.reduceAdd, Nat.reduceLT, hi0]); (repeat (simp only [brGen]; try simp only [↓ S2, S2, vIte, ↓reduceIte, Int.reduceNe, Nat.reduceEqDiff, reduceCtorEq, Nat.reduceLeDiff, Nat.reduceAdd, Nat.reduceLT, hi0])); (try simp +contextual (disch := omega) only [Z2]); (repeat' (first | (with_reducible intro h) | (with_reducible refine And.intro (by omega) ?_) | (with_reducible refine exP (by omega) ?_) | (with_reducible apply And.intro))))
    rename_i r2
    have hne : r2 ≠ r := ne_of_new h hget_new
    ((try simp only [↓ S2, S2, vIte, ↓reduceIte, Int.reduceNe, Nat.reduceEqDiff, reduceCtorEq, Nat.reduceLeDiff, Nat.reduceAdd, Nat.reduceLT, hget_old hne, hdel_old hne]); (repeat (simp only [brGen]; try simp only [↓ S2, S2, vIte, ↓reduceIte, Int.reduceNe, Nat.reduceEqDiff, reduceCtorEq, Nat.reduceLeDiff, Nat.reduceAdd, Nat.reduceLT, hget_old hne, hdel_old hne])); (try simp +contextual (disch := omega) only [Z2]); (repeat' (first | (with_reducible intro h) | (with_reducible refine And.intro (by omega) ?_) | (with_reducible refine exP (by omega) ?_) | (with_reducible apply And.intro))))
    rename_i r3
    have hne3 : r3 ≠ r2 := ne_of_new h hget_new
    refine wloopF mxd (ι := { x : Nat × Nat // x.2 ≤ t[i].kids.length }) (fun x => [(2, .rop 1 (Tr t)), (1, I i), (5, .own x.1.1 1 0 (idsAt t ((i : Int) :: t[i].kids.take x.1.2)).length), (6, I x.1.2)]) (fun x => (x.1.1, 1, (idsAt t ((i : Int) :: t[i].kids.take x.1.2)).map I) :: H) (fun x => t[i].kids.length - x.1.2) ⟨(r3, 0), by simp⟩ (FE.drop (r := r2) (by rw [hget_old hne3, hget_new])) ?_ ?_ ?_
    · simp [E2, idsAt, hi]
    · rw [hdel_old hne3, hdel_new]
      simp [idsAt, hi]
    · rintro ⟨⟨q, j⟩, hj⟩ hnd
      dsimp only at hj hnd ⊢
      have hle := idsAt_len t ((i : Int) :: t[i].kids.take j)
      simp only [List.length_cons, List.length_take] at hle
      refine gwp_ok mxd ?_
      ((try simp only [↓ S2, S2, vIte, ↓reduceIte, Int.reduceNe, Nat.reduceEqDiff, reduceCtorEq, Nat.reduceLeDiff, Nat.reduceAdd, Nat.reduceLT]); (repeat (simp only [brGen]; try simp only [↓ S2, S2, vIte, ↓reduceIte, Int.reduceNe, Nat.reduceEqDiff, reduceCtorEq, Nat.reduceLeDiff, Nat.reduceAdd, Nat.reduceLT])); (try simp +contextual (disch := omega) only [Z2]); (repeat' (first | (with_reducible intro h) | (with_reducible refine And.intro (by omega) ?_) | (with_reducible refine exP (by omega) ?_) | (with_reducible apply And.intro))))
      · refine callS.eq (w61 _ _ _) ?_
        ((try simp only [↓ S2, S2, vIte, ↓reduceIte, Int.reduceNe, Nat.reduceEqDiff, reduceCtorEq, Nat.reduceLeDiff, Nat.reduceAdd, Nat.reduceLT]); (repeat (simp only [brGen]; try simp only [↓ S2, S2, vIte, ↓reduceIte, Int.reduceNe, Nat.reduceEqDiff, reduceCtorEq, Nat.reduceLeDiff, Nat.reduceAdd, Nat.reduceLT])); (try simp +contextual (disch := omega) only [Z2]); (repeat' (first | (with_reducible intro h) | (with_reducible refine And.intro (by omega) ?_) | (with_reducible refine exP (by omega) ?_) | (with_reducible apply And.intro))))
        · rename_i q2
          have hneq : q2 ≠ q := ne_of_new h hget_new
          ((try simp only [↓ S2, S2, vIte, ↓reduceIte, Int.reduceNe, Nat.reduceEqDiff, reduceCtorEq, Nat.reduceLeDiff, Nat.reduceAdd, Nat.reduceLT, hget_old hneq, hdel_old hneq, List.length_append, List.length_singleton, List.take_length, maxLv]); (repeat (simp only [brGen]; try simp only [↓ S2, S2, vIte, ↓reduceIte, Int.reduceNe, Nat.reduceEqDiff, reduceCtorEq, Nat.reduceLeDiff, Nat.reduceAdd, Nat.reduceLT, hget_old hneq, hdel_old hneq, List.length_append, List.length_singleton, List.take_length, maxLv])); (try simp +contextual (disch := omega) only [Z2]); (repeat' (first | (with_reducible intro h) | (with_reducible refine And.intro (by omega) ?_) | (with_reducible refine exP (by omega) ?_) | (with_reducible apply And.intro))))
          rename_i q3
          have hq3 : q3 ≠ q2 := ne_of_new h hget_new
          have e := idsAt_snoc_in (t := t) (l := (i : Int) :: t[i].kids.take j) (k := t[i].kids[j]) (by omega) (by omega)
          refine nxF ⟨(q3, j + 1), by omega⟩ (by simp; omega) (FE.drop (r := q2) (by rw [hget_old hq3, hget_new])) ?_ ?_
          · show subE _ [(2, .rop 1 (Tr t)), (1, I i), (5, .own q3 1 0 (idsAt t ((i : Int) :: t[i].kids.take (j + 1))).length), (6, I ((j + 1 : Nat) : Int))]
            rw [take_cons_step (by omega), e]
            simp [E2]
          · show _ = (q3, 1, (idsAt t ((i : Int) :: t[i].kids.take (j + 1))).map I) :: H
            rw [hdel_old hq3, hdel_new, take_cons_step (by omega), e, List.take_of_length_le (by simp)]
            simp
        · have e := idsAt_snoc_out (t := t) (l := (i : Int) :: t[i].kids.take j) (k := t[i].kids[j]) (by omega)
          refine nx ⟨(q, j + 1), by omega⟩ (by simp; omega) ?_ ?_
          · show subE _ [(2, .rop 1 (Tr t)), (1, I i), (5, .own q 1 0 (idsAt t ((i : Int) :: t[i].kids.take (j + 1))).length), (6, I ((j + 1 : Nat) : Int))]
            rw [take_cons_step (by omega), e]
            simp [E2]
          · show _ = (q, 1, (idsAt t ((i : Int) :: t[i].kids.take (j + 1))).map I) :: H
            rw [take_cons_step (by omega), e]
      · have : j = t[i].kids.length := by omega
        subst this
        rw [List.take_length]
        exact ⟨_, ⟨q, rfl, rfl⟩, rfl⟩
    · exfalso; omega
  · have e : nodeIds t i = [] := by simp only [nodeIds]; rw [if_neg (by omega)]
    rw [e]
    ((try simp only [↓ S2, S2, vIte, ↓reduceIte, Int.reduceNe, Nat.reduceEqDiff, reduceCtorEq, Nat.reduceLeDiff, Nat.reduceAdd, Nat.reduceLT, hi0]); (repeat (simp only [brGen]; try simp only [↓ S2, S2, vIte, ↓reduceIte, Int.reduceNe, Nat.reduceEqDiff, reduceCtorEq, Nat.reduceLeDiff, Nat.reduceAdd, Nat.reduceLT, hi0])); (try simp +contextual (disch := omega) only [Z2]); (repeat' (first | (with_reducible intro h) | (with_reducible refine And.intro (by omega) ?_) | (with_reducible refine exP (by omega) ?_) | (with_reducible apply And.intro))))
    exact ⟨_, ⟨r, rfl, rfl⟩, rfl⟩
theorem o35 (t : List Nod) (i : Int) (hl : t.length ≤ 1048576) (hx : ∀ x ∈ t, x.kids.length ≤ 1048576) (H : GH) : GCalls Try.prog 35 [Tr t, I i] H (fun g H' => ∃ H1, (∃ r, g = .own r 1 0 (nodeIds t i).length ∧ H1 = [(r, 1, (nodeIds t i).map I)]) ∧ H' = H1 ++ H) := by
  have h0 : GCalls Try.prog 35 [Tr t, I i] H (fun g H' => ∃ r, g = .own r 1 0 (nodeIds t i).length ∧ (H' = (r, 1, (nodeIds t i).map I) :: H ∨ ∃ r3 e, r ≠ r3 ∧ H' = (r, 1, (nodeIds t i).map I) :: (r3, 1, e) :: H)) := by
    refine gstart mxd i35 rfl (by simp) ?_; simp only [↓ S2, S2, vIte, ↓reduceIte, Int.reduceNe, Nat.reduceEqDiff, reduceCtorEq, Nat.reduceLeDiff, Nat.reduceAdd, Nat.reduceLT]
    intro r hr
    refine callS.eq (w62 _ _) ?_
    by_cases hi0 : 0 ≤ i ∧ i < (t.length : Int)
    · obtain ⟨i, rfl⟩ : ∃ k : Nat, i = k := ⟨i.toNat, by omega⟩
      have hi : i < t.length := by omega
      have hk := hx _ (List.getElem_mem hi)
      rw [nodeIds_in hi]
      ((try simp only [↓ S2, S2, vIte, ↓reduceIte, Int.reduceNe, Nat.reduceEqDiff, reduceCtorEq, Nat.reduceLeDiff, Nat.reduceAdd, Nat.reduceLT, hi0, maxLv]); (repeat (simp only [brGen]; try simp only [↓ S2, S2, vIte, ↓reduceIte, Int.reduceNe, Nat.reduceEqDiff, reduceCtorEq, Nat.reduceLeDiff, Nat.reduceAdd, Nat.reduceLT, hi0, maxLv])); (try simp +contextual (disch := omega) only [Z2]); (repeat' (first | (with_reducible intro h) | (with_reducible refine And.intro (by omega) ?_) | (with_reducible refine exP (by omega) ?_) | (with_reducible apply And.intro))))
      rename_i r2 h2 r3
      have hne : r2 ≠ r := ne_of_new h2 hget_new
      have hne3 : r3 ≠ r := ne_of_new h hget_new
      have he : (GV.val (.int .i64 (i : Int))) :: t[i].kids.map I = ((i : Int) :: t[i].kids).map I := rfl
      rw [he]
      have hlc : ((i : Int) :: t[i].kids).length = 1 + t[i].kids.length := by simp; omega
      generalize ((i : Int) :: t[i].kids) = ks at hlc ⊢
      rw [← hlc]
      clear he h
      refine wloopF mxd (ι := { x : Nat × Nat // x.2 ≤ ks.length ∧ x.1 ≠ r3 }) (fun x => [(2, .rop 1 (Tr t)), (22, .own r3 1 0 ks.length), (23, I ks.length), (5, .own x.1.1 1 0 (idsAt t (ks.take x.1.2)).length), (24, I x.1.2)]) (fun x => (x.1.1, 1, (idsAt t (ks.take x.1.2)).map I) :: (r3, 1, ks.map I) :: H) (fun x => ks.length - x.1.2) ⟨(r, 0), by omega, Ne.symm hne3⟩ (FE.swap) ?_ ?_ ?_
      · simp [E2, idsAt]
      · simp [idsAt]
      · rintro ⟨⟨q, j⟩, hj, hq⟩ hnd
        dsimp only at hj hq hnd ⊢
        have hle := idsAt_len t (ks.take j)
        simp only [List.length_take] at hle
        refine gwp_ok mxd ?_
        ((try simp only [↓ S2, S2, vIte, ↓reduceIte, Int.reduceNe, Nat.reduceEqDiff, reduceCtorEq, Nat.reduceLeDiff, Nat.reduceAdd, Nat.reduceLT, hget_old hq]); (repeat (simp only [brGen]; try simp only [↓ S2, S2, vIte, ↓reduceIte, Int.reduceNe, Nat.reduceEqDiff, reduceCtorEq, Nat.reduceLeDiff, Nat.reduceAdd, Nat.reduceLT, hget_old hq])); (try simp +contextual (disch := omega) only [Z2]); (repeat' (first | (with_reducible intro h) | (with_reducible refine And.intro (by omega) ?_) | (with_reducible refine exP (by omega) ?_) | (with_reducible apply And.intro))))
        · refine callS.eq (w62 _ _) ?_
          ((try simp only [↓ S2, S2, vIte, ↓reduceIte, Int.reduceNe, Nat.reduceEqDiff, reduceCtorEq, Nat.reduceLeDiff, Nat.reduceAdd, Nat.reduceLT, hget_old hq]); (repeat (simp only [brGen]; try simp only [↓ S2, S2, vIte, ↓reduceIte, Int.reduceNe, Nat.reduceEqDiff, reduceCtorEq, Nat.reduceLeDiff, Nat.reduceAdd, Nat.reduceLT, hget_old hq])); (try simp +contextual (disch := omega) only [Z2]); (repeat' (first | (with_reducible intro h) | (with_reducible refine And.intro (by omega) ?_) | (with_reducible refine exP (by omega) ?_) | (with_reducible apply And.intro))))
          · rename_i q2
            have hneq : q2 ≠ q := ne_of_new h hget_new
            ((try simp only [↓ S2, S2, vIte, ↓reduceIte, Int.reduceNe, Nat.reduceEqDiff, reduceCtorEq, Nat.reduceLeDiff, Nat.reduceAdd, Nat.reduceLT, hget_old hneq, hdel_old hneq, List.length_append, List.length_singleton, maxLv]); (repeat (simp only [brGen]; try simp only [↓ S2, S2, vIte, ↓reduceIte, Int.reduceNe, Nat.reduceEqDiff, reduceCtorEq, Nat.reduceLeDiff, Nat.reduceAdd, Nat.reduceLT, hget_old hneq, hdel_old hneq, List.length_append, List.length_singleton, maxLv])); (try simp +contextual (disch := omega) only [Z2]); (repeat' (first | (with_reducible intro h) | (with_reducible refine And.intro (by omega) ?_) | (with_reducible refine exP (by omega) ?_) | (with_reducible apply And.intro))))
            rename_i q3
            have hq3 : q3 ≠ q2 := ne_of_new h hget_new
            have hq4 : q3 ≠ r3 := by
              simp only [names, List.map_cons, List.nodup_cons, List.mem_cons, not_or] at h
              exact h.1.2.1
            have e := idsAt_snoc_in (t := t) (l := ks.take j) (k := ks[j]) (by omega) (by omega)
            refine nxF ⟨(q3, j + 1), by omega, hq4⟩ (by simp; omega) (FE.drop (r := q2) (by rw [hget_old hq3, hget_new])) ?_ ?_
            · show subE _ [(2, .rop 1 (Tr t)), (22, .own r3 1 0 ks.length), (23, I ks.length), (5, .own q3 1 0 (idsAt t (ks.take (j + 1))).length), (24, I ((j + 1 : Nat) : Int))]
              rw [take_step' (by omega), e]
              simp [E2]
            · show _ = (q3, 1, (idsAt t (ks.take (j + 1))).map I) :: (r3, 1, ks.map I) :: H
              rw [hdel_old hq3, hdel_new, take_step' (by omega), e, List.take_of_length_le (by simp)]
              simp
          · have e := idsAt_snoc_out (t := t) (l := ks.take j) (k := ks[j]) (by omega)
            refine nx ⟨(q, j + 1), by omega, hq⟩ (by simp; omega) ?_ ?_
            · show subE _ [(2, .rop 1 (Tr t)), (22, .own r3 1 0 ks.length), (23, I ks.length), (5, .own q 1 0 (idsAt t (ks.take (j + 1))).length), (24, I ((j + 1 : Nat) : Int))]
              rw [take_step' (by omega), e]
              simp [E2]
            · show _ = (q, 1, (idsAt t (ks.take (j + 1))).map I) :: (r3, 1, ks.map I) :: H
              rw [take_step' (by omega), e]
        · have : j = ks.length := by omega
          subst this
          rw [List.take_length]
          exact ⟨q, rfl, .inr ⟨r3, _, hq, rfl⟩⟩
    · have e : nodeIds t i = [] := by simp only [nodeIds]; rw [if_neg (by omega)]
      rw [e]
      ((try simp only [↓ S2, S2, vIte, ↓reduceIte, Int.reduceNe, Nat.reduceEqDiff, reduceCtorEq, Nat.reduceLeDiff, Nat.reduceAdd, Nat.reduceLT, hi0]); (repeat (simp only [brGen]; try simp only [↓ S2, S2, vIte, ↓reduceIte, Int.reduceNe, Nat.reduceEqDiff, reduceCtorEq, Nat.reduceLeDiff, Nat.reduceAdd, Nat.reduceLT, hi0])); (try simp +contextual (disch := omega) only [Z2]); (repeat' (first | (with_reducible intro h) | (with_reducible refine And.intro (by omega) ?_) | (with_reducible refine exP (by omega) ?_) | (with_reducible apply And.intro))))
      exact ⟨r, rfl, .inl rfl⟩
  refine h0.fr ?_
  rintro g H' ⟨r, rfl, rfl | ⟨r3, e, hne, rfl⟩⟩
  · exact ⟨_, _, FR.refl _ _, _, ⟨r, rfl, rfl⟩, rfl⟩
  · exact ⟨_, _, FR.drop (r := r3) (by rw [hget_old hne, hget_new]), _, ⟨r, rfl, rfl⟩, by rw [hdel_old hne, hdel_new]; rfl⟩
end Go.Proofs.Ytpnkabohkmabmaa

namespace Go.Proofs.Ytpnkabohkmabmaa
open Go.Gh
set_option maxRecDepth 20000
set_option linter.unusedSimpArgs false
set_option linter.unusedVariables false
theorem w96 (k : Int) (hk : k < 9223372036854775807) : Pure Try.prog 96 [I k] (· = T (mtext k)) := by
  refine gstart mxd i96 rfl (by simp) ?_; simp only [↓ S2, S2, vIte, ↓reduceIte, Int.reduceNe, Nat.reduceEqDiff, reduceCtorEq, Nat.reduceLeDiff, Nat.reduceAdd, Nat.reduceLT]
  ((try simp only [↓ S2, S2, vIte, ↓reduceIte, Int.reduceNe, Nat.reduceEqDiff, reduceCtorEq, Nat.reduceLeDiff, Nat.reduceAdd, Nat.reduceLT]); (repeat (simp only [brGen]; try simp only [↓ S2, S2, vIte, ↓reduceIte, Int.reduceNe, Nat.reduceEqDiff, reduceCtorEq, Nat.reduceLeDiff, Nat.reduceAdd, Nat.reduceLT])); (try simp +contextual (disch := omega) only [Z2]); (repeat' (first | (with_reducible intro h) | (with_reducible refine And.intro (by omega) ?_) | (with_reducible refine exP (by omega) ?_) | (with_reducible apply And.intro))))
  · simp [mtext, h]
  have hR : ∃ R, dig k.toNat k [] = R := ⟨_, rfl⟩
  obtain ⟨R, hR⟩ := hR
  refine wloop mxd (ι := { x : Nat × Int × List UInt8 // dig x.1 x.2.1 x.2.2 = R ∧ x.2.1 ≤ x.1 ∧ 0 ≤ x.2.1 ∧ x.2.1 + x.2.2.length ≤ k }) (fun x => [(0, I x.1.2.1), (3, T ⟨x.1.2.2.toArray⟩)]) (fun _ => []) (fun x => x.1.1) ⟨(k.toNat, k, []), hR, by show k ≤ (k.toNat : Int); omega, by show 0 ≤ k; omega, by simp⟩ (by simp [E2]) rfl ?_
  rintro ⟨⟨f, j, acc⟩, h1, h2, h3, h4⟩
  dsimp only at h1 h2 h3 h4
  have e : j.tdiv 10 = j / 10 := Int.tdiv_eq_ediv_of_nonneg h3
  ((try simp only [↓ S2, S2, vIte, ↓reduceIte, Int.reduceNe, Nat.reduceEqDiff, reduceCtorEq, Nat.reduceLeDiff, Nat.reduceAdd, Nat.reduceLT]); (repeat (simp only [brGen]; try simp only [↓ S2, S2, vIte, ↓reduceIte, Int.reduceNe, Nat.reduceEqDiff, reduceCtorEq, Nat.reduceLeDiff, Nat.reduceAdd, Nat.reduceLT])); (try simp +contextual (disch := omega) only [Z2]); (repeat' (first | (with_reducible intro h) | (with_reducible refine And.intro (by omega) ?_) | (with_reducible refine exP (by omega) ?_) | (with_reducible apply And.intro))))
  · show ([_] : List UInt8).length + acc.toArray.toList.length ≤ _
    simp; omega
  · rename_i hj r
    obtain ⟨f', rfl⟩ : ∃ f', f = f' + 1 := ⟨f - 1, by omega⟩
    rw [dig, if_pos hj] at h1
    refine nxF ⟨(f', j.tdiv 10, dgt j :: acc), h1, ?_, ?_, ?_⟩ (by simp) (FE.drop hget_new) ?_ (by rw [hdel_new])
    · show j.tdiv 10 ≤ _; omega
    · show 0 ≤ j.tdiv 10; omega
    · show j.tdiv 10 + ((dgt j :: acc).length : Int) ≤ k; simp; omega
    · simp [E2, dgt, mkS]
      rfl
  · show ([_] : List UInt8).length + acc.toArray.toList.length ≤ _
    simp; omega
  · rw [dig_end _ _ h] at h1
    rw [mtext, if_neg (by omega), hR, h1]
    simp [mkS, chars]
theorem w38 (r n : Nat) (k : Int) (es : List Int) (H : GH) (hr : hget H r = some (1, es.map I)) (hn : es.length = n) (hk : 0 ≤ k) (hb : k + n < 9223372036854775807) :
    GCalls Try.prog 38 [.own r 1 0 n, I k] H (fun g H' => g = I (k + n) ∧ H' = hset H r ((upFrom k n).map I)) := by
  refine gstart mxd i38 rfl (by simp) ?_; simp only [↓ S2, S2, vIte, ↓reduceIte, Int.reduceNe, Nat.reduceEqDiff, reduceCtorEq, Nat.reduceLeDiff, Nat.reduceAdd, Nat.reduceLT]
  refine wloop mxd (ι := { i : Nat // i ≤ n }) (fun i => [(0, .own r 1 0 n), (1, I (k + i.1)), (5, I i.1)]) (fun i => hset H r ((upFrom k i.1 ++ es.drop i.1).map I)) (fun i => n - i.1) ⟨0, by omega⟩ (by simp [E2]) (by simp [upFrom]; rw [hset_self hr]) ?_
  rintro ⟨i, hi⟩
  ((try simp only [↓ S2, S2, vIte, ↓reduceIte, Int.reduceNe, Nat.reduceEqDiff, reduceCtorEq, Nat.reduceLeDiff, Nat.reduceAdd, Nat.reduceLT, hget_set hr, hset_set]); (repeat (simp only [brGen]; try simp only [↓ S2, S2, vIte, ↓reduceIte, Int.reduceNe, Nat.reduceEqDiff, reduceCtorEq, Nat.reduceLeDiff, Nat.reduceAdd, Nat.reduceLT, hget_set hr, hset_set])); (try simp +contextual (disch := omega) only [Z2]); (repeat' (first | (with_reducible intro h) | (with_reducible refine And.intro (by omega) ?_) | (with_reducible refine exP (by omega) ?_) | (with_reducible apply And.intro))))
  · refine exP (by simp [upFrom_len]; omega) (nx ⟨i + 1, by omega⟩ (by simp; omega) (by simp [E2]; omega) ?_)
    have e : (upFrom k i ++ es.drop i).set i (k + i) = upFrom k (i + 1) ++ es.drop (i + 1) := by
      rw [upFrom_snoc, List.set_append_right _ _ (by simp [upFrom_len])]
      simp [upFrom_len]
      rw [List.drop_eq_getElem_cons (by omega)]
      rfl
    rw [e]
  · have : i = n := by omega
    rw [this]
  · have : i = n := by omega
    subst this
    rw [List.drop_of_length_le (by omega), List.append_nil]
theorem w39 (n : Nat) (k : Int) (hk : 0 ≤ k) (hb : k + n < 9223372036854775807) :
    Pure Try.prog 39 [IS (upFrom k n), I k] (· = I (k + n)) := by
  refine gstart mxd i39 rfl (by simp) ?_; simp only [↓ S2, S2, vIte, ↓reduceIte, Int.reduceNe, Nat.reduceEqDiff, reduceCtorEq, Nat.reduceLeDiff, Nat.reduceAdd, Nat.reduceLT]
  refine wloop mxd (ι := { i : Nat // i ≤ n }) (fun i => [(0, IS (upFrom k n)), (1, I (k + i.1)), (5, I i.1)]) (fun i => []) (fun i => n - i.1) ⟨0, by omega⟩ (by simp [E2]) rfl ?_
  rintro ⟨i, hi⟩
  ((try simp only [↓ S2, S2, vIte, ↓reduceIte, Int.reduceNe, Nat.reduceEqDiff, reduceCtorEq, Nat.reduceLeDiff, Nat.reduceAdd, Nat.reduceLT, upFrom_len, upFrom_get]); (repeat (simp only [brGen]; try simp only [↓ S2, S2, vIte, ↓reduceIte, Int.reduceNe, Nat.reduceEqDiff, reduceCtorEq, Nat.reduceLeDiff, Nat.reduceAdd, Nat.reduceLT, upFrom_len, upFrom_get])); (try simp +contextual (disch := omega) only [Z2]); (repeat' (first | (with_reducible intro h) | (with_reducible refine And.intro (by omega) ?_) | (with_reducible refine exP (by omega) ?_) | (with_reducible apply And.intro))))
  · exact nx ⟨i + 1, by omega⟩ (by simp; omega) (by simp [E2]; omega) rfl
  · have : i = n := by omega
    rw [this]
theorem o90 (x : Nod) (hx : x.kids.length ≤ 1048576) (H : GH) : GCalls Try.prog 90 [Nd x] H (fun g H' => ∃ r, g = .agg [I x.id, I x.parent, I x.place, I x.lit, T x.rule, .own r 1 0 x.kids.length] ∧ H' = (r, 1, x.kids.map I) :: H) := by
  have h0 : GCalls Try.prog 90 [Nd x] H (fun g H' => ∃ r r0 e, r ≠ r0 ∧ g = .agg [I x.id, I x.parent, I x.place, I x.lit, T x.rule, .own r 1 0 x.kids.length] ∧ H' = (r, 1, x.kids.map I) :: (r0, 6, e) :: H) := by
    refine gstart mxd i90 rfl (by simp) ?_; simp only [↓ S2, S2, vIte, ↓reduceIte, Int.reduceNe, Nat.reduceEqDiff, reduceCtorEq, Nat.reduceLeDiff, Nat.reduceAdd, Nat.reduceLT]
    intro r0 hr0
    refine callS.of (o51 _ hx _) ?_
    rintro g H' ⟨r, rfl, rfl⟩ hn
    have hne : r ≠ r0 := ne_of_new hn hget_new
    ((try simp only [↓ S2, S2, vIte, ↓reduceIte, Int.reduceNe, Nat.reduceEqDiff, reduceCtorEq, Nat.reduceLeDiff, Nat.reduceAdd, Nat.reduceLT, hget_old hne, hset_old hne]); (repeat (simp only [brGen]; try simp only [↓ S2, S2, vIte, ↓reduceIte, Int.reduceNe, Nat.reduceEqDiff, reduceCtorEq, Nat.reduceLeDiff, Nat.reduceAdd, Nat.reduceLT, hget_old hne, hset_old hne])); (try simp +contextual (disch := omega) only [Z2]); (repeat' (first | (with_reducible intro h) | (with_reducible refine And.intro (by omega) ?_) | (with_reducible refine exP (by omega) ?_) | (with_reducible apply And.intro))))
    exact ⟨r, r0, _, hne, rfl, rfl⟩
  refine h0.fr ?_
  rintro g H' ⟨r, r0, e, hne, rfl, rfl⟩
  refine ⟨_, _, FR.drop (r := r0) (by rw [hget_old hne, hget_new]), r, rfl, by rw [hdel_old hne, hdel_new]⟩
theorem o57 (xs : List Nod) (hl : xs.length ≤ 1048576) (hx : ∀ x ∈ xs, x.kids.length ≤ 1048576) (H : GH) : GCalls Try.prog 57 [NdS xs] H (fun g H' => ∃ r, g = .own r 6 0 xs.length ∧ H' = (r, 6, xs.map NdO) :: H) := by
  refine gstart mxd i57 rfl (by simp) ?_; simp only [↓ S2, S2, vIte, ↓reduceIte, Int.reduceNe, Nat.reduceEqDiff, reduceCtorEq, Nat.reduceLeDiff, Nat.reduceAdd, Nat.reduceLT]
  refine ⟨by omega, by omega, by omega, by omega, fun r hr => ?_⟩
  refine wloop mxd (ι := { i : Nat // i ≤ xs.length }) (fun i => [(0, NdS xs), (3, .own r 6 0 xs.length), (4, I i.1)]) (fun i => (r, 6, (xs.take i.1).map NdO ++ List.replicate (xs.length - i.1) (.agg [I 0, I 0, I 0, I 0, T (ByteArray.mk #[]), .val (.slice none 0 0)])) :: H) (fun i => xs.length - i.1) ⟨0, by simp⟩ (by simp [E2]) (by simp) ?_
  rintro ⟨i, hi⟩
  ((try simp only [↓ S2, S2, vIte, ↓reduceIte, Int.reduceNe, Nat.reduceEqDiff, reduceCtorEq, Nat.reduceLeDiff, Nat.reduceAdd, Nat.reduceLT]); (repeat (simp only [brGen]; try simp only [↓ S2, S2, vIte, ↓reduceIte, Int.reduceNe, Nat.reduceEqDiff, reduceCtorEq, Nat.reduceLeDiff, Nat.reduceAdd, Nat.reduceLT])); (try simp +contextual (disch := omega) only [Z2]); (repeat' (first | (with_reducible intro h) | (with_reducible refine And.intro (by omega) ?_) | (with_reducible refine exP (by omega) ?_) | (with_reducible apply And.intro))))
  · refine callS.of (o90 xs[i] (hx _ (List.getElem_mem _)) _) ?_
    rintro g H' ⟨r1, rfl, rfl⟩ hn
    have hne : r1 ≠ r := ne_of_new hn hget_new
    ((try simp only [↓ S2, S2, vIte, ↓reduceIte, Int.reduceNe, Nat.reduceEqDiff, reduceCtorEq, Nat.reduceLeDiff, Nat.reduceAdd, Nat.reduceLT, hget_old hne, hset_old hne, stw]); (repeat (simp only [brGen]; try simp only [↓ S2, S2, vIte, ↓reduceIte, Int.reduceNe, Nat.reduceEqDiff, reduceCtorEq, Nat.reduceLeDiff, Nat.reduceAdd, Nat.reduceLT, hget_old hne, hset_old hne, stw])); (try simp +contextual (disch := omega) only [Z2]); (repeat' (first | (with_reducible intro h) | (with_reducible refine And.intro (by omega) ?_) | (with_reducible refine exP (by omega) ?_) | (with_reducible apply And.intro))))
    refine exP (by simp; omega) (nxF ⟨i + 1, by omega⟩ (by simp; omega) (FE.close2 (j := 5) hne (by simp; omega) rfl (by simp)) (by simp [E2]) ?_)
    have e := fill_set xs NdO (.agg [I 0, I 0, I 0, I 0, T (ByteArray.mk #[]), .val (.slice none 0 0)]) i h
    rw [← e]
    rfl
  · have : i = xs.length := by omega
    subst this
    exact ⟨r, rfl, by simp⟩
theorem o23 (t : List Nod) (hl : t.length ≤ 1048576) (hx : ∀ x ∈ t, x.kids.length ≤ 1048576) (H : GH) : GCalls Try.prog 23 [Tr t] H (fun g H' => ∃ r, g = .agg [.own r 6 0 t.length] ∧ H' = (r, 6, t.map NdO) :: H) := by
  have h0 : GCalls Try.prog 23 [Tr t] H (fun g H' => ∃ r r0 e, r ≠ r0 ∧ g = .agg [.own r 6 0 t.length] ∧ H' = (r, 6, t.map NdO) :: (r0, 1, e) :: H) := by
    refine gstart mxd i23 rfl (by simp) ?_; simp only [↓ S2, S2, vIte, ↓reduceIte, Int.reduceNe, Nat.reduceEqDiff, reduceCtorEq, Nat.reduceLeDiff, Nat.reduceAdd, Nat.reduceLT]
    intro r0 hr0
    refine callS.of (o57 _ hl hx _) ?_
    rintro g H' ⟨r, rfl, rfl⟩ hn
    have hne : r ≠ r0 := ne_of_new hn hget_new
    ((try simp only [↓ S2, S2, vIte, ↓reduceIte, Int.reduceNe, Nat.reduceEqDiff, reduceCtorEq, Nat.reduceLeDiff, Nat.reduceAdd, Nat.reduceLT, hget_old hne, hset_old hne]); (repeat (simp only [brGen]; try simp only [↓ S2, S2, vIte, ↓reduceIte, Int.reduceNe, Nat.reduceEqDiff, reduceCtorEq, Nat.reduceLeDiff, Nat.reduceAdd, Nat.reduceLT, hget_old hne, hset_old hne])); (try simp +contextual (disch := omega) only [Z2]); (repeat' (first | (with_reducible intro h) | (with_reducible refine And.intro (by omega) ?_) | (with_reducible refine exP (by omega) ?_) | (with_reducible apply And.intro))))
    exact ⟨r, r0, _, hne, rfl, rfl⟩
  refine h0.fr ?_
  rintro g H' ⟨r, r0, e, hne, rfl, rfl⟩
  refine ⟨_, _, FR.drop (r := r0) (by rw [hget_old hne, hget_new]), r, rfl, by rw [hdel_old hne, hdel_new]⟩
theorem w66 (r n : Nat) (k : Int) (t : List Nod) (H : GH) (hr : hget H r = some (6, t.map NdO)) (hn : t.length = n) (hk : 0 ≤ k) (hb : mkEnd k t < 9223372036854775807) :
    GCalls Try.prog 66 [.own r 6 0 n, I k] H (fun g H' => g = I (mkEnd k t) ∧ H' = hset H r ((mkNods k t).map NdO)) := by
  refine gstart mxd i66 rfl (by simp) ?_; simp only [↓ S2, S2, vIte, ↓reduceIte, Int.reduceNe, Nat.reduceEqDiff, reduceCtorEq, Nat.reduceLeDiff, Nat.reduceAdd, Nat.reduceLT]
  refine wloopF mxd (ι := { i : Nat // i ≤ n }) (fun i => [(0, .own r 6 0 n), (1, I (mkEnd k (t.take i.1))), (5, I i.1)]) (fun i => hset H r ((mkNods k (t.take i.1) ++ t.drop i.1).map NdO)) (fun i => n - i.1) ⟨0, by omega⟩ FE.refl (by simp [E2, mkEnd]) (by simp [mkNods]; rw [hset_self hr]) ?_
  rintro ⟨i, hi⟩ hnd
  dsimp only at hnd ⊢
  rcases Nat.lt_or_ge i n with h | h
  · have ht : i < t.length := by omega
    have hmid : i < (mkNods k (t.take i) ++ t.drop i).length := by simp [mkNods_len]; omega
    have e1 := mkEnd_step (k := k) ht
    have e2 := mkEnd_take (k := k) (t := t) (i + 1)
    have e3 := mkEnd_le k (t.take i)
    have e4 := mkEnd_len k t
    refine GW.opn (r := r) (i := i) (j := 5) (hget_set hr) (by rw [List.getElem?_map, List.getElem?_eq_getElem hmid, mid_get ht]; rfl) rfl fun r1 hn1 => ?_
    have hne : r1 ≠ r := ne_of_new hn1 (hget_set hr)
    refine gwp_ok mxd ?_
    rw [hset_set]
    ((try simp only [↓ S2, S2, vIte, ↓reduceIte, Int.reduceNe, Nat.reduceEqDiff, reduceCtorEq, Nat.reduceLeDiff, Nat.reduceAdd, Nat.reduceLT, hget_old hne, hset_old hne, hget_set hr, hset_set, List.getElem_set_self, List.set_set, List.length_set]); (repeat (simp only [brGen]; try simp only [↓ S2, S2, vIte, ↓reduceIte, Int.reduceNe, Nat.reduceEqDiff, reduceCtorEq, Nat.reduceLeDiff, Nat.reduceAdd, Nat.reduceLT, hget_old hne, hset_old hne, hget_set hr, hset_set, List.getElem_set_self, List.set_set, List.length_set])); (try simp +contextual (disch := omega) only [Z2]); (repeat' (first | (with_reducible intro h) | (with_reducible refine And.intro (by omega) ?_) | (with_reducible refine exP (by omega) ?_) | (with_reducible apply And.intro))))
    · refine callS.eq (w96 _ (by omega)) ?_
      ((try simp only [↓ S2, S2, vIte, ↓reduceIte, Int.reduceNe, Nat.reduceEqDiff, reduceCtorEq, Nat.reduceLeDiff, Nat.reduceAdd, Nat.reduceLT, hget_old hne, hset_old hne, hget_set hr, hset_set, List.getElem_set_self, List.set_set, List.length_set]); (repeat (simp only [brGen]; try simp only [↓ S2, S2, vIte, ↓reduceIte, Int.reduceNe, Nat.reduceEqDiff, reduceCtorEq, Nat.reduceLeDiff, Nat.reduceAdd, Nat.reduceLT, hget_old hne, hset_old hne, hget_set hr, hset_set, List.getElem_set_self, List.set_set, List.length_set])); (try simp +contextual (disch := omega) only [Z2]); (repeat' (first | (with_reducible intro h) | (with_reducible refine And.intro (by omega) ?_) | (with_reducible refine exP (by omega) ?_) | (with_reducible apply And.intro))))
      refine callS.of (w38 r1 _ _ t[i].kids _ hget_new rfl (by omega) (by omega)) ?_
      rintro g H' ⟨rfl, rfl⟩ hn2
      rw [hset_new] at hn2 ⊢
      ((try simp only [↓ S2, S2, vIte, ↓reduceIte, Int.reduceNe, Nat.reduceEqDiff, reduceCtorEq, Nat.reduceLeDiff, Nat.reduceAdd, Nat.reduceLT, hget_old hne, hset_old hne, hget_set hr, hset_set, List.getElem_set_self, List.set_set, List.length_set]); (repeat (simp only [brGen]; try simp only [↓ S2, S2, vIte, ↓reduceIte, Int.reduceNe, Nat.reduceEqDiff, reduceCtorEq, Nat.reduceLeDiff, Nat.reduceAdd, Nat.reduceLT, hget_old hne, hset_old hne, hget_set hr, hset_set, List.getElem_set_self, List.set_set, List.length_set])); (try simp +contextual (disch := omega) only [Z2]); (repeat' (first | (with_reducible intro h) | (with_reducible refine And.intro (by omega) ?_) | (with_reducible refine exP (by omega) ?_) | (with_reducible apply And.intro))))
      refine nxF ⟨i + 1, by omega⟩ (by simp; omega) (FE.close3 hr hne (j := 5) (by simpa using hmid) rfl (by simp [upFrom_len])) (by simp [E2]; omega) ?_
      show hset H r ((List.map NdO _).set i (NdO (mkNod (mkEnd k (t.take i)) t[i]))) = _
      rw [← List.map_set, mid_set ht]
    · omega
  · have : i = n := by omega
    subst this
    refine gwp_ok mxd ?_
    ((try simp only [↓ S2, S2, vIte, ↓reduceIte, Int.reduceNe, Nat.reduceEqDiff, reduceCtorEq, Nat.reduceLeDiff, Nat.reduceAdd, Nat.reduceLT]); (repeat (simp only [brGen]; try simp only [↓ S2, S2, vIte, ↓reduceIte, Int.reduceNe, Nat.reduceEqDiff, reduceCtorEq, Nat.reduceLeDiff, Nat.reduceAdd, Nat.reduceLT])); (try simp +contextual (disch := omega) only [Z2]); (repeat' (first | (with_reducible intro h) | (with_reducible refine And.intro (by omega) ?_) | (with_reducible refine exP (by omega) ?_) | (with_reducible apply And.intro))))
    · rw [List.take_of_length_le (by omega)]
    · rw [List.take_of_length_le (by omega), List.drop_of_length_le (by omega), List.append_nil]
theorem w37 (r n : Nat) (k : Int) (t : List Nod) (H : GH) (hr : hget H r = some (6, t.map NdO)) (hn : t.length = n) (hk : 0 ≤ k) (hb : mkEnd k t < 9223372036854775807) :
    GCalls Try.prog 37 [.agg [.own r 6 0 n], I k] H (fun g H' => g = I (mkEnd k t) ∧ H' = hset H r ((mkNods k t).map NdO)) := by
  refine gstart mxd i37 rfl (by simp) ?_; simp only [↓ S2, S2, vIte, ↓reduceIte, Int.reduceNe, Nat.reduceEqDiff, reduceCtorEq, Nat.reduceLeDiff, Nat.reduceAdd, Nat.reduceLT]
  refine callS.of (w66 r n k t H hr hn hk hb) ?_
  rintro g H' ⟨rfl, rfl⟩ -
  ((try simp only [↓ S2, S2, vIte, ↓reduceIte, Int.reduceNe, Nat.reduceEqDiff, reduceCtorEq, Nat.reduceLeDiff, Nat.reduceAdd, Nat.reduceLT]); (repeat (simp only [brGen]; try simp only [↓ S2, S2, vIte, ↓reduceIte, Int.reduceNe, Nat.reduceEqDiff, reduceCtorEq, Nat.reduceLeDiff, Nat.reduceAdd, Nat.reduceLT])); (try simp +contextual (disch := omega) only [Z2]); (repeat' (first | (with_reducible intro h) | (with_reducible refine And.intro (by omega) ?_) | (with_reducible refine exP (by omega) ?_) | (with_reducible apply And.intro))))
end Go.Proofs.Ytpnkabohkmabmaa

namespace Go.Proofs.Ytpnkabohkmabmaa
open Go.Gh
set_option maxRecDepth 20000
set_option linter.unusedSimpArgs false
set_option linter.unusedVariables false
theorem w9 (t : List Nod) (i : Int) (hx : ∀ x ∈ t, x.rule.size ≤ maxLen) : Pure Try.prog 9 [Tr t, I i] (· = B true) := by
  refine gstart mxd i9 rfl (by simp) ?_; simp only [↓ S2, S2, vIte, ↓reduceIte, Int.reduceNe, Nat.reduceEqDiff, reduceCtorEq, Nat.reduceLeDiff, Nat.reduceAdd, Nat.reduceLT]
  refine callS.eq (w21 t _ (by omega) (by omega) hx) ?_
  ((try simp only [↓ S2, S2, vIte, ↓reduceIte, Int.reduceNe, Nat.reduceEqDiff, reduceCtorEq, Nat.reduceLeDiff, Nat.reduceAdd, Nat.reduceLT]); (repeat (simp only [brGen]; try simp only [↓ S2, S2, vIte, ↓reduceIte, Int.reduceNe, Nat.reduceEqDiff, reduceCtorEq, Nat.reduceLeDiff, Nat.reduceAdd, Nat.reduceLT])); (try simp +contextual (disch := omega) only [Z2]); (repeat' (first | (with_reducible intro h) | (with_reducible refine And.intro (by omega) ?_) | (with_reducible refine exP (by omega) ?_) | (with_reducible apply And.intro))))
  have hb := szTr h
  have hm := mkEnd_small h
  have hnl : (nodeIds t i).length ≤ 2097152 := by
    simp only [nodeIds]
    split
    · rename_i hi
      have hi' : i.toNat < t.length := by omega
      rw [List.getElem?_eq_getElem hi']
      have q1 := idsAt_len t (i :: t[i.toNat].kids)
      have q2 := hb.2 _ (List.getElem_mem hi')
      simp only [List.length_cons] at q1
      simp only [Option.map_some, Option.getD_some]
      omega
    · simp
  refine callS.eq (w23 t hb.1 hb.2) ?_
  ((try simp only [↓ S2, S2, vIte, ↓reduceIte, Int.reduceNe, Nat.reduceEqDiff, reduceCtorEq, Nat.reduceLeDiff, Nat.reduceAdd, Nat.reduceLT]); (repeat (simp only [brGen]; try simp only [↓ S2, S2, vIte, ↓reduceIte, Int.reduceNe, Nat.reduceEqDiff, reduceCtorEq, Nat.reduceLeDiff, Nat.reduceAdd, Nat.reduceLT])); (try simp +contextual (disch := omega) only [Z2]); (repeat' (first | (with_reducible intro h) | (with_reducible refine And.intro (by omega) ?_) | (with_reducible refine exP (by omega) ?_) | (with_reducible apply And.intro))))
  refine callS.of (o34 t i hb.1 hb.2 _) ?_
  rintro g H' ⟨H1, ⟨rv, rfl, rfl⟩, rfl⟩ -
  simp only [List.cons_append, List.nil_append]
  ((try simp only [↓ S2, S2, vIte, ↓reduceIte, Int.reduceNe, Nat.reduceEqDiff, reduceCtorEq, Nat.reduceLeDiff, Nat.reduceAdd, Nat.reduceLT]); (repeat (simp only [brGen]; try simp only [↓ S2, S2, vIte, ↓reduceIte, Int.reduceNe, Nat.reduceEqDiff, reduceCtorEq, Nat.reduceLeDiff, Nat.reduceAdd, Nat.reduceLT])); (try simp +contextual (disch := omega) only [Z2]); (repeat' (first | (with_reducible intro h) | (with_reducible refine And.intro (by omega) ?_) | (with_reducible refine exP (by omega) ?_) | (with_reducible apply And.intro))))
  refine callS.of (o23 t hb.1 hb.2 _) ?_
  rintro g H' ⟨rx, rfl, rfl⟩ hnx
  have n1 := two_ne hnx
  ((try simp only [↓ S2, S2, vIte, ↓reduceIte, Int.reduceNe, Nat.reduceEqDiff, reduceCtorEq, Nat.reduceLeDiff, Nat.reduceAdd, Nat.reduceLT]); (repeat (simp only [brGen]; try simp only [↓ S2, S2, vIte, ↓reduceIte, Int.reduceNe, Nat.reduceEqDiff, reduceCtorEq, Nat.reduceLeDiff, Nat.reduceAdd, Nat.reduceLT])); (try simp +contextual (disch := omega) only [Z2]); (repeat' (first | (with_reducible intro h) | (with_reducible refine And.intro (by omega) ?_) | (with_reducible refine exP (by omega) ?_) | (with_reducible apply And.intro))))
  refine callS.lend (fun H0 => o35 t i hb.1 hb.2 H0) (.cons (bor_Tr hget_new rfl) (.cons .refl .nil)) (by rintro g H1 ⟨r, rfl, rfl⟩; simp [noD, noDH, noDL_eq]) ?_
  rintro g H1 ⟨rg, rfl, rfl⟩ hng
  simp only [List.cons_append, List.nil_append] at hng ⊢
  obtain ⟨n2, n3, n4⟩ := three_ne hng
  ((try simp only [↓ S2, S2, vIte, ↓reduceIte, Int.reduceNe, Nat.reduceEqDiff, reduceCtorEq, Nat.reduceLeDiff, Nat.reduceAdd, Nat.reduceLT]); (repeat (simp only [brGen]; try simp only [↓ S2, S2, vIte, ↓reduceIte, Int.reduceNe, Nat.reduceEqDiff, reduceCtorEq, Nat.reduceLeDiff, Nat.reduceAdd, Nat.reduceLT])); (try simp +contextual (disch := omega) only [Z2]); (repeat' (first | (with_reducible intro h) | (with_reducible refine And.intro (by omega) ?_) | (with_reducible refine exP (by omega) ?_) | (with_reducible apply And.intro))))
  refine callS.bor (w36 (nodeIds t i) (nodeIds t i)) (.cons (bor_IS hget_new rfl) (.cons (bor_IS (by rw [hget_old n3, hget_old n4, hget_new]) rfl) .nil)) rfl ?_
  ((try simp only [↓ S2, S2, vIte, ↓reduceIte, Int.reduceNe, Nat.reduceEqDiff, reduceCtorEq, Nat.reduceLeDiff, Nat.reduceAdd, Nat.reduceLT]); (repeat (simp only [brGen]; try simp only [↓ S2, S2, vIte, ↓reduceIte, Int.reduceNe, Nat.reduceEqDiff, reduceCtorEq, Nat.reduceLeDiff, Nat.reduceAdd, Nat.reduceLT])); (try simp +contextual (disch := omega) only [Z2]); (repeat' (first | (with_reducible intro h) | (with_reducible refine And.intro (by omega) ?_) | (with_reducible refine exP (by omega) ?_) | (with_reducible apply And.intro))))
  refine callS.eq (w23 t hb.1 hb.2) ?_
  ((try simp only [↓ S2, S2, vIte, ↓reduceIte, Int.reduceNe, Nat.reduceEqDiff, reduceCtorEq, Nat.reduceLeDiff, Nat.reduceAdd, Nat.reduceLT]); (repeat (simp only [brGen]; try simp only [↓ S2, S2, vIte, ↓reduceIte, Int.reduceNe, Nat.reduceEqDiff, reduceCtorEq, Nat.reduceLeDiff, Nat.reduceAdd, Nat.reduceLT])); (try simp +contextual (disch := omega) only [Z2]); (repeat' (first | (with_reducible intro h) | (with_reducible refine And.intro (by omega) ?_) | (with_reducible refine exP (by omega) ?_) | (with_reducible apply And.intro))))
  refine callS.borA (w25 t t) (.cons (bor_Tr (by rw [hget_old n2, hget_new]) rfl) (.cons .refl .nil)) rfl ?_
  ((try simp only [↓ S2, S2, vIte, ↓reduceIte, Int.reduceNe, Nat.reduceEqDiff, reduceCtorEq, Nat.reduceLeDiff, Nat.reduceAdd, Nat.reduceLT]); (repeat (simp only [brGen]; try simp only [↓ S2, S2, vIte, ↓reduceIte, Int.reduceNe, Nat.reduceEqDiff, reduceCtorEq, Nat.reduceLeDiff, Nat.reduceAdd, Nat.reduceLT])); (try simp +contextual (disch := omega) only [Z2]); (repeat' (first | (with_reducible intro h) | (with_reducible refine And.intro (by omega) ?_) | (with_reducible refine exP (by omega) ?_) | (with_reducible apply And.intro))))
  refine callS.of (w37 rx t.length 1 t _ (by rw [hget_old n2, hget_new]) rfl (by omega) (by omega)) ?_
  rintro g H' ⟨rfl, rfl⟩ -
  rw [hset_old n2, hset_new]
  have hme := mkEnd_le 1 t
  ((try simp only [↓ S2, S2, vIte, ↓reduceIte, Int.reduceNe, Nat.reduceEqDiff, reduceCtorEq, Nat.reduceLeDiff, Nat.reduceAdd, Nat.reduceLT]); (repeat (simp only [brGen]; try simp only [↓ S2, S2, vIte, ↓reduceIte, Int.reduceNe, Nat.reduceEqDiff, reduceCtorEq, Nat.reduceLeDiff, Nat.reduceAdd, Nat.reduceLT])); (try simp +contextual (disch := omega) only [Z2]); (repeat' (first | (with_reducible intro h) | (with_reducible refine And.intro (by omega) ?_) | (with_reducible refine exP (by omega) ?_) | (with_reducible apply And.intro))))
  refine callS.borA (w36 (nodeIds t i) (nodeIds t i)) (.cons (bor_IS hget_new rfl) (.cons (bor_IS (by rw [hget_old n3, hget_old n4, hget_new]) rfl) .nil)) rfl ?_
  ((try simp only [↓ S2, S2, vIte, ↓reduceIte, Int.reduceNe, Nat.reduceEqDiff, reduceCtorEq, Nat.reduceLeDiff, Nat.reduceAdd, Nat.reduceLT]); (repeat (simp only [brGen]; try simp only [↓ S2, S2, vIte, ↓reduceIte, Int.reduceNe, Nat.reduceEqDiff, reduceCtorEq, Nat.reduceLeDiff, Nat.reduceAdd, Nat.reduceLT])); (try simp +contextual (disch := omega) only [Z2]); (repeat' (first | (with_reducible intro h) | (with_reducible refine And.intro (by omega) ?_) | (with_reducible refine exP (by omega) ?_) | (with_reducible apply And.intro))))
  refine callS.of (w38 rg _ 1 (nodeIds t i) _ hget_new rfl (by omega) (by omega)) ?_
  rintro g H' ⟨rfl, rfl⟩ -
  rw [hset_new]
  ((try simp only [↓ S2, S2, vIte, ↓reduceIte, Int.reduceNe, Nat.reduceEqDiff, reduceCtorEq, Nat.reduceLeDiff, Nat.reduceAdd, Nat.reduceLT]); (repeat (simp only [brGen]; try simp only [↓ S2, S2, vIte, ↓reduceIte, Int.reduceNe, Nat.reduceEqDiff, reduceCtorEq, Nat.reduceLeDiff, Nat.reduceAdd, Nat.reduceLT])); (try simp +contextual (disch := omega) only [Z2]); (repeat' (first | (with_reducible intro h) | (with_reducible refine And.intro (by omega) ?_) | (with_reducible refine exP (by omega) ?_) | (with_reducible apply And.intro))))
  refine callS.borA (w39 (nodeIds t i).length 1 (by omega) (by omega)) (.cons (bor_IS hget_new (upFrom_len _ _)) (.cons .refl .nil)) rfl ?_
  ((try simp only [↓ S2, S2, vIte, ↓reduceIte, Int.reduceNe, Nat.reduceEqDiff, reduceCtorEq, Nat.reduceLeDiff, Nat.reduceAdd, Nat.reduceLT]); (repeat (simp only [brGen]; try simp only [↓ S2, S2, vIte, ↓reduceIte, Int.reduceNe, Nat.reduceEqDiff, reduceCtorEq, Nat.reduceLeDiff, Nat.reduceAdd, Nat.reduceLT])); (try simp +contextual (disch := omega) only [Z2]); (repeat' (first | (with_reducible intro h) | (with_reducible refine And.intro (by omega) ?_) | (with_reducible refine exP (by omega) ?_) | (with_reducible apply And.intro))))
  refine callS.eq (w23 t hb.1 hb.2) ?_
  ((try simp only [↓ S2, S2, vIte, ↓reduceIte, Int.reduceNe, Nat.reduceEqDiff, reduceCtorEq, Nat.reduceLeDiff, Nat.reduceAdd, Nat.reduceLT]); (repeat (simp only [brGen]; try simp only [↓ S2, S2, vIte, ↓reduceIte, Int.reduceNe, Nat.reduceEqDiff, reduceCtorEq, Nat.reduceLeDiff, Nat.reduceAdd, Nat.reduceLT])); (try simp +contextual (disch := omega) only [Z2]); (repeat' (first | (with_reducible intro h) | (with_reducible refine And.intro (by omega) ?_) | (with_reducible refine exP (by omega) ?_) | (with_reducible apply And.intro))))
  refine callS.of (o35 t i hb.1 hb.2 _) ?_
  rintro g H' ⟨H1, ⟨rh, rfl, rfl⟩, rfl⟩ hnh
  simp only [List.cons_append, List.nil_append] at hnh ⊢
  obtain ⟨m1, m2, m3, _, _, _⟩ := four_ne hnh
  ((try simp only [↓ S2, S2, vIte, ↓reduceIte, Int.reduceNe, Nat.reduceEqDiff, reduceCtorEq, Nat.reduceLeDiff, Nat.reduceAdd, Nat.reduceLT]); (repeat (simp only [brGen]; try simp only [↓ S2, S2, vIte, ↓reduceIte, Int.reduceNe, Nat.reduceEqDiff, reduceCtorEq, Nat.reduceLeDiff, Nat.reduceAdd, Nat.reduceLT])); (try simp +contextual (disch := omega) only [Z2]); (repeat' (first | (with_reducible intro h) | (with_reducible refine And.intro (by omega) ?_) | (with_reducible refine exP (by omega) ?_) | (with_reducible apply And.intro))))
  refine callS.borA (w36 (nodeIds t i) (nodeIds t i)) (.cons (bor_IS hget_new rfl) (.cons (bor_IS (by rw [hget_old m3, hget_old n3, hget_old n4, hget_new]) rfl) .nil)) rfl ?_
  ((try simp only [↓ S2, S2, vIte, ↓reduceIte, Int.reduceNe, Nat.reduceEqDiff, reduceCtorEq, Nat.reduceLeDiff, Nat.reduceAdd, Nat.reduceLT]); (repeat (simp only [brGen]; try simp only [↓ S2, S2, vIte, ↓reduceIte, Int.reduceNe, Nat.reduceEqDiff, reduceCtorEq, Nat.reduceLeDiff, Nat.reduceAdd, Nat.reduceLT])); (try simp +contextual (disch := omega) only [Z2]); (repeat' (first | (with_reducible intro h) | (with_reducible refine And.intro (by omega) ?_) | (with_reducible refine exP (by omega) ?_) | (with_reducible apply And.intro))))
  refine callS.borA (w39 (nodeIds t i).length 1 (by omega) (by omega)) (.cons (bor_IS (by rw [hget_old m1, hget_new]) (upFrom_len _ _)) (.cons .refl .nil)) rfl ?_
  ((try simp only [↓ S2, S2, vIte, ↓reduceIte, Int.reduceNe, Nat.reduceEqDiff, reduceCtorEq, Nat.reduceLeDiff, Nat.reduceAdd, Nat.reduceLT]); (repeat (simp only [brGen]; try simp only [↓ S2, S2, vIte, ↓reduceIte, Int.reduceNe, Nat.reduceEqDiff, reduceCtorEq, Nat.reduceLeDiff, Nat.reduceAdd, Nat.reduceLT])); (try simp +contextual (disch := omega) only [Z2]); (repeat' (first | (with_reducible intro h) | (with_reducible refine And.intro (by omega) ?_) | (with_reducible refine exP (by omega) ?_) | (with_reducible apply And.intro))))
  all_goals (exfalso; omega)
end Go.Proofs.Ytpnkabohkmabmaa

namespace Go.Proofs.Ytpnkabohkmabmaa
open Go.ChangeShapes Go.WideShapes Go.ChangeAt Go.RowKit Go.Gh
theorem Try.own : ownKnob Try.prog.godebug = none := by kernel_rfl
theorem Try.laidOut : laidOutB Try.prog = true := by kernel_rfl
set_option maxRecDepth 100000 in
theorem l9 (os : Os) (started : os.Started) (H : Type) (enc : TypeId × Value → H) :
    ReturnsInHanded {} Try.checked os 9 .any (Rows.fnExactNodeIdsSpec.pre6 enc Try.prog Try.f9 Rows.fnExactNodeIdsRow.domain false) (Rows.fnExactNodeIdsSpec.post enc Try.prog Try.f9 false true false false) := by
  refine returnsInHanded_of_change (C := Try.checked) Try.own started (by kernel_rfl) Try.func9
    (ChangeSpec.witness6 (enc := enc) (C := Try.checked) false ⟨#[], #[.agg #[.slice none 0 0], .int .i64 0], []⟩ 8 (by kernel_rfl) (by kernel_rfl) (by kernel_rfl) (by kernel_rfl)) ?_
  intro W base args ds gs before hval0 hW hcnd _
  have hval : ∀ (j : Nat) t v, Try.f9.params[j]? = some t → args[j]? = some v → Value.okWide Try.prog W .any base t v := hval0
  have hW' := hW
  obtain ⟨p, q, hA0, hV, rfl, hfz, hnd⟩ := hW
  have hA : DataW.TrodAll enc Try.prog W 0 (fun _ => true) true Try.f9.params.toList args.toList ds p := hA0
  rw [Try.params9] at hA hval
  obtain ⟨v0, v1, d0, d1, p0, p1, rfl, rfl, rfl, h0, h1⟩ := trodAll_two hA
  obtain ⟨rfl, rfl⟩ := trodVars_none hV
  obtain ⟨g0, m0, e0⟩ := lift_val (P := Try.prog) 8 (by kernel_rfl) (hval 0 _ v0 rfl rfl) h0
  obtain ⟨g1, m1, e1⟩ := lift_val (P := Try.prog) 8 (by kernel_rfl) (hval 1 _ v1 rfl rfl) h1
  obtain ⟨t, rfl, hx⟩ := t_Tr e0
  obtain ⟨i, rfl⟩ := t_int e1
  clear hA0 hval0
  simp only [List.append_nil] at hW'
  have hlt := hW'.lt
  refine ((w9 t i hx).out i9 (W := W) (args := [v0, v1]) (.cons0 m0 (.cons0 m1 .nil0))).mono fun e W' ⟨v, g, D, he, hg, hm, hb⟩ => ?_
  subst he; subst hg
  have hv := MV.val_inv hm
  subst hv
  exact ⟨_, rfl, post_of_below (pa := p0 ++ p1) (pv := []) hW' (fun _ _ _ => trodAll_mk1 (shut_bool Try.underlying4 _)) (fun sp hsp => trodAll_mk2 (WideElems.Trod_stays Try.laidOut (by kernel_rfl) (of_decide_eq_true (by kernel_rfl)) h0 (fun x hx => hb.same (hlt x (by simp [hx]))) (fun x hx => hsp x (by simp [hx]))) (WideElems.Trod_stays Try.laidOut (by kernel_rfl) (of_decide_eq_true (by kernel_rfl)) h1 (fun x hx => hb.same (hlt x (by simp [hx]))) (fun x hx => hsp x (by simp [hx])))) (fun _ _ => rfl) (by simp)
    hb (ok_one (by kernel_rfl) rfl (okWide_bool_mk Try.underlying4 _))⟩
theorem h9 : Rows.FnExactNodeIdsSaid :=
  OpenClaim.holds_of_wide 9 Try.f9 rfl rfl rfl rfl rfl rfl rfl ⟨rfl, rfl, rfl, rfl, rfl⟩ rfl rfl rfl rfl rfl (by kernel_rfl) Try.func9 (by kernel_rfl)
    (of_decide_eq_true (by kernel_rfl)) (by unfold Func.isWrapper; first | (rw [if_pos (by decide +kernel)]; kernel_rfl) | (rw [if_neg (by decide +kernel)]; exact ⟨rfl, rfl⟩))
    (fun os started H enc _ => l9 os started H enc)
end Go.Proofs.Ytpnkabohkmabmaa

