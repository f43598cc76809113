/- The law FnExactDefinitionOf returns true whatever the input, and the input reads behind the call as before. No condition. -/
import Derived.Test.YtfkngocbihkdfaaGreatLib2
/- The program's data as plain data, and their ghosts. -/
namespace Go.Gh
set_option linter.unusedSimpArgs false
set_option linter.unusedVariables false

/-- A string's ghost. -/
abbrev T (s : ByteArray) : GV := .val (.string s)
theorem chars_inj {s t : ByteArray} : chars s = chars t ↔ s = t := by
  constructor
  · intro h; obtain ⟨a⟩ := s; obtain ⟨b⟩ := t; simp only [chars] at h; congr 1; exact Array.ext' h
  · rintro rfl; rfl
theorem data_inj {s t : ByteArray} : s.data = t.data ↔ s = t := ByteArray.ext_iff.symm

@[ext] structure Nod where
  id : Int
  parent : Int
  place : Int
  lit : Int
  rule : ByteArray
  kids : List Int
deriving DecidableEq
abbrev Nd (x : Nod) : GV := .agg [I x.id, I x.parent, I x.place, I x.lit, T x.rule, IS x.kids]
abbrev NdS (l : List Nod) : GV := .sl 6 (l.map Nd)
abbrev wNd (x : Nod) : Nat := (chars x.rule).length + x.kids.length
@[ext] structure Slo where
  pos : Int
  name : ByteArray
  val : Int
deriving DecidableEq
abbrev Occ (x : Int × ByteArray) : GV := .agg [I x.1, T x.2]
abbrev OccS (l : List (Int × ByteArray)) : GV := .sl 2 (l.map Occ)
abbrev wOcc (x : Int × ByteArray) : Nat := (chars x.2).length
abbrev Slt (x : Slo) : GV := .agg [I x.pos, T x.name, I x.val]
abbrev SltS (l : List Slo) : GV := .sl 3 (l.map Slt)
abbrev wSlo (x : Slo) : Nat := (chars x.name).length
abbrev Tr (l : List Nod) : GV := .agg [NdS l]

theorem e_nil (e : Env) : subE e [] = True := (rfl)
theorem e_cons (e : Env) (j : Nat) (g : GV) (r : Env) : subE e ((j, g) :: r) = (eget e j = some g ∧ subE e r) := (rfl)
theorem n_val (v : Value) : nraw (.val v) = true := (rfl)
theorem n_sl (sz : Nat) (es : List GV) : nraw (.sl sz es) = true := (rfl)
theorem n_agg (cs : List GV) : nraw (.agg cs) = true := (rfl)
theorem n_rop (sz : Nat) (g : GV) : nraw (.rop sz g) = true := (rfl)
theorem n_ptr (r sz i o : Nat) : nraw (.ptr r sz i o) = true := (rfl)
theorem n_own (r sz k n : Nat) : nraw (.own r sz k n) = true := (rfl)
theorem n_clo (f : Nat) (cs : List GV) : nraw (.clo f cs) = true := (rfl)
theorem n_tup (cs : List GV) : nraw (.tup cs) = true := (rfl)
theorem E2 : type_of% (And.intro @e_nil (And.intro @e_cons (And.intro @n_val (And.intro @n_sl (And.intro @n_agg (And.intro @n_rop (And.intro @n_ptr (And.intro @n_own (And.intro @n_clo (And.intro @n_tup (And.intro @x_get @Option.some.injEq.{0}))))))))))) :=
  And.intro @e_nil (And.intro @e_cons (And.intro @n_val (And.intro @n_sl (And.intro @n_agg (And.intro @n_rop (And.intro @n_ptr (And.intro @n_own (And.intro @n_clo (And.intro @n_tup (And.intro @x_get @Option.some.injEq.{0}))))))))))
theorem maxLv : maxL = 9223372036854775807 := (rfl)
theorem Z2 : type_of% (And.intro @Int.ofNat_lt (And.intro @Int.natCast_nonneg (And.intro @true_and (And.intro @u_ext (And.intro @exists_prop_of_true (And.intro @Int.natCast_zero (And.intro @chars_inj (And.intro @Int.natCast_inj (And.intro maxLv (And.intro @not_true_eq_false (And.intro @false_implies (And.intro @true_implies (And.intro @and_true (And.intro @implies_true.{0} @wrap64)))))))))))))) :=
  And.intro @Int.ofNat_lt (And.intro @Int.natCast_nonneg (And.intro @true_and (And.intro @u_ext (And.intro @exists_prop_of_true (And.intro @Int.natCast_zero (And.intro @chars_inj (And.intro @Int.natCast_inj (And.intro maxLv (And.intro @not_true_eq_false (And.intro @false_implies (And.intro @true_implies (And.intro @and_true (And.intro @implies_true.{0} @wrap64)))))))))))))
theorem lenOk_map {α : Type} {f : α → GV} {l : List α} (h : LenOkL (l.map f)) : ∀ x ∈ l, LenOk (f x) := fun x hx => h.all _ (List.mem_map.2 ⟨x, hx, rfl⟩)
theorem lenTr {l : List Nod} (h : LenOk (Tr l)) : l.length ≤ 9223372036854775807 ∧ ∀ x ∈ l, x.kids.length ≤ 9223372036854775807 := by
  simp only [LenOk, LenOkL, List.length_map, maxL] at h
  refine ⟨h.1.1, fun x hx => ?_⟩
  have := lenOk_map h.1.2 x hx
  simp only [LenOk, LenOkL, List.length_map, maxL] at this
  exact this.2.2.2.2.2.1.1
theorem i_inj (a b : Int) : (I a = I b) = (a = b) := by simp

end Go.Gh

/- What the program computes, in plain words: trees. -/
namespace Go.Gh
set_option linter.unusedSimpArgs false
set_option linter.unusedVariables false

theorem takeWhile_len {α : Type} {p : α → Bool} : ∀ {l : List α} {n : Nat}, n ≤ l.length → (∀ j (h : j < l.length), j < n → p l[j] = true) → (∀ h : n < l.length, p l[n] = false) → (l.takeWhile p).length = n
  | [], n, h, _, _ => by simp at h; simp [h]
  | x :: l, 0, _, _, h2 => by
    have := h2 (by simp)
    simp at this
    simp [this]
  | x :: l, n + 1, h, h1, h2 => by
    have h3 := h1 0 (by simp) (by omega)
    simp at h3
    have h4 := takeWhile_len (p := p) (l := l) (n := n) (by simpa using h) (fun j hj hn => by have := h1 (j + 1) (by simpa using hj) (by omega); simpa using this) (fun hj => by have := h2 (by simpa using hj); simpa using this)
    simp [h3, h4]

/-- How many nodes a subtree has. -/
def subLen (t : List Nod) (i : Nat) : Nat := ((t.drop (i + 1)).takeWhile fun x => decide ((i : Int) ≤ x.parent)).length + 1
theorem subLen_eq {t : List Nod} {i k : Nat} (hik : i < k) (hk : k ≤ t.length) (ha : ∀ j (h : j < t.length), i < j → j < k → (i : Int) ≤ t[j].parent) (hn : ∀ h : k < t.length, ¬ (i : Int) ≤ t[k].parent) : subLen t i = k - i := by
  have := takeWhile_len (p := fun x : Nod => decide ((i : Int) ≤ x.parent)) (l := t.drop (i + 1)) (n := k - (i + 1)) (by simp; omega) (fun j hj hl => by
    simp at hj
    have := ha (i + 1 + j) (by omega) (by omega) (by omega)
    simpa using this) (fun h => by
    simp at h
    have := hn (by omega)
    have e : i + 1 + (k - (i + 1)) = k := by omega
    simp only [List.getElem_drop, e]
    simpa using this)
  rw [subLen, this]; omega
theorem subLen_le {t : List Nod} {i : Nat} (h : i < t.length) : i + subLen t i ≤ t.length := by
  have : ((t.drop (i + 1)).takeWhile fun x => decide ((i : Int) ≤ x.parent)).length ≤ (t.drop (i + 1)).length := (List.takeWhile_sublist _).length_le
  simp at this
  rw [subLen]; omega
theorem subLen_pos {t : List Nod} {i : Nat} : 0 < subLen t i := by simp [subLen]
def treeSize (t : List Nod) (i : Int) : Int := if 0 ≤ i ∧ i < t.length then subLen t i.toNat else 0

/-! ### Heights -/
/-- The greatest height of children: hs: the heights of the nodes behind node k. -/
def kidStep (hs : List Int) (k : Nat) (m : Int) (c : Int) : Int := if (k : Int) < c ∧ c < k + 1 + hs.length then max m (hs.getD (c - k - 1).toNat 0) else m
def kidMax (hs : List Int) (k : Nat) (kids : List Int) : Int := kids.foldl (kidStep hs k) 0
def hts : Nat → List Nod → List Int
  | _, [] => []
  | k, x :: r => (kidMax (hts (k + 1) r) k x.kids + 1) :: hts (k + 1) r
theorem hts_len : ∀ (k : Nat) (l : List Nod), (hts k l).length = l.length
  | _, [] => rfl
  | k, x :: r => by simp [hts, hts_len (k + 1) r]
theorem kidStep_le {hs : List Int} {k : Nat} {m c b : Int} (hm : 0 ≤ m ∧ m ≤ b) (hh : ∀ h ∈ hs, 0 ≤ h ∧ h ≤ b) : 0 ≤ kidStep hs k m c ∧ kidStep hs k m c ≤ b := by
  simp only [kidStep]
  split
  · rename_i hc
    have hi : (c - k - 1).toNat < hs.length := by omega
    rw [List.getD_eq_getElem?_getD, List.getElem?_eq_getElem hi]
    have := hh _ (List.getElem_mem hi)
    simp only [Option.getD_some]
    omega
  · exact hm
theorem kidFold_le {hs : List Int} {k : Nat} {b : Int} (hh : ∀ h ∈ hs, 0 ≤ h ∧ h ≤ b) : ∀ (kids : List Int) (m : Int), 0 ≤ m ∧ m ≤ b → 0 ≤ kids.foldl (kidStep hs k) m ∧ kids.foldl (kidStep hs k) m ≤ b
  | [], m, h => h
  | c :: cs, m, h => kidFold_le hh cs _ (kidStep_le h hh)
theorem hts_le : ∀ (k : Nat) (l : List Nod), ∀ h ∈ hts k l, 0 ≤ h ∧ h ≤ l.length
  | _, [], h, hm => by simp [hts] at hm
  | k, x :: r, h, hm => by
    have ih := hts_le (k + 1) r
    simp only [hts, List.mem_cons] at hm
    rcases hm with rfl | hm
    · have := kidFold_le (k := k) ih x.kids 0 (by omega)
      simp only [kidMax, List.length_cons]
      omega
    · have := ih h hm
      simp only [List.length_cons]
      omega
def treeHt (t : List Nod) (i : Int) : Int := if 0 ≤ i ∧ i < t.length then (hts i.toNat (t.drop i.toNat)).headD 0 else 0

end Go.Gh
namespace Go.Gh
/-- An array of heights at work: k zeros, m, the rest. -/
def arr (k : Nat) (m : Int) (hs : List Int) : List Int := List.replicate k 0 ++ m :: hs
theorem arr_len (k : Nat) (m : Int) (hs : List Int) : (arr k m hs).length = k + 1 + hs.length := by simp [arr]; omega
theorem arr_get (k : Nat) (m : Int) (hs : List Int) (h : k < (arr k m hs).length) : (arr k m hs)[k] = m := by
  simp only [arr]
  rw [List.getElem_append_right (by simp)]
  simp
theorem arr_get2 {k : Nat} {m : Int} {hs : List Int} {c : Int} (h1 : (k : Int) < c) (h2 : c < k + 1 + hs.length) (h : c.toNat < (arr k m hs).length) : (arr k m hs)[c.toNat] = hs.getD (c - k - 1).toNat 0 := by
  have hi : (c - k - 1).toNat < hs.length := by omega
  have e : c.toNat = k + 1 + (c - k - 1).toNat := by omega
  simp only [arr]
  rw [List.getElem_append_right (by simp; omega), List.getD_eq_getElem?_getD, List.getElem?_eq_getElem hi]
  simp only [List.length_replicate, Option.getD_some]
  have e2 : c.toNat - k = (c - k - 1).toNat + 1 := by omega
  simp only [e2, List.getElem_cons_succ]
theorem arr_set (k : Nat) (m v : Int) (hs : List Int) : (arr k m hs).set k v = arr k v hs := by
  simp only [arr]
  rw [List.set_append_right _ _ (by simp)]
  simp
theorem arr_step (k : Nat) (hs : List Int) : List.replicate (k + 1) 0 ++ hs = arr k 0 hs := by
  simp only [arr, List.replicate_succ']
  simp
theorem take_foldl {α β : Type} (f : β → α → β) (b : β) (l : List α) (j : Nat) (h : j < l.length) : (l.take (j + 1)).foldl f b = f ((l.take j).foldl f b) l[j] := by
  rw [List.take_add_one, List.getElem?_eq_getElem h, List.foldl_append]
  rfl
theorem hts_drop {t : List Nod} {k : Nat} (h : k < t.length) : hts k (t.drop k) = (kidMax (hts (k + 1) (t.drop (k + 1))) k t[k].kids + 1) :: hts (k + 1) (t.drop (k + 1)) := by
  rw [List.drop_eq_getElem_cons h, hts]
end Go.Gh
namespace Go.Gh
theorem sum_mem {α : Type} (f : α → Nat) : ∀ (l : List α) (x : α), x ∈ l → f x ≤ (l.map f).sum
  | y :: l, x, h => by
    simp only [List.map_cons, List.sum_cons]
    rcases List.mem_cons.1 h with rfl | h
    · omega
    · have := sum_mem f l x h; omega
theorem szTr {t : List Nod} {left : Int} (h : ¬ szv left (wtS wNd t) < 0) (hl : left ≤ 1048576 := by omega) : t.length ≤ 1048576 ∧ ∀ x ∈ t, x.kids.length ≤ 1048576 := by
  have h1 := szv_nn h
  simp only [wtS] at h1
  refine ⟨by omega, fun x hx => ?_⟩
  have := sum_mem wNd t x hx
  simp only [wNd] at this h1
  omega
end Go.Gh
namespace Go.Gh
theorem take_eq_step {α : Type} {xs ys : List α} {i : Nat} (hp : xs.take i = ys.take i) (h1 : i < xs.length) (h2 : i < ys.length) (h : xs[i] = ys[i]) : xs.take (i + 1) = ys.take (i + 1) := by
  rw [List.take_add_one, List.take_add_one, hp, List.getElem?_eq_getElem h1, List.getElem?_eq_getElem h2, h]
end Go.Gh
namespace Go.Gh
theorem bEq {p q : Prop} [Decidable p] [Decidable q] (h : p ↔ q) : B (decide p) = B (decide q) := by
  have : decide p = decide q := by by_cases hp : p <;> simp [hp, ← h]
  rw [this]
theorem getI {l : List Int} {i : Nat} (h : i < l.length) : l[i] = l.getD i 0 := by
  rw [List.getD_eq_getElem?_getD, List.getElem?_eq_getElem h]; rfl
end Go.Gh
namespace Go.Gh
theorem exP {p : Prop} {q : p → Prop} (h : p) (hq : q h) : ∃ h, q h := ⟨h, hq⟩
end Go.Gh
namespace Go.Gh
theorem headD_eq {l : List Int} (h : 0 < l.length) : l.headD 0 = l[0] := by cases l with
  | nil => simp at h
  | cons x l => rfl
theorem kidStep_in {hs : List Int} {k : Nat} {m c : Int} (h1 : (k : Int) < c) (h2 : c < k + 1 + hs.length) : kidStep hs k m c = max m (hs.getD (c - k - 1).toNat 0) := by rw [kidStep, if_pos ⟨h1, h2⟩]
theorem kidStep_out {hs : List Int} {k : Nat} {m c : Int} (h : ¬ ((k : Int) < c ∧ c < k + 1 + hs.length)) : kidStep hs k m c = m := by rw [kidStep, if_neg h]
theorem getD_le {hs : List Int} {b : Int} (hh : ∀ h ∈ hs, 0 ≤ h ∧ h ≤ b) (hb : 0 ≤ b) (i : Nat) : 0 ≤ hs.getD i 0 ∧ hs.getD i 0 ≤ b := by
  rw [List.getD_eq_getElem?_getD]
  rcases Nat.lt_or_ge i hs.length with h | h
  · rw [List.getElem?_eq_getElem h]; exact hh _ (List.getElem_mem h)
  · rw [List.getElem?_eq_none h]; exact ⟨Int.le_refl 0, hb⟩
end Go.Gh
namespace Go.Gh
/-- Two lists, held against each other. -/
def all2 {α : Type} (p : α → α → Bool) (xs ys : List α) : Bool := decide (xs.length = ys.length) && (xs.zip ys).all fun z => p z.1 z.2
theorem all2_len {α : Type} {p : α → α → Bool} {xs ys : List α} (h : ¬ xs.length = ys.length) : all2 p xs ys = false := by simp [all2, h]
theorem all2_no {α : Type} {p : α → α → Bool} {xs ys : List α} {i : Nat} (h1 : i < xs.length) (h2 : i < ys.length) (h : p xs[i] ys[i] = false) : all2 p xs ys = false := by
  have : (xs.zip ys).all (fun z => p z.1 z.2) = false := by
    rw [List.all_eq_false]
    refine ⟨(xs[i], ys[i]), ?_, by simpa using h⟩
    have h3 : i < (xs.zip ys).length := by simp; omega
    have := List.getElem_mem h3
    rwa [List.getElem_zip] at this
  simp [all2, this]
theorem all2_yes {α : Type} {p : α → α → Bool} {xs ys : List α} (hl : xs.length = ys.length) (h : ∀ j (h1 : j < xs.length) (h2 : j < ys.length), p xs[j] ys[j] = true) : all2 p xs ys = true := by
  simp only [all2, hl, decide_true, Bool.true_and, List.all_eq_true]
  intro z hz
  obtain ⟨j, hj, rfl⟩ := List.getElem_of_mem hz
  rw [List.getElem_zip]
  simp at hj
  exact h j (by omega) (by omega)
theorem all2_step {α : Type} {p : α → α → Bool} {xs ys : List α} {i : Nat} {h1 : i < xs.length} {h2 : i < ys.length} (h : p xs[i] ys[i] = true) (hn : ∀ j (h1 : j < xs.length) (h2 : j < ys.length), j < i → p xs[j] ys[j] = true) :
    ∀ j (h1 : j < xs.length) (h2 : j < ys.length), j < i + 1 → p xs[j] ys[j] = true := by
  intro j k1 k2 hj
  rcases Nat.lt_or_ge j i with h3 | h3
  · exact hn j k1 k2 h3
  · have : j = i := by omega
    subst this; exact h
/-- Two nodes alike, with their Ids or not. -/
def sameNd (ids : Bool) (x y : Nod) : Bool := (!ids || decide (x.id = y.id)) && decide (x.parent = y.parent) && decide (x.place = y.place) && decide (x.lit = y.lit) && decide (x.rule = y.rule) && decide (x.kids = y.kids)
end Go.Gh
namespace Go.Gh
def atOcc (o : Int × ByteArray) (s : Slo) : Bool := decide (s.pos = o.1) && decide (s.name = o.2)
def slotValue (xs : List Slo) (o : Int × ByteArray) : Int := ((xs.find? (atOcc o)).map (·.val)).getD 0
theorem find_hit {α : Type} {p : α → Bool} : ∀ {xs : List α} {i : Nat} (h : i < xs.length), p xs[i] = true → (∀ a ∈ xs.take i, p a = false) → xs.find? p = some xs[i]
  | x :: xs, 0, _, hp, _ => by simp at hp; simp [hp]
  | x :: xs, i + 1, h, hp, hn => by
    have h1 : p x = false := hn x (by simp)
    simp only [List.find?_cons, h1]
    simpa using find_hit (p := p) (xs := xs) (i := i) (by simpa using h) (by simpa using hp) (fun a ha => hn a (by simp [ha]))
theorem find_none {α : Type} {p : α → Bool} {xs : List α} (hn : ∀ a ∈ xs, p a = false) : xs.find? p = none := by
  rw [List.find?_eq_none]; intro x hx; simp [hn x hx]
end Go.Gh

/- The laws' own functions on slices, whatever the element: sizes, copies, comparisons. -/
namespace Go.Gh
set_option linter.unusedSimpArgs false
set_option linter.unusedVariables false
set_option maxRecDepth 20000
section
variable {P : Program} {α : Type} {f : α → GV} {k kx sz : Nat} {det ag : Bool}
/-- Two slices compared, element by element. -/
theorem eqS (mxd : P.follows .mixedOrders = true) (hF : IsFun P k ⟨⟨27, []⟩,
  (.seq (.reg [(.mk (some 4) none (.mov (.k (.val (.bool false)))))]) (.seq (.seq (.reg [(.mk (some 6) none (.mov (.t 0))), (.mk (some 7) none (.len (.t 6))), (.mk (some 8) none (.mov (.t 1))), (.mk (some 9) none (.len
  (.t 8))), (.mk (some 10) none (.bin .neq (.t 7) (.t 9)))]) (.cond 10 (.seq (.reg [(.mk (some 4) none (.mov (.k (.val (.bool false)))))]) .ret) .skip)) (.seq (.seq (.reg [(.mk (some 5) none (.mov (.k (.val (.int .i64
  0)))))]) (.block 0 (.loop (.seq (.seq (.reg [(.mk (some 11) none (.mov (.t 5))), (.mk (some 12) none (.mov (.t 0))), (.mk (some 13) none (.len (.t 12))), (.mk (some 14) none (.bin .lss (.t 11) (.t 13)))]) (.cond 14
  .skip (.exit 0))) (.seq (.block 1 (.seq (.reg [(.mk (some 17) none (.mov (.t 0))), (.mk (some 18) none (.mov (.t 5))), (.mk (some 19) none (.iaddr sz (.t 17) (.t 18))), (.mk (some 21) none (.mov (.t 1))), (.mk (some
  22) none (.mov (.t 5))), (.mk (some 23) none (.iaddr sz (.t 21) (.t 22))), (.mk (some 20) none (.load sz ag (.t 19))), (.mk (some 24) none (.load sz ag (.t 23))), (.mk (some 25) none (.call det kx [(.t 20), (.t
  24)])), (.mk (some 26) none (.not (.t 25)))]) (.cond 26 (.seq (.reg [(.mk (some 4) none (.mov (.k (.val (.bool false)))))]) .ret) .skip))) (.reg [(.mk (some 15) none (.mov (.t 5))), (.mk (some 16) none (.bin .add (.t
  15) (.k (.val (.int .i64 1))))), (.mk (some 5) none (.mov (.t 16)))])))))) (.seq (.reg [(.mk (some 4) none (.mov (.k (.val (.bool true)))))]) .ret)))), [.t 4]⟩)
    [DecidableEq α] (hag : ∀ a, isAgg (f a) = ag) (hr : ∀ a, geR (some (f a)) = some (f a)) (xs ys : List α) (hx : ∀ a ∈ xs, ∀ b ∈ ys, Pure P kx [f a, f b] (· = B (decide (a = b)))) :
    Pure P k [.sl sz (xs.map f), .sl sz (ys.map f)] (· = B (decide (xs = ys))) := by
  refine GCalls.lenA fun hl => ?_
  have hlen := hl.1.1
  simp only [List.length_map, maxL] at hlen
  refine gstart mxd hF rfl (by simp) ?_
  ((try simp only [↓ S2, S2, ↓reduceIte, Nat.reduceEqDiff, reduceCtorEq, Nat.reduceLeDiff, Nat.reduceAdd, Nat.reduceLT, hr, hag]); (try simp only [brGen]; try simp only [↓ S2, S2, ↓reduceIte, Nat.reduceEqDiff, reduceCtorEq, Nat.reduceLeDiff, Nat.reduceAdd, Nat.reduceLT, hr, hag]); (try simp +contextual (disch := omega) only [Z2]); (repeat' (first | (with_reducible intro h) | (with_reducible refine And.intro (by omega) ?_) | (with_reducible refine exP (by omega) ?_) | (with_reducible apply And.intro))))
  rotate_left
  · simp; rintro rfl; exact h rfl
  refine wloop mxd (ι := { i : Nat // i ≤ xs.length ∧ xs.take i = ys.take i }) (fun i => [(0, .sl sz (xs.map f)), (1, .sl sz (ys.map f)), (5, I i.1)]) (fun _ => []) (fun i => xs.length - i.1) ⟨0, by simp⟩ (by simp [E2]) rfl ?_
  rintro ⟨i, hi, hp⟩
  ((try simp only [↓ S2, S2, ↓reduceIte, Nat.reduceEqDiff, reduceCtorEq, Nat.reduceLeDiff, Nat.reduceAdd, Nat.reduceLT, hr, hag]); (try simp only [brGen]; try simp only [↓ S2, S2, ↓reduceIte, Nat.reduceEqDiff, reduceCtorEq, Nat.reduceLeDiff, Nat.reduceAdd, Nat.reduceLT, hr, hag]); (try simp +contextual (disch := omega) only [Z2]); (repeat' (first | (with_reducible intro h) | (with_reducible refine And.intro (by omega) ?_) | (with_reducible refine exP (by omega) ?_) | (with_reducible apply And.intro))))
  · refine callS.eq (hx xs[i] (List.getElem_mem _) ys[i] (List.getElem_mem _)) ?_
    ((try simp only [↓ S2, S2, ↓reduceIte, Nat.reduceEqDiff, reduceCtorEq, Nat.reduceLeDiff, Nat.reduceAdd, Nat.reduceLT, hr, hag]); (try simp only [brGen]; try simp only [↓ S2, S2, ↓reduceIte, Nat.reduceEqDiff, reduceCtorEq, Nat.reduceLeDiff, Nat.reduceAdd, Nat.reduceLT, hr, hag]); (try simp +contextual (disch := omega) only [Z2]); (repeat' (first | (with_reducible intro h) | (with_reducible refine And.intro (by omega) ?_) | (with_reducible refine exP (by omega) ?_) | (with_reducible apply And.intro))))
    · exact nx ⟨i + 1, by omega, take_eq_step hp (by omega) (by omega) h⟩ (by simp; omega) (by simp [E2]) rfl
    · simp; rintro rfl; simp at h
  · have : i = xs.length := by omega
    subst this
    rw [List.take_of_length_le (by omega), List.take_of_length_le (by omega)] at hp
    simp [hp]
/-- A slice copied, element by element: the copy is the caller's own. -/
theorem toSo (mxd : P.follows .mixedOrders = true) {bytes : Nat} {z : GV} (hF : IsFun P k ⟨⟨23, []⟩,
  (.seq (.reg [(.mk (some 2) none (.mov (.k (.val (.slice none 0 0)))))]) (.seq (.reg [(.mk (some 5) none (.mov (.t 0))), (.mk (some 6) none (.len (.t 5))), (.mk (some 7) none (.mkslice sz bytes z (.t 6) (.t 6))), (.mk (some 3) none (.mov (.t 7)))]) (.seq (.seq (.reg [(.mk (some 4) none (.mov (.k (.val (.int .i64 0)))))]) (.block 0 (.loop (.seq (.seq (.reg [(.mk (some 8)
  none (.mov (.t 4))), (.mk (some 9) none (.mov (.t 0))), (.mk (some 10) none (.len (.t 9))), (.mk (some 11) none (.bin .lss (.t 8) (.t 10)))]) (.cond 11 .skip (.exit 0))) (.seq (.block 1 (.reg [(.mk (some 14) none
  (.mov (.t 3))), (.mk (some 15) none (.mov (.t 4))), (.mk (some 16) none (.mov (.t 0))), (.mk (some 17) none (.mov (.t 4))), (.mk (some 18) none (.iaddr sz (.t 16) (.t 17))), (.mk (some 19) none (.load sz ag (.t 18))),
  (.mk (some 20) none (.call det kx [(.t 19)])), (.mk (some 21) none (.iaddr sz (.t 14) (.t 15))), (.mk none none (.store sz (.t 21) (.t 20)))])) (.reg [(.mk (some 12) none (.mov (.t 4))), (.mk (some 13) none (.bin .add
  (.t 12) (.k (.val (.int .i64 1))))), (.mk (some 4) none (.mov (.t 13)))])))))) (.seq (.reg [(.mk (some 22) none (.mov (.t 3))), (.mk (some 2) none (.mov (.t 22)))]) .ret)))), [.t 2]⟩)
    (hag : ∀ a, isAgg (f a) = ag) (hr : ∀ a, geR (some (f a)) = some (f a)) (hsz : ∀ a, gsize (f a) = sz) (hst : ∀ a, storable (f a) = true) (xs : List α) (hlen : xs.length ≤ 1048576) (hb : bytes ≤ 1024)
    (hx : ∀ a ∈ xs, Pure P kx [f a] (· = f a)) (H : GH) :
    GCalls P k [.sl sz (xs.map f)] H (fun g H' => ∃ r, g = .own r sz 0 xs.length ∧ H' = (r, sz, xs.map f) :: H) := by
  have hbb : (bytes : Int) * (xs.length : Int) ≤ 281474976710656 := by
    have h1 : bytes * xs.length ≤ 1073741824 := Nat.le_trans (Nat.mul_le_mul hb hlen) (by decide)
    have h2 : ((bytes * xs.length : Nat) : Int) ≤ 1073741824 := by omega
    rw [Int.natCast_mul] at h2
    omega
  refine gstart mxd hF rfl (by simp) ?_
  simp only [↓ S2, S2, ↓reduceIte, Nat.reduceEqDiff, reduceCtorEq, Nat.reduceLeDiff, Nat.reduceAdd, Nat.reduceLT, hr, hag]
  refine ⟨by omega, by omega, hbb, by omega, fun r hr' => ?_⟩
  refine wloop mxd (ι := { i : Nat // i ≤ xs.length }) (fun i => [(0, .sl sz (xs.map f)), (3, .own r sz 0 xs.length), (4, I i.1)]) (fun i => (r, sz, (xs.take i.1).map f ++ List.replicate (xs.length - i.1) z) :: H) (fun i => xs.length - i.1) ⟨0, by simp⟩ (by simp [E2]) (by simp) ?_
  rintro ⟨i, hi⟩
  ((try simp only [↓ S2, S2, ↓reduceIte, Nat.reduceEqDiff, reduceCtorEq, Nat.reduceLeDiff, Nat.reduceAdd, Nat.reduceLT, hr, hag]); (try simp only [brGen]; try simp only [↓ S2, S2, ↓reduceIte, Nat.reduceEqDiff, reduceCtorEq, Nat.reduceLeDiff, Nat.reduceAdd, Nat.reduceLT, hr, hag]); (try simp +contextual (disch := omega) only [Z2]); (repeat' (first | (with_reducible intro h) | (with_reducible refine And.intro (by omega) ?_) | (with_reducible refine exP (by omega) ?_) | (with_reducible apply And.intro))))
  · refine callS.eq (hx xs[i] (List.getElem_mem _)) ?_
    ((try simp only [↓ S2, S2, ↓reduceIte, Nat.reduceEqDiff, reduceCtorEq, Nat.reduceLeDiff, Nat.reduceAdd, Nat.reduceLT, hr, hag, hsz, hst, stw]); (try simp only [brGen]; try simp only [↓ S2, S2, ↓reduceIte, Nat.reduceEqDiff, reduceCtorEq, Nat.reduceLeDiff, Nat.reduceAdd, Nat.reduceLT, hr, hag, hsz, hst, stw]); (try simp +contextual (disch := omega) only [Z2]); (repeat' (first | (with_reducible intro h) | (with_reducible refine And.intro (by omega) ?_) | (with_reducible refine exP (by omega) ?_) | (with_reducible apply And.intro))))
    refine ⟨by simp; omega, nx ⟨i + 1, by omega⟩ (by simp; omega) (by simp [E2]) ?_⟩
    rw [fill_set xs f z i h]
  · have : i = xs.length := by omega
    subst this
    exact ⟨r, rfl, by simp⟩

/-- What a slice leaves of a budget. -/
theorem szS (mxd : P.follows .mixedOrders = true) (wt : α → Nat) (hF : IsFun P k ⟨⟨27, []⟩,
  (.seq (.reg [(.mk (some 4) none (.mov (.k (.val (.int .i64 0)))))]) (.seq (.reg [(.mk (some 6) none (.mov (.t 1))), (.mk (some 7) none (.mov (.t 0))), (.mk (some 8) none (.len (.t 7))), (.mk (some 9) none (.bin .sub
  (.t 6) (.t 8))), (.mk (some 1) none (.mov (.t 9)))]) (.seq (.seq (.reg [(.mk (some 10) none (.mov (.t 1))), (.mk (some 11) none (.bin .lss (.t 10) (.k (.val (.int .i64 0)))))]) (.cond 11 (.seq (.reg [(.mk (some 4)
  none (.mov (.k (.val (.int .i64 (-1))))))]) .ret) .skip)) (.seq (.seq (.reg [(.mk (some 5) none (.mov (.k (.val (.int .i64 0)))))]) (.block 0 (.loop (.seq (.seq (.reg [(.mk (some 12) none (.mov (.t 5))), (.mk (some
  13) none (.mov (.t 0))), (.mk (some 14) none (.len (.t 13))), (.mk (some 15) none (.bin .lss (.t 12) (.t 14)))]) (.cond 15 .skip (.exit 0))) (.seq (.block 1 (.seq (.reg [(.mk (some 18) none (.mov (.t 0))), (.mk (some
  19) none (.mov (.t 5))), (.mk (some 20) none (.iaddr sz (.t 18) (.t 19))), (.mk (some 21) none (.load sz ag (.t 20))), (.mk (some 22) none (.mov (.t 1))), (.mk (some 23) none (.call det kx [(.t 21), (.t 22)])), (.mk
  (some 1) none (.mov (.t 23)))]) (.seq (.reg [(.mk (some 24) none (.mov (.t 1))), (.mk (some 25) none (.bin .lss (.t 24) (.k (.val (.int .i64 0)))))]) (.cond 25 (.seq (.reg [(.mk (some 4) none (.mov (.k (.val (.int
  .i64 (-1))))))]) .ret) .skip)))) (.reg [(.mk (some 16) none (.mov (.t 5))), (.mk (some 17) none (.bin .add (.t 16) (.k (.val (.int .i64 1))))), (.mk (some 5) none (.mov (.t 17)))])))))) (.seq (.reg [(.mk (some 26)
  none (.mov (.t 1))), (.mk (some 4) none (.mov (.t 26)))]) .ret))))), [.t 4]⟩)
    (hag : ∀ a, isAgg (f a) = ag) (hr : ∀ a, geR (some (f a)) = some (f a)) (xs : List α) (left : Int) (h0 : 0 ≤ left) (h1 : left ≤ 1048576)
    (hx : ∀ a ∈ xs, ∀ l : Int, 0 ≤ l → l ≤ 1048576 → Pure P kx [f a, I l] (· = I (szv l (wt a)))) :
    Pure P k [.sl sz (xs.map f), I left] (· = I (szv left (wtS wt xs))) := by
  refine GCalls.lenA fun hl => ?_
  have hlen := hl.1.1
  simp only [List.length_map, maxL] at hlen
  refine gstart mxd hF rfl (by simp) ?_
  ((try simp only [↓ S2, S2, ↓reduceIte, Nat.reduceEqDiff, reduceCtorEq, Nat.reduceLeDiff, Nat.reduceAdd, Nat.reduceLT, hr, hag]); (try simp only [brGen]; try simp only [↓ S2, S2, ↓reduceIte, Nat.reduceEqDiff, reduceCtorEq, Nat.reduceLeDiff, Nat.reduceAdd, Nat.reduceLT, hr, hag]); (try simp +contextual (disch := omega) only [Z2]); (repeat' (first | (with_reducible intro h) | (with_reducible refine And.intro (by omega) ?_) | (with_reducible refine exP (by omega) ?_) | (with_reducible apply And.intro))))
  · congr 2; simp only [szv, wtS]; omega
  refine wloop mxd (ι := { i : Nat // i ≤ xs.length ∧ ((xs.length + psum wt xs i : Nat) : Int) ≤ left }) (fun i => [(0, .sl sz (xs.map f)), (1, I (left - ((xs.length + psum wt xs i.1 : Nat) : Int))), (5, I i.1)])
    (fun _ => []) (fun i => xs.length - i.1) ⟨0, by simp [psum_zero]; omega⟩ (by simp [E2, psum_zero]) rfl ?_
  rintro ⟨i, hi, hp⟩
  ((try simp only [↓ S2, S2, ↓reduceIte, Nat.reduceEqDiff, reduceCtorEq, Nat.reduceLeDiff, Nat.reduceAdd, Nat.reduceLT, hr, hag]); (try simp only [brGen]; try simp only [↓ S2, S2, ↓reduceIte, Nat.reduceEqDiff, reduceCtorEq, Nat.reduceLeDiff, Nat.reduceAdd, Nat.reduceLT, hr, hag]); (try simp +contextual (disch := omega) only [Z2]); (repeat' (first | (with_reducible intro h) | (with_reducible refine And.intro (by omega) ?_) | (with_reducible refine exP (by omega) ?_) | (with_reducible apply And.intro))))
  · have e1 := psum_succ wt xs i h
    have e2 := psum_le wt xs (i + 1)
    refine callS.eq (hx xs[i] (List.getElem_mem _) _ (by omega) (by omega)) ?_
    ((try simp only [↓ S2, S2, ↓reduceIte, Nat.reduceEqDiff, reduceCtorEq, Nat.reduceLeDiff, Nat.reduceAdd, Nat.reduceLT, hr, hag]); (try simp only [brGen]; try simp only [↓ S2, S2, ↓reduceIte, Nat.reduceEqDiff, reduceCtorEq, Nat.reduceLeDiff, Nat.reduceAdd, Nat.reduceLT, hr, hag]); (try simp +contextual (disch := omega) only [Z2]); (repeat' (first | (with_reducible intro h) | (with_reducible refine And.intro (by omega) ?_) | (with_reducible refine exP (by omega) ?_) | (with_reducible apply And.intro))))
    · congr 2; simp only [szv, wtS] at *; omega
    · have e3 := szv_nn h
      refine nx ⟨i + 1, by omega, by omega⟩ (by simp; omega) ?_ rfl
      rw [szv_pos e3]
      simp [E2]
      omega
  · have : i = xs.length := by omega
    subst this
    rw [psum_all]
    congr 2; simp only [szv, wtS]; rw [psum_all] at hp; omega
end

end Go.Gh

/- Arguments of the statements, by their types. -/
namespace Go.Gh
theorem t_int {g : GV} (h : ET false [.int .i64] g) : ∃ n : Int, g = I n := by
  obtain ⟨gs, k1, k2⟩ := h
  simp only [CTs, CT] at k1
  obtain ⟨g, gs', rfl, ⟨n, rfl, _⟩, rfl⟩ := k1
  simp at k2
  exact ⟨n, k2.symm⟩
theorem c_ints {g : GV} (h : CT (.sl false [.int .i64]) g) : ∃ xs : List Int, g = IS xs := by
  simp only [CT] at h
  obtain ⟨es, rfl, _, he⟩ := h
  obtain ⟨l, rfl, _⟩ := list_of (f := I) (ok := fun _ => True) fun e hm => by
    obtain ⟨n, hn⟩ := t_int (he e hm)
    exact ⟨n, hn, trivial⟩
  exact ⟨l, rfl⟩
theorem t_one {t : Ty} {g : GV} (h : ET false [t] g) : CT t g := by
  obtain ⟨gs, k1, k2⟩ := h
  simp only [CTs] at k1
  obtain ⟨g, gs', rfl, hg, rfl⟩ := k1
  simp at k2
  rw [← k2]; exact hg
theorem t_agg1 {t : Ty} {g : GV} (h : ET true [t] g) : ∃ x, g = .agg [x] ∧ CT t x := by
  obtain ⟨gs, k1, k2⟩ := h
  simp only [CTs] at k1
  obtain ⟨g, gs', rfl, hg, rfl⟩ := k1
  exact ⟨g, by simpa using k2, hg⟩
theorem c_sl {ag : Bool} {ts : List Ty} {α : Type} {f : α → GV} {ok : α → Prop} {g : GV} (h : CT (.sl ag ts) g) (he : ∀ e, ET ag ts e → ∃ a, e = f a ∧ ok a) : ∃ l : List α, g = .sl ts.length (l.map f) ∧ ∀ a ∈ l, ok a := by
  simp only [CT] at h
  obtain ⟨es, rfl, _, hs⟩ := h
  obtain ⟨l, rfl, hl⟩ := list_of (f := f) (ok := ok) fun e hm => he e (hs e hm)
  exact ⟨l, rfl, hl⟩
theorem t_Nod {g : GV} (h : ET true [.int .i64, .int .i64, .int .i64, .int .i64, .str, .sl false [.int .i64]] g) : ∃ x : Nod, g = Nd x ∧ x.rule.size ≤ maxLen := by
  obtain ⟨gs, k1, k2⟩ := h
  rw [CTs] at k1
  obtain ⟨g1, _, rfl, h1, k1⟩ := k1
  rw [CTs] at k1
  obtain ⟨g2, _, rfl, h2, k1⟩ := k1
  rw [CTs] at k1
  obtain ⟨g3, _, rfl, h3, k1⟩ := k1
  rw [CTs] at k1
  obtain ⟨g4, _, rfl, h4, k1⟩ := k1
  rw [CTs] at k1
  obtain ⟨g5, _, rfl, h5, k1⟩ := k1
  rw [CTs] at k1
  obtain ⟨g6, _, rfl, h6, k1⟩ := k1
  simp only [CTs] at k1
  subst k1
  obtain ⟨xs, rfl⟩ := c_ints h6
  simp only [CT] at h1 h2 h3 h4 h5
  obtain ⟨n1, rfl, _⟩ := h1
  obtain ⟨n2, rfl, _⟩ := h2
  obtain ⟨n3, rfl, _⟩ := h3
  obtain ⟨n4, rfl, _⟩ := h4
  obtain ⟨s, rfl, hs⟩ := h5
  exact ⟨⟨n1, n2, n3, n4, s, xs⟩, by simpa using k2, hs⟩
theorem t_Tr {g : GV} (h : ET true [.sl true [.int .i64, .int .i64, .int .i64, .int .i64, .str, .sl false [.int .i64]]] g) : ∃ t : List Nod, g = Tr t ∧ ∀ x ∈ t, x.rule.size ≤ maxLen := by
  obtain ⟨x, rfl, hx⟩ := t_agg1 h
  obtain ⟨l, rfl, hl⟩ := c_sl hx fun e he => t_Nod he
  exact ⟨l, rfl, hl⟩
theorem t_Slt {g : GV} (h : ET true [.int .i64, .str, .int .i64] g) : ∃ x : Slo, g = Slt x ∧ x.name.size ≤ maxLen := by
  obtain ⟨gs, k1, k2⟩ := h
  simp only [CTs, CT] at k1
  obtain ⟨g1, _, rfl, ⟨n, rfl, _⟩, g2, _, rfl, ⟨s, rfl, hs⟩, g3, _, rfl, ⟨m, rfl, _⟩, rfl⟩ := k1
  exact ⟨⟨n, s, m⟩, by simpa using k2, hs⟩
theorem t_SltS {g : GV} (h : ET false [.sl true [.int .i64, .str, .int .i64]] g) : ∃ l : List Slo, g = SltS l ∧ ∀ x ∈ l, x.name.size ≤ maxLen := by
  obtain ⟨l, rfl, hl⟩ := c_sl (t_one h) fun e he => t_Slt he
  exact ⟨l, rfl, hl⟩
theorem t_Occ {g : GV} (h : ET true [.int .i64, .str] g) : ∃ x : Int × ByteArray, g = Occ x ∧ x.2.size ≤ maxLen := by
  obtain ⟨gs, k1, k2⟩ := h
  simp only [CTs, CT] at k1
  obtain ⟨g1, gs', rfl, ⟨n, rfl, _⟩, g2, gs'', rfl, ⟨s, rfl, hs⟩, rfl⟩ := k1
  exact ⟨(n, s), by simpa using k2, hs⟩
end Go.Gh

/- What the laws' marks are. -/
namespace Go.Gh
set_option linter.unusedSimpArgs false
set_option linter.unusedVariables false

theorem vIte (P : Program) (c : Prop) [Decidable c] (g : GV) (d : Option Nat) (is : List GI) (K : Env → GH → Prop) (env : Env) (H : GH) : valS P (if c then some g else none) d is K env H = (c ∧ gsteps P is K (gput env d g) H) := by
  by_cases h : c <;> simp [h, valS]
theorem nxF {ι : Type} {E : ι → Env} {G : ι → GH} {μ : ι → Nat} {i : ι} {e e' : Env} {H H' : GH} (j : ι) (hm : μ j < μ i) (hf : FE e H e' H') (h : subE e' (E j)) (hh : H' = G j) : Nx E G μ i e H := by
  subst hh
  exact ⟨j, FE.trans hf (FE.of h), hm⟩
theorem wloopN {P : Program} {cf : Cfg} (mxd : P.follows .mixedOrders = true) {ι : Type} {x : GC} {Q : Exit → Env → GH → Prop} {env : Env} {H : GH} (E : ι → Env) (G : ι → GH) (μ : ι → Nat) (i0 : ι) (h0 : subE env (E i0)) (hh : H = G i0)
    (round : ∀ i, (names (G i)).Nodup → gwp P cf x (thenG (Nx E G μ i) Q) (E i) (G i)) : GW P cf (.loop x) Q env H := by
  subst hh
  exact GW.loop E G μ i0 (FE.of h0) fun i => GW.names fun hn => gwp_ok mxd (round i hn)
theorem wloopF {P : Program} {cf : Cfg} (mxd : P.follows .mixedOrders = true) {ι : Type} {x : GC} {Q : Exit → Env → GH → Prop} {env env' : Env} {H H' : GH} (E : ι → Env) (G : ι → GH) (μ : ι → Nat) (i0 : ι) (hf : FE env H env' H') (h0 : subE env' (E i0)) (hh : H' = G i0)
    (round : ∀ i, (names (G i)).Nodup → GW P cf x (thenG (Nx E G μ i) Q) (E i) (G i)) : GW P cf (.loop x) Q env H := by
  subst hh
  exact GW.loop E G μ i0 (FE.trans hf (FE.of h0)) fun i => GW.names fun hn => round i hn

/-- The digit of a mark. -/
def dgt (k : Int) : UInt8 := UInt8.ofNat (IntKind.u8.wrap (IntKind.i64.wrap (48 + k.tmod 10))).toNat
def dig : Nat → Int → List UInt8 → List UInt8
  | 0, _, acc => acc
  | f + 1, k, acc => if 0 < k then dig f (k.tdiv 10) (dgt k :: acc) else acc
theorem dig_end : ∀ (f : Nat) {k : Int} (acc : List UInt8), ¬ 0 < k → dig f k acc = acc
  | 0, _, _, _ => rfl
  | f + 1, k, acc, h => by simp [dig, h]
def mtext (k : Int) : ByteArray := if k ≤ 0 then ⟨#[109, 48]⟩ else ⟨(109 :: dig k.toNat k []).toArray⟩

def upFrom : Int → Nat → List Int
  | _, 0 => []
  | k, n + 1 => k :: upFrom (k + 1) n
theorem upFrom_len : ∀ (n : Nat) (k : Int), (upFrom k n).length = n
  | 0, _ => rfl
  | n + 1, k => by simp [upFrom, upFrom_len n]
theorem upFrom_snoc : ∀ (n : Nat) (k : Int), upFrom k (n + 1) = upFrom k n ++ [k + n]
  | 0, k => by simp [upFrom]
  | n + 1, k => by rw [upFrom, upFrom_snoc n (k + 1)]; simp [upFrom]; omega
theorem upFrom_get : ∀ (n : Nat) (k : Int) (i : Nat) (h : i < (upFrom k n).length), (upFrom k n)[i] = k + i
  | 0, k, i, h => by simp [upFrom] at h
  | n + 1, k, 0, _ => by simp [upFrom]
  | n + 1, k, i + 1, h => by simp [upFrom, upFrom_get n (k + 1) i (by simpa [upFrom] using h)]; omega

/-! ### Trees of one's own -/
abbrev NdO (x : Nod) : GV := .agg [I x.id, I x.parent, I x.place, I x.lit, T x.rule, .osl 1 (x.kids.map I)]
theorem view_NdO (t : List Nod) : (t.map NdO).map view = t.map Nd := by
  induction t with
  | nil => rfl
  | cons x t ih =>
    simp only [List.map_cons, ih, List.cons.injEq, and_true]
    simp [view, viewL, viewL_eq]
theorem viewL_NdO (t : List Nod) : viewL (t.map NdO) = t.map Nd := by rw [viewL_eq, view_NdO]
theorem bor_NdO {H : GH} {r n : Nat} {t : List Nod} (hr : hget H r = some (6, t.map NdO)) (hn : t.length = n) : Bor H (.own r 6 0 n) (NdS t) := by
  have := Bor.own (H := H) (k := 0) (n := n) hr (by simp [hn])
  rw [List.drop_zero, List.take_of_length_le (by simp [hn]), viewL_NdO] at this
  exact this
theorem bor_Tr {H : GH} {r n : Nat} {t : List Nod} (hr : hget H r = some (6, t.map NdO)) (hn : t.length = n) : Bor H (.agg [.own r 6 0 n]) (Tr t) := .agg (.cons (bor_NdO hr hn) .nil)
theorem bor_IS {H : GH} {r n : Nat} {l : List Int} (hr : hget H r = some (1, l.map I)) (hn : l.length = n) : Bor H (.own r 1 0 n) (IS l) := .all hr (by simp [hn]) (by simp [view])

def mkNod (k : Int) (x : Nod) : Nod := ⟨k, k + 1, k + 1 + 1, k + 1 + 1 + 1, mtext (k + 1 + 1 + 1 + 1), upFrom (k + 1 + 1 + 1 + 1 + 1) x.kids.length⟩
def mkNods : Int → List Nod → List Nod
  | _, [] => []
  | k, x :: t => mkNod k x :: mkNods (k + 5 + x.kids.length) t
def mkEnd : Int → List Nod → Int
  | k, [] => k
  | k, x :: t => mkEnd (k + 5 + x.kids.length) t
theorem FE.close2 {env : Env} {H : GH} {r r1 sz sz1 i j n : Nat} {L gs ks : List GV} (hne : r1 ≠ r) (hi : i < L.length) (hg : gs[j]? = some (.own r1 sz1 0 n)) (hn : ks.length = n) :
    FE env ((r1, sz1, ks) :: (r, sz, L.set i (.agg gs)) :: H) env ((r, sz, L.set i (.agg (gs.set j (.osl sz1 ks)))) :: H) := by
  have := FE.close (env := env) (H := (r1, sz1, ks) :: (r, sz, L.set i (.agg gs)) :: H) (r := r) (r1 := r1) (Ne.symm hne) (by rw [hget_old hne, hget_new]) (List.getElem?_set_self hi) hg hget_new hn
  rwa [hset_old hne, hset_new, hdel_new, List.set_set] at this
theorem FE.close3 {env : Env} {H : GH} {r r1 sz sz1 i j n : Nat} {L gs ks es0 : List GV} (hr : hget H r = some (sz, es0)) (hne : r1 ≠ r) (hi : i < L.length) (hg : gs[j]? = some (.own r1 sz1 0 n)) (hn : ks.length = n) :
    FE env ((r1, sz1, ks) :: hset H r (L.set i (.agg gs))) env (hset H r (L.set i (.agg (gs.set j (.osl sz1 ks))))) := by
  have := FE.close (env := env) (H := (r1, sz1, ks) :: hset H r (L.set i (.agg gs))) (r := r) (r1 := r1) (Ne.symm hne) (by rw [hget_old hne, hget_set hr]) (List.getElem?_set_self hi) hg hget_new hn
  rwa [hset_old hne, hset_set, hdel_new, List.set_set] at this
theorem mkNods_len : ∀ (k : Int) (t : List Nod), (mkNods k t).length = t.length
  | _, [] => rfl
  | k, x :: t => by simp [mkNods, mkNods_len _ t]
theorem mkNods_snoc : ∀ (k : Int) (t : List Nod) (x : Nod), mkNods k (t ++ [x]) = mkNods k t ++ [mkNod (mkEnd k t) x]
  | _, [], _ => rfl
  | k, y :: t, x => by simp [mkNods, mkEnd, mkNods_snoc _ t x]
theorem mkEnd_snoc : ∀ (k : Int) (t : List Nod) (x : Nod), mkEnd k (t ++ [x]) = mkEnd k t + 5 + x.kids.length
  | _, [], _ => rfl
  | k, y :: t, x => by simp [mkEnd, mkEnd_snoc _ t x]
theorem mkEnd_app : ∀ (k : Int) (t u : List Nod), mkEnd k (t ++ u) = mkEnd (mkEnd k t) u
  | _, [], _ => rfl
  | k, y :: t, u => by simp [mkEnd, mkEnd_app _ t u]
theorem mkEnd_le : ∀ (k : Int) (t : List Nod), k ≤ mkEnd k t
  | _, [] => Int.le_refl _
  | k, x :: t => by have := mkEnd_le (k + 5 + x.kids.length) t; simp only [mkEnd]; omega
theorem mkEnd_step {k : Int} {t : List Nod} {i : Nat} (h : i < t.length) : mkEnd k (t.take (i + 1)) = mkEnd k (t.take i) + 5 + t[i].kids.length := by
  rw [List.take_add_one, List.getElem?_eq_getElem h]; exact mkEnd_snoc _ _ _
theorem mkNods_step {k : Int} {t : List Nod} {i : Nat} (h : i < t.length) : mkNods k (t.take (i + 1)) = mkNods k (t.take i) ++ [mkNod (mkEnd k (t.take i)) t[i]] := by
  rw [List.take_add_one, List.getElem?_eq_getElem h]; exact mkNods_snoc _ _ _
theorem mkEnd_take {k : Int} {t : List Nod} (i : Nat) : mkEnd k (t.take i) ≤ mkEnd k t := by
  have := mkEnd_app k (t.take i) (t.drop i)
  rw [List.take_append_drop] at this
  rw [this]; exact mkEnd_le _ _
theorem mid_get {k : Int} {t : List Nod} {i : Nat} (h : i < t.length) (h' : i < (mkNods k (t.take i) ++ t.drop i).length) : (mkNods k (t.take i) ++ t.drop i)[i] = t[i] := by
  rw [List.getElem_append_right (by simp [mkNods_len]; omega)]
  have e : i + (i - (mkNods k (t.take i)).length) = i := by simp [mkNods_len]; omega
  simp only [List.getElem_drop, e]
theorem mid_set {k : Int} {t : List Nod} {i : Nat} (h : i < t.length) : (mkNods k (t.take i) ++ t.drop i).set i (mkNod (mkEnd k (t.take i)) t[i]) = mkNods k (t.take (i + 1)) ++ t.drop (i + 1) := by
  rw [List.set_append_right _ _ (by simp [mkNods_len]; omega), mkNods_step h]
  have e : i - (mkNods k (t.take i)).length = 0 := by simp [mkNods_len]; omega
  rw [e, List.drop_eq_getElem_cons h, List.set_cons_zero, List.append_assoc]
  rfl
theorem mkEnd_len : ∀ (k : Int) (t : List Nod), k + 5 * t.length ≤ mkEnd k t
  | _, [] => by simp [mkEnd]
  | k, x :: t => by have := mkEnd_len (k + 5 + x.kids.length) t; simp only [mkEnd, List.length_cons]; omega
theorem mkNods_get : ∀ {k : Int} {t : List Nod} {i : Nat} (h : i < t.length), (mkNods k t)[i]? = some (mkNod (mkEnd k (t.take i)) t[i])
  | k, x :: t, 0, h => rfl
  | k, x :: t, i + 1, h => by
    have := mkNods_get (k := k + 5 + x.kids.length) (t := t) (i := i) (by simpa using h)
    simpa [mkNods, mkEnd] using this
/-- The Ids of the nodes at these indices. -/
def idsAt (t : List Nod) (ks : List Int) : List Int := ks.filterMap fun (k : Int) => if 0 ≤ k ∧ k < (t.length : Int) then (t[k.toNat]?).map (·.id) else none
def nodeIds (t : List Nod) (i : Int) : List Int := if 0 ≤ i ∧ i < t.length then idsAt t (i :: ((t[i.toNat]?).map (·.kids)).getD []) else []
theorem idsAt_snoc_in {t : List Nod} {l : List Int} {k : Int} (h0 : 0 ≤ k) (h : k.toNat < t.length) : idsAt t (l ++ [k]) = idsAt t l ++ [t[k.toNat].id] := by
  simp only [idsAt, List.filterMap_append, List.filterMap_cons, List.filterMap_nil]
  rw [if_pos (by omega), List.getElem?_eq_getElem h]
  rfl
theorem idsAt_snoc_out {t : List Nod} {l : List Int} {k : Int} (h : ¬ (0 ≤ k ∧ k < (t.length : Int))) : idsAt t (l ++ [k]) = idsAt t l := by
  simp only [idsAt, List.filterMap_append, List.filterMap_cons, List.filterMap_nil]
  rw [if_neg h]
  simp
theorem idsAt_len (t : List Nod) (l : List Int) : (idsAt t l).length ≤ l.length := List.length_filterMap_le _ _
theorem nodeIds_in {t : List Nod} {i : Nat} (h : i < t.length) : nodeIds t i = idsAt t ((i : Int) :: t[i].kids) := by
  simp only [nodeIds]
  rw [if_pos (by omega), Int.toNat_natCast, List.getElem?_eq_getElem h]
  rfl
theorem take_cons_step {l : List Int} {x : Int} {j : Nat} (h : j < l.length) : x :: l.take (j + 1) = (x :: l.take j) ++ [l[j]] := by
  rw [List.take_add_one, List.getElem?_eq_getElem h]; rfl
theorem take_step' {l : List Int} {j : Nat} (h : j < l.length) : l.take (j + 1) = l.take j ++ [l[j]] := by
  rw [List.take_add_one, List.getElem?_eq_getElem h]; rfl
theorem FE.swap {env : Env} {H : GH} {x y : Nat × Nat × List GV} : FE env (x :: y :: H) env (y :: x :: H) := by
  intro w0 D0 O0 N a w ⟨hdf, hsz, D, Ω, ρw, hi⟩
  obtain ⟨r1, sz1, es1⟩ := x
  obtain ⟨r2, sz2, es2⟩ := y
  obtain ⟨F1, G1, e1, h1, F2, F3, e2, h2, h3⟩ := hi.st.hm
  have hp : ∀ x, (F2 ++ (F1 ++ F3)).count x = Ω.count x := by
    intro x; rw [e1, e2]; simp only [List.count_append]; omega
  have hmem : ∀ x ∈ F2 ++ (F1 ++ F3), x ∈ Ω := fun x hx => by
    have := List.count_pos_iff.2 hx
    exact List.count_pos_iff.1 (by rw [← hp]; exact this)
  refine ⟨hdf, hsz, D, F2 ++ (F1 ++ F3), ρw, hi.st' ⟨⟨F2, _, rfl, h2, F1, F3, rfl, h1, h3⟩, ?_, ?_, fun x hx => hi.st.dj x (hmem x hx), hi.st.ds⟩ hmem⟩
  · rw [List.nodup_iff_count]
    intro x
    rw [hp]
    exact List.nodup_iff_count.1 hi.st.nd x
  · have := hi.st.nn
    simp only [names, List.map_cons, List.nodup_cons, List.mem_cons, not_or] at this ⊢
    exact ⟨⟨fun e => this.1.1 e.symm, this.2.1⟩, this.1.2, this.2.2⟩
theorem mkEnd_eq : ∀ (k : Int) (t : List Nod), mkEnd k t = k + 5 * t.length + ((t.map (·.kids.length)).sum : Nat)
  | k, [] => by simp [mkEnd]
  | k, x :: t => by
    have := mkEnd_eq (k + 5 + x.kids.length) t
    simp only [mkEnd, List.length_cons, List.map_cons, List.sum_cons]
    omega
theorem sum_le {α : Type} {f g : α → Nat} (h : ∀ a, f a ≤ g a) : ∀ l : List α, (l.map f).sum ≤ (l.map g).sum
  | [] => Nat.le_refl _
  | a :: l => by have := h a; have := sum_le h l; simp only [List.map_cons, List.sum_cons]; omega
theorem mkEnd_small {t : List Nod} {left : Int} (h : ¬ szv left (wtS wNd t) < 0) (hl : left ≤ 1048576 := by omega) : mkEnd 1 t ≤ 6291457 := by
  have h1 := szv_nn h
  have h2 := sum_le (f := fun x : Nod => x.kids.length) (g := wNd) (fun a => by simp only [wNd]; omega) t
  rw [mkEnd_eq]
  simp only [wtS] at h1
  omega
theorem two_ne {a b : Nat} {x y : Nat × List GV} {H : GH} (h : (names ((a, x) :: (b, y) :: H)).Nodup) : a ≠ b := by
  simp only [names, List.map_cons, List.nodup_cons, List.mem_cons, not_or] at h; exact h.1.1
theorem three_ne {a b c : Nat} {x y z : Nat × List GV} {H : GH} (h : (names ((a, x) :: (b, y) :: (c, z) :: H)).Nodup) : a ≠ b ∧ a ≠ c ∧ b ≠ c := by
  simp only [names, List.map_cons, List.nodup_cons, List.mem_cons, not_or] at h; exact ⟨h.1.1, h.1.2.1, h.2.1.1⟩
theorem four_ne {a b c d : Nat} {x y z u : Nat × List GV} {H : GH} (h : (names ((a, x) :: (b, y) :: (c, z) :: (d, u) :: H)).Nodup) : a ≠ b ∧ a ≠ c ∧ a ≠ d ∧ b ≠ c ∧ b ≠ d ∧ c ≠ d := by
  simp only [names, List.map_cons, List.nodup_cons, List.mem_cons, not_or] at h; exact ⟨h.1.1, h.1.2.1, h.1.2.2.1, h.2.1.1, h.2.1.2.1, h.2.2.1.1⟩
theorem callS.borA {P : Program} {K : Env → GH → Prop} {is : List GI} {env : Env} {H : GH} {d : Option Nat} {det : Bool} {f : FuncId} {gs gs' : List GV} {G : GV} (h : Pure P f gs' (· = G)) (hb : BorL H gs gs') (hs : scal G = true) (hk : gsteps P is K (gput env d G) H) : callS P det f (some gs) d is K env H := by
  cases det
  · exact callS.bor h hb hs hk
  · exact ⟨G, h.borrow hb (fun _ e => by rw [e]; exact hs), hk⟩
end Go.Gh

/- Expressions as plain data, and their ghosts. -/
namespace Go.Gh
set_option linter.unusedSimpArgs false
set_option linter.unusedVariables false

inductive Exp where
  | mk (kind n pos type : Int) (sym name : ByteArray) (args : List Exp)
def Exp.kind : Exp → Int | .mk k _ _ _ _ _ _ => k
def Exp.n : Exp → Int | .mk _ n _ _ _ _ _ => n
def Exp.pos : Exp → Int | .mk _ _ p _ _ _ _ => p
def Exp.type : Exp → Int | .mk _ _ _ t _ _ _ => t
def Exp.sym : Exp → ByteArray | .mk _ _ _ _ s _ _ => s
def Exp.name : Exp → ByteArray | .mk _ _ _ _ _ m _ => m
def Exp.args : Exp → List Exp | .mk _ _ _ _ _ _ a => a
theorem Exp.eta (e : Exp) : Exp.mk e.kind e.n e.pos e.type e.sym e.name e.args = e := by cases e; rfl
mutual
def Ex : Exp → GV
  | .mk k n p t s m a => .agg [I k, I n, I p, I t, T s, T m, .sl 7 (ExL a)]
def ExL : List Exp → List GV
  | [] => []
  | e :: l => Ex e :: ExL l
end
theorem ExL_eq (l : List Exp) : ExL l = l.map Ex := by
  induction l with
  | nil => rfl
  | cons e l ih => simp [ExL, ih]
abbrev ExS (l : List Exp) : GV := .sl 7 (l.map Ex)
theorem Ex_eq (e : Exp) : Ex e = .agg [I e.kind, I e.n, I e.pos, I e.type, T e.sym, T e.name, ExS e.args] := by
  cases e; simp only [Ex, ExL_eq]; rfl
theorem Exp.ext_iff {x y : Exp} : x = y ↔ x.kind = y.kind ∧ x.n = y.n ∧ x.pos = y.pos ∧ x.type = y.type ∧ x.sym = y.sym ∧ x.name = y.name ∧ x.args = y.args := by
  cases x; cases y
  simp [Exp.kind, Exp.n, Exp.pos, Exp.type, Exp.sym, Exp.name, Exp.args]
mutual
theorem Exp.indA {p : Exp → Prop} (h : ∀ e, (∀ a ∈ e.args, p a) → p e) : ∀ e, p e
  | .mk k n q t s m a => h _ (Exp.indL h a)
theorem Exp.indL {p : Exp → Prop} (h : ∀ e, (∀ a ∈ e.args, p a) → p e) : ∀ (l : List Exp), ∀ a ∈ l, p a
  | [], a, hm => by cases hm
  | e :: l, a, hm => by
    have he : p e := Exp.indA h e
    have hl := Exp.indL h l
    rcases List.mem_cons.1 hm with rfl | hm
    · exact he
    · exact hl a hm
end
mutual
/-- The letters and nodes of an expression, as the laws count them. -/
def wEx : Exp → Nat
  | .mk _ _ _ _ s m a => (chars s).length + (chars m).length + (a.length + wExL a)
def wExL : List Exp → Nat
  | [] => 0
  | e :: l => wEx e + wExL l
end
theorem wExL_eq (l : List Exp) : wExL l = (l.map wEx).sum := by
  induction l with
  | nil => rfl
  | cons e l ih => simp [wExL, ih]
theorem wEx_eq (e : Exp) : wEx e = (chars e.sym).length + (chars e.name).length + wtS wEx e.args := by
  cases e; simp only [wEx, wExL_eq, wtS]; rfl
mutual
/-- Its strings are no longer than strings can be. -/
def okE : Exp → Prop
  | .mk _ _ _ _ s m a => s.size ≤ maxLen ∧ m.size ≤ maxLen ∧ okEL a
def okEL : List Exp → Prop
  | [] => True
  | e :: l => okE e ∧ okEL l
end
theorem okEL_eq {l : List Exp} : okEL l ↔ ∀ a ∈ l, okE a := by
  induction l with
  | nil => simp [okEL]
  | cons e l ih => simp [okEL, ih]
theorem okE_eq {e : Exp} : okE e ↔ e.sym.size ≤ maxLen ∧ e.name.size ≤ maxLen ∧ ∀ a ∈ e.args, okE a := by
  cases e; simp only [okE, okEL_eq]; rfl
mutual
instance decExp : (x y : Exp) → Decidable (x = y)
  | .mk k n p t s m a, .mk k' n' p' t' s' m' a' =>
    match decExpL a a' with
    | isTrue h => decidable_of_iff (k = k' ∧ n = n' ∧ p = p' ∧ t = t' ∧ s = s' ∧ m = m') (by simp [h])
    | isFalse h => isFalse (by simp [h])
instance decExpL : (x y : List Exp) → Decidable (x = y)
  | [], [] => isTrue rfl
  | [], _ :: _ => isFalse (by simp)
  | _ :: _, [] => isFalse (by simp)
  | e :: l, e' :: l' => match decExp e e', decExpL l l' with
    | isTrue h, isTrue h' => isTrue (by rw [h, h'])
    | isFalse h, _ => isFalse (by simp [h])
    | _, isFalse h => isFalse (by simp [h])
end
theorem args_small {e : Exp} (h : wEx e ≤ 1048576) : e.args.length ≤ 1048576 ∧ ∀ a ∈ e.args, wEx a ≤ 1048576 := by
  rw [wEx_eq] at h
  simp only [wtS] at h
  refine ⟨by omega, fun a ha => ?_⟩
  have := sum_mem wEx e.args a ha
  omega
theorem isAgg_Ex (e : Exp) : isAgg (Ex e) = true := by rw [Ex_eq]; rfl
theorem geR_Ex (e : Exp) : geR (some (Ex e)) = some (Ex e) := by rw [Ex_eq]; rfl
theorem gsize_Ex (e : Exp) : gsize (Ex e) = 7 := by rw [Ex_eq]; rfl
theorem stor_Ex (e : Exp) : storable (Ex e) = true := by rw [Ex_eq]; rfl
theorem view_Ex (e : Exp) : view (Ex e) = Ex e := by rw [Ex_eq]; rfl
end Go.Gh

/- Arguments of recursive types, seen as ghosts. -/
namespace Go.Gh
open Go.RowKit Go.ChangeShapes Go.WideShapes Go.Deep

/-- A slice opened, with the fuel of its elements. -/
theorem open_sliceF {H : Type} {enc : TypeId × Value → H} {P : Program} {w : World} {base : Nat} {spare : Nat → Bool} {held : Bool} {t e : TypeId} {fuel : Nat} {cs : List Value} {x : DataW H × List MemPlace}
    (ht : P.underlying t = some (.slice e)) (h : DataW.trod enc P w base spare held fuel t cs = some x) :
    cs = [.slice none 0 0] ∨ ∃ (a : Addr) (len cap n : Nat), fuel = n + 1 ∧ cs = [.slice (some a) len cap] ∧ len ≤ cap ∧ cap ≤ maxLen ∧
      ∀ i, i < len → ∃ cs' y, w.cells? base (a.add (i * P.cellsOf e)) (P.cellsOf e) = some cs' ∧ DataW.trod enc P w base spare held n e cs' = some y := by
  rcases DataW.trod_slice ht h with h0 | ⟨a, len, cap, elems, rest, n, hn, rfl, rfl, hb, hl, hm, hlen, hel, hsp, hns⟩
  · exact .inl h0.1
  refine .inr ⟨a, len, cap, n, hn, rfl, hl, hm, fun i hi => ?_⟩
  have key := hel i hi
  rw [List.getElem?_eq_getElem (by omega)] at key
  obtain ⟨cs', h1, h2⟩ := Option.bind_eq_some_iff.1 key
  exact ⟨cs', _, h1, h2⟩

theorem Lf.mono1 {W : World} {t u : Ty} {cs : List Value} (h : Lf W [t] cs) (hq : ∀ g, CT t g → CT u g) : Lf W [u] cs := by
  obtain ⟨gs, h1, h2, h3⟩ := h
  simp only [CTs] at h2
  obtain ⟨g, gs', rfl, h2, rfl⟩ := h2
  exact ⟨[g], h1, by simp only [CTs]; exact ⟨g, [], rfl, hq g h2, rfl⟩, h3⟩

theorem slice_lf {P : Program} {W : World} {ag : Bool} {ts : List Ty} {e : TypeId} {a : Addr} {len cap : Nat} (hone : ag = false → ts.length = 1) (hsz : ts.length = P.cellsOf e) (hpos : 0 < ts.length)
    (hl : len ≤ cap) (hcap : cap ≤ maxLen) (hel : ∀ i, i < len → ∃ cs', W.cells? 0 (a.add (i * P.cellsOf e)) (P.cellsOf e) = some cs' ∧ Lf W ts cs') : Lf W [.sl ag ts] [.slice (some a) len cap] := by
  obtain ⟨es, cells, h1, h2, h3, h4⟩ := elems_ok (W := W) (a := a) (sz := P.cellsOf e) (Q := ET ag ts) len fun i hi => by
    obtain ⟨cs', k1, gs, m1, m2, m3⟩ := hel i hi
    refine ⟨cs', k1, ?_⟩
    cases ag
    · have hg := ML.len _ _ _ m1
      have hg2 := m2.len
      have hone := hone rfl
      match gs, cs', m1, hg, hg2 with
      | [g], [u], m1, _, _ =>
        simp only [ML] at m1
        obtain ⟨v', us, F1, F2, q1, q2, q3, q4, q5⟩ := m1
        have q6 : F1 = [] ∧ F2 = [] := by simpa using q2.symm
        obtain ⟨rfl, rfl⟩ := q6
        simp only [List.cons.injEq] at q1
        obtain ⟨rfl, rfl⟩ := q1
        have hu : u.cells = #[u] := cells1 (m3 u (by simp))
        exact ⟨u, g, by simp [hu], fun x hx => by rw [hu] at hx; simp at hx; subst hx; exact m3 _ (by simp), q3, [g], m2, by simp⟩
      | [], _, _, _, hg2 => simp at hg2; omega
      | _ :: _ :: _, _, _, _, hg2 => simp at hg2; omega
      | [_], [], _, hg, _ => simp at hg
      | [_], _ :: _ :: _, _, hg, _ => simp at hg
    · exact ⟨.agg cs'.toArray, .agg gs, by simp [Value.cells], fun x hx => m3 x (by simpa [Value.cells] using hx), by simp only [MV]; exact ⟨cs', rfl, m3, m1⟩, gs, m2, by simp⟩
  refine .one (g := .sl ts.length es) ?_ (by simp only [CT]; exact ⟨es, rfl, by simp only [maxL, maxLen] at *; omega, h3⟩) rfl
  simp only [MV]
  refine ⟨trivial, ?_⟩
  cases len with
  | zero =>
    left
    have : es = [] := by simpa using h1
    exact ⟨this, _, _, rfl⟩
  | succ len =>
    right
    have hl2 := MF.len _ _ _ _ h2
    have hpos : 0 < cells.length := by rw [hl2, h1, ← hsz]; exact Nat.mul_pos (by omega) hpos
    have h0 := h4 0 cells[0] (by simp [hpos])
    simp only [Addr.add, if_true] at h0
    unfold World.cell? at h0
    split at h0
    case h_2 => cases h0
    rename_i c T fz hb
    split at h0
    · cases h0
    rename_i hsp
    have hsp' : a.spot = none := by cases hs : a.spot <;> simp [hs] at hsp ⊢
    obtain ⟨ab, ao, ax⟩ := a
    simp only at hsp' hb h0
    subst hsp'
    refine ⟨ab, ao, cap, cells, by rw [h1], by omega, by simp only [maxL, maxLen] at *; omega, lt_of_heap hb, ⟨c, T, fz, hb, fun j u hj => ?_⟩, by rw [hsz]; exact h2⟩
    have := h4 j u hj
    rw [add_none] at this
    simpa [World.cell?, hb] using this

/-- The cells of a type; 'R' names types whose ghosts are told by a property. -/
def tyR (P : Program) (R : TypeId → Option (GV → Prop)) : Nat → TypeId → Option (Bool × List Ty)
  | 0, _ => none
  | n + 1, t => match R t with
    | some Q => some (false, [.pr Q])
    | none => match P.underlying t with
      | some .bool => some (false, [.bool])
      | some (.int k) => some (false, [.int k])
      | some .string => some (false, [.str])
      | some (.slice e) => match tyR P R n e with
        | some (ag, ts) => if ts.length = P.cellsOf e ∧ 0 < ts.length then some (false, [.sl ag ts]) else none
        | none => none
      | some (.struct fs) => match fieldsTy P (tyR P R n) fs.toList 0 with
        | some ts => if ts.length = P.cellsOf t then some (true, ts) else none
        | none => none
      | _ => none

theorem tyR_one {P : Program} {R : TypeId → Option (GV → Prop)} : ∀ {n : Nat} {t : TypeId} {ts : List Ty}, tyR P R n t = some (false, ts) → ts.length = 1
  | 0, _, _, h => by simp [tyR] at h
  | n + 1, t, ts, he => by
    unfold tyR at he
    split at he
    · simp only [Option.some.injEq, Prod.mk.injEq] at he; rw [← he.2]; rfl
    split at he
    · simp only [Option.some.injEq, Prod.mk.injEq] at he; rw [← he.2]; rfl
    · simp only [Option.some.injEq, Prod.mk.injEq] at he; rw [← he.2]; rfl
    · simp only [Option.some.injEq, Prod.mk.injEq] at he; rw [← he.2]; rfl
    · split at he
      · split at he
        · simp only [Option.some.injEq, Prod.mk.injEq] at he; rw [← he.2]; rfl
        · cases he
      · cases he
    · split at he
      · split at he
        · simp only [Option.some.injEq, Prod.mk.injEq] at he; cases he.1
        · cases he
      · cases he
    · cases he

theorem liftR {H : Type} {enc : TypeId × Value → H} {P : Program} {W : World} {spare : Nat → Bool} {held : Bool} {R : TypeId → Option (GV → Prop)} : ∀ (n : Nat) {t : TypeId} {ag : Bool} {ts : List Ty} {fuel : Nat} {cs : List Value} {x : DataW H × List MemPlace},
    (∀ f, f ≤ fuel → ∀ t Q cs x, R t = some Q → DataW.trod enc P W 0 spare held f t cs = some x → Lf W [.pr Q] cs) →
    tyR P R n t = some (ag, ts) → DataW.trod enc P W 0 spare held fuel t cs = some x → Lf W ts cs
  | 0, _, _, _, _, _, _, _, h, _ => by simp [tyR] at h
  | n + 1, t, ag, ts, fuel, cs, x, hR, h, hx => by
    unfold tyR at h
    split at h
    · rename_i Q hq
      simp only [Option.some.injEq, Prod.mk.injEq] at h
      obtain ⟨rfl, rfl⟩ := h
      exact hR fuel (Nat.le_refl _) t Q cs x hq hx
    split at h
    · rename_i ht
      simp only [Option.some.injEq, Prod.mk.injEq] at h
      obtain ⟨rfl, rfl⟩ := h
      obtain ⟨b, rfl, _⟩ := DataW.trod_bool ht hx
      exact .one .val0 ⟨b, rfl⟩ rfl
    · rename_i k ht
      simp only [Option.some.injEq, Prod.mk.injEq] at h
      obtain ⟨rfl, rfl⟩ := h
      obtain ⟨b, rfl, _, hw⟩ := DataW.trod_int ht hx
      exact .one .val0 ⟨b, rfl, hw⟩ rfl
    · rename_i ht
      simp only [Option.some.injEq, Prod.mk.injEq] at h
      obtain ⟨rfl, rfl⟩ := h
      obtain ⟨b, rfl, _, hw⟩ := DataW.trod_string ht hx
      exact .one .val0 ⟨b, rfl, hw⟩ rfl
    · rename_i e ht
      split at h
      case h_2 => cases h
      rename_i ag' ts' he
      split at h
      case isFalse => cases h
      rename_i hc
      simp only [Option.some.injEq, Prod.mk.injEq] at h
      obtain ⟨rfl, rfl⟩ := h
      rcases open_sliceF ht hx with rfl | ⟨a, len, cap, n', rfl, rfl, hl, hcap, hel⟩
      · exact .one (g := .sl ts'.length []) (by simp only [MV]; exact ⟨trivial, .inl ⟨trivial, _, _, rfl⟩⟩) (by simp only [CT]; exact ⟨[], rfl, by simp [maxL], by simp⟩) rfl
      · refine slice_lf (fun ha => tyR_one (by rw [← ha]; exact he)) hc.1 hc.2 hl hcap fun i hi => ?_
        obtain ⟨cs', y, k1, k2⟩ := hel i hi
        exact ⟨cs', k1, liftR n (fun f hf => hR f (by omega)) he k2⟩
    · rename_i fs ht
      split at h
      case h_2 => cases h
      rename_i ts' hfs
      split at h
      case isFalse => cases h
      rename_i hlen
      simp only [Option.some.injEq, Prod.mk.injEq] at h
      obtain ⟨rfl, rfl⟩ := h
      obtain ⟨xs, n', hn, _, hl, hxs, hf⟩ := DataW.trod_struct ht hx
      have := fields_ok (W := W) (cs := cs) hfs fun f hfm a us hus => by
        obtain ⟨i, hi, hif⟩ := List.mem_iff_getElem.1 hfm
        have hi' : i < fs.size := by simpa using hi
        have := hf i f (by rw [← hif]; simp [hi'])
        rw [List.getElem?_eq_getElem (by omega)] at this
        exact liftR n (fun f hf => hR f (by omega)) hus this
      rw [List.drop_zero, List.take_of_length_le (by omega)] at this
      exact this
    · cases h

/-- THE KNOT: a slice type 'tA' whose elements hold slices of the same type. -/
theorem knot {H : Type} {enc : TypeId × Value → H} {P : Program} {W : World} {spare : Nat → Bool} {held : Bool} {tA tE : TypeId} {Q : GV → Prop} (k : Nat) {ag : Bool} {ts : List Ty}
    (hA : P.underlying tA = some (.slice tE)) (hE : tyR P (fun t => if t = tA then some Q else none) k tE = some (ag, ts)) (hsz : ts.length = P.cellsOf tE) (hpos : 0 < ts.length)
    (hQ : ∀ g, CT (.sl ag ts) g → Q g) : ∀ fuel t Q' cs x, (fun t => if t = tA then some Q else none) t = some Q' → DataW.trod enc P W 0 spare held fuel t cs = some x → Lf W [.pr Q'] cs := by
  intro fuel
  induction fuel using Nat.strongRecOn with
  | ind fuel ih =>
    intro t Q' cs x ht hx
    simp only at ht
    split at ht
    case isFalse => cases ht
    rename_i hta
    subst hta
    simp only [Option.some.injEq] at ht
    subst ht
    refine Lf.mono1 (t := .sl ag ts) ?_ fun g hg => by simp only [CT]; exact hQ g hg
    rcases open_sliceF hA hx with rfl | ⟨a, len, cap, n', rfl, rfl, hl, hcap, hel⟩
    · exact .one (g := .sl ts.length []) (by simp only [MV]; exact ⟨trivial, .inl ⟨trivial, _, _, rfl⟩⟩) (by simp only [CT]; exact ⟨[], rfl, by simp [maxL], by simp⟩) rfl
    · refine slice_lf (fun ha => tyR_one (by rw [← ha]; exact hE)) hsz hpos hl hcap fun i hi => ?_
      obtain ⟨cs', y, k1, k2⟩ := hel i hi
      exact ⟨cs', k1, liftR k (fun f hf => ih f (by omega)) hE k2⟩

/-- An argument, as the row reads it. -/
theorem lift_valR {H : Type} {enc : TypeId × Value → H} {P : Program} {W : World} {spare : Nat → Bool} {held : Bool} {r : Reach} {b0 : Nat} {R : TypeId → Option (GV → Prop)} (n : Nat) {t : TypeId} {ag : Bool} {ts : List Ty} {v : Value} {d : DataW H} {ps : List MemPlace}
    (hR : ∀ f, ∀ t Q cs x, R t = some Q → DataW.trod enc P W 0 spare held f t cs = some x → Lf W [.pr Q] cs)
    (hn : R t = none) (ht : tyR P R n t = some (ag, ts)) (hv : Value.okWide P W r b0 t v) (hx : DataW.Trod enc P W 0 spare held t v d ps) : ∃ g, MV W (below W) g v [] ∧ ET ag ts g := by
  obtain ⟨fuel, hx⟩ := hx
  obtain ⟨gs, h1, h2, h3⟩ := liftR n (fun f _ => hR f) ht hx
  cases n with
  | zero => simp [tyR] at ht
  | succ n =>
  have leaf : ag = false → v.oneCell' = true → ∃ g, MV W (below W) g v [] ∧ ET ag ts g := by
    intro ha hv1
    subst ha
    rw [cells1 hv1] at h1
    match gs, h1 with
    | [g], h1 =>
      simp only [ML] at h1
      obtain ⟨v', us, F1, F2, q1, q2, q3, q4, q5⟩ := h1
      have q6 : F1 = [] ∧ F2 = [] := by simpa using q2.symm
      obtain ⟨rfl, rfl⟩ := q6
      simp only [List.cons.injEq] at q1
      obtain ⟨rfl, rfl⟩ := q1
      exact ⟨g, q3, [g], h2, by simp⟩
    | [], h1 => have := ML.len _ _ _ h1; simp at this
    | _ :: _ :: _, h1 => have := ML.len _ _ _ h1; simp at this
  unfold tyR at ht
  split at ht
  · rename_i Q hq
    rw [hn] at hq; cases hq
  split at ht
  · rename_i hu
    simp only [Option.some.injEq, Prod.mk.injEq] at ht
    refine leaf ht.1.symm ?_
    simp only [Value.okWide, hu, Cell.okWide] at hv
    cases v <;> simp_all [Cell.ok, Value.oneCell']
  · rename_i k hu
    simp only [Option.some.injEq, Prod.mk.injEq] at ht
    refine leaf ht.1.symm ?_
    simp only [Value.okWide, hu, Cell.okWide] at hv
    cases v <;> simp_all [Cell.ok, Value.oneCell']
  · rename_i hu
    simp only [Option.some.injEq, Prod.mk.injEq] at ht
    refine leaf ht.1.symm ?_
    simp only [Value.okWide, hu, Cell.okWide] at hv
    cases v <;> simp_all [Cell.ok, Value.oneCell']
  · rename_i e hu
    have ha : ag = false := by
      split at ht
      · split at ht
        · simp only [Option.some.injEq, Prod.mk.injEq] at ht; exact ht.1.symm
        · cases ht
      · cases ht
    refine leaf ha ?_
    simp only [Value.okWide, hu, Cell.okWide] at hv
    cases v <;> simp_all [Cell.ok, Value.oneCell']
  · rename_i fs hu
    have ha : ag = true := by
      split at ht
      · split at ht
        · simp only [Option.some.injEq, Prod.mk.injEq] at ht; exact ht.1.symm
        · cases ht
      · cases ht
    subst ha
    obtain ⟨cs, rfl, _⟩ := okWide_struct hu hv
    exact ⟨.agg gs, by simp only [MV]; exact ⟨cs.toList, by simp, fun x hx => h3 x (by simpa [Value.cells] using hx), by simpa [Value.cells] using h1⟩, gs, h2, by simp⟩
  · cases ht

end Go.Gh

/- Expressions as arguments of statements. -/
namespace Go.Gh
set_option linter.unusedSimpArgs false
set_option linter.unusedVariables false
/-- What the knot says of a slice of expressions. -/
def ExQ (g : GV) : Prop := ∃ l : List Exp, g = ExS l ∧ ∀ a ∈ l, okE a
abbrev ExT : List Ty := [.int .i64, .int .i64, .int .i64, .int .i64, .str, .str, .pr ExQ]
theorem t_Exp {g : GV} (h : ET true ExT g) : ∃ e : Exp, g = Ex e ∧ okE e := by
  obtain ⟨gs, k1, k2⟩ := h
  simp only [CTs, CT, ExQ] at k1
  obtain ⟨_, _, rfl, ⟨k, rfl, _⟩, _, _, rfl, ⟨n, rfl, _⟩, _, _, rfl, ⟨p, rfl, _⟩, _, _, rfl, ⟨t, rfl, _⟩, _, _, rfl, ⟨s, rfl, hs⟩, _, _, rfl, ⟨m, rfl, hm⟩, _, _, rfl, ⟨l, rfl, hl⟩, rfl⟩ := k1
  refine ⟨.mk k n p t s m l, ?_, okE_eq.2 ⟨hs, hm, hl⟩⟩
  rw [Ex_eq]
  exact k2
theorem exQ {g : GV} (h : CT (.sl true ExT) g) : ExQ g := by
  obtain ⟨l, rfl, hl⟩ := c_sl h fun e he => t_Exp he
  exact ⟨l, rfl, hl⟩
end Go.Gh

/- Values and operators, as plain functions. -/
namespace Go.Gh
set_option linter.unusedSimpArgs false
set_option linter.unusedVariables false
theorem wrapU (n : Int) (h : 0 ≤ n) (h2 : n ≤ 18446744073709551615) : IntKind.u64.wrap n = n := by
  simp only [IntKind.wrap, IntKind.bits, IntKind.signed]
  simp; omega
def satV (n : Int) : Int := max (-1000000) (min 1000000 n)
def trV (b : Bool) : Int := if b then 1 else 0
theorem trV_t {b : Bool} (h : b = true) : trV b = 1 := by subst h; rfl
theorem trV_f {b : Bool} (h : b = false) : trV b = 0 := by subst h; rfl
def coV (v k : Int) : Int := if k = 1 then satV v else if k = 2 then andI .i64 v 4095 else if k = 3 then trV (!decide (v = 0)) else if k = 4 ∧ 0 ≤ v ∧ v ≤ 999 then v else 0
def opT (op : Int) : Int × Int × Int :=
  if 1 ≤ op ∧ op ≤ 5 then (1, 1, 1) else if 6 ≤ op ∧ op ≤ 8 then (2, 2, 2) else if op = 9 ∨ op = 10 then (1, 1, 3) else if op = 11 then (2, 1, 3) else if op = 12 then (2, 1, 2) else (0, 0, 0)
abbrev opG (op : Int) : GV := .tup [I (opT op).1, I (opT op).2.1, I (opT op).2.2]
def okV (v k : Int) : Bool := decide (1 ≤ k ∧ k ≤ 4) && decide (coV v k = v)
/-- An operator's value at coerced operands. -/
def apW (op a b : Int) : Int :=
  if op = 1 then satV (IntKind.i64.wrap (a + b)) else if op = 2 then satV (IntKind.i64.wrap (a - b)) else if op = 3 then satV (IntKind.i64.wrap (a * b)) else
  if op = 4 then max a b else if op = 5 then min a b else if op = 6 then orI .i64 a b else if op = 7 then andI .i64 a b else if op = 8 then andNotI .i64 a b else
  if op = 9 then trV (decide (a < b)) else if op = 10 then trV (decide (a = b)) else
  if op = 11 then (if 0 ≤ b ∧ b ≤ 11 then trV (decide (andI .i64 (shrI .i64 a b) 1 = 1)) else 0) else
  if op = 12 then (if 0 ≤ b ∧ b ≤ 11 then orI .i64 a (shlI .i64 1 b) else a) else 0
def apV (op a b : Int) : Int := apW op (coV a (opT op).1) (coV b (opT op).2.1)
theorem opG0 {op : Int} (h : ¬(1 ≤ op ∧ op ≤ 12)) : opG op = .tup [I 0, I 0, I 0] := by
  have : opT op = (0, 0, 0) := by
    unfold opT
    rw [if_neg (by omega), if_neg (by omega), if_neg (by omega), if_neg (by omega), if_neg (by omega)]
  simp only [opG, this]
theorem apW11 {a b : Int} (h : ¬(0 ≤ b ∧ b ≤ 11)) : apW 11 a b = 0 := by simp only [apW, if_neg h]; rfl
theorem apW12 {a b : Int} (h : ¬(0 ≤ b ∧ b ≤ 11)) : apW 12 a b = a := by simp only [apW, if_neg h]; rfl
end Go.Gh

/- Counts of an expression. -/
namespace Go.Gh
set_option linter.unusedSimpArgs false
set_option linter.unusedVariables false
mutual
def cntE : Exp → Nat
  | .mk _ _ _ _ _ _ a => 1 + cntEL a
def cntEL : List Exp → Nat
  | [] => 0
  | e :: l => cntE e + cntEL l
end
theorem cntEL_eq (l : List Exp) : cntEL l = (l.map cntE).sum := by
  induction l with
  | nil => rfl
  | cons e l ih => simp [cntEL, ih]
theorem cntE_eq (e : Exp) : cntE e = 1 + (e.args.map cntE).sum := by
  cases e; simp only [cntE, cntEL_eq]; rfl
theorem cntE_le : ∀ e, cntE e ≤ wEx e + 1 := by
  refine Exp.indA fun e ih => ?_
  rw [cntE_eq, wEx_eq]
  have : ∀ l : List Exp, (∀ a ∈ l, cntE a ≤ wEx a + 1) → (l.map cntE).sum ≤ l.length + (l.map wEx).sum := by
    intro l
    induction l with
    | nil => intro _; simp
    | cons a l ih =>
      intro h
      have h1 := h a (by simp)
      have h2 := ih fun b hb => h b (by simp [hb])
      simp only [List.map_cons, List.sum_cons, List.length_cons]; omega
  have := this e.args ih
  simp only [wtS]; omega
theorem sumT (f : Exp → Nat) (l : List Exp) (i : Nat) (h : i < l.length) : ((l.take (i + 1)).map f).sum = ((l.take i).map f).sum + f l[i] := psum_succ f l i h
theorem sumT_le (f : Exp → Nat) (l : List Exp) (i : Nat) : ((l.take i).map f).sum ≤ (l.map f).sum := psum_le f l i
def mxL : List Nat → Nat
  | [] => 0
  | a :: l => max a (mxL l)
theorem mxL_app (l m : List Nat) : mxL (l ++ m) = max (mxL l) (mxL m) := by
  induction l with
  | nil => simp [mxL]
  | cons a l ih => simp only [List.cons_append, mxL, ih]; omega
theorem mxL_le (l : List Nat) : mxL l ≤ l.sum := by
  induction l with
  | nil => simp [mxL]
  | cons a l ih => simp only [mxL, List.sum_cons]; omega
mutual
def dpE : Exp → Nat
  | .mk _ _ _ _ _ _ a => 1 + dpEL a
def dpEL : List Exp → Nat
  | [] => 0
  | e :: l => max (dpE e) (dpEL l)
end
theorem dpEL_eq (l : List Exp) : dpEL l = mxL (l.map dpE) := by
  induction l with
  | nil => rfl
  | cons e l ih => simp [dpEL, mxL, ih]
theorem dpE_eq (e : Exp) : dpE e = 1 + mxL (e.args.map dpE) := by
  cases e; simp only [dpE, dpEL_eq]; rfl
theorem sumL_le {l : List Exp} {f g : Exp → Nat} (h : ∀ a ∈ l, f a ≤ g a) : (l.map f).sum ≤ (l.map g).sum := by
  induction l with
  | nil => simp
  | cons a l ih =>
    have h1 := h a (by simp)
    have h2 := ih fun b hb => h b (by simp [hb])
    simp only [List.map_cons, List.sum_cons]; omega
theorem dpE_le : ∀ e, dpE e ≤ cntE e := by
  refine Exp.indA fun e ih => ?_
  rw [cntE_eq, dpE_eq]
  have h1 := mxL_le (e.args.map dpE)
  have h2 := sumL_le ih
  omega
theorem mxT (f : Exp → Nat) (l : List Exp) (i : Nat) (h : i < l.length) : mxL ((l.take (i + 1)).map f) = max (mxL ((l.take i).map f)) (f l[i]) := by
  rw [List.take_succ_eq_append_getElem h, List.map_append, mxL_app]; simp [mxL]
theorem mxT_le (f : Exp → Nat) (l : List Exp) (i : Nat) : mxL ((l.take i).map f) ≤ (l.map f).sum :=
  Nat.le_trans (mxL_le _) (sumT_le f l i)
end Go.Gh

/- Predicates on all nodes of an expression. -/
namespace Go.Gh
set_option linter.unusedSimpArgs false
set_option linter.unusedVariables false
mutual
def allE (p : Exp → Bool) : Exp → Bool
  | .mk k n q t s m a => p (.mk k n q t s m a) && allEL p a
def allEL (p : Exp → Bool) : List Exp → Bool
  | [] => true
  | e :: l => allE p e && allEL p l
end
theorem allEL_eq (p : Exp → Bool) (l : List Exp) : allEL p l = l.all (allE p) := by
  induction l with
  | nil => rfl
  | cons e l ih => simp [allEL, ih]
theorem allE_eq (p : Exp → Bool) (e : Exp) : allE p e = (p e && e.args.all (allE p)) := by
  cases e; simp only [allE, allEL_eq]; rfl
theorem any_ix {α : Type} (p : α → Bool) (l : List α) : decide (0 ≤ ixOf p l) = l.any p := by
  unfold ixOf
  cases h : l.findIdx? p with
  | none =>
    have := List.findIdx?_eq_none_iff.1 h
    simp; exact this
  | some i =>
    obtain ⟨h1, h2, _⟩ := List.findIdx?_eq_some_iff_getElem.1 h
    simp
    exact ⟨l[i], List.getElem_mem h1, h2⟩
theorem any_not {α : Type} (p : α → Bool) (l : List α) : (!l.any fun a => !p a) = l.all p := by
  induction l with
  | nil => rfl
  | cons a l ih => simp only [List.any_cons, List.all_cons, Bool.not_or, Bool.not_not, ih]
theorem all_take {p : Exp → Bool} {l : List Exp} {i : Nat} (h : i < l.length) (hp : p l[i] = true) (hn : ∀ a ∈ l.take i, p a = true) : ∀ a ∈ l.take (i + 1), p a = true := by
  intro a ha
  rw [List.take_add_one, List.getElem?_eq_getElem h, Option.toList_some, List.mem_append] at ha
  rcases ha with ha | ha
  · exact hn a ha
  · simp only [List.mem_singleton] at ha; rw [ha]; exact hp
end Go.Gh

/- Names. -/
namespace Go.Gh
set_option linter.unusedSimpArgs false
set_option linter.unusedVariables false
def letV (c : UInt8) : Bool := decide (97 ≤ (c.toNat : Int)) && decide ((c.toNat : Int) ≤ 122)
def digV (c : UInt8) : Bool := decide (48 ≤ (c.toNat : Int)) && decide ((c.toNat : Int) ≤ 57)
def kwS : List ByteArray := [⟨#[105, 102]⟩, ⟨#[116, 104, 101, 110]⟩, ⟨#[101, 108, 115, 101]⟩, ⟨#[116, 114, 117, 101]⟩, ⟨#[102, 97, 108, 115, 101]⟩, ⟨#[108, 105, 116]⟩, ⟨#[110, 111, 110, 101]⟩,
  ⟨#[115, 101, 108, 102]⟩, ⟨#[111, 102]⟩, ⟨#[109, 97, 120]⟩, ⟨#[109, 105, 110]⟩, ⟨#[119, 105, 116, 104]⟩, ⟨#[104, 97, 115]⟩]
def hasS (l : List ByteArray) (s : ByteArray) : Bool := l.any fun x => decide (x = s)
theorem hasS_hit {l : List ByteArray} {s : ByteArray} {i : Nat} (h : i < l.length) (e : l[i] = s) : hasS l s = true := by
  simp only [hasS, List.any_eq_true]; exact ⟨l[i], List.getElem_mem h, by simp [e]⟩
theorem hasS_none {l : List ByteArray} {s : ByteArray} (h : ∀ x ∈ l, decide (x = s) = false) : hasS l s = false := by
  simp only [hasS, List.any_eq_false]; intro x hx; simpa using h x hx
def resV (s : ByteArray) : Bool := hasS kwS s
def shp : List UInt8 → Bool
  | [] => false
  | c :: l => letV c && l.all fun c => letV c || digV c
theorem shp_iff (l : List UInt8) : shp l = true ↔ 0 < l.length ∧ ∀ (j : Nat) (h : j < l.length), letV l[j] = true ∨ (j ≠ 0 ∧ digV l[j] = true) := by
  cases l with
  | nil => simp [shp]
  | cons c l =>
    simp only [shp, Bool.and_eq_true, List.all_eq_true, Bool.or_eq_true, List.length_cons]
    constructor
    · rintro ⟨h1, h2⟩
      refine ⟨by omega, fun j hj => ?_⟩
      cases j with
      | zero => exact .inl h1
      | succ j =>
        have := h2 l[j] (List.getElem_mem _)
        simp only [List.getElem_cons_succ]
        rcases this with h | h
        · exact .inl h
        · exact .inr ⟨by omega, h⟩
    · rintro ⟨_, h⟩
      constructor
      · have := h 0 (by omega)
        simpa using this
      · intro x hx
        obtain ⟨j, hj, rfl⟩ := List.mem_iff_getElem.1 hx
        have := h (j + 1) (by omega)
        simp only [List.getElem_cons_succ] at this
        rcases this with h | h
        · exact .inl h
        · exact .inr h.2
def nameV (s : ByteArray) : Bool := shp (chars s) && decide ((chars s).length ≤ 8) && !resV s
end Go.Gh

/- Names: steps. -/
namespace Go.Gh
set_option linter.unusedSimpArgs false
set_option linter.unusedVariables false
theorem shp_bad {l : List UInt8} {i : Nat} (h : i < l.length) (h1 : ¬(letV l[i] = true ∨ (i ≠ 0 ∧ digV l[i] = true))) : shp l = false := by
  cases hs : shp l with
  | false => rfl
  | true => exact absurd (((shp_iff l).1 hs).2 i h) h1
theorem shp_step {l : List UInt8} {i : Nat} (h : i < l.length) (hn : ∀ (j : Nat) (h : j < l.length), j < i → letV l[j] = true ∨ (j ≠ 0 ∧ digV l[j] = true)) (hg : letV l[i] = true ∨ (i ≠ 0 ∧ digV l[i] = true)) :
    ∀ (j : Nat) (h : j < l.length), j < i + 1 → letV l[j] = true ∨ (j ≠ 0 ∧ digV l[j] = true) := by
  intro j hj hji
  by_cases e : j = i
  · subst e; exact hg
  · exact hn j hj (by omega)
theorem shp_end {l : List UInt8} (hn : ∀ (j : Nat) (h : j < l.length), j < l.length → letV l[j] = true ∨ (j ≠ 0 ∧ digV l[j] = true)) : shp l = decide (0 < l.length) := by
  by_cases h : 0 < l.length
  · rw [decide_eq_true h]; exact (shp_iff l).2 ⟨h, fun j hj => hn j hj hj⟩
  · rw [decide_eq_false h]
    cases l with
    | nil => rfl
    | cons a l => simp at h
end Go.Gh

/- Valid nodes. -/
namespace Go.Gh
set_option linter.unusedSimpArgs false
set_option linter.unusedVariables false
def arity (k : Int) : Nat := if k = 4 then 2 else if k = 5 then 3 else if k = 8 then 1 else 0
def noS : ByteArray := ⟨#[]⟩
def bareV (e : Exp) : Bool :=
  decide (e.args.length = arity e.kind) && (decide (e.kind = 3 ∨ e.kind = 6) || decide (e.pos = 0)) && (decide (e.kind = 3 ∨ e.kind = 8) || decide (e.name = noS)) && (decide (e.kind = 1 ∨ e.kind = 4) || decide (e.n = 0)) &&
  (decide (e.kind = 1) || decide (e.type = 0)) && (decide (e.kind = 8) || decide (e.sym = noS))
end Go.Gh

/- Symbols, rules and grammars as plain data, and their ghosts. -/
namespace Go.Gh
set_option linter.unusedSimpArgs false
set_option linter.unusedVariables false

theorem nraw_Ex (e : Exp) : nraw (Ex e) = true := by rw [Ex_eq]; rfl
theorem clean_Ex (e : Exp) : clean (Ex e) = true := by rw [Ex_eq]; rfl
theorem sub_Ex0 (e : Exp) : sub (Ex e) 0 1 false = some (I e.kind) := by rw [Ex_eq]; rfl
theorem sub_Ex1 (e : Exp) : sub (Ex e) 1 1 false = some (I e.n) := by rw [Ex_eq]; rfl
theorem sub_Ex2 (e : Exp) : sub (Ex e) 2 1 false = some (I e.pos) := by rw [Ex_eq]; rfl
theorem sub_Ex3 (e : Exp) : sub (Ex e) 3 1 false = some (I e.type) := by rw [Ex_eq]; rfl
theorem sub_Ex4 (e : Exp) : sub (Ex e) 4 1 false = some (T e.sym) := by rw [Ex_eq]; rfl
theorem sub_Ex5 (e : Exp) : sub (Ex e) 5 1 false = some (T e.name) := by rw [Ex_eq]; rfl
theorem sub_Ex6 (e : Exp) : sub (Ex e) 6 1 false = some (ExS e.args) := by rw [Ex_eq]; rfl
theorem fold_Ex (e : Exp) : GV.agg [I e.kind, I e.n, I e.pos, I e.type, T e.sym, T e.name, .sl 7 (e.args.map Ex)] = Ex e := (Ex_eq e).symm
abbrev ExC (e : Exp) : List GV := [I e.kind, I e.n, I e.pos, I e.type, T e.sym, T e.name, ExS e.args]
theorem upd_Ex (gs : List GV) (o : Nat) (e : Exp) : upd (.agg gs) o (Ex e) = if o + 7 ≤ gs.length then some (.agg (gs.take o ++ (ExC e ++ gs.drop (o + 7)))) else none := by rw [Ex_eq]; rfl
theorem upd_ExO (e : Exp) (o r sz k n : Nat) : upd (Ex e) o (.own r sz k n) = if o < 7 then some (.agg ((ExC e).set o (.own r sz k n))) else none := by rw [Ex_eq]; rfl
/-- What is known of the ghost of an expression. -/
theorem XE : type_of% (And.intro @isAgg_Ex (And.intro @geR_Ex (And.intro @gsize_Ex (And.intro @stor_Ex (And.intro @nraw_Ex (And.intro @clean_Ex (And.intro @sub_Ex0 (And.intro @sub_Ex1 (And.intro @sub_Ex2 (And.intro @sub_Ex3 (And.intro @sub_Ex4 (And.intro @sub_Ex5 (And.intro @sub_Ex6 (And.intro @fold_Ex (And.intro @upd_ExO @upd_Ex))))))))))))))) :=
  And.intro @isAgg_Ex (And.intro @geR_Ex (And.intro @gsize_Ex (And.intro @stor_Ex (And.intro @nraw_Ex (And.intro @clean_Ex (And.intro @sub_Ex0 (And.intro @sub_Ex1 (And.intro @sub_Ex2 (And.intro @sub_Ex3 (And.intro @sub_Ex4 (And.intro @sub_Ex5 (And.intro @sub_Ex6 (And.intro @fold_Ex (And.intro @upd_ExO @upd_Ex))))))))))))))

@[ext] structure Att where
  name : ByteArray
  type : Int
  mode : Int
  circ : Bool
deriving DecidableEq
abbrev At (x : Att) : GV := .agg [T x.name, I x.type, I x.mode, B x.circ]
abbrev AtS (l : List Att) : GV := .sl 4 (l.map At)
abbrev wAt (x : Att) : Nat := (chars x.name).length
@[ext] structure Sym where
  name : ByteArray
  atts : List Att
deriving DecidableEq
abbrev Sy (x : Sym) : GV := .agg [T x.name, AtS x.atts]
abbrev SyS (l : List Sym) : GV := .sl 2 (l.map Sy)
abbrev wSy (x : Sym) : Nat := (chars x.name).length + wtS wAt x.atts
@[ext] structure Eqn where
  pos : Int
  name : ByteArray
  expr : Exp
deriving DecidableEq
abbrev Qn (x : Eqn) : GV := .agg [I x.pos, T x.name, I x.expr.kind, I x.expr.n, I x.expr.pos, I x.expr.type, T x.expr.sym, T x.expr.name, ExS x.expr.args]
abbrev QnS (l : List Eqn) : GV := .sl 9 (l.map Qn)
abbrev wEq (x : Eqn) : Nat := (chars x.name).length + wEx x.expr
@[ext] structure Con where
  sym : ByteArray
  name : ByteArray
  goal : Exp
  value : Exp
deriving DecidableEq
abbrev Co (x : Con) : GV := .agg [T x.sym, T x.name, I x.goal.kind, I x.goal.n, I x.goal.pos, I x.goal.type, T x.goal.sym, T x.goal.name, ExS x.goal.args, I x.value.kind, I x.value.n, I x.value.pos, I x.value.type, T x.value.sym, T x.value.name, ExS x.value.args]
abbrev CoS (l : List Con) : GV := .sl 16 (l.map Co)
abbrev wCo (x : Con) : Nat := (chars x.sym).length + (chars x.name).length + wEx x.goal + wEx x.value
abbrev TS (l : List ByteArray) : GV := .sl 1 (l.map T)
abbrev wT (s : ByteArray) : Nat := (chars s).length
@[ext] structure Rul where
  name : ByteArray
  left : ByteArray
  right : List ByteArray
  lit : Bool
  eqs : List Eqn
  cons : List Con
deriving DecidableEq
abbrev Ru (x : Rul) : GV := .agg [T x.name, T x.left, TS x.right, B x.lit, QnS x.eqs, CoS x.cons]
abbrev RuS (l : List Rul) : GV := .sl 6 (l.map Ru)
abbrev wRu (x : Rul) : Nat := (chars x.name).length + (chars x.left).length + wtS wT x.right + wtS wEq x.eqs + wtS wCo x.cons
@[ext] structure Gram where
  syms : List Sym
  rules : List Rul
deriving DecidableEq
abbrev Gr (g : Gram) : GV := .agg [SyS g.syms, RuS g.rules]
abbrev wGr (g : Gram) : Nat := wtS wSy g.syms + wtS wRu g.rules

/-! ### Strings are no longer than strings can be -/
def okAt (x : Att) : Prop := x.name.size ≤ maxLen
def okSy (x : Sym) : Prop := x.name.size ≤ maxLen ∧ ∀ a ∈ x.atts, okAt a
def okEq (x : Eqn) : Prop := x.name.size ≤ maxLen ∧ okE x.expr
def okCo (x : Con) : Prop := x.sym.size ≤ maxLen ∧ x.name.size ≤ maxLen ∧ okE x.goal ∧ okE x.value
def okRu (x : Rul) : Prop := x.name.size ≤ maxLen ∧ x.left.size ≤ maxLen ∧ (∀ s ∈ x.right, s.size ≤ maxLen) ∧ (∀ q ∈ x.eqs, okEq q) ∧ ∀ c ∈ x.cons, okCo c
def okGr (g : Gram) : Prop := (∀ s ∈ g.syms, okSy s) ∧ ∀ r ∈ g.rules, okRu r
/-! ### Sizes -/
/-- What a budget says of a grammar. -/
def smSy (x : Sym) : Prop := x.atts.length ≤ 1048576
def smEq (x : Eqn) : Prop := wEx x.expr ≤ 1048576
def smCo (x : Con) : Prop := wEx x.goal ≤ 1048576 ∧ wEx x.value ≤ 1048576
def smRu (x : Rul) : Prop := x.right.length ≤ 1048576 ∧ x.eqs.length ≤ 1048576 ∧ x.cons.length ≤ 1048576 ∧ (∀ q ∈ x.eqs, smEq q) ∧ ∀ c ∈ x.cons, smCo c
def smGr (g : Gram) : Prop := g.syms.length ≤ 1048576 ∧ g.rules.length ≤ 1048576 ∧ (∀ s ∈ g.syms, smSy s) ∧ ∀ r ∈ g.rules, smRu r
theorem wtS_mem {α : Type} {wt : α → Nat} {l : List α} {n : Nat} (h : wtS wt l ≤ n) : l.length ≤ n ∧ ∀ a ∈ l, wt a ≤ n := by
  simp only [wtS] at h
  exact ⟨by omega, fun a ha => by have := sum_mem wt l a ha; omega⟩
theorem smRu_of {x : Rul} (h : wRu x ≤ 1048576) : smRu x := by
  simp only [wRu] at h
  obtain ⟨h1, _⟩ := wtS_mem (wt := wT) (l := x.right) (n := 1048576) (by omega)
  obtain ⟨h2, h3⟩ := wtS_mem (wt := wEq) (l := x.eqs) (n := 1048576) (by omega)
  obtain ⟨h4, h5⟩ := wtS_mem (wt := wCo) (l := x.cons) (n := 1048576) (by omega)
  exact ⟨h1, h2, h4, fun q hq => by have := h3 q hq; simp only [wEq] at this; unfold smEq; omega, fun c hc => by have := h5 c hc; simp only [wCo] at this; unfold smCo; omega⟩
theorem smGr_of {g : Gram} (h : wGr g ≤ 1048576) : smGr g := by
  simp only [wGr] at h
  obtain ⟨h1, h2⟩ := wtS_mem (wt := wSy) (l := g.syms) (n := 1048576) (by omega)
  obtain ⟨h3, h4⟩ := wtS_mem (wt := wRu) (l := g.rules) (n := 1048576) (by omega)
  refine ⟨h1, h3, fun s hs => ?_, fun r hr => smRu_of (h4 r hr)⟩
  have := h2 s hs
  simp only [wSy, wtS] at this
  unfold smSy; omega
theorem getD_lt {α : Type} {l : List α} {i : Nat} {d : α} (h : i < l.length) : l.getD i d = l[i] := by
  rw [List.getD_eq_getElem?_getD, List.getElem?_eq_getElem h]; rfl
/-! ### Looking things up -/
def symZ : Sym := ⟨noS, []⟩
def attZ : Att := ⟨noS, 0, 0, false⟩
def rulZ : Rul := ⟨noS, noS, [], false, [], []⟩
def fSym (l : List Sym) (n : ByteArray) : Sym := (l.find? fun s => decide (s.name = n)).getD symZ
def hSym (l : List Sym) (n : ByteArray) : Bool := (l.find? fun s => decide (s.name = n)).isSome
def fRul (l : List Rul) (n : ByteArray) : Rul := (l.find? fun s => decide (s.name = n)).getD rulZ
def hRul (l : List Rul) (n : ByteArray) : Bool := (l.find? fun s => decide (s.name = n)).isSome
def fAtt (l : List Att) (n : ByteArray) : Att := (l.find? fun s => decide (s.name = n)).getD attZ
def hAtt (l : List Att) (n : ByteArray) : Bool := (l.find? fun s => decide (s.name = n)).isSome
theorem fRul_mem (l : List Rul) (n : ByteArray) : fRul l n ∈ l ∨ fRul l n = rulZ := by
  unfold fRul
  cases h : l.find? fun s => decide (s.name = n) with
  | none => exact .inr rfl
  | some a => exact .inl (List.mem_of_find?_eq_some h)
theorem fSym_mem (l : List Sym) (n : ByteArray) : fSym l n ∈ l ∨ fSym l n = symZ := by
  unfold fSym
  cases h : l.find? fun s => decide (s.name = n) with
  | none => exact .inr rfl
  | some a => exact .inl (List.mem_of_find?_eq_some h)
theorem smRu_f {g : Gram} (h : smGr g) (n : ByteArray) : smRu (fRul g.rules n) := by
  rcases fRul_mem g.rules n with h1 | h1
  · exact h.2.2.2 _ h1
  · rw [h1]; simp [smRu, rulZ]
theorem smSy_f {g : Gram} (h : smGr g) (n : ByteArray) : smSy (fSym g.syms n) := by
  rcases fSym_mem g.syms n with h1 | h1
  · exact h.2.2.1 _ h1
  · rw [h1]; simp [smSy, symZ]
def symAt (r : Rul) (pos : Int) : ByteArray := if pos = 0 then r.left else if 1 ≤ pos ∧ pos ≤ r.right.length then r.right.getD (pos - 1).toNat noS else noS
def nodZ : Nod := ⟨0, 0, 0, 0, noS, []⟩
/-- The symbol of a node. -/
def symN (g : Gram) (t : List Nod) (i : Int) : ByteArray := if 0 ≤ i ∧ i < t.length then (fRul g.rules (t.getD i.toNat nodZ).rule).left else noS
theorem symN_in {g : Gram} {t : List Nod} {i : Nat} (h : i < t.length) : symN g t i = (fRul g.rules t[i].rule).left := by
  simp only [symN, Int.toNat_natCast]
  rw [if_pos (by omega), getD_lt h]
theorem symN_out {g : Gram} {t : List Nod} {i : Int} (h : ¬ (0 ≤ i ∧ i < t.length)) : symN g t i = noS := by simp only [symN, if_neg h]
/-- The attribute of an occurrence of a rule. -/
def attAt (g : Gram) (r : Rul) (pos : Int) (name : ByteArray) : Att := if 0 ≤ pos ∧ pos ≤ r.right.length then fAtt (fSym g.syms (symAt r pos)).atts name else attZ
def hasAt (g : Gram) (r : Rul) (pos : Int) (name : ByteArray) : Bool := if 0 ≤ pos ∧ pos ≤ r.right.length then hAtt (fSym g.syms (symAt r pos)).atts name else false
/-- The attribute of an instance. -/
def attN (g : Gram) (t : List Nod) (n : Int) (name : ByteArray) : Att := if 0 ≤ ixOf (fun y => decide (y.id = n)) t then fAtt (fSym g.syms (symN g t (ixOf (fun y => decide (y.id = n)) t))).atts name else attZ
def hasN (g : Gram) (t : List Nod) (n : Int) (name : ByteArray) : Bool := if 0 ≤ ixOf (fun y => decide (y.id = n)) t then hAtt (fSym g.syms (symN g t (ixOf (fun y => decide (y.id = n)) t))).atts name else false
theorem ixOf_cases {α : Type} (p : α → Bool) (xs : List α) : ixOf p xs = -1 ∨ (0 ≤ ixOf p xs ∧ ixOf p xs < xs.length) := by
  unfold ixOf
  cases h : xs.findIdx? p with
  | none => exact .inl rfl
  | some i =>
    obtain ⟨h1, _, _⟩ := List.findIdx?_eq_some_iff_getElem.1 h
    exact .inr ⟨by simp, by simpa using h1⟩
/-- An instance. -/
abbrev Ins (x : Int × ByteArray) : GV := .agg [I x.1, T x.2]
abbrev InsS (l : List (Int × ByteArray)) : GV := .sl 2 (l.map Ins)
end Go.Gh

/- Instances of a tree. -/
namespace Go.Gh
set_option linter.unusedSimpArgs false
set_option linter.unusedVariables false
/-- The node at an occurrence. -/
def nodeAt (t : List Nod) (i pos : Int) : Option Int :=
  if 0 ≤ i ∧ i < t.length ∧ 0 ≤ pos ∧ pos ≤ (t.getD i.toNat nodZ).kids.length then
    let k := if pos = 0 then i else (t.getD i.toNat nodZ).kids.getD (pos - 1).toNat 0
    if 0 ≤ k ∧ k < t.length then some k else none
  else none
def instAt (t : List Nod) (i : Int) (o : Int × ByteArray) : (Int × ByteArray) × Bool :=
  match nodeAt t i o.1 with
  | some k => (((t.getD k.toNat nodZ).id, o.2), true)
  | none => ((0, noS), false)
theorem fAtt_no {l : List Att} {n : ByteArray} (h : hAtt l n = false) : fAtt l n = attZ := by
  simp only [hAtt, fAtt] at *
  cases e : l.find? fun s => decide (s.name = n) with
  | none => rfl
  | some a => rw [e] at h; simp at h
theorem inst0 {t : List Nod} {i : Nat} {o : Int × ByteArray} (hi : i < t.length) (h0 : o.1 = 0) : instAt t i o = ((t[i].id, o.2), true) := by
  simp only [instAt, nodeAt, Int.toNat_natCast, getD_lt hi, h0]
  rw [if_pos (by omega)]
  simp only [if_true]
  rw [if_pos (by omega)]
  simp only [Int.toNat_natCast, getD_lt hi]
theorem inst1 {t : List Nod} {i : Nat} {o : Int × ByteArray} (hi : i < t.length) (h1 : 1 ≤ o.1) (hj : (o.1 - 1).toNat < t[i].kids.length) (hk : 0 ≤ t[i].kids[(o.1 - 1).toNat]) (hl : (t[i].kids[(o.1 - 1).toNat]).toNat < t.length) :
    instAt t i o = ((t[(t[i].kids[(o.1 - 1).toNat]).toNat].id, o.2), true) := by
  simp only [instAt, nodeAt, Int.toNat_natCast, getD_lt hi]
  have e : (if o.1 = 0 then (i : Int) else t[i].kids.getD (o.1 - 1).toNat 0) = t[i].kids[(o.1 - 1).toNat] := by rw [if_neg (by omega), getD_lt hj]
  rw [if_pos (by omega)]
  simp only [e]
  rw [if_pos (by omega)]
  simp only [getD_lt hl]
theorem inst2 {t : List Nod} {i : Nat} {o : Int × ByteArray} (hi : i < t.length) (h1 : 1 ≤ o.1) (hj : (o.1 - 1).toNat < t[i].kids.length) (hk : ¬ (0 ≤ t[i].kids[(o.1 - 1).toNat] ∧ t[i].kids[(o.1 - 1).toNat] < t.length)) :
    instAt t i o = ((0, noS), false) := by
  simp only [instAt, nodeAt, Int.toNat_natCast, getD_lt hi]
  have e : (if o.1 = 0 then (i : Int) else t[i].kids.getD (o.1 - 1).toNat 0) = t[i].kids[(o.1 - 1).toNat] := by rw [if_neg (by omega), getD_lt hj]
  rw [if_pos (by omega)]
  simp only [e]
  rw [if_neg (by omega)]
theorem inst3 {t : List Nod} {i : Nat} {o : Int × ByteArray} (hi : i < t.length) (h : ¬ (0 ≤ o.1 ∧ o.1 ≤ t[i].kids.length)) : instAt t i o = ((0, noS), false) := by
  simp only [instAt, nodeAt, Int.toNat_natCast, getD_lt hi]
  rw [if_neg (by omega)]
theorem inst4 {t : List Nod} {i : Int} {o : Int × ByteArray} (h : ¬ (0 ≤ i ∧ i < t.length)) : instAt t i o = ((0, noS), false) := by
  simp only [instAt, nodeAt]
  rw [if_neg (by omega)]
end Go.Gh

/- Grammars as arguments of statements. -/
namespace Go.Gh
set_option linter.unusedSimpArgs false
set_option linter.unusedVariables false
theorem t_T {g : GV} (h : ET false [.str] g) : ∃ s : ByteArray, g = T s ∧ s.size ≤ maxLen := by
  obtain ⟨s, rfl, hs⟩ := t_one h
  exact ⟨s, rfl, hs⟩
abbrev AtT : List Ty := [.str, .int .i64, .int .i64, .bool]
theorem t_Att {g : GV} (h : ET true AtT g) : ∃ x : Att, g = At x ∧ okAt x := by
  obtain ⟨gs, k1, k2⟩ := h
  simp only [CTs, CT] at k1
  obtain ⟨_, _, rfl, ⟨s, rfl, hs⟩, _, _, rfl, ⟨a, rfl, _⟩, _, _, rfl, ⟨b, rfl, _⟩, _, _, rfl, ⟨c, rfl⟩, rfl⟩ := k1
  exact ⟨⟨s, a, b, c⟩, by simpa using k2, hs⟩
abbrev SyT : List Ty := [.str, .sl true AtT]
theorem t_Sym {g : GV} (h : ET true SyT g) : ∃ x : Sym, g = Sy x ∧ okSy x := by
  obtain ⟨gs, k1, k2⟩ := h
  rw [CTs] at k1
  obtain ⟨_, _, rfl, h1, k1⟩ := k1
  rw [CTs] at k1
  obtain ⟨_, _, rfl, h2, k1⟩ := k1
  simp only [CTs] at k1
  subst k1
  obtain ⟨l, rfl, hl⟩ := c_sl h2 fun e he => t_Att he
  simp only [CT] at h1
  obtain ⟨s, rfl, hs⟩ := h1
  exact ⟨⟨s, l⟩, by simpa using k2, hs, hl⟩
abbrev QnT : List Ty := [.int .i64, .str, .int .i64, .int .i64, .int .i64, .int .i64, .str, .str, .pr ExQ]
theorem t_Eqn {g : GV} (h : ET true QnT g) : ∃ x : Eqn, g = Qn x ∧ okEq x := by
  obtain ⟨gs, k1, k2⟩ := h
  simp only [CTs, CT, ExQ] at k1
  obtain ⟨_, _, rfl, ⟨i, rfl, _⟩, _, _, rfl, ⟨u, rfl, hu⟩, _, _, rfl, ⟨k, rfl, _⟩, _, _, rfl, ⟨n, rfl, _⟩, _, _, rfl, ⟨p, rfl, _⟩, _, _, rfl, ⟨t, rfl, _⟩, _, _, rfl, ⟨s, rfl, hs⟩, _, _, rfl, ⟨m, rfl, hm⟩, _, _, rfl, ⟨l, rfl, hl⟩, rfl⟩ := k1
  exact ⟨⟨i, u, .mk k n p t s m l⟩, k2, hu, okE_eq.2 ⟨hs, hm, hl⟩⟩
abbrev CoT : List Ty := [.str, .str, .int .i64, .int .i64, .int .i64, .int .i64, .str, .str, .pr ExQ, .int .i64, .int .i64, .int .i64, .int .i64, .str, .str, .pr ExQ]
theorem t_Con {g : GV} (h : ET true CoT g) : ∃ x : Con, g = Co x ∧ okCo x := by
  obtain ⟨gs, k1, k2⟩ := h
  simp only [CTs, CT, ExQ] at k1
  obtain ⟨_, _, rfl, ⟨a, rfl, ha⟩, _, _, rfl, ⟨b, rfl, hb⟩, _, _, rfl, ⟨k, rfl, _⟩, _, _, rfl, ⟨n, rfl, _⟩, _, _, rfl, ⟨p, rfl, _⟩, _, _, rfl, ⟨t, rfl, _⟩, _, _, rfl, ⟨s, rfl, hs⟩, _, _, rfl, ⟨m, rfl, hm⟩, _, _, rfl, ⟨l, rfl, hl⟩,
    _, _, rfl, ⟨k', rfl, _⟩, _, _, rfl, ⟨n', rfl, _⟩, _, _, rfl, ⟨p', rfl, _⟩, _, _, rfl, ⟨t', rfl, _⟩, _, _, rfl, ⟨s', rfl, hs'⟩, _, _, rfl, ⟨m', rfl, hm'⟩, _, _, rfl, ⟨l', rfl, hl'⟩, rfl⟩ := k1
  exact ⟨⟨a, b, .mk k n p t s m l, .mk k' n' p' t' s' m' l'⟩, k2, ha, hb, okE_eq.2 ⟨hs, hm, hl⟩, okE_eq.2 ⟨hs', hm', hl'⟩⟩
abbrev RuT : List Ty := [.str, .str, .sl false [.str], .bool, .sl true QnT, .sl true CoT]
theorem t_Rul {g : GV} (h : ET true RuT g) : ∃ x : Rul, g = Ru x ∧ okRu x := by
  obtain ⟨gs, k1, k2⟩ := h
  rw [CTs] at k1
  obtain ⟨_, _, rfl, h1, k1⟩ := k1
  rw [CTs] at k1
  obtain ⟨_, _, rfl, h2, k1⟩ := k1
  rw [CTs] at k1
  obtain ⟨_, _, rfl, h3, k1⟩ := k1
  rw [CTs] at k1
  obtain ⟨_, _, rfl, h4, k1⟩ := k1
  rw [CTs] at k1
  obtain ⟨_, _, rfl, h5, k1⟩ := k1
  rw [CTs] at k1
  obtain ⟨_, _, rfl, h6, k1⟩ := k1
  simp only [CTs] at k1
  subst k1
  obtain ⟨l3, rfl, hl3⟩ := c_sl h3 fun e he => t_T he
  obtain ⟨l5, rfl, hl5⟩ := c_sl h5 fun e he => t_Eqn he
  obtain ⟨l6, rfl, hl6⟩ := c_sl h6 fun e he => t_Con he
  simp only [CT] at h1 h2 h4
  obtain ⟨a, rfl, ha⟩ := h1
  obtain ⟨b, rfl, hb⟩ := h2
  obtain ⟨c, rfl⟩ := h4
  exact ⟨⟨a, b, l3, c, l5, l6⟩, k2, ha, hb, hl3, hl5, hl6⟩
abbrev GrT : List Ty := [.sl true SyT, .sl true RuT]
theorem t_Gr {g : GV} (h : ET true GrT g) : ∃ x : Gram, g = Gr x ∧ okGr x := by
  obtain ⟨gs, k1, k2⟩ := h
  rw [CTs] at k1
  obtain ⟨_, _, rfl, h1, k1⟩ := k1
  rw [CTs] at k1
  obtain ⟨_, _, rfl, h2, k1⟩ := k1
  simp only [CTs] at k1
  subst k1
  obtain ⟨l1, rfl, hl1⟩ := c_sl h1 fun e he => t_Sym he
  obtain ⟨l2, rfl, hl2⟩ := c_sl h2 fun e he => t_Rul he
  exact ⟨⟨l1, l2⟩, k2, hl1, hl2⟩
end Go.Gh

/- Trees of a grammar; types of expressions. -/
namespace Go.Gh
set_option linter.unusedSimpArgs false
set_option linter.unusedVariables false
/-- The Id of a node: in range, and not that of an earlier one. -/
def gid (t : List Nod) (i : Nat) : Bool := decide (1 ≤ (t.getD i nodZ).id ∧ (t.getD i nodZ).id ≤ 999) && !((t.take i).any fun y => decide (y.id = (t.getD i nodZ).id))
def idsV (t : List Nod) : Bool := (List.range t.length).all (gid t)
theorem idsV_bad {t : List Nod} {i : Nat} (h : i < t.length) (hb : gid t i = false) : idsV t = false := by
  simp only [idsV, List.all_eq_false, List.mem_range]
  exact ⟨i, h, by simp [hb]⟩
theorem idsV_ok {t : List Nod} (h : ∀ j, j < t.length → gid t j = true) : idsV t = true := by
  simp only [idsV, List.all_eq_true, List.mem_range]
  exact h
/-- What a node must be. -/
def fitV (g : Gram) (x : Nod) (parent place : Int) (sym : ByteArray) : Bool :=
  hRul g.rules x.rule && decide ((fRul g.rules x.rule).left = sym) && decide (x.parent = parent) && decide (x.place = place) && decide (x.kids.length = (fRul g.rules x.rule).right.length) &&
  decide (-1000000 ≤ x.lit ∧ x.lit ≤ 1000000) && ((fRul g.rules x.rule).lit || decide (x.lit = 0))
/-- The children, one by one. -/
def kidsW (w : Nat → Int → Int → ByteArray → Int) (i : Nat) : List Int → List ByteArray → Int → Int → Int
  | c :: cs, s :: ss, k, at' => if c ≠ at' then -1 else if w at'.toNat i (k + 1) s < 0 then -1 else kidsW w i cs ss (k + 1) (w at'.toNat i (k + 1) s)
  | _, _, _, at' => at'
/-- The index behind a subtree; -1, where something is wrong. -/
def walkE (g : Gram) (t : List Nod) : Nat → Nat → Int → Int → ByteArray → Int
  | 0, _, _, _, _ => -1
  | f + 1, i, p, q, s => if i < t.length then
      if fitV g (t.getD i nodZ) p q s then kidsW (walkE g t f) i (t.getD i nodZ).kids (fRul g.rules (t.getD i nodZ).rule).right 0 (i + 1) else -1
    else -1
theorem kidsW_ge {w : Nat → Int → Int → ByteArray → Int} {n : Int} {i : Nat} (hw : ∀ a p q s, 0 ≤ w a p q s → (a : Int) < w a p q s ∧ w a p q s ≤ n) : ∀ (cs : List Int) (ss : List ByteArray) (k a : Int), 0 ≤ a → a ≤ n →
    kidsW w i cs ss k a = -1 ∨ (a ≤ kidsW w i cs ss k a ∧ kidsW w i cs ss k a ≤ n)
  | [], _, k, a, h0, h1 => by right; simp [kidsW]; omega
  | _ :: _, [], k, a, h0, h1 => by right; simp [kidsW]; omega
  | c :: cs, s :: ss, k, a, h0, h1 => by
    simp only [kidsW]
    split
    · exact .inl rfl
    split
    · exact .inl rfl
    · rename_i h2
      have h3 := hw a.toNat i (k + 1) s (by omega)
      rcases kidsW_ge hw cs ss (k + 1) (w a.toNat i (k + 1) s) (by omega) h3.2 with h | h
      · exact .inl h
      · exact .inr (by omega)
theorem walkE_ge {g : Gram} {t : List Nod} : ∀ (f i : Nat) (p q : Int) (s : ByteArray), 0 ≤ walkE g t f i p q s → (i : Int) < walkE g t f i p q s ∧ walkE g t f i p q s ≤ t.length
  | 0, i, p, q, s, h => by simp [walkE] at h
  | f + 1, i, p, q, s, h => by
    simp only [walkE] at h ⊢
    split at h
    · rename_i hi
      rw [if_pos hi]
      split at h
      · rename_i hf
        rw [if_pos hf]
        rcases kidsW_ge (w := walkE g t f) (n := t.length) (i := i) (fun a p q s h => walkE_ge f a p q s h) (t.getD i nodZ).kids (fRul g.rules (t.getD i nodZ).rule).right 0 (i + 1) (by omega) (by omega) with h2 | h2
        · rw [h2] at h; omega
        · omega
      · omega
    · omega
theorem walkE_out {g : Gram} {t : List Nod} {f i : Nat} {p q : Int} {s : ByteArray} (h : t.length ≤ i) : walkE g t f i p q s = -1 := by
  cases f with
  | zero => rfl
  | succ f => simp only [walkE]; rw [if_neg (by omega)]
def treeOf (g : Gram) (t : List Nod) (s : ByteArray) : Bool := decide (1 ≤ t.length ∧ t.length ≤ 16) && (idsV t && decide (walkE g t t.length 0 (-1) 0 s = t.length))
def startS (g : Gram) : ByteArray := if 0 < g.syms.length then (g.syms.getD 0 symZ).name else noS
theorem kidsW_step {w : Nat → Int → Int → ByteArray → Int} {i k : Nat} {cs : List Int} {ss : List ByteArray} {a : Int} (h1 : k < cs.length) (h2 : k < ss.length) :
    kidsW w i (cs.drop k) (ss.drop k) k a = if cs[k] ≠ a then -1 else if w a.toNat i ((k : Int) + 1) ss[k] < 0 then -1 else kidsW w i (cs.drop (k + 1)) (ss.drop (k + 1)) ((k + 1 : Nat) : Int) (w a.toNat i ((k : Int) + 1) ss[k]) := by
  rw [List.drop_eq_getElem_cons h1, List.drop_eq_getElem_cons h2, kidsW]
  simp only [Int.natCast_add, Int.natCast_one]
theorem kidsW_end {w : Nat → Int → Int → ByteArray → Int} {i k : Nat} {cs : List Int} {ss : List ByteArray} {a : Int} {p : Int} (h1 : cs.length ≤ k) : kidsW w i (cs.drop k) (ss.drop k) p a = a := by
  rw [List.drop_eq_nil_of_le h1]; cases ss.drop k <;> rfl
theorem fitV_iff {g : Gram} {x : Nod} {p q : Int} {s : ByteArray} : fitV g x p q s = true ↔ hRul g.rules x.rule = true ∧ (fRul g.rules x.rule).left = s ∧ x.parent = p ∧ x.place = q ∧ x.kids.length = (fRul g.rules x.rule).right.length ∧ (-1000000 ≤ x.lit ∧ x.lit ≤ 1000000) ∧
    ((fRul g.rules x.rule).lit = true ∨ (fRul g.rules x.rule).lit = false ∧ x.lit = 0) := by
  simp only [fitV, Bool.and_eq_true, decide_eq_true_eq, Bool.or_eq_true, and_assoc]
  cases (fRul g.rules x.rule).lit <;> simp
theorem okV1 (n : Int) : okV n 1 = decide (-1000000 ≤ n ∧ n ≤ 1000000) := by
  simp only [okV, coV, satV]
  by_cases h : -1000000 ≤ n ∧ n ≤ 1000000
  · simp [h]; omega
  · simp [h]; omega
theorem gid_f1 {t : List Nod} {i : Nat} (h : i < t.length) (hb : ¬ (1 ≤ t[i].id ∧ t[i].id ≤ 999)) : gid t i = false := by
  simp only [gid, getD_lt h, decide_eq_false hb, Bool.false_and]
theorem gid_f2 {t : List Nod} {i : Nat} (h : i < t.length) (hb : ((t.take i).any fun y => decide (y.id = t[i].id)) = true) : gid t i = false := by
  simp only [gid, getD_lt h, hb, Bool.not_true, Bool.and_false]
theorem gid_t {t : List Nod} {i : Nat} (h : i < t.length) (ha : 1 ≤ t[i].id ∧ t[i].id ≤ 999) (hb : ((t.take i).any fun y => decide (y.id = t[i].id)) = false) : gid t i = true := by
  simp only [gid, getD_lt h, decide_eq_true ha, hb, Bool.not_false, Bool.and_true]
def hasI (l : List Int) (x : Int) : Bool := l.any fun y => decide (y = x)
theorem hasI_hit {l : List Int} {x : Int} {i : Nat} (h : i < l.length) (e : l[i] = x) : hasI l x = true := by
  simp only [hasI, List.any_eq_true]; exact ⟨l[i], List.getElem_mem h, by simp [e]⟩
theorem hasI_none {l : List Int} {x : Int} (h : ∀ y ∈ l, decide (y = x) = false) : hasI l x = false := by
  simp only [hasI, List.any_eq_false]; intro y hy; simpa using h y hy
theorem hasI_map (t : List Nod) (x : Int) : hasI (t.map (·.id)) x = t.any fun y => decide (y.id = x) := by
  simp only [hasI, List.any_map]; rfl
/-! ### Types of expressions -/
def tyK (g : Gram) (r : Rul) (e : Exp) (ts : List Int) : Int :=
  if e.kind = 1 then e.type else
  if e.kind = 2 then (if r.lit then 1 else 0) else
  if e.kind = 3 then (attAt g r e.pos e.name).type else
  if e.kind = 4 then (if ts.length = 2 ∧ ts.getD 0 0 = (opT e.n).1 ∧ ts.getD 1 0 = (opT e.n).2.1 then (opT e.n).2.2 else 0) else
  if e.kind = 5 then (if ts.length = 3 ∧ ts.getD 0 0 = 3 ∧ ts.getD 1 0 = ts.getD 2 0 then ts.getD 1 0 else 0) else
  if e.kind = 6 then (if 0 ≤ e.pos ∧ e.pos ≤ r.right.length then 4 else 0) else
  if e.kind = 7 then 4 else
  if e.kind = 8 then (if ts.length = 1 ∧ ts.getD 0 0 = 4 then (fAtt (fSym g.syms e.sym).atts e.name).type else 0) else 0
mutual
def tyE (g : Gram) (r : Rul) : Exp → Int
  | .mk k n p t s m a => tyK g r (.mk k n p t s m a) (tyEL g r a)
def tyEL (g : Gram) (r : Rul) : List Exp → List Int
  | [] => []
  | e :: l => tyE g r e :: tyEL g r l
end
theorem tyEL_eq (g : Gram) (r : Rul) (l : List Exp) : tyEL g r l = l.map (tyE g r) := by
  induction l with
  | nil => rfl
  | cons e l ih => simp [tyEL, ih]
theorem tyE_eq (g : Gram) (r : Rul) (e : Exp) : tyE g r e = tyK g r e (e.args.map (tyE g r)) := by
  cases e; simp only [tyE, tyEL_eq]; rfl
end Go.Gh
namespace Go.Gh
theorem takeApp2 {α β : Type} (f : β → GV) (h : α → β) (l : List α) (i : Nat) (hi : i < l.length) : List.take i (List.map f (List.map h (List.take i l))) ++ [f (h l[i])] = List.map f (List.map h (List.take (i + 1) l)) := by
  have := takeApp (fun a => f (h a)) l i hi
  simp only [List.map_map]; exact this
theorem treeOf_bad {g : Gram} {t : List Nod} {s : ByteArray} (h : idsV t = false) : treeOf g t s = false := by
  simp only [treeOf, h, Bool.false_and, Bool.and_false]
end Go.Gh
namespace Go.Gh
theorem getDm {α : Type} {l : List α} {f : α → Int} {k : Nat} (h : k < l.length) : (l.map f).getD k 0 = f l[k] := by
  rw [getD_lt (by simpa using h), List.getElem_map]
end Go.Gh
namespace Go.Gh
theorem Bor.of_eq {H : GH} {g g' : GV} (h : g = g') : Bor H g g' := h ▸ Bor.refl
end Go.Gh

/- Valid expressions, and their values. -/
namespace Go.Gh
set_option linter.unusedSimpArgs false
set_option linter.unusedVariables false
/-- A valid node. -/
def nodeV (e : Exp) : Bool :=
  decide (1 ≤ e.kind ∧ e.kind ≤ 8) && bareV e &&
  (if e.kind = 1 then decide (1 ≤ e.type ∧ e.type ≤ 3) && okV e.n e.type && decide (0 ≤ e.n) else
   if e.kind = 3 then decide (0 ≤ e.pos ∧ e.pos ≤ 3) && nameV e.name else
   if e.kind = 6 then decide (0 ≤ e.pos ∧ e.pos ≤ 3) else
   if e.kind = 4 then decide (1 ≤ e.n ∧ e.n ≤ 12) else
   if e.kind = 8 then nameV e.sym && nameV e.name else true)
def validE (e : Exp) : Bool := decide (cntE e ≤ 24) && decide (dpE e ≤ 6) && allE nodeV e
theorem allE_args {p : Exp → Bool} {e : Exp} (h : allE p e = true) : p e = true ∧ ∀ a ∈ e.args, allE p a = true := by
  rw [allE_eq, Bool.and_eq_true, List.all_eq_true] at h
  exact h
theorem nodeV_args {e : Exp} (h : nodeV e = true) : e.args.length = arity e.kind := by
  simp only [nodeV, bareV, Bool.and_eq_true, decide_eq_true_eq] at h
  exact h.1.2.1.1.1.1.1
theorem nodeV_pos {e : Exp} (h : nodeV e = true) : 0 ≤ e.pos := by
  simp only [nodeV, bareV, Bool.and_eq_true, Bool.or_eq_true, decide_eq_true_eq] at h
  obtain ⟨⟨h1, ⟨⟨⟨⟨⟨h2, h3⟩, h4⟩, h5⟩, h6⟩, h7⟩⟩, h8⟩ := h
  rcases h3 with (h3 | h3) | h3
  · simp only [h3] at h8; simp at h8; exact h8.1.1
  · simp only [h3] at h8; simp at h8; exact h8.1
  · omega
def evK (sl : List Slo) (lit : Int) (ids : List Int) (e : Exp) (vs : List Int) : Int :=
  if e.kind = 1 then e.n else
  if e.kind = 2 then lit else
  if e.kind = 3 then slotValue sl (e.pos, e.name) else
  if e.kind = 4 then apV e.n (vs.getD 0 0) (vs.getD 1 0) else
  if e.kind = 5 then (if vs.getD 0 0 = 0 then vs.getD 2 0 else vs.getD 1 0) else
  if e.kind = 6 then (if e.pos < ids.length then ids.getD e.pos.toNat 0 else 0) else 0
mutual
def evE (sl : List Slo) (lit : Int) (ids : List Int) : Exp → Int
  | .mk k n p t s m a => evK sl lit ids (.mk k n p t s m a) (evEL sl lit ids a)
def evEL (sl : List Slo) (lit : Int) (ids : List Int) : List Exp → List Int
  | [] => []
  | e :: l => evE sl lit ids e :: evEL sl lit ids l
end
theorem evEL_eq (sl : List Slo) (lit : Int) (ids : List Int) (l : List Exp) : evEL sl lit ids l = l.map (evE sl lit ids) := by
  induction l with
  | nil => rfl
  | cons e l ih => simp [evEL, ih]
theorem evE_eq (sl : List Slo) (lit : Int) (ids : List Int) (e : Exp) : evE sl lit ids e = evK sl lit ids e (e.args.map (evE sl lit ids)) := by
  cases e; simp only [evE, evEL_eq]; rfl
def constN (e : Exp) : Bool := decide (e.kind = 1 ∨ e.kind = 4 ∨ e.kind = 5)
theorem shp_iff' (l : List UInt8) : shp l = true ↔ 0 < l.length ∧ (∀ h : 0 < l.length, letV l[0] = true) ∧ ∀ (j : Nat) (h : j < l.length), letV l[j] = true ∨ digV l[j] = true := by
  rw [shp_iff]
  constructor
  · rintro ⟨h1, h2⟩
    refine ⟨h1, fun h => ?_, fun j hj => ?_⟩
    · rcases h2 0 h with h3 | h3
      · exact h3
      · exact absurd rfl h3.1
    · rcases h2 j hj with h3 | h3
      · exact .inl h3
      · exact .inr h3.2
  · rintro ⟨h1, h2, h3⟩
    refine ⟨h1, fun j hj => ?_⟩
    by_cases h0 : j = 0
    · subst h0; exact .inl (h2 hj)
    · rcases h3 j hj with h4 | h4
      · exact .inl h4
      · exact .inr ⟨h0, h4⟩
theorem shp_no {l : List UInt8} {i : Nat} (h : i < l.length) (h1 : letV l[i] = false) (h2 : digV l[i] = false) : shp l = false := by
  cases hs : shp l with
  | false => rfl
  | true =>
    rcases ((shp_iff' l).1 hs).2.2 i h with h3 | h3
    · rw [h1] at h3; cases h3
    · rw [h2] at h3; cases h3
theorem shp_no0 {l : List UInt8} (h : 0 < l.length) (h1 : letV l[0] = false) : shp l = false := by
  cases hs : shp l with
  | false => rfl
  | true =>
    have := ((shp_iff' l).1 hs).2.1 h
    rw [h1] at this; cases this
theorem shp_yes {l : List UInt8} (h : 0 < l.length) (h1 : letV l[0] = true) (hn : ∀ (j : Nat) (h : j < l.length), letV l[j] = true ∨ digV l[j] = true) : shp l = true := (shp_iff' l).2 ⟨h, fun _ => h1, hn⟩
end Go.Gh
namespace Go.Gh
theorem Bor.clo {H : GH} {f : Nat} {gs gs' : List GV} (h : BorL H gs gs') : Bor H (.clo f gs) (.clo f gs') := fun w D Ω v hst hm => by
  simp only [MV] at hm ⊢
  obtain ⟨h0, vs, h1, h2⟩ := hm
  exact ⟨h0, vs, h1, h w D Ω vs hst h2⟩
theorem Bor.rop {H : GH} {sz : Nat} {g g' : GV} (h : Bor H g g') : Bor H (.rop sz g) (.rop sz g') := fun w D Ω v hst hm => by
  simp only [MV] at hm ⊢
  obtain ⟨h0, b, off, u, h1, h2, h3, h4, h5, h6⟩ := hm
  exact ⟨h0, b, off, u, h1, .inl h2, h3, h4, h5, h w D Ω u hst h6⟩
def hasI2 (l : List Int) (x : Int) : Int := ixOf (fun y => decide (y = x)) l
theorem constN_eq (e : Exp) : decide (0 ≤ ixOf (fun y => decide (y = e.kind)) [1, 4, 5]) = constN e := by
  rw [any_ix]
  simp only [constN, List.any_cons, List.any_nil, Bool.or_false]
  have h1 : decide ((1 : Int) = e.kind) = decide (e.kind = 1) := by simp [eq_comm]
  have h2 : decide ((4 : Int) = e.kind) = decide (e.kind = 4) := by simp [eq_comm]
  have h3 : decide ((5 : Int) = e.kind) = decide (e.kind = 5) := by simp [eq_comm]
  rw [h1, h2, h3]
  simp
theorem nameV_parts (s : ByteArray) : nameV s = (shp (chars s) && decide ((chars s).length ≤ 8) && !resV s) := rfl
end Go.Gh
namespace Go.Gh
theorem okV_rng {n t : Int} (h : okV n t = true) : 1 ≤ t ∧ t ≤ 4 := by
  simp only [okV, Bool.and_eq_true, decide_eq_true_eq] at h; exact h.1
theorem allE_no {p : Exp → Bool} {e : Exp} {i : Nat} (h : i < e.args.length) (hb : allE p e.args[i] = false) : allE p e = false := by
  rw [allE_eq]
  have : e.args.all (allE p) = false := by
    rw [List.all_eq_false]
    exact ⟨e.args[i], List.getElem_mem h, by simp [hb]⟩
  rw [this, Bool.and_false]
theorem allE_yes {p : Exp → Bool} {e : Exp} (h : ∀ a ∈ e.args, allE p a = true) : allE p e = p e := by
  rw [allE_eq, List.all_eq_true.2 h, Bool.and_true]
end Go.Gh
namespace Go.Gh
def cvB (e : Exp) : Bool := validE e && allE constN e
def cvV (e : Exp) : Int := if cvB e then evE [] 0 [] e else 0
end Go.Gh
namespace Go.Gh
theorem noS_eq : (ByteArray.mk #[]) = noS := rfl
end Go.Gh
namespace Go.Gh
theorem upd_nf (gs : List GV) (o : Nat) : upd (.agg gs) o (.val .nilFunc) = if o < gs.length then some (.agg (gs.set o (.val .nilFunc))) else none := rfl
theorem stor_nf : storable (.val .nilFunc) = true := by simp [storable, Value.cells, Value.oneCell']
theorem gs_clo (f : Nat) (cs : List GV) : gsize (.clo f cs) = 1 := rfl
theorem cells_nf : gsize (.val .nilFunc) = 1 := rfl
end Go.Gh

/- Grammars of one's own. -/
namespace Go.Gh
set_option linter.unusedSimpArgs false
set_option linter.unusedVariables false
set_option maxRecDepth 20000
abbrev SyO (x : Sym) : GV := .agg [T x.name, .osl 4 (x.atts.map At)]
mutual
def ExO : Exp → GV
  | .mk k n p t s m a => .agg [I k, I n, I p, I t, T s, T m, .osl 7 (ExOL a)]
def ExOL : List Exp → List GV
  | [] => []
  | e :: l => ExO e :: ExOL l
end
theorem ExOL_eq (l : List Exp) : ExOL l = l.map ExO := by
  induction l with
  | nil => rfl
  | cons e l ih => simp [ExOL, ih]
theorem ExO_eq (e : Exp) : ExO e = .agg [I e.kind, I e.n, I e.pos, I e.type, T e.sym, T e.name, .osl 7 (e.args.map ExO)] := by
  cases e; simp only [ExO, ExOL_eq]; rfl
abbrev QnO (x : Eqn) : GV := .agg [I x.pos, T x.name, I x.expr.kind, I x.expr.n, I x.expr.pos, I x.expr.type, T x.expr.sym, T x.expr.name, .osl 7 (x.expr.args.map ExO)]
abbrev CoO (x : Con) : GV := .agg [T x.sym, T x.name, I x.goal.kind, I x.goal.n, I x.goal.pos, I x.goal.type, T x.goal.sym, T x.goal.name, .osl 7 (x.goal.args.map ExO), I x.value.kind, I x.value.n, I x.value.pos, I x.value.type, T x.value.sym, T x.value.name, .osl 7 (x.value.args.map ExO)]
abbrev RuO (x : Rul) : GV := .agg [T x.name, T x.left, .osl 1 (x.right.map T), B x.lit, .osl 9 (x.eqs.map QnO), .osl 16 (x.cons.map CoO)]
theorem view_ExO : ∀ e : Exp, view (ExO e) = Ex e := by
  refine Exp.indA fun e ih => ?_
  rw [ExO_eq, Ex_eq]
  have : (e.args.map ExO).map view = e.args.map Ex := by
    rw [List.map_map]; exact List.map_congr_left fun a ha => ih a ha
  simp [view, viewL, viewL_eq, this]
theorem view_ExOs (l : List Exp) : (l.map ExO).map view = l.map Ex := by
  rw [List.map_map]; exact List.map_congr_left fun a _ => view_ExO a
theorem view_QnO (x : Eqn) : view (QnO x) = Qn x := by simp [view, viewL, viewL_eq, view_ExO]
theorem view_CoO (x : Con) : view (CoO x) = Co x := by simp [view, viewL, viewL_eq, view_ExO]
theorem view_SyO (x : Sym) : view (SyO x) = Sy x := by simp [view, viewL, viewL_eq]
theorem view_RuO (x : Rul) : view (RuO x) = Ru x := by
  have h1 : (x.eqs.map QnO).map view = x.eqs.map Qn := by rw [List.map_map]; exact List.map_congr_left fun a _ => view_QnO a
  have h2 : (x.cons.map CoO).map view = x.cons.map Co := by rw [List.map_map]; exact List.map_congr_left fun a _ => view_CoO a
  simp only [view, viewL, viewL_eq, h1, h2]
  simp [view]
/-- Own slices, seen as what nobody writes. -/
theorem Bor.seen {α : Type} {f g : α → GV} {H : GH} {r sz n : Nat} {l : List α} (hv : ∀ a, view (f a) = g a) (hr : hget H r = some (sz, l.map f)) (hl : l.length = n) : Bor H (.own r sz 0 n) (.sl sz (l.map g)) := by
  have := Bor.own (k := 0) (n := n) hr (by simp [hl])
  rw [List.drop_zero, List.take_of_length_le (by simp [hl]), viewL_eq, List.map_map] at this
  have e : l.map (view ∘ f) = l.map g := List.map_congr_left fun a _ => hv a
  rwa [e] at this
theorem bor_Gr {H : GH} {rs rr n m : Nat} {g : Gram} (h1 : hget H rs = some (2, g.syms.map SyO)) (h2 : hget H rr = some (6, g.rules.map RuO)) (hn : g.syms.length = n) (hm : g.rules.length = m) : Bor H (.agg [.own rs 2 0 n, .own rr 6 0 m]) (Gr g) :=
  .agg (.cons (Bor.seen view_SyO h1 hn) (.cons (Bor.seen view_RuO h2 hm) .nil))
theorem hget_appR {r : Nat} : ∀ {Rs H : GH}, r ∉ names Rs → hget (Rs ++ H) r = hget H r
  | [], _, _ => rfl
  | (q, x) :: Rs, H, h => by
    simp only [names, List.map_cons, List.mem_cons, not_or] at h
    simp only [List.cons_append, hget]
    rw [if_neg (fun e => h.1 e.symm)]
    exact hget_appR h.2
theorem hset_appR {r : Nat} {es : List GV} : ∀ {Rs H : GH}, r ∉ names Rs → hset (Rs ++ H) r es = Rs ++ hset H r es
  | [], _, _ => rfl
  | (q, sz, x) :: Rs, H, h => by
    simp only [names, List.map_cons, List.mem_cons, not_or] at h
    simp only [List.cons_append, hset]
    rw [if_neg (fun e => h.1 e.symm), hset_appR h.2]
section
variable {P : Program} {α : Type} {f : α → GV} {k kx sz : Nat} {ag : Bool}
/-- A slice copied, each element with a slice of its own. -/
theorem toSo1 (mxd : P.follows .mixedOrders = true) {bytes : Nat} {z : GV} (hF : IsFun P k ⟨⟨23, []⟩,
  (.seq (.reg [(.mk (some 2) none (.mov (.k (.val (.slice none 0 0)))))]) (.seq (.reg [(.mk (some 5) none (.mov (.t 0))), (.mk (some 6) none (.len (.t 5))), (.mk (some 7) none (.mkslice sz bytes z (.t 6) (.t 6))), (.mk (some 3) none (.mov (.t 7)))]) (.seq (.seq (.reg [(.mk (some 4) none (.mov (.k (.val (.int .i64 0)))))]) (.block 0 (.loop (.seq (.seq (.reg [(.mk (some 8)
  none (.mov (.t 4))), (.mk (some 9) none (.mov (.t 0))), (.mk (some 10) none (.len (.t 9))), (.mk (some 11) none (.bin .lss (.t 8) (.t 10)))]) (.cond 11 .skip (.exit 0))) (.seq (.block 1 (.reg [(.mk (some 14) none
  (.mov (.t 3))), (.mk (some 15) none (.mov (.t 4))), (.mk (some 16) none (.mov (.t 0))), (.mk (some 17) none (.mov (.t 4))), (.mk (some 18) none (.iaddr sz (.t 16) (.t 17))), (.mk (some 19) none (.load sz ag (.t 18))),
  (.mk (some 20) none (.call false kx [(.t 19)])), (.mk (some 21) none (.iaddr sz (.t 14) (.t 15))), (.mk none none (.store sz (.t 21) (.t 20)))])) (.reg [(.mk (some 12) none (.mov (.t 4))), (.mk (some 13) none (.bin .add
  (.t 12) (.k (.val (.int .i64 1))))), (.mk (some 4) none (.mov (.t 13)))])))))) (.seq (.reg [(.mk (some 22) none (.mov (.t 3))), (.mk (some 2) none (.mov (.t 22)))]) .ret)))), [.t 2]⟩)
    (hag : ∀ a, isAgg (f a) = ag) (hr : ∀ a, geR (some (f a)) = some (f a)) (j sz1 : Nat) (ks : α → List GV) (bs : α → Nat → List GV) (fO : α → List GV) (hbl : ∀ a r, (bs a r).length = sz) (hbj : ∀ a r, (bs a r)[j]? = some (.own r sz1 0 (ks a).length))
    (hO : ∀ a r, (bs a r).set j (.osl sz1 (ks a)) = fO a) (xs : List α) (hlen : xs.length ≤ 1048576) (hb : bytes ≤ 1024)
    (hx : ∀ a ∈ xs, ∀ H, GCalls P kx [f a] H (fun g H' => ∃ r, g = .agg (bs a r) ∧ H' = (r, sz1, ks a) :: H)) (H : GH) :
    GCalls P k [.sl sz (xs.map f)] H (fun g H' => ∃ r, g = .own r sz 0 xs.length ∧ H' = (r, sz, xs.map (fun a => .agg (fO a))) :: H) := by
  have hbb : (bytes : Int) * (xs.length : Int) ≤ 281474976710656 := by
    have h1 : bytes * xs.length ≤ 1073741824 := Nat.le_trans (Nat.mul_le_mul hb hlen) (by decide)
    have h2 : ((bytes * xs.length : Nat) : Int) ≤ 1073741824 := by omega
    rw [Int.natCast_mul] at h2
    omega
  refine gstart mxd hF rfl (by simp) ?_
  simp only [↓ S2, S2, ↓reduceIte, Nat.reduceEqDiff, reduceCtorEq, Nat.reduceLeDiff, Nat.reduceAdd, Nat.reduceLT, hr, hag]
  refine ⟨by omega, by omega, hbb, by omega, fun r hr' => ?_⟩
  refine wloop mxd (ι := { i : Nat // i ≤ xs.length }) (fun i => [(0, .sl sz (xs.map f)), (3, .own r sz 0 xs.length), (4, I i.1)]) (fun i => (r, sz, (xs.take i.1).map (fun a => .agg (fO a)) ++ List.replicate (xs.length - i.1) z) :: H) (fun i => xs.length - i.1) ⟨0, by simp⟩ (by simp [E2]) (by simp) ?_
  rintro ⟨i, hi⟩
  rcases Nat.lt_or_ge i xs.length with h | h
  · simp only [↓ S2, S2, ↓reduceIte, Nat.reduceEqDiff, reduceCtorEq, Nat.reduceLeDiff, Nat.reduceAdd, Nat.reduceLT, hr, hag, brGen]
    simp +contextual (disch := omega) only [Z2]
    refine ⟨fun _ => ?_, fun hh => absurd h hh⟩
    refine callS.of (hx xs[i] (List.getElem_mem _) _) ?_
    rintro g H' ⟨r1, rfl, rfl⟩ hn
    have hne : r1 ≠ r := ne_of_new hn hget_new
    simp only [↓ S2, S2, ↓reduceIte, Nat.reduceEqDiff, reduceCtorEq, Nat.reduceLeDiff, Nat.reduceAdd, Nat.reduceLT, hr, hag, hbl, hget_old hne, hset_old hne, stw]
    simp +contextual (disch := omega) only [Z2]
    refine ⟨h, by simp; omega, nxF ⟨i + 1, by omega⟩ (by simp; omega) (FE.close2 (j := j) hne (by simp; omega) (hbj _ _) rfl) (by simp [E2]) ?_⟩
    rw [hO]
    have e := fill_set xs (fun a => GV.agg (fO a)) z i h
    rw [← e]
  · have : i = xs.length := by omega
    subst this
    simp only [↓ S2, S2, ↓reduceIte, Nat.reduceEqDiff, reduceCtorEq, Nat.reduceLeDiff, Nat.reduceAdd, Nat.reduceLT, hr, hag, brGen]
    simp +contextual (disch := omega) only [Z2]
    exact ⟨fun hh => absurd hh (by omega), fun _ => ⟨r, rfl, by simp⟩⟩
/-- A slice copied, each element with slices of its own. -/
theorem toSoN (mxd : P.follows .mixedOrders = true) {bytes : Nat} {z : GV} (hF : IsFun P k ⟨⟨23, []⟩,
  (.seq (.reg [(.mk (some 2) none (.mov (.k (.val (.slice none 0 0)))))]) (.seq (.reg [(.mk (some 5) none (.mov (.t 0))), (.mk (some 6) none (.len (.t 5))), (.mk (some 7) none (.mkslice sz bytes z (.t 6) (.t 6))), (.mk (some 3) none (.mov (.t 7)))]) (.seq (.seq (.reg [(.mk (some 4) none (.mov (.k (.val (.int .i64 0)))))]) (.block 0 (.loop (.seq (.seq (.reg [(.mk (some 8)
  none (.mov (.t 4))), (.mk (some 9) none (.mov (.t 0))), (.mk (some 10) none (.len (.t 9))), (.mk (some 11) none (.bin .lss (.t 8) (.t 10)))]) (.cond 11 .skip (.exit 0))) (.seq (.block 1 (.reg [(.mk (some 14) none
  (.mov (.t 3))), (.mk (some 15) none (.mov (.t 4))), (.mk (some 16) none (.mov (.t 0))), (.mk (some 17) none (.mov (.t 4))), (.mk (some 18) none (.iaddr sz (.t 16) (.t 17))), (.mk (some 19) none (.load sz ag (.t 18))),
  (.mk (some 20) none (.call false kx [(.t 19)])), (.mk (some 21) none (.iaddr sz (.t 14) (.t 15))), (.mk none none (.store sz (.t 21) (.t 20)))])) (.reg [(.mk (some 12) none (.mov (.t 4))), (.mk (some 13) none (.bin .add
  (.t 12) (.k (.val (.int .i64 1))))), (.mk (some 4) none (.mov (.t 13)))])))))) (.seq (.reg [(.mk (some 22) none (.mov (.t 3))), (.mk (some 2) none (.mov (.t 22)))]) .ret)))), [.t 2]⟩)
    (hag : ∀ a, isAgg (f a) = ag) (hr : ∀ a, geR (some (f a)) = some (f a)) (R : α → List GV → GH → Prop) (fO : α → List GV) (hbl : ∀ a gs Rs, R a gs Rs → gs.length = sz)
    (hcl : ∀ a gs Rs, R a gs Rs → ∀ (env : Env) (r : Nat) (L : List GV) (i : Nat) (H : GH), (names (Rs ++ (r, sz, L) :: H)).Nodup → i < L.length → FE env (Rs ++ (r, sz, L.set i (.agg gs)) :: H) env ((r, sz, L.set i (.agg (fO a))) :: H))
    (xs : List α) (hlen : xs.length ≤ 1048576) (hb : bytes ≤ 1024)
    (hx : ∀ a ∈ xs, ∀ H, GCalls P kx [f a] H (fun g H' => ∃ gs Rs, R a gs Rs ∧ g = .agg gs ∧ H' = Rs ++ H)) (H : GH) :
    GCalls P k [.sl sz (xs.map f)] H (fun g H' => ∃ r, g = .own r sz 0 xs.length ∧ H' = (r, sz, xs.map (fun a => .agg (fO a))) :: H) := by
  have hbb : (bytes : Int) * (xs.length : Int) ≤ 281474976710656 := by
    have h1 : bytes * xs.length ≤ 1073741824 := Nat.le_trans (Nat.mul_le_mul hb hlen) (by decide)
    have h2 : ((bytes * xs.length : Nat) : Int) ≤ 1073741824 := by omega
    rw [Int.natCast_mul] at h2
    omega
  refine gstart mxd hF rfl (by simp) ?_
  simp only [↓ S2, S2, ↓reduceIte, Nat.reduceEqDiff, reduceCtorEq, Nat.reduceLeDiff, Nat.reduceAdd, Nat.reduceLT, hr, hag]
  refine ⟨by omega, by omega, hbb, by omega, fun r hr' => ?_⟩
  refine wloop mxd (ι := { i : Nat // i ≤ xs.length }) (fun i => [(0, .sl sz (xs.map f)), (3, .own r sz 0 xs.length), (4, I i.1)]) (fun i => (r, sz, (xs.take i.1).map (fun a => .agg (fO a)) ++ List.replicate (xs.length - i.1) z) :: H) (fun i => xs.length - i.1) ⟨0, by simp⟩ (by simp [E2]) (by simp) ?_
  rintro ⟨i, hi⟩
  rcases Nat.lt_or_ge i xs.length with h | h
  · simp only [↓ S2, S2, ↓reduceIte, Nat.reduceEqDiff, reduceCtorEq, Nat.reduceLeDiff, Nat.reduceAdd, Nat.reduceLT, hr, hag, brGen]
    simp +contextual (disch := omega) only [Z2]
    refine ⟨fun _ => ?_, fun hh => absurd h hh⟩
    refine callS.of (hx xs[i] (List.getElem_mem _) _) ?_
    rintro g H' ⟨gs, Rs, hR, rfl, rfl⟩ hn
    have hgl := hbl _ _ _ hR
    have hne : r ∉ names Rs := fun hin => by
      simp only [names, List.map_append, List.map_cons] at hn hin
      exact (List.nodup_append.1 hn).2.2 r hin r (by simp) rfl
    simp only [↓ S2, S2, ↓reduceIte, Nat.reduceEqDiff, reduceCtorEq, Nat.reduceLeDiff, Nat.reduceAdd, Nat.reduceLT, hr, hag, hgl, hget_appR hne, hset_appR hne, stw]
    simp +contextual (disch := omega) only [Z2]
    refine ⟨h, by simp; omega, nxF ⟨i + 1, by omega⟩ (by simp; omega) (hcl _ _ _ hR _ _ _ _ _ hn (by simp; omega)) (by simp [E2]) ?_⟩
    have e := fill_set xs (fun a => GV.agg (fO a)) z i h
    rw [← e]
  · have : i = xs.length := by omega
    subst this
    simp only [↓ S2, S2, ↓reduceIte, Nat.reduceEqDiff, reduceCtorEq, Nat.reduceLeDiff, Nat.reduceAdd, Nat.reduceLT, hr, hag, brGen]
    simp +contextual (disch := omega) only [Z2]
    exact ⟨fun hh => absurd hh (by omega), fun _ => ⟨r, rfl, by simp⟩⟩
end
theorem FR.perm {g : GV} {H L T : GH} (hs : subH H L) : FR g (H ++ T) g (L ++ T) := by
  intro w D Ω v hv hst
  obtain ⟨Ω', h1, h2⟩ := St.sub hst hs
  exact ⟨D, Ω', hv, h1, ⟨fun _ h => h, fun _ _ h => .inl h, fun b hb _ => h2 b hb, Kept.refl _ _, rfl, rfl, rfl⟩⟩
end Go.Gh

/- Trees cut out of trees. -/
namespace Go.Gh
/-- A node whose indices are moved. -/
def movN (b : Int) (x : Nod) : Nod := { x with parent := IntKind.i64.wrap (x.parent + b), kids := x.kids.map fun k => IntKind.i64.wrap (k + b) }
def ndZ : Nod := ⟨0, 0, 0, 0, noS, []⟩
def rootN (x : Nod) : Nod := { x with parent := -1, place := 0 }
/-- The node number k of the tree that is cut out at i. -/
def subK (t : List Nod) (i k : Nat) : Nod := if k = 0 then rootN (movN (0 - (i : Int)) (t.getD (i + k) ndZ)) else movN (0 - (i : Int)) (t.getD (i + k) ndZ)
def subT (t : List Nod) (i : Int) : List Nod := (List.range (treeSize t i).toNat).map (subK t i.toNat)
theorem subT_out {t : List Nod} {i : Int} (h : ¬ (0 ≤ i ∧ i < t.length)) : subT t i = [] := by simp [subT, treeSize, h]
theorem subT_in {t : List Nod} {i : Nat} (h : i < t.length) : subT t i = (List.range (subLen t i)).map (subK t i) := by
  have : (0 : Int) ≤ i ∧ (i : Int) < t.length := by omega
  simp [subT, treeSize, this]
theorem treeSize_in {t : List Nod} {i : Nat} (h : i < t.length) : treeSize t i = subLen t i := by
  have : (0 : Int) ≤ i ∧ (i : Int) < t.length := by omega
  simp [treeSize, this]
theorem range_step {α : Type} (f : Nat → α) (k : Nat) : ((List.range k).map f) ++ [f k] = (List.range (k + 1)).map f := by
  simp [List.range_succ]
/-- The last element's slice becomes the element's own. -/
theorem FE.closeL {env : Env} {H : GH} {r r1 sz sz1 j n : Nat} {L gs ks : List GV} (hne : r ≠ r1) (hr : hget H r = some (sz, L ++ [.agg gs])) (hg : gs[j]? = some (.own r1 sz1 0 n)) (hr1 : hget H r1 = some (sz1, ks)) (hn : ks.length = n) :
    FE env H env (hdel (hset H r (L ++ [.agg (gs.set j (.osl sz1 ks))])) r1) := by
  have := FE.close (env := env) (i := L.length) hne hr (by simp) hg hr1 hn
  simpa using this
end Go.Gh

/- What the laws' marks are: lists marked one element after the other; expressions; instances; grammars. -/
namespace Go.Gh
set_option linter.unusedSimpArgs false
set_option linter.unusedVariables false
section
variable {α : Type} (w : α → Nat) (m : α → Int → α)
/-- The marks that a list takes. -/
def smw : List α → Nat
  | [] => 0
  | a :: l => w a + smw l
/-- A list, marked from k on. -/
def smk : List α → Int → List α
  | [], _ => []
  | a :: l, k => m a k :: smk l (k + w a)
theorem smk_len : ∀ (l : List α) (k : Int), (smk w m l k).length = l.length
  | [], _ => rfl
  | a :: l, k => by simp [smk, smk_len l]
theorem smw_app : ∀ (l u : List α), smw w (l ++ u) = smw w l + smw w u
  | [], u => by simp [smw]
  | a :: l, u => by simp [smw, smw_app l u]; omega
theorem smk_snoc : ∀ (l : List α) (k : Int) (x : α), smk w m (l ++ [x]) k = smk w m l k ++ [m x (k + smw w l)]
  | [], k, x => by simp [smk, smw]
  | a :: l, k, x => by
    have := smk_snoc l (k + w a) x
    have e : k + (w a : Int) + (smw w l : Int) = k + ((w a + smw w l : Nat) : Int) := by omega
    simp [smk, smw, this, e]
theorem smw_step {l : List α} {i : Nat} (h : i < l.length) : smw w (l.take (i + 1)) = smw w (l.take i) + w l[i] := by
  rw [List.take_add_one, List.getElem?_eq_getElem h, smw_app]; simp [smw]
theorem smw_take (l : List α) (i : Nat) : smw w (l.take i) ≤ smw w l := by
  have := smw_app w (l.take i) (l.drop i)
  rw [List.take_append_drop] at this
  omega
theorem smk_step {l : List α} {i : Nat} {k : Int} (h : i < l.length) : smk w m (l.take (i + 1)) k = smk w m (l.take i) k ++ [m l[i] (k + smw w (l.take i))] := by
  rw [List.take_add_one, List.getElem?_eq_getElem h]; exact smk_snoc w m _ _ _
theorem smk_get : ∀ {l : List α} {k : Int} {i : Nat} (h : i < l.length), (smk w m l k)[i]? = some (m l[i] (k + smw w (l.take i)))
  | a :: l, k, 0, h => by simp [smk, smw]
  | a :: l, k, i + 1, h => by
    have := smk_get (l := l) (k := k + w a) (i := i) (by simpa using h)
    have e : k + (w a : Int) + (smw w (l.take i) : Int) = k + ((w a + smw w (l.take i) : Nat) : Int) := by omega
    simp [smk, smw, this, e]
theorem smk_getE {l : List α} {k : Int} {i : Nat} (h : i < l.length) (h' : i < (smk w m l k).length := by simpa [smk_len] using h) : (smk w m l k)[i] = m l[i] (k + smw w (l.take i)) := by
  have := smk_get w m (k := k) h
  rw [List.getElem?_eq_getElem h'] at this
  simpa using this
theorem smid_get {l : List α} {k : Int} {i : Nat} (h : i < l.length) (h' : i < (smk w m (l.take i) k ++ l.drop i).length) : (smk w m (l.take i) k ++ l.drop i)[i] = l[i] := by
  rw [List.getElem_append_right (by simp [smk_len]; omega)]
  have e : i + (i - (smk w m (l.take i) k).length) = i := by simp [smk_len]; omega
  simp only [List.getElem_drop, e]
theorem smid_set {l : List α} {k : Int} {i : Nat} (h : i < l.length) : (smk w m (l.take i) k ++ l.drop i).set i (m l[i] (k + smw w (l.take i))) = smk w m (l.take (i + 1)) k ++ l.drop (i + 1) := by
  rw [List.set_append_right _ _ (by simp [smk_len]; omega), smk_step w m h]
  have e : i - (smk w m (l.take i) k).length = 0 := by simp [smk_len]; omega
  rw [e, List.drop_eq_getElem_cons h, List.set_cons_zero, List.append_assoc]
  rfl
theorem smid_len {l : List α} {k : Int} {i : Nat} : (smk w m (l.take i) k ++ l.drop i).length = l.length := by
  simp [smk_len]; omega
theorem smw_len (hw : ∀ a, 1 ≤ w a) : ∀ l : List α, l.length ≤ smw w l
  | [] => by simp
  | a :: l => by have := hw a; have := smw_len hw l; simp only [smw, List.length_cons]; omega
theorem smw_mem : ∀ {l : List α} {a : α}, a ∈ l → w a ≤ smw w l
  | b :: l, a, h => by
    rcases List.mem_cons.1 h with rfl | h
    · simp only [smw]; omega
    · have := smw_mem h; simp only [smw]; omega
theorem smw_eq (l : List α) : smw w l = (l.map w).sum := by
  induction l with
  | nil => rfl
  | cons a l ih => simp [smw, ih]
theorem smw_sum {f : α → Nat} (c : Nat) : ∀ {l : List α}, (∀ a ∈ l, w a ≤ c * (1 + f a)) → smw w l ≤ c * wtS f l
  | [], _ => by simp [smw]
  | a :: l, h => by
    have h1 := h a (by simp)
    have h2 := smw_sum (f := f) (l := l) c (fun b hb => h b (by simp [hb]))
    simp only [wtS, List.length_cons, List.map_cons, List.sum_cons, smw] at h2 ⊢
    have e : c * (l.length + 1 + (f a + (l.map f).sum)) = c * (1 + f a) + c * (l.length + (l.map f).sum) := by
      rw [← Nat.mul_add]; congr 1; omega
    omega
end
section
variable {α : Type} {f : α → α}
theorem mapm_len {l : List α} {c : Nat} : ((l.take c).map f ++ l.drop c).length = l.length := by simp; omega
theorem mapm_get {l : List α} {c : Nat} (h : c < l.length) (h' : c < ((l.take c).map f ++ l.drop c).length) : ((l.take c).map f ++ l.drop c)[c] = l[c] := by
  rw [List.getElem_append_right (by simp; omega)]
  have e : c + (c - ((l.take c).map f).length) = c := by simp; omega
  simp only [List.getElem_drop, e]
theorem mapm_set {l : List α} {c : Nat} (h : c < l.length) : ((l.take c).map f ++ l.drop c).set c (f l[c]) = (l.take (c + 1)).map f ++ l.drop (c + 1) := by
  rw [List.set_append_right _ _ (by simp; omega)]
  have e : c - ((l.take c).map f).length = 0 := by simp; omega
  rw [e, List.drop_eq_getElem_cons h, List.set_cons_zero, List.take_add_one, List.getElem?_eq_getElem h, List.map_append, List.append_assoc]
  rfl
end
/-! ### A struct of one field, told as that field -/
theorem St.exchC {w : World} {D : Nat → Prop} {H : GH} {Ω : List Nat} (h : St w D H Ω) {r sz i : Nat} {es : List GV} {e e' : GV} (hr : hget H r = some (sz, es)) (he : es[i]? = some e) (hx : ∀ v F, MV w D e v F → ∃ v', v'.cells = v.cells ∧ MV w D e' v' F) : St w D (hset H r (es.set i e')) Ω := by
  obtain ⟨Ω1, F', Ω2, hΩ, hR, hput, _⟩ := HM.take h.hm hr
  obtain ⟨b, c, T, fz, F0, k1, k2, k3, k4, k5, k6, k7⟩ := hR.es_ne (fun e => by rw [e] at he; simp at he)
  obtain ⟨pre, v, post, A1, Ai, A2, m1, m2, m3, m4, m5, m6, m7⟩ := MF.split sz es _ F0 i _ k7 he
  obtain ⟨v', hc, hv'⟩ := hx _ _ m6
  have hmf := m7 w D (fun _ => True) e' v' Ai (Kept.refl _ _) (fun _ _ => trivial) (fun _ h => h) (fun _ _ => trivial) (by rw [hc]; exact m3) (by unfold okc at m4 ⊢; rw [hc]; exact m4) hv'
  rw [hc, ← m1, ← m5] at hmf
  have hRM : RM w D r sz (es.set i e') F' := .inl ⟨b, c, T, fz, F0, k1, k2, k3, by simpa using k4, by simpa using k5, k6, by simpa using hmf⟩
  have hfin := hput w D (fun _ => True) _ _ (Kept.refl _ _) (fun _ _ => trivial) (fun _ h => h) (fun _ _ => trivial) hRM
  rw [← hΩ] at hfin
  exact ⟨hfin, h.nd, by rw [names_hset]; exact h.nn, h.dj, h.ds⟩
theorem FE.exchC {env : Env} {H : GH} {r sz i : Nat} {es : List GV} {e e' : GV} (hr : hget H r = some (sz, es)) (he : es[i]? = some e) (hx : ∀ w D v F, MV w D e v F → ∃ v', v'.cells = v.cells ∧ MV w D e' v' F) : FE env H env (hset H r (es.set i e')) := by
  intro w0 D0 O0 N a w ⟨hdf, hsz, D, Ω, ρw, hi⟩
  exact ⟨hdf, hsz, D, Ω, ρw, hi.st' (hi.st.exchC hr he (hx w D)) (fun _ h => h)⟩
theorem MV.unagg {w : World} {D : Nat → Prop} {g : GV} : ∀ v F, MV w D (.agg [g]) v F → ∃ v', v'.cells = v.cells ∧ MV w D g v' F := fun v F h => by
  simp only [MV] at h
  obtain ⟨vs, rfl, h1, h2⟩ := h
  simp only [ML] at h2
  obtain ⟨u, vs', F1, F2, rfl, rfl, h3, rfl, rfl⟩ := h2
  have ho := h1 u (by simp)
  refine ⟨u, ?_, by simpa using h3⟩
  cases u <;> first | rfl | (simp [Value.oneCell'] at ho)
theorem FE.unagg {env : Env} {H : GH} {r sz : Nat} {g : GV} (hr : hget H r = some (sz, [.agg [g]])) : FE env H env (hset H r [g]) :=
  FE.exchC (i := 0) hr rfl (fun _ _ => MV.unagg)
/-- nil in a variable of a struct of one field, seen as a slice of one's own with nothing in it. -/
theorem FE.virtU {env : Env} {H : GH} {r r1 sz sz1 : Nat} (hr : hget H r = some (sz, [.agg [.val (.slice none 0 0)]])) (ho : r1 % 2 = 1) (hn : r1 ∉ names H) :
    FE env H env ((r1, sz1, []) :: hset H r [.own r1 sz1 0 0]) := by
  have h1 : FE env H env ((r1, sz1, []) :: hset H r [.agg [.own r1 sz1 0 0]]) := FE.virtF (i := 0) (j := 0) hr rfl rfl ho hn
  have hne : r1 ≠ r := fun e => hn (e ▸ mem_of_hget hr)
  have h2 := FE.unagg (env := env) (H := (r1, sz1, []) :: hset H r [.agg [.own r1 sz1 0 0]]) (r := r) (by rw [hget_old hne, hget_set hr])
  rw [hset_old hne, hset_set] at h2
  exact FE.trans h1 h2
/-! ### Trees cut out -/
theorem mkEnd_drop (k : Int) (t : List Nod) (i : Nat) : mkEnd k (t.drop i) ≤ mkEnd k t := by
  have e := mkEnd_eq k t
  have e2 := mkEnd_eq k (t.drop i)
  have h1 : ((t.drop i).map (·.kids.length)).sum ≤ (t.map (·.kids.length)).sum := by
    have := congrArg (fun l : List Nod => (l.map (·.kids.length)).sum) (List.take_append_drop i t)
    simp only [List.map_append, List.sum_append] at this
    omega
  have h2 : (t.drop i).length ≤ t.length := by simp
  omega
theorem mkEnd_congr {k : Int} : ∀ {t u : List Nod}, t.map (·.kids.length) = u.map (·.kids.length) → mkEnd k t = mkEnd k u := by
  intro t u h
  have hl := congrArg List.length h
  simp only [List.length_map] at hl
  rw [mkEnd_eq, mkEnd_eq, h, hl]
theorem subT_kids (t : List Nod) (i : Nat) (h : i < t.length) : (subT t i).map (·.kids.length) = ((t.drop i).take (subLen t i)).map (·.kids.length) := by
  have hle := subLen_le h
  rw [subT_in h]
  apply List.ext_getElem
  · simp; omega
  · intro k h1 h2
    simp only [List.length_map, List.length_range] at h1
    simp only [List.getElem_map, List.getElem_range, List.getElem_take, List.getElem_drop, subK]
    have e : t.getD (i + k) ndZ = t[i + k] := getD_lt (by omega)
    rw [e]; split <;> simp [movN, rootN]
theorem mkEnd_subT (t : List Nod) (i : Int) : mkEnd 1 (subT t i) ≤ mkEnd 1 t := by
  by_cases hi : 0 ≤ i ∧ i < t.length
  · obtain ⟨i, rfl⟩ : ∃ k : Nat, i = k := ⟨i.toNat, by omega⟩
    have hi' : i < t.length := by omega
    rw [mkEnd_congr (subT_kids t i hi')]
    exact Int.le_trans (mkEnd_take _) (mkEnd_drop _ _ _)
  · rw [subT_out hi]; exact mkEnd_le 1 t
theorem subT_len (t : List Nod) (i : Int) : (subT t i).length ≤ t.length := by
  by_cases hi : 0 ≤ i ∧ i < t.length
  · obtain ⟨i, rfl⟩ : ∃ k : Nat, i = k := ⟨i.toNat, by omega⟩
    have hi' : i < t.length := by omega
    have hle := subLen_le hi'
    rw [subT_in hi']; simp; omega
  · rw [subT_out hi]; simp
/-- Put back, whatever lies behind. -/
theorem FE.closeT {env : Env} {T : GH} {r r2 sz sz2 i j n : Nat} {L gs ks : List GV} (hne : r2 ≠ r) (hr : hget T r = some (sz, L.set i (.agg gs))) (hi : i < L.length) (hg : gs[j]? = some (.own r2 sz2 0 n)) (hn : ks.length = n) :
    FE env ((r2, sz2, ks) :: T) env (hset T r (L.set i (.agg (gs.set j (.osl sz2 ks))))) := by
  have := FE.close (env := env) (H := (r2, sz2, ks) :: T) (r := r) (r1 := r2) (i := i) (j := j) (Ne.symm hne) (by rw [hget_old hne]; exact hr) (List.getElem?_set_self hi) hg hget_new hn
  rwa [hset_old hne, hdel_new, List.set_set] at this
/-! ### Strings, instances, attributes, symbols -/
abbrev wS (_ : ByteArray) : Nat := 1
abbrev mkTx (_ : ByteArray) (k : Int) : ByteArray := mtext k
abbrev wI (_ : Int × ByteArray) : Nat := 2
abbrev mkI (_ : Int × ByteArray) (k : Int) : Int × ByteArray := (k, mtext (k + 1))
abbrev wA (_ : Att) : Nat := 4
abbrev mkA (_ : Att) (k : Int) : Att := ⟨mtext k, k + 1, k + 1 + 1, decide ((k + 1 + 1 + 1).tmod 3 = 0)⟩
abbrev wSym (x : Sym) : Nat := 1 + smw wA x.atts
abbrev mkSym (x : Sym) (k : Int) : Sym := ⟨mtext k, smk wA mkA x.atts (k + 1)⟩
/-! ### Expressions -/
mutual
def ctE : Exp → Nat
  | .mk _ _ _ _ _ _ a => 6 + ctEL a
def ctEL : List Exp → Nat
  | [] => 0
  | e :: l => ctE e + ctEL l
end
theorem ctEL_eq (l : List Exp) : ctEL l = smw ctE l := by
  induction l with
  | nil => rfl
  | cons e l ih => simp [ctEL, smw, ih]
theorem ctE_eq (e : Exp) : ctE e = 6 + smw ctE e.args := by
  cases e; simp only [ctE, ctEL_eq]; rfl
mutual
def mkE : Exp → Int → Exp
  | .mk _ _ _ _ _ _ a, k => .mk k (k + 1) (k + 1 + 1) (k + 1 + 1 + 1) (mtext (k + 1 + 1 + 1 + 1)) (mtext (k + 1 + 1 + 1 + 1 + 1)) (mkEL a (k + 1 + 1 + 1 + 1 + 1 + 1))
def mkEL : List Exp → Int → List Exp
  | [], _ => []
  | e :: l, k => mkE e k :: mkEL l (k + ctE e)
end
theorem mkEL_eq : ∀ (l : List Exp) (k : Int), mkEL l k = smk ctE mkE l k
  | [], _ => rfl
  | e :: l, k => by simp [mkEL, smk, mkEL_eq l]
theorem mkE_eq (e : Exp) (k : Int) : mkE e k = .mk k (k + 1) (k + 1 + 1) (k + 1 + 1 + 1) (mtext (k + 1 + 1 + 1 + 1)) (mtext (k + 1 + 1 + 1 + 1 + 1)) (smk ctE mkE e.args (k + 1 + 1 + 1 + 1 + 1 + 1)) := by
  cases e; simp only [mkE, mkEL_eq]; rfl
theorem ctE_le : ∀ e : Exp, ctE e ≤ 6 * (1 + wEx e) := by
  refine Exp.indA fun e ih => ?_
  have h := smw_sum ctE (f := wEx) 6 ih
  rw [ctE_eq, wEx_eq]
  omega
abbrev wQ (x : Eqn) : Nat := 2 + ctE x.expr
abbrev mkQ (x : Eqn) (k : Int) : Eqn := ⟨k, mtext (k + 1), mkE x.expr (k + 1 + 1)⟩
abbrev wC (x : Con) : Nat := 2 + ctE x.goal + ctE x.value
abbrev mkC (x : Con) (k : Int) : Con := ⟨mtext k, mtext (k + 1), mkE x.goal (k + 1 + 1), mkE x.value (k + 1 + 1 + 1 + 1 + 1 + 1 + 1 + 1 + smw ctE x.goal.args)⟩
abbrev wR (x : Rul) : Nat := 3 + smw wS x.right + smw wQ x.eqs + smw wC x.cons
abbrev mkR (x : Rul) (k : Int) : Rul := ⟨mtext k, mtext (k + 1), smk wS mkTx x.right (k + 1 + 1), decide ((k + 1 + 1 + smw wS x.right).tmod 3 = 0), smk wQ mkQ x.eqs (k + 1 + 1 + smw wS x.right + 1), smk wC mkC x.cons (k + 1 + 1 + smw wS x.right + 1 + smw wQ x.eqs)⟩
theorem smw_wS (l : List ByteArray) : smw wS l = l.length := by
  induction l with
  | nil => rfl
  | cons e l ih => simp [smw, wS, ih]; omega
end Go.Gh

/- A subtree of a tree replaced. -/
namespace Go.Gh
set_option linter.unusedSimpArgs false
set_option linter.unusedVariables false
/-- Names that differ, as rewriting takes them. -/
theorem neN (r : Nat) (x : Nat × List GV) (H : GH) : (names ((r, x) :: H)).Nodup = (neA r H ∧ (names H).Nodup) := by
  apply propext
  constructor
  · intro h
    have h2 := h
    simp only [names, List.map_cons, List.nodup_cons] at h2
    exact ⟨neA_of h2.1, h2.2⟩
  · rintro ⟨h1, h2⟩
    simp only [names, List.map_cons, List.nodup_cons]
    refine ⟨?_, h2⟩
    clear h2
    induction H with
    | nil => simp
    | cons y H ih =>
      obtain ⟨q, y⟩ := y
      simp only [neA_cons] at h1
      simp only [List.map_cons, List.mem_cons, not_or]
      exact ⟨h1.1, ih h1.2.2⟩
/-- The last element of the region at the heap's head closed: its slice becomes its own. -/
theorem FE.closeL2 {env : Env} {H : GH} {r r1 sz sz1 j n : Nat} {L gs ks : List GV} (hne : ¬ r = r1) (hg : gs[j]? = some (.own r1 sz1 0 n)) (hn : ks.length = n) :
    FE env ((r, sz, L ++ [.agg gs]) :: (r1, sz1, ks) :: H) env ((r, sz, L ++ [.agg (gs.set j (.osl sz1 ks))]) :: H) := by
  have h := FE.closeL (env := env) (H := (r, sz, L ++ [.agg gs]) :: (r1, sz1, ks) :: H) (r := r) (r1 := r1) hne hget_new hg (by rw [hget_old hne, hget_new]) hn
  rwa [hset_new, hdel_old hne, hdel_new] at h
/-- nil in a variable of a struct of one field (the variable at the heap's head), seen as a slice of one's own with nothing in it. -/
theorem FE.virtU1 {env : Env} {H : GH} {r r1 sz sz1 : Nat} (ho : r1 % 2 = 1) (hn : r1 ∉ names ((r, sz, [.agg [.val (.slice none 0 0)]]) :: H)) :
    FE env ((r, sz, [.agg [.val (.slice none 0 0)]]) :: H) env ((r1, sz1, []) :: (r, sz, [.own r1 sz1 0 0]) :: H) := by
  have h := FE.virtU (env := env) (H := (r, sz, [.agg [.val (.slice none 0 0)]]) :: H) (r := r) (r1 := r1) (sz1 := sz1) hget_new ho hn
  rwa [hset_new] at h
theorem wrap_w (a b : Int) : IntKind.i64.wrap (IntKind.i64.wrap a + b) = IntKind.i64.wrap (a + b) := by
  simp only [IntKind.wrap, IntKind.bits, IntKind.signed]
  simp
  try omega
theorem get_mid (st : List GV) (X : GV) (L : List GV) (h : st.length < (st ++ X :: L).length) : (st ++ X :: L)[st.length] = X := by
  simp
theorem set_mid (st : List GV) (X Y : GV) (L : List GV) : (st ++ X :: L).set st.length Y = st ++ Y :: L := by
  simp
theorem Bor.ptr {H : GH} {r sz : Nat} {g : GV} (hr : hget H r = some (sz, [g])) : Bor H (.ptr r sz 0 0) (.rop sz (view g)) := fun w D Ω v h hv => by
  obtain ⟨F, hF, hFΩ⟩ := h.hm.mem hr
  simp only [MV] at hv ⊢
  obtain ⟨_, b, rfl, hb, rfl⟩ := hv
  rcases hF with ⟨b', c, T, fz, F', k1, k2, k3, k4, k5, k6, k7⟩ | ⟨k1, _, _⟩
  · have : b' = b := by omega
    subst this
    simp only [MF] at k7
    obtain ⟨u, cs', F1, F2, e1, e2, e3, rfl, e5, rfl, rfl⟩ := k7
    refine ⟨trivial, b', 0, u, by simp, .inr (hFΩ _ (by simp [k6])), ⟨c, T, fz, k2, fun j x hj => ?_⟩, e3, e2, MV.view (fun _ => .inl) g u F1 (fun x hx => .inr (hFΩ x (by simp [k6, hx]))) e5⟩
    have e1' : c.toList.take (1 * sz) = u.cells.toList := by simpa using e1
    have h2 : (c.toList.take (1 * sz))[j]? = some x := by rw [e1']; exact hj
    rw [List.getElem?_take] at h2
    split at h2
    · simpa using h2
    · cases h2
  · omega
/-- A variable that nobody writes any more. -/
theorem FE.ropV {env : Env} {H : GH} {r sz j : Nat} {g : GV} (hj : eget env j = some (.ptr r sz 0 0)) (hr : hget H r = some (sz, [g])) : FE env H (eset env j (.rop sz (view g))) (hdel H r) := by
  intro w0 D0 O0 N a w ⟨hdf, hsz, D, Ω, ρw, hi⟩
  obtain ⟨F, Ω', h1, h2, h3, h4⟩ := take_one hi.st hr
  refine ⟨hdf, hsz, fun b => D b ∨ b ∈ F, Ω', ρw, fun i x hg hne => ?_, fun i n hg => ?_, hi.ri, fun i b hb => ?_, h2, hi.ev.trans ⟨fun _ h => .inl h, fun b hb hD => hD.elim .inl fun h => .inr (h3 b h), fun b hb _ => h4 b hb, Kept.refl _ _, rfl, rfl, rfl⟩⟩
  · rw [eget_eset] at hg
    split at hg
    · rename_i e
      subst e
      simp only [Option.some.injEq] at hg
      subst hg
      obtain ⟨v, m1, m2⟩ := hi.em j _ hj (fun n e => by cases e)
      exact ⟨v, m1, Bor.ptr (H := [(r, sz, [g])]) hget_new w D F v h1 m2⟩
    · obtain ⟨v, m1, m2⟩ := hi.em i x hg hne
      exact ⟨v, m1, m2.more fun _ => .inl⟩
  · rw [eget_eset] at hg
    split at hg
    · cases hg
    · exact hi.rw i n hg
  · obtain ⟨r1, r2, r3, r4⟩ := hi.rd i b hb
    exact ⟨fun hD => hD.elim r1 fun h => r2 (h3 b h), fun h => r2 (h4 b h), r3, r4⟩
theorem FE.ropV1 {env : Env} {H : GH} {r sz : Nat} {g g' : GV} (j : Nat) (hj : eget env j = some (.ptr r sz 0 0)) (hv : view g = g') : FE env ((r, sz, [g]) :: H) (eset env j (.rop sz g')) H := by
  subst hv
  have h := FE.ropV (H := (r, sz, [g]) :: H) hj hget_new
  rwa [hdel_new] at h
/-- An index behind what is replaced. -/
def shK (e b k : Int) : Int := if e ≤ k then IntKind.i64.wrap (k + b) else k
/-- A node outside of what is replaced. -/
def outN (e b : Int) (x : Nod) : Nod := { x with parent := shK e b x.parent, kids := x.kids.map (shK e b) }
/-- The node number k of what is put in for the node n at i. -/
def putK (sub : List Nod) (n : Nod) (i : Int) (k : Nat) : Nod := if k = 0 then { movN i (sub.getD k ndZ) with parent := n.parent, place := n.place } else movN i (sub.getD k ndZ)
def putT (sub : List Nod) (n : Nod) (i : Int) : List Nod := (List.range sub.length).map (putK sub n i)
/-- The tree in which the subtree at i is replaced. -/
def repT (t : List Nod) (i : Int) (sub : List Nod) : List Nod :=
  if 0 ≤ i ∧ i < t.length ∧ sub ≠ [] then
    (t.take i.toNat).map (outN (i + subLen t i.toNat) (sub.length - subLen t i.toNat)) ++ (putT sub (t.getD i.toNat ndZ) i ++ (t.drop (i.toNat + subLen t i.toNat)).map (outN (i + subLen t i.toNat) (sub.length - subLen t i.toNat)))
  else t
/-- What has been written when k nodes have been gone through. -/
def repP (t : List Nod) (i n : Nat) (sub : List Nod) (F : Nod → Nod) (x : Nod) (k : Nat) : List Nod :=
  if k ≤ i then (t.take k).map F else (t.take i).map F ++ (putT sub x i ++ ((t.drop (i + n)).take (k - (i + n))).map F)
theorem putT_len (sub : List Nod) (n : Nod) (i : Int) : (putT sub n i).length = sub.length := by simp [putT]
theorem repP_lo {t : List Nod} {i n : Nat} {sub : List Nod} {F : Nod → Nod} {x : Nod} {k : Nat} (h : k < i) (hk : k < t.length) : repP t i n sub F x (k + 1) = repP t i n sub F x k ++ [F t[k]] := by
  simp only [repP, if_pos (show k + 1 ≤ i by omega), if_pos (show k ≤ i by omega)]
  rw [List.take_add_one, List.getElem?_eq_getElem hk, List.map_append]; rfl
theorem repP_at {t : List Nod} {i n : Nat} {sub : List Nod} {F : Nod → Nod} {x : Nod} (hn : 0 < n) : repP t i n sub F x (i + 1) = repP t i n sub F x i ++ putT sub x i := by
  simp only [repP, if_neg (show ¬ i + 1 ≤ i by omega), if_pos (Nat.le_refl i)]
  rw [show i + 1 - (i + n) = 0 by omega]; simp
theorem repP_in {t : List Nod} {i n : Nat} {sub : List Nod} {F : Nod → Nod} {x : Nod} {k : Nat} (h : i < k) (h2 : k < i + n) : repP t i n sub F x (k + 1) = repP t i n sub F x k := by
  simp only [repP, if_neg (show ¬ k + 1 ≤ i by omega), if_neg (show ¬ k ≤ i by omega)]
  rw [show k + 1 - (i + n) = 0 by omega, show k - (i + n) = 0 by omega]
theorem repP_hi {t : List Nod} {i n : Nat} {sub : List Nod} {F : Nod → Nod} {x : Nod} {k : Nat} (hn : 0 < n) (h : i + n ≤ k) (hk : k < t.length) : repP t i n sub F x (k + 1) = repP t i n sub F x k ++ [F t[k]] := by
  simp only [repP, if_neg (show ¬ k + 1 ≤ i by omega), if_neg (show ¬ k ≤ i by omega)]
  have hd : k - (i + n) < (t.drop (i + n)).length := by simp; omega
  have e : i + n + (k - (i + n)) = k := by omega
  rw [show k + 1 - (i + n) = k - (i + n) + 1 by omega, List.take_add_one, List.getElem?_eq_getElem hd, List.map_append, List.getElem_drop]
  simp only [e, List.append_assoc]
  rfl
theorem repP_end {t : List Nod} {i n : Nat} {sub : List Nod} {F : Nod → Nod} {x : Nod} (hn : 0 < n) (h : i + n ≤ t.length) : repP t i n sub F x t.length = (t.take i).map F ++ (putT sub x i ++ (t.drop (i + n)).map F) := by
  simp only [repP, if_neg (show ¬ t.length ≤ i by omega)]
  rw [List.take_of_length_le (l := t.drop (i + n)) (by simp)]
theorem repP_len (t : List Nod) (i n : Nat) (sub : List Nod) (F : Nod → Nod) (x : Nod) (k : Nat) : (repP t i n sub F x k).length ≤ t.length + sub.length + t.length := by
  unfold repP
  split
  · simp; omega
  · simp [putT_len]; omega
theorem repT_len (t : List Nod) (i : Int) (sub : List Nod) : (repT t i sub).length ≤ t.length + sub.length := by
  unfold repT
  split
  · simp [putT_len]; omega
  · omega
theorem take_snocM {α β : Type} (f : α → β) {l : List α} {k : Nat} (h : k < l.length) : (l.take k).map f ++ [f l[k]] = (l.take (k + 1)).map f := by
  rw [List.take_add_one, List.getElem?_eq_getElem h, List.map_append]; rfl
theorem putT_take {sub : List Nod} {n : Nod} {i : Int} {k : Nat} (h : k < sub.length) : (putT sub n i).take k ++ [putK sub n i k] = (putT sub n i).take (k + 1) := by
  have hl : k < (putT sub n i).length := by rw [putT_len]; exact h
  rw [List.take_add_one, List.getElem?_eq_getElem hl]
  simp [putT]
theorem putT_kids (sub : List Nod) (n : Nod) (i : Int) : (putT sub n i).map (·.kids.length) = sub.map (·.kids.length) := by
  apply List.ext_getElem
  · simp [putT_len]
  · intro k h1 h2
    have hk : k < sub.length := by simpa using h2
    simp only [putT, List.getElem_map, List.getElem_range, putK]
    rw [getD_lt hk]
    split <;> simp [movN]
theorem outN_kids (e b : Int) (l : List Nod) : (l.map (outN e b)).map (·.kids.length) = l.map (·.kids.length) := by
  rw [List.map_map]; exact List.map_congr_left fun x _ => by simp [outN]
theorem kids_part (t : List Nod) (i n : Nat) : ((t.take i).map (·.kids.length)).sum + ((t.drop (i + n)).map (·.kids.length)).sum ≤ (t.map (·.kids.length)).sum := by
  have e1 := congrArg (fun l : List Nod => (l.map (·.kids.length)).sum) (List.take_append_drop i t)
  have e2 := congrArg (fun l : List Nod => (l.map (·.kids.length)).sum) (List.take_append_drop n (t.drop i))
  simp only [List.map_append, List.sum_append, List.drop_drop] at e1 e2
  omega
theorem repT_kids (t : List Nod) (i : Int) (sub : List Nod) : ((repT t i sub).map (·.kids.length)).sum ≤ (t.map (·.kids.length)).sum + (sub.map (·.kids.length)).sum := by
  unfold repT
  split
  · rw [List.map_append, List.map_append, outN_kids, outN_kids, putT_kids, List.sum_append, List.sum_append]
    have := kids_part t i.toNat (subLen t i.toNat)
    omega
  · omega
theorem mkEnd_from (k : Int) (t : List Nod) : mkEnd k t = k - 1 + mkEnd 1 t := by
  rw [mkEnd_eq, mkEnd_eq]; omega
theorem mkEnd_repT (t : List Nod) (i : Int) (sub : List Nod) : mkEnd 1 (repT t i sub) ≤ mkEnd 1 t + mkEnd 1 sub := by
  have h1 := repT_kids t i sub
  have h2 := repT_len t i sub
  rw [mkEnd_eq, mkEnd_eq, mkEnd_eq]
  omega
end Go.Gh

/- Instances of a tree: all of them. -/
namespace Go.Gh
set_option linter.unusedSimpArgs false
set_option linter.unusedVariables false
/-- The instances of one node. -/
def insK (g : Gram) (t : List Nod) (i : Nat) : List (Int × ByteArray) := (fSym g.syms (symN g t i)).atts.map fun a => ((t.getD i nodZ).id, a.name)
def insA (g : Gram) (t : List Nod) : Nat → List (Int × ByteArray)
  | 0 => []
  | n + 1 => insA g t n ++ insK g t n
def insL (g : Gram) (t : List Nod) : List (Int × ByteArray) := if treeOf g t (symN g t 0) = true then insA g t t.length else []
theorem insA_len {g : Gram} (hg : smGr g) (t : List Nod) : ∀ n, (insA g t n).length ≤ n * 1048576
  | 0 => by simp [insA]
  | n + 1 => by
    have h1 := insA_len hg t n
    have h2 : (fSym g.syms (symN g t n)).atts.length ≤ 1048576 := smSy_f hg _
    simp only [insA, insK, List.length_append, List.length_map]
    omega
theorem treeOf_len {g : Gram} {t : List Nod} {s : ByteArray} (h : treeOf g t s = true) : 1 ≤ t.length ∧ t.length ≤ 16 := by
  simp only [treeOf, Bool.and_eq_true, decide_eq_true_eq] at h
  exact h.1
theorem insL_len {g : Gram} (hg : smGr g) (t : List Nod) : (insL g t).length ≤ 16777216 := by
  unfold insL
  split
  · rename_i h
    have h1 := treeOf_len h
    have h2 := insA_len hg t t.length
    omega
  · simp
theorem takeApp3 {α : Type} (f : α → GV) (p l : List α) (i : Nat) (h : i < l.length) (n : Nat) (hn : (p ++ l.take i).length = n) : List.take n (List.map f (p ++ List.take i l)) ++ [f l[i]] = List.map f (p ++ List.take (i + 1) l) := by
  rw [List.take_of_length_le (by simp at hn ⊢; omega), List.take_add_one (i := i) (l := l), List.getElem?_eq_getElem h, List.map_append, List.map_append, List.map_append, List.append_assoc]
  rfl
/-! ### The marks that a grammar takes are few -/
theorem wSym_le (x : Sym) : wSym x ≤ 14 * (1 + wSy x) := by
  have h := smw_sum wA (f := wAt) (l := x.atts) 14 (fun a _ => by simp only [wA]; omega)
  simp only [wSym, wSy]
  omega
theorem wR_le (x : Rul) : wR x ≤ 14 * (1 + wRu x) := by
  have h1 := smw_sum wS (f := wT) (l := x.right) 14 (fun a _ => by simp only [wS]; omega)
  have h2 := smw_sum wQ (f := wEq) (l := x.eqs) 14 (fun a _ => by have := ctE_le a.expr; simp only [wQ, wEq]; omega)
  have h3 := smw_sum wC (f := wCo) (l := x.cons) 14 (fun a _ => by have := ctE_le a.goal; have := ctE_le a.value; simp only [wC, wCo]; omega)
  simp only [wR, wRu]
  omega
theorem ctGr (g : Gram) : smw wSym g.syms + smw wR g.rules ≤ 14 * wGr g := by
  have h1 := smw_sum wSym (f := wSy) (l := g.syms) 14 (fun a _ => wSym_le a)
  have h2 := smw_sum wR (f := wRu) (l := g.rules) 14 (fun a _ => wR_le a)
  simp only [wGr]
  omega
theorem bor_Ins {H : GH} {r n : Nat} {l : List (Int × ByteArray)} (hr : hget H r = some (2, l.map Ins)) (hn : l.length = n) : Bor H (.own r 2 0 n) (InsS l) := Bor.allM (fun _ => rfl) hr hn
theorem smw_const {α : Type} (c : Nat) (l : List α) : smw (fun _ => c) l = c * l.length := by
  induction l with
  | nil => rfl
  | cons a l ih => simp only [smw, ih, List.length_cons, Nat.mul_add]; omega
theorem smw_wI (l : List (Int × ByteArray)) : smw wI l = 2 * l.length := smw_const 2 l
end Go.Gh

/- Definitions of instances. -/
namespace Go.Gh
set_option linter.unusedSimpArgs false
set_option linter.unusedVariables false
def expZ : Exp := .mk 0 0 0 0 noS noS []
def eqnF (r : Rul) (o : Int × ByteArray) : Option Eqn := r.eqs.find? fun q => decide (q.pos = o.1 ∧ q.name = o.2)
def eqnE (r : Rul) (o : Int × ByteArray) : Exp := ((eqnF r o).map (·.expr)).getD expZ
theorem eqnE_small {r : Rul} (hr : smRu r) (o : Int × ByteArray) : wEx (eqnE r o) ≤ 1048576 := by
  unfold eqnE eqnF
  cases h : r.eqs.find? fun q => decide (q.pos = o.1 ∧ q.name = o.2) with
  | none => simp [expZ, wEx, wExL, noS, chars]
  | some q => exact hr.2.2.2.1 q (List.mem_of_find?_eq_some h)
/-- Who defines an instance. -/
def ownN (g : Gram) (t : List Nod) (x : Int × ByteArray) : Int × Int :=
  if (attN g t x.1 x.2).mode = 1 then ((t.getD (ixOf (fun y => decide (y.id = x.1)) t).toNat nodZ).parent, (t.getD (ixOf (fun y => decide (y.id = x.1)) t).toNat nodZ).place) else (ixOf (fun y => decide (y.id = x.1)) t, 0)
def defB (g : Gram) (t : List Nod) (x : Int × ByteArray) : Bool :=
  hasN g t x.1 x.2 && (!decide ((attN g t x.1 x.2).mode = 3) && (decide (0 ≤ (ownN g t x).1 ∧ (ownN g t x).1 < t.length) && (eqnF (fRul g.rules (t.getD (ownN g t x).1.toNat nodZ).rule) ((ownN g t x).2, x.2)).isSome))
def defO (g : Gram) (t : List Nod) (x : Int × ByteArray) : Int := if defB g t x = true then (ownN g t x).1 else 0
def defE (g : Gram) (t : List Nod) (x : Int × ByteArray) : Exp := if defB g t x = true then eqnE (fRul g.rules (t.getD (ownN g t x).1.toNat nodZ).rule) ((ownN g t x).2, x.2) else expZ
theorem defE_small {g : Gram} (hg : smGr g) (t : List Nod) (x : Int × ByteArray) : wEx (defE g t x) ≤ 1048576 := by
  unfold defE
  split
  · exact eqnE_small (smRu_f hg _) _
  · simp [expZ, wEx, wExL, noS, chars]
abbrev DfG (o : Int) (e : Exp) : GV := .agg [I o, I e.kind, I e.n, I e.pos, I e.type, T e.sym, T e.name, ExS e.args]
theorem nilL_bor {H : GH} {r sz : Nat} : ∀ {l : List GV}, BorL H (l ++ [.val (.slice none 0 0)]) (l ++ [.own r sz 0 0])
  | [] => .cons .virt .nil
  | _ :: _ => .cons .refl nilL_bor
theorem mkX (k n p t : Int) (s m : ByteArray) (a : List Exp) : Ex (.mk k n p t s m a) = .agg [I k, I n, I p, I t, T s, T m, ExS a] := Ex_eq _
theorem bor_Dm {H : GH} {q n : Nat} {o : Int} {e : Exp} {l : List Exp} (hr : hget H q = some (7, l.map ExO)) (hn : l.length = n) : Bor H (.agg [I o, I e.kind, I e.n, I e.pos, I e.type, T e.sym, T e.name, .own q 7 0 n]) (DfG o (.mk e.kind e.n e.pos e.type e.sym e.name l)) :=
  .agg (.cons .refl (.cons .refl (.cons .refl (.cons .refl (.cons .refl (.cons .refl (.cons .refl (.cons (Bor.seen view_ExO hr hn) .nil))))))))
theorem bor_Df {H : GH} {q n : Nat} {o : Int} {e : Exp} (hr : hget H q = some (7, e.args.map ExO)) (hn : e.args.length = n) : Bor H (.agg [I o, I e.kind, I e.n, I e.pos, I e.type, T e.sym, T e.name, .own q 7 0 n]) (DfG o e) :=
  .agg (.cons .refl (.cons .refl (.cons .refl (.cons .refl (.cons .refl (.cons .refl (.cons .refl (.cons (Bor.seen view_ExO hr hn) .nil))))))))
theorem noD_ExO : ∀ e : Exp, noD (ExO e) = true := by
  refine Exp.indA fun e ih => ?_
  rw [ExO_eq]
  simp only [noD, noDL, noDL_eq, Bool.true_and, Bool.and_true, List.all_map, List.all_eq_true]
  exact fun a ha => ih a ha
theorem hasN_ix {g : Gram} {t : List Nod} {n : Int} {m : ByteArray} (h : hasN g t n m = true) : 0 ≤ ixOf (fun y => decide (y.id = n)) t ∧ ixOf (fun y => decide (y.id = n)) t < t.length := by
  unfold hasN at h
  split at h
  · rcases ixOf_cases (fun y : Nod => decide (y.id = n)) t with h1 | h1
    · omega
    · exact h1
  · cases h
end Go.Gh

