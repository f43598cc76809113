/- The law FnSubtrees returns true whatever the input, and the input reads behind the call as before. No condition. -/
import Derived.Test.YtfpjmfjhdaccnaaLibS3
import Derived.Shelf.SlSortCmp.NoneTotal
import Derived.Laws.Cover1
import Derived.Deep.RegionHeld3
import Derived.Shelf.SlGeneric
import Derived.KernelRfl
import Derived.Test.YtfpjmfjhdaccnaaRows
import Derived.Test.YtfpjmfjhdaccnaaChecked
set_option linter.unusedSimpArgs false
set_option linter.unusedVariables false
set_option maxHeartbeats 40000000
/- The program's data as plain data, and their ghosts. -/
namespace Go.Gh
set_option linter.unusedSimpArgs false
set_option linter.unusedVariables false
abbrev T (s : ByteArray) : GV := .val (.string s)
theorem chars_inj {s t : ByteArray} : chars s = chars t ↔ s = t := by
 constructor
 ·intro h; obtain ⟨a⟩ := s; obtain ⟨b⟩ := t; simp only [chars] at h; congr 1; exact Array.ext' h
 ·rintro rfl; rfl
@[ext] structure Nod where
 id : Int
 parent : Int
 place : Int
 lit : Int
 rule : ByteArray
 kids : List Int
deriving DecidableEq
abbrev Nd (x : Nod) : GV := .agg [I x.id, I x.parent, I x.place, I x.lit, T x.rule, IS x.kids]
abbrev NdS (l : List Nod) : GV := .sl 6 (l.map Nd)
@[ext] structure Slo where
 pos : Int
 name : ByteArray
 val : Int
deriving DecidableEq
abbrev Occ (x : Int × ByteArray) : GV := .agg [I x.1, T x.2]
abbrev Tr (l : List Nod) : GV := .agg [NdS l]
theorem e_nil (e : Env) : subE e [] = True := (rfl)
theorem e_cons (e : Env) (j : Nat) (g : GV) (r : Env) : subE e ((j, g) :: r) = (eget e j = some g ∧ subE e r) := (rfl)
theorem n_val (v : Value) : nraw (.val v) = true := (rfl)
theorem n_sl (sz : Nat) (es : List GV) : nraw (.sl sz es) = true := (rfl)
theorem n_agg (cs : List GV) : nraw (.agg cs) = true := (rfl)
theorem n_rop (sz : Nat) (g : GV) : nraw (.rop sz g) = true := (rfl)
theorem n_ptr (r sz i o : Nat) : nraw (.ptr r sz i o) = true := (rfl)
theorem n_own (r sz k n : Nat) : nraw (.own r sz k n) = true := (rfl)
theorem n_clo (f : Nat) (cs : List GV) : nraw (.clo f cs) = true := (rfl)
theorem n_tup (cs : List GV) : nraw (.tup cs) = true := (rfl)
theorem E2 : type_of% (And.intro @e_nil (And.intro @e_cons (And.intro @n_val (And.intro @n_sl (And.intro @n_agg (And.intro @n_rop (And.intro @n_ptr (And.intro @n_own (And.intro @n_clo (And.intro @n_tup (And.intro @x_get @Option.some.injEq.{0}))))))))))) :=
 And.intro @e_nil (And.intro @e_cons (And.intro @n_val (And.intro @n_sl (And.intro @n_agg (And.intro @n_rop (And.intro @n_ptr (And.intro @n_own (And.intro @n_clo (And.intro @n_tup (And.intro @x_get @Option.some.injEq.{0}))))))))))
theorem maxLv : maxL = 9223372036854775807 := (rfl)
theorem Z2 : type_of% (And.intro @Int.ofNat_lt (And.intro @Int.natCast_nonneg (And.intro @true_and (And.intro @u_ext (And.intro @exists_prop_of_true (And.intro @Int.natCast_zero (And.intro @chars_inj (And.intro @Int.natCast_inj (And.intro maxLv (And.intro @not_true_eq_false (And.intro @false_implies (And.intro @true_implies (And.intro @and_true (And.intro @implies_true.{0} @wrap64)))))))))))))) :=
 And.intro @Int.ofNat_lt (And.intro @Int.natCast_nonneg (And.intro @true_and (And.intro @u_ext (And.intro @exists_prop_of_true (And.intro @Int.natCast_zero (And.intro @chars_inj (And.intro @Int.natCast_inj (And.intro maxLv (And.intro @not_true_eq_false (And.intro @false_implies (And.intro @true_implies (And.intro @and_true (And.intro @implies_true.{0} @wrap64)))))))))))))
theorem lenOk_map {α : Type} {f : α → GV} {l : List α} (h : LenOkL (l.map f)) : ∀ x ∈ l, LenOk (f x) := fun x hx => h.all _ (List.mem_map.2 ⟨x, hx, rfl⟩)
theorem lenTr {l : List Nod} (h : LenOk (Tr l)) : l.length ≤ 9223372036854775807 ∧ ∀ x ∈ l, x.kids.length ≤ 9223372036854775807 := by
 simp only [LenOk, LenOkL, List.length_map, maxL] at h
 refine ⟨h.1.1, fun x hx => ?_⟩
 have := lenOk_map h.1.2 x hx
 simp only [LenOk, LenOkL, List.length_map, maxL] at this
 exact this.2.2.2.2.2.1.1
end Go.Gh
/- What the program computes, in plain words: trees. -/
namespace Go.Gh
set_option linter.unusedSimpArgs false
set_option linter.unusedVariables false
theorem takeWhile_len {α : Type} {p : α → Bool} : ∀ {l : List α} {n : Nat}, n ≤ l.length → (∀ j (h : j < l.length), j < n → p l[j] = true) → (∀ h : n < l.length, p l[n] = false) → (l.takeWhile p).length = n
 | [], n, h, _, _ => by simp at h; simp [h]
 | x :: l, 0, _, _, h2 => by
  have := h2 (by simp)
  simp at this
  simp [this]
 | x :: l, n + 1, h, h1, h2 => by
  have h3 := h1 0 (by simp) (by omega)
  simp at h3
  have h4 := takeWhile_len (p := p) (l := l) (n := n) (by simpa using h) (fun j hj hn => by have := h1 (j + 1) (by simpa using hj) (by omega); simpa using this) (fun hj => by have := h2 (by simpa using hj); simpa using this)
  simp [h3, h4]
def subLen (t : List Nod) (i : Nat) : Nat := ((t.drop (i + 1)).takeWhile fun x => decide ((i : Int) ≤ x.parent)).length + 1
theorem subLen_eq {t : List Nod} {i k : Nat} (hik : i < k) (hk : k ≤ t.length) (ha : ∀ j (h : j < t.length), i < j → j < k → (i : Int) ≤ t[j].parent) (hn : ∀ h : k < t.length, ¬ (i : Int) ≤ t[k].parent) : subLen t i = k - i := by
 have := takeWhile_len (p := fun x : Nod => decide ((i : Int) ≤ x.parent)) (l := t.drop (i + 1)) (n := k - (i + 1)) (by simp; omega) (fun j hj hl => by
  simp at hj
  have := ha (i + 1 + j) (by omega) (by omega) (by omega)
  simpa using this) (fun h => by
  simp at h
  have := hn (by omega)
  have e : i + 1 + (k - (i + 1)) = k := by omega
  simp only [List.getElem_drop, e]
  simpa using this)
 rw [subLen, this]; omega
theorem subLen_le {t : List Nod} {i : Nat} (h : i < t.length) : i + subLen t i ≤ t.length := by
 have : ((t.drop (i + 1)).takeWhile fun x => decide ((i : Int) ≤ x.parent)).length ≤ (t.drop (i + 1)).length := (List.takeWhile_sublist _).length_le
 simp at this
 rw [subLen]; omega
theorem subLen_pos {t : List Nod} {i : Nat} : 0 < subLen t i := by simp [subLen]
def treeSize (t : List Nod) (i : Int) : Int := if 0 ≤ i ∧ i < t.length then subLen t i.toNat else 0
def kidStep (hs : List Int) (k : Nat) (m : Int) (c : Int) : Int := if (k : Int) < c ∧ c < k + 1 + hs.length then max m (hs.getD (c - k - 1).toNat 0) else m
def kidMax (hs : List Int) (k : Nat) (kids : List Int) : Int := kids.foldl (kidStep hs k) 0
def hts : Nat → List Nod → List Int
 | _, [] => []
 | k, x :: r => (kidMax (hts (k + 1) r) k x.kids + 1) :: hts (k + 1) r
end Go.Gh
namespace Go.Gh
end Go.Gh
namespace Go.Gh
theorem sum_mem {α : Type} (f : α → Nat) : ∀ (l : List α) (x : α), x ∈ l → f x ≤ (l.map f).sum
 | y :: l, x, h => by
  simp only [List.map_cons, List.sum_cons]
  rcases List.mem_cons.1 h with rfl | h
  ·omega
  ·have := sum_mem f l x h; omega
theorem take_eq_step {α : Type} {xs ys : List α} {i : Nat} (hp : xs.take i = ys.take i) (h1 : i < xs.length) (h2 : i < ys.length) (h : xs[i] = ys[i]) : xs.take (i + 1) = ys.take (i + 1) := by
 rw [List.take_add_one, List.take_add_one, hp, List.getElem?_eq_getElem h1, List.getElem?_eq_getElem h2, h]
theorem bEq {p q : Prop} [Decidable p] [Decidable q] (h : p ↔ q) : B (decide p) = B (decide q) := by
 have : decide p = decide q := by by_cases hp : p <;> simp [hp, ← h]
 rw [this]
theorem exP {p : Prop} {q : p → Prop} (h : p) (hq : q h) : ∃ h, q h := ⟨h, hq⟩
end Go.Gh
namespace Go.Gh
def all2 {α : Type} (p : α → α → Bool) (xs ys : List α) : Bool := decide (xs.length = ys.length) && (xs.zip ys).all fun z => p z.1 z.2
theorem all2_len {α : Type} {p : α → α → Bool} {xs ys : List α} (h : ¬ xs.length = ys.length) : all2 p xs ys = false := by simp [all2, h]
theorem all2_no {α : Type} {p : α → α → Bool} {xs ys : List α} {i : Nat} (h1 : i < xs.length) (h2 : i < ys.length) (h : p xs[i] ys[i] = false) : all2 p xs ys = false := by
 have : (xs.zip ys).all (fun z => p z.1 z.2) = false := by
  rw [List.all_eq_false]
  refine ⟨(xs[i], ys[i]), ?_, by simpa using h⟩
  have h3 : i < (xs.zip ys).length := by simp; omega
  have := List.getElem_mem h3
  rwa [List.getElem_zip] at this
 simp [all2, this]
theorem all2_yes {α : Type} {p : α → α → Bool} {xs ys : List α} (hl : xs.length = ys.length) (h : ∀ j (h1 : j < xs.length) (h2 : j < ys.length), p xs[j] ys[j] = true) : all2 p xs ys = true := by
 simp only [all2, hl, decide_true, Bool.true_and, List.all_eq_true]
 intro z hz
 obtain ⟨j, hj, rfl⟩ := List.getElem_of_mem hz
 rw [List.getElem_zip]
 simp at hj
 exact h j (by omega) (by omega)
theorem all2_step {α : Type} {p : α → α → Bool} {xs ys : List α} {i : Nat} {h1 : i < xs.length} {h2 : i < ys.length} (h : p xs[i] ys[i] = true) (hn : ∀ j (h1 : j < xs.length) (h2 : j < ys.length), j < i → p xs[j] ys[j] = true) :
  ∀ j (h1 : j < xs.length) (h2 : j < ys.length), j < i + 1 → p xs[j] ys[j] = true := by
 intro j k1 k2 hj
 rcases Nat.lt_or_ge j i with h3 | h3
 ·exact hn j k1 k2 h3
 ·have : j = i := by omega
  subst this; exact h
def sameNd (ids : Bool) (x y : Nod) : Bool := (!ids || decide (x.id = y.id)) && decide (x.parent = y.parent) && decide (x.place = y.place) && decide (x.lit = y.lit) && decide (x.rule = y.rule) && decide (x.kids = y.kids)
theorem find_hit {α : Type} {p : α → Bool} : ∀ {xs : List α} {i : Nat} (h : i < xs.length), p xs[i] = true → (∀ a ∈ xs.take i, p a = false) → xs.find? p = some xs[i]
 | x :: xs, 0, _, hp, _ => by simp at hp; simp [hp]
 | x :: xs, i + 1, h, hp, hn => by
  have h1 : p x = false := hn x (by simp)
  simp only [List.find?_cons, h1]
  simpa using find_hit (p := p) (xs := xs) (i := i) (by simpa using h) (by simpa using hp) (fun a ha => hn a (by simp [ha]))
theorem find_none {α : Type} {p : α → Bool} {xs : List α} (hn : ∀ a ∈ xs, p a = false) : xs.find? p = none := by
 rw [List.find?_eq_none]; intro x hx; simp [hn x hx]
end Go.Gh
/- The laws' own functions on slices, whatever the element: sizes, copies, comparisons. -/
namespace Go.Gh
set_option linter.unusedSimpArgs false
set_option linter.unusedVariables false
set_option maxRecDepth 20000
section
variable {P : Program} {α : Type} {f : α → GV} {k kx sz : Nat} {det ag : Bool}
end
end Go.Gh
/- Arguments of the statements, by their types. -/
namespace Go.Gh
theorem t_one {t : Ty} {g : GV} (h : ET false [t] g) : CT t g := by
 obtain ⟨gs, k1, k2⟩ := h
 simp only [CTs] at k1
 obtain ⟨g, gs', rfl, hg, rfl⟩ := k1
 simp at k2
 rw [← k2]; exact hg
end Go.Gh
/- What the laws' marks are. -/
namespace Go.Gh
set_option linter.unusedSimpArgs false
set_option linter.unusedVariables false
theorem vIte (P : Program) (c : Prop) [Decidable c] (g : GV) (d : Option Nat) (is : List GI) (K : Env → GH → Prop) (env : Env) (H : GH) : valS P (if c then some g else none) d is K env H = (c ∧ gsteps P is K (gput env d g) H) := by
 by_cases h : c <;> simp [h, valS]
theorem nxF {ι : Type} {E : ι → Env} {G : ι → GH} {μ : ι → Nat} {i : ι} {e e' : Env} {H H' : GH} (j : ι) (hm : μ j < μ i) (hf : FE e H e' H') (h : subE e' (E j)) (hh : H' = G j) : Nx E G μ i e H := by
 subst hh
 exact ⟨j, FE.trans hf (FE.of h), hm⟩
theorem wloopN {P : Program} {cf : Cfg} (mxd : P.follows .mixedOrders = true) {ι : Type} {x : GC} {Q : Exit → Env → GH → Prop} {env : Env} {H : GH} (E : ι → Env) (G : ι → GH) (μ : ι → Nat) (i0 : ι) (h0 : subE env (E i0)) (hh : H = G i0)
  (round : ∀ i, (names (G i)).Nodup → gwp P cf x (thenG (Nx E G μ i) Q) (E i) (G i)) : GW P cf (.loop x) Q env H := by
 subst hh
 exact GW.loop E G μ i0 (FE.of h0) fun i => GW.names fun hn => gwp_ok mxd (round i hn)
theorem wloopF {P : Program} {cf : Cfg} (mxd : P.follows .mixedOrders = true) {ι : Type} {x : GC} {Q : Exit → Env → GH → Prop} {env env' : Env} {H H' : GH} (E : ι → Env) (G : ι → GH) (μ : ι → Nat) (i0 : ι) (hf : FE env H env' H') (h0 : subE env' (E i0)) (hh : H' = G i0)
  (round : ∀ i, (names (G i)).Nodup → GW P cf x (thenG (Nx E G μ i) Q) (E i) (G i)) : GW P cf (.loop x) Q env H := by
 subst hh
 exact GW.loop E G μ i0 (FE.trans hf (FE.of h0)) fun i => GW.names fun hn => round i hn
abbrev NdO (x : Nod) : GV := .agg [I x.id, I x.parent, I x.place, I x.lit, T x.rule, .osl 1 (x.kids.map I)]
theorem view_NdO (t : List Nod) : (t.map NdO).map view = t.map Nd := by
 induction t with
 | nil => rfl
 | cons x t ih =>
  simp only [List.map_cons, ih, List.cons.injEq, and_true]
  simp [view, viewL, viewL_eq]
theorem viewL_NdO (t : List Nod) : viewL (t.map NdO) = t.map Nd := by rw [viewL_eq, view_NdO]
theorem bor_NdO {H : GH} {r n : Nat} {t : List Nod} (hr : hget H r = some (6, t.map NdO)) (hn : t.length = n) : Bor H (.own r 6 0 n) (NdS t) := by
 have := Bor.own (H := H) (k := 0) (n := n) hr (by simp [hn])
 rw [List.drop_zero, List.take_of_length_le (by simp [hn]), viewL_NdO] at this
 exact this
theorem bor_Tr {H : GH} {r n : Nat} {t : List Nod} (hr : hget H r = some (6, t.map NdO)) (hn : t.length = n) : Bor H (.agg [.own r 6 0 n]) (Tr t) := .agg (.cons (bor_NdO hr hn) .nil)
theorem bor_IS {H : GH} {r n : Nat} {l : List Int} (hr : hget H r = some (1, l.map I)) (hn : l.length = n) : Bor H (.own r 1 0 n) (IS l) := .all hr (by simp [hn]) (by simp [view])
def mkEnd : Int → List Nod → Int
 | k, [] => k
 | k, x :: t => mkEnd (k + 5 + x.kids.length) t
theorem FE.close2 {env : Env} {H : GH} {r r1 sz sz1 i j n : Nat} {L gs ks : List GV} (hne : r1 ≠ r) (hi : i < L.length) (hg : gs[j]? = some (.own r1 sz1 0 n)) (hn : ks.length = n) :
  FE env ((r1, sz1, ks) :: (r, sz, L.set i (.agg gs)) :: H) env ((r, sz, L.set i (.agg (gs.set j (.osl sz1 ks)))) :: H) := by
 have := FE.close (env := env) (H := (r1, sz1, ks) :: (r, sz, L.set i (.agg gs)) :: H) (r := r) (r1 := r1) (Ne.symm hne) (by rw [hget_old hne, hget_new]) (List.getElem?_set_self hi) hg hget_new hn
 rwa [hset_old hne, hset_new, hdel_new, List.set_set] at this
theorem mkEnd_app : ∀ (k : Int) (t u : List Nod), mkEnd k (t ++ u) = mkEnd (mkEnd k t) u
 | _, [], _ => rfl
 | k, y :: t, u => by simp [mkEnd, mkEnd_app _ t u]
theorem mkEnd_le : ∀ (k : Int) (t : List Nod), k ≤ mkEnd k t
 | _, [] => Int.le_refl _
 | k, x :: t => by have := mkEnd_le (k + 5 + x.kids.length) t; simp only [mkEnd]; omega
theorem mkEnd_take {k : Int} {t : List Nod} (i : Nat) : mkEnd k (t.take i) ≤ mkEnd k t := by
 have := mkEnd_app k (t.take i) (t.drop i)
 rw [List.take_append_drop] at this
 rw [this]; exact mkEnd_le _ _
theorem FE.swap {env : Env} {H : GH} {x y : Nat × Nat × List GV} : FE env (x :: y :: H) env (y :: x :: H) := by
 intro w0 D0 O0 N a w ⟨hdf, hsz, D, Ω, ρw, hi⟩
 obtain ⟨r1, sz1, es1⟩ := x
 obtain ⟨r2, sz2, es2⟩ := y
 obtain ⟨F1, G1, e1, h1, F2, F3, e2, h2, h3⟩ := hi.st.hm
 have hp : ∀ x, (F2 ++ (F1 ++ F3)).count x = Ω.count x := by
  intro x; rw [e1, e2]; simp only [List.count_append]; omega
 have hmem : ∀ x ∈ F2 ++ (F1 ++ F3), x ∈ Ω := fun x hx => by
  have := List.count_pos_iff.2 hx
  exact List.count_pos_iff.1 (by rw [← hp]; exact this)
 refine ⟨hdf, hsz, D, F2 ++ (F1 ++ F3), ρw, hi.st' ⟨⟨F2, _, rfl, h2, F1, F3, rfl, h1, h3⟩, ?_, ?_, fun x hx => hi.st.dj x (hmem x hx), hi.st.ds⟩ hmem⟩
 ·rw [List.nodup_iff_count]
  intro x
  rw [hp]
  exact List.nodup_iff_count.1 hi.st.nd x
 ·have := hi.st.nn
  simp only [names, List.map_cons, List.nodup_cons, List.mem_cons, not_or] at this ⊢
  exact ⟨⟨fun e => this.1.1 e.symm, this.2.1⟩, this.1.2, this.2.2⟩
theorem mkEnd_eq : ∀ (k : Int) (t : List Nod), mkEnd k t = k + 5 * t.length + ((t.map (·.kids.length)).sum : Nat)
 | k, [] => by simp [mkEnd]
 | k, x :: t => by
  have := mkEnd_eq (k + 5 + x.kids.length) t
  simp only [mkEnd, List.length_cons, List.map_cons, List.sum_cons]
  omega
theorem callS.borA {P : Program} {K : Env → GH → Prop} {is : List GI} {env : Env} {H : GH} {d : Option Nat} {det : Bool} {f : FuncId} {gs gs' : List GV} {G : GV} (h : Pure P f gs' (· = G)) (hb : BorL H gs gs') (hs : scal G = true) (hk : gsteps P is K (gput env d G) H) : callS P det f (some gs) d is K env H := by
 cases det
 ·exact callS.bor h hb hs hk
 ·exact ⟨G, h.borrow hb (fun _ e => by rw [e]; exact hs), hk⟩
end Go.Gh
/- Expressions as plain data, and their ghosts. -/
namespace Go.Gh
set_option linter.unusedSimpArgs false
set_option linter.unusedVariables false
inductive Exp where
 | mk (kind n pos type : Int) (sym name : ByteArray) (args : List Exp)
def Exp.kind : Exp → Int | .mk k _ _ _ _ _ _ => k
def Exp.n : Exp → Int | .mk _ n _ _ _ _ _ => n
def Exp.pos : Exp → Int | .mk _ _ p _ _ _ _ => p
def Exp.type : Exp → Int | .mk _ _ _ t _ _ _ => t
def Exp.sym : Exp → ByteArray | .mk _ _ _ _ s _ _ => s
def Exp.name : Exp → ByteArray | .mk _ _ _ _ _ m _ => m
def Exp.args : Exp → List Exp | .mk _ _ _ _ _ _ a => a
mutual
def Ex : Exp → GV
 | .mk k n p t s m a => .agg [I k, I n, I p, I t, T s, T m, .sl 7 (ExL a)]
def ExL : List Exp → List GV
 | [] => []
 | e :: l => Ex e :: ExL l
end
theorem ExL_eq (l : List Exp) : ExL l = l.map Ex := by
 induction l with
 | nil => rfl
 | cons e l ih => simp [ExL, ih]
abbrev ExS (l : List Exp) : GV := .sl 7 (l.map Ex)
theorem Ex_eq (e : Exp) : Ex e = .agg [I e.kind, I e.n, I e.pos, I e.type, T e.sym, T e.name, ExS e.args] := by
 cases e; simp only [Ex, ExL_eq]; rfl
mutual
theorem Exp.indA {p : Exp → Prop} (h : ∀ e, (∀ a ∈ e.args, p a) → p e) : ∀ e, p e
 | .mk k n q t s m a => h _ (Exp.indL h a)
theorem Exp.indL {p : Exp → Prop} (h : ∀ e, (∀ a ∈ e.args, p a) → p e) : ∀ (l : List Exp), ∀ a ∈ l, p a
 | [], a, hm => by cases hm
 | e :: l, a, hm => by
  have he : p e := Exp.indA h e
  have hl := Exp.indL h l
  rcases List.mem_cons.1 hm with rfl | hm
  ·exact he
  ·exact hl a hm
end
mutual
def wEx : Exp → Nat
 | .mk _ _ _ _ s m a => (chars s).length + (chars m).length + (a.length + wExL a)
def wExL : List Exp → Nat
 | [] => 0
 | e :: l => wEx e + wExL l
end
theorem wExL_eq (l : List Exp) : wExL l = (l.map wEx).sum := by
 induction l with
 | nil => rfl
 | cons e l ih => simp [wExL, ih]
theorem wEx_eq (e : Exp) : wEx e = (chars e.sym).length + (chars e.name).length + wtS wEx e.args := by
 cases e; simp only [wEx, wExL_eq, wtS]; rfl
mutual
def okE : Exp → Prop
 | .mk _ _ _ _ s m a => s.size ≤ maxLen ∧ m.size ≤ maxLen ∧ okEL a
def okEL : List Exp → Prop
 | [] => True
 | e :: l => okE e ∧ okEL l
end
theorem okEL_eq {l : List Exp} : okEL l ↔ ∀ a ∈ l, okE a := by
 induction l with
 | nil => simp [okEL]
 | cons e l ih => simp [okEL, ih]
theorem okE_eq {e : Exp} : okE e ↔ e.sym.size ≤ maxLen ∧ e.name.size ≤ maxLen ∧ ∀ a ∈ e.args, okE a := by
 cases e; simp only [okE, okEL_eq]; rfl
mutual
instance decExp : (x y : Exp) → Decidable (x = y)
 | .mk k n p t s m a, .mk k' n' p' t' s' m' a' =>
  match decExpL a a' with
  | isTrue h => decidable_of_iff (k = k' ∧ n = n' ∧ p = p' ∧ t = t' ∧ s = s' ∧ m = m') (by simp [h])
  | isFalse h => isFalse (by simp [h])
instance decExpL : (x y : List Exp) → Decidable (x = y)
 | [], [] => isTrue rfl
 | [], _ :: _ => isFalse (by simp)
 | _ :: _, [] => isFalse (by simp)
 | e :: l, e' :: l' => match decExp e e', decExpL l l' with
  | isTrue h, isTrue h' => isTrue (by rw [h, h'])
  | isFalse h, _ => isFalse (by simp [h])
  | _, isFalse h => isFalse (by simp [h])
end
theorem args_small {e : Exp} (h : wEx e ≤ 1048576) : e.args.length ≤ 1048576 ∧ ∀ a ∈ e.args, wEx a ≤ 1048576 := by
 rw [wEx_eq] at h
 simp only [wtS] at h
 refine ⟨by omega, fun a ha => ?_⟩
 have := sum_mem wEx e.args a ha
 omega
theorem isAgg_Ex (e : Exp) : isAgg (Ex e) = true := by rw [Ex_eq]; rfl
theorem geR_Ex (e : Exp) : geR (some (Ex e)) = some (Ex e) := by rw [Ex_eq]; rfl
theorem gsize_Ex (e : Exp) : gsize (Ex e) = 7 := by rw [Ex_eq]; rfl
theorem stor_Ex (e : Exp) : storable (Ex e) = true := by rw [Ex_eq]; rfl
theorem view_Ex (e : Exp) : view (Ex e) = Ex e := by rw [Ex_eq]; rfl
end Go.Gh
/- Arguments of recursive types, seen as ghosts. -/
namespace Go.Gh
open Go.RowKit Go.ChangeShapes Go.WideShapes Go.Deep
end Go.Gh
/- Expressions as arguments of statements. -/
namespace Go.Gh
set_option linter.unusedSimpArgs false
set_option linter.unusedVariables false
end Go.Gh
/- Values and operators, as plain functions. -/
namespace Go.Gh
set_option linter.unusedSimpArgs false
set_option linter.unusedVariables false
def satV (n : Int) : Int := max (-1000000) (min 1000000 n)
def trV (b : Bool) : Int := if b then 1 else 0
def coV (v k : Int) : Int := if k = 1 then satV v else if k = 2 then andI .i64 v 4095 else if k = 3 then trV (!decide (v = 0)) else if k = 4 ∧ 0 ≤ v ∧ v ≤ 999 then v else 0
def opT (op : Int) : Int × Int × Int :=
 if 1 ≤ op ∧ op ≤ 5 then (1, 1, 1) else if 6 ≤ op ∧ op ≤ 8 then (2, 2, 2) else if op = 9 ∨ op = 10 then (1, 1, 3) else if op = 11 then (2, 1, 3) else if op = 12 then (2, 1, 2) else (0, 0, 0)
abbrev opG (op : Int) : GV := .tup [I (opT op).1, I (opT op).2.1, I (opT op).2.2]
def okV (v k : Int) : Bool := decide (1 ≤ k ∧ k ≤ 4) && decide (coV v k = v)
theorem opG0 {op : Int} (h : ¬(1 ≤ op ∧ op ≤ 12)) : opG op = .tup [I 0, I 0, I 0] := by
 have : opT op = (0, 0, 0) := by
  unfold opT
  rw [if_neg (by omega), if_neg (by omega), if_neg (by omega), if_neg (by omega), if_neg (by omega)]
 simp only [opG, this]
end Go.Gh
/- Counts of an expression. -/
namespace Go.Gh
set_option linter.unusedSimpArgs false
set_option linter.unusedVariables false
mutual
def cntE : Exp → Nat
 | .mk _ _ _ _ _ _ a => 1 + cntEL a
def cntEL : List Exp → Nat
 | [] => 0
 | e :: l => cntE e + cntEL l
end
theorem cntEL_eq (l : List Exp) : cntEL l = (l.map cntE).sum := by
 induction l with
 | nil => rfl
 | cons e l ih => simp [cntEL, ih]
theorem cntE_eq (e : Exp) : cntE e = 1 + (e.args.map cntE).sum := by
 cases e; simp only [cntE, cntEL_eq]; rfl
theorem cntE_le : ∀ e, cntE e ≤ wEx e + 1 := by
 refine Exp.indA fun e ih => ?_
 rw [cntE_eq, wEx_eq]
 have : ∀ l : List Exp, (∀ a ∈ l, cntE a ≤ wEx a + 1) → (l.map cntE).sum ≤ l.length + (l.map wEx).sum := by
  intro l
  induction l with
  | nil => intro _; simp
  | cons a l ih =>
   intro h
   have h1 := h a (by simp)
   have h2 := ih fun b hb => h b (by simp [hb])
   simp only [List.map_cons, List.sum_cons, List.length_cons]; omega
 have := this e.args ih
 simp only [wtS]; omega
theorem sumT (f : Exp → Nat) (l : List Exp) (i : Nat) (h : i < l.length) : ((l.take (i + 1)).map f).sum = ((l.take i).map f).sum + f l[i] := psum_succ f l i h
theorem sumT_le (f : Exp → Nat) (l : List Exp) (i : Nat) : ((l.take i).map f).sum ≤ (l.map f).sum := psum_le f l i
def mxL : List Nat → Nat
 | [] => 0
 | a :: l => max a (mxL l)
theorem mxL_app (l m : List Nat) : mxL (l ++ m) = max (mxL l) (mxL m) := by
 induction l with
 | nil => simp [mxL]
 | cons a l ih => simp only [List.cons_append, mxL, ih]; omega
theorem mxL_le (l : List Nat) : mxL l ≤ l.sum := by
 induction l with
 | nil => simp [mxL]
 | cons a l ih => simp only [mxL, List.sum_cons]; omega
mutual
def dpE : Exp → Nat
 | .mk _ _ _ _ _ _ a => 1 + dpEL a
def dpEL : List Exp → Nat
 | [] => 0
 | e :: l => max (dpE e) (dpEL l)
end
theorem dpEL_eq (l : List Exp) : dpEL l = mxL (l.map dpE) := by
 induction l with
 | nil => rfl
 | cons e l ih => simp [dpEL, mxL, ih]
theorem dpE_eq (e : Exp) : dpE e = 1 + mxL (e.args.map dpE) := by
 cases e; simp only [dpE, dpEL_eq]; rfl
theorem sumL_le {l : List Exp} {f g : Exp → Nat} (h : ∀ a ∈ l, f a ≤ g a) : (l.map f).sum ≤ (l.map g).sum := by
 induction l with
 | nil => simp
 | cons a l ih =>
  have h1 := h a (by simp)
  have h2 := ih fun b hb => h b (by simp [hb])
  simp only [List.map_cons, List.sum_cons]; omega
theorem dpE_le : ∀ e, dpE e ≤ cntE e := by
 refine Exp.indA fun e ih => ?_
 rw [cntE_eq, dpE_eq]
 have h1 := mxL_le (e.args.map dpE)
 have h2 := sumL_le ih
 omega
theorem mxT (f : Exp → Nat) (l : List Exp) (i : Nat) (h : i < l.length) : mxL ((l.take (i + 1)).map f) = max (mxL ((l.take i).map f)) (f l[i]) := by
 rw [List.take_succ_eq_append_getElem h, List.map_append, mxL_app]; simp [mxL]
theorem mxT_le (f : Exp → Nat) (l : List Exp) (i : Nat) : mxL ((l.take i).map f) ≤ (l.map f).sum :=
 Nat.le_trans (mxL_le _) (sumT_le f l i)
end Go.Gh
/- Predicates on all nodes of an expression. -/
namespace Go.Gh
set_option linter.unusedSimpArgs false
set_option linter.unusedVariables false
mutual
def allE (p : Exp → Bool) : Exp → Bool
 | .mk k n q t s m a => p (.mk k n q t s m a) && allEL p a
def allEL (p : Exp → Bool) : List Exp → Bool
 | [] => true
 | e :: l => allE p e && allEL p l
end
theorem allEL_eq (p : Exp → Bool) (l : List Exp) : allEL p l = l.all (allE p) := by
 induction l with
 | nil => rfl
 | cons e l ih => simp [allEL, ih]
theorem allE_eq (p : Exp → Bool) (e : Exp) : allE p e = (p e && e.args.all (allE p)) := by
 cases e; simp only [allE, allEL_eq]; rfl
theorem all_take {p : Exp → Bool} {l : List Exp} {i : Nat} (h : i < l.length) (hp : p l[i] = true) (hn : ∀ a ∈ l.take i, p a = true) : ∀ a ∈ l.take (i + 1), p a = true := by
 intro a ha
 rw [List.take_add_one, List.getElem?_eq_getElem h, Option.toList_some, List.mem_append] at ha
 rcases ha with ha | ha
 ·exact hn a ha
 ·simp only [List.mem_singleton] at ha; rw [ha]; exact hp
end Go.Gh
/- Names. -/
namespace Go.Gh
set_option linter.unusedSimpArgs false
set_option linter.unusedVariables false
def letV (c : UInt8) : Bool := decide (97 ≤ (c.toNat : Int)) && decide ((c.toNat : Int) ≤ 122)
def digV (c : UInt8) : Bool := decide (48 ≤ (c.toNat : Int)) && decide ((c.toNat : Int) ≤ 57)
def kwS : List ByteArray := [⟨#[105, 102]⟩, ⟨#[116, 104, 101, 110]⟩, ⟨#[101, 108, 115, 101]⟩, ⟨#[116, 114, 117, 101]⟩, ⟨#[102, 97, 108, 115, 101]⟩, ⟨#[108, 105, 116]⟩, ⟨#[110, 111, 110, 101]⟩,
 ⟨#[115, 101, 108, 102]⟩, ⟨#[111, 102]⟩, ⟨#[109, 97, 120]⟩, ⟨#[109, 105, 110]⟩, ⟨#[119, 105, 116, 104]⟩, ⟨#[104, 97, 115]⟩]
def hasS (l : List ByteArray) (s : ByteArray) : Bool := l.any fun x => decide (x = s)
theorem hasS_hit {l : List ByteArray} {s : ByteArray} {i : Nat} (h : i < l.length) (e : l[i] = s) : hasS l s = true := by
 simp only [hasS, List.any_eq_true]; exact ⟨l[i], List.getElem_mem h, by simp [e]⟩
theorem hasS_none {l : List ByteArray} {s : ByteArray} (h : ∀ x ∈ l, decide (x = s) = false) : hasS l s = false := by
 simp only [hasS, List.any_eq_false]; intro x hx; simpa using h x hx
def resV (s : ByteArray) : Bool := hasS kwS s
def shp : List UInt8 → Bool
 | [] => false
 | c :: l => letV c && l.all fun c => letV c || digV c
theorem shp_iff (l : List UInt8) : shp l = true ↔ 0 < l.length ∧ ∀ (j : Nat) (h : j < l.length), letV l[j] = true ∨ (j ≠ 0 ∧ digV l[j] = true) := by
 cases l with
 | nil => simp [shp]
 | cons c l =>
  simp only [shp, Bool.and_eq_true, List.all_eq_true, Bool.or_eq_true, List.length_cons]
  constructor
  ·rintro ⟨h1, h2⟩
   refine ⟨by omega, fun j hj => ?_⟩
   cases j with
   | zero => exact .inl h1
   | succ j =>
    have := h2 l[j] (List.getElem_mem _)
    simp only [List.getElem_cons_succ]
    rcases this with h | h
    ·exact .inl h
    ·exact .inr ⟨by omega, h⟩
  ·rintro ⟨_, h⟩
   constructor
   ·have := h 0 (by omega)
    simpa using this
   ·intro x hx
    obtain ⟨j, hj, rfl⟩ := List.mem_iff_getElem.1 hx
    have := h (j + 1) (by omega)
    simp only [List.getElem_cons_succ] at this
    rcases this with h | h
    ·exact .inl h
    ·exact .inr h.2
def nameV (s : ByteArray) : Bool := shp (chars s) && decide ((chars s).length ≤ 8) && !resV s
end Go.Gh
/- Names: steps. -/
namespace Go.Gh
set_option linter.unusedSimpArgs false
set_option linter.unusedVariables false
theorem shp_bad {l : List UInt8} {i : Nat} (h : i < l.length) (h1 : ¬(letV l[i] = true ∨ (i ≠ 0 ∧ digV l[i] = true))) : shp l = false := by
 cases hs : shp l with
 | false => rfl
 | true => exact absurd (((shp_iff l).1 hs).2 i h) h1
theorem shp_step {l : List UInt8} {i : Nat} (h : i < l.length) (hn : ∀ (j : Nat) (h : j < l.length), j < i → letV l[j] = true ∨ (j ≠ 0 ∧ digV l[j] = true)) (hg : letV l[i] = true ∨ (i ≠ 0 ∧ digV l[i] = true)) :
  ∀ (j : Nat) (h : j < l.length), j < i + 1 → letV l[j] = true ∨ (j ≠ 0 ∧ digV l[j] = true) := by
 intro j hj hji
 by_cases e : j = i
 ·subst e; exact hg
 ·exact hn j hj (by omega)
theorem shp_end {l : List UInt8} (hn : ∀ (j : Nat) (h : j < l.length), j < l.length → letV l[j] = true ∨ (j ≠ 0 ∧ digV l[j] = true)) : shp l = decide (0 < l.length) := by
 by_cases h : 0 < l.length
 ·rw [decide_eq_true h]; exact (shp_iff l).2 ⟨h, fun j hj => hn j hj hj⟩
 ·rw [decide_eq_false h]
  cases l with
  | nil => rfl
  | cons a l => simp at h
end Go.Gh
/- Valid nodes. -/
namespace Go.Gh
set_option linter.unusedSimpArgs false
set_option linter.unusedVariables false
def arity (k : Int) : Nat := if k = 4 then 2 else if k = 5 then 3 else if k = 8 then 1 else 0
def noS : ByteArray := ⟨#[]⟩
def bareV (e : Exp) : Bool :=
 decide (e.args.length = arity e.kind) && (decide (e.kind = 3 ∨ e.kind = 6) || decide (e.pos = 0)) && (decide (e.kind = 3 ∨ e.kind = 8) || decide (e.name = noS)) && (decide (e.kind = 1 ∨ e.kind = 4) || decide (e.n = 0)) &&
 (decide (e.kind = 1) || decide (e.type = 0)) && (decide (e.kind = 8) || decide (e.sym = noS))
end Go.Gh
/- Symbols, rules and grammars as plain data, and their ghosts. -/
namespace Go.Gh
set_option linter.unusedSimpArgs false
set_option linter.unusedVariables false
theorem nraw_Ex (e : Exp) : nraw (Ex e) = true := by rw [Ex_eq]; rfl
theorem clean_Ex (e : Exp) : clean (Ex e) = true := by rw [Ex_eq]; rfl
theorem sub_Ex0 (e : Exp) : sub (Ex e) 0 1 false = some (I e.kind) := by rw [Ex_eq]; rfl
theorem sub_Ex1 (e : Exp) : sub (Ex e) 1 1 false = some (I e.n) := by rw [Ex_eq]; rfl
theorem sub_Ex2 (e : Exp) : sub (Ex e) 2 1 false = some (I e.pos) := by rw [Ex_eq]; rfl
theorem sub_Ex3 (e : Exp) : sub (Ex e) 3 1 false = some (I e.type) := by rw [Ex_eq]; rfl
theorem sub_Ex4 (e : Exp) : sub (Ex e) 4 1 false = some (T e.sym) := by rw [Ex_eq]; rfl
theorem sub_Ex5 (e : Exp) : sub (Ex e) 5 1 false = some (T e.name) := by rw [Ex_eq]; rfl
theorem sub_Ex6 (e : Exp) : sub (Ex e) 6 1 false = some (ExS e.args) := by rw [Ex_eq]; rfl
theorem fold_Ex (e : Exp) : GV.agg [I e.kind, I e.n, I e.pos, I e.type, T e.sym, T e.name, .sl 7 (e.args.map Ex)] = Ex e := (Ex_eq e).symm
abbrev ExC (e : Exp) : List GV := [I e.kind, I e.n, I e.pos, I e.type, T e.sym, T e.name, ExS e.args]
theorem upd_Ex (gs : List GV) (o : Nat) (e : Exp) : upd (.agg gs) o (Ex e) = if o + 7 ≤ gs.length then some (.agg (gs.take o ++ (ExC e ++ gs.drop (o + 7)))) else none := by rw [Ex_eq]; rfl
theorem upd_ExO (e : Exp) (o r sz k n : Nat) : upd (Ex e) o (.own r sz k n) = if o < 7 then some (.agg ((ExC e).set o (.own r sz k n))) else none := by rw [Ex_eq]; rfl
theorem XE : type_of% (And.intro @isAgg_Ex (And.intro @geR_Ex (And.intro @gsize_Ex (And.intro @stor_Ex (And.intro @nraw_Ex (And.intro @clean_Ex (And.intro @sub_Ex0 (And.intro @sub_Ex1 (And.intro @sub_Ex2 (And.intro @sub_Ex3 (And.intro @sub_Ex4 (And.intro @sub_Ex5 (And.intro @sub_Ex6 (And.intro @fold_Ex (And.intro @upd_ExO @upd_Ex))))))))))))))) :=
 And.intro @isAgg_Ex (And.intro @geR_Ex (And.intro @gsize_Ex (And.intro @stor_Ex (And.intro @nraw_Ex (And.intro @clean_Ex (And.intro @sub_Ex0 (And.intro @sub_Ex1 (And.intro @sub_Ex2 (And.intro @sub_Ex3 (And.intro @sub_Ex4 (And.intro @sub_Ex5 (And.intro @sub_Ex6 (And.intro @fold_Ex (And.intro @upd_ExO @upd_Ex))))))))))))))
@[ext] structure Att where
 name : ByteArray
 type : Int
 mode : Int
 circ : Bool
deriving DecidableEq
abbrev At (x : Att) : GV := .agg [T x.name, I x.type, I x.mode, B x.circ]
abbrev AtS (l : List Att) : GV := .sl 4 (l.map At)
@[ext] structure Sym where
 name : ByteArray
 atts : List Att
deriving DecidableEq
abbrev Sy (x : Sym) : GV := .agg [T x.name, AtS x.atts]
abbrev SyS (l : List Sym) : GV := .sl 2 (l.map Sy)
@[ext] structure Eqn where
 pos : Int
 name : ByteArray
 expr : Exp
deriving DecidableEq
abbrev Qn (x : Eqn) : GV := .agg [I x.pos, T x.name, I x.expr.kind, I x.expr.n, I x.expr.pos, I x.expr.type, T x.expr.sym, T x.expr.name, ExS x.expr.args]
abbrev QnS (l : List Eqn) : GV := .sl 9 (l.map Qn)
@[ext] structure Con where
 sym : ByteArray
 name : ByteArray
 goal : Exp
 value : Exp
deriving DecidableEq
abbrev Co (x : Con) : GV := .agg [T x.sym, T x.name, I x.goal.kind, I x.goal.n, I x.goal.pos, I x.goal.type, T x.goal.sym, T x.goal.name, ExS x.goal.args, I x.value.kind, I x.value.n, I x.value.pos, I x.value.type, T x.value.sym, T x.value.name, ExS x.value.args]
abbrev CoS (l : List Con) : GV := .sl 16 (l.map Co)
abbrev TS (l : List ByteArray) : GV := .sl 1 (l.map T)
@[ext] structure Rul where
 name : ByteArray
 left : ByteArray
 right : List ByteArray
 lit : Bool
 eqs : List Eqn
 cons : List Con
deriving DecidableEq
abbrev Ru (x : Rul) : GV := .agg [T x.name, T x.left, TS x.right, B x.lit, QnS x.eqs, CoS x.cons]
abbrev RuS (l : List Rul) : GV := .sl 6 (l.map Ru)
@[ext] structure Gram where
 syms : List Sym
 rules : List Rul
deriving DecidableEq
abbrev Gr (g : Gram) : GV := .agg [SyS g.syms, RuS g.rules]
def smSy (x : Sym) : Prop := x.atts.length ≤ 1048576
def smEq (x : Eqn) : Prop := wEx x.expr ≤ 1048576
def smCo (x : Con) : Prop := wEx x.goal ≤ 1048576 ∧ wEx x.value ≤ 1048576
def smRu (x : Rul) : Prop := x.right.length ≤ 1048576 ∧ x.eqs.length ≤ 1048576 ∧ x.cons.length ≤ 1048576 ∧ (∀ q ∈ x.eqs, smEq q) ∧ ∀ c ∈ x.cons, smCo c
def smGr (g : Gram) : Prop := g.syms.length ≤ 1048576 ∧ g.rules.length ≤ 1048576 ∧ (∀ s ∈ g.syms, smSy s) ∧ ∀ r ∈ g.rules, smRu r
theorem wtS_mem {α : Type} {wt : α → Nat} {l : List α} {n : Nat} (h : wtS wt l ≤ n) : l.length ≤ n ∧ ∀ a ∈ l, wt a ≤ n := by
 simp only [wtS] at h
 exact ⟨by omega, fun a ha => by have := sum_mem wt l a ha; omega⟩
theorem getD_lt {α : Type} {l : List α} {i : Nat} {d : α} (h : i < l.length) : l.getD i d = l[i] := by
 rw [List.getD_eq_getElem?_getD, List.getElem?_eq_getElem h]; rfl
def symZ : Sym := ⟨noS, []⟩
def attZ : Att := ⟨noS, 0, 0, false⟩
def rulZ : Rul := ⟨noS, noS, [], false, [], []⟩
def fSym (l : List Sym) (n : ByteArray) : Sym := (l.find? fun s => decide (s.name = n)).getD symZ
def hSym (l : List Sym) (n : ByteArray) : Bool := (l.find? fun s => decide (s.name = n)).isSome
def fRul (l : List Rul) (n : ByteArray) : Rul := (l.find? fun s => decide (s.name = n)).getD rulZ
def hRul (l : List Rul) (n : ByteArray) : Bool := (l.find? fun s => decide (s.name = n)).isSome
def fAtt (l : List Att) (n : ByteArray) : Att := (l.find? fun s => decide (s.name = n)).getD attZ
def hAtt (l : List Att) (n : ByteArray) : Bool := (l.find? fun s => decide (s.name = n)).isSome
theorem fRul_mem (l : List Rul) (n : ByteArray) : fRul l n ∈ l ∨ fRul l n = rulZ := by
 unfold fRul
 cases h : l.find? fun s => decide (s.name = n) with
 | none => exact .inr rfl
 | some a => exact .inl (List.mem_of_find?_eq_some h)
theorem fSym_mem (l : List Sym) (n : ByteArray) : fSym l n ∈ l ∨ fSym l n = symZ := by
 unfold fSym
 cases h : l.find? fun s => decide (s.name = n) with
 | none => exact .inr rfl
 | some a => exact .inl (List.mem_of_find?_eq_some h)
theorem smRu_f {g : Gram} (h : smGr g) (n : ByteArray) : smRu (fRul g.rules n) := by
 rcases fRul_mem g.rules n with h1 | h1
 ·exact h.2.2.2 _ h1
 ·rw [h1]; simp [smRu, rulZ]
theorem smSy_f {g : Gram} (h : smGr g) (n : ByteArray) : smSy (fSym g.syms n) := by
 rcases fSym_mem g.syms n with h1 | h1
 ·exact h.2.2.1 _ h1
 ·rw [h1]; simp [smSy, symZ]
def symAt (r : Rul) (pos : Int) : ByteArray := if pos = 0 then r.left else if 1 ≤ pos ∧ pos ≤ r.right.length then r.right.getD (pos - 1).toNat noS else noS
def nodZ : Nod := ⟨0, 0, 0, 0, noS, []⟩
def symN (g : Gram) (t : List Nod) (i : Int) : ByteArray := if 0 ≤ i ∧ i < t.length then (fRul g.rules (t.getD i.toNat nodZ).rule).left else noS
theorem symN_in {g : Gram} {t : List Nod} {i : Nat} (h : i < t.length) : symN g t i = (fRul g.rules t[i].rule).left := by
 simp only [symN, Int.toNat_natCast]
 rw [if_pos (by omega), getD_lt h]
theorem symN_out {g : Gram} {t : List Nod} {i : Int} (h : ¬ (0 ≤ i ∧ i < t.length)) : symN g t i = noS := by simp only [symN, if_neg h]
theorem ixOf_cases {α : Type} (p : α → Bool) (xs : List α) : ixOf p xs = -1 ∨ (0 ≤ ixOf p xs ∧ ixOf p xs < xs.length) := by
 unfold ixOf
 cases h : xs.findIdx? p with
 | none => exact .inl rfl
 | some i =>
  obtain ⟨h1, _, _⟩ := List.findIdx?_eq_some_iff_getElem.1 h
  exact .inr ⟨by simp, by simpa using h1⟩
end Go.Gh
/- Instances of a tree. -/
namespace Go.Gh
set_option linter.unusedSimpArgs false
set_option linter.unusedVariables false
end Go.Gh
/- Grammars as arguments of statements. -/
namespace Go.Gh
set_option linter.unusedSimpArgs false
set_option linter.unusedVariables false
end Go.Gh
/- Trees of a grammar; types of expressions. -/
namespace Go.Gh
set_option linter.unusedSimpArgs false
set_option linter.unusedVariables false
def gid (t : List Nod) (i : Nat) : Bool := decide (1 ≤ (t.getD i nodZ).id ∧ (t.getD i nodZ).id ≤ 999) && !((t.take i).any fun y => decide (y.id = (t.getD i nodZ).id))
def idsV (t : List Nod) : Bool := (List.range t.length).all (gid t)
theorem idsV_bad {t : List Nod} {i : Nat} (h : i < t.length) (hb : gid t i = false) : idsV t = false := by
 simp only [idsV, List.all_eq_false, List.mem_range]
 exact ⟨i, h, by simp [hb]⟩
theorem idsV_ok {t : List Nod} (h : ∀ j, j < t.length → gid t j = true) : idsV t = true := by
 simp only [idsV, List.all_eq_true, List.mem_range]
 exact h
def fitV (g : Gram) (x : Nod) (parent place : Int) (sym : ByteArray) : Bool :=
 hRul g.rules x.rule && decide ((fRul g.rules x.rule).left = sym) && decide (x.parent = parent) && decide (x.place = place) && decide (x.kids.length = (fRul g.rules x.rule).right.length) &&
 decide (-1000000 ≤ x.lit ∧ x.lit ≤ 1000000) && ((fRul g.rules x.rule).lit || decide (x.lit = 0))
def kidsW (w : Nat → Int → Int → ByteArray → Int) (i : Nat) : List Int → List ByteArray → Int → Int → Int
 | c :: cs, s :: ss, k, at' => if c ≠ at' then -1 else if w at'.toNat i (k + 1) s < 0 then -1 else kidsW w i cs ss (k + 1) (w at'.toNat i (k + 1) s)
 | _, _, _, at' => at'
def walkE (g : Gram) (t : List Nod) : Nat → Nat → Int → Int → ByteArray → Int
 | 0, _, _, _, _ => -1
 | f + 1, i, p, q, s => if i < t.length then
   if fitV g (t.getD i nodZ) p q s then kidsW (walkE g t f) i (t.getD i nodZ).kids (fRul g.rules (t.getD i nodZ).rule).right 0 (i + 1) else -1
  else -1
theorem kidsW_ge {w : Nat → Int → Int → ByteArray → Int} {n : Int} {i : Nat} (hw : ∀ a p q s, 0 ≤ w a p q s → (a : Int) < w a p q s ∧ w a p q s ≤ n) : ∀ (cs : List Int) (ss : List ByteArray) (k a : Int), 0 ≤ a → a ≤ n →
  kidsW w i cs ss k a = -1 ∨ (a ≤ kidsW w i cs ss k a ∧ kidsW w i cs ss k a ≤ n)
 | [], _, k, a, h0, h1 => by right; simp [kidsW]; omega
 | _ :: _, [], k, a, h0, h1 => by right; simp [kidsW]; omega
 | c :: cs, s :: ss, k, a, h0, h1 => by
  simp only [kidsW]
  split
  ·exact .inl rfl
  split
  ·exact .inl rfl
  ·rename_i h2
   have h3 := hw a.toNat i (k + 1) s (by omega)
   rcases kidsW_ge hw cs ss (k + 1) (w a.toNat i (k + 1) s) (by omega) h3.2 with h | h
   ·exact .inl h
   ·exact .inr (by omega)
theorem walkE_ge {g : Gram} {t : List Nod} : ∀ (f i : Nat) (p q : Int) (s : ByteArray), 0 ≤ walkE g t f i p q s → (i : Int) < walkE g t f i p q s ∧ walkE g t f i p q s ≤ t.length
 | 0, i, p, q, s, h => by simp [walkE] at h
 | f + 1, i, p, q, s, h => by
  simp only [walkE] at h ⊢
  split at h
  ·rename_i hi
   rw [if_pos hi]
   split at h
   ·rename_i hf
    rw [if_pos hf]
    rcases kidsW_ge (w := walkE g t f) (n := t.length) (i := i) (fun a p q s h => walkE_ge f a p q s h) (t.getD i nodZ).kids (fRul g.rules (t.getD i nodZ).rule).right 0 (i + 1) (by omega) (by omega) with h2 | h2
    ·rw [h2] at h; omega
    ·omega
   ·omega
  ·omega
theorem walkE_out {g : Gram} {t : List Nod} {f i : Nat} {p q : Int} {s : ByteArray} (h : t.length ≤ i) : walkE g t f i p q s = -1 := by
 cases f with
 | zero => rfl
 | succ f => simp only [walkE]; rw [if_neg (by omega)]
def treeOf (g : Gram) (t : List Nod) (s : ByteArray) : Bool := decide (1 ≤ t.length ∧ t.length ≤ 16) && (idsV t && decide (walkE g t t.length 0 (-1) 0 s = t.length))
def startS (g : Gram) : ByteArray := if 0 < g.syms.length then (g.syms.getD 0 symZ).name else noS
theorem kidsW_step {w : Nat → Int → Int → ByteArray → Int} {i k : Nat} {cs : List Int} {ss : List ByteArray} {a : Int} (h1 : k < cs.length) (h2 : k < ss.length) :
  kidsW w i (cs.drop k) (ss.drop k) k a = if cs[k] ≠ a then -1 else if w a.toNat i ((k : Int) + 1) ss[k] < 0 then -1 else kidsW w i (cs.drop (k + 1)) (ss.drop (k + 1)) ((k + 1 : Nat) : Int) (w a.toNat i ((k : Int) + 1) ss[k]) := by
 rw [List.drop_eq_getElem_cons h1, List.drop_eq_getElem_cons h2, kidsW]
 simp only [Int.natCast_add, Int.natCast_one]
theorem kidsW_end {w : Nat → Int → Int → ByteArray → Int} {i k : Nat} {cs : List Int} {ss : List ByteArray} {a : Int} {p : Int} (h1 : cs.length ≤ k) : kidsW w i (cs.drop k) (ss.drop k) p a = a := by
 rw [List.drop_eq_nil_of_le h1]; cases ss.drop k <;> rfl
theorem fitV_iff {g : Gram} {x : Nod} {p q : Int} {s : ByteArray} : fitV g x p q s = true ↔ hRul g.rules x.rule = true ∧ (fRul g.rules x.rule).left = s ∧ x.parent = p ∧ x.place = q ∧ x.kids.length = (fRul g.rules x.rule).right.length ∧ (-1000000 ≤ x.lit ∧ x.lit ≤ 1000000) ∧
  ((fRul g.rules x.rule).lit = true ∨ (fRul g.rules x.rule).lit = false ∧ x.lit = 0) := by
 simp only [fitV, Bool.and_eq_true, decide_eq_true_eq, Bool.or_eq_true, and_assoc]
 cases (fRul g.rules x.rule).lit <;> simp
theorem okV1 (n : Int) : okV n 1 = decide (-1000000 ≤ n ∧ n ≤ 1000000) := by
 simp only [okV, coV, satV]
 by_cases h : -1000000 ≤ n ∧ n ≤ 1000000
 ·simp [h]; omega
 ·simp [h]; omega
theorem gid_f1 {t : List Nod} {i : Nat} (h : i < t.length) (hb : ¬ (1 ≤ t[i].id ∧ t[i].id ≤ 999)) : gid t i = false := by
 simp only [gid, getD_lt h, decide_eq_false hb, Bool.false_and]
theorem gid_f2 {t : List Nod} {i : Nat} (h : i < t.length) (hb : ((t.take i).any fun y => decide (y.id = t[i].id)) = true) : gid t i = false := by
 simp only [gid, getD_lt h, hb, Bool.not_true, Bool.and_false]
theorem gid_t {t : List Nod} {i : Nat} (h : i < t.length) (ha : 1 ≤ t[i].id ∧ t[i].id ≤ 999) (hb : ((t.take i).any fun y => decide (y.id = t[i].id)) = false) : gid t i = true := by
 simp only [gid, getD_lt h, decide_eq_true ha, hb, Bool.not_false, Bool.and_true]
def hasI (l : List Int) (x : Int) : Bool := l.any fun y => decide (y = x)
theorem hasI_hit {l : List Int} {x : Int} {i : Nat} (h : i < l.length) (e : l[i] = x) : hasI l x = true := by
 simp only [hasI, List.any_eq_true]; exact ⟨l[i], List.getElem_mem h, by simp [e]⟩
theorem hasI_none {l : List Int} {x : Int} (h : ∀ y ∈ l, decide (y = x) = false) : hasI l x = false := by
 simp only [hasI, List.any_eq_false]; intro y hy; simpa using h y hy
theorem hasI_map (t : List Nod) (x : Int) : hasI (t.map (·.id)) x = t.any fun y => decide (y.id = x) := by
 simp only [hasI, List.any_map]; rfl
end Go.Gh
namespace Go.Gh
theorem takeApp2 {α β : Type} (f : β → GV) (h : α → β) (l : List α) (i : Nat) (hi : i < l.length) : List.take i (List.map f (List.map h (List.take i l))) ++ [f (h l[i])] = List.map f (List.map h (List.take (i + 1) l)) := by
 have := takeApp (fun a => f (h a)) l i hi
 simp only [List.map_map]; exact this
end Go.Gh
namespace Go.Gh
end Go.Gh
/- Valid expressions, and their values. -/
namespace Go.Gh
set_option linter.unusedSimpArgs false
set_option linter.unusedVariables false
def nodeV (e : Exp) : Bool :=
 decide (1 ≤ e.kind ∧ e.kind ≤ 8) && bareV e &&
 (if e.kind = 1 then decide (1 ≤ e.type ∧ e.type ≤ 3) && okV e.n e.type && decide (0 ≤ e.n) else
  if e.kind = 3 then decide (0 ≤ e.pos ∧ e.pos ≤ 3) && nameV e.name else
  if e.kind = 6 then decide (0 ≤ e.pos ∧ e.pos ≤ 3) else
  if e.kind = 4 then decide (1 ≤ e.n ∧ e.n ≤ 12) else
  if e.kind = 8 then nameV e.sym && nameV e.name else true)
def validE (e : Exp) : Bool := decide (cntE e ≤ 24) && decide (dpE e ≤ 6) && allE nodeV e
end Go.Gh
namespace Go.Gh
theorem Bor.clo {H : GH} {f : Nat} {gs gs' : List GV} (h : BorL H gs gs') : Bor H (.clo f gs) (.clo f gs') := fun w D Ω v hst hm => by
 simp only [MV] at hm ⊢
 obtain ⟨h0, vs, h1, h2⟩ := hm
 exact ⟨h0, vs, h1, h w D Ω vs hst h2⟩
theorem Bor.rop {H : GH} {sz : Nat} {g g' : GV} (h : Bor H g g') : Bor H (.rop sz g) (.rop sz g') := fun w D Ω v hst hm => by
 simp only [MV] at hm ⊢
 obtain ⟨h0, b, off, u, h1, h2, h3, h4, h5, h6⟩ := hm
 exact ⟨h0, b, off, u, h1, .inl h2, h3, h4, h5, h w D Ω u hst h6⟩
theorem allE_no {p : Exp → Bool} {e : Exp} {i : Nat} (h : i < e.args.length) (hb : allE p e.args[i] = false) : allE p e = false := by
 rw [allE_eq]
 have : e.args.all (allE p) = false := by
  rw [List.all_eq_false]
  exact ⟨e.args[i], List.getElem_mem h, by simp [hb]⟩
 rw [this, Bool.and_false]
theorem allE_yes {p : Exp → Bool} {e : Exp} (h : ∀ a ∈ e.args, allE p a = true) : allE p e = p e := by
 rw [allE_eq, List.all_eq_true.2 h, Bool.and_true]
end Go.Gh
namespace Go.Gh
end Go.Gh
/- Grammars of one's own. -/
namespace Go.Gh
set_option linter.unusedSimpArgs false
set_option linter.unusedVariables false
set_option maxRecDepth 20000
theorem Bor.seen {α : Type} {f g : α → GV} {H : GH} {r sz n : Nat} {l : List α} (hv : ∀ a, view (f a) = g a) (hr : hget H r = some (sz, l.map f)) (hl : l.length = n) : Bor H (.own r sz 0 n) (.sl sz (l.map g)) := by
 have := Bor.own (k := 0) (n := n) hr (by simp [hl])
 rw [List.drop_zero, List.take_of_length_le (by simp [hl]), viewL_eq, List.map_map] at this
 have e : l.map (view ∘ f) = l.map g := List.map_congr_left fun a _ => hv a
 rwa [e] at this
section
variable {P : Program} {α : Type} {f : α → GV} {k kx sz : Nat} {ag : Bool}
end
theorem FR.perm {g : GV} {H L T : GH} (hs : subH H L) : FR g (H ++ T) g (L ++ T) := by
 intro w D Ω v hv hst
 obtain ⟨Ω', h1, h2⟩ := St.sub hst hs
 exact ⟨D, Ω', hv, h1, ⟨fun _ h => h, fun _ _ h => .inl h, fun b hb _ => h2 b hb, Kept.refl _ _, rfl, rfl, rfl⟩⟩
end Go.Gh
/- Trees cut out of trees. -/
namespace Go.Gh
def movN (b : Int) (x : Nod) : Nod := { x with parent := IntKind.i64.wrap (x.parent + b), kids := x.kids.map fun k => IntKind.i64.wrap (k + b) }
def ndZ : Nod := ⟨0, 0, 0, 0, noS, []⟩
def rootN (x : Nod) : Nod := { x with parent := -1, place := 0 }
def subK (t : List Nod) (i k : Nat) : Nod := if k = 0 then rootN (movN (0 - (i : Int)) (t.getD (i + k) ndZ)) else movN (0 - (i : Int)) (t.getD (i + k) ndZ)
def subT (t : List Nod) (i : Int) : List Nod := (List.range (treeSize t i).toNat).map (subK t i.toNat)
theorem subT_out {t : List Nod} {i : Int} (h : ¬ (0 ≤ i ∧ i < t.length)) : subT t i = [] := by simp [subT, treeSize, h]
theorem subT_in {t : List Nod} {i : Nat} (h : i < t.length) : subT t i = (List.range (subLen t i)).map (subK t i) := by
 have : (0 : Int) ≤ i ∧ (i : Int) < t.length := by omega
 simp [subT, treeSize, this]
theorem treeSize_in {t : List Nod} {i : Nat} (h : i < t.length) : treeSize t i = subLen t i := by
 have : (0 : Int) ≤ i ∧ (i : Int) < t.length := by omega
 simp [treeSize, this]
theorem range_step {α : Type} (f : Nat → α) (k : Nat) : ((List.range k).map f) ++ [f k] = (List.range (k + 1)).map f := by
 simp [List.range_succ]
theorem FE.closeL {env : Env} {H : GH} {r r1 sz sz1 j n : Nat} {L gs ks : List GV} (hne : r ≠ r1) (hr : hget H r = some (sz, L ++ [.agg gs])) (hg : gs[j]? = some (.own r1 sz1 0 n)) (hr1 : hget H r1 = some (sz1, ks)) (hn : ks.length = n) :
  FE env H env (hdel (hset H r (L ++ [.agg (gs.set j (.osl sz1 ks))])) r1) := by
 have := FE.close (env := env) (i := L.length) hne hr (by simp) hg hr1 hn
 simpa using this
end Go.Gh
/- What the laws' marks are: lists marked one element after the other; expressions; instances; grammars. -/
namespace Go.Gh
set_option linter.unusedSimpArgs false
set_option linter.unusedVariables false
section
variable {α : Type} (w : α → Nat) (m : α → Int → α)
end
section
variable {α : Type} {f : α → α}
theorem mapm_len {l : List α} {c : Nat} : ((l.take c).map f ++ l.drop c).length = l.length := by simp; omega
theorem mapm_get {l : List α} {c : Nat} (h : c < l.length) (h' : c < ((l.take c).map f ++ l.drop c).length) : ((l.take c).map f ++ l.drop c)[c] = l[c] := by
 rw [List.getElem_append_right (by simp; omega)]
 have e : c + (c - ((l.take c).map f).length) = c := by simp; omega
 simp only [List.getElem_drop, e]
theorem mapm_set {l : List α} {c : Nat} (h : c < l.length) : ((l.take c).map f ++ l.drop c).set c (f l[c]) = (l.take (c + 1)).map f ++ l.drop (c + 1) := by
 rw [List.set_append_right _ _ (by simp; omega)]
 have e : c - ((l.take c).map f).length = 0 := by simp; omega
 rw [e, List.drop_eq_getElem_cons h, List.set_cons_zero, List.take_add_one, List.getElem?_eq_getElem h, List.map_append, List.append_assoc]
 rfl
end
theorem St.exchC {w : World} {D : Nat → Prop} {H : GH} {Ω : List Nat} (h : St w D H Ω) {r sz i : Nat} {es : List GV} {e e' : GV} (hr : hget H r = some (sz, es)) (he : es[i]? = some e) (hx : ∀ v F, MV w D e v F → ∃ v', v'.cells = v.cells ∧ MV w D e' v' F) : St w D (hset H r (es.set i e')) Ω := by
 obtain ⟨Ω1, F', Ω2, hΩ, hR, hput, _⟩ := HM.take h.hm hr
 obtain ⟨b, c, T, fz, F0, k1, k2, k3, k4, k5, k6, k7⟩ := hR.es_ne (fun e => by rw [e] at he; simp at he)
 obtain ⟨pre, v, post, A1, Ai, A2, m1, m2, m3, m4, m5, m6, m7⟩ := MF.split sz es _ F0 i _ k7 he
 obtain ⟨v', hc, hv'⟩ := hx _ _ m6
 have hmf := m7 w D (fun _ => True) e' v' Ai (Kept.refl _ _) (fun _ _ => trivial) (fun _ h => h) (fun _ _ => trivial) (by rw [hc]; exact m3) (by unfold okc at m4 ⊢; rw [hc]; exact m4) hv'
 rw [hc, ← m1, ← m5] at hmf
 have hRM : RM w D r sz (es.set i e') F' := .inl ⟨b, c, T, fz, F0, k1, k2, k3, by simpa using k4, by simpa using k5, k6, by simpa using hmf⟩
 have hfin := hput w D (fun _ => True) _ _ (Kept.refl _ _) (fun _ _ => trivial) (fun _ h => h) (fun _ _ => trivial) hRM
 rw [← hΩ] at hfin
 exact ⟨hfin, h.nd, by rw [names_hset]; exact h.nn, h.dj, h.ds⟩
theorem FE.exchC {env : Env} {H : GH} {r sz i : Nat} {es : List GV} {e e' : GV} (hr : hget H r = some (sz, es)) (he : es[i]? = some e) (hx : ∀ w D v F, MV w D e v F → ∃ v', v'.cells = v.cells ∧ MV w D e' v' F) : FE env H env (hset H r (es.set i e')) := by
 intro w0 D0 O0 N a w ⟨hdf, hsz, D, Ω, ρw, hi⟩
 exact ⟨hdf, hsz, D, Ω, ρw, hi.st' (hi.st.exchC hr he (hx w D)) (fun _ h => h)⟩
theorem MV.unagg {w : World} {D : Nat → Prop} {g : GV} : ∀ v F, MV w D (.agg [g]) v F → ∃ v', v'.cells = v.cells ∧ MV w D g v' F := fun v F h => by
 simp only [MV] at h
 obtain ⟨vs, rfl, h1, h2⟩ := h
 simp only [ML] at h2
 obtain ⟨u, vs', F1, F2, rfl, rfl, h3, rfl, rfl⟩ := h2
 have ho := h1 u (by simp)
 refine ⟨u, ?_, by simpa using h3⟩
 cases u <;> first | rfl | (simp [Value.oneCell'] at ho)
theorem FE.unagg {env : Env} {H : GH} {r sz : Nat} {g : GV} (hr : hget H r = some (sz, [.agg [g]])) : FE env H env (hset H r [g]) :=
 FE.exchC (i := 0) hr rfl (fun _ _ => MV.unagg)
theorem FE.virtU {env : Env} {H : GH} {r r1 sz sz1 : Nat} (hr : hget H r = some (sz, [.agg [.val (.slice none 0 0)]])) (ho : r1 % 4 = 1) (hn : r1 ∉ names H) :
  FE env H env ((r1, sz1, []) :: hset H r [.own r1 sz1 0 0]) := by
 have h1 : FE env H env ((r1, sz1, []) :: hset H r [.agg [.own r1 sz1 0 0]]) := FE.virtF (i := 0) (j := 0) hr rfl rfl ho hn
 have hne : r1 ≠ r := fun e => hn (e ▸ mem_of_hget hr)
 have h2 := FE.unagg (env := env) (H := (r1, sz1, []) :: hset H r [.agg [.own r1 sz1 0 0]]) (r := r) (by rw [hget_old hne, hget_set hr])
 rw [hset_old hne, hset_set] at h2
 exact FE.trans h1 h2
theorem mkEnd_drop (k : Int) (t : List Nod) (i : Nat) : mkEnd k (t.drop i) ≤ mkEnd k t := by
 have e := mkEnd_eq k t
 have e2 := mkEnd_eq k (t.drop i)
 have h1 : ((t.drop i).map (·.kids.length)).sum ≤ (t.map (·.kids.length)).sum := by
  have := congrArg (fun l : List Nod => (l.map (·.kids.length)).sum) (List.take_append_drop i t)
  simp only [List.map_append, List.sum_append] at this
  omega
 have h2 : (t.drop i).length ≤ t.length := by simp
 omega
theorem mkEnd_congr {k : Int} : ∀ {t u : List Nod}, t.map (·.kids.length) = u.map (·.kids.length) → mkEnd k t = mkEnd k u := by
 intro t u h
 have hl := congrArg List.length h
 simp only [List.length_map] at hl
 rw [mkEnd_eq, mkEnd_eq, h, hl]
theorem subT_kids (t : List Nod) (i : Nat) (h : i < t.length) : (subT t i).map (·.kids.length) = ((t.drop i).take (subLen t i)).map (·.kids.length) := by
 have hle := subLen_le h
 rw [subT_in h]
 apply List.ext_getElem
 ·simp; omega
 ·intro k h1 h2
  simp only [List.length_map, List.length_range] at h1
  simp only [List.getElem_map, List.getElem_range, List.getElem_take, List.getElem_drop, subK]
  have e : t.getD (i + k) ndZ = t[i + k] := getD_lt (by omega)
  rw [e]; split <;> simp [movN, rootN]
theorem mkEnd_subT (t : List Nod) (i : Int) : mkEnd 1 (subT t i) ≤ mkEnd 1 t := by
 by_cases hi : 0 ≤ i ∧ i < t.length
 ·obtain ⟨i, rfl⟩ : ∃ k : Nat, i = k := ⟨i.toNat, by omega⟩
  have hi' : i < t.length := by omega
  rw [mkEnd_congr (subT_kids t i hi')]
  exact Int.le_trans (mkEnd_take _) (mkEnd_drop _ _ _)
 ·rw [subT_out hi]; exact mkEnd_le 1 t
end Go.Gh
/- A subtree of a tree replaced. -/
namespace Go.Gh
set_option linter.unusedSimpArgs false
set_option linter.unusedVariables false
theorem neN (r : Nat) (x : Nat × List GV) (H : GH) : (names ((r, x) :: H)).Nodup = (neA r H ∧ (names H).Nodup) := by
 apply propext
 constructor
 ·intro h
  have h2 := h
  simp only [names, List.map_cons, List.nodup_cons] at h2
  exact ⟨neA_of h2.1, h2.2⟩
 ·rintro ⟨h1, h2⟩
  simp only [names, List.map_cons, List.nodup_cons]
  refine ⟨?_, h2⟩
  clear h2
  induction H with
  | nil => simp
  | cons y H ih =>
   obtain ⟨q, y⟩ := y
   simp only [neA_cons] at h1
   simp only [List.map_cons, List.mem_cons, not_or]
   exact ⟨h1.1, ih h1.2.2⟩
theorem FE.closeL2 {env : Env} {H : GH} {r r1 sz sz1 j n : Nat} {L gs ks : List GV} (hne : ¬ r = r1) (hg : gs[j]? = some (.own r1 sz1 0 n)) (hn : ks.length = n) :
  FE env ((r, sz, L ++ [.agg gs]) :: (r1, sz1, ks) :: H) env ((r, sz, L ++ [.agg (gs.set j (.osl sz1 ks))]) :: H) := by
 have h := FE.closeL (env := env) (H := (r, sz, L ++ [.agg gs]) :: (r1, sz1, ks) :: H) (r := r) (r1 := r1) hne hget_new hg (by rw [hget_old hne, hget_new]) hn
 rwa [hset_new, hdel_old hne, hdel_new] at h
theorem FE.virtU1 {env : Env} {H : GH} {r r1 sz sz1 : Nat} (ho : r1 % 4 = 1) (hn : r1 ∉ names ((r, sz, [.agg [.val (.slice none 0 0)]]) :: H)) :
  FE env ((r, sz, [.agg [.val (.slice none 0 0)]]) :: H) env ((r1, sz1, []) :: (r, sz, [.own r1 sz1 0 0]) :: H) := by
 have h := FE.virtU (env := env) (H := (r, sz, [.agg [.val (.slice none 0 0)]]) :: H) (r := r) (r1 := r1) (sz1 := sz1) hget_new ho hn
 rwa [hset_new] at h
theorem wrap_w (a b : Int) : IntKind.i64.wrap (IntKind.i64.wrap a + b) = IntKind.i64.wrap (a + b) := by
 simp only [IntKind.wrap, IntKind.bits, IntKind.signed]
 simp
 try omega
theorem get_mid (st : List GV) (X : GV) (L : List GV) (h : st.length < (st ++ X :: L).length) : (st ++ X :: L)[st.length] = X := by
 simp
theorem set_mid (st : List GV) (X Y : GV) (L : List GV) : (st ++ X :: L).set st.length Y = st ++ Y :: L := by
 simp
theorem Bor.ptr {H : GH} {r sz : Nat} {g : GV} (hr : hget H r = some (sz, [g])) : Bor H (.ptr r sz 0 0) (.rop sz (view g)) := fun w D Ω v h hv => by
 obtain ⟨F, hF, hFΩ⟩ := h.hm.mem hr
 simp only [MV] at hv ⊢
 obtain ⟨_, b, rfl, hb, rfl⟩ := hv
 rcases hF with ⟨b', c, T, fz, F', k1, k2, k3, k4, k5, k6, k7⟩ | ⟨k1, _, _⟩
 ·have : b' = b := by omega
  subst this
  simp only [MF] at k7
  obtain ⟨u, cs', F1, F2, e1, e2, e3, rfl, e5, rfl, rfl⟩ := k7
  refine ⟨trivial, b', 0, u, by simp, .inr (hFΩ _ (by simp [k6])), ⟨c, T, fz, k2, fun j x hj => ?_⟩, e3, e2, MV.view (fun _ => .inl) g u F1 (fun x hx => .inr (hFΩ x (by simp [k6, hx]))) e5⟩
  have e1' : c.toList.take (1 * sz) = u.cells.toList := by simpa using e1
  have h2 : (c.toList.take (1 * sz))[j]? = some x := by rw [e1']; exact hj
  rw [List.getElem?_take] at h2
  split at h2
  ·simpa using h2
  ·cases h2
 ·omega
theorem FE.ropV {env : Env} {H : GH} {r sz j : Nat} {g : GV} (hj : eget env j = some (.ptr r sz 0 0)) (hr : hget H r = some (sz, [g])) : FE env H (eset env j (.rop sz (view g))) (hdel H r) := by
 intro w0 D0 O0 N a w ⟨hdf, hsz, D, Ω, ρw, hi⟩
 obtain ⟨F, Ω', h1, h2, h3, h4⟩ := take_one hi.st hr
 refine ⟨hdf, hsz, fun b => D b ∨ b ∈ F, Ω', ρw, fun i x hg hne => ?_, fun i n hg => ?_, hi.ri, fun i b hb => ?_, h2, hi.ev.trans ⟨fun _ h => .inl h, fun b hb hD => hD.elim .inl fun h => .inr (h3 b h), fun b hb _ => h4 b hb, Kept.refl _ _, rfl, rfl, rfl⟩⟩
 ·rw [eget_eset] at hg
  split at hg
  ·rename_i e
   subst e
   simp only [Option.some.injEq] at hg
   subst hg
   obtain ⟨v, m1, m2⟩ := hi.em j _ hj (fun n e => by cases e)
   exact ⟨v, m1, Bor.ptr (H := [(r, sz, [g])]) hget_new w D F v h1 m2⟩
  ·obtain ⟨v, m1, m2⟩ := hi.em i x hg hne
   exact ⟨v, m1, m2.more fun _ => .inl⟩
 ·rw [eget_eset] at hg
  split at hg
  ·cases hg
  ·exact hi.rw i n hg
 ·obtain ⟨r1, r2, r3, r4⟩ := hi.rd i b hb
  exact ⟨fun hD => hD.elim r1 fun h => r2 (h3 b h), fun h => r2 (h4 b h), r3, r4⟩
theorem FE.ropV1 {env : Env} {H : GH} {r sz : Nat} {g g' : GV} (j : Nat) (hj : eget env j = some (.ptr r sz 0 0)) (hv : view g = g') : FE env ((r, sz, [g]) :: H) (eset env j (.rop sz g')) H := by
 subst hv
 have h := FE.ropV (H := (r, sz, [g]) :: H) hj hget_new
 rwa [hdel_new] at h
def shK (e b k : Int) : Int := if e ≤ k then IntKind.i64.wrap (k + b) else k
def outN (e b : Int) (x : Nod) : Nod := { x with parent := shK e b x.parent, kids := x.kids.map (shK e b) }
def putK (sub : List Nod) (n : Nod) (i : Int) (k : Nat) : Nod := if k = 0 then { movN i (sub.getD k ndZ) with parent := n.parent, place := n.place } else movN i (sub.getD k ndZ)
def putT (sub : List Nod) (n : Nod) (i : Int) : List Nod := (List.range sub.length).map (putK sub n i)
def repT (t : List Nod) (i : Int) (sub : List Nod) : List Nod :=
 if 0 ≤ i ∧ i < t.length ∧ sub ≠ [] then
  (t.take i.toNat).map (outN (i + subLen t i.toNat) (sub.length - subLen t i.toNat)) ++ (putT sub (t.getD i.toNat ndZ) i ++ (t.drop (i.toNat + subLen t i.toNat)).map (outN (i + subLen t i.toNat) (sub.length - subLen t i.toNat)))
 else t
def repP (t : List Nod) (i n : Nat) (sub : List Nod) (F : Nod → Nod) (x : Nod) (k : Nat) : List Nod :=
 if k ≤ i then (t.take k).map F else (t.take i).map F ++ (putT sub x i ++ ((t.drop (i + n)).take (k - (i + n))).map F)
theorem putT_len (sub : List Nod) (n : Nod) (i : Int) : (putT sub n i).length = sub.length := by simp [putT]
theorem repP_lo {t : List Nod} {i n : Nat} {sub : List Nod} {F : Nod → Nod} {x : Nod} {k : Nat} (h : k < i) (hk : k < t.length) : repP t i n sub F x (k + 1) = repP t i n sub F x k ++ [F t[k]] := by
 simp only [repP, if_pos (show k + 1 ≤ i by omega), if_pos (show k ≤ i by omega)]
 rw [List.take_add_one, List.getElem?_eq_getElem hk, List.map_append]; rfl
theorem repP_at {t : List Nod} {i n : Nat} {sub : List Nod} {F : Nod → Nod} {x : Nod} (hn : 0 < n) : repP t i n sub F x (i + 1) = repP t i n sub F x i ++ putT sub x i := by
 simp only [repP, if_neg (show ¬ i + 1 ≤ i by omega), if_pos (Nat.le_refl i)]
 rw [show i + 1 - (i + n) = 0 by omega]; simp
theorem repP_in {t : List Nod} {i n : Nat} {sub : List Nod} {F : Nod → Nod} {x : Nod} {k : Nat} (h : i < k) (h2 : k < i + n) : repP t i n sub F x (k + 1) = repP t i n sub F x k := by
 simp only [repP, if_neg (show ¬ k + 1 ≤ i by omega), if_neg (show ¬ k ≤ i by omega)]
 rw [show k + 1 - (i + n) = 0 by omega, show k - (i + n) = 0 by omega]
theorem repP_hi {t : List Nod} {i n : Nat} {sub : List Nod} {F : Nod → Nod} {x : Nod} {k : Nat} (hn : 0 < n) (h : i + n ≤ k) (hk : k < t.length) : repP t i n sub F x (k + 1) = repP t i n sub F x k ++ [F t[k]] := by
 simp only [repP, if_neg (show ¬ k + 1 ≤ i by omega), if_neg (show ¬ k ≤ i by omega)]
 have hd : k - (i + n) < (t.drop (i + n)).length := by simp; omega
 have e : i + n + (k - (i + n)) = k := by omega
 rw [show k + 1 - (i + n) = k - (i + n) + 1 by omega, List.take_add_one, List.getElem?_eq_getElem hd, List.map_append, List.getElem_drop]
 simp only [e, List.append_assoc]
 rfl
theorem repP_end {t : List Nod} {i n : Nat} {sub : List Nod} {F : Nod → Nod} {x : Nod} (hn : 0 < n) (h : i + n ≤ t.length) : repP t i n sub F x t.length = (t.take i).map F ++ (putT sub x i ++ (t.drop (i + n)).map F) := by
 simp only [repP, if_neg (show ¬ t.length ≤ i by omega)]
 rw [List.take_of_length_le (l := t.drop (i + n)) (by simp)]
theorem repP_len (t : List Nod) (i n : Nat) (sub : List Nod) (F : Nod → Nod) (x : Nod) (k : Nat) : (repP t i n sub F x k).length ≤ t.length + sub.length + t.length := by
 unfold repP
 split
 ·simp; omega
 ·simp [putT_len]; omega
theorem repT_len (t : List Nod) (i : Int) (sub : List Nod) : (repT t i sub).length ≤ t.length + sub.length := by
 unfold repT
 split
 ·simp [putT_len]; omega
 ·omega
theorem take_snocM {α β : Type} (f : α → β) {l : List α} {k : Nat} (h : k < l.length) : (l.take k).map f ++ [f l[k]] = (l.take (k + 1)).map f := by
 rw [List.take_add_one, List.getElem?_eq_getElem h, List.map_append]; rfl
theorem putT_take {sub : List Nod} {n : Nod} {i : Int} {k : Nat} (h : k < sub.length) : (putT sub n i).take k ++ [putK sub n i k] = (putT sub n i).take (k + 1) := by
 have hl : k < (putT sub n i).length := by rw [putT_len]; exact h
 rw [List.take_add_one, List.getElem?_eq_getElem hl]
 simp [putT]
theorem putT_kids (sub : List Nod) (n : Nod) (i : Int) : (putT sub n i).map (·.kids.length) = sub.map (·.kids.length) := by
 apply List.ext_getElem
 ·simp [putT_len]
 ·intro k h1 h2
  have hk : k < sub.length := by simpa using h2
  simp only [putT, List.getElem_map, List.getElem_range, putK]
  rw [getD_lt hk]
  split <;> simp [movN]
theorem outN_kids (e b : Int) (l : List Nod) : (l.map (outN e b)).map (·.kids.length) = l.map (·.kids.length) := by
 rw [List.map_map]; exact List.map_congr_left fun x _ => by simp [outN]
theorem kids_part (t : List Nod) (i n : Nat) : ((t.take i).map (·.kids.length)).sum + ((t.drop (i + n)).map (·.kids.length)).sum ≤ (t.map (·.kids.length)).sum := by
 have e1 := congrArg (fun l : List Nod => (l.map (·.kids.length)).sum) (List.take_append_drop i t)
 have e2 := congrArg (fun l : List Nod => (l.map (·.kids.length)).sum) (List.take_append_drop n (t.drop i))
 simp only [List.map_append, List.sum_append, List.drop_drop] at e1 e2
 omega
theorem repT_kids (t : List Nod) (i : Int) (sub : List Nod) : ((repT t i sub).map (·.kids.length)).sum ≤ (t.map (·.kids.length)).sum + (sub.map (·.kids.length)).sum := by
 unfold repT
 split
 ·rw [List.map_append, List.map_append, outN_kids, outN_kids, putT_kids, List.sum_append, List.sum_append]
  have := kids_part t i.toNat (subLen t i.toNat)
  omega
 ·omega
theorem mkEnd_repT (t : List Nod) (i : Int) (sub : List Nod) : mkEnd 1 (repT t i sub) ≤ mkEnd 1 t + mkEnd 1 sub := by
 have h1 := repT_kids t i sub
 have h2 := repT_len t i sub
 rw [mkEnd_eq, mkEnd_eq, mkEnd_eq]
 omega
end Go.Gh
/- Instances of a tree: all of them. -/
namespace Go.Gh
set_option linter.unusedSimpArgs false
set_option linter.unusedVariables false
end Go.Gh
/- Definitions of instances. -/
namespace Go.Gh
set_option linter.unusedSimpArgs false
set_option linter.unusedVariables false
end Go.Gh
/- The attributes that an expression uses. -/
namespace Go.Gh
set_option linter.unusedSimpArgs false
set_option linter.unusedVariables false
abbrev Oc := Int × ByteArray
abbrev OcS (l : List Oc) : GV := .sl 2 (l.map Occ)
def ltN (a b : ByteArray) : Bool := Op.bytesLess (chars a) (chars b)
def ltO (a b : Oc) : Bool := decide (a.1 < b.1) || (decide (a.1 = b.1) && ltN a.2 b.2)
end Go.Gh
/- Draws: functions that change a cursor; the inside of a region frozen. -/
namespace Go.Gh
set_option linter.unusedSimpArgs false
set_option linter.unusedVariables false
theorem St.frz {w : World} {D : Nat → Prop} {H : GH} {Ω : List Nat} (h : St w D H Ω) {r sz : Nat} {es : List GV} (hr : hget H r = some (sz, es)) :
  ∃ D' Ω', St w D' (hset H r (viewL es)) Ω' ∧ (∀ b, D b → D' b) ∧ (∀ b, D' b → D b ∨ b ∈ Ω) ∧ ∀ b ∈ Ω', b ∈ Ω := by
 obtain ⟨Ω1, F, Ω2, hΩ, hR, hput, _⟩ := HM.take h.hm hr
 rcases hR with ⟨b, c, T, fz, F', k1, k2, k3, k4, k5, k6, k7⟩ | ⟨k1, k2, k3⟩
 ·subst k6
  have hnd := h.nd
  rw [hΩ] at hnd
  have hRM : RM w (fun x => D x ∨ x ∈ F') r sz (viewL es) [b] :=
   .inl ⟨b, c, T, fz, [], k1, k2, k3, by simpa [viewL_eq] using k4, by simpa [viewL_eq] using k5, rfl, by
    have := MF.view (D' := fun x => D x ∨ x ∈ F') (fun _ => .inl) sz es _ F' (fun x hx => .inr hx) k7
    simpa [viewL_eq] using this⟩
  have hfin := hput w (fun x => D x ∨ x ∈ F') (fun _ => True) _ _ (Kept.refl _ _) (fun _ _ => trivial) (fun _ => .inl) (fun _ _ => trivial) hRM
  have hsub : (Ω1 ++ ([b] ++ Ω2)).Sublist (Ω1 ++ ((b :: F') ++ Ω2)) := by
   refine List.Sublist.append (List.Sublist.refl _) (List.Sublist.append ?_ (List.Sublist.refl _))
   simp
  refine ⟨fun x => D x ∨ x ∈ F', _, ⟨hfin, hnd.sublist hsub, by rw [names_hset]; exact h.nn, ?_, ?_⟩, fun _ => .inl, ?_, fun x hx => by rw [hΩ]; exact hsub.subset hx⟩
  ·intro x hx hD
   rcases hD with hD | hD
   ·exact h.dj x (by rw [hΩ]; exact hsub.subset hx) hD
   ·have hc := List.nodup_iff_count.1 hnd x
    have h1 := List.count_pos_iff.2 hx
    have h2 := List.count_pos_iff.2 hD
    simp only [List.count_append, List.count_cons, List.count_nil] at hc h1
    omega
  ·intro x hD
   rcases hD with hD | hD
   ·exact h.ds x hD
   ·exact HM.flt h.hm x (by rw [hΩ]; simp [hD])
  ·intro x hD
   rcases hD with hD | hD
   ·exact .inl hD
   ·exact .inr (by rw [hΩ]; simp [hD])
 ·subst k2 k3
  have hfin := hput w D (fun _ => True) [] [] (Kept.refl _ _) (fun _ _ => trivial) (fun _ h => h) (fun _ _ => trivial) (.inr ⟨k1, rfl, rfl⟩)
  refine ⟨D, Ω, ⟨?_, h.nd, by rw [names_hset]; exact h.nn, h.dj, h.ds⟩, fun _ h => h, fun _ => .inl, fun _ h => h⟩
  rw [hΩ]; exact hfin
theorem FE.frz {env : Env} {H : GH} {r sz : Nat} {es : List GV} (hr : hget H r = some (sz, es)) : FE env H env (hset H r (viewL es)) := by
 intro w0 D0 O0 N a w ⟨hdf, hsz, D, Ω, ρw, hi⟩
 obtain ⟨D', Ω', h1, h2, h3, h4⟩ := hi.st.frz hr
 refine ⟨hdf, hsz, D', Ω', ρw, fun i g hg hn => ?_, hi.rw, hi.ri, fun i b hb => ?_, h1, hi.ev.trans ⟨h2, fun b _ hD => h3 b hD, fun b hb _ => h4 b hb, Kept.refl _ _, rfl, rfl, rfl⟩⟩
 ·obtain ⟨v, m1, m2⟩ := hi.em i g hg hn
  exact ⟨v, m1, m2.more h2⟩
 ·obtain ⟨r1, r2, r3, r4⟩ := hi.rd i b hb
  exact ⟨fun hD => (h3 b hD).elim r1 r2, fun h => r2 (h4 b h), r3, r4⟩
theorem FE.frzV {env : Env} {H : GH} {r sz : Nat} {es es' : List GV} (hv : viewL es = es') : FE env ((r, sz, es) :: H) env ((r, sz, es') :: H) := by
 subst hv
 have := FE.frz (env := env) (H := (r, sz, es) :: H) (r := r) (sz := sz) (es := es) (by simp [hget])
 simpa [hset] using this
theorem MV.nil_sl {w : World} {D : Nat → Prop} {sz : Nat} : ∀ v F, MV w D (.val (.slice none 0 0)) v F → MV w D (.sl sz []) v F := fun v F h => by
 simp only [MV] at h ⊢
 exact ⟨h.2, .inl ⟨trivial, _, _, h.1⟩⟩
theorem FR.front {g g' : GV} {L H : GH} (hb : Bor L g g') : FR g (L ++ H) g' H := by
 intro w D Ω v hv hst
 obtain ⟨Ω1, Ω2, rfl, h1, h2⟩ := HM.parted hst.hm
 have hnd := List.nodup_append.1 hst.nd
 have hnn := hst.nn
 simp only [names, List.map_append] at hnn
 have hnn' := List.nodup_append.1 hnn
 have hs1 : St w D L Ω1 := ⟨h1, hnd.1, hnn'.1, fun b hb => hst.dj b (by simp [hb]), hst.ds⟩
 refine ⟨fun b => D b ∨ b ∈ Ω1, Ω2, hb w D Ω1 v hs1 hv, ⟨HM.keep (S := fun _ => True) (Kept.refl _ _) (fun _ _ => trivial) (fun _ => .inl) (fun _ _ => trivial) h2, hnd.2.1, hnn'.2.1, fun b hb hD => ?_, fun b hD => ?_⟩,
  ⟨fun _ => .inl, fun b _ hD => hD.elim .inl fun h => .inr (by simp [h]), fun b hb _ => by simp [hb], Kept.refl _ _, rfl, rfl, rfl⟩⟩
 ·rcases hD with hD | hD
  ·exact hst.dj b (by simp [hb]) hD
  ·exact hnd.2.2 b hD b hb rfl
 ·rcases hD with hD | hD
  ·exact hst.ds b hD
  ·exact HM.flt hst.hm b (by simp [hD])
abbrev Bs (bs : List UInt8) : GV := .sl 1 (bs.map fun b => .val (.int .u8 b.toNat))
abbrev Cu (bs : List UInt8) (i h : Int) : GV := .agg [Bs bs, I i, I h]
def isC (e : GV) : Prop := ∃ bs i h, e = Cu bs i h ∧ 0 ≤ i ∧ i ≤ bs.length ∧ bs.length ≤ 9223372036854775807
theorem MF.u8 {w : World} {D : Nat → Prop} : ∀ (bs : List UInt8), MF w D 1 (bs.map fun b => GV.val (.int .u8 b.toNat)) (bs.map fun b => Value.int .u8 b.toNat) []
 | [] => by simp [MF]
 | b :: bs => by
  simp only [List.map_cons, MF]
  exact ⟨.int .u8 b.toNat, _, [], [], rfl, rfl, by intro x hx; simp [Value.cells] at hx; subst hx; rfl, rfl, by simp [MV], MF.u8 bs⟩
theorem MF.u8' {w : World} {D : Nat → Prop} : ∀ (bs : List UInt8) (cs : List Value) (F : List Nat), MF w D 1 (bs.map fun b => GV.val (.int .u8 b.toNat)) cs F → cs = bs.map fun b => Value.int .u8 b.toNat
 | [], cs, F, h => by simp only [List.map_nil, MF] at h; exact h.1
 | b :: bs, cs, F, h => by
  simp only [List.map_cons, MF] at h
  obtain ⟨v, cs', F1, F2, rfl, _, _, _, h1, h2⟩ := h
  simp only [MV] at h1
  rw [h1.1, MF.u8' bs cs' F2 h2]
  rfl
theorem MV.cur {w : World} {D : Nat → Prop} {v : Value} {F : List Nat} (h : MV w D .cur v F) : ∃ e, isC e ∧ MV w D e v F := by
  simp only [MV] at h
  obtain ⟨rfl, bs, i, n, sv, rfl, h1, h2, h3⟩ := h
  refine ⟨Cu bs i n, ⟨bs, i, n, rfl, h1, h2, by rcases h3 with ⟨rfl, _⟩ | ⟨_, _, _, _, _, h, _⟩
                                                · simp
                                                · exact h⟩, ?_⟩
  simp only [MV]
  refine ⟨[sv, .int .i64 i, .int .i64 n], rfl, ?_, ?_⟩
  · have : sv.oneCell' = true := by
      rcases h3 with ⟨_, a, cap, rfl⟩ | ⟨b, off, cap, rfl, _⟩ <;> rfl
    simp [this]
    exact ⟨rfl, rfl⟩
  · simp only [ML]
    refine ⟨sv, _, [], [], rfl, rfl, ?_, _, _, [], [], rfl, rfl, by simp [MV], _, _, [], [], rfl, rfl, by simp [MV], rfl, rfl⟩
    simp only [MV]
    refine ⟨trivial, ?_⟩
    rcases h3 with ⟨rfl, h3⟩ | ⟨b, off, cap, k1, k2, k3, k4, k5⟩
    · exact .inl ⟨rfl, h3⟩
    · exact .inr ⟨b, off, cap, _, by simpa using k1, by simpa using k2, by simpa using k3, k4, k5, MF.u8 bs⟩
theorem MV.uncur {w : World} {D : Nat → Prop} {e : GV} (he : isC e) {v : Value} {F : List Nat} (h : MV w D e v F) : MV w D .cur v F := by
 obtain ⟨bs, i, n, rfl, h1, h2, _⟩ := he
 simp only [MV, ML] at h
 obtain ⟨vs, rfl, _, v1, vs1, F1, F2, rfl, rfl, hs, v2, vs2, F3, F4, rfl, rfl, hi, v3, vs3, F5, F6, rfl, rfl, hn, rfl, rfl⟩ := h
 obtain ⟨rfl, rfl⟩ := hi
 obtain ⟨rfl, rfl⟩ := hn
 obtain ⟨rfl, hs⟩ := hs
 simp only [MV]
 refine ⟨rfl, bs, i, n, v1, rfl, h1, h2, ?_⟩
 rcases hs with ⟨k1, k2⟩ | ⟨b, off, cap, cs, k1, k2, k3, k4, k5, k6⟩
 ·exact .inl ⟨by simpa using k1, k2⟩
 ·have := MF.u8' bs cs [] k6
  subst this
  exact .inr ⟨b, off, cap, by simpa using k1, by simpa using k2, by simpa using k3, k4, k5⟩
theorem St.exch1 {w : World} {D : Nat → Prop} {H : GH} {Ω : List Nat} (h : St w D H Ω) {r sz i : Nat} {es : List GV} {e : GV} {p : GV → Prop} (hr : hget H r = some (sz, es)) (he : es[i]? = some e) (hx : ∀ v F, MV w D e v F → ∃ e', p e' ∧ MV w D e' v F) :
  ∃ e', p e' ∧ St w D (hset H r (es.set i e')) Ω := by
 obtain ⟨Ω1, F', Ω2, hΩ, hR, hput, _⟩ := HM.take h.hm hr
 obtain ⟨b, c, T, fz, F0, k1, k2, k3, k4, k5, k6, k7⟩ := hR.es_ne (fun e => by rw [e] at he; simp at he)
 obtain ⟨pre, v, post, A1, Ai, A2, m1, m2, m3, m4, m5, m6, m7⟩ := MF.split sz es _ F0 i _ k7 he
 obtain ⟨e', hp, hx⟩ := hx _ _ m6
 have hmf := m7 w D (fun _ => True) e' v Ai (Kept.refl _ _) (fun _ _ => trivial) (fun _ h => h) (fun _ _ => trivial) m3 m4 hx
 rw [← m1, ← m5] at hmf
 have hRM : RM w D r sz (es.set i e') F' := .inl ⟨b, c, T, fz, F0, k1, k2, k3, by simpa using k4, by simpa using k5, k6, by simpa using hmf⟩
 have hfin := hput w D (fun _ => True) _ _ (Kept.refl _ _) (fun _ _ => trivial) (fun _ h => h) (fun _ _ => trivial) hRM
 rw [← hΩ] at hfin
 exact ⟨e', hp, hfin, h.nd, by rw [names_hset]; exact h.nn, h.dj, h.ds⟩
theorem GCalls.open {P : Program} {f : FuncId} {gs : List GV} {rc : Nat} {H : GH} {R : GV → GH → Prop} (h : ∀ e, isC e → GCalls P f gs ((rc, 3, [e]) :: H) R) : GCalls P f gs ((rc, 3, [.cur]) :: H) R := by
 intro w D Ω args hst hargs
 obtain ⟨e', h1, h2⟩ := hst.exch1 (r := rc) (i := 0) (sz := 3) (es := [.cur]) (p := isC) (by simp [hget]) rfl fun v F h => h.cur
 have e : hset ((rc, 3, [GV.cur]) :: H) rc ([GV.cur].set 0 e') = (rc, 3, [e']) :: H := by simp [hset]
 rw [e] at h2
 exact h e' h1 w D Ω args h2 hargs
theorem FE.uncur {env : Env} {rc : Nat} {e : GV} {H : GH} (he : isC e) : FE env ((rc, 3, [e]) :: H) env ((rc, 3, [.cur]) :: H) := by
 have := FE.exch (env := env) (H := (rc, 3, [e]) :: H) (r := rc) (i := 0) (e := e) (e' := .cur) (sz := 3) (es := [e]) (by simp [hget]) rfl fun w D v F h => h.uncur he
 simpa [hset] using this
theorem FR.uncur {g : GV} {rc : Nat} {e : GV} {H : GH} (he : isC e) : FR g ((rc, 3, [e]) :: H) g ((rc, 3, [.cur]) :: H) := by
 intro w D Ω v hv hst
 have h2 := hst.exch (r := rc) (i := 0) (e := e) (e' := .cur) (sz := 3) (es := [e]) (by simp [hget]) rfl fun v F h => h.uncur he
 have e : hset ((rc, 3, [e]) :: H) rc ([e].set 0 GV.cur) = (rc, 3, [.cur]) :: H := by simp [hset]
 rw [e] at h2
 exact ⟨D, Ω, hv, h2, Ev.refl _ _ _⟩
theorem hget_split {r : Nat} {x : Nat × List GV} : ∀ {H : GH}, hget H r = some x → ∃ A B, H = A ++ (r, x) :: B ∧ r ∉ names A
 | [], h => by simp [hget] at h
 | (q, y) :: H, h => by
  simp only [hget] at h
  split at h
  ·rename_i e
   subst e
   simp only [Option.some.injEq] at h
   subst h
   exact ⟨[], H, rfl, by simp [names]⟩
  ·rename_i hne
   obtain ⟨A, B, h1, h2⟩ := hget_split h
   exact ⟨(q, y) :: A, B, by rw [h1]; rfl, by simp only [names, List.map_cons, List.mem_cons, not_or]; exact ⟨fun e => hne e.symm, h2⟩⟩
theorem count_mid {x : Nat} (a b c : List Nat) : (a ++ (b ++ c)).count x = (b ++ (a ++ c)).count x := by
 simp only [List.count_append]; omega
theorem St.mid {w : World} {D : Nat → Prop} {A B : GH} {y : Nat × Nat × List GV} {Ω : List Nat} (h : St w D (A ++ y :: B) Ω) : ∃ Ω', St w D (y :: (A ++ B)) Ω' ∧ (∀ x, x ∈ Ω' ↔ x ∈ Ω) := by
 obtain ⟨Ω1, Ω2, rfl, h1, h2⟩ := HM.parted h.hm
 obtain ⟨r, sz, es⟩ := y
 obtain ⟨F1, F2, rfl, h3, h4⟩ := h2
 refine ⟨F1 ++ (Ω1 ++ F2), ⟨⟨F1, _, rfl, h3, HM.append h1 h4⟩, ?_, ?_, ?_, h.ds⟩, fun x => by simp only [List.mem_append]; exact or_left_comm⟩
 ·have := h.nd
  rw [List.nodup_iff_count] at this ⊢
  intro x; rw [← count_mid]; exact this x
 ·have := h.nn
  simp only [names, List.map_append, List.map_cons] at this ⊢
  rw [List.nodup_iff_count] at this ⊢
  intro x
  have := this x
  simp only [List.count_append, List.count_cons] at this ⊢
  omega
 ·intro x hx
  exact h.dj x (by simp only [List.mem_append] at hx ⊢; exact or_left_comm.1 hx)
theorem St.mid' {w : World} {D : Nat → Prop} {A B : GH} {y : Nat × Nat × List GV} {Ω : List Nat} (h : St w D (y :: (A ++ B)) Ω) : ∃ Ω', St w D (A ++ y :: B) Ω' ∧ (∀ x, x ∈ Ω' ↔ x ∈ Ω) := by
 obtain ⟨r, sz, es⟩ := y
 obtain ⟨F1, F2, rfl, h3, h4⟩ := h.hm
 obtain ⟨Ω1, Ω2, rfl, h1, h2⟩ := HM.parted h4
 refine ⟨Ω1 ++ (F1 ++ Ω2), ⟨HM.append h1 ⟨F1, _, rfl, h3, h2⟩, ?_, ?_, ?_, h.ds⟩, fun x => by simp only [List.mem_append]; exact or_left_comm⟩
 ·have := h.nd
  rw [List.nodup_iff_count] at this ⊢
  intro x; rw [count_mid]; exact this x
 ·have := h.nn
  simp only [names, List.map_append, List.map_cons] at this ⊢
  rw [List.nodup_iff_count] at this ⊢
  intro x
  have := this x
  simp only [List.count_append, List.count_cons] at this ⊢
  omega
 ·intro x hx
  exact h.dj x (by simp only [List.mem_append] at hx ⊢; exact or_left_comm.1 hx)
def Dc (P : Program) (f : FuncId) (gs : List GV) (R : GV → GH → Prop) : Prop :=
 ∀ rc H, GCalls P f (.ptr rc 3 0 0 :: gs) ((rc, 3, [.cur]) :: H) (fun g H' => ∃ H1, R g H1 ∧ H' = H1 ++ (rc, 3, [.cur]) :: H)
abbrev Dv (P : Program) (f : FuncId) (gs : List GV) (R : GV → Prop) : Prop := Dc P f gs (fun g H1 => R g ∧ H1 = [])
theorem Dc.mono {P : Program} {f : FuncId} {gs : List GV} {R R' : GV → GH → Prop} (h : Dc P f gs R) (hr : ∀ g H1, R g H1 → R' g H1) : Dc P f gs R' :=
 fun rc H => (h rc H).mono fun g H' ⟨H1, h1, h2⟩ => ⟨H1, hr g H1 h1, h2⟩
theorem Dc.of {P : Program} {f : FuncId} {gs : List GV} {R : GV → GH → Prop}
  (h : ∀ rc H, GCalls P f (.ptr rc 3 0 0 :: gs) ((rc, 3, [.cur]) :: H) (fun g H' => ∃ G H1 T L, R G H1 ∧ Bor L g G ∧ H' = T ++ H ∧ subH T (L ++ (H1 ++ [(rc, 3, [.cur])])))) : Dc P f gs R :=
 fun rc H => (h rc H).fr fun g H' ⟨G, H1, T, L, h1, h2, h3, h4⟩ => by
  subst h3
  refine ⟨G, H1 ++ (rc, 3, [.cur]) :: H, FR.trans (FR.perm h4) ?_, H1, h1, rfl⟩
  rw [List.append_assoc, List.append_assoc]
  exact FR.front h2
theorem Dv.of {P : Program} {f : FuncId} {gs : List GV} {R : GV → Prop}
  (h : ∀ rc H, GCalls P f (.ptr rc 3 0 0 :: gs) ((rc, 3, [.cur]) :: H) (fun g H' => ∃ G T L, R G ∧ Bor L g G ∧ H' = T ++ H ∧ subH T (L ++ [(rc, 3, [.cur])]))) : Dv P f gs R :=
 Dc.of fun rc H => (h rc H).mono fun g H' ⟨G, T, L, h1, h2, h3, h4⟩ => ⟨G, [], T, L, ⟨h1, rfl⟩, h2, h3, h4⟩
theorem Dv.of0 {P : Program} {f : FuncId} {gs : List GV} {R : GV → Prop}
  (h : ∀ rc H, GCalls P f (.ptr rc 3 0 0 :: gs) ((rc, 3, [.cur]) :: H) (fun g H' => R g ∧ H' = (rc, 3, [.cur]) :: H)) : Dv P f gs R :=
 fun rc H => (h rc H).mono fun g H' ⟨h1, h2⟩ => ⟨[], ⟨h1, rfl⟩, h2⟩
theorem Dc.at {P : Program} {f : FuncId} {gs : List GV} {R : GV → GH → Prop} (h : Dc P f gs R) {rc : Nat} {H : GH} (hr : hget H rc = some (3, [.cur])) :
  GCalls P f (.ptr rc 3 0 0 :: gs) H (fun g H' => ∃ H1, R g H1 ∧ H' = H1 ++ H) := by
 obtain ⟨A, B, rfl, hn⟩ := hget_split hr
 intro w D Ω args hst hargs
 obtain ⟨Ω', h1, h2⟩ := hst.mid
 refine Yld.mono (fun v w' ⟨g, H', D', Ω'', ⟨H1, k0, k1⟩, k2, k3, k4⟩ => ?_) (h rc (A ++ B) w D Ω' args h1 hargs)
 subst k1
 have k3' : St w' D' ((H1 ++ [(rc, 3, [.cur])]) ++ (A ++ B)) Ω'' := by simpa using k3
 obtain ⟨Ω3, m1, m2⟩ : ∃ Ω3, St w' D' (H1 ++ (A ++ (rc, 3, [.cur]) :: B)) Ω3 ∧ ∀ x, x ∈ Ω3 ↔ x ∈ Ω'' := by
  obtain ⟨Ωa, q1, q2⟩ := (show St w' D' (H1 ++ (rc, 3, [GV.cur]) :: (A ++ B)) Ω'' from k3).mid
  rw [← List.append_assoc] at q1
  obtain ⟨Ωb, q3, q4⟩ := q1.mid'
  rw [List.append_assoc] at q3
  exact ⟨Ωb, q3, fun x => (q4 x).trans (q2 x)⟩
 exact ⟨g, _, D', Ω3, ⟨H1, k0, rfl⟩, k2, m1,
  ⟨k4.d0, fun b hb hD => (k4.dn b hb hD).imp id (h2 b).1, fun b hb hl => (h2 b).1 (k4.on b ((m2 b).1 hb) hl), k4.kp.mono fun b _ hb hb' => hb ((h2 b).1 hb'), k4.os, k4.tape, k4.output⟩⟩
theorem callS.dc {P : Program} {f : FuncId} {gs : List GV} {R : GV → GH → Prop} {K : Env → GH → Prop} {is : List GI} {env : Env} {H : GH} {d : Option Nat} {rc : Nat} (h : Dc P f gs R) (hr : hget H rc = some (3, [.cur]))
  (hk : ∀ g H1, R g H1 → (names (H1 ++ H)).Nodup → gsteps P is K (gput env d g) (H1 ++ H)) : callS P false f (some (.ptr rc 3 0 0 :: gs)) d is K env H :=
 callS.of (h.at hr) fun g H' ⟨H1, h1, h2⟩ hn => by subst h2; exact hk g H1 h1 hn
theorem callS.dv {P : Program} {f : FuncId} {gs : List GV} {R : GV → Prop} {K : Env → GH → Prop} {is : List GI} {env : Env} {H : GH} {d : Option Nat} {rc : Nat} (h : Dv P f gs R) (hr : hget H rc = some (3, [.cur]))
  (hk : ∀ g, R g → gsteps P is K (gput env d g) H) : callS P false f (some (.ptr rc 3 0 0 :: gs)) d is K env H :=
 callS.dc h hr fun g H1 ⟨h1, h2⟩ _ => by subst h2; exact hk g h1
theorem callA.dc {P : Program} {f : FuncId} {gs : List GV} {R : GV → GH → Prop} {K : Env → GH → Prop} {is : List GI} {env : Env} {H : GH} {d : Option Nat} {rc : Nat} (h : Dc P f gs R) (hr : hget H rc = some (3, [.cur]))
  (hk : ∀ g H1, R g H1 → (names (H1 ++ H)).Nodup → gsteps P is K (gput env d g) (H1 ++ H)) : callA P f (some (.ptr rc 3 0 0 :: gs)) d is K env H :=
 ⟨R, h.at hr, hk⟩
theorem callA.dv {P : Program} {f : FuncId} {gs : List GV} {R : GV → Prop} {K : Env → GH → Prop} {is : List GI} {env : Env} {H : GH} {d : Option Nat} {rc : Nat} (h : Dv P f gs R) (hr : hget H rc = some (3, [.cur]))
  (hk : ∀ g, R g → gsteps P is K (gput env d g) H) : callA P f (some (.ptr rc 3 0 0 :: gs)) d is K env H :=
 callA.dc h hr fun g H1 ⟨h1, h2⟩ _ => by subst h2; exact hk g h1
end Go.Gh
/- Draws: plain facts. What is drawn is small. -/
namespace Go.Gh
set_option linter.unusedSimpArgs false
set_option linter.unusedVariables false
theorem andI_le {a : Int} {m : Nat} (hm : m < 2 ^ 62) : 0 ≤ andI .i64 a m ∧ andI .i64 a m ≤ m := by
 have h1 : (BitVec.ofInt 64 a &&& BitVec.ofInt 64 (m : Int)).toNat ≤ m := by
  rw [BitVec.toNat_and]
  refine Nat.le_trans Nat.and_le_right ?_
  rw [BitVec.toNat_ofInt]
  omega
 have h2 : andI .i64 a m = (IntKind.i64).wrap (BitVec.ofInt 64 a &&& BitVec.ofInt 64 (m : Int)).toNat := rfl
 have h3 : (IntKind.i64).wrap ((BitVec.ofInt 64 a &&& BitVec.ofInt 64 (m : Int)).toNat : Int) = (BitVec.ofInt 64 a &&& BitVec.ofInt 64 (m : Int)).toNat := by
  have : (((BitVec.ofInt 64 a &&& BitVec.ofInt 64 (m : Int)).toNat : Int)) < 4611686018427387904 := by
   have : (2 : Nat) ^ 62 = 4611686018427387904 := by decide
   omega
  generalize ((BitVec.ofInt 64 a &&& BitVec.ofInt 64 (m : Int)).toNat) = k at *
  simp only [IntKind.wrap, IntKind.signed, IntKind.bits]
  simp
  omega
 rw [h2, h3]
 omega
theorem andI_255 (a : Int) : ∃ k : Nat, andI .i64 a 255 = k ∧ k < 256 := by
 have h := andI_le (a := a) (m := 255) (by decide)
 have h' : 0 ≤ andI .i64 a 255 ∧ andI .i64 a 255 ≤ 255 := h
 exact ⟨(andI .i64 a 255).toNat, by omega, by omega⟩
theorem chars_size (s : ByteArray) : (chars s).length = s.size := by
 show s.data.toList.length = s.data.size
 exact Array.length_toList
theorem okE_of : ∀ (e : Exp), wEx e ≤ 1048576 → okE e := by
 refine Exp.indA fun e ih h => ?_
 rw [wEx_eq] at h
 rw [okE_eq]
 have h1 := chars_size e.sym
 have h2 := chars_size e.name
 have hw : wtS wEx e.args ≤ 1048576 := by omega
 have hm : (1048576 : Nat) ≤ maxLen := by decide
 refine ⟨by omega, by omega, fun a ha => ih a ha ?_⟩
 exact (wtS_mem hw).2 a ha
def shT (s : ByteArray) : Prop := s.size ≤ 16
def shSy (s : Sym) : Prop := shT s.name ∧ 1 ≤ s.atts.length ∧ s.atts.length ≤ 5 ∧ ∀ a ∈ s.atts, shT a.name
def shSys (l : List Sym) : Prop := 1 ≤ l.length ∧ l.length ≤ 3 ∧ ∀ s ∈ l, shSy s
def shEx (e : Exp) : Prop := wEx e ≤ 200000
def shRu (r : Rul) : Prop := shT r.name ∧ shT r.left ∧ r.right.length ≤ 5 ∧ (∀ s ∈ r.right, shT s) ∧ r.eqs.length ≤ 64 ∧ (∀ q ∈ r.eqs, shT q.name ∧ shEx q.expr) ∧ r.cons.length ≤ 64 ∧ ∀ c ∈ r.cons, shT c.sym ∧ shT c.name ∧ shEx c.goal ∧ shEx c.value
def shGr (g : Gram) : Prop := shSys g.syms ∧ 1 ≤ g.rules.length ∧ g.rules.length ≤ 16 ∧ ∀ r ∈ g.rules, shRu r
theorem shT_le {s : ByteArray} (h : shT s) : s.size ≤ maxLen := by
 have hm : (16 : Nat) ≤ maxLen := by decide
 unfold shT at h; omega
theorem shEx_ok {e : Exp} (h : shEx e) : okE e ∧ wEx e ≤ 1048576 := by
 unfold shEx at h
 exact ⟨okE_of e (by omega), by omega⟩
theorem shSy_sm {s : Sym} (h : shSy s) : smSy s := by have := h.2.2.1; unfold smSy; omega
theorem shSys_sm {l : List Sym} (h : shSys l) : l.length ≤ 1048576 ∧ ∀ s ∈ l, smSy s := ⟨by have := h.2.1; omega, fun s hs => shSy_sm (h.2.2 s hs)⟩
theorem shRu_sm {r : Rul} (h : shRu r) : smRu r := by
 obtain ⟨_, _, h1, _, h2, h3, h4, h5⟩ := h
 exact ⟨by omega, by omega, by omega, fun q hq => (shEx_ok (h3 q hq).2).2, fun c hc => ⟨(shEx_ok (h5 c hc).2.2.1).2, (shEx_ok (h5 c hc).2.2.2).2⟩⟩
theorem shGr_sm {g : Gram} (h : shGr g) : smGr g := ⟨(shSys_sm h.1).1, by have := h.2.2.1; omega, (shSys_sm h.1).2, fun r hr => shRu_sm (h.2.2.2 r hr)⟩
theorem wEx_leaf {k n p t : Int} {s m : ByteArray} (hs : shT s) (hm : shT m) : wEx (.mk k n p t s m []) ≤ 32 := by
 have h1 := chars_size s
 have h2 := chars_size m
 unfold shT at hs hm
 simp only [wEx, wExL, List.length_nil]
 omega
def shD (d : Nat) (e : Exp) : Prop := wEx e ≤ 40 * 4 ^ d
theorem shD_mono {a b : Nat} {e : Exp} (h : a ≤ b) (he : shD a e) : shD b e := by
 unfold shD at *
 have := Nat.pow_le_pow_right (n := 4) (by decide) h
 omega
theorem shD_leaf {d : Nat} {k n p t : Int} {s m : ByteArray} (hs : shT s) (hm : shT m) : shD d (.mk k n p t s m []) := by
 have := wEx_leaf (k := k) (n := n) (p := p) (t := t) hs hm
 have h2 : 0 < 4 ^ d := Nat.pow_pos (by decide)
 unfold shD; omega
theorem shD_node {d : Nat} {k n p t : Int} {s m : ByteArray} {l : List Exp} (hs : shT s) (hm : shT m) (hl : l.length ≤ 3) (h : ∀ e ∈ l, shD d e) : shD (d + 1) (.mk k n p t s m l) := by
 have h1 := chars_size s
 have h2 := chars_size m
 have h3 : 0 < 4 ^ d := Nat.pow_pos (by decide)
 have h4 : ∀ (l : List Exp), (∀ e ∈ l, shD d e) → wExL l ≤ l.length * (40 * 4 ^ d) := by
  intro l
  induction l with
  | nil => intro _; simp [wExL]
  | cons e l ih =>
   intro h
   have := ih fun x hx => h x (by simp [hx])
   have h5 : wEx e ≤ 40 * 4 ^ d := h e (by simp)
   simp only [wExL, List.length_cons]
   rw [Nat.succ_mul]
   omega
 have h5 := h4 l h
 have h6 : l.length * (40 * 4 ^ d) ≤ 3 * (40 * 4 ^ d) := Nat.mul_le_mul_right _ hl
 unfold shT at hs hm
 unfold shD
 simp only [wEx]
 rw [Nat.pow_succ]
 omega
theorem shD_ex {d : Nat} {e : Exp} (hd : d ≤ 6) (h : shD d e) : shEx e := by
 have := Nat.pow_le_pow_right (n := 4) (by decide) hd
 have h6 : 4 ^ 6 = 4096 := by decide
 unfold shD at h; unfold shEx; omega
def ltT : GV → Bool
 | .val (.string s) => decide (s.size ≤ 16)
 | _ => false
def ltI (lo hi : Int) : GV → Bool
 | .val (.int .i64 n) => decide (lo ≤ n ∧ n ≤ hi)
 | _ => false
theorem ltT_mem {es : List GV} (h : es.all ltT = true) {g : GV} (hg : g ∈ es) : ∃ s, shT s ∧ g = T s := by
 have := List.all_eq_true.1 h g hg
 unfold ltT at this
 split at this
 ·exact ⟨_, by simpa [shT] using this, rfl⟩
 ·cases this
theorem ltI_mem {lo hi : Int} {es : List GV} (h : es.all (ltI lo hi) = true) {g : GV} (hg : g ∈ es) : ∃ n : Int, (lo ≤ n ∧ n ≤ hi) ∧ g = I n := by
 have := List.all_eq_true.1 h g hg
 unfold ltI at this
 split at this
 ·exact ⟨_, by simpa using this, rfl⟩
 ·cases this
def noAg (es : List GV) : Bool := es.all fun e => !isAgg e && nraw e
theorem notAgg {es : List GV} (h : noAg es = true) (k : Nat) (hk : k < es.length) : isAgg es[k] = false := by
 have := List.all_eq_true.1 h _ (List.getElem_mem hk)
 simp only [Bool.and_eq_true] at this
 simpa using this.1
theorem notRaw {es : List GV} (h : noAg es = true) (k : Nat) (hk : k < es.length) : geR (some es[k]) = some es[k] := by
 have := List.all_eq_true.1 h _ (List.getElem_mem hk)
 simp only [Bool.and_eq_true] at this
 have h2 := this.2
 cases h3 : es[k] <;> first | rfl | (rw [h3] at h2; simp [nraw] at h2)
abbrev ExN (e : Exp) : GV := .agg [I e.kind, I e.n, I e.pos, I e.type, T e.sym, T e.name, .val (.slice none 0 0)]
abbrev ExR (e : Exp) (r : Nat) : GV := .agg [I e.kind, I e.n, I e.pos, I e.type, T e.sym, T e.name, .own r 7 0 e.args.length]
def ExW (e : Exp) (g : GV) (H1 : GH) : Prop := (e.args = [] ∧ g = ExN e ∧ H1 = []) ∨ ∃ r, g = ExR e r ∧ H1 = [(r, 7, e.args.map Ex)]
theorem bor_ExN {H : GH} {e : Exp} (h : e.args = []) : Bor H (ExN e) (Ex e) := by
 rw [Ex_eq, h]
 exact .agg (.cons .refl (.cons .refl (.cons .refl (.cons .refl (.cons .refl (.cons .refl (.cons .nil .nil)))))))
theorem bor_ExR {H : GH} {e : Exp} {r : Nat} (h : hget H r = some (7, e.args.map Ex)) : Bor H (ExR e r) (Ex e) := by
 rw [Ex_eq]
 exact .agg (.cons .refl (.cons .refl (.cons .refl (.cons .refl (.cons .refl (.cons .refl (.cons (Bor.allM view_Ex h rfl) .nil)))))))
theorem ExW.bor {e : Exp} {g : GV} {H1 : GH} (h : ExW e g H1) : Bor H1 g (Ex e) := by
 rcases h with ⟨h, rfl, rfl⟩ | ⟨r, rfl, rfl⟩
 ·exact bor_ExN h
 ·exact bor_ExR hget_new
theorem Dc.frz {P : Program} {f : FuncId} {gs : List GV} {R : GV → GH → Prop} {p : GV → Prop} (h : Dc P f gs R) (hb : ∀ g H1, R g H1 → ∃ G, p G ∧ Bor H1 g G) : Dv P f gs p := fun rc H =>
 (h rc H).fr fun g H' ⟨H1, h1, h2⟩ => by
  subst h2
  obtain ⟨G, k1, k2⟩ := hb g H1 h1
  exact ⟨G, _, FR.front k2, [], ⟨k1, rfl⟩, rfl⟩
theorem u64_nn (a : Int) : 0 ≤ IntKind.u64.wrap a := by
 simp only [IntKind.wrap, IntKind.signed, IntKind.bits]
 simp
 omega
instance (s : ByteArray) : Decidable (shT s) := inferInstanceAs (Decidable (s.size ≤ 16))
theorem bor_ExV {H : GH} {k n p t : Int} {s m : ByteArray} {r q : Nat} {l : List Exp} (h : hget H r = some (7, l.map Ex)) (hl : l.length = q) : Bor H (.agg [I k, I n, I p, I t, T s, T m, .own r 7 0 q]) (Ex (.mk k n p t s m l)) := by
 subst hl
 exact bor_ExR (e := .mk k n p t s m l) h
theorem Dc.own {P : Program} {f : FuncId} {gs : List GV} {p : Exp → Prop} (h : Dc P f gs (fun g H1 => ∃ e, p e ∧ ExW e g H1)) : Dc P f gs (fun g H1 => ∃ e r, p e ∧ g = ExR e r ∧ H1 = [(r, 7, e.args.map Ex)]) := fun rc H =>
 (h rc H).fr fun g H' ⟨H1, ⟨e, h1, h2⟩, h3⟩ => by
  subst h3
  rcases h2 with ⟨h0, rfl, rfl⟩ | ⟨r, rfl, rfl⟩
  ·obtain ⟨v, hv, hn⟩ := vfresh (names ((rc, 3, [.cur]) :: H))
   refine ⟨ExR e v, (v, 7, []) :: (rc, 3, [.cur]) :: H, FR.trans (FR.sub ?_) (FR.addv hv hn), [(v, 7, [])], ⟨e, v, h1, rfl, by rw [h0]; rfl⟩, rfl⟩
   have h5 : e.args.length = 0 := by rw [h0]; rfl
   show Bor [] (ExN e) (.agg [I e.kind, I e.n, I e.pos, I e.type, T e.sym, T e.name, .own v 7 0 e.args.length])
   rw [h5]
   exact .agg (.cons .refl (.cons .refl (.cons .refl (.cons .refl (.cons .refl (.cons .refl (.cons Bor.virt .nil)))))))
  ·exact ⟨_, _, FR.refl _ _, _, ⟨e, r, h1, rfl, rfl⟩, rfl⟩
theorem Bor.exch {H : GH} {r sz i : Nat} {es : List GV} {e e' g g' : GV} (hr : hget H r = some (sz, es)) (he : es[i]? = some e) (hx : ∀ w D v F, MV w D e v F → MV w D e' v F) (hb : Bor (hset H r (es.set i e')) g g') : Bor H g g' :=
 fun w D Ω v hst hm => hb w D Ω v (hst.exch hr he (hx w D)) hm
theorem MV.exn {e : Exp} (h : e.args = []) : ∀ w D v F, MV w D (ExN e) v F → MV w D (Ex e) v F := fun w D v F hm => by
 have := MV.fld (j := 6) (g' := .sl 7 []) rfl MV.nil_sl v F hm
 rw [Ex_eq, h]
 exact this
theorem bor_ExApp {H : GH} {k n p t : Int} {s m : ByteArray} {r q : Nat} {l : List Exp} {e : Exp} (h : hget H r = some (7, l.map Ex ++ [ExN e])) (he : e.args = []) (hl : l.length + 1 = q) : Bor H (.agg [I k, I n, I p, I t, T s, T m, .own r 7 0 q]) (Ex (.mk k n p t s m (l ++ [e]))) := by
 refine Bor.exch (i := l.length) h (by simp) (MV.exn he) ?_
 have e2 : (l.map Ex ++ [ExN e]).set l.length (Ex e) = (l ++ [e]).map Ex := by
  rw [List.set_append_right _ _ (by simp)]
  simp
 rw [e2]
 refine bor_ExV ?_ (by simpa using hl)
 have : ∀ {H : GH} {x : Nat × List GV} {fs : List GV}, hget H r = some x → hget (hset H r fs) r = some (x.1, fs) := by
  intro H
  induction H with
  | nil => intro x fs h; cases h
  | cons y H ih =>
   obtain ⟨a, b, c⟩ := y
   intro x fs h
   simp only [hget, hset] at h ⊢
   split at h
   ·rename_i e3
    simp only [Option.some.injEq] at h
    subst h
    simp [e3, hget]
   ·rename_i e3
    simp only [if_neg e3, hget]
    exact ih h
 exact this h
end Go.Gh
/- The attributes that an expression uses: in order, once each. -/
namespace Go.Gh
set_option linter.unusedSimpArgs false
set_option linter.unusedVariables false
theorem ltN_eq (a b : ByteArray) : ltN a b = decide (chars a < chars b) := Proofs.bytesLess_eq _ _
theorem ltN_irr (a : ByteArray) : ltN a a = false := by
 rw [ltN_eq]; exact decide_eq_false (List.lt_irrefl _)
theorem ltN_trans {a b c : ByteArray} (h : ltN a b = true) (k : ltN b c = true) : ltN a c = true := by
 rw [ltN_eq, decide_eq_true_eq] at *; exact List.lt_trans h k
theorem ltO_iff {a b : Oc} : ltO a b = true ↔ a.1 < b.1 ∨ (a.1 = b.1 ∧ ltN a.2 b.2 = true) := by simp [ltO]
theorem ltO_irr (a : Oc) : ltO a a = false := by simp [ltO, ltN_irr]
theorem ltO_trans {a b c : Oc} (h : ltO a b = true) (k : ltO b c = true) : ltO a c = true := by
 rw [ltO_iff] at *
 rcases h with h | ⟨h1, h2⟩ <;> rcases k with k | ⟨k1, k2⟩
 ·exact .inl (by omega)
 ·exact .inl (by omega)
 ·exact .inl (by omega)
 ·exact .inr ⟨by omega, ltN_trans h2 k2⟩
theorem ltO_asym {a b : Oc} (h : ltO a b = true) : ltO b a = false := by
 cases q : ltO b a
 ·rfl
 ·have := ltO_trans h q; rw [ltO_irr] at this; cases this
abbrev SSO (l : List Oc) : Prop := l.Pairwise fun a b => ltO a b = true
theorem SSO.ext : ∀ {l k : List Oc}, SSO l → SSO k → (∀ x, x ∈ l ↔ x ∈ k) → l = k
 | [], [], _, _, _ => rfl
 | [], b :: k, _, _, h => by have := (h b).2 (by simp); simp at this
 | a :: l, [], _, _, h => by have := (h a).1 (by simp); simp at this
 | a :: l, b :: k, h1, h2, h => by
  rw [SSO, List.pairwise_cons] at h1 h2
  have e : a = b := by
   rcases List.mem_cons.1 ((h a).1 (by simp)) with e | e
   ·exact e
   ·rcases List.mem_cons.1 ((h b).2 (by simp)) with e' | e'
    ·exact e'.symm
    ·have q1 := h2.1 a e
     have q2 := h1.1 b e'
     rw [ltO_asym q1] at q2; cases q2
  subst e
  congr 1
  refine SSO.ext h1.2 h2.2 fun x => ⟨fun hx => ?_, fun hx => ?_⟩
  ·rcases List.mem_cons.1 ((h x).1 (by simp [hx])) with e | e
   ·subst e; have := h1.1 _ hx; rw [ltO_irr] at this; cases this
   ·exact e
  ·rcases List.mem_cons.1 ((h x).2 (by simp [hx])) with e | e
   ·subst e; have := h2.1 _ hx; rw [ltO_irr] at this; cases this
   ·exact e
end Go.Gh
/- slices.SortFunc at occurrences: the kit's contract, over ghosts. A slice of own slices. -/
namespace Go.Gh
set_option linter.unusedSimpArgs false
set_option linter.unusedVariables false
open Go.Sort (HoldsK Holds flatK putRowK grow)
open Go.Proofs (sortWorldK)
open Go.Proofs (ltOf)
end Go.Gh
/- Checks of a grammar. -/
namespace Go.Gh
set_option linter.unusedSimpArgs false
set_option linter.unusedVariables false
theorem any_yes {α : Type} {p : α → Bool} {l : List α} {i : Nat} (h : i < l.length) (hp : p l[i] = true) : l.any p = true := by
 rw [List.any_eq_true]
 exact ⟨l[i], List.getElem_mem h, hp⟩
theorem any_no {α : Type} {p : α → Bool} {l : List α} (h : ∀ a ∈ l, p a = false) : l.any p = false := by
 rw [List.any_eq_false]
 intro a ha
 rw [h a ha]; simp
theorem takeP_step {α : Type} {p : α → Bool} {l : List α} {i : Nat} {b : Bool} (h : i < l.length) (hp : p l[i] = b) (hn : ∀ a ∈ l.take i, p a = b) : ∀ a ∈ l.take (i + 1), p a = b := by
 intro a ha
 rw [List.take_add_one, List.getElem?_eq_getElem h, Option.toList_some, List.mem_append] at ha
 rcases ha with ha | ha
 ·exact hn a ha
 ·simp only [List.mem_singleton] at ha; rw [ha]; exact hp
def reqP (g : Gram) (r : Rul) (pos : Nat) : List Oc := ((fSym g.syms (symAt r pos)).atts.filter fun a => decide (a.mode = if pos = 0 then 2 else 1)).map fun a => ((pos : Int), a.name)
def reqA (g : Gram) (r : Rul) : Nat → List Oc
 | 0 => []
 | n + 1 => reqA g r n ++ reqP g r n
def reqO (g : Gram) (r : Rul) : List Oc := reqA g r (r.right.length + 1)
def hOf (g : Gram) (out : List Int) (n : ByteArray) : Int := if ixOf (fun s : Sym => decide (s.name = n)) g.syms < 0 then 0 else out.getD (ixOf (fun s : Sym => decide (s.name = n)) g.syms).toNat 0
def rchR (g : Gram) (out : List Int) (s : ByteArray) (r : Rul) : Bool := decide (r.left = s) && r.right.all fun c => decide (0 < hOf g out c)
def rchS (g : Gram) (out : List Int) (s : ByteArray) : Bool := g.rules.any (rchR g out s)
def hNext (g : Gram) (round : Int) (out : List Int) (i : Nat) : Int := if 0 < out.getD i 0 then out.getD i 0 else if rchS g out (g.syms.getD i symZ).name then round else out.getD i 0
def hIt (g : Gram) : Nat → List Int
 | 0 => List.replicate g.syms.length 0
 | k + 1 => (List.range g.syms.length).map (hNext g ((k : Int) + 1) (hIt g k))
def hgts (g : Gram) : List Int := hIt g g.syms.length
theorem hIt_len (g : Gram) : ∀ k, (hIt g k).length = g.syms.length
 | 0 => by simp [hIt]
 | k + 1 => by simp [hIt]
theorem hIt_nn (g : Gram) : ∀ k, ∀ x ∈ hIt g k, 0 ≤ x
 | 0, x, h => by simp [hIt] at h; omega
 | k + 1, x, h => by
  simp only [hIt, List.mem_map, List.mem_range] at h
  obtain ⟨i, hi, rfl⟩ := h
  have hg : 0 ≤ (hIt g k).getD i 0 := by
   rw [getD_lt (by rw [hIt_len]; exact hi)]
   exact hIt_nn g k _ (List.getElem_mem _)
  simp only [hNext]
  split
  ·exact hg
  ·split
   ·omega
   ·exact hg
end Go.Gh
/- Inputs of instances; orders and cycles. -/
namespace Go.Gh
set_option linter.unusedSimpArgs false
set_option linter.unusedVariables false
def dC (T : List (List Int)) (goal : Nat) (d : Nat) (out : List Int) (k : Int) : Bool :=
 if d = 1 then decide (k = goal) else decide (k ≠ goal) && decide (0 ≤ k) && decide (out.getD k.toNat 0 = (d : Int) - 1)
def dS (T : List (List Int)) (goal : Nat) (d : Nat) (out : List Int) (i : Nat) : Int :=
 if out.getD i 0 ≠ 0 then out.getD i 0 else if (T.getD i []).any (dC T goal d out) then d else 0
def dL (T : List (List Int)) (goal : Nat) : Nat → List Int
 | 0 => List.replicate T.length 0
 | d + 1 => (List.range T.length).map (dS T goal (d + 1) (dL T goal d))
def dst (T : List (List Int)) (goal : Nat) : List Int := dL T goal T.length
end Go.Gh
/- Calls under a heap in another order; names that differ from the start. -/
namespace Go.Gh
set_option linter.unusedSimpArgs false
set_option linter.unusedVariables false
theorem GCalls.nd {P : Program} {f : FuncId} {gs : List GV} {H : GH} {R : GV → GH → Prop} (h : (names H).Nodup → GCalls P f gs H R) : GCalls P f gs H R :=
 fun w D Ω args hst hargs => h hst.nn w D Ω args hst hargs
theorem GCalls.sub {P : Program} {f : FuncId} {gs : List GV} {H L T : GH} {R : GV → GH → Prop} (hs : subH H L) (h : GCalls P f gs (L ++ T) R) : GCalls P f gs (H ++ T) R := by
 intro w D Ω args hst hargs
 obtain ⟨Ω', h1, h2⟩ := hst.sub hs
 refine Yld.mono (fun v w' ⟨g, H', D', Ω'', k1, k2, k3, k4⟩ => ?_) (h w D Ω' args h1 hargs)
 exact ⟨g, H', D', Ω'', k1, k2, k3, ⟨k4.d0, fun b hb hD => (k4.dn b hb hD).imp id (h2 b), fun b hb hl => h2 b (k4.on b hb hl), k4.kp.mono fun b _ hb hb' => hb (h2 b hb'), k4.os, k4.tape, k4.output⟩⟩
end Go.Gh
/- Checks of a grammar: steps. -/
namespace Go.Gh
set_option linter.unusedSimpArgs false
set_option linter.unusedVariables false
theorem bor_OcS {H : GH} {r n : Nat} {l : List Oc} (hr : hget H r = some (2, l.map Occ)) (hn : l.length = n) : Bor H (.own r 2 0 n) (OcS l) := Bor.allM (fun _ => rfl) hr hn
theorem reqP_take {g : Gram} {r : Rul} {pos : Nat} {m : Int} (hm : m = if pos = 0 then 2 else 1) (l : List Att) {i : Nat} (h : i < l.length) :
  (((l.take (i + 1)).filter fun a => decide (a.mode = m)).map fun a => ((pos : Int), a.name)) = (((l.take i).filter fun a => decide (a.mode = m)).map fun a => ((pos : Int), a.name)) ++ (if l[i].mode = m then [((pos : Int), l[i].name)] else []) := by
 rw [List.take_add_one, List.getElem?_eq_getElem h, List.filter_append, List.map_append]
 by_cases e : l[i].mode = m <;> simp [e]
theorem reqA_len {g : Gram} (hg : smGr g) (r : Rul) : ∀ n, (reqA g r n).length ≤ n * 1048576
 | 0 => by simp [reqA]
 | n + 1 => by
  have h1 := reqA_len hg r n
  have h2 : (reqP g r n).length ≤ 1048576 := by
   have h3 := List.length_filter_le (fun a : Att => decide (a.mode = if n = 0 then 2 else 1)) (fSym g.syms (symAt r n)).atts
   have h4 := smSy_f hg (symAt r n)
   unfold smSy at h4
   simp only [reqP, List.length_map]
   omega
  simp only [reqA, List.length_append]
  omega
theorem hgts_len (g : Gram) : (hgts g).length = g.syms.length := hIt_len g _
end Go.Gh
/- Draws: symbols, rules, grammars as they are drawn. -/
namespace Go.Gh
set_option linter.unusedSimpArgs false
set_option linter.unusedVariables false
def ltr : Nat → ByteArray
 | 0 => ByteArray.mk #[97]
 | 1 => ByteArray.mk #[98]
 | 2 => ByteArray.mk #[99]
 | _ => ByteArray.mk #[100]
def drA (i : Nat) (a : Att) : Prop := a.name = ltr i ∧ (1 ≤ a.type ∧ a.type ≤ 4) ∧ (1 ≤ a.mode ∧ a.mode ≤ 3) ∧ a.circ = false
def drL (l : List Att) : Prop := ∀ i (h : i < l.length), drA i l[i]
def drS (s : Sym) : Prop := shT s.name ∧ 1 ≤ s.atts.length ∧ s.atts.length ≤ 4 ∧ drL s.atts
theorem ltr_sh : ∀ i, shT (ltr i)
 | 0 => by decide
 | 1 => by decide
 | 2 => by decide
 | _ + 3 => by show shT (ByteArray.mk #[100]); decide
theorem drL_nil : drL [] := fun i h => by simp at h
theorem drL_app {l : List Att} {a : Att} (h : drL l) (ha : drA l.length a) : drL (l ++ [a]) := fun i hi => by
 simp only [List.length_append, List.length_cons, List.length_nil] at hi
 rcases Nat.lt_or_ge i l.length with h1 | h1
 ·rw [List.getElem_append_left h1]; exact h i h1
 ·obtain rfl : i = l.length := by omega
  simpa using ha
theorem drS_sh {s : Sym} (h : drS s) : shSy s := ⟨h.1, h.2.1, by have := h.2.2.1; omega, fun a ha => by
 obtain ⟨i, hi, rfl⟩ := List.mem_iff_getElem.1 ha
 rw [(h.2.2.2 i hi).1]
 exact ltr_sh i⟩
theorem ltr_get (i : Nat) (h : i < ([T (ByteArray.mk #[97]), T (ByteArray.mk #[98]), T (ByteArray.mk #[99]), T (ByteArray.mk #[100])] : List GV).length) :
  ([T (ByteArray.mk #[97]), T (ByteArray.mk #[98]), T (ByteArray.mk #[99]), T (ByteArray.mk #[100])] : List GV)[i]'h = T (ltr i) := by
 have : i = 0 ∨ i = 1 ∨ i = 2 ∨ i = 3 := by simp at h; omega
 rcases this with rfl | rfl | rfl | rfl <;> rfl
theorem nxAtt {ι : Type} {E : ι → Env} {G : ι → GH} {μ : ι → Nat} {i : ι} {e : Env} {q : Nat} {X : List GV} {nm : ByteArray} {t m : Int} {R : GH} (h : ∀ a : Att, a = ⟨nm, t, m, false⟩ → Nx E G μ i e ((q, 4, X ++ [At a]) :: R)) :
  Nx E G μ i e ((q, 4, X ++ [.agg [T nm, I t, I m, B false]]) :: R) := h _ rfl
abbrev GrX (g : Gram) (X : GV) : GV := .agg [SyS g.syms, X]
abbrev RuX (r : Rul) (Y Z : GV) : GV := .agg [T r.name, T r.left, TS r.right, B r.lit, Y, Z]
def ofT (kind : Int) (pos : Nat) (a : Att) : Bool := decide (a.type = kind ∧ a.mode = if pos = 0 then 1 else 2)
def ofP (g : Gram) (r : Rul) (kind : Int) (pos : Nat) : List Oc := ((fSym g.syms (symAt r pos)).atts.filter (ofT kind pos)).map fun a => ((pos : Int), a.name)
def ofA (g : Gram) (r : Rul) (kind : Int) : Nat → List Oc
 | 0 => []
 | n + 1 => ofA g r kind n ++ ofP g r kind n
def ofO (g : Gram) (r : Rul) (kind : Int) : List Oc := ofA g r kind (r.right.length + 1)
theorem ofP_take {p : Att → Bool} {pos : Nat} (l : List Att) {i : Nat} (h : i < l.length) :
  (((l.take (i + 1)).filter p).map fun a => ((pos : Int), a.name)) = (((l.take i).filter p).map fun a => ((pos : Int), a.name)) ++ (if p l[i] = true then [((pos : Int), l[i].name)] else []) := by
 rw [List.take_add_one, List.getElem?_eq_getElem h, List.filter_append, List.map_append]
 by_cases e : p l[i] = true <;> simp [e]
theorem ofA_len {g : Gram} (hg : smGr g) (r : Rul) (kind : Int) : ∀ n, (ofA g r kind n).length ≤ n * 1048576
 | 0 => by simp [ofA]
 | n + 1 => by
  have h1 := ofA_len hg r kind n
  have h2 : (ofP g r kind n).length ≤ 1048576 := by
   have h3 := List.length_filter_le (ofT kind n) (fSym g.syms (symAt r n)).atts
   have h4 := smSy_f hg (symAt r n)
   unfold smSy at h4
   simp only [ofP, List.length_map]
   omega
  simp only [ofA, List.length_append]
  omega
theorem fSym_sh {l : List Sym} (h : ∀ s ∈ l, shSy s) (n : ByteArray) : ∀ a ∈ (fSym l n).atts, shT a.name := by
 rcases fSym_mem l n with h1 | h1
 ·exact (h _ h1).2.2.2
 ·rw [h1]; simp [symZ]
theorem ofA_sh {g : Gram} (h : ∀ s ∈ g.syms, shSy s) (r : Rul) (kind : Int) : ∀ n, ∀ o ∈ ofA g r kind n, shT o.2
 | 0, o, ho => by simp [ofA] at ho
 | n + 1, o, ho => by
  simp only [ofA, List.mem_append] at ho
  rcases ho with ho | ho
  ·exact ofA_sh h r kind n o ho
  ·simp only [ofP, List.mem_map, List.mem_filter] at ho
   obtain ⟨a, ⟨ha, _⟩, rfl⟩ := ho
   exact fSym_sh h _ a ha
theorem reqA_sh {g : Gram} (h : ∀ s ∈ g.syms, shSy s) (r : Rul) : ∀ n, ∀ o ∈ reqA g r n, shT o.2
 | 0, o, ho => by simp [reqA] at ho
 | n + 1, o, ho => by
  simp only [reqA, List.mem_append] at ho
  rcases ho with ho | ho
  ·exact reqA_sh h r n o ho
  ·simp only [reqP, List.mem_map, List.mem_filter] at ho
   obtain ⟨a, ⟨ha, _⟩, rfl⟩ := ho
   exact fSym_sh h _ a ha
theorem callA.ex {P : Program} {f : FuncId} {gs : List GV} {R : GV → GH → Prop} {K : Env → GH → Prop} {is : List GI} {env : Env} {H : GH} {d : Option Nat} (h : GCalls P f gs H (fun g H' => ∃ H1, R g H1 ∧ H' = H1 ++ H))
  (hk : ∀ g H1, R g H1 → (names (H1 ++ H)).Nodup → gsteps P is K (gput env d g) (H1 ++ H)) : callA P f (some gs) d is K env H := ⟨R, h, hk⟩
end Go.Gh
/- Draws: more plain facts. -/
namespace Go.Gh
set_option linter.unusedSimpArgs false
set_option linter.unusedVariables false
abbrev RuB (r : Rul) (b : Bool) (Y Z : GV) : GV := .agg [T r.name, T r.left, TS r.right, B b, Y, Z]
theorem ofA_lit (g : Gram) (r : Rul) (b : Bool) (kind : Int) : ∀ n, ofA g { r with lit := b } kind n = ofA g r kind n
 | 0 => rfl
 | n + 1 => by simp only [ofA, ofA_lit g r b kind n]; rfl
theorem ofO_lit (g : Gram) (r : Rul) (b : Bool) (kind : Int) : ofO g { r with lit := b } kind = ofO g r kind := ofA_lit g r b kind _
theorem smRu_lit {r : Rul} (h : smRu r) (b : Bool) : smRu { r with lit := b } := h
theorem names_nd2 {w rc : Nat} {x y : Nat × List GV} {H : GH} (h : (names ([(w, x)] ++ (rc, y) :: H)).Nodup) : ¬ w = rc := fun e => by
 subst e
 simp [names] at h
theorem fin_if {d : Nat} {a b c : Exp} {q rc : Nat} {H : GH} (ha : shD d a) (hb : shD d b) (hc : shD d c) (hne : ¬ q = rc) :
  ∃ G T L, (∃ e, shD (d + 1) e ∧ G = Ex e) ∧ Bor L (.agg [I 5, I 0, I 0, I 0, Gh.T noS, Gh.T noS, .own q 7 0 3]) G ∧ (q, 7, [Ex a, Ex b, Ex c]) :: (rc, 3, [GV.cur]) :: H = T ++ H ∧ subH T (L ++ [(rc, 3, [GV.cur])]) :=
 ⟨_, [_, _], [(q, 7, [Ex a, Ex b, Ex c])], ⟨.mk 5 0 0 0 noS noS [a, b, c], shD_node (by decide) (by decide) (by simp) (by simp [ha, hb, hc]), rfl⟩, bor_ExV (l := [a, b, c]) hget_new rfl, rfl, by simp [subH, hget, names, hne]⟩
end Go.Gh
/- Draws: rules and grammars. -/
namespace Go.Gh
set_option linter.unusedSimpArgs false
set_option linter.unusedVariables false
theorem fSym_len5 {l : List Sym} (h : ∀ s ∈ l, shSy s) (n : ByteArray) : (fSym l n).atts.length ≤ 5 := by
 rcases fSym_mem l n with h1 | h1
 ·exact (h _ h1).2.2.1
 ·rw [h1]; simp [symZ]
theorem reqA_len5 {g : Gram} (h : ∀ s ∈ g.syms, shSy s) (r : Rul) : ∀ n, (reqA g r n).length ≤ n * 5
 | 0 => by simp [reqA]
 | n + 1 => by
  have h1 := reqA_len5 h r n
  have h2 : (reqP g r n).length ≤ 5 := by
   have h3 := List.length_filter_le (fun a : Att => decide (a.mode = if n = 0 then 2 else 1)) (fSym g.syms (symAt r n)).atts
   have h4 := fSym_len5 h (symAt r n)
   simp only [reqP, List.length_map]
   omega
  simp only [reqA, List.length_append]
  omega
abbrev QnN (p : Int) (m : ByteArray) (e : Exp) : GV := .agg [I p, T m, I e.kind, I e.n, I e.pos, I e.type, T e.sym, T e.name, .val (.slice none 0 0)]
theorem MV.qnn {p : Int} {m : ByteArray} {e : Exp} (h : e.args = []) : ∀ w D v F, MV w D (QnN p m e) v F → MV w D (Qn ⟨p, m, e⟩) v F := fun w D v F hm => by
 have := MV.fld (j := 8) (g' := .sl 7 []) rfl MV.nil_sl v F hm
 show MV w D (.agg [I p, T m, I e.kind, I e.n, I e.pos, I e.type, T e.sym, T e.name, .sl 7 (e.args.map Ex)]) v F
 rw [h]
 exact this
theorem FE.qn {env : Env} {q : Nat} {L : List GV} {p : Int} {m : ByteArray} {e : Exp} {H : GH} (h : e.args = []) : FE env ((q, 9, L ++ [QnN p m e]) :: H) env ((q, 9, L ++ [Qn ⟨p, m, e⟩]) :: H) := by
 have := FE.exch (env := env) (H := (q, 9, L ++ [QnN p m e]) :: H) (r := q) (sz := 9) (i := L.length) (es := L ++ [QnN p m e]) (e := QnN p m e) (e' := Qn ⟨p, m, e⟩) (by simp [hget]) (by simp) (MV.qnn h)
 simpa [hset] using this
end Go.Gh
/- Heights of symbols: steps. -/
namespace Go.Gh
set_option linter.unusedSimpArgs false
set_option linter.unusedVariables false
def rchP (g : Gram) (out : List Int) (s : ByteArray) (r : Rul) (k : Nat) : Bool := decide (r.left = s) && (r.right.take k).all fun c => decide (0 < hOf g out c)
theorem rchP_step {g : Gram} {out : List Int} {s : ByteArray} {r : Rul} {k : Nat} (h : k < r.right.length) : rchP g out s r (k + 1) = (rchP g out s r k && decide (0 < hOf g out r.right[k])) := by
 unfold rchP
 rw [List.take_add_one, List.getElem?_eq_getElem h, Option.toList_some, List.all_append, Bool.and_assoc]
 simp
theorem rchP_end (g : Gram) (out : List Int) (s : ByteArray) (r : Rul) : rchP g out s r r.right.length = rchR g out s r := by
 unfold rchP rchR
 rw [List.take_length]
theorem hNext_eq {g : Gram} {k i : Nat} (h : i < g.syms.length) : (hIt g (k + 1)).getD i 0 = hNext g ((k : Int) + 1) (hIt g k) i := by
 rw [getD_lt (by rw [hIt_len]; exact h)]
 simp [hIt]
def nxt (g : Gram) (k i : Nat) (Y : List Int) : Prop := Y.length = g.syms.length ∧ ∀ j, j < g.syms.length → Y.getD j 0 = if j < i then (hIt g (k + 1)).getD j 0 else (hIt g k).getD j 0
theorem nxt_0 (g : Gram) (k : Nat) : nxt g k 0 (hIt g k) := ⟨hIt_len g k, fun j hj => by simp⟩
theorem nxt_n {g : Gram} {k : Nat} {Y : List Int} (h : nxt g k g.syms.length Y) : Y = hIt g (k + 1) := by
 refine List.ext_getElem (by rw [h.1, hIt_len]) fun j h1 h2 => ?_
 have h3 := h.1
 have := h.2 j (by omega)
 rw [if_pos (by omega), getD_lt h1, getD_lt h2] at this
 exact this
theorem nxt_keep {g : Gram} {k i : Nat} {Y : List Int} (h : nxt g k i Y) (hi : i < g.syms.length) (he : hNext g ((k : Int) + 1) (hIt g k) i = (hIt g k).getD i 0) : nxt g k (i + 1) Y := by
 refine ⟨h.1, fun j hj => ?_⟩
 rw [h.2 j hj]
 by_cases e : j = i
 ·subst e
  rw [if_neg (by omega), if_pos (by omega), hNext_eq hi, he]
 ·by_cases e2 : j < i
  ·rw [if_pos e2, if_pos (by omega)]
  ·rw [if_neg e2, if_neg (by omega)]
theorem nxt_set {g : Gram} {k i : Nat} {Y : List Int} {v : Int} (h : nxt g k i Y) (hi : i < g.syms.length) (he : hNext g ((k : Int) + 1) (hIt g k) i = v) : nxt g k (i + 1) (Y.set i v) := by
 have h1 := h.1
 refine ⟨by rw [List.length_set]; exact h.1, fun j hj => ?_⟩
 rw [getD_lt (by rw [List.length_set]; omega), List.getElem_set]
 by_cases e : i = j
 ·subst e
  rw [if_pos rfl, if_pos (by omega), hNext_eq hi, he]
 ·rw [if_neg e, ← getD_lt (d := 0) (by omega), h.2 j hj]
  by_cases e2 : j < i
  ·rw [if_pos e2, if_pos (by omega)]
  ·rw [if_neg e2, if_neg (by omega)]
theorem soT_I {l : List Int} {n : Nat} (h : l.length = n) : soT (some (1, l.map I)) 1 1 0 n = some (l.map I) := by
 subst h
 have hc : cleanL (l.map I) = true := by
  induction l with
  | nil => rfl
  | cons a l ih => simp only [List.map_cons, cleanL, ih]; rfl
 simp only [soT, List.drop_zero, List.length_map, Nat.zero_add, Nat.le_refl, true_and]
 rw [List.take_of_length_le (by simp), hc]; simp
end Go.Gh
/- Draws: trees. -/
namespace Go.Gh
set_option linter.unusedSimpArgs false
set_option linter.unusedVariables false
def drG (g : Gram) : Prop := shGr g ∧ (∀ s ∈ g.syms, drS s) ∧ g.rules.length ≤ 8 ∧ ∀ r ∈ g.rules, r.right.length ≤ 3
theorem drG_sm {g : Gram} (h : drG g) : smGr g := shGr_sm h.1
theorem drG_len {g : Gram} (h : drG g) : 1 ≤ g.syms.length ∧ g.syms.length ≤ 3 := ⟨h.1.1.1, h.1.1.2.1⟩
def hAt (g : Gram) (s : ByteArray) : Int := (hgts g).getD (max 0 (ixOf (fun y : Sym => decide (y.name = s)) g.syms)).toNat 0
theorem hIt_rng (g : Gram) : ∀ k i, 0 ≤ (hIt g k).getD i 0 ∧ (hIt g k).getD i 0 ≤ k
 | 0, i => by
  simp only [hIt, List.getD_eq_getElem?_getD, List.getElem?_replicate]
  split <;> simp
 | k + 1, i => by
  rcases Nat.lt_or_ge i g.syms.length with h | h
  ·have := hIt_rng g k i
   simp only [hIt]
   rw [getD_lt (by simpa using h), List.getElem_map, List.getElem_range]
   unfold hNext
   split
   ·omega
   ·split <;> omega
  ·rw [List.getD_eq_getElem?_getD, List.getElem?_eq_none (by rw [hIt_len]; exact h)]
   simp; omega
theorem hAt_rng (g : Gram) (s : ByteArray) : 0 ≤ hAt g s ∧ hAt g s ≤ g.syms.length := hIt_rng g _ _
def lowR (g : Gram) (s : ByteArray) (r : Rul) : Prop := ∀ c ∈ r.right, hAt g c < hAt g s
def lowB : Nat → Nat
 | 0 => 1
 | h + 1 => 1 + 3 * lowB h
def grB (room : Int) : Nat := if room < 5 then 40 else 41 * room.toNat
theorem lowB_mono {a b : Nat} (h : a ≤ b) : lowB a ≤ lowB b := by
  induction b with
  | zero => obtain rfl : a = 0 := by omega
            exact Nat.le_refl _
  | succ b ih =>
    rcases Nat.lt_or_ge a (b + 1) with h1 | h1
    · have := ih (by omega)
      simp only [lowB]; omega
    · obtain rfl : a = b + 1 := by omega
      exact Nat.le_refl _
theorem lowB_le {h : Nat} (h3 : h ≤ 3) : lowB h ≤ 40 := lowB_mono h3
theorem grB_step {room : Int} {n : Nat} (hr : 5 ≤ room) (hn : n ≤ 3) : 1 + n * grB (room.tdiv (max 1 n) - 1) ≤ grB room := by
 have h0 : n = 0 ∨ n = 1 ∨ n = 2 ∨ n = 3 := by omega
 have hb : ∀ x : Int, (x < 5 ∧ grB x = 40) ∨ (5 ≤ x ∧ grB x = 41 * x.toNat) := fun x => by
  unfold grB; split <;> omega
 rcases hb room with h1 | ⟨_, h1⟩
 ·omega
 ·rw [h1]
  rcases h0 with rfl | rfl | rfl | rfl
  ·omega
  ·rcases hb (room.tdiv (max 1 (1 : Nat)) - 1) with ⟨h2, h3⟩ | ⟨h2, h3⟩ <;> rw [h3] <;> simp at * <;> omega
  ·have h4 : room.tdiv (max 1 ((2 : Nat) : Int)) = room / 2 := by rw [Int.tdiv_eq_ediv_of_nonneg (by omega)]; rfl
   rcases hb (room.tdiv (max 1 ((2 : Nat) : Int)) - 1) with ⟨h2, h3⟩ | ⟨h2, h3⟩ <;> rw [h3] <;> rw [h4] at * <;> omega
  ·have h4 : room.tdiv (max 1 ((3 : Nat) : Int)) = room / 3 := by rw [Int.tdiv_eq_ediv_of_nonneg (by omega)]; rfl
   rcases hb (room.tdiv (max 1 ((3 : Nat) : Int)) - 1) with ⟨h2, h3⟩ | ⟨h2, h3⟩ <;> rw [h3] <;> rw [h4] at * <;> omega
def drN (x : Nod) : Prop := x.kids.length ≤ 3 ∧ shT x.rule
theorem sum_bnd {c : Nat} : ∀ l : List (List Nod), (∀ t ∈ l, t.length ≤ c) → (l.map (·.length)).sum ≤ l.length * c
 | [], _ => by simp
 | t :: l, h => by
  have h1 := sum_bnd l fun t ht => h t (by simp [ht])
  have h2 := h t (by simp)
  simp only [List.map_cons, List.sum_cons, List.length_cons, Nat.succ_mul]
  omega
theorem sum_take {l : List (List Nod)} {k : Nat} (h : k < l.length) : ((l.take (k + 1)).map (·.length)).sum = ((l.take k).map (·.length)).sum + l[k].length := by
 rw [List.take_add_one, List.getElem?_eq_getElem h, List.map_append, List.sum_append]
 rfl
end Go.Gh
/- Draws: contributions. -/
namespace Go.Gh
set_option linter.unusedSimpArgs false
set_option linter.unusedVariables false
abbrev CoN (s m : ByteArray) (e f : Exp) : GV := .agg [T s, T m, I e.kind, I e.n, I e.pos, I e.type, T e.sym, T e.name, .val (.slice none 0 0), I f.kind, I f.n, I f.pos, I f.type, T f.sym, T f.name, .val (.slice none 0 0)]
theorem MV.con {s m : ByteArray} {e f : Exp} (he : e.args = []) (hf : f.args = []) : ∀ w D v F, MV w D (CoN s m e f) v F → MV w D (Co ⟨s, m, e, f⟩) v F := fun w D v F hm => by
 have h1 := MV.fld (j := 15) (g' := .sl 7 []) rfl MV.nil_sl v F hm
 have h2 := MV.fld (j := 8) (g' := .sl 7 []) rfl MV.nil_sl v F h1
 show MV w D (.agg [T s, T m, I e.kind, I e.n, I e.pos, I e.type, T e.sym, T e.name, .sl 7 (e.args.map Ex), I f.kind, I f.n, I f.pos, I f.type, T f.sym, T f.name, .sl 7 (f.args.map Ex)]) v F
 rw [he, hf]
 exact h2
theorem FE.con {env : Env} {q : Nat} {L : List GV} {s m : ByteArray} {e f : Exp} {H : GH} (he : e.args = []) (hf : f.args = []) : FE env ((q, 16, L ++ [CoN s m e f]) :: H) env ((q, 16, L ++ [Co ⟨s, m, e, f⟩]) :: H) := by
 have := FE.exch (env := env) (H := (q, 16, L ++ [CoN s m e f]) :: H) (r := q) (sz := 16) (i := L.length) (es := L ++ [CoN s m e f]) (e := CoN s m e f) (e' := Co ⟨s, m, e, f⟩) (by simp [hget]) (by simp) (MV.con he hf)
 simpa [hset] using this
def shCo (c : Con) : Prop := shT c.sym ∧ shT c.name ∧ shEx c.goal ∧ shEx c.value
end Go.Gh
/- Draws: grammars put together. -/
namespace Go.Gh
set_option linter.unusedSimpArgs false
set_option linter.unusedVariables false
abbrev nilG : GV := .val (.slice none 0 0)
abbrev Ru0 (r : Rul) : GV := RuX r nilG nilG
theorem view_Co (c : Con) : view (Co c) = Co c := by
 have : ∀ l : List Exp, (l.map Ex).map view = l.map Ex := fun l => by rw [List.map_map]; exact List.map_congr_left fun a _ => view_Ex a
 simp [view, viewL, viewL_eq, this]
theorem view_Qn (c : Eqn) : view (Qn c) = Qn c := by
 have : ∀ l : List Exp, (l.map Ex).map view = l.map Ex := fun l => by rw [List.map_map]; exact List.map_congr_left fun a _ => view_Ex a
 simp [view, viewL, viewL_eq, this]
theorem view_map {α : Type} {f : α → GV} (h : ∀ a, view (f a) = f a) (l : List α) : (l.map f).map view = l.map f := by
 rw [List.map_map]; exact List.map_congr_left fun a _ => h a
theorem view_Sy (s : Sym) : view (Sy s) = Sy s := by
 have := view_map (f := At) (fun a => rfl) s.atts
 simp [view, viewL, viewL_eq, this]
theorem view_Ru0 (r : Rul) : view (Ru0 r) = Ru0 r := by
 have := view_map (f := T) (fun a => rfl) r.right
 simp [view, viewL, viewL_eq, this]
theorem view_Ru (r : Rul) : view (Ru r) = Ru r := by
 have h1 := view_map (f := T) (fun a => rfl) r.right
 have h2 := view_map view_Qn r.eqs
 have h3 := view_map view_Co r.cons
 simp only [view, viewL, viewL_eq, h1, h2, h3]
theorem FE.symF {env : Env} {q rg n : Nat} {l : List Sym} {H : GH} (hne : ¬ rg = q) (hl : l.length = n) : FE env ((q, 2, l.map Sy) :: (rg, 2, [.agg [.own q 2 0 n, nilG]]) :: H) env ((rg, 2, [.agg [SyS l, nilG]]) :: H) := by
 have h1 := FE.close (env := env) (H := (q, 2, l.map Sy) :: (rg, 2, [.agg [.own q 2 0 n, nilG]]) :: H) (r := rg) (r1 := q) (i := 0) (j := 0) hne (by simp [hget, Ne.symm hne]; exact ⟨rfl, rfl⟩) rfl rfl hget_new (by simpa using hl)
 have e : hdel (hset ((q, 2, l.map Sy) :: (rg, 2, [.agg [.own q 2 0 n, nilG]]) :: H) rg ([GV.agg [.own q 2 0 n, nilG]].set 0 (.agg ([GV.own q 2 0 n, nilG].set 0 (.osl 2 (l.map Sy)))))) q = (rg, 2, [.agg [.osl 2 (l.map Sy), nilG]]) :: H := by
  simp [hset, hdel, Ne.symm hne]
 rw [e] at h1
 refine FE.trans h1 (FE.frzV ?_)
 have := view_map view_Sy l
 simp only [viewL, view, viewL_eq, this]
theorem FE.leaf {env : Env} {q : Nat} {L : List Rul} {a b : ByteArray} {c : Bool} {H : GH} : FE env ((q, 6, L.map Ru0 ++ [.agg [T a, T b, nilG, B c, nilG, nilG]]) :: H) env ((q, 6, (L ++ [(⟨a, b, [], c, [], []⟩ : Rul)]).map Ru0) :: H) := by
 have := FE.exch (env := env) (H := (q, 6, L.map Ru0 ++ [.agg [T a, T b, nilG, B c, nilG, nilG]]) :: H) (r := q) (sz := 6) (i := L.length) (es := L.map Ru0 ++ [.agg [T a, T b, nilG, B c, nilG, nilG]]) (e := .agg [T a, T b, nilG, B c, nilG, nilG]) (e' := Ru0 (⟨a, b, [], c, [], []⟩ : Rul)) (by simp [hget]) (by simp)
  fun w D v F hm => MV.fld (j := 2) (g' := .sl 1 []) rfl MV.nil_sl v F hm
 have e : (L.map Ru0 ++ [GV.agg [T a, T b, nilG, B c, nilG, nilG]]).set L.length (Ru0 (⟨a, b, [], c, [], []⟩ : Rul)) = (L ++ [(⟨a, b, [], c, [], []⟩ : Rul)]).map Ru0 := by
  rw [List.set_append_right _ _ (by simp)]; simp
 rw [e] at this
 simpa [hset] using this
theorem FE.ruF {env : Env} {q q3 n : Nat} {L : List Rul} {a b : ByteArray} {rs : List ByteArray} {c : Bool} {H : GH} (hne : ¬ q = q3) (hn : rs.length = n) :
  FE env ((q, 6, L.map Ru0 ++ [.agg [T a, T b, .own q3 1 0 n, B c, nilG, nilG]]) :: (q3, 1, rs.map T) :: H) env ((q, 6, (L ++ [(⟨a, b, rs, c, [], []⟩ : Rul)]).map Ru0) :: H) := by
 refine FE.trans (FE.closeL2 (L := L.map Ru0) (j := 2) hne rfl (by simpa using hn)) (FE.frzV ?_)
 have h1 := view_map view_Ru0 L
 have h2 := view_map (f := T) (fun a => rfl) rs
 rw [viewL_eq, List.map_append, h1, List.map_append]
 simp only [List.map_cons, List.map_nil, List.set, view, viewL_eq, h2]
theorem viewL_set {es : List GV} {i : Nat} {x y : GV} (h : es.map view = es) (hx : view x = y) : viewL (es.set i x) = es.set i y := by
 rw [viewL_eq, List.map_set, h, hx]
theorem FE.ruQ {env : Env} {q q1 n : Nat} {es : List GV} {i : Nat} {r : Rul} {qs : List Eqn} {H : GH} (hne : q1 ≠ q) (hi : i < es.length) (hes : es.map view = es) (hn : qs.length = n) :
  FE env ((q1, 9, qs.map Qn) :: (q, 6, es.set i (RuX r (.own q1 9 0 n) nilG)) :: H) env ((q, 6, es.set i (Ru { r with eqs := qs, cons := [] })) :: H) := by
 refine FE.trans (FE.close2 (L := es) (i := i) (j := 4) hne hi rfl (by simpa using hn)) (FE.trans (FE.frzV (viewL_set hes (y := RuX r (QnS qs) nilG) ?_)) ?_)
 ·have h1 := view_map (f := T) (fun a => rfl) r.right
  have h2 := view_map view_Qn qs
  simp only [List.set, view, viewL_eq, List.map_cons, List.map_nil, h1, h2]
 ·have := FE.exch (env := env) (H := (q, 6, es.set i (RuX r (QnS qs) nilG)) :: H) (r := q) (sz := 6) (i := i) (es := es.set i (RuX r (QnS qs) nilG)) (e := RuX r (QnS qs) nilG) (e' := Ru { r with eqs := qs, cons := [] }) (by simp [hget]) (by simp [hi])
   fun w D v F hm => MV.fld (j := 5) (g' := .sl 16 []) rfl MV.nil_sl v F hm
  rw [List.set_set] at this
  simpa [hset] using this
theorem FE.ruP {env : Env} {q q1 q2 n m : Nat} {es : List GV} {i : Nat} {r : Rul} {qs : List Eqn} {cs : List Con} {H : GH} (hne : q1 ≠ q) (hne2 : q2 ≠ q) (hne3 : q2 ≠ q1) (hi : i < es.length) (hes : es.map view = es) (hn : qs.length = n) (hm : cs.length = m) :
  FE env ((q2, 16, cs.map Co) :: (q1, 9, qs.map Qn) :: (q, 6, es.set i (RuX r (.own q1 9 0 n) (.own q2 16 0 m))) :: H) env ((q, 6, es.set i (Ru { r with eqs := qs, cons := cs })) :: H) := by
 refine FE.trans (FE.perm (H := [_, _, _]) (L := [(q1, 9, qs.map Qn), (q, 6, es.set i (RuX r (.own q1 9 0 n) (.own q2 16 0 m))), (q2, 16, cs.map Co)]) (by simp [subH, hget, names, hne, hne2, hne3, Ne.symm hne, Ne.symm hne2, Ne.symm hne3])) ?_
 refine FE.trans (FE.close2 (L := es) (i := i) (j := 4) hne hi rfl (by simpa using hn)) ?_
 refine FE.trans (FE.perm (H := [_, _]) (L := [(q2, 16, cs.map Co), (q, 6, es.set i (.agg [T r.name, T r.left, TS r.right, B r.lit, .osl 9 (qs.map Qn), .own q2 16 0 m]))]) (by simp [subH, hget, names, hne, hne2, hne3, Ne.symm hne, Ne.symm hne2, Ne.symm hne3])) ?_
 refine FE.trans (FE.close2 (L := es) (i := i) (j := 5) hne2 hi rfl (by simpa using hm)) (FE.frzV (viewL_set hes ?_))
 have h1 := view_map (f := T) (fun a => rfl) r.right
 have h2 := view_map view_Qn qs
 have h3 := view_map view_Co cs
 simp only [List.set, view, viewL_eq, List.map_cons, List.map_nil, h1, h2, h3]
def shR0 (r : Rul) : Prop := shT r.name ∧ shT r.left ∧ r.right.length ≤ 3 ∧ ∀ s ∈ r.right, shT s
theorem shR0_sm {r : Rul} (h : shR0 r) : smRu { r with eqs := [], cons := [] } := ⟨by have := h.2.2.1; show r.right.length ≤ _; omega, by simp, by simp, by simp, by simp⟩
theorem mkS_size (l : List UInt8) : ∃ s : ByteArray, GV.val (mkS l) = T s ∧ s.size = l.length := ⟨⟨l.toArray⟩, rfl, by show l.toArray.size = _; simp⟩
theorem rul_mid {D L : List Rul} {j : Nat} (hD : D.length = j) (hj : j < L.length) : ∃ es : List GV, D.map Ru ++ (L.drop j).map Ru0 = es ∧ es.length = L.length ∧ (∀ h : j < es.length, es[j] = Ru0 L[j]) ∧ es.map view = es ∧
  ∀ r : Rul, es.set j (Ru r) = (D ++ [r]).map Ru ++ (L.drop (j + 1)).map Ru0 := by
 refine ⟨_, rfl, ?_, ?_, ?_, ?_⟩
 ·simp; omega
 ·intro h
  rw [List.getElem_append_right (by simp; omega)]
  simp [hD]
 ·rw [List.map_append, view_map view_Ru, view_map view_Ru0]
 ·intro r
  rw [List.set_append_right _ _ (by simp; omega), List.drop_eq_getElem_cons hj]
  simp only [List.map_cons, List.length_map, hD, Nat.sub_self, List.set_cons_zero, List.map_append, List.map_nil, List.append_assoc, List.singleton_append]
theorem bor_rul {q n : Nat} {l : List Sym} {D : List Rul} {X : List GV} (h : D.length = n) : Bor [(q, 6, D.map Ru ++ X)] (.agg [SyS l, .own q 6 0 n]) (Gr ⟨l, D⟩) := by
 have h1 := Bor.own (H := [(q, 6, D.map Ru ++ X)]) (r := q) (sz := 6) (k := 0) (n := n) (es := D.map Ru ++ X) hget_new (by simp; omega)
 have e : viewL (((D.map Ru ++ X).drop 0).take n) = D.map Ru := by
  rw [List.drop_zero, List.take_append_of_le_length (by simp; omega), List.take_of_length_le (by simp; omega), viewL_eq, view_map view_Ru]
 rw [e] at h1
 exact .agg (.cons .refl (.cons h1 .nil))
theorem drG_of {l : List Sym} {D : List Rul} (h1 : 1 ≤ l.length) (h3 : l.length ≤ 3) (hd : ∀ s ∈ l, drS s) (k1 : 1 ≤ D.length) (k2 : D.length ≤ 8) (hr : ∀ r ∈ D, shRu r ∧ r.right.length ≤ 3) : drG ⟨l, D⟩ :=
 ⟨⟨⟨h1, h3, fun s hs => drS_sh (hd s hs)⟩, k1, by show D.length ≤ 16; omega, fun r h => (hr r h).1⟩, hd, k2, fun r h => (hr r h).2⟩
theorem shRu_of {r : Rul} {qs : List Eqn} {cs : List Con} (h : shR0 r) (h1 : qs.length ≤ 64) (h2 : ∀ q ∈ qs, shT q.name ∧ shEx q.expr) (h3 : cs.length ≤ 2) (h4 : ∀ c ∈ cs, shCo c) : shRu { r with eqs := qs, cons := cs } ∧ ({ r with eqs := qs, cons := cs } : Rul).right.length ≤ 3 :=
 ⟨⟨h.1, h.2.1, by have := h.2.2.1; show r.right.length ≤ 5; omega, h.2.2.2, h1, h2, by show cs.length ≤ 64; omega, h4⟩, h.2.2.1⟩
def rulO (g : Gram) (s : ByteArray) : List ByteArray := (g.rules.filter fun r => decide (r.left = s)).map (·.name)
def rulP (g : Gram) (s : ByteArray) (k : Nat) : List ByteArray := ((g.rules.take k).filter fun r => decide (r.left = s)).map (·.name)
theorem rulP_s {g : Gram} {s : ByteArray} {k : Nat} (h : k < g.rules.length) : rulP g s (k + 1) = rulP g s k ++ (if g.rules[k].left = s then [g.rules[k].name] else []) := by
 unfold rulP
 rw [List.take_add_one, List.getElem?_eq_getElem h, List.filter_append, List.map_append]
 by_cases e : g.rules[k].left = s <;> simp [e]
theorem rulP_end (g : Gram) (s : ByteArray) : rulP g s g.rules.length = rulO g s := by simp [rulP, rulO]
theorem rulP_len (g : Gram) (s : ByteArray) (k : Nat) : (rulP g s k).length ≤ g.rules.length := by
 unfold rulP
 rw [List.length_map]
 exact Nat.le_trans (List.length_filter_le _ _) (by rw [List.length_take]; omega)
theorem rulO_mem {g : Gram} {s n : ByteArray} (h : n ∈ rulO g s) : fRul g.rules n ∈ g.rules := by
 unfold rulO at h
 obtain ⟨r, hr, rfl⟩ := List.mem_map.1 h
 have hr' := (List.mem_filter.1 hr).1
 unfold fRul
 cases e : g.rules.find? fun s => decide (s.name = r.name) with
 | none => have := List.find?_eq_none.1 e r hr'; simp at this
 | some a => exact List.mem_of_find?_eq_some e
theorem FE.rulz {env : Env} {q : Nat} {H : GH} : FE env ((q, 6, [.agg [T noS, T noS, nilG, B false, nilG, nilG]]) :: H) env ((q, 6, [Ru rulZ]) :: H) := by
 have h := FE.exch (env := env) (H := (q, 6, [.agg [T noS, T noS, nilG, B false, nilG, nilG]]) :: H) (r := q) (sz := 6) (i := 0) (es := [.agg [T noS, T noS, nilG, B false, nilG, nilG]]) (e := .agg [T noS, T noS, nilG, B false, nilG, nilG]) (e' := Ru rulZ) (by simp [hget]) rfl
  fun w D v F hm => MV.fld (j := 5) (g' := .sl 16 []) rfl MV.nil_sl v F (MV.fld (j := 4) (g' := .sl 9 []) rfl MV.nil_sl v F (MV.fld (j := 2) (g' := .sl 1 []) rfl MV.nil_sl v F hm))
 simpa [hset] using h
def atS (g : Gram) (s : ByteArray) : Nat := (max 0 (ixOf (fun y : Sym => decide (y.name = s)) g.syms)).toNat
theorem atS_lt {g : Gram} (h : 1 ≤ g.syms.length) (s : ByteArray) : atS g s < (hgts g).length := by
 rw [hgts_len]
 unfold atS
 rcases ixOf_cases (fun y : Sym => decide (y.name = s)) g.syms with h1 | h1 <;> omega
theorem hAt_eq {g : Gram} (h : 1 ≤ g.syms.length) (s : ByteArray) : (hgts g)[atS g s]'(atS_lt h s) = hAt g s := by
 unfold hAt
 rw [← getD_lt (atS_lt h s)]
 rfl
def okR (g : Gram) (s : ByteArray) (room : Int) (r : Rul) : Prop := (r = rulZ ∨ r ∈ g.rules) ∧ (room < 5 → r = rulZ ∨ lowR g s r)
def goodT (b : Nat) (t : List Nod) : Prop := (∀ x ∈ t, drN x) ∧ 1 ≤ t.length ∧ t.length ≤ b
theorem view_Tr (t : List Nod) : view (Tr t) = Tr t := by
 have : ∀ x : Nod, view (Nd x) = Nd x := fun x => by
  have := view_map (f := I) (fun a => rfl) x.kids
  simp [view, viewL, viewL_eq, this]
 have := view_map this t
 simp [view, viewL, viewL_eq, this]
theorem tdiv_rng {a b : Int} (h : -100000 ≤ a ∧ a ≤ 100000) (hb : 1 ≤ b) : -100000 ≤ a.tdiv b ∧ a.tdiv b ≤ 100000 := by
 have h1 : (a.tdiv b).natAbs ≤ a.natAbs := by
  rw [Int.natAbs_tdiv]; exact Nat.div_le_self _ _
 omega
theorem wrS {a : Int} (h : -200000 ≤ a ∧ a ≤ 200000) : IntKind.i64.wrap a = a := wrap64 (by omega) (by omega)
theorem tdiv_lo {a m : Int} (hm : 1 ≤ m) : (0 ≤ a → 0 ≤ a.tdiv m ∧ a.tdiv m ≤ a) ∧ (a ≤ 0 → a ≤ a.tdiv m ∧ a.tdiv m ≤ 0) := by
 have key : ∀ a : Int, 0 ≤ a → 0 ≤ a.tdiv m ∧ a.tdiv m ≤ a := fun a ha => by
  rw [Int.tdiv_eq_ediv_of_nonneg ha]
  exact ⟨Int.ediv_nonneg ha (by omega), Int.ediv_le_self m ha⟩
 refine ⟨key a, fun ha => ?_⟩
 have h := key (-a) (by omega)
 rw [Int.neg_tdiv] at h
 omega
theorem goodT.mono {a b : Nat} {t : List Nod} (h : goodT a t) (hab : a ≤ b) : goodT b t := ⟨h.1, h.2.1, Nat.le_trans h.2.2 hab⟩
theorem grB_le {room : Int} (h : room ≤ 1000) : grB room ≤ 41000 := by unfold grB; split <;> omega
theorem bor_TrO {q : Nat} {t : List Nod} : Bor [(q, 6, t.map NdO)] (.agg [.own q 6 0 t.length]) (Tr t) :=
 .agg (.cons (Bor.seen (f := NdO) (g := Nd) (fun x => by have := view_NdO [x]; simpa using this) hget_new rfl) .nil)
end Go.Gh
/- Draws: trees bent. -/
namespace Go.Gh
set_option linter.unusedSimpArgs false
set_option linter.unusedVariables false
section
variable {P : Program} {cf : Cfg}
theorem gstartG {f : FuncId} {F : GFun} (hF : IsFun P f F) {cf : Cfg} {gc : GC} {gr : List GR} (hf : F = ⟨cf, gc, gr⟩) {gs : List GV} {H : GH} {R : GV → GH → Prop} (hlen : gs.length ≤ cf.N)
  (h : GW P cf gc (GEndS gr R) (envOf gs 0) H) : GCalls P f gs H R := GCalls.start hF hf hlen (GW.mono (fun _ _ _ h => h.ok) h)
theorem gwpS (mxd : P.follows .mixedOrders = true) {x y : GC} {Q : Exit → Env → GH → Prop} {env : Env} {H : GH} (h : gwp P cf x (thenG (GW P cf y Q) Q) env H) : GW P cf (.seq x y) Q env H := GW.seq (gwp_ok mxd h)
theorem gwpB (mxd : P.follows .mixedOrders = true) {x : GC} {id : Nat} {Q : Exit → Env → GH → Prop} {env : Env} {H : GH} (h : gwp P cf x (blockG id Q) env H) : GW P cf (.block id x) Q env H := GW.block (gwp_ok mxd h)
end
def bentT (t : List Nod) : Prop := (∀ x ∈ t, x.kids.length ≤ 4 ∧ shT x.rule) ∧ 1 ≤ t.length ∧ t.length ≤ 41
theorem bentT_of {t : List Nod} (h : goodT 40 t) : bentT t := ⟨fun x hx => ⟨by have := (h.1 x hx).1; omega, (h.1 x hx).2⟩, h.2.1, by have := h.2.2; omega⟩
theorem bentT_set {t : List Nod} {x : Nod} {k : Nat} (h : goodT 40 t) (h1 : x.kids.length ≤ 4) (h2 : shT x.rule) : bentT (t.set k x) :=
 ⟨fun y hy => (List.mem_or_eq_of_mem_set hy).elim (fun h3 => ⟨by have := (h.1 y h3).1; omega, (h.1 y h3).2⟩) fun h3 => by subst h3; exact ⟨h1, h2⟩, by rw [List.length_set]; exact h.2.1, by rw [List.length_set]; have := h.2.2; omega⟩
theorem view_Nd (x : Nod) : view (Nd x) = Nd x := by
 have := view_map (f := I) (fun a => rfl) x.kids
 simp [view, viewL, viewL_eq, this]
theorem bor_TrN {q n : Nat} {t : List Nod} (h : t.length = n) : Bor [(q, 6, t.map Nd)] (.agg [.own q 6 0 n]) (Tr t) :=
 .agg (.cons (Bor.allM view_Nd hget_new h) .nil)
theorem bor_TrO' {q n : Nat} {t : List Nod} (h : t.length = n) : Bor [(q, 6, t.map NdO)] (.agg [.own q 6 0 n]) (Tr t) := by subst h; exact bor_TrO
theorem mem4 {a b c d : Int} {g : GV} (h : g ∈ [I a, I b, I c, I d]) : ∃ n, g = I n := by
 simp only [List.mem_cons, List.not_mem_nil, or_false] at h
 rcases h with rfl | rfl | rfl | rfl <;> exact ⟨_, rfl⟩
theorem borS {q k : Nat} {t : List Nod} {x : Nod} : Bor [(q, 6, (t.map NdO).set k (NdO x))] (.agg [.own q 6 0 t.length]) (Tr (t.set k x)) := by
 have := bor_TrO' (q := q) (t := t.set k x) (n := t.length) (by simp)
 rwa [List.map_set] at this
theorem bentT_app {t : List Nod} {k : Nat} (h : goodT 40 t) (hk : k < t.length) : bentT (t ++ [t[k]]) :=
 ⟨fun y hy => (List.mem_append.1 hy).elim (fun h3 => ⟨by have := (h.1 y h3).1; omega, (h.1 y h3).2⟩) fun h3 => by
  rw [List.mem_singleton] at h3; subst h3; have := h.1 _ (List.getElem_mem hk); exact ⟨by have := this.1; omega, this.2⟩, by simp, by have := h.2.2; simp; omega⟩
theorem view_NdOs (t : List Nod) : viewL (t.map NdO) = t.map Nd := by rw [viewL_eq]; exact view_NdO t
end Go.Gh
/- Static grammars. -/
namespace Go.Gh
set_option linter.unusedSimpArgs false
set_option linter.unusedVariables false
end Go.Gh
/- Tables: slices of own slices, opened and closed; their marks. -/
namespace Go.Gh
set_option linter.unusedSimpArgs false
set_option linter.unusedVariables false
end Go.Gh
/- Orders: what the loops keep. -/
namespace Go.Gh
set_option linter.unusedSimpArgs false
set_option linter.unusedVariables false
end Go.Gh
/- Solutions. -/
namespace Go.Gh
set_option linter.unusedSimpArgs false
set_option linter.unusedVariables false
theorem kidsW_in {w : Nat → Int → Int → ByteArray → Int} {n : Int} {i : Nat} (hw : ∀ a p q s, 0 ≤ w a p q s → (a : Int) < w a p q s ∧ w a p q s ≤ n) : ∀ (cs : List Int) (ss : List ByteArray) (k a : Int), cs.length = ss.length → 0 ≤ a → 0 ≤ kidsW w i cs ss k a →
  (∀ c ∈ cs, 0 ≤ c ∧ c < n)
 | [], _, _, _, _, _, _ => fun c hc => by cases hc
 | c :: cs, [], _, _, h, _, _ => by simp at h
 | c :: cs, s :: ss, k, a, hl, ha, h => by
  simp only [kidsW] at h
  split at h
  ·omega
  rename_i h1
  split at h
  ·omega
  rename_i h2
  have h3 := hw a.toNat i (k + 1) s (by omega)
  have ih := kidsW_in hw cs ss (k + 1) (w a.toNat i (k + 1) s) (by simpa using hl) (by omega) h
  intro x hx
  rcases List.mem_cons.1 hx with rfl | hx
  ·simp only [ne_eq, Decidable.not_not] at h1
   omega
  ·exact ih x hx
theorem kidsW_all {w : Nat → Int → Int → ByteArray → Int} {n : Int} {i : Nat} {P : Nat → Prop} (hw : ∀ a p q s, 0 ≤ w a p q s → (a : Int) < w a p q s ∧ w a p q s ≤ n) (hP : ∀ (a : Nat) p q s, 0 ≤ w a p q s → ∀ j : Nat, a ≤ j → (j : Int) < w a p q s → P j) :
  ∀ (cs : List Int) (ss : List ByteArray) (k a : Int), 0 ≤ a → 0 ≤ kidsW w i cs ss k a → ∀ j : Nat, a ≤ j → (j : Int) < kidsW w i cs ss k a → P j
 | [], _, k, a, ha, h, j, h1, h2 => by simp only [kidsW] at h2; omega
 | c :: cs, [], k, a, ha, h, j, h1, h2 => by simp only [kidsW] at h2; omega
 | c :: cs, s :: ss, k, a, ha, h, j, h1, h2 => by
  simp only [kidsW] at h h2
  split at h
  ·omega
  rename_i g1
  rw [if_neg g1] at h2
  split at h
  ·omega
  rename_i g2
  rw [if_neg g2] at h2
  have h3 := hw a.toNat i (k + 1) s (by omega)
  by_cases hj : (j : Int) < w a.toNat i (k + 1) s
  ·exact hP a.toNat i (k + 1) s (by omega) j (by omega) hj
  ·exact kidsW_all hw hP cs ss (k + 1) (w a.toNat i (k + 1) s) (by omega) h j (by omega) h2
def kidsIn (t : List Nod) (j : Nat) : Prop := ∀ c ∈ (t.getD j nodZ).kids, 0 ≤ c ∧ c < t.length
theorem walkE_kids {g : Gram} {t : List Nod} : ∀ (f i : Nat) (p q : Int) (s : ByteArray), 0 ≤ walkE g t f i p q s → ∀ j : Nat, i ≤ j → (j : Int) < walkE g t f i p q s → kidsIn t j
 | 0, i, p, q, s, h, j, h1, h2 => by simp [walkE] at h
 | f + 1, i, p, q, s, h, j, h1, h2 => by
  simp only [walkE] at h h2
  split at h
  ·rename_i hi
   rw [if_pos hi] at h2
   split at h
   ·rename_i hf
    rw [if_pos hf] at h2
    have hl := (fitV_iff.1 hf).2.2.2.2.1
    by_cases e : j = i
    ·subst e
     exact kidsW_in (w := walkE g t f) (fun a p q s h => walkE_ge f a p q s h) _ _ 0 ((j : Int) + 1) hl (by omega) h
    ·exact kidsW_all (w := walkE g t f) (n := t.length) (P := kidsIn t) (fun a p q s h => walkE_ge f a p q s h) (fun a p q s h j h1 h2 => walkE_kids f a p q s h j h1 h2) _ _ 0 ((i : Int) + 1) (by omega) h j (by omega) h2
   ·omega
  ·omega
theorem treeOf_parts {g : Gram} {t : List Nod} {s : ByteArray} (h : treeOf g t s = true) : (1 ≤ t.length ∧ t.length ≤ 16) ∧ idsV t = true ∧ walkE g t t.length 0 (-1) 0 s = t.length := by
 simpa only [treeOf, Bool.and_eq_true, decide_eq_true_eq] using h
theorem tree_kids {g : Gram} {t : List Nod} {s : ByteArray} (h : treeOf g t s = true) {i : Nat} (hi : i < t.length) : ∀ c ∈ t[i].kids, 0 ≤ c ∧ c < t.length := by
 obtain ⟨_, _, h1⟩ := treeOf_parts h
 have := walkE_kids (g := g) (t := t) t.length 0 (-1) 0 s (by omega) i (by omega) (by rw [h1]; omega)
 unfold kidsIn at this
 rwa [getD_lt hi] at this
end Go.Gh
/- Solutions: the steps. -/
namespace Go.Gh
set_option linter.unusedSimpArgs false
set_option linter.unusedVariables false
end Go.Gh
/- Valid trees: subtrees' sizes add up; parents and places. -/
namespace Go.Gh
set_option linter.unusedSimpArgs false
set_option linter.unusedVariables false
theorem walkE_fit {g : Gram} {t : List Nod} {f i : Nat} {p q : Int} {s : ByteArray} (h : 0 ≤ walkE g t f i p q s) : i < t.length ∧ (t.getD i nodZ).parent = p ∧ (t.getD i nodZ).place = q := by
 cases f with
 | zero => simp [walkE] at h
 | succ f =>
  simp only [walkE] at h
  split at h
  ·rename_i hi
   split at h
   ·rename_i hf
    obtain ⟨_, _, h1, h2, _⟩ := fitV_iff.1 hf
    exact ⟨hi, h1, h2⟩
   ·omega
  ·omega
theorem walkE_par {g : Gram} {t : List Nod} : ∀ (f i : Nat) (p q : Int) (s : ByteArray), 0 ≤ walkE g t f i p q s → ∀ j : Nat, i < j → (j : Int) < walkE g t f i p q s → (i : Int) ≤ (t.getD j nodZ).parent
 | 0, i, p, q, s, h, j, h1, h2 => by simp [walkE] at h
 | f + 1, i, p, q, s, h, j, h1, h2 => by
  simp only [walkE] at h h2
  split at h
  ·rename_i hi
   rw [if_pos hi] at h2
   split at h
   ·rename_i hf
    rw [if_pos hf] at h2
    have key : ∀ (cs : List Int) (ss : List ByteArray) (k a : Int), (i : Int) < a → 0 ≤ kidsW (walkE g t f) i cs ss k a → ∀ j : Nat, a ≤ j → (j : Int) < kidsW (walkE g t f) i cs ss k a → (i : Int) ≤ (t.getD j nodZ).parent := by
     intro cs
     induction cs with
     | nil => intro ss k a ha h j h1 h2; simp only [kidsW] at h2; omega
     | cons c cs ih =>
      intro ss k a ha h j h1 h2
      cases ss with
      | nil => simp only [kidsW] at h2; omega
      | cons s ss =>
       simp only [kidsW] at h h2
       split at h
       ·omega
       rename_i g1
       rw [if_neg g1] at h2
       split at h
       ·omega
       rename_i g2
       rw [if_neg g2] at h2
       have hw : 0 ≤ walkE g t f a.toNat i (k + 1) s := by omega
       have h3 := walkE_ge f a.toNat i (k + 1) s hw
       by_cases hj : (j : Int) < walkE g t f a.toNat i (k + 1) s
       ·by_cases e : j = a.toNat
        ·have := (walkE_fit hw).2.1
         rw [e, this]
         exact Int.le_refl _
        ·have := walkE_par f a.toNat i (k + 1) s hw j (by omega) hj
         omega
       ·exact ih ss (k + 1) (walkE g t f a.toNat i (k + 1) s) (by omega) h j (by omega) h2
    exact key _ _ 0 ((i : Int) + 1) (by omega) h j (by omega) h2
   ·omega
  ·omega
theorem walkE_lt {g : Gram} {t : List Nod} : ∀ (f i : Nat) (p q : Int) (s : ByteArray), 0 ≤ walkE g t f i p q s → ∀ j : Nat, i < j → (j : Int) < walkE g t f i p q s → (t.getD j nodZ).parent < (j : Int)
 | 0, i, p, q, s, h, j, h1, h2 => by simp [walkE] at h
 | f + 1, i, p, q, s, h, j, h1, h2 => by
  simp only [walkE] at h h2
  split at h
  ·rename_i hi
   rw [if_pos hi] at h2
   split at h
   ·rename_i hf
    rw [if_pos hf] at h2
    have key : ∀ (cs : List Int) (ss : List ByteArray) (k a : Int), (i : Int) < a → 0 ≤ kidsW (walkE g t f) i cs ss k a → ∀ j : Nat, a ≤ j → (j : Int) < kidsW (walkE g t f) i cs ss k a → (t.getD j nodZ).parent < (j : Int) := by
     intro cs
     induction cs with
     | nil => intro ss k a ha h j h1 h2; simp only [kidsW] at h2; omega
     | cons c cs ih =>
      intro ss k a ha h j h1 h2
      cases ss with
      | nil => simp only [kidsW] at h2; omega
      | cons s ss =>
       simp only [kidsW] at h h2
       split at h
       ·omega
       rename_i g1
       rw [if_neg g1] at h2
       split at h
       ·omega
       rename_i g2
       rw [if_neg g2] at h2
       have hw : 0 ≤ walkE g t f a.toNat i (k + 1) s := by omega
       have h3 := walkE_ge f a.toNat i (k + 1) s hw
       by_cases hj : (j : Int) < walkE g t f a.toNat i (k + 1) s
       ·by_cases e : j = a.toNat
        ·have := (walkE_fit hw).2.1
         rw [e, this]
         omega
        ·have := walkE_lt f a.toNat i (k + 1) s hw j (by omega) hj
         omega
       ·exact ih ss (k + 1) (walkE g t f a.toNat i (k + 1) s) (by omega) h j (by omega) h2
    exact key _ _ 0 ((i : Int) + 1) (by omega) h j (by omega) h2
   ·omega
  ·omega
end Go.Gh
/- The law FnTrees: what its loops need. -/
namespace Go.Gh
set_option linter.unusedSimpArgs false
set_option linter.unusedVariables false
theorem bentT_sm {t : List Nod} (h : bentT t) : t.length ≤ 1048576 ∧ (∀ x ∈ t, x.kids.length ≤ 1048576) ∧ ∀ x ∈ t, x.rule.size ≤ maxLen :=
 ⟨by have := h.2.2; omega, fun x hx => by have := (h.1 x hx).1; omega, fun x hx => shT_le (h.1 x hx).2⟩
theorem all2_refl {b : Bool} (t : List Nod) : all2 (sameNd b) t t = true := all2_yes rfl fun j h1 h2 => by simp [sameNd]
theorem bentT_setB {t : List Nod} {x : Nod} {k : Nat} (h : bentT t) (h1 : x.kids.length ≤ 4) (h2 : shT x.rule) : bentT (t.set k x) :=
 ⟨fun y hy => (List.mem_or_eq_of_mem_set hy).elim (h.1 y) fun h3 => by subst h3; exact ⟨h1, h2⟩, by rw [List.length_set]; exact h.2.1, by rw [List.length_set]; exact h.2.2⟩
end Go.Gh
/- Edits of trees. -/
namespace Go.Gh
set_option linter.unusedSimpArgs false
set_option linter.unusedVariables false
@[ext] structure Edi where
 kind : Int
 node : Int
 other : Int
 lit : Int
 tree : List Nod
 deriving DecidableEq
abbrev Ed (e : Edi) : GV := .agg [I e.kind, I e.node, I e.other, I e.lit, NdS e.tree]
def swT (g : Gram) (t : List Nod) (a b : Nat) : List Nod × Int :=
 if (b : Int) < (a : Int) + subLen t a then (t, 6)
 else if symN g t a = symN g t b then (repT (repT t b (subT t a)) a (subT t b), 0) else (t, 3)
theorem mk_sm {t : List Nod} {n : Nat} (h : mkEnd 1 t ≤ n) : t.length ≤ n ∧ ∀ x ∈ t, x.kids.length ≤ n := by
 rw [mkEnd_eq] at h
 refine ⟨by omega, fun x hx => ?_⟩
 have := sum_mem (fun x : Nod => x.kids.length) t x hx
 omega
end Go.Gh
/- Draws: edits. -/
namespace Go.Gh
set_option linter.unusedSimpArgs false
set_option linter.unusedVariables false
theorem FE.edN {env e0 : Env} {re : Nat} {k n o l : Int} {H : GH} (hs : subE env e0) : FE env ((re, 5, [.agg [I k, I n, I o, I l, nilG]]) :: H) e0 ((re, 5, [Ed ⟨k, n, o, l, []⟩]) :: H) := by
 refine FE.trans (FE.of hs) ?_
 have h := FE.exch (env := e0) (H := (re, 5, [.agg [I k, I n, I o, I l, nilG]]) :: H) (r := re) (sz := 5) (i := 0) (es := [.agg [I k, I n, I o, I l, nilG]]) (e := .agg [I k, I n, I o, I l, nilG]) (e' := Ed ⟨k, n, o, l, []⟩) (by simp [hget]) rfl
  fun w D v F hm => MV.fld (j := 4) (g' := .sl 6 []) rfl MV.nil_sl v F hm
 simpa [hset] using h
theorem FE.edO {env e0 : Env} {re q m : Nat} {k n o l : Int} {u : List Nod} {H : GH} (hs : subE env e0) (hne : ¬ re = q) (hm : u.length = m) :
  FE env ((re, 5, [.agg [I k, I n, I o, I l, .own q 6 0 m]]) :: (q, 6, u.map NdO) :: H) e0 ((re, 5, [Ed ⟨k, n, o, l, u⟩]) :: H) := by
 refine FE.trans (FE.of hs) (FE.trans (FE.closeL2 (L := []) (j := 4) hne rfl (by simpa using hm)) (FE.frzV ?_))
 have h1 := view_NdO u
 simp only [List.nil_append, List.set, viewL, view, viewL_eq, List.map_cons, List.map_nil, h1]
theorem mk_goodT {t : List Nod} (h : goodT 40 t) : mkEnd 1 t ≤ 400 := by
 have key : ∀ (l : List Nod) (k : Int), (∀ x ∈ l, x.kids.length ≤ 3) → mkEnd k l ≤ k + 8 * l.length := by
  intro l
  induction l with
  | nil => intro k _; simp [mkEnd]
  | cons x l ih =>
   intro k hx
   have h1 := hx x (by simp)
   have h2 := ih (k + 5 + x.kids.length) fun y hy => hx y (by simp [hy])
   simp only [mkEnd, List.length_cons]
   push_cast
   omega
 have := key t 1 fun x hx => (h.1 x hx).1
 have := h.2.2
 omega
def drE (e : Edi) : Prop := (∀ x ∈ e.tree, drN x) ∧ e.tree.length ≤ 800
theorem tmod_rng {a : Int} {n : Nat} (h : 0 ≤ a) (hn : 0 < n) : ∃ k : Nat, k < n ∧ a.tmod n = k := by
 refine ⟨(a.tmod n).toNat, ?_, ?_⟩
 ·have := Int.tmod_lt_of_pos a (show (0 : Int) < n by omega)
  have := Int.tmod_nonneg (n : Int) h
  omega
 ·have := Int.tmod_nonneg (n : Int) h
  omega
theorem edF {k n o l k' n' o' l' : Int} {u : List Nod} (h : drE ⟨k, n, o, l, u⟩) : ∃ e, drE e ∧ GV.agg [I k', I n', I o', I l', NdS u] = Ed e := ⟨⟨k', n', o', l', u⟩, h, rfl⟩
theorem edN' {env e0 : Env} {re : Nat} {k n o l : Int} {H : GH} (hs : subE env e0) : ∃ e, drE e ∧ FE env ((re, 5, [.agg [I k, I n, I o, I l, nilG]]) :: H) e0 ((re, 5, [Ed e]) :: H) := ⟨⟨k, n, o, l, []⟩, ⟨by simp, by simp⟩, FE.edN hs⟩
theorem FE.trT {env : Env} {r q n : Nat} {t : List Nod} {H : GH} (hne : ¬ r = q) (hn : t.length = n) : FE env ((r, 1, [.agg [.own q 6 0 n]]) :: (q, 6, t.map NdO) :: H) env ((r, 1, [Tr t]) :: H) := by
 refine FE.trans (FE.closeL2 (L := []) (j := 0) hne rfl (by simpa using hn)) (FE.frzV ?_)
 have h1 := view_NdO t
 simp only [List.nil_append, List.set, viewL, view, viewL_eq, List.map_cons, List.map_nil, h1]
def at0N (bs : List UInt8) (i : Nat) : Nat := if h : i < bs.length then bs[i].toNat else (i * 7 + bs.length) % 256
theorem bentT_goodN {t : List Nod} (h : bentT t) : t.length ≤ 41 ∧ 1 ≤ t.length := ⟨h.2.2, h.2.1⟩
end Go.Gh
/- Subtrees cut out and put back. -/
namespace Go.Gh
set_option linter.unusedSimpArgs false
set_option linter.unusedVariables false
def smallN (n : Nat) (x : Nod) : Prop := (-1 ≤ x.parent ∧ x.parent < n) ∧ ∀ c ∈ x.kids, 0 ≤ c ∧ c < n
theorem wr {a : Int} (h : -9223372036854775808 ≤ a ∧ a ≤ 9223372036854775807) : IntKind.i64.wrap a = a := wrap64 h.1 (by omega)
theorem shK_0 {e k : Int} (h : -1 ≤ k ∧ k ≤ 1048576) : shK e 0 k = k := by
 unfold shK
 split
 ·rw [Int.add_zero]; exact wr (by omega)
 ·rfl
theorem outN_0 {e : Int} {n : Nat} {x : Nod} (hn : n ≤ 1048576) (h : smallN n x) : outN e 0 x = x := by
 obtain ⟨h1, h2⟩ := h
 unfold outN
 have e1 : x.kids.map (shK e 0) = x.kids := by
  conv => rhs; rw [← List.map_id x.kids]
  exact List.map_congr_left fun c hc => shK_0 (by have := h2 c hc; omega)
 rw [shK_0 (by omega), e1]
theorem mov_mov {n i : Nat} {x : Nod} (hn : n ≤ 1048576) (hi : i < n) (h : smallN n x) : movN (i : Int) (movN ((0 - (i : Int))) x) = x := by
 obtain ⟨h1, h2⟩ := h
 unfold movN
 have e0 : ∀ c : Int, -1 ≤ c ∧ c < n → IntKind.i64.wrap (IntKind.i64.wrap (c + (0 - (i : Int))) + i) = c := fun c hc => by
  rw [wr (a := c + (0 - (i : Int))) (by omega), wr (by omega)]
  omega
 have e1 : (x.kids.map fun k => IntKind.i64.wrap (k + (0 - (i : Int)))).map (fun k => IntKind.i64.wrap (k + (i : Int))) = x.kids := by
  rw [List.map_map]
  conv => rhs; rw [← List.map_id x.kids]
  exact List.map_congr_left fun c hc => e0 c (by have := h2 c hc; omega)
 simp only [e0 x.parent h1, e1]
theorem mov_root {n i : Nat} {x : Nod} (hn : n ≤ 1048576) (hi : i < n) (h : smallN n x) : { movN (i : Int) (rootN (movN (0 - (i : Int)) x)) with parent := x.parent, place := x.place } = x := by
 have := mov_mov hn hi h
 have h1 := congrArg Nod.kids this
 unfold movN rootN at *
 simp only at *
 rw [h1]
theorem getD_nd {t : List Nod} {i : Nat} (h : i < t.length) : t.getD i ndZ = t[i] := getD_lt h
theorem repT_self {t : List Nod} (hn : t.length ≤ 1048576) (hs : ∀ x ∈ t, smallN t.length x) {i : Nat} (hi : i < t.length) : repT t i (subT t i) = t := by
 have hl : (subT t i).length = subLen t i := by rw [subT_in hi]; simp
 have hle := subLen_le hi
 have hp := subLen_pos (t := t) (i := i)
 unfold repT
 rw [if_pos ⟨by omega, by omega, fun e => by rw [e] at hl; simp at hl; omega⟩]
 simp only [Int.toNat_natCast]
 rw [hl, Int.sub_self]
 have e1 : ∀ l : List Nod, (∀ x ∈ l, x ∈ t) → ∀ e : Int, l.map (outN e 0) = l := fun l hl e => by
  conv => rhs; rw [← List.map_id l]
  exact List.map_congr_left fun x hx => outN_0 hn (hs x (hl x hx))
 rw [e1 _ (fun x hx => List.mem_of_mem_take hx), e1 _ (fun x hx => List.mem_of_mem_drop hx)]
 have e2 : putT (subT t i) (t.getD i ndZ) i = (t.drop i).take (subLen t i) := by
  apply List.ext_getElem
  ·rw [putT_len, hl]; simp; omega
  ·intro k h1 h2
   have hk : k < subLen t i := by rw [putT_len, hl] at h1; exact h1
   have hik : i + k < t.length := by omega
   simp only [putT, List.getElem_map, List.getElem_range, List.getElem_take, List.getElem_drop, putK]
   have e3 : (subT t i).getD k ndZ = subK t i k := by
    rw [getD_nd (by omega)]
    simp only [subT_in hi, List.getElem_map, List.getElem_range]
   rw [e3, getD_nd hi]
   have hx := hs t[i + k] (List.getElem_mem hik)
   unfold subK
   rw [getD_nd hik]
   by_cases h0 : k = 0
   ·subst h0
    simp only [if_true, Nat.add_zero]
    exact mov_root hn hi (hs t[i] (List.getElem_mem hi))
   ·simp only [h0, if_false]
    exact mov_mov hn hi hx
 rw [e2]
 have e4 : t.drop (i + subLen t i) = (t.drop i).drop (subLen t i) := by rw [List.drop_drop]
 rw [e4, List.take_append_drop, List.take_append_drop]
theorem repT_length {t u : List Nod} {i : Nat} (hi : i < t.length) (hu : u ≠ []) : ((repT t i u).length : Int) = t.length - subLen t i + u.length := by
 have hle := subLen_le hi
 unfold repT
 rw [if_pos ⟨by omega, by omega, hu⟩]
 simp only [List.length_append, List.length_map, List.length_take, List.length_drop, putT_len, Int.toNat_natCast]
 omega
theorem tree_small {g : Gram} {t : List Nod} {s : ByteArray} (h : treeOf g t s = true) : ∀ x ∈ t, smallN t.length x := by
 intro x hx
 obtain ⟨i, hi, rfl⟩ := List.mem_iff_getElem.1 hx
 refine ⟨?_, tree_kids h hi⟩
 obtain ⟨h0, _, h1⟩ := treeOf_parts h
 by_cases e : i = 0
 ·subst e
  have := (walkE_fit (g := g) (t := t) (f := t.length) (i := 0) (p := -1) (q := 0) (s := s) (by omega)).2.1
  rw [getD_lt hi] at this
  omega
 ·have h2 := walkE_par (g := g) (t := t) t.length 0 (-1) 0 s (by omega) i (by omega) (by rw [h1]; omega)
  rw [getD_lt hi] at h2
  have h3 := walkE_lt (g := g) (t := t) t.length 0 (-1) 0 s (by omega) i (by omega) (by rw [h1]; omega)
  rw [getD_lt hi] at h3
  exact ⟨by omega, by omega⟩
end Go.Gh
/- The law FnSubtrees: what it needs. -/
namespace Go.Gh
set_option linter.unusedSimpArgs false
set_option linter.unusedVariables false
theorem treeSize_nn (t : List Nod) (i : Int) : 0 ≤ treeSize t i := by unfold treeSize; split <;> omega
theorem subT_size (t : List Nod) (i : Int) : ((subT t i).length : Int) = treeSize t i := by
 have := treeSize_nn t i
 simp only [subT, List.length_map, List.length_range]
 omega
theorem subT_le (t : List Nod) (i : Int) : (subT t i).length ≤ t.length := by
 have h := subT_size t i
 unfold treeSize at h
 split at h
 ·rename_i hi
  have := subLen_le (t := t) (i := i.toNat) (by omega)
  omega
 ·omega
theorem subT_kd {t : List Nod} {i : Int} (h : ∀ x ∈ t, x.kids.length ≤ 1048576) : ∀ x ∈ subT t i, x.kids.length ≤ 1048576 := by
 intro x hx
 unfold subT at hx
 obtain ⟨k, hk, rfl⟩ := List.mem_map.1 hx
 have key : (t.getD (i.toNat + k) ndZ).kids.length ≤ 1048576 := by
  rcases Nat.lt_or_ge (i.toNat + k) t.length with h1 | h1
  ·rw [getD_nd h1]; exact h _ (List.getElem_mem h1)
  ·rw [List.getD_eq_getElem?_getD, List.getElem?_eq_none h1]; simp [ndZ]
 unfold subK
 split <;> simp only [rootN, movN, List.length_map] <;> exact key
theorem rep_len {t u : List Nod} {i : Int} (hu : 1 ≤ u.length) (hs : 0 < (subT t i).length) : ((repT t i u).length : Int) = t.length - (subT t i).length + u.length := by
 by_cases h : 0 ≤ i ∧ i < t.length
 ·obtain ⟨k, rfl⟩ := Int.eq_ofNat_of_zero_le h.1
  have hk : k < t.length := by omega
  rw [repT_length hk (by rintro rfl; simp at hu), subT_size, treeSize_in hk]
 ·rw [subT_out h] at hs; simp at hs
end Go.Gh
/- The laws' argument: bytes. -/
namespace Go.Gh
theorem t_Bytes {g : GV} (h : ET false [.sl false [.int .u8]] g) : ∃ bs : List UInt8, g = Bs bs := by
 have h1 := t_one h
 simp only [CT] at h1
 obtain ⟨es, rfl, _, he⟩ := h1
 obtain ⟨l, rfl, _⟩ := list_of (f := fun b : UInt8 => GV.val (.int .u8 b.toNat)) (ok := fun _ => True) (es := es) fun e hm => by
  obtain ⟨gs, k1, k2⟩ := he e hm
  simp only [CTs, CT] at k1
  obtain ⟨g, gs', rfl, ⟨n, rfl, hn⟩, rfl⟩ := k1
  simp at k2
  refine ⟨UInt8.ofNat n.toNat, ?_, trivial⟩
  have hr : 0 ≤ n ∧ n < 256 := by
   simp only [Lit.wf, Bool.and_eq_true, decide_eq_true_eq] at hn
   have e1 : IntKind.u8.min = 0 := rfl
   have e2 : IntKind.u8.max = 255 := rfl
   rw [e1, e2] at hn
   omega
  rw [← k2]
  have : ((UInt8.ofNat n.toNat).toNat : Int) = n := by
   rw [UInt8.toNat_ofNat']
   omega
  rw [this]
 exact ⟨l, rfl⟩
@[irreducible] def MkQ (p : Prop) : Prop := p
theorem qI {p : Prop} (h : MkQ p) : p := by unfold MkQ at h; exact h
theorem qU {p : Prop} (h : p) : MkQ p := by unfold MkQ; exact h
theorem VQ : type_of% (And.intro @hget_c (And.intro @hset_c (And.intro @hdel_c (And.intro @neN (And.intro @neA_cons (And.intro @neA_nil @vIte)))))) := (And.intro @hget_c (And.intro @hset_c (And.intro @hdel_c (And.intro @neN (And.intro @neA_cons (And.intro @neA_nil @vIte))))))
theorem VN : type_of% (And.intro @neH_cons (And.intro @neH_nil (And.intro @neA_cons (And.intro @neA_nil (And.intro @and_true @true_and))))) := (And.intro @neH_cons (And.intro @neH_nil (And.intro @neA_cons (And.intro @neA_nil (And.intro @and_true @true_and)))))
theorem oF {p : Prop} (h : False := by omega) : p := h.elim
theorem nL (a b : Nat) : a < b ∨ a ≥ b := Nat.lt_or_ge a b
theorem gM {α : Type} {l : List α} {n : Nat} (h : n < l.length) : l[n] ∈ l := List.getElem_mem h
theorem tL {α : Type} {l : List α} {i : Nat} (h : l.length ≤ i) : l.take i = l := List.take_of_length_le h
theorem bC (b : Bool) : b = false ∨ b = true := (Bool.eq_false_or_eq_true b).symm
end Go.Gh
/- Short words for ghost code. -/
namespace Go.Gh.Z
abbrev x (d : Nat) (o : GOp) : GI := ⟨some d, none, o⟩
abbrev y (d g : Nat) (o : GOp) : GI := ⟨some d, some (g, true), o⟩
abbrev z (d g : Nat) (o : GOp) : GI := ⟨some d, some (g, false), o⟩
abbrev m (d a : Nat) : GI := ⟨some d, none, .mov (.t a)⟩
abbrev k (d : Nat) (n : Int) : GI := ⟨some d, none, .mov (.k (.val (.int .i64 n)))⟩
abbrev b (d : Nat) (n : Bool) : GI := ⟨some d, none, .mov (.k (.val (.bool n)))⟩
abbrev l (d a : Nat) : GI := ⟨some d, none, .load 1 false (.t a)⟩
abbrev h (d n a : Nat) : GI := ⟨some d, none, .load n true (.t a)⟩
abbrev f (d o a : Nat) : GI := ⟨some d, none, .faddr o 1 false (.t a)⟩
abbrev e (d o n a : Nat) : GI := ⟨some d, none, .faddr o n true (.t a)⟩
abbrev i (d n a c : Nat) : GI := ⟨some d, none, .iaddr n (.t a) (.t c)⟩
abbrev c (d f : Nat) (a : List GE) : GI := ⟨some d, none, .call false f a⟩
abbrev o (d : Nat) (p : BinOp) (a b : Nat) : GI := ⟨some d, none, .bin p (.t a) (.t b)⟩
abbrev q (d : Nat) (p : BinOp) (a : Nat) (n : Int) : GI := ⟨some d, none, .bin p (.t a) (.k (.val (.int .i64 n)))⟩
abbrev n (d a : Nat) : GI := ⟨some d, none, .len (.t a)⟩
abbrev w (d a : Nat) : GI := ⟨some d, none, .not (.t a)⟩
abbrev a (d n r : Nat) : GI := ⟨some d, none, .boxro n (.t r)⟩
abbrev t (d n r : Nat) : GI := ⟨some d, none, .stro n d (.t r)⟩
abbrev u (d n : Nat) : GI := ⟨some d, none, .allocr n⟩
abbrev v (d r j : Nat) : GI := ⟨some d, none, .ext (.t r) j⟩
abbrev p (n o a : Nat) : GOp := .faddr o n false (.t a)
abbrev r (n a : Nat) : GOp := .load n false (.t a)
abbrev j (n a : Nat) : GOp := .load n true (.t a)
abbrev C (c e : Nat) (x : GC) : GC := .seq (.cond c .skip (.exit e)) x
abbrev B (n : Nat) (x : GC) : GC := .block n (.loop x)
abbrev s (a : List GI) (b : GC) : GC := .seq (.reg a) b
end Go.Gh.Z
namespace Go.Gh
theorem jF {P : Program} {f : Nat} {fn : Func} {F : GFun} {c : Code} (h : P.funcs[f]? = some fn) (md : List (Nat × Nat) := []) (h0 : fn.body = some c := by rfl) (h1 : (fn.name == "runtime.NumGoroutine") = false := by kernel_rfl) (h2 : compC P F.cf md c = some F.gc := by kernel_rfl) (h3 : compRes P fn.results.toList = some F.gr := by kernel_rfl) (h4 : fn.ntmps = F.cf.N := by rfl) : IsFun P f F := ⟨fn, c, md, h, h1, h0, h2, h3, h4⟩
end Go.Gh
namespace Go.Proofs.Ytfpjmfjhdaccnaa
open Go.Gh Go.Gh.Z
abbrev iF := IsFun Try.prog
abbrev Pu := Pure Try.prog
abbrev Gc := GCalls Try.prog
def g5 : GFun := ⟨⟨106,[3,5,6,7,8,9,10]⟩,(s [b 2 false] (.seq (s [m 12 0,c 13 6 [.t 12]] (.cond 13 (s [b 2 true] .ret) .skip)) (s [m 15 0,c 16 22 [.t 15],m 14 16,v 17 14 0,v 18 14 1,v 19 14 2,u 3 1,u 5 1,t 3 1 17,m 4 18,t 5 1 19]
 (s [h 20 1 3,m 21 4,c 22 23 [.t 20,.t 21],u 6 1,t 6 1 22] (.seq (s [m 25 4,h 23 1 6,h 24 1 3,x 26 (.call true 25 [.t 24,.t 25]),x 27 (.call true 24 [.t 23,.t 26]),w 28 27,m 29 28,z 30 29 (p 1 0 6),z 34 29 (.mov (.t 4)),z 31 29 (r 1 30),
 z 32 29 (.len (.t 31)),z 33 29 (j 1 3),z 35 29 (.call true 26 [.t 33,.t 34]),z 36 29 (.bin .neq (.t 32) (.t 35)),x 37 (.pick (.t 29) (.k (.val (.bool true))) (.t 36))] (.cond 37 (s [b 2 false] .ret) .skip)) (s [h 38 1 3,m 39 4,h 40 1 5,
 c 41 27 [.t 38,.t 39,.t 40],u 7 1,t 7 1 41] (.seq (s [m 44 4,h 42 1 7,h 43 1 3,h 45 1 5,x 46 (.call true 28 [.t 43,.t 44,.t 45]),x 47 (.call true 24 [.t 42,.t 46]),w 48 47,m 49 48,z 50 49 (p 1 0 6),z 51 49 (r 1 50),z 52 49 (.len (.t 51)),
 z 53 49 (.bin .eql (.t 52) (.k (.val (.int .i64 0)))),x 54 (.pick (.t 49) (.k (.val (.bool true))) (.t 53))] (.cond 54 (s [m 57 4,h 55 1 7,h 56 1 3,h 58 1 5,x 59 (.call true 28 [.t 56,.t 57,.t 58]),x 60 (.call true 24 [.t 55,.t 59]),
 m 2 60] .ret) .skip)) (s [m 62 0,c 63 29 [.t 62],m 61 63,v 64 61 0,v 65 61 1,v 66 61 2,u 8 2,u 9 1,u 10 5,t 8 2 64,t 9 1 65,t 10 5 66] (.seq (s [h 67 2 8,h 68 1 9,c 69 15 [.t 67,.t 68]] (.cond 69 (s [m 70 0,f 72 0 9,x 71
 (.call true 30 [.t 70,(.k (.val (.int .i64 3)))]),l 73 72,n 74 73,o 75 .rem 71 74,m 11 75] (s [m 77 11,m 79 11,h 76 1 9,h 78 1 9,x 80 (.call true 23 [.t 78,.t 79]),x 81 (.call true 27 [.t 76,.t 77,.t 80]),h 82 1 9,x 83
 (.call true 24 [.t 81,.t 82]),w 84 83] (.cond 84 (s [b 2 false] .ret) .skip))) .skip)) (s [f 85 0 5,l 86 85,n 87 86,q 88 .eql 87 0,m 89 88,z 90 89 (p 1 0 7),z 91 89 (r 1 90),z 92 89 (.len (.t 91)),z 93 89 (p 1 0 3),z 94 89 (r 1 93),
 z 95 89 (.len (.t 94)),z 96 89 (p 1 0 6),z 97 89 (r 1 96),z 98 89 (.len (.t 97)),z 99 89 (.bin .sub (.t 95) (.t 98)),z 100 89 (p 1 0 5),z 101 89 (r 1 100),z 102 89 (.len (.t 101)),z 103 89 (.bin .add (.t 99) (.t 102)),z 104 89 (.bin .eql
 (.t 92) (.t 103)),x 105 (.pick (.t 89) (.k (.val (.bool true))) (.t 104)),m 2 105] .ret)))))))))),[.t 2]⟩
theorem i5 : iF 5 g5 := jF Try.func5
def g6 : GFun := ⟨⟨6,[]⟩,(s [b 2 false] (s [m 3 0,n 4 3,q 5 .gtr 4 1048576,m 2 5] .ret)),[.t 2]⟩
theorem i6 : iF 6 g6 := jF Try.func6
def g11 : GFun := ⟨⟨33,[2]⟩,(s [a 2 2 0,x 4 (.mov (.k (.val (.slice none 0 0))))] (s [x 7 (.bslice 1 [] 0 false []),m 5 7] (.seq (s [k 6 0] (B 0 (.seq (s [m 8 6,f 9 1 2,l 10 9,n 11 10,o 12 .lss 8 11] (.cond 12 .skip (.exit 0))) (.seq
 (.block 1 (s [f 15 1 2,l 16 15,m 17 6,i 18 6 16 17,f 19 1 18,l 20 19,m 21 1,o 22 .eql 20 21] (.cond 22 (.reg [m 23 5,f 24 1 2,l 25 24,m 26 6,i 27 6 25 26,f 28 0 27,l 29 28,x 30 (.bslice 1 [] 1 false [(0,(.t 29))]),x 31 (.append 1 16
 (.t 23) (.t 30)),m 5 31]) .skip))) (.reg [m 13 6,q 14 .add 13 1,m 6 14]))))) (s [m 32 5,m 4 32] .ret)))),[.t 4]⟩
theorem i11 : iF 11 g11 := jF Try.func11
def g12 : GFun := ⟨⟨29,[2,4]⟩,(s [a 2 2 0,u 4 2,b 5 false] (.seq (s [k 6 0] (B 0 (.seq (s [m 7 6,f 8 0 2,l 9 8,n 10 9,o 11 .lss 7 10] (.cond 11 .skip (.exit 0))) (.seq (.block 1 (s [f 14 0 2,l 15 14,m 16 6,i 17 2 15 16,f 18 0 17,l 19 18,
 m 20 1,o 21 .eql 19 20] (.cond 21 (s [f 22 0 2,l 23 22,m 24 6,i 25 2 23 24,h 26 2 25,c 27 35 [.t 26],t 4 2 27,b 5 true] .ret) .skip))) (.reg [m 12 6,q 13 .add 12 1,m 6 13]))))) (s [x 28 (.build [(.val (.string (ByteArray.mk #[]))),(.val
 (.slice none 0 0))] []),t 4 2 28,b 5 false] .ret))),[(.c 4 2 true),.t 5]⟩
theorem i12 : iF 12 g12 := jF Try.func12
def g15 : GFun := ⟨⟨10,[2,3]⟩,(s [a 2 2 0,a 3 1 1,b 4 false] (s [h 5 2 2,h 6 1 3,h 7 2 2,x 8 (.call true 39 [.t 7]),x 9 (.call true 38 [.t 5,.t 6,.t 8]),m 4 9] .ret)),[.t 4]⟩
theorem i15 : iF 15 g15 := jF Try.func15
def g18 : GFun := ⟨⟨32,[2]⟩,(s [a 2 1 0,k 4 0] (.seq (s [h 6 1 2,m 7 1,c 8 41 [.t 6,.t 7],w 9 8] (.cond 9 (s [k 4 0] .ret) .skip)) (s [m 10 1,q 11 .add 10 1,m 5 11] (.seq (B 0 (.seq (s [m 12 5,f 13 0 2,l 14 13,n 15 14,o 16 .lss 12 15,
 m 17 16,y 18 17 (p 1 0 2),y 19 17 (r 1 18),y 20 17 (.mov (.t 5)),y 21 17 (.iaddr 6 (.t 19) (.t 20)),y 22 17 (p 1 1 21),y 23 17 (r 1 22),y 24 17 (.mov (.t 1)),y 25 17 (.bin .geq (.t 23) (.t 24)),x 26 (.pick (.t 17) (.t 25) (.k (.val
 (.bool false))))] (.cond 26 .skip (.exit 0))) (.block 1 (.reg [m 27 5,q 28 .add 27 1,m 5 28])))) (s [m 29 5,m 30 1,o 31 .sub 29 30,m 4 31] .ret))))),[.t 4]⟩
theorem i18 : iF 18 g18 := jF Try.func18
def g21 : GFun := ⟨⟨29,[3,4,7]⟩,(s [a 3 2 0,a 4 1 1,x 6 (.mov (.k (.val (.string (ByteArray.mk #[])))))] (.seq (s [m 9 2,f 10 0 4,l 11 10,n 12 11,q 13 .sub 12 1,c 14 45 [.t 9,(.k (.val (.int .i64 0))),.t 13],w 15 14] (.cond 15 (s [x 6
 (.mov (.k (.val (.string (ByteArray.mk #[])))))] .ret) .skip)) (s [f 18 0 4,m 20 2,u 7 6,h 17 2 3,l 19 18,i 21 6 19 20,f 22 4 21,l 23 22,x 24 (.call true 46 [.t 17,.t 23]),m 16 24,v 25 16 0,v 26 16 1,t 7 6 25,m 8 26] (s [f 27 1 7,l 28 27,
 m 6 28] .ret)))),[.t 6]⟩
theorem i21 : iF 21 g21 := jF Try.func21
def g22 : GFun := ⟨⟨22,[2,4,5,7,8]⟩,(s [u 2 1,k 3 0,u 4 1] (s [m 10 0,c 11 47 [.t 10],m 9 11,v 12 9 0,v 13 9 1,u 5 1,t 5 1 12,m 6 13] (s [m 15 0,c 16 48 [.t 15],m 14 16,v 17 14 0,v 18 14 1,u 7 1,u 8 1,t 7 1 17,t 8 1 18] (s [m 20 6,h 19 1 5,
 t 2 1 19,m 3 20,h 21 1 8,t 4 1 21] .ret)))),[(.c 2 1 true),.t 3,(.c 4 1 true)]⟩
theorem i22 : iF 22 g22 := jF Try.func22
def g23 : GFun := ⟨⟨59,[2,4]⟩,(s [a 2 1 0,u 4 1] (s [x 9 (.build [(.val (.slice none 0 0))] []),x 5 (.alloc 1 (.agg [(.val (.slice none 0 0))])),(.mk none none (.store 1 (.t 5) (.t 9)))] (.seq (s [h 10 1 2,m 11 1,c 12 18 [.t 10,.t 11],
 k 13 0] (B 0 (s [o 14 .lss 13 12] (C 14 0 (.seq (.block 1 (s [m 15 13,m 6 15] (s [f 16 0 2,l 17 16,m 18 1,m 19 6,o 20 .add 18 19,i 21 6 17 20,h 22 6 21,x 7 (.alloc 6 (.agg [(.val (.int .i64 0)),(.val (.int .i64 0)),(.val (.int .i64 0)),
 (.val (.int .i64 0)),(.val (.string (ByteArray.mk #[]))),(.val (.slice none 0 0))])),(.mk none none (.store 6 (.t 7) (.t 22)))] (s [f 23 1 7,m 25 1,f 27 5 7,l 24 23,o 26 .sub 24 25,l 28 27,f 30 1 7,x 29 (.calla 49 [.t 28]),(.mk none none
 (.store 1 (.t 30) (.t 26))),f 31 5 7,(.mk none none (.store 1 (.t 31) (.t 29)))] (.seq (s [f 32 5 7,l 33 32,n 34 33,k 35 0] (B 2 (s [o 36 .lss 35 34] (C 36 2 (.seq (.block 3 (s [m 37 35,m 8 37] (.reg [f 38 5 7,l 39 38,m 40 8,i 41 1 39 40,
 l 42 41,m 43 1,o 44 .sub 42 43,i 45 1 39 40,(.mk none none (.store 1 (.t 45) (.t 44)))]))) (.reg [q 46 .add 35 1,m 35 46])))))) (.seq (s [m 47 6,q 48 .eql 47 0] (.cond 48 (.reg [f 49 1 7,(.mk none none (.store 1 (.t 49) (.k (.val
 (.int .i64 (-1)))))),f 50 2 7,(.mk none none (.store 1 (.t 50) (.k (.val (.int .i64 0)))))]) .skip)) (.reg [f 51 0 5,l 52 51,h 53 6 7,x 54 (.bslice 6 [] 1 true [(0,(.t 53))]),x 55 (.append 6 72 (.t 52) (.t 54)),f 56 0 5,(.mk none none
 (.store 1 (.t 56) (.t 55)))]))))))) (.reg [q 57 .add 13 1,m 13 57])))))) (s [h 58 1 5,t 4 1 58] .ret)))),[(.c 4 1 true)]⟩
theorem i23 : iF 23 g23 := jF Try.func23 [(6, 8208)]
def g24 : GFun := ⟨⟨8,[2,3]⟩,(s [a 2 1 0,a 3 1 1,b 4 false] (s [h 5 1 2,h 6 1 3,c 7 50 [.t 5,.t 6,(.k (.val (.bool true)))],m 4 7] .ret)),[.t 4]⟩
theorem i24 : iF 24 g24 := jF Try.func24
def g25 : GFun := ⟨⟨39,[2,4]⟩,(s [a 2 1 0,u 4 1] (s [x 9 (.build [(.val (.slice none 0 0))] []),x 5 (.alloc 1 (.agg [(.val (.slice none 0 0))])),(.mk none none (.store 1 (.t 5) (.t 9)))] (s [h 10 1 2,m 11 1,c 12 26 [.t 10,.t 11],m 6 12]
 (.seq (s [k 7 0] (B 0 (.seq (s [m 13 7,m 14 6,o 15 .lss 13 14] (.cond 15 .skip (.exit 0))) (.seq (.block 1 (s [f 18 0 2,l 19 18,m 20 1,m 21 7,o 22 .add 20 21,i 23 6 19 22,h 24 6 23,m 25 1,x 26 (.bin .sub (.k (.val (.int .i64 0))) (.t 25)),
 c 27 51 [.t 24,.t 26],x 8 (.alloc 6 (.agg [(.val (.int .i64 0)),(.val (.int .i64 0)),(.val (.int .i64 0)),(.val (.int .i64 0)),(.val (.string (ByteArray.mk #[]))),(.val (.slice none 0 0))])),(.mk none none (.store 6 (.t 8) (.t 27)))]
 (.seq (s [m 28 7,q 29 .eql 28 0] (.cond 29 (s [f 30 1 8,(.mk none none (.store 1 (.t 30) (.k (.val (.int .i64 (-1))))))] (.reg [f 31 2 8,(.mk none none (.store 1 (.t 31) (.k (.val (.int .i64 0)))))])) .skip)) (.reg [f 32 0 5,l 33 32,
 h 34 6 8,x 35 (.bslice 6 [] 1 true [(0,(.t 34))]),x 36 (.append 6 72 (.t 33) (.t 35)),f 37 0 5,(.mk none none (.store 1 (.t 37) (.t 36)))])))) (.reg [m 16 7,q 17 .add 16 1,m 7 17]))))) (s [h 38 1 5,t 4 1 38] .ret))))),[(.c 4 1 true)]⟩
theorem i25 : iF 25 g25 := jF Try.func25
def g26 : GFun := ⟨⟨35,[2]⟩,(s [a 2 1 0,k 4 0] (.seq (s [m 6 1,f 7 0 2,l 8 7,n 9 8,q 10 .sub 9 1,c 11 45 [.t 6,(.k (.val (.int .i64 0))),.t 10],w 12 11] (.cond 12 (s [k 4 0] .ret) .skip)) (s [m 13 1,q 14 .add 13 1,m 5 14] (.seq (B 0 (.seq
 (s [m 15 5,f 16 0 2,l 17 16,n 18 17,o 19 .lss 15 18,m 20 19,y 21 20 (p 1 0 2),y 22 20 (r 1 21),y 23 20 (.mov (.t 5)),y 24 20 (.iaddr 6 (.t 22) (.t 23)),y 25 20 (p 1 1 24),y 26 20 (r 1 25),y 27 20 (.mov (.t 1)),y 28 20 (.bin .geq (.t 26)
 (.t 27)),x 29 (.pick (.t 20) (.t 28) (.k (.val (.bool false))))] (.cond 29 .skip (.exit 0))) (.block 1 (.reg [m 30 5,q 31 .add 30 1,m 5 31])))) (s [m 32 5,m 33 1,o 34 .sub 32 33,m 4 34] .ret))))),[.t 4]⟩
theorem i26 : iF 26 g26 := jF Try.func26
def g27 : GFun := ⟨⟨133,[3,4,5,6,7,8]⟩,(s [a 3 1 0,a 4 1 1,a 5 1 2,u 6 1] (.seq (s [h 18 1 3,l 19 4,c 20 41 [.t 18,.t 19],w 21 20,m 22 21,z 23 22 (p 1 0 5),z 24 22 (r 1 23),z 25 22 (.len (.t 24)),z 26 22 (.bin .eql (.t 25) (.k (.val
 (.int .i64 0)))),x 27 (.pick (.t 22) (.k (.val (.bool true))) (.t 26))] (.cond 27 (s [h 28 1 3,c 29 52 [.t 28],t 6 1 29] .ret) .skip)) (s [f 33 0 5,u 7 1,u 8 1,h 30 1 3,l 31 4,x 32 (.call true 18 [.t 30,.t 31]),t 7 1 32,l 34 33,n 35 34,
 t 8 1 35] (s [x 36 (.mkfn 53 [.t 4,.t 7,.t 8]),m 9 36] (s [x 37 (.build [(.val (.slice none 0 0))] []),x 10 (.alloc 1 (.agg [(.val (.slice none 0 0))])),(.mk none none (.store 1 (.t 10) (.t 37)))] (.seq (s [f 38 0 3,l 39 38,n 40 39,
 k 41 0] (B 0 (s [o 42 .lss 41 40] (C 42 0 (.seq (.block 1 (s [m 43 41,i 44 6 39 41,h 45 6 44,x 12 (.alloc 6 (.agg [(.val (.int .i64 0)),(.val (.int .i64 0)),(.val (.int .i64 0)),(.val (.int .i64 0)),(.val (.string (ByteArray.mk #[]))),
 (.val (.slice none 0 0))])),m 11 43,(.mk none none (.store 6 (.t 12) (.t 45)))] (.seq (s [m 46 11,l 47 4,o 48 .eql 46 47] (.cond 48 (s [h 49 1 5,c 50 52 [.t 49],x 51 (.field 0 1 false (.t 50)),n 52 51,k 53 0] (B 2 (s [o 54 .lss 53 52]
 (C 54 2 (.seq (.block 3 (s [m 55 53,i 56 6 51 53,h 57 6 56,x 14 (.alloc 6 (.agg [(.val (.int .i64 0)),(.val (.int .i64 0)),(.val (.int .i64 0)),(.val (.int .i64 0)),(.val (.string (ByteArray.mk #[]))),(.val (.slice none 0 0))])),m 13 55,
 (.mk none none (.store 6 (.t 14) (.t 57)))] (s [f 58 1 14,l 59 58,l 60 4,o 61 .add 59 60,f 62 1 14,(.mk none none (.store 1 (.t 62) (.t 61)))] (.seq (s [m 63 13,q 64 .eql 63 0] (.cond 64 (.reg [f 65 1 12,x 66 (.loadr 1 false (.t 65)),
 f 67 2 12,x 68 (.loadr 1 false (.t 67)),f 69 1 14,(.mk none none (.store 1 (.t 69) (.t 66))),f 70 2 14,(.mk none none (.store 1 (.t 70) (.t 68)))]) .skip)) (.seq (s [f 71 5 14,l 72 71,n 73 72,k 74 0] (B 4 (s [o 75 .lss 74 73] (C 75 4
 (.seq (.block 5 (s [m 76 74,m 15 76] (.reg [f 77 5 14,m 79 15,l 78 77,i 80 1 78 79,l 81 80,l 82 4,o 83 .add 81 82,i 84 1 78 79,(.mk none none (.store 1 (.t 84) (.t 83)))]))) (.reg [q 85 .add 74 1,m 74 85])))))) (.reg [f 86 0 10,l 87 86,
 h 88 6 14,x 89 (.bslice 6 [] 1 true [(0,(.t 88))]),x 90 (.append 6 72 (.t 87) (.t 89)),f 91 0 10,(.mk none none (.store 1 (.t 91) (.t 90)))])))))) (.reg [q 92 .add 53 1,m 53 92])))))) .skip)) (.seq (s [m 93 11,l 94 4,l 95 4,l 96 7,
 o 97 .add 95 96,q 98 .sub 97 1,c 99 54 [.t 93,.t 94,.t 98]] (.cond 99 (.exit 1) .skip)) (s [m 100 9,f 101 1 12,f 104 5 12,l 102 101,x 103 (.callv true (.t 100) [.t 102]),l 105 104,f 107 1 12,x 106 (.calla 49 [.t 105]),(.mk none none
 (.store 1 (.t 107) (.t 103))),f 108 5 12,(.mk none none (.store 1 (.t 108) (.t 106)))] (.seq (s [f 109 5 12,l 110 109,n 111 110,k 112 0] (B 6 (s [o 113 .lss 112 111] (C 113 6 (.seq (.block 7 (s [m 114 112,i 115 1 110 112,l 116 115,
 m 16 114,m 17 116] (.reg [f 117 5 12,m 119 16,m 120 9,m 121 17,l 118 117,x 122 (.callv true (.t 120) [.t 121]),i 123 1 118 119,(.mk none none (.store 1 (.t 123) (.t 122)))]))) (.reg [q 124 .add 112 1,m 112 124])))))) (.reg [f 125 0 10,
 l 126 125,h 127 6 12,x 128 (.bslice 6 [] 1 true [(0,(.t 127))]),x 129 (.append 6 72 (.t 126) (.t 128)),f 130 0 10,(.mk none none (.store 1 (.t 130) (.t 129)))]))))))) (.reg [q 131 .add 41 1,m 41 131])))))) (s [h 132 1 10,
 t 6 1 132] .ret))))))),[(.c 6 1 true)]⟩
theorem i27 : iF 27 g27 := jF Try.func27 [(24, 8208)]
def g28 : GFun := ⟨⟨115,[3,5,6]⟩,(s [a 3 1 0,a 5 1 2,u 6 1] (s [h 14 1 3,m 15 1,c 16 26 [.t 14,.t 15],m 7 16] (.seq (s [m 17 7,q 18 .eql 17 0,m 19 18,z 20 19 (p 1 0 5),z 21 19 (r 1 20),z 22 19 (.len (.t 21)),z 23 19 (.bin .eql (.t 22) (.k
 (.val (.int .i64 0)))),x 24 (.pick (.t 19) (.k (.val (.bool true))) (.t 23))] (.cond 24 (s [h 25 1 3,c 26 55 [.t 25],t 6 1 26] .ret) .skip)) (s [x 27 (.build [(.val (.slice none 0 0))] []),x 8 (.alloc 1 (.agg [(.val (.slice none 0 0))])),
 (.mk none none (.store 1 (.t 8) (.t 27)))] (s [f 28 0 5,l 29 28,n 30 29,m 31 7,o 32 .sub 30 31,m 9 32] (.seq (s [k 10 0] (B 0 (.seq (s [m 33 10,m 34 1,o 35 .lss 33 34] (.cond 35 .skip (.exit 0))) (.seq (.block 1 (.reg [f 38 0 8,f 40 0 3,
 m 42 10,m 45 1,m 46 7,o 47 .add 45 46,m 48 9,l 39 38,l 41 40,i 43 6 41 42,h 44 6 43,x 49 (.calla 56 [.t 44,.t 47,.t 48]),x 50 (.bslice 6 [] 1 true [(0,(.t 49))]),x 51 (.append 6 72 (.t 39) (.t 50)),f 52 0 8,(.mk none none (.store 1
 (.t 52) (.t 51)))])) (.reg [m 36 10,q 37 .add 36 1,m 10 37]))))) (.seq (s [k 11 0] (B 2 (.seq (s [m 53 11,f 54 0 5,l 55 54,n 56 55,o 57 .lss 53 56] (.cond 57 .skip (.exit 2))) (.seq (.block 3 (s [f 60 0 5,l 61 60,m 62 11,i 63 6 61 62,
 h 64 6 63,m 65 1,c 66 51 [.t 64,.t 65],x 12 (.alloc 6 (.agg [(.val (.int .i64 0)),(.val (.int .i64 0)),(.val (.int .i64 0)),(.val (.int .i64 0)),(.val (.string (ByteArray.mk #[]))),(.val (.slice none 0 0))])),(.mk none none (.store 6
 (.t 12) (.t 66)))] (.seq (s [m 67 11,q 68 .eql 67 0] (.cond 68 (s [f 69 0 3,l 70 69,m 71 1,i 72 6 70 71,f 73 1 72,l 74 73,f 75 1 12,(.mk none none (.store 1 (.t 75) (.t 74)))] (.reg [f 76 0 3,l 77 76,m 78 1,i 79 6 77 78,f 80 2 79,l 81 80,
 f 82 2 12,(.mk none none (.store 1 (.t 82) (.t 81)))])) .skip)) (.reg [f 83 0 8,l 84 83,h 85 6 12,x 86 (.bslice 6 [] 1 true [(0,(.t 85))]),x 87 (.append 6 72 (.t 84) (.t 86)),f 88 0 8,(.mk none none (.store 1 (.t 88) (.t 87)))]))))
 (.reg [m 58 11,q 59 .add 58 1,m 11 59]))))) (.seq (s [m 89 1,m 90 7,o 91 .add 89 90,m 13 91] (B 4 (.seq (s [m 92 13,f 93 0 3,l 94 93,n 95 94,o 96 .lss 92 95] (.cond 96 .skip (.exit 4))) (.seq (.block 5 (.reg [f 99 0 8,f 101 0 3,m 103 13,
 m 106 1,m 107 7,o 108 .add 106 107,m 109 9,l 100 99,l 102 101,i 104 6 102 103,h 105 6 104,x 110 (.calla 56 [.t 105,.t 108,.t 109]),x 111 (.bslice 6 [] 1 true [(0,(.t 110))]),x 112 (.append 6 72 (.t 100) (.t 111)),f 113 0 8,(.mk none none
 (.store 1 (.t 113) (.t 112)))])) (.reg [m 97 13,q 98 .add 97 1,m 13 98]))))) (s [h 114 1 8,t 6 1 114] .ret))))))))),[(.c 6 1 true)]⟩
theorem i28 : iF 28 g28 := jF Try.func28 [(9, 8388624), (21, 8388624)]
def g29 : GFun := ⟨⟨30,[2,3,4,6,8]⟩,(s [u 2 2,u 3 1,u 4 5] (s [m 9 0,c 10 57 [.t 9],m 5 10] (s [m 11 5,m 12 5,c 13 59 [.t 12,(.k (.val (.int .i64 2)))],c 14 58 [.t 11,.t 13],u 6 2,t 6 2 14] (s [m 15 5,h 16 2 6,c 17 60 [.t 15,.t 16],x 7
 (.alloc 1 (.agg [(.val (.slice none 0 0))])),(.mk none none (.store 1 (.t 7) (.t 17)))] (s [m 18 5,h 19 2 6,h 20 1 7,c 21 61 [.t 18,.t 19,.t 20],u 8 5,t 8 5 21] (.seq (s [m 22 5,c 23 59 [.t 22,(.k (.val (.int .i64 16)))]] (.cond 23
 (.reg [m 24 5,h 25 2 6,c 26 62 [.t 24,.t 25],(.mk none none (.store 1 (.t 7) (.t 26)))]) .skip)) (s [h 27 2 6,t 2 2 27,h 28 1 7,t 3 1 28,h 29 5 8,t 4 5 29] .ret))))))),[(.c 2 2 true),(.c 3 1 true),(.c 4 5 true)]⟩
theorem i29 : iF 29 g29 := jF Try.func29
def g30 : GFun := ⟨⟨20,[]⟩,(s [k 4 0] (.seq (s [m 5 1,m 6 0,n 7 6,o 8 .lss 5 7] (.cond 8 (s [m 9 0,m 10 1,i 11 1 9 10,l 12 11,x 13 (.conv .i64 (.t 12)),m 4 13] .ret) .skip)) (s [m 14 1,q 15 .mul 14 7,m 16 0,n 17 16,o 18 .add 15 17,
 q 19 .rem 18 256,m 4 19] .ret))),[.t 4]⟩
theorem i30 : iF 30 g30 := jF Try.func30
def g33 : GFun := ⟨⟨22,[2]⟩,(s [a 2 2 0,k 4 0] (.seq (s [k 5 0] (B 0 (.seq (s [m 6 5,f 7 0 2,l 8 7,n 9 8,o 10 .lss 6 9] (.cond 10 .skip (.exit 0))) (.seq (.block 1 (s [f 13 0 2,l 14 13,m 15 5,i 16 2 14 15,f 17 0 16,l 18 17,m 19 1,
 o 20 .eql 18 19] (.cond 20 (s [m 21 5,m 4 21] .ret) .skip))) (.reg [m 11 5,q 12 .add 11 1,m 5 12]))))) (s [k 4 (-1)] .ret))),[.t 4]⟩
theorem i33 : iF 33 g33 := jF Try.func33
def g34 : GFun := ⟨⟨50,[1]⟩,(s [a 1 2 0,x 2 (.mov (.k (.val (.slice none 0 0))))] (s [f 7 0 1,l 8 7,n 9 8,x 10 (.mkslice 1 8 (.val (.int .i64 0)) (.t 9) (.t 9)),m 3 10] (.seq (s [k 4 1] (B 0 (.seq (s [m 11 4,f 12 0 1,l 13 12,n 14 13,
 o 15 .leq 11 14] (.cond 15 .skip (.exit 0))) (.seq (.block 1 (s [x 18 (.bslice 1 [] 0 false []),m 19 3,x 20 (.append 1 8 (.t 18) (.t 19)),m 5 20] (.seq (s [k 6 0] (B 2 (.seq (s [m 21 6,f 22 0 1,l 23 22,n 24 23,o 25 .lss 21 24]
 (.cond 25 .skip (.exit 2))) (.seq (.block 3 (s [m 28 3,m 29 6,i 30 1 28 29,l 31 30,q 32 .eql 31 0,m 33 32,y 35 33 (p 1 0 1),y 37 33 (.mov (.t 6)),y 41 33 (.mov (.t 3)),y 34 33 (j 2 1),y 36 33 (r 1 35),y 38 33 (.iaddr 2 (.t 36) (.t 37)),
 y 39 33 (p 1 0 38),y 40 33 (r 1 39),y 42 33 (.call true 66 [.t 34,.t 40,.t 41]),x 43 (.pick (.t 33) (.t 42) (.k (.val (.bool false))))] (.cond 43 (.reg [m 44 5,m 45 6,m 46 4,i 47 1 44 45,(.mk none none (.store 1 (.t 47)
 (.t 46)))]) .skip))) (.reg [m 26 6,q 27 .add 26 1,m 6 27]))))) (.reg [m 48 5,m 3 48])))) (.reg [m 16 4,q 17 .add 16 1,m 4 17]))))) (s [m 49 3,m 2 49] .ret)))),[.t 2]⟩
theorem i34 : iF 34 g34 := jF Try.func34
def g35 : GFun := ⟨⟨10,[1,2]⟩,(s [a 1 2 0,u 2 2] (s [f 3 0 1,x 4 (.loadr 1 false (.t 3)),f 6 1 1,x 7 (.loadr 1 false (.t 6)),x 5 (.bslice 4 [] 0 true []),x 8 (.append 4 40 (.t 5) (.t 7)),x 9 (.build [(.val (.string (ByteArray.mk #[]))),
 (.val (.slice none 0 0))] [(0,(1,(.t 4))),(1,(1,(.t 8)))]),t 2 2 9] .ret)),[(.c 2 2 true)]⟩
theorem i35 : iF 35 g35 := jF Try.func35
def g36 : GFun := ⟨⟨16,[2,3,5]⟩,(s [u 2 2,u 3 1] (s [m 6 0,c 7 57 [.t 6],m 4 7] (s [m 8 4,m 9 4,c 10 59 [.t 9,(.k (.val (.int .i64 2)))],c 11 58 [.t 8,.t 10],u 5 2,t 5 2 11] (s [m 13 4,h 12 2 5,h 14 2 5,x 15 (.calla 62 [.t 13,.t 14]),
 t 2 2 12,t 3 1 15] .ret)))),[(.c 2 2 true),(.c 3 1 true)]⟩
theorem i36 : iF 36 g36 := jF Try.func36 [(3, 144)]
def g38 : GFun := ⟨⟨19,[3,4]⟩,(s [a 3 2 0,a 4 1 1,b 6 false] (s [h 7 1 4,x 8 (.call true 70 [.t 7]),m 9 8,y 12 9 (.mov (.t 2)),y 14 9 (p 1 0 4),y 10 9 (j 2 3),y 11 9 (j 1 4),y 13 9 (.call true 71 [.t 10,.t 11,(.k (.val (.int .i64 0))),(.k
 (.val (.int .i64 (-1)))),(.k (.val (.int .i64 0))),.t 12]),y 15 9 (r 1 14),y 16 9 (.len (.t 15)),y 17 9 (.bin .eql (.t 13) (.t 16)),x 18 (.pick (.t 9) (.t 17) (.k (.val (.bool false)))),m 6 18] .ret)),[.t 6]⟩
theorem i38 : iF 38 g38 := jF Try.func38
def g39 : GFun := ⟨⟨12,[1]⟩,(s [a 1 2 0,x 2 (.mov (.k (.val (.string (ByteArray.mk #[])))))] (.seq (s [f 3 0 1,l 4 3,n 5 4,q 6 .eql 5 0] (.cond 6 (s [x 2 (.mov (.k (.val (.string (ByteArray.mk #[])))))] .ret) .skip)) (s [f 7 0 1,l 8 7,x 9
 (.iaddr 2 (.t 8) (.k (.val (.int .i64 0)))),f 10 0 9,l 11 10,m 2 11] .ret))),[.t 2]⟩
theorem i39 : iF 39 g39 := jF Try.func39
def g41 : GFun := ⟨⟨11,[2]⟩,(s [a 2 1 0,b 4 false] (s [m 5 1,f 6 0 2,l 7 6,n 8 7,q 9 .sub 8 1,c 10 54 [.t 5,(.k (.val (.int .i64 0))),.t 9],m 4 10] .ret)),[.t 4]⟩
theorem i41 : iF 41 g41 := jF Try.func41
def g45 : GFun := ⟨⟨15,[]⟩,(s [b 6 false] (s [m 7 0,m 8 1,o 9 .geq 7 8,m 10 9,y 11 10 (.mov (.t 0)),y 12 10 (.mov (.t 2)),y 13 10 (.bin .leq (.t 11) (.t 12)),x 14 (.pick (.t 10) (.t 13) (.k (.val (.bool false)))),m 6 14] .ret)),[.t 6]⟩
theorem i45 : iF 45 g45 := jF Try.func45
def g46 : GFun := ⟨⟨29,[2,4]⟩,(s [a 2 2 0,u 4 6,b 5 false] (.seq (s [k 6 0] (B 0 (.seq (s [m 7 6,f 8 1 2,l 9 8,n 10 9,o 11 .lss 7 10] (.cond 11 .skip (.exit 0))) (.seq (.block 1 (s [f 14 1 2,l 15 14,m 16 6,i 17 6 15 16,f 18 0 17,l 19 18,
 m 20 1,o 21 .eql 19 20] (.cond 21 (s [f 22 1 2,l 23 22,m 24 6,i 25 6 23 24,h 26 6 25,c 27 75 [.t 26],t 4 6 27,b 5 true] .ret) .skip))) (.reg [m 12 6,q 13 .add 12 1,m 6 13]))))) (s [x 28 (.build [(.val (.string (ByteArray.mk #[]))),(.val
 (.string (ByteArray.mk #[]))),(.val (.slice none 0 0)),(.val (.bool false)),(.val (.slice none 0 0)),(.val (.slice none 0 0))] []),t 4 6 28,b 5 false] .ret))),[(.c 4 6 true),.t 5]⟩
theorem i46 : iF 46 g46 := jF Try.func46
def g47 : GFun := ⟨⟨22,[2,4,5]⟩,(s [u 2 1,k 3 0] (s [m 8 0,c 9 36 [.t 8],m 7 9,v 10 7 0,v 11 7 1,u 4 2,u 5 1,t 4 2 10,t 5 1 11] (s [m 12 0,c 13 57 [.t 12],m 6 13] (s [m 15 6,f 16 0 5,h 14 1 5,l 17 16,n 18 17,q 19 .add 18 2,x 20
 (.calla 76 [.t 15,.t 19]),q 21 .sub 20 1,t 2 1 14,m 3 21] .ret)))),[(.c 2 1 true),.t 3]⟩
theorem i47 : iF 47 g47 := jF Try.func47 [(3, 8208)]
def g48 : GFun := ⟨⟨36,[2,3,5,6,7]⟩,(s [u 2 1,u 3 1] (s [m 8 0,c 9 57 [.t 8],m 4 9] (s [m 11 0,c 12 36 [.t 11],m 10 12,v 13 10 0,v 14 10 1,u 5 2,u 6 1,t 5 2 13,t 6 1 14] (.seq (s [m 15 4,c 16 76 [.t 15,(.k (.val (.int .i64 3)))]]
 (.block 0 (s [q 18 .eql 16 0,m 17 18] (.cond 17 (s [h 19 1 6,h 20 1 6,x 21 (.call true 55 [.t 20]),t 2 1 19,t 3 1 21] .ret) (s [q 23 .eql 16 1,m 22 23] (.cond 22 (s [h 24 1 6,c 25 55 [.t 24],u 7 1,t 7 1 25] (s [f 26 0 7,l 27 26,x 28
 (.iaddr 6 (.t 27) (.k (.val (.int .i64 0)))),f 29 0 28,(.mk none none (.store 1 (.t 29) (.k (.val (.int .i64 77)))))] (s [h 30 1 6,t 2 1 30,h 31 1 7,t 3 1 31] .ret))) .skip)))))) (s [m 33 4,h 32 1 6,h 34 2 5,x 35 (.calla 60 [.t 33,.t 34]),
 t 2 1 32,t 3 1 35] .ret))))),[(.c 2 1 true),(.c 3 1 true)]⟩
theorem i48 : iF 48 g48 := jF Try.func48 [(10, 144)]
def g49 : GFun := ⟨⟨8,[]⟩,(s [x 2 (.mov (.k (.val (.slice none 0 0))))] (.seq (s [m 3 0,x 4 (.isnil false (.t 3))] (.cond 4 (s [x 2 (.mov (.k (.val (.slice none 0 0))))] .ret) .skip)) (s [x 5 (.bslice 1 [] 0 false []),m 6 0,x 7
 (.append 1 8 (.t 5) (.t 6)),m 2 7] .ret))),[.t 2]⟩
theorem i49 : iF 49 g49 := jF Try.func49
def g50 : GFun := ⟨⟨78,[3,4,8,9]⟩,(s [a 3 1 0,a 4 1 1,b 6 false] (.seq (s [f 10 0 3,l 11 10,n 12 11,f 13 0 4,l 14 13,n 15 14,o 16 .neq 12 15] (.cond 16 (s [b 6 false] .ret) .skip)) (.seq (s [k 7 0] (B 0 (.seq (s [m 17 7,f 18 0 3,l 19 18,
 n 20 19,o 21 .lss 17 20] (.cond 21 .skip (.exit 0))) (.seq (.block 1 (s [f 24 0 3,l 25 24,m 26 7,i 27 6 25 26,h 28 6 27,u 8 6,t 8 6 28] (s [f 29 0 4,l 30 29,m 31 7,i 32 6 30 31,h 33 6 32,u 9 6,t 9 6 33] (s [m 34 2,m 35 34,y 36 35
 (p 1 0 8),y 37 35 (r 1 36),y 38 35 (p 1 0 9),y 39 35 (r 1 38),y 40 35 (.bin .neq (.t 37) (.t 39)),x 41 (.pick (.t 35) (.t 40) (.k (.val (.bool false)))),m 42 41,z 43 42 (p 1 1 8),z 44 42 (r 1 43),z 45 42 (p 1 1 9),z 46 42 (r 1 45),
 z 47 42 (.bin .neq (.t 44) (.t 46)),x 48 (.pick (.t 42) (.k (.val (.bool true))) (.t 47)),m 49 48,z 50 49 (p 1 2 8),z 51 49 (r 1 50),z 52 49 (p 1 2 9),z 53 49 (r 1 52),z 54 49 (.bin .neq (.t 51) (.t 53)),x 55 (.pick (.t 49) (.k (.val
 (.bool true))) (.t 54)),m 56 55,z 57 56 (p 1 3 8),z 58 56 (r 1 57),z 59 56 (p 1 3 9),z 60 56 (r 1 59),z 61 56 (.bin .neq (.t 58) (.t 60)),x 62 (.pick (.t 56) (.k (.val (.bool true))) (.t 61)),m 63 62,z 64 63 (p 1 4 8),z 65 63 (r 1 64),
 z 66 63 (p 1 4 9),z 67 63 (r 1 66),z 68 63 (.bin .neq (.t 65) (.t 67)),x 69 (.pick (.t 63) (.k (.val (.bool true))) (.t 68)),m 70 69,z 71 70 (p 1 5 8),z 72 70 (r 1 71),z 73 70 (p 1 5 9),z 74 70 (r 1 73),z 75 70 (.call false 77 [.t 72,
 .t 74]),z 76 70 (.not (.t 75)),x 77 (.pick (.t 70) (.k (.val (.bool true))) (.t 76))] (.cond 77 (s [b 6 false] .ret) .skip))))) (.reg [m 22 7,q 23 .add 22 1,m 7 23]))))) (s [b 6 true] .ret)))),[.t 6]⟩
theorem i50 : iF 50 g50 := jF Try.func50
def g51 : GFun := ⟨⟨33,[4]⟩,(s [x 2 (.box 6 (.t 0)),u 4 6] (s [x 7 (.bslice 1 [] 0 false []),m 5 7] (.seq (s [k 6 0] (B 0 (.seq (s [m 8 6,f 9 5 2,l 10 9,n 11 10,o 12 .lss 8 11] (.cond 12 .skip (.exit 0))) (.seq (.block 1 (.reg [m 15 5,
 f 16 5 2,l 17 16,m 18 6,i 19 1 17 18,l 20 19,m 21 1,o 22 .add 20 21,x 23 (.bslice 1 [] 1 false [(0,(.t 22))]),x 24 (.append 1 8 (.t 15) (.t 23)),m 5 24])) (.reg [m 13 6,q 14 .add 13 1,m 6 14]))))) (s [m 25 5,f 26 5 2,(.mk none none
 (.store 1 (.t 26) (.t 25)))] (s [f 27 1 2,l 28 27,m 29 1,o 30 .add 28 29,f 31 1 2,(.mk none none (.store 1 (.t 31) (.t 30)))] (s [h 32 6 2,t 4 6 32] .ret)))))),[(.c 4 6 true)]⟩
theorem i51 : iF 51 g51 := jF Try.func51
def g52 : GFun := ⟨⟨26,[1,2]⟩,(s [a 1 1 0,u 2 1] (s [x 6 (.build [(.val (.slice none 0 0))] []),x 3 (.alloc 1 (.agg [(.val (.slice none 0 0))])),(.mk none none (.store 1 (.t 3) (.t 6)))] (.seq (s [f 7 0 1,l 8 7,n 9 8,k 10 0] (B 0
 (s [o 11 .lss 10 9] (C 11 0 (.seq (.block 1 (s [i 12 6 8 10,h 13 6 12,x 5 (.alloc 6 (.agg [(.val (.int .i64 0)),(.val (.int .i64 0)),(.val (.int .i64 0)),(.val (.int .i64 0)),(.val (.string (ByteArray.mk #[]))),(.val (.slice none 0 0))])),
 (.mk none none (.store 6 (.t 5) (.t 13)))] (s [f 14 5 5,l 15 14,c 16 49 [.t 15],f 17 5 5,(.mk none none (.store 1 (.t 17) (.t 16)))] (.reg [f 18 0 3,l 19 18,h 20 6 5,x 21 (.bslice 6 [] 1 true [(0,(.t 20))]),x 22 (.append 6 72 (.t 19)
 (.t 21)),f 23 0 3,(.mk none none (.store 1 (.t 23) (.t 22)))])))) (.reg [q 24 .add 10 1,m 10 24])))))) (s [h 25 1 3,t 2 1 25] .ret)))),[(.c 2 1 true)]⟩
theorem i52 : iF 52 g52 := jF Try.func52
def g53 : GFun := ⟨⟨17,[]⟩,(s [k 5 0] (.seq (s [m 6 0,l 7 1,l 8 2,o 9 .add 7 8,o 10 .geq 6 9] (.cond 10 (s [m 11 0,l 12 2,o 13 .sub 11 12,l 14 3,o 15 .add 13 14,m 5 15] .ret) .skip)) (s [m 16 0,m 5 16] .ret))),[.t 5]⟩
theorem i53 : iF 53 g53 := jF Try.func53
def g54 : GFun := ⟨⟨15,[]⟩,(s [b 6 false] (s [m 7 0,m 8 1,o 9 .geq 7 8,m 10 9,y 11 10 (.mov (.t 0)),y 12 10 (.mov (.t 2)),y 13 10 (.bin .leq (.t 11) (.t 12)),x 14 (.pick (.t 10) (.t 13) (.k (.val (.bool false)))),m 6 14] .ret)),[.t 6]⟩
theorem i54 : iF 54 g54 := jF Try.func54
def g55 : GFun := ⟨⟨31,[1,2]⟩,(s [a 1 1 0,u 2 1] (s [x 6 (.build [(.val (.slice none 0 0))] []),x 3 (.alloc 1 (.agg [(.val (.slice none 0 0))])),(.mk none none (.store 1 (.t 3) (.t 6)))] (.seq (s [k 4 0] (B 0 (.seq (s [m 7 4,f 8 0 1,l 9 8,
 n 10 9,o 11 .lss 7 10] (.cond 11 .skip (.exit 0))) (.seq (.block 1 (s [f 14 0 1,l 15 14,m 16 4,i 17 6 15 16,h 18 6 17,x 5 (.alloc 6 (.agg [(.val (.int .i64 0)),(.val (.int .i64 0)),(.val (.int .i64 0)),(.val (.int .i64 0)),(.val (.string
 (ByteArray.mk #[]))),(.val (.slice none 0 0))])),(.mk none none (.store 6 (.t 5) (.t 18)))] (s [x 19 (.bslice 1 [] 0 false []),f 20 5 5,l 21 20,x 22 (.append 1 8 (.t 19) (.t 21)),f 23 5 5,(.mk none none (.store 1 (.t 23) (.t 22)))]
 (.reg [f 24 0 3,l 25 24,h 26 6 5,x 27 (.bslice 6 [] 1 true [(0,(.t 26))]),x 28 (.append 6 72 (.t 25) (.t 27)),f 29 0 3,(.mk none none (.store 1 (.t 29) (.t 28)))])))) (.reg [m 12 4,q 13 .add 12 1,m 4 13]))))) (s [h 30 1 3,
 t 2 1 30] .ret)))),[(.c 2 1 true)]⟩
theorem i55 : iF 55 g55 := jF Try.func55
def g56 : GFun := ⟨⟨37,[6]⟩,(s [x 3 (.box 6 (.t 0)),u 6 6] (s [x 9 (.bslice 1 [] 0 false []),m 7 9] (.seq (s [k 8 0] (B 0 (.seq (s [m 10 8,f 11 5 3,l 12 11,n 13 12,o 14 .lss 10 13] (.cond 14 .skip (.exit 0))) (.seq (.block 1 (.reg [m 17 7,
 f 18 5 3,l 19 18,m 20 8,i 21 1 19 20,l 22 21,m 23 1,m 24 2,c 25 78 [.t 22,.t 23,.t 24],x 26 (.bslice 1 [] 1 false [(0,(.t 25))]),x 27 (.append 1 8 (.t 17) (.t 26)),m 7 27])) (.reg [m 15 8,q 16 .add 15 1,m 8 16]))))) (s [m 28 7,f 29 5 3,
 (.mk none none (.store 1 (.t 29) (.t 28)))] (s [f 30 1 3,l 31 30,m 32 1,m 33 2,c 34 78 [.t 31,.t 32,.t 33],f 35 1 3,(.mk none none (.store 1 (.t 35) (.t 34)))] (s [h 36 6 3,t 6 6 36] .ret)))))),[(.c 6 6 true)]⟩
theorem i56 : iF 56 g56 := jF Try.func56
def g57 : GFun := ⟨⟨32,[]⟩,(s [x 2 (.mov (.k (.val (.pointer none))))] (s [m 5 0,n 6 5,x 7 (.bin .add (.k (.val (.int .i64 26583))) (.t 6)),m 3 7] (.seq (s [k 4 0] (B 0 (.seq (s [m 8 4,m 9 0,n 10 9,o 11 .lss 8 10,m 12 11,y 13 12 (.mov
 (.t 4)),y 14 12 (.bin .lss (.t 13) (.k (.val (.int .i64 4000)))),x 15 (.pick (.t 12) (.t 14) (.k (.val (.bool false))))] (.cond 15 .skip (.exit 0))) (.seq (.block 1 (.reg [m 18 3,q 19 .mul 18 131,m 20 0,m 21 4,i 22 1 20 21,l 23 22,x 24
 (.conv .i64 (.t 23)),o 25 .add 19 24,q 26 .add 25 7,q 27 .and 26 1073741823,m 3 27])) (.reg [m 16 4,q 17 .add 16 1,m 4 17]))))) (s [m 28 0,m 29 3,x 30 (.build [(.val (.slice none 0 0)),(.val (.int .i64 0)),(.val (.int .i64 0))] [(0,(1,
 (.t 28))),(2,(1,(.t 29)))]),x 31 (.box 3 (.t 30)),m 2 31] .ret)))),[.t 2]⟩
theorem i57 : iF 57 g57 := jF Try.func57
def g58 : GFun := ⟨⟨154,[4,1000012,3000020]⟩,(s [u 4 2] (s [x 16 (.build [(.val (.slice none 0 0)),(.val (.slice none 0 0))] []),x 5 (.alloc 2 (.agg [(.val (.slice none 0 0)),(.val (.slice none 0 0))])),(.mk none none (.store 2 (.t 5)
 (.t 16)))] (s [m 17 0,c 18 76 [.t 17,(.k (.val (.int .i64 3)))],x 19 (.bin .add (.k (.val (.int .i64 1))) (.t 18)),m 6 19] (s [x 20 (.bslro 1 [] 3 false [(0,(.k (.val (.string (ByteArray.mk #[115]))))),(1,(.k (.val (.string
 (ByteArray.mk #[116]))))),(2,(.k (.val (.string (ByteArray.mk #[117])))))]),m 21 6,x 22 (.slc 1 (.t 20) none (some (.t 21))),m 7 22] (.seq (s [k 8 0] (B 0 (.seq (s [m 23 8,m 24 6,o 25 .lss 23 24] (.cond 25 .skip (.exit 0))) (.seq
 (.block 1 (.reg [f 28 0 5,m 30 0,m 31 7,m 32 8,i 33 1 31 32,m 35 8,q 36 .eql 35 0,m 37 1,l 29 28,l 34 33,x 38 (.calla 79 [.t 30,.t 34,.t 36,.t 37]),x 39 (.bslice 2 [] 1 true [(0,(.t 38))]),x 40 (.append 2 40 (.t 29) (.t 39)),f 41 0 5,
 (.mk none none (.store 1 (.t 41) (.t 40)))])) (.reg [m 26 8,q 27 .add 26 1,m 8 27]))))) (.seq (s [k 9 0] (B 2 (.seq (s [m 42 9,m 43 6,o 44 .lss 42 43] (.cond 44 .skip (.exit 2))) (.seq (.block 3 (s [f 47 1 5,m 49 7,m 50 9,i 51 1 49 50,
 m 54 7,m 55 9,i 56 1 54 55,m 58 0,l 48 47,l 52 51,x 53 (.bin .add (.k (.val (.string (ByteArray.mk #[108,101,97,102])))) (.t 52)),l 57 56,x 59 (.calla 59 [.t 58,(.k (.val (.int .i64 3)))]),w 60 59,x 61 (.build [(.val (.string
 (ByteArray.mk #[]))),(.val (.string (ByteArray.mk #[]))),(.val (.slice none 0 0)),(.val (.bool false)),(.val (.slice none 0 0)),(.val (.slice none 0 0))] [(0,(1,(.t 53))),(1,(1,(.t 57))),(3,(1,(.t 60)))]),x 62 (.bslice 6 [] 1 true [(0,
 (.t 61))]),x 63 (.append 6 112 (.t 48) (.t 62)),f 64 1 5,(.mk none none (.store 1 (.t 64) (.t 63)))] (s [m 65 0,c 66 76 [.t 65,(.k (.val (.int .i64 2)))],x 67 (.bin .add (.k (.val (.int .i64 1))) (.t 66)),m 10 67] (s [k 11 0] (B 4 (.seq
 (s [m 68 11,m 69 10,o 70 .lss 68 69] (.cond 70 .skip (.exit 4))) (.seq (.block 5 (s [m 73 7,m 74 9,i 75 1 73 74,m 78 11,m 81 7,m 82 9,i 83 1 81 82,m 85 0,u 12 6,l 76 75,x 77 (.bin .add (.k (.val (.string (ByteArray.mk #[112])))) (.t 76)),
 x 79 (.call true 80 [.t 78]),o 80 .add 77 79,l 84 83,x 86 (.calla 59 [.t 85,(.k (.val (.int .i64 4)))]),x 87 (.build [(.val (.string (ByteArray.mk #[]))),(.val (.string (ByteArray.mk #[]))),(.val (.slice none 0 0)),(.val (.bool false)),
 (.val (.slice none 0 0)),(.val (.slice none 0 0))] [(0,(1,(.t 80))),(1,(1,(.t 84))),(3,(1,(.t 86)))]),x 12 (.strb 6 12 (.t 87))] (s [m 88 0,c 89 76 [.t 88,(.k (.val (.int .i64 3)))],x 90 (.bin .add (.k (.val (.int .i64 1))) (.t 89)),
 m 13 90] (.seq (s [k 14 0] (B 6 (.seq (s [m 91 14,m 92 13,o 93 .lss 91 92] (.cond 93 .skip (.exit 6))) (.seq (.block 7 (.reg [f 96 2 12,m 98 0,m 99 7,l 97 96,x 100 (.calla 64 [.t 98,.t 99]),x 101 (.bslice 1 [] 1 false [(0,(.t 100))]),
 x 102 (.append 1 16 (.t 97) (.t 101)),f 103 2 12,(.mk none none (.store 1 (.t 103) (.t 102)))])) (.reg [m 94 14,q 95 .add 94 1,m 14 95]))))) (.reg [f 104 1 5,l 105 104,h 106 6 12,x 107 (.bslice 6 [] 1 true [(0,(.t 106))]),x 108
 (.append 6 112 (.t 105) (.t 107)),f 109 1 5,(.mk none none (.store 1 (.t 109) (.t 108)))]))))) (.reg [m 71 11,q 72 .add 71 1,m 11 72])))))))) (.reg [m 45 9,q 46 .add 45 1,m 9 46]))))) (.seq (s [f 110 1 5,l 111 110,n 112 111,
 q 113 .gtr 112 8] (.cond 113 (.reg [f 114 1 5,l 115 114,x 116 (.slc 6 (.t 115) none (some (.k (.val (.int .i64 8))))),f 117 1 5,(.mk none none (.store 1 (.t 117) (.t 116)))]) .skip)) (.seq (s [k 15 0] (B 8 (.seq (s [m 118 15,f 119 1 5,
 l 120 119,n 121 120,o 122 .lss 118 121] (.cond 122 .skip (.exit 8))) (.seq (.block 9 (s [f 125 1 5,m 127 15,m 128 0,f 130 1 5,m 132 15,m 135 1,w 136 135,l 126 125,h 129 2 5,l 131 130,i 133 6 131 132,h 134 6 133,x 137 (.calla 81 [.t 128,
 .t 129,.t 134,.t 136]),i 138 6 126 127,(.mk none none (.store 6 (.t 138) (.t 137)))] (s [m 139 1,w 140 139] (.cond 140 (.reg [f 141 1 5,m 143 15,m 144 0,f 146 1 5,m 148 15,l 142 141,h 145 2 5,l 147 146,i 149 6 147 148,h 150 6 149,x 151
 (.calla 82 [.t 144,.t 145,.t 150]),i 152 6 142 143,(.mk none none (.store 6 (.t 152) (.t 151)))]) .skip)))) (.reg [m 123 15,q 124 .add 123 1,m 15 124]))))) (s [h 153 2 5,t 4 2 153] .ret))))))))),[(.c 4 2 true)]⟩
theorem i58 : iF 58 g58 := jF Try.func58 [(7, 2097168), (11, 33554448), (16, 134217744), (21, 528), (28, 33554448), (30, 2097168)]
def g59 : GFun := ⟨⟨9,[]⟩,(s [b 4 false] (s [m 5 0,m 6 1,c 7 76 [.t 5,.t 6],q 8 .eql 7 0,m 4 8] .ret)),[.t 4]⟩
theorem i59 : iF 59 g59 := jF Try.func59
def g60 : GFun := ⟨⟨53,[3,4,1000005]⟩,(s [a 3 2 1,u 4 1] (s [m 7 0,m 11 0,m 14 0,u 5 1,h 8 2 3,h 9 2 3,x 10 (.call true 39 [.t 9]),x 12 (.calla 76 [.t 11,(.k (.val (.int .i64 12)))]),x 13 (.bin .add (.k (.val (.int .i64 6))) (.t 12)),x 15
 (.calla 76 [.t 14,(.k (.val (.int .i64 3)))]),q 16 .mul 15 10,x 17 (.bin .add (.k (.val (.int .i64 1))) (.t 16)),x 18 (.calla 83 [.t 7,.t 8,.t 10,.t 13,.t 17]),x 5 (.strb 1 5 (.t 18))] (.seq (s [f 19 0 5,l 20 19,n 21 20,q 22 .gtr 21 16]
 (.cond 22 (.reg [m 23 0,h 24 2 3,h 25 2 3,x 26 (.call true 39 [.t 25]),x 27 (.calla 83 [.t 23,.t 24,.t 26,(.k (.val (.int .i64 1))),(.k (.val (.int .i64 1)))]),x 5 (.strb 1 5 (.t 27))]) .skip)) (.seq (s [m 28 0,c 29 59 [.t 28,(.k (.val
 (.int .i64 3)))]] (.cond 29 (s [k 6 0] (B 0 (.seq (s [m 30 6,f 31 0 5,l 32 31,n 33 32,o 34 .lss 30 33] (.cond 34 .skip (.exit 0))) (.seq (.block 1 (.reg [f 37 0 5,m 39 6,f 40 0 5,m 42 6,l 38 37,l 41 40,i 43 6 41 42,f 44 0 43,l 45 44,
 q 46 .mul 45 7,q 47 .add 46 3,q 48 .rem 47 97,q 49 .add 48 1,i 50 6 38 39,f 51 0 50,(.mk none none (.store 1 (.t 51) (.t 49)))])) (.reg [m 35 6,q 36 .add 35 1,m 6 36]))))) .skip)) (s [h 52 1 5,t 4 1 52] .ret))))),[(.c 4 1 true)]⟩
theorem i60 : iF 60 g60 := jF Try.func60 [(1, 8521744), (3, 528)]
def g61 : GFun := ⟨⟨180,[4,5,6,10,13]⟩,(s [a 4 2 1,a 5 1 2,u 6 5] (s [m 15 0,c 16 76 [.t 15,(.k (.val (.int .i64 3)))],x 17 (.bin .add (.k (.val (.int .i64 1))) (.t 16)),m 18 0,c 19 76 [.t 18,(.k (.val (.int .i64 12)))],q 20 .sub 19 3,
 x 21 (.build [(.val (.int .i64 0)),(.val (.int .i64 0)),(.val (.int .i64 0)),(.val (.int .i64 0)),(.val (.slice none 0 0))] [(0,(1,(.t 17))),(3,(1,(.t 20)))]),x 7 (.alloc 5 (.agg [(.val (.int .i64 0)),(.val (.int .i64 0)),(.val
 (.int .i64 0)),(.val (.int .i64 0)),(.val (.slice none 0 0))])),(.mk none none (.store 5 (.t 7) (.t 21)))] (s [m 22 0,f 23 0 5,l 24 23,n 25 24,c 26 76 [.t 22,.t 25],m 8 26] (s [f 27 0 5,l 28 27,m 29 8,i 30 6 28 29,f 31 0 30,l 32 31,
 f 33 1 7,(.mk none none (.store 1 (.t 33) (.t 32)))] (.seq (s [f 34 0 7,l 35 34] (.block 0 (s [q 37 .eql 35 1,m 36 37] (.cond 36 (.seq (s [k 9 0] (B 1 (.seq (s [m 38 9,f 39 0 5,l 40 39,n 41 40,o 42 .lss 38 41] (.cond 42 .skip (.exit 1)))
 (.seq (.block 2 (s [f 47 0 5,m 49 8,m 50 9,o 51 .add 49 50,f 52 0 5,u 10 6,h 46 2 4,l 48 47,l 53 52,n 54 53,o 55 .rem 51 54,i 56 6 48 55,f 57 4 56,l 58 57,x 59 (.call true 46 [.t 46,.t 58]),m 45 59,v 60 45 0,v 61 45 1,t 10 6 60,m 11 61]
 (s [f 62 3 10,l 63 62,m 64 63,y 65 64 (.mov (.t 0)),y 66 64 (.call false 59 [.t 65,(.k (.val (.int .i64 12)))]),y 67 64 (.not (.t 66)),x 68 (.pick (.t 64) (.t 67) (.k (.val (.bool false))))] (.cond 68 (s [f 69 0 5,m 71 8,m 72 9,
 o 73 .add 71 72,f 74 0 5,l 70 69,l 75 74,n 76 75,o 77 .rem 73 76,i 78 6 70 77,f 79 0 78,l 80 79,f 81 1 7,(.mk none none (.store 1 (.t 81) (.t 80)))] (.exit 1)) .skip)))) (.reg [m 43 9,q 44 .add 43 1,m 9 44]))))) (s [m 82 0,c 83 59 [.t 82,
 (.k (.val (.int .i64 20)))]] (.cond 83 (.reg [f 84 3 7,(.mk none none (.store 1 (.t 84) (.k (.val (.int .i64 1000001)))))]) .skip))) (s [q 86 .eql 35 2,m 85 86] (.cond 85 (s [f 87 3 7,(.mk none none (.store 1 (.t 87) (.k (.val
 (.int .i64 0)))))] (s [m 88 0,m 92 8,m 94 0,m 97 0,h 89 2 4,h 90 2 4,h 91 1 5,x 93 (.call true 21 [.t 90,.t 91,.t 92]),x 95 (.calla 76 [.t 94,(.k (.val (.int .i64 6)))]),x 96 (.bin .add (.k (.val (.int .i64 4))) (.t 95)),x 98
 (.calla 76 [.t 97,(.k (.val (.int .i64 9)))]),q 99 .mul 98 20,x 100 (.bin .add (.k (.val (.int .i64 100))) (.t 99)),x 101 (.calla 83 [.t 88,.t 89,.t 93,.t 96,.t 100]),e 102 4 1 7,(.mk none none (.store 1 (.t 102) (.t 101)))] (s [m 103 0,
 c 104 59 [.t 103,(.k (.val (.int .i64 12)))]] (.cond 104 (.reg [m 105 0,f 109 0 5,h 106 2 4,h 107 2 4,x 108 (.call true 39 [.t 107]),l 110 109,x 111 (.iaddr 6 (.t 110) (.k (.val (.int .i64 0)))),f 112 0 111,l 113 112,x 114
 (.calla 83 [.t 105,.t 106,.t 108,(.k (.val (.int .i64 3))),.t 113]),e 115 4 1 7,(.mk none none (.store 1 (.t 115) (.t 114)))]) .skip)))) (s [q 117 .eql 35 3,m 116 117] (.cond 116 (s [f 118 3 7,(.mk none none (.store 1 (.t 118) (.k (.val
 (.int .i64 0)))))] (s [f 119 0 5,m 121 0,f 122 0 5,l 120 119,l 123 122,n 124 123,x 125 (.calla 76 [.t 121,.t 124]),i 126 6 120 125,f 127 0 126,l 128 127,f 129 2 7,(.mk none none (.store 1 (.t 129) (.t 128)))] (s [k 12 0] (B 3 (.seq
 (s [m 130 12,f 131 0 5,l 132 131,n 133 132,o 134 .lss 130 133] (.cond 134 .skip (.exit 3))) (.seq (.block 4 (s [m 140 8,m 141 8,m 142 12,o 143 .add 141 142,f 144 0 5,u 13 1,h 138 2 4,h 139 1 5,l 145 144,n 146 145,o 147 .rem 143 146,x 148
 (.call true 84 [.t 138,.t 139,.t 140,.t 147]),m 137 148,v 149 137 0,v 150 137 1,t 13 1 149,m 14 150] (s [m 151 14,q 152 .eql 151 0,m 153 152,y 154 153 (.mov (.t 0)),y 155 153 (.call false 59 [.t 154,(.k (.val (.int .i64 6)))]),y 156 153
 (.not (.t 155)),x 157 (.pick (.t 153) (.t 156) (.k (.val (.bool false))))] (.cond 157 (s [f 158 0 5,m 160 8,m 161 12,o 162 .add 160 161,f 163 0 5,l 159 158,l 164 163,n 165 164,o 166 .rem 162 165,i 167 6 159 166,f 168 0 167,l 169 168,
 f 170 2 7,(.mk none none (.store 1 (.t 170) (.t 169)))] (.exit 3)) .skip)))) (.reg [m 135 12,q 136 .add 135 1,m 12 136]))))))) .skip)))))))) (.seq (s [m 171 0,c 172 59 [.t 171,(.k (.val (.int .i64 24)))]] (.cond 172 (.reg [f 173 1 7,
 (.mk none none (.store 1 (.t 173) (.k (.val (.int .i64 500)))))]) .skip)) (.seq (s [m 174 0,c 175 59 [.t 174,(.k (.val (.int .i64 24)))]] (.cond 175 (.reg [m 176 0,c 177 76 [.t 176,(.k (.val (.int .i64 6)))],f 178 0 7,(.mk none none
 (.store 1 (.t 178) (.t 177)))]) .skip)) (s [h 179 5 7,t 6 5 179] .ret)))))))),[(.c 6 5 true)]⟩
theorem i61 : iF 61 g61 := jF Try.func61 [(16, 136347664), (18, 524304), (21, 8208)]
def g62 : GFun := ⟨⟨97,[3,4,3000028,3000038,3000058,4074005,5065005]⟩,(s [a 3 2 1,u 4 1] (s [m 7 0,h 8 2 3,c 9 60 [.t 7,.t 8],x 5 (.alloc 1 (.agg [(.val (.slice none 0 0))])),(.mk none none (.store 1 (.t 5) (.t 9)))] (s [m 10 0,f 11 0 5,
 l 12 11,n 13 12,c 14 76 [.t 10,.t 13],m 6 14] (.seq (s [m 15 0,c 16 76 [.t 15,(.k (.val (.int .i64 14)))]] (.block 0 (s [q 18 .eql 16 0,m 17 18] (.cond 17 (.reg [f 19 0 5,m 21 6,m 22 0,f 23 0 5,l 20 19,l 24 23,x 25 (.iaddr 6 (.t 24) (.k
 (.val (.int .i64 0)))),f 26 0 25,l 27 26,x 28 (.bslro 1 [] 4 false [(0,(.k (.val (.int .i64 0)))),(1,(.k (.val (.int .i64 1)))),(2,(.k (.val (.int .i64 1000)))),(3,(.t 27))]),x 29 (.calla 85 [.t 22,.t 28]),i 30 6 20 21,f 31 0 30,
 (.mk none none (.store 1 (.t 31) (.t 29)))]) (s [q 33 .eql 16 1,m 32 33] (.cond 32 (.reg [f 34 0 5,m 36 6,m 37 0,x 38 (.bslro 1 [] 2 false [(0,(.k (.val (.int .i64 1000001)))),(1,(.k (.val (.int .i64 5))))]),l 35 34,x 39 (.calla 85 [.t 37,
 .t 38]),i 40 6 35 36,f 41 3 40,(.mk none none (.store 1 (.t 41) (.t 39)))]) (s [q 43 .eql 16 2,m 42 43] (.cond 42 (.reg [f 44 0 5,m 46 6,m 47 0,l 45 44,x 48 (.calla 76 [.t 47,(.k (.val (.int .i64 5)))]),q 49 .sub 48 1,i 50 6 45 46,
 f 51 1 50,(.mk none none (.store 1 (.t 51) (.t 49)))]) (s [q 53 .eql 16 3,m 52 53] (.cond 52 (.reg [f 54 0 5,m 56 6,m 57 0,x 58 (.bslro 1 [] 4 false [(0,(.k (.val (.string (ByteArray.mk #[108,101,97,102,115]))))),(1,(.k (.val (.string
 (ByteArray.mk #[112,115,48]))))),(2,(.k (.val (.string (ByteArray.mk #[108,101,97,102,116]))))),(3,(.k (.val (.string (ByteArray.mk #[122,122])))))]),l 55 54,x 59 (.calla 64 [.t 57,.t 58]),i 60 6 55 56,f 61 4 60,(.mk none none (.store 1
 (.t 61) (.t 59)))]) (s [q 63 .eql 16 4,m 62 63] (.cond 62 (.reg [f 64 0 5,m 66 6,f 67 0 5,m 69 6,x 65 (.ldx 1 false 64 5),l 68 67,i 70 6 68 69,f 71 5 70,l 72 71,x 73 (.bslice 1 [] 1 false [(0,(.k (.val (.int .i64 1))))]),x 74
 (.appx [5] 1 8 (.t 72) (.t 73)),i 75 6 65 66,f 76 5 75,(.mk none none (.store 1 (.t 76) (.t 74)))]) (s [q 78 .eql 16 5,m 77 78] (.cond 77 (.reg [f 79 0 5,f 81 0 5,m 83 6,l 80 79,l 82 81,i 84 6 82 83,h 85 6 84,x 86 (.bslice 6 [] 1 true [(0,
 (.t 85))]),x 87 (.append 6 72 (.t 80) (.t 86)),f 88 0 5,(.mk none none (.store 1 (.t 88) (.t 87)))]) (s [q 90 .eql 16 6,m 89 90] (.cond 89 (.reg [f 91 0 5,l 92 91,m 93 6,i 94 6 92 93,f 95 2 94,(.mk none none (.store 1 (.t 95) (.k (.val
 (.int .i64 1)))))]) .skip)))))))))))))))) (s [h 96 1 5,t 4 1 96] .ret))))),[(.c 4 1 true)]⟩
theorem i62 : iF 62 g62 := jF Try.func62 [(5, 2097168), (7, 2064), (9, 528), (11, 2064)]
def g64 : GFun := ⟨⟨12,[]⟩,(s [x 4 (.mov (.k (.val (.string (ByteArray.mk #[])))))] (s [m 5 1,m 6 0,m 7 1,n 8 7,c 9 76 [.t 6,.t 8],i 10 1 5 9,l 11 10,m 4 11] .ret)),[.t 4]⟩
theorem i64 : iF 64 g64 := jF Try.func64
def g66 : GFun := ⟨⟨56,[3,8]⟩,(s [a 3 2 0,b 6 false] (.seq (s [k 7 0] (B 0 (.seq (s [m 12 7,f 13 1 3,l 14 13,n 15 14,o 16 .lss 12 15] (.cond 16 .skip (.exit 0))) (.seq (.block 1 (s [f 19 1 3,l 20 19,m 21 7,i 22 6 20 21,h 23 6 22,u 8 6,
 t 8 6 23] (s [f 24 1 8,l 25 24,m 26 1,o 27 .eql 25 26,m 9 27] (.seq (s [k 10 0] (B 2 (.seq (s [m 28 10,f 29 2 8,l 30 29,n 31 30,o 32 .lss 28 31] (.cond 32 .skip (.exit 2))) (.seq (.block 3 (s [f 36 2 8,m 38 10,h 35 2 3,l 37 36,
 i 39 1 37 38,l 40 39,x 41 (.call true 33 [.t 35,.t 40]),m 11 41] (.reg [m 42 9,m 43 42,y 44 43 (.mov (.t 11)),y 45 43 (.bin .geq (.t 44) (.k (.val (.int .i64 0)))),x 46 (.pick (.t 43) (.t 45) (.k (.val (.bool false)))),m 47 46,y 48 47
 (.mov (.t 2)),y 49 47 (.mov (.t 11)),y 50 47 (.call false 89 [.t 49,(.k (.val (.int .i64 0)))]),y 51 47 (.iaddr 1 (.t 48) (.t 50)),y 52 47 (r 1 51),y 53 47 (.bin .gtr (.t 52) (.k (.val (.int .i64 0)))),x 54 (.pick (.t 47) (.t 53) (.k
 (.val (.bool false)))),m 9 54]))) (.reg [m 33 10,q 34 .add 33 1,m 10 34]))))) (s [m 55 9] (.cond 55 (s [b 6 true] .ret) .skip)))))) (.reg [m 17 7,q 18 .add 17 1,m 7 18]))))) (s [b 6 false] .ret))),[.t 6]⟩
theorem i66 : iF 66 g66 := jF Try.func66
def g70 : GFun := ⟨⟨43,[1]⟩,(s [a 1 1 0,b 2 false] (s [x 5 (.bslice 1 [] 0 false []),m 3 5] (.seq (s [k 4 0] (B 0 (.seq (s [m 6 4,f 7 0 1,l 8 7,n 9 8,o 10 .lss 6 9] (.cond 10 .skip (.exit 0))) (.seq (.block 1 (.seq (s [f 13 0 1,l 14 13,
 m 15 4,i 16 6 14 15,f 17 0 16,l 18 17,c 19 45 [.t 18,(.k (.val (.int .i64 1))),(.k (.val (.int .i64 999)))],w 20 19,m 21 20,z 22 21 (.mov (.t 3)),z 23 21 (p 1 0 1),z 24 21 (r 1 23),z 25 21 (.mov (.t 4)),z 26 21 (.iaddr 6 (.t 24) (.t 25)),
 z 27 21 (p 1 0 26),z 28 21 (r 1 27),z 29 21 (.call false 90 [.t 22,.t 28]),x 30 (.pick (.t 21) (.k (.val (.bool true))) (.t 29))] (.cond 30 (s [b 2 false] .ret) .skip)) (.reg [m 31 3,f 32 0 1,l 33 32,m 34 4,i 35 6 33 34,f 36 0 35,l 37 36,
 x 38 (.bslice 1 [] 1 false [(0,(.t 37))]),x 39 (.append 1 8 (.t 31) (.t 38)),m 3 39]))) (.reg [m 11 4,q 12 .add 11 1,m 4 12]))))) (s [m 40 3,n 41 40,c 42 45 [.t 41,(.k (.val (.int .i64 1))),(.k (.val (.int .i64 16)))],m 2 42] .ret)))),
 [.t 2]⟩
theorem i70 : iF 70 g70 := jF Try.func70
def g71 : GFun := ⟨⟨109,[6,7,13,14]⟩,(s [a 6 2 0,a 7 1 1,k 12 0] (.seq (s [m 18 2,f 19 0 7,l 20 19,n 21 20,o 22 .geq 18 21] (.cond 22 (s [k 12 (-1)] .ret) .skip)) (s [f 23 0 7,l 24 23,m 25 2,i 26 6 24 25,h 27 6 26,u 13 6,t 13 6 27]
 (s [h 29 2 6,f 30 4 13,l 31 30,c 32 46 [.t 29,.t 31],m 28 32,v 33 28 0,v 34 28 1,u 14 6,t 14 6 33,m 15 34] (.seq (s [m 35 15,w 36 35,m 37 36,z 38 37 (p 1 1 14),z 39 37 (r 1 38),z 40 37 (.mov (.t 5)),z 41 37 (.bin .neq (.t 39) (.t 40)),
 x 42 (.pick (.t 37) (.k (.val (.bool true))) (.t 41)),m 43 42,z 44 43 (p 1 1 13),z 45 43 (r 1 44),z 46 43 (.mov (.t 3)),z 47 43 (.bin .neq (.t 45) (.t 46)),x 48 (.pick (.t 43) (.k (.val (.bool true))) (.t 47)),m 49 48,z 50 49 (p 1 2 13),
 z 51 49 (r 1 50),z 52 49 (.mov (.t 4)),z 53 49 (.bin .neq (.t 51) (.t 52)),x 54 (.pick (.t 49) (.k (.val (.bool true))) (.t 53)),m 55 54,z 56 55 (p 1 5 13),z 57 55 (r 1 56),z 58 55 (.len (.t 57)),z 59 55 (p 1 2 14),z 60 55 (r 1 59),
 z 61 55 (.len (.t 60)),z 62 55 (.bin .neq (.t 58) (.t 61)),x 63 (.pick (.t 55) (.k (.val (.bool true))) (.t 62))] (.cond 63 (s [k 12 (-1)] .ret) .skip)) (.seq (s [f 64 3 13,l 65 64,c 66 91 [.t 65,(.k (.val (.int .i64 1)))],w 67 66,m 68 67,
 z 69 68 (p 1 3 14),z 70 68 (r 1 69),z 71 68 (.not (.t 70)),z 72 68 (.mov (.t 71)),y 73 72 (p 1 3 13),y 74 72 (r 1 73),y 75 72 (.bin .neq (.t 74) (.k (.val (.int .i64 0)))),z 76 68 (.pick (.t 72) (.t 75) (.k (.val (.bool false)))),x 77
 (.pick (.t 68) (.k (.val (.bool true))) (.t 76))] (.cond 77 (s [k 12 (-1)] .ret) .skip)) (s [m 78 2,q 79 .add 78 1,m 16 79] (.seq (s [k 17 0] (B 0 (.seq (s [m 80 17,f 81 2 14,l 82 81,n 83 82,o 84 .lss 80 83] (.cond 84 .skip (.exit 0)))
 (.seq (.block 1 (.seq (s [f 87 5 13,l 88 87,m 89 17,i 90 1 88 89,l 91 90,m 92 16,o 93 .neq 91 92] (.cond 93 (s [k 12 (-1)] .ret) .skip)) (s [m 96 16,m 97 2,m 98 17,q 99 .add 98 1,f 100 2 14,m 102 17,h 94 2 6,h 95 1 7,l 101 100,
 i 103 1 101 102,l 104 103,x 105 (.call true 71 [.t 94,.t 95,.t 96,.t 97,.t 99,.t 104]),m 16 105] (s [m 106 16,q 107 .lss 106 0] (.cond 107 (s [k 12 (-1)] .ret) .skip))))) (.reg [m 85 17,q 86 .add 85 1,m 17 86]))))) (s [m 108 16,
 m 12 108] .ret))))))))),[.t 12]⟩
theorem i71 : iF 71 g71 := jF Try.func71
def g75 : GFun := ⟨⟨73,[1,2,6,1000003]⟩,(s [a 1 6 0,u 2 6] (s [f 7 0 1,x 8 (.loadr 1 false (.t 7)),f 9 1 1,x 10 (.loadr 1 false (.t 9)),f 11 3 1,x 12 (.loadr 1 false (.t 11)),f 14 2 1,x 15 (.loadr 1 false (.t 14)),u 3 6,x 13
 (.bslice 1 [] 0 false []),x 16 (.append 1 16 (.t 13) (.t 15)),x 17 (.build [(.val (.string (ByteArray.mk #[]))),(.val (.string (ByteArray.mk #[]))),(.val (.slice none 0 0)),(.val (.bool false)),(.val (.slice none 0 0)),(.val
 (.slice none 0 0))] [(0,(1,(.t 8))),(1,(1,(.t 10))),(3,(1,(.t 12))),(2,(1,(.t 16)))]),x 3 (.strb 6 3 (.t 17))] (.seq (s [k 4 0] (B 0 (.seq (s [m 18 4,f 19 4 1,l 20 19,n 21 20,o 22 .lss 18 21] (.cond 22 .skip (.exit 0))) (.seq (.block 1
 (.reg [f 25 4 3,f 27 4 1,m 29 4,f 33 4 1,m 35 4,l 26 25,l 28 27,i 30 9 28 29,e 31 0 2 30,h 32 2 31,l 34 33,i 36 9 34 35,e 37 2 7 36,h 38 7 37,x 39 (.call true 92 [.t 38]),x 40 (.build [(.val (.int .i64 0)),(.val (.string
 (ByteArray.mk #[]))),(.val (.int .i64 0)),(.val (.int .i64 0)),(.val (.int .i64 0)),(.val (.int .i64 0)),(.val (.string (ByteArray.mk #[]))),(.val (.string (ByteArray.mk #[]))),(.val (.slice none 0 0))] [(0,(2,(.t 32))),(2,(7,(.t 39)))]),
 x 41 (.bslice 9 [] 1 true [(0,(.t 40))]),x 42 (.append 9 112 (.t 26) (.t 41)),f 43 4 3,(.mk none none (.store 1 (.t 43) (.t 42)))])) (.reg [m 23 4,q 24 .add 23 1,m 4 24]))))) (.seq (s [k 5 0] (B 2 (.seq (s [m 44 5,f 45 5 1,l 46 45,n 47 46,
 o 48 .lss 44 47] (.cond 48 .skip (.exit 2))) (.seq (.block 3 (s [f 51 5 1,l 52 51,m 53 5,i 54 16 52 53,h 55 16 54,u 6 16,t 6 16 55] (.reg [f 56 5 3,f 58 0 6,f 60 1 6,e 62 2 7 6,e 65 9 7 6,l 57 56,l 59 58,l 61 60,h 63 7 62,x 64
 (.call true 92 [.t 63]),h 66 7 65,x 67 (.call true 92 [.t 66]),x 68 (.build [(.val (.string (ByteArray.mk #[]))),(.val (.string (ByteArray.mk #[]))),(.val (.int .i64 0)),(.val (.int .i64 0)),(.val (.int .i64 0)),(.val (.int .i64 0)),
 (.val (.string (ByteArray.mk #[]))),(.val (.string (ByteArray.mk #[]))),(.val (.slice none 0 0)),(.val (.int .i64 0)),(.val (.int .i64 0)),(.val (.int .i64 0)),(.val (.int .i64 0)),(.val (.string (ByteArray.mk #[]))),(.val (.string
 (ByteArray.mk #[]))),(.val (.slice none 0 0))] [(0,(1,(.t 59))),(1,(1,(.t 61))),(2,(7,(.t 64))),(9,(7,(.t 67)))]),x 69 (.bslice 16 [] 1 true [(0,(.t 68))]),x 70 (.append 16 208 (.t 57) (.t 69)),f 71 5 3,(.mk none none (.store 1 (.t 71)
 (.t 70)))]))) (.reg [m 49 5,q 50 .add 49 1,m 5 50]))))) (s [h 72 6 3,t 2 6 72] .ret))))),[(.c 2 6 true)]⟩
theorem i75 : iF 75 g75 := jF Try.func75
def g76 : GFun := ⟨⟨37,[]⟩,(s [k 4 0] (.seq (s [m 9 1,q 10 .leq 9 0] (.cond 10 (s [k 4 0] .ret) .skip)) (.seq (s [m 11 1,q 12 .leq 11 256] (.cond 12 (s [m 13 0,c 14 93 [.t 13],m 15 1,o 16 .rem 14 15,m 4 16] .ret) .skip)) (s [m 17 0,
 c 18 93 [.t 17],m 5 18] (s [m 19 0,c 20 93 [.t 19],m 6 20] (s [m 21 0,c 22 93 [.t 21],m 7 22] (s [m 23 0,c 24 93 [.t 23],m 8 24] (s [m 25 5,q 26 .mul 25 16777216,m 27 6,q 28 .mul 27 65536,o 29 .add 26 28,m 30 7,q 31 .mul 30 256,
 o 32 .add 29 31,m 33 8,o 34 .add 32 33,m 35 1,o 36 .rem 34 35,m 4 36] .ret)))))))),[.t 4]⟩
theorem i76 : iF 76 g76 := jF Try.func76
def g77 : GFun := ⟨⟨26,[]⟩,(s [b 4 false] (.seq (s [m 6 0,n 7 6,m 8 1,n 9 8,o 10 .neq 7 9] (.cond 10 (s [b 4 false] .ret) .skip)) (.seq (s [k 5 0] (B 0 (.seq (s [m 11 5,m 12 0,n 13 12,o 14 .lss 11 13] (.cond 14 .skip (.exit 0))) (.seq
 (.block 1 (s [m 17 0,m 18 5,i 19 1 17 18,m 21 1,m 22 5,i 23 1 21 22,l 20 19,l 24 23,o 25 .neq 20 24] (.cond 25 (s [b 4 false] .ret) .skip))) (.reg [m 15 5,q 16 .add 15 1,m 5 16]))))) (s [b 4 true] .ret)))),[.t 4]⟩
theorem i77 : iF 77 g77 := jF Try.func77
def g78 : GFun := ⟨⟨14,[]⟩,(s [k 6 0] (.seq (s [m 7 0,m 8 1,o 9 .geq 7 8] (.cond 9 (s [m 10 0,m 11 2,o 12 .add 10 11,m 6 12] .ret) .skip)) (s [m 13 0,m 6 13] .ret))),[.t 6]⟩
theorem i78 : iF 78 g78 := jF Try.func78
def g79 : GFun := ⟨⟨65,[8,1000012,3000023,3000028,3000031,3000036]⟩,(s [u 8 2] (s [m 13 1,x 14 (.build [(.val (.string (ByteArray.mk #[]))),(.val (.slice none 0 0))] [(0,(1,(.t 13)))]),x 9 (.alloc 2 (.agg [(.val (.string
 (ByteArray.mk #[]))),(.val (.slice none 0 0))])),(.mk none none (.store 2 (.t 9) (.t 14)))] (s [m 15 0,c 16 76 [.t 15,(.k (.val (.int .i64 4)))],x 17 (.bin .add (.k (.val (.int .i64 1))) (.t 16)),m 10 17] (.seq (s [k 11 0] (B 0 (.seq
 (s [m 18 11,m 19 10,o 20 .lss 18 19] (.cond 20 .skip (.exit 0))) (.seq (.block 1 (s [x 23 (.bslro 1 [] 4 false [(0,(.k (.val (.string (ByteArray.mk #[97]))))),(1,(.k (.val (.string (ByteArray.mk #[98]))))),(2,(.k (.val (.string
 (ByteArray.mk #[99]))))),(3,(.k (.val (.string (ByteArray.mk #[100])))))]),m 24 11,i 25 1 23 24,m 27 0,x 28 (.bslro 1 [] 6 false [(0,(.k (.val (.int .i64 1)))),(1,(.k (.val (.int .i64 1)))),(2,(.k (.val (.int .i64 2)))),(3,(.k (.val
 (.int .i64 2)))),(4,(.k (.val (.int .i64 3)))),(5,(.k (.val (.int .i64 4))))]),m 30 0,x 31 (.bslro 1 [] 6 false [(0,(.k (.val (.int .i64 1)))),(1,(.k (.val (.int .i64 2)))),(2,(.k (.val (.int .i64 2)))),(3,(.k (.val (.int .i64 1)))),(4,
 (.k (.val (.int .i64 2)))),(5,(.k (.val (.int .i64 3))))]),u 12 4,l 26 25,x 29 (.calla 85 [.t 27,.t 28]),x 32 (.calla 85 [.t 30,.t 31]),x 33 (.build [(.val (.string (ByteArray.mk #[]))),(.val (.int .i64 0)),(.val (.int .i64 0)),(.val
 (.bool false))] [(0,(1,(.t 26))),(1,(1,(.t 29))),(2,(1,(.t 32)))]),x 12 (.strb 4 12 (.t 33))] (.seq (s [m 34 3] (.cond 34 (.reg [m 35 0,x 36 (.bslro 1 [] 4 false [(0,(.k (.val (.int .i64 1)))),(1,(.k (.val (.int .i64 1)))),(2,(.k (.val
 (.int .i64 2)))),(3,(.k (.val (.int .i64 3))))]),c 37 85 [.t 35,.t 36],f 38 1 12,(.mk none none (.store 1 (.t 38) (.t 37)))]) .skip)) (.seq (s [m 39 2,m 40 39,y 41 40 (p 1 2 12),y 42 40 (r 1 41),y 43 40 (.bin .eql (.t 42) (.k (.val
 (.int .i64 1)))),x 44 (.pick (.t 40) (.t 43) (.k (.val (.bool false)))),m 45 44,z 46 45 (.mov (.t 3)),z 47 45 (.mov (.t 46)),y 48 47 (p 1 2 12),y 49 47 (r 1 48),y 50 47 (.bin .eql (.t 49) (.k (.val (.int .i64 3)))),z 51 45 (.pick (.t 47)
 (.t 50) (.k (.val (.bool false)))),x 52 (.pick (.t 45) (.k (.val (.bool true))) (.t 51))] (.cond 52 (.reg [f 53 2 12,(.mk none none (.store 1 (.t 53) (.k (.val (.int .i64 2)))))]) .skip)) (.seq (s [f 54 2 12,l 55 54,q 56 .eql 55 3]
 (.cond 56 (.reg [f 57 1 12,(.mk none none (.store 1 (.t 57) (.k (.val (.int .i64 2)))))]) .skip)) (.reg [f 58 1 9,l 59 58,h 60 4 12,x 61 (.bslice 4 [] 1 true [(0,(.t 60))]),x 62 (.append 4 40 (.t 59) (.t 61)),f 63 1 9,(.mk none none
 (.store 1 (.t 63) (.t 62)))])))))) (.reg [m 21 11,q 22 .add 21 1,m 11 22]))))) (s [h 64 2 9,t 8 2 64] .ret))))),[(.c 8 2 true)]⟩
theorem i79 : iF 79 g79 := jF Try.func79 [(6, 532496)]
def g80 : GFun := ⟨⟨31,[]⟩,(s [x 2 (.mov (.k (.val (.string (ByteArray.mk #[])))))] (.seq (s [m 6 0,q 7 .eql 6 0] (.cond 7 (s [x 2 (.mov (.k (.val (.string (ByteArray.mk #[48])))))] .ret) .skip)) (s [m 8 0,q 9 .lss 8 0,m 3 9] (s [x 4
 (.mov (.k (.val (.string (ByteArray.mk #[])))))] (.seq (B 0 (.seq (s [m 10 0,q 11 .neq 10 0] (.cond 11 .skip (.exit 0))) (.block 1 (s [m 12 0,q 13 .rem 12 10,m 5 13] (.seq (s [m 14 5,q 15 .lss 14 0] (.cond 15 (.reg [m 16 5,x 17
 (.bin .sub (.k (.val (.int .i64 0))) (.t 16)),m 5 17]) .skip)) (s [m 18 5,x 19 (.bin .add (.k (.val (.int .i64 48))) (.t 18)),x 20 (.conv .u8 (.t 19)),x 21 (.bslice 1 [] 1 false [(0,(.t 20))]),x 22 (.b2s (.t 21)),m 23 4,o 24 .add 22 23,
 m 4 24] (.reg [m 25 0,q 26 .quo 25 10,m 0 26]))))))) (.seq (s [m 27 3] (.cond 27 (s [m 28 4,x 29 (.bin .add (.k (.val (.string (ByteArray.mk #[45])))) (.t 28)),m 2 29] .ret) .skip)) (s [m 30 4,m 2 30] .ret))))))),[.t 2]⟩
theorem i80 : iF 80 g80 := jF Try.func80
def g81 : GFun := ⟨⟨77,[5,8,11,13,1000015,3000063]⟩,(s [a 5 2 1,x 6 (.box 6 (.t 2)),u 8 6] (s [h 16 2 5,h 17 6 6,c 18 94 [.t 16,.t 17],m 9 18] (.seq (s [k 10 0] (B 0 (.seq (s [m 19 10,m 20 9,n 21 20,o 22 .lss 19 21] (.cond 22 .skip
 (.exit 0))) (.seq (.block 1 (s [m 28 9,m 29 10,i 30 2 28 29,f 31 0 30,u 11 2,h 26 2 5,h 27 6 6,l 32 31,x 33 (.call true 95 [.t 27,.t 32]),x 34 (.call true 12 [.t 26,.t 33]),m 25 34,v 35 25 0,v 36 25 1,t 11 2 35,m 12 36] (s [m 39 9,m 40 10,
 i 41 2 39 40,f 42 1 41,u 13 4,h 38 2 11,l 43 42,x 44 (.call true 96 [.t 38,.t 43]),m 37 44,v 45 37 0,v 46 37 1,t 13 4 45,m 14 46] (s [m 47 0,f 50 1 13,m 52 0,m 55 3,u 15 7,h 48 2 5,h 49 6 6,l 51 50,x 53 (.calla 76 [.t 52,(.k (.val
 (.int .i64 3)))]),x 54 (.bin .add (.k (.val (.int .i64 1))) (.t 53)),x 56 (.calla 97 [.t 47,.t 48,.t 49,.t 51,.t 54,.t 55]),x 15 (.strb 7 15 (.t 56))] (.seq (s [h 57 7 15,c 58 98 [.t 57],w 59 58] (.cond 59 (.reg [m 60 0,f 61 1 13,l 62 61,
 x 63 (.bslro 2 [] 0 true []),c 64 99 [.t 60,.t 62,.t 63],x 15 (.strb 7 15 (.t 64))]) .skip)) (.reg [f 65 4 6,m 67 9,m 68 10,i 69 2 67 68,l 66 65,h 70 2 69,h 71 7 15,x 72 (.build [(.val (.int .i64 0)),(.val (.string (ByteArray.mk #[]))),
 (.val (.int .i64 0)),(.val (.int .i64 0)),(.val (.int .i64 0)),(.val (.int .i64 0)),(.val (.string (ByteArray.mk #[]))),(.val (.string (ByteArray.mk #[]))),(.val (.slice none 0 0))] [(0,(2,(.t 70))),(2,(7,(.t 71)))]),x 73
 (.bslice 9 [] 1 true [(0,(.t 72))]),x 74 (.append 9 112 (.t 66) (.t 73)),f 75 4 6,(.mk none none (.store 1 (.t 75) (.t 74)))])))))) (.reg [m 23 10,q 24 .add 23 1,m 10 24]))))) (s [h 76 6 6,t 8 6 76] .ret)))),[(.c 8 6 true)]⟩
theorem i81 : iF 81 g81 := jF Try.func81 [(7, 532496)]
def g82 : GFun := ⟨⟨76,[4,6,9]⟩,(s [a 4 2 1,x 5 (.box 6 (.t 2)),u 6 6] (.seq (s [k 7 0] (B 0 (.seq (s [m 10 7,f 11 0 4,l 12 11,n 13 12,o 14 .lss 10 13] (.cond 14 .skip (.exit 0))) (.seq (.block 1 (s [k 8 0] (B 2 (.seq (s [m 17 8,f 18 0 4,
 l 19 18,m 20 7,i 21 2 19 20,f 22 1 21,l 23 22,n 24 23,o 25 .lss 17 24] (.cond 25 .skip (.exit 2))) (.seq (.block 3 (s [f 28 0 4,l 29 28,m 30 7,i 31 2 29 30,f 32 1 31,l 33 32,m 34 8,i 35 4 33 34,h 36 4 35,u 9 4,t 9 4 36] (s [f 37 2 9,
 l 38 37,q 39 .eql 38 3,m 40 39,y 41 40 (p 1 5 5),y 42 40 (r 1 41),y 43 40 (.len (.t 42)),y 44 40 (.bin .lss (.t 43) (.k (.val (.int .i64 2)))),x 45 (.pick (.t 40) (.t 44) (.k (.val (.bool false)))),m 46 45,y 47 46 (.mov (.t 0)),y 48 46
 (.call false 59 [.t 47,(.k (.val (.int .i64 3)))]),y 49 46 (.not (.t 48)),x 50 (.pick (.t 46) (.t 49) (.k (.val (.bool false))))] (.cond 50 (.reg [f 51 5 5,f 53 0 4,m 55 7,f 59 0 9,m 61 0,m 66 0,l 52 51,l 54 53,i 56 2 54 55,f 57 0 56,
 l 58 57,l 60 59,h 62 2 4,h 63 6 5,x 64 (.call true 100 [.t 62,.t 63,(.k (.val (.int .i64 4)))]),h 67 2 4,h 68 6 5,x 65 (.calla 99 [.t 61,(.k (.val (.int .i64 4))),.t 64]),x 69 (.call true 100 [.t 67,.t 68,(.k (.val (.int .i64 2)))]),x 70
 (.calla 99 [.t 66,(.k (.val (.int .i64 2))),.t 69]),x 71 (.build [(.val (.string (ByteArray.mk #[]))),(.val (.string (ByteArray.mk #[]))),(.val (.int .i64 0)),(.val (.int .i64 0)),(.val (.int .i64 0)),(.val (.int .i64 0)),(.val (.string
 (ByteArray.mk #[]))),(.val (.string (ByteArray.mk #[]))),(.val (.slice none 0 0)),(.val (.int .i64 0)),(.val (.int .i64 0)),(.val (.int .i64 0)),(.val (.int .i64 0)),(.val (.string (ByteArray.mk #[]))),(.val (.string (ByteArray.mk #[]))),
 (.val (.slice none 0 0))] [(0,(1,(.t 58))),(1,(1,(.t 60))),(2,(7,(.t 65))),(9,(7,(.t 70)))]),x 72 (.bslice 16 [] 1 true [(0,(.t 71))]),x 73 (.append 16 208 (.t 52) (.t 72)),f 74 5 5,(.mk none none (.store 1 (.t 74) (.t 73)))]) .skip))))
 (.reg [m 26 8,q 27 .add 26 1,m 8 27])))))) (.reg [m 15 7,q 16 .add 15 1,m 7 16]))))) (s [h 75 6 5,t 6 6 75] .ret))),[(.c 6 6 true)]⟩
theorem i82 : iF 82 g82 := jF Try.func82 [(9, 550292684816)]
def g83 : GFun := ⟨⟨70,[6,10,11,16]⟩,(s [a 6 2 1,u 10 1] (s [m 17 0,h 18 2 6,m 19 2,m 20 3,c 21 101 [.t 17,.t 18,.t 19,.t 20],u 11 6,t 11 6 21] (s [m 22 4,f 23 0 11,l 24 23,x 25 (.build [(.val (.int .i64 0)),(.val (.int .i64 0)),(.val
 (.int .i64 0)),(.val (.int .i64 0)),(.val (.string (ByteArray.mk #[]))),(.val (.slice none 0 0))] [(0,(1,(.t 22))),(4,(1,(.t 24)))]),x 12 (.alloc 6 (.agg [(.val (.int .i64 0)),(.val (.int .i64 0)),(.val (.int .i64 0)),(.val (.int .i64 0)),
 (.val (.string (ByteArray.mk #[]))),(.val (.slice none 0 0))])),(.mk none none (.store 6 (.t 12) (.t 25)))] (.seq (s [f 26 3 11,l 27 26] (.cond 27 (.reg [m 28 0,c 29 76 [.t 28,(.k (.val (.int .i64 9)))],q 30 .sub 29 2,f 31 3 12,
 (.mk none none (.store 1 (.t 31) (.t 30)))]) .skip)) (s [m 32 4,q 33 .add 32 1,m 13 33] (s [x 34 (.bslice 1 [] 0 true []),m 14 34] (.seq (s [k 15 0] (B 0 (.seq (s [m 35 15,f 36 2 11,l 37 36,n 38 37,o 39 .lss 35 38] (.cond 39 .skip
 (.exit 0))) (.seq (.block 1 (s [m 42 0,f 44 2 11,m 46 15,m 49 3,f 50 2 11,m 56 13,u 16 1,h 43 2 6,l 45 44,i 47 1 45 46,l 48 47,l 51 50,n 52 51,x 53 (.call true 89 [(.k (.val (.int .i64 1))),.t 52]),o 54 .quo 49 53,q 55 .sub 54 1,x 57
 (.calla 83 [.t 42,.t 43,.t 48,.t 55,.t 56]),t 16 1 57] (s [m 58 13,f 59 0 16,l 60 59,n 61 60,o 62 .add 58 61,m 13 62] (.reg [m 63 14,h 64 1 16,x 65 (.bslice 1 [] 1 true [(0,(.t 64))]),x 66 (.append 1 24 (.t 63) (.t 65)),m 14 66]))))
 (.reg [m 40 15,q 41 .add 40 1,m 15 41]))))) (s [h 67 6 12,m 68 14,c 69 102 [.t 67,.t 68],t 10 1 69] .ret)))))))),[(.c 10 1 true)]⟩
theorem i83 : iF 83 g83 := jF Try.func83 [(10, 2147483664)]
def g84 : GFun := ⟨⟨51,[4,5,8,12]⟩,(s [a 4 2 0,a 5 1 1,u 8 1,k 9 0] (s [m 13 2,m 14 3,c 15 103 [.t 13,.t 14],m 10 15] (s [m 16 2,m 17 3,c 18 89 [.t 16,.t 17],m 11 18] (.seq (s [m 19 11,m 20 10,h 21 1 5,m 22 10,c 23 26 [.t 21,.t 22],
 o 24 .add 20 23,o 25 .lss 19 24] (.cond 25 (s [h 26 1 5,c 27 55 [.t 26],t 8 1 27,k 9 6] .ret) .skip)) (.seq (s [m 30 10,m 34 11,h 28 2 4,h 29 1 5,x 31 (.call true 21 [.t 28,.t 29,.t 30]),h 32 2 4,h 33 1 5,x 35 (.call true 21 [.t 32,.t 33,
 .t 34]),o 36 .neq 31 35] (.cond 36 (s [h 37 1 5,c 38 55 [.t 37],t 8 1 38,k 9 3] .ret) .skip)) (s [m 40 11,m 42 10,u 12 1,h 39 1 5,h 41 1 5,x 43 (.call true 25 [.t 41,.t 42]),x 44 (.call true 28 [.t 39,.t 40,.t 43]),t 12 1 44] (s [m 46 10,
 m 48 11,h 45 1 12,h 47 1 5,x 49 (.call true 25 [.t 47,.t 48]),x 50 (.calla 28 [.t 45,.t 46,.t 49]),t 8 1 50,k 9 0] .ret))))))),[(.c 8 1 true),.t 9]⟩
theorem i84 : iF 84 g84 := jF Try.func84 [(8, 2064)]
def g85 : GFun := ⟨⟨12,[]⟩,(s [k 4 0] (s [m 5 1,m 6 0,m 7 1,n 8 7,c 9 76 [.t 6,.t 8],i 10 1 5 9,l 11 10,m 4 11] .ret)),[.t 4]⟩
theorem i85 : iF 85 g85 := jF Try.func85
def g89 : GFun := ⟨⟨10,[]⟩,(s [k 4 0] (.seq (s [m 5 0,m 6 1,o 7 .gtr 5 6] (.cond 7 (s [m 8 0,m 4 8] .ret) .skip)) (s [m 9 1,m 4 9] .ret))),[.t 4]⟩
theorem i89 : iF 89 g89 := jF Try.func89
def g90 : GFun := ⟨⟨18,[]⟩,(s [b 4 false] (.seq (s [k 5 0] (B 0 (.seq (s [m 6 5,m 7 0,n 8 7,o 9 .lss 6 8] (.cond 9 .skip (.exit 0))) (.seq (.block 1 (s [m 12 0,m 13 5,i 14 1 12 13,l 15 14,m 16 1,o 17 .eql 15 16] (.cond 17
 (s [b 4 true] .ret) .skip))) (.reg [m 10 5,q 11 .add 10 1,m 5 11]))))) (s [b 4 false] .ret))),[.t 4]⟩
theorem i90 : iF 90 g90 := jF Try.func90
def g91 : GFun := ⟨⟨14,[]⟩,(s [b 4 false] (s [m 5 1,c 6 45 [.t 5,(.k (.val (.int .i64 1))),(.k (.val (.int .i64 4)))],m 7 6,y 8 7 (.mov (.t 0)),y 9 7 (.mov (.t 1)),y 10 7 (.call false 107 [.t 8,.t 9]),y 11 7 (.mov (.t 0)),y 12 7
 (.bin .eql (.t 10) (.t 11)),x 13 (.pick (.t 7) (.t 12) (.k (.val (.bool false)))),m 4 13] .ret)),[.t 4]⟩
theorem i91 : iF 91 g91 := jF Try.func91
def g92 : GFun := ⟨⟨25,[2]⟩,(s [x 1 (.box 7 (.t 0)),u 2 7] (s [x 5 (.bslice 7 [] 0 true []),m 3 5] (.seq (s [k 4 0] (B 0 (.seq (s [m 6 4,f 7 6 1,l 8 7,n 9 8,o 10 .lss 6 9] (.cond 10 .skip (.exit 0))) (.seq (.block 1 (.reg [m 13 3,f 14 6 1,
 l 15 14,m 16 4,i 17 7 15 16,h 18 7 17,c 19 92 [.t 18],x 20 (.bslice 7 [] 1 true [(0,(.t 19))]),x 21 (.append 7 88 (.t 13) (.t 20)),m 3 21])) (.reg [m 11 4,q 12 .add 11 1,m 4 12]))))) (s [m 22 3,f 23 6 1,(.mk none none (.store 1 (.t 23)
 (.t 22)))] (s [h 24 7 1,t 2 7 24] .ret))))),[(.c 2 7 true)]⟩
theorem i92 : iF 92 g92 := jF Try.func92
def g93 : GFun := ⟨⟨58,[]⟩,(s [k 2 0] (s [m 4 0,m 5 0,x 6 (.nck (.t 5)),f 7 2 6,l 8 7,q 9 .mul 8 6364136223846793005,q 10 .add 9 1442695040888963407,x 11 (.nck (.t 4)),f 12 2 11,(.mk none none (.store 1 (.t 12) (.t 10)))] (s [m 13 0,x 14
 (.nck (.t 13)),f 15 2 14,m 18 0,x 19 (.nck (.t 18)),f 20 2 19,l 16 15,x 17 (.bin .shr (.t 16) (.k (.val (.int .u64 33)))),l 21 20,x 22 (.bin .shr (.t 21) (.k (.val (.int .u64 45)))),o 23 .xor 17 22,q 24 .and 23 255,m 3 24] (.seq
 (s [m 25 0,x 26 (.nck (.t 25)),f 27 1 26,m 29 0,x 30 (.nck (.t 29)),f 31 0 30,l 28 27,l 32 31,n 33 32,o 34 .lss 28 33] (.cond 34 (s [m 35 3,m 36 0,x 37 (.nck (.t 36)),f 38 0 37,m 40 0,x 41 (.nck (.t 40)),f 42 1 41,l 39 38,l 43 42,
 i 44 1 39 43,l 45 44,x 46 (.conv .i64 (.t 45)),o 47 .add 35 46,q 48 .and 47 255,m 3 48] (.reg [m 49 0,m 50 0,x 51 (.nck (.t 50)),f 52 1 51,l 53 52,q 54 .add 53 1,x 55 (.nck (.t 49)),f 56 1 55,(.mk none none (.store 1 (.t 56)
 (.t 54)))])) .skip)) (s [m 57 3,m 2 57] .ret))))),[.t 2]⟩
theorem i93 : iF 93 g93 := jF Try.func93
def g94 : GFun := ⟨⟨56,[2,3,7]⟩,(s [a 2 2 0,a 3 6 1,x 4 (.mov (.k (.val (.slice none 0 0))))] (s [x 11 (.bslice 2 [] 0 true []),m 5 11] (.seq (s [k 6 0] (B 0 (.seq (s [m 12 6,f 13 2 3,l 14 13,n 15 14,o 16 .leq 12 15] (.cond 16 .skip
 (.exit 0))) (.seq (.block 1 (s [m 22 6,u 7 2,h 20 2 2,h 21 6 3,x 23 (.call true 95 [.t 21,.t 22]),x 24 (.call true 12 [.t 20,.t 23]),m 19 24,v 25 19 0,v 26 19 1,t 7 2 25,m 8 26] (s [k 9 1] (.seq (s [m 27 6,q 28 .eql 27 0] (.cond 28
 (.reg [k 9 2]) .skip)) (s [k 10 0] (B 2 (.seq (s [m 29 10,f 30 1 7,l 31 30,n 32 31,o 33 .lss 29 32] (.cond 33 .skip (.exit 2))) (.seq (.block 3 (s [f 36 1 7,l 37 36,m 38 10,i 39 4 37 38,f 40 2 39,l 41 40,m 42 9,o 43 .eql 41 42] (.cond 43
 (.reg [m 44 5,m 45 6,f 46 1 7,l 47 46,m 48 10,i 49 4 47 48,f 50 0 49,l 51 50,x 52 (.build [(.val (.int .i64 0)),(.val (.string (ByteArray.mk #[])))] [(0,(1,(.t 45))),(1,(1,(.t 51)))]),x 53 (.bslice 2 [] 1 true [(0,(.t 52))]),x 54
 (.append 2 24 (.t 44) (.t 53)),m 5 54]) .skip))) (.reg [m 34 10,q 35 .add 34 1,m 10 35]))))))))) (.reg [m 17 6,q 18 .add 17 1,m 6 18]))))) (s [m 55 5,m 4 55] .ret)))),[.t 4]⟩
theorem i94 : iF 94 g94 := jF Try.func94
def g95 : GFun := ⟨⟨21,[2]⟩,(s [a 2 6 0,x 4 (.mov (.k (.val (.string (ByteArray.mk #[])))))] (.seq (s [m 5 1,q 6 .eql 5 0] (.cond 6 (s [f 7 1 2,l 8 7,m 4 8] .ret) .skip)) (.seq (s [m 9 1,f 10 2 2,l 11 10,n 12 11,c 13 45 [.t 9,(.k (.val
 (.int .i64 1))),.t 12],w 14 13] (.cond 14 (s [x 4 (.mov (.k (.val (.string (ByteArray.mk #[])))))] .ret) .skip)) (s [f 15 2 2,l 16 15,m 17 1,q 18 .sub 17 1,i 19 1 16 18,l 20 19,m 4 20] .ret)))),[.t 4]⟩
theorem i95 : iF 95 g95 := jF Try.func95
def g96 : GFun := ⟨⟨28,[2,4]⟩,(s [a 2 2 0,u 4 4,b 5 false] (.seq (s [k 6 0] (B 0 (.seq (s [m 7 6,f 8 1 2,l 9 8,n 10 9,o 11 .lss 7 10] (.cond 11 .skip (.exit 0))) (.seq (.block 1 (s [f 14 1 2,l 15 14,m 16 6,i 17 4 15 16,f 18 0 17,l 19 18,
 m 20 1,o 21 .eql 19 20] (.cond 21 (s [f 22 1 2,l 23 22,m 24 6,i 25 4 23 24,h 26 4 25,t 4 4 26,b 5 true] .ret) .skip))) (.reg [m 12 6,q 13 .add 12 1,m 6 13]))))) (s [x 27 (.build [(.val (.string (ByteArray.mk #[]))),(.val (.int .i64 0)),
 (.val (.int .i64 0)),(.val (.bool false))] []),t 4 4 27,b 5 false] .ret))),[(.c 4 4 true),.t 5]⟩
theorem i96 : iF 96 g96 := jF Try.func96
def g97 : GFun := ⟨⟨155,[7,8,12,13,14,3000124,3000129,3000110]⟩,(s [a 7 2 1,a 8 6 2,u 12 7] (.seq (s [m 19 4,q 20 .lss 19 2,m 21 20,z 22 21 (.mov (.t 0)),z 23 21 (.call false 59 [.t 22,(.k (.val (.int .i64 3)))]),x 24 (.pick (.t 21) (.k
 (.val (.bool true))) (.t 23))] (.cond 24 (.seq (s [m 25 3,q 26 .eql 25 1,m 27 26,y 28 27 (p 1 3 8),y 29 27 (r 1 28),x 30 (.pick (.t 27) (.t 29) (.k (.val (.bool false)))),m 31 30,y 32 31 (.mov (.t 0)),y 33 31 (.call false 59 [.t 32,(.k
 (.val (.int .i64 3)))]),x 34 (.pick (.t 31) (.t 33) (.k (.val (.bool false))))] (.cond 34 (s [x 35 (.build [(.val (.int .i64 0)),(.val (.int .i64 0)),(.val (.int .i64 0)),(.val (.int .i64 0)),(.val (.string (ByteArray.mk #[]))),(.val
 (.string (ByteArray.mk #[]))),(.val (.slice none 0 0))] [(0,(1,(.k (.val (.int .i64 2)))))]),t 12 7 35] .ret) .skip)) (s [m 36 0,m 37 3,h 38 2 7,h 39 6 8,m 40 3,c 41 100 [.t 38,.t 39,.t 40],c 42 99 [.t 36,.t 37,.t 41],
 t 12 7 42] .ret)) .skip)) (.seq (s [m 43 5,m 44 43,y 45 44 (.mov (.t 0)),y 46 44 (.call false 59 [.t 45,(.k (.val (.int .i64 4)))]),x 47 (.pick (.t 44) (.t 46) (.k (.val (.bool false))))] (.cond 47 (s [f 48 0 7,m 50 0,f 51 0 7,u 13 2,
 l 49 48,l 52 51,n 53 52,x 54 (.calla 76 [.t 50,.t 53]),i 55 2 49 54,h 56 2 55,t 13 2 56] (s [f 57 1 13,m 59 0,f 60 1 13,u 14 4,l 58 57,l 61 60,n 62 61,x 63 (.calla 76 [.t 59,.t 62]),i 64 4 58 63,h 65 4 64,t 14 4 65] (s [f 66 1 14,l 67 66,
 m 68 3,o 69 .eql 67 68] (.cond 69 (s [f 70 0 13,f 72 0 14,m 74 0,l 71 70,l 73 72,h 75 2 7,h 76 6 8,x 77 (.call true 100 [.t 75,.t 76,(.k (.val (.int .i64 4)))]),x 78 (.calla 99 [.t 74,(.k (.val (.int .i64 4))),.t 77]),x 79
 (.bslice 7 [] 1 true [(0,(.t 78))]),x 80 (.build [(.val (.int .i64 0)),(.val (.int .i64 0)),(.val (.int .i64 0)),(.val (.int .i64 0)),(.val (.string (ByteArray.mk #[]))),(.val (.string (ByteArray.mk #[]))),(.val (.slice none 0 0))] [(0,(1,
 (.k (.val (.int .i64 8))))),(4,(1,(.t 71))),(5,(1,(.t 73))),(6,(1,(.t 79)))]),t 12 7 80] .ret) .skip)))) .skip)) (.seq (s [m 81 0,c 82 59 [.t 81,(.k (.val (.int .i64 6)))]] (.cond 82 (s [m 83 0,m 86 4,q 87 .sub 86 1,m 88 5,m 90 0,m 93 3,
 m 94 4,q 95 .sub 94 1,m 96 5,m 98 0,m 101 3,m 102 4,q 103 .sub 102 1,m 104 5,h 84 2 7,h 85 6 8,h 91 2 7,h 92 6 8,h 99 2 7,h 100 6 8,x 89 (.calla 97 [.t 83,.t 84,.t 85,(.k (.val (.int .i64 3))),.t 87,.t 88]),x 97 (.calla 97 [.t 90,.t 91,
 .t 92,.t 93,.t 95,.t 96]),x 105 (.calla 97 [.t 98,.t 99,.t 100,.t 101,.t 103,.t 104]),x 106 (.bslice 7 [] 3 true [(0,(.t 89)),(1,(.t 97)),(2,(.t 105))]),x 107 (.build [(.val (.int .i64 0)),(.val (.int .i64 0)),(.val (.int .i64 0)),(.val
 (.int .i64 0)),(.val (.string (ByteArray.mk #[]))),(.val (.string (ByteArray.mk #[]))),(.val (.slice none 0 0))] [(0,(1,(.k (.val (.int .i64 5))))),(6,(1,(.t 106)))]),t 12 7 107] .ret) .skip)) (s [k 15 0] (.seq (s [m 108 3] (.block 0
 (s [q 113 .eql 108 4,m 112 113] (.cond 112 (s [m 114 0,m 115 3,h 116 2 7,h 117 6 8,m 118 3,c 119 100 [.t 116,.t 117,.t 118],c 120 99 [.t 114,.t 115,.t 119],t 12 7 120] .ret) (s [q 122 .eql 108 1,m 121 122] (.cond 121 (.reg [m 123 0,x 124
 (.bslro 1 [] 6 false [(0,(.k (.val (.int .i64 1)))),(1,(.k (.val (.int .i64 1)))),(2,(.k (.val (.int .i64 2)))),(3,(.k (.val (.int .i64 3)))),(4,(.k (.val (.int .i64 4)))),(5,(.k (.val (.int .i64 5))))]),c 125 85 [.t 123,.t 124],
 m 15 125]) (s [q 127 .eql 108 2,m 126 127] (.cond 126 (.reg [m 128 0,x 129 (.bslro 1 [] 5 false [(0,(.k (.val (.int .i64 6)))),(1,(.k (.val (.int .i64 6)))),(2,(.k (.val (.int .i64 7)))),(3,(.k (.val (.int .i64 8)))),(4,(.k (.val
 (.int .i64 12))))]),c 130 85 [.t 128,.t 129],m 15 130]) (.reg [m 109 0,x 110 (.bslro 1 [] 3 false [(0,(.k (.val (.int .i64 9)))),(1,(.k (.val (.int .i64 10)))),(2,(.k (.val (.int .i64 11))))]),c 111 85 [.t 109,.t 110],m 15 111])))))))))
 (s [m 132 15,c 133 108 [.t 132],m 131 133,v 134 131 0,v 135 131 1,v 136 131 2,m 16 134,m 17 135,m 18 136] (s [m 137 15,m 138 0,m 141 16,m 142 4,q 143 .sub 142 1,m 144 5,m 146 0,m 149 17,m 150 4,q 151 .sub 150 1,m 152 5,h 139 2 7,h 140 6 8,
 h 147 2 7,h 148 6 8,x 145 (.calla 97 [.t 138,.t 139,.t 140,.t 141,.t 143,.t 144]),x 153 (.calla 97 [.t 146,.t 147,.t 148,.t 149,.t 151,.t 152]),x 154 (.calla 109 [.t 137,.t 145,.t 153]),t 12 7 154] .ret)))))))),[(.c 12 7 true)]⟩
theorem i97 : iF 97 g97 := jF Try.func97 [(6, 8208), (7, 8208), (9, 131088), (11, 35184908967952), (22, 42949804048)]
def g98 : GFun := ⟨⟨15,[1]⟩,(s [a 1 7 0,b 2 false] (s [h 3 7 1,c 4 110 [.t 3,(.k (.val (.int .i64 24)))],q 5 .geq 4 0,m 6 5,y 7 6 (j 7 1),y 8 6 (.call false 111 [.t 7]),y 9 6 (.bin .leq (.t 8) (.k (.val (.int .i64 6)))),x 10 (.pick (.t 6)
 (.t 9) (.k (.val (.bool false)))),m 11 10,y 12 11 (j 7 1),y 13 11 (.call false 112 [.t 12]),x 14 (.pick (.t 11) (.t 13) (.k (.val (.bool false)))),m 2 14] .ret)),[.t 2]⟩
theorem i98 : iF 98 g98 := jF Try.func98
def g99 : GFun := ⟨⟨52,[6,7]⟩,(s [u 6 7] (.seq (s [m 8 2,n 9 8,q 10 .gtr 9 0,m 11 10,y 12 11 (.mov (.t 0)),y 13 11 (.call false 59 [.t 12,(.k (.val (.int .i64 4)))]),y 14 11 (.not (.t 13)),x 15 (.pick (.t 11) (.t 14) (.k (.val
 (.bool false))))] (.cond 15 (s [m 16 2,m 17 0,m 18 2,n 19 18,c 20 76 [.t 17,.t 19],i 21 2 16 20,h 22 2 21,u 7 2,t 7 2 22] (s [f 23 0 7,l 24 23,f 25 1 7,l 26 25,x 27 (.build [(.val (.int .i64 0)),(.val (.int .i64 0)),(.val (.int .i64 0)),
 (.val (.int .i64 0)),(.val (.string (ByteArray.mk #[]))),(.val (.string (ByteArray.mk #[]))),(.val (.slice none 0 0))] [(0,(1,(.k (.val (.int .i64 3))))),(2,(1,(.t 24))),(5,(1,(.t 26)))]),t 6 7 27] .ret)) .skip)) (.seq (s [m 28 1]
 (.block 0 (s [q 30 .eql 28 4,m 29 30] (.cond 29 (.seq (s [m 31 0,c 32 59 [.t 31,(.k (.val (.int .i64 3)))]] (.cond 32 (s [x 33 (.build [(.val (.int .i64 0)),(.val (.int .i64 0)),(.val (.int .i64 0)),(.val (.int .i64 0)),(.val (.string
 (ByteArray.mk #[]))),(.val (.string (ByteArray.mk #[]))),(.val (.slice none 0 0))] [(0,(1,(.k (.val (.int .i64 7)))))]),t 6 7 33] .ret) .skip)) (s [x 34 (.build [(.val (.int .i64 0)),(.val (.int .i64 0)),(.val (.int .i64 0)),(.val
 (.int .i64 0)),(.val (.string (ByteArray.mk #[]))),(.val (.string (ByteArray.mk #[]))),(.val (.slice none 0 0))] [(0,(1,(.k (.val (.int .i64 6)))))]),t 6 7 34] .ret)) (s [q 36 .eql 28 3,m 35 36] (.cond 35 (s [m 37 0,c 38 76 [.t 37,(.k
 (.val (.int .i64 2)))],m 39 1,c 40 113 [.t 38,.t 39],t 6 7 40] .ret) (s [q 42 .eql 28 2,m 41 42] (.cond 41 (s [m 43 0,c 44 76 [.t 43,(.k (.val (.int .i64 12)))],x 45 (.conv .u64 (.t 44)),x 46 (.bin .shl (.k (.val (.int .i64 1))) (.t 45)),
 m 47 1,c 48 113 [.t 46,.t 47],t 6 7 48] .ret) .skip)))))))) (s [m 49 0,c 50 76 [.t 49,(.k (.val (.int .i64 9)))],c 51 113 [.t 50,(.k (.val (.int .i64 1)))],t 6 7 51] .ret)))),[(.c 6 7 true)]⟩
theorem i99 : iF 99 g99 := jF Try.func99
def g100 : GFun := ⟨⟨73,[3,4,9,12]⟩,(s [a 3 2 0,a 4 6 1,x 6 (.mov (.k (.val (.slice none 0 0))))] (s [x 14 (.bslice 2 [] 0 true []),m 7 14] (.seq (s [k 8 0] (B 0 (.seq (s [m 15 8,f 16 2 4,l 17 16,n 18 17,o 19 .leq 15 18] (.cond 19 .skip
 (.exit 0))) (.seq (.block 1 (s [m 25 8,u 9 2,h 23 2 3,h 24 6 4,x 26 (.call true 95 [.t 24,.t 25]),x 27 (.call true 12 [.t 23,.t 26]),m 22 27,v 28 22 0,v 29 22 1,t 9 2 28,m 10 29] (s [k 11 0] (B 2 (.seq (s [m 30 11,f 31 1 9,l 32 31,n 33 32,
 o 34 .lss 30 33] (.cond 34 .skip (.exit 2))) (.seq (.block 3 (s [f 37 1 9,l 38 37,m 39 11,i 40 4 38 39,h 41 4 40,u 12 4,t 12 4 41] (s [m 42 8,q 43 .eql 42 0,m 44 43,y 45 44 (p 1 2 12),y 46 44 (r 1 45),y 47 44 (.bin .eql (.t 46) (.k (.val
 (.int .i64 1)))),x 48 (.pick (.t 44) (.t 47) (.k (.val (.bool false)))),m 49 48,z 50 49 (.mov (.t 8)),z 51 49 (.bin .gtr (.t 50) (.k (.val (.int .i64 0)))),z 52 49 (.mov (.t 51)),y 53 52 (p 1 2 12),y 54 52 (r 1 53),y 55 52 (.bin .eql
 (.t 54) (.k (.val (.int .i64 2)))),z 56 49 (.pick (.t 52) (.t 55) (.k (.val (.bool false)))),x 57 (.pick (.t 49) (.k (.val (.bool true))) (.t 56)),m 13 57] (s [f 58 1 12,l 59 58,m 60 2,o 61 .eql 59 60,m 62 61,y 63 62 (.mov (.t 13)),x 64
 (.pick (.t 62) (.t 63) (.k (.val (.bool false))))] (.cond 64 (.reg [m 65 7,m 66 8,f 67 0 12,l 68 67,x 69 (.build [(.val (.int .i64 0)),(.val (.string (ByteArray.mk #[])))] [(0,(1,(.t 66))),(1,(1,(.t 68)))]),x 70 (.bslice 2 [] 1 true [(0,
 (.t 69))]),x 71 (.append 2 24 (.t 65) (.t 70)),m 7 71]) .skip))))) (.reg [m 35 11,q 36 .add 35 1,m 11 36]))))))) (.reg [m 20 8,q 21 .add 20 1,m 8 21]))))) (s [m 72 7,m 6 72] .ret)))),[.t 6]⟩
theorem i100 : iF 100 g100 := jF Try.func100
def g101 : GFun := ⟨⟨101,[5,8,13,17]⟩,(s [a 5 2 1,u 8 6] (s [h 19 2 5,m 20 2,c 21 11 [.t 19,.t 20],m 9 21] (s [x 22 (.build [(.val (.string (ByteArray.mk #[]))),(.val (.string (ByteArray.mk #[]))),(.val (.slice none 0 0)),(.val
 (.bool false)),(.val (.slice none 0 0)),(.val (.slice none 0 0))] []),x 10 (.alloc 6 (.agg [(.val (.string (ByteArray.mk #[]))),(.val (.string (ByteArray.mk #[]))),(.val (.slice none 0 0)),(.val (.bool false)),(.val (.slice none 0 0)),
 (.val (.slice none 0 0))])),(.mk none none (.store 6 (.t 10) (.t 22)))] (s [h 23 2 5,c 24 34 [.t 23],m 11 24] (.seq (s [k 12 0] (B 0 (.seq (s [m 25 12,m 26 9,n 27 26,o 28 .lss 25 27] (.cond 28 .skip (.exit 0))) (.seq (.block 1 (s [m 33 9,
 m 34 12,i 35 1 33 34,u 13 6,h 32 2 5,l 36 35,x 37 (.call true 46 [.t 32,.t 36]),m 31 37,v 38 31 0,v 39 31 1,t 13 6 38,m 14 39] (s [b 15 true] (.seq (s [k 16 0] (B 2 (.seq (s [m 40 16,f 41 2 13,l 42 41,n 43 42,o 44 .lss 40 43]
 (.cond 44 .skip (.exit 2))) (.seq (.block 3 (.reg [m 47 15,m 48 47,y 49 48 (.mov (.t 11)),y 51 48 (p 1 2 13),y 53 48 (.mov (.t 16)),y 60 48 (.mov (.t 11)),y 62 48 (.mov (.t 2)),y 50 48 (j 2 5),y 52 48 (r 1 51),y 54 48 (.iaddr 1 (.t 52)
 (.t 53)),y 55 48 (r 1 54),y 56 48 (.call true 33 [.t 50,.t 55]),y 57 48 (.call true 89 [(.k (.val (.int .i64 0))),.t 56]),y 58 48 (.iaddr 1 (.t 49) (.t 57)),y 59 48 (r 1 58),y 61 48 (j 2 5),y 63 48 (.call true 33 [.t 61,.t 62]),y 64 48
 (.call true 89 [(.k (.val (.int .i64 0))),.t 63]),y 65 48 (.iaddr 1 (.t 60) (.t 64)),y 66 48 (r 1 65),y 67 48 (.bin .lss (.t 59) (.t 66)),x 68 (.pick (.t 48) (.t 67) (.k (.val (.bool false)))),m 15 68])) (.reg [m 45 16,q 46 .add 45 1,
 m 16 46]))))) (s [m 69 15,m 70 69,y 71 70 (p 1 0 10),y 72 70 (r 1 71),y 73 70 (.bin .eql (.t 72) (.k (.val (.string (ByteArray.mk #[]))))),x 74 (.pick (.t 70) (.t 73) (.k (.val (.bool false))))] (.cond 74 (.reg [h 75 6 13,(.mk none none
 (.store 6 (.t 10) (.t 75)))]) .skip)))))) (.reg [m 29 12,q 30 .add 29 1,m 12 30]))))) (.seq (s [m 76 9,n 77 76,q 78 .eql 77 0,m 79 78,z 80 79 (.mov (.t 3)),z 81 79 (.bin .lss (.t 80) (.k (.val (.int .i64 5)))),x 82 (.pick (.t 79) (.k
 (.val (.bool true))) (.t 81)),m 83 82,z 84 83 (.mov (.t 0)),z 85 83 (.call false 59 [.t 84,(.k (.val (.int .i64 4)))]),x 86 (.pick (.t 83) (.k (.val (.bool true))) (.t 85))] (.cond 86 (s [h 87 6 10,t 8 6 87] .ret) .skip)) (s [m 90 9,
 m 91 0,m 92 9,n 93 92,u 17 6,h 89 2 5,x 94 (.calla 76 [.t 91,.t 93]),i 95 1 90 94,l 96 95,x 97 (.call true 46 [.t 89,.t 96]),m 88 97,v 98 88 0,v 99 88 1,t 17 6 98,m 18 99] (s [h 100 6 17,t 8 6 100] .ret)))))))),[(.c 8 6 true)]⟩
theorem i101 : iF 101 g101 := jF Try.func101 [(17, 2064)]
def g102 : GFun := ⟨⟨96,[4,4037005,5029005]⟩,(s [x 2 (.box 6 (.t 0)),u 4 1] (s [f 12 1 2,(.mk none none (.store 1 (.t 12) (.k (.val (.int .i64 (-1))))))] (s [f 13 2 2,(.mk none none (.store 1 (.t 13) (.k (.val (.int .i64 0)))))] (s [x 14
 (.bslice 1 [] 0 false []),f 15 5 2,(.mk none none (.store 1 (.t 15) (.t 14)))] (s [h 16 6 2,x 17 (.bslice 6 [] 1 true [(0,(.t 16))]),x 18 (.build [(.val (.slice none 0 0))] [(0,(1,(.t 17)))]),x 5 (.alloc 1 (.agg [(.val
 (.slice none 0 0))])),(.mk none none (.store 1 (.t 5) (.t 18)))] (.seq (s [k 6 0] (B 0 (.seq (s [m 19 6,m 20 1,n 21 20,o 22 .lss 19 21] (.cond 22 .skip (.exit 0))) (.seq (.block 1 (s [f 25 0 5,l 26 25,n 27 26,m 7 27] (s [f 28 0 5,f 30 0 5,
 m 35 7,x 29 (.ldx 1 false 28 5),l 31 30,x 32 (.iaddr 6 (.t 31) (.k (.val (.int .i64 0)))),f 33 5 32,l 34 33,x 36 (.bslice 1 [] 1 false [(0,(.t 35))]),x 37 (.appx [5] 1 8 (.t 34) (.t 36)),x 38 (.iaddr 6 (.t 29) (.k (.val (.int .i64 0)))),
 f 39 5 38,(.mk none none (.store 1 (.t 39) (.t 37)))] (s [k 8 0] (B 2 (.seq (s [m 40 8,m 41 1,m 42 6,i 43 1 41 42,f 44 0 43,l 45 44,n 46 45,o 47 .lss 40 46] (.cond 47 .skip (.exit 2))) (.seq (.block 3 (s [m 50 1,m 51 6,i 52 1 50 51,
 f 53 0 52,l 54 53,m 55 8,i 56 6 54 55,h 57 6 56,x 9 (.alloc 6 (.agg [(.val (.int .i64 0)),(.val (.int .i64 0)),(.val (.int .i64 0)),(.val (.int .i64 0)),(.val (.string (ByteArray.mk #[]))),(.val (.slice none 0 0))])),(.mk none none
 (.store 6 (.t 9) (.t 57)))] (s [f 58 1 9,l 59 58,m 60 7,o 61 .add 59 60,f 62 1 9,(.mk none none (.store 1 (.t 62) (.t 61)))] (.seq (s [m 63 8,q 64 .eql 63 0] (.cond 64 (s [f 65 1 9,(.mk none none (.store 1 (.t 65) (.k (.val
 (.int .i64 0)))))] (.reg [m 66 6,q 67 .add 66 1,f 68 2 9,(.mk none none (.store 1 (.t 68) (.t 67)))])) .skip)) (s [x 69 (.bslice 1 [] 0 false []),m 10 69] (.seq (s [k 11 0] (B 4 (.seq (s [m 70 11,f 71 5 9,l 72 71,n 73 72,o 74 .lss 70 73]
 (.cond 74 .skip (.exit 4))) (.seq (.block 5 (.reg [m 77 10,f 78 5 9,l 79 78,m 80 11,i 81 1 79 80,l 82 81,m 83 7,o 84 .add 82 83,x 85 (.bslice 1 [] 1 false [(0,(.t 84))]),x 86 (.append 1 8 (.t 77) (.t 85)),m 10 86])) (.reg [m 75 11,
 q 76 .add 75 1,m 11 76]))))) (s [m 87 10,f 88 5 9,(.mk none none (.store 1 (.t 88) (.t 87)))] (.reg [f 89 0 5,l 90 89,h 91 6 9,x 92 (.bslice 6 [] 1 true [(0,(.t 91))]),x 93 (.append 6 72 (.t 90) (.t 92)),f 94 0 5,(.mk none none (.store 1
 (.t 94) (.t 93)))])))))))) (.reg [m 48 8,q 49 .add 48 1,m 8 49])))))))) (.reg [m 23 6,q 24 .add 23 1,m 6 24]))))) (s [h 95 1 5,t 4 1 95] .ret))))))),[(.c 4 1 true)]⟩
theorem i102 : iF 102 g102 := jF Try.func102
def g103 : GFun := ⟨⟨10,[]⟩,(s [k 4 0] (.seq (s [m 5 0,m 6 1,o 7 .lss 5 6] (.cond 7 (s [m 8 0,m 4 8] .ret) .skip)) (s [m 9 1,m 4 9] .ret))),[.t 4]⟩
theorem i103 : iF 103 g103 := jF Try.func103
def g107 : GFun := ⟨⟨24,[]⟩,(s [k 4 0] (.seq (s [m 5 1] (.block 0 (s [q 7 .eql 5 1,m 6 7] (.cond 6 (s [m 8 0,c 9 116 [.t 8],m 4 9] .ret) (s [q 11 .eql 5 2,m 10 11] (.cond 10 (s [m 12 0,q 13 .and 12 4095,m 4 13] .ret) (s [q 15 .eql 5 3,
 m 14 15] (.cond 14 (s [m 16 0,q 17 .neq 16 0,c 18 117 [.t 17],m 4 18] .ret) (s [q 20 .eql 5 4,m 19 20] (.cond 19 (s [m 21 0,c 22 45 [.t 21,(.k (.val (.int .i64 0))),(.k (.val (.int .i64 999)))]] (.cond 22 (s [m 23 0,
 m 4 23] .ret) .skip)) .skip)))))))))) (s [k 4 0] .ret))),[.t 4]⟩
theorem i107 : iF 107 g107 := jF Try.func107
def g108 : GFun := ⟨⟨24,[]⟩,(s [k 2 0,k 3 0,k 4 0] (.seq (.block 0 (s [m 6 0,c 7 45 [.t 6,(.k (.val (.int .i64 1))),(.k (.val (.int .i64 5)))],m 5 7] (.cond 5 (s [k 2 1,k 3 1,k 4 1] .ret) (s [m 9 0,c 10 45 [.t 9,(.k (.val (.int .i64 6))),
 (.k (.val (.int .i64 8)))],m 8 10] (.cond 8 (s [k 2 2,k 3 2,k 4 2] .ret) (s [m 12 0,q 13 .eql 12 9,m 14 13,z 15 14 (.mov (.t 0)),z 16 14 (.bin .eql (.t 15) (.k (.val (.int .i64 10)))),x 17 (.pick (.t 14) (.k (.val (.bool true))) (.t 16)),
 m 11 17] (.cond 11 (s [k 2 1,k 3 1,k 4 3] .ret) (s [m 19 0,q 20 .eql 19 11,m 18 20] (.cond 18 (s [k 2 2,k 3 1,k 4 3] .ret) (s [m 22 0,q 23 .eql 22 12,m 21 23] (.cond 21 (s [k 2 2,k 3 1,k 4 2] .ret) .skip))))))))))) (s [k 2 0,k 3 0,
 k 4 0] .ret))),[.t 2,.t 3,.t 4]⟩
theorem i108 : iF 108 g108 := jF Try.func108
def g109 : GFun := ⟨⟨12,[4,5,6]⟩,(s [a 4 7 1,a 5 7 2,u 6 7] (s [m 7 0,h 8 7 4,h 9 7 5,x 10 (.bslice 7 [] 2 true [(0,(.t 8)),(1,(.t 9))]),x 11 (.build [(.val (.int .i64 0)),(.val (.int .i64 0)),(.val (.int .i64 0)),(.val (.int .i64 0)),
 (.val (.string (ByteArray.mk #[]))),(.val (.string (ByteArray.mk #[]))),(.val (.slice none 0 0))] [(0,(1,(.k (.val (.int .i64 4))))),(1,(1,(.t 7))),(6,(1,(.t 10)))]),t 6 7 11] .ret)),[(.c 6 7 true)]⟩
theorem i109 : iF 109 g109 := jF Try.func109
def g110 : GFun := ⟨⟨27,[2]⟩,(s [a 2 7 0,k 4 0] (s [m 6 1,q 7 .sub 6 1,m 1 7] (.seq (s [k 5 0] (B 0 (.seq (s [m 8 5,f 9 6 2,l 10 9,n 11 10,o 12 .lss 8 11,m 13 12,y 14 13 (.mov (.t 1)),y 15 13 (.bin .geq (.t 14) (.k (.val (.int .i64 0)))),
 x 16 (.pick (.t 13) (.t 15) (.k (.val (.bool false))))] (.cond 16 .skip (.exit 0))) (.seq (.block 1 (.reg [f 19 6 2,l 20 19,m 21 5,i 22 7 20 21,h 23 7 22,m 24 1,c 25 110 [.t 23,.t 24],m 1 25])) (.reg [m 17 5,q 18 .add 17 1,m 5 18])))))
 (s [m 26 1,m 4 26] .ret)))),[.t 4]⟩
theorem i110 : iF 110 g110 := jF Try.func110
def g111 : GFun := ⟨⟨22,[1]⟩,(s [a 1 7 0,k 2 0] (s [k 3 0] (.seq (s [k 4 0] (B 0 (.seq (s [m 5 4,f 6 6 1,l 7 6,n 8 7,o 9 .lss 5 8] (.cond 9 .skip (.exit 0))) (.seq (.block 1 (.reg [m 12 3,f 13 6 1,l 14 13,m 15 4,i 16 7 14 15,h 17 7 16,
 c 18 111 [.t 17],c 19 89 [.t 12,.t 18],m 3 19])) (.reg [m 10 4,q 11 .add 10 1,m 4 11]))))) (s [m 20 3,q 21 .add 20 1,m 2 21] .ret)))),[.t 2]⟩
theorem i111 : iF 111 g111 := jF Try.func111
def g112 : GFun := ⟨⟨20,[1]⟩,(s [a 1 7 0,b 2 false] (.seq (s [k 3 0] (B 0 (.seq (s [m 4 3,f 5 6 1,l 6 5,n 7 6,o 8 .lss 4 7] (.cond 8 .skip (.exit 0))) (.seq (.block 1 (s [f 11 6 1,l 12 11,m 13 3,i 14 7 12 13,h 15 7 14,c 16 112 [.t 15],
 w 17 16] (.cond 17 (s [b 2 false] .ret) .skip))) (.reg [m 9 3,q 10 .add 9 1,m 3 10]))))) (s [h 18 7 1,c 19 118 [.t 18],m 2 19] .ret))),[.t 2]⟩
theorem i112 : iF 112 g112 := jF Try.func112
def g113 : GFun := ⟨⟨8,[4]⟩,(s [u 4 7] (s [m 5 0,m 6 1,x 7 (.build [(.val (.int .i64 0)),(.val (.int .i64 0)),(.val (.int .i64 0)),(.val (.int .i64 0)),(.val (.string (ByteArray.mk #[]))),(.val (.string (ByteArray.mk #[]))),(.val
 (.slice none 0 0))] [(0,(1,(.k (.val (.int .i64 1))))),(1,(1,(.t 5))),(3,(1,(.t 6)))]),t 4 7 7] .ret)),[(.c 4 7 true)]⟩
theorem i113 : iF 113 g113 := jF Try.func113
def g116 : GFun := ⟨⟨6,[]⟩,(s [k 2 0] (s [m 3 0,c 4 103 [(.k (.val (.int .i64 1000000))),.t 3],c 5 89 [(.k (.val (.int .i64 (-1000000)))),.t 4],m 2 5] .ret)),[.t 2]⟩
theorem i116 : iF 116 g116 := jF Try.func116
def g117 : GFun := ⟨⟨4,[]⟩,(s [k 2 0] (.seq (s [m 3 0] (.cond 3 (s [k 2 1] .ret) .skip)) (s [k 2 0] .ret))),[.t 2]⟩
theorem i117 : iF 117 g117 := jF Try.func117
def g118 : GFun := ⟨⟨61,[1]⟩,(s [a 1 7 0,b 2 false] (.seq (s [f 3 0 1,l 4 3,c 5 45 [.t 4,(.k (.val (.int .i64 1))),(.k (.val (.int .i64 8)))],w 6 5,m 7 6,z 8 7 (j 7 1),z 9 7 (.call false 120 [.t 8]),z 10 7 (.not (.t 9)),x 11 (.pick (.t 7)
 (.k (.val (.bool true))) (.t 10))] (.cond 11 (s [b 2 false] .ret) .skip)) (.seq (s [f 12 0 1,l 13 12] (.block 0 (s [q 15 .eql 13 1,m 14 15] (.cond 14 (s [f 16 3 1,l 17 16,c 18 45 [.t 17,(.k (.val (.int .i64 1))),(.k (.val (.int .i64 3)))],
 m 19 18,y 20 19 (p 1 1 1),y 21 19 (r 1 20),y 22 19 (p 1 3 1),y 23 19 (r 1 22),y 24 19 (.call false 91 [.t 21,.t 23]),x 25 (.pick (.t 19) (.t 24) (.k (.val (.bool false)))),m 26 25,y 27 26 (p 1 1 1),y 28 26 (r 1 27),y 29 26 (.bin .geq
 (.t 28) (.k (.val (.int .i64 0)))),x 30 (.pick (.t 26) (.t 29) (.k (.val (.bool false)))),m 2 30] .ret) (s [q 32 .eql 13 3,m 31 32] (.cond 31 (s [f 33 2 1,l 34 33,c 35 45 [.t 34,(.k (.val (.int .i64 0))),(.k (.val (.int .i64 3)))],m 36 35,
 y 37 36 (p 1 5 1),y 38 36 (r 1 37),y 39 36 (.call false 121 [.t 38]),x 40 (.pick (.t 36) (.t 39) (.k (.val (.bool false)))),m 2 40] .ret) (s [q 42 .eql 13 6,m 41 42] (.cond 41 (s [f 43 2 1,l 44 43,c 45 45 [.t 44,(.k (.val (.int .i64 0))),
 (.k (.val (.int .i64 3)))],m 2 45] .ret) (s [q 47 .eql 13 4,m 46 47] (.cond 46 (s [f 48 1 1,l 49 48,c 50 45 [.t 49,(.k (.val (.int .i64 1))),(.k (.val (.int .i64 12)))],m 2 50] .ret) (s [q 52 .eql 13 8,m 51 52] (.cond 51 (s [f 53 4 1,
 l 54 53,c 55 121 [.t 54],m 56 55,y 57 56 (p 1 5 1),y 58 56 (r 1 57),y 59 56 (.call false 121 [.t 58]),x 60 (.pick (.t 56) (.t 59) (.k (.val (.bool false)))),m 2 60] .ret) .skip)))))))))))) (s [b 2 true] .ret)))),[.t 2]⟩
theorem i118 : iF 118 g118 := jF Try.func118
def g120 : GFun := ⟨⟨86,[1]⟩,(s [a 1 7 0,b 2 false] (s [k 3 0] (.seq (s [f 7 0 1,l 8 7] (.block 0 (s [q 10 .eql 8 4,m 9 10] (.cond 9 (.reg [k 3 2]) (s [q 12 .eql 8 5,m 11 12] (.cond 11 (.reg [k 3 3]) (s [q 14 .eql 8 8,m 13 14] (.cond 13
 (.reg [k 3 1]) .skip)))))))) (.seq (s [f 15 6 1,l 16 15,n 17 16,m 18 3,o 19 .neq 17 18] (.cond 19 (s [b 2 false] .ret) .skip)) (s [f 20 0 1,l 21 20,q 22 .eql 21 3,m 23 22,z 24 23 (p 1 0 1),z 25 23 (r 1 24),z 26 23 (.bin .eql (.t 25) (.k
 (.val (.int .i64 6)))),x 27 (.pick (.t 23) (.k (.val (.bool true))) (.t 26)),m 4 27] (s [f 28 0 1,l 29 28,q 30 .eql 29 3,m 31 30,z 32 31 (p 1 0 1),z 33 31 (r 1 32),z 34 31 (.bin .eql (.t 33) (.k (.val (.int .i64 8)))),x 35 (.pick (.t 31)
 (.k (.val (.bool true))) (.t 34)),m 5 35] (s [f 36 0 1,l 37 36,q 38 .eql 37 1,m 39 38,z 40 39 (p 1 0 1),z 41 39 (r 1 40),z 42 39 (.bin .eql (.t 41) (.k (.val (.int .i64 4)))),x 43 (.pick (.t 39) (.k (.val (.bool true))) (.t 42)),m 6 43]
 (s [m 44 4,m 45 44,z 46 45 (p 1 2 1),z 47 45 (r 1 46),z 48 45 (.bin .eql (.t 47) (.k (.val (.int .i64 0)))),x 49 (.pick (.t 45) (.k (.val (.bool true))) (.t 48)),m 50 49,y 51 50 (.mov (.t 5)),y 52 50 (.mov (.t 51)),z 53 52 (p 1 5 1),
 z 54 52 (r 1 53),z 55 52 (.bin .eql (.t 54) (.k (.val (.string (ByteArray.mk #[]))))),y 56 50 (.pick (.t 52) (.k (.val (.bool true))) (.t 55)),x 57 (.pick (.t 50) (.t 56) (.k (.val (.bool false)))),m 58 57,y 59 58 (.mov (.t 6)),y 60 58
 (.mov (.t 59)),z 61 60 (p 1 1 1),z 62 60 (r 1 61),z 63 60 (.bin .eql (.t 62) (.k (.val (.int .i64 0)))),y 64 58 (.pick (.t 60) (.k (.val (.bool true))) (.t 63)),x 65 (.pick (.t 58) (.t 64) (.k (.val (.bool false)))),m 66 65,y 67 66
 (p 1 0 1),y 68 66 (r 1 67),y 69 66 (.bin .eql (.t 68) (.k (.val (.int .i64 1)))),y 70 66 (.mov (.t 69)),z 71 70 (p 1 3 1),z 72 70 (r 1 71),z 73 70 (.bin .eql (.t 72) (.k (.val (.int .i64 0)))),y 74 66 (.pick (.t 70) (.k (.val
 (.bool true))) (.t 73)),x 75 (.pick (.t 66) (.t 74) (.k (.val (.bool false)))),m 76 75,y 77 76 (p 1 0 1),y 78 76 (r 1 77),y 79 76 (.bin .eql (.t 78) (.k (.val (.int .i64 8)))),y 80 76 (.mov (.t 79)),z 81 80 (p 1 4 1),z 82 80 (r 1 81),
 z 83 80 (.bin .eql (.t 82) (.k (.val (.string (ByteArray.mk #[]))))),y 84 76 (.pick (.t 80) (.k (.val (.bool true))) (.t 83)),x 85 (.pick (.t 76) (.t 84) (.k (.val (.bool false)))),m 2 85] .ret)))))))),[.t 2]⟩
theorem i120 : iF 120 g120 := jF Try.func120
def g121 : GFun := ⟨⟨15,[]⟩,(s [b 2 false] (s [m 3 0,c 4 122 [.t 3],m 5 4,y 6 5 (.mov (.t 0)),y 7 5 (.slen (.t 6)),y 8 5 (.bin .leq (.t 7) (.k (.val (.int .i64 8)))),x 9 (.pick (.t 5) (.t 8) (.k (.val (.bool false)))),m 10 9,y 11 10 (.mov
 (.t 0)),y 12 10 (.call false 123 [.t 11]),y 13 10 (.not (.t 12)),x 14 (.pick (.t 10) (.t 13) (.k (.val (.bool false)))),m 2 14] .ret)),[.t 2]⟩
theorem i121 : iF 121 g121 := jF Try.func121
def g122 : GFun := ⟨⟨45,[]⟩,(s [b 2 false] (.seq (s [k 3 0] (B 0 (.seq (s [m 6 3,m 7 0,x 8 (.slen (.t 7)),o 9 .lss 6 8] (.cond 9 .skip (.exit 0))) (.seq (.block 1 (s [m 12 0,m 13 3,x 14 (.idx (.t 12) (.t 13)),x 15 (.bin .geq (.t 14) (.k
 (.val (.int .u8 97)))),m 16 15,y 17 16 (.mov (.t 0)),y 18 16 (.mov (.t 3)),y 19 16 (.idx (.t 17) (.t 18)),y 20 16 (.bin .leq (.t 19) (.k (.val (.int .u8 122)))),x 21 (.pick (.t 16) (.t 20) (.k (.val (.bool false)))),m 4 21] (s [m 22 0,
 m 23 3,x 24 (.idx (.t 22) (.t 23)),x 25 (.bin .geq (.t 24) (.k (.val (.int .u8 48)))),m 26 25,y 27 26 (.mov (.t 0)),y 28 26 (.mov (.t 3)),y 29 26 (.idx (.t 27) (.t 28)),y 30 26 (.bin .leq (.t 29) (.k (.val (.int .u8 57)))),x 31 (.pick
 (.t 26) (.t 30) (.k (.val (.bool false)))),m 5 31] (s [m 32 4,w 33 32,m 34 33,y 35 34 (.mov (.t 3)),y 36 34 (.bin .eql (.t 35) (.k (.val (.int .i64 0)))),y 37 34 (.mov (.t 36)),z 38 37 (.mov (.t 5)),z 39 37 (.not (.t 38)),y 40 34 (.pick
 (.t 37) (.k (.val (.bool true))) (.t 39)),x 41 (.pick (.t 34) (.t 40) (.k (.val (.bool false))))] (.cond 41 (s [b 2 false] .ret) .skip))))) (.reg [m 10 3,q 11 .add 10 1,m 3 11]))))) (s [m 42 0,x 43 (.slen (.t 42)),q 44 .gtr 43 0,
 m 2 44] .ret))),[.t 2]⟩
theorem i122 : iF 122 g122 := jF Try.func122
def g123 : GFun := ⟨⟨6,[]⟩,(s [b 2 false] (s [c 3 125 [],m 4 0,c 5 124 [.t 3,.t 4],m 2 5] .ret)),[.t 2]⟩
theorem i123 : iF 123 g123 := jF Try.func123
def g124 : GFun := ⟨⟨18,[]⟩,(s [b 4 false] (.seq (s [k 5 0] (B 0 (.seq (s [m 6 5,m 7 0,n 8 7,o 9 .lss 6 8] (.cond 9 .skip (.exit 0))) (.seq (.block 1 (s [m 12 0,m 13 5,i 14 1 12 13,l 15 14,m 16 1,o 17 .eql 15 16] (.cond 17
 (s [b 4 true] .ret) .skip))) (.reg [m 10 5,q 11 .add 10 1,m 5 11]))))) (s [b 4 false] .ret))),[.t 4]⟩
theorem i124 : iF 124 g124 := jF Try.func124
def g125 : GFun := ⟨⟨2,[]⟩,(s [x 0 (.mov (.k (.val (.slice none 0 0))))] (s [x 1 (.bslice 1 [] 13 false [(0,(.k (.val (.string (ByteArray.mk #[105,102]))))),(1,(.k (.val (.string (ByteArray.mk #[116,104,101,110]))))),(2,(.k (.val (.string
 (ByteArray.mk #[101,108,115,101]))))),(3,(.k (.val (.string (ByteArray.mk #[116,114,117,101]))))),(4,(.k (.val (.string (ByteArray.mk #[102,97,108,115,101]))))),(5,(.k (.val (.string (ByteArray.mk #[108,105,116]))))),(6,(.k (.val
 (.string (ByteArray.mk #[110,111,110,101]))))),(7,(.k (.val (.string (ByteArray.mk #[115,101,108,102]))))),(8,(.k (.val (.string (ByteArray.mk #[111,102]))))),(9,(.k (.val (.string (ByteArray.mk #[109,97,120]))))),(10,(.k (.val (.string
 (ByteArray.mk #[109,105,110]))))),(11,(.k (.val (.string (ByteArray.mk #[119,105,116,104]))))),(12,(.k (.val (.string (ByteArray.mk #[104,97,115])))))]),m 0 1] .ret)),[.t 0]⟩
theorem i125 : iF 125 g125 := jF Try.func125
end Go.Proofs.Ytfpjmfjhdaccnaa
namespace Go.Proofs.Ytfpjmfjhdaccnaa
open Go.Gh
open Nat (reduceEqDiff reduceLeDiff reduceAdd reduceLT)
open Int (reduceNe)
set_option maxRecDepth 20000
set_option linter.unusedSimpArgs false
set_option linter.unusedVariables false
theorem mxd : Try.prog.follows .mixedOrders = true := Checked.mixed Try.checked
theorem w45 (x lo hi : Int) : Pu 45 [I x, I lo, I hi] (· = B (decide (lo ≤ x ∧ x ≤ hi))) := by
 refine gstart mxd i45 rfl (by simp) ?_; simp (maxSteps := 9^7) only [↓ S2, S2, vIte, ↓reduceIte, reduceNe, reduceEqDiff, reduceCtorEq, reduceLeDiff, reduceAdd, reduceLT]
 ((try refine qI ?_); (repeat ((first | with_reducible refine qU ?_ | simp only [brGen]); try simp (maxSteps := 9^7) only [↓ S2, S2, vIte, ↓reduceIte, reduceNe, reduceEqDiff, reduceCtorEq, reduceLeDiff, reduceAdd, reduceLT])); (try simp +contextual (disch := omega) only [Z2]); (with_reducible repeat' (first | intro h | refine And.intro (by omega) ?_ | refine exP (by omega) ?_ | apply And.intro))) <;> simp [*]
theorem w54 (x lo hi : Int) : Pu 54 [I x, I lo, I hi] (· = B (decide (lo ≤ x ∧ x ≤ hi))) := by
 refine gstart mxd i54 rfl (by simp) ?_; simp (maxSteps := 9^7) only [↓ S2, S2, vIte, ↓reduceIte, reduceNe, reduceEqDiff, reduceCtorEq, reduceLeDiff, reduceAdd, reduceLT]
 ((try refine qI ?_); (repeat ((first | with_reducible refine qU ?_ | simp only [brGen]); try simp (maxSteps := 9^7) only [↓ S2, S2, vIte, ↓reduceIte, reduceNe, reduceEqDiff, reduceCtorEq, reduceLeDiff, reduceAdd, reduceLT])); (try simp +contextual (disch := omega) only [Z2]); (with_reducible repeat' (first | intro h | refine And.intro (by omega) ?_ | refine exP (by omega) ?_ | apply And.intro))) <;> simp [*]
end Go.Proofs.Ytfpjmfjhdaccnaa
namespace Go.Proofs.Ytfpjmfjhdaccnaa
open Go.Gh
open Nat (reduceEqDiff reduceLeDiff reduceAdd reduceLT)
open Int (reduceNe)
set_option maxRecDepth 20000
set_option linter.unusedSimpArgs false
set_option linter.unusedVariables false
end Go.Proofs.Ytfpjmfjhdaccnaa
namespace Go.Proofs.Ytfpjmfjhdaccnaa
open Go.Gh
open Nat (reduceEqDiff reduceLeDiff reduceAdd reduceLT)
open Int (reduceNe)
set_option maxRecDepth 20000
set_option linter.unusedSimpArgs false
set_option linter.unusedVariables false
end Go.Proofs.Ytfpjmfjhdaccnaa
namespace Go.Proofs.Ytfpjmfjhdaccnaa
open Go.Gh
open Nat (reduceEqDiff reduceLeDiff reduceAdd reduceLT)
open Int (reduceNe)
set_option maxRecDepth 20000
set_option linter.unusedSimpArgs false
set_option linter.unusedVariables false
theorem w26 (t : List Nod) (i : Int) : Pu 26 [Tr t, I i] (· = I (treeSize t i)) := by
 refine GCalls.lenA fun hl => ?_
 obtain ⟨hlen, _⟩ := lenTr hl.1
 refine gstart mxd i26 rfl (by simp) ?_; simp (maxSteps := 9^7) only [↓ S2, S2, vIte, ↓reduceIte, reduceNe, reduceEqDiff, reduceCtorEq, reduceLeDiff, reduceAdd, reduceLT]
 refine callS.eq (w45 _ _ _) ?_
 ((try refine qI ?_); (repeat ((first | with_reducible refine qU ?_ | simp only [brGen]); try simp (maxSteps := 9^7) only [↓ S2, S2, vIte, ↓reduceIte, reduceNe, reduceEqDiff, reduceCtorEq, reduceLeDiff, reduceAdd, reduceLT])); (try simp +contextual (disch := omega) only [Z2]); (with_reducible repeat' (first | intro h | refine And.intro (by omega) ?_ | refine exP (by omega) ?_ | apply And.intro)))
 rotate_left
 ·simp [treeSize]; omega
 obtain ⟨i, rfl⟩ : ∃ k : Nat, i = k := ⟨i.toNat, by omega⟩
 have hi : i < t.length := by omega
 have hs : treeSize t i = subLen t i := by simp [treeSize, hi]
 refine wloop mxd (ι := { k : Nat // i < k ∧ k ≤ t.length ∧ ∀ j (h : j < t.length), i < j → j < k → (i : Int) ≤ t[j].parent }) (fun k => [(2, .rop 1 (Tr t)), (1, I i), (5, I k.1)]) (fun _ => []) (fun k => t.length - k.1) ⟨i + 1, by omega, by omega, fun j h h1 h2 => by omega⟩ (by simp [E2]) rfl ?_
 rintro ⟨k, hk, hkl, ha⟩
 ((try refine qI ?_); (repeat ((first | with_reducible refine qU ?_ | simp only [brGen]); try simp (maxSteps := 9^7) only [↓ S2, S2, vIte, ↓reduceIte, reduceNe, reduceEqDiff, reduceCtorEq, reduceLeDiff, reduceAdd, reduceLT])); (try simp +contextual (disch := omega) only [Z2]); (with_reducible repeat' (first | intro h | refine And.intro (by omega) ?_ | refine exP (by omega) ?_ | apply And.intro)))
 ·refine nx ⟨k + 1, by omega, by omega, fun j hj h1 h2 => ?_⟩ (by simp; omega) (by simp [E2]) rfl
  rcases nL j k with h3 | h3
  ·exact ha j hj h1 h3
  ·have : j = k := by omega
   subst this; exact h
 ·rw [hs, subLen_eq hk hkl ha (fun _ => h)]
  congr 2; omega
 ·rw [hs, subLen_eq hk hkl ha (fun h' => absurd h' h)]
  congr 2; omega
theorem w41 (t : List Nod) (i : Int) : Pu 41 [Tr t, I i] (· = B (decide (0 ≤ i ∧ i < t.length))) := by
 refine GCalls.lenA fun hl => ?_
 obtain ⟨hlen, _⟩ := lenTr hl.1
 refine gstart mxd i41 rfl (by simp) ?_; simp (maxSteps := 9^7) only [↓ S2, S2, vIte, ↓reduceIte, reduceNe, reduceEqDiff, reduceCtorEq, reduceLeDiff, reduceAdd, reduceLT]
 refine callS.eq (w54 _ _ _) ?_
 ((try refine qI ?_); (repeat ((first | with_reducible refine qU ?_ | simp only [brGen]); try simp (maxSteps := 9^7) only [↓ S2, S2, vIte, ↓reduceIte, reduceNe, reduceEqDiff, reduceCtorEq, reduceLeDiff, reduceAdd, reduceLT])); (try simp +contextual (disch := omega) only [Z2]); (with_reducible repeat' (first | intro h | refine And.intro (by omega) ?_ | refine exP (by omega) ?_ | apply And.intro)))
 exact bEq (by omega)
theorem w18 (t : List Nod) (i : Int) : Pu 18 [Tr t, I i] (· = I (treeSize t i)) := by
 refine GCalls.lenA fun hl => ?_
 obtain ⟨hlen, _⟩ := lenTr hl.1
 refine gstart mxd i18 rfl (by simp) ?_; simp (maxSteps := 9^7) only [↓ S2, S2, vIte, ↓reduceIte, reduceNe, reduceEqDiff, reduceCtorEq, reduceLeDiff, reduceAdd, reduceLT]
 refine callS.eq (w41 _ _) ?_
 ((try refine qI ?_); (repeat ((first | with_reducible refine qU ?_ | simp only [brGen]); try simp (maxSteps := 9^7) only [↓ S2, S2, vIte, ↓reduceIte, reduceNe, reduceEqDiff, reduceCtorEq, reduceLeDiff, reduceAdd, reduceLT])); (try simp +contextual (disch := omega) only [Z2]); (with_reducible repeat' (first | intro h | refine And.intro (by omega) ?_ | refine exP (by omega) ?_ | apply And.intro)))
 rotate_left
 ·simp [treeSize]; omega
 obtain ⟨i, rfl⟩ : ∃ k : Nat, i = k := ⟨i.toNat, by omega⟩
 have hi : i < t.length := by omega
 have hs : treeSize t i = subLen t i := by simp [treeSize, hi]
 refine wloop mxd (ι := { k : Nat // i < k ∧ k ≤ t.length ∧ ∀ j (h : j < t.length), i < j → j < k → (i : Int) ≤ t[j].parent }) (fun k => [(2, .rop 1 (Tr t)), (1, I i), (5, I k.1)]) (fun _ => []) (fun k => t.length - k.1) ⟨i + 1, by omega, by omega, fun j h h1 h2 => by omega⟩ (by simp [E2]) rfl ?_
 rintro ⟨k, hk, hkl, ha⟩
 ((try refine qI ?_); (repeat ((first | with_reducible refine qU ?_ | simp only [brGen]); try simp (maxSteps := 9^7) only [↓ S2, S2, vIte, ↓reduceIte, reduceNe, reduceEqDiff, reduceCtorEq, reduceLeDiff, reduceAdd, reduceLT])); (try simp +contextual (disch := omega) only [Z2]); (with_reducible repeat' (first | intro h | refine And.intro (by omega) ?_ | refine exP (by omega) ?_ | apply And.intro)))
 ·refine nx ⟨k + 1, by omega, by omega, fun j hj h1 h2 => ?_⟩ (by simp; omega) (by simp [E2]) rfl
  rcases nL j k with h3 | h3
  ·exact ha j hj h1 h3
  ·have : j = k := by omega
   subst this; exact h
 ·rw [hs, subLen_eq hk hkl ha (fun _ => h)]
  congr 2; omega
 ·rw [hs, subLen_eq hk hkl ha (fun h' => absurd h' h)]
  congr 2; omega
theorem w89 (x y : Int) : Pu 89 [I x, I y] (· = I (max x y)) := by
 refine gstart mxd i89 rfl (by simp) ?_; simp (maxSteps := 9^7) only [↓ S2, S2, vIte, ↓reduceIte, reduceNe, reduceEqDiff, reduceCtorEq, reduceLeDiff, reduceAdd, reduceLT]
 ((try refine qI ?_); (repeat ((first | with_reducible refine qU ?_ | simp only [brGen]); try simp (maxSteps := 9^7) only [↓ S2, S2, vIte, ↓reduceIte, reduceNe, reduceEqDiff, reduceCtorEq, reduceLeDiff, reduceAdd, reduceLT])); (try simp +contextual (disch := omega) only [Z2]); (with_reducible repeat' (first | intro h | refine And.intro (by omega) ?_ | refine exP (by omega) ?_ | apply And.intro))) <;> simp <;> omega
theorem w117 (b : Bool) : Pu 117 [B b] (· = I (trV b)) := by
 refine gstart mxd i117 rfl (by simp) ?_; simp (maxSteps := 9^7) only [↓ S2, S2, vIte, ↓reduceIte, reduceNe, reduceEqDiff, reduceCtorEq, reduceLeDiff, reduceAdd, reduceLT]
 ((try refine qI ?_); (repeat ((first | with_reducible refine qU ?_ | simp only [brGen]); try simp (maxSteps := 9^7) only [↓ S2, S2, vIte, ↓reduceIte, reduceNe, reduceEqDiff, reduceCtorEq, reduceLeDiff, reduceAdd, reduceLT])); (try simp +contextual (disch := omega) only [Z2]); (with_reducible repeat' (first | intro h | refine And.intro (by omega) ?_ | refine exP (by omega) ?_ | apply And.intro))) <;> simp_all [trV]
theorem w103 (a b : Int) : Pu 103 [I a, I b] (· = I (min a b)) := by
 refine gstart mxd i103 rfl (by simp) ?_; simp (maxSteps := 9^7) only [↓ S2, S2, vIte, ↓reduceIte, reduceNe, reduceEqDiff, reduceCtorEq, reduceLeDiff, reduceAdd, reduceLT]
 ((try refine qI ?_); (repeat ((first | with_reducible refine qU ?_ | simp only [brGen]); try simp (maxSteps := 9^7) only [↓ S2, S2, vIte, ↓reduceIte, reduceNe, reduceEqDiff, reduceCtorEq, reduceLeDiff, reduceAdd, reduceLT])); (try simp +contextual (disch := omega) only [Z2]); (with_reducible repeat' (first | intro h | refine And.intro (by omega) ?_ | refine exP (by omega) ?_ | apply And.intro))) <;> (congr 2; omega)
theorem w116 (n : Int) : Pu 116 [I n] (· = I (satV n)) := by
 refine gstart mxd i116 rfl (by simp) ?_; simp (maxSteps := 9^7) only [↓ S2, S2, vIte, ↓reduceIte, reduceNe, reduceEqDiff, reduceCtorEq, reduceLeDiff, reduceAdd, reduceLT]
 refine callS.eq (w103 _ _) ?_
 ((try refine qI ?_); (repeat ((first | with_reducible refine qU ?_ | simp only [brGen]); try simp (maxSteps := 9^7) only [↓ S2, S2, vIte, ↓reduceIte, reduceNe, reduceEqDiff, reduceCtorEq, reduceLeDiff, reduceAdd, reduceLT])); (try simp +contextual (disch := omega) only [Z2]); (with_reducible repeat' (first | intro h | refine And.intro (by omega) ?_ | refine exP (by omega) ?_ | apply And.intro)))
 refine callS.eq (w89 _ _) ?_
 ((try refine qI ?_); (repeat ((first | with_reducible refine qU ?_ | simp only [brGen]); try simp (maxSteps := 9^7) only [↓ S2, S2, vIte, ↓reduceIte, reduceNe, reduceEqDiff, reduceCtorEq, reduceLeDiff, reduceAdd, reduceLT])); (try simp +contextual (disch := omega) only [Z2]); (with_reducible repeat' (first | intro h | refine And.intro (by omega) ?_ | refine exP (by omega) ?_ | apply And.intro))) <;> rfl
theorem w107 (v k : Int) : Pu 107 [I v, I k] (· = I (coV v k)) := by
 refine gstart mxd i107 rfl (by simp) ?_; simp (maxSteps := 9^7) only [↓ S2, S2, vIte, ↓reduceIte, reduceNe, reduceEqDiff, reduceCtorEq, reduceLeDiff, reduceAdd, reduceLT]
 ((try refine qI ?_); (repeat ((first | with_reducible refine qU ?_ | simp only [brGen]); try simp (maxSteps := 9^7) only [↓ S2, S2, vIte, ↓reduceIte, reduceNe, reduceEqDiff, reduceCtorEq, reduceLeDiff, reduceAdd, reduceLT])); (try simp +contextual (disch := omega) only [Z2]); (with_reducible repeat' (first | intro h | refine And.intro (by omega) ?_ | refine exP (by omega) ?_ | apply And.intro)))
 ·refine callS.eq (w116 _) ?_
  ((try refine qI ?_); (repeat ((first | with_reducible refine qU ?_ | simp only [brGen]); try simp (maxSteps := 9^7) only [↓ S2, S2, vIte, ↓reduceIte, reduceNe, reduceEqDiff, reduceCtorEq, reduceLeDiff, reduceAdd, reduceLT])); (try simp +contextual (disch := omega) only [Z2]); (with_reducible repeat' (first | intro h | refine And.intro (by omega) ?_ | refine exP (by omega) ?_ | apply And.intro))) <;> simp_all [coV]
 ·simp_all [coV]
 ·refine callS.eq (w117 _) ?_
  ((try refine qI ?_); (repeat ((first | with_reducible refine qU ?_ | simp only [brGen]); try simp (maxSteps := 9^7) only [↓ S2, S2, vIte, ↓reduceIte, reduceNe, reduceEqDiff, reduceCtorEq, reduceLeDiff, reduceAdd, reduceLT])); (try simp +contextual (disch := omega) only [Z2]); (with_reducible repeat' (first | intro h | refine And.intro (by omega) ?_ | refine exP (by omega) ?_ | apply And.intro))) <;> simp_all [coV]
 ·refine callS.eq (w45 _ _ _) ?_
  ((try refine qI ?_); (repeat ((first | with_reducible refine qU ?_ | simp only [brGen]); try simp (maxSteps := 9^7) only [↓ S2, S2, vIte, ↓reduceIte, reduceNe, reduceEqDiff, reduceCtorEq, reduceLeDiff, reduceAdd, reduceLT])); (try simp +contextual (disch := omega) only [Z2]); (with_reducible repeat' (first | intro h | refine And.intro (by omega) ?_ | refine exP (by omega) ?_ | apply And.intro))) <;> simp_all [coV] <;> (intros; omega)
 ·simp_all [coV]
theorem w108 (op : Int) : Pu 108 [I op] (· = opG op) := by
 refine gstart mxd i108 rfl (by simp) ?_; simp (maxSteps := 9^7) only [↓ S2, S2, vIte, ↓reduceIte, reduceNe, reduceEqDiff, reduceCtorEq, reduceLeDiff, reduceAdd, reduceLT]
 refine callS.eq (w45 _ _ _) ?_
 ((try refine qI ?_); (repeat ((first | with_reducible refine qU ?_ | simp only [brGen]); try simp (maxSteps := 9^7) only [↓ S2, S2, vIte, ↓reduceIte, reduceNe, reduceEqDiff, reduceCtorEq, reduceLeDiff, reduceAdd, reduceLT])); (try simp +contextual (disch := omega) only [Z2]); (with_reducible repeat' (first | intro h | refine And.intro (by omega) ?_ | refine exP (by omega) ?_ | apply And.intro)))
 ·simp only [opG, opT, if_pos h]
 refine callS.eq (w45 _ _ _) ?_
 ((try refine qI ?_); (repeat ((first | with_reducible refine qU ?_ | simp only [brGen]); try simp (maxSteps := 9^7) only [↓ S2, S2, vIte, ↓reduceIte, reduceNe, reduceEqDiff, reduceCtorEq, reduceLeDiff, reduceAdd, reduceLT])); (try simp +contextual (disch := omega) only [Z2]); (with_reducible repeat' (first | intro h | refine And.intro (by omega) ?_ | refine exP (by omega) ?_ | apply And.intro)))
 all_goals first | (simp only [opG, opT]; rw [if_neg (by assumption), if_pos (by assumption)]; done) | (subst op; rfl) | (rw [opG0 (by omega)]; done) | (simp_all [opG, opT]; done) | skip
theorem w91 (v k : Int) : Pu 91 [I v, I k] (· = B (okV v k)) := by
 refine gstart mxd i91 rfl (by simp) ?_; simp (maxSteps := 9^7) only [↓ S2, S2, vIte, ↓reduceIte, reduceNe, reduceEqDiff, reduceCtorEq, reduceLeDiff, reduceAdd, reduceLT]
 refine callS.eq (w45 _ _ _) ?_
 ((try refine qI ?_); (repeat ((first | with_reducible refine qU ?_ | simp only [brGen]); try simp (maxSteps := 9^7) only [↓ S2, S2, vIte, ↓reduceIte, reduceNe, reduceEqDiff, reduceCtorEq, reduceLeDiff, reduceAdd, reduceLT])); (try simp +contextual (disch := omega) only [Z2]); (with_reducible repeat' (first | intro h | refine And.intro (by omega) ?_ | refine exP (by omega) ?_ | apply And.intro)))
 ·refine callS.eq (w107 _ _) ?_
  ((try refine qI ?_); (repeat ((first | with_reducible refine qU ?_ | simp only [brGen]); try simp (maxSteps := 9^7) only [↓ S2, S2, vIte, ↓reduceIte, reduceNe, reduceEqDiff, reduceCtorEq, reduceLeDiff, reduceAdd, reduceLT])); (try simp +contextual (disch := omega) only [Z2]); (with_reducible repeat' (first | intro h | refine And.intro (by omega) ?_ | refine exP (by omega) ?_ | apply And.intro))) <;> simp_all [okV]
 ·simp_all [okV] <;> (intros; omega)
end Go.Proofs.Ytfpjmfjhdaccnaa
namespace Go.Proofs.Ytfpjmfjhdaccnaa
open Go.Gh
open Nat (reduceEqDiff reduceLeDiff reduceAdd reduceLT)
open Int (reduceNe)
set_option maxRecDepth 20000
set_option linter.unusedSimpArgs false
set_option linter.unusedVariables false
theorem w111 : ∀ (e : Exp), wEx e ≤ 1048576 → Pu 111 [Ex e] (· = I (dpE e)) := by
 refine Exp.indA fun e ih hw => ?_
 obtain ⟨hl, ha⟩ := args_small hw
 have hc := cntE_le e
 have he := cntE_eq e
 have hd := dpE_eq e
 have hq := sumL_le (l := e.args) fun a _ => dpE_le a
 rw [Ex_eq]
 refine gstart mxd i111 rfl (by simp) ?_; simp (maxSteps := 9^7) only [↓ S2, S2, vIte, ↓reduceIte, reduceNe, reduceEqDiff, reduceCtorEq, reduceLeDiff, reduceAdd, reduceLT]
 refine wloop mxd (ι := { i : Nat // i ≤ e.args.length }) (fun i => [(1, .rop 7 (.agg [I e.kind, I e.n, I e.pos, I e.type, T e.sym, T e.name, ExS e.args])), (3, I (mxL ((e.args.take i.1).map dpE))), (4, I i.1)]) (fun i => []) (fun i => e.args.length - i.1) ⟨0, by simp⟩ (by simp [E2, mxL]) (by simp) ?_
 rintro ⟨i, hi⟩
 have h1 := mxT_le dpE e.args i
 ((try refine qI ?_); (repeat ((first | with_reducible refine qU ?_ | simp only [brGen]); try simp (maxSteps := 9^7) only [↓ S2, S2, vIte, ↓reduceIte, reduceNe, reduceEqDiff, reduceCtorEq, reduceLeDiff, reduceAdd, reduceLT, isAgg_Ex, geR_Ex, gsize_Ex, stor_Ex])); (try simp +contextual (disch := omega) only [Z2, isAgg_Ex, geR_Ex, gsize_Ex, stor_Ex]); (with_reducible repeat' (first | intro h | refine And.intro (by omega) ?_ | refine exP (by omega) ?_ | apply And.intro)))
 ·have h2 := mxT dpE e.args i (by omega)
  refine callS.eq (ih _ (gM _) (ha _ (gM _))) ?_
  ((try refine qI ?_); (repeat ((first | with_reducible refine qU ?_ | simp only [brGen]); try simp (maxSteps := 9^7) only [↓ S2, S2, vIte, ↓reduceIte, reduceNe, reduceEqDiff, reduceCtorEq, reduceLeDiff, reduceAdd, reduceLT])); (try simp +contextual (disch := omega) only [Z2]); (with_reducible repeat' (first | intro h | refine And.intro (by omega) ?_ | refine exP (by omega) ?_ | apply And.intro)))
  refine callS.eq (w89 _ _) ?_
  ((try refine qI ?_); (repeat ((first | with_reducible refine qU ?_ | simp only [brGen]); try simp (maxSteps := 9^7) only [↓ S2, S2, vIte, ↓reduceIte, reduceNe, reduceEqDiff, reduceCtorEq, reduceLeDiff, reduceAdd, reduceLT])); (try simp +contextual (disch := omega) only [Z2]); (with_reducible repeat' (first | intro h | refine And.intro (by omega) ?_ | refine exP (by omega) ?_ | apply And.intro)))
  refine nx ⟨i + 1, by omega⟩ (by simp; omega) ?_ (by simp)
  simp [E2, h2, -List.map_take]
  try (first | omega | (split <;> omega))
 ·have : i = e.args.length := by omega
  subst this
  simp [hd]
  try omega
theorem w110 : ∀ (e : Exp), wEx e ≤ 1048576 → ∀ left : Int, 0 ≤ left → left ≤ 1048576 → Pu 110 [Ex e, I left] (· = I (max (left - cntE e) (-1))) := by
 refine Exp.indA fun e ih hw left l0 l1 => ?_
 obtain ⟨hl, ha⟩ := args_small hw
 have hc := cntE_le e
 have he := cntE_eq e
 rw [Ex_eq]
 refine gstart mxd i110 rfl (by simp) ?_; simp (maxSteps := 9^7) only [↓ S2, S2, vIte, ↓reduceIte, reduceNe, reduceEqDiff, reduceCtorEq, reduceLeDiff, reduceAdd, reduceLT]
 simp +contextual (disch := omega) only [Z2]
 refine wloop mxd (ι := { i : Nat // i ≤ e.args.length }) (fun i => [(2, .rop 7 (.agg [I e.kind, I e.n, I e.pos, I e.type, T e.sym, T e.name, ExS e.args])), (1, I (max (left - 1 - ((e.args.take i.1).map cntE).sum) (-1))), (5, I i.1)]) (fun i => []) (fun i => e.args.length - i.1) ⟨0, by simp⟩ (by simp [E2]; try omega) (by simp) ?_
 rintro ⟨i, hi⟩
 have h1 := sumT_le cntE e.args i
 generalize hs : ((e.args.take i).map cntE).sum = s at *
 ((try refine qI ?_); (repeat ((first | with_reducible refine qU ?_ | simp only [brGen]); try simp (maxSteps := 9^7) only [↓ S2, S2, vIte, ↓reduceIte, reduceNe, reduceEqDiff, reduceCtorEq, reduceLeDiff, reduceAdd, reduceLT, isAgg_Ex, geR_Ex, gsize_Ex, stor_Ex])); (try simp +contextual (disch := omega) only [Z2, isAgg_Ex, geR_Ex, gsize_Ex, stor_Ex]); (with_reducible repeat' (first | intro h | refine And.intro (by omega) ?_ | refine exP (by omega) ?_ | apply And.intro)))
 ·have h2 := sumT cntE e.args i (by omega)
  refine callS.eq (ih _ (gM _) (ha _ (gM _)) _ (by omega) (by omega)) ?_
  ((try refine qI ?_); (repeat ((first | with_reducible refine qU ?_ | simp only [brGen]); try simp (maxSteps := 9^7) only [↓ S2, S2, vIte, ↓reduceIte, reduceNe, reduceEqDiff, reduceCtorEq, reduceLeDiff, reduceAdd, reduceLT])); (try simp +contextual (disch := omega) only [Z2]); (with_reducible repeat' (first | intro h | refine And.intro (by omega) ?_ | refine exP (by omega) ?_ | apply And.intro)))
  refine nx ⟨i + 1, by omega⟩ (by simp; omega) ?_ (by simp)
  simp [E2, h2, hs, -List.map_take]
  try omega
 all_goals first | (congr 2; omega) | (rw [tL (by omega)] at hs; congr 2; omega)
end Go.Proofs.Ytfpjmfjhdaccnaa
