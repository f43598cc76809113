/- The law FnHeights returns true whatever the input, and the input reads behind the call as before. No condition. -/
import Derived.Test.YtkmedfejmndmjaaLibH3
import Derived.Shelf.SlSortCmp.NoneTotal
import Derived.Laws.Cover1
import Derived.Deep.RegionHeld3
import Derived.Shelf.SlGeneric
import Derived.KernelRfl
import Derived.Test.YtkmedfejmndmjaaRows
import Derived.Test.YtkmedfejmndmjaaChecked
set_option linter.unusedSimpArgs false
set_option linter.unusedVariables false
/- The program's data as plain data, and their ghosts. -/
namespace Go.Gh
set_option linter.unusedSimpArgs false
set_option linter.unusedVariables false
abbrev T (s : ByteArray) : GV := .val (.string s)
theorem chars_inj {s t : ByteArray} : chars s = chars t ↔ s = t := by
  constructor
  · intro h; obtain ⟨a⟩ := s; obtain ⟨b⟩ := t; simp only [chars] at h; congr 1; exact Array.ext' h
  · rintro rfl; rfl
@[ext] structure Nod where
  id : Int
  parent : Int
  place : Int
  lit : Int
  rule : ByteArray
  kids : List Int
deriving DecidableEq
@[ext] structure Slo where
  pos : Int
  name : ByteArray
  val : Int
deriving DecidableEq
abbrev Occ (x : Int × ByteArray) : GV := .agg [I x.1, T x.2]
theorem e_nil (e : Env) : subE e [] = True := (rfl)
theorem e_cons (e : Env) (j : Nat) (g : GV) (r : Env) : subE e ((j, g) :: r) = (eget e j = some g ∧ subE e r) := (rfl)
theorem n_val (v : Value) : nraw (.val v) = true := (rfl)
theorem n_sl (sz : Nat) (es : List GV) : nraw (.sl sz es) = true := (rfl)
theorem n_agg (cs : List GV) : nraw (.agg cs) = true := (rfl)
theorem n_rop (sz : Nat) (g : GV) : nraw (.rop sz g) = true := (rfl)
theorem n_ptr (r sz i o : Nat) : nraw (.ptr r sz i o) = true := (rfl)
theorem n_own (r sz k n : Nat) : nraw (.own r sz k n) = true := (rfl)
theorem n_clo (f : Nat) (cs : List GV) : nraw (.clo f cs) = true := (rfl)
theorem n_tup (cs : List GV) : nraw (.tup cs) = true := (rfl)
theorem E2 : type_of% (And.intro @e_nil (And.intro @e_cons (And.intro @n_val (And.intro @n_sl (And.intro @n_agg (And.intro @n_rop (And.intro @n_ptr (And.intro @n_own (And.intro @n_clo (And.intro @n_tup (And.intro @x_get @Option.some.injEq.{0}))))))))))) :=
  And.intro @e_nil (And.intro @e_cons (And.intro @n_val (And.intro @n_sl (And.intro @n_agg (And.intro @n_rop (And.intro @n_ptr (And.intro @n_own (And.intro @n_clo (And.intro @n_tup (And.intro @x_get @Option.some.injEq.{0}))))))))))
theorem maxLv : maxL = 9223372036854775807 := (rfl)
theorem Z2 : type_of% (And.intro @Int.ofNat_lt (And.intro @Int.natCast_nonneg (And.intro @true_and (And.intro @u_ext (And.intro @exists_prop_of_true (And.intro @Int.natCast_zero (And.intro @chars_inj (And.intro @Int.natCast_inj (And.intro maxLv (And.intro @not_true_eq_false (And.intro @false_implies (And.intro @true_implies (And.intro @and_true (And.intro @implies_true.{0} @wrap64)))))))))))))) :=
  And.intro @Int.ofNat_lt (And.intro @Int.natCast_nonneg (And.intro @true_and (And.intro @u_ext (And.intro @exists_prop_of_true (And.intro @Int.natCast_zero (And.intro @chars_inj (And.intro @Int.natCast_inj (And.intro maxLv (And.intro @not_true_eq_false (And.intro @false_implies (And.intro @true_implies (And.intro @and_true (And.intro @implies_true.{0} @wrap64)))))))))))))
end Go.Gh

/- What the program computes, in plain words: trees. -/
namespace Go.Gh
set_option linter.unusedSimpArgs false
set_option linter.unusedVariables false
end Go.Gh
namespace Go.Gh
end Go.Gh
namespace Go.Gh
theorem sum_mem {α : Type} (f : α → Nat) : ∀ (l : List α) (x : α), x ∈ l → f x ≤ (l.map f).sum
  | y :: l, x, h => by
    simp only [List.map_cons, List.sum_cons]
    rcases List.mem_cons.1 h with rfl | h
    · omega
    · have := sum_mem f l x h; omega
end Go.Gh
namespace Go.Gh
end Go.Gh
namespace Go.Gh
end Go.Gh
namespace Go.Gh
theorem exP {p : Prop} {q : p → Prop} (h : p) (hq : q h) : ∃ h, q h := ⟨h, hq⟩
end Go.Gh
namespace Go.Gh
end Go.Gh
namespace Go.Gh
end Go.Gh
namespace Go.Gh
theorem find_hit {α : Type} {p : α → Bool} : ∀ {xs : List α} {i : Nat} (h : i < xs.length), p xs[i] = true → (∀ a ∈ xs.take i, p a = false) → xs.find? p = some xs[i]
  | x :: xs, 0, _, hp, _ => by simp at hp; simp [hp]
  | x :: xs, i + 1, h, hp, hn => by
    have h1 : p x = false := hn x (by simp)
    simp only [List.find?_cons, h1]
    simpa using find_hit (p := p) (xs := xs) (i := i) (by simpa using h) (by simpa using hp) (fun a ha => hn a (by simp [ha]))
theorem find_none {α : Type} {p : α → Bool} {xs : List α} (hn : ∀ a ∈ xs, p a = false) : xs.find? p = none := by
  rw [List.find?_eq_none]; intro x hx; simp [hn x hx]
end Go.Gh

/- The laws' own functions on slices, whatever the element: sizes, copies, comparisons. -/
namespace Go.Gh
set_option linter.unusedSimpArgs false
set_option linter.unusedVariables false
set_option maxRecDepth 20000
section
variable {P : Program} {α : Type} {f : α → GV} {k kx sz : Nat} {det ag : Bool}
end
end Go.Gh

/- Arguments of the statements, by their types. -/
namespace Go.Gh
theorem t_one {t : Ty} {g : GV} (h : ET false [t] g) : CT t g := by
  obtain ⟨gs, k1, k2⟩ := h
  simp only [CTs] at k1
  obtain ⟨g, gs', rfl, hg, rfl⟩ := k1
  simp at k2
  rw [← k2]; exact hg
end Go.Gh

/- What the laws' marks are. -/
namespace Go.Gh
set_option linter.unusedSimpArgs false
set_option linter.unusedVariables false
theorem vIte (P : Program) (c : Prop) [Decidable c] (g : GV) (d : Option Nat) (is : List GI) (K : Env → GH → Prop) (env : Env) (H : GH) : valS P (if c then some g else none) d is K env H = (c ∧ gsteps P is K (gput env d g) H) := by
  by_cases h : c <;> simp [h, valS]
theorem nxF {ι : Type} {E : ι → Env} {G : ι → GH} {μ : ι → Nat} {i : ι} {e e' : Env} {H H' : GH} (j : ι) (hm : μ j < μ i) (hf : FE e H e' H') (h : subE e' (E j)) (hh : H' = G j) : Nx E G μ i e H := by
  subst hh
  exact ⟨j, FE.trans hf (FE.of h), hm⟩
theorem wloopF {P : Program} {cf : Cfg} (mxd : P.follows .mixedOrders = true) {ι : Type} {x : GC} {Q : Exit → Env → GH → Prop} {env env' : Env} {H H' : GH} (E : ι → Env) (G : ι → GH) (μ : ι → Nat) (i0 : ι) (hf : FE env H env' H') (h0 : subE env' (E i0)) (hh : H' = G i0)
    (round : ∀ i, (names (G i)).Nodup → GW P cf x (thenG (Nx E G μ i) Q) (E i) (G i)) : GW P cf (.loop x) Q env H := by
  subst hh
  exact GW.loop E G μ i0 (FE.trans hf (FE.of h0)) fun i => GW.names fun hn => round i hn
theorem bor_IS {H : GH} {r n : Nat} {l : List Int} (hr : hget H r = some (1, l.map I)) (hn : l.length = n) : Bor H (.own r 1 0 n) (IS l) := .all hr (by simp [hn]) (by simp [view])
theorem FE.close2 {env : Env} {H : GH} {r r1 sz sz1 i j n : Nat} {L gs ks : List GV} (hne : r1 ≠ r) (hi : i < L.length) (hg : gs[j]? = some (.own r1 sz1 0 n)) (hn : ks.length = n) :
    FE env ((r1, sz1, ks) :: (r, sz, L.set i (.agg gs)) :: H) env ((r, sz, L.set i (.agg (gs.set j (.osl sz1 ks)))) :: H) := by
  have := FE.close (env := env) (H := (r1, sz1, ks) :: (r, sz, L.set i (.agg gs)) :: H) (r := r) (r1 := r1) (Ne.symm hne) (by rw [hget_old hne, hget_new]) (List.getElem?_set_self hi) hg hget_new hn
  rwa [hset_old hne, hset_new, hdel_new, List.set_set] at this
theorem FE.swap {env : Env} {H : GH} {x y : Nat × Nat × List GV} : FE env (x :: y :: H) env (y :: x :: H) := by
  intro w0 D0 O0 N a w ⟨hdf, hsz, D, Ω, ρw, hi⟩
  obtain ⟨r1, sz1, es1⟩ := x
  obtain ⟨r2, sz2, es2⟩ := y
  obtain ⟨F1, G1, e1, h1, F2, F3, e2, h2, h3⟩ := hi.st.hm
  have hp : ∀ x, (F2 ++ (F1 ++ F3)).count x = Ω.count x := by
    intro x; rw [e1, e2]; simp only [List.count_append]; omega
  have hmem : ∀ x ∈ F2 ++ (F1 ++ F3), x ∈ Ω := fun x hx => by
    have := List.count_pos_iff.2 hx
    exact List.count_pos_iff.1 (by rw [← hp]; exact this)
  refine ⟨hdf, hsz, D, F2 ++ (F1 ++ F3), ρw, hi.st' ⟨⟨F2, _, rfl, h2, F1, F3, rfl, h1, h3⟩, ?_, ?_, fun x hx => hi.st.dj x (hmem x hx), hi.st.ds⟩ hmem⟩
  · rw [List.nodup_iff_count]
    intro x
    rw [hp]
    exact List.nodup_iff_count.1 hi.st.nd x
  · have := hi.st.nn
    simp only [names, List.map_cons, List.nodup_cons, List.mem_cons, not_or] at this ⊢
    exact ⟨⟨fun e => this.1.1 e.symm, this.2.1⟩, this.1.2, this.2.2⟩
theorem callS.borA {P : Program} {K : Env → GH → Prop} {is : List GI} {env : Env} {H : GH} {d : Option Nat} {det : Bool} {f : FuncId} {gs gs' : List GV} {G : GV} (h : Pure P f gs' (· = G)) (hb : BorL H gs gs') (hs : scal G = true) (hk : gsteps P is K (gput env d G) H) : callS P det f (some gs) d is K env H := by
  cases det
  · exact callS.bor h hb hs hk
  · exact ⟨G, h.borrow hb (fun _ e => by rw [e]; exact hs), hk⟩
end Go.Gh

/- Expressions as plain data, and their ghosts. -/
namespace Go.Gh
set_option linter.unusedSimpArgs false
set_option linter.unusedVariables false
inductive Exp where
  | mk (kind n pos type : Int) (sym name : ByteArray) (args : List Exp)
def Exp.kind : Exp → Int | .mk k _ _ _ _ _ _ => k
def Exp.n : Exp → Int | .mk _ n _ _ _ _ _ => n
def Exp.pos : Exp → Int | .mk _ _ p _ _ _ _ => p
def Exp.type : Exp → Int | .mk _ _ _ t _ _ _ => t
def Exp.sym : Exp → ByteArray | .mk _ _ _ _ s _ _ => s
def Exp.name : Exp → ByteArray | .mk _ _ _ _ _ m _ => m
def Exp.args : Exp → List Exp | .mk _ _ _ _ _ _ a => a
theorem Exp.eta (e : Exp) : Exp.mk e.kind e.n e.pos e.type e.sym e.name e.args = e := by cases e; rfl
mutual
def Ex : Exp → GV
  | .mk k n p t s m a => .agg [I k, I n, I p, I t, T s, T m, .sl 7 (ExL a)]
def ExL : List Exp → List GV
  | [] => []
  | e :: l => Ex e :: ExL l
end
theorem ExL_eq (l : List Exp) : ExL l = l.map Ex := by
  induction l with
  | nil => rfl
  | cons e l ih => simp [ExL, ih]
abbrev ExS (l : List Exp) : GV := .sl 7 (l.map Ex)
theorem Ex_eq (e : Exp) : Ex e = .agg [I e.kind, I e.n, I e.pos, I e.type, T e.sym, T e.name, ExS e.args] := by
  cases e; simp only [Ex, ExL_eq]; rfl
mutual
theorem Exp.indA {p : Exp → Prop} (h : ∀ e, (∀ a ∈ e.args, p a) → p e) : ∀ e, p e
  | .mk k n q t s m a => h _ (Exp.indL h a)
theorem Exp.indL {p : Exp → Prop} (h : ∀ e, (∀ a ∈ e.args, p a) → p e) : ∀ (l : List Exp), ∀ a ∈ l, p a
  | [], a, hm => by cases hm
  | e :: l, a, hm => by
    have he : p e := Exp.indA h e
    have hl := Exp.indL h l
    rcases List.mem_cons.1 hm with rfl | hm
    · exact he
    · exact hl a hm
end
mutual
def wEx : Exp → Nat
  | .mk _ _ _ _ s m a => (chars s).length + (chars m).length + (a.length + wExL a)
def wExL : List Exp → Nat
  | [] => 0
  | e :: l => wEx e + wExL l
end
theorem wExL_eq (l : List Exp) : wExL l = (l.map wEx).sum := by
  induction l with
  | nil => rfl
  | cons e l ih => simp [wExL, ih]
theorem wEx_eq (e : Exp) : wEx e = (chars e.sym).length + (chars e.name).length + wtS wEx e.args := by
  cases e; simp only [wEx, wExL_eq, wtS]; rfl
mutual
def okE : Exp → Prop
  | .mk _ _ _ _ s m a => s.size ≤ maxLen ∧ m.size ≤ maxLen ∧ okEL a
def okEL : List Exp → Prop
  | [] => True
  | e :: l => okE e ∧ okEL l
end
theorem okEL_eq {l : List Exp} : okEL l ↔ ∀ a ∈ l, okE a := by
  induction l with
  | nil => simp [okEL]
  | cons e l ih => simp [okEL, ih]
theorem okE_eq {e : Exp} : okE e ↔ e.sym.size ≤ maxLen ∧ e.name.size ≤ maxLen ∧ ∀ a ∈ e.args, okE a := by
  cases e; simp only [okE, okEL_eq]; rfl
mutual
instance decExp : (x y : Exp) → Decidable (x = y)
  | .mk k n p t s m a, .mk k' n' p' t' s' m' a' =>
    match decExpL a a' with
    | isTrue h => decidable_of_iff (k = k' ∧ n = n' ∧ p = p' ∧ t = t' ∧ s = s' ∧ m = m') (by simp [h])
    | isFalse h => isFalse (by simp [h])
instance decExpL : (x y : List Exp) → Decidable (x = y)
  | [], [] => isTrue rfl
  | [], _ :: _ => isFalse (by simp)
  | _ :: _, [] => isFalse (by simp)
  | e :: l, e' :: l' => match decExp e e', decExpL l l' with
    | isTrue h, isTrue h' => isTrue (by rw [h, h'])
    | isFalse h, _ => isFalse (by simp [h])
    | _, isFalse h => isFalse (by simp [h])
end
theorem args_small {e : Exp} (h : wEx e ≤ 1048576) : e.args.length ≤ 1048576 ∧ ∀ a ∈ e.args, wEx a ≤ 1048576 := by
  rw [wEx_eq] at h
  simp only [wtS] at h
  refine ⟨by omega, fun a ha => ?_⟩
  have := sum_mem wEx e.args a ha
  omega
theorem isAgg_Ex (e : Exp) : isAgg (Ex e) = true := by rw [Ex_eq]; rfl
theorem geR_Ex (e : Exp) : geR (some (Ex e)) = some (Ex e) := by rw [Ex_eq]; rfl
theorem gsize_Ex (e : Exp) : gsize (Ex e) = 7 := by rw [Ex_eq]; rfl
theorem stor_Ex (e : Exp) : storable (Ex e) = true := by rw [Ex_eq]; rfl
theorem view_Ex (e : Exp) : view (Ex e) = Ex e := by rw [Ex_eq]; rfl
end Go.Gh

/- Arguments of recursive types, seen as ghosts. -/
namespace Go.Gh
open Go.RowKit Go.ChangeShapes Go.WideShapes Go.Deep
end Go.Gh

/- Expressions as arguments of statements. -/
namespace Go.Gh
set_option linter.unusedSimpArgs false
set_option linter.unusedVariables false
end Go.Gh

/- Values and operators, as plain functions. -/
namespace Go.Gh
set_option linter.unusedSimpArgs false
set_option linter.unusedVariables false
def satV (n : Int) : Int := max (-1000000) (min 1000000 n)
def trV (b : Bool) : Int := if b then 1 else 0
def coV (v k : Int) : Int := if k = 1 then satV v else if k = 2 then andI .i64 v 4095 else if k = 3 then trV (!decide (v = 0)) else if k = 4 ∧ 0 ≤ v ∧ v ≤ 999 then v else 0
def opT (op : Int) : Int × Int × Int :=
  if 1 ≤ op ∧ op ≤ 5 then (1, 1, 1) else if 6 ≤ op ∧ op ≤ 8 then (2, 2, 2) else if op = 9 ∨ op = 10 then (1, 1, 3) else if op = 11 then (2, 1, 3) else if op = 12 then (2, 1, 2) else (0, 0, 0)
abbrev opG (op : Int) : GV := .tup [I (opT op).1, I (opT op).2.1, I (opT op).2.2]
def okV (v k : Int) : Bool := decide (1 ≤ k ∧ k ≤ 4) && decide (coV v k = v)
theorem opG0 {op : Int} (h : ¬(1 ≤ op ∧ op ≤ 12)) : opG op = .tup [I 0, I 0, I 0] := by
  have : opT op = (0, 0, 0) := by
    unfold opT
    rw [if_neg (by omega), if_neg (by omega), if_neg (by omega), if_neg (by omega), if_neg (by omega)]
  simp only [opG, this]
end Go.Gh

/- Counts of an expression. -/
namespace Go.Gh
set_option linter.unusedSimpArgs false
set_option linter.unusedVariables false
mutual
def cntE : Exp → Nat
  | .mk _ _ _ _ _ _ a => 1 + cntEL a
def cntEL : List Exp → Nat
  | [] => 0
  | e :: l => cntE e + cntEL l
end
theorem cntEL_eq (l : List Exp) : cntEL l = (l.map cntE).sum := by
  induction l with
  | nil => rfl
  | cons e l ih => simp [cntEL, ih]
theorem cntE_eq (e : Exp) : cntE e = 1 + (e.args.map cntE).sum := by
  cases e; simp only [cntE, cntEL_eq]; rfl
theorem cntE_le : ∀ e, cntE e ≤ wEx e + 1 := by
  refine Exp.indA fun e ih => ?_
  rw [cntE_eq, wEx_eq]
  have : ∀ l : List Exp, (∀ a ∈ l, cntE a ≤ wEx a + 1) → (l.map cntE).sum ≤ l.length + (l.map wEx).sum := by
    intro l
    induction l with
    | nil => intro _; simp
    | cons a l ih =>
      intro h
      have h1 := h a (by simp)
      have h2 := ih fun b hb => h b (by simp [hb])
      simp only [List.map_cons, List.sum_cons, List.length_cons]; omega
  have := this e.args ih
  simp only [wtS]; omega
theorem sumT (f : Exp → Nat) (l : List Exp) (i : Nat) (h : i < l.length) : ((l.take (i + 1)).map f).sum = ((l.take i).map f).sum + f l[i] := psum_succ f l i h
theorem sumT_le (f : Exp → Nat) (l : List Exp) (i : Nat) : ((l.take i).map f).sum ≤ (l.map f).sum := psum_le f l i
def mxL : List Nat → Nat
  | [] => 0
  | a :: l => max a (mxL l)
theorem mxL_app (l m : List Nat) : mxL (l ++ m) = max (mxL l) (mxL m) := by
  induction l with
  | nil => simp [mxL]
  | cons a l ih => simp only [List.cons_append, mxL, ih]; omega
theorem mxL_le (l : List Nat) : mxL l ≤ l.sum := by
  induction l with
  | nil => simp [mxL]
  | cons a l ih => simp only [mxL, List.sum_cons]; omega
mutual
def dpE : Exp → Nat
  | .mk _ _ _ _ _ _ a => 1 + dpEL a
def dpEL : List Exp → Nat
  | [] => 0
  | e :: l => max (dpE e) (dpEL l)
end
theorem dpEL_eq (l : List Exp) : dpEL l = mxL (l.map dpE) := by
  induction l with
  | nil => rfl
  | cons e l ih => simp [dpEL, mxL, ih]
theorem dpE_eq (e : Exp) : dpE e = 1 + mxL (e.args.map dpE) := by
  cases e; simp only [dpE, dpEL_eq]; rfl
theorem sumL_le {l : List Exp} {f g : Exp → Nat} (h : ∀ a ∈ l, f a ≤ g a) : (l.map f).sum ≤ (l.map g).sum := by
  induction l with
  | nil => simp
  | cons a l ih =>
    have h1 := h a (by simp)
    have h2 := ih fun b hb => h b (by simp [hb])
    simp only [List.map_cons, List.sum_cons]; omega
theorem dpE_le : ∀ e, dpE e ≤ cntE e := by
  refine Exp.indA fun e ih => ?_
  rw [cntE_eq, dpE_eq]
  have h1 := mxL_le (e.args.map dpE)
  have h2 := sumL_le ih
  omega
theorem mxT (f : Exp → Nat) (l : List Exp) (i : Nat) (h : i < l.length) : mxL ((l.take (i + 1)).map f) = max (mxL ((l.take i).map f)) (f l[i]) := by
  rw [List.take_succ_eq_append_getElem h, List.map_append, mxL_app]; simp [mxL]
theorem mxT_le (f : Exp → Nat) (l : List Exp) (i : Nat) : mxL ((l.take i).map f) ≤ (l.map f).sum :=
  Nat.le_trans (mxL_le _) (sumT_le f l i)
end Go.Gh

/- Predicates on all nodes of an expression. -/
namespace Go.Gh
set_option linter.unusedSimpArgs false
set_option linter.unusedVariables false
mutual
def allE (p : Exp → Bool) : Exp → Bool
  | .mk k n q t s m a => p (.mk k n q t s m a) && allEL p a
def allEL (p : Exp → Bool) : List Exp → Bool
  | [] => true
  | e :: l => allE p e && allEL p l
end
theorem allEL_eq (p : Exp → Bool) (l : List Exp) : allEL p l = l.all (allE p) := by
  induction l with
  | nil => rfl
  | cons e l ih => simp [allEL, ih]
theorem allE_eq (p : Exp → Bool) (e : Exp) : allE p e = (p e && e.args.all (allE p)) := by
  cases e; simp only [allE, allEL_eq]; rfl
theorem all_take {p : Exp → Bool} {l : List Exp} {i : Nat} (h : i < l.length) (hp : p l[i] = true) (hn : ∀ a ∈ l.take i, p a = true) : ∀ a ∈ l.take (i + 1), p a = true := by
  intro a ha
  rw [List.take_add_one, List.getElem?_eq_getElem h, Option.toList_some, List.mem_append] at ha
  rcases ha with ha | ha
  · exact hn a ha
  · simp only [List.mem_singleton] at ha; rw [ha]; exact hp
end Go.Gh

/- Names. -/
namespace Go.Gh
set_option linter.unusedSimpArgs false
set_option linter.unusedVariables false
def letV (c : UInt8) : Bool := decide (97 ≤ (c.toNat : Int)) && decide ((c.toNat : Int) ≤ 122)
def digV (c : UInt8) : Bool := decide (48 ≤ (c.toNat : Int)) && decide ((c.toNat : Int) ≤ 57)
def kwS : List ByteArray := [⟨#[105, 102]⟩, ⟨#[116, 104, 101, 110]⟩, ⟨#[101, 108, 115, 101]⟩, ⟨#[116, 114, 117, 101]⟩, ⟨#[102, 97, 108, 115, 101]⟩, ⟨#[108, 105, 116]⟩, ⟨#[110, 111, 110, 101]⟩,
  ⟨#[115, 101, 108, 102]⟩, ⟨#[111, 102]⟩, ⟨#[109, 97, 120]⟩, ⟨#[109, 105, 110]⟩, ⟨#[119, 105, 116, 104]⟩, ⟨#[104, 97, 115]⟩]
def hasS (l : List ByteArray) (s : ByteArray) : Bool := l.any fun x => decide (x = s)
theorem hasS_hit {l : List ByteArray} {s : ByteArray} {i : Nat} (h : i < l.length) (e : l[i] = s) : hasS l s = true := by
  simp only [hasS, List.any_eq_true]; exact ⟨l[i], List.getElem_mem h, by simp [e]⟩
theorem hasS_none {l : List ByteArray} {s : ByteArray} (h : ∀ x ∈ l, decide (x = s) = false) : hasS l s = false := by
  simp only [hasS, List.any_eq_false]; intro x hx; simpa using h x hx
def resV (s : ByteArray) : Bool := hasS kwS s
def shp : List UInt8 → Bool
  | [] => false
  | c :: l => letV c && l.all fun c => letV c || digV c
theorem shp_iff (l : List UInt8) : shp l = true ↔ 0 < l.length ∧ ∀ (j : Nat) (h : j < l.length), letV l[j] = true ∨ (j ≠ 0 ∧ digV l[j] = true) := by
  cases l with
  | nil => simp [shp]
  | cons c l =>
    simp only [shp, Bool.and_eq_true, List.all_eq_true, Bool.or_eq_true, List.length_cons]
    constructor
    · rintro ⟨h1, h2⟩
      refine ⟨by omega, fun j hj => ?_⟩
      cases j with
      | zero => exact .inl h1
      | succ j =>
        have := h2 l[j] (List.getElem_mem _)
        simp only [List.getElem_cons_succ]
        rcases this with h | h
        · exact .inl h
        · exact .inr ⟨by omega, h⟩
    · rintro ⟨_, h⟩
      constructor
      · have := h 0 (by omega)
        simpa using this
      · intro x hx
        obtain ⟨j, hj, rfl⟩ := List.mem_iff_getElem.1 hx
        have := h (j + 1) (by omega)
        simp only [List.getElem_cons_succ] at this
        rcases this with h | h
        · exact .inl h
        · exact .inr h.2
def nameV (s : ByteArray) : Bool := shp (chars s) && decide ((chars s).length ≤ 8) && !resV s
end Go.Gh

/- Names: steps. -/
namespace Go.Gh
set_option linter.unusedSimpArgs false
set_option linter.unusedVariables false
theorem shp_bad {l : List UInt8} {i : Nat} (h : i < l.length) (h1 : ¬(letV l[i] = true ∨ (i ≠ 0 ∧ digV l[i] = true))) : shp l = false := by
  cases hs : shp l with
  | false => rfl
  | true => exact absurd (((shp_iff l).1 hs).2 i h) h1
theorem shp_step {l : List UInt8} {i : Nat} (h : i < l.length) (hn : ∀ (j : Nat) (h : j < l.length), j < i → letV l[j] = true ∨ (j ≠ 0 ∧ digV l[j] = true)) (hg : letV l[i] = true ∨ (i ≠ 0 ∧ digV l[i] = true)) :
    ∀ (j : Nat) (h : j < l.length), j < i + 1 → letV l[j] = true ∨ (j ≠ 0 ∧ digV l[j] = true) := by
  intro j hj hji
  by_cases e : j = i
  · subst e; exact hg
  · exact hn j hj (by omega)
theorem shp_end {l : List UInt8} (hn : ∀ (j : Nat) (h : j < l.length), j < l.length → letV l[j] = true ∨ (j ≠ 0 ∧ digV l[j] = true)) : shp l = decide (0 < l.length) := by
  by_cases h : 0 < l.length
  · rw [decide_eq_true h]; exact (shp_iff l).2 ⟨h, fun j hj => hn j hj hj⟩
  · rw [decide_eq_false h]
    cases l with
    | nil => rfl
    | cons a l => simp at h
end Go.Gh

/- Valid nodes. -/
namespace Go.Gh
set_option linter.unusedSimpArgs false
set_option linter.unusedVariables false
def arity (k : Int) : Nat := if k = 4 then 2 else if k = 5 then 3 else if k = 8 then 1 else 0
def noS : ByteArray := ⟨#[]⟩
def bareV (e : Exp) : Bool :=
  decide (e.args.length = arity e.kind) && (decide (e.kind = 3 ∨ e.kind = 6) || decide (e.pos = 0)) && (decide (e.kind = 3 ∨ e.kind = 8) || decide (e.name = noS)) && (decide (e.kind = 1 ∨ e.kind = 4) || decide (e.n = 0)) &&
  (decide (e.kind = 1) || decide (e.type = 0)) && (decide (e.kind = 8) || decide (e.sym = noS))
end Go.Gh

/- Symbols, rules and grammars as plain data, and their ghosts. -/
namespace Go.Gh
set_option linter.unusedSimpArgs false
set_option linter.unusedVariables false
theorem nraw_Ex (e : Exp) : nraw (Ex e) = true := by rw [Ex_eq]; rfl
theorem clean_Ex (e : Exp) : clean (Ex e) = true := by rw [Ex_eq]; rfl
theorem sub_Ex0 (e : Exp) : sub (Ex e) 0 1 false = some (I e.kind) := by rw [Ex_eq]; rfl
theorem sub_Ex1 (e : Exp) : sub (Ex e) 1 1 false = some (I e.n) := by rw [Ex_eq]; rfl
theorem sub_Ex2 (e : Exp) : sub (Ex e) 2 1 false = some (I e.pos) := by rw [Ex_eq]; rfl
theorem sub_Ex3 (e : Exp) : sub (Ex e) 3 1 false = some (I e.type) := by rw [Ex_eq]; rfl
theorem sub_Ex4 (e : Exp) : sub (Ex e) 4 1 false = some (T e.sym) := by rw [Ex_eq]; rfl
theorem sub_Ex5 (e : Exp) : sub (Ex e) 5 1 false = some (T e.name) := by rw [Ex_eq]; rfl
theorem sub_Ex6 (e : Exp) : sub (Ex e) 6 1 false = some (ExS e.args) := by rw [Ex_eq]; rfl
theorem fold_Ex (e : Exp) : GV.agg [I e.kind, I e.n, I e.pos, I e.type, T e.sym, T e.name, .sl 7 (e.args.map Ex)] = Ex e := (Ex_eq e).symm
abbrev ExC (e : Exp) : List GV := [I e.kind, I e.n, I e.pos, I e.type, T e.sym, T e.name, ExS e.args]
theorem upd_Ex (gs : List GV) (o : Nat) (e : Exp) : upd (.agg gs) o (Ex e) = if o + 7 ≤ gs.length then some (.agg (gs.take o ++ (ExC e ++ gs.drop (o + 7)))) else none := by rw [Ex_eq]; rfl
theorem upd_ExO (e : Exp) (o r sz k n : Nat) : upd (Ex e) o (.own r sz k n) = if o < 7 then some (.agg ((ExC e).set o (.own r sz k n))) else none := by rw [Ex_eq]; rfl
theorem XE : type_of% (And.intro @isAgg_Ex (And.intro @geR_Ex (And.intro @gsize_Ex (And.intro @stor_Ex (And.intro @nraw_Ex (And.intro @clean_Ex (And.intro @sub_Ex0 (And.intro @sub_Ex1 (And.intro @sub_Ex2 (And.intro @sub_Ex3 (And.intro @sub_Ex4 (And.intro @sub_Ex5 (And.intro @sub_Ex6 (And.intro @fold_Ex (And.intro @upd_ExO @upd_Ex))))))))))))))) :=
  And.intro @isAgg_Ex (And.intro @geR_Ex (And.intro @gsize_Ex (And.intro @stor_Ex (And.intro @nraw_Ex (And.intro @clean_Ex (And.intro @sub_Ex0 (And.intro @sub_Ex1 (And.intro @sub_Ex2 (And.intro @sub_Ex3 (And.intro @sub_Ex4 (And.intro @sub_Ex5 (And.intro @sub_Ex6 (And.intro @fold_Ex (And.intro @upd_ExO @upd_Ex))))))))))))))
@[ext] structure Att where
  name : ByteArray
  type : Int
  mode : Int
  circ : Bool
deriving DecidableEq
abbrev At (x : Att) : GV := .agg [T x.name, I x.type, I x.mode, B x.circ]
abbrev AtS (l : List Att) : GV := .sl 4 (l.map At)
@[ext] structure Sym where
  name : ByteArray
  atts : List Att
deriving DecidableEq
abbrev Sy (x : Sym) : GV := .agg [T x.name, AtS x.atts]
abbrev SyS (l : List Sym) : GV := .sl 2 (l.map Sy)
@[ext] structure Eqn where
  pos : Int
  name : ByteArray
  expr : Exp
deriving DecidableEq
abbrev Qn (x : Eqn) : GV := .agg [I x.pos, T x.name, I x.expr.kind, I x.expr.n, I x.expr.pos, I x.expr.type, T x.expr.sym, T x.expr.name, ExS x.expr.args]
abbrev QnS (l : List Eqn) : GV := .sl 9 (l.map Qn)
@[ext] structure Con where
  sym : ByteArray
  name : ByteArray
  goal : Exp
  value : Exp
deriving DecidableEq
abbrev Co (x : Con) : GV := .agg [T x.sym, T x.name, I x.goal.kind, I x.goal.n, I x.goal.pos, I x.goal.type, T x.goal.sym, T x.goal.name, ExS x.goal.args, I x.value.kind, I x.value.n, I x.value.pos, I x.value.type, T x.value.sym, T x.value.name, ExS x.value.args]
abbrev CoS (l : List Con) : GV := .sl 16 (l.map Co)
abbrev TS (l : List ByteArray) : GV := .sl 1 (l.map T)
@[ext] structure Rul where
  name : ByteArray
  left : ByteArray
  right : List ByteArray
  lit : Bool
  eqs : List Eqn
  cons : List Con
deriving DecidableEq
abbrev Ru (x : Rul) : GV := .agg [T x.name, T x.left, TS x.right, B x.lit, QnS x.eqs, CoS x.cons]
abbrev RuS (l : List Rul) : GV := .sl 6 (l.map Ru)
@[ext] structure Gram where
  syms : List Sym
  rules : List Rul
deriving DecidableEq
abbrev Gr (g : Gram) : GV := .agg [SyS g.syms, RuS g.rules]
def okAt (x : Att) : Prop := x.name.size ≤ maxLen
def okSy (x : Sym) : Prop := x.name.size ≤ maxLen ∧ ∀ a ∈ x.atts, okAt a
def okEq (x : Eqn) : Prop := x.name.size ≤ maxLen ∧ okE x.expr
def okCo (x : Con) : Prop := x.sym.size ≤ maxLen ∧ x.name.size ≤ maxLen ∧ okE x.goal ∧ okE x.value
def okRu (x : Rul) : Prop := x.name.size ≤ maxLen ∧ x.left.size ≤ maxLen ∧ (∀ s ∈ x.right, s.size ≤ maxLen) ∧ (∀ q ∈ x.eqs, okEq q) ∧ ∀ c ∈ x.cons, okCo c
def okGr (g : Gram) : Prop := (∀ s ∈ g.syms, okSy s) ∧ ∀ r ∈ g.rules, okRu r
def smSy (x : Sym) : Prop := x.atts.length ≤ 1048576
def smEq (x : Eqn) : Prop := wEx x.expr ≤ 1048576
def smCo (x : Con) : Prop := wEx x.goal ≤ 1048576 ∧ wEx x.value ≤ 1048576
def smRu (x : Rul) : Prop := x.right.length ≤ 1048576 ∧ x.eqs.length ≤ 1048576 ∧ x.cons.length ≤ 1048576 ∧ (∀ q ∈ x.eqs, smEq q) ∧ ∀ c ∈ x.cons, smCo c
def smGr (g : Gram) : Prop := g.syms.length ≤ 1048576 ∧ g.rules.length ≤ 1048576 ∧ (∀ s ∈ g.syms, smSy s) ∧ ∀ r ∈ g.rules, smRu r
theorem wtS_mem {α : Type} {wt : α → Nat} {l : List α} {n : Nat} (h : wtS wt l ≤ n) : l.length ≤ n ∧ ∀ a ∈ l, wt a ≤ n := by
  simp only [wtS] at h
  exact ⟨by omega, fun a ha => by have := sum_mem wt l a ha; omega⟩
theorem getD_lt {α : Type} {l : List α} {i : Nat} {d : α} (h : i < l.length) : l.getD i d = l[i] := by
  rw [List.getD_eq_getElem?_getD, List.getElem?_eq_getElem h]; rfl
def symZ : Sym := ⟨noS, []⟩
def attZ : Att := ⟨noS, 0, 0, false⟩
def rulZ : Rul := ⟨noS, noS, [], false, [], []⟩
def fSym (l : List Sym) (n : ByteArray) : Sym := (l.find? fun s => decide (s.name = n)).getD symZ
def hSym (l : List Sym) (n : ByteArray) : Bool := (l.find? fun s => decide (s.name = n)).isSome
def fRul (l : List Rul) (n : ByteArray) : Rul := (l.find? fun s => decide (s.name = n)).getD rulZ
def hRul (l : List Rul) (n : ByteArray) : Bool := (l.find? fun s => decide (s.name = n)).isSome
def fAtt (l : List Att) (n : ByteArray) : Att := (l.find? fun s => decide (s.name = n)).getD attZ
def hAtt (l : List Att) (n : ByteArray) : Bool := (l.find? fun s => decide (s.name = n)).isSome
theorem fSym_mem (l : List Sym) (n : ByteArray) : fSym l n ∈ l ∨ fSym l n = symZ := by
  unfold fSym
  cases h : l.find? fun s => decide (s.name = n) with
  | none => exact .inr rfl
  | some a => exact .inl (List.mem_of_find?_eq_some h)
theorem smSy_f {g : Gram} (h : smGr g) (n : ByteArray) : smSy (fSym g.syms n) := by
  rcases fSym_mem g.syms n with h1 | h1
  · exact h.2.2.1 _ h1
  · rw [h1]; simp [smSy, symZ]
def symAt (r : Rul) (pos : Int) : ByteArray := if pos = 0 then r.left else if 1 ≤ pos ∧ pos ≤ r.right.length then r.right.getD (pos - 1).toNat noS else noS
theorem ixOf_cases {α : Type} (p : α → Bool) (xs : List α) : ixOf p xs = -1 ∨ (0 ≤ ixOf p xs ∧ ixOf p xs < xs.length) := by
  unfold ixOf
  cases h : xs.findIdx? p with
  | none => exact .inl rfl
  | some i =>
    obtain ⟨h1, _, _⟩ := List.findIdx?_eq_some_iff_getElem.1 h
    exact .inr ⟨by simp, by simpa using h1⟩
end Go.Gh

/- Instances of a tree. -/
namespace Go.Gh
set_option linter.unusedSimpArgs false
set_option linter.unusedVariables false
end Go.Gh

/- Grammars as arguments of statements. -/
namespace Go.Gh
set_option linter.unusedSimpArgs false
set_option linter.unusedVariables false
end Go.Gh

/- Trees of a grammar; types of expressions. -/
namespace Go.Gh
set_option linter.unusedSimpArgs false
set_option linter.unusedVariables false
end Go.Gh
namespace Go.Gh
end Go.Gh
namespace Go.Gh
end Go.Gh
namespace Go.Gh
end Go.Gh

/- Valid expressions, and their values. -/
namespace Go.Gh
set_option linter.unusedSimpArgs false
set_option linter.unusedVariables false
def nodeV (e : Exp) : Bool :=
  decide (1 ≤ e.kind ∧ e.kind ≤ 8) && bareV e &&
  (if e.kind = 1 then decide (1 ≤ e.type ∧ e.type ≤ 3) && okV e.n e.type && decide (0 ≤ e.n) else
   if e.kind = 3 then decide (0 ≤ e.pos ∧ e.pos ≤ 3) && nameV e.name else
   if e.kind = 6 then decide (0 ≤ e.pos ∧ e.pos ≤ 3) else
   if e.kind = 4 then decide (1 ≤ e.n ∧ e.n ≤ 12) else
   if e.kind = 8 then nameV e.sym && nameV e.name else true)
def validE (e : Exp) : Bool := decide (cntE e ≤ 24) && decide (dpE e ≤ 6) && allE nodeV e
end Go.Gh
namespace Go.Gh
theorem Bor.clo {H : GH} {f : Nat} {gs gs' : List GV} (h : BorL H gs gs') : Bor H (.clo f gs) (.clo f gs') := fun w D Ω v hst hm => by
  simp only [MV] at hm ⊢
  obtain ⟨h0, vs, h1, h2⟩ := hm
  exact ⟨h0, vs, h1, h w D Ω vs hst h2⟩
theorem Bor.rop {H : GH} {sz : Nat} {g g' : GV} (h : Bor H g g') : Bor H (.rop sz g) (.rop sz g') := fun w D Ω v hst hm => by
  simp only [MV] at hm ⊢
  obtain ⟨h0, b, off, u, h1, h2, h3, h4, h5, h6⟩ := hm
  exact ⟨h0, b, off, u, h1, .inl h2, h3, h4, h5, h w D Ω u hst h6⟩
end Go.Gh
namespace Go.Gh
theorem allE_no {p : Exp → Bool} {e : Exp} {i : Nat} (h : i < e.args.length) (hb : allE p e.args[i] = false) : allE p e = false := by
  rw [allE_eq]
  have : e.args.all (allE p) = false := by
    rw [List.all_eq_false]
    exact ⟨e.args[i], List.getElem_mem h, by simp [hb]⟩
  rw [this, Bool.and_false]
theorem allE_yes {p : Exp → Bool} {e : Exp} (h : ∀ a ∈ e.args, allE p a = true) : allE p e = p e := by
  rw [allE_eq, List.all_eq_true.2 h, Bool.and_true]
end Go.Gh
namespace Go.Gh
end Go.Gh
namespace Go.Gh
end Go.Gh
namespace Go.Gh
end Go.Gh

/- Grammars of one's own. -/
namespace Go.Gh
set_option linter.unusedSimpArgs false
set_option linter.unusedVariables false
set_option maxRecDepth 20000
theorem Bor.seen {α : Type} {f g : α → GV} {H : GH} {r sz n : Nat} {l : List α} (hv : ∀ a, view (f a) = g a) (hr : hget H r = some (sz, l.map f)) (hl : l.length = n) : Bor H (.own r sz 0 n) (.sl sz (l.map g)) := by
  have := Bor.own (k := 0) (n := n) hr (by simp [hl])
  rw [List.drop_zero, List.take_of_length_le (by simp [hl]), viewL_eq, List.map_map] at this
  have e : l.map (view ∘ f) = l.map g := List.map_congr_left fun a _ => hv a
  rwa [e] at this
section
variable {P : Program} {α : Type} {f : α → GV} {k kx sz : Nat} {ag : Bool}
end
theorem FR.perm {g : GV} {H L T : GH} (hs : subH H L) : FR g (H ++ T) g (L ++ T) := by
  intro w D Ω v hv hst
  obtain ⟨Ω', h1, h2⟩ := St.sub hst hs
  exact ⟨D, Ω', hv, h1, ⟨fun _ h => h, fun _ _ h => .inl h, fun b hb _ => h2 b hb, Kept.refl _ _, rfl, rfl, rfl⟩⟩
end Go.Gh

/- Trees cut out of trees. -/
namespace Go.Gh
theorem FE.closeL {env : Env} {H : GH} {r r1 sz sz1 j n : Nat} {L gs ks : List GV} (hne : r ≠ r1) (hr : hget H r = some (sz, L ++ [.agg gs])) (hg : gs[j]? = some (.own r1 sz1 0 n)) (hr1 : hget H r1 = some (sz1, ks)) (hn : ks.length = n) :
    FE env H env (hdel (hset H r (L ++ [.agg (gs.set j (.osl sz1 ks))])) r1) := by
  have := FE.close (env := env) (i := L.length) hne hr (by simp) hg hr1 hn
  simpa using this
end Go.Gh

/- What the laws' marks are: lists marked one element after the other; expressions; instances; grammars. -/
namespace Go.Gh
set_option linter.unusedSimpArgs false
set_option linter.unusedVariables false
section
variable {α : Type} (w : α → Nat) (m : α → Int → α)
end
section
variable {α : Type} {f : α → α}
end
end Go.Gh

/- A subtree of a tree replaced. -/
namespace Go.Gh
set_option linter.unusedSimpArgs false
set_option linter.unusedVariables false
theorem neN (r : Nat) (x : Nat × List GV) (H : GH) : (names ((r, x) :: H)).Nodup = (neA r H ∧ (names H).Nodup) := by
  apply propext
  constructor
  · intro h
    have h2 := h
    simp only [names, List.map_cons, List.nodup_cons] at h2
    exact ⟨neA_of h2.1, h2.2⟩
  · rintro ⟨h1, h2⟩
    simp only [names, List.map_cons, List.nodup_cons]
    refine ⟨?_, h2⟩
    clear h2
    induction H with
    | nil => simp
    | cons y H ih =>
      obtain ⟨q, y⟩ := y
      simp only [neA_cons] at h1
      simp only [List.map_cons, List.mem_cons, not_or]
      exact ⟨h1.1, ih h1.2.2⟩
theorem FE.closeL2 {env : Env} {H : GH} {r r1 sz sz1 j n : Nat} {L gs ks : List GV} (hne : ¬ r = r1) (hg : gs[j]? = some (.own r1 sz1 0 n)) (hn : ks.length = n) :
    FE env ((r, sz, L ++ [.agg gs]) :: (r1, sz1, ks) :: H) env ((r, sz, L ++ [.agg (gs.set j (.osl sz1 ks))]) :: H) := by
  have h := FE.closeL (env := env) (H := (r, sz, L ++ [.agg gs]) :: (r1, sz1, ks) :: H) (r := r) (r1 := r1) hne hget_new hg (by rw [hget_old hne, hget_new]) hn
  rwa [hset_new, hdel_old hne, hdel_new] at h
theorem Bor.ptr {H : GH} {r sz : Nat} {g : GV} (hr : hget H r = some (sz, [g])) : Bor H (.ptr r sz 0 0) (.rop sz (view g)) := fun w D Ω v h hv => by
  obtain ⟨F, hF, hFΩ⟩ := h.hm.mem hr
  simp only [MV] at hv ⊢
  obtain ⟨_, b, rfl, hb, rfl⟩ := hv
  rcases hF with ⟨b', c, T, fz, F', k1, k2, k3, k4, k5, k6, k7⟩ | ⟨k1, _, _⟩
  · have : b' = b := by omega
    subst this
    simp only [MF] at k7
    obtain ⟨u, cs', F1, F2, e1, e2, e3, rfl, e5, rfl, rfl⟩ := k7
    refine ⟨trivial, b', 0, u, by simp, .inr (hFΩ _ (by simp [k6])), ⟨c, T, fz, k2, fun j x hj => ?_⟩, e3, e2, MV.view (fun _ => .inl) g u F1 (fun x hx => .inr (hFΩ x (by simp [k6, hx]))) e5⟩
    have e1' : c.toList.take (1 * sz) = u.cells.toList := by simpa using e1
    have h2 : (c.toList.take (1 * sz))[j]? = some x := by rw [e1']; exact hj
    rw [List.getElem?_take] at h2
    split at h2
    · simpa using h2
    · cases h2
  · omega
end Go.Gh

/- Instances of a tree: all of them. -/
namespace Go.Gh
set_option linter.unusedSimpArgs false
set_option linter.unusedVariables false
end Go.Gh

/- Definitions of instances. -/
namespace Go.Gh
set_option linter.unusedSimpArgs false
set_option linter.unusedVariables false
end Go.Gh

/- The attributes that an expression uses. -/
namespace Go.Gh
set_option linter.unusedSimpArgs false
set_option linter.unusedVariables false
abbrev Oc := Int × ByteArray
abbrev OcS (l : List Oc) : GV := .sl 2 (l.map Occ)
def ltN (a b : ByteArray) : Bool := Op.bytesLess (chars a) (chars b)
def ltO (a b : Oc) : Bool := decide (a.1 < b.1) || (decide (a.1 = b.1) && ltN a.2 b.2)
end Go.Gh

/- Draws: functions that change a cursor; the inside of a region frozen. -/
namespace Go.Gh
set_option linter.unusedSimpArgs false
set_option linter.unusedVariables false
theorem St.frz {w : World} {D : Nat → Prop} {H : GH} {Ω : List Nat} (h : St w D H Ω) {r sz : Nat} {es : List GV} (hr : hget H r = some (sz, es)) :
    ∃ D' Ω', St w D' (hset H r (viewL es)) Ω' ∧ (∀ b, D b → D' b) ∧ (∀ b, D' b → D b ∨ b ∈ Ω) ∧ ∀ b ∈ Ω', b ∈ Ω := by
  obtain ⟨Ω1, F, Ω2, hΩ, hR, hput, _⟩ := HM.take h.hm hr
  rcases hR with ⟨b, c, T, fz, F', k1, k2, k3, k4, k5, k6, k7⟩ | ⟨k1, k2, k3⟩
  · subst k6
    have hnd := h.nd
    rw [hΩ] at hnd
    have hRM : RM w (fun x => D x ∨ x ∈ F') r sz (viewL es) [b] :=
      .inl ⟨b, c, T, fz, [], k1, k2, k3, by simpa [viewL_eq] using k4, by simpa [viewL_eq] using k5, rfl, by
        have := MF.view (D' := fun x => D x ∨ x ∈ F') (fun _ => .inl) sz es _ F' (fun x hx => .inr hx) k7
        simpa [viewL_eq] using this⟩
    have hfin := hput w (fun x => D x ∨ x ∈ F') (fun _ => True) _ _ (Kept.refl _ _) (fun _ _ => trivial) (fun _ => .inl) (fun _ _ => trivial) hRM
    have hsub : (Ω1 ++ ([b] ++ Ω2)).Sublist (Ω1 ++ ((b :: F') ++ Ω2)) := by
      refine List.Sublist.append (List.Sublist.refl _) (List.Sublist.append ?_ (List.Sublist.refl _))
      simp
    refine ⟨fun x => D x ∨ x ∈ F', _, ⟨hfin, hnd.sublist hsub, by rw [names_hset]; exact h.nn, ?_, ?_⟩, fun _ => .inl, ?_, fun x hx => by rw [hΩ]; exact hsub.subset hx⟩
    · intro x hx hD
      rcases hD with hD | hD
      · exact h.dj x (by rw [hΩ]; exact hsub.subset hx) hD
      · have hc := List.nodup_iff_count.1 hnd x
        have h1 := List.count_pos_iff.2 hx
        have h2 := List.count_pos_iff.2 hD
        simp only [List.count_append, List.count_cons, List.count_nil] at hc h1
        omega
    · intro x hD
      rcases hD with hD | hD
      · exact h.ds x hD
      · exact HM.flt h.hm x (by rw [hΩ]; simp [hD])
    · intro x hD
      rcases hD with hD | hD
      · exact .inl hD
      · exact .inr (by rw [hΩ]; simp [hD])
  · subst k2 k3
    have hfin := hput w D (fun _ => True) [] [] (Kept.refl _ _) (fun _ _ => trivial) (fun _ h => h) (fun _ _ => trivial) (.inr ⟨k1, rfl, rfl⟩)
    refine ⟨D, Ω, ⟨?_, h.nd, by rw [names_hset]; exact h.nn, h.dj, h.ds⟩, fun _ h => h, fun _ => .inl, fun _ h => h⟩
    rw [hΩ]; exact hfin
theorem FE.frz {env : Env} {H : GH} {r sz : Nat} {es : List GV} (hr : hget H r = some (sz, es)) : FE env H env (hset H r (viewL es)) := by
  intro w0 D0 O0 N a w ⟨hdf, hsz, D, Ω, ρw, hi⟩
  obtain ⟨D', Ω', h1, h2, h3, h4⟩ := hi.st.frz hr
  refine ⟨hdf, hsz, D', Ω', ρw, fun i g hg hn => ?_, hi.rw, hi.ri, fun i b hb => ?_, h1, hi.ev.trans ⟨h2, fun b _ hD => h3 b hD, fun b hb _ => h4 b hb, Kept.refl _ _, rfl, rfl, rfl⟩⟩
  · obtain ⟨v, m1, m2⟩ := hi.em i g hg hn
    exact ⟨v, m1, m2.more h2⟩
  · obtain ⟨r1, r2, r3, r4⟩ := hi.rd i b hb
    exact ⟨fun hD => (h3 b hD).elim r1 r2, fun h => r2 (h4 b h), r3, r4⟩
theorem FE.frzV {env : Env} {H : GH} {r sz : Nat} {es es' : List GV} (hv : viewL es = es') : FE env ((r, sz, es) :: H) env ((r, sz, es') :: H) := by
  subst hv
  have := FE.frz (env := env) (H := (r, sz, es) :: H) (r := r) (sz := sz) (es := es) (by simp [hget])
  simpa [hset] using this
theorem MV.nil_sl {w : World} {D : Nat → Prop} {sz : Nat} : ∀ v F, MV w D (.val (.slice none 0 0)) v F → MV w D (.sl sz []) v F := fun v F h => by
  simp only [MV] at h ⊢
  exact ⟨h.2, .inl ⟨trivial, _, _, h.1⟩⟩
theorem FR.front {g g' : GV} {L H : GH} (hb : Bor L g g') : FR g (L ++ H) g' H := by
  intro w D Ω v hv hst
  obtain ⟨Ω1, Ω2, rfl, h1, h2⟩ := HM.parted hst.hm
  have hnd := List.nodup_append.1 hst.nd
  have hnn := hst.nn
  simp only [names, List.map_append] at hnn
  have hnn' := List.nodup_append.1 hnn
  have hs1 : St w D L Ω1 := ⟨h1, hnd.1, hnn'.1, fun b hb => hst.dj b (by simp [hb]), hst.ds⟩
  refine ⟨fun b => D b ∨ b ∈ Ω1, Ω2, hb w D Ω1 v hs1 hv, ⟨HM.keep (S := fun _ => True) (Kept.refl _ _) (fun _ _ => trivial) (fun _ => .inl) (fun _ _ => trivial) h2, hnd.2.1, hnn'.2.1, fun b hb hD => ?_, fun b hD => ?_⟩,
    ⟨fun _ => .inl, fun b _ hD => hD.elim .inl fun h => .inr (by simp [h]), fun b hb _ => by simp [hb], Kept.refl _ _, rfl, rfl, rfl⟩⟩
  · rcases hD with hD | hD
    · exact hst.dj b (by simp [hb]) hD
    · exact hnd.2.2 b hD b hb rfl
  · rcases hD with hD | hD
    · exact hst.ds b hD
    · exact HM.flt hst.hm b (by simp [hD])
theorem GCalls.see {P : Program} {f : FuncId} {gs gs' : List GV} {H : GH} {R : GV → GH → Prop} (h : GCalls P f gs' H R) (hb : BorL [] gs gs') : GCalls P f gs H R := fun w D Ω args hst hargs =>
  h w D Ω args hst ((ML.keep (S := fun _ => True) (Kept.refl _ _) (fun _ _ => trivial) (fun b hb => by simpa using hb) _ _ _ (fun _ _ => trivial)) (hb w D [] args (St.nil hst.ds) hargs))
abbrev Bs (bs : List UInt8) : GV := .sl 1 (bs.map fun b => .val (.int .u8 b.toNat))
abbrev Cu (bs : List UInt8) (i h : Int) : GV := .agg [Bs bs, I i, I h]
def isC (e : GV) : Prop := ∃ bs i h, e = Cu bs i h ∧ 0 ≤ i ∧ i ≤ bs.length ∧ bs.length ≤ 9223372036854775807
theorem MF.u8 {w : World} {D : Nat → Prop} : ∀ (bs : List UInt8), MF w D 1 (bs.map fun b => GV.val (.int .u8 b.toNat)) (bs.map fun b => Value.int .u8 b.toNat) []
  | [] => by simp [MF]
  | b :: bs => by
    simp only [List.map_cons, MF]
    exact ⟨.int .u8 b.toNat, _, [], [], rfl, rfl, by intro x hx; simp [Value.cells] at hx; subst hx; rfl, rfl, by simp [MV], MF.u8 bs⟩
theorem MF.u8' {w : World} {D : Nat → Prop} : ∀ (bs : List UInt8) (cs : List Value) (F : List Nat), MF w D 1 (bs.map fun b => GV.val (.int .u8 b.toNat)) cs F → cs = bs.map fun b => Value.int .u8 b.toNat
  | [], cs, F, h => by simp only [List.map_nil, MF] at h; exact h.1
  | b :: bs, cs, F, h => by
    simp only [List.map_cons, MF] at h
    obtain ⟨v, cs', F1, F2, rfl, _, _, _, h1, h2⟩ := h
    simp only [MV] at h1
    rw [h1.1, MF.u8' bs cs' F2 h2]
    rfl
theorem MV.cur {w : World} {D : Nat → Prop} {v : Value} {F : List Nat} (h : MV w D .cur v F) : ∃ e, isC e ∧ MV w D e v F := by
  simp only [MV] at h
  obtain ⟨rfl, bs, i, n, sv, rfl, h1, h2, h3⟩ := h
  refine ⟨Cu bs i n, ⟨bs, i, n, rfl, h1, h2, by rcases h3 with ⟨rfl, _⟩ | ⟨_, _, _, _, _, h, _⟩
                                                · simp
                                                · exact h⟩, ?_⟩
  simp only [MV]
  refine ⟨[sv, .int .i64 i, .int .i64 n], rfl, ?_, ?_⟩
  · have : sv.oneCell' = true := by
      rcases h3 with ⟨_, a, cap, rfl⟩ | ⟨b, off, cap, rfl, _⟩ <;> rfl
    simp [this]
    exact ⟨rfl, rfl⟩
  · simp only [ML]
    refine ⟨sv, _, [], [], rfl, rfl, ?_, _, _, [], [], rfl, rfl, by simp [MV], _, _, [], [], rfl, rfl, by simp [MV], rfl, rfl⟩
    simp only [MV]
    refine ⟨trivial, ?_⟩
    rcases h3 with ⟨rfl, h3⟩ | ⟨b, off, cap, k1, k2, k3, k4, k5⟩
    · exact .inl ⟨rfl, h3⟩
    · exact .inr ⟨b, off, cap, _, by simpa using k1, by simpa using k2, by simpa using k3, k4, k5, MF.u8 bs⟩
theorem MV.uncur {w : World} {D : Nat → Prop} {e : GV} (he : isC e) {v : Value} {F : List Nat} (h : MV w D e v F) : MV w D .cur v F := by
  obtain ⟨bs, i, n, rfl, h1, h2, _⟩ := he
  simp only [MV, ML] at h
  obtain ⟨vs, rfl, _, v1, vs1, F1, F2, rfl, rfl, hs, v2, vs2, F3, F4, rfl, rfl, hi, v3, vs3, F5, F6, rfl, rfl, hn, rfl, rfl⟩ := h
  obtain ⟨rfl, rfl⟩ := hi
  obtain ⟨rfl, rfl⟩ := hn
  obtain ⟨rfl, hs⟩ := hs
  simp only [MV]
  refine ⟨rfl, bs, i, n, v1, rfl, h1, h2, ?_⟩
  rcases hs with ⟨k1, k2⟩ | ⟨b, off, cap, cs, k1, k2, k3, k4, k5, k6⟩
  · exact .inl ⟨by simpa using k1, k2⟩
  · have := MF.u8' bs cs [] k6
    subst this
    exact .inr ⟨b, off, cap, by simpa using k1, by simpa using k2, by simpa using k3, k4, k5⟩
theorem St.exch1 {w : World} {D : Nat → Prop} {H : GH} {Ω : List Nat} (h : St w D H Ω) {r sz i : Nat} {es : List GV} {e : GV} {p : GV → Prop} (hr : hget H r = some (sz, es)) (he : es[i]? = some e) (hx : ∀ v F, MV w D e v F → ∃ e', p e' ∧ MV w D e' v F) :
    ∃ e', p e' ∧ St w D (hset H r (es.set i e')) Ω := by
  obtain ⟨Ω1, F', Ω2, hΩ, hR, hput, _⟩ := HM.take h.hm hr
  obtain ⟨b, c, T, fz, F0, k1, k2, k3, k4, k5, k6, k7⟩ := hR.es_ne (fun e => by rw [e] at he; simp at he)
  obtain ⟨pre, v, post, A1, Ai, A2, m1, m2, m3, m4, m5, m6, m7⟩ := MF.split sz es _ F0 i _ k7 he
  obtain ⟨e', hp, hx⟩ := hx _ _ m6
  have hmf := m7 w D (fun _ => True) e' v Ai (Kept.refl _ _) (fun _ _ => trivial) (fun _ h => h) (fun _ _ => trivial) m3 m4 hx
  rw [← m1, ← m5] at hmf
  have hRM : RM w D r sz (es.set i e') F' := .inl ⟨b, c, T, fz, F0, k1, k2, k3, by simpa using k4, by simpa using k5, k6, by simpa using hmf⟩
  have hfin := hput w D (fun _ => True) _ _ (Kept.refl _ _) (fun _ _ => trivial) (fun _ h => h) (fun _ _ => trivial) hRM
  rw [← hΩ] at hfin
  exact ⟨e', hp, hfin, h.nd, by rw [names_hset]; exact h.nn, h.dj, h.ds⟩
theorem GCalls.open {P : Program} {f : FuncId} {gs : List GV} {rc : Nat} {H : GH} {R : GV → GH → Prop} (h : ∀ e, isC e → GCalls P f gs ((rc, 3, [e]) :: H) R) : GCalls P f gs ((rc, 3, [.cur]) :: H) R := by
  intro w D Ω args hst hargs
  obtain ⟨e', h1, h2⟩ := hst.exch1 (r := rc) (i := 0) (sz := 3) (es := [.cur]) (p := isC) (by simp [hget]) rfl fun v F h => h.cur
  have e : hset ((rc, 3, [GV.cur]) :: H) rc ([GV.cur].set 0 e') = (rc, 3, [e']) :: H := by simp [hset]
  rw [e] at h2
  exact h e' h1 w D Ω args h2 hargs
theorem FE.uncur {env : Env} {rc : Nat} {e : GV} {H : GH} (he : isC e) : FE env ((rc, 3, [e]) :: H) env ((rc, 3, [.cur]) :: H) := by
  have := FE.exch (env := env) (H := (rc, 3, [e]) :: H) (r := rc) (i := 0) (e := e) (e' := .cur) (sz := 3) (es := [e]) (by simp [hget]) rfl fun w D v F h => h.uncur he
  simpa [hset] using this
theorem FR.uncur {g : GV} {rc : Nat} {e : GV} {H : GH} (he : isC e) : FR g ((rc, 3, [e]) :: H) g ((rc, 3, [.cur]) :: H) := by
  intro w D Ω v hv hst
  have h2 := hst.exch (r := rc) (i := 0) (e := e) (e' := .cur) (sz := 3) (es := [e]) (by simp [hget]) rfl fun v F h => h.uncur he
  have e : hset ((rc, 3, [e]) :: H) rc ([e].set 0 GV.cur) = (rc, 3, [.cur]) :: H := by simp [hset]
  rw [e] at h2
  exact ⟨D, Ω, hv, h2, Ev.refl _ _ _⟩
theorem hget_split {r : Nat} {x : Nat × List GV} : ∀ {H : GH}, hget H r = some x → ∃ A B, H = A ++ (r, x) :: B ∧ r ∉ names A
  | [], h => by simp [hget] at h
  | (q, y) :: H, h => by
    simp only [hget] at h
    split at h
    · rename_i e
      subst e
      simp only [Option.some.injEq] at h
      subst h
      exact ⟨[], H, rfl, by simp [names]⟩
    · rename_i hne
      obtain ⟨A, B, h1, h2⟩ := hget_split h
      exact ⟨(q, y) :: A, B, by rw [h1]; rfl, by simp only [names, List.map_cons, List.mem_cons, not_or]; exact ⟨fun e => hne e.symm, h2⟩⟩
theorem count_mid {x : Nat} (a b c : List Nat) : (a ++ (b ++ c)).count x = (b ++ (a ++ c)).count x := by
  simp only [List.count_append]; omega
theorem St.mid {w : World} {D : Nat → Prop} {A B : GH} {y : Nat × Nat × List GV} {Ω : List Nat} (h : St w D (A ++ y :: B) Ω) : ∃ Ω', St w D (y :: (A ++ B)) Ω' ∧ (∀ x, x ∈ Ω' ↔ x ∈ Ω) := by
  obtain ⟨Ω1, Ω2, rfl, h1, h2⟩ := HM.parted h.hm
  obtain ⟨r, sz, es⟩ := y
  obtain ⟨F1, F2, rfl, h3, h4⟩ := h2
  refine ⟨F1 ++ (Ω1 ++ F2), ⟨⟨F1, _, rfl, h3, HM.append h1 h4⟩, ?_, ?_, ?_, h.ds⟩, fun x => by simp only [List.mem_append]; exact or_left_comm⟩
  · have := h.nd
    rw [List.nodup_iff_count] at this ⊢
    intro x; rw [← count_mid]; exact this x
  · have := h.nn
    simp only [names, List.map_append, List.map_cons] at this ⊢
    rw [List.nodup_iff_count] at this ⊢
    intro x
    have := this x
    simp only [List.count_append, List.count_cons] at this ⊢
    omega
  · intro x hx
    exact h.dj x (by simp only [List.mem_append] at hx ⊢; exact or_left_comm.1 hx)
theorem St.mid' {w : World} {D : Nat → Prop} {A B : GH} {y : Nat × Nat × List GV} {Ω : List Nat} (h : St w D (y :: (A ++ B)) Ω) : ∃ Ω', St w D (A ++ y :: B) Ω' ∧ (∀ x, x ∈ Ω' ↔ x ∈ Ω) := by
  obtain ⟨r, sz, es⟩ := y
  obtain ⟨F1, F2, rfl, h3, h4⟩ := h.hm
  obtain ⟨Ω1, Ω2, rfl, h1, h2⟩ := HM.parted h4
  refine ⟨Ω1 ++ (F1 ++ Ω2), ⟨HM.append h1 ⟨F1, _, rfl, h3, h2⟩, ?_, ?_, ?_, h.ds⟩, fun x => by simp only [List.mem_append]; exact or_left_comm⟩
  · have := h.nd
    rw [List.nodup_iff_count] at this ⊢
    intro x; rw [count_mid]; exact this x
  · have := h.nn
    simp only [names, List.map_append, List.map_cons] at this ⊢
    rw [List.nodup_iff_count] at this ⊢
    intro x
    have := this x
    simp only [List.count_append, List.count_cons] at this ⊢
    omega
  · intro x hx
    exact h.dj x (by simp only [List.mem_append] at hx ⊢; exact or_left_comm.1 hx)
def Dc (P : Program) (f : FuncId) (gs : List GV) (R : GV → GH → Prop) : Prop :=
  ∀ rc H, GCalls P f (.ptr rc 3 0 0 :: gs) ((rc, 3, [.cur]) :: H) (fun g H' => ∃ H1, R g H1 ∧ H' = H1 ++ (rc, 3, [.cur]) :: H)
abbrev Dv (P : Program) (f : FuncId) (gs : List GV) (R : GV → Prop) : Prop := Dc P f gs (fun g H1 => R g ∧ H1 = [])
theorem Dc.mono {P : Program} {f : FuncId} {gs : List GV} {R R' : GV → GH → Prop} (h : Dc P f gs R) (hr : ∀ g H1, R g H1 → R' g H1) : Dc P f gs R' :=
  fun rc H => (h rc H).mono fun g H' ⟨H1, h1, h2⟩ => ⟨H1, hr g H1 h1, h2⟩
theorem Dc.see {P : Program} {f : FuncId} {gs gs' : List GV} {R : GV → GH → Prop} (h : Dc P f gs' R) (hb : BorL [] gs gs') : Dc P f gs R :=
  fun rc H => (h rc H).see (.cons .refl hb)
theorem Dc.of {P : Program} {f : FuncId} {gs : List GV} {R : GV → GH → Prop}
    (h : ∀ rc H, GCalls P f (.ptr rc 3 0 0 :: gs) ((rc, 3, [.cur]) :: H) (fun g H' => ∃ G H1 T L, R G H1 ∧ Bor L g G ∧ H' = T ++ H ∧ subH T (L ++ (H1 ++ [(rc, 3, [.cur])])))) : Dc P f gs R :=
  fun rc H => (h rc H).fr fun g H' ⟨G, H1, T, L, h1, h2, h3, h4⟩ => by
    subst h3
    refine ⟨G, H1 ++ (rc, 3, [.cur]) :: H, FR.trans (FR.perm h4) ?_, H1, h1, rfl⟩
    rw [List.append_assoc, List.append_assoc]
    exact FR.front h2
theorem Dv.of {P : Program} {f : FuncId} {gs : List GV} {R : GV → Prop}
    (h : ∀ rc H, GCalls P f (.ptr rc 3 0 0 :: gs) ((rc, 3, [.cur]) :: H) (fun g H' => ∃ G T L, R G ∧ Bor L g G ∧ H' = T ++ H ∧ subH T (L ++ [(rc, 3, [.cur])]))) : Dv P f gs R :=
  Dc.of fun rc H => (h rc H).mono fun g H' ⟨G, T, L, h1, h2, h3, h4⟩ => ⟨G, [], T, L, ⟨h1, rfl⟩, h2, h3, h4⟩
theorem Dv.of0 {P : Program} {f : FuncId} {gs : List GV} {R : GV → Prop}
    (h : ∀ rc H, GCalls P f (.ptr rc 3 0 0 :: gs) ((rc, 3, [.cur]) :: H) (fun g H' => R g ∧ H' = (rc, 3, [.cur]) :: H)) : Dv P f gs R :=
  fun rc H => (h rc H).mono fun g H' ⟨h1, h2⟩ => ⟨[], ⟨h1, rfl⟩, h2⟩
theorem Dc.at {P : Program} {f : FuncId} {gs : List GV} {R : GV → GH → Prop} (h : Dc P f gs R) {rc : Nat} {H : GH} (hr : hget H rc = some (3, [.cur])) :
    GCalls P f (.ptr rc 3 0 0 :: gs) H (fun g H' => ∃ H1, R g H1 ∧ H' = H1 ++ H) := by
  obtain ⟨A, B, rfl, hn⟩ := hget_split hr
  intro w D Ω args hst hargs
  obtain ⟨Ω', h1, h2⟩ := hst.mid
  refine Yld.mono (fun v w' ⟨g, H', D', Ω'', ⟨H1, k0, k1⟩, k2, k3, k4⟩ => ?_) (h rc (A ++ B) w D Ω' args h1 hargs)
  subst k1
  have k3' : St w' D' ((H1 ++ [(rc, 3, [.cur])]) ++ (A ++ B)) Ω'' := by simpa using k3
  obtain ⟨Ω3, m1, m2⟩ : ∃ Ω3, St w' D' (H1 ++ (A ++ (rc, 3, [.cur]) :: B)) Ω3 ∧ ∀ x, x ∈ Ω3 ↔ x ∈ Ω'' := by
    obtain ⟨Ωa, q1, q2⟩ := (show St w' D' (H1 ++ (rc, 3, [GV.cur]) :: (A ++ B)) Ω'' from k3).mid
    rw [← List.append_assoc] at q1
    obtain ⟨Ωb, q3, q4⟩ := q1.mid'
    rw [List.append_assoc] at q3
    exact ⟨Ωb, q3, fun x => (q4 x).trans (q2 x)⟩
  exact ⟨g, _, D', Ω3, ⟨H1, k0, rfl⟩, k2, m1,
    ⟨k4.d0, fun b hb hD => (k4.dn b hb hD).imp id (h2 b).1, fun b hb hl => (h2 b).1 (k4.on b ((m2 b).1 hb) hl), k4.kp.mono fun b _ hb hb' => hb ((h2 b).1 hb'), k4.os, k4.tape, k4.output⟩⟩
theorem callS.dc {P : Program} {f : FuncId} {gs : List GV} {R : GV → GH → Prop} {K : Env → GH → Prop} {is : List GI} {env : Env} {H : GH} {d : Option Nat} {rc : Nat} (h : Dc P f gs R) (hr : hget H rc = some (3, [.cur]))
    (hk : ∀ g H1, R g H1 → (names (H1 ++ H)).Nodup → gsteps P is K (gput env d g) (H1 ++ H)) : callS P false f (some (.ptr rc 3 0 0 :: gs)) d is K env H :=
  callS.of (h.at hr) fun g H' ⟨H1, h1, h2⟩ hn => by subst h2; exact hk g H1 h1 hn
theorem callS.dv {P : Program} {f : FuncId} {gs : List GV} {R : GV → Prop} {K : Env → GH → Prop} {is : List GI} {env : Env} {H : GH} {d : Option Nat} {rc : Nat} (h : Dv P f gs R) (hr : hget H rc = some (3, [.cur]))
    (hk : ∀ g, R g → gsteps P is K (gput env d g) H) : callS P false f (some (.ptr rc 3 0 0 :: gs)) d is K env H :=
  callS.dc h hr fun g H1 ⟨h1, h2⟩ _ => by subst h2; exact hk g h1
theorem callA.dc {P : Program} {f : FuncId} {gs : List GV} {R : GV → GH → Prop} {K : Env → GH → Prop} {is : List GI} {env : Env} {H : GH} {d : Option Nat} {rc : Nat} (h : Dc P f gs R) (hr : hget H rc = some (3, [.cur]))
    (hk : ∀ g H1, R g H1 → (names (H1 ++ H)).Nodup → gsteps P is K (gput env d g) (H1 ++ H)) : callA P f (some (.ptr rc 3 0 0 :: gs)) d is K env H :=
  ⟨R, h.at hr, hk⟩
theorem callA.dv {P : Program} {f : FuncId} {gs : List GV} {R : GV → Prop} {K : Env → GH → Prop} {is : List GI} {env : Env} {H : GH} {d : Option Nat} {rc : Nat} (h : Dv P f gs R) (hr : hget H rc = some (3, [.cur]))
    (hk : ∀ g, R g → gsteps P is K (gput env d g) H) : callA P f (some (.ptr rc 3 0 0 :: gs)) d is K env H :=
  callA.dc h hr fun g H1 ⟨h1, h2⟩ _ => by subst h2; exact hk g h1
end Go.Gh

/- Draws: plain facts. What is drawn is small. -/
namespace Go.Gh
set_option linter.unusedSimpArgs false
set_option linter.unusedVariables false
theorem andI_le {a : Int} {m : Nat} (hm : m < 2 ^ 62) : 0 ≤ andI .i64 a m ∧ andI .i64 a m ≤ m := by
  have h1 : (BitVec.ofInt 64 a &&& BitVec.ofInt 64 (m : Int)).toNat ≤ m := by
    rw [BitVec.toNat_and]
    refine Nat.le_trans Nat.and_le_right ?_
    rw [BitVec.toNat_ofInt]
    omega
  have h2 : andI .i64 a m = (IntKind.i64).wrap (BitVec.ofInt 64 a &&& BitVec.ofInt 64 (m : Int)).toNat := rfl
  have h3 : (IntKind.i64).wrap ((BitVec.ofInt 64 a &&& BitVec.ofInt 64 (m : Int)).toNat : Int) = (BitVec.ofInt 64 a &&& BitVec.ofInt 64 (m : Int)).toNat := by
    have : (((BitVec.ofInt 64 a &&& BitVec.ofInt 64 (m : Int)).toNat : Int)) < 4611686018427387904 := by
      have : (2 : Nat) ^ 62 = 4611686018427387904 := by decide
      omega
    generalize ((BitVec.ofInt 64 a &&& BitVec.ofInt 64 (m : Int)).toNat) = k at *
    simp only [IntKind.wrap, IntKind.signed, IntKind.bits]
    simp
    omega
  rw [h2, h3]
  omega
theorem andI_255 (a : Int) : ∃ k : Nat, andI .i64 a 255 = k ∧ k < 256 := by
  have h := andI_le (a := a) (m := 255) (by decide)
  have h' : 0 ≤ andI .i64 a 255 ∧ andI .i64 a 255 ≤ 255 := h
  exact ⟨(andI .i64 a 255).toNat, by omega, by omega⟩
theorem chars_size (s : ByteArray) : (chars s).length = s.size := by
  show s.data.toList.length = s.data.size
  exact Array.length_toList
theorem okE_of : ∀ (e : Exp), wEx e ≤ 1048576 → okE e := by
  refine Exp.indA fun e ih h => ?_
  rw [wEx_eq] at h
  rw [okE_eq]
  have h1 := chars_size e.sym
  have h2 := chars_size e.name
  have hw : wtS wEx e.args ≤ 1048576 := by omega
  have hm : (1048576 : Nat) ≤ maxLen := by decide
  refine ⟨by omega, by omega, fun a ha => ih a ha ?_⟩
  exact (wtS_mem hw).2 a ha
def shT (s : ByteArray) : Prop := s.size ≤ 16
def shSy (s : Sym) : Prop := shT s.name ∧ 1 ≤ s.atts.length ∧ s.atts.length ≤ 5 ∧ ∀ a ∈ s.atts, shT a.name
def shSys (l : List Sym) : Prop := 1 ≤ l.length ∧ l.length ≤ 3 ∧ ∀ s ∈ l, shSy s
def shEx (e : Exp) : Prop := wEx e ≤ 200000
def shRu (r : Rul) : Prop := shT r.name ∧ shT r.left ∧ r.right.length ≤ 5 ∧ (∀ s ∈ r.right, shT s) ∧ r.eqs.length ≤ 64 ∧ (∀ q ∈ r.eqs, shT q.name ∧ shEx q.expr) ∧ r.cons.length ≤ 64 ∧ ∀ c ∈ r.cons, shT c.sym ∧ shT c.name ∧ shEx c.goal ∧ shEx c.value
def shGr (g : Gram) : Prop := shSys g.syms ∧ 1 ≤ g.rules.length ∧ g.rules.length ≤ 16 ∧ ∀ r ∈ g.rules, shRu r
theorem shT_le {s : ByteArray} (h : shT s) : s.size ≤ maxLen := by
  have hm : (16 : Nat) ≤ maxLen := by decide
  unfold shT at h; omega
theorem shEx_ok {e : Exp} (h : shEx e) : okE e ∧ wEx e ≤ 1048576 := by
  unfold shEx at h
  exact ⟨okE_of e (by omega), by omega⟩
theorem shSy_sm {s : Sym} (h : shSy s) : smSy s := by have := h.2.2.1; unfold smSy; omega
theorem shSy_ok {s : Sym} (h : shSy s) : okSy s := ⟨shT_le h.1, fun a ha => shT_le (h.2.2.2 a ha)⟩
theorem shSys_sm {l : List Sym} (h : shSys l) : l.length ≤ 1048576 ∧ ∀ s ∈ l, smSy s := ⟨by have := h.2.1; omega, fun s hs => shSy_sm (h.2.2 s hs)⟩
theorem shRu_sm {r : Rul} (h : shRu r) : smRu r := by
  obtain ⟨_, _, h1, _, h2, h3, h4, h5⟩ := h
  exact ⟨by omega, by omega, by omega, fun q hq => (shEx_ok (h3 q hq).2).2, fun c hc => ⟨(shEx_ok (h5 c hc).2.2.1).2, (shEx_ok (h5 c hc).2.2.2).2⟩⟩
theorem shRu_ok {r : Rul} (h : shRu r) : okRu r := by
  obtain ⟨k1, k2, h1, k3, h2, h3, h4, h5⟩ := h
  exact ⟨shT_le k1, shT_le k2, fun s hs => shT_le (k3 s hs), fun q hq => ⟨shT_le (h3 q hq).1, (shEx_ok (h3 q hq).2).1⟩, fun c hc => ⟨shT_le (h5 c hc).1, shT_le (h5 c hc).2.1, (shEx_ok (h5 c hc).2.2.1).1, (shEx_ok (h5 c hc).2.2.2).1⟩⟩
theorem shGr_sm {g : Gram} (h : shGr g) : smGr g := ⟨(shSys_sm h.1).1, by have := h.2.2.1; omega, (shSys_sm h.1).2, fun r hr => shRu_sm (h.2.2.2 r hr)⟩
theorem shGr_ok {g : Gram} (h : shGr g) : okGr g := ⟨fun s hs => shSy_ok (h.1.2.2 s hs), fun r hr => shRu_ok (h.2.2.2 r hr)⟩
theorem wEx_leaf {k n p t : Int} {s m : ByteArray} (hs : shT s) (hm : shT m) : wEx (.mk k n p t s m []) ≤ 32 := by
  have h1 := chars_size s
  have h2 := chars_size m
  unfold shT at hs hm
  simp only [wEx, wExL, List.length_nil]
  omega
def shD (d : Nat) (e : Exp) : Prop := wEx e ≤ 40 * 4 ^ d
theorem shD_mono {a b : Nat} {e : Exp} (h : a ≤ b) (he : shD a e) : shD b e := by
  unfold shD at *
  have := Nat.pow_le_pow_right (n := 4) (by decide) h
  omega
theorem shD_leaf {d : Nat} {k n p t : Int} {s m : ByteArray} (hs : shT s) (hm : shT m) : shD d (.mk k n p t s m []) := by
  have := wEx_leaf (k := k) (n := n) (p := p) (t := t) hs hm
  have h2 : 0 < 4 ^ d := Nat.pow_pos (by decide)
  unfold shD; omega
theorem shD_node {d : Nat} {k n p t : Int} {s m : ByteArray} {l : List Exp} (hs : shT s) (hm : shT m) (hl : l.length ≤ 3) (h : ∀ e ∈ l, shD d e) : shD (d + 1) (.mk k n p t s m l) := by
  have h1 := chars_size s
  have h2 := chars_size m
  have h3 : 0 < 4 ^ d := Nat.pow_pos (by decide)
  have h4 : ∀ (l : List Exp), (∀ e ∈ l, shD d e) → wExL l ≤ l.length * (40 * 4 ^ d) := by
    intro l
    induction l with
    | nil => intro _; simp [wExL]
    | cons e l ih =>
      intro h
      have := ih fun x hx => h x (by simp [hx])
      have h5 : wEx e ≤ 40 * 4 ^ d := h e (by simp)
      simp only [wExL, List.length_cons]
      rw [Nat.succ_mul]
      omega
  have h5 := h4 l h
  have h6 : l.length * (40 * 4 ^ d) ≤ 3 * (40 * 4 ^ d) := Nat.mul_le_mul_right _ hl
  unfold shT at hs hm
  unfold shD
  simp only [wEx]
  rw [Nat.pow_succ]
  omega
theorem shD_ex {d : Nat} {e : Exp} (hd : d ≤ 6) (h : shD d e) : shEx e := by
  have := Nat.pow_le_pow_right (n := 4) (by decide) hd
  have h6 : 4 ^ 6 = 4096 := by decide
  unfold shD at h; unfold shEx; omega
def ltT : GV → Bool
  | .val (.string s) => decide (s.size ≤ 16)
  | _ => false
def ltI (lo hi : Int) : GV → Bool
  | .val (.int .i64 n) => decide (lo ≤ n ∧ n ≤ hi)
  | _ => false
theorem ltT_mem {es : List GV} (h : es.all ltT = true) {g : GV} (hg : g ∈ es) : ∃ s, shT s ∧ g = T s := by
  have := List.all_eq_true.1 h g hg
  unfold ltT at this
  split at this
  · exact ⟨_, by simpa [shT] using this, rfl⟩
  · cases this
theorem ltI_mem {lo hi : Int} {es : List GV} (h : es.all (ltI lo hi) = true) {g : GV} (hg : g ∈ es) : ∃ n : Int, (lo ≤ n ∧ n ≤ hi) ∧ g = I n := by
  have := List.all_eq_true.1 h g hg
  unfold ltI at this
  split at this
  · exact ⟨_, by simpa using this, rfl⟩
  · cases this
def noAg (es : List GV) : Bool := es.all fun e => !isAgg e && nraw e
theorem notAgg {es : List GV} (h : noAg es = true) (k : Nat) (hk : k < es.length) : isAgg es[k] = false := by
  have := List.all_eq_true.1 h _ (List.getElem_mem hk)
  simp only [Bool.and_eq_true] at this
  simpa using this.1
theorem notRaw {es : List GV} (h : noAg es = true) (k : Nat) (hk : k < es.length) : geR (some es[k]) = some es[k] := by
  have := List.all_eq_true.1 h _ (List.getElem_mem hk)
  simp only [Bool.and_eq_true] at this
  have h2 := this.2
  cases h3 : es[k] <;> first | rfl | (rw [h3] at h2; simp [nraw] at h2)
abbrev ExN (e : Exp) : GV := .agg [I e.kind, I e.n, I e.pos, I e.type, T e.sym, T e.name, .val (.slice none 0 0)]
abbrev ExR (e : Exp) (r : Nat) : GV := .agg [I e.kind, I e.n, I e.pos, I e.type, T e.sym, T e.name, .own r 7 0 e.args.length]
def ExW (e : Exp) (g : GV) (H1 : GH) : Prop := (e.args = [] ∧ g = ExN e ∧ H1 = []) ∨ ∃ r, g = ExR e r ∧ H1 = [(r, 7, e.args.map Ex)]
theorem bor_ExN {H : GH} {e : Exp} (h : e.args = []) : Bor H (ExN e) (Ex e) := by
  rw [Ex_eq, h]
  exact .agg (.cons .refl (.cons .refl (.cons .refl (.cons .refl (.cons .refl (.cons .refl (.cons .nil .nil)))))))
theorem bor_ExR {H : GH} {e : Exp} {r : Nat} (h : hget H r = some (7, e.args.map Ex)) : Bor H (ExR e r) (Ex e) := by
  rw [Ex_eq]
  exact .agg (.cons .refl (.cons .refl (.cons .refl (.cons .refl (.cons .refl (.cons .refl (.cons (Bor.allM view_Ex h rfl) .nil)))))))
theorem ExW.bor {e : Exp} {g : GV} {H1 : GH} (h : ExW e g H1) : Bor H1 g (Ex e) := by
  rcases h with ⟨h, rfl, rfl⟩ | ⟨r, rfl, rfl⟩
  · exact bor_ExN h
  · exact bor_ExR hget_new
theorem Dc.frz {P : Program} {f : FuncId} {gs : List GV} {R : GV → GH → Prop} {p : GV → Prop} (h : Dc P f gs R) (hb : ∀ g H1, R g H1 → ∃ G, p G ∧ Bor H1 g G) : Dv P f gs p := fun rc H =>
  (h rc H).fr fun g H' ⟨H1, h1, h2⟩ => by
    subst h2
    obtain ⟨G, k1, k2⟩ := hb g H1 h1
    exact ⟨G, _, FR.front k2, [], ⟨k1, rfl⟩, rfl⟩
theorem Dc.exp {P : Program} {f : FuncId} {gs : List GV} {p : Exp → Prop} (h : Dc P f gs (fun g H1 => ∃ e, p e ∧ ExW e g H1)) : Dv P f gs (fun g => ∃ e, p e ∧ g = Ex e) :=
  h.frz fun _ _ ⟨e, h1, h2⟩ => ⟨_, ⟨e, h1, rfl⟩, h2.bor⟩
theorem u64_nn (a : Int) : 0 ≤ IntKind.u64.wrap a := by
  simp only [IntKind.wrap, IntKind.signed, IntKind.bits]
  simp
  omega
instance (s : ByteArray) : Decidable (shT s) := inferInstanceAs (Decidable (s.size ≤ 16))
theorem bor_ExV {H : GH} {k n p t : Int} {s m : ByteArray} {r q : Nat} {l : List Exp} (h : hget H r = some (7, l.map Ex)) (hl : l.length = q) : Bor H (.agg [I k, I n, I p, I t, T s, T m, .own r 7 0 q]) (Ex (.mk k n p t s m l)) := by
  subst hl
  exact bor_ExR (e := .mk k n p t s m l) h
theorem Dc.own {P : Program} {f : FuncId} {gs : List GV} {p : Exp → Prop} (h : Dc P f gs (fun g H1 => ∃ e, p e ∧ ExW e g H1)) : Dc P f gs (fun g H1 => ∃ e r, p e ∧ g = ExR e r ∧ H1 = [(r, 7, e.args.map Ex)]) := fun rc H =>
  (h rc H).fr fun g H' ⟨H1, ⟨e, h1, h2⟩, h3⟩ => by
    subst h3
    rcases h2 with ⟨h0, rfl, rfl⟩ | ⟨r, rfl, rfl⟩
    · obtain ⟨v, hv, hn⟩ := vfresh (names ((rc, 3, [.cur]) :: H))
      refine ⟨ExR e v, (v, 7, []) :: (rc, 3, [.cur]) :: H, FR.trans (FR.sub ?_) (FR.addv hv hn), [(v, 7, [])], ⟨e, v, h1, rfl, by rw [h0]; rfl⟩, rfl⟩
      have h5 : e.args.length = 0 := by rw [h0]; rfl
      show Bor [] (ExN e) (.agg [I e.kind, I e.n, I e.pos, I e.type, T e.sym, T e.name, .own v 7 0 e.args.length])
      rw [h5]
      exact .agg (.cons .refl (.cons .refl (.cons .refl (.cons .refl (.cons .refl (.cons .refl (.cons Bor.virt .nil)))))))
    · exact ⟨_, _, FR.refl _ _, _, ⟨e, r, h1, rfl, rfl⟩, rfl⟩
theorem FE.frzE {env : Env} {H : GH} {re r q : Nat} {k n p t : Int} {s m : ByteArray} {l : List Exp} (hne : ¬ re = r) (hl : l.length = q) :
    FE env ((r, 7, l.map Ex) :: (re, 7, [.agg [I k, I n, I p, I t, T s, T m, .own r 7 0 q]]) :: H) env ((re, 7, [Ex (.mk k n p t s m l)]) :: H) := by
  refine FE.trans (FE.close (r := re) (r1 := r) (i := 0) (j := 6) hne (by simp [hget, Ne.symm hne]; exact ⟨rfl, rfl⟩) rfl rfl hget_new (by simpa using hl)) ?_
  have e : hdel (hset ((r, 7, l.map Ex) :: (re, 7, [GV.agg [I k, I n, I p, I t, T s, T m, .own r 7 0 q]]) :: H) re ([GV.agg [I k, I n, I p, I t, T s, T m, .own r 7 0 q]].set 0 (.agg ([I k, I n, I p, I t, T s, T m, .own r 7 0 q].set 6 (.osl 7 (l.map Ex)))))) r =
      (re, 7, [GV.agg [I k, I n, I p, I t, T s, T m, .osl 7 (l.map Ex)]]) :: H := by
    simp [hset, hdel, Ne.symm hne]
  rw [e]
  refine FE.frzV ?_
  have e2 : (l.map Ex).map view = l.map Ex := by
    rw [List.map_map]; exact List.map_congr_left fun a _ => view_Ex a
  rw [Ex_eq]
  simp [viewL, view, viewL_eq, e2]
  exact ⟨rfl, rfl, rfl, rfl, rfl, rfl, rfl⟩
theorem shEx_upd {e : Exp} {k n p t : Int} {m : ByteArray} (hm : shT m ∨ m = e.name) (h : wEx e ≤ 60000) : shEx (.mk k n p t e.sym m e.args) := by
  rw [wEx_eq] at h
  have h1 := chars_size m
  unfold shEx
  rw [wEx_eq]
  show (chars e.sym).length + (chars m).length + wtS wEx e.args ≤ 200000
  rcases hm with hm | rfl
  · unfold shT at hm; omega
  · omega
theorem Bor.exch {H : GH} {r sz i : Nat} {es : List GV} {e e' g g' : GV} (hr : hget H r = some (sz, es)) (he : es[i]? = some e) (hx : ∀ w D v F, MV w D e v F → MV w D e' v F) (hb : Bor (hset H r (es.set i e')) g g') : Bor H g g' :=
  fun w D Ω v hst hm => hb w D Ω v (hst.exch hr he (hx w D)) hm
theorem MV.exn {e : Exp} (h : e.args = []) : ∀ w D v F, MV w D (ExN e) v F → MV w D (Ex e) v F := fun w D v F hm => by
  have := MV.fld (j := 6) (g' := .sl 7 []) rfl MV.nil_sl v F hm
  rw [Ex_eq, h]
  exact this
theorem bor_ExApp {H : GH} {k n p t : Int} {s m : ByteArray} {r q : Nat} {l : List Exp} {e : Exp} (h : hget H r = some (7, l.map Ex ++ [ExN e])) (he : e.args = []) (hl : l.length + 1 = q) : Bor H (.agg [I k, I n, I p, I t, T s, T m, .own r 7 0 q]) (Ex (.mk k n p t s m (l ++ [e]))) := by
  refine Bor.exch (i := l.length) h (by simp) (MV.exn he) ?_
  have e2 : (l.map Ex ++ [ExN e]).set l.length (Ex e) = (l ++ [e]).map Ex := by
    rw [List.set_append_right _ _ (by simp)]
    simp
  rw [e2]
  refine bor_ExV ?_ (by simpa using hl)
  have : ∀ {H : GH} {x : Nat × List GV} {fs : List GV}, hget H r = some x → hget (hset H r fs) r = some (x.1, fs) := by
    intro H
    induction H with
    | nil => intro x fs h; cases h
    | cons y H ih =>
      obtain ⟨a, b, c⟩ := y
      intro x fs h
      simp only [hget, hset] at h ⊢
      split at h
      · rename_i e3
        simp only [Option.some.injEq] at h
        subst h
        simp [e3, hget]
      · rename_i e3
        simp only [if_neg e3, hget]
        exact ih h
  exact this h
theorem wEx_app {k n p t : Int} {s m : ByteArray} {l : List Exp} {e : Exp} : wEx (.mk k n p t s m (l ++ [e])) = wEx (.mk k n p t s m l) + 1 + wEx e := by
  rw [wEx_eq (.mk k n p t s m (l ++ [e])), wEx_eq (.mk k n p t s m l)]
  show (chars s).length + (chars m).length + wtS wEx (l ++ [e]) = (chars s).length + (chars m).length + wtS wEx l + 1 + wEx e
  simp only [wtS, List.length_append, List.map_append, List.sum_append, List.length_cons, List.length_nil, List.map_cons, List.map_nil, List.sum_cons, List.sum_nil]
  omega
theorem wEx_lit {k n p t : Int} : wEx (.mk k n p t noS noS []) = 0 := by simp [wEx, wExL]; rfl
theorem wEx_op {op : Int} {a b : Exp} : wEx (.mk 4 op 0 0 noS noS [a, b]) = wEx a + wEx b + 2 := by
  simp only [wEx, wExL, List.length_cons, List.length_nil]
  show 0 + 0 + _ = _
  omega
end Go.Gh

/- The attributes that an expression uses: in order, once each. -/
namespace Go.Gh
set_option linter.unusedSimpArgs false
set_option linter.unusedVariables false
theorem ltN_eq (a b : ByteArray) : ltN a b = decide (chars a < chars b) := Proofs.bytesLess_eq _ _
theorem ltN_irr (a : ByteArray) : ltN a a = false := by
  rw [ltN_eq]; exact decide_eq_false (List.lt_irrefl _)
theorem ltN_trans {a b c : ByteArray} (h : ltN a b = true) (k : ltN b c = true) : ltN a c = true := by
  rw [ltN_eq, decide_eq_true_eq] at *; exact List.lt_trans h k
theorem ltO_iff {a b : Oc} : ltO a b = true ↔ a.1 < b.1 ∨ (a.1 = b.1 ∧ ltN a.2 b.2 = true) := by simp [ltO]
theorem ltO_irr (a : Oc) : ltO a a = false := by simp [ltO, ltN_irr]
theorem ltO_trans {a b c : Oc} (h : ltO a b = true) (k : ltO b c = true) : ltO a c = true := by
  rw [ltO_iff] at *
  rcases h with h | ⟨h1, h2⟩ <;> rcases k with k | ⟨k1, k2⟩
  · exact .inl (by omega)
  · exact .inl (by omega)
  · exact .inl (by omega)
  · exact .inr ⟨by omega, ltN_trans h2 k2⟩
theorem ltO_asym {a b : Oc} (h : ltO a b = true) : ltO b a = false := by
  cases q : ltO b a
  · rfl
  · have := ltO_trans h q; rw [ltO_irr] at this; cases this
abbrev SSO (l : List Oc) : Prop := l.Pairwise fun a b => ltO a b = true
theorem SSO.ext : ∀ {l k : List Oc}, SSO l → SSO k → (∀ x, x ∈ l ↔ x ∈ k) → l = k
  | [], [], _, _, _ => rfl
  | [], b :: k, _, _, h => by have := (h b).2 (by simp); simp at this
  | a :: l, [], _, _, h => by have := (h a).1 (by simp); simp at this
  | a :: l, b :: k, h1, h2, h => by
    rw [SSO, List.pairwise_cons] at h1 h2
    have e : a = b := by
      rcases List.mem_cons.1 ((h a).1 (by simp)) with e | e
      · exact e
      · rcases List.mem_cons.1 ((h b).2 (by simp)) with e' | e'
        · exact e'.symm
        · have q1 := h2.1 a e
          have q2 := h1.1 b e'
          rw [ltO_asym q1] at q2; cases q2
    subst e
    congr 1
    refine SSO.ext h1.2 h2.2 fun x => ⟨fun hx => ?_, fun hx => ?_⟩
    · rcases List.mem_cons.1 ((h x).1 (by simp [hx])) with e | e
      · subst e; have := h1.1 _ hx; rw [ltO_irr] at this; cases this
      · exact e
    · rcases List.mem_cons.1 ((h x).2 (by simp [hx])) with e | e
      · subst e; have := h2.1 _ hx; rw [ltO_irr] at this; cases this
      · exact e
end Go.Gh

/- slices.SortFunc at occurrences: the kit's contract, over ghosts. A slice of own slices. -/
namespace Go.Gh
set_option linter.unusedSimpArgs false
set_option linter.unusedVariables false
open Go.Sort (HoldsK Holds flatK putRowK grow)
open Go.Proofs (sortWorldK)
open Go.Proofs (ltOf)
end Go.Gh

/- Checks of a grammar. -/
namespace Go.Gh
set_option linter.unusedSimpArgs false
set_option linter.unusedVariables false
theorem any_yes {α : Type} {p : α → Bool} {l : List α} {i : Nat} (h : i < l.length) (hp : p l[i] = true) : l.any p = true := by
  rw [List.any_eq_true]
  exact ⟨l[i], List.getElem_mem h, hp⟩
theorem any_no {α : Type} {p : α → Bool} {l : List α} (h : ∀ a ∈ l, p a = false) : l.any p = false := by
  rw [List.any_eq_false]
  intro a ha
  rw [h a ha]; simp
theorem takeP_step {α : Type} {p : α → Bool} {l : List α} {i : Nat} {b : Bool} (h : i < l.length) (hp : p l[i] = b) (hn : ∀ a ∈ l.take i, p a = b) : ∀ a ∈ l.take (i + 1), p a = b := by
  intro a ha
  rw [List.take_add_one, List.getElem?_eq_getElem h, Option.toList_some, List.mem_append] at ha
  rcases ha with ha | ha
  · exact hn a ha
  · simp only [List.mem_singleton] at ha; rw [ha]; exact hp
def fitE (e : Exp) (n : Int) : Bool := validE e && allE (fun x => decide (x.pos ≤ n)) e
def reqP (g : Gram) (r : Rul) (pos : Nat) : List Oc := ((fSym g.syms (symAt r pos)).atts.filter fun a => decide (a.mode = if pos = 0 then 2 else 1)).map fun a => ((pos : Int), a.name)
def reqA (g : Gram) (r : Rul) : Nat → List Oc
  | 0 => []
  | n + 1 => reqA g r n ++ reqP g r n
def reqO (g : Gram) (r : Rul) : List Oc := reqA g r (r.right.length + 1)
def hOf (g : Gram) (out : List Int) (n : ByteArray) : Int := if ixOf (fun s : Sym => decide (s.name = n)) g.syms < 0 then 0 else out.getD (ixOf (fun s : Sym => decide (s.name = n)) g.syms).toNat 0
def rchR (g : Gram) (out : List Int) (s : ByteArray) (r : Rul) : Bool := decide (r.left = s) && r.right.all fun c => decide (0 < hOf g out c)
def rchS (g : Gram) (out : List Int) (s : ByteArray) : Bool := g.rules.any (rchR g out s)
def hNext (g : Gram) (round : Int) (out : List Int) (i : Nat) : Int := if 0 < out.getD i 0 then out.getD i 0 else if rchS g out (g.syms.getD i symZ).name then round else out.getD i 0
def hIt (g : Gram) : Nat → List Int
  | 0 => List.replicate g.syms.length 0
  | k + 1 => (List.range g.syms.length).map (hNext g ((k : Int) + 1) (hIt g k))
def hgts (g : Gram) : List Int := hIt g g.syms.length
def minH (g : Gram) (n : ByteArray) : Int := hOf g (hgts g) n
theorem hIt_len (g : Gram) : ∀ k, (hIt g k).length = g.syms.length
  | 0 => by simp [hIt]
  | k + 1 => by simp [hIt]
theorem hIt_nn (g : Gram) : ∀ k, ∀ x ∈ hIt g k, 0 ≤ x
  | 0, x, h => by simp [hIt] at h; omega
  | k + 1, x, h => by
    simp only [hIt, List.mem_map, List.mem_range] at h
    obtain ⟨i, hi, rfl⟩ := h
    have hg : 0 ≤ (hIt g k).getD i 0 := by
      rw [getD_lt (by rw [hIt_len]; exact hi)]
      exact hIt_nn g k _ (List.getElem_mem _)
    simp only [hNext]
    split
    · exact hg
    · split
      · omega
      · exact hg
end Go.Gh

/- Inputs of instances; orders and cycles. -/
namespace Go.Gh
set_option linter.unusedSimpArgs false
set_option linter.unusedVariables false
def dC (T : List (List Int)) (goal : Nat) (d : Nat) (out : List Int) (k : Int) : Bool :=
  if d = 1 then decide (k = goal) else decide (k ≠ goal) && decide (0 ≤ k) && decide (out.getD k.toNat 0 = (d : Int) - 1)
def dS (T : List (List Int)) (goal : Nat) (d : Nat) (out : List Int) (i : Nat) : Int :=
  if out.getD i 0 ≠ 0 then out.getD i 0 else if (T.getD i []).any (dC T goal d out) then d else 0
def dL (T : List (List Int)) (goal : Nat) : Nat → List Int
  | 0 => List.replicate T.length 0
  | d + 1 => (List.range T.length).map (dS T goal (d + 1) (dL T goal d))
def dst (T : List (List Int)) (goal : Nat) : List Int := dL T goal T.length
end Go.Gh

/- Calls under a heap in another order; names that differ from the start. -/
namespace Go.Gh
set_option linter.unusedSimpArgs false
set_option linter.unusedVariables false
theorem GCalls.nd {P : Program} {f : FuncId} {gs : List GV} {H : GH} {R : GV → GH → Prop} (h : (names H).Nodup → GCalls P f gs H R) : GCalls P f gs H R :=
  fun w D Ω args hst hargs => h hst.nn w D Ω args hst hargs
theorem GCalls.sub {P : Program} {f : FuncId} {gs : List GV} {H L T : GH} {R : GV → GH → Prop} (hs : subH H L) (h : GCalls P f gs (L ++ T) R) : GCalls P f gs (H ++ T) R := by
  intro w D Ω args hst hargs
  obtain ⟨Ω', h1, h2⟩ := hst.sub hs
  refine Yld.mono (fun v w' ⟨g, H', D', Ω'', k1, k2, k3, k4⟩ => ?_) (h w D Ω' args h1 hargs)
  exact ⟨g, H', D', Ω'', k1, k2, k3, ⟨k4.d0, fun b hb hD => (k4.dn b hb hD).imp id (h2 b), fun b hb hl => h2 b (k4.on b hb hl), k4.kp.mono fun b _ hb hb' => hb (h2 b hb'), k4.os, k4.tape, k4.output⟩⟩
end Go.Gh

/- Checks of a grammar: steps. -/
namespace Go.Gh
set_option linter.unusedSimpArgs false
set_option linter.unusedVariables false
theorem bor_OcS {H : GH} {r n : Nat} {l : List Oc} (hr : hget H r = some (2, l.map Occ)) (hn : l.length = n) : Bor H (.own r 2 0 n) (OcS l) := Bor.allM (fun _ => rfl) hr hn
theorem reqP_take {g : Gram} {r : Rul} {pos : Nat} {m : Int} (hm : m = if pos = 0 then 2 else 1) (l : List Att) {i : Nat} (h : i < l.length) :
    (((l.take (i + 1)).filter fun a => decide (a.mode = m)).map fun a => ((pos : Int), a.name)) = (((l.take i).filter fun a => decide (a.mode = m)).map fun a => ((pos : Int), a.name)) ++ (if l[i].mode = m then [((pos : Int), l[i].name)] else []) := by
  rw [List.take_add_one, List.getElem?_eq_getElem h, List.filter_append, List.map_append]
  by_cases e : l[i].mode = m <;> simp [e]
theorem reqA_len {g : Gram} (hg : smGr g) (r : Rul) : ∀ n, (reqA g r n).length ≤ n * 1048576
  | 0 => by simp [reqA]
  | n + 1 => by
    have h1 := reqA_len hg r n
    have h2 : (reqP g r n).length ≤ 1048576 := by
      have h3 := List.length_filter_le (fun a : Att => decide (a.mode = if n = 0 then 2 else 1)) (fSym g.syms (symAt r n)).atts
      have h4 := smSy_f hg (symAt r n)
      unfold smSy at h4
      simp only [reqP, List.length_map]
      omega
    simp only [reqA, List.length_append]
    omega
theorem hgts_len (g : Gram) : (hgts g).length = g.syms.length := hIt_len g _
end Go.Gh

/- Draws: symbols, rules, grammars as they are drawn. -/
namespace Go.Gh
set_option linter.unusedSimpArgs false
set_option linter.unusedVariables false
def ltr : Nat → ByteArray
  | 0 => ByteArray.mk #[97]
  | 1 => ByteArray.mk #[98]
  | 2 => ByteArray.mk #[99]
  | _ => ByteArray.mk #[100]
def drA (i : Nat) (a : Att) : Prop := a.name = ltr i ∧ (1 ≤ a.type ∧ a.type ≤ 4) ∧ (1 ≤ a.mode ∧ a.mode ≤ 3) ∧ a.circ = false
def drL (l : List Att) : Prop := ∀ i (h : i < l.length), drA i l[i]
def drS (s : Sym) : Prop := shT s.name ∧ 1 ≤ s.atts.length ∧ s.atts.length ≤ 4 ∧ drL s.atts
theorem ltr_sh : ∀ i, shT (ltr i)
  | 0 => by decide
  | 1 => by decide
  | 2 => by decide
  | _ + 3 => by show shT (ByteArray.mk #[100]); decide
theorem drL_nil : drL [] := fun i h => by simp at h
theorem drL_app {l : List Att} {a : Att} (h : drL l) (ha : drA l.length a) : drL (l ++ [a]) := fun i hi => by
  simp only [List.length_append, List.length_cons, List.length_nil] at hi
  rcases Nat.lt_or_ge i l.length with h1 | h1
  · rw [List.getElem_append_left h1]; exact h i h1
  · obtain rfl : i = l.length := by omega
    simpa using ha
theorem drS_sh {s : Sym} (h : drS s) : shSy s := ⟨h.1, h.2.1, by have := h.2.2.1; omega, fun a ha => by
  obtain ⟨i, hi, rfl⟩ := List.mem_iff_getElem.1 ha
  rw [(h.2.2.2 i hi).1]
  exact ltr_sh i⟩
theorem ltr_get (i : Nat) (h : i < ([T (ByteArray.mk #[97]), T (ByteArray.mk #[98]), T (ByteArray.mk #[99]), T (ByteArray.mk #[100])] : List GV).length) :
    ([T (ByteArray.mk #[97]), T (ByteArray.mk #[98]), T (ByteArray.mk #[99]), T (ByteArray.mk #[100])] : List GV)[i]'h = T (ltr i) := by
  have : i = 0 ∨ i = 1 ∨ i = 2 ∨ i = 3 := by simp at h; omega
  rcases this with rfl | rfl | rfl | rfl <;> rfl
theorem nxAtt {ι : Type} {E : ι → Env} {G : ι → GH} {μ : ι → Nat} {i : ι} {e : Env} {q : Nat} {X : List GV} {nm : ByteArray} {t m : Int} {R : GH} (h : ∀ a : Att, a = ⟨nm, t, m, false⟩ → Nx E G μ i e ((q, 4, X ++ [At a]) :: R)) :
    Nx E G μ i e ((q, 4, X ++ [.agg [T nm, I t, I m, B false]]) :: R) := h _ rfl
abbrev RuX (r : Rul) (Y Z : GV) : GV := .agg [T r.name, T r.left, TS r.right, B r.lit, Y, Z]
def ofT (kind : Int) (pos : Nat) (a : Att) : Bool := decide (a.type = kind ∧ a.mode = if pos = 0 then 1 else 2)
def ofP (g : Gram) (r : Rul) (kind : Int) (pos : Nat) : List Oc := ((fSym g.syms (symAt r pos)).atts.filter (ofT kind pos)).map fun a => ((pos : Int), a.name)
def ofA (g : Gram) (r : Rul) (kind : Int) : Nat → List Oc
  | 0 => []
  | n + 1 => ofA g r kind n ++ ofP g r kind n
def ofO (g : Gram) (r : Rul) (kind : Int) : List Oc := ofA g r kind (r.right.length + 1)
theorem ofP_take {p : Att → Bool} {pos : Nat} (l : List Att) {i : Nat} (h : i < l.length) :
    (((l.take (i + 1)).filter p).map fun a => ((pos : Int), a.name)) = (((l.take i).filter p).map fun a => ((pos : Int), a.name)) ++ (if p l[i] = true then [((pos : Int), l[i].name)] else []) := by
  rw [List.take_add_one, List.getElem?_eq_getElem h, List.filter_append, List.map_append]
  by_cases e : p l[i] = true <;> simp [e]
theorem ofA_len {g : Gram} (hg : smGr g) (r : Rul) (kind : Int) : ∀ n, (ofA g r kind n).length ≤ n * 1048576
  | 0 => by simp [ofA]
  | n + 1 => by
    have h1 := ofA_len hg r kind n
    have h2 : (ofP g r kind n).length ≤ 1048576 := by
      have h3 := List.length_filter_le (ofT kind n) (fSym g.syms (symAt r n)).atts
      have h4 := smSy_f hg (symAt r n)
      unfold smSy at h4
      simp only [ofP, List.length_map]
      omega
    simp only [ofA, List.length_append]
    omega
theorem fSym_sh {l : List Sym} (h : ∀ s ∈ l, shSy s) (n : ByteArray) : ∀ a ∈ (fSym l n).atts, shT a.name := by
  rcases fSym_mem l n with h1 | h1
  · exact (h _ h1).2.2.2
  · rw [h1]; simp [symZ]
theorem ofA_sh {g : Gram} (h : ∀ s ∈ g.syms, shSy s) (r : Rul) (kind : Int) : ∀ n, ∀ o ∈ ofA g r kind n, shT o.2
  | 0, o, ho => by simp [ofA] at ho
  | n + 1, o, ho => by
    simp only [ofA, List.mem_append] at ho
    rcases ho with ho | ho
    · exact ofA_sh h r kind n o ho
    · simp only [ofP, List.mem_map, List.mem_filter] at ho
      obtain ⟨a, ⟨ha, _⟩, rfl⟩ := ho
      exact fSym_sh h _ a ha
theorem reqA_sh {g : Gram} (h : ∀ s ∈ g.syms, shSy s) (r : Rul) : ∀ n, ∀ o ∈ reqA g r n, shT o.2
  | 0, o, ho => by simp [reqA] at ho
  | n + 1, o, ho => by
    simp only [reqA, List.mem_append] at ho
    rcases ho with ho | ho
    · exact reqA_sh h r n o ho
    · simp only [reqP, List.mem_map, List.mem_filter] at ho
      obtain ⟨a, ⟨ha, _⟩, rfl⟩ := ho
      exact fSym_sh h _ a ha
theorem callA.ex {P : Program} {f : FuncId} {gs : List GV} {R : GV → GH → Prop} {K : Env → GH → Prop} {is : List GI} {env : Env} {H : GH} {d : Option Nat} (h : GCalls P f gs H (fun g H' => ∃ H1, R g H1 ∧ H' = H1 ++ H))
    (hk : ∀ g H1, R g H1 → (names (H1 ++ H)).Nodup → gsteps P is K (gput env d g) (H1 ++ H)) : callA P f (some gs) d is K env H := ⟨R, h, hk⟩
end Go.Gh

/- Draws: more plain facts. -/
namespace Go.Gh
set_option linter.unusedSimpArgs false
set_option linter.unusedVariables false
abbrev RuB (r : Rul) (b : Bool) (Y Z : GV) : GV := .agg [T r.name, T r.left, TS r.right, B b, Y, Z]
theorem ofA_lit (g : Gram) (r : Rul) (b : Bool) (kind : Int) : ∀ n, ofA g { r with lit := b } kind n = ofA g r kind n
  | 0 => rfl
  | n + 1 => by simp only [ofA, ofA_lit g r b kind n]; rfl
theorem ofO_lit (g : Gram) (r : Rul) (b : Bool) (kind : Int) : ofO g { r with lit := b } kind = ofO g r kind := ofA_lit g r b kind _
theorem smRu_lit {r : Rul} (h : smRu r) (b : Bool) : smRu { r with lit := b } := h
end Go.Gh

/- Draws: rules and grammars. -/
namespace Go.Gh
set_option linter.unusedSimpArgs false
set_option linter.unusedVariables false
theorem fSym_len5 {l : List Sym} (h : ∀ s ∈ l, shSy s) (n : ByteArray) : (fSym l n).atts.length ≤ 5 := by
  rcases fSym_mem l n with h1 | h1
  · exact (h _ h1).2.2.1
  · rw [h1]; simp [symZ]
theorem reqA_len5 {g : Gram} (h : ∀ s ∈ g.syms, shSy s) (r : Rul) : ∀ n, (reqA g r n).length ≤ n * 5
  | 0 => by simp [reqA]
  | n + 1 => by
    have h1 := reqA_len5 h r n
    have h2 : (reqP g r n).length ≤ 5 := by
      have h3 := List.length_filter_le (fun a : Att => decide (a.mode = if n = 0 then 2 else 1)) (fSym g.syms (symAt r n)).atts
      have h4 := fSym_len5 h (symAt r n)
      simp only [reqP, List.length_map]
      omega
    simp only [reqA, List.length_append]
    omega
abbrev QnN (p : Int) (m : ByteArray) (e : Exp) : GV := .agg [I p, T m, I e.kind, I e.n, I e.pos, I e.type, T e.sym, T e.name, .val (.slice none 0 0)]
theorem MV.qnn {p : Int} {m : ByteArray} {e : Exp} (h : e.args = []) : ∀ w D v F, MV w D (QnN p m e) v F → MV w D (Qn ⟨p, m, e⟩) v F := fun w D v F hm => by
  have := MV.fld (j := 8) (g' := .sl 7 []) rfl MV.nil_sl v F hm
  show MV w D (.agg [I p, T m, I e.kind, I e.n, I e.pos, I e.type, T e.sym, T e.name, .sl 7 (e.args.map Ex)]) v F
  rw [h]
  exact this
theorem FE.qn {env : Env} {q : Nat} {L : List GV} {p : Int} {m : ByteArray} {e : Exp} {H : GH} (h : e.args = []) : FE env ((q, 9, L ++ [QnN p m e]) :: H) env ((q, 9, L ++ [Qn ⟨p, m, e⟩]) :: H) := by
  have := FE.exch (env := env) (H := (q, 9, L ++ [QnN p m e]) :: H) (r := q) (sz := 9) (i := L.length) (es := L ++ [QnN p m e]) (e := QnN p m e) (e' := Qn ⟨p, m, e⟩) (by simp [hget]) (by simp) (MV.qnn h)
  simpa [hset] using this
end Go.Gh

/- Heights of symbols: steps. -/
namespace Go.Gh
set_option linter.unusedSimpArgs false
set_option linter.unusedVariables false
def rchP (g : Gram) (out : List Int) (s : ByteArray) (r : Rul) (k : Nat) : Bool := decide (r.left = s) && (r.right.take k).all fun c => decide (0 < hOf g out c)
theorem rchP_step {g : Gram} {out : List Int} {s : ByteArray} {r : Rul} {k : Nat} (h : k < r.right.length) : rchP g out s r (k + 1) = (rchP g out s r k && decide (0 < hOf g out r.right[k])) := by
  unfold rchP
  rw [List.take_add_one, List.getElem?_eq_getElem h, Option.toList_some, List.all_append, Bool.and_assoc]
  simp
theorem rchP_end (g : Gram) (out : List Int) (s : ByteArray) (r : Rul) : rchP g out s r r.right.length = rchR g out s r := by
  unfold rchP rchR
  rw [List.take_length]
theorem hNext_eq {g : Gram} {k i : Nat} (h : i < g.syms.length) : (hIt g (k + 1)).getD i 0 = hNext g ((k : Int) + 1) (hIt g k) i := by
  rw [getD_lt (by rw [hIt_len]; exact h)]
  simp [hIt]
def nxt (g : Gram) (k i : Nat) (Y : List Int) : Prop := Y.length = g.syms.length ∧ ∀ j, j < g.syms.length → Y.getD j 0 = if j < i then (hIt g (k + 1)).getD j 0 else (hIt g k).getD j 0
theorem nxt_0 (g : Gram) (k : Nat) : nxt g k 0 (hIt g k) := ⟨hIt_len g k, fun j hj => by simp⟩
theorem nxt_n {g : Gram} {k : Nat} {Y : List Int} (h : nxt g k g.syms.length Y) : Y = hIt g (k + 1) := by
  refine List.ext_getElem (by rw [h.1, hIt_len]) fun j h1 h2 => ?_
  have h3 := h.1
  have := h.2 j (by omega)
  rw [if_pos (by omega), getD_lt h1, getD_lt h2] at this
  exact this
theorem nxt_keep {g : Gram} {k i : Nat} {Y : List Int} (h : nxt g k i Y) (hi : i < g.syms.length) (he : hNext g ((k : Int) + 1) (hIt g k) i = (hIt g k).getD i 0) : nxt g k (i + 1) Y := by
  refine ⟨h.1, fun j hj => ?_⟩
  rw [h.2 j hj]
  by_cases e : j = i
  · subst e
    rw [if_neg (by omega), if_pos (by omega), hNext_eq hi, he]
  · by_cases e2 : j < i
    · rw [if_pos e2, if_pos (by omega)]
    · rw [if_neg e2, if_neg (by omega)]
theorem nxt_set {g : Gram} {k i : Nat} {Y : List Int} {v : Int} (h : nxt g k i Y) (hi : i < g.syms.length) (he : hNext g ((k : Int) + 1) (hIt g k) i = v) : nxt g k (i + 1) (Y.set i v) := by
  have h1 := h.1
  refine ⟨by rw [List.length_set]; exact h.1, fun j hj => ?_⟩
  rw [getD_lt (by rw [List.length_set]; omega), List.getElem_set]
  by_cases e : i = j
  · subst e
    rw [if_pos rfl, if_pos (by omega), hNext_eq hi, he]
  · rw [if_neg e, ← getD_lt (d := 0) (by omega), h.2 j hj]
    by_cases e2 : j < i
    · rw [if_pos e2, if_pos (by omega)]
    · rw [if_neg e2, if_neg (by omega)]
theorem soT_I {l : List Int} {n : Nat} (h : l.length = n) : soT (some (1, l.map I)) 1 1 0 n = some (l.map I) := by
  subst h
  have hc : cleanL (l.map I) = true := by
    induction l with
    | nil => rfl
    | cons a l ih => simp only [List.map_cons, cleanL, ih]; rfl
  simp only [soT, List.drop_zero, List.length_map, Nat.zero_add, Nat.le_refl, true_and]
  rw [List.take_of_length_le (by simp), hc]; simp
end Go.Gh

/- Draws: trees. -/
namespace Go.Gh
set_option linter.unusedSimpArgs false
set_option linter.unusedVariables false
def drG (g : Gram) : Prop := shGr g ∧ (∀ s ∈ g.syms, drS s) ∧ g.rules.length ≤ 8 ∧ ∀ r ∈ g.rules, r.right.length ≤ 3
theorem drG_len {g : Gram} (h : drG g) : 1 ≤ g.syms.length ∧ g.syms.length ≤ 3 := ⟨h.1.1.1, h.1.1.2.1⟩
theorem hIt_rng (g : Gram) : ∀ k i, 0 ≤ (hIt g k).getD i 0 ∧ (hIt g k).getD i 0 ≤ k
  | 0, i => by
    simp only [hIt, List.getD_eq_getElem?_getD, List.getElem?_replicate]
    split <;> simp
  | k + 1, i => by
    rcases Nat.lt_or_ge i g.syms.length with h | h
    · have := hIt_rng g k i
      simp only [hIt]
      rw [getD_lt (by simpa using h), List.getElem_map, List.getElem_range]
      unfold hNext
      split
      · omega
      · split <;> omega
    · rw [List.getD_eq_getElem?_getD, List.getElem?_eq_none (by rw [hIt_len]; exact h)]
      simp; omega
def drN (x : Nod) : Prop := x.kids.length ≤ 3 ∧ shT x.rule
end Go.Gh

/- Draws: contributions. -/
namespace Go.Gh
set_option linter.unusedSimpArgs false
set_option linter.unusedVariables false
abbrev CoN (s m : ByteArray) (e f : Exp) : GV := .agg [T s, T m, I e.kind, I e.n, I e.pos, I e.type, T e.sym, T e.name, .val (.slice none 0 0), I f.kind, I f.n, I f.pos, I f.type, T f.sym, T f.name, .val (.slice none 0 0)]
theorem MV.con {s m : ByteArray} {e f : Exp} (he : e.args = []) (hf : f.args = []) : ∀ w D v F, MV w D (CoN s m e f) v F → MV w D (Co ⟨s, m, e, f⟩) v F := fun w D v F hm => by
  have h1 := MV.fld (j := 15) (g' := .sl 7 []) rfl MV.nil_sl v F hm
  have h2 := MV.fld (j := 8) (g' := .sl 7 []) rfl MV.nil_sl v F h1
  show MV w D (.agg [T s, T m, I e.kind, I e.n, I e.pos, I e.type, T e.sym, T e.name, .sl 7 (e.args.map Ex), I f.kind, I f.n, I f.pos, I f.type, T f.sym, T f.name, .sl 7 (f.args.map Ex)]) v F
  rw [he, hf]
  exact h2
theorem FE.con {env : Env} {q : Nat} {L : List GV} {s m : ByteArray} {e f : Exp} {H : GH} (he : e.args = []) (hf : f.args = []) : FE env ((q, 16, L ++ [CoN s m e f]) :: H) env ((q, 16, L ++ [Co ⟨s, m, e, f⟩]) :: H) := by
  have := FE.exch (env := env) (H := (q, 16, L ++ [CoN s m e f]) :: H) (r := q) (sz := 16) (i := L.length) (es := L ++ [CoN s m e f]) (e := CoN s m e f) (e' := Co ⟨s, m, e, f⟩) (by simp [hget]) (by simp) (MV.con he hf)
  simpa [hset] using this
def shCo (c : Con) : Prop := shT c.sym ∧ shT c.name ∧ shEx c.goal ∧ shEx c.value
end Go.Gh

/- Draws: grammars put together. -/
namespace Go.Gh
set_option linter.unusedSimpArgs false
set_option linter.unusedVariables false
abbrev nilG : GV := .val (.slice none 0 0)
abbrev Ru0 (r : Rul) : GV := RuX r nilG nilG
theorem view_Co (c : Con) : view (Co c) = Co c := by
  have : ∀ l : List Exp, (l.map Ex).map view = l.map Ex := fun l => by rw [List.map_map]; exact List.map_congr_left fun a _ => view_Ex a
  simp [view, viewL, viewL_eq, this]
theorem view_Qn (c : Eqn) : view (Qn c) = Qn c := by
  have : ∀ l : List Exp, (l.map Ex).map view = l.map Ex := fun l => by rw [List.map_map]; exact List.map_congr_left fun a _ => view_Ex a
  simp [view, viewL, viewL_eq, this]
theorem view_map {α : Type} {f : α → GV} (h : ∀ a, view (f a) = f a) (l : List α) : (l.map f).map view = l.map f := by
  rw [List.map_map]; exact List.map_congr_left fun a _ => h a
theorem view_Sy (s : Sym) : view (Sy s) = Sy s := by
  have := view_map (f := At) (fun a => rfl) s.atts
  simp [view, viewL, viewL_eq, this]
theorem view_Ru0 (r : Rul) : view (Ru0 r) = Ru0 r := by
  have := view_map (f := T) (fun a => rfl) r.right
  simp [view, viewL, viewL_eq, this]
theorem view_Ru (r : Rul) : view (Ru r) = Ru r := by
  have h1 := view_map (f := T) (fun a => rfl) r.right
  have h2 := view_map view_Qn r.eqs
  have h3 := view_map view_Co r.cons
  simp only [view, viewL, viewL_eq, h1, h2, h3]
theorem FE.leaf {env : Env} {q : Nat} {L : List Rul} {a b : ByteArray} {c : Bool} {H : GH} : FE env ((q, 6, L.map Ru0 ++ [.agg [T a, T b, nilG, B c, nilG, nilG]]) :: H) env ((q, 6, (L ++ [(⟨a, b, [], c, [], []⟩ : Rul)]).map Ru0) :: H) := by
  have := FE.exch (env := env) (H := (q, 6, L.map Ru0 ++ [.agg [T a, T b, nilG, B c, nilG, nilG]]) :: H) (r := q) (sz := 6) (i := L.length) (es := L.map Ru0 ++ [.agg [T a, T b, nilG, B c, nilG, nilG]]) (e := .agg [T a, T b, nilG, B c, nilG, nilG]) (e' := Ru0 (⟨a, b, [], c, [], []⟩ : Rul)) (by simp [hget]) (by simp)
    fun w D v F hm => MV.fld (j := 2) (g' := .sl 1 []) rfl MV.nil_sl v F hm
  have e : (L.map Ru0 ++ [GV.agg [T a, T b, nilG, B c, nilG, nilG]]).set L.length (Ru0 (⟨a, b, [], c, [], []⟩ : Rul)) = (L ++ [(⟨a, b, [], c, [], []⟩ : Rul)]).map Ru0 := by
    rw [List.set_append_right _ _ (by simp)]; simp
  rw [e] at this
  simpa [hset] using this
theorem FE.ruF {env : Env} {q q3 n : Nat} {L : List Rul} {a b : ByteArray} {rs : List ByteArray} {c : Bool} {H : GH} (hne : ¬ q = q3) (hn : rs.length = n) :
    FE env ((q, 6, L.map Ru0 ++ [.agg [T a, T b, .own q3 1 0 n, B c, nilG, nilG]]) :: (q3, 1, rs.map T) :: H) env ((q, 6, (L ++ [(⟨a, b, rs, c, [], []⟩ : Rul)]).map Ru0) :: H) := by
  refine FE.trans (FE.closeL2 (L := L.map Ru0) (j := 2) hne rfl (by simpa using hn)) (FE.frzV ?_)
  have h1 := view_map view_Ru0 L
  have h2 := view_map (f := T) (fun a => rfl) rs
  rw [viewL_eq, List.map_append, h1, List.map_append]
  simp only [List.map_cons, List.map_nil, List.set, view, viewL_eq, h2]
def shR0 (r : Rul) : Prop := shT r.name ∧ shT r.left ∧ r.right.length ≤ 3 ∧ ∀ s ∈ r.right, shT s
theorem shR0_sm {r : Rul} (h : shR0 r) : smRu { r with eqs := [], cons := [] } := ⟨by have := h.2.2.1; show r.right.length ≤ _; omega, by simp, by simp, by simp, by simp⟩
theorem mkS_size (l : List UInt8) : ∃ s : ByteArray, GV.val (mkS l) = T s ∧ s.size = l.length := ⟨⟨l.toArray⟩, rfl, by show l.toArray.size = _; simp⟩
theorem drG_of {l : List Sym} {D : List Rul} (h1 : 1 ≤ l.length) (h3 : l.length ≤ 3) (hd : ∀ s ∈ l, drS s) (k1 : 1 ≤ D.length) (k2 : D.length ≤ 8) (hr : ∀ r ∈ D, shRu r ∧ r.right.length ≤ 3) : drG ⟨l, D⟩ :=
  ⟨⟨⟨h1, h3, fun s hs => drS_sh (hd s hs)⟩, k1, by show D.length ≤ 16; omega, fun r h => (hr r h).1⟩, hd, k2, fun r h => (hr r h).2⟩
theorem shRu_of {r : Rul} {qs : List Eqn} {cs : List Con} (h : shR0 r) (h1 : qs.length ≤ 64) (h2 : ∀ q ∈ qs, shT q.name ∧ shEx q.expr) (h3 : cs.length ≤ 2) (h4 : ∀ c ∈ cs, shCo c) : shRu { r with eqs := qs, cons := cs } ∧ ({ r with eqs := qs, cons := cs } : Rul).right.length ≤ 3 :=
  ⟨⟨h.1, h.2.1, by have := h.2.2.1; show r.right.length ≤ 5; omega, h.2.2.2, h1, h2, by show cs.length ≤ 64; omega, h4⟩, h.2.2.1⟩
def rulO (g : Gram) (s : ByteArray) : List ByteArray := (g.rules.filter fun r => decide (r.left = s)).map (·.name)
def rulP (g : Gram) (s : ByteArray) (k : Nat) : List ByteArray := ((g.rules.take k).filter fun r => decide (r.left = s)).map (·.name)
theorem rulP_s {g : Gram} {s : ByteArray} {k : Nat} (h : k < g.rules.length) : rulP g s (k + 1) = rulP g s k ++ (if g.rules[k].left = s then [g.rules[k].name] else []) := by
  unfold rulP
  rw [List.take_add_one, List.getElem?_eq_getElem h, List.filter_append, List.map_append]
  by_cases e : g.rules[k].left = s <;> simp [e]
theorem rulP_end (g : Gram) (s : ByteArray) : rulP g s g.rules.length = rulO g s := by simp [rulP, rulO]
theorem rulP_len (g : Gram) (s : ByteArray) (k : Nat) : (rulP g s k).length ≤ g.rules.length := by
  unfold rulP
  rw [List.length_map]
  exact Nat.le_trans (List.length_filter_le _ _) (by rw [List.length_take]; omega)
def goodT (b : Nat) (t : List Nod) : Prop := (∀ x ∈ t, drN x) ∧ 1 ≤ t.length ∧ t.length ≤ b
theorem goodT.mono {a b : Nat} {t : List Nod} (h : goodT a t) (hab : a ≤ b) : goodT b t := ⟨h.1, h.2.1, Nat.le_trans h.2.2 hab⟩
end Go.Gh

/- Draws: trees bent. -/
namespace Go.Gh
set_option linter.unusedSimpArgs false
set_option linter.unusedVariables false
section
variable {P : Program} {cf : Cfg}
theorem gstartG {f : FuncId} {F : GFun} (hF : IsFun P f F) {cf : Cfg} {gc : GC} {gr : List GR} (hf : F = ⟨cf, gc, gr⟩) {gs : List GV} {H : GH} {R : GV → GH → Prop} (hlen : gs.length ≤ cf.N)
    (h : GW P cf gc (GEndS gr R) (envOf gs 0) H) : GCalls P f gs H R := GCalls.start hF hf hlen (GW.mono (fun _ _ _ h => h.ok) h)
theorem gwpS (mxd : P.follows .mixedOrders = true) {x y : GC} {Q : Exit → Env → GH → Prop} {env : Env} {H : GH} (h : gwp P cf x (thenG (GW P cf y Q) Q) env H) : GW P cf (.seq x y) Q env H := GW.seq (gwp_ok mxd h)
theorem gwpB (mxd : P.follows .mixedOrders = true) {x : GC} {id : Nat} {Q : Exit → Env → GH → Prop} {env : Env} {H : GH} (h : gwp P cf x (blockG id Q) env H) : GW P cf (.block id x) Q env H := GW.block (gwp_ok mxd h)
end
end Go.Gh

/- Static grammars. -/
namespace Go.Gh
set_option linter.unusedSimpArgs false
set_option linter.unusedVariables false
end Go.Gh

/- Tables: slices of own slices, opened and closed; their marks. -/
namespace Go.Gh
set_option linter.unusedSimpArgs false
set_option linter.unusedVariables false
end Go.Gh

/- Orders: what the loops keep. -/
namespace Go.Gh
set_option linter.unusedSimpArgs false
set_option linter.unusedVariables false
end Go.Gh

/- Solutions. -/
namespace Go.Gh
set_option linter.unusedSimpArgs false
set_option linter.unusedVariables false
end Go.Gh

/- Solutions: the steps. -/
namespace Go.Gh
set_option linter.unusedSimpArgs false
set_option linter.unusedVariables false
end Go.Gh

/- Valid trees: subtrees' sizes add up; parents and places. -/
namespace Go.Gh
set_option linter.unusedSimpArgs false
set_option linter.unusedVariables false
end Go.Gh

/- The law FnTrees: what its loops need. -/
namespace Go.Gh
set_option linter.unusedSimpArgs false
set_option linter.unusedVariables false
end Go.Gh

/- Instances: the plain law FnInstances. -/
namespace Go.Gh
set_option linter.unusedSimpArgs false
set_option linter.unusedVariables false
end Go.Gh

/- The law FnInstances: what its loops need. -/
namespace Go.Gh
set_option linter.unusedSimpArgs false
set_option linter.unusedVariables false
end Go.Gh

/- Distances: the two ways of counting steps. -/
namespace Go.Gh
set_option linter.unusedSimpArgs false
set_option linter.unusedVariables false
end Go.Gh

/- Distances in place: a row at a time, an entry at a time. -/
namespace Go.Gh
set_option linter.unusedSimpArgs false
set_option linter.unusedVariables false
end Go.Gh

/- Who depends on whom. -/
namespace Go.Gh
set_option linter.unusedSimpArgs false
set_option linter.unusedVariables false
end Go.Gh

/- Shortest cycles. -/
namespace Go.Gh
set_option linter.unusedSimpArgs false
set_option linter.unusedVariables false
end Go.Gh

/- Orders and cycles: the plain laws FnTreeOrder, FnTreeCycle. -/
namespace Go.Gh
set_option linter.unusedSimpArgs false
set_option linter.unusedVariables false
def Wk (T : List (List Int)) (goal : Nat) : Nat → Nat → Prop
  | 0, _ => False
  | 1, i => (goal : Int) ∈ T.getD i []
  | d + 2, i => ∃ k : Nat, k < T.length ∧ (k : Int) ∈ T.getD i [] ∧ Wk T goal (d + 1) k
def Rch (T : List (List Int)) (i j : Nat) : Prop := ∃ d, Wk T j d i
theorem Wk_trans {T : List (List Int)} {l j e : Nat} (hj : j < T.length) (h2 : Wk T l (e + 1) j) : ∀ d i, Wk T j d i → Wk T l (d + e + 1) i
  | 0, _, h => h.elim
  | 1, i, h => by
    rw [show 1 + e + 1 = e + 2 by omega]
    exact ⟨j, hj, h, h2⟩
  | d + 2, i, ⟨k, hk, h3, h4⟩ => by
    have := Wk_trans hj h2 (d + 1) k h4
    rw [show d + 2 + e + 1 = (d + e + 1) + 2 by omega]
    exact ⟨k, hk, h3, by rw [show d + e + 1 + 1 = d + 1 + e + 1 by omega]; exact this⟩
theorem Rch.trans {T : List (List Int)} {i j l : Nat} (hj : j < T.length) (h1 : Rch T i j) (h2 : Rch T j l) : Rch T i l := by
  obtain ⟨d, h1⟩ := h1
  obtain ⟨e, h2⟩ := h2
  cases e with
  | zero => exact h2.elim
  | succ e => exact ⟨_, Wk_trans hj h2 d i h1⟩
theorem Rch.one {T : List (List Int)} {i j : Nat} (h : (j : Int) ∈ T.getD i []) : Rch T i j := ⟨1, h⟩
end Go.Gh

/- The laws FnTreeOrder, FnTreeCycle: what their loops need. -/
namespace Go.Gh
set_option linter.unusedSimpArgs false
set_option linter.unusedVariables false
end Go.Gh

/- The plain laws FnTypes, FnStaticGrammar. -/
namespace Go.Gh
set_option linter.unusedSimpArgs false
set_option linter.unusedVariables false
end Go.Gh

/- Definitions: the plain law FnDefined. -/
namespace Go.Gh
set_option linter.unusedSimpArgs false
set_option linter.unusedVariables false
end Go.Gh

/- The static run. -/
namespace Go.Gh
set_option linter.unusedSimpArgs false
set_option linter.unusedVariables false
end Go.Gh

/- Static evaluation: the plain law FnStatic. -/
namespace Go.Gh
set_option linter.unusedSimpArgs false
set_option linter.unusedVariables false
end Go.Gh

/- Subtrees cut out and put back. -/
namespace Go.Gh
set_option linter.unusedSimpArgs false
set_option linter.unusedVariables false
end Go.Gh

/- Edits of trees. -/
namespace Go.Gh
set_option linter.unusedSimpArgs false
set_option linter.unusedVariables false
@[ext] structure Edi where
  kind : Int
  node : Int
  other : Int
  lit : Int
  tree : List Nod
  deriving DecidableEq
end Go.Gh

/- Trees as terms: first child, next sibling; what a flat tree is of. -/
namespace Go.Gh
set_option linter.unusedSimpArgs false
set_option linter.unusedVariables false
inductive Fo where
  | nil : Fo
  | cons (id : Int) (rule : ByteArray) (lit : Int) (ks rest : Fo) : Fo
namespace Fo
def sz : Fo → Nat
  | nil => 0
  | cons _ _ _ ks rest => 1 + ks.sz + rest.sz
def strt : Fo → Int → List Int
  | nil, _ => []
  | cons _ _ _ ks rest, b => b :: rest.strt (b + 1 + ks.sz)
def flt : Fo → Int → Int → Int → List Nod
  | nil, _, _, _ => []
  | cons i r l ks rest, b, p, q => ⟨i, p, q, l, r, ks.strt (b + 1)⟩ :: (ks.flt (b + 1) b 1 ++ rest.flt (b + 1 + ks.sz) p (q + 1))
def one : Fo → Prop
  | cons _ _ _ _ nil => True
  | _ => False
def app : Fo → Fo → Fo
  | nil, r => r
  | cons i r l ks rest, s => cons i r l ks (rest.app s)
end Fo
inductive Pa where
  | here : Pa
  | down (π : Pa) : Pa
  | next (π : Pa) : Pa
namespace Fo
def put : Fo → Pa → Fo → Fo
  | nil, _, _ => nil
  | cons _ _ _ _ rest, .here, S => S.app rest
  | cons i r l ks rest, .down π, S => cons i r l (ks.put π S) rest
  | cons i r l ks rest, .next π, S => cons i r l ks (rest.put π S)
def pos : Fo → Pa → Nat
  | nil, _ => 0
  | cons .., .here => 0
  | cons _ _ _ ks _, .down π => 1 + ks.pos π
  | cons _ _ _ ks rest, .next π => 1 + ks.sz + rest.pos π
def ok : Fo → Pa → Prop
  | nil, _ => False
  | cons .., .here => True
  | cons _ _ _ ks _, .down π => ks.ok π
  | cons _ _ _ _ rest, .next π => rest.ok π
end Fo
namespace Fo
end Fo
end Go.Gh

/- Trees as terms: which flat trees are trees of a grammar; subtrees and replacements. -/
namespace Go.Gh
set_option linter.unusedSimpArgs false
set_option linter.unusedVariables false
def fitR (g : Gram) (r : ByteArray) (l : Int) (s : ByteArray) : Prop := hRul g.rules r = true ∧ (fRul g.rules r).left = s ∧ (-1000000 ≤ l ∧ l ≤ 1000000) ∧ ((fRul g.rules r).lit = true ∨ (fRul g.rules r).lit = false ∧ l = 0)
namespace Fo
def wf (g : Gram) : Fo → List ByteArray → Prop
  | nil, [] => True
  | cons _ r l ks rest, s :: ss => fitR g r l s ∧ ks.wf g (fRul g.rules r).right ∧ rest.wf g ss
  | _, _ => False
end Fo
end Go.Gh

/- The plain laws FnEdited and FnSwapped. -/
namespace Go.Gh
set_option linter.unusedSimpArgs false
set_option linter.unusedVariables false
namespace Fo
end Fo
namespace Fo
end Fo
open Fo
end Go.Gh

/- Static evaluation: the plain law FnStaticTypes. -/
namespace Go.Gh
set_option linter.unusedSimpArgs false
set_option linter.unusedVariables false
end Go.Gh

/- The laws FnStatic and FnStaticTypes: what their walks need. -/
namespace Go.Gh
set_option linter.unusedSimpArgs false
set_option linter.unusedVariables false
end Go.Gh

/- Calls that read regions of the caller's and leave them as they are. -/
namespace Go.Gh
set_option linter.unusedSimpArgs false
set_option linter.unusedVariables false
theorem HM.perm {w : World} {D : Nat → Prop} {H L : GH} (p : H.Perm L) : ∀ {Ω : List Nat}, HM w D H Ω → ∃ Ω', HM w D L Ω' ∧ Ω'.Perm Ω := by
  induction p with
  | nil => exact fun h => ⟨_, h, .refl _⟩
  | cons x _ ih =>
    obtain ⟨r, sz, es⟩ := x
    rintro Ω ⟨F1, F2, rfl, h1, h2⟩
    obtain ⟨Ω', h3, h4⟩ := ih h2
    exact ⟨F1 ++ Ω', ⟨F1, Ω', rfl, h1, h3⟩, h4.append_left _⟩
  | swap x y l =>
    obtain ⟨r, sz, es⟩ := x
    obtain ⟨r', sz', es'⟩ := y
    rintro Ω ⟨F1, F2, rfl, h1, F3, F4, rfl, h2, h3⟩
    exact ⟨F3 ++ (F1 ++ F4), ⟨F3, _, rfl, h2, F1, F4, rfl, h1, h3⟩, by rw [← List.append_assoc, ← List.append_assoc]; exact (List.perm_append_comm).append_right _⟩
  | trans _ _ ih1 ih2 =>
    intro Ω h
    obtain ⟨Ω1, h1, p1⟩ := ih1 h
    obtain ⟨Ω2, h2, p2⟩ := ih2 h1
    exact ⟨Ω2, h2, p2.trans p1⟩
theorem St.perm {w : World} {D : Nat → Prop} {H L : GH} (p : H.Perm L) {Ω : List Nat} (h : St w D H Ω) : ∃ Ω', St w D L Ω' ∧ Ω'.Perm Ω := by
  obtain ⟨Ω', h1, h2⟩ := h.hm.perm p
  exact ⟨Ω', ⟨h1, h2.nodup_iff.2 h.nd, ((p.map _).nodup_iff).1 h.nn, fun b hb => h.dj b (h2.mem_iff.1 hb), h.ds⟩, h2⟩
theorem GCalls.perm {P : Program} {f : FuncId} {gs : List GV} {H L : GH} {R R' : GV → GH → Prop} (p : L.Perm H) (h : GCalls P f gs H R) (hr : ∀ g H', R g H' → ∃ L', R' g L' ∧ H'.Perm L') : GCalls P f gs L R' := by
  intro w D Ω args hst hargs
  obtain ⟨Ω', h1, h2⟩ := hst.perm p
  refine Yld.mono (fun v w' ⟨g, H', D', Ω'', k1, k2, k3, k4⟩ => ?_) (h w D Ω' args h1 hargs)
  obtain ⟨L', q1, q2⟩ := hr g H' k1
  obtain ⟨Ω3, m1, m2⟩ := k3.perm q2
  exact ⟨g, L', D', Ω3, q1, k2, m1,
    ⟨k4.d0, fun b hb hD => (k4.dn b hb hD).imp id (fun h => h2.mem_iff.1 h), fun b hb hl => h2.mem_iff.1 (k4.on b (m2.mem_iff.1 hb) hl), k4.kp.mono fun b _ hb hb' => hb (h2.mem_iff.1 hb'), k4.os, k4.tape, k4.output⟩⟩
def inH (T : GH) (H : GH) : Prop := ∀ x ∈ T, hget H x.1 = some x.2
theorem inH.nil (H : GH) : inH [] H := fun _ h => by cases h
theorem inH.cons {x : Nat × Nat × List GV} {T H : GH} (h : hget H x.1 = some x.2) (hT : inH T H) : inH (x :: T) H := fun y hy => by
  rcases List.mem_cons.1 hy with rfl | hy
  · exact h
  · exact hT y hy
theorem inH.split : ∀ {T H : GH}, (names T).Nodup → inH T H → ∃ H0, H.Perm (T ++ H0)
  | [], H, _, _ => ⟨H, .refl _⟩
  | (r, x) :: T, H, hn, h => by
    obtain ⟨A, B, rfl, hA⟩ := hget_split (h (r, x) (by simp))
    have hn' := List.nodup_cons.1 hn
    have hT : inH T (A ++ B) := fun y hy => by
      have h1 := h y (by simp [hy])
      have hne : y.1 ≠ r := fun e => hn'.1 (by rw [← e]; exact List.mem_map.2 ⟨y, hy, rfl⟩)
      have : ∀ (A : GH), hget (A ++ (r, x) :: B) y.1 = hget (A ++ B) y.1 := by
        intro A
        induction A with
        | nil =>
          show hget ((r, x) :: B) y.1 = hget B y.1
          exact hget_old (Ne.symm hne)
        | cons a A ih =>
          obtain ⟨q, z⟩ := a
          simp only [List.cons_append, hget]
          rw [ih]
      rw [← this A]
      exact h1
    obtain ⟨H0, h0⟩ := inH.split hn'.2 hT
    exact ⟨H0, (List.perm_middle).trans (h0.cons _)⟩
def GCX (P : Program) (T : GH) (f : FuncId) (gs : List GV) (R : GV → GH → Prop) : Prop :=
  ∀ H, GCalls P f gs (T ++ H) (fun g H' => ∃ H1, R g H1 ∧ H' = H1 ++ (T ++ H))
theorem GCX.at {P : Program} {T : GH} {f : FuncId} {gs : List GV} {R : GV → GH → Prop} (h : GCX P T f gs R) (hn : (names T).Nodup) {H : GH} (hT : inH T H) :
    GCalls P f gs H (fun g H' => ∃ H1, R g H1 ∧ H' = H1 ++ H) := by
  obtain ⟨H0, h0⟩ := hT.split hn
  refine (h H0).perm h0 ?_
  rintro g H' ⟨H1, h1, rfl⟩
  exact ⟨H1 ++ H, ⟨H1, h1, rfl⟩, h0.symm.append_left _⟩
theorem GCX.mono {P : Program} {T : GH} {f : FuncId} {gs : List GV} {R R' : GV → GH → Prop} (h : GCX P T f gs R) (hr : ∀ g H1, R g H1 → R' g H1) : GCX P T f gs R' :=
  fun H => (h H).mono fun g H' ⟨H1, h1, h2⟩ => ⟨H1, hr g H1 h1, h2⟩
theorem GCX.of {P : Program} {x : Nat × Nat × List GV} {f : FuncId} {gs : List GV} {R : GV → GH → Prop}
    (h : ∀ H, GCalls P f gs (x :: H) (fun g H' => ∃ G H1 T L, R G H1 ∧ Bor L g G ∧ H' = T ++ H ∧ subH T (L ++ (H1 ++ [x])))) : GCX P [x] f gs R :=
  fun H => (h H).fr fun g H' ⟨G, H1, T, L, h1, h2, h3, h4⟩ => by
    subst h3
    refine ⟨G, H1 ++ ([x] ++ H), FR.trans (FR.perm h4) ?_, H1, h1, rfl⟩
    rw [List.append_assoc, List.append_assoc]
    exact FR.front h2
theorem GCX.of2 {P : Program} {x y : Nat × Nat × List GV} {f : FuncId} {gs : List GV} {R : GV → GH → Prop}
    (h : ∀ H, x.1 ≠ y.1 → GCalls P f gs (x :: y :: H) (fun g H' => ∃ G H1 T L, R G H1 ∧ Bor L g G ∧ H' = T ++ H ∧ subH T (L ++ (H1 ++ [x, y])))) : GCX P [x, y] f gs R := fun H => by
  have h1 : ∀ hne : x.1 ≠ y.1, GCalls P f gs ([x, y] ++ H) (fun g H' => ∃ H1, R g H1 ∧ H' = H1 ++ ([x, y] ++ H)) := fun hne => (h H hne).fr fun g H' ⟨G, H1, T, L, h1, h2, h3, h4⟩ => by
    subst h3
    refine ⟨G, H1 ++ ([x, y] ++ H), FR.trans (FR.perm h4) ?_, H1, h1, rfl⟩
    rw [List.append_assoc, List.append_assoc]
    exact FR.front h2
  intro w D Ω args hst hargs
  exact h1 (by have := hst.nn; simp [names] at this; exact this.1.1) w D Ω args hst hargs
abbrev PuR (P : Program) (x : Nat × Nat × List GV) (f : FuncId) (gs : List GV) (G : GV) : Prop := GCX P [x] f gs (fun g H1 => g = G ∧ H1 = [])
theorem PuR.of {P : Program} {x : Nat × Nat × List GV} {f : FuncId} {gs : List GV} {G : GV}
    (h : ∀ H, GCalls P f gs (x :: H) (fun g H' => ∃ T L, Bor L g G ∧ H' = T ++ H ∧ subH T (L ++ [x]))) : PuR P x f gs G :=
  GCX.of fun H => (h H).mono fun g H' ⟨T, L, h2, h3, h4⟩ => ⟨G, [], T, L, ⟨rfl, rfl⟩, h2, h3, h4⟩
theorem PuR.of0 {P : Program} {x : Nat × Nat × List GV} {f : FuncId} {gs : List GV} {G : GV}
    (h : ∀ H, GCalls P f gs (x :: H) (fun g H' => g = G ∧ H' = x :: H)) : PuR P x f gs G :=
  fun H => (h H).mono fun g H' ⟨h1, h2⟩ => ⟨[], ⟨h1, rfl⟩, h2⟩
theorem PuR.min {P : Program} {x : Nat × Nat × List GV} {f : FuncId} {gs : List GV} {G : GV} (h : GCalls P f gs [x] (fun g H' => g = G ∧ H' = [x])) : PuR P x f gs G :=
  fun H => (GCalls.frame1 (H1 := H) h).perm (by exact List.perm_append_comm) fun g H' ⟨h1, h2⟩ => ⟨[x] ++ H, ⟨[], ⟨h1, rfl⟩, rfl⟩, by rw [h2]; exact List.perm_append_comm⟩
theorem PuR.minB {P : Program} {x : Nat × Nat × List GV} {f : FuncId} {gs : List GV} {G : GV} (h : GCalls P f gs [x] (fun g H' => ∃ L, Bor L g G ∧ subH H' (L ++ [x]))) : PuR P x f gs G :=
  PuR.min (h.fr fun g H' ⟨L, h1, h2⟩ => ⟨G, [x], FR.trans (FR.perm0 h2) (FR.front h1), rfl, rfl⟩)
theorem one_nd (x : Nat × Nat × List GV) : (names [x]).Nodup := by simp [names]
theorem callS.eqR {P : Program} {x : Nat × Nat × List GV} {K : Env → GH → Prop} {is : List GI} {env : Env} {H : GH} {d : Option Nat} {det : Bool} {f : FuncId} {gs : List GV} {G : GV} (h : PuR P x f gs G) (hx : hget H x.1 = some x.2)
    (hk : gsteps P is K (gput env d G) H) : callS P det f (some gs) d is K env H := by
  have h1 : GCalls P f gs H (fun g H' => g = G ∧ H' = H) := (GCX.at h (one_nd x) (.cons hx (.nil _))).mono fun g H' ⟨H1, ⟨e1, e2⟩, e3⟩ => ⟨e1, by rw [e3, e2]; rfl⟩
  unfold callS
  cases det
  · exact ⟨fun g H' => g = G ∧ H' = H, h1, fun g H' ⟨e1, e2⟩ _ => by subst e1; subst e2; exact hk⟩
  · exact ⟨G, h1, hk⟩
theorem callA.eqR {P : Program} {x : Nat × Nat × List GV} {K : Env → GH → Prop} {is : List GI} {env : Env} {H : GH} {d : Option Nat} {f : FuncId} {gs : List GV} {G : GV} (h : PuR P x f gs G) (hx : hget H x.1 = some x.2)
    (hk : gsteps P is K (gput env d G) H) : callA P f (some gs) d is K env H :=
  ⟨fun g H1 => g = G ∧ H1 = [], (GCX.at h (one_nd x) (.cons hx (.nil _))).mono fun g H' ⟨H1, ⟨e1, e2⟩, e3⟩ => ⟨H1, ⟨e1, e2⟩, e3⟩, fun g H1 ⟨e1, e2⟩ _ => by subst e1; subst e2; exact hk⟩
def DcR (P : Program) (y : Nat × Nat × List GV) (f : FuncId) (gs : List GV) (R : GV → GH → Prop) : Prop := ∀ rc, GCX P [(rc, 3, [.cur]), y] f (.ptr rc 3 0 0 :: gs) R
abbrev DvR (P : Program) (y : Nat × Nat × List GV) (f : FuncId) (gs : List GV) (R : GV → Prop) : Prop := DcR P y f gs (fun g H1 => R g ∧ H1 = [])
theorem DcR.of {P : Program} {y : Nat × Nat × List GV} {f : FuncId} {gs : List GV} {R : GV → GH → Prop}
    (h : ∀ rc H, rc ≠ y.1 → GCalls P f (.ptr rc 3 0 0 :: gs) ((rc, 3, [.cur]) :: y :: H) (fun g H' => ∃ G H1 T L, R G H1 ∧ Bor L g G ∧ H' = T ++ H ∧ subH T (L ++ (H1 ++ [(rc, 3, [.cur]), y])))) : DcR P y f gs R :=
  fun rc => GCX.of2 fun H hne => h rc H hne
theorem DvR.of {P : Program} {y : Nat × Nat × List GV} {f : FuncId} {gs : List GV} {R : GV → Prop}
    (h : ∀ rc H, rc ≠ y.1 → GCalls P f (.ptr rc 3 0 0 :: gs) ((rc, 3, [.cur]) :: y :: H) (fun g H' => ∃ G T L, R G ∧ Bor L g G ∧ H' = T ++ H ∧ subH T (L ++ [(rc, 3, [.cur]), y]))) : DvR P y f gs R :=
  DcR.of fun rc H hne => (h rc H hne).mono fun g H' ⟨G, T, L, h1, h2, h3, h4⟩ => ⟨G, [], T, L, ⟨h1, rfl⟩, h2, h3, h4⟩
theorem DcR.at {P : Program} {y : Nat × Nat × List GV} {f : FuncId} {gs : List GV} {R : GV → GH → Prop} (h : DcR P y f gs R) {rc : Nat} {H : GH} (hr : hget H rc = some (3, [.cur])) (hy : hget H y.1 = some y.2) (h3 : y.2.1 ≠ 3) :
    GCalls P f (.ptr rc 3 0 0 :: gs) H (fun g H' => ∃ H1, R g H1 ∧ H' = H1 ++ H) :=
  (h rc).at (by
    have : rc ≠ y.1 := fun e => by rw [← e, hr] at hy; exact h3 (by rw [← Option.some.inj hy])
    simp [names, this]) (.cons hr (.cons hy (.nil _)))
theorem callS.dcR {P : Program} {y : Nat × Nat × List GV} {f : FuncId} {gs : List GV} {R : GV → GH → Prop} {K : Env → GH → Prop} {is : List GI} {env : Env} {H : GH} {d : Option Nat} {rc : Nat} (h : DcR P y f gs R) (hr : hget H rc = some (3, [.cur])) (hy : hget H y.1 = some y.2) (h3 : y.2.1 ≠ 3)
    (hk : ∀ g H1, R g H1 → (names (H1 ++ H)).Nodup → gsteps P is K (gput env d g) (H1 ++ H)) : callS P false f (some (.ptr rc 3 0 0 :: gs)) d is K env H :=
  callS.of (h.at hr hy h3) fun g H' ⟨H1, h1, h2⟩ hn => by subst h2; exact hk g H1 h1 hn
theorem callS.dvR {P : Program} {y : Nat × Nat × List GV} {f : FuncId} {gs : List GV} {R : GV → Prop} {K : Env → GH → Prop} {is : List GI} {env : Env} {H : GH} {d : Option Nat} {rc : Nat} (h : DvR P y f gs R) (hr : hget H rc = some (3, [.cur])) (hy : hget H y.1 = some y.2) (h3 : y.2.1 ≠ 3)
    (hk : ∀ g, R g → gsteps P is K (gput env d g) H) : callS P false f (some (.ptr rc 3 0 0 :: gs)) d is K env H :=
  callS.dcR h hr hy h3 fun g H1 ⟨h1, h2⟩ _ => by subst h2; exact hk g h1
theorem callA.dcR {P : Program} {y : Nat × Nat × List GV} {f : FuncId} {gs : List GV} {R : GV → GH → Prop} {K : Env → GH → Prop} {is : List GI} {env : Env} {H : GH} {d : Option Nat} {rc : Nat} (h : DcR P y f gs R) (hr : hget H rc = some (3, [.cur])) (hy : hget H y.1 = some y.2) (h3 : y.2.1 ≠ 3)
    (hk : ∀ g H1, R g H1 → (names (H1 ++ H)).Nodup → gsteps P is K (gput env d g) (H1 ++ H)) : callA P f (some (.ptr rc 3 0 0 :: gs)) d is K env H :=
  ⟨R, h.at hr hy h3, hk⟩
theorem callA.dvR {P : Program} {y : Nat × Nat × List GV} {f : FuncId} {gs : List GV} {R : GV → Prop} {K : Env → GH → Prop} {is : List GI} {env : Env} {H : GH} {d : Option Nat} {rc : Nat} (h : DvR P y f gs R) (hr : hget H rc = some (3, [.cur])) (hy : hget H y.1 = some y.2) (h3 : y.2.1 ≠ 3)
    (hk : ∀ g, R g → gsteps P is K (gput env d g) H) : callA P f (some (.ptr rc 3 0 0 :: gs)) d is K env H :=
  callA.dcR h hr hy h3 fun g H1 ⟨h1, h2⟩ _ => by subst h2; exact hk g h1
abbrev GrO (rs : Nat) (g : Gram) (X : GV) : GV := .agg [.own rs 2 0 g.syms.length, X]
abbrev syR (rs : Nat) (g : Gram) : Nat × Nat × List GV := (rs, 2, g.syms.map Sy)
theorem names_nd3 {w rc rs : Nat} {x y z : Nat × List GV} {H : GH} (h : (names ([(w, x)] ++ (rc, y) :: (rs, z) :: H)).Nodup) : ¬ w = rc ∧ ¬ w = rs :=
  ⟨fun e => by subst e; simp [names] at h, fun e => by subst e; simp [names] at h⟩
theorem fin_ifR {d : Nat} {a b c : Exp} {q rc rs : Nat} {S : List GV} {H : GH} (ha : shD d a) (hb : shD d b) (hc : shD d c) (hne : ¬ q = rc) (h2 : ¬ q = rs) (h3 : ¬ rc = rs) :
    ∃ G T L, (∃ e, shD (d + 1) e ∧ G = Ex e) ∧ Bor L (.agg [I 5, I 0, I 0, I 0, Gh.T noS, Gh.T noS, .own q 7 0 3]) G ∧ (q, 7, [Ex a, Ex b, Ex c]) :: (rc, 3, [GV.cur]) :: (rs, 2, S) :: H = T ++ H ∧ subH T (L ++ [(rc, 3, [GV.cur]), (rs, 2, S)]) :=
  ⟨_, [_, _, _], [(q, 7, [Ex a, Ex b, Ex c])], ⟨.mk 5 0 0 0 noS noS [a, b, c], shD_node (by decide) (by decide) (by simp) (by simp [ha, hb, hc]), rfl⟩, bor_ExV (l := [a, b, c]) hget_new rfl, rfl, by simp [subH, hget, names, hne, h2, h3]⟩
end Go.Gh

/- Drawn grammars that are written to after they were drawn. -/
namespace Go.Gh
set_option linter.unusedSimpArgs false
set_option linter.unusedVariables false
abbrev RuE (r : Rul) : GV := .agg [T r.name, T r.left, TS r.right, B r.lit, .osl 9 (r.eqs.map Qn), .osl 16 (r.cons.map Co)]
theorem view_RuE (r : Rul) : view (RuE r) = Ru r := by
  have h1 := view_map (f := T) (fun a => rfl) r.right
  have h2 := view_map view_Qn r.eqs
  have h3 := view_map view_Co r.cons
  simp only [view, viewL_eq, List.map_cons, List.map_nil, h1, h2, h3]
def OwG (v : GV) (H1 : GH) : Prop := ∃ (l : List Sym) (D : List Rul) (X : List GV) (q q2 : Nat), drG ⟨l, D⟩ ∧ v = .agg [.own q 2 0 l.length, .own q2 6 0 D.length] ∧ H1 = [(q2, 6, D.map RuE ++ X), (q, 2, l.map Sy)]
theorem FE.ruQE {env : Env} {q q1 n : Nat} {es : List GV} {i : Nat} {r : Rul} {qs : List Eqn} {H : GH} (hne : q1 ≠ q) (hi : i < es.length) (hn : qs.length = n) :
    FE env ((q1, 9, qs.map Qn) :: (q, 6, es.set i (RuX r (.own q1 9 0 n) nilG)) :: H) env ((q, 6, es.set i (RuE { r with eqs := qs, cons := [] })) :: H) := by
  refine FE.trans (FE.close2 (L := es) (i := i) (j := 4) hne hi rfl (by simpa using hn)) ?_
  have := FE.exch (env := env) (H := (q, 6, es.set i (.agg [T r.name, T r.left, TS r.right, B r.lit, .osl 9 (qs.map Qn), nilG])) :: H) (r := q) (sz := 6) (i := i) (es := es.set i (.agg [T r.name, T r.left, TS r.right, B r.lit, .osl 9 (qs.map Qn), nilG])) (e := .agg [T r.name, T r.left, TS r.right, B r.lit, .osl 9 (qs.map Qn), nilG]) (e' := RuE { r with eqs := qs, cons := [] }) (by simp [hget]) (by simp [hi])
    fun w D v F hm => MV.fld (j := 5) (g' := .osl 16 []) rfl (fun v F h => by simp only [MV] at h ⊢; exact .inl ⟨by first | rfl | trivial, h.2, none, h.1⟩) v F hm
  rw [List.set_set] at this
  simpa [hset] using this
theorem FE.ruPE {env : Env} {q q1 q2 n m : Nat} {es : List GV} {i : Nat} {r : Rul} {qs : List Eqn} {cs : List Con} {H : GH} (hne : q1 ≠ q) (hne2 : q2 ≠ q) (hne3 : q2 ≠ q1) (hi : i < es.length) (hn : qs.length = n) (hm : cs.length = m) :
    FE env ((q2, 16, cs.map Co) :: (q1, 9, qs.map Qn) :: (q, 6, es.set i (RuX r (.own q1 9 0 n) (.own q2 16 0 m))) :: H) env ((q, 6, es.set i (RuE { r with eqs := qs, cons := cs })) :: H) := by
  refine FE.trans (FE.perm (H := [_, _, _]) (L := [(q1, 9, qs.map Qn), (q, 6, es.set i (RuX r (.own q1 9 0 n) (.own q2 16 0 m))), (q2, 16, cs.map Co)]) (by simp [subH, hget, names, hne, hne2, hne3, Ne.symm hne, Ne.symm hne2, Ne.symm hne3])) ?_
  refine FE.trans (FE.close2 (L := es) (i := i) (j := 4) hne hi rfl (by simpa using hn)) ?_
  refine FE.trans (FE.perm (H := [_, _]) (L := [(q2, 16, cs.map Co), (q, 6, es.set i (.agg [T r.name, T r.left, TS r.right, B r.lit, .osl 9 (qs.map Qn), .own q2 16 0 m]))]) (by simp [subH, hget, names, hne, hne2, hne3, Ne.symm hne, Ne.symm hne2, Ne.symm hne3])) ?_
  exact FE.close2 (L := es) (i := i) (j := 5) hne2 hi rfl (by simpa using hm)
theorem rul_midE {D L : List Rul} {j : Nat} (hD : D.length = j) (hj : j < L.length) : ∃ es : List GV, D.map RuE ++ (L.drop j).map Ru0 = es ∧ es.length = L.length ∧ (∀ h : j < es.length, es[j] = Ru0 L[j]) ∧
    ∀ r : Rul, es.set j (RuE r) = (D ++ [r]).map RuE ++ (L.drop (j + 1)).map Ru0 := by
  refine ⟨_, rfl, ?_, ?_, ?_⟩
  · simp; omega
  · intro h
    rw [List.getElem_append_right (by simp; omega)]
    simp [hD]
  · intro r
    rw [List.set_append_right _ _ (by simp; omega), List.drop_eq_getElem_cons hj]
    simp only [List.map_cons, List.length_map, hD, Nat.sub_self, List.set_cons_zero, List.map_append, List.map_nil, List.append_assoc, List.singleton_append]
end Go.Gh

/- Rules of any form with memory of their own (l9Free), for the drawn grammars of l10Bent. -/
namespace Go.Gh
set_option linter.unusedSimpArgs false
set_option linter.unusedVariables false
abbrev RuF (r : Rul) (q1 q2 : Nat) : GV := .agg [T r.name, T r.left, .own q1 1 0 r.right.length, B r.lit, .own q2 9 0 r.eqs.length, .sl 16 (r.cons.map Co)]
def frR (r : Rul) : Prop := shT r.name ∧ shT r.left ∧ (r.right.length ≤ 3 ∧ ∀ s ∈ r.right, shT s) ∧ (r.eqs.length ≤ 3 ∧ ∀ q ∈ r.eqs, shT q.name ∧ shEx q.expr) ∧ r.cons.length ≤ 1 ∧ ∀ c ∈ r.cons, shCo c
def FrW (v : GV) (H1 : GH) : Prop := ∃ (r : Rul) (q1 q2 : Nat), frR r ∧ v = RuF r q1 q2 ∧ H1 = [(q2, 9, r.eqs.map Qn), (q1, 1, r.right.map T)]
theorem bor_RuF {H : GH} {r : Rul} {q1 q2 k n2 : Nat} {L : List ByteArray} (h1 : hget H q1 = some (1, L.map T)) (hk : k ≤ L.length) (he : L.take k = r.right) (h2 : hget H q2 = some (9, r.eqs.map Qn)) (e2 : r.eqs.length = n2) :
    Bor H (.agg [T r.name, T r.left, .own q1 1 0 k, B r.lit, .own q2 9 0 n2, .sl 16 (r.cons.map Co)]) (Ru r) := by
  have b1 : Bor H (.own q1 1 0 k) (TS r.right) := by
    have := Bor.own (k := 0) (n := k) h1 (by simpa using hk)
    rw [viewL_eq, List.drop_zero, ← List.map_take, view_map (f := T) (fun a => rfl), he] at this
    exact this
  exact .agg (.cons .refl (.cons .refl (.cons b1 (.cons .refl (.cons (Bor.allM view_Qn h2 e2) (.cons .refl .nil))))))
theorem frR_sh {r : Rul} (h : frR r) : shRu r := by
  obtain ⟨h1, h2, ⟨h3, h4⟩, ⟨h5, h6⟩, h7, h8⟩ := h
  exact ⟨h1, h2, by omega, h4, by omega, h6, by omega, h8⟩
theorem conE_sh {n k : Int} : shEx (.mk 1 n 0 k noS noS []) := by unfold shEx; rw [wEx_lit]; decide
theorem soT_T2 (a b : ByteArray) : soT (some (1, [.val (.string a), .val (.string b)])) 1 1 0 2 = some [.val (.string a), .val (.string b)] := by simp [soT, cleanL, clean]
theorem conE_sh6 : shEx (.mk 6 0 0 0 noS noS []) := by unfold shEx; rw [wEx_lit]; decide
theorem bor_con1 {H : GH} {r : Nat} {s m : ByteArray} {e f : Exp} (he : e.args = []) (hf : f.args = []) (hr : hget H r = some (16, [CoN s m e f])) : Bor H (.own r 16 0 1) (.sl 16 [Co ⟨s, m, e, f⟩]) := by
  refine Bor.exch (i := 0) hr rfl (MV.con he hf) ?_
  refine Bor.allM (l := [(⟨s, m, e, f⟩ : Con)]) view_Co ?_ rfl
  rw [hget_set hr]; rfl
theorem FE.virt1 {env : Env} {H : GH} {r r1 sz sz1 : Nat} {gs : List GV} (j : Nat) (hg : gs[j]? = some (.val (.slice none 0 0))) (ho : r1 % 4 = 1) (hn : r1 ∉ names ((r, sz, [.agg gs]) :: H)) :
    FE env ((r, sz, [.agg gs]) :: H) env ((r1, sz1, []) :: (r, sz, [.agg (gs.set j (.own r1 sz1 0 0))]) :: H) := by
  have := FE.virtF (env := env) (sz1 := sz1) (i := 0) (j := j) hget_new rfl hg ho hn
  simpa [hset] using this
theorem FE.virt2 {env : Env} {H : GH} {r r1 r2 sz s1 s2 : Nat} {gs : List GV} (j1 j2 : Nat) (hg : gs[j1]? = some (.val (.slice none 0 0))) (ho : r1 % 4 = 1) (hn : r1 ∉ names ((r, sz, [.agg gs]) :: H))
    (hg2 : (gs.set j1 (.own r1 s1 0 0))[j2]? = some (.val (.slice none 0 0))) (ho2 : r2 % 4 = 1) (hn2 : r2 ∉ names ((r, sz, [.agg gs]) :: (r1, s1, []) :: H)) :
    FE env ((r, sz, [.agg gs]) :: H) env ((r1, s1, []) :: (r2, s2, []) :: (r, sz, [.agg ((gs.set j1 (.own r1 s1 0 0)).set j2 (.own r2 s2 0 0))]) :: H) := by
  refine FE.trans (FE.virt1 (sz1 := s1) j1 hg ho hn) (FE.trans FE.swap (FE.trans (FE.virt1 (sz1 := s2) j2 hg2 ho2 (by simpa [names] using hn2)) ?_))
  exact FE.perm (H := [_, _, _]) (L := [(r1, s1, []), (r2, s2, []), _]) (by
    have h1 : ¬ r1 = r := by simp [names] at hn; exact hn.1
    have h2 : ¬ r2 = r ∧ ¬ r2 = r1 := by simp [names] at hn2; exact ⟨hn2.1, hn2.2.1⟩
    have h3 : ¬ r1 = r2 := fun h => h2.2 h.symm
    have h4 : ¬ r = r1 := fun h => h1 h.symm
    have h5 : ¬ r = r2 := fun h => h2.1 h.symm
    simp [subH, hget, names, h1, h2.1, h2.2, h3, h4, h5])
theorem okRu_of {nm lf : ByteArray} {rt : List ByteArray} {li : Bool} {qs : List Eqn} {cs : List Con} (h1 : shT nm) (h2 : shT lf) (h3 : rt.length ≤ 5) (k3 : ∀ s ∈ rt, shT s) (h4 : qs.length ≤ 65) (k4 : ∀ q ∈ qs, shT q.name ∧ shEx q.expr) (h5 : cs.length ≤ 64) (k5 : ∀ c ∈ cs, shCo c) : okRu ⟨nm, lf, rt, li, qs, cs⟩ ∧ smRu ⟨nm, lf, rt, li, qs, cs⟩ :=
  ⟨⟨shT_le h1, shT_le h2, fun s hs => shT_le (k3 s hs), fun q hq => ⟨shT_le (k4 q hq).1, (shEx_ok (k4 q hq).2).1⟩, fun c hc => ⟨shT_le (k5 c hc).1, shT_le (k5 c hc).2.1, (shEx_ok (k5 c hc).2.2.1).1, (shEx_ok (k5 c hc).2.2.2).1⟩⟩,
    ⟨by show rt.length ≤ _; omega, by show qs.length ≤ _; omega, by show cs.length ≤ _; omega, fun q hq => (shEx_ok (k4 q hq).2).2, fun c hc => ⟨(shEx_ok (k5 c hc).2.2.1).2, (shEx_ok (k5 c hc).2.2.2).2⟩⟩⟩
theorem okS_set {l : List Sym} {D : List Rul} {k : Nat} {r : Rul} (h : shGr ⟨l, D⟩) (hr : okRu r ∧ smRu r) : okGr ⟨l, D.set k r⟩ ∧ smGr ⟨l, D.set k r⟩ := by
  have hm : ∀ x ∈ D.set k r, okRu x ∧ smRu x := fun x hx => by
    rcases List.mem_or_eq_of_mem_set hx with hx | rfl
    · exact ⟨shRu_ok (h.2.2.2 x hx), shRu_sm (h.2.2.2 x hx)⟩
    · exact hr
  exact ⟨⟨(shGr_ok h).1, fun x hx => (hm x hx).1⟩, (shGr_sm h).1, by have := h.2.2.1; show (D.set k r).length ≤ _; rw [List.length_set]; change D.length ≤ 16 at this; omega, (shGr_sm h).2.2.1, fun x hx => (hm x hx).2⟩
theorem okS_sym {l : List Sym} {D : List Rul} {y : Sym} (h : shGr ⟨l, D⟩) (hy : shSy y) : okGr ⟨l.set 0 y, D⟩ ∧ smGr ⟨l.set 0 y, D⟩ := by
  have hm : ∀ x ∈ l.set 0 y, shSy x := fun x hx => by
    rcases List.mem_or_eq_of_mem_set hx with hx | rfl
    · exact h.1.2.2 x hx
    · exact hy
  exact ⟨⟨fun x hx => shSy_ok (hm x hx), (shGr_ok h).2⟩, by have := (shGr_sm h).1; show (l.set 0 y).length ≤ _; rw [List.length_set]; exact this, (shGr_sm h).2.1, fun x hx => shSy_sm (hm x hx), (shGr_sm h).2.2.2⟩
def beG (g : Gram) : Prop := (okGr g ∧ smGr g) ∧ g.syms.length ≤ 4
theorem esF (f : Rul → GV) (hf : ∀ r, view (f r) = Ru r) (D : List Rul) (X : List GV) : ∃ es, D.map f ++ X = es ∧ D.length ≤ es.length ∧ (∀ k (hk : k < D.length) (h : k < es.length), es[k] = f D[k]) ∧
    (∀ k Y r', view Y = Ru r' → viewL ((es.set k Y).take D.length) = (D.set k r').map Ru) ∧ viewL (es.take D.length) = D.map Ru := by
  have h0 : viewL ((D.map f ++ X).take D.length) = D.map Ru := by
    rw [List.take_append_of_le_length (by simp), List.take_of_length_le (by simp), viewL_eq, List.map_map]
    exact List.map_congr_left fun a _ => hf a
  refine ⟨_, rfl, by simp, fun k hk h => by rw [List.getElem_append_left (by simpa using hk), List.getElem_map], fun k Y r' hY => ?_, h0⟩
  rw [viewL_eq] at h0 ⊢
  rw [List.take_set, List.map_set, h0, hY, ← List.map_set]
theorem viewL_app (a b : List GV) : viewL (a ++ b) = viewL a ++ viewL b := by simp [viewL_eq]
theorem viewL_RuE (D : List Rul) (X : List GV) : viewL (D.map RuE ++ X) = D.map Ru ++ viewL X := by
  rw [viewL_app]; congr 1
  rw [viewL_eq, List.map_map]
  exact List.map_congr_left fun a _ => view_RuE a
theorem borG {q q2 n m : Nat} {es fs : List GV} {l : List Sym} {D : List Rul} (hne : ¬ q2 = q) (hf : viewL (fs.take n) = l.map Sy) (hn : n ≤ fs.length) (he : viewL (es.take m) = D.map Ru) (hm : m ≤ es.length) : Bor [(q2, 6, es), (q, 2, fs)] (.agg [.own q 2 0 n, .own q2 6 0 m]) (Gr ⟨l, D⟩) := by
  have b1 : Bor [(q2, 6, es), (q, 2, fs)] (.own q 2 0 n) (SyS l) := by
    have := Bor.own (H := [(q2, 6, es), (q, 2, fs)]) (r := q) (sz := 2) (k := 0) (n := n) (es := fs) (by simp [hget, hne]) (by omega)
    rwa [List.drop_zero, hf] at this
  have b2 : Bor [(q2, 6, es), (q, 2, fs)] (.own q2 6 0 m) (RuS D) := by
    have := Bor.own (H := [(q2, 6, es), (q, 2, fs)]) (r := q2) (sz := 6) (k := 0) (n := m) (es := es) hget_new (by omega)
    rwa [List.drop_zero, he] at this
  exact .agg (.cons b1 (.cons b2 .nil))
theorem view_Sys (l : List Sym) : viewL ((l.map Sy).take l.length) = l.map Sy := by
  rw [List.take_of_length_le (by simp), viewL_eq, view_map view_Sy]
theorem view_SysS (l : List Sym) (y : Sym) : viewL (((l.map Sy).set 0 (Sy y)).take l.length) = (l.set 0 y).map Sy := by
  rw [List.take_of_length_le (by simp), ← List.map_set, viewL_eq, view_map view_Sy]
end Go.Gh

/- FnHeights: the plain law: a symbol's height is one more than the least greatest height of the children of its rules. -/
namespace Go.Gh
set_option linter.unusedSimpArgs false
set_option linter.unusedVariables false
def hiR (g : Gram) (r : Rul) : Nat → Int
  | 0 => 0
  | k + 1 => if hiR g r k < 0 then hiR g r k else if minH g (r.right.getD k noS) = 0 then -2 else if hiR g r k < minH g (r.right.getD k noS) then minH g (r.right.getD k noS) else hiR g r k
def bestT (g : Gram) (s : ByteArray) : Nat → Int
  | 0 => 0
  | i + 1 => if (g.rules.getD i rulZ).left = s ∧ 0 ≤ hiR g (g.rules.getD i rulZ) (g.rules.getD i rulZ).right.length ∧ (bestT g s i = 0 ∨ hiR g (g.rules.getD i rulZ) (g.rules.getD i rulZ).right.length + 1 < bestT g s i)
    then hiR g (g.rules.getD i rulZ) (g.rules.getD i rulZ).right.length + 1 else bestT g s i
theorem minH_nn (g : Gram) (s : ByteArray) : 0 ≤ minH g s := by
  unfold minH hOf
  split
  · omega
  · rw [List.getD_eq_getElem?_getD]
    cases h : (hgts g)[(ixOf (fun t : Sym => decide (t.name = s)) g.syms).toNat]? with
    | none => simp
    | some x => exact hIt_nn g _ x (List.mem_of_getElem? h)
theorem hiR_neg {g : Gram} {r : Rul} : ∀ k, hiR g r k < 0 ↔ ∃ j, j < k ∧ minH g (r.right.getD j noS) = 0
  | 0 => by simp [hiR]
  | k + 1 => by
    have ih := hiR_neg (g := g) (r := r) k
    simp only [hiR]
    by_cases h1 : hiR g r k < 0
    · rw [if_pos h1]
      obtain ⟨j, hj, h⟩ := ih.1 h1
      exact ⟨fun _ => ⟨j, by omega, h⟩, fun _ => h1⟩
    · rw [if_neg h1]
      by_cases h2 : minH g (r.right.getD k noS) = 0
      · rw [if_pos h2]
        exact ⟨fun _ => ⟨k, by omega, h2⟩, fun _ => by omega⟩
      · rw [if_neg h2]
        have hn : ¬ ∃ j, j < k + 1 ∧ minH g (r.right.getD j noS) = 0 := by
          rintro ⟨j, hj, h⟩
          rcases Nat.lt_succ_iff_lt_or_eq.1 hj with e | e
          · exact h1 (ih.2 ⟨j, e, h⟩)
          · exact h2 (e ▸ h)
        refine ⟨fun h => ?_, fun h => absurd h hn⟩
        have := minH_nn g (r.right.getD k noS)
        split at h <;> omega
theorem hiR_le {g : Gram} {r : Rul} (m : Int) (hm : 0 ≤ m) : ∀ k, 0 ≤ hiR g r k → (hiR g r k ≤ m ↔ ∀ j, j < k → minH g (r.right.getD j noS) ≤ m)
  | 0, _ => by simp [hiR]; exact hm
  | k + 1, h => by
    have hk : ¬ hiR g r k < 0 := fun h0 => by simp only [hiR, if_pos h0] at h; omega
    have ih := hiR_le (g := g) (r := r) m hm k (by omega)
    have h2 : ¬ minH g (r.right.getD k noS) = 0 := fun h0 => by simp only [hiR, if_neg hk, if_pos h0] at h; omega
    simp only [hiR, if_neg hk, if_neg h2]
    have hall : (∀ j, j < k + 1 → minH g (r.right.getD j noS) ≤ m) ↔ (∀ j, j < k → minH g (r.right.getD j noS) ≤ m) ∧ minH g (r.right.getD k noS) ≤ m :=
      ⟨fun h => ⟨fun j hj => h j (by omega), h k (by omega)⟩, fun ⟨h1, h2⟩ j hj => by
        rcases Nat.lt_succ_iff_lt_or_eq.1 hj with e | e
        · exact h1 j e
        · exact e ▸ h2⟩
    rw [hall, ← ih]
    split <;> omega
def okHR (g : Gram) (s : ByteArray) (i : Nat) (h : Int) : Prop := (g.rules.getD i rulZ).left = s ∧ 0 ≤ hiR g (g.rules.getD i rulZ) (g.rules.getD i rulZ).right.length ∧ hiR g (g.rules.getD i rulZ) (g.rules.getD i rulZ).right.length + 1 = h
theorem bestT_spec {g : Gram} {s : ByteArray} : ∀ i, (bestT g s i = 0 ∧ ∀ j h, j < i → ¬ okHR g s j h) ∨ (0 < bestT g s i ∧ (∃ j, j < i ∧ okHR g s j (bestT g s i)) ∧ ∀ j h, j < i → okHR g s j h → bestT g s i ≤ h)
  | 0 => .inl ⟨rfl, fun j h hj => by omega⟩
  | i + 1 => by
    have ih := bestT_spec (g := g) (s := s) i
    by_cases c : (g.rules.getD i rulZ).left = s ∧ 0 ≤ hiR g (g.rules.getD i rulZ) (g.rules.getD i rulZ).right.length ∧ (bestT g s i = 0 ∨ hiR g (g.rules.getD i rulZ) (g.rules.getD i rulZ).right.length + 1 < bestT g s i)
    · have e : bestT g s (i + 1) = hiR g (g.rules.getD i rulZ) (g.rules.getD i rulZ).right.length + 1 := by simp only [bestT]; rw [if_pos c]
      obtain ⟨c1, c2, c3⟩ := c
      refine .inr ⟨by omega, ⟨i, by omega, c1, c2, e.symm⟩, fun j h hj hk => ?_⟩
      rcases Nat.lt_succ_iff_lt_or_eq.1 hj with e2 | e2
      · rcases ih with ⟨_, h2⟩ | ⟨h1, _, h3⟩
        · exact absurd hk (h2 j h e2)
        · have := h3 j h e2 hk
          omega
      · subst e2
        have := hk.2.2
        omega
    · have e : bestT g s (i + 1) = bestT g s i := by simp only [bestT]; rw [if_neg c]
      rw [e]
      rcases ih with ⟨h1, h2⟩ | ⟨h1, ⟨j, hj, hk⟩, h3⟩
      · refine .inl ⟨h1, fun j h hj hk => ?_⟩
        rcases Nat.lt_succ_iff_lt_or_eq.1 hj with e2 | e2
        · exact h2 j h e2 hk
        · subst e2; exact c ⟨hk.1, hk.2.1, .inl h1⟩
      · refine .inr ⟨h1, ⟨j, by omega, hk⟩, fun j h hj hk => ?_⟩
        rcases Nat.lt_succ_iff_lt_or_eq.1 hj with e2 | e2
        · exact h3 j h e2 hk
        · rcases Int.lt_or_le h (bestT g s i) with h4 | h4
          · rw [e2] at hk
            exact absurd ⟨hk.1, hk.2.1, .inr (by have := hk.2.2; omega)⟩ c
          · exact h4
theorem hIt_keep {g : Gram} {i : Nat} (hi : i < g.syms.length) {k : Nat} (h : 0 < (hIt g k).getD i 0) : (hIt g (k + 1)).getD i 0 = (hIt g k).getD i 0 := by
  rw [hNext_eq hi, hNext, if_pos h]
theorem hIt_keeps {g : Gram} {i : Nat} (hi : i < g.syms.length) {k : Nat} (h : 0 < (hIt g k).getD i 0) : ∀ d, (hIt g (k + d)).getD i 0 = (hIt g k).getD i 0
  | 0 => rfl
  | d + 1 => by
    have ih := hIt_keeps hi h d
    rw [← Nat.add_assoc, hIt_keep hi (by rw [ih]; exact h), ih]
theorem getD_nn {g : Gram} (k i : Nat) : 0 ≤ (hIt g k).getD i 0 := by
  rw [List.getD_eq_getElem?_getD]
  cases h : (hIt g k)[i]? with
  | none => simp
  | some x => exact hIt_nn g _ x (List.mem_of_getElem? h)
theorem hIt_at {g : Gram} {i : Nat} (hi : i < g.syms.length) : ∀ k, 0 < (hIt g k).getD i 0 → ∃ m, m < k ∧ (hIt g k).getD i 0 = (m : Int) + 1 ∧ (hIt g m).getD i 0 = 0 ∧ rchS g (hIt g m) (g.syms.getD i symZ).name = true
  | 0, h => by
    rw [getD_lt (by rw [hIt_len]; exact hi)] at h
    simp [hIt] at h
  | k + 1, h => by
    by_cases h0 : 0 < (hIt g k).getD i 0
    · obtain ⟨m, h1, h2, h3⟩ := hIt_at hi k h0
      exact ⟨m, by omega, by rw [hIt_keep hi h0]; exact h2, h3⟩
    · have hz : (hIt g k).getD i 0 = 0 := by have := getD_nn (g := g) k i; omega
      rw [hNext_eq hi, hNext, if_neg h0] at h ⊢
      by_cases hr : rchS g (hIt g k) (g.syms.getD i symZ).name = true
      · rw [if_pos hr]
        exact ⟨k, by omega, rfl, hz, hr⟩
      · rw [if_neg hr] at h
        omega
theorem hOf_le {g : Gram} (k : Nat) (hk : k ≤ g.syms.length) (c : ByteArray) : 0 < hOf g (hIt g k) c ↔ 0 < minH g c ∧ minH g c ≤ k := by
  unfold minH hOf hgts
  by_cases h : ixOf (fun s : Sym => decide (s.name = c)) g.syms < 0
  · rw [if_pos h, if_pos h]; omega
  · rw [if_neg h, if_neg h]
    rcases ixOf_cases (fun s : Sym => decide (s.name = c)) g.syms with h1 | ⟨_, h1⟩
    · omega
    generalize ixOf (fun s : Sym => decide (s.name = c)) g.syms = x at *
    have hi : x.toNat < g.syms.length := by omega
    constructor
    · intro hp
      obtain ⟨m, h2, h3, _⟩ := hIt_at hi k hp
      have h4 := hIt_keeps hi hp (g.syms.length - k)
      rw [show k + (g.syms.length - k) = g.syms.length from by omega] at h4
      omega
    · rintro ⟨h2, h3⟩
      obtain ⟨m, h4, h5, h6, h7⟩ := hIt_at hi _ h2
      have h8 : 0 < (hIt g (m + 1)).getD x.toNat 0 := by
        rw [hNext_eq hi, hNext, if_neg (by omega), if_pos h7]; omega
      have h9 := hIt_keeps hi h8 (k - (m + 1))
      rw [show m + 1 + (k - (m + 1)) = k from by omega] at h9
      omega
theorem rchS_iff {g : Gram} (k : Nat) (hk : k ≤ g.syms.length) (s : ByteArray) : rchS g (hIt g k) s = true ↔ ∃ i, i < g.rules.length ∧ (g.rules.getD i rulZ).left = s ∧ 0 ≤ hiR g (g.rules.getD i rulZ) (g.rules.getD i rulZ).right.length ∧ hiR g (g.rules.getD i rulZ) (g.rules.getD i rulZ).right.length ≤ k := by
  have key : ∀ r : Rul, (∀ c ∈ r.right, 0 < hOf g (hIt g k) c) ↔ 0 ≤ hiR g r r.right.length ∧ hiR g r r.right.length ≤ k := by
    intro r
    have e1 : (∀ c ∈ r.right, 0 < hOf g (hIt g k) c) ↔ ∀ j, j < r.right.length → 0 < minH g (r.right.getD j noS) ∧ minH g (r.right.getD j noS) ≤ k := by
      constructor
      · intro h j hj
        rw [getD_lt hj]
        exact (hOf_le k hk _).1 (h _ (List.getElem_mem hj))
      · intro h c hc
        obtain ⟨j, hj, rfl⟩ := List.mem_iff_getElem.1 hc
        have := h j hj
        rw [getD_lt hj] at this
        exact (hOf_le k hk _).2 this
    rw [e1]
    constructor
    · intro h
      have h0 : 0 ≤ hiR g r r.right.length := by
        rcases Int.lt_or_le (hiR g r r.right.length) 0 with h1 | h1
        · obtain ⟨j, hj, h2⟩ := (hiR_neg _).1 h1
          have := (h j hj).1
          omega
        · exact h1
      exact ⟨h0, (hiR_le k (by omega) _ h0).2 fun j hj => (h j hj).2⟩
    · rintro ⟨h0, h1⟩ j hj
      refine ⟨?_, (hiR_le k (by omega) _ h0).1 h1 j hj⟩
      have h2 := minH_nn g (r.right.getD j noS)
      have h3 : minH g (r.right.getD j noS) ≠ 0 := fun h3 => by
        have := (hiR_neg (g := g) (r := r) r.right.length).2 ⟨j, hj, h3⟩
        omega
      omega
  unfold rchS rchR
  rw [List.any_eq_true]
  constructor
  · rintro ⟨r, hr, h⟩
    simp only [Bool.and_eq_true, decide_eq_true_eq, List.all_eq_true] at h
    obtain ⟨i, hi, rfl⟩ := List.mem_iff_getElem.1 hr
    refine ⟨i, hi, ?_⟩
    rw [getD_lt hi]
    exact ⟨h.1, (key _).1 h.2⟩
  · rintro ⟨i, hi, h1, h2⟩
    rw [getD_lt hi] at h1 h2
    refine ⟨g.rules[i], List.getElem_mem hi, ?_⟩
    simp only [Bool.and_eq_true, decide_eq_true_eq, List.all_eq_true]
    exact ⟨h1, (key _).2 h2⟩
theorem pigeon : ∀ (n : Nat) (l : List Int), (∀ m : Nat, m ≤ n → (m : Int) ∈ l) → n + 1 ≤ l.length
  | 0, l, h => by
    have := List.length_pos_of_mem (h 0 (Nat.le_refl _))
    omega
  | n + 1, l, h => by
    have hm := h (n + 1) (Nat.le_refl _)
    have h2 := List.length_erase_of_mem hm
    have h3 := List.length_pos_of_mem hm
    have := pigeon n (l.erase ((n + 1 : Nat) : Int)) fun m hm2 => (List.mem_erase_of_ne (by omega)).2 (h m (by omega))
    omega
theorem hbelow {g : Gram} : ∀ (m : Nat), (∃ i, i < g.syms.length ∧ (hgts g).getD i 0 = (m : Int) + 1) → ∀ q : Nat, q ≤ m → ∃ i, i < g.syms.length ∧ (hgts g).getD i 0 = (q : Int) + 1
  | 0, h, q, hq => by obtain rfl : q = 0 := by omega
                      exact h
  | m + 1, ⟨i, hi, h⟩, q, hq => by
    by_cases e : q = m + 1
    · exact e ▸ ⟨i, hi, h⟩
    refine hbelow m ?_ q (by omega)
    obtain ⟨k, h1, h2, h3, h4⟩ := hIt_at hi g.syms.length (by unfold hgts at h; omega)
    unfold hgts at h
    obtain rfl : k = m + 1 := by omega
    obtain ⟨j, j1, j2, j3, j4⟩ := (rchS_iff (m + 1) (by omega) _).1 h4
    have h5 : ¬ rchS g (hIt g m) (g.syms.getD i symZ).name = true := fun h5 => by
      have h6 : (hIt g m).getD i 0 = 0 := by
        rcases Int.lt_or_le 0 ((hIt g m).getD i 0) with h6 | h6
        · have := hIt_keep hi h6; omega
        · have := getD_nn (g := g) m i; omega
      rw [hNext_eq hi, hNext, if_neg (by omega), if_pos h5] at h3
      omega
    have h6 : ¬ hiR g (g.rules.getD j rulZ) (g.rules.getD j rulZ).right.length ≤ m := fun h6 => h5 ((rchS_iff m (by omega) _).2 ⟨j, j1, j2, j3, h6⟩)
    have h7 : ∃ c, c < (g.rules.getD j rulZ).right.length ∧ ¬ minH g ((g.rules.getD j rulZ).right.getD c noS) ≤ m := by
      refine Classical.byContradiction fun hn => h6 ((hiR_le (m : Int) (by omega) _ j3).2 fun c hc => ?_)
      exact Classical.byContradiction fun hm => hn ⟨c, hc, hm⟩
    obtain ⟨c, hc, h8⟩ := h7
    have h9 := (hiR_le ((m + 1 : Nat) : Int) (by omega) _ j3).1 j4 c hc
    have h10 : minH g ((g.rules.getD j rulZ).right.getD c noS) = (m : Int) + 1 := by omega
    unfold minH hOf at h10
    split at h10
    · omega
    · rcases ixOf_cases (fun s : Sym => decide (s.name = (g.rules.getD j rulZ).right.getD c noS)) g.syms with h11 | ⟨_, h11⟩
      · omega
      · exact ⟨_, by omega, h10⟩
theorem minH_best (g : Gram) (s : ByteArray) (h : hSym g.syms s = true) : minH g s = bestT g s g.rules.length := by
  have hx : 0 ≤ ixOf (fun t : Sym => decide (t.name = s)) g.syms ∧ ixOf (fun t : Sym => decide (t.name = s)) g.syms < g.syms.length := by
    rcases ixOf_cases (fun t : Sym => decide (t.name = s)) g.syms with h1 | h1
    · unfold hSym at h
      unfold ixOf at h1
      cases h2 : g.syms.findIdx? (fun t : Sym => decide (t.name = s)) with
      | none =>
        rw [List.findIdx?_eq_none_iff] at h2
        rw [List.find?_isSome] at h
        obtain ⟨x, hx, hp⟩ := h
        rw [h2 x hx] at hp; cases hp
      | some i => rw [h2] at h1; simp at h1
    · exact h1
  have hnm : (g.syms.getD (ixOf (fun t : Sym => decide (t.name = s)) g.syms).toNat symZ).name = s := by
    have hx' := hx
    unfold ixOf at hx' ⊢
    cases h2 : g.syms.findIdx? (fun t : Sym => decide (t.name = s)) with
    | none => rw [h2] at hx'; simp at hx'
    | some i =>
      obtain ⟨h3, h4, _⟩ := List.findIdx?_eq_some_iff_getElem.1 h2
      simp only [Int.toNat_natCast]
      rw [getD_lt h3]
      simpa using h4
  have hm : minH g s = (hIt g g.syms.length).getD (ixOf (fun t : Sym => decide (t.name = s)) g.syms).toNat 0 := by
    unfold minH hOf hgts; rw [if_neg (by omega)]
  have hi : (ixOf (fun t : Sym => decide (t.name = s)) g.syms).toNat < g.syms.length := by omega
  generalize (ixOf (fun t : Sym => decide (t.name = s)) g.syms).toNat = x at *
  rcases Int.lt_or_le 0 (minH g s) with hp | hp
  · rw [hm] at hp
    obtain ⟨m, h1, h2, h3, h4⟩ := hIt_at hi _ hp
    rw [hnm] at h4
    obtain ⟨j, j1, j2, j3, j4⟩ := (rchS_iff m (by omega) _).1 h4
    rcases bestT_spec (g := g) (s := s) g.rules.length with ⟨_, b2⟩ | ⟨b1, ⟨i, i1, i2⟩, b3⟩
    · exact absurd ⟨j2, j3, rfl⟩ (b2 j _ j1)
    · have b4 := b3 j _ j1 ⟨j2, j3, rfl⟩
      have b5 : ¬ bestT g s g.rules.length ≤ m := fun b5 => by
        obtain ⟨k, hk⟩ : ∃ k : Nat, (k : Int) + 1 = bestT g s g.rules.length := ⟨(bestT g s g.rules.length - 1).toNat, by omega⟩
        have b6 : rchS g (hIt g k) s = true := (rchS_iff k (by omega) _).2 ⟨i, i1, i2.1, i2.2.1, by have := i2.2.2; omega⟩
        have b7 : ¬ 0 < (hIt g (k + 1)).getD x 0 := fun b7 => by
          have := hIt_keeps hi b7 (m - (k + 1))
          rw [show k + 1 + (m - (k + 1)) = m from by omega] at this
          omega
        refine b7 ?_
        rw [hNext_eq hi, hNext]
        split
        · assumption
        · rw [hnm, if_pos b6]; omega
      omega
  · have h0 : minH g s = 0 := by have := minH_nn g s; omega
    rw [h0]
    rcases bestT_spec (g := g) (s := s) g.rules.length with ⟨b1, _⟩ | ⟨b1, ⟨i, i1, i2⟩, _⟩
    · exact b1.symm
    · exfalso
      have hz : (hIt g g.syms.length).getD x 0 = 0 := by omega
      have hno : ∀ k, k < g.syms.length → ¬ rchS g (hIt g k) s = true := fun k hk hr => by
        have h1 : ¬ 0 < (hIt g (k + 1)).getD x 0 := fun h1 => by
          have := hIt_keeps hi h1 (g.syms.length - (k + 1))
          rw [show k + 1 + (g.syms.length - (k + 1)) = g.syms.length from by omega] at this
          omega
        refine h1 ?_
        rw [hNext_eq hi, hNext]
        split
        · assumption
        · rw [hnm, if_pos hr]; omega
      have h1 : ∃ c, c < (g.rules.getD i rulZ).right.length ∧ ¬ minH g ((g.rules.getD i rulZ).right.getD c noS) ≤ (g.syms.length : Int) - 1 := by
        refine Classical.byContradiction fun hn => ?_
        refine hno (g.syms.length - 1) (by omega) ((rchS_iff _ (by omega) _).2 ⟨i, i1, i2.1, i2.2.1, ?_⟩)
        rw [hiR_le _ (by omega) _ i2.2.1]
        intro c hc
        refine Classical.byContradiction fun hm => hn ⟨c, hc, fun h5 => hm (by omega)⟩
      obtain ⟨c, hc, h2⟩ := h1
      unfold minH hOf at h2
      split at h2
      · omega
      · rename_i h3
        have h4 : (ixOf (fun t : Sym => decide (t.name = (g.rules.getD i rulZ).right.getD c noS)) g.syms).toNat < g.syms.length := by
          rcases ixOf_cases (fun t : Sym => decide (t.name = (g.rules.getD i rulZ).right.getD c noS)) g.syms with h5 | h5 <;> omega
        generalize (ixOf (fun t : Sym => decide (t.name = (g.rules.getD i rulZ).right.getD c noS)) g.syms).toNat = y at *
        obtain ⟨m, m1, m2, _⟩ := hIt_at h4 g.syms.length (by unfold hgts at h2; omega)
        unfold hgts at h2
        have hb := hbelow (g := g) (g.syms.length - 1) ⟨y, h4, by unfold hgts; omega⟩
        have hp := pigeon g.syms.length (hgts g) fun q hq => by
          rcases Nat.eq_zero_or_pos q with e | e
          · subst e
            have := List.getElem_mem (l := hgts g) (n := x) (by unfold hgts; rw [hIt_len]; exact hi)
            rw [← getD_lt (d := 0)] at this
            unfold hgts at this ⊢
            rw [hz] at this
            exact this
          · obtain ⟨z, z1, z2⟩ := hb (q - 1) (by omega)
            have := List.getElem_mem (l := hgts g) (n := z) (by unfold hgts; rw [hIt_len]; exact z1)
            rw [← getD_lt (d := 0), z2] at this
            have e2 : ((q - 1 : Nat) : Int) + 1 = q := by omega
            rw [e2] at this
            exact this
        unfold hgts at hp
        rw [hIt_len] at hp
        omega
end Go.Gh

/- FnHeights: what its walk needs. -/
namespace Go.Gh
set_option linter.unusedSimpArgs false
set_option linter.unusedVariables false
theorem minH_le {g : Gram} (h : g.syms.length ≤ 4) (s : ByteArray) : minH g s ≤ 4 := by
  unfold minH hOf
  split
  · omega
  · have := (hIt_rng g g.syms.length (ixOf (fun t : Sym => decide (t.name = s)) g.syms).toNat).2
    unfold hgts
    omega
theorem minH_no {g : Gram} {s : ByteArray} (h : hSym g.syms s = false) : minH g s = 0 := by
  unfold minH hOf
  rw [if_pos]
  unfold ixOf
  cases h2 : g.syms.findIdx? (fun t : Sym => decide (t.name = s)) with
  | none => simp
  | some i =>
    exfalso
    obtain ⟨h3, h4, _⟩ := List.findIdx?_eq_some_iff_getElem.1 h2
    unfold hSym at h
    rw [Bool.eq_false_iff, ne_eq, List.find?_isSome] at h
    exact h ⟨_, List.getElem_mem h3, h4⟩
theorem hiR_rng {g : Gram} (h : g.syms.length ≤ 4) (r : Rul) : ∀ k, -2 ≤ hiR g r k ∧ hiR g r k ≤ 4
  | 0 => by simp [hiR]
  | k + 1 => by
    have ih := hiR_rng h r k
    have h1 := minH_le h (r.right.getD k noS)
    have h2 := minH_nn g (r.right.getD k noS)
    simp only [hiR]
    split
    · exact ih
    · split
      · omega
      · split <;> omega
theorem hiR_stay {g : Gram} {r : Rul} {k : Nat} (h : hiR g r k < 0) : ∀ m, hiR g r (k + m) = hiR g r k
  | 0 => rfl
  | m + 1 => by
    have ih := hiR_stay h m
    show hiR g r (k + m + 1) = _
    simp only [hiR]
    rw [if_pos (by omega), ih]
theorem hiR_all {g : Gram} {r : Rul} {k n : Nat} (h : hiR g r k < 0) (hk : k ≤ n) : hiR g r n = hiR g r k := by
  have := hiR_stay h (n - k)
  rwa [show k + (n - k) = n from by omega] at this
theorem hiR_step {g : Gram} {r : Rul} {k : Nat} (hk : k < r.right.length) (h : 0 ≤ hiR g r k) :
    hiR g r (k + 1) = if minH g r.right[k] = 0 then -2 else if hiR g r k < minH g r.right[k] then minH g r.right[k] else hiR g r k := by
  have hg : r.right.getD k noS = r.right[k] := getD_lt hk
  simp only [hiR]
  rw [if_neg (by omega), hg]
theorem bestT_step {g : Gram} {s : ByteArray} {i : Nat} (hi : i < g.rules.length) :
    bestT g s (i + 1) = if g.rules[i].left = s ∧ 0 ≤ hiR g g.rules[i] g.rules[i].right.length ∧ (bestT g s i = 0 ∨ hiR g g.rules[i] g.rules[i].right.length + 1 < bestT g s i) then hiR g g.rules[i] g.rules[i].right.length + 1 else bestT g s i := by
  have hg : g.rules.getD i rulZ = g.rules[i] := getD_lt hi
  simp only [bestT]
  rw [hg]
theorem bestT_rng {g : Gram} (h : g.syms.length ≤ 4) (s : ByteArray) : ∀ i, 0 ≤ bestT g s i ∧ bestT g s i ≤ 5
  | 0 => by simp [bestT]
  | i + 1 => by
    have ih := bestT_rng h s i
    have h1 := hiR_rng h (g.rules.getD i rulZ) (g.rules.getD i rulZ).right.length
    simp only [bestT]
    split
    · omega
    · exact ih
end Go.Gh

/- The laws' argument: bytes. -/
namespace Go.Gh
theorem t_Bytes {g : GV} (h : ET false [.sl false [.int .u8]] g) : ∃ bs : List UInt8, g = Bs bs := by
  have h1 := t_one h
  simp only [CT] at h1
  obtain ⟨es, rfl, _, he⟩ := h1
  obtain ⟨l, rfl, _⟩ := list_of (f := fun b : UInt8 => GV.val (.int .u8 b.toNat)) (ok := fun _ => True) (es := es) fun e hm => by
    obtain ⟨gs, k1, k2⟩ := he e hm
    simp only [CTs, CT] at k1
    obtain ⟨g, gs', rfl, ⟨n, rfl, hn⟩, rfl⟩ := k1
    simp at k2
    refine ⟨UInt8.ofNat n.toNat, ?_, trivial⟩
    have hr : 0 ≤ n ∧ n < 256 := by
      simp only [Lit.wf, Bool.and_eq_true, decide_eq_true_eq] at hn
      have e1 : IntKind.u8.min = 0 := rfl
      have e2 : IntKind.u8.max = 255 := rfl
      rw [e1, e2] at hn
      omega
    rw [← k2]
    have : ((UInt8.ofNat n.toNat).toNat : Int) = n := by
      rw [UInt8.toNat_ofNat']
      omega
    rw [this]
  exact ⟨l, rfl⟩
end Go.Gh

namespace Go.Gh
@[irreducible] def MkQ (p : Prop) : Prop := p
theorem mkQI {p : Prop} (h : MkQ p) : p := by unfold MkQ at h; exact h
theorem mkQU {p : Prop} (h : p) : MkQ p := by unfold MkQ; exact h
end Go.Gh

/- Short words for ghost code. -/
namespace Go.Gh.Z
abbrev x (d : Nat) (o : GOp) : GI := ⟨some d, none, o⟩
abbrev y (d g : Nat) (o : GOp) : GI := ⟨some d, some (g, true), o⟩
abbrev z (d g : Nat) (o : GOp) : GI := ⟨some d, some (g, false), o⟩
abbrev m (d a : Nat) : GI := ⟨some d, none, .mov (.t a)⟩
abbrev k (d : Nat) (n : Int) : GI := ⟨some d, none, .mov (.k (.val (.int .i64 n)))⟩
abbrev b (d : Nat) (n : Bool) : GI := ⟨some d, none, .mov (.k (.val (.bool n)))⟩
abbrev l (d a : Nat) : GI := ⟨some d, none, .load 1 false (.t a)⟩
abbrev h (d n a : Nat) : GI := ⟨some d, none, .load n true (.t a)⟩
abbrev f (d o a : Nat) : GI := ⟨some d, none, .faddr o 1 false (.t a)⟩
abbrev e (d o n a : Nat) : GI := ⟨some d, none, .faddr o n true (.t a)⟩
abbrev i (d n a c : Nat) : GI := ⟨some d, none, .iaddr n (.t a) (.t c)⟩
abbrev c (d f : Nat) (a : List GE) : GI := ⟨some d, none, .call false f a⟩
abbrev o (d : Nat) (p : BinOp) (a b : Nat) : GI := ⟨some d, none, .bin p (.t a) (.t b)⟩
abbrev q (d : Nat) (p : BinOp) (a : Nat) (n : Int) : GI := ⟨some d, none, .bin p (.t a) (.k (.val (.int .i64 n)))⟩
abbrev n (d a : Nat) : GI := ⟨some d, none, .len (.t a)⟩
abbrev w (d a : Nat) : GI := ⟨some d, none, .not (.t a)⟩
abbrev a (d n r : Nat) : GI := ⟨some d, none, .boxro n (.t r)⟩
abbrev t (d n r : Nat) : GI := ⟨some d, none, .stro n d (.t r)⟩
abbrev u (d n : Nat) : GI := ⟨some d, none, .allocr n⟩
abbrev v (d r j : Nat) : GI := ⟨some d, none, .ext (.t r) j⟩
abbrev p (n o a : Nat) : GOp := .faddr o n false (.t a)
abbrev r (n a : Nat) : GOp := .load n false (.t a)
abbrev j (n a : Nat) : GOp := .load n true (.t a)
abbrev A (d a b : Nat) : GI := ⟨some d, none, .pick (.t a) (.t b) (.k (.val (.bool false)))⟩
abbrev O (d a b : Nat) : GI := ⟨some d, none, .pick (.t a) (.k (.val (.bool true))) (.t b)⟩
abbrev M (d g a : Nat) : GI := ⟨some d, some (g, true), .mov (.t a)⟩
abbrev N (d g a : Nat) : GI := ⟨some d, some (g, false), .mov (.t a)⟩
abbrev I (o p : Nat) (a : Nat) (n : Int) : GI := ⟨some o, some (p, true), .bin .eql (.t a) (.k (.val (.int .i64 n)))⟩
abbrev J (o p : Nat) (a : Nat) (n : Int) : GI := ⟨some o, some (p, false), .bin .eql (.t a) (.k (.val (.int .i64 n)))⟩
abbrev G (d f : Nat) (a : List GE) : GI := ⟨some d, none, .call true f a⟩
abbrev Q (d n b s x : Nat) : GI := ⟨some d, none, .append n b (.t s) (.t x)⟩
abbrev E (d n : Nat) (b : Bool) : GI := ⟨some d, none, .bslice n [] 0 b []⟩
abbrev Z (d : Nat) : GI := ⟨some d, none, .mov (.k (.val (.slice none 0 0)))⟩
abbrev K (n : Int) : GE := .k (.val (.int .i64 n))
abbrev S (a b : GC) : GC := .seq a b
abbrev D (n : Nat) (a b : GC) : GC := .cond n a b
abbrev F : GC := .skip
abbrev R : GC := .ret
abbrev C (c e : Nat) (x : GC) : GC := .seq (.cond c .skip (.exit e)) x
abbrev B (n : Nat) (x : GC) : GC := .block n (.loop x)
abbrev s (a : List GI) (b : GC) : GC := .seq (.reg a) b
end Go.Gh.Z
namespace Go.Gh
theorem jF {P : Program} {f : Nat} {fn : Func} {F : GFun} {c : Code} (h : P.funcs[f]? = some fn) (md : List (Nat × Nat) := []) (h0 : fn.body = some c := by rfl) (h1 : (fn.name == "runtime.NumGoroutine") = false := by kernel_rfl) (h2 : compC P F.cf md c = some F.gc := by kernel_rfl) (h3 : compRes P fn.results.toList = some F.gr := by kernel_rfl) (h4 : fn.ntmps = F.cf.N := by rfl) : IsFun P f F := ⟨fn, c, md, h, h1, h0, h2, h3, h4⟩
end Go.Gh

namespace Go.Proofs.Ytkmedfejmndmjaa
open Go.Gh Go.Gh.Z
abbrev iF := IsFun Try.prog
def g3 : GFun := ⟨⟨123,[3,9,13]⟩,(s [b 2 false] (S (s [m 15 0,c 16 4 [.t 15]] (D 16 (s [b 2 true] R) F)) (s [m 18 0,c 19 5 [.t 18],m 17 19,v 20 17 0,v 21 17 1,u 3 2,t 3 2 20,m 4 21] (s [h 22 2 3,m 23 4,c 24 6 [.t 22,.t 23],m 5 24] (S
 (s [m 25 5,h 26 2 3,m 27 4,c 28 7 [.t 26,.t 27],o 29 .neq 25 28,m 30 29,z 31 30 (j 2 3),N 32 30 4,z 33 30 (.call false 8 [.t 31,.t 32]),N 34 30 5,z 35 30 (.bin .gtr (.t 34) (K 0)),z 36 30 (.beq true (.t 33) (.t 35)),O 37 30 36] (D 37
 (s [b 2 false] R) F)) (s [k 6 0] (s [h 38 2 3,m 39 4,c 40 9 [.t 38,.t 39],m 7 40] (S (s [k 8 0] (B 0 (S (s [m 41 8,f 42 1 3,l 43 42,n 44 43,o 45 .lss 41 44] (D 45 F (.exit 0))) (S (.block 1 (s [f 48 1 3,l 49 48,m 50 8,i 51 6 49 50,
 h 52 6 51,u 9 6,t 9 6 52] (s [k 10 0] (S (s [k 11 0] (B 2 (S (s [m 53 11,f 54 2 9,l 55 54,n 56 55,o 57 .lss 53 56,m 58 57,M 59 58 10,y 60 58 (.bin .geq (.t 59) (K 0)),A 61 58 60] (D 61 F (.exit 2))) (S (.block 3 (s [f 65 2 9,m 67 11,
 h 64 2 3,l 66 65,i 68 1 66 67,l 69 68,G 70 6 [.t 64,.t 69],m 12 70] (s [m 71 12,q 72 .eql 71 0] (D 72 (.reg [k 10 (-2)]) (s [m 73 12,m 74 10,o 75 .gtr 73 74] (D 75 (.reg [m 76 12,m 10 76]) F)))))) (.reg [m 62 11,q 63 .add 62 1,
 m 11 63]))))) (s [f 77 1 9,l 78 77,m 79 4,o 80 .eql 78 79,m 81 80,M 82 81 10,y 83 81 (.bin .geq (.t 82) (K 0)),A 84 81 83,m 85 84,M 86 85 6,I 87 85 86 0,M 88 85 87,N 89 88 10,z 90 88 (.bin .add (.t 89) (K 1)),N 91 88 6,z 92 88 (.bin .lss
 (.t 90) (.t 91)),y 93 85 (.pick (.t 88) (.k (.val (.bool true))) (.t 92)),A 94 85 93] (D 94 (.reg [m 95 10,q 96 .add 95 1,m 6 96]) F)))))) (.reg [m 46 8,q 47 .add 46 1,m 8 47]))))) (s [h 98 2 3,m 99 4,c 100 10 [.t 98,.t 99],m 97 100,
 v 101 97 0,v 102 97 1,u 13 2,t 13 2 101,m 14 102] (s [m 103 5,m 104 6,o 105 .eql 103 104,m 106 105,N 107 106 14,z 108 106 (.not (.t 107)),N 109 106 108,M 110 109 5,I 111 109 110 0,z 112 106 (.pick (.t 109) (.t 111) (.k (.val
 (.bool false)))),O 113 106 112,m 114 113,N 115 114 7,z 116 114 (.len (.t 115)),J 117 114 116 0,N 118 114 117,M 119 118 5,I 120 118 119 0,z 121 114 (.pick (.t 118) (.t 120) (.k (.val (.bool false)))),O 122 114 121,m 2 122] R)))))))))),
 [.t 2]⟩
theorem i3 : iF 3 g3 := jF Try.func3
def g4 : GFun := ⟨⟨6,[]⟩,(s [b 2 false] (s [m 3 0,n 4 3,q 5 .gtr 4 1048576,m 2 5] R)),[.t 2]⟩
theorem i4 : iF 4 g4 := jF Try.func4
def g5 : GFun := ⟨⟨8,[2]⟩,(s [u 2 2,x 3 (.mov (.k (.val (.string (ByteArray.mk #[])))))] (s [m 4 0,c 5 11 [.t 4],v 6 5 0,v 7 5 1,t 2 2 6,m 3 7] R)),[(.c 2 2 true),.t 3]⟩
theorem i5 : iF 5 g5 := jF Try.func5
def g6 : GFun := ⟨⟨25,[2,6]⟩,(s [a 2 2 0,k 4 0] (S (s [f 7 0 2,l 8 7,n 9 8,k 10 0] (B 0 (s [o 11 .lss 10 9] (C 11 0 (S (.block 1 (s [m 12 10,i 13 2 8 10,h 14 2 13,u 6 2,m 5 12,t 6 2 14] (s [f 15 0 6,l 16 15,m 17 1,o 18 .eql 16 17] (D 18
 (s [h 19 2 2,c 20 12 [.t 19],m 21 5,i 22 1 20 21,l 23 22,m 4 23] R) F)))) (.reg [q 24 .add 10 1,m 10 24])))))) (s [k 4 0] R))),[.t 4]⟩
theorem i6 : iF 6 g6 := jF Try.func6
def g7 : GFun := ⟨⟨16,[2]⟩,(s [a 2 2 0,k 4 0] (s [h 6 2 2,m 7 1,c 8 13 [.t 6,.t 7],m 5 8] (S (s [m 9 5,q 10 .lss 9 0] (D 10 (s [k 4 0] R) F)) (s [h 11 2 2,c 12 14 [.t 11],m 13 5,i 14 1 12 13,l 15 14,m 4 15] R)))),[.t 4]⟩
theorem i7 : iF 7 g7 := jF Try.func7
def g8 : GFun := ⟨⟨9,[2]⟩,(s [a 2 2 0,b 4 false] (s [h 5 2 2,m 6 1,c 7 6 [.t 5,.t 6],q 8 .gtr 7 0,m 4 8] R)),[.t 4]⟩
theorem i8 : iF 8 g8 := jF Try.func8
def g9 : GFun := ⟨⟨33,[2]⟩,(s [a 2 2 0,Z 4] (s [E 7 1 false,m 5 7] (S (s [k 6 0] (B 0 (S (s [m 8 6,f 9 1 2,l 10 9,n 11 10,o 12 .lss 8 11] (D 12 F (.exit 0))) (S (.block 1 (s [f 15 1 2,l 16 15,m 17 6,i 18 6 16 17,f 19 1 18,l 20 19,m 21 1,
 o 22 .eql 20 21] (D 22 (.reg [m 23 5,f 24 1 2,l 25 24,m 26 6,i 27 6 25 26,f 28 0 27,l 29 28,x 30 (.bslice 1 [] 1 false [(0,(.t 29))]),Q 31 1 16 23 30,m 5 31]) F))) (.reg [m 13 6,q 14 .add 13 1,m 6 14]))))) (s [m 32 5,m 4 32] R)))),[.t 4]⟩
theorem i9 : iF 9 g9 := jF Try.func9
def g10 : GFun := ⟨⟨29,[2,4]⟩,(s [a 2 2 0,u 4 2,b 5 false] (S (s [k 6 0] (B 0 (S (s [m 7 6,f 8 0 2,l 9 8,n 10 9,o 11 .lss 7 10] (D 11 F (.exit 0))) (S (.block 1 (s [f 14 0 2,l 15 14,m 16 6,i 17 2 15 16,f 18 0 17,l 19 18,m 20 1,
 o 21 .eql 19 20] (D 21 (s [f 22 0 2,l 23 22,m 24 6,i 25 2 23 24,h 26 2 25,c 27 15 [.t 26],t 4 2 27,b 5 true] R) F))) (.reg [m 12 6,q 13 .add 12 1,m 6 13]))))) (s [x 28 (.build [(.val (.string (ByteArray.mk #[]))),(.val
 (.slice none 0 0))] []),t 4 2 28,b 5 false] R))),[(.c 4 2 true),.t 5]⟩
theorem i10 : iF 10 g10 := jF Try.func10
def g11 : GFun := ⟨⟨12,[2,3000010]⟩,(s [u 2 2,x 3 (.mov (.k (.val (.string (ByteArray.mk #[])))))] (s [m 5 0,c 6 16 [.t 5],m 4 6] (s [m 7 4,c 8 17 [.t 7],m 9 4,x 10 (.bslro 1 [] 4 false [(0,(.k (.val (.string (ByteArray.mk #[115]))))),(1,
 (.k (.val (.string (ByteArray.mk #[116]))))),(2,(.k (.val (.string (ByteArray.mk #[117]))))),(3,(.k (.val (.string (ByteArray.mk #[122])))))]),c 11 18 [.t 9,.t 10],t 2 2 8,m 3 11] R))),[(.c 2 2 true),.t 3]⟩
theorem i11 : iF 11 g11 := jF Try.func11
def g12 : GFun := ⟨⟨81,[1,8,10]⟩,(s [a 1 2 0,Z 2] (s [f 14 0 1,l 15 14,n 16 15,x 17 (.mkslice 1 8 (.val (.int .i64 0)) (.t 16) (.t 16)),x 3 (.alloc 1 (.val (.slice none 0 0))),(.mk none none (.store 1 (.t 3) (.t 17)))] (s [x 18
 (.mkfn 19 [.t 1,.t 3]),m 4 18] (S (s [k 5 1] (B 0 (S (s [m 19 5,f 20 0 1,l 21 20,n 22 21,o 23 .leq 19 22] (D 23 F (.exit 0))) (S (.block 1 (s [l 26 3,n 27 26,x 28 (.mkslice 1 8 (.val (.int .i64 0)) (.t 27) (.t 27)),m 6 28] (s [m 29 6,
 l 30 3,x 31 (.copy 1 (.t 29) (.t 30))] (S (s [f 32 0 1,l 33 32,n 34 33,k 35 0] (B 2 (s [o 36 .lss 35 34] (C 36 2 (S (.block 3 (s [m 37 35,i 38 2 33 35,h 39 2 38,u 8 2,m 7 37,t 8 2 39] (S (s [l 40 3,m 41 7,i 42 1 40 41,l 43 42,
 q 44 .gtr 43 0] (D 44 (.exit 3) F)) (s [f 45 1 1,l 46 45,n 47 46,k 48 0] (B 4 (s [o 49 .lss 48 47] (C 49 4 (S (.block 5 (s [i 50 6 46 48,h 51 6 50,u 10 6,t 10 6 51] (s [f 52 1 10,l 53 52,f 54 0 8,l 55 54,o 56 .eql 53 55,m 11 56] (S
 (s [f 57 2 10,l 58 57,n 59 58,k 60 0] (B 6 (s [o 61 .lss 60 59] (C 61 6 (S (.block 7 (s [i 62 1 58 60,l 63 62,m 13 63] (.reg [m 64 11,m 65 64,M 66 65 4,M 67 65 13,y 68 65 (.callv false (.t 66) [.t 67]),y 69 65 (.bin .gtr (.t 68) (K 0)),
 A 70 65 69,m 11 70]))) (.reg [q 71 .add 60 1,m 60 71])))))) (s [m 72 11] (D 72 (.reg [m 73 6,m 74 7,m 75 5,i 76 1 73 74,(.mk none none (.store 1 (.t 76) (.t 75)))]) F)))))) (.reg [q 77 .add 48 1,m 48 77]))))))))) (.reg [q 78 .add 35 1,
 m 35 78])))))) (.reg [m 79 6,(.mk none none (.store 1 (.t 3) (.t 79)))]))))) (.reg [m 24 5,q 25 .add 24 1,m 5 25]))))) (s [l 80 3,m 2 80] R))))),[.t 2]⟩
theorem i12 : iF 12 g12 := jF Try.func12
def g13 : GFun := ⟨⟨22,[2]⟩,(s [a 2 2 0,k 4 0] (S (s [k 5 0] (B 0 (S (s [m 6 5,f 7 0 2,l 8 7,n 9 8,o 10 .lss 6 9] (D 10 F (.exit 0))) (S (.block 1 (s [f 13 0 2,l 14 13,m 15 5,i 16 2 14 15,f 17 0 16,l 18 17,m 19 1,o 20 .eql 18 19] (D 20
 (s [m 21 5,m 4 21] R) F))) (.reg [m 11 5,q 12 .add 11 1,m 5 12]))))) (s [k 4 (-1)] R))),[.t 4]⟩
theorem i13 : iF 13 g13 := jF Try.func13
def g14 : GFun := ⟨⟨50,[1]⟩,(s [a 1 2 0,Z 2] (s [f 7 0 1,l 8 7,n 9 8,x 10 (.mkslice 1 8 (.val (.int .i64 0)) (.t 9) (.t 9)),m 3 10] (S (s [k 4 1] (B 0 (S (s [m 11 4,f 12 0 1,l 13 12,n 14 13,o 15 .leq 11 14] (D 15 F (.exit 0))) (S
 (.block 1 (s [E 18 1 false,m 19 3,Q 20 1 8 18 19,m 5 20] (S (s [k 6 0] (B 2 (S (s [m 21 6,f 22 0 1,l 23 22,n 24 23,o 25 .lss 21 24] (D 25 F (.exit 2))) (S (.block 3 (s [m 28 3,m 29 6,i 30 1 28 29,l 31 30,q 32 .eql 31 0,m 33 32,y 35 33
 (p 1 0 1),M 37 33 6,M 41 33 3,y 34 33 (j 2 1),y 36 33 (r 1 35),y 38 33 (.iaddr 2 (.t 36) (.t 37)),y 39 33 (p 1 0 38),y 40 33 (r 1 39),y 42 33 (.call true 20 [.t 34,.t 40,.t 41]),A 43 33 42] (D 43 (.reg [m 44 5,m 45 6,m 46 4,i 47 1 44 45,
 (.mk none none (.store 1 (.t 47) (.t 46)))]) F))) (.reg [m 26 6,q 27 .add 26 1,m 6 27]))))) (.reg [m 48 5,m 3 48])))) (.reg [m 16 4,q 17 .add 16 1,m 4 17]))))) (s [m 49 3,m 2 49] R)))),[.t 2]⟩
theorem i14 : iF 14 g14 := jF Try.func14
def g15 : GFun := ⟨⟨10,[1,2]⟩,(s [a 1 2 0,u 2 2] (s [f 3 0 1,x 4 (.loadr 1 false (.t 3)),f 6 1 1,x 7 (.loadr 1 false (.t 6)),E 5 4 true,Q 8 4 40 5 7,x 9 (.build [(.val (.string (ByteArray.mk #[]))),(.val (.slice none 0 0))] [(0,(1,(.t 4))),
 (1,(1,(.t 8)))]),t 2 2 9] R)),[(.c 2 2 true)]⟩
theorem i15 : iF 15 g15 := jF Try.func15
def g16 : GFun := ⟨⟨32,[]⟩,(s [x 2 (.mov (.k (.val (.pointer none))))] (s [m 5 0,n 6 5,x 7 (.bin .add (K 26583) (.t 6)),m 3 7] (S (s [k 4 0] (B 0 (S (s [m 8 4,m 9 0,n 10 9,o 11 .lss 8 10,m 12 11,M 13 12 4,y 14 12 (.bin .lss (.t 13)
 (K 4000)),A 15 12 14] (D 15 F (.exit 0))) (S (.block 1 (.reg [m 18 3,q 19 .mul 18 131,m 20 0,m 21 4,i 22 1 20 21,l 23 22,x 24 (.conv .i64 (.t 23)),o 25 .add 19 24,q 26 .add 25 7,q 27 .and 26 1073741823,m 3 27])) (.reg [m 16 4,
 q 17 .add 16 1,m 4 17]))))) (s [m 28 0,m 29 3,x 30 (.build [(.val (.slice none 0 0)),(.val (.int .i64 0)),(.val (.int .i64 0))] [(0,(1,(.t 28))),(2,(1,(.t 29)))]),x 31 (.box 3 (.t 30)),m 2 31] R)))),[.t 2]⟩
theorem i16 : iF 16 g16 := jF Try.func16
def g17 : GFun := ⟨⟨127,[2,3000102,4093003,5076003]⟩,(s [u 2 2] (s [m 5 0,m 6 0,c 7 22 [.t 6,K 2],c 8 21 [.t 5,.t 7],x 3 (.alloc 2 (.agg [(.val (.slice none 0 0)),(.val (.slice none 0 0))])),(.mk none none (.store 2 (.t 3) (.t 8)))]
 (s [m 9 0,f 10 1 3,l 11 10,n 12 11,c 13 23 [.t 9,.t 12],m 4 13] (S (s [m 14 0,c 15 23 [.t 14,K 14]] (.block 0 (s [q 17 .eql 15 0,m 16 17] (D 16 (.reg [f 18 1 3,m 20 4,m 21 0,l 19 18,x 22 (.calla 24 [.t 21]),i 23 6 19 20,(.mk none none
 (.store 6 (.t 23) (.t 22)))]) (s [q 25 .eql 15 1,m 24 25] (D 24 (.reg [f 26 0 3,m 28 0,l 27 26,x 29 (.calla 25 [.t 28]),x 30 (.iaddr 2 (.t 27) (K 0)),(.mk none none (.store 2 (.t 30) (.t 29)))]) (s [q 32 .eql 15 2,m 31 32] (D 31
 (.reg [f 33 1 3,m 35 4,f 36 1 3,l 34 33,l 37 36,x 38 (.iaddr 6 (.t 37) (K 0)),f 39 0 38,l 40 39,i 41 6 34 35,f 42 0 41,(.mk none none (.store 1 (.t 42) (.t 40)))]) (s [q 44 .eql 15 3,m 43 44] (D 43 (s [f 45 1 3,l 46 45,m 47 4,i 48 6 46 47,
 f 49 4 48,l 50 49,n 51 50,q 52 .gtr 51 0] (D 52 (.reg [f 53 1 3,m 55 4,f 56 1 3,m 58 4,l 54 53,l 57 56,i 59 6 57 58,f 60 4 59,l 61 60,x 62 (.slc 9 (.t 61) (some (K 1)) none),i 63 6 54 55,f 64 4 63,(.mk none none (.store 1 (.t 64)
 (.t 62)))]) F)) (s [q 66 .eql 15 4,m 65 66] (D 65 (s [f 67 1 3,l 68 67,m 69 4,i 70 6 68 69,f 71 4 70,l 72 71,n 73 72,q 74 .gtr 73 0] (D 74 (.reg [f 75 1 3,m 77 4,f 78 1 3,m 80 4,f 84 1 3,m 86 4,x 76 (.ldx 1 false 75 3),l 79 78,
 i 81 6 79 80,f 82 4 81,l 83 82,l 85 84,i 87 6 85 86,f 88 4 87,l 89 88,x 90 (.iaddr 9 (.t 89) (K 0)),h 91 9 90,x 92 (.bslice 9 [] 1 true [(0,(.t 91))]),x 93 (.appx [3] 9 112 (.t 83) (.t 92)),i 94 6 76 77,f 95 4 94,(.mk none none (.store 1
 (.t 95) (.t 93)))]) F)) (s [q 97 .eql 15 5,m 96 97] (D 96 (.reg [f 98 1 3,m 100 4,m 101 0,x 102 (.bslro 1 [] 2 false [(0,(.k (.val (.string (ByteArray.mk #[115]))))),(1,(.k (.val (.string (ByteArray.mk #[122])))))]),l 99 98,x 103
 (.calla 18 [.t 101,.t 102]),i 104 6 99 100,f 105 1 104,(.mk none none (.store 1 (.t 105) (.t 103)))]) (s [q 107 .eql 15 6,m 106 107] (D 106 (s [f 108 1 3,l 109 108,m 110 4,i 111 6 109 110,f 112 4 111,l 113 112,n 114 113,q 115 .gtr 114 0]
 (D 115 (.reg [f 116 1 3,m 118 4,m 122 0,l 117 116,i 119 6 117 118,f 120 4 119,l 121 120,x 123 (.calla 26 [.t 122]),x 124 (.iaddr 9 (.t 121) (K 0)),e 125 2 7 124,(.mk none none (.store 7 (.t 125) (.t 123)))]) F)) F))))))))))))))))
 (s [h 126 2 3,t 2 2 126] R))))),[(.c 2 2 true)]⟩
theorem i17 : iF 17 g17 := jF Try.func17 [(5, 528), (7, 144), (17, 2064), (20, 32784)]
def g18 : GFun := ⟨⟨12,[]⟩,(s [x 4 (.mov (.k (.val (.string (ByteArray.mk #[])))))] (s [m 5 1,m 6 0,m 7 1,n 8 7,c 9 23 [.t 6,.t 8],i 10 1 5 9,l 11 10,m 4 11] R)),[.t 4]⟩
theorem i18 : iF 18 g18 := jF Try.func18
def g19 : GFun := ⟨⟨24,[6]⟩,(s [k 4 0] (S (s [f 7 0 1,l 8 7,n 9 8,k 10 0] (B 0 (s [o 11 .lss 10 9] (C 11 0 (S (.block 1 (s [m 12 10,i 13 2 8 10,h 14 2 13,u 6 2,m 5 12,t 6 2 14] (s [f 15 0 6,l 16 15,m 17 0,o 18 .eql 16 17] (D 18 (s [l 19 2,
 m 20 5,i 21 1 19 20,l 22 21,m 4 22] R) F)))) (.reg [q 23 .add 10 1,m 10 23])))))) (s [k 4 0] R))),[.t 4]⟩
theorem i19 : iF 19 g19 := jF Try.func19
def g20 : GFun := ⟨⟨56,[3,8]⟩,(s [a 3 2 0,b 6 false] (S (s [k 7 0] (B 0 (S (s [m 12 7,f 13 1 3,l 14 13,n 15 14,o 16 .lss 12 15] (D 16 F (.exit 0))) (S (.block 1 (s [f 19 1 3,l 20 19,m 21 7,i 22 6 20 21,h 23 6 22,u 8 6,t 8 6 23]
 (s [f 24 1 8,l 25 24,m 26 1,o 27 .eql 25 26,m 9 27] (S (s [k 10 0] (B 2 (S (s [m 28 10,f 29 2 8,l 30 29,n 31 30,o 32 .lss 28 31] (D 32 F (.exit 2))) (S (.block 3 (s [f 36 2 8,m 38 10,h 35 2 3,l 37 36,i 39 1 37 38,l 40 39,G 41 13 [.t 35,
 .t 40],m 11 41] (.reg [m 42 9,m 43 42,M 44 43 11,y 45 43 (.bin .geq (.t 44) (K 0)),A 46 43 45,m 47 46,M 48 47 2,M 49 47 11,y 50 47 (.call false 27 [.t 49,K 0]),y 51 47 (.iaddr 1 (.t 48) (.t 50)),y 52 47 (r 1 51),y 53 47 (.bin .gtr
 (.t 52) (K 0)),A 54 47 53,m 9 54]))) (.reg [m 33 10,q 34 .add 33 1,m 10 34]))))) (s [m 55 9] (D 55 (s [b 6 true] R) F)))))) (.reg [m 17 7,q 18 .add 17 1,m 7 18]))))) (s [b 6 false] R))),[.t 6]⟩
theorem i20 : iF 20 g20 := jF Try.func20
def g21 : GFun := ⟨⟨154,[4,1000012,3000020]⟩,(s [u 4 2] (s [x 16 (.build [(.val (.slice none 0 0)),(.val (.slice none 0 0))] []),x 5 (.alloc 2 (.agg [(.val (.slice none 0 0)),(.val (.slice none 0 0))])),(.mk none none (.store 2 (.t 5)
 (.t 16)))] (s [m 17 0,c 18 23 [.t 17,K 3],x 19 (.bin .add (K 1) (.t 18)),m 6 19] (s [x 20 (.bslro 1 [] 3 false [(0,(.k (.val (.string (ByteArray.mk #[115]))))),(1,(.k (.val (.string (ByteArray.mk #[116]))))),(2,(.k (.val (.string
 (ByteArray.mk #[117])))))]),m 21 6,x 22 (.slc 1 (.t 20) none (some (.t 21))),m 7 22] (S (s [k 8 0] (B 0 (S (s [m 23 8,m 24 6,o 25 .lss 23 24] (D 25 F (.exit 0))) (S (.block 1 (.reg [f 28 0 5,m 30 0,m 31 7,m 32 8,i 33 1 31 32,m 35 8,
 q 36 .eql 35 0,m 37 1,l 29 28,l 34 33,x 38 (.calla 28 [.t 30,.t 34,.t 36,.t 37]),x 39 (.bslice 2 [] 1 true [(0,(.t 38))]),Q 40 2 40 29 39,f 41 0 5,(.mk none none (.store 1 (.t 41) (.t 40)))])) (.reg [m 26 8,q 27 .add 26 1,m 8 27]))))) (S
 (s [k 9 0] (B 2 (S (s [m 42 9,m 43 6,o 44 .lss 42 43] (D 44 F (.exit 2))) (S (.block 3 (s [f 47 1 5,m 49 7,m 50 9,i 51 1 49 50,m 54 7,m 55 9,i 56 1 54 55,m 58 0,l 48 47,l 52 51,x 53 (.bin .add (.k (.val (.string (ByteArray.mk #[108,101,97,
 102])))) (.t 52)),l 57 56,x 59 (.calla 22 [.t 58,K 3]),w 60 59,x 61 (.build [(.val (.string (ByteArray.mk #[]))),(.val (.string (ByteArray.mk #[]))),(.val (.slice none 0 0)),(.val (.bool false)),(.val (.slice none 0 0)),(.val
 (.slice none 0 0))] [(0,(1,(.t 53))),(1,(1,(.t 57))),(3,(1,(.t 60)))]),x 62 (.bslice 6 [] 1 true [(0,(.t 61))]),Q 63 6 112 48 62,f 64 1 5,(.mk none none (.store 1 (.t 64) (.t 63)))] (s [m 65 0,c 66 23 [.t 65,K 2],x 67 (.bin .add (K 1)
 (.t 66)),m 10 67] (s [k 11 0] (B 4 (S (s [m 68 11,m 69 10,o 70 .lss 68 69] (D 70 F (.exit 4))) (S (.block 5 (s [m 73 7,m 74 9,i 75 1 73 74,m 78 11,m 81 7,m 82 9,i 83 1 81 82,m 85 0,u 12 6,l 76 75,x 77 (.bin .add (.k (.val (.string
 (ByteArray.mk #[112])))) (.t 76)),G 79 29 [.t 78],o 80 .add 77 79,l 84 83,x 86 (.calla 22 [.t 85,K 4]),x 87 (.build [(.val (.string (ByteArray.mk #[]))),(.val (.string (ByteArray.mk #[]))),(.val (.slice none 0 0)),(.val (.bool false)),
 (.val (.slice none 0 0)),(.val (.slice none 0 0))] [(0,(1,(.t 80))),(1,(1,(.t 84))),(3,(1,(.t 86)))]),x 12 (.strb 6 12 (.t 87))] (s [m 88 0,c 89 23 [.t 88,K 3],x 90 (.bin .add (K 1) (.t 89)),m 13 90] (S (s [k 14 0] (B 6 (S (s [m 91 14,
 m 92 13,o 93 .lss 91 92] (D 93 F (.exit 6))) (S (.block 7 (.reg [f 96 2 12,m 98 0,m 99 7,l 97 96,x 100 (.calla 18 [.t 98,.t 99]),x 101 (.bslice 1 [] 1 false [(0,(.t 100))]),Q 102 1 16 97 101,f 103 2 12,(.mk none none (.store 1 (.t 103)
 (.t 102)))])) (.reg [m 94 14,q 95 .add 94 1,m 14 95]))))) (.reg [f 104 1 5,l 105 104,h 106 6 12,x 107 (.bslice 6 [] 1 true [(0,(.t 106))]),Q 108 6 112 105 107,f 109 1 5,(.mk none none (.store 1 (.t 109) (.t 108)))]))))) (.reg [m 71 11,
 q 72 .add 71 1,m 11 72])))))))) (.reg [m 45 9,q 46 .add 45 1,m 9 46]))))) (S (s [f 110 1 5,l 111 110,n 112 111,q 113 .gtr 112 8] (D 113 (.reg [f 114 1 5,l 115 114,x 116 (.slc 6 (.t 115) none (some (K 8))),f 117 1 5,(.mk none none
 (.store 1 (.t 117) (.t 116)))]) F)) (S (s [k 15 0] (B 8 (S (s [m 118 15,f 119 1 5,l 120 119,n 121 120,o 122 .lss 118 121] (D 122 F (.exit 8))) (S (.block 9 (s [f 125 1 5,m 127 15,m 128 0,f 130 1 5,m 132 15,m 135 1,w 136 135,l 126 125,
 h 129 2 5,l 131 130,i 133 6 131 132,h 134 6 133,x 137 (.calla 30 [.t 128,.t 129,.t 134,.t 136]),i 138 6 126 127,(.mk none none (.store 6 (.t 138) (.t 137)))] (s [m 139 1,w 140 139] (D 140 (.reg [f 141 1 5,m 143 15,m 144 0,f 146 1 5,
 m 148 15,l 142 141,h 145 2 5,l 147 146,i 149 6 147 148,h 150 6 149,x 151 (.calla 31 [.t 144,.t 145,.t 150]),i 152 6 142 143,(.mk none none (.store 6 (.t 152) (.t 151)))]) F)))) (.reg [m 123 15,q 124 .add 123 1,m 15 124]))))) (s [h 153 2 5,
 t 4 2 153] R))))))))),[(.c 4 2 true)]⟩
theorem i21 : iF 21 g21 := jF Try.func21 [(7, 2097168), (11, 33554448), (16, 134217744), (21, 528), (28, 33554448), (30, 2097168)]
def g22 : GFun := ⟨⟨9,[]⟩,(s [b 4 false] (s [m 5 0,m 6 1,c 7 23 [.t 5,.t 6],q 8 .eql 7 0,m 4 8] R)),[.t 4]⟩
theorem i22 : iF 22 g22 := jF Try.func22
def g23 : GFun := ⟨⟨37,[]⟩,(s [k 4 0] (S (s [m 9 1,q 10 .leq 9 0] (D 10 (s [k 4 0] R) F)) (S (s [m 11 1,q 12 .leq 11 256] (D 12 (s [m 13 0,c 14 32 [.t 13],m 15 1,o 16 .rem 14 15,m 4 16] R) F)) (s [m 17 0,c 18 32 [.t 17],m 5 18] (s [m 19 0,
 c 20 32 [.t 19],m 6 20] (s [m 21 0,c 22 32 [.t 21],m 7 22] (s [m 23 0,c 24 32 [.t 23],m 8 24] (s [m 25 5,q 26 .mul 25 16777216,m 27 6,q 28 .mul 27 65536,o 29 .add 26 28,m 30 7,q 31 .mul 30 256,o 32 .add 29 31,m 33 8,o 34 .add 32 33,m 35 1,
 o 36 .rem 34 35,m 4 36] R)))))))),[.t 4]⟩
theorem i23 : iF 23 g23 := jF Try.func23
def g24 : GFun := ⟨⟨51,[2,3000011]⟩,(s [u 2 6] (s [m 4 0,c 5 33 [.t 4],x 3 (.alloc 6 (.agg [(.val (.string (ByteArray.mk #[]))),(.val (.string (ByteArray.mk #[]))),(.val (.slice none 0 0)),(.val (.bool false)),(.val (.slice none 0 0)),
 (.val (.slice none 0 0))])),(.mk none none (.store 6 (.t 3) (.t 5)))] (S (s [m 6 0,c 7 23 [.t 6,K 12]] (.block 0 (s [q 9 .eql 7 0,m 8 9] (D 8 (.reg [m 10 0,x 11 (.bslro 1 [] 3 false [(0,(.k (.val (.string (ByteArray.mk #[105,102]))))),(1,
 (.k (.val (.string (ByteArray.mk #[]))))),(2,(.k (.val (.string (ByteArray.mk #[111,102])))))]),c 12 18 [.t 10,.t 11],f 13 0 3,(.mk none none (.store 1 (.t 13) (.t 12)))]) (s [q 15 .eql 7 1,m 14 15] (D 14 (.reg [f 16 2 3,l 17 16,x 18
 (.bslice 1 [] 2 false [(0,(.k (.val (.string (ByteArray.mk #[115]))))),(1,(.k (.val (.string (ByteArray.mk #[115])))))]),Q 19 1 16 17 18,f 20 2 3,(.mk none none (.store 1 (.t 20) (.t 19)))]) (s [q 22 .eql 7 2,m 21 22] (D 21
 (.reg [f 23 4 3,m 25 0,m 29 0,l 24 23,x 26 (.calla 23 [.t 25,K 5]),q 27 .sub 26 1,x 28 (.build [(.val (.int .i64 0)),(.val (.string (ByteArray.mk #[])))] [(0,(1,(.t 27))),(1,(1,(.k (.val (.string (ByteArray.mk #[97]))))))]),x 30
 (.calla 34 [.t 29]),x 31 (.build [(.val (.int .i64 0)),(.val (.string (ByteArray.mk #[]))),(.val (.int .i64 0)),(.val (.int .i64 0)),(.val (.int .i64 0)),(.val (.int .i64 0)),(.val (.string (ByteArray.mk #[]))),(.val (.string
 (ByteArray.mk #[]))),(.val (.slice none 0 0))] [(0,(2,(.t 28))),(2,(7,(.t 30)))]),x 32 (.bslice 9 [] 1 true [(0,(.t 31))]),Q 33 9 112 24 32,f 34 4 3,(.mk none none (.store 1 (.t 34) (.t 33)))]) (s [q 36 .eql 7 3,m 35 36] (D 35
 (.reg [f 37 1 3,(.mk none none (.store 1 (.t 37) (.k (.val (.string (ByteArray.mk #[109,97,120]))))))]) (s [q 39 .eql 7 4,m 38 39] (D 38 (.reg [f 40 2 3,m 42 0,f 43 2 3,l 41 40,l 44 43,n 45 44,q 46 .add 45 1,x 47 (.calla 23 [.t 42,.t 46]),
 x 48 (.slc 1 (.t 41) none (some (.t 47))),f 49 2 3,(.mk none none (.store 1 (.t 49) (.t 48)))]) F)))))))))))) (s [h 50 6 3,t 2 6 50] R)))),[(.c 2 6 true)]⟩
theorem i24 : iF 24 g24 := jF Try.func24 [(8, 32912), (12, 32784)]
def g25 : GFun := ⟨⟨61,[2,3000006,3000038,3000050]⟩,(s [u 2 2] (s [m 4 0,m 5 0,x 6 (.bslro 1 [] 4 false [(0,(.k (.val (.string (ByteArray.mk #[115]))))),(1,(.k (.val (.string (ByteArray.mk #[116]))))),(2,(.k (.val (.string
 (ByteArray.mk #[105,102]))))),(3,(.k (.val (.string (ByteArray.mk #[108,105,115,116,49])))))]),c 7 18 [.t 5,.t 6],c 8 28 [.t 4,.t 7,(.k (.val (.bool false))),(.k (.val (.bool false)))],x 3 (.alloc 2 (.agg [(.val (.string
 (ByteArray.mk #[]))),(.val (.slice none 0 0))])),(.mk none none (.store 2 (.t 3) (.t 8)))] (S (s [m 9 0,c 10 23 [.t 9,K 10]] (.block 0 (s [q 12 .eql 10 0,m 11 12] (D 11 (.reg [f 13 1 3,l 14 13,x 15 (.iaddr 4 (.t 14) (K 0)),f 16 3 15,
 (.mk none none (.store 1 (.t 16) (.k (.val (.bool true)))))]) (s [q 18 .eql 10 1,m 17 18] (D 17 (.reg [f 19 1 3,m 21 0,l 20 19,x 22 (.calla 23 [.t 21,K 5]),x 23 (.iaddr 4 (.t 20) (K 0)),f 24 2 23,(.mk none none (.store 1 (.t 24)
 (.t 22)))]) (s [q 26 .eql 10 2,m 25 26] (D 25 (.reg [f 27 1 3,m 29 0,l 28 27,x 30 (.calla 23 [.t 29,K 6]),x 31 (.iaddr 4 (.t 28) (K 0)),f 32 1 31,(.mk none none (.store 1 (.t 32) (.t 30)))]) (s [q 34 .eql 10 3,m 33 34] (D 33
 (.reg [f 35 1 3,m 37 0,x 38 (.bslro 1 [] 3 false [(0,(.k (.val (.string (ByteArray.mk #[98]))))),(1,(.k (.val (.string (ByteArray.mk #[111,102]))))),(2,(.k (.val (.string (ByteArray.mk #[])))))]),l 36 35,x 39 (.calla 18 [.t 37,.t 38]),
 x 40 (.iaddr 4 (.t 36) (K 0)),f 41 0 40,(.mk none none (.store 1 (.t 41) (.t 39)))]) (s [q 43 .eql 10 4,m 42 43] (D 42 (B 1 (S (s [f 44 1 3,l 45 44,n 46 45,q 47 .lss 46 5] (D 47 F (.exit 1))) (.block 2 (.reg [f 48 1 3,x 50
 (.bslro 1 [] 5 false [(0,(.k (.val (.string (ByteArray.mk #[101]))))),(1,(.k (.val (.string (ByteArray.mk #[102]))))),(2,(.k (.val (.string (ByteArray.mk #[103]))))),(3,(.k (.val (.string (ByteArray.mk #[104]))))),(4,(.k (.val (.string
 (ByteArray.mk #[105])))))]),f 51 1 3,l 49 48,l 52 51,n 53 52,i 54 1 50 53,l 55 54,x 56 (.build [(.val (.string (ByteArray.mk #[]))),(.val (.int .i64 0)),(.val (.int .i64 0)),(.val (.bool false))] [(0,(1,(.t 55))),(1,(1,(K 1))),(2,(1,
 (K 2)))]),x 57 (.bslice 4 [] 1 true [(0,(.t 56))]),Q 58 4 40 49 57,f 59 1 3,(.mk none none (.store 1 (.t 59) (.t 58)))])))) F)))))))))))) (s [h 60 2 3,t 2 2 60] R)))),[(.c 2 2 true)]⟩
theorem i25 : iF 25 g25 := jF Try.func25 [(6, 144), (8, 144), (10, 528)]
def g26 : GFun := ⟨⟨14,[2,3]⟩,(s [u 2 7] (s [m 4 0,m 5 0,c 6 23 [.t 5,K 5],x 7 (.bin .add (K 1) (.t 6)),c 8 35 [.t 4,.t 7],u 3 7,t 3 7 8] (S (s [h 9 7 3,c 10 36 [.t 9],w 11 10] (D 11 (s [x 12 (.build [(.val (.int .i64 0)),(.val
 (.int .i64 0)),(.val (.int .i64 0)),(.val (.int .i64 0)),(.val (.string (ByteArray.mk #[]))),(.val (.string (ByteArray.mk #[]))),(.val (.slice none 0 0))] [(0,(1,(K 2)))]),t 2 7 12] R) F)) (s [h 13 7 3,t 2 7 13] R)))),[(.c 2 7 true)]⟩
theorem i26 : iF 26 g26 := jF Try.func26
def g27 : GFun := ⟨⟨10,[]⟩,(s [k 4 0] (S (s [m 5 0,m 6 1,o 7 .gtr 5 6] (D 7 (s [m 8 0,m 4 8] R) F)) (s [m 9 1,m 4 9] R))),[.t 4]⟩
theorem i27 : iF 27 g27 := jF Try.func27
def g28 : GFun := ⟨⟨65,[8,1000012,3000023,3000028,3000031,3000036]⟩,(s [u 8 2] (s [m 13 1,x 14 (.build [(.val (.string (ByteArray.mk #[]))),(.val (.slice none 0 0))] [(0,(1,(.t 13)))]),x 9 (.alloc 2 (.agg [(.val (.string
 (ByteArray.mk #[]))),(.val (.slice none 0 0))])),(.mk none none (.store 2 (.t 9) (.t 14)))] (s [m 15 0,c 16 23 [.t 15,K 4],x 17 (.bin .add (K 1) (.t 16)),m 10 17] (S (s [k 11 0] (B 0 (S (s [m 18 11,m 19 10,o 20 .lss 18 19] (D 20 F
 (.exit 0))) (S (.block 1 (s [x 23 (.bslro 1 [] 4 false [(0,(.k (.val (.string (ByteArray.mk #[97]))))),(1,(.k (.val (.string (ByteArray.mk #[98]))))),(2,(.k (.val (.string (ByteArray.mk #[99]))))),(3,(.k (.val (.string
 (ByteArray.mk #[100])))))]),m 24 11,i 25 1 23 24,m 27 0,x 28 (.bslro 1 [] 6 false [(0,(K 1)),(1,(K 1)),(2,(K 2)),(3,(K 2)),(4,(K 3)),(5,(K 4))]),m 30 0,x 31 (.bslro 1 [] 6 false [(0,(K 1)),(1,(K 2)),(2,(K 2)),(3,(K 1)),(4,(K 2)),(5,
 (K 3))]),u 12 4,l 26 25,x 29 (.calla 37 [.t 27,.t 28]),x 32 (.calla 37 [.t 30,.t 31]),x 33 (.build [(.val (.string (ByteArray.mk #[]))),(.val (.int .i64 0)),(.val (.int .i64 0)),(.val (.bool false))] [(0,(1,(.t 26))),(1,(1,(.t 29))),(2,(1,
 (.t 32)))]),x 12 (.strb 4 12 (.t 33))] (S (s [m 34 3] (D 34 (.reg [m 35 0,x 36 (.bslro 1 [] 4 false [(0,(K 1)),(1,(K 1)),(2,(K 2)),(3,(K 3))]),c 37 37 [.t 35,.t 36],f 38 1 12,(.mk none none (.store 1 (.t 38) (.t 37)))]) F)) (S (s [m 39 2,
 m 40 39,y 41 40 (p 1 2 12),y 42 40 (r 1 41),I 43 40 42 1,A 44 40 43,m 45 44,N 46 45 3,N 47 45 46,y 48 47 (p 1 2 12),y 49 47 (r 1 48),I 50 47 49 3,z 51 45 (.pick (.t 47) (.t 50) (.k (.val (.bool false)))),O 52 45 51] (D 52 (.reg [f 53 2 12,
 (.mk none none (.store 1 (.t 53) (K 2)))]) F)) (S (s [f 54 2 12,l 55 54,q 56 .eql 55 3] (D 56 (.reg [f 57 1 12,(.mk none none (.store 1 (.t 57) (K 2)))]) F)) (.reg [f 58 1 9,l 59 58,h 60 4 12,x 61 (.bslice 4 [] 1 true [(0,(.t 60))]),
 Q 62 4 40 59 61,f 63 1 9,(.mk none none (.store 1 (.t 63) (.t 62)))])))))) (.reg [m 21 11,q 22 .add 21 1,m 11 22]))))) (s [h 64 2 9,t 8 2 64] R))))),[(.c 8 2 true)]⟩
theorem i28 : iF 28 g28 := jF Try.func28 [(6, 532496)]
def g29 : GFun := ⟨⟨31,[]⟩,(s [x 2 (.mov (.k (.val (.string (ByteArray.mk #[])))))] (S (s [m 6 0,q 7 .eql 6 0] (D 7 (s [x 2 (.mov (.k (.val (.string (ByteArray.mk #[48])))))] R) F)) (s [m 8 0,q 9 .lss 8 0,m 3 9] (s [x 4 (.mov (.k (.val
 (.string (ByteArray.mk #[])))))] (S (B 0 (S (s [m 10 0,q 11 .neq 10 0] (D 11 F (.exit 0))) (.block 1 (s [m 12 0,q 13 .rem 12 10,m 5 13] (S (s [m 14 5,q 15 .lss 14 0] (D 15 (.reg [m 16 5,x 17 (.bin .sub (K 0) (.t 16)),m 5 17]) F))
 (s [m 18 5,x 19 (.bin .add (K 48) (.t 18)),x 20 (.conv .u8 (.t 19)),x 21 (.bslice 1 [] 1 false [(0,(.t 20))]),x 22 (.b2s (.t 21)),m 23 4,o 24 .add 22 23,m 4 24] (.reg [m 25 0,q 26 .quo 25 10,m 0 26]))))))) (S (s [m 27 3] (D 27 (s [m 28 4,
 x 29 (.bin .add (.k (.val (.string (ByteArray.mk #[45])))) (.t 28)),m 2 29] R) F)) (s [m 30 4,m 2 30] R))))))),[.t 2]⟩
theorem i29 : iF 29 g29 := jF Try.func29
def g30 : GFun := ⟨⟨77,[5,8,11,13,1000015,3000063]⟩,(s [a 5 2 1,x 6 (.box 6 (.t 2)),u 8 6] (s [h 16 2 5,h 17 6 6,c 18 38 [.t 16,.t 17],m 9 18] (S (s [k 10 0] (B 0 (S (s [m 19 10,m 20 9,n 21 20,o 22 .lss 19 21] (D 22 F (.exit 0))) (S
 (.block 1 (s [m 28 9,m 29 10,i 30 2 28 29,f 31 0 30,u 11 2,h 26 2 5,h 27 6 6,l 32 31,G 33 39 [.t 27,.t 32],G 34 10 [.t 26,.t 33],m 25 34,v 35 25 0,v 36 25 1,t 11 2 35,m 12 36] (s [m 39 9,m 40 10,i 41 2 39 40,f 42 1 41,u 13 4,h 38 2 11,
 l 43 42,G 44 40 [.t 38,.t 43],m 37 44,v 45 37 0,v 46 37 1,t 13 4 45,m 14 46] (s [m 47 0,f 50 1 13,m 52 0,m 55 3,u 15 7,h 48 2 5,h 49 6 6,l 51 50,x 53 (.calla 23 [.t 52,K 3]),x 54 (.bin .add (K 1) (.t 53)),x 56 (.calla 41 [.t 47,.t 48,
 .t 49,.t 51,.t 54,.t 55]),x 15 (.strb 7 15 (.t 56))] (S (s [h 57 7 15,c 58 36 [.t 57],w 59 58] (D 59 (.reg [m 60 0,f 61 1 13,l 62 61,x 63 (.bslro 2 [] 0 true []),c 64 42 [.t 60,.t 62,.t 63],x 15 (.strb 7 15 (.t 64))]) F)) (.reg [f 65 4 6,
 m 67 9,m 68 10,i 69 2 67 68,l 66 65,h 70 2 69,h 71 7 15,x 72 (.build [(.val (.int .i64 0)),(.val (.string (ByteArray.mk #[]))),(.val (.int .i64 0)),(.val (.int .i64 0)),(.val (.int .i64 0)),(.val (.int .i64 0)),(.val (.string
 (ByteArray.mk #[]))),(.val (.string (ByteArray.mk #[]))),(.val (.slice none 0 0))] [(0,(2,(.t 70))),(2,(7,(.t 71)))]),x 73 (.bslice 9 [] 1 true [(0,(.t 72))]),Q 74 9 112 66 73,f 75 4 6,(.mk none none (.store 1 (.t 75) (.t 74)))]))))))
 (.reg [m 23 10,q 24 .add 23 1,m 10 24]))))) (s [h 76 6 6,t 8 6 76] R)))),[(.c 8 6 true)]⟩
theorem i30 : iF 30 g30 := jF Try.func30 [(7, 532496)]
def g31 : GFun := ⟨⟨76,[4,6,9]⟩,(s [a 4 2 1,x 5 (.box 6 (.t 2)),u 6 6] (S (s [k 7 0] (B 0 (S (s [m 10 7,f 11 0 4,l 12 11,n 13 12,o 14 .lss 10 13] (D 14 F (.exit 0))) (S (.block 1 (s [k 8 0] (B 2 (S (s [m 17 8,f 18 0 4,l 19 18,m 20 7,
 i 21 2 19 20,f 22 1 21,l 23 22,n 24 23,o 25 .lss 17 24] (D 25 F (.exit 2))) (S (.block 3 (s [f 28 0 4,l 29 28,m 30 7,i 31 2 29 30,f 32 1 31,l 33 32,m 34 8,i 35 4 33 34,h 36 4 35,u 9 4,t 9 4 36] (s [f 37 2 9,l 38 37,q 39 .eql 38 3,m 40 39,
 y 41 40 (p 1 5 5),y 42 40 (r 1 41),y 43 40 (.len (.t 42)),y 44 40 (.bin .lss (.t 43) (K 2)),A 45 40 44,m 46 45,M 47 46 0,y 48 46 (.call false 22 [.t 47,K 3]),y 49 46 (.not (.t 48)),A 50 46 49] (D 50 (.reg [f 51 5 5,f 53 0 4,m 55 7,
 f 59 0 9,m 61 0,m 66 0,l 52 51,l 54 53,i 56 2 54 55,f 57 0 56,l 58 57,l 60 59,h 62 2 4,h 63 6 5,G 64 43 [.t 62,.t 63,K 4],h 67 2 4,h 68 6 5,x 65 (.calla 42 [.t 61,K 4,.t 64]),G 69 43 [.t 67,.t 68,K 2],x 70 (.calla 42 [.t 66,K 2,.t 69]),
 x 71 (.build [(.val (.string (ByteArray.mk #[]))),(.val (.string (ByteArray.mk #[]))),(.val (.int .i64 0)),(.val (.int .i64 0)),(.val (.int .i64 0)),(.val (.int .i64 0)),(.val (.string (ByteArray.mk #[]))),(.val (.string
 (ByteArray.mk #[]))),(.val (.slice none 0 0)),(.val (.int .i64 0)),(.val (.int .i64 0)),(.val (.int .i64 0)),(.val (.int .i64 0)),(.val (.string (ByteArray.mk #[]))),(.val (.string (ByteArray.mk #[]))),(.val (.slice none 0 0))] [(0,(1,
 (.t 58))),(1,(1,(.t 60))),(2,(7,(.t 65))),(9,(7,(.t 70)))]),x 72 (.bslice 16 [] 1 true [(0,(.t 71))]),Q 73 16 208 52 72,f 74 5 5,(.mk none none (.store 1 (.t 74) (.t 73)))]) F)))) (.reg [m 26 8,q 27 .add 26 1,m 8 27])))))) (.reg [m 15 7,
 q 16 .add 15 1,m 7 16]))))) (s [h 75 6 5,t 6 6 75] R))),[(.c 6 6 true)]⟩
theorem i31 : iF 31 g31 := jF Try.func31 [(9, 550292684816)]
def g32 : GFun := ⟨⟨58,[]⟩,(s [k 2 0] (s [m 4 0,m 5 0,x 6 (.nck (.t 5)),f 7 2 6,l 8 7,q 9 .mul 8 6364136223846793005,q 10 .add 9 1442695040888963407,x 11 (.nck (.t 4)),f 12 2 11,(.mk none none (.store 1 (.t 12) (.t 10)))] (s [m 13 0,x 14
 (.nck (.t 13)),f 15 2 14,m 18 0,x 19 (.nck (.t 18)),f 20 2 19,l 16 15,x 17 (.bin .shr (.t 16) (.k (.val (.int .u64 33)))),l 21 20,x 22 (.bin .shr (.t 21) (.k (.val (.int .u64 45)))),o 23 .xor 17 22,q 24 .and 23 255,m 3 24] (S (s [m 25 0,
 x 26 (.nck (.t 25)),f 27 1 26,m 29 0,x 30 (.nck (.t 29)),f 31 0 30,l 28 27,l 32 31,n 33 32,o 34 .lss 28 33] (D 34 (s [m 35 3,m 36 0,x 37 (.nck (.t 36)),f 38 0 37,m 40 0,x 41 (.nck (.t 40)),f 42 1 41,l 39 38,l 43 42,i 44 1 39 43,l 45 44,
 x 46 (.conv .i64 (.t 45)),o 47 .add 35 46,q 48 .and 47 255,m 3 48] (.reg [m 49 0,m 50 0,x 51 (.nck (.t 50)),f 52 1 51,l 53 52,q 54 .add 53 1,x 55 (.nck (.t 49)),f 56 1 55,(.mk none none (.store 1 (.t 56) (.t 54)))])) F)) (s [m 57 3,
 m 2 57] R))))),[.t 2]⟩
theorem i32 : iF 32 g32 := jF Try.func32
def g33 : GFun := ⟨⟨75,[2,8,3000010,3000013,3000028]⟩,(s [u 2 6] (s [m 9 0,x 10 (.bslro 1 [] 3 false [(0,(.k (.val (.string (ByteArray.mk #[112]))))),(1,(.k (.val (.string (ByteArray.mk #[113]))))),(2,(.k (.val (.string (ByteArray.mk #[108,
 101,97,102])))))]),c 11 18 [.t 9,.t 10],m 12 0,x 13 (.bslro 1 [] 2 false [(0,(.k (.val (.string (ByteArray.mk #[115]))))),(1,(.k (.val (.string (ByteArray.mk #[116])))))]),c 14 18 [.t 12,.t 13],m 15 0,c 16 22 [.t 15,K 2],x 17
 (.build [(.val (.string (ByteArray.mk #[]))),(.val (.string (ByteArray.mk #[]))),(.val (.slice none 0 0)),(.val (.bool false)),(.val (.slice none 0 0)),(.val (.slice none 0 0))] [(0,(1,(.t 11))),(1,(1,(.t 14))),(3,(1,(.t 16)))]),x 3
 (.alloc 6 (.agg [(.val (.string (ByteArray.mk #[]))),(.val (.string (ByteArray.mk #[]))),(.val (.slice none 0 0)),(.val (.bool false)),(.val (.slice none 0 0)),(.val (.slice none 0 0))])),(.mk none none (.store 6 (.t 3) (.t 17)))]
 (s [m 18 0,c 19 23 [.t 18,K 4],m 4 19] (S (s [k 5 0] (B 0 (S (s [m 20 5,m 21 4,o 22 .lss 20 21] (D 22 F (.exit 0))) (S (.block 1 (.reg [f 25 2 3,m 27 0,x 28 (.bslro 1 [] 3 false [(0,(.k (.val (.string (ByteArray.mk #[115]))))),(1,(.k
 (.val (.string (ByteArray.mk #[116]))))),(2,(.k (.val (.string (ByteArray.mk #[117])))))]),l 26 25,x 29 (.calla 18 [.t 27,.t 28]),x 30 (.bslice 1 [] 1 false [(0,(.t 29))]),Q 31 1 16 26 30,f 32 2 3,(.mk none none (.store 1 (.t 32)
 (.t 31)))])) (.reg [m 23 5,q 24 .add 23 1,m 5 24]))))) (s [m 33 0,c 34 23 [.t 33,K 4],m 6 34] (S (s [k 7 0] (B 2 (S (s [m 35 7,m 36 6,o 37 .lss 35 36] (D 37 F (.exit 2))) (S (.block 3 (s [m 40 0,m 41 0,c 42 23 [.t 41,K 3],x 43 (.bin .add
 (K 1) (.t 42)),c 44 35 [.t 40,.t 43],u 8 7,t 8 7 44] (s [h 45 7 8,m 46 4,c 47 44 [.t 45,.t 46]] (D 47 (.reg [f 48 4 3,m 50 0,m 51 4,q 52 .add 51 1,m 54 0,l 49 48,h 57 7 8,x 53 (.calla 23 [.t 50,.t 52]),x 55 (.calla 45 [.t 54]),x 56
 (.build [(.val (.int .i64 0)),(.val (.string (ByteArray.mk #[])))] [(0,(1,(.t 53))),(1,(1,(.t 55)))]),x 58 (.build [(.val (.int .i64 0)),(.val (.string (ByteArray.mk #[]))),(.val (.int .i64 0)),(.val (.int .i64 0)),(.val (.int .i64 0)),
 (.val (.int .i64 0)),(.val (.string (ByteArray.mk #[]))),(.val (.string (ByteArray.mk #[]))),(.val (.slice none 0 0))] [(0,(2,(.t 56))),(2,(7,(.t 57)))]),x 59 (.bslice 9 [] 1 true [(0,(.t 58))]),Q 60 9 112 49 59,f 61 4 3,(.mk none none
 (.store 1 (.t 61) (.t 60)))]) F)))) (.reg [m 38 7,q 39 .add 38 1,m 7 39]))))) (S (s [m 62 0,c 63 22 [.t 62,K 4]] (D 63 (.reg [f 64 5 3,x 66 (.build [(.val (.int .i64 0)),(.val (.int .i64 0)),(.val (.int .i64 0)),(.val (.int .i64 0)),
 (.val (.string (ByteArray.mk #[]))),(.val (.string (ByteArray.mk #[]))),(.val (.slice none 0 0))] [(0,(1,(K 6)))]),m 67 0,l 65 64,x 68 (.calla 23 [.t 67,K 4096]),G 69 46 [.t 68,K 2],x 70 (.build [(.val (.string (ByteArray.mk #[]))),(.val
 (.string (ByteArray.mk #[]))),(.val (.int .i64 0)),(.val (.int .i64 0)),(.val (.int .i64 0)),(.val (.int .i64 0)),(.val (.string (ByteArray.mk #[]))),(.val (.string (ByteArray.mk #[]))),(.val (.slice none 0 0)),(.val (.int .i64 0)),(.val
 (.int .i64 0)),(.val (.int .i64 0)),(.val (.int .i64 0)),(.val (.string (ByteArray.mk #[]))),(.val (.string (ByteArray.mk #[]))),(.val (.slice none 0 0))] [(0,(1,(.k (.val (.string (ByteArray.mk #[115])))))),(1,(1,(.k (.val (.string
 (ByteArray.mk #[99])))))),(2,(7,(.t 66))),(9,(7,(.t 69)))]),x 71 (.bslice 16 [] 1 true [(0,(.t 70))]),Q 72 16 208 65 71,f 73 5 3,(.mk none none (.store 1 (.t 73) (.t 72)))]) F)) (s [h 74 6 3,t 2 6 74] R)))))))),[(.c 2 6 true)]⟩
theorem i33 : iF 33 g33 := jF Try.func33 [(6, 528), (13, 34832), (15, 528)]
def g34 : GFun := ⟨⟨50,[2,3000025,3000031,3000037]⟩,(s [u 2 7] (s [m 5 0,c 6 26 [.t 5],x 3 (.alloc 7 (.agg [(.val (.int .i64 0)),(.val (.int .i64 0)),(.val (.int .i64 0)),(.val (.int .i64 0)),(.val (.string (ByteArray.mk #[]))),(.val
 (.string (ByteArray.mk #[]))),(.val (.slice none 0 0))])),(.mk none none (.store 7 (.t 3) (.t 6)))] (S (s [m 7 0,c 8 23 [.t 7,K 14]] (.block 0 (s [q 10 .eql 8 0,m 9 10] (D 9 (.reg [m 11 0,c 12 23 [.t 11,K 11],f 13 0 3,(.mk none none
 (.store 1 (.t 13) (.t 12)))]) (s [q 15 .eql 8 1,m 14 15] (D 14 (.reg [f 16 6 3,l 17 16,x 18 (.build [(.val (.int .i64 0)),(.val (.int .i64 0)),(.val (.int .i64 0)),(.val (.int .i64 0)),(.val (.string (ByteArray.mk #[]))),(.val (.string
 (ByteArray.mk #[]))),(.val (.slice none 0 0))] [(0,(1,(K 7)))]),x 19 (.bslice 7 [] 1 true [(0,(.t 18))]),Q 20 7 88 17 19,f 21 6 3,(.mk none none (.store 1 (.t 21) (.t 20)))]) (s [q 23 .eql 8 2,m 22 23] (D 22 (.reg [m 24 0,x 25
 (.bslro 1 [] 4 false [(0,(K (-1))),(1,(K 13)),(2,(K 4096)),(3,(K 1000001))]),c 26 37 [.t 24,.t 25],f 27 1 3,(.mk none none (.store 1 (.t 27) (.t 26)))]) (s [q 29 .eql 8 3,m 28 29] (D 28 (.reg [m 30 0,x 31 (.bslro 1 [] 3 false [(0,(K
 (-1))),(1,(K 4)),(2,(K 1))]),c 32 37 [.t 30,.t 31],f 33 2 3,(.mk none none (.store 1 (.t 33) (.t 32)))]) (s [q 35 .eql 8 4,m 34 35] (D 34 (.reg [m 36 0,x 37 (.bslro 1 [] 3 false [(0,(.k (.val (.string (ByteArray.mk #[105,102]))))),(1,(.k
 (.val (.string (ByteArray.mk #[]))))),(2,(.k (.val (.string (ByteArray.mk #[120])))))]),c 38 18 [.t 36,.t 37],f 39 5 3,(.mk none none (.store 1 (.t 39) (.t 38)))]) (s [q 41 .eql 8 5,m 40 41] (D 40 (s [k 4 0] (B 1 (S (s [m 42 4,
 q 43 .lss 42 5] (D 43 F (.exit 1))) (S (.block 2 (.reg [h 46 7 3,x 47 (.build [(.val (.int .i64 0)),(.val (.int .i64 0)),(.val (.int .i64 0)),(.val (.int .i64 0)),(.val (.string (ByteArray.mk #[]))),(.val (.string (ByteArray.mk #[]))),
 (.val (.slice none 0 0))] [(0,(1,(K 2)))]),c 48 47 [K 1,.t 46,.t 47],(.mk none none (.store 7 (.t 3) (.t 48)))])) (.reg [m 44 4,q 45 .add 44 1,m 4 45]))))) F)))))))))))))) (s [h 49 7 3,t 2 7 49] R)))),[(.c 2 7 true)]⟩
theorem i34 : iF 34 g34 := jF Try.func34
def g35 : GFun := ⟨⟨73,[4,3000028,3000051]⟩,(s [u 4 7] (S (s [m 5 1,q 6 .lss 5 2,m 7 6,N 8 7 0,z 9 7 (.call false 22 [.t 8,K 4]),O 10 7 9] (D 10 (S (s [m 11 0,c 12 22 [.t 11,K 5]] (D 12 (s [x 13 (.build [(.val (.int .i64 0)),(.val
 (.int .i64 0)),(.val (.int .i64 0)),(.val (.int .i64 0)),(.val (.string (ByteArray.mk #[]))),(.val (.string (ByteArray.mk #[]))),(.val (.slice none 0 0))] [(0,(1,(K 2)))]),t 4 7 13] R) F)) (S (s [m 14 0,c 15 22 [.t 14,K 6]] (D 15
 (s [m 16 0,c 17 23 [.t 16,K 4],x 18 (.build [(.val (.int .i64 0)),(.val (.int .i64 0)),(.val (.int .i64 0)),(.val (.int .i64 0)),(.val (.string (ByteArray.mk #[]))),(.val (.string (ByteArray.mk #[]))),(.val (.slice none 0 0))] [(0,(1,
 (K 6))),(2,(1,(.t 17)))]),t 4 7 18] R) F)) (s [m 19 0,m 20 0,c 21 23 [.t 20,K 4],x 22 (.bin .add (K 1) (.t 21)),m 23 0,c 24 23 [.t 23,K 4],m 25 0,c 26 45 [.t 25],x 27 (.build [(.val (.int .i64 0)),(.val (.string (ByteArray.mk #[])))] [(0,
 (1,(.t 24))),(1,(1,(.t 26)))]),x 28 (.bslro 2 [] 1 true [(0,(.t 27))]),c 29 42 [.t 19,.t 22,.t 28],t 4 7 29] R))) F)) (S (s [m 30 0,c 31 23 [.t 30,K 5]] (.block 0 (s [q 33 .eql 31 0,m 32 33] (D 32 (s [m 34 0,m 35 1,q 36 .sub 35 1,
 c 37 35 [.t 34,.t 36],m 38 0,m 39 1,q 40 .sub 39 1,c 41 35 [.t 38,.t 40],m 42 0,m 43 1,q 44 .sub 43 1,c 45 35 [.t 42,.t 44],x 46 (.bslice 7 [] 3 true [(0,(.t 37)),(1,(.t 41)),(2,(.t 45))]),x 47 (.build [(.val (.int .i64 0)),(.val
 (.int .i64 0)),(.val (.int .i64 0)),(.val (.int .i64 0)),(.val (.string (ByteArray.mk #[]))),(.val (.string (ByteArray.mk #[]))),(.val (.slice none 0 0))] [(0,(1,(K 5))),(6,(1,(.t 46)))]),t 4 7 47] R) (s [q 49 .eql 31 1,m 48 49] (D 48
 (s [m 50 0,x 51 (.bslro 1 [] 2 false [(0,(.k (.val (.string (ByteArray.mk #[115]))))),(1,(.k (.val (.string (ByteArray.mk #[116])))))]),c 52 18 [.t 50,.t 51],m 53 0,c 54 45 [.t 53],m 55 0,m 56 1,q 57 .sub 56 1,c 58 35 [.t 55,.t 57],x 59
 (.bslice 7 [] 1 true [(0,(.t 58))]),x 60 (.build [(.val (.int .i64 0)),(.val (.int .i64 0)),(.val (.int .i64 0)),(.val (.int .i64 0)),(.val (.string (ByteArray.mk #[]))),(.val (.string (ByteArray.mk #[]))),(.val (.slice none 0 0))] [(0,(1,
 (K 8))),(4,(1,(.t 52))),(5,(1,(.t 54))),(6,(1,(.t 59)))]),t 4 7 60] R) F)))))) (s [m 61 0,c 62 23 [.t 61,K 12],x 63 (.bin .add (K 1) (.t 62)),m 64 0,m 65 1,q 66 .sub 65 1,c 67 35 [.t 64,.t 66],m 68 0,m 69 1,q 70 .sub 69 1,c 71 35 [.t 68,
 .t 70],c 72 47 [.t 63,.t 67,.t 71],t 4 7 72] R)))),[(.c 4 7 true)]⟩
theorem i35 : iF 35 g35 := jF Try.func35
def g36 : GFun := ⟨⟨15,[1]⟩,(s [a 1 7 0,b 2 false] (s [h 3 7 1,c 4 48 [.t 3,K 24],q 5 .geq 4 0,m 6 5,y 7 6 (j 7 1),y 8 6 (.call false 49 [.t 7]),y 9 6 (.bin .leq (.t 8) (K 6)),A 10 6 9,m 11 10,y 12 11 (j 7 1),y 13 11
 (.call false 50 [.t 12]),A 14 11 13,m 2 14] R)),[.t 2]⟩
theorem i36 : iF 36 g36 := jF Try.func36
def g37 : GFun := ⟨⟨12,[]⟩,(s [k 4 0] (s [m 5 1,m 6 0,m 7 1,n 8 7,c 9 23 [.t 6,.t 8],i 10 1 5 9,l 11 10,m 4 11] R)),[.t 4]⟩
theorem i37 : iF 37 g37 := jF Try.func37
def g38 : GFun := ⟨⟨56,[2,3,7]⟩,(s [a 2 2 0,a 3 6 1,Z 4] (s [E 11 2 true,m 5 11] (S (s [k 6 0] (B 0 (S (s [m 12 6,f 13 2 3,l 14 13,n 15 14,o 16 .leq 12 15] (D 16 F (.exit 0))) (S (.block 1 (s [m 22 6,u 7 2,h 20 2 2,h 21 6 3,G 23 39 [.t 21,
 .t 22],G 24 10 [.t 20,.t 23],m 19 24,v 25 19 0,v 26 19 1,t 7 2 25,m 8 26] (s [k 9 1] (S (s [m 27 6,q 28 .eql 27 0] (D 28 (.reg [k 9 2]) F)) (s [k 10 0] (B 2 (S (s [m 29 10,f 30 1 7,l 31 30,n 32 31,o 33 .lss 29 32] (D 33 F (.exit 2))) (S
 (.block 3 (s [f 36 1 7,l 37 36,m 38 10,i 39 4 37 38,f 40 2 39,l 41 40,m 42 9,o 43 .eql 41 42] (D 43 (.reg [m 44 5,m 45 6,f 46 1 7,l 47 46,m 48 10,i 49 4 47 48,f 50 0 49,l 51 50,x 52 (.build [(.val (.int .i64 0)),(.val (.string
 (ByteArray.mk #[])))] [(0,(1,(.t 45))),(1,(1,(.t 51)))]),x 53 (.bslice 2 [] 1 true [(0,(.t 52))]),Q 54 2 24 44 53,m 5 54]) F))) (.reg [m 34 10,q 35 .add 34 1,m 10 35]))))))))) (.reg [m 17 6,q 18 .add 17 1,m 6 18]))))) (s [m 55 5,
 m 4 55] R)))),[.t 4]⟩
theorem i38 : iF 38 g38 := jF Try.func38
def g39 : GFun := ⟨⟨21,[2]⟩,(s [a 2 6 0,x 4 (.mov (.k (.val (.string (ByteArray.mk #[])))))] (S (s [m 5 1,q 6 .eql 5 0] (D 6 (s [f 7 1 2,l 8 7,m 4 8] R) F)) (S (s [m 9 1,f 10 2 2,l 11 10,n 12 11,c 13 51 [.t 9,K 1,.t 12],w 14 13] (D 14
 (s [x 4 (.mov (.k (.val (.string (ByteArray.mk #[])))))] R) F)) (s [f 15 2 2,l 16 15,m 17 1,q 18 .sub 17 1,i 19 1 16 18,l 20 19,m 4 20] R)))),[.t 4]⟩
theorem i39 : iF 39 g39 := jF Try.func39
def g40 : GFun := ⟨⟨28,[2,4]⟩,(s [a 2 2 0,u 4 4,b 5 false] (S (s [k 6 0] (B 0 (S (s [m 7 6,f 8 1 2,l 9 8,n 10 9,o 11 .lss 7 10] (D 11 F (.exit 0))) (S (.block 1 (s [f 14 1 2,l 15 14,m 16 6,i 17 4 15 16,f 18 0 17,l 19 18,m 20 1,
 o 21 .eql 19 20] (D 21 (s [f 22 1 2,l 23 22,m 24 6,i 25 4 23 24,h 26 4 25,t 4 4 26,b 5 true] R) F))) (.reg [m 12 6,q 13 .add 12 1,m 6 13]))))) (s [x 27 (.build [(.val (.string (ByteArray.mk #[]))),(.val (.int .i64 0)),(.val (.int .i64 0)),
 (.val (.bool false))] []),t 4 4 27,b 5 false] R))),[(.c 4 4 true),.t 5]⟩
theorem i40 : iF 40 g40 := jF Try.func40
def g41 : GFun := ⟨⟨155,[7,8,12,13,14,3000124,3000129,3000110]⟩,(s [a 7 2 1,a 8 6 2,u 12 7] (S (s [m 19 4,q 20 .lss 19 2,m 21 20,N 22 21 0,z 23 21 (.call false 22 [.t 22,K 3]),O 24 21 23] (D 24 (S (s [m 25 3,q 26 .eql 25 1,m 27 26,y 28 27
 (p 1 3 8),y 29 27 (r 1 28),A 30 27 29,m 31 30,M 32 31 0,y 33 31 (.call false 22 [.t 32,K 3]),A 34 31 33] (D 34 (s [x 35 (.build [(.val (.int .i64 0)),(.val (.int .i64 0)),(.val (.int .i64 0)),(.val (.int .i64 0)),(.val (.string
 (ByteArray.mk #[]))),(.val (.string (ByteArray.mk #[]))),(.val (.slice none 0 0))] [(0,(1,(K 2)))]),t 12 7 35] R) F)) (s [m 36 0,m 37 3,h 38 2 7,h 39 6 8,m 40 3,c 41 43 [.t 38,.t 39,.t 40],c 42 42 [.t 36,.t 37,.t 41],t 12 7 42] R)) F))
 (S (s [m 43 5,m 44 43,M 45 44 0,y 46 44 (.call false 22 [.t 45,K 4]),A 47 44 46] (D 47 (s [f 48 0 7,m 50 0,f 51 0 7,u 13 2,l 49 48,l 52 51,n 53 52,x 54 (.calla 23 [.t 50,.t 53]),i 55 2 49 54,h 56 2 55,t 13 2 56] (s [f 57 1 13,m 59 0,
 f 60 1 13,u 14 4,l 58 57,l 61 60,n 62 61,x 63 (.calla 23 [.t 59,.t 62]),i 64 4 58 63,h 65 4 64,t 14 4 65] (s [f 66 1 14,l 67 66,m 68 3,o 69 .eql 67 68] (D 69 (s [f 70 0 13,f 72 0 14,m 74 0,l 71 70,l 73 72,h 75 2 7,h 76 6 8,G 77 43 [.t 75,
 .t 76,K 4],x 78 (.calla 42 [.t 74,K 4,.t 77]),x 79 (.bslice 7 [] 1 true [(0,(.t 78))]),x 80 (.build [(.val (.int .i64 0)),(.val (.int .i64 0)),(.val (.int .i64 0)),(.val (.int .i64 0)),(.val (.string (ByteArray.mk #[]))),(.val (.string
 (ByteArray.mk #[]))),(.val (.slice none 0 0))] [(0,(1,(K 8))),(4,(1,(.t 71))),(5,(1,(.t 73))),(6,(1,(.t 79)))]),t 12 7 80] R) F)))) F)) (S (s [m 81 0,c 82 22 [.t 81,K 6]] (D 82 (s [m 83 0,m 86 4,q 87 .sub 86 1,m 88 5,m 90 0,m 93 3,m 94 4,
 q 95 .sub 94 1,m 96 5,m 98 0,m 101 3,m 102 4,q 103 .sub 102 1,m 104 5,h 84 2 7,h 85 6 8,h 91 2 7,h 92 6 8,h 99 2 7,h 100 6 8,x 89 (.calla 41 [.t 83,.t 84,.t 85,K 3,.t 87,.t 88]),x 97 (.calla 41 [.t 90,.t 91,.t 92,.t 93,.t 95,.t 96]),
 x 105 (.calla 41 [.t 98,.t 99,.t 100,.t 101,.t 103,.t 104]),x 106 (.bslice 7 [] 3 true [(0,(.t 89)),(1,(.t 97)),(2,(.t 105))]),x 107 (.build [(.val (.int .i64 0)),(.val (.int .i64 0)),(.val (.int .i64 0)),(.val (.int .i64 0)),(.val
 (.string (ByteArray.mk #[]))),(.val (.string (ByteArray.mk #[]))),(.val (.slice none 0 0))] [(0,(1,(K 5))),(6,(1,(.t 106)))]),t 12 7 107] R) F)) (s [k 15 0] (S (s [m 108 3] (.block 0 (s [q 113 .eql 108 4,m 112 113] (D 112 (s [m 114 0,
 m 115 3,h 116 2 7,h 117 6 8,m 118 3,c 119 43 [.t 116,.t 117,.t 118],c 120 42 [.t 114,.t 115,.t 119],t 12 7 120] R) (s [q 122 .eql 108 1,m 121 122] (D 121 (.reg [m 123 0,x 124 (.bslro 1 [] 6 false [(0,(K 1)),(1,(K 1)),(2,(K 2)),(3,(K 3)),
 (4,(K 4)),(5,(K 5))]),c 125 37 [.t 123,.t 124],m 15 125]) (s [q 127 .eql 108 2,m 126 127] (D 126 (.reg [m 128 0,x 129 (.bslro 1 [] 5 false [(0,(K 6)),(1,(K 6)),(2,(K 7)),(3,(K 8)),(4,(K 12))]),c 130 37 [.t 128,.t 129],m 15 130])
 (.reg [m 109 0,x 110 (.bslro 1 [] 3 false [(0,(K 9)),(1,(K 10)),(2,(K 11))]),c 111 37 [.t 109,.t 110],m 15 111]))))))))) (s [m 132 15,c 133 52 [.t 132],m 131 133,v 134 131 0,v 135 131 1,v 136 131 2,m 16 134,m 17 135,m 18 136] (s [m 137 15,
 m 138 0,m 141 16,m 142 4,q 143 .sub 142 1,m 144 5,m 146 0,m 149 17,m 150 4,q 151 .sub 150 1,m 152 5,h 139 2 7,h 140 6 8,h 147 2 7,h 148 6 8,x 145 (.calla 41 [.t 138,.t 139,.t 140,.t 141,.t 143,.t 144]),x 153 (.calla 41 [.t 146,.t 147,
 .t 148,.t 149,.t 151,.t 152]),x 154 (.calla 47 [.t 137,.t 145,.t 153]),t 12 7 154] R)))))))),[(.c 12 7 true)]⟩
theorem i41 : iF 41 g41 := jF Try.func41 [(6, 8208), (7, 8208), (9, 131088), (11, 35184908967952), (22, 42949804048)]
def g42 : GFun := ⟨⟨52,[6,7]⟩,(s [u 6 7] (S (s [m 8 2,n 9 8,q 10 .gtr 9 0,m 11 10,M 12 11 0,y 13 11 (.call false 22 [.t 12,K 4]),y 14 11 (.not (.t 13)),A 15 11 14] (D 15 (s [m 16 2,m 17 0,m 18 2,n 19 18,c 20 23 [.t 17,.t 19],i 21 2 16 20,
 h 22 2 21,u 7 2,t 7 2 22] (s [f 23 0 7,l 24 23,f 25 1 7,l 26 25,x 27 (.build [(.val (.int .i64 0)),(.val (.int .i64 0)),(.val (.int .i64 0)),(.val (.int .i64 0)),(.val (.string (ByteArray.mk #[]))),(.val (.string (ByteArray.mk #[]))),
 (.val (.slice none 0 0))] [(0,(1,(K 3))),(2,(1,(.t 24))),(5,(1,(.t 26)))]),t 6 7 27] R)) F)) (S (s [m 28 1] (.block 0 (s [q 30 .eql 28 4,m 29 30] (D 29 (S (s [m 31 0,c 32 22 [.t 31,K 3]] (D 32 (s [x 33 (.build [(.val (.int .i64 0)),(.val
 (.int .i64 0)),(.val (.int .i64 0)),(.val (.int .i64 0)),(.val (.string (ByteArray.mk #[]))),(.val (.string (ByteArray.mk #[]))),(.val (.slice none 0 0))] [(0,(1,(K 7)))]),t 6 7 33] R) F)) (s [x 34 (.build [(.val (.int .i64 0)),(.val
 (.int .i64 0)),(.val (.int .i64 0)),(.val (.int .i64 0)),(.val (.string (ByteArray.mk #[]))),(.val (.string (ByteArray.mk #[]))),(.val (.slice none 0 0))] [(0,(1,(K 6)))]),t 6 7 34] R)) (s [q 36 .eql 28 3,m 35 36] (D 35 (s [m 37 0,
 c 38 23 [.t 37,K 2],m 39 1,c 40 46 [.t 38,.t 39],t 6 7 40] R) (s [q 42 .eql 28 2,m 41 42] (D 41 (s [m 43 0,c 44 23 [.t 43,K 12],x 45 (.conv .u64 (.t 44)),x 46 (.bin .shl (K 1) (.t 45)),m 47 1,c 48 46 [.t 46,.t 47],t 6 7 48] R) F))))))))
 (s [m 49 0,c 50 23 [.t 49,K 9],c 51 46 [.t 50,K 1],t 6 7 51] R)))),[(.c 6 7 true)]⟩
theorem i42 : iF 42 g42 := jF Try.func42
def g43 : GFun := ⟨⟨73,[3,4,9,12]⟩,(s [a 3 2 0,a 4 6 1,Z 6] (s [E 14 2 true,m 7 14] (S (s [k 8 0] (B 0 (S (s [m 15 8,f 16 2 4,l 17 16,n 18 17,o 19 .leq 15 18] (D 19 F (.exit 0))) (S (.block 1 (s [m 25 8,u 9 2,h 23 2 3,h 24 6 4,
 G 26 39 [.t 24,.t 25],G 27 10 [.t 23,.t 26],m 22 27,v 28 22 0,v 29 22 1,t 9 2 28,m 10 29] (s [k 11 0] (B 2 (S (s [m 30 11,f 31 1 9,l 32 31,n 33 32,o 34 .lss 30 33] (D 34 F (.exit 2))) (S (.block 3 (s [f 37 1 9,l 38 37,m 39 11,i 40 4 38 39,
 h 41 4 40,u 12 4,t 12 4 41] (s [m 42 8,q 43 .eql 42 0,m 44 43,y 45 44 (p 1 2 12),y 46 44 (r 1 45),I 47 44 46 1,A 48 44 47,m 49 48,N 50 49 8,z 51 49 (.bin .gtr (.t 50) (K 0)),N 52 49 51,y 53 52 (p 1 2 12),y 54 52 (r 1 53),I 55 52 54 2,
 z 56 49 (.pick (.t 52) (.t 55) (.k (.val (.bool false)))),O 57 49 56,m 13 57] (s [f 58 1 12,l 59 58,m 60 2,o 61 .eql 59 60,m 62 61,M 63 62 13,A 64 62 63] (D 64 (.reg [m 65 7,m 66 8,f 67 0 12,l 68 67,x 69 (.build [(.val (.int .i64 0)),
 (.val (.string (ByteArray.mk #[])))] [(0,(1,(.t 66))),(1,(1,(.t 68)))]),x 70 (.bslice 2 [] 1 true [(0,(.t 69))]),Q 71 2 24 65 70,m 7 71]) F))))) (.reg [m 35 11,q 36 .add 35 1,m 11 36]))))))) (.reg [m 20 8,q 21 .add 20 1,m 8 21])))))
 (s [m 72 7,m 6 72] R)))),[.t 6]⟩
theorem i43 : iF 43 g43 := jF Try.func43
def g44 : GFun := ⟨⟨12,[2]⟩,(s [a 2 7 0,b 4 false] (s [h 5 7 2,c 6 36 [.t 5],m 7 6,y 8 7 (j 7 2),M 9 7 1,y 10 7 (.call false 53 [.t 8,.t 9]),A 11 7 10,m 4 11] R)),[.t 4]⟩
theorem i44 : iF 44 g44 := jF Try.func44
def g45 : GFun := ⟨⟨6,[3000004]⟩,(s [x 2 (.mov (.k (.val (.string (ByteArray.mk #[])))))] (s [m 3 0,x 4 (.bslro 1 [] 8 false [(0,(.k (.val (.string (ByteArray.mk #[97]))))),(1,(.k (.val (.string (ByteArray.mk #[98]))))),(2,(.k (.val
 (.string (ByteArray.mk #[99]))))),(3,(.k (.val (.string (ByteArray.mk #[100]))))),(4,(.k (.val (.string (ByteArray.mk #[120]))))),(5,(.k (.val (.string (ByteArray.mk #[121]))))),(6,(.k (.val (.string (ByteArray.mk #[116]))))),(7,(.k
 (.val (.string (ByteArray.mk #[117])))))]),c 5 18 [.t 3,.t 4],m 2 5] R)),[.t 2]⟩
theorem i45 : iF 45 g45 := jF Try.func45
def g46 : GFun := ⟨⟨8,[4]⟩,(s [u 4 7] (s [m 5 0,m 6 1,x 7 (.build [(.val (.int .i64 0)),(.val (.int .i64 0)),(.val (.int .i64 0)),(.val (.int .i64 0)),(.val (.string (ByteArray.mk #[]))),(.val (.string (ByteArray.mk #[]))),(.val
 (.slice none 0 0))] [(0,(1,(K 1))),(1,(1,(.t 5))),(3,(1,(.t 6)))]),t 4 7 7] R)),[(.c 4 7 true)]⟩
theorem i46 : iF 46 g46 := jF Try.func46
def g47 : GFun := ⟨⟨12,[4,5,6]⟩,(s [a 4 7 1,a 5 7 2,u 6 7] (s [m 7 0,h 8 7 4,h 9 7 5,x 10 (.bslice 7 [] 2 true [(0,(.t 8)),(1,(.t 9))]),x 11 (.build [(.val (.int .i64 0)),(.val (.int .i64 0)),(.val (.int .i64 0)),(.val (.int .i64 0)),
 (.val (.string (ByteArray.mk #[]))),(.val (.string (ByteArray.mk #[]))),(.val (.slice none 0 0))] [(0,(1,(K 4))),(1,(1,(.t 7))),(6,(1,(.t 10)))]),t 6 7 11] R)),[(.c 6 7 true)]⟩
theorem i47 : iF 47 g47 := jF Try.func47
def g48 : GFun := ⟨⟨27,[2]⟩,(s [a 2 7 0,k 4 0] (s [m 6 1,q 7 .sub 6 1,m 1 7] (S (s [k 5 0] (B 0 (S (s [m 8 5,f 9 6 2,l 10 9,n 11 10,o 12 .lss 8 11,m 13 12,M 14 13 1,y 15 13 (.bin .geq (.t 14) (K 0)),A 16 13 15] (D 16 F (.exit 0))) (S
 (.block 1 (.reg [f 19 6 2,l 20 19,m 21 5,i 22 7 20 21,h 23 7 22,m 24 1,c 25 48 [.t 23,.t 24],m 1 25])) (.reg [m 17 5,q 18 .add 17 1,m 5 18]))))) (s [m 26 1,m 4 26] R)))),[.t 4]⟩
theorem i48 : iF 48 g48 := jF Try.func48
def g49 : GFun := ⟨⟨22,[1]⟩,(s [a 1 7 0,k 2 0] (s [k 3 0] (S (s [k 4 0] (B 0 (S (s [m 5 4,f 6 6 1,l 7 6,n 8 7,o 9 .lss 5 8] (D 9 F (.exit 0))) (S (.block 1 (.reg [m 12 3,f 13 6 1,l 14 13,m 15 4,i 16 7 14 15,h 17 7 16,c 18 49 [.t 17],
 c 19 27 [.t 12,.t 18],m 3 19])) (.reg [m 10 4,q 11 .add 10 1,m 4 11]))))) (s [m 20 3,q 21 .add 20 1,m 2 21] R)))),[.t 2]⟩
theorem i49 : iF 49 g49 := jF Try.func49
def g50 : GFun := ⟨⟨20,[1]⟩,(s [a 1 7 0,b 2 false] (S (s [k 3 0] (B 0 (S (s [m 4 3,f 5 6 1,l 6 5,n 7 6,o 8 .lss 4 7] (D 8 F (.exit 0))) (S (.block 1 (s [f 11 6 1,l 12 11,m 13 3,i 14 7 12 13,h 15 7 14,c 16 50 [.t 15],w 17 16] (D 17
 (s [b 2 false] R) F))) (.reg [m 9 3,q 10 .add 9 1,m 3 10]))))) (s [h 18 7 1,c 19 54 [.t 18],m 2 19] R))),[.t 2]⟩
theorem i50 : iF 50 g50 := jF Try.func50
def g51 : GFun := ⟨⟨15,[]⟩,(s [b 6 false] (s [m 7 0,m 8 1,o 9 .geq 7 8,m 10 9,M 11 10 0,M 12 10 2,y 13 10 (.bin .leq (.t 11) (.t 12)),A 14 10 13,m 6 14] R)),[.t 6]⟩
theorem i51 : iF 51 g51 := jF Try.func51
def g52 : GFun := ⟨⟨24,[]⟩,(s [k 2 0,k 3 0,k 4 0] (S (.block 0 (s [m 6 0,c 7 51 [.t 6,K 1,K 5],m 5 7] (D 5 (s [k 2 1,k 3 1,k 4 1] R) (s [m 9 0,c 10 51 [.t 9,K 6,K 8],m 8 10] (D 8 (s [k 2 2,k 3 2,k 4 2] R) (s [m 12 0,q 13 .eql 12 9,m 14 13,
 N 15 14 0,J 16 14 15 10,O 17 14 16,m 11 17] (D 11 (s [k 2 1,k 3 1,k 4 3] R) (s [m 19 0,q 20 .eql 19 11,m 18 20] (D 18 (s [k 2 2,k 3 1,k 4 3] R) (s [m 22 0,q 23 .eql 22 12,m 21 23] (D 21 (s [k 2 2,k 3 1,k 4 2] R) F))))))))))) (s [k 2 0,
 k 3 0,k 4 0] R))),[.t 2,.t 3,.t 4]⟩
theorem i52 : iF 52 g52 := jF Try.func52
def g53 : GFun := ⟨⟨25,[2]⟩,(s [a 2 7 0,b 4 false] (S (s [k 5 0] (B 0 (S (s [m 6 5,f 7 6 2,l 8 7,n 9 8,o 10 .lss 6 9] (D 10 F (.exit 0))) (S (.block 1 (s [f 13 6 2,l 14 13,m 15 5,i 16 7 14 15,h 17 7 16,m 18 1,c 19 53 [.t 17,.t 18],
 w 20 19] (D 20 (s [b 4 false] R) F))) (.reg [m 11 5,q 12 .add 11 1,m 5 12]))))) (s [f 21 2 2,l 22 21,m 23 1,o 24 .leq 22 23,m 4 24] R))),[.t 4]⟩
theorem i53 : iF 53 g53 := jF Try.func53
def g54 : GFun := ⟨⟨61,[1]⟩,(s [a 1 7 0,b 2 false] (S (s [f 3 0 1,l 4 3,c 5 51 [.t 4,K 1,K 8],w 6 5,m 7 6,z 8 7 (j 7 1),z 9 7 (.call false 55 [.t 8]),z 10 7 (.not (.t 9)),O 11 7 10] (D 11 (s [b 2 false] R) F)) (S (s [f 12 0 1,l 13 12]
 (.block 0 (s [q 15 .eql 13 1,m 14 15] (D 14 (s [f 16 3 1,l 17 16,c 18 51 [.t 17,K 1,K 3],m 19 18,y 20 19 (p 1 1 1),y 21 19 (r 1 20),y 22 19 (p 1 3 1),y 23 19 (r 1 22),y 24 19 (.call false 56 [.t 21,.t 23]),A 25 19 24,m 26 25,y 27 26
 (p 1 1 1),y 28 26 (r 1 27),y 29 26 (.bin .geq (.t 28) (K 0)),A 30 26 29,m 2 30] R) (s [q 32 .eql 13 3,m 31 32] (D 31 (s [f 33 2 1,l 34 33,c 35 51 [.t 34,K 0,K 3],m 36 35,y 37 36 (p 1 5 1),y 38 36 (r 1 37),y 39 36 (.call false 57 [.t 38]),
 A 40 36 39,m 2 40] R) (s [q 42 .eql 13 6,m 41 42] (D 41 (s [f 43 2 1,l 44 43,c 45 51 [.t 44,K 0,K 3],m 2 45] R) (s [q 47 .eql 13 4,m 46 47] (D 46 (s [f 48 1 1,l 49 48,c 50 51 [.t 49,K 1,K 12],m 2 50] R) (s [q 52 .eql 13 8,m 51 52] (D 51
 (s [f 53 4 1,l 54 53,c 55 57 [.t 54],m 56 55,y 57 56 (p 1 5 1),y 58 56 (r 1 57),y 59 56 (.call false 57 [.t 58]),A 60 56 59,m 2 60] R) F)))))))))))) (s [b 2 true] R)))),[.t 2]⟩
theorem i54 : iF 54 g54 := jF Try.func54
def g55 : GFun := ⟨⟨86,[1]⟩,(s [a 1 7 0,b 2 false] (s [k 3 0] (S (s [f 7 0 1,l 8 7] (.block 0 (s [q 10 .eql 8 4,m 9 10] (D 9 (.reg [k 3 2]) (s [q 12 .eql 8 5,m 11 12] (D 11 (.reg [k 3 3]) (s [q 14 .eql 8 8,m 13 14] (D 13
 (.reg [k 3 1]) F)))))))) (S (s [f 15 6 1,l 16 15,n 17 16,m 18 3,o 19 .neq 17 18] (D 19 (s [b 2 false] R) F)) (s [f 20 0 1,l 21 20,q 22 .eql 21 3,m 23 22,z 24 23 (p 1 0 1),z 25 23 (r 1 24),J 26 23 25 6,O 27 23 26,m 4 27] (s [f 28 0 1,
 l 29 28,q 30 .eql 29 3,m 31 30,z 32 31 (p 1 0 1),z 33 31 (r 1 32),J 34 31 33 8,O 35 31 34,m 5 35] (s [f 36 0 1,l 37 36,q 38 .eql 37 1,m 39 38,z 40 39 (p 1 0 1),z 41 39 (r 1 40),J 42 39 41 4,O 43 39 42,m 6 43] (s [m 44 4,m 45 44,z 46 45
 (p 1 2 1),z 47 45 (r 1 46),J 48 45 47 0,O 49 45 48,m 50 49,M 51 50 5,M 52 50 51,z 53 52 (p 1 5 1),z 54 52 (r 1 53),z 55 52 (.bin .eql (.t 54) (.k (.val (.string (ByteArray.mk #[]))))),y 56 50 (.pick (.t 52) (.k (.val (.bool true)))
 (.t 55)),A 57 50 56,m 58 57,M 59 58 6,M 60 58 59,z 61 60 (p 1 1 1),z 62 60 (r 1 61),J 63 60 62 0,y 64 58 (.pick (.t 60) (.k (.val (.bool true))) (.t 63)),A 65 58 64,m 66 65,y 67 66 (p 1 0 1),y 68 66 (r 1 67),I 69 66 68 1,M 70 66 69,
 z 71 70 (p 1 3 1),z 72 70 (r 1 71),J 73 70 72 0,y 74 66 (.pick (.t 70) (.k (.val (.bool true))) (.t 73)),A 75 66 74,m 76 75,y 77 76 (p 1 0 1),y 78 76 (r 1 77),I 79 76 78 8,M 80 76 79,z 81 80 (p 1 4 1),z 82 80 (r 1 81),z 83 80 (.bin .eql
 (.t 82) (.k (.val (.string (ByteArray.mk #[]))))),y 84 76 (.pick (.t 80) (.k (.val (.bool true))) (.t 83)),A 85 76 84,m 2 85] R)))))))),[.t 2]⟩
theorem i55 : iF 55 g55 := jF Try.func55
def g56 : GFun := ⟨⟨14,[]⟩,(s [b 4 false] (s [m 5 1,c 6 51 [.t 5,K 1,K 4],m 7 6,M 8 7 0,M 9 7 1,y 10 7 (.call false 58 [.t 8,.t 9]),M 11 7 0,y 12 7 (.bin .eql (.t 10) (.t 11)),A 13 7 12,m 4 13] R)),[.t 4]⟩
theorem i56 : iF 56 g56 := jF Try.func56
def g57 : GFun := ⟨⟨15,[]⟩,(s [b 2 false] (s [m 3 0,c 4 59 [.t 3],m 5 4,M 6 5 0,y 7 5 (.slen (.t 6)),y 8 5 (.bin .leq (.t 7) (K 8)),A 9 5 8,m 10 9,M 11 10 0,y 12 10 (.call false 60 [.t 11]),y 13 10 (.not (.t 12)),A 14 10 13,m 2 14] R)),
 [.t 2]⟩
theorem i57 : iF 57 g57 := jF Try.func57
def g58 : GFun := ⟨⟨24,[]⟩,(s [k 4 0] (S (s [m 5 1] (.block 0 (s [q 7 .eql 5 1,m 6 7] (D 6 (s [m 8 0,c 9 61 [.t 8],m 4 9] R) (s [q 11 .eql 5 2,m 10 11] (D 10 (s [m 12 0,q 13 .and 12 4095,m 4 13] R) (s [q 15 .eql 5 3,m 14 15] (D 14
 (s [m 16 0,q 17 .neq 16 0,c 18 62 [.t 17],m 4 18] R) (s [q 20 .eql 5 4,m 19 20] (D 19 (s [m 21 0,c 22 51 [.t 21,K 0,K 999]] (D 22 (s [m 23 0,m 4 23] R) F)) F)))))))))) (s [k 4 0] R))),[.t 4]⟩
theorem i58 : iF 58 g58 := jF Try.func58
def g59 : GFun := ⟨⟨45,[]⟩,(s [b 2 false] (S (s [k 3 0] (B 0 (S (s [m 6 3,m 7 0,x 8 (.slen (.t 7)),o 9 .lss 6 8] (D 9 F (.exit 0))) (S (.block 1 (s [m 12 0,m 13 3,x 14 (.idx (.t 12) (.t 13)),x 15 (.bin .geq (.t 14) (.k (.val
 (.int .u8 97)))),m 16 15,M 17 16 0,M 18 16 3,y 19 16 (.idx (.t 17) (.t 18)),y 20 16 (.bin .leq (.t 19) (.k (.val (.int .u8 122)))),A 21 16 20,m 4 21] (s [m 22 0,m 23 3,x 24 (.idx (.t 22) (.t 23)),x 25 (.bin .geq (.t 24) (.k (.val
 (.int .u8 48)))),m 26 25,M 27 26 0,M 28 26 3,y 29 26 (.idx (.t 27) (.t 28)),y 30 26 (.bin .leq (.t 29) (.k (.val (.int .u8 57)))),A 31 26 30,m 5 31] (s [m 32 4,w 33 32,m 34 33,M 35 34 3,I 36 34 35 0,M 37 34 36,N 38 37 5,z 39 37 (.not
 (.t 38)),y 40 34 (.pick (.t 37) (.k (.val (.bool true))) (.t 39)),A 41 34 40] (D 41 (s [b 2 false] R) F))))) (.reg [m 10 3,q 11 .add 10 1,m 3 11]))))) (s [m 42 0,x 43 (.slen (.t 42)),q 44 .gtr 43 0,m 2 44] R))),[.t 2]⟩
theorem i59 : iF 59 g59 := jF Try.func59
def g60 : GFun := ⟨⟨6,[]⟩,(s [b 2 false] (s [c 3 64 [],m 4 0,c 5 63 [.t 3,.t 4],m 2 5] R)),[.t 2]⟩
theorem i60 : iF 60 g60 := jF Try.func60
def g61 : GFun := ⟨⟨6,[]⟩,(s [k 2 0] (s [m 3 0,c 4 65 [K 1000000,.t 3],c 5 27 [K (-1000000),.t 4],m 2 5] R)),[.t 2]⟩
theorem i61 : iF 61 g61 := jF Try.func61
def g62 : GFun := ⟨⟨4,[]⟩,(s [k 2 0] (S (s [m 3 0] (D 3 (s [k 2 1] R) F)) (s [k 2 0] R))),[.t 2]⟩
theorem i62 : iF 62 g62 := jF Try.func62
def g63 : GFun := ⟨⟨18,[]⟩,(s [b 4 false] (S (s [k 5 0] (B 0 (S (s [m 6 5,m 7 0,n 8 7,o 9 .lss 6 8] (D 9 F (.exit 0))) (S (.block 1 (s [m 12 0,m 13 5,i 14 1 12 13,l 15 14,m 16 1,o 17 .eql 15 16] (D 17 (s [b 4 true] R) F))) (.reg [m 10 5,
 q 11 .add 10 1,m 5 11]))))) (s [b 4 false] R))),[.t 4]⟩
theorem i63 : iF 63 g63 := jF Try.func63
def g64 : GFun := ⟨⟨2,[]⟩,(s [Z 0] (s [x 1 (.bslice 1 [] 13 false [(0,(.k (.val (.string (ByteArray.mk #[105,102]))))),(1,(.k (.val (.string (ByteArray.mk #[116,104,101,110]))))),(2,(.k (.val (.string (ByteArray.mk #[101,108,115,101]))))),
 (3,(.k (.val (.string (ByteArray.mk #[116,114,117,101]))))),(4,(.k (.val (.string (ByteArray.mk #[102,97,108,115,101]))))),(5,(.k (.val (.string (ByteArray.mk #[108,105,116]))))),(6,(.k (.val (.string (ByteArray.mk #[110,111,110,101]))))),
 (7,(.k (.val (.string (ByteArray.mk #[115,101,108,102]))))),(8,(.k (.val (.string (ByteArray.mk #[111,102]))))),(9,(.k (.val (.string (ByteArray.mk #[109,97,120]))))),(10,(.k (.val (.string (ByteArray.mk #[109,105,110]))))),(11,(.k (.val
 (.string (ByteArray.mk #[119,105,116,104]))))),(12,(.k (.val (.string (ByteArray.mk #[104,97,115])))))]),m 0 1] R)),[.t 0]⟩
theorem i64 : iF 64 g64 := jF Try.func64
def g65 : GFun := ⟨⟨10,[]⟩,(s [k 4 0] (S (s [m 5 0,m 6 1,o 7 .lss 5 6] (D 7 (s [m 8 0,m 4 8] R) F)) (s [m 9 1,m 4 9] R))),[.t 4]⟩
theorem i65 : iF 65 g65 := jF Try.func65
end Go.Proofs.Ytkmedfejmndmjaa

namespace Go.Proofs.Ytkmedfejmndmjaa
open Go.Gh
set_option maxRecDepth 20000
set_option linter.unusedSimpArgs false
set_option linter.unusedVariables false
theorem mxd : Try.prog.follows .mixedOrders = true := Checked.mixed Try.checked
end Go.Proofs.Ytkmedfejmndmjaa

namespace Go.Proofs.Ytkmedfejmndmjaa
open Go.Gh
set_option maxRecDepth 20000
set_option linter.unusedSimpArgs false
set_option linter.unusedVariables false
theorem w51 (x lo hi : Int) : Pure Try.prog 51 [I x, I lo, I hi] (· = B (decide (lo ≤ x ∧ x ≤ hi))) := by
  refine gstart mxd i51 rfl (by simp) ?_; simp (maxSteps := 2000000) only [↓ S2, S2, vIte, ↓reduceIte, Int.reduceNe, Nat.reduceEqDiff, reduceCtorEq, Nat.reduceLeDiff, Nat.reduceAdd, Nat.reduceLT]
  ((try with_reducible refine mkQI ?_); (repeat ((first | (with_reducible refine mkQU ?_) | simp only [brGen]); try simp (maxSteps := 2000000) only [↓ S2, S2, vIte, ↓reduceIte, Int.reduceNe, Nat.reduceEqDiff, reduceCtorEq, Nat.reduceLeDiff, Nat.reduceAdd, Nat.reduceLT])); (try simp +contextual (disch := omega) only [Z2]); (repeat' (first | (with_reducible intro h) | (with_reducible refine And.intro (by omega) ?_) | (with_reducible refine exP (by omega) ?_) | (with_reducible apply And.intro)))) <;> simp [*]
end Go.Proofs.Ytkmedfejmndmjaa

namespace Go.Proofs.Ytkmedfejmndmjaa
open Go.Gh
set_option maxRecDepth 20000
set_option linter.unusedSimpArgs false
set_option linter.unusedVariables false
end Go.Proofs.Ytkmedfejmndmjaa

namespace Go.Proofs.Ytkmedfejmndmjaa
open Go.Gh
set_option maxRecDepth 20000
set_option linter.unusedSimpArgs false
set_option linter.unusedVariables false
end Go.Proofs.Ytkmedfejmndmjaa

namespace Go.Proofs.Ytkmedfejmndmjaa
open Go.Gh
set_option maxRecDepth 20000
set_option linter.unusedSimpArgs false
set_option linter.unusedVariables false
end Go.Proofs.Ytkmedfejmndmjaa

namespace Go.Proofs.Ytkmedfejmndmjaa
open Go.Gh
set_option maxRecDepth 20000
set_option linter.unusedSimpArgs false
set_option linter.unusedVariables false
theorem w27 (x y : Int) : Pure Try.prog 27 [I x, I y] (· = I (max x y)) := by
  refine gstart mxd i27 rfl (by simp) ?_; simp (maxSteps := 2000000) only [↓ S2, S2, vIte, ↓reduceIte, Int.reduceNe, Nat.reduceEqDiff, reduceCtorEq, Nat.reduceLeDiff, Nat.reduceAdd, Nat.reduceLT]
  ((try with_reducible refine mkQI ?_); (repeat ((first | (with_reducible refine mkQU ?_) | simp only [brGen]); try simp (maxSteps := 2000000) only [↓ S2, S2, vIte, ↓reduceIte, Int.reduceNe, Nat.reduceEqDiff, reduceCtorEq, Nat.reduceLeDiff, Nat.reduceAdd, Nat.reduceLT])); (try simp +contextual (disch := omega) only [Z2]); (repeat' (first | (with_reducible intro h) | (with_reducible refine And.intro (by omega) ?_) | (with_reducible refine exP (by omega) ?_) | (with_reducible apply And.intro)))) <;> simp <;> omega
end Go.Proofs.Ytkmedfejmndmjaa

namespace Go.Proofs.Ytkmedfejmndmjaa
open Go.Gh
set_option maxRecDepth 20000
set_option linter.unusedSimpArgs false
set_option linter.unusedVariables false
theorem w62 (b : Bool) : Pure Try.prog 62 [B b] (· = I (trV b)) := by
  refine gstart mxd i62 rfl (by simp) ?_; simp (maxSteps := 2000000) only [↓ S2, S2, vIte, ↓reduceIte, Int.reduceNe, Nat.reduceEqDiff, reduceCtorEq, Nat.reduceLeDiff, Nat.reduceAdd, Nat.reduceLT]
  ((try with_reducible refine mkQI ?_); (repeat ((first | (with_reducible refine mkQU ?_) | simp only [brGen]); try simp (maxSteps := 2000000) only [↓ S2, S2, vIte, ↓reduceIte, Int.reduceNe, Nat.reduceEqDiff, reduceCtorEq, Nat.reduceLeDiff, Nat.reduceAdd, Nat.reduceLT])); (try simp +contextual (disch := omega) only [Z2]); (repeat' (first | (with_reducible intro h) | (with_reducible refine And.intro (by omega) ?_) | (with_reducible refine exP (by omega) ?_) | (with_reducible apply And.intro)))) <;> simp_all [trV]
theorem w65 (a b : Int) : Pure Try.prog 65 [I a, I b] (· = I (min a b)) := by
  refine gstart mxd i65 rfl (by simp) ?_; simp (maxSteps := 2000000) only [↓ S2, S2, vIte, ↓reduceIte, Int.reduceNe, Nat.reduceEqDiff, reduceCtorEq, Nat.reduceLeDiff, Nat.reduceAdd, Nat.reduceLT]
  ((try with_reducible refine mkQI ?_); (repeat ((first | (with_reducible refine mkQU ?_) | simp only [brGen]); try simp (maxSteps := 2000000) only [↓ S2, S2, vIte, ↓reduceIte, Int.reduceNe, Nat.reduceEqDiff, reduceCtorEq, Nat.reduceLeDiff, Nat.reduceAdd, Nat.reduceLT])); (try simp +contextual (disch := omega) only [Z2]); (repeat' (first | (with_reducible intro h) | (with_reducible refine And.intro (by omega) ?_) | (with_reducible refine exP (by omega) ?_) | (with_reducible apply And.intro)))) <;> (congr 2; omega)
theorem w61 (n : Int) : Pure Try.prog 61 [I n] (· = I (satV n)) := by
  refine gstart mxd i61 rfl (by simp) ?_; simp (maxSteps := 2000000) only [↓ S2, S2, vIte, ↓reduceIte, Int.reduceNe, Nat.reduceEqDiff, reduceCtorEq, Nat.reduceLeDiff, Nat.reduceAdd, Nat.reduceLT]
  refine callS.eq (w65 _ _) ?_
  ((try with_reducible refine mkQI ?_); (repeat ((first | (with_reducible refine mkQU ?_) | simp only [brGen]); try simp (maxSteps := 2000000) only [↓ S2, S2, vIte, ↓reduceIte, Int.reduceNe, Nat.reduceEqDiff, reduceCtorEq, Nat.reduceLeDiff, Nat.reduceAdd, Nat.reduceLT])); (try simp +contextual (disch := omega) only [Z2]); (repeat' (first | (with_reducible intro h) | (with_reducible refine And.intro (by omega) ?_) | (with_reducible refine exP (by omega) ?_) | (with_reducible apply And.intro))))
  refine callS.eq (w27 _ _) ?_
  ((try with_reducible refine mkQI ?_); (repeat ((first | (with_reducible refine mkQU ?_) | simp only [brGen]); try simp (maxSteps := 2000000) only [↓ S2, S2, vIte, ↓reduceIte, Int.reduceNe, Nat.reduceEqDiff, reduceCtorEq, Nat.reduceLeDiff, Nat.reduceAdd, Nat.reduceLT])); (try simp +contextual (disch := omega) only [Z2]); (repeat' (first | (with_reducible intro h) | (with_reducible refine And.intro (by omega) ?_) | (with_reducible refine exP (by omega) ?_) | (with_reducible apply And.intro)))) <;> rfl
theorem w58 (v k : Int) : Pure Try.prog 58 [I v, I k] (· = I (coV v k)) := by
  refine gstart mxd i58 rfl (by simp) ?_; simp (maxSteps := 2000000) only [↓ S2, S2, vIte, ↓reduceIte, Int.reduceNe, Nat.reduceEqDiff, reduceCtorEq, Nat.reduceLeDiff, Nat.reduceAdd, Nat.reduceLT]
  ((try with_reducible refine mkQI ?_); (repeat ((first | (with_reducible refine mkQU ?_) | simp only [brGen]); try simp (maxSteps := 2000000) only [↓ S2, S2, vIte, ↓reduceIte, Int.reduceNe, Nat.reduceEqDiff, reduceCtorEq, Nat.reduceLeDiff, Nat.reduceAdd, Nat.reduceLT])); (try simp +contextual (disch := omega) only [Z2]); (repeat' (first | (with_reducible intro h) | (with_reducible refine And.intro (by omega) ?_) | (with_reducible refine exP (by omega) ?_) | (with_reducible apply And.intro))))
  · refine callS.eq (w61 _) ?_
    ((try with_reducible refine mkQI ?_); (repeat ((first | (with_reducible refine mkQU ?_) | simp only [brGen]); try simp (maxSteps := 2000000) only [↓ S2, S2, vIte, ↓reduceIte, Int.reduceNe, Nat.reduceEqDiff, reduceCtorEq, Nat.reduceLeDiff, Nat.reduceAdd, Nat.reduceLT])); (try simp +contextual (disch := omega) only [Z2]); (repeat' (first | (with_reducible intro h) | (with_reducible refine And.intro (by omega) ?_) | (with_reducible refine exP (by omega) ?_) | (with_reducible apply And.intro)))) <;> simp_all [coV]
  · simp_all [coV]
  · refine callS.eq (w62 _) ?_
    ((try with_reducible refine mkQI ?_); (repeat ((first | (with_reducible refine mkQU ?_) | simp only [brGen]); try simp (maxSteps := 2000000) only [↓ S2, S2, vIte, ↓reduceIte, Int.reduceNe, Nat.reduceEqDiff, reduceCtorEq, Nat.reduceLeDiff, Nat.reduceAdd, Nat.reduceLT])); (try simp +contextual (disch := omega) only [Z2]); (repeat' (first | (with_reducible intro h) | (with_reducible refine And.intro (by omega) ?_) | (with_reducible refine exP (by omega) ?_) | (with_reducible apply And.intro)))) <;> simp_all [coV]
  · refine callS.eq (w51 _ _ _) ?_
    ((try with_reducible refine mkQI ?_); (repeat ((first | (with_reducible refine mkQU ?_) | simp only [brGen]); try simp (maxSteps := 2000000) only [↓ S2, S2, vIte, ↓reduceIte, Int.reduceNe, Nat.reduceEqDiff, reduceCtorEq, Nat.reduceLeDiff, Nat.reduceAdd, Nat.reduceLT])); (try simp +contextual (disch := omega) only [Z2]); (repeat' (first | (with_reducible intro h) | (with_reducible refine And.intro (by omega) ?_) | (with_reducible refine exP (by omega) ?_) | (with_reducible apply And.intro)))) <;> simp_all [coV] <;> (intros; omega)
  · simp_all [coV]
theorem w52 (op : Int) : Pure Try.prog 52 [I op] (· = opG op) := by
  refine gstart mxd i52 rfl (by simp) ?_; simp (maxSteps := 2000000) only [↓ S2, S2, vIte, ↓reduceIte, Int.reduceNe, Nat.reduceEqDiff, reduceCtorEq, Nat.reduceLeDiff, Nat.reduceAdd, Nat.reduceLT]
  refine callS.eq (w51 _ _ _) ?_
  ((try with_reducible refine mkQI ?_); (repeat ((first | (with_reducible refine mkQU ?_) | simp only [brGen]); try simp (maxSteps := 2000000) only [↓ S2, S2, vIte, ↓reduceIte, Int.reduceNe, Nat.reduceEqDiff, reduceCtorEq, Nat.reduceLeDiff, Nat.reduceAdd, Nat.reduceLT])); (try simp +contextual (disch := omega) only [Z2]); (repeat' (first | (with_reducible intro h) | (with_reducible refine And.intro (by omega) ?_) | (with_reducible refine exP (by omega) ?_) | (with_reducible apply And.intro))))
  · simp only [opG, opT, if_pos h]
  refine callS.eq (w51 _ _ _) ?_
  ((try with_reducible refine mkQI ?_); (repeat ((first | (with_reducible refine mkQU ?_) | simp only [brGen]); try simp (maxSteps := 2000000) only [↓ S2, S2, vIte, ↓reduceIte, Int.reduceNe, Nat.reduceEqDiff, reduceCtorEq, Nat.reduceLeDiff, Nat.reduceAdd, Nat.reduceLT])); (try simp +contextual (disch := omega) only [Z2]); (repeat' (first | (with_reducible intro h) | (with_reducible refine And.intro (by omega) ?_) | (with_reducible refine exP (by omega) ?_) | (with_reducible apply And.intro))))
  all_goals first | (simp only [opG, opT]; rw [if_neg (by assumption), if_pos (by assumption)]; done) | (subst op; rfl) | (rw [opG0 (by omega)]; done) | (simp_all [opG, opT]; done) | skip
theorem w56 (v k : Int) : Pure Try.prog 56 [I v, I k] (· = B (okV v k)) := by
  refine gstart mxd i56 rfl (by simp) ?_; simp (maxSteps := 2000000) only [↓ S2, S2, vIte, ↓reduceIte, Int.reduceNe, Nat.reduceEqDiff, reduceCtorEq, Nat.reduceLeDiff, Nat.reduceAdd, Nat.reduceLT]
  refine callS.eq (w51 _ _ _) ?_
  ((try with_reducible refine mkQI ?_); (repeat ((first | (with_reducible refine mkQU ?_) | simp only [brGen]); try simp (maxSteps := 2000000) only [↓ S2, S2, vIte, ↓reduceIte, Int.reduceNe, Nat.reduceEqDiff, reduceCtorEq, Nat.reduceLeDiff, Nat.reduceAdd, Nat.reduceLT])); (try simp +contextual (disch := omega) only [Z2]); (repeat' (first | (with_reducible intro h) | (with_reducible refine And.intro (by omega) ?_) | (with_reducible refine exP (by omega) ?_) | (with_reducible apply And.intro))))
  · refine callS.eq (w58 _ _) ?_
    ((try with_reducible refine mkQI ?_); (repeat ((first | (with_reducible refine mkQU ?_) | simp only [brGen]); try simp (maxSteps := 2000000) only [↓ S2, S2, vIte, ↓reduceIte, Int.reduceNe, Nat.reduceEqDiff, reduceCtorEq, Nat.reduceLeDiff, Nat.reduceAdd, Nat.reduceLT])); (try simp +contextual (disch := omega) only [Z2]); (repeat' (first | (with_reducible intro h) | (with_reducible refine And.intro (by omega) ?_) | (with_reducible refine exP (by omega) ?_) | (with_reducible apply And.intro)))) <;> simp_all [okV]
  · simp_all [okV] <;> (intros; omega)
end Go.Proofs.Ytkmedfejmndmjaa

namespace Go.Proofs.Ytkmedfejmndmjaa
open Go.Gh
set_option maxRecDepth 20000
set_option linter.unusedSimpArgs false
set_option linter.unusedVariables false
end Go.Proofs.Ytkmedfejmndmjaa

namespace Go.Proofs.Ytkmedfejmndmjaa
open Go.Gh
set_option maxRecDepth 20000
set_option linter.unusedSimpArgs false
set_option linter.unusedVariables false
theorem w49 : ∀ (e : Exp), wEx e ≤ 1048576 → Pure Try.prog 49 [Ex e] (· = I (dpE e)) := by
  refine Exp.indA fun e ih hw => ?_
  obtain ⟨hl, ha⟩ := args_small hw
  have hc := cntE_le e
  have he := cntE_eq e
  have hd := dpE_eq e
  have hq := sumL_le (l := e.args) fun a _ => dpE_le a
  rw [Ex_eq]
  refine gstart mxd i49 rfl (by simp) ?_; simp (maxSteps := 2000000) only [↓ S2, S2, vIte, ↓reduceIte, Int.reduceNe, Nat.reduceEqDiff, reduceCtorEq, Nat.reduceLeDiff, Nat.reduceAdd, Nat.reduceLT]
  refine wloop mxd (ι := { i : Nat // i ≤ e.args.length }) (fun i => [(1, .rop 7 (.agg [I e.kind, I e.n, I e.pos, I e.type, T e.sym, T e.name, ExS e.args])), (3, I (mxL ((e.args.take i.1).map dpE))), (4, I i.1)]) (fun i => []) (fun i => e.args.length - i.1) ⟨0, by simp⟩ (by simp [E2, mxL]) (by simp) ?_
  rintro ⟨i, hi⟩
  have h1 := mxT_le dpE e.args i
  ((try with_reducible refine mkQI ?_); (repeat ((first | (with_reducible refine mkQU ?_) | simp only [brGen]); try simp (maxSteps := 2000000) only [↓ S2, S2, vIte, ↓reduceIte, Int.reduceNe, Nat.reduceEqDiff, reduceCtorEq, Nat.reduceLeDiff, Nat.reduceAdd, Nat.reduceLT, isAgg_Ex, geR_Ex, gsize_Ex, stor_Ex])); (try simp +contextual (disch := omega) only [Z2, isAgg_Ex, geR_Ex, gsize_Ex, stor_Ex]); (repeat' (first | (with_reducible intro h) | (with_reducible refine And.intro (by omega) ?_) | (with_reducible refine exP (by omega) ?_) | (with_reducible apply And.intro))))
  · have h2 := mxT dpE e.args i (by omega)
    refine callS.eq (ih _ (List.getElem_mem _) (ha _ (List.getElem_mem _))) ?_
    ((try with_reducible refine mkQI ?_); (repeat ((first | (with_reducible refine mkQU ?_) | simp only [brGen]); try simp (maxSteps := 2000000) only [↓ S2, S2, vIte, ↓reduceIte, Int.reduceNe, Nat.reduceEqDiff, reduceCtorEq, Nat.reduceLeDiff, Nat.reduceAdd, Nat.reduceLT])); (try simp +contextual (disch := omega) only [Z2]); (repeat' (first | (with_reducible intro h) | (with_reducible refine And.intro (by omega) ?_) | (with_reducible refine exP (by omega) ?_) | (with_reducible apply And.intro))))
    refine callS.eq (w27 _ _) ?_
    ((try with_reducible refine mkQI ?_); (repeat ((first | (with_reducible refine mkQU ?_) | simp only [brGen]); try simp (maxSteps := 2000000) only [↓ S2, S2, vIte, ↓reduceIte, Int.reduceNe, Nat.reduceEqDiff, reduceCtorEq, Nat.reduceLeDiff, Nat.reduceAdd, Nat.reduceLT])); (try simp +contextual (disch := omega) only [Z2]); (repeat' (first | (with_reducible intro h) | (with_reducible refine And.intro (by omega) ?_) | (with_reducible refine exP (by omega) ?_) | (with_reducible apply And.intro))))
    refine nx ⟨i + 1, by omega⟩ (by simp; omega) ?_ (by simp)
    simp [E2, h2, -List.map_take]
    try (first | omega | (split <;> omega))
  · have : i = e.args.length := by omega
    subst this
    simp [hd]
    try omega
theorem w48 : ∀ (e : Exp), wEx e ≤ 1048576 → ∀ left : Int, 0 ≤ left → left ≤ 1048576 → Pure Try.prog 48 [Ex e, I left] (· = I (max (left - cntE e) (-1))) := by
  refine Exp.indA fun e ih hw left l0 l1 => ?_
  obtain ⟨hl, ha⟩ := args_small hw
  have hc := cntE_le e
  have he := cntE_eq e
  rw [Ex_eq]
  refine gstart mxd i48 rfl (by simp) ?_; simp (maxSteps := 2000000) only [↓ S2, S2, vIte, ↓reduceIte, Int.reduceNe, Nat.reduceEqDiff, reduceCtorEq, Nat.reduceLeDiff, Nat.reduceAdd, Nat.reduceLT]
  simp +contextual (disch := omega) only [Z2]
  refine wloop mxd (ι := { i : Nat // i ≤ e.args.length }) (fun i => [(2, .rop 7 (.agg [I e.kind, I e.n, I e.pos, I e.type, T e.sym, T e.name, ExS e.args])), (1, I (max (left - 1 - ((e.args.take i.1).map cntE).sum) (-1))), (5, I i.1)]) (fun i => []) (fun i => e.args.length - i.1) ⟨0, by simp⟩ (by simp [E2]; try omega) (by simp) ?_
  rintro ⟨i, hi⟩
  have h1 := sumT_le cntE e.args i
  generalize hs : ((e.args.take i).map cntE).sum = s at *
  ((try with_reducible refine mkQI ?_); (repeat ((first | (with_reducible refine mkQU ?_) | simp only [brGen]); try simp (maxSteps := 2000000) only [↓ S2, S2, vIte, ↓reduceIte, Int.reduceNe, Nat.reduceEqDiff, reduceCtorEq, Nat.reduceLeDiff, Nat.reduceAdd, Nat.reduceLT, isAgg_Ex, geR_Ex, gsize_Ex, stor_Ex])); (try simp +contextual (disch := omega) only [Z2, isAgg_Ex, geR_Ex, gsize_Ex, stor_Ex]); (repeat' (first | (with_reducible intro h) | (with_reducible refine And.intro (by omega) ?_) | (with_reducible refine exP (by omega) ?_) | (with_reducible apply And.intro))))
  · have h2 := sumT cntE e.args i (by omega)
    refine callS.eq (ih _ (List.getElem_mem _) (ha _ (List.getElem_mem _)) _ (by omega) (by omega)) ?_
    ((try with_reducible refine mkQI ?_); (repeat ((first | (with_reducible refine mkQU ?_) | simp only [brGen]); try simp (maxSteps := 2000000) only [↓ S2, S2, vIte, ↓reduceIte, Int.reduceNe, Nat.reduceEqDiff, reduceCtorEq, Nat.reduceLeDiff, Nat.reduceAdd, Nat.reduceLT])); (try simp +contextual (disch := omega) only [Z2]); (repeat' (first | (with_reducible intro h) | (with_reducible refine And.intro (by omega) ?_) | (with_reducible refine exP (by omega) ?_) | (with_reducible apply And.intro))))
    refine nx ⟨i + 1, by omega⟩ (by simp; omega) ?_ (by simp)
    simp [E2, h2, hs, -List.map_take]
    try omega
  all_goals first | (congr 2; omega) | (rw [List.take_of_length_le (by omega)] at hs; congr 2; omega)
end Go.Proofs.Ytkmedfejmndmjaa

namespace Go.Proofs.Ytkmedfejmndmjaa
open Go.Gh
set_option maxRecDepth 20000
set_option linter.unusedSimpArgs false
set_option linter.unusedVariables false
end Go.Proofs.Ytkmedfejmndmjaa

namespace Go.Proofs.Ytkmedfejmndmjaa
open Go.Gh
set_option maxRecDepth 20000
set_option linter.unusedSimpArgs false
set_option linter.unusedVariables false
theorem w15 (x : Sym) (hx : smSy x) : Pure Try.prog 15 [Sy x] (· = Sy x) := by
  unfold smSy at hx
  refine Pure.bor ?_
  refine gstart mxd i15 rfl (by simp) ?_; simp (maxSteps := 2000000) only [↓ S2, S2, vIte, ↓reduceIte, Int.reduceNe, Nat.reduceEqDiff, reduceCtorEq, Nat.reduceLeDiff, Nat.reduceAdd, Nat.reduceLT]
  ((try with_reducible refine mkQI ?_); (repeat ((first | (with_reducible refine mkQU ?_) | simp only [brGen]); try simp (maxSteps := 2000000) only [↓ S2, S2, vIte, ↓reduceIte, Int.reduceNe, Nat.reduceEqDiff, reduceCtorEq, Nat.reduceLeDiff, Nat.reduceAdd, Nat.reduceLT])); (try simp +contextual (disch := omega) only [Z2]); (repeat' (first | (with_reducible intro h) | (with_reducible refine And.intro (by omega) ?_) | (with_reducible refine exP (by omega) ?_) | (with_reducible apply And.intro))))
  exact .agg (.cons .refl (.cons (Bor.allM (fun _ => rfl) hget_new rfl) .nil))
theorem w10 (g : Gram) (s : ByteArray) (hg : smGr g) : Pure Try.prog 10 [Gr g, T s] (· = .tup [Sy (fSym g.syms s), B (hSym g.syms s)]) := by
  refine Pure.bor ?_
  have hlen := hg.1
  refine gstart mxd i10 rfl (by simp) ?_; simp (maxSteps := 2000000) only [↓ S2, S2, vIte, ↓reduceIte, Int.reduceNe, Nat.reduceEqDiff, reduceCtorEq, Nat.reduceLeDiff, Nat.reduceAdd, Nat.reduceLT]
  refine wloop mxd (ι := { i : Nat // i ≤ g.syms.length ∧ ∀ y ∈ g.syms.take i, decide (y.name = s) = false }) (fun i => [(1, T s), (2, .rop 2 (Gr g)), (4, .raw 2), (6, I i.1)]) (fun _ => []) (fun i => g.syms.length - i.1) ⟨0, by simp⟩ (by simp [E2]) rfl ?_
  rintro ⟨i, hi, hn⟩
  ((try with_reducible refine mkQI ?_); (repeat ((first | (with_reducible refine mkQU ?_) | simp only [brGen]); try simp (maxSteps := 2000000) only [↓ S2, S2, vIte, ↓reduceIte, Int.reduceNe, Nat.reduceEqDiff, reduceCtorEq, Nat.reduceLeDiff, Nat.reduceAdd, Nat.reduceLT])); (try simp +contextual (disch := omega) only [Z2]); (repeat' (first | (with_reducible intro h) | (with_reducible refine And.intro (by omega) ?_) | (with_reducible refine exP (by omega) ?_) | (with_reducible apply And.intro))))
  · subst h
    refine callS.eq (w15 g.syms[i] (hg.2.2.1 _ (List.getElem_mem _))) ?_
    ((try with_reducible refine mkQI ?_); (repeat ((first | (with_reducible refine mkQU ?_) | simp only [brGen]); try simp (maxSteps := 2000000) only [↓ S2, S2, vIte, ↓reduceIte, Int.reduceNe, Nat.reduceEqDiff, reduceCtorEq, Nat.reduceLeDiff, Nat.reduceAdd, Nat.reduceLT])); (try simp +contextual (disch := omega) only [Z2]); (repeat' (first | (with_reducible intro h) | (with_reducible refine And.intro (by omega) ?_) | (with_reducible refine exP (by omega) ?_) | (with_reducible apply And.intro))))
    have e := find_hit (p := fun x : Sym => decide (x.name = g.syms[i].name)) (xs := g.syms) (i := i) (by assumption) (by simp) hn
    simp only [fSym, hSym, e]
    exact .refl
  · exact nx ⟨i + 1, by omega, take_step (by assumption) (by simp [*]) hn⟩ (by simp; omega) (by simp [E2]) rfl
  · have : i = g.syms.length := by omega
    subst this
    rw [List.take_of_length_le (Nat.le_refl _)] at hn
    have e := find_none hn
    simp only [fSym, hSym, e]
    exact .tup (.cons (.agg (.cons .refl (.cons .nil .nil))) (.cons .refl .nil))
theorem w40 (g : Sym) (s : ByteArray) (hg : smSy g) : Pure Try.prog 40 [Sy g, T s] (· = .tup [At (fAtt g.atts s), B (hAtt g.atts s)]) := by
  unfold smSy at hg
  refine gstart mxd i40 rfl (by simp) ?_; simp (maxSteps := 2000000) only [↓ S2, S2, vIte, ↓reduceIte, Int.reduceNe, Nat.reduceEqDiff, reduceCtorEq, Nat.reduceLeDiff, Nat.reduceAdd, Nat.reduceLT]
  refine wloop mxd (ι := { i : Nat // i ≤ g.atts.length ∧ ∀ y ∈ g.atts.take i, decide (y.name = s) = false }) (fun i => [(1, T s), (2, .rop 2 (Sy g)), (4, .raw 4), (6, I i.1)]) (fun _ => []) (fun i => g.atts.length - i.1) ⟨0, by simp⟩ (by simp [E2]) rfl ?_
  rintro ⟨i, hi, hn⟩
  ((try with_reducible refine mkQI ?_); (repeat ((first | (with_reducible refine mkQU ?_) | simp only [brGen]); try simp (maxSteps := 2000000) only [↓ S2, S2, vIte, ↓reduceIte, Int.reduceNe, Nat.reduceEqDiff, reduceCtorEq, Nat.reduceLeDiff, Nat.reduceAdd, Nat.reduceLT])); (try simp +contextual (disch := omega) only [Z2]); (repeat' (first | (with_reducible intro h) | (with_reducible refine And.intro (by omega) ?_) | (with_reducible refine exP (by omega) ?_) | (with_reducible apply And.intro))))
  · subst h
    have e := find_hit (p := fun x : Att => decide (x.name = g.atts[i].name)) (xs := g.atts) (i := i) (by assumption) (by simp) hn
    simp only [fAtt, hAtt, e]
    rfl
  · exact nx ⟨i + 1, by omega, take_step (by assumption) (by simp [*]) hn⟩ (by simp; omega) (by simp [E2]) rfl
  · have : i = g.atts.length := by omega
    subst this
    rw [List.take_of_length_le (Nat.le_refl _)] at hn
    have e := find_none hn
    simp only [fAtt, hAtt, e]
    rfl
end Go.Proofs.Ytkmedfejmndmjaa

