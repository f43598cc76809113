/- The law FnExactFormatInstance returns true whatever the input, and the input reads behind the call as before. No condition. -/
import Derived.Test.YtbdmpkidcpblaaaDoorLib2
import Derived.Lib.ItoaNum
import Derived.Lib.LaidTab
import Derived.Sort.Grow
import Derived.Shelf.Strconv.Itoa3
import Derived.Deep.Draws
import Derived.LaidMore
import Derived.OpenShut
import Derived.Stop.Joined
import Derived.SevenTiedAt
import Derived.Test.YtbdmpkidcpblaaaDoorRows
import Derived.Test.YtbdmpkidcpblaaaDoorChecked
import Derived.KernelRfl
import Derived.Test.YtbdmpkidcpblaaaDoorCards
import Derived.Test.YtbdmpkidcpblaaaDoorTie
/- The program's data as plain data, and their ghosts. -/
namespace Go.Gh
set_option linter.unusedSimpArgs false
set_option linter.unusedVariables false
abbrev T (s : ByteArray) : GV := .val (.string s)
theorem chars_inj {s t : ByteArray} : chars s = chars t ↔ s = t := by
  constructor
  · intro h; obtain ⟨a⟩ := s; obtain ⟨b⟩ := t; simp only [chars] at h; congr 1; exact Array.ext' h
  · rintro rfl; rfl
@[ext] structure Nod where
  id : Int
  parent : Int
  place : Int
  lit : Int
  rule : ByteArray
  kids : List Int
deriving DecidableEq
@[ext] structure Slo where
  pos : Int
  name : ByteArray
  val : Int
deriving DecidableEq
abbrev wOcc (x : Int × ByteArray) : Nat := (chars x.2).length
theorem e_nil (e : Env) : subE e [] = True := (rfl)
theorem e_cons (e : Env) (j : Nat) (g : GV) (r : Env) : subE e ((j, g) :: r) = (eget e j = some g ∧ subE e r) := (rfl)
theorem n_val (v : Value) : nraw (.val v) = true := (rfl)
theorem n_sl (sz : Nat) (es : List GV) : nraw (.sl sz es) = true := (rfl)
theorem n_agg (cs : List GV) : nraw (.agg cs) = true := (rfl)
theorem n_rop (sz : Nat) (g : GV) : nraw (.rop sz g) = true := (rfl)
theorem n_ptr (r sz i o : Nat) : nraw (.ptr r sz i o) = true := (rfl)
theorem n_own (r sz k n : Nat) : nraw (.own r sz k n) = true := (rfl)
theorem n_clo (f : Nat) (cs : List GV) : nraw (.clo f cs) = true := (rfl)
theorem n_tup (cs : List GV) : nraw (.tup cs) = true := (rfl)
theorem E2 : type_of% (And.intro @e_nil (And.intro @e_cons (And.intro @n_val (And.intro @n_sl (And.intro @n_agg (And.intro @n_rop (And.intro @n_ptr (And.intro @n_own (And.intro @n_clo (And.intro @n_tup (And.intro @x_get @Option.some.injEq.{0}))))))))))) :=
  And.intro @e_nil (And.intro @e_cons (And.intro @n_val (And.intro @n_sl (And.intro @n_agg (And.intro @n_rop (And.intro @n_ptr (And.intro @n_own (And.intro @n_clo (And.intro @n_tup (And.intro @x_get @Option.some.injEq.{0}))))))))))
theorem maxLv : maxL = 9223372036854775807 := (rfl)
theorem Z2 : type_of% (And.intro @Int.ofNat_lt (And.intro @Int.natCast_nonneg (And.intro @true_and (And.intro @u_ext (And.intro @exists_prop_of_true (And.intro @Int.natCast_zero (And.intro @chars_inj (And.intro @Int.natCast_inj (And.intro maxLv (And.intro @not_true_eq_false (And.intro @false_implies (And.intro @true_implies (And.intro @and_true (And.intro @implies_true.{0} @wrap64)))))))))))))) :=
  And.intro @Int.ofNat_lt (And.intro @Int.natCast_nonneg (And.intro @true_and (And.intro @u_ext (And.intro @exists_prop_of_true (And.intro @Int.natCast_zero (And.intro @chars_inj (And.intro @Int.natCast_inj (And.intro maxLv (And.intro @not_true_eq_false (And.intro @false_implies (And.intro @true_implies (And.intro @and_true (And.intro @implies_true.{0} @wrap64)))))))))))))
end Go.Gh

/- What the program computes, in plain words: trees. -/
namespace Go.Gh
set_option linter.unusedSimpArgs false
set_option linter.unusedVariables false
end Go.Gh
namespace Go.Gh
end Go.Gh
namespace Go.Gh
end Go.Gh
namespace Go.Gh
end Go.Gh
namespace Go.Gh
end Go.Gh
namespace Go.Gh
theorem exP {p : Prop} {q : p → Prop} (h : p) (hq : q h) : ∃ h, q h := ⟨h, hq⟩
end Go.Gh
namespace Go.Gh
end Go.Gh
namespace Go.Gh
end Go.Gh
namespace Go.Gh
end Go.Gh

/- The laws' own functions on slices, whatever the element: sizes, copies, comparisons. -/
namespace Go.Gh
set_option linter.unusedSimpArgs false
set_option linter.unusedVariables false
set_option maxRecDepth 20000
section
variable {P : Program} {α : Type} {f : α → GV} {k kx sz : Nat} {det ag : Bool}
end
end Go.Gh

/- Arguments of the statements, by their types. -/
namespace Go.Gh
end Go.Gh

/- What the laws' marks are. -/
namespace Go.Gh
set_option linter.unusedSimpArgs false
set_option linter.unusedVariables false
theorem vIte (P : Program) (c : Prop) [Decidable c] (g : GV) (d : Option Nat) (is : List GI) (K : Env → GH → Prop) (env : Env) (H : GH) : valS P (if c then some g else none) d is K env H = (c ∧ gsteps P is K (gput env d g) H) := by
  by_cases h : c <;> simp [h, valS]
theorem FE.swap {env : Env} {H : GH} {x y : Nat × Nat × List GV} : FE env (x :: y :: H) env (y :: x :: H) := by
  intro w0 D0 O0 N a w ⟨hdf, hsz, D, Ω, ρw, hi⟩
  obtain ⟨r1, sz1, es1⟩ := x
  obtain ⟨r2, sz2, es2⟩ := y
  obtain ⟨F1, G1, e1, h1, F2, F3, e2, h2, h3⟩ := hi.st.hm
  have hp : ∀ x, (F2 ++ (F1 ++ F3)).count x = Ω.count x := by
    intro x; rw [e1, e2]; simp only [List.count_append]; omega
  have hmem : ∀ x ∈ F2 ++ (F1 ++ F3), x ∈ Ω := fun x hx => by
    have := List.count_pos_iff.2 hx
    exact List.count_pos_iff.1 (by rw [← hp]; exact this)
  refine ⟨hdf, hsz, D, F2 ++ (F1 ++ F3), ρw, hi.st' ⟨⟨F2, _, rfl, h2, F1, F3, rfl, h1, h3⟩, ?_, ?_, fun x hx => hi.st.dj x (hmem x hx), hi.st.ds⟩ hmem⟩
  · rw [List.nodup_iff_count]
    intro x
    rw [hp]
    exact List.nodup_iff_count.1 hi.st.nd x
  · have := hi.st.nn
    simp only [names, List.map_cons, List.nodup_cons, List.mem_cons, not_or] at this ⊢
    exact ⟨⟨fun e => this.1.1 e.symm, this.2.1⟩, this.1.2, this.2.2⟩
end Go.Gh

/- Expressions as plain data, and their ghosts. -/
namespace Go.Gh
set_option linter.unusedSimpArgs false
set_option linter.unusedVariables false
inductive Exp where
  | mk (kind n pos type : Int) (sym name : ByteArray) (args : List Exp)
def Exp.kind : Exp → Int | .mk k _ _ _ _ _ _ => k
def Exp.n : Exp → Int | .mk _ n _ _ _ _ _ => n
def Exp.pos : Exp → Int | .mk _ _ p _ _ _ _ => p
def Exp.type : Exp → Int | .mk _ _ _ t _ _ _ => t
def Exp.sym : Exp → ByteArray | .mk _ _ _ _ s _ _ => s
def Exp.name : Exp → ByteArray | .mk _ _ _ _ _ m _ => m
def Exp.args : Exp → List Exp | .mk _ _ _ _ _ _ a => a
mutual
instance decExp : (x y : Exp) → Decidable (x = y)
  | .mk k n p t s m a, .mk k' n' p' t' s' m' a' =>
    match decExpL a a' with
    | isTrue h => decidable_of_iff (k = k' ∧ n = n' ∧ p = p' ∧ t = t' ∧ s = s' ∧ m = m') (by simp [h])
    | isFalse h => isFalse (by simp [h])
instance decExpL : (x y : List Exp) → Decidable (x = y)
  | [], [] => isTrue rfl
  | [], _ :: _ => isFalse (by simp)
  | _ :: _, [] => isFalse (by simp)
  | e :: l, e' :: l' => match decExp e e', decExpL l l' with
    | isTrue h, isTrue h' => isTrue (by rw [h, h'])
    | isFalse h, _ => isFalse (by simp [h])
    | _, isFalse h => isFalse (by simp [h])
end
end Go.Gh

/- Arguments of recursive types, seen as ghosts. -/
namespace Go.Gh
open Go.RowKit Go.ChangeShapes Go.WideShapes Go.Deep
end Go.Gh

/- Expressions as arguments of statements. -/
namespace Go.Gh
set_option linter.unusedSimpArgs false
set_option linter.unusedVariables false
end Go.Gh

/- Values and operators, as plain functions. -/
namespace Go.Gh
set_option linter.unusedSimpArgs false
set_option linter.unusedVariables false
end Go.Gh

/- Counts of an expression. -/
namespace Go.Gh
set_option linter.unusedSimpArgs false
set_option linter.unusedVariables false
end Go.Gh

/- Predicates on all nodes of an expression. -/
namespace Go.Gh
set_option linter.unusedSimpArgs false
set_option linter.unusedVariables false
end Go.Gh

/- Names. -/
namespace Go.Gh
set_option linter.unusedSimpArgs false
set_option linter.unusedVariables false
end Go.Gh

/- Names: steps. -/
namespace Go.Gh
set_option linter.unusedSimpArgs false
set_option linter.unusedVariables false
end Go.Gh

/- Valid nodes. -/
namespace Go.Gh
set_option linter.unusedSimpArgs false
set_option linter.unusedVariables false
end Go.Gh

/- Symbols, rules and grammars as plain data, and their ghosts. -/
namespace Go.Gh
set_option linter.unusedSimpArgs false
set_option linter.unusedVariables false
@[ext] structure Att where
  name : ByteArray
  type : Int
  mode : Int
  circ : Bool
deriving DecidableEq
@[ext] structure Sym where
  name : ByteArray
  atts : List Att
deriving DecidableEq
@[ext] structure Eqn where
  pos : Int
  name : ByteArray
  expr : Exp
deriving DecidableEq
@[ext] structure Con where
  sym : ByteArray
  name : ByteArray
  goal : Exp
  value : Exp
deriving DecidableEq
@[ext] structure Rul where
  name : ByteArray
  left : ByteArray
  right : List ByteArray
  lit : Bool
  eqs : List Eqn
  cons : List Con
deriving DecidableEq
@[ext] structure Gram where
  syms : List Sym
  rules : List Rul
deriving DecidableEq
abbrev Ins (x : Int × ByteArray) : GV := .agg [I x.1, T x.2]
end Go.Gh

/- Instances of a tree. -/
namespace Go.Gh
set_option linter.unusedSimpArgs false
set_option linter.unusedVariables false
end Go.Gh

/- Grammars as arguments of statements. -/
namespace Go.Gh
set_option linter.unusedSimpArgs false
set_option linter.unusedVariables false
end Go.Gh

/- Trees of a grammar; types of expressions. -/
namespace Go.Gh
set_option linter.unusedSimpArgs false
set_option linter.unusedVariables false
end Go.Gh
namespace Go.Gh
end Go.Gh
namespace Go.Gh
end Go.Gh
namespace Go.Gh
end Go.Gh

/- Valid expressions, and their values. -/
namespace Go.Gh
set_option linter.unusedSimpArgs false
set_option linter.unusedVariables false
end Go.Gh
namespace Go.Gh
theorem Bor.clo {H : GH} {f : Nat} {gs gs' : List GV} (h : BorL H gs gs') : Bor H (.clo f gs) (.clo f gs') := fun w D Ω v hst hm => by
  simp only [MV] at hm ⊢
  obtain ⟨h0, vs, h1, h2⟩ := hm
  exact ⟨h0, vs, h1, h w D Ω vs hst h2⟩
theorem Bor.rop {H : GH} {sz : Nat} {g g' : GV} (h : Bor H g g') : Bor H (.rop sz g) (.rop sz g') := fun w D Ω v hst hm => by
  simp only [MV] at hm ⊢
  obtain ⟨h0, b, off, u, h1, h2, h3, h4, h5, h6⟩ := hm
  exact ⟨h0, b, off, u, h1, .inl h2, h3, h4, h5, h w D Ω u hst h6⟩
end Go.Gh
namespace Go.Gh
end Go.Gh
namespace Go.Gh
end Go.Gh
namespace Go.Gh
end Go.Gh
namespace Go.Gh
end Go.Gh

/- Grammars of one's own. -/
namespace Go.Gh
set_option linter.unusedSimpArgs false
set_option linter.unusedVariables false
set_option maxRecDepth 20000
theorem Bor.seen {α : Type} {f g : α → GV} {H : GH} {r sz n : Nat} {l : List α} (hv : ∀ a, view (f a) = g a) (hr : hget H r = some (sz, l.map f)) (hl : l.length = n) : Bor H (.own r sz 0 n) (.sl sz (l.map g)) := by
  have := Bor.own (k := 0) (n := n) hr (by simp [hl])
  rw [List.drop_zero, List.take_of_length_le (by simp [hl]), viewL_eq, List.map_map] at this
  have e : l.map (view ∘ f) = l.map g := List.map_congr_left fun a _ => hv a
  rwa [e] at this
section
variable {P : Program} {α : Type} {f : α → GV} {k kx sz : Nat} {ag : Bool}
end
theorem FR.perm {g : GV} {H L T : GH} (hs : subH H L) : FR g (H ++ T) g (L ++ T) := by
  intro w D Ω v hv hst
  obtain ⟨Ω', h1, h2⟩ := St.sub hst hs
  exact ⟨D, Ω', hv, h1, ⟨fun _ h => h, fun _ _ h => .inl h, fun b hb _ => h2 b hb, Kept.refl _ _, rfl, rfl, rfl⟩⟩
end Go.Gh

/- Trees cut out of trees. -/
namespace Go.Gh
end Go.Gh

/- What the laws' marks are: lists marked one element after the other; expressions; instances; grammars. -/
namespace Go.Gh
set_option linter.unusedSimpArgs false
set_option linter.unusedVariables false
section
variable {α : Type} (w : α → Nat) (m : α → Int → α)
end
section
variable {α : Type} {f : α → α}
end
end Go.Gh

/- A subtree of a tree replaced. -/
namespace Go.Gh
set_option linter.unusedSimpArgs false
set_option linter.unusedVariables false
theorem neN (r : Nat) (x : Nat × List GV) (H : GH) : (names ((r, x) :: H)).Nodup = (neA r H ∧ (names H).Nodup) := by
  apply propext
  constructor
  · intro h
    have h2 := h
    simp only [names, List.map_cons, List.nodup_cons] at h2
    exact ⟨neA_of h2.1, h2.2⟩
  · rintro ⟨h1, h2⟩
    simp only [names, List.map_cons, List.nodup_cons]
    refine ⟨?_, h2⟩
    clear h2
    induction H with
    | nil => simp
    | cons y H ih =>
      obtain ⟨q, y⟩ := y
      simp only [neA_cons] at h1
      simp only [List.map_cons, List.mem_cons, not_or]
      exact ⟨h1.1, ih h1.2.2⟩
theorem Bor.ptr {H : GH} {r sz : Nat} {g : GV} (hr : hget H r = some (sz, [g])) : Bor H (.ptr r sz 0 0) (.rop sz (view g)) := fun w D Ω v h hv => by
  obtain ⟨F, hF, hFΩ⟩ := h.hm.mem hr
  simp only [MV] at hv ⊢
  obtain ⟨_, b, rfl, hb, rfl⟩ := hv
  rcases hF with ⟨b', c, T, fz, F', k1, k2, k3, k4, k5, k6, k7⟩ | ⟨k1, _, _⟩
  · have : b' = b := by omega
    subst this
    simp only [MF] at k7
    obtain ⟨u, cs', F1, F2, e1, e2, e3, rfl, e5, rfl, rfl⟩ := k7
    refine ⟨trivial, b', 0, u, by simp, .inr (hFΩ _ (by simp [k6])), ⟨c, T, fz, k2, fun j x hj => ?_⟩, e3, e2, MV.view (fun _ => .inl) g u F1 (fun x hx => .inr (hFΩ x (by simp [k6, hx]))) e5⟩
    have e1' : c.toList.take (1 * sz) = u.cells.toList := by simpa using e1
    have h2 : (c.toList.take (1 * sz))[j]? = some x := by rw [e1']; exact hj
    rw [List.getElem?_take] at h2
    split at h2
    · simpa using h2
    · cases h2
  · omega
end Go.Gh

/- Instances of a tree: all of them. -/
namespace Go.Gh
set_option linter.unusedSimpArgs false
set_option linter.unusedVariables false
end Go.Gh

/- Definitions of instances. -/
namespace Go.Gh
set_option linter.unusedSimpArgs false
set_option linter.unusedVariables false
end Go.Gh

/- The attributes that an expression uses. -/
namespace Go.Gh
set_option linter.unusedSimpArgs false
set_option linter.unusedVariables false
abbrev Oc := Int × ByteArray
end Go.Gh

/- Calls that need tables: package-level variables that nobody writes. -/
namespace Go.Gh
open Go.ChangeShapes Go.WideShapes Go.ChangeAt Go.RowKit
set_option linter.unusedSimpArgs false
set_option linter.unusedVariables false
def tabH (T : GH) : Prop := (names T).Nodup ∧ ∀ x ∈ T, x.1 % 4 = 3 ∧ 1000000 ≤ x.2.1 ∧ x.2.2 = []
def PureT (P : Program) (T : GH) (f : FuncId) (gs : List GV) (R : GV → Prop) : Prop := GCalls P f gs T (fun g _ => R g)
theorem hget_mem : ∀ {H : GH} {x : Nat × Nat × List GV}, (names H).Nodup → x ∈ H → hget H x.1 = some x.2
  | [], _, _, h => by cases h
  | (r, y) :: H, x, hn, h => by
    simp only [names, List.map_cons, List.nodup_cons] at hn
    simp only [hget]
    rcases List.mem_cons.1 h with rfl | h
    · simp
    · have : r ≠ x.1 := fun e => hn.1 (by rw [e]; exact List.mem_map_of_mem h)
      rw [if_neg this]
      exact hget_mem hn.2 h
theorem HM.tabs {w : World} {D : Nat → Prop} {H : GH} {Ω : List Nat} (h : HM w D H Ω) (hn : (names H).Nodup) : ∀ {T : GH}, (∀ x ∈ T, x.1 % 4 = 3 ∧ 1000000 ≤ x.2.1 ∧ x.2.2 = []) → (∀ x ∈ T, x ∈ H) → HM w D T []
  | [], _, _ => rfl
  | (r, sz, es) :: T, hT, hs => by
    obtain ⟨F, hF, _⟩ := h.mem (hget_mem hn (hs _ (List.mem_cons_self ..)))
    have ht := hT _ (List.mem_cons_self ..)
    refine ⟨[], [], rfl, ?_, HM.tabs h hn (fun x hx => hT x (List.mem_cons_of_mem _ hx)) (fun x hx => hs x (List.mem_cons_of_mem _ hx))⟩
    rcases hF with ⟨b, c, T, fz, F', k1, _⟩ | hF
    · have := ht.1
      dsimp only at this k1
      omega
    · exact .inr ⟨hF.1, ht.2.2, rfl⟩
theorem PureT.frame {P : Program} {T : GH} {f : FuncId} {gs : List GV} {R : GV → Prop} (h : PureT P T f gs R) (hT : tabH T) {H : GH} (hs : ∀ x ∈ T, x ∈ H) : GCalls P f gs H (fun g H' => R g ∧ H' = H) := by
  intro w D Ω args hst hargs
  have hs0 : St w D T [] := ⟨HM.tabs hst.hm hst.nn hT.2 hs, List.nodup_nil, hT.1, by simp, hst.ds⟩
  refine Yld.mono (fun v w' ⟨g, H', D', Ω', k1, k2, k3, k4⟩ => ?_) (h w D [] args hs0 hargs)
  have hk : Kept w w' (fun _ => True) := k4.kp.mono fun _ _ _ => by simp
  have hlt : ∀ b ∈ Ω, b < w.heap.size := HM.flt hst.hm
  refine ⟨g, H, D', Ω, ⟨k1, rfl⟩, k2, ⟨HM.keep hk (fun _ _ => trivial) k4.d0 (fun _ _ => trivial) hst.hm, hst.nd, hst.nn, fun b hb hD => ?_, k3.ds⟩,
    ⟨k4.d0, fun b hb hD => .inl ((k4.dn b hb hD).resolve_right (by simp)), fun _ h _ => h, hk.mono fun _ _ _ => trivial, k4.os, k4.tape, k4.output⟩⟩
  rcases k4.dn b (hlt b hb) hD with h1 | h1
  · exact hst.dj b hb h1
  · simp at h1
theorem PureT.bor {P : Program} {T : GH} {f : FuncId} {gs : List GV} {G : GV} (h : GCalls P f gs T (fun g H => Bor H g G)) : PureT P T f gs (· = G) :=
  h.fr fun _ _ hb => ⟨G, [], FR.all hb, rfl⟩
theorem PureT.of {P : Program} {T : GH} {f : FuncId} {gs : List GV} {R : GV → Prop} (h : Pure P f gs R) : PureT P T f gs R := (h.frame T).mono fun _ _ h => h.1
theorem callS.eqT {P : Program} {K : Env → GH → Prop} {is : List GI} {env : Env} {H T : GH} {d : Option Nat} {det : Bool} {f : FuncId} {gs : List GV} {G : GV} (h : PureT P T f gs (· = G)) (hT : tabH T) (hs : ∀ x ∈ T, x ∈ H) (hk : gsteps P is K (gput env d G) H) : callS P det f (some gs) d is K env H := by
  unfold callS
  cases det
  · exact ⟨fun g H' => g = G ∧ H' = H, h.frame hT hs, fun g H' ⟨e1, e2⟩ _ => by subst e1; subst e2; exact hk⟩
  · exact ⟨G, h.frame hT hs, hk⟩
theorem PureT.out {P : Program} {T : GH} {f : FuncId} {F : GFun} {gs : List GV} {R : GV → Prop} (h : PureT P T f gs R) (hF : IsFun P f F) {W : World} {args : List Value} (hargs : ML W (below W) gs args []) (hT : HM W (below W) T []) (hn : (names T).Nodup) :
    Calls P f args.toArray W fun e W' => ∃ v g D, e = .returned v ∧ R g ∧ MV W' D g v [] ∧ Below W.heap.size W W' := by
  have := h W (below W) [] args ⟨hT, List.nodup_nil, hn, by simp, fun _ h => h⟩ hargs
  rw [callFunc_run hF] at this
  refine Calls.mono this fun e W' ⟨v, h1, g, H', D', Ω', k1, k2, k3, k4⟩ => ⟨v, g, D', h1, k1, k2, ?_⟩
  exact ⟨k4.os, k4.tape, k4.output, k4.kp.size, fun k hk => k4.kp.block k hk (by simp)⟩
def tab10 (n : Nat) : GH := [(4 * n + 3, 1000000, [])]
theorem tabH_10 (n : Nat) : tabH (tab10 n) := ⟨by simp [tab10, names], fun x hx => by
  simp only [tab10, List.mem_singleton] at hx
  subst hx
  exact ⟨by dsimp only; omega, by dsimp only; omega, rfl⟩⟩
open Lib in
theorem HM.tab10 {P : Program} {W : World} {n : Nat} {s : String} (hg : P.globalNamed s = some n) (h : TabIs P W s .u64 pow10Tab) : HM W (below W) (tab10 n) [] := by
  simp only [TabIs, World.var?, hg, Option.bind_some] at h
  refine ⟨[], [], rfl, .inr ⟨⟨by omega, fun _ _ => ?_⟩, rfl, rfl⟩, rfl⟩
  have e : (4 * n + 3) / 4 = n := by omega
  unfold TB
  rw [e]
  split at h
  case h_2 => cases h
  rename_i c T fz hb
  simp only [Option.some.injEq] at h
  refine ⟨lt_of_heap hb, c, T, fz, hb, ?_⟩
  rw [h]
  simp only [tabP, if_true, pow10Tab, List.map_map]
  rfl
open Lib in
theorem HM.is10 {P : Program} {w : World} {D : Nat → Prop} {n : Nat} {s : String} {H : GH} {Ω : List Nat} (hg : P.globalNamed s = some n) (h : HM w D H Ω) (hn : (names H).Nodup) (hm : (4 * n + 3, 1000000, []) ∈ H) : TabIs P w s .u64 pow10Tab := by
  obtain ⟨F, hF, _⟩ := h.mem (hget_mem hn hm)
  have e : (4 * n + 3) / 4 = n := by omega
  rcases hF with ⟨b, c, T, fz, F', k1, _⟩ | hF
  · dsimp only at k1; omega
  · obtain ⟨_, c, T, fz, h1, h2⟩ := hF.1.2 (by dsimp only; omega) (Nat.le_refl _)
    dsimp only at h1
    rw [e] at h1
    simp only [TabIs, World.var?, hg, Option.bind_some, h1]
    simp only [tabP, if_true] at h2
    rw [h2]
    simp only [pow10Tab, List.map_map]
    rfl
open Lib Go.Sort in
theorem itoa_ok {P : Program} {f g : Nat} {s : String} (hg : P.globalNamed s = some g) {args : Int → Array Value} {n : Int} {gs : List GV} (hgs : ∀ w D vs, ML w D gs vs [] → vs.toArray = args n)
    (hc : ∀ w : World, TabIs P w s .u64 pow10Tab → Calls P f (args n) w fun e w' => e = .returned (.string ⟨(itoa n).toArray⟩) ∧ ∃ k os, w' = grow (w.drewN k) os)
    (eg : ∀ args w, (callFunc f args).run P w = .ok (.enter f args) w) : PureT P (tab10 g) f gs (· = .val (mkS (itoa n))) := by
  intro w D Ω vs hst hargs
  rw [eg, hgs _ _ _ hargs]
  show Calls P f _ w _
  refine (hc w (HM.is10 hg hst.hm hst.nn (by simp [tab10]))).mono ?_
  rintro e w' ⟨rfl, k, os, rfl⟩
  have hk : Kept w (grow (w.drewN k) os) (fun _ => True) := by
    refine ⟨fun b hb _ => ?_, ?_, fun b c T fz hx => ⟨c, fz, ?_, rfl⟩⟩
    · show (w.heap ++ os)[b]? = _
      rw [Array.getElem?_append_left hb]
    · show _ ≤ (w.heap ++ os).size
      rw [Array.size_append]; omega
    · show (w.heap ++ os)[b]? = _
      rw [Array.getElem?_append_left (lt_of_heap hx)]; exact hx
  refine ⟨_, rfl, _, tab10 g, D, Ω, rfl, MV.val_mk _, ⟨HM.keep hk (fun _ _ => trivial) (fun _ h => h) (fun _ _ => trivial) hst.hm, hst.nd, hst.nn, hst.dj, fun b hb => Nat.lt_of_lt_of_le (hst.ds b hb) hk.size⟩,
    ⟨fun _ h => h, fun _ _ h => .inl h, fun _ h _ => h, hk.mono fun _ _ _ => trivial, rfl, rfl, rfl⟩⟩
end Go.Gh

/- Numbers in decimal, digit by digit from the right. -/
namespace Go.Gh
open Lib
set_option linter.unusedSimpArgs false
set_option linter.unusedVariables false
def dgs (u : Nat) : List UInt8 := if u = 0 then [] else decDigits u
theorem dgs_step {u : Nat} (h : u ≠ 0) (out : List UInt8) : dgs u ++ out = dgs (u / 10) ++ (UInt8.ofNat (48 + u % 10) :: out) := by
  unfold dgs
  rw [if_neg h]
  by_cases h1 : u < 10
  · rw [decDigits_one h1, if_pos (by omega), Nat.mod_eq_of_lt h1]
    rfl
  · rw [decDigits, dif_neg h1, if_neg (by omega)]
    simp
theorem itoa_dgs {n : Int} (h : n ≠ 0) : itoa n = if n < 0 then 45 :: dgs n.natAbs else dgs n.natAbs := by
  unfold itoa dgs
  have e : n.natAbs ≠ 0 := by omega
  rw [if_neg e]
  by_cases h1 : n < 0
  · rw [if_pos h1, if_pos h1]
  · rw [if_neg h1, if_neg h1]
    congr 1
    omega
theorem itoa_0 : itoa 0 = [48] := by
  unfold itoa
  rw [if_neg (by omega)]
  exact decDigits_one (by decide)
theorem nDigits_le : ∀ (k u : Nat), u < 10 ^ (k + 1) → nDigits u ≤ k + 1
  | 0, u, h => by rw [nDigits_small (by simpa using h)]; omega
  | k + 1, u, h => by
    rw [nDigits]
    split
    · omega
    · have := nDigits_le k (u / 10) (by rw [Nat.pow_succ] at h; omega)
      omega
theorem dgs_len {u : Nat} (h : u ≤ 9223372036854775808) : (dgs u).length ≤ 19 := by
  unfold dgs
  split
  · simp
  · rw [decDigits_length]
    exact nDigits_le 18 u (by omega)
theorem itoa_len {n : Int} (h0 : -9223372036854775808 ≤ n) (h1 : n ≤ 9223372036854775807) : (itoa n).length ≤ 20 := by
  by_cases h : n = 0
  · subst h; rw [itoa_0]; simp
  · rw [itoa_dgs h]
    have := dgs_len (u := n.natAbs) (by omega)
    split <;> simp <;> omega
theorem tmod10 (n : Int) : (if n.tmod 10 < 0 then 0 - n.tmod 10 else n.tmod 10) = ((n.natAbs % 10 : Nat) : Int) := by
  have h : (n.tmod 10).natAbs = n.natAbs % 10 := by rw [Int.natAbs_tmod]; rfl
  split <;> omega
theorem tdiv10 (n : Int) : (n.tdiv 10).natAbs = n.natAbs / 10 := by rw [Int.natAbs_tdiv]; rfl
theorem digB : ∀ d, d < 10 → UInt8.ofNat (IntKind.u8.wrap (48 + ((d : Nat) : Int))).toNat = UInt8.ofNat (48 + d) := by decide
theorem mod_lt10 (u : Nat) : u % 10 < 10 := Nat.mod_lt _ (by decide)
end Go.Gh

/- What the lifts of cards need of the kit. -/

namespace Go.Proofs.YtbdmpkidcpblaaaDoor
open Go.Gh
def g3 : GFun := ⟨⟨20, [1]⟩,
  (.seq (.reg [(.mk (some 1) none (.boxro 2 (.t 0))), (.mk (some 2) none (.mov (.k (.val (.bool false)))))]) (.seq (.reg [(.mk (some 3) none (.mov (.k (.val (.int .i64 1048576)))))]) (.seq (.reg [(.mk (some 6) none
  (.load 2 true (.t 1))), (.mk (some 7) none (.mov (.t 3))), (.mk (some 8) none (.call false 4 [(.t 6), (.t 7)])), (.mk (some 3) none (.mov (.t 8)))]) (.seq (.seq (.reg [(.mk (some 9) none (.mov (.t 3))), (.mk (some 10)
  none (.bin .lss (.t 9) (.k (.val (.int .i64 0)))))]) (.cond 10 (.seq (.reg [(.mk (some 2) none (.mov (.k (.val (.bool true)))))]) .ret) .skip)) (.seq (.reg [(.mk (some 11) none (.load 2 true (.t 1))), (.mk (some 12)
  none (.call false 6 [(.t 11)])), (.mk (some 13) none (.call false 5 [(.t 12)])), (.mk (some 4) none (.mov (.t 13)))]) (.seq (.reg [(.mk (some 14) none (.load 2 true (.t 1))), (.mk (some 15) none (.call false 6 [(.t
  14)])), (.mk (some 16) none (.call false 7 [(.t 15)])), (.mk (some 5) none (.mov (.t 16)))]) (.seq (.seq (.reg [(.mk (some 17) none (.mov (.t 5))), (.mk (some 18) none (.mov (.t 4))), (.mk (some 19) none (.bin .neq
  (.t 17) (.t 18)))]) (.cond 19 (.seq (.reg [(.mk (some 2) none (.mov (.k (.val (.bool false)))))]) .ret) .skip)) (.seq (.reg [(.mk (some 2) none (.mov (.k (.val (.bool true)))))]) .ret)))))))),
  [(.t 2)]⟩
theorem i3 : IsFun Tryd.prog 3 g3 := ⟨Tryd.f3, _, [], Tryd.func3, by kernel_rfl, rfl, by kernel_rfl, by kernel_rfl, rfl⟩
def g4 : GFun := ⟨⟨13, [2]⟩,
  (.seq (.reg [(.mk (some 2) none (.boxro 2 (.t 0))), (.mk (some 4) none (.mov (.k (.val (.int .i64 0)))))]) (.seq (.reg [(.mk (some 5) none (.mov (.t 1))), (.mk (some 6) none (.faddr 1 1 false (.t 2))), (.mk (some 7)
  none (.load 1 false (.t 6))), (.mk (some 8) none (.slen (.t 7))), (.mk (some 9) none (.bin .sub (.t 5) (.t 8))), (.mk (some 1) none (.mov (.t 9)))]) (.seq (.seq (.reg [(.mk (some 10) none (.mov (.t 1))), (.mk (some
  11) none (.bin .lss (.t 10) (.k (.val (.int .i64 0)))))]) (.cond 11 (.seq (.reg [(.mk (some 4) none (.mov (.k (.val (.int .i64 (-1))))))]) .ret) .skip)) (.seq (.reg [(.mk (some 12) none (.mov (.t 1))), (.mk (some 4)
  none (.mov (.t 12)))]) .ret)))),
  [(.t 4)]⟩
theorem i4 : IsFun Tryd.prog 4 g4 := ⟨Tryd.f4, _, [], Tryd.func4, by kernel_rfl, rfl, by kernel_rfl, by kernel_rfl, rfl⟩
def g5 : GFun := ⟨⟨11, [1]⟩,
  (.seq (.reg [(.mk (some 1) none (.boxro 2 (.t 0))), (.mk (some 2) none (.mov (.k (.val (.string (ByteArray.mk #[]))))))]) (.seq (.reg [(.mk (some 3) none (.faddr 0 1 false (.t 1))), (.mk (some 8) none (.faddr 1 1
  false (.t 1))), (.mk (some 4) none (.load 1 false (.t 3))), (.mk (some 5) none (.call true 8 [(.t 4)])), (.mk (some 6) none (.bin .add (.k (.val (.string (ByteArray.mk #[35])))) (.t 5))), (.mk (some 7) none (.bin .add
  (.t 6) (.k (.val (.string (ByteArray.mk #[46])))))), (.mk (some 9) none (.load 1 false (.t 8))), (.mk (some 10) none (.bin .add (.t 7) (.t 9))), (.mk (some 2) none (.mov (.t 10)))]) .ret)),
  [(.t 2)]⟩
theorem i5 : IsFun Tryd.prog 5 g5 := ⟨Tryd.f5, _, [], Tryd.func5, by kernel_rfl, rfl, by kernel_rfl, by kernel_rfl, rfl⟩
def g6 : GFun := ⟨⟨11, [1,2]⟩,
  (.seq (.reg [(.mk (some 1) none (.boxro 2 (.t 0))), (.mk (some 2) none (.allocr 2))]) (.seq (.reg [(.mk (some 3) none (.alloc 2 (.agg [(.val (.int .i64 0)), (.val (.string (ByteArray.mk #[])))])))]) (.seq (.reg [(.mk
  (some 4) none (.faddr 0 1 false (.t 1))), (.mk (some 5) none (.load 1 false (.t 4))), (.mk (some 6) none (.faddr 0 1 false (.t 3))), (.mk none none (.store 1 (.t 6) (.t 5)))]) (.seq (.reg [(.mk (some 7) none (.faddr 1
  1 false (.t 1))), (.mk (some 8) none (.load 1 false (.t 7))), (.mk (some 9) none (.faddr 1 1 false (.t 3))), (.mk none none (.store 1 (.t 9) (.t 8)))]) (.seq (.reg [(.mk (some 10) none (.load 2 true (.t 3))), (.mk
  (some 2) none (.stro 2 2 (.t 10)))]) .ret))))),
  [(.c 2 2 true)]⟩
theorem i6 : IsFun Tryd.prog 6 g6 := ⟨Tryd.f6, _, [], Tryd.func6, by kernel_rfl, rfl, by kernel_rfl, by kernel_rfl, rfl⟩
def g7 : GFun := ⟨⟨11, [1]⟩,
  (.seq (.reg [(.mk (some 1) none (.boxro 2 (.t 0))), (.mk (some 2) none (.mov (.k (.val (.string (ByteArray.mk #[]))))))]) (.seq (.reg [(.mk (some 3) none (.faddr 0 1 false (.t 1))), (.mk (some 8) none (.faddr 1 1
  false (.t 1))), (.mk (some 4) none (.load 1 false (.t 3))), (.mk (some 5) none (.call true 9 [(.t 4)])), (.mk (some 6) none (.bin .add (.k (.val (.string (ByteArray.mk #[35])))) (.t 5))), (.mk (some 7) none (.bin .add
  (.t 6) (.k (.val (.string (ByteArray.mk #[46])))))), (.mk (some 9) none (.load 1 false (.t 8))), (.mk (some 10) none (.bin .add (.t 7) (.t 9))), (.mk (some 2) none (.mov (.t 10)))]) .ret)),
  [(.t 2)]⟩
theorem i7 : IsFun Tryd.prog 7 g7 := ⟨Tryd.f7, _, [], Tryd.func7, by kernel_rfl, rfl, by kernel_rfl, by kernel_rfl, rfl⟩
def g8 : GFun := ⟨⟨31, []⟩,
  (.seq (.reg [(.mk (some 2) none (.mov (.k (.val (.string (ByteArray.mk #[]))))))]) (.seq (.seq (.reg [(.mk (some 6) none (.mov (.t 0))), (.mk (some 7) none (.bin .eql (.t 6) (.k (.val (.int .i64 0)))))]) (.cond 7
  (.seq (.reg [(.mk (some 2) none (.mov (.k (.val (.string (ByteArray.mk #[48]))))))]) .ret) .skip)) (.seq (.reg [(.mk (some 8) none (.mov (.t 0))), (.mk (some 9) none (.bin .lss (.t 8) (.k (.val (.int .i64 0))))), (.mk
  (some 3) none (.mov (.t 9)))]) (.seq (.reg [(.mk (some 4) none (.mov (.k (.val (.string (ByteArray.mk #[]))))))]) (.seq (.block 0 (.loop (.seq (.seq (.reg [(.mk (some 10) none (.mov (.t 0))), (.mk (some 11) none (.bin
  .neq (.t 10) (.k (.val (.int .i64 0)))))]) (.cond 11 .skip (.exit 0))) (.block 1 (.seq (.reg [(.mk (some 12) none (.mov (.t 0))), (.mk (some 13) none (.bin .rem (.t 12) (.k (.val (.int .i64 10))))), (.mk (some 5) none
  (.mov (.t 13)))]) (.seq (.seq (.reg [(.mk (some 14) none (.mov (.t 5))), (.mk (some 15) none (.bin .lss (.t 14) (.k (.val (.int .i64 0)))))]) (.cond 15 (.reg [(.mk (some 16) none (.mov (.t 5))), (.mk (some 17) none
  (.bin .sub (.k (.val (.int .i64 0))) (.t 16))), (.mk (some 5) none (.mov (.t 17)))]) .skip)) (.seq (.reg [(.mk (some 18) none (.mov (.t 5))), (.mk (some 19) none (.bin .add (.k (.val (.int .i64 48))) (.t 18))), (.mk
  (some 20) none (.conv .u8 (.t 19))), (.mk (some 21) none (.bslice 1 [] 1 false [(0, (.t 20))])), (.mk (some 22) none (.b2s (.t 21))), (.mk (some 23) none (.mov (.t 4))), (.mk (some 24) none (.bin .add (.t 22) (.t
  23))), (.mk (some 4) none (.mov (.t 24)))]) (.reg [(.mk (some 25) none (.mov (.t 0))), (.mk (some 26) none (.bin .quo (.t 25) (.k (.val (.int .i64 10))))), (.mk (some 0) none (.mov (.t 26)))])))))))) (.seq (.seq (.reg
  [(.mk (some 27) none (.mov (.t 3)))]) (.cond 27 (.seq (.reg [(.mk (some 28) none (.mov (.t 4))), (.mk (some 29) none (.bin .add (.k (.val (.string (ByteArray.mk #[45])))) (.t 28))), (.mk (some 2) none (.mov (.t
  29)))]) .ret) .skip)) (.seq (.reg [(.mk (some 30) none (.mov (.t 4))), (.mk (some 2) none (.mov (.t 30)))]) .ret))))))),
  [(.t 2)]⟩
theorem i8 : IsFun Tryd.prog 8 g8 := ⟨Tryd.f8, _, [], Tryd.func8, by kernel_rfl, rfl, by kernel_rfl, by kernel_rfl, rfl⟩
def g9 : GFun := ⟨⟨5, []⟩,
  (.seq (.reg [(.mk (some 2) none (.mov (.k (.val (.string (ByteArray.mk #[]))))))]) (.seq (.reg [(.mk (some 3) none (.mov (.t 0))), (.mk (some 4) none (.call false 10 [(.t 3)])), (.mk (some 2) none (.mov (.t 4)))])
  .ret)),
  [(.t 2)]⟩
theorem i9 : IsFun Tryd.prog 9 g9 := ⟨Tryd.f9, _, [], Tryd.func9, by kernel_rfl, rfl, by kernel_rfl, by kernel_rfl, rfl⟩
end Go.Proofs.YtbdmpkidcpblaaaDoor

namespace Go.Proofs.YtbdmpkidcpblaaaDoor
open Go.Gh
set_option maxRecDepth 20000
set_option linter.unusedSimpArgs false
set_option linter.unusedVariables false
open Go.Shelf
def Tryd.itoaL_ren : Go.Shelf.Ren := ⟨fun | 171 => 10 | 243 => 11 | 246 => 12 | 283 => 13 | 284 => 14 | 285 => 15 | 286 => 16 | 129 => 18 | 317 => 17 | 318 => 19 | 319 => 20 | 320 => 21 | 337 => 22 | 338 => 23 | n => n, fun | 3 => 3 | 9 => 9 | 2 => 2 | 4 => 4 | 171 => 32 | 0 => 0 | 53 => 33 | 37 => 30 | 5 => 5 | 173 => 36 | 212 => 40 | 51 => 41 | 20 => 20 | 213 => 42 | 46 => 44 | 232 => 47 | 233 => 48 | n => n, fun | 17 => 0 | 18 => 1 | 19 => 2 | n => n⟩
theorem Tryd.itoaL : Go.Proofs.LaysM.n171 Tryd.prog Tryd.itoaL_ren := {
  mixed := by kernel_rfl
  f129 := Tryd.func18.trans (congrArg some (by kernel_rfl))
  f171 := Tryd.func10.trans (congrArg some (by kernel_rfl))
  f243 := Tryd.func11.trans (congrArg some (by kernel_rfl))
  f246 := Tryd.func12.trans (congrArg some (by kernel_rfl))
  f283 := Tryd.func13.trans (congrArg some (by kernel_rfl))
  f284 := Tryd.func14.trans (congrArg some (by kernel_rfl))
  f285 := Tryd.func15.trans (congrArg some (by kernel_rfl))
  f286 := Tryd.func16.trans (congrArg some (by kernel_rfl))
  f317 := Tryd.func17.trans (congrArg some (by kernel_rfl))
  f318 := Tryd.func19.trans (congrArg some (by kernel_rfl))
  f319 := Tryd.func20.trans (congrArg some (by kernel_rfl))
  f320 := Tryd.func21.trans (congrArg some (by kernel_rfl))
  f337 := Tryd.func22.trans (congrArg some (by kernel_rfl))
  f338 := Tryd.func23.trans (congrArg some (by kernel_rfl))
  t0 := Tryd.underlying0
  a0 := Tryd.isAgg0
  z0 := Tryd.sizeOf0
  v0 := Tryd.zeroValue0
  t2 := Tryd.underlying2
  a2 := Tryd.isAgg2
  z2 := Tryd.sizeOf2
  v2 := Tryd.zeroValue2
  t3 := Tryd.underlying3
  a3 := Tryd.isAgg3
  z3 := Tryd.sizeOf3
  v3 := Tryd.zeroValue3
  t4 := Tryd.underlying4
  a4 := Tryd.isAgg4
  z4 := Tryd.sizeOf4
  v4 := Tryd.zeroValue4
  t5 := Tryd.underlying5
  a5 := Tryd.isAgg5
  z5 := Tryd.sizeOf5
  v5 := Tryd.zeroValue5
  t9 := Tryd.underlying9
  a9 := Tryd.isAgg9
  z9 := Tryd.sizeOf9
  v9 := Tryd.zeroValue9
  t20 := Tryd.underlying20
  a20 := Tryd.isAgg20
  z20 := Tryd.sizeOf20
  v20 := Tryd.zeroValue20
  t37 := Tryd.underlying30
  a37 := Tryd.isAgg30
  z37 := Tryd.sizeOf30
  v37 := Tryd.zeroValue30
  t46 := Tryd.underlying44
  a46 := Tryd.isAgg44
  z46 := Tryd.sizeOf44
  v46 := Tryd.zeroValue44
  t51 := Tryd.underlying41
  a51 := Tryd.isAgg41
  z51 := Tryd.sizeOf41
  v51 := Tryd.zeroValue41
  t53 := Tryd.underlying33
  a53 := Tryd.isAgg33
  z53 := Tryd.sizeOf33
  v53 := Tryd.zeroValue33
  t171 := Tryd.underlying32
  a171 := Tryd.isAgg32
  z171 := Tryd.sizeOf32
  v171 := Tryd.zeroValue32
  t173 := Tryd.underlying36
  a173 := Tryd.isAgg36
  z173 := Tryd.sizeOf36
  v173 := Tryd.zeroValue36
  t212 := Tryd.underlying40
  a212 := Tryd.isAgg40
  z212 := Tryd.sizeOf40
  v212 := Tryd.zeroValue40
  t213 := Tryd.underlying42
  a213 := Tryd.isAgg42
  z213 := Tryd.sizeOf42
  t232 := Tryd.underlying47
  a232 := Tryd.isAgg47
  z232 := Tryd.sizeOf47
  v232 := Tryd.zeroValue47
  t233 := Tryd.underlying48
  a233 := Tryd.isAgg48
  z233 := Tryd.sizeOf48
  v233 := Tryd.zeroValue48
  g17 := by kernel_rfl
  g18 := by kernel_rfl
  g19 := by kernel_rfl
  i0 := by kernel_rfl
  i2 := by kernel_rfl
  i3 := by kernel_rfl
  i4 := by kernel_rfl
  i5 := by kernel_rfl
  i9 := by kernel_rfl
  i20 := by kernel_rfl
  i37 := by kernel_rfl
  i46 := by kernel_rfl
  i51 := by kernel_rfl
  i53 := by kernel_rfl
  i171 := by kernel_rfl
  i173 := by kernel_rfl
  i212 := by kernel_rfl
  i232 := by kernel_rfl
  i233 := by kernel_rfl
  m17 := by kernel_rfl
  m18 := by kernel_rfl
  m19 := by kernel_rfl }
end Go.Proofs.YtbdmpkidcpblaaaDoor

namespace Go.Proofs.YtbdmpkidcpblaaaDoor
open Go.Gh
set_option maxRecDepth 20000
set_option linter.unusedSimpArgs false
set_option linter.unusedVariables false
open Go.Shelf Go.RowKit Go.Lib Go.Sort
theorem mxd : Tryd.prog.follows .mixedOrders = true := Checked.mixed Tryd.checked
theorem Tryd.gp10 : Tryd.prog.globalNamed "internal/strconv.uint64pow10" = some 0 := by kernel_rfl
theorem p10 (n : Int) (h0 : -9223372036854775808 ≤ n) (h1 : n ≤ 9223372036854775807) : PureT Tryd.prog (tab10 0) 10 [I n] (· = .val (mkS (itoa n))) := by
  have eg : ∀ args w, (callFunc 10 args).run Tryd.prog w = .ok (.enter 10 args) w := enters_of Tryd.func10 (by kernel_rfl) rfl
  refine itoa_ok (args := fun n => #[.int .i64 n]) (n := n) Tryd.gp10 ?_ (fun w ht => Any.strconv_Itoa Tryd.itoaL n h0 h1 w ht) eg
  intro w D vs h
  simp only [ML, MV] at h
  obtain ⟨v, vs', F1, F2, rfl, _, ⟨rfl, _⟩, rfl, _⟩ := h
  rfl
theorem p9 (n : Int) (h0 : -9223372036854775808 ≤ n) (h1 : n ≤ 9223372036854775807) : PureT Tryd.prog (tab10 0) 9 [I n] (· = .val (mkS (itoa n))) := by
  refine gstart mxd i9 rfl (by simp) ?_; simp (maxSteps := 2000000) only [↓ S2, S2, vIte, ↓reduceIte, Int.reduceNe, Nat.reduceEqDiff, reduceCtorEq, Nat.reduceLeDiff, Nat.reduceAdd, Nat.reduceLT]
  ((try simp (maxSteps := 4000000) +contextual only [↓ S2, S2, vIte, ↓reduceIte, Int.reduceNe, Nat.reduceEqDiff, reduceCtorEq, Nat.reduceLeDiff, Nat.reduceAdd, Nat.reduceLT, hget_c, hset_c, hdel_c, neN, neA_cons, neA_nil, ]); (repeat (simp only [brGen]; try simp (maxSteps := 4000000) +contextual only [↓ S2, S2, vIte, ↓reduceIte, Int.reduceNe, Nat.reduceEqDiff, reduceCtorEq, Nat.reduceLeDiff, Nat.reduceAdd, Nat.reduceLT, hget_c, hset_c, hdel_c, neN, neA_cons, neA_nil, ])); (try simp +contextual (disch := omega) only [Z2, ]); (repeat' (first | (with_reducible intro h) | (with_reducible refine And.intro (by omega) ?_) | (with_reducible refine exP (by omega) ?_) | (with_reducible apply And.intro))))
  refine callS.eqT (p10 n h0 h1) (tabH_10 0) (fun _ h => h) ?_
  ((try simp (maxSteps := 4000000) +contextual only [↓ S2, S2, vIte, ↓reduceIte, Int.reduceNe, Nat.reduceEqDiff, reduceCtorEq, Nat.reduceLeDiff, Nat.reduceAdd, Nat.reduceLT, hget_c, hset_c, hdel_c, neN, neA_cons, neA_nil, ]); (repeat (simp only [brGen]; try simp (maxSteps := 4000000) +contextual only [↓ S2, S2, vIte, ↓reduceIte, Int.reduceNe, Nat.reduceEqDiff, reduceCtorEq, Nat.reduceLeDiff, Nat.reduceAdd, Nat.reduceLT, hget_c, hset_c, hdel_c, neN, neA_cons, neA_nil, ])); (try simp +contextual (disch := omega) only [Z2, ]); (repeat' (first | (with_reducible intro h) | (with_reducible refine And.intro (by omega) ?_) | (with_reducible refine exP (by omega) ?_) | (with_reducible apply And.intro))))
set_option maxHeartbeats 2000000 in
theorem w8 (n : Int) (h0 : -9223372036854775808 ≤ n) (h1 : n ≤ 9223372036854775807) : Pure Tryd.prog 8 [I n] (· = .val (mkS (itoa n))) := by
  refine Pure.bor ?_
  by_cases hn : n = 0
  · subst hn
    rw [itoa_0]
    refine gstart mxd i8 rfl (by simp) ?_; simp (maxSteps := 2000000) only [↓ S2, S2, vIte, ↓reduceIte, Int.reduceNe, Nat.reduceEqDiff, reduceCtorEq, Nat.reduceLeDiff, Nat.reduceAdd, Nat.reduceLT]
    ((try simp (maxSteps := 4000000) +contextual only [↓ S2, S2, vIte, ↓reduceIte, Int.reduceNe, Nat.reduceEqDiff, reduceCtorEq, Nat.reduceLeDiff, Nat.reduceAdd, Nat.reduceLT, hget_c, hset_c, hdel_c, neN, neA_cons, neA_nil, ]); (repeat (simp only [brGen]; try simp (maxSteps := 4000000) +contextual only [↓ S2, S2, vIte, ↓reduceIte, Int.reduceNe, Nat.reduceEqDiff, reduceCtorEq, Nat.reduceLeDiff, Nat.reduceAdd, Nat.reduceLT, hget_c, hset_c, hdel_c, neN, neA_cons, neA_nil, ])); (try simp +contextual (disch := omega) only [Z2, ]); (repeat' (first | (with_reducible intro h) | (with_reducible refine And.intro (by omega) ?_) | (with_reducible refine exP (by omega) ?_) | (with_reducible apply And.intro))))
    exact .refl
  have hn' := eq_false hn
  rw [itoa_dgs hn]
  have hlen := dgs_len (u := n.natAbs) (by omega)
  refine gstart mxd i8 rfl (by simp) ?_; simp (maxSteps := 2000000) only [↓ S2, S2, vIte, ↓reduceIte, Int.reduceNe, Nat.reduceEqDiff, reduceCtorEq, Nat.reduceLeDiff, Nat.reduceAdd, Nat.reduceLT]
  ((try simp (maxSteps := 4000000) +contextual only [↓ S2, S2, vIte, ↓reduceIte, Int.reduceNe, Nat.reduceEqDiff, reduceCtorEq, Nat.reduceLeDiff, Nat.reduceAdd, Nat.reduceLT, hget_c, hset_c, hdel_c, neN, neA_cons, neA_nil, hn', decide_false]); (repeat (simp only [brGen]; try simp (maxSteps := 4000000) +contextual only [↓ S2, S2, vIte, ↓reduceIte, Int.reduceNe, Nat.reduceEqDiff, reduceCtorEq, Nat.reduceLeDiff, Nat.reduceAdd, Nat.reduceLT, hget_c, hset_c, hdel_c, neN, neA_cons, neA_nil, hn', decide_false])); (try simp +contextual (disch := omega) only [Z2, hn', decide_false]); (repeat' (first | (with_reducible intro h) | (with_reducible refine And.intro (by omega) ?_) | (with_reducible refine exP (by omega) ?_) | (with_reducible apply And.intro))))
  refine ploop mxd (ι := { x : Int × List UInt8 // x.1.natAbs ≤ n.natAbs ∧ dgs x.1.natAbs ++ x.2 = dgs n.natAbs }) (fun x => [(0, I x.1.1), (3, B (decide (n < 0))), (4, .val (mkS x.1.2))]) (fun _ => []) (fun x => x.1.1.natAbs) ⟨(n, []), by simp⟩ (by simp [E2]) (by simp [subH]) ?_
  rintro ⟨⟨m, out⟩, hm, ho⟩ -
  dsimp only at hm ho ⊢
  by_cases hm0 : m = 0
  · have hm0' := eq_true hm0
    subst hm0
    have ho' : out = dgs n.natAbs := by rw [← ho]; simp [dgs]
    subst ho'
    by_cases hneg : n < 0
    · have hneg' := eq_true hneg
      ((try simp (maxSteps := 4000000) +contextual only [↓ S2, S2, vIte, ↓reduceIte, Int.reduceNe, Nat.reduceEqDiff, reduceCtorEq, Nat.reduceLeDiff, Nat.reduceAdd, Nat.reduceLT, hget_c, hset_c, hdel_c, neN, neA_cons, neA_nil, hneg', decide_true]); (repeat (simp only [brGen]; try simp (maxSteps := 4000000) +contextual only [↓ S2, S2, vIte, ↓reduceIte, Int.reduceNe, Nat.reduceEqDiff, reduceCtorEq, Nat.reduceLeDiff, Nat.reduceAdd, Nat.reduceLT, hget_c, hset_c, hdel_c, neN, neA_cons, neA_nil, hneg', decide_true])); (try simp +contextual (disch := omega) only [Z2, hneg', decide_true]); (repeat' (first | (with_reducible intro h) | (with_reducible refine And.intro (by omega) ?_) | (with_reducible refine exP (by omega) ?_) | (with_reducible apply And.intro))))
      all_goals try (exfalso; omega)
      all_goals first | exact .refl | (simp; omega)
    · have hneg' := eq_false hneg
      ((try simp (maxSteps := 4000000) +contextual only [↓ S2, S2, vIte, ↓reduceIte, Int.reduceNe, Nat.reduceEqDiff, reduceCtorEq, Nat.reduceLeDiff, Nat.reduceAdd, Nat.reduceLT, hget_c, hset_c, hdel_c, neN, neA_cons, neA_nil, hneg', decide_false]); (repeat (simp only [brGen]; try simp (maxSteps := 4000000) +contextual only [↓ S2, S2, vIte, ↓reduceIte, Int.reduceNe, Nat.reduceEqDiff, reduceCtorEq, Nat.reduceLeDiff, Nat.reduceAdd, Nat.reduceLT, hget_c, hset_c, hdel_c, neN, neA_cons, neA_nil, hneg', decide_false])); (try simp +contextual (disch := omega) only [Z2, hneg', decide_false]); (repeat' (first | (with_reducible intro h) | (with_reducible refine And.intro (by omega) ?_) | (with_reducible refine exP (by omega) ?_) | (with_reducible apply And.intro))))
      all_goals try (exfalso; omega)
      exact .refl
  · have hm0' := eq_false hm0
    have hs := dgs_step (u := m.natAbs) (by omega) out
    have hol : out.length ≤ 19 := by have := congrArg List.length ho; simp at this; omega
    have h3 := tmod10 m
    have h4 := tdiv10 m
    by_cases hd : m.tmod 10 < 0
    · have hd' := eq_true hd
      have e1 : 0 - m.tmod 10 = ((m.natAbs % 10 : Nat) : Int) := by rw [if_pos hd] at h3; exact h3
      have e2 := digB _ (mod_lt10 m.natAbs)
      ((try simp (maxSteps := 4000000) +contextual only [↓ S2, S2, vIte, ↓reduceIte, Int.reduceNe, Nat.reduceEqDiff, reduceCtorEq, Nat.reduceLeDiff, Nat.reduceAdd, Nat.reduceLT, hget_c, hset_c, hdel_c, neN, neA_cons, neA_nil, hm0', hd', decide_false, decide_true]); (repeat (simp only [brGen]; try simp (maxSteps := 4000000) +contextual only [↓ S2, S2, vIte, ↓reduceIte, Int.reduceNe, Nat.reduceEqDiff, reduceCtorEq, Nat.reduceLeDiff, Nat.reduceAdd, Nat.reduceLT, hget_c, hset_c, hdel_c, neN, neA_cons, neA_nil, hm0', hd', decide_false, decide_true])); (try simp +contextual (disch := omega) only [Z2, hm0', hd', decide_false, decide_true]); (repeat' (first | (with_reducible intro h) | (with_reducible refine And.intro (by omega) ?_) | (with_reducible refine exP (by omega) ?_) | (with_reducible apply And.intro))))
      all_goals try (exfalso; omega)
      · simp; omega
      · rw [e1, e2]
        refine px ⟨(m.tdiv 10, UInt8.ofNat (48 + m.natAbs % 10) :: out), by dsimp only; omega, by dsimp only; rw [h4, ← hs, ho]⟩ (by dsimp only; omega) (by simp [E2] <;> rfl) (by simp [subH])
    · have hd' := eq_false hd
      have e1 : m.tmod 10 = ((m.natAbs % 10 : Nat) : Int) := by rw [if_neg hd] at h3; exact h3
      have e2 := digB _ (mod_lt10 m.natAbs)
      ((try simp (maxSteps := 4000000) +contextual only [↓ S2, S2, vIte, ↓reduceIte, Int.reduceNe, Nat.reduceEqDiff, reduceCtorEq, Nat.reduceLeDiff, Nat.reduceAdd, Nat.reduceLT, hget_c, hset_c, hdel_c, neN, neA_cons, neA_nil, hm0', hd', decide_false, decide_true]); (repeat (simp only [brGen]; try simp (maxSteps := 4000000) +contextual only [↓ S2, S2, vIte, ↓reduceIte, Int.reduceNe, Nat.reduceEqDiff, reduceCtorEq, Nat.reduceLeDiff, Nat.reduceAdd, Nat.reduceLT, hget_c, hset_c, hdel_c, neN, neA_cons, neA_nil, hm0', hd', decide_false, decide_true])); (try simp +contextual (disch := omega) only [Z2, hm0', hd', decide_false, decide_true]); (repeat' (first | (with_reducible intro h) | (with_reducible refine And.intro (by omega) ?_) | (with_reducible refine exP (by omega) ?_) | (with_reducible apply And.intro))))
      all_goals try (exfalso; omega)
      · simp; omega
      · rw [e1, e2]
        refine px ⟨(m.tdiv 10, UInt8.ofNat (48 + m.natAbs % 10) :: out), by dsimp only; omega, by dsimp only; rw [h4, ← hs, ho]⟩ (by dsimp only; omega) (by simp [E2] <;> rfl) (by simp [subH])
end Go.Proofs.YtbdmpkidcpblaaaDoor

namespace Go.Proofs.YtbdmpkidcpblaaaDoor
open Go.Gh
set_option maxRecDepth 20000
set_option linter.unusedSimpArgs false
set_option linter.unusedVariables false
open Go.Lib
theorem w4 (x : Int × ByteArray) (left : Int) (h0 : 0 ≤ left) (h1 : left ≤ 1048576) (hx : x.2.size ≤ maxLen) : Pure Tryd.prog 4 [Ins x, I left] (· = I (szv left (wOcc x))) := by
  simp only [maxLen, size_chars] at hx
  refine gstart mxd i4 rfl (by simp) ?_; simp (maxSteps := 2000000) only [↓ S2, S2, vIte, ↓reduceIte, Int.reduceNe, Nat.reduceEqDiff, reduceCtorEq, Nat.reduceLeDiff, Nat.reduceAdd, Nat.reduceLT]
  ((try simp (maxSteps := 2000000) only [↓ S2, S2, vIte, ↓reduceIte, Int.reduceNe, Nat.reduceEqDiff, reduceCtorEq, Nat.reduceLeDiff, Nat.reduceAdd, Nat.reduceLT]); (repeat (simp only [brGen]; try simp (maxSteps := 2000000) only [↓ S2, S2, vIte, ↓reduceIte, Int.reduceNe, Nat.reduceEqDiff, reduceCtorEq, Nat.reduceLeDiff, Nat.reduceAdd, Nat.reduceLT])); (try simp +contextual (disch := omega) only [Z2]); (repeat' (first | (with_reducible intro h) | (with_reducible refine And.intro (by omega) ?_) | (with_reducible refine exP (by omega) ?_) | (with_reducible apply And.intro)))) <;> (congr 2; simp only [szv, wOcc]; omega)
theorem w6 (x : Int × ByteArray) : Pure Tryd.prog 6 [Ins x] (· = Ins x) := by
  refine gstart mxd i6 rfl (by simp) ?_; simp (maxSteps := 2000000) only [↓ S2, S2, vIte, ↓reduceIte, Int.reduceNe, Nat.reduceEqDiff, reduceCtorEq, Nat.reduceLeDiff, Nat.reduceAdd, Nat.reduceLT]
  ((try simp (maxSteps := 2000000) only [↓ S2, S2, vIte, ↓reduceIte, Int.reduceNe, Nat.reduceEqDiff, reduceCtorEq, Nat.reduceLeDiff, Nat.reduceAdd, Nat.reduceLT]); (repeat (simp only [brGen]; try simp (maxSteps := 2000000) only [↓ S2, S2, vIte, ↓reduceIte, Int.reduceNe, Nat.reduceEqDiff, reduceCtorEq, Nat.reduceLeDiff, Nat.reduceAdd, Nat.reduceLT])); (try simp +contextual (disch := omega) only [Z2]); (repeat' (first | (with_reducible intro h) | (with_reducible refine And.intro (by omega) ?_) | (with_reducible refine exP (by omega) ?_) | (with_reducible apply And.intro))))
def fmtI (x : Oc) : List UInt8 := 35 :: (itoa x.1 ++ 46 :: chars x.2)
theorem w5 (x : Oc) (h0 : -9223372036854775808 ≤ x.1) (h1 : x.1 ≤ 9223372036854775807) (hx : (chars x.2).length ≤ 1048576) : Pure Tryd.prog 5 [Ins x] (· = .val (mkS (fmtI x))) := by
  have hl := itoa_len h0 h1
  have hx' : x.2.size ≤ 1048576 := by rw [size_chars]; exact hx
  have hf := w8 x.1 h0 h1
  unfold fmtI
  generalize itoa x.1 = s at *
  refine gstart mxd i5 rfl (by simp) ?_; simp (maxSteps := 2000000) only [↓ S2, S2, vIte, ↓reduceIte, Int.reduceNe, Nat.reduceEqDiff, reduceCtorEq, Nat.reduceLeDiff, Nat.reduceAdd, Nat.reduceLT]
  ((try simp (maxSteps := 4000000) +contextual only [↓ S2, S2, vIte, ↓reduceIte, Int.reduceNe, Nat.reduceEqDiff, reduceCtorEq, Nat.reduceLeDiff, Nat.reduceAdd, Nat.reduceLT, hget_c, hset_c, hdel_c, neN, neA_cons, neA_nil, ]); (repeat (simp only [brGen]; try simp (maxSteps := 4000000) +contextual only [↓ S2, S2, vIte, ↓reduceIte, Int.reduceNe, Nat.reduceEqDiff, reduceCtorEq, Nat.reduceLeDiff, Nat.reduceAdd, Nat.reduceLT, hget_c, hset_c, hdel_c, neN, neA_cons, neA_nil, ])); (try simp +contextual (disch := omega) only [Z2, ]); (repeat' (first | (with_reducible intro h) | (with_reducible refine And.intro (by omega) ?_) | (with_reducible refine exP (by omega) ?_) | (with_reducible apply And.intro))))
  refine callS.eq hf ?_
  ((try simp (maxSteps := 4000000) +contextual only [↓ S2, S2, vIte, ↓reduceIte, Int.reduceNe, Nat.reduceEqDiff, reduceCtorEq, Nat.reduceLeDiff, Nat.reduceAdd, Nat.reduceLT, hget_c, hset_c, hdel_c, neN, neA_cons, neA_nil, ]); (repeat (simp only [brGen]; try simp (maxSteps := 4000000) +contextual only [↓ S2, S2, vIte, ↓reduceIte, Int.reduceNe, Nat.reduceEqDiff, reduceCtorEq, Nat.reduceLeDiff, Nat.reduceAdd, Nat.reduceLT, hget_c, hset_c, hdel_c, neN, neA_cons, neA_nil, ])); (try simp +contextual (disch := omega) only [Z2, ]); (repeat' (first | (with_reducible intro h) | (with_reducible refine And.intro (by omega) ?_) | (with_reducible refine exP (by omega) ?_) | (with_reducible apply And.intro))))
  all_goals first | (exfalso; omega) | (simp; done) | (simp; omega) | (show GV.val (mkS ((([35] ++ s) ++ [46]) ++ chars x.2)) = _; simp)
theorem p7 (x : Oc) (h0 : -9223372036854775808 ≤ x.1) (h1 : x.1 ≤ 9223372036854775807) (hx : (chars x.2).length ≤ 1048576) : PureT Tryd.prog (tab10 0) 7 [Ins x] (· = .val (mkS (fmtI x))) := by
  have hl := itoa_len h0 h1
  have hx' : x.2.size ≤ 1048576 := by rw [size_chars]; exact hx
  have hf := p9 x.1 h0 h1
  unfold fmtI
  generalize itoa x.1 = s at *
  refine gstart mxd i7 rfl (by simp) ?_; simp (maxSteps := 2000000) only [↓ S2, S2, vIte, ↓reduceIte, Int.reduceNe, Nat.reduceEqDiff, reduceCtorEq, Nat.reduceLeDiff, Nat.reduceAdd, Nat.reduceLT]
  ((try simp (maxSteps := 4000000) +contextual only [↓ S2, S2, vIte, ↓reduceIte, Int.reduceNe, Nat.reduceEqDiff, reduceCtorEq, Nat.reduceLeDiff, Nat.reduceAdd, Nat.reduceLT, hget_c, hset_c, hdel_c, neN, neA_cons, neA_nil, ]); (repeat (simp only [brGen]; try simp (maxSteps := 4000000) +contextual only [↓ S2, S2, vIte, ↓reduceIte, Int.reduceNe, Nat.reduceEqDiff, reduceCtorEq, Nat.reduceLeDiff, Nat.reduceAdd, Nat.reduceLT, hget_c, hset_c, hdel_c, neN, neA_cons, neA_nil, ])); (try simp +contextual (disch := omega) only [Z2, ]); (repeat' (first | (with_reducible intro h) | (with_reducible refine And.intro (by omega) ?_) | (with_reducible refine exP (by omega) ?_) | (with_reducible apply And.intro))))
  refine callS.eqT hf (tabH_10 0) (fun _ h => h) ?_
  ((try simp (maxSteps := 4000000) +contextual only [↓ S2, S2, vIte, ↓reduceIte, Int.reduceNe, Nat.reduceEqDiff, reduceCtorEq, Nat.reduceLeDiff, Nat.reduceAdd, Nat.reduceLT, hget_c, hset_c, hdel_c, neN, neA_cons, neA_nil, ]); (repeat (simp only [brGen]; try simp (maxSteps := 4000000) +contextual only [↓ S2, S2, vIte, ↓reduceIte, Int.reduceNe, Nat.reduceEqDiff, reduceCtorEq, Nat.reduceLeDiff, Nat.reduceAdd, Nat.reduceLT, hget_c, hset_c, hdel_c, neN, neA_cons, neA_nil, ])); (try simp +contextual (disch := omega) only [Z2, ]); (repeat' (first | (with_reducible intro h) | (with_reducible refine And.intro (by omega) ?_) | (with_reducible refine exP (by omega) ?_) | (with_reducible apply And.intro))))
  all_goals first | (exfalso; omega) | (simp; done) | (simp; omega) | (show GV.val (mkS ((([35] ++ s) ++ [46]) ++ chars x.2)) = _; simp)
theorem p3 (x : Oc) (h0 : -9223372036854775808 ≤ x.1) (h1 : x.1 ≤ 9223372036854775807) (hx : x.2.size ≤ maxLen) : PureT Tryd.prog (tab10 0) 3 [Ins x] (· = B true) := by
  refine gstart mxd i3 rfl (by simp) ?_; simp (maxSteps := 2000000) only [↓ S2, S2, vIte, ↓reduceIte, Int.reduceNe, Nat.reduceEqDiff, reduceCtorEq, Nat.reduceLeDiff, Nat.reduceAdd, Nat.reduceLT]
  ((try simp (maxSteps := 4000000) +contextual only [↓ S2, S2, vIte, ↓reduceIte, Int.reduceNe, Nat.reduceEqDiff, reduceCtorEq, Nat.reduceLeDiff, Nat.reduceAdd, Nat.reduceLT, hget_c, hset_c, hdel_c, neN, neA_cons, neA_nil, ]); (repeat (simp only [brGen]; try simp (maxSteps := 4000000) +contextual only [↓ S2, S2, vIte, ↓reduceIte, Int.reduceNe, Nat.reduceEqDiff, reduceCtorEq, Nat.reduceLeDiff, Nat.reduceAdd, Nat.reduceLT, hget_c, hset_c, hdel_c, neN, neA_cons, neA_nil, ])); (try simp +contextual (disch := omega) only [Z2, ]); (repeat' (first | (with_reducible intro h) | (with_reducible refine And.intro (by omega) ?_) | (with_reducible refine exP (by omega) ?_) | (with_reducible apply And.intro))))
  refine callS.eq (w4 x _ (by omega) (by omega) hx) ?_
  ((try simp (maxSteps := 2000000) only [↓ S2, S2, vIte, ↓reduceIte, Int.reduceNe, Nat.reduceEqDiff, reduceCtorEq, Nat.reduceLeDiff, Nat.reduceAdd, Nat.reduceLT]); (repeat (simp only [brGen]; try simp (maxSteps := 2000000) only [↓ S2, S2, vIte, ↓reduceIte, Int.reduceNe, Nat.reduceEqDiff, reduceCtorEq, Nat.reduceLeDiff, Nat.reduceAdd, Nat.reduceLT])); (try simp +contextual (disch := omega) only [Z2]); (repeat' (first | (with_reducible intro h) | (with_reducible refine And.intro (by omega) ?_) | (with_reducible refine exP (by omega) ?_) | (with_reducible apply And.intro))))
  have h3 := szv_nn h
  have hc : (chars x.2).length ≤ 1048576 := by simp only [wOcc] at h3; omega
  have hs := w5 x h0 h1 hc
  have hi := p7 x h0 h1 hc
  generalize fmtI x = l at *
  refine callS.eq (w6 x) ?_
  ((try simp (maxSteps := 4000000) +contextual only [↓ S2, S2, vIte, ↓reduceIte, Int.reduceNe, Nat.reduceEqDiff, reduceCtorEq, Nat.reduceLeDiff, Nat.reduceAdd, Nat.reduceLT, hget_c, hset_c, hdel_c, neN, neA_cons, neA_nil, ]); (repeat (simp only [brGen]; try simp (maxSteps := 4000000) +contextual only [↓ S2, S2, vIte, ↓reduceIte, Int.reduceNe, Nat.reduceEqDiff, reduceCtorEq, Nat.reduceLeDiff, Nat.reduceAdd, Nat.reduceLT, hget_c, hset_c, hdel_c, neN, neA_cons, neA_nil, ])); (try simp +contextual (disch := omega) only [Z2, ]); (repeat' (first | (with_reducible intro h) | (with_reducible refine And.intro (by omega) ?_) | (with_reducible refine exP (by omega) ?_) | (with_reducible apply And.intro))))
  refine callS.eq hs ?_
  ((try simp (maxSteps := 4000000) +contextual only [↓ S2, S2, vIte, ↓reduceIte, Int.reduceNe, Nat.reduceEqDiff, reduceCtorEq, Nat.reduceLeDiff, Nat.reduceAdd, Nat.reduceLT, hget_c, hset_c, hdel_c, neN, neA_cons, neA_nil, ]); (repeat (simp only [brGen]; try simp (maxSteps := 4000000) +contextual only [↓ S2, S2, vIte, ↓reduceIte, Int.reduceNe, Nat.reduceEqDiff, reduceCtorEq, Nat.reduceLeDiff, Nat.reduceAdd, Nat.reduceLT, hget_c, hset_c, hdel_c, neN, neA_cons, neA_nil, ])); (try simp +contextual (disch := omega) only [Z2, ]); (repeat' (first | (with_reducible intro h) | (with_reducible refine And.intro (by omega) ?_) | (with_reducible refine exP (by omega) ?_) | (with_reducible apply And.intro))))
  refine callS.eq (w6 x) ?_
  ((try simp (maxSteps := 4000000) +contextual only [↓ S2, S2, vIte, ↓reduceIte, Int.reduceNe, Nat.reduceEqDiff, reduceCtorEq, Nat.reduceLeDiff, Nat.reduceAdd, Nat.reduceLT, hget_c, hset_c, hdel_c, neN, neA_cons, neA_nil, ]); (repeat (simp only [brGen]; try simp (maxSteps := 4000000) +contextual only [↓ S2, S2, vIte, ↓reduceIte, Int.reduceNe, Nat.reduceEqDiff, reduceCtorEq, Nat.reduceLeDiff, Nat.reduceAdd, Nat.reduceLT, hget_c, hset_c, hdel_c, neN, neA_cons, neA_nil, ])); (try simp +contextual (disch := omega) only [Z2, ]); (repeat' (first | (with_reducible intro h) | (with_reducible refine And.intro (by omega) ?_) | (with_reducible refine exP (by omega) ?_) | (with_reducible apply And.intro))))
  refine callS.eqT hi (tabH_10 0) (fun _ h => h) ?_
  ((try simp (maxSteps := 4000000) +contextual only [↓ S2, S2, vIte, ↓reduceIte, Int.reduceNe, Nat.reduceEqDiff, reduceCtorEq, Nat.reduceLeDiff, Nat.reduceAdd, Nat.reduceLT, hget_c, hset_c, hdel_c, neN, neA_cons, neA_nil, ]); (repeat (simp only [brGen]; try simp (maxSteps := 4000000) +contextual only [↓ S2, S2, vIte, ↓reduceIte, Int.reduceNe, Nat.reduceEqDiff, reduceCtorEq, Nat.reduceLeDiff, Nat.reduceAdd, Nat.reduceLT, hget_c, hset_c, hdel_c, neN, neA_cons, neA_nil, ])); (try simp +contextual (disch := omega) only [Z2, ]); (repeat' (first | (with_reducible intro h) | (with_reducible refine And.intro (by omega) ?_) | (with_reducible refine exP (by omega) ?_) | (with_reducible apply And.intro))))
end Go.Proofs.YtbdmpkidcpblaaaDoor

namespace Go.Proofs.YtbdmpkidcpblaaaDoor
open Go.Gh
set_option maxRecDepth 20000
set_option linter.unusedSimpArgs false
set_option linter.unusedVariables false
open Go.ChangeShapes Go.WideShapes Go.ChangeAt Go.RowKit Go.Lib
theorem Tryd.own : ownKnob Tryd.prog.godebug = none := by kernel_rfl
theorem Tryd.laidOut : laidOutB Tryd.prog = true := by kernel_rfl
abbrev Tryd.laid : List (String × DataW Unit) := [("math/bits.deBruijn32tab", Rows.laid_math_bits_deBruijn32tab), ("math/bits.deBruijn64tab", Rows.laid_math_bits_deBruijn64tab), ("internal/strconv.uint64pow10", Rows.laid_internal_strconv_uint64pow10)]
set_option maxRecDepth 100000 in
theorem Tryd.door_met (os : Os) (args : Array Value) : laidMetH Tryd.prog Tryd.laid ((World.doorLaid Tryd.prog 24 os).forCall (fun _ _ => 0) ⟨#[], args, []⟩).memory :=
  laidMetH_of_parts3 (fuel := 8) (laidMet_of_run' 8 (by kernel_rfl) (by kernel_rfl)) (by kernel_rfl) (by kernel_rfl)
theorem Tryd.tp10 : (Tryd.prog.globals[0]?).map (·.type) = some 40 := by kernel_rfl
set_option maxRecDepth 100000 in
theorem Tryd.of_laid {W : World} (h : laidMetH Tryd.prog Tryd.laid W) : TabIs Tryd.prog W "internal/strconv.uint64pow10" .u64 pow10Tab := by
  rw [MakeChecks.laidMetH_plain _ _ _ (by kernel_rfl)] at h
  obtain ⟨ps, ⟨g0, t0, cs0, f0, p0, q0, hg0, ht0, hv0, hd0, ⟨g1, t1, cs1, f1, p1, q1, hg1, ht1, hv1, hd1, ⟨g2, t2, cs2, f2, p2, q2, hg2, ht2, hv2, hd2, _, _⟩, _⟩, _⟩, _, _⟩ := h
  obtain rfl := Option.some.inj (Tryd.gp10.symm.trans hg2)
  obtain rfl := Option.some.inj (Tryd.tp10.symm.trans ht2)
  have e : (Rows.laid_internal_strconv_uint64pow10 : DataW Unit) = tabData .u64 pow10Tab := by rfl
  rw [e] at hd2
  unfold TabIs
  rw [hv2, ← cells_of_tab Tryd.underlying40 Tryd.underlying33 (by kernel_rfl) (by kernel_rfl) hd2]
theorem t_InsB {g : GV} (h : ET true [.int .i64, .str] g) : ∃ x : Oc, g = Ins x ∧ x.2.size ≤ maxLen ∧ -9223372036854775808 ≤ x.1 ∧ x.1 ≤ 9223372036854775807 := by
  obtain ⟨gs, k1, k2⟩ := h
  simp only [CTs, CT] at k1
  obtain ⟨g1, gs', rfl, ⟨n, rfl, hn⟩, g2, gs'', rfl, ⟨s, rfl, hs⟩, rfl⟩ := k1
  have hn : -9223372036854775808 ≤ n ∧ n ≤ 9223372036854775807 := by simpa [Lit.wf, IntKind.min, IntKind.max, IntKind.signed, IntKind.bits] using hn
  exact ⟨(n, s), by simpa using k2, hs, hn.1, hn.2⟩
set_option maxRecDepth 100000 in
theorem l3 (os : Os) (started : os.Started) (H : Type) (enc : TypeId × Value → H) :
    ReturnsInHanded {} Tryd.checked os 3 .any (fun w args => (Rows.fnExactFormatInstanceSpec.pre enc Tryd.prog Tryd.f3 [] false w args ∧ laidMetH Tryd.prog Tryd.laid w) ∧ sizedMet enc Tryd.prog Tryd.f3 (OpenSpec.ofChange Rows.fnExactFormatInstanceSpec) false w args) (Rows.fnExactFormatInstanceSpec.post enc Tryd.prog Tryd.f3 false true false false) := by
  refine returnsInHanded_of_change_and (C := Tryd.checked) (X := fun w _ => laidMetH Tryd.prog Tryd.laid w) (fun _ _ _ hh h => h.of_heap hh) Tryd.own started (by kernel_rfl) Tryd.func3
    (ChangeSpec.witness_shaped (enc := enc) (C := Tryd.checked) (os := os) (X := fun w _ => laidMetH Tryd.prog Tryd.laid w) false (World.doorLaid Tryd.prog 24 os) #[.agg #[.int .i64 0, .string (ByteArray.mk #[])]] 8 rfl (World.shaped_of_RefB (by kernel_rfl) (by kernel_rfl)) (by kernel_rfl) (by kernel_rfl) (by kernel_rfl) (Tryd.door_met os _)) ?_
  intro W base args ds gs before hval0 hW _ _ hL _
  have hval : ∀ (j : Nat) t v, Tryd.f3.params[j]? = some t → args[j]? = some v → Value.okWide Tryd.prog W .any base t v := hval0
  have hW' := hW
  obtain ⟨p, q, hA0, hV, rfl, hfz, hnd⟩ := hW
  have hA : DataW.TrodAll enc Tryd.prog W 0 (fun _ => true) true Tryd.f3.params.toList args.toList ds p := hA0
  rw [Tryd.params3] at hA hval
  obtain ⟨v0, d0, rfl, rfl, h0⟩ := trodAll_one hA
  obtain ⟨rfl, rfl⟩ := trodVars_none hV
  obtain ⟨g0, m0, e0⟩ := lift_val (P := Tryd.prog) 8 (by kernel_rfl) (hval 0 _ v0 rfl rfl) h0
  obtain ⟨x, rfl, hx, b0, b1⟩ := t_InsB e0
  clear hA0 hval0
  simp only [List.append_nil] at hW'
  have hlt := hW'.lt
  refine ((p3 x b0 b1 hx).out i3 (W := W) (args := [v0]) (.cons0 m0 .nil0) (HM.tab10 Tryd.gp10 (Tryd.of_laid hL)) (tabH_10 0).1).mono fun e W' ⟨v, g, D, he, hg, hm, hb⟩ => ?_
  subst he; subst hg
  have hv := MV.val_inv hm
  subst hv
  exact ⟨_, rfl, post_of_below (pa := p) (pv := []) hW' (fun _ _ _ => trodAll_mk1 (shut_bool Tryd.underlying4 _)) (fun sp hsp => trodAll_mk1 (WideElems.Trod_stays Tryd.laidOut (by kernel_rfl) (of_decide_eq_true (by kernel_rfl)) h0 (fun x hx => hb.same (hlt x (by simp [hx]))) (fun x hx => hsp x (by simp [hx])))) (fun _ _ => rfl) (by simp)
    hb (ok_one (by kernel_rfl) rfl (okWide_bool_mk Tryd.underlying4 _))⟩
theorem h3 : Rows.FnExactFormatInstanceSaid :=
  OpenClaim.holds_of_wide 3 Tryd.f3 rfl rfl rfl rfl rfl rfl rfl ⟨rfl, rfl, rfl, rfl, rfl⟩ rfl rfl rfl rfl rfl (by kernel_rfl) Tryd.func3 (by kernel_rfl)
    (of_decide_eq_true (by kernel_rfl)) (by unfold Func.isWrapper; first | (rw [if_pos (by decide +kernel)]; kernel_rfl) | (rw [if_neg (by decide +kernel)]; exact ⟨rfl, rfl⟩))
    (fun os started H enc _ => l3 os started H enc)
end Go.Proofs.YtbdmpkidcpblaaaDoor

namespace Go.Proofs.YtbdmpkidcpblaaaDoor
open Go
theorem k3 : Rows.FnExactFormatInstanceCardSaid :=
  Claim7.holds_tied_plain_at .later [] [.data, .data, .data] true (true, "ff0b82cfbddd927d6efe3a5b7a7d869abeab3092ee1b6ab0547b8f26809bb6a0") false
    h3 (fun _ h => by cases h) (by kernel_rfl) (fun _ h => by cases h) fnExactFormatInstance_row_tie rfl ⟨rfl, rfl⟩ (by kernel_rfl) rfl
    (fun f fn hf hfn => by
      obtain rfl : f = 3 := Option.some.inj ((show Tryd.prog.funcNamed "loop.example/g00512/laws.FnExactFormatInstance" = some 3 by kernel_rfl).symm.trans hf) |>.symm
      obtain rfl : fn = Tryd.f3 := (Option.some.inj (Tryd.func3.symm.trans hfn)).symm
      exact ⟨by kernel_rfl, fun j t ht => by
        rw [Tryd.params3] at ht
        have hm : t ∈ [23] := by simpa using Array.mem_of_getElem? ht
        have hall : ([23].all fun u => !Tryd.prog.wantsStandIn u) = true := by kernel_rfl
        exact (show Tryd.prog.wantsStandIn t = false by simpa using List.all_eq_true.1 hall t hm)⟩)
    (by kernel_rfl)
end Go.Proofs.YtbdmpkidcpblaaaDoor

