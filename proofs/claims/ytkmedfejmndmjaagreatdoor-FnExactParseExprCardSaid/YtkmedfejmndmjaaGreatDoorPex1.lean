/- The tied card of the law FnExactParseExpr holds. No condition. -/
import Derived.Test.YtkmedfejmndmjaaGreatDoorLibP3
import Derived.Lib.ItoaNum
import Derived.Lib.LaidTab
import Derived.Sort.Grow
import Derived.Shelf.Strconv.Itoa3
import Derived.Deep.Draws
import Derived.LaidMore
import Derived.OpenShut
import Derived.Stop.Joined
import Derived.SevenTiedAt
import Derived.Shelf.Strconv.AtoiAll
import Derived.Lib.Bytealg
import Derived.Shelf.Small.Strs
import Derived.Shelf.Strings.OnBuilder
import Derived.KernelRfl
import Derived.Test.YtkmedfejmndmjaaGreatDoorRows
import Derived.Test.YtkmedfejmndmjaaGreatDoorChecked
import Derived.Test.YtkmedfejmndmjaaGreatDoorCards
import Derived.Test.YtkmedfejmndmjaaGreatDoorTie
set_option linter.unusedSimpArgs false
set_option linter.unusedVariables false
/- The program's data as plain data, and their ghosts. -/
namespace Go.Gh
set_option linter.unusedSimpArgs false
set_option linter.unusedVariables false
abbrev T (s : ByteArray) : GV := .val (.string s)
theorem chars_inj {s t : ByteArray} : chars s = chars t ↔ s = t := by
  constructor
  · intro h; obtain ⟨a⟩ := s; obtain ⟨b⟩ := t; simp only [chars] at h; congr 1; exact Array.ext' h
  · rintro rfl; rfl
@[ext] structure Nod where
  id : Int
  parent : Int
  place : Int
  lit : Int
  rule : ByteArray
  kids : List Int
deriving DecidableEq
@[ext] structure Slo where
  pos : Int
  name : ByteArray
  val : Int
deriving DecidableEq
theorem e_nil (e : Env) : subE e [] = True := (rfl)
theorem e_cons (e : Env) (j : Nat) (g : GV) (r : Env) : subE e ((j, g) :: r) = (eget e j = some g ∧ subE e r) := (rfl)
theorem n_val (v : Value) : nraw (.val v) = true := (rfl)
theorem n_sl (sz : Nat) (es : List GV) : nraw (.sl sz es) = true := (rfl)
theorem n_agg (cs : List GV) : nraw (.agg cs) = true := (rfl)
theorem n_rop (sz : Nat) (g : GV) : nraw (.rop sz g) = true := (rfl)
theorem n_ptr (r sz i o : Nat) : nraw (.ptr r sz i o) = true := (rfl)
theorem n_own (r sz k n : Nat) : nraw (.own r sz k n) = true := (rfl)
theorem n_clo (f : Nat) (cs : List GV) : nraw (.clo f cs) = true := (rfl)
theorem n_tup (cs : List GV) : nraw (.tup cs) = true := (rfl)
theorem E2 : type_of% (And.intro @e_nil (And.intro @e_cons (And.intro @n_val (And.intro @n_sl (And.intro @n_agg (And.intro @n_rop (And.intro @n_ptr (And.intro @n_own (And.intro @n_clo (And.intro @n_tup (And.intro @x_get @Option.some.injEq.{0}))))))))))) :=
  And.intro @e_nil (And.intro @e_cons (And.intro @n_val (And.intro @n_sl (And.intro @n_agg (And.intro @n_rop (And.intro @n_ptr (And.intro @n_own (And.intro @n_clo (And.intro @n_tup (And.intro @x_get @Option.some.injEq.{0}))))))))))
theorem maxLv : maxL = 9223372036854775807 := (rfl)
theorem Z2 : type_of% (And.intro @Int.ofNat_lt (And.intro @Int.natCast_nonneg (And.intro @true_and (And.intro @u_ext (And.intro @exists_prop_of_true (And.intro @Int.natCast_zero (And.intro @chars_inj (And.intro @Int.natCast_inj (And.intro maxLv (And.intro @not_true_eq_false (And.intro @false_implies (And.intro @true_implies (And.intro @and_true (And.intro @implies_true.{0} @wrap64)))))))))))))) :=
  And.intro @Int.ofNat_lt (And.intro @Int.natCast_nonneg (And.intro @true_and (And.intro @u_ext (And.intro @exists_prop_of_true (And.intro @Int.natCast_zero (And.intro @chars_inj (And.intro @Int.natCast_inj (And.intro maxLv (And.intro @not_true_eq_false (And.intro @false_implies (And.intro @true_implies (And.intro @and_true (And.intro @implies_true.{0} @wrap64)))))))))))))
end Go.Gh

/- What the program computes, in plain words: trees. -/
namespace Go.Gh
set_option linter.unusedSimpArgs false
set_option linter.unusedVariables false
end Go.Gh
namespace Go.Gh
end Go.Gh
namespace Go.Gh
theorem sum_mem {α : Type} (f : α → Nat) : ∀ (l : List α) (x : α), x ∈ l → f x ≤ (l.map f).sum
  | y :: l, x, h => by
    simp only [List.map_cons, List.sum_cons]
    rcases List.mem_cons.1 h with rfl | h
    · omega
    · have := sum_mem f l x h; omega
end Go.Gh
namespace Go.Gh
theorem take_eq_step {α : Type} {xs ys : List α} {i : Nat} (hp : xs.take i = ys.take i) (h1 : i < xs.length) (h2 : i < ys.length) (h : xs[i] = ys[i]) : xs.take (i + 1) = ys.take (i + 1) := by
  rw [List.take_add_one, List.take_add_one, hp, List.getElem?_eq_getElem h1, List.getElem?_eq_getElem h2, h]
end Go.Gh
namespace Go.Gh
end Go.Gh
namespace Go.Gh
theorem exP {p : Prop} {q : p → Prop} (h : p) (hq : q h) : ∃ h, q h := ⟨h, hq⟩
end Go.Gh
namespace Go.Gh
end Go.Gh
namespace Go.Gh
end Go.Gh
namespace Go.Gh
end Go.Gh

/- The laws' own functions on slices, whatever the element: sizes, copies, comparisons. -/
namespace Go.Gh
set_option linter.unusedSimpArgs false
set_option linter.unusedVariables false
set_option maxRecDepth 20000
section
variable {P : Program} {α : Type} {f : α → GV} {k kx sz : Nat} {det ag : Bool}
theorem eqS (mxd : P.follows .mixedOrders = true) (hF : IsFun P k ⟨⟨27, []⟩,
  (.seq (.reg [(.mk (some 4) none (.mov (.k (.val (.bool false)))))]) (.seq (.seq (.reg [(.mk (some 6) none (.mov (.t 0))), (.mk (some 7) none (.len (.t 6))), (.mk (some 8) none (.mov (.t 1))), (.mk (some 9) none (.len
  (.t 8))), (.mk (some 10) none (.bin .neq (.t 7) (.t 9)))]) (.cond 10 (.seq (.reg [(.mk (some 4) none (.mov (.k (.val (.bool false)))))]) .ret) .skip)) (.seq (.seq (.reg [(.mk (some 5) none (.mov (.k (.val (.int .i64
  0)))))]) (.block 0 (.loop (.seq (.seq (.reg [(.mk (some 11) none (.mov (.t 5))), (.mk (some 12) none (.mov (.t 0))), (.mk (some 13) none (.len (.t 12))), (.mk (some 14) none (.bin .lss (.t 11) (.t 13)))]) (.cond 14
  .skip (.exit 0))) (.seq (.block 1 (.seq (.reg [(.mk (some 17) none (.mov (.t 0))), (.mk (some 18) none (.mov (.t 5))), (.mk (some 19) none (.iaddr sz (.t 17) (.t 18))), (.mk (some 21) none (.mov (.t 1))), (.mk (some
  22) none (.mov (.t 5))), (.mk (some 23) none (.iaddr sz (.t 21) (.t 22))), (.mk (some 20) none (.load sz ag (.t 19))), (.mk (some 24) none (.load sz ag (.t 23))), (.mk (some 25) none (.call det kx [(.t 20), (.t
  24)])), (.mk (some 26) none (.not (.t 25)))]) (.cond 26 (.seq (.reg [(.mk (some 4) none (.mov (.k (.val (.bool false)))))]) .ret) .skip))) (.reg [(.mk (some 15) none (.mov (.t 5))), (.mk (some 16) none (.bin .add (.t
  15) (.k (.val (.int .i64 1))))), (.mk (some 5) none (.mov (.t 16)))])))))) (.seq (.reg [(.mk (some 4) none (.mov (.k (.val (.bool true)))))]) .ret)))), [.t 4]⟩)
    [DecidableEq α] (hag : ∀ a, isAgg (f a) = ag) (hr : ∀ a, geR (some (f a)) = some (f a)) (xs ys : List α) (hx : ∀ a ∈ xs, ∀ b ∈ ys, Pure P kx [f a, f b] (· = B (decide (a = b)))) :
    Pure P k [.sl sz (xs.map f), .sl sz (ys.map f)] (· = B (decide (xs = ys))) := by
  refine GCalls.lenA fun hl => ?_
  have hlen := hl.1.1
  simp only [List.length_map, maxL] at hlen
  refine gstart mxd hF rfl (by simp) ?_
  ((try simp only [↓ S2, S2, ↓reduceIte, Nat.reduceEqDiff, reduceCtorEq, Nat.reduceLeDiff, Nat.reduceAdd, Nat.reduceLT, hr, hag]); (try simp only [brGen]; try simp only [↓ S2, S2, ↓reduceIte, Nat.reduceEqDiff, reduceCtorEq, Nat.reduceLeDiff, Nat.reduceAdd, Nat.reduceLT, hr, hag]); (try simp +contextual (disch := omega) only [Z2]); (repeat' (first | (with_reducible intro h) | (with_reducible refine And.intro (by omega) ?_) | (with_reducible refine exP (by omega) ?_) | (with_reducible apply And.intro))))
  rotate_left
  · simp; rintro rfl; exact h rfl
  refine wloop mxd (ι := { i : Nat // i ≤ xs.length ∧ xs.take i = ys.take i }) (fun i => [(0, .sl sz (xs.map f)), (1, .sl sz (ys.map f)), (5, I i.1)]) (fun _ => []) (fun i => xs.length - i.1) ⟨0, by simp⟩ (by simp [E2]) rfl ?_
  rintro ⟨i, hi, hp⟩
  ((try simp only [↓ S2, S2, ↓reduceIte, Nat.reduceEqDiff, reduceCtorEq, Nat.reduceLeDiff, Nat.reduceAdd, Nat.reduceLT, hr, hag]); (try simp only [brGen]; try simp only [↓ S2, S2, ↓reduceIte, Nat.reduceEqDiff, reduceCtorEq, Nat.reduceLeDiff, Nat.reduceAdd, Nat.reduceLT, hr, hag]); (try simp +contextual (disch := omega) only [Z2]); (repeat' (first | (with_reducible intro h) | (with_reducible refine And.intro (by omega) ?_) | (with_reducible refine exP (by omega) ?_) | (with_reducible apply And.intro))))
  · refine callS.eq (hx xs[i] (List.getElem_mem _) ys[i] (List.getElem_mem _)) ?_
    ((try simp only [↓ S2, S2, ↓reduceIte, Nat.reduceEqDiff, reduceCtorEq, Nat.reduceLeDiff, Nat.reduceAdd, Nat.reduceLT, hr, hag]); (try simp only [brGen]; try simp only [↓ S2, S2, ↓reduceIte, Nat.reduceEqDiff, reduceCtorEq, Nat.reduceLeDiff, Nat.reduceAdd, Nat.reduceLT, hr, hag]); (try simp +contextual (disch := omega) only [Z2]); (repeat' (first | (with_reducible intro h) | (with_reducible refine And.intro (by omega) ?_) | (with_reducible refine exP (by omega) ?_) | (with_reducible apply And.intro))))
    · exact nx ⟨i + 1, by omega, take_eq_step hp (by omega) (by omega) h⟩ (by simp; omega) (by simp [E2]) rfl
    · simp; rintro rfl; simp at h
  · have : i = xs.length := by omega
    subst this
    rw [List.take_of_length_le (by omega), List.take_of_length_le (by omega)] at hp
    simp [hp]
end
end Go.Gh

/- Arguments of the statements, by their types. -/
namespace Go.Gh
theorem t_one {t : Ty} {g : GV} (h : ET false [t] g) : CT t g := by
  obtain ⟨gs, k1, k2⟩ := h
  simp only [CTs] at k1
  obtain ⟨g, gs', rfl, hg, rfl⟩ := k1
  simp at k2
  rw [← k2]; exact hg
end Go.Gh

/- What the laws' marks are. -/
namespace Go.Gh
set_option linter.unusedSimpArgs false
set_option linter.unusedVariables false
theorem vIte (P : Program) (c : Prop) [Decidable c] (g : GV) (d : Option Nat) (is : List GI) (K : Env → GH → Prop) (env : Env) (H : GH) : valS P (if c then some g else none) d is K env H = (c ∧ gsteps P is K (gput env d g) H) := by
  by_cases h : c <;> simp [h, valS]
theorem nxF {ι : Type} {E : ι → Env} {G : ι → GH} {μ : ι → Nat} {i : ι} {e e' : Env} {H H' : GH} (j : ι) (hm : μ j < μ i) (hf : FE e H e' H') (h : subE e' (E j)) (hh : H' = G j) : Nx E G μ i e H := by
  subst hh
  exact ⟨j, FE.trans hf (FE.of h), hm⟩
theorem wloopF {P : Program} {cf : Cfg} (mxd : P.follows .mixedOrders = true) {ι : Type} {x : GC} {Q : Exit → Env → GH → Prop} {env env' : Env} {H H' : GH} (E : ι → Env) (G : ι → GH) (μ : ι → Nat) (i0 : ι) (hf : FE env H env' H') (h0 : subE env' (E i0)) (hh : H' = G i0)
    (round : ∀ i, (names (G i)).Nodup → GW P cf x (thenG (Nx E G μ i) Q) (E i) (G i)) : GW P cf (.loop x) Q env H := by
  subst hh
  exact GW.loop E G μ i0 (FE.trans hf (FE.of h0)) fun i => GW.names fun hn => round i hn
def dgt (k : Int) : UInt8 := UInt8.ofNat (IntKind.u8.wrap (IntKind.i64.wrap (48 + k.tmod 10))).toNat
def dig : Nat → Int → List UInt8 → List UInt8
  | 0, _, acc => acc
  | f + 1, k, acc => if 0 < k then dig f (k.tdiv 10) (dgt k :: acc) else acc
theorem dig_end : ∀ (f : Nat) {k : Int} (acc : List UInt8), ¬ 0 < k → dig f k acc = acc
  | 0, _, _, _ => rfl
  | f + 1, k, acc, h => by simp [dig, h]
def mtext (k : Int) : ByteArray := if k ≤ 0 then ⟨#[109, 48]⟩ else ⟨(109 :: dig k.toNat k []).toArray⟩
theorem FE.close3 {env : Env} {H : GH} {r r1 sz sz1 i j n : Nat} {L gs ks es0 : List GV} (hr : hget H r = some (sz, es0)) (hne : r1 ≠ r) (hi : i < L.length) (hg : gs[j]? = some (.own r1 sz1 0 n)) (hn : ks.length = n) :
    FE env ((r1, sz1, ks) :: hset H r (L.set i (.agg gs))) env (hset H r (L.set i (.agg (gs.set j (.osl sz1 ks))))) := by
  have := FE.close (env := env) (H := (r1, sz1, ks) :: hset H r (L.set i (.agg gs))) (r := r) (r1 := r1) (Ne.symm hne) (by rw [hget_old hne, hget_set hr]) (List.getElem?_set_self hi) hg hget_new hn
  rwa [hset_old hne, hset_set, hdel_new, List.set_set] at this
theorem FE.swap {env : Env} {H : GH} {x y : Nat × Nat × List GV} : FE env (x :: y :: H) env (y :: x :: H) := by
  intro w0 D0 O0 N a w ⟨hdf, hsz, D, Ω, ρw, hi⟩
  obtain ⟨r1, sz1, es1⟩ := x
  obtain ⟨r2, sz2, es2⟩ := y
  obtain ⟨F1, G1, e1, h1, F2, F3, e2, h2, h3⟩ := hi.st.hm
  have hp : ∀ x, (F2 ++ (F1 ++ F3)).count x = Ω.count x := by
    intro x; rw [e1, e2]; simp only [List.count_append]; omega
  have hmem : ∀ x ∈ F2 ++ (F1 ++ F3), x ∈ Ω := fun x hx => by
    have := List.count_pos_iff.2 hx
    exact List.count_pos_iff.1 (by rw [← hp]; exact this)
  refine ⟨hdf, hsz, D, F2 ++ (F1 ++ F3), ρw, hi.st' ⟨⟨F2, _, rfl, h2, F1, F3, rfl, h1, h3⟩, ?_, ?_, fun x hx => hi.st.dj x (hmem x hx), hi.st.ds⟩ hmem⟩
  · rw [List.nodup_iff_count]
    intro x
    rw [hp]
    exact List.nodup_iff_count.1 hi.st.nd x
  · have := hi.st.nn
    simp only [names, List.map_cons, List.nodup_cons, List.mem_cons, not_or] at this ⊢
    exact ⟨⟨fun e => this.1.1 e.symm, this.2.1⟩, this.1.2, this.2.2⟩
theorem callS.borA {P : Program} {K : Env → GH → Prop} {is : List GI} {env : Env} {H : GH} {d : Option Nat} {det : Bool} {f : FuncId} {gs gs' : List GV} {G : GV} (h : Pure P f gs' (· = G)) (hb : BorL H gs gs') (hs : scal G = true) (hk : gsteps P is K (gput env d G) H) : callS P det f (some gs) d is K env H := by
  cases det
  · exact callS.bor h hb hs hk
  · exact ⟨G, h.borrow hb (fun _ e => by rw [e]; exact hs), hk⟩
end Go.Gh

/- Expressions as plain data, and their ghosts. -/
namespace Go.Gh
set_option linter.unusedSimpArgs false
set_option linter.unusedVariables false
inductive Exp where
  | mk (kind n pos type : Int) (sym name : ByteArray) (args : List Exp)
def Exp.kind : Exp → Int | .mk k _ _ _ _ _ _ => k
def Exp.n : Exp → Int | .mk _ n _ _ _ _ _ => n
def Exp.pos : Exp → Int | .mk _ _ p _ _ _ _ => p
def Exp.type : Exp → Int | .mk _ _ _ t _ _ _ => t
def Exp.sym : Exp → ByteArray | .mk _ _ _ _ s _ _ => s
def Exp.name : Exp → ByteArray | .mk _ _ _ _ _ m _ => m
def Exp.args : Exp → List Exp | .mk _ _ _ _ _ _ a => a
mutual
def Ex : Exp → GV
  | .mk k n p t s m a => .agg [I k, I n, I p, I t, T s, T m, .sl 7 (ExL a)]
def ExL : List Exp → List GV
  | [] => []
  | e :: l => Ex e :: ExL l
end
theorem ExL_eq (l : List Exp) : ExL l = l.map Ex := by
  induction l with
  | nil => rfl
  | cons e l ih => simp [ExL, ih]
abbrev ExS (l : List Exp) : GV := .sl 7 (l.map Ex)
theorem Ex_eq (e : Exp) : Ex e = .agg [I e.kind, I e.n, I e.pos, I e.type, T e.sym, T e.name, ExS e.args] := by
  cases e; simp only [Ex, ExL_eq]; rfl
theorem Exp.ext_iff {x y : Exp} : x = y ↔ x.kind = y.kind ∧ x.n = y.n ∧ x.pos = y.pos ∧ x.type = y.type ∧ x.sym = y.sym ∧ x.name = y.name ∧ x.args = y.args := by
  cases x; cases y
  simp [Exp.kind, Exp.n, Exp.pos, Exp.type, Exp.sym, Exp.name, Exp.args]
mutual
theorem Exp.indA {p : Exp → Prop} (h : ∀ e, (∀ a ∈ e.args, p a) → p e) : ∀ e, p e
  | .mk k n q t s m a => h _ (Exp.indL h a)
theorem Exp.indL {p : Exp → Prop} (h : ∀ e, (∀ a ∈ e.args, p a) → p e) : ∀ (l : List Exp), ∀ a ∈ l, p a
  | [], a, hm => by cases hm
  | e :: l, a, hm => by
    have he : p e := Exp.indA h e
    have hl := Exp.indL h l
    rcases List.mem_cons.1 hm with rfl | hm
    · exact he
    · exact hl a hm
end
mutual
def wEx : Exp → Nat
  | .mk _ _ _ _ s m a => (chars s).length + (chars m).length + (a.length + wExL a)
def wExL : List Exp → Nat
  | [] => 0
  | e :: l => wEx e + wExL l
end
theorem wExL_eq (l : List Exp) : wExL l = (l.map wEx).sum := by
  induction l with
  | nil => rfl
  | cons e l ih => simp [wExL, ih]
theorem wEx_eq (e : Exp) : wEx e = (chars e.sym).length + (chars e.name).length + wtS wEx e.args := by
  cases e; simp only [wEx, wExL_eq, wtS]; rfl
mutual
def okE : Exp → Prop
  | .mk _ _ _ _ s m a => s.size ≤ maxLen ∧ m.size ≤ maxLen ∧ okEL a
def okEL : List Exp → Prop
  | [] => True
  | e :: l => okE e ∧ okEL l
end
theorem okEL_eq {l : List Exp} : okEL l ↔ ∀ a ∈ l, okE a := by
  induction l with
  | nil => simp [okEL]
  | cons e l ih => simp [okEL, ih]
theorem okE_eq {e : Exp} : okE e ↔ e.sym.size ≤ maxLen ∧ e.name.size ≤ maxLen ∧ ∀ a ∈ e.args, okE a := by
  cases e; simp only [okE, okEL_eq]; rfl
mutual
instance decExp : (x y : Exp) → Decidable (x = y)
  | .mk k n p t s m a, .mk k' n' p' t' s' m' a' =>
    match decExpL a a' with
    | isTrue h => decidable_of_iff (k = k' ∧ n = n' ∧ p = p' ∧ t = t' ∧ s = s' ∧ m = m') (by simp [h])
    | isFalse h => isFalse (by simp [h])
instance decExpL : (x y : List Exp) → Decidable (x = y)
  | [], [] => isTrue rfl
  | [], _ :: _ => isFalse (by simp)
  | _ :: _, [] => isFalse (by simp)
  | e :: l, e' :: l' => match decExp e e', decExpL l l' with
    | isTrue h, isTrue h' => isTrue (by rw [h, h'])
    | isFalse h, _ => isFalse (by simp [h])
    | _, isFalse h => isFalse (by simp [h])
end
theorem args_small {e : Exp} (h : wEx e ≤ 1048576) : e.args.length ≤ 1048576 ∧ ∀ a ∈ e.args, wEx a ≤ 1048576 := by
  rw [wEx_eq] at h
  simp only [wtS] at h
  refine ⟨by omega, fun a ha => ?_⟩
  have := sum_mem wEx e.args a ha
  omega
theorem isAgg_Ex (e : Exp) : isAgg (Ex e) = true := by rw [Ex_eq]; rfl
theorem geR_Ex (e : Exp) : geR (some (Ex e)) = some (Ex e) := by rw [Ex_eq]; rfl
theorem gsize_Ex (e : Exp) : gsize (Ex e) = 7 := by rw [Ex_eq]; rfl
theorem stor_Ex (e : Exp) : storable (Ex e) = true := by rw [Ex_eq]; rfl
theorem view_Ex (e : Exp) : view (Ex e) = Ex e := by rw [Ex_eq]; rfl
end Go.Gh

/- Arguments of recursive types, seen as ghosts. -/
namespace Go.Gh
open Go.RowKit Go.ChangeShapes Go.WideShapes Go.Deep
end Go.Gh

/- Expressions as arguments of statements. -/
namespace Go.Gh
set_option linter.unusedSimpArgs false
set_option linter.unusedVariables false
end Go.Gh

/- Values and operators, as plain functions. -/
namespace Go.Gh
set_option linter.unusedSimpArgs false
set_option linter.unusedVariables false
theorem wrapU (n : Int) (h : 0 ≤ n) (h2 : n ≤ 18446744073709551615) : IntKind.u64.wrap n = n := by
  simp only [IntKind.wrap, IntKind.bits, IntKind.signed]
  simp; omega
def satV (n : Int) : Int := max (-1000000) (min 1000000 n)
def trV (b : Bool) : Int := if b then 1 else 0
def coV (v k : Int) : Int := if k = 1 then satV v else if k = 2 then andI .i64 v 4095 else if k = 3 then trV (!decide (v = 0)) else if k = 4 ∧ 0 ≤ v ∧ v ≤ 999 then v else 0
def okV (v k : Int) : Bool := decide (1 ≤ k ∧ k ≤ 4) && decide (coV v k = v)
end Go.Gh

/- Counts of an expression. -/
namespace Go.Gh
set_option linter.unusedSimpArgs false
set_option linter.unusedVariables false
mutual
def cntE : Exp → Nat
  | .mk _ _ _ _ _ _ a => 1 + cntEL a
def cntEL : List Exp → Nat
  | [] => 0
  | e :: l => cntE e + cntEL l
end
theorem cntEL_eq (l : List Exp) : cntEL l = (l.map cntE).sum := by
  induction l with
  | nil => rfl
  | cons e l ih => simp [cntEL, ih]
theorem cntE_eq (e : Exp) : cntE e = 1 + (e.args.map cntE).sum := by
  cases e; simp only [cntE, cntEL_eq]; rfl
theorem cntE_le : ∀ e, cntE e ≤ wEx e + 1 := by
  refine Exp.indA fun e ih => ?_
  rw [cntE_eq, wEx_eq]
  have : ∀ l : List Exp, (∀ a ∈ l, cntE a ≤ wEx a + 1) → (l.map cntE).sum ≤ l.length + (l.map wEx).sum := by
    intro l
    induction l with
    | nil => intro _; simp
    | cons a l ih =>
      intro h
      have h1 := h a (by simp)
      have h2 := ih fun b hb => h b (by simp [hb])
      simp only [List.map_cons, List.sum_cons, List.length_cons]; omega
  have := this e.args ih
  simp only [wtS]; omega
theorem sumT (f : Exp → Nat) (l : List Exp) (i : Nat) (h : i < l.length) : ((l.take (i + 1)).map f).sum = ((l.take i).map f).sum + f l[i] := psum_succ f l i h
theorem sumT_le (f : Exp → Nat) (l : List Exp) (i : Nat) : ((l.take i).map f).sum ≤ (l.map f).sum := psum_le f l i
def mxL : List Nat → Nat
  | [] => 0
  | a :: l => max a (mxL l)
theorem mxL_app (l m : List Nat) : mxL (l ++ m) = max (mxL l) (mxL m) := by
  induction l with
  | nil => simp [mxL]
  | cons a l ih => simp only [List.cons_append, mxL, ih]; omega
theorem mxL_le (l : List Nat) : mxL l ≤ l.sum := by
  induction l with
  | nil => simp [mxL]
  | cons a l ih => simp only [mxL, List.sum_cons]; omega
mutual
def dpE : Exp → Nat
  | .mk _ _ _ _ _ _ a => 1 + dpEL a
def dpEL : List Exp → Nat
  | [] => 0
  | e :: l => max (dpE e) (dpEL l)
end
theorem dpEL_eq (l : List Exp) : dpEL l = mxL (l.map dpE) := by
  induction l with
  | nil => rfl
  | cons e l ih => simp [dpEL, mxL, ih]
theorem dpE_eq (e : Exp) : dpE e = 1 + mxL (e.args.map dpE) := by
  cases e; simp only [dpE, dpEL_eq]; rfl
theorem sumL_le {l : List Exp} {f g : Exp → Nat} (h : ∀ a ∈ l, f a ≤ g a) : (l.map f).sum ≤ (l.map g).sum := by
  induction l with
  | nil => simp
  | cons a l ih =>
    have h1 := h a (by simp)
    have h2 := ih fun b hb => h b (by simp [hb])
    simp only [List.map_cons, List.sum_cons]; omega
theorem dpE_le : ∀ e, dpE e ≤ cntE e := by
  refine Exp.indA fun e ih => ?_
  rw [cntE_eq, dpE_eq]
  have h1 := mxL_le (e.args.map dpE)
  have h2 := sumL_le ih
  omega
theorem mxT (f : Exp → Nat) (l : List Exp) (i : Nat) (h : i < l.length) : mxL ((l.take (i + 1)).map f) = max (mxL ((l.take i).map f)) (f l[i]) := by
  rw [List.take_succ_eq_append_getElem h, List.map_append, mxL_app]; simp [mxL]
theorem mxT_le (f : Exp → Nat) (l : List Exp) (i : Nat) : mxL ((l.take i).map f) ≤ (l.map f).sum :=
  Nat.le_trans (mxL_le _) (sumT_le f l i)
end Go.Gh

/- Predicates on all nodes of an expression. -/
namespace Go.Gh
set_option linter.unusedSimpArgs false
set_option linter.unusedVariables false
mutual
def allE (p : Exp → Bool) : Exp → Bool
  | .mk k n q t s m a => p (.mk k n q t s m a) && allEL p a
def allEL (p : Exp → Bool) : List Exp → Bool
  | [] => true
  | e :: l => allE p e && allEL p l
end
theorem allEL_eq (p : Exp → Bool) (l : List Exp) : allEL p l = l.all (allE p) := by
  induction l with
  | nil => rfl
  | cons e l ih => simp [allEL, ih]
theorem allE_eq (p : Exp → Bool) (e : Exp) : allE p e = (p e && e.args.all (allE p)) := by
  cases e; simp only [allE, allEL_eq]; rfl
theorem any_ix {α : Type} (p : α → Bool) (l : List α) : decide (0 ≤ ixOf p l) = l.any p := by
  unfold ixOf
  cases h : l.findIdx? p with
  | none =>
    have := List.findIdx?_eq_none_iff.1 h
    simp; exact this
  | some i =>
    obtain ⟨h1, h2, _⟩ := List.findIdx?_eq_some_iff_getElem.1 h
    simp
    exact ⟨l[i], List.getElem_mem h1, h2⟩
theorem any_not {α : Type} (p : α → Bool) (l : List α) : (!l.any fun a => !p a) = l.all p := by
  induction l with
  | nil => rfl
  | cons a l ih => simp only [List.any_cons, List.all_cons, Bool.not_or, Bool.not_not, ih]
theorem all_take {p : Exp → Bool} {l : List Exp} {i : Nat} (h : i < l.length) (hp : p l[i] = true) (hn : ∀ a ∈ l.take i, p a = true) : ∀ a ∈ l.take (i + 1), p a = true := by
  intro a ha
  rw [List.take_add_one, List.getElem?_eq_getElem h, Option.toList_some, List.mem_append] at ha
  rcases ha with ha | ha
  · exact hn a ha
  · simp only [List.mem_singleton] at ha; rw [ha]; exact hp
end Go.Gh

/- Names. -/
namespace Go.Gh
set_option linter.unusedSimpArgs false
set_option linter.unusedVariables false
def letV (c : UInt8) : Bool := decide (97 ≤ (c.toNat : Int)) && decide ((c.toNat : Int) ≤ 122)
def digV (c : UInt8) : Bool := decide (48 ≤ (c.toNat : Int)) && decide ((c.toNat : Int) ≤ 57)
def kwS : List ByteArray := [⟨#[105, 102]⟩, ⟨#[116, 104, 101, 110]⟩, ⟨#[101, 108, 115, 101]⟩, ⟨#[116, 114, 117, 101]⟩, ⟨#[102, 97, 108, 115, 101]⟩, ⟨#[108, 105, 116]⟩, ⟨#[110, 111, 110, 101]⟩,
  ⟨#[115, 101, 108, 102]⟩, ⟨#[111, 102]⟩, ⟨#[109, 97, 120]⟩, ⟨#[109, 105, 110]⟩, ⟨#[119, 105, 116, 104]⟩, ⟨#[104, 97, 115]⟩]
def hasS (l : List ByteArray) (s : ByteArray) : Bool := l.any fun x => decide (x = s)
theorem hasS_hit {l : List ByteArray} {s : ByteArray} {i : Nat} (h : i < l.length) (e : l[i] = s) : hasS l s = true := by
  simp only [hasS, List.any_eq_true]; exact ⟨l[i], List.getElem_mem h, by simp [e]⟩
theorem hasS_none {l : List ByteArray} {s : ByteArray} (h : ∀ x ∈ l, decide (x = s) = false) : hasS l s = false := by
  simp only [hasS, List.any_eq_false]; intro x hx; simpa using h x hx
def resV (s : ByteArray) : Bool := hasS kwS s
def shp : List UInt8 → Bool
  | [] => false
  | c :: l => letV c && l.all fun c => letV c || digV c
theorem shp_iff (l : List UInt8) : shp l = true ↔ 0 < l.length ∧ ∀ (j : Nat) (h : j < l.length), letV l[j] = true ∨ (j ≠ 0 ∧ digV l[j] = true) := by
  cases l with
  | nil => simp [shp]
  | cons c l =>
    simp only [shp, Bool.and_eq_true, List.all_eq_true, Bool.or_eq_true, List.length_cons]
    constructor
    · rintro ⟨h1, h2⟩
      refine ⟨by omega, fun j hj => ?_⟩
      cases j with
      | zero => exact .inl h1
      | succ j =>
        have := h2 l[j] (List.getElem_mem _)
        simp only [List.getElem_cons_succ]
        rcases this with h | h
        · exact .inl h
        · exact .inr ⟨by omega, h⟩
    · rintro ⟨_, h⟩
      constructor
      · have := h 0 (by omega)
        simpa using this
      · intro x hx
        obtain ⟨j, hj, rfl⟩ := List.mem_iff_getElem.1 hx
        have := h (j + 1) (by omega)
        simp only [List.getElem_cons_succ] at this
        rcases this with h | h
        · exact .inl h
        · exact .inr h.2
def nameV (s : ByteArray) : Bool := shp (chars s) && decide ((chars s).length ≤ 8) && !resV s
end Go.Gh

/- Names: steps. -/
namespace Go.Gh
set_option linter.unusedSimpArgs false
set_option linter.unusedVariables false
theorem shp_bad {l : List UInt8} {i : Nat} (h : i < l.length) (h1 : ¬(letV l[i] = true ∨ (i ≠ 0 ∧ digV l[i] = true))) : shp l = false := by
  cases hs : shp l with
  | false => rfl
  | true => exact absurd (((shp_iff l).1 hs).2 i h) h1
theorem shp_step {l : List UInt8} {i : Nat} (h : i < l.length) (hn : ∀ (j : Nat) (h : j < l.length), j < i → letV l[j] = true ∨ (j ≠ 0 ∧ digV l[j] = true)) (hg : letV l[i] = true ∨ (i ≠ 0 ∧ digV l[i] = true)) :
    ∀ (j : Nat) (h : j < l.length), j < i + 1 → letV l[j] = true ∨ (j ≠ 0 ∧ digV l[j] = true) := by
  intro j hj hji
  by_cases e : j = i
  · subst e; exact hg
  · exact hn j hj (by omega)
theorem shp_end {l : List UInt8} (hn : ∀ (j : Nat) (h : j < l.length), j < l.length → letV l[j] = true ∨ (j ≠ 0 ∧ digV l[j] = true)) : shp l = decide (0 < l.length) := by
  by_cases h : 0 < l.length
  · rw [decide_eq_true h]; exact (shp_iff l).2 ⟨h, fun j hj => hn j hj hj⟩
  · rw [decide_eq_false h]
    cases l with
    | nil => rfl
    | cons a l => simp at h
end Go.Gh

/- Valid nodes. -/
namespace Go.Gh
set_option linter.unusedSimpArgs false
set_option linter.unusedVariables false
def arity (k : Int) : Nat := if k = 4 then 2 else if k = 5 then 3 else if k = 8 then 1 else 0
def noS : ByteArray := ⟨#[]⟩
def bareV (e : Exp) : Bool :=
  decide (e.args.length = arity e.kind) && (decide (e.kind = 3 ∨ e.kind = 6) || decide (e.pos = 0)) && (decide (e.kind = 3 ∨ e.kind = 8) || decide (e.name = noS)) && (decide (e.kind = 1 ∨ e.kind = 4) || decide (e.n = 0)) &&
  (decide (e.kind = 1) || decide (e.type = 0)) && (decide (e.kind = 8) || decide (e.sym = noS))
end Go.Gh

/- Symbols, rules and grammars as plain data, and their ghosts. -/
namespace Go.Gh
set_option linter.unusedSimpArgs false
set_option linter.unusedVariables false
theorem nraw_Ex (e : Exp) : nraw (Ex e) = true := by rw [Ex_eq]; rfl
theorem clean_Ex (e : Exp) : clean (Ex e) = true := by rw [Ex_eq]; rfl
theorem sub_Ex0 (e : Exp) : sub (Ex e) 0 1 false = some (I e.kind) := by rw [Ex_eq]; rfl
theorem sub_Ex1 (e : Exp) : sub (Ex e) 1 1 false = some (I e.n) := by rw [Ex_eq]; rfl
theorem sub_Ex2 (e : Exp) : sub (Ex e) 2 1 false = some (I e.pos) := by rw [Ex_eq]; rfl
theorem sub_Ex3 (e : Exp) : sub (Ex e) 3 1 false = some (I e.type) := by rw [Ex_eq]; rfl
theorem sub_Ex4 (e : Exp) : sub (Ex e) 4 1 false = some (T e.sym) := by rw [Ex_eq]; rfl
theorem sub_Ex5 (e : Exp) : sub (Ex e) 5 1 false = some (T e.name) := by rw [Ex_eq]; rfl
theorem sub_Ex6 (e : Exp) : sub (Ex e) 6 1 false = some (ExS e.args) := by rw [Ex_eq]; rfl
theorem fold_Ex (e : Exp) : GV.agg [I e.kind, I e.n, I e.pos, I e.type, T e.sym, T e.name, .sl 7 (e.args.map Ex)] = Ex e := (Ex_eq e).symm
abbrev ExC (e : Exp) : List GV := [I e.kind, I e.n, I e.pos, I e.type, T e.sym, T e.name, ExS e.args]
theorem upd_Ex (gs : List GV) (o : Nat) (e : Exp) : upd (.agg gs) o (Ex e) = if o + 7 ≤ gs.length then some (.agg (gs.take o ++ (ExC e ++ gs.drop (o + 7)))) else none := by rw [Ex_eq]; rfl
theorem upd_ExO (e : Exp) (o r sz k n : Nat) : upd (Ex e) o (.own r sz k n) = if o < 7 then some (.agg ((ExC e).set o (.own r sz k n))) else none := by rw [Ex_eq]; rfl
theorem XE : type_of% (And.intro @isAgg_Ex (And.intro @geR_Ex (And.intro @gsize_Ex (And.intro @stor_Ex (And.intro @nraw_Ex (And.intro @clean_Ex (And.intro @sub_Ex0 (And.intro @sub_Ex1 (And.intro @sub_Ex2 (And.intro @sub_Ex3 (And.intro @sub_Ex4 (And.intro @sub_Ex5 (And.intro @sub_Ex6 (And.intro @fold_Ex (And.intro @upd_ExO @upd_Ex))))))))))))))) :=
  And.intro @isAgg_Ex (And.intro @geR_Ex (And.intro @gsize_Ex (And.intro @stor_Ex (And.intro @nraw_Ex (And.intro @clean_Ex (And.intro @sub_Ex0 (And.intro @sub_Ex1 (And.intro @sub_Ex2 (And.intro @sub_Ex3 (And.intro @sub_Ex4 (And.intro @sub_Ex5 (And.intro @sub_Ex6 (And.intro @fold_Ex (And.intro @upd_ExO @upd_Ex))))))))))))))
@[ext] structure Att where
  name : ByteArray
  type : Int
  mode : Int
  circ : Bool
deriving DecidableEq
@[ext] structure Sym where
  name : ByteArray
  atts : List Att
deriving DecidableEq
@[ext] structure Eqn where
  pos : Int
  name : ByteArray
  expr : Exp
deriving DecidableEq
@[ext] structure Con where
  sym : ByteArray
  name : ByteArray
  goal : Exp
  value : Exp
deriving DecidableEq
@[ext] structure Rul where
  name : ByteArray
  left : ByteArray
  right : List ByteArray
  lit : Bool
  eqs : List Eqn
  cons : List Con
deriving DecidableEq
@[ext] structure Gram where
  syms : List Sym
  rules : List Rul
deriving DecidableEq
theorem getD_lt {α : Type} {l : List α} {i : Nat} {d : α} (h : i < l.length) : l.getD i d = l[i] := by
  rw [List.getD_eq_getElem?_getD, List.getElem?_eq_getElem h]; rfl
end Go.Gh

/- Instances of a tree. -/
namespace Go.Gh
set_option linter.unusedSimpArgs false
set_option linter.unusedVariables false
end Go.Gh

/- Grammars as arguments of statements. -/
namespace Go.Gh
set_option linter.unusedSimpArgs false
set_option linter.unusedVariables false
theorem t_T {g : GV} (h : ET false [.str] g) : ∃ s : ByteArray, g = T s ∧ s.size ≤ maxLen := by
  obtain ⟨s, rfl, hs⟩ := t_one h
  exact ⟨s, rfl, hs⟩
end Go.Gh

/- Trees of a grammar; types of expressions. -/
namespace Go.Gh
set_option linter.unusedSimpArgs false
set_option linter.unusedVariables false
end Go.Gh
namespace Go.Gh
end Go.Gh
namespace Go.Gh
end Go.Gh
namespace Go.Gh
theorem Bor.of_eq {H : GH} {g g' : GV} (h : g = g') : Bor H g g' := h ▸ Bor.refl
end Go.Gh

/- Valid expressions, and their values. -/
namespace Go.Gh
set_option linter.unusedSimpArgs false
set_option linter.unusedVariables false
def nodeV (e : Exp) : Bool :=
  decide (1 ≤ e.kind ∧ e.kind ≤ 8) && bareV e &&
  (if e.kind = 1 then decide (1 ≤ e.type ∧ e.type ≤ 3) && okV e.n e.type && decide (0 ≤ e.n) else
   if e.kind = 3 then decide (0 ≤ e.pos ∧ e.pos ≤ 3) && nameV e.name else
   if e.kind = 6 then decide (0 ≤ e.pos ∧ e.pos ≤ 3) else
   if e.kind = 4 then decide (1 ≤ e.n ∧ e.n ≤ 12) else
   if e.kind = 8 then nameV e.sym && nameV e.name else true)
def validE (e : Exp) : Bool := decide (cntE e ≤ 24) && decide (dpE e ≤ 6) && allE nodeV e
theorem shp_iff' (l : List UInt8) : shp l = true ↔ 0 < l.length ∧ (∀ h : 0 < l.length, letV l[0] = true) ∧ ∀ (j : Nat) (h : j < l.length), letV l[j] = true ∨ digV l[j] = true := by
  rw [shp_iff]
  constructor
  · rintro ⟨h1, h2⟩
    refine ⟨h1, fun h => ?_, fun j hj => ?_⟩
    · rcases h2 0 h with h3 | h3
      · exact h3
      · exact absurd rfl h3.1
    · rcases h2 j hj with h3 | h3
      · exact .inl h3
      · exact .inr h3.2
  · rintro ⟨h1, h2, h3⟩
    refine ⟨h1, fun j hj => ?_⟩
    by_cases h0 : j = 0
    · subst h0; exact .inl (h2 hj)
    · rcases h3 j hj with h4 | h4
      · exact .inl h4
      · exact .inr ⟨h0, h4⟩
theorem shp_no {l : List UInt8} {i : Nat} (h : i < l.length) (h1 : letV l[i] = false) (h2 : digV l[i] = false) : shp l = false := by
  cases hs : shp l with
  | false => rfl
  | true =>
    rcases ((shp_iff' l).1 hs).2.2 i h with h3 | h3
    · rw [h1] at h3; cases h3
    · rw [h2] at h3; cases h3
theorem shp_no0 {l : List UInt8} (h : 0 < l.length) (h1 : letV l[0] = false) : shp l = false := by
  cases hs : shp l with
  | false => rfl
  | true =>
    have := ((shp_iff' l).1 hs).2.1 h
    rw [h1] at this; cases this
theorem shp_yes {l : List UInt8} (h : 0 < l.length) (h1 : letV l[0] = true) (hn : ∀ (j : Nat) (h : j < l.length), letV l[j] = true ∨ digV l[j] = true) : shp l = true := (shp_iff' l).2 ⟨h, fun _ => h1, hn⟩
end Go.Gh
namespace Go.Gh
theorem Bor.clo {H : GH} {f : Nat} {gs gs' : List GV} (h : BorL H gs gs') : Bor H (.clo f gs) (.clo f gs') := fun w D Ω v hst hm => by
  simp only [MV] at hm ⊢
  obtain ⟨h0, vs, h1, h2⟩ := hm
  exact ⟨h0, vs, h1, h w D Ω vs hst h2⟩
theorem Bor.rop {H : GH} {sz : Nat} {g g' : GV} (h : Bor H g g') : Bor H (.rop sz g) (.rop sz g') := fun w D Ω v hst hm => by
  simp only [MV] at hm ⊢
  obtain ⟨h0, b, off, u, h1, h2, h3, h4, h5, h6⟩ := hm
  exact ⟨h0, b, off, u, h1, .inl h2, h3, h4, h5, h w D Ω u hst h6⟩
theorem nameV_parts (s : ByteArray) : nameV s = (shp (chars s) && decide ((chars s).length ≤ 8) && !resV s) := rfl
end Go.Gh
namespace Go.Gh
theorem okV_rng {n t : Int} (h : okV n t = true) : 1 ≤ t ∧ t ≤ 4 := by
  simp only [okV, Bool.and_eq_true, decide_eq_true_eq] at h; exact h.1
theorem allE_no {p : Exp → Bool} {e : Exp} {i : Nat} (h : i < e.args.length) (hb : allE p e.args[i] = false) : allE p e = false := by
  rw [allE_eq]
  have : e.args.all (allE p) = false := by
    rw [List.all_eq_false]
    exact ⟨e.args[i], List.getElem_mem h, by simp [hb]⟩
  rw [this, Bool.and_false]
theorem allE_yes {p : Exp → Bool} {e : Exp} (h : ∀ a ∈ e.args, allE p a = true) : allE p e = p e := by
  rw [allE_eq, List.all_eq_true.2 h, Bool.and_true]
end Go.Gh
namespace Go.Gh
end Go.Gh
namespace Go.Gh
theorem noS_eq : (ByteArray.mk #[]) = noS := rfl
end Go.Gh
namespace Go.Gh
end Go.Gh

/- Grammars of one's own. -/
namespace Go.Gh
set_option linter.unusedSimpArgs false
set_option linter.unusedVariables false
set_option maxRecDepth 20000
mutual
def ExO : Exp → GV
  | .mk k n p t s m a => .agg [I k, I n, I p, I t, T s, T m, .osl 7 (ExOL a)]
def ExOL : List Exp → List GV
  | [] => []
  | e :: l => ExO e :: ExOL l
end
theorem ExOL_eq (l : List Exp) : ExOL l = l.map ExO := by
  induction l with
  | nil => rfl
  | cons e l ih => simp [ExOL, ih]
theorem ExO_eq (e : Exp) : ExO e = .agg [I e.kind, I e.n, I e.pos, I e.type, T e.sym, T e.name, .osl 7 (e.args.map ExO)] := by
  cases e; simp only [ExO, ExOL_eq]; rfl
theorem view_ExO : ∀ e : Exp, view (ExO e) = Ex e := by
  refine Exp.indA fun e ih => ?_
  rw [ExO_eq, Ex_eq]
  have : (e.args.map ExO).map view = e.args.map Ex := by
    rw [List.map_map]; exact List.map_congr_left fun a ha => ih a ha
  simp [view, viewL, viewL_eq, this]
theorem Bor.seen {α : Type} {f g : α → GV} {H : GH} {r sz n : Nat} {l : List α} (hv : ∀ a, view (f a) = g a) (hr : hget H r = some (sz, l.map f)) (hl : l.length = n) : Bor H (.own r sz 0 n) (.sl sz (l.map g)) := by
  have := Bor.own (k := 0) (n := n) hr (by simp [hl])
  rw [List.drop_zero, List.take_of_length_le (by simp [hl]), viewL_eq, List.map_map] at this
  have e : l.map (view ∘ f) = l.map g := List.map_congr_left fun a _ => hv a
  rwa [e] at this
section
variable {P : Program} {α : Type} {f : α → GV} {k kx sz : Nat} {ag : Bool}
end
theorem FR.perm {g : GV} {H L T : GH} (hs : subH H L) : FR g (H ++ T) g (L ++ T) := by
  intro w D Ω v hv hst
  obtain ⟨Ω', h1, h2⟩ := St.sub hst hs
  exact ⟨D, Ω', hv, h1, ⟨fun _ h => h, fun _ _ h => .inl h, fun b hb _ => h2 b hb, Kept.refl _ _, rfl, rfl, rfl⟩⟩
end Go.Gh

/- Trees cut out of trees. -/
namespace Go.Gh
end Go.Gh

/- What the laws' marks are: lists marked one element after the other; expressions; instances; grammars. -/
namespace Go.Gh
set_option linter.unusedSimpArgs false
set_option linter.unusedVariables false
section
variable {α : Type} (w : α → Nat) (m : α → Int → α)
def smw : List α → Nat
  | [] => 0
  | a :: l => w a + smw l
def smk : List α → Int → List α
  | [], _ => []
  | a :: l, k => m a k :: smk l (k + w a)
theorem smk_len : ∀ (l : List α) (k : Int), (smk w m l k).length = l.length
  | [], _ => rfl
  | a :: l, k => by simp [smk, smk_len l]
theorem smw_app : ∀ (l u : List α), smw w (l ++ u) = smw w l + smw w u
  | [], u => by simp [smw]
  | a :: l, u => by simp [smw, smw_app l u]; omega
theorem smk_snoc : ∀ (l : List α) (k : Int) (x : α), smk w m (l ++ [x]) k = smk w m l k ++ [m x (k + smw w l)]
  | [], k, x => by simp [smk, smw]
  | a :: l, k, x => by
    have := smk_snoc l (k + w a) x
    have e : k + (w a : Int) + (smw w l : Int) = k + ((w a + smw w l : Nat) : Int) := by omega
    simp [smk, smw, this, e]
theorem smw_step {l : List α} {i : Nat} (h : i < l.length) : smw w (l.take (i + 1)) = smw w (l.take i) + w l[i] := by
  rw [List.take_add_one, List.getElem?_eq_getElem h, smw_app]; simp [smw]
theorem smw_take (l : List α) (i : Nat) : smw w (l.take i) ≤ smw w l := by
  have := smw_app w (l.take i) (l.drop i)
  rw [List.take_append_drop] at this
  omega
theorem smk_step {l : List α} {i : Nat} {k : Int} (h : i < l.length) : smk w m (l.take (i + 1)) k = smk w m (l.take i) k ++ [m l[i] (k + smw w (l.take i))] := by
  rw [List.take_add_one, List.getElem?_eq_getElem h]; exact smk_snoc w m _ _ _
theorem smk_get : ∀ {l : List α} {k : Int} {i : Nat} (h : i < l.length), (smk w m l k)[i]? = some (m l[i] (k + smw w (l.take i)))
  | a :: l, k, 0, h => by simp [smk, smw]
  | a :: l, k, i + 1, h => by
    have := smk_get (l := l) (k := k + w a) (i := i) (by simpa using h)
    have e : k + (w a : Int) + (smw w (l.take i) : Int) = k + ((w a + smw w (l.take i) : Nat) : Int) := by omega
    simp [smk, smw, this, e]
theorem smk_getE {l : List α} {k : Int} {i : Nat} (h : i < l.length) (h' : i < (smk w m l k).length := by simpa [smk_len] using h) : (smk w m l k)[i] = m l[i] (k + smw w (l.take i)) := by
  have := smk_get w m (k := k) h
  rw [List.getElem?_eq_getElem h'] at this
  simpa using this
theorem smid_get {l : List α} {k : Int} {i : Nat} (h : i < l.length) (h' : i < (smk w m (l.take i) k ++ l.drop i).length) : (smk w m (l.take i) k ++ l.drop i)[i] = l[i] := by
  rw [List.getElem_append_right (by simp [smk_len]; omega)]
  have e : i + (i - (smk w m (l.take i) k).length) = i := by simp [smk_len]; omega
  simp only [List.getElem_drop, e]
theorem smid_set {l : List α} {k : Int} {i : Nat} (h : i < l.length) : (smk w m (l.take i) k ++ l.drop i).set i (m l[i] (k + smw w (l.take i))) = smk w m (l.take (i + 1)) k ++ l.drop (i + 1) := by
  rw [List.set_append_right _ _ (by simp [smk_len]; omega), smk_step w m h]
  have e : i - (smk w m (l.take i) k).length = 0 := by simp [smk_len]; omega
  rw [e, List.drop_eq_getElem_cons h, List.set_cons_zero, List.append_assoc]
  rfl
theorem smid_len {l : List α} {k : Int} {i : Nat} : (smk w m (l.take i) k ++ l.drop i).length = l.length := by
  simp [smk_len]; omega
theorem smw_len (hw : ∀ a, 1 ≤ w a) : ∀ l : List α, l.length ≤ smw w l
  | [] => by simp
  | a :: l => by have := hw a; have := smw_len hw l; simp only [smw, List.length_cons]; omega
theorem smw_sum {f : α → Nat} (c : Nat) : ∀ {l : List α}, (∀ a ∈ l, w a ≤ c * (1 + f a)) → smw w l ≤ c * wtS f l
  | [], _ => by simp [smw]
  | a :: l, h => by
    have h1 := h a (by simp)
    have h2 := smw_sum (f := f) (l := l) c (fun b hb => h b (by simp [hb]))
    simp only [wtS, List.length_cons, List.map_cons, List.sum_cons, smw] at h2 ⊢
    have e : c * (l.length + 1 + (f a + (l.map f).sum)) = c * (1 + f a) + c * (l.length + (l.map f).sum) := by
      rw [← Nat.mul_add]; congr 1; omega
    omega
end
section
variable {α : Type} {f : α → α}
end
mutual
def ctE : Exp → Nat
  | .mk _ _ _ _ _ _ a => 6 + ctEL a
def ctEL : List Exp → Nat
  | [] => 0
  | e :: l => ctE e + ctEL l
end
theorem ctEL_eq (l : List Exp) : ctEL l = smw ctE l := by
  induction l with
  | nil => rfl
  | cons e l ih => simp [ctEL, smw, ih]
theorem ctE_eq (e : Exp) : ctE e = 6 + smw ctE e.args := by
  cases e; simp only [ctE, ctEL_eq]; rfl
mutual
def mkE : Exp → Int → Exp
  | .mk _ _ _ _ _ _ a, k => .mk k (k + 1) (k + 1 + 1) (k + 1 + 1 + 1) (mtext (k + 1 + 1 + 1 + 1)) (mtext (k + 1 + 1 + 1 + 1 + 1)) (mkEL a (k + 1 + 1 + 1 + 1 + 1 + 1))
def mkEL : List Exp → Int → List Exp
  | [], _ => []
  | e :: l, k => mkE e k :: mkEL l (k + ctE e)
end
theorem mkEL_eq : ∀ (l : List Exp) (k : Int), mkEL l k = smk ctE mkE l k
  | [], _ => rfl
  | e :: l, k => by simp [mkEL, smk, mkEL_eq l]
theorem mkE_eq (e : Exp) (k : Int) : mkE e k = .mk k (k + 1) (k + 1 + 1) (k + 1 + 1 + 1) (mtext (k + 1 + 1 + 1 + 1)) (mtext (k + 1 + 1 + 1 + 1 + 1)) (smk ctE mkE e.args (k + 1 + 1 + 1 + 1 + 1 + 1)) := by
  cases e; simp only [mkE, mkEL_eq]; rfl
theorem ctE_le : ∀ e : Exp, ctE e ≤ 6 * (1 + wEx e) := by
  refine Exp.indA fun e ih => ?_
  have h := smw_sum ctE (f := wEx) 6 ih
  rw [ctE_eq, wEx_eq]
  omega
end Go.Gh

/- A subtree of a tree replaced. -/
namespace Go.Gh
set_option linter.unusedSimpArgs false
set_option linter.unusedVariables false
theorem neN (r : Nat) (x : Nat × List GV) (H : GH) : (names ((r, x) :: H)).Nodup = (neA r H ∧ (names H).Nodup) := by
  apply propext
  constructor
  · intro h
    have h2 := h
    simp only [names, List.map_cons, List.nodup_cons] at h2
    exact ⟨neA_of h2.1, h2.2⟩
  · rintro ⟨h1, h2⟩
    simp only [names, List.map_cons, List.nodup_cons]
    refine ⟨?_, h2⟩
    clear h2
    induction H with
    | nil => simp
    | cons y H ih =>
      obtain ⟨q, y⟩ := y
      simp only [neA_cons] at h1
      simp only [List.map_cons, List.mem_cons, not_or]
      exact ⟨h1.1, ih h1.2.2⟩
theorem Bor.ptr {H : GH} {r sz : Nat} {g : GV} (hr : hget H r = some (sz, [g])) : Bor H (.ptr r sz 0 0) (.rop sz (view g)) := fun w D Ω v h hv => by
  obtain ⟨F, hF, hFΩ⟩ := h.hm.mem hr
  simp only [MV] at hv ⊢
  obtain ⟨_, b, rfl, hb, rfl⟩ := hv
  rcases hF with ⟨b', c, T, fz, F', k1, k2, k3, k4, k5, k6, k7⟩ | ⟨k1, _, _⟩
  · have : b' = b := by omega
    subst this
    simp only [MF] at k7
    obtain ⟨u, cs', F1, F2, e1, e2, e3, rfl, e5, rfl, rfl⟩ := k7
    refine ⟨trivial, b', 0, u, by simp, .inr (hFΩ _ (by simp [k6])), ⟨c, T, fz, k2, fun j x hj => ?_⟩, e3, e2, MV.view (fun _ => .inl) g u F1 (fun x hx => .inr (hFΩ x (by simp [k6, hx]))) e5⟩
    have e1' : c.toList.take (1 * sz) = u.cells.toList := by simpa using e1
    have h2 : (c.toList.take (1 * sz))[j]? = some x := by rw [e1']; exact hj
    rw [List.getElem?_take] at h2
    split at h2
    · simpa using h2
    · cases h2
  · omega
end Go.Gh

/- Instances of a tree: all of them. -/
namespace Go.Gh
set_option linter.unusedSimpArgs false
set_option linter.unusedVariables false
end Go.Gh

/- Definitions of instances. -/
namespace Go.Gh
set_option linter.unusedSimpArgs false
set_option linter.unusedVariables false
theorem mkX (k n p t : Int) (s m : ByteArray) (a : List Exp) : Ex (.mk k n p t s m a) = .agg [I k, I n, I p, I t, T s, T m, ExS a] := Ex_eq _
end Go.Gh

/- The attributes that an expression uses. -/
namespace Go.Gh
set_option linter.unusedSimpArgs false
set_option linter.unusedVariables false
end Go.Gh

/- Calls that need tables: package-level variables that nobody writes. -/
namespace Go.Gh
open Go.ChangeShapes Go.WideShapes Go.ChangeAt Go.RowKit
set_option linter.unusedSimpArgs false
set_option linter.unusedVariables false
def tabH (T : GH) : Prop := (names T).Nodup ∧ ∀ x ∈ T, x.1 % 4 = 3 ∧ 1000000 ≤ x.2.1 ∧ x.2.2 = []
def PureT (P : Program) (T : GH) (f : FuncId) (gs : List GV) (R : GV → Prop) : Prop := GCalls P f gs T (fun g _ => R g)
theorem hget_mem : ∀ {H : GH} {x : Nat × Nat × List GV}, (names H).Nodup → x ∈ H → hget H x.1 = some x.2
  | [], _, _, h => by cases h
  | (r, y) :: H, x, hn, h => by
    simp only [names, List.map_cons, List.nodup_cons] at hn
    simp only [hget]
    rcases List.mem_cons.1 h with rfl | h
    · simp
    · have : r ≠ x.1 := fun e => hn.1 (by rw [e]; exact List.mem_map_of_mem h)
      rw [if_neg this]
      exact hget_mem hn.2 h
theorem HM.tabs {w : World} {D : Nat → Prop} {H : GH} {Ω : List Nat} (h : HM w D H Ω) (hn : (names H).Nodup) : ∀ {T : GH}, (∀ x ∈ T, x.1 % 4 = 3 ∧ 1000000 ≤ x.2.1 ∧ x.2.2 = []) → (∀ x ∈ T, x ∈ H) → HM w D T []
  | [], _, _ => rfl
  | (r, sz, es) :: T, hT, hs => by
    obtain ⟨F, hF, _⟩ := h.mem (hget_mem hn (hs _ (List.mem_cons_self ..)))
    have ht := hT _ (List.mem_cons_self ..)
    refine ⟨[], [], rfl, ?_, HM.tabs h hn (fun x hx => hT x (List.mem_cons_of_mem _ hx)) (fun x hx => hs x (List.mem_cons_of_mem _ hx))⟩
    rcases hF with ⟨b, c, T, fz, F', k1, _⟩ | hF
    · have := ht.1
      dsimp only at this k1
      omega
    · exact .inr ⟨hF.1, ht.2.2, rfl⟩
theorem PureT.frame {P : Program} {T : GH} {f : FuncId} {gs : List GV} {R : GV → Prop} (h : PureT P T f gs R) (hT : tabH T) {H : GH} (hs : ∀ x ∈ T, x ∈ H) : GCalls P f gs H (fun g H' => R g ∧ H' = H) := by
  intro w D Ω args hst hargs
  have hs0 : St w D T [] := ⟨HM.tabs hst.hm hst.nn hT.2 hs, List.nodup_nil, hT.1, by simp, hst.ds⟩
  refine Yld.mono (fun v w' ⟨g, H', D', Ω', k1, k2, k3, k4⟩ => ?_) (h w D [] args hs0 hargs)
  have hk : Kept w w' (fun _ => True) := k4.kp.mono fun _ _ _ => by simp
  have hlt : ∀ b ∈ Ω, b < w.heap.size := HM.flt hst.hm
  refine ⟨g, H, D', Ω, ⟨k1, rfl⟩, k2, ⟨HM.keep hk (fun _ _ => trivial) k4.d0 (fun _ _ => trivial) hst.hm, hst.nd, hst.nn, fun b hb hD => ?_, k3.ds⟩,
    ⟨k4.d0, fun b hb hD => .inl ((k4.dn b hb hD).resolve_right (by simp)), fun _ h _ => h, hk.mono fun _ _ _ => trivial, k4.os, k4.tape, k4.output⟩⟩
  rcases k4.dn b (hlt b hb) hD with h1 | h1
  · exact hst.dj b hb h1
  · simp at h1
theorem PureT.bor {P : Program} {T : GH} {f : FuncId} {gs : List GV} {G : GV} (h : GCalls P f gs T (fun g H => Bor H g G)) : PureT P T f gs (· = G) :=
  h.fr fun _ _ hb => ⟨G, [], FR.all hb, rfl⟩
theorem PureT.of {P : Program} {T : GH} {f : FuncId} {gs : List GV} {R : GV → Prop} (h : Pure P f gs R) : PureT P T f gs R := (h.frame T).mono fun _ _ h => h.1
theorem callS.eqT {P : Program} {K : Env → GH → Prop} {is : List GI} {env : Env} {H T : GH} {d : Option Nat} {det : Bool} {f : FuncId} {gs : List GV} {G : GV} (h : PureT P T f gs (· = G)) (hT : tabH T) (hs : ∀ x ∈ T, x ∈ H) (hk : gsteps P is K (gput env d G) H) : callS P det f (some gs) d is K env H := by
  unfold callS
  cases det
  · exact ⟨fun g H' => g = G ∧ H' = H, h.frame hT hs, fun g H' ⟨e1, e2⟩ _ => by subst e1; subst e2; exact hk⟩
  · exact ⟨G, h.frame hT hs, hk⟩
theorem PureT.out {P : Program} {T : GH} {f : FuncId} {F : GFun} {gs : List GV} {R : GV → Prop} (h : PureT P T f gs R) (hF : IsFun P f F) {W : World} {args : List Value} (hargs : ML W (below W) gs args []) (hT : HM W (below W) T []) (hn : (names T).Nodup) :
    Calls P f args.toArray W fun e W' => ∃ v g D, e = .returned v ∧ R g ∧ MV W' D g v [] ∧ Below W.heap.size W W' := by
  have := h W (below W) [] args ⟨hT, List.nodup_nil, hn, by simp, fun _ h => h⟩ hargs
  rw [callFunc_run hF] at this
  refine Calls.mono this fun e W' ⟨v, h1, g, H', D', Ω', k1, k2, k3, k4⟩ => ⟨v, g, D', h1, k1, k2, ?_⟩
  exact ⟨k4.os, k4.tape, k4.output, k4.kp.size, fun k hk => k4.kp.block k hk (by simp)⟩
def tab10 (n : Nat) : GH := [(4 * n + 3, 1000000, [])]
theorem tabH_10 (n : Nat) : tabH (tab10 n) := ⟨by simp [tab10, names], fun x hx => by
  simp only [tab10, List.mem_singleton] at hx
  subst hx
  exact ⟨by dsimp only; omega, by dsimp only; omega, rfl⟩⟩
open Lib in
theorem HM.tab10 {P : Program} {W : World} {n : Nat} {s : String} (hg : P.globalNamed s = some n) (h : TabIs P W s .u64 pow10Tab) : HM W (below W) (tab10 n) [] := by
  simp only [TabIs, World.var?, hg, Option.bind_some] at h
  refine ⟨[], [], rfl, .inr ⟨⟨by omega, fun _ _ => ?_⟩, rfl, rfl⟩, rfl⟩
  have e : (4 * n + 3) / 4 = n := by omega
  unfold TB
  rw [e]
  split at h
  case h_2 => cases h
  rename_i c T fz hb
  simp only [Option.some.injEq] at h
  refine ⟨lt_of_heap hb, c, T, fz, hb, ?_⟩
  rw [h]
  simp only [tabP, if_true, pow10Tab, List.map_map]
  rfl
open Lib in
theorem HM.is10 {P : Program} {w : World} {D : Nat → Prop} {n : Nat} {s : String} {H : GH} {Ω : List Nat} (hg : P.globalNamed s = some n) (h : HM w D H Ω) (hn : (names H).Nodup) (hm : (4 * n + 3, 1000000, []) ∈ H) : TabIs P w s .u64 pow10Tab := by
  obtain ⟨F, hF, _⟩ := h.mem (hget_mem hn hm)
  have e : (4 * n + 3) / 4 = n := by omega
  rcases hF with ⟨b, c, T, fz, F', k1, _⟩ | hF
  · dsimp only at k1; omega
  · obtain ⟨_, c, T, fz, h1, h2⟩ := hF.1.2 (by dsimp only; omega) (Nat.le_refl _)
    dsimp only at h1
    rw [e] at h1
    simp only [TabIs, World.var?, hg, Option.bind_some, h1]
    simp only [tabP, if_true] at h2
    rw [h2]
    simp only [pow10Tab, List.map_map]
    rfl
open Lib Go.Sort in
theorem itoa_ok {P : Program} {f g : Nat} {s : String} (hg : P.globalNamed s = some g) {args : Int → Array Value} {n : Int} {gs : List GV} (hgs : ∀ w D vs, ML w D gs vs [] → vs.toArray = args n)
    (hc : ∀ w : World, TabIs P w s .u64 pow10Tab → Calls P f (args n) w fun e w' => e = .returned (.string ⟨(itoa n).toArray⟩) ∧ ∃ k os, w' = grow (w.drewN k) os)
    (eg : ∀ args w, (callFunc f args).run P w = .ok (.enter f args) w) : PureT P (tab10 g) f gs (· = .val (mkS (itoa n))) := by
  intro w D Ω vs hst hargs
  rw [eg, hgs _ _ _ hargs]
  show Calls P f _ w _
  refine (hc w (HM.is10 hg hst.hm hst.nn (by simp [tab10]))).mono ?_
  rintro e w' ⟨rfl, k, os, rfl⟩
  have hk : Kept w (grow (w.drewN k) os) (fun _ => True) := by
    refine ⟨fun b hb _ => ?_, ?_, fun b c T fz hx => ⟨c, fz, ?_, rfl⟩⟩
    · show (w.heap ++ os)[b]? = _
      rw [Array.getElem?_append_left hb]
    · show _ ≤ (w.heap ++ os).size
      rw [Array.size_append]; omega
    · show (w.heap ++ os)[b]? = _
      rw [Array.getElem?_append_left (lt_of_heap hx)]; exact hx
  refine ⟨_, rfl, _, tab10 g, D, Ω, rfl, MV.val_mk _, ⟨HM.keep hk (fun _ _ => trivial) (fun _ h => h) (fun _ _ => trivial) hst.hm, hst.nd, hst.nn, hst.dj, fun b hb => Nat.lt_of_lt_of_le (hst.ds b hb) hk.size⟩,
    ⟨fun _ h => h, fun _ _ h => .inl h, fun _ h _ => h, hk.mono fun _ _ _ => trivial, rfl, rfl, rfl⟩⟩
end Go.Gh

/- Numbers in decimal, digit by digit from the right. -/
namespace Go.Gh
open Lib
set_option linter.unusedSimpArgs false
set_option linter.unusedVariables false
def dgs (u : Nat) : List UInt8 := if u = 0 then [] else decDigits u
theorem dgs_step {u : Nat} (h : u ≠ 0) (out : List UInt8) : dgs u ++ out = dgs (u / 10) ++ (UInt8.ofNat (48 + u % 10) :: out) := by
  unfold dgs
  rw [if_neg h]
  by_cases h1 : u < 10
  · rw [decDigits_one h1, if_pos (by omega), Nat.mod_eq_of_lt h1]
    rfl
  · rw [decDigits, dif_neg h1, if_neg (by omega)]
    simp
theorem itoa_dgs {n : Int} (h : n ≠ 0) : itoa n = if n < 0 then 45 :: dgs n.natAbs else dgs n.natAbs := by
  unfold itoa dgs
  have e : n.natAbs ≠ 0 := by omega
  rw [if_neg e]
  by_cases h1 : n < 0
  · rw [if_pos h1, if_pos h1]
  · rw [if_neg h1, if_neg h1]
    congr 1
    omega
theorem itoa_0 : itoa 0 = [48] := by
  unfold itoa
  rw [if_neg (by omega)]
  exact decDigits_one (by decide)
theorem nDigits_le : ∀ (k u : Nat), u < 10 ^ (k + 1) → nDigits u ≤ k + 1
  | 0, u, h => by rw [nDigits_small (by simpa using h)]; omega
  | k + 1, u, h => by
    rw [nDigits]
    split
    · omega
    · have := nDigits_le k (u / 10) (by rw [Nat.pow_succ] at h; omega)
      omega
theorem dgs_len {u : Nat} (h : u ≤ 9223372036854775808) : (dgs u).length ≤ 19 := by
  unfold dgs
  split
  · simp
  · rw [decDigits_length]
    exact nDigits_le 18 u (by omega)
theorem tmod10 (n : Int) : (if n.tmod 10 < 0 then 0 - n.tmod 10 else n.tmod 10) = ((n.natAbs % 10 : Nat) : Int) := by
  have h : (n.tmod 10).natAbs = n.natAbs % 10 := by rw [Int.natAbs_tmod]; rfl
  split <;> omega
theorem tdiv10 (n : Int) : (n.tdiv 10).natAbs = n.natAbs / 10 := by rw [Int.natAbs_tdiv]; rfl
theorem digB : ∀ d, d < 10 → UInt8.ofNat (IntKind.u8.wrap (48 + ((d : Nat) : Int))).toNat = UInt8.ofNat (48 + d) := by decide
theorem mod_lt10 (u : Nat) : u % 10 < 10 := Nat.mod_lt _ (by decide)
end Go.Gh

/- What the lifts of cards need of the kit. -/

/- Parsing expressions: tokens, and the parser in plain Lean. -/
namespace Go.Gh
set_option linter.unusedSimpArgs false
set_option linter.unusedVariables false
@[ext] structure Tok where
  kind : Int
  num : Int
  at' : Int
  text : ByteArray
deriving DecidableEq
abbrev Tk (x : Tok) : GV := .agg [I x.kind, I x.num, I x.at', T x.text]
abbrev TkS (l : List Tok) : GV := .sl 4 (l.map Tk)
def tokZ : Tok := ⟨0, 0, 0, noS⟩
def isW (t : Tok) (w : ByteArray) : Bool := (decide (t.kind = 1) || decide (t.kind = 3)) && decide (t.text = w)
inductive PR (α : Type) where
  | bad (i : Nat) : PR α
  | ok (a : α) (i : Nat) : PR α
def PR.bind {α β : Type} : PR α → (α → Nat → PR β) → PR β
  | .bad i, _ => .bad i
  | .ok a i, f => f a i
abbrev bs (l : List UInt8) : ByteArray := ⟨l.toArray⟩
def wIf : ByteArray := ⟨#[105, 102]⟩
def wThen : ByteArray := ⟨#[116, 104, 101, 110]⟩
def wElse : ByteArray := ⟨#[101, 108, 115, 101]⟩
def wTrue : ByteArray := ⟨#[116, 114, 117, 101]⟩
def wFalse : ByteArray := ⟨#[102, 97, 108, 115, 101]⟩
def wLit : ByteArray := ⟨#[108, 105, 116]⟩
def wNone : ByteArray := ⟨#[110, 111, 110, 101]⟩
def wSelf : ByteArray := ⟨#[115, 101, 108, 102]⟩
def wOf : ByteArray := ⟨#[111, 102]⟩
def wMax : ByteArray := ⟨#[109, 97, 120]⟩
def wMin : ByteArray := ⟨#[109, 105, 110]⟩
def wHas : ByteArray := ⟨#[104, 97, 115]⟩
def wWith : ByteArray := ⟨#[119, 105, 116, 104]⟩
def wLP : ByteArray := ⟨#[40]⟩
def wRP : ByteArray := ⟨#[41]⟩
def wLB : ByteArray := ⟨#[123]⟩
def wRB : ByteArray := ⟨#[125]⟩
def wComma : ByteArray := ⟨#[44]⟩
def wDot : ByteArray := ⟨#[46]⟩
def wDol : ByteArray := ⟨#[36]⟩
def sees (ts : List Tok) (i : Nat) (w : ByteArray) : Bool := decide (i < ts.length) && isW (ts.getD i tokZ) w
def takeW (ts : List Tok) (i : Nat) (w : ByteArray) : PR Unit := if sees ts i w = true then .ok () (i + 1) else .bad i
def numP (ts : List Tok) (i : Nat) (lo hi : Int) : PR Int :=
  if i < ts.length ∧ (ts.getD i tokZ).kind = 2 ∧ lo ≤ (ts.getD i tokZ).num ∧ (ts.getD i tokZ).num ≤ hi then .ok (ts.getD i tokZ).num (i + 1) else .bad i
def nameP (ts : List Tok) (i : Nat) : PR ByteArray :=
  if i < ts.length ∧ (ts.getD i tokZ).kind = 1 ∧ nameV (ts.getD i tokZ).text = true then .ok (ts.getD i tokZ).text (i + 1) else .bad i
def conE (n k : Int) : Exp := .mk 1 n 0 k noS noS []
def opE (op : Int) (a b : Exp) : Exp := .mk 4 op 0 0 noS noS [a, b]
def setP (ts : List Tok) : Nat → Nat → Int → Int → PR Int
  | 0, i, _, _ => .bad i
  | f + 1, i, least, set => if sees ts i wRB = true then .ok set (i + 1) else (numP ts i least 11).bind fun n j => setP ts f j (n + 1) (orI .i64 set (shlI .i64 1 n))
def funO (s : ByteArray) : Int := if s = wMax then 4 else if s = wMin then 5 else if s = wHas then 11 else if s = wWith then 12 else 0
def opAt (ts : List Tok) (i lv : Nat) : Int :=
  if lv = 1 then (if sees ts i ⟨#[60]⟩ = true then 9 else if sees ts i ⟨#[61, 61]⟩ = true then 10 else 0) else
  if lv = 2 then (if sees ts i ⟨#[43]⟩ = true then 1 else if sees ts i ⟨#[45]⟩ = true then 2 else if sees ts i ⟨#[124]⟩ = true then 6 else if sees ts i ⟨#[92]⟩ = true then 8 else 0) else
  if lv = 3 then (if sees ts i ⟨#[42]⟩ = true then 3 else if sees ts i ⟨#[38]⟩ = true then 7 else 0) else 0
def atomP (ts : List Tok) (E A : Nat → PR Exp) (i : Nat) : PR Exp :=
  let t := ts.getD i tokZ
  if ¬ i < ts.length then .bad i else
  if t.kind = 2 then .ok (conE t.num 1) (i + 1) else
  if isW t wLB = true then (setP ts (ts.length + 1) (i + 1) 0 0).bind fun s j => .ok (conE s 2) j else
  if isW t wTrue = true then .ok (conE 1 3) (i + 1) else
  if isW t wFalse = true then .ok (conE 0 3) (i + 1) else
  if isW t wLit = true then .ok (.mk 2 0 0 0 noS noS []) (i + 1) else
  if isW t wNone = true then .ok (.mk 7 0 0 0 noS noS []) (i + 1) else
  if isW t wDol = true then (numP ts (i + 1) 0 3).bind fun p j => (takeW ts j wDot).bind fun _ j => (nameP ts j).bind fun n j => .ok (.mk 3 0 p 0 noS n []) j else
  if isW t wSelf = true then (takeW ts (i + 1) wLP).bind fun _ j => (numP ts j 0 3).bind fun p j => (takeW ts j wRP).bind fun _ j => .ok (.mk 6 0 p 0 noS noS []) j else
  if isW t wLP = true then (E (i + 1)).bind fun e j => (takeW ts j wRP).bind fun _ j => .ok e j else
  if t.kind = 1 ∧ funO t.text ≠ 0 then (takeW ts (i + 1) wLP).bind fun _ j => (E j).bind fun a j => (takeW ts j wComma).bind fun _ j => (E j).bind fun b j => (takeW ts j wRP).bind fun _ j => .ok (opE (funO t.text) a b) j else
  (nameP ts i).bind fun s j => (takeW ts j wDot).bind fun _ j => (nameP ts j).bind fun n j => (takeW ts j wOf).bind fun _ j => (A j).bind fun e j => .ok (.mk 8 0 0 0 s n [e]) j
def rowP (ts : List Tok) (X : Nat → PR Exp) (lv : Nat) : Nat → Exp → Nat → PR Exp
  | 0, _, i => .bad i
  | f + 1, e, i => if opAt ts i lv = 0 then .ok e i else (X (i + 1)).bind fun b j => if lv = 1 then .ok (opE (opAt ts i lv) e b) j else rowP ts X lv f (opE (opAt ts i lv) e b) j
def lvP (ts : List Tok) (X : Nat → PR Exp) (lv i : Nat) : PR Exp := (X i).bind fun e j => rowP ts X lv (ts.length + 1) e j
def exprP (ts : List Tok) (E A : Nat → PR Exp) (i : Nat) : PR Exp :=
  if sees ts i wIf = true then (E (i + 1)).bind fun a j => (takeW ts j wThen).bind fun _ j => (E j).bind fun b j => (takeW ts j wElse).bind fun _ j => (E j).bind fun c j => .ok (.mk 5 0 0 0 noS noS [a, b, c]) j
  else lvP ts (lvP ts (lvP ts A 3) 2) 1 i
mutual
def pE (ts : List Tok) : Nat → Nat → PR Exp
  | 0, i => .bad i
  | f + 1, i => exprP ts (pE ts f) (pA ts f) i
def pA (ts : List Tok) : Nat → Nat → PR Exp
  | 0, i => .bad i
  | f + 1, i => atomP ts (pE ts f) (pA ts f) i
end
def parT (ts : List Tok) (len : Int) : Exp × Int :=
  let off (i : Nat) : Int := if i < ts.length then (ts.getD i tokZ).at' else len
  match pE ts (2 * ts.length + 4) 0 with
  | .bad i => (.mk 0 0 0 0 noS noS [], off i)
  | .ok e i => if i < ts.length then (.mk 0 0 0 0 noS noS [], off i) else if validE e = true then (e, -1) else (.mk 0 0 0 0 noS noS [], 0)
end Go.Gh

/- Parsing expressions: what follows a correct expression does not matter to it. -/
namespace Go.Gh
set_option linter.unusedSimpArgs false
set_option linter.unusedVariables false
def ExtP {α : Type} (P P' : PR α) : Prop := ∀ a i, P = .ok a i → P' = .ok a i
theorem ExtP.refl {α : Type} (P : PR α) : ExtP P P := fun _ _ h => h
theorem ExtP.bad {α : Type} (i : Nat) (P : PR α) : ExtP (.bad i) P := fun _ _ h => by cases h
theorem ExtP.bind {α β : Type} {P P' : PR α} {f f' : α → Nat → PR β} (h : ExtP P P') (hf : ∀ a i, ExtP (f a i) (f' a i)) : ExtP (P.bind f) (P'.bind f') := by
  intro a i e
  cases P with
  | bad j => cases e
  | ok b j => rw [h b j rfl]; exact hf b j a i e
theorem ExtP.ite {α : Type} {c : Prop} [Decidable c] {a b a' b' : PR α} (h1 : c → ExtP a a') (h2 : ¬c → ExtP b b') : ExtP (if c then a else b) (if c then a' else b') := by
  by_cases h : c
  · rw [if_pos h, if_pos h]; exact h1 h
  · rw [if_neg h, if_neg h]; exact h2 h
theorem ExtP.trans {α : Type} {P Q R : PR α} (h : ExtP P Q) (k : ExtP Q R) : ExtP P R := fun a i e => k a i (h a i e)
structure Tail (ts us : List Tok) : Prop where
  pre : ∀ i, i < ts.length → i < us.length ∧ us.getD i tokZ = ts.getD i tokZ
  len : ts.length ≤ us.length
  out : ∀ i w, ¬ i < ts.length → w ≠ wRP → sees us i w = false
variable {ts us : List Tok}
theorem Tail.sees (h : Tail ts us) {i : Nat} {w : ByteArray} (hs : sees ts i w = true) : sees us i w = true := by
  simp only [Go.Gh.sees, Bool.and_eq_true, decide_eq_true_eq] at hs ⊢
  obtain ⟨h1, h2⟩ := h.pre i hs.1
  exact ⟨h1, by rw [h2]; exact hs.2⟩
theorem Tail.sees_eq (h : Tail ts us) (i : Nat) {w : ByteArray} (hw : w ≠ wRP) : Go.Gh.sees us i w = Go.Gh.sees ts i w := by
  by_cases hi : i < ts.length
  · obtain ⟨h1, h2⟩ := h.pre i hi
    simp only [Go.Gh.sees, h2, decide_eq_true h1, decide_eq_true hi]
  · rw [h.out i w hi hw]
    simp only [Go.Gh.sees, decide_eq_false hi, Bool.false_and]
theorem Tail.take (h : Tail ts us) (i : Nat) (w : ByteArray) : ExtP (takeW ts i w) (takeW us i w) := by
  intro a j e
  unfold takeW at *
  split at e
  · rename_i hs; rw [if_pos (h.sees hs)]; exact e
  · cases e
theorem Tail.num (h : Tail ts us) (i : Nat) (lo hi : Int) : ExtP (numP ts i lo hi) (numP us i lo hi) := by
  intro a j e
  unfold numP at *
  split at e
  · rename_i hs
    obtain ⟨h1, h2⟩ := h.pre i hs.1
    rw [h2, if_pos ⟨h1, hs.2⟩]; exact e
  · cases e
theorem Tail.name (h : Tail ts us) (i : Nat) : ExtP (nameP ts i) (nameP us i) := by
  intro a j e
  unfold nameP at *
  split at e
  · rename_i hs
    obtain ⟨h1, h2⟩ := h.pre i hs.1
    rw [h2, if_pos ⟨h1, hs.2⟩]; exact e
  · cases e
theorem Tail.set (h : Tail ts us) : ∀ (f f' : Nat) (i : Nat) (l s : Int), f ≤ f' → ExtP (setP ts f i l s) (setP us f' i l s)
  | 0, _, i, l, s, _ => ExtP.bad _ _
  | f + 1, 0, i, l, s, hf => by omega
  | f + 1, f' + 1, i, l, s, hf => by
    simp only [setP]
    rw [h.sees_eq i (w := wRB) (by decide)]
    split
    · exact .refl _
    · exact (h.num i l 11).bind fun n j => h.set f f' _ _ _ (by omega)
theorem Tail.op (h : Tail ts us) (i lv : Nat) : opAt us i lv = opAt ts i lv := by
  unfold opAt
  simp only [h.sees_eq i (w := ⟨#[60]⟩) (by decide), h.sees_eq i (w := ⟨#[61, 61]⟩) (by decide), h.sees_eq i (w := ⟨#[43]⟩) (by decide), h.sees_eq i (w := ⟨#[45]⟩) (by decide), h.sees_eq i (w := ⟨#[124]⟩) (by decide), h.sees_eq i (w := ⟨#[92]⟩) (by decide), h.sees_eq i (w := ⟨#[42]⟩) (by decide), h.sees_eq i (w := ⟨#[38]⟩) (by decide)]
theorem Tail.row (h : Tail ts us) {X X' : Nat → PR Exp} (hX : ∀ i, ExtP (X i) (X' i)) (lv : Nat) : ∀ (f f' : Nat) (e : Exp) (i : Nat), f ≤ f' → ExtP (rowP ts X lv f e i) (rowP us X' lv f' e i)
  | 0, _, e, i, _ => ExtP.bad _ _
  | f + 1, 0, e, i, hf => by omega
  | f + 1, f' + 1, e, i, hf => by
    simp only [rowP]
    rw [h.op]
    split
    · exact .refl _
    · refine (hX _).bind fun b j => ?_
      split
      · exact .refl _
      · exact h.row hX lv f f' _ _ (by omega)
theorem Tail.lv (h : Tail ts us) {X X' : Nat → PR Exp} (hX : ∀ i, ExtP (X i) (X' i)) (lv i : Nat) : ExtP (lvP ts X lv i) (lvP us X' lv i) :=
  (hX i).bind fun e j => h.row hX lv _ _ _ _ (by have := h.len; omega)
theorem Tail.atom (h : Tail ts us) {E E' A A' : Nat → PR Exp} (hE : ∀ i, ExtP (E i) (E' i)) (hA : ∀ i, ExtP (A i) (A' i)) (i : Nat) : ExtP (atomP ts E A i) (atomP us E' A' i) := by
  by_cases hi : i < ts.length
  · obtain ⟨h1, h2⟩ := h.pre i hi
    unfold atomP
    dsimp only
    rw [h2, if_neg (not_not_intro hi), if_neg (not_not_intro h1)]
    refine ExtP.ite (fun _ => ?_) (fun _ => ?_)
    · exact .refl _
    refine ExtP.ite (fun _ => ?_) (fun _ => ?_)
    · exact (h.set _ _ _ _ _ (by have := h.len; omega)).bind fun _ _ => .refl _
    refine ExtP.ite (fun _ => ?_) (fun _ => ?_)
    · exact .refl _
    refine ExtP.ite (fun _ => ?_) (fun _ => ?_)
    · exact .refl _
    refine ExtP.ite (fun _ => ?_) (fun _ => ?_)
    · exact .refl _
    refine ExtP.ite (fun _ => ?_) (fun _ => ?_)
    · exact .refl _
    refine ExtP.ite (fun _ => ?_) (fun _ => ?_)
    · exact (h.num _ _ _).bind fun _ _ => (h.take _ _).bind fun _ _ => (h.name _).bind fun _ _ => .refl _
    refine ExtP.ite (fun _ => ?_) (fun _ => ?_)
    · exact (h.take _ _).bind fun _ _ => (h.num _ _ _).bind fun _ _ => (h.take _ _).bind fun _ _ => .refl _
    refine ExtP.ite (fun _ => ?_) (fun _ => ?_)
    · exact (hE _).bind fun _ _ => (h.take _ _).bind fun _ _ => .refl _
    refine ExtP.ite (fun _ => ?_) (fun _ => ?_)
    · exact (h.take _ _).bind fun _ _ => (hE _).bind fun _ _ => (h.take _ _).bind fun _ _ => (hE _).bind fun _ _ => (h.take _ _).bind fun _ _ => .refl _
    · exact (h.name _).bind fun _ _ => (h.take _ _).bind fun _ _ => (h.name _).bind fun _ _ => (h.take _ _).bind fun _ _ => (hA _).bind fun _ _ => .refl _
  · intro a j e
    unfold atomP at e
    dsimp only at e
    rw [if_pos hi] at e
    cases e
theorem Tail.expr (h : Tail ts us) {E E' A A' : Nat → PR Exp} (hE : ∀ i, ExtP (E i) (E' i)) (hA : ∀ i, ExtP (A i) (A' i)) (i : Nat) : ExtP (exprP ts E A i) (exprP us E' A' i) := by
  unfold exprP
  rw [h.sees_eq i (w := wIf) (by decide)]
  split
  · exact (hE _).bind fun _ _ => (h.take _ _).bind fun _ _ => (hE _).bind fun _ _ => (h.take _ _).bind fun _ _ => (hE _).bind fun _ _ => .refl _
  · exact h.lv (fun i => h.lv (fun i => h.lv hA 3 i) 2 i) 1 i
mutual
theorem Tail.pE (h : Tail ts us) : ∀ (f f' i : Nat), f ≤ f' → ExtP (pE ts f i) (pE us f' i)
  | 0, _, i, _ => ExtP.bad _ _
  | f + 1, 0, i, hf => by omega
  | f + 1, f' + 1, i, hf => h.expr (fun i => Tail.pE h f f' i (by omega)) (fun i => Tail.pA h f f' i (by omega)) i
theorem Tail.pA (h : Tail ts us) : ∀ (f f' i : Nat), f ≤ f' → ExtP (pA ts f i) (pA us f' i)
  | 0, _, i, _ => ExtP.bad _ _
  | f + 1, 0, i, hf => by omega
  | f + 1, f' + 1, i, hf => h.atom (fun i => Tail.pE h f f' i (by omega)) (fun i => Tail.pA h f f' i (by omega)) i
end
def BdP {α : Type} (ts : List Tok) (i : Nat) (P : PR α) : Prop := i ≤ ts.length → ∀ a j, P = .ok a j → i ≤ j ∧ j ≤ ts.length
theorem BdP.bind {α β : Type} {i : Nat} {P : PR α} {f : α → Nat → PR β} (h : BdP ts i P) (hf : ∀ a j, BdP ts j (f a j)) : BdP ts i (P.bind f) := by
  intro hi a j e
  cases P with
  | bad k => cases e
  | ok b k =>
    obtain ⟨h1, h2⟩ := h hi b k rfl
    obtain ⟨h3, h4⟩ := hf b k h2 a j e
    exact ⟨by omega, h4⟩
theorem BdP.ite {α : Type} {i : Nat} {c : Prop} [Decidable c] {a b : PR α} (h1 : c → BdP ts i a) (h2 : ¬c → BdP ts i b) : BdP ts i (if c then a else b) := by
  by_cases h : c
  · rw [if_pos h]; exact h1 h
  · rw [if_neg h]; exact h2 h
theorem BdP.at {α : Type} {i j : Nat} (a : α) (h : i ≤ j) (hj : i ≤ ts.length → j ≤ ts.length) : BdP ts i (PR.ok a j) := by
  intro hi b k e
  cases e
  exact ⟨h, hj hi⟩
theorem BdP.ok {α : Type} {i : Nat} (a : α) : BdP ts i (PR.ok a i) := .at a (Nat.le_refl _) fun h => h
theorem BdP.next {α : Type} {i : Nat} (a : α) (h : i < ts.length) : BdP ts i (PR.ok a (i + 1)) := .at a (by omega) fun _ => h
theorem BdP.bad {α : Type} {i k : Nat} : BdP ts i (PR.bad k : PR α) := fun _ a j e => by cases e
theorem BdP.skip {α : Type} {i : Nat} {P : PR α} (h : i < ts.length) (hP : BdP ts (i + 1) P) : BdP ts i P := fun hi a j e => by
  obtain ⟨h1, h2⟩ := hP h a j e
  exact ⟨by omega, h2⟩
theorem sees_lt {i : Nat} {w : ByteArray} (h : sees ts i w = true) : i < ts.length := by
  simp only [sees, Bool.and_eq_true, decide_eq_true_eq] at h
  exact h.1
theorem op_lt {i lv : Nat} (h : opAt ts i lv ≠ 0) : i < ts.length := by
  rcases Nat.lt_or_ge i ts.length with h1 | h1
  · exact h1
  · exfalso; apply h
    have : ∀ w, sees ts i w = false := fun w => by simp only [sees, decide_eq_false (show ¬ i < ts.length by omega), Bool.false_and]
    unfold opAt
    simp [this]
end Go.Gh

/- Parsing expressions: the tokens of a text. -/
namespace Go.Gh
open Lib
set_option linter.unusedSimpArgs false
set_option linter.unusedVariables false
def spanL (p : UInt8 → Bool) : List UInt8 → Nat
  | [] => 0
  | c :: l => if p c = true then spanL p l + 1 else 0
theorem spanL_le (p : UInt8 → Bool) : ∀ l : List UInt8, spanL p l ≤ l.length
  | [] => by simp [spanL]
  | c :: l => by
    simp only [spanL]
    split
    · have := spanL_le p l; simp; omega
    · simp
theorem spanL_step {p : UInt8 → Bool} {l : List UInt8} {k : Nat} (h : k < l.length) (hp : p l[k] = true) : spanL p (l.drop k) = spanL p (l.drop (k + 1)) + 1 := by
  rw [List.drop_eq_getElem_cons h]
  simp [spanL, hp]
theorem spanL_stop {p : UInt8 → Bool} {l : List UInt8} {k : Nat} (h : k < l.length) (hp : p l[k] = false) : spanL p (l.drop k) = 0 := by
  rw [List.drop_eq_getElem_cons h]
  simp [spanL, hp]
theorem spanL_end {p : UInt8 → Bool} {l : List UInt8} {k : Nat} (h : l.length ≤ k) : spanL p (l.drop k) = 0 := by
  rw [List.drop_eq_nil_of_le h]
  rfl
def valD (l : List UInt8) : Int := l.foldl (fun n c => 10 * n + ((c.toNat : Int) - 48)) 0
def numT (w : List UInt8) : Option Int := if itoa (valD w) = w ∧ valD w ≤ 1000000 then some (valD w) else none
def alnV (c : UInt8) : Bool := letV c || digV c
def symC : List UInt8 := [40, 41, 123, 125, 44, 46, 36, 43, 45, 42, 60, 124, 38, 92]
def tokN (l : List UInt8) (k : Nat) : Tok × Nat :=
  if h : k < l.length then
    if letV l[k] = true then
      if spanL alnV (l.drop k) ≤ 8 then (⟨1, 0, k, ⟨((l.drop k).take (spanL alnV (l.drop k))).toArray⟩⟩, spanL alnV (l.drop k)) else (tokZ, 0)
    else if digV l[k] = true then
      match numT ((l.drop k).take (spanL digV (l.drop k))) with
      | some n => (⟨2, n, k, noS⟩, spanL digV (l.drop k))
      | none => (tokZ, 0)
    else if l[k] ∈ symC then (⟨3, 0, k, ⟨#[l[k]]⟩⟩, 1)
    else if l[k] = 61 ∧ l[k + 1]? = some 61 then (⟨3, 0, k, ⟨#[61, 61]⟩⟩, 2)
    else (tokZ, 0)
  else (tokZ, 0)
theorem tokN_le {l : List UInt8} {k : Nat} (hk : k ≤ l.length) : k + (tokN l k).2 ≤ l.length := by
  unfold tokN
  split
  · rename_i h
    have h1 := spanL_le alnV (l.drop k)
    have h2 := spanL_le digV (l.drop k)
    simp only [List.length_drop] at h1 h2
    split
    · split <;> dsimp only <;> omega
    · split
      · split <;> dsimp only <;> omega
      · split
        · dsimp only; omega
        · split
          · rename_i h3
            have := (List.getElem?_eq_some_iff.1 h3.2).1
            dsimp only; omega
          · dsimp only; omega
  · dsimp only; omega
theorem tokN_at {l : List UInt8} {k : Nat} (h : (tokN l k).2 ≠ 0) : (tokN l k).1.at' = k ∧ k < l.length := by
  unfold tokN at *
  split
  · rename_i hk
    rw [dif_pos hk] at h
    refine ⟨?_, hk⟩
    split at h
    · rename_i h1; rw [if_pos h1]
      split at h
      · rename_i h2; rw [if_pos h2]
      · exact absurd rfl h
    · rename_i h1; rw [if_neg h1]
      split at h
      · rename_i h2; rw [if_pos h2]
        split at h
        · rfl
        · exact absurd rfl h
      · rename_i h2; rw [if_neg h2]
        split at h
        · rename_i h3; rw [if_pos h3]
        · rename_i h3; rw [if_neg h3]
          split at h
          · rename_i h4; rw [if_pos h4]
          · exact absurd rfl h
  · rename_i hk
    rw [dif_neg hk] at h
    exact absurd rfl h
def tokL (l : List UInt8) : Nat → Nat → List Tok → List Tok × Int
  | 0, k, _ => ([], k)
  | f + 1, k, out =>
    if h : k < l.length then
      if l[k] = 32 then tokL l f (k + 1) out
      else if (tokN l k).2 = 0 ∨ out.length = 80 then ([], k)
      else tokL l f (k + (tokN l k).2) (out ++ [(tokN l k).1])
    else (out, -1)
theorem tokL_succ (l : List UInt8) (f k : Nat) (out : List Tok) : tokL l (f + 1) k out =
    if h : k < l.length then
      if l[k] = 32 then tokL l f (k + 1) out
      else if (tokN l k).2 = 0 ∨ out.length = 80 then ([], k)
      else tokL l f (k + (tokN l k).2) (out ++ [(tokN l k).1])
    else (out, -1) := rfl
def tokz (l : List UInt8) : List Tok × Int := if 160 < l.length then ([], 160) else tokL l (l.length + 1) 0 []
theorem tokL_fuel {l : List UInt8} : ∀ (f f' k : Nat) (out : List Tok), k ≤ l.length → l.length < f + k → l.length < f' + k → tokL l f k out = tokL l f' k out
  | 0, f', k, out, hk, h, h' => by omega
  | f + 1, 0, k, out, hk, h, h' => by omega
  | f + 1, f' + 1, k, out, hk, h, h' => by
    rw [tokL_succ, tokL_succ]
    split
    · split
      · exact tokL_fuel f f' _ _ (by omega) (by omega) (by omega)
      · split
        · rfl
        · rename_i h1
          have := tokN_le hk
          exact tokL_fuel f f' _ _ this (by omega) (by omega)
    · rfl
theorem tokL_at {l : List UInt8} : ∀ (f k : Nat) (out : List Tok), (∀ t ∈ out, 0 ≤ t.at' ∧ t.at' ≤ l.length) → ∀ t ∈ (tokL l f k out).1, 0 ≤ t.at' ∧ t.at' ≤ l.length
  | 0, k, out, h => by simp [tokL]
  | f + 1, k, out, h => by
    simp only [tokL]
    split
    · split
      · exact tokL_at f _ _ h
      · split
        · simp
        · rename_i h1
          refine tokL_at f _ _ fun t ht => ?_
          rcases List.mem_append.1 ht with ht | ht
          · exact h t ht
          · rw [List.mem_singleton] at ht
            subst ht
            have := tokN_at (l := l) (k := k) (fun e => h1 (.inl e))
            omega
    · exact h
theorem tokL_len {l : List UInt8} : ∀ (f k : Nat) (out : List Tok), out.length ≤ 80 → (tokL l f k out).1.length ≤ 80
  | 0, k, out, h => by simp [tokL]
  | f + 1, k, out, h => by
    simp only [tokL]
    split
    · split
      · exact tokL_len f _ _ h
      · split
        · simp
        · rename_i h1
          exact tokL_len f _ _ (by simp; omega)
    · exact h
def parV (l : List UInt8) : Exp × Int := if (tokz l).2 ≥ 0 then (.mk 0 0 0 0 noS noS [], (tokz l).2) else parT (tokz l).1 l.length
theorem tokz_at (l : List UInt8) : ∀ t ∈ (tokz l).1, 0 ≤ t.at' ∧ t.at' ≤ l.length := by
  unfold tokz
  split
  · simp
  · exact tokL_at _ _ _ (by simp)
theorem tokz_len (l : List UInt8) : (tokz l).1.length ≤ 80 := by
  unfold tokz
  split
  · simp
  · exact tokL_len _ _ _ (by simp)
end Go.Gh

/- Expressions as text: pieces, and their tokens. -/
namespace Go.Gh
open Lib
set_option linter.unusedSimpArgs false
set_option linter.unusedVariables false
abbrev Key := Int × Int × ByteArray
abbrev It := Option Key
def keys (l : List It) : List Key := l.filterMap id
abbrev wd (w : ByteArray) : It := some (1, 0, w)
abbrev sy (c : UInt8) : It := some (3, 0, ⟨#[c]⟩)
abbrev nb (n : Int) : It := some (2, n, noS)
def alnK (x : Key) : Bool := decide (x.1 = 1 ∨ x.1 = 2)
def alnI : It → Bool
  | none => false
  | some x => alnK x
def sepI : List It → Bool
  | [] => true
  | [_] => true
  | x :: y :: l => !(alnI x && alnI y) && sepI (y :: l)
theorem sep_mid {x : It} (hx : alnI x = false) (r : List It) : ∀ l : List It, sepI (l ++ x :: r) = (sepI l && sepI (x :: r))
  | [] => by simp [sepI]
  | [y] => by simp [sepI, hx]
  | y :: z :: l => by
    have := sep_mid hx r (z :: l)
    simp only [List.cons_append, sepI] at this ⊢
    rw [this, Bool.and_assoc]
theorem sep_cons {x : It} (hx : alnI x = false) (r : List It) : sepI (x :: r) = sepI r := by
  cases r with
  | nil => rfl
  | cons y l => simp [sepI, hx]
def goodK (x : Key) : Prop :=
  (x.1 = 1 ∧ x.2.1 = 0 ∧ shp (chars x.2.2) = true ∧ (chars x.2.2).length ≤ 8) ∨ (x.1 = 2 ∧ x.2.2 = noS ∧ 0 ≤ x.2.1 ∧ x.2.1 ≤ 1000000) ∨
  (x.1 = 3 ∧ x.2.1 = 0 ∧ ((∃ c ∈ symC, x.2.2 = ⟨#[c]⟩) ∨ x.2.2 = ⟨#[61, 61]⟩))
def goodI : It → Prop
  | none => True
  | some x => goodK x
theorem valD_snoc (l : List UInt8) (c : UInt8) : valD (l ++ [c]) = 10 * valD l + ((c.toNat : Int) - 48) := by simp [valD]
theorem itoa_dec {n : Int} (h : 0 ≤ n) : itoa n = decDigits n.toNat := by unfold itoa; rw [if_neg (by omega)]
theorem numT_some {w : List UInt8} {n : Int} (h : numT w = some n) : itoa n = w ∧ n ≤ 1000000 := by
  unfold numT at h
  split at h
  · rename_i h1
    simp only [Option.some.injEq] at h
    rw [← h]; exact h1
  · cases h
def keyT (t : Tok) : Key := (t.kind, t.num, t.text)
end Go.Gh

/- Expressions as text: what was written is read back. -/
namespace Go.Gh
open Lib
set_option linter.unusedSimpArgs false
set_option linter.unusedVariables false
def opLv (n : Int) : Nat := if n = 9 ∨ n = 10 then 1 else if n = 1 ∨ n = 2 ∨ n = 6 ∨ n = 8 then 2 else if n = 3 ∨ n = 7 then 3 else 4
def lvE (e : Exp) : Nat := if e.kind = 5 then 0 else if e.kind = 4 then opLv e.n else 4
def opK (n : Int) : Key :=
  if n = 1 then (3, 0, ⟨#[43]⟩) else if n = 2 then (3, 0, ⟨#[45]⟩) else if n = 3 then (3, 0, ⟨#[42]⟩) else if n = 4 then (1, 0, wMax) else if n = 5 then (1, 0, wMin) else if n = 6 then (3, 0, ⟨#[124]⟩) else
  if n = 7 then (3, 0, ⟨#[38]⟩) else if n = 8 then (3, 0, ⟨#[92]⟩) else if n = 9 then (3, 0, ⟨#[60]⟩) else if n = 10 then (3, 0, ⟨#[61, 61]⟩) else if n = 11 then (1, 0, wHas) else (1, 0, wWith)
def joinI : List It → List It
  | [] => []
  | [x] => [x]
  | x :: y :: l => x :: none :: joinI (y :: l)
def setL (n : Int) : List Nat := (List.range 12).filter fun k => n.toNat.testBit k
def setI (n : Int) : List It := sy 123 :: (joinI ((setL n).map fun k : Nat => nb (k : Int)) ++ [sy 125])
def conI (n t : Int) : List It := if t = 1 then [nb n] else if t = 3 then [wd (if n = 1 then wTrue else wFalse)] else setI n
def opnd (L : Nat) (x : Nat × List It) : List It := if x.1 < L then sy 40 :: (x.2 ++ [sy 41]) else x.2
def itN (k n p t : Int) (s m : ByteArray) (xs : List (Nat × List It)) : List It :=
  if k = 1 then conI n t else if k = 2 then [wd wLit] else if k = 3 then [sy 36, nb p, sy 46, wd m] else
  if k = 5 then wd wIf :: none :: ((xs.getD 0 (4, [])).2 ++ none :: wd wThen :: none :: ((xs.getD 1 (4, [])).2 ++ none :: wd wElse :: none :: (xs.getD 2 (4, [])).2)) else
  if k = 6 then [wd wSelf, sy 40, nb p, sy 41] else if k = 7 then [wd wNone] else
  if k = 8 then wd s :: sy 46 :: wd m :: none :: wd wOf :: none :: opnd 4 (xs.getD 0 (4, [])) else
  if opLv n = 4 then some (opK n) :: sy 40 :: ((xs.getD 0 (4, [])).2 ++ sy 44 :: none :: ((xs.getD 1 (4, [])).2 ++ [sy 41])) else
  opnd (max (opLv n) 2) (xs.getD 0 (4, [])) ++ none :: some (opK n) :: none :: opnd (opLv n + 1) (xs.getD 1 (4, []))
mutual
def itE : Exp → List It
  | .mk k n p t s m a => itN k n p t s m (itL a)
def itL : List Exp → List (Nat × List It)
  | [] => []
  | e :: l => (lvE e, itE e) :: itL l
end
abbrev kE (e : Exp) : List Key := keys (itE e)
variable {ts : List Tok}
def Sf (ts : List Tok) (i : Nat) (R : List Key) : Prop := (ts.map keyT).drop i = R
theorem Sf.cons {i : Nat} {x : Key} {R : List Key} (h : Sf ts i (x :: R)) : i < ts.length ∧ keyT (ts.getD i tokZ) = x ∧ Sf ts (i + 1) R := by
  unfold Sf at *
  have hlt : i < ts.length := by
    rcases Nat.lt_or_ge i ts.length with h1 | h1
    · exact h1
    · rw [List.drop_eq_nil_of_le (by simpa using h1)] at h; cases h
  rw [List.drop_eq_getElem_cons (by simpa using hlt)] at h
  simp only [List.getElem_map, List.cons.injEq] at h
  exact ⟨hlt, by rw [getD_lt hlt]; exact h.1, h.2⟩
theorem Sf.nil {i : Nat} (h : Sf ts i []) : ¬ i < ts.length := by
  unfold Sf at h
  have := List.drop_eq_nil_iff.1 h
  simpa using this
theorem Sf.app {i : Nat} {A R : List Key} (h : Sf ts i (A ++ R)) : Sf ts (i + A.length) R := by
  unfold Sf at *
  rw [← List.drop_drop, h]
  simp
theorem Sf.len {i : Nat} {R : List Key} (h : Sf ts i R) : R.length = ts.length - i := by
  unfold Sf at h
  rw [← h]
  simp
def isK (x : Key) (w : ByteArray) : Bool := (decide (x.1 = 1) || decide (x.1 = 3)) && decide (x.2.2 = w)
theorem Sf.isW {i : Nat} {x : Key} {R : List Key} (h : Sf ts i (x :: R)) (w : ByteArray) : isW (ts.getD i tokZ) w = isK x w := by
  obtain ⟨_, h2, _⟩ := h.cons
  rw [← h2]
  rfl
theorem Sf.sees {i : Nat} {x : Key} {R : List Key} (h : Sf ts i (x :: R)) (w : ByteArray) : sees ts i w = isK x w := by
  unfold Go.Gh.sees
  rw [h.isW w, decide_eq_true h.cons.1, Bool.true_and]
theorem Sf.seesN {i : Nat} (h : Sf ts i []) (w : ByteArray) : Go.Gh.sees ts i w = false := by
  unfold Go.Gh.sees
  rw [decide_eq_false h.nil, Bool.false_and]
theorem Sf.take {i : Nat} {x : Key} {R : List Key} {w : ByteArray} (h : Sf ts i (x :: R)) (hw : isK x w = true) : takeW ts i w = .ok () (i + 1) := by
  unfold takeW
  rw [h.sees w, if_pos hw]
theorem Sf.num {i : Nat} {n lo hi : Int} {t : ByteArray} {R : List Key} (h : Sf ts i ((2, n, t) :: R)) (h1 : lo ≤ n) (h2 : n ≤ hi) : numP ts i lo hi = .ok n (i + 1) := by
  obtain ⟨a, b, _⟩ := h.cons
  simp only [keyT, Prod.mk.injEq] at b
  unfold numP
  rw [b.1, b.2.1, if_pos ⟨a, rfl, h1, h2⟩]
theorem Sf.name {i : Nat} {n : Int} {t : ByteArray} {R : List Key} (h : Sf ts i ((1, n, t) :: R)) (h1 : nameV t = true) : nameP ts i = .ok t (i + 1) := by
  obtain ⟨a, b, _⟩ := h.cons
  simp only [keyT, Prod.mk.injEq] at b
  unfold nameP
  rw [b.1, b.2.2, if_pos ⟨a, rfl, h1⟩]
def opKy (x : Key) (lv : Nat) : Int :=
  if lv = 1 then (if isK x ⟨#[60]⟩ = true then 9 else if isK x ⟨#[61, 61]⟩ = true then 10 else 0) else
  if lv = 2 then (if isK x ⟨#[43]⟩ = true then 1 else if isK x ⟨#[45]⟩ = true then 2 else if isK x ⟨#[124]⟩ = true then 6 else if isK x ⟨#[92]⟩ = true then 8 else 0) else
  if lv = 3 then (if isK x ⟨#[42]⟩ = true then 3 else if isK x ⟨#[38]⟩ = true then 7 else 0) else 0
def opR : List Key → Nat → Int
  | [], _ => 0
  | x :: _, lv => opKy x lv
theorem Sf.op {i : Nat} {R : List Key} (h : Sf ts i R) (lv : Nat) : opAt ts i lv = opR R lv := by
  cases R with
  | nil => unfold opAt; simp [h.seesN, opR]
  | cons x R => unfold opAt; simp only [h.sees, opR, opKy]
def NoOp (R : List Key) (L : Nat) : Prop := ∀ l, L ≤ l → l ≤ 3 → opR R l = 0
theorem NoOp.mono {R : List Key} {L M : Nat} (h : NoOp R L) (hm : L ≤ M) : NoOp R M := fun l h1 h2 => h l (by omega) h2
def XL (ts : List Tok) (f : Nat) (L : Nat) : Nat → PR Exp :=
  if L = 1 then lvP ts (lvP ts (lvP ts (pA ts f) 3) 2) 1 else if L = 2 then lvP ts (lvP ts (pA ts f) 3) 2 else if L = 3 then lvP ts (pA ts f) 3 else pA ts f
theorem XL_4 (f : Nat) : XL ts f 4 = pA ts f := rfl
theorem XL_lv (f : Nat) {L : Nat} (h1 : 1 ≤ L) (h2 : L ≤ 3) : XL ts f L = lvP ts (XL ts f (L + 1)) L := by
  rcases show L = 1 ∨ L = 2 ∨ L = 3 by omega with rfl | rfl | rfl <;> rfl
theorem Tail.refl (ts : List Tok) : Tail ts ts where
  pre i hi := ⟨hi, rfl⟩
  len := Nat.le_refl _
  out i w hi _ := by simp [Go.Gh.sees, hi]
theorem row_mono {X : Nat → PR Exp} {lv F F' : Nat} {e r : Exp} {i j : Nat} (hF : F ≤ F') (h : rowP ts X lv F e i = .ok r j) : rowP ts X lv F' e i = .ok r j :=
  (Tail.refl ts).row (fun i => ExtP.refl _) lv F F' e i hF r j h
theorem row_stop {X : Nat → PR Exp} {lv F : Nat} {e : Exp} {i : Nat} {R : List Key} (h : Sf ts i R) (h0 : opR R lv = 0) : rowP ts X lv (F + 1) e i = .ok e i := by
  simp only [rowP]
  rw [if_pos (by rw [h.op]; exact h0)]
theorem lv_one {X : Nat → PR Exp} {lv F : Nat} {e r : Exp} {i j k : Nat} (hX : X i = .ok e j) (hF : F ≤ ts.length + 1) (h : rowP ts X lv F e j = .ok r k) : lvP ts X lv i = .ok r k := by
  unfold lvP
  rw [hX]
  exact row_mono hF h
theorem XL_down {f L M i j : Nat} {e : Exp} {R : List Key} (hL : 1 ≤ L) (hM : M ≤ 4) (hLM : L ≤ M) (hR : Sf ts j R) (h0 : NoOp R L) (h : XL ts f M i = .ok e j) : XL ts f L i = .ok e j := by
  obtain ⟨d, rfl⟩ : ∃ d, M = L + d := ⟨M - L, by omega⟩
  induction d generalizing L with
  | zero => exact h
  | succ d ih =>
    have h2 := ih (L := L + 1) (by omega) (h0.mono (by omega)) (by omega) (by omega) (by rw [show L + 1 + d = L + (d + 1) by omega]; exact h)
    rw [XL_lv f hL (by omega)]
    exact lv_one (F := 1) h2 (by omega) (row_stop hR (h0 L (by omega) (by omega)))
structure RdA (e : Exp) : Prop where
  atom : lvE e = 4 → ∀ (ts : List Tok) (f i : Nat) (R : List Key), Sf ts i (kE e ++ R) → 2 * (kE e).length + 1 ≤ f → pA ts f i = .ok e (i + (kE e).length)
  one : lvE e = 1 → ∀ (ts : List Tok) (f i : Nat) (R : List Key), Sf ts i (kE e ++ R) → 2 * (kE e).length + 1 ≤ f → NoOp R 1 → XL ts f 1 i = .ok e (i + (kE e).length)
  own : ∀ (lv : Nat), 2 ≤ lv → lv ≤ 3 → lvE e = lv → ∀ (ts : List Tok) (f i : Nat) (R : List Key), Sf ts i (kE e ++ R) → 2 * (kE e).length + 1 ≤ f → NoOp R (lv + 1) →
    ∀ F r j, F + (kE e).length ≤ ts.length + 1 → rowP ts (XL ts f (lv + 1)) lv F e (i + (kE e).length) = .ok r j → XL ts f lv i = .ok r j
theorem RdA.at {e : Exp} (h : RdA e) {L : Nat} (h1 : 1 ≤ L) (h2 : L ≤ lvE e) (h4 : lvE e ≤ 4) {f i : Nat} {R : List Key} (hs : Sf ts i (kE e ++ R)) (hf : 2 * (kE e).length + 1 ≤ f) (hR : NoOp R L) : XL ts f L i = .ok e (i + (kE e).length) := by
  refine XL_down h1 h4 h2 hs.app hR ?_
  by_cases e1 : lvE e = 1
  · rw [e1]
    exact h.one e1 ts f i R hs hf (by rw [show L = 1 by omega] at hR; exact hR)
  rcases Nat.lt_or_ge (lvE e) 4 with h3 | h3
  · refine h.own (lvE e) (by omega) (by omega) rfl ts f i R hs hf (hR.mono (by omega)) 1 e _ ?_ (row_stop hs.app (hR _ h2 (by omega)))
    have := hs.len
    simp at this
    omega
  · have e4 : lvE e = 4 := by omega
    rw [e4, XL_4]
    exact h.atom e4 ts f i R hs hf
end Go.Gh

/- Expressions as text: every valid expression is read back. -/
namespace Go.Gh
open Lib
set_option linter.unusedSimpArgs false
set_option linter.unusedVariables false
variable {ts : List Tok}
theorem Sf.kind {i : Nat} {x : Key} {R : List Key} (h : Sf ts i (x :: R)) : (ts.getD i tokZ).kind = x.1 := by rw [← h.cons.2.1]; rfl
theorem Sf.text {i : Nat} {x : Key} {R : List Key} (h : Sf ts i (x :: R)) : (ts.getD i tokZ).text = x.2.2 := by rw [← h.cons.2.1]; rfl
end Go.Gh

/- Expressions as text: every valid expression is read back. -/
namespace Go.Gh
open Lib
set_option linter.unusedSimpArgs false
set_option linter.unusedVariables false
variable {ts : List Tok}
end Go.Gh

/- Expressions as text: FnParsed and FnNormal, in plain Lean. -/
namespace Go.Gh
open Lib
set_option linter.unusedSimpArgs false
set_option linter.unusedVariables false
structure GdI (l : List It) : Prop where
  good : ∀ x ∈ l, goodI x
  sep : sepI l = true
theorem GdI.nil : GdI [] := ⟨by simp, rfl⟩
theorem GdI.one {x : It} (h : goodI x) : GdI [x] := ⟨by simpa using h, rfl⟩
theorem GdI.mid {a r : List It} {x : It} (ha : GdI a) (hx : alnI x = false) (hg : goodI x) (hr : GdI r) : GdI (a ++ x :: r) :=
  ⟨fun y hy => by
    rcases List.mem_append.1 hy with h | h
    · exact ha.good y h
    · rcases List.mem_cons.1 h with rfl | h
      · exact hg
      · exact hr.good y h,
   by rw [sep_mid hx, ha.sep, sep_cons hx, hr.sep]; rfl⟩
theorem GdI.cons {r : List It} {x : It} (hx : alnI x = false) (hg : goodI x) (hr : GdI r) : GdI (x :: r) := GdI.nil.mid hx hg hr
theorem GdI.hd {r : List It} {x y : It} (hg : goodI x) (hy : alnI y = false) (hg2 : goodI y) (hr : GdI r) : GdI (x :: y :: r) := (GdI.one hg).mid hy hg2 hr
end Go.Gh

/- Expressions as text: normal forms have no more tokens than what they were read from. -/
namespace Go.Gh
open Lib
set_option linter.unusedSimpArgs false
set_option linter.unusedVariables false
variable {ts : List Tok}
theorem bind_ok {α β : Type} {P : PR α} {f : α → Nat → PR β} {b : β} {k : Nat} (h : P.bind f = .ok b k) : ∃ a j, P = .ok a j ∧ f a j = .ok b k := by
  cases P with
  | bad i => cases h
  | ok a j => exact ⟨a, j, rfl, h⟩
theorem take_nx {i j : Nat} {w : ByteArray} {a : Unit} (h : takeW ts i w = .ok a j) : j = i + 1 := by
  unfold takeW at h
  split at h
  · cases h; rfl
  · cases h
theorem num_nx {i j : Nat} {lo hi n : Int} (h : numP ts i lo hi = .ok n j) : j = i + 1 ∧ lo ≤ n ∧ n ≤ hi := by
  unfold numP at h
  split at h
  · rename_i hc; cases h; exact ⟨rfl, hc.2.2⟩
  · cases h
theorem name_nx {i j : Nat} {s : ByteArray} (h : nameP ts i = .ok s j) : j = i + 1 := by
  unfold nameP at h
  split at h
  · cases h; rfl
  · cases h
theorem toNat_ofInt {a : Int} (h0 : 0 ≤ a) (h : a < 18446744073709551616) : (BitVec.ofInt 64 a).toNat = a.toNat := by
  rw [BitVec.toNat_ofInt]
  omega
theorem shl_pow {n : Int} (h0 : 0 ≤ n) (h : n ≤ 11) : shlI .i64 1 n = ((2 ^ n.toNat : Nat) : Int) ∧ 2 ^ n.toNat ≤ 2048 := by
  have : ∀ k, k < 12 → shlI .i64 1 ((k : Nat) : Int) = ((2 ^ k : Nat) : Int) ∧ 2 ^ k ≤ 2048 := by decide
  have := this n.toNat (by omega)
  rw [show ((n.toNat : Nat) : Int) = n by omega] at this
  exact this
theorem or_nat {a b : Nat} (ha : a < 4096) (hb : b < 4096) : orI .i64 (a : Int) (b : Int) = ((a ||| b : Nat) : Int) ∧ a ||| b < 4096 := by
  have hlt : a ||| b < 4096 := Nat.or_lt_two_pow (n := 12) ha hb
  refine ⟨?_, hlt⟩
  unfold orI
  change IntKind.i64.wrap (((BitVec.ofInt 64 a ||| BitVec.ofInt 64 b).toNat : Nat) : Int) = _
  rw [BitVec.toNat_or, toNat_ofInt (by omega) (by omega), toNat_ofInt (by omega) (by omega), Int.toNat_natCast, Int.toNat_natCast]
  simp only [IntKind.wrap, IntKind.bits, IntKind.signed]
  simp
  omega
theorem filter_or {p q : Nat → Bool} : ∀ l : List Nat, (l.filter fun k => p k || q k).length ≤ (l.filter p).length + (l.filter q).length
  | [] => by simp
  | k :: l => by
    have := filter_or (p := p) (q := q) l
    simp only [List.filter_cons]
    cases p k <;> cases q k <;> simp <;> omega
theorem filter_eq_one (n m : Nat) : ((List.range m).filter fun k => decide (n = k)).length ≤ 1 := by
  induction m with
  | zero => simp
  | succ m ih =>
    rw [List.range_succ, List.filter_append, List.length_append]
    by_cases h : n = m
    · have : (List.range m).filter (fun k => decide (n = k)) = [] := by
        rw [List.filter_eq_nil_iff]
        intro a ha
        rw [List.mem_range] at ha
        simp
        omega
      rw [this]
      simp [h]
    · simp [h]
      exact ih
theorem set_len {a : Int} {n : Int} (h0 : 0 ≤ a) (h : a ≤ 4095) (n0 : 0 ≤ n) (n1 : n ≤ 11) : 0 ≤ orI .i64 a (shlI .i64 1 n) ∧ orI .i64 a (shlI .i64 1 n) ≤ 4095 ∧ (setL (orI .i64 a (shlI .i64 1 n))).length ≤ (setL a).length + 1 := by
  obtain ⟨e1, e2⟩ := shl_pow n0 n1
  obtain ⟨e3, e4⟩ := or_nat (a := a.toNat) (b := 2 ^ n.toNat) (by omega) (by omega)
  rw [show ((a.toNat : Nat) : Int) = a by omega] at e3
  rw [e1, e3]
  refine ⟨by omega, by omega, ?_⟩
  unfold setL
  have e5 : (fun k => (((a.toNat ||| 2 ^ n.toNat : Nat) : Int).toNat).testBit k) = fun k => a.toNat.testBit k || decide (n.toNat = k) := by
    funext k
    rw [Int.toNat_natCast, Nat.testBit_or, Nat.testBit_two_pow]
  rw [e5]
  have h1 := filter_or (p := fun k => a.toNat.testBit k) (q := fun k => decide (n.toNat = k)) (List.range 12)
  have h2 := filter_eq_one n.toNat 12
  omega
theorem ite_c {α : Type} {c : Prop} [Decidable c] {a b x : α} (h : (if c then a else b) = x) : (c ∧ a = x) ∨ (¬c ∧ b = x) := by
  by_cases hc : c
  · rw [if_pos hc] at h; exact .inl ⟨hc, h⟩
  · rw [if_neg hc] at h; exact .inr ⟨hc, h⟩
end Go.Gh

/- Parsing expressions: what the code's tokens are like. -/
namespace Go.Gh
open Lib
set_option linter.unusedSimpArgs false
set_option linter.unusedVariables false
def redB (l : List UInt8) : Bool := decide (l.length ≤ 12) && decide (itoa (valD l) = l)
def redV (l : List UInt8) : Int := if redB l = true then valD l else 0
def sybN (l : List UInt8) (k : Nat) : Nat :=
  match l[k]? with
  | some c => if c ∈ symC then 1 else if c = 61 ∧ l[k + 1]? = some 61 then 2 else 0
  | none => 0
def tokS (l : List UInt8) (k : Nat) : Tok :=
  match l[k]? with
  | some c =>
    if letV c = true then ⟨1, 0, k, ⟨((l.drop k).take (spanL alnV (l.drop k))).toArray⟩⟩
    else if digV c = true then ⟨2, redV ((l.drop k).take (spanL digV (l.drop k))), k, noS⟩
    else ⟨3, 0, k, ⟨((l.drop k).take (sybN l k)).toArray⟩⟩
  | none => tokZ
theorem itoa_short {n : Int} (h0 : 0 ≤ n) (h : n ≤ 1000000) : (itoa n).length ≤ 7 := by
  rw [itoa_dec h0, decDigits_length]
  exact nDigits_le 6 _ (by omega)
theorem valD_acc : ∀ (l : List UInt8) (n : Int), 0 ≤ n → (∀ c ∈ l, digV c = true) → 0 ≤ l.foldl (fun n c => 10 * n + ((c.toNat : Int) - 48)) n ∧ l.foldl (fun n c => 10 * n + ((c.toNat : Int) - 48)) n < (n + 1) * 10 ^ l.length
  | [], n, h0, _ => by simp; omega
  | c :: l, n, h0, h => by
    have h2 := h c (by simp)
    simp only [digV, Bool.and_eq_true, decide_eq_true_eq] at h2
    have := valD_acc l (10 * n + ((c.toNat : Int) - 48)) (by omega) fun d hd => h d (by simp [hd])
    simp only [List.foldl_cons, List.length_cons]
    refine ⟨this.1, Int.lt_of_lt_of_le this.2 ?_⟩
    rw [Int.pow_succ, Int.mul_comm (10 ^ l.length) 10, ← Int.mul_assoc]
    exact Int.mul_le_mul_of_nonneg_right (by omega) (Int.pow_nonneg (by omega))
theorem fold_ge : ∀ (l : List UInt8) (n : Int), 0 ≤ n → (∀ c ∈ l, digV c = true) → n ≤ l.foldl (fun n c => 10 * n + ((c.toNat : Int) - 48)) n
  | [], n, h0, _ => Int.le_refl _
  | c :: l, n, h0, h => by
    have h2 := h c (by simp)
    simp only [digV, Bool.and_eq_true, decide_eq_true_eq] at h2
    have := fold_ge l (10 * n + ((c.toNat : Int) - 48)) (by omega) fun d hd => h d (by simp [hd])
    simp only [List.foldl_cons]
    omega
theorem valD_bd (l : List UInt8) (h : ∀ c ∈ l, digV c = true) : 0 ≤ valD l ∧ valD l < 10 ^ l.length := by
  have := valD_acc l 0 (by omega) h
  simpa [valD] using this
theorem pow12 {l : List UInt8} (h : l.length ≤ 11) : (10 : Int) ^ l.length ≤ 100000000000 := by
  have : ∀ k, k ≤ 11 → (10 : Int) ^ k ≤ 100000000000 := by decide
  exact this _ h
theorem pow13 {l : List UInt8} (h : l.length ≤ 12) : (10 : Int) ^ l.length ≤ 1000000000000 := by
  have : ∀ k, k ≤ 12 → (10 : Int) ^ k ≤ 1000000000000 := by decide
  exact this _ h
theorem wrap_u8 {x : Int} (h0 : 0 ≤ x) (h : x < 256) : IntKind.u8.wrap x = x := by
  simp only [IntKind.wrap, IntKind.bits, IntKind.signed]
  simp
  omega
theorem valD_take {l : List UInt8} {i : Nat} (h : i < l.length) : valD (l.take (i + 1)) = 10 * valD (l.take i) + ((l[i].toNat : Int) - 48) := by
  rw [← List.take_append_getElem h, valD_snoc]
theorem tokS_at {l : List UInt8} {k : Nat} (h : k < l.length) : tokS l k =
    if letV l[k] = true then ⟨1, 0, k, ⟨((l.drop k).take (spanL alnV (l.drop k))).toArray⟩⟩
    else if digV l[k] = true then ⟨2, redV ((l.drop k).take (spanL digV (l.drop k))), k, noS⟩
    else ⟨3, 0, k, ⟨((l.drop k).take (sybN l k)).toArray⟩⟩ := by
  unfold tokS
  rw [List.getElem?_eq_getElem h]
theorem spanL_digs : ∀ (l : List UInt8), ∀ c ∈ l.take (spanL digV l), digV c = true
  | [], c, h => by simp at h
  | d :: l, c, h => by
    simp only [spanL] at h
    split at h
    · rename_i hd
      rw [List.take_succ_cons] at h
      rcases List.mem_cons.1 h with rfl | h
      · exact hd
      · exact spanL_digs l c h
    · simp at h
theorem numT_red {w : List UInt8} (hd : ∀ c ∈ w, digV c = true) : numT w = if redB w = true ∧ redV w ≤ 1000000 then some (redV w) else none := by
  have hb := (valD_bd w hd).1
  unfold numT redV redB
  by_cases h : itoa (valD w) = w
  · by_cases hl : w.length ≤ 12
    · simp [h, hl]
    · have : ¬ valD w ≤ 1000000 := fun h2 => by
        have := itoa_short hb h2
        rw [h] at this
        omega
      simp [h, hl, this]
  · simp [h]
theorem tokN_2 {l : List UInt8} {k : Nat} (h : k < l.length) : (tokN l k).2 =
    if letV l[k] = true then (if spanL alnV (l.drop k) ≤ 8 then spanL alnV (l.drop k) else 0)
    else if digV l[k] = true then (if redB ((l.drop k).take (spanL digV (l.drop k))) = true ∧ redV ((l.drop k).take (spanL digV (l.drop k))) ≤ 1000000 then spanL digV (l.drop k) else 0)
    else sybN l k := by
  unfold tokN
  rw [dif_pos h]
  split
  · split <;> rfl
  · split
    · rw [numT_red (spanL_digs _)]
      split
      · rename_i h1
        split at h1
        · rename_i h2; rw [if_pos h2]
        · cases h1
      · rename_i h1
        split at h1
        · cases h1
        · rename_i h2; rw [if_neg h2]
    · unfold sybN
      rw [List.getElem?_eq_getElem h]
      dsimp only
      split
      · rfl
      · split <;> rfl
theorem tokS_N {l : List UInt8} {k : Nat} (h : k < l.length) (hn : (tokN l k).2 ≠ 0) : tokS l k = (tokN l k).1 := by
  rw [tokS_at h]
  unfold tokN at hn ⊢
  rw [dif_pos h] at hn ⊢
  by_cases h1 : letV l[k] = true
  · rw [if_pos h1] at hn ⊢
    rw [if_pos h1]
    by_cases h2 : spanL alnV (l.drop k) ≤ 8
    · rw [if_pos h2]
    · rw [if_neg h2] at hn; exact absurd rfl hn
  · rw [if_neg h1] at hn ⊢
    rw [if_neg h1]
    by_cases h2 : digV l[k] = true
    · rw [if_pos h2] at hn ⊢
      rw [if_pos h2]
      rw [numT_red (spanL_digs _)] at hn ⊢
      by_cases h3 : redB ((l.drop k).take (spanL digV (l.drop k))) = true ∧ redV ((l.drop k).take (spanL digV (l.drop k))) ≤ 1000000
      · simp only [if_pos h3]
      · simp only [if_neg h3] at hn; exact absurd rfl hn
    · rw [if_neg h2] at hn ⊢
      rw [if_neg h2]
      by_cases h3 : l[k] ∈ symC
      · have e : sybN l k = 1 := by unfold sybN; rw [List.getElem?_eq_getElem h]; dsimp only; rw [if_pos h3]
        rw [if_pos h3, e, List.drop_eq_getElem_cons h]
        rfl
      · rw [if_neg h3] at hn ⊢
        by_cases h4 : l[k] = 61 ∧ l[k + 1]? = some 61
        · have e : sybN l k = 2 := by unfold sybN; rw [List.getElem?_eq_getElem h]; dsimp only; rw [if_neg h3, if_pos h4]
          obtain ⟨h5, h6⟩ := List.getElem?_eq_some_iff.1 h4.2
          rw [if_pos h4, e, List.drop_eq_getElem_cons h, List.drop_eq_getElem_cons h5, h4.1, h6]
          rfl
        · rw [if_neg h4] at hn; exact absurd rfl hn
theorem u8_eq (c d : UInt8) : c = d ↔ (c.toNat : Int) = d.toNat := by
  rw [← UInt8.toNat_inj]
  omega
theorem mem_symC (c : UInt8) : c ∈ symC ↔ ((c.toNat : Int) = 40 ∨ (c.toNat : Int) = 41 ∨ (c.toNat : Int) = 123 ∨ (c.toNat : Int) = 125 ∨ (c.toNat : Int) = 44 ∨ (c.toNat : Int) = 46 ∨ (c.toNat : Int) = 36 ∨ (c.toNat : Int) = 43 ∨ (c.toNat : Int) = 45 ∨ (c.toNat : Int) = 42 ∨ (c.toNat : Int) = 60 ∨ (c.toNat : Int) = 124 ∨ (c.toNat : Int) = 38 ∨ (c.toNat : Int) = 92) := by
  simp only [symC, List.mem_cons, List.not_mem_nil, or_false, u8_eq]
  rfl
theorem sybN_1 {l : List UInt8} {k : Nat} (hk : k < l.length) (h : ((l[k].toNat : Int) = 40 ∨ (l[k].toNat : Int) = 41 ∨ (l[k].toNat : Int) = 123 ∨ (l[k].toNat : Int) = 125 ∨ (l[k].toNat : Int) = 44 ∨ (l[k].toNat : Int) = 46 ∨ (l[k].toNat : Int) = 36 ∨ (l[k].toNat : Int) = 43 ∨ (l[k].toNat : Int) = 45 ∨ (l[k].toNat : Int) = 42 ∨ (l[k].toNat : Int) = 60 ∨ (l[k].toNat : Int) = 124 ∨ (l[k].toNat : Int) = 38 ∨ (l[k].toNat : Int) = 92)) : sybN l k = 1 := by
  unfold sybN
  rw [List.getElem?_eq_getElem hk]
  dsimp only
  rw [if_pos ((mem_symC _).2 h)]
theorem sybN_2 {l : List UInt8} {k : Nat} (hk : k < l.length) (h : (l[k].toNat : Int) = 61) (h1 : k + 1 < l.length) (h2 : (l[k + 1].toNat : Int) = 61) : sybN l k = 2 := by
  unfold sybN
  rw [List.getElem?_eq_getElem hk, List.getElem?_eq_getElem h1]
  dsimp only
  rw [if_neg (fun hc => by rw [mem_symC] at hc; omega), if_pos ⟨(u8_eq _ _).2 h, congrArg some ((u8_eq _ _).2 h2)⟩]
theorem sybN_0 {l : List UInt8} {k : Nat} (hk : k < l.length) (h : ¬ ((l[k].toNat : Int) = 40 ∨ (l[k].toNat : Int) = 41 ∨ (l[k].toNat : Int) = 123 ∨ (l[k].toNat : Int) = 125 ∨ (l[k].toNat : Int) = 44 ∨ (l[k].toNat : Int) = 46 ∨ (l[k].toNat : Int) = 36 ∨ (l[k].toNat : Int) = 43 ∨ (l[k].toNat : Int) = 45 ∨ (l[k].toNat : Int) = 42 ∨ (l[k].toNat : Int) = 60 ∨ (l[k].toNat : Int) = 124 ∨ (l[k].toNat : Int) = 38 ∨ (l[k].toNat : Int) = 92))
    (h2 : ¬ (l[k].toNat : Int) = 61 ∨ l.length ≤ k + 1 ∨ ∃ h1 : k + 1 < l.length, ¬ (l[k + 1].toNat : Int) = 61) : sybN l k = 0 := by
  unfold sybN
  rw [List.getElem?_eq_getElem hk]
  dsimp only
  rw [if_neg (fun hc => h ((mem_symC _).1 hc)), if_neg]
  rintro ⟨a, b⟩
  rcases h2 with h2 | h2 | ⟨h1, h2⟩
  · exact h2 ((u8_eq _ _).1 a)
  · rw [List.getElem?_eq_none h2] at b; cases b
  · rw [List.getElem?_eq_getElem h1] at b
    simp only [Option.some.injEq] at b
    exact h2 ((u8_eq _ _).1 b)
theorem take_drop_sub {α : Type} (l : List α) (k n : Nat) : (l.take (k + n)).drop k = (l.drop k).take n := by
  rw [List.drop_take]
  congr 1
  omega
theorem sybN_le {l : List UInt8} {k : Nat} (h : k < l.length) : k + sybN l k ≤ l.length := by
  unfold sybN
  rw [List.getElem?_eq_getElem h]
  dsimp only
  split
  · omega
  · split
    · rename_i h2
      have := (List.getElem?_eq_some_iff.1 h2.2).1
      omega
    · omega
theorem Bor.seenT {H : GH} {r n : Nat} {l : List Tok} (hr : hget H r = some (4, l.map Tk)) (hl : l.length = n) : Bor H (.own r 4 0 n) (TkS l) := Bor.seen (f := Tk) (fun a => by simp [view, viewL]) hr hl
theorem tokN_let {l : List UInt8} {k : Nat} (h : k < l.length) (h1 : letV l[k] = true) : tokN l k = if spanL alnV (l.drop k) ≤ 8 then (⟨1, 0, k, ⟨((l.drop k).take (spanL alnV (l.drop k))).toArray⟩⟩, spanL alnV (l.drop k)) else (tokZ, 0) := by
  unfold tokN
  rw [dif_pos h, if_pos h1]
theorem tokN_dig {l : List UInt8} {k : Nat} (h : k < l.length) (h1 : letV l[k] = false) (h2 : digV l[k] = true) : tokN l k = (match numT ((l.drop k).take (spanL digV (l.drop k))) with | some n => (⟨2, n, k, noS⟩, spanL digV (l.drop k)) | none => (tokZ, 0)) := by
  unfold tokN
  rw [dif_pos h, if_neg (by rw [h1]; decide), if_pos h2]
  all_goals rfl
theorem tokN_sym {l : List UInt8} {k : Nat} (h : k < l.length) (h1 : letV l[k] = false) (h2 : digV l[k] = false) : tokN l k = if l[k] ∈ symC then (⟨3, 0, k, ⟨#[l[k]]⟩⟩, 1) else if l[k] = 61 ∧ l[k + 1]? = some 61 then (⟨3, 0, k, ⟨#[61, 61]⟩⟩, 2) else (tokZ, 0) := by
  unfold tokN
  rw [dif_pos h, if_neg (by rw [h1]; decide), if_neg (by rw [h2]; decide)]
theorem aln_or {c : UInt8} (h : alnV c = true) : letV c = true ∨ (letV c = false ∧ digV c = true) := by
  unfold alnV at h
  cases h1 : letV c
  · rw [h1] at h; exact .inr ⟨rfl, by simpa using h⟩
  · exact .inl rfl
theorem aln_no {c : UInt8} (h : alnV c = false) : letV c = false ∧ digV c = false := by
  simpa [alnV] using h
end Go.Gh

/- Numbers read by strconv.Atoi; strings joined: the kit's contracts over ghosts. -/
namespace Go.Gh
open Lib Go.RowKit
set_option linter.unusedSimpArgs false
set_option linter.unusedVariables false
theorem kept_below {w w' : World} (h : Below w.heap.size w w') : Kept w w' (fun _ => True) :=
  ⟨fun b hb _ => h.block b hb, h.size, fun b c T fz hx => ⟨c, fz, by rw [h.block b (lt_of_heap hx)]; exact hx, rfl⟩⟩
theorem lib_ok {P : Program} {T : GH} {f : Nat} {gs : List GV} {R : GV → Prop}
    (hc : ∀ (w : World) (D : Nat → Prop) (vs : List Value), HM w D T [] → (names T).Nodup → ML w D gs vs [] → Calls P f vs.toArray w fun e w' => ∃ v g, e = .returned v ∧ R g ∧ (∀ D', MV w' D' g v []) ∧ Below w.heap.size w w')
    (hT : ∀ x ∈ T, x.2.2 = [] ∧ x.1 % 4 = 3) (eg : ∀ args w, (callFunc f args).run P w = .ok (.enter f args) w) : PureT P T f gs R := by
  intro w D Ω vs hst hargs
  have hΩ : Ω = [] := by
    have : ∀ (T : GH) (Ω : List Nat), (∀ x ∈ T, x.2.2 = [] ∧ x.1 % 4 = 3) → HM w D T Ω → Ω = [] := by
      intro T
      induction T with
      | nil => intro Ω _ h; exact h
      | cons x T ih =>
        obtain ⟨r, sz, es⟩ := x
        intro Ω h1 h2
        obtain ⟨F1, F2, e, h3, h4⟩ := h2
        have := ih F2 (fun y hy => h1 y (by simp [hy])) h4
        have hr := (h1 (r, sz, es) (by simp)).2
        rcases h3 with ⟨b, c, T', fz, F', k1, _⟩ | h3
        · dsimp only at hr; omega
        · rw [e, this, h3.2.2]; rfl
    exact this T Ω hT hst.hm
  subst hΩ
  rw [eg]
  show Calls P f _ w _
  refine (hc w D vs hst.hm hst.nn hargs).mono ?_
  rintro e w' ⟨v, g, rfl, hR, hv, hb⟩
  have hk := kept_below hb
  exact ⟨_, rfl, _, T, D, [], hR, hv D, ⟨HM.keep hk (fun _ _ => trivial) (fun _ h => h) (fun _ _ => trivial) hst.hm, hst.nd, hst.nn, hst.dj, fun b hb => Nat.lt_of_lt_of_le (hst.ds b hb) hk.size⟩,
    ⟨fun _ h => h, fun _ _ h => .inl h, fun _ h _ => h, hk.mono fun _ _ _ => trivial, hb.os, hb.tape, hb.output⟩⟩
theorem parse_digs : ∀ (l : List UInt8) (acc : Nat), (∀ c ∈ l, digV c = true) → acc < 18446744073709551616 →
    (l.foldl (fun n c => 10 * n + ((c.toNat : Int) - 48)) (acc : Int) < 18446744073709551616 → ∃ u : Nat, parseUint10 acc l = .ok u ∧ (u : Int) = l.foldl (fun n c => 10 * n + ((c.toNat : Int) - 48)) (acc : Int)) ∧
    (¬ l.foldl (fun n c => 10 * n + ((c.toNat : Int) - 48)) (acc : Int) < 18446744073709551616 → parseUint10 acc l = .range)
  | [], acc, _, h => ⟨fun _ => ⟨acc, rfl, rfl⟩, fun h2 => by simp at h2; omega⟩
  | c :: l, acc, hd, h => by
    have hc := hd c (by simp)
    simp only [digV, Bool.and_eq_true, decide_eq_true_eq] at hc
    have hl : ∀ d ∈ l, digV d = true := fun d hd' => hd d (by simp [hd'])
    have e1 : (10 * (acc : Int) + ((c.toNat : Int) - 48)) = ((acc * 10 + (c.toNat - 48) : Nat) : Int) := by omega
    simp only [List.foldl_cons, parseUint10]
    rw [e1, if_pos (by omega)]
    have hge := (valD_acc l ((acc * 10 + (c.toNat - 48) : Nat) : Int) (by omega) hl)
    have hmono : ((acc * 10 + (c.toNat - 48) : Nat) : Int) ≤ l.foldl (fun n c => 10 * n + ((c.toNat : Int) - 48)) ((acc * 10 + (c.toNat - 48) : Nat) : Int) := fold_ge l _ (by omega) hl
    by_cases h1 : 1844674407370955162 ≤ acc
    · rw [if_pos h1]
      exact ⟨fun h2 => by omega, fun _ => rfl⟩
    · rw [if_neg h1]
      by_cases h2 : 18446744073709551616 ≤ acc * 10 + (c.toNat - 48)
      · rw [if_pos h2]
        exact ⟨fun h3 => by omega, fun _ => rfl⟩
      · rw [if_neg h2]
        exact parse_digs l _ hl (by omega)
theorem atoi_digs {l : List UInt8} (hd : ∀ c ∈ l, digV c = true) (hne : l ≠ []) : (valD l < 9223372036854775808 → atoiAll l = .ok (valD l)) ∧ (¬ valD l < 9223372036854775808 → atoiAll l = .range) := by
  cases l with
  | nil => exact absurd rfl hne
  | cons c r =>
    have hc := hd c (by simp)
    simp only [digV, Bool.and_eq_true, decide_eq_true_eq] at hc
    obtain ⟨p1, p2⟩ := parse_digs (c :: r) 0 hd (by decide)
    have e0 : (c :: r).foldl (fun n c => 10 * n + ((c.toNat : Int) - 48)) ((0 : Nat) : Int) = valD (c :: r) := rfl
    rw [e0] at p1 p2
    have hn : ¬ c.toNat = 45 := by omega
    unfold atoiAll parseMag
    dsimp only
    rw [if_neg (show ¬ (c.toNat = 43 ∨ c.toNat = 45) by omega), if_neg (by simp)]
    constructor
    · intro h
      obtain ⟨u, q1, q2⟩ := p1 (by omega)
      rw [q1]
      dsimp only
      rw [if_neg (by omega), if_neg (by omega), if_neg hn, q2]
    · intro h
      by_cases h2 : valD (c :: r) < 18446744073709551616
      · obtain ⟨u, q1, q2⟩ := p1 h2
        rw [q1]
        dsimp only
        rw [if_pos ⟨hn, by omega⟩]
      · rw [p2 h2]
def tabE (n m : Nat) : GH := [(4 * n + 3, 1000000, []), (4 * m + 3, 1000001, [])]
theorem tabE_ok (n m : Nat) : ∀ x ∈ tabE n m, x.2.2 = [] ∧ x.1 % 4 = 3 := fun x hx => by
  simp only [tabE, List.mem_cons, List.not_mem_nil, or_false] at hx
  rcases hx with rfl | rfl
  · exact ⟨rfl, by dsimp only; omega⟩
  · exact ⟨rfl, by dsimp only; omega⟩
theorem tabH_E {n m : Nat} (h : n ≠ m) : tabH (tabE n m) := ⟨by simp [tabE, names]; omega, fun x hx => by
  simp only [tabE, List.mem_cons, List.not_mem_nil, or_false] at hx
  rcases hx with rfl | rfl
  · exact ⟨by dsimp only; omega, by dsimp only; omega, rfl⟩
  · exact ⟨by dsimp only; omega, by dsimp only; omega, rfl⟩⟩
theorem HM.isE {w : World} {D : Nat → Prop} {m : Nat} {H : GH} {Ω : List Nat} (h : HM w D H Ω) (hn : (names H).Nodup) (hm : (4 * m + 3, 1000001, []) ∈ H) : ∃ te pe, w.cell? ⟨m, 0, none⟩ = some (.iface te pe) := by
  obtain ⟨F, hF, _⟩ := h.mem (hget_mem hn hm)
  have e : (4 * m + 3) / 4 = m := by omega
  rcases hF with ⟨b, c, T, fz, F', k1, _⟩ | hF
  · dsimp only at k1; omega
  · obtain ⟨_, c, T, fz, h1, h2⟩ := hF.1.2 (by dsimp only; omega) (by dsimp only; omega)
    dsimp only at h1 h2
    rw [e] at h1
    unfold tabP at h2
    rw [if_neg (by omega)] at h2
    obtain ⟨te, pe, rfl⟩ := h2
    refine ⟨te, pe, ?_⟩
    unfold World.cell?
    rw [h1]
    rfl
theorem MV.tup2 {w : World} {D : Nat → Prop} (a b : Value) : MV w D (.tup [.val a, .val b]) (.tuple #[a, b]) [] := by
  simp only [MV]
  exact ⟨[a, b], rfl, by simp only [ML, MV]; exact ⟨a, [b], [], [], rfl, rfl, ⟨rfl, rfl⟩, b, [], [], [], rfl, rfl, ⟨rfl, rfl⟩, rfl, rfl⟩⟩
theorem chars_eta (p : ByteArray) : (⟨(chars p).toArray⟩ : ByteArray) = p := by cases p; simp [chars]
def hasPr (s p : List UInt8) : Bool := decide (p.length ≤ s.length) && decide (s.take p.length = p)
theorem hasPr_2 (a b : UInt8) (r : List UInt8) : hasPr (a :: b :: r) [61, 61] = decide (a = 61 ∧ some b = some 61) := by simp [hasPr]
theorem hasPr_1 (a : UInt8) : hasPr [a] [61, 61] = decide (a = 61 ∧ (none : Option UInt8) = some 61) := by simp [hasPr]
theorem hasPr_eq {l : List UInt8} {k : Nat} (h : k < l.length) : hasPr (l.drop k) [61, 61] = decide (l[k] = 61 ∧ l[k + 1]? = some 61) := by
  by_cases h1 : k + 1 < l.length
  · rw [List.drop_eq_getElem_cons h, List.drop_eq_getElem_cons h1, List.getElem?_eq_getElem h1]
    exact hasPr_2 _ _ _
  · rw [List.drop_eq_getElem_cons h, List.drop_eq_nil_of_le (by omega), List.getElem?_eq_none (by omega)]
    exact hasPr_1 _
theorem ix_mem : ∀ (l : List UInt8) (c : UInt8), 0 ≤ indexByte l c ↔ c ∈ l
  | [], c => by simp [indexByte]
  | b :: l, c => by
    have ih := ix_mem l c
    simp only [indexByte, List.mem_cons]
    by_cases h : b = c
    · simp [h]
    · have h' : ¬ (b == c) = true := by simpa using h
      rw [if_neg h']
      have hne : ¬ c = b := fun e => h e.symm
      by_cases h1 : indexByte l c = -1
      · rw [if_pos (by simpa using h1)]
        rw [h1] at ih
        simp only [hne, false_or]
        exact ⟨fun h => by omega, fun h => by have := ih.2 h; omega⟩
      · rw [if_neg (by simpa using h1)]
        have hge := ix_ge l c
        simp only [hne, false_or]
        exact ⟨fun h => ih.1 (by omega), fun h => by have := ih.2 h; omega⟩
where
  ix_ge : ∀ (l : List UInt8) (c : UInt8), -1 ≤ indexByte l c
  | [], c => by simp [indexByte]
  | b :: l, c => by
    have := ix_ge l c
    simp only [indexByte]
    repeat' split
    all_goals omega
def atoR (l : List UInt8) (te : TypeId) (g : GV) : Prop :=
  (valD l < 9223372036854775808 ∧ g = .tup [I (valD l), .val .nilIface]) ∨ (¬ valD l < 9223372036854775808 ∧ ∃ n p, g = .tup [I n, .val (.iface te p)])
end Go.Gh

/- Strings joined, bytes found: the kit's contracts over ghosts. -/
namespace Go.Gh
open Lib Go.RowKit
set_option linter.unusedSimpArgs false
set_option linter.unusedVariables false
end Go.Gh

/- Parsing expressions: the readers' states. -/
namespace Go.Gh
open Lib
set_option linter.unusedSimpArgs false
set_option linter.unusedVariables false
abbrev PaG (ts : List Tok) (i : Nat) (b : Bool) : GV := .agg [TkS ts, I i, B b]
def PR.at {α : Type} : PR α → Nat
  | .bad i => i
  | .ok _ i => i
def PR.err {α : Type} : PR α → Bool
  | .bad _ => true
  | .ok _ _ => false
def PR.val {α : Type} (z : α) : PR α → α
  | .bad _ => z
  | .ok a _ => a
def frm {α : Type} (b : Bool) (P : Nat → PR α) (i : Nat) : PR α := if b = true then .bad i else P i
theorem frm_t {α : Type} (P : Nat → PR α) (i : Nat) : frm true P i = .bad i := rfl
theorem frm_f {α : Type} (P : Nat → PR α) (i : Nat) : frm false P i = P i := rfl
theorem take_t {ts : List Tok} {i : Nat} {w : ByteArray} (h : sees ts i w = true) : takeW ts i w = .ok () (i + 1) := by unfold takeW; rw [if_pos h]
theorem take_f {ts : List Tok} {i : Nat} {w : ByteArray} (h : sees ts i w = false) : takeW ts i w = .bad i := by unfold takeW; rw [if_neg (by rw [h]; decide)]
def okTs (ts : List Tok) : Prop := ∀ t ∈ ts, (t.kind = 1 → shp (chars t.text) = true) ∧ (chars t.text).length ≤ 8
def opB (ts : List Tok) (b : Bool) (i lv : Nat) : Int := if b = true then 0 else opAt ts i lv
theorem opB_ge {ts : List Tok} {i : Nat} (h : ts.length ≤ i) (lv : Nat) : opB ts false i lv = 0 := by
  have hs : ∀ w, sees ts i w = false := fun w => by unfold sees; rw [decide_eq_false (by omega)]; rfl
  unfold opB opAt
  simp [hs]
theorem isW_nm {t : Tok} {w : ByteArray} (h : t.kind = 1 → shp (chars t.text) = true) (hw : shp (chars w) = false) : isW t w = (isK (3, 0, t.text) w && decide (t.kind = 3)) := by
  unfold isW isK
  by_cases h1 : t.kind = 1
  · have : ¬ t.text = w := fun e => by have := h h1; rw [e, hw] at this; cases this
    simp [h1, this]
  · by_cases h3 : t.kind = 3
    · simp [h1, h3]
    · simp [h1, h3]
theorem opB_lt {ts : List Tok} (ht : okTs ts) {i : Nat} (h : i < ts.length) (lv : Nat) : opB ts false i lv = if ts[i].kind = 3 then opKy (3, 0, ts[i].text) lv else 0 := by
  have hs : ∀ w, shp (chars w) = false → sees ts i w = (isK (3, 0, ts[i].text) w && decide (ts[i].kind = 3)) := fun w hw => by
    unfold sees
    rw [decide_eq_true h, getD_lt h, Bool.true_and, isW_nm (ht _ (List.getElem_mem h)).1 hw]
  unfold opB opAt
  simp only [hs ⟨#[60]⟩ (by decide), hs ⟨#[61, 61]⟩ (by decide), hs ⟨#[43]⟩ (by decide), hs ⟨#[45]⟩ (by decide), hs ⟨#[124]⟩ (by decide), hs ⟨#[92]⟩ (by decide), hs ⟨#[42]⟩ (by decide), hs ⟨#[38]⟩ (by decide)]
  by_cases hk : ts[i].kind = 3
  · simp [hk, opKy]
  · simp [hk]
end Go.Gh

/- Draws: functions that change a cursor; the inside of a region frozen. -/
namespace Go.Gh
set_option linter.unusedSimpArgs false
set_option linter.unusedVariables false
theorem FR.front {g g' : GV} {L H : GH} (hb : Bor L g g') : FR g (L ++ H) g' H := by
  intro w D Ω v hv hst
  obtain ⟨Ω1, Ω2, rfl, h1, h2⟩ := HM.parted hst.hm
  have hnd := List.nodup_append.1 hst.nd
  have hnn := hst.nn
  simp only [names, List.map_append] at hnn
  have hnn' := List.nodup_append.1 hnn
  have hs1 : St w D L Ω1 := ⟨h1, hnd.1, hnn'.1, fun b hb => hst.dj b (by simp [hb]), hst.ds⟩
  refine ⟨fun b => D b ∨ b ∈ Ω1, Ω2, hb w D Ω1 v hs1 hv, ⟨HM.keep (S := fun _ => True) (Kept.refl _ _) (fun _ _ => trivial) (fun _ => .inl) (fun _ _ => trivial) h2, hnd.2.1, hnn'.2.1, fun b hb hD => ?_, fun b hD => ?_⟩,
    ⟨fun _ => .inl, fun b _ hD => hD.elim .inl fun h => .inr (by simp [h]), fun b hb _ => by simp [hb], Kept.refl _ _, rfl, rfl, rfl⟩⟩
  · rcases hD with hD | hD
    · exact hst.dj b (by simp [hb]) hD
    · exact hnd.2.2 b hD b hb rfl
  · rcases hD with hD | hD
    · exact hst.ds b hD
    · exact HM.flt hst.hm b (by simp [hD])
abbrev Bs (bs : List UInt8) : GV := .sl 1 (bs.map fun b => .val (.int .u8 b.toNat))
abbrev Cu (bs : List UInt8) (i h : Int) : GV := .agg [Bs bs, I i, I h]
def isC (e : GV) : Prop := ∃ bs i h, e = Cu bs i h ∧ 0 ≤ i ∧ i ≤ bs.length ∧ bs.length ≤ 9223372036854775807
theorem MF.u8 {w : World} {D : Nat → Prop} : ∀ (bs : List UInt8), MF w D 1 (bs.map fun b => GV.val (.int .u8 b.toNat)) (bs.map fun b => Value.int .u8 b.toNat) []
  | [] => by simp [MF]
  | b :: bs => by
    simp only [List.map_cons, MF]
    exact ⟨.int .u8 b.toNat, _, [], [], rfl, rfl, by intro x hx; simp [Value.cells] at hx; subst hx; rfl, rfl, by simp [MV], MF.u8 bs⟩
theorem MV.cur {w : World} {D : Nat → Prop} {v : Value} {F : List Nat} (h : MV w D .cur v F) : ∃ e, isC e ∧ MV w D e v F := by
  simp only [MV] at h
  obtain ⟨rfl, bs, i, n, sv, rfl, h1, h2, h3⟩ := h
  refine ⟨Cu bs i n, ⟨bs, i, n, rfl, h1, h2, by rcases h3 with ⟨rfl, _⟩ | ⟨_, _, _, _, _, h, _⟩
                                                · simp
                                                · exact h⟩, ?_⟩
  simp only [MV]
  refine ⟨[sv, .int .i64 i, .int .i64 n], rfl, ?_, ?_⟩
  · have : sv.oneCell' = true := by
      rcases h3 with ⟨_, a, cap, rfl⟩ | ⟨b, off, cap, rfl, _⟩ <;> rfl
    simp [this]
    exact ⟨rfl, rfl⟩
  · simp only [ML]
    refine ⟨sv, _, [], [], rfl, rfl, ?_, _, _, [], [], rfl, rfl, by simp [MV], _, _, [], [], rfl, rfl, by simp [MV], rfl, rfl⟩
    simp only [MV]
    refine ⟨trivial, ?_⟩
    rcases h3 with ⟨rfl, h3⟩ | ⟨b, off, cap, k1, k2, k3, k4, k5⟩
    · exact .inl ⟨rfl, h3⟩
    · exact .inr ⟨b, off, cap, _, by simpa using k1, by simpa using k2, by simpa using k3, k4, k5, MF.u8 bs⟩
theorem St.exch1 {w : World} {D : Nat → Prop} {H : GH} {Ω : List Nat} (h : St w D H Ω) {r sz i : Nat} {es : List GV} {e : GV} {p : GV → Prop} (hr : hget H r = some (sz, es)) (he : es[i]? = some e) (hx : ∀ v F, MV w D e v F → ∃ e', p e' ∧ MV w D e' v F) :
    ∃ e', p e' ∧ St w D (hset H r (es.set i e')) Ω := by
  obtain ⟨Ω1, F', Ω2, hΩ, hR, hput, _⟩ := HM.take h.hm hr
  obtain ⟨b, c, T, fz, F0, k1, k2, k3, k4, k5, k6, k7⟩ := hR.es_ne (fun e => by rw [e] at he; simp at he)
  obtain ⟨pre, v, post, A1, Ai, A2, m1, m2, m3, m4, m5, m6, m7⟩ := MF.split sz es _ F0 i _ k7 he
  obtain ⟨e', hp, hx⟩ := hx _ _ m6
  have hmf := m7 w D (fun _ => True) e' v Ai (Kept.refl _ _) (fun _ _ => trivial) (fun _ h => h) (fun _ _ => trivial) m3 m4 hx
  rw [← m1, ← m5] at hmf
  have hRM : RM w D r sz (es.set i e') F' := .inl ⟨b, c, T, fz, F0, k1, k2, k3, by simpa using k4, by simpa using k5, k6, by simpa using hmf⟩
  have hfin := hput w D (fun _ => True) _ _ (Kept.refl _ _) (fun _ _ => trivial) (fun _ h => h) (fun _ _ => trivial) hRM
  rw [← hΩ] at hfin
  exact ⟨e', hp, hfin, h.nd, by rw [names_hset]; exact h.nn, h.dj, h.ds⟩
theorem GCalls.open {P : Program} {f : FuncId} {gs : List GV} {rc : Nat} {H : GH} {R : GV → GH → Prop} (h : ∀ e, isC e → GCalls P f gs ((rc, 3, [e]) :: H) R) : GCalls P f gs ((rc, 3, [.cur]) :: H) R := by
  intro w D Ω args hst hargs
  obtain ⟨e', h1, h2⟩ := hst.exch1 (r := rc) (i := 0) (sz := 3) (es := [.cur]) (p := isC) (by simp [hget]) rfl fun v F h => h.cur
  have e : hset ((rc, 3, [GV.cur]) :: H) rc ([GV.cur].set 0 e') = (rc, 3, [e']) :: H := by simp [hset]
  rw [e] at h2
  exact h e' h1 w D Ω args h2 hargs
theorem hget_split {r : Nat} {x : Nat × List GV} : ∀ {H : GH}, hget H r = some x → ∃ A B, H = A ++ (r, x) :: B ∧ r ∉ names A
  | [], h => by simp [hget] at h
  | (q, y) :: H, h => by
    simp only [hget] at h
    split at h
    · rename_i e
      subst e
      simp only [Option.some.injEq] at h
      subst h
      exact ⟨[], H, rfl, by simp [names]⟩
    · rename_i hne
      obtain ⟨A, B, h1, h2⟩ := hget_split h
      exact ⟨(q, y) :: A, B, by rw [h1]; rfl, by simp only [names, List.map_cons, List.mem_cons, not_or]; exact ⟨fun e => hne e.symm, h2⟩⟩
theorem count_mid {x : Nat} (a b c : List Nat) : (a ++ (b ++ c)).count x = (b ++ (a ++ c)).count x := by
  simp only [List.count_append]; omega
theorem St.mid {w : World} {D : Nat → Prop} {A B : GH} {y : Nat × Nat × List GV} {Ω : List Nat} (h : St w D (A ++ y :: B) Ω) : ∃ Ω', St w D (y :: (A ++ B)) Ω' ∧ (∀ x, x ∈ Ω' ↔ x ∈ Ω) := by
  obtain ⟨Ω1, Ω2, rfl, h1, h2⟩ := HM.parted h.hm
  obtain ⟨r, sz, es⟩ := y
  obtain ⟨F1, F2, rfl, h3, h4⟩ := h2
  refine ⟨F1 ++ (Ω1 ++ F2), ⟨⟨F1, _, rfl, h3, HM.append h1 h4⟩, ?_, ?_, ?_, h.ds⟩, fun x => by simp only [List.mem_append]; exact or_left_comm⟩
  · have := h.nd
    rw [List.nodup_iff_count] at this ⊢
    intro x; rw [← count_mid]; exact this x
  · have := h.nn
    simp only [names, List.map_append, List.map_cons] at this ⊢
    rw [List.nodup_iff_count] at this ⊢
    intro x
    have := this x
    simp only [List.count_append, List.count_cons] at this ⊢
    omega
  · intro x hx
    exact h.dj x (by simp only [List.mem_append] at hx ⊢; exact or_left_comm.1 hx)
theorem St.mid' {w : World} {D : Nat → Prop} {A B : GH} {y : Nat × Nat × List GV} {Ω : List Nat} (h : St w D (y :: (A ++ B)) Ω) : ∃ Ω', St w D (A ++ y :: B) Ω' ∧ (∀ x, x ∈ Ω' ↔ x ∈ Ω) := by
  obtain ⟨r, sz, es⟩ := y
  obtain ⟨F1, F2, rfl, h3, h4⟩ := h.hm
  obtain ⟨Ω1, Ω2, rfl, h1, h2⟩ := HM.parted h4
  refine ⟨Ω1 ++ (F1 ++ Ω2), ⟨HM.append h1 ⟨F1, _, rfl, h3, h2⟩, ?_, ?_, ?_, h.ds⟩, fun x => by simp only [List.mem_append]; exact or_left_comm⟩
  · have := h.nd
    rw [List.nodup_iff_count] at this ⊢
    intro x; rw [count_mid]; exact this x
  · have := h.nn
    simp only [names, List.map_append, List.map_cons] at this ⊢
    rw [List.nodup_iff_count] at this ⊢
    intro x
    have := this x
    simp only [List.count_append, List.count_cons] at this ⊢
    omega
  · intro x hx
    exact h.dj x (by simp only [List.mem_append] at hx ⊢; exact or_left_comm.1 hx)
def Dc (P : Program) (f : FuncId) (gs : List GV) (R : GV → GH → Prop) : Prop :=
  ∀ rc H, GCalls P f (.ptr rc 3 0 0 :: gs) ((rc, 3, [.cur]) :: H) (fun g H' => ∃ H1, R g H1 ∧ H' = H1 ++ (rc, 3, [.cur]) :: H)
abbrev Dv (P : Program) (f : FuncId) (gs : List GV) (R : GV → Prop) : Prop := Dc P f gs (fun g H1 => R g ∧ H1 = [])
theorem Dc.mono {P : Program} {f : FuncId} {gs : List GV} {R R' : GV → GH → Prop} (h : Dc P f gs R) (hr : ∀ g H1, R g H1 → R' g H1) : Dc P f gs R' :=
  fun rc H => (h rc H).mono fun g H' ⟨H1, h1, h2⟩ => ⟨H1, hr g H1 h1, h2⟩
theorem Dc.of {P : Program} {f : FuncId} {gs : List GV} {R : GV → GH → Prop}
    (h : ∀ rc H, GCalls P f (.ptr rc 3 0 0 :: gs) ((rc, 3, [.cur]) :: H) (fun g H' => ∃ G H1 T L, R G H1 ∧ Bor L g G ∧ H' = T ++ H ∧ subH T (L ++ (H1 ++ [(rc, 3, [.cur])])))) : Dc P f gs R :=
  fun rc H => (h rc H).fr fun g H' ⟨G, H1, T, L, h1, h2, h3, h4⟩ => by
    subst h3
    refine ⟨G, H1 ++ (rc, 3, [.cur]) :: H, FR.trans (FR.perm h4) ?_, H1, h1, rfl⟩
    rw [List.append_assoc, List.append_assoc]
    exact FR.front h2
theorem Dv.of {P : Program} {f : FuncId} {gs : List GV} {R : GV → Prop}
    (h : ∀ rc H, GCalls P f (.ptr rc 3 0 0 :: gs) ((rc, 3, [.cur]) :: H) (fun g H' => ∃ G T L, R G ∧ Bor L g G ∧ H' = T ++ H ∧ subH T (L ++ [(rc, 3, [.cur])]))) : Dv P f gs R :=
  Dc.of fun rc H => (h rc H).mono fun g H' ⟨G, T, L, h1, h2, h3, h4⟩ => ⟨G, [], T, L, ⟨h1, rfl⟩, h2, h3, h4⟩
theorem Dc.at {P : Program} {f : FuncId} {gs : List GV} {R : GV → GH → Prop} (h : Dc P f gs R) {rc : Nat} {H : GH} (hr : hget H rc = some (3, [.cur])) :
    GCalls P f (.ptr rc 3 0 0 :: gs) H (fun g H' => ∃ H1, R g H1 ∧ H' = H1 ++ H) := by
  obtain ⟨A, B, rfl, hn⟩ := hget_split hr
  intro w D Ω args hst hargs
  obtain ⟨Ω', h1, h2⟩ := hst.mid
  refine Yld.mono (fun v w' ⟨g, H', D', Ω'', ⟨H1, k0, k1⟩, k2, k3, k4⟩ => ?_) (h rc (A ++ B) w D Ω' args h1 hargs)
  subst k1
  have k3' : St w' D' ((H1 ++ [(rc, 3, [.cur])]) ++ (A ++ B)) Ω'' := by simpa using k3
  obtain ⟨Ω3, m1, m2⟩ : ∃ Ω3, St w' D' (H1 ++ (A ++ (rc, 3, [.cur]) :: B)) Ω3 ∧ ∀ x, x ∈ Ω3 ↔ x ∈ Ω'' := by
    obtain ⟨Ωa, q1, q2⟩ := (show St w' D' (H1 ++ (rc, 3, [GV.cur]) :: (A ++ B)) Ω'' from k3).mid
    rw [← List.append_assoc] at q1
    obtain ⟨Ωb, q3, q4⟩ := q1.mid'
    rw [List.append_assoc] at q3
    exact ⟨Ωb, q3, fun x => (q4 x).trans (q2 x)⟩
  exact ⟨g, _, D', Ω3, ⟨H1, k0, rfl⟩, k2, m1,
    ⟨k4.d0, fun b hb hD => (k4.dn b hb hD).imp id (h2 b).1, fun b hb hl => (h2 b).1 (k4.on b ((m2 b).1 hb) hl), k4.kp.mono fun b _ hb hb' => hb ((h2 b).1 hb'), k4.os, k4.tape, k4.output⟩⟩
end Go.Gh

/- Draws: plain facts. What is drawn is small. -/
namespace Go.Gh
set_option linter.unusedSimpArgs false
set_option linter.unusedVariables false
def shT (s : ByteArray) : Prop := s.size ≤ 16
abbrev ExN (e : Exp) : GV := .agg [I e.kind, I e.n, I e.pos, I e.type, T e.sym, T e.name, .val (.slice none 0 0)]
abbrev ExR (e : Exp) (r : Nat) : GV := .agg [I e.kind, I e.n, I e.pos, I e.type, T e.sym, T e.name, .own r 7 0 e.args.length]
def ExW (e : Exp) (g : GV) (H1 : GH) : Prop := (e.args = [] ∧ g = ExN e ∧ H1 = []) ∨ ∃ r, g = ExR e r ∧ H1 = [(r, 7, e.args.map Ex)]
theorem bor_ExN {H : GH} {e : Exp} (h : e.args = []) : Bor H (ExN e) (Ex e) := by
  rw [Ex_eq, h]
  exact .agg (.cons .refl (.cons .refl (.cons .refl (.cons .refl (.cons .refl (.cons .refl (.cons .nil .nil)))))))
theorem bor_ExR {H : GH} {e : Exp} {r : Nat} (h : hget H r = some (7, e.args.map Ex)) : Bor H (ExR e r) (Ex e) := by
  rw [Ex_eq]
  exact .agg (.cons .refl (.cons .refl (.cons .refl (.cons .refl (.cons .refl (.cons .refl (.cons (Bor.allM view_Ex h rfl) .nil)))))))
theorem ExW.bor {e : Exp} {g : GV} {H1 : GH} (h : ExW e g H1) : Bor H1 g (Ex e) := by
  rcases h with ⟨h, rfl, rfl⟩ | ⟨r, rfl, rfl⟩
  · exact bor_ExN h
  · exact bor_ExR hget_new
instance (s : ByteArray) : Decidable (shT s) := inferInstanceAs (Decidable (s.size ≤ 16))
theorem Dc.own {P : Program} {f : FuncId} {gs : List GV} {p : Exp → Prop} (h : Dc P f gs (fun g H1 => ∃ e, p e ∧ ExW e g H1)) : Dc P f gs (fun g H1 => ∃ e r, p e ∧ g = ExR e r ∧ H1 = [(r, 7, e.args.map Ex)]) := fun rc H =>
  (h rc H).fr fun g H' ⟨H1, ⟨e, h1, h2⟩, h3⟩ => by
    subst h3
    rcases h2 with ⟨h0, rfl, rfl⟩ | ⟨r, rfl, rfl⟩
    · obtain ⟨v, hv, hn⟩ := vfresh (names ((rc, 3, [.cur]) :: H))
      refine ⟨ExR e v, (v, 7, []) :: (rc, 3, [.cur]) :: H, FR.trans (FR.sub ?_) (FR.addv hv hn), [(v, 7, [])], ⟨e, v, h1, rfl, by rw [h0]; rfl⟩, rfl⟩
      have h5 : e.args.length = 0 := by rw [h0]; rfl
      show Bor [] (ExN e) (.agg [I e.kind, I e.n, I e.pos, I e.type, T e.sym, T e.name, .own v 7 0 e.args.length])
      rw [h5]
      exact .agg (.cons .refl (.cons .refl (.cons .refl (.cons .refl (.cons .refl (.cons .refl (.cons Bor.virt .nil)))))))
    · exact ⟨_, _, FR.refl _ _, _, ⟨e, r, h1, rfl, rfl⟩, rfl⟩
end Go.Gh

/- Parsing expressions: what reading an expression yields. -/
namespace Go.Gh
open Lib
set_option linter.unusedSimpArgs false
set_option linter.unusedVariables false
theorem num_lt {ts : List Tok} {i j : Nat} {lo hi n : Int} (h : numP ts i lo hi = .ok n j) : i < ts.length := by
  unfold numP at h
  split at h
  · rename_i hc; exact hc.1
  · cases h
theorem neA_get {r q : Nat} {x : Nat × List GV} : ∀ {H : GH}, neA r H → hget H q = some x → r ≠ q
  | [], _, h => by cases h
  | (p, y) :: H, hn, h => by
    simp only [neA] at hn
    simp only [hget] at h
    split at h
    · rename_i e; subst e; exact hn.1
    · exact neA_get hn.2.2 h
abbrev EO (r : Nat) (e : Exp) : GV := .agg [I e.kind, I e.n, I e.pos, I e.type, T e.sym, T e.name, .own r 7 0 e.args.length]
def EP (S : Nat → Bool → GV) (P : PR Exp) (rp : Nat) (H : GH) (g : GV) (H' : GH) : Prop :=
  ∃ e r, g = EO r e ∧ H' = (r, 7, e.args.map ExO) :: hset H rp [S P.at P.err] ∧ ∀ a j, P = .ok a j → e = a
theorem FR.nilE {e : Exp} (he : e.args = []) (H : GH) : ∃ r, FR (ExN e) H (EO r e) ((r, 7, e.args.map ExO) :: H) := by
  obtain ⟨r, ho, hq⟩ := vfresh (names H)
  refine ⟨r, ?_⟩
  have hl : e.args.length = 0 := by rw [he]; rfl
  show FR (ExN e) H (.agg [I e.kind, I e.n, I e.pos, I e.type, T e.sym, T e.name, .own r 7 0 e.args.length]) ((r, 7, e.args.map ExO) :: H)
  rw [hl, he]
  exact FR.trans (FR.addv ho hq) (FR.sub (.agg (.cons .refl (.cons .refl (.cons .refl (.cons .refl (.cons .refl (.cons .refl (.cons .virt .nil)))))))))
end Go.Gh

/- Parsing expressions: where reading ends. -/
namespace Go.Gh
open Lib
set_option linter.unusedSimpArgs false
set_option linter.unusedVariables false
variable {ts : List Tok}
def BdA {α : Type} (ts : List Tok) (i : Nat) (P : PR α) : Prop := i ≤ ts.length → i ≤ P.at ∧ P.at ≤ ts.length
theorem BdA.bind {α β : Type} {i : Nat} {P : PR α} {f : α → Nat → PR β} (h : BdA ts i P) (hf : ∀ a j, BdA ts j (f a j)) : BdA ts i (P.bind f) := by
  intro hi
  cases P with
  | bad k => exact h hi
  | ok b k =>
    obtain ⟨h1, h2⟩ := h hi
    obtain ⟨h3, h4⟩ := hf b k h2
    exact ⟨Nat.le_trans h1 h3, h4⟩
theorem BdA.ite {α : Type} {i : Nat} {c : Prop} [Decidable c] {a b : PR α} (h1 : c → BdA ts i a) (h2 : ¬c → BdA ts i b) : BdA ts i (if c then a else b) := by
  by_cases h : c
  · rw [if_pos h]; exact h1 h
  · rw [if_neg h]; exact h2 h
theorem BdA.ok {α : Type} {i : Nat} (a : α) : BdA ts i (PR.ok a i) := fun h => ⟨Nat.le_refl _, h⟩
theorem BdA.next {α : Type} {i : Nat} (a : α) (h : i < ts.length) : BdA ts i (PR.ok a (i + 1)) := fun _ => ⟨Nat.le_succ _, h⟩
theorem BdA.bad {α : Type} {i : Nat} : BdA ts i (PR.bad i : PR α) := fun h => ⟨Nat.le_refl _, h⟩
theorem BdA.skip {α : Type} {i : Nat} {P : PR α} (h : i < ts.length) (hP : BdA ts (i + 1) P) : BdA ts i P := fun _ => by
  obtain ⟨h1, h2⟩ := hP h
  exact ⟨by omega, h2⟩
theorem ba_take (i : Nat) (w : ByteArray) : BdA ts i (takeW ts i w) := by
  unfold takeW; split
  · rename_i h; exact .next _ (sees_lt h)
  · exact .bad
theorem ba_num (i : Nat) (lo hi : Int) : BdA ts i (numP ts i lo hi) := by
  unfold numP; split
  · rename_i h; exact .next _ h.1
  · exact .bad
theorem ba_name (i : Nat) : BdA ts i (nameP ts i) := by
  unfold nameP; split
  · rename_i h; exact .next _ h.1
  · exact .bad
theorem ba_set : ∀ (f i : Nat) (l s : Int), BdA ts i (setP ts f i l s)
  | 0, i, l, s => .bad
  | f + 1, i, l, s => by
    simp only [setP]
    split
    · rename_i h; exact .next _ (sees_lt h)
    · exact (ba_num i l 11).bind fun _ j => ba_set f j _ _
theorem ba_row {X : Nat → PR Exp} (hX : ∀ i, BdA ts i (X i)) (lv : Nat) : ∀ (f : Nat) (e : Exp) (i : Nat), BdA ts i (rowP ts X lv f e i)
  | 0, e, i => .bad
  | f + 1, e, i => by
    simp only [rowP]
    split
    · exact .ok _
    · rename_i h
      refine .skip (op_lt h) ((hX _).bind fun b j => ?_)
      split
      · exact .ok _
      · exact ba_row hX lv f _ _
theorem ba_lv {X : Nat → PR Exp} (hX : ∀ i, BdA ts i (X i)) (lv i : Nat) : BdA ts i (lvP ts X lv i) := (hX i).bind fun e j => ba_row hX lv _ _ _
theorem ba_atom {E A : Nat → PR Exp} (hE : ∀ i, BdA ts i (E i)) (hA : ∀ i, BdA ts i (A i)) (i : Nat) : BdA ts i (atomP ts E A i) := by
  unfold atomP
  dsimp only
  refine BdA.ite (fun _ => .bad) fun hi => ?_
  have hi : i < ts.length := Decidable.not_not.1 hi
  refine BdA.ite (fun _ => ?_) (fun _ => ?_)
  · exact .next _ hi
  refine BdA.ite (fun _ => ?_) (fun _ => ?_)
  · exact .skip hi ((ba_set _ _ _ _).bind fun _ _ => .ok _)
  refine BdA.ite (fun _ => ?_) (fun _ => ?_)
  · exact .next _ hi
  refine BdA.ite (fun _ => ?_) (fun _ => ?_)
  · exact .next _ hi
  refine BdA.ite (fun _ => ?_) (fun _ => ?_)
  · exact .next _ hi
  refine BdA.ite (fun _ => ?_) (fun _ => ?_)
  · exact .next _ hi
  refine BdA.ite (fun _ => ?_) (fun _ => ?_)
  · exact .skip hi ((ba_num _ _ _).bind fun _ _ => (ba_take _ _).bind fun _ _ => (ba_name _).bind fun _ _ => .ok _)
  refine BdA.ite (fun _ => ?_) (fun _ => ?_)
  · exact .skip hi ((ba_take _ _).bind fun _ _ => (ba_num _ _ _).bind fun _ _ => (ba_take _ _).bind fun _ _ => .ok _)
  refine BdA.ite (fun _ => ?_) (fun _ => ?_)
  · exact .skip hi ((hE _).bind fun _ _ => (ba_take _ _).bind fun _ _ => .ok _)
  refine BdA.ite (fun _ => ?_) (fun _ => ?_)
  · exact .skip hi ((ba_take _ _).bind fun _ _ => (hE _).bind fun _ _ => (ba_take _ _).bind fun _ _ => (hE _).bind fun _ _ => (ba_take _ _).bind fun _ _ => .ok _)
  · exact (ba_name _).bind fun _ _ => (ba_take _ _).bind fun _ _ => (ba_name _).bind fun _ _ => (ba_take _ _).bind fun _ _ => (hA _).bind fun _ _ => .ok _
theorem ba_expr {E A : Nat → PR Exp} (hE : ∀ i, BdA ts i (E i)) (hA : ∀ i, BdA ts i (A i)) (i : Nat) : BdA ts i (exprP ts E A i) := by
  unfold exprP
  split
  · rename_i h
    exact .skip (sees_lt h) ((hE _).bind fun _ _ => (ba_take _ _).bind fun _ _ => (hE _).bind fun _ _ => (ba_take _ _).bind fun _ _ => (hE _).bind fun _ _ => .ok _)
  · exact ba_lv (fun i => ba_lv (fun i => ba_lv hA 3 i) 2 i) 1 i
mutual
theorem ba_E : ∀ (f i : Nat), BdA ts i (pE ts f i)
  | 0, i => .bad
  | f + 1, i => ba_expr (fun i => ba_E f i) (fun i => ba_A f i) i
theorem ba_A : ∀ (f i : Nat), BdA ts i (pA ts f i)
  | 0, i => .bad
  | f + 1, i => ba_atom (fun i => ba_E f i) (fun i => ba_A f i) i
end
theorem frm_bd {α : Type} {b : Bool} {F : Nat → PR α} {i : Nat} (hF : BdA ts i (F i)) (hi : i ≤ ts.length) : (frm b F i).at ≤ ts.length := by
  cases b with
  | true => exact hi
  | false => exact (hF hi).2
end Go.Gh

/- Parsing expressions: enough fuel is enough. -/
namespace Go.Gh
open Lib
set_option linter.unusedSimpArgs false
set_option linter.unusedVariables false
variable {ts : List Tok}
theorem bc {α β : Type} {i : Nat} (hi : i ≤ ts.length) {P Q : PR α} (hP : BdA ts i P) (h : P = Q) {f g : α → Nat → PR β} (hf : ∀ a j, i ≤ j → j ≤ ts.length → f a j = g a j) : P.bind f = Q.bind g := by
  subst h
  cases P with
  | bad k => rfl
  | ok a k => exact hf a k (hP hi).1 (hP hi).2
theorem row_congr {X X' : Nat → PR Exp} (hb : ∀ i, BdA ts i (X i)) (lv : Nat) : ∀ (F : Nat) (e : Exp) (i : Nat), i ≤ ts.length → (∀ j, i < j → j ≤ ts.length → X j = X' j) → rowP ts X lv F e i = rowP ts X' lv F e i
  | 0, e, i, _, _ => rfl
  | F + 1, e, i, hi, h => by
    simp only [rowP]
    split
    · rfl
    · rename_i ho
      have hlt := op_lt ho
      refine bc (i := i + 1) hlt (hb _) (h _ (by omega) hlt) fun b j h1 h2 => ?_
      split
      · rfl
      · exact row_congr hb lv F _ j h2 fun q hq hq2 => h q (by omega) hq2
theorem lv_congr {X X' : Nat → PR Exp} (hb : ∀ i, BdA ts i (X i)) (lv i : Nat) (hi : i ≤ ts.length) (h : ∀ j, i ≤ j → j ≤ ts.length → X j = X' j) : lvP ts X lv i = lvP ts X' lv i :=
  bc hi (hb i) (h i (Nat.le_refl _) hi) fun e j h1 h2 => row_congr hb lv _ e j h2 fun q hq hq2 => h q (by omega) hq2
theorem atom_congr {E E' A A' : Nat → PR Exp} (hE : ∀ i, BdA ts i (E i)) (hA : ∀ i, BdA ts i (A i)) (i : Nat) (hi : i ≤ ts.length) (h1 : ∀ j, i < j → j ≤ ts.length → E j = E' j) (h2 : ∀ j, i < j → j ≤ ts.length → A j = A' j) : atomP ts E A i = atomP ts E' A' i := by
  by_cases hlt : i < ts.length
  · unfold atomP
    dsimp only
    rw [if_neg (not_not_intro hlt), if_neg (not_not_intro hlt)]
    have hi1 : i + 1 ≤ ts.length := hlt
    have e1 : (E (i + 1)).bind (fun e j => (takeW ts j wRP).bind fun _ j => PR.ok e j) = (E' (i + 1)).bind (fun e j => (takeW ts j wRP).bind fun _ j => PR.ok e j) := bc hi1 (hE _) (h1 _ (by omega) hi1) fun _ _ _ _ => rfl
    have e2 : ((takeW ts (i + 1) wLP).bind fun _ j => (E j).bind fun a j => (takeW ts j wComma).bind fun _ j => (E j).bind fun b j => (takeW ts j wRP).bind fun _ j => PR.ok (opE (funO (ts.getD i tokZ).text) a b) j) = ((takeW ts (i + 1) wLP).bind fun _ j => (E' j).bind fun a j => (takeW ts j wComma).bind fun _ j => (E' j).bind fun b j => (takeW ts j wRP).bind fun _ j => PR.ok (opE (funO (ts.getD i tokZ).text) a b) j) :=
      bc hi1 (ba_take _ _) rfl fun _ j q1 q2 => bc q2 (hE _) (h1 _ (by omega) q2) fun a k q3 q4 => bc q4 (ba_take _ _) rfl fun _ m q5 q6 => bc q6 (hE _) (h1 _ (by omega) q6) fun _ _ _ _ => rfl
    have e3 : ((nameP ts i).bind fun s j => (takeW ts j wDot).bind fun _ j => (nameP ts j).bind fun n j => (takeW ts j wOf).bind fun _ j => (A j).bind fun e j => PR.ok (Exp.mk 8 0 0 0 s n [e]) j) = ((nameP ts i).bind fun s j => (takeW ts j wDot).bind fun _ j => (nameP ts j).bind fun n j => (takeW ts j wOf).bind fun _ j => (A' j).bind fun e j => PR.ok (Exp.mk 8 0 0 0 s n [e]) j) := by
      cases hn : nameP ts i with
      | bad k => rfl
      | ok s k =>
        have hk := name_nx hn
        subst hk
        show (takeW ts (i + 1) wDot).bind _ = (takeW ts (i + 1) wDot).bind _
        exact bc hi1 (ba_take _ _) rfl fun _ j q1 q2 => bc q2 (ba_name _) rfl fun _ k q3 q4 => bc q4 (ba_take _ _) rfl fun _ m q5 q6 => bc q6 (hA _) (h2 _ (by omega) q6) fun _ _ _ _ => rfl
    rw [e1, e2, e3]
  · unfold atomP
    dsimp only
    rw [if_pos hlt, if_pos hlt]
theorem expr_congr {E E' A A' : Nat → PR Exp} (hE : ∀ i, BdA ts i (E i)) (hA : ∀ i, BdA ts i (A i)) (i : Nat) (hi : i ≤ ts.length) (h1 : ∀ j, i < j → j ≤ ts.length → E j = E' j) (h2 : ∀ j, i ≤ j → j ≤ ts.length → A j = A' j) : exprP ts E A i = exprP ts E' A' i := by
  unfold exprP
  split
  · rename_i hs
    have hi1 : i + 1 ≤ ts.length := sees_lt hs
    exact bc hi1 (hE _) (h1 _ (by omega) hi1) fun a j q1 q2 => bc q2 (ba_take _ _) rfl fun _ k q3 q4 => bc q4 (hE _) (h1 _ (by omega) q4) fun b m q5 q6 => bc q6 (ba_take _ _) rfl fun _ n q7 q8 => bc q8 (hE _) (h1 _ (by omega) q8) fun _ _ _ _ => rfl
  · refine lv_congr (fun i => ba_lv (fun i => ba_lv hA 3 i) 2 i) 1 i hi fun j a b => lv_congr (fun i => ba_lv hA 3 i) 2 j b fun k c d => lv_congr hA 3 k d fun m e f => h2 m (by omega) f
mutual
theorem fuel_E : ∀ (f f' i : Nat), i ≤ ts.length → 2 * (ts.length - i) + 2 ≤ f → 2 * (ts.length - i) + 2 ≤ f' → pE ts f i = pE ts f' i
  | 0, f', i, _, h, _ => by omega
  | f + 1, 0, i, _, _, h => by omega
  | f + 1, f' + 1, i, hi, h, h' => expr_congr (ba_E f) (ba_A f) i hi (fun j a b => fuel_E f f' j b (by omega) (by omega)) (fun j a b => fuel_A f f' j b (by omega) (by omega))
theorem fuel_A : ∀ (f f' i : Nat), i ≤ ts.length → 2 * (ts.length - i) + 1 ≤ f → 2 * (ts.length - i) + 1 ≤ f' → pA ts f i = pA ts f' i
  | 0, f', i, _, h, _ => by omega
  | f + 1, 0, i, _, _, h => by omega
  | f + 1, f' + 1, i, hi, h, h' => by
    by_cases hlt : i < ts.length
    · exact atom_congr (ba_E f) (ba_A f) i hi (fun j a b => fuel_E f f' j b (by omega) (by omega)) (fun j a b => fuel_A f f' j b (by omega) (by omega))
    · show atomP ts (pE ts f) (pA ts f) i = atomP ts (pE ts f') (pA ts f') i
      unfold atomP
      dsimp only
      rw [if_pos hlt, if_pos hlt]
end
def rE (ts : List Tok) (i : Nat) : PR Exp := pE ts (2 * ts.length + 4) i
def rA (ts : List Tok) (i : Nat) : PR Exp := pA ts (2 * ts.length + 4) i
theorem rE_bd (i : Nat) : BdA ts i (rE ts i) := ba_E _ i
theorem rA_bd (i : Nat) : BdA ts i (rA ts i) := ba_A _ i
theorem rE_eq {i : Nat} (hi : i ≤ ts.length) : rE ts i = exprP ts (rE ts) (rA ts) i :=
  expr_congr (ba_E _) (ba_A _) i hi (fun j a b => fuel_E _ _ j b (by omega) (by omega)) (fun j a b => fuel_A _ _ j b (by omega) (by omega))
theorem rA_eq {i : Nat} (hi : i ≤ ts.length) : rA ts i = atomP ts (rE ts) (rA ts) i :=
  atom_congr (ba_E _) (ba_A _) i hi (fun j a b => fuel_E _ _ j b (by omega) (by omega)) (fun j a b => fuel_A _ _ j b (by omega) (by omega))
end Go.Gh
namespace Go.Gh
variable {ts : List Tok}
theorem sees_isW {i : Nat} (h : i < ts.length) (w : ByteArray) : isW (ts.getD i tokZ) w = sees ts i w := by unfold sees; rw [decide_eq_true h, Bool.true_and]
def okNs (ts : List Tok) : Prop := ∀ t ∈ ts, t.kind = 2 → 0 ≤ t.num ∧ t.num ≤ 1000000
def EN (S : Nat → Bool → GV) (P : PR Exp) (rp : Nat) (H : GH) (g : GV) (H' : GH) : Prop :=
  ∃ e, e.args = [] ∧ g = ExN e ∧ H' = hset H rp [S P.at P.err] ∧ ∀ a j, P = .ok a j → e = a
def E1 (S : Nat → Bool → GV) (P : PR Exp) (rp : Nat) (H : GH) (g : GV) (H' : GH) : Prop :=
  ∃ s m a r q, q ≠ r ∧ g = EO q (.mk 8 0 0 0 s m [a]) ∧ H' = (q, 7, [EO r a]) :: (r, 7, a.args.map ExO) :: hset H rp [S P.at P.err] ∧ ∀ x j, P = .ok x j → (.mk 8 0 0 0 s m [a]) = x
def E3 (S : Nat → Bool → GV) (P : PR Exp) (rp : Nat) (H : GH) (g : GV) (H' : GH) : Prop :=
  ∃ a b c ra rb rc q, q ≠ ra ∧ q ≠ rb ∧ q ≠ rc ∧ rc ≠ ra ∧ rc ≠ rb ∧ rb ≠ ra ∧ g = EO q (.mk 5 0 0 0 noS noS [a, b, c]) ∧ H' = (q, 7, [EO ra a, EO rb b, EO rc c]) :: (rc, 7, c.args.map ExO) :: (rb, 7, b.args.map ExO) :: (ra, 7, a.args.map ExO) :: hset H rp [S P.at P.err] ∧ ∀ x j, P = .ok x j → (.mk 5 0 0 0 noS noS [a, b, c]) = x
theorem closeO {g : GV} {q r : Nat} {pre suf : List GV} {a : Exp} {U : GH} (hne : q ≠ r) (hr : hget U r = some (7, a.args.map ExO)) : FR g ((q, 7, pre ++ EO r a :: suf) :: U) g ((q, 7, pre ++ ExO a :: suf) :: hdel U r) := by
  have h := FR.close (g := g) (H := (q, 7, pre ++ EO r a :: suf) :: U) (r := q) (r1 := r) (sz := 7) (sz1 := 7) (i := pre.length) (j := 6) (n := a.args.length) (es := pre ++ EO r a :: suf) (gs := [I a.kind, I a.n, I a.pos, I a.type, T a.sym, T a.name, .own r 7 0 a.args.length]) (ks := a.args.map ExO) hne hget_new (by simp) rfl (by rw [hget_old hne]; exact hr) (by simp)
  rw [hset_new] at h
  have e1 : (pre ++ EO r a :: suf).set pre.length (.agg ([I a.kind, I a.n, I a.pos, I a.type, T a.sym, T a.name, .own r 7 0 a.args.length].set 6 (.osl 7 (a.args.map ExO)))) = pre ++ ExO a :: suf := by
    rw [ExO_eq]
    simp
  rw [e1] at h
  have e2 : hdel ((q, 7, pre ++ ExO a :: suf) :: U) r = (q, 7, pre ++ ExO a :: suf) :: hdel U r := by simp [hdel, hne]
  rw [e2] at h
  exact h
theorem EP.of {P : Program} {f : FuncId} {gs : List GV} {H : GH} {S : Nat → Bool → GV} {R : PR Exp} {rp : Nat} (h : GCalls P f gs H (fun g H' => EP S R rp H g H' ∨ EN S R rp H g H' ∨ E1 S R rp H g H' ∨ E3 S R rp H g H')) : GCalls P f gs H (EP S R rp H) := by
  refine h.fr ?_
  rintro g H' (h | ⟨e, he, rfl, rfl, hx⟩ | ⟨s, m, a, r, q, hqr, rfl, rfl, hx⟩ | ⟨a, b, c, ra, rb, rc, q, h1, h2, h3, h4, h5, h6, rfl, rfl, hx⟩)
  · exact ⟨g, H', FR.refl _ _, h⟩
  · obtain ⟨r, hf⟩ := FR.nilE he (hset H rp [S R.at R.err])
    exact ⟨_, _, hf, e, r, rfl, rfl, hx⟩
  · have c1 := closeO (g := EO q (.mk 8 0 0 0 s m [a])) (pre := []) (suf := []) (U := (r, 7, a.args.map ExO) :: hset H rp [S R.at R.err]) hqr hget_new
    rw [show hdel ((r, 7, a.args.map ExO) :: hset H rp [S R.at R.err]) r = hset H rp [S R.at R.err] by simp [hdel]] at c1
    exact ⟨_, _, c1, _, q, rfl, rfl, hx⟩
  · have c1 := closeO (g := EO q (.mk 5 0 0 0 noS noS [a, b, c])) (pre := [EO ra a, EO rb b]) (suf := []) (U := (rc, 7, c.args.map ExO) :: (rb, 7, b.args.map ExO) :: (ra, 7, a.args.map ExO) :: hset H rp [S R.at R.err]) h3 hget_new
    rw [show hdel ((rc, 7, c.args.map ExO) :: (rb, 7, b.args.map ExO) :: (ra, 7, a.args.map ExO) :: hset H rp [S R.at R.err]) rc = (rb, 7, b.args.map ExO) :: (ra, 7, a.args.map ExO) :: hset H rp [S R.at R.err] by simp [hdel]] at c1
    have c2 := closeO (g := EO q (.mk 5 0 0 0 noS noS [a, b, c])) (pre := [EO ra a]) (suf := [ExO c]) (U := (rb, 7, b.args.map ExO) :: (ra, 7, a.args.map ExO) :: hset H rp [S R.at R.err]) h2 hget_new
    rw [show hdel ((rb, 7, b.args.map ExO) :: (ra, 7, a.args.map ExO) :: hset H rp [S R.at R.err]) rb = (ra, 7, a.args.map ExO) :: hset H rp [S R.at R.err] by simp [hdel]] at c2
    have c3 := closeO (g := EO q (.mk 5 0 0 0 noS noS [a, b, c])) (pre := []) (suf := [ExO b, ExO c]) (U := (ra, 7, a.args.map ExO) :: hset H rp [S R.at R.err]) h1 hget_new
    rw [show hdel ((ra, 7, a.args.map ExO) :: hset H rp [S R.at R.err]) ra = hset H rp [S R.at R.err] by simp [hdel]] at c3
    exact ⟨_, _, FR.trans c1 (FR.trans c2 c3), _, q, rfl, rfl, hx⟩
end Go.Gh

/- Parsing expressions: a chain of readings. -/
namespace Go.Gh
open Lib
theorem frm_bind {α β : Type} (P : PR α) (F : Nat → PR β) : frm P.err F P.at = P.bind fun _ => F := by cases P <;> rfl
theorem bind_as {α β γ : Type} (P : PR α) (f : α → Nat → PR β) (g : β → Nat → PR γ) : (P.bind f).bind g = P.bind fun a j => (f a j).bind g := by cases P <;> rfl
def StP {α β : Type} (P : PR α) (Q : PR β) : Prop := P.at = Q.at ∧ P.err = Q.err
theorem StP.bind {α β γ : Type} (P : PR α) {f : α → Nat → PR β} {f' : α → Nat → PR γ} (h : ∀ a j, StP (f a j) (f' a j)) : StP (P.bind f) (P.bind f') := by
  cases P with
  | bad k => exact ⟨rfl, rfl⟩
  | ok a k => exact h a k
theorem StP.last {α β : Type} (P : PR α) (f : α → β) : StP P (P.bind fun a j => .ok (f a) j) := by cases P <;> exact ⟨rfl, rfl⟩
theorem frm_ge {ts : List Tok} {α : Type} {b : Bool} {F : Nat → PR α} {i : Nat} (hF : BdA ts i (F i)) (hi : i ≤ ts.length) : i ≤ (frm b F i).at := by
  cases b with
  | true => exact Nat.le_refl _
  | false => exact (hF hi).1
end Go.Gh

/- Parsing expressions: what tokens are. -/
namespace Go.Gh
open Lib
set_option linter.unusedSimpArgs false
set_option linter.unusedVariables false
theorem spanL_take (p : UInt8 → Bool) : ∀ (l : List UInt8), ∀ c ∈ l.take (spanL p l), p c = true
  | [], c, h => by simp at h
  | d :: l, c, h => by
    simp only [spanL] at h
    split at h
    · rename_i hd
      rw [List.take_succ_cons, List.mem_cons] at h
      rcases h with rfl | h
      · exact hd
      · exact spanL_take p l c h
    · simp at h
theorem valD_nn : ∀ (w : List UInt8) (n : Int), 0 ≤ n → (∀ c ∈ w, digV c = true) → 0 ≤ w.foldl (fun n c => 10 * n + ((c.toNat : Int) - 48)) n
  | [], n, h, _ => h
  | c :: w, n, h, hd => by
    have hc := hd c (by simp)
    have h48 : 48 ≤ c.toNat := by
      simp only [digV, Bool.and_eq_true, decide_eq_true_eq] at hc
      first | exact hc.1 | omega
    exact valD_nn w _ (show 0 ≤ 10 * n + ((c.toNat : Int) - 48) by omega) fun x hx => hd x (by simp [hx])
def okT (t : Tok) : Prop := (t.kind = 1 → shp (chars t.text) = true) ∧ (chars t.text).length ≤ 8 ∧ (t.kind = 2 → 0 ≤ t.num ∧ t.num ≤ 1000000)
theorem tokN_ok {l : List UInt8} {k : Nat} (h : (tokN l k).2 ≠ 0) : okT (tokN l k).1 := by
  unfold tokN at h ⊢
  split at h
  · rename_i hk
    split at h
    · rename_i hl
      split at h
      · rename_i h8
        rw [dif_pos hk, if_pos hl, if_pos h8]
        refine ⟨fun _ => ?_, ?_, fun h => (by cases h)⟩
        · show shp ((l.drop k).take (spanL alnV (l.drop k))) = true
          rw [spanL_step hk (by unfold alnV; rw [hl]; rfl), List.drop_eq_getElem_cons hk, List.take_succ_cons]
          simp only [shp, hl, Bool.true_and, List.all_eq_true]
          intro c hc
          exact spanL_take alnV _ c hc
        · show ((l.drop k).take (spanL alnV (l.drop k))).length ≤ 8
          rw [List.length_take]
          omega
      · exact absurd rfl h
    · rename_i hl
      split at h
      · rename_i hd
        cases hn : numT ((l.drop k).take (spanL digV (l.drop k))) with
        | none => rw [hn] at h; exact absurd rfl h
        | some n =>
          rw [dif_pos hk, if_neg hl, if_pos hd]
          simp only [hn]
          refine ⟨fun h => (by cases h), (by show (0 : Nat) ≤ 8; decide), fun _ => ⟨?_, (numT_some hn).2⟩⟩
          unfold numT at hn
          split at hn
          · cases hn
            exact valD_nn _ 0 (by decide) (spanL_take digV _)
          · cases hn
      · rename_i hd
        split at h
        · rename_i hs
          rw [dif_pos hk, if_neg hl, if_neg hd, if_pos hs]
          exact ⟨fun h => (by cases h), by show 1 ≤ 8; decide, fun h => (by cases h)⟩
        · rename_i hs
          split at h
          · rename_i he
            rw [dif_pos hk, if_neg hl, if_neg hd, if_neg hs, if_pos he]
            exact ⟨fun h => (by cases h), by show 2 ≤ 8; decide, fun h => (by cases h)⟩
          · exact absurd rfl h
  · exact absurd rfl h
theorem tokL_all {l : List UInt8} {Q : Tok → Prop} (hQ : ∀ k, (tokN l k).2 ≠ 0 → Q (tokN l k).1) : ∀ (f k : Nat) (out : List Tok), (∀ t ∈ out, Q t) → ∀ t ∈ (tokL l f k out).1, Q t
  | 0, k, out, h => by simp [tokL]
  | f + 1, k, out, h => by
    simp only [tokL]
    split
    · split
      · exact tokL_all hQ f _ _ h
      · split
        · simp
        · rename_i h1
          refine tokL_all hQ f _ _ fun t ht => ?_
          rcases List.mem_append.1 ht with ht | ht
          · exact h t ht
          · rw [List.mem_singleton] at ht
            subst ht
            exact hQ k (fun e => h1 (.inl e))
    · exact h
theorem tokz_ok (l : List UInt8) : ∀ t ∈ (tokz l).1, okT t := by
  unfold tokz
  split
  · simp
  · exact tokL_all (fun k h => tokN_ok h) _ _ _ (by simp)
theorem tokz_okTs (l : List UInt8) : okTs (tokz l).1 := fun t ht => ⟨(tokz_ok l t ht).1, (tokz_ok l t ht).2.1⟩
theorem tokz_okNs (l : List UInt8) : okNs (tokz l).1 := fun t ht => (tokz_ok l t ht).2.2
end Go.Gh

/- Parsing expressions: the reference's reader. -/
namespace Go.Gh
open Lib
set_option linter.unusedSimpArgs false
set_option linter.unusedVariables false
variable {ts : List Tok}
def offT (ts : List Tok) (n : Int) (i : Nat) : Int := if i < ts.length then (ts.getD i tokZ).at' else n
def bdO (ts : List Tok) (n : Int) (i : Nat) (b : Bool) : Int := if b = true then offT ts n i else -1
theorem bdO_t (n : Int) (i : Nat) : bdO ts n i true = offT ts n i := rfl
theorem bdO_f (n : Int) (i : Nat) : bdO ts n i false = -1 := rfl
theorem m1lt : ((-1 : Int) < 0) = True := eq_true (by decide)
theorem m1ge : (0 ≤ (-1 : Int)) = False := eq_false (by decide)
theorem offT_lt {n : Int} {i : Nat} (h : i < ts.length) : offT ts n i = ts[i].at' := by unfold offT; rw [if_pos h, getD_lt h]
theorem offT_ge {n : Int} {i : Nat} (h : ts.length ≤ i) : offT ts n i = n := by unfold offT; rw [if_neg (by omega)]
abbrev SpG (ts : List Tok) (n : Int) (i : Nat) (b : Bool) : GV := .agg [TkS ts, I i, I n, I (bdO ts n i b)]
structure OkR (ts : List Tok) (n : Int) : Prop where
  len : ts.length ≤ 80
  txt : okTs ts
  num : okNs ts
  off : ∀ t ∈ ts, 0 ≤ t.at'
  fin : 0 ≤ n
theorem OkR.nn {n : Int} (h : OkR ts n) (i : Nat) : 0 ≤ offT ts n i := by
  unfold offT
  split
  · rename_i hi
    rw [getD_lt hi]
    exact h.off _ (List.getElem_mem hi)
  · exact h.fin
theorem OkR.ng {n : Int} (h : OkR ts n) (i : Nat) : (offT ts n i < 0) = False := eq_false (by have := h.nn i; omega)
theorem OkR.ge {n : Int} (h : OkR ts n) (i : Nat) : (0 ≤ offT ts n i) = True := eq_true (h.nn i)
theorem okR_tokz (l : List UInt8) : OkR (tokz l).1 l.length := ⟨tokz_len l, tokz_okTs l, tokz_okNs l, fun t h => (tokz_at l t h).1, by omega⟩
end Go.Gh

/- Parsing expressions: sizes of what is read. -/
namespace Go.Gh
open Lib
set_option linter.unusedSimpArgs false
set_option linter.unusedVariables false
variable {ts : List Tok}
def SzP (P : Nat → PR Exp) : Prop := ∀ i e j, P i = .ok e j → okE e ∧ wEx e + 17 * i ≤ 17 * j
theorem sz_name (ht : okTs ts) {i j : Nat} {s : ByteArray} (h : nameP ts i = .ok s j) : s.size ≤ maxLen ∧ (chars s).length ≤ 8 ∧ j = i + 1 := by
  have hj := name_nx h
  unfold nameP at h
  split at h
  · rename_i hc
    cases h
    have := (ht (ts.getD i tokZ) (by rw [getD_lt hc.1]; exact List.getElem_mem hc.1)).2
    refine ⟨?_, this, rfl⟩
    rw [size_chars]
    exact Nat.le_trans this (by decide)
  · cases h
theorem sz_noS : noS.size ≤ maxLen ∧ (chars noS).length = 0 := ⟨by decide, rfl⟩
theorem sz_op (o : Int) {a b : Exp} (ha : okE a) (hb : okE b) : okE (opE o a b) ∧ wEx (opE o a b) = 2 + wEx a + wEx b := by
  refine ⟨⟨sz_noS.1, sz_noS.1, ha, hb, trivial⟩, ?_⟩
  show (chars noS).length + (chars noS).length + (2 + (wEx a + (wEx b + 0))) = _
  rw [sz_noS.2]
  omega
theorem sz_leaf (k n p t : Int) : okE (.mk k n p t noS noS []) ∧ wEx (.mk k n p t noS noS []) = 0 := ⟨⟨sz_noS.1, sz_noS.1, trivial⟩, rfl⟩
theorem sz_row {X : Nat → PR Exp} {lv : Nat} (hX : SzP X) : ∀ (F : Nat) (e : Exp) (i i0 : Nat) (r : Exp) (j : Nat), okE e → wEx e + 17 * i0 ≤ 17 * i → rowP ts X lv F e i = .ok r j → okE r ∧ wEx r + 17 * i0 ≤ 17 * j
  | 0, e, i, i0, r, j, _, _, h => by cases h
  | F + 1, e, i, i0, r, j, ho, hi, h => by
    simp only [rowP] at h
    split at h
    · cases h; exact ⟨ho, hi⟩
    · obtain ⟨b, k, e1, e2⟩ := bind_ok h
      obtain ⟨b1, b2⟩ := hX _ _ _ e1
      obtain ⟨c1, c2⟩ := sz_op (Go.Gh.opAt ts i lv) ho b1
      split at e2
      · cases e2; exact ⟨c1, by omega⟩
      · exact sz_row hX F _ _ i0 r j c1 (by omega) e2
theorem sz_lv {X : Nat → PR Exp} {lv : Nat} (hX : SzP X) : SzP (lvP ts X lv) := by
  intro i e j h
  unfold lvP at h
  obtain ⟨a, k, e1, e2⟩ := bind_ok h
  obtain ⟨a1, a2⟩ := hX _ _ _ e1
  exact sz_row hX _ a k i e j a1 a2 e2
theorem sz_set : ∀ (F i : Nat) (l s : Int) (r : Int) (j : Nat), setP ts F i l s = .ok r j → i ≤ j
  | 0, i, l, s, r, j, h => by cases h
  | F + 1, i, l, s, r, j, h => by
    simp only [setP] at h
    split at h
    · cases h; omega
    · obtain ⟨n, k, e1, e2⟩ := bind_ok h
      have h1 := (num_nx e1).1
      have := sz_set F _ _ _ r j e2
      omega
theorem sz_atom (ht : okTs ts) {E A : Nat → PR Exp} (hE : SzP E) (hA : SzP A) : SzP (atomP ts E A) := by
  intro i e j h
  unfold atomP at h
  dsimp only at h
  rcases ite_c h with ⟨hc, h⟩ | ⟨hc, h⟩
  · cases h
  rcases ite_c h with ⟨hc, h⟩ | ⟨hc, h⟩
  · cases h; exact ⟨(sz_leaf _ _ _ _).1, by have := (sz_leaf 1 (ts.getD i tokZ).num 0 1).2; unfold conE; omega⟩
  rcases ite_c h with ⟨hc, h⟩ | ⟨hc, h⟩
  · obtain ⟨s, k, e1, e2⟩ := bind_ok h
    cases e2
    have := sz_set _ _ _ _ _ _ e1
    exact ⟨(sz_leaf _ _ _ _).1, by have := (sz_leaf 1 s 0 2).2; unfold conE; omega⟩
  rcases ite_c h with ⟨hc, h⟩ | ⟨hc, h⟩
  · cases h; exact ⟨(sz_leaf _ _ _ _).1, by have := (sz_leaf 1 1 0 3).2; unfold conE; omega⟩
  rcases ite_c h with ⟨hc, h⟩ | ⟨hc, h⟩
  · cases h; exact ⟨(sz_leaf _ _ _ _).1, by have := (sz_leaf 1 0 0 3).2; unfold conE; omega⟩
  rcases ite_c h with ⟨hc, h⟩ | ⟨hc, h⟩
  · cases h; exact ⟨(sz_leaf _ _ _ _).1, by have := (sz_leaf 2 0 0 0).2; omega⟩
  rcases ite_c h with ⟨hc, h⟩ | ⟨hc, h⟩
  · cases h; exact ⟨(sz_leaf _ _ _ _).1, by have := (sz_leaf 7 0 0 0).2; omega⟩
  rcases ite_c h with ⟨hc, h⟩ | ⟨hc, h⟩
  · obtain ⟨p, k, e1, h⟩ := bind_ok h
    obtain ⟨_, k2, e2, h⟩ := bind_ok h
    obtain ⟨m, k3, e3, h⟩ := bind_ok h
    have := (num_nx e1).1
    have := take_nx e2
    obtain ⟨m1, m2, m3⟩ := sz_name ht e3
    cases h
    refine ⟨⟨sz_noS.1, m1, trivial⟩, ?_⟩
    show (chars noS).length + (chars m).length + (0 + 0) + 17 * i ≤ 17 * j
    rw [sz_noS.2]
    omega
  rcases ite_c h with ⟨hc, h⟩ | ⟨hc, h⟩
  · obtain ⟨_, k, e1, h⟩ := bind_ok h
    obtain ⟨p, k2, e2, h⟩ := bind_ok h
    obtain ⟨_, k3, e3, h⟩ := bind_ok h
    have := (num_nx e2).1
    have := take_nx e1
    have := take_nx e3
    cases h
    exact ⟨(sz_leaf _ _ _ _).1, by have := (sz_leaf 6 0 p 0).2; omega⟩
  rcases ite_c h with ⟨hc, h⟩ | ⟨hc, h⟩
  · obtain ⟨x, k, e1, h⟩ := bind_ok h
    obtain ⟨_, k2, e2, h⟩ := bind_ok h
    obtain ⟨h1, h2⟩ := hE _ _ _ e1
    have := take_nx e2
    cases h
    exact ⟨h1, by omega⟩
  rcases ite_c h with ⟨hc, h⟩ | ⟨hc, h⟩
  · obtain ⟨_, k, e1, h⟩ := bind_ok h
    obtain ⟨a, k2, e2, h⟩ := bind_ok h
    obtain ⟨_, k3, e3, h⟩ := bind_ok h
    obtain ⟨b, k4, e4, h⟩ := bind_ok h
    obtain ⟨_, k5, e5, h⟩ := bind_ok h
    obtain ⟨a1, a2⟩ := hE _ _ _ e2
    obtain ⟨b1, b2⟩ := hE _ _ _ e4
    have := take_nx e1
    have := take_nx e3
    have := take_nx e5
    cases h
    obtain ⟨c1, c2⟩ := sz_op (funO (ts.getD i tokZ).text) a1 b1
    exact ⟨c1, by omega⟩
  · obtain ⟨s, k, e1, h⟩ := bind_ok h
    obtain ⟨_, k2, e2, h⟩ := bind_ok h
    obtain ⟨m, k3, e3, h⟩ := bind_ok h
    obtain ⟨_, k4, e4, h⟩ := bind_ok h
    obtain ⟨a, k5, e5, h⟩ := bind_ok h
    obtain ⟨s1, s2, s3⟩ := sz_name ht e1
    have := take_nx e2
    obtain ⟨m1, m2, m3⟩ := sz_name ht e3
    have := take_nx e4
    obtain ⟨a1, a2⟩ := hA _ _ _ e5
    cases h
    refine ⟨⟨s1, m1, a1, trivial⟩, ?_⟩
    show (chars s).length + (chars m).length + (1 + (wEx a + 0)) + 17 * i ≤ 17 * j
    omega
theorem sz_expr {E A : Nat → PR Exp} (hE : SzP E) (hA : SzP A) : SzP (exprP ts E A) := by
  intro i e j h
  unfold exprP at h
  split at h
  · obtain ⟨a, k, e1, h⟩ := bind_ok h
    obtain ⟨_, k2, e2, h⟩ := bind_ok h
    obtain ⟨b, k3, e3, h⟩ := bind_ok h
    obtain ⟨_, k4, e4, h⟩ := bind_ok h
    obtain ⟨c, k5, e5, h⟩ := bind_ok h
    obtain ⟨a1, a2⟩ := hE _ _ _ e1
    obtain ⟨b1, b2⟩ := hE _ _ _ e3
    obtain ⟨c1, c2⟩ := hE _ _ _ e5
    have := take_nx e2
    have := take_nx e4
    cases h
    refine ⟨⟨sz_noS.1, sz_noS.1, a1, b1, c1, trivial⟩, ?_⟩
    show (chars noS).length + (chars noS).length + (3 + (wEx a + (wEx b + (wEx c + 0)))) + 17 * i ≤ 17 * j
    rw [sz_noS.2]
    omega
  · exact sz_lv (sz_lv (sz_lv hA)) i e j h
mutual
theorem sz_E (ht : okTs ts) : ∀ f : Nat, SzP (pE ts f)
  | 0 => fun i e j h => by cases h
  | f + 1 => sz_expr (sz_E ht f) (sz_A ht f)
theorem sz_A (ht : okTs ts) : ∀ f : Nat, SzP (pA ts f)
  | 0 => fun i e j h => by cases h
  | f + 1 => sz_atom ht (sz_E ht f) (sz_A ht f)
end
theorem rE_sz (ht : okTs ts) (hl : ts.length ≤ 80) {e : Exp} {j : Nat} (h : rE ts 0 = .ok e j) : okE e ∧ wEx e ≤ 1048576 := by
  have hb := (rE_bd (ts := ts) 0 (Nat.zero_le _)).2
  rw [h] at hb
  have hb : j ≤ ts.length := hb
  obtain ⟨h1, h2⟩ := sz_E ht _ 0 e j h
  exact ⟨h1, by omega⟩
end Go.Gh

/- Expressions as text: what the code puts together. -/
namespace Go.Gh
open Lib
set_option linter.unusedSimpArgs false
set_option linter.unusedVariables false
end Go.Gh

/- Parsing expressions: the answers of both parsers. -/
namespace Go.Gh
open Lib
set_option linter.unusedSimpArgs false
set_option linter.unusedVariables false
theorem FR.nilT {e : Exp} (he : e.args = []) (v : GV) (H : GH) : ∃ r, FR (.tup [ExN e, v]) H (.tup [EO r e, v]) ((r, 7, e.args.map ExO) :: H) := by
  obtain ⟨r, ho, hq⟩ := vfresh (names H)
  refine ⟨r, ?_⟩
  have hl : e.args.length = 0 := by rw [he]; rfl
  show FR (.tup [ExN e, v]) H (.tup [.agg [I e.kind, I e.n, I e.pos, I e.type, T e.sym, T e.name, .own r 7 0 e.args.length], v]) ((r, 7, e.args.map ExO) :: H)
  rw [hl, he]
  exact FR.trans (FR.addv ho hq) (FR.sub (.tup (.cons (.agg (.cons .refl (.cons .refl (.cons .refl (.cons .refl (.cons .refl (.cons .refl (.cons .virt .nil))))))))  (.cons .refl .nil))))
abbrev zE : Exp := .mk 0 0 0 0 noS noS []
def AnsS (a : Exp × Int) (H : GH) (g : GV) (H' : GH) : Prop :=
  (∃ r q x, g = .tup [EO r a.1, I a.2] ∧ H' = (r, 7, a.1.args.map ExO) :: (q, x) :: H) ∨ (∃ X, a.1 = zE ∧ g = .tup [ExN zE, I a.2] ∧ H' = X ++ H)
def AnsO (a : Exp × Int) (H : GH) (g : GV) (H' : GH) : Prop := ∃ H1, (∃ r, g = .tup [EO r a.1, I a.2] ∧ H1 = [(r, 7, a.1.args.map ExO)]) ∧ H' = H1 ++ H
theorem AnsS.own {P : Program} {f : FuncId} {gs : List GV} {H : GH} {a : Exp × Int} (h : GCalls P f gs H (AnsS a H)) : GCalls P f gs H (AnsO a H) := by
  refine h.fr ?_
  rintro g H' (⟨r, q, x, rfl, rfl⟩ | ⟨X, hz, rfl, rfl⟩)
  · exact ⟨_, _, FR.perm (H := [(r, 7, a.1.args.map ExO), (q, x)]) (L := [(r, 7, a.1.args.map ExO)]) (by simp [subH, hget, names]), _, ⟨r, rfl, rfl⟩, rfl⟩
  · obtain ⟨r, hf⟩ := FR.nilT (e := zE) rfl (I a.2) H
    refine ⟨_, _, FR.trans (FR.perm (H := X) (L := []) (by simp [subH, names])) hf, _, ⟨r, ?_, rfl⟩, ?_⟩
    · rw [hz]
    · rw [hz]; rfl
theorem bor_EO {H : GH} {r : Nat} {e : Exp} (hr : hget H r = some (7, e.args.map ExO)) : Bor H (EO r e) (Ex e) := by
  rw [Ex_eq]
  exact .agg (.cons .refl (.cons .refl (.cons .refl (.cons .refl (.cons .refl (.cons .refl (.cons (Bor.seen view_ExO hr (by simp)) .nil)))))))
theorem AnsO.bor {a : Exp × Int} {H : GH} {g : GV} {H' : GH} (h : AnsO a H g H') : Bor H' g (.tup [Ex a.1, I a.2]) := by
  obtain ⟨H1, ⟨r, rfl, rfl⟩, rfl⟩ := h
  exact .tup (.cons (bor_EO hget_new) (.cons .refl .nil))
theorem parV_bad {l : List UInt8} (h : 0 ≤ (tokz l).2) : parV l = (zE, (tokz l).2) := by unfold parV; rw [if_pos h]
theorem parV_rd {l : List UInt8} (h : ¬ 0 ≤ (tokz l).2) : parV l = match rE (tokz l).1 0 with
      | .bad i => (zE, offT (tokz l).1 l.length i)
      | .ok e i => if i < (tokz l).1.length then (zE, offT (tokz l).1 l.length i) else if validE e = true then (e, -1) else (zE, 0) := by
  unfold parV
  rw [if_neg h]
  rfl
theorem parV_sz (l : List UInt8) : okE (parV l).1 ∧ wEx (parV l).1 ≤ 1048576 := by
  have hz : okE zE ∧ wEx zE ≤ 1048576 := ⟨(sz_leaf 0 0 0 0).1, by rw [(sz_leaf 0 0 0 0).2]; omega⟩
  have hK := okR_tokz l
  by_cases h : 0 ≤ (tokz l).2
  · rw [parV_bad h]; exact hz
  · rw [parV_rd h]
    cases hP : rE (tokz l).1 0 with
    | bad i => exact hz
    | ok e i =>
      dsimp only
      split
      · exact hz
      · split
        · exact rE_sz hK.txt hK.len hP
        · exact hz
theorem parV_sm (l : List UInt8) : 1 + (smw ctE (parV l).1.args : Int) < 9223372036854775807 := by
  have h1 := ctE_le (parV l).1
  have h2 := (parV_sz l).2
  rw [ctE_eq] at h1
  omega
end Go.Gh

/- What the lifts of the parser's cards need. -/
namespace Go.Gh
open Lib
set_option linter.unusedSimpArgs false
set_option linter.unusedVariables false
theorem HM.tabE {P : Program} {W : World} {n m : Nat} {s s2 : String} (hg : P.globalNamed s = some n) (h : TabIs P W s .u64 pow10Tab) (hg2 : P.globalNamed s2 = some m) (h2 : ∃ u v, W.var? P s2 = some #[.iface u v]) : HM W (below W) (tabE n m) [] := by
  obtain ⟨F1, F2, hF, h1, h3⟩ := HM.tab10 hg h
  refine ⟨[], [], rfl, ?_, [], [], rfl, .inr ⟨⟨by omega, fun _ _ => ?_⟩, rfl, rfl⟩, rfl⟩
  · obtain ⟨rfl, rfl⟩ := List.append_eq_nil_iff.1 hF.symm
    exact h1
  · have e : (4 * m + 3) / 4 = m := by omega
    obtain ⟨u, v, h2⟩ := h2
    simp only [World.var?, hg2, Option.bind_some] at h2
    unfold TB
    rw [e]
    split at h2
    case h_2 => cases h2
    rename_i c T fz hb
    simp only [Option.some.injEq] at h2
    refine ⟨lt_of_heap hb, c, T, fz, hb, ?_⟩
    rw [h2]
    simp only [tabP]
    rw [if_neg (by decide)]
    exact ⟨u, v, rfl⟩
theorem ifcTrod {H : Type} {enc : TypeId × Value → H} {P : Program} {w : World} {base : Nat} {sp : Nat → Bool} {fuel : Nat} {t : TypeId} {cs : List Value} {n : String} {d : DataW H} {p : List MemPlace}
    (ht : ∃ x, P.underlying t = some (.interface x)) (h : DataW.trod enc P w base sp false fuel t cs = some (.iface n d, p)) : ∃ u v, cs = [.iface u v] := by
  obtain ⟨x, ht⟩ := ht
  cases fuel with
  | zero => simp [DataW.trod] at h
  | succ fuel =>
    simp only [DataW.trod, ht] at h
    split at h <;> first | exact ⟨_, _, rfl⟩ | cases h | (exfalso; simp_all; done) | skip
    all_goals trace_state
end Go.Gh

namespace Go.Gh
@[irreducible] def MkQ (p : Prop) : Prop := p
theorem mkQI {p : Prop} (h : MkQ p) : p := by unfold MkQ at h; exact h
theorem mkQU {p : Prop} (h : p) : MkQ p := by unfold MkQ; exact h
end Go.Gh

/- Short words for ghost code. -/
namespace Go.Gh.Z
abbrev x (d : Nat) (o : GOp) : GI := ⟨some d, none, o⟩
abbrev y (d g : Nat) (o : GOp) : GI := ⟨some d, some (g, true), o⟩
abbrev z (d g : Nat) (o : GOp) : GI := ⟨some d, some (g, false), o⟩
abbrev m (d a : Nat) : GI := ⟨some d, none, .mov (.t a)⟩
abbrev k (d : Nat) (n : Int) : GI := ⟨some d, none, .mov (.k (.val (.int .i64 n)))⟩
abbrev b (d : Nat) (n : Bool) : GI := ⟨some d, none, .mov (.k (.val (.bool n)))⟩
abbrev l (d a : Nat) : GI := ⟨some d, none, .load 1 false (.t a)⟩
abbrev h (d n a : Nat) : GI := ⟨some d, none, .load n true (.t a)⟩
abbrev f (d o a : Nat) : GI := ⟨some d, none, .faddr o 1 false (.t a)⟩
abbrev e (d o n a : Nat) : GI := ⟨some d, none, .faddr o n true (.t a)⟩
abbrev i (d n a c : Nat) : GI := ⟨some d, none, .iaddr n (.t a) (.t c)⟩
abbrev c (d f : Nat) (a : List GE) : GI := ⟨some d, none, .call false f a⟩
abbrev o (d : Nat) (p : BinOp) (a b : Nat) : GI := ⟨some d, none, .bin p (.t a) (.t b)⟩
abbrev q (d : Nat) (p : BinOp) (a : Nat) (n : Int) : GI := ⟨some d, none, .bin p (.t a) (.k (.val (.int .i64 n)))⟩
abbrev n (d a : Nat) : GI := ⟨some d, none, .len (.t a)⟩
abbrev w (d a : Nat) : GI := ⟨some d, none, .not (.t a)⟩
abbrev a (d n r : Nat) : GI := ⟨some d, none, .boxro n (.t r)⟩
abbrev t (d n r : Nat) : GI := ⟨some d, none, .stro n d (.t r)⟩
abbrev u (d n : Nat) : GI := ⟨some d, none, .allocr n⟩
abbrev v (d r j : Nat) : GI := ⟨some d, none, .ext (.t r) j⟩
abbrev p (n o a : Nat) : GOp := .faddr o n false (.t a)
abbrev r (n a : Nat) : GOp := .load n false (.t a)
abbrev j (n a : Nat) : GOp := .load n true (.t a)
abbrev A (d a b : Nat) : GI := ⟨some d, none, .pick (.t a) (.t b) (.k (.val (.bool false)))⟩
abbrev O (d a b : Nat) : GI := ⟨some d, none, .pick (.t a) (.k (.val (.bool true))) (.t b)⟩
abbrev M (d g a : Nat) : GI := ⟨some d, some (g, true), .mov (.t a)⟩
abbrev N (d g a : Nat) : GI := ⟨some d, some (g, false), .mov (.t a)⟩
abbrev I (o p : Nat) (a : Nat) (n : Int) : GI := ⟨some o, some (p, true), .bin .eql (.t a) (.k (.val (.int .i64 n)))⟩
abbrev J (o p : Nat) (a : Nat) (n : Int) : GI := ⟨some o, some (p, false), .bin .eql (.t a) (.k (.val (.int .i64 n)))⟩
abbrev G (d f : Nat) (a : List GE) : GI := ⟨some d, none, .call true f a⟩
abbrev Q (d n b s x : Nat) : GI := ⟨some d, none, .append n b (.t s) (.t x)⟩
abbrev E (d n : Nat) (b : Bool) : GI := ⟨some d, none, .bslice n [] 0 b []⟩
abbrev Z (d : Nat) : GI := ⟨some d, none, .mov (.k (.val (.slice none 0 0)))⟩
abbrev K (n : Int) : GE := .k (.val (.int .i64 n))
abbrev S (a b : GC) : GC := .seq a b
abbrev D (n : Nat) (a b : GC) : GC := .cond n a b
abbrev F : GC := .skip
abbrev R : GC := .ret
abbrev C (c e : Nat) (x : GC) : GC := .seq (.cond c .skip (.exit e)) x
abbrev B (n : Nat) (x : GC) : GC := .block n (.loop x)
abbrev s (a : List GI) (b : GC) : GC := .seq (.reg a) b
end Go.Gh.Z
namespace Go.Gh
theorem jF {P : Program} {f : Nat} {fn : Func} {F : GFun} {c : Code} (h : P.funcs[f]? = some fn) (md : List (Nat × Nat) := []) (h0 : fn.body = some c := by rfl) (h1 : (fn.name == "runtime.NumGoroutine") = false := by kernel_rfl) (h2 : compC P F.cf md c = some F.gc := by kernel_rfl) (h3 : compRes P fn.results.toList = some F.gr := by kernel_rfl) (h4 : fn.ntmps = F.cf.N := by rfl) : IsFun P f F := ⟨fn, c, md, h, h1, h0, h2, h3, h4⟩
end Go.Gh

namespace Go.Proofs.YtkmedfejmndmjaaGreatDoor
open Go.Gh Go.Gh.Z
abbrev iF := IsFun Tryz.prog
def g4 : GFun := ⟨⟨66,[3,5,9]⟩,(s [b 2 false] (S (s [m 11 0,x 12 (.slen (.t 11)),q 13 .gtr 12 1048576] (D 13 (s [b 2 true] R) F)) (s [m 15 0,c 16 16 [.t 15],m 14 16,v 17 14 0,v 18 14 1,u 3 7,t 3 7 17,m 4 18] (s [m 20 0,c 21 13 [.t 20],
 m 19 21,v 22 19 0,v 23 19 1,u 5 7,t 5 7 22,m 6 23] (S (s [h 24 7 5,h 25 7 3,c 26 17 [.t 24,.t 25],w 27 26,m 28 27,N 29 28 6,N 30 28 4,z 31 28 (.bin .neq (.t 29) (.t 30)),O 32 28 31] (D 32 (s [b 2 false] R) F)) (s [k 7 1] (s [h 33 7 5,
 m 34 7,c 35 18 [.t 33,.t 34],m 7 35] (s [k 8 1] (s [h 36 7 5,m 37 8,c 38 19 [.t 36,.t 37],m 8 38] (S (s [m 39 8,q 40 .lss 39 0] (D 40 (s [b 2 false] R) F)) (S (s [m 41 8,m 42 7,o 43 .neq 41 42] (D 43 (s [b 2 false] R) F)) (s [m 45 0,
 c 46 13 [.t 45],m 44 46,v 47 44 0,v 48 44 1,u 9 7,t 9 7 47,m 10 48] (S (s [h 49 7 9,h 50 7 3,c 51 17 [.t 49,.t 50],w 52 51,m 53 52,N 54 53 10,N 55 53 4,z 56 53 (.bin .neq (.t 54) (.t 55)),O 57 53 56] (D 57 (s [b 2 false] R) F))
 (s [k 8 1] (s [h 58 7 5,m 59 8,c 60 19 [.t 58,.t 59],m 8 60] (S (s [m 61 8,q 62 .lss 61 0] (D 62 (s [b 2 false] R) F)) (S (s [m 63 8,m 64 7,o 65 .neq 63 64] (D 65 (s [b 2 false] R) F)) (s [b 2 true] R)))))))))))))))))),[.t 2]⟩
theorem i4 : iF 4 g4 := jF Tryz.func4
def g12 : GFun := ⟨⟨15,[1]⟩,(s [a 1 7 0,b 2 false] (s [h 3 7 1,c 4 30 [.t 3,K 24],q 5 .geq 4 0,m 6 5,y 7 6 (j 7 1),y 8 6 (.call false 31 [.t 7]),y 9 6 (.bin .leq (.t 8) (K 6)),A 10 6 9,m 11 10,y 12 11 (j 7 1),y 13 11
 (.call false 32 [.t 12]),A 14 11 13,m 2 14] R)),[.t 2]⟩
theorem i12 : iF 12 g12 := jF Tryz.func12
def g13 : GFun := ⟨⟨77,[2,7]⟩,(s [u 2 7,k 3 0] (s [m 9 0,c 10 33 [.t 9],m 8 10,v 11 8 0,v 12 8 1,m 4 11,m 5 12] (S (s [m 13 5,q 14 .geq 13 0] (D 14 (s [x 15 (.build [(.val (.int .i64 0)),(.val (.int .i64 0)),(.val (.int .i64 0)),(.val
 (.int .i64 0)),(.val (.string (ByteArray.mk #[]))),(.val (.string (ByteArray.mk #[]))),(.val (.slice none 0 0))] []),m 16 5,t 2 7 15,m 3 16] R) F)) (s [m 17 4,x 18 (.build [(.val (.slice none 0 0)),(.val (.int .i64 0)),(.val
 (.bool false))] [(0,(1,(.t 17)))]),x 19 (.box 3 (.t 18)),m 6 19] (s [m 20 6,c 21 34 [.t 20],u 7 7,t 7 7 21] (S (.block 0 (s [m 23 6,x 24 (.nck (.t 23)),f 25 2 24,l 26 25,m 27 26,N 28 27 6,z 29 27 (.nck (.t 28)),z 30 27 (p 1 1 29),z 31 27
 (r 1 30),N 32 27 4,z 33 27 (.len (.t 32)),z 34 27 (.bin .lss (.t 31) (.t 33)),O 35 27 34,m 36 35,M 37 36 6,y 38 36 (.nck (.t 37)),y 39 36 (p 1 1 38),y 40 36 (r 1 39),M 41 36 4,y 42 36 (.len (.t 41)),y 43 36 (.bin .eql (.t 40) (.t 42)),
 A 44 36 43,m 22 44] (D 22 (s [x 45 (.build [(.val (.int .i64 0)),(.val (.int .i64 0)),(.val (.int .i64 0)),(.val (.int .i64 0)),(.val (.string (ByteArray.mk #[]))),(.val (.string (ByteArray.mk #[]))),(.val (.slice none 0 0))] []),m 46 0,
 x 47 (.slen (.t 46)),t 2 7 45,m 3 47] R) (s [m 49 6,x 50 (.nck (.t 49)),f 51 2 50,l 52 51,m 53 52,N 54 53 6,z 55 53 (.nck (.t 54)),z 56 53 (p 1 1 55),z 57 53 (r 1 56),N 58 53 4,z 59 53 (.len (.t 58)),z 60 53 (.bin .lss (.t 57) (.t 59)),
 O 61 53 60,m 48 61] (D 48 (s [x 62 (.build [(.val (.int .i64 0)),(.val (.int .i64 0)),(.val (.int .i64 0)),(.val (.int .i64 0)),(.val (.string (ByteArray.mk #[]))),(.val (.string (ByteArray.mk #[]))),(.val (.slice none 0 0))] []),m 63 4,
 m 64 6,x 65 (.nck (.t 64)),f 66 1 65,t 2 7 62,l 67 66,i 68 4 63 67,f 69 2 68,l 70 69,m 3 70] R) (s [h 72 7 7,c 73 27 [.t 72],w 74 73,m 71 74] (D 71 (s [x 75 (.build [(.val (.int .i64 0)),(.val (.int .i64 0)),(.val (.int .i64 0)),(.val
 (.int .i64 0)),(.val (.string (ByteArray.mk #[]))),(.val (.string (ByteArray.mk #[]))),(.val (.slice none 0 0))] []),t 2 7 75,k 3 0] R) F))))))) (s [h 76 7 7,t 2 7 76,k 3 (-1)] R))))))),[(.c 2 7 true),.t 3]⟩
theorem i13 : iF 13 g13 := jF Tryz.func13
def g14 : GFun := ⟨⟨46,[6]⟩,(s [Z 2,k 3 0] (S (s [m 8 0,x 9 (.slen (.t 8)),q 10 .gtr 9 160] (D 10 (s [E 11 4 true,m 2 11,k 3 160] R) F)) (s [E 12 4 true,m 4 12] (s [k 5 0] (S (B 0 (S (s [m 13 5,m 14 0,x 15 (.slen (.t 14)),o 16 .lss 13 15]
 (D 16 F (.exit 0))) (.block 1 (S (s [m 17 0,m 18 5,x 19 (.idx (.t 17) (.t 18)),x 20 (.bin .eql (.t 19) (.k (.val (.int .u8 32))))] (D 20 (s [m 21 5,q 22 .add 21 1,m 5 22] (.exit 1)) F)) (s [m 24 0,m 25 5,c 26 35 [.t 24,.t 25],m 23 26,
 v 27 23 0,v 28 23 1,u 6 4,t 6 4 27,m 7 28] (S (s [m 29 7,q 30 .eql 29 0,m 31 30,N 32 31 4,z 33 31 (.len (.t 32)),J 34 31 33 80,O 35 31 34] (D 35 (s [E 36 4 true,m 37 5,m 2 36,m 3 37] R) F)) (s [m 38 4,h 39 4 6,x 40
 (.bslice 4 [] 1 true [(0,(.t 39))]),Q 41 4 40 38 40,m 4 41] (.reg [m 42 5,m 43 7,o 44 .add 42 43,m 5 44])))))))) (s [m 45 4,m 2 45,k 3 (-1)] R)))))),[.t 2,.t 3]⟩
theorem i14 : iF 14 g14 := jF Tryz.func14
def g16 : GFun := ⟨⟨55,[2,7]⟩,(s [u 2 7,k 3 0] (s [m 9 0,c 10 14 [.t 9],m 8 10,v 11 8 0,v 12 8 1,m 4 11,m 5 12] (S (s [m 13 5,q 14 .geq 13 0] (D 14 (s [x 15 (.build [(.val (.int .i64 0)),(.val (.int .i64 0)),(.val (.int .i64 0)),(.val
 (.int .i64 0)),(.val (.string (ByteArray.mk #[]))),(.val (.string (ByteArray.mk #[]))),(.val (.slice none 0 0))] []),m 16 5,t 2 7 15,m 3 16] R) F)) (s [m 17 4,m 18 0,x 19 (.slen (.t 18)),x 20 (.build [(.val (.slice none 0 0)),(.val
 (.int .i64 0)),(.val (.int .i64 0)),(.val (.int .i64 0))] [(0,(1,(.t 17))),(2,(1,(.t 19))),(3,(1,(K (-1))))]),x 21 (.box 4 (.t 20)),m 6 21] (s [m 22 6,c 23 38 [.t 22],u 7 7,t 7 7 23] (S (s [m 24 6,x 25 (.nck (.t 24)),f 26 3 25,l 27 26,
 q 28 .lss 27 0,m 29 28,M 30 29 6,y 31 29 (.nck (.t 30)),y 32 29 (p 1 1 31),y 33 29 (r 1 32),M 34 29 4,y 35 29 (.len (.t 34)),y 36 29 (.bin .lss (.t 33) (.t 35)),A 37 29 36] (D 37 (.reg [m 38 6,c 39 39 [.t 38]]) F)) (S (s [m 40 6,x 41
 (.nck (.t 40)),f 42 3 41,l 43 42,q 44 .geq 43 0] (D 44 (s [x 45 (.build [(.val (.int .i64 0)),(.val (.int .i64 0)),(.val (.int .i64 0)),(.val (.int .i64 0)),(.val (.string (ByteArray.mk #[]))),(.val (.string (ByteArray.mk #[]))),(.val
 (.slice none 0 0))] []),m 46 6,x 47 (.nck (.t 46)),f 48 3 47,t 2 7 45,l 49 48,m 3 49] R) F)) (S (s [h 50 7 7,c 51 12 [.t 50],w 52 51] (D 52 (s [x 53 (.build [(.val (.int .i64 0)),(.val (.int .i64 0)),(.val (.int .i64 0)),(.val
 (.int .i64 0)),(.val (.string (ByteArray.mk #[]))),(.val (.string (ByteArray.mk #[]))),(.val (.slice none 0 0))] []),t 2 7 53,k 3 0] R) F)) (s [h 54 7 7,t 2 7 54,k 3 (-1)] R))))))))),[(.c 2 7 true),.t 3]⟩
theorem i16 : iF 16 g16 := jF Tryz.func16
def g17 : GFun := ⟨⟨41,[2,3]⟩,(s [a 2 7 0,a 3 7 1,b 4 false] (S (s [f 5 0 2,l 6 5,f 7 0 3,l 8 7,o 9 .neq 6 8] (D 9 (s [b 4 false] R) F)) (S (s [f 10 1 2,l 11 10,f 12 1 3,l 13 12,o 14 .neq 11 13] (D 14 (s [b 4 false] R) F)) (S (s [f 15 2 2,
 l 16 15,f 17 2 3,l 18 17,o 19 .neq 16 18] (D 19 (s [b 4 false] R) F)) (S (s [f 20 3 2,l 21 20,f 22 3 3,l 23 22,o 24 .neq 21 23] (D 24 (s [b 4 false] R) F)) (S (s [f 25 4 2,l 26 25,f 27 4 3,l 28 27,o 29 .neq 26 28] (D 29
 (s [b 4 false] R) F)) (S (s [f 30 5 2,l 31 30,f 32 5 3,l 33 32,o 34 .neq 31 33] (D 34 (s [b 4 false] R) F)) (S (s [f 35 6 2,l 36 35,f 37 6 3,l 38 37,c 39 40 [.t 36,.t 38],w 40 39] (D 40 (s [b 4 false] R) F)) (s [b 4 true] R))))))))),
 [.t 4]⟩
theorem i17 : iF 17 g17 := jF Tryz.func17
def g18 : GFun := ⟨⟨10,[2]⟩,(s [a 2 7 0,k 4 0] (s [f 5 6 2,l 6 5,m 7 1,c 8 41 [.t 6,.t 7],m 1 8] (s [m 9 1,m 4 9] R))),[.t 4]⟩
theorem i18 : iF 18 g18 := jF Tryz.func18
def g19 : GFun := ⟨⟨12,[2]⟩,(s [a 2 7 0,k 4 0] (s [f 5 6 2,l 6 5,m 7 1,c 8 42 [.t 6,.t 7],m 1 8] (S (s [m 9 1,q 10 .lss 9 0] (D 10 (s [k 4 (-1)] R) F)) (s [m 11 1,m 4 11] R)))),[.t 4]⟩
theorem i19 : iF 19 g19 := jF Tryz.func19
def g27 : GFun := ⟨⟨15,[1]⟩,(s [a 1 7 0,b 2 false] (s [h 3 7 1,c 4 49 [.t 3],q 5 .leq 4 24,m 6 5,y 7 6 (j 7 1),y 8 6 (.call false 50 [.t 7]),y 9 6 (.bin .leq (.t 8) (K 6)),A 10 6 9,m 11 10,y 12 11 (j 7 1),y 13 11 (.call false 51 [.t 12,
 (.k (.clo 52 []))]),A 14 11 13,m 2 14] R)),[.t 2]⟩
theorem i27 : iF 27 g27 := jF Tryz.func27
def g30 : GFun := ⟨⟨27,[2]⟩,(s [a 2 7 0,k 4 0] (s [m 6 1,q 7 .sub 6 1,m 1 7] (S (s [k 5 0] (B 0 (S (s [m 8 5,f 9 6 2,l 10 9,n 11 10,o 12 .lss 8 11,m 13 12,M 14 13 1,y 15 13 (.bin .geq (.t 14) (K 0)),A 16 13 15] (D 16 F (.exit 0))) (S
 (.block 1 (.reg [f 19 6 2,l 20 19,m 21 5,i 22 7 20 21,h 23 7 22,m 24 1,c 25 30 [.t 23,.t 24],m 1 25])) (.reg [m 17 5,q 18 .add 17 1,m 5 18]))))) (s [m 26 1,m 4 26] R)))),[.t 4]⟩
theorem i30 : iF 30 g30 := jF Tryz.func30
def g31 : GFun := ⟨⟨22,[1]⟩,(s [a 1 7 0,k 2 0] (s [k 3 0] (S (s [k 4 0] (B 0 (S (s [m 5 4,f 6 6 1,l 7 6,n 8 7,o 9 .lss 5 8] (D 9 F (.exit 0))) (S (.block 1 (.reg [m 12 3,f 13 6 1,l 14 13,m 15 4,i 16 7 14 15,h 17 7 16,c 18 31 [.t 17],
 c 19 61 [.t 12,.t 18],m 3 19])) (.reg [m 10 4,q 11 .add 10 1,m 4 11]))))) (s [m 20 3,q 21 .add 20 1,m 2 21] R)))),[.t 2]⟩
theorem i31 : iF 31 g31 := jF Tryz.func31
def g32 : GFun := ⟨⟨20,[1]⟩,(s [a 1 7 0,b 2 false] (S (s [k 3 0] (B 0 (S (s [m 4 3,f 5 6 1,l 6 5,n 7 6,o 8 .lss 4 7] (D 8 F (.exit 0))) (S (.block 1 (s [f 11 6 1,l 12 11,m 13 3,i 14 7 12 13,h 15 7 14,c 16 32 [.t 15],w 17 16] (D 17
 (s [b 2 false] R) F))) (.reg [m 9 3,q 10 .add 9 1,m 3 10]))))) (s [h 18 7 1,c 19 62 [.t 18],m 2 19] R))),[.t 2]⟩
theorem i32 : iF 32 g32 := jF Tryz.func32
def g33 : GFun := ⟨⟨44,[6]⟩,(s [Z 2,k 3 0] (S (s [m 8 0,x 9 (.slen (.t 8)),q 10 .gtr 9 160] (D 10 (s [Z 2,k 3 160] R) F)) (s [E 11 4 true,m 4 11] (S (s [k 5 0] (B 0 (S (s [m 12 5,m 13 0,x 14 (.slen (.t 13)),o 15 .lss 12 14] (D 15 F
 (.exit 0))) (.block 1 (S (s [m 16 0,m 17 5,x 18 (.idx (.t 16) (.t 17)),x 19 (.bin .eql (.t 18) (.k (.val (.int .u8 32))))] (D 19 (s [m 20 5,q 21 .add 20 1,m 5 21] (.exit 1)) F)) (s [m 23 0,m 24 5,c 25 63 [.t 23,.t 24],m 22 25,v 26 22 0,
 v 27 22 1,u 6 4,t 6 4 26,m 7 27] (S (s [m 28 7,q 29 .eql 28 0,m 30 29,N 31 30 4,z 32 30 (.len (.t 31)),J 33 30 32 80,O 34 30 33] (D 34 (s [m 35 5,Z 2,m 3 35] R) F)) (.reg [m 36 4,h 37 4 6,x 38 (.bslice 4 [] 1 true [(0,(.t 37))]),
 Q 39 4 40 36 38,m 40 5,m 41 7,o 42 .add 40 41,m 4 39,m 5 42])))))))) (s [m 43 4,m 2 43,k 3 (-1)] R))))),[.t 2,.t 3]⟩
theorem i33 : iF 33 g33 := jF Tryz.func33
def g34 : GFun := ⟨⟨37,[2,3,4,5,6]⟩,(s [u 2 7] (S (s [m 8 0,x 9 (.call false 64 [.t 8,(.k (.val (.string (ByteArray.mk #[105,102]))))])] (D 9 (s [m 10 0,c 11 34 [.t 10],u 3 7,t 3 7 11] (s [m 12 0,x 13 (.call false 65 [.t 12,(.k (.val
 (.string (ByteArray.mk #[116,104,101,110]))))])] (s [m 14 0,c 15 34 [.t 14],u 4 7,t 4 7 15] (s [m 16 0,x 17 (.call false 65 [.t 16,(.k (.val (.string (ByteArray.mk #[101,108,115,101]))))])] (s [m 18 0,c 19 34 [.t 18],u 5 7,t 5 7 19]
 (s [h 20 7 3,h 21 7 4,h 22 7 5,x 23 (.bslice 7 [] 3 true [(0,(.t 20)),(1,(.t 21)),(2,(.t 22))]),x 24 (.build [(.val (.int .i64 0)),(.val (.int .i64 0)),(.val (.int .i64 0)),(.val (.int .i64 0)),(.val (.string (ByteArray.mk #[]))),(.val
 (.string (ByteArray.mk #[]))),(.val (.slice none 0 0))] [(0,(1,(K 5))),(6,(1,(.t 23)))]),t 2 7 24] R)))))) F)) (s [m 25 0,c 26 66 [.t 25,K 2],u 6 7,t 6 7 26] (S (s [m 27 0,c 28 67 [.t 27,K 1],m 7 28] (s [m 29 7,q 30 .neq 29 0] (D 30
 (s [m 31 7,x 32 (.loadr 7 true (.t 6)),m 33 0,c 34 66 [.t 33,K 2],c 35 68 [.t 31,.t 32,.t 34],t 2 7 35] R) F))) (s [h 36 7 6,t 2 7 36] R))))),[(.c 2 7 true)]⟩
theorem i34 : iF 34 g34 := jF Tryz.func34 [(11, 3)]
def g35 : GFun := ⟨⟨97,[4]⟩,(s [u 4 4,k 5 0] (s [m 10 1,x 11 (.build [(.val (.int .i64 0)),(.val (.int .i64 0)),(.val (.int .i64 0)),(.val (.string (ByteArray.mk #[])))] [(2,(1,(.t 10)))]),x 6 (.alloc 4 (.agg [(.val (.int .i64 0)),(.val
 (.int .i64 0)),(.val (.int .i64 0)),(.val (.string (ByteArray.mk #[])))])),(.mk none none (.store 4 (.t 6) (.t 11)))] (s [m 12 1,m 7 12] (S (.block 0 (s [m 25 0,m 26 1,x 27 (.idx (.t 25) (.t 26)),c 28 69 [.t 27],m 24 28] (D 24 (S (B 1 (S
 (s [m 29 7,m 30 0,x 31 (.slen (.t 30)),o 32 .lss 29 31,m 33 32,M 34 33 0,M 35 33 7,y 36 33 (.idx (.t 34) (.t 35)),y 37 33 (.call false 69 [.t 36]),M 38 33 37,N 39 38 0,N 40 38 7,z 41 38 (.idx (.t 39) (.t 40)),z 42 38
 (.call false 70 [.t 41]),y 43 33 (.pick (.t 38) (.k (.val (.bool true))) (.t 42)),A 44 33 43] (D 44 F (.exit 1))) (.block 2 (.reg [m 45 7,q 46 .add 45 1,m 7 46])))) (s [f 47 0 6,(.mk none none (.store 1 (.t 47) (K 1)))] (s [m 48 0,m 49 1,
 m 50 7,x 51 (.sslc (.t 48) (some (.t 49)) (some (.t 50))),f 52 3 6,(.mk none none (.store 1 (.t 52) (.t 51)))] (s [m 53 7,m 54 1,o 55 .sub 53 54,q 56 .gtr 55 8] (D 56 (s [h 57 4 6,t 4 4 57,k 5 0] R) F))))) (s [m 59 0,m 60 1,x 61 (.idx
 (.t 59) (.t 60)),c 62 70 [.t 61],m 58 62] (D 58 (S (B 3 (S (s [m 63 7,m 64 0,x 65 (.slen (.t 64)),o 66 .lss 63 65,m 67 66,M 68 67 0,M 69 67 7,y 70 67 (.idx (.t 68) (.t 69)),y 71 67 (.call false 70 [.t 70]),A 72 67 71] (D 72 F (.exit 3)))
 (.block 4 (.reg [m 73 7,q 74 .add 73 1,m 7 74])))) (s [m 76 0,m 77 1,m 78 7,x 79 (.sslc (.t 76) (some (.t 77)) (some (.t 78))),c 80 71 [.t 79],m 75 80,v 81 75 0,v 82 75 1,m 8 81,m 9 82] (s [f 83 0 6,(.mk none none (.store 1 (.t 83)
 (K 2)))] (s [m 84 8,f 85 1 6,(.mk none none (.store 1 (.t 85) (.t 84)))] (s [m 86 9,w 87 86,m 88 87,N 89 88 8,z 90 88 (.bin .gtr (.t 89) (K 1000000)),O 91 88 90] (D 91 (s [h 92 4 6,t 4 4 92,k 5 0] R) F)))))) (s [m 13 1,m 14 0,m 15 1,
 c 16 72 [.t 14,.t 15],o 17 .add 13 16,m 7 17] (s [f 18 0 6,(.mk none none (.store 1 (.t 18) (K 3)))] (.reg [m 19 0,m 20 1,m 21 7,x 22 (.sslc (.t 19) (some (.t 20)) (some (.t 21))),f 23 3 6,(.mk none none (.store 1 (.t 23)
 (.t 22)))])))))))) (s [h 93 4 6,m 94 7,m 95 1,o 96 .sub 94 95,t 4 4 93,m 5 96] R))))),[(.c 4 4 true),.t 5]⟩
theorem i35 : iF 35 g35 := jF Tryz.func35
def g36 : GFun := ⟨⟨45,[2,3]⟩,(s [a 2 7 0,a 3 7 1,b 4 false] (s [f 5 0 2,l 6 5,f 7 0 3,l 8 7,o 9 .eql 6 8,m 10 9,y 11 10 (p 1 1 2),y 12 10 (r 1 11),y 13 10 (p 1 1 3),y 14 10 (r 1 13),y 15 10 (.bin .eql (.t 12) (.t 14)),A 16 10 15,m 17 16,
 y 18 17 (p 1 2 2),y 19 17 (r 1 18),y 20 17 (p 1 2 3),y 21 17 (r 1 20),y 22 17 (.bin .eql (.t 19) (.t 21)),A 23 17 22,m 24 23,y 25 24 (p 1 3 2),y 26 24 (r 1 25),y 27 24 (p 1 3 3),y 28 24 (r 1 27),y 29 24 (.bin .eql (.t 26) (.t 28)),
 A 30 24 29,m 31 30,y 32 31 (p 1 4 2),y 33 31 (r 1 32),y 34 31 (p 1 4 3),y 35 31 (r 1 34),y 36 31 (.bin .eql (.t 33) (.t 35)),A 37 31 36,m 38 37,y 39 38 (p 1 5 2),y 40 38 (r 1 39),y 41 38 (p 1 5 3),y 42 38 (r 1 41),y 43 38 (.bin .eql
 (.t 40) (.t 42)),A 44 38 43,m 4 44] R)),[.t 4]⟩
theorem i36 : iF 36 g36 := jF Tryz.func36
def g38 : GFun := ⟨⟨32,[2,3,4]⟩,(s [u 2 7] (S (s [m 5 0,x 6 (.call false 73 [.t 5,(.k (.val (.string (ByteArray.mk #[105,102]))))]),w 7 6] (D 7 (s [m 8 0,c 9 74 [.t 8,K 1],t 2 7 9] R) F)) (s [m 10 0,m 11 0,x 12 (.nck (.t 11)),f 13 1 12,
 l 14 13,q 15 .add 14 1,x 16 (.nck (.t 10)),f 17 1 16,(.mk none none (.store 1 (.t 17) (.t 15)))] (s [m 18 0,c 19 38 [.t 18],u 3 7,t 3 7 19] (s [m 20 0,x 21 (.call false 75 [.t 20,(.k (.val (.string (ByteArray.mk #[116,104,101,110]))))])]
 (s [m 22 0,c 23 38 [.t 22],u 4 7,t 4 7 23] (s [m 24 0,x 25 (.call false 75 [.t 24,(.k (.val (.string (ByteArray.mk #[101,108,115,101]))))])] (s [x 26 (.loadr 7 true (.t 3)),x 27 (.loadr 7 true (.t 4)),m 28 0,c 29 38 [.t 28],x 30
 (.bslice 7 [] 3 true [(0,(.t 26)),(1,(.t 27)),(2,(.t 29))]),x 31 (.build [(.val (.int .i64 0)),(.val (.int .i64 0)),(.val (.int .i64 0)),(.val (.int .i64 0)),(.val (.string (ByteArray.mk #[]))),(.val (.string (ByteArray.mk #[]))),(.val
 (.slice none 0 0))] [(0,(1,(K 5))),(6,(1,(.t 30)))]),t 2 7 31] R)))))))),[(.c 2 7 true)]⟩
theorem i38 : iF 38 g38 := jF Tryz.func38 [(8, 3)]
def g39 : GFun := ⟨⟨40,[2]⟩,(s [u 2 7] (S (s [m 3 0,x 4 (.nck (.t 3)),f 5 3 4,l 6 5,q 7 .lss 6 0] (D 7 (s [m 8 0,m 9 0,x 10 (.nck (.t 9)),f 11 2 10,l 12 11,x 13 (.nck (.t 8)),f 14 3 13,(.mk none none (.store 1 (.t 14) (.t 12)))] (s [m 15 0,
 x 16 (.nck (.t 15)),f 17 1 16,m 19 0,x 20 (.nck (.t 19)),f 21 0 20,l 18 17,l 22 21,n 23 22,o 24 .lss 18 23] (D 24 (.reg [m 25 0,m 26 0,x 27 (.nck (.t 26)),f 28 0 27,m 30 0,x 31 (.nck (.t 30)),f 32 1 31,l 29 28,l 33 32,i 34 4 29 33,
 f 35 2 34,l 36 35,x 37 (.nck (.t 25)),f 38 3 37,(.mk none none (.store 1 (.t 38) (.t 36)))]) F))) F)) (s [x 39 (.build [(.val (.int .i64 0)),(.val (.int .i64 0)),(.val (.int .i64 0)),(.val (.int .i64 0)),(.val (.string
 (ByteArray.mk #[]))),(.val (.string (ByteArray.mk #[]))),(.val (.slice none 0 0))] []),t 2 7 39] R))),[(.c 2 7 true)]⟩
theorem i39 : iF 39 g39 := jF Tryz.func39
def g40 : GFun := ⟨⟨27,[]⟩,(s [b 4 false] (S (s [m 6 0,n 7 6,m 8 1,n 9 8,o 10 .neq 7 9] (D 10 (s [b 4 false] R) F)) (S (s [k 5 0] (B 0 (S (s [m 11 5,m 12 0,n 13 12,o 14 .lss 11 13] (D 14 F (.exit 0))) (S (.block 1 (s [m 17 0,m 18 5,
 i 19 7 17 18,m 21 1,m 22 5,i 23 7 21 22,h 20 7 19,h 24 7 23,G 25 17 [.t 20,.t 24],w 26 25] (D 26 (s [b 4 false] R) F))) (.reg [m 15 5,q 16 .add 15 1,m 5 16]))))) (s [b 4 true] R)))),[.t 4]⟩
theorem i40 : iF 40 g40 := jF Tryz.func40
def g41 : GFun := ⟨⟨64,[]⟩,(s [k 4 0] (S (s [k 5 0] (B 0 (S (s [m 6 5,m 7 0,n 8 7,o 9 .lss 6 8] (D 9 F (.exit 0))) (S (.block 1 (s [m 12 0,m 13 5,m 14 1,i 15 7 12 13,f 16 0 15,(.mk none none (.store 1 (.t 16) (.t 14)))] (s [m 17 1,
 q 18 .add 17 1,m 1 18] (s [m 19 0,m 20 5,m 21 1,i 22 7 19 20,f 23 1 22,(.mk none none (.store 1 (.t 23) (.t 21)))] (s [m 24 1,q 25 .add 24 1,m 1 25] (s [m 26 0,m 27 5,m 28 1,i 29 7 26 27,f 30 2 29,(.mk none none (.store 1 (.t 30)
 (.t 28)))] (s [m 31 1,q 32 .add 31 1,m 1 32] (s [m 33 0,m 34 5,m 35 1,i 36 7 33 34,f 37 3 36,(.mk none none (.store 1 (.t 37) (.t 35)))] (s [m 38 1,q 39 .add 38 1,m 1 39] (s [m 40 0,m 41 5,m 42 1,c 43 76 [.t 42],i 44 7 40 41,f 45 4 44,
 (.mk none none (.store 1 (.t 45) (.t 43)))] (s [m 46 1,q 47 .add 46 1,m 1 47] (s [m 48 0,m 49 5,m 50 1,c 51 76 [.t 50],i 52 7 48 49,f 53 5 52,(.mk none none (.store 1 (.t 53) (.t 51)))] (s [m 54 1,q 55 .add 54 1,m 1 55] (.reg [m 56 0,
 m 57 5,i 58 7 56 57,f 59 6 58,l 60 59,m 61 1,c 62 41 [.t 60,.t 61],m 1 62])))))))))))))) (.reg [m 10 5,q 11 .add 10 1,m 5 11]))))) (s [m 63 1,m 4 63] R))),[.t 4]⟩
theorem i41 : iF 41 g41 := jF Tryz.func41
def g42 : GFun := ⟨⟨78,[]⟩,(s [k 4 0] (S (s [k 5 0] (B 0 (S (s [m 6 5,m 7 0,n 8 7,o 9 .lss 6 8] (D 9 F (.exit 0))) (S (.block 1 (S (s [m 12 0,m 13 5,i 14 7 12 13,f 15 0 14,l 16 15,m 17 1,o 18 .neq 16 17] (D 18 (s [k 4 (-1)] R) F))
 (s [m 19 1,q 20 .add 19 1,m 1 20] (S (s [m 21 0,m 22 5,i 23 7 21 22,f 24 1 23,l 25 24,m 26 1,o 27 .neq 25 26] (D 27 (s [k 4 (-1)] R) F)) (s [m 28 1,q 29 .add 28 1,m 1 29] (S (s [m 30 0,m 31 5,i 32 7 30 31,f 33 2 32,l 34 33,m 35 1,
 o 36 .neq 34 35] (D 36 (s [k 4 (-1)] R) F)) (s [m 37 1,q 38 .add 37 1,m 1 38] (S (s [m 39 0,m 40 5,i 41 7 39 40,f 42 3 41,l 43 42,m 44 1,o 45 .neq 43 44] (D 45 (s [k 4 (-1)] R) F)) (s [m 46 1,q 47 .add 46 1,m 1 47] (S (s [m 48 0,m 49 5,
 i 50 7 48 49,f 51 4 50,m 53 1,l 52 51,G 54 76 [.t 53],o 55 .neq 52 54] (D 55 (s [k 4 (-1)] R) F)) (s [m 56 1,q 57 .add 56 1,m 1 57] (S (s [m 58 0,m 59 5,i 60 7 58 59,f 61 5 60,m 63 1,l 62 61,G 64 76 [.t 63],o 65 .neq 62 64] (D 65 (s [k 4
 (-1)] R) F)) (s [m 66 1,q 67 .add 66 1,m 1 67] (s [m 68 0,m 69 5,i 70 7 68 69,f 71 6 70,l 72 71,m 73 1,c 74 42 [.t 72,.t 73],m 1 74] (s [m 75 1,q 76 .lss 75 0] (D 76 (s [k 4 (-1)] R) F)))))))))))))))) (.reg [m 10 5,q 11 .add 10 1,
 m 5 11]))))) (s [m 77 1,m 4 77] R))),[.t 4]⟩
theorem i42 : iF 42 g42 := jF Tryz.func42
def g48 : GFun := ⟨⟨12,[4,5,6]⟩,(s [a 4 7 1,a 5 7 2,u 6 7] (s [m 7 0,h 8 7 4,h 9 7 5,x 10 (.bslice 7 [] 2 true [(0,(.t 8)),(1,(.t 9))]),x 11 (.build [(.val (.int .i64 0)),(.val (.int .i64 0)),(.val (.int .i64 0)),(.val (.int .i64 0)),
 (.val (.string (ByteArray.mk #[]))),(.val (.string (ByteArray.mk #[]))),(.val (.slice none 0 0))] [(0,(1,(K 4))),(1,(1,(.t 7))),(6,(1,(.t 10)))]),t 6 7 11] R)),[(.c 6 7 true)]⟩
theorem i48 : iF 48 g48 := jF Tryz.func48
def g49 : GFun := ⟨⟨19,[1,5]⟩,(s [a 1 7 0,k 2 0] (s [k 3 1] (S (s [f 6 6 1,l 7 6,n 8 7,k 9 0] (B 0 (s [o 10 .lss 9 8] (C 10 0 (S (.block 1 (s [i 11 7 7 9,h 12 7 11,u 5 7,t 5 7 12] (.reg [m 13 3,h 14 7 5,c 15 49 [.t 14],o 16 .add 13 15,
 m 3 16]))) (.reg [q 17 .add 9 1,m 9 17])))))) (s [m 18 3,m 2 18] R)))),[.t 2]⟩
theorem i49 : iF 49 g49 := jF Tryz.func49
def g50 : GFun := ⟨⟨20,[1,5]⟩,(s [a 1 7 0,k 2 0] (s [k 3 0] (S (s [f 6 6 1,l 7 6,n 8 7,k 9 0] (B 0 (s [o 10 .lss 9 8] (C 10 0 (S (.block 1 (s [i 11 7 7 9,h 12 7 11,u 5 7,t 5 7 12] (.reg [m 13 3,h 14 7 5,c 15 50 [.t 14],x 16 (.mx (.t 13)
 (.t 15)),m 3 16]))) (.reg [q 17 .add 9 1,m 9 17])))))) (s [m 18 3,q 19 .add 18 1,m 2 19] R)))),[.t 2]⟩
theorem i50 : iF 50 g50 := jF Tryz.func50
def g51 : GFun := ⟨⟨15,[2,3]⟩,(s [a 2 7 0,a 3 1 1,b 4 false] (s [l 5 3,h 6 7 2,x 7 (.callv false (.t 5) [.t 6]),m 8 7,y 9 8 (p 1 6 2),y 10 8 (r 1 9),y 11 8 (.mkfn 81 [.t 3]),y 12 8 (.call false 80 [.t 10,.t 11]),y 13 8 (.not (.t 12)),
 A 14 8 13,m 4 14] R)),[.t 4]⟩
theorem i51 : iF 51 g51 := jF Tryz.func51
def g52 : GFun := ⟨⟨100,[1]⟩,(s [a 1 7 0,b 2 false] (s [f 5 0 1,l 6 5,f 7 6 1,l 8 7,x 9 (.build [(.val (.int .i64 0)),(.val (.int .i64 0)),(.val (.int .i64 0)),(.val (.int .i64 0)),(.val (.string (ByteArray.mk #[]))),(.val (.string
 (ByteArray.mk #[]))),(.val (.slice none 0 0))] [(0,(1,(.t 6))),(6,(1,(.t 8)))]),x 3 (.alloc 7 (.agg [(.val (.int .i64 0)),(.val (.int .i64 0)),(.val (.int .i64 0)),(.val (.int .i64 0)),(.val (.string (ByteArray.mk #[]))),(.val (.string
 (ByteArray.mk #[]))),(.val (.slice none 0 0))])),(.mk none none (.store 7 (.t 3) (.t 9)))] (s [k 4 0] (S (s [f 10 0 1,l 11 10] (.block 0 (s [q 13 .eql 11 1,m 12 13] (D 12 (s [f 14 1 1,x 15 (.loadr 1 false (.t 14)),f 16 3 1,x 17
 (.loadr 1 false (.t 16)),f 18 1 3,(.mk none none (.store 1 (.t 18) (.t 15))),f 19 3 3,(.mk none none (.store 1 (.t 19) (.t 17)))] (s [f 20 3 1,l 21 20,q 22 .eql 21 4,m 23 22,z 24 23 (p 1 1 1),z 25 23 (r 1 24),z 26 23 (p 1 3 1),z 27 23
 (r 1 26),z 28 23 (.call false 82 [.t 25,.t 27]),z 29 23 (.not (.t 28)),O 30 23 29,m 31 30,z 32 31 (p 1 1 1),z 33 31 (r 1 32),z 34 31 (.bin .lss (.t 33) (K 0)),O 35 31 34] (D 35 (s [b 2 false] R) F))) (s [q 37 .eql 11 3,m 36 37] (D 36
 (s [f 38 2 1,x 39 (.loadr 1 false (.t 38)),f 40 5 1,x 41 (.loadr 1 false (.t 40)),f 42 2 3,(.mk none none (.store 1 (.t 42) (.t 39))),f 43 5 3,(.mk none none (.store 1 (.t 43) (.t 41)))] (s [f 44 5 1,l 45 44,c 46 83 [.t 45],w 47 46]
 (D 47 (s [b 2 false] R) F))) (s [q 49 .eql 11 4,m 48 49] (D 48 (s [f 50 1 1,l 51 50,f 52 1 3,(.mk none none (.store 1 (.t 52) (.t 51))),k 4 2] (s [f 53 1 1,l 54 53,c 55 84 [.t 54,K 1,K 12],w 56 55] (D 56 (s [b 2 false] R) F)))
 (s [q 58 .eql 11 5,m 57 58] (D 57 (.reg [k 4 3]) (s [q 60 .eql 11 6,m 59 60] (D 59 (.reg [f 61 2 1,l 62 61,f 63 2 3,(.mk none none (.store 1 (.t 63) (.t 62)))]) (s [q 65 .eql 11 8,m 64 65] (D 64 (s [f 66 4 1,x 67 (.loadr 1 false (.t 66)),
 f 68 5 1,x 69 (.loadr 1 false (.t 68)),f 70 4 3,(.mk none none (.store 1 (.t 70) (.t 67))),f 71 5 3,(.mk none none (.store 1 (.t 71) (.t 69))),k 4 1] (s [f 72 4 1,l 73 72,c 74 83 [.t 73],w 75 74,m 76 75,z 77 76 (p 1 5 1),z 78 76 (r 1 77),
 z 79 76 (.call false 83 [.t 78]),z 80 76 (.not (.t 79)),O 81 76 80] (D 81 (s [b 2 false] R) F))) (S (s [q 83 .eql 11 2,m 82 83] (D 82 F (.reg [q 84 .eql 11 7,m 82 84]))) (D 82 F (s [b 2 false] R))))))))))))))))) (s [f 85 6 1,l 86 85,
 n 87 86,m 88 4,o 89 .eql 87 88,m 90 89,y 91 90 (p 1 2 1),y 92 90 (r 1 91),y 93 90 (.call false 84 [.t 92,K 0,K 3]),A 94 90 93,m 95 94,y 96 95 (j 7 1),y 97 95 (j 7 3),y 98 95 (.call false 36 [.t 96,.t 97]),A 99 95 98,m 2 99] R))))),[.t 2]⟩
theorem i52 : iF 52 g52 := jF Tryz.func52
def g54 : GFun := ⟨⟨5,[]⟩,(s [x 2 (.mov (.k (.val (.string (ByteArray.mk #[])))))] (s [m 3 0,c 4 86 [.t 3],m 2 4] R)),[.t 2]⟩
theorem i54 : iF 54 g54 := jF Tryz.func54
def g58 : GFun := ⟨⟨31,[]⟩,(s [x 2 (.mov (.k (.val (.string (ByteArray.mk #[])))))] (S (s [m 6 0,q 7 .eql 6 0] (D 7 (s [x 2 (.mov (.k (.val (.string (ByteArray.mk #[48])))))] R) F)) (s [m 8 0,q 9 .lss 8 0,m 3 9] (s [x 4 (.mov (.k (.val
 (.string (ByteArray.mk #[])))))] (S (B 0 (S (s [m 10 0,q 11 .neq 10 0] (D 11 F (.exit 0))) (.block 1 (s [m 12 0,q 13 .rem 12 10,m 5 13] (S (s [m 14 5,q 15 .lss 14 0] (D 15 (.reg [m 16 5,x 17 (.bin .sub (K 0) (.t 16)),m 5 17]) F))
 (s [m 18 5,x 19 (.bin .add (K 48) (.t 18)),x 20 (.conv .u8 (.t 19)),x 21 (.bslice 1 [] 1 false [(0,(.t 20))]),x 22 (.b2s (.t 21)),m 23 4,o 24 .add 22 23,m 4 24] (.reg [m 25 0,q 26 .quo 25 10,m 0 26]))))))) (S (s [m 27 3] (D 27 (s [m 28 4,
 x 29 (.bin .add (.k (.val (.string (ByteArray.mk #[45])))) (.t 28)),m 2 29] R) F)) (s [m 30 4,m 2 30] R))))))),[.t 2]⟩
theorem i58 : iF 58 g58 := jF Tryz.func58
def g61 : GFun := ⟨⟨10,[]⟩,(s [k 4 0] (S (s [m 5 0,m 6 1,o 7 .gtr 5 6] (D 7 (s [m 8 0,m 4 8] R) F)) (s [m 9 1,m 4 9] R))),[.t 4]⟩
theorem i61 : iF 61 g61 := jF Tryz.func61
def g62 : GFun := ⟨⟨61,[1]⟩,(s [a 1 7 0,b 2 false] (S (s [f 3 0 1,l 4 3,c 5 93 [.t 4,K 1,K 8],w 6 5,m 7 6,z 8 7 (j 7 1),z 9 7 (.call false 94 [.t 8]),z 10 7 (.not (.t 9)),O 11 7 10] (D 11 (s [b 2 false] R) F)) (S (s [f 12 0 1,l 13 12]
 (.block 0 (s [q 15 .eql 13 1,m 14 15] (D 14 (s [f 16 3 1,l 17 16,c 18 93 [.t 17,K 1,K 3],m 19 18,y 20 19 (p 1 1 1),y 21 19 (r 1 20),y 22 19 (p 1 3 1),y 23 19 (r 1 22),y 24 19 (.call false 90 [.t 21,.t 23]),A 25 19 24,m 26 25,y 27 26
 (p 1 1 1),y 28 26 (r 1 27),y 29 26 (.bin .geq (.t 28) (K 0)),A 30 26 29,m 2 30] R) (s [q 32 .eql 13 3,m 31 32] (D 31 (s [f 33 2 1,l 34 33,c 35 93 [.t 34,K 0,K 3],m 36 35,y 37 36 (p 1 5 1),y 38 36 (r 1 37),y 39 36 (.call false 95 [.t 38]),
 A 40 36 39,m 2 40] R) (s [q 42 .eql 13 6,m 41 42] (D 41 (s [f 43 2 1,l 44 43,c 45 93 [.t 44,K 0,K 3],m 2 45] R) (s [q 47 .eql 13 4,m 46 47] (D 46 (s [f 48 1 1,l 49 48,c 50 93 [.t 49,K 1,K 12],m 2 50] R) (s [q 52 .eql 13 8,m 51 52] (D 51
 (s [f 53 4 1,l 54 53,c 55 95 [.t 54],m 56 55,y 57 56 (p 1 5 1),y 58 56 (r 1 57),y 59 56 (.call false 95 [.t 58]),A 60 56 59,m 2 60] R) F)))))))))))) (s [b 2 true] R)))),[.t 2]⟩
theorem i62 : iF 62 g62 := jF Tryz.func62
def g63 : GFun := ⟨⟨100,[4]⟩,(s [u 4 4,k 5 0] (s [m 10 1,m 6 10] (S (s [m 11 0,m 12 1,x 13 (.idx (.t 11) (.t 12)),m 7 13] (.block 0 (s [m 15 7,c 16 96 [.t 15],m 14 16] (D 14 (S (B 1 (S (s [m 17 6,m 18 0,x 19 (.slen (.t 18)),o 20 .lss 17 19,
 m 21 20,M 22 21 0,M 23 21 6,y 24 21 (.idx (.t 22) (.t 23)),y 25 21 (.call false 96 [.t 24]),M 26 21 25,N 27 26 0,N 28 26 6,z 29 26 (.idx (.t 27) (.t 28)),z 30 26 (.call false 97 [.t 29]),y 31 21 (.pick (.t 26) (.k (.val (.bool true)))
 (.t 30)),A 32 21 31] (D 32 F (.exit 1))) (.block 2 (.reg [m 33 6,q 34 .add 33 1,m 6 34])))) (S (s [m 35 6,m 36 1,o 37 .sub 35 36,q 38 .gtr 37 8] (D 38 (s [x 39 (.build [(.val (.int .i64 0)),(.val (.int .i64 0)),(.val (.int .i64 0)),(.val
 (.string (ByteArray.mk #[])))] []),t 4 4 39,k 5 0] R) F)) (s [m 40 0,m 41 1,m 42 6,x 43 (.sslc (.t 40) (some (.t 41)) (some (.t 42))),m 44 1,x 45 (.build [(.val (.int .i64 0)),(.val (.int .i64 0)),(.val (.int .i64 0)),(.val (.string
 (ByteArray.mk #[])))] [(0,(1,(K 1))),(3,(1,(.t 43))),(2,(1,(.t 44)))]),m 46 6,m 47 1,o 48 .sub 46 47,t 4 4 45,m 5 48] R))) (s [m 50 7,c 51 97 [.t 50],m 49 51] (D 49 (S (B 3 (S (s [m 52 6,m 53 0,x 54 (.slen (.t 53)),o 55 .lss 52 54,m 56 55,
 M 57 56 0,M 58 56 6,y 59 56 (.idx (.t 57) (.t 58)),y 60 56 (.call false 97 [.t 59]),A 61 56 60] (D 61 F (.exit 3))) (.block 4 (.reg [m 62 6,q 63 .add 62 1,m 6 63])))) (s [m 65 0,m 66 1,m 67 6,x 68 (.sslc (.t 65) (some (.t 66)) (some
 (.t 67))),c 69 98 [.t 68,K 0,K 1000000],m 64 69,v 70 64 0,v 71 64 1,m 8 70,m 9 71] (S (s [m 72 9,w 73 72] (D 73 (s [x 74 (.build [(.val (.int .i64 0)),(.val (.int .i64 0)),(.val (.int .i64 0)),(.val (.string (ByteArray.mk #[])))] []),
 t 4 4 74,k 5 0] R) F)) (s [m 75 8,m 76 1,x 77 (.build [(.val (.int .i64 0)),(.val (.int .i64 0)),(.val (.int .i64 0)),(.val (.string (ByteArray.mk #[])))] [(0,(1,(K 2))),(1,(1,(.t 75))),(2,(1,(.t 76)))]),m 78 6,m 79 1,o 80 .sub 78 79,
 t 4 4 77,m 5 80] R)))) (s [m 82 0,m 83 1,x 84 (.sslc (.t 82) (some (.t 83)) none),x 85 (.call false 99 [.t 84,(.k (.val (.string (ByteArray.mk #[61,61]))))]),m 81 85] (D 81 (s [m 86 1,x 87 (.build [(.val (.int .i64 0)),(.val
 (.int .i64 0)),(.val (.int .i64 0)),(.val (.string (ByteArray.mk #[])))] [(0,(1,(K 3))),(3,(1,(.k (.val (.string (ByteArray.mk #[61,61])))))),(2,(1,(.t 86)))]),t 4 4 87,k 5 2] R) (s [m 89 7,x 90 (.call false 100 [(.k (.val (.string
 (ByteArray.mk #[40,41,123,125,44,46,36,43,45,42,60,124,38,92])))),.t 89]),q 91 .geq 90 0,m 88 91] (D 88 (s [m 92 0,m 93 1,m 94 1,q 95 .add 94 1,x 96 (.sslc (.t 92) (some (.t 93)) (some (.t 95))),m 97 1,x 98 (.build [(.val (.int .i64 0)),
 (.val (.int .i64 0)),(.val (.int .i64 0)),(.val (.string (ByteArray.mk #[])))] [(0,(1,(K 3))),(3,(1,(.t 96))),(2,(1,(.t 97)))]),t 4 4 98,k 5 1] R) F)))))))))) (s [x 99 (.build [(.val (.int .i64 0)),(.val (.int .i64 0)),(.val
 (.int .i64 0)),(.val (.string (ByteArray.mk #[])))] []),t 4 4 99,k 5 0] R)))),[(.c 4 4 true),.t 5]⟩
theorem i63 : iF 63 g63 := jF Tryz.func63
def g64 : GFun := ⟨⟨16,[]⟩,(s [b 4 false] (S (s [m 5 0,m 6 1,c 7 101 [.t 5,.t 6],w 8 7] (D 8 (s [b 4 false] R) F)) (s [m 9 0,x 10 (.nck (.t 9)),f 11 1 10,l 12 11,q 13 .add 12 1,x 14 (.nck (.t 9)),f 15 1 14,(.mk none none (.store 1 (.t 15)
 (.t 13)))] (s [b 4 true] R)))),[.t 4]⟩
theorem i64 : iF 64 g64 := jF Tryz.func64
def g65 : GFun := ⟨⟨11,[]⟩,(s [m 4 0,m 5 1,c 6 64 [.t 4,.t 5],w 7 6] (D 7 (.reg [m 8 0,x 9 (.nck (.t 8)),f 10 2 9,(.mk none none (.store 1 (.t 10) (.k (.val (.bool true)))))]) F)),[]⟩
theorem i65 : iF 65 g65 := jF Tryz.func65
def g66 : GFun := ⟨⟨31,[4,6028005]⟩,(s [u 4 7] (S (s [m 7 1,q 8 .eql 7 4] (D 8 (s [m 9 0,c 10 102 [.t 9],t 4 7 10] R) F)) (s [m 11 0,m 12 1,q 13 .add 12 1,c 14 66 [.t 11,.t 13],x 5 (.alloc 7 (.agg [(.val (.int .i64 0)),(.val (.int .i64 0)),
 (.val (.int .i64 0)),(.val (.int .i64 0)),(.val (.string (ByteArray.mk #[]))),(.val (.string (ByteArray.mk #[]))),(.val (.slice none 0 0))])),(.mk none none (.store 7 (.t 5) (.t 14)))] (S (s [m 15 0,m 16 1,c 17 67 [.t 15,.t 16],m 6 17]
 (B 0 (S (s [m 18 6,q 19 .neq 18 0] (D 19 F (.exit 0))) (S (.block 1 (.reg [m 23 6,m 25 0,m 26 1,q 27 .add 26 1,h 24 7 5,x 28 (.callk [5] 66 [.t 25,.t 27]),c 29 68 [.t 23,.t 24,.t 28],(.mk none none (.store 7 (.t 5) (.t 29)))]))
 (.reg [m 20 0,m 21 1,c 22 67 [.t 20,.t 21],m 6 22]))))) (s [h 30 7 5,t 4 7 30] R))))),[(.c 4 7 true)]⟩
theorem i66 : iF 66 g66 := jF Tryz.func66 [(7, 4)]
def g67 : GFun := ⟨⟨44,[]⟩,(s [k 4 0] (S (s [m 6 0,x 7 (.nck (.t 6)),f 8 2 7,l 9 8,m 10 9,N 11 10 0,z 12 10 (.nck (.t 11)),z 13 10 (p 1 1 12),N 15 10 0,z 16 10 (.nck (.t 15)),z 17 10 (p 1 0 16),z 14 10 (r 1 13),z 18 10 (r 1 17),z 19 10
 (.len (.t 18)),z 20 10 (.bin .geq (.t 14) (.t 19)),O 21 10 20] (D 21 (s [k 4 0] R) F)) (s [m 22 0,x 23 (.nck (.t 22)),f 24 0 23,m 26 0,x 27 (.nck (.t 26)),f 28 1 27,m 32 1,l 25 24,l 29 28,i 30 4 25 29,h 31 4 30,G 33 103 [.t 31,.t 32],
 m 5 33] (S (s [m 34 5,q 35 .neq 34 0] (D 35 (.reg [m 36 0,x 37 (.nck (.t 36)),f 38 1 37,l 39 38,q 40 .add 39 1,x 41 (.nck (.t 36)),f 42 1 41,(.mk none none (.store 1 (.t 42) (.t 40)))]) F)) (s [m 43 5,m 4 43] R))))),[.t 4]⟩
theorem i67 : iF 67 g67 := jF Tryz.func67
def g68 : GFun := ⟨⟨12,[4,5,6]⟩,(s [a 4 7 1,a 5 7 2,u 6 7] (s [m 7 0,h 8 7 4,h 9 7 5,x 10 (.bslice 7 [] 2 true [(0,(.t 8)),(1,(.t 9))]),x 11 (.build [(.val (.int .i64 0)),(.val (.int .i64 0)),(.val (.int .i64 0)),(.val (.int .i64 0)),
 (.val (.string (ByteArray.mk #[]))),(.val (.string (ByteArray.mk #[]))),(.val (.slice none 0 0))] [(0,(1,(K 4))),(1,(1,(.t 7))),(6,(1,(.t 10)))]),t 6 7 11] R)),[(.c 6 7 true)]⟩
theorem i68 : iF 68 g68 := jF Tryz.func68
def g69 : GFun := ⟨⟨9,[]⟩,(s [b 2 false] (s [m 3 0,x 4 (.bin .geq (.t 3) (.k (.val (.int .u8 97)))),m 5 4,M 6 5 0,y 7 5 (.bin .leq (.t 6) (.k (.val (.int .u8 122)))),A 8 5 7,m 2 8] R)),[.t 2]⟩
theorem i69 : iF 69 g69 := jF Tryz.func69
def g70 : GFun := ⟨⟨9,[]⟩,(s [b 2 false] (s [m 3 0,x 4 (.bin .geq (.t 3) (.k (.val (.int .u8 48)))),m 5 4,M 6 5 0,y 7 5 (.bin .leq (.t 6) (.k (.val (.int .u8 57)))),A 8 5 7,m 2 8] R)),[.t 2]⟩
theorem i70 : iF 70 g70 := jF Tryz.func70
def g71 : GFun := ⟨⟨8,[]⟩,(s [k 2 0,b 3 false] (s [m 4 0,c 5 104 [.t 4,K 12],v 6 5 0,v 7 5 1,m 2 6,m 3 7] R)),[.t 2,.t 3]⟩
theorem i71 : iF 71 g71 := jF Tryz.func71
def g72 : GFun := ⟨⟨37,[]⟩,(s [k 4 0] (S (s [m 5 0,m 6 1,x 7 (.idx (.t 5) (.t 6))] (.block 0 (S (s [x 9 (.bin .eql (.t 7) (.k (.val (.int .u8 40)))),m 8 9] (D 8 F (s [x 10 (.bin .eql (.t 7) (.k (.val (.int .u8 41)))),m 8 10] (D 8 F
 (s [x 11 (.bin .eql (.t 7) (.k (.val (.int .u8 123)))),m 8 11] (D 8 F (s [x 12 (.bin .eql (.t 7) (.k (.val (.int .u8 125)))),m 8 12] (D 8 F (s [x 13 (.bin .eql (.t 7) (.k (.val (.int .u8 44)))),m 8 13] (D 8 F (s [x 14 (.bin .eql (.t 7)
 (.k (.val (.int .u8 46)))),m 8 14] (D 8 F (s [x 15 (.bin .eql (.t 7) (.k (.val (.int .u8 36)))),m 8 15] (D 8 F (s [x 16 (.bin .eql (.t 7) (.k (.val (.int .u8 43)))),m 8 16] (D 8 F (s [x 17 (.bin .eql (.t 7) (.k (.val (.int .u8 45)))),
 m 8 17] (D 8 F (s [x 18 (.bin .eql (.t 7) (.k (.val (.int .u8 42)))),m 8 18] (D 8 F (s [x 19 (.bin .eql (.t 7) (.k (.val (.int .u8 60)))),m 8 19] (D 8 F (s [x 20 (.bin .eql (.t 7) (.k (.val (.int .u8 124)))),m 8 20] (D 8 F (s [x 21
 (.bin .eql (.t 7) (.k (.val (.int .u8 38)))),m 8 21] (D 8 F (.reg [x 22 (.bin .eql (.t 7) (.k (.val (.int .u8 92)))),m 8 22]))))))))))))))))))))))))))) (D 8 (s [k 4 1] R) (s [x 24 (.bin .eql (.t 7) (.k (.val (.int .u8 61)))),m 23 24]
 (D 23 (s [m 25 1,q 26 .add 25 1,m 27 0,x 28 (.slen (.t 27)),o 29 .lss 26 28,m 30 29,M 31 30 0,M 32 30 1,y 33 30 (.bin .add (.t 32) (K 1)),y 34 30 (.idx (.t 31) (.t 33)),y 35 30 (.bin .eql (.t 34) (.k (.val (.int .u8 61)))),A 36 30 35]
 (D 36 (s [k 4 2] R) F)) F)))))) (s [k 4 0] R))),[.t 4]⟩
theorem i72 : iF 72 g72 := jF Tryz.func72
def g73 : GFun := ⟨⟨36,[]⟩,(s [b 4 false] (s [m 5 0,x 6 (.nck (.t 5)),f 7 3 6,l 8 7,q 9 .lss 8 0,m 10 9,M 11 10 0,y 12 10 (.nck (.t 11)),y 13 10 (p 1 1 12),M 15 10 0,y 16 10 (.nck (.t 15)),y 17 10 (p 1 0 16),y 14 10 (r 1 13),y 18 10
 (r 1 17),y 19 10 (.len (.t 18)),y 20 10 (.bin .lss (.t 14) (.t 19)),A 21 10 20,m 22 21,M 23 22 0,y 24 22 (.nck (.t 23)),y 25 22 (p 1 0 24),M 27 22 0,y 28 22 (.nck (.t 27)),y 29 22 (p 1 1 28),M 33 22 1,y 26 22 (r 1 25),y 30 22 (r 1 29),
 y 31 22 (.iaddr 4 (.t 26) (.t 30)),y 32 22 (j 4 31),y 34 22 (.call true 105 [.t 32,.t 33]),A 35 22 34,m 4 35] R)),[.t 4]⟩
theorem i73 : iF 73 g73 := jF Tryz.func73
def g74 : GFun := ⟨⟨39,[4,6034005]⟩,(s [u 4 7] (S (s [m 7 1,q 8 .gtr 7 3] (D 8 (s [m 9 0,c 10 106 [.t 9],t 4 7 10] R) F)) (s [m 11 0,m 12 1,q 13 .add 12 1,c 14 74 [.t 11,.t 13],x 5 (.alloc 7 (.agg [(.val (.int .i64 0)),(.val (.int .i64 0)),
 (.val (.int .i64 0)),(.val (.int .i64 0)),(.val (.string (ByteArray.mk #[]))),(.val (.string (ByteArray.mk #[]))),(.val (.slice none 0 0))])),(.mk none none (.store 7 (.t 5) (.t 14)))] (B 0 (.block 1 (s [m 15 0,m 16 1,c 17 107 [.t 15,
 .t 16],m 6 17] (S (s [m 18 6,q 19 .eql 18 0] (D 19 (s [h 20 7 5,t 4 7 20] R) F)) (s [m 21 0,m 22 0,x 23 (.nck (.t 22)),f 24 1 23,l 25 24,q 26 .add 25 1,x 27 (.nck (.t 21)),f 28 1 27,(.mk none none (.store 1 (.t 28) (.t 26)))] (s [m 29 6,
 m 31 0,m 32 1,q 33 .add 32 1,h 30 7 5,x 34 (.callk [5] 74 [.t 31,.t 33]),c 35 48 [.t 29,.t 30,.t 34],(.mk none none (.store 7 (.t 5) (.t 35)))] (s [m 36 1,q 37 .eql 36 1] (D 37 (s [h 38 7 5,t 4 7 38] R) F))))))))))),[(.c 4 7 true)]⟩
theorem i74 : iF 74 g74 := jF Tryz.func74 [(8, 4)]
def g75 : GFun := ⟨⟨18,[]⟩,(S (s [m 4 0,m 5 1,c 6 73 [.t 4,.t 5],w 7 6] (D 7 (s [m 8 0,c 9 39 [.t 8]] R) F)) (.reg [m 10 0,m 11 0,x 12 (.nck (.t 11)),f 13 1 12,l 14 13,q 15 .add 14 1,x 16 (.nck (.t 10)),f 17 1 16,(.mk none none (.store 1
 (.t 17) (.t 15)))])),[]⟩
theorem i75 : iF 75 g75 := jF Tryz.func75
def g76 : GFun := ⟨⟨20,[]⟩,(s [x 2 (.mov (.k (.val (.string (ByteArray.mk #[])))))] (S (s [m 4 0,q 5 .leq 4 0] (D 5 (s [x 2 (.mov (.k (.val (.string (ByteArray.mk #[109,48])))))] R) F)) (s [x 3 (.mov (.k (.val (.string
 (ByteArray.mk #[])))))] (S (B 0 (S (s [m 6 0,q 7 .gtr 6 0] (D 7 F (.exit 0))) (.block 1 (s [m 8 0,q 9 .rem 8 10,x 10 (.bin .add (K 48) (.t 9)),x 11 (.conv .u8 (.t 10)),x 12 (.bslice 1 [] 1 false [(0,(.t 11))]),x 13 (.b2s (.t 12)),m 14 3,
 o 15 .add 13 14,m 3 15] (.reg [m 16 0,q 17 .quo 16 10,m 0 17]))))) (s [m 18 3,x 19 (.bin .add (.k (.val (.string (ByteArray.mk #[109])))) (.t 18)),m 2 19] R))))),[.t 2]⟩
theorem i76 : iF 76 g76 := jF Tryz.func76
def g80 : GFun := ⟨⟨9,[]⟩,(s [b 4 false] (s [m 5 0,m 6 1,c 7 111 [.t 5,.t 6],q 8 .geq 7 0,m 4 8] R)),[.t 4]⟩
theorem i80 : iF 80 g80 := jF Tryz.func80
def g81 : GFun := ⟨⟨8,[2]⟩,(s [a 2 7 0,b 3 false] (s [h 4 7 2,l 5 1,c 6 51 [.t 4,.t 5],w 7 6,m 3 7] R)),[.t 3]⟩
theorem i81 : iF 81 g81 := jF Tryz.func81
def g82 : GFun := ⟨⟨14,[]⟩,(s [b 4 false] (s [m 5 1,c 6 112 [.t 5],m 7 6,M 8 7 0,M 9 7 1,y 10 7 (.call false 113 [.t 8,.t 9]),M 11 7 0,y 12 7 (.bin .eql (.t 10) (.t 11)),A 13 7 12,m 4 13] R)),[.t 4]⟩
theorem i82 : iF 82 g82 := jF Tryz.func82
def g83 : GFun := ⟨⟨35,[]⟩,(s [b 2 false] (S (s [m 4 0,x 5 (.slen (.t 4)),k 6 0] (B 0 (s [o 7 .lss 6 5] (C 7 0 (S (.block 1 (s [m 8 6,m 3 8] (s [m 9 0,m 10 3,x 11 (.idx (.t 9) (.t 10)),c 12 96 [.t 11],w 13 12,m 14 13,M 15 14 0,M 16 14 3,
 y 17 14 (.idx (.t 15) (.t 16)),y 18 14 (.call false 97 [.t 17]),y 19 14 (.not (.t 18)),A 20 14 19] (D 20 (s [b 2 false] R) F)))) (.reg [q 21 .add 6 1,m 6 21])))))) (s [m 22 0,x 23 (.slen (.t 22)),c 24 84 [.t 23,K 1,K 8],m 25 24,M 26 25 0,
 y 27 25 (.idx (.t 26) (K 0)),y 28 25 (.call false 96 [.t 27]),A 29 25 28,m 30 29,M 31 30 0,y 32 30 (.call false 114 [.t 31]),y 33 30 (.not (.t 32)),A 34 30 33,m 2 34] R))),[.t 2]⟩
theorem i83 : iF 83 g83 := jF Tryz.func83
def g84 : GFun := ⟨⟨15,[]⟩,(s [b 6 false] (s [m 7 0,m 8 1,o 9 .geq 7 8,m 10 9,M 11 10 0,M 12 10 2,y 13 10 (.bin .leq (.t 11) (.t 12)),A 14 10 13,m 6 14] R)),[.t 6]⟩
theorem i84 : iF 84 g84 := jF Tryz.func84
def g88 : GFun := ⟨⟨15,[]⟩,(s [k 2 0] (S (s [m 3 0] (.block 0 (S (s [q 5 .eql 3 9,m 4 5] (D 4 F (.reg [q 6 .eql 3 10,m 4 6]))) (D 4 (s [k 2 1] R) (S (s [q 8 .eql 3 1,m 7 8] (D 7 F (s [q 9 .eql 3 2,m 7 9] (D 7 F (s [q 10 .eql 3 6,m 7 10]
 (D 7 F (.reg [q 11 .eql 3 8,m 7 11]))))))) (D 7 (s [k 2 2] R) (S (s [q 13 .eql 3 3,m 12 13] (D 12 F (.reg [q 14 .eql 3 7,m 12 14]))) (D 12 (s [k 2 3] R) F)))))))) (s [k 2 4] R))),[.t 2]⟩
theorem i88 : iF 88 g88 := jF Tryz.func88
def g90 : GFun := ⟨⟨14,[]⟩,(s [b 4 false] (s [m 5 1,c 6 93 [.t 5,K 1,K 4],m 7 6,M 8 7 0,M 9 7 1,y 10 7 (.call false 117 [.t 8,.t 9]),M 11 7 0,y 12 7 (.bin .eql (.t 10) (.t 11)),A 13 7 12,m 4 13] R)),[.t 4]⟩
theorem i90 : iF 90 g90 := jF Tryz.func90
def g93 : GFun := ⟨⟨15,[]⟩,(s [b 6 false] (s [m 7 0,m 8 1,o 9 .geq 7 8,m 10 9,M 11 10 0,M 12 10 2,y 13 10 (.bin .leq (.t 11) (.t 12)),A 14 10 13,m 6 14] R)),[.t 6]⟩
theorem i93 : iF 93 g93 := jF Tryz.func93
def g94 : GFun := ⟨⟨86,[1]⟩,(s [a 1 7 0,b 2 false] (s [k 3 0] (S (s [f 7 0 1,l 8 7] (.block 0 (s [q 10 .eql 8 4,m 9 10] (D 9 (.reg [k 3 2]) (s [q 12 .eql 8 5,m 11 12] (D 11 (.reg [k 3 3]) (s [q 14 .eql 8 8,m 13 14] (D 13
 (.reg [k 3 1]) F)))))))) (S (s [f 15 6 1,l 16 15,n 17 16,m 18 3,o 19 .neq 17 18] (D 19 (s [b 2 false] R) F)) (s [f 20 0 1,l 21 20,q 22 .eql 21 3,m 23 22,z 24 23 (p 1 0 1),z 25 23 (r 1 24),J 26 23 25 6,O 27 23 26,m 4 27] (s [f 28 0 1,
 l 29 28,q 30 .eql 29 3,m 31 30,z 32 31 (p 1 0 1),z 33 31 (r 1 32),J 34 31 33 8,O 35 31 34,m 5 35] (s [f 36 0 1,l 37 36,q 38 .eql 37 1,m 39 38,z 40 39 (p 1 0 1),z 41 39 (r 1 40),J 42 39 41 4,O 43 39 42,m 6 43] (s [m 44 4,m 45 44,z 46 45
 (p 1 2 1),z 47 45 (r 1 46),J 48 45 47 0,O 49 45 48,m 50 49,M 51 50 5,M 52 50 51,z 53 52 (p 1 5 1),z 54 52 (r 1 53),z 55 52 (.bin .eql (.t 54) (.k (.val (.string (ByteArray.mk #[]))))),y 56 50 (.pick (.t 52) (.k (.val (.bool true)))
 (.t 55)),A 57 50 56,m 58 57,M 59 58 6,M 60 58 59,z 61 60 (p 1 1 1),z 62 60 (r 1 61),J 63 60 62 0,y 64 58 (.pick (.t 60) (.k (.val (.bool true))) (.t 63)),A 65 58 64,m 66 65,y 67 66 (p 1 0 1),y 68 66 (r 1 67),I 69 66 68 1,M 70 66 69,
 z 71 70 (p 1 3 1),z 72 70 (r 1 71),J 73 70 72 0,y 74 66 (.pick (.t 70) (.k (.val (.bool true))) (.t 73)),A 75 66 74,m 76 75,y 77 76 (p 1 0 1),y 78 76 (r 1 77),I 79 76 78 8,M 80 76 79,z 81 80 (p 1 4 1),z 82 80 (r 1 81),z 83 80 (.bin .eql
 (.t 82) (.k (.val (.string (ByteArray.mk #[]))))),y 84 76 (.pick (.t 80) (.k (.val (.bool true))) (.t 83)),A 85 76 84,m 2 85] R)))))))),[.t 2]⟩
theorem i94 : iF 94 g94 := jF Tryz.func94
def g95 : GFun := ⟨⟨15,[]⟩,(s [b 2 false] (s [m 3 0,c 4 118 [.t 3],m 5 4,M 6 5 0,y 7 5 (.slen (.t 6)),y 8 5 (.bin .leq (.t 7) (K 8)),A 9 5 8,m 10 9,M 11 10 0,y 12 10 (.call false 119 [.t 11]),y 13 10 (.not (.t 12)),A 14 10 13,m 2 14] R)),
 [.t 2]⟩
theorem i95 : iF 95 g95 := jF Tryz.func95
def g96 : GFun := ⟨⟨9,[]⟩,(s [b 2 false] (s [m 3 0,x 4 (.bin .geq (.t 3) (.k (.val (.int .u8 97)))),m 5 4,M 6 5 0,y 7 5 (.bin .leq (.t 6) (.k (.val (.int .u8 122)))),A 8 5 7,m 2 8] R)),[.t 2]⟩
theorem i96 : iF 96 g96 := jF Tryz.func96
def g97 : GFun := ⟨⟨9,[]⟩,(s [b 2 false] (s [m 3 0,x 4 (.bin .geq (.t 3) (.k (.val (.int .u8 48)))),m 5 4,M 6 5 0,y 7 5 (.bin .leq (.t 6) (.k (.val (.int .u8 57)))),A 8 5 7,m 2 8] R)),[.t 2]⟩
theorem i97 : iF 97 g97 := jF Tryz.func97
def g98 : GFun := ⟨⟨31,[]⟩,(s [k 6 0,b 7 false] (s [m 11 0,c 12 120 [.t 11],m 10 12,v 13 10 0,v 14 10 1,m 8 13,m 9 14] (S (s [m 15 9,x 16 (.ifnil true (.t 15)),m 17 16,N 18 17 8,N 19 17 1,N 20 17 2,z 21 17 (.call false 84 [.t 18,.t 19,
 .t 20]),z 22 17 (.not (.t 21)),O 23 17 22,m 24 23,N 25 24 8,z 26 24 (.call false 54 [.t 25]),N 27 24 0,z 28 24 (.bin .neq (.t 26) (.t 27)),O 29 24 28] (D 29 (s [k 6 0,b 7 false] R) F)) (s [m 30 8,m 6 30,b 7 true] R)))),[.t 6,.t 7]⟩
theorem i98 : iF 98 g98 := jF Tryz.func98
def g99 : GFun := ⟨⟨8,[]⟩,(s [b 4 false] (s [m 5 0,m 6 1,c 7 121 [.t 5,.t 6],m 4 7] R)),[.t 4]⟩
theorem i99 : iF 99 g99 := jF Tryz.func99
def g101 : GFun := ⟨⟨36,[]⟩,(s [b 4 false] (s [m 5 0,x 6 (.nck (.t 5)),f 7 2 6,l 8 7,w 9 8,m 10 9,M 11 10 0,y 12 10 (.nck (.t 11)),y 13 10 (p 1 1 12),M 15 10 0,y 16 10 (.nck (.t 15)),y 17 10 (p 1 0 16),y 14 10 (r 1 13),y 18 10 (r 1 17),
 y 19 10 (.len (.t 18)),y 20 10 (.bin .lss (.t 14) (.t 19)),A 21 10 20,m 22 21,M 23 22 0,y 24 22 (.nck (.t 23)),y 25 22 (p 1 0 24),M 27 22 0,y 28 22 (.nck (.t 27)),y 29 22 (p 1 1 28),M 33 22 1,y 26 22 (r 1 25),y 30 22 (r 1 29),y 31 22
 (.iaddr 4 (.t 26) (.t 30)),y 32 22 (j 4 31),y 34 22 (.call true 123 [.t 32,.t 33]),A 35 22 34,m 4 35] R)),[.t 4]⟩
theorem i101 : iF 101 g101 := jF Tryz.func101
def g102 : GFun := ⟨⟨146,[2,3,6,7,8]⟩,(s [u 2 7] (S (s [m 11 0,x 12 (.nck (.t 11)),f 13 2 12,l 14 13,m 15 14,N 16 15 0,z 17 15 (.nck (.t 16)),z 18 15 (p 1 1 17),N 20 15 0,z 21 15 (.nck (.t 20)),z 22 15 (p 1 0 21),z 19 15 (r 1 18),z 23 15
 (r 1 22),z 24 15 (.len (.t 23)),z 25 15 (.bin .geq (.t 19) (.t 24)),O 26 15 25] (D 26 (s [m 27 0,x 28 (.nck (.t 27)),f 29 2 28,(.mk none none (.store 1 (.t 29) (.k (.val (.bool true)))))] (s [x 30 (.build [(.val (.int .i64 0)),(.val
 (.int .i64 0)),(.val (.int .i64 0)),(.val (.int .i64 0)),(.val (.string (ByteArray.mk #[]))),(.val (.string (ByteArray.mk #[]))),(.val (.slice none 0 0))] []),t 2 7 30] R)) F)) (s [m 31 0,x 32 (.nck (.t 31)),f 33 0 32,m 35 0,x 36 (.nck
 (.t 35)),f 37 1 36,u 3 4,l 34 33,l 38 37,i 39 4 34 38,h 40 4 39,t 3 4 40] (S (.block 0 (s [f 42 0 3,l 43 42,q 44 .eql 43 2,m 41 44] (D 41 (s [m 45 0,c 46 125 [.t 45,K 0,K 1000000],c 47 124 [.t 46,K 1],t 2 7 47] R) (s [m 49 0,x 50
 (.call false 64 [.t 49,(.k (.val (.string (ByteArray.mk #[123]))))]),m 48 50] (D 48 (s [m 51 0,c 52 126 [.t 51],t 2 7 52] R) (s [m 54 0,x 55 (.call false 64 [.t 54,(.k (.val (.string (ByteArray.mk #[116,114,117,101]))))]),m 53 55] (D 53
 (s [c 56 124 [K 1,K 3],t 2 7 56] R) (s [m 58 0,x 59 (.call false 64 [.t 58,(.k (.val (.string (ByteArray.mk #[102,97,108,115,101]))))]),m 57 59] (D 57 (s [c 60 124 [K 0,K 3],t 2 7 60] R) (s [m 62 0,x 63 (.call false 64 [.t 62,(.k (.val
 (.string (ByteArray.mk #[108,105,116]))))]),m 61 63] (D 61 (s [x 64 (.build [(.val (.int .i64 0)),(.val (.int .i64 0)),(.val (.int .i64 0)),(.val (.int .i64 0)),(.val (.string (ByteArray.mk #[]))),(.val (.string (ByteArray.mk #[]))),
 (.val (.slice none 0 0))] [(0,(1,(K 2)))]),t 2 7 64] R) (s [m 66 0,x 67 (.call false 64 [.t 66,(.k (.val (.string (ByteArray.mk #[110,111,110,101]))))]),m 65 67] (D 65 (s [x 68 (.build [(.val (.int .i64 0)),(.val (.int .i64 0)),(.val
 (.int .i64 0)),(.val (.int .i64 0)),(.val (.string (ByteArray.mk #[]))),(.val (.string (ByteArray.mk #[]))),(.val (.slice none 0 0))] [(0,(1,(K 7)))]),t 2 7 68] R) (s [m 70 0,x 71 (.call false 64 [.t 70,(.k (.val (.string
 (ByteArray.mk #[36]))))]),m 69 71] (D 69 (s [m 72 0,c 73 125 [.t 72,K 0,K 3],m 4 73] (s [m 74 0,x 75 (.call false 65 [.t 74,(.k (.val (.string (ByteArray.mk #[46]))))])] (s [m 76 4,m 77 0,c 78 127 [.t 77],x 79 (.build [(.val
 (.int .i64 0)),(.val (.int .i64 0)),(.val (.int .i64 0)),(.val (.int .i64 0)),(.val (.string (ByteArray.mk #[]))),(.val (.string (ByteArray.mk #[]))),(.val (.slice none 0 0))] [(0,(1,(K 3))),(2,(1,(.t 76))),(5,(1,(.t 78)))]),
 t 2 7 79] R))) (s [m 81 0,x 82 (.call false 64 [.t 81,(.k (.val (.string (ByteArray.mk #[115,101,108,102]))))]),m 80 82] (D 80 (s [m 83 0,x 84 (.call false 65 [.t 83,(.k (.val (.string (ByteArray.mk #[40]))))])] (s [m 85 0,c 86 125 [.t 85,
 K 0,K 3],m 5 86] (s [m 87 0,x 88 (.call false 65 [.t 87,(.k (.val (.string (ByteArray.mk #[41]))))])] (s [m 89 5,x 90 (.build [(.val (.int .i64 0)),(.val (.int .i64 0)),(.val (.int .i64 0)),(.val (.int .i64 0)),(.val (.string
 (ByteArray.mk #[]))),(.val (.string (ByteArray.mk #[]))),(.val (.slice none 0 0))] [(0,(1,(K 6))),(2,(1,(.t 89)))]),t 2 7 90] R)))) (s [m 92 0,x 93 (.call false 64 [.t 92,(.k (.val (.string (ByteArray.mk #[40]))))]),m 91 93] (D 91
 (s [m 94 0,c 95 34 [.t 94],u 6 7,t 6 7 95] (s [m 96 0,x 97 (.call false 65 [.t 96,(.k (.val (.string (ByteArray.mk #[41]))))])] (s [h 98 7 6,t 2 7 98] R))) (s [f 100 0 3,l 101 100,q 102 .eql 101 1,m 103 102,y 104 103 (p 1 3 3),y 105 103
 (r 1 104),y 106 103 (.call false 128 [.t 105]),y 107 103 (.bin .neq (.t 106) (K 0)),A 108 103 107,m 99 108] (D 99 (s [m 109 0,x 110 (.nck (.t 109)),f 111 1 110,l 112 111,q 113 .add 112 1,x 114 (.nck (.t 109)),f 115 1 114,(.mk none none
 (.store 1 (.t 115) (.t 113)))] (s [m 116 0,x 117 (.call false 65 [.t 116,(.k (.val (.string (ByteArray.mk #[40]))))])] (s [m 118 0,c 119 34 [.t 118],u 7 7,t 7 7 119] (s [m 120 0,x 121 (.call false 65 [.t 120,(.k (.val (.string
 (ByteArray.mk #[44]))))])] (s [m 122 0,c 123 34 [.t 122],u 8 7,t 8 7 123] (s [m 124 0,x 125 (.call false 65 [.t 124,(.k (.val (.string (ByteArray.mk #[41]))))])] (s [f 126 3 3,x 127 (.loadr 1 false (.t 126)),x 129 (.loadr 7 true (.t 7)),
 x 130 (.loadr 7 true (.t 8)),c 128 128 [.t 127],c 131 68 [.t 128,.t 129,.t 130],t 2 7 131] R))))))) F))))))))))))))))))))) (s [m 132 0,c 133 127 [.t 132],m 9 133] (s [m 134 0,x 135 (.call false 65 [.t 134,(.k (.val (.string
 (ByteArray.mk #[46]))))])] (s [m 136 0,c 137 127 [.t 136],m 10 137] (s [m 138 0,x 139 (.call false 65 [.t 138,(.k (.val (.string (ByteArray.mk #[111,102]))))])] (s [m 140 9,m 141 10,m 142 0,c 143 102 [.t 142],x 144
 (.bslice 7 [] 1 true [(0,(.t 143))]),x 145 (.build [(.val (.int .i64 0)),(.val (.int .i64 0)),(.val (.int .i64 0)),(.val (.int .i64 0)),(.val (.string (ByteArray.mk #[]))),(.val (.string (ByteArray.mk #[]))),(.val (.slice none 0 0))] [(0,
 (1,(K 8))),(4,(1,(.t 140))),(5,(1,(.t 141))),(6,(1,(.t 144)))]),t 2 7 145] R))))))))),[(.c 2 7 true)]⟩
theorem i102 : iF 102 g102 := jF Tryz.func102 [(37, 3)]
def g103 : GFun := ⟨⟨36,[2]⟩,(s [a 2 4 0,k 4 0] (S (s [f 6 0 2,l 7 6,q 8 .neq 7 3] (D 8 (s [k 4 0] R) F)) (s [k 5 0] (S (s [f 9 3 2,l 10 9] (.block 0 (s [x 12 (.bin .eql (.t 10) (.k (.val (.string (ByteArray.mk #[60]))))),m 11 12] (D 11
 (.reg [k 5 9]) (s [x 14 (.bin .eql (.t 10) (.k (.val (.string (ByteArray.mk #[61,61]))))),m 13 14] (D 13 (.reg [k 5 10]) (s [x 16 (.bin .eql (.t 10) (.k (.val (.string (ByteArray.mk #[43]))))),m 15 16] (D 15 (.reg [k 5 1]) (s [x 18
 (.bin .eql (.t 10) (.k (.val (.string (ByteArray.mk #[45]))))),m 17 18] (D 17 (.reg [k 5 2]) (s [x 20 (.bin .eql (.t 10) (.k (.val (.string (ByteArray.mk #[124]))))),m 19 20] (D 19 (.reg [k 5 6]) (s [x 22 (.bin .eql (.t 10) (.k (.val
 (.string (ByteArray.mk #[92]))))),m 21 22] (D 21 (.reg [k 5 8]) (s [x 24 (.bin .eql (.t 10) (.k (.val (.string (ByteArray.mk #[42]))))),m 23 24] (D 23 (.reg [k 5 3]) (s [x 26 (.bin .eql (.t 10) (.k (.val (.string (ByteArray.mk #[38]))))),
 m 25 26] (D 25 (.reg [k 5 7]) F)))))))))))))))))) (S (s [m 27 5,q 28 .eql 27 0,m 29 28,N 30 29 5,z 31 29 (.call false 88 [.t 30]),N 32 29 1,z 33 29 (.bin .neq (.t 31) (.t 32)),O 34 29 33] (D 34 (s [k 4 0] R) F)) (s [m 35 5,m 4 35] R)))))),
 [.t 4]⟩
theorem i103 : iF 103 g103 := jF Tryz.func103
def g104 : GFun := ⟨⟨63,[]⟩,(s [k 4 0,b 5 false] (s [m 10 0,x 11 (.slen (.t 10)),q 12 .gtr 11 0,m 13 12,M 14 13 0,y 15 13 (.idx (.t 14) (K 0)),y 16 13 (.bin .eql (.t 15) (.k (.val (.int .u8 45)))),A 17 13 16,m 6 17] (s [m 18 0,m 7 18] (S
 (s [m 19 6] (D 19 (.reg [m 20 0,x 21 (.sslc (.t 20) (some (K 1)) none),m 7 21]) F)) (S (s [m 22 7,x 23 (.slen (.t 22)),q 24 .lss 23 1,m 25 24,N 26 25 7,z 27 25 (.slen (.t 26)),N 28 25 1,z 29 25 (.bin .gtr (.t 27) (.t 28)),O 30 25 29]
 (D 30 (s [k 4 0,b 5 false] R) F)) (s [k 8 0] (S (s [k 9 0] (B 0 (S (s [m 31 9,m 32 7,x 33 (.slen (.t 32)),o 34 .lss 31 33] (D 34 F (.exit 0))) (S (.block 1 (S (s [m 37 7,m 38 9,x 39 (.idx (.t 37) (.t 38)),x 40 (.bin .lss (.t 39) (.k
 (.val (.int .u8 48)))),m 41 40,N 42 41 7,N 43 41 9,z 44 41 (.idx (.t 42) (.t 43)),z 45 41 (.bin .gtr (.t 44) (.k (.val (.int .u8 57)))),O 46 41 45] (D 46 (s [k 4 0,b 5 false] R) F)) (.reg [m 47 8,x 48 (.bin .mul (K 10) (.t 47)),m 49 7,
 m 50 9,x 51 (.idx (.t 49) (.t 50)),x 52 (.bin .sub (.t 51) (.k (.val (.int .u8 48)))),x 53 (.conv .i64 (.t 52)),o 54 .add 48 53,m 8 54]))) (.reg [m 35 9,q 36 .add 35 1,m 9 36]))))) (S (s [m 55 6] (D 55 (.reg [m 56 8,x 57 (.bin .sub (K 0)
 (.t 56)),m 8 57]) F)) (S (s [m 58 8,c 59 58 [.t 58],m 60 0,o 61 .neq 59 60] (D 61 (s [k 4 0,b 5 false] R) F)) (s [m 62 8,m 4 62,b 5 true] R)))))))))),[.t 4,.t 5]⟩
theorem i104 : iF 104 g104 := jF Tryz.func104
def g105 : GFun := ⟨⟨19,[2]⟩,(s [a 2 4 0,b 4 false] (s [f 5 0 2,l 6 5,q 7 .eql 6 1,m 8 7,z 9 8 (p 1 0 2),z 10 8 (r 1 9),J 11 8 10 3,O 12 8 11,m 13 12,y 14 13 (p 1 3 2),y 15 13 (r 1 14),M 16 13 1,y 17 13 (.bin .eql (.t 15) (.t 16)),
 A 18 13 17,m 4 18] R)),[.t 4]⟩
theorem i105 : iF 105 g105 := jF Tryz.func105
def g106 : GFun := ⟨⟨128,[2,3,4]⟩,(s [u 2 7] (S (s [m 5 0,x 6 (.nck (.t 5)),f 7 3 6,l 8 7,q 9 .geq 8 0,m 10 9,N 11 10 0,z 12 10 (.nck (.t 11)),z 13 10 (p 1 1 12),N 15 10 0,z 16 10 (.nck (.t 15)),z 17 10 (p 1 0 16),z 14 10 (r 1 13),z 18 10
 (r 1 17),z 19 10 (.len (.t 18)),z 20 10 (.bin .geq (.t 14) (.t 19)),O 21 10 20] (D 21 (s [m 22 0,c 23 39 [.t 22],t 2 7 23] R) F)) (s [m 24 0,x 25 (.nck (.t 24)),f 26 0 25,m 28 0,x 29 (.nck (.t 28)),f 30 1 29,u 3 4,l 27 26,l 31 30,
 i 32 4 27 31,h 33 4 32,t 3 4 33] (S (.block 0 (s [f 35 0 3,l 36 35,q 37 .eql 36 2,m 34 37] (D 34 (s [m 38 0,f 39 1 3,l 40 39,c 41 130 [.t 40,K 1],c 42 129 [.t 38,.t 41],t 2 7 42] R) (s [h 44 4 3,x 45 (.call false 105 [.t 44,(.k (.val
 (.string (ByteArray.mk #[123]))))]),m 43 45] (D 43 (s [m 46 0,c 47 131 [.t 46],t 2 7 47] R) (s [h 49 4 3,x 50 (.call false 105 [.t 49,(.k (.val (.string (ByteArray.mk #[116,114,117,101]))))]),m 51 50,z 52 51 (j 4 3),z 53 51
 (.call false 105 [.t 52,(.k (.val (.string (ByteArray.mk #[102,97,108,115,101]))))]),O 54 51 53,m 48 54] (D 48 (s [m 55 0,f 56 3 3,l 57 56,x 58 (.bin .eql (.t 57) (.k (.val (.string (ByteArray.mk #[116,114,117,101]))))),c 59 132 [.t 58],
 c 60 130 [.t 59,K 3],c 61 129 [.t 55,.t 60],t 2 7 61] R) (s [h 63 4 3,x 64 (.call false 105 [.t 63,(.k (.val (.string (ByteArray.mk #[108,105,116]))))]),m 62 64] (D 62 (s [m 65 0,x 66 (.build [(.val (.int .i64 0)),(.val (.int .i64 0)),
 (.val (.int .i64 0)),(.val (.int .i64 0)),(.val (.string (ByteArray.mk #[]))),(.val (.string (ByteArray.mk #[]))),(.val (.slice none 0 0))] [(0,(1,(K 2)))]),c 67 129 [.t 65,.t 66],t 2 7 67] R) (s [h 69 4 3,x 70 (.call false 105 [.t 69,
 (.k (.val (.string (ByteArray.mk #[110,111,110,101]))))]),m 68 70] (D 68 (s [m 71 0,x 72 (.build [(.val (.int .i64 0)),(.val (.int .i64 0)),(.val (.int .i64 0)),(.val (.int .i64 0)),(.val (.string (ByteArray.mk #[]))),(.val (.string
 (ByteArray.mk #[]))),(.val (.slice none 0 0))] [(0,(1,(K 7)))]),c 73 129 [.t 71,.t 72],t 2 7 73] R) (s [h 75 4 3,x 76 (.call false 105 [.t 75,(.k (.val (.string (ByteArray.mk #[36]))))]),m 74 76] (D 74 (s [m 77 0,c 78 133 [.t 77],
 t 2 7 78] R) (s [h 80 4 3,x 81 (.call false 105 [.t 80,(.k (.val (.string (ByteArray.mk #[115,101,108,102]))))]),m 79 81] (D 79 (s [m 82 0,c 83 134 [.t 82],t 2 7 83] R) (s [h 85 4 3,x 86 (.call false 105 [.t 85,(.k (.val (.string
 (ByteArray.mk #[40]))))]),m 84 86] (D 84 (s [m 87 0,m 88 0,x 89 (.nck (.t 88)),f 90 1 89,l 91 90,q 92 .add 91 1,x 93 (.nck (.t 87)),f 94 1 93,(.mk none none (.store 1 (.t 94) (.t 92)))] (s [m 95 0,c 96 38 [.t 95],u 4 7,t 4 7 96]
 (s [m 97 0,x 98 (.call false 75 [.t 97,(.k (.val (.string (ByteArray.mk #[41]))))])] (s [h 99 7 4,t 2 7 99] R)))) (s [f 101 0 3,l 102 101,q 103 .eql 102 1,m 104 103,y 105 104 (p 1 3 3),y 106 104 (r 1 105),y 107 104
 (.call false 135 [.t 106]),y 108 104 (.bin .gtr (.t 107) (K 0)),A 109 104 108,m 100 109] (D 100 (s [m 110 0,f 111 3 3,l 112 111,c 113 135 [.t 112],c 114 136 [.t 110,.t 113],t 2 7 114] R) (s [f 116 0 3,l 117 116,q 118 .eql 117 1,m 119 118,
 y 120 119 (p 1 3 3),y 121 119 (r 1 120),y 122 119 (.call false 95 [.t 121]),A 123 119 122,m 115 123] (D 115 (s [m 124 0,c 125 137 [.t 124],t 2 7 125] R) F))))))))))))))))))))) (s [m 126 0,c 127 39 [.t 126],t 2 7 127] R))))),
 [(.c 2 7 true)]⟩
theorem i106 : iF 106 g106 := jF Tryz.func106
def g107 : GFun := ⟨⟨40,[3000008,3000009,3000010,3000011,3000016,3000017,3000018,3000019]⟩,(s [k 4 0] (s [x 8 (.bslro 1 [] 2 false [(0,(.k (.val (.string (ByteArray.mk #[60]))))),(1,(.k (.val (.string (ByteArray.mk #[61,61])))))]),x 9
 (.bslro 1 [] 4 false [(0,(.k (.val (.string (ByteArray.mk #[43]))))),(1,(.k (.val (.string (ByteArray.mk #[45]))))),(2,(.k (.val (.string (ByteArray.mk #[124]))))),(3,(.k (.val (.string (ByteArray.mk #[92])))))]),x 10
 (.bslro 1 [] 2 false [(0,(.k (.val (.string (ByteArray.mk #[42]))))),(1,(.k (.val (.string (ByteArray.mk #[38])))))]),x 11 (.bslro 1 [] 3 false [(0,(.t 8)),(1,(.t 9)),(2,(.t 10))]),m 12 1,q 13 .sub 12 1,i 14 1 11 13,l 15 14,m 5 15]
 (s [x 16 (.bslro 1 [] 2 false [(0,(K 9)),(1,(K 10))]),x 17 (.bslro 1 [] 4 false [(0,(K 1)),(1,(K 2)),(2,(K 6)),(3,(K 8))]),x 18 (.bslro 1 [] 2 false [(0,(K 3)),(1,(K 7))]),x 19 (.bslro 1 [] 3 false [(0,(.t 16)),(1,(.t 17)),(2,(.t 18))]),
 m 20 1,q 21 .sub 20 1,i 22 1 19 21,l 23 22,m 6 23] (S (s [k 7 0] (B 0 (S (s [m 24 7,m 25 5,n 26 25,o 27 .lss 24 26] (D 27 F (.exit 0))) (S (.block 1 (s [m 30 0,m 31 5,m 32 7,i 33 1 31 32,l 34 33,c 35 73 [.t 30,.t 34]] (D 35 (s [m 36 6,
 m 37 7,i 38 1 36 37,l 39 38,m 4 39] R) F))) (.reg [m 28 7,q 29 .add 28 1,m 7 29]))))) (s [k 4 0] R))))),[.t 4]⟩
theorem i107 : iF 107 g107 := jF Tryz.func107
def g111 : GFun := ⟨⟨19,[]⟩,(s [k 4 0] (S (s [m 6 0,n 7 6,k 8 0] (B 0 (s [o 9 .lss 8 7] (C 9 0 (S (.block 1 (s [m 10 8,m 5 10] (s [m 11 1,m 12 0,m 13 5,i 14 7 12 13,h 15 7 14,x 16 (.callv false (.t 11) [.t 15])] (D 16 (s [m 17 5,
 m 4 17] R) F)))) (.reg [q 18 .add 8 1,m 8 18])))))) (s [k 4 (-1)] R))),[.t 4]⟩
theorem i111 : iF 111 g111 := jF Tryz.func111
def g112 : GFun := ⟨⟨5,[]⟩,(s [b 2 false] (s [m 3 0,c 4 84 [.t 3,K 1,K 4],m 2 4] R)),[.t 2]⟩
theorem i112 : iF 112 g112 := jF Tryz.func112
def g113 : GFun := ⟨⟨29,[]⟩,(s [k 4 0] (S (.block 0 (s [m 6 1,q 7 .eql 6 1,m 5 7] (D 5 (s [m 8 0,c 9 138 [.t 8],m 4 9] R) (s [m 11 1,q 12 .eql 11 2,m 10 12] (D 10 (s [m 13 0,q 14 .and 13 4095,m 4 14] R) (s [m 16 1,q 17 .eql 16 3,m 15 17]
 (D 15 (s [m 18 0,q 19 .neq 18 0,c 20 139 [.t 19],m 4 20] R) (s [m 22 1,q 23 .eql 22 4,m 24 23,M 25 24 0,y 26 24 (.call false 84 [.t 25,K 0,K 999]),A 27 24 26,m 21 27] (D 21 (s [m 28 0,m 4 28] R) F))))))))) (s [k 4 0] R))),[.t 4]⟩
theorem i113 : iF 113 g113 := jF Tryz.func113
def g114 : GFun := ⟨⟨18,[]⟩,(s [b 2 false] (S (s [m 3 0] (.block 0 (S (s [x 5 (.bin .eql (.t 3) (.k (.val (.string (ByteArray.mk #[105,102]))))),m 4 5] (D 4 F (s [x 6 (.bin .eql (.t 3) (.k (.val (.string (ByteArray.mk #[116,104,101,
 110]))))),m 4 6] (D 4 F (s [x 7 (.bin .eql (.t 3) (.k (.val (.string (ByteArray.mk #[101,108,115,101]))))),m 4 7] (D 4 F (s [x 8 (.bin .eql (.t 3) (.k (.val (.string (ByteArray.mk #[116,114,117,101]))))),m 4 8] (D 4 F (s [x 9 (.bin .eql
 (.t 3) (.k (.val (.string (ByteArray.mk #[102,97,108,115,101]))))),m 4 9] (D 4 F (s [x 10 (.bin .eql (.t 3) (.k (.val (.string (ByteArray.mk #[108,105,116]))))),m 4 10] (D 4 F (s [x 11 (.bin .eql (.t 3) (.k (.val (.string
 (ByteArray.mk #[110,111,110,101]))))),m 4 11] (D 4 F (s [x 12 (.bin .eql (.t 3) (.k (.val (.string (ByteArray.mk #[115,101,108,102]))))),m 4 12] (D 4 F (s [x 13 (.bin .eql (.t 3) (.k (.val (.string (ByteArray.mk #[111,102]))))),m 4 13]
 (D 4 F (s [x 14 (.bin .eql (.t 3) (.k (.val (.string (ByteArray.mk #[109,97,120]))))),m 4 14] (D 4 F (s [x 15 (.bin .eql (.t 3) (.k (.val (.string (ByteArray.mk #[109,105,110]))))),m 4 15] (D 4 F (s [x 16 (.bin .eql (.t 3) (.k (.val
 (.string (ByteArray.mk #[119,105,116,104]))))),m 4 16] (D 4 F (.reg [x 17 (.bin .eql (.t 3) (.k (.val (.string (ByteArray.mk #[104,97,115]))))),m 4 17]))))))))))))))))))))))))) (D 4 (s [b 2 true] R) F)))) (s [b 2 false] R))),[.t 2]⟩
theorem i114 : iF 114 g114 := jF Tryz.func114
def g117 : GFun := ⟨⟨24,[]⟩,(s [k 4 0] (S (s [m 5 1] (.block 0 (s [q 7 .eql 5 1,m 6 7] (D 6 (s [m 8 0,c 9 144 [.t 8],m 4 9] R) (s [q 11 .eql 5 2,m 10 11] (D 10 (s [m 12 0,q 13 .and 12 4095,m 4 13] R) (s [q 15 .eql 5 3,m 14 15] (D 14
 (s [m 16 0,q 17 .neq 16 0,c 18 132 [.t 17],m 4 18] R) (s [q 20 .eql 5 4,m 19 20] (D 19 (s [m 21 0,c 22 93 [.t 21,K 0,K 999]] (D 22 (s [m 23 0,m 4 23] R) F)) F)))))))))) (s [k 4 0] R))),[.t 4]⟩
theorem i117 : iF 117 g117 := jF Tryz.func117
def g118 : GFun := ⟨⟨45,[]⟩,(s [b 2 false] (S (s [k 3 0] (B 0 (S (s [m 6 3,m 7 0,x 8 (.slen (.t 7)),o 9 .lss 6 8] (D 9 F (.exit 0))) (S (.block 1 (s [m 12 0,m 13 3,x 14 (.idx (.t 12) (.t 13)),x 15 (.bin .geq (.t 14) (.k (.val
 (.int .u8 97)))),m 16 15,M 17 16 0,M 18 16 3,y 19 16 (.idx (.t 17) (.t 18)),y 20 16 (.bin .leq (.t 19) (.k (.val (.int .u8 122)))),A 21 16 20,m 4 21] (s [m 22 0,m 23 3,x 24 (.idx (.t 22) (.t 23)),x 25 (.bin .geq (.t 24) (.k (.val
 (.int .u8 48)))),m 26 25,M 27 26 0,M 28 26 3,y 29 26 (.idx (.t 27) (.t 28)),y 30 26 (.bin .leq (.t 29) (.k (.val (.int .u8 57)))),A 31 26 30,m 5 31] (s [m 32 4,w 33 32,m 34 33,M 35 34 3,I 36 34 35 0,M 37 34 36,N 38 37 5,z 39 37 (.not
 (.t 38)),y 40 34 (.pick (.t 37) (.k (.val (.bool true))) (.t 39)),A 41 34 40] (D 41 (s [b 2 false] R) F))))) (.reg [m 10 3,q 11 .add 10 1,m 3 11]))))) (s [m 42 0,x 43 (.slen (.t 42)),q 44 .gtr 43 0,m 2 44] R))),[.t 2]⟩
theorem i118 : iF 118 g118 := jF Tryz.func118
def g119 : GFun := ⟨⟨6,[]⟩,(s [b 2 false] (s [c 3 146 [],m 4 0,c 5 145 [.t 3,.t 4],m 2 5] R)),[.t 2]⟩
theorem i119 : iF 119 g119 := jF Tryz.func119
def g121 : GFun := ⟨⟨18,[]⟩,(s [b 4 false] (s [m 5 0,x 6 (.slen (.t 5)),m 7 1,x 8 (.slen (.t 7)),o 9 .geq 6 8,m 10 9,M 11 10 0,M 12 10 1,y 13 10 (.slen (.t 12)),y 14 10 (.sslc (.t 11) none (some (.t 13))),M 15 10 1,y 16 10 (.bin .eql
 (.t 14) (.t 15)),A 17 10 16,m 4 17] R)),[.t 4]⟩
theorem i121 : iF 121 g121 := jF Tryz.func121
def g123 : GFun := ⟨⟨19,[2]⟩,(s [a 2 4 0,b 4 false] (s [f 5 0 2,l 6 5,q 7 .eql 6 1,m 8 7,z 9 8 (p 1 0 2),z 10 8 (r 1 9),J 11 8 10 3,O 12 8 11,m 13 12,y 14 13 (p 1 3 2),y 15 13 (r 1 14),M 16 13 1,y 17 13 (.bin .eql (.t 15) (.t 16)),
 A 18 13 17,m 4 18] R)),[.t 4]⟩
theorem i123 : iF 123 g123 := jF Tryz.func123
def g124 : GFun := ⟨⟨8,[4]⟩,(s [u 4 7] (s [m 5 0,m 6 1,x 7 (.build [(.val (.int .i64 0)),(.val (.int .i64 0)),(.val (.int .i64 0)),(.val (.int .i64 0)),(.val (.string (ByteArray.mk #[]))),(.val (.string (ByteArray.mk #[]))),(.val
 (.slice none 0 0))] [(0,(1,(K 1))),(1,(1,(.t 5))),(3,(1,(.t 6)))]),t 4 7 7] R)),[(.c 4 7 true)]⟩
theorem i124 : iF 124 g124 := jF Tryz.func124
def g125 : GFun := ⟨⟨76,[]⟩,(s [k 6 0] (S (s [m 7 0,x 8 (.nck (.t 7)),f 9 2 8,l 10 9,m 11 10,N 12 11 0,z 13 11 (.nck (.t 12)),z 14 11 (p 1 1 13),N 16 11 0,z 17 11 (.nck (.t 16)),z 18 11 (p 1 0 17),z 15 11 (r 1 14),z 19 11 (r 1 18),z 20 11
 (.len (.t 19)),z 21 11 (.bin .geq (.t 15) (.t 20)),O 22 11 21,m 23 22,N 24 23 0,z 25 23 (.nck (.t 24)),z 26 23 (p 1 0 25),N 28 23 0,z 29 23 (.nck (.t 28)),z 30 23 (p 1 1 29),z 27 23 (r 1 26),z 31 23 (r 1 30),z 32 23 (.iaddr 4 (.t 27)
 (.t 31)),z 33 23 (p 1 0 32),z 34 23 (r 1 33),z 35 23 (.bin .neq (.t 34) (K 2)),O 36 23 35,m 37 36,N 38 37 0,z 39 37 (.nck (.t 38)),z 40 37 (p 1 0 39),N 42 37 0,z 43 37 (.nck (.t 42)),z 44 37 (p 1 1 43),N 49 37 1,N 50 37 2,z 41 37 (r 1 40),
 z 45 37 (r 1 44),z 46 37 (.iaddr 4 (.t 41) (.t 45)),z 47 37 (p 1 1 46),z 48 37 (r 1 47),z 51 37 (.call true 84 [.t 48,.t 49,.t 50]),z 52 37 (.not (.t 51)),O 53 37 52] (D 53 (s [m 54 0,x 55 (.nck (.t 54)),f 56 2 55,(.mk none none
 (.store 1 (.t 56) (.k (.val (.bool true)))))] (s [k 6 0] R)) F)) (s [m 57 0,x 58 (.nck (.t 57)),f 59 1 58,l 60 59,q 61 .add 60 1,x 62 (.nck (.t 57)),f 63 1 62,(.mk none none (.store 1 (.t 63) (.t 61)))] (s [m 64 0,x 65 (.nck (.t 64)),
 f 66 0 65,m 68 0,x 69 (.nck (.t 68)),f 70 1 69,l 67 66,l 71 70,q 72 .sub 71 1,i 73 4 67 72,f 74 1 73,l 75 74,m 6 75] R)))),[.t 6]⟩
theorem i125 : iF 125 g125 := jF Tryz.func125
def g126 : GFun := ⟨⟨35,[2]⟩,(s [u 2 7] (s [k 3 0,k 4 0] (S (B 0 (S (s [m 6 0,x 7 (.nck (.t 6)),f 8 2 7,l 9 8,w 10 9,m 11 10,M 12 11 0,y 13 11 (.call false 101 [.t 12,(.k (.val (.string (ByteArray.mk #[125]))))]),y 14 11 (.not (.t 13)),
 A 15 11 14] (D 15 F (.exit 0))) (.block 1 (s [m 16 0,m 17 4,c 18 125 [.t 16,.t 17,K 11],m 5 18] (s [m 19 0,x 20 (.nck (.t 19)),f 21 2 20,l 22 21,w 23 22] (D 23 (.reg [m 24 3,m 25 5,x 26 (.conv .u64 (.t 25)),x 27 (.bin .shl (K 1) (.t 26)),
 o 28 .or 24 27,m 29 5,q 30 .add 29 1,m 3 28,m 4 30]) F)))))) (s [m 31 0,x 32 (.call false 65 [.t 31,(.k (.val (.string (ByteArray.mk #[125]))))])] (s [m 33 3,c 34 124 [.t 33,K 2],t 2 7 34] R))))),[(.c 2 7 true)]⟩
theorem i126 : iF 126 g126 := jF Tryz.func126
def g127 : GFun := ⟨⟨70,[]⟩,(s [x 2 (.mov (.k (.val (.string (ByteArray.mk #[])))))] (S (s [m 3 0,x 4 (.nck (.t 3)),f 5 2 4,l 6 5,m 7 6,N 8 7 0,z 9 7 (.nck (.t 8)),z 10 7 (p 1 1 9),N 12 7 0,z 13 7 (.nck (.t 12)),z 14 7 (p 1 0 13),z 11 7
 (r 1 10),z 15 7 (r 1 14),z 16 7 (.len (.t 15)),z 17 7 (.bin .geq (.t 11) (.t 16)),O 18 7 17,m 19 18,N 20 19 0,z 21 19 (.nck (.t 20)),z 22 19 (p 1 0 21),N 24 19 0,z 25 19 (.nck (.t 24)),z 26 19 (p 1 1 25),z 23 19 (r 1 22),z 27 19 (r 1 26),
 z 28 19 (.iaddr 4 (.t 23) (.t 27)),z 29 19 (p 1 0 28),z 30 19 (r 1 29),z 31 19 (.bin .neq (.t 30) (K 1)),O 32 19 31,m 33 32,N 34 33 0,z 35 33 (.nck (.t 34)),z 36 33 (p 1 0 35),N 38 33 0,z 39 33 (.nck (.t 38)),z 40 33 (p 1 1 39),z 37 33
 (r 1 36),z 41 33 (r 1 40),z 42 33 (.iaddr 4 (.t 37) (.t 41)),z 43 33 (p 1 3 42),z 44 33 (r 1 43),z 45 33 (.call true 83 [.t 44]),z 46 33 (.not (.t 45)),O 47 33 46] (D 47 (s [m 48 0,x 49 (.nck (.t 48)),f 50 2 49,(.mk none none (.store 1
 (.t 50) (.k (.val (.bool true)))))] (s [x 2 (.mov (.k (.val (.string (ByteArray.mk #[])))))] R)) F)) (s [m 51 0,x 52 (.nck (.t 51)),f 53 1 52,l 54 53,q 55 .add 54 1,x 56 (.nck (.t 51)),f 57 1 56,(.mk none none (.store 1 (.t 57)
 (.t 55)))] (s [m 58 0,x 59 (.nck (.t 58)),f 60 0 59,m 62 0,x 63 (.nck (.t 62)),f 64 1 63,l 61 60,l 65 64,q 66 .sub 65 1,i 67 4 61 66,f 68 3 67,l 69 68,m 2 69] R)))),[.t 2]⟩
theorem i127 : iF 127 g127 := jF Tryz.func127
def g128 : GFun := ⟨⟨12,[]⟩,(s [k 2 0] (S (s [m 3 0] (.block 0 (s [x 5 (.bin .eql (.t 3) (.k (.val (.string (ByteArray.mk #[109,97,120]))))),m 4 5] (D 4 (s [k 2 4] R) (s [x 7 (.bin .eql (.t 3) (.k (.val (.string (ByteArray.mk #[109,105,
 110]))))),m 6 7] (D 6 (s [k 2 5] R) (s [x 9 (.bin .eql (.t 3) (.k (.val (.string (ByteArray.mk #[104,97,115]))))),m 8 9] (D 8 (s [k 2 11] R) (s [x 11 (.bin .eql (.t 3) (.k (.val (.string (ByteArray.mk #[119,105,116,104]))))),m 10 11]
 (D 10 (s [k 2 12] R) F)))))))))) (s [k 2 0] R))),[.t 2]⟩
theorem i128 : iF 128 g128 := jF Tryz.func128
def g129 : GFun := ⟨⟨14,[3,4]⟩,(s [a 3 7 1,u 4 7] (s [m 5 0,m 6 0,x 7 (.nck (.t 6)),f 8 1 7,l 9 8,q 10 .add 9 1,x 11 (.nck (.t 5)),f 12 1 11,(.mk none none (.store 1 (.t 12) (.t 10)))] (s [h 13 7 3,t 4 7 13] R))),[(.c 4 7 true)]⟩
theorem i129 : iF 129 g129 := jF Tryz.func129
def g130 : GFun := ⟨⟨8,[4]⟩,(s [u 4 7] (s [m 5 0,m 6 1,x 7 (.build [(.val (.int .i64 0)),(.val (.int .i64 0)),(.val (.int .i64 0)),(.val (.int .i64 0)),(.val (.string (ByteArray.mk #[]))),(.val (.string (ByteArray.mk #[]))),(.val
 (.slice none 0 0))] [(0,(1,(K 1))),(1,(1,(.t 5))),(3,(1,(.t 6)))]),t 4 7 7] R)),[(.c 4 7 true)]⟩
theorem i130 : iF 130 g130 := jF Tryz.func130
def g131 : GFun := ⟨⟨38,[2]⟩,(s [u 2 7] (s [m 6 0,m 7 0,x 8 (.nck (.t 7)),f 9 1 8,l 10 9,q 11 .add 10 1,x 12 (.nck (.t 6)),f 13 1 12,(.mk none none (.store 1 (.t 13) (.t 11)))] (s [k 3 0] (s [k 4 0] (S (B 0 (S (s [m 14 0,x 15 (.nck
 (.t 14)),f 16 3 15,l 17 16,q 18 .lss 17 0,m 19 18,M 20 19 0,y 21 19 (.call false 73 [.t 20,(.k (.val (.string (ByteArray.mk #[125]))))]),y 22 19 (.not (.t 21)),A 23 19 22] (D 23 F (.exit 0))) (.block 1 (s [m 24 0,m 25 3,c 26 150 [.t 24,
 .t 25,K 11],m 5 26] (s [m 27 4,m 28 5,x 29 (.conv .u64 (.t 28)),x 30 (.bin .shl (K 1) (.t 29)),o 31 .or 27 30,m 4 31] (.reg [m 32 5,q 33 .add 32 1,m 3 33])))))) (s [m 34 0,x 35 (.call false 75 [.t 34,(.k (.val (.string
 (ByteArray.mk #[125]))))])] (s [m 36 4,c 37 130 [.t 36,K 2],t 2 7 37] R))))))),[(.c 2 7 true)]⟩
theorem i131 : iF 131 g131 := jF Tryz.func131
def g132 : GFun := ⟨⟨4,[]⟩,(s [k 2 0] (S (s [m 3 0] (D 3 (s [k 2 1] R) F)) (s [k 2 0] R))),[.t 2]⟩
theorem i132 : iF 132 g132 := jF Tryz.func132
def g133 : GFun := ⟨⟨20,[2]⟩,(s [u 2 7] (s [m 4 0,m 5 0,x 6 (.nck (.t 5)),f 7 1 6,l 8 7,q 9 .add 8 1,x 10 (.nck (.t 4)),f 11 1 10,(.mk none none (.store 1 (.t 11) (.t 9)))] (s [m 12 0,c 13 150 [.t 12,K 0,K 3],m 3 13] (s [m 14 0,x 15
 (.call false 75 [.t 14,(.k (.val (.string (ByteArray.mk #[46]))))])] (s [m 16 3,m 17 0,c 18 151 [.t 17],x 19 (.build [(.val (.int .i64 0)),(.val (.int .i64 0)),(.val (.int .i64 0)),(.val (.int .i64 0)),(.val (.string (ByteArray.mk #[]))),
 (.val (.string (ByteArray.mk #[]))),(.val (.slice none 0 0))] [(0,(1,(K 3))),(2,(1,(.t 16))),(5,(1,(.t 18)))]),t 2 7 19] R))))),[(.c 2 7 true)]⟩
theorem i133 : iF 133 g133 := jF Tryz.func133
def g134 : GFun := ⟨⟨20,[2]⟩,(s [u 2 7] (s [m 4 0,m 5 0,x 6 (.nck (.t 5)),f 7 1 6,l 8 7,q 9 .add 8 1,x 10 (.nck (.t 4)),f 11 1 10,(.mk none none (.store 1 (.t 11) (.t 9)))] (s [m 12 0,x 13 (.call false 75 [.t 12,(.k (.val (.string
 (ByteArray.mk #[40]))))])] (s [m 14 0,c 15 150 [.t 14,K 0,K 3],m 3 15] (s [m 16 0,x 17 (.call false 75 [.t 16,(.k (.val (.string (ByteArray.mk #[41]))))])] (s [m 18 3,x 19 (.build [(.val (.int .i64 0)),(.val (.int .i64 0)),(.val
 (.int .i64 0)),(.val (.int .i64 0)),(.val (.string (ByteArray.mk #[]))),(.val (.string (ByteArray.mk #[]))),(.val (.slice none 0 0))] [(0,(1,(K 6))),(2,(1,(.t 18)))]),t 2 7 19] R)))))),[(.c 2 7 true)]⟩
theorem i134 : iF 134 g134 := jF Tryz.func134
def g135 : GFun := ⟨⟨12,[]⟩,(s [k 2 0] (S (s [m 3 0] (.block 0 (s [x 5 (.bin .eql (.t 3) (.k (.val (.string (ByteArray.mk #[109,97,120]))))),m 4 5] (D 4 (s [k 2 4] R) (s [x 7 (.bin .eql (.t 3) (.k (.val (.string (ByteArray.mk #[109,105,
 110]))))),m 6 7] (D 6 (s [k 2 5] R) (s [x 9 (.bin .eql (.t 3) (.k (.val (.string (ByteArray.mk #[104,97,115]))))),m 8 9] (D 8 (s [k 2 11] R) (s [x 11 (.bin .eql (.t 3) (.k (.val (.string (ByteArray.mk #[119,105,116,104]))))),m 10 11]
 (D 10 (s [k 2 12] R) F)))))))))) (s [k 2 0] R))),[.t 2]⟩
theorem i135 : iF 135 g135 := jF Tryz.func135
def g136 : GFun := ⟨⟨29,[4,5,6]⟩,(s [u 4 7] (s [m 7 0,m 8 0,x 9 (.nck (.t 8)),f 10 1 9,l 11 10,q 12 .add 11 1,x 13 (.nck (.t 7)),f 14 1 13,(.mk none none (.store 1 (.t 14) (.t 12)))] (s [m 15 0,x 16 (.call false 75 [.t 15,(.k (.val
 (.string (ByteArray.mk #[40]))))])] (s [m 17 0,c 18 38 [.t 17],u 5 7,t 5 7 18] (s [m 19 0,x 20 (.call false 75 [.t 19,(.k (.val (.string (ByteArray.mk #[44]))))])] (s [m 21 0,c 22 38 [.t 21],u 6 7,t 6 7 22] (s [m 23 0,x 24
 (.call false 75 [.t 23,(.k (.val (.string (ByteArray.mk #[41]))))])] (s [m 25 1,h 26 7 5,h 27 7 6,c 28 48 [.t 25,.t 26,.t 27],t 4 7 28] R)))))))),[(.c 4 7 true)]⟩
theorem i136 : iF 136 g136 := jF Tryz.func136
def g137 : GFun := ⟨⟨19,[2]⟩,(s [u 2 7] (s [m 5 0,c 6 151 [.t 5],m 3 6] (s [m 7 0,x 8 (.call false 75 [.t 7,(.k (.val (.string (ByteArray.mk #[46]))))])] (s [m 9 0,c 10 151 [.t 9],m 4 10] (s [m 11 0,x 12 (.call false 75 [.t 11,(.k (.val
 (.string (ByteArray.mk #[111,102]))))])] (s [m 13 3,m 14 4,m 15 0,c 16 106 [.t 15],x 17 (.bslice 7 [] 1 true [(0,(.t 16))]),x 18 (.build [(.val (.int .i64 0)),(.val (.int .i64 0)),(.val (.int .i64 0)),(.val (.int .i64 0)),(.val (.string
 (ByteArray.mk #[]))),(.val (.string (ByteArray.mk #[]))),(.val (.slice none 0 0))] [(0,(1,(K 8))),(4,(1,(.t 13))),(5,(1,(.t 14))),(6,(1,(.t 17)))]),t 2 7 18] R)))))),[(.c 2 7 true)]⟩
theorem i137 : iF 137 g137 := jF Tryz.func137
def g138 : GFun := ⟨⟨6,[]⟩,(s [k 2 0] (s [m 3 0,x 4 (.mn (.t 3) (K 1000000)),x 5 (.mx (.t 4) (K (-1000000))),m 2 5] R)),[.t 2]⟩
theorem i138 : iF 138 g138 := jF Tryz.func138
def g139 : GFun := ⟨⟨4,[]⟩,(s [k 2 0] (S (s [m 3 0] (D 3 (s [k 2 1] R) F)) (s [k 2 0] R))),[.t 2]⟩
theorem i139 : iF 139 g139 := jF Tryz.func139
def g144 : GFun := ⟨⟨6,[]⟩,(s [k 2 0] (s [m 3 0,c 4 158 [K 1000000,.t 3],c 5 61 [K (-1000000),.t 4],m 2 5] R)),[.t 2]⟩
theorem i144 : iF 144 g144 := jF Tryz.func144
def g145 : GFun := ⟨⟨18,[]⟩,(s [b 4 false] (S (s [k 5 0] (B 0 (S (s [m 6 5,m 7 0,n 8 7,o 9 .lss 6 8] (D 9 F (.exit 0))) (S (.block 1 (s [m 12 0,m 13 5,i 14 1 12 13,l 15 14,m 16 1,o 17 .eql 15 16] (D 17 (s [b 4 true] R) F))) (.reg [m 10 5,
 q 11 .add 10 1,m 5 11]))))) (s [b 4 false] R))),[.t 4]⟩
theorem i145 : iF 145 g145 := jF Tryz.func145
def g146 : GFun := ⟨⟨2,[]⟩,(s [Z 0] (s [x 1 (.bslice 1 [] 13 false [(0,(.k (.val (.string (ByteArray.mk #[105,102]))))),(1,(.k (.val (.string (ByteArray.mk #[116,104,101,110]))))),(2,(.k (.val (.string (ByteArray.mk #[101,108,115,101]))))),
 (3,(.k (.val (.string (ByteArray.mk #[116,114,117,101]))))),(4,(.k (.val (.string (ByteArray.mk #[102,97,108,115,101]))))),(5,(.k (.val (.string (ByteArray.mk #[108,105,116]))))),(6,(.k (.val (.string (ByteArray.mk #[110,111,110,101]))))),
 (7,(.k (.val (.string (ByteArray.mk #[115,101,108,102]))))),(8,(.k (.val (.string (ByteArray.mk #[111,102]))))),(9,(.k (.val (.string (ByteArray.mk #[109,97,120]))))),(10,(.k (.val (.string (ByteArray.mk #[109,105,110]))))),(11,(.k (.val
 (.string (ByteArray.mk #[119,105,116,104]))))),(12,(.k (.val (.string (ByteArray.mk #[104,97,115])))))]),m 0 1] R)),[.t 0]⟩
theorem i146 : iF 146 g146 := jF Tryz.func146
def g150 : GFun := ⟨⟨77,[]⟩,(s [k 6 0] (S (s [m 7 0,x 8 (.nck (.t 7)),f 9 3 8,l 10 9,q 11 .geq 10 0,m 12 11,N 13 12 0,z 14 12 (.nck (.t 13)),z 15 12 (p 1 1 14),N 17 12 0,z 18 12 (.nck (.t 17)),z 19 12 (p 1 0 18),z 16 12 (r 1 15),z 20 12
 (r 1 19),z 21 12 (.len (.t 20)),z 22 12 (.bin .geq (.t 16) (.t 21)),O 23 12 22,m 24 23,N 25 24 0,z 26 24 (.nck (.t 25)),z 27 24 (p 1 0 26),N 29 24 0,z 30 24 (.nck (.t 29)),z 31 24 (p 1 1 30),z 28 24 (r 1 27),z 32 24 (r 1 31),z 33 24
 (.iaddr 4 (.t 28) (.t 32)),z 34 24 (p 1 0 33),z 35 24 (r 1 34),z 36 24 (.bin .neq (.t 35) (K 2)),O 37 24 36,m 38 37,N 39 38 0,z 40 38 (.nck (.t 39)),z 41 38 (p 1 0 40),N 43 38 0,z 44 38 (.nck (.t 43)),z 45 38 (p 1 1 44),N 50 38 1,
 N 51 38 2,z 42 38 (r 1 41),z 46 38 (r 1 45),z 47 38 (.iaddr 4 (.t 42) (.t 46)),z 48 38 (p 1 1 47),z 49 38 (r 1 48),z 52 38 (.call true 93 [.t 49,.t 50,.t 51]),z 53 38 (.not (.t 52)),O 54 38 53] (D 54 (s [m 55 0,c 56 39 [.t 55]]
 (s [k 6 0] R)) F)) (s [m 57 0,m 58 0,x 59 (.nck (.t 58)),f 60 1 59,l 61 60,q 62 .add 61 1,x 63 (.nck (.t 57)),f 64 1 63,(.mk none none (.store 1 (.t 64) (.t 62)))] (s [m 65 0,x 66 (.nck (.t 65)),f 67 0 66,m 69 0,x 70 (.nck (.t 69)),
 f 71 1 70,l 68 67,l 72 71,q 73 .sub 72 1,i 74 4 68 73,f 75 1 74,l 76 75,m 6 76] R)))),[.t 6]⟩
theorem i150 : iF 150 g150 := jF Tryz.func150
def g151 : GFun := ⟨⟨71,[]⟩,(s [x 2 (.mov (.k (.val (.string (ByteArray.mk #[])))))] (S (s [m 3 0,x 4 (.nck (.t 3)),f 5 3 4,l 6 5,q 7 .geq 6 0,m 8 7,N 9 8 0,z 10 8 (.nck (.t 9)),z 11 8 (p 1 1 10),N 13 8 0,z 14 8 (.nck (.t 13)),z 15 8
 (p 1 0 14),z 12 8 (r 1 11),z 16 8 (r 1 15),z 17 8 (.len (.t 16)),z 18 8 (.bin .geq (.t 12) (.t 17)),O 19 8 18,m 20 19,N 21 20 0,z 22 20 (.nck (.t 21)),z 23 20 (p 1 0 22),N 25 20 0,z 26 20 (.nck (.t 25)),z 27 20 (p 1 1 26),z 24 20 (r 1 23),
 z 28 20 (r 1 27),z 29 20 (.iaddr 4 (.t 24) (.t 28)),z 30 20 (p 1 0 29),z 31 20 (r 1 30),z 32 20 (.bin .neq (.t 31) (K 1)),O 33 20 32,m 34 33,N 35 34 0,z 36 34 (.nck (.t 35)),z 37 34 (p 1 0 36),N 39 34 0,z 40 34 (.nck (.t 39)),z 41 34
 (p 1 1 40),z 38 34 (r 1 37),z 42 34 (r 1 41),z 43 34 (.iaddr 4 (.t 38) (.t 42)),z 44 34 (p 1 3 43),z 45 34 (r 1 44),z 46 34 (.call true 95 [.t 45]),z 47 34 (.not (.t 46)),O 48 34 47] (D 48 (s [m 49 0,c 50 39 [.t 49]] (s [x 2 (.mov (.k
 (.val (.string (ByteArray.mk #[])))))] R)) F)) (s [m 51 0,m 52 0,x 53 (.nck (.t 52)),f 54 1 53,l 55 54,q 56 .add 55 1,x 57 (.nck (.t 51)),f 58 1 57,(.mk none none (.store 1 (.t 58) (.t 56)))] (s [m 59 0,x 60 (.nck (.t 59)),f 61 0 60,
 m 63 0,x 64 (.nck (.t 63)),f 65 1 64,l 62 61,l 66 65,q 67 .sub 66 1,i 68 4 62 67,f 69 3 68,l 70 69,m 2 70] R)))),[.t 2]⟩
theorem i151 : iF 151 g151 := jF Tryz.func151
def g158 : GFun := ⟨⟨10,[]⟩,(s [k 4 0] (S (s [m 5 0,m 6 1,o 7 .lss 5 6] (D 7 (s [m 8 0,m 4 8] R) F)) (s [m 9 1,m 4 9] R))),[.t 4]⟩
theorem i158 : iF 158 g158 := jF Tryz.func158
end Go.Proofs.YtkmedfejmndmjaaGreatDoor

namespace Go.Proofs.YtkmedfejmndmjaaGreatDoor
open Go.Gh
set_option maxRecDepth 20000
set_option linter.unusedSimpArgs false
set_option linter.unusedVariables false
theorem mxd : Tryz.prog.follows .mixedOrders = true := Checked.mixed Tryz.checked
end Go.Proofs.YtkmedfejmndmjaaGreatDoor

namespace Go.Proofs.YtkmedfejmndmjaaGreatDoor
open Go.Gh
set_option maxRecDepth 20000
set_option linter.unusedSimpArgs false
set_option linter.unusedVariables false
theorem w93 (x lo hi : Int) : Pure Tryz.prog 93 [I x, I lo, I hi] (· = B (decide (lo ≤ x ∧ x ≤ hi))) := by
  refine gstart mxd i93 rfl (by simp) ?_; simp (maxSteps := 2000000) only [↓ S2, S2, vIte, ↓reduceIte, Int.reduceNe, Nat.reduceEqDiff, reduceCtorEq, Nat.reduceLeDiff, Nat.reduceAdd, Nat.reduceLT]
  ((try with_reducible refine mkQI ?_); (repeat ((first | (with_reducible refine mkQU ?_) | simp only [brGen]); try simp (maxSteps := 2000000) only [↓ S2, S2, vIte, ↓reduceIte, Int.reduceNe, Nat.reduceEqDiff, reduceCtorEq, Nat.reduceLeDiff, Nat.reduceAdd, Nat.reduceLT])); (try simp +contextual (disch := omega) only [Z2]); (repeat' (first | (with_reducible intro h) | (with_reducible refine And.intro (by omega) ?_) | (with_reducible refine exP (by omega) ?_) | (with_reducible apply And.intro)))) <;> simp [*]
theorem w84 (x lo hi : Int) : Pure Tryz.prog 84 [I x, I lo, I hi] (· = B (decide (lo ≤ x ∧ x ≤ hi))) := by
  refine gstart mxd i84 rfl (by simp) ?_; simp (maxSteps := 2000000) only [↓ S2, S2, vIte, ↓reduceIte, Int.reduceNe, Nat.reduceEqDiff, reduceCtorEq, Nat.reduceLeDiff, Nat.reduceAdd, Nat.reduceLT]
  ((try with_reducible refine mkQI ?_); (repeat ((first | (with_reducible refine mkQU ?_) | simp only [brGen]); try simp (maxSteps := 2000000) only [↓ S2, S2, vIte, ↓reduceIte, Int.reduceNe, Nat.reduceEqDiff, reduceCtorEq, Nat.reduceLeDiff, Nat.reduceAdd, Nat.reduceLT])); (try simp +contextual (disch := omega) only [Z2]); (repeat' (first | (with_reducible intro h) | (with_reducible refine And.intro (by omega) ?_) | (with_reducible refine exP (by omega) ?_) | (with_reducible apply And.intro)))) <;> simp [*]
end Go.Proofs.YtkmedfejmndmjaaGreatDoor

namespace Go.Proofs.YtkmedfejmndmjaaGreatDoor
open Go.Gh
set_option maxRecDepth 20000
set_option linter.unusedSimpArgs false
set_option linter.unusedVariables false
theorem w61 (x y : Int) : Pure Tryz.prog 61 [I x, I y] (· = I (max x y)) := by
  refine gstart mxd i61 rfl (by simp) ?_; simp (maxSteps := 2000000) only [↓ S2, S2, vIte, ↓reduceIte, Int.reduceNe, Nat.reduceEqDiff, reduceCtorEq, Nat.reduceLeDiff, Nat.reduceAdd, Nat.reduceLT]
  ((try with_reducible refine mkQI ?_); (repeat ((first | (with_reducible refine mkQU ?_) | simp only [brGen]); try simp (maxSteps := 2000000) only [↓ S2, S2, vIte, ↓reduceIte, Int.reduceNe, Nat.reduceEqDiff, reduceCtorEq, Nat.reduceLeDiff, Nat.reduceAdd, Nat.reduceLT])); (try simp +contextual (disch := omega) only [Z2]); (repeat' (first | (with_reducible intro h) | (with_reducible refine And.intro (by omega) ?_) | (with_reducible refine exP (by omega) ?_) | (with_reducible apply And.intro)))) <;> simp <;> omega
end Go.Proofs.YtkmedfejmndmjaaGreatDoor

namespace Go.Proofs.YtkmedfejmndmjaaGreatDoor
open Go.Gh
set_option maxRecDepth 20000
set_option linter.unusedSimpArgs false
set_option linter.unusedVariables false
theorem w17 : ∀ (x y : Exp), Pure Tryz.prog 17 [Ex x, Ex y] (· = B (decide (x = y))) := by
  refine Exp.indA fun x ih y => ?_
  rw [Ex_eq, Ex_eq y]
  refine gstart mxd i17 rfl (by simp) ?_; simp (maxSteps := 2000000) only [↓ S2, S2, vIte, ↓reduceIte, Int.reduceNe, Nat.reduceEqDiff, reduceCtorEq, Nat.reduceLeDiff, Nat.reduceAdd, Nat.reduceLT]
  ((try with_reducible refine mkQI ?_); (repeat ((first | (with_reducible refine mkQU ?_) | simp only [brGen]); try simp (maxSteps := 2000000) only [↓ S2, S2, vIte, ↓reduceIte, Int.reduceNe, Nat.reduceEqDiff, reduceCtorEq, Nat.reduceLeDiff, Nat.reduceAdd, Nat.reduceLT])); (try simp +contextual (disch := omega) only [Z2]); (repeat' (first | (with_reducible intro h) | (with_reducible refine And.intro (by omega) ?_) | (with_reducible refine exP (by omega) ?_) | (with_reducible apply And.intro))))
  all_goals first
    | (simp [Exp.ext_iff, *]; done)
    | skip
  refine callS.eq (eqS mxd i40 isAgg_Ex geR_Ex x.args y.args fun a ha b _ => ih a ha b) ?_
  ((try with_reducible refine mkQI ?_); (repeat ((first | (with_reducible refine mkQU ?_) | simp only [brGen]); try simp (maxSteps := 2000000) only [↓ S2, S2, vIte, ↓reduceIte, Int.reduceNe, Nat.reduceEqDiff, reduceCtorEq, Nat.reduceLeDiff, Nat.reduceAdd, Nat.reduceLT])); (try simp +contextual (disch := omega) only [Z2]); (repeat' (first | (with_reducible intro h) | (with_reducible refine And.intro (by omega) ?_) | (with_reducible refine exP (by omega) ?_) | (with_reducible apply And.intro)))) <;> simp [Exp.ext_iff, *]
end Go.Proofs.YtkmedfejmndmjaaGreatDoor

namespace Go.Proofs.YtkmedfejmndmjaaGreatDoor
open Go.Gh
set_option maxRecDepth 20000
set_option linter.unusedSimpArgs false
set_option linter.unusedVariables false
theorem w138 (n : Int) : Pure Tryz.prog 138 [I n] (· = I (satV n)) := by
  refine gstart mxd i138 rfl (by simp) ?_; simp (maxSteps := 2000000) only [↓ S2, S2, vIte, ↓reduceIte, Int.reduceNe, Nat.reduceEqDiff, reduceCtorEq, Nat.reduceLeDiff, Nat.reduceAdd, Nat.reduceLT]
  ((try with_reducible refine mkQI ?_); (repeat ((first | (with_reducible refine mkQU ?_) | simp only [brGen]); try simp (maxSteps := 2000000) only [↓ S2, S2, vIte, ↓reduceIte, Int.reduceNe, Nat.reduceEqDiff, reduceCtorEq, Nat.reduceLeDiff, Nat.reduceAdd, Nat.reduceLT])); (try simp +contextual (disch := omega) only [Z2]); (repeat' (first | (with_reducible intro h) | (with_reducible refine And.intro (by omega) ?_) | (with_reducible refine exP (by omega) ?_) | (with_reducible apply And.intro)))) <;> (congr 2; simp only [satV]; omega)
theorem w139 (b : Bool) : Pure Tryz.prog 139 [B b] (· = I (trV b)) := by
  refine gstart mxd i139 rfl (by simp) ?_; simp (maxSteps := 2000000) only [↓ S2, S2, vIte, ↓reduceIte, Int.reduceNe, Nat.reduceEqDiff, reduceCtorEq, Nat.reduceLeDiff, Nat.reduceAdd, Nat.reduceLT]
  ((try with_reducible refine mkQI ?_); (repeat ((first | (with_reducible refine mkQU ?_) | simp only [brGen]); try simp (maxSteps := 2000000) only [↓ S2, S2, vIte, ↓reduceIte, Int.reduceNe, Nat.reduceEqDiff, reduceCtorEq, Nat.reduceLeDiff, Nat.reduceAdd, Nat.reduceLT])); (try simp +contextual (disch := omega) only [Z2]); (repeat' (first | (with_reducible intro h) | (with_reducible refine And.intro (by omega) ?_) | (with_reducible refine exP (by omega) ?_) | (with_reducible apply And.intro)))) <;> simp_all [trV]
theorem w132 (b : Bool) : Pure Tryz.prog 132 [B b] (· = I (trV b)) := by
  refine gstart mxd i132 rfl (by simp) ?_; simp (maxSteps := 2000000) only [↓ S2, S2, vIte, ↓reduceIte, Int.reduceNe, Nat.reduceEqDiff, reduceCtorEq, Nat.reduceLeDiff, Nat.reduceAdd, Nat.reduceLT]
  ((try with_reducible refine mkQI ?_); (repeat ((first | (with_reducible refine mkQU ?_) | simp only [brGen]); try simp (maxSteps := 2000000) only [↓ S2, S2, vIte, ↓reduceIte, Int.reduceNe, Nat.reduceEqDiff, reduceCtorEq, Nat.reduceLeDiff, Nat.reduceAdd, Nat.reduceLT])); (try simp +contextual (disch := omega) only [Z2]); (repeat' (first | (with_reducible intro h) | (with_reducible refine And.intro (by omega) ?_) | (with_reducible refine exP (by omega) ?_) | (with_reducible apply And.intro)))) <;> simp_all [trV]
theorem w158 (a b : Int) : Pure Tryz.prog 158 [I a, I b] (· = I (min a b)) := by
  refine gstart mxd i158 rfl (by simp) ?_; simp (maxSteps := 2000000) only [↓ S2, S2, vIte, ↓reduceIte, Int.reduceNe, Nat.reduceEqDiff, reduceCtorEq, Nat.reduceLeDiff, Nat.reduceAdd, Nat.reduceLT]
  ((try with_reducible refine mkQI ?_); (repeat ((first | (with_reducible refine mkQU ?_) | simp only [brGen]); try simp (maxSteps := 2000000) only [↓ S2, S2, vIte, ↓reduceIte, Int.reduceNe, Nat.reduceEqDiff, reduceCtorEq, Nat.reduceLeDiff, Nat.reduceAdd, Nat.reduceLT])); (try simp +contextual (disch := omega) only [Z2]); (repeat' (first | (with_reducible intro h) | (with_reducible refine And.intro (by omega) ?_) | (with_reducible refine exP (by omega) ?_) | (with_reducible apply And.intro)))) <;> (congr 2; omega)
theorem w144 (n : Int) : Pure Tryz.prog 144 [I n] (· = I (satV n)) := by
  refine gstart mxd i144 rfl (by simp) ?_; simp (maxSteps := 2000000) only [↓ S2, S2, vIte, ↓reduceIte, Int.reduceNe, Nat.reduceEqDiff, reduceCtorEq, Nat.reduceLeDiff, Nat.reduceAdd, Nat.reduceLT]
  refine callS.eq (w158 _ _) ?_
  ((try with_reducible refine mkQI ?_); (repeat ((first | (with_reducible refine mkQU ?_) | simp only [brGen]); try simp (maxSteps := 2000000) only [↓ S2, S2, vIte, ↓reduceIte, Int.reduceNe, Nat.reduceEqDiff, reduceCtorEq, Nat.reduceLeDiff, Nat.reduceAdd, Nat.reduceLT])); (try simp +contextual (disch := omega) only [Z2]); (repeat' (first | (with_reducible intro h) | (with_reducible refine And.intro (by omega) ?_) | (with_reducible refine exP (by omega) ?_) | (with_reducible apply And.intro))))
  refine callS.eq (w61 _ _) ?_
  ((try with_reducible refine mkQI ?_); (repeat ((first | (with_reducible refine mkQU ?_) | simp only [brGen]); try simp (maxSteps := 2000000) only [↓ S2, S2, vIte, ↓reduceIte, Int.reduceNe, Nat.reduceEqDiff, reduceCtorEq, Nat.reduceLeDiff, Nat.reduceAdd, Nat.reduceLT])); (try simp +contextual (disch := omega) only [Z2]); (repeat' (first | (with_reducible intro h) | (with_reducible refine And.intro (by omega) ?_) | (with_reducible refine exP (by omega) ?_) | (with_reducible apply And.intro)))) <;> rfl
theorem w113 (v k : Int) : Pure Tryz.prog 113 [I v, I k] (· = I (coV v k)) := by
  refine gstart mxd i113 rfl (by simp) ?_; simp (maxSteps := 2000000) only [↓ S2, S2, vIte, ↓reduceIte, Int.reduceNe, Nat.reduceEqDiff, reduceCtorEq, Nat.reduceLeDiff, Nat.reduceAdd, Nat.reduceLT]
  ((try with_reducible refine mkQI ?_); (repeat ((first | (with_reducible refine mkQU ?_) | simp only [brGen]); try simp (maxSteps := 2000000) only [↓ S2, S2, vIte, ↓reduceIte, Int.reduceNe, Nat.reduceEqDiff, reduceCtorEq, Nat.reduceLeDiff, Nat.reduceAdd, Nat.reduceLT])); (try simp +contextual (disch := omega) only [Z2]); (repeat' (first | (with_reducible intro h) | (with_reducible refine And.intro (by omega) ?_) | (with_reducible refine exP (by omega) ?_) | (with_reducible apply And.intro))))
  · refine callS.eq (w138 _) ?_
    ((try with_reducible refine mkQI ?_); (repeat ((first | (with_reducible refine mkQU ?_) | simp only [brGen]); try simp (maxSteps := 2000000) only [↓ S2, S2, vIte, ↓reduceIte, Int.reduceNe, Nat.reduceEqDiff, reduceCtorEq, Nat.reduceLeDiff, Nat.reduceAdd, Nat.reduceLT])); (try simp +contextual (disch := omega) only [Z2]); (repeat' (first | (with_reducible intro h) | (with_reducible refine And.intro (by omega) ?_) | (with_reducible refine exP (by omega) ?_) | (with_reducible apply And.intro)))) <;> simp_all [coV]
  · simp_all [coV]
  · refine callS.eq (w139 _) ?_
    ((try with_reducible refine mkQI ?_); (repeat ((first | (with_reducible refine mkQU ?_) | simp only [brGen]); try simp (maxSteps := 2000000) only [↓ S2, S2, vIte, ↓reduceIte, Int.reduceNe, Nat.reduceEqDiff, reduceCtorEq, Nat.reduceLeDiff, Nat.reduceAdd, Nat.reduceLT])); (try simp +contextual (disch := omega) only [Z2]); (repeat' (first | (with_reducible intro h) | (with_reducible refine And.intro (by omega) ?_) | (with_reducible refine exP (by omega) ?_) | (with_reducible apply And.intro)))) <;> simp_all [coV]
  · refine callS.eq (w84 _ _ _) ?_
    ((try with_reducible refine mkQI ?_); (repeat ((first | (with_reducible refine mkQU ?_) | simp only [brGen]); try simp (maxSteps := 2000000) only [↓ S2, S2, vIte, ↓reduceIte, Int.reduceNe, Nat.reduceEqDiff, reduceCtorEq, Nat.reduceLeDiff, Nat.reduceAdd, Nat.reduceLT])); (try simp +contextual (disch := omega) only [Z2]); (repeat' (first | (with_reducible intro h) | (with_reducible refine And.intro (by omega) ?_) | (with_reducible refine exP (by omega) ?_) | (with_reducible apply And.intro)))) <;> simp_all [coV] <;> (intros; omega)
  · simp_all [coV]
theorem w117 (v k : Int) : Pure Tryz.prog 117 [I v, I k] (· = I (coV v k)) := by
  refine gstart mxd i117 rfl (by simp) ?_; simp (maxSteps := 2000000) only [↓ S2, S2, vIte, ↓reduceIte, Int.reduceNe, Nat.reduceEqDiff, reduceCtorEq, Nat.reduceLeDiff, Nat.reduceAdd, Nat.reduceLT]
  ((try with_reducible refine mkQI ?_); (repeat ((first | (with_reducible refine mkQU ?_) | simp only [brGen]); try simp (maxSteps := 2000000) only [↓ S2, S2, vIte, ↓reduceIte, Int.reduceNe, Nat.reduceEqDiff, reduceCtorEq, Nat.reduceLeDiff, Nat.reduceAdd, Nat.reduceLT])); (try simp +contextual (disch := omega) only [Z2]); (repeat' (first | (with_reducible intro h) | (with_reducible refine And.intro (by omega) ?_) | (with_reducible refine exP (by omega) ?_) | (with_reducible apply And.intro))))
  · refine callS.eq (w144 _) ?_
    ((try with_reducible refine mkQI ?_); (repeat ((first | (with_reducible refine mkQU ?_) | simp only [brGen]); try simp (maxSteps := 2000000) only [↓ S2, S2, vIte, ↓reduceIte, Int.reduceNe, Nat.reduceEqDiff, reduceCtorEq, Nat.reduceLeDiff, Nat.reduceAdd, Nat.reduceLT])); (try simp +contextual (disch := omega) only [Z2]); (repeat' (first | (with_reducible intro h) | (with_reducible refine And.intro (by omega) ?_) | (with_reducible refine exP (by omega) ?_) | (with_reducible apply And.intro)))) <;> simp_all [coV]
  · simp_all [coV]
  · refine callS.eq (w132 _) ?_
    ((try with_reducible refine mkQI ?_); (repeat ((first | (with_reducible refine mkQU ?_) | simp only [brGen]); try simp (maxSteps := 2000000) only [↓ S2, S2, vIte, ↓reduceIte, Int.reduceNe, Nat.reduceEqDiff, reduceCtorEq, Nat.reduceLeDiff, Nat.reduceAdd, Nat.reduceLT])); (try simp +contextual (disch := omega) only [Z2]); (repeat' (first | (with_reducible intro h) | (with_reducible refine And.intro (by omega) ?_) | (with_reducible refine exP (by omega) ?_) | (with_reducible apply And.intro)))) <;> simp_all [coV]
  · refine callS.eq (w93 _ _ _) ?_
    ((try with_reducible refine mkQI ?_); (repeat ((first | (with_reducible refine mkQU ?_) | simp only [brGen]); try simp (maxSteps := 2000000) only [↓ S2, S2, vIte, ↓reduceIte, Int.reduceNe, Nat.reduceEqDiff, reduceCtorEq, Nat.reduceLeDiff, Nat.reduceAdd, Nat.reduceLT])); (try simp +contextual (disch := omega) only [Z2]); (repeat' (first | (with_reducible intro h) | (with_reducible refine And.intro (by omega) ?_) | (with_reducible refine exP (by omega) ?_) | (with_reducible apply And.intro)))) <;> simp_all [coV] <;> (intros; omega)
  · simp_all [coV]
theorem w112 (k : Int) : Pure Tryz.prog 112 [I k] (· = B (decide (1 ≤ k ∧ k ≤ 4))) := by
  refine gstart mxd i112 rfl (by simp) ?_; simp (maxSteps := 2000000) only [↓ S2, S2, vIte, ↓reduceIte, Int.reduceNe, Nat.reduceEqDiff, reduceCtorEq, Nat.reduceLeDiff, Nat.reduceAdd, Nat.reduceLT]
  refine callS.eq (w84 _ _ _) ?_
  ((try with_reducible refine mkQI ?_); (repeat ((first | (with_reducible refine mkQU ?_) | simp only [brGen]); try simp (maxSteps := 2000000) only [↓ S2, S2, vIte, ↓reduceIte, Int.reduceNe, Nat.reduceEqDiff, reduceCtorEq, Nat.reduceLeDiff, Nat.reduceAdd, Nat.reduceLT])); (try simp +contextual (disch := omega) only [Z2]); (repeat' (first | (with_reducible intro h) | (with_reducible refine And.intro (by omega) ?_) | (with_reducible refine exP (by omega) ?_) | (with_reducible apply And.intro))))
theorem w82 (v k : Int) : Pure Tryz.prog 82 [I v, I k] (· = B (okV v k)) := by
  refine gstart mxd i82 rfl (by simp) ?_; simp (maxSteps := 2000000) only [↓ S2, S2, vIte, ↓reduceIte, Int.reduceNe, Nat.reduceEqDiff, reduceCtorEq, Nat.reduceLeDiff, Nat.reduceAdd, Nat.reduceLT]
  refine callS.eq (w112 _) ?_
  ((try with_reducible refine mkQI ?_); (repeat ((first | (with_reducible refine mkQU ?_) | simp only [brGen]); try simp (maxSteps := 2000000) only [↓ S2, S2, vIte, ↓reduceIte, Int.reduceNe, Nat.reduceEqDiff, reduceCtorEq, Nat.reduceLeDiff, Nat.reduceAdd, Nat.reduceLT])); (try simp +contextual (disch := omega) only [Z2]); (repeat' (first | (with_reducible intro h) | (with_reducible refine And.intro (by omega) ?_) | (with_reducible refine exP (by omega) ?_) | (with_reducible apply And.intro))))
  · refine callS.eq (w113 _ _) ?_
    ((try with_reducible refine mkQI ?_); (repeat ((first | (with_reducible refine mkQU ?_) | simp only [brGen]); try simp (maxSteps := 2000000) only [↓ S2, S2, vIte, ↓reduceIte, Int.reduceNe, Nat.reduceEqDiff, reduceCtorEq, Nat.reduceLeDiff, Nat.reduceAdd, Nat.reduceLT])); (try simp +contextual (disch := omega) only [Z2]); (repeat' (first | (with_reducible intro h) | (with_reducible refine And.intro (by omega) ?_) | (with_reducible refine exP (by omega) ?_) | (with_reducible apply And.intro)))) <;> simp_all [okV]
  · simp_all [okV] <;> (intros; omega)
theorem w90 (v k : Int) : Pure Tryz.prog 90 [I v, I k] (· = B (okV v k)) := by
  refine gstart mxd i90 rfl (by simp) ?_; simp (maxSteps := 2000000) only [↓ S2, S2, vIte, ↓reduceIte, Int.reduceNe, Nat.reduceEqDiff, reduceCtorEq, Nat.reduceLeDiff, Nat.reduceAdd, Nat.reduceLT]
  refine callS.eq (w93 _ _ _) ?_
  ((try with_reducible refine mkQI ?_); (repeat ((first | (with_reducible refine mkQU ?_) | simp only [brGen]); try simp (maxSteps := 2000000) only [↓ S2, S2, vIte, ↓reduceIte, Int.reduceNe, Nat.reduceEqDiff, reduceCtorEq, Nat.reduceLeDiff, Nat.reduceAdd, Nat.reduceLT])); (try simp +contextual (disch := omega) only [Z2]); (repeat' (first | (with_reducible intro h) | (with_reducible refine And.intro (by omega) ?_) | (with_reducible refine exP (by omega) ?_) | (with_reducible apply And.intro))))
  · refine callS.eq (w117 _ _) ?_
    ((try with_reducible refine mkQI ?_); (repeat ((first | (with_reducible refine mkQU ?_) | simp only [brGen]); try simp (maxSteps := 2000000) only [↓ S2, S2, vIte, ↓reduceIte, Int.reduceNe, Nat.reduceEqDiff, reduceCtorEq, Nat.reduceLeDiff, Nat.reduceAdd, Nat.reduceLT])); (try simp +contextual (disch := omega) only [Z2]); (repeat' (first | (with_reducible intro h) | (with_reducible refine And.intro (by omega) ?_) | (with_reducible refine exP (by omega) ?_) | (with_reducible apply And.intro)))) <;> simp_all [okV]
  · simp_all [okV] <;> (intros; omega)
end Go.Proofs.YtkmedfejmndmjaaGreatDoor

namespace Go.Proofs.YtkmedfejmndmjaaGreatDoor
open Go.Gh
set_option maxRecDepth 20000
set_option linter.unusedSimpArgs false
set_option linter.unusedVariables false
end Go.Proofs.YtkmedfejmndmjaaGreatDoor

namespace Go.Proofs.YtkmedfejmndmjaaGreatDoor
open Go.Gh
set_option maxRecDepth 20000
set_option linter.unusedSimpArgs false
set_option linter.unusedVariables false
theorem w49 : ∀ (e : Exp), wEx e ≤ 1048576 → Pure Tryz.prog 49 [Ex e] (· = I (cntE e)) := by
  refine Exp.indA fun e ih hw => ?_
  obtain ⟨hl, ha⟩ := args_small hw
  have hc := cntE_le e
  have he := cntE_eq e
  rw [Ex_eq]
  refine gstart mxd i49 rfl (by simp) ?_; simp (maxSteps := 2000000) only [↓ S2, S2, vIte, ↓reduceIte, Int.reduceNe, Nat.reduceEqDiff, reduceCtorEq, Nat.reduceLeDiff, Nat.reduceAdd, Nat.reduceLT]
  refine wloop mxd (ι := { i : Nat // i ≤ e.args.length }) (fun i => [(3, I ((1 + ((e.args.take i.1).map cntE).sum : Nat) : Int)), (7, ExS e.args), (8, I e.args.length), (9, I i.1)]) (fun i => []) (fun i => e.args.length - i.1) ⟨0, by simp⟩ (by simp [E2, mxL]) (by simp) ?_
  rintro ⟨i, hi⟩
  have h1 := sumT_le cntE e.args i
  have h3 := sumT_le cntE e.args (i + 1)
  ((try with_reducible refine mkQI ?_); (repeat ((first | (with_reducible refine mkQU ?_) | simp only [brGen]); try simp (maxSteps := 2000000) only [↓ S2, S2, vIte, ↓reduceIte, Int.reduceNe, Nat.reduceEqDiff, reduceCtorEq, Nat.reduceLeDiff, Nat.reduceAdd, Nat.reduceLT, isAgg_Ex, geR_Ex, gsize_Ex, stor_Ex])); (try simp +contextual (disch := omega) only [Z2, isAgg_Ex, geR_Ex, gsize_Ex, stor_Ex]); (repeat' (first | (with_reducible intro h) | (with_reducible refine And.intro (by omega) ?_) | (with_reducible refine exP (by omega) ?_) | (with_reducible apply And.intro))))
  · have h2 := sumT cntE e.args i (by omega)
    refine callS.eq (ih _ (List.getElem_mem _) (ha _ (List.getElem_mem _))) ?_
    ((try with_reducible refine mkQI ?_); (repeat ((first | (with_reducible refine mkQU ?_) | simp only [brGen]); try simp (maxSteps := 2000000) only [↓ S2, S2, vIte, ↓reduceIte, Int.reduceNe, Nat.reduceEqDiff, reduceCtorEq, Nat.reduceLeDiff, Nat.reduceAdd, Nat.reduceLT])); (try simp +contextual (disch := omega) only [Z2]); (repeat' (first | (with_reducible intro h) | (with_reducible refine And.intro (by omega) ?_) | (with_reducible refine exP (by omega) ?_) | (with_reducible apply And.intro))))
    refine nx ⟨i + 1, by omega⟩ (by simp; omega) ?_ (by simp)
    simp [E2, h2, -List.map_take]
    try (first | omega | (split <;> omega))
  · have : i = e.args.length := by omega
    subst this
    simp [he]
theorem w50 : ∀ (e : Exp), wEx e ≤ 1048576 → Pure Tryz.prog 50 [Ex e] (· = I (dpE e)) := by
  refine Exp.indA fun e ih hw => ?_
  obtain ⟨hl, ha⟩ := args_small hw
  have hc := cntE_le e
  have he := cntE_eq e
  have hd := dpE_eq e
  have hq := sumL_le (l := e.args) fun a _ => dpE_le a
  rw [Ex_eq]
  refine gstart mxd i50 rfl (by simp) ?_; simp (maxSteps := 2000000) only [↓ S2, S2, vIte, ↓reduceIte, Int.reduceNe, Nat.reduceEqDiff, reduceCtorEq, Nat.reduceLeDiff, Nat.reduceAdd, Nat.reduceLT]
  refine wloop mxd (ι := { i : Nat // i ≤ e.args.length }) (fun i => [(3, I (mxL ((e.args.take i.1).map dpE))), (7, ExS e.args), (8, I e.args.length), (9, I i.1)]) (fun i => []) (fun i => e.args.length - i.1) ⟨0, by simp⟩ (by simp [E2, mxL]) (by simp) ?_
  rintro ⟨i, hi⟩
  have h1 := mxT_le dpE e.args i
  ((try with_reducible refine mkQI ?_); (repeat ((first | (with_reducible refine mkQU ?_) | simp only [brGen]); try simp (maxSteps := 2000000) only [↓ S2, S2, vIte, ↓reduceIte, Int.reduceNe, Nat.reduceEqDiff, reduceCtorEq, Nat.reduceLeDiff, Nat.reduceAdd, Nat.reduceLT, isAgg_Ex, geR_Ex, gsize_Ex, stor_Ex])); (try simp +contextual (disch := omega) only [Z2, isAgg_Ex, geR_Ex, gsize_Ex, stor_Ex]); (repeat' (first | (with_reducible intro h) | (with_reducible refine And.intro (by omega) ?_) | (with_reducible refine exP (by omega) ?_) | (with_reducible apply And.intro))))
  · have h2 := mxT dpE e.args i (by omega)
    refine callS.eq (ih _ (List.getElem_mem _) (ha _ (List.getElem_mem _))) ?_
    ((try with_reducible refine mkQI ?_); (repeat ((first | (with_reducible refine mkQU ?_) | simp only [brGen]); try simp (maxSteps := 2000000) only [↓ S2, S2, vIte, ↓reduceIte, Int.reduceNe, Nat.reduceEqDiff, reduceCtorEq, Nat.reduceLeDiff, Nat.reduceAdd, Nat.reduceLT])); (try simp +contextual (disch := omega) only [Z2]); (repeat' (first | (with_reducible intro h) | (with_reducible refine And.intro (by omega) ?_) | (with_reducible refine exP (by omega) ?_) | (with_reducible apply And.intro))))
    refine nx ⟨i + 1, by omega⟩ (by simp; omega) ?_ (by simp)
    simp [E2, h2, -List.map_take]
    try (first | omega | (split <;> omega))
  · have : i = e.args.length := by omega
    subst this
    simp [hd]
    try omega
theorem w31 : ∀ (e : Exp), wEx e ≤ 1048576 → Pure Tryz.prog 31 [Ex e] (· = I (dpE e)) := by
  refine Exp.indA fun e ih hw => ?_
  obtain ⟨hl, ha⟩ := args_small hw
  have hc := cntE_le e
  have he := cntE_eq e
  have hd := dpE_eq e
  have hq := sumL_le (l := e.args) fun a _ => dpE_le a
  rw [Ex_eq]
  refine gstart mxd i31 rfl (by simp) ?_; simp (maxSteps := 2000000) only [↓ S2, S2, vIte, ↓reduceIte, Int.reduceNe, Nat.reduceEqDiff, reduceCtorEq, Nat.reduceLeDiff, Nat.reduceAdd, Nat.reduceLT]
  refine wloop mxd (ι := { i : Nat // i ≤ e.args.length }) (fun i => [(1, .rop 7 (.agg [I e.kind, I e.n, I e.pos, I e.type, T e.sym, T e.name, ExS e.args])), (3, I (mxL ((e.args.take i.1).map dpE))), (4, I i.1)]) (fun i => []) (fun i => e.args.length - i.1) ⟨0, by simp⟩ (by simp [E2, mxL]) (by simp) ?_
  rintro ⟨i, hi⟩
  have h1 := mxT_le dpE e.args i
  ((try with_reducible refine mkQI ?_); (repeat ((first | (with_reducible refine mkQU ?_) | simp only [brGen]); try simp (maxSteps := 2000000) only [↓ S2, S2, vIte, ↓reduceIte, Int.reduceNe, Nat.reduceEqDiff, reduceCtorEq, Nat.reduceLeDiff, Nat.reduceAdd, Nat.reduceLT, isAgg_Ex, geR_Ex, gsize_Ex, stor_Ex])); (try simp +contextual (disch := omega) only [Z2, isAgg_Ex, geR_Ex, gsize_Ex, stor_Ex]); (repeat' (first | (with_reducible intro h) | (with_reducible refine And.intro (by omega) ?_) | (with_reducible refine exP (by omega) ?_) | (with_reducible apply And.intro))))
  · have h2 := mxT dpE e.args i (by omega)
    refine callS.eq (ih _ (List.getElem_mem _) (ha _ (List.getElem_mem _))) ?_
    ((try with_reducible refine mkQI ?_); (repeat ((first | (with_reducible refine mkQU ?_) | simp only [brGen]); try simp (maxSteps := 2000000) only [↓ S2, S2, vIte, ↓reduceIte, Int.reduceNe, Nat.reduceEqDiff, reduceCtorEq, Nat.reduceLeDiff, Nat.reduceAdd, Nat.reduceLT])); (try simp +contextual (disch := omega) only [Z2]); (repeat' (first | (with_reducible intro h) | (with_reducible refine And.intro (by omega) ?_) | (with_reducible refine exP (by omega) ?_) | (with_reducible apply And.intro))))
    refine callS.eq (w61 _ _) ?_
    ((try with_reducible refine mkQI ?_); (repeat ((first | (with_reducible refine mkQU ?_) | simp only [brGen]); try simp (maxSteps := 2000000) only [↓ S2, S2, vIte, ↓reduceIte, Int.reduceNe, Nat.reduceEqDiff, reduceCtorEq, Nat.reduceLeDiff, Nat.reduceAdd, Nat.reduceLT])); (try simp +contextual (disch := omega) only [Z2]); (repeat' (first | (with_reducible intro h) | (with_reducible refine And.intro (by omega) ?_) | (with_reducible refine exP (by omega) ?_) | (with_reducible apply And.intro))))
    refine nx ⟨i + 1, by omega⟩ (by simp; omega) ?_ (by simp)
    simp [E2, h2, -List.map_take]
    try (first | omega | (split <;> omega))
  · have : i = e.args.length := by omega
    subst this
    simp [hd]
    try omega
theorem w30 : ∀ (e : Exp), wEx e ≤ 1048576 → ∀ left : Int, 0 ≤ left → left ≤ 1048576 → Pure Tryz.prog 30 [Ex e, I left] (· = I (max (left - cntE e) (-1))) := by
  refine Exp.indA fun e ih hw left l0 l1 => ?_
  obtain ⟨hl, ha⟩ := args_small hw
  have hc := cntE_le e
  have he := cntE_eq e
  rw [Ex_eq]
  refine gstart mxd i30 rfl (by simp) ?_; simp (maxSteps := 2000000) only [↓ S2, S2, vIte, ↓reduceIte, Int.reduceNe, Nat.reduceEqDiff, reduceCtorEq, Nat.reduceLeDiff, Nat.reduceAdd, Nat.reduceLT]
  simp +contextual (disch := omega) only [Z2]
  refine wloop mxd (ι := { i : Nat // i ≤ e.args.length }) (fun i => [(2, .rop 7 (.agg [I e.kind, I e.n, I e.pos, I e.type, T e.sym, T e.name, ExS e.args])), (1, I (max (left - 1 - ((e.args.take i.1).map cntE).sum) (-1))), (5, I i.1)]) (fun i => []) (fun i => e.args.length - i.1) ⟨0, by simp⟩ (by simp [E2]; try omega) (by simp) ?_
  rintro ⟨i, hi⟩
  have h1 := sumT_le cntE e.args i
  generalize hs : ((e.args.take i).map cntE).sum = s at *
  ((try with_reducible refine mkQI ?_); (repeat ((first | (with_reducible refine mkQU ?_) | simp only [brGen]); try simp (maxSteps := 2000000) only [↓ S2, S2, vIte, ↓reduceIte, Int.reduceNe, Nat.reduceEqDiff, reduceCtorEq, Nat.reduceLeDiff, Nat.reduceAdd, Nat.reduceLT, isAgg_Ex, geR_Ex, gsize_Ex, stor_Ex])); (try simp +contextual (disch := omega) only [Z2, isAgg_Ex, geR_Ex, gsize_Ex, stor_Ex]); (repeat' (first | (with_reducible intro h) | (with_reducible refine And.intro (by omega) ?_) | (with_reducible refine exP (by omega) ?_) | (with_reducible apply And.intro))))
  · have h2 := sumT cntE e.args i (by omega)
    refine callS.eq (ih _ (List.getElem_mem _) (ha _ (List.getElem_mem _)) _ (by omega) (by omega)) ?_
    ((try with_reducible refine mkQI ?_); (repeat ((first | (with_reducible refine mkQU ?_) | simp only [brGen]); try simp (maxSteps := 2000000) only [↓ S2, S2, vIte, ↓reduceIte, Int.reduceNe, Nat.reduceEqDiff, reduceCtorEq, Nat.reduceLeDiff, Nat.reduceAdd, Nat.reduceLT])); (try simp +contextual (disch := omega) only [Z2]); (repeat' (first | (with_reducible intro h) | (with_reducible refine And.intro (by omega) ?_) | (with_reducible refine exP (by omega) ?_) | (with_reducible apply And.intro))))
    refine nx ⟨i + 1, by omega⟩ (by simp; omega) ?_ (by simp)
    simp [E2, h2, hs, -List.map_take]
    try omega
  all_goals first | (congr 2; omega) | (rw [List.take_of_length_le (by omega)] at hs; congr 2; omega)
end Go.Proofs.YtkmedfejmndmjaaGreatDoor

namespace Go.Proofs.YtkmedfejmndmjaaGreatDoor
open Go.Gh
set_option maxRecDepth 20000
set_option linter.unusedSimpArgs false
set_option linter.unusedVariables false
theorem w111 (t : List Exp) (f : Nat) (cs : List GV) (p : Exp → Bool) (hp : ∀ x ∈ t, Pure Tryz.prog f (Ex x :: cs) (· = B (p x))) :
    Pure Tryz.prog 111 [ExS t, .clo f cs] (· = I (ixOf p t)) := by
  refine GCalls.lenA fun hl => ?_
  have hlen := hl.1.1
  simp only [List.length_map, maxL] at hlen
  refine gstart mxd i111 rfl (by simp) ?_; simp (maxSteps := 2000000) only [↓ S2, S2, vIte, ↓reduceIte, Int.reduceNe, Nat.reduceEqDiff, reduceCtorEq, Nat.reduceLeDiff, Nat.reduceAdd, Nat.reduceLT]
  refine wloop mxd (ι := { i : Nat // i ≤ t.length ∧ ∀ y ∈ t.take i, p y = false }) (fun i => [(0, ExS t), (1, .clo f cs), (7, I t.length), (8, I i.1)]) (fun _ => []) (fun i => t.length - i.1) ⟨0, by simp⟩ (by simp [E2]) rfl ?_
  rintro ⟨i, hi, hn⟩
  ((try with_reducible refine mkQI ?_); (repeat ((first | (with_reducible refine mkQU ?_) | simp only [brGen]); try simp (maxSteps := 2000000) only [↓ S2, S2, vIte, ↓reduceIte, Int.reduceNe, Nat.reduceEqDiff, reduceCtorEq, Nat.reduceLeDiff, Nat.reduceAdd, Nat.reduceLT, isAgg_Ex, geR_Ex, gsize_Ex, stor_Ex])); (try simp +contextual (disch := omega) only [Z2, isAgg_Ex, geR_Ex, gsize_Ex, stor_Ex]); (repeat' (first | (with_reducible intro h) | (with_reducible refine And.intro (by omega) ?_) | (with_reducible refine exP (by omega) ?_) | (with_reducible apply And.intro))))
  · refine callS.eq (hp t[i] (List.getElem_mem _)) ?_
    ((try with_reducible refine mkQI ?_); (repeat ((first | (with_reducible refine mkQU ?_) | simp only [brGen]); try simp (maxSteps := 2000000) only [↓ S2, S2, vIte, ↓reduceIte, Int.reduceNe, Nat.reduceEqDiff, reduceCtorEq, Nat.reduceLeDiff, Nat.reduceAdd, Nat.reduceLT])); (try simp +contextual (disch := omega) only [Z2]); (repeat' (first | (with_reducible intro h) | (with_reducible refine And.intro (by omega) ?_) | (with_reducible refine exP (by omega) ?_) | (with_reducible apply And.intro))))
    · rw [ixOf_hit (by assumption) h hn]
    · exact nx ⟨i + 1, by omega, take_step (by assumption) h hn⟩ (by simp; omega) (by simp [E2]) rfl
  · have : i = t.length := by omega
    subst this
    rw [List.take_of_length_le (Nat.le_refl _)] at hn
    rw [ixOf_none hn]
theorem w80 (t : List Exp) (f : Nat) (cs : List GV) (p : Exp → Bool) (hp : ∀ x ∈ t, Pure Tryz.prog f (Ex x :: cs) (· = B (p x))) :
    Pure Tryz.prog 80 [ExS t, .clo f cs] (· = B (t.any p)) := by
  refine gstart mxd i80 rfl (by simp) ?_; simp (maxSteps := 2000000) only [↓ S2, S2, vIte, ↓reduceIte, Int.reduceNe, Nat.reduceEqDiff, reduceCtorEq, Nat.reduceLeDiff, Nat.reduceAdd, Nat.reduceLT]
  refine callS.eq (w111 t f cs p hp) ?_
  ((try with_reducible refine mkQI ?_); (repeat ((first | (with_reducible refine mkQU ?_) | simp only [brGen]); try simp (maxSteps := 2000000) only [↓ S2, S2, vIte, ↓reduceIte, Int.reduceNe, Nat.reduceEqDiff, reduceCtorEq, Nat.reduceLeDiff, Nat.reduceAdd, Nat.reduceLT])); (try simp +contextual (disch := omega) only [Z2]); (repeat' (first | (with_reducible intro h) | (with_reducible refine And.intro (by omega) ?_) | (with_reducible refine exP (by omega) ?_) | (with_reducible apply And.intro))))
  rw [← any_ix]
theorem w51 (f : Nat) (cs : List GV) (p : Exp → Bool) (ok : Exp → Prop) (hok : ∀ e, ok e → ∀ a ∈ e.args, ok a) (hp : ∀ x, ok x → Pure Tryz.prog f (Ex x :: cs) (· = B (p x))) :
    ∀ e, ok e → Pure Tryz.prog 51 [Ex e, .clo f cs] (· = B (allE p e)) := by
  refine Exp.indA fun e ih he => ?_
  have hq := hp e he
  rw [Ex_eq] at hq ⊢
  refine gstart mxd i51 rfl (by simp) ?_; simp (maxSteps := 2000000) only [↓ S2, S2, vIte, ↓reduceIte, Int.reduceNe, Nat.reduceEqDiff, reduceCtorEq, Nat.reduceLeDiff, Nat.reduceAdd, Nat.reduceLT]
  refine ⟨rfl, callS.eq hq ?_⟩
  ((try with_reducible refine mkQI ?_); (repeat ((first | (with_reducible refine mkQU ?_) | simp only [brGen]); try simp (maxSteps := 2000000) only [↓ S2, S2, vIte, ↓reduceIte, Int.reduceNe, Nat.reduceEqDiff, reduceCtorEq, Nat.reduceLeDiff, Nat.reduceAdd, Nat.reduceLT])); (try simp +contextual (disch := omega) only [Z2]); (repeat' (first | (with_reducible intro h) | (with_reducible refine And.intro (by omega) ?_) | (with_reducible refine exP (by omega) ?_) | (with_reducible apply And.intro))))
  · refine callS.eq (w80 e.args _ _ (fun a => !allE p a) fun a ha => ?_) ?_
    · refine gstart mxd i81 rfl (by simp) ?_; simp (maxSteps := 2000000) only [↓ S2, S2, vIte, ↓reduceIte, Int.reduceNe, Nat.reduceEqDiff, reduceCtorEq, Nat.reduceLeDiff, Nat.reduceAdd, Nat.reduceLT]
      ((try with_reducible refine mkQI ?_); (repeat ((first | (with_reducible refine mkQU ?_) | simp only [brGen]); try simp (maxSteps := 2000000) only [↓ S2, S2, vIte, ↓reduceIte, Int.reduceNe, Nat.reduceEqDiff, reduceCtorEq, Nat.reduceLeDiff, Nat.reduceAdd, Nat.reduceLT, isAgg_Ex, geR_Ex, gsize_Ex, stor_Ex])); (try simp +contextual (disch := omega) only [Z2, isAgg_Ex, geR_Ex, gsize_Ex, stor_Ex]); (repeat' (first | (with_reducible intro h) | (with_reducible refine And.intro (by omega) ?_) | (with_reducible refine exP (by omega) ?_) | (with_reducible apply And.intro))))
      refine callS.eq (ih a ha (hok e he a ha)) ?_
      ((try with_reducible refine mkQI ?_); (repeat ((first | (with_reducible refine mkQU ?_) | simp only [brGen]); try simp (maxSteps := 2000000) only [↓ S2, S2, vIte, ↓reduceIte, Int.reduceNe, Nat.reduceEqDiff, reduceCtorEq, Nat.reduceLeDiff, Nat.reduceAdd, Nat.reduceLT])); (try simp +contextual (disch := omega) only [Z2]); (repeat' (first | (with_reducible intro h) | (with_reducible refine And.intro (by omega) ?_) | (with_reducible refine exP (by omega) ?_) | (with_reducible apply And.intro))))
    · ((try with_reducible refine mkQI ?_); (repeat ((first | (with_reducible refine mkQU ?_) | simp only [brGen]); try simp (maxSteps := 2000000) only [↓ S2, S2, vIte, ↓reduceIte, Int.reduceNe, Nat.reduceEqDiff, reduceCtorEq, Nat.reduceLeDiff, Nat.reduceAdd, Nat.reduceLT])); (try simp +contextual (disch := omega) only [Z2]); (repeat' (first | (with_reducible intro h) | (with_reducible refine And.intro (by omega) ?_) | (with_reducible refine exP (by omega) ?_) | (with_reducible apply And.intro))))
      rw [allE_eq]
      simp_all [any_not]
  · rw [allE_eq]
    simp_all
end Go.Proofs.YtkmedfejmndmjaaGreatDoor

namespace Go.Proofs.YtkmedfejmndmjaaGreatDoor
open Go.Gh
set_option maxRecDepth 20000
set_option linter.unusedSimpArgs false
set_option linter.unusedVariables false
theorem w96 (c : UInt8) : Pure Tryz.prog 96 [.val (.int .u8 c.toNat)] (· = B (letV c)) := by
  refine gstart mxd i96 rfl (by simp) ?_; simp (maxSteps := 2000000) only [↓ S2, S2, vIte, ↓reduceIte, Int.reduceNe, Nat.reduceEqDiff, reduceCtorEq, Nat.reduceLeDiff, Nat.reduceAdd, Nat.reduceLT]
  ((try with_reducible refine mkQI ?_); (repeat ((first | (with_reducible refine mkQU ?_) | simp only [brGen]); try simp (maxSteps := 2000000) only [↓ S2, S2, vIte, ↓reduceIte, Int.reduceNe, Nat.reduceEqDiff, reduceCtorEq, Nat.reduceLeDiff, Nat.reduceAdd, Nat.reduceLT])); (try simp +contextual (disch := omega) only [Z2]); (repeat' (first | (with_reducible intro h) | (with_reducible refine And.intro (by omega) ?_) | (with_reducible refine exP (by omega) ?_) | (with_reducible apply And.intro)))) <;> simp_all [letV] <;> (intros; omega)
theorem w97 (c : UInt8) : Pure Tryz.prog 97 [.val (.int .u8 c.toNat)] (· = B (digV c)) := by
  refine gstart mxd i97 rfl (by simp) ?_; simp (maxSteps := 2000000) only [↓ S2, S2, vIte, ↓reduceIte, Int.reduceNe, Nat.reduceEqDiff, reduceCtorEq, Nat.reduceLeDiff, Nat.reduceAdd, Nat.reduceLT]
  ((try with_reducible refine mkQI ?_); (repeat ((first | (with_reducible refine mkQU ?_) | simp only [brGen]); try simp (maxSteps := 2000000) only [↓ S2, S2, vIte, ↓reduceIte, Int.reduceNe, Nat.reduceEqDiff, reduceCtorEq, Nat.reduceLeDiff, Nat.reduceAdd, Nat.reduceLT])); (try simp +contextual (disch := omega) only [Z2]); (repeat' (first | (with_reducible intro h) | (with_reducible refine And.intro (by omega) ?_) | (with_reducible refine exP (by omega) ?_) | (with_reducible apply And.intro)))) <;> simp_all [digV] <;> (intros; omega)
theorem w146 : Pure Tryz.prog 146 [] (· = .sl 1 (kwS.map T)) := by
  have o : GCalls Tryz.prog 146 [] [] (fun g H' => ∃ r, g = .own r 1 0 13 ∧ H' = [(r, 1, kwS.map T)]) := by
    refine gstart mxd i146 rfl (by simp) ?_; simp (maxSteps := 2000000) only [↓ S2, S2, vIte, ↓reduceIte, Int.reduceNe, Nat.reduceEqDiff, reduceCtorEq, Nat.reduceLeDiff, Nat.reduceAdd, Nat.reduceLT]
    intro r hr
    exact ⟨r, rfl, rfl⟩
  refine o.fr ?_
  rintro g H' ⟨r, rfl, rfl⟩
  exact ⟨_, _, FR.freeze hget_new (.all hget_new (by simp [kwS]) (by simp [view, kwS])), rfl⟩
theorem w145 (l : List ByteArray) (s : ByteArray) : Pure Tryz.prog 145 [.sl 1 (l.map T), T s] (· = B (hasS l s)) := by
  refine GCalls.lenA fun hl => ?_
  have hlen := hl.1.1
  simp only [List.length_map, maxL] at hlen
  refine gstart mxd i145 rfl (by simp) ?_; simp (maxSteps := 2000000) only [↓ S2, S2, vIte, ↓reduceIte, Int.reduceNe, Nat.reduceEqDiff, reduceCtorEq, Nat.reduceLeDiff, Nat.reduceAdd, Nat.reduceLT]
  refine wloop mxd (ι := { i : Nat // i ≤ l.length ∧ ∀ y ∈ l.take i, decide (y = s) = false }) (fun i => [(0, .sl 1 (l.map T)), (1, T s), (5, I i.1)]) (fun _ => []) (fun i => l.length - i.1) ⟨0, by simp⟩ (by simp [E2]) rfl ?_
  rintro ⟨i, hi, hn⟩
  ((try with_reducible refine mkQI ?_); (repeat ((first | (with_reducible refine mkQU ?_) | simp only [brGen]); try simp (maxSteps := 2000000) only [↓ S2, S2, vIte, ↓reduceIte, Int.reduceNe, Nat.reduceEqDiff, reduceCtorEq, Nat.reduceLeDiff, Nat.reduceAdd, Nat.reduceLT])); (try simp +contextual (disch := omega) only [Z2]); (repeat' (first | (with_reducible intro h) | (with_reducible refine And.intro (by omega) ?_) | (with_reducible refine exP (by omega) ?_) | (with_reducible apply And.intro))))
  · rw [hasS_hit (by assumption) h]
  · exact nx ⟨i + 1, by omega, take_step (by assumption) (by simpa using h) hn⟩ (by simp; omega) (by simp [E2]) rfl
  · have : i = l.length := by omega
    subst this
    rw [List.take_of_length_le (Nat.le_refl _)] at hn
    rw [hasS_none hn]
theorem w114 (s : ByteArray) : Pure Tryz.prog 114 [T s] (· = B (resV s)) := by
  refine gstart mxd i114 rfl (by simp) ?_; simp (maxSteps := 2000000) only [↓ S2, S2, vIte, ↓reduceIte, Int.reduceNe, Nat.reduceEqDiff, reduceCtorEq, Nat.reduceLeDiff, Nat.reduceAdd, Nat.reduceLT]
  ((try with_reducible refine mkQI ?_); (repeat ((first | (with_reducible refine mkQU ?_) | simp only [brGen]); try simp (maxSteps := 2000000) only [↓ S2, S2, vIte, ↓reduceIte, Int.reduceNe, Nat.reduceEqDiff, reduceCtorEq, Nat.reduceLeDiff, Nat.reduceAdd, Nat.reduceLT])); (try simp +contextual (disch := omega) only [Z2]); (repeat' (first | (with_reducible intro h) | (with_reducible refine And.intro (by omega) ?_) | (with_reducible refine exP (by omega) ?_) | (with_reducible apply And.intro))))
  all_goals first | (simp_all [resV, hasS, kwS, show ∀ x, (x = s) = (s = x) from fun x => propext eq_comm]; done) | skip
theorem w119 (s : ByteArray) : Pure Tryz.prog 119 [T s] (· = B (resV s)) := by
  refine gstart mxd i119 rfl (by simp) ?_; simp (maxSteps := 2000000) only [↓ S2, S2, vIte, ↓reduceIte, Int.reduceNe, Nat.reduceEqDiff, reduceCtorEq, Nat.reduceLeDiff, Nat.reduceAdd, Nat.reduceLT]
  refine callS.eq w146 ?_
  ((try with_reducible refine mkQI ?_); (repeat ((first | (with_reducible refine mkQU ?_) | simp only [brGen]); try simp (maxSteps := 2000000) only [↓ S2, S2, vIte, ↓reduceIte, Int.reduceNe, Nat.reduceEqDiff, reduceCtorEq, Nat.reduceLeDiff, Nat.reduceAdd, Nat.reduceLT])); (try simp +contextual (disch := omega) only [Z2]); (repeat' (first | (with_reducible intro h) | (with_reducible refine And.intro (by omega) ?_) | (with_reducible refine exP (by omega) ?_) | (with_reducible apply And.intro))))
  refine callS.eq (w145 _ _) ?_
  ((try with_reducible refine mkQI ?_); (repeat ((first | (with_reducible refine mkQU ?_) | simp only [brGen]); try simp (maxSteps := 2000000) only [↓ S2, S2, vIte, ↓reduceIte, Int.reduceNe, Nat.reduceEqDiff, reduceCtorEq, Nat.reduceLeDiff, Nat.reduceAdd, Nat.reduceLT])); (try simp +contextual (disch := omega) only [Z2]); (repeat' (first | (with_reducible intro h) | (with_reducible refine And.intro (by omega) ?_) | (with_reducible refine exP (by omega) ?_) | (with_reducible apply And.intro))))
  rfl
theorem w118 (s : ByteArray) (hs : s.size ≤ maxLen) : Pure Tryz.prog 118 [T s] (· = B (shp (chars s))) := by
  simp only [maxLen, size_chars] at hs
  refine gstart mxd i118 rfl (by simp) ?_; simp (maxSteps := 2000000) only [↓ S2, S2, vIte, ↓reduceIte, Int.reduceNe, Nat.reduceEqDiff, reduceCtorEq, Nat.reduceLeDiff, Nat.reduceAdd, Nat.reduceLT]
  refine wloop mxd (ι := { i : Nat // i ≤ (chars s).length ∧ ∀ (j : Nat) (h : j < (chars s).length), j < i → letV (chars s)[j] = true ∨ (j ≠ 0 ∧ digV (chars s)[j] = true) }) (fun i => [(0, T s), (3, I i.1)]) (fun _ => []) (fun i => (chars s).length - i.1) ⟨0, by simp⟩ (by simp [E2]) rfl ?_
  rintro ⟨i, hi, hn⟩
  ((try with_reducible refine mkQI ?_); (repeat ((first | (with_reducible refine mkQU ?_) | simp only [brGen]); try simp (maxSteps := 2000000) only [↓ S2, S2, vIte, ↓reduceIte, Int.reduceNe, Nat.reduceEqDiff, reduceCtorEq, Nat.reduceLeDiff, Nat.reduceAdd, Nat.reduceLT])); (try simp +contextual (disch := omega) only [Z2]); (repeat' (first | (with_reducible intro h) | (with_reducible refine And.intro (by omega) ?_) | (with_reducible refine exP (by omega) ?_) | (with_reducible apply And.intro))))
  all_goals first
    | (rw [shp_bad (i := i) (by assumption) (by simp only [letV, digV, Bool.and_eq_true, decide_eq_true_eq]; omega)]; done)
    | (have hlt : i < (chars s).length := by omega
       have hg : letV (chars s)[i] = true ∨ (i ≠ 0 ∧ digV (chars s)[i] = true) := by
         simp only [letV, digV, Bool.and_eq_true, decide_eq_true_eq]
         omega
       exact nx ⟨i + 1, by omega, shp_step hlt hn hg⟩ (by simp; omega) (by simp [E2]) rfl)
    | (have : i = (chars s).length := by omega
       subst this
       rw [shp_end hn]
       simp; done)
    | skip
  all_goals have hlt : i < (chars s).length := by omega
  all_goals have hg : letV (chars s)[i] = true ∨ (i ≠ 0 ∧ digV (chars s)[i] = true) := by (simp only [letV, digV, Bool.and_eq_true, decide_eq_true_eq]; omega)
  all_goals refine nx ⟨i + 1, by omega, shp_step hlt hn hg⟩ ?_ ?_ rfl
  all_goals first | (simp only; omega) | exact (by simp [E2]) | skip
end Go.Proofs.YtkmedfejmndmjaaGreatDoor

namespace Go.Proofs.YtkmedfejmndmjaaGreatDoor
open Go.Gh
set_option maxRecDepth 20000
set_option linter.unusedSimpArgs false
set_option linter.unusedVariables false
theorem w95 (s : ByteArray) (hs : s.size ≤ maxLen) : Pure Tryz.prog 95 [T s] (· = B (nameV s)) := by
  have hs' := hs
  simp only [maxLen, size_chars] at hs'
  refine gstart mxd i95 rfl (by simp) ?_; simp (maxSteps := 2000000) only [↓ S2, S2, vIte, ↓reduceIte, Int.reduceNe, Nat.reduceEqDiff, reduceCtorEq, Nat.reduceLeDiff, Nat.reduceAdd, Nat.reduceLT]
  refine callS.eq (w118 s hs) ?_
  ((try with_reducible refine mkQI ?_); (repeat ((first | (with_reducible refine mkQU ?_) | simp only [brGen]); try simp (maxSteps := 2000000) only [↓ S2, S2, vIte, ↓reduceIte, Int.reduceNe, Nat.reduceEqDiff, reduceCtorEq, Nat.reduceLeDiff, Nat.reduceAdd, Nat.reduceLT])); (try simp +contextual (disch := omega) only [Z2]); (repeat' (first | (with_reducible intro h) | (with_reducible refine And.intro (by omega) ?_) | (with_reducible refine exP (by omega) ?_) | (with_reducible apply And.intro))))
  all_goals try (refine callS.eq (w119 _) ?_; ((try with_reducible refine mkQI ?_); (repeat ((first | (with_reducible refine mkQU ?_) | simp only [brGen]); try simp (maxSteps := 2000000) only [↓ S2, S2, vIte, ↓reduceIte, Int.reduceNe, Nat.reduceEqDiff, reduceCtorEq, Nat.reduceLeDiff, Nat.reduceAdd, Nat.reduceLT])); (try simp +contextual (disch := omega) only [Z2]); (repeat' (first | (with_reducible intro h) | (with_reducible refine And.intro (by omega) ?_) | (with_reducible refine exP (by omega) ?_) | (with_reducible apply And.intro)))))
  all_goals simp_all [nameV]
  all_goals try (intros; omega)
end Go.Proofs.YtkmedfejmndmjaaGreatDoor

