/- The law returns true whatever the input, and the input reads behind the call as before. No condition. -/
import Derived.Test.YtkmedfejmndmjaaGreatFty2
set_option maxHeartbeats 40000000
set_option maxRecDepth 20000
set_option linter.unusedSimpArgs false
set_option linter.unusedVariables false
namespace Go.Proofs.YtkmedfejmndmjaaGreat
open Go.Gh
open Nat (reduceEqDiff reduceLeDiff reduceAdd reduceLT)
open Int (reduceNe)
theorem w45 (g:Gram) (r:Rul) (o:Int×ByteArray) (hg:Zw g) (hr:Zk r):Pu 45 [Gr g,Ru r,Occ o] (· = .tup [At (Zu g r o.1 o.2),B (hasAt g r o.1 o.2)]):=by
 have hl:=hr.1
 refine ZY mxd i45 rfl (by simp) ?_;refine X0 ?_
 (with_reducible repeat' first|refine callS.eq (w47 _ _ _) ?_|refine callS.eq (w93 r _ hr) ?_|refine callS.eq (w48 _ _ hg) ?_|refine callS.eq (w49 _ _ (YB hg _)) ?_|exact trivial|refine aO ?_|refine eO ?_|apply jO|refine K0 ?_|intro h)
 all_goals simp only[Zu,hasAt]
 ·rw[if_pos (by assumption),if_pos (by assumption)]
 ·rw[if_neg (by assumption),if_neg (by assumption)];rfl
theorem w91 (g:Gram) (s n:ByteArray) (hg:Zw g):Pu 91 [Gr g,T s,T n] (· = I (fAtt (Zq g.syms s).atts n).type):=by
 refine ZY mxd i91 rfl (by simp) ?_;refine X0 ?_
 (with_reducible repeat' first|refine callS.eq (w10 _ _ hg) ?_|refine callS.eq (w12 _ _ (YB hg _)) ?_|exact trivial|refine aO ?_|refine eO ?_|apply jO|refine K0 ?_|intro h)
 all_goals rw[fAtt_no (by assumption)];rfl
end Go.Proofs.YtkmedfejmndmjaaGreat
namespace Go.Proofs.YtkmedfejmndmjaaGreat
open Go.Gh
open Nat (reduceEqDiff reduceLeDiff reduceAdd reduceLT)
open Int (reduceNe)
end Go.Proofs.YtkmedfejmndmjaaGreat
namespace Go.Proofs.YtkmedfejmndmjaaGreat
open Go.Gh
open Nat (reduceEqDiff reduceLeDiff reduceAdd reduceLT)
open Int (reduceNe)
end Go.Proofs.YtkmedfejmndmjaaGreat
namespace Go.Proofs.YtkmedfejmndmjaaGreat
open Go.Gh
open Nat (reduceEqDiff reduceLeDiff reduceAdd reduceLT)
open Int (reduceNe)
end Go.Proofs.YtkmedfejmndmjaaGreat
namespace Go.Proofs.YtkmedfejmndmjaaGreat
open Go.Gh
open Nat (reduceEqDiff reduceLeDiff reduceAdd reduceLT)
open Int (reduceNe)
end Go.Proofs.YtkmedfejmndmjaaGreat
namespace Go.Proofs.YtkmedfejmndmjaaGreat
open Go.Gh
open Nat (reduceEqDiff reduceLeDiff reduceAdd reduceLT)
open Int (reduceNe)
theorem w211 (r:Rul) (o:Int×ByteArray) (hr:Zk r):Pu 211 [Ru r,Occ o] (· = .tup [Ex (eqnE r o),B (eqnF r o).isSome]):=by
 refine Pure.bor ?_
 have hlen:=hr.2.1
 refine ZY mxd i211 rfl (by simp) ?_;refine X0 ?_
 refine ZF mxd (ι:={ i:Nat // i≤r.eqs.length∧∀y∈r.eqs.take i,decide (y.pos=o.1∧y.name=o.2)=false }) (fun i=>[(2,.rop 6 (Ru r)),(3,.rop 2 (Occ o)),(4,.raw 7),(6,I i.1)]) (fun _ => []) (fun i=>r.eqs.length-i.1) ⟨0,by simp⟩ (by simp[E2]) rfl ?_
 rintro ⟨i,hi,hn⟩
 rcases nL i r.eqs.length with hlt|hge
 ·by_cases he:r.eqs[i].pos = o.1∧r.eqs[i].name = o.2
  ·(refine V1 (jO @XE (jO he (jO @and_self @decide_true))) ?_;with_reducible repeat' first|exact trivial|intro h|refine aO ?_|refine eO ?_|apply jO)
   all_goals try exact oF
   refine callS.eq (w181 r.eqs[i].expr (hr.2.2.2.1 _ (gM _))) ?_
   (refine V1 @XE ?_;with_reducible repeat' first|exact trivial|intro h|refine aO ?_|refine eO ?_|apply jO)
   have e:=find_hit (p:=fun x:Eqn=>decide (x.pos=o.1∧x.name=o.2)) (xs:=r.eqs) (i:=i) hlt (by simp[he]) hn
   simp only[eqnE,eqnF,e]
   exact .refl
  ·(refine V1 @XE ?_;with_reducible repeat' first|exact trivial|intro h|refine aO ?_|refine eO ?_|apply jO)
   all_goals first
    | exact nx ⟨i+1,by omega,Zg hlt (by simp[he]) hn⟩ (by simp;omega) (by simp[E2]) rfl
    | (exfalso;omega)
    | (exfalso;exact he ⟨by assumption,by assumption⟩)
 ·have:i=r.eqs.length:=by omega
  subst this
  rw[tL (Nat.le_refl _)] at hn
  have e:=find_none hn
  (refine V1 @XE ?_;with_reducible repeat' first|exact trivial|intro h|refine aO ?_|refine eO ?_|apply jO)
  all_goals try exact oF
  simp only[eqnE,eqnF,e]
  exact .tup (.cons (.agg (.cons .refl (.cons .refl (.cons .refl (.cons .refl (.cons .refl (.cons .refl (.cons .nil .nil)))))))) (.cons .refl .nil))
end Go.Proofs.YtkmedfejmndmjaaGreat
namespace Go.Proofs.YtkmedfejmndmjaaGreat
open Go.Gh
open Nat (reduceEqDiff reduceLeDiff reduceAdd reduceLT)
open Int (reduceNe)
end Go.Proofs.YtkmedfejmndmjaaGreat
namespace Go.Proofs.YtkmedfejmndmjaaGreat
open Go.Gh
open Nat (reduceEqDiff reduceLeDiff reduceAdd reduceLT)
open Int (reduceNe)
end Go.Proofs.YtkmedfejmndmjaaGreat
namespace Go.Proofs.YtkmedfejmndmjaaGreat
open Go.Gh
open Nat (reduceEqDiff reduceLeDiff reduceAdd reduceLT)
open Int (reduceNe)
theorem w13 (g : Gram) (r : Rul) (hg : Zw g) (hr : Zk r) : ∀ e : Exp, wEx e ≤ 1048576 → Pu 13 [Gr g, Ru r, Ex e] (· = I (tyE g r e)) := by
  refine Exp.indA fun e ih hw => ?_
  obtain ⟨hl, ha⟩ := Za hw
  have hrr := hr.1
  refine Pure.bor ?_
  refine ZY mxd i13 rfl (by simp) ?_; refine X0 ?_
  (refine R1 @XE ?_; with_reducible repeat' first|exact trivial|intro h|refine aO ?_|refine eO ?_|apply jO)
  rename_i q
  refine Y1 mxd (ι := { x : Nat × Nat // x.2 ≤ e.args.length }) (fun x => [(3, .rop 2 (Gr g)), (4, .rop 6 (Ru r)), (5, .rop 7 (Ex e)), (6, I 0), (7, .own x.1.1 1 0 x.1.2), (21, ExS e.args), (22, I e.args.length), (23, I x.1.2)]) (fun x => [(x.1.1, 1, ((e.args.take x.1.2).map (tyE g r)).map I)]) (fun x => e.args.length - x.1.2) ⟨(q, 0), by simp⟩ (by simp [E2]) (by simp [subH, ZU, names]) ?_
  rintro ⟨⟨q, i⟩, hi⟩ -
  dsimp only at hi ⊢
  rcases nL i e.args.length with hlt | hge
  · (repeat' (first | (with_reducible refine callS.eq (ih _ (gM hlt) (ha _ (gM hlt))) ?_) | simp (maxSteps := 9^7) only [↓ S2, S2, Z5, ↓reduceIte, reduceNe, reduceEqDiff, reduceCtorEq, reduceLeDiff, reduceAdd, reduceLT, XE] | simp only [Z8] | simp +contextual (disch := omega) only [Z2] | with_reducible first | intro h | refine And.intro (by omega) ?_ | refine exP (by omega) ?_ | apply And.intro))
    all_goals try exact oF
    rename_i q2
    have h2 := ZX h
    (replace h2 := h2; simp only [VN] at h2)
    (refine R1 (jO @Z9 (jO @Z7 (jO @Z6 (jO h2 @t_ldf)))) ?_; with_reducible repeat' first|exact trivial|intro h|refine aO ?_|refine eO ?_|apply jO)
    all_goals first | (exact (by simp; omega)) | skip
    rename_i q3
    have h3 := ZX h
    (replace h3 := h3; simp only [VN] at h3)
    rw [takeApp2 I (tyE g r) e.args i hlt]
    exact px ⟨(q3, i + 1), by omega⟩ (by simp; omega) (by simp [E2]) (by simp [subH, ZU, names, h3])
  · have : i = e.args.length := by omega
    subst this
    rw [List.take_length, tyE_eq]
    have hts : ∃ ts, e.args.map (tyE g r) = ts := ⟨_, rfl⟩
    obtain ⟨ts, hts⟩ := hts
    have hlts : e.args.length = ts.length := by rw [← hts]; simp
    rw [hts]
    clear hts ih ha
    have hk : e.kind = 1 ∨ e.kind = 2 ∨ e.kind = 3 ∨ e.kind = 4 ∨ e.kind = 5 ∨ e.kind = 6 ∨ e.kind = 7 ∨ e.kind = 8 ∨ (¬ e.kind = 1 ∧ ¬ e.kind = 2 ∧ ¬ e.kind = 3 ∧ ¬ e.kind = 4 ∧ ¬ e.kind = 5 ∧ ¬ e.kind = 6 ∧ ¬ e.kind = 7 ∧ ¬ e.kind = 8) := by omega
    have hl2 : ((ts.length : Int) = 2) = (ts.length = 2) := propext (by omega)
    have hl3 : ((ts.length : Int) = 3) = (ts.length = 3) := propext (by omega)
    have hl1 : ((ts.length : Int) = 1) = (ts.length = 1) := propext (by omega)
    rcases hk with hk | hk | hk | hk | hk | hk | hk | hk | hk
    · (repeat' (first | (with_reducible refine callS.eq (w47 _ _ _) ?_) | simp (maxSteps := 9^7) only [↓ S2, S2, Z5, ↓reduceIte, reduceNe, reduceEqDiff, reduceCtorEq, reduceLeDiff, reduceAdd, reduceLT, XE, hk, t_ldI, hlts] | simp only [Z8] | simp +contextual (disch := omega) only [Z2] | with_reducible first | intro h | refine And.intro (by omega) ?_ | refine exP (by omega) ?_ | apply And.intro))
      all_goals try exact oF
      all_goals first
        | (refine .of_eq ?_; simp only [tyK, hk, Zu, Int.reduceEq, reduceIte]; done)
        | (refine .of_eq ?_
           simp only [tyK, hk, Zu, Int.reduceEq, reduceIte]
           first
             | (rw [if_pos (by assumption)]; done)
             | (rw [if_neg (by assumption)]; rfl)
             | (rw [if_pos ⟨hn, by rw [Z1 (by omega)]; assumption, by rw [Z1 (by omega)]; assumption⟩]; done)
             | (rw [if_neg (fun ⟨h1, h2, h3⟩ => by rw [Z1 (by omega)] at h2 h3; contradiction)]; done)
             | (rw [if_neg (fun ⟨h1, h2, h3⟩ => by rw [Z1 (by omega)] at h2; contradiction)]; done)
             | (rw [if_neg (fun ⟨h1, h2, h3⟩ => by rw [Z1 (by omega), Z1 (by omega)] at h3; contradiction)]; done)
             | (rw [if_pos ⟨hn, by rw [Z1 (by omega)]; assumption, by rw [Z1 (by omega), Z1 (by omega)]; assumption⟩, Z1 (by omega)]; first | rfl | (congr 2; assumption) | (congr 2; symm; assumption))
             | (rw [if_pos ⟨hn, by rw [Z1 (by omega)]; assumption⟩]; done)
             | (rw [if_neg (fun ⟨h1, h2⟩ => by rw [Z1 (by omega)] at h2; contradiction)]; done)
             | (rw [if_neg (fun ⟨h1, h2⟩ => by omega)]; done)
             | (rw [if_neg (by simp_all)]; done)
             | (simp_all; done))
    · cases hlit : r.lit
      all_goals (repeat' (first | (with_reducible refine callS.eq (w47 _ _ _) ?_) | simp (maxSteps := 9^7) only [↓ S2, S2, Z5, ↓reduceIte, reduceNe, reduceEqDiff, reduceCtorEq, reduceLeDiff, reduceAdd, reduceLT, XE, hk, t_ldI, hlts, hlit] | simp only [Z8] | simp +contextual (disch := omega) only [Z2] | with_reducible first | intro h | refine And.intro (by omega) ?_ | refine exP (by omega) ?_ | apply And.intro))
      all_goals try exact oF
      all_goals first
        | (refine .of_eq ?_; simp only [tyK, hk, Zu, Int.reduceEq, reduceIte]; done)
        | (refine .of_eq ?_
           simp only [tyK, hk, Zu, Int.reduceEq, reduceIte]
           first
             | (rw [if_pos (by assumption)]; done)
             | (rw [if_neg (by assumption)]; rfl)
             | (rw [if_pos ⟨hn, by rw [Z1 (by omega)]; assumption, by rw [Z1 (by omega)]; assumption⟩]; done)
             | (rw [if_neg (fun ⟨h1, h2, h3⟩ => by rw [Z1 (by omega)] at h2 h3; contradiction)]; done)
             | (rw [if_neg (fun ⟨h1, h2, h3⟩ => by rw [Z1 (by omega)] at h2; contradiction)]; done)
             | (rw [if_neg (fun ⟨h1, h2, h3⟩ => by rw [Z1 (by omega), Z1 (by omega)] at h3; contradiction)]; done)
             | (rw [if_pos ⟨hn, by rw [Z1 (by omega)]; assumption, by rw [Z1 (by omega), Z1 (by omega)]; assumption⟩, Z1 (by omega)]; first | rfl | (congr 2; assumption) | (congr 2; symm; assumption))
             | (rw [if_pos ⟨hn, by rw [Z1 (by omega)]; assumption⟩]; done)
             | (rw [if_neg (fun ⟨h1, h2⟩ => by rw [Z1 (by omega)] at h2; contradiction)]; done)
             | (rw [if_neg (fun ⟨h1, h2⟩ => by omega)]; done)
             | (rw [if_neg (by simp_all)]; done)
             | (simp_all; done))
    · (repeat' (first | (with_reducible refine callS.eq (w45 g r (e.pos, e.name) hg hr) ?_) | simp (maxSteps := 9^7) only [↓ S2, S2, Z5, ↓reduceIte, reduceNe, reduceEqDiff, reduceCtorEq, reduceLeDiff, reduceAdd, reduceLT, XE, hk, t_ldI, hlts] | simp only [Z8] | simp +contextual (disch := omega) only [Z2] | with_reducible first | intro h | refine And.intro (by omega) ?_ | refine exP (by omega) ?_ | apply And.intro))
      all_goals try exact oF
      all_goals first
        | (refine .of_eq ?_; simp only [tyK, hk, Zu, Int.reduceEq, reduceIte]; done)
        | (refine .of_eq ?_
           simp only [tyK, hk, Zu, Int.reduceEq, reduceIte]
           first
             | (rw [if_pos (by assumption)]; done)
             | (rw [if_neg (by assumption)]; rfl)
             | (rw [if_pos ⟨hn, by rw [Z1 (by omega)]; assumption, by rw [Z1 (by omega)]; assumption⟩]; done)
             | (rw [if_neg (fun ⟨h1, h2, h3⟩ => by rw [Z1 (by omega)] at h2 h3; contradiction)]; done)
             | (rw [if_neg (fun ⟨h1, h2, h3⟩ => by rw [Z1 (by omega)] at h2; contradiction)]; done)
             | (rw [if_neg (fun ⟨h1, h2, h3⟩ => by rw [Z1 (by omega), Z1 (by omega)] at h3; contradiction)]; done)
             | (rw [if_pos ⟨hn, by rw [Z1 (by omega)]; assumption, by rw [Z1 (by omega), Z1 (by omega)]; assumption⟩, Z1 (by omega)]; first | rfl | (congr 2; assumption) | (congr 2; symm; assumption))
             | (rw [if_pos ⟨hn, by rw [Z1 (by omega)]; assumption⟩]; done)
             | (rw [if_neg (fun ⟨h1, h2⟩ => by rw [Z1 (by omega)] at h2; contradiction)]; done)
             | (rw [if_neg (fun ⟨h1, h2⟩ => by omega)]; done)
             | (rw [if_neg (by simp_all)]; done)
             | (simp_all; done))
    · by_cases hn : ts.length = 2
      · (repeat' (first | (with_reducible refine callS.eq (w46 _) ?_) | simp (maxSteps := 9^7) only [↓ S2, S2, Z5, ↓reduceIte, reduceNe, reduceEqDiff, reduceCtorEq, reduceLeDiff, reduceAdd, reduceLT, XE, hk, t_ldI, hlts, hl2, hl3, hl1, eq_true hn] | simp only [Z8] | simp +contextual (disch := omega) only [Z2] | with_reducible first | intro h | refine And.intro (by omega) ?_ | refine exP (by omega) ?_ | apply And.intro))
        all_goals try exact oF
        all_goals first
          | (refine .of_eq ?_; simp only [tyK, hk, Zu, Int.reduceEq, reduceIte]; done)
          | (refine .of_eq ?_
             simp only [tyK, hk, Zu, Int.reduceEq, reduceIte]
             first
               | (rw [if_pos (by assumption)]; done)
               | (rw [if_neg (by assumption)]; rfl)
               | (rw [if_pos ⟨hn, by rw [Z1 (by omega)]; assumption, by rw [Z1 (by omega)]; assumption⟩]; done)
               | (rw [if_neg (fun ⟨h1, h2, h3⟩ => by rw [Z1 (by omega)] at h2 h3; contradiction)]; done)
               | (rw [if_neg (fun ⟨h1, h2, h3⟩ => by rw [Z1 (by omega)] at h2; contradiction)]; done)
               | (rw [if_neg (fun ⟨h1, h2, h3⟩ => by rw [Z1 (by omega), Z1 (by omega)] at h3; contradiction)]; done)
               | (rw [if_pos ⟨hn, by rw [Z1 (by omega)]; assumption, by rw [Z1 (by omega), Z1 (by omega)]; assumption⟩, Z1 (by omega)]; first | rfl | (congr 2; assumption) | (congr 2; symm; assumption))
               | (rw [if_pos ⟨hn, by rw [Z1 (by omega)]; assumption⟩]; done)
               | (rw [if_neg (fun ⟨h1, h2⟩ => by rw [Z1 (by omega)] at h2; contradiction)]; done)
               | (rw [if_neg (fun ⟨h1, h2⟩ => by omega)]; done)
               | (rw [if_neg (by simp_all)]; done)
               | (simp_all; done))
      · (repeat' (first | (with_reducible refine callS.eq (w46 _) ?_) | simp (maxSteps := 9^7) only [↓ S2, S2, Z5, ↓reduceIte, reduceNe, reduceEqDiff, reduceCtorEq, reduceLeDiff, reduceAdd, reduceLT, XE, hk, t_ldI, hlts, hl2, hl3, hl1, eq_false hn] | simp only [Z8] | simp +contextual (disch := omega) only [Z2] | with_reducible first | intro h | refine And.intro (by omega) ?_ | refine exP (by omega) ?_ | apply And.intro))
        all_goals try exact oF
        all_goals first
          | (refine .of_eq ?_; simp only [tyK, hk, Zu, Int.reduceEq, reduceIte]; done)
          | (refine .of_eq ?_
             simp only [tyK, hk, Zu, Int.reduceEq, reduceIte]
             first
               | (rw [if_pos (by assumption)]; done)
               | (rw [if_neg (by assumption)]; rfl)
               | (rw [if_pos ⟨hn, by rw [Z1 (by omega)]; assumption, by rw [Z1 (by omega)]; assumption⟩]; done)
               | (rw [if_neg (fun ⟨h1, h2, h3⟩ => by rw [Z1 (by omega)] at h2 h3; contradiction)]; done)
               | (rw [if_neg (fun ⟨h1, h2, h3⟩ => by rw [Z1 (by omega)] at h2; contradiction)]; done)
               | (rw [if_neg (fun ⟨h1, h2, h3⟩ => by rw [Z1 (by omega), Z1 (by omega)] at h3; contradiction)]; done)
               | (rw [if_pos ⟨hn, by rw [Z1 (by omega)]; assumption, by rw [Z1 (by omega), Z1 (by omega)]; assumption⟩, Z1 (by omega)]; first | rfl | (congr 2; assumption) | (congr 2; symm; assumption))
               | (rw [if_pos ⟨hn, by rw [Z1 (by omega)]; assumption⟩]; done)
               | (rw [if_neg (fun ⟨h1, h2⟩ => by rw [Z1 (by omega)] at h2; contradiction)]; done)
               | (rw [if_neg (fun ⟨h1, h2⟩ => by omega)]; done)
               | (rw [if_neg (by simp_all)]; done)
               | (simp_all; done))
    · by_cases hn : ts.length = 3
      · (repeat' (first | (with_reducible refine callS.eq (w46 _) ?_) | simp (maxSteps := 9^7) only [↓ S2, S2, Z5, ↓reduceIte, reduceNe, reduceEqDiff, reduceCtorEq, reduceLeDiff, reduceAdd, reduceLT, XE, hk, t_ldI, hlts, hl2, hl3, hl1, eq_true hn] | simp only [Z8] | simp +contextual (disch := omega) only [Z2] | with_reducible first | intro h | refine And.intro (by omega) ?_ | refine exP (by omega) ?_ | apply And.intro))
        all_goals try exact oF
        all_goals first
          | (refine .of_eq ?_; simp only [tyK, hk, Zu, Int.reduceEq, reduceIte]; done)
          | (refine .of_eq ?_
             simp only [tyK, hk, Zu, Int.reduceEq, reduceIte]
             first
               | (rw [if_pos (by assumption)]; done)
               | (rw [if_neg (by assumption)]; rfl)
               | (rw [if_pos ⟨hn, by rw [Z1 (by omega)]; assumption, by rw [Z1 (by omega)]; assumption⟩]; done)
               | (rw [if_neg (fun ⟨h1, h2, h3⟩ => by rw [Z1 (by omega)] at h2 h3; contradiction)]; done)
               | (rw [if_neg (fun ⟨h1, h2, h3⟩ => by rw [Z1 (by omega)] at h2; contradiction)]; done)
               | (rw [if_neg (fun ⟨h1, h2, h3⟩ => by rw [Z1 (by omega), Z1 (by omega)] at h3; contradiction)]; done)
               | (rw [if_pos ⟨hn, by rw [Z1 (by omega)]; assumption, by rw [Z1 (by omega), Z1 (by omega)]; assumption⟩, Z1 (by omega)]; first | rfl | (congr 2; assumption) | (congr 2; symm; assumption))
               | (rw [if_pos ⟨hn, by rw [Z1 (by omega)]; assumption⟩]; done)
               | (rw [if_neg (fun ⟨h1, h2⟩ => by rw [Z1 (by omega)] at h2; contradiction)]; done)
               | (rw [if_neg (fun ⟨h1, h2⟩ => by omega)]; done)
               | (rw [if_neg (by simp_all)]; done)
               | (simp_all; done))
      · (repeat' (first | (with_reducible refine callS.eq (w46 _) ?_) | simp (maxSteps := 9^7) only [↓ S2, S2, Z5, ↓reduceIte, reduceNe, reduceEqDiff, reduceCtorEq, reduceLeDiff, reduceAdd, reduceLT, XE, hk, t_ldI, hlts, hl2, hl3, hl1, eq_false hn] | simp only [Z8] | simp +contextual (disch := omega) only [Z2] | with_reducible first | intro h | refine And.intro (by omega) ?_ | refine exP (by omega) ?_ | apply And.intro))
        all_goals try exact oF
        all_goals first
          | (refine .of_eq ?_; simp only [tyK, hk, Zu, Int.reduceEq, reduceIte]; done)
          | (refine .of_eq ?_
             simp only [tyK, hk, Zu, Int.reduceEq, reduceIte]
             first
               | (rw [if_pos (by assumption)]; done)
               | (rw [if_neg (by assumption)]; rfl)
               | (rw [if_pos ⟨hn, by rw [Z1 (by omega)]; assumption, by rw [Z1 (by omega)]; assumption⟩]; done)
               | (rw [if_neg (fun ⟨h1, h2, h3⟩ => by rw [Z1 (by omega)] at h2 h3; contradiction)]; done)
               | (rw [if_neg (fun ⟨h1, h2, h3⟩ => by rw [Z1 (by omega)] at h2; contradiction)]; done)
               | (rw [if_neg (fun ⟨h1, h2, h3⟩ => by rw [Z1 (by omega), Z1 (by omega)] at h3; contradiction)]; done)
               | (rw [if_pos ⟨hn, by rw [Z1 (by omega)]; assumption, by rw [Z1 (by omega), Z1 (by omega)]; assumption⟩, Z1 (by omega)]; first | rfl | (congr 2; assumption) | (congr 2; symm; assumption))
               | (rw [if_pos ⟨hn, by rw [Z1 (by omega)]; assumption⟩]; done)
               | (rw [if_neg (fun ⟨h1, h2⟩ => by rw [Z1 (by omega)] at h2; contradiction)]; done)
               | (rw [if_neg (fun ⟨h1, h2⟩ => by omega)]; done)
               | (rw [if_neg (by simp_all)]; done)
               | (simp_all; done))
    · (repeat' (first | (with_reducible refine callS.eq (w47 _ _ _) ?_) | simp (maxSteps := 9^7) only [↓ S2, S2, Z5, ↓reduceIte, reduceNe, reduceEqDiff, reduceCtorEq, reduceLeDiff, reduceAdd, reduceLT, XE, hk, t_ldI, hlts] | simp only [Z8] | simp +contextual (disch := omega) only [Z2] | with_reducible first | intro h | refine And.intro (by omega) ?_ | refine exP (by omega) ?_ | apply And.intro))
      all_goals try exact oF
      all_goals first
        | (refine .of_eq ?_; simp only [tyK, hk, Zu, Int.reduceEq, reduceIte]; done)
        | (refine .of_eq ?_
           simp only [tyK, hk, Zu, Int.reduceEq, reduceIte]
           first
             | (rw [if_pos (by assumption)]; done)
             | (rw [if_neg (by assumption)]; rfl)
             | (rw [if_pos ⟨hn, by rw [Z1 (by omega)]; assumption, by rw [Z1 (by omega)]; assumption⟩]; done)
             | (rw [if_neg (fun ⟨h1, h2, h3⟩ => by rw [Z1 (by omega)] at h2 h3; contradiction)]; done)
             | (rw [if_neg (fun ⟨h1, h2, h3⟩ => by rw [Z1 (by omega)] at h2; contradiction)]; done)
             | (rw [if_neg (fun ⟨h1, h2, h3⟩ => by rw [Z1 (by omega), Z1 (by omega)] at h3; contradiction)]; done)
             | (rw [if_pos ⟨hn, by rw [Z1 (by omega)]; assumption, by rw [Z1 (by omega), Z1 (by omega)]; assumption⟩, Z1 (by omega)]; first | rfl | (congr 2; assumption) | (congr 2; symm; assumption))
             | (rw [if_pos ⟨hn, by rw [Z1 (by omega)]; assumption⟩]; done)
             | (rw [if_neg (fun ⟨h1, h2⟩ => by rw [Z1 (by omega)] at h2; contradiction)]; done)
             | (rw [if_neg (fun ⟨h1, h2⟩ => by omega)]; done)
             | (rw [if_neg (by simp_all)]; done)
             | (simp_all; done))
    · (repeat' (first | (with_reducible refine callS.eq (w47 _ _ _) ?_) | simp (maxSteps := 9^7) only [↓ S2, S2, Z5, ↓reduceIte, reduceNe, reduceEqDiff, reduceCtorEq, reduceLeDiff, reduceAdd, reduceLT, XE, hk, t_ldI, hlts] | simp only [Z8] | simp +contextual (disch := omega) only [Z2] | with_reducible first | intro h | refine And.intro (by omega) ?_ | refine exP (by omega) ?_ | apply And.intro))
      all_goals try exact oF
      all_goals first
        | (refine .of_eq ?_; simp only [tyK, hk, Zu, Int.reduceEq, reduceIte]; done)
        | (refine .of_eq ?_
           simp only [tyK, hk, Zu, Int.reduceEq, reduceIte]
           first
             | (rw [if_pos (by assumption)]; done)
             | (rw [if_neg (by assumption)]; rfl)
             | (rw [if_pos ⟨hn, by rw [Z1 (by omega)]; assumption, by rw [Z1 (by omega)]; assumption⟩]; done)
             | (rw [if_neg (fun ⟨h1, h2, h3⟩ => by rw [Z1 (by omega)] at h2 h3; contradiction)]; done)
             | (rw [if_neg (fun ⟨h1, h2, h3⟩ => by rw [Z1 (by omega)] at h2; contradiction)]; done)
             | (rw [if_neg (fun ⟨h1, h2, h3⟩ => by rw [Z1 (by omega), Z1 (by omega)] at h3; contradiction)]; done)
             | (rw [if_pos ⟨hn, by rw [Z1 (by omega)]; assumption, by rw [Z1 (by omega), Z1 (by omega)]; assumption⟩, Z1 (by omega)]; first | rfl | (congr 2; assumption) | (congr 2; symm; assumption))
             | (rw [if_pos ⟨hn, by rw [Z1 (by omega)]; assumption⟩]; done)
             | (rw [if_neg (fun ⟨h1, h2⟩ => by rw [Z1 (by omega)] at h2; contradiction)]; done)
             | (rw [if_neg (fun ⟨h1, h2⟩ => by omega)]; done)
             | (rw [if_neg (by simp_all)]; done)
             | (simp_all; done))
    · by_cases hn : ts.length = 1
      · (repeat' (first | (with_reducible refine callS.eq (w48 _ _ hg) ?_) | (with_reducible refine callS.eq (w49 _ _ (YB hg _)) ?_) | simp (maxSteps := 9^7) only [↓ S2, S2, Z5, ↓reduceIte, reduceNe, reduceEqDiff, reduceCtorEq, reduceLeDiff, reduceAdd, reduceLT, XE, hk, t_ldI, hlts, hl2, hl3, hl1, eq_true hn] | simp only [Z8] | simp +contextual (disch := omega) only [Z2] | with_reducible first | intro h | refine And.intro (by omega) ?_ | refine exP (by omega) ?_ | apply And.intro))
        all_goals try exact oF
        all_goals first
          | (refine .of_eq ?_; simp only [tyK, hk, Zu, Int.reduceEq, reduceIte]; done)
          | (refine .of_eq ?_
             simp only [tyK, hk, Zu, Int.reduceEq, reduceIte]
             first
               | (rw [if_pos (by assumption)]; done)
               | (rw [if_neg (by assumption)]; rfl)
               | (rw [if_pos ⟨hn, by rw [Z1 (by omega)]; assumption, by rw [Z1 (by omega)]; assumption⟩]; done)
               | (rw [if_neg (fun ⟨h1, h2, h3⟩ => by rw [Z1 (by omega)] at h2 h3; contradiction)]; done)
               | (rw [if_neg (fun ⟨h1, h2, h3⟩ => by rw [Z1 (by omega)] at h2; contradiction)]; done)
               | (rw [if_neg (fun ⟨h1, h2, h3⟩ => by rw [Z1 (by omega), Z1 (by omega)] at h3; contradiction)]; done)
               | (rw [if_pos ⟨hn, by rw [Z1 (by omega)]; assumption, by rw [Z1 (by omega), Z1 (by omega)]; assumption⟩, Z1 (by omega)]; first | rfl | (congr 2; assumption) | (congr 2; symm; assumption))
               | (rw [if_pos ⟨hn, by rw [Z1 (by omega)]; assumption⟩]; done)
               | (rw [if_neg (fun ⟨h1, h2⟩ => by rw [Z1 (by omega)] at h2; contradiction)]; done)
               | (rw [if_neg (fun ⟨h1, h2⟩ => by omega)]; done)
               | (rw [if_neg (by simp_all)]; done)
               | (simp_all; done))
      · (repeat' (first | (with_reducible refine callS.eq (w48 _ _ hg) ?_) | (with_reducible refine callS.eq (w49 _ _ (YB hg _)) ?_) | simp (maxSteps := 9^7) only [↓ S2, S2, Z5, ↓reduceIte, reduceNe, reduceEqDiff, reduceCtorEq, reduceLeDiff, reduceAdd, reduceLT, XE, hk, t_ldI, hlts, hl2, hl3, hl1, eq_false hn] | simp only [Z8] | simp +contextual (disch := omega) only [Z2] | with_reducible first | intro h | refine And.intro (by omega) ?_ | refine exP (by omega) ?_ | apply And.intro))
        all_goals try exact oF
        all_goals first
          | (refine .of_eq ?_; simp only [tyK, hk, Zu, Int.reduceEq, reduceIte]; done)
          | (refine .of_eq ?_
             simp only [tyK, hk, Zu, Int.reduceEq, reduceIte]
             first
               | (rw [if_pos (by assumption)]; done)
               | (rw [if_neg (by assumption)]; rfl)
               | (rw [if_pos ⟨hn, by rw [Z1 (by omega)]; assumption, by rw [Z1 (by omega)]; assumption⟩]; done)
               | (rw [if_neg (fun ⟨h1, h2, h3⟩ => by rw [Z1 (by omega)] at h2 h3; contradiction)]; done)
               | (rw [if_neg (fun ⟨h1, h2, h3⟩ => by rw [Z1 (by omega)] at h2; contradiction)]; done)
               | (rw [if_neg (fun ⟨h1, h2, h3⟩ => by rw [Z1 (by omega), Z1 (by omega)] at h3; contradiction)]; done)
               | (rw [if_pos ⟨hn, by rw [Z1 (by omega)]; assumption, by rw [Z1 (by omega), Z1 (by omega)]; assumption⟩, Z1 (by omega)]; first | rfl | (congr 2; assumption) | (congr 2; symm; assumption))
               | (rw [if_pos ⟨hn, by rw [Z1 (by omega)]; assumption⟩]; done)
               | (rw [if_neg (fun ⟨h1, h2⟩ => by rw [Z1 (by omega)] at h2; contradiction)]; done)
               | (rw [if_neg (fun ⟨h1, h2⟩ => by omega)]; done)
               | (rw [if_neg (by simp_all)]; done)
               | (simp_all; done))
    · (repeat' (first | (with_reducible refine callS.eq (w47 _ _ _) ?_) | simp (maxSteps := 9^7) only [↓ S2, S2, Z5, ↓reduceIte, reduceNe, reduceEqDiff, reduceCtorEq, reduceLeDiff, reduceAdd, reduceLT, XE, hk, t_ldI, hlts] | simp only [Z8] | simp +contextual (disch := omega) only [Z2] | with_reducible first | intro h | refine And.intro (by omega) ?_ | refine exP (by omega) ?_ | apply And.intro))
      all_goals try exact oF
      all_goals first
        | (refine .of_eq ?_; simp only [tyK, hk, Zu, Int.reduceEq, reduceIte]; done)
        | (refine .of_eq ?_
           simp only [tyK, hk, Zu, Int.reduceEq, reduceIte]
           first
             | (rw [if_pos (by assumption)]; done)
             | (rw [if_neg (by assumption)]; rfl)
             | (rw [if_pos ⟨hn, by rw [Z1 (by omega)]; assumption, by rw [Z1 (by omega)]; assumption⟩]; done)
             | (rw [if_neg (fun ⟨h1, h2, h3⟩ => by rw [Z1 (by omega)] at h2 h3; contradiction)]; done)
             | (rw [if_neg (fun ⟨h1, h2, h3⟩ => by rw [Z1 (by omega)] at h2; contradiction)]; done)
             | (rw [if_neg (fun ⟨h1, h2, h3⟩ => by rw [Z1 (by omega), Z1 (by omega)] at h3; contradiction)]; done)
             | (rw [if_pos ⟨hn, by rw [Z1 (by omega)]; assumption, by rw [Z1 (by omega), Z1 (by omega)]; assumption⟩, Z1 (by omega)]; first | rfl | (congr 2; assumption) | (congr 2; symm; assumption))
             | (rw [if_pos ⟨hn, by rw [Z1 (by omega)]; assumption⟩]; done)
             | (rw [if_neg (fun ⟨h1, h2⟩ => by rw [Z1 (by omega)] at h2; contradiction)]; done)
             | (rw [if_neg (fun ⟨h1, h2⟩ => by omega)]; done)
             | (rw [if_neg (by simp_all)]; done)
             | (simp_all; done))
end Go.Proofs.YtkmedfejmndmjaaGreat
