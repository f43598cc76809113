/- The laws FnStatic and FnStaticTypes return true whatever the input, and the input reads behind the call as before. No condition. -/
import Derived.Test.YtknbnefbgpnkgaaGreatFst6
set_option maxHeartbeats 40000000
set_option maxRecDepth 20000
set_option linter.unusedSimpArgs false
set_option linter.unusedVariables false
namespace Go.Proofs.YtknbnefbgpnkgaaGreat
open Go.Gh
open Nat (reduceEqDiff reduceLeDiff reduceAdd reduceLT)
open Int (reduceNe)
theorem Tryz.dec_j {p:Prop} {i:Decidable p}:(@decide p i=true)=p:=propext ⟨of_decide_eq_true,decide_eq_true⟩
theorem w192 (e : Exp) (hl : e.args.length ≤ 1048576) (ho : okE e) : Pu 192 [Ex e] (· = B (Yh e)) := by
  obtain ⟨hs, hm, _⟩ := okE_eq.1 ho
  refine Pure.bor ?_
  have hl1 : ((e.args.length : Int) = 1) = (e.args.length = 1) := propext oT
  have hl2 : ((e.args.length : Int) = 2) = (e.args.length = 2) := propext oT
  have hl3 : ((e.args.length : Int) = 3) = (e.args.length = 3) := propext oT
  have hk : e.kind = 1 ∨ e.kind = 2 ∨ e.kind = 3 ∨ e.kind = 4 ∨ e.kind = 5 ∨ e.kind = 6 ∨ e.kind = 7 ∨ e.kind = 8 ∨ (¬ e.kind = 1 ∧ ¬ e.kind = 2 ∧ ¬ e.kind = 3 ∧ ¬ e.kind = 4 ∧ ¬ e.kind = 5 ∧ ¬ e.kind = 6 ∧ ¬ e.kind = 7 ∧ ¬ e.kind = 8) := by omega
  rcases hk with hk | hk | hk | hk | hk | hk | hk | hk | hk
  all_goals
    refine Z5 mxd i192 rfl (by simp) ?_; refine X0 ?_
    (repeat' (first | (with_reducible refine callS.eq (w57 _ _ _) ?_) | (with_reducible refine callS.eq (w226 _ _) ?_) | (with_reducible refine callS.eq (w227 _ hs) ?_) | (with_reducible refine callS.eq (w227 _ hm) ?_) | (with_reducible refine callS.eq (w228 e _ _ _ _ _ _ _) ?_) | simp (maxSteps := 9^7) only [↓ S2, S2, ZH, ↓reduceIte, reduceNe, reduceEqDiff, reduceCtorEq, reduceLeDiff, reduceAdd, reduceLT, XE, hk] | simp only [ZP] | simp +contextual (disch := omega) only [Z2] | with_reducible first | intro h | refine jO oT ?_ | refine exP oT ?_ | apply jO))
    all_goals try exact oF
    all_goals refine .of_eq ?_
    all_goals first
      | (simp_all [Yh, bareV, arity, noS_eq]; done)
      | (simp_all [Yh, bareV, arity, noS_eq]; intros; omega)
      | (have hr := okV_rng (show okV e.n e.type = true by assumption)
         congr 2
         rw [Bool.eq_iff_iff]
         try simp only [Bool.and_eq_true, Tryz.dec_j]
         try simp only [noS_eq]
         simp [Yh, bareV, arity, hk]
         try (constructor <;> intro hh <;> (try simp_all) <;> (try omega)))
      | (congr 2
         rw [Bool.eq_iff_iff]
         try simp only [Bool.and_eq_true, Tryz.dec_j]
         try simp only [noS_eq]
         simp [Yh, bareV, arity, hk]
         try (constructor <;> intro hh <;> (try simp_all) <;> (try omega)))
theorem w151 (e:Exp) (ho:okE e) (hw:wEx e≤1048576):Pu 151 [Ex e] (· = B (X7 e)):=by
 have hc:=cntE_le e
 have hd:=dpE_le e
 have hev:=w184 192 [] Yh (fun e=>okE e∧wEx e≤1048576) (fun e h a ha=>⟨(okE_eq.1 h.1).2.2 a ha,(YS h.2).2 a ha⟩) (fun x h=>w192 x (YS h.2).1 h.1) e ⟨ho,hw⟩
 refine Z5 mxd i151 rfl (by simp) ?_;refine X0 ?_
 (repeat' (first|(with_reducible refine callS.eq (w190 e hw) ?_)|(with_reducible refine callS.eq (w191 e hw) ?_)|(with_reducible refine callS.eq (hev) ?_)|simp (maxSteps:=9^7) only[↓ S2,S2,ZH,↓reduceIte,reduceNe,reduceEqDiff,reduceCtorEq,reduceLeDiff,reduceAdd,reduceLT,XE]|simp only[ZP]|simp +contextual (disch:=omega) only[Z2]|with_reducible first|intro h|refine jO oT ?_ | refine exP oT ?_ | apply jO))
 all_goals (simp only[X7])
 all_goals first
  | (rw[decide_eq_true (show cntE e≤24 by omega),decide_eq_true (show dpE e≤6 by omega)];rfl)
  | (rw[decide_eq_false (show ¬cntE e≤24 by omega)];rfl)
  | (rw[decide_eq_false (show ¬dpE e≤6 by omega),Bool.and_false];rfl)
theorem w136 (l:List Int) (x:Int):Pu 136 [IS l,I x] (· = I (Zu (fun y=>decide (y=x)) l)):=by
 refine GCalls.lenA fun hl=> ?_
 have hlen:=hl.1.1
 simp only[List.length_map,Zn] at hlen
 refine Z5 mxd i136 rfl (by simp) ?_;refine X0 ?_
 refine ZL mxd (ι:={ i:Nat // i≤l.length∧∀y∈l.take i,decide (y=x)=false }) (fun i=>[(0,IS l),(1,I x),(7,I l.length),(8,I i.1)]) (fun _ => []) (fun i=>l.length-i.1) ⟨0,by simp⟩ (by simp[E2]) rfl ?_
 rintro ⟨i,hi,hn⟩
 (refine R0 ?_;with_reducible repeat' first|intro h|apply jO)
 ·subst h
  rw[YT (p:=fun y=>decide (y=l[i])) (by assumption) (by simp) hn]
 ·exact nx ⟨i+1,oT,ZA (by assumption) (by simpa[eq_comm] using h) hn⟩ (by simp;omega) (by simp[E2]) rfl
 ·have:i=l.length:=by omega
  subst this
  rw[tL (Nat.le_refl _)] at hn
  rw[YV hn]
theorem w89 (l:List Int) (x:Int):Pu 89 [IS l,I x] (· = B (decide (0≤Zu (fun y=>decide (y=x)) l))):=by
 refine Z5 mxd i89 rfl (by simp) ?_;refine X0 ?_
 (with_reducible repeat' first|refine callS.eq (w136 l x) ?_|exact trivial|refine aO ?_|refine eO ?_|apply jO|refine K0 ?_|intro h)
end Go.Proofs.YtknbnefbgpnkgaaGreat
