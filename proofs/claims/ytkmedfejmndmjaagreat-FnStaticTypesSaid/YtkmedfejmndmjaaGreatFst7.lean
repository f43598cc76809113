/- The law FnStaticTypes returns true whatever the input, and the input reads behind the call as before. No condition. -/
import Derived.Test.YtkmedfejmndmjaaGreatFst5
import Derived.Test.YtkmedfejmndmjaaGreatFst6
set_option maxHeartbeats 40000000
set_option maxRecDepth 20000
set_option linter.unusedSimpArgs false
set_option linter.unusedVariables false
namespace Go.Proofs.YtkmedfejmndmjaaGreat
open Go.Gh
open Nat (reduceEqDiff reduceLeDiff reduceAdd reduceLT)
open Int (reduceNe)
theorem w229 (e:Exp) (hl:e.args.length≤1048576) (ho:okE e):Pu 229 [Ex e] (· = B (Yr e)):=by
 obtain ⟨hs,hm,_⟩:=okE_eq.1 ho
 have hk:e.kind=1∨e.kind=2∨e.kind=3∨e.kind=4∨e.kind=5∨e.kind=6∨e.kind=7∨e.kind=8∨(¬(1≤e.kind∧e.kind≤8)):=by omega
 rcases hk with hk|hk|hk|hk|hk|hk|hk|hk|hk
 all_goals
  refine Z5 mxd i229 rfl (by simp) ?_;refine X0 ?_
  (repeat' (first|(with_reducible refine callS.eq (w44 _ _ _) ?_)|(with_reducible refine callS.eq (w250 e hl) ?_)|(with_reducible refine callS.eq (w27 _ _) ?_)|(with_reducible refine callS.eq (w209 _ hs) ?_)|(with_reducible refine callS.eq (w209 _ hm) ?_)|simp (maxSteps:=9^7) only[↓ S2,S2,ZF,↓reduceIte,reduceNe,reduceEqDiff,reduceCtorEq,reduceLeDiff,reduceAdd,reduceLT,XE,hk]|simp only[ZQ]|simp +contextual (disch:=omega) only[Z2]|with_reducible first|intro h|refine jO oT ?_ | refine exP oT ?_ | apply jO))
  all_goals try exact oF
  all_goals first
   | (simp_all [Yr];done)
   | (simp_all [Yr];intros;omega)
   | (congr 2;rw[Bool.eq_iff_iff];simp[Yr,hk, *];done)
theorem w196:∀e:Exp,okE e→wEx e≤1048576→Pu 196 [Ex e] (· = B (allE Yr e)):=by
 refine Exp.indA fun e ih ho hw=> ?_
 obtain ⟨hl,ha⟩:=YT hw
 obtain ⟨_,_,hoa⟩:=okE_eq.1 ho
 refine Z5 mxd i196 rfl (by simp) ?_;refine X0 ?_
 simp (maxSteps:=9^7) only[↓ S2,S2,ZF,↓reduceIte,reduceNe,reduceEqDiff,reduceCtorEq,reduceLeDiff,reduceAdd,reduceLT,XE]
 refine ZL mxd (ι:={ i:Nat // i≤e.args.length∧∀a∈e.args.take i,allE Yr a=true }) (fun i=>[(1,.rop 7 (Ex e)),(3,I i.1)]) (fun _ => []) (fun i=>e.args.length-i.1) ⟨0,by simp⟩ (by simp[E2]) rfl ?_
 rintro ⟨i,hi,hn⟩
 rcases nL i e.args.length with hlt|hge
 ·(repeat' (first|(with_reducible refine callS.eq (ih _ (gM hlt) (hoa _ (gM hlt)) (ha _ (gM hlt))) ?_)|simp (maxSteps:=9^7) only[↓ S2,S2,ZF,↓reduceIte,reduceNe,reduceEqDiff,reduceCtorEq,reduceLeDiff,reduceAdd,reduceLT,XE]|simp only[ZQ]|simp +contextual (disch:=omega) only[Z2]|with_reducible first|intro h|refine jO oT ?_ | refine exP oT ?_ | apply jO))
  all_goals try exact oF
  ·exact nx ⟨i+1,oT,all_take hlt (by assumption) hn⟩ (by simp;omega) (by simp[E2]) rfl
  ·rw[allE_no hlt (by assumption)]
 ·have:i=e.args.length:=by omega
  subst this
  rw[tL (Nat.le_refl _)] at hn
  rw[allE_yes hn]
  (repeat' (first|(with_reducible refine callS.eq (w229 e hl ho) ?_)|simp (maxSteps:=9^7) only[↓ S2,S2,ZF,↓reduceIte,reduceNe,reduceEqDiff,reduceCtorEq,reduceLeDiff,reduceAdd,reduceLT,XE]|simp only[ZQ]|simp +contextual (disch:=omega) only[Z2]|with_reducible first|intro h|refine jO oT ?_ | refine exP oT ?_ | apply jO))
theorem w128 (e:Exp) (ho:okE e) (hw:wEx e≤1048576):Pu 128 [Ex e] (· = B (validE e)):=by
 have hc:=cntE_le e
 have hd:=dpE_le e
 refine Z5 mxd i128 rfl (by simp) ?_;refine X0 ?_
 (repeat' (first|(with_reducible refine callS.eq (w194 e hw _ oT oT) ?_)|(with_reducible refine callS.eq (w195 e hw) ?_)|(with_reducible refine callS.eq (w196 e ho hw) ?_)|simp (maxSteps:=9^7) only[↓ S2,S2,ZF,↓reduceIte,reduceNe,reduceEqDiff,reduceCtorEq,reduceLeDiff,reduceAdd,reduceLT,XE]|simp only[ZQ]|simp +contextual (disch:=omega) only[Z2]|with_reducible first|intro h|refine jO oT ?_ | refine exP oT ?_ | apply jO))
 all_goals (simp only[validE])
 all_goals first
  | (rw[decide_eq_true (show cntE e≤24 by omega),decide_eq_true (show dpE e≤6 by omega)];rfl)
  | (rw[decide_eq_false (show ¬cntE e≤24 by omega)];rfl)
  | (rw[decide_eq_false (show ¬dpE e≤6 by omega),Bool.and_false];rfl)
theorem Tryz.dec_j {p:Prop} {i:Decidable p}:(@decide p i=true)=p:=propext ⟨of_decide_eq_true,decide_eq_true⟩
theorem w225 (e : Exp) (hl : e.args.length ≤ 1048576) (ho : okE e) : Pu 225 [Ex e] (· = B (Yr e)) := by
  obtain ⟨hs, hm, _⟩ := okE_eq.1 ho
  refine Pure.bor ?_
  have hl1 : ((e.args.length : Int) = 1) = (e.args.length = 1) := propext oT
  have hl2 : ((e.args.length : Int) = 2) = (e.args.length = 2) := propext oT
  have hl3 : ((e.args.length : Int) = 3) = (e.args.length = 3) := propext oT
  have hk : e.kind = 1 ∨ e.kind = 2 ∨ e.kind = 3 ∨ e.kind = 4 ∨ e.kind = 5 ∨ e.kind = 6 ∨ e.kind = 7 ∨ e.kind = 8 ∨ (¬ e.kind = 1 ∧ ¬ e.kind = 2 ∧ ¬ e.kind = 3 ∧ ¬ e.kind = 4 ∧ ¬ e.kind = 5 ∧ ¬ e.kind = 6 ∧ ¬ e.kind = 7 ∧ ¬ e.kind = 8) := by omega
  rcases hk with hk | hk | hk | hk | hk | hk | hk | hk | hk
  all_goals
    refine Z5 mxd i225 rfl (by simp) ?_; refine X0 ?_
    (repeat' (first | (with_reducible refine callS.eq (w47 _ _ _) ?_) | (with_reducible refine callS.eq (w244 _ _) ?_) | (with_reducible refine callS.eq (w199 _ hs) ?_) | (with_reducible refine callS.eq (w199 _ hm) ?_) | (with_reducible refine callS.eq (w245 e _ _ _ _ _ _ _) ?_) | simp (maxSteps := 9^7) only [↓ S2, S2, ZF, ↓reduceIte, reduceNe, reduceEqDiff, reduceCtorEq, reduceLeDiff, reduceAdd, reduceLT, XE, hk] | simp only [ZQ] | simp +contextual (disch := omega) only [Z2] | with_reducible first | intro h | refine jO oT ?_ | refine exP oT ?_ | apply jO))
    all_goals try exact oF
    all_goals refine .of_eq ?_
    all_goals first
      | (simp_all [Yr, bareV, arity, noS_eq]; done)
      | (simp_all [Yr, bareV, arity, noS_eq]; intros; omega)
      | (have hr := okV_rng (show okV e.n e.type = true by assumption)
         congr 2
         rw [Bool.eq_iff_iff]
         try simp only [Bool.and_eq_true, Tryz.dec_j]
         try simp only [noS_eq]
         simp [Yr, bareV, arity, hk]
         try (constructor <;> intro hh <;> (try simp_all) <;> (try omega)))
      | (congr 2
         rw [Bool.eq_iff_iff]
         try simp only [Bool.and_eq_true, Tryz.dec_j]
         try simp only [noS_eq]
         simp [Yr, bareV, arity, hk]
         try (constructor <;> intro hh <;> (try simp_all) <;> (try omega)))
theorem w176 (e:Exp) (ho:okE e) (hw:wEx e≤1048576):Pu 176 [Ex e] (· = B (validE e)):=by
 have hc:=cntE_le e
 have hd:=dpE_le e
 have hev:=w158 225 [] Yr (fun e=>okE e∧wEx e≤1048576) (fun e h a ha=>⟨(okE_eq.1 h.1).2.2 a ha,(YT h.2).2 a ha⟩) (fun x h=>w225 x (YT h.2).1 h.1) e ⟨ho,hw⟩
 refine Z5 mxd i176 rfl (by simp) ?_;refine X0 ?_
 (repeat' (first|(with_reducible refine callS.eq (w223 e hw) ?_)|(with_reducible refine callS.eq (w224 e hw) ?_)|(with_reducible refine callS.eq (hev) ?_)|simp (maxSteps:=9^7) only[↓ S2,S2,ZF,↓reduceIte,reduceNe,reduceEqDiff,reduceCtorEq,reduceLeDiff,reduceAdd,reduceLT,XE]|simp only[ZQ]|simp +contextual (disch:=omega) only[Z2]|with_reducible first|intro h|refine jO oT ?_ | refine exP oT ?_ | apply jO))
 all_goals (simp only[validE])
 all_goals first
  | (rw[decide_eq_true (show cntE e≤24 by omega),decide_eq_true (show dpE e≤6 by omega)];rfl)
  | (rw[decide_eq_false (show ¬cntE e≤24 by omega)];rfl)
  | (rw[decide_eq_false (show ¬dpE e≤6 by omega),Bool.and_false];rfl)
theorem w168 (l:List Int) (x:Int):Pu 168 [IS l,I x] (· = I (Zt (fun y=>decide (y=x)) l)):=by
 refine GCalls.lenA fun hl=> ?_
 have hlen:=hl.1.1
 simp only[List.length_map,Zc] at hlen
 refine Z5 mxd i168 rfl (by simp) ?_;refine X0 ?_
 refine ZL mxd (ι:={ i:Nat // i≤l.length∧∀y∈l.take i,decide (y=x)=false }) (fun i=>[(0,IS l),(1,I x),(7,I l.length),(8,I i.1)]) (fun _ => []) (fun i=>l.length-i.1) ⟨0,by simp⟩ (by simp[E2]) rfl ?_
 rintro ⟨i,hi,hn⟩
 (refine R0 ?_;with_reducible repeat' first|intro h|apply jO)
 ·subst h
  rw[YP (p:=fun y=>decide (y=l[i])) (by assumption) (by simp) hn]
 ·exact nx ⟨i+1,oT,Zn (by assumption) (by simpa[eq_comm] using h) hn⟩ (by simp;omega) (by simp[E2]) rfl
 ·have:i=l.length:=by omega
  subst this
  rw[tL (Nat.le_refl _)] at hn
  rw[YO hn]
theorem w105 (l:List Int) (x:Int):Pu 105 [IS l,I x] (· = B (decide (0≤Zt (fun y=>decide (y=x)) l))):=by
 refine Z5 mxd i105 rfl (by simp) ?_;refine X0 ?_
 (with_reducible repeat' first|refine callS.eq (w168 l x) ?_|exact trivial|refine aO ?_|refine eO ?_|apply jO|refine K0 ?_|intro h)
end Go.Proofs.YtkmedfejmndmjaaGreat
