/- The tied card of the law holds. No condition. -/
import Derived.Test.YtcegkonjphbfaaaGreatDoorPru2
set_option maxHeartbeats 40000000
set_option maxRecDepth 20000
set_option linter.unusedSimpArgs false
set_option linter.unusedVariables false
namespace Go.Proofs.YtcegkonjphbfaaaGreatDoor
open Go.Gh
open Nat (reduceEqDiff reduceLeDiff reduceAdd reduceLT)
open Int (reduceNe)
theorem Tryz.dec_i {p:Prop} {i:Decidable p}:(@decide p i=true)=p:=propext ⟨of_decide_eq_true,decide_eq_true⟩
theorem Tryz.chN (s:ByteArray):(Z9 s=Z9 (⟨#[]⟩:ByteArray))=(s=noS):=propext chars_inj
theorem w180 (e:Exp) (hl:e.args.length≤1048576):Pu 180 [Ex e] (· = B (bareV e)):=by
 have hk:e.kind=1∨e.kind=3∨e.kind=4∨e.kind=5∨e.kind=6∨e.kind=8∨(¬e.kind=1∧¬e.kind=3∧¬e.kind=4∧¬e.kind=5∧¬e.kind=6∧¬e.kind=8):=by omega
 have hl0:((e.args.length:Int)=0)=(e.args.length=0):=propext (by omega)
 have hl1:((e.args.length:Int)=1)=(e.args.length=1):=propext (by omega)
 have hl2:((e.args.length:Int)=2)=(e.args.length=2):=propext (by omega)
 have hl3:((e.args.length:Int)=3)=(e.args.length=3):=propext (by omega)
 rcases hk with hk|hk|hk|hk|hk|hk|⟨hk1,hk3,hk4,hk5,hk6,hk8⟩
 all_goals
  refine Z8 mxd i180 rfl (by simp) ?_;refine X0 ?_
  first|simp (maxSteps:=9^7) only[↓ S2,S2,Yt,↓reduceIte,reduceNe,reduceEqDiff,reduceCtorEq,reduceLeDiff,reduceAdd,reduceLT,XE,hk,Int.reduceEq,decide_false,decide_true,hl0,hl1,hl2,hl3]|simp (maxSteps:=9^7) only[↓ S2,S2,Yt,↓reduceIte,reduceNe,reduceEqDiff,reduceCtorEq,reduceLeDiff,reduceAdd,reduceLT,XE,hk1,hk3,hk4,hk5,hk6,hk8,Int.reduceEq,decide_false,decide_true,hl0,hl1,hl2,hl3]
  try simp only[Tryz.chN]
  clear hl0 hl1 hl2 hl3
  (with_reducible repeat' (first|intro h|refine And.intro (by omega) ?_ | refine exP (by omega) ?_ | apply And.intro))
  all_goals
   congr 2
   rw[Bool.eq_iff_iff]
   simp[bareV,arity,Tryz.dec_i, *]
theorem w151 (e:Exp) (hl:e.args.length≤1048576) (ho:okE e):Pu 151 [Ex e] (· = B (YO e)):=by
 obtain ⟨hs,hm,_⟩:=okE_eq.1 ho
 have hk:e.kind=1∨e.kind=2∨e.kind=3∨e.kind=4∨e.kind=5∨e.kind=6∨e.kind=7∨e.kind=8∨(¬(1≤e.kind∧e.kind≤8)):=by omega
 rcases hk with hk|hk|hk|hk|hk|hk|hk|hk|hk
 all_goals
  refine Z8 mxd i151 rfl (by simp) ?_;refine X0 ?_
  (repeat' (first|(with_reducible refine callS.eq (w72 _ _ _) ?_)|(with_reducible refine callS.eq (w180 e hl) ?_)|(with_reducible refine callS.eq (w152 _ _) ?_)|(with_reducible refine callS.eq (w71 _ hs) ?_)|(with_reducible refine callS.eq (w71 _ hm) ?_)|simp (maxSteps:=9^7) only[↓ S2,S2,Yt,↓reduceIte,reduceNe,reduceEqDiff,reduceCtorEq,reduceLeDiff,reduceAdd,reduceLT,XE,hk]|simp only[YD]|simp +contextual (disch:=omega) only[Z2]|with_reducible first|intro h|refine And.intro (by omega) ?_ | refine exP (by omega) ?_ | apply And.intro))
  all_goals try exact oF
  all_goals first
   | (simp_all [YO];done)
   | (simp_all [YO];intros;omega)
   | (congr 2;rw[Bool.eq_iff_iff];simp[YO,hk, *];done)
theorem w118:∀e:Exp,okE e→wEx e≤1048576→Pu 118 [Ex e] (· = B (YM YO e)):=by
 refine Exp.indA fun e ih ho hw=> ?_
 obtain ⟨hl,ha⟩:=X5 hw
 obtain ⟨_,_,hoa⟩:=okE_eq.1 ho
 refine Z8 mxd i118 rfl (by simp) ?_;refine X0 ?_
 simp (maxSteps:=9^7) only[↓ S2,S2,Yt,↓reduceIte,reduceNe,reduceEqDiff,reduceCtorEq,reduceLeDiff,reduceAdd,reduceLT,XE]
 refine Y3 mxd (ι:={ i:Nat // i≤e.args.length∧∀a∈e.args.take i,YM YO a=true }) (fun i=>[(1,.rop 7 (Ex e)),(3,I i.1)]) (fun _ => []) (fun i=>e.args.length-i.1) ⟨0,by simp⟩ (by simp[E2]) rfl ?_
 rintro ⟨i,hi,hn⟩
 rcases nL i e.args.length with hlt|hge
 ·(repeat' (first|(with_reducible refine callS.eq (ih _ (gM hlt) (hoa _ (gM hlt)) (ha _ (gM hlt))) ?_)|simp (maxSteps:=9^7) only[↓ S2,S2,Yt,↓reduceIte,reduceNe,reduceEqDiff,reduceCtorEq,reduceLeDiff,reduceAdd,reduceLT,XE]|simp only[YD]|simp +contextual (disch:=omega) only[Z2]|with_reducible first|intro h|refine And.intro (by omega) ?_ | refine exP (by omega) ?_ | apply And.intro))
  all_goals try exact oF
  ·exact nx ⟨i+1,by omega,all_take hlt (by assumption) hn⟩ (by simp;omega) (by simp[E2]) rfl
  ·rw[allE_no hlt (by assumption)]
 ·have:i=e.args.length:=by omega
  subst this
  rw[tL (Nat.le_refl _)] at hn
  rw[allE_yes hn]
  (repeat' (first|(with_reducible refine callS.eq (w151 e hl ho) ?_)|simp (maxSteps:=9^7) only[↓ S2,S2,Yt,↓reduceIte,reduceNe,reduceEqDiff,reduceCtorEq,reduceLeDiff,reduceAdd,reduceLT,XE]|simp only[YD]|simp +contextual (disch:=omega) only[Z2]|with_reducible first|intro h|refine And.intro (by omega) ?_ | refine exP (by omega) ?_ | apply And.intro))
theorem w74 (e:Exp) (ho:okE e) (hw:wEx e≤1048576):Pu 74 [Ex e] (· = B (Zf e)):=by
 have hc:=cntE_le e
 have hd:=dpE_le e
 refine Z8 mxd i74 rfl (by simp) ?_;refine X0 ?_
 (repeat' (first|(with_reducible refine callS.eq (w116 e hw _ (by omega) (by omega)) ?_)|(with_reducible refine callS.eq (w117 e hw) ?_)|(with_reducible refine callS.eq (w118 e ho hw) ?_)|simp (maxSteps:=9^7) only[↓ S2,S2,Yt,↓reduceIte,reduceNe,reduceEqDiff,reduceCtorEq,reduceLeDiff,reduceAdd,reduceLT,XE]|simp only[YD]|simp +contextual (disch:=omega) only[Z2]|with_reducible first|intro h|refine And.intro (by omega) ?_ | refine exP (by omega) ?_ | apply And.intro))
 all_goals (simp only[Zf])
 all_goals first
  | (rw[decide_eq_true (show Zh e≤24 by omega),decide_eq_true (show dpE e≤6 by omega)];rfl)
  | (rw[decide_eq_false (show ¬Zh e≤24 by omega)];rfl)
  | (rw[decide_eq_false (show ¬dpE e≤6 by omega),Bool.and_false];rfl)
theorem Tryz.dec_j {p:Prop} {i:Decidable p}:(@decide p i=true)=p:=propext ⟨of_decide_eq_true,decide_eq_true⟩
theorem w127 (e : Exp) (hl : e.args.length ≤ 1048576) (ho : okE e) : Pu 127 [Ex e] (· = B (YO e)) := by
  obtain ⟨hs, hm, _⟩ := okE_eq.1 ho
  refine Pure.bor ?_
  have hl1 : ((e.args.length : Int) = 1) = (e.args.length = 1) := propext (by omega)
  have hl2 : ((e.args.length : Int) = 2) = (e.args.length = 2) := propext (by omega)
  have hl3 : ((e.args.length : Int) = 3) = (e.args.length = 3) := propext (by omega)
  have hk : e.kind = 1 ∨ e.kind = 2 ∨ e.kind = 3 ∨ e.kind = 4 ∨ e.kind = 5 ∨ e.kind = 6 ∨ e.kind = 7 ∨ e.kind = 8 ∨ (¬ e.kind = 1 ∧ ¬ e.kind = 2 ∧ ¬ e.kind = 3 ∧ ¬ e.kind = 4 ∧ ¬ e.kind = 5 ∧ ¬ e.kind = 6 ∧ ¬ e.kind = 7 ∧ ¬ e.kind = 8) := by omega
  rcases hk with hk | hk | hk | hk | hk | hk | hk | hk | hk
  all_goals
    refine Z8 mxd i127 rfl (by simp) ?_; refine X0 ?_
    (repeat' (first | (with_reducible refine callS.eq (w46 _ _ _) ?_) | (with_reducible refine callS.eq (w100 _ _) ?_) | (with_reducible refine callS.eq (w44 _ hs) ?_) | (with_reducible refine callS.eq (w44 _ hm) ?_) | (with_reducible refine callS.eq (w80 e _ _ _ _ _ _ _) ?_) | simp (maxSteps := 9^7) only [↓ S2, S2, Yt, ↓reduceIte, reduceNe, reduceEqDiff, reduceCtorEq, reduceLeDiff, reduceAdd, reduceLT, XE, hk] | simp only [YD] | simp +contextual (disch := omega) only [Z2] | with_reducible first | intro h | refine And.intro (by omega) ?_ | refine exP (by omega) ?_ | apply And.intro))
    all_goals try exact oF
    all_goals refine .of_eq ?_
    all_goals first
      | (simp_all [YO, bareV, arity, noS_eq]; done)
      | (simp_all [YO, bareV, arity, noS_eq]; intros; omega)
      | (have hr := okV_rng (show okV e.n e.type = true by assumption)
         congr 2
         rw [Bool.eq_iff_iff]
         try simp only [Bool.and_eq_true, Tryz.dec_j]
         try simp only [noS_eq]
         simp [YO, bareV, arity, hk]
         try (constructor <;> intro hh <;> (try simp_all) <;> (try omega)))
      | (congr 2
         rw [Bool.eq_iff_iff]
         try simp only [Bool.and_eq_true, Tryz.dec_j]
         try simp only [noS_eq]
         simp [YO, bareV, arity, hk]
         try (constructor <;> intro hh <;> (try simp_all) <;> (try omega)))
theorem w85 (e:Exp) (ho:okE e) (hw:wEx e≤1048576):Pu 85 [Ex e] (· = B (Zf e)):=by
 have hc:=cntE_le e
 have hd:=dpE_le e
 have hev:=w86 127 [] YO (fun e=>okE e∧wEx e≤1048576) (fun e h a ha=>⟨(okE_eq.1 h.1).2.2 a ha,(X5 h.2).2 a ha⟩) (fun x h=>w127 x (X5 h.2).1 h.1) e ⟨ho,hw⟩
 refine Z8 mxd i85 rfl (by simp) ?_;refine X0 ?_
 (repeat' (first|(with_reducible refine callS.eq (w125 e hw) ?_)|(with_reducible refine callS.eq (w126 e hw) ?_)|(with_reducible refine callS.eq (hev) ?_)|simp (maxSteps:=9^7) only[↓ S2,S2,Yt,↓reduceIte,reduceNe,reduceEqDiff,reduceCtorEq,reduceLeDiff,reduceAdd,reduceLT,XE]|simp only[YD]|simp +contextual (disch:=omega) only[Z2]|with_reducible first|intro h|refine And.intro (by omega) ?_ | refine exP (by omega) ?_ | apply And.intro))
 all_goals (simp only[Zf])
 all_goals first
  | (rw[decide_eq_true (show Zh e≤24 by omega),decide_eq_true (show dpE e≤6 by omega)];rfl)
  | (rw[decide_eq_false (show ¬Zh e≤24 by omega)];rfl)
  | (rw[decide_eq_false (show ¬dpE e≤6 by omega),Bool.and_false];rfl)
end Go.Proofs.YtcegkonjphbfaaaGreatDoor
namespace Go.Proofs.YtcegkonjphbfaaaGreatDoor
open Go.Gh
open Nat (reduceEqDiff reduceLeDiff reduceAdd reduceLT)
open Int (reduceNe)
end Go.Proofs.YtcegkonjphbfaaaGreatDoor
namespace Go.Proofs.YtcegkonjphbfaaaGreatDoor
open Go.Gh
open Nat (reduceEqDiff reduceLeDiff reduceAdd reduceLT)
open Int (reduceNe)
end Go.Proofs.YtcegkonjphbfaaaGreatDoor
namespace Go.Proofs.YtcegkonjphbfaaaGreatDoor
open Go.Gh
open Nat (reduceEqDiff reduceLeDiff reduceAdd reduceLT)
open Int (reduceNe)
end Go.Proofs.YtcegkonjphbfaaaGreatDoor
namespace Go.Proofs.YtcegkonjphbfaaaGreatDoor
open Go.Gh
open Nat (reduceEqDiff reduceLeDiff reduceAdd reduceLT)
open Int (reduceNe)
end Go.Proofs.YtcegkonjphbfaaaGreatDoor
namespace Go.Proofs.YtcegkonjphbfaaaGreatDoor
open Go.Gh
open Nat (reduceEqDiff reduceLeDiff reduceAdd reduceLT)
open Int (reduceNe)
end Go.Proofs.YtcegkonjphbfaaaGreatDoor
namespace Go.Proofs.YtcegkonjphbfaaaGreatDoor
open Go.Gh
open Nat (reduceEqDiff reduceLeDiff reduceAdd reduceLT)
open Int (reduceNe)
theorem w87 (e:Exp) (n:Int):Pu 87 [Ex e,.rop 1 (I n)] (· = B (decide (e.pos≤n))):=by
 refine Z8 mxd i87 rfl (by simp) ?_;refine X0 ?_
 (refine V1 @XE ?_;with_reducible repeat' exact trivial)
theorem w45 (e:Exp) (n:Int) (ho:okE e) (hw:wEx e≤1048576):Pu 45 [Ex e,I n] (· = B (fitE e n)):=by
 refine Z8 mxd i45 rfl (by simp) ?_;refine X0 ?_
 (refine V1 @XE ?_)
 refine callS.eq (w85 e ho hw) ?_
 rcases bC (Zf e) with hv|hv
 ·(refine V1 (jO @XE hv) ?_)
  all_goals simp[fitE,hv]
 ·(refine V1 (jO @XE hv) ?_)
  refine callS.eq (w86 87 [.rop 1 (I n)] (fun x=>decide (x.pos≤n)) (fun _ => True) (fun _ _ _ _ => trivial) (fun x _ => w87 x n) e trivial) ?_
  (refine V0 ?_)
  all_goals simp[fitE,hv]
theorem w115:∀(e:Exp) (n:Int),wEx e≤1048576→Pu 115 [Ex e,I n] (· = B (YM (fun x=>decide (x.pos≤n)) e)):=by
 refine Exp.indA fun e ih n hw=> ?_
 obtain ⟨hl,ha⟩:=X5 hw
 refine Z8 mxd i115 rfl (by simp) ?_;refine X0 ?_
 (refine V1 @XE ?_)
 refine Y3 mxd (ι:={ i:Nat // i≤e.args.length∧∀a∈e.args.take i,YM (fun x=>decide (x.pos≤n)) a=true }) (fun i=>[(1,I n),(2,.rop 7 (Ex e)),(5,I i.1)]) (fun _ => []) (fun i=>e.args.length-i.1) ⟨0,by simp⟩ (by simp[E2]) rfl ?_
 rintro ⟨i,hi,hn⟩
 rcases nL i e.args.length with hlt|hge
 ·(refine V1 @XE ?_;with_reducible repeat' first|intro h|apply jO)
  all_goals try exact oF
  refine callS.eq (ih _ (gM hlt) n (ha _ (gM hlt))) ?_
  rcases (Bool.eq_false_or_eq_true (YM (fun x=>decide (x.pos≤n)) e.args[i])).symm with hv|hv
  ·rw[allE_no hlt hv]
   (refine V1 hv ?_;with_reducible repeat' exact trivial)
  ·(refine V1 hv ?_)
   exact nx ⟨i+1,by omega,all_take hlt hv hn⟩ (by simp<;>omega) (by simp[E2]) rfl
 ·obtain rfl:i=e.args.length:=by omega
  rw[List.take_length] at hn
  rw[allE_yes hn]
  (refine V1 @XE ?_;with_reducible repeat' intro h)
  all_goals try exact oF
theorem w73 (e:Exp) (n:Int) (ho:okE e) (hw:wEx e≤1048576):Pu 73 [Ex e,I n] (· = B (fitE e n)):=by
 refine Z8 mxd i73 rfl (by simp) ?_;refine X0 ?_
 (refine V1 @XE ?_)
 refine callS.eq (w74 e ho hw) ?_
 rcases bC (Zf e) with hv|hv
 ·(refine V1 (jO @XE hv) ?_)
  all_goals simp[fitE,hv]
 ·(refine V1 (jO @XE hv) ?_)
  refine callS.eq (w115 e n hw) ?_
  (refine V0 ?_)
  all_goals simp[fitE,hv]
theorem w13 (r:Rul) (hs:okRu r) (hm:smRu r):Pu 13 [Ru r] (· = B (Y1 r)):=by
 obtain ⟨m1,m2,m3,m4,m5⟩:=hm
 obtain ⟨k1,k2,k3,k4,k5⟩:=hs
 refine Z8 mxd i13 rfl (by simp) ?_;refine X0 ?_
 (refine V0 ?_)
 by_cases hh:ZO r.name=true∧ZO r.left=true∧r.right.length≤3∧r.cons.length≤2
 ·obtain ⟨h1,h2,h3,h4⟩:=id hh
  have h3':¬(3:Int)<r.right.length:=by omega
  have h4':¬(2:Int)<r.cons.length:=by omega
  (with_reducible repeat' first|refine callS.eq (w44 _ k1) ?_|refine callS.eq (w44 _ k2) ?_|exact trivial|refine aO ?_|refine eO ?_|apply jO|refine K1 (jO h1 (jO h2 (jO h3' (jO h4' (jO @gt_iff_lt.{0} @decide_false))))) ?_|intro h)
  refine Y3 mxd (ι:={ i:Nat // i≤r.right.length∧∀a∈r.right.take i,ZO a=true }) (fun i=>[(1,.rop 6 (Ru r)),(3,I r.right.length),(34,TS r.right),(35,I r.right.length),(36,I i.1)]) (fun _ => []) (fun i=>r.right.length-i.1) ⟨0,by simp⟩ (by simp[E2]) rfl ?_
  rintro ⟨i,hi,hn⟩
  rcases nL i r.right.length with hlt|hge
  ·(refine V0 ?_;with_reducible repeat' first|intro h|apply jO)
   all_goals try exact oF
   refine callS.eq (w44 _ (k3 _ (gM hlt))) ?_
   rcases bC (ZO r.right[i]) with hv|hv
   ·rw[rulV_r hlt hv]
    (refine V1 hv ?_;with_reducible repeat' exact trivial)
   ·(refine V1 hv ?_)
    exact nx ⟨i+1,by omega,takeP_step hlt hv hn⟩ (by simp<;>omega) (by simp[E2]) rfl
  ·obtain rfl:i=r.right.length:=by omega
   rw[List.take_length] at hn
   (refine V0 ?_;with_reducible repeat' intro h)
   all_goals try exact oF
   refine Y3 mxd (ι:={ i:Nat // i≤r.eqs.length∧∀a∈r.eqs.take i,eqnV r.right.length a=true }) (fun i=>[(1,.rop 6 (Ru r)),(3,I r.right.length),(45,QnS r.eqs),(46,I r.eqs.length),(47,I i.1)]) (fun _ => []) (fun i=>r.eqs.length-i.1) ⟨0,by simp⟩ (by simp[E2]) rfl ?_
   rintro ⟨i,hi,hn2⟩
   rcases nL i r.eqs.length with hlt|hge
   ·have hq:=k4 _ (gM hlt)
    have hw:=m4 _ (gM hlt)
    (refine V1 @XE ?_;with_reducible repeat' first|intro h|apply jO)
    all_goals try exact oF
    refine callS.eq (w45 r.eqs[i].expr r.right.length hq.2 hw) ?_
    have hb:eqnV r.right.length r.eqs[i]=false→Y1 r=false:=rulV_e hlt
    rcases bC (fitE r.eqs[i].expr r.right.length) with hv|hv
    ·rw[hb (by simp only[eqnV,hv,Bool.false_and])]
     (refine V1 hv ?_;with_reducible repeat' exact trivial)
    ·(refine V1 (jO hv @XE) ?_)
     refine callS.eq (w44 _ hq.1) ?_
     rcases bC (ZO r.eqs[i].name) with hu|hu
     ·rw[hb (by simp only[eqnV,hv,hu,Bool.false_and,Bool.and_false])]
      (refine V1 hu ?_;with_reducible repeat' exact trivial)
     ·(refine V1 (jO hu @XE) ?_)
      refine callS.eq (w46 _ _ _) ?_
      by_cases hp:0≤r.eqs[i].pos ∧ r.eqs[i].pos ≤ r.right.length
      ·(refine V1 (jO hp (jO @and_self @decide_true)) ?_)
       exact nx ⟨i+1,by omega,takeP_step hlt (by simp only[eqnV,hv,hu,decide_eq_true hp,Bool.true_and]) hn2⟩ (by simp<;>omega) (by simp[E2]) rfl
      ·rw[hb (by simp only[eqnV,hv,hu,decide_eq_false hp,Bool.and_false])]
       (refine V1 (jO hp @decide_false) ?_;with_reducible repeat' exact trivial)
   ·obtain rfl:i=r.eqs.length:=by omega
    rw[List.take_length] at hn2
    (refine V0 ?_;with_reducible repeat' intro h)
    all_goals try exact oF
    refine Y3 mxd (ι:={ i:Nat // i≤r.cons.length∧∀a∈r.cons.take i,conV r.right.length a=true }) (fun i=>[(3,I r.right.length),(73,CoS r.cons),(74,I r.cons.length),(75,I i.1)]) (fun _ => []) (fun i=>r.cons.length-i.1) ⟨0,by simp⟩ (by simp[E2]) rfl ?_
    rintro ⟨i,hi,hn3⟩
    rcases nL i r.cons.length with hlt|hge
    ·have hq:=k5 _ (gM hlt)
     have hw:=m5 _ (gM hlt)
     (refine V1 @XE ?_;with_reducible repeat' first|intro h|apply jO)
     all_goals try exact oF
     refine callS.eq (w45 r.cons[i].goal r.right.length hq.2.2.1 hw.1) ?_
     have hb:conV r.right.length r.cons[i]=false→Y1 r=false:=rulV_c hlt
     rcases bC (fitE r.cons[i].goal r.right.length) with hv|hv
     ·rw[hb (by simp only[conV,hv,Bool.false_and])]
      (refine V1 hv ?_;with_reducible repeat' exact trivial)
     ·(refine V1 (jO hv @XE) ?_)
      refine callS.eq (w45 r.cons[i].value r.right.length hq.2.2.2 hw.2) ?_
      rcases bC (fitE r.cons[i].value r.right.length) with hu|hu
      ·rw[hb (by simp only[conV,hv,hu,Bool.false_and,Bool.and_false])]
       (refine V1 hu ?_;with_reducible repeat' exact trivial)
      ·(refine V1 (jO hu @XE) ?_)
       refine callS.eq (w44 _ hq.1) ?_
       rcases bC (ZO r.cons[i].sym) with hx|hx
       ·rw[hb (by simp only[conV,hv,hu,hx,Bool.false_and,Bool.and_false])]
        (refine V1 hx ?_;with_reducible repeat' exact trivial)
       ·(refine V1 (jO hx @XE) ?_)
        refine callS.eq (w44 _ hq.2.1) ?_
        rcases bC (ZO r.cons[i].name) with hy|hy
        ·rw[hb (by simp only[conV,hv,hu,hx,hy,Bool.false_and,Bool.and_false])]
         (refine V1 hy ?_;with_reducible repeat' exact trivial)
        ·(refine V1 hy ?_)
         exact nx ⟨i+1,by omega,takeP_step hlt (by simp only[conV,hv,hu,hx,hy,Bool.true_and]) hn3⟩ (by simp<;>omega) (by simp[E2]) rfl
    ·obtain rfl:i=r.cons.length:=by omega
     rw[List.take_length] at hn3
     rw[rulV_ok hh hn hn2 hn3]
     (refine V0 ?_;with_reducible repeat' intro h)
     all_goals try exact oF
 ·rw[rulV_h hh]
  have h3':((3:Int)<r.right.length)=¬(r.right.length≤3):=propext (by omega)
  have h4':((2:Int)<r.cons.length)=¬(r.cons.length≤2):=propext (by omega)
  by_cases h1:ZO r.name=true
  ·by_cases h2:ZO r.left=true
   ·by_cases h3:r.right.length≤3
    ·have h4:¬r.cons.length≤2:=fun h=>hh ⟨h1,h2,h3,h⟩
     (with_reducible repeat' first|refine callS.eq (w44 _ k1) ?_|refine callS.eq (w44 _ k2) ?_|exact trivial|refine aO ?_|refine eO ?_|apply jO|refine K1 (jO h1 (jO h2 (jO h3' (jO h4' (jO h3 (jO h4 (jO @gt_iff_lt.{0} (jO @decide_true (jO @decide_false (jO @not_true @not_false_eq_true)))))))))) ?_|intro h)
    ·(with_reducible repeat' first|refine callS.eq (w44 _ k1) ?_|refine callS.eq (w44 _ k2) ?_|exact trivial|refine aO ?_|refine eO ?_|apply jO|refine K1 (jO h1 (jO h2 (jO h3' (jO h3 (jO @gt_iff_lt.{0} (jO @decide_true (jO @decide_false (jO @not_true @not_false_eq_true)))))))) ?_|intro h)
   ·have h2':ZO r.left=false:=by simpa using h2
    (with_reducible repeat' first|refine callS.eq (w44 _ k1) ?_|refine callS.eq (w44 _ k2) ?_|exact trivial|refine aO ?_|refine eO ?_|apply jO|refine K1 (jO h1 h2') ?_|intro h)
  ·have h1':ZO r.name=false:=by simpa using h1
   (with_reducible repeat' first|refine callS.eq (w44 _ k1) ?_|refine callS.eq (w44 _ k2) ?_|exact trivial|refine aO ?_|refine eO ?_|apply jO|refine K1 h1' ?_|intro h)
theorem w32 (r:Rul) (hs:okRu r) (hm:smRu r):Pu 32 [Ru r] (· = B (Y1 r)):=by
 obtain ⟨m1,m2,m3,m4,m5⟩:=hm
 obtain ⟨k1,k2,k3,k4,k5⟩:=hs
 refine Z8 mxd i32 rfl (by simp) ?_;refine X0 ?_
 (refine V0 ?_)
 by_cases hh:ZO r.name=true∧ZO r.left=true∧r.right.length≤3∧r.cons.length≤2
 ·obtain ⟨h1,h2,h3,h4⟩:=id hh
  have h3':¬(3:Int)<r.right.length:=by omega
  have h4':¬(2:Int)<r.cons.length:=by omega
  (with_reducible repeat' first|refine callS.eq (w71 _ k1) ?_|refine callS.eq (w71 _ k2) ?_|exact trivial|refine aO ?_|refine eO ?_|apply jO|refine K1 (jO h1 (jO h2 (jO h3' (jO h4' (jO @gt_iff_lt.{0} @decide_false))))) ?_|intro h)
  refine Y3 mxd (ι:={ i:Nat // i≤r.right.length∧∀a∈r.right.take i,ZO a=true }) (fun i=>[(1,.rop 6 (Ru r)),(3,I r.right.length),(4,I i.1)]) (fun _ => []) (fun i=>r.right.length-i.1) ⟨0,by simp⟩ (by simp[E2]) rfl ?_
  rintro ⟨i,hi,hn⟩
  rcases nL i r.right.length with hlt|hge
  ·(refine V0 ?_;with_reducible repeat' first|intro h|apply jO)
   all_goals try exact oF
   refine callS.eq (w71 _ (k3 _ (gM hlt))) ?_
   rcases bC (ZO r.right[i]) with hv|hv
   ·rw[rulV_r hlt hv]
    (refine V1 hv ?_;with_reducible repeat' exact trivial)
   ·(refine V1 hv ?_)
    exact nx ⟨i+1,by omega,takeP_step hlt hv hn⟩ (by simp<;>omega) (by simp[E2]) rfl
  ·obtain rfl:i=r.right.length:=by omega
   rw[List.take_length] at hn
   (refine V0 ?_;with_reducible repeat' intro h)
   all_goals try exact oF
   refine Y3 mxd (ι:={ i:Nat // i≤r.eqs.length∧∀a∈r.eqs.take i,eqnV r.right.length a=true }) (fun i=>[(1,.rop 6 (Ru r)),(3,I r.right.length),(5,I i.1)]) (fun _ => []) (fun i=>r.eqs.length-i.1) ⟨0,by simp⟩ (by simp[E2]) rfl ?_
   rintro ⟨i,hi,hn2⟩
   rcases nL i r.eqs.length with hlt|hge
   ·have hq:=k4 _ (gM hlt)
    have hw:=m4 _ (gM hlt)
    (refine V1 @XE ?_;with_reducible repeat' first|intro h|apply jO)
    all_goals try exact oF
    have hb:eqnV r.right.length r.eqs[i]=false→Y1 r=false:=rulV_e hlt
    refine callS.eq (w71 _ hq.1) ?_
    rcases bC (ZO r.eqs[i].name) with hu|hu
    ·rw[hb (by simp only[eqnV,hu,Bool.false_and,Bool.and_false])]
     (refine V1 hu ?_;with_reducible repeat' exact trivial)
    ·(refine V1 (jO hu @XE) ?_)
     refine callS.eq (w72 _ _ _) ?_
     by_cases hp:0≤r.eqs[i].pos ∧ r.eqs[i].pos ≤ r.right.length
     ·(refine V1 (jO hp (jO @and_self (jO @decide_true @XE))) ?_)
      refine callS.eq (w73 r.eqs[i].expr r.right.length hq.2 hw) ?_
      rcases bC (fitE r.eqs[i].expr r.right.length) with hv|hv
      ·rw[hb (by simp only[eqnV,hv,Bool.false_and])]
       (refine V1 hv ?_;with_reducible repeat' exact trivial)
      ·(refine V1 (jO hv @XE) ?_)
       exact nx ⟨i+1,by omega,takeP_step hlt (by simp only[eqnV,hv,hu,decide_eq_true hp,Bool.true_and]) hn2⟩ (by simp<;>omega) (by simp[E2]) rfl
     ·rw[hb (by simp only[eqnV,hu,decide_eq_false hp,Bool.and_false])]
      (refine V1 (jO hp @decide_false) ?_;with_reducible repeat' exact trivial)
   ·obtain rfl:i=r.eqs.length:=by omega
    rw[List.take_length] at hn2
    (refine V0 ?_;with_reducible repeat' intro h)
    all_goals try exact oF
    refine Y3 mxd (ι:={ i:Nat // i≤r.cons.length∧∀a∈r.cons.take i,conV r.right.length a=true }) (fun i=>[(1,.rop 6 (Ru r)),(3,I r.right.length),(7,I i.1)]) (fun _ => []) (fun i=>r.cons.length-i.1) ⟨0,by simp⟩ (by simp[E2]) rfl ?_
    rintro ⟨i,hi,hn3⟩
    rcases nL i r.cons.length with hlt|hge
    ·have hq:=k5 _ (gM hlt)
     have hw:=m5 _ (gM hlt)
     (refine V1 @XE ?_;with_reducible repeat' first|intro h|apply jO)
     all_goals try exact oF
     have hb:conV r.right.length r.cons[i]=false→Y1 r=false:=rulV_c hlt
     refine callS.eq (w71 _ hq.1) ?_
     rcases bC (ZO r.cons[i].sym) with hx|hx
     ·rw[hb (by simp only[conV,hx,Bool.false_and,Bool.and_false])]
      (refine V1 hx ?_;with_reducible repeat' exact trivial)
     ·(refine V1 (jO hx @XE) ?_)
      refine callS.eq (w71 _ hq.2.1) ?_
      rcases bC (ZO r.cons[i].name) with hy|hy
      ·rw[hb (by simp only[conV,hx,hy,Bool.false_and,Bool.and_false])]
       (refine V1 hy ?_;with_reducible repeat' exact trivial)
      ·(refine V1 (jO hy @XE) ?_)
       refine callS.eq (w73 r.cons[i].goal r.right.length hq.2.2.1 hw.1) ?_
       rcases bC (fitE r.cons[i].goal r.right.length) with hv|hv
       ·rw[hb (by simp only[conV,hv,Bool.false_and])]
        (refine V1 hv ?_;with_reducible repeat' exact trivial)
       ·(refine V1 (jO hv @XE) ?_)
        refine callS.eq (w73 r.cons[i].value r.right.length hq.2.2.2 hw.2) ?_
        rcases bC (fitE r.cons[i].value r.right.length) with hu|hu
        ·rw[hb (by simp only[conV,hv,hu,Bool.false_and,Bool.and_false])]
         (refine V1 hu ?_;with_reducible repeat' exact trivial)
        ·(refine V1 hu ?_)
         exact nx ⟨i+1,by omega,takeP_step hlt (by simp only[conV,hv,hu,hx,hy,Bool.true_and]) hn3⟩ (by simp<;>omega) (by simp[E2]) rfl
    ·obtain rfl:i=r.cons.length:=by omega
     rw[List.take_length] at hn3
     rw[rulV_ok hh hn hn2 hn3]
     (refine V0 ?_;with_reducible repeat' intro h)
     all_goals try exact oF
 ·rw[rulV_h hh]
  have h3':((3:Int)<r.right.length)=¬(r.right.length≤3):=propext (by omega)
  have h4':((2:Int)<r.cons.length)=¬(r.cons.length≤2):=propext (by omega)
  by_cases h1:ZO r.name=true
  ·by_cases h2:ZO r.left=true
   ·by_cases h3:r.right.length≤3
    ·have h4:¬r.cons.length≤2:=fun h=>hh ⟨h1,h2,h3,h⟩
     (with_reducible repeat' first|refine callS.eq (w71 _ k1) ?_|refine callS.eq (w71 _ k2) ?_|exact trivial|refine aO ?_|refine eO ?_|apply jO|refine K1 (jO h1 (jO h2 (jO h3' (jO h4' (jO h3 (jO h4 (jO @gt_iff_lt.{0} (jO @decide_true (jO @decide_false (jO @not_true @not_false_eq_true)))))))))) ?_|intro h)
    ·(with_reducible repeat' first|refine callS.eq (w71 _ k1) ?_|refine callS.eq (w71 _ k2) ?_|exact trivial|refine aO ?_|refine eO ?_|apply jO|refine K1 (jO h1 (jO h2 (jO h3' (jO h3 (jO @gt_iff_lt.{0} (jO @decide_true (jO @decide_false (jO @not_true @not_false_eq_true)))))))) ?_|intro h)
   ·have h2':ZO r.left=false:=by simpa using h2
    (with_reducible repeat' first|refine callS.eq (w71 _ k1) ?_|refine callS.eq (w71 _ k2) ?_|exact trivial|refine aO ?_|refine eO ?_|apply jO|refine K1 (jO h1 h2') ?_|intro h)
  ·have h1':ZO r.name=false:=by simpa using h1
   (with_reducible repeat' first|refine callS.eq (w71 _ k1) ?_|refine callS.eq (w71 _ k2) ?_|exact trivial|refine aO ?_|refine eO ?_|apply jO|refine K1 h1' ?_|intro h)
end Go.Proofs.YtcegkonjphbfaaaGreatDoor
