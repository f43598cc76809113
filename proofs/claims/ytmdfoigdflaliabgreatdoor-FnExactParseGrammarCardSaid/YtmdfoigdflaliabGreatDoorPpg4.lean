/- The tied card of the law holds. No condition. -/
import Derived.Test.YtmdfoigdflaliabGreatDoorPpg3
set_option maxHeartbeats 40000000
set_option maxRecDepth 20000
set_option linter.unusedSimpArgs false
set_option linter.unusedVariables false
namespace Go.Proofs.YtmdfoigdflaliabGreatDoor
open Go.Gh
open Nat (reduceEqDiff reduceLeDiff reduceAdd reduceLT)
open Int (reduceNe)
theorem Tryz.dec_i {p:Prop} {i:Decidable p}:(@decide p i=true)=p:=propext ⟨of_decide_eq_true,decide_eq_true⟩
theorem Tryz.chN (s:ByteArray):(Z9 s=Z9 (⟨#[]⟩:ByteArray))=(s=noS):=propext chars_inj
theorem w205 (e:Exp) (hl:e.args.length≤1048576):Pu 205 [Ex e] (· = B (bareV e)):=by
 have hk:e.kind=1∨e.kind=3∨e.kind=4∨e.kind=5∨e.kind=6∨e.kind=8∨(¬e.kind=1∧¬e.kind=3∧¬e.kind=4∧¬e.kind=5∧¬e.kind=6∧¬e.kind=8):=by omega
 have hl0:((e.args.length:Int)=0)=(e.args.length=0):=propext oT
 have hl1:((e.args.length:Int)=1)=(e.args.length=1):=propext oT
 have hl2:((e.args.length:Int)=2)=(e.args.length=2):=propext oT
 have hl3:((e.args.length:Int)=3)=(e.args.length=3):=propext oT
 rcases hk with hk|hk|hk|hk|hk|hk|⟨hk1,hk3,hk4,hk5,hk6,hk8⟩
 all_goals
  refine Z8 mxd i205 rfl (by simp) ?_;refine X0 ?_
  first|simp (maxSteps:=9^7) only[↓ S2,S2,Y4,↓reduceIte,reduceNe,reduceEqDiff,reduceCtorEq,reduceLeDiff,reduceAdd,reduceLT,XE,hk,Int.reduceEq,decide_false,decide_true,hl0,hl1,hl2,hl3]|simp (maxSteps:=9^7) only[↓ S2,S2,Y4,↓reduceIte,reduceNe,reduceEqDiff,reduceCtorEq,reduceLeDiff,reduceAdd,reduceLT,XE,hk1,hk3,hk4,hk5,hk6,hk8,Int.reduceEq,decide_false,decide_true,hl0,hl1,hl2,hl3]
  try simp only[Tryz.chN]
  clear hl0 hl1 hl2 hl3
  (with_reducible repeat' (first|intro h|refine jO oT ?_ | refine exP oT ?_ | apply jO))
  all_goals
   congr 2
   rw[Bool.eq_iff_iff]
   simp[bareV,arity,Tryz.dec_i, *]
theorem w176 (e:Exp) (hl:e.args.length≤1048576) (ho:okE e):Pu 176 [Ex e] (· = B (YJ e)):=by
 obtain ⟨hs,hm,_⟩:=okE_eq.1 ho
 have hk:e.kind=1∨e.kind=2∨e.kind=3∨e.kind=4∨e.kind=5∨e.kind=6∨e.kind=7∨e.kind=8∨(¬(1≤e.kind∧e.kind≤8)):=by omega
 rcases hk with hk|hk|hk|hk|hk|hk|hk|hk|hk
 all_goals
  refine Z8 mxd i176 rfl (by simp) ?_;refine X0 ?_
  (repeat' (first|(with_reducible refine callS.eq (w92 _ _ _) ?_)|(with_reducible refine callS.eq (w205 e hl) ?_)|(with_reducible refine callS.eq (w177 _ _) ?_)|(with_reducible refine callS.eq (w86 _ hs) ?_)|(with_reducible refine callS.eq (w86 _ hm) ?_)|simp (maxSteps:=9^7) only[↓ S2,S2,Y4,↓reduceIte,reduceNe,reduceEqDiff,reduceCtorEq,reduceLeDiff,reduceAdd,reduceLT,XE,hk]|simp only[ZU]|simp +contextual (disch:=omega) only[Z2]|with_reducible first|intro h|refine jO oT ?_ | refine exP oT ?_ | apply jO))
  all_goals try exact oF
  all_goals first
   | (simp_all [YJ];done)
   | (simp_all [YJ];intros;omega)
   | (congr 2;rw[Bool.eq_iff_iff];simp[YJ,hk, *];done)
theorem w130:∀e:Exp,okE e→wEx e≤1048576→Pu 130 [Ex e] (· = B (YI YJ e)):=by
 refine Exp.indA fun e ih ho hw=> ?_
 obtain ⟨hl,ha⟩:=XI hw
 obtain ⟨_,_,hoa⟩:=okE_eq.1 ho
 refine Z8 mxd i130 rfl (by simp) ?_;refine X0 ?_
 simp (maxSteps:=9^7) only[↓ S2,S2,Y4,↓reduceIte,reduceNe,reduceEqDiff,reduceCtorEq,reduceLeDiff,reduceAdd,reduceLT,XE]
 refine Zu mxd (ι:={ i:Nat // i≤e.args.length∧∀a∈e.args.take i,YI YJ a=true }) (fun i=>[(1,.rop 7 (Ex e)),(3,I i.1)]) (fun _ => []) (fun i=>e.args.length-i.1) ⟨0,by simp⟩ (by simp[E2]) rfl ?_
 rintro ⟨i,hi,hn⟩
 rcases nL i e.args.length with hlt|hge
 ·(repeat' (first|(with_reducible refine callS.eq (ih _ (gM hlt) (hoa _ (gM hlt)) (ha _ (gM hlt))) ?_)|simp (maxSteps:=9^7) only[↓ S2,S2,Y4,↓reduceIte,reduceNe,reduceEqDiff,reduceCtorEq,reduceLeDiff,reduceAdd,reduceLT,XE]|simp only[ZU]|simp +contextual (disch:=omega) only[Z2]|with_reducible first|intro h|refine jO oT ?_ | refine exP oT ?_ | apply jO))
  all_goals try exact oF
  ·exact nx ⟨i+1,oT,all_take hlt (by assumption) hn⟩ (by simp;omega) (by simp[E2]) rfl
  ·rw[allE_no hlt (by assumption)]
 ·have:i=e.args.length:=by omega
  subst this
  rw[tL (Nat.le_refl _)] at hn
  rw[allE_yes hn]
  (repeat' (first|(with_reducible refine callS.eq (w176 e hl ho) ?_)|simp (maxSteps:=9^7) only[↓ S2,S2,Y4,↓reduceIte,reduceNe,reduceEqDiff,reduceCtorEq,reduceLeDiff,reduceAdd,reduceLT,XE]|simp only[ZU]|simp +contextual (disch:=omega) only[Z2]|with_reducible first|intro h|refine jO oT ?_ | refine exP oT ?_ | apply jO))
theorem w91 (e:Exp) (ho:okE e) (hw:wEx e≤1048576):Pu 91 [Ex e] (· = B (Zh e)):=by
 have hc:=cntE_le e
 have hd:=dpE_le e
 refine Z8 mxd i91 rfl (by simp) ?_;refine X0 ?_
 (repeat' (first|(with_reducible refine callS.eq (w128 e hw _ oT oT) ?_)|(with_reducible refine callS.eq (w129 e hw) ?_)|(with_reducible refine callS.eq (w130 e ho hw) ?_)|simp (maxSteps:=9^7) only[↓ S2,S2,Y4,↓reduceIte,reduceNe,reduceEqDiff,reduceCtorEq,reduceLeDiff,reduceAdd,reduceLT,XE]|simp only[ZU]|simp +contextual (disch:=omega) only[Z2]|with_reducible first|intro h|refine jO oT ?_ | refine exP oT ?_ | apply jO))
 all_goals (simp only[Zh])
 all_goals first
  | (rw[decide_eq_true (show Zl e≤24 by omega),decide_eq_true (show dpE e≤6 by omega)];rfl)
  | (rw[decide_eq_false (show ¬Zl e≤24 by omega)];rfl)
  | (rw[decide_eq_false (show ¬dpE e≤6 by omega),Bool.and_false];rfl)
theorem Tryz.dec_j {p:Prop} {i:Decidable p}:(@decide p i=true)=p:=propext ⟨of_decide_eq_true,decide_eq_true⟩
theorem w154 (e : Exp) (hl : e.args.length ≤ 1048576) (ho : okE e) : Pu 154 [Ex e] (· = B (YJ e)) := by
  obtain ⟨hs, hm, _⟩ := okE_eq.1 ho
  refine Pure.bor ?_
  have hl1 : ((e.args.length : Int) = 1) = (e.args.length = 1) := propext oT
  have hl2 : ((e.args.length : Int) = 2) = (e.args.length = 2) := propext oT
  have hl3 : ((e.args.length : Int) = 3) = (e.args.length = 3) := propext oT
  have hk : e.kind = 1 ∨ e.kind = 2 ∨ e.kind = 3 ∨ e.kind = 4 ∨ e.kind = 5 ∨ e.kind = 6 ∨ e.kind = 7 ∨ e.kind = 8 ∨ (¬ e.kind = 1 ∧ ¬ e.kind = 2 ∧ ¬ e.kind = 3 ∧ ¬ e.kind = 4 ∧ ¬ e.kind = 5 ∧ ¬ e.kind = 6 ∧ ¬ e.kind = 7 ∧ ¬ e.kind = 8) := by omega
  rcases hk with hk | hk | hk | hk | hk | hk | hk | hk | hk
  all_goals
    refine Z8 mxd i154 rfl (by simp) ?_; refine X0 ?_
    (repeat' (first | (with_reducible refine callS.eq (w110 _ _ _) ?_) | (with_reducible refine callS.eq (w158 _ _) ?_) | (with_reducible refine callS.eq (w102 _ hs) ?_) | (with_reducible refine callS.eq (w102 _ hm) ?_) | (with_reducible refine callS.eq (w187 e _ _ _ _ _ _ _) ?_) | simp (maxSteps := 9^7) only [↓ S2, S2, Y4, ↓reduceIte, reduceNe, reduceEqDiff, reduceCtorEq, reduceLeDiff, reduceAdd, reduceLT, XE, hk] | simp only [ZU] | simp +contextual (disch := omega) only [Z2] | with_reducible first | intro h | refine jO oT ?_ | refine exP oT ?_ | apply jO))
    all_goals try exact oF
    all_goals refine .of_eq ?_
    all_goals first
      | (simp_all [YJ, bareV, arity, noS_eq]; done)
      | (simp_all [YJ, bareV, arity, noS_eq]; intros; omega)
      | (have hr := okV_rng (show okV e.n e.type = true by assumption)
         congr 2
         rw [Bool.eq_iff_iff]
         try simp only [Bool.and_eq_true, Tryz.dec_j]
         try simp only [noS_eq]
         simp [YJ, bareV, arity, hk]
         try (constructor <;> intro hh <;> (try simp_all) <;> (try omega)))
      | (congr 2
         rw [Bool.eq_iff_iff]
         try simp only [Bool.and_eq_true, Tryz.dec_j]
         try simp only [noS_eq]
         simp [YJ, bareV, arity, hk]
         try (constructor <;> intro hh <;> (try simp_all) <;> (try omega)))
theorem w107 (e:Exp) (ho:okE e) (hw:wEx e≤1048576):Pu 107 [Ex e] (· = B (Zh e)):=by
 have hc:=cntE_le e
 have hd:=dpE_le e
 have hev:=w153 154 [] YJ (fun e=>okE e∧wEx e≤1048576) (fun e h a ha=>⟨(okE_eq.1 h.1).2.2 a ha,(XI h.2).2 a ha⟩) (fun x h=>w154 x (XI h.2).1 h.1) e ⟨ho,hw⟩
 refine Z8 mxd i107 rfl (by simp) ?_;refine X0 ?_
 (repeat' (first|(with_reducible refine callS.eq (w151 e hw) ?_)|(with_reducible refine callS.eq (w152 e hw) ?_)|(with_reducible refine callS.eq (hev) ?_)|simp (maxSteps:=9^7) only[↓ S2,S2,Y4,↓reduceIte,reduceNe,reduceEqDiff,reduceCtorEq,reduceLeDiff,reduceAdd,reduceLT,XE]|simp only[ZU]|simp +contextual (disch:=omega) only[Z2]|with_reducible first|intro h|refine jO oT ?_ | refine exP oT ?_ | apply jO))
 all_goals (simp only[Zh])
 all_goals first
  | (rw[decide_eq_true (show Zl e≤24 by omega),decide_eq_true (show dpE e≤6 by omega)];rfl)
  | (rw[decide_eq_false (show ¬Zl e≤24 by omega)];rfl)
  | (rw[decide_eq_false (show ¬dpE e≤6 by omega),Bool.and_false];rfl)
end Go.Proofs.YtmdfoigdflaliabGreatDoor
namespace Go.Proofs.YtmdfoigdflaliabGreatDoor
open Go.Gh
open Nat (reduceEqDiff reduceLeDiff reduceAdd reduceLT)
open Int (reduceNe)
end Go.Proofs.YtmdfoigdflaliabGreatDoor
namespace Go.Proofs.YtmdfoigdflaliabGreatDoor
open Go.Gh
open Nat (reduceEqDiff reduceLeDiff reduceAdd reduceLT)
open Int (reduceNe)
end Go.Proofs.YtmdfoigdflaliabGreatDoor
namespace Go.Proofs.YtmdfoigdflaliabGreatDoor
open Go.Gh
open Nat (reduceEqDiff reduceLeDiff reduceAdd reduceLT)
open Int (reduceNe)
theorem w50 (r n:Nat) (k:Int) (es:List ByteArray) (H:GH) (hr:Z7 H r=some (1,es.map T)) (hn:es.length=n) (hk:0≤k) (hb:k+smw wS es<9223372036854775807) :
 Gc 50 [.own r 1 0 n,I k] H (fun g H'=>g=I (k+smw wS es)∧H'=Z3 H r ((smk wS mkTx es k).map T)):=by
 refine Z8 mxd i50 rfl (by simp) ?_;refine X0 ?_
 refine Zu mxd (ι:={ i:Nat // i≤n }) (fun i=>[(0,.own r 1 0 n),(1,I (k+smw wS (es.take i.1))),(5,I i.1)]) (fun i=>Z3 H r ((smk wS mkTx (es.take i.1) k++es.drop i.1).map T)) (fun i=>n-i.1) ⟨0,oT⟩ (by simp[E2,smw]) (by simp[smk];rw[YO hr]) ?_
 rintro ⟨i,hi⟩
 rcases nL i n with h|h
 ·have ht:i<es.length:=by omega
  have e1:smw wS (es.take (i+1))=smw wS (es.take i)+1:=Yk wS ht
  have e2:=Yj wS es (i+1)
  have e3:=X4 wS (fun _ => by simp[wS,wI,wA]) es
  have hl:(smk wS mkTx (es.take i) k++es.drop i).length = es.length:=smid_len wS mkTx
  (refine R1 (jO (hgS hr) @Z5) ?_;with_reducible repeat' first|intro h|refine aO ?_|apply jO)
  ·refine callS.eq (w48 _ oT) ?_
   (refine R1 (jO (hgS hr) @Z5) ?_)
   refine nx ⟨i+1,oT⟩ (by simp;omega) (by simp[E2];omega) ?_
   rw[←smid_set wS mkTx ht,List.map_set]
  all_goals (exfalso;omega)
 ·have:i=n:=by omega
  subst this
  (refine R1 (jO (hgS hr) @Z5) ?_;with_reducible repeat' first|intro h|apply jO)
  ·rw[tL oT]
  ·rw[tL oT,List.drop_of_length_le oT,List.append_nil]
theorem w49 (r n:Nat) (k:Int) (es:List Att) (H:GH) (hr:Z7 H r=some (4,es.map At)) (hn:es.length=n) (hk:0≤k) (hb:k+smw wA es<9223372036854775807) :
 Gc 49 [.own r 4 0 n,I k] H (fun g H'=>g=I (k+smw wA es)∧H'=Z3 H r ((smk wA mkA es k).map At)):=by
 refine Z8 mxd i49 rfl (by simp) ?_;refine X0 ?_
 refine Zu mxd (ι:={ i:Nat // i≤n }) (fun i=>[(0,.own r 4 0 n),(1,I (k+smw wA (es.take i.1))),(5,I i.1)]) (fun i=>Z3 H r ((smk wA mkA (es.take i.1) k++es.drop i.1).map At)) (fun i=>n-i.1) ⟨0,oT⟩ (by simp[E2,smw]) (by simp[smk];rw[YO hr]) ?_
 rintro ⟨i,hi⟩
 rcases nL i n with h|h
 ·have ht:i<es.length:=by omega
  have e1:smw wA (es.take (i+1))=smw wA (es.take i)+4:=Yk wA ht
  have e2:=Yj wA es (i+1)
  have e3:=X4 wA (fun _ => by simp[wS,wI,wA]) es
  have hl:(smk wA mkA (es.take i) k++es.drop i).length = es.length:=smid_len wA mkA
  (refine R1 (jO (hgS hr) (jO @Z5 (jO @List.getElem_set_self.{0} (jO @List.set_set.{0} @List.length_set.{0})))) ?_;with_reducible repeat' first|intro h|refine aO ?_|apply jO)
  ·refine callS.eq (w48 _ oT) ?_
   (refine R1 (jO (hgS hr) (jO @Z5 (jO @List.getElem_set_self.{0} (jO @List.set_set.{0} @List.length_set.{0})))) ?_)
   refine nx ⟨i+1,oT⟩ (by simp;omega) (by simp[E2];omega) ?_
   rw[←smid_set wA mkA ht,List.map_set]
  all_goals (exfalso;omega)
 ·have:i=n:=by omega
  subst this
  (refine R1 (jO (hgS hr) @Z5) ?_;with_reducible repeat' first|intro h|apply jO)
  ·rw[tL oT]
  ·rw[tL oT,List.drop_of_length_le oT,List.append_nil]
theorem w22 (r n:Nat) (k:Int) (es:List Sym) (H:GH) (hr:Z7 H r=some (2,es.map SyO)) (hn:es.length=n) (hk:0≤k) (hb:k+smw Zb es<9223372036854775807) :
 Gc 22 [.own r 2 0 n,I k] H (fun g H'=>g=I (k+smw Zb es)∧H'=Z3 H r ((smk Zb mkSym es k).map SyO)):=by
 refine Z8 mxd i22 rfl (by simp) ?_;refine X0 ?_
 refine YE mxd (ι:={ i:Nat // i≤n }) (fun i=>[(0,.own r 2 0 n),(1,I (k+smw Zb (es.take i.1))),(5,I i.1)]) (fun i=>Z3 H r ((smk Zb mkSym (es.take i.1) k++es.drop i.1).map SyO)) (fun i=>n-i.1) ⟨0,oT⟩ FE.refl (by simp[E2,smw]) (by simp[smk];rw[YO hr]) ?_
 rintro ⟨i,hi⟩ hnd
 dsimp only at hnd ⊢
 rcases nL i n with h|h
 ·have ht:i<es.length:=by omega
  have hml:(smk Zb mkSym (es.take i) k++es.drop i).length = es.length:=smid_len Zb mkSym
  have hmid:i<(smk Zb mkSym (es.take i) k++es.drop i).length := by rw[hml];exact ht
  have e1:smw Zb (es.take (i+1))=smw Zb (es.take i)+(1+smw wA es[i].atts):=Yk Zb ht
  have e2:=Yj Zb es (i+1)
  have e3:=X4 Zb (fun x=>by show 1≤1 + _;omega) es
  refine GW.opn (r:=r) (i:=i) (j:=1) (ZR hr) (by rw[List.getElem?_map,List.getElem?_eq_getElem hmid,smid_get _ _ ht];rfl) rfl fun r1 hn1=> ?_
  have hne:r1≠r:=ZT hn1 (ZR hr)
  rw[Z5]
  refine Zt mxd ?_
  (refine R1 (jO (hgO hne) (jO (hsO hne) (jO (hgS hr) (jO @Z5 (jO @List.getElem_set_self.{0} (jO @List.set_set.{0} @List.length_set.{0})))))) ?_;with_reducible repeat' first|intro h|refine aO ?_|apply jO)
  all_goals try exact oF
  refine callS.eq (w48 _ oT) ?_
  (refine R1 (jO (hgO hne) (jO (hsO hne) (jO (hgS hr) (jO @Z5 (jO @List.getElem_set_self.{0} (jO @List.set_set.{0} @List.length_set.{0})))))) ?_)
  all_goals try exact oF
  refine callS.of (w49 r1 _ _ es[i].atts _ Z4 (by simp) oT oT) ?_
  rintro g H' ⟨rfl,rfl⟩ -
  rw[Zf]
  (refine R1 (jO (hgO hne) (jO (hsO hne) (jO (hgS hr) (jO @Z5 (jO @List.getElem_set_self.{0} (jO @List.set_set.{0} @List.length_set.{0})))))) ?_)
  all_goals try exact oF
  refine nxF ⟨i+1,oT⟩ (by simp;omega) (FE.close3 hr hne (j:=1) (by simpa using hmid) rfl (by simp[ZP])) (by simp[E2];omega) ?_
  show Z3 H r ((List.map SyO _).set i (SyO (mkSym es[i] (k+smw Zb (es.take i))))) = _
  rw[←List.map_set,smid_set Zb mkSym ht]
 ·have:i=n:=by omega
  subst this
  refine Zt mxd ?_
  (refine R0 ?_;with_reducible repeat' first|intro h|apply jO)
  ·rw[tL oT]
  ·rw[tL oT,List.drop_of_length_le oT,List.append_nil]
theorem wa83:∀(e:Exp) (r n:Nat) (k:Int) (H:GH) (_ : Z7 H r=some (7,e.args.map ExO)) (_ : e.args.length=n) (_ : 0≤k) (_ : k+smw ctE e.args<9223372036854775807),
 Gc 83 [.own r 7 0 n,I k] H (fun g H'=>g=I (k+smw ctE e.args)∧H'=Z3 H r ((smk ctE mkE e.args k).map ExO)):=by
 refine Exp.indA fun e ih=> ?_
 intro r n k H hr hn hk hb
 generalize e.args=es at *
 refine Z8 mxd i83 rfl (by simp) ?_;refine X0 ?_
 refine YE mxd (ι:={ i:Nat // i≤n }) (fun i=>[(0,.own r 7 0 n),(1,I (k+smw ctE (es.take i.1))),(5,I i.1)]) (fun i=>Z3 H r ((smk ctE mkE (es.take i.1) k++es.drop i.1).map ExO)) (fun i=>n-i.1) ⟨0,oT⟩ FE.refl (by simp[E2,smw]) (by simp[smk];rw[YO hr]) ?_
 rintro ⟨i,hi⟩ hnd
 dsimp only at hnd ⊢
 rcases nL i n with h|h
 ·have ht:i<es.length:=by omega
  have hml:(smk ctE mkE (es.take i) k++es.drop i).length = es.length:=smid_len ctE mkE
  have hmid:i<(smk ctE mkE (es.take i) k++es.drop i).length := by rw[hml];exact ht
  have e0:=ctE_eq es[i]
  have e1:smw ctE (es.take (i+1))=smw ctE (es.take i)+(ctE es[i]):=Yk ctE ht
  have e2:=Yj ctE es (i+1)
  have e3:=X4 ctE (fun x=>by rw[ctE_eq];omega) es
  refine GW.opn (r:=r) (i:=i) (j:=6) (ZR hr) (by rw[List.getElem?_map,List.getElem?_eq_getElem hmid,smid_get _ _ ht];exact congrArg some (ExO_eq es[i])) rfl fun r1 hn1=> ?_
  have hne:r1≠r:=ZT hn1 (ZR hr)
  rw[Z5]
  refine Zt mxd ?_
  (refine R1 (jO (hgO hne) (jO (hsO hne) (jO (hgS hr) (jO @Z5 (jO @List.getElem_set_self.{0} (jO @List.set_set.{0} @List.length_set.{0})))))) ?_;with_reducible repeat' first|intro h|refine aO ?_|apply jO)
  all_goals try exact oF
  refine callS.eq (w48 _ oT) ?_
  (refine R1 (jO (hgO hne) (jO (hsO hne) (jO (hgS hr) (jO @Z5 (jO @List.getElem_set_self.{0} (jO @List.set_set.{0} @List.length_set.{0})))))) ?_)
  all_goals try exact oF
  refine callS.eq (w48 _ oT) ?_
  (refine R1 (jO (hgO hne) (jO (hsO hne) (jO (hgS hr) (jO @Z5 (jO @List.getElem_set_self.{0} (jO @List.set_set.{0} @List.length_set.{0})))))) ?_)
  all_goals try exact oF
  refine callS.of (ih es[i] (gM _) r1 _ _ _ Z4 (by simp) oT oT) ?_
  rintro g H' ⟨rfl,rfl⟩ -
  rw[Zf]
  (refine R1 (jO (hgO hne) (jO (hsO hne) (jO (hgS hr) (jO @Z5 (jO @List.getElem_set_self.{0} (jO @List.set_set.{0} @List.length_set.{0})))))) ?_)
  all_goals try exact oF
  refine nxF ⟨i+1,oT⟩ (by simp;omega) (FE.close3 hr hne (j:=6) (by simpa using hmid) rfl (by simp[ZP])) (by simp[E2];omega) ?_
  rw[←smid_set ctE mkE ht,List.map_set,mkE_eq,ExO_eq]
  rfl
 ·have:i=n:=by omega
  subst this
  refine Zt mxd ?_
  (refine R0 ?_;with_reducible repeat' first|intro h|apply jO)
  ·rw[tL oT]
  ·rw[tL oT,List.drop_of_length_le oT,List.append_nil]
theorem w83 (r n:Nat) (k:Int) (es:List Exp) (H:GH) (hr:Z7 H r=some (7,es.map ExO)) (hn:es.length=n) (hk:0≤k) (hb:k+smw ctE es<9223372036854775807) :
 Gc 83 [.own r 7 0 n,I k] H (fun g H'=>g=I (k+smw ctE es)∧H'=Z3 H r ((smk ctE mkE es k).map ExO)):=
 wa83 (.mk 0 0 0 0 noS noS es) r n k H hr hn hk hb
theorem w51 (r n:Nat) (k:Int) (es:List Eqn) (H:GH) (hr:Z7 H r=some (9,es.map QnO)) (hn:es.length=n) (hk:0≤k) (hb:k+smw wQ es<9223372036854775807) :
 Gc 51 [.own r 9 0 n,I k] H (fun g H'=>g=I (k+smw wQ es)∧H'=Z3 H r ((smk wQ mkQ es k).map QnO)):=by
 refine Z8 mxd i51 rfl (by simp) ?_;refine X0 ?_
 refine YE mxd (ι:={ i:Nat // i≤n }) (fun i=>[(0,.own r 9 0 n),(1,I (k+smw wQ (es.take i.1))),(5,I i.1)]) (fun i=>Z3 H r ((smk wQ mkQ (es.take i.1) k++es.drop i.1).map QnO)) (fun i=>n-i.1) ⟨0,oT⟩ FE.refl (by simp[E2,smw]) (by simp[smk];rw[YO hr]) ?_
 rintro ⟨i,hi⟩ hnd
 dsimp only at hnd ⊢
 rcases nL i n with h|h
 ·have ht:i<es.length:=by omega
  have hml:(smk wQ mkQ (es.take i) k++es.drop i).length = es.length:=smid_len wQ mkQ
  have hmid:i<(smk wQ mkQ (es.take i) k++es.drop i).length := by rw[hml];exact ht
  have e0:=ctE_eq es[i].expr
  have e1:smw wQ (es.take (i+1))=smw wQ (es.take i)+(2+ctE es[i].expr):=Yk wQ ht
  have e2:=Yj wQ es (i+1)
  have e3:=X4 wQ (fun x=>by show 1≤2 + _;omega) es
  refine GW.opn (r:=r) (i:=i) (j:=8) (ZR hr) (by rw[List.getElem?_map,List.getElem?_eq_getElem hmid,smid_get _ _ ht];rfl) rfl fun r1 hn1=> ?_
  have hne:r1≠r:=ZT hn1 (ZR hr)
  rw[Z5]
  refine Zt mxd ?_
  (refine R1 (jO (hgO hne) (jO (hsO hne) (jO (hgS hr) (jO @Z5 (jO @List.getElem_set_self.{0} (jO @List.set_set.{0} @List.length_set.{0})))))) ?_;with_reducible repeat' first|intro h|refine aO ?_|apply jO)
  all_goals try exact oF
  refine callS.eq (w48 _ oT) ?_
  (refine R1 (jO (hgO hne) (jO (hsO hne) (jO (hgS hr) (jO @Z5 (jO @List.getElem_set_self.{0} (jO @List.set_set.{0} @List.length_set.{0})))))) ?_)
  all_goals try exact oF
  refine callS.eq (w48 _ oT) ?_
  (refine R1 (jO (hgO hne) (jO (hsO hne) (jO (hgS hr) (jO @Z5 (jO @List.getElem_set_self.{0} (jO @List.set_set.{0} @List.length_set.{0})))))) ?_)
  all_goals try exact oF
  refine callS.eq (w48 _ oT) ?_
  (refine R1 (jO (hgO hne) (jO (hsO hne) (jO (hgS hr) (jO @Z5 (jO @List.getElem_set_self.{0} (jO @List.set_set.{0} @List.length_set.{0})))))) ?_)
  all_goals try exact oF
  refine callS.of (w83 r1 _ _ es[i].expr.args _ Z4 (by simp) oT oT) ?_
  rintro g H' ⟨rfl,rfl⟩ -
  rw[Zf]
  (refine R1 (jO (hgO hne) (jO (hsO hne) (jO (hgS hr) (jO @Z5 (jO @List.getElem_set_self.{0} (jO @List.set_set.{0} @List.length_set.{0})))))) ?_)
  all_goals try exact oF
  refine nxF ⟨i+1,oT⟩ (by simp;omega) (FE.close3 hr hne (j:=8) (by simpa using hmid) rfl (by simp[ZP])) (by simp[E2];omega) ?_
  have ee:mkQ es[i] (k+smw wQ (es.take i)) = _ := (congrArg (Eqn.mk _ _) (mkE_eq _ _))
  rw[←smid_set wQ mkQ ht,List.map_set,ee]
  rfl
 ·have:i=n:=by omega
  subst this
  refine Zt mxd ?_
  (refine R0 ?_;with_reducible repeat' first|intro h|apply jO)
  ·rw[tL oT]
  ·rw[tL oT,List.drop_of_length_le oT,List.append_nil]
theorem w52 (r n:Nat) (k:Int) (es:List Con) (H:GH) (hr:Z7 H r=some (16,es.map CoO)) (hn:es.length=n) (hk:0≤k) (hb:k+smw wC es<9223372036854775807) :
 Gc 52 [.own r 16 0 n,I k] H (fun g H'=>g=I (k+smw wC es)∧H'=Z3 H r ((smk wC mkC es k).map CoO)):=by
 refine Z8 mxd i52 rfl (by simp) ?_;refine X0 ?_
 refine YE mxd (ι:={ i:Nat // i≤n }) (fun i=>[(0,.own r 16 0 n),(1,I (k+smw wC (es.take i.1))),(5,I i.1)]) (fun i=>Z3 H r ((smk wC mkC (es.take i.1) k++es.drop i.1).map CoO)) (fun i=>n-i.1) ⟨0,oT⟩ FE.refl (by simp[E2,smw]) (by simp[smk];rw[YO hr]) ?_
 rintro ⟨i,hi⟩ hnd
 dsimp only at hnd ⊢
 rcases nL i n with h|h
 ·have ht:i<es.length:=by omega
  have hml:(smk wC mkC (es.take i) k++es.drop i).length = es.length:=smid_len wC mkC
  have hmid:i<(smk wC mkC (es.take i) k++es.drop i).length := by rw[hml];exact ht
  have e0:=ctE_eq es[i].goal
  have e00:=ctE_eq es[i].value
  have e1:smw wC (es.take (i+1))=smw wC (es.take i)+(2+ctE es[i].goal + ctE es[i].value):=Yk wC ht
  have e2:=Yj wC es (i+1)
  have e3:=X4 wC (fun x=>by show 1≤2 + _ + _;omega) es
  refine GW.opn (r:=r) (i:=i) (j:=8) (ZR hr) (by rw[List.getElem?_map,List.getElem?_eq_getElem hmid,smid_get _ _ ht];rfl) rfl fun r1 hn1=> ?_
  have hne1:r1≠r:=ZT hn1 (ZR hr)
  rw[Z5]
  refine GW.opn (r:=r) (i:=i) (j:=15) (by rw[Z1 hne1,ZR hr]) (List.getElem?_set_self (by simpa using hmid)) rfl fun r2 hn2=> ?_
  have hne2:r2≠r:=ZT hn2 (by rw[Z1 hne1,ZR hr])
  have hne21:r2≠r1:=ZT hn2 Z4
  rw[ZQ hne1,Z5,List.set_set]
  refine Zt mxd ?_
  (refine R1 (jO (hgO hne1) (jO (hsO hne1) (jO (hgO hne2) (jO (hsO hne2) (jO (hgO hne21) (jO (hsO hne21) (jO (hgS hr) (jO @Z5 (jO @List.getElem_set_self.{0} (jO @List.set_set.{0} @List.length_set.{0})))))))))) ?_;with_reducible repeat' first|intro h|refine aO ?_|apply jO)
  all_goals try exact oF
  iterate 4
   (refine callS.eq (w48 _ oT) ?_
    (refine R1 (jO (hgO hne1) (jO (hsO hne1) (jO (hgO hne2) (jO (hsO hne2) (jO (hgO hne21) (jO (hsO hne21) (jO (hgS hr) (jO @Z5 (jO @List.getElem_set_self.{0} (jO @List.set_set.{0} @List.length_set.{0})))))))))) ?_))
  all_goals try exact oF
  refine callS.of (w83 r1 _ _ es[i].goal.args _ (by rw[Z1 hne21,Z4]) (by simp) oT oT) ?_
  rintro g H' ⟨rfl,rfl⟩ -
  rw[ZQ hne21,Zf]
  (refine R1 (jO (hgO hne1) (jO (hsO hne1) (jO (hgO hne2) (jO (hsO hne2) (jO (hgO hne21) (jO (hsO hne21) (jO (hgS hr) (jO @Z5 (jO @List.getElem_set_self.{0} (jO @List.set_set.{0} @List.length_set.{0})))))))))) ?_)
  all_goals try exact oF
  iterate 2
   (refine callS.eq (w48 _ oT) ?_
    (refine R1 (jO (hgO hne1) (jO (hsO hne1) (jO (hgO hne2) (jO (hsO hne2) (jO (hgO hne21) (jO (hsO hne21) (jO (hgS hr) (jO @Z5 (jO @List.getElem_set_self.{0} (jO @List.set_set.{0} @List.length_set.{0})))))))))) ?_))
  all_goals try exact oF
  refine callS.of (w83 r2 _ _ es[i].value.args _ Z4 (by simp) oT oT) ?_
  rintro g H' ⟨rfl,rfl⟩ -
  rw[Zf]
  (refine R1 (jO (hgO hne1) (jO (hsO hne1) (jO (hgO hne2) (jO (hsO hne2) (jO (hgO hne21) (jO (hsO hne21) (jO (hgS hr) (jO @Z5 (jO @List.getElem_set_self.{0} (jO @List.set_set.{0} @List.length_set.{0})))))))))) ?_)
  all_goals try exact oF
  refine nxF ⟨i+1,oT⟩ (by simp;omega) (FE.trans (FE.closeT (r:=r) (j:=15) (i:=i) hne2 (by rw[Z1 hne1,ZR hr]) (by simpa using hmid) rfl (by simp[ZP])) (by rw[ZQ hne1,Z5];exact FE.closeT (r:=r) (j:=8) (i:=i) hne1 (ZR hr) (by simpa using hmid) rfl (by simp[ZP]))) (by simp[E2];omega) ?_
  have ee:=congr (congrArg (Con.mk (Yn (k+smw wC (es.take i))) (Yn (k+smw wC (es.take i)+1))) (mkE_eq es[i].goal (k+smw wC (es.take i)+1+1))) (mkE_eq es[i].value (k+smw wC (es.take i)+1+1+1+1+1+1+1+1+smw ctE es[i].goal.args))
  rw[←smid_set wC mkC ht,List.map_set,show mkC es[i] (k+smw wC (es.take i)) = _ from ee,Z5]
  rfl
 ·have:i=n:=by omega
  subst this
  refine Zt mxd ?_
  (refine R0 ?_;with_reducible repeat' first|intro h|apply jO)
  ·rw[tL oT]
  ·rw[tL oT,List.drop_of_length_le oT,List.append_nil]
theorem w23 (r n:Nat) (k:Int) (es:List Rul) (H:GH) (hr:Z7 H r=some (6,es.map RuO)) (hn:es.length=n) (hk:0≤k) (hb:k+smw wR es<9223372036854775807) :
 Gc 23 [.own r 6 0 n,I k] H (fun g H'=>g=I (k+smw wR es)∧H'=Z3 H r ((smk wR mkR es k).map RuO)):=by
 refine Z8 mxd i23 rfl (by simp) ?_;refine X0 ?_
 refine YE mxd (ι:={ i:Nat // i≤n }) (fun i=>[(0,.own r 6 0 n),(1,I (k+smw wR (es.take i.1))),(5,I i.1)]) (fun i=>Z3 H r ((smk wR mkR (es.take i.1) k++es.drop i.1).map RuO)) (fun i=>n-i.1) ⟨0,oT⟩ FE.refl (by simp[E2,smw]) (by simp[smk];rw[YO hr]) ?_
 rintro ⟨i,hi⟩ hnd
 dsimp only at hnd ⊢
 rcases nL i n with h|h
 ·have ht:i<es.length:=by omega
  have hml:(smk wR mkR (es.take i) k++es.drop i).length = es.length:=smid_len wR mkR
  have hmid:i<(smk wR mkR (es.take i) k++es.drop i).length := by rw[hml];exact ht
  have e1:smw wR (es.take (i+1))=smw wR (es.take i)+(3+smw wS es[i].right + smw wQ es[i].eqs + smw wC es[i].cons):=Yk wR ht
  have e2:=Yj wR es (i+1)
  have e3:=X4 wR (fun x=>by show 1≤3 + _ + _ + _;omega) es
  refine GW.opn (r:=r) (i:=i) (j:=2) (ZR hr) (by rw[List.getElem?_map,List.getElem?_eq_getElem hmid,smid_get _ _ ht];rfl) rfl fun r1 hn1=> ?_
  have hne1:r1≠r:=ZT hn1 (ZR hr)
  rw[Z5]
  refine GW.opn (r:=r) (i:=i) (j:=4) (by rw[Z1 hne1,ZR hr]) (List.getElem?_set_self (by simpa using hmid)) rfl fun r2 hn2=> ?_
  have hne2:r2≠r:=ZT hn2 (by rw[Z1 hne1,ZR hr])
  have hne21:r2≠r1:=ZT hn2 Z4
  rw[ZQ hne1,Z5,List.set_set]
  refine GW.opn (r:=r) (i:=i) (j:=5) (by rw[Z1 hne2,Z1 hne1,ZR hr]) (List.getElem?_set_self (by simpa using hmid)) rfl fun r3 hn3=> ?_
  have hne3:r3≠r:=ZT hn3 (by rw[Z1 hne2,Z1 hne1,ZR hr])
  have hne31:r3≠r1:=ZT hn3 (by rw[Z1 hne21,Z4])
  have hne32:r3≠r2:=ZT hn3 Z4
  rw[ZQ hne2,ZQ hne1,Z5,List.set_set]
  refine Zt mxd ?_
  (refine R1 (jO (hgO hne1) (jO (hsO hne1) (jO (hgO hne2) (jO (hsO hne2) (jO (hgO hne21) (jO (hsO hne21) (jO (hgO hne3) (jO (hsO hne3) (jO (hgO hne31) (jO (hsO hne31) (jO (hgO hne32) (jO (hsO hne32) (jO @Zf (jO @Z4 (jO (hgS hr) (jO @Z5 (jO @List.getElem_set_self.{0} (jO @List.set_set.{0} @List.length_set.{0})))))))))))))))))) ?_;with_reducible repeat' first|intro h|refine aO ?_|apply jO)
  all_goals try exact oF
  iterate 2
   (refine callS.eq (w48 _ oT) ?_
    (refine R1 (jO (hgO hne1) (jO (hsO hne1) (jO (hgO hne2) (jO (hsO hne2) (jO (hgO hne21) (jO (hsO hne21) (jO (hgO hne3) (jO (hsO hne3) (jO (hgO hne31) (jO (hsO hne31) (jO (hgO hne32) (jO (hsO hne32) (jO @Zf (jO @Z4 (jO (hgS hr) (jO @Z5 (jO @List.getElem_set_self.{0} (jO @List.set_set.{0} @List.length_set.{0})))))))))))))))))) ?_))
  all_goals try exact oF
  refine callS.of (w50 r1 _ _ es[i].right _ (by rw[Z1 hne31,Z1 hne21,Z4]) (by simp) oT oT) ?_
  rintro g H' ⟨rfl,rfl⟩ -
  rw[ZQ hne31,ZQ hne21,Zf]
  (refine R1 (jO (hgO hne1) (jO (hsO hne1) (jO (hgO hne2) (jO (hsO hne2) (jO (hgO hne21) (jO (hsO hne21) (jO (hgO hne3) (jO (hsO hne3) (jO (hgO hne31) (jO (hsO hne31) (jO (hgO hne32) (jO (hsO hne32) (jO @Zf (jO @Z4 (jO (hgS hr) (jO @Z5 (jO @List.getElem_set_self.{0} (jO @List.set_set.{0} @List.length_set.{0})))))))))))))))))) ?_)
  all_goals try exact oF
  refine callS.of (w51 r2 _ _ es[i].eqs _ (by rw[Z1 hne32,Z4]) (by simp) oT oT) ?_
  rintro g H' ⟨rfl,rfl⟩ -
  rw[ZQ hne32,Zf]
  (refine R1 (jO (hgO hne1) (jO (hsO hne1) (jO (hgO hne2) (jO (hsO hne2) (jO (hgO hne21) (jO (hsO hne21) (jO (hgO hne3) (jO (hsO hne3) (jO (hgO hne31) (jO (hsO hne31) (jO (hgO hne32) (jO (hsO hne32) (jO @Zf (jO @Z4 (jO (hgS hr) (jO @Z5 (jO @List.getElem_set_self.{0} (jO @List.set_set.{0} @List.length_set.{0})))))))))))))))))) ?_)
  all_goals try exact oF
  refine callS.of (w52 r3 _ _ es[i].cons _ Z4 (by simp) oT oT) ?_
  rintro g H' ⟨rfl,rfl⟩ -
  rw[Zf]
  (refine R1 (jO (hgO hne1) (jO (hsO hne1) (jO (hgO hne2) (jO (hsO hne2) (jO (hgO hne21) (jO (hsO hne21) (jO (hgO hne3) (jO (hsO hne3) (jO (hgO hne31) (jO (hsO hne31) (jO (hgO hne32) (jO (hsO hne32) (jO @Zf (jO @Z4 (jO (hgS hr) (jO @Z5 (jO @List.getElem_set_self.{0} (jO @List.set_set.{0} @List.length_set.{0})))))))))))))))))) ?_)
  all_goals try exact oF
  refine nxF ⟨i+1,oT⟩ (by simp;omega) (FE.trans (FE.closeT (r:=r) (j:=5) (i:=i) hne3 (by rw[Z1 hne2,Z1 hne1,ZR hr]) (by simpa using hmid) rfl (by simp[ZP])) (FE.trans (by rw[ZQ hne2,ZQ hne1,Z5];exact FE.closeT (r:=r) (j:=4) (i:=i) hne2 (by rw[Z1 hne1,ZR hr]) (by simpa using hmid) rfl (by simp[ZP])) (by rw[ZQ hne1,Z5];exact FE.closeT (r:=r) (j:=2) (i:=i) hne1 (ZR hr) (by simpa using hmid) rfl (by simp[ZP])))) (by simp[E2];omega) ?_
  rw[←smid_set wR mkR ht,List.map_set,Z5]
  rfl
 ·have:i=n:=by omega
  subst this
  refine Zt mxd ?_
  (refine R0 ?_;with_reducible repeat' first|intro h|apply jO)
  ·rw[tL oT]
  ·rw[tL oT,List.drop_of_length_le oT,List.append_nil]
theorem w7 (rs rr n m:Nat) (k:Int) (x:Gram) (H:GH) (hne:rs≠rr) (h1:Z7 H rs=some (2,x.syms.map SyO)) (h2:Z7 H rr=some (6,x.rules.map RuO)) (hn:x.syms.length=n) (hm:x.rules.length=m) (hk:0≤k) (hb:k+smw Zb x.syms+smw wR x.rules<9223372036854775807) :
 Gc 7 [.agg [.own rs 2 0 n,.own rr 6 0 m],I k] H (fun g H'=>g=I (k+smw Zb x.syms+smw wR x.rules)∧H'=Z3 (Z3 H rs ((smk Zb mkSym x.syms k).map SyO)) rr ((smk wR mkR x.rules (k+smw Zb x.syms)).map RuO)):=by
 refine Z8 mxd i7 rfl (by simp) ?_;refine X0 ?_
 refine callS.of (w22 rs n k x.syms _ h1 hn hk oT) ?_
 rintro g H' ⟨rfl,rfl⟩ -
 (refine R0 ?_)
 refine callS.of (w23 rr m _ x.rules _ (by rw[hget_set_ne hne];exact h2) hm oT oT) ?_
 rintro g H' ⟨rfl,rfl⟩ -
 (refine R0 ?_;with_reducible repeat' exact trivial)
theorem wa84:∀(e:Exp) (k:Int) (_ : 0≤k) (_ : k+smw ctE e.args<9223372036854775807),
 Pu 84 [ExS (smk ctE mkE e.args k),I k] (· = I (k+smw ctE e.args)):=by
 refine Exp.indA fun e ih=> ?_
 intro k hk hb
 generalize e.args=l at *
 have e4:=X4 ctE (fun x=>by rw[ctE_eq];omega) l
 refine Z8 mxd i84 rfl (by simp) ?_;refine X0 ?_
 refine Zu mxd (ι:={ i:Nat // i≤l.length }) (fun i=>[(0,ExS (smk ctE mkE l k)),(1,I (k+smw ctE (l.take i.1))),(5,I i.1)]) (fun i=>[]) (fun i=>l.length-i.1) ⟨0,oT⟩ (by simp[E2,smw]) rfl ?_
 rintro ⟨i,hi⟩
 rcases nL i l.length with h|h
 ·have e0:=ctE_eq l[i]
  have e1:smw ctE (l.take (i+1))=smw ctE (l.take i)+ctE l[i]:=Yk ctE h
  have e2:=Yj ctE l (i+1)
  have hl:i<(smk ctE mkE l k).length := by rw[ZP];exact h
  have e6:Ex (smk ctE mkE l k)[i]=Ex (mkE l[i] (k+smw ctE (l.take i))):=congrArg Ex (smk_getE ctE mkE h hl)
  rw[mkE_eq,mkX] at e6
  ((try refine qI ?_);(repeat ((first|with_reducible refine qU ?_ | simp only[ZU]);try simp (maxSteps:=9^7) only[↓ S2,S2,Y4,↓reduceIte,reduceNe,reduceEqDiff,reduceCtorEq,reduceLeDiff,reduceAdd,reduceLT,ZP,e6]));(try simp +contextual (disch:=omega) only[Z2,ZP,e6]);(with_reducible repeat' (first|intro h|refine jO oT ?_ | refine exP oT ?_ | apply jO)))
  all_goals try exact oF
  iterate 2
   (refine callS.eq (w48 _ oT) ?_
    ((try refine qI ?_);(repeat ((first|with_reducible refine qU ?_ | simp only[ZU]);try simp (maxSteps:=9^7) only[↓ S2,S2,Y4,↓reduceIte,reduceNe,reduceEqDiff,reduceCtorEq,reduceLeDiff,reduceAdd,reduceLT,ZP,e6]));(try simp +contextual (disch:=omega) only[Z2,ZP,e6]);(with_reducible repeat' (first|intro h|refine jO oT ?_ | refine exP oT ?_ | apply jO)))
    all_goals try exact oF)
  refine callS.eq (ih l[i] (gM _) _ oT oT) ?_
  ((try refine qI ?_);(repeat ((first|with_reducible refine qU ?_ | simp only[ZU]);try simp (maxSteps:=9^7) only[↓ S2,S2,Y4,↓reduceIte,reduceNe,reduceEqDiff,reduceCtorEq,reduceLeDiff,reduceAdd,reduceLT,ZP,e6]));(try simp +contextual (disch:=omega) only[Z2,ZP,e6]);(with_reducible repeat' (first|intro h|refine jO oT ?_ | refine exP oT ?_ | apply jO)))
  all_goals try exact oF
  exact nx ⟨i+1,oT⟩ (by simp;omega) (by simp[E2];omega) rfl
 ·((try refine qI ?_);(repeat ((first|with_reducible refine qU ?_ | simp only[ZU]);try simp (maxSteps:=9^7) only[↓ S2,S2,Y4,↓reduceIte,reduceNe,reduceEqDiff,reduceCtorEq,reduceLeDiff,reduceAdd,reduceLT,ZP]));(try simp +contextual (disch:=omega) only[Z2,ZP]);(with_reducible repeat' (first|intro h|refine jO oT ?_ | refine exP oT ?_ | apply jO)))
  rw[tL oT]
theorem w141 (t:List Att) (f:Nat) (cs:List GV) (p:Att→Bool) (hp:∀x∈t,Pu f (At x::cs) (· = B (p x))) :
 Pu 141 [AtS t,.clo f cs] (· = I (ixOf p t)):=by
 refine GCalls.lenA fun hl=> ?_
 have hlen:=hl.1.1
 simp only[List.length_map,Y1] at hlen
 refine Z8 mxd i141 rfl (by simp) ?_;refine X0 ?_
 (refine V0 ?_)
 refine Zu mxd (ι:={ i:Nat // i≤t.length∧∀y∈t.take i,p y=false }) (fun i=>[(0,AtS t),(1,.clo f cs),(7,I t.length),(8,I i.1)]) (fun _ => []) (fun i=>t.length-i.1) ⟨0,by simp⟩ (by simp[E2]) rfl ?_
 rintro ⟨i,hi,hn⟩
 rcases nL i t.length with hlt|hge
 ·(refine V1 @XE ?_;with_reducible repeat' first|intro h|apply jO)
  all_goals try exact oF
  refine callS.eq (hp t[i] (gM hlt)) ?_
  by_cases hb:p t[i]=true
  ·have e:=ixOf_hit hlt hb hn
   rw[e]
   (refine V1 hb ?_;with_reducible repeat' exact trivial)
  ·have hb':p t[i]=false:=by simpa using hb
   (refine V1 hb' ?_)
   exact nx ⟨i+1,oT,take_step hlt hb' hn⟩ (by simp<;>omega) (by simp[E2]) rfl
 ·obtain rfl:i=t.length:=by omega
  rw[List.take_length] at hn
  rw[ixOf_none hn]
  (refine V0 ?_;with_reducible repeat' intro h)
  all_goals first|(exfalso;omega)|skip
theorem w100 (t:List Att) (f:Nat) (cs:List GV) (p:Att→Bool) (hp:∀x∈t,Pu f (At x::cs) (· = B (p x))) :
 Pu 100 [AtS t,.clo f cs] (· = B (t.any p)):=by
 refine Z8 mxd i100 rfl (by simp) ?_;refine X0 ?_
 refine callS.eq (w141 t f cs p hp) ?_
 (refine R0 ?_)
 rw[←any_ix]
theorem w99 (a:Att) (ha:okAt a):Pu 99 [At a] (· = B (attV a)):=by
 unfold okAt at ha
 have h1:a.mode=3∨¬a.mode=3:=by omega
 rcases h1 with h1|h1
 all_goals
  refine Z8 mxd i99 rfl (by simp) ?_;refine X0 ?_
  (repeat' (first|(with_reducible refine callS.eq (w102 _ ha) ?_)|(with_reducible refine callS.eq (w140 _) ?_)|(with_reducible refine callS.eq (w110 _ _ _) ?_)|simp (maxSteps:=9^7) only[↓ S2,S2,Y4,↓reduceIte,reduceNe,reduceEqDiff,reduceCtorEq,reduceLeDiff,reduceAdd,reduceLT,h1,Int.reduceEq,decide_true,decide_false]|simp only[ZU]|simp +contextual (disch:=omega) only[Z2]|with_reducible first|intro h|refine jO oT ?_ | refine exP oT ?_ | apply jO))
  all_goals try exact oF
  all_goals first
   | (simp_all [attV];done)
   | (simp_all [attV];omega)
   | trace_state
theorem w85 (a:Att) (ha:okAt a):Pu 85 [At a] (· = B (attV a)):=by
 unfold okAt at ha
 have h1:a.mode=3∨¬a.mode=3:=by omega
 rcases h1 with h1|h1
 all_goals
  refine Z8 mxd i85 rfl (by simp) ?_;refine X0 ?_
  (repeat' (first|(with_reducible refine callS.eq (w86 _ ha) ?_)|(with_reducible refine callS.eq (w92 _ _ _) ?_)|simp (maxSteps:=9^7) only[↓ S2,S2,Y4,↓reduceIte,reduceNe,reduceEqDiff,reduceCtorEq,reduceLeDiff,reduceAdd,reduceLT,h1,Int.reduceEq,decide_true,decide_false]|simp only[ZU]|simp +contextual (disch:=omega) only[Z2]|with_reducible first|intro h|refine jO oT ?_ | refine exP oT ?_ | apply jO))
  all_goals try exact oF
  all_goals first
   | (simp_all [attV];done)
   | (simp_all [attV];omega)
   | trace_state
theorem w101 (x a:Att):Pu 101 [At x,.rop 4 (At a)] (· = B (decide (x.name=a.name))):=by
 refine Z8 mxd i101 rfl (by simp) ?_;refine X0 ?_
 (refine V0 ?_;with_reducible repeat' exact trivial)
theorem w156 (e:Exp) (n:Int):Pu 156 [Ex e,.rop 1 (I n)] (· = B (decide (e.pos≤n))):=by
 refine Z8 mxd i156 rfl (by simp) ?_;refine X0 ?_
 (refine V1 @XE ?_;with_reducible repeat' exact trivial)
theorem w109 (e:Exp) (n:Int) (ho:okE e) (hw:wEx e≤1048576):Pu 109 [Ex e,I n] (· = B (fitE e n)):=by
 refine Z8 mxd i109 rfl (by simp) ?_;refine X0 ?_
 (refine V1 @XE ?_)
 refine callS.eq (w107 e ho hw) ?_
 rcases bC (Zh e) with hv|hv
 ·(refine V1 (jO @XE hv) ?_)
  all_goals simp[fitE,hv]
 ·(refine V1 (jO @XE hv) ?_)
  refine callS.eq (w153 156 [.rop 1 (I n)] (fun x=>decide (x.pos≤n)) (fun _ => True) (fun _ _ _ _ => trivial) (fun x _ => w156 x n) e trivial) ?_
  (refine V0 ?_)
  all_goals simp[fitE,hv]
theorem w70 (s:Sym) (hs:okSy s) (hm:smSy s):Pu 70 [Sy s] (· = B (YX s)):=by
 unfold smSy at hm
 refine Z8 mxd i70 rfl (by simp) ?_;refine X0 ?_
 (refine V0 ?_)
 refine Zu mxd (ι:={ i:Nat // i≤s.atts.length∧(∀a∈s.atts.take i,attV a=true)∧∀j,j<i→dupA s.atts j=false }) (fun i=>[(1,.rop 2 (Sy s)),(6,AtS s.atts),(7,I s.atts.length),(8,I i.1)]) (fun _ => []) (fun i=>s.atts.length-i.1) ⟨0,by simp⟩ (by simp[E2]) rfl ?_
 rintro ⟨i,hi,hn,hd⟩
 rcases nL i s.atts.length with hlt|hge
 ·(refine V0 ?_;with_reducible repeat' first|intro h|apply jO)
  all_goals try exact oF
  refine callS.eq (w99 s.atts[i] (hs.2 _ (gM hlt))) ?_
  rcases bC (attV s.atts[i]) with hv|hv
  ·rw[symV_a hlt hv]
   (refine V1 hv ?_;with_reducible repeat' exact trivial)
  ·(refine V1 hv ?_)
   all_goals try exact oF
   rw[show List.drop (Int.toNat 0) (List.take i (List.map At s.atts))=(s.atts.take i).map At from by simp[List.map_take]]
   refine callS.eq (w100 (s.atts.take i) 101 [.rop 4 (At s.atts[i])] (fun o=>decide (o.name=s.atts[i].name)) fun x _ => w101 x _) ?_
   rw[←dupA_eq hlt]
   rcases bC (dupA s.atts i) with hw|hw
   ·(refine V1 hw ?_)
    exact nx ⟨i+1,oT,XC hlt hv hn,lt_step hw hd⟩ (by simp<;>omega) (by simp[E2]) rfl
   ·rw[symV_d hlt hw]
    (refine V1 hw ?_;with_reducible repeat' exact trivial)
 ·obtain rfl:i=s.atts.length:=by omega
  rw[List.take_length] at hn
  rw[symV_ok hn hd]
  (refine V0 ?_;with_reducible repeat' intro h)
  all_goals try exact oF
  refine callS.eq (w102 _ hs.1) ?_
  (refine V0 ?_;with_reducible repeat' first|intro h|apply jO)
  all_goals simp_all
  all_goals omega
theorem w87 (l:List ByteArray):Pu 87 [TS l] (· = B (dstS l)):=by
 refine GCalls.lenA fun hl=> ?_
 have hlen:=hl.1.1
 simp only[List.length_map,Y1] at hlen
 refine Z8 mxd i87 rfl (by simp) ?_;refine X0 ?_
 (refine V0 ?_)
 refine Zu mxd (ι:={ i:Nat // i≤l.length∧∀j (hj:j<l.length),j<i→hasS (l.take j) l[j]=false }) (fun i=>[(0,TS l),(3,I i.1)]) (fun _ => []) (fun i=>l.length-i.1) ⟨0,by simp⟩ (by simp[E2]) rfl ?_
 rintro ⟨i,hi,hn⟩
 rcases nL i l.length with hlt|hge
 ·(refine V0 ?_;with_reducible repeat' first|intro h|refine aO ?_|apply jO)
  all_goals try exact oF
  rw[show List.drop (Int.toNat 0) (List.take i (List.map T l))=(l.take i).map T from by simp[List.map_take]]
  refine callS.eq (w123 (l.take i) l[i]) ?_
  rcases bC (hasS (l.take i) l[i]) with hv|hv
  ·(refine V1 hv ?_)
   refine nx ⟨i+1,oT,fun j hj hji=> ?_⟩ (by simp<;>omega) (by simp[E2]) rfl
   rcases Nat.lt_succ_iff_lt_or_eq.1 hji with e|e
   ·exact hn j hj e
   ·subst e;exact hv
  ·rw[dstS_no hlt hv]
   (refine V1 hv ?_;with_reducible repeat' exact trivial)
 ·obtain rfl:i=l.length:=by omega
  rw[dstS_yes fun j hj=>hn j hj hj]
  (refine V0 ?_;with_reducible repeat' first|intro h|refine aO ?_)
  all_goals try exact oF
theorem w60 (s:Sym) (hs:okSy s) (hm:smSy s):Pu 60 [Sy s] (· = B (YX s)):=by
 unfold smSy at hm
 refine Pure.bor ?_
 refine Z8 mxd i60 rfl (by simp) ?_;refine X0 ?_
 (refine V0 ?_;with_reducible repeat' intro h)
 rename_i r
 refine ploop mxd (ι:={ x:Nat×Nat // x.2≤s.atts.length∧∀a∈s.atts.take x.2,attV a=true }) (fun x=>[(1,.rop 2 (Sy s)),(3,.own x.1.1 1 0 x.1.2),(4,I x.1.2)]) (fun x=>[(x.1.1,1,((s.atts.take x.1.2).map (·.name)).map T)]) (fun x=>s.atts.length-x.1.2) ⟨(r,0),by simp⟩ (by simp[E2]) (by simp[subH,Z7,names]) ?_
 rintro ⟨⟨r,i⟩,hi,hn⟩ -
 dsimp only at hi hn ⊢
 rcases nL i s.atts.length with hlt|hge
 ·(refine V0 ?_;with_reducible repeat' first|intro h|apply jO)
  all_goals try exact oF
  refine callS.eq (w85 s.atts[i] (hs.2 _ (gM hlt))) ?_
  rcases bC (attV s.atts[i]) with hv|hv
  ·rw[symV_a hlt hv]
   (refine V1 hv ?_)
   exact .refl
  ·(refine V1 (jO hv (jO @List.length_append.{0} (jO @List.length_singleton.{0} (jO @List.length_map.{0,0} (jO @List.length_take.{0} @maxLv))))) ?_;with_reducible repeat' first|intro h|refine aO ?_)
   all_goals try exact oF
   rename_i q2 _ q3
   rw[takeApp2 T (·.name) s.atts i hlt]
   exact px ⟨(q3,i+1),oT,XC hlt hv hn⟩ (by simp<;>omega) (by simp[E2]) (by repeat' (first|exact trivial|(refine jO (by simp only[Zy, *,if_true,if_false];try rfl) (jO (by simp[Zd,Y5, *]) ?_))))
 ·obtain rfl:i=s.atts.length:=by omega
  rw[List.take_length] at hn
  rw[symV_spec hn]
  simp only[List.take_length]
  (refine V0 ?_;with_reducible repeat' intro h)
  all_goals try exact oF
  refine callS.eq (w86 _ hs.1) ?_
  rcases bC (ZV s.name) with hv|hv
  ·rw[hv]
   (refine V0 ?_)
   exact .refl
  ·rw[hv]
   by_cases h4:(s.atts.length:Int)≤4
   ·have h4':s.atts.length≤4:=by omega
    (refine V1 h4 ?_)
    refine callS.borA (w87 (s.atts.map (·.name))) (.cons (bor_TS Z4 (by simp)) .nil) rfl ?_
    (refine V0 ?_)
    exact .of_eq (by simp[h4'])
   ·have h4':¬s.atts.length≤4:=by omega
    (refine V1 h4 ?_)
    exact .of_eq (by simp[h4'])
theorem w131:∀(e:Exp) (n:Int),wEx e≤1048576→Pu 131 [Ex e,I n] (· = B (YI (fun x=>decide (x.pos≤n)) e)):=by
 refine Exp.indA fun e ih n hw=> ?_
 obtain ⟨hl,ha⟩:=XI hw
 refine Z8 mxd i131 rfl (by simp) ?_;refine X0 ?_
 (refine V1 @XE ?_)
 refine Zu mxd (ι:={ i:Nat // i≤e.args.length∧∀a∈e.args.take i,YI (fun x=>decide (x.pos≤n)) a=true }) (fun i=>[(1,I n),(2,.rop 7 (Ex e)),(5,I i.1)]) (fun _ => []) (fun i=>e.args.length-i.1) ⟨0,by simp⟩ (by simp[E2]) rfl ?_
 rintro ⟨i,hi,hn⟩
 rcases nL i e.args.length with hlt|hge
 ·(refine V1 @XE ?_;with_reducible repeat' first|intro h|apply jO)
  all_goals try exact oF
  refine callS.eq (ih _ (gM hlt) n (ha _ (gM hlt))) ?_
  rcases (Bool.eq_false_or_eq_true (YI (fun x=>decide (x.pos≤n)) e.args[i])).symm with hv|hv
  ·rw[allE_no hlt hv]
   (refine V1 hv ?_;with_reducible repeat' exact trivial)
  ·(refine V1 hv ?_)
   exact nx ⟨i+1,oT,all_take hlt hv hn⟩ (by simp<;>omega) (by simp[E2]) rfl
 ·obtain rfl:i=e.args.length:=by omega
  rw[List.take_length] at hn
  rw[allE_yes hn]
  (refine V1 @XE ?_;with_reducible repeat' intro h)
  all_goals try exact oF
theorem w93 (e:Exp) (n:Int) (ho:okE e) (hw:wEx e≤1048576):Pu 93 [Ex e,I n] (· = B (fitE e n)):=by
 refine Z8 mxd i93 rfl (by simp) ?_;refine X0 ?_
 (refine V1 @XE ?_)
 refine callS.eq (w91 e ho hw) ?_
 rcases bC (Zh e) with hv|hv
 ·(refine V1 (jO @XE hv) ?_)
  all_goals simp[fitE,hv]
 ·(refine V1 (jO @XE hv) ?_)
  refine callS.eq (w131 e n hw) ?_
  (refine V0 ?_)
  all_goals simp[fitE,hv]
theorem w75 (r:Rul) (hs:okRu r) (hm:smRu r):Pu 75 [Ru r] (· = B (Zw r)):=by
 obtain ⟨m1,m2,m3,m4,m5⟩:=hm
 obtain ⟨k1,k2,k3,k4,k5⟩:=hs
 refine Z8 mxd i75 rfl (by simp) ?_;refine X0 ?_
 (refine V0 ?_)
 by_cases hh:ZV r.name=true∧ZV r.left=true∧r.right.length≤3∧r.cons.length≤2
 ·obtain ⟨h1,h2,h3,h4⟩:=id hh
  have h3':¬(3:Int)<r.right.length:=by omega
  have h4':¬(2:Int)<r.cons.length:=by omega
  (with_reducible repeat' first|refine callS.eq (w102 _ k1) ?_|refine callS.eq (w102 _ k2) ?_|exact trivial|refine aO ?_|refine eO ?_|apply jO|refine K1 (jO h1 (jO h2 (jO h3' (jO h4' (jO @gt_iff_lt.{0} @decide_false))))) ?_|intro h)
  refine Zu mxd (ι:={ i:Nat // i≤r.right.length∧∀a∈r.right.take i,ZV a=true }) (fun i=>[(1,.rop 6 (Ru r)),(3,I r.right.length),(34,TS r.right),(35,I r.right.length),(36,I i.1)]) (fun _ => []) (fun i=>r.right.length-i.1) ⟨0,by simp⟩ (by simp[E2]) rfl ?_
  rintro ⟨i,hi,hn⟩
  rcases nL i r.right.length with hlt|hge
  ·(refine V0 ?_;with_reducible repeat' first|intro h|apply jO)
   all_goals try exact oF
   refine callS.eq (w102 _ (k3 _ (gM hlt))) ?_
   rcases bC (ZV r.right[i]) with hv|hv
   ·rw[rulV_r hlt hv]
    (refine V1 hv ?_;with_reducible repeat' exact trivial)
   ·(refine V1 hv ?_)
    exact nx ⟨i+1,oT,XC hlt hv hn⟩ (by simp<;>omega) (by simp[E2]) rfl
  ·obtain rfl:i=r.right.length:=by omega
   rw[List.take_length] at hn
   (refine V0 ?_;with_reducible repeat' intro h)
   all_goals try exact oF
   refine Zu mxd (ι:={ i:Nat // i≤r.eqs.length∧∀a∈r.eqs.take i,eqnV r.right.length a=true }) (fun i=>[(1,.rop 6 (Ru r)),(3,I r.right.length),(45,QnS r.eqs),(46,I r.eqs.length),(47,I i.1)]) (fun _ => []) (fun i=>r.eqs.length-i.1) ⟨0,by simp⟩ (by simp[E2]) rfl ?_
   rintro ⟨i,hi,hn2⟩
   rcases nL i r.eqs.length with hlt|hge
   ·have hq:=k4 _ (gM hlt)
    have hw:=m4 _ (gM hlt)
    (refine V1 @XE ?_;with_reducible repeat' first|intro h|apply jO)
    all_goals try exact oF
    refine callS.eq (w109 r.eqs[i].expr r.right.length hq.2 hw) ?_
    have hb:eqnV r.right.length r.eqs[i]=false→Zw r=false:=rulV_e hlt
    rcases bC (fitE r.eqs[i].expr r.right.length) with hv|hv
    ·rw[hb (by simp only[eqnV,hv,Bool.false_and])]
     (refine V1 hv ?_;with_reducible repeat' exact trivial)
    ·(refine V1 (jO hv @XE) ?_)
     refine callS.eq (w102 _ hq.1) ?_
     rcases bC (ZV r.eqs[i].name) with hu|hu
     ·rw[hb (by simp only[eqnV,hv,hu,Bool.false_and,Bool.and_false])]
      (refine V1 hu ?_;with_reducible repeat' exact trivial)
     ·(refine V1 (jO hu @XE) ?_)
      refine callS.eq (w110 _ _ _) ?_
      by_cases hp:0≤r.eqs[i].pos ∧ r.eqs[i].pos ≤ r.right.length
      ·(refine V1 (jO hp (jO @and_self @decide_true)) ?_)
       exact nx ⟨i+1,oT,XC hlt (by simp only[eqnV,hv,hu,decide_eq_true hp,Bool.true_and]) hn2⟩ (by simp<;>omega) (by simp[E2]) rfl
      ·rw[hb (by simp only[eqnV,hv,hu,decide_eq_false hp,Bool.and_false])]
       (refine V1 (jO hp @decide_false) ?_;with_reducible repeat' exact trivial)
   ·obtain rfl:i=r.eqs.length:=by omega
    rw[List.take_length] at hn2
    (refine V0 ?_;with_reducible repeat' intro h)
    all_goals try exact oF
    refine Zu mxd (ι:={ i:Nat // i≤r.cons.length∧∀a∈r.cons.take i,conV r.right.length a=true }) (fun i=>[(3,I r.right.length),(73,CoS r.cons),(74,I r.cons.length),(75,I i.1)]) (fun _ => []) (fun i=>r.cons.length-i.1) ⟨0,by simp⟩ (by simp[E2]) rfl ?_
    rintro ⟨i,hi,hn3⟩
    rcases nL i r.cons.length with hlt|hge
    ·have hq:=k5 _ (gM hlt)
     have hw:=m5 _ (gM hlt)
     (refine V1 @XE ?_;with_reducible repeat' first|intro h|apply jO)
     all_goals try exact oF
     refine callS.eq (w109 r.cons[i].goal r.right.length hq.2.2.1 hw.1) ?_
     have hb:conV r.right.length r.cons[i]=false→Zw r=false:=rulV_c hlt
     rcases bC (fitE r.cons[i].goal r.right.length) with hv|hv
     ·rw[hb (by simp only[conV,hv,Bool.false_and])]
      (refine V1 hv ?_;with_reducible repeat' exact trivial)
     ·(refine V1 (jO hv @XE) ?_)
      refine callS.eq (w109 r.cons[i].value r.right.length hq.2.2.2 hw.2) ?_
      rcases bC (fitE r.cons[i].value r.right.length) with hu|hu
      ·rw[hb (by simp only[conV,hv,hu,Bool.false_and,Bool.and_false])]
       (refine V1 hu ?_;with_reducible repeat' exact trivial)
      ·(refine V1 (jO hu @XE) ?_)
       refine callS.eq (w102 _ hq.1) ?_
       rcases bC (ZV r.cons[i].sym) with hx|hx
       ·rw[hb (by simp only[conV,hv,hu,hx,Bool.false_and,Bool.and_false])]
        (refine V1 hx ?_;with_reducible repeat' exact trivial)
       ·(refine V1 (jO hx @XE) ?_)
        refine callS.eq (w102 _ hq.2.1) ?_
        rcases bC (ZV r.cons[i].name) with hy|hy
        ·rw[hb (by simp only[conV,hv,hu,hx,hy,Bool.false_and,Bool.and_false])]
         (refine V1 hy ?_;with_reducible repeat' exact trivial)
        ·(refine V1 hy ?_)
         exact nx ⟨i+1,oT,XC hlt (by simp only[conV,hv,hu,hx,hy,Bool.true_and]) hn3⟩ (by simp<;>omega) (by simp[E2]) rfl
    ·obtain rfl:i=r.cons.length:=by omega
     rw[List.take_length] at hn3
     rw[rulV_ok hh hn hn2 hn3]
     (refine V0 ?_;with_reducible repeat' intro h)
     all_goals try exact oF
 ·rw[rulV_h hh]
  have h3':((3:Int)<r.right.length)=¬(r.right.length≤3):=propext oT
  have h4':((2:Int)<r.cons.length)=¬(r.cons.length≤2):=propext oT
  by_cases h1:ZV r.name=true
  ·by_cases h2:ZV r.left=true
   ·by_cases h3:r.right.length≤3
    ·have h4:¬r.cons.length≤2:=fun h=>hh ⟨h1,h2,h3,h⟩
     (with_reducible repeat' first|refine callS.eq (w102 _ k1) ?_|refine callS.eq (w102 _ k2) ?_|exact trivial|refine aO ?_|refine eO ?_|apply jO|refine K1 (jO h1 (jO h2 (jO h3' (jO h4' (jO h3 (jO h4 (jO @gt_iff_lt.{0} (jO @decide_true (jO @decide_false (jO @not_true @not_false_eq_true)))))))))) ?_|intro h)
    ·(with_reducible repeat' first|refine callS.eq (w102 _ k1) ?_|refine callS.eq (w102 _ k2) ?_|exact trivial|refine aO ?_|refine eO ?_|apply jO|refine K1 (jO h1 (jO h2 (jO h3' (jO h3 (jO @gt_iff_lt.{0} (jO @decide_true (jO @decide_false (jO @not_true @not_false_eq_true)))))))) ?_|intro h)
   ·have h2':ZV r.left=false:=by simpa using h2
    (with_reducible repeat' first|refine callS.eq (w102 _ k1) ?_|refine callS.eq (w102 _ k2) ?_|exact trivial|refine aO ?_|refine eO ?_|apply jO|refine K1 (jO h1 h2') ?_|intro h)
  ·have h1':ZV r.name=false:=by simpa using h1
   (with_reducible repeat' first|refine callS.eq (w102 _ k1) ?_|refine callS.eq (w102 _ k2) ?_|exact trivial|refine aO ?_|refine eO ?_|apply jO|refine K1 h1' ?_|intro h)
theorem w63 (r:Rul) (hs:okRu r) (hm:smRu r):Pu 63 [Ru r] (· = B (Zw r)):=by
 obtain ⟨m1,m2,m3,m4,m5⟩:=hm
 obtain ⟨k1,k2,k3,k4,k5⟩:=hs
 refine Z8 mxd i63 rfl (by simp) ?_;refine X0 ?_
 (refine V0 ?_)
 by_cases hh:ZV r.name=true∧ZV r.left=true∧r.right.length≤3∧r.cons.length≤2
 ·obtain ⟨h1,h2,h3,h4⟩:=id hh
  have h3':¬(3:Int)<r.right.length:=by omega
  have h4':¬(2:Int)<r.cons.length:=by omega
  (with_reducible repeat' first|refine callS.eq (w86 _ k1) ?_|refine callS.eq (w86 _ k2) ?_|exact trivial|refine aO ?_|refine eO ?_|apply jO|refine K1 (jO h1 (jO h2 (jO h3' (jO h4' (jO @gt_iff_lt.{0} @decide_false))))) ?_|intro h)
  refine Zu mxd (ι:={ i:Nat // i≤r.right.length∧∀a∈r.right.take i,ZV a=true }) (fun i=>[(1,.rop 6 (Ru r)),(3,I r.right.length),(4,I i.1)]) (fun _ => []) (fun i=>r.right.length-i.1) ⟨0,by simp⟩ (by simp[E2]) rfl ?_
  rintro ⟨i,hi,hn⟩
  rcases nL i r.right.length with hlt|hge
  ·(refine V0 ?_;with_reducible repeat' first|intro h|apply jO)
   all_goals try exact oF
   refine callS.eq (w86 _ (k3 _ (gM hlt))) ?_
   rcases bC (ZV r.right[i]) with hv|hv
   ·rw[rulV_r hlt hv]
    (refine V1 hv ?_;with_reducible repeat' exact trivial)
   ·(refine V1 hv ?_)
    exact nx ⟨i+1,oT,XC hlt hv hn⟩ (by simp<;>omega) (by simp[E2]) rfl
  ·obtain rfl:i=r.right.length:=by omega
   rw[List.take_length] at hn
   (refine V0 ?_;with_reducible repeat' intro h)
   all_goals try exact oF
   refine Zu mxd (ι:={ i:Nat // i≤r.eqs.length∧∀a∈r.eqs.take i,eqnV r.right.length a=true }) (fun i=>[(1,.rop 6 (Ru r)),(3,I r.right.length),(5,I i.1)]) (fun _ => []) (fun i=>r.eqs.length-i.1) ⟨0,by simp⟩ (by simp[E2]) rfl ?_
   rintro ⟨i,hi,hn2⟩
   rcases nL i r.eqs.length with hlt|hge
   ·have hq:=k4 _ (gM hlt)
    have hw:=m4 _ (gM hlt)
    (refine V1 @XE ?_;with_reducible repeat' first|intro h|apply jO)
    all_goals try exact oF
    have hb:eqnV r.right.length r.eqs[i]=false→Zw r=false:=rulV_e hlt
    refine callS.eq (w86 _ hq.1) ?_
    rcases bC (ZV r.eqs[i].name) with hu|hu
    ·rw[hb (by simp only[eqnV,hu,Bool.false_and,Bool.and_false])]
     (refine V1 hu ?_;with_reducible repeat' exact trivial)
    ·(refine V1 (jO hu @XE) ?_)
     refine callS.eq (w92 _ _ _) ?_
     by_cases hp:0≤r.eqs[i].pos ∧ r.eqs[i].pos ≤ r.right.length
     ·(refine V1 (jO hp (jO @and_self (jO @decide_true @XE))) ?_)
      refine callS.eq (w93 r.eqs[i].expr r.right.length hq.2 hw) ?_
      rcases bC (fitE r.eqs[i].expr r.right.length) with hv|hv
      ·rw[hb (by simp only[eqnV,hv,Bool.false_and])]
       (refine V1 hv ?_;with_reducible repeat' exact trivial)
      ·(refine V1 (jO hv @XE) ?_)
       exact nx ⟨i+1,oT,XC hlt (by simp only[eqnV,hv,hu,decide_eq_true hp,Bool.true_and]) hn2⟩ (by simp<;>omega) (by simp[E2]) rfl
     ·rw[hb (by simp only[eqnV,hu,decide_eq_false hp,Bool.and_false])]
      (refine V1 (jO hp @decide_false) ?_;with_reducible repeat' exact trivial)
   ·obtain rfl:i=r.eqs.length:=by omega
    rw[List.take_length] at hn2
    (refine V0 ?_;with_reducible repeat' intro h)
    all_goals try exact oF
    refine Zu mxd (ι:={ i:Nat // i≤r.cons.length∧∀a∈r.cons.take i,conV r.right.length a=true }) (fun i=>[(1,.rop 6 (Ru r)),(3,I r.right.length),(7,I i.1)]) (fun _ => []) (fun i=>r.cons.length-i.1) ⟨0,by simp⟩ (by simp[E2]) rfl ?_
    rintro ⟨i,hi,hn3⟩
    rcases nL i r.cons.length with hlt|hge
    ·have hq:=k5 _ (gM hlt)
     have hw:=m5 _ (gM hlt)
     (refine V1 @XE ?_;with_reducible repeat' first|intro h|apply jO)
     all_goals try exact oF
     have hb:conV r.right.length r.cons[i]=false→Zw r=false:=rulV_c hlt
     refine callS.eq (w86 _ hq.1) ?_
     rcases bC (ZV r.cons[i].sym) with hx|hx
     ·rw[hb (by simp only[conV,hx,Bool.false_and,Bool.and_false])]
      (refine V1 hx ?_;with_reducible repeat' exact trivial)
     ·(refine V1 (jO hx @XE) ?_)
      refine callS.eq (w86 _ hq.2.1) ?_
      rcases bC (ZV r.cons[i].name) with hy|hy
      ·rw[hb (by simp only[conV,hx,hy,Bool.false_and,Bool.and_false])]
       (refine V1 hy ?_;with_reducible repeat' exact trivial)
      ·(refine V1 (jO hy @XE) ?_)
       refine callS.eq (w93 r.cons[i].goal r.right.length hq.2.2.1 hw.1) ?_
       rcases bC (fitE r.cons[i].goal r.right.length) with hv|hv
       ·rw[hb (by simp only[conV,hv,Bool.false_and])]
        (refine V1 hv ?_;with_reducible repeat' exact trivial)
       ·(refine V1 (jO hv @XE) ?_)
        refine callS.eq (w93 r.cons[i].value r.right.length hq.2.2.2 hw.2) ?_
        rcases bC (fitE r.cons[i].value r.right.length) with hu|hu
        ·rw[hb (by simp only[conV,hv,hu,Bool.false_and,Bool.and_false])]
         (refine V1 hu ?_;with_reducible repeat' exact trivial)
        ·(refine V1 hu ?_)
         exact nx ⟨i+1,oT,XC hlt (by simp only[conV,hv,hu,hx,hy,Bool.true_and]) hn3⟩ (by simp<;>omega) (by simp[E2]) rfl
    ·obtain rfl:i=r.cons.length:=by omega
     rw[List.take_length] at hn3
     rw[rulV_ok hh hn hn2 hn3]
     (refine V0 ?_;with_reducible repeat' intro h)
     all_goals try exact oF
 ·rw[rulV_h hh]
  have h3':((3:Int)<r.right.length)=¬(r.right.length≤3):=propext oT
  have h4':((2:Int)<r.cons.length)=¬(r.cons.length≤2):=propext oT
  by_cases h1:ZV r.name=true
  ·by_cases h2:ZV r.left=true
   ·by_cases h3:r.right.length≤3
    ·have h4:¬r.cons.length≤2:=fun h=>hh ⟨h1,h2,h3,h⟩
     (with_reducible repeat' first|refine callS.eq (w86 _ k1) ?_|refine callS.eq (w86 _ k2) ?_|exact trivial|refine aO ?_|refine eO ?_|apply jO|refine K1 (jO h1 (jO h2 (jO h3' (jO h4' (jO h3 (jO h4 (jO @gt_iff_lt.{0} (jO @decide_true (jO @decide_false (jO @not_true @not_false_eq_true)))))))))) ?_|intro h)
    ·(with_reducible repeat' first|refine callS.eq (w86 _ k1) ?_|refine callS.eq (w86 _ k2) ?_|exact trivial|refine aO ?_|refine eO ?_|apply jO|refine K1 (jO h1 (jO h2 (jO h3' (jO h3 (jO @gt_iff_lt.{0} (jO @decide_true (jO @decide_false (jO @not_true @not_false_eq_true)))))))) ?_|intro h)
   ·have h2':ZV r.left=false:=by simpa using h2
    (with_reducible repeat' first|refine callS.eq (w86 _ k1) ?_|refine callS.eq (w86 _ k2) ?_|exact trivial|refine aO ?_|refine eO ?_|apply jO|refine K1 (jO h1 h2') ?_|intro h)
  ·have h1':ZV r.name=false:=by simpa using h1
   (with_reducible repeat' first|refine callS.eq (w86 _ k1) ?_|refine callS.eq (w86 _ k2) ?_|exact trivial|refine aO ?_|refine eO ?_|apply jO|refine K1 h1' ?_|intro h)
end Go.Proofs.YtmdfoigdflaliabGreatDoor
