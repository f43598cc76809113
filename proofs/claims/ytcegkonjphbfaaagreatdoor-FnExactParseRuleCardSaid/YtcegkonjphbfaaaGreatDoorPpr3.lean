/- The tied card of the law holds. No condition. -/
import Derived.Test.YtcegkonjphbfaaaGreatDoorPpr2
set_option maxHeartbeats 40000000
set_option maxRecDepth 20000
set_option linter.unusedSimpArgs false
set_option linter.unusedVariables false
namespace Go.Proofs.YtcegkonjphbfaaaGreatDoor
open Go.Gh
open Nat (reduceEqDiff reduceLeDiff reduceAdd reduceLT)
open Int (reduceNe)
theorem Tryz.dec_i {p:Prop} {i:Decidable p}:(@decide p i=true)=p:=propext ⟨of_decide_eq_true,decide_eq_true⟩
theorem Tryz.chN (s:ByteArray):(Z9 s=Z9 (⟨#[]⟩:ByteArray))=(s=noS):=propext chars_inj
theorem w180 (e:Exp) (hl:e.args.length≤1048576):Pu 180 [Ex e] (· = B (bareV e)):=by
 have hk:e.kind=1∨e.kind=3∨e.kind=4∨e.kind=5∨e.kind=6∨e.kind=8∨(¬e.kind=1∧¬e.kind=3∧¬e.kind=4∧¬e.kind=5∧¬e.kind=6∧¬e.kind=8):=by omega
 have hl0:((e.args.length:Int)=0)=(e.args.length=0):=propext (by omega)
 have hl1:((e.args.length:Int)=1)=(e.args.length=1):=propext (by omega)
 have hl2:((e.args.length:Int)=2)=(e.args.length=2):=propext (by omega)
 have hl3:((e.args.length:Int)=3)=(e.args.length=3):=propext (by omega)
 rcases hk with hk|hk|hk|hk|hk|hk|⟨hk1,hk3,hk4,hk5,hk6,hk8⟩
 all_goals
  refine Z8 mxd i180 rfl (by simp) ?_;refine X0 ?_
  first|simp (maxSteps:=9^7) only[↓ S2,S2,Y8,↓reduceIte,reduceNe,reduceEqDiff,reduceCtorEq,reduceLeDiff,reduceAdd,reduceLT,XE,hk,Int.reduceEq,decide_false,decide_true,hl0,hl1,hl2,hl3]|simp (maxSteps:=9^7) only[↓ S2,S2,Y8,↓reduceIte,reduceNe,reduceEqDiff,reduceCtorEq,reduceLeDiff,reduceAdd,reduceLT,XE,hk1,hk3,hk4,hk5,hk6,hk8,Int.reduceEq,decide_false,decide_true,hl0,hl1,hl2,hl3]
  try simp only[Tryz.chN]
  clear hl0 hl1 hl2 hl3
  (with_reducible repeat' (first|intro h|refine And.intro (by omega) ?_ | refine exP (by omega) ?_ | apply And.intro))
  all_goals
   congr 2
   rw[Bool.eq_iff_iff]
   simp[bareV,arity,Tryz.dec_i, *]
theorem w151 (e:Exp) (hl:e.args.length≤1048576) (ho:okE e):Pu 151 [Ex e] (· = B (YT e)):=by
 obtain ⟨hs,hm,_⟩:=okE_eq.1 ho
 have hk:e.kind=1∨e.kind=2∨e.kind=3∨e.kind=4∨e.kind=5∨e.kind=6∨e.kind=7∨e.kind=8∨(¬(1≤e.kind∧e.kind≤8)):=by omega
 rcases hk with hk|hk|hk|hk|hk|hk|hk|hk|hk
 all_goals
  refine Z8 mxd i151 rfl (by simp) ?_;refine X0 ?_
  (repeat' (first|(with_reducible refine callS.eq (w72 _ _ _) ?_)|(with_reducible refine callS.eq (w180 e hl) ?_)|(with_reducible refine callS.eq (w152 _ _) ?_)|(with_reducible refine callS.eq (w71 _ hs) ?_)|(with_reducible refine callS.eq (w71 _ hm) ?_)|simp (maxSteps:=9^7) only[↓ S2,S2,Y8,↓reduceIte,reduceNe,reduceEqDiff,reduceCtorEq,reduceLeDiff,reduceAdd,reduceLT,XE,hk]|simp only[Zj]|simp +contextual (disch:=omega) only[Z2]|with_reducible first|intro h|refine And.intro (by omega) ?_ | refine exP (by omega) ?_ | apply And.intro))
  all_goals try exact oF
  all_goals first
   | (simp_all [YT];done)
   | (simp_all [YT];intros;omega)
   | (congr 2;rw[Bool.eq_iff_iff];simp[YT,hk, *];done)
theorem w118:∀e:Exp,okE e→wEx e≤1048576→Pu 118 [Ex e] (· = B (YR YT e)):=by
 refine Exp.indA fun e ih ho hw=> ?_
 obtain ⟨hl,ha⟩:=X1 hw
 obtain ⟨_,_,hoa⟩:=okE_eq.1 ho
 refine Z8 mxd i118 rfl (by simp) ?_;refine X0 ?_
 simp (maxSteps:=9^7) only[↓ S2,S2,Y8,↓reduceIte,reduceNe,reduceEqDiff,reduceCtorEq,reduceLeDiff,reduceAdd,reduceLT,XE]
 refine Zk mxd (ι:={ i:Nat // i≤e.args.length∧∀a∈e.args.take i,YR YT a=true }) (fun i=>[(1,.rop 7 (Ex e)),(3,I i.1)]) (fun _ => []) (fun i=>e.args.length-i.1) ⟨0,by simp⟩ (by simp[E2]) rfl ?_
 rintro ⟨i,hi,hn⟩
 rcases nL i e.args.length with hlt|hge
 ·(repeat' (first|(with_reducible refine callS.eq (ih _ (gM hlt) (hoa _ (gM hlt)) (ha _ (gM hlt))) ?_)|simp (maxSteps:=9^7) only[↓ S2,S2,Y8,↓reduceIte,reduceNe,reduceEqDiff,reduceCtorEq,reduceLeDiff,reduceAdd,reduceLT,XE]|simp only[Zj]|simp +contextual (disch:=omega) only[Z2]|with_reducible first|intro h|refine And.intro (by omega) ?_ | refine exP (by omega) ?_ | apply And.intro))
  all_goals try exact oF
  ·exact nx ⟨i+1,by omega,all_take hlt (by assumption) hn⟩ (by simp;omega) (by simp[E2]) rfl
  ·rw[allE_no hlt (by assumption)]
 ·have:i=e.args.length:=by omega
  subst this
  rw[tL (Nat.le_refl _)] at hn
  rw[allE_yes hn]
  (repeat' (first|(with_reducible refine callS.eq (w151 e hl ho) ?_)|simp (maxSteps:=9^7) only[↓ S2,S2,Y8,↓reduceIte,reduceNe,reduceEqDiff,reduceCtorEq,reduceLeDiff,reduceAdd,reduceLT,XE]|simp only[Zj]|simp +contextual (disch:=omega) only[Z2]|with_reducible first|intro h|refine And.intro (by omega) ?_ | refine exP (by omega) ?_ | apply And.intro))
theorem w74 (e:Exp) (ho:okE e) (hw:wEx e≤1048576):Pu 74 [Ex e] (· = B (Zo e)):=by
 have hc:=cntE_le e
 have hd:=dpE_le e
 refine Z8 mxd i74 rfl (by simp) ?_;refine X0 ?_
 (repeat' (first|(with_reducible refine callS.eq (w116 e hw _ (by omega) (by omega)) ?_)|(with_reducible refine callS.eq (w117 e hw) ?_)|(with_reducible refine callS.eq (w118 e ho hw) ?_)|simp (maxSteps:=9^7) only[↓ S2,S2,Y8,↓reduceIte,reduceNe,reduceEqDiff,reduceCtorEq,reduceLeDiff,reduceAdd,reduceLT,XE]|simp only[Zj]|simp +contextual (disch:=omega) only[Z2]|with_reducible first|intro h|refine And.intro (by omega) ?_ | refine exP (by omega) ?_ | apply And.intro))
 all_goals (simp only[Zo])
 all_goals first
  | (rw[decide_eq_true (show Zr e≤24 by omega),decide_eq_true (show dpE e≤6 by omega)];rfl)
  | (rw[decide_eq_false (show ¬Zr e≤24 by omega)];rfl)
  | (rw[decide_eq_false (show ¬dpE e≤6 by omega),Bool.and_false];rfl)
theorem Tryz.dec_j {p:Prop} {i:Decidable p}:(@decide p i=true)=p:=propext ⟨of_decide_eq_true,decide_eq_true⟩
theorem w127 (e : Exp) (hl : e.args.length ≤ 1048576) (ho : okE e) : Pu 127 [Ex e] (· = B (YT e)) := by
  obtain ⟨hs, hm, _⟩ := okE_eq.1 ho
  refine Pure.bor ?_
  have hl1 : ((e.args.length : Int) = 1) = (e.args.length = 1) := propext (by omega)
  have hl2 : ((e.args.length : Int) = 2) = (e.args.length = 2) := propext (by omega)
  have hl3 : ((e.args.length : Int) = 3) = (e.args.length = 3) := propext (by omega)
  have hk : e.kind = 1 ∨ e.kind = 2 ∨ e.kind = 3 ∨ e.kind = 4 ∨ e.kind = 5 ∨ e.kind = 6 ∨ e.kind = 7 ∨ e.kind = 8 ∨ (¬ e.kind = 1 ∧ ¬ e.kind = 2 ∧ ¬ e.kind = 3 ∧ ¬ e.kind = 4 ∧ ¬ e.kind = 5 ∧ ¬ e.kind = 6 ∧ ¬ e.kind = 7 ∧ ¬ e.kind = 8) := by omega
  rcases hk with hk | hk | hk | hk | hk | hk | hk | hk | hk
  all_goals
    refine Z8 mxd i127 rfl (by simp) ?_; refine X0 ?_
    (repeat' (first | (with_reducible refine callS.eq (w46 _ _ _) ?_) | (with_reducible refine callS.eq (w100 _ _) ?_) | (with_reducible refine callS.eq (w44 _ hs) ?_) | (with_reducible refine callS.eq (w44 _ hm) ?_) | (with_reducible refine callS.eq (w80 e _ _ _ _ _ _ _) ?_) | simp (maxSteps := 9^7) only [↓ S2, S2, Y8, ↓reduceIte, reduceNe, reduceEqDiff, reduceCtorEq, reduceLeDiff, reduceAdd, reduceLT, XE, hk] | simp only [Zj] | simp +contextual (disch := omega) only [Z2] | with_reducible first | intro h | refine And.intro (by omega) ?_ | refine exP (by omega) ?_ | apply And.intro))
    all_goals try exact oF
    all_goals refine .of_eq ?_
    all_goals first
      | (simp_all [YT, bareV, arity, noS_eq]; done)
      | (simp_all [YT, bareV, arity, noS_eq]; intros; omega)
      | (have hr := okV_rng (show okV e.n e.type = true by assumption)
         congr 2
         rw [Bool.eq_iff_iff]
         try simp only [Bool.and_eq_true, Tryz.dec_j]
         try simp only [noS_eq]
         simp [YT, bareV, arity, hk]
         try (constructor <;> intro hh <;> (try simp_all) <;> (try omega)))
      | (congr 2
         rw [Bool.eq_iff_iff]
         try simp only [Bool.and_eq_true, Tryz.dec_j]
         try simp only [noS_eq]
         simp [YT, bareV, arity, hk]
         try (constructor <;> intro hh <;> (try simp_all) <;> (try omega)))
theorem w85 (e:Exp) (ho:okE e) (hw:wEx e≤1048576):Pu 85 [Ex e] (· = B (Zo e)):=by
 have hc:=cntE_le e
 have hd:=dpE_le e
 have hev:=w86 127 [] YT (fun e=>okE e∧wEx e≤1048576) (fun e h a ha=>⟨(okE_eq.1 h.1).2.2 a ha,(X1 h.2).2 a ha⟩) (fun x h=>w127 x (X1 h.2).1 h.1) e ⟨ho,hw⟩
 refine Z8 mxd i85 rfl (by simp) ?_;refine X0 ?_
 (repeat' (first|(with_reducible refine callS.eq (w125 e hw) ?_)|(with_reducible refine callS.eq (w126 e hw) ?_)|(with_reducible refine callS.eq (hev) ?_)|simp (maxSteps:=9^7) only[↓ S2,S2,Y8,↓reduceIte,reduceNe,reduceEqDiff,reduceCtorEq,reduceLeDiff,reduceAdd,reduceLT,XE]|simp only[Zj]|simp +contextual (disch:=omega) only[Z2]|with_reducible first|intro h|refine And.intro (by omega) ?_ | refine exP (by omega) ?_ | apply And.intro))
 all_goals (simp only[Zo])
 all_goals first
  | (rw[decide_eq_true (show Zr e≤24 by omega),decide_eq_true (show dpE e≤6 by omega)];rfl)
  | (rw[decide_eq_false (show ¬Zr e≤24 by omega)];rfl)
  | (rw[decide_eq_false (show ¬dpE e≤6 by omega),Bool.and_false];rfl)
end Go.Proofs.YtcegkonjphbfaaaGreatDoor
namespace Go.Proofs.YtcegkonjphbfaaaGreatDoor
open Go.Gh
open Nat (reduceEqDiff reduceLeDiff reduceAdd reduceLT)
open Int (reduceNe)
end Go.Proofs.YtcegkonjphbfaaaGreatDoor
namespace Go.Proofs.YtcegkonjphbfaaaGreatDoor
open Go.Gh
open Nat (reduceEqDiff reduceLeDiff reduceAdd reduceLT)
open Int (reduceNe)
theorem o16 (xs:List ByteArray) (hx:xs.length≤1048576) (H:GH):Gc 16 [TS xs] H (fun g H'=>∃r,g = .own r 1 0 xs.length∧H'=(r,1,xs.map T)::H):=by
 refine Z8 mxd i16 rfl (by simp) ?_;refine X0 ?_
 (try refine ⟨by omega,by omega,by omega,by omega,?_⟩)
 intro r hr
 refine Zk mxd (ι:={ i:Nat // i≤xs.length }) (fun i=>[(0,TS xs),(3,.own r 1 0 xs.length),(4,I i.1)]) (fun i=>(r,1,(xs.take i.1).map T++List.replicate (xs.length-i.1) (T noS))::H) (fun i=>xs.length-i.1) ⟨0,by simp⟩ (by simp[E2]) (by simp[noS]) ?_
 rintro ⟨i,hi⟩
 (refine R0 ?_;with_reducible repeat' first|intro h|apply jO)
 ·refine ⟨by simp;omega,nx ⟨i+1,by omega⟩ (by simp;omega) (by simp[E2]) ?_⟩
  rw[fill_set xs T (T noS) i h]
 ·have:i=xs.length:=by omega
  subst this
  exact ⟨r,rfl,by simp⟩
theorem w19 (r n:Nat) (k:Int) (es:List ByteArray) (H:GH) (hr:Z6 H r=some (1,es.map T)) (hn:es.length=n) (hk:0≤k) (hb:k+smw wS es<9223372036854775807) :
 Gc 19 [.own r 1 0 n,I k] H (fun g H'=>g=I (k+smw wS es)∧H'=Z1 H r ((smk wS mkTx es k).map T)):=by
 refine Z8 mxd i19 rfl (by simp) ?_;refine X0 ?_
 refine Zk mxd (ι:={ i:Nat // i≤n }) (fun i=>[(0,.own r 1 0 n),(1,I (k+smw wS (es.take i.1))),(5,I i.1)]) (fun i=>Z1 H r ((smk wS mkTx (es.take i.1) k++es.drop i.1).map T)) (fun i=>n-i.1) ⟨0,by omega⟩ (by simp[E2,smw]) (by simp[smk];rw[YJ hr]) ?_
 rintro ⟨i,hi⟩
 rcases nL i n with h|h
 ·have ht:i<es.length:=by omega
  have e1:smw wS (es.take (i+1))=smw wS (es.take i)+1:=smw_step wS ht
  have e2:=smw_take wS es (i+1)
  have e3:=smw_len wS (fun _ => by simp[wS,wI,wA]) es
  have hl:(smk wS mkTx (es.take i) k++es.drop i).length = es.length:=smid_len wS mkTx
  (refine R1 (jO (hgS hr) @Z4) ?_;with_reducible repeat' first|intro h|refine aO ?_|apply jO)
  ·refine callS.eq (w53 _ (by omega)) ?_
   (refine R1 (jO (hgS hr) @Z4) ?_)
   refine nx ⟨i+1,by omega⟩ (by simp;omega) (by simp[E2];omega) ?_
   rw[←smid_set wS mkTx ht,List.map_set]
  all_goals (exfalso;omega)
 ·have:i=n:=by omega
  subst this
  (refine R1 (jO (hgS hr) @Z4) ?_;with_reducible repeat' first|intro h|apply jO)
  ·rw[tL (by omega)]
  ·rw[tL (by omega),List.drop_of_length_le (by omega),List.append_nil]
theorem wa94:∀(e:Exp) (r n:Nat) (k:Int) (H:GH) (_ : Z6 H r=some (7,e.args.map ExO)) (_ : e.args.length=n) (_ : 0≤k) (_ : k+smw ctE e.args<9223372036854775807),
 Gc 94 [.own r 7 0 n,I k] H (fun g H'=>g=I (k+smw ctE e.args)∧H'=Z1 H r ((smk ctE mkE e.args k).map ExO)):=by
 refine Exp.indA fun e ih=> ?_
 intro r n k H hr hn hk hb
 generalize e.args=es at *
 refine Z8 mxd i94 rfl (by simp) ?_;refine X0 ?_
 refine wloopF mxd (ι:={ i:Nat // i≤n }) (fun i=>[(0,.own r 7 0 n),(1,I (k+smw ctE (es.take i.1))),(5,I i.1)]) (fun i=>Z1 H r ((smk ctE mkE (es.take i.1) k++es.drop i.1).map ExO)) (fun i=>n-i.1) ⟨0,by omega⟩ FE.refl (by simp[E2,smw]) (by simp[smk];rw[YJ hr]) ?_
 rintro ⟨i,hi⟩ hnd
 dsimp only at hnd ⊢
 rcases nL i n with h|h
 ·have ht:i<es.length:=by omega
  have hml:(smk ctE mkE (es.take i) k++es.drop i).length = es.length:=smid_len ctE mkE
  have hmid:i<(smk ctE mkE (es.take i) k++es.drop i).length := by rw[hml];exact ht
  have e0:=ctE_eq es[i]
  have e1:smw ctE (es.take (i+1))=smw ctE (es.take i)+(ctE es[i]):=smw_step ctE ht
  have e2:=smw_take ctE es (i+1)
  have e3:=smw_len ctE (fun x=>by rw[ctE_eq];omega) es
  refine GW.opn (r:=r) (i:=i) (j:=6) (ZK hr) (by rw[List.getElem?_map,List.getElem?_eq_getElem hmid,smid_get _ _ ht];exact congrArg some (ExO_eq es[i])) rfl fun r1 hn1=> ?_
  have hne:r1≠r:=ZN hn1 (ZK hr)
  rw[Z4]
  refine Y1 mxd ?_
  (refine R1 (jO (hgO hne) (jO (hsO hne) (jO (hgS hr) (jO @Z4 (jO @List.getElem_set_self.{0} (jO @List.set_set.{0} @List.length_set.{0})))))) ?_;with_reducible repeat' first|intro h|refine aO ?_|apply jO)
  all_goals try exact oF
  refine callS.eq (w53 _ (by omega)) ?_
  (refine R1 (jO (hgO hne) (jO (hsO hne) (jO (hgS hr) (jO @Z4 (jO @List.getElem_set_self.{0} (jO @List.set_set.{0} @List.length_set.{0})))))) ?_)
  all_goals try exact oF
  refine callS.eq (w53 _ (by omega)) ?_
  (refine R1 (jO (hgO hne) (jO (hsO hne) (jO (hgS hr) (jO @Z4 (jO @List.getElem_set_self.{0} (jO @List.set_set.{0} @List.length_set.{0})))))) ?_)
  all_goals try exact oF
  refine callS.of (ih es[i] (gM _) r1 _ _ _ Z0 (by simp) (by omega) (by omega)) ?_
  rintro g H' ⟨rfl,rfl⟩ -
  rw[YU]
  (refine R1 (jO (hgO hne) (jO (hsO hne) (jO (hgS hr) (jO @Z4 (jO @List.getElem_set_self.{0} (jO @List.set_set.{0} @List.length_set.{0})))))) ?_)
  all_goals try exact oF
  refine nxF ⟨i+1,by omega⟩ (by simp;omega) (FE.close3 hr hne (j:=6) (by simpa using hmid) rfl (by simp[ZH])) (by simp[E2];omega) ?_
  rw[←smid_set ctE mkE ht,List.map_set,mkE_eq,ExO_eq]
  rfl
 ·have:i=n:=by omega
  subst this
  refine Y1 mxd ?_
  (refine R0 ?_;with_reducible repeat' first|intro h|apply jO)
  ·rw[tL (by omega)]
  ·rw[tL (by omega),List.drop_of_length_le (by omega),List.append_nil]
theorem w94 (r n:Nat) (k:Int) (es:List Exp) (H:GH) (hr:Z6 H r=some (7,es.map ExO)) (hn:es.length=n) (hk:0≤k) (hb:k+smw ctE es<9223372036854775807) :
 Gc 94 [.own r 7 0 n,I k] H (fun g H'=>g=I (k+smw ctE es)∧H'=Z1 H r ((smk ctE mkE es k).map ExO)):=
 wa94 (.mk 0 0 0 0 noS noS es) r n k H hr hn hk hb
theorem w54 (r n:Nat) (k:Int) (es:List Eqn) (H:GH) (hr:Z6 H r=some (9,es.map QnO)) (hn:es.length=n) (hk:0≤k) (hb:k+smw wQ es<9223372036854775807) :
 Gc 54 [.own r 9 0 n,I k] H (fun g H'=>g=I (k+smw wQ es)∧H'=Z1 H r ((smk wQ mkQ es k).map QnO)):=by
 refine Z8 mxd i54 rfl (by simp) ?_;refine X0 ?_
 refine wloopF mxd (ι:={ i:Nat // i≤n }) (fun i=>[(0,.own r 9 0 n),(1,I (k+smw wQ (es.take i.1))),(5,I i.1)]) (fun i=>Z1 H r ((smk wQ mkQ (es.take i.1) k++es.drop i.1).map QnO)) (fun i=>n-i.1) ⟨0,by omega⟩ FE.refl (by simp[E2,smw]) (by simp[smk];rw[YJ hr]) ?_
 rintro ⟨i,hi⟩ hnd
 dsimp only at hnd ⊢
 rcases nL i n with h|h
 ·have ht:i<es.length:=by omega
  have hml:(smk wQ mkQ (es.take i) k++es.drop i).length = es.length:=smid_len wQ mkQ
  have hmid:i<(smk wQ mkQ (es.take i) k++es.drop i).length := by rw[hml];exact ht
  have e0:=ctE_eq es[i].expr
  have e1:smw wQ (es.take (i+1))=smw wQ (es.take i)+(2+ctE es[i].expr):=smw_step wQ ht
  have e2:=smw_take wQ es (i+1)
  have e3:=smw_len wQ (fun x=>by show 1≤2 + _;omega) es
  refine GW.opn (r:=r) (i:=i) (j:=8) (ZK hr) (by rw[List.getElem?_map,List.getElem?_eq_getElem hmid,smid_get _ _ ht];rfl) rfl fun r1 hn1=> ?_
  have hne:r1≠r:=ZN hn1 (ZK hr)
  rw[Z4]
  refine Y1 mxd ?_
  (refine R1 (jO (hgO hne) (jO (hsO hne) (jO (hgS hr) (jO @Z4 (jO @List.getElem_set_self.{0} (jO @List.set_set.{0} @List.length_set.{0})))))) ?_;with_reducible repeat' first|intro h|refine aO ?_|apply jO)
  all_goals try exact oF
  refine callS.eq (w53 _ (by omega)) ?_
  (refine R1 (jO (hgO hne) (jO (hsO hne) (jO (hgS hr) (jO @Z4 (jO @List.getElem_set_self.{0} (jO @List.set_set.{0} @List.length_set.{0})))))) ?_)
  all_goals try exact oF
  refine callS.eq (w53 _ (by omega)) ?_
  (refine R1 (jO (hgO hne) (jO (hsO hne) (jO (hgS hr) (jO @Z4 (jO @List.getElem_set_self.{0} (jO @List.set_set.{0} @List.length_set.{0})))))) ?_)
  all_goals try exact oF
  refine callS.eq (w53 _ (by omega)) ?_
  (refine R1 (jO (hgO hne) (jO (hsO hne) (jO (hgS hr) (jO @Z4 (jO @List.getElem_set_self.{0} (jO @List.set_set.{0} @List.length_set.{0})))))) ?_)
  all_goals try exact oF
  refine callS.of (w94 r1 _ _ es[i].expr.args _ Z0 (by simp) (by omega) (by omega)) ?_
  rintro g H' ⟨rfl,rfl⟩ -
  rw[YU]
  (refine R1 (jO (hgO hne) (jO (hsO hne) (jO (hgS hr) (jO @Z4 (jO @List.getElem_set_self.{0} (jO @List.set_set.{0} @List.length_set.{0})))))) ?_)
  all_goals try exact oF
  refine nxF ⟨i+1,by omega⟩ (by simp;omega) (FE.close3 hr hne (j:=8) (by simpa using hmid) rfl (by simp[ZH])) (by simp[E2];omega) ?_
  have ee:mkQ es[i] (k+smw wQ (es.take i)) = _ := (congrArg (Eqn.mk _ _) (mkE_eq _ _))
  rw[←smid_set wQ mkQ ht,List.map_set,ee]
  rfl
 ·have:i=n:=by omega
  subst this
  refine Y1 mxd ?_
  (refine R0 ?_;with_reducible repeat' first|intro h|apply jO)
  ·rw[tL (by omega)]
  ·rw[tL (by omega),List.drop_of_length_le (by omega),List.append_nil]
theorem w55 (r n:Nat) (k:Int) (es:List Con) (H:GH) (hr:Z6 H r=some (16,es.map CoO)) (hn:es.length=n) (hk:0≤k) (hb:k+smw wC es<9223372036854775807) :
 Gc 55 [.own r 16 0 n,I k] H (fun g H'=>g=I (k+smw wC es)∧H'=Z1 H r ((smk wC mkC es k).map CoO)):=by
 refine Z8 mxd i55 rfl (by simp) ?_;refine X0 ?_
 refine wloopF mxd (ι:={ i:Nat // i≤n }) (fun i=>[(0,.own r 16 0 n),(1,I (k+smw wC (es.take i.1))),(5,I i.1)]) (fun i=>Z1 H r ((smk wC mkC (es.take i.1) k++es.drop i.1).map CoO)) (fun i=>n-i.1) ⟨0,by omega⟩ FE.refl (by simp[E2,smw]) (by simp[smk];rw[YJ hr]) ?_
 rintro ⟨i,hi⟩ hnd
 dsimp only at hnd ⊢
 rcases nL i n with h|h
 ·have ht:i<es.length:=by omega
  have hml:(smk wC mkC (es.take i) k++es.drop i).length = es.length:=smid_len wC mkC
  have hmid:i<(smk wC mkC (es.take i) k++es.drop i).length := by rw[hml];exact ht
  have e0:=ctE_eq es[i].goal
  have e00:=ctE_eq es[i].value
  have e1:smw wC (es.take (i+1))=smw wC (es.take i)+(2+ctE es[i].goal + ctE es[i].value):=smw_step wC ht
  have e2:=smw_take wC es (i+1)
  have e3:=smw_len wC (fun x=>by show 1≤2 + _ + _;omega) es
  refine GW.opn (r:=r) (i:=i) (j:=8) (ZK hr) (by rw[List.getElem?_map,List.getElem?_eq_getElem hmid,smid_get _ _ ht];rfl) rfl fun r1 hn1=> ?_
  have hne1:r1≠r:=ZN hn1 (ZK hr)
  rw[Z4]
  refine GW.opn (r:=r) (i:=i) (j:=15) (by rw[ZX hne1,ZK hr]) (List.getElem?_set_self (by simpa using hmid)) rfl fun r2 hn2=> ?_
  have hne2:r2≠r:=ZN hn2 (by rw[ZX hne1,ZK hr])
  have hne21:r2≠r1:=ZN hn2 Z0
  rw[ZJ hne1,Z4,List.set_set]
  refine Y1 mxd ?_
  (refine R1 (jO (hgO hne1) (jO (hsO hne1) (jO (hgO hne2) (jO (hsO hne2) (jO (hgO hne21) (jO (hsO hne21) (jO (hgS hr) (jO @Z4 (jO @List.getElem_set_self.{0} (jO @List.set_set.{0} @List.length_set.{0})))))))))) ?_;with_reducible repeat' first|intro h|refine aO ?_|apply jO)
  all_goals try exact oF
  iterate 4
   (refine callS.eq (w53 _ (by omega)) ?_
    (refine R1 (jO (hgO hne1) (jO (hsO hne1) (jO (hgO hne2) (jO (hsO hne2) (jO (hgO hne21) (jO (hsO hne21) (jO (hgS hr) (jO @Z4 (jO @List.getElem_set_self.{0} (jO @List.set_set.{0} @List.length_set.{0})))))))))) ?_))
  all_goals try exact oF
  refine callS.of (w94 r1 _ _ es[i].goal.args _ (by rw[ZX hne21,Z0]) (by simp) (by omega) (by omega)) ?_
  rintro g H' ⟨rfl,rfl⟩ -
  rw[ZJ hne21,YU]
  (refine R1 (jO (hgO hne1) (jO (hsO hne1) (jO (hgO hne2) (jO (hsO hne2) (jO (hgO hne21) (jO (hsO hne21) (jO (hgS hr) (jO @Z4 (jO @List.getElem_set_self.{0} (jO @List.set_set.{0} @List.length_set.{0})))))))))) ?_)
  all_goals try exact oF
  iterate 2
   (refine callS.eq (w53 _ (by omega)) ?_
    (refine R1 (jO (hgO hne1) (jO (hsO hne1) (jO (hgO hne2) (jO (hsO hne2) (jO (hgO hne21) (jO (hsO hne21) (jO (hgS hr) (jO @Z4 (jO @List.getElem_set_self.{0} (jO @List.set_set.{0} @List.length_set.{0})))))))))) ?_))
  all_goals try exact oF
  refine callS.of (w94 r2 _ _ es[i].value.args _ Z0 (by simp) (by omega) (by omega)) ?_
  rintro g H' ⟨rfl,rfl⟩ -
  rw[YU]
  (refine R1 (jO (hgO hne1) (jO (hsO hne1) (jO (hgO hne2) (jO (hsO hne2) (jO (hgO hne21) (jO (hsO hne21) (jO (hgS hr) (jO @Z4 (jO @List.getElem_set_self.{0} (jO @List.set_set.{0} @List.length_set.{0})))))))))) ?_)
  all_goals try exact oF
  refine nxF ⟨i+1,by omega⟩ (by simp;omega) (FE.trans (FE.closeT (r:=r) (j:=15) (i:=i) hne2 (by rw[ZX hne1,ZK hr]) (by simpa using hmid) rfl (by simp[ZH])) (by rw[ZJ hne1,Z4];exact FE.closeT (r:=r) (j:=8) (i:=i) hne1 (ZK hr) (by simpa using hmid) rfl (by simp[ZH]))) (by simp[E2];omega) ?_
  have ee:=congr (congrArg (Con.mk (mtext (k+smw wC (es.take i))) (mtext (k+smw wC (es.take i)+1))) (mkE_eq es[i].goal (k+smw wC (es.take i)+1+1))) (mkE_eq es[i].value (k+smw wC (es.take i)+1+1+1+1+1+1+1+1+smw ctE es[i].goal.args))
  rw[←smid_set wC mkC ht,List.map_set,show mkC es[i] (k+smw wC (es.take i)) = _ from ee,Z4]
  rfl
 ·have:i=n:=by omega
  subst this
  refine Y1 mxd ?_
  (refine R0 ?_;with_reducible repeat' first|intro h|apply jO)
  ·rw[tL (by omega)]
  ·rw[tL (by omega),List.drop_of_length_le (by omega),List.append_nil]
theorem wa95:∀(e:Exp) (k:Int) (_ : 0≤k) (_ : k+smw ctE e.args<9223372036854775807),
 Pu 95 [ExS (smk ctE mkE e.args k),I k] (· = I (k+smw ctE e.args)):=by
 refine Exp.indA fun e ih=> ?_
 intro k hk hb
 generalize e.args=l at *
 have e4:=smw_len ctE (fun x=>by rw[ctE_eq];omega) l
 refine Z8 mxd i95 rfl (by simp) ?_;refine X0 ?_
 refine Zk mxd (ι:={ i:Nat // i≤l.length }) (fun i=>[(0,ExS (smk ctE mkE l k)),(1,I (k+smw ctE (l.take i.1))),(5,I i.1)]) (fun i=>[]) (fun i=>l.length-i.1) ⟨0,by omega⟩ (by simp[E2,smw]) rfl ?_
 rintro ⟨i,hi⟩
 rcases nL i l.length with h|h
 ·have e0:=ctE_eq l[i]
  have e1:smw ctE (l.take (i+1))=smw ctE (l.take i)+ctE l[i]:=smw_step ctE h
  have e2:=smw_take ctE l (i+1)
  have hl:i<(smk ctE mkE l k).length := by rw[ZH];exact h
  have e6:Ex (smk ctE mkE l k)[i]=Ex (mkE l[i] (k+smw ctE (l.take i))):=congrArg Ex (smk_getE ctE mkE h hl)
  rw[mkE_eq,mkX] at e6
  ((try refine qI ?_);(repeat ((first|with_reducible refine qU ?_ | simp only[Zj]);try simp (maxSteps:=9^7) only[↓ S2,S2,Y8,↓reduceIte,reduceNe,reduceEqDiff,reduceCtorEq,reduceLeDiff,reduceAdd,reduceLT,ZH,e6]));(try simp +contextual (disch:=omega) only[Z2,ZH,e6]);(with_reducible repeat' (first|intro h|refine And.intro (by omega) ?_ | refine exP (by omega) ?_ | apply And.intro)))
  all_goals try exact oF
  iterate 2
   (refine callS.eq (w53 _ (by omega)) ?_
    ((try refine qI ?_);(repeat ((first|with_reducible refine qU ?_ | simp only[Zj]);try simp (maxSteps:=9^7) only[↓ S2,S2,Y8,↓reduceIte,reduceNe,reduceEqDiff,reduceCtorEq,reduceLeDiff,reduceAdd,reduceLT,ZH,e6]));(try simp +contextual (disch:=omega) only[Z2,ZH,e6]);(with_reducible repeat' (first|intro h|refine And.intro (by omega) ?_ | refine exP (by omega) ?_ | apply And.intro)))
    all_goals try exact oF)
  refine callS.eq (ih l[i] (gM _) _ (by omega) (by omega)) ?_
  ((try refine qI ?_);(repeat ((first|with_reducible refine qU ?_ | simp only[Zj]);try simp (maxSteps:=9^7) only[↓ S2,S2,Y8,↓reduceIte,reduceNe,reduceEqDiff,reduceCtorEq,reduceLeDiff,reduceAdd,reduceLT,ZH,e6]));(try simp +contextual (disch:=omega) only[Z2,ZH,e6]);(with_reducible repeat' (first|intro h|refine And.intro (by omega) ?_ | refine exP (by omega) ?_ | apply And.intro)))
  all_goals try exact oF
  exact nx ⟨i+1,by omega⟩ (by simp;omega) (by simp[E2];omega) rfl
 ·((try refine qI ?_);(repeat ((first|with_reducible refine qU ?_ | simp only[Zj]);try simp (maxSteps:=9^7) only[↓ S2,S2,Y8,↓reduceIte,reduceNe,reduceEqDiff,reduceCtorEq,reduceLeDiff,reduceAdd,reduceLT,ZH]));(try simp +contextual (disch:=omega) only[Z2,ZH]);(with_reducible repeat' (first|intro h|refine And.intro (by omega) ?_ | refine exP (by omega) ?_ | apply And.intro)))
  rw[tL (by omega)]
end Go.Proofs.YtcegkonjphbfaaaGreatDoor
namespace Go.Proofs.YtcegkonjphbfaaaGreatDoor
open Go.Gh
open Nat (reduceEqDiff reduceLeDiff reduceAdd reduceLT)
open Int (reduceNe)
theorem w87 (e:Exp) (n:Int):Pu 87 [Ex e,.rop 1 (I n)] (· = B (decide (e.pos≤n))):=by
 refine Z8 mxd i87 rfl (by simp) ?_;refine X0 ?_
 (refine V1 @XE ?_;with_reducible repeat' exact trivial)
theorem w45 (e:Exp) (n:Int) (ho:okE e) (hw:wEx e≤1048576):Pu 45 [Ex e,I n] (· = B (fitE e n)):=by
 refine Z8 mxd i45 rfl (by simp) ?_;refine X0 ?_
 (refine V1 @XE ?_)
 refine callS.eq (w85 e ho hw) ?_
 rcases bC (Zo e) with hv|hv
 ·(refine V1 (jO @XE hv) ?_)
  all_goals simp[fitE,hv]
 ·(refine V1 (jO @XE hv) ?_)
  refine callS.eq (w86 87 [.rop 1 (I n)] (fun x=>decide (x.pos≤n)) (fun _ => True) (fun _ _ _ _ => trivial) (fun x _ => w87 x n) e trivial) ?_
  (refine V0 ?_)
  all_goals simp[fitE,hv]
theorem w115:∀(e:Exp) (n:Int),wEx e≤1048576→Pu 115 [Ex e,I n] (· = B (YR (fun x=>decide (x.pos≤n)) e)):=by
 refine Exp.indA fun e ih n hw=> ?_
 obtain ⟨hl,ha⟩:=X1 hw
 refine Z8 mxd i115 rfl (by simp) ?_;refine X0 ?_
 (refine V1 @XE ?_)
 refine Zk mxd (ι:={ i:Nat // i≤e.args.length∧∀a∈e.args.take i,YR (fun x=>decide (x.pos≤n)) a=true }) (fun i=>[(1,I n),(2,.rop 7 (Ex e)),(5,I i.1)]) (fun _ => []) (fun i=>e.args.length-i.1) ⟨0,by simp⟩ (by simp[E2]) rfl ?_
 rintro ⟨i,hi,hn⟩
 rcases nL i e.args.length with hlt|hge
 ·(refine V1 @XE ?_;with_reducible repeat' first|intro h|apply jO)
  all_goals try exact oF
  refine callS.eq (ih _ (gM hlt) n (ha _ (gM hlt))) ?_
  rcases (Bool.eq_false_or_eq_true (YR (fun x=>decide (x.pos≤n)) e.args[i])).symm with hv|hv
  ·rw[allE_no hlt hv]
   (refine V1 hv ?_;with_reducible repeat' exact trivial)
  ·(refine V1 hv ?_)
   exact nx ⟨i+1,by omega,all_take hlt hv hn⟩ (by simp<;>omega) (by simp[E2]) rfl
 ·obtain rfl:i=e.args.length:=by omega
  rw[List.take_length] at hn
  rw[allE_yes hn]
  (refine V1 @XE ?_;with_reducible repeat' intro h)
  all_goals try exact oF
theorem w73 (e:Exp) (n:Int) (ho:okE e) (hw:wEx e≤1048576):Pu 73 [Ex e,I n] (· = B (fitE e n)):=by
 refine Z8 mxd i73 rfl (by simp) ?_;refine X0 ?_
 (refine V1 @XE ?_)
 refine callS.eq (w74 e ho hw) ?_
 rcases bC (Zo e) with hv|hv
 ·(refine V1 (jO @XE hv) ?_)
  all_goals simp[fitE,hv]
 ·(refine V1 (jO @XE hv) ?_)
  refine callS.eq (w115 e n hw) ?_
  (refine V0 ?_)
  all_goals simp[fitE,hv]
theorem w13 (r:Rul) (hs:okRu r) (hm:smRu r):Pu 13 [Ru r] (· = B (YX r)):=by
 obtain ⟨m1,m2,m3,m4,m5⟩:=hm
 obtain ⟨k1,k2,k3,k4,k5⟩:=hs
 refine Z8 mxd i13 rfl (by simp) ?_;refine X0 ?_
 (refine V0 ?_)
 by_cases hh:ZS r.name=true∧ZS r.left=true∧r.right.length≤3∧r.cons.length≤2
 ·obtain ⟨h1,h2,h3,h4⟩:=id hh
  have h3':¬(3:Int)<r.right.length:=by omega
  have h4':¬(2:Int)<r.cons.length:=by omega
  (with_reducible repeat' first|refine callS.eq (w44 _ k1) ?_|refine callS.eq (w44 _ k2) ?_|exact trivial|refine aO ?_|refine eO ?_|apply jO|refine K1 (jO h1 (jO h2 (jO h3' (jO h4' (jO @gt_iff_lt.{0} @decide_false))))) ?_|intro h)
  refine Zk mxd (ι:={ i:Nat // i≤r.right.length∧∀a∈r.right.take i,ZS a=true }) (fun i=>[(1,.rop 6 (Ru r)),(3,I r.right.length),(34,TS r.right),(35,I r.right.length),(36,I i.1)]) (fun _ => []) (fun i=>r.right.length-i.1) ⟨0,by simp⟩ (by simp[E2]) rfl ?_
  rintro ⟨i,hi,hn⟩
  rcases nL i r.right.length with hlt|hge
  ·(refine V0 ?_;with_reducible repeat' first|intro h|apply jO)
   all_goals try exact oF
   refine callS.eq (w44 _ (k3 _ (gM hlt))) ?_
   rcases bC (ZS r.right[i]) with hv|hv
   ·rw[rulV_r hlt hv]
    (refine V1 hv ?_;with_reducible repeat' exact trivial)
   ·(refine V1 hv ?_)
    exact nx ⟨i+1,by omega,takeP_step hlt hv hn⟩ (by simp<;>omega) (by simp[E2]) rfl
  ·obtain rfl:i=r.right.length:=by omega
   rw[List.take_length] at hn
   (refine V0 ?_;with_reducible repeat' intro h)
   all_goals try exact oF
   refine Zk mxd (ι:={ i:Nat // i≤r.eqs.length∧∀a∈r.eqs.take i,eqnV r.right.length a=true }) (fun i=>[(1,.rop 6 (Ru r)),(3,I r.right.length),(45,QnS r.eqs),(46,I r.eqs.length),(47,I i.1)]) (fun _ => []) (fun i=>r.eqs.length-i.1) ⟨0,by simp⟩ (by simp[E2]) rfl ?_
   rintro ⟨i,hi,hn2⟩
   rcases nL i r.eqs.length with hlt|hge
   ·have hq:=k4 _ (gM hlt)
    have hw:=m4 _ (gM hlt)
    (refine V1 @XE ?_;with_reducible repeat' first|intro h|apply jO)
    all_goals try exact oF
    refine callS.eq (w45 r.eqs[i].expr r.right.length hq.2 hw) ?_
    have hb:eqnV r.right.length r.eqs[i]=false→YX r=false:=rulV_e hlt
    rcases bC (fitE r.eqs[i].expr r.right.length) with hv|hv
    ·rw[hb (by simp only[eqnV,hv,Bool.false_and])]
     (refine V1 hv ?_;with_reducible repeat' exact trivial)
    ·(refine V1 (jO hv @XE) ?_)
     refine callS.eq (w44 _ hq.1) ?_
     rcases bC (ZS r.eqs[i].name) with hu|hu
     ·rw[hb (by simp only[eqnV,hv,hu,Bool.false_and,Bool.and_false])]
      (refine V1 hu ?_;with_reducible repeat' exact trivial)
     ·(refine V1 (jO hu @XE) ?_)
      refine callS.eq (w46 _ _ _) ?_
      by_cases hp:0≤r.eqs[i].pos ∧ r.eqs[i].pos ≤ r.right.length
      ·(refine V1 (jO hp (jO @and_self @decide_true)) ?_)
       exact nx ⟨i+1,by omega,takeP_step hlt (by simp only[eqnV,hv,hu,decide_eq_true hp,Bool.true_and]) hn2⟩ (by simp<;>omega) (by simp[E2]) rfl
      ·rw[hb (by simp only[eqnV,hv,hu,decide_eq_false hp,Bool.and_false])]
       (refine V1 (jO hp @decide_false) ?_;with_reducible repeat' exact trivial)
   ·obtain rfl:i=r.eqs.length:=by omega
    rw[List.take_length] at hn2
    (refine V0 ?_;with_reducible repeat' intro h)
    all_goals try exact oF
    refine Zk mxd (ι:={ i:Nat // i≤r.cons.length∧∀a∈r.cons.take i,conV r.right.length a=true }) (fun i=>[(3,I r.right.length),(73,CoS r.cons),(74,I r.cons.length),(75,I i.1)]) (fun _ => []) (fun i=>r.cons.length-i.1) ⟨0,by simp⟩ (by simp[E2]) rfl ?_
    rintro ⟨i,hi,hn3⟩
    rcases nL i r.cons.length with hlt|hge
    ·have hq:=k5 _ (gM hlt)
     have hw:=m5 _ (gM hlt)
     (refine V1 @XE ?_;with_reducible repeat' first|intro h|apply jO)
     all_goals try exact oF
     refine callS.eq (w45 r.cons[i].goal r.right.length hq.2.2.1 hw.1) ?_
     have hb:conV r.right.length r.cons[i]=false→YX r=false:=rulV_c hlt
     rcases bC (fitE r.cons[i].goal r.right.length) with hv|hv
     ·rw[hb (by simp only[conV,hv,Bool.false_and])]
      (refine V1 hv ?_;with_reducible repeat' exact trivial)
     ·(refine V1 (jO hv @XE) ?_)
      refine callS.eq (w45 r.cons[i].value r.right.length hq.2.2.2 hw.2) ?_
      rcases bC (fitE r.cons[i].value r.right.length) with hu|hu
      ·rw[hb (by simp only[conV,hv,hu,Bool.false_and,Bool.and_false])]
       (refine V1 hu ?_;with_reducible repeat' exact trivial)
      ·(refine V1 (jO hu @XE) ?_)
       refine callS.eq (w44 _ hq.1) ?_
       rcases bC (ZS r.cons[i].sym) with hx|hx
       ·rw[hb (by simp only[conV,hv,hu,hx,Bool.false_and,Bool.and_false])]
        (refine V1 hx ?_;with_reducible repeat' exact trivial)
       ·(refine V1 (jO hx @XE) ?_)
        refine callS.eq (w44 _ hq.2.1) ?_
        rcases bC (ZS r.cons[i].name) with hy|hy
        ·rw[hb (by simp only[conV,hv,hu,hx,hy,Bool.false_and,Bool.and_false])]
         (refine V1 hy ?_;with_reducible repeat' exact trivial)
        ·(refine V1 hy ?_)
         exact nx ⟨i+1,by omega,takeP_step hlt (by simp only[conV,hv,hu,hx,hy,Bool.true_and]) hn3⟩ (by simp<;>omega) (by simp[E2]) rfl
    ·obtain rfl:i=r.cons.length:=by omega
     rw[List.take_length] at hn3
     rw[rulV_ok hh hn hn2 hn3]
     (refine V0 ?_;with_reducible repeat' intro h)
     all_goals try exact oF
 ·rw[rulV_h hh]
  have h3':((3:Int)<r.right.length)=¬(r.right.length≤3):=propext (by omega)
  have h4':((2:Int)<r.cons.length)=¬(r.cons.length≤2):=propext (by omega)
  by_cases h1:ZS r.name=true
  ·by_cases h2:ZS r.left=true
   ·by_cases h3:r.right.length≤3
    ·have h4:¬r.cons.length≤2:=fun h=>hh ⟨h1,h2,h3,h⟩
     (with_reducible repeat' first|refine callS.eq (w44 _ k1) ?_|refine callS.eq (w44 _ k2) ?_|exact trivial|refine aO ?_|refine eO ?_|apply jO|refine K1 (jO h1 (jO h2 (jO h3' (jO h4' (jO h3 (jO h4 (jO @gt_iff_lt.{0} (jO @decide_true (jO @decide_false (jO @not_true @not_false_eq_true)))))))))) ?_|intro h)
    ·(with_reducible repeat' first|refine callS.eq (w44 _ k1) ?_|refine callS.eq (w44 _ k2) ?_|exact trivial|refine aO ?_|refine eO ?_|apply jO|refine K1 (jO h1 (jO h2 (jO h3' (jO h3 (jO @gt_iff_lt.{0} (jO @decide_true (jO @decide_false (jO @not_true @not_false_eq_true)))))))) ?_|intro h)
   ·have h2':ZS r.left=false:=by simpa using h2
    (with_reducible repeat' first|refine callS.eq (w44 _ k1) ?_|refine callS.eq (w44 _ k2) ?_|exact trivial|refine aO ?_|refine eO ?_|apply jO|refine K1 (jO h1 h2') ?_|intro h)
  ·have h1':ZS r.name=false:=by simpa using h1
   (with_reducible repeat' first|refine callS.eq (w44 _ k1) ?_|refine callS.eq (w44 _ k2) ?_|exact trivial|refine aO ?_|refine eO ?_|apply jO|refine K1 h1' ?_|intro h)
theorem w32 (r:Rul) (hs:okRu r) (hm:smRu r):Pu 32 [Ru r] (· = B (YX r)):=by
 obtain ⟨m1,m2,m3,m4,m5⟩:=hm
 obtain ⟨k1,k2,k3,k4,k5⟩:=hs
 refine Z8 mxd i32 rfl (by simp) ?_;refine X0 ?_
 (refine V0 ?_)
 by_cases hh:ZS r.name=true∧ZS r.left=true∧r.right.length≤3∧r.cons.length≤2
 ·obtain ⟨h1,h2,h3,h4⟩:=id hh
  have h3':¬(3:Int)<r.right.length:=by omega
  have h4':¬(2:Int)<r.cons.length:=by omega
  (with_reducible repeat' first|refine callS.eq (w71 _ k1) ?_|refine callS.eq (w71 _ k2) ?_|exact trivial|refine aO ?_|refine eO ?_|apply jO|refine K1 (jO h1 (jO h2 (jO h3' (jO h4' (jO @gt_iff_lt.{0} @decide_false))))) ?_|intro h)
  refine Zk mxd (ι:={ i:Nat // i≤r.right.length∧∀a∈r.right.take i,ZS a=true }) (fun i=>[(1,.rop 6 (Ru r)),(3,I r.right.length),(4,I i.1)]) (fun _ => []) (fun i=>r.right.length-i.1) ⟨0,by simp⟩ (by simp[E2]) rfl ?_
  rintro ⟨i,hi,hn⟩
  rcases nL i r.right.length with hlt|hge
  ·(refine V0 ?_;with_reducible repeat' first|intro h|apply jO)
   all_goals try exact oF
   refine callS.eq (w71 _ (k3 _ (gM hlt))) ?_
   rcases bC (ZS r.right[i]) with hv|hv
   ·rw[rulV_r hlt hv]
    (refine V1 hv ?_;with_reducible repeat' exact trivial)
   ·(refine V1 hv ?_)
    exact nx ⟨i+1,by omega,takeP_step hlt hv hn⟩ (by simp<;>omega) (by simp[E2]) rfl
  ·obtain rfl:i=r.right.length:=by omega
   rw[List.take_length] at hn
   (refine V0 ?_;with_reducible repeat' intro h)
   all_goals try exact oF
   refine Zk mxd (ι:={ i:Nat // i≤r.eqs.length∧∀a∈r.eqs.take i,eqnV r.right.length a=true }) (fun i=>[(1,.rop 6 (Ru r)),(3,I r.right.length),(5,I i.1)]) (fun _ => []) (fun i=>r.eqs.length-i.1) ⟨0,by simp⟩ (by simp[E2]) rfl ?_
   rintro ⟨i,hi,hn2⟩
   rcases nL i r.eqs.length with hlt|hge
   ·have hq:=k4 _ (gM hlt)
    have hw:=m4 _ (gM hlt)
    (refine V1 @XE ?_;with_reducible repeat' first|intro h|apply jO)
    all_goals try exact oF
    have hb:eqnV r.right.length r.eqs[i]=false→YX r=false:=rulV_e hlt
    refine callS.eq (w71 _ hq.1) ?_
    rcases bC (ZS r.eqs[i].name) with hu|hu
    ·rw[hb (by simp only[eqnV,hu,Bool.false_and,Bool.and_false])]
     (refine V1 hu ?_;with_reducible repeat' exact trivial)
    ·(refine V1 (jO hu @XE) ?_)
     refine callS.eq (w72 _ _ _) ?_
     by_cases hp:0≤r.eqs[i].pos ∧ r.eqs[i].pos ≤ r.right.length
     ·(refine V1 (jO hp (jO @and_self (jO @decide_true @XE))) ?_)
      refine callS.eq (w73 r.eqs[i].expr r.right.length hq.2 hw) ?_
      rcases bC (fitE r.eqs[i].expr r.right.length) with hv|hv
      ·rw[hb (by simp only[eqnV,hv,Bool.false_and])]
       (refine V1 hv ?_;with_reducible repeat' exact trivial)
      ·(refine V1 (jO hv @XE) ?_)
       exact nx ⟨i+1,by omega,takeP_step hlt (by simp only[eqnV,hv,hu,decide_eq_true hp,Bool.true_and]) hn2⟩ (by simp<;>omega) (by simp[E2]) rfl
     ·rw[hb (by simp only[eqnV,hu,decide_eq_false hp,Bool.and_false])]
      (refine V1 (jO hp @decide_false) ?_;with_reducible repeat' exact trivial)
   ·obtain rfl:i=r.eqs.length:=by omega
    rw[List.take_length] at hn2
    (refine V0 ?_;with_reducible repeat' intro h)
    all_goals try exact oF
    refine Zk mxd (ι:={ i:Nat // i≤r.cons.length∧∀a∈r.cons.take i,conV r.right.length a=true }) (fun i=>[(1,.rop 6 (Ru r)),(3,I r.right.length),(7,I i.1)]) (fun _ => []) (fun i=>r.cons.length-i.1) ⟨0,by simp⟩ (by simp[E2]) rfl ?_
    rintro ⟨i,hi,hn3⟩
    rcases nL i r.cons.length with hlt|hge
    ·have hq:=k5 _ (gM hlt)
     have hw:=m5 _ (gM hlt)
     (refine V1 @XE ?_;with_reducible repeat' first|intro h|apply jO)
     all_goals try exact oF
     have hb:conV r.right.length r.cons[i]=false→YX r=false:=rulV_c hlt
     refine callS.eq (w71 _ hq.1) ?_
     rcases bC (ZS r.cons[i].sym) with hx|hx
     ·rw[hb (by simp only[conV,hx,Bool.false_and,Bool.and_false])]
      (refine V1 hx ?_;with_reducible repeat' exact trivial)
     ·(refine V1 (jO hx @XE) ?_)
      refine callS.eq (w71 _ hq.2.1) ?_
      rcases bC (ZS r.cons[i].name) with hy|hy
      ·rw[hb (by simp only[conV,hx,hy,Bool.false_and,Bool.and_false])]
       (refine V1 hy ?_;with_reducible repeat' exact trivial)
      ·(refine V1 (jO hy @XE) ?_)
       refine callS.eq (w73 r.cons[i].goal r.right.length hq.2.2.1 hw.1) ?_
       rcases bC (fitE r.cons[i].goal r.right.length) with hv|hv
       ·rw[hb (by simp only[conV,hv,Bool.false_and])]
        (refine V1 hv ?_;with_reducible repeat' exact trivial)
       ·(refine V1 (jO hv @XE) ?_)
        refine callS.eq (w73 r.cons[i].value r.right.length hq.2.2.2 hw.2) ?_
        rcases bC (fitE r.cons[i].value r.right.length) with hu|hu
        ·rw[hb (by simp only[conV,hv,hu,Bool.false_and,Bool.and_false])]
         (refine V1 hu ?_;with_reducible repeat' exact trivial)
        ·(refine V1 hu ?_)
         exact nx ⟨i+1,by omega,takeP_step hlt (by simp only[conV,hv,hu,hx,hy,Bool.true_and]) hn3⟩ (by simp<;>omega) (by simp[E2]) rfl
    ·obtain rfl:i=r.cons.length:=by omega
     rw[List.take_length] at hn3
     rw[rulV_ok hh hn hn2 hn3]
     (refine V0 ?_;with_reducible repeat' intro h)
     all_goals try exact oF
 ·rw[rulV_h hh]
  have h3':((3:Int)<r.right.length)=¬(r.right.length≤3):=propext (by omega)
  have h4':((2:Int)<r.cons.length)=¬(r.cons.length≤2):=propext (by omega)
  by_cases h1:ZS r.name=true
  ·by_cases h2:ZS r.left=true
   ·by_cases h3:r.right.length≤3
    ·have h4:¬r.cons.length≤2:=fun h=>hh ⟨h1,h2,h3,h⟩
     (with_reducible repeat' first|refine callS.eq (w71 _ k1) ?_|refine callS.eq (w71 _ k2) ?_|exact trivial|refine aO ?_|refine eO ?_|apply jO|refine K1 (jO h1 (jO h2 (jO h3' (jO h4' (jO h3 (jO h4 (jO @gt_iff_lt.{0} (jO @decide_true (jO @decide_false (jO @not_true @not_false_eq_true)))))))))) ?_|intro h)
    ·(with_reducible repeat' first|refine callS.eq (w71 _ k1) ?_|refine callS.eq (w71 _ k2) ?_|exact trivial|refine aO ?_|refine eO ?_|apply jO|refine K1 (jO h1 (jO h2 (jO h3' (jO h3 (jO @gt_iff_lt.{0} (jO @decide_true (jO @decide_false (jO @not_true @not_false_eq_true)))))))) ?_|intro h)
   ·have h2':ZS r.left=false:=by simpa using h2
    (with_reducible repeat' first|refine callS.eq (w71 _ k1) ?_|refine callS.eq (w71 _ k2) ?_|exact trivial|refine aO ?_|refine eO ?_|apply jO|refine K1 (jO h1 h2') ?_|intro h)
  ·have h1':ZS r.name=false:=by simpa using h1
   (with_reducible repeat' first|refine callS.eq (w71 _ k1) ?_|refine callS.eq (w71 _ k2) ?_|exact trivial|refine aO ?_|refine eO ?_|apply jO|refine K1 h1' ?_|intro h)
end Go.Proofs.YtcegkonjphbfaaaGreatDoor
