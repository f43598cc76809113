/- The tied card of the law holds. No condition. -/
import Derived.Test.YtcegkonjphbfaaaGreatDoorPpr6
import Derived.Test.YtcegkonjphbfaaaGreatDoorPpr11
set_option maxHeartbeats 40000000
set_option maxRecDepth 20000
set_option linter.unusedSimpArgs false
set_option linter.unusedVariables false
namespace Go.Proofs.YtcegkonjphbfaaaGreatDoor
open Go.Gh
open Nat (reduceEqDiff reduceLeDiff reduceAdd reduceLT)
open Int (reduceNe)
open Go.Lib
theorem p62 (n t:Int) (hc:(t=1∧0≤n∧n≤1000000)∨(t=2∧0≤n∧n≤4095)∨(t=3∧(n=0∨n=1))):PureT Tryz.prog (tab10 1) 62 [I n,I t] (· = .val (mkS (ZZ (.mk 1 n 0 t noS noS [])))):=by
 have hok:=okV_con hc
 have hty:=w100 n t
 rw[hok] at hty
 rcases hc with ⟨rfl,h0,h1⟩|⟨rfl,h0,h1⟩|⟨rfl,h1⟩
 ·rw[txt_num]
  refine Z8 mxd i62 rfl (by simp) ?_;refine X0 ?_
  (refine V0 ?_)
  refine callS.eq hty ?_
  (refine V0 ?_)
  refine callS.eqT (p24 n (by omega) (by omega)) (Zq 1) (fun _ h=>h) ?_
  (refine V0 ?_;with_reducible repeat' exact trivial)
 ·rw[txt_set]
  have hjl:(Zs [32] ((Yw n).map fun k:Nat=>itoa k)).length ≤ 96:=by
   have h3:=join_len ((Yw n).map fun k:Nat=>itoa k) (by
    intro x hx
    obtain ⟨k,hk,rfl⟩:=List.mem_map.1 hx
    have:=(setL_lt n).2 k hk
    exact YY (by omega) (by omega))
   have h4:=setL_len n
   rw[List.length_map] at h3
   omega
  change GCalls _ _ _ [(7,1000000,[])] _
  refine Z8 mxd i62 rfl (by simp) ?_;refine X0 ?_
  (refine V0 ?_)
  refine callS.eq hty ?_
  (refine V0 ?_;with_reducible repeat' first|intro h|refine aO ?_)
  rename_i r
  refine ploop mxd (ι:={ x:Nat×Nat // x.2≤12 }) (fun x=>[(0,I n),(1,I 2),(5,.own x.1.1 1 0 (setK n x.1.2).length),(41,I x.1.2)]) (fun x=>[(x.1.1,1,((setK n x.1.2).map nS).map T),(7,1000000,[])]) (fun x=>12-x.1.2) ⟨(r,0),by simp⟩ (by simp[E2,setK_zero]) (by simp[subH,Z6,names,setK_zero, *]) ?_
  rintro ⟨⟨q,i⟩,hi⟩ hn
  dsimp only at hi hn ⊢
  have hn0:=hn
  (replace hn0:=hn0;simp only[VN] at hn0)
  have hkl:=setK_len n i
  rcases nL i 12 with hlt|hge
  ·have hit:((i:Int)<12)=True:=eq_true (by omega)
   have hwu:=wrapU (i:Int) (by omega) (by omega)
   have hbt:=bit_of h0 h1 (k:=i) (by omega)
   have hst:=setK_succ n i
   cases hb:n.toNat.testBit i with
   | true=>
    rw[hb,if_pos rfl] at hbt hst
    (refine V1 (jO hit (jO hwu hbt)) ?_)
    all_goals try exact oF
    refine callS.eqT (p24 (i:Int) (by omega) (by omega)) (Zq 1) (by simp[tab10]) ?_
    (refine V1 @List.length_map.{0,0} ?_;with_reducible repeat' first|intro h|refine aO ?_)
    all_goals try exact oF
    all_goals try (simp;omega;done)
    rename_i r1 _ r2
    exact px ⟨(r2,i+1),hlt⟩ (by dsimp only;omega) (by dsimp only;rw[hst];simp[E2]) (by dsimp only;rw[hst];simp[subH,Z6,names,List.take_of_length_le, *])
   | false=>
    rw[hb,if_neg (by decide)] at hbt hst
    (refine V1 (jO hit (jO hwu hbt)) ?_;with_reducible repeat' intro h)
    all_goals try exact oF
    exact px ⟨(q,i+1),hlt⟩ (by dsimp only;omega) (by dsimp only;rw[hst];simp[E2]) (by dsimp only;rw[hst];simp[subH,Z6,names, *])
  ·obtain rfl:i=12:=by omega
   have hit:(((12:Nat):Int)<12)=False:=eq_false (by omega)
   (refine V1 hit ?_)
   all_goals try exact oF
   have ej:((Yw n).map nS).map Z9=(Yw n).map fun k:Nat=>itoa k:=by rw[List.map_map];rfl
   refine callS.borA (w101 ((Yw n).map nS) ⟨#[32]⟩ (by have:=setL_len n;rw[List.length_map];omega) (by rw[ej];exact Nat.le_trans hjl (by omega))) (.cons (Bor.seen (f:=T) (fun a=>by simp[view,Y7]) Z0 (by rw[List.length_map];rfl)) (.cons .refl .nil)) rfl ?_
   rw[ej,show Z9 ⟨#[32]⟩=[32] from rfl]
   generalize Zs [32] ((Yw n).map fun k:Nat=>itoa k)=J at *
   (refine V0 ?_;with_reducible repeat' apply jO)
   all_goals first|(exfalso;omega)|(simp[chA];done)|(simp[chA];omega)
 ·rw[txt_bool]
  rcases h1 with rfl|rfl
  ·refine Z8 mxd i62 rfl (by simp) ?_;refine X0 ?_
   (refine V0 ?_)
   refine callS.eq hty ?_
   (refine V0 ?_;with_reducible repeat' first|intro h|refine aO ?_)
   all_goals rfl
  ·refine Z8 mxd i62 rfl (by simp) ?_;refine X0 ?_
   (refine V0 ?_)
   refine callS.eq hty ?_
   (refine V0 ?_;with_reducible repeat' intro h)
   all_goals rfl
theorem w102 (e:Exp):Pu 102 [Ex e] (· = I (lvE e)):=by
 have hag:Go.Gh.isAgg (Ex e)=true:=by rw[ZA];rfl
 by_cases h4:e.kind=4
 ·rw[lvE_4 h4]
  refine Z8 mxd i102 rfl (by simp) ?_;refine X0 ?_
  (refine V1 (jO @XE (jO h4 hag)) ?_;with_reducible repeat' intro h)
  all_goals try exact oF
  refine callS.eq (w103 _) ?_
  (refine V0 ?_;with_reducible repeat' exact trivial)
 ·refine Z8 mxd i102 rfl (by simp) ?_;refine X0 ?_
  (refine V1 (jO @XE (jO h4 hag)) ?_;with_reducible repeat' first|intro h|apply jO)
  all_goals first|(simp[lvE, *];done)|trace_state
theorem w104 (n:Int) (h1:1≤n) (h2:n≤12):Pu 104 [I n] (· = T (opW n)):=by
 have hw:=w46 n 1 12
 rw[decide_eq_true (show 1≤n∧n≤12 from ⟨h1,h2⟩)] at hw
 have:=mem12 h1 h2
 simp only[List.mem_cons,List.not_mem_nil,or_false] at this
 rcases this with rfl|rfl|rfl|rfl|rfl|rfl|rfl|rfl|rfl|rfl|rfl|rfl
 all_goals (
  refine Z8 mxd i104 rfl (by simp) ?_;refine X0 ?_
  (refine V0 ?_)
  refine callS.eq hw ?_
  (refine V2 (jO @List.getElem_cons_zero.{0} @List.getElem_cons_succ.{0}) ?_)
  refine stop_aidx rfl rfl rfl (by decide) (by decide) ?_
  (refine V0 ?_)
  all_goals first|rfl|trace_state)
theorem Tryz.opd7 (e:Exp) (L:Nat) (hL:L≤4) (hlen:(ZZ e).length ≤ 1000000) (h:PureT Tryz.prog (tab10 1) 25 [Ex e] (· = .val (mkS (ZZ e)))):PureT Tryz.prog (tab10 1) 63 [Ex e,I L] (· = .val (mkS (oprT L e))):=by
 have hag:Go.Gh.isAgg (Ex e)=true:=by rw[ZA];rfl
 have hlv:=lvE_bd e
 rw[oprT_eq]
 generalize ZZ e=A at *
 by_cases hc:lvE e<L
 ·rw[if_pos hc]
  have hc':((lvE e:Int)<(L:Int))=True:=eq_true (by omega)
  refine Z8 mxd i63 rfl (by simp) ?_;refine X0 ?_
  (refine V1 (jO @XE hag) ?_)
  refine callS.eq (w102 e) ?_
  (refine V1 (jO hc' (jO @XE hag)) ?_)
  (refine V1 (jO hc' (jO @XE hag)) ?_)
  refine callS.eqT h (Zq 1) (fun _ h=>h) ?_
  (refine V1 @XE ?_;with_reducible repeat' apply jO)
  all_goals first|(exfalso;omega)|(simp only[chA,List.length_append,List.length_cons,List.length_nil];omega)|(simp[chA];done)|trace_state
 ·rw[if_neg hc]
  have hc':((lvE e:Int)<(L:Int))=False:=eq_false (by omega)
  refine Z8 mxd i63 rfl (by simp) ?_;refine X0 ?_
  (refine V1 (jO @XE hag) ?_)
  refine callS.eq (w102 e) ?_
  (refine V1 (jO hc' (jO @XE hag)) ?_)
  (refine V1 (jO hc' (jO @XE hag)) ?_)
  refine callS.eqT h (Zq 1) (fun _ h=>h) ?_
  (refine V0 ?_;with_reducible repeat' exact trivial)
theorem Tryz.opt7 (e a b:Exp) (h:IsOp e a b) (he:e = .mk 4 e.n 0 0 noS noS [a,b]) (hla:(ZZ a).length ≤ 500000) (hlb:(ZZ b).length ≤ 500000)
 (ha:PureT Tryz.prog (tab10 1) 25 [Ex a] (· = .val (mkS (ZZ a)))) (hb:PureT Tryz.prog (tab10 1) 25 [Ex b] (· = .val (mkS (ZZ b)))):PureT Tryz.prog (tab10 1) 64 [Ex e] (· = .val (mkS (ZZ e))):=by
 have n0:=h.n0
 have n1:=h.n1
 have hag:=h.a
 have hge:Go.Gh.isAgg (Ex e)=true:=by rw[ZA];rfl
 have hga:Go.Gh.isAgg (Ex a)=true:=by rw[ZA];rfl
 have hgb:Go.Gh.isAgg (Ex b)=true:=by rw[ZA];rfl
 have how:=w104 e.n n0 n1
 have hwl:=opW_len e.n (mem12 n0 n1)
 have hlv:=w103 e.n
 have htx:=h.txt he
 rw[htx]
 clear htx he h
 rcases opLv_cases e.n with h4|h4|h4|h4
 ·have hA:=Tryz.opd7 a 2 (by omega) (by omega) ha
  have hB:=Tryz.opd7 b (1+1) (by omega) (by omega) hb
  have hAl:=YQ 2 a
  have hBl:=YQ (1+1) b
  rw[h4] at hlv ⊢
  rw[if_neg (by decide),show max 1 2=2 from rfl]
  replace hlv:Pu 103 [I e.n] (· = I 1):=hlv
  generalize oprT 2 a=A at *
  generalize oprT (1+1) b=B at *
  refine Z8 mxd i64 rfl (by simp) ?_;refine X0 ?_
  (refine V2 (jO @XE (jO hag (jO hga (jO hgb (jO @List.getElem_cons_zero.{0} (jO @List.getElem_cons_succ.{0} hge)))))) ?_)
  (refine V2 (jO @XE (jO hag (jO hga (jO hgb (jO @List.getElem_cons_zero.{0} (jO @List.getElem_cons_succ.{0} hge)))))) ?_)
  all_goals try exact oF
  refine callS.eq hlv ?_
  (refine V2 (jO @XE (jO hag (jO hga (jO hgb (jO @List.getElem_cons_zero.{0} (jO @List.getElem_cons_succ.{0} hge)))))) ?_)
  (refine V2 (jO @XE (jO hag (jO hga (jO hgb (jO @List.getElem_cons_zero.{0} (jO @List.getElem_cons_succ.{0} hge)))))) ?_)
  all_goals try exact oF
  refine callS.eqT hA (Zq 1) (fun _ h=>h) ?_
  (refine V2 (jO @XE (jO hag (jO hga (jO hgb (jO @List.getElem_cons_zero.{0} (jO @List.getElem_cons_succ.{0} hge)))))) ?_;with_reducible repeat' apply jO)
  all_goals first|(exfalso;omega)|(simp only[chA,List.length_append,List.length_cons,List.length_nil];omega)|(simp[chA];done)|skip
  refine callS.eq how ?_
  (refine V2 (jO @XE (jO hag (jO hga (jO hgb (jO @List.getElem_cons_zero.{0} (jO @List.getElem_cons_succ.{0} hge)))))) ?_;with_reducible repeat' apply jO)
  (refine V2 (jO @XE (jO hag (jO hga (jO hgb (jO @List.getElem_cons_zero.{0} (jO @List.getElem_cons_succ.{0} hge)))))) ?_)
  all_goals first|(exfalso;omega)|(simp only[chA,List.length_append,List.length_cons,List.length_nil];omega)|(simp[chA];done)|skip
  refine callS.eqT hB (Zq 1) (fun _ h=>h) ?_
  (refine V0 ?_;with_reducible repeat' apply jO)
  all_goals first|(exfalso;omega)|(simp only[chA,List.length_append,List.length_cons,List.length_nil];omega)|(simp[chA];done)|skip
 ·have hA:=Tryz.opd7 a 2 (by omega) (by omega) ha
  have hB:=Tryz.opd7 b (2+1) (by omega) (by omega) hb
  have hAl:=YQ 2 a
  have hBl:=YQ (2+1) b
  rw[h4] at hlv ⊢
  rw[if_neg (by decide),show max 2 2=2 from rfl]
  replace hlv:Pu 103 [I e.n] (· = I 2):=hlv
  generalize oprT 2 a=A at *
  generalize oprT (2+1) b=B at *
  refine Z8 mxd i64 rfl (by simp) ?_;refine X0 ?_
  (refine V2 (jO @XE (jO hag (jO hga (jO hgb (jO @List.getElem_cons_zero.{0} (jO @List.getElem_cons_succ.{0} hge)))))) ?_)
  (refine V2 (jO @XE (jO hag (jO hga (jO hgb (jO @List.getElem_cons_zero.{0} (jO @List.getElem_cons_succ.{0} hge)))))) ?_)
  all_goals try exact oF
  refine callS.eq hlv ?_
  (refine V2 (jO @XE (jO hag (jO hga (jO hgb (jO @List.getElem_cons_zero.{0} (jO @List.getElem_cons_succ.{0} hge)))))) ?_)
  (refine V2 (jO @XE (jO hag (jO hga (jO hgb (jO @List.getElem_cons_zero.{0} (jO @List.getElem_cons_succ.{0} hge)))))) ?_)
  all_goals try exact oF
  refine callS.eqT hA (Zq 1) (fun _ h=>h) ?_
  (refine V2 (jO @XE (jO hag (jO hga (jO hgb (jO @List.getElem_cons_zero.{0} (jO @List.getElem_cons_succ.{0} hge)))))) ?_;with_reducible repeat' apply jO)
  all_goals first|(exfalso;omega)|(simp only[chA,List.length_append,List.length_cons,List.length_nil];omega)|(simp[chA];done)|skip
  refine callS.eq how ?_
  (refine V2 (jO @XE (jO hag (jO hga (jO hgb (jO @List.getElem_cons_zero.{0} (jO @List.getElem_cons_succ.{0} hge)))))) ?_;with_reducible repeat' apply jO)
  (refine V2 (jO @XE (jO hag (jO hga (jO hgb (jO @List.getElem_cons_zero.{0} (jO @List.getElem_cons_succ.{0} hge)))))) ?_)
  all_goals first|(exfalso;omega)|(simp only[chA,List.length_append,List.length_cons,List.length_nil];omega)|(simp[chA];done)|skip
  refine callS.eqT hB (Zq 1) (fun _ h=>h) ?_
  (refine V0 ?_;with_reducible repeat' apply jO)
  all_goals first|(exfalso;omega)|(simp only[chA,List.length_append,List.length_cons,List.length_nil];omega)|(simp[chA];done)|skip
 ·have hA:=Tryz.opd7 a 3 (by omega) (by omega) ha
  have hB:=Tryz.opd7 b (3+1) (by omega) (by omega) hb
  have hAl:=YQ 3 a
  have hBl:=YQ (3+1) b
  rw[h4] at hlv ⊢
  rw[if_neg (by decide),show max 3 2=3 from rfl]
  replace hlv:Pu 103 [I e.n] (· = I 3):=hlv
  generalize oprT 3 a=A at *
  generalize oprT (3+1) b=B at *
  refine Z8 mxd i64 rfl (by simp) ?_;refine X0 ?_
  (refine V2 (jO @XE (jO hag (jO hga (jO hgb (jO @List.getElem_cons_zero.{0} (jO @List.getElem_cons_succ.{0} hge)))))) ?_)
  (refine V2 (jO @XE (jO hag (jO hga (jO hgb (jO @List.getElem_cons_zero.{0} (jO @List.getElem_cons_succ.{0} hge)))))) ?_)
  all_goals try exact oF
  refine callS.eq hlv ?_
  (refine V2 (jO @XE (jO hag (jO hga (jO hgb (jO @List.getElem_cons_zero.{0} (jO @List.getElem_cons_succ.{0} hge)))))) ?_)
  (refine V2 (jO @XE (jO hag (jO hga (jO hgb (jO @List.getElem_cons_zero.{0} (jO @List.getElem_cons_succ.{0} hge)))))) ?_)
  all_goals try exact oF
  refine callS.eqT hA (Zq 1) (fun _ h=>h) ?_
  (refine V2 (jO @XE (jO hag (jO hga (jO hgb (jO @List.getElem_cons_zero.{0} (jO @List.getElem_cons_succ.{0} hge)))))) ?_;with_reducible repeat' apply jO)
  all_goals first|(exfalso;omega)|(simp only[chA,List.length_append,List.length_cons,List.length_nil];omega)|(simp[chA];done)|skip
  refine callS.eq how ?_
  (refine V2 (jO @XE (jO hag (jO hga (jO hgb (jO @List.getElem_cons_zero.{0} (jO @List.getElem_cons_succ.{0} hge)))))) ?_;with_reducible repeat' apply jO)
  (refine V2 (jO @XE (jO hag (jO hga (jO hgb (jO @List.getElem_cons_zero.{0} (jO @List.getElem_cons_succ.{0} hge)))))) ?_)
  all_goals first|(exfalso;omega)|(simp only[chA,List.length_append,List.length_cons,List.length_nil];omega)|(simp[chA];done)|skip
  refine callS.eqT hB (Zq 1) (fun _ h=>h) ?_
  (refine V0 ?_;with_reducible repeat' apply jO)
  all_goals first|(exfalso;omega)|(simp only[chA,List.length_append,List.length_cons,List.length_nil];omega)|(simp[chA];done)|skip
 ·rw[h4] at hlv ⊢
  rw[if_pos rfl]
  replace hlv:Pu 103 [I e.n] (· = I 4):=hlv
  generalize ZZ a=A at *
  generalize ZZ b=B at *
  refine Z8 mxd i64 rfl (by simp) ?_;refine X0 ?_
  (refine V2 (jO @XE (jO hag (jO hga (jO hgb (jO @List.getElem_cons_zero.{0} (jO @List.getElem_cons_succ.{0} hge)))))) ?_)
  (refine V2 (jO @XE (jO hag (jO hga (jO hgb (jO @List.getElem_cons_zero.{0} (jO @List.getElem_cons_succ.{0} hge)))))) ?_)
  all_goals try exact oF
  refine callS.eq hlv ?_
  (refine V2 (jO @XE (jO hag (jO hga (jO hgb (jO @List.getElem_cons_zero.{0} (jO @List.getElem_cons_succ.{0} hge)))))) ?_)
  (refine V2 (jO @XE (jO hag (jO hga (jO hgb (jO @List.getElem_cons_zero.{0} (jO @List.getElem_cons_succ.{0} hge)))))) ?_)
  all_goals try exact oF
  refine callS.eq how ?_
  (refine V2 (jO @XE (jO hag (jO hga (jO hgb (jO @List.getElem_cons_zero.{0} (jO @List.getElem_cons_succ.{0} hge)))))) ?_;with_reducible repeat' apply jO)
  all_goals first|(exfalso;omega)|(simp only[chA,List.length_append,List.length_cons,List.length_nil];omega)|(simp[chA];done)|skip
  refine callS.eqT ha (Zq 1) (fun _ h=>h) ?_
  (refine V2 (jO @XE (jO hag (jO hga (jO hgb (jO @List.getElem_cons_zero.{0} (jO @List.getElem_cons_succ.{0} hge)))))) ?_;with_reducible repeat' apply jO)
  (refine V2 (jO @XE (jO hag (jO hga (jO hgb (jO @List.getElem_cons_zero.{0} (jO @List.getElem_cons_succ.{0} hge)))))) ?_)
  all_goals first|(exfalso;omega)|(simp only[chA,List.length_append,List.length_cons,List.length_nil];omega)|(simp[chA];done)|skip
  refine callS.eqT hb (Zq 1) (fun _ h=>h) ?_
  (refine V0 ?_;with_reducible repeat' apply jO)
  all_goals first|(exfalso;omega)|(simp only[chA,List.length_append,List.length_cons,List.length_nil];omega)|(simp[chA];done)|skip
theorem p25:∀(e:Exp),YR YT e=true→Zr e≤1000→PureT Tryz.prog (tab10 1) 25 [Ex e] (· = .val (mkS (ZZ e))):=by
 refine Exp.indA fun e ih=> ?_
 intro hv hc
 obtain ⟨hn,hv⟩:=allE_args hv
 have hag:Go.Gh.isAgg (Ex e)=true:=by rw[ZA];rfl
 rcases (node_c hn).c with ⟨n,h1,h2,he⟩|⟨n,h1,h2,he⟩|⟨n,h1,he⟩|he|⟨p,m,h1,h2,h3,he⟩|⟨n,a,b,h1,h2,he⟩|⟨a,b,c,he⟩|⟨p,h1,h2,he⟩|he|⟨s,m,a,h1,h2,he⟩
 ·have hk:e.kind=1:=by rw[he];rfl
  have hft:=p62 e.n e.type (.inl ⟨by rw[he];rfl,by rw[he];exact h1,by rw[he];exact h2⟩)
  have ee:Exp.mk 1 e.n 0 e.type noS noS []=e:=by rw[he];rfl
  rw[ee] at hft
  refine Z8 mxd i25 rfl (by simp) ?_;refine X0 ?_
  (refine V2 (jO @XE (jO hk (jO hag (jO @List.getElem_cons_zero.{0} @List.getElem_cons_succ.{0})))) ?_)
  refine callS.eqT hft (Zq 1) (fun _ h=>h) ?_
  (refine V0 ?_;with_reducible repeat' exact trivial)
 ·have hk:e.kind=1:=by rw[he];rfl
  have hft:=p62 e.n e.type (.inr (.inl ⟨by rw[he];rfl,by rw[he];exact h1,by rw[he];exact h2⟩))
  have ee:Exp.mk 1 e.n 0 e.type noS noS []=e:=by rw[he];rfl
  rw[ee] at hft
  refine Z8 mxd i25 rfl (by simp) ?_;refine X0 ?_
  (refine V2 (jO @XE (jO hk (jO hag (jO @List.getElem_cons_zero.{0} @List.getElem_cons_succ.{0})))) ?_)
  refine callS.eqT hft (Zq 1) (fun _ h=>h) ?_
  (refine V0 ?_;with_reducible repeat' exact trivial)
 ·have hk:e.kind=1:=by rw[he];rfl
  have hft:=p62 e.n e.type (.inr (.inr ⟨by rw[he];rfl,by rw[he];exact h1⟩))
  have ee:Exp.mk 1 e.n 0 e.type noS noS []=e:=by rw[he];rfl
  rw[ee] at hft
  refine Z8 mxd i25 rfl (by simp) ?_;refine X0 ?_
  (refine V2 (jO @XE (jO hk (jO hag (jO @List.getElem_cons_zero.{0} @List.getElem_cons_succ.{0})))) ?_)
  refine callS.eqT hft (Zq 1) (fun _ h=>h) ?_
  (refine V0 ?_;with_reducible repeat' exact trivial)
 ·have hk:e.kind=2:=by rw[he];rfl
  have htx:ZZ e = _ := (congrArg ZZ he).trans txt_lit
  rw[htx]
  refine Z8 mxd i25 rfl (by simp) ?_;refine X0 ?_
  (refine V2 (jO @XE (jO hk (jO hag (jO @List.getElem_cons_zero.{0} @List.getElem_cons_succ.{0})))) ?_;with_reducible repeat' exact trivial)
  all_goals try exact oF
 ·have hk:e.kind=3:=by rw[he];rfl
  have hp0:0≤e.pos∧e.pos≤3:=by rw[he];exact ⟨h1,h2⟩
  have hnl:(Z9 e.name).length ≤ 8:=by rw[he];exact XX h3
  have htx:ZZ e=36::(itoa e.pos++46::Z9 e.name):=by rw[he];exact txt_attr p m
  rw[htx]
  have hfi:=p24 e.pos (by omega) (by omega)
  have hpl:=YY hp0.1 (by omega)
  generalize itoa e.pos=A at *
  refine Z8 mxd i25 rfl (by simp) ?_;refine X0 ?_
  (refine V2 (jO @XE (jO hk (jO hag (jO @List.getElem_cons_zero.{0} @List.getElem_cons_succ.{0})))) ?_)
  refine callS.eqT hfi (Zq 1) (fun _ h=>h) ?_
  (refine V2 (jO @XE (jO hk (jO hag (jO @List.getElem_cons_zero.{0} @List.getElem_cons_succ.{0})))) ?_;with_reducible repeat' apply jO)
  all_goals first|(exfalso;omega)|(simp only[chA,List.length_append,List.length_cons,List.length_nil];omega)|(simp[chA];done)|skip
 ·have hk:e.kind=4:=by rw[he];rfl
  have hen:e.n=n:=by rw[he];rfl
  have har:e.args=[a,b]:=by rw[he];rfl
  have hcn:Zr e=1+Zr a+Zr b:=by rw[he,Y0];simp[Exp.args];omega
  have hva:=hv a (by rw[har];simp)
  have hvb:=hv b (by rw[har];simp)
  have ha:=ih a (by rw[har];simp) hva (by omega)
  have hb:=ih b (by rw[har];simp) hvb (by omega)
  have hla:=X7 a hva
  have hlb:=X7 b hvb
  have hop:=Tryz.opt7 e a b ⟨hk,by rw[hen];exact h1,by rw[hen];exact h2,har⟩ (by rw[hen];exact he) (by omega) (by omega) ha hb
  refine Z8 mxd i25 rfl (by simp) ?_;refine X0 ?_
  (refine V2 (jO @XE (jO hk (jO hag (jO @List.getElem_cons_zero.{0} @List.getElem_cons_succ.{0})))) ?_)
  refine callS.eqT hop (Zq 1) (fun _ h=>h) ?_
  (refine V0 ?_;with_reducible repeat' exact trivial)
 ·have hk:e.kind=5:=by rw[he];rfl
  have har:e.args=[a,b,c]:=by rw[he];rfl
  have hcn:Zr e=1+Zr a+Zr b+Zr c:=by rw[he,Y0];simp[Exp.args];omega
  have hva:=hv a (by rw[har];simp)
  have hvb:=hv b (by rw[har];simp)
  have hvc:=hv c (by rw[har];simp)
  have ha:=ih a (by rw[har];simp) hva (by omega)
  have hb:=ih b (by rw[har];simp) hvb (by omega)
  have hcc:=ih c (by rw[har];simp) hvc (by omega)
  have hla:=X7 a hva
  have hlb:=X7 b hvb
  have hlc:=X7 c hvc
  have hga:Go.Gh.isAgg (Ex a)=true:=by rw[ZA];rfl
  have hgb:Go.Gh.isAgg (Ex b)=true:=by rw[ZA];rfl
  have hgc:Go.Gh.isAgg (Ex c)=true:=by rw[ZA];rfl
  have htx:ZZ e=[105,102,32]++ZZ a++[32,116,104,101,110,32]++ZZ b++[32,101,108,115,101,32]++ZZ c:=by rw[he];exact txt_if a b c
  rw[htx]
  generalize ZZ a=A at *
  generalize ZZ b=B at *
  generalize ZZ c=C at *
  refine Z8 mxd i25 rfl (by simp) ?_;refine X0 ?_
  (refine V2 (jO @XE (jO hk (jO hag (jO @List.getElem_cons_zero.{0} (jO @List.getElem_cons_succ.{0} (jO har (jO hga (jO hgb hgc)))))))) ?_)
  (refine V2 (jO @XE (jO hk (jO hag (jO @List.getElem_cons_zero.{0} (jO @List.getElem_cons_succ.{0} (jO har (jO hga (jO hgb hgc)))))))) ?_)
  all_goals first|(exfalso;omega)|(simp only[chA,List.length_append,List.length_cons,List.length_nil];omega)|(simp[chA];done)|skip
  refine callS.eqT ha (Zq 1) (fun _ h=>h) ?_
  (refine V2 (jO @XE (jO hk (jO hag (jO @List.getElem_cons_zero.{0} (jO @List.getElem_cons_succ.{0} (jO har (jO hga (jO hgb hgc)))))))) ?_;with_reducible repeat' apply jO)
  (refine V2 (jO @XE (jO hk (jO hag (jO @List.getElem_cons_zero.{0} (jO @List.getElem_cons_succ.{0} (jO har (jO hga (jO hgb hgc)))))))) ?_)
  all_goals first|(exfalso;omega)|(simp only[chA,List.length_append,List.length_cons,List.length_nil];omega)|(simp[chA];done)|skip
  refine callS.eqT hb (Zq 1) (fun _ h=>h) ?_
  (refine V2 (jO @XE (jO hk (jO hag (jO @List.getElem_cons_zero.{0} (jO @List.getElem_cons_succ.{0} (jO har (jO hga (jO hgb hgc)))))))) ?_;with_reducible repeat' apply jO)
  (refine V2 (jO @XE (jO hk (jO hag (jO @List.getElem_cons_zero.{0} (jO @List.getElem_cons_succ.{0} (jO har (jO hga (jO hgb hgc)))))))) ?_)
  all_goals first|(exfalso;omega)|(simp only[chA,List.length_append,List.length_cons,List.length_nil];omega)|(simp[chA];done)|skip
  refine callS.eqT hcc (Zq 1) (fun _ h=>h) ?_
  (refine V2 (jO @XE (jO hk (jO hag (jO @List.getElem_cons_zero.{0} @List.getElem_cons_succ.{0})))) ?_;with_reducible repeat' apply jO)
  all_goals first|(exfalso;omega)|(simp only[chA,List.length_append,List.length_cons,List.length_nil];omega)|(simp[chA];done)|skip
 ·have hk:e.kind=6:=by rw[he];rfl
  have hp0:0≤e.pos∧e.pos≤3:=by rw[he];exact ⟨h1,h2⟩
  have htx:ZZ e=[115,101,108,102,40]++(itoa e.pos++[41]):=by rw[he];exact txt_self p
  rw[htx]
  have hfi:=p24 e.pos (by omega) (by omega)
  have hpl:=YY hp0.1 (by omega)
  generalize itoa e.pos=A at *
  refine Z8 mxd i25 rfl (by simp) ?_;refine X0 ?_
  (refine V2 (jO @XE (jO hk (jO hag (jO @List.getElem_cons_zero.{0} @List.getElem_cons_succ.{0})))) ?_)
  refine callS.eqT hfi (Zq 1) (fun _ h=>h) ?_
  (refine V2 (jO @XE (jO hk (jO hag (jO @List.getElem_cons_zero.{0} @List.getElem_cons_succ.{0})))) ?_;with_reducible repeat' apply jO)
  all_goals first|(exfalso;omega)|(simp only[chA,List.length_append,List.length_cons,List.length_nil];omega)|(simp[chA];done)|skip
 ·have hk:e.kind=7:=by rw[he];rfl
  have htx:ZZ e = _ := (congrArg ZZ he).trans txt_none
  rw[htx]
  refine Z8 mxd i25 rfl (by simp) ?_;refine X0 ?_
  (refine V2 (jO @XE (jO hk (jO hag (jO @List.getElem_cons_zero.{0} @List.getElem_cons_succ.{0})))) ?_;with_reducible repeat' exact trivial)
  all_goals try exact oF
 ·have hk:e.kind=8:=by rw[he];rfl
  have har:e.args=[a]:=by rw[he];rfl
  have hcn:Zr e=1+Zr a:=by rw[he,Y0];simp[Exp.args]
  have hva:=hv a (by rw[har];simp)
  have ha:=ih a (by rw[har];simp) hva (by omega)
  have hla:=X7 a hva
  have hga:Go.Gh.isAgg (Ex a)=true:=by rw[ZA];rfl
  have hat:=Tryz.opd7 a 4 (by omega) (by omega) ha
  have hal:=YQ 4 a
  have hsl:(Z9 e.sym).length ≤ 8:=by rw[he];exact XX h1
  have hnl:(Z9 e.name).length ≤ 8:=by rw[he];exact XX h2
  have htx:ZZ e=Z9 e.sym++46::(Z9 e.name++[32,111,102,32]++oprT 4 a):=by rw[he];exact txt_rem s m a
  rw[htx]
  generalize oprT 4 a=A at *
  refine Z8 mxd i25 rfl (by simp) ?_;refine X0 ?_
  (refine V2 (jO @XE (jO hk (jO hag (jO @List.getElem_cons_zero.{0} (jO @List.getElem_cons_succ.{0} (jO har hga)))))) ?_;with_reducible repeat' apply jO)
  (refine V2 (jO @XE (jO hk (jO hag (jO @List.getElem_cons_zero.{0} (jO @List.getElem_cons_succ.{0} (jO har hga)))))) ?_)
  all_goals first|(exfalso;omega)|(simp only[chA,List.length_append,List.length_cons,List.length_nil];omega)|(simp[chA];done)|skip
  refine callS.eqT hat (Zq 1) (fun _ h=>h) ?_
  (refine V2 (jO @XE (jO hk (jO hag (jO @List.getElem_cons_zero.{0} @List.getElem_cons_succ.{0})))) ?_;with_reducible repeat' apply jO)
  all_goals first|(exfalso;omega)|(simp only[chA,List.length_append,List.length_cons,List.length_nil];omega)|(simp[chA];done)|skip
theorem w77 (s:ByteArray) (hs:(Z9 s).length ≤ 1048576):Pu 77 [T s] (· = .tup [.val (mkS (cut (Z9 s) dfT).1),.val (mkS (cut (Z9 s) dfT).2.1)]):=by
 have hd:dfT.length=4:=rfl
 have hsz:s.size≤1048576:=by rw[ZE];exact hs
 refine Z8 mxd i77 rfl (by simp) ?_;refine X0 ?_
 (refine V0 ?_)
 refine Zk mxd (ι:={ i:Nat // i≤(Z9 s).length + 1∧∀j,j<i→occAt (Z9 s) dfT j=false }) (fun i=>[(0,T s),(4,I i.1)]) (fun _ => []) (fun i=>(Z9 s).length + 1-i.1) ⟨0,by simp⟩ (by simp[E2]) rfl ?_
 rintro ⟨i,hi,hn⟩
 dsimp only
 have hk:((i:Int)+4).toNat = i+4:=by omega
 by_cases h4:i+4≤(Z9 s).length
 ·have e4:((i:Int)+4≤(Z9 s).length)=True:=eq_true (by omega)
  have ho:=occA_eq (l:=Z9 s) (p:=dfT) (i:=i) (by rw[hd];exact h4)
  rw[hd] at ho
  by_cases hb:((Z9 s).take (i+4)).drop i=dfT
  ·rw[decide_eq_true hb] at ho
   have hc:=cut_hit (by rw[hd];exact h4) hn ho
   have hq:((⟨(((Z9 s).take (i+4)).drop i).toArray⟩:ByteArray)=⟨#[32,58,61,32]⟩)=True:=eq_true (congrArg bA hb)
   rw[hc,hd]
   (refine V1 (jO e4 (jO hk hq)) ?_)
   rw[List.take_length]
   rfl
  ·rw[decide_eq_false hb] at ho
   have hq:((⟨(((Z9 s).take (i+4)).drop i).toArray⟩:ByteArray)=⟨#[32,58,61,32]⟩)=False:=eq_false fun h=>hb (congrArg Z9 h)
   (refine V1 (jO e4 (jO hk hq)) ?_;with_reducible repeat' intro h)
   exact nx ⟨i+1,by omega,fun j hj=>(Nat.lt_succ_iff_lt_or_eq.1 hj).elim (hn j) fun h=>h▸ho⟩ (by dsimp only;omega) (by simp[E2]) rfl
 ·have e4:((i:Int)+4≤(Z9 s).length)=False:=eq_false (by omega)
  have hc:=cut_miss (l:=Z9 s) (p:=dfT) (fun j hj=>by
   by_cases hji:j<i
   ·exact hn j hji
   ·exact occA_no (by decide) (by rw[hd];omega))
  rw[hc]
  (refine V1 (jO e4 hk) ?_;with_reducible repeat' exact trivial)
theorem w76 (s:ByteArray) (b:UInt8) (hs:(Z9 s).length ≤ 1048576):Pu 76 [T s,U8 b] (· = TS ((spl b (Z9 s)).map bA)):=by
 have hsz:s.size≤1048576:=by rw[ZE];exact hs
 refine Pure.bor ?_
 refine Z8 mxd i76 rfl (by simp) ?_;refine X0 ?_
 (refine V0 ?_;with_reducible repeat' intro h)
 rename_i r
 refine ploop mxd (ι:={ x:Nat×Nat×Nat×List (List UInt8) // spP b (Z9 s) x.2.1 x.2.2.1 x.2.2.2 }) (fun x=>[(0,T s),(1,U8 b),(5,.own x.1.1 1 0 x.1.2.2.2.length),(6,I x.1.2.2.1),(7,I x.1.2.1)]) (fun x=>[(x.1.1,1,(x.1.2.2.2.map bA).map T)]) (fun x=>(Z9 s).length + 1-x.1.2.1) ⟨(r,0,0,[]),sp_init _ _⟩ (by simp[E2]) (by simp[subH,Z6,names]) ?_
 rintro ⟨⟨q,i,k,out⟩,hP⟩ hn
 dsimp only at hP hn ⊢
 obtain ⟨hl,hi⟩:=sp_le hP
 by_cases hlt:i<(Z9 s).length
 ·have e0:((i:Int)≤(Z9 s).length)=True:=eq_true (by omega)
  have e1:((i:Int)=(Z9 s).length)=False:=eq_false (by omega)
  by_cases hb:(Z9 s)[i]=b
  ·have e2:(((Z9 s)[i].toNat : Int)=b.toNat)=True:=eq_true (by rw[hb])
   obtain ⟨hk,hP2⟩:=sp_yes hP hlt hb
   (refine V1 (jO e0 (jO e1 (jO e2 (jO hlt @List.length_map.{0,0})))) ?_;with_reducible repeat' first|intro h|refine aO ?_)
   rename_i r1 _ r2
   exact px ⟨(r2,i+1,i+1,out++[((Z9 s).take i).drop k]),hP2⟩ (by dsimp only;omega) (by simp[E2]) (by simp[subH,Z6,names,List.take_of_length_le])
  ·have e2:(((Z9 s)[i].toNat : Int)=b.toNat)=False:=eq_false (fun h=>hb (UInt8.toNat_inj.1 (by omega)))
   have hP2:=sp_no hP hlt hb
   (refine V1 (jO e0 (jO e1 (jO e2 hlt))) ?_;with_reducible repeat' intro h)
   exact px ⟨(q,i+1,k,out),hP2⟩ (by dsimp only;omega) (by simp[E2]) (by simp[subH,Z6,names])
 ·by_cases hle:i=(Z9 s).length
  ·subst hle
   have e0:(((Z9 s).length : Int)≤(Z9 s).length)=True:=eq_true (by omega)
   obtain ⟨hk,hP2⟩:=sp_end hP
   (refine V1 (jO e0 @List.length_map.{0,0}) ?_;with_reducible repeat' first|intro h|refine aO ?_)
   rename_i r1 _ r2
   exact px ⟨(r2,(Z9 s).length + 1,(Z9 s).length + 1,out++[((Z9 s).take (Z9 s).length).drop k]),hP2⟩ (by dsimp only;omega) (by simp[E2]) (by simp[subH,Z6,names,List.take_of_length_le])
  ·obtain rfl:i=(Z9 s).length + 1:=by omega
   have e0:((((Z9 s).length + 1:Nat):Int)≤(Z9 s).length)=False:=eq_false (by omega)
   have ho:=sp_out hP
   subst ho
   (refine V1 e0 ?_)
   exact Bor.seen (f:=T) (fun a=>by simp[view,Y7]) Z0 (by rw[List.length_map])
end Go.Proofs.YtcegkonjphbfaaaGreatDoor
