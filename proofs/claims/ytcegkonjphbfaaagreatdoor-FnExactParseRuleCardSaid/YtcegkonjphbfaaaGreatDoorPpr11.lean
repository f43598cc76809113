/- The tied card of the law holds. No condition. -/
import Derived.Test.YtcegkonjphbfaaaGreatDoorPpr3
import Derived.Test.YtcegkonjphbfaaaGreatDoorPpr5
set_option maxHeartbeats 40000000
set_option maxRecDepth 20000
set_option linter.unusedSimpArgs false
set_option linter.unusedVariables false
namespace Go.Proofs.YtcegkonjphbfaaaGreatDoor
open Go.Gh
open Nat (reduceEqDiff reduceLeDiff reduceAdd reduceLT)
open Int (reduceNe)
open Go.Lib
theorem wj79 (l:List ByteArray) (sep:ByteArray) (hl:l.length≤4194304) (hj:(Zs (Z9 sep) (l.map Z9)).length ≤ 70000000000000):Pu 79 [.sl 1 (l.map T),T sep] (· = .val (mkS (Zs (Z9 sep) (l.map Z9)))):=by
 have hbd:∀i,(Zs (Z9 sep) ((l.take i).map Z9)).length ≤ 70000000000000:=by
  intro i
  rw[List.map_take]
  rcases Nat.le_total i (l.map Z9).length with h|h
  ·have:=join_mono (Z9 sep) (l:=l.map Z9) h (Nat.le_refl _)
   rw[List.take_length] at this
   omega
  ·rw[tL h];exact hj
 have hst:∀(i:Nat) (hi:i<l.length),Zs (Z9 sep) ((l.take (i+1)).map Z9)=if i=0 then Z9 l[i] else Zs (Z9 sep) ((l.take i).map Z9)++Z9 sep++Z9 l[i]:=by
  intro i hi
  have:=join_take (Z9 sep) (l:=l.map Z9) (i:=i) (by rw[List.length_map];exact hi)
  rw[List.map_take,List.map_take,this]
  simp
 obtain ⟨J,hJ⟩:∃J:Nat→List UInt8,∀i,Zs (Z9 sep) ((l.take i).map Z9)=J i:=⟨_,fun _ => rfl⟩
 have h00:J 0=[]:=by rw[←hJ];rfl
 have hall:Zs (Z9 sep) (l.map Z9)=J l.length:=by rw[←hJ,List.take_length]
 rw[hall]
 simp only[hJ] at hbd hst
 clear hj
 refine Z8 mxd i79 rfl (by simp) ?_;refine X0 ?_
 (refine V0 ?_;with_reducible repeat' intro h)
 rename_i r
 refine ploop mxd (ι:={ x:Nat×Nat // x.2≤l.length }) (fun x=>[(0,.sl 1 (l.map T)),(1,T sep),(5,.own x.1.1 1 0 (J x.1.2).length),(6,I x.1.2)]) (fun x=>[(x.1.1,1,(J x.1.2).map U8)]) (fun x=>l.length-x.1.2) ⟨(r,0),by simp⟩ (by simp[E2,h00]) (by simp[subH,Z6,names,h00]) ?_
 rintro ⟨⟨q,i⟩,hi⟩ hn
 dsimp only at hi hn ⊢
 have hb0:=hbd i
 rcases nL i l.length with hlt|hge
 ·have hst:=hst i hlt
  have hb1:=hbd (i+1)
  rw[hst] at hb1
  by_cases h0:i=0
  ·subst h0
   rw[if_pos rfl] at hst hb1
   rw[h00]
   (refine V1 (jO hlt @List.length_map.{0,0}) ?_;with_reducible repeat' first|intro h|refine aO ?_|apply jO)
   all_goals try exact oF
   rename_i r1
   exact px ⟨(r1,0+1),hlt⟩ (by dsimp only;omega) (by dsimp only;rw[hst];simp[E2]) (by dsimp only;rw[hst];simp[subH,Z6,names])
  ·rw[if_neg h0] at hst hb1
   simp only[List.length_append] at hb1
   have h0':0<i:=by omega
   (refine V1 (jO hlt (jO h0' (jO @List.length_map.{0,0} @takeU8))) ?_;with_reducible repeat' first|intro h|refine aO ?_|apply jO)
   all_goals try exact oF
   all_goals first|(simp;done)|(simp;omega;done)|skip
   exact px ⟨(h,i+1),hlt⟩ (by dsimp only;omega) (by dsimp only;rw[hst];simp[E2];omega) (by dsimp only;rw[hst];simp[subH,Z6,names,List.take_of_length_le])
 ·obtain rfl:i=l.length:=by omega
  have hge':¬l.length<l.length:=by omega
  (refine V1 (jO hge' (jO @bytesG_map @soT_U8)) ?_;with_reducible repeat' first|intro h|refine aO ?_|apply jO)
  (refine V1 (jO @bytesG_map @soT_U8) ?_)
  all_goals try exact oF
theorem w79 (l:List ByteArray) (sep:ByteArray) (hl:l.length≤4096) (hs:(Z9 sep).length ≤ 8) (hL:∀x∈l,(Z9 x).length ≤ 4096):Pu 79 [.sl 1 (l.map T),T sep] (· = .val (mkS (Zs (Z9 sep) (l.map Z9)))):=by
 refine wj79 l sep (by omega) ?_
 have h1:=join_le (Z9 sep) 4096 8 hs (l.map Z9) (by
  intro x hx
  obtain ⟨y,hy,rfl⟩:=List.mem_map.1 hx
  exact hL y hy)
 have h2:(l.map Z9).length ≤ 4096:=by rw[List.length_map];omega
 have h3:=Nat.mul_le_mul_right (4096+8) h2
 omega
theorem w119 (n t:Int) (hc:(t=1∧0≤n∧n≤1000000)∨(t=2∧0≤n∧n≤4095)∨(t=3∧(n=0∨n=1))):Pu 119 [I n,I t] (· = .val (mkS (ZZ (.mk 1 n 0 t noS noS [])))):=by
 have hok:=okV_con hc
 have hty:=w152 n t
 rw[hok] at hty
 rcases hc with ⟨rfl,h0,h1⟩|⟨rfl,h0,h1⟩|⟨rfl,h1⟩
 ·rw[txt_num]
  refine Z8 mxd i119 rfl (by simp) ?_;refine X0 ?_
  (refine V0 ?_)
  refine callS.eq hty ?_
  (refine V0 ?_)
  refine callS.eq (w33 n (by omega) (by omega)) ?_
  (refine V0 ?_;with_reducible repeat' exact trivial)
 ·rw[txt_set]
  have hjl:(Zs [32] ((Yw n).map fun k:Nat=>itoa k)).length ≤ 96:=by
   have h3:=join_len ((Yw n).map fun k:Nat=>itoa k) (by
    intro x hx
    obtain ⟨k,hk,rfl⟩:=List.mem_map.1 hx
    have:=(setL_lt n).2 k hk
    exact YY (by omega) (by omega))
   have h4:=setL_len n
   rw[List.length_map] at h3
   omega
  refine Z8 mxd i119 rfl (by simp) ?_;refine X0 ?_
  (refine V0 ?_)
  refine callS.eq hty ?_
  (refine V0 ?_;with_reducible repeat' first|intro h|refine aO ?_)
  rename_i r
  refine ploop mxd (ι:={ x:Nat×Nat // x.2≤12 }) (fun x=>[(0,I n),(1,I 2),(5,.own x.1.1 1 0 (setK n x.1.2).length),(6,I x.1.2)]) (fun x=>[(x.1.1,1,((setK n x.1.2).map nS).map T)]) (fun x=>12-x.1.2) ⟨(r,0),by simp⟩ (by simp[E2,setK_zero]) (by simp[subH,Z6,names,setK_zero]) ?_
  rintro ⟨⟨q,i⟩,hi⟩ hn
  dsimp only at hi hn ⊢
  have hkl:=setK_len n i
  rcases nL i 12 with hlt|hge
  ·have hit:((i:Int)≤11)=True:=eq_true (by omega)
   have hwu:=wrapU (i:Int) (by omega) (by omega)
   have hbt:=bit_of h0 h1 (k:=i) (by omega)
   have hst:=setK_succ n i
   cases hb:n.toNat.testBit i with
   | true=>
    rw[hb,if_pos rfl] at hbt hst
    (refine V1 (jO hit (jO hwu hbt)) ?_)
    all_goals try exact oF
    refine callS.eq (w33 (i:Int) (by omega) (by omega)) ?_
    (refine V1 @List.length_map.{0,0} ?_;with_reducible repeat' first|intro h|refine aO ?_)
    all_goals try exact oF
    all_goals try (simp;omega;done)
    rename_i r1 _ r2
    exact px ⟨(r2,i+1),hlt⟩ (by dsimp only;omega) (by dsimp only;rw[hst];simp[E2]) (by dsimp only;rw[hst];simp[subH,Z6,names,List.take_of_length_le])
   | false=>
    rw[hb,if_neg (by decide)] at hbt hst
    (refine V1 (jO hit (jO hwu hbt)) ?_;with_reducible repeat' intro h)
    all_goals try exact oF
    exact px ⟨(q,i+1),hlt⟩ (by dsimp only;omega) (by dsimp only;rw[hst];simp[E2]) (by dsimp only;rw[hst];simp[subH,Z6,names])
  ·obtain rfl:i=12:=by omega
   have hit:(((12:Nat):Int)≤11)=False:=eq_false (by omega)
   (refine V1 hit ?_)
   all_goals try exact oF
   refine callS.borA (w79 ((Yw n).map nS) ⟨#[32]⟩ (by have:=setL_len n;rw[List.length_map];omega) (by decide) (by
    intro x hx
    obtain ⟨k,hk,rfl⟩:=List.mem_map.1 hx
    have:=(setL_lt n).2 k hk
    exact Nat.le_trans (YY (n:=(k:Int)) (by omega) (by omega)) (by omega))) (.cons (Bor.seen (f:=T) (fun a=>by simp[view,Y7]) Z0 (by rw[List.length_map];rfl)) (.cons .refl .nil)) rfl ?_
   have ej:((Yw n).map nS).map Z9=(Yw n).map fun k:Nat=>itoa k:=by rw[List.map_map];rfl
   rw[ej,show Z9 ⟨#[32]⟩=[32] from rfl]
   generalize Zs [32] ((Yw n).map fun k:Nat=>itoa k)=J at *
   (refine V0 ?_;with_reducible repeat' apply jO)
   all_goals first|(exfalso;omega)|(simp[chA];done)|(simp[chA];omega)
 ·rw[txt_bool]
  rcases h1 with rfl|rfl
  ·refine Z8 mxd i119 rfl (by simp) ?_;refine X0 ?_
   (refine V0 ?_)
   refine callS.eq hty ?_
   (refine V0 ?_;with_reducible repeat' first|intro h|refine aO ?_)
   all_goals rfl
  ·refine Z8 mxd i119 rfl (by simp) ?_;refine X0 ?_
   (refine V0 ?_)
   refine callS.eq hty ?_
   (refine V0 ?_;with_reducible repeat' intro h)
   all_goals rfl
theorem w153 (e:Exp):Pu 153 [Ex e] (· = I (lvE e)):=by
 refine Z8 mxd i153 rfl (by simp) ?_;refine X0 ?_
 (refine V1 @XE ?_;with_reducible repeat' first|intro h|apply jO)
 all_goals first|(simp[lvE,Zy, *];done)|(simp[lvE,Zy, *];omega)|trace_state
theorem Tryz.at7 (e:Exp) (L:Nat) (hL:L≤4) (hlen:(ZZ e).length ≤ 1000000) (h:Pu 75 [Ex e] (· = .val (mkS (ZZ e)))):Pu 120 [Ex e,I L] (· = .val (mkS (oprT L e))):=by
 have hlv:=lvE_bd e
 rw[oprT_eq]
 generalize ZZ e=A at *
 by_cases hc:lvE e<L
 ·rw[if_pos hc]
  have hc':((lvE e:Int)<(L:Int))=True:=eq_true (by omega)
  refine Z8 mxd i120 rfl (by simp) ?_;refine X0 ?_
  (refine V1 @XE ?_)
  refine callS.eq h ?_
  (refine V1 @XE ?_)
  refine callS.eq (w153 e) ?_
  (refine V1 hc' ?_;with_reducible repeat' apply jO)
  all_goals first|(exfalso;omega)|(simp[chA];done)|(simp[chA];omega)|trace_state
 ·rw[if_neg hc]
  have hc':((lvE e:Int)<(L:Int))=False:=eq_false (by omega)
  refine Z8 mxd i120 rfl (by simp) ?_;refine X0 ?_
  (refine V1 @XE ?_)
  refine callS.eq h ?_
  (refine V1 @XE ?_)
  refine callS.eq (w153 e) ?_
  (refine V1 hc' ?_;with_reducible repeat' exact trivial)
  all_goals first|(exfalso;omega)|(simp[chA];done)|(simp[chA];omega)|trace_state
theorem Tryz.op7 (e a b:Exp) (h:IsOp e a b) (he:e = .mk 4 e.n 0 0 noS noS [a,b]) (hla:(ZZ a).length ≤ 500000) (hlb:(ZZ b).length ≤ 500000)
 (ha:Pu 75 [Ex a] (· = .val (mkS (ZZ a)))) (hb:Pu 75 [Ex b] (· = .val (mkS (ZZ b)))):Pu 121 [Ex e] (· = .val (mkS (ZZ e))):=by
 have n0:=h.n0
 have n1:=h.n1
 have hk:=h.k
 have hag:=h.a
 have hga:Go.Gh.isAgg (Ex a)=true:=by rw[ZA];rfl
 have hgb:Go.Gh.isAgg (Ex b)=true:=by rw[ZA];rfl
 have hw:=opW_get n0 n1
 have hwl:=opW_len e.n (mem12 n0 n1)
 have hlv:=w153 e
 rw[lvE_4 hk] at hlv
 have htx:=h.txt he
 rw[htx]
 clear htx he h
 rcases opLv_cases e.n with h4|h4|h4|h4
 ·have hA:=Tryz.at7 a 2 (by omega) (by omega) ha
  have hB:=Tryz.at7 b (1+1) (by omega) (by omega) hb
  have hAl:=YQ 2 a
  have hBl:=YQ (1+1) b
  rw[h4] at hlv ⊢
  rw[if_neg (by decide),show max 1 2=2 from rfl]
  replace hlv:Pu 153 [Ex e] (· = I 1):=hlv
  generalize oprT 2 a=A at *
  generalize oprT (1+1) b=B at *
  refine Z8 mxd i121 rfl (by simp) ?_;refine X0 ?_
  (refine V1 @XE ?_;with_reducible repeat' intro h)
  refine callS.eq hlv ?_
  (refine V2 (jO @XE (jO hag (jO hga (jO hgb (jO hw (jO @List.getElem_cons_zero.{0} @List.getElem_cons_succ.{0})))))) ?_)
  (refine V2 (jO @XE (jO hag (jO hga (jO hgb (jO hw (jO @List.getElem_cons_zero.{0} @List.getElem_cons_succ.{0})))))) ?_)
  all_goals try exact oF
  refine callS.eq (w150 1 2) ?_
  rw[show max (1:Int) 2=((2:Nat):Int) from rfl]
  (refine V2 (jO @XE (jO hag (jO hga (jO hgb (jO hw (jO @List.getElem_cons_zero.{0} @List.getElem_cons_succ.{0})))))) ?_)
  refine callS.eq hA ?_
  (refine V2 (jO @XE (jO hag (jO hga (jO hgb (jO hw (jO @List.getElem_cons_zero.{0} @List.getElem_cons_succ.{0})))))) ?_;with_reducible repeat' first|refine aO ?_|apply jO)
  (refine V2 (jO @XE (jO hag (jO hga (jO hgb (jO hw (jO @List.getElem_cons_zero.{0} @List.getElem_cons_succ.{0})))))) ?_)
  all_goals first|(exfalso;omega)|(simp only[chA,List.length_append,List.length_cons,List.length_nil];omega)|(simp[chA];done)|skip
  refine callS.eq hB ?_
  (refine V0 ?_;with_reducible repeat' apply jO)
  all_goals first|(exfalso;omega)|(simp only[chA,List.length_append,List.length_cons,List.length_nil];omega)|(simp[chA];done)|trace_state
 ·have hA:=Tryz.at7 a 2 (by omega) (by omega) ha
  have hB:=Tryz.at7 b (2+1) (by omega) (by omega) hb
  have hAl:=YQ 2 a
  have hBl:=YQ (2+1) b
  rw[h4] at hlv ⊢
  rw[if_neg (by decide),show max 2 2=2 from rfl]
  replace hlv:Pu 153 [Ex e] (· = I 2):=hlv
  generalize oprT 2 a=A at *
  generalize oprT (2+1) b=B at *
  refine Z8 mxd i121 rfl (by simp) ?_;refine X0 ?_
  (refine V1 @XE ?_;with_reducible repeat' intro h)
  refine callS.eq hlv ?_
  (refine V2 (jO @XE (jO hag (jO hga (jO hgb (jO hw (jO @List.getElem_cons_zero.{0} @List.getElem_cons_succ.{0})))))) ?_)
  (refine V2 (jO @XE (jO hag (jO hga (jO hgb (jO hw (jO @List.getElem_cons_zero.{0} @List.getElem_cons_succ.{0})))))) ?_)
  all_goals try exact oF
  refine callS.eq (w150 2 2) ?_
  rw[show max (2:Int) 2=((2:Nat):Int) from rfl]
  (refine V2 (jO @XE (jO hag (jO hga (jO hgb (jO hw (jO @List.getElem_cons_zero.{0} @List.getElem_cons_succ.{0})))))) ?_)
  refine callS.eq hA ?_
  (refine V2 (jO @XE (jO hag (jO hga (jO hgb (jO hw (jO @List.getElem_cons_zero.{0} @List.getElem_cons_succ.{0})))))) ?_;with_reducible repeat' first|refine aO ?_|apply jO)
  (refine V2 (jO @XE (jO hag (jO hga (jO hgb (jO hw (jO @List.getElem_cons_zero.{0} @List.getElem_cons_succ.{0})))))) ?_)
  all_goals first|(exfalso;omega)|(simp only[chA,List.length_append,List.length_cons,List.length_nil];omega)|(simp[chA];done)|skip
  refine callS.eq hB ?_
  (refine V0 ?_;with_reducible repeat' apply jO)
  all_goals first|(exfalso;omega)|(simp only[chA,List.length_append,List.length_cons,List.length_nil];omega)|(simp[chA];done)|trace_state
 ·have hA:=Tryz.at7 a 3 (by omega) (by omega) ha
  have hB:=Tryz.at7 b (3+1) (by omega) (by omega) hb
  have hAl:=YQ 3 a
  have hBl:=YQ (3+1) b
  rw[h4] at hlv ⊢
  rw[if_neg (by decide),show max 3 2=3 from rfl]
  replace hlv:Pu 153 [Ex e] (· = I 3):=hlv
  generalize oprT 3 a=A at *
  generalize oprT (3+1) b=B at *
  refine Z8 mxd i121 rfl (by simp) ?_;refine X0 ?_
  (refine V1 @XE ?_;with_reducible repeat' intro h)
  refine callS.eq hlv ?_
  (refine V2 (jO @XE (jO hag (jO hga (jO hgb (jO hw (jO @List.getElem_cons_zero.{0} @List.getElem_cons_succ.{0})))))) ?_)
  (refine V2 (jO @XE (jO hag (jO hga (jO hgb (jO hw (jO @List.getElem_cons_zero.{0} @List.getElem_cons_succ.{0})))))) ?_)
  all_goals try exact oF
  refine callS.eq (w150 3 2) ?_
  rw[show max (3:Int) 2=((3:Nat):Int) from rfl]
  (refine V2 (jO @XE (jO hag (jO hga (jO hgb (jO hw (jO @List.getElem_cons_zero.{0} @List.getElem_cons_succ.{0})))))) ?_)
  refine callS.eq hA ?_
  (refine V2 (jO @XE (jO hag (jO hga (jO hgb (jO hw (jO @List.getElem_cons_zero.{0} @List.getElem_cons_succ.{0})))))) ?_;with_reducible repeat' first|refine aO ?_|apply jO)
  (refine V2 (jO @XE (jO hag (jO hga (jO hgb (jO hw (jO @List.getElem_cons_zero.{0} @List.getElem_cons_succ.{0})))))) ?_)
  all_goals first|(exfalso;omega)|(simp only[chA,List.length_append,List.length_cons,List.length_nil];omega)|(simp[chA];done)|skip
  refine callS.eq hB ?_
  (refine V0 ?_;with_reducible repeat' apply jO)
  all_goals first|(exfalso;omega)|(simp only[chA,List.length_append,List.length_cons,List.length_nil];omega)|(simp[chA];done)|trace_state
 ·rw[h4] at hlv ⊢
  rw[if_pos rfl]
  replace hlv:Pu 153 [Ex e] (· = I 4):=hlv
  generalize ZZ a=A at *
  generalize ZZ b=B at *
  refine Z8 mxd i121 rfl (by simp) ?_;refine X0 ?_
  (refine V1 @XE ?_;with_reducible repeat' intro h)
  refine callS.eq hlv ?_
  (refine V2 (jO @XE (jO hag (jO hga (jO hgb (jO hw (jO @List.getElem_cons_zero.{0} @List.getElem_cons_succ.{0})))))) ?_;with_reducible repeat' apply jO)
  (refine V2 (jO @XE (jO hag (jO hga (jO hgb (jO hw (jO @List.getElem_cons_zero.{0} @List.getElem_cons_succ.{0})))))) ?_)
  all_goals try exact oF
  all_goals first|(exfalso;omega)|(simp only[chA,List.length_append,List.length_cons,List.length_nil];omega)|(simp[chA];done)|skip
  refine callS.eq ha ?_
  (refine V2 (jO @XE (jO hag (jO hga (jO hgb (jO hw (jO @List.getElem_cons_zero.{0} @List.getElem_cons_succ.{0})))))) ?_;with_reducible repeat' apply jO)
  (refine V2 (jO @XE (jO hag (jO hga (jO hgb (jO hw (jO @List.getElem_cons_zero.{0} @List.getElem_cons_succ.{0})))))) ?_)
  all_goals first|(exfalso;omega)|(simp only[chA,List.length_append,List.length_cons,List.length_nil];omega)|(simp[chA];done)|skip
  refine callS.eq hb ?_
  (refine V0 ?_;with_reducible repeat' apply jO)
  all_goals first|(exfalso;omega)|(simp only[chA,List.length_append,List.length_cons,List.length_nil];omega)|(simp[chA];done)|trace_state
theorem w75:∀(e:Exp),YR YT e=true→Zr e≤1000→Pu 75 [Ex e] (· = .val (mkS (ZZ e))):=by
 refine Exp.indA fun e ih=> ?_
 intro hv hc
 obtain ⟨hn,hv⟩:=allE_args hv
 have hag:Go.Gh.isAgg (Ex e)=true:=by rw[ZA];rfl
 rcases (node_c hn).c with ⟨n,h1,h2,he⟩|⟨n,h1,h2,he⟩|⟨n,h1,he⟩|he|⟨p,m,h1,h2,h3,he⟩|⟨n,a,b,h1,h2,he⟩|⟨a,b,c,he⟩|⟨p,h1,h2,he⟩|he|⟨s,m,a,h1,h2,he⟩
 ·have hk:e.kind=1:=by rw[he];rfl
  have hft:=w119 e.n e.type (.inl ⟨by rw[he];rfl,by rw[he];exact h1,by rw[he];exact h2⟩)
  have ee:Exp.mk 1 e.n 0 e.type noS noS []=e:=by rw[he];rfl
  rw[ee] at hft
  refine Z8 mxd i75 rfl (by simp) ?_;refine X0 ?_
  (refine V2 (jO @XE (jO hk (jO hag (jO @List.getElem_cons_zero.{0} @List.getElem_cons_succ.{0})))) ?_)
  refine callS.eq hft ?_
  (refine V0 ?_;with_reducible repeat' exact trivial)
 ·have hk:e.kind=1:=by rw[he];rfl
  have hft:=w119 e.n e.type (.inr (.inl ⟨by rw[he];rfl,by rw[he];exact h1,by rw[he];exact h2⟩))
  have ee:Exp.mk 1 e.n 0 e.type noS noS []=e:=by rw[he];rfl
  rw[ee] at hft
  refine Z8 mxd i75 rfl (by simp) ?_;refine X0 ?_
  (refine V2 (jO @XE (jO hk (jO hag (jO @List.getElem_cons_zero.{0} @List.getElem_cons_succ.{0})))) ?_)
  refine callS.eq hft ?_
  (refine V0 ?_;with_reducible repeat' exact trivial)
 ·have hk:e.kind=1:=by rw[he];rfl
  have hft:=w119 e.n e.type (.inr (.inr ⟨by rw[he];rfl,by rw[he];exact h1⟩))
  have ee:Exp.mk 1 e.n 0 e.type noS noS []=e:=by rw[he];rfl
  rw[ee] at hft
  refine Z8 mxd i75 rfl (by simp) ?_;refine X0 ?_
  (refine V2 (jO @XE (jO hk (jO hag (jO @List.getElem_cons_zero.{0} @List.getElem_cons_succ.{0})))) ?_)
  refine callS.eq hft ?_
  (refine V0 ?_;with_reducible repeat' exact trivial)
 ·have hk:e.kind=2:=by rw[he];rfl
  have htx:ZZ e = _ := (congrArg ZZ he).trans txt_lit
  rw[htx]
  refine Z8 mxd i75 rfl (by simp) ?_;refine X0 ?_
  (refine V2 (jO @XE (jO hk (jO hag (jO @List.getElem_cons_zero.{0} @List.getElem_cons_succ.{0})))) ?_;with_reducible repeat' exact trivial)
  all_goals try exact oF
 ·have hk:e.kind=3:=by rw[he];rfl
  have hp0:0≤e.pos∧e.pos≤3:=by rw[he];exact ⟨h1,h2⟩
  have hnl:(Z9 e.name).length ≤ 8:=by rw[he];exact XX h3
  have htx:ZZ e=36::(itoa e.pos++46::Z9 e.name):=by rw[he];exact txt_attr p m
  rw[htx]
  have hfi:=w33 e.pos (by omega) (by omega)
  have hpl:=YY hp0.1 (by omega)
  generalize itoa e.pos=A at *
  refine Z8 mxd i75 rfl (by simp) ?_;refine X0 ?_
  (refine V2 (jO @XE (jO hk (jO hag (jO @List.getElem_cons_zero.{0} @List.getElem_cons_succ.{0})))) ?_)
  refine callS.eq hfi ?_
  (refine V2 (jO @XE (jO hk (jO hag (jO @List.getElem_cons_zero.{0} @List.getElem_cons_succ.{0})))) ?_;with_reducible repeat' apply jO)
  all_goals first|(exfalso;omega)|(simp only[chA,List.length_append,List.length_cons,List.length_nil];omega)|(simp[chA];done)|skip
 ·have hk:e.kind=4:=by rw[he];rfl
  have hen:e.n=n:=by rw[he];rfl
  have har:e.args=[a,b]:=by rw[he];rfl
  have hcn:Zr e=1+Zr a+Zr b:=by rw[he,Y0];simp[Exp.args];omega
  have hva:=hv a (by rw[har];simp)
  have hvb:=hv b (by rw[har];simp)
  have ha:=ih a (by rw[har];simp) hva (by omega)
  have hb:=ih b (by rw[har];simp) hvb (by omega)
  have hla:=X7 a hva
  have hlb:=X7 b hvb
  have hop:=Tryz.op7 e a b ⟨hk,by rw[hen];exact h1,by rw[hen];exact h2,har⟩ (by rw[hen];exact he) (by omega) (by omega) ha hb
  refine Z8 mxd i75 rfl (by simp) ?_;refine X0 ?_
  (refine V2 (jO @XE (jO hk (jO hag (jO @List.getElem_cons_zero.{0} @List.getElem_cons_succ.{0})))) ?_)
  refine callS.eq hop ?_
  (refine V0 ?_;with_reducible repeat' exact trivial)
 ·have hk:e.kind=5:=by rw[he];rfl
  have har:e.args=[a,b,c]:=by rw[he];rfl
  have hcn:Zr e=1+Zr a+Zr b+Zr c:=by rw[he,Y0];simp[Exp.args];omega
  have hva:=hv a (by rw[har];simp)
  have hvb:=hv b (by rw[har];simp)
  have hvc:=hv c (by rw[har];simp)
  have ha:=ih a (by rw[har];simp) hva (by omega)
  have hb:=ih b (by rw[har];simp) hvb (by omega)
  have hcc:=ih c (by rw[har];simp) hvc (by omega)
  have hla:=X7 a hva
  have hlb:=X7 b hvb
  have hlc:=X7 c hvc
  have hga:Go.Gh.isAgg (Ex a)=true:=by rw[ZA];rfl
  have hgb:Go.Gh.isAgg (Ex b)=true:=by rw[ZA];rfl
  have hgc:Go.Gh.isAgg (Ex c)=true:=by rw[ZA];rfl
  have htx:ZZ e=[105,102,32]++ZZ a++[32,116,104,101,110,32]++ZZ b++[32,101,108,115,101,32]++ZZ c:=by rw[he];exact txt_if a b c
  rw[htx]
  generalize ZZ a=A at *
  generalize ZZ b=B at *
  generalize ZZ c=C at *
  refine Z8 mxd i75 rfl (by simp) ?_;refine X0 ?_
  (refine V2 (jO @XE (jO hk (jO hag (jO @List.getElem_cons_zero.{0} (jO @List.getElem_cons_succ.{0} (jO har (jO hga (jO hgb hgc)))))))) ?_)
  (refine V2 (jO @XE (jO hk (jO hag (jO @List.getElem_cons_zero.{0} (jO @List.getElem_cons_succ.{0} (jO har (jO hga (jO hgb hgc)))))))) ?_)
  all_goals first|(exfalso;omega)|(simp only[chA,List.length_append,List.length_cons,List.length_nil];omega)|(simp[chA];done)|skip
  refine callS.eq ha ?_
  (refine V2 (jO @XE (jO hk (jO hag (jO @List.getElem_cons_zero.{0} (jO @List.getElem_cons_succ.{0} (jO har (jO hga (jO hgb hgc)))))))) ?_;with_reducible repeat' apply jO)
  (refine V2 (jO @XE (jO hk (jO hag (jO @List.getElem_cons_zero.{0} (jO @List.getElem_cons_succ.{0} (jO har (jO hga (jO hgb hgc)))))))) ?_)
  all_goals first|(exfalso;omega)|(simp only[chA,List.length_append,List.length_cons,List.length_nil];omega)|(simp[chA];done)|skip
  refine callS.eq hb ?_
  (refine V2 (jO @XE (jO hk (jO hag (jO @List.getElem_cons_zero.{0} (jO @List.getElem_cons_succ.{0} (jO har (jO hga (jO hgb hgc)))))))) ?_;with_reducible repeat' apply jO)
  (refine V2 (jO @XE (jO hk (jO hag (jO @List.getElem_cons_zero.{0} (jO @List.getElem_cons_succ.{0} (jO har (jO hga (jO hgb hgc)))))))) ?_)
  all_goals first|(exfalso;omega)|(simp only[chA,List.length_append,List.length_cons,List.length_nil];omega)|(simp[chA];done)|skip
  refine callS.eq hcc ?_
  (refine V2 (jO @XE (jO hk (jO hag (jO @List.getElem_cons_zero.{0} @List.getElem_cons_succ.{0})))) ?_;with_reducible repeat' apply jO)
  all_goals first|(exfalso;omega)|(simp only[chA,List.length_append,List.length_cons,List.length_nil];omega)|(simp[chA];done)|skip
 ·have hk:e.kind=6:=by rw[he];rfl
  have hp0:0≤e.pos∧e.pos≤3:=by rw[he];exact ⟨h1,h2⟩
  have htx:ZZ e=[115,101,108,102,40]++(itoa e.pos++[41]):=by rw[he];exact txt_self p
  rw[htx]
  have hfi:=w33 e.pos (by omega) (by omega)
  have hpl:=YY hp0.1 (by omega)
  generalize itoa e.pos=A at *
  refine Z8 mxd i75 rfl (by simp) ?_;refine X0 ?_
  (refine V2 (jO @XE (jO hk (jO hag (jO @List.getElem_cons_zero.{0} @List.getElem_cons_succ.{0})))) ?_)
  refine callS.eq hfi ?_
  (refine V2 (jO @XE (jO hk (jO hag (jO @List.getElem_cons_zero.{0} @List.getElem_cons_succ.{0})))) ?_;with_reducible repeat' apply jO)
  all_goals first|(exfalso;omega)|(simp only[chA,List.length_append,List.length_cons,List.length_nil];omega)|(simp[chA];done)|skip
 ·have hk:e.kind=7:=by rw[he];rfl
  have htx:ZZ e = _ := (congrArg ZZ he).trans txt_none
  rw[htx]
  refine Z8 mxd i75 rfl (by simp) ?_;refine X0 ?_
  (refine V2 (jO @XE (jO hk (jO hag (jO @List.getElem_cons_zero.{0} @List.getElem_cons_succ.{0})))) ?_;with_reducible repeat' exact trivial)
  all_goals try exact oF
 ·have hk:e.kind=8:=by rw[he];rfl
  have har:e.args=[a]:=by rw[he];rfl
  have hcn:Zr e=1+Zr a:=by rw[he,Y0];simp[Exp.args]
  have hva:=hv a (by rw[har];simp)
  have ha:=ih a (by rw[har];simp) hva (by omega)
  have hla:=X7 a hva
  have hga:Go.Gh.isAgg (Ex a)=true:=by rw[ZA];rfl
  have hat:=Tryz.at7 a 4 (by omega) (by omega) ha
  have hal:=YQ 4 a
  have hsl:(Z9 e.sym).length ≤ 8:=by rw[he];exact XX h1
  have hnl:(Z9 e.name).length ≤ 8:=by rw[he];exact XX h2
  have htx:ZZ e=Z9 e.sym++46::(Z9 e.name++[32,111,102,32]++oprT 4 a):=by rw[he];exact txt_rem s m a
  rw[htx]
  generalize oprT 4 a=A at *
  refine Z8 mxd i75 rfl (by simp) ?_;refine X0 ?_
  (refine V2 (jO @XE (jO hk (jO hag (jO @List.getElem_cons_zero.{0} (jO @List.getElem_cons_succ.{0} (jO har hga)))))) ?_;with_reducible repeat' apply jO)
  (refine V2 (jO @XE (jO hk (jO hag (jO @List.getElem_cons_zero.{0} (jO @List.getElem_cons_succ.{0} (jO har hga)))))) ?_)
  all_goals first|(exfalso;omega)|(simp only[chA,List.length_append,List.length_cons,List.length_nil];omega)|(simp[chA];done)|skip
  refine callS.eq hat ?_
  (refine V2 (jO @XE (jO hk (jO hag (jO @List.getElem_cons_zero.{0} @List.getElem_cons_succ.{0})))) ?_;with_reducible repeat' apply jO)
  all_goals first|(exfalso;omega)|(simp only[chA,List.length_append,List.length_cons,List.length_nil];omega)|(simp[chA];done)|skip
theorem w34 (e:Exp) (h1:okE e) (h2:wEx e≤1048576):Pu 34 [Ex e] (· = .val (mkS (fmtE e))):=by
 have hv:=w74 e h1 h2
 have hag:Go.Gh.isAgg (Ex e)=true:=by rw[ZA];rfl
 unfold fmtE
 by_cases h:Zo e=true
 ·have ht:Pu 75 [Ex e] (· = .val (mkS (ZZ e))):=by
   simp only[Zo,Bool.and_eq_true,decide_eq_true_eq] at h
   exact w75 e h.2 (by omega)
  rw[h] at hv
  rw[if_pos h]
  refine Z8 mxd i34 rfl (by simp) ?_;refine X0 ?_
  (refine V1 (jO @XE hag) ?_)
  refine callS.eq hv ?_
  (refine V1 (jO @XE hag) ?_)
  refine callS.eq ht ?_
  (refine V0 ?_;with_reducible repeat' exact trivial)
 ·rw[Bool.eq_false_iff.2 h] at hv
  rw[if_neg h]
  refine Z8 mxd i34 rfl (by simp) ?_;refine X0 ?_
  (refine V1 (jO @XE hag) ?_)
  refine callS.eq hv ?_
  (refine V0 ?_;with_reducible repeat' exact trivial)
end Go.Proofs.YtcegkonjphbfaaaGreatDoor
namespace Go.Proofs.YtcegkonjphbfaaaGreatDoor
open Go.Gh
open Nat (reduceEqDiff reduceLeDiff reduceAdd reduceLT)
open Int (reduceNe)
open Go.Shelf Go.RowKit Go.Lib
theorem Tryz.joinX:Builder.Extra Tryz.prog Tryz.joinL_ren:={
 sizeBuilder:=by kernel_rfl
 liesBuilder:=by kernel_rfl
 t5:=Tryz.underlying5
 a5:=Tryz.isAgg5
 z5:=Tryz.sizeOf5
 v5:=Tryz.zeroValue5
 infoByte:=by kernel_rfl
 cellsByte:=by kernel_rfl
 sizeByte:=by kernel_rfl
 neB5:=by decide }
theorem w136 (l:List ByteArray) (sep:ByteArray) (hl:l.length≤8796093022208) (hj:(Zs (Z9 sep) (l.map Z9)).length ≤ 70368744177664):Pu 136 [.sl 1 (l.map T),T sep] (· = .val (mkS (Zs (Z9 sep) (l.map Z9)))):=by
 have eg:∀args w,(callFunc 136 args).run Tryz.prog w = .ok (.enter 136 args) w:=enters_of Tryz.func136 (by kernel_rfl) rfl
 refine lib_ok (T:=[]) (fun w D vs hm hn hml=> ?_) (by simp) eg
 simp only[ML,MV] at hml
 obtain ⟨v1,vs',F1,F2,rfl,_,⟨_,h1⟩,v2,vs2,F3,F4,rfl,_,⟨rfl,_⟩,rfl,_⟩:=hml
 have fin:∀(e:Ending) (w':World),(e = .returned (.string ⟨(Lib.join (l.map (·.data.toList)) sep.data.toList).toArray⟩)∧Below w.heap.size w w')→∃v g,e = .returned v∧g = .val (mkS (Zs (Z9 sep) (l.map Z9)))∧(∀D',MV w' D' g v [])∧Below w.heap.size w w':=by
  rintro e w' ⟨rfl,hb⟩
  exact ⟨_,_,rfl,rfl,fun D'=>MV.val_mk _,hb⟩
 rcases h1 with ⟨h0,a,cap,rfl⟩|⟨b,off,cap,cs,rfl,hc,_,_,⟨c,ty,fz,hh,hr⟩,hf⟩
 ·obtain rfl:l=[]:=by simpa using h0
  exact (Go.Proofs.Any.strings_Join_none Tryz.joinL Tryz.joinX a cap sep w).mono fun e w' ⟨h1,h2⟩=>fin e w' ⟨h1,h2▸Below.refl _ _⟩
 ·have hcs:=sl_str l cs hf
  rw[List.length_map] at hc ⊢
  refine (Go.Proofs.Any.strings_Join Tryz.joinL Tryz.joinX b off cap l sep w (fun j x hx=> ?_) (Go.Gh.lt_of_heap hh) (by omega) hc (Nat.le_trans hj (by omega))).mono fin
  have:=hr j (.string x) (by rw[hcs,List.getElem?_map,hx];rfl)
  simp only[World.cell?,hh]
  exact this
theorem w101 (l:List ByteArray) (sep:ByteArray) (hl:l.length≤8796093022208) (hj:(Zs (Z9 sep) (l.map Z9)).length ≤ 70368744177664):Pu 101 [.sl 1 (l.map T),T sep] (· = .val (mkS (Zs (Z9 sep) (l.map Z9)))):=by
 refine Z8 mxd i101 rfl (by simp) ?_;refine X0 ?_
 (refine V0 ?_)
 refine callS.eq (w136 l sep hl hj) ?_
 (refine V0 ?_;with_reducible repeat' exact trivial)
end Go.Proofs.YtcegkonjphbfaaaGreatDoor
