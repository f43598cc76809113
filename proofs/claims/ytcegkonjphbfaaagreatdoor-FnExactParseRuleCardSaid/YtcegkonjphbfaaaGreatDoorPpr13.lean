/- The tied card of the law holds. No condition. -/
import Derived.Test.YtcegkonjphbfaaaGreatDoorPpr10
import Derived.Test.YtcegkonjphbfaaaGreatDoorPpr12
set_option maxHeartbeats 40000000
set_option maxRecDepth 20000
set_option linter.unusedSimpArgs false
set_option linter.unusedVariables false
namespace Go.Proofs.YtcegkonjphbfaaaGreatDoor
open Go.Gh
open Nat (reduceEqDiff reduceLeDiff reduceAdd reduceLT)
open Int (reduceNe)
open Go.Lib
theorem w38 (xs ys:List ByteArray):Pu 38 [TS xs,TS ys] (· = B (decide (xs=ys))):=by
 refine GCalls.lenA fun hl=> ?_
 have hl:=hl.1.1
 simp only[List.length_map,Y9] at hl
 refine Z8 mxd i38 rfl (by simp) ?_;refine X0 ?_
 (refine R0 ?_;with_reducible repeat' first|intro h|apply jO)
 rotate_left
 ·simp;rintro rfl;exact h rfl
 refine Zk mxd (ι:={ i:Nat // i≤xs.length∧xs.take i=ys.take i }) (fun i=>[(0,TS xs),(1,TS ys),(5,I i.1)]) (fun _ => []) (fun i=>xs.length-i.1) ⟨0,by simp⟩ (by simp[E2]) rfl ?_
 rintro ⟨i,hi,hp⟩
 (refine R0 ?_;with_reducible repeat' first|intro h|apply jO)
 ·exact nx ⟨i+1,by omega,take_eq_step hp (by omega) (by omega) h⟩ (by simp;omega) (by simp[E2]) rfl
 ·simp;rintro rfl;simp at h
 ·have:i=xs.length:=by omega
  subst this
  rw[tL (by omega),tL (by omega)] at hp
  simp[hp]
theorem w36 (s:ByteArray) (hs:(Z9 s).length ≤ 1048576):Pu 36 [T s] (· = Qn (rqS (Z9 s))):=by
 refine Pure.bor ?_
 have hc:=X3 (Z9 s) dfT
 have hq:=w77 s hs
 unfold rqS
 generalize cut (Z9 s) dfT=C at *
 obtain ⟨a,b,f⟩:=C
 dsimp only at hc hq ⊢
 have h2:=w78 ⟨b.toArray⟩ (by rw[chA];omega)
 rw[chA] at h2
 have hga:Go.Gh.isAgg (Ex (ZD b).1)=true:=by rw[ZA];rfl
 generalize ZD b=V at *
 by_cases h4:4<a.length
 ·have e4:((4:Int)<a.length)=True:=eq_true (by omega)
  have h1:=w78 ⟨(a.drop 3).toArray⟩ (by rw[chA,List.length_drop];omega)
  rw[chA] at h1
  have hgb:Go.Gh.isAgg (Ex (ZD (a.drop 3)).1)=true:=by rw[ZA];rfl
  generalize ZD (a.drop 3)=U at *
  rw[if_pos h4]
  refine Z8 mxd i36 rfl (by simp) ?_;refine X0 ?_
  (refine V0 ?_;with_reducible repeat' intro h)
  refine callS.eq hq ?_
  (refine V2 (jO e4 (jO @XE (jO @chA @List.take_length.{0}))) ?_)
  refine callS.eq h1 ?_
  (refine V1 (jO @XE (jO hga hgb)) ?_)
  refine callS.eq h2 ?_
  (refine V1 (jO @XE (jO hga hgb)) ?_)
  exact .refl
 ·have e4:((4:Int)<a.length)=False:=eq_false (by omega)
  rw[if_neg h4]
  refine Z8 mxd i36 rfl (by simp) ?_;refine X0 ?_
  (refine V0 ?_;with_reducible repeat' intro h)
  refine callS.eq hq ?_
  (refine V1 (jO e4 (jO @XE @chA)) ?_)
  refine callS.eq h2 ?_
  (refine V1 (jO @XE hga) ?_)
  exact .refl
theorem w37 (s:ByteArray) (hs:(Z9 s).length ≤ 1048576):Pu 37 [T s] (· = Co (rcS (Z9 s))):=by
 refine Pure.bor ?_
 have hc:=X3 (Z9 s) dfT
 have hq:=w77 s hs
 unfold rcS
 generalize cut (Z9 s) dfT=C at *
 obtain ⟨a,b,f⟩:=C
 dsimp only at hc hq ⊢
 have h2:=w78 ⟨b.toArray⟩ (by rw[chA];omega)
 rw[chA] at h2
 have hga:Go.Gh.isAgg (Ex (ZD b).1)=true:=by rw[ZA];rfl
 have hw:=w76 ⟨a.toArray⟩ 32 (by rw[chA];omega)
 rw[chA] at hw
 have hwl:=spl_len (b:=32) a
 have hwm:∀w∈spl 32 a,w.length≤1048576:=fun w h=>Nat.le_trans (spl_mem h) (by omega)
 have hjl:=jn_drop 3 (spl 32 a)
 rw[jn_spl] at hjl
 generalize spl 32 a=W at *
 generalize ZD b=V at *
 by_cases h4:W.length<4
 ·have e4:((W.length:Int)<4)=True:=eq_true (by omega)
  rw[if_pos h4]
  refine Z8 mxd i37 rfl (by simp) ?_;refine X0 ?_
  (refine V0 ?_;with_reducible repeat' intro h)
  refine callS.eq hq ?_
  (refine V0 ?_)
  refine callS.eq hw ?_
  (refine V1 (jO e4 @List.length_map.{0,0}) ?_)
  exact bor_coZ
 ·have e4:((W.length:Int)<4)=False:=eq_false (by omega)
  rw[if_neg h4]
  have e1:W.getD 1 []=W[1]:=by rw[List.getD_eq_getElem?_getD,List.getElem?_eq_getElem (by omega)];rfl
  rw[e1]
  have hn:=w76 ⟨W[1].toArray⟩ 46 (by rw[chA];exact hwm _ (gM _))
  rw[chA] at hn
  have hnl:=spl_len (b:=46) W[1]
  have hne:=List.length_pos_iff.2 (spl_ne 46 W[1])
  have hwl1:=hwm _ (gM (show 1<W.length by omega))
  generalize spl 46 W[1]=N at *
  have e2:N.headD []=N[0]:=by
   cases N with
   | nil=>simp at hne
   | cons x xs=>rfl
  have e3:N.getLastD []=N[N.length-1]:=by
   rw[List.getLastD_eq_getLast?,List.getLast?_eq_getElem?,List.getElem?_eq_getElem (by omega)]
   rfl
  have hk:((N.length:Int)-1).toNat = N.length-1:=by omega
  have hJ:=wj79 ((W.drop 3).map bA) ⟨#[32]⟩ (by rw[List.length_map,List.length_drop];omega) (by rw[map_chA,show Z9 ⟨#[32]⟩=[32] from rfl,jn_join];omega)
  rw[map_chA,show Z9 ⟨#[32]⟩=[32] from rfl,jn_join,List.map_drop,List.map_drop] at hJ
  have h3:=w78 ⟨(jn (W.drop 3)).toArray⟩ (by rw[chA];omega)
  rw[chA] at h3
  generalize jn (W.drop 3)=J at *
  have hgb:Go.Gh.isAgg (Ex (ZD J).1)=true:=by rw[ZA];rfl
  generalize ZD J=U at *
  rw[e2,e3]
  have htk:((W.map bA).map T).take W.length=(W.map bA).map T:=tL (by simp)
  refine Z8 mxd i37 rfl (by simp) ?_;refine X0 ?_
  (refine V0 ?_;with_reducible repeat' intro h)
  refine callS.eq hq ?_
  (refine V0 ?_)
  refine callS.eq hw ?_
  (refine V1 (jO e4 @List.length_map.{0,0}) ?_)
  all_goals try exact oF
  refine callS.eq hn ?_
  (refine V2 (jO @XE (jO hga (jO hgb (jO hk htk)))) ?_;with_reducible repeat' intro h)
  all_goals try exact oF
  refine callS.eq hJ ?_
  (refine V1 (jO @XE (jO hga (jO hgb hk))) ?_)
  refine callS.eq h3 ?_
  (refine V1 (jO @XE (jO hga (jO hgb hk))) ?_)
  refine callS.eq h2 ?_
  (refine V1 (jO @XE (jO hga (jO hgb hk))) ?_)
  exact .refl
theorem w35 (s:ByteArray) (hs:(Z9 s).length ≤ 1048576):Pu 35 [T s] (· = RuN (rhS (Z9 s))):=by
 refine Pure.bor ?_
 have hw:=w76 s 32 hs
 have hwl:=spl_len (b:=32) (Z9 s)
 unfold rhS
 generalize spl 32 (Z9 s)=W at *
 by_cases h4:W.length<4
 ·have e4:((W.length:Int)<4)=True:=eq_true (by omega)
  rw[if_pos h4]
  refine Z8 mxd i35 rfl (by simp) ?_;refine X0 ?_
  (refine V0 ?_;with_reducible repeat' intro h)
  refine callS.eq hw ?_
  (refine V1 (jO e4 @List.length_map.{0,0}) ?_)
  exact bor_ruN
 ·have e4:((W.length:Int)<4)=False:=eq_false (by omega)
  rw[if_neg h4]
  have e1:W.getD 1 []=W[1]:=by rw[List.getD_eq_getElem?_getD,List.getElem?_eq_getElem (by omega)];rfl
  have e2:W.getD 2 []=W[2]:=by rw[List.getD_eq_getElem?_getD,List.getElem?_eq_getElem (by omega)];rfl
  rw[e1,e2]
  obtain ⟨D,hD⟩:∃D,W.drop 4=D:=⟨_,rfl⟩
  have hDl:W.length=D.length+4:=by rw[←hD,List.length_drop];omega
  have hDg:∀(k:Nat) (h:k<D.length),W[k+4]'(by omega)=D[k]:=fun k h=>by
   subst hD
   rw[List.getElem_drop]
   congr 1
   omega
  rw[hD]
  refine Z8 mxd i35 rfl (by simp) ?_;refine X0 ?_
  (refine V0 ?_;with_reducible repeat' intro h)
  refine callS.eq hw ?_
  (refine V1 (jO e4 @List.length_map.{0,0}) ?_)
  all_goals try exact oF
  rename_i rr
  obtain ⟨v,hv,hvn⟩:=vfresh (names ((rr,6,[GV.agg [T (bA W[1]),T (bA W[2]),Zt,B false,Zt,Zt]])::[]))
  refine wloopF mxd (ι:={ x:Nat×Nat×List (List UInt8)×Bool // hdP D x.2.1 x.2.2.1 x.2.2.2 }) (fun x=>[(2,.raw 6),(3,.ptr rr 6 0 0),(4,TS (W.map bA)),(5,I (x.1.2.1+4:Nat))]) (fun x=>(x.1.1,1,(x.1.2.2.1.map bA).map T)::(rr,6,[.agg [T (bA W[1]),T (bA W[2]),.own x.1.1 1 0 x.1.2.2.1.length,B x.1.2.2.2,Zt,Zt]])::[]) (fun x=>D.length-x.1.2.1) ⟨(v,0,[],false),hd_init D⟩ (FE.virtF (sz:=6) (sz1:=1) (i:=0) (j:=2) (es:=[.agg [T (bA W[1]),T (bA W[2]),Zt,B false,Zt,Zt]]) (gs:=[T (bA W[1]),T (bA W[2]),Zt,B false,Zt,Zt]) Z0 rfl rfl hv hvn) (by simp[E2]) (by simp[Z1]) ?_
  clear hv hvn
  rintro ⟨⟨q,k,rs,lit⟩,hP⟩ hn
  dsimp only at hP hn ⊢
  obtain ⟨hl1,hl2⟩:=hd_le hP
  have h7:=Y3 hn
  (replace h7:=h7;simp only[VN] at h7)
  refine Y1 mxd ?_
  rcases nL k D.length with hlt|hge
  ·have e5:(((k+4:Nat):Int)<W.length)=True:=eq_true (by omega)
   have hg:=hDg k hlt
   by_cases hb:D[k]=litW
   ·have e6:((⟨(D[k]).toArray⟩:ByteArray)=⟨#[108,105,116]⟩)=True:=eq_true (congrArg bA hb)
    by_cases hlast:k+1=D.length
    ·have e7:(((k+4:Nat):Int)=(W.length:Int)-1)=True:=eq_true (by omega)
     (refine V1 (jO h7 (jO e5 (jO hg (jO e6 (jO e7 @List.length_map.{0,0}))))) ?_)
     exact nx ⟨(q,k+1,rs,true),hd_lit hP hlt hb hlast⟩ (by dsimp only;omega) (by simp[E2];omega) rfl
    ·have e7:(((k+4:Nat):Int)=(W.length:Int)-1)=False:=eq_false (by omega)
     (refine V1 (jO h7 (jO e5 (jO hg (jO e6 (jO e7 @List.length_map.{0,0}))))) ?_;with_reducible repeat' first|intro h|refine aO ?_)
     rename_i r1 _ r2
     rw[tL (by simp)]
     exact nxF ⟨(r2,k+1,rs++[D[k]],lit),hd_word hP hlt (fun h=>hlast h.2)⟩ (by dsimp only;omega) (FE.perm (H:=[_,_,_]) (L:=[(r2,_),(rr,_)]) (by repeat' (first|exact trivial|(refine And.intro (by simp only[Zd, *,if_true,if_false];try rfl) (And.intro (by simp[YG,Yt, *]) ?_))))) (by simp[E2];omega) (by simp[hb])
   ·have e6:((⟨(D[k]).toArray⟩:ByteArray)=⟨#[108,105,116]⟩)=False:=eq_false fun h=>hb (congrArg Z9 h)
    (refine V1 (jO h7 (jO e5 (jO hg (jO e6 @List.length_map.{0,0})))) ?_;with_reducible repeat' first|intro h|refine aO ?_)
    rename_i r1 _ r2
    rw[tL (by simp)]
    exact nxF ⟨(r2,k+1,rs++[D[k]],lit),hd_word hP hlt (fun h=>hb h.1)⟩ (by dsimp only;omega) (FE.perm (H:=[_,_,_]) (L:=[(r2,_),(rr,_)]) (by repeat' (first|exact trivial|(refine And.intro (by simp only[Zd, *,if_true,if_false];try rfl) (And.intro (by simp[YG,Yt, *]) ?_))))) (by simp[E2];omega) (by simp)
  ·obtain rfl:k=D.length:=by omega
   have e5:(((D.length+4:Nat):Int)<W.length)=False:=eq_false (by omega)
   obtain ⟨ho1,ho2⟩:=hd_out hP
   rw[←ho1,←ho2]
   (refine V1 (jO h7 (jO e5 @List.length_map.{0,0})) ?_)
   exact .agg (.cons .refl (.cons .refl (.cons (Bor.seen (f:=T) (fun a=>by simp[view,Y7]) Z0 (by simp)) (.cons .refl (.cons .refl (.cons .refl .nil))))))
theorem o10 (r:Rul) (hs:okRu r) (hm:smRu r) (H:GH):Gc 10 [Ru r] H (fun g H'=>∃q,g = .own q 1 0 (YK r).length ∧ H'=(q,1,((YK r).map bA).map T)::H):=by
 have hval:=w32 r hs hm
 by_cases hv:YX r=true
 ·rw[hv] at hval
  obtain ⟨h3,hqs,hcs⟩:=rul_parts hv
  obtain ⟨hn1,hn2,hn3⟩:=rul_names hv
  have hW0:=hdW_zero r
  have hWs:=fun i (h:i<r.right.length)=>hdW_succ (r:=r) h
  have hWl:=hdW_len hv
  have hE:=hdW_end r
  have hel:=hm.2.1
  have hcl:=hm.2.2.1
  rw[fmtR_eq hv]
  generalize hdT r=hd at *
  generalize hdW r=W at *
  rcases hlit:r.lit with _ | _
  all_goals (
   rw[hlit] at hE
   simp only[Bool.false_eq_true,if_false,if_true,List.append_nil] at hE
   refine Z8 mxd i10 rfl (by simp) ?_;refine X0 ?_
   (refine V0 ?_)
   refine callS.eq hval ?_
   (refine V1 @chA ?_;with_reducible repeat' apply jO)
   all_goals try exact oF
   all_goals try (simp only[List.length_append,List.length_cons,List.length_nil];omega)
   refine Zk mxd (ι:={ i:Nat // i≤r.right.length }) (fun i=>[(1,.rop 6 (Ru r)),(3,.val (mkS (W i.1))),(4,I i.1)]) (fun _ => H) (fun i=>r.right.length-i.1) ⟨0,by omega⟩ (by simp[E2,←hW0]) rfl ?_
   rintro ⟨i,hi⟩
   dsimp only
   have hb:=hWl i
   rcases nL i r.right.length with hlt|hge
   ·have hst:=hWs i hlt
    have hx:=hn3 _ (gM hlt)
    (refine V1 (jO hlt @chA) ?_;with_reducible repeat' first|intro h|apply jO)
    all_goals try exact oF
    all_goals try (simp only[List.length_append,List.length_cons,List.length_nil];omega)
    rw[←hst]
    exact nx ⟨i+1,by omega⟩ (by dsimp only;omega) (by simp[E2]) rfl
   ·obtain rfl:i=r.right.length:=by omega
    (refine V1 (jO hlit @chA) ?_;with_reducible repeat' first|intro h|refine aO ?_)
    all_goals try exact oF
    all_goals try (simp only[List.length_append,List.length_cons,List.length_nil];omega)
    rename_i q0
    rw[←hE]
    clear hE
    refine wloopF mxd (ι:={ x:Nat×Nat // x.2≤r.eqs.length }) (fun x=>[(1,.rop 6 (Ru r)),(5,.own x.1.1 1 0 (x.1.2+1)),(6,I x.1.2)]) (fun x=>(x.1.1,1,((hd::(r.eqs.take x.1.2).map eqT).map bA).map T)::H) (fun x=>r.eqs.length-x.1.2) ⟨(q0,0),by simp⟩ FE.refl (by simp[E2]) (by simp) ?_
    clear h
    rintro ⟨⟨q,i⟩,hi⟩ hn
    dsimp only at hi hn ⊢
    have h7:=Y3 hn
    (replace h7:=h7;simp only[VN] at h7)
    refine Y1 mxd ?_
    rcases nL i r.eqs.length with hlt|hge
    ·obtain ⟨k1,k2,k3,k4⟩:=hqs _ (gM hlt)
     have hx:=nmV_len k2
     have hy:=YY k3 (by omega)
     have hz:=vE_len k1
     have hq1:=w33 r.eqs[i].pos (by omega) (by omega)
     have hq2:=w34 r.eqs[i].expr (hs.2.2.2.1 _ (gM hlt)).2 (hm.2.2.2.1 _ (gM hlt))
     rw[fmt_eq k1] at hq2
     have hga:Go.Gh.isAgg (Ex r.eqs[i].expr)=true:=by rw[ZA];rfl
     have hst:=eqT_as r.eqs[i]
     (refine V1 (jO h7 (jO hlt (jO @chA hga))) ?_;with_reducible repeat' intro h)
     all_goals try exact oF
     refine callS.eq hq1 ?_
     (refine V1 (jO h7 (jO @chA (jO hga @XE))) ?_;with_reducible repeat' apply jO)
     all_goals try exact oF
     all_goals try (simp only[List.length_append,List.length_cons,List.length_nil];omega)
     refine callS.eq hq2 ?_
     (refine V1 (jO h7 @chA) ?_;with_reducible repeat' first|intro h|refine aO ?_|apply jO)
     all_goals try exact oF
     all_goals try (simp only[List.length_append,List.length_cons,List.length_nil];omega)
     all_goals try (rw[List.length_take];omega)
     rename_i r1 _ r2
     refine nxF ⟨(r2,i+1),by omega⟩ (by dsimp only;omega) (FE.perm (H:=[_,_]) (L:=[(r2,_)]) (by repeat' (first|exact trivial|(refine And.intro (by simp only[Zd, *,if_true,if_false];try rfl) (And.intro (by simp[YG,Yt, *]) ?_))))) (by simp[E2]) ?_
     rw[List.take_succ_eq_append_getElem hlt,tL (by simp;omega)]
     simp only[eqT,List.map_append,List.map_cons,List.map_nil,List.cons_append,List.append_assoc,List.nil_append,List.singleton_append]
    ·obtain rfl:i=r.eqs.length:=by omega
     (refine V1 (jO h7 @chA) ?_;with_reducible repeat' intro h)
     all_goals try exact oF
     rw[List.take_length]
     refine wloopF mxd (ι:={ x:Nat×Nat // x.2≤r.cons.length }) (fun x=>[(1,.rop 6 (Ru r)),(5,.own x.1.1 1 0 (r.eqs.length+1+x.1.2)),(8,I x.1.2)]) (fun x=>(x.1.1,1,((hd::(r.eqs.map eqT++(r.cons.take x.1.2).map coT)).map bA).map T)::H) (fun x=>r.cons.length-x.1.2) ⟨(q,0),by simp⟩ FE.refl (by simp[E2]) (by simp) ?_
     clear h7 hn
     rintro ⟨⟨q,i⟩,hi⟩ hn
     dsimp only at hi hn ⊢
     have h7:=Y3 hn
     (replace h7:=h7;simp only[VN] at h7)
     refine Y1 mxd ?_
     rcases nL i r.cons.length with hlt|hge
     ·obtain ⟨k1,k2,k3,k4⟩:=hcs _ (gM hlt)
      have hx:=nmV_len k3
      have hy:=nmV_len k4
      have hz:=vE_len k1
      have hz2:=vE_len k2
      have ho:=hs.2.2.2.2 _ (gM hlt)
      have hw:=hm.2.2.2.2 _ (gM hlt)
      have hq1:=w34 r.cons[i].goal ho.2.2.1 hw.1
      have hq2:=w34 r.cons[i].value ho.2.2.2 hw.2
      rw[fmt_eq k1] at hq1
      rw[fmt_eq k2] at hq2
      have hga:Go.Gh.isAgg (Ex r.cons[i].goal)=true:=by rw[ZA];rfl
      have hgb:Go.Gh.isAgg (Ex r.cons[i].value)=true:=by rw[ZA];rfl
      (refine V1 (jO h7 (jO hlt (jO @chA (jO hga (jO hgb @XE))))) ?_;with_reducible repeat' first|intro h|apply jO)
      all_goals try exact oF
      all_goals try (simp only[List.length_append,List.length_cons,List.length_nil];omega)
      refine callS.eq hq1 ?_
      (refine V1 (jO h7 (jO @chA (jO hga (jO hgb @XE)))) ?_;with_reducible repeat' apply jO)
      all_goals try exact oF
      all_goals try (simp only[List.length_append,List.length_cons,List.length_nil];omega)
      refine callS.eq hq2 ?_
      (refine V1 (jO h7 @chA) ?_;with_reducible repeat' first|intro h|refine aO ?_|apply jO)
      all_goals try exact oF
      all_goals try (simp only[List.length_append,List.length_cons,List.length_nil];omega)
      all_goals try (simp only[List.length_append,List.length_map,List.length_take];omega)
      rename_i r1 _ r2
      refine nxF ⟨(r2,i+1),by omega⟩ (by dsimp only;omega) (FE.perm (H:=[_,_]) (L:=[(r2,_)]) (by repeat' (first|exact trivial|(refine And.intro (by simp only[Zd, *,if_true,if_false];try rfl) (And.intro (by simp[YG,Yt, *]) ?_))))) (by simp[E2];omega) ?_
      rw[List.take_succ_eq_append_getElem hlt,tL (by simp;omega)]
      simp only[coT,List.map_append,List.map_cons,List.map_nil,List.cons_append,List.append_assoc,List.nil_append,List.singleton_append]
     ·obtain rfl:i=r.cons.length:=by omega
      (refine V1 (jO h7 @chA) ?_;with_reducible repeat' intro h)
      all_goals try exact oF
      exact ⟨q,by simp;omega,by rw[List.take_length]⟩)
 ·have hv':YX r=false:=Bool.eq_false_iff.2 hv
  rw[hv'] at hval
  have e:YK r=[]:=by unfold YK;rw[if_neg hv]
  rw[e]
  refine Z8 mxd i10 rfl (by simp) ?_;refine X0 ?_
  (refine V0 ?_)
  refine callS.eq hval ?_
  (refine V0 ?_;with_reducible repeat' intro h)
  exact ⟨_,rfl,rfl⟩
theorem o7 (r:Rul) (hs:okRu r) (hm:smRu r) (H:GH) (hT:∀x∈tab10 1,x∈H):Gc 7 [Ru r] H (fun g H'=>(YK r=[]∧g=Zt∧H'=H)∨∃q,g = .own q 1 0 (YK r).length ∧ H'=(q,1,((YK r).map bA).map T)::H):=by
 have hval:=w13 r hs hm
 by_cases hv:YX r=true
 ·rw[hv] at hval
  obtain ⟨h3,hqs,hcs⟩:=rul_parts hv
  obtain ⟨hn1,hn2,hn3⟩:=rul_names hv
  have hW0:=hdW_zero r
  have hWs:=fun i (h:i<r.right.length)=>hdW_succ (r:=r) h
  have hWl:=hdW_len hv
  have hE:=hdW_end r
  have hel:=hm.2.1
  have hcl:=hm.2.2.1
  rw[fmtR_eq hv]
  generalize hdT r=hd at *
  generalize hdW r=W at *
  rcases hlit:r.lit with _ | _
  all_goals (
   rw[hlit] at hE
   simp only[Bool.false_eq_true,if_false,if_true,List.append_nil] at hE
   refine Z8 mxd i7 rfl (by simp) ?_;refine X0 ?_
   (refine V0 ?_)
   refine callS.eq hval ?_
   (refine V1 @chA ?_;with_reducible repeat' apply jO)
   all_goals try exact oF
   all_goals try (simp only[List.length_append,List.length_cons,List.length_nil];omega)
   refine Zk mxd (ι:={ i:Nat // i≤r.right.length }) (fun i=>[(1,.rop 6 (Ru r)),(3,.val (mkS (W i.1))),(23,TS r.right),(24,I r.right.length),(25,I i.1)]) (fun _ => H) (fun i=>r.right.length-i.1) ⟨0,by omega⟩ (by simp[E2,←hW0]) rfl ?_
   rintro ⟨i,hi⟩
   dsimp only
   have hb:=hWl i
   rcases nL i r.right.length with hlt|hge
   ·have hst:=hWs i hlt
    have hx:=hn3 _ (gM hlt)
    (refine V1 (jO hlt @chA) ?_;with_reducible repeat' intro h)
    all_goals try exact oF
    all_goals try (simp only[List.length_append,List.length_cons,List.length_nil];omega)
    exact nx ⟨i+1,by omega⟩ (by dsimp only;omega) (by simp[E2,hst]) rfl
   ·obtain rfl:i=r.right.length:=by omega
    (refine V1 (jO hlit @chA) ?_;with_reducible repeat' first|intro h|refine aO ?_)
    all_goals try exact oF
    all_goals try (simp only[List.length_append,List.length_cons,List.length_nil];omega)
    rename_i q0
    rw[←hE]
    clear hE
    refine wloopF mxd (ι:={ x:Nat×Nat // x.2≤r.eqs.length }) (fun x=>[(1,.rop 6 (Ru r)),(6,.own x.1.1 1 0 (x.1.2+1)),(41,QnS r.eqs),(42,I r.eqs.length),(43,I x.1.2)]) (fun x=>(x.1.1,1,((hd::(r.eqs.take x.1.2).map eqT).map bA).map T)::H) (fun x=>r.eqs.length-x.1.2) ⟨(q0,0),by simp⟩ FE.refl (by simp[E2]) (by simp) ?_
    clear h
    rintro ⟨⟨q,i⟩,hi⟩ hn
    dsimp only at hi hn ⊢
    have h7:=Y3 hn
    (replace h7:=h7;simp only[VN] at h7)
    refine Y1 mxd ?_
    rcases nL i r.eqs.length with hlt|hge
    ·obtain ⟨k1,k2,k3,k4⟩:=hqs _ (gM hlt)
     have hx:=nmV_len k2
     have hy:=YY k3 (by omega)
     have hz:=vE_len k1
     have hq1:=p24 r.eqs[i].pos (by omega) (by omega)
     have hq2:=p25 r.eqs[i].expr (XQ k1) (vE_cnt k1)
     have hga:Go.Gh.isAgg (Ex r.eqs[i].expr)=true:=by rw[ZA];rfl
     have hst:=eqT_as r.eqs[i]
     (refine V1 (jO h7 (jO hlt (jO @chA hga))) ?_;with_reducible repeat' intro h)
     all_goals try exact oF
     refine callS.eqT hq1 (Zq 1) (fun x hx=>List.mem_cons_of_mem _ (hT x hx)) ?_
     (refine V1 (jO h7 (jO @chA (jO hga @XE))) ?_;with_reducible repeat' apply jO)
     all_goals try exact oF
     all_goals try (simp only[List.length_append,List.length_cons,List.length_nil];omega)
     refine callS.eqT hq2 (Zq 1) (fun x hx=>List.mem_cons_of_mem _ (hT x hx)) ?_
     (refine V1 (jO h7 @chA) ?_;with_reducible repeat' first|intro h|refine aO ?_|apply jO)
     all_goals try exact oF
     all_goals try (simp only[List.length_append,List.length_cons,List.length_nil];omega)
     all_goals try (rw[List.length_take];omega)
     rename_i r1 _ r2
     refine nxF ⟨(r2,i+1),by omega⟩ (by dsimp only;omega) (FE.perm (H:=[_,_]) (L:=[(r2,_)]) (by repeat' (first|exact trivial|(refine And.intro (by simp only[Zd, *,if_true,if_false];try rfl) (And.intro (by simp[YG,Yt, *]) ?_))))) (by simp[E2]) ?_
     rw[List.take_succ_eq_append_getElem hlt,tL (by simp;omega)]
     simp only[eqT,List.map_append,List.map_cons,List.map_nil,List.cons_append,List.append_assoc,List.nil_append,List.singleton_append]
    ·obtain rfl:i=r.eqs.length:=by omega
     (refine V1 (jO h7 @chA) ?_;with_reducible repeat' intro h)
     all_goals try exact oF
     rw[List.take_length]
     refine wloopF mxd (ι:={ x:Nat×Nat // x.2≤r.cons.length }) (fun x=>[(1,.rop 6 (Ru r)),(6,.own x.1.1 1 0 (r.eqs.length+1+x.1.2)),(67,CoS r.cons),(68,I r.cons.length),(69,I x.1.2)]) (fun x=>(x.1.1,1,((hd::(r.eqs.map eqT++(r.cons.take x.1.2).map coT)).map bA).map T)::H) (fun x=>r.cons.length-x.1.2) ⟨(q,0),by simp⟩ FE.refl (by simp[E2]) (by simp) ?_
     clear h7 hn
     rintro ⟨⟨q,i⟩,hi⟩ hn
     dsimp only at hi hn ⊢
     have h7:=Y3 hn
     (replace h7:=h7;simp only[VN] at h7)
     refine Y1 mxd ?_
     rcases nL i r.cons.length with hlt|hge
     ·obtain ⟨k1,k2,k3,k4⟩:=hcs _ (gM hlt)
      have hx:=nmV_len k3
      have hy:=nmV_len k4
      have hz:=vE_len k1
      have hz2:=vE_len k2
      have hq1:=p25 r.cons[i].goal (XQ k1) (vE_cnt k1)
      have hq2:=p25 r.cons[i].value (XQ k2) (vE_cnt k2)
      have hga:Go.Gh.isAgg (Ex r.cons[i].goal)=true:=by rw[ZA];rfl
      have hgb:Go.Gh.isAgg (Ex r.cons[i].value)=true:=by rw[ZA];rfl
      (refine V1 (jO h7 (jO hlt (jO @chA (jO hga (jO hgb @XE))))) ?_;with_reducible repeat' first|intro h|apply jO)
      all_goals try exact oF
      all_goals try (simp only[List.length_append,List.length_cons,List.length_nil];omega)
      refine callS.eqT hq1 (Zq 1) (fun x hx=>List.mem_cons_of_mem _ (hT x hx)) ?_
      (refine V1 (jO h7 (jO @chA (jO hga (jO hgb @XE)))) ?_;with_reducible repeat' apply jO)
      all_goals try exact oF
      all_goals try (simp only[List.length_append,List.length_cons,List.length_nil];omega)
      refine callS.eqT hq2 (Zq 1) (fun x hx=>List.mem_cons_of_mem _ (hT x hx)) ?_
      (refine V1 (jO h7 @chA) ?_;with_reducible repeat' first|intro h|refine aO ?_|apply jO)
      all_goals try exact oF
      all_goals try (simp only[List.length_append,List.length_cons,List.length_nil];omega)
      all_goals try (simp only[List.length_append,List.length_map,List.length_take];omega)
      rename_i r1 _ r2
      refine nxF ⟨(r2,i+1),by omega⟩ (by dsimp only;omega) (FE.perm (H:=[_,_]) (L:=[(r2,_)]) (by repeat' (first|exact trivial|(refine And.intro (by simp only[Zd, *,if_true,if_false];try rfl) (And.intro (by simp[YG,Yt, *]) ?_))))) (by simp[E2];omega) ?_
      rw[List.take_succ_eq_append_getElem hlt,tL (by simp;omega)]
      simp only[coT,List.map_append,List.map_cons,List.map_nil,List.cons_append,List.append_assoc,List.nil_append,List.singleton_append]
     ·obtain rfl:i=r.cons.length:=by omega
      (refine V1 (jO h7 @chA) ?_;with_reducible repeat' intro h)
      all_goals try exact oF
      exact .inr ⟨q,by simp;omega,by rw[List.take_length]⟩)
 ·have hv':YX r=false:=Bool.eq_false_iff.2 hv
  rw[hv'] at hval
  have e:YK r=[]:=by unfold YK;rw[if_neg hv]
  rw[e]
  refine Z8 mxd i7 rfl (by simp) ?_;refine X0 ?_
  (refine V0 ?_)
  refine callS.eq hval ?_
  (refine V0 ?_)
  all_goals first|exact .inl trivial|exact .inl ⟨rfl,rfl,rfl⟩
theorem p7 (r:Rul) (hs:okRu r) (hm:smRu r):PureT Tryz.prog (tab10 1) 7 [Ru r] (· = TS ((YK r).map bA)):=
 PureT.bor ((o7 r hs hm _ fun _ h=>h).mono fun g H' h=>by
  rcases h with ⟨h1,rfl,rfl⟩|⟨q,rfl,rfl⟩
  ·rw[h1];exact .nil
  ·exact Bor.seen (f:=T) (fun a=>by simp[view,Y7]) Z0 (by rw[List.length_map]))
theorem w11 (ls:List ByteArray) (hlen:ls.length≤1048576) (hls:∀l∈ls,(Z9 l).length ≤ 1048576):Pu 11 [TS ls] (· = .tup [Ru ((parS (ls.map Z9)).getD rulZ),B (parS (ls.map Z9)).isSome]):=by
 refine Pure.bor ?_
 cases ls with
 | nil=>
  refine Z8 mxd i11 rfl (by simp) ?_;refine X0 ?_
  (refine V0 ?_)
  exact .tup (.cons bor_ruZ (.cons .refl .nil))
 | cons l0 ls=>
  have hh:=hls l0 (by simp)
  have htl:∀l∈ls.map Z9,l.length≤1048576:=fun l hl=>by
   obtain ⟨x,hx,rfl⟩:=List.mem_map.1 hl
   exact hls x (by simp[hx])
  have hsl:ls.length+1≤1048576:=hlen
  obtain ⟨hs,hm⟩:=rdS_sz (t:=ls.map Z9) hh (by rw[List.length_map];omega) htl
  have hend:=rdS_end (Z9 l0) (ls.map Z9)
  have hhd:=w35 l0 hh
  have hpar:parS ((l0::ls).map Z9)=if YK (rdS (Z9 l0) (ls.map Z9))=Z9 l0::ls.map Z9 then some (rdS (Z9 l0) (ls.map Z9)) else none:=rfl
  rw[hpar]
  obtain ⟨X,hX⟩:∃X,rhS (Z9 l0)=X:=⟨_,rfl⟩
  obtain ⟨R,hR⟩:∃R,rdS (Z9 l0) (ls.map Z9)=R:=⟨_,rfl⟩
  rw[hR] at hs hm hend ⊢
  rw[hX] at hhd hend
  clear hX hR hpar
  have htl2:(ls.map Z9).length = ls.length:=List.length_map ..
  obtain ⟨L,hL⟩:∃L,l0::ls=L:=⟨_,rfl⟩
  have hLl:L.length=ls.length+1:=by rw[←hL];rfl
  have hLc:L.map Z9=Z9 l0::ls.map Z9:=by rw[←hL];rfl
  have hg0:L[0]=l0:=by simp only[←hL,List.getElem_cons_zero]
  have hgs:∀(i:Nat) (h:i<ls.length),L[i+1]=ls[i]:=fun i h=>by simp only[←hL,List.getElem_cons_succ]
  rw[hL]
  clear hL
  refine Z8 mxd i11 rfl (by simp) ?_;refine X0 ?_
  (refine V2 (jO @List.length_map.{0,0} hg0) ?_;with_reducible repeat' intro h)
  all_goals try exact oF
  refine callS.eq hhd ?_
  (refine V1 @List.length_map.{0,0} ?_;with_reducible repeat' intro h)
  rename_i rr
  obtain ⟨v,hv,hvn⟩:=vfresh (names ((rr,6,[RuN X])::[]))
  obtain ⟨v3,hv3,hvn3⟩:=vfresh (names ((rr,6,[GV.agg [T X.name,T X.left,TS X.right,B X.lit,.own v 9 0 0,Zt]])::(v,9,[])::[]))
  refine wloopF mxd (ι:={ x:Nat×Nat×Nat // x.2.2≤ls.length }) (fun x=>[(0,TS L),(2,.raw 6),(3,B false),(4,.ptr rr 6 0 0),(5,I (x.1.2.2+1:Nat))]) (fun x=>(x.1.1,9,(eqsS (ls.map Z9) x.1.2.2).map Qn)::(x.1.2.1,16,(consS (ls.map Z9) x.1.2.2).map Co)::(rr,6,[.agg [T X.name,T X.left,TS X.right,B X.lit,.own x.1.1 9 0 (eqsS (ls.map Z9) x.1.2.2).length,.own x.1.2.1 16 0 (consS (ls.map Z9) x.1.2.2).length]])::[]) (fun x=>ls.length-x.1.2.2) ⟨(v,v3,0),by simp⟩ (FE.virt2 (s1:=9) (s2:=16) (gs:=[T X.name,T X.left,TS X.right,B X.lit,Zt,Zt]) 4 5 rfl hv hvn rfl hv3 hvn3) (by simp[E2]) (by simp[eqsS,consS]) ?_
  clear hv hvn hv3 hvn3
  rintro ⟨⟨q1,q2,i⟩,hi⟩ hn
  dsimp only at hi hn ⊢
  have h7:=Y3 hn
  (replace h7:=h7;simp only[VN] at h7)
  refine Y1 mxd ?_
  obtain ⟨hl1,hl2⟩:=eqsS_len (ls.map Z9) i
  rcases nL i ls.length with hlt|hge
  ·have hlt':i<(ls.map Z9).length := by omega
   have hg:=hgs i hlt
   have e0:(((i+1:Nat):Int)<L.length)=True:=eq_true (by omega)
   have hg2:(ls.map Z9)[i]=Z9 ls[i]:=List.getElem_map ..
   have hxl:=hls ls[i] (by simp)
   cases he:isEq (Z9 ls[i]) with
   | true=>
    obtain ⟨e1,e2⟩:=eqsS_eq hlt' (by rw[hg2];exact he)
    rw[hg2] at e1
    simp only[isEq,Bool.and_eq_true,decide_eq_true_eq] at he
    have e3:((3:Int)<(Z9 ls[i]).length)=True:=eq_true (by omega)
    have e4:((⟨((Z9 ls[i]).take 3).toArray⟩:ByteArray)=⟨#[101,113,32]⟩)=True:=eq_true (congrArg bA he.2)
    have hq:=w36 ls[i] hxl
    generalize rqS (Z9 ls[i])=Q at *
    (refine V2 (jO h7 (jO e0 (jO hg (jO e3 (jO e4 (jO @List.drop_zero.{0} @List.length_map.{0,0})))))) ?_)
    refine callS.eq hq ?_
    (refine V1 (jO h7 (jO @XE (jO @List.length_append.{0} (jO @List.length_singleton.{0} (jO @List.length_map.{0,0} @maxLv))))) ?_;with_reducible repeat' first|intro h|refine aO ?_)
    all_goals try exact oF
    rename_i r1 _ r2
    exact nxF ⟨(r2,q2,i+1),hlt⟩ (by dsimp only;omega) (FE.perm (H:=[_,_,_,_]) (L:=[(r2,_),(q2,_),(rr,_)]) (by repeat' (first|exact trivial|(refine And.intro (by simp only[Zd, *,if_true,if_false];try rfl) (And.intro (by simp[YG,Yt, *]) ?_))))) (by simp[E2]) (by simp[e1,e2,List.take_of_length_le])
   | false=>
    obtain ⟨e1,e2⟩:=eqsS_co hlt' (by rw[hg2];exact he)
    rw[hg2] at e2
    have hq:=w37 ls[i] hxl
    generalize rcS (Z9 ls[i])=Q at *
    by_cases h3:3<(Z9 ls[i]).length
    ·have e3:((3:Int)<(Z9 ls[i]).length)=True:=eq_true (by omega)
     have e4:((⟨((Z9 ls[i]).take 3).toArray⟩:ByteArray)=⟨#[101,113,32]⟩)=False:=eq_false fun h=>by
      have h5:(Z9 ls[i]).take 3=[101,113,32]:=congrArg Z9 h
      rw[isEq,decide_eq_true h3,decide_eq_true h5] at he
      cases he
     (refine V2 (jO h7 (jO e0 (jO hg (jO e3 (jO e4 (jO @List.drop_zero.{0} @List.length_map.{0,0})))))) ?_;with_reducible repeat' intro h)
     refine callS.eq hq ?_
     (refine V1 (jO h7 (jO @XE (jO @List.length_append.{0} (jO @List.length_singleton.{0} (jO @List.length_map.{0,0} @maxLv))))) ?_;with_reducible repeat' first|intro h|refine aO ?_)
     all_goals try exact oF
     rename_i r1 _ r2
     exact nxF ⟨(q1,r2,i+1),hlt⟩ (by dsimp only;omega) (FE.perm (H:=[_,_,_,_]) (L:=[(q1,_),(r2,_),(rr,_)]) (by repeat' (first|exact trivial|(refine And.intro (by simp only[Zd, *,if_true,if_false];try rfl) (And.intro (by simp[YG,Yt, *]) ?_))))) (by simp[E2]) (by simp[e1,e2,List.take_of_length_le])
    ·have e3:((3:Int)<(Z9 ls[i]).length)=False:=eq_false (by omega)
     (refine V2 (jO h7 (jO e0 (jO hg (jO e3 (jO @List.drop_zero.{0} @List.length_map.{0,0}))))) ?_)
     refine callS.eq hq ?_
     (refine V1 (jO h7 (jO @XE (jO @List.length_append.{0} (jO @List.length_singleton.{0} (jO @List.length_map.{0,0} @maxLv))))) ?_;with_reducible repeat' first|intro h|refine aO ?_)
     all_goals try exact oF
     rename_i r1 _ r2
     exact nxF ⟨(q1,r2,i+1),hlt⟩ (by dsimp only;omega) (FE.perm (H:=[_,_,_,_]) (L:=[(q1,_),(r2,_),(rr,_)]) (by repeat' (first|exact trivial|(refine And.intro (by simp only[Zd, *,if_true,if_false];try rfl) (And.intro (by simp[YG,Yt, *]) ?_))))) (by simp[E2]) (by simp[e1,e2,List.take_of_length_le])
  ·obtain rfl:i=ls.length:=by omega
   rw[htl2] at hend
   have e0:(((ls.length+1:Nat):Int)<L.length)=False:=eq_false (by omega)
   have hb:∀Z:GH,Z6 Z q1=some (9,(eqsS (ls.map Z9) ls.length).map Qn)→Z6 Z q2=some (16,(consS (ls.map Z9) ls.length).map Co)→Bor Z (.agg [T X.name,T X.left,TS X.right,B X.lit,.own q1 9 0 (eqsS (ls.map Z9) ls.length).length,.own q2 16 0 (consS (ls.map Z9) ls.length).length]) (Ru R):=fun Z k1 k2=>by
    rw[hend]
    exact .agg (.cons .refl (.cons .refl (.cons .refl (.cons .refl (.cons (Bor.allM view_Qn k1 rfl) (.cons (Bor.allM view_Co k2 rfl) .nil))))))
   have hF:∀H0,Gc 10 [Ru R] H0 (fun g H'=>∃H1,(∃q,g = .own q 1 0 (YK R).length ∧ H1=[(q,1,((YK R).map bA).map T)])∧H'=H1++H0):=fun H0=>(o10 R hs hm H0).mono fun g H' ⟨q,h1,h2⟩=>⟨_,⟨q,h1,rfl⟩,h2⟩
   have hT:=w38 ((YK R).map bA) L
   have hD:decide ((YK R).map bA=L)=decide (YK R=Z9 l0::ls.map Z9):=by rw[←hLc];exact decide_eq_decide.2 bA_inj
   rw[hD] at hT
   (refine V1 (jO h7 (jO e0 @List.length_map.{0,0})) ?_)
   all_goals try exact oF
   refine callS.lend hF (.cons (hb _ Z0 (by simp only[Zd,h7,if_true,if_false])) .nil) (by rintro v H1 ⟨q,rfl,rfl⟩;simp[noD,noDL,noDH,noDL_eq]) ?_
   rintro _ _ ⟨q,rfl,rfl⟩ hn2
   replace hn2:=Y3 hn2
   simp only[List.cons_append,List.nil_append] at hn2 ⊢
   (replace hn2:=hn2;simp only[VN] at hn2)
   (refine V1 (jO h7 hn2) ?_)
   refine callS.borA hT (.cons (Bor.seen (f:=T) (fun a=>by simp[view,Y7]) Z0 (by rw[List.length_map])) (.cons .refl .nil)) rfl ?_
   by_cases hf:YK R=Z9 l0::ls.map Z9
   ·rw[decide_eq_true hf,if_pos hf]
    (refine V1 (jO h7 hn2) ?_)
    exact .tup (.cons (hb _ (by simp only[Zd,h7,hn2,if_true,if_false]) (by simp only[Zd,h7,hn2,if_true,if_false])) (.cons .refl .nil))
   ·rw[decide_eq_false hf,if_neg hf]
    (refine V1 (jO h7 hn2) ?_)
    exact .tup (.cons bor_ruZ (.cons .refl .nil))
theorem px112 (s:ByteArray) (lo hi:Int) (h0 : -1000000000000≤lo) (h1:hi≤1000000000000) (hs:(Z9 s).length ≤ 1048576):PureT Tryz.prog Tryz.tb 112 [T s,I lo,I hi] (· = .tup [I (rdN lo hi (Z9 s)).1,B (rdN lo hi (Z9 s)).2]):=by
 refine Z8 mxd i112 rfl (by simp) ?_;refine X0 ?_
 (refine V0 ?_)
 refine callS.of ((ax147 s hs).frame Tryz.tbH (fun _ h=>h)) ?_
 rintro g H' ⟨hR,rfl⟩ hn
 rcases hR with ⟨v,hv,rfl⟩|⟨hv,n,t,p,rfl⟩
 ·have e:=rdN_ok (lo:=lo) (hi:=hi) h0 h1 hv
  have hw:=w46 v lo hi
  have hbd:=atoiAll_bounds hv
  by_cases h6:lo≤v∧v≤hi
  ·rw[decide_eq_true h6] at hw
   have hq:=p24 v (by omega) (by omega)
   by_cases he:itoa v=Z9 s
   ·rw[if_pos ⟨h6,he⟩] at e
    rw[e]
    rw[he] at hq
    (refine V0 ?_)
    refine callS.eq hw ?_
    (refine V0 ?_)
    refine callS.eqT hq (Zq _) Tryz.tb10 ?_
    (refine V0 ?_;with_reducible repeat' exact trivial)
   ·rw[if_neg fun h=>he h.2] at e
    have hne:¬(⟨(itoa v).toArray⟩:ByteArray)=s:=fun h=>he (congrArg Z9 h)
    rw[e]
    (refine V0 ?_)
    refine callS.eq hw ?_
    (refine V0 ?_)
    refine callS.eqT hq (Zq _) Tryz.tb10 ?_
    (refine V1 hne ?_;with_reducible repeat' exact trivial)
  ·rw[decide_eq_false h6] at hw
   rw[if_neg fun h=>h6 h.1] at e
   rw[e]
   (refine V0 ?_)
   refine callS.eq hw ?_
   (refine V0 ?_;with_reducible repeat' exact trivial)
 ·rw[rdN_bad h0 h1 hv]
  (refine V0 ?_;with_reducible repeat' exact trivial)
theorem p70 (s:ByteArray) (hs:(Z9 s).length ≤ 1048576):PureT Tryz.prog Tryz.tb 70 [T s] (· = .tup [I (nmN (Z9 s)).1,B (nmN (Z9 s)).2]):=by
 refine Z8 mxd i70 rfl (by simp) ?_;refine X0 ?_
 (refine V0 ?_)
 refine callS.eqT (px112 s 0 999999 (by omega) (by omega) hs) Tryz.tbH (fun _ h=>h) ?_
 (refine V0 ?_)
 rfl
theorem o27 (xs:List ByteArray) (hx:xs.length≤2097152) (H:GH):Gc 27 [TS xs] H (fun g H'=>∃H1,(∃r,g = .own r 1 0 xs.length∧H1=[(r,1,xs.map T)])∧H'=H1++H):=by
 have h0:Gc 27 [TS xs] H (fun g H'=>(xs=[]∧g = .val (.slice none 0 0)∧H'=H)∨∃r,g = .own r 1 0 xs.length∧H'=(r,1,xs.map T)::H):=by
  refine Z8 mxd i27 rfl (by simp) ?_;refine X0 ?_
  (refine R0 ?_)
  by_cases hxs:xs=[]
  ·subst hxs
   simp only[List.map_nil,List.isEmpty_nil,if_true]
   exact ⟨.inl trivial,fun r hr=>⟨by simp,by simp,fun r hr=> .inr ⟨r,rfl,rfl⟩⟩⟩
  ·rw[if_neg (by simpa using hxs)]
   exact fun r hr=>⟨by omega,by omega,fun r hr=> .inr ⟨r,rfl,rfl⟩⟩
 refine h0.fr ?_
 rintro g H' (⟨rfl,rfl,rfl⟩|⟨r,rfl,rfl⟩)
 ·exact ⟨_,_,FR.trans (FR.addv (r:=vname H') (sz:=1) (vname_odd H') (vname_new H')) (FR.sub (Bor.virt (r:=vname H') (sz:=1))),_,⟨vname H',rfl,rfl⟩,rfl⟩
 ·exact ⟨_,_,FR.refl _ _,_,⟨r,rfl,rfl⟩,rfl⟩
theorem w31 (xs ys:List ByteArray):Pu 31 [TS xs,TS ys] (· = B (decide (xs=ys))):=by
 refine GCalls.lenA fun hl=> ?_
 have hl:=hl.1.1
 simp only[List.length_map,Y9] at hl
 refine Z8 mxd i31 rfl (by simp) ?_;refine X0 ?_
 (refine R0 ?_;with_reducible repeat' first|intro h|apply jO)
 rotate_left
 ·simp;rintro rfl;exact h rfl
 refine Zk mxd (ι:={ i:Nat // i≤xs.length∧xs.take i=ys.take i }) (fun i=>[(0,TS xs),(1,TS ys),(12,I xs.length),(13,I i.1)]) (fun _ => []) (fun i=>xs.length-i.1) ⟨0,by simp⟩ (by simp[E2];omega) rfl ?_
 rintro ⟨i,hi,hp⟩
 (refine R0 ?_;with_reducible repeat' first|intro h|apply jO)
 ·exact nx ⟨i+1,by omega,take_eq_step hp (by omega) (by omega) h⟩ (by simp;omega) (by simp[E2]) rfl
 ·simp;rintro rfl;simp at h
 ·have:i=xs.length:=by omega
  subst this
  rw[tL (by omega),tL (by omega)] at hp
  simp[hp]
end Go.Proofs.YtcegkonjphbfaaaGreatDoor
