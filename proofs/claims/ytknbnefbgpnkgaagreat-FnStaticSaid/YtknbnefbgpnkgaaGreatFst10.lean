/- The laws FnStatic and FnStaticTypes return true whatever the input, and the input reads behind the call as before. No condition. -/
import Derived.Test.YtknbnefbgpnkgaaGreatFst8
import Derived.Test.YtknbnefbgpnkgaaGreatFst9
set_option maxHeartbeats 40000000
set_option maxRecDepth 20000
set_option linter.unusedSimpArgs false
set_option linter.unusedVariables false
namespace Go.Proofs.YtknbnefbgpnkgaaGreat
open Go.Gh
open Nat (reduceEqDiff reduceLeDiff reduceAdd reduceLT)
open Int (reduceNe)
theorem w159 (sl:List Slo) (lit:Int) (ids:List Int) (hi:ids.length≤1048576):∀e:Exp,allE Yh e=true→Pu 159 [Ex e,SltS sl,I lit,IS ids] (· = I (evE sl lit ids e)):=by
 refine Exp.indA fun e ih hv=> ?_
 obtain ⟨hn,ha⟩:=allE_args hv
 have hp:=nodeV_pos hn
 have har:=nodeV_args hn
 rw[evE_eq]
 have hk:e.kind=1∨e.kind=2∨e.kind=3∨e.kind=4∨e.kind=5∨e.kind=6∨(¬e.kind=1∧¬e.kind=2∧¬e.kind=3∧¬e.kind=4∧¬e.kind=5∧¬e.kind=6):=by omega
 rcases hk with hk|hk|hk|hk|hk|hk|hk
 all_goals
  simp[arity,hk] at har
  refine Z5 mxd i159 rfl (by simp) ?_;refine X0 ?_
  (with_reducible repeat' first|refine callS.eq (w197 sl (e.pos,e.name)) ?_|refine callS.eq (ih _ (gM _) (ha _ (gM _))) ?_|refine callS.eq (w198 _ _ _) ?_|refine callS.eq (w64 _ _ _) ?_|exact trivial|refine aO ?_|refine eO ?_|apply jO|refine K1 (jO @XE hk) ?_|intro h)
  all_goals try exact oF
  all_goals simp only[evK,hk,Int.reduceEq,reduceIte]
  all_goals first
   | rfl
   | (rw[YI oT,YI oT];rfl)
   | (rw[YI oT,if_pos (by assumption),YI oT];rfl)
   | (rw[YI oT,if_neg (by assumption),YI oT];rfl)
   | (rw[if_pos oT,Z6 oT];done)
   | (rw[if_neg oT];done)
theorem w152 (sl:List Slo) (o:Int×ByteArray):Pu 152 [Occ o,.rop 1 (SltS sl)] (· = I (YJ sl o)):=by
 refine Z5 mxd i152 rfl (by simp) ?_;refine X0 ?_
 (with_reducible repeat' first|refine callS.eq (w153 sl o) ?_|exact trivial|refine aO ?_|refine eO ?_|apply jO|refine K0 ?_|intro h)
theorem w154 (n:Int) (e:Exp):Pu 154 [I n,Ex e] (· = I 0):=by
 refine Z5 mxd i154 rfl (by simp) ?_;refine X0 ?_
 (refine R1 @XE ?_;with_reducible repeat' exact trivial)
theorem w155 (sl:List Slo) (lit:Int) (ids:List Int) (hi:ids.length≤1048576):∀e:Exp,allE Yh e=true→Pu 155 [.agg [.clo 152 [.rop 1 (SltS sl)],.clo 154 [],I lit,IS ids],Ex e] (· = I (evE sl lit ids e)):=by
 refine Exp.indA fun e ih hv=> ?_
 obtain ⟨hn,ha⟩:=allE_args hv
 have hp:=nodeV_pos hn
 have har:=nodeV_args hn
 rw[evE_eq]
 have hk:e.kind=1∨e.kind=2∨e.kind=3∨e.kind=4∨e.kind=5∨e.kind=6∨e.kind=8∨(¬e.kind=1∧¬e.kind=2∧¬e.kind=3∧¬e.kind=4∧¬e.kind=5∧¬e.kind=6∧¬e.kind=8):=by omega
 rcases hk with hk|hk|hk|hk|hk|hk|hk|hk
 all_goals
  simp[arity,hk] at har
  refine Z5 mxd i155 rfl (by simp) ?_;refine X0 ?_
  (with_reducible repeat' first|refine callS.eq (w152 sl (e.pos,e.name)) ?_|refine callS.eq (w154 _ e) ?_|refine callS.eq (ih _ (gM _) (ha _ (gM _))) ?_|refine callS.eq (w193 _ _ _) ?_|exact trivial|refine aO ?_|refine eO ?_|apply jO|refine K1 (jO @XE hk) ?_|intro h)
  all_goals try exact oF
  all_goals simp only[evK,hk,Int.reduceEq,reduceIte]
  all_goals first
   | rfl
   | (rw[YI oT,YI oT];rfl)
   | (rw[YI oT,if_pos (by assumption),YI oT];rfl)
   | (rw[YI oT,if_neg (by assumption),YI oT];rfl)
   | (rw[if_pos oT,Z6 oT];done)
   | (rw[if_neg oT];done)
theorem w101 (e:Exp) (sl:List Slo) (lit:Int) (ids:List Int) (ho:okE e) (hw:wEx e≤1048576) (hi:ids.length≤1048576):Pu 101 [Ex e,SltS sl,I lit,IS ids] (· = I (if X7 e then evE sl lit ids e else 0)):=by
 refine Z5 mxd i101 rfl (by simp) ?_;refine X0 ?_
 simp (maxSteps:=9^7) only[↓ S2,S2,ZH,↓reduceIte,reduceNe,reduceEqDiff,reduceCtorEq,reduceLeDiff,reduceAdd,reduceLT,XE]
 refine callS.eq (w158 e ho hw) ?_
 by_cases hv:X7 e=true
 ·have hv':=hv
  simp only[X7,Bool.and_eq_true] at hv'
  (with_reducible repeat' first|refine callS.eq (w159 sl lit ids hi e hv'.2) ?_|exact trivial|refine aO ?_|refine eO ?_|apply jO|refine K1 (jO @XE hv) ?_|intro h)
 ·simp only[Bool.not_eq_true] at hv
  (with_reducible repeat' first|refine callS.eq (w64 _ _ _) ?_|exact trivial|refine aO ?_|refine eO ?_|apply jO|refine K1 (jO @XE hv) ?_|intro h)
theorem w98 (e:Exp) (sl:List Slo) (lit:Int) (ids:List Int) (ho:okE e) (hw:wEx e≤1048576) (hi:ids.length≤1048576):Pu 98 [Ex e,SltS sl,I lit,IS ids] (· = I (if X7 e then evE sl lit ids e else 0)):=by
 refine Z5 mxd i98 rfl (by simp) ?_;refine X0 ?_
 simp (maxSteps:=9^7) only[↓ S2,S2,ZH,↓reduceIte,reduceNe,reduceEqDiff,reduceCtorEq,reduceLeDiff,reduceAdd,reduceLT,XE]
 refine callS.eq (w151 e ho hw) ?_
 by_cases hv:X7 e=true
 ·have hv':=hv
  simp only[X7,Bool.and_eq_true] at hv'
  (repeat' (first|(with_reducible refine callS.eq (w155 sl lit ids hi e hv'.2) ?_)|simp (maxSteps:=9^7) only[↓ S2,S2,ZH,↓reduceIte,reduceNe,reduceEqDiff,reduceCtorEq,reduceLeDiff,reduceAdd,reduceLT,XE,hv,upd_nf,stor_nf,gs_clo,cells_nf]|simp only[ZP]|simp +contextual (disch:=omega) only[Z2]|with_reducible first|intro h|refine jO oT ?_ | refine exP oT ?_ | apply jO))
 ·simp only[Bool.not_eq_true] at hv
  (with_reducible repeat' first|refine callS.eq (w57 _ _ _) ?_|exact trivial|refine aO ?_|refine eO ?_|apply jO|refine K1 (jO @XE hv) ?_|intro h)
theorem o36 (t:List Nod) (i:Int) (hl:t.length≤1048576) (hx:∀x∈t,x.kids.length≤1048576) (H:GH):Gc 36 [Tr t,I i] H (fun g H'=>∃H1,(∃r,g = .own r 1 0 (YD t i).length ∧ H1=[(r,1,(YD t i).map I)])∧H'=H1++H):=by
 refine Z5 mxd i36 rfl (by simp) ?_;refine X0 ?_
 intro r hr
 refine callS.eq (w64 _ _ _) ?_
 by_cases hi0:0≤i∧i≤(t.length:Int)-1
 ·obtain ⟨i,rfl⟩:∃k:Nat,i=k:=⟨i.toNat,oT⟩
  have hi:i<t.length:=by omega
  have hk:=hx _ (gM hi)
  rw[nodeIds_in hi]
  (refine R1 hi0 ?_;with_reducible repeat' intro h)
  rename_i r2
  have hne:r2≠r:=XZ h ZZ
  (refine R1 (jO (hgO hne) (hdO hne)) ?_;with_reducible repeat' intro h)
  rename_i r3
  have hne3:r3≠r2:=XZ h ZZ
  refine YC mxd (ι:={ x:Nat×Nat // x.2≤t[i].kids.length }) (fun x=>[(2,.rop 1 (Tr t)),(1,I i),(5,.own x.1.1 1 0 (YH t ((i:Int)::t[i].kids.take x.1.2)).length),(6,I x.1.2)]) (fun x=>(x.1.1,1,(YH t ((i:Int)::t[i].kids.take x.1.2)).map I)::H) (fun x=>t[i].kids.length - x.1.2) ⟨(r3,0),by simp⟩ (FE.drop (r:=r2) (by rw[hget_old hne3,ZZ])) ?_ ?_ ?_
  ·simp[E2,YH,hi]
  ·rw[hdel_old hne3,XU]
   simp[YH,hi]
  ·rintro ⟨⟨q,j⟩,hj⟩ hnd
   dsimp only at hj hnd ⊢
   have hle:=idsAt_len t ((i:Int)::t[i].kids.take j)
   simp only[List.length_cons,List.length_take] at hle
   refine Zs mxd ?_
   (refine R0 ?_;with_reducible repeat' first|intro h|apply jO)
   ·refine callS.eq (w64 _ _ _) ?_
    (refine R0 ?_;with_reducible repeat' first|intro h|apply jO)
    ·rename_i q2
     have hneq:q2≠q:=XZ h ZZ
     (refine R1 (jO (hgO hneq) (jO (hdO hneq) (jO @List.length_append.{0} (jO @List.length_singleton.{0} (jO @List.take_length.{0} @ZM))))) ?_;with_reducible repeat' intro h)
     rename_i q3
     have hq3:q3≠q2:=XZ h ZZ
     have e:=idsAt_snoc_in (t:=t) (l:=(i:Int)::t[i].kids.take j) (k:=t[i].kids[j]) oT oT
     refine nxF ⟨(q3,j+1),oT⟩ (by simp;omega) (FE.drop (r:=q2) (by rw[hget_old hq3,ZZ])) ?_ ?_
     ·show subE _ [(2,.rop 1 (Tr t)),(1,I i),(5,.own q3 1 0 (YH t ((i:Int)::t[i].kids.take (j+1))).length),(6,I ((j+1:Nat):Int))]
      rw[XN oT,e]
      simp[E2]
     ·show _ = (q3,1,(YH t ((i:Int)::t[i].kids.take (j+1))).map I)::H
      rw[hdel_old hq3,XU,XN oT,e,tL (by simp)]
      simp
    ·have e:=idsAt_snoc_out (t:=t) (l:=(i:Int)::t[i].kids.take j) (k:=t[i].kids[j]) oT
     refine nx ⟨(q,j+1),oT⟩ (by simp;omega) ?_ ?_
     ·show subE _ [(2,.rop 1 (Tr t)),(1,I i),(5,.own q 1 0 (YH t ((i:Int)::t[i].kids.take (j+1))).length),(6,I ((j+1:Nat):Int))]
      rw[XN oT,e]
      simp[E2]
     ·show _ = (q,1,(YH t ((i:Int)::t[i].kids.take (j+1))).map I)::H
      rw[XN oT,e]
   ·have:j=t[i].kids.length := by omega
    subst this
    rw[List.take_length]
    exact ⟨_,⟨q,rfl,rfl⟩,rfl⟩
  all_goals first|(exfalso;omega)|skip
 ·have e:YD t i=[]:=by simp only[YD];rw[if_neg oT]
  rw[e]
  (refine R1 hi0 ?_;with_reducible repeat' intro h)
  exact ⟨_,⟨r,rfl,rfl⟩,rfl⟩
theorem o35 (t:List Nod) (i:Int) (hl:t.length≤1048576) (hx:∀x∈t,x.kids.length≤1048576) (H:GH):Gc 35 [Tr t,I i] H (fun g H'=>∃H1,(∃r,g = .own r 1 0 (YD t i).length ∧ H1=[(r,1,(YD t i).map I)])∧H'=H1++H):=by
 have h0:Gc 35 [Tr t,I i] H (fun g H'=>∃r,g = .own r 1 0 (YD t i).length ∧ (H'=(r,1,(YD t i).map I)::H∨∃r3 e,r≠r3∧H'=(r,1,(YD t i).map I)::(r3,1,e)::H)):=by
  refine Z5 mxd i35 rfl (by simp) ?_;refine X0 ?_
  intro r hr
  refine callS.eq (w81 _ _) ?_
  by_cases hi0:0≤i∧i<(t.length:Int)
  ·obtain ⟨i,rfl⟩:∃k:Nat,i=k:=⟨i.toNat,oT⟩
   have hi:i<t.length:=by omega
   have hk:=hx _ (gM hi)
   rw[nodeIds_in hi]
   (refine R1 (jO hi0 @ZM) ?_;with_reducible repeat' first|intro h|refine aO ?_)
   rename_i r2 h2 r3
   have hne:r2≠r:=XZ h2 ZZ
   have hne3:r3≠r:=XZ h ZZ
   have he:(GV.val (.int .i64 (i:Int)))::t[i].kids.map I=((i:Int)::t[i].kids).map I:=rfl
   rw[he]
   have hlc:((i:Int)::t[i].kids).length = 1+t[i].kids.length := by simp;omega
   generalize ((i:Int)::t[i].kids)=ks at hlc ⊢
   rw[←hlc]
   clear he h
   refine YC mxd (ι:={ x:Nat×Nat // x.2≤ks.length∧x.1≠r3 }) (fun x=>[(2,.rop 1 (Tr t)),(22,.own r3 1 0 ks.length),(23,I ks.length),(5,.own x.1.1 1 0 (YH t (ks.take x.1.2)).length),(24,I x.1.2)]) (fun x=>(x.1.1,1,(YH t (ks.take x.1.2)).map I)::(r3,1,ks.map I)::H) (fun x=>ks.length-x.1.2) ⟨(r,0),oT,Ne.symm hne3⟩ (FE.swap) ?_ ?_ ?_
   ·simp[E2,YH]
   ·simp[YH]
   ·rintro ⟨⟨q,j⟩,hj,hq⟩ hnd
    dsimp only at hj hq hnd ⊢
    have hle:=idsAt_len t (ks.take j)
    simp only[List.length_take] at hle
    refine Zs mxd ?_
    (refine R1 (hgO hq) ?_;with_reducible repeat' first|intro h|apply jO)
    ·refine callS.eq (w81 _ _) ?_
     (refine R1 (hgO hq) ?_;with_reducible repeat' first|intro h|apply jO)
     ·rename_i q2
      have hneq:q2≠q:=XZ h ZZ
      (refine R1 (jO (hgO hneq) (jO (hdO hneq) (jO @List.length_append.{0} (jO @List.length_singleton.{0} @ZM)))) ?_;with_reducible repeat' intro h)
      rename_i q3
      have hq3:q3≠q2:=XZ h ZZ
      have hq4:q3≠r3:=by
       simp only[names,List.map_cons,List.nodup_cons,List.mem_cons,not_or] at h
       exact h.1.2.1
      have e:=idsAt_snoc_in (t:=t) (l:=ks.take j) (k:=ks[j]) oT oT
      refine nxF ⟨(q3,j+1),oT,hq4⟩ (by simp;omega) (FE.drop (r:=q2) (by rw[hget_old hq3,ZZ])) ?_ ?_
      ·show subE _ [(2,.rop 1 (Tr t)),(22,.own r3 1 0 ks.length),(23,I ks.length),(5,.own q3 1 0 (YH t (ks.take (j+1))).length),(24,I ((j+1:Nat):Int))]
       rw[take_step' oT,e]
       simp[E2]
      ·show _ = (q3,1,(YH t (ks.take (j+1))).map I)::(r3,1,ks.map I)::H
       rw[hdel_old hq3,XU,take_step' oT,e,tL (by simp)]
       simp
     ·have e:=idsAt_snoc_out (t:=t) (l:=ks.take j) (k:=ks[j]) oT
      refine nx ⟨(q,j+1),oT,hq⟩ (by simp;omega) ?_ ?_
      ·show subE _ [(2,.rop 1 (Tr t)),(22,.own r3 1 0 ks.length),(23,I ks.length),(5,.own q 1 0 (YH t (ks.take (j+1))).length),(24,I ((j+1:Nat):Int))]
       rw[take_step' oT,e]
       simp[E2]
      ·show _ = (q,1,(YH t (ks.take (j+1))).map I)::(r3,1,ks.map I)::H
       rw[take_step' oT,e]
    ·have:j=ks.length:=by omega
     subst this
     rw[List.take_length]
     exact ⟨q,rfl,.inr ⟨r3,_,hq,rfl⟩⟩
  ·have e:YD t i=[]:=by simp only[YD];rw[if_neg oT]
   rw[e]
   (refine R1 hi0 ?_)
   exact ⟨r,rfl,.inl rfl⟩
 refine h0.fr ?_
 rintro g H' ⟨r,rfl,rfl|⟨r3,e,hne,rfl⟩⟩
 ·exact ⟨_,_,FR.refl _ _,_,⟨r,rfl,rfl⟩,rfl⟩
 ·exact ⟨_,_,FR.drop (r:=r3) (by rw[hget_old hne,ZZ]),_,⟨r,rfl,rfl⟩,by rw[hdel_old hne,XU];rfl⟩
end Go.Proofs.YtknbnefbgpnkgaaGreat
