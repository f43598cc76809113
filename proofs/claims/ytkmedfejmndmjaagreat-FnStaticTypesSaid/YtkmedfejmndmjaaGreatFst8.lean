/- The law FnStaticTypes returns true whatever the input, and the input reads behind the call as before. No condition. -/
import Derived.Test.YtkmedfejmndmjaaGreatFst7
set_option maxHeartbeats 40000000
set_option maxRecDepth 20000
set_option linter.unusedSimpArgs false
set_option linter.unusedVariables false
namespace Go.Proofs.YtkmedfejmndmjaaGreat
open Go.Gh
open Nat (reduceEqDiff reduceLeDiff reduceAdd reduceLT)
open Int (reduceNe)
theorem w177 (sl:List Slo) (o:Int×ByteArray):Pu 177 [Occ o,.rop 1 (SltS sl)] (· = I (Ys sl o)):=by
 refine Z5 mxd i177 rfl (by simp) ?_;refine X0 ?_
 (with_reducible repeat' first|refine callS.eq (w178 sl o) ?_|exact trivial|refine aO ?_|refine eO ?_|apply jO|refine K0 ?_|intro h)
theorem w179 (n:Int) (e:Exp):Pu 179 [I n,Ex e] (· = I 0):=by
 refine Z5 mxd i179 rfl (by simp) ?_;refine X0 ?_
 (refine R1 @XE ?_;with_reducible repeat' exact trivial)
theorem w180 (sl:List Slo) (lit:Int) (ids:List Int) (hi:ids.length≤1048576):∀e:Exp,allE Yr e=true→Pu 180 [.agg [.clo 177 [.rop 1 (SltS sl)],.clo 179 [],I lit,IS ids],Ex e] (· = I (evE sl lit ids e)):=by
 refine Exp.indA fun e ih hv=> ?_
 obtain ⟨hn,ha⟩:=allE_args hv
 have hp:=nodeV_pos hn
 have har:=nodeV_args hn
 rw[evE_eq]
 have hk:e.kind=1∨e.kind=2∨e.kind=3∨e.kind=4∨e.kind=5∨e.kind=6∨e.kind=8∨(¬e.kind=1∧¬e.kind=2∧¬e.kind=3∧¬e.kind=4∧¬e.kind=5∧¬e.kind=6∧¬e.kind=8):=by omega
 rcases hk with hk|hk|hk|hk|hk|hk|hk|hk
 all_goals
  simp[arity,hk] at har
  refine Z5 mxd i180 rfl (by simp) ?_;refine X0 ?_
  (with_reducible repeat' first|refine callS.eq (w177 sl (e.pos,e.name)) ?_|refine callS.eq (w179 _ e) ?_|refine callS.eq (ih _ (gM _) (ha _ (gM _))) ?_|refine callS.eq (w226 _ _ _) ?_|exact trivial|refine aO ?_|refine eO ?_|apply jO|refine K1 (jO @XE hk) ?_|intro h)
  all_goals try exact oF
  all_goals simp only[evK,hk,Int.reduceEq,reduceIte]
  all_goals first
   | rfl
   | (rw[Ye oT,Ye oT];rfl)
   | (rw[Ye oT,if_pos (by assumption),Ye oT];rfl)
   | (rw[Ye oT,if_neg (by assumption),Ye oT];rfl)
   | (rw[if_pos oT,Z6 oT];done)
   | (rw[if_neg oT];done)
theorem w110 (e:Exp) (sl:List Slo) (lit:Int) (ids:List Int) (ho:okE e) (hw:wEx e≤1048576) (hi:ids.length≤1048576):Pu 110 [Ex e,SltS sl,I lit,IS ids] (· = I (if validE e then evE sl lit ids e else 0)):=by
 refine Z5 mxd i110 rfl (by simp) ?_;refine X0 ?_
 simp (maxSteps:=9^7) only[↓ S2,S2,ZF,↓reduceIte,reduceNe,reduceEqDiff,reduceCtorEq,reduceLeDiff,reduceAdd,reduceLT,XE]
 refine callS.eq (w176 e ho hw) ?_
 by_cases hv:validE e=true
 ·have hv':=hv
  simp only[validE,Bool.and_eq_true] at hv'
  (repeat' (first|(with_reducible refine callS.eq (w180 sl lit ids hi e hv'.2) ?_)|simp (maxSteps:=9^7) only[↓ S2,S2,ZF,↓reduceIte,reduceNe,reduceEqDiff,reduceCtorEq,reduceLeDiff,reduceAdd,reduceLT,XE,hv,upd_nf,stor_nf,gs_clo,cells_nf]|simp only[ZQ]|simp +contextual (disch:=omega) only[Z2]|with_reducible first|intro h|refine jO oT ?_ | refine exP oT ?_ | apply jO))
 ·simp only[Bool.not_eq_true] at hv
  (with_reducible repeat' first|refine callS.eq (w47 _ _ _) ?_|exact trivial|refine aO ?_|refine eO ?_|apply jO|refine K1 (jO @XE hv) ?_|intro h)
theorem o31 (t:List Nod) (i:Int) (hl:t.length≤1048576) (hx:∀x∈t,x.kids.length≤1048576) (H:GH):Gc 31 [Tr t,I i] H (fun g H'=>∃H1,(∃r,g = .own r 1 0 (Zh t i).length ∧ H1=[(r,1,(Zh t i).map I)])∧H'=H1++H):=by
 refine Z5 mxd i31 rfl (by simp) ?_;refine X0 ?_
 intro r hr
 refine callS.eq (w44 _ _ _) ?_
 by_cases hi0:0≤i∧i≤(t.length:Int)-1
 ·obtain ⟨i,rfl⟩:∃k:Nat,i=k:=⟨i.toNat,oT⟩
  have hi:i<t.length:=by omega
  have hk:=hx _ (gM hi)
  rw[nodeIds_in hi]
  (refine R1 hi0 ?_;with_reducible repeat' intro h)
  rename_i r2
  have hne:r2≠r:=XT h ZZ
  (refine R1 (jO (hgO hne) (hdO hne)) ?_;with_reducible repeat' intro h)
  rename_i r3
  have hne3:r3≠r2:=XT h ZZ
  refine YD mxd (ι:={ x:Nat×Nat // x.2≤t[i].kids.length }) (fun x=>[(2,.rop 1 (Tr t)),(1,I i),(5,.own x.1.1 1 0 (YS t ((i:Int)::t[i].kids.take x.1.2)).length),(6,I x.1.2)]) (fun x=>(x.1.1,1,(YS t ((i:Int)::t[i].kids.take x.1.2)).map I)::H) (fun x=>t[i].kids.length - x.1.2) ⟨(r3,0),by simp⟩ (FE.drop (r:=r2) (by rw[hget_old hne3,ZZ])) ?_ ?_ ?_
  ·simp[E2,YS,hi]
  ·rw[hdel_old hne3,XR]
   simp[YS,hi]
  ·rintro ⟨⟨q,j⟩,hj⟩ hnd
   dsimp only at hj hnd ⊢
   have hle:=idsAt_len t ((i:Int)::t[i].kids.take j)
   simp only[List.length_cons,List.length_take] at hle
   refine Zl mxd ?_
   (refine R0 ?_;with_reducible repeat' first|intro h|apply jO)
   ·refine callS.eq (w44 _ _ _) ?_
    (refine R0 ?_;with_reducible repeat' first|intro h|apply jO)
    ·rename_i q2
     have hneq:q2≠q:=XT h ZZ
     (refine R1 (jO (hgO hneq) (jO (hdO hneq) (jO @List.length_append.{0} (jO @List.length_singleton.{0} (jO @List.take_length.{0} @ZM))))) ?_;with_reducible repeat' intro h)
     rename_i q3
     have hq3:q3≠q2:=XT h ZZ
     have e:=idsAt_snoc_in (t:=t) (l:=(i:Int)::t[i].kids.take j) (k:=t[i].kids[j]) oT oT
     refine nxF ⟨(q3,j+1),oT⟩ (by simp;omega) (FE.drop (r:=q2) (by rw[hget_old hq3,ZZ])) ?_ ?_
     ·show subE _ [(2,.rop 1 (Tr t)),(1,I i),(5,.own q3 1 0 (YS t ((i:Int)::t[i].kids.take (j+1))).length),(6,I ((j+1:Nat):Int))]
      rw[XL oT,e]
      simp[E2]
     ·show _ = (q3,1,(YS t ((i:Int)::t[i].kids.take (j+1))).map I)::H
      rw[hdel_old hq3,XR,XL oT,e,tL (by simp)]
      simp
    ·have e:=idsAt_snoc_out (t:=t) (l:=(i:Int)::t[i].kids.take j) (k:=t[i].kids[j]) oT
     refine nx ⟨(q,j+1),oT⟩ (by simp;omega) ?_ ?_
     ·show subE _ [(2,.rop 1 (Tr t)),(1,I i),(5,.own q 1 0 (YS t ((i:Int)::t[i].kids.take (j+1))).length),(6,I ((j+1:Nat):Int))]
      rw[XL oT,e]
      simp[E2]
     ·show _ = (q,1,(YS t ((i:Int)::t[i].kids.take (j+1))).map I)::H
      rw[XL oT,e]
   ·have:j=t[i].kids.length := by omega
    subst this
    rw[List.take_length]
    exact ⟨_,⟨q,rfl,rfl⟩,rfl⟩
  all_goals first|(exfalso;omega)|skip
 ·have e:Zh t i=[]:=by simp only[Zh];rw[if_neg oT]
  rw[e]
  (refine R1 hi0 ?_;with_reducible repeat' intro h)
  exact ⟨_,⟨r,rfl,rfl⟩,rfl⟩
theorem o29 (t:List Nod) (i:Int) (hl:t.length≤1048576) (hx:∀x∈t,x.kids.length≤1048576) (H:GH):Gc 29 [Tr t,I i] H (fun g H'=>∃H1,(∃r,g = .own r 1 0 (Zh t i).length ∧ H1=[(r,1,(Zh t i).map I)])∧H'=H1++H):=by
 have h0:Gc 29 [Tr t,I i] H (fun g H'=>∃r,g = .own r 1 0 (Zh t i).length ∧ (H'=(r,1,(Zh t i).map I)::H∨∃r3 e,r≠r3∧H'=(r,1,(Zh t i).map I)::(r3,1,e)::H)):=by
  refine Z5 mxd i29 rfl (by simp) ?_;refine X0 ?_
  intro r hr
  refine callS.eq (w70 _ _) ?_
  by_cases hi0:0≤i∧i<(t.length:Int)
  ·obtain ⟨i,rfl⟩:∃k:Nat,i=k:=⟨i.toNat,oT⟩
   have hi:i<t.length:=by omega
   have hk:=hx _ (gM hi)
   rw[nodeIds_in hi]
   (refine R1 (jO hi0 @ZM) ?_;with_reducible repeat' first|intro h|refine aO ?_)
   rename_i r2 h2 r3
   have hne:r2≠r:=XT h2 ZZ
   have hne3:r3≠r:=XT h ZZ
   have he:(GV.val (.int .i64 (i:Int)))::t[i].kids.map I=((i:Int)::t[i].kids).map I:=rfl
   rw[he]
   have hlc:((i:Int)::t[i].kids).length = 1+t[i].kids.length := by simp;omega
   generalize ((i:Int)::t[i].kids)=ks at hlc ⊢
   rw[←hlc]
   clear he h
   refine YD mxd (ι:={ x:Nat×Nat // x.2≤ks.length∧x.1≠r3 }) (fun x=>[(2,.rop 1 (Tr t)),(22,.own r3 1 0 ks.length),(23,I ks.length),(5,.own x.1.1 1 0 (YS t (ks.take x.1.2)).length),(24,I x.1.2)]) (fun x=>(x.1.1,1,(YS t (ks.take x.1.2)).map I)::(r3,1,ks.map I)::H) (fun x=>ks.length-x.1.2) ⟨(r,0),oT,Ne.symm hne3⟩ (FE.swap) ?_ ?_ ?_
   ·simp[E2,YS]
   ·simp[YS]
   ·rintro ⟨⟨q,j⟩,hj,hq⟩ hnd
    dsimp only at hj hq hnd ⊢
    have hle:=idsAt_len t (ks.take j)
    simp only[List.length_take] at hle
    refine Zl mxd ?_
    (refine R1 (hgO hq) ?_;with_reducible repeat' first|intro h|apply jO)
    ·refine callS.eq (w70 _ _) ?_
     (refine R1 (hgO hq) ?_;with_reducible repeat' first|intro h|apply jO)
     ·rename_i q2
      have hneq:q2≠q:=XT h ZZ
      (refine R1 (jO (hgO hneq) (jO (hdO hneq) (jO @List.length_append.{0} (jO @List.length_singleton.{0} @ZM)))) ?_;with_reducible repeat' intro h)
      rename_i q3
      have hq3:q3≠q2:=XT h ZZ
      have hq4:q3≠r3:=by
       simp only[names,List.map_cons,List.nodup_cons,List.mem_cons,not_or] at h
       exact h.1.2.1
      have e:=idsAt_snoc_in (t:=t) (l:=ks.take j) (k:=ks[j]) oT oT
      refine nxF ⟨(q3,j+1),oT,hq4⟩ (by simp;omega) (FE.drop (r:=q2) (by rw[hget_old hq3,ZZ])) ?_ ?_
      ·show subE _ [(2,.rop 1 (Tr t)),(22,.own r3 1 0 ks.length),(23,I ks.length),(5,.own q3 1 0 (YS t (ks.take (j+1))).length),(24,I ((j+1:Nat):Int))]
       rw[take_step' oT,e]
       simp[E2]
      ·show _ = (q3,1,(YS t (ks.take (j+1))).map I)::(r3,1,ks.map I)::H
       rw[hdel_old hq3,XR,take_step' oT,e,tL (by simp)]
       simp
     ·have e:=idsAt_snoc_out (t:=t) (l:=ks.take j) (k:=ks[j]) oT
      refine nx ⟨(q,j+1),oT,hq⟩ (by simp;omega) ?_ ?_
      ·show subE _ [(2,.rop 1 (Tr t)),(22,.own r3 1 0 ks.length),(23,I ks.length),(5,.own q 1 0 (YS t (ks.take (j+1))).length),(24,I ((j+1:Nat):Int))]
       rw[take_step' oT,e]
       simp[E2]
      ·show _ = (q,1,(YS t (ks.take (j+1))).map I)::(r3,1,ks.map I)::H
       rw[take_step' oT,e]
    ·have:j=ks.length:=by omega
     subst this
     rw[List.take_length]
     exact ⟨q,rfl,.inr ⟨r3,_,hq,rfl⟩⟩
  ·have e:Zh t i=[]:=by simp only[Zh];rw[if_neg oT]
   rw[e]
   (refine R1 hi0 ?_)
   exact ⟨r,rfl,.inl rfl⟩
 refine h0.fr ?_
 rintro g H' ⟨r,rfl,rfl|⟨r3,e,hne,rfl⟩⟩
 ·exact ⟨_,_,FR.refl _ _,_,⟨r,rfl,rfl⟩,rfl⟩
 ·exact ⟨_,_,FR.drop (r:=r3) (by rw[hget_old hne,ZZ]),_,⟨r,rfl,rfl⟩,by rw[hdel_old hne,XR];rfl⟩
theorem w264 (a b:Oc):Pu 264 [Occ a,Occ b] (· = B (ltO a b)):=by
 refine Z5 mxd i264 rfl (by simp) ?_;refine X0 ?_
 (refine R0 ?_;with_reducible repeat' first|intro h|apply jO)
 ·simp[ltO,h]
 ·rename_i h0
  simp only[ltO,decide_eq_false h0,decide_eq_true h,Bool.false_or,Bool.true_and]
  rfl
 ·rename_i h0
  simp[ltO,h0,h]
theorem w249 (l:List Oc) (o:Oc) (hl:l.length≤4194304):Pu 249 [OcS l,Occ o] (· = OcS (putO l o)):=by
 refine Pure.bor ?_
 refine Z5 mxd i249 rfl (by simp) ?_;refine X0 ?_
 refine ZL mxd (ι:={ i:Nat // i≤l.length∧∀a∈l.take i,ltO a o=true }) (fun i=>[(0,OcS l),(3,.rop 2 (Occ o)),(5,I i.1)]) (fun _ => []) (fun i=>l.length-i.1) ⟨0,by simp⟩ (by simp[E2]) rfl ?_
 rintro ⟨i,hi,hp⟩
 have hsl:(l.take i).length = i:=by simp;omega
 rcases nL i l.length with h|h
 ·(refine V1 @XE ?_;with_reducible repeat' first|intro h|refine aO ?_|apply jO)
  all_goals try exact oF
  refine callS.eq (w264 _ _) ?_
  by_cases hb:ltO l[i] o=true
  ·(refine V1 hb ?_)
   exact nx ⟨i+1,oT,take_all_step (p:=fun a=>ltO a o) h hb hp⟩ (by simp;omega) (by simp[E2]) rfl
  ·have hb':ltO l[i] o=false:=by simpa using hb
   have ha:atO l o=i:=atO_of hi hp (fun _ => hb')
   have hpt:putO l o=if l[i]=o then l else l.take i++o::l.drop i:=by
    simp only[putO,ha,List.getElem?_eq_getElem h,Option.some.injEq]
   by_cases he:l[i]=o
   ·have he1:l[i].1 = o.1:=by rw[he]
    have he2:l[i].2 = o.2:=by rw[he]
    (refine V1 (jO hb' (jO he1 he2)) ?_;with_reducible repeat' first|intro h|refine aO ?_|apply jO)
    all_goals try exact oF
    rw[hpt,if_pos he]
    exact .refl
   ·rw[hpt,if_neg he]
    (refine V1 (jO hb' (jO @List.length_append.{0} (jO @List.length_singleton.{0} (jO @List.length_map.{0,0} (jO @List.length_take.{0} (jO @List.length_drop.{0} @ZM)))))) ?_;with_reducible repeat' first|intro h|refine aO ?_|apply jO)
    all_goals first
     | (exfalso;exact he (Prod.ext (by assumption) (by assumption)))
     | (rw[putM hi,putN (o:=o) hi];exact Bor.allM (fun _ => rfl) ZZ rfl)
     | (exfalso;omega)
 ·have hil:i=l.length:=by omega
  have ha:atO l o=i:=atO_of hi hp (fun h=>absurd h oT)
  have hpt:putO l o=l.take i++o::l.drop i:=by
   simp only[putO,ha,List.getElem?_eq_none (by omega:l.length≤i)]
   rfl
  rw[hpt]
  have hni:¬i<l.length:=by omega
  ((try refine qI ?_);(repeat ((first|with_reducible refine qU ?_ | simp only[ZQ]);try simp (maxSteps:=9^7) +contextual only[↓ S2,S2,↓reduceIte,reduceNe,reduceEqDiff,reduceCtorEq,reduceLeDiff,reduceAdd,reduceLT,VQ,hni,List.length_append,List.length_singleton,List.length_map,List.length_take,List.length_drop,ZM]));(try simp +contextual (disch:=omega) only[Z2,hni,List.length_append,List.length_singleton,List.length_map,List.length_take,List.length_drop,ZM]);(with_reducible repeat' (first|intro h|refine jO oT ?_ | refine exP oT ?_ | apply jO)))
  all_goals first
   | (rw[putM hi,putN (o:=o) hi];exact Bor.allM (fun _ => rfl) ZZ rfl)
   | (exfalso;omega)
theorem w227:∀(e:Exp) (l:List Oc),wEx e≤1048576→l.length+(1+wEx e)≤4194303→Pu 227 [Ex e,OcS l] (· = OcS (usE e l)):=by
 refine Exp.indA fun e ih l hw hb=> ?_
 obtain ⟨hal,haw⟩:=YT hw
 have hwa:=wEx_args e
 rw[usE_eq]
 refine Z5 mxd i227 rfl (by simp) ?_;refine X0 ?_
 by_cases hk:e.kind=3
 ·rw[if_pos hk]
  ·have hlp:=putO_len l (e.pos,e.name)
   (refine V1 (jO @XE hk) ?_)
   all_goals try exact oF
   refine callS.eq (w249 l (e.pos,e.name) oT) ?_
   (refine V1 (jO @XE hk) ?_)
   refine ZL mxd (ι:={ i:Nat // i≤e.args.length }) (fun i=>[(1,OcS (usEL (e.args.take i.1) (putO l (e.pos,e.name)))),(2,.rop 7 (Ex e)),(5,I i.1)]) (fun _ => []) (fun i=>e.args.length-i.1) ⟨0,oT⟩ (by simp[E2,usEL]) rfl ?_
   rintro ⟨i,hi⟩
   rcases nL i e.args.length with h|h
   ·have e1:=wExL_step h
    have e2:=wExL_take e.args (i+1)
    have e3:=usEL_len (e.args.take i) (putO l (e.pos,e.name))
    have e4:(e.args.take i).length = i:=by simp;omega
    (refine V1 @XE ?_;with_reducible repeat' first|intro h|apply jO)
    all_goals try exact oF
    refine callS.eq (ih e.args[i] (gM _) _ (haw _ (gM _)) oT) ?_
    (refine V1 @XE ?_)
    exact nx ⟨i+1,oT⟩ (by simp;omega) (by simp[E2,usEL_step h]) rfl
   ·obtain rfl:i=e.args.length:=by omega
    (refine V1 @XE ?_;with_reducible repeat' intro h)
    all_goals try exact oF
    rw[List.take_length]
 ·rw[if_neg hk]
  ·(refine V1 (jO @XE hk) ?_)
   all_goals try exact oF
   refine ZL mxd (ι:={ i:Nat // i≤e.args.length }) (fun i=>[(1,OcS (usEL (e.args.take i.1) l)),(2,.rop 7 (Ex e)),(5,I i.1)]) (fun _ => []) (fun i=>e.args.length-i.1) ⟨0,oT⟩ (by simp[E2,usEL]) rfl ?_
   rintro ⟨i,hi⟩
   rcases nL i e.args.length with h|h
   ·have e1:=wExL_step h
    have e2:=wExL_take e.args (i+1)
    have e3:=usEL_len (e.args.take i) l
    have e4:(e.args.take i).length = i:=by simp;omega
    (refine V1 @XE ?_;with_reducible repeat' first|intro h|apply jO)
    all_goals try exact oF
    refine callS.eq (ih e.args[i] (gM _) _ (haw _ (gM _)) oT) ?_
    (refine V1 @XE ?_)
    exact nx ⟨i+1,oT⟩ (by simp;omega) (by simp[E2,usEL_step h]) rfl
   ·obtain rfl:i=e.args.length:=by omega
    (refine V1 @XE ?_;with_reducible repeat' intro h)
    all_goals try exact oF
    rw[List.take_length]
theorem w183 (e:Exp) (hw:wEx e≤1048576):Pu 183 [Ex e] (· = OcS (usE e [])):=by
 refine Z5 mxd i183 rfl (by simp) ?_;refine X0 ?_
 (refine V1 @XE ?_;with_reducible repeat' intro h)
 refine callS.of (Pure.froz (w227 e [] hw (by simp;omega)) (.cons .refl (.cons (Bor.allM (l:=([]:List Oc)) (f:=Occ) (fun _ => rfl) ZZ rfl) .nil))) ?_
 rintro g H' ⟨rfl,rfl⟩ -
 (refine V1 @XE ?_;with_reducible repeat' exact trivial)
end Go.Proofs.YtkmedfejmndmjaaGreat
