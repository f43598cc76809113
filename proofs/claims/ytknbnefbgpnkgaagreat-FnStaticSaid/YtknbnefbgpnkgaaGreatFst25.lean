/- The laws FnStatic and FnStaticTypes return true whatever the input, and the input reads behind the call as before. No condition. -/
import Derived.Test.YtknbnefbgpnkgaaGreatFst3
import Derived.Test.YtknbnefbgpnkgaaGreatFst22
import Derived.Test.YtknbnefbgpnkgaaGreatFst24
set_option maxHeartbeats 40000000
set_option maxRecDepth 20000
set_option linter.unusedSimpArgs false
set_option linter.unusedVariables false
namespace Go.Proofs.YtknbnefbgpnkgaaGreat
open Go.Gh
open Nat (reduceEqDiff reduceLeDiff reduceAdd reduceLT)
open Int (reduceNe)
theorem w241 (g:Gram) (r:Rul) (hg:ZI g) (hr:Zb r) (hr3:r.right.length≤3):Pu 241 [Gr g,Ru r] (· = OcS (reqO g r)):=by
 refine Pure.bor ?_
 refine Z5 mxd i241 rfl (by simp) ?_;refine X0 ?_
 (refine V0 ?_;with_reducible repeat' intro h)
 all_goals try exact oF
 rename_i r0
 refine Y2 mxd (ι:={ x:Nat×Nat // x.2≤r.right.length+1 }) (fun x=>[(2,.rop 2 (Gr g)),(3,.rop 6 (Ru r)),(5,.own x.1.1 2 0 (Zg g r x.1.2).length),(16,I ((r.right.length:Int)+1)),(17,I x.1.2)]) (fun x=>[(x.1.1,2,(Zg g r x.1.2).map Occ)]) (fun x=>r.right.length+1-x.1.2) ⟨(r0,0),by simp⟩ (by simp[E2,Zg]) (by simp[subH,ZV,names,Zg]) ?_
 rintro ⟨⟨q,i⟩,hi⟩ hn
 dsimp only at hi hn ⊢
 rcases nL i (r.right.length+1) with hlt|hge
 ·have hbl:=reqA_len hg r i
  have hst:Zg g r (i+1)=Zg g r i++((((Zz g.syms (Zp r i)).atts.filter fun a=>decide (a.mode=if i=0 then 2 else 1)).map fun a=>((i:Int),a.name))):=rfl
  have hsm:=YQ hg (Zp r i)
  unfold Yw at hsm
  by_cases h0:i=0
  ·have hi1:((i:Int)=0)=True:=eq_true oT
   rw[if_pos h0] at hst
   (refine V1 (jO hi1 @decide_true) ?_;with_reducible repeat' first|intro h|apply jO)
   all_goals try exact oF
   refine callS.eq (w239 r i hr) ?_
   (refine V0 ?_)
   refine callS.eq (w82 g _ hg) ?_
   generalize Zz g.syms (Zp r i)=s at *
   (refine V0 ?_)
   obtain ⟨F,hF⟩:∃F:Nat→List Oc,∀k,F k=Zg g r i++(((s.atts.take k).filter fun a=>decide (a.mode=2)).map fun a=>((i:Int),a.name)):=⟨_,fun _ => rfl⟩
   have hF0:F 0=Zg g r i:=by rw[hF];simp
   have hFe:F s.atts.length=Zg g r (i+1):=by rw[hF,hst,List.take_length]
   have hFs:∀k (hk:k<s.atts.length),F (k+1)=F k++(if s.atts[k].mode = 2 then [((i:Int),s.atts[k].name)] else []):=fun k hk=>by
    rw[hF,hF,reqP_take (g:=g) (r:=r) (pos:=i) (m:=2) (by simp[h0]) s.atts hk,List.append_assoc]
   have hFl:∀k,(F k).length ≤ (Zg g r i).length + s.atts.length:=fun k=>by
    have h1:=List.length_filter_le (fun a:Att=>decide (a.mode=2)) (s.atts.take k)
    rw[List.length_take] at h1
    rw[hF,List.length_append,List.length_map];omega
   clear hF
   refine Y2 mxd (ι:={ x:Nat×Nat // x.2≤s.atts.length }) (fun x=>[(2,.rop 2 (Gr g)),(3,.rop 6 (Ru r)),(5,.own x.1.1 2 0 (F x.1.2).length),(6,I i),(7,I 2),(16,I ((r.right.length:Int)+1)),(17,I i),(31,AtS s.atts),(32,I s.atts.length),(33,I x.1.2)]) (fun x=>[(x.1.1,2,(F x.1.2).map Occ)]) (fun x=>s.atts.length-x.1.2) ⟨(q,0),by simp⟩ (by simp[E2,hF0]) (by simp[subH,ZV,names,hF0]) ?_
   rintro ⟨⟨q,k⟩,hk⟩ hn
   dsimp only at hk hn ⊢
   have hl1:=hFl k
   rcases nL k s.atts.length with hlt2|hge2
   ·have e:=hFs k hlt2
    rcases Decidable.em (s.atts[k].mode = 2) with hm|hm
    ·rw[if_pos hm] at e
     have el:(F (k+1)).length = (F k).length + 1:=by rw[e];simp
     (refine V1 (jO hm (jO @List.length_append.{0} (jO @List.length_singleton.{0} (jO @List.length_map.{0,0} (jO @List.length_take.{0} @ZM))))) ?_;with_reducible repeat' first|intro h|refine aO ?_|apply jO)
     all_goals try exact oF
     rename_i q2 _ q3
     refine px ⟨(q3,k+1),oT⟩ (by simp<;>omega) (by simp[E2,el]) ?_
     show subH _ [(q3,2,(F (k+1)).map Occ)]
     rw[e,List.map_append,tL (by simp)]
     exact (by repeat' (first|exact trivial|(refine jO (by simp only[Z9, *,if_true,if_false];try rfl) (jO (by simp[ZW,ZU, *]) ?_))))
    ·rw[if_neg hm,List.append_nil] at e
     (refine V1 hm ?_;with_reducible repeat' first|intro h|apply jO)
     all_goals try exact oF
     refine px ⟨(q,k+1),oT⟩ (by simp<;>omega) (by simp[E2,e]) ?_
     show subH _ [(q,2,(F (k+1)).map Occ)]
     rw[e]
     exact (by repeat' (first|exact trivial|(refine jO (by simp only[Z9, *,if_true,if_false];try rfl) (jO (by simp[ZW,ZU, *]) ?_))))
   ·obtain rfl:k=s.atts.length:=by omega
    rw[hFe]
    (refine V0 ?_;with_reducible repeat' intro h)
    all_goals try exact oF
    exact px ⟨(q,i+1),oT⟩ (by simp<;>omega) (by simp[E2]) (by repeat' (first|exact trivial|(refine jO (by simp only[Z9, *,if_true,if_false];try rfl) (jO (by simp[ZW,ZU, *]) ?_))))
  ·have hi1:((i:Int)=0)=False:=eq_false oT
   rw[if_neg h0] at hst
   (refine V1 (jO hi1 @decide_false) ?_;with_reducible repeat' first|intro h|apply jO)
   all_goals try exact oF
   refine callS.eq (w239 r i hr) ?_
   (refine V0 ?_)
   refine callS.eq (w82 g _ hg) ?_
   generalize Zz g.syms (Zp r i)=s at *
   (refine V0 ?_)
   obtain ⟨F,hF⟩:∃F:Nat→List Oc,∀k,F k=Zg g r i++(((s.atts.take k).filter fun a=>decide (a.mode=1)).map fun a=>((i:Int),a.name)):=⟨_,fun _ => rfl⟩
   have hF0:F 0=Zg g r i:=by rw[hF];simp
   have hFe:F s.atts.length=Zg g r (i+1):=by rw[hF,hst,List.take_length]
   have hFs:∀k (hk:k<s.atts.length),F (k+1)=F k++(if s.atts[k].mode = 1 then [((i:Int),s.atts[k].name)] else []):=fun k hk=>by
    rw[hF,hF,reqP_take (g:=g) (r:=r) (pos:=i) (m:=1) (by simp[h0]) s.atts hk,List.append_assoc]
   have hFl:∀k,(F k).length ≤ (Zg g r i).length + s.atts.length:=fun k=>by
    have h1:=List.length_filter_le (fun a:Att=>decide (a.mode=1)) (s.atts.take k)
    rw[List.length_take] at h1
    rw[hF,List.length_append,List.length_map];omega
   clear hF
   refine Y2 mxd (ι:={ x:Nat×Nat // x.2≤s.atts.length }) (fun x=>[(2,.rop 2 (Gr g)),(3,.rop 6 (Ru r)),(5,.own x.1.1 2 0 (F x.1.2).length),(6,I i),(7,I 1),(16,I ((r.right.length:Int)+1)),(17,I i),(31,AtS s.atts),(32,I s.atts.length),(33,I x.1.2)]) (fun x=>[(x.1.1,2,(F x.1.2).map Occ)]) (fun x=>s.atts.length-x.1.2) ⟨(q,0),by simp⟩ (by simp[E2,hF0]) (by simp[subH,ZV,names,hF0]) ?_
   rintro ⟨⟨q,k⟩,hk⟩ hn
   dsimp only at hk hn ⊢
   have hl1:=hFl k
   rcases nL k s.atts.length with hlt2|hge2
   ·have e:=hFs k hlt2
    rcases Decidable.em (s.atts[k].mode = 1) with hm|hm
    ·rw[if_pos hm] at e
     have el:(F (k+1)).length = (F k).length + 1:=by rw[e];simp
     (refine V1 (jO hm (jO @List.length_append.{0} (jO @List.length_singleton.{0} (jO @List.length_map.{0,0} (jO @List.length_take.{0} @ZM))))) ?_;with_reducible repeat' first|intro h|refine aO ?_|apply jO)
     all_goals try exact oF
     rename_i q2 _ q3
     refine px ⟨(q3,k+1),oT⟩ (by simp<;>omega) (by simp[E2,el]) ?_
     show subH _ [(q3,2,(F (k+1)).map Occ)]
     rw[e,List.map_append,tL (by simp)]
     exact (by repeat' (first|exact trivial|(refine jO (by simp only[Z9, *,if_true,if_false];try rfl) (jO (by simp[ZW,ZU, *]) ?_))))
    ·rw[if_neg hm,List.append_nil] at e
     (refine V1 hm ?_;with_reducible repeat' first|intro h|apply jO)
     all_goals try exact oF
     refine px ⟨(q,k+1),oT⟩ (by simp<;>omega) (by simp[E2,e]) ?_
     show subH _ [(q,2,(F (k+1)).map Occ)]
     rw[e]
     exact (by repeat' (first|exact trivial|(refine jO (by simp only[Z9, *,if_true,if_false];try rfl) (jO (by simp[ZW,ZU, *]) ?_))))
   ·obtain rfl:k=s.atts.length:=by omega
    rw[hFe]
    (refine V0 ?_;with_reducible repeat' intro h)
    all_goals try exact oF
    exact px ⟨(q,i+1),oT⟩ (by simp<;>omega) (by simp[E2]) (by repeat' (first|exact trivial|(refine jO (by simp only[Z9, *,if_true,if_false];try rfl) (jO (by simp[ZW,ZU, *]) ?_))))
 ·obtain rfl:i=r.right.length+1:=by omega
  (refine V0 ?_;with_reducible repeat' intro h)
  all_goals try exact oF
  exact bor_OcS ZZ rfl
theorem w242 (r:Rul) (o:Oc) (hr:Zb r):Pu 242 [Occ o,.rop 6 (Ru r)] (· = B (!(Yz r o).isSome)):=by
 refine Z5 mxd i242 rfl (by simp) ?_;refine X0 ?_
 (refine V0 ?_)
 refine callS.eq (w243 r.eqs 244 [.rop 2 (Occ o)] (fun q=>decide (q.pos=o.1∧q.name=o.2)) fun x _ => w244 x o) ?_
 rw[←eqnF_any]
 (refine V0 ?_;with_reducible repeat' exact trivial)
theorem w208 (g:Gram) (r:Rul) (hg:ZI g) (hr:Zb r) (hr3:r.right.length≤3):Pu 208 [Gr g,Ru r] (· = B (misR g r)):=by
 refine Z5 mxd i208 rfl (by simp) ?_;refine X0 ?_
 (refine V0 ?_)
 refine callS.eq (w241 g r hg hr hr3) ?_
 (refine V0 ?_)
 refine callS.eq (w240 (reqO g r) 242 [.rop 6 (Ru r)] (fun o=> !(Yz r o).isSome) fun x _ => w242 r x hr) ?_
 (refine V0 ?_)
 rfl
theorem w254 (g:Gram) (r:Rul) (hg:ZI g) (hr:Zb r) (hr3:r.right.length≤3):Pu 254 [Gr g,Ru r] (· = B (misR g r)):=by
 have hbl:=reqA_len hg r (r.right.length+1)
 have hrq:reqO g r=Zg g r (r.right.length+1):=rfl
 rw[←hrq] at hbl
 have hmr:misR g r=(reqO g r).any fun o=> !(Yz r o).isSome := rfl
 rw[hmr]
 refine Z5 mxd i254 rfl (by simp) ?_;refine X0 ?_
 (refine V0 ?_)
 refine callS.eq (w161 g r hg hr hr3) ?_
 generalize reqO g r=L at *
 (refine V0 ?_)
 refine ZL mxd (ι:={ i:Nat // i≤L.length∧∀o∈L.take i,(!(Yz r o).isSome)=false }) (fun i=>[(3,.rop 6 (Ru r)),(5,OcS L),(6,I i.1)]) (fun _ => []) (fun i=>L.length-i.1) ⟨0,by simp⟩ (by simp[E2]) rfl ?_
 rintro ⟨i,hi,hn⟩
 rcases nL i L.length with hlt|hge
 ·(refine V0 ?_;with_reducible repeat' first|intro h|apply jO)
  all_goals try exact oF
  refine callS.eq (w157 r L[i] hr) ?_
  rcases (Bool.eq_false_or_eq_true (Yz r L[i]).isSome).symm with hv|hv
  ·rw[X2 (p:=fun o=> !(Yz r o).isSome) hlt (by rw[hv];rfl)]
   (refine V1 (jO hv @XE) ?_;with_reducible repeat' exact trivial)
  ·(refine V1 (jO hv @XE) ?_)
   exact nx ⟨i+1,oT,Zt (p:=fun o=> !(Yz r o).isSome) hlt (by rw[hv];rfl) hn⟩ (by simp<;>omega) (by simp[E2]) rfl
 ·obtain rfl:i=L.length:=by omega
  rw[List.take_length] at hn
  rw[any_no (p:=fun o=> !(Yz r o).isSome) hn]
  (refine V0 ?_;with_reducible repeat' intro h)
  all_goals try exact oF
theorem w276 (L:List Oc) (y:Oc):Pu 276 [OcS L,Occ y] (· = I (ixI L y)):=by
 refine GCalls.lenA fun hlen=> ?_
 have hlen:=hlen.1.1
 simp only[List.length_map,Zn] at hlen
 refine Z5 mxd i276 rfl (by simp) ?_;refine X0 ?_
 (refine V0 ?_)
 refine ZL mxd (ι:={ i:Nat // i≤L.length∧∀a∈L.take i,decide (a=y)=false }) (fun i=>[(0,OcS L),(3,.rop 2 (Occ y)),(7,I L.length),(8,I i.1)]) (fun _ => []) (fun i=>L.length-i.1) ⟨0,by simp⟩ (by simp[E2]) rfl ?_
 rintro ⟨i,hi,hn⟩
 rcases nL i L.length with hlt|hge
 ·by_cases he:L[i]=y
  ·have he1:y.1=L[i].1 := by rw[he]
   have he2:y.2=L[i].2 := by rw[he]
   have e:ixI L y=i:=YT hlt (by simp[he]) hn
   rw[e]
   (refine V1 (jO he1 he2) ?_;with_reducible repeat' intro h)
   all_goals first|rfl|(exfalso;omega)
  ·(refine V0 ?_;with_reducible repeat' first|intro h|apply jO)
   all_goals first
    | (exfalso;exact he (Prod.ext (Eq.symm (by assumption)) (Eq.symm (by assumption))))
    | (exfalso;omega)
    | exact nx ⟨i+1,oT,ZA hlt (by simp[he]) hn⟩ (by simp<;>omega) (by simp[E2]) rfl
 ·obtain rfl:i=L.length:=by omega
  rw[List.take_length] at hn
  have e:ixI L y = -1:=YV hn
  rw[e]
  (refine V0 ?_;with_reducible repeat' first|intro h|refine aO ?_)
  all_goals first|rfl|(exfalso;omega)
theorem w245 (L:List Oc) (y:Oc):Pu 245 [OcS L,Occ y] (· = B (hasO L y)):=by
 have e:hasO L y=decide (0≤ixI L y):=(any_ix (fun z=>decide (z=y)) L).symm
 rw[e]
 refine Z5 mxd i245 rfl (by simp) ?_;refine X0 ?_
 (refine V0 ?_)
 refine callS.eq (w276 L y) ?_
 (refine V0 ?_;with_reducible repeat' exact trivial)
theorem w280 (L:List Oc) (y:Oc):Pu 280 [OcS L,Occ y] (· = B (hasO L y)):=by
 refine GCalls.lenA fun hlen=> ?_
 have hlen:=hlen.1.1
 simp only[List.length_map,Zn] at hlen
 refine Z5 mxd i280 rfl (by simp) ?_;refine X0 ?_
 (refine V0 ?_)
 refine ZL mxd (ι:={ i:Nat // i≤L.length∧∀a∈L.take i,decide (a=y)=false }) (fun i=>[(0,OcS L),(3,.rop 2 (Occ y)),(5,I i.1)]) (fun _ => []) (fun i=>L.length-i.1) ⟨0,by simp⟩ (by simp[E2]) rfl ?_
 rintro ⟨i,hi,hn⟩
 rcases nL i L.length with hlt|hge
 ·by_cases he:L[i]=y
  ·have he1:L[i].1 = y.1:=by rw[he]
   have he2:L[i].2 = y.2:=by rw[he]
   rw[hasO_hit hlt he]
   (refine V1 (jO he1 he2) ?_;with_reducible repeat' intro h)
   all_goals first|rfl|(exfalso;omega)
  ·(refine V0 ?_;with_reducible repeat' first|intro h|apply jO)
   all_goals first
    | (exfalso;exact he (Prod.ext (by assumption) (by assumption)))
    | (exfalso;omega)
    | exact nx ⟨i+1,oT,ZA hlt (by simp[he]) hn⟩ (by simp<;>omega) (by simp[E2]) rfl
 ·obtain rfl:i=L.length:=by omega
  rw[List.take_length] at hn
  rw[hasO_none hn]
  (refine V0 ?_;with_reducible repeat' first|intro h|refine aO ?_)
  all_goals first|rfl|(exfalso;omega)
theorem w209 (g:Gram) (r:Rul) (hg:ZI g) (hr:Zb r) (hr3:r.right.length≤3):Pu 209 [Gr g,Ru r] (· = B (extR g r)):=by
 have hel:=hr.2.1
 have hno (i:Nat) (h:i<r.eqs.length):=extR_no (g:=g) (r:=r) (i:=i) h
 have hok:=extR_ok (g:=g) (r:=r)
 refine Z5 mxd i209 rfl (by simp) ?_;refine X0 ?_
 (refine V1 @XE ?_)
 refine callS.eq (w241 g r hg hr hr3) ?_
 generalize reqO g r=L at *
 (refine V1 @XE ?_)
 refine ZL mxd (ι:={ i:Nat // i≤r.eqs.length∧∀j (hj:j<r.eqs.length),j<i→hasO L (atQ r.eqs[j])=true∧hasO ((r.eqs.take j).map atQ) (atQ r.eqs[j])=false }) (fun i=>[(3,.rop 6 (Ru r)),(5,OcS L),(12,QnS r.eqs),(13,I r.eqs.length),(14,I i.1)]) (fun _ => []) (fun i=>r.eqs.length-i.1) ⟨0,by simp⟩ (by simp[E2]) rfl ?_
 rintro ⟨i,hi,hn⟩
 rcases nL i r.eqs.length with hlt|hge
 ·(refine V1 @XE ?_;with_reducible repeat' first|intro h|apply jO)
  all_goals try exact oF
  refine callS.eq (w245 L (atQ r.eqs[i])) ?_
  rcases bC (hasO L (atQ r.eqs[i])) with hv|hv
  ·rw[hno i hlt (.inl hv)]
   (refine V1 (jO hv @XE) ?_;with_reducible repeat' exact trivial)
  ·(refine V1 (jO hv @XE) ?_)
   all_goals try exact oF
   rw[show List.drop (Int.toNat 0) (List.take i (List.map Qn r.eqs))=(r.eqs.take i).map Qn from by simp[List.map_take]]
   refine callS.eq (w243 (r.eqs.take i) 246 [.rop 9 (Qn r.eqs[i])] (fun q=>decide (q.pos=r.eqs[i].pos ∧ q.name=r.eqs[i].name)) fun x _ => w246 x _) ?_
   have e:((r.eqs.take i).any fun q=>decide (q.pos=r.eqs[i].pos ∧ q.name=r.eqs[i].name))=hasO ((r.eqs.take i).map atQ) (atQ r.eqs[i]):=(hasO_map (r.eqs.take i) (atQ r.eqs[i])).symm
   rw[e]
   rcases (Bool.eq_false_or_eq_true (hasO ((r.eqs.take i).map atQ) (atQ r.eqs[i]))).symm with hw|hw
   ·(refine V1 hw ?_)
    exact nx ⟨i+1,oT,fun j hj hji=>by
     rcases Nat.lt_succ_iff_lt_or_eq.1 hji with e|e
     ·exact hn j hj e
     ·subst e;exact ⟨hv,hw⟩⟩ (by simp<;>omega) (by simp[E2]) rfl
   ·rw[hno i hlt (.inr hw)]
    (refine V1 hw ?_;with_reducible repeat' exact trivial)
 ·obtain rfl:i=r.eqs.length:=by omega
  rw[hok fun j hj=>hn j hj hj]
  (refine V0 ?_;with_reducible repeat' intro h)
  all_goals try exact oF
theorem w255 (g:Gram) (r:Rul) (hg:ZI g) (hr:Zb r) (hr3:r.right.length≤3):Pu 255 [Gr g,Ru r] (· = B (extR g r)):=by
 have hel:=hr.2.1
 have hno (i:Nat) (h:i<r.eqs.length):=extR_no (g:=g) (r:=r) (i:=i) h
 have hok:=extR_ok (g:=g) (r:=r)
 refine Pure.bor ?_
 refine Z5 mxd i255 rfl (by simp) ?_;refine X0 ?_
 (refine V1 @XE ?_)
 refine callS.eq (w161 g r hg hr hr3) ?_
 generalize reqO g r=L at *
 (refine V1 @XE ?_;with_reducible repeat' intro h)
 rename_i r0
 refine Y2 mxd (ι:={ x:Nat×Nat // x.2≤r.eqs.length∧∀j (hj:j<r.eqs.length),j<x.2→hasO L (atQ r.eqs[j])=true∧hasO ((r.eqs.take j).map atQ) (atQ r.eqs[j])=false }) (fun x=>[(3,.rop 6 (Ru r)),(5,OcS L),(6,.own x.1.1 2 0 x.1.2),(7,I x.1.2)]) (fun x=>[(x.1.1,2,((r.eqs.take x.1.2).map atQ).map Occ)]) (fun x=>r.eqs.length-x.1.2) ⟨(r0,0),by simp⟩ (by simp[E2]) (by simp[subH,ZV,names]) ?_
 rintro ⟨⟨q,i⟩,hi,hn⟩ -
 dsimp only at hi hn ⊢
 rcases nL i r.eqs.length with hlt|hge
 ·(refine V1 @XE ?_;with_reducible repeat' first|intro h|apply jO)
  all_goals try exact oF
  refine callS.eq (w280 L (atQ r.eqs[i])) ?_
  rcases bC (hasO L (atQ r.eqs[i])) with hv|hv
  ·rw[hno i hlt (.inl hv)]
   (refine V1 (jO hv @XE) ?_)
   exact .refl
  ·(refine V1 (jO hv @XE) ?_)
   all_goals try exact oF
   refine callS.borA (w280 ((r.eqs.take i).map atQ) (atQ r.eqs[i])) (.cons (bor_OcS ZZ (by simp<;>omega)) (.cons .refl .nil)) rfl ?_
   rcases (Bool.eq_false_or_eq_true (hasO ((r.eqs.take i).map atQ) (atQ r.eqs[i]))).symm with hw|hw
   ·(refine V1 (jO hw (jO @XE (jO @List.length_append.{0} (jO @List.length_singleton.{0} (jO @List.length_map.{0,0} (jO @List.length_take.{0} @ZM)))))) ?_;with_reducible repeat' first|intro h|refine aO ?_)
    all_goals try exact oF
    rename_i q2 _ q3
    have e:=Yk Occ atQ r.eqs i hlt
    simp only[atQ] at e
    rw[e]
    exact px ⟨(q3,i+1),oT,fun j hj hji=>by
     rcases Nat.lt_succ_iff_lt_or_eq.1 hji with e|e
     ·exact hn j hj e
     ·subst e;exact ⟨hv,hw⟩⟩ (by simp<;>omega) (by simp[E2]) (by repeat' (first|exact trivial|(refine jO (by simp only[Z9, *,if_true,if_false];try rfl) (jO (by simp[ZW,ZU, *]) ?_))))
   ·rw[hno i hlt (.inr hw)]
    (refine V1 hw ?_)
    exact .refl
 ·obtain rfl:i=r.eqs.length:=by omega
  rw[hok fun j hj=>hn j hj hj]
  (refine V0 ?_;with_reducible repeat' intro h)
  all_goals first|(exfalso;omega)|exact .refl
end Go.Proofs.YtknbnefbgpnkgaaGreat
