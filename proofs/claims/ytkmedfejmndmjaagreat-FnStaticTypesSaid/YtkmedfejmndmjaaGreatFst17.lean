/- The law FnStaticTypes returns true whatever the input, and the input reads behind the call as before. No condition. -/
import Derived.Test.YtkmedfejmndmjaaGreatFst10
import Derived.Test.YtkmedfejmndmjaaGreatFst16
set_option maxHeartbeats 40000000
set_option maxRecDepth 20000
set_option linter.unusedSimpArgs false
set_option linter.unusedVariables false
namespace Go.Proofs.YtkmedfejmndmjaaGreat
open Go.Gh
open Nat (reduceEqDiff reduceLeDiff reduceAdd reduceLT)
open Int (reduceNe)
theorem w148 (g:Gram) (r:Rul) (hg:ZE g) (hr:Y7 r):Pu 148 [Gr g,Ru r] (· = B (!unkR g r)):=by
 have hl:=hr.1
 refine Z5 mxd i148 rfl (by simp) ?_;refine X0 ?_
 (refine V0 ?_)
 refine ZL mxd (ι:={ i:Nat // i≤r.right.length+1∧∀j,j<i→hSym g.syms (Zw r (j:Nat))=true }) (fun i=>[(2,.rop 2 (Gr g)),(3,.rop 6 (Ru r)),(5,I i.1)]) (fun _ => []) (fun i=>r.right.length+1-i.1) ⟨0,by simp⟩ (by simp[E2]) rfl ?_
 rintro ⟨i,hi,hn⟩
 rcases nL i (r.right.length+1) with hlt|hge
 ·(refine V0 ?_;with_reducible repeat' first|intro h|apply jO)
  all_goals try exact oF
  refine callS.eq (w11 r i hr) ?_
  (refine V0 ?_)
  refine callS.eq (w10 g _ hg) ?_
  rcases bC (hSym g.syms (Zw r i)) with hv|hv
  ·rw[unkR_no hlt hv]
   (refine V1 hv ?_;with_reducible repeat' exact trivial)
  ·(refine V1 hv ?_)
   exact nx ⟨i+1,oT,fun j hj=>by
    rcases Nat.lt_succ_iff_lt_or_eq.1 hj with e|e
    ·exact hn j e
    ·subst e;exact hv⟩ (by simp<;>omega) (by simp[E2]) rfl
 ·obtain rfl:i=r.right.length+1:=by omega
  rw[unkR_ok hn]
  (refine V0 ?_;with_reducible repeat' intro h)
  all_goals try exact oF
theorem w83 (g:Gram) (r:Rul) (hg:ZE g) (hr:Y7 r):Pu 83 [Gr g,Ru r] (· = B (unkR g r)):=by
 have hl:=hr.1
 refine Z5 mxd i83 rfl (by simp) ?_;refine X0 ?_
 (refine V0 ?_)
 all_goals try exact oF
 refine ZL mxd (ι:={ i:Nat // i≤r.right.length+1∧∀j,j<i→hSym g.syms (Zw r (j:Nat))=true }) (fun i=>[(2,.rop 2 (Gr g)),(3,.rop 6 (Ru r)),(11,I ((r.right.length:Int)+1)),(12,I i.1)]) (fun _ => []) (fun i=>r.right.length+1-i.1) ⟨0,by simp⟩ (by simp[E2]) rfl ?_
 rintro ⟨i,hi,hn⟩
 rcases nL i (r.right.length+1) with hlt|hge
 ·(refine V0 ?_;with_reducible repeat' first|intro h|apply jO)
  all_goals try exact oF
  refine callS.eq (w93 r i hr) ?_
  (refine V0 ?_)
  refine callS.eq (w48 g _ hg) ?_
  rcases bC (hSym g.syms (Zw r i)) with hv|hv
  ·rw[unkR_no hlt hv]
   (refine V1 hv ?_;with_reducible repeat' exact trivial)
  ·(refine V1 hv ?_)
   exact nx ⟨i+1,oT,fun j hj=>by
    rcases Nat.lt_succ_iff_lt_or_eq.1 hj with e|e
    ·exact hn j e
    ·subst e;exact hv⟩ (by simp<;>omega) (by simp[E2]) rfl
 ·obtain rfl:i=r.right.length+1:=by omega
  rw[unkR_ok hn]
  (refine V0 ?_;with_reducible repeat' intro h)
  all_goals try exact oF
theorem w186 (g:Gram) (r:Rul) (hg:ZE g) (hr:Y7 r) (hr3:r.right.length≤3):Pu 186 [Gr g,Ru r] (· = OcS (reqO g r)):=by
 refine Pure.bor ?_
 refine Z5 mxd i186 rfl (by simp) ?_;refine X0 ?_
 (refine V0 ?_;with_reducible repeat' intro h)
 rename_i r0
 refine Y1 mxd (ι:={ x:Nat×Nat // x.2≤r.right.length+1 }) (fun x=>[(2,.rop 2 (Gr g)),(3,.rop 6 (Ru r)),(5,.own x.1.1 2 0 (Zb g r x.1.2).length),(6,I x.1.2)]) (fun x=>[(x.1.1,2,(Zb g r x.1.2).map Occ)]) (fun x=>r.right.length+1-x.1.2) ⟨(r0,0),by simp⟩ (by simp[E2,Zb]) (by simp[subH,ZV,names,Zb]) ?_
 rintro ⟨⟨q,i⟩,hi⟩ hn
 dsimp only at hi hn ⊢
 rcases nL i (r.right.length+1) with hlt|hge
 ·(refine V0 ?_;with_reducible repeat' first|intro h|apply jO)
  all_goals try exact oF
  refine callS.eq (w11 r i hr) ?_
  (refine V0 ?_)
  refine callS.eq (w10 g _ hg) ?_
  have hbl:=reqA_len hg r i
  have hst:Zb g r (i+1)=Zb g r i++((((Zy g.syms (Zw r i)).atts.filter fun a=>decide (a.mode=if i=0 then 2 else 1)).map fun a=>((i:Int),a.name))):=rfl
  have hsm:=YR hg (Zw r i)
  unfold Yy at hsm
  generalize Zy g.syms (Zw r i)=s at *
  by_cases h0:i=0
  ·have hi1:((i:Int)=0)=True:=eq_true oT
   rw[if_pos h0] at hst
   (refine V1 (jO hi1 @decide_true) ?_)
   obtain ⟨F,hF⟩:∃F:Nat→List Oc,∀k,F k=Zb g r i++(((s.atts.take k).filter fun a=>decide (a.mode=2)).map fun a=>((i:Int),a.name)):=⟨_,fun _ => rfl⟩
   have hF0:F 0=Zb g r i:=by rw[hF];simp
   have hFe:F s.atts.length=Zb g r (i+1):=by rw[hF,hst,List.take_length]
   have hFs:∀k (hk:k<s.atts.length),F (k+1)=F k++(if s.atts[k].mode = 2 then [((i:Int),s.atts[k].name)] else []):=fun k hk=>by
    rw[hF,hF,reqP_take (g:=g) (r:=r) (pos:=i) (m:=2) (by simp[h0]) s.atts hk,List.append_assoc]
   have hFl:∀k,(F k).length ≤ (Zb g r i).length + s.atts.length:=fun k=>by
    have h1:=List.length_filter_le (fun a:Att=>decide (a.mode=2)) (s.atts.take k)
    rw[List.length_take] at h1
    rw[hF,List.length_append,List.length_map];omega
   clear hF
   refine Y1 mxd (ι:={ x:Nat×Nat // x.2≤s.atts.length }) (fun x=>[(2,.rop 2 (Gr g)),(3,.rop 6 (Ru r)),(5,.own x.1.1 2 0 (F x.1.2).length),(6,I i),(7,.rop 2 (Sy s)),(9,I 2),(10,I x.1.2)]) (fun x=>[(x.1.1,2,(F x.1.2).map Occ)]) (fun x=>s.atts.length-x.1.2) ⟨(q,0),by simp⟩ (by simp[E2,hF0]) (by simp[subH,ZV,names,hF0]) ?_
   rintro ⟨⟨q,k⟩,hk⟩ hn
   dsimp only at hk hn ⊢
   have hl1:=hFl k
   rcases nL k s.atts.length with hlt2|hge2
   ·have e:=hFs k hlt2
    rcases Decidable.em (s.atts[k].mode = 2) with hm|hm
    ·rw[if_pos hm] at e
     have el:(F (k+1)).length = (F k).length + 1:=by rw[e];simp
     (refine V1 (jO hm (jO @List.length_append.{0} (jO @List.length_singleton.{0} (jO @List.length_map.{0,0} (jO @List.length_take.{0} @ZM))))) ?_;with_reducible repeat' first|intro h|refine aO ?_|apply jO)
     all_goals try exact oF
     rename_i q2 _ q3
     refine px ⟨(q3,k+1),oT⟩ (by simp<;>omega) (by simp[E2,el]) ?_
     show subH _ [(q3,2,(F (k+1)).map Occ)]
     rw[e,List.map_append,tL (by simp)]
     exact (by repeat' (first|exact trivial|(refine jO (by simp only[Z9, *,if_true,if_false];try rfl) (jO (by simp[ZW,ZU, *]) ?_))))
    ·rw[if_neg hm,List.append_nil] at e
     (refine V1 hm ?_;with_reducible repeat' first|intro h|apply jO)
     all_goals try exact oF
     refine px ⟨(q,k+1),oT⟩ (by simp<;>omega) (by simp[E2,e]) ?_
     show subH _ [(q,2,(F (k+1)).map Occ)]
     rw[e]
     exact (by repeat' (first|exact trivial|(refine jO (by simp only[Z9, *,if_true,if_false];try rfl) (jO (by simp[ZW,ZU, *]) ?_))))
   ·obtain rfl:k=s.atts.length:=by omega
    rw[hFe]
    (refine V0 ?_;with_reducible repeat' intro h)
    all_goals try exact oF
    exact px ⟨(q,i+1),oT⟩ (by simp<;>omega) (by simp[E2]) (by repeat' (first|exact trivial|(refine jO (by simp only[Z9, *,if_true,if_false];try rfl) (jO (by simp[ZW,ZU, *]) ?_))))
  ·have hi1:((i:Int)=0)=False:=eq_false oT
   rw[if_neg h0] at hst
   (refine V1 (jO hi1 @decide_false) ?_)
   obtain ⟨F,hF⟩:∃F:Nat→List Oc,∀k,F k=Zb g r i++(((s.atts.take k).filter fun a=>decide (a.mode=1)).map fun a=>((i:Int),a.name)):=⟨_,fun _ => rfl⟩
   have hF0:F 0=Zb g r i:=by rw[hF];simp
   have hFe:F s.atts.length=Zb g r (i+1):=by rw[hF,hst,List.take_length]
   have hFs:∀k (hk:k<s.atts.length),F (k+1)=F k++(if s.atts[k].mode = 1 then [((i:Int),s.atts[k].name)] else []):=fun k hk=>by
    rw[hF,hF,reqP_take (g:=g) (r:=r) (pos:=i) (m:=1) (by simp[h0]) s.atts hk,List.append_assoc]
   have hFl:∀k,(F k).length ≤ (Zb g r i).length + s.atts.length:=fun k=>by
    have h1:=List.length_filter_le (fun a:Att=>decide (a.mode=1)) (s.atts.take k)
    rw[List.length_take] at h1
    rw[hF,List.length_append,List.length_map];omega
   clear hF
   refine Y1 mxd (ι:={ x:Nat×Nat // x.2≤s.atts.length }) (fun x=>[(2,.rop 2 (Gr g)),(3,.rop 6 (Ru r)),(5,.own x.1.1 2 0 (F x.1.2).length),(6,I i),(7,.rop 2 (Sy s)),(9,I 1),(10,I x.1.2)]) (fun x=>[(x.1.1,2,(F x.1.2).map Occ)]) (fun x=>s.atts.length-x.1.2) ⟨(q,0),by simp⟩ (by simp[E2,hF0]) (by simp[subH,ZV,names,hF0]) ?_
   rintro ⟨⟨q,k⟩,hk⟩ hn
   dsimp only at hk hn ⊢
   have hl1:=hFl k
   rcases nL k s.atts.length with hlt2|hge2
   ·have e:=hFs k hlt2
    rcases Decidable.em (s.atts[k].mode = 1) with hm|hm
    ·rw[if_pos hm] at e
     have el:(F (k+1)).length = (F k).length + 1:=by rw[e];simp
     (refine V1 (jO hm (jO @List.length_append.{0} (jO @List.length_singleton.{0} (jO @List.length_map.{0,0} (jO @List.length_take.{0} @ZM))))) ?_;with_reducible repeat' first|intro h|refine aO ?_|apply jO)
     all_goals try exact oF
     rename_i q2 _ q3
     refine px ⟨(q3,k+1),oT⟩ (by simp<;>omega) (by simp[E2,el]) ?_
     show subH _ [(q3,2,(F (k+1)).map Occ)]
     rw[e,List.map_append,tL (by simp)]
     exact (by repeat' (first|exact trivial|(refine jO (by simp only[Z9, *,if_true,if_false];try rfl) (jO (by simp[ZW,ZU, *]) ?_))))
    ·rw[if_neg hm,List.append_nil] at e
     (refine V1 hm ?_;with_reducible repeat' first|intro h|apply jO)
     all_goals try exact oF
     refine px ⟨(q,k+1),oT⟩ (by simp<;>omega) (by simp[E2,e]) ?_
     show subH _ [(q,2,(F (k+1)).map Occ)]
     rw[e]
     exact (by repeat' (first|exact trivial|(refine jO (by simp only[Z9, *,if_true,if_false];try rfl) (jO (by simp[ZW,ZU, *]) ?_))))
   ·obtain rfl:k=s.atts.length:=by omega
    rw[hFe]
    (refine V0 ?_;with_reducible repeat' intro h)
    all_goals try exact oF
    exact px ⟨(q,i+1),oT⟩ (by simp<;>omega) (by simp[E2]) (by repeat' (first|exact trivial|(refine jO (by simp only[Z9, *,if_true,if_false];try rfl) (jO (by simp[ZW,ZU, *]) ?_))))
 ·obtain rfl:i=r.right.length+1:=by omega
  (refine V0 ?_;with_reducible repeat' intro h)
  all_goals try exact oF
  exact bor_OcS ZZ rfl
theorem w135 (g:Gram) (r:Rul) (hg:ZE g) (hr:Y7 r) (hr3:r.right.length≤3):Pu 135 [Gr g,Ru r] (· = OcS (reqO g r)):=by
 refine Pure.bor ?_
 refine Z5 mxd i135 rfl (by simp) ?_;refine X0 ?_
 (refine V0 ?_;with_reducible repeat' intro h)
 all_goals try exact oF
 rename_i r0
 refine Y1 mxd (ι:={ x:Nat×Nat // x.2≤r.right.length+1 }) (fun x=>[(2,.rop 2 (Gr g)),(3,.rop 6 (Ru r)),(5,.own x.1.1 2 0 (Zb g r x.1.2).length),(16,I ((r.right.length:Int)+1)),(17,I x.1.2)]) (fun x=>[(x.1.1,2,(Zb g r x.1.2).map Occ)]) (fun x=>r.right.length+1-x.1.2) ⟨(r0,0),by simp⟩ (by simp[E2,Zb]) (by simp[subH,ZV,names,Zb]) ?_
 rintro ⟨⟨q,i⟩,hi⟩ hn
 dsimp only at hi hn ⊢
 rcases nL i (r.right.length+1) with hlt|hge
 ·have hbl:=reqA_len hg r i
  have hst:Zb g r (i+1)=Zb g r i++((((Zy g.syms (Zw r i)).atts.filter fun a=>decide (a.mode=if i=0 then 2 else 1)).map fun a=>((i:Int),a.name))):=rfl
  have hsm:=YR hg (Zw r i)
  unfold Yy at hsm
  by_cases h0:i=0
  ·have hi1:((i:Int)=0)=True:=eq_true oT
   rw[if_pos h0] at hst
   (refine V1 (jO hi1 @decide_true) ?_;with_reducible repeat' first|intro h|apply jO)
   all_goals try exact oF
   refine callS.eq (w93 r i hr) ?_
   (refine V0 ?_)
   refine callS.eq (w48 g _ hg) ?_
   generalize Zy g.syms (Zw r i)=s at *
   (refine V0 ?_)
   obtain ⟨F,hF⟩:∃F:Nat→List Oc,∀k,F k=Zb g r i++(((s.atts.take k).filter fun a=>decide (a.mode=2)).map fun a=>((i:Int),a.name)):=⟨_,fun _ => rfl⟩
   have hF0:F 0=Zb g r i:=by rw[hF];simp
   have hFe:F s.atts.length=Zb g r (i+1):=by rw[hF,hst,List.take_length]
   have hFs:∀k (hk:k<s.atts.length),F (k+1)=F k++(if s.atts[k].mode = 2 then [((i:Int),s.atts[k].name)] else []):=fun k hk=>by
    rw[hF,hF,reqP_take (g:=g) (r:=r) (pos:=i) (m:=2) (by simp[h0]) s.atts hk,List.append_assoc]
   have hFl:∀k,(F k).length ≤ (Zb g r i).length + s.atts.length:=fun k=>by
    have h1:=List.length_filter_le (fun a:Att=>decide (a.mode=2)) (s.atts.take k)
    rw[List.length_take] at h1
    rw[hF,List.length_append,List.length_map];omega
   clear hF
   refine Y1 mxd (ι:={ x:Nat×Nat // x.2≤s.atts.length }) (fun x=>[(2,.rop 2 (Gr g)),(3,.rop 6 (Ru r)),(5,.own x.1.1 2 0 (F x.1.2).length),(6,I i),(7,I 2),(16,I ((r.right.length:Int)+1)),(17,I i),(31,AtS s.atts),(32,I s.atts.length),(33,I x.1.2)]) (fun x=>[(x.1.1,2,(F x.1.2).map Occ)]) (fun x=>s.atts.length-x.1.2) ⟨(q,0),by simp⟩ (by simp[E2,hF0]) (by simp[subH,ZV,names,hF0]) ?_
   rintro ⟨⟨q,k⟩,hk⟩ hn
   dsimp only at hk hn ⊢
   have hl1:=hFl k
   rcases nL k s.atts.length with hlt2|hge2
   ·have e:=hFs k hlt2
    rcases Decidable.em (s.atts[k].mode = 2) with hm|hm
    ·rw[if_pos hm] at e
     have el:(F (k+1)).length = (F k).length + 1:=by rw[e];simp
     (refine V1 (jO hm (jO @List.length_append.{0} (jO @List.length_singleton.{0} (jO @List.length_map.{0,0} (jO @List.length_take.{0} @ZM))))) ?_;with_reducible repeat' first|intro h|refine aO ?_|apply jO)
     all_goals try exact oF
     rename_i q2 _ q3
     refine px ⟨(q3,k+1),oT⟩ (by simp<;>omega) (by simp[E2,el]) ?_
     show subH _ [(q3,2,(F (k+1)).map Occ)]
     rw[e,List.map_append,tL (by simp)]
     exact (by repeat' (first|exact trivial|(refine jO (by simp only[Z9, *,if_true,if_false];try rfl) (jO (by simp[ZW,ZU, *]) ?_))))
    ·rw[if_neg hm,List.append_nil] at e
     (refine V1 hm ?_;with_reducible repeat' first|intro h|apply jO)
     all_goals try exact oF
     refine px ⟨(q,k+1),oT⟩ (by simp<;>omega) (by simp[E2,e]) ?_
     show subH _ [(q,2,(F (k+1)).map Occ)]
     rw[e]
     exact (by repeat' (first|exact trivial|(refine jO (by simp only[Z9, *,if_true,if_false];try rfl) (jO (by simp[ZW,ZU, *]) ?_))))
   ·obtain rfl:k=s.atts.length:=by omega
    rw[hFe]
    (refine V0 ?_;with_reducible repeat' intro h)
    all_goals try exact oF
    exact px ⟨(q,i+1),oT⟩ (by simp<;>omega) (by simp[E2]) (by repeat' (first|exact trivial|(refine jO (by simp only[Z9, *,if_true,if_false];try rfl) (jO (by simp[ZW,ZU, *]) ?_))))
  ·have hi1:((i:Int)=0)=False:=eq_false oT
   rw[if_neg h0] at hst
   (refine V1 (jO hi1 @decide_false) ?_;with_reducible repeat' first|intro h|apply jO)
   all_goals try exact oF
   refine callS.eq (w93 r i hr) ?_
   (refine V0 ?_)
   refine callS.eq (w48 g _ hg) ?_
   generalize Zy g.syms (Zw r i)=s at *
   (refine V0 ?_)
   obtain ⟨F,hF⟩:∃F:Nat→List Oc,∀k,F k=Zb g r i++(((s.atts.take k).filter fun a=>decide (a.mode=1)).map fun a=>((i:Int),a.name)):=⟨_,fun _ => rfl⟩
   have hF0:F 0=Zb g r i:=by rw[hF];simp
   have hFe:F s.atts.length=Zb g r (i+1):=by rw[hF,hst,List.take_length]
   have hFs:∀k (hk:k<s.atts.length),F (k+1)=F k++(if s.atts[k].mode = 1 then [((i:Int),s.atts[k].name)] else []):=fun k hk=>by
    rw[hF,hF,reqP_take (g:=g) (r:=r) (pos:=i) (m:=1) (by simp[h0]) s.atts hk,List.append_assoc]
   have hFl:∀k,(F k).length ≤ (Zb g r i).length + s.atts.length:=fun k=>by
    have h1:=List.length_filter_le (fun a:Att=>decide (a.mode=1)) (s.atts.take k)
    rw[List.length_take] at h1
    rw[hF,List.length_append,List.length_map];omega
   clear hF
   refine Y1 mxd (ι:={ x:Nat×Nat // x.2≤s.atts.length }) (fun x=>[(2,.rop 2 (Gr g)),(3,.rop 6 (Ru r)),(5,.own x.1.1 2 0 (F x.1.2).length),(6,I i),(7,I 1),(16,I ((r.right.length:Int)+1)),(17,I i),(31,AtS s.atts),(32,I s.atts.length),(33,I x.1.2)]) (fun x=>[(x.1.1,2,(F x.1.2).map Occ)]) (fun x=>s.atts.length-x.1.2) ⟨(q,0),by simp⟩ (by simp[E2,hF0]) (by simp[subH,ZV,names,hF0]) ?_
   rintro ⟨⟨q,k⟩,hk⟩ hn
   dsimp only at hk hn ⊢
   have hl1:=hFl k
   rcases nL k s.atts.length with hlt2|hge2
   ·have e:=hFs k hlt2
    rcases Decidable.em (s.atts[k].mode = 1) with hm|hm
    ·rw[if_pos hm] at e
     have el:(F (k+1)).length = (F k).length + 1:=by rw[e];simp
     (refine V1 (jO hm (jO @List.length_append.{0} (jO @List.length_singleton.{0} (jO @List.length_map.{0,0} (jO @List.length_take.{0} @ZM))))) ?_;with_reducible repeat' first|intro h|refine aO ?_|apply jO)
     all_goals try exact oF
     rename_i q2 _ q3
     refine px ⟨(q3,k+1),oT⟩ (by simp<;>omega) (by simp[E2,el]) ?_
     show subH _ [(q3,2,(F (k+1)).map Occ)]
     rw[e,List.map_append,tL (by simp)]
     exact (by repeat' (first|exact trivial|(refine jO (by simp only[Z9, *,if_true,if_false];try rfl) (jO (by simp[ZW,ZU, *]) ?_))))
    ·rw[if_neg hm,List.append_nil] at e
     (refine V1 hm ?_;with_reducible repeat' first|intro h|apply jO)
     all_goals try exact oF
     refine px ⟨(q,k+1),oT⟩ (by simp<;>omega) (by simp[E2,e]) ?_
     show subH _ [(q,2,(F (k+1)).map Occ)]
     rw[e]
     exact (by repeat' (first|exact trivial|(refine jO (by simp only[Z9, *,if_true,if_false];try rfl) (jO (by simp[ZW,ZU, *]) ?_))))
   ·obtain rfl:k=s.atts.length:=by omega
    rw[hFe]
    (refine V0 ?_;with_reducible repeat' intro h)
    all_goals try exact oF
    exact px ⟨(q,i+1),oT⟩ (by simp<;>omega) (by simp[E2]) (by repeat' (first|exact trivial|(refine jO (by simp only[Z9, *,if_true,if_false];try rfl) (jO (by simp[ZW,ZU, *]) ?_))))
 ·obtain rfl:i=r.right.length+1:=by omega
  (refine V0 ?_;with_reducible repeat' intro h)
  all_goals try exact oF
  exact bor_OcS ZZ rfl
theorem w136 (r:Rul) (o:Oc) (hr:Y7 r):Pu 136 [Occ o,.rop 6 (Ru r)] (· = B (!(YC r o).isSome)):=by
 refine Z5 mxd i136 rfl (by simp) ?_;refine X0 ?_
 (refine V0 ?_)
 refine callS.eq (w137 r.eqs 138 [.rop 2 (Occ o)] (fun q=>decide (q.pos=o.1∧q.name=o.2)) fun x _ => w138 x o) ?_
 rw[←eqnF_any]
 (refine V0 ?_;with_reducible repeat' exact trivial)
theorem w84 (g:Gram) (r:Rul) (hg:ZE g) (hr:Y7 r) (hr3:r.right.length≤3):Pu 84 [Gr g,Ru r] (· = B (misR g r)):=by
 refine Z5 mxd i84 rfl (by simp) ?_;refine X0 ?_
 (refine V0 ?_)
 refine callS.eq (w135 g r hg hr hr3) ?_
 (refine V0 ?_)
 refine callS.eq (w134 (reqO g r) 136 [.rop 6 (Ru r)] (fun o=> !(YC r o).isSome) fun x _ => w136 r x hr) ?_
 (refine V0 ?_)
 rfl
theorem w149 (g:Gram) (r:Rul) (hg:ZE g) (hr:Y7 r) (hr3:r.right.length≤3):Pu 149 [Gr g,Ru r] (· = B (misR g r)):=by
 have hbl:=reqA_len hg r (r.right.length+1)
 have hrq:reqO g r=Zb g r (r.right.length+1):=rfl
 rw[←hrq] at hbl
 have hmr:misR g r=(reqO g r).any fun o=> !(YC r o).isSome := rfl
 rw[hmr]
 refine Z5 mxd i149 rfl (by simp) ?_;refine X0 ?_
 (refine V0 ?_)
 refine callS.eq (w186 g r hg hr hr3) ?_
 generalize reqO g r=L at *
 (refine V0 ?_)
 refine ZL mxd (ι:={ i:Nat // i≤L.length∧∀o∈L.take i,(!(YC r o).isSome)=false }) (fun i=>[(3,.rop 6 (Ru r)),(5,OcS L),(6,I i.1)]) (fun _ => []) (fun i=>L.length-i.1) ⟨0,by simp⟩ (by simp[E2]) rfl ?_
 rintro ⟨i,hi,hn⟩
 rcases nL i L.length with hlt|hge
 ·(refine V0 ?_;with_reducible repeat' first|intro h|apply jO)
  all_goals try exact oF
  refine callS.eq (w211 r L[i] hr) ?_
  rcases (Bool.eq_false_or_eq_true (YC r L[i]).isSome).symm with hv|hv
  ·rw[XW (p:=fun o=> !(YC r o).isSome) hlt (by rw[hv];rfl)]
   (refine V1 (jO hv @XE) ?_;with_reducible repeat' exact trivial)
  ·(refine V1 (jO hv @XE) ?_)
   exact nx ⟨i+1,oT,Zi (p:=fun o=> !(YC r o).isSome) hlt (by rw[hv];rfl) hn⟩ (by simp<;>omega) (by simp[E2]) rfl
 ·obtain rfl:i=L.length:=by omega
  rw[List.take_length] at hn
  rw[any_no (p:=fun o=> !(YC r o).isSome) hn]
  (refine V0 ?_;with_reducible repeat' intro h)
  all_goals try exact oF
theorem w203 (L:List Oc) (y:Oc):Pu 203 [OcS L,Occ y] (· = I (ixI L y)):=by
 refine GCalls.lenA fun hlen=> ?_
 have hlen:=hlen.1.1
 simp only[List.length_map,Zc] at hlen
 refine Z5 mxd i203 rfl (by simp) ?_;refine X0 ?_
 (refine V0 ?_)
 refine ZL mxd (ι:={ i:Nat // i≤L.length∧∀a∈L.take i,decide (a=y)=false }) (fun i=>[(0,OcS L),(3,.rop 2 (Occ y)),(7,I L.length),(8,I i.1)]) (fun _ => []) (fun i=>L.length-i.1) ⟨0,by simp⟩ (by simp[E2]) rfl ?_
 rintro ⟨i,hi,hn⟩
 rcases nL i L.length with hlt|hge
 ·by_cases he:L[i]=y
  ·have he1:y.1=L[i].1 := by rw[he]
   have he2:y.2=L[i].2 := by rw[he]
   have e:ixI L y=i:=YP hlt (by simp[he]) hn
   rw[e]
   (refine V1 (jO he1 he2) ?_;with_reducible repeat' intro h)
   all_goals first|rfl|(exfalso;omega)
  ·(refine V0 ?_;with_reducible repeat' first|intro h|apply jO)
   all_goals first
    | (exfalso;exact he (Prod.ext (Eq.symm (by assumption)) (Eq.symm (by assumption))))
    | (exfalso;omega)
    | exact nx ⟨i+1,oT,Zn hlt (by simp[he]) hn⟩ (by simp<;>omega) (by simp[E2]) rfl
 ·obtain rfl:i=L.length:=by omega
  rw[List.take_length] at hn
  have e:ixI L y = -1:=YO hn
  rw[e]
  (refine V0 ?_;with_reducible repeat' first|intro h|refine aO ?_)
  all_goals first|rfl|(exfalso;omega)
theorem w139 (L:List Oc) (y:Oc):Pu 139 [OcS L,Occ y] (· = B (hasO L y)):=by
 have e:hasO L y=decide (0≤ixI L y):=(any_ix (fun z=>decide (z=y)) L).symm
 rw[e]
 refine Z5 mxd i139 rfl (by simp) ?_;refine X0 ?_
 (refine V0 ?_)
 refine callS.eq (w203 L y) ?_
 (refine V0 ?_;with_reducible repeat' exact trivial)
theorem w212 (L:List Oc) (y:Oc):Pu 212 [OcS L,Occ y] (· = B (hasO L y)):=by
 refine GCalls.lenA fun hlen=> ?_
 have hlen:=hlen.1.1
 simp only[List.length_map,Zc] at hlen
 refine Z5 mxd i212 rfl (by simp) ?_;refine X0 ?_
 (refine V0 ?_)
 refine ZL mxd (ι:={ i:Nat // i≤L.length∧∀a∈L.take i,decide (a=y)=false }) (fun i=>[(0,OcS L),(3,.rop 2 (Occ y)),(5,I i.1)]) (fun _ => []) (fun i=>L.length-i.1) ⟨0,by simp⟩ (by simp[E2]) rfl ?_
 rintro ⟨i,hi,hn⟩
 rcases nL i L.length with hlt|hge
 ·by_cases he:L[i]=y
  ·have he1:L[i].1 = y.1:=by rw[he]
   have he2:L[i].2 = y.2:=by rw[he]
   rw[hasO_hit hlt he]
   (refine V1 (jO he1 he2) ?_;with_reducible repeat' intro h)
   all_goals first|rfl|(exfalso;omega)
  ·(refine V0 ?_;with_reducible repeat' first|intro h|apply jO)
   all_goals first
    | (exfalso;exact he (Prod.ext (by assumption) (by assumption)))
    | (exfalso;omega)
    | exact nx ⟨i+1,oT,Zn hlt (by simp[he]) hn⟩ (by simp<;>omega) (by simp[E2]) rfl
 ·obtain rfl:i=L.length:=by omega
  rw[List.take_length] at hn
  rw[hasO_none hn]
  (refine V0 ?_;with_reducible repeat' first|intro h|refine aO ?_)
  all_goals first|rfl|(exfalso;omega)
theorem w85 (g:Gram) (r:Rul) (hg:ZE g) (hr:Y7 r) (hr3:r.right.length≤3):Pu 85 [Gr g,Ru r] (· = B (extR g r)):=by
 have hel:=hr.2.1
 have hno (i:Nat) (h:i<r.eqs.length):=extR_no (g:=g) (r:=r) (i:=i) h
 have hok:=extR_ok (g:=g) (r:=r)
 refine Z5 mxd i85 rfl (by simp) ?_;refine X0 ?_
 (refine V1 @XE ?_)
 refine callS.eq (w135 g r hg hr hr3) ?_
 generalize reqO g r=L at *
 (refine V1 @XE ?_)
 refine ZL mxd (ι:={ i:Nat // i≤r.eqs.length∧∀j (hj:j<r.eqs.length),j<i→hasO L (atQ r.eqs[j])=true∧hasO ((r.eqs.take j).map atQ) (atQ r.eqs[j])=false }) (fun i=>[(3,.rop 6 (Ru r)),(5,OcS L),(12,QnS r.eqs),(13,I r.eqs.length),(14,I i.1)]) (fun _ => []) (fun i=>r.eqs.length-i.1) ⟨0,by simp⟩ (by simp[E2]) rfl ?_
 rintro ⟨i,hi,hn⟩
 rcases nL i r.eqs.length with hlt|hge
 ·(refine V1 @XE ?_;with_reducible repeat' first|intro h|apply jO)
  all_goals try exact oF
  refine callS.eq (w139 L (atQ r.eqs[i])) ?_
  rcases bC (hasO L (atQ r.eqs[i])) with hv|hv
  ·rw[hno i hlt (.inl hv)]
   (refine V1 (jO hv @XE) ?_;with_reducible repeat' exact trivial)
  ·(refine V1 (jO hv @XE) ?_)
   all_goals try exact oF
   rw[show List.drop (Int.toNat 0) (List.take i (List.map Qn r.eqs))=(r.eqs.take i).map Qn from by simp[List.map_take]]
   refine callS.eq (w137 (r.eqs.take i) 140 [.rop 9 (Qn r.eqs[i])] (fun q=>decide (q.pos=r.eqs[i].pos ∧ q.name=r.eqs[i].name)) fun x _ => w140 x _) ?_
   have e:((r.eqs.take i).any fun q=>decide (q.pos=r.eqs[i].pos ∧ q.name=r.eqs[i].name))=hasO ((r.eqs.take i).map atQ) (atQ r.eqs[i]):=(hasO_map (r.eqs.take i) (atQ r.eqs[i])).symm
   rw[e]
   rcases (Bool.eq_false_or_eq_true (hasO ((r.eqs.take i).map atQ) (atQ r.eqs[i]))).symm with hw|hw
   ·(refine V1 hw ?_)
    exact nx ⟨i+1,oT,fun j hj hji=>by
     rcases Nat.lt_succ_iff_lt_or_eq.1 hji with e|e
     ·exact hn j hj e
     ·subst e;exact ⟨hv,hw⟩⟩ (by simp<;>omega) (by simp[E2]) rfl
   ·rw[hno i hlt (.inr hw)]
    (refine V1 hw ?_;with_reducible repeat' exact trivial)
 ·obtain rfl:i=r.eqs.length:=by omega
  rw[hok fun j hj=>hn j hj hj]
  (refine V0 ?_;with_reducible repeat' intro h)
  all_goals try exact oF
theorem w150 (g:Gram) (r:Rul) (hg:ZE g) (hr:Y7 r) (hr3:r.right.length≤3):Pu 150 [Gr g,Ru r] (· = B (extR g r)):=by
 have hel:=hr.2.1
 have hno (i:Nat) (h:i<r.eqs.length):=extR_no (g:=g) (r:=r) (i:=i) h
 have hok:=extR_ok (g:=g) (r:=r)
 refine Pure.bor ?_
 refine Z5 mxd i150 rfl (by simp) ?_;refine X0 ?_
 (refine V1 @XE ?_)
 refine callS.eq (w186 g r hg hr hr3) ?_
 generalize reqO g r=L at *
 (refine V1 @XE ?_;with_reducible repeat' intro h)
 rename_i r0
 refine Y1 mxd (ι:={ x:Nat×Nat // x.2≤r.eqs.length∧∀j (hj:j<r.eqs.length),j<x.2→hasO L (atQ r.eqs[j])=true∧hasO ((r.eqs.take j).map atQ) (atQ r.eqs[j])=false }) (fun x=>[(3,.rop 6 (Ru r)),(5,OcS L),(6,.own x.1.1 2 0 x.1.2),(7,I x.1.2)]) (fun x=>[(x.1.1,2,((r.eqs.take x.1.2).map atQ).map Occ)]) (fun x=>r.eqs.length-x.1.2) ⟨(r0,0),by simp⟩ (by simp[E2]) (by simp[subH,ZV,names]) ?_
 rintro ⟨⟨q,i⟩,hi,hn⟩ -
 dsimp only at hi hn ⊢
 rcases nL i r.eqs.length with hlt|hge
 ·(refine V1 @XE ?_;with_reducible repeat' first|intro h|apply jO)
  all_goals try exact oF
  refine callS.eq (w212 L (atQ r.eqs[i])) ?_
  rcases bC (hasO L (atQ r.eqs[i])) with hv|hv
  ·rw[hno i hlt (.inl hv)]
   (refine V1 (jO hv @XE) ?_)
   exact .refl
  ·(refine V1 (jO hv @XE) ?_)
   all_goals try exact oF
   refine callS.borA (w212 ((r.eqs.take i).map atQ) (atQ r.eqs[i])) (.cons (bor_OcS ZZ (by simp<;>omega)) (.cons .refl .nil)) rfl ?_
   rcases (Bool.eq_false_or_eq_true (hasO ((r.eqs.take i).map atQ) (atQ r.eqs[i]))).symm with hw|hw
   ·(refine V1 (jO hw (jO @XE (jO @List.length_append.{0} (jO @List.length_singleton.{0} (jO @List.length_map.{0,0} (jO @List.length_take.{0} @ZM)))))) ?_;with_reducible repeat' first|intro h|refine aO ?_)
    all_goals try exact oF
    rename_i q2 _ q3
    have e:=Yg Occ atQ r.eqs i hlt
    simp only[atQ] at e
    rw[e]
    exact px ⟨(q3,i+1),oT,fun j hj hji=>by
     rcases Nat.lt_succ_iff_lt_or_eq.1 hji with e|e
     ·exact hn j hj e
     ·subst e;exact ⟨hv,hw⟩⟩ (by simp<;>omega) (by simp[E2]) (by repeat' (first|exact trivial|(refine jO (by simp only[Z9, *,if_true,if_false];try rfl) (jO (by simp[ZW,ZU, *]) ?_))))
   ·rw[hno i hlt (.inr hw)]
    (refine V1 hw ?_)
    exact .refl
 ·obtain rfl:i=r.eqs.length:=by omega
  rw[hok fun j hj=>hn j hj hj]
  (refine V0 ?_;with_reducible repeat' intro h)
  all_goals first|(exfalso;omega)|exact .refl
theorem w97 (r:Rul) (hr:Y7 r):Pu 97 [Ru r] (· = ExS (expR r)):=by
 obtain ⟨m1,m2,m3,m4,m5⟩:=hr
 refine Pure.bor ?_
 refine Z5 mxd i97 rfl (by simp) ?_;refine X0 ?_
 (refine V1 @XE ?_;with_reducible repeat' intro h)
 rename_i r0
 refine Y1 mxd (ι:={ x:Nat×Nat // x.2≤r.eqs.length }) (fun x=>[(1,.rop 6 (Ru r)),(3,.own x.1.1 7 0 x.1.2),(10,QnS r.eqs),(11,I r.eqs.length),(12,I x.1.2)]) (fun x=>[(x.1.1,7,((r.eqs.take x.1.2).map (·.expr)).map Ex)]) (fun x=>r.eqs.length-x.1.2) ⟨(r0,0),by simp⟩ (by simp[E2]) (by simp[subH,ZV,names]) ?_
 rintro ⟨⟨q,i⟩,hi⟩ -
 dsimp only at hi ⊢
 rcases nL i r.eqs.length with hlt|hge
 ·(refine V1 (jO @XE (jO @List.length_append.{0} (jO @List.length_singleton.{0} (jO @List.length_map.{0,0} (jO @List.length_take.{0} @ZM))))) ?_;with_reducible repeat' first|intro h|refine aO ?_|apply jO)
  all_goals try exact oF
  rename_i q2 _ q3
  rw[Yg Ex (·.expr) r.eqs i hlt]
  exact px ⟨(q3,i+1),oT⟩ (by simp<;>omega) (by simp[E2]) (by repeat' (first|exact trivial|(refine jO (by simp only[Z9, *,if_true,if_false];try rfl) (jO (by simp[ZW,ZU, *]) ?_))))
 ·obtain rfl:i=r.eqs.length:=by omega
  rw[List.take_length]
  (refine V1 @XE ?_;with_reducible repeat' intro h)
  all_goals try exact oF
  refine Y1 mxd (ι:={ x:Nat×Nat // x.2≤r.cons.length }) (fun x=>[(3,.own x.1.1 7 0 (r.eqs.length+2 * x.1.2)),(23,CoS r.cons),(24,I r.cons.length),(25,I x.1.2)]) (fun x=>[(x.1.1,7,(r.eqs.map (·.expr)++cfl (r.cons.take x.1.2)).map Ex)]) (fun x=>r.cons.length-x.1.2) ⟨(q,0),by simp⟩ (by simp[E2]) (by simp[subH,ZV,names,cfl]) ?_
  rintro ⟨⟨q,i⟩,hi⟩ -
  dsimp only at hi ⊢
  rcases nL i r.cons.length with hlt|hge
  ·have hcl:=cfl_len (r.cons.take i)
   rw[List.length_take,Nat.min_eq_left oT] at hcl
   (refine V1 (jO @XE (jO hcl (jO @List.length_append.{0} (jO @List.length_cons.{0} (jO @List.length_nil.{0} (jO @List.length_singleton.{0} (jO @List.length_map.{0,0} (jO @List.length_take.{0} @ZM)))))))) ?_;with_reducible repeat' first|intro h|apply jO)
   all_goals try exact oF
   rename_i q2
   rw[soT_E2]
   (refine V1 (jO h (jO @XE (jO hcl (jO @List.length_append.{0} (jO @List.length_cons.{0} (jO @List.length_nil.{0} (jO @List.length_singleton.{0} (jO @List.length_map.{0,0} (jO @List.length_take.{0} @ZM))))))))) ?_;with_reducible repeat' intro h)
   all_goals try exact oF
   rename_i q3
   rw[show List.take (r.eqs.length+2 * i) (List.map Ex (List.map (fun x=>x.expr) r.eqs++cfl (r.cons.take i)))=List.map Ex (List.map (fun x=>x.expr) r.eqs++cfl (r.cons.take i)) from tL (by simp[hcl])]
   refine px ⟨(q3,i+1),oT⟩ (by simp<;>omega) (by simp[E2]<;>omega) ?_
   rw[cfl_step hlt,←List.append_assoc,List.map_append (l₁:= _ ++ _)]
   exact (by repeat' (first|exact trivial|(refine jO (by simp only[Z9, *,if_true,if_false];try rfl) (jO (by simp[ZW,ZU, *]) ?_))))
  ·obtain rfl:i=r.cons.length:=by omega
   rw[List.take_length]
   (refine V1 @XE ?_;with_reducible repeat' intro h)
   all_goals try exact oF
   exact bor_ExS ZZ (by rw[expR_eq];simp[cfl_len])
theorem w143 (g:Gram) (r:Rul) (o:Oc) (hg:ZE g) (hr:Y7 r):Pu 143 [Occ o,.rop 2 (Gr g),.rop 6 (Ru r)] (· = B (!mayU g r o)):=by
 refine Z5 mxd i143 rfl (by simp) ?_;refine X0 ?_
 (refine V0 ?_)
 refine callS.eq (w144 g r o hg hr) ?_
 (refine V0 ?_;with_reducible repeat' exact trivial)
theorem w141 (g:Gram) (r:Rul) (e:Exp) (hg:ZE g) (hr:Y7 r) (hw:wEx e≤1048576):Pu 141 [Ex e,.rop 2 (Gr g),.rop 6 (Ru r)] (· = B (Yw g r e)):=by
 refine Z5 mxd i141 rfl (by simp) ?_;refine X0 ?_
 (refine V1 @XE ?_)
 refine callS.eq (q142 e hw) ?_
 (refine V1 @XE ?_)
 refine callS.eq (w134 (usE e []) 143 [.rop 2 (Gr g),.rop 6 (Ru r)] (fun o=> !mayU g r o) fun x _ => w143 g r x hg hr) ?_
 (refine V0 ?_)
 rfl
theorem w86 (g:Gram) (r:Rul) (hg:ZE g) (hr:Y7 r):Pu 86 [Gr g,Ru r] (· = B (misU g r)):=by
 refine Z5 mxd i86 rfl (by simp) ?_;refine X0 ?_
 (refine V0 ?_)
 refine callS.eq (w97 r hr) ?_
 (refine V0 ?_)
 refine callS.eq (w96 (expR r) 141 [.rop 2 (Gr g),.rop 6 (Ru r)] (Yw g r) fun x hx=>w141 g r x hg hr (expR_sm hr x hx)) ?_
 (refine V0 ?_)
 rfl
theorem w213 (g:Gram) (r:Rul) (e:Exp) (hg:ZE g) (hr:Y7 r) (hw:wEx e≤1048576):Pu 213 [Gr g,Ru r,Ex e] (· = B (!Yw g r e)):=by
 have hul:=usE_sm hw
 have hub:Yw g r e=(usE e []).any fun o=> !mayU g r o:=rfl
 rw[hub]
 refine Z5 mxd i213 rfl (by simp) ?_;refine X0 ?_
 (refine V1 @XE ?_)
 refine callS.eq (w183 e hw) ?_
 generalize usE e []=L at *
 (refine V1 @XE ?_)
 refine ZL mxd (ι:={ i:Nat // i≤L.length∧∀o∈L.take i,(!mayU g r o)=false }) (fun i=>[(3,.rop 2 (Gr g)),(4,.rop 6 (Ru r)),(7,OcS L),(8,I i.1)]) (fun _ => []) (fun i=>L.length-i.1) ⟨0,by simp⟩ (by simp[E2]) rfl ?_
 rintro ⟨i,hi,hn⟩
 rcases nL i L.length with hlt|hge
 ·(refine V0 ?_;with_reducible repeat' first|intro h|apply jO)
  all_goals try exact oF
  refine callS.eq (w242 g r L[i] hg hr) ?_
  rcases bC (mayU g r L[i]) with hv|hv
  ·rw[XW (p:=fun o=> !mayU g r o) hlt (by rw[hv];rfl)]
   (refine V1 hv ?_;with_reducible repeat' exact trivial)
  ·(refine V1 hv ?_)
   exact nx ⟨i+1,oT,Zi (p:=fun o=> !mayU g r o) hlt (by rw[hv];rfl) hn⟩ (by simp<;>omega) (by simp[E2]) rfl
 ·obtain rfl:i=L.length:=by omega
  rw[List.take_length] at hn
  rw[any_no (p:=fun o=> !mayU g r o) hn]
  (refine V0 ?_;with_reducible repeat' intro h)
  all_goals try exact oF
theorem w151 (g:Gram) (r:Rul) (hg:ZE g) (hr:Y7 r):Pu 151 [Gr g,Ru r] (· = B (misU g r)):=by
 obtain ⟨m1,m2,m3,m4,m5⟩:=id hr
 refine Z5 mxd i151 rfl (by simp) ?_;refine X0 ?_
 (refine V0 ?_)
 refine ZL mxd (ι:={ i:Nat // i≤r.eqs.length∧∀q∈r.eqs.take i,Yw g r q.expr=false }) (fun i=>[(2,.rop 2 (Gr g)),(3,.rop 6 (Ru r)),(5,I i.1)]) (fun _ => []) (fun i=>r.eqs.length-i.1) ⟨0,by simp⟩ (by simp[E2]) rfl ?_
 rintro ⟨i,hi,hn⟩
 rcases nL i r.eqs.length with hlt|hge
 ·(refine V1 @XE ?_;with_reducible repeat' first|intro h|apply jO)
  all_goals try exact oF
  refine callS.eq (w213 g r r.eqs[i].expr hg hr (m4 _ (gM hlt))) ?_
  rcases bC (Yw g r r.eqs[i].expr) with hv|hv
  ·(refine V1 hv ?_)
   exact nx ⟨i+1,oT,Zi (p:=fun q:Eqn=>Yw g r q.expr) hlt hv hn⟩ (by simp<;>omega) (by simp[E2]) rfl
  ·rw[misU_e hlt hv]
   (refine V1 hv ?_;with_reducible repeat' exact trivial)
 ·obtain rfl:i=r.eqs.length:=by omega
  rw[List.take_length] at hn
  (refine V0 ?_;with_reducible repeat' intro h)
  all_goals try exact oF
  refine ZL mxd (ι:={ i:Nat // i≤r.cons.length∧∀c∈r.cons.take i,(Yw g r c.goal||Yw g r c.value)=false }) (fun i=>[(2,.rop 2 (Gr g)),(3,.rop 6 (Ru r)),(6,I i.1)]) (fun _ => []) (fun i=>r.cons.length-i.1) ⟨0,by simp⟩ (by simp[E2]) rfl ?_
  rintro ⟨i,hi,hn2⟩
  rcases nL i r.cons.length with hlt|hge
  ·have hc:=m5 _ (gM hlt)
   (refine V1 @XE ?_;with_reducible repeat' first|intro h|apply jO)
   all_goals try exact oF
   refine callS.eq (w213 g r r.cons[i].goal hg hr hc.1) ?_
   rcases bC (Yw g r r.cons[i].goal) with hv|hv
   ·(refine V1 (jO hv @XE) ?_)
    refine callS.eq (w213 g r r.cons[i].value hg hr hc.2) ?_
    rcases bC (Yw g r r.cons[i].value) with hw|hw
    ·(refine V1 hw ?_)
     exact nx ⟨i+1,oT,Zi (p:=fun c:Con=>Yw g r c.goal||Yw g r c.value) hlt (by rw[hv,hw];rfl) hn2⟩ (by simp<;>omega) (by simp[E2]) rfl
    ·rw[misU_c hlt (.inr hw)]
     (refine V1 hw ?_;with_reducible repeat' exact trivial)
   ·rw[misU_c hlt (.inl hv)]
    (refine V1 hv ?_;with_reducible repeat' exact trivial)
  ·obtain rfl:i=r.cons.length:=by omega
   rw[List.take_length] at hn2
   rw[misU_n hn hn2]
   (refine V0 ?_;with_reducible repeat' intro h)
   all_goals try exact oF
theorem w89 (g:Gram) (r:Rul) (c:Nat) (hg:ZE g) (hr:Y7 r) (hr3:r.right.length≤3):Pu 89 [Gr g,Ru r,I c] (· = B (brk g r c)):=by
 simp only[brk]
 refine Z5 mxd i89 rfl (by simp) ?_;refine X0 ?_
 by_cases e3:c=3
 ·have i3:((c:Int)=3)=True:=eq_true oT
  rw[if_pos e3]
  (refine V1 (jO i3 @decide_true) ?_)
  refine callS.eq (w148 g r hg hr) ?_
  (refine V0 ?_;with_reducible repeat' exact trivial)
  all_goals simp
 ·have i3:((c:Int)=3)=False:=eq_false oT
  rw[if_neg e3]
  by_cases e4:c=4
  ·have i4:((c:Int)=4)=True:=eq_true oT
   rw[if_pos e4]
   (refine V1 (jO i3 (jO i4 (jO @decide_true @decide_false))) ?_;with_reducible repeat' intro h)
   refine callS.eq (w149 g r hg hr hr3) ?_
   (refine V0 ?_;with_reducible repeat' exact trivial)
  ·have i4:((c:Int)=4)=False:=eq_false oT
   rw[if_neg e4]
   by_cases e5:c=5
   ·have i5:((c:Int)=5)=True:=eq_true oT
    rw[if_pos e5]
    (refine V1 (jO i3 (jO i4 (jO i5 (jO @decide_true @decide_false)))) ?_;with_reducible repeat' intro h)
    refine callS.eq (w150 g r hg hr hr3) ?_
    (refine V0 ?_;with_reducible repeat' exact trivial)
   ·have i5:((c:Int)=5)=False:=eq_false oT
    rw[if_neg e5]
    (refine V1 (jO i3 (jO i4 (jO i5 @decide_false))) ?_;with_reducible repeat' intro h)
    refine callS.eq (w151 g r hg hr) ?_
    (refine V0 ?_;with_reducible repeat' exact trivial)
theorem w37 (g:Gram) (hs:ZE g) (hg:okGr g):Pu 37 [Gr g] (· = .tup [I (shpC g).1,I (shpC g).2]):=by
 obtain ⟨m1,m2,m3,m4⟩:=id hs
 refine Z5 mxd i37 rfl (by simp) ?_;refine X0 ?_
 (refine V0 ?_)
 by_cases h1:(1≤g.syms.length∧g.syms.length≤4)∧(1≤g.rules.length∧g.rules.length≤8)
 ·have a1:((1:Int)≤g.syms.length∧(g.syms.length:Int)≤4):=by omega
  have a2:((1:Int)≤g.rules.length∧(g.rules.length:Int)≤8):=by omega
  (with_reducible repeat' first|refine callS.eq (w47 _ _ _) ?_|exact trivial|refine aO ?_|refine eO ?_|apply jO|refine K1 (jO a1 (jO a2 (jO @and_self @decide_true))) ?_|intro h)
  refine callS.eq (w80 g hs hg) ?_
  by_cases h2:0≤sfI g
  ·rw[shpC_b2 h1 h2]
   (refine V1 (jO h2 (jO @ge_iff_le.{0} @decide_true)) ?_;with_reducible repeat' exact trivial)
  ·have h2':¬sfI g≥0:=h2
   have h00:0<g.syms.length:=by omega
   have e0:g.syms.getD 0 symZ=g.syms[0]:=Z6 h00
   (refine V1 (jO h2 (jO h2' (jO @ge_iff_le.{0} @decide_false))) ?_)
   all_goals try exact oF
   refine callS.eq (w81 g.syms[0].atts 82 [] (fun a=>decide (a.mode=1)) fun x _ => w82 x) ?_
   rcases bC (g.syms[0].atts.any fun a=>decide (a.mode=1)) with hv|hv
   ·have hG:shpG g:=⟨h1,h2,by rw[e0];exact hv⟩
    (refine V1 hv ?_)
    refine ZL mxd (ι:={ c:Nat // 3≤c∧c≤7∧∀d,3≤d→d<c→brF g d = -1 }) (fun c=>[(1,.rop 2 (Gr g)),(5,I c.1)]) (fun _ => []) (fun c=>7-c.1) ⟨3,oT,oT,fun d h3 h4=>by omega⟩ (by simp[E2]) rfl ?_
    rintro ⟨c,hc3,hc7,hcn⟩
    rcases nL c 7 with hclt|hcge
    ·(refine V0 ?_;with_reducible repeat' first|intro h|apply jO)
     all_goals try exact oF
     refine ZL mxd (ι:={ i:Nat // i≤g.rules.length∧∀j (hj:j<g.rules.length),j<i→brk g g.rules[j] c=false }) (fun i=>[(1,.rop 2 (Gr g)),(5,I c),(37,RuS g.rules),(38,I g.rules.length),(39,I i.1)]) (fun _ => []) (fun i=>g.rules.length-i.1) ⟨0,by simp⟩ (by simp[E2]) rfl ?_
     rintro ⟨i,hi,hn⟩
     rcases nL i g.rules.length with hlt|hge
     ·have hr:=m4 _ (gM hlt)
      have hr3:=rulV_len (rul_ok h2 hlt)
      have hnx (hb:brk g g.rules[i] c=false):∀j (hj:j<g.rules.length),j<i+1→brk g g.rules[j] c=false:=fun j hj hji=>by
       rcases Nat.lt_succ_iff_lt_or_eq.1 hji with e|e
       ·exact hn j hj e
       ·subst e;exact hb
      have hit (hb:brk g g.rules[i] c=true):shpC g=((c:Int),(i:Int)):=shpC_hit hG hc3 oT hcn (brF_hit hlt hb hn)
      rcases (by omega:c=3∨c=4∨c=5∨c=6) with e|e|e|e
      ·have i3:((c:Int)=3)=True:=eq_true oT
       have i4:((c:Int)=4)=False:=eq_false oT
       have i5:((c:Int)=5)=False:=eq_false oT
       have hbk:brk g g.rules[i] c=unkR g g.rules[i]:=by subst e;rfl
       rw[hbk] at hnx hit
       (refine V1 (jO i3 (jO i4 (jO i5 (jO @decide_true @decide_false)))) ?_;with_reducible repeat' first|intro h|apply jO)
       all_goals try exact oF
       refine callS.eq (w83 g g.rules[i] hs hr) ?_
       rcases bC (unkR g g.rules[i]) with hw|hw
       ·(refine V1 hw ?_)
        exact nx ⟨i+1,oT,hnx hw⟩ (by simp<;>omega) (by simp[E2]) rfl
       ·rw[hit hw]
        (refine V1 hw ?_;with_reducible repeat' exact trivial)
      ·have i3:((c:Int)=3)=False:=eq_false oT
       have i4:((c:Int)=4)=True:=eq_true oT
       have i5:((c:Int)=5)=False:=eq_false oT
       have hbk:brk g g.rules[i] c=misR g g.rules[i]:=by subst e;rfl
       rw[hbk] at hnx hit
       (refine V1 (jO i3 (jO i4 (jO i5 (jO @decide_true @decide_false)))) ?_;with_reducible repeat' first|intro h|apply jO)
       all_goals try exact oF
       refine callS.eq (w84 g g.rules[i] hs hr hr3) ?_
       rcases bC (misR g g.rules[i]) with hw|hw
       ·(refine V1 hw ?_)
        exact nx ⟨i+1,oT,hnx hw⟩ (by simp<;>omega) (by simp[E2]) rfl
       ·rw[hit hw]
        (refine V1 hw ?_;with_reducible repeat' exact trivial)
      ·have i3:((c:Int)=3)=False:=eq_false oT
       have i4:((c:Int)=4)=False:=eq_false oT
       have i5:((c:Int)=5)=True:=eq_true oT
       have hbk:brk g g.rules[i] c=extR g g.rules[i]:=by subst e;rfl
       rw[hbk] at hnx hit
       (refine V1 (jO i3 (jO i4 (jO i5 (jO @decide_true @decide_false)))) ?_;with_reducible repeat' first|intro h|apply jO)
       all_goals try exact oF
       refine callS.eq (w85 g g.rules[i] hs hr hr3) ?_
       rcases bC (extR g g.rules[i]) with hw|hw
       ·(refine V1 hw ?_)
        exact nx ⟨i+1,oT,hnx hw⟩ (by simp<;>omega) (by simp[E2]) rfl
       ·rw[hit hw]
        (refine V1 hw ?_;with_reducible repeat' exact trivial)
      ·have i3:((c:Int)=3)=False:=eq_false oT
       have i4:((c:Int)=4)=False:=eq_false oT
       have i5:((c:Int)=5)=False:=eq_false oT
       have hbk:brk g g.rules[i] c=misU g g.rules[i]:=by subst e;rfl
       rw[hbk] at hnx hit
       (refine V1 (jO i3 (jO i4 (jO i5 (jO @decide_true @decide_false)))) ?_;with_reducible repeat' first|intro h|apply jO)
       all_goals try exact oF
       refine callS.eq (w86 g g.rules[i] hs hr) ?_
       rcases bC (misU g g.rules[i]) with hw|hw
       ·(refine V1 hw ?_)
        exact nx ⟨i+1,oT,hnx hw⟩ (by simp<;>omega) (by simp[E2]) rfl
       ·rw[hit hw]
        (refine V1 hw ?_;with_reducible repeat' exact trivial)
     ·obtain rfl:i=g.rules.length:=by omega
      (refine V0 ?_;with_reducible repeat' intro h)
      all_goals try exact oF
      exact nx ⟨c+1,oT,oT,fun d hd3 hd=>by
       rcases Nat.lt_succ_iff_lt_or_eq.1 hd with e|e
       ·exact hcn d hd3 e
       ·subst e;exact brF_none fun j hj=>hn j hj hj⟩ (by simp<;>omega) (by simp[E2]) rfl
    ·obtain rfl:c=7:=by omega
     rw[shpC_none hG hcn]
     (refine V0 ?_;with_reducible repeat' intro h)
     all_goals try exact oF
   ·rw[shpC_b3 h1 h2 (by rw[e0];exact hv)]
    (refine V1 hv ?_;with_reducible repeat' exact trivial)
 ·rw[shpC_b1 h1]
  by_cases a1:((1:Int)≤g.syms.length∧(g.syms.length:Int)≤4)
  ·have a2:¬((1:Int)≤g.rules.length∧(g.rules.length:Int)≤8):=by omega
   (with_reducible repeat' first|refine callS.eq (w47 _ _ _) ?_|exact trivial|refine aO ?_|refine eO ?_|apply jO|refine K1 (jO a1 (jO a2 (jO @and_self (jO @decide_true @decide_false)))) ?_|intro h)
  ·(with_reducible repeat' first|refine callS.eq (w47 _ _ _) ?_|exact trivial|refine aO ?_|refine eO ?_|apply jO|refine K1 (jO a1 (jO @decide_true @decide_false)) ?_|intro h)
theorem w40 (g:Gram) (hs:ZE g) (hg:okGr g):Pu 40 [Gr g] (· = .tup [I (shpC g).1,I (shpC g).2]):=by
 obtain ⟨m1,m2,m3,m4⟩:=id hs
 refine Z5 mxd i40 rfl (by simp) ?_;refine X0 ?_
 (refine V0 ?_)
 by_cases h1:(1≤g.syms.length∧g.syms.length≤4)∧(1≤g.rules.length∧g.rules.length≤8)
 ·have a1:((1:Int)≤g.syms.length∧(g.syms.length:Int)≤4):=by omega
  have a2:((1:Int)≤g.rules.length∧(g.rules.length:Int)≤8):=by omega
  (with_reducible repeat' first|refine callS.eq (w44 _ _ _) ?_|exact trivial|refine aO ?_|refine eO ?_|apply jO|refine K1 (jO a1 (jO a2 (jO @and_self @decide_true))) ?_|intro h)
  refine callS.eq (w88 g hs hg) ?_
  by_cases h2:0≤sfI g
  ·rw[shpC_b2 h1 h2]
   (refine V1 (jO h2 (jO @ge_iff_le.{0} @decide_true)) ?_;with_reducible repeat' exact trivial)
  ·have h2':¬sfI g≥0:=h2
   have h00:0<g.syms.length:=by omega
   have e0:g.syms.getD 0 symZ=g.syms[0]:=Z6 h00
   have hal:=m3 _ (gM h00)
   unfold Yy at hal
   (refine V1 (jO h2 (jO h2' (jO @ge_iff_le.{0} @decide_false))) ?_)
   all_goals try exact oF
   refine ZL mxd (ι:={ i:Nat // i≤g.syms[0].atts.length ∧ ∀a∈g.syms[0].atts.take i,decide (a.mode=1)=false }) (fun i=>[(1,.rop 2 (Gr g)),(5,I i.1)]) (fun _ => []) (fun i=>g.syms[0].atts.length - i.1) ⟨0,by simp⟩ (by simp[E2]) rfl ?_
   rintro ⟨i,hi,hn⟩
   rcases nL i g.syms[0].atts.length with hlt|hge
   ·by_cases hm:g.syms[0].atts[i].mode = 1
    ·rw[shpC_b3 h1 h2 (by rw[e0];exact XW hlt (by simp[hm]))]
     (refine V2 hm ?_;with_reducible repeat' intro h)
     all_goals try exact oF
    ·(refine V2 hm ?_;with_reducible repeat' first|intro h|apply jO)
     all_goals try exact oF
     exact nx ⟨i+1,oT,Zi hlt (by simp[hm]) hn⟩ (by simp<;>omega) (by simp[E2]) rfl
   ·obtain rfl:i=g.syms[0].atts.length := by omega
    rw[List.take_length] at hn
    have hG:shpG g:=⟨h1,h2,by rw[e0];exact any_no hn⟩
    ((try refine qI ?_);(repeat ((first|with_reducible refine qU ?_ | simp only[ZQ]);try simp (maxSteps:=9^7) +contextual only[↓ S2,S2,↓reduceIte,reduceNe,reduceEqDiff,reduceCtorEq,reduceLeDiff,reduceAdd,reduceLT,VQ,Int.reduceToNat]));(try simp +contextual (disch:=omega) only[Z2,Int.reduceToNat]);(with_reducible repeat' (first|intro h|refine jO oT ?_ | refine exP oT ?_ | apply jO)))
    all_goals try exact oF
    refine ZL mxd (ι:={ c:Nat // 3≤c∧c≤7∧∀d,3≤d→d<c→brF g d = -1 }) (fun c=>[(1,.rop 2 (Gr g)),(6,I c.1)]) (fun _ => []) (fun c=>7-c.1) ⟨3,oT,oT,fun d h3 h4=>by omega⟩ (by simp[E2]) rfl ?_
    rintro ⟨c,hc3,hc7,hcn⟩
    rcases nL c 7 with hclt|hcge
    ·(refine V0 ?_;with_reducible repeat' first|intro h|apply jO)
     all_goals try exact oF
     refine ZL mxd (ι:={ i:Nat // i≤g.rules.length∧∀j (hj:j<g.rules.length),j<i→brk g g.rules[j] c=false }) (fun i=>[(1,.rop 2 (Gr g)),(6,I c),(7,I i.1)]) (fun _ => []) (fun i=>g.rules.length-i.1) ⟨0,by simp⟩ (by simp[E2]) rfl ?_
     rintro ⟨i,hi,hn⟩
     rcases nL i g.rules.length with hlt|hge
     ·have hr:=m4 _ (gM hlt)
      have hr3:=rulV_len (rul_ok h2 hlt)
      (refine V0 ?_;with_reducible repeat' first|intro h|apply jO)
      all_goals try exact oF
      refine callS.eq (w89 g g.rules[i] c hs hr hr3) ?_
      rcases bC (brk g g.rules[i] c) with hw|hw
      ·(refine V1 hw ?_)
       exact nx ⟨i+1,oT,fun j hj hji=>by
        rcases Nat.lt_succ_iff_lt_or_eq.1 hji with e|e
        ·exact hn j hj e
        ·subst e;exact hw⟩ (by simp<;>omega) (by simp[E2]) rfl
      ·rw[shpC_hit hG hc3 oT hcn (brF_hit hlt hw hn)]
       (refine V1 hw ?_;with_reducible repeat' exact trivial)
     ·obtain rfl:i=g.rules.length:=by omega
      (refine V0 ?_;with_reducible repeat' intro h)
      all_goals try exact oF
      exact nx ⟨c+1,oT,oT,fun d hd3 hd=>by
       rcases Nat.lt_succ_iff_lt_or_eq.1 hd with e|e
       ·exact hcn d hd3 e
       ·subst e;exact brF_none fun j hj=>hn j hj hj⟩ (by simp<;>omega) (by simp[E2]) rfl
    ·obtain rfl:c=7:=by omega
     rw[shpC_none hG hcn]
     (refine V0 ?_;with_reducible repeat' intro h)
     all_goals try exact oF
 ·rw[shpC_b1 h1]
  by_cases a1:((1:Int)≤g.syms.length∧(g.syms.length:Int)≤4)
  ·have a2:¬((1:Int)≤g.rules.length∧(g.rules.length:Int)≤8):=by omega
   (with_reducible repeat' first|refine callS.eq (w44 _ _ _) ?_|exact trivial|refine aO ?_|refine eO ?_|apply jO|refine K1 (jO a1 (jO a2 (jO @and_self (jO @decide_true @decide_false)))) ?_|intro h)
  ·(with_reducible repeat' first|refine callS.eq (w44 _ _ _) ?_|exact trivial|refine aO ?_|refine eO ?_|apply jO|refine K1 (jO a1 (jO @decide_true @decide_false)) ?_|intro h)
theorem w154 (g:Gram) (s:ByteArray) (hg:ZE g):Pu 154 [Gr g,T s] (· = I (Zt (fun y:Sym=>decide (y.name=s)) g.syms)):=by
 have hl:=hg.1
 refine Z5 mxd i154 rfl (by simp) ?_;refine X0 ?_
 (refine V0 ?_)
 refine ZL mxd (ι:={ i:Nat // i≤g.syms.length∧∀y∈g.syms.take i,decide (y.name=s)=false }) (fun i=>[(1,T s),(2,.rop 2 (Gr g)),(5,I i.1)]) (fun _ => []) (fun i=>g.syms.length-i.1) ⟨0,by simp⟩ (by simp[E2]) rfl ?_
 rintro ⟨i,hi,hn⟩
 rcases nL i g.syms.length with hlt|hge
 ·by_cases he:g.syms[i].name = s
  ·rw[YP hlt (by simp[he]) hn]
   (refine V1 he ?_;with_reducible repeat' intro h)
   all_goals try exact oF
  ·(refine V1 he ?_;with_reducible repeat' first|intro h|apply jO)
   all_goals try exact oF
   exact nx ⟨i+1,oT,Zn hlt (by simp[he]) hn⟩ (by simp<;>omega) (by simp[E2]) rfl
 ·obtain rfl:i=g.syms.length:=by omega
  rw[List.take_length] at hn
  rw[YO hn]
  (refine V0 ?_;with_reducible repeat' first|intro h|refine aO ?_)
  all_goals try exact oF
theorem w215 (g:Gram) (s:ByteArray) (out:List Int) (hg:ZE g) (ho:out.length=g.syms.length):Pu 215 [Gr g,T s,IS out] (· = B (rchS g out s)):=by
 have hl:=hg.1
 have hl2:=hg.2.1
 refine Z5 mxd i215 rfl (by simp) ?_;refine X0 ?_
 (refine V0 ?_)
 refine ZL mxd (ι:={ i:Nat // i≤g.rules.length∧∀r∈g.rules.take i,rchR g out s r=false }) (fun i=>[(1,T s),(2,IS out),(3,.rop 2 (Gr g)),(7,I i.1)]) (fun _ => []) (fun i=>g.rules.length-i.1) ⟨0,by simp⟩ (by simp[E2]) rfl ?_
 rintro ⟨i,hi,hn⟩
 rcases nL i g.rules.length with hlt|hge
 ·have hr:=hg.2.2.2 _ (gM hlt)
  have hrl:=hr.1
  (refine V0 ?_;with_reducible repeat' first|intro h|apply jO)
  all_goals try exact oF
  have hz:decide (g.rules[i].left = s)=rchP g out s g.rules[i] 0:=by simp[rchP]
  refine ZL mxd (ι:={ k:Nat // k≤g.rules[i].right.length }) (fun k=>[(1,T s),(2,IS out),(3,.rop 2 (Gr g)),(7,I i),(8,.rop 6 (Ru g.rules[i])),(9,B (rchP g out s g.rules[i] k.1)),(10,I k.1)]) (fun _ => []) (fun k=>g.rules[i].right.length - k.1) ⟨0,by simp⟩ (by simp[E2,hz]) rfl ?_
  rintro ⟨k,hk⟩
  rcases nL k g.rules[i].right.length with hlt2|hge2
  ·have hst:=rchP_step (g:=g) (out:=out) (s:=s) hlt2
   have hix:=X1 (fun y:Sym=>decide (y.name=g.rules[i].right[k])) g.syms
   have hho:hOf g out g.rules[i].right[k]=if Zt (fun y:Sym=>decide (y.name=g.rules[i].right[k])) g.syms<0 then 0 else out.getD (Zt (fun y:Sym=>decide (y.name=g.rules[i].right[k])) g.syms).toNat 0:=rfl
   (refine V0 ?_;with_reducible repeat' first|intro h|refine aO ?_|apply jO)
   all_goals try exact oF
   refine callS.eq (w154 g g.rules[i].right[k] hg) ?_
   rcases bC (rchP g out s g.rules[i] k) with hv|hv
   ·rw[hv,Bool.false_and] at hst
    (refine V1 hv ?_)
    exact nx ⟨k+1,oT⟩ (by simp<;>omega) (by simp[E2,hst]) rfl
   ·rw[hv,Bool.true_and] at hst
    rcases hix with hx|⟨hx,hx2⟩
    ·rw[hx] at hho ⊢
     rw[if_pos oT] at hho
     rw[hho] at hst
     (refine V2 (jO hv (jO @ge_iff_le.{0} @decide_false)) ?_)
     exact nx ⟨k+1,oT⟩ (by simp<;>omega) (by simp[E2,hst]) rfl
    ·obtain ⟨a,ha⟩:∃a:Nat,Zt (fun y:Sym=>decide (y.name=g.rules[i].right[k])) g.syms=a:=⟨(Zt (fun y:Sym=>decide (y.name=g.rules[i].right[k])) g.syms).toNat,oT⟩
     rw[ha] at hho hx hx2 ⊢
     have ha2:a<out.length:=by omega
     rw[if_neg oT,Int.toNat_natCast,Z6 ha2] at hho
     rw[hho] at hst
     have hmx:max (a:Int) 0=a:=by omega
     (refine V1 (jO hv (jO hx (jO @ge_iff_le.{0} @decide_true))) ?_)
     refine callS.eq (w115 _ _) ?_
     rw[hmx]
     (refine V1 hst ?_)
     all_goals try exact oF
     exact nx ⟨k+1,oT⟩ (by simp<;>omega) (by simp[E2,hst]) rfl
  ·obtain rfl:k=g.rules[i].right.length := by omega
   have he:=rchP_end g out s g.rules[i]
   rcases bC (rchR g out s g.rules[i]) with hw|hw
   ·rw[he,hw]
    (refine V0 ?_;with_reducible repeat' intro h)
    all_goals try exact oF
    exact nx ⟨i+1,oT,Zi hlt hw hn⟩ (by simp<;>omega) (by simp[E2]) rfl
   ·have:rchS g out s=true:=XW hlt hw
    rw[he,hw,this]
    (refine V0 ?_;with_reducible repeat' intro h)
    all_goals try exact oF
 ·obtain rfl:i=g.rules.length:=by omega
  rw[List.take_length] at hn
  have:rchS g out s=false:=any_no hn
  rw[this]
  (refine V0 ?_;with_reducible repeat' intro h)
  all_goals try exact oF
theorem w155 (g:Gram) (hg:ZE g) (h4:g.syms.length≤4):Pu 155 [Gr g] (· = IS (YA g)):=by
 refine Pure.bor ?_
 refine Z5 mxd i155 rfl (by simp) ?_;refine X0 ?_
 (refine V0 ?_;with_reducible repeat' intro h)
 all_goals try exact oF
 rename_i r0
 refine Y1 mxd (ι:={ x:Nat×Nat // x.2≤g.syms.length }) (fun x=>[(1,.rop 2 (Gr g)),(3,.own x.1.1 1 0 g.syms.length),(4,I ((x.1.2:Int)+1))]) (fun x=>[(x.1.1,1,(hIt g x.1.2).map I)]) (fun x=>g.syms.length-x.1.2) ⟨(r0,0),by simp⟩ (by simp[E2]) (by simp[subH,ZV,names,hIt]) ?_
 rintro ⟨⟨q,k⟩,hk⟩ hn0
 dsimp only at hk hn0 ⊢
 have hol:=hIt_len g k
 rcases nL k g.syms.length with hlt|hge
 ·(refine V1 (jO @List.length_map.{0,0} hol) ?_;with_reducible repeat' first|intro h|apply jO)
  all_goals try exact oF
  rename_i q2 hq2 q3
  rw[soT_I hol]
  (refine V1 (jO @List.length_map.{0,0} (jO @List.length_append.{0} (jO @List.length_nil.{0} (jO hol @ZM)))) ?_;with_reducible repeat' intro h)
  all_goals try exact oF
  rename_i r5
  refine Y1 mxd (ι:={ x:Nat×List Int // x.1≤g.syms.length∧nxt g k x.1 x.2 }) (fun x=>[(1,.rop 2 (Gr g)),(3,.own q 1 0 g.syms.length),(4,I ((k:Int)+1)),(5,.own r5 1 0 g.syms.length),(6,I x.1.1)]) (fun x=>[(r5,1,x.1.2.map I),(q,1,(hIt g k).map I)]) (fun x=>g.syms.length-x.1.1) ⟨(0,hIt g k),oT,nxt_0 g k⟩ (by simp[E2]) (by repeat' (first|exact trivial|(refine jO (by simp only[Z9, *,if_true,if_false];try rfl) (jO (by simp[ZW,ZU, *]) ?_)))) ?_
  rintro ⟨⟨i,Y⟩,hi,hY⟩ hn2
  dsimp only at hi hY hn2 ⊢
  (replace hn2:=hn2;simp only[VN] at hn2)
  have hYl:=hY.1
  rcases nL i g.syms.length with hlt2|hge2
  ·have hg1:(hIt g k).getD i 0=(hIt g k)[i]:=Z6 oT
   have hg2:g.syms.getD i symZ=g.syms[i]:=Z6 hlt2
   have hnx:hNext g ((k:Int)+1) (hIt g k) i=if 0<(hIt g k)[i] then (hIt g k)[i] else if rchS g (hIt g k) g.syms[i].name = true then (k:Int)+1 else (hIt g k)[i]:=by simp only[hNext,hg1,hg2]
   have hnn:=hIt_nn g k _ (gM (show i<(hIt g k).length by omega))
   by_cases hz:(hIt g k)[i]=0
   ·rw[if_neg oT] at hnx
    (refine V1 (jO hn2 (jO hz (jO @List.length_map.{0,0} (jO hol (jO hYl @decide_true))))) ?_;with_reducible repeat' first|intro h|apply jO)
    all_goals try exact oF
    refine callS.borA (w215 g g.syms[i].name (hIt g k) hg hol) (.cons .refl (.cons .refl (.cons (X6 (by simp[Z9,hn2]) hol) .nil))) rfl ?_
    rcases bC (rchS g (hIt g k) g.syms[i].name) with hv|hv
    ·rw[hv,if_neg (by simp)] at hnx
     (refine V1 hv ?_)
     exact px ⟨(i+1,Y),oT,nxt_keep hY hlt2 (by rw[hnx,hg1])⟩ (by simp<;>omega) (by simp[E2]) (by repeat' (first|exact trivial|(refine jO (by simp only[Z9, *,if_true,if_false];try rfl) (jO (by simp[ZW,ZU, *]) ?_))))
    ·rw[hv,if_pos rfl] at hnx
     (refine V1 (jO hn2 (jO hv (jO @List.length_map.{0,0} hYl))) ?_)
     all_goals try exact oF
     refine px ⟨(i+1,Y.set i ((k:Int)+1)),oT,nxt_set hY hlt2 hnx⟩ (by simp<;>omega) (by simp[E2]) ?_
     show subH _ [(r5,1,(Y.set i ((k:Int)+1)).map I),(q,1,(hIt g k).map I)]
     rw[List.map_set]
     exact (by repeat' (first|exact trivial|(refine jO (by simp only[Z9, *,if_true,if_false];try rfl) (jO (by simp[ZW,ZU, *]) ?_))))
   ·rw[if_pos oT] at hnx
    (refine V1 (jO hn2 (jO hz (jO @List.length_map.{0,0} (jO hol (jO hYl @decide_false))))) ?_;with_reducible repeat' first|intro h|apply jO)
    all_goals try exact oF
    exact px ⟨(i+1,Y),oT,nxt_keep hY hlt2 (by rw[hnx,hg1])⟩ (by simp<;>omega) (by simp[E2]) (by repeat' (first|exact trivial|(refine jO (by simp only[Z9, *,if_true,if_false];try rfl) (jO (by simp[ZW,ZU, *]) ?_))))
  ·obtain rfl:i=g.syms.length:=by omega
   have hYe:=nxt_n hY
   subst hYe
   (refine V1 hn2 ?_;with_reducible repeat' intro h)
   all_goals try exact oF
   exact px ⟨(r5,k+1),oT⟩ (by simp<;>omega) (by simp[E2]) (by repeat' (first|exact trivial|(refine jO (by simp only[Z9, *,if_true,if_false];try rfl) (jO (by simp[ZW,ZU, *]) ?_))))
 ·obtain rfl:k=g.syms.length:=by omega
  (refine V0 ?_;with_reducible repeat' intro h)
  all_goals try exact oF
  exact X6 ZZ (hgts_len g)
theorem w92 (g:Gram) (s:ByteArray) (hg:ZE g) (h4:g.syms.length≤4):Pu 92 [Gr g,T s] (· = I (minH g s)):=by
 have hl:=hgts_len g
 have hix:=X1 (fun y:Sym=>decide (y.name=s)) g.syms
 have hm:minH g s=if Zt (fun y:Sym=>decide (y.name=s)) g.syms<0 then 0 else (YA g).getD (Zt (fun y:Sym=>decide (y.name=s)) g.syms).toNat 0:=rfl
 refine Z5 mxd i92 rfl (by simp) ?_;refine X0 ?_
 (refine V0 ?_)
 refine callS.eq (w154 g s hg) ?_
 rcases hix with hx|⟨hx,hx2⟩
 ·rw[hx,if_pos oT] at hm
  rw[hx,hm]
  (refine V2 @decide_true ?_;with_reducible repeat' exact trivial)
 ·obtain ⟨a,ha⟩:∃a:Nat,Zt (fun y:Sym=>decide (y.name=s)) g.syms=a:=⟨(Zt (fun y:Sym=>decide (y.name=s)) g.syms).toNat,oT⟩
  rw[ha] at hx hx2 hm ⊢
  rw[if_neg oT,Int.toNat_natCast,Z6 oT] at hm
  rw[hm]
  (refine V0 ?_;with_reducible repeat' intro h)
  all_goals try exact oF
  refine callS.eq (w155 g hg h4) ?_
  (refine V1 (jO @List.length_map.{0,0} hl) ?_;with_reducible repeat' exact trivial)
  all_goals try exact oF
theorem w42 (g:Gram) (s:ByteArray) (hg:ZE g) (h4:g.syms.length≤4):Pu 42 [Gr g,T s] (· = B (decide (0<minH g s))):=by
 refine Z5 mxd i42 rfl (by simp) ?_;refine X0 ?_
 (refine V0 ?_)
 refine callS.eq (w92 g s hg h4) ?_
 (refine V1 @gt_iff_lt.{0} ?_;with_reducible repeat' exact trivial)
theorem o87 (g:Gram) (s:ByteArray) (out:List Int) (rb q n:Nat) (H:GH) (hg:ZE g) (ho:out.length=g.syms.length) (hn:n=g.syms.length) (h1:ZV H rb=some (1,[.own q 1 0 n])) (h2:ZV H q=some (1,out.map I)) :
 Gc 87 [T s,.rop 2 (Gr g),.ptr rb 1 0 0] H (fun v H'=>v=I (hOf g out s)∧H'=H):=by
 have hl:=hg.1
 have hho:hOf g out s=if Zt (fun y:Sym=>decide (y.name=s)) g.syms<0 then 0 else out.getD (Zt (fun y:Sym=>decide (y.name=s)) g.syms).toNat 0:=rfl
 refine Z5 mxd i87 rfl (by simp) ?_;refine X0 ?_
 (refine V0 ?_)
 refine ZL mxd (ι:={ i:Nat // i≤g.syms.length∧∀y∈g.syms.take i,decide (y.name=s)=false }) (fun i=>[(0,T s),(1,.rop 2 (Gr g)),(2,.ptr rb 1 0 0),(8,SyS g.syms),(9,I g.syms.length),(10,I i.1)]) (fun _ => H) (fun i=>g.syms.length-i.1) ⟨0,by simp⟩ (by simp[E2]) rfl ?_
 rintro ⟨i,hi,hn⟩
 rcases nL i g.syms.length with hlt|hge
 ·by_cases he:g.syms[i].name = s
  ·rw[YP hlt (by simp[he]) hn,if_neg oT,Int.toNat_natCast,Z6 oT] at hho
   rw[hho]
   (refine V1 (jO he (jO h1 (jO h2 (jO @List.length_map.{0,0} (jO ho hn))))) ?_;with_reducible repeat' intro h)
   all_goals try exact oF
  ·(refine V1 he ?_;with_reducible repeat' first|intro h|apply jO)
   all_goals try exact oF
   exact nx ⟨i+1,oT,Zn hlt (by simp[he]) hn⟩ (by simp<;>omega) (by simp[E2]) rfl
 ·obtain rfl:i=g.syms.length:=by omega
  rw[List.take_length] at hn
  rw[YO hn,if_pos oT] at hho
  rw[hho]
  (refine V0 ?_;with_reducible repeat' first|intro h|refine aO ?_)
  all_goals try exact oF
theorem w39 (g:Gram) (hg:ZE g) (h4:g.syms.length≤4):Pu 39 [Gr g] (· = IS (YA g)):=by
 refine Pure.bor ?_
 have hl2:=hg.2.1
 refine Z5 mxd i39 rfl (by simp) ?_;refine X0 ?_
 (refine V0 ?_;with_reducible repeat' intro h)
 all_goals try exact oF
 rename_i q0 _ rb
 refine Y1 mxd (ι:={ x:Nat×Nat // x.2≤g.syms.length }) (fun x=>[(1,.rop 2 (Gr g)),(3,.ptr rb 1 0 0),(4,.clo 87 [.rop 2 (Gr g),.ptr rb 1 0 0]),(5,I ((x.1.2:Int)+1))]) (fun x=>[(rb,1,[.own x.1.1 1 0 g.syms.length]),(x.1.1,1,(hIt g x.1.2).map I)]) (fun x=>g.syms.length-x.1.2) ⟨(q0,0),by simp⟩ (by simp[E2]) ?_ ?_
 ·simp[subH,Z9,names,hIt, *]
 rintro ⟨⟨q,k⟩,hk⟩ hn0
 dsimp only at hk hn0 ⊢
 (replace hn0:=hn0;simp only[VN] at hn0)
 have hol:=hIt_len g k
 rcases nL k g.syms.length with hlt|hge
 ·(refine V1 (jO hn0 (jO @List.length_map.{0,0} hol)) ?_;with_reducible repeat' first|intro h|refine aO ?_|apply jO)
  all_goals try exact oF
  rename_i _ rn
  rw[soT_I hol]
  (refine V1 (jO @List.length_map.{0,0} (jO @List.length_replicate.{0} hol)) ?_)
  all_goals try exact oF
  rw[Nat.min_self]
  refine Y1 mxd (ι:={ x:Nat×List Int // x.1≤g.syms.length∧nxt g k x.1 x.2 }) (fun x=>[(1,.rop 2 (Gr g)),(3,.ptr rb 1 0 0),(4,.clo 87 [.rop 2 (Gr g),.ptr rb 1 0 0]),(5,I ((k:Int)+1)),(6,.own rn 1 0 g.syms.length),(33,SyS g.syms),(34,I g.syms.length),(35,I x.1.1)]) (fun x=>[(rn,1,x.1.2.map I),(rb,1,[.own q 1 0 g.syms.length]),(q,1,(hIt g k).map I)]) (fun x=>g.syms.length-x.1.1) ⟨(0,hIt g k),oT,nxt_0 g k⟩ (by simp[E2]) ?_ ?_
  ·rw[show List.take g.syms.length (List.map I (hIt g k))=List.map I (hIt g k) from tL (by simp[hol]),List.drop_of_length_le (by simp),List.append_nil]
   exact (by repeat' (first|exact trivial|(refine jO (by simp only[Z9, *,if_true,if_false];try rfl) (jO (by simp[ZW,ZU, *]) ?_))))
  rintro ⟨⟨i,Y⟩,hi,hY⟩ hn2
  dsimp only at hi hY hn2 ⊢
  (replace hn2:=hn2;simp only[VN] at hn2)
  have hYl:=hY.1
  rcases nL i g.syms.length with hlt2|hge2
  ·have hg1:(hIt g k).getD i 0=(hIt g k)[i]:=Z6 oT
   have hg2:g.syms.getD i symZ=g.syms[i]:=Z6 hlt2
   have hnx:hNext g ((k:Int)+1) (hIt g k) i=if 0<(hIt g k)[i] then (hIt g k)[i] else if rchS g (hIt g k) g.syms[i].name = true then (k:Int)+1 else (hIt g k)[i]:=by simp only[hNext,hg1,hg2]
   have hnn:=hIt_nn g k _ (gM (show i<(hIt g k).length by omega))
   by_cases hz:0<(hIt g k)[i]
   ·rw[if_pos oT] at hnx
    (refine V1 (jO hn2 (jO hz (jO @List.length_map.{0,0} (jO hol (jO hYl (jO @gt_iff_lt.{0} @decide_true)))))) ?_;with_reducible repeat' first|intro h|apply jO)
    all_goals try exact oF
    exact px ⟨(i+1,Y),oT,nxt_keep hY hlt2 (by rw[hnx,hg1])⟩ (by simp<;>omega) (by simp[E2]) (by repeat' (first|exact trivial|(refine jO (by simp only[Z9, *,if_true,if_false];try rfl) (jO (by simp[ZW,ZU, *]) ?_))))
   ·rw[if_neg hz] at hnx
    have hz0:(hIt g k)[i]=0:=by omega
    (refine V1 (jO hn2 (jO hz (jO @List.length_map.{0,0} (jO hol (jO hYl (jO @gt_iff_lt.{0} @decide_false)))))) ?_;with_reducible repeat' first|intro h|apply jO)
    all_goals try exact oF
    obtain ⟨Z,hZ⟩:∃Z:Nat→List Int,∀j,Z j=if ((g.rules.take j).any (rchR g (hIt g k) g.syms[i].name))=true then Y.set i ((k:Int)+1) else Y:=⟨_,fun _ => rfl⟩
    have hZl:∀j,(Z j).length = g.syms.length:=fun j=>by rw[hZ];split<;>simp[hYl]
    have hZ0:Z 0=Y:=by rw[hZ];simp
    have hZs1:∀j (hj:j<g.rules.length),rchR g (hIt g k) g.syms[i].name g.rules[j]=false→Z (j+1)=Z j:=fun j hj hb=>by
     rw[hZ,hZ,List.take_add_one,List.getElem?_eq_getElem hj,Option.toList_some,List.any_append];simp[hb]
    have hZs2:∀j (hj:j<g.rules.length),rchR g (hIt g k) g.syms[i].name g.rules[j]=true→Z (j+1)=(Z j).set i ((k:Int)+1):=fun j hj hb=>by
     rw[hZ,hZ,List.take_add_one,List.getElem?_eq_getElem hj,Option.toList_some,List.any_append]
     simp only[List.any_cons,hb,Bool.true_or,Bool.or_true,if_true]
     split
     ·rw[List.set_set]
     ·rfl
    have hZe:nxt g k (i+1) (Z g.rules.length):=by
     rw[hZ,List.take_length]
     have e:rchS g (hIt g k) g.syms[i].name = g.rules.any (rchR g (hIt g k) g.syms[i].name):=rfl
     rw[←e]
     split
     ·rename_i hh
      rw[if_pos hh] at hnx
      exact nxt_set hY hlt2 hnx
     ·rename_i hh
      rw[if_neg hh] at hnx
      exact nxt_keep hY hlt2 (by rw[hnx,hg1])
    clear hZ
    refine Y1 mxd (ι:={ j:Nat // j≤g.rules.length }) (fun j=>[(1,.rop 2 (Gr g)),(3,.ptr rb 1 0 0),(4,.clo 87 [.rop 2 (Gr g),.ptr rb 1 0 0]),(5,I ((k:Int)+1)),(6,.own rn 1 0 g.syms.length),(33,SyS g.syms),(34,I g.syms.length),(35,I i),(7,I i),(8,.rop 2 (Sy g.syms[i])),(46,RuS g.rules),(47,I g.rules.length),(48,I j.1)]) (fun j=>[(rn,1,(Z j.1).map I),(rb,1,[.own q 1 0 g.syms.length]),(q,1,(hIt g k).map I)]) (fun j=>g.rules.length-j.1) ⟨0,by simp⟩ (by simp[E2]) (by rw[hZ0];exact (by repeat' (first|exact trivial|(refine jO (by simp only[Z9, *,if_true,if_false];try rfl) (jO (by simp[ZW,ZU, *]) ?_))))) ?_
    rintro ⟨j,hj⟩ hn3
    dsimp only at hj hn3 ⊢
    (replace hn3:=hn3;simp only[VN] at hn3)
    rcases nL j g.rules.length with hlt3|hge3
    ·have hr:=hg.2.2.2 _ (gM hlt3)
     have hrl:=hr.1
     (refine V1 hn3 ?_;with_reducible repeat' first|intro h|apply jO)
     all_goals try exact oF
     have hz1:decide (g.rules[j].left = g.syms[i].name)=rchP g (hIt g k) g.syms[i].name g.rules[j] 0:=by simp[rchP]
     refine ZL mxd (ι:={ m:Nat // m≤g.rules[j].right.length }) (fun m=>[(1,.rop 2 (Gr g)),(3,.ptr rb 1 0 0),(4,.clo 87 [.rop 2 (Gr g),.ptr rb 1 0 0]),(5,I ((k:Int)+1)),(6,.own rn 1 0 g.syms.length),(33,SyS g.syms),(34,I g.syms.length),(35,I i),(7,I i),(8,.rop 2 (Sy g.syms[i])),(46,RuS g.rules),(47,I g.rules.length),(48,I j),(11,B (rchP g (hIt g k) g.syms[i].name g.rules[j] m.1)),(58,TS g.rules[j].right),(59,I g.rules[j].right.length),(60,I m.1)]) (fun _ => [(rn,1,(Z j).map I),(rb,1,[.own q 1 0 g.syms.length]),(q,1,(hIt g k).map I)]) (fun m=>g.rules[j].right.length - m.1) ⟨0,by simp⟩ (by simp[E2,hz1]) rfl ?_
     rintro ⟨m,hm⟩
     rcases nL m g.rules[j].right.length with hlt4|hge4
     ·have hst:=rchP_step (g:=g) (out:=hIt g k) (s:=g.syms[i].name) hlt4
      rcases bC (rchP g (hIt g k) g.syms[i].name g.rules[j] m) with hv|hv
      ·rw[hv,Bool.false_and] at hst
       (refine V1 (jO hn3 hv) ?_;with_reducible repeat' first|intro h|apply jO)
       all_goals try exact oF
       exact nx ⟨m+1,oT⟩ (by simp<;>omega) (by simp[E2,hst]) rfl
      ·rw[hv,Bool.true_and] at hst
       (refine V1 (jO hn3 hv) ?_;with_reducible repeat' first|intro h|refine aO ?_|apply jO)
       all_goals try exact oF
       refine callS.of (o87 g g.rules[j].right[m] (hIt g k) rb q _ _ hg hol rfl (by simp[Z9,hn3]) (by simp[Z9,hn3])) ?_
       rintro v H' ⟨rfl,rfl⟩ -
       (refine V1 (jO hn3 @gt_iff_lt.{0}) ?_)
       exact nx ⟨m+1,oT⟩ (by simp<;>omega) (by simp[E2,hst]) rfl
     ·obtain rfl:m=g.rules[j].right.length := by omega
      rw[rchP_end]
      have hzl:=hZl j
      rcases bC (rchR g (hIt g k) g.syms[i].name g.rules[j]) with hv|hv
      ·rw[hv]
       (refine V1 hn3 ?_;with_reducible repeat' intro h)
       all_goals try exact oF
       refine px ⟨j+1,oT⟩ (by simp<;>omega) (by simp[E2]) ?_
       show subH _ [(rn,1,(Z (j+1)).map I),_,_]
       rw[hZs1 j hlt3 hv]
       exact (by repeat' (first|exact trivial|(refine jO (by simp only[Z9, *,if_true,if_false];try rfl) (jO (by simp[ZW,ZU, *]) ?_))))
      ·rw[hv]
       (refine V1 (jO hn3 (jO @List.length_map.{0,0} hzl)) ?_;with_reducible repeat' first|intro h|refine aO ?_)
       all_goals try exact oF
       refine px ⟨j+1,oT⟩ (by simp<;>omega) (by simp[E2]) ?_
       show subH _ [(rn,1,(Z (j+1)).map I),_,_]
       rw[hZs2 j hlt3 hv,List.map_set]
       exact (by repeat' (first|exact trivial|(refine jO (by simp only[Z9, *,if_true,if_false];try rfl) (jO (by simp[ZW,ZU, *]) ?_))))
    ·obtain rfl:j=g.rules.length:=by omega
     (refine V1 hn3 ?_;with_reducible repeat' intro h)
     all_goals try exact oF
     exact px ⟨(i+1,Z g.rules.length),oT,hZe⟩ (by simp<;>omega) (by simp[E2]) (by repeat' (first|exact trivial|(refine jO (by simp only[Z9, *,if_true,if_false];try rfl) (jO (by simp[ZW,ZU, *]) ?_))))
  ·obtain rfl:i=g.syms.length:=by omega
   have hYe:=nxt_n hY
   subst hYe
   (refine V1 hn2 ?_;with_reducible repeat' intro h)
   all_goals try exact oF
   exact px ⟨(rn,k+1),oT⟩ (by simp<;>omega) (by simp[E2]) (by repeat' (first|exact trivial|(refine jO (by simp only[Z9, *,if_true,if_false];try rfl) (jO (by simp[ZW,ZU, *]) ?_))))
 ·obtain rfl:k=g.syms.length:=by omega
  (refine V1 hn0 ?_;with_reducible repeat' intro h)
  all_goals try exact oF
  exact X6 (by simp[Z9,hn0];rfl) (hgts_len g)
end Go.Proofs.YtkmedfejmndmjaaGreat
