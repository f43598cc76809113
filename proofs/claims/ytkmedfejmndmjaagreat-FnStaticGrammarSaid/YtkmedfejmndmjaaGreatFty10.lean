/- The law returns true whatever the input, and the input reads behind the call as before. No condition. -/
import Derived.Test.YtkmedfejmndmjaaGreatFty2
set_option maxHeartbeats 40000000
set_option maxRecDepth 20000
set_option linter.unusedSimpArgs false
set_option linter.unusedVariables false
namespace Go.Proofs.YtkmedfejmndmjaaGreat
open Go.Gh
open Nat (reduceEqDiff reduceLeDiff reduceAdd reduceLT)
open Int (reduceNe)
theorem w148 (g:Gram) (r:Rul) (hg:Zw g) (hr:Zk r):Pu 148 [Gr g,Ru r] (· = B (!unkR g r)):=by
 have hl:=hr.1
 refine ZY mxd i148 rfl (by simp) ?_;refine X0 ?_
 (refine V0 ?_;with_reducible repeat' first|exact trivial|intro h|refine aO ?_|refine eO ?_|apply jO)
 refine ZF mxd (ι:={ i:Nat // i≤r.right.length+1∧∀j,j<i→hSym g.syms (Zz r (j:Nat))=true }) (fun i=>[(2,.rop 2 (Gr g)),(3,.rop 6 (Ru r)),(5,I i.1)]) (fun _ => []) (fun i=>r.right.length+1-i.1) ⟨0,by simp⟩ (by simp[E2]) rfl ?_
 rintro ⟨i,hi,hn⟩
 rcases nL i (r.right.length+1) with hlt|hge
 ·(refine V0 ?_;with_reducible repeat' first|exact trivial|intro h|refine aO ?_|refine eO ?_|apply jO)
  all_goals try exact oF
  refine callS.eq (w11 r i hr) ?_
  (refine V0 ?_;with_reducible repeat' first|exact trivial|intro h|refine aO ?_|refine eO ?_|apply jO)
  refine callS.eq (w10 g _ hg) ?_
  rcases bC (hSym g.syms (Zz r i)) with hv|hv
  ·rw[unkR_no hlt hv]
   (refine V1 hv ?_;with_reducible repeat' first|exact trivial|intro h|refine aO ?_|refine eO ?_|apply jO)
  ·(refine V1 hv ?_;with_reducible repeat' first|exact trivial|intro h|refine aO ?_|refine eO ?_|apply jO)
   exact nx ⟨i+1,by omega,fun j hj=>by
    rcases Nat.lt_succ_iff_lt_or_eq.1 hj with e|e
    ·exact hn j e
    ·subst e;exact hv⟩ (by simp<;>omega) (by simp[E2]) rfl
 ·obtain rfl:i=r.right.length+1:=by omega
  rw[unkR_ok hn]
  (refine V0 ?_;with_reducible repeat' first|exact trivial|intro h|refine aO ?_|refine eO ?_|apply jO)
  all_goals try exact oF
theorem w83 (g:Gram) (r:Rul) (hg:Zw g) (hr:Zk r):Pu 83 [Gr g,Ru r] (· = B (unkR g r)):=by
 have hl:=hr.1
 refine ZY mxd i83 rfl (by simp) ?_;refine X0 ?_
 (refine V0 ?_;with_reducible repeat' first|exact trivial|intro h|refine aO ?_|refine eO ?_|apply jO)
 all_goals try exact oF
 refine ZF mxd (ι:={ i:Nat // i≤r.right.length+1∧∀j,j<i→hSym g.syms (Zz r (j:Nat))=true }) (fun i=>[(2,.rop 2 (Gr g)),(3,.rop 6 (Ru r)),(11,I ((r.right.length:Int)+1)),(12,I i.1)]) (fun _ => []) (fun i=>r.right.length+1-i.1) ⟨0,by simp⟩ (by simp[E2]) rfl ?_
 rintro ⟨i,hi,hn⟩
 rcases nL i (r.right.length+1) with hlt|hge
 ·(refine V0 ?_;with_reducible repeat' first|exact trivial|intro h|refine aO ?_|refine eO ?_|apply jO)
  all_goals try exact oF
  refine callS.eq (w93 r i hr) ?_
  (refine V0 ?_;with_reducible repeat' first|exact trivial|intro h|refine aO ?_|refine eO ?_|apply jO)
  refine callS.eq (w48 g _ hg) ?_
  rcases bC (hSym g.syms (Zz r i)) with hv|hv
  ·rw[unkR_no hlt hv]
   (refine V1 hv ?_;with_reducible repeat' first|exact trivial|intro h|refine aO ?_|refine eO ?_|apply jO)
  ·(refine V1 hv ?_;with_reducible repeat' first|exact trivial|intro h|refine aO ?_|refine eO ?_|apply jO)
   exact nx ⟨i+1,by omega,fun j hj=>by
    rcases Nat.lt_succ_iff_lt_or_eq.1 hj with e|e
    ·exact hn j e
    ·subst e;exact hv⟩ (by simp<;>omega) (by simp[E2]) rfl
 ·obtain rfl:i=r.right.length+1:=by omega
  rw[unkR_ok hn]
  (refine V0 ?_;with_reducible repeat' first|exact trivial|intro h|refine aO ?_|refine eO ?_|apply jO)
  all_goals try exact oF
theorem w186 (g:Gram) (r:Rul) (hg:Zw g) (hr:Zk r) (hr3:r.right.length≤3):Pu 186 [Gr g,Ru r] (· = OcS (reqO g r)):=by
 refine Pure.bor ?_
 refine ZY mxd i186 rfl (by simp) ?_;refine X0 ?_
 (refine V0 ?_;with_reducible repeat' first|exact trivial|intro h|refine aO ?_|refine eO ?_|apply jO)
 rename_i r0
 refine Y1 mxd (ι:={ x:Nat×Nat // x.2≤r.right.length+1 }) (fun x=>[(2,.rop 2 (Gr g)),(3,.rop 6 (Ru r)),(5,.own x.1.1 2 0 (Zs g r x.1.2).length),(6,I x.1.2)]) (fun x=>[(x.1.1,2,(Zs g r x.1.2).map Occ)]) (fun x=>r.right.length+1-x.1.2) ⟨(r0,0),by simp⟩ (by simp[E2,Zs]) (by simp[subH,ZU,names,Zs]) ?_
 rintro ⟨⟨q,i⟩,hi⟩ hn
 dsimp only at hi hn ⊢
 rcases nL i (r.right.length+1) with hlt|hge
 ·(refine V0 ?_;with_reducible repeat' first|exact trivial|intro h|refine aO ?_|refine eO ?_|apply jO)
  all_goals try exact oF
  refine callS.eq (w11 r i hr) ?_
  (refine V0 ?_;with_reducible repeat' first|exact trivial|intro h|refine aO ?_|refine eO ?_|apply jO)
  refine callS.eq (w10 g _ hg) ?_
  have hbl:=reqA_len hg r i
  have hst:Zs g r (i+1)=Zs g r i++((((Zq g.syms (Zz r i)).atts.filter fun a=>decide (a.mode=if i=0 then 2 else 1)).map fun a=>((i:Int),a.name))):=rfl
  have hsm:=YB hg (Zz r i)
  unfold smSy at hsm
  generalize Zq g.syms (Zz r i)=s at *
  by_cases h0:i=0
  ·have hi1:((i:Int)=0)=True:=eq_true (by omega)
   rw[if_pos h0] at hst
   (refine V1 (jO hi1 @decide_true) ?_;with_reducible repeat' first|exact trivial|intro h|refine aO ?_|refine eO ?_|apply jO)
   obtain ⟨F,hF⟩:∃F:Nat→List Oc,∀k,F k=Zs g r i++(((s.atts.take k).filter fun a=>decide (a.mode=2)).map fun a=>((i:Int),a.name)):=⟨_,fun _ => rfl⟩
   have hF0:F 0=Zs g r i:=by rw[hF];simp
   have hFe:F s.atts.length=Zs g r (i+1):=by rw[hF,hst,List.take_length]
   have hFs:∀k (hk:k<s.atts.length),F (k+1)=F k++(if s.atts[k].mode = 2 then [((i:Int),s.atts[k].name)] else []):=fun k hk=>by
    rw[hF,hF,reqP_take (g:=g) (r:=r) (pos:=i) (m:=2) (by simp[h0]) s.atts hk,List.append_assoc]
   have hFl:∀k,(F k).length ≤ (Zs g r i).length + s.atts.length:=fun k=>by
    have h1:=List.length_filter_le (fun a:Att=>decide (a.mode=2)) (s.atts.take k)
    rw[List.length_take] at h1
    rw[hF,List.length_append,List.length_map];omega
   clear hF
   refine Y1 mxd (ι:={ x:Nat×Nat // x.2≤s.atts.length }) (fun x=>[(2,.rop 2 (Gr g)),(3,.rop 6 (Ru r)),(5,.own x.1.1 2 0 (F x.1.2).length),(6,I i),(7,.rop 2 (Sy s)),(9,I 2),(10,I x.1.2)]) (fun x=>[(x.1.1,2,(F x.1.2).map Occ)]) (fun x=>s.atts.length-x.1.2) ⟨(q,0),by simp⟩ (by simp[E2,hF0]) (by simp[subH,ZU,names,hF0]) ?_
   rintro ⟨⟨q,k⟩,hk⟩ hn
   dsimp only at hk hn ⊢
   have hl1:=hFl k
   rcases nL k s.atts.length with hlt2|hge2
   ·have e:=hFs k hlt2
    rcases Decidable.em (s.atts[k].mode = 2) with hm|hm
    ·rw[if_pos hm] at e
     have el:(F (k+1)).length = (F k).length + 1:=by rw[e];simp
     (refine V1 (jO hm (jO @List.length_append.{0} (jO @List.length_singleton.{0} (jO @List.length_map.{0,0} (jO @List.length_take.{0} @ZO))))) ?_;with_reducible repeat' first|exact trivial|intro h|refine aO ?_|refine eO ?_|apply jO)
     all_goals try exact oF
     rename_i q2 _ q3
     refine px ⟨(q3,k+1),by omega⟩ (by simp<;>omega) (by simp[E2,el]) ?_
     show subH _ [(q3,2,(F (k+1)).map Occ)]
     rw[e,List.map_append,tL (by simp)]
     exact (by repeat' (first|exact trivial|(refine And.intro (by simp only[Z9, *,if_true,if_false];try rfl) (And.intro (by simp[ZT,ZS, *]) ?_))))
    ·rw[if_neg hm,List.append_nil] at e
     (refine V1 hm ?_;with_reducible repeat' first|exact trivial|intro h|refine aO ?_|refine eO ?_|apply jO)
     all_goals try exact oF
     refine px ⟨(q,k+1),by omega⟩ (by simp<;>omega) (by simp[E2,e]) ?_
     show subH _ [(q,2,(F (k+1)).map Occ)]
     rw[e]
     exact (by repeat' (first|exact trivial|(refine And.intro (by simp only[Z9, *,if_true,if_false];try rfl) (And.intro (by simp[ZT,ZS, *]) ?_))))
   ·obtain rfl:k=s.atts.length:=by omega
    rw[hFe]
    (refine V0 ?_;with_reducible repeat' first|exact trivial|intro h|refine aO ?_|refine eO ?_|apply jO)
    all_goals try exact oF
    exact px ⟨(q,i+1),by omega⟩ (by simp<;>omega) (by simp[E2]) (by repeat' (first|exact trivial|(refine And.intro (by simp only[Z9, *,if_true,if_false];try rfl) (And.intro (by simp[ZT,ZS, *]) ?_))))
  ·have hi1:((i:Int)=0)=False:=eq_false (by omega)
   rw[if_neg h0] at hst
   (refine V1 (jO hi1 @decide_false) ?_;with_reducible repeat' first|exact trivial|intro h|refine aO ?_|refine eO ?_|apply jO)
   obtain ⟨F,hF⟩:∃F:Nat→List Oc,∀k,F k=Zs g r i++(((s.atts.take k).filter fun a=>decide (a.mode=1)).map fun a=>((i:Int),a.name)):=⟨_,fun _ => rfl⟩
   have hF0:F 0=Zs g r i:=by rw[hF];simp
   have hFe:F s.atts.length=Zs g r (i+1):=by rw[hF,hst,List.take_length]
   have hFs:∀k (hk:k<s.atts.length),F (k+1)=F k++(if s.atts[k].mode = 1 then [((i:Int),s.atts[k].name)] else []):=fun k hk=>by
    rw[hF,hF,reqP_take (g:=g) (r:=r) (pos:=i) (m:=1) (by simp[h0]) s.atts hk,List.append_assoc]
   have hFl:∀k,(F k).length ≤ (Zs g r i).length + s.atts.length:=fun k=>by
    have h1:=List.length_filter_le (fun a:Att=>decide (a.mode=1)) (s.atts.take k)
    rw[List.length_take] at h1
    rw[hF,List.length_append,List.length_map];omega
   clear hF
   refine Y1 mxd (ι:={ x:Nat×Nat // x.2≤s.atts.length }) (fun x=>[(2,.rop 2 (Gr g)),(3,.rop 6 (Ru r)),(5,.own x.1.1 2 0 (F x.1.2).length),(6,I i),(7,.rop 2 (Sy s)),(9,I 1),(10,I x.1.2)]) (fun x=>[(x.1.1,2,(F x.1.2).map Occ)]) (fun x=>s.atts.length-x.1.2) ⟨(q,0),by simp⟩ (by simp[E2,hF0]) (by simp[subH,ZU,names,hF0]) ?_
   rintro ⟨⟨q,k⟩,hk⟩ hn
   dsimp only at hk hn ⊢
   have hl1:=hFl k
   rcases nL k s.atts.length with hlt2|hge2
   ·have e:=hFs k hlt2
    rcases Decidable.em (s.atts[k].mode = 1) with hm|hm
    ·rw[if_pos hm] at e
     have el:(F (k+1)).length = (F k).length + 1:=by rw[e];simp
     (refine V1 (jO hm (jO @List.length_append.{0} (jO @List.length_singleton.{0} (jO @List.length_map.{0,0} (jO @List.length_take.{0} @ZO))))) ?_;with_reducible repeat' first|exact trivial|intro h|refine aO ?_|refine eO ?_|apply jO)
     all_goals try exact oF
     rename_i q2 _ q3
     refine px ⟨(q3,k+1),by omega⟩ (by simp<;>omega) (by simp[E2,el]) ?_
     show subH _ [(q3,2,(F (k+1)).map Occ)]
     rw[e,List.map_append,tL (by simp)]
     exact (by repeat' (first|exact trivial|(refine And.intro (by simp only[Z9, *,if_true,if_false];try rfl) (And.intro (by simp[ZT,ZS, *]) ?_))))
    ·rw[if_neg hm,List.append_nil] at e
     (refine V1 hm ?_;with_reducible repeat' first|exact trivial|intro h|refine aO ?_|refine eO ?_|apply jO)
     all_goals try exact oF
     refine px ⟨(q,k+1),by omega⟩ (by simp<;>omega) (by simp[E2,e]) ?_
     show subH _ [(q,2,(F (k+1)).map Occ)]
     rw[e]
     exact (by repeat' (first|exact trivial|(refine And.intro (by simp only[Z9, *,if_true,if_false];try rfl) (And.intro (by simp[ZT,ZS, *]) ?_))))
   ·obtain rfl:k=s.atts.length:=by omega
    rw[hFe]
    (refine V0 ?_;with_reducible repeat' first|exact trivial|intro h|refine aO ?_|refine eO ?_|apply jO)
    all_goals try exact oF
    exact px ⟨(q,i+1),by omega⟩ (by simp<;>omega) (by simp[E2]) (by repeat' (first|exact trivial|(refine And.intro (by simp only[Z9, *,if_true,if_false];try rfl) (And.intro (by simp[ZT,ZS, *]) ?_))))
 ·obtain rfl:i=r.right.length+1:=by omega
  (refine V0 ?_;with_reducible repeat' first|exact trivial|intro h|refine aO ?_|refine eO ?_|apply jO)
  all_goals try exact oF
  exact bor_OcS Z4 rfl
end Go.Proofs.YtkmedfejmndmjaaGreat
