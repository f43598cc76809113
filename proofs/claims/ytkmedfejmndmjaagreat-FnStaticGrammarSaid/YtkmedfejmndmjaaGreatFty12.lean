/- The law returns true whatever the input, and the input reads behind the call as before. No condition. -/
import Derived.Test.YtkmedfejmndmjaaGreatFty11
set_option maxHeartbeats 40000000
set_option maxRecDepth 20000
set_option linter.unusedSimpArgs false
set_option linter.unusedVariables false
namespace Go.Proofs.YtkmedfejmndmjaaGreat
open Go.Gh
open Nat (reduceEqDiff reduceLeDiff reduceAdd reduceLT)
open Int (reduceNe)
theorem w203 (L:List Oc) (y:Oc):Pu 203 [OcS L,Occ y] (· = I (ixI L y)):=by
 refine GCalls.lenA fun hlen=> ?_
 have hlen:=hlen.1.1
 simp only[List.length_map,Zi] at hlen
 refine ZY mxd i203 rfl (by simp) ?_;refine X0 ?_
 (refine V0 ?_;with_reducible repeat' first|exact trivial|intro h|refine aO ?_|refine eO ?_|apply jO)
 refine ZF mxd (ι:={ i:Nat // i≤L.length∧∀a∈L.take i,decide (a=y)=false }) (fun i=>[(0,OcS L),(3,.rop 2 (Occ y)),(7,I L.length),(8,I i.1)]) (fun _ => []) (fun i=>L.length-i.1) ⟨0,by simp⟩ (by simp[E2]) rfl ?_
 rintro ⟨i,hi,hn⟩
 rcases nL i L.length with hlt|hge
 ·by_cases he:L[i]=y
  ·have he1:y.1=L[i].1 := by rw[he]
   have he2:y.2=L[i].2 := by rw[he]
   have e:ixI L y=i:=YD hlt (by simp[he]) hn
   rw[e]
   (refine V1 (jO he1 he2) ?_;with_reducible repeat' first|exact trivial|intro h|refine aO ?_|refine eO ?_|apply jO)
   all_goals first|rfl|(exfalso;omega)
  ·(refine V0 ?_;with_reducible repeat' first|exact trivial|intro h|refine aO ?_|refine eO ?_|apply jO)
   all_goals first
    | (exfalso;exact he (Prod.ext (Eq.symm (by assumption)) (Eq.symm (by assumption))))
    | (exfalso;omega)
    | exact nx ⟨i+1,by omega,Zg hlt (by simp[he]) hn⟩ (by simp<;>omega) (by simp[E2]) rfl
 ·obtain rfl:i=L.length:=by omega
  rw[List.take_length] at hn
  have e:ixI L y = -1:=YF hn
  rw[e]
  (refine V0 ?_;with_reducible repeat' first|exact trivial|intro h|refine aO ?_|refine eO ?_|apply jO)
  all_goals first|rfl|(exfalso;omega)
theorem w139 (L:List Oc) (y:Oc):Pu 139 [OcS L,Occ y] (· = B (hasO L y)):=by
 have e:hasO L y=decide (0≤ixI L y):=(any_ix (fun z=>decide (z=y)) L).symm
 rw[e]
 refine ZY mxd i139 rfl (by simp) ?_;refine X0 ?_
 (refine V0 ?_;with_reducible repeat' first|exact trivial|intro h|refine aO ?_|refine eO ?_|apply jO)
 refine callS.eq (w203 L y) ?_
 (refine V0 ?_;with_reducible repeat' first|exact trivial|intro h|refine aO ?_|refine eO ?_|apply jO)
theorem w212 (L:List Oc) (y:Oc):Pu 212 [OcS L,Occ y] (· = B (hasO L y)):=by
 refine GCalls.lenA fun hlen=> ?_
 have hlen:=hlen.1.1
 simp only[List.length_map,Zi] at hlen
 refine ZY mxd i212 rfl (by simp) ?_;refine X0 ?_
 (refine V0 ?_;with_reducible repeat' first|exact trivial|intro h|refine aO ?_|refine eO ?_|apply jO)
 refine ZF mxd (ι:={ i:Nat // i≤L.length∧∀a∈L.take i,decide (a=y)=false }) (fun i=>[(0,OcS L),(3,.rop 2 (Occ y)),(5,I i.1)]) (fun _ => []) (fun i=>L.length-i.1) ⟨0,by simp⟩ (by simp[E2]) rfl ?_
 rintro ⟨i,hi,hn⟩
 rcases nL i L.length with hlt|hge
 ·by_cases he:L[i]=y
  ·have he1:L[i].1 = y.1:=by rw[he]
   have he2:L[i].2 = y.2:=by rw[he]
   rw[hasO_hit hlt he]
   (refine V1 (jO he1 he2) ?_;with_reducible repeat' first|exact trivial|intro h|refine aO ?_|refine eO ?_|apply jO)
   all_goals first|rfl|(exfalso;omega)
  ·(refine V0 ?_;with_reducible repeat' first|exact trivial|intro h|refine aO ?_|refine eO ?_|apply jO)
   all_goals first
    | (exfalso;exact he (Prod.ext (by assumption) (by assumption)))
    | (exfalso;omega)
    | exact nx ⟨i+1,by omega,Zg hlt (by simp[he]) hn⟩ (by simp<;>omega) (by simp[E2]) rfl
 ·obtain rfl:i=L.length:=by omega
  rw[List.take_length] at hn
  rw[hasO_none hn]
  (refine V0 ?_;with_reducible repeat' first|exact trivial|intro h|refine aO ?_|refine eO ?_|apply jO)
  all_goals first|rfl|(exfalso;omega)
theorem w85 (g:Gram) (r:Rul) (hg:Zw g) (hr:Zk r) (hr3:r.right.length≤3):Pu 85 [Gr g,Ru r] (· = B (extR g r)):=by
 have hel:=hr.2.1
 have hno (i:Nat) (h:i<r.eqs.length):=extR_no (g:=g) (r:=r) (i:=i) h
 have hok:=extR_ok (g:=g) (r:=r)
 refine ZY mxd i85 rfl (by simp) ?_;refine X0 ?_
 (refine V1 @XE ?_;with_reducible repeat' first|exact trivial|intro h|refine aO ?_|refine eO ?_|apply jO)
 refine callS.eq (w135 g r hg hr hr3) ?_
 generalize reqO g r=L at *
 (refine V1 @XE ?_;with_reducible repeat' first|exact trivial|intro h|refine aO ?_|refine eO ?_|apply jO)
 refine ZF mxd (ι:={ i:Nat // i≤r.eqs.length∧∀j (hj:j<r.eqs.length),j<i→hasO L (atQ r.eqs[j])=true∧hasO ((r.eqs.take j).map atQ) (atQ r.eqs[j])=false }) (fun i=>[(3,.rop 6 (Ru r)),(5,OcS L),(12,QnS r.eqs),(13,I r.eqs.length),(14,I i.1)]) (fun _ => []) (fun i=>r.eqs.length-i.1) ⟨0,by simp⟩ (by simp[E2]) rfl ?_
 rintro ⟨i,hi,hn⟩
 rcases nL i r.eqs.length with hlt|hge
 ·(refine V1 @XE ?_;with_reducible repeat' first|exact trivial|intro h|refine aO ?_|refine eO ?_|apply jO)
  all_goals try exact oF
  refine callS.eq (w139 L (atQ r.eqs[i])) ?_
  rcases bC (hasO L (atQ r.eqs[i])) with hv|hv
  ·rw[hno i hlt (.inl hv)]
   (refine V1 (jO hv @XE) ?_;with_reducible repeat' first|exact trivial|intro h|refine aO ?_|refine eO ?_|apply jO)
  ·(refine V1 (jO hv @XE) ?_;with_reducible repeat' first|exact trivial|intro h|refine aO ?_|refine eO ?_|apply jO)
   all_goals try exact oF
   rw[show List.drop (Int.toNat 0) (List.take i (List.map Qn r.eqs))=(r.eqs.take i).map Qn from by simp[List.map_take]]
   refine callS.eq (w137 (r.eqs.take i) 140 [.rop 9 (Qn r.eqs[i])] (fun q=>decide (q.pos=r.eqs[i].pos ∧ q.name=r.eqs[i].name)) fun x _ => w140 x _) ?_
   have e:((r.eqs.take i).any fun q=>decide (q.pos=r.eqs[i].pos ∧ q.name=r.eqs[i].name))=hasO ((r.eqs.take i).map atQ) (atQ r.eqs[i]):=(hasO_map (r.eqs.take i) (atQ r.eqs[i])).symm
   rw[e]
   rcases (Bool.eq_false_or_eq_true (hasO ((r.eqs.take i).map atQ) (atQ r.eqs[i]))).symm with hw|hw
   ·(refine V1 hw ?_;with_reducible repeat' first|exact trivial|intro h|refine aO ?_|refine eO ?_|apply jO)
    exact nx ⟨i+1,by omega,fun j hj hji=>by
     rcases Nat.lt_succ_iff_lt_or_eq.1 hji with e|e
     ·exact hn j hj e
     ·subst e;exact ⟨hv,hw⟩⟩ (by simp<;>omega) (by simp[E2]) rfl
   ·rw[hno i hlt (.inr hw)]
    (refine V1 hw ?_;with_reducible repeat' first|exact trivial|intro h|refine aO ?_|refine eO ?_|apply jO)
 ·obtain rfl:i=r.eqs.length:=by omega
  rw[hok fun j hj=>hn j hj hj]
  (refine V0 ?_;with_reducible repeat' first|exact trivial|intro h|refine aO ?_|refine eO ?_|apply jO)
  all_goals try exact oF
theorem w150 (g:Gram) (r:Rul) (hg:Zw g) (hr:Zk r) (hr3:r.right.length≤3):Pu 150 [Gr g,Ru r] (· = B (extR g r)):=by
 have hel:=hr.2.1
 have hno (i:Nat) (h:i<r.eqs.length):=extR_no (g:=g) (r:=r) (i:=i) h
 have hok:=extR_ok (g:=g) (r:=r)
 refine Pure.bor ?_
 refine ZY mxd i150 rfl (by simp) ?_;refine X0 ?_
 (refine V1 @XE ?_;with_reducible repeat' first|exact trivial|intro h|refine aO ?_|refine eO ?_|apply jO)
 refine callS.eq (w186 g r hg hr hr3) ?_
 generalize reqO g r=L at *
 (refine V1 @XE ?_;with_reducible repeat' first|exact trivial|intro h|refine aO ?_|refine eO ?_|apply jO)
 rename_i r0
 refine Y1 mxd (ι:={ x:Nat×Nat // x.2≤r.eqs.length∧∀j (hj:j<r.eqs.length),j<x.2→hasO L (atQ r.eqs[j])=true∧hasO ((r.eqs.take j).map atQ) (atQ r.eqs[j])=false }) (fun x=>[(3,.rop 6 (Ru r)),(5,OcS L),(6,.own x.1.1 2 0 x.1.2),(7,I x.1.2)]) (fun x=>[(x.1.1,2,((r.eqs.take x.1.2).map atQ).map Occ)]) (fun x=>r.eqs.length-x.1.2) ⟨(r0,0),by simp⟩ (by simp[E2]) (by simp[subH,ZU,names]) ?_
 rintro ⟨⟨q,i⟩,hi,hn⟩ -
 dsimp only at hi hn ⊢
 rcases nL i r.eqs.length with hlt|hge
 ·(refine V1 @XE ?_;with_reducible repeat' first|exact trivial|intro h|refine aO ?_|refine eO ?_|apply jO)
  all_goals try exact oF
  refine callS.eq (w212 L (atQ r.eqs[i])) ?_
  rcases bC (hasO L (atQ r.eqs[i])) with hv|hv
  ·rw[hno i hlt (.inl hv)]
   (refine V1 (jO hv @XE) ?_;with_reducible repeat' first|exact trivial|intro h|refine aO ?_|refine eO ?_|apply jO)
   exact .refl
  ·(refine V1 (jO hv @XE) ?_;with_reducible repeat' first|exact trivial|intro h|refine aO ?_|refine eO ?_|apply jO)
   all_goals try exact oF
   refine callS.borA (w212 ((r.eqs.take i).map atQ) (atQ r.eqs[i])) (.cons (bor_OcS Z4 (by simp<;>omega)) (.cons .refl .nil)) rfl ?_
   rcases (Bool.eq_false_or_eq_true (hasO ((r.eqs.take i).map atQ) (atQ r.eqs[i]))).symm with hw|hw
   ·(refine V1 (jO hw (jO @XE (jO @List.length_append.{0} (jO @List.length_singleton.{0} (jO @List.length_map.{0,0} (jO @List.length_take.{0} @ZO)))))) ?_;with_reducible repeat' first|exact trivial|intro h|refine aO ?_|refine eO ?_|apply jO)
    all_goals try exact oF
    rename_i q2 _ q3
    have e:=takeApp2 Occ atQ r.eqs i hlt
    simp only[atQ] at e
    rw[e]
    exact px ⟨(q3,i+1),by omega,fun j hj hji=>by
     rcases Nat.lt_succ_iff_lt_or_eq.1 hji with e|e
     ·exact hn j hj e
     ·subst e;exact ⟨hv,hw⟩⟩ (by simp<;>omega) (by simp[E2]) (by repeat' (first|exact trivial|(refine And.intro (by simp only[Z9, *,if_true,if_false];try rfl) (And.intro (by simp[ZT,ZS, *]) ?_))))
   ·rw[hno i hlt (.inr hw)]
    (refine V1 hw ?_;with_reducible repeat' first|exact trivial|intro h|refine aO ?_|refine eO ?_|apply jO)
    exact .refl
 ·obtain rfl:i=r.eqs.length:=by omega
  rw[hok fun j hj=>hn j hj hj]
  (refine V0 ?_;with_reducible repeat' first|exact trivial|intro h|refine aO ?_|refine eO ?_|apply jO)
  all_goals first|(exfalso;omega)|exact .refl
end Go.Proofs.YtkmedfejmndmjaaGreat
