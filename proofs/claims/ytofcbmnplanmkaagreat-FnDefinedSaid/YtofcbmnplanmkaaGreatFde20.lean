/- The law FnDefined returns true whatever the input, and the input reads behind the call as before. No condition. -/
import Derived.Test.YtofcbmnplanmkaaGreatFde5
import Derived.Test.YtofcbmnplanmkaaGreatFde19
set_option maxHeartbeats 40000000
set_option linter.unusedSimpArgs false
set_option linter.unusedVariables false
namespace Go.Proofs.YtofcbmnplanmkaaGreat
open Go.Gh
open Nat (reduceEqDiff reduceLeDiff reduceAdd reduceLT)
open Int (reduceNe)
set_option maxRecDepth 20000
set_option linter.unusedSimpArgs false
set_option linter.unusedVariables false
theorem w153 (g:Gram) (r:Rul) (hg:Zw g) (hr:YY r) (hr3:r.right.length≤3):Pu 153 [Gr g,Ru r] (· = B (misR g r)):=by
 have hbl:=reqA_len hg r (r.right.length+1)
 have hrq:reqO g r=Zj g r (r.right.length+1):=rfl
 rw [←hrq] at hbl
 have hmr:misR g r=(reqO g r).any fun o=> !(eqnF r o).isSome := rfl
 rw [hmr]
 refine ZW mxd i153 rfl (by simp) ?_;refine X0 ?_
 (refine V0 ?_;with_reducible repeat' first|exact trivial|intro h|refine aO ?_|refine eO ?_|apply jO)
 refine callS.eq (w125 g r hg hr hr3) ?_
 generalize reqO g r=L at *
 (refine V0 ?_;with_reducible repeat' first|exact trivial|intro h|refine aO ?_|refine eO ?_|apply jO)
 refine Zz mxd (ι:={ i:Nat // i≤L.length∧∀o∈L.take i,(!(eqnF r o).isSome)=false }) (fun i=>[(3,.rop 6 (Ru r)),(5,OcS L),(6,I i.1)]) (fun _ => []) (fun i=>L.length-i.1) ⟨0,by simp⟩ (by simp [E2]) rfl ?_
 rintro ⟨i,hi,hn⟩
 rcases nL i L.length with hlt|hge
 ·(refine V0 ?_;with_reducible repeat' first|exact trivial|intro h|refine aO ?_|refine eO ?_|apply jO)
  all_goals try exact oF
  refine callS.eq (w60 r L[i] hr) ?_
  rcases (Bool.eq_false_or_eq_true (eqnF r L[i]).isSome).symm with hv|hv
  ·rw [any_yes (p:=fun o=> !(eqnF r o).isSome) hlt (by rw [hv];rfl)]
   (refine V1 (jO hv @XE) ?_;with_reducible repeat' first|exact trivial|intro h|refine aO ?_|refine eO ?_|apply jO)
  ·(refine V1 (jO hv @XE) ?_;with_reducible repeat' first|exact trivial|intro h|refine aO ?_|refine eO ?_|apply jO)
   exact nx ⟨i+1,by omega,Y0 (p:=fun o=> !(eqnF r o).isSome) hlt (by rw [hv];rfl) hn⟩ (by simp<;>omega) (by simp [E2]) rfl
 ·obtain rfl:i=L.length:=by omega
  rw [List.take_length] at hn
  rw [any_no (p:=fun o=> !(eqnF r o).isSome) hn]
  (refine V0 ?_;with_reducible repeat' first|exact trivial|intro h|refine aO ?_|refine eO ?_|apply jO)
  all_goals try exact oF
theorem w179 (L:List Oc) (y:Oc):Pu 179 [OcS L,Occ y] (· = B (hasO L y)):=by
 refine GCalls.lenA fun hlen=> ?_
 have hlen:=hlen.1.1
 simp only [List.length_map,Zh] at hlen
 refine ZW mxd i179 rfl (by simp) ?_;refine X0 ?_
 (refine V0 ?_;with_reducible repeat' first|exact trivial|intro h|refine aO ?_|refine eO ?_|apply jO)
 refine Zz mxd (ι:={ i:Nat // i≤L.length∧∀a∈L.take i,decide (a=y)=false }) (fun i=>[(0,OcS L),(3,.rop 2 (Occ y)),(5,I i.1)]) (fun _ => []) (fun i=>L.length-i.1) ⟨0,by simp⟩ (by simp [E2]) rfl ?_
 rintro ⟨i,hi,hn⟩
 rcases nL i L.length with hlt|hge
 ·by_cases he:L[i]=y
  ·have he1:L[i].1 = y.1:=by rw [he]
   have he2:L[i].2 = y.2:=by rw [he]
   rw [hasO_hit hlt he]
   (refine V1 (jO he1 he2) ?_;with_reducible repeat' first|exact trivial|intro h|refine aO ?_|refine eO ?_|apply jO)
   all_goals first|rfl|(exfalso;omega)
  ·(refine V0 ?_;with_reducible repeat' first|exact trivial|intro h|refine aO ?_|refine eO ?_|apply jO)
   all_goals first
    | (exfalso;exact he (Prod.ext (by assumption) (by assumption)))
    | (exfalso;omega)
    | exact nx ⟨i+1,by omega,Y5 hlt (by simp [he]) hn⟩ (by simp<;>omega) (by simp [E2]) rfl
 ·obtain rfl:i=L.length:=by omega
  rw [List.take_length] at hn
  rw [hasO_none hn]
  (refine V0 ?_;with_reducible repeat' first|exact trivial|intro h|refine aO ?_|refine eO ?_|apply jO)
  all_goals first|rfl|(exfalso;omega)
theorem w154 (g:Gram) (r:Rul) (hg:Zw g) (hr:YY r) (hr3:r.right.length≤3):Pu 154 [Gr g,Ru r] (· = B (extR g r)):=by
 have hel:=hr.2.1
 have hno (i:Nat) (h:i<r.eqs.length):=extR_no (g:=g) (r:=r) (i:=i) h
 have hok:=extR_ok (g:=g) (r:=r)
 refine Pure.bor ?_
 refine ZW mxd i154 rfl (by simp) ?_;refine X0 ?_
 (refine V1 @XE ?_;with_reducible repeat' first|exact trivial|intro h|refine aO ?_|refine eO ?_|apply jO)
 refine callS.eq (w125 g r hg hr hr3) ?_
 generalize reqO g r=L at *
 (refine V1 @XE ?_;with_reducible repeat' first|exact trivial|intro h|refine aO ?_|refine eO ?_|apply jO)
 rename_i r0
 refine ploop mxd (ι:={ x:Nat×Nat // x.2≤r.eqs.length∧∀j (hj:j<r.eqs.length),j<x.2→hasO L (atQ r.eqs[j])=true∧hasO ((r.eqs.take j).map atQ) (atQ r.eqs[j])=false }) (fun x=>[(3,.rop 6 (Ru r)),(5,OcS L),(6,.own x.1.1 2 0 x.1.2),(7,I x.1.2)]) (fun x=>[(x.1.1,2,((r.eqs.take x.1.2).map atQ).map Occ)]) (fun x=>r.eqs.length-x.1.2) ⟨(r0,0),by simp⟩ (by simp [E2]) (by simp [subH,ZU,names]) ?_
 rintro ⟨⟨q,i⟩,hi,hn⟩ -
 dsimp only at hi hn ⊢
 rcases nL i r.eqs.length with hlt|hge
 ·(refine V1 @XE ?_;with_reducible repeat' first|exact trivial|intro h|refine aO ?_|refine eO ?_|apply jO)
  all_goals try exact oF
  refine callS.eq (w179 L (atQ r.eqs[i])) ?_
  rcases bC (hasO L (atQ r.eqs[i])) with hv|hv
  ·rw [hno i hlt (.inl hv)]
   (refine V1 (jO hv @XE) ?_;with_reducible repeat' first|exact trivial|intro h|refine aO ?_|refine eO ?_|apply jO)
   exact .refl
  ·(refine V1 (jO hv @XE) ?_;with_reducible repeat' first|exact trivial|intro h|refine aO ?_|refine eO ?_|apply jO)
   all_goals try exact oF
   refine callS.borA (w179 ((r.eqs.take i).map atQ) (atQ r.eqs[i])) (.cons (bor_OcS ZX (by simp<;>omega)) (.cons .refl .nil)) rfl ?_
   rcases (Bool.eq_false_or_eq_true (hasO ((r.eqs.take i).map atQ) (atQ r.eqs[i]))).symm with hw|hw
   ·(refine V1 (jO hw (jO @XE (jO @List.length_append.{0} (jO @List.length_singleton.{0} (jO @List.length_map.{0,0} (jO @List.length_take.{0} @ZQ)))))) ?_;with_reducible repeat' first|exact trivial|intro h|refine aO ?_|refine eO ?_|apply jO)
    all_goals try exact oF
    rename_i q2 _ q3
    have e:=takeApp2 Occ atQ r.eqs i hlt
    simp only [atQ] at e
    rw [e]
    exact px ⟨(q3,i+1),by omega,fun j hj hji=>by
     rcases Nat.lt_succ_iff_lt_or_eq.1 hji with e|e
     ·exact hn j hj e
     ·subst e;exact ⟨hv,hw⟩⟩ (by simp<;>omega) (by simp [E2]) (by repeat' (first|exact trivial|(refine And.intro (by simp only [Z9, *,if_true,if_false];try rfl) (And.intro (by simp [ZS,ZR, *]) ?_))))
   ·rw [hno i hlt (.inr hw)]
    (refine V1 hw ?_;with_reducible repeat' first|exact trivial|intro h|refine aO ?_|refine eO ?_|apply jO)
    exact .refl
 ·obtain rfl:i=r.eqs.length:=by omega
  rw [hok fun j hj=>hn j hj hj]
  (refine V0 ?_;with_reducible repeat' first|exact trivial|intro h|refine aO ?_|refine eO ?_|apply jO)
  all_goals first|(exfalso;omega)|exact .refl
end Go.Proofs.YtofcbmnplanmkaaGreat
