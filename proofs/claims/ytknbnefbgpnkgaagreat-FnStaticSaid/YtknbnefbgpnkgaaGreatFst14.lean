/- The laws FnStatic and FnStaticTypes return true whatever the input, and the input reads behind the call as before. No condition. -/
import Derived.Test.YtknbnefbgpnkgaaGreatFst3
import Derived.Test.YtknbnefbgpnkgaaGreatFst11
import Derived.Test.YtknbnefbgpnkgaaGreatFst13
set_option maxHeartbeats 40000000
set_option maxRecDepth 20000
set_option linter.unusedSimpArgs false
set_option linter.unusedVariables false
namespace Go.Proofs.YtknbnefbgpnkgaaGreat
open Go.Gh
open Nat (reduceEqDiff reduceLeDiff reduceAdd reduceLT)
open Int (reduceNe)
theorem o128 (g:Gram) (t:List Nod) (x:Int×ByteArray) (hg:ZI g) (hl:t.length≤1048576) (hk:∀x∈t,x.kids.length≤1048576) (H:GH):Gc 128 [Gr g,Tr t,Ins x] H (fun v H'=>∃H1,(∃r,v = .own r 2 0 (stI g t x).length ∧ H1=[(r,2,(stI g t x).map Ins)])∧H'=H1++H):=by
 refine Z5 mxd i128 rfl (by simp) ?_;refine X0 ?_
 (refine V0 ?_;with_reducible repeat' intro h)
 rename_i r0
 refine callS.eq (w100 g t x hg hl) ?_
 by_cases hB:Y9 g t x=true
 ·have hul:=usE_sm (XY hg t x)
  (refine V1 hB ?_)
  have hq:=w178 (Zj g t x) (XY hg t x)
  rw[Y6] at hq
  refine callS.eq hq ?_
  clear hq
  have hst:stI g t x=(usE (Zj g t x) []).filterMap (stF t (YB g t x)):=rfl
  rw[hst]
  generalize usE (Zj g t x) []=U at *
  generalize Zj g t x=e at *
  generalize YB g t x=o at *
  (refine V0 ?_)
  refine X6 mxd (ι:={ y:Nat×Nat // y.2≤U.length }) (fun y=>[(3,.rop 2 (Gr g)),(4,.rop 1 (Tr t)),(7,.own y.1.1 2 0 ((U.take y.1.2).filterMap (stF t o)).length),(8,.rop 8 (DfG o e)),(10,OcS U),(11,I y.1.2)]) (fun y=>(y.1.1,2,((U.take y.1.2).filterMap (stF t o)).map Ins)::H) (fun y=>U.length-y.1.2) ⟨(r0,0),by simp⟩ (by simp[E2]) (by simp) ?_
  rintro ⟨⟨q,i⟩,hi⟩ hn
  dsimp only at hi hn ⊢
  replace hn:=Z4 hn
  (replace hn:=hn;simp only[VN] at hn)
  have hfl:=List.length_filterMap_le (stF t o) (U.take i)
  simp only[List.length_take] at hfl
  rcases nL i U.length with hlt|hge
  ·have hs:=fm_step (stF t o) hlt
   (refine V1 hn ?_;with_reducible repeat' first|intro h|apply jO)
   all_goals try exact oF
   refine callS.eq (w179 g t o U[i] hk) ?_
   by_cases hx:(YR t o U[i]).2 = true
   ·have hf:stF t o U[i]=some (YR t o U[i]).1 := by simp[stF,hx]
    rw[hf] at hs
    (refine V1 (jO hn (jO hx (jO @List.length_append.{0} (jO @List.length_singleton.{0} (jO @List.length_map.{0,0} @ZM))))) ?_;with_reducible repeat' first|intro h|refine aO ?_)
    all_goals try exact oF
    rename_i r3 _ r4
    refine nxF ⟨(r4,i+1),oT⟩ (by simp;omega) (FE.perm (H:=[_,_]) (L:=[(r4,_)]) (by repeat' (first|exact trivial|(refine jO (by simp only[Z9, *,if_true,if_false];try rfl) (jO (by simp[ZW,ZU, *]) ?_))))) (by simp[E2,hs]) ?_
    rw[hs,tL (by simp),List.map_append]
    rfl
   ·have hx':(YR t o U[i]).2 = false:=by simpa using hx
    have hf:stF t o U[i]=none:=by simp[stF,hx']
    rw[hf] at hs
    (refine V1 (jO hn hx') ?_)
    exact nx ⟨(q,i+1),oT⟩ (by simp;omega) (by simp[E2,hs]) (by simp[hs])
  ·obtain rfl:i=U.length:=by omega
   (refine V1 hn ?_;with_reducible repeat' intro h)
   all_goals try exact oF
   rw[List.take_length]
   exact ⟨_,⟨q,rfl,rfl⟩,rfl⟩
 ·have hB':Y9 g t x=false:=by simpa using hB
  rw[stI_no hB']
  (refine V1 hB' ?_)
  exact ⟨_,⟨r0,rfl,rfl⟩,rfl⟩
theorem o135 (g:Gram) (t:List Nod) (x:Int×ByteArray) (hg:ZI g) (hl:t.length≤1048576) (hk:∀x∈t,x.kids.length≤1048576) (H:GH):Gc 135 [Gr g,Tr t,Ins x] H (fun v H'=>∃H1,(∃r,v = .own r 2 0 (stI g t x).length ∧ H1=[(r,2,(stI g t x).map Ins)])∧H'=H1++H):=by
 refine Z5 mxd i135 rfl (by simp) ?_;refine X0 ?_
 (refine V0 ?_;with_reducible repeat' intro h)
 rename_i r0
 refine callS.eq (q97 g t x hg hl) ?_
 by_cases hB:Y9 g t x=true
 ·have hul:=usE_sm (XY hg t x)
  (refine V1 hB ?_)
  have hq:=q180 (Zj g t x) (XY hg t x)
  rw[Y6] at hq
  refine callS.eq hq ?_
  clear hq
  have hst:stI g t x=(usE (Zj g t x) []).filterMap (stF t (YB g t x)):=rfl
  rw[hst]
  generalize usE (Zj g t x) []=U at *
  generalize Zj g t x=e at *
  generalize YB g t x=o at *
  (refine V0 ?_)
  refine X6 mxd (ι:={ y:Nat×Nat // y.2≤U.length }) (fun y=>[(3,.rop 2 (Gr g)),(4,.rop 1 (Tr t)),(7,.own y.1.1 2 0 ((U.take y.1.2).filterMap (stF t o)).length),(8,.rop 8 (DfG o e)),(27,OcS U),(28,I U.length),(29,I y.1.2)]) (fun y=>(y.1.1,2,((U.take y.1.2).filterMap (stF t o)).map Ins)::H) (fun y=>U.length-y.1.2) ⟨(r0,0),by simp⟩ (by simp[E2]) (by simp) ?_
  rintro ⟨⟨q,i⟩,hi⟩ hn
  dsimp only at hi hn ⊢
  replace hn:=Z4 hn
  (replace hn:=hn;simp only[VN] at hn)
  have hfl:=List.length_filterMap_le (stF t o) (U.take i)
  simp only[List.length_take] at hfl
  rcases nL i U.length with hlt|hge
  ·have hs:=fm_step (stF t o) hlt
   (refine V1 hn ?_;with_reducible repeat' first|intro h|apply jO)
   all_goals try exact oF
   refine callS.eq (w181 g t o U[i] hk) ?_
   by_cases hx:(YR t o U[i]).2 = true
   ·have hf:stF t o U[i]=some (YR t o U[i]).1 := by simp[stF,hx]
    rw[hf] at hs
    (refine V1 (jO hn (jO hx (jO @List.length_append.{0} (jO @List.length_singleton.{0} (jO @List.length_map.{0,0} @ZM))))) ?_;with_reducible repeat' first|intro h|refine aO ?_)
    all_goals try exact oF
    rename_i r3 _ r4
    refine nxF ⟨(r4,i+1),oT⟩ (by simp;omega) (FE.perm (H:=[_,_]) (L:=[(r4,_)]) (by repeat' (first|exact trivial|(refine jO (by simp only[Z9, *,if_true,if_false];try rfl) (jO (by simp[ZW,ZU, *]) ?_))))) (by simp[E2,hs]) ?_
    rw[hs,tL (by simp),List.map_append]
    rfl
   ·have hx':(YR t o U[i]).2 = false:=by simpa using hx
    have hf:stF t o U[i]=none:=by simp[stF,hx']
    rw[hf] at hs
    (refine V1 (jO hn hx') ?_)
    exact nx ⟨(q,i+1),oT⟩ (by simp;omega) (by simp[E2,hs]) (by simp[hs])
  ·obtain rfl:i=U.length:=by omega
   (refine V1 hn ?_;with_reducible repeat' intro h)
   all_goals try exact oF
   rw[List.take_length]
   exact ⟨_,⟨q,rfl,rfl⟩,rfl⟩
 ·have hB':Y9 g t x=false:=by simpa using hB
  rw[stI_no hB']
  (refine V1 hB' ?_)
  exact ⟨_,⟨r0,rfl,rfl⟩,rfl⟩
theorem q128 (g:Gram) (t:List Nod) (x:Int×ByteArray) (hg:ZI g) (hl:t.length≤1048576) (hk:∀x∈t,x.kids.length≤1048576):Pu 128 [Gr g,Tr t,Ins x] (· = YP (stI g t x)):=
 Pure.bor ((o128 g t x hg hl hk []).mono fun v H' ⟨H1,⟨r,h1,h2⟩,h3⟩=>by
  subst h1;subst h2;subst h3
  exact bor_Ins ZZ rfl)
theorem q135 (g:Gram) (t:List Nod) (x:Int×ByteArray) (hg:ZI g) (hl:t.length≤1048576) (hk:∀x∈t,x.kids.length≤1048576):Pu 135 [Gr g,Tr t,Ins x] (· = YP (stI g t x)):=
 Pure.bor ((o135 g t x hg hl hk []).mono fun v H' ⟨H1,⟨r,h1,h2⟩,h3⟩=>by
  subst h1;subst h2;subst h3
  exact bor_Ins ZZ rfl)
theorem w38 (L:List Oc) (y:Oc):Pu 38 [YP L,Ins y] (· = I (ixI L y)):=by
 refine GCalls.lenA fun hlen=> ?_
 have hlen:=hlen.1.1
 simp only[List.length_map,Zn] at hlen
 refine Z5 mxd i38 rfl (by simp) ?_;refine X0 ?_
 (refine V0 ?_)
 refine ZL mxd (ι:={ i:Nat // i≤L.length∧∀a∈L.take i,decide (a=y)=false }) (fun i=>[(0,YP L),(3,.rop 2 (Ins y)),(5,I i.1)]) (fun _ => []) (fun i=>L.length-i.1) ⟨0,by simp⟩ (by simp[E2]) rfl ?_
 rintro ⟨i,hi,hn⟩
 rcases nL i L.length with hlt|hge
 ·by_cases he:L[i]=y
  ·have he1:L[i].1 = y.1:=by rw[he]
   have he2:L[i].2 = y.2:=by rw[he]
   have e:ixI L y=i:=YT hlt (by simp[he]) hn
   rw[e]
   (refine V1 (jO he1 he2) ?_;with_reducible repeat' intro h)
   all_goals first|rfl|(exfalso;omega)
  ·(refine V0 ?_;with_reducible repeat' first|intro h|apply jO)
   all_goals first
    | (exfalso;exact he (Prod.ext (by assumption) (by assumption)))
    | (exfalso;omega)
    | exact nx ⟨i+1,oT,ZA hlt (by simp[he]) hn⟩ (by simp;omega) (by simp[E2]) rfl
 ·obtain rfl:i=L.length:=by omega
  rw[List.take_length] at hn
  have e:ixI L y = -1:=YV hn
  rw[e]
  (refine V0 ?_;with_reducible repeat' first|intro h|refine aO ?_)
  all_goals first|rfl|(exfalso;omega)
theorem w132 (L:List Oc) (y:Oc):Pu 132 [YP L,Ins y] (· = I (ixI L y)):=by
 refine GCalls.lenA fun hlen=> ?_
 have hlen:=hlen.1.1
 simp only[List.length_map,Zn] at hlen
 refine Z5 mxd i132 rfl (by simp) ?_;refine X0 ?_
 (refine V0 ?_)
 refine ZL mxd (ι:={ i:Nat // i≤L.length∧∀a∈L.take i,decide (a=y)=false }) (fun i=>[(0,YP L),(3,.rop 2 (Ins y)),(7,I L.length),(8,I i.1)]) (fun _ => []) (fun i=>L.length-i.1) ⟨0,by simp⟩ (by simp[E2]) rfl ?_
 rintro ⟨i,hi,hn⟩
 rcases nL i L.length with hlt|hge
 ·by_cases he:L[i]=y
  ·have he1:y.1=L[i].1 := by rw[he]
   have he2:y.2=L[i].2 := by rw[he]
   have e:ixI L y=i:=YT hlt (by simp[he]) hn
   rw[e]
   (refine V1 (jO he1 he2) ?_;with_reducible repeat' intro h)
   all_goals first|rfl|(exfalso;omega)
  ·(refine V0 ?_;with_reducible repeat' first|intro h|apply jO)
   all_goals first
    | (exfalso;exact he (Prod.ext (Eq.symm (by assumption)) (Eq.symm (by assumption))))
    | (exfalso;omega)
    | exact nx ⟨i+1,oT,ZA hlt (by simp[he]) hn⟩ (by simp;omega) (by simp[E2]) rfl
 ·obtain rfl:i=L.length:=by omega
  rw[List.take_length] at hn
  have e:ixI L y = -1:=YV hn
  rw[e]
  (refine V0 ?_;with_reducible repeat' first|intro h|refine aO ?_)
  all_goals first|rfl|(exfalso;omega)
theorem w84 (L:List Oc) (y:Oc):Pu 84 [YP L,Ins y] (· = I (ixI L y)):=by
 refine Z5 mxd i84 rfl (by simp) ?_;refine X0 ?_
 (refine V0 ?_)
 refine callS.eq (w132 L y) ?_
 (refine V0 ?_;with_reducible repeat' exact trivial)
end Go.Proofs.YtknbnefbgpnkgaaGreat
