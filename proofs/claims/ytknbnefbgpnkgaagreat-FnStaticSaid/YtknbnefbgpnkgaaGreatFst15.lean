/- The laws FnStatic and FnStaticTypes return true whatever the input, and the input reads behind the call as before. No condition. -/
import Derived.Test.YtknbnefbgpnkgaaGreatFst14
set_option maxHeartbeats 40000000
set_option maxRecDepth 20000
set_option linter.unusedSimpArgs false
set_option linter.unusedVariables false
namespace Go.Proofs.YtknbnefbgpnkgaaGreat
open Go.Gh
open Nat (reduceEqDiff reduceLeDiff reduceAdd reduceLT)
open Int (reduceNe)
theorem o77 (g:Gram) (t:List Nod) (hg:ZI g) (hl:t.length≤1048576) (hk:∀x∈t,x.kids.length≤1048576) (H:GH):Gc 77 [Gr g,Tr t] H (fun v H'=>∃H1,(∃r,v = .own r 1 0 (ZQ g t).length ∧ H1=[(r,1,(Zq g t).map ItO)])∧H'=H1++H):=by
 refine Z5 mxd i77 rfl (by simp) ?_;refine X0 ?_
 (refine V0 ?_)
 refine callS.eq (q27 g t hg hl hk) ?_
 have hLl:=insL_len hg t
 have hT:Zq g t=(ZQ g t).map (rowI g t (ZQ g t)):=rfl
 rw[hT]
 generalize ZQ g t=L at *
 (refine V0 ?_;with_reducible repeat' intro h)
 rename_i r0
 refine X6 mxd (ι:={ y:Nat×Nat // y.2≤L.length }) (fun y=>[(2,.rop 2 (Gr g)),(3,.rop 1 (Tr t)),(5,YP L),(6,.own y.1.1 1 0 y.1.2),(7,I y.1.2)]) (fun y=>(y.1.1,1,((L.take y.1.2).map (rowI g t L)).map ItO)::H) (fun y=>L.length-y.1.2) ⟨(r0,0),by simp⟩ (by simp[E2]) (by simp) ?_
 rintro ⟨⟨q,i⟩,hi⟩ hn
 dsimp only at hi hn ⊢
 replace hn:=Z4 hn
 (replace hn:=hn;simp only[VN] at hn)
 rcases nL i L.length with hlt|hge
 ·(refine V1 hn ?_;with_reducible repeat' first|intro h|apply jO)
  all_goals try exact oF
  refine callS.eq (q128 g t L[i] hg hl hk) ?_
  have hS:rowI g t L L[i]=(stI g t L[i]).map (ixI L):=rfl
  have hsl:=stI_len hg t L[i]
  generalize stI g t L[i]=S at *
  (refine V1 hn ?_;with_reducible repeat' intro h)
  rename_i r1
  refine X6 mxd (ι:={ y:Nat×Nat // y.2≤S.length }) (fun y=>[(2,.rop 2 (Gr g)),(3,.rop 1 (Tr t)),(5,YP L),(6,.own q 1 0 i),(7,I i),(8,YP S),(9,.own y.1.1 1 0 y.1.2),(10,I y.1.2)]) (fun y=>(y.1.1,1,((S.take y.1.2).map (ixI L)).map I)::(q,1,((L.take i).map (rowI g t L)).map ItO)::H) (fun y=>S.length-y.1.2) ⟨(r1,0),by simp⟩ (by simp[E2]) (by simp) ?_
  rintro ⟨⟨p,k⟩,hk2⟩ hn2
  dsimp only at hk2 hn2 ⊢
  replace hn2:=Z4 hn2
  (replace hn2:=hn2;simp only[VN] at hn2)
  rcases nL k S.length with hlt2|hge2
  ·(refine V1 hn2 ?_;with_reducible repeat' first|intro h|refine aO ?_|apply jO)
   all_goals try exact oF
   refine callS.eq (w38 L S[k]) ?_
   (refine V1 (jO hn2 (jO @List.length_append.{0} (jO @List.length_singleton.{0} (jO @List.length_map.{0,0} (jO @List.length_take.{0} @ZM))))) ?_;with_reducible repeat' first|intro h|refine aO ?_)
   all_goals try exact oF
   rename_i r3 _ r4
   refine nxF ⟨(r4,k+1),oT⟩ (by simp;omega) (FE.perm (H:=[_,_,_]) (L:=[(r4,_),(q,_)]) (by repeat' (first|exact trivial|(refine jO (by simp only[Z9, *,if_true,if_false];try rfl) (jO (by simp[ZW,ZU, *]) ?_))))) (by simp[E2]) ?_
   rw[Yk I (ixI L) S k hlt2]
   rfl
  ·obtain rfl:k=S.length:=by omega
   (refine V1 (jO hn2 (jO @List.length_append.{0} (jO @List.length_singleton.{0} (jO @List.length_map.{0,0} (jO @List.length_take.{0} @ZM))))) ?_;with_reducible repeat' first|intro h|refine aO ?_)
   all_goals try exact oF
   rename_i r5 _ r6
   refine nxF ⟨(r6,i+1),oT⟩ (by simp;omega) (FE.trans (FE.perm (H:=[_,_,_]) (L:=[(r6,_),(p,_)]) (by repeat' (first|exact trivial|(refine jO (by simp only[Z9, *,if_true,if_false];try rfl) (jO (by simp[ZW,ZU, *]) ?_))))) (FE.closeE2 (by simp[*]) (by simp))) (by simp[E2]) ?_
   rw[List.take_length,←hS,Yk ItO (rowI g t L) L i hlt]
   rfl
 ·obtain rfl:i=L.length:=by omega
  (refine V1 hn ?_;with_reducible repeat' intro h)
  all_goals try exact oF
  rw[List.take_length]
  exact ⟨_,⟨q,rfl,rfl⟩,rfl⟩
theorem q77 (g:Gram) (t:List Nod) (hg:ZI g) (hl:t.length≤1048576) (hk:∀x∈t,x.kids.length≤1048576):Pu 77 [Gr g,Tr t] (· = TbS (Zq g t)):=
 Pure.bor ((o77 g t hg hl hk []).mono fun v H' ⟨H1,⟨r,h1,h2⟩,h3⟩=>by
  subst h1;subst h2;subst h3
  exact Bor.seen view_ItO ZZ (by simp[Zq]))
theorem o88 (g:Gram) (t:List Nod) (hg:ZI g) (hl:t.length≤1048576) (hk:∀x∈t,x.kids.length≤1048576) (H:GH):Gc 88 [Gr g,Tr t] H (fun v H'=>∃H1,(∃r,v = .own r 1 0 (ZQ g t).length ∧ H1=[(r,1,(Zq g t).map ItO)])∧H'=H1++H):=by
 refine Z5 mxd i88 rfl (by simp) ?_;refine X0 ?_
 (refine V0 ?_)
 refine callS.eq (q46 g t hg hl hk) ?_
 have hLl:=insL_len hg t
 have hT:Zq g t=(ZQ g t).map (rowI g t (ZQ g t)):=rfl
 rw[hT]
 generalize ZQ g t=L at *
 (refine V0 ?_;with_reducible repeat' intro h)
 rename_i r0
 refine X6 mxd (ι:={ y:Nat×Nat // y.2≤L.length }) (fun y=>[(2,.rop 2 (Gr g)),(3,.rop 1 (Tr t)),(5,YP L),(6,.own y.1.1 1 0 y.1.2),(16,YP L),(17,I L.length),(18,I y.1.2)]) (fun y=>(y.1.1,1,((L.take y.1.2).map (rowI g t L)).map ItO)::H) (fun y=>L.length-y.1.2) ⟨(r0,0),by simp⟩ (by simp[E2]) (by simp) ?_
 rintro ⟨⟨q,i⟩,hi⟩ hn
 dsimp only at hi hn ⊢
 replace hn:=Z4 hn
 (replace hn:=hn;simp only[VN] at hn)
 rcases nL i L.length with hlt|hge
 ·(refine V1 hn ?_;with_reducible repeat' first|intro h|apply jO)
  all_goals try exact oF
  refine callS.eq (q135 g t L[i] hg hl hk) ?_
  have hS:rowI g t L L[i]=(stI g t L[i]).map (ixI L):=rfl
  have hsl:=stI_len hg t L[i]
  generalize stI g t L[i]=S at *
  (refine V1 hn ?_)
  rename_i r1
  refine X6 mxd (ι:={ y:Nat×Nat // y.2≤S.length }) (fun y=>[(2,.rop 2 (Gr g)),(3,.rop 1 (Tr t)),(5,YP L),(6,.own q 1 0 i),(16,YP L),(17,I L.length),(18,I i),(26,YP S),(27,I S.length),(28,I y.1.2),(9,.own y.1.1 1 0 y.1.2)]) (fun y=>(y.1.1,1,((S.take y.1.2).map (ixI L)).map I)::(q,1,((L.take i).map (rowI g t L)).map ItO)::H) (fun y=>S.length-y.1.2) ⟨(r1,0),by simp⟩ (by simp[E2]) (by simp) ?_
  rintro ⟨⟨p,k⟩,hk2⟩ hn2
  dsimp only at hk2 hn2 ⊢
  replace hn2:=Z4 hn2
  (replace hn2:=hn2;simp only[VN] at hn2)
  rcases nL k S.length with hlt2|hge2
  ·(refine V1 hn2 ?_;with_reducible repeat' first|intro h|refine aO ?_|apply jO)
   all_goals try exact oF
   refine callS.eq (w84 L S[k]) ?_
   (refine V1 (jO hn2 (jO @List.length_append.{0} (jO @List.length_singleton.{0} (jO @List.length_map.{0,0} (jO @List.length_take.{0} @ZM))))) ?_;with_reducible repeat' first|intro h|refine aO ?_)
   all_goals try exact oF
   rename_i r3 _ r4
   refine nxF ⟨(r4,k+1),oT⟩ (by simp;omega) (FE.perm (H:=[_,_,_]) (L:=[(r4,_),(q,_)]) (by repeat' (first|exact trivial|(refine jO (by simp only[Z9, *,if_true,if_false];try rfl) (jO (by simp[ZW,ZU, *]) ?_))))) (by simp[E2]) ?_
   rw[Yk I (ixI L) S k hlt2]
   rfl
  ·obtain rfl:k=S.length:=by omega
   (refine V1 (jO hn2 (jO @List.length_append.{0} (jO @List.length_singleton.{0} (jO @List.length_map.{0,0} (jO @List.length_take.{0} @ZM))))) ?_;with_reducible repeat' first|intro h|refine aO ?_)
   all_goals try exact oF
   rename_i r5 _ r6
   refine nxF ⟨(r6,i+1),oT⟩ (by simp;omega) (FE.trans (FE.perm (H:=[_,_,_]) (L:=[(r6,_),(p,_)]) (by repeat' (first|exact trivial|(refine jO (by simp only[Z9, *,if_true,if_false];try rfl) (jO (by simp[ZW,ZU, *]) ?_))))) (FE.closeE2 (by simp[*]) (by simp))) (by simp[E2]) ?_
   rw[List.take_length,←hS,Yk ItO (rowI g t L) L i hlt]
   rfl
 ·obtain rfl:i=L.length:=by omega
  (refine V1 hn ?_;with_reducible repeat' intro h)
  all_goals try exact oF
  rw[List.take_length]
  exact ⟨_,⟨q,rfl,rfl⟩,rfl⟩
theorem q88 (g:Gram) (t:List Nod) (hg:ZI g) (hl:t.length≤1048576) (hk:∀x∈t,x.kids.length≤1048576):Pu 88 [Gr g,Tr t] (· = TbS (Zq g t)):=
 Pure.bor ((o88 g t hg hl hk []).mono fun v H' ⟨H1,⟨r,h1,h2⟩,h3⟩=>by
  subst h1;subst h2;subst h3
  exact Bor.seen view_ItO ZZ (by simp[Zq]))
end Go.Proofs.YtknbnefbgpnkgaaGreat
