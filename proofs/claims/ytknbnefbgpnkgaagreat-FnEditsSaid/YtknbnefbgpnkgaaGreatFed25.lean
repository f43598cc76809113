/- The laws FnEdits, FnEdited and FnSwapped return true whatever the input, and the input reads behind the call as before. No condition. -/
import Derived.Test.YtknbnefbgpnkgaaGreatFed24
set_option maxHeartbeats 40000000
set_option maxRecDepth 20000
set_option linter.unusedSimpArgs false
set_option linter.unusedVariables false
namespace Go.Proofs.YtknbnefbgpnkgaaGreat
open Go.Gh
open Nat (reduceEqDiff reduceLeDiff reduceAdd reduceLT)
open Int (reduceNe)
theorem p17 (g:Gram) (t:List Nod) (e:Edi) (hg:ZA g) (ho:okGr g) (hl:t.length≤1048576) (hx:∀x∈t,x.kids.length≤1048576) (hu1:e.tree.length≤1048576) (hu2:∀x∈e.tree,x.kids.length≤1048576) (H:GH) :
 Gc 17 [Gr g,Tr t,Ed e] H (fun v H'=>∃H1,(∃r,v = .tup [.agg [.own r 6 0 (edT g t e).1.length],I (edT g t e).2]∧H1=[(r,6,(edT g t e).1.map NdO)])∧H'=H1++H):=
 (o17 g t e hg ho hl hx hu1 hu2 H).mono fun v H' ⟨r,h1,h2⟩=>⟨_,⟨r,h1,rfl⟩,h2⟩
theorem o25 (g:Gram) (t:List Nod) (L:List Edi) (hg:ZA g) (ho:okGr g) (hl:t.length≤1048576) (hx:∀x∈t,x.kids.length≤1048576) (hL:L.length≤1048576) (hu:∀e∈L,e.tree.length≤1048576∧∀x∈e.tree,x.kids.length≤1048576) (H:GH) :
 Gc 25 [Gr g,Tr t,EdS L] H (fun v H'=>∃H1,(∃q c,c≠q∧v = .tup [.agg [.own q 6 0 (Zq g t L L.length).length],.own c 1 0 L.length]∧H1=[(c,1,(edC g t L).map I),(q,6,(Zq g t L L.length).map NdO)])∧H'=H1++H):=by
 have h0:Gc 25 [Gr g,Tr t,EdS L] H (fun v H'=>∃q c r0 x,(q≠c∧q≠r0∧r0≠c)∧v = .tup [.agg [.own q 6 0 (Zq g t L L.length).length],.own c 1 0 L.length]∧H'=(c,1,(edC g t L).map I)::(r0,1,x)::(q,6,(Zq g t L L.length).map NdO)::H):=by
  have hsm:=edTr_sm (g:=g) (t:=t) (L:=L) ⟨hl,hx⟩
  have hCl:=Yl g t L
  have hCg:∀k,∀h:k<L.length,∀h':k<(edC g t L).length,(edC g t L)[k]=(edT g (Zq g t L k) L[k]).2 := fun k h h'=>edC_get h h'
  have hTs:∀k,∀h:k<L.length,Zq g t L (k+1)=(edT g (Zq g t L k) L[k]).1 := fun k h=>edTr_s h
  have hT0:Zq g t L 0=t:=rfl
  generalize Zq g t L=TR at *
  generalize edC g t L=C at *
  refine ZZ mxd i25 rfl (by simp) ?_;refine X0 ?_
  (refine V0 ?_)
  refine callS.of (o65 t hl hx _) ?_
  rintro v H' ⟨q0,rfl,rfl⟩ hn
  replace hn:=Z6 hn
  (replace hn:=hn;simp only[VN] at hn)
  (refine V1 hn ?_;with_reducible repeat' intro h)
  rename_i r0 _ c0
  refine wloopN mxd (ι:={ x:(Nat×Nat)×Nat // x.2≤L.length }) (fun x=>[(2,EdS L),(3,.rop 2 (Gr g)),(4,.rop 1 (Tr t)),(6,.raw 1),(8,.ptr r0 1 0 0),(9,.own x.1.1.2 1 0 x.1.2),(10,I x.1.2)]) (fun x=>(x.1.1.2,1,(C.take x.1.2).map I)::(r0,1,[.agg [.own x.1.1.1 6 0 (TR x.1.2).length]])::(x.1.1.1,6,(TR x.1.2).map NdO)::H) (fun x=>L.length-x.1.2) ⟨((q0,c0),0),by simp⟩ (by simp[E2]) (by simp[hT0]) ?_
  rintro ⟨⟨⟨q,c⟩,k⟩,hk⟩ hn
  dsimp only at hk hn ⊢
  replace hn:=Z6 hn
  (replace hn:=hn;simp only[VN] at hn)
  have hcl:(C.take k).length = k:=by simp;omega
  rcases nL k L.length with hlt|hge
  ·have hs:=hsm k
   have hue:=hu _ (gM hlt)
   have hc:=p17 g (TR k) L[k] hg ho hs.1 hs.2 hue.1 hue.2
   rw[←hTs k hlt,←hCg k hlt oT] at hc
   clear hTs hCg
   (refine V1 hn ?_;with_reducible repeat' first|intro h|apply jO)
   all_goals try exact oF
   refine callA.lend hc (.cons .refl (.cons (bor_Tr (by simp[Z9,hn]) rfl) (.cons .refl .nil))) (by rintro v H1 ⟨r,rfl,rfl⟩;simp[noD,noDH,noDL_eq]) ?_
   rintro v H1 ⟨q2,rfl,rfl⟩ hn2
   simp only[List.cons_append,List.nil_append] at hn2 ⊢
   replace hn2:=Z6 hn2
   (replace hn2:=hn2;simp only[VN] at hn2)
   (refine V1 (jO hn2 (jO @List.length_append.{0} (jO @List.length_singleton.{0} (jO @List.length_map.{0,0} (jO @List.length_take.{0} @ZQ))))) ?_;with_reducible repeat' first|intro h|refine aO ?_)
   all_goals try exact oF
   rename_i r3 _ r4
   have e:=takeApp I C k oT
   refine nxF ⟨((q2,r4),k+1),oT⟩ (by simp;omega) (FE.perm (H:=[_,_,_,_,_]) (L:=[(r4,_),(r0,_),(q2,_)]) (by repeat' (first|exact trivial|(refine jO (by simp only[Z9, *,if_true,if_false];try rfl) (jO (by simp[ZW,ZV, *]) ?_))))) (by simp[E2]) ?_
   rfl
  ·obtain rfl:k=L.length:=by omega
   rw[tL oT]
   (refine V1 hn ?_;with_reducible repeat' intro h)
   all_goals try exact oF
   exact ⟨q,c,r0,_,⟨by simp[hn],by simp[hn],by simp[hn]⟩,rfl,rfl⟩
 refine h0.fr ?_
 rintro v H' ⟨q,c,r0,x,⟨h1,h2,h3⟩,rfl,rfl⟩
 exact ⟨_,_,FR.drop (r:=r0) (by rw[YL (Ne.symm h3),ZX]),_,⟨q,c,Ne.symm h1,rfl,rfl⟩,by rw[YE (Ne.symm h3),YW];rfl⟩
theorem o24 (g:Gram) (t:List Nod) (L:List Edi) (hg:ZA g) (ho:okGr g) (hl:t.length≤1048576) (hx:∀x∈t,x.kids.length≤1048576) (hL:L.length≤1048576) (hu:∀e∈L,e.tree.length≤1048576∧∀x∈e.tree,x.kids.length≤1048576) (H:GH) :
 Gc 24 [Gr g,Tr t,EdS L] H (fun v H'=>∃H1,(∃q c,c≠q∧v = .tup [.agg [.own q 6 0 (Zq g t L L.length).length],.own c 1 0 L.length]∧H1=[(c,1,(edC g t L).map I),(q,6,(Zq g t L L.length).map NdO)])∧H'=H1++H):=by
 have h0:Gc 24 [Gr g,Tr t,EdS L] H (fun v H'=>∃q c r0 x,(q≠c∧q≠r0∧r0≠c)∧v = .tup [.agg [.own q 6 0 (Zq g t L L.length).length],.own c 1 0 L.length]∧H'=(r0,1,x)::(c,1,(edC g t L).map I)::(q,6,(Zq g t L L.length).map NdO)::H):=by
  have hsm:=edTr_sm (g:=g) (t:=t) (L:=L) ⟨hl,hx⟩
  have hCl:=Yl g t L
  have hCg:∀k,∀h:k<L.length,∀h':k<(edC g t L).length,(edC g t L)[k]=(edT g (Zq g t L k) L[k]).2 := fun k h h'=>edC_get h h'
  have hTs:∀k,∀h:k<L.length,Zq g t L (k+1)=(edT g (Zq g t L k) L[k]).1 := fun k h=>edTr_s h
  have hT0:Zq g t L 0=t:=rfl
  generalize Zq g t L=TR at *
  generalize edC g t L=C at *
  refine ZZ mxd i24 rfl (by simp) ?_;refine X0 ?_
  (refine V0 ?_)
  refine callS.of (o58 t hl hx _) ?_
  rintro v H' ⟨q0,rfl,rfl⟩ hn
  replace hn:=Z6 hn
  (replace hn:=hn;simp only[VN] at hn)
  (refine V1 hn ?_;with_reducible repeat' intro h)
  rename_i c0 _ r0
  refine wloopN mxd (ι:={ x:(Nat×Nat)×Nat // x.2≤L.length }) (fun x=>[(3,.rop 2 (Gr g)),(4,.rop 1 (Tr t)),(6,.raw 1),(8,.ptr r0 1 0 0),(9,.own x.1.1.2 1 0 x.1.2),(17,EdS L),(18,I L.length),(19,I x.1.2)]) (fun x=>(r0,1,[.agg [.own x.1.1.1 6 0 (TR x.1.2).length]])::(x.1.1.2,1,(C.take x.1.2).map I)::(x.1.1.1,6,(TR x.1.2).map NdO)::H) (fun x=>L.length-x.1.2) ⟨((q0,c0),0),by simp⟩ (by simp[E2]) (by simp[hT0]) ?_
  rintro ⟨⟨⟨q,c⟩,k⟩,hk⟩ hn
  dsimp only at hk hn ⊢
  replace hn:=Z6 hn
  (replace hn:=hn;simp only[VN] at hn)
  have hcl:(C.take k).length = k:=by simp;omega
  rcases nL k L.length with hlt|hge
  ·have hs:=hsm k
   have hue:=hu _ (gM hlt)
   have hc:=p16 g (TR k) L[k] hg ho hs.1 hs.2 hue.1 hue.2
   rw[←hTs k hlt,←hCg k hlt oT] at hc
   clear hTs hCg
   (refine V1 hn ?_;with_reducible repeat' first|intro h|apply jO)
   all_goals try exact oF
   refine callS.lend hc (.cons .refl (.cons (bor_Tr (by simp[Z9,hn]) rfl) (.cons .refl .nil))) (by rintro v H1 ⟨r,rfl,rfl⟩;simp[noD,noDH,noDL_eq]) ?_
   rintro v H1 ⟨q2,rfl,rfl⟩ hn2
   simp only[List.cons_append,List.nil_append] at hn2 ⊢
   replace hn2:=Z6 hn2
   (replace hn2:=hn2;simp only[VN] at hn2)
   (refine V1 (jO hn2 (jO @List.length_append.{0} (jO @List.length_singleton.{0} (jO @List.length_map.{0,0} (jO @List.length_take.{0} @ZQ))))) ?_;with_reducible repeat' first|intro h|refine aO ?_)
   all_goals try exact oF
   rename_i r3 _ r4
   have e:=takeApp I C k oT
   refine nxF ⟨((q2,r4),k+1),oT⟩ (by simp;omega) (FE.perm (H:=[_,_,_,_,_]) (L:=[(r0,_),(r4,_),(q2,_)]) (by repeat' (first|exact trivial|(refine jO (by simp only[Z9, *,if_true,if_false];try rfl) (jO (by simp[ZW,ZV, *]) ?_))))) (by simp[E2]) ?_
   rfl
  ·obtain rfl:k=L.length:=by omega
   rw[tL oT]
   (refine V1 hn ?_;with_reducible repeat' intro h)
   all_goals try exact oF
   exact ⟨q,c,r0,_,⟨by simp[hn],by simp[hn],by simp[hn]⟩,rfl,rfl⟩
 refine h0.fr ?_
 rintro v H' ⟨q,c,r0,x,⟨h1,h2,h3⟩,rfl,rfl⟩
 exact ⟨_,_,FR.drop (r:=r0) ZX,_,⟨q,c,Ne.symm h1,rfl,rfl⟩,by rw[YW];rfl⟩
theorem t_edits {s:List Nod} {C:List Int} {n m:Nat} {v:GV} {H':GH} (hn:s.length=n) (hm:C.length=m) (h:∃H1:GH,(∃q c,c≠q∧v = .tup [.agg [.own q 6 0 n],.own c 1 0 m]∧H1=[(c,1,C.map I),(q,6,s.map NdO)])∧H'=H1++[]):Bor H' v (.tup [Tr s,IS C]):=by
 obtain ⟨H1,⟨q,c,hne,rfl,rfl⟩,rfl⟩:=h
 exact .tup (.cons (bor_Tr (by simp[ZU,hne]) hn) (.cons (bor_IS ZX hm) .nil))
theorem q25 (g:Gram) (t:List Nod) (L:List Edi) (hg:ZA g) (ho:okGr g) (hl:t.length≤1048576) (hx:∀x∈t,x.kids.length≤1048576) (hL:L.length≤1048576) (hu:∀e∈L,e.tree.length≤1048576∧∀x∈e.tree,x.kids.length≤1048576) :
 Pu 25 [Gr g,Tr t,EdS L] (· = .tup [Tr (Zq g t L L.length),IS (edC g t L)]):=
 Pure.bor ((o25 g t L hg ho hl hx hL hu []).mono fun v H' h=>t_edits rfl (Yl g t L) h)
theorem q24 (g:Gram) (t:List Nod) (L:List Edi) (hg:ZA g) (ho:okGr g) (hl:t.length≤1048576) (hx:∀x∈t,x.kids.length≤1048576) (hL:L.length≤1048576) (hu:∀e∈L,e.tree.length≤1048576∧∀x∈e.tree,x.kids.length≤1048576) :
 Pu 24 [Gr g,Tr t,EdS L] (· = .tup [Tr (Zq g t L L.length),IS (edC g t L)]):=
 Pure.bor ((o24 g t L hg ho hl hx hL hu []).mono fun v H' h=>t_edits rfl (Yl g t L) h)
end Go.Proofs.YtknbnefbgpnkgaaGreat
