/- The law FnInstances returns true whatever the input, and the input reads behind the call as before. No condition. -/
import Derived.Test.YtofcbmnplanmkaaDoorFin1
set_option maxHeartbeats 40000000
set_option linter.unusedSimpArgs false
set_option linter.unusedVariables false
namespace Go.Proofs.YtofcbmnplanmkaaDoor
open Go.Gh
open Nat (reduceEqDiff reduceLeDiff reduceAdd reduceLT)
open Int (reduceNe)
set_option maxRecDepth 20000
set_option linter.unusedSimpArgs false
set_option linter.unusedVariables false
theorem w32 (g:Gram) (t:List Nod) (hg:Zj g) (hl:t.length≤1048576) (hk:∀x∈t,x.kids.length≤1048576):Pu 32 [Gr g,Tr t] (· = B (Y9 g t (Y5 g t 0))):=by
 refine ZR mxd i32 rfl (by simp) ?_;refine X0 ?_
 (with_reducible repeat' first|refine callS.eq (w23 g t 0 hg) ?_|refine callS.eq (w48 g t _ hg hl hk) ?_|exact trivial|refine aO ?_|refine eO ?_|apply jO|refine K1 @ZN ?_|intro h)
theorem o8 (g:Gram) (t:List Nod) (hg:Zj g) (hl:t.length≤1048576) (hk:∀x∈t,x.kids.length≤1048576) (H:GH):Gc 8 [Gr g,Tr t] H (fun v H'=>∃H1,(∃r,v = .own r 2 0 (Zm g t).length ∧ H1=[(r,2,(Zm g t).map Ins)])∧H'=H1++H):=by
 refine ZR mxd i8 rfl (by simp) ?_;refine X0 ?_
 (refine V0 ?_;with_reducible repeat' first|exact trivial|intro h|refine aO ?_|refine eO ?_|apply jO)
 rename_i r0
 refine callS.eq (w10 g t 0 hg) ?_
 (refine V0 ?_;with_reducible repeat' first|exact trivial|intro h|refine aO ?_|refine eO ?_|apply jO)
 refine callS.eq (w17 g t _ hg hl hk) ?_
 have hil:=insL_len hg t
 by_cases ht:Y9 g t (Y5 g t 0)=true
 ·have htl:=treeOf_len ht
  have hia:=insA_len hg t
  rw [Zm,if_pos ht] at hil ⊢
  (refine V1 ht ?_;with_reducible repeat' first|exact trivial|intro h|refine aO ?_|refine eO ?_|apply jO)
  refine wloopN mxd (ι:={ y:Nat×Nat // y.2≤t.length }) (fun y=>[(2,.rop 2 (Gr g)),(3,.rop 1 (Tr t)),(5,.own y.1.1 2 0 (Zc g t y.1.2).length),(6,I y.1.2)]) (fun y=>(y.1.1,2,(Zc g t y.1.2).map Ins)::H) (fun y=>t.length-y.1.2) ⟨(r0,0),by simp⟩ (by simp [E2,Zc]) (by simp [Zc]) ?_
  rintro ⟨⟨q,i⟩,hi⟩ hn
  dsimp only at hi hn ⊢
  replace hn:=Z0 hn
  (replace hn:=hn;simp only [VN] at hn)
  rcases nL i t.length with hlt|hge
  ·(refine V1 hn ?_;with_reducible repeat' first|exact trivial|intro h|refine aO ?_|refine eO ?_|apply jO)
   all_goals try exact oF
   refine callS.eq (w10 g t i hg) ?_
   (refine V1 hn ?_;with_reducible repeat' first|exact trivial|intro h|refine aO ?_|refine eO ?_|apply jO)
   refine callS.eq (w9 g _ hg) ?_
   (refine V1 hn ?_;with_reducible repeat' first|exact trivial|intro h|refine aO ?_|refine eO ?_|apply jO)
   have hsl:(Zt g.syms (Y5 g t i)).atts.length ≤ 1048576:=smSy_f hg _
   have hik:insK g t i=(Zt g.syms (Y5 g t i)).atts.map fun a=>(t[i].id,a.name):=by simp only [insK];rw [Zu hlt]
   have hai:=hia i
   generalize Zt g.syms (Y5 g t i)=s at *
   refine wloopN mxd (ι:={ y:Nat×Nat // y.2≤s.atts.length }) (fun y=>[(2,.rop 2 (Gr g)),(3,.rop 1 (Tr t)),(5,.own y.1.1 2 0 ((Zc g t i).length + y.1.2)),(6,I i),(7,.rop 2 (Sy s)),(9,I y.1.2)]) (fun y=>(y.1.1,2,(Zc g t i++(insK g t i).take y.1.2).map Ins)::H) (fun y=>s.atts.length-y.1.2) ⟨(q,0),by simp⟩ (by simp [E2]) (by simp) ?_
   rintro ⟨⟨q2,k⟩,hk2⟩ hn2
   dsimp only at hk2 hn2 ⊢
   replace hn2:=Z0 hn2
   (replace hn2:=hn2;simp only [VN] at hn2)
   have hkl:(insK g t i).length = s.atts.length:=by rw [hik];simp
   rcases nL k s.atts.length with hlt2|hge2
   ·(refine V1 (jO hn2 (jO @List.length_append.{0} (jO @List.length_singleton.{0} (jO @List.length_map.{0,0} (jO @List.length_take.{0} @ZN))))) ?_;with_reducible repeat' first|exact trivial|intro h|refine aO ?_|refine eO ?_|apply jO)
    all_goals try exact oF
    rename_i r3 _ r4
    refine nxF ⟨(r4,k+1),by omega⟩ (by simp;omega) (FE.perm (H:=[_,_]) (L:=[(r4,_)]) (by repeat' (first|exact trivial|(refine And.intro (by simp only [Z9, *,if_true,if_false];try rfl) (And.intro (by simp [ZT,ZO, *]) ?_))))) (by simp [E2];omega) ?_
    have hk3:k<(insK g t i).length := by omega
    have hx:(insK g t i)[k]=(t[i].id,s.atts[k].name):=by simp only [hik,List.getElem_map]
    have e:=takeApp3 Ins (Zc g t i) (insK g t i) k hk3 ((Zc g t i).length + k) (by simp;omega)
    rw [hx] at e
    rw [←hik]
    exact congrArg (fun l=>(r4,2,l)::H) e
   ·obtain rfl:k=s.atts.length:=by omega
    (refine V1 (jO hn2 @ZN) ?_;with_reducible repeat' first|exact trivial|intro h|refine aO ?_|refine eO ?_|apply jO)
    all_goals try exact oF
    have ha:Zc g t (i+1)=Zc g t i++insK g t i:=rfl
    refine nx ⟨(q2,i+1),by omega⟩ (by simp;omega) (by simp [E2,ha,hkl]) ?_
    rw [ha,tL (by omega)]
  ·obtain rfl:i=t.length:=by omega
   (refine V1 hn ?_;with_reducible repeat' first|exact trivial|intro h|refine aO ?_|refine eO ?_|apply jO)
   all_goals try exact oF
   exact ⟨_,⟨q,rfl,rfl⟩,rfl⟩
 ·rw [Zm,if_neg ht]
  have ht':Y9 g t (Y5 g t 0)=false:=by simpa using ht
  (refine V1 ht' ?_;with_reducible repeat' first|exact trivial|intro h|refine aO ?_|refine eO ?_|apply jO)
  exact ⟨_,⟨r0,rfl,rfl⟩,rfl⟩
theorem o16 (g:Gram) (t:List Nod) (hg:Zj g) (hl:t.length≤1048576) (hk:∀x∈t,x.kids.length≤1048576) (H:GH):Gc 16 [Gr g,Tr t] H (fun v H'=>∃H1,(∃r,v = .own r 2 0 (Zm g t).length ∧ H1=[(r,2,(Zm g t).map Ins)])∧H'=H1++H):=by
 refine ZR mxd i16 rfl (by simp) ?_;refine X0 ?_
 (refine V0 ?_;with_reducible repeat' first|exact trivial|intro h|refine aO ?_|refine eO ?_|apply jO)
 rename_i r0
 refine callS.eq (w32 g t hg hl hk) ?_
 have hil:=insL_len hg t
 by_cases ht:Y9 g t (Y5 g t 0)=true
 ·have htl:=treeOf_len ht
  have hia:=insA_len hg t
  rw [Zm,if_pos ht] at hil ⊢
  (refine V1 ht ?_;with_reducible repeat' first|exact trivial|intro h|refine aO ?_|refine eO ?_|apply jO)
  refine wloopN mxd (ι:={ y:Nat×Nat // y.2≤t.length }) (fun y=>[(2,.rop 2 (Gr g)),(3,.rop 1 (Tr t)),(5,.own y.1.1 2 0 (Zc g t y.1.2).length),(19,NdS t),(20,I t.length),(21,I y.1.2)]) (fun y=>(y.1.1,2,(Zc g t y.1.2).map Ins)::H) (fun y=>t.length-y.1.2) ⟨(r0,0),by simp⟩ (by simp [E2,Zc]) (by simp [Zc]) ?_
  rintro ⟨⟨q,i⟩,hi⟩ hn
  dsimp only at hi hn ⊢
  replace hn:=Z0 hn
  (replace hn:=hn;simp only [VN] at hn)
  rcases nL i t.length with hlt|hge
  ·(refine V1 hn ?_;with_reducible repeat' first|exact trivial|intro h|refine aO ?_|refine eO ?_|apply jO)
   all_goals try exact oF
   refine callS.eq (w23 g t i hg) ?_
   (refine V1 hn ?_;with_reducible repeat' first|exact trivial|intro h|refine aO ?_|refine eO ?_|apply jO)
   refine callS.eq (w22 g _ hg) ?_
   (refine V1 hn ?_;with_reducible repeat' first|exact trivial|intro h|refine aO ?_|refine eO ?_|apply jO)
   have hsl:(Zt g.syms (Y5 g t i)).atts.length ≤ 1048576:=smSy_f hg _
   have hik:insK g t i=(Zt g.syms (Y5 g t i)).atts.map fun a=>(t[i].id,a.name):=by simp only [insK];rw [Zu hlt]
   have hai:=hia i
   generalize Zt g.syms (Y5 g t i)=s at *
   refine wloopN mxd (ι:={ y:Nat×Nat // y.2≤s.atts.length }) (fun y=>[(2,.rop 2 (Gr g)),(3,.rop 1 (Tr t)),(5,.own y.1.1 2 0 ((Zc g t i).length + y.1.2)),(19,NdS t),(20,I t.length),(21,I i),(7,.rop 6 (Nd t[i])),(36,AtS s.atts),(37,I s.atts.length),(38,I y.1.2)]) (fun y=>(y.1.1,2,(Zc g t i++(insK g t i).take y.1.2).map Ins)::H) (fun y=>s.atts.length-y.1.2) ⟨(q,0),by simp⟩ (by simp [E2]) (by simp) ?_
   rintro ⟨⟨q2,k⟩,hk2⟩ hn2
   dsimp only at hk2 hn2 ⊢
   replace hn2:=Z0 hn2
   (replace hn2:=hn2;simp only [VN] at hn2)
   have hkl:(insK g t i).length = s.atts.length:=by rw [hik];simp
   rcases nL k s.atts.length with hlt2|hge2
   ·(refine V1 (jO hn2 (jO @List.length_append.{0} (jO @List.length_singleton.{0} (jO @List.length_map.{0,0} (jO @List.length_take.{0} @ZN))))) ?_;with_reducible repeat' first|exact trivial|intro h|refine aO ?_|refine eO ?_|apply jO)
    all_goals try exact oF
    rename_i r3 _ r4
    refine nxF ⟨(r4,k+1),by omega⟩ (by simp;omega) (FE.perm (H:=[_,_]) (L:=[(r4,_)]) (by repeat' (first|exact trivial|(refine And.intro (by simp only [Z9, *,if_true,if_false];try rfl) (And.intro (by simp [ZT,ZO, *]) ?_))))) (by simp [E2];omega) ?_
    have hk3:k<(insK g t i).length := by omega
    have hx:(insK g t i)[k]=(t[i].id,s.atts[k].name):=by simp only [hik,List.getElem_map]
    have e:=takeApp3 Ins (Zc g t i) (insK g t i) k hk3 ((Zc g t i).length + k) (by simp;omega)
    rw [hx] at e
    rw [←hik]
    exact congrArg (fun l=>(r4,2,l)::H) e
   ·obtain rfl:k=s.atts.length:=by omega
    (refine V1 (jO hn2 @ZN) ?_;with_reducible repeat' first|exact trivial|intro h|refine aO ?_|refine eO ?_|apply jO)
    all_goals try exact oF
    have ha:Zc g t (i+1)=Zc g t i++insK g t i:=rfl
    refine nx ⟨(q2,i+1),by omega⟩ (by simp;omega) (by simp [E2,ha,hkl]) ?_
    rw [ha,tL (by omega)]
  ·obtain rfl:i=t.length:=by omega
   (refine V1 hn ?_;with_reducible repeat' first|exact trivial|intro h|refine aO ?_|refine eO ?_|apply jO)
   all_goals try exact oF
   exact ⟨_,⟨q,rfl,rfl⟩,rfl⟩
 ·rw [Zm,if_neg ht]
  have ht':Y9 g t (Y5 g t 0)=false:=by simpa using ht
  (refine V1 ht' ?_;with_reducible repeat' first|exact trivial|intro h|refine aO ?_|refine eO ?_|apply jO)
  exact ⟨_,⟨r0,rfl,rfl⟩,rfl⟩
theorem o6 (g:Gram) (t:List Nod) (hg:Zj g) (hl:t.length≤1048576) (hk:∀x∈t,x.kids.length≤1048576) (H:GH):Gc 6 [Gr g,Tr t] H (fun v H'=>∃H1,(∃r,v = .own r 2 0 (Zm g t).length ∧ H1=[(r,2,(Zm g t).map Ins)])∧H'=H1++H):=by
 refine ZR mxd i6 rfl (by simp) ?_;refine X0 ?_
 (refine V0 ?_;with_reducible repeat' first|exact trivial|intro h|refine aO ?_|refine eO ?_|apply jO)
 refine callS.of (o16 g t hg hl hk _) ?_
 rintro v H' ⟨H1,⟨r,rfl,rfl⟩,rfl⟩ hn
 (refine V0 ?_;with_reducible repeat' first|exact trivial|intro h|refine aO ?_|refine eO ?_|apply jO)
 exact ⟨_,⟨r,rfl,rfl⟩,rfl⟩
end Go.Proofs.YtofcbmnplanmkaaDoor
namespace Go.Proofs.YtofcbmnplanmkaaDoor
open Go.Gh
open Nat (reduceEqDiff reduceLeDiff reduceAdd reduceLT)
open Int (reduceNe)
set_option maxRecDepth 20000
set_option linter.unusedSimpArgs false
set_option linter.unusedVariables false
end Go.Proofs.YtofcbmnplanmkaaDoor
namespace Go.Proofs.YtofcbmnplanmkaaDoor
open Go.Gh
open Nat (reduceEqDiff reduceLeDiff reduceAdd reduceLT)
open Int (reduceNe)
set_option maxRecDepth 20000
set_option linter.unusedSimpArgs false
set_option linter.unusedVariables false
end Go.Proofs.YtofcbmnplanmkaaDoor
namespace Go.Proofs.YtofcbmnplanmkaaDoor
open Go.Gh
open Nat (reduceEqDiff reduceLeDiff reduceAdd reduceLT)
open Int (reduceNe)
set_option maxRecDepth 20000
set_option linter.unusedSimpArgs false
set_option linter.unusedVariables false
theorem q8 (g:Gram) (t:List Nod) (hg:Zj g) (hl:t.length≤1048576) (hk:∀x∈t,x.kids.length≤1048576):Pu 8 [Gr g,Tr t] (· = InsS (Zm g t)):=
 Pure.bor ((o8 g t hg hl hk []).mono fun v H' ⟨H1,⟨r,h1,h2⟩,h3⟩=>by
  subst h1;subst h2;subst h3
  exact bor_Ins ZW rfl)
theorem q6 (g:Gram) (t:List Nod) (hg:Zj g) (hl:t.length≤1048576) (hk:∀x∈t,x.kids.length≤1048576):Pu 6 [Gr g,Tr t] (· = InsS (Zm g t)):=
 Pure.bor ((o6 g t hg hl hk []).mono fun v H' ⟨H1,⟨r,h1,h2⟩,h3⟩=>by
  subst h1;subst h2;subst h3
  exact bor_Ins ZW rfl)
end Go.Proofs.YtofcbmnplanmkaaDoor
