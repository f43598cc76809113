/- The law FnDefined returns true whatever the input, and the input reads behind the call as before. No condition. -/
import Derived.Test.YtofcbmnplanmkaaGreatFde2
set_option maxHeartbeats 40000000
set_option linter.unusedSimpArgs false
set_option linter.unusedVariables false
namespace Go.Proofs.YtofcbmnplanmkaaGreat
open Go.Gh
open Nat (reduceEqDiff reduceLeDiff reduceAdd reduceLT)
open Int (reduceNe)
set_option maxRecDepth 20000
set_option linter.unusedSimpArgs false
set_option linter.unusedVariables false
theorem o13 (g:Gram) (t:List Nod) (hg:Zw g) (hl:t.length≤1048576) (hk:∀x∈t,x.kids.length≤1048576) (H:GH):Gc 13 [Gr g,Tr t] H (fun v H'=>∃H1,(∃r,v = .own r 2 0 (insL g t).length ∧ H1=[(r,2,(insL g t).map Ins)])∧H'=H1++H):=by
 refine ZW mxd i13 rfl (by simp) ?_;refine X0 ?_
 (refine V0 ?_;with_reducible repeat' first|exact trivial|intro h|refine aO ?_|refine eO ?_|apply jO)
 rename_i r0
 refine callS.eq (w44 g t 0 hg) ?_
 (refine V0 ?_;with_reducible repeat' first|exact trivial|intro h|refine aO ?_|refine eO ?_|apply jO)
 refine callS.eq (w43 g t _ hg hl hk) ?_
 have hil:=insL_len hg t
 by_cases ht:treeOf g t (symN g t 0)=true
 ·have htl:=treeOf_len ht
  have hia:=insA_len hg t
  rw [insL,if_pos ht] at hil ⊢
  (refine V1 ht ?_;with_reducible repeat' first|exact trivial|intro h|refine aO ?_|refine eO ?_|apply jO)
  refine wloopN mxd (ι:={ y:Nat×Nat // y.2≤t.length }) (fun y=>[(2,.rop 2 (Gr g)),(3,.rop 1 (Tr t)),(5,.own y.1.1 2 0 (insA g t y.1.2).length),(6,I y.1.2)]) (fun y=>(y.1.1,2,(insA g t y.1.2).map Ins)::H) (fun y=>t.length-y.1.2) ⟨(r0,0),by simp⟩ (by simp [E2,insA]) (by simp [insA]) ?_
  rintro ⟨⟨q,i⟩,hi⟩ hn
  dsimp only at hi hn ⊢
  replace hn:=Z0 hn
  (replace hn:=hn;simp only [VN] at hn)
  rcases nL i t.length with hlt|hge
  ·(refine V1 hn ?_;with_reducible repeat' first|exact trivial|intro h|refine aO ?_|refine eO ?_|apply jO)
   all_goals try exact oF
   refine callS.eq (w44 g t i hg) ?_
   (refine V1 hn ?_;with_reducible repeat' first|exact trivial|intro h|refine aO ?_|refine eO ?_|apply jO)
   refine callS.eq (w45 g _ hg) ?_
   (refine V1 hn ?_;with_reducible repeat' first|exact trivial|intro h|refine aO ?_|refine eO ?_|apply jO)
   have hsl:(Zv g.syms (symN g t i)).atts.length ≤ 1048576:=smSy_f hg _
   have hik:insK g t i=(Zv g.syms (symN g t i)).atts.map fun a=>(t[i].id,a.name):=by simp only [insK];rw [ZJ hlt]
   have hai:=hia i
   generalize Zv g.syms (symN g t i)=s at *
   refine wloopN mxd (ι:={ y:Nat×Nat // y.2≤s.atts.length }) (fun y=>[(2,.rop 2 (Gr g)),(3,.rop 1 (Tr t)),(5,.own y.1.1 2 0 ((insA g t i).length + y.1.2)),(6,I i),(7,.rop 2 (Sy s)),(9,I y.1.2)]) (fun y=>(y.1.1,2,(insA g t i++(insK g t i).take y.1.2).map Ins)::H) (fun y=>s.atts.length-y.1.2) ⟨(q,0),by simp⟩ (by simp [E2]) (by simp) ?_
   rintro ⟨⟨q2,k⟩,hk2⟩ hn2
   dsimp only at hk2 hn2 ⊢
   replace hn2:=Z0 hn2
   (replace hn2:=hn2;simp only [VN] at hn2)
   have hkl:(insK g t i).length = s.atts.length:=by rw [hik];simp
   rcases nL k s.atts.length with hlt2|hge2
   ·(refine V1 (jO hn2 (jO @List.length_append.{0} (jO @List.length_singleton.{0} (jO @List.length_map.{0,0} (jO @List.length_take.{0} @ZQ))))) ?_;with_reducible repeat' first|exact trivial|intro h|refine aO ?_|refine eO ?_|apply jO)
    all_goals try exact oF
    rename_i r3 _ r4
    refine nxF ⟨(r4,k+1),by omega⟩ (by simp;omega) (FE.perm (H:=[_,_]) (L:=[(r4,_)]) (by repeat' (first|exact trivial|(refine And.intro (by simp only [Z9, *,if_true,if_false];try rfl) (And.intro (by simp [ZS,ZR, *]) ?_))))) (by simp [E2];omega) ?_
    have hk3:k<(insK g t i).length := by omega
    have hx:(insK g t i)[k]=(t[i].id,s.atts[k].name):=by simp only [hik,List.getElem_map]
    have e:=takeApp3 Ins (insA g t i) (insK g t i) k hk3 ((insA g t i).length + k) (by simp;omega)
    rw [hx] at e
    rw [←hik]
    exact congrArg (fun l=>(r4,2,l)::H) e
   ·obtain rfl:k=s.atts.length:=by omega
    (refine V1 (jO hn2 @ZQ) ?_;with_reducible repeat' first|exact trivial|intro h|refine aO ?_|refine eO ?_|apply jO)
    all_goals try exact oF
    have ha:insA g t (i+1)=insA g t i++insK g t i:=rfl
    refine nx ⟨(q2,i+1),by omega⟩ (by simp;omega) (by simp [E2,ha,hkl]) ?_
    rw [ha,tL (by omega)]
  ·obtain rfl:i=t.length:=by omega
   (refine V1 hn ?_;with_reducible repeat' first|exact trivial|intro h|refine aO ?_|refine eO ?_|apply jO)
   all_goals try exact oF
   exact ⟨_,⟨q,rfl,rfl⟩,rfl⟩
 ·rw [insL,if_neg ht]
  have ht':treeOf g t (symN g t 0)=false:=by simpa using ht
  (refine V1 ht' ?_;with_reducible repeat' first|exact trivial|intro h|refine aO ?_|refine eO ?_|apply jO)
  exact ⟨_,⟨r0,rfl,rfl⟩,rfl⟩
end Go.Proofs.YtofcbmnplanmkaaGreat
namespace Go.Proofs.YtofcbmnplanmkaaGreat
open Go.Gh
open Nat (reduceEqDiff reduceLeDiff reduceAdd reduceLT)
open Int (reduceNe)
set_option maxRecDepth 20000
set_option linter.unusedSimpArgs false
set_option linter.unusedVariables false
end Go.Proofs.YtofcbmnplanmkaaGreat
