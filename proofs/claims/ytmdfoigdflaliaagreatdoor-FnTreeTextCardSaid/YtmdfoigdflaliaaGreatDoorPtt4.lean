/- The tied card of the law holds. No condition. -/
import Derived.Test.YtmdfoigdflaliaaGreatDoorPtt3
set_option maxHeartbeats 40000000
set_option maxRecDepth 20000
set_option linter.unusedSimpArgs false
set_option linter.unusedVariables false
namespace Go.Proofs.YtmdfoigdflaliaaGreatDoor
open Go.Gh
open Nat (reduceEqDiff reduceLeDiff reduceAdd reduceLT)
open Int (reduceNe)
theorem w67 (l:List Int) (x:Int):Pu 67 [IS l,I x] (· = B (hasI l x)):=by
 refine GCalls.lenA fun hl=> ?_
 have hlen:=hl.1.1
 simp only[List.length_map,Zi] at hlen
 refine ZN mxd i67 rfl (by simp) ?_;refine X0 ?_
 refine Y5 mxd (ι:={ i:Nat // i≤l.length∧∀y∈l.take i,decide (y=x)=false }) (fun i=>[(0,IS l),(1,I x),(5,I i.1)]) (fun _ => []) (fun i=>l.length-i.1) ⟨0,by simp⟩ (by simp[E2]) rfl ?_
 rintro ⟨i,hi,hn⟩
 (refine R0 ?_;with_reducible repeat' first|exact trivial|intro h|refine aO ?_|refine eO ?_|apply jO)
 ·rw[hasI_hit (by assumption) h]
 ·exact nx ⟨i+1,by omega,take_step (by assumption) (by simpa using h) hn⟩ (by simp;omega) (by simp[E2]) rfl
 ·have:i=l.length:=by omega
  subst this
  rw[tL (Nat.le_refl _)] at hn
  rw[hasI_none hn]
theorem w42 (t:List Nod) (hl:t.length≤1048576):Pu 42 [Tr t] (· = B (idsV t&&decide (1≤t.length∧t.length≤16))):=by
 refine Pure.bor ?_
 refine ZN mxd i42 rfl (by simp) ?_;refine X0 ?_
 (refine R0 ?_;with_reducible repeat' first|exact trivial|intro h|refine aO ?_|refine eO ?_|apply jO)
 rename_i r
 refine ploop mxd (ι:={ x:Nat×Nat // x.2≤t.length∧∀j,j<x.2→gid t j=true }) (fun x=>[(1,.rop 1 (Tr t)),(3,.own x.1.1 1 0 x.1.2),(4,I x.1.2)]) (fun x=>[(x.1.1,1,((t.take x.1.2).map (·.id)).map I)]) (fun x=>t.length-x.1.2) ⟨(r,0),by simp⟩ (by simp[E2]) (by simp[subH,ZW,names]) ?_
 rintro ⟨⟨r,i⟩,hi,hn⟩ -
 dsimp only at hi hn ⊢
 rcases nL i t.length with hlt|hge
 ·(with_reducible repeat' first|refine callS.eq (w24 _ _ _) ?_|exact trivial|refine aO ?_|refine eO ?_|apply jO|refine K0 ?_|intro h)
  all_goals try exact oF
  ·refine callS.borA (w67 ((t.take i).map (·.id)) t[i].id) (.cons (bor_IS ZX (by simp;omega)) (.cons .refl .nil)) rfl ?_
   (refine R0 ?_;with_reducible repeat' first|exact trivial|intro h|refine aO ?_|refine eO ?_|apply jO)
   ·rw[hasI_map] at h
    rw[idsV_bad hlt (gid_f2 hlt h)]
    exact .refl
   ·rename_i q2
    have h2:=Z0 h
    (replace h2:=h2;simp only[VN] at h2)
    (refine R1 (jO @Z9 (jO @Z8 (jO @Z7 (jO h2 @t_ldf)))) ?_;with_reducible repeat' first|exact trivial|intro h|refine aO ?_|refine eO ?_|apply jO)
    ·simp;omega
    rename_i hh _ _ _ q3
    have h3:=Z0 h
    (replace h3:=h3;simp only[VN] at h3)
    rw[takeApp2 I (·.id) t i hlt]
    refine px ⟨(q3,i+1),by omega,fun j hj=> ?_⟩ (by simp;omega) (by simp[E2]) (by simp[subH,ZW,names,h3])
    rcases nL j i with hji|hji
    ·exact hn j hji
    ·have:j=i:=by omega
     subst this
     exact gid_t hlt (by assumption) (by rw[←hasI_map];assumption)
  ·rw[idsV_bad hlt (gid_f1 hlt (by assumption))]
   exact .refl
 ·have:i=t.length:=by omega
  subst this
  (with_reducible repeat' first|refine callS.eq (w24 _ _ _) ?_|exact trivial|refine aO ?_|refine eO ?_|apply jO|refine K0 ?_|intro h)
  have e:B (decide (1≤(t.length:Int)∧(t.length:Int)≤16))=B (idsV t&&decide (1≤t.length∧t.length≤16)):=by rw[idsV_ok hn,Bool.true_and];exact bEq (by omega)
  rw[←e]
  exact .refl
theorem w58 (x y:Nod):Pu 58 [Nd x,.rop 6 (Nd y)] (· = B (decide (x.id=y.id))):=by
 refine ZN mxd i58 rfl (by simp) ?_;refine X0 ?_
 try (refine R0 ?_;with_reducible repeat' first|exact trivial|intro h|refine aO ?_|refine eO ?_|apply jO)
theorem w57 (t:List Nod) (f:Nat) (cs:List GV) (p:Nod→Bool) (hp:∀x∈t,Pu f (Nd x::cs) (· = B (p x))) :
 Pu 57 [NdS t,.clo f cs] (· = B (t.any p)):=by
 refine ZN mxd i57 rfl (by simp) ?_;refine X0 ?_
 refine callS.eq (w81 t f cs p hp) ?_
 (refine R0 ?_;with_reducible repeat' first|exact trivial|intro h|refine aO ?_|refine eO ?_|apply jO)
 rw[←any_ix]
theorem w34 (g:Gram) (t:List Nod) (s:ByteArray) (hg:smGr g) (hl:t.length≤1048576) (hk:∀x∈t,x.kids.length≤1048576):Pu 34 [Gr g,Tr t,T s] (· = B (Y3 g t s)):=by
 refine ZN mxd i34 rfl (by simp) ?_;refine X0 ?_
 refine callS.eq (w17 _ _ _) ?_
 (refine R0 ?_;with_reducible repeat' first|exact trivial|intro h|refine aO ?_|refine eO ?_|apply jO)
 rotate_left
 ·simp only[Y3];rw[decide_eq_false (by omega)];rfl
 refine Y5 mxd (ι:={ i:Nat // i≤t.length∧∀j,j<i→gid t j=true }) (fun i=>[(2,T s),(3,.rop 2 (Gr g)),(4,.rop 1 (Tr t)),(15,NdS t),(16,I t.length),(17,I i.1)]) (fun _ => []) (fun i=>t.length-i.1) ⟨0,by simp⟩ (by simp[E2]) rfl ?_
 rintro ⟨i,hi,hn⟩
 rcases nL i t.length with hlt|hge
 ·(with_reducible repeat' first|refine callS.eq (w17 _ _ _) ?_|exact trivial|refine aO ?_|refine eO ?_|apply jO|refine K0 ?_|intro h)
  all_goals try exact oF
  ·rw[show List.drop (Int.toNat 0) (List.take i (List.map Nd t))=(t.take i).map Nd from by simp[List.map_take]]
   refine callS.eq (w57 (t.take i) _ _ (fun y=>decide (y.id=t[i].id)) fun x _ => w58 x t[i]) ?_
   (refine R0 ?_;with_reducible repeat' first|exact trivial|intro h|refine aO ?_|refine eO ?_|apply jO)
   ·rw[treeOf_bad (idsV_bad hlt (gid_f2 hlt h))]
   ·refine nx ⟨i+1,by omega,fun j hj=> ?_⟩ (by simp;omega) (by simp[E2]) rfl
    rcases nL j i with hji|hji
    ·exact hn j hji
    ·have:j=i:=by omega
     subst this
     exact gid_t hlt (by assumption) h
  ·rw[treeOf_bad (idsV_bad hlt (gid_f1 hlt (by assumption)))]
 ·have:i=t.length:=by omega
  subst this
  have hw:=w59 g t hg hl hk t.length 0 (-1) 0 s (by omega)
  simp only[Int.natCast_zero] at hw
  (with_reducible repeat' first|refine callS.eq (hw) ?_|exact trivial|refine aO ?_|refine eO ?_|apply jO|refine K0 ?_|intro h)
  simp only[Y3,idsV_ok hn,Bool.true_and]
  rw[decide_eq_true (show 1≤t.length∧t.length≤16 by omega),Bool.true_and]
theorem w19 (g:Gram) (t:List Nod) (s:ByteArray) (hg:smGr g) (hl:t.length≤1048576) (hk:∀x∈t,x.kids.length≤1048576):Pu 19 [Gr g,Tr t,T s] (· = B (Y3 g t s)):=by
 have hw:=w43 g t hg hl hk t.length 0 (-1) 0 s (by omega)
 simp only[Int.natCast_zero] at hw
 refine ZN mxd i19 rfl (by simp) ?_;refine X0 ?_
 (with_reducible repeat' first|refine callS.eq (w42 t hl) ?_|refine callS.eq (hw) ?_|exact trivial|refine aO ?_|refine eO ?_|apply jO|refine K0 ?_|intro h)
 all_goals first|(simp_all [Y3];done)|(simp_all [Y3];intros;omega)
theorem w53 (g:Gram) (hg:smGr g):Pu 53 [Gr g] (· = T (startS g)):=by
 have hl:=hg.1
 refine ZN mxd i53 rfl (by simp) ?_;refine X0 ?_
 (refine R0 ?_;with_reducible repeat' first|exact trivial|intro h|refine aO ?_|refine eO ?_|apply jO)
 ·simp only[startS];rw[if_neg (by omega)];rfl
 ·simp only[startS,Int.reduceToNat];rw[if_pos (by omega),YS (by omega)]
theorem w15 (g:Gram) (t:List Nod) (hg:smGr g) (hl:t.length≤1048576) (hk:∀x∈t,x.kids.length≤1048576):Pu 15 [Gr g,Tr t] (· = B (Y3 g t (symN g t 0))):=by
 refine ZN mxd i15 rfl (by simp) ?_;simp (maxSteps:=9^7) only[↓ S2,S2,ZT,↓reduceIte,reduceNe,reduceEqDiff,reduceCtorEq,reduceLeDiff,reduceAdd,reduceLT]
 (repeat' (first|(with_reducible refine callS.eq (w35 g t 0 hg) ?_)|(with_reducible refine callS.eq (w34 g t _ hg hl hk) ?_)|simp (maxSteps:=9^7) only[↓ S2,S2,ZT,↓reduceIte,reduceNe,reduceEqDiff,reduceCtorEq,reduceLeDiff,reduceAdd,reduceLT,ZM]|simp only[Z5]|simp +contextual (disch:=omega) only[Z2]|with_reducible first|intro h|refine And.intro (by omega) ?_ | refine exP (by omega) ?_ | apply And.intro))
end Go.Proofs.YtmdfoigdflaliaaGreatDoor
namespace Go.Proofs.YtmdfoigdflaliaaGreatDoor
open Go.Gh
open Nat (reduceEqDiff reduceLeDiff reduceAdd reduceLT)
open Int (reduceNe)
end Go.Proofs.YtmdfoigdflaliaaGreatDoor
namespace Go.Proofs.YtmdfoigdflaliaaGreatDoor
open Go.Gh
open Nat (reduceEqDiff reduceLeDiff reduceAdd reduceLT)
open Int (reduceNe)
end Go.Proofs.YtmdfoigdflaliaaGreatDoor
namespace Go.Proofs.YtmdfoigdflaliaaGreatDoor
open Go.Gh
open Nat (reduceEqDiff reduceLeDiff reduceAdd reduceLT)
open Int (reduceNe)
end Go.Proofs.YtmdfoigdflaliaaGreatDoor
namespace Go.Proofs.YtmdfoigdflaliaaGreatDoor
open Go.Gh
open Nat (reduceEqDiff reduceLeDiff reduceAdd reduceLT)
open Int (reduceNe)
end Go.Proofs.YtmdfoigdflaliaaGreatDoor
namespace Go.Proofs.YtmdfoigdflaliaaGreatDoor
open Go.Gh
open Nat (reduceEqDiff reduceLeDiff reduceAdd reduceLT)
open Int (reduceNe)
end Go.Proofs.YtmdfoigdflaliaaGreatDoor
namespace Go.Proofs.YtmdfoigdflaliaaGreatDoor
open Go.Gh
open Nat (reduceEqDiff reduceLeDiff reduceAdd reduceLT)
open Int (reduceNe)
end Go.Proofs.YtmdfoigdflaliaaGreatDoor
namespace Go.Proofs.YtmdfoigdflaliaaGreatDoor
open Go.Gh
open Nat (reduceEqDiff reduceLeDiff reduceAdd reduceLT)
open Int (reduceNe)
end Go.Proofs.YtmdfoigdflaliaaGreatDoor
namespace Go.Proofs.YtmdfoigdflaliaaGreatDoor
open Go.Gh
open Nat (reduceEqDiff reduceLeDiff reduceAdd reduceLT)
open Int (reduceNe)
end Go.Proofs.YtmdfoigdflaliaaGreatDoor
