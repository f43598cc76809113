/- The laws FnEdits, FnEdited and FnSwapped return true whatever the input, and the input reads behind the call as before. No condition. -/
import Derived.Test.YtknbnefbgpnkgaaGreatFed20
import Derived.Test.YtknbnefbgpnkgaaGreatFed23
set_option maxHeartbeats 40000000
set_option maxRecDepth 20000
set_option linter.unusedSimpArgs false
set_option linter.unusedVariables false
namespace Go.Proofs.YtknbnefbgpnkgaaGreat
open Go.Gh
open Nat (reduceEqDiff reduceLeDiff reduceAdd reduceLT)
open Int (reduceNe)
theorem o17 (g:Gram) (t:List Nod) (e:Edi) (hg:ZA g) (ho:okGr g) (hl:t.length≤1048576) (hx:∀x∈t,x.kids.length≤1048576) (hu1:e.tree.length≤1048576) (hu2:∀x∈e.tree,x.kids.length≤1048576) (H:GH) :
 Gc 17 [Gr g,Tr t,Ed e] H (OwnTI (edT g t e) H):=by
 have hvt:=w19 g t hg hl hx
 unfold edT
 refine ZZ mxd i17 rfl (by simp) ?_;refine X0 ?_
 (refine V0 ?_)
 refine callS.eq (w63 g hg ho) ?_
 rcases bC (accG g) with hb|hb
 ·simp only[hb,Bool.false_eq_true,false_and,if_false]
  (refine V0 ?_)
  refine callS.of (o65 t hl hx _) ?_
  rintro v H' ⟨q,rfl,rfl⟩ -
  (refine V0 ?_)
  exact ⟨q,rfl,rfl⟩
 (refine V1 hb ?_)
 refine callS.eq hvt ?_
 rcases bC (Za g t (Yv g)) with hv|hv
 ·simp only[hb,hv,Bool.false_eq_true,false_and,and_false,if_false]
  (refine V0 ?_)
  refine callS.of (o65 t hl hx _) ?_
  rintro v H' ⟨q,rfl,rfl⟩ -
  (refine V0 ?_)
  exact ⟨q,rfl,rfl⟩
 ·have hm:=tree_mk hv
  (refine V1 hv ?_)
  refine callS.eq (w64 _ _ _) ?_
  by_cases hk:1≤e.kind∧e.kind≤3
  case neg=>
   have hk':=eq_false hk
   simp only[hb,hv,hk,and_false,if_false]
   (refine V1 (jO hk' @decide_false) ?_)
   refine callS.of (o65 t hl hx _) ?_
   rintro v H' ⟨q,rfl,rfl⟩ -
   (refine V0 ?_)
   exact ⟨q,rfl,rfl⟩
  case pos=>
   have hk':=eq_true hk
   simp only[hb,hv,hk,and_self,if_true]
   (refine V1 (jO hk' @decide_true) ?_)
   refine callS.eq (n20 t e.node) ?_
   (refine V0 ?_)
   refine callS.eq (n20 t e.other) ?_
   by_cases h1:Zz t e.node<0
   ·have h1':=eq_true h1
    simp only[h1,true_or,if_true]
    (refine V1 (jO h1' @decide_true) ?_)
    refine callS.of (o65 t hl hx _) ?_
    rintro v H' ⟨q,rfl,rfl⟩ -
    (refine V0 ?_)
    exact ⟨q,rfl,rfl⟩
   ·have h1':=eq_false h1
    obtain ⟨i,hi,hil⟩:=ixId_in h1
    have hi0:((i:Int)<0)=False:=eq_false oT
    rw[hi] at h1 h1' ⊢
    by_cases h3:e.kind=3
    ·have h3':=eq_true h3
     have h32:(e.kind=2)=False:=eq_false oT
     have h31:(e.kind=1)=False:=eq_false oT
     by_cases h4:Zz t e.other<0
     ·have h4':=eq_true h4
      simp only[h3,h4,true_and,or_true,if_true]
      (refine V1 (jO hi0 (jO h3' (jO h4' (jO @decide_true @decide_false)))) ?_)
      refine callS.of (o65 t hl hx _) ?_
      rintro v H' ⟨q,rfl,rfl⟩ -
      (refine V0 ?_)
      exact ⟨q,rfl,rfl⟩
     ·have h4':=eq_false h4
      obtain ⟨k,hk2,hkl⟩:=ixId_in h4
      have hk0:((k:Int)<0)=False:=eq_false oT
      rw[hk2] at h4 h4' ⊢
      simp only[hi0,hk0,h3',h32,false_or,true_and,if_false,if_true]
      (refine V1 (jO hi0 (jO hk0 (jO h3' (jO h32 (jO h31 (jO @decide_true @decide_false)))))) ?_)
      refine callS.of (o68 g t i k hg hm ⟨oT,oT⟩ ⟨oT,oT⟩ _) ?_
      rintro v H' ⟨q,rfl,rfl⟩ -
      (refine V0 ?_)
      exact ⟨q,rfl,rfl⟩
    ·have h3':=eq_false h3
     simp only[hi0,h3',false_and,or_self,if_false]
     by_cases h5:e.kind=2
     ·have h5':=eq_true h5
      have h51:(e.kind=1)=False:=eq_false oT
      simp only[h5',if_true,Int.toNat_natCast]
      (refine V1 (jO hi0 (jO h3' (jO h5' (jO h51 (jO @decide_true @decide_false))))) ?_)
      refine callS.of (o67 g t i e hg hm hil hu1 hu2 _) ?_
      rintro v H' ⟨q,rfl,rfl⟩ -
      (refine V0 ?_)
      exact ⟨q,rfl,rfl⟩
     ·have h5':=eq_false h5
      have h51:(e.kind=1)=True:=eq_true oT
      simp only[h5',if_false,Int.toNat_natCast]
      (refine V1 (jO hi0 (jO h3' (jO h5' (jO h51 (jO @decide_true @decide_false))))) ?_)
      refine callS.of (o66 g t i e hg hl hx hil _) ?_
      rintro v H' ⟨q,rfl,rfl⟩ -
      (refine V0 ?_)
      exact ⟨q,rfl,rfl⟩
theorem o16 (g:Gram) (t:List Nod) (e:Edi) (hg:ZA g) (ho:okGr g) (hl:t.length≤1048576) (hx:∀x∈t,x.kids.length≤1048576) (hu1:e.tree.length≤1048576) (hu2:∀x∈e.tree,x.kids.length≤1048576) (H:GH) :
 Gc 16 [Gr g,Tr t,Ed e] H (OwnTI (edT g t e) H):=by
 have hvt:=w56 g t hg hl hx
 unfold edT
 refine ZZ mxd i16 rfl (by simp) ?_;refine X0 ?_
 (refine V0 ?_)
 refine callS.eq (w55 g hg ho) ?_
 rcases bC (accG g) with hb|hb
 ·simp only[hb,Bool.false_eq_true,false_and,if_false]
  (refine V0 ?_)
  refine callS.of (o58 t hl hx _) ?_
  rintro v H' ⟨q,rfl,rfl⟩ -
  (refine V0 ?_)
  exact ⟨q,rfl,rfl⟩
 (refine V1 hb ?_)
 refine callS.eq hvt ?_
 rcases bC (Za g t (Yv g)) with hv|hv
 ·simp only[hb,hv,Bool.false_eq_true,false_and,and_false,if_false]
  (refine V0 ?_)
  refine callS.of (o58 t hl hx _) ?_
  rintro v H' ⟨q,rfl,rfl⟩ -
  (refine V0 ?_)
  exact ⟨q,rfl,rfl⟩
 ·have hm:=tree_mk hv
  (refine V1 hv ?_)
  refine callS.eq (w57 _ _ _) ?_
  by_cases hk:1≤e.kind∧e.kind≤3
  case neg=>
   have hk':=eq_false hk
   simp only[hb,hv,hk,and_false,if_false]
   (refine V1 (jO hk' @decide_false) ?_)
   refine callS.of (o58 t hl hx _) ?_
   rintro v H' ⟨q,rfl,rfl⟩ -
   (refine V0 ?_)
   exact ⟨q,rfl,rfl⟩
  case pos=>
   have hk':=eq_true hk
   simp only[hb,hv,hk,and_self,if_true]
   (refine V1 (jO hk' @decide_true) ?_)
   refine callS.eq (n59 t e.node) ?_
   (refine V0 ?_)
   refine callS.eq (n59 t e.other) ?_
   by_cases h1:Zz t e.node<0
   ·have h1':=eq_true h1
    simp only[h1,true_or,if_true]
    (refine V1 (jO h1' @decide_true) ?_)
    refine callS.of (o58 t hl hx _) ?_
    rintro v H' ⟨q,rfl,rfl⟩ -
    (refine V0 ?_)
    exact ⟨q,rfl,rfl⟩
   ·have h1':=eq_false h1
    obtain ⟨i,hi,hil⟩:=ixId_in h1
    have hi0:((i:Int)<0)=False:=eq_false oT
    rw[hi] at h1 h1' ⊢
    by_cases h3:e.kind=3
    ·have h3':=eq_true h3
     have h32:(e.kind=2)=False:=eq_false oT
     have h31:(e.kind=1)=False:=eq_false oT
     by_cases h4:Zz t e.other<0
     ·have h4':=eq_true h4
      simp only[h3,h4,true_and,or_true,if_true]
      (refine V1 (jO hi0 (jO h3' (jO h4' (jO @decide_true @decide_false)))) ?_)
      refine callS.of (o58 t hl hx _) ?_
      rintro v H' ⟨q,rfl,rfl⟩ -
      (refine V0 ?_)
      exact ⟨q,rfl,rfl⟩
     ·have h4':=eq_false h4
      obtain ⟨k,hk2,hkl⟩:=ixId_in h4
      have hk0:((k:Int)<0)=False:=eq_false oT
      rw[hk2] at h4 h4' ⊢
      simp only[hi0,hk0,h3',h32,false_or,true_and,if_false,if_true]
      (refine V1 (jO hi0 (jO hk0 (jO h3' (jO h32 (jO h31 (jO @decide_true @decide_false)))))) ?_)
      refine callS.of (o61 g t i k hg hm ⟨oT,oT⟩ ⟨oT,oT⟩ _) ?_
      rintro v H' ⟨q,rfl,rfl⟩ -
      (refine V0 ?_)
      exact ⟨q,rfl,rfl⟩
    ·have h3':=eq_false h3
     simp only[hi0,h3',false_and,or_self,if_false]
     by_cases h5:e.kind=2
     ·have h5':=eq_true h5
      have h51:(e.kind=1)=False:=eq_false oT
      simp only[h5',if_true,Int.toNat_natCast]
      (refine V1 (jO hi0 (jO h3' (jO h5' (jO h51 (jO @decide_true @decide_false))))) ?_)
      refine callS.of (o60 g t i e hg hm hil hu1 hu2 _) ?_
      rintro v H' ⟨q,rfl,rfl⟩ -
      (refine V0 ?_)
      exact ⟨q,rfl,rfl⟩
     ·have h5':=eq_false h5
      have h51:(e.kind=1)=True:=eq_true oT
      simp only[h5',if_false,Int.toNat_natCast]
      (refine V1 (jO hi0 (jO h3' (jO h5' (jO h51 (jO @decide_true @decide_false))))) ?_)
      unfold litEd
      rw[Z3 hil]
      refine callS.of (o58 t hl hx _) ?_
      rintro v H' ⟨q,rfl,rfl⟩ -
      (refine V0 ?_)
      all_goals try exact oF
      refine callS.eq (w62 g _ hg) ?_
      generalize Zl g.rules t[i].rule = r at *
      rcases bC r.lit with hr|hr
      ·simp only[hr,Bool.false_eq_true,false_and,if_false]
       (refine V1 hr ?_)
       exact ⟨q,rfl,rfl⟩
      ·(refine V1 hr ?_)
       refine callS.eq (w57 _ _ _) ?_
       by_cases hv2 : -1000000≤e.lit∧e.lit≤1000000
       ·have hv':=eq_true hv2
        simp only[hr,hv2,and_self,if_true]
        (refine V1 (jO hv' @decide_true) ?_)
        all_goals try exact oF
        exact ⟨q,by simp[setLit],by simp only[setLit];rw[Z3 hil,List.map_set]⟩
       ·have hv':=eq_false hv2
        simp only[hr,hv2,and_false,if_false]
        (refine V1 (jO hv' @decide_false) ?_)
        exact ⟨q,rfl,rfl⟩
theorem t_ownTI {x:List Nod×Int} {v:GV} {H':GH} (h:OwnTI x [] v H'):Bor H' v (.tup [Tr x.1,I x.2]):=by
 obtain ⟨r,rfl,rfl⟩:=h
 exact .tup (.cons (bor_Tr ZX rfl) (.cons .refl .nil))
theorem q17 (g:Gram) (t:List Nod) (e:Edi) (hg:ZA g) (ho:okGr g) (hl:t.length≤1048576) (hx:∀x∈t,x.kids.length≤1048576) (hu1:e.tree.length≤1048576) (hu2:∀x∈e.tree,x.kids.length≤1048576) :
 Pu 17 [Gr g,Tr t,Ed e] (· = .tup [Tr (edT g t e).1,I (edT g t e).2]):=
 Pure.bor ((o17 g t e hg ho hl hx hu1 hu2 []).mono fun v H' h=>t_ownTI h)
theorem q16 (g:Gram) (t:List Nod) (e:Edi) (hg:ZA g) (ho:okGr g) (hl:t.length≤1048576) (hx:∀x∈t,x.kids.length≤1048576) (hu1:e.tree.length≤1048576) (hu2:∀x∈e.tree,x.kids.length≤1048576) :
 Pu 16 [Gr g,Tr t,Ed e] (· = .tup [Tr (edT g t e).1,I (edT g t e).2]):=
 Pure.bor ((o16 g t e hg ho hl hx hu1 hu2 []).mono fun v H' h=>t_ownTI h)
theorem p16 (g:Gram) (t:List Nod) (e:Edi) (hg:ZA g) (ho:okGr g) (hl:t.length≤1048576) (hx:∀x∈t,x.kids.length≤1048576) (hu1:e.tree.length≤1048576) (hu2:∀x∈e.tree,x.kids.length≤1048576) (H:GH) :
 Gc 16 [Gr g,Tr t,Ed e] H (fun v H'=>∃H1,(∃r,v = .tup [.agg [.own r 6 0 (edT g t e).1.length],I (edT g t e).2]∧H1=[(r,6,(edT g t e).1.map NdO)])∧H'=H1++H):=
 (o16 g t e hg ho hl hx hu1 hu2 H).mono fun v H' ⟨r,h1,h2⟩=>⟨_,⟨r,h1,rfl⟩,h2⟩
end Go.Proofs.YtknbnefbgpnkgaaGreat
