/- The law FnStaticTypes returns true whatever the input, and the input reads behind the call as before. No condition. -/
import Derived.Test.YtkmedfejmndmjaaGreatFst11
import Derived.Test.YtkmedfejmndmjaaGreatFst18
import Derived.Test.YtkmedfejmndmjaaGreatFst19
set_option maxHeartbeats 40000000
set_option maxRecDepth 20000
set_option linter.unusedSimpArgs false
set_option linter.unusedVariables false
namespace Go.Proofs.YtkmedfejmndmjaaGreat
open Go.Gh
open Nat (reduceEqDiff reduceLeDiff reduceAdd reduceLT)
open Int (reduceNe)
theorem o21 (g:Gram) (t:List Nod) (hg:ZE g) (ho:okGr g) (hl:t.length≤1048576) (hkk:∀x∈t,x.kids.length≤1048576) (H:GH) :
 Gc 21 [Gr g,Tr t] H (fun v H'=>∃H1,(∃r,v = .tup [.own r 1 0 (runL g t).length,B (runB g t)]∧H1=[(r,1,(runL g t).map I)])∧H'=H1++H):=by
 have q1:=q61 g t hg hl hkk
 have q2:=q59 g t hg hl hkk
 have q3:=w16 g hg ho
 have q4:=w60 g t hg hl hkk
 have hLb:=insL_len hg t
 have hOm:=ordL_mem (Zv g t)
 have hOl:=ordL_len (Zv g t)
 have hTl:(Zv g t).length = (ZO g t).length := by simp[Zv]
 have hva:Zs g t (Zr g t 0)=true→∀x vs,(ZO g t).length = vs.length→Pu 62 [Gr g,Tr t,Ins x,IS vs] (· = I (vaX g t (ZO g t) vs x)):=fun h x vs hv=>w62 g t x vs hg ho hl hkk h hv
 have hno:=insL_no (g:=g) (t:=t)
 rw[hTl] at hOm hOl
 by_cases hrb:runB g t=true
 ·have hrb0:=hrb
  simp only[runB,Bool.and_eq_true] at hrb0
  obtain ⟨hs,ht,hb⟩:=hrb0
  have hrl:runL g t=runV g t (ZO g t) (YM (Zv g t)) (YM (Zv g t)).length := by unfold runL;rw[if_pos hrb]
  rw[hrl,hrb]
  rw[hs] at q3
  rw[ht] at q4
  rw[hb] at q2
  replace hva:=hva ht
  clear hno hrl hrb
  generalize YM (Zv g t)=O at *
  have hVl:=runV_len g t (ZO g t) O
  have hVs:=fun (k j:Nat) h hj hjl=>runV_s (g:=g) (t:=t) (L:=ZO g t) (O:=O) (k:=k) (j:=j) h hj hjl
  have hV0:runV g t (ZO g t) O 0=List.replicate (ZO g t).length 0:=rfl
  generalize runV g t (ZO g t) O=V at *
  generalize ZO g t=L at *
  refine Z5 mxd i21 rfl (by simp) ?_;refine X0 ?_
  (refine V0 ?_)
  refine callS.eq q2 ?_
  (refine V0 ?_)
  refine callS.eq q3 ?_
  (refine V0 ?_)
  refine callS.eq q4 ?_
  (refine V0 ?_)
  refine callS.eq q1 ?_
  (refine V0 ?_;with_reducible repeat' intro h)
  all_goals try exact oF
  rename_i r
  refine ZL mxd (ι:={ k:Nat // k≤O.length }) (fun k=>[(2,.rop 2 (Gr g)),(3,.rop 1 (Tr t)),(8,YK L),(9,.own r 1 0 L.length),(37,IS O),(38,I O.length),(39,I k.1)]) (fun k=>(r,1,(V k.1).map I)::H) (fun k=>O.length-k.1) ⟨0,by simp⟩ (by simp[E2]) (by simp[hV0]) ?_
  rintro ⟨k,hk⟩
  rcases nL k O.length with hlt|hge
  ·have hm:=hOm _ (gM hlt)
   obtain ⟨j,hj⟩:∃j:Nat,O[k]=j:=⟨O[k].toNat,oT⟩
   rw[hj] at hm
   have hjl:j<L.length:=by omega
   have hv:=hVs k j hlt hj hjl
   have hvl:=hVl k
   have hc:=hva L[j] (V k) hvl.symm
   clear hVs
   (refine V1 (jO hj (jO @List.length_map.{0,0} hvl)) ?_;with_reducible repeat' first|intro h|apply jO)
   all_goals try exact oF
   refine callS.borA hc (.cons .refl (.cons .refl (.cons .refl (.cons (X6 ZZ hvl) .nil)))) rfl ?_
   (refine V1 (jO hj (jO @List.length_map.{0,0} hvl)) ?_)
   all_goals try exact oF
   refine nx ⟨k+1,oT⟩ (by simp;omega) (by simp[E2]) ?_
   show _ = (r,1,(V (k+1)).map I)::H
   rw[hv,List.map_set]
  ·obtain rfl:k=O.length:=by omega
   (refine V0 ?_;with_reducible repeat' intro h)
   all_goals try exact oF
   exact ⟨_,⟨r,by rw[hVl],rfl⟩,rfl⟩
 ·have hrl:runL g t=[]:=by unfold runL;rw[if_neg hrb]
  have hrf:runB g t=false:=by simpa using hrb
  rw[hrl,hrf]
  simp only[runB,Bool.and_eq_true,not_and,Bool.not_eq_true] at hrb
  have h0:Gc 21 [Gr g,Tr t] H (fun v H'=>v = .tup [.val (.slice none 0 0),B false]∧H'=H):=by
   generalize YM (Zv g t)=O at *
   generalize ordB (Zv g t)=ob at *
   refine Z5 mxd i21 rfl (by simp) ?_;refine X0 ?_
   (refine V0 ?_)
   refine callS.eq q2 ?_
   rcases bC ob with hob|hob
   ·(refine V1 hob ?_;with_reducible repeat' exact trivial)
   (refine V1 hob ?_)
   refine callS.eq q3 ?_
   rcases bC (staS g) with hs|hs
   ·(refine V1 hs ?_;with_reducible repeat' exact trivial)
   (refine V1 hs ?_)
   refine callS.eq q4 ?_
   rcases bC (Zs g t (Zr g t 0)) with ht|ht
   ·(refine V1 ht ?_;with_reducible repeat' exact trivial)
   ·have:=hrb hs ht
    rw[hob] at this
    cases this
  refine h0.fr ?_
  rintro v H' ⟨rfl,rfl⟩
  exact ⟨_,_,FR.trans (FR.addv (r:=Yk H') (sz:=1) (vname_odd _) (vname_new _)) (FR.sub (.tup (.cons (Bor.virt (r:=Yk H') (sz:=1)) (.cons .refl .nil)))),_,⟨Yk H',rfl,rfl⟩,rfl⟩
theorem q21 (g:Gram) (t:List Nod) (hg:ZE g) (ho:okGr g) (hl:t.length≤1048576) (hk:∀x∈t,x.kids.length≤1048576):Pu 21 [Gr g,Tr t] (· = .tup [IS (runL g t),B (runB g t)]):=
 Pure.bor ((o21 g t hg ho hl hk []).mono fun v H' ⟨H1,⟨r,h1,h2⟩,h3⟩=>by
  subst h1;subst h2;subst h3
  exact .tup (.cons (X6 ZZ rfl) (.cons .refl .nil)))
end Go.Proofs.YtkmedfejmndmjaaGreat
