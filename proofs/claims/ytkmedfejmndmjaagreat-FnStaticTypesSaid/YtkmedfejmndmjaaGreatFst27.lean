/- The law FnStaticTypes returns true whatever the input, and the input reads behind the call as before. No condition. -/
import Derived.Test.YtkmedfejmndmjaaGreatFst15
import Derived.Test.YtkmedfejmndmjaaGreatFst20
import Derived.Test.YtkmedfejmndmjaaGreatFst26
set_option maxHeartbeats 40000000
set_option maxRecDepth 20000
set_option linter.unusedSimpArgs false
set_option linter.unusedVariables false
namespace Go.Proofs.YtkmedfejmndmjaaGreat
open Go.Gh
open Nat (reduceEqDiff reduceLeDiff reduceAdd reduceLT)
open Int (reduceNe)
theorem w32 (g:Gram) (t:List Nod) (i:Nat) (vs:List Int) (hg:ZE g) (hl:t.length≤1048576) (hkk:∀x∈t,x.kids.length≤1048576) (ht:Zs g t (Zr g t 0)=true) (hi:i<t.length) (hv:(ZO g t).length = vs.length) (hp:0<vs.length) :
 Pu 32 [Gr g,Tr t,I i,IS vs] (· = SltS (slL g t i (ZO g t) vs)):=by
 have q1:=q22 g t hg hl hkk
 have hkl:=tree_kl ht hi
 have q2:=w73 g t i vs hg hl ht hi oT hv
 have q3:=w44 i 0 ((t.length:Int)-1)
 generalize slL g t i (ZO g t) vs=S at *
 generalize ZO g t=L at *
 refine Pure.bor ?_
 refine Z5 mxd i32 rfl (by simp) ?_;refine X0 ?_
 (refine V0 ?_)
 refine callS.eq q1 ?_
 have e1:decide ((0:Int)≤i∧(i:Int)≤(t.length:Int)-1)=true:=decide_eq_true oT
 have h0:=eq_false (show ¬(L.length:Int)=0 by omega)
 have hv':=eq_true (show (L.length:Int)=vs.length by omega)
 rw[e1] at q3
 (refine V1 @List.length_map.{0,0} ?_;with_reducible repeat' intro h)
 refine callS.eq q3 ?_
 (refine V1 (jO hv' (jO h0 (jO @decide_false (jO @decide_true @List.length_map.{0,0})))) ?_)
 all_goals try exact oF
 refine callS.eq q2 ?_
 (refine V0 ?_)
 exact .refl
theorem w5 (bs:List UInt8):Pu 5 [Bs bs] (· = B true):=by
 refine Z5 mxd i5 rfl (by simp) ?_;refine X0 ?_
 (refine V0 ?_)
 refine callS.eq (w6 bs) ?_
 by_cases hb:(1048576:Int)<bs.length
 ·have hb':=eq_true hb
  (refine V1 (jO hb' @decide_true) ?_;with_reducible repeat' exact trivial)
 ·have hb':=eq_false hb
  (refine V1 (jO hb' @decide_false) ?_)
  refine callS.of ((w20 bs oT).frame _) ?_
  rintro _ _ ⟨⟨g,t,hg,ht,rfl⟩,rfl⟩ _
  have hsm:=drG_sm hg
  have hok:=drG_ok hg
  obtain ⟨hl,hk,_⟩:=bentT_sm ht
  have hrl:=runL_small hg ht
  have hil:=insL_small hg ht
  have q1:=q21 g t hsm hok hl hk
  have q2:=q22 g t hsm hl hk
  have q3:=w17 g hsm hok
  have q4:=w24 g t 0 hsm
  have q5:=w23 g t (Zr g t 0) hsm hl hk
  have q6:=q25 g t hsm hl hk
  have hrb:=runB_cy (g:=g) (t:=t) hsm
  have hno:=runL_no (g:=g) (t:=t)
  have hty:=run_ty (g:=g) (t:=t) hsm
  have hrun:=fun h=>(run_law (g:=g) (t:=t) hsm h).1
  have hat:=fun x=>w26 g t x hsm
  have hot:=fun v k=>w27 v k
  have hsl:=fun h (i:Nat) hi (k:Nat) hk=>slot_at (g:=g) (t:=t) (vs:=runL g t) h (i:=i) hi (k:=k) hk
  have hsls:=fun h (i:Nat) hi=>slL_small (g:=g) (t:=t) (s:=Zr g t 0) hsm h (i:=i) hi (L:=ZO g t) (vs:=runL g t)
  have hif:=fun h (i:Nat) hi h2=>w28 g t i (runL g t) hsm hl hk h hi h2
  have hsf:=fun h (i:Nat) hi h2 h3=>w32 g t i (runL g t) hsm hl hk h hi h2 h3
  have hix:=fun y=>w33 (ZO g t) y
  have hni:=fun i=>q29 t i hl hk
  have hns:=fun i=>q31 t i hl hk
  have hsi:=fun l h=>w30 l l h
  have hpos:=insL_pos (g:=g) (t:=t) hg
  have hnln:=fun h (i:Nat) hi=>nodeIds_len (g:=g) (t:=t) (s:=Zr g t 0) (i:=i) h hi
  generalize hS:staS g=sS at *
  generalize hTO:Zs g t (Zr g t 0)=tO at *
  generalize cyL (Zv g t) (Zv g t).length = cy at *
  generalize hrbe:runB g t=rb at *
  generalize runL g t=R at *
  generalize ZO g t=L at *
  have hbad:rb=false→R=[]:=hno
  (refine V0 ?_)
  refine callS.eq q1 ?_
  (refine V0 ?_)
  refine callS.eq q2 ?_
  (refine V0 ?_)
  refine callS.eq q3 ?_
  cases sS
  ·simp only[Bool.false_and] at hrb
   subst hrb
   obtain rfl:=hbad rfl
   (refine V0 ?_)
   refine ZL mxd (ι:=Unit) (fun _ => [(3,.rop 2 (Gr g)),(4,.rop 1 (Tr t)),(5,IS []),(6,B false),(7,YK L),(8,I 0)]) (fun _ => []) (fun _ => 0) () (by simp[E2]) rfl ?_
   intro _
   (refine V0 ?_;with_reducible repeat' intro h)
   all_goals try exact oF
   all_goals
    refine ZL mxd (ι:=Unit) (fun _ => [(3,.rop 2 (Gr g)),(4,.rop 1 (Tr t)),(5,IS []),(6,B false),(7,YK L),(11,I 0)]) (fun _ => []) (fun _ => 0) () (by simp[E2]) rfl ?_
    intro _
    (refine V0 ?_;with_reducible repeat' exact trivial)
    all_goals try exact oF
  ·(refine V0 ?_)
   refine callS.eq q4 ?_
   (refine V0 ?_)
   refine callS.eq q5 ?_
   cases tO
   ·simp only[Bool.false_and,Bool.and_false] at hrb
    subst hrb
    obtain rfl:=hbad rfl
    (refine V0 ?_)
    refine ZL mxd (ι:=Unit) (fun _ => [(3,.rop 2 (Gr g)),(4,.rop 1 (Tr t)),(5,IS []),(6,B false),(7,YK L),(8,I 0)]) (fun _ => []) (fun _ => 0) () (by simp[E2]) rfl ?_
    intro _
    (refine V0 ?_;with_reducible repeat' intro h)
    all_goals try exact oF
    all_goals
     refine ZL mxd (ι:=Unit) (fun _ => [(3,.rop 2 (Gr g)),(4,.rop 1 (Tr t)),(5,IS []),(6,B false),(7,YK L),(11,I 0)]) (fun _ => []) (fun _ => 0) () (by simp[E2]) rfl ?_
     intro _
     (refine V0 ?_;with_reducible repeat' exact trivial)
     all_goals try exact oF
   ·(refine V0 ?_)
    refine callS.eq q6 ?_
    by_cases hcy:cy.length=0
    ·have hcy':=eq_true (show (cy.length:Int)=0 by omega)
     simp only[hcy,decide_true,Bool.and_self] at hrb
     subst hrb
     (refine V1 (jO hcy' (jO @decide_true @List.length_map.{0,0})) ?_)
     obtain hRL:=hrun rfl
     refine ZL mxd (ι:={ i:Nat // i≤R.length }) (fun i=>[(3,.rop 2 (Gr g)),(4,.rop 1 (Tr t)),(5,IS R),(6,B true),(7,YK L),(8,I i.1)]) (fun _ => []) (fun i=>R.length-i.1) ⟨0,oT⟩ (by simp[E2]) rfl ?_
     rintro ⟨i,hi⟩
     dsimp only
     rcases nL i R.length with hlt|hge
     ·have hiL:i<L.length:=by omega
      have hoky:=hty rfl i hiL
      rw[Z6 hlt] at hoky
      have ha:=hat L[i]
      have ho:=hot R[i] (attN g t L[i].1 L[i].2).type
      rw[hoky] at ho
      (refine V1 @List.length_map.{0,0} ?_;with_reducible repeat' first|intro h|apply jO)
      all_goals try exact oF
      refine callS.eq ha ?_
      (refine V1 @List.length_map.{0,0} ?_)
      all_goals try exact oF
      refine callS.eq ho ?_
      (refine V0 ?_)
      all_goals try exact oF
      exact nx ⟨i+1,oT⟩ (by dsimp only;omega) (by simp[E2]) rfl
     ·(refine V1 @List.length_map.{0,0} ?_;with_reducible repeat' intro h)
      all_goals try exact oF
      have hRp:0<R.length:=by have:=hpos rfl rfl;omega
      refine ZL mxd (ι:={ i:Nat // i≤t.length }) (fun i=>[(3,.rop 2 (Gr g)),(4,.rop 1 (Tr t)),(5,IS R),(6,B true),(7,YK L),(11,I i.1)]) (fun _ => []) (fun i=>t.length-i.1) ⟨0,oT⟩ (by simp[E2]) rfl ?_
      rintro ⟨j,hj⟩
      dsimp only
      rcases nL j t.length with hlj|hgj
      ·have f1:=hif rfl j hlj oT
       have f2:=hsf rfl j hlj oT hRp
       have f3:=hni j
       have f4:=hns j
       have hnl:=hnln rfl j hlj
       have f5:=hsi (Zh t j) hnl
       rw[show decide (Zh t j=Zh t j)=true by simp] at f5
       have hss:=hsl rfl j hlj
       have hSl:=hsls rfl j hlj
       generalize slL g t j L R=S at *
       generalize Zh t j=N at *
       clear hif hsf hni hns hsi hsl hsls
       (refine V1 @List.length_map.{0,0} ?_;with_reducible repeat' first|intro h|apply jO)
       all_goals try exact oF
       refine callS.eq f1 ?_
       (refine V0 ?_)
       refine callS.eq f3 ?_
       (refine V0 ?_)
       refine callS.eq f4 ?_
       (refine V0 ?_)
       refine callS.eq f5 ?_
       (refine V1 @List.length_map.{0,0} ?_)
       refine callS.eq f2 ?_
       (refine V1 @List.length_map.{0,0} ?_)
       all_goals try exact oF
       refine ZL mxd (ι:={ k:Nat // k≤S.length }) (fun k=>[(3,.rop 2 (Gr g)),(4,.rop 1 (Tr t)),(5,IS R),(6,B true),(7,YK L),(11,I j),(12,SltS S),(13,IS N),(14,I k.1)]) (fun _ => []) (fun k=>S.length-k.1) ⟨0,oT⟩ (by simp[E2]) rfl ?_
       rintro ⟨k,hk⟩
       dsimp only
       rcases nL k S.length with hlk|hgk
       ·obtain ⟨⟨p0,p1⟩,⟨x0,x1⟩,hv⟩:=hss k hlk
        obtain ⟨p,hp⟩:=Int.eq_ofNat_of_zero_le p0
        have hpl:p<N.length:=by omega
        obtain ⟨m,hm⟩:=Int.eq_ofNat_of_zero_le x0
        have hml:m<R.length:=by omega
        rw[hm,Int.toNat_natCast,Z6 hml] at hv
        have hx:=hix (N.getD S[k].pos.toNat 0,S[k].name)
        rw[hm,hp,Int.toNat_natCast,Z6 hpl] at hx
        have hv':=eq_true hv.symm
        clear hss hm
        (refine V1 (jO @List.length_map.{0,0} hp) ?_;with_reducible repeat' first|intro h|apply jO)
        all_goals try exact oF
        refine callS.eq hx ?_
        (refine V1 (jO hv (jO @List.length_map.{0,0} @decide_true)) ?_)
        all_goals try exact oF
        exact nx ⟨k+1,oT⟩ (by dsimp only;omega) (by simp[E2]) rfl
       ·(refine V1 @List.length_map.{0,0} ?_;with_reducible repeat' intro h)
        all_goals try exact oF
        all_goals exact nx ⟨j+1,oT⟩ (by dsimp only;omega) (by simp[E2]) rfl
      ·have hRL':=eq_true (show (R.length:Int)=L.length by omega)
       (refine V1 @List.length_map.{0,0} ?_;with_reducible repeat' intro h)
       all_goals try exact oF
       all_goals simp only[hRL,decide_true]
    ·have hcy':=eq_false (show ¬(cy.length:Int)=0 by omega)
     simp only[hcy,decide_false,Bool.and_false] at hrb
     subst hrb
     obtain rfl:=hbad rfl
     (refine V1 (jO hcy' (jO @decide_false @List.length_map.{0,0})) ?_)
     refine ZL mxd (ι:=Unit) (fun _ => [(3,.rop 2 (Gr g)),(4,.rop 1 (Tr t)),(5,IS []),(6,B false),(7,YK L),(8,I 0)]) (fun _ => []) (fun _ => 0) () (by simp[E2]) rfl ?_
     intro _
     (refine V0 ?_;with_reducible repeat' intro h)
     all_goals try exact oF
     all_goals
      refine ZL mxd (ι:=Unit) (fun _ => [(3,.rop 2 (Gr g)),(4,.rop 1 (Tr t)),(5,IS []),(6,B false),(7,YK L),(11,I 0)]) (fun _ => []) (fun _ => 0) () (by simp[E2]) rfl ?_
      intro _
      (refine V0 ?_;with_reducible repeat' exact trivial)
      all_goals try exact oF
end Go.Proofs.YtkmedfejmndmjaaGreat
