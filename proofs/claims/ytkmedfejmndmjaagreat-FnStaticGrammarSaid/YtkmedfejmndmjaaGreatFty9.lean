/- The law returns true whatever the input, and the input reads behind the call as before. No condition. -/
import Derived.Test.YtkmedfejmndmjaaGreatFty8
set_option maxHeartbeats 40000000
set_option maxRecDepth 20000
set_option linter.unusedSimpArgs false
set_option linter.unusedVariables false
namespace Go.Proofs.YtkmedfejmndmjaaGreat
open Go.Gh
open Nat (reduceEqDiff reduceLeDiff reduceAdd reduceLT)
open Int (reduceNe)
theorem w131 (r:Rul) (hs:okRu r) (hm:Zk r):Pu 131 [Ru r] (· = B (rulV r)):=by
 obtain ⟨m1,m2,m3,m4,m5⟩:=hm
 obtain ⟨k1,k2,k3,k4,k5⟩:=hs
 refine ZY mxd i131 rfl (by simp) ?_;refine X0 ?_
 (refine V0 ?_;with_reducible repeat' first|exact trivial|intro h|refine aO ?_|refine eO ?_|apply jO)
 by_cases hh:Zx r.name=true∧Zx r.left=true∧r.right.length≤3∧r.cons.length≤2
 ·obtain ⟨h1,h2,h3,h4⟩:=id hh
  have h3':¬(3:Int)<r.right.length:=by omega
  have h4':¬(2:Int)<r.cons.length:=by omega
  (with_reducible repeat' first|refine callS.eq (w199 _ k1) ?_|refine callS.eq (w199 _ k2) ?_|exact trivial|refine aO ?_|refine eO ?_|apply jO|refine K1 (jO h1 (jO h2 (jO h3' (jO h4' (jO @gt_iff_lt.{0} @decide_false))))) ?_|intro h)
  refine ZF mxd (ι:={ i:Nat // i≤r.right.length∧∀a∈r.right.take i,Zx a=true }) (fun i=>[(1,.rop 6 (Ru r)),(3,I r.right.length),(34,TS r.right),(35,I r.right.length),(36,I i.1)]) (fun _ => []) (fun i=>r.right.length-i.1) ⟨0,by simp⟩ (by simp[E2]) rfl ?_
  rintro ⟨i,hi,hn⟩
  rcases nL i r.right.length with hlt|hge
  ·(refine V0 ?_;with_reducible repeat' first|exact trivial|intro h|refine aO ?_|refine eO ?_|apply jO)
   all_goals try exact oF
   refine callS.eq (w199 _ (k3 _ (gM hlt))) ?_
   rcases bC (Zx r.right[i]) with hv|hv
   ·rw[rulV_r hlt hv]
    (refine V1 hv ?_;with_reducible repeat' first|exact trivial|intro h|refine aO ?_|refine eO ?_|apply jO)
   ·(refine V1 hv ?_;with_reducible repeat' first|exact trivial|intro h|refine aO ?_|refine eO ?_|apply jO)
    exact nx ⟨i+1,by omega,Zv hlt hv hn⟩ (by simp<;>omega) (by simp[E2]) rfl
  ·obtain rfl:i=r.right.length:=by omega
   rw[List.take_length] at hn
   (refine V0 ?_;with_reducible repeat' first|exact trivial|intro h|refine aO ?_|refine eO ?_|apply jO)
   all_goals try exact oF
   refine ZF mxd (ι:={ i:Nat // i≤r.eqs.length∧∀a∈r.eqs.take i,eqnV r.right.length a=true }) (fun i=>[(1,.rop 6 (Ru r)),(3,I r.right.length),(45,QnS r.eqs),(46,I r.eqs.length),(47,I i.1)]) (fun _ => []) (fun i=>r.eqs.length-i.1) ⟨0,by simp⟩ (by simp[E2]) rfl ?_
   rintro ⟨i,hi,hn2⟩
   rcases nL i r.eqs.length with hlt|hge
   ·have hq:=k4 _ (gM hlt)
    have hw:=m4 _ (gM hlt)
    (refine V1 @XE ?_;with_reducible repeat' first|exact trivial|intro h|refine aO ?_|refine eO ?_|apply jO)
    all_goals try exact oF
    refine callS.eq (w200 r.eqs[i].expr r.right.length hq.2 hw) ?_
    have hb:eqnV r.right.length r.eqs[i]=false→rulV r=false:=rulV_e hlt
    rcases bC (fitE r.eqs[i].expr r.right.length) with hv|hv
    ·rw[hb (by simp only[eqnV,hv,Bool.false_and])]
     (refine V1 hv ?_;with_reducible repeat' first|exact trivial|intro h|refine aO ?_|refine eO ?_|apply jO)
    ·(refine V1 (jO hv @XE) ?_;with_reducible repeat' first|exact trivial|intro h|refine aO ?_|refine eO ?_|apply jO)
     refine callS.eq (w199 _ hq.1) ?_
     rcases bC (Zx r.eqs[i].name) with hu|hu
     ·rw[hb (by simp only[eqnV,hv,hu,Bool.false_and,Bool.and_false])]
      (refine V1 hu ?_;with_reducible repeat' first|exact trivial|intro h|refine aO ?_|refine eO ?_|apply jO)
     ·(refine V1 (jO hu @XE) ?_;with_reducible repeat' first|exact trivial|intro h|refine aO ?_|refine eO ?_|apply jO)
      refine callS.eq (w47 _ _ _) ?_
      by_cases hp:0≤r.eqs[i].pos ∧ r.eqs[i].pos ≤ r.right.length
      ·(refine V1 (jO hp (jO @and_self @decide_true)) ?_;with_reducible repeat' first|exact trivial|intro h|refine aO ?_|refine eO ?_|apply jO)
       exact nx ⟨i+1,by omega,Zv hlt (by simp only[eqnV,hv,hu,decide_eq_true hp,Bool.true_and]) hn2⟩ (by simp<;>omega) (by simp[E2]) rfl
      ·rw[hb (by simp only[eqnV,hv,hu,decide_eq_false hp,Bool.and_false])]
       (refine V1 (jO hp @decide_false) ?_;with_reducible repeat' first|exact trivial|intro h|refine aO ?_|refine eO ?_|apply jO)
   ·obtain rfl:i=r.eqs.length:=by omega
    rw[List.take_length] at hn2
    (refine V0 ?_;with_reducible repeat' first|exact trivial|intro h|refine aO ?_|refine eO ?_|apply jO)
    all_goals try exact oF
    refine ZF mxd (ι:={ i:Nat // i≤r.cons.length∧∀a∈r.cons.take i,conV r.right.length a=true }) (fun i=>[(3,I r.right.length),(73,CoS r.cons),(74,I r.cons.length),(75,I i.1)]) (fun _ => []) (fun i=>r.cons.length-i.1) ⟨0,by simp⟩ (by simp[E2]) rfl ?_
    rintro ⟨i,hi,hn3⟩
    rcases nL i r.cons.length with hlt|hge
    ·have hq:=k5 _ (gM hlt)
     have hw:=m5 _ (gM hlt)
     (refine V1 @XE ?_;with_reducible repeat' first|exact trivial|intro h|refine aO ?_|refine eO ?_|apply jO)
     all_goals try exact oF
     refine callS.eq (w200 r.cons[i].goal r.right.length hq.2.2.1 hw.1) ?_
     have hb:conV r.right.length r.cons[i]=false→rulV r=false:=rulV_c hlt
     rcases bC (fitE r.cons[i].goal r.right.length) with hv|hv
     ·rw[hb (by simp only[conV,hv,Bool.false_and])]
      (refine V1 hv ?_;with_reducible repeat' first|exact trivial|intro h|refine aO ?_|refine eO ?_|apply jO)
     ·(refine V1 (jO hv @XE) ?_;with_reducible repeat' first|exact trivial|intro h|refine aO ?_|refine eO ?_|apply jO)
      refine callS.eq (w200 r.cons[i].value r.right.length hq.2.2.2 hw.2) ?_
      rcases bC (fitE r.cons[i].value r.right.length) with hu|hu
      ·rw[hb (by simp only[conV,hv,hu,Bool.false_and,Bool.and_false])]
       (refine V1 hu ?_;with_reducible repeat' first|exact trivial|intro h|refine aO ?_|refine eO ?_|apply jO)
      ·(refine V1 (jO hu @XE) ?_;with_reducible repeat' first|exact trivial|intro h|refine aO ?_|refine eO ?_|apply jO)
       refine callS.eq (w199 _ hq.1) ?_
       rcases bC (Zx r.cons[i].sym) with hx|hx
       ·rw[hb (by simp only[conV,hv,hu,hx,Bool.false_and,Bool.and_false])]
        (refine V1 hx ?_;with_reducible repeat' first|exact trivial|intro h|refine aO ?_|refine eO ?_|apply jO)
       ·(refine V1 (jO hx @XE) ?_;with_reducible repeat' first|exact trivial|intro h|refine aO ?_|refine eO ?_|apply jO)
        refine callS.eq (w199 _ hq.2.1) ?_
        rcases bC (Zx r.cons[i].name) with hy|hy
        ·rw[hb (by simp only[conV,hv,hu,hx,hy,Bool.false_and,Bool.and_false])]
         (refine V1 hy ?_;with_reducible repeat' first|exact trivial|intro h|refine aO ?_|refine eO ?_|apply jO)
        ·(refine V1 hy ?_;with_reducible repeat' first|exact trivial|intro h|refine aO ?_|refine eO ?_|apply jO)
         exact nx ⟨i+1,by omega,Zv hlt (by simp only[conV,hv,hu,hx,hy,Bool.true_and]) hn3⟩ (by simp<;>omega) (by simp[E2]) rfl
    ·obtain rfl:i=r.cons.length:=by omega
     rw[List.take_length] at hn3
     rw[rulV_ok hh hn hn2 hn3]
     (refine V0 ?_;with_reducible repeat' first|exact trivial|intro h|refine aO ?_|refine eO ?_|apply jO)
     all_goals try exact oF
 ·rw[rulV_h hh]
  have h3':((3:Int)<r.right.length)=¬(r.right.length≤3):=propext (by omega)
  have h4':((2:Int)<r.cons.length)=¬(r.cons.length≤2):=propext (by omega)
  by_cases h1:Zx r.name=true
  ·by_cases h2:Zx r.left=true
   ·by_cases h3:r.right.length≤3
    ·have h4:¬r.cons.length≤2:=fun h=>hh ⟨h1,h2,h3,h⟩
     (with_reducible repeat' first|refine callS.eq (w199 _ k1) ?_|refine callS.eq (w199 _ k2) ?_|exact trivial|refine aO ?_|refine eO ?_|apply jO|refine K1 (jO h1 (jO h2 (jO h3' (jO h4' (jO h3 (jO h4 (jO @gt_iff_lt.{0} (jO @decide_true (jO @decide_false (jO @not_true @not_false_eq_true)))))))))) ?_|intro h)
    ·(with_reducible repeat' first|refine callS.eq (w199 _ k1) ?_|refine callS.eq (w199 _ k2) ?_|exact trivial|refine aO ?_|refine eO ?_|apply jO|refine K1 (jO h1 (jO h2 (jO h3' (jO h3 (jO @gt_iff_lt.{0} (jO @decide_true (jO @decide_false (jO @not_true @not_false_eq_true)))))))) ?_|intro h)
   ·have h2':Zx r.left=false:=by simpa using h2
    (with_reducible repeat' first|refine callS.eq (w199 _ k1) ?_|refine callS.eq (w199 _ k2) ?_|exact trivial|refine aO ?_|refine eO ?_|apply jO|refine K1 (jO h1 h2') ?_|intro h)
  ·have h1':Zx r.name=false:=by simpa using h1
   (with_reducible repeat' first|refine callS.eq (w199 _ k1) ?_|refine callS.eq (w199 _ k2) ?_|exact trivial|refine aO ?_|refine eO ?_|apply jO|refine K1 h1' ?_|intro h)
theorem w147 (r:Rul) (hs:okRu r) (hm:Zk r):Pu 147 [Ru r] (· = B (rulV r)):=by
 obtain ⟨m1,m2,m3,m4,m5⟩:=hm
 obtain ⟨k1,k2,k3,k4,k5⟩:=hs
 refine ZY mxd i147 rfl (by simp) ?_;refine X0 ?_
 (refine V0 ?_;with_reducible repeat' first|exact trivial|intro h|refine aO ?_|refine eO ?_|apply jO)
 by_cases hh:Zx r.name=true∧Zx r.left=true∧r.right.length≤3∧r.cons.length≤2
 ·obtain ⟨h1,h2,h3,h4⟩:=id hh
  have h3':¬(3:Int)<r.right.length:=by omega
  have h4':¬(2:Int)<r.cons.length:=by omega
  (with_reducible repeat' first|refine callS.eq (w209 _ k1) ?_|refine callS.eq (w209 _ k2) ?_|exact trivial|refine aO ?_|refine eO ?_|apply jO|refine K1 (jO h1 (jO h2 (jO h3' (jO h4' (jO @gt_iff_lt.{0} @decide_false))))) ?_|intro h)
  refine ZF mxd (ι:={ i:Nat // i≤r.right.length∧∀a∈r.right.take i,Zx a=true }) (fun i=>[(1,.rop 6 (Ru r)),(3,I r.right.length),(4,I i.1)]) (fun _ => []) (fun i=>r.right.length-i.1) ⟨0,by simp⟩ (by simp[E2]) rfl ?_
  rintro ⟨i,hi,hn⟩
  rcases nL i r.right.length with hlt|hge
  ·(refine V0 ?_;with_reducible repeat' first|exact trivial|intro h|refine aO ?_|refine eO ?_|apply jO)
   all_goals try exact oF
   refine callS.eq (w209 _ (k3 _ (gM hlt))) ?_
   rcases bC (Zx r.right[i]) with hv|hv
   ·rw[rulV_r hlt hv]
    (refine V1 hv ?_;with_reducible repeat' first|exact trivial|intro h|refine aO ?_|refine eO ?_|apply jO)
   ·(refine V1 hv ?_;with_reducible repeat' first|exact trivial|intro h|refine aO ?_|refine eO ?_|apply jO)
    exact nx ⟨i+1,by omega,Zv hlt hv hn⟩ (by simp<;>omega) (by simp[E2]) rfl
  ·obtain rfl:i=r.right.length:=by omega
   rw[List.take_length] at hn
   (refine V0 ?_;with_reducible repeat' first|exact trivial|intro h|refine aO ?_|refine eO ?_|apply jO)
   all_goals try exact oF
   refine ZF mxd (ι:={ i:Nat // i≤r.eqs.length∧∀a∈r.eqs.take i,eqnV r.right.length a=true }) (fun i=>[(1,.rop 6 (Ru r)),(3,I r.right.length),(5,I i.1)]) (fun _ => []) (fun i=>r.eqs.length-i.1) ⟨0,by simp⟩ (by simp[E2]) rfl ?_
   rintro ⟨i,hi,hn2⟩
   rcases nL i r.eqs.length with hlt|hge
   ·have hq:=k4 _ (gM hlt)
    have hw:=m4 _ (gM hlt)
    (refine V1 @XE ?_;with_reducible repeat' first|exact trivial|intro h|refine aO ?_|refine eO ?_|apply jO)
    all_goals try exact oF
    have hb:eqnV r.right.length r.eqs[i]=false→rulV r=false:=rulV_e hlt
    refine callS.eq (w209 _ hq.1) ?_
    rcases bC (Zx r.eqs[i].name) with hu|hu
    ·rw[hb (by simp only[eqnV,hu,Bool.false_and,Bool.and_false])]
     (refine V1 hu ?_;with_reducible repeat' first|exact trivial|intro h|refine aO ?_|refine eO ?_|apply jO)
    ·(refine V1 (jO hu @XE) ?_;with_reducible repeat' first|exact trivial|intro h|refine aO ?_|refine eO ?_|apply jO)
     refine callS.eq (w44 _ _ _) ?_
     by_cases hp:0≤r.eqs[i].pos ∧ r.eqs[i].pos ≤ r.right.length
     ·(refine V1 (jO hp (jO @and_self (jO @decide_true @XE))) ?_;with_reducible repeat' first|exact trivial|intro h|refine aO ?_|refine eO ?_|apply jO)
      refine callS.eq (w190 r.eqs[i].expr r.right.length hq.2 hw) ?_
      rcases bC (fitE r.eqs[i].expr r.right.length) with hv|hv
      ·rw[hb (by simp only[eqnV,hv,Bool.false_and])]
       (refine V1 hv ?_;with_reducible repeat' first|exact trivial|intro h|refine aO ?_|refine eO ?_|apply jO)
      ·(refine V1 (jO hv @XE) ?_;with_reducible repeat' first|exact trivial|intro h|refine aO ?_|refine eO ?_|apply jO)
       exact nx ⟨i+1,by omega,Zv hlt (by simp only[eqnV,hv,hu,decide_eq_true hp,Bool.true_and]) hn2⟩ (by simp<;>omega) (by simp[E2]) rfl
     ·rw[hb (by simp only[eqnV,hu,decide_eq_false hp,Bool.and_false])]
      (refine V1 (jO hp @decide_false) ?_;with_reducible repeat' first|exact trivial|intro h|refine aO ?_|refine eO ?_|apply jO)
   ·obtain rfl:i=r.eqs.length:=by omega
    rw[List.take_length] at hn2
    (refine V0 ?_;with_reducible repeat' first|exact trivial|intro h|refine aO ?_|refine eO ?_|apply jO)
    all_goals try exact oF
    refine ZF mxd (ι:={ i:Nat // i≤r.cons.length∧∀a∈r.cons.take i,conV r.right.length a=true }) (fun i=>[(1,.rop 6 (Ru r)),(3,I r.right.length),(7,I i.1)]) (fun _ => []) (fun i=>r.cons.length-i.1) ⟨0,by simp⟩ (by simp[E2]) rfl ?_
    rintro ⟨i,hi,hn3⟩
    rcases nL i r.cons.length with hlt|hge
    ·have hq:=k5 _ (gM hlt)
     have hw:=m5 _ (gM hlt)
     (refine V1 @XE ?_;with_reducible repeat' first|exact trivial|intro h|refine aO ?_|refine eO ?_|apply jO)
     all_goals try exact oF
     have hb:conV r.right.length r.cons[i]=false→rulV r=false:=rulV_c hlt
     refine callS.eq (w209 _ hq.1) ?_
     rcases bC (Zx r.cons[i].sym) with hx|hx
     ·rw[hb (by simp only[conV,hx,Bool.false_and,Bool.and_false])]
      (refine V1 hx ?_;with_reducible repeat' first|exact trivial|intro h|refine aO ?_|refine eO ?_|apply jO)
     ·(refine V1 (jO hx @XE) ?_;with_reducible repeat' first|exact trivial|intro h|refine aO ?_|refine eO ?_|apply jO)
      refine callS.eq (w209 _ hq.2.1) ?_
      rcases bC (Zx r.cons[i].name) with hy|hy
      ·rw[hb (by simp only[conV,hx,hy,Bool.false_and,Bool.and_false])]
       (refine V1 hy ?_;with_reducible repeat' first|exact trivial|intro h|refine aO ?_|refine eO ?_|apply jO)
      ·(refine V1 (jO hy @XE) ?_;with_reducible repeat' first|exact trivial|intro h|refine aO ?_|refine eO ?_|apply jO)
       refine callS.eq (w190 r.cons[i].goal r.right.length hq.2.2.1 hw.1) ?_
       rcases bC (fitE r.cons[i].goal r.right.length) with hv|hv
       ·rw[hb (by simp only[conV,hv,Bool.false_and])]
        (refine V1 hv ?_;with_reducible repeat' first|exact trivial|intro h|refine aO ?_|refine eO ?_|apply jO)
       ·(refine V1 (jO hv @XE) ?_;with_reducible repeat' first|exact trivial|intro h|refine aO ?_|refine eO ?_|apply jO)
        refine callS.eq (w190 r.cons[i].value r.right.length hq.2.2.2 hw.2) ?_
        rcases bC (fitE r.cons[i].value r.right.length) with hu|hu
        ·rw[hb (by simp only[conV,hv,hu,Bool.false_and,Bool.and_false])]
         (refine V1 hu ?_;with_reducible repeat' first|exact trivial|intro h|refine aO ?_|refine eO ?_|apply jO)
        ·(refine V1 hu ?_;with_reducible repeat' first|exact trivial|intro h|refine aO ?_|refine eO ?_|apply jO)
         exact nx ⟨i+1,by omega,Zv hlt (by simp only[conV,hv,hu,hx,hy,Bool.true_and]) hn3⟩ (by simp<;>omega) (by simp[E2]) rfl
    ·obtain rfl:i=r.cons.length:=by omega
     rw[List.take_length] at hn3
     rw[rulV_ok hh hn hn2 hn3]
     (refine V0 ?_;with_reducible repeat' first|exact trivial|intro h|refine aO ?_|refine eO ?_|apply jO)
     all_goals try exact oF
 ·rw[rulV_h hh]
  have h3':((3:Int)<r.right.length)=¬(r.right.length≤3):=propext (by omega)
  have h4':((2:Int)<r.cons.length)=¬(r.cons.length≤2):=propext (by omega)
  by_cases h1:Zx r.name=true
  ·by_cases h2:Zx r.left=true
   ·by_cases h3:r.right.length≤3
    ·have h4:¬r.cons.length≤2:=fun h=>hh ⟨h1,h2,h3,h⟩
     (with_reducible repeat' first|refine callS.eq (w209 _ k1) ?_|refine callS.eq (w209 _ k2) ?_|exact trivial|refine aO ?_|refine eO ?_|apply jO|refine K1 (jO h1 (jO h2 (jO h3' (jO h4' (jO h3 (jO h4 (jO @gt_iff_lt.{0} (jO @decide_true (jO @decide_false (jO @not_true @not_false_eq_true)))))))))) ?_|intro h)
    ·(with_reducible repeat' first|refine callS.eq (w209 _ k1) ?_|refine callS.eq (w209 _ k2) ?_|exact trivial|refine aO ?_|refine eO ?_|apply jO|refine K1 (jO h1 (jO h2 (jO h3' (jO h3 (jO @gt_iff_lt.{0} (jO @decide_true (jO @decide_false (jO @not_true @not_false_eq_true)))))))) ?_|intro h)
   ·have h2':Zx r.left=false:=by simpa using h2
    (with_reducible repeat' first|refine callS.eq (w209 _ k1) ?_|refine callS.eq (w209 _ k2) ?_|exact trivial|refine aO ?_|refine eO ?_|apply jO|refine K1 (jO h1 h2') ?_|intro h)
  ·have h1':Zx r.name=false:=by simpa using h1
   (with_reducible repeat' first|refine callS.eq (w209 _ k1) ?_|refine callS.eq (w209 _ k2) ?_|exact trivial|refine aO ?_|refine eO ?_|apply jO|refine K1 h1' ?_|intro h)
theorem w80 (g:Gram) (hs:Zw g) (hg:okGr g):Pu 80 [Gr g] (· = I (sfI g)):=by
 obtain ⟨m1,m2,m3,m4⟩:=hs
 refine ZY mxd i80 rfl (by simp) ?_;refine X0 ?_
 (refine V0 ?_;with_reducible repeat' first|exact trivial|intro h|refine aO ?_|refine eO ?_|apply jO)
 refine ZF mxd (ι:={ i:Nat // i≤g.syms.length∧∀j,j<i→symB g j=false }) (fun i=>[(1,.rop 2 (Gr g)),(8,SyS g.syms),(9,I g.syms.length),(10,I i.1)]) (fun _ => []) (fun i=>g.syms.length-i.1) ⟨0,by simp⟩ (by simp[E2]) rfl ?_
 rintro ⟨i,hi,hn⟩
 rcases nL i g.syms.length with hlt|hge
 ·have hb:=symB_eq hlt
  have hm:=gM hlt
  (refine V0 ?_;with_reducible repeat' first|exact trivial|intro h|refine aO ?_|refine eO ?_|apply jO)
  all_goals try exact oF
  refine callS.eq (w129 g.syms[i] (hg.1 _ hm) (m3 _ hm)) ?_
  rcases bC (symV g.syms[i]) with hv|hv
  ·rw[sfI_s hlt (by rw[hb,hv];rfl) hn]
   (refine V1 hv ?_;with_reducible repeat' first|exact trivial|intro h|refine aO ?_|refine eO ?_|apply jO)
  ·(refine V1 hv ?_;with_reducible repeat' first|exact trivial|intro h|refine aO ?_|refine eO ?_|apply jO)
   all_goals try exact oF
   rw[show List.drop (Int.toNat 0) (List.take i (List.map Sy g.syms))=(g.syms.take i).map Sy from by simp[List.map_take]]
   refine callS.eq (w99 (g.syms.take i) 130 [.rop 2 (Sy g.syms[i])] (fun o=>decide (o.name=g.syms[i].name)) fun x _ => w130 x _) ?_
   rcases bC ((g.syms.take i).any fun o=>decide (o.name=g.syms[i].name)) with hw|hw
   ·(refine V1 hw ?_;with_reducible repeat' first|exact trivial|intro h|refine aO ?_|refine eO ?_|apply jO)
    exact nx ⟨i+1,by omega,lt_step (by rw[hb,hv,hw];rfl) hn⟩ (by simp<;>omega) (by simp[E2]) rfl
   ·rw[sfI_s hlt (by rw[hb,hv,hw];rfl) hn]
    (refine V1 hw ?_;with_reducible repeat' first|exact trivial|intro h|refine aO ?_|refine eO ?_|apply jO)
 ·obtain rfl:i=g.syms.length:=by omega
  (refine V0 ?_;with_reducible repeat' first|exact trivial|intro h|refine aO ?_|refine eO ?_|apply jO)
  all_goals try exact oF
  refine ZF mxd (ι:={ i:Nat // i≤g.rules.length∧∀j,j<i→rulB g j=false }) (fun i=>[(1,.rop 2 (Gr g)),(29,RuS g.rules),(30,I g.rules.length),(31,I i.1)]) (fun _ => []) (fun i=>g.rules.length-i.1) ⟨0,by simp⟩ (by simp[E2]) rfl ?_
  rintro ⟨i,hi,hn2⟩
  rcases nL i g.rules.length with hlt|hge
  ·have hb:=rulB_eq hlt
   have hm:=gM hlt
   (refine V0 ?_;with_reducible repeat' first|exact trivial|intro h|refine aO ?_|refine eO ?_|apply jO)
   all_goals try exact oF
   refine callS.eq (w131 g.rules[i] (hg.2 _ hm) (m4 _ hm)) ?_
   rcases bC (rulV g.rules[i]) with hv|hv
   ·rw[sfI_r hn hlt (by rw[hb,hv];rfl) hn2]
    (refine V1 hv ?_;with_reducible repeat' first|exact trivial|intro h|refine aO ?_|refine eO ?_|apply jO)
   ·(refine V1 hv ?_;with_reducible repeat' first|exact trivial|intro h|refine aO ?_|refine eO ?_|apply jO)
    all_goals try exact oF
    rw[show List.drop (Int.toNat 0) (List.take i (List.map Ru g.rules))=(g.rules.take i).map Ru from by simp[List.map_take]]
    refine callS.eq (w94 (g.rules.take i) 132 [.rop 6 (Ru g.rules[i])] (fun o=>decide (o.name=g.rules[i].name)) fun x _ => w132 x _) ?_
    rcases bC ((g.rules.take i).any fun o=>decide (o.name=g.rules[i].name)) with hw|hw
    ·(refine V1 hw ?_;with_reducible repeat' first|exact trivial|intro h|refine aO ?_|refine eO ?_|apply jO)
     exact nx ⟨i+1,by omega,lt_step (by rw[hb,hv,hw];rfl) hn2⟩ (by simp<;>omega) (by simp[E2]) rfl
    ·rw[sfI_r hn hlt (by rw[hb,hv,hw];rfl) hn2]
     (refine V1 hw ?_;with_reducible repeat' first|exact trivial|intro h|refine aO ?_|refine eO ?_|apply jO)
  ·obtain rfl:i=g.rules.length:=by omega
   rw[sfI_n hn hn2]
   (refine V0 ?_;with_reducible repeat' first|exact trivial|intro h|refine aO ?_|refine eO ?_|apply jO)
   all_goals try exact oF
theorem w88 (g:Gram) (hs:Zw g) (hg:okGr g):Pu 88 [Gr g] (· = I (sfI g)):=by
 obtain ⟨m1,m2,m3,m4⟩:=hs
 refine Pure.bor ?_
 refine ZY mxd i88 rfl (by simp) ?_;refine X0 ?_
 (refine V0 ?_;with_reducible repeat' first|exact trivial|intro h|refine aO ?_|refine eO ?_|apply jO)
 rename_i r
 refine Y1 mxd (ι:={ x:Nat×Nat // x.2≤g.syms.length∧∀j,j<x.2→symB g j=false }) (fun x=>[(1,.rop 2 (Gr g)),(3,.own x.1.1 1 0 x.1.2),(4,I x.1.2)]) (fun x=>[(x.1.1,1,((g.syms.take x.1.2).map (·.name)).map T)]) (fun x=>g.syms.length-x.1.2) ⟨(r,0),by simp⟩ (by simp[E2]) (by simp[subH,ZU,names]) ?_
 rintro ⟨⟨r,i⟩,hi,hn⟩ -
 dsimp only at hi hn ⊢
 rcases nL i g.syms.length with hlt|hge
 ·have hb:=symB_eq hlt
  have hm:=gM hlt
  (refine V0 ?_;with_reducible repeat' first|exact trivial|intro h|refine aO ?_|refine eO ?_|apply jO)
  all_goals try exact oF
  refine callS.eq (w145 g.syms[i] (hg.1 _ hm) (m3 _ hm)) ?_
  rcases bC (symV g.syms[i]) with hv|hv
  ·rw[sfI_s hlt (by rw[hb,hv];rfl) hn]
   (refine V1 hv ?_;with_reducible repeat' first|exact trivial|intro h|refine aO ?_|refine eO ?_|apply jO)
   exact .refl
  ·(refine V1 hv ?_;with_reducible repeat' first|exact trivial|intro h|refine aO ?_|refine eO ?_|apply jO)
   all_goals try exact oF
   refine callS.borA (w146 ((g.syms.take i).map (·.name)) g.syms[i].name) (.cons (bor_TS Z4 (by simp<;>omega)) (.cons .refl .nil)) rfl ?_
   rw[hasS_map]
   rcases bC ((g.syms.take i).any fun o=>decide (o.name=g.syms[i].name)) with hw|hw
   ·(refine V1 (jO hw (jO @List.length_append.{0} (jO @List.length_singleton.{0} (jO @List.length_map.{0,0} (jO @List.length_take.{0} @ZO))))) ?_;with_reducible repeat' first|exact trivial|intro h|refine aO ?_|refine eO ?_|apply jO)
    all_goals try exact oF
    rename_i q2 _ q3
    rw[takeApp2 T (·.name) g.syms i hlt]
    exact px ⟨(q3,i+1),by omega,lt_step (by rw[hb,hv,hw];rfl) hn⟩ (by simp<;>omega) (by simp[E2]) (by repeat' (first|exact trivial|(refine And.intro (by simp only[Z9, *,if_true,if_false];try rfl) (And.intro (by simp[ZT,ZS, *]) ?_))))
   ·rw[sfI_s hlt (by rw[hb,hv,hw];rfl) hn]
    (refine V1 hw ?_;with_reducible repeat' first|exact trivial|intro h|refine aO ?_|refine eO ?_|apply jO)
    exact .refl
 ·obtain rfl:i=g.syms.length:=by omega
  (refine V0 ?_;with_reducible repeat' first|exact trivial|intro h|refine aO ?_|refine eO ?_|apply jO)
  all_goals try exact oF
  rename_i r2
  refine Y1 mxd (ι:={ x:Nat×Nat // x.2≤g.rules.length∧∀j,j<x.2→rulB g j=false }) (fun x=>[(1,.rop 2 (Gr g)),(3,.own x.1.1 1 0 x.1.2),(5,I x.1.2)]) (fun x=>[(x.1.1,1,((g.rules.take x.1.2).map (·.name)).map T)]) (fun x=>g.rules.length-x.1.2) ⟨(r2,0),by simp⟩ (by simp[E2]) (by simp[subH,ZU,names]) ?_
  rintro ⟨⟨r,i⟩,hi,hn2⟩ -
  dsimp only at hi hn2 ⊢
  rcases nL i g.rules.length with hlt|hge
  ·have hb:=rulB_eq hlt
   have hm:=gM hlt
   (refine V0 ?_;with_reducible repeat' first|exact trivial|intro h|refine aO ?_|refine eO ?_|apply jO)
   all_goals try exact oF
   refine callS.eq (w147 g.rules[i] (hg.2 _ hm) (m4 _ hm)) ?_
   rcases bC (rulV g.rules[i]) with hv|hv
   ·rw[sfI_r hn hlt (by rw[hb,hv];rfl) hn2]
    (refine V1 hv ?_;with_reducible repeat' first|exact trivial|intro h|refine aO ?_|refine eO ?_|apply jO)
    exact .refl
   ·(refine V1 hv ?_;with_reducible repeat' first|exact trivial|intro h|refine aO ?_|refine eO ?_|apply jO)
    all_goals try exact oF
    refine callS.borA (w146 ((g.rules.take i).map (·.name)) g.rules[i].name) (.cons (bor_TS Z4 (by simp<;>omega)) (.cons .refl .nil)) rfl ?_
    rw[hasS_map]
    rcases bC ((g.rules.take i).any fun o=>decide (o.name=g.rules[i].name)) with hw|hw
    ·(refine V1 (jO hw (jO @List.length_append.{0} (jO @List.length_singleton.{0} (jO @List.length_map.{0,0} (jO @List.length_take.{0} @ZO))))) ?_;with_reducible repeat' first|exact trivial|intro h|refine aO ?_|refine eO ?_|apply jO)
     all_goals try exact oF
     rename_i q2 _ q3
     rw[takeApp2 T (·.name) g.rules i hlt]
     exact px ⟨(q3,i+1),by omega,lt_step (by rw[hb,hv,hw];rfl) hn2⟩ (by simp<;>omega) (by simp[E2]) (by repeat' (first|exact trivial|(refine And.intro (by simp only[Z9, *,if_true,if_false];try rfl) (And.intro (by simp[ZT,ZS, *]) ?_))))
    ·rw[sfI_r hn hlt (by rw[hb,hv,hw];rfl) hn2]
     (refine V1 hw ?_;with_reducible repeat' first|exact trivial|intro h|refine aO ?_|refine eO ?_|apply jO)
     exact .refl
  ·obtain rfl:i=g.rules.length:=by omega
   rw[sfI_n hn hn2]
   (refine V0 ?_;with_reducible repeat' first|exact trivial|intro h|refine aO ?_|refine eO ?_|apply jO)
   all_goals first|(exfalso;omega)|exact .refl
end Go.Proofs.YtkmedfejmndmjaaGreat
