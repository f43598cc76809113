/- The law FnDefined returns true whatever the input, and the input reads behind the call as before. No condition. -/
import Derived.Test.YtofcbmnplanmkaaGreatFde6
import Derived.Test.YtofcbmnplanmkaaGreatFde18
import Derived.Test.YtofcbmnplanmkaaGreatFde20
set_option maxHeartbeats 40000000
set_option linter.unusedSimpArgs false
set_option linter.unusedVariables false
namespace Go.Proofs.YtofcbmnplanmkaaGreat
open Go.Gh
open Nat (reduceEqDiff reduceLeDiff reduceAdd reduceLT)
open Int (reduceNe)
set_option maxRecDepth 20000
set_option linter.unusedSimpArgs false
set_option linter.unusedVariables false
theorem w180 (g:Gram) (r:Rul) (e:Exp) (hg:Zw g) (hr:YY r) (hw:wEx e≤1048576):Pu 180 [Gr g,Ru r,Ex e] (· = B (!useB g r e)):=by
 have hul:=usE_sm hw
 have hub:useB g r e=(usE e []).any fun o=> !mayU g r o:=rfl
 rw [hub]
 refine ZW mxd i180 rfl (by simp) ?_;refine X0 ?_
 (refine V1 @XE ?_;with_reducible repeat' first|exact trivial|intro h|refine aO ?_|refine eO ?_|apply jO)
 refine callS.eq (w62 e hw) ?_
 generalize usE e []=L at *
 (refine V1 @XE ?_;with_reducible repeat' first|exact trivial|intro h|refine aO ?_|refine eO ?_|apply jO)
 refine Zz mxd (ι:={ i:Nat // i≤L.length∧∀o∈L.take i,(!mayU g r o)=false }) (fun i=>[(3,.rop 2 (Gr g)),(4,.rop 6 (Ru r)),(7,OcS L),(8,I i.1)]) (fun _ => []) (fun i=>L.length-i.1) ⟨0,by simp⟩ (by simp [E2]) rfl ?_
 rintro ⟨i,hi,hn⟩
 rcases nL i L.length with hlt|hge
 ·(refine V0 ?_;with_reducible repeat' first|exact trivial|intro h|refine aO ?_|refine eO ?_|apply jO)
  all_goals try exact oF
  refine callS.eq (w189 g r L[i] hg hr) ?_
  rcases bC (mayU g r L[i]) with hv|hv
  ·rw [any_yes (p:=fun o=> !mayU g r o) hlt (by rw [hv];rfl)]
   (refine V1 hv ?_;with_reducible repeat' first|exact trivial|intro h|refine aO ?_|refine eO ?_|apply jO)
  ·(refine V1 hv ?_;with_reducible repeat' first|exact trivial|intro h|refine aO ?_|refine eO ?_|apply jO)
   exact nx ⟨i+1,by omega,Y0 (p:=fun o=> !mayU g r o) hlt (by rw [hv];rfl) hn⟩ (by simp<;>omega) (by simp [E2]) rfl
 ·obtain rfl:i=L.length:=by omega
  rw [List.take_length] at hn
  rw [any_no (p:=fun o=> !mayU g r o) hn]
  (refine V0 ?_;with_reducible repeat' first|exact trivial|intro h|refine aO ?_|refine eO ?_|apply jO)
  all_goals try exact oF
theorem w155 (g:Gram) (r:Rul) (hg:Zw g) (hr:YY r):Pu 155 [Gr g,Ru r] (· = B (misU g r)):=by
 obtain ⟨m1,m2,m3,m4,m5⟩:=id hr
 refine ZW mxd i155 rfl (by simp) ?_;refine X0 ?_
 (refine V0 ?_;with_reducible repeat' first|exact trivial|intro h|refine aO ?_|refine eO ?_|apply jO)
 refine Zz mxd (ι:={ i:Nat // i≤r.eqs.length∧∀q∈r.eqs.take i,useB g r q.expr=false }) (fun i=>[(2,.rop 2 (Gr g)),(3,.rop 6 (Ru r)),(5,I i.1)]) (fun _ => []) (fun i=>r.eqs.length-i.1) ⟨0,by simp⟩ (by simp [E2]) rfl ?_
 rintro ⟨i,hi,hn⟩
 rcases nL i r.eqs.length with hlt|hge
 ·(refine V1 @XE ?_;with_reducible repeat' first|exact trivial|intro h|refine aO ?_|refine eO ?_|apply jO)
  all_goals try exact oF
  refine callS.eq (w180 g r r.eqs[i].expr hg hr (m4 _ (gM hlt))) ?_
  rcases bC (useB g r r.eqs[i].expr) with hv|hv
  ·(refine V1 hv ?_;with_reducible repeat' first|exact trivial|intro h|refine aO ?_|refine eO ?_|apply jO)
   exact nx ⟨i+1,by omega,Y0 (p:=fun q:Eqn=>useB g r q.expr) hlt hv hn⟩ (by simp<;>omega) (by simp [E2]) rfl
  ·rw [misU_e hlt hv]
   (refine V1 hv ?_;with_reducible repeat' first|exact trivial|intro h|refine aO ?_|refine eO ?_|apply jO)
 ·obtain rfl:i=r.eqs.length:=by omega
  rw [List.take_length] at hn
  (refine V0 ?_;with_reducible repeat' first|exact trivial|intro h|refine aO ?_|refine eO ?_|apply jO)
  all_goals try exact oF
  refine Zz mxd (ι:={ i:Nat // i≤r.cons.length∧∀c∈r.cons.take i,(useB g r c.goal||useB g r c.value)=false }) (fun i=>[(2,.rop 2 (Gr g)),(3,.rop 6 (Ru r)),(6,I i.1)]) (fun _ => []) (fun i=>r.cons.length-i.1) ⟨0,by simp⟩ (by simp [E2]) rfl ?_
  rintro ⟨i,hi,hn2⟩
  rcases nL i r.cons.length with hlt|hge
  ·have hc:=m5 _ (gM hlt)
   (refine V1 @XE ?_;with_reducible repeat' first|exact trivial|intro h|refine aO ?_|refine eO ?_|apply jO)
   all_goals try exact oF
   refine callS.eq (w180 g r r.cons[i].goal hg hr hc.1) ?_
   rcases bC (useB g r r.cons[i].goal) with hv|hv
   ·(refine V1 (jO hv @XE) ?_;with_reducible repeat' first|exact trivial|intro h|refine aO ?_|refine eO ?_|apply jO)
    refine callS.eq (w180 g r r.cons[i].value hg hr hc.2) ?_
    rcases bC (useB g r r.cons[i].value) with hw|hw
    ·(refine V1 hw ?_;with_reducible repeat' first|exact trivial|intro h|refine aO ?_|refine eO ?_|apply jO)
     exact nx ⟨i+1,by omega,Y0 (p:=fun c:Con=>useB g r c.goal||useB g r c.value) hlt (by rw [hv,hw];rfl) hn2⟩ (by simp<;>omega) (by simp [E2]) rfl
    ·rw [misU_c hlt (.inr hw)]
     (refine V1 hw ?_;with_reducible repeat' first|exact trivial|intro h|refine aO ?_|refine eO ?_|apply jO)
   ·rw [misU_c hlt (.inl hv)]
    (refine V1 hv ?_;with_reducible repeat' first|exact trivial|intro h|refine aO ?_|refine eO ?_|apply jO)
  ·obtain rfl:i=r.cons.length:=by omega
   rw [List.take_length] at hn2
   rw [misU_n hn hn2]
   (refine V0 ?_;with_reducible repeat' first|exact trivial|intro h|refine aO ?_|refine eO ?_|apply jO)
   all_goals try exact oF
theorem w120 (g:Gram) (r:Rul) (c:Nat) (hg:Zw g) (hr:YY r) (hr3:r.right.length≤3):Pu 120 [Gr g,Ru r,I c] (· = B (brk g r c)):=by
 simp only [brk]
 refine ZW mxd i120 rfl (by simp) ?_;refine X0 ?_
 by_cases e3:c=3
 ·have i3:((c:Int)=3)=True:=eq_true (by omega)
  rw [if_pos e3]
  (refine V1 (jO i3 @decide_true) ?_;with_reducible repeat' first|exact trivial|intro h|refine aO ?_|refine eO ?_|apply jO)
  refine callS.eq (w152 g r hg hr) ?_
  (refine V0 ?_;with_reducible repeat' first|exact trivial|intro h|refine aO ?_|refine eO ?_|apply jO)
  all_goals simp
 ·have i3:((c:Int)=3)=False:=eq_false (by omega)
  rw [if_neg e3]
  by_cases e4:c=4
  ·have i4:((c:Int)=4)=True:=eq_true (by omega)
   rw [if_pos e4]
   (refine V1 (jO i3 (jO i4 (jO @decide_true @decide_false))) ?_;with_reducible repeat' first|exact trivial|intro h|refine aO ?_|refine eO ?_|apply jO)
   refine callS.eq (w153 g r hg hr hr3) ?_
   (refine V0 ?_;with_reducible repeat' first|exact trivial|intro h|refine aO ?_|refine eO ?_|apply jO)
  ·have i4:((c:Int)=4)=False:=eq_false (by omega)
   rw [if_neg e4]
   by_cases e5:c=5
   ·have i5:((c:Int)=5)=True:=eq_true (by omega)
    rw [if_pos e5]
    (refine V1 (jO i3 (jO i4 (jO i5 (jO @decide_true @decide_false)))) ?_;with_reducible repeat' first|exact trivial|intro h|refine aO ?_|refine eO ?_|apply jO)
    refine callS.eq (w154 g r hg hr hr3) ?_
    (refine V0 ?_;with_reducible repeat' first|exact trivial|intro h|refine aO ?_|refine eO ?_|apply jO)
   ·have i5:((c:Int)=5)=False:=eq_false (by omega)
    rw [if_neg e5]
    (refine V1 (jO i3 (jO i4 (jO i5 @decide_false))) ?_;with_reducible repeat' first|exact trivial|intro h|refine aO ?_|refine eO ?_|apply jO)
    refine callS.eq (w155 g r hg hr) ?_
    (refine V0 ?_;with_reducible repeat' first|exact trivial|intro h|refine aO ?_|refine eO ?_|apply jO)
theorem w99 (g:Gram) (hs:Zw g) (hg:okGr g):Pu 99 [Gr g] (· = .tup [I (shpC g).1,I (shpC g).2]):=by
 obtain ⟨m1,m2,m3,m4⟩:=id hs
 refine ZW mxd i99 rfl (by simp) ?_;refine X0 ?_
 (refine V0 ?_;with_reducible repeat' first|exact trivial|intro h|refine aO ?_|refine eO ?_|apply jO)
 by_cases h1:(1≤g.syms.length∧g.syms.length≤4)∧(1≤g.rules.length∧g.rules.length≤8)
 ·have a1:((1:Int)≤g.syms.length∧(g.syms.length:Int)≤4):=by omega
  have a2:((1:Int)≤g.rules.length∧(g.rules.length:Int)≤8):=by omega
  (with_reducible repeat' first|refine callS.eq (w51 _ _ _) ?_|exact trivial|refine aO ?_|refine eO ?_|apply jO|refine K1 (jO a1 (jO a2 (jO @and_self @decide_true))) ?_|intro h)
  refine callS.eq (w119 g hs hg) ?_
  by_cases h2:0≤sfI g
  ·rw [shpC_b2 h1 h2]
   (refine V1 (jO h2 (jO @ge_iff_le.{0} @decide_true)) ?_;with_reducible repeat' first|exact trivial|intro h|refine aO ?_|refine eO ?_|apply jO)
  ·have h2':¬sfI g≥0:=h2
   have h00:0<g.syms.length:=by omega
   have e0:g.syms.getD 0 symZ=g.syms[0]:=ZJ h00
   have hal:=m3 _ (gM h00)
   unfold smSy at hal
   (refine V1 (jO h2 (jO h2' (jO @ge_iff_le.{0} @decide_false))) ?_;with_reducible repeat' first|exact trivial|intro h|refine aO ?_|refine eO ?_|apply jO)
   all_goals try exact oF
   refine Zz mxd (ι:={ i:Nat // i≤g.syms[0].atts.length ∧ ∀a∈g.syms[0].atts.take i,decide (a.mode=1)=false }) (fun i=>[(1,.rop 2 (Gr g)),(5,I i.1)]) (fun _ => []) (fun i=>g.syms[0].atts.length - i.1) ⟨0,by simp⟩ (by simp [E2]) rfl ?_
   rintro ⟨i,hi,hn⟩
   rcases nL i g.syms[0].atts.length with hlt|hge
   ·by_cases hm:g.syms[0].atts[i].mode = 1
    ·rw [shpC_b3 h1 h2 (by rw [e0];exact any_yes hlt (by simp [hm]))]
     (refine V2 hm ?_;with_reducible repeat' first|exact trivial|intro h|refine aO ?_|refine eO ?_|apply jO)
     all_goals try exact oF
    ·(refine V2 hm ?_;with_reducible repeat' first|exact trivial|intro h|refine aO ?_|refine eO ?_|apply jO)
     all_goals try exact oF
     exact nx ⟨i+1,by omega,Y0 hlt (by simp [hm]) hn⟩ (by simp<;>omega) (by simp [E2]) rfl
   ·obtain rfl:i=g.syms[0].atts.length := by omega
    rw [List.take_length] at hn
    have hG:shpG g:=⟨h1,h2,by rw [e0];exact any_no hn⟩
    ((try refine qI ?_);(repeat ((first|with_reducible refine qU ?_ | simp only [Z6]);try simp (maxSteps:=9^7) +contextual only [↓ S2,S2,↓reduceIte,reduceNe,reduceEqDiff,reduceCtorEq,reduceLeDiff,reduceAdd,reduceLT,VQ,Int.reduceToNat]));(try simp +contextual (disch:=omega) only [Z2,Int.reduceToNat]);(with_reducible repeat' (first|intro h|refine And.intro (by omega) ?_ | refine exP (by omega) ?_ | apply And.intro)))
    all_goals try exact oF
    refine Zz mxd (ι:={ c:Nat // 3≤c∧c≤7∧∀d,3≤d→d<c→brF g d = -1 }) (fun c=>[(1,.rop 2 (Gr g)),(6,I c.1)]) (fun _ => []) (fun c=>7-c.1) ⟨3,by omega,by omega,fun d h3 h4=>by omega⟩ (by simp [E2]) rfl ?_
    rintro ⟨c,hc3,hc7,hcn⟩
    rcases nL c 7 with hclt|hcge
    ·(refine V0 ?_;with_reducible repeat' first|exact trivial|intro h|refine aO ?_|refine eO ?_|apply jO)
     all_goals try exact oF
     refine Zz mxd (ι:={ i:Nat // i≤g.rules.length∧∀j (hj:j<g.rules.length),j<i→brk g g.rules[j] c=false }) (fun i=>[(1,.rop 2 (Gr g)),(6,I c),(7,I i.1)]) (fun _ => []) (fun i=>g.rules.length-i.1) ⟨0,by simp⟩ (by simp [E2]) rfl ?_
     rintro ⟨i,hi,hn⟩
     rcases nL i g.rules.length with hlt|hge
     ·have hr:=m4 _ (gM hlt)
      have hr3:=rulV_len (rul_ok h2 hlt)
      (refine V0 ?_;with_reducible repeat' first|exact trivial|intro h|refine aO ?_|refine eO ?_|apply jO)
      all_goals try exact oF
      refine callS.eq (w120 g g.rules[i] c hs hr hr3) ?_
      rcases bC (brk g g.rules[i] c) with hw|hw
      ·(refine V1 hw ?_;with_reducible repeat' first|exact trivial|intro h|refine aO ?_|refine eO ?_|apply jO)
       exact nx ⟨i+1,by omega,fun j hj hji=>by
        rcases Nat.lt_succ_iff_lt_or_eq.1 hji with e|e
        ·exact hn j hj e
        ·subst e;exact hw⟩ (by simp<;>omega) (by simp [E2]) rfl
      ·rw [shpC_hit hG hc3 (by omega) hcn (brF_hit hlt hw hn)]
       (refine V1 hw ?_;with_reducible repeat' first|exact trivial|intro h|refine aO ?_|refine eO ?_|apply jO)
     ·obtain rfl:i=g.rules.length:=by omega
      (refine V0 ?_;with_reducible repeat' first|exact trivial|intro h|refine aO ?_|refine eO ?_|apply jO)
      all_goals try exact oF
      exact nx ⟨c+1,by omega,by omega,fun d hd3 hd=>by
       rcases Nat.lt_succ_iff_lt_or_eq.1 hd with e|e
       ·exact hcn d hd3 e
       ·subst e;exact brF_none fun j hj=>hn j hj hj⟩ (by simp<;>omega) (by simp [E2]) rfl
    ·obtain rfl:c=7:=by omega
     rw [shpC_none hG hcn]
     (refine V0 ?_;with_reducible repeat' first|exact trivial|intro h|refine aO ?_|refine eO ?_|apply jO)
     all_goals try exact oF
 ·rw [shpC_b1 h1]
  by_cases a1:((1:Int)≤g.syms.length∧(g.syms.length:Int)≤4)
  ·have a2:¬((1:Int)≤g.rules.length∧(g.rules.length:Int)≤8):=by omega
   (with_reducible repeat' first|refine callS.eq (w51 _ _ _) ?_|exact trivial|refine aO ?_|refine eO ?_|apply jO|refine K1 (jO a1 (jO a2 (jO @and_self (jO @decide_true @decide_false)))) ?_|intro h)
  ·(with_reducible repeat' first|refine callS.eq (w51 _ _ _) ?_|exact trivial|refine aO ?_|refine eO ?_|apply jO|refine K1 (jO a1 (jO @decide_true @decide_false)) ?_|intro h)
end Go.Proofs.YtofcbmnplanmkaaGreat
