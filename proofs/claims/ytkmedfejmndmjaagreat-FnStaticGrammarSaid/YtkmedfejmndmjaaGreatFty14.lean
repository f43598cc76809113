/- The law returns true whatever the input, and the input reads behind the call as before. No condition. -/
import Derived.Test.YtkmedfejmndmjaaGreatFty9
import Derived.Test.YtkmedfejmndmjaaGreatFty13
set_option maxHeartbeats 40000000
set_option maxRecDepth 20000
set_option linter.unusedSimpArgs false
set_option linter.unusedVariables false
namespace Go.Proofs.YtkmedfejmndmjaaGreat
open Go.Gh
open Nat (reduceEqDiff reduceLeDiff reduceAdd reduceLT)
open Int (reduceNe)
theorem w37 (g:Gram) (hs:Zw g) (hg:okGr g):Pu 37 [Gr g] (· = .tup [I (shpC g).1,I (shpC g).2]):=by
 obtain ⟨m1,m2,m3,m4⟩:=id hs
 refine ZY mxd i37 rfl (by simp) ?_;refine X0 ?_
 (refine V0 ?_;with_reducible repeat' first|exact trivial|intro h|refine aO ?_|refine eO ?_|apply jO)
 by_cases h1:(1≤g.syms.length∧g.syms.length≤4)∧(1≤g.rules.length∧g.rules.length≤8)
 ·have a1:((1:Int)≤g.syms.length∧(g.syms.length:Int)≤4):=by omega
  have a2:((1:Int)≤g.rules.length∧(g.rules.length:Int)≤8):=by omega
  (with_reducible repeat' first|refine callS.eq (w47 _ _ _) ?_|exact trivial|refine aO ?_|refine eO ?_|apply jO|refine K1 (jO a1 (jO a2 (jO @and_self @decide_true))) ?_|intro h)
  refine callS.eq (w80 g hs hg) ?_
  by_cases h2:0≤sfI g
  ·rw[shpC_b2 h1 h2]
   (refine V1 (jO h2 (jO @ge_iff_le.{0} @decide_true)) ?_;with_reducible repeat' first|exact trivial|intro h|refine aO ?_|refine eO ?_|apply jO)
  ·have h2':¬sfI g≥0:=h2
   have h00:0<g.syms.length:=by omega
   have e0:g.syms.getD 0 symZ=g.syms[0]:=Z1 h00
   (refine V1 (jO h2 (jO h2' (jO @ge_iff_le.{0} @decide_false))) ?_;with_reducible repeat' first|exact trivial|intro h|refine aO ?_|refine eO ?_|apply jO)
   all_goals try exact oF
   refine callS.eq (w81 g.syms[0].atts 82 [] (fun a=>decide (a.mode=1)) fun x _ => w82 x) ?_
   rcases bC (g.syms[0].atts.any fun a=>decide (a.mode=1)) with hv|hv
   ·have hG:shpG g:=⟨h1,h2,by rw[e0];exact hv⟩
    (refine V1 hv ?_;with_reducible repeat' first|exact trivial|intro h|refine aO ?_|refine eO ?_|apply jO)
    refine ZF mxd (ι:={ c:Nat // 3≤c∧c≤7∧∀d,3≤d→d<c→brF g d = -1 }) (fun c=>[(1,.rop 2 (Gr g)),(5,I c.1)]) (fun _ => []) (fun c=>7-c.1) ⟨3,by omega,by omega,fun d h3 h4=>by omega⟩ (by simp[E2]) rfl ?_
    rintro ⟨c,hc3,hc7,hcn⟩
    rcases nL c 7 with hclt|hcge
    ·(refine V0 ?_;with_reducible repeat' first|exact trivial|intro h|refine aO ?_|refine eO ?_|apply jO)
     all_goals try exact oF
     refine ZF mxd (ι:={ i:Nat // i≤g.rules.length∧∀j (hj:j<g.rules.length),j<i→brk g g.rules[j] c=false }) (fun i=>[(1,.rop 2 (Gr g)),(5,I c),(37,RuS g.rules),(38,I g.rules.length),(39,I i.1)]) (fun _ => []) (fun i=>g.rules.length-i.1) ⟨0,by simp⟩ (by simp[E2]) rfl ?_
     rintro ⟨i,hi,hn⟩
     rcases nL i g.rules.length with hlt|hge
     ·have hr:=m4 _ (gM hlt)
      have hr3:=rulV_len (rul_ok h2 hlt)
      have hnx (hb:brk g g.rules[i] c=false):∀j (hj:j<g.rules.length),j<i+1→brk g g.rules[j] c=false:=fun j hj hji=>by
       rcases Nat.lt_succ_iff_lt_or_eq.1 hji with e|e
       ·exact hn j hj e
       ·subst e;exact hb
      have hit (hb:brk g g.rules[i] c=true):shpC g=((c:Int),(i:Int)):=shpC_hit hG hc3 (by omega) hcn (brF_hit hlt hb hn)
      rcases (by omega:c=3∨c=4∨c=5∨c=6) with e|e|e|e
      ·have i3:((c:Int)=3)=True:=eq_true (by omega)
       have i4:((c:Int)=4)=False:=eq_false (by omega)
       have i5:((c:Int)=5)=False:=eq_false (by omega)
       have hbk:brk g g.rules[i] c=unkR g g.rules[i]:=by subst e;rfl
       rw[hbk] at hnx hit
       (refine V1 (jO i3 (jO i4 (jO i5 (jO @decide_true @decide_false)))) ?_;with_reducible repeat' first|exact trivial|intro h|refine aO ?_|refine eO ?_|apply jO)
       all_goals try exact oF
       refine callS.eq (w83 g g.rules[i] hs hr) ?_
       rcases bC (unkR g g.rules[i]) with hw|hw
       ·(refine V1 hw ?_;with_reducible repeat' first|exact trivial|intro h|refine aO ?_|refine eO ?_|apply jO)
        exact nx ⟨i+1,by omega,hnx hw⟩ (by simp<;>omega) (by simp[E2]) rfl
       ·rw[hit hw]
        (refine V1 hw ?_;with_reducible repeat' first|exact trivial|intro h|refine aO ?_|refine eO ?_|apply jO)
      ·have i3:((c:Int)=3)=False:=eq_false (by omega)
       have i4:((c:Int)=4)=True:=eq_true (by omega)
       have i5:((c:Int)=5)=False:=eq_false (by omega)
       have hbk:brk g g.rules[i] c=misR g g.rules[i]:=by subst e;rfl
       rw[hbk] at hnx hit
       (refine V1 (jO i3 (jO i4 (jO i5 (jO @decide_true @decide_false)))) ?_;with_reducible repeat' first|exact trivial|intro h|refine aO ?_|refine eO ?_|apply jO)
       all_goals try exact oF
       refine callS.eq (w84 g g.rules[i] hs hr hr3) ?_
       rcases bC (misR g g.rules[i]) with hw|hw
       ·(refine V1 hw ?_;with_reducible repeat' first|exact trivial|intro h|refine aO ?_|refine eO ?_|apply jO)
        exact nx ⟨i+1,by omega,hnx hw⟩ (by simp<;>omega) (by simp[E2]) rfl
       ·rw[hit hw]
        (refine V1 hw ?_;with_reducible repeat' first|exact trivial|intro h|refine aO ?_|refine eO ?_|apply jO)
      ·have i3:((c:Int)=3)=False:=eq_false (by omega)
       have i4:((c:Int)=4)=False:=eq_false (by omega)
       have i5:((c:Int)=5)=True:=eq_true (by omega)
       have hbk:brk g g.rules[i] c=extR g g.rules[i]:=by subst e;rfl
       rw[hbk] at hnx hit
       (refine V1 (jO i3 (jO i4 (jO i5 (jO @decide_true @decide_false)))) ?_;with_reducible repeat' first|exact trivial|intro h|refine aO ?_|refine eO ?_|apply jO)
       all_goals try exact oF
       refine callS.eq (w85 g g.rules[i] hs hr hr3) ?_
       rcases bC (extR g g.rules[i]) with hw|hw
       ·(refine V1 hw ?_;with_reducible repeat' first|exact trivial|intro h|refine aO ?_|refine eO ?_|apply jO)
        exact nx ⟨i+1,by omega,hnx hw⟩ (by simp<;>omega) (by simp[E2]) rfl
       ·rw[hit hw]
        (refine V1 hw ?_;with_reducible repeat' first|exact trivial|intro h|refine aO ?_|refine eO ?_|apply jO)
      ·have i3:((c:Int)=3)=False:=eq_false (by omega)
       have i4:((c:Int)=4)=False:=eq_false (by omega)
       have i5:((c:Int)=5)=False:=eq_false (by omega)
       have hbk:brk g g.rules[i] c=misU g g.rules[i]:=by subst e;rfl
       rw[hbk] at hnx hit
       (refine V1 (jO i3 (jO i4 (jO i5 (jO @decide_true @decide_false)))) ?_;with_reducible repeat' first|exact trivial|intro h|refine aO ?_|refine eO ?_|apply jO)
       all_goals try exact oF
       refine callS.eq (w86 g g.rules[i] hs hr) ?_
       rcases bC (misU g g.rules[i]) with hw|hw
       ·(refine V1 hw ?_;with_reducible repeat' first|exact trivial|intro h|refine aO ?_|refine eO ?_|apply jO)
        exact nx ⟨i+1,by omega,hnx hw⟩ (by simp<;>omega) (by simp[E2]) rfl
       ·rw[hit hw]
        (refine V1 hw ?_;with_reducible repeat' first|exact trivial|intro h|refine aO ?_|refine eO ?_|apply jO)
     ·obtain rfl:i=g.rules.length:=by omega
      (refine V0 ?_;with_reducible repeat' first|exact trivial|intro h|refine aO ?_|refine eO ?_|apply jO)
      all_goals try exact oF
      exact nx ⟨c+1,by omega,by omega,fun d hd3 hd=>by
       rcases Nat.lt_succ_iff_lt_or_eq.1 hd with e|e
       ·exact hcn d hd3 e
       ·subst e;exact brF_none fun j hj=>hn j hj hj⟩ (by simp<;>omega) (by simp[E2]) rfl
    ·obtain rfl:c=7:=by omega
     rw[shpC_none hG hcn]
     (refine V0 ?_;with_reducible repeat' first|exact trivial|intro h|refine aO ?_|refine eO ?_|apply jO)
     all_goals try exact oF
   ·rw[shpC_b3 h1 h2 (by rw[e0];exact hv)]
    (refine V1 hv ?_;with_reducible repeat' first|exact trivial|intro h|refine aO ?_|refine eO ?_|apply jO)
 ·rw[shpC_b1 h1]
  by_cases a1:((1:Int)≤g.syms.length∧(g.syms.length:Int)≤4)
  ·have a2:¬((1:Int)≤g.rules.length∧(g.rules.length:Int)≤8):=by omega
   (with_reducible repeat' first|refine callS.eq (w47 _ _ _) ?_|exact trivial|refine aO ?_|refine eO ?_|apply jO|refine K1 (jO a1 (jO a2 (jO @and_self (jO @decide_true @decide_false)))) ?_|intro h)
  ·(with_reducible repeat' first|refine callS.eq (w47 _ _ _) ?_|exact trivial|refine aO ?_|refine eO ?_|apply jO|refine K1 (jO a1 (jO @decide_true @decide_false)) ?_|intro h)
theorem w40 (g:Gram) (hs:Zw g) (hg:okGr g):Pu 40 [Gr g] (· = .tup [I (shpC g).1,I (shpC g).2]):=by
 obtain ⟨m1,m2,m3,m4⟩:=id hs
 refine ZY mxd i40 rfl (by simp) ?_;refine X0 ?_
 (refine V0 ?_;with_reducible repeat' first|exact trivial|intro h|refine aO ?_|refine eO ?_|apply jO)
 by_cases h1:(1≤g.syms.length∧g.syms.length≤4)∧(1≤g.rules.length∧g.rules.length≤8)
 ·have a1:((1:Int)≤g.syms.length∧(g.syms.length:Int)≤4):=by omega
  have a2:((1:Int)≤g.rules.length∧(g.rules.length:Int)≤8):=by omega
  (with_reducible repeat' first|refine callS.eq (w44 _ _ _) ?_|exact trivial|refine aO ?_|refine eO ?_|apply jO|refine K1 (jO a1 (jO a2 (jO @and_self @decide_true))) ?_|intro h)
  refine callS.eq (w88 g hs hg) ?_
  by_cases h2:0≤sfI g
  ·rw[shpC_b2 h1 h2]
   (refine V1 (jO h2 (jO @ge_iff_le.{0} @decide_true)) ?_;with_reducible repeat' first|exact trivial|intro h|refine aO ?_|refine eO ?_|apply jO)
  ·have h2':¬sfI g≥0:=h2
   have h00:0<g.syms.length:=by omega
   have e0:g.syms.getD 0 symZ=g.syms[0]:=Z1 h00
   have hal:=m3 _ (gM h00)
   unfold smSy at hal
   (refine V1 (jO h2 (jO h2' (jO @ge_iff_le.{0} @decide_false))) ?_;with_reducible repeat' first|exact trivial|intro h|refine aO ?_|refine eO ?_|apply jO)
   all_goals try exact oF
   refine ZF mxd (ι:={ i:Nat // i≤g.syms[0].atts.length ∧ ∀a∈g.syms[0].atts.take i,decide (a.mode=1)=false }) (fun i=>[(1,.rop 2 (Gr g)),(5,I i.1)]) (fun _ => []) (fun i=>g.syms[0].atts.length - i.1) ⟨0,by simp⟩ (by simp[E2]) rfl ?_
   rintro ⟨i,hi,hn⟩
   rcases nL i g.syms[0].atts.length with hlt|hge
   ·by_cases hm:g.syms[0].atts[i].mode = 1
    ·rw[shpC_b3 h1 h2 (by rw[e0];exact Yq hlt (by simp[hm]))]
     (refine V2 hm ?_;with_reducible repeat' first|exact trivial|intro h|refine aO ?_|refine eO ?_|apply jO)
     all_goals try exact oF
    ·(refine V2 hm ?_;with_reducible repeat' first|exact trivial|intro h|refine aO ?_|refine eO ?_|apply jO)
     all_goals try exact oF
     exact nx ⟨i+1,by omega,Zv hlt (by simp[hm]) hn⟩ (by simp<;>omega) (by simp[E2]) rfl
   ·obtain rfl:i=g.syms[0].atts.length := by omega
    rw[List.take_length] at hn
    have hG:shpG g:=⟨h1,h2,by rw[e0];exact any_no hn⟩
    ((try refine qI ?_);(repeat ((first|with_reducible refine qU ?_ | simp only[Z8]);try simp (maxSteps:=9^7) +contextual only[↓ S2,S2,↓reduceIte,reduceNe,reduceEqDiff,reduceCtorEq,reduceLeDiff,reduceAdd,reduceLT,VQ,Int.reduceToNat]));(try simp +contextual (disch:=omega) only[Z2,Int.reduceToNat]);(with_reducible repeat' (first|intro h|refine And.intro (by omega) ?_ | refine exP (by omega) ?_ | apply And.intro)))
    all_goals try exact oF
    refine ZF mxd (ι:={ c:Nat // 3≤c∧c≤7∧∀d,3≤d→d<c→brF g d = -1 }) (fun c=>[(1,.rop 2 (Gr g)),(6,I c.1)]) (fun _ => []) (fun c=>7-c.1) ⟨3,by omega,by omega,fun d h3 h4=>by omega⟩ (by simp[E2]) rfl ?_
    rintro ⟨c,hc3,hc7,hcn⟩
    rcases nL c 7 with hclt|hcge
    ·(refine V0 ?_;with_reducible repeat' first|exact trivial|intro h|refine aO ?_|refine eO ?_|apply jO)
     all_goals try exact oF
     refine ZF mxd (ι:={ i:Nat // i≤g.rules.length∧∀j (hj:j<g.rules.length),j<i→brk g g.rules[j] c=false }) (fun i=>[(1,.rop 2 (Gr g)),(6,I c),(7,I i.1)]) (fun _ => []) (fun i=>g.rules.length-i.1) ⟨0,by simp⟩ (by simp[E2]) rfl ?_
     rintro ⟨i,hi,hn⟩
     rcases nL i g.rules.length with hlt|hge
     ·have hr:=m4 _ (gM hlt)
      have hr3:=rulV_len (rul_ok h2 hlt)
      (refine V0 ?_;with_reducible repeat' first|exact trivial|intro h|refine aO ?_|refine eO ?_|apply jO)
      all_goals try exact oF
      refine callS.eq (w89 g g.rules[i] c hs hr hr3) ?_
      rcases bC (brk g g.rules[i] c) with hw|hw
      ·(refine V1 hw ?_;with_reducible repeat' first|exact trivial|intro h|refine aO ?_|refine eO ?_|apply jO)
       exact nx ⟨i+1,by omega,fun j hj hji=>by
        rcases Nat.lt_succ_iff_lt_or_eq.1 hji with e|e
        ·exact hn j hj e
        ·subst e;exact hw⟩ (by simp<;>omega) (by simp[E2]) rfl
      ·rw[shpC_hit hG hc3 (by omega) hcn (brF_hit hlt hw hn)]
       (refine V1 hw ?_;with_reducible repeat' first|exact trivial|intro h|refine aO ?_|refine eO ?_|apply jO)
     ·obtain rfl:i=g.rules.length:=by omega
      (refine V0 ?_;with_reducible repeat' first|exact trivial|intro h|refine aO ?_|refine eO ?_|apply jO)
      all_goals try exact oF
      exact nx ⟨c+1,by omega,by omega,fun d hd3 hd=>by
       rcases Nat.lt_succ_iff_lt_or_eq.1 hd with e|e
       ·exact hcn d hd3 e
       ·subst e;exact brF_none fun j hj=>hn j hj hj⟩ (by simp<;>omega) (by simp[E2]) rfl
    ·obtain rfl:c=7:=by omega
     rw[shpC_none hG hcn]
     (refine V0 ?_;with_reducible repeat' first|exact trivial|intro h|refine aO ?_|refine eO ?_|apply jO)
     all_goals try exact oF
 ·rw[shpC_b1 h1]
  by_cases a1:((1:Int)≤g.syms.length∧(g.syms.length:Int)≤4)
  ·have a2:¬((1:Int)≤g.rules.length∧(g.rules.length:Int)≤8):=by omega
   (with_reducible repeat' first|refine callS.eq (w44 _ _ _) ?_|exact trivial|refine aO ?_|refine eO ?_|apply jO|refine K1 (jO a1 (jO a2 (jO @and_self (jO @decide_true @decide_false)))) ?_|intro h)
  ·(with_reducible repeat' first|refine callS.eq (w44 _ _ _) ?_|exact trivial|refine aO ?_|refine eO ?_|apply jO|refine K1 (jO a1 (jO @decide_true @decide_false)) ?_|intro h)
theorem w154 (g:Gram) (s:ByteArray) (hg:Zw g):Pu 154 [Gr g,T s] (· = I (Y5 (fun y:Sym=>decide (y.name=s)) g.syms)):=by
 have hl:=hg.1
 refine ZY mxd i154 rfl (by simp) ?_;refine X0 ?_
 (refine V0 ?_;with_reducible repeat' first|exact trivial|intro h|refine aO ?_|refine eO ?_|apply jO)
 refine ZF mxd (ι:={ i:Nat // i≤g.syms.length∧∀y∈g.syms.take i,decide (y.name=s)=false }) (fun i=>[(1,T s),(2,.rop 2 (Gr g)),(5,I i.1)]) (fun _ => []) (fun i=>g.syms.length-i.1) ⟨0,by simp⟩ (by simp[E2]) rfl ?_
 rintro ⟨i,hi,hn⟩
 rcases nL i g.syms.length with hlt|hge
 ·by_cases he:g.syms[i].name = s
  ·rw[YD hlt (by simp[he]) hn]
   (refine V1 he ?_;with_reducible repeat' first|exact trivial|intro h|refine aO ?_|refine eO ?_|apply jO)
   all_goals try exact oF
  ·(refine V1 he ?_;with_reducible repeat' first|exact trivial|intro h|refine aO ?_|refine eO ?_|apply jO)
   all_goals try exact oF
   exact nx ⟨i+1,by omega,Zg hlt (by simp[he]) hn⟩ (by simp<;>omega) (by simp[E2]) rfl
 ·obtain rfl:i=g.syms.length:=by omega
  rw[List.take_length] at hn
  rw[YF hn]
  (refine V0 ?_;with_reducible repeat' first|exact trivial|intro h|refine aO ?_|refine eO ?_|apply jO)
  all_goals try exact oF
theorem w215 (g:Gram) (s:ByteArray) (out:List Int) (hg:Zw g) (ho:out.length=g.syms.length):Pu 215 [Gr g,T s,IS out] (· = B (rchS g out s)):=by
 have hl:=hg.1
 have hl2:=hg.2.1
 refine ZY mxd i215 rfl (by simp) ?_;refine X0 ?_
 (refine V0 ?_;with_reducible repeat' first|exact trivial|intro h|refine aO ?_|refine eO ?_|apply jO)
 refine ZF mxd (ι:={ i:Nat // i≤g.rules.length∧∀r∈g.rules.take i,rchR g out s r=false }) (fun i=>[(1,T s),(2,IS out),(3,.rop 2 (Gr g)),(7,I i.1)]) (fun _ => []) (fun i=>g.rules.length-i.1) ⟨0,by simp⟩ (by simp[E2]) rfl ?_
 rintro ⟨i,hi,hn⟩
 rcases nL i g.rules.length with hlt|hge
 ·have hr:=hg.2.2.2 _ (gM hlt)
  have hrl:=hr.1
  (refine V0 ?_;with_reducible repeat' first|exact trivial|intro h|refine aO ?_|refine eO ?_|apply jO)
  all_goals try exact oF
  have hz:decide (g.rules[i].left = s)=rchP g out s g.rules[i] 0:=by simp[rchP]
  refine ZF mxd (ι:={ k:Nat // k≤g.rules[i].right.length }) (fun k=>[(1,T s),(2,IS out),(3,.rop 2 (Gr g)),(7,I i),(8,.rop 6 (Ru g.rules[i])),(9,B (rchP g out s g.rules[i] k.1)),(10,I k.1)]) (fun _ => []) (fun k=>g.rules[i].right.length - k.1) ⟨0,by simp⟩ (by simp[E2,hz]) rfl ?_
  rintro ⟨k,hk⟩
  rcases nL k g.rules[i].right.length with hlt2|hge2
  ·have hst:=rchP_step (g:=g) (out:=out) (s:=s) hlt2
   have hix:=ixOf_cases (fun y:Sym=>decide (y.name=g.rules[i].right[k])) g.syms
   have hho:hOf g out g.rules[i].right[k]=if Y5 (fun y:Sym=>decide (y.name=g.rules[i].right[k])) g.syms<0 then 0 else out.getD (Y5 (fun y:Sym=>decide (y.name=g.rules[i].right[k])) g.syms).toNat 0:=rfl
   (refine V0 ?_;with_reducible repeat' first|exact trivial|intro h|refine aO ?_|refine eO ?_|apply jO)
   all_goals try exact oF
   refine callS.eq (w154 g g.rules[i].right[k] hg) ?_
   rcases bC (rchP g out s g.rules[i] k) with hv|hv
   ·rw[hv,Bool.false_and] at hst
    (refine V1 hv ?_;with_reducible repeat' first|exact trivial|intro h|refine aO ?_|refine eO ?_|apply jO)
    exact nx ⟨k+1,by omega⟩ (by simp<;>omega) (by simp[E2,hst]) rfl
   ·rw[hv,Bool.true_and] at hst
    rcases hix with hx|⟨hx,hx2⟩
    ·rw[hx] at hho ⊢
     rw[if_pos (by omega)] at hho
     rw[hho] at hst
     (refine V2 (jO hv (jO @ge_iff_le.{0} @decide_false)) ?_;with_reducible repeat' first|exact trivial|intro h|refine aO ?_|refine eO ?_|apply jO)
     exact nx ⟨k+1,by omega⟩ (by simp<;>omega) (by simp[E2,hst]) rfl
    ·obtain ⟨a,ha⟩:∃a:Nat,Y5 (fun y:Sym=>decide (y.name=g.rules[i].right[k])) g.syms=a:=⟨(Y5 (fun y:Sym=>decide (y.name=g.rules[i].right[k])) g.syms).toNat,by omega⟩
     rw[ha] at hho hx hx2 ⊢
     have ha2:a<out.length:=by omega
     rw[if_neg (by omega),Int.toNat_natCast,Z1 ha2] at hho
     rw[hho] at hst
     have hmx:max (a:Int) 0=a:=by omega
     (refine V1 (jO hv (jO hx (jO @ge_iff_le.{0} @decide_true))) ?_;with_reducible repeat' first|exact trivial|intro h|refine aO ?_|refine eO ?_|apply jO)
     refine callS.eq (w115 _ _) ?_
     rw[hmx]
     (refine V1 hst ?_;with_reducible repeat' first|exact trivial|intro h|refine aO ?_|refine eO ?_|apply jO)
     all_goals try exact oF
     exact nx ⟨k+1,by omega⟩ (by simp<;>omega) (by simp[E2,hst]) rfl
  ·obtain rfl:k=g.rules[i].right.length := by omega
   have he:=rchP_end g out s g.rules[i]
   rcases bC (rchR g out s g.rules[i]) with hw|hw
   ·rw[he,hw]
    (refine V0 ?_;with_reducible repeat' first|exact trivial|intro h|refine aO ?_|refine eO ?_|apply jO)
    all_goals try exact oF
    exact nx ⟨i+1,by omega,Zv hlt hw hn⟩ (by simp<;>omega) (by simp[E2]) rfl
   ·have:rchS g out s=true:=Yq hlt hw
    rw[he,hw,this]
    (refine V0 ?_;with_reducible repeat' first|exact trivial|intro h|refine aO ?_|refine eO ?_|apply jO)
    all_goals try exact oF
 ·obtain rfl:i=g.rules.length:=by omega
  rw[List.take_length] at hn
  have:rchS g out s=false:=any_no hn
  rw[this]
  (refine V0 ?_;with_reducible repeat' first|exact trivial|intro h|refine aO ?_|refine eO ?_|apply jO)
  all_goals try exact oF
theorem w155 (g:Gram) (hg:Zw g) (h4:g.syms.length≤4):Pu 155 [Gr g] (· = IS (hgts g)):=by
 refine Pure.bor ?_
 refine ZY mxd i155 rfl (by simp) ?_;refine X0 ?_
 (refine V0 ?_;with_reducible repeat' first|exact trivial|intro h|refine aO ?_|refine eO ?_|apply jO)
 all_goals try exact oF
 rename_i r0
 refine Y1 mxd (ι:={ x:Nat×Nat // x.2≤g.syms.length }) (fun x=>[(1,.rop 2 (Gr g)),(3,.own x.1.1 1 0 g.syms.length),(4,I ((x.1.2:Int)+1))]) (fun x=>[(x.1.1,1,(hIt g x.1.2).map I)]) (fun x=>g.syms.length-x.1.2) ⟨(r0,0),by simp⟩ (by simp[E2]) (by simp[subH,ZU,names,hIt]) ?_
 rintro ⟨⟨q,k⟩,hk⟩ hn0
 dsimp only at hk hn0 ⊢
 have hol:=hIt_len g k
 rcases nL k g.syms.length with hlt|hge
 ·(refine V1 (jO @List.length_map.{0,0} hol) ?_;with_reducible repeat' first|exact trivial|intro h|refine aO ?_|refine eO ?_|apply jO)
  all_goals try exact oF
  rename_i q2 hq2 q3
  rw[soT_I hol]
  (refine V1 (jO @List.length_map.{0,0} (jO @List.length_append.{0} (jO @List.length_nil.{0} (jO hol @ZO)))) ?_;with_reducible repeat' first|exact trivial|intro h|refine aO ?_|refine eO ?_|apply jO)
  all_goals try exact oF
  rename_i r5
  refine Y1 mxd (ι:={ x:Nat×List Int // x.1≤g.syms.length∧nxt g k x.1 x.2 }) (fun x=>[(1,.rop 2 (Gr g)),(3,.own q 1 0 g.syms.length),(4,I ((k:Int)+1)),(5,.own r5 1 0 g.syms.length),(6,I x.1.1)]) (fun x=>[(r5,1,x.1.2.map I),(q,1,(hIt g k).map I)]) (fun x=>g.syms.length-x.1.1) ⟨(0,hIt g k),by omega,nxt_0 g k⟩ (by simp[E2]) (by repeat' (first|exact trivial|(refine And.intro (by simp only[Z9, *,if_true,if_false];try rfl) (And.intro (by simp[ZT,ZS, *]) ?_)))) ?_
  rintro ⟨⟨i,Y⟩,hi,hY⟩ hn2
  dsimp only at hi hY hn2 ⊢
  (replace hn2:=hn2;simp only[VN] at hn2)
  have hYl:=hY.1
  rcases nL i g.syms.length with hlt2|hge2
  ·have hg1:(hIt g k).getD i 0=(hIt g k)[i]:=Z1 (by omega)
   have hg2:g.syms.getD i symZ=g.syms[i]:=Z1 hlt2
   have hnx:hNext g ((k:Int)+1) (hIt g k) i=if 0<(hIt g k)[i] then (hIt g k)[i] else if rchS g (hIt g k) g.syms[i].name = true then (k:Int)+1 else (hIt g k)[i]:=by simp only[hNext,hg1,hg2]
   have hnn:=hIt_nn g k _ (gM (show i<(hIt g k).length by omega))
   by_cases hz:(hIt g k)[i]=0
   ·rw[if_neg (by omega)] at hnx
    (refine V1 (jO hn2 (jO hz (jO @List.length_map.{0,0} (jO hol (jO hYl @decide_true))))) ?_;with_reducible repeat' first|exact trivial|intro h|refine aO ?_|refine eO ?_|apply jO)
    all_goals try exact oF
    refine callS.borA (w215 g g.syms[i].name (hIt g k) hg hol) (.cons .refl (.cons .refl (.cons (bor_IS (by simp[Z9,hn2]) hol) .nil))) rfl ?_
    rcases bC (rchS g (hIt g k) g.syms[i].name) with hv|hv
    ·rw[hv,if_neg (by simp)] at hnx
     (refine V1 hv ?_;with_reducible repeat' first|exact trivial|intro h|refine aO ?_|refine eO ?_|apply jO)
     exact px ⟨(i+1,Y),by omega,nxt_keep hY hlt2 (by rw[hnx,hg1])⟩ (by simp<;>omega) (by simp[E2]) (by repeat' (first|exact trivial|(refine And.intro (by simp only[Z9, *,if_true,if_false];try rfl) (And.intro (by simp[ZT,ZS, *]) ?_))))
    ·rw[hv,if_pos rfl] at hnx
     (refine V1 (jO hn2 (jO hv (jO @List.length_map.{0,0} hYl))) ?_;with_reducible repeat' first|exact trivial|intro h|refine aO ?_|refine eO ?_|apply jO)
     all_goals try exact oF
     refine px ⟨(i+1,Y.set i ((k:Int)+1)),by omega,nxt_set hY hlt2 hnx⟩ (by simp<;>omega) (by simp[E2]) ?_
     show subH _ [(r5,1,(Y.set i ((k:Int)+1)).map I),(q,1,(hIt g k).map I)]
     rw[List.map_set]
     exact (by repeat' (first|exact trivial|(refine And.intro (by simp only[Z9, *,if_true,if_false];try rfl) (And.intro (by simp[ZT,ZS, *]) ?_))))
   ·rw[if_pos (by omega)] at hnx
    (refine V1 (jO hn2 (jO hz (jO @List.length_map.{0,0} (jO hol (jO hYl @decide_false))))) ?_;with_reducible repeat' first|exact trivial|intro h|refine aO ?_|refine eO ?_|apply jO)
    all_goals try exact oF
    exact px ⟨(i+1,Y),by omega,nxt_keep hY hlt2 (by rw[hnx,hg1])⟩ (by simp<;>omega) (by simp[E2]) (by repeat' (first|exact trivial|(refine And.intro (by simp only[Z9, *,if_true,if_false];try rfl) (And.intro (by simp[ZT,ZS, *]) ?_))))
  ·obtain rfl:i=g.syms.length:=by omega
   have hYe:=nxt_n hY
   subst hYe
   (refine V1 hn2 ?_;with_reducible repeat' first|exact trivial|intro h|refine aO ?_|refine eO ?_|apply jO)
   all_goals try exact oF
   exact px ⟨(r5,k+1),by omega⟩ (by simp<;>omega) (by simp[E2]) (by repeat' (first|exact trivial|(refine And.intro (by simp only[Z9, *,if_true,if_false];try rfl) (And.intro (by simp[ZT,ZS, *]) ?_))))
 ·obtain rfl:k=g.syms.length:=by omega
  (refine V0 ?_;with_reducible repeat' first|exact trivial|intro h|refine aO ?_|refine eO ?_|apply jO)
  all_goals try exact oF
  exact bor_IS Z4 (hgts_len g)
theorem w92 (g:Gram) (s:ByteArray) (hg:Zw g) (h4:g.syms.length≤4):Pu 92 [Gr g,T s] (· = I (minH g s)):=by
 have hl:=hgts_len g
 have hix:=ixOf_cases (fun y:Sym=>decide (y.name=s)) g.syms
 have hm:minH g s=if Y5 (fun y:Sym=>decide (y.name=s)) g.syms<0 then 0 else (hgts g).getD (Y5 (fun y:Sym=>decide (y.name=s)) g.syms).toNat 0:=rfl
 refine ZY mxd i92 rfl (by simp) ?_;refine X0 ?_
 (refine V0 ?_;with_reducible repeat' first|exact trivial|intro h|refine aO ?_|refine eO ?_|apply jO)
 refine callS.eq (w154 g s hg) ?_
 rcases hix with hx|⟨hx,hx2⟩
 ·rw[hx,if_pos (by omega)] at hm
  rw[hx,hm]
  (refine V2 @decide_true ?_;with_reducible repeat' first|exact trivial|intro h|refine aO ?_|refine eO ?_|apply jO)
 ·obtain ⟨a,ha⟩:∃a:Nat,Y5 (fun y:Sym=>decide (y.name=s)) g.syms=a:=⟨(Y5 (fun y:Sym=>decide (y.name=s)) g.syms).toNat,by omega⟩
  rw[ha] at hx hx2 hm ⊢
  rw[if_neg (by omega),Int.toNat_natCast,Z1 (by omega)] at hm
  rw[hm]
  (refine V0 ?_;with_reducible repeat' first|exact trivial|intro h|refine aO ?_|refine eO ?_|apply jO)
  all_goals try exact oF
  refine callS.eq (w155 g hg h4) ?_
  (refine V1 (jO @List.length_map.{0,0} hl) ?_;with_reducible repeat' first|exact trivial|intro h|refine aO ?_|refine eO ?_|apply jO)
  all_goals try exact oF
theorem w42 (g:Gram) (s:ByteArray) (hg:Zw g) (h4:g.syms.length≤4):Pu 42 [Gr g,T s] (· = B (decide (0<minH g s))):=by
 refine ZY mxd i42 rfl (by simp) ?_;refine X0 ?_
 (refine V0 ?_;with_reducible repeat' first|exact trivial|intro h|refine aO ?_|refine eO ?_|apply jO)
 refine callS.eq (w92 g s hg h4) ?_
 (refine V1 @gt_iff_lt.{0} ?_;with_reducible repeat' first|exact trivial|intro h|refine aO ?_|refine eO ?_|apply jO)
end Go.Proofs.YtkmedfejmndmjaaGreat
