/- The law FnDefined returns true whatever the input, and the input reads behind the call as before. No condition. -/
import Derived.Test.YtofcbmnplanmkaaGreatFde21
import Derived.Test.YtofcbmnplanmkaaGreatFde24
set_option maxHeartbeats 40000000
set_option linter.unusedSimpArgs false
set_option linter.unusedVariables false
namespace Go.Proofs.YtofcbmnplanmkaaGreat
open Go.Gh
open Nat (reduceEqDiff reduceLeDiff reduceAdd reduceLT)
open Int (reduceNe)
set_option maxRecDepth 20000
set_option linter.unusedSimpArgs false
set_option linter.unusedVariables false
theorem w100 (g:Gram) (r:Rul) (hg:Zw g) (hr:YY r) (hv:∀q∈r.eqs,0≤q.pos∧q.pos≤r.right.length):Pu 100 [Gr g,Ru r] (· = B (!misT g r)):=by
 obtain ⟨m1,m2,m3,m4,m5⟩:=id hr
 refine ZW mxd i100 rfl (by simp) ?_;refine X0 ?_
 (refine V1 @XE ?_;with_reducible repeat' first|exact trivial|intro h|refine aO ?_|refine eO ?_|apply jO)
 refine Zz mxd (ι:={ i:Nat // i≤r.eqs.length∧∀q∈r.eqs.take i,decide (tyE g r q.expr=(attAt g r q.pos q.name).type)=true }) (fun i=>[(2,.rop 2 (Gr g)),(3,.rop 6 (Ru r)),(5,I i.1)]) (fun _ => []) (fun i=>r.eqs.length-i.1) ⟨0,by simp⟩ (by simp [E2]) rfl ?_
 rintro ⟨i,hi,hn⟩
 rcases nL i r.eqs.length with hlt|hge
 ·have hat:attAt g r r.eqs[i].pos r.eqs[i].name = fAtt (Zv g.syms (Zp r r.eqs[i].pos)).atts r.eqs[i].name := by
   unfold attAt;rw [if_pos (hv _ (gM hlt))]
  (refine V1 @XE ?_;with_reducible repeat' first|exact trivial|intro h|refine aO ?_|refine eO ?_|apply jO)
  all_goals try exact oF
  refine callS.eq (w121 g r hg hr r.eqs[i].expr (m4 _ (gM hlt))) ?_
  (refine V1 @XE ?_;with_reducible repeat' first|exact trivial|intro h|refine aO ?_|refine eO ?_|apply jO)
  refine callS.eq (w123 r r.eqs[i].pos hr) ?_
  (refine V1 @XE ?_;with_reducible repeat' first|exact trivial|intro h|refine aO ?_|refine eO ?_|apply jO)
  refine callS.eq (w122 g _ _ hg) ?_
  rw [←hat]
  by_cases hb:tyE g r r.eqs[i].expr = (attAt g r r.eqs[i].pos r.eqs[i].name).type
  ·(refine V1 hb ?_;with_reducible repeat' first|exact trivial|intro h|refine aO ?_|refine eO ?_|apply jO)
   exact nx ⟨i+1,by omega,Y0 (p:=fun q:Eqn=>decide (tyE g r q.expr=(attAt g r q.pos q.name).type)) hlt (decide_eq_true hb) hn⟩ (by simp<;>omega) (by simp [E2]) rfl
  ·rw [misT_e hlt hb]
   (refine V1 hb ?_;with_reducible repeat' first|exact trivial|intro h|refine aO ?_|refine eO ?_|apply jO)
 ·obtain rfl:i=r.eqs.length:=by omega
  rw [List.take_length] at hn
  (refine V1 @XE ?_;with_reducible repeat' first|exact trivial|intro h|refine aO ?_|refine eO ?_|apply jO)
  all_goals try exact oF
  refine Zz mxd (ι:={ i:Nat // i≤r.cons.length∧∀c∈r.cons.take i,conT g r c=false }) (fun i=>[(2,.rop 2 (Gr g)),(3,.rop 6 (Ru r)),(7,I i.1)]) (fun _ => []) (fun i=>r.cons.length-i.1) ⟨0,by simp⟩ (by simp [E2]) rfl ?_
  rintro ⟨i,hi,hn2⟩
  rcases nL i r.cons.length with hlt|hge
  ·have hc:=m5 _ (gM hlt)
   (refine V1 @XE ?_;with_reducible repeat' first|exact trivial|intro h|refine aO ?_|refine eO ?_|apply jO)
   all_goals try exact oF
   refine callS.eq (w45 g _ hg) ?_
   (refine V1 @XE ?_;with_reducible repeat' first|exact trivial|intro h|refine aO ?_|refine eO ?_|apply jO)
   refine callS.eq (w64 _ _ (smSy_f hg _)) ?_
   by_cases h3:(fAtt (Zv g.syms r.cons[i].sym).atts r.cons[i].name).mode = 3
   ·have h0:hAtt (Zv g.syms r.cons[i].sym).atts r.cons[i].name = true:=by
     rcases bC (hAtt (Zv g.syms r.cons[i].sym).atts r.cons[i].name) with hh|hh
     ·rw [fAtt_no hh] at h3;simp [attZ] at h3
     ·exact hh
    (refine V1 (jO @XE (jO h0 h3)) ?_;with_reducible repeat' first|exact trivial|intro h|refine aO ?_|refine eO ?_|apply jO)
    refine callS.eq (w121 g r hg hr r.cons[i].goal hc.1) ?_
    by_cases h1:tyE g r r.cons[i].goal = 4
    ·(refine V1 (jO @XE h1) ?_;with_reducible repeat' first|exact trivial|intro h|refine aO ?_|refine eO ?_|apply jO)
     refine callS.eq (w121 g r hg hr r.cons[i].value hc.2) ?_
     by_cases h2:tyE g r r.cons[i].value = 2
     ·(refine V1 h2 ?_;with_reducible repeat' first|exact trivial|intro h|refine aO ?_|refine eO ?_|apply jO)
      exact nx ⟨i+1,by omega,Y0 (p:=conT g r) hlt (by simp [conT,h1,h2,h3]) hn2⟩ (by simp<;>omega) (by simp [E2]) rfl
     ·rw [misT_c hlt (by simp [conT,h1,h2])]
      (refine V1 h2 ?_;with_reducible repeat' first|exact trivial|intro h|refine aO ?_|refine eO ?_|apply jO)
    ·rw [misT_c hlt (by simp [conT,h1])]
     (refine V1 h1 ?_;with_reducible repeat' first|exact trivial|intro h|refine aO ?_|refine eO ?_|apply jO)
   ·rw [misT_c hlt (by simp [conT,h3])]
    rcases bC (hAtt (Zv g.syms r.cons[i].sym).atts r.cons[i].name) with hh|hh
    ·(refine V1 (jO @XE hh) ?_;with_reducible repeat' first|exact trivial|intro h|refine aO ?_|refine eO ?_|apply jO)
    ·(refine V1 (jO @XE (jO hh h3)) ?_;with_reducible repeat' first|exact trivial|intro h|refine aO ?_|refine eO ?_|apply jO)
  ·obtain rfl:i=r.cons.length:=by omega
   rw [List.take_length] at hn2
   rw [misT_n hn hn2]
   (refine V0 ?_;with_reducible repeat' first|exact trivial|intro h|refine aO ?_|refine eO ?_|apply jO)
   all_goals try exact oF
theorem w65 (g:Gram) (hs:Zw g) (hg:okGr g):Pu 65 [Gr g] (· = .tup [I (chkG g).1,I (chkG g).2]):=by
 obtain ⟨m1,m2,m3,m4⟩:=id hs
 have hhl:=hgts_len g
 refine ZW mxd i65 rfl (by simp) ?_;refine X0 ?_
 (refine V0 ?_;with_reducible repeat' first|exact trivial|intro h|refine aO ?_|refine eO ?_|apply jO)
 refine callS.eq (w99 g hs hg) ?_
 by_cases h0:(shpC g).1 = 0
 ·have hG:=shpC_ok h0
  have hno:=sfI_no hG.2.1
  (refine V1 h0 ?_;with_reducible repeat' first|exact trivial|intro h|refine aO ?_|refine eO ?_|apply jO)
  refine Zz mxd (ι:={ i:Nat // i≤g.rules.length∧∀j (hj:j<g.rules.length),j<i→misT g g.rules[j]=false }) (fun i=>[(1,.rop 2 (Gr g)),(6,I i.1)]) (fun _ => []) (fun i=>g.rules.length-i.1) ⟨0,by simp⟩ (by simp [E2]) rfl ?_
  rintro ⟨i,hi,hn⟩
  rcases nL i g.rules.length with hlt|hge
  ·(refine V0 ?_;with_reducible repeat' first|exact trivial|intro h|refine aO ?_|refine eO ?_|apply jO)
   all_goals try exact oF
   refine callS.eq (w100 g g.rules[i] hs (m4 _ (gM hlt)) (rulV_pos (rul_ok hG.2.1 hlt))) ?_
   rcases bC (misT g g.rules[i]) with hv|hv
   ·(refine V1 hv ?_;with_reducible repeat' first|exact trivial|intro h|refine aO ?_|refine eO ?_|apply jO)
    exact nx ⟨i+1,by omega,fun j hj hji=>by
     rcases Nat.lt_succ_iff_lt_or_eq.1 hji with e|e
     ·exact hn j hj e
     ·subst e;exact hv⟩ (by simp<;>omega) (by simp [E2]) rfl
   ·rw [chkG_2 h0 (tyF_hit hlt hv hn)]
    (refine V1 hv ?_;with_reducible repeat' first|exact trivial|intro h|refine aO ?_|refine eO ?_|apply jO)
  ·obtain rfl:i=g.rules.length:=by omega
   have hty:=tyF_none fun j hj=>hn j hj hj
   (refine V0 ?_;with_reducible repeat' first|exact trivial|intro h|refine aO ?_|refine eO ?_|apply jO)
   all_goals try exact oF
   refine Zz mxd (ι:={ i:Nat // i≤g.syms.length∧∀j,j<i→¬(hgts g).getD j 0=0 }) (fun i=>[(1,.rop 2 (Gr g)),(7,I i.1)]) (fun _ => []) (fun i=>g.syms.length-i.1) ⟨0,by simp⟩ (by simp [E2]) rfl ?_
   rintro ⟨i,hi,hn2⟩
   rcases nL i g.syms.length with hlt|hge
   ·have hmi:=minH_at hno.1 hlt
    have hnn:0≤(hgts g).getD i 0:=by
     rw [ZJ (by omega)];exact hgts_nn g _ (gM _)
    (refine V0 ?_;with_reducible repeat' first|exact trivial|intro h|refine aO ?_|refine eO ?_|apply jO)
    all_goals try exact oF
    refine callS.eq (w101 g g.syms[i].name hs hG.1.1.2) ?_
    rw [hmi]
    by_cases hz:(hgts g).getD i 0=0
    ·have hp:¬0<(hgts g).getD i 0:=by omega
     rw [chkG_3 h0 hty (emF_hit hlt hz hn2),decide_eq_false hp]
     (refine V0 ?_;with_reducible repeat' first|exact trivial|intro h|refine aO ?_|refine eO ?_|apply jO)
    ·have hp:0<(hgts g).getD i 0:=by omega
     rw [decide_eq_true hp]
     (refine V0 ?_;with_reducible repeat' first|exact trivial|intro h|refine aO ?_|refine eO ?_|apply jO)
     exact nx ⟨i+1,by omega,fun j hji=>by
      rcases Nat.lt_succ_iff_lt_or_eq.1 hji with e|e
      ·exact hn2 j e
      ·subst e;exact hz⟩ (by simp<;>omega) (by simp [E2]) rfl
   ·obtain rfl:i=g.syms.length:=by omega
    rw [chkG_4 h0 hty (emF_none hn2)]
    (refine V0 ?_;with_reducible repeat' first|exact trivial|intro h|refine aO ?_|refine eO ?_|apply jO)
    all_goals try exact oF
 ·rw [chkG_1 h0]
  (refine V1 h0 ?_;with_reducible repeat' first|exact trivial|intro h|refine aO ?_|refine eO ?_|apply jO)
end Go.Proofs.YtofcbmnplanmkaaGreat
