/- The laws FnStatic and FnStaticTypes return true whatever the input, and the input reads behind the call as before. No condition. -/
import Derived.Test.YtknbnefbgpnkgaaGreatFst4
import Derived.Test.YtknbnefbgpnkgaaGreatFst5
import Derived.Test.YtknbnefbgpnkgaaGreatFst26
set_option maxHeartbeats 40000000
set_option maxRecDepth 20000
set_option linter.unusedSimpArgs false
set_option linter.unusedVariables false
namespace Go.Proofs.YtknbnefbgpnkgaaGreat
open Go.Gh
open Nat (reduceEqDiff reduceLeDiff reduceAdd reduceLT)
open Int (reduceNe)
theorem w169 (g:Gram) (r:Rul) (hg:ZI g) (hr:Zb r):Pu 169 [Gr g,Ru r] (· = B (misT g r)):=by
 obtain ⟨m1,m2,m3,m4,m5⟩:=id hr
 refine Z5 mxd i169 rfl (by simp) ?_;refine X0 ?_
 (refine V1 @XE ?_)
 refine ZL mxd (ι:={ i:Nat // i≤r.eqs.length∧∀q∈r.eqs.take i,decide (tyE g r q.expr=(Zl g r q.pos q.name).type)=true }) (fun i=>[(2,.rop 2 (Gr g)),(3,.rop 6 (Ru r)),(16,QnS r.eqs),(17,I r.eqs.length),(18,I i.1)]) (fun _ => []) (fun i=>r.eqs.length-i.1) ⟨0,by simp⟩ (by simp[E2]) rfl ?_
 rintro ⟨i,hi,hn⟩
 rcases nL i r.eqs.length with hlt|hge
 ·(refine V1 @XE ?_;with_reducible repeat' first|intro h|apply jO)
  all_goals try exact oF
  refine callS.eq (w211 g r (r.eqs[i].pos,r.eqs[i].name) hg hr) ?_
  (refine V1 @XE ?_)
  refine callS.eq (w212 g r hg hr r.eqs[i].expr (m4 _ (gM hlt))) ?_
  by_cases hb:tyE g r r.eqs[i].expr = (Zl g r r.eqs[i].pos r.eqs[i].name).type
  ·(refine V1 hb ?_)
   exact nx ⟨i+1,oT,Zt (p:=fun q:Eqn=>decide (tyE g r q.expr=(Zl g r q.pos q.name).type)) hlt (decide_eq_true hb) hn⟩ (by simp<;>omega) (by simp[E2]) rfl
  ·rw[misT_e hlt hb]
   (refine V1 hb ?_;with_reducible repeat' exact trivial)
 ·obtain rfl:i=r.eqs.length:=by omega
  rw[List.take_length] at hn
  (refine V1 @XE ?_;with_reducible repeat' intro h)
  all_goals try exact oF
  refine ZL mxd (ι:={ i:Nat // i≤r.cons.length∧∀c∈r.cons.take i,conT g r c=false }) (fun i=>[(2,.rop 2 (Gr g)),(3,.rop 6 (Ru r)),(40,CoS r.cons),(41,I r.cons.length),(42,I i.1)]) (fun _ => []) (fun i=>r.cons.length-i.1) ⟨0,by simp⟩ (by simp[E2]) rfl ?_
  rintro ⟨i,hi,hn2⟩
  rcases nL i r.cons.length with hlt|hge
  ·have hc:=m5 _ (gM hlt)
   (refine V1 @XE ?_;with_reducible repeat' first|intro h|apply jO)
   all_goals try exact oF
   refine callS.eq (w82 g _ hg) ?_
   (refine V1 @XE ?_)
   refine callS.eq (w188 _ _ (YQ hg _)) ?_
   (refine V1 @XE ?_)
   refine callS.eq (w212 g r hg hr r.cons[i].goal hc.1) ?_
   by_cases h1:tyE g r r.cons[i].goal = 4
   ·(refine V1 (jO @XE h1) ?_)
    refine callS.eq (w212 g r hg hr r.cons[i].value hc.2) ?_
    by_cases h2:tyE g r r.cons[i].value = 2
    ·by_cases h3:(fAtt (Zz g.syms r.cons[i].sym).atts r.cons[i].name).mode = 3
     ·(refine V1 (jO h2 h3) ?_)
      exact nx ⟨i+1,oT,Zt (p:=conT g r) hlt (by simp[conT,h1,h2,h3]) hn2⟩ (by simp<;>omega) (by simp[E2]) rfl
     ·rw[misT_c hlt (by simp[conT,h1,h2,h3])]
      (refine V1 (jO h2 h3) ?_;with_reducible repeat' exact trivial)
    ·rw[misT_c hlt (by simp[conT,h1,h2])]
     (refine V1 h2 ?_;with_reducible repeat' exact trivial)
   ·rw[misT_c hlt (by simp[conT,h1])]
    (refine V1 h1 ?_;with_reducible repeat' exact trivial)
  ·obtain rfl:i=r.cons.length:=by omega
   rw[List.take_length] at hn2
   rw[misT_n hn hn2]
   (refine V0 ?_;with_reducible repeat' intro h)
   all_goals try exact oF
theorem w173 (g:Gram) (r:Rul) (hg:ZI g) (hr:Zb r) (hv:∀q∈r.eqs,0≤q.pos∧q.pos≤r.right.length):Pu 173 [Gr g,Ru r] (· = B (!misT g r)):=by
 obtain ⟨m1,m2,m3,m4,m5⟩:=id hr
 refine Z5 mxd i173 rfl (by simp) ?_;refine X0 ?_
 (refine V1 @XE ?_)
 refine ZL mxd (ι:={ i:Nat // i≤r.eqs.length∧∀q∈r.eqs.take i,decide (tyE g r q.expr=(Zl g r q.pos q.name).type)=true }) (fun i=>[(2,.rop 2 (Gr g)),(3,.rop 6 (Ru r)),(5,I i.1)]) (fun _ => []) (fun i=>r.eqs.length-i.1) ⟨0,by simp⟩ (by simp[E2]) rfl ?_
 rintro ⟨i,hi,hn⟩
 rcases nL i r.eqs.length with hlt|hge
 ·have hat:Zl g r r.eqs[i].pos r.eqs[i].name = fAtt (Zz g.syms (Zp r r.eqs[i].pos)).atts r.eqs[i].name := by
   unfold Zl;rw[if_pos (hv _ (gM hlt))]
  (refine V1 @XE ?_;with_reducible repeat' first|intro h|apply jO)
  all_goals try exact oF
  refine callS.eq (w216 g r hg hr r.eqs[i].expr (m4 _ (gM hlt))) ?_
  (refine V1 @XE ?_)
  refine callS.eq (w162 r r.eqs[i].pos hr) ?_
  (refine V1 @XE ?_)
  refine callS.eq (w217 g _ _ hg) ?_
  rw[←hat]
  by_cases hb:tyE g r r.eqs[i].expr = (Zl g r r.eqs[i].pos r.eqs[i].name).type
  ·(refine V1 hb ?_)
   exact nx ⟨i+1,oT,Zt (p:=fun q:Eqn=>decide (tyE g r q.expr=(Zl g r q.pos q.name).type)) hlt (decide_eq_true hb) hn⟩ (by simp<;>omega) (by simp[E2]) rfl
  ·rw[misT_e hlt hb]
   (refine V1 hb ?_;with_reducible repeat' exact trivial)
 ·obtain rfl:i=r.eqs.length:=by omega
  rw[List.take_length] at hn
  (refine V1 @XE ?_;with_reducible repeat' intro h)
  all_goals try exact oF
  refine ZL mxd (ι:={ i:Nat // i≤r.cons.length∧∀c∈r.cons.take i,conT g r c=false }) (fun i=>[(2,.rop 2 (Gr g)),(3,.rop 6 (Ru r)),(7,I i.1)]) (fun _ => []) (fun i=>r.cons.length-i.1) ⟨0,by simp⟩ (by simp[E2]) rfl ?_
  rintro ⟨i,hi,hn2⟩
  rcases nL i r.cons.length with hlt|hge
  ·have hc:=m5 _ (gM hlt)
   (refine V1 @XE ?_;with_reducible repeat' first|intro h|apply jO)
   all_goals try exact oF
   refine callS.eq (w72 g _ hg) ?_
   (refine V1 @XE ?_)
   refine callS.eq (w79 _ _ (YQ hg _)) ?_
   by_cases h3:(fAtt (Zz g.syms r.cons[i].sym).atts r.cons[i].name).mode = 3
   ·have h0:hAtt (Zz g.syms r.cons[i].sym).atts r.cons[i].name = true:=by
     rcases bC (hAtt (Zz g.syms r.cons[i].sym).atts r.cons[i].name) with hh|hh
     ·rw[fAtt_no hh] at h3;simp[attZ] at h3
     ·exact hh
    (refine V1 (jO @XE (jO h0 h3)) ?_)
    refine callS.eq (w216 g r hg hr r.cons[i].goal hc.1) ?_
    by_cases h1:tyE g r r.cons[i].goal = 4
    ·(refine V1 (jO @XE h1) ?_)
     refine callS.eq (w216 g r hg hr r.cons[i].value hc.2) ?_
     by_cases h2:tyE g r r.cons[i].value = 2
     ·(refine V1 h2 ?_)
      exact nx ⟨i+1,oT,Zt (p:=conT g r) hlt (by simp[conT,h1,h2,h3]) hn2⟩ (by simp<;>omega) (by simp[E2]) rfl
     ·rw[misT_c hlt (by simp[conT,h1,h2])]
      (refine V1 h2 ?_;with_reducible repeat' exact trivial)
    ·rw[misT_c hlt (by simp[conT,h1])]
     (refine V1 h1 ?_;with_reducible repeat' exact trivial)
   ·rw[misT_c hlt (by simp[conT,h3])]
    rcases bC (hAtt (Zz g.syms r.cons[i].sym).atts r.cons[i].name) with hh|hh
    ·(refine V1 (jO @XE hh) ?_;with_reducible repeat' exact trivial)
    ·(refine V1 (jO @XE (jO hh h3)) ?_;with_reducible repeat' exact trivial)
  ·obtain rfl:i=r.cons.length:=by omega
   rw[List.take_length] at hn2
   rw[misT_n hn hn2]
   (refine V0 ?_;with_reducible repeat' intro h)
   all_goals try exact oF
theorem w111 (g:Gram) (hs:ZI g) (hg:okGr g):Pu 111 [Gr g] (· = .tup [I (chkG g).1,I (chkG g).2]):=by
 obtain ⟨m1,m2,m3,m4⟩:=id hs
 have hhl:=hgts_len g
 refine Z5 mxd i111 rfl (by simp) ?_;refine X0 ?_
 (refine V0 ?_)
 refine callS.eq (w168 g hs hg) ?_
 by_cases h0:(shpC g).1 = 0
 ·have hG:=shpC_ok h0
  (refine V1 h0 ?_)
  refine ZL mxd (ι:={ i:Nat // i≤g.rules.length∧∀j (hj:j<g.rules.length),j<i→misT g g.rules[j]=false }) (fun i=>[(1,.rop 2 (Gr g)),(20,RuS g.rules),(21,I g.rules.length),(22,I i.1)]) (fun _ => []) (fun i=>g.rules.length-i.1) ⟨0,by simp⟩ (by simp[E2]) rfl ?_
  rintro ⟨i,hi,hn⟩
  rcases nL i g.rules.length with hlt|hge
  ·(refine V0 ?_;with_reducible repeat' first|intro h|apply jO)
   all_goals try exact oF
   refine callS.eq (w169 g g.rules[i] hs (m4 _ (gM hlt))) ?_
   rcases bC (misT g g.rules[i]) with hv|hv
   ·(refine V1 hv ?_)
    exact nx ⟨i+1,oT,fun j hj hji=>by
     rcases Nat.lt_succ_iff_lt_or_eq.1 hji with e|e
     ·exact hn j hj e
     ·subst e;exact hv⟩ (by simp<;>omega) (by simp[E2]) rfl
   ·rw[chkG_2 h0 (tyF_hit hlt hv hn)]
    (refine V1 hv ?_;with_reducible repeat' exact trivial)
  ·obtain rfl:i=g.rules.length:=by omega
   have hty:=tyF_none fun j hj=>hn j hj hj
   (refine V0 ?_;with_reducible repeat' intro h)
   all_goals try exact oF
   refine callS.eq (w170 g hs hG.1.1.2) ?_
   (refine V1 (jO @List.length_map.{0,0} hhl) ?_)
   refine ZL mxd (ι:={ i:Nat // i≤g.syms.length∧∀j,j<i→¬(hgts g).getD j 0=0 }) (fun i=>[(1,.rop 2 (Gr g)),(33,IS (hgts g)),(34,I g.syms.length),(35,I i.1)]) (fun _ => []) (fun i=>g.syms.length-i.1) ⟨0,by simp⟩ (by simp[E2]) rfl ?_
   rintro ⟨i,hi,hn2⟩
   rcases nL i g.syms.length with hlt|hge
   ·have hge:(hgts g).getD i 0=(hgts g)[i]:=Z6 oT
    by_cases hz:(hgts g)[i]=0
    ·rw[chkG_3 h0 hty (emF_hit hlt (by rw[hge,hz]) hn2)]
     (refine V1 (jO hz (jO @List.length_map.{0,0} hhl)) ?_;with_reducible repeat' intro h)
     all_goals try exact oF
    ·(refine V1 (jO hz (jO @List.length_map.{0,0} hhl)) ?_;with_reducible repeat' first|intro h|apply jO)
     all_goals try exact oF
     exact nx ⟨i+1,oT,fun j hji=>by
      rcases Nat.lt_succ_iff_lt_or_eq.1 hji with e|e
      ·exact hn2 j e
      ·subst e;rw[hge];exact hz⟩ (by simp<;>omega) (by simp[E2]) rfl
   ·obtain rfl:i=g.syms.length:=by omega
    rw[chkG_4 h0 hty (emF_none hn2)]
    (refine V0 ?_;with_reducible repeat' first|intro h|refine aO ?_)
    all_goals try exact oF
 ·rw[chkG_1 h0]
  (refine V1 h0 ?_;with_reducible repeat' exact trivial)
theorem w118 (g:Gram) (hs:ZI g) (hg:okGr g):Pu 118 [Gr g] (· = .tup [I (chkG g).1,I (chkG g).2]):=by
 obtain ⟨m1,m2,m3,m4⟩:=id hs
 have hhl:=hgts_len g
 refine Z5 mxd i118 rfl (by simp) ?_;refine X0 ?_
 (refine V0 ?_)
 refine callS.eq (w172 g hs hg) ?_
 by_cases h0:(shpC g).1 = 0
 ·have hG:=shpC_ok h0
  have hno:=sfI_no hG.2.1
  (refine V1 h0 ?_)
  refine ZL mxd (ι:={ i:Nat // i≤g.rules.length∧∀j (hj:j<g.rules.length),j<i→misT g g.rules[j]=false }) (fun i=>[(1,.rop 2 (Gr g)),(6,I i.1)]) (fun _ => []) (fun i=>g.rules.length-i.1) ⟨0,by simp⟩ (by simp[E2]) rfl ?_
  rintro ⟨i,hi,hn⟩
  rcases nL i g.rules.length with hlt|hge
  ·(refine V0 ?_;with_reducible repeat' first|intro h|apply jO)
   all_goals try exact oF
   refine callS.eq (w173 g g.rules[i] hs (m4 _ (gM hlt)) (rulV_pos (rul_ok hG.2.1 hlt))) ?_
   rcases bC (misT g g.rules[i]) with hv|hv
   ·(refine V1 hv ?_)
    exact nx ⟨i+1,oT,fun j hj hji=>by
     rcases Nat.lt_succ_iff_lt_or_eq.1 hji with e|e
     ·exact hn j hj e
     ·subst e;exact hv⟩ (by simp<;>omega) (by simp[E2]) rfl
   ·rw[chkG_2 h0 (tyF_hit hlt hv hn)]
    (refine V1 hv ?_;with_reducible repeat' exact trivial)
  ·obtain rfl:i=g.rules.length:=by omega
   have hty:=tyF_none fun j hj=>hn j hj hj
   (refine V0 ?_;with_reducible repeat' intro h)
   all_goals try exact oF
   refine ZL mxd (ι:={ i:Nat // i≤g.syms.length∧∀j,j<i→¬(hgts g).getD j 0=0 }) (fun i=>[(1,.rop 2 (Gr g)),(7,I i.1)]) (fun _ => []) (fun i=>g.syms.length-i.1) ⟨0,by simp⟩ (by simp[E2]) rfl ?_
   rintro ⟨i,hi,hn2⟩
   rcases nL i g.syms.length with hlt|hge
   ·have hmi:=minH_at hno.1 hlt
    have hnn:0≤(hgts g).getD i 0:=by
     rw[Z6 oT];exact hgts_nn g _ (gM _)
    (refine V0 ?_;with_reducible repeat' first|intro h|apply jO)
    all_goals try exact oF
    refine callS.eq (w174 g g.syms[i].name hs hG.1.1.2) ?_
    rw[hmi]
    by_cases hz:(hgts g).getD i 0=0
    ·have hp:¬0<(hgts g).getD i 0:=by omega
     rw[chkG_3 h0 hty (emF_hit hlt hz hn2),decide_eq_false hp]
     (refine V0 ?_;with_reducible repeat' exact trivial)
    ·have hp:0<(hgts g).getD i 0:=by omega
     rw[decide_eq_true hp]
     (refine V0 ?_)
     exact nx ⟨i+1,oT,fun j hji=>by
      rcases Nat.lt_succ_iff_lt_or_eq.1 hji with e|e
      ·exact hn2 j e
      ·subst e;exact hz⟩ (by simp<;>omega) (by simp[E2]) rfl
   ·obtain rfl:i=g.syms.length:=by omega
    rw[chkG_4 h0 hty (emF_none hn2)]
    (refine V0 ?_;with_reducible repeat' intro h)
    all_goals try exact oF
 ·rw[chkG_1 h0]
  (refine V1 h0 ?_;with_reducible repeat' exact trivial)
end Go.Proofs.YtknbnefbgpnkgaaGreat
