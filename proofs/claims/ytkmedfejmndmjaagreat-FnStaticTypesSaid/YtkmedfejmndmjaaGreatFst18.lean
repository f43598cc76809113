/- The law FnStaticTypes returns true whatever the input, and the input reads behind the call as before. No condition. -/
import Derived.Test.YtkmedfejmndmjaaGreatFst4
import Derived.Test.YtkmedfejmndmjaaGreatFst17
set_option maxHeartbeats 40000000
set_option maxRecDepth 20000
set_option linter.unusedSimpArgs false
set_option linter.unusedVariables false
namespace Go.Proofs.YtkmedfejmndmjaaGreat
open Go.Gh
open Nat (reduceEqDiff reduceLeDiff reduceAdd reduceLT)
open Int (reduceNe)
theorem w38 (g:Gram) (r:Rul) (hg:ZE g) (hr:Y7 r):Pu 38 [Gr g,Ru r] (· = B (misT g r)):=by
 obtain ⟨m1,m2,m3,m4,m5⟩:=id hr
 refine Z5 mxd i38 rfl (by simp) ?_;refine X0 ?_
 (refine V1 @XE ?_)
 refine ZL mxd (ι:={ i:Nat // i≤r.eqs.length∧∀q∈r.eqs.take i,decide (tyE g r q.expr=(Zk g r q.pos q.name).type)=true }) (fun i=>[(2,.rop 2 (Gr g)),(3,.rop 6 (Ru r)),(16,QnS r.eqs),(17,I r.eqs.length),(18,I i.1)]) (fun _ => []) (fun i=>r.eqs.length-i.1) ⟨0,by simp⟩ (by simp[E2]) rfl ?_
 rintro ⟨i,hi,hn⟩
 rcases nL i r.eqs.length with hlt|hge
 ·(refine V1 @XE ?_;with_reducible repeat' first|intro h|apply jO)
  all_goals try exact oF
  refine callS.eq (w45 g r (r.eqs[i].pos,r.eqs[i].name) hg hr) ?_
  (refine V1 @XE ?_)
  refine callS.eq (w13 g r hg hr r.eqs[i].expr (m4 _ (gM hlt))) ?_
  by_cases hb:tyE g r r.eqs[i].expr = (Zk g r r.eqs[i].pos r.eqs[i].name).type
  ·(refine V1 hb ?_)
   exact nx ⟨i+1,oT,Zi (p:=fun q:Eqn=>decide (tyE g r q.expr=(Zk g r q.pos q.name).type)) hlt (decide_eq_true hb) hn⟩ (by simp<;>omega) (by simp[E2]) rfl
  ·rw[misT_e hlt hb]
   (refine V1 hb ?_;with_reducible repeat' exact trivial)
 ·obtain rfl:i=r.eqs.length:=by omega
  rw[List.take_length] at hn
  (refine V1 @XE ?_;with_reducible repeat' intro h)
  all_goals try exact oF
  refine ZL mxd (ι:={ i:Nat // i≤r.cons.length∧∀c∈r.cons.take i,conT g r c=false }) (fun i=>[(2,.rop 2 (Gr g)),(3,.rop 6 (Ru r)),(40,CoS r.cons),(41,I r.cons.length),(42,I i.1)]) (fun _ => []) (fun i=>r.cons.length-i.1) ⟨0,by simp⟩ (by simp[E2]) rfl ?_
  rintro ⟨i,hi,hn2⟩
  rcases nL i r.cons.length with hlt|hge
  ·have hc:=m5 _ (gM hlt)
   (refine V1 @XE ?_;with_reducible repeat' first|intro h|apply jO)
   all_goals try exact oF
   refine callS.eq (w48 g _ hg) ?_
   (refine V1 @XE ?_)
   refine callS.eq (w49 _ _ (YR hg _)) ?_
   (refine V1 @XE ?_)
   refine callS.eq (w13 g r hg hr r.cons[i].goal hc.1) ?_
   by_cases h1:tyE g r r.cons[i].goal = 4
   ·(refine V1 (jO @XE h1) ?_)
    refine callS.eq (w13 g r hg hr r.cons[i].value hc.2) ?_
    by_cases h2:tyE g r r.cons[i].value = 2
    ·by_cases h3:(YE (Zy g.syms r.cons[i].sym).atts r.cons[i].name).mode = 3
     ·(refine V1 (jO h2 h3) ?_)
      exact nx ⟨i+1,oT,Zi (p:=conT g r) hlt (by simp[conT,h1,h2,h3]) hn2⟩ (by simp<;>omega) (by simp[E2]) rfl
     ·rw[misT_c hlt (by simp[conT,h1,h2,h3])]
      (refine V1 (jO h2 h3) ?_;with_reducible repeat' exact trivial)
    ·rw[misT_c hlt (by simp[conT,h1,h2])]
     (refine V1 h2 ?_;with_reducible repeat' exact trivial)
   ·rw[misT_c hlt (by simp[conT,h1])]
    (refine V1 h1 ?_;with_reducible repeat' exact trivial)
  ·obtain rfl:i=r.cons.length:=by omega
   rw[List.take_length] at hn2
   rw[misT_n hn hn2]
   (refine V0 ?_;with_reducible repeat' intro h)
   all_goals try exact oF
theorem w41 (g:Gram) (r:Rul) (hg:ZE g) (hr:Y7 r) (hv:∀q∈r.eqs,0≤q.pos∧q.pos≤r.right.length):Pu 41 [Gr g,Ru r] (· = B (!misT g r)):=by
 obtain ⟨m1,m2,m3,m4,m5⟩:=id hr
 refine Z5 mxd i41 rfl (by simp) ?_;refine X0 ?_
 (refine V1 @XE ?_)
 refine ZL mxd (ι:={ i:Nat // i≤r.eqs.length∧∀q∈r.eqs.take i,decide (tyE g r q.expr=(Zk g r q.pos q.name).type)=true }) (fun i=>[(2,.rop 2 (Gr g)),(3,.rop 6 (Ru r)),(5,I i.1)]) (fun _ => []) (fun i=>r.eqs.length-i.1) ⟨0,by simp⟩ (by simp[E2]) rfl ?_
 rintro ⟨i,hi,hn⟩
 rcases nL i r.eqs.length with hlt|hge
 ·have hat:Zk g r r.eqs[i].pos r.eqs[i].name = YE (Zy g.syms (Zw r r.eqs[i].pos)).atts r.eqs[i].name := by
   unfold Zk;rw[if_pos (hv _ (gM hlt))]
  (refine V1 @XE ?_;with_reducible repeat' first|intro h|apply jO)
  all_goals try exact oF
  refine callS.eq (w90 g r hg hr r.eqs[i].expr (m4 _ (gM hlt))) ?_
  (refine V1 @XE ?_)
  refine callS.eq (w11 r r.eqs[i].pos hr) ?_
  (refine V1 @XE ?_)
  refine callS.eq (w91 g _ _ hg) ?_
  rw[←hat]
  by_cases hb:tyE g r r.eqs[i].expr = (Zk g r r.eqs[i].pos r.eqs[i].name).type
  ·(refine V1 hb ?_)
   exact nx ⟨i+1,oT,Zi (p:=fun q:Eqn=>decide (tyE g r q.expr=(Zk g r q.pos q.name).type)) hlt (decide_eq_true hb) hn⟩ (by simp<;>omega) (by simp[E2]) rfl
  ·rw[misT_e hlt hb]
   (refine V1 hb ?_;with_reducible repeat' exact trivial)
 ·obtain rfl:i=r.eqs.length:=by omega
  rw[List.take_length] at hn
  (refine V1 @XE ?_;with_reducible repeat' intro h)
  all_goals try exact oF
  refine ZL mxd (ι:={ i:Nat // i≤r.cons.length∧∀c∈r.cons.take i,conT g r c=false }) (fun i=>[(2,.rop 2 (Gr g)),(3,.rop 6 (Ru r)),(7,I i.1)]) (fun _ => []) (fun i=>r.cons.length-i.1) ⟨0,by simp⟩ (by simp[E2]) rfl ?_
  rintro ⟨i,hi,hn2⟩
  rcases nL i r.cons.length with hlt|hge
  ·have hc:=m5 _ (gM hlt)
   (refine V1 @XE ?_;with_reducible repeat' first|intro h|apply jO)
   all_goals try exact oF
   refine callS.eq (w10 g _ hg) ?_
   (refine V1 @XE ?_)
   refine callS.eq (w12 _ _ (YR hg _)) ?_
   by_cases h3:(YE (Zy g.syms r.cons[i].sym).atts r.cons[i].name).mode = 3
   ·have h0:hAtt (Zy g.syms r.cons[i].sym).atts r.cons[i].name = true:=by
     rcases bC (hAtt (Zy g.syms r.cons[i].sym).atts r.cons[i].name) with hh|hh
     ·rw[fAtt_no hh] at h3;simp[attZ] at h3
     ·exact hh
    (refine V1 (jO @XE (jO h0 h3)) ?_)
    refine callS.eq (w90 g r hg hr r.cons[i].goal hc.1) ?_
    by_cases h1:tyE g r r.cons[i].goal = 4
    ·(refine V1 (jO @XE h1) ?_)
     refine callS.eq (w90 g r hg hr r.cons[i].value hc.2) ?_
     by_cases h2:tyE g r r.cons[i].value = 2
     ·(refine V1 h2 ?_)
      exact nx ⟨i+1,oT,Zi (p:=conT g r) hlt (by simp[conT,h1,h2,h3]) hn2⟩ (by simp<;>omega) (by simp[E2]) rfl
     ·rw[misT_c hlt (by simp[conT,h1,h2])]
      (refine V1 h2 ?_;with_reducible repeat' exact trivial)
    ·rw[misT_c hlt (by simp[conT,h1])]
     (refine V1 h1 ?_;with_reducible repeat' exact trivial)
   ·rw[misT_c hlt (by simp[conT,h3])]
    rcases bC (hAtt (Zy g.syms r.cons[i].sym).atts r.cons[i].name) with hh|hh
    ·(refine V1 (jO @XE hh) ?_;with_reducible repeat' exact trivial)
    ·(refine V1 (jO @XE (jO hh h3)) ?_;with_reducible repeat' exact trivial)
  ·obtain rfl:i=r.cons.length:=by omega
   rw[List.take_length] at hn2
   rw[misT_n hn hn2]
   (refine V0 ?_;with_reducible repeat' intro h)
   all_goals try exact oF
theorem w8 (g:Gram) (hs:ZE g) (hg:okGr g):Pu 8 [Gr g] (· = .tup [I (chkG g).1,I (chkG g).2]):=by
 obtain ⟨m1,m2,m3,m4⟩:=id hs
 have hhl:=hgts_len g
 refine Z5 mxd i8 rfl (by simp) ?_;refine X0 ?_
 (refine V0 ?_)
 refine callS.eq (w37 g hs hg) ?_
 by_cases h0:(shpC g).1 = 0
 ·have hG:=shpC_ok h0
  (refine V1 h0 ?_)
  refine ZL mxd (ι:={ i:Nat // i≤g.rules.length∧∀j (hj:j<g.rules.length),j<i→misT g g.rules[j]=false }) (fun i=>[(1,.rop 2 (Gr g)),(20,RuS g.rules),(21,I g.rules.length),(22,I i.1)]) (fun _ => []) (fun i=>g.rules.length-i.1) ⟨0,by simp⟩ (by simp[E2]) rfl ?_
  rintro ⟨i,hi,hn⟩
  rcases nL i g.rules.length with hlt|hge
  ·(refine V0 ?_;with_reducible repeat' first|intro h|apply jO)
   all_goals try exact oF
   refine callS.eq (w38 g g.rules[i] hs (m4 _ (gM hlt))) ?_
   rcases bC (misT g g.rules[i]) with hv|hv
   ·(refine V1 hv ?_)
    exact nx ⟨i+1,oT,fun j hj hji=>by
     rcases Nat.lt_succ_iff_lt_or_eq.1 hji with e|e
     ·exact hn j hj e
     ·subst e;exact hv⟩ (by simp<;>omega) (by simp[E2]) rfl
   ·rw[chkG_2 h0 (tyF_hit hlt hv hn)]
    (refine V1 hv ?_;with_reducible repeat' exact trivial)
  ·obtain rfl:i=g.rules.length:=by omega
   have hty:=tyF_none fun j hj=>hn j hj hj
   (refine V0 ?_;with_reducible repeat' intro h)
   all_goals try exact oF
   refine callS.eq (w39 g hs hG.1.1.2) ?_
   (refine V1 (jO @List.length_map.{0,0} hhl) ?_)
   refine ZL mxd (ι:={ i:Nat // i≤g.syms.length∧∀j,j<i→¬(YA g).getD j 0=0 }) (fun i=>[(1,.rop 2 (Gr g)),(33,IS (YA g)),(34,I g.syms.length),(35,I i.1)]) (fun _ => []) (fun i=>g.syms.length-i.1) ⟨0,by simp⟩ (by simp[E2]) rfl ?_
   rintro ⟨i,hi,hn2⟩
   rcases nL i g.syms.length with hlt|hge
   ·have hge:(YA g).getD i 0=(YA g)[i]:=Z6 oT
    by_cases hz:(YA g)[i]=0
    ·rw[chkG_3 h0 hty (emF_hit hlt (by rw[hge,hz]) hn2)]
     (refine V1 (jO hz (jO @List.length_map.{0,0} hhl)) ?_;with_reducible repeat' intro h)
     all_goals try exact oF
    ·(refine V1 (jO hz (jO @List.length_map.{0,0} hhl)) ?_;with_reducible repeat' first|intro h|apply jO)
     all_goals try exact oF
     exact nx ⟨i+1,oT,fun j hji=>by
      rcases Nat.lt_succ_iff_lt_or_eq.1 hji with e|e
      ·exact hn2 j e
      ·subst e;rw[hge];exact hz⟩ (by simp<;>omega) (by simp[E2]) rfl
   ·obtain rfl:i=g.syms.length:=by omega
    rw[chkG_4 h0 hty (emF_none hn2)]
    (refine V0 ?_;with_reducible repeat' first|intro h|refine aO ?_)
    all_goals try exact oF
 ·rw[chkG_1 h0]
  (refine V1 h0 ?_;with_reducible repeat' exact trivial)
theorem w9 (g:Gram) (hs:ZE g) (hg:okGr g):Pu 9 [Gr g] (· = .tup [I (chkG g).1,I (chkG g).2]):=by
 obtain ⟨m1,m2,m3,m4⟩:=id hs
 have hhl:=hgts_len g
 refine Z5 mxd i9 rfl (by simp) ?_;refine X0 ?_
 (refine V0 ?_)
 refine callS.eq (w40 g hs hg) ?_
 by_cases h0:(shpC g).1 = 0
 ·have hG:=shpC_ok h0
  have hno:=sfI_no hG.2.1
  (refine V1 h0 ?_)
  refine ZL mxd (ι:={ i:Nat // i≤g.rules.length∧∀j (hj:j<g.rules.length),j<i→misT g g.rules[j]=false }) (fun i=>[(1,.rop 2 (Gr g)),(6,I i.1)]) (fun _ => []) (fun i=>g.rules.length-i.1) ⟨0,by simp⟩ (by simp[E2]) rfl ?_
  rintro ⟨i,hi,hn⟩
  rcases nL i g.rules.length with hlt|hge
  ·(refine V0 ?_;with_reducible repeat' first|intro h|apply jO)
   all_goals try exact oF
   refine callS.eq (w41 g g.rules[i] hs (m4 _ (gM hlt)) (rulV_pos (rul_ok hG.2.1 hlt))) ?_
   rcases bC (misT g g.rules[i]) with hv|hv
   ·(refine V1 hv ?_)
    exact nx ⟨i+1,oT,fun j hj hji=>by
     rcases Nat.lt_succ_iff_lt_or_eq.1 hji with e|e
     ·exact hn j hj e
     ·subst e;exact hv⟩ (by simp<;>omega) (by simp[E2]) rfl
   ·rw[chkG_2 h0 (tyF_hit hlt hv hn)]
    (refine V1 hv ?_;with_reducible repeat' exact trivial)
  ·obtain rfl:i=g.rules.length:=by omega
   have hty:=tyF_none fun j hj=>hn j hj hj
   (refine V0 ?_;with_reducible repeat' intro h)
   all_goals try exact oF
   refine ZL mxd (ι:={ i:Nat // i≤g.syms.length∧∀j,j<i→¬(YA g).getD j 0=0 }) (fun i=>[(1,.rop 2 (Gr g)),(7,I i.1)]) (fun _ => []) (fun i=>g.syms.length-i.1) ⟨0,by simp⟩ (by simp[E2]) rfl ?_
   rintro ⟨i,hi,hn2⟩
   rcases nL i g.syms.length with hlt|hge
   ·have hmi:=minH_at hno.1 hlt
    have hnn:0≤(YA g).getD i 0:=by
     rw[Z6 oT];exact hgts_nn g _ (gM _)
    (refine V0 ?_;with_reducible repeat' first|intro h|apply jO)
    all_goals try exact oF
    refine callS.eq (w42 g g.syms[i].name hs hG.1.1.2) ?_
    rw[hmi]
    by_cases hz:(YA g).getD i 0=0
    ·have hp:¬0<(YA g).getD i 0:=by omega
     rw[chkG_3 h0 hty (emF_hit hlt hz hn2),decide_eq_false hp]
     (refine V0 ?_;with_reducible repeat' exact trivial)
    ·have hp:0<(YA g).getD i 0:=by omega
     rw[decide_eq_true hp]
     (refine V0 ?_)
     exact nx ⟨i+1,oT,fun j hji=>by
      rcases Nat.lt_succ_iff_lt_or_eq.1 hji with e|e
      ·exact hn2 j e
      ·subst e;exact hz⟩ (by simp<;>omega) (by simp[E2]) rfl
   ·obtain rfl:i=g.syms.length:=by omega
    rw[chkG_4 h0 hty (emF_none hn2)]
    (refine V0 ?_;with_reducible repeat' intro h)
    all_goals try exact oF
 ·rw[chkG_1 h0]
  (refine V1 h0 ?_;with_reducible repeat' exact trivial)
theorem w159 (e:Exp):Pu 159 [Ex e] (· = B (!decide (e.kind=8))):=by
 refine Z5 mxd i159 rfl (by simp) ?_;refine X0 ?_
 (refine V1 @XE ?_;with_reducible repeat' exact trivial)
theorem w98 (e:Exp):Pu 98 [Ex e] (· = B (!nrE e)):=by
 refine Z5 mxd i98 rfl (by simp) ?_;refine X0 ?_
 (refine V1 @XE ?_)
 refine callS.eq (w158 159 [] (fun x=> !decide (x.kind=8)) (fun _ => True) (fun _ _ _ _ => trivial) (fun x _ => w159 x) e trivial) ?_
 (refine V0 ?_)
 rfl
theorem w95 (r:Rul) (hr:Y7 r):Pu 95 [Ru r] (· = B (remR r)):=by
 refine Z5 mxd i95 rfl (by simp) ?_;refine X0 ?_
 (refine V0 ?_)
 refine callS.eq (w97 r hr) ?_
 (refine V0 ?_)
 refine callS.eq (w96 (expR r) 98 [] (fun e=> !nrE e) fun x hx=>w98 x) ?_
 (refine V0 ?_)
 rfl
theorem w52 (g:Gram) (hg:ZE g):Pu 52 [Gr g] (· = B (g.rules.any remR)):=by
 refine Z5 mxd i52 rfl (by simp) ?_;refine X0 ?_
 (refine V0 ?_)
 refine callS.eq (w94 g.rules 95 [] remR fun x hx=>w95 x (hg.2.2.2 x hx)) ?_
 (refine V0 ?_;with_reducible repeat' exact trivial)
theorem w54 (a:Att):Pu 54 [At a] (· = B (decide (a.mode=3))):=by
 refine Z5 mxd i54 rfl (by simp) ?_;refine X0 ?_
 (refine V0 ?_;with_reducible repeat' exact trivial)
theorem w55 (a:Att):Pu 55 [At a] (· = B a.circ):=by
 refine Z5 mxd i55 rfl (by simp) ?_;refine X0 ?_
 (refine V0 ?_;with_reducible repeat' exact trivial)
theorem w100 (s:Sym) (f:Nat) (p:Att→Bool) (hp:∀a,Pu f [At a] (· = B (p a))):Pu 100 [Sy s,.rop 1 (.clo f [])] (· = B (s.atts.any p)):=by
 refine Z5 mxd i100 rfl (by simp) ?_;refine X0 ?_
 (refine V0 ?_)
 refine callS.eq (w81 s.atts f [] p fun x hx=>hp x) ?_
 (refine V0 ?_;with_reducible repeat' exact trivial)
theorem w53 (g:Gram) (f:Nat) (p:Att→Bool) (hp:∀a,Pu f [At a] (· = B (p a))):Pu 53 [Gr g,.clo f []] (· = B (hasA g p)):=by
 refine Z5 mxd i53 rfl (by simp) ?_;refine X0 ?_
 ((try refine qI ?_);(repeat ((first|with_reducible refine qU ?_ | simp only[ZQ]);try simp (maxSteps:=9^7) +contextual only[↓ S2,S2,↓reduceIte,reduceNe,reduceEqDiff,reduceCtorEq,reduceLeDiff,reduceAdd,reduceLT,VQ,gs_clo]));(try simp +contextual (disch:=omega) only[Z2,gs_clo]);(with_reducible repeat' (first|intro h|refine jO oT ?_ | refine exP oT ?_ | apply jO)))
 refine callS.eq (w99 g.syms 100 [.rop 1 (.clo f [])] (fun s=>s.atts.any p) fun x hx=>w100 x f p hp) ?_
 (refine V0 ?_)
 rfl
theorem w51 (g:Gram) (hs:ZE g) (hg:okGr g):Pu 51 [Gr g] (· = B (accG g)):=by
 refine Z5 mxd i51 rfl (by simp) ?_;refine X0 ?_
 (refine V0 ?_)
 refine callS.eq (w8 g hs hg) ?_
 (refine V0 ?_)
 rfl
theorem w16 (g:Gram) (hs:ZE g) (hg:okGr g):Pu 16 [Gr g] (· = B (staS g)):=by
 rw[←staI_eq]
 unfold staI
 refine Z5 mxd i16 rfl (by simp) ?_;refine X0 ?_
 (refine V0 ?_)
 refine callS.eq (w51 g hs hg) ?_
 rcases bC (accG g) with h1|h1
 ·rw[h1]
  (refine V1 @Bool.false_and ?_;with_reducible repeat' exact trivial)
 ·rw[h1]
  (refine V0 ?_)
  refine callS.eq (w52 g hs) ?_
  rcases bC (g.rules.any remR) with h2|h2
  ·rw[h2]
   (refine V0 ?_)
   refine callS.eq (w53 g 54 _ w54) ?_
   rcases bC (hasA g fun a=>decide (a.mode=3)) with h3|h3
   ·rw[h3]
    (refine V1 @Bool.false_and ?_)
    refine callS.eq (w53 g 55 _ w55) ?_
    (refine V0 ?_;with_reducible repeat' exact trivial)
   ·rw[h3]
    (refine V1 @Bool.false_and ?_;with_reducible repeat' exact trivial)
  ·rw[h2]
   (refine V1 @Bool.false_and ?_;with_reducible repeat' exact trivial)
theorem w18:∀(e:Exp),wEx e≤1048576→Pu 18 [Ex e] (· = B (!nrE e)):=by
 refine Exp.indA fun e ih hw=> ?_
 obtain ⟨hl,ha⟩:=YT hw
 refine Z5 mxd i18 rfl (by simp) ?_;refine X0 ?_
 (refine V1 @XE ?_)
 refine ZL mxd (ι:={ i:Nat // i≤e.args.length∧∀a∈e.args.take i,nrE a=true }) (fun i=>[(1,.rop 7 (Ex e)),(3,I i.1)]) (fun _ => []) (fun i=>e.args.length-i.1) ⟨0,by simp⟩ (by simp[E2]) rfl ?_
 rintro ⟨i,hi,hn⟩
 rcases nL i e.args.length with hlt|hge
 ·(refine V1 @XE ?_;with_reducible repeat' first|intro h|apply jO)
  all_goals try exact oF
  refine callS.eq (ih _ (gM hlt) (ha _ (gM hlt))) ?_
  rcases bC (nrE e.args[i]) with hv|hv
  ·rw[nrE_arg hlt hv]
   (refine V1 hv ?_;with_reducible repeat' exact trivial)
  ·(refine V1 hv ?_)
   exact nx ⟨i+1,oT,Zi hlt hv hn⟩ (by simp<;>omega) (by simp[E2]) rfl
 ·obtain rfl:i=e.args.length:=by omega
  rw[List.take_length] at hn
  rw[nrE_end hn]
  (refine V1 @XE ?_;with_reducible repeat' intro h)
  all_goals try exact oF
theorem w56 (r:Rul) (hr:Y7 r):Pu 56 [Ru r] (· = B (remQ r)):=by
 obtain ⟨m1,m2,m3,m4,m5⟩:=hr
 refine Z5 mxd i56 rfl (by simp) ?_;refine X0 ?_
 (refine V0 ?_)
 refine ZL mxd (ι:={ i:Nat // i≤r.eqs.length∧∀q∈r.eqs.take i,(!nrE q.expr)=false }) (fun i=>[(1,.rop 6 (Ru r)),(3,I i.1)]) (fun _ => []) (fun i=>r.eqs.length-i.1) ⟨0,by simp⟩ (by simp[E2]) rfl ?_
 rintro ⟨i,hi,hn⟩
 rcases nL i r.eqs.length with hlt|hge
 ·(refine V1 @XE ?_;with_reducible repeat' first|intro h|apply jO)
  all_goals try exact oF
  refine callS.eq (w18 r.eqs[i].expr (m4 _ (gM hlt))) ?_
  rcases bC (nrE r.eqs[i].expr) with hv|hv
  ·have:remQ r=true:=XW (p:=fun q:Eqn=> !nrE q.expr) hlt (by rw[hv];rfl)
   rw[this]
   (refine V1 hv ?_;with_reducible repeat' exact trivial)
  ·(refine V1 hv ?_)
   exact nx ⟨i+1,oT,Zi (p:=fun q:Eqn=> !nrE q.expr) hlt (by rw[hv];rfl) hn⟩ (by simp<;>omega) (by simp[E2]) rfl
 ·obtain rfl:i=r.eqs.length:=by omega
  rw[List.take_length] at hn
  have:remQ r=false:=any_no (p:=fun q:Eqn=> !nrE q.expr) hn
  rw[this]
  (refine V0 ?_;with_reducible repeat' intro h)
  all_goals try exact oF
theorem w57 (g:Gram) (hs:ZE g) (hg:okGr g):Pu 57 [Gr g] (· = B (accG g)):=by
 refine Z5 mxd i57 rfl (by simp) ?_;refine X0 ?_
 (refine V0 ?_)
 refine callS.eq (w9 g hs hg) ?_
 (refine V0 ?_)
 rfl
theorem w17 (g:Gram) (hs:ZE g) (hg:okGr g):Pu 17 [Gr g] (· = B (staS g)):=by
 obtain ⟨m1,m2,m3,m4⟩:=id hs
 refine Z5 mxd i17 rfl (by simp) ?_;refine X0 ?_
 (refine V0 ?_)
 refine ZL mxd (ι:={ i:Nat // i≤g.syms.length∧∀s∈g.syms.take i,(s.atts.all fun a=> !(a.circ||decide (a.mode=3)))=true }) (fun i=>[(1,.rop 2 (Gr g)),(3,I i.1)]) (fun _ => []) (fun i=>g.syms.length-i.1) ⟨0,by simp⟩ (by simp[E2]) rfl ?_
 rintro ⟨i,hi,hn⟩
 rcases nL i g.syms.length with hlt|hge
 ·have hal:=m3 _ (gM hlt)
  unfold Yy at hal
  (refine V0 ?_;with_reducible repeat' first|intro h|apply jO)
  all_goals try exact oF
  refine ZL mxd (ι:={ j:Nat // j≤g.syms[i].atts.length ∧ ∀a∈g.syms[i].atts.take j,(!(a.circ||decide (a.mode=3)))=true }) (fun j=>[(1,.rop 2 (Gr g)),(3,I i),(4,I j.1)]) (fun _ => []) (fun j=>g.syms[i].atts.length - j.1) ⟨0,by simp⟩ (by simp[E2]) rfl ?_
  rintro ⟨j,hj,hn2⟩
  rcases nL j g.syms[i].atts.length with hlt2|hge2
  ·have hno:=noA_no hlt hlt2
   rcases (Bool.eq_false_or_eq_true g.syms[i].atts[j].circ).symm with hv|hv
   ·by_cases hw:g.syms[i].atts[j].mode = 3
    ·have:staS g=false:=by unfold staS;rw[hno (by simp[hv,hw])];rfl
     rw[this]
     (refine V1 (jO hv hw) ?_;with_reducible repeat' intro h)
     all_goals try exact oF
    ·(refine V1 (jO hv hw) ?_;with_reducible repeat' first|intro h|apply jO)
     all_goals try exact oF
     exact nx ⟨j+1,oT,Zi (p:=fun a:Att=> !(a.circ||decide (a.mode=3))) hlt2 (by simp[hv,hw]) hn2⟩ (by simp<;>omega) (by simp[E2]) rfl
   ·have:staS g=false:=by unfold staS;rw[hno (by simp[hv])];rfl
    rw[this]
    (refine V1 hv ?_;with_reducible repeat' intro h)
    all_goals try exact oF
  ·obtain rfl:j=g.syms[i].atts.length := by omega
   rw[List.take_length] at hn2
   (refine V0 ?_;with_reducible repeat' intro h)
   all_goals try exact oF
   exact nx ⟨i+1,oT,Zi (p:=fun s:Sym=>s.atts.all fun a=> !(a.circ||decide (a.mode=3))) hlt (all_yes hn2) hn⟩ (by simp<;>omega) (by simp[E2]) rfl
 ·obtain rfl:i=g.syms.length:=by omega
  rw[List.take_length] at hn
  have hna:noA g=true:=all_yes hn
  unfold staS
  rw[hna,Bool.true_and]
  (refine V0 ?_;with_reducible repeat' intro h)
  all_goals try exact oF
  refine ZL mxd (ι:={ i:Nat // i≤g.rules.length∧∀r∈g.rules.take i,remQ r=false }) (fun i=>[(1,.rop 2 (Gr g)),(6,I i.1)]) (fun _ => []) (fun i=>g.rules.length-i.1) ⟨0,by simp⟩ (by simp[E2]) rfl ?_
  rintro ⟨i,hi,hn2⟩
  rcases nL i g.rules.length with hlt|hge
  ·(refine V0 ?_;with_reducible repeat' first|intro h|apply jO)
   all_goals try exact oF
   refine callS.eq (w56 g.rules[i] (m4 _ (gM hlt))) ?_
   rcases bC (remQ g.rules[i]) with hv|hv
   ·(refine V1 hv ?_)
    exact nx ⟨i+1,oT,Zi hlt hv hn2⟩ (by simp<;>omega) (by simp[E2]) rfl
   ·rw[XW hlt hv]
    (refine V1 (jO hv @Bool.false_and) ?_;with_reducible repeat' exact trivial)
  ·obtain rfl:i=g.rules.length:=by omega
   rw[List.take_length] at hn2
   rw[any_no hn2]
   (refine V0 ?_;with_reducible repeat' intro h)
   all_goals try exact oF
   refine callS.eq (w57 g hs hg) ?_
   (refine V0 ?_;with_reducible repeat' exact trivial)
end Go.Proofs.YtkmedfejmndmjaaGreat
