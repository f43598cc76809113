/- The law returns true whatever the input, and the input reads behind the call as before. No condition. -/
import Derived.Test.YtkmedfejmndmjaaGreatFty14
import Derived.Test.YtkmedfejmndmjaaGreatFty15
set_option maxHeartbeats 40000000
set_option maxRecDepth 20000
set_option linter.unusedSimpArgs false
set_option linter.unusedVariables false
namespace Go.Proofs.YtkmedfejmndmjaaGreat
open Go.Gh
open Nat (reduceEqDiff reduceLeDiff reduceAdd reduceLT)
open Int (reduceNe)
theorem w8 (g:Gram) (hs:Zw g) (hg:okGr g):Pu 8 [Gr g] (· = .tup [I (chkG g).1,I (chkG g).2]):=by
 obtain ⟨m1,m2,m3,m4⟩:=id hs
 have hhl:=hgts_len g
 refine ZY mxd i8 rfl (by simp) ?_;refine X0 ?_
 (refine V0 ?_;with_reducible repeat' first|exact trivial|intro h|refine aO ?_|refine eO ?_|apply jO)
 refine callS.eq (w37 g hs hg) ?_
 by_cases h0:(shpC g).1 = 0
 ·have hG:=shpC_ok h0
  (refine V1 h0 ?_;with_reducible repeat' first|exact trivial|intro h|refine aO ?_|refine eO ?_|apply jO)
  refine ZF mxd (ι:={ i:Nat // i≤g.rules.length∧∀j (hj:j<g.rules.length),j<i→misT g g.rules[j]=false }) (fun i=>[(1,.rop 2 (Gr g)),(20,RuS g.rules),(21,I g.rules.length),(22,I i.1)]) (fun _ => []) (fun i=>g.rules.length-i.1) ⟨0,by simp⟩ (by simp[E2]) rfl ?_
  rintro ⟨i,hi,hn⟩
  rcases nL i g.rules.length with hlt|hge
  ·(refine V0 ?_;with_reducible repeat' first|exact trivial|intro h|refine aO ?_|refine eO ?_|apply jO)
   all_goals try exact oF
   refine callS.eq (w38 g g.rules[i] hs (m4 _ (gM hlt))) ?_
   rcases bC (misT g g.rules[i]) with hv|hv
   ·(refine V1 hv ?_;with_reducible repeat' first|exact trivial|intro h|refine aO ?_|refine eO ?_|apply jO)
    exact nx ⟨i+1,by omega,fun j hj hji=>by
     rcases Nat.lt_succ_iff_lt_or_eq.1 hji with e|e
     ·exact hn j hj e
     ·subst e;exact hv⟩ (by simp<;>omega) (by simp[E2]) rfl
   ·rw[chkG_2 h0 (tyF_hit hlt hv hn)]
    (refine V1 hv ?_;with_reducible repeat' first|exact trivial|intro h|refine aO ?_|refine eO ?_|apply jO)
  ·obtain rfl:i=g.rules.length:=by omega
   have hty:=tyF_none fun j hj=>hn j hj hj
   (refine V0 ?_;with_reducible repeat' first|exact trivial|intro h|refine aO ?_|refine eO ?_|apply jO)
   all_goals try exact oF
   refine callS.eq (w39 g hs hG.1.1.2) ?_
   (refine V1 (jO @List.length_map.{0,0} hhl) ?_;with_reducible repeat' first|exact trivial|intro h|refine aO ?_|refine eO ?_|apply jO)
   refine ZF mxd (ι:={ i:Nat // i≤g.syms.length∧∀j,j<i→¬(hgts g).getD j 0=0 }) (fun i=>[(1,.rop 2 (Gr g)),(33,IS (hgts g)),(34,I g.syms.length),(35,I i.1)]) (fun _ => []) (fun i=>g.syms.length-i.1) ⟨0,by simp⟩ (by simp[E2]) rfl ?_
   rintro ⟨i,hi,hn2⟩
   rcases nL i g.syms.length with hlt|hge
   ·have hge:(hgts g).getD i 0=(hgts g)[i]:=Z1 (by omega)
    by_cases hz:(hgts g)[i]=0
    ·rw[chkG_3 h0 hty (emF_hit hlt (by rw[hge,hz]) hn2)]
     (refine V1 (jO hz (jO @List.length_map.{0,0} hhl)) ?_;with_reducible repeat' first|exact trivial|intro h|refine aO ?_|refine eO ?_|apply jO)
     all_goals try exact oF
    ·(refine V1 (jO hz (jO @List.length_map.{0,0} hhl)) ?_;with_reducible repeat' first|exact trivial|intro h|refine aO ?_|refine eO ?_|apply jO)
     all_goals try exact oF
     exact nx ⟨i+1,by omega,fun j hji=>by
      rcases Nat.lt_succ_iff_lt_or_eq.1 hji with e|e
      ·exact hn2 j e
      ·subst e;rw[hge];exact hz⟩ (by simp<;>omega) (by simp[E2]) rfl
   ·obtain rfl:i=g.syms.length:=by omega
    rw[chkG_4 h0 hty (emF_none hn2)]
    (refine V0 ?_;with_reducible repeat' first|exact trivial|intro h|refine aO ?_|refine eO ?_|apply jO)
    all_goals try exact oF
 ·rw[chkG_1 h0]
  (refine V1 h0 ?_;with_reducible repeat' first|exact trivial|intro h|refine aO ?_|refine eO ?_|apply jO)
theorem w9 (g:Gram) (hs:Zw g) (hg:okGr g):Pu 9 [Gr g] (· = .tup [I (chkG g).1,I (chkG g).2]):=by
 obtain ⟨m1,m2,m3,m4⟩:=id hs
 have hhl:=hgts_len g
 refine ZY mxd i9 rfl (by simp) ?_;refine X0 ?_
 (refine V0 ?_;with_reducible repeat' first|exact trivial|intro h|refine aO ?_|refine eO ?_|apply jO)
 refine callS.eq (w40 g hs hg) ?_
 by_cases h0:(shpC g).1 = 0
 ·have hG:=shpC_ok h0
  have hno:=sfI_no hG.2.1
  (refine V1 h0 ?_;with_reducible repeat' first|exact trivial|intro h|refine aO ?_|refine eO ?_|apply jO)
  refine ZF mxd (ι:={ i:Nat // i≤g.rules.length∧∀j (hj:j<g.rules.length),j<i→misT g g.rules[j]=false }) (fun i=>[(1,.rop 2 (Gr g)),(6,I i.1)]) (fun _ => []) (fun i=>g.rules.length-i.1) ⟨0,by simp⟩ (by simp[E2]) rfl ?_
  rintro ⟨i,hi,hn⟩
  rcases nL i g.rules.length with hlt|hge
  ·(refine V0 ?_;with_reducible repeat' first|exact trivial|intro h|refine aO ?_|refine eO ?_|apply jO)
   all_goals try exact oF
   refine callS.eq (w41 g g.rules[i] hs (m4 _ (gM hlt)) (rulV_pos (rul_ok hG.2.1 hlt))) ?_
   rcases bC (misT g g.rules[i]) with hv|hv
   ·(refine V1 hv ?_;with_reducible repeat' first|exact trivial|intro h|refine aO ?_|refine eO ?_|apply jO)
    exact nx ⟨i+1,by omega,fun j hj hji=>by
     rcases Nat.lt_succ_iff_lt_or_eq.1 hji with e|e
     ·exact hn j hj e
     ·subst e;exact hv⟩ (by simp<;>omega) (by simp[E2]) rfl
   ·rw[chkG_2 h0 (tyF_hit hlt hv hn)]
    (refine V1 hv ?_;with_reducible repeat' first|exact trivial|intro h|refine aO ?_|refine eO ?_|apply jO)
  ·obtain rfl:i=g.rules.length:=by omega
   have hty:=tyF_none fun j hj=>hn j hj hj
   (refine V0 ?_;with_reducible repeat' first|exact trivial|intro h|refine aO ?_|refine eO ?_|apply jO)
   all_goals try exact oF
   refine ZF mxd (ι:={ i:Nat // i≤g.syms.length∧∀j,j<i→¬(hgts g).getD j 0=0 }) (fun i=>[(1,.rop 2 (Gr g)),(7,I i.1)]) (fun _ => []) (fun i=>g.syms.length-i.1) ⟨0,by simp⟩ (by simp[E2]) rfl ?_
   rintro ⟨i,hi,hn2⟩
   rcases nL i g.syms.length with hlt|hge
   ·have hmi:=minH_at hno.1 hlt
    have hnn:0≤(hgts g).getD i 0:=by
     rw[Z1 (by omega)];exact hgts_nn g _ (gM _)
    (refine V0 ?_;with_reducible repeat' first|exact trivial|intro h|refine aO ?_|refine eO ?_|apply jO)
    all_goals try exact oF
    refine callS.eq (w42 g g.syms[i].name hs hG.1.1.2) ?_
    rw[hmi]
    by_cases hz:(hgts g).getD i 0=0
    ·have hp:¬0<(hgts g).getD i 0:=by omega
     rw[chkG_3 h0 hty (emF_hit hlt hz hn2),decide_eq_false hp]
     (refine V0 ?_;with_reducible repeat' first|exact trivial|intro h|refine aO ?_|refine eO ?_|apply jO)
    ·have hp:0<(hgts g).getD i 0:=by omega
     rw[decide_eq_true hp]
     (refine V0 ?_;with_reducible repeat' first|exact trivial|intro h|refine aO ?_|refine eO ?_|apply jO)
     exact nx ⟨i+1,by omega,fun j hji=>by
      rcases Nat.lt_succ_iff_lt_or_eq.1 hji with e|e
      ·exact hn2 j e
      ·subst e;exact hz⟩ (by simp<;>omega) (by simp[E2]) rfl
   ·obtain rfl:i=g.syms.length:=by omega
    rw[chkG_4 h0 hty (emF_none hn2)]
    (refine V0 ?_;with_reducible repeat' first|exact trivial|intro h|refine aO ?_|refine eO ?_|apply jO)
    all_goals try exact oF
 ·rw[chkG_1 h0]
  (refine V1 h0 ?_;with_reducible repeat' first|exact trivial|intro h|refine aO ?_|refine eO ?_|apply jO)
end Go.Proofs.YtkmedfejmndmjaaGreat
