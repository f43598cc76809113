/- The laws FnStatic and FnStaticTypes return true whatever the input, and the input reads behind the call as before. No condition. -/
import Derived.Test.YtknbnefbgpnkgaaGreatFst27
set_option maxHeartbeats 40000000
set_option maxRecDepth 20000
set_option linter.unusedSimpArgs false
set_option linter.unusedVariables false
namespace Go.Proofs.YtknbnefbgpnkgaaGreat
open Go.Gh
open Nat (reduceEqDiff reduceLeDiff reduceAdd reduceLT)
open Int (reduceNe)
theorem w185 (e:Exp):Pu 185 [Ex e] (· = B (!decide (e.kind=8))):=by
 refine Z5 mxd i185 rfl (by simp) ?_;refine X0 ?_
 (refine V1 @XE ?_;with_reducible repeat' exact trivial)
theorem w142 (e:Exp):Pu 142 [Ex e] (· = B (!nrE e)):=by
 refine Z5 mxd i142 rfl (by simp) ?_;refine X0 ?_
 (refine V1 @XE ?_)
 refine callS.eq (w184 185 [] (fun x=> !decide (x.kind=8)) (fun _ => True) (fun _ _ _ _ => trivial) (fun x _ => w185 x) e trivial) ?_
 (refine V0 ?_)
 rfl
theorem w139 (r:Rul) (hr:Zb r):Pu 139 [Ru r] (· = B (remR r)):=by
 refine Z5 mxd i139 rfl (by simp) ?_;refine X0 ?_
 (refine V0 ?_)
 refine callS.eq (w141 r hr) ?_
 (refine V0 ?_)
 refine callS.eq (w140 (expR r) 142 [] (fun e=> !nrE e) fun x hx=>w142 x) ?_
 (refine V0 ?_)
 rfl
theorem w92 (g:Gram) (hg:ZI g):Pu 92 [Gr g] (· = B (g.rules.any remR)):=by
 refine Z5 mxd i92 rfl (by simp) ?_;refine X0 ?_
 (refine V0 ?_)
 refine callS.eq (w138 g.rules 139 [] remR fun x hx=>w139 x (hg.2.2.2 x hx)) ?_
 (refine V0 ?_;with_reducible repeat' exact trivial)
theorem w94 (a:Att):Pu 94 [At a] (· = B (decide (a.mode=3))):=by
 refine Z5 mxd i94 rfl (by simp) ?_;refine X0 ?_
 (refine V0 ?_;with_reducible repeat' exact trivial)
theorem w95 (a:Att):Pu 95 [At a] (· = B a.circ):=by
 refine Z5 mxd i95 rfl (by simp) ?_;refine X0 ?_
 (refine V0 ?_;with_reducible repeat' exact trivial)
theorem w144 (s:Sym) (f:Nat) (p:Att→Bool) (hp:∀a,Pu f [At a] (· = B (p a))):Pu 144 [Sy s,.rop 1 (.clo f [])] (· = B (s.atts.any p)):=by
 refine Z5 mxd i144 rfl (by simp) ?_;refine X0 ?_
 (refine V0 ?_)
 refine callS.eq (w145 s.atts f [] p fun x hx=>hp x) ?_
 (refine V0 ?_;with_reducible repeat' exact trivial)
theorem w93 (g:Gram) (f:Nat) (p:Att→Bool) (hp:∀a,Pu f [At a] (· = B (p a))):Pu 93 [Gr g,.clo f []] (· = B (hasA g p)):=by
 refine Z5 mxd i93 rfl (by simp) ?_;refine X0 ?_
 ((try refine qI ?_);(repeat ((first|with_reducible refine qU ?_ | simp only[ZP]);try simp (maxSteps:=9^7) +contextual only[↓ S2,S2,↓reduceIte,reduceNe,reduceEqDiff,reduceCtorEq,reduceLeDiff,reduceAdd,reduceLT,VQ,gs_clo]));(try simp +contextual (disch:=omega) only[Z2,gs_clo]);(with_reducible repeat' (first|intro h|refine jO oT ?_ | refine exP oT ?_ | apply jO)))
 refine callS.eq (w143 g.syms 144 [.rop 1 (.clo f [])] (fun s=>s.atts.any p) fun x hx=>w144 x f p hp) ?_
 (refine V0 ?_)
 rfl
theorem w55 (g:Gram) (hs:ZI g) (hg:okGr g):Pu 55 [Gr g] (· = B (accG g)):=by
 refine Z5 mxd i55 rfl (by simp) ?_;refine X0 ?_
 (refine V0 ?_)
 refine callS.eq (w111 g hs hg) ?_
 (refine V0 ?_)
 rfl
theorem w44 (g:Gram) (hs:ZI g) (hg:okGr g):Pu 44 [Gr g] (· = B (staS g)):=by
 rw[←staI_eq]
 unfold staI
 refine Z5 mxd i44 rfl (by simp) ?_;refine X0 ?_
 (refine V0 ?_)
 refine callS.eq (w55 g hs hg) ?_
 rcases bC (accG g) with h1|h1
 ·rw[h1]
  (refine V1 @Bool.false_and ?_;with_reducible repeat' exact trivial)
 ·rw[h1]
  (refine V0 ?_)
  refine callS.eq (w92 g hs) ?_
  rcases bC (g.rules.any remR) with h2|h2
  ·rw[h2]
   (refine V0 ?_)
   refine callS.eq (w93 g 94 _ w94) ?_
   rcases bC (hasA g fun a=>decide (a.mode=3)) with h3|h3
   ·rw[h3]
    (refine V1 @Bool.false_and ?_)
    refine callS.eq (w93 g 95 _ w95) ?_
    (refine V0 ?_;with_reducible repeat' exact trivial)
   ·rw[h3]
    (refine V1 @Bool.false_and ?_;with_reducible repeat' exact trivial)
  ·rw[h2]
   (refine V1 @Bool.false_and ?_;with_reducible repeat' exact trivial)
theorem w125:∀(e:Exp),wEx e≤1048576→Pu 125 [Ex e] (· = B (!nrE e)):=by
 refine Exp.indA fun e ih hw=> ?_
 obtain ⟨hl,ha⟩:=YS hw
 refine Z5 mxd i125 rfl (by simp) ?_;refine X0 ?_
 (refine V1 @XE ?_)
 refine ZL mxd (ι:={ i:Nat // i≤e.args.length∧∀a∈e.args.take i,nrE a=true }) (fun i=>[(1,.rop 7 (Ex e)),(3,I i.1)]) (fun _ => []) (fun i=>e.args.length-i.1) ⟨0,by simp⟩ (by simp[E2]) rfl ?_
 rintro ⟨i,hi,hn⟩
 rcases nL i e.args.length with hlt|hge
 ·(refine V1 @XE ?_;with_reducible repeat' first|intro h|apply jO)
  all_goals try exact oF
  refine callS.eq (ih _ (gM hlt) (ha _ (gM hlt))) ?_
  rcases bC (nrE e.args[i]) with hv|hv
  ·rw[nrE_arg hlt hv]
   (refine V1 hv ?_;with_reducible repeat' exact trivial)
  ·(refine V1 hv ?_)
   exact nx ⟨i+1,oT,Zt hlt hv hn⟩ (by simp<;>omega) (by simp[E2]) rfl
 ·obtain rfl:i=e.args.length:=by omega
  rw[List.take_length] at hn
  rw[nrE_end hn]
  (refine V1 @XE ?_;with_reducible repeat' intro h)
  all_goals try exact oF
theorem w73 (r:Rul) (hr:Zb r):Pu 73 [Ru r] (· = B (remQ r)):=by
 obtain ⟨m1,m2,m3,m4,m5⟩:=hr
 refine Z5 mxd i73 rfl (by simp) ?_;refine X0 ?_
 (refine V0 ?_)
 refine ZL mxd (ι:={ i:Nat // i≤r.eqs.length∧∀q∈r.eqs.take i,(!nrE q.expr)=false }) (fun i=>[(1,.rop 6 (Ru r)),(3,I i.1)]) (fun _ => []) (fun i=>r.eqs.length-i.1) ⟨0,by simp⟩ (by simp[E2]) rfl ?_
 rintro ⟨i,hi,hn⟩
 rcases nL i r.eqs.length with hlt|hge
 ·(refine V1 @XE ?_;with_reducible repeat' first|intro h|apply jO)
  all_goals try exact oF
  refine callS.eq (w125 r.eqs[i].expr (m4 _ (gM hlt))) ?_
  rcases bC (nrE r.eqs[i].expr) with hv|hv
  ·have:remQ r=true:=X2 (p:=fun q:Eqn=> !nrE q.expr) hlt (by rw[hv];rfl)
   rw[this]
   (refine V1 hv ?_;with_reducible repeat' exact trivial)
  ·(refine V1 hv ?_)
   exact nx ⟨i+1,oT,Zt (p:=fun q:Eqn=> !nrE q.expr) hlt (by rw[hv];rfl) hn⟩ (by simp<;>omega) (by simp[E2]) rfl
 ·obtain rfl:i=r.eqs.length:=by omega
  rw[List.take_length] at hn
  have:remQ r=false:=any_no (p:=fun q:Eqn=> !nrE q.expr) hn
  rw[this]
  (refine V0 ?_;with_reducible repeat' intro h)
  all_goals try exact oF
theorem w63 (g:Gram) (hs:ZI g) (hg:okGr g):Pu 63 [Gr g] (· = B (accG g)):=by
 refine Z5 mxd i63 rfl (by simp) ?_;refine X0 ?_
 (refine V0 ?_)
 refine callS.eq (w118 g hs hg) ?_
 (refine V0 ?_)
 rfl
theorem w28 (g:Gram) (hs:ZI g) (hg:okGr g):Pu 28 [Gr g] (· = B (staS g)):=by
 obtain ⟨m1,m2,m3,m4⟩:=id hs
 refine Z5 mxd i28 rfl (by simp) ?_;refine X0 ?_
 (refine V0 ?_)
 refine ZL mxd (ι:={ i:Nat // i≤g.syms.length∧∀s∈g.syms.take i,(s.atts.all fun a=> !(a.circ||decide (a.mode=3)))=true }) (fun i=>[(1,.rop 2 (Gr g)),(3,I i.1)]) (fun _ => []) (fun i=>g.syms.length-i.1) ⟨0,by simp⟩ (by simp[E2]) rfl ?_
 rintro ⟨i,hi,hn⟩
 rcases nL i g.syms.length with hlt|hge
 ·have hal:=m3 _ (gM hlt)
  unfold Yw at hal
  (refine V0 ?_;with_reducible repeat' first|intro h|apply jO)
  all_goals try exact oF
  refine ZL mxd (ι:={ j:Nat // j≤g.syms[i].atts.length ∧ ∀a∈g.syms[i].atts.take j,(!(a.circ||decide (a.mode=3)))=true }) (fun j=>[(1,.rop 2 (Gr g)),(3,I i),(4,I j.1)]) (fun _ => []) (fun j=>g.syms[i].atts.length - j.1) ⟨0,by simp⟩ (by simp[E2]) rfl ?_
  rintro ⟨j,hj,hn2⟩
  rcases nL j g.syms[i].atts.length with hlt2|hge2
  ·have hno:=noA_no hlt hlt2
   rcases (Bool.eq_false_or_eq_true g.syms[i].atts[j].circ).symm with hv|hv
   ·by_cases hw:g.syms[i].atts[j].mode = 3
    ·have:staS g=false:=by unfold staS;rw[hno (by simp[hv,hw])];rfl
     rw[this]
     (refine V1 (jO hv hw) ?_;with_reducible repeat' intro h)
     all_goals try exact oF
    ·(refine V1 (jO hv hw) ?_;with_reducible repeat' first|intro h|apply jO)
     all_goals try exact oF
     exact nx ⟨j+1,oT,Zt (p:=fun a:Att=> !(a.circ||decide (a.mode=3))) hlt2 (by simp[hv,hw]) hn2⟩ (by simp<;>omega) (by simp[E2]) rfl
   ·have:staS g=false:=by unfold staS;rw[hno (by simp[hv])];rfl
    rw[this]
    (refine V1 hv ?_;with_reducible repeat' intro h)
    all_goals try exact oF
  ·obtain rfl:j=g.syms[i].atts.length := by omega
   rw[List.take_length] at hn2
   (refine V0 ?_;with_reducible repeat' intro h)
   all_goals try exact oF
   exact nx ⟨i+1,oT,Zt (p:=fun s:Sym=>s.atts.all fun a=> !(a.circ||decide (a.mode=3))) hlt (all_yes hn2) hn⟩ (by simp<;>omega) (by simp[E2]) rfl
 ·obtain rfl:i=g.syms.length:=by omega
  rw[List.take_length] at hn
  have hna:noA g=true:=all_yes hn
  unfold staS
  rw[hna,Bool.true_and]
  (refine V0 ?_;with_reducible repeat' intro h)
  all_goals try exact oF
  refine ZL mxd (ι:={ i:Nat // i≤g.rules.length∧∀r∈g.rules.take i,remQ r=false }) (fun i=>[(1,.rop 2 (Gr g)),(6,I i.1)]) (fun _ => []) (fun i=>g.rules.length-i.1) ⟨0,by simp⟩ (by simp[E2]) rfl ?_
  rintro ⟨i,hi,hn2⟩
  rcases nL i g.rules.length with hlt|hge
  ·(refine V0 ?_;with_reducible repeat' first|intro h|apply jO)
   all_goals try exact oF
   refine callS.eq (w73 g.rules[i] (m4 _ (gM hlt))) ?_
   rcases bC (remQ g.rules[i]) with hv|hv
   ·(refine V1 hv ?_)
    exact nx ⟨i+1,oT,Zt hlt hv hn2⟩ (by simp<;>omega) (by simp[E2]) rfl
   ·rw[X2 hlt hv]
    (refine V1 (jO hv @Bool.false_and) ?_;with_reducible repeat' exact trivial)
  ·obtain rfl:i=g.rules.length:=by omega
   rw[List.take_length] at hn2
   rw[any_no hn2]
   (refine V0 ?_;with_reducible repeat' intro h)
   all_goals try exact oF
   refine callS.eq (w63 g hs hg) ?_
   (refine V0 ?_;with_reducible repeat' exact trivial)
end Go.Proofs.YtknbnefbgpnkgaaGreat
