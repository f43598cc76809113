/- The law returns true whatever the input, and the input reads behind the call as before. No condition. -/
import Derived.Test.YtkmedfejmndmjaaGreatFty16
set_option maxHeartbeats 40000000
set_option maxRecDepth 20000
set_option linter.unusedSimpArgs false
set_option linter.unusedVariables false
namespace Go.Proofs.YtkmedfejmndmjaaGreat
open Go.Gh
open Nat (reduceEqDiff reduceLeDiff reduceAdd reduceLT)
open Int (reduceNe)
theorem w159 (e:Exp):Pu 159 [Ex e] (· = B (!decide (e.kind=8))):=by
 refine ZY mxd i159 rfl (by simp) ?_;refine X0 ?_
 (refine V1 @XE ?_;with_reducible repeat' first|exact trivial|intro h|refine aO ?_|refine eO ?_|apply jO)
theorem w98 (e:Exp):Pu 98 [Ex e] (· = B (!nrE e)):=by
 refine ZY mxd i98 rfl (by simp) ?_;refine X0 ?_
 (refine V1 @XE ?_;with_reducible repeat' first|exact trivial|intro h|refine aO ?_|refine eO ?_|apply jO)
 refine callS.eq (w158 159 [] (fun x=> !decide (x.kind=8)) (fun _ => True) (fun _ _ _ _ => trivial) (fun x _ => w159 x) e trivial) ?_
 (refine V0 ?_;with_reducible repeat' first|exact trivial|intro h|refine aO ?_|refine eO ?_|apply jO)
 rfl
theorem w95 (r:Rul) (hr:Zk r):Pu 95 [Ru r] (· = B (remR r)):=by
 refine ZY mxd i95 rfl (by simp) ?_;refine X0 ?_
 (refine V0 ?_;with_reducible repeat' first|exact trivial|intro h|refine aO ?_|refine eO ?_|apply jO)
 refine callS.eq (w97 r hr) ?_
 (refine V0 ?_;with_reducible repeat' first|exact trivial|intro h|refine aO ?_|refine eO ?_|apply jO)
 refine callS.eq (w96 (expR r) 98 [] (fun e=> !nrE e) fun x hx=>w98 x) ?_
 (refine V0 ?_;with_reducible repeat' first|exact trivial|intro h|refine aO ?_|refine eO ?_|apply jO)
 rfl
theorem w52 (g:Gram) (hg:Zw g):Pu 52 [Gr g] (· = B (g.rules.any remR)):=by
 refine ZY mxd i52 rfl (by simp) ?_;refine X0 ?_
 (refine V0 ?_;with_reducible repeat' first|exact trivial|intro h|refine aO ?_|refine eO ?_|apply jO)
 refine callS.eq (w94 g.rules 95 [] remR fun x hx=>w95 x (hg.2.2.2 x hx)) ?_
 (refine V0 ?_;with_reducible repeat' first|exact trivial|intro h|refine aO ?_|refine eO ?_|apply jO)
theorem w54 (a:Att):Pu 54 [At a] (· = B (decide (a.mode=3))):=by
 refine ZY mxd i54 rfl (by simp) ?_;refine X0 ?_
 (refine V0 ?_;with_reducible repeat' first|exact trivial|intro h|refine aO ?_|refine eO ?_|apply jO)
theorem w55 (a:Att):Pu 55 [At a] (· = B a.circ):=by
 refine ZY mxd i55 rfl (by simp) ?_;refine X0 ?_
 (refine V0 ?_;with_reducible repeat' first|exact trivial|intro h|refine aO ?_|refine eO ?_|apply jO)
theorem w100 (s:Sym) (f:Nat) (p:Att→Bool) (hp:∀a,Pu f [At a] (· = B (p a))):Pu 100 [Sy s,.rop 1 (.clo f [])] (· = B (s.atts.any p)):=by
 refine ZY mxd i100 rfl (by simp) ?_;refine X0 ?_
 (refine V0 ?_;with_reducible repeat' first|exact trivial|intro h|refine aO ?_|refine eO ?_|apply jO)
 refine callS.eq (w81 s.atts f [] p fun x hx=>hp x) ?_
 (refine V0 ?_;with_reducible repeat' first|exact trivial|intro h|refine aO ?_|refine eO ?_|apply jO)
theorem w53 (g:Gram) (f:Nat) (p:Att→Bool) (hp:∀a,Pu f [At a] (· = B (p a))):Pu 53 [Gr g,.clo f []] (· = B (hasA g p)):=by
 refine ZY mxd i53 rfl (by simp) ?_;refine X0 ?_
 ((try refine qI ?_);(repeat ((first|with_reducible refine qU ?_ | simp only[Z8]);try simp (maxSteps:=9^7) +contextual only[↓ S2,S2,↓reduceIte,reduceNe,reduceEqDiff,reduceCtorEq,reduceLeDiff,reduceAdd,reduceLT,VQ,gs_clo]));(try simp +contextual (disch:=omega) only[Z2,gs_clo]);(with_reducible repeat' (first|intro h|refine And.intro (by omega) ?_ | refine exP (by omega) ?_ | apply And.intro)))
 refine callS.eq (w99 g.syms 100 [.rop 1 (.clo f [])] (fun s=>s.atts.any p) fun x hx=>w100 x f p hp) ?_
 (refine V0 ?_;with_reducible repeat' first|exact trivial|intro h|refine aO ?_|refine eO ?_|apply jO)
 rfl
theorem w51 (g:Gram) (hs:Zw g) (hg:okGr g):Pu 51 [Gr g] (· = B (accG g)):=by
 refine ZY mxd i51 rfl (by simp) ?_;refine X0 ?_
 (refine V0 ?_;with_reducible repeat' first|exact trivial|intro h|refine aO ?_|refine eO ?_|apply jO)
 refine callS.eq (w8 g hs hg) ?_
 (refine V0 ?_;with_reducible repeat' first|exact trivial|intro h|refine aO ?_|refine eO ?_|apply jO)
 rfl
theorem w16 (g:Gram) (hs:Zw g) (hg:okGr g):Pu 16 [Gr g] (· = B (staS g)):=by
 rw[←staI_eq]
 unfold staI
 refine ZY mxd i16 rfl (by simp) ?_;refine X0 ?_
 (refine V0 ?_;with_reducible repeat' first|exact trivial|intro h|refine aO ?_|refine eO ?_|apply jO)
 refine callS.eq (w51 g hs hg) ?_
 rcases bC (accG g) with h1|h1
 ·rw[h1]
  (refine V1 @Bool.false_and ?_;with_reducible repeat' first|exact trivial|intro h|refine aO ?_|refine eO ?_|apply jO)
 ·rw[h1]
  (refine V0 ?_;with_reducible repeat' first|exact trivial|intro h|refine aO ?_|refine eO ?_|apply jO)
  refine callS.eq (w52 g hs) ?_
  rcases bC (g.rules.any remR) with h2|h2
  ·rw[h2]
   (refine V0 ?_;with_reducible repeat' first|exact trivial|intro h|refine aO ?_|refine eO ?_|apply jO)
   refine callS.eq (w53 g 54 _ w54) ?_
   rcases bC (hasA g fun a=>decide (a.mode=3)) with h3|h3
   ·rw[h3]
    (refine V1 @Bool.false_and ?_;with_reducible repeat' first|exact trivial|intro h|refine aO ?_|refine eO ?_|apply jO)
    refine callS.eq (w53 g 55 _ w55) ?_
    (refine V0 ?_;with_reducible repeat' first|exact trivial|intro h|refine aO ?_|refine eO ?_|apply jO)
   ·rw[h3]
    (refine V1 @Bool.false_and ?_;with_reducible repeat' first|exact trivial|intro h|refine aO ?_|refine eO ?_|apply jO)
  ·rw[h2]
   (refine V1 @Bool.false_and ?_;with_reducible repeat' first|exact trivial|intro h|refine aO ?_|refine eO ?_|apply jO)
theorem w18:∀(e:Exp),wEx e≤1048576→Pu 18 [Ex e] (· = B (!nrE e)):=by
 refine Exp.indA fun e ih hw=> ?_
 obtain ⟨hl,ha⟩:=Za hw
 refine ZY mxd i18 rfl (by simp) ?_;refine X0 ?_
 (refine V1 @XE ?_;with_reducible repeat' first|exact trivial|intro h|refine aO ?_|refine eO ?_|apply jO)
 refine ZF mxd (ι:={ i:Nat // i≤e.args.length∧∀a∈e.args.take i,nrE a=true }) (fun i=>[(1,.rop 7 (Ex e)),(3,I i.1)]) (fun _ => []) (fun i=>e.args.length-i.1) ⟨0,by simp⟩ (by simp[E2]) rfl ?_
 rintro ⟨i,hi,hn⟩
 rcases nL i e.args.length with hlt|hge
 ·(refine V1 @XE ?_;with_reducible repeat' first|exact trivial|intro h|refine aO ?_|refine eO ?_|apply jO)
  all_goals try exact oF
  refine callS.eq (ih _ (gM hlt) (ha _ (gM hlt))) ?_
  rcases bC (nrE e.args[i]) with hv|hv
  ·rw[nrE_arg hlt hv]
   (refine V1 hv ?_;with_reducible repeat' first|exact trivial|intro h|refine aO ?_|refine eO ?_|apply jO)
  ·(refine V1 hv ?_;with_reducible repeat' first|exact trivial|intro h|refine aO ?_|refine eO ?_|apply jO)
   exact nx ⟨i+1,by omega,Zv hlt hv hn⟩ (by simp<;>omega) (by simp[E2]) rfl
 ·obtain rfl:i=e.args.length:=by omega
  rw[List.take_length] at hn
  rw[nrE_end hn]
  (refine V1 @XE ?_;with_reducible repeat' first|exact trivial|intro h|refine aO ?_|refine eO ?_|apply jO)
  all_goals try exact oF
theorem w56 (r:Rul) (hr:Zk r):Pu 56 [Ru r] (· = B (remQ r)):=by
 obtain ⟨m1,m2,m3,m4,m5⟩:=hr
 refine ZY mxd i56 rfl (by simp) ?_;refine X0 ?_
 (refine V0 ?_;with_reducible repeat' first|exact trivial|intro h|refine aO ?_|refine eO ?_|apply jO)
 refine ZF mxd (ι:={ i:Nat // i≤r.eqs.length∧∀q∈r.eqs.take i,(!nrE q.expr)=false }) (fun i=>[(1,.rop 6 (Ru r)),(3,I i.1)]) (fun _ => []) (fun i=>r.eqs.length-i.1) ⟨0,by simp⟩ (by simp[E2]) rfl ?_
 rintro ⟨i,hi,hn⟩
 rcases nL i r.eqs.length with hlt|hge
 ·(refine V1 @XE ?_;with_reducible repeat' first|exact trivial|intro h|refine aO ?_|refine eO ?_|apply jO)
  all_goals try exact oF
  refine callS.eq (w18 r.eqs[i].expr (m4 _ (gM hlt))) ?_
  rcases bC (nrE r.eqs[i].expr) with hv|hv
  ·have:remQ r=true:=Yq (p:=fun q:Eqn=> !nrE q.expr) hlt (by rw[hv];rfl)
   rw[this]
   (refine V1 hv ?_;with_reducible repeat' first|exact trivial|intro h|refine aO ?_|refine eO ?_|apply jO)
  ·(refine V1 hv ?_;with_reducible repeat' first|exact trivial|intro h|refine aO ?_|refine eO ?_|apply jO)
   exact nx ⟨i+1,by omega,Zv (p:=fun q:Eqn=> !nrE q.expr) hlt (by rw[hv];rfl) hn⟩ (by simp<;>omega) (by simp[E2]) rfl
 ·obtain rfl:i=r.eqs.length:=by omega
  rw[List.take_length] at hn
  have:remQ r=false:=any_no (p:=fun q:Eqn=> !nrE q.expr) hn
  rw[this]
  (refine V0 ?_;with_reducible repeat' first|exact trivial|intro h|refine aO ?_|refine eO ?_|apply jO)
  all_goals try exact oF
theorem w57 (g:Gram) (hs:Zw g) (hg:okGr g):Pu 57 [Gr g] (· = B (accG g)):=by
 refine ZY mxd i57 rfl (by simp) ?_;refine X0 ?_
 (refine V0 ?_;with_reducible repeat' first|exact trivial|intro h|refine aO ?_|refine eO ?_|apply jO)
 refine callS.eq (w9 g hs hg) ?_
 (refine V0 ?_;with_reducible repeat' first|exact trivial|intro h|refine aO ?_|refine eO ?_|apply jO)
 rfl
theorem w17 (g:Gram) (hs:Zw g) (hg:okGr g):Pu 17 [Gr g] (· = B (staS g)):=by
 obtain ⟨m1,m2,m3,m4⟩:=id hs
 refine ZY mxd i17 rfl (by simp) ?_;refine X0 ?_
 (refine V0 ?_;with_reducible repeat' first|exact trivial|intro h|refine aO ?_|refine eO ?_|apply jO)
 refine ZF mxd (ι:={ i:Nat // i≤g.syms.length∧∀s∈g.syms.take i,(s.atts.all fun a=> !(a.circ||decide (a.mode=3)))=true }) (fun i=>[(1,.rop 2 (Gr g)),(3,I i.1)]) (fun _ => []) (fun i=>g.syms.length-i.1) ⟨0,by simp⟩ (by simp[E2]) rfl ?_
 rintro ⟨i,hi,hn⟩
 rcases nL i g.syms.length with hlt|hge
 ·have hal:=m3 _ (gM hlt)
  unfold smSy at hal
  (refine V0 ?_;with_reducible repeat' first|exact trivial|intro h|refine aO ?_|refine eO ?_|apply jO)
  all_goals try exact oF
  refine ZF mxd (ι:={ j:Nat // j≤g.syms[i].atts.length ∧ ∀a∈g.syms[i].atts.take j,(!(a.circ||decide (a.mode=3)))=true }) (fun j=>[(1,.rop 2 (Gr g)),(3,I i),(4,I j.1)]) (fun _ => []) (fun j=>g.syms[i].atts.length - j.1) ⟨0,by simp⟩ (by simp[E2]) rfl ?_
  rintro ⟨j,hj,hn2⟩
  rcases nL j g.syms[i].atts.length with hlt2|hge2
  ·have hno:=noA_no hlt hlt2
   rcases (Bool.eq_false_or_eq_true g.syms[i].atts[j].circ).symm with hv|hv
   ·by_cases hw:g.syms[i].atts[j].mode = 3
    ·have:staS g=false:=by unfold staS;rw[hno (by simp[hv,hw])];rfl
     rw[this]
     (refine V1 (jO hv hw) ?_;with_reducible repeat' first|exact trivial|intro h|refine aO ?_|refine eO ?_|apply jO)
     all_goals try exact oF
    ·(refine V1 (jO hv hw) ?_;with_reducible repeat' first|exact trivial|intro h|refine aO ?_|refine eO ?_|apply jO)
     all_goals try exact oF
     exact nx ⟨j+1,by omega,Zv (p:=fun a:Att=> !(a.circ||decide (a.mode=3))) hlt2 (by simp[hv,hw]) hn2⟩ (by simp<;>omega) (by simp[E2]) rfl
   ·have:staS g=false:=by unfold staS;rw[hno (by simp[hv])];rfl
    rw[this]
    (refine V1 hv ?_;with_reducible repeat' first|exact trivial|intro h|refine aO ?_|refine eO ?_|apply jO)
    all_goals try exact oF
  ·obtain rfl:j=g.syms[i].atts.length := by omega
   rw[List.take_length] at hn2
   (refine V0 ?_;with_reducible repeat' first|exact trivial|intro h|refine aO ?_|refine eO ?_|apply jO)
   all_goals try exact oF
   exact nx ⟨i+1,by omega,Zv (p:=fun s:Sym=>s.atts.all fun a=> !(a.circ||decide (a.mode=3))) hlt (all_yes hn2) hn⟩ (by simp<;>omega) (by simp[E2]) rfl
 ·obtain rfl:i=g.syms.length:=by omega
  rw[List.take_length] at hn
  have hna:noA g=true:=all_yes hn
  unfold staS
  rw[hna,Bool.true_and]
  (refine V0 ?_;with_reducible repeat' first|exact trivial|intro h|refine aO ?_|refine eO ?_|apply jO)
  all_goals try exact oF
  refine ZF mxd (ι:={ i:Nat // i≤g.rules.length∧∀r∈g.rules.take i,remQ r=false }) (fun i=>[(1,.rop 2 (Gr g)),(6,I i.1)]) (fun _ => []) (fun i=>g.rules.length-i.1) ⟨0,by simp⟩ (by simp[E2]) rfl ?_
  rintro ⟨i,hi,hn2⟩
  rcases nL i g.rules.length with hlt|hge
  ·(refine V0 ?_;with_reducible repeat' first|exact trivial|intro h|refine aO ?_|refine eO ?_|apply jO)
   all_goals try exact oF
   refine callS.eq (w56 g.rules[i] (m4 _ (gM hlt))) ?_
   rcases bC (remQ g.rules[i]) with hv|hv
   ·(refine V1 hv ?_;with_reducible repeat' first|exact trivial|intro h|refine aO ?_|refine eO ?_|apply jO)
    exact nx ⟨i+1,by omega,Zv hlt hv hn2⟩ (by simp<;>omega) (by simp[E2]) rfl
   ·rw[Yq hlt hv]
    (refine V1 (jO hv @Bool.false_and) ?_;with_reducible repeat' first|exact trivial|intro h|refine aO ?_|refine eO ?_|apply jO)
  ·obtain rfl:i=g.rules.length:=by omega
   rw[List.take_length] at hn2
   rw[any_no hn2]
   (refine V0 ?_;with_reducible repeat' first|exact trivial|intro h|refine aO ?_|refine eO ?_|apply jO)
   all_goals try exact oF
   refine callS.eq (w57 g hs hg) ?_
   (refine V0 ?_;with_reducible repeat' first|exact trivial|intro h|refine aO ?_|refine eO ?_|apply jO)
end Go.Proofs.YtkmedfejmndmjaaGreat
