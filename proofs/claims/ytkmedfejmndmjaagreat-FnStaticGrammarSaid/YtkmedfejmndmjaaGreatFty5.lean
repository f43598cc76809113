/- The law returns true whatever the input, and the input reads behind the call as before. No condition. -/
import Derived.Test.YtkmedfejmndmjaaGreatFty4
set_option maxHeartbeats 40000000
set_option maxRecDepth 20000
set_option linter.unusedSimpArgs false
set_option linter.unusedVariables false
namespace Go.Proofs.YtkmedfejmndmjaaGreat
open Go.Gh
open Nat (reduceEqDiff reduceLeDiff reduceAdd reduceLT)
open Int (reduceNe)
theorem w176 (e:Exp) (ho:okE e) (hw:wEx e≤1048576):Pu 176 [Ex e] (· = B (validE e)):=by
 have hc:=cntE_le e
 have hd:=dpE_le e
 have hev:=w158 225 [] nodeV (fun e=>okE e∧wEx e≤1048576) (fun e h a ha=>⟨(okE_eq.1 h.1).2.2 a ha,(Za h.2).2 a ha⟩) (fun x h=>w225 x (Za h.2).1 h.1) e ⟨ho,hw⟩
 refine ZY mxd i176 rfl (by simp) ?_;refine X0 ?_
 (repeat' (first|(with_reducible refine callS.eq (w223 e hw) ?_)|(with_reducible refine callS.eq (w224 e hw) ?_)|(with_reducible refine callS.eq (hev) ?_)|simp (maxSteps:=9^7) only[↓ S2,S2,Z5,↓reduceIte,reduceNe,reduceEqDiff,reduceCtorEq,reduceLeDiff,reduceAdd,reduceLT,XE]|simp only[Z8]|simp +contextual (disch:=omega) only[Z2]|with_reducible first|intro h|refine And.intro (by omega) ?_ | refine exP (by omega) ?_ | apply And.intro))
 all_goals (simp only[validE])
 all_goals first
  | (rw[decide_eq_true (show cntE e≤24 by omega),decide_eq_true (show dpE e≤6 by omega)];rfl)
  | (rw[decide_eq_false (show ¬cntE e≤24 by omega)];rfl)
  | (rw[decide_eq_false (show ¬dpE e≤6 by omega),Bool.and_false];rfl)
end Go.Proofs.YtkmedfejmndmjaaGreat
namespace Go.Proofs.YtkmedfejmndmjaaGreat
open Go.Gh
open Nat (reduceEqDiff reduceLeDiff reduceAdd reduceLT)
open Int (reduceNe)
end Go.Proofs.YtkmedfejmndmjaaGreat
namespace Go.Proofs.YtkmedfejmndmjaaGreat
open Go.Gh
open Nat (reduceEqDiff reduceLeDiff reduceAdd reduceLT)
open Int (reduceNe)
theorem w264 (a b:Oc):Pu 264 [Occ a,Occ b] (· = B (ltO a b)):=by
 refine ZY mxd i264 rfl (by simp) ?_;refine X0 ?_
 (refine R0 ?_;with_reducible repeat' first|exact trivial|intro h|refine aO ?_|refine eO ?_|apply jO)
 ·simp[ltO,h]
 ·rename_i h0
  simp only[ltO,decide_eq_false h0,decide_eq_true h,Bool.false_or,Bool.true_and]
  rfl
 ·rename_i h0
  simp[ltO,h0,h]
theorem w249 (l:List Oc) (o:Oc) (hl:l.length≤4194304):Pu 249 [OcS l,Occ o] (· = OcS (putO l o)):=by
 refine Pure.bor ?_
 refine ZY mxd i249 rfl (by simp) ?_;refine X0 ?_
 refine ZF mxd (ι:={ i:Nat // i≤l.length∧∀a∈l.take i,ltO a o=true }) (fun i=>[(0,OcS l),(3,.rop 2 (Occ o)),(5,I i.1)]) (fun _ => []) (fun i=>l.length-i.1) ⟨0,by simp⟩ (by simp[E2]) rfl ?_
 rintro ⟨i,hi,hp⟩
 have hsl:(l.take i).length = i:=by simp;omega
 rcases nL i l.length with h|h
 ·(refine V1 @XE ?_;with_reducible repeat' first|exact trivial|intro h|refine aO ?_|refine eO ?_|apply jO)
  all_goals try exact oF
  refine callS.eq (w264 _ _) ?_
  by_cases hb:ltO l[i] o=true
  ·(refine V1 hb ?_;with_reducible repeat' first|exact trivial|intro h|refine aO ?_|refine eO ?_|apply jO)
   exact nx ⟨i+1,by omega,take_all_step (p:=fun a=>ltO a o) h hb hp⟩ (by simp;omega) (by simp[E2]) rfl
  ·have hb':ltO l[i] o=false:=by simpa using hb
   have ha:atO l o=i:=atO_of hi hp (fun _ => hb')
   have hpt:putO l o=if l[i]=o then l else l.take i++o::l.drop i:=by
    simp only[putO,ha,List.getElem?_eq_getElem h,Option.some.injEq]
   by_cases he:l[i]=o
   ·have he1:l[i].1 = o.1:=by rw[he]
    have he2:l[i].2 = o.2:=by rw[he]
    (refine V1 (jO hb' (jO he1 he2)) ?_;with_reducible repeat' first|exact trivial|intro h|refine aO ?_|refine eO ?_|apply jO)
    all_goals try exact oF
    rw[hpt,if_pos he]
    exact .refl
   ·rw[hpt,if_neg he]
    (refine V1 (jO hb' (jO @List.length_append.{0} (jO @List.length_singleton.{0} (jO @List.length_map.{0,0} (jO @List.length_take.{0} (jO @List.length_drop.{0} @ZO)))))) ?_;with_reducible repeat' first|exact trivial|intro h|refine aO ?_|refine eO ?_|apply jO)
    all_goals first
     | (exfalso;exact he (Prod.ext (by assumption) (by assumption)))
     | (rw[putM hi,putN (o:=o) hi];exact Bor.allM (fun _ => rfl) Z4 rfl)
     | (exfalso;omega)
 ·have hil:i=l.length:=by omega
  have ha:atO l o=i:=atO_of hi hp (fun h=>absurd h (by omega))
  have hpt:putO l o=l.take i++o::l.drop i:=by
   simp only[putO,ha,List.getElem?_eq_none (by omega:l.length≤i)]
   rfl
  rw[hpt]
  have hni:¬i<l.length:=by omega
  ((try refine qI ?_);(repeat ((first|with_reducible refine qU ?_ | simp only[Z8]);try simp (maxSteps:=9^7) +contextual only[↓ S2,S2,↓reduceIte,reduceNe,reduceEqDiff,reduceCtorEq,reduceLeDiff,reduceAdd,reduceLT,VQ,hni,List.length_append,List.length_singleton,List.length_map,List.length_take,List.length_drop,ZO]));(try simp +contextual (disch:=omega) only[Z2,hni,List.length_append,List.length_singleton,List.length_map,List.length_take,List.length_drop,ZO]);(with_reducible repeat' (first|intro h|refine And.intro (by omega) ?_ | refine exP (by omega) ?_ | apply And.intro)))
  all_goals first
   | (rw[putM hi,putN (o:=o) hi];exact Bor.allM (fun _ => rfl) Z4 rfl)
   | (exfalso;omega)
theorem w227:∀(e:Exp) (l:List Oc),wEx e≤1048576→l.length+(1+wEx e)≤4194303→Pu 227 [Ex e,OcS l] (· = OcS (usE e l)):=by
 refine Exp.indA fun e ih l hw hb=> ?_
 obtain ⟨hal,haw⟩:=Za hw
 have hwa:=wEx_args e
 rw[usE_eq]
 refine ZY mxd i227 rfl (by simp) ?_;refine X0 ?_
 by_cases hk:e.kind=3
 ·rw[if_pos hk]
  ·have hlp:=putO_len l (e.pos,e.name)
   (refine V1 (jO @XE hk) ?_;with_reducible repeat' first|exact trivial|intro h|refine aO ?_|refine eO ?_|apply jO)
   all_goals try exact oF
   refine callS.eq (w249 l (e.pos,e.name) (by omega)) ?_
   (refine V1 (jO @XE hk) ?_;with_reducible repeat' first|exact trivial|intro h|refine aO ?_|refine eO ?_|apply jO)
   refine ZF mxd (ι:={ i:Nat // i≤e.args.length }) (fun i=>[(1,OcS (usEL (e.args.take i.1) (putO l (e.pos,e.name)))),(2,.rop 7 (Ex e)),(5,I i.1)]) (fun _ => []) (fun i=>e.args.length-i.1) ⟨0,by omega⟩ (by simp[E2,usEL]) rfl ?_
   rintro ⟨i,hi⟩
   rcases nL i e.args.length with h|h
   ·have e1:=wExL_step h
    have e2:=wExL_take e.args (i+1)
    have e3:=usEL_len (e.args.take i) (putO l (e.pos,e.name))
    have e4:(e.args.take i).length = i:=by simp;omega
    (refine V1 @XE ?_;with_reducible repeat' first|exact trivial|intro h|refine aO ?_|refine eO ?_|apply jO)
    all_goals try exact oF
    refine callS.eq (ih e.args[i] (gM _) _ (haw _ (gM _)) (by omega)) ?_
    (refine V1 @XE ?_;with_reducible repeat' first|exact trivial|intro h|refine aO ?_|refine eO ?_|apply jO)
    exact nx ⟨i+1,by omega⟩ (by simp;omega) (by simp[E2,usEL_step h]) rfl
   ·obtain rfl:i=e.args.length:=by omega
    (refine V1 @XE ?_;with_reducible repeat' first|exact trivial|intro h|refine aO ?_|refine eO ?_|apply jO)
    all_goals try exact oF
    rw[List.take_length]
 ·rw[if_neg hk]
  ·(refine V1 (jO @XE hk) ?_;with_reducible repeat' first|exact trivial|intro h|refine aO ?_|refine eO ?_|apply jO)
   all_goals try exact oF
   refine ZF mxd (ι:={ i:Nat // i≤e.args.length }) (fun i=>[(1,OcS (usEL (e.args.take i.1) l)),(2,.rop 7 (Ex e)),(5,I i.1)]) (fun _ => []) (fun i=>e.args.length-i.1) ⟨0,by omega⟩ (by simp[E2,usEL]) rfl ?_
   rintro ⟨i,hi⟩
   rcases nL i e.args.length with h|h
   ·have e1:=wExL_step h
    have e2:=wExL_take e.args (i+1)
    have e3:=usEL_len (e.args.take i) l
    have e4:(e.args.take i).length = i:=by simp;omega
    (refine V1 @XE ?_;with_reducible repeat' first|exact trivial|intro h|refine aO ?_|refine eO ?_|apply jO)
    all_goals try exact oF
    refine callS.eq (ih e.args[i] (gM _) _ (haw _ (gM _)) (by omega)) ?_
    (refine V1 @XE ?_;with_reducible repeat' first|exact trivial|intro h|refine aO ?_|refine eO ?_|apply jO)
    exact nx ⟨i+1,by omega⟩ (by simp;omega) (by simp[E2,usEL_step h]) rfl
   ·obtain rfl:i=e.args.length:=by omega
    (refine V1 @XE ?_;with_reducible repeat' first|exact trivial|intro h|refine aO ?_|refine eO ?_|apply jO)
    all_goals try exact oF
    rw[List.take_length]
theorem w183 (e:Exp) (hw:wEx e≤1048576):Pu 183 [Ex e] (· = OcS (usE e [])):=by
 refine ZY mxd i183 rfl (by simp) ?_;refine X0 ?_
 (refine V1 @XE ?_;with_reducible repeat' first|exact trivial|intro h|refine aO ?_|refine eO ?_|apply jO)
 refine callS.of (Pure.froz (w227 e [] hw (by simp;omega)) (.cons .refl (.cons (Bor.allM (l:=([]:List Oc)) (f:=Occ) (fun _ => rfl) Z4 rfl) .nil))) ?_
 rintro g H' ⟨rfl,rfl⟩ -
 (refine V1 @XE ?_;with_reducible repeat' first|exact trivial|intro h|refine aO ?_|refine eO ?_|apply jO)
end Go.Proofs.YtkmedfejmndmjaaGreat
