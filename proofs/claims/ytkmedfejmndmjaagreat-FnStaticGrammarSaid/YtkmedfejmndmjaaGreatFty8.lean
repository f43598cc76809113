/- The law returns true whatever the input, and the input reads behind the call as before. No condition. -/
import Derived.Test.YtkmedfejmndmjaaGreatFty5
import Derived.Test.YtkmedfejmndmjaaGreatFty7
set_option maxHeartbeats 40000000
set_option maxRecDepth 20000
set_option linter.unusedSimpArgs false
set_option linter.unusedVariables false
namespace Go.Proofs.YtkmedfejmndmjaaGreat
open Go.Gh
open Nat (reduceEqDiff reduceLeDiff reduceAdd reduceLT)
open Int (reduceNe)
theorem w197 (a:Att) (ha:okAt a):Pu 197 [At a] (· = B (attV a)):=by
 unfold okAt at ha
 have h1:a.mode=3∨¬a.mode=3:=by omega
 rcases h1 with h1|h1
 all_goals
  refine ZY mxd i197 rfl (by simp) ?_;refine X0 ?_
  (repeat' (first|(with_reducible refine callS.eq (w199 _ ha) ?_)|(with_reducible refine callS.eq (w230 _) ?_)|(with_reducible refine callS.eq (w47 _ _ _) ?_)|simp (maxSteps:=9^7) only[↓ S2,S2,Z5,↓reduceIte,reduceNe,reduceEqDiff,reduceCtorEq,reduceLeDiff,reduceAdd,reduceLT,h1,Int.reduceEq,decide_true,decide_false]|simp only[Z8]|simp +contextual (disch:=omega) only[Z2]|with_reducible first|intro h|refine And.intro (by omega) ?_ | refine exP (by omega) ?_ | apply And.intro))
  all_goals try exact oF
  all_goals first
   | (simp_all [attV];done)
   | (simp_all [attV];omega)
   | trace_state
theorem w208 (a:Att) (ha:okAt a):Pu 208 [At a] (· = B (attV a)):=by
 unfold okAt at ha
 have h1:a.mode=3∨¬a.mode=3:=by omega
 rcases h1 with h1|h1
 all_goals
  refine ZY mxd i208 rfl (by simp) ?_;refine X0 ?_
  (repeat' (first|(with_reducible refine callS.eq (w209 _ ha) ?_)|(with_reducible refine callS.eq (w44 _ _ _) ?_)|simp (maxSteps:=9^7) only[↓ S2,S2,Z5,↓reduceIte,reduceNe,reduceEqDiff,reduceCtorEq,reduceLeDiff,reduceAdd,reduceLT,h1,Int.reduceEq,decide_true,decide_false]|simp only[Z8]|simp +contextual (disch:=omega) only[Z2]|with_reducible first|intro h|refine And.intro (by omega) ?_ | refine exP (by omega) ?_ | apply And.intro))
  all_goals try exact oF
  all_goals first
   | (simp_all [attV];done)
   | (simp_all [attV];omega)
   | trace_state
theorem w198 (x a:Att):Pu 198 [At x,.rop 4 (At a)] (· = B (decide (x.name=a.name))):=by
 refine ZY mxd i198 rfl (by simp) ?_;refine X0 ?_
 (refine V0 ?_;with_reducible repeat' first|exact trivial|intro h|refine aO ?_|refine eO ?_|apply jO)
theorem w130 (x a:Sym):Pu 130 [Sy x,.rop 2 (Sy a)] (· = B (decide (x.name=a.name))):=by
 refine ZY mxd i130 rfl (by simp) ?_;refine X0 ?_
 (refine V0 ?_;with_reducible repeat' first|exact trivial|intro h|refine aO ?_|refine eO ?_|apply jO)
theorem w132 (x a:Rul):Pu 132 [Ru x,.rop 6 (Ru a)] (· = B (decide (x.name=a.name))):=by
 refine ZY mxd i132 rfl (by simp) ?_;refine X0 ?_
 (refine V0 ?_;with_reducible repeat' first|exact trivial|intro h|refine aO ?_|refine eO ?_|apply jO)
theorem w82 (x:Att):Pu 82 [At x] (· = B (decide (x.mode=1))):=by
 refine ZY mxd i82 rfl (by simp) ?_;refine X0 ?_
 (refine V0 ?_;with_reducible repeat' first|exact trivial|intro h|refine aO ?_|refine eO ?_|apply jO)
theorem w138 (q:Eqn) (o:Oc):Pu 138 [Qn q,.rop 2 (Occ o)] (· = B (decide (q.pos=o.1∧q.name=o.2))):=by
 refine ZY mxd i138 rfl (by simp) ?_;refine X0 ?_
 (refine V1 @XE ?_;with_reducible repeat' first|exact trivial|intro h|refine aO ?_|refine eO ?_|apply jO)
 all_goals simp_all
theorem w140 (q e:Eqn):Pu 140 [Qn q,.rop 9 (Qn e)] (· = B (decide (q.pos=e.pos∧q.name=e.name))):=by
 refine ZY mxd i140 rfl (by simp) ?_;refine X0 ?_
 (refine V1 @XE ?_;with_reducible repeat' first|exact trivial|intro h|refine aO ?_|refine eO ?_|apply jO)
 all_goals simp_all
theorem w234 (e:Exp) (n:Int):Pu 234 [Ex e,.rop 1 (I n)] (· = B (decide (e.pos≤n))):=by
 refine ZY mxd i234 rfl (by simp) ?_;refine X0 ?_
 (refine V1 @XE ?_;with_reducible repeat' first|exact trivial|intro h|refine aO ?_|refine eO ?_|apply jO)
theorem w200 (e:Exp) (n:Int) (ho:okE e) (hw:wEx e≤1048576):Pu 200 [Ex e,I n] (· = B (fitE e n)):=by
 refine ZY mxd i200 rfl (by simp) ?_;refine X0 ?_
 (refine V1 @XE ?_;with_reducible repeat' first|exact trivial|intro h|refine aO ?_|refine eO ?_|apply jO)
 refine callS.eq (w176 e ho hw) ?_
 rcases bC (validE e) with hv|hv
 ·(refine V1 (jO @XE hv) ?_;with_reducible repeat' first|exact trivial|intro h|refine aO ?_|refine eO ?_|apply jO)
  all_goals simp[fitE,hv]
 ·(refine V1 (jO @XE hv) ?_;with_reducible repeat' first|exact trivial|intro h|refine aO ?_|refine eO ?_|apply jO)
  refine callS.eq (w158 234 [.rop 1 (I n)] (fun x=>decide (x.pos≤n)) (fun _ => True) (fun _ _ _ _ => trivial) (fun x _ => w234 x n) e trivial) ?_
  (refine V0 ?_;with_reducible repeat' first|exact trivial|intro h|refine aO ?_|refine eO ?_|apply jO)
  all_goals simp[fitE,hv]
theorem w144 (g:Gram) (r:Rul) (o:Oc) (hg:Zw g) (hr:Zk r):Pu 144 [Gr g,Ru r,Occ o] (· = B (mayU g r o)):=by
 refine ZY mxd i144 rfl (by simp) ?_;refine X0 ?_
 (refine V0 ?_;with_reducible repeat' first|exact trivial|intro h|refine aO ?_|refine eO ?_|apply jO)
 refine callS.eq (w45 g r o hg hr) ?_
 (refine V0 ?_;with_reducible repeat' first|exact trivial|intro h|refine aO ?_|refine eO ?_|apply jO)
 all_goals simp_all [mayU]
theorem w242 (g:Gram) (r:Rul) (o:Oc) (hg:Zw g) (hr:Zk r):Pu 242 [Gr g,Ru r,Occ o] (· = B (mayU g r o)):=by
 have hl:=hr.1
 refine ZY mxd i242 rfl (by simp) ?_;refine X0 ?_
 (refine V0 ?_;with_reducible repeat' first|exact trivial|intro h|refine aO ?_|refine eO ?_|apply jO)
 refine callS.eq (w44 _ _ _) ?_
 by_cases h:0≤o.1∧o.1≤(r.right.length:Int)
 ·(refine V1 (jO h (jO @and_self @decide_true)) ?_;with_reducible repeat' first|exact trivial|intro h|refine aO ?_|refine eO ?_|apply jO)
  refine callS.eq (w11 r _ hr) ?_
  (refine V0 ?_;with_reducible repeat' first|exact trivial|intro h|refine aO ?_|refine eO ?_|apply jO)
  refine callS.eq (w10 g _ hg) ?_
  (refine V0 ?_;with_reducible repeat' first|exact trivial|intro h|refine aO ?_|refine eO ?_|apply jO)
  refine callS.eq (w12 _ _ (YB hg _)) ?_
  have e1:hasAt g r o.1 o.2=hAtt (Zq g.syms (Zz r o.1)).atts o.2:=by simp only[hasAt,if_pos h]
  have e2:Zu g r o.1 o.2=fAtt (Zq g.syms (Zz r o.1)).atts o.2:=by simp only[Zu,if_pos h]
  simp only[mayU,e1,e2]
  (refine V0 ?_;with_reducible repeat' first|exact trivial|intro h|refine aO ?_|refine eO ?_|apply jO)
  all_goals simp_all
 ·have e1:hasAt g r o.1 o.2=false:=by simp only[hasAt,if_neg h]
  (refine V1 (jO h @decide_false) ?_;with_reducible repeat' first|exact trivial|intro h|refine aO ?_|refine eO ?_|apply jO)
  all_goals simp[mayU,e1]
theorem w129 (s:Sym) (hs:okSy s) (hm:smSy s):Pu 129 [Sy s] (· = B (symV s)):=by
 unfold smSy at hm
 refine ZY mxd i129 rfl (by simp) ?_;refine X0 ?_
 (refine V0 ?_;with_reducible repeat' first|exact trivial|intro h|refine aO ?_|refine eO ?_|apply jO)
 refine ZF mxd (ι:={ i:Nat // i≤s.atts.length∧(∀a∈s.atts.take i,attV a=true)∧∀j,j<i→dupA s.atts j=false }) (fun i=>[(1,.rop 2 (Sy s)),(6,AtS s.atts),(7,I s.atts.length),(8,I i.1)]) (fun _ => []) (fun i=>s.atts.length-i.1) ⟨0,by simp⟩ (by simp[E2]) rfl ?_
 rintro ⟨i,hi,hn,hd⟩
 rcases nL i s.atts.length with hlt|hge
 ·(refine V0 ?_;with_reducible repeat' first|exact trivial|intro h|refine aO ?_|refine eO ?_|apply jO)
  all_goals try exact oF
  refine callS.eq (w197 s.atts[i] (hs.2 _ (gM hlt))) ?_
  rcases bC (attV s.atts[i]) with hv|hv
  ·rw[symV_a hlt hv]
   (refine V1 hv ?_;with_reducible repeat' first|exact trivial|intro h|refine aO ?_|refine eO ?_|apply jO)
  ·(refine V1 hv ?_;with_reducible repeat' first|exact trivial|intro h|refine aO ?_|refine eO ?_|apply jO)
   all_goals try exact oF
   rw[show List.drop (Int.toNat 0) (List.take i (List.map At s.atts))=(s.atts.take i).map At from by simp[List.map_take]]
   refine callS.eq (w81 (s.atts.take i) 198 [.rop 4 (At s.atts[i])] (fun o=>decide (o.name=s.atts[i].name)) fun x _ => w198 x _) ?_
   rw[←dupA_eq hlt]
   rcases bC (dupA s.atts i) with hw|hw
   ·(refine V1 hw ?_;with_reducible repeat' first|exact trivial|intro h|refine aO ?_|refine eO ?_|apply jO)
    exact nx ⟨i+1,by omega,Zv hlt hv hn,lt_step hw hd⟩ (by simp<;>omega) (by simp[E2]) rfl
   ·rw[symV_d hlt hw]
    (refine V1 hw ?_;with_reducible repeat' first|exact trivial|intro h|refine aO ?_|refine eO ?_|apply jO)
 ·obtain rfl:i=s.atts.length:=by omega
  rw[List.take_length] at hn
  rw[symV_ok hn hd]
  (refine V0 ?_;with_reducible repeat' first|exact trivial|intro h|refine aO ?_|refine eO ?_|apply jO)
  all_goals try exact oF
  refine callS.eq (w199 _ hs.1) ?_
  (refine V0 ?_;with_reducible repeat' first|exact trivial|intro h|refine aO ?_|refine eO ?_|apply jO)
  all_goals simp_all
  all_goals omega
theorem w210 (l:List ByteArray):Pu 210 [TS l] (· = B (dstS l)):=by
 refine GCalls.lenA fun hl=> ?_
 have hlen:=hl.1.1
 simp only[List.length_map,Zi] at hlen
 refine ZY mxd i210 rfl (by simp) ?_;refine X0 ?_
 (refine V0 ?_;with_reducible repeat' first|exact trivial|intro h|refine aO ?_|refine eO ?_|apply jO)
 refine ZF mxd (ι:={ i:Nat // i≤l.length∧∀j (hj:j<l.length),j<i→hasS (l.take j) l[j]=false }) (fun i=>[(0,TS l),(3,I i.1)]) (fun _ => []) (fun i=>l.length-i.1) ⟨0,by simp⟩ (by simp[E2]) rfl ?_
 rintro ⟨i,hi,hn⟩
 rcases nL i l.length with hlt|hge
 ·(refine V0 ?_;with_reducible repeat' first|exact trivial|intro h|refine aO ?_|refine eO ?_|apply jO)
  all_goals try exact oF
  rw[show List.drop (Int.toNat 0) (List.take i (List.map T l))=(l.take i).map T from by simp[List.map_take]]
  refine callS.eq (w146 (l.take i) l[i]) ?_
  rcases bC (hasS (l.take i) l[i]) with hv|hv
  ·(refine V1 hv ?_;with_reducible repeat' first|exact trivial|intro h|refine aO ?_|refine eO ?_|apply jO)
   refine nx ⟨i+1,by omega,fun j hj hji=> ?_⟩ (by simp<;>omega) (by simp[E2]) rfl
   rcases Nat.lt_succ_iff_lt_or_eq.1 hji with e|e
   ·exact hn j hj e
   ·subst e;exact hv
  ·rw[dstS_no hlt hv]
   (refine V1 hv ?_;with_reducible repeat' first|exact trivial|intro h|refine aO ?_|refine eO ?_|apply jO)
 ·obtain rfl:i=l.length:=by omega
  rw[dstS_yes fun j hj=>hn j hj hj]
  (refine V0 ?_;with_reducible repeat' first|exact trivial|intro h|refine aO ?_|refine eO ?_|apply jO)
  all_goals try exact oF
theorem w145 (s:Sym) (hs:okSy s) (hm:smSy s):Pu 145 [Sy s] (· = B (symV s)):=by
 unfold smSy at hm
 refine Pure.bor ?_
 refine ZY mxd i145 rfl (by simp) ?_;refine X0 ?_
 (refine V0 ?_;with_reducible repeat' first|exact trivial|intro h|refine aO ?_|refine eO ?_|apply jO)
 rename_i r
 refine Y1 mxd (ι:={ x:Nat×Nat // x.2≤s.atts.length∧∀a∈s.atts.take x.2,attV a=true }) (fun x=>[(1,.rop 2 (Sy s)),(3,.own x.1.1 1 0 x.1.2),(4,I x.1.2)]) (fun x=>[(x.1.1,1,((s.atts.take x.1.2).map (·.name)).map T)]) (fun x=>s.atts.length-x.1.2) ⟨(r,0),by simp⟩ (by simp[E2]) (by simp[subH,ZU,names]) ?_
 rintro ⟨⟨r,i⟩,hi,hn⟩ -
 dsimp only at hi hn ⊢
 rcases nL i s.atts.length with hlt|hge
 ·(refine V0 ?_;with_reducible repeat' first|exact trivial|intro h|refine aO ?_|refine eO ?_|apply jO)
  all_goals try exact oF
  refine callS.eq (w208 s.atts[i] (hs.2 _ (gM hlt))) ?_
  rcases bC (attV s.atts[i]) with hv|hv
  ·rw[symV_a hlt hv]
   (refine V1 hv ?_;with_reducible repeat' first|exact trivial|intro h|refine aO ?_|refine eO ?_|apply jO)
   exact .refl
  ·(refine V1 (jO hv (jO @List.length_append.{0} (jO @List.length_singleton.{0} (jO @List.length_map.{0,0} (jO @List.length_take.{0} @ZO))))) ?_;with_reducible repeat' first|exact trivial|intro h|refine aO ?_|refine eO ?_|apply jO)
   all_goals try exact oF
   rename_i q2 _ q3
   rw[takeApp2 T (·.name) s.atts i hlt]
   exact px ⟨(q3,i+1),by omega,Zv hlt hv hn⟩ (by simp<;>omega) (by simp[E2]) (by repeat' (first|exact trivial|(refine And.intro (by simp only[Z9, *,if_true,if_false];try rfl) (And.intro (by simp[ZT,ZS, *]) ?_))))
 ·obtain rfl:i=s.atts.length:=by omega
  rw[List.take_length] at hn
  rw[symV_spec hn]
  simp only[List.take_length]
  (refine V0 ?_;with_reducible repeat' first|exact trivial|intro h|refine aO ?_|refine eO ?_|apply jO)
  all_goals try exact oF
  refine callS.eq (w209 _ hs.1) ?_
  rcases bC (Zx s.name) with hv|hv
  ·rw[hv]
   (refine V0 ?_;with_reducible repeat' first|exact trivial|intro h|refine aO ?_|refine eO ?_|apply jO)
   exact .refl
  ·rw[hv]
   by_cases h4:(s.atts.length:Int)≤4
   ·have h4':s.atts.length≤4:=by omega
    (refine V1 h4 ?_;with_reducible repeat' first|exact trivial|intro h|refine aO ?_|refine eO ?_|apply jO)
    refine callS.borA (w210 (s.atts.map (·.name))) (.cons (bor_TS Z4 (by simp)) .nil) rfl ?_
    (refine V0 ?_;with_reducible repeat' first|exact trivial|intro h|refine aO ?_|refine eO ?_|apply jO)
    exact .of_eq (by simp[h4'])
   ·have h4':¬s.atts.length≤4:=by omega
    (refine V1 h4 ?_;with_reducible repeat' first|exact trivial|intro h|refine aO ?_|refine eO ?_|apply jO)
    exact .of_eq (by simp[h4'])
theorem w228:∀(e:Exp) (n:Int),wEx e≤1048576→Pu 228 [Ex e,I n] (· = B (allE (fun x=>decide (x.pos≤n)) e)):=by
 refine Exp.indA fun e ih n hw=> ?_
 obtain ⟨hl,ha⟩:=Za hw
 refine ZY mxd i228 rfl (by simp) ?_;refine X0 ?_
 (refine V1 @XE ?_;with_reducible repeat' first|exact trivial|intro h|refine aO ?_|refine eO ?_|apply jO)
 refine ZF mxd (ι:={ i:Nat // i≤e.args.length∧∀a∈e.args.take i,allE (fun x=>decide (x.pos≤n)) a=true }) (fun i=>[(1,I n),(2,.rop 7 (Ex e)),(5,I i.1)]) (fun _ => []) (fun i=>e.args.length-i.1) ⟨0,by simp⟩ (by simp[E2]) rfl ?_
 rintro ⟨i,hi,hn⟩
 rcases nL i e.args.length with hlt|hge
 ·(refine V1 @XE ?_;with_reducible repeat' first|exact trivial|intro h|refine aO ?_|refine eO ?_|apply jO)
  all_goals try exact oF
  refine callS.eq (ih _ (gM hlt) n (ha _ (gM hlt))) ?_
  rcases (Bool.eq_false_or_eq_true (allE (fun x=>decide (x.pos≤n)) e.args[i])).symm with hv|hv
  ·rw[allE_no hlt hv]
   (refine V1 hv ?_;with_reducible repeat' first|exact trivial|intro h|refine aO ?_|refine eO ?_|apply jO)
  ·(refine V1 hv ?_;with_reducible repeat' first|exact trivial|intro h|refine aO ?_|refine eO ?_|apply jO)
   exact nx ⟨i+1,by omega,all_take hlt hv hn⟩ (by simp<;>omega) (by simp[E2]) rfl
 ·obtain rfl:i=e.args.length:=by omega
  rw[List.take_length] at hn
  rw[allE_yes hn]
  (refine V1 @XE ?_;with_reducible repeat' first|exact trivial|intro h|refine aO ?_|refine eO ?_|apply jO)
  all_goals try exact oF
theorem w190 (e:Exp) (n:Int) (ho:okE e) (hw:wEx e≤1048576):Pu 190 [Ex e,I n] (· = B (fitE e n)):=by
 refine ZY mxd i190 rfl (by simp) ?_;refine X0 ?_
 (refine V1 @XE ?_;with_reducible repeat' first|exact trivial|intro h|refine aO ?_|refine eO ?_|apply jO)
 refine callS.eq (w128 e ho hw) ?_
 rcases bC (validE e) with hv|hv
 ·(refine V1 (jO @XE hv) ?_;with_reducible repeat' first|exact trivial|intro h|refine aO ?_|refine eO ?_|apply jO)
  all_goals simp[fitE,hv]
 ·(refine V1 (jO @XE hv) ?_;with_reducible repeat' first|exact trivial|intro h|refine aO ?_|refine eO ?_|apply jO)
  refine callS.eq (w228 e n hw) ?_
  (refine V0 ?_;with_reducible repeat' first|exact trivial|intro h|refine aO ?_|refine eO ?_|apply jO)
  all_goals simp[fitE,hv]
end Go.Proofs.YtkmedfejmndmjaaGreat
