/- The law FnStaticTypes returns true whatever the input, and the input reads behind the call as before. No condition. -/
import Derived.Test.YtkmedfejmndmjaaGreatFst7
set_option maxHeartbeats 40000000
set_option maxRecDepth 20000
set_option linter.unusedSimpArgs false
set_option linter.unusedVariables false
namespace Go.Proofs.YtkmedfejmndmjaaGreat
open Go.Gh
open Nat (reduceEqDiff reduceLeDiff reduceAdd reduceLT)
open Int (reduceNe)
theorem w160 (t:List Sym) (f:Nat) (cs:List GV) (p:Sym→Bool) (hp:∀x∈t,Pu f (Sy x::cs) (· = B (p x))) :
 Pu 160 [SyS t,.clo f cs] (· = I (Zt p t)):=by
 refine GCalls.lenA fun hl=> ?_
 have hlen:=hl.1.1
 simp only[List.length_map,Zc] at hlen
 refine Z5 mxd i160 rfl (by simp) ?_;refine X0 ?_
 (refine V0 ?_)
 refine ZL mxd (ι:={ i:Nat // i≤t.length∧∀y∈t.take i,p y=false }) (fun i=>[(0,SyS t),(1,.clo f cs),(7,I t.length),(8,I i.1)]) (fun _ => []) (fun i=>t.length-i.1) ⟨0,by simp⟩ (by simp[E2]) rfl ?_
 rintro ⟨i,hi,hn⟩
 rcases nL i t.length with hlt|hge
 ·(refine V1 @XE ?_;with_reducible repeat' first|intro h|apply jO)
  all_goals try exact oF
  refine callS.eq (hp t[i] (gM hlt)) ?_
  by_cases hb:p t[i]=true
  ·have e:=YP hlt hb hn
   rw[e]
   (refine V1 hb ?_;with_reducible repeat' exact trivial)
  ·have hb':p t[i]=false:=by simpa using hb
   (refine V1 hb' ?_)
   exact nx ⟨i+1,oT,Zn hlt hb' hn⟩ (by simp<;>omega) (by simp[E2]) rfl
 ·obtain rfl:i=t.length:=by omega
  rw[List.take_length] at hn
  rw[YO hn]
  (refine V0 ?_;with_reducible repeat' intro h)
  all_goals first|(exfalso;omega)|skip
theorem w99 (t:List Sym) (f:Nat) (cs:List GV) (p:Sym→Bool) (hp:∀x∈t,Pu f (Sy x::cs) (· = B (p x))) :
 Pu 99 [SyS t,.clo f cs] (· = B (t.any p)):=by
 refine Z5 mxd i99 rfl (by simp) ?_;refine X0 ?_
 refine callS.eq (w160 t f cs p hp) ?_
 (refine R0 ?_)
 rw[←any_ix]
theorem w156 (t:List Rul) (f:Nat) (cs:List GV) (p:Rul→Bool) (hp:∀x∈t,Pu f (Ru x::cs) (· = B (p x))) :
 Pu 156 [RuS t,.clo f cs] (· = I (Zt p t)):=by
 refine GCalls.lenA fun hl=> ?_
 have hlen:=hl.1.1
 simp only[List.length_map,Zc] at hlen
 refine Z5 mxd i156 rfl (by simp) ?_;refine X0 ?_
 (refine V0 ?_)
 refine ZL mxd (ι:={ i:Nat // i≤t.length∧∀y∈t.take i,p y=false }) (fun i=>[(0,RuS t),(1,.clo f cs),(7,I t.length),(8,I i.1)]) (fun _ => []) (fun i=>t.length-i.1) ⟨0,by simp⟩ (by simp[E2]) rfl ?_
 rintro ⟨i,hi,hn⟩
 rcases nL i t.length with hlt|hge
 ·(refine V1 @XE ?_;with_reducible repeat' first|intro h|apply jO)
  all_goals try exact oF
  refine callS.eq (hp t[i] (gM hlt)) ?_
  by_cases hb:p t[i]=true
  ·have e:=YP hlt hb hn
   rw[e]
   (refine V1 hb ?_;with_reducible repeat' exact trivial)
  ·have hb':p t[i]=false:=by simpa using hb
   (refine V1 hb' ?_)
   exact nx ⟨i+1,oT,Zn hlt hb' hn⟩ (by simp<;>omega) (by simp[E2]) rfl
 ·obtain rfl:i=t.length:=by omega
  rw[List.take_length] at hn
  rw[YO hn]
  (refine V0 ?_;with_reducible repeat' intro h)
  all_goals first|(exfalso;omega)|skip
theorem w94 (t:List Rul) (f:Nat) (cs:List GV) (p:Rul→Bool) (hp:∀x∈t,Pu f (Ru x::cs) (· = B (p x))) :
 Pu 94 [RuS t,.clo f cs] (· = B (t.any p)):=by
 refine Z5 mxd i94 rfl (by simp) ?_;refine X0 ?_
 refine callS.eq (w156 t f cs p hp) ?_
 (refine R0 ?_)
 rw[←any_ix]
theorem w133 (t:List Att) (f:Nat) (cs:List GV) (p:Att→Bool) (hp:∀x∈t,Pu f (At x::cs) (· = B (p x))) :
 Pu 133 [AtS t,.clo f cs] (· = I (Zt p t)):=by
 refine GCalls.lenA fun hl=> ?_
 have hlen:=hl.1.1
 simp only[List.length_map,Zc] at hlen
 refine Z5 mxd i133 rfl (by simp) ?_;refine X0 ?_
 (refine V0 ?_)
 refine ZL mxd (ι:={ i:Nat // i≤t.length∧∀y∈t.take i,p y=false }) (fun i=>[(0,AtS t),(1,.clo f cs),(7,I t.length),(8,I i.1)]) (fun _ => []) (fun i=>t.length-i.1) ⟨0,by simp⟩ (by simp[E2]) rfl ?_
 rintro ⟨i,hi,hn⟩
 rcases nL i t.length with hlt|hge
 ·(refine V1 @XE ?_;with_reducible repeat' first|intro h|apply jO)
  all_goals try exact oF
  refine callS.eq (hp t[i] (gM hlt)) ?_
  by_cases hb:p t[i]=true
  ·have e:=YP hlt hb hn
   rw[e]
   (refine V1 hb ?_;with_reducible repeat' exact trivial)
  ·have hb':p t[i]=false:=by simpa using hb
   (refine V1 hb' ?_)
   exact nx ⟨i+1,oT,Zn hlt hb' hn⟩ (by simp<;>omega) (by simp[E2]) rfl
 ·obtain rfl:i=t.length:=by omega
  rw[List.take_length] at hn
  rw[YO hn]
  (refine V0 ?_;with_reducible repeat' intro h)
  all_goals first|(exfalso;omega)|skip
theorem w81 (t:List Att) (f:Nat) (cs:List GV) (p:Att→Bool) (hp:∀x∈t,Pu f (At x::cs) (· = B (p x))) :
 Pu 81 [AtS t,.clo f cs] (· = B (t.any p)):=by
 refine Z5 mxd i81 rfl (by simp) ?_;refine X0 ?_
 refine callS.eq (w133 t f cs p hp) ?_
 (refine R0 ?_)
 rw[←any_ix]
theorem w201 (t:List Oc) (f:Nat) (cs:List GV) (p:Oc→Bool) (hp:∀x∈t,Pu f (Occ x::cs) (· = B (p x))) :
 Pu 201 [OcS t,.clo f cs] (· = I (Zt p t)):=by
 refine GCalls.lenA fun hl=> ?_
 have hlen:=hl.1.1
 simp only[List.length_map,Zc] at hlen
 refine Z5 mxd i201 rfl (by simp) ?_;refine X0 ?_
 (refine V0 ?_)
 refine ZL mxd (ι:={ i:Nat // i≤t.length∧∀y∈t.take i,p y=false }) (fun i=>[(0,OcS t),(1,.clo f cs),(7,I t.length),(8,I i.1)]) (fun _ => []) (fun i=>t.length-i.1) ⟨0,by simp⟩ (by simp[E2]) rfl ?_
 rintro ⟨i,hi,hn⟩
 rcases nL i t.length with hlt|hge
 ·(refine V1 @XE ?_;with_reducible repeat' first|intro h|apply jO)
  all_goals try exact oF
  refine callS.eq (hp t[i] (gM hlt)) ?_
  by_cases hb:p t[i]=true
  ·have e:=YP hlt hb hn
   rw[e]
   (refine V1 hb ?_;with_reducible repeat' exact trivial)
  ·have hb':p t[i]=false:=by simpa using hb
   (refine V1 hb' ?_)
   exact nx ⟨i+1,oT,Zn hlt hb' hn⟩ (by simp<;>omega) (by simp[E2]) rfl
 ·obtain rfl:i=t.length:=by omega
  rw[List.take_length] at hn
  rw[YO hn]
  (refine V0 ?_;with_reducible repeat' intro h)
  all_goals first|(exfalso;omega)|skip
theorem w134 (t:List Oc) (f:Nat) (cs:List GV) (p:Oc→Bool) (hp:∀x∈t,Pu f (Occ x::cs) (· = B (p x))) :
 Pu 134 [OcS t,.clo f cs] (· = B (t.any p)):=by
 refine Z5 mxd i134 rfl (by simp) ?_;refine X0 ?_
 refine callS.eq (w201 t f cs p hp) ?_
 (refine R0 ?_)
 rw[←any_ix]
theorem w202 (t:List Eqn) (f:Nat) (cs:List GV) (p:Eqn→Bool) (hp:∀x∈t,Pu f (Qn x::cs) (· = B (p x))) :
 Pu 202 [QnS t,.clo f cs] (· = I (Zt p t)):=by
 refine GCalls.lenA fun hl=> ?_
 have hlen:=hl.1.1
 simp only[List.length_map,Zc] at hlen
 refine Z5 mxd i202 rfl (by simp) ?_;refine X0 ?_
 (refine V0 ?_)
 refine ZL mxd (ι:={ i:Nat // i≤t.length∧∀y∈t.take i,p y=false }) (fun i=>[(0,QnS t),(1,.clo f cs),(7,I t.length),(8,I i.1)]) (fun _ => []) (fun i=>t.length-i.1) ⟨0,by simp⟩ (by simp[E2]) rfl ?_
 rintro ⟨i,hi,hn⟩
 rcases nL i t.length with hlt|hge
 ·(refine V1 @XE ?_;with_reducible repeat' first|intro h|apply jO)
  all_goals try exact oF
  refine callS.eq (hp t[i] (gM hlt)) ?_
  by_cases hb:p t[i]=true
  ·have e:=YP hlt hb hn
   rw[e]
   (refine V1 hb ?_;with_reducible repeat' exact trivial)
  ·have hb':p t[i]=false:=by simpa using hb
   (refine V1 hb' ?_)
   exact nx ⟨i+1,oT,Zn hlt hb' hn⟩ (by simp<;>omega) (by simp[E2]) rfl
 ·obtain rfl:i=t.length:=by omega
  rw[List.take_length] at hn
  rw[YO hn]
  (refine V0 ?_;with_reducible repeat' intro h)
  all_goals first|(exfalso;omega)|skip
theorem w137 (t:List Eqn) (f:Nat) (cs:List GV) (p:Eqn→Bool) (hp:∀x∈t,Pu f (Qn x::cs) (· = B (p x))) :
 Pu 137 [QnS t,.clo f cs] (· = B (t.any p)):=by
 refine Z5 mxd i137 rfl (by simp) ?_;refine X0 ?_
 refine callS.eq (w202 t f cs p hp) ?_
 (refine R0 ?_)
 rw[←any_ix]
theorem w197 (a:Att) (ha:okAt a):Pu 197 [At a] (· = B (attV a)):=by
 unfold okAt at ha
 have h1:a.mode=3∨¬a.mode=3:=by omega
 rcases h1 with h1|h1
 all_goals
  refine Z5 mxd i197 rfl (by simp) ?_;refine X0 ?_
  (repeat' (first|(with_reducible refine callS.eq (w199 _ ha) ?_)|(with_reducible refine callS.eq (w230 _) ?_)|(with_reducible refine callS.eq (w47 _ _ _) ?_)|simp (maxSteps:=9^7) only[↓ S2,S2,ZF,↓reduceIte,reduceNe,reduceEqDiff,reduceCtorEq,reduceLeDiff,reduceAdd,reduceLT,h1,Int.reduceEq,decide_true,decide_false]|simp only[ZQ]|simp +contextual (disch:=omega) only[Z2]|with_reducible first|intro h|refine jO oT ?_ | refine exP oT ?_ | apply jO))
  all_goals try exact oF
  all_goals first
   | (simp_all [attV];done)
   | (simp_all [attV];omega)
   | trace_state
theorem w208 (a:Att) (ha:okAt a):Pu 208 [At a] (· = B (attV a)):=by
 unfold okAt at ha
 have h1:a.mode=3∨¬a.mode=3:=by omega
 rcases h1 with h1|h1
 all_goals
  refine Z5 mxd i208 rfl (by simp) ?_;refine X0 ?_
  (repeat' (first|(with_reducible refine callS.eq (w209 _ ha) ?_)|(with_reducible refine callS.eq (w44 _ _ _) ?_)|simp (maxSteps:=9^7) only[↓ S2,S2,ZF,↓reduceIte,reduceNe,reduceEqDiff,reduceCtorEq,reduceLeDiff,reduceAdd,reduceLT,h1,Int.reduceEq,decide_true,decide_false]|simp only[ZQ]|simp +contextual (disch:=omega) only[Z2]|with_reducible first|intro h|refine jO oT ?_ | refine exP oT ?_ | apply jO))
  all_goals try exact oF
  all_goals first
   | (simp_all [attV];done)
   | (simp_all [attV];omega)
   | trace_state
theorem w198 (x a:Att):Pu 198 [At x,.rop 4 (At a)] (· = B (decide (x.name=a.name))):=by
 refine Z5 mxd i198 rfl (by simp) ?_;refine X0 ?_
 (refine V0 ?_;with_reducible repeat' exact trivial)
theorem w130 (x a:Sym):Pu 130 [Sy x,.rop 2 (Sy a)] (· = B (decide (x.name=a.name))):=by
 refine Z5 mxd i130 rfl (by simp) ?_;refine X0 ?_
 (refine V0 ?_;with_reducible repeat' exact trivial)
theorem w132 (x a:Rul):Pu 132 [Ru x,.rop 6 (Ru a)] (· = B (decide (x.name=a.name))):=by
 refine Z5 mxd i132 rfl (by simp) ?_;refine X0 ?_
 (refine V0 ?_;with_reducible repeat' exact trivial)
theorem w82 (x:Att):Pu 82 [At x] (· = B (decide (x.mode=1))):=by
 refine Z5 mxd i82 rfl (by simp) ?_;refine X0 ?_
 (refine V0 ?_;with_reducible repeat' exact trivial)
theorem w138 (q:Eqn) (o:Oc):Pu 138 [Qn q,.rop 2 (Occ o)] (· = B (decide (q.pos=o.1∧q.name=o.2))):=by
 refine Z5 mxd i138 rfl (by simp) ?_;refine X0 ?_
 (refine V1 @XE ?_)
 all_goals simp_all
theorem w140 (q e:Eqn):Pu 140 [Qn q,.rop 9 (Qn e)] (· = B (decide (q.pos=e.pos∧q.name=e.name))):=by
 refine Z5 mxd i140 rfl (by simp) ?_;refine X0 ?_
 (refine V1 @XE ?_)
 all_goals simp_all
theorem w234 (e:Exp) (n:Int):Pu 234 [Ex e,.rop 1 (I n)] (· = B (decide (e.pos≤n))):=by
 refine Z5 mxd i234 rfl (by simp) ?_;refine X0 ?_
 (refine V1 @XE ?_;with_reducible repeat' exact trivial)
theorem w200 (e:Exp) (n:Int) (ho:okE e) (hw:wEx e≤1048576):Pu 200 [Ex e,I n] (· = B (fitE e n)):=by
 refine Z5 mxd i200 rfl (by simp) ?_;refine X0 ?_
 (refine V1 @XE ?_)
 refine callS.eq (w176 e ho hw) ?_
 rcases bC (validE e) with hv|hv
 ·(refine V1 (jO @XE hv) ?_)
  all_goals simp[fitE,hv]
 ·(refine V1 (jO @XE hv) ?_)
  refine callS.eq (w158 234 [.rop 1 (I n)] (fun x=>decide (x.pos≤n)) (fun _ => True) (fun _ _ _ _ => trivial) (fun x _ => w234 x n) e trivial) ?_
  (refine V0 ?_)
  all_goals simp[fitE,hv]
theorem w144 (g:Gram) (r:Rul) (o:Oc) (hg:ZE g) (hr:Y7 r):Pu 144 [Gr g,Ru r,Occ o] (· = B (mayU g r o)):=by
 refine Z5 mxd i144 rfl (by simp) ?_;refine X0 ?_
 (refine V0 ?_)
 refine callS.eq (w45 g r o hg hr) ?_
 (refine V0 ?_;with_reducible repeat' first|intro h|apply jO)
 all_goals simp_all [mayU]
theorem w242 (g:Gram) (r:Rul) (o:Oc) (hg:ZE g) (hr:Y7 r):Pu 242 [Gr g,Ru r,Occ o] (· = B (mayU g r o)):=by
 have hl:=hr.1
 refine Z5 mxd i242 rfl (by simp) ?_;refine X0 ?_
 (refine V0 ?_)
 refine callS.eq (w44 _ _ _) ?_
 by_cases h:0≤o.1∧o.1≤(r.right.length:Int)
 ·(refine V1 (jO h (jO @and_self @decide_true)) ?_)
  refine callS.eq (w11 r _ hr) ?_
  (refine V0 ?_)
  refine callS.eq (w10 g _ hg) ?_
  (refine V0 ?_)
  refine callS.eq (w12 _ _ (YR hg _)) ?_
  have e1:hasAt g r o.1 o.2=hAtt (Zy g.syms (Zw r o.1)).atts o.2:=by simp only[hasAt,if_pos h]
  have e2:Zk g r o.1 o.2=YE (Zy g.syms (Zw r o.1)).atts o.2:=by simp only[Zk,if_pos h]
  simp only[mayU,e1,e2]
  (refine V0 ?_;with_reducible repeat' first|intro h|apply jO)
  all_goals simp_all
 ·have e1:hasAt g r o.1 o.2=false:=by simp only[hasAt,if_neg h]
  (refine V1 (jO h @decide_false) ?_)
  all_goals simp[mayU,e1]
theorem w129 (s:Sym) (hs:okSy s) (hm:Yy s):Pu 129 [Sy s] (· = B (symV s)):=by
 unfold Yy at hm
 refine Z5 mxd i129 rfl (by simp) ?_;refine X0 ?_
 (refine V0 ?_)
 refine ZL mxd (ι:={ i:Nat // i≤s.atts.length∧(∀a∈s.atts.take i,attV a=true)∧∀j,j<i→dupA s.atts j=false }) (fun i=>[(1,.rop 2 (Sy s)),(6,AtS s.atts),(7,I s.atts.length),(8,I i.1)]) (fun _ => []) (fun i=>s.atts.length-i.1) ⟨0,by simp⟩ (by simp[E2]) rfl ?_
 rintro ⟨i,hi,hn,hd⟩
 rcases nL i s.atts.length with hlt|hge
 ·(refine V0 ?_;with_reducible repeat' first|intro h|apply jO)
  all_goals try exact oF
  refine callS.eq (w197 s.atts[i] (hs.2 _ (gM hlt))) ?_
  rcases bC (attV s.atts[i]) with hv|hv
  ·rw[symV_a hlt hv]
   (refine V1 hv ?_;with_reducible repeat' exact trivial)
  ·(refine V1 hv ?_)
   all_goals try exact oF
   rw[show List.drop (Int.toNat 0) (List.take i (List.map At s.atts))=(s.atts.take i).map At from by simp[List.map_take]]
   refine callS.eq (w81 (s.atts.take i) 198 [.rop 4 (At s.atts[i])] (fun o=>decide (o.name=s.atts[i].name)) fun x _ => w198 x _) ?_
   rw[←dupA_eq hlt]
   rcases bC (dupA s.atts i) with hw|hw
   ·(refine V1 hw ?_)
    exact nx ⟨i+1,oT,Zi hlt hv hn,lt_step hw hd⟩ (by simp<;>omega) (by simp[E2]) rfl
   ·rw[symV_d hlt hw]
    (refine V1 hw ?_;with_reducible repeat' exact trivial)
 ·obtain rfl:i=s.atts.length:=by omega
  rw[List.take_length] at hn
  rw[symV_ok hn hd]
  (refine V0 ?_;with_reducible repeat' intro h)
  all_goals try exact oF
  refine callS.eq (w199 _ hs.1) ?_
  (refine V0 ?_;with_reducible repeat' first|intro h|apply jO)
  all_goals simp_all
  all_goals omega
theorem w210 (l:List ByteArray):Pu 210 [TS l] (· = B (dstS l)):=by
 refine GCalls.lenA fun hl=> ?_
 have hlen:=hl.1.1
 simp only[List.length_map,Zc] at hlen
 refine Z5 mxd i210 rfl (by simp) ?_;refine X0 ?_
 (refine V0 ?_)
 refine ZL mxd (ι:={ i:Nat // i≤l.length∧∀j (hj:j<l.length),j<i→hasS (l.take j) l[j]=false }) (fun i=>[(0,TS l),(3,I i.1)]) (fun _ => []) (fun i=>l.length-i.1) ⟨0,by simp⟩ (by simp[E2]) rfl ?_
 rintro ⟨i,hi,hn⟩
 rcases nL i l.length with hlt|hge
 ·(refine V0 ?_;with_reducible repeat' first|intro h|refine aO ?_|apply jO)
  all_goals try exact oF
  rw[show List.drop (Int.toNat 0) (List.take i (List.map T l))=(l.take i).map T from by simp[List.map_take]]
  refine callS.eq (w146 (l.take i) l[i]) ?_
  rcases bC (hasS (l.take i) l[i]) with hv|hv
  ·(refine V1 hv ?_)
   refine nx ⟨i+1,oT,fun j hj hji=> ?_⟩ (by simp<;>omega) (by simp[E2]) rfl
   rcases Nat.lt_succ_iff_lt_or_eq.1 hji with e|e
   ·exact hn j hj e
   ·subst e;exact hv
  ·rw[dstS_no hlt hv]
   (refine V1 hv ?_;with_reducible repeat' exact trivial)
 ·obtain rfl:i=l.length:=by omega
  rw[dstS_yes fun j hj=>hn j hj hj]
  (refine V0 ?_;with_reducible repeat' first|intro h|refine aO ?_)
  all_goals try exact oF
theorem w145 (s:Sym) (hs:okSy s) (hm:Yy s):Pu 145 [Sy s] (· = B (symV s)):=by
 unfold Yy at hm
 refine Pure.bor ?_
 refine Z5 mxd i145 rfl (by simp) ?_;refine X0 ?_
 (refine V0 ?_;with_reducible repeat' intro h)
 rename_i r
 refine Y1 mxd (ι:={ x:Nat×Nat // x.2≤s.atts.length∧∀a∈s.atts.take x.2,attV a=true }) (fun x=>[(1,.rop 2 (Sy s)),(3,.own x.1.1 1 0 x.1.2),(4,I x.1.2)]) (fun x=>[(x.1.1,1,((s.atts.take x.1.2).map (·.name)).map T)]) (fun x=>s.atts.length-x.1.2) ⟨(r,0),by simp⟩ (by simp[E2]) (by simp[subH,ZV,names]) ?_
 rintro ⟨⟨r,i⟩,hi,hn⟩ -
 dsimp only at hi hn ⊢
 rcases nL i s.atts.length with hlt|hge
 ·(refine V0 ?_;with_reducible repeat' first|intro h|apply jO)
  all_goals try exact oF
  refine callS.eq (w208 s.atts[i] (hs.2 _ (gM hlt))) ?_
  rcases bC (attV s.atts[i]) with hv|hv
  ·rw[symV_a hlt hv]
   (refine V1 hv ?_)
   exact .refl
  ·(refine V1 (jO hv (jO @List.length_append.{0} (jO @List.length_singleton.{0} (jO @List.length_map.{0,0} (jO @List.length_take.{0} @ZM))))) ?_;with_reducible repeat' first|intro h|refine aO ?_)
   all_goals try exact oF
   rename_i q2 _ q3
   rw[Yg T (·.name) s.atts i hlt]
   exact px ⟨(q3,i+1),oT,Zi hlt hv hn⟩ (by simp<;>omega) (by simp[E2]) (by repeat' (first|exact trivial|(refine jO (by simp only[Z9, *,if_true,if_false];try rfl) (jO (by simp[ZW,ZU, *]) ?_))))
 ·obtain rfl:i=s.atts.length:=by omega
  rw[List.take_length] at hn
  rw[symV_spec hn]
  simp only[List.take_length]
  (refine V0 ?_;with_reducible repeat' intro h)
  all_goals try exact oF
  refine callS.eq (w209 _ hs.1) ?_
  rcases bC (Zj s.name) with hv|hv
  ·rw[hv]
   (refine V0 ?_)
   exact .refl
  ·rw[hv]
   by_cases h4:(s.atts.length:Int)≤4
   ·have h4':s.atts.length≤4:=by omega
    (refine V1 h4 ?_)
    refine callS.borA (w210 (s.atts.map (·.name))) (.cons (bor_TS ZZ (by simp)) .nil) rfl ?_
    (refine V0 ?_)
    exact .of_eq (by simp[h4'])
   ·have h4':¬s.atts.length≤4:=by omega
    (refine V1 h4 ?_)
    exact .of_eq (by simp[h4'])
theorem w228:∀(e:Exp) (n:Int),wEx e≤1048576→Pu 228 [Ex e,I n] (· = B (allE (fun x=>decide (x.pos≤n)) e)):=by
 refine Exp.indA fun e ih n hw=> ?_
 obtain ⟨hl,ha⟩:=YT hw
 refine Z5 mxd i228 rfl (by simp) ?_;refine X0 ?_
 (refine V1 @XE ?_)
 refine ZL mxd (ι:={ i:Nat // i≤e.args.length∧∀a∈e.args.take i,allE (fun x=>decide (x.pos≤n)) a=true }) (fun i=>[(1,I n),(2,.rop 7 (Ex e)),(5,I i.1)]) (fun _ => []) (fun i=>e.args.length-i.1) ⟨0,by simp⟩ (by simp[E2]) rfl ?_
 rintro ⟨i,hi,hn⟩
 rcases nL i e.args.length with hlt|hge
 ·(refine V1 @XE ?_;with_reducible repeat' first|intro h|apply jO)
  all_goals try exact oF
  refine callS.eq (ih _ (gM hlt) n (ha _ (gM hlt))) ?_
  rcases (Bool.eq_false_or_eq_true (allE (fun x=>decide (x.pos≤n)) e.args[i])).symm with hv|hv
  ·rw[allE_no hlt hv]
   (refine V1 hv ?_;with_reducible repeat' exact trivial)
  ·(refine V1 hv ?_)
   exact nx ⟨i+1,oT,all_take hlt hv hn⟩ (by simp<;>omega) (by simp[E2]) rfl
 ·obtain rfl:i=e.args.length:=by omega
  rw[List.take_length] at hn
  rw[allE_yes hn]
  (refine V1 @XE ?_;with_reducible repeat' intro h)
  all_goals try exact oF
theorem w190 (e:Exp) (n:Int) (ho:okE e) (hw:wEx e≤1048576):Pu 190 [Ex e,I n] (· = B (fitE e n)):=by
 refine Z5 mxd i190 rfl (by simp) ?_;refine X0 ?_
 (refine V1 @XE ?_)
 refine callS.eq (w128 e ho hw) ?_
 rcases bC (validE e) with hv|hv
 ·(refine V1 (jO @XE hv) ?_)
  all_goals simp[fitE,hv]
 ·(refine V1 (jO @XE hv) ?_)
  refine callS.eq (w228 e n hw) ?_
  (refine V0 ?_)
  all_goals simp[fitE,hv]
theorem w131 (r:Rul) (hs:okRu r) (hm:Y7 r):Pu 131 [Ru r] (· = B (rulV r)):=by
 obtain ⟨m1,m2,m3,m4,m5⟩:=hm
 obtain ⟨k1,k2,k3,k4,k5⟩:=hs
 refine Z5 mxd i131 rfl (by simp) ?_;refine X0 ?_
 (refine V0 ?_)
 by_cases hh:Zj r.name=true∧Zj r.left=true∧r.right.length≤3∧r.cons.length≤2
 ·obtain ⟨h1,h2,h3,h4⟩:=id hh
  have h3':¬(3:Int)<r.right.length:=by omega
  have h4':¬(2:Int)<r.cons.length:=by omega
  (with_reducible repeat' first|refine callS.eq (w199 _ k1) ?_|refine callS.eq (w199 _ k2) ?_|exact trivial|refine aO ?_|refine eO ?_|apply jO|refine K1 (jO h1 (jO h2 (jO h3' (jO h4' (jO @gt_iff_lt.{0} @decide_false))))) ?_|intro h)
  refine ZL mxd (ι:={ i:Nat // i≤r.right.length∧∀a∈r.right.take i,Zj a=true }) (fun i=>[(1,.rop 6 (Ru r)),(3,I r.right.length),(34,TS r.right),(35,I r.right.length),(36,I i.1)]) (fun _ => []) (fun i=>r.right.length-i.1) ⟨0,by simp⟩ (by simp[E2]) rfl ?_
  rintro ⟨i,hi,hn⟩
  rcases nL i r.right.length with hlt|hge
  ·(refine V0 ?_;with_reducible repeat' first|intro h|apply jO)
   all_goals try exact oF
   refine callS.eq (w199 _ (k3 _ (gM hlt))) ?_
   rcases bC (Zj r.right[i]) with hv|hv
   ·rw[rulV_r hlt hv]
    (refine V1 hv ?_;with_reducible repeat' exact trivial)
   ·(refine V1 hv ?_)
    exact nx ⟨i+1,oT,Zi hlt hv hn⟩ (by simp<;>omega) (by simp[E2]) rfl
  ·obtain rfl:i=r.right.length:=by omega
   rw[List.take_length] at hn
   (refine V0 ?_;with_reducible repeat' intro h)
   all_goals try exact oF
   refine ZL mxd (ι:={ i:Nat // i≤r.eqs.length∧∀a∈r.eqs.take i,eqnV r.right.length a=true }) (fun i=>[(1,.rop 6 (Ru r)),(3,I r.right.length),(45,QnS r.eqs),(46,I r.eqs.length),(47,I i.1)]) (fun _ => []) (fun i=>r.eqs.length-i.1) ⟨0,by simp⟩ (by simp[E2]) rfl ?_
   rintro ⟨i,hi,hn2⟩
   rcases nL i r.eqs.length with hlt|hge
   ·have hq:=k4 _ (gM hlt)
    have hw:=m4 _ (gM hlt)
    (refine V1 @XE ?_;with_reducible repeat' first|intro h|apply jO)
    all_goals try exact oF
    refine callS.eq (w200 r.eqs[i].expr r.right.length hq.2 hw) ?_
    have hb:eqnV r.right.length r.eqs[i]=false→rulV r=false:=rulV_e hlt
    rcases bC (fitE r.eqs[i].expr r.right.length) with hv|hv
    ·rw[hb (by simp only[eqnV,hv,Bool.false_and])]
     (refine V1 hv ?_;with_reducible repeat' exact trivial)
    ·(refine V1 (jO hv @XE) ?_)
     refine callS.eq (w199 _ hq.1) ?_
     rcases bC (Zj r.eqs[i].name) with hu|hu
     ·rw[hb (by simp only[eqnV,hv,hu,Bool.false_and,Bool.and_false])]
      (refine V1 hu ?_;with_reducible repeat' exact trivial)
     ·(refine V1 (jO hu @XE) ?_)
      refine callS.eq (w47 _ _ _) ?_
      by_cases hp:0≤r.eqs[i].pos ∧ r.eqs[i].pos ≤ r.right.length
      ·(refine V1 (jO hp (jO @and_self @decide_true)) ?_)
       exact nx ⟨i+1,oT,Zi hlt (by simp only[eqnV,hv,hu,decide_eq_true hp,Bool.true_and]) hn2⟩ (by simp<;>omega) (by simp[E2]) rfl
      ·rw[hb (by simp only[eqnV,hv,hu,decide_eq_false hp,Bool.and_false])]
       (refine V1 (jO hp @decide_false) ?_;with_reducible repeat' exact trivial)
   ·obtain rfl:i=r.eqs.length:=by omega
    rw[List.take_length] at hn2
    (refine V0 ?_;with_reducible repeat' intro h)
    all_goals try exact oF
    refine ZL mxd (ι:={ i:Nat // i≤r.cons.length∧∀a∈r.cons.take i,conV r.right.length a=true }) (fun i=>[(3,I r.right.length),(73,CoS r.cons),(74,I r.cons.length),(75,I i.1)]) (fun _ => []) (fun i=>r.cons.length-i.1) ⟨0,by simp⟩ (by simp[E2]) rfl ?_
    rintro ⟨i,hi,hn3⟩
    rcases nL i r.cons.length with hlt|hge
    ·have hq:=k5 _ (gM hlt)
     have hw:=m5 _ (gM hlt)
     (refine V1 @XE ?_;with_reducible repeat' first|intro h|apply jO)
     all_goals try exact oF
     refine callS.eq (w200 r.cons[i].goal r.right.length hq.2.2.1 hw.1) ?_
     have hb:conV r.right.length r.cons[i]=false→rulV r=false:=rulV_c hlt
     rcases bC (fitE r.cons[i].goal r.right.length) with hv|hv
     ·rw[hb (by simp only[conV,hv,Bool.false_and])]
      (refine V1 hv ?_;with_reducible repeat' exact trivial)
     ·(refine V1 (jO hv @XE) ?_)
      refine callS.eq (w200 r.cons[i].value r.right.length hq.2.2.2 hw.2) ?_
      rcases bC (fitE r.cons[i].value r.right.length) with hu|hu
      ·rw[hb (by simp only[conV,hv,hu,Bool.false_and,Bool.and_false])]
       (refine V1 hu ?_;with_reducible repeat' exact trivial)
      ·(refine V1 (jO hu @XE) ?_)
       refine callS.eq (w199 _ hq.1) ?_
       rcases bC (Zj r.cons[i].sym) with hx|hx
       ·rw[hb (by simp only[conV,hv,hu,hx,Bool.false_and,Bool.and_false])]
        (refine V1 hx ?_;with_reducible repeat' exact trivial)
       ·(refine V1 (jO hx @XE) ?_)
        refine callS.eq (w199 _ hq.2.1) ?_
        rcases bC (Zj r.cons[i].name) with hy|hy
        ·rw[hb (by simp only[conV,hv,hu,hx,hy,Bool.false_and,Bool.and_false])]
         (refine V1 hy ?_;with_reducible repeat' exact trivial)
        ·(refine V1 hy ?_)
         exact nx ⟨i+1,oT,Zi hlt (by simp only[conV,hv,hu,hx,hy,Bool.true_and]) hn3⟩ (by simp<;>omega) (by simp[E2]) rfl
    ·obtain rfl:i=r.cons.length:=by omega
     rw[List.take_length] at hn3
     rw[rulV_ok hh hn hn2 hn3]
     (refine V0 ?_;with_reducible repeat' intro h)
     all_goals try exact oF
 ·rw[rulV_h hh]
  have h3':((3:Int)<r.right.length)=¬(r.right.length≤3):=propext oT
  have h4':((2:Int)<r.cons.length)=¬(r.cons.length≤2):=propext oT
  by_cases h1:Zj r.name=true
  ·by_cases h2:Zj r.left=true
   ·by_cases h3:r.right.length≤3
    ·have h4:¬r.cons.length≤2:=fun h=>hh ⟨h1,h2,h3,h⟩
     (with_reducible repeat' first|refine callS.eq (w199 _ k1) ?_|refine callS.eq (w199 _ k2) ?_|exact trivial|refine aO ?_|refine eO ?_|apply jO|refine K1 (jO h1 (jO h2 (jO h3' (jO h4' (jO h3 (jO h4 (jO @gt_iff_lt.{0} (jO @decide_true (jO @decide_false (jO @not_true @not_false_eq_true)))))))))) ?_|intro h)
    ·(with_reducible repeat' first|refine callS.eq (w199 _ k1) ?_|refine callS.eq (w199 _ k2) ?_|exact trivial|refine aO ?_|refine eO ?_|apply jO|refine K1 (jO h1 (jO h2 (jO h3' (jO h3 (jO @gt_iff_lt.{0} (jO @decide_true (jO @decide_false (jO @not_true @not_false_eq_true)))))))) ?_|intro h)
   ·have h2':Zj r.left=false:=by simpa using h2
    (with_reducible repeat' first|refine callS.eq (w199 _ k1) ?_|refine callS.eq (w199 _ k2) ?_|exact trivial|refine aO ?_|refine eO ?_|apply jO|refine K1 (jO h1 h2') ?_|intro h)
  ·have h1':Zj r.name=false:=by simpa using h1
   (with_reducible repeat' first|refine callS.eq (w199 _ k1) ?_|refine callS.eq (w199 _ k2) ?_|exact trivial|refine aO ?_|refine eO ?_|apply jO|refine K1 h1' ?_|intro h)
theorem w147 (r:Rul) (hs:okRu r) (hm:Y7 r):Pu 147 [Ru r] (· = B (rulV r)):=by
 obtain ⟨m1,m2,m3,m4,m5⟩:=hm
 obtain ⟨k1,k2,k3,k4,k5⟩:=hs
 refine Z5 mxd i147 rfl (by simp) ?_;refine X0 ?_
 (refine V0 ?_)
 by_cases hh:Zj r.name=true∧Zj r.left=true∧r.right.length≤3∧r.cons.length≤2
 ·obtain ⟨h1,h2,h3,h4⟩:=id hh
  have h3':¬(3:Int)<r.right.length:=by omega
  have h4':¬(2:Int)<r.cons.length:=by omega
  (with_reducible repeat' first|refine callS.eq (w209 _ k1) ?_|refine callS.eq (w209 _ k2) ?_|exact trivial|refine aO ?_|refine eO ?_|apply jO|refine K1 (jO h1 (jO h2 (jO h3' (jO h4' (jO @gt_iff_lt.{0} @decide_false))))) ?_|intro h)
  refine ZL mxd (ι:={ i:Nat // i≤r.right.length∧∀a∈r.right.take i,Zj a=true }) (fun i=>[(1,.rop 6 (Ru r)),(3,I r.right.length),(4,I i.1)]) (fun _ => []) (fun i=>r.right.length-i.1) ⟨0,by simp⟩ (by simp[E2]) rfl ?_
  rintro ⟨i,hi,hn⟩
  rcases nL i r.right.length with hlt|hge
  ·(refine V0 ?_;with_reducible repeat' first|intro h|apply jO)
   all_goals try exact oF
   refine callS.eq (w209 _ (k3 _ (gM hlt))) ?_
   rcases bC (Zj r.right[i]) with hv|hv
   ·rw[rulV_r hlt hv]
    (refine V1 hv ?_;with_reducible repeat' exact trivial)
   ·(refine V1 hv ?_)
    exact nx ⟨i+1,oT,Zi hlt hv hn⟩ (by simp<;>omega) (by simp[E2]) rfl
  ·obtain rfl:i=r.right.length:=by omega
   rw[List.take_length] at hn
   (refine V0 ?_;with_reducible repeat' intro h)
   all_goals try exact oF
   refine ZL mxd (ι:={ i:Nat // i≤r.eqs.length∧∀a∈r.eqs.take i,eqnV r.right.length a=true }) (fun i=>[(1,.rop 6 (Ru r)),(3,I r.right.length),(5,I i.1)]) (fun _ => []) (fun i=>r.eqs.length-i.1) ⟨0,by simp⟩ (by simp[E2]) rfl ?_
   rintro ⟨i,hi,hn2⟩
   rcases nL i r.eqs.length with hlt|hge
   ·have hq:=k4 _ (gM hlt)
    have hw:=m4 _ (gM hlt)
    (refine V1 @XE ?_;with_reducible repeat' first|intro h|apply jO)
    all_goals try exact oF
    have hb:eqnV r.right.length r.eqs[i]=false→rulV r=false:=rulV_e hlt
    refine callS.eq (w209 _ hq.1) ?_
    rcases bC (Zj r.eqs[i].name) with hu|hu
    ·rw[hb (by simp only[eqnV,hu,Bool.false_and,Bool.and_false])]
     (refine V1 hu ?_;with_reducible repeat' exact trivial)
    ·(refine V1 (jO hu @XE) ?_)
     refine callS.eq (w44 _ _ _) ?_
     by_cases hp:0≤r.eqs[i].pos ∧ r.eqs[i].pos ≤ r.right.length
     ·(refine V1 (jO hp (jO @and_self (jO @decide_true @XE))) ?_)
      refine callS.eq (w190 r.eqs[i].expr r.right.length hq.2 hw) ?_
      rcases bC (fitE r.eqs[i].expr r.right.length) with hv|hv
      ·rw[hb (by simp only[eqnV,hv,Bool.false_and])]
       (refine V1 hv ?_;with_reducible repeat' exact trivial)
      ·(refine V1 (jO hv @XE) ?_)
       exact nx ⟨i+1,oT,Zi hlt (by simp only[eqnV,hv,hu,decide_eq_true hp,Bool.true_and]) hn2⟩ (by simp<;>omega) (by simp[E2]) rfl
     ·rw[hb (by simp only[eqnV,hu,decide_eq_false hp,Bool.and_false])]
      (refine V1 (jO hp @decide_false) ?_;with_reducible repeat' exact trivial)
   ·obtain rfl:i=r.eqs.length:=by omega
    rw[List.take_length] at hn2
    (refine V0 ?_;with_reducible repeat' intro h)
    all_goals try exact oF
    refine ZL mxd (ι:={ i:Nat // i≤r.cons.length∧∀a∈r.cons.take i,conV r.right.length a=true }) (fun i=>[(1,.rop 6 (Ru r)),(3,I r.right.length),(7,I i.1)]) (fun _ => []) (fun i=>r.cons.length-i.1) ⟨0,by simp⟩ (by simp[E2]) rfl ?_
    rintro ⟨i,hi,hn3⟩
    rcases nL i r.cons.length with hlt|hge
    ·have hq:=k5 _ (gM hlt)
     have hw:=m5 _ (gM hlt)
     (refine V1 @XE ?_;with_reducible repeat' first|intro h|apply jO)
     all_goals try exact oF
     have hb:conV r.right.length r.cons[i]=false→rulV r=false:=rulV_c hlt
     refine callS.eq (w209 _ hq.1) ?_
     rcases bC (Zj r.cons[i].sym) with hx|hx
     ·rw[hb (by simp only[conV,hx,Bool.false_and,Bool.and_false])]
      (refine V1 hx ?_;with_reducible repeat' exact trivial)
     ·(refine V1 (jO hx @XE) ?_)
      refine callS.eq (w209 _ hq.2.1) ?_
      rcases bC (Zj r.cons[i].name) with hy|hy
      ·rw[hb (by simp only[conV,hx,hy,Bool.false_and,Bool.and_false])]
       (refine V1 hy ?_;with_reducible repeat' exact trivial)
      ·(refine V1 (jO hy @XE) ?_)
       refine callS.eq (w190 r.cons[i].goal r.right.length hq.2.2.1 hw.1) ?_
       rcases bC (fitE r.cons[i].goal r.right.length) with hv|hv
       ·rw[hb (by simp only[conV,hv,Bool.false_and])]
        (refine V1 hv ?_;with_reducible repeat' exact trivial)
       ·(refine V1 (jO hv @XE) ?_)
        refine callS.eq (w190 r.cons[i].value r.right.length hq.2.2.2 hw.2) ?_
        rcases bC (fitE r.cons[i].value r.right.length) with hu|hu
        ·rw[hb (by simp only[conV,hv,hu,Bool.false_and,Bool.and_false])]
         (refine V1 hu ?_;with_reducible repeat' exact trivial)
        ·(refine V1 hu ?_)
         exact nx ⟨i+1,oT,Zi hlt (by simp only[conV,hv,hu,hx,hy,Bool.true_and]) hn3⟩ (by simp<;>omega) (by simp[E2]) rfl
    ·obtain rfl:i=r.cons.length:=by omega
     rw[List.take_length] at hn3
     rw[rulV_ok hh hn hn2 hn3]
     (refine V0 ?_;with_reducible repeat' intro h)
     all_goals try exact oF
 ·rw[rulV_h hh]
  have h3':((3:Int)<r.right.length)=¬(r.right.length≤3):=propext oT
  have h4':((2:Int)<r.cons.length)=¬(r.cons.length≤2):=propext oT
  by_cases h1:Zj r.name=true
  ·by_cases h2:Zj r.left=true
   ·by_cases h3:r.right.length≤3
    ·have h4:¬r.cons.length≤2:=fun h=>hh ⟨h1,h2,h3,h⟩
     (with_reducible repeat' first|refine callS.eq (w209 _ k1) ?_|refine callS.eq (w209 _ k2) ?_|exact trivial|refine aO ?_|refine eO ?_|apply jO|refine K1 (jO h1 (jO h2 (jO h3' (jO h4' (jO h3 (jO h4 (jO @gt_iff_lt.{0} (jO @decide_true (jO @decide_false (jO @not_true @not_false_eq_true)))))))))) ?_|intro h)
    ·(with_reducible repeat' first|refine callS.eq (w209 _ k1) ?_|refine callS.eq (w209 _ k2) ?_|exact trivial|refine aO ?_|refine eO ?_|apply jO|refine K1 (jO h1 (jO h2 (jO h3' (jO h3 (jO @gt_iff_lt.{0} (jO @decide_true (jO @decide_false (jO @not_true @not_false_eq_true)))))))) ?_|intro h)
   ·have h2':Zj r.left=false:=by simpa using h2
    (with_reducible repeat' first|refine callS.eq (w209 _ k1) ?_|refine callS.eq (w209 _ k2) ?_|exact trivial|refine aO ?_|refine eO ?_|apply jO|refine K1 (jO h1 h2') ?_|intro h)
  ·have h1':Zj r.name=false:=by simpa using h1
   (with_reducible repeat' first|refine callS.eq (w209 _ k1) ?_|refine callS.eq (w209 _ k2) ?_|exact trivial|refine aO ?_|refine eO ?_|apply jO|refine K1 h1' ?_|intro h)
theorem w80 (g:Gram) (hs:ZE g) (hg:okGr g):Pu 80 [Gr g] (· = I (sfI g)):=by
 obtain ⟨m1,m2,m3,m4⟩:=hs
 refine Z5 mxd i80 rfl (by simp) ?_;refine X0 ?_
 (refine V0 ?_)
 refine ZL mxd (ι:={ i:Nat // i≤g.syms.length∧∀j,j<i→symB g j=false }) (fun i=>[(1,.rop 2 (Gr g)),(8,SyS g.syms),(9,I g.syms.length),(10,I i.1)]) (fun _ => []) (fun i=>g.syms.length-i.1) ⟨0,by simp⟩ (by simp[E2]) rfl ?_
 rintro ⟨i,hi,hn⟩
 rcases nL i g.syms.length with hlt|hge
 ·have hb:=symB_eq hlt
  have hm:=gM hlt
  (refine V0 ?_;with_reducible repeat' first|intro h|apply jO)
  all_goals try exact oF
  refine callS.eq (w129 g.syms[i] (hg.1 _ hm) (m3 _ hm)) ?_
  rcases bC (symV g.syms[i]) with hv|hv
  ·rw[sfI_s hlt (by rw[hb,hv];rfl) hn]
   (refine V1 hv ?_;with_reducible repeat' exact trivial)
  ·(refine V1 hv ?_)
   all_goals try exact oF
   rw[show List.drop (Int.toNat 0) (List.take i (List.map Sy g.syms))=(g.syms.take i).map Sy from by simp[List.map_take]]
   refine callS.eq (w99 (g.syms.take i) 130 [.rop 2 (Sy g.syms[i])] (fun o=>decide (o.name=g.syms[i].name)) fun x _ => w130 x _) ?_
   rcases bC ((g.syms.take i).any fun o=>decide (o.name=g.syms[i].name)) with hw|hw
   ·(refine V1 hw ?_)
    exact nx ⟨i+1,oT,lt_step (by rw[hb,hv,hw];rfl) hn⟩ (by simp<;>omega) (by simp[E2]) rfl
   ·rw[sfI_s hlt (by rw[hb,hv,hw];rfl) hn]
    (refine V1 hw ?_;with_reducible repeat' exact trivial)
 ·obtain rfl:i=g.syms.length:=by omega
  (refine V0 ?_;with_reducible repeat' intro h)
  all_goals try exact oF
  refine ZL mxd (ι:={ i:Nat // i≤g.rules.length∧∀j,j<i→rulB g j=false }) (fun i=>[(1,.rop 2 (Gr g)),(29,RuS g.rules),(30,I g.rules.length),(31,I i.1)]) (fun _ => []) (fun i=>g.rules.length-i.1) ⟨0,by simp⟩ (by simp[E2]) rfl ?_
  rintro ⟨i,hi,hn2⟩
  rcases nL i g.rules.length with hlt|hge
  ·have hb:=rulB_eq hlt
   have hm:=gM hlt
   (refine V0 ?_;with_reducible repeat' first|intro h|apply jO)
   all_goals try exact oF
   refine callS.eq (w131 g.rules[i] (hg.2 _ hm) (m4 _ hm)) ?_
   rcases bC (rulV g.rules[i]) with hv|hv
   ·rw[sfI_r hn hlt (by rw[hb,hv];rfl) hn2]
    (refine V1 hv ?_;with_reducible repeat' exact trivial)
   ·(refine V1 hv ?_)
    all_goals try exact oF
    rw[show List.drop (Int.toNat 0) (List.take i (List.map Ru g.rules))=(g.rules.take i).map Ru from by simp[List.map_take]]
    refine callS.eq (w94 (g.rules.take i) 132 [.rop 6 (Ru g.rules[i])] (fun o=>decide (o.name=g.rules[i].name)) fun x _ => w132 x _) ?_
    rcases bC ((g.rules.take i).any fun o=>decide (o.name=g.rules[i].name)) with hw|hw
    ·(refine V1 hw ?_)
     exact nx ⟨i+1,oT,lt_step (by rw[hb,hv,hw];rfl) hn2⟩ (by simp<;>omega) (by simp[E2]) rfl
    ·rw[sfI_r hn hlt (by rw[hb,hv,hw];rfl) hn2]
     (refine V1 hw ?_;with_reducible repeat' exact trivial)
  ·obtain rfl:i=g.rules.length:=by omega
   rw[sfI_n hn hn2]
   (refine V0 ?_;with_reducible repeat' intro h)
   all_goals try exact oF
theorem w88 (g:Gram) (hs:ZE g) (hg:okGr g):Pu 88 [Gr g] (· = I (sfI g)):=by
 obtain ⟨m1,m2,m3,m4⟩:=hs
 refine Pure.bor ?_
 refine Z5 mxd i88 rfl (by simp) ?_;refine X0 ?_
 (refine V0 ?_;with_reducible repeat' intro h)
 rename_i r
 refine Y1 mxd (ι:={ x:Nat×Nat // x.2≤g.syms.length∧∀j,j<x.2→symB g j=false }) (fun x=>[(1,.rop 2 (Gr g)),(3,.own x.1.1 1 0 x.1.2),(4,I x.1.2)]) (fun x=>[(x.1.1,1,((g.syms.take x.1.2).map (·.name)).map T)]) (fun x=>g.syms.length-x.1.2) ⟨(r,0),by simp⟩ (by simp[E2]) (by simp[subH,ZV,names]) ?_
 rintro ⟨⟨r,i⟩,hi,hn⟩ -
 dsimp only at hi hn ⊢
 rcases nL i g.syms.length with hlt|hge
 ·have hb:=symB_eq hlt
  have hm:=gM hlt
  (refine V0 ?_;with_reducible repeat' first|intro h|apply jO)
  all_goals try exact oF
  refine callS.eq (w145 g.syms[i] (hg.1 _ hm) (m3 _ hm)) ?_
  rcases bC (symV g.syms[i]) with hv|hv
  ·rw[sfI_s hlt (by rw[hb,hv];rfl) hn]
   (refine V1 hv ?_)
   exact .refl
  ·(refine V1 hv ?_)
   all_goals try exact oF
   refine callS.borA (w146 ((g.syms.take i).map (·.name)) g.syms[i].name) (.cons (bor_TS ZZ (by simp<;>omega)) (.cons .refl .nil)) rfl ?_
   rw[hasS_map]
   rcases bC ((g.syms.take i).any fun o=>decide (o.name=g.syms[i].name)) with hw|hw
   ·(refine V1 (jO hw (jO @List.length_append.{0} (jO @List.length_singleton.{0} (jO @List.length_map.{0,0} (jO @List.length_take.{0} @ZM))))) ?_;with_reducible repeat' first|intro h|refine aO ?_)
    all_goals try exact oF
    rename_i q2 _ q3
    rw[Yg T (·.name) g.syms i hlt]
    exact px ⟨(q3,i+1),oT,lt_step (by rw[hb,hv,hw];rfl) hn⟩ (by simp<;>omega) (by simp[E2]) (by repeat' (first|exact trivial|(refine jO (by simp only[Z9, *,if_true,if_false];try rfl) (jO (by simp[ZW,ZU, *]) ?_))))
   ·rw[sfI_s hlt (by rw[hb,hv,hw];rfl) hn]
    (refine V1 hw ?_)
    exact .refl
 ·obtain rfl:i=g.syms.length:=by omega
  (refine V0 ?_;with_reducible repeat' intro h)
  all_goals try exact oF
  rename_i r2
  refine Y1 mxd (ι:={ x:Nat×Nat // x.2≤g.rules.length∧∀j,j<x.2→rulB g j=false }) (fun x=>[(1,.rop 2 (Gr g)),(3,.own x.1.1 1 0 x.1.2),(5,I x.1.2)]) (fun x=>[(x.1.1,1,((g.rules.take x.1.2).map (·.name)).map T)]) (fun x=>g.rules.length-x.1.2) ⟨(r2,0),by simp⟩ (by simp[E2]) (by simp[subH,ZV,names]) ?_
  rintro ⟨⟨r,i⟩,hi,hn2⟩ -
  dsimp only at hi hn2 ⊢
  rcases nL i g.rules.length with hlt|hge
  ·have hb:=rulB_eq hlt
   have hm:=gM hlt
   (refine V0 ?_;with_reducible repeat' first|intro h|apply jO)
   all_goals try exact oF
   refine callS.eq (w147 g.rules[i] (hg.2 _ hm) (m4 _ hm)) ?_
   rcases bC (rulV g.rules[i]) with hv|hv
   ·rw[sfI_r hn hlt (by rw[hb,hv];rfl) hn2]
    (refine V1 hv ?_)
    exact .refl
   ·(refine V1 hv ?_)
    all_goals try exact oF
    refine callS.borA (w146 ((g.rules.take i).map (·.name)) g.rules[i].name) (.cons (bor_TS ZZ (by simp<;>omega)) (.cons .refl .nil)) rfl ?_
    rw[hasS_map]
    rcases bC ((g.rules.take i).any fun o=>decide (o.name=g.rules[i].name)) with hw|hw
    ·(refine V1 (jO hw (jO @List.length_append.{0} (jO @List.length_singleton.{0} (jO @List.length_map.{0,0} (jO @List.length_take.{0} @ZM))))) ?_;with_reducible repeat' first|intro h|refine aO ?_)
     all_goals try exact oF
     rename_i q2 _ q3
     rw[Yg T (·.name) g.rules i hlt]
     exact px ⟨(q3,i+1),oT,lt_step (by rw[hb,hv,hw];rfl) hn2⟩ (by simp<;>omega) (by simp[E2]) (by repeat' (first|exact trivial|(refine jO (by simp only[Z9, *,if_true,if_false];try rfl) (jO (by simp[ZW,ZU, *]) ?_))))
    ·rw[sfI_r hn hlt (by rw[hb,hv,hw];rfl) hn2]
     (refine V1 hw ?_)
     exact .refl
  ·obtain rfl:i=g.rules.length:=by omega
   rw[sfI_n hn hn2]
   (refine V0 ?_;with_reducible repeat' intro h)
   all_goals first|(exfalso;omega)|exact .refl
end Go.Proofs.YtkmedfejmndmjaaGreat
