/- The laws FnStatic and FnStaticTypes return true whatever the input, and the input reads behind the call as before. No condition. -/
import Derived.Test.YtknbnefbgpnkgaaGreatFst2
set_option maxHeartbeats 40000000
set_option maxRecDepth 20000
set_option linter.unusedSimpArgs false
set_option linter.unusedVariables false
namespace Go.Proofs.YtknbnefbgpnkgaaGreat
open Go.Gh
open Nat (reduceEqDiff reduceLeDiff reduceAdd reduceLT)
open Int (reduceNe)
theorem w186 (t:List Sym) (f:Nat) (cs:List GV) (p:Sym→Bool) (hp:∀x∈t,Pu f (Sy x::cs) (· = B (p x))) :
 Pu 186 [SyS t,.clo f cs] (· = I (Zu p t)):=by
 refine GCalls.lenA fun hl=> ?_
 have hlen:=hl.1.1
 simp only[List.length_map,Zn] at hlen
 refine Z5 mxd i186 rfl (by simp) ?_;refine X0 ?_
 (refine V0 ?_)
 refine ZL mxd (ι:={ i:Nat // i≤t.length∧∀y∈t.take i,p y=false }) (fun i=>[(0,SyS t),(1,.clo f cs),(7,I t.length),(8,I i.1)]) (fun _ => []) (fun i=>t.length-i.1) ⟨0,by simp⟩ (by simp[E2]) rfl ?_
 rintro ⟨i,hi,hn⟩
 rcases nL i t.length with hlt|hge
 ·(refine V1 @XE ?_;with_reducible repeat' first|intro h|apply jO)
  all_goals try exact oF
  refine callS.eq (hp t[i] (gM hlt)) ?_
  by_cases hb:p t[i]=true
  ·have e:=YT hlt hb hn
   rw[e]
   (refine V1 hb ?_;with_reducible repeat' exact trivial)
  ·have hb':p t[i]=false:=by simpa using hb
   (refine V1 hb' ?_)
   exact nx ⟨i+1,oT,ZA hlt hb' hn⟩ (by simp<;>omega) (by simp[E2]) rfl
 ·obtain rfl:i=t.length:=by omega
  rw[List.take_length] at hn
  rw[YV hn]
  (refine V0 ?_;with_reducible repeat' intro h)
  all_goals first|(exfalso;omega)|skip
theorem w143 (t:List Sym) (f:Nat) (cs:List GV) (p:Sym→Bool) (hp:∀x∈t,Pu f (Sy x::cs) (· = B (p x))) :
 Pu 143 [SyS t,.clo f cs] (· = B (t.any p)):=by
 refine Z5 mxd i143 rfl (by simp) ?_;refine X0 ?_
 refine callS.eq (w186 t f cs p hp) ?_
 (refine R0 ?_)
 rw[←any_ix]
theorem w182 (t:List Rul) (f:Nat) (cs:List GV) (p:Rul→Bool) (hp:∀x∈t,Pu f (Ru x::cs) (· = B (p x))) :
 Pu 182 [RuS t,.clo f cs] (· = I (Zu p t)):=by
 refine GCalls.lenA fun hl=> ?_
 have hlen:=hl.1.1
 simp only[List.length_map,Zn] at hlen
 refine Z5 mxd i182 rfl (by simp) ?_;refine X0 ?_
 (refine V0 ?_)
 refine ZL mxd (ι:={ i:Nat // i≤t.length∧∀y∈t.take i,p y=false }) (fun i=>[(0,RuS t),(1,.clo f cs),(7,I t.length),(8,I i.1)]) (fun _ => []) (fun i=>t.length-i.1) ⟨0,by simp⟩ (by simp[E2]) rfl ?_
 rintro ⟨i,hi,hn⟩
 rcases nL i t.length with hlt|hge
 ·(refine V1 @XE ?_;with_reducible repeat' first|intro h|apply jO)
  all_goals try exact oF
  refine callS.eq (hp t[i] (gM hlt)) ?_
  by_cases hb:p t[i]=true
  ·have e:=YT hlt hb hn
   rw[e]
   (refine V1 hb ?_;with_reducible repeat' exact trivial)
  ·have hb':p t[i]=false:=by simpa using hb
   (refine V1 hb' ?_)
   exact nx ⟨i+1,oT,ZA hlt hb' hn⟩ (by simp<;>omega) (by simp[E2]) rfl
 ·obtain rfl:i=t.length:=by omega
  rw[List.take_length] at hn
  rw[YV hn]
  (refine V0 ?_;with_reducible repeat' intro h)
  all_goals first|(exfalso;omega)|skip
theorem w138 (t:List Rul) (f:Nat) (cs:List GV) (p:Rul→Bool) (hp:∀x∈t,Pu f (Ru x::cs) (· = B (p x))) :
 Pu 138 [RuS t,.clo f cs] (· = B (t.any p)):=by
 refine Z5 mxd i138 rfl (by simp) ?_;refine X0 ?_
 refine callS.eq (w182 t f cs p hp) ?_
 (refine R0 ?_)
 rw[←any_ix]
theorem w187 (t:List Att) (f:Nat) (cs:List GV) (p:Att→Bool) (hp:∀x∈t,Pu f (At x::cs) (· = B (p x))) :
 Pu 187 [AtS t,.clo f cs] (· = I (Zu p t)):=by
 refine GCalls.lenA fun hl=> ?_
 have hlen:=hl.1.1
 simp only[List.length_map,Zn] at hlen
 refine Z5 mxd i187 rfl (by simp) ?_;refine X0 ?_
 (refine V0 ?_)
 refine ZL mxd (ι:={ i:Nat // i≤t.length∧∀y∈t.take i,p y=false }) (fun i=>[(0,AtS t),(1,.clo f cs),(7,I t.length),(8,I i.1)]) (fun _ => []) (fun i=>t.length-i.1) ⟨0,by simp⟩ (by simp[E2]) rfl ?_
 rintro ⟨i,hi,hn⟩
 rcases nL i t.length with hlt|hge
 ·(refine V1 @XE ?_;with_reducible repeat' first|intro h|apply jO)
  all_goals try exact oF
  refine callS.eq (hp t[i] (gM hlt)) ?_
  by_cases hb:p t[i]=true
  ·have e:=YT hlt hb hn
   rw[e]
   (refine V1 hb ?_;with_reducible repeat' exact trivial)
  ·have hb':p t[i]=false:=by simpa using hb
   (refine V1 hb' ?_)
   exact nx ⟨i+1,oT,ZA hlt hb' hn⟩ (by simp<;>omega) (by simp[E2]) rfl
 ·obtain rfl:i=t.length:=by omega
  rw[List.take_length] at hn
  rw[YV hn]
  (refine V0 ?_;with_reducible repeat' intro h)
  all_goals first|(exfalso;omega)|skip
theorem w145 (t:List Att) (f:Nat) (cs:List GV) (p:Att→Bool) (hp:∀x∈t,Pu f (At x::cs) (· = B (p x))) :
 Pu 145 [AtS t,.clo f cs] (· = B (t.any p)):=by
 refine Z5 mxd i145 rfl (by simp) ?_;refine X0 ?_
 refine callS.eq (w187 t f cs p hp) ?_
 (refine R0 ?_)
 rw[←any_ix]
theorem w274 (t:List Oc) (f:Nat) (cs:List GV) (p:Oc→Bool) (hp:∀x∈t,Pu f (Occ x::cs) (· = B (p x))) :
 Pu 274 [OcS t,.clo f cs] (· = I (Zu p t)):=by
 refine GCalls.lenA fun hl=> ?_
 have hlen:=hl.1.1
 simp only[List.length_map,Zn] at hlen
 refine Z5 mxd i274 rfl (by simp) ?_;refine X0 ?_
 (refine V0 ?_)
 refine ZL mxd (ι:={ i:Nat // i≤t.length∧∀y∈t.take i,p y=false }) (fun i=>[(0,OcS t),(1,.clo f cs),(7,I t.length),(8,I i.1)]) (fun _ => []) (fun i=>t.length-i.1) ⟨0,by simp⟩ (by simp[E2]) rfl ?_
 rintro ⟨i,hi,hn⟩
 rcases nL i t.length with hlt|hge
 ·(refine V1 @XE ?_;with_reducible repeat' first|intro h|apply jO)
  all_goals try exact oF
  refine callS.eq (hp t[i] (gM hlt)) ?_
  by_cases hb:p t[i]=true
  ·have e:=YT hlt hb hn
   rw[e]
   (refine V1 hb ?_;with_reducible repeat' exact trivial)
  ·have hb':p t[i]=false:=by simpa using hb
   (refine V1 hb' ?_)
   exact nx ⟨i+1,oT,ZA hlt hb' hn⟩ (by simp<;>omega) (by simp[E2]) rfl
 ·obtain rfl:i=t.length:=by omega
  rw[List.take_length] at hn
  rw[YV hn]
  (refine V0 ?_;with_reducible repeat' intro h)
  all_goals first|(exfalso;omega)|skip
theorem w240 (t:List Oc) (f:Nat) (cs:List GV) (p:Oc→Bool) (hp:∀x∈t,Pu f (Occ x::cs) (· = B (p x))) :
 Pu 240 [OcS t,.clo f cs] (· = B (t.any p)):=by
 refine Z5 mxd i240 rfl (by simp) ?_;refine X0 ?_
 refine callS.eq (w274 t f cs p hp) ?_
 (refine R0 ?_)
 rw[←any_ix]
theorem w275 (t:List Eqn) (f:Nat) (cs:List GV) (p:Eqn→Bool) (hp:∀x∈t,Pu f (Qn x::cs) (· = B (p x))) :
 Pu 275 [QnS t,.clo f cs] (· = I (Zu p t)):=by
 refine GCalls.lenA fun hl=> ?_
 have hlen:=hl.1.1
 simp only[List.length_map,Zn] at hlen
 refine Z5 mxd i275 rfl (by simp) ?_;refine X0 ?_
 (refine V0 ?_)
 refine ZL mxd (ι:={ i:Nat // i≤t.length∧∀y∈t.take i,p y=false }) (fun i=>[(0,QnS t),(1,.clo f cs),(7,I t.length),(8,I i.1)]) (fun _ => []) (fun i=>t.length-i.1) ⟨0,by simp⟩ (by simp[E2]) rfl ?_
 rintro ⟨i,hi,hn⟩
 rcases nL i t.length with hlt|hge
 ·(refine V1 @XE ?_;with_reducible repeat' first|intro h|apply jO)
  all_goals try exact oF
  refine callS.eq (hp t[i] (gM hlt)) ?_
  by_cases hb:p t[i]=true
  ·have e:=YT hlt hb hn
   rw[e]
   (refine V1 hb ?_;with_reducible repeat' exact trivial)
  ·have hb':p t[i]=false:=by simpa using hb
   (refine V1 hb' ?_)
   exact nx ⟨i+1,oT,ZA hlt hb' hn⟩ (by simp<;>omega) (by simp[E2]) rfl
 ·obtain rfl:i=t.length:=by omega
  rw[List.take_length] at hn
  rw[YV hn]
  (refine V0 ?_;with_reducible repeat' intro h)
  all_goals first|(exfalso;omega)|skip
theorem w243 (t:List Eqn) (f:Nat) (cs:List GV) (p:Eqn→Bool) (hp:∀x∈t,Pu f (Qn x::cs) (· = B (p x))) :
 Pu 243 [QnS t,.clo f cs] (· = B (t.any p)):=by
 refine Z5 mxd i243 rfl (by simp) ?_;refine X0 ?_
 refine callS.eq (w275 t f cs p hp) ?_
 (refine R0 ?_)
 rw[←any_ix]
end Go.Proofs.YtknbnefbgpnkgaaGreat
