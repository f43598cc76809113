/- A library: ghosts that stand for the values of the model, and what functions do to them. No condition. -/
import Derived.Test.YtcegkonjphbfaaaGreatDoorLibR1
import Derived.Still
import Derived.ProofKit
import Derived.Deep.Slices
set_option maxHeartbeats 40000000
set_option maxRecDepth 20000
set_option linter.unusedSimpArgs false
set_option linter.unusedVariables false

namespace Go.Gh
theorem HM.app2 {w:World} {D:Nat→Prop}:∀{H1 H:GH} {Ω1 Ω:List Nat},HM w D H1 Ω1→HM w D H Ω→HM w D (H1++H) (Ω1++Ω)
 | [],_,_,_,h,k=>by simp only[HM] at h;subst h;exact k
 | (r,sz,es)::H1,H,Ω1,Ω,h,k=>by
  obtain ⟨F1,F2,rfl,h1,h2⟩:=h
  exact ⟨F1,F2++Ω,by simp,h1,HM.app2 h2 k⟩
theorem HM.part2 {w:World} {D:Nat→Prop}:∀{H1 H:GH} {Ω:List Nat},HM w D (H1++H) Ω→∃Ω1 Ω2,Ω=Ω1++Ω2∧HM w D H1 Ω1∧HM w D H Ω2
 | [],_,Ω,h=>⟨[],Ω,rfl,rfl,h⟩
 | (r,sz,es)::H1,H,Ω,h=>by
  obtain ⟨F1,F2,rfl,h1,h2⟩:=h
  obtain ⟨Ω1,Ω2,rfl,h3,h4⟩:=HM.part2 h2
  exact ⟨F1++Ω1,Ω2,by simp,⟨F1,Ω1,rfl,h1,h3⟩,h4⟩
theorem HM.in_names0 {w:World} {D:Nat→Prop}:∀{H:GH} {Ω:List Nat} {b:Nat},HM w D H Ω→2 * b∈names H→b∈Ω
 | [],_,_,_,h=>by simp[names] at h
 | (r,sz,es)::H,Ω,b,hm,h=>by
  obtain ⟨F1,F2,rfl,hR,hm⟩:=hm
  simp only[names,List.map_cons,List.mem_cons] at h
  rcases h with h|h
  ·rcases hR with ⟨b',c,T,fz,F',e,_,_,_,_,rfl,_⟩|⟨e,_⟩
   ·have:b=b':=by omega
    simp[this]
   ·omega
  ·simp[HM.in_names0 hm h]
theorem hget_app {H1 H:GH} {r:Nat} {x:Nat×List GV} (h:Z6 H r=some x) (hn:(names (H1++H)).Nodup):Z6 (H1++H) r=some x:=by
 have hm:r∈names H:=by
  clear hn
  induction H with
  | nil=>cases h
  | cons y H ih=>
   obtain ⟨q,y⟩:=y
   simp only[Z6] at h
   simp only[names,List.map_cons,List.mem_cons]
   split at h
   ·rename_i e;exact .inl e.symm
   ·exact .inr (ih h)
 induction H1 with
 | nil=>exact h
 | cons y H1 ih=>
  obtain ⟨q,y⟩:=y
  simp only[List.cons_append,names,List.map_cons,List.nodup_cons] at hn
  simp only[List.cons_append,Z6]
  rw[if_neg]
  ·exact ih hn.2
  ·rintro rfl
   apply hn.1
   simp only[List.map_append,List.mem_append]
   exact .inr hm
section
variable {P:Program}
theorem GCalls.frame1 {f:FuncId} {gs:List GV} {G:GV} {H H1:GH} (h:GCalls P f gs H (fun g H'=>g=G∧H'=H)):GCalls P f gs (H1++H) (fun g H'=>g=G∧H'=H1++H):=by
 intro w D Ω args hst ha
 obtain ⟨Ω1,Ω2,rfl,h1,h2⟩:=HM.part2 hst.hm
 have hnd:=List.nodup_append.1 hst.nd
 have hst2:St w D H Ω2:=⟨h2,hnd.2.1,by have:=hst.nn;simp only[names,List.map_append] at this;exact (List.nodup_append.1 this).2.1,fun b hb=>hst.dj b (by simp[hb]),hst.ds⟩
 have:=h w D Ω2 args hst2 ha
 refine Yld.mono (fun v w'=> ?_) this
 rintro ⟨g,H',D',Ω',⟨rfl,rfl⟩,hv,hs,he⟩
 have hlt:=HM.flt h1
 have hx:∀b∈Ω1,b∉Ω2:=fun b hb hb2=>hnd.2.2 b hb b hb2 rfl
 have hx':∀b∈Ω1,¬D' b:=fun b hb hd=>(he.dn b (hlt b hb) hd).elim (hst.dj b (by simp[hb])) (hx b hb)
 refine ⟨_,_,D',Ω1++Ω',⟨rfl,rfl⟩,hv,⟨?_,?_,hst.nn,?_,hs.ds⟩,⟨he.d0,?_,?_,?_,he.os,he.tape,he.output⟩⟩
 ·exact HM.app2 (HM.keep he.kp (fun b hb hb2=>hst.dj b (by simp[hb2]) hb) he.d0 hx h1) hs.hm
 ·refine List.nodup_append.2 ⟨hnd.1,hs.nd,?_⟩
  rintro b hb c hc rfl
  exact hx b hb (he.on b hc (hlt b hb))
 ·intro b hb
  rcases List.mem_append.1 hb with hb|hb
  ·exact hx' b hb
  ·exact hs.dj b hb
 ·intro b hb hd
  rcases he.dn b hb hd with h'|h'
  ·exact .inl h'
  ·exact .inr (by simp[h'])
 ·intro b hb hl
  rcases List.mem_append.1 hb with hb|hb
  ·simp[hb]
  ·simp[he.on b hb hl]
 ·exact he.kp.mono (fun b _ hb h2=>hb (by simp[h2]))
theorem srcEls_app {sz:Nat} {H1 H:GH} {g:GV} {fs:List GV} (h:Y2 sz H g=some fs) (hn:(names (H1++H)).Nodup):Y2 sz (H1++H) g=some fs:=by
 unfold Y2 at h ⊢
 split at h
 ·exact h
 ·split at h
  ·rename_i e;rw[hget_app e hn];exact h
  ·cases h
 ·exact h
 ·exact h
 ·cases h
theorem fix1a {o:GOp} {env:Env} {H:GH} {K:GV→GH→Prop} (hc:gcls o≤1) (h:ZY P o env H K):∃G,K G H∧∀(H1:GH) (k:GV→GH→Prop),(H1=[]∨(names (H1++H)).Nodup)→k G (H1++H)→ZY P o env (H1++H) k:=by
 by_cases hc0:gcls o=0
 ·obtain ⟨G,h1,h2⟩:=fix0 hc0 h
  exact ⟨G,h1,fun H1 k _ hk=>h2 (H1++H) k hk⟩
 suffices h2:∃G,K G H∧(∀k:GV→GH→Prop,k G H→ZY P o env H k)∧∀(H1:GH) (k:GV→GH→Prop),(names (H1++H)).Nodup → k G (H1++H)→ZY P o env (H1++H) k by
  obtain ⟨G,a,b,c⟩:=h2
  refine ⟨G,a,fun H1 k hn hk=> ?_⟩
  rcases hn with rfl|hn
  ·exact b k hk
  ·exact c H1 k hn hk
 cases o<;>first|(exact absurd rfl hc0;done)|(simp[gcls] at hc;done)|skip
 all_goals simp only[ZY,Z5] at h ⊢
 case load n ag a=>
  obtain ⟨g,e,h⟩:=ZR h
  split at h
  ·exact ⟨_,h.2.2,fun k hk=>by rw[e];exact ⟨h.1,h.2.1,hk⟩,fun H1 k hn hk=>by rw[e];exact ⟨h.1,h.2.1,hk⟩⟩
  ·split at h
   ·rename_i e1
    split at h
    ·rename_i e2
     split at h
     ·rename_i e3
      exact ⟨_,h.2.2,fun k hk=>by rw[e];simp only[Z3,e1,e2,e3];exact ⟨h.1,h.2.1,hk⟩,fun H1 k hn hk=>by rw[e];simp only[Z3,hget_app e1 hn,e2,e3];exact ⟨h.1,h.2.1,hk⟩⟩
     ·exact h.elim
    ·exact h.elim
   ·exact h.elim
  ·exact h.elim
 case ldx n ag a b=>
  obtain ⟨h0,h⟩:=h
  obtain ⟨g,e,h⟩:=ZR h
  split at h
  ·exact ⟨_,h.2.2,fun k hk=>⟨h0,by rw[e];exact ⟨h.1,h.2.1,hk⟩⟩,fun H1 k hn hk=>⟨h0,by rw[e];exact ⟨h.1,h.2.1,hk⟩⟩⟩
  ·split at h
   ·rename_i e1
    split at h
    ·rename_i e2
     split at h
     ·rename_i e3
      exact ⟨_,h.2.2,fun k hk=>⟨h0,by rw[e];simp only[Z3,e1,e2,e3];exact ⟨h.1,h.2.1,hk⟩⟩,fun H1 k hn hk=>⟨h0,by rw[e];simp only[Z3,hget_app e1 hn,e2,e3];exact ⟨h.1,h.2.1,hk⟩⟩⟩
     ·exact h.elim
    ·exact h.elim
   ·exact h.elim
  ·exact h.elim
 case ldf n ag a b o=>
  obtain ⟨h0,h⟩:=h
  obtain ⟨g,e,h⟩:=ZR h
  split at h
  ·exact ⟨_,h.2.2,fun k hk=>⟨h0,by rw[e];exact ⟨h.1,h.2.1,hk⟩⟩,fun H1 k hn hk=>⟨h0,by rw[e];exact ⟨h.1,h.2.1,hk⟩⟩⟩
  ·split at h
   ·rename_i e1
    split at h
    ·rename_i e2
     split at h
     ·rename_i e3
      exact ⟨_,h.2.2,fun k hk=>⟨h0,by rw[e];simp only[Z3,e1,e2,e3];exact ⟨h.1,h.2.1,hk⟩⟩,fun H1 k hn hk=>⟨h0,by rw[e];simp only[Z3,hget_app e1 hn,e2,e3];exact ⟨h.1,h.2.1,hk⟩⟩⟩
     ·exact h.elim
    ·exact h.elim
   ·exact h.elim
  ·exact h.elim
 case gidx g len i=>
  obtain ⟨x,e,h⟩:=ZR h
  split at h
  ·split at h
   ·rename_i e1
    split at h
    ·rename_i e2
     exact ⟨_,h.2.2.2,fun k hk=>by rw[e];simp only[Z3,e1,e2];exact ⟨h.1,h.2.1,h.2.2.1,hk⟩,fun H1 k hn hk=>by rw[e];simp only[Z3,hget_app e1 hn,e2];exact ⟨h.1,h.2.1,h.2.2.1,hk⟩⟩
    ·exact h.elim
   ·exact h.elim
  ·exact h.elim
 case gsl g len=>
  split at h
  ·rename_i e1
   exact ⟨_,h.2.2,fun k hk=>by first|exact ⟨h.1,h.2.1,hk⟩|(simp only[e1];exact ⟨h.1,h.2.1,hk⟩),fun H1 k hn hk=>by simp only[hget_app e1 hn];exact ⟨h.1,h.2.1,hk⟩⟩
  ·exact h.elim
 case b2s x=>
  obtain ⟨g,e,h⟩:=ZR h
  split at h
  ·rename_i e1
   split at h
   ·rename_i e2
    exact ⟨_,h.2,fun k hk=>by rw[e];simp only[Z3,e1,e2];exact ⟨h.1,hk⟩,fun H1 k hn hk=>by rw[e];simp only[Z3,srcEls_app e1 hn,e2];exact ⟨h.1,hk⟩⟩
   ·exact h.elim
  ·exact h.elim
 case call det f xs=>
  cases det
  ·simp[gcls] at hc
  ·split at h
   ·rename_i gs e1
    obtain ⟨G,h1,h2⟩:=h
    exact ⟨G,h2,fun k hk=>by first|exact ⟨G,h1,hk⟩|(simp only[e1];exact ⟨G,h1,hk⟩),fun H1 k hn hk=>by first|exact ⟨G,h1.frame1,hk⟩|(simp only[e1];exact ⟨G,h1.frame1,hk⟩)⟩
   ·exact h.elim
 case callv det x xs=>
  cases det
  ·simp[gcls] at hc
  ·obtain ⟨g,e,h⟩:=ZR h
   split at h
   ·split at h
    ·rename_i gs e1
     obtain ⟨G,h1,h2⟩:=h
     exact ⟨G,h2,fun k hk=>by rw[e];simp only[Z3];first|exact ⟨G,h1,hk⟩|(rw[e1];exact ⟨G,h1,hk⟩),fun H1 k hn hk=>by rw[e];simp only[Z3];first|exact ⟨G,h1.frame1,hk⟩|(rw[e1];exact ⟨G,h1.frame1,hk⟩)⟩
    ·exact h.elim
   ·exact h.elim
def gadd:GOp→Bool
 | .box .. | .alloc .. | .bslice .. | .mkslice .. | .calla .. | .callva .. => true
 | _ => false
theorem gsemE_add {o:GOp} {env:Env} {H:GH} {K K':GV→GH→Prop} (hc:gadd o=true) (hk:∀g H1,(names (H1++H)).Nodup → K g (H1++H)→K' g (H1++H)) (h:ZY P o env H K):ZY P o env H K':=by
 cases o<;>first|(simp[gadd] at hc;done)|skip
 all_goals simp only[ZY,Z5] at h ⊢
 case box n x=>exact ZC (fun g ⟨h1,h2,h3⟩=>⟨h1,h2,fun r hr=>hk _ [_] hr (h3 r hr)⟩) h
 case alloc n z=>exact fun r hr=>hk _ [_] hr (h r hr)
 case bslice sz z len ag ps=>
  split at h
  ·split at h
   ·exact ⟨h.1,fun r hr=>hk _ [_] hr (h.2 r hr)⟩
   ·exact h
  ·exact h
 case mkslice sz bytes z l c=>
  refine ZC (fun g h=> ?_) h
  split at h
  ·refine ZC (fun g h=> ?_) h
   split at h
   ·exact ⟨h.1,h.2.1,h.2.2.1,h.2.2.2.1,fun r hr=>hk _ [_] hr (h.2.2.2.2 r hr)⟩
   ·exact h
  ·exact h
 case calla f xs=>
  split at h
  ·obtain ⟨R,h1,h2⟩:=h;exact ⟨R,h1,fun g H1 hr hn=>hk _ _ hn (h2 g H1 hr hn)⟩
  ·exact h
 case callva x xs=>
  refine ZC (fun g h=> ?_) h
  split at h
  ·split at h
   ·obtain ⟨R,h1,h2⟩:=h;exact ⟨R,h1,fun g H1 hr hn=>hk _ _ hn (h2 g H1 hr hn)⟩
   ·exact h
  ·exact h
def rfn (mask:Nat) (i:Nat) (gi:GI):GI:=
 match gi.op with
 | .call false f xs=>if mask / 4 ^ i % 4=0 then { gi with op:= .call true f xs } else if mask / 4 ^ i % 4=1 then { gi with op:= .calla f xs } else gi
 | .callv false x xs=>if mask / 4 ^ i % 4=0 then { gi with op:= .callv true x xs } else if mask / 4 ^ i % 4=1 then { gi with op:= .callva x xs } else gi
 | _ => gi
def rfnL (mask:Nat):Nat→List GI→List GI
 | _,[]=>[]
 | i,gi::gis=>rfn mask i gi::rfnL mask (i+1) gis
theorem rfnL_get (mask:Nat):∀(gis:List GI) (i j:Nat),(rfnL mask i gis)[j]? = (gis[j]?).map (rfn mask (i+j))
 | [],i,j=>rfl
 | g::gis,i,0=>rfl
 | g::gis,i,j+1=>by
  simp only[rfnL,List.getElem?_cons_succ,rfnL_get mask gis (i+1) j]
  congr 2;omega
theorem gsemE_call {f:Nat} {xs:List GE} {env:Env} {H:GH} {K:GV→GH→Prop} (h:ZY P (.call true f xs) env H K∨ZY P (.calla f xs) env H K):ZY P (.call false f xs) env H K:=by
 simp only[ZY,Z5] at h ⊢
 rcases h with h|h
 ·split at h
  ·obtain ⟨G,h1,h2⟩:=h
   exact ⟨_,h1,fun g H' ⟨e1,e2⟩ _ => by subst e1;subst e2;exact h2⟩
  ·exact h
 ·split at h
  ·obtain ⟨R,h1,h2⟩:=h
   exact ⟨_,h1,fun g H' ⟨H1,e1,e2⟩ hn=>by subst e2;exact h2 g H1 e1 hn⟩
  ·exact h
theorem gsemE_callv {x:GE} {xs:List GE} {env:Env} {H:GH} {K:GV→GH→Prop} (h:ZY P (.callv true x xs) env H K∨ZY P (.callva x xs) env H K):ZY P (.callv false x xs) env H K:=by
 simp only[ZY,Z5] at h ⊢
 rcases h with h|h
 ·refine ZC (fun g h=> ?_) h
  split at h
  ·split at h
   ·obtain ⟨G,h1,h2⟩:=h
    exact ⟨_,h1,fun g H' ⟨e1,e2⟩ _ => by subst e1;subst e2;exact h2⟩
   ·exact h
  ·exact h
 ·refine ZC (fun g h=> ?_) h
  split at h
  ·split at h
   ·obtain ⟨R,h1,h2⟩:=h
    exact ⟨_,h1,fun g H' ⟨H1,e1,e2⟩ hn=>by subst e2;exact h2 g H1 e1 hn⟩
   ·exact h
  ·exact h
end
end Go.Gh
namespace Go.Gh
def EqE (a b:Env):Prop:=∀t,ZU a t=ZU b t
def Rsp (K:Env→GH→Prop):Prop:=∀a b H,EqE a b→K a H→K b H
theorem eget_gput (env:Env) (d:Option Nat) (g:GV) (t:Nat):ZU (gput env d g) t=if d=some t then some g else ZU env t:=by
 cases d with
 | none=>simp[gput]
 | some d=>simp[gput,Yu]
theorem EqE.gput {a b:Env} (h:EqE a b) (d:Option Nat) (g:GV):EqE (gput a d g) (gput b d g):=fun t=>by rw[eget_gput,eget_gput,h t]
theorem EqE.comm (env:Env) {d d':Option Nat} (g g':GV) (h:∀t,d=some t→d'≠some t):EqE (Gh.gput (Gh.gput env d g) d' g') (Gh.gput (Gh.gput env d' g') d g):=fun t=>by
 simp only[eget_gput]
 by_cases h1:d=some t
 ·have:=h t h1;simp[h1,this]
 ·simp[h1]
section
variable {P:Program}
theorem gwant_mono {gd:Option (Nat×Bool)} {env:Env} {A A' B B':Prop} (ha:A→A') (hb:B→B') (h:ZM gd env A B):ZM gd env A' B':=by
 unfold ZM at *
 split at h
 ·exact ha h
 ·split at h
  ·exact ⟨fun e=>ha (h.1 e),fun e=>hb (h.2 e)⟩
  ·exact hb h
  ·exact h
theorem gwant_congr {gd:Option (Nat×Bool)} {env env':Env} {A B:Prop} (he:∀t b,gd=some (t,b)→ZU env t=ZU env' t) (h:ZM gd env A B):ZM gd env' A B:=by
 unfold ZM at *
 cases gd with
 | none=>exact h
 | some x=>obtain ⟨t,b⟩:=x;simp only at h ⊢;rw[←he t b rfl];exact h
theorem gstep_to {i:GI} {K K2:Env→GH→Prop} {env env2:Env} {H:GH} (he:∀t∈Zm i,ZU env t=ZU env2 t) (hk:∀g h,K (gput env i.dst g) h→K2 (gput env2 i.dst g) h) (h:ZP P i K env H):ZP P i K2 env2 H:=by
 unfold ZP at *
 refine gwant_congr (env:=env) (fun t b e=>he t (by simp[Zm,e])) (gwant_mono (fun h=> ?_) (fun h=>hk _ _ h) h)
 rw[←Ya (env:=env) (fun t ht=>he t (by simp[Zm,ht]))]
 exact gsemE_mono (fun g h'=>hk g h') h
theorem gstep_mono {i:GI} {K K2:Env→GH→Prop} {env:Env} {H:GH} (hk:∀e h,K e h→K2 e h) (h:ZP P i K env H):ZP P i K2 env H:=
 gstep_to (fun _ _ => rfl) (fun _ _ h=>hk _ _ h) h
theorem gstep_rsp {i:GI} {K:Env→GH→Prop} (hr:Rsp K):Rsp (ZP P i K):=fun _ _ _ he h=>
 gstep_to (fun t _ => he t) (fun g _ h=>hr _ _ _ (he.gput i.dst g) h) h
theorem gstep_fix0 {i:GI} {K:Env→GH→Prop} {env:Env} {H:GH} (hc:gcls i.op=0) (h:ZP P i K env H) :
 ∃G,K (gput env i.dst G) H∧∀H2 (K2:Env→GH→Prop) env2,(∀t∈Zm i,ZU env2 t=ZU env t)→K2 (gput env2 i.dst G) H2→ZP P i K2 env2 H2:=by
 have core:∀(h:ZY P i.op env H fun g H'=>K (gput env i.dst g) H'),∃G,K (gput env i.dst G) H∧∀H2 (K2:Env→GH→Prop) env2,(∀t∈Zm i,ZU env2 t=ZU env t)→K2 (gput env2 i.dst G) H2→ZY P i.op env2 H2 fun g H'=>K2 (gput env2 i.dst g) H':=by
  intro h
  obtain ⟨G,h1,h2⟩:=fix0 hc h
  refine ⟨G,h1,fun H2 K2 env2 he hk=> ?_⟩
  rw[Ya (env':=env) (fun t ht=>he t (by simp[Zm,ht]))]
  exact h2 H2 _ hk
 unfold ZP at *
 cases hg:i.guard with
 | none=>
  rw[hg] at h
  obtain ⟨G,h1,h2⟩:=core h
  exact ⟨G,h1,fun H2 K2 env2 he hk=>h2 H2 K2 env2 he hk⟩
 | some x=>
  obtain ⟨t,want⟩:=x
  rw[hg] at h
  have het:∀env2:Env,(∀t∈Zm i,ZU env2 t=ZU env t)→ZU env2 t=ZU env t:=fun env2 he=>he t (by simp[Zm,hg])
  simp only[ZM] at h
  split at h
  ·rename_i b hb
   by_cases hbw:b=want
   ·obtain ⟨G,h1,h2⟩:=core (h.1 hbw)
    refine ⟨G,h1,fun H2 K2 env2 he hk=> ?_⟩
    simp only[ZM,het env2 he,hb]
    exact ⟨fun _ => h2 H2 K2 env2 he hk,fun e=>by rw[hbw] at e;cases want<;>cases e⟩
   ·refine ⟨uG,h.2 (by cases b<;>cases want<;>simp_all),fun H2 K2 env2 he hk=> ?_⟩
    simp only[ZM,het env2 he,hb]
    exact ⟨fun e=>absurd e hbw,fun _ => hk⟩
  ·rename_i v hv
   refine ⟨uG,h,fun H2 K2 env2 he hk=> ?_⟩
   simp only[ZM,het env2 he,hv]
   exact hk
  ·exact h.elim
theorem gstep_fix1 {i:GI} {K:Env→GH→Prop} {env:Env} {H:GH} (hc:gcls i.op≤1) (h:ZP P i K env H) :
 ∃G,K (gput env i.dst G) H∧∀(K2:Env→GH→Prop) env2,(∀t∈Zm i,ZU env2 t=ZU env t)→K2 (gput env2 i.dst G) H→ZP P i K2 env2 H:=by
 have core:∀(h:ZY P i.op env H fun g H'=>K (gput env i.dst g) H'),∃G,K (gput env i.dst G) H∧∀(K2:Env→GH→Prop) env2,(∀t∈Zm i,ZU env2 t=ZU env t)→K2 (gput env2 i.dst G) H→ZY P i.op env2 H fun g H'=>K2 (gput env2 i.dst g) H':=by
  intro h
  obtain ⟨G,h1,h2⟩:=fix1 hc h
  refine ⟨G,h1,fun K2 env2 he hk=> ?_⟩
  rw[Ya (env':=env) (fun t ht=>he t (by simp[Zm,ht]))]
  exact h2 _ hk
 unfold ZP at *
 cases hg:i.guard with
 | none=>
  rw[hg] at h
  obtain ⟨G,h1,h2⟩:=core h
  exact ⟨G,h1,fun K2 env2 he hk=>h2 K2 env2 he hk⟩
 | some x=>
  obtain ⟨t,want⟩:=x
  rw[hg] at h
  have het:∀env2:Env,(∀t∈Zm i,ZU env2 t=ZU env t)→ZU env2 t=ZU env t:=fun env2 he=>he t (by simp[Zm,hg])
  simp only[ZM] at h
  split at h
  ·rename_i b hb
   by_cases hbw:b=want
   ·obtain ⟨G,h1,h2⟩:=core (h.1 hbw)
    refine ⟨G,h1,fun K2 env2 he hk=> ?_⟩
    simp only[ZM,het env2 he,hb]
    exact ⟨fun _ => h2 K2 env2 he hk,fun e=>by rw[hbw] at e;cases want<;>cases e⟩
   ·refine ⟨uG,h.2 (by cases b<;>cases want<;>simp_all),fun K2 env2 he hk=> ?_⟩
    simp only[ZM,het env2 he,hb]
    exact ⟨fun e=>absurd e hbw,fun _ => hk⟩
  ·rename_i v hv
   refine ⟨uG,h,fun K2 env2 he hk=> ?_⟩
   simp only[ZM,het env2 he,hv]
   exact hk
  ·exact h.elim
theorem gstep_fix1a {i:GI} {K:Env→GH→Prop} {env:Env} {H:GH} (hc:gcls i.op≤1) (h:ZP P i K env H) :
 ∃G,K (gput env i.dst G) H∧∀(H1:GH) (K2:Env→GH→Prop) env2,(H1=[]∨(names (H1++H)).Nodup)→(∀t∈Zm i,ZU env2 t=ZU env t)→K2 (gput env2 i.dst G) (H1++H)→ZP P i K2 env2 (H1++H):=by
 have core:∀(h:ZY P i.op env H fun g H'=>K (gput env i.dst g) H'),∃G,K (gput env i.dst G) H∧∀(H1:GH) (K2:Env→GH→Prop) env2,(H1=[]∨(names (H1++H)).Nodup)→(∀t∈Zm i,ZU env2 t=ZU env t)→K2 (gput env2 i.dst G) (H1++H)→ZY P i.op env2 (H1++H) fun g H'=>K2 (gput env2 i.dst g) H':=by
  intro h
  obtain ⟨G,h1,h2⟩:=fix1a hc h
  refine ⟨G,h1,fun H1 K2 env2 hn he hk=> ?_⟩
  rw[Ya (env':=env) (fun t ht=>he t (by simp[Zm,ht]))]
  exact h2 H1 _ hn hk
 unfold ZP at *
 cases hg:i.guard with
 | none=>
  rw[hg] at h
  obtain ⟨G,h1,h2⟩:=core h
  exact ⟨G,h1,fun H1 K2 env2 hn he hk=>h2 H1 K2 env2 hn he hk⟩
 | some x=>
  obtain ⟨t,want⟩:=x
  rw[hg] at h
  have het:∀env2:Env,(∀t∈Zm i,ZU env2 t=ZU env t)→ZU env2 t=ZU env t:=fun env2 he=>he t (by simp[Zm,hg])
  simp only[ZM] at h
  split at h
  ·rename_i b hb
   by_cases hbw:b=want
   ·obtain ⟨G,h1,h2⟩:=core (h.1 hbw)
    refine ⟨G,h1,fun H1 K2 env2 hn he hk=> ?_⟩
    simp only[ZM,het env2 he,hb]
    exact ⟨fun _ => h2 H1 K2 env2 hn he hk,fun e=>by rw[hbw] at e;cases want<;>cases e⟩
   ·refine ⟨uG,h.2 (by cases b<;>cases want<;>simp_all),fun H1 K2 env2 hn he hk=> ?_⟩
    simp only[ZM,het env2 he,hb]
    exact ⟨fun e=>absurd e hbw,fun _ => hk⟩
  ·rename_i v hv
   refine ⟨uG,h,fun H1 K2 env2 hn he hk=> ?_⟩
   simp only[ZM,het env2 he,hv]
   exact hk
  ·exact h.elim
theorem gstep_add {j:GI} {K K2:Env→GH→Prop} {env env2:Env} {H:GH} (hc:gadd j.op=true) (he:∀t∈Zm j,ZU env t=ZU env2 t)
 (hk:∀g H1,(H1=[]∨(names (H1++H)).Nodup)→K (gput env j.dst g) (H1++H)→K2 (gput env2 j.dst g) (H1++H)) (h:ZP P j K env H):ZP P j K2 env2 H:=by
 unfold ZP at *
 refine gwant_congr (env:=env) (fun t b e=>he t (by simp[Zm,e])) (gwant_mono (fun h=> ?_) (fun h=>hk _ [] (.inl rfl) h) h)
 rw[←Ya (env:=env) (fun t ht=>he t (by simp[Zm,ht]))]
 exact gsemE_add hc (fun g H1 hn h'=>hk g H1 (.inr hn) h') h
theorem gstep_rfn {mask i:Nat} {gi:GI} {K:Env→GH→Prop} {env:Env} {H:GH} (h:ZP P (rfn mask i gi) K env H):ZP P gi K env H:=by
 unfold rfn at h
 split at h
 ·rename_i f xs e
  split at h
  ·unfold ZP at *
   exact gwant_mono (fun h=>by rw[e];exact gsemE_call (.inl h)) (fun h=>h) h
  ·split at h
   ·unfold ZP at *
    exact gwant_mono (fun h=>by rw[e];exact gsemE_call (.inr h)) (fun h=>h) h
   ·exact h
 ·rename_i f xs e
  split at h
  ·unfold ZP at *
   exact gwant_mono (fun h=>by rw[e];exact gsemE_callv (.inl h)) (fun h=>h) h
  ·split at h
   ·unfold ZP at *
    exact gwant_mono (fun h=>by rw[e];exact gsemE_callv (.inr h)) (fun h=>h) h
   ·exact h
 ·exact h
def gap (i j:GI):Bool:=
 (match i.dst with
  | some d=> !(Zm j).contains d&&j.dst != some d
  | none=>true) &&
 (match j.dst with
  | some d=> !(Zm i).contains d
  | none=>true)
def gapx (i j:GI):Bool:=
 match i.guard,i.op,j.guard,j.op with
 | none,.ldx _ _ _ b,none,.appx ks _ _ _ _ => ks.contains b
 | none,.load _ _ (.t a),none,.callk ks _ _ => ks.contains a
 | none,.ldf _ _ _ b o,none,.callf b' o' _ _ => b == b'&&o == o'
 | _,_,_,_ => false
theorem gapx_some {i j:GI} (h:gapx i j=true):(∃n ag a v ks sz b s x,i.guard=none∧i.op = .ldx n ag a v∧j.guard=none∧j.op = .appx ks sz b s x∧v∈ks)∨(∃n ag a ks f xs,i.guard=none∧i.op = .load n ag (.t a)∧j.guard=none∧j.op = .callk ks f xs∧a∈ks)∨(∃n ag a b o f xs,i.guard=none∧i.op = .ldf n ag a b o∧j.guard=none∧j.op = .callf b o f xs):=by
 unfold gapx at h
 split at h
 ·rename_i h1 h2 h3 h4
  exact .inl ⟨_,_,_,_,_,_,_,_,_,h1,h2,h3,h4,by simpa using h⟩
 ·rename_i h1 h2 h3 h4
  exact .inr (.inl ⟨_,_,_,_,_,_,h1,h2,h3,h4,by simpa using h⟩)
 ·rename_i h1 h2 h3 h4
  simp only[Bool.and_eq_true,beq_iff_eq] at h
  obtain ⟨rfl,rfl⟩:=h
  exact .inr (.inr ⟨_,_,_,_,_,_,_,h1,h2,h3,h4⟩)
 ·cases h
theorem kpt_mem {env:Env} {H H':GH} {a:Nat}:∀{ks:List Nat},kpt env H H' ks→a∈ks→kpt1 (ZU env a) H H'
 | [],_,h=>by cases h
 | b::ks,h,hm=>by
  simp only[kpt] at h
  rcases List.mem_cons.1 hm with rfl|hm
  ·exact h.1
  ·exact kpt_mem h.2 hm
theorem callk_far {ks:List Nat} {f:Nat} {xs:List GE} {env:Env} {H:GH} {K K':GV→GH→Prop} (h:ZY P (.callk ks f xs) env H K)
 (hk:∀g H',(∀a∈ks,∀q z i o,ZU env a=some (.ptr q z i o)→Z6 H' q=Z6 H q)→K g H'→K' g H'):ZY P (.callk ks f xs) env H K':=by
 simp only[ZY] at h ⊢
 split at h
 ·obtain ⟨R,h1,h2⟩:=h
  refine ⟨R,h1,fun g H' hr hn=> ?_⟩
  obtain ⟨h3,h4⟩:=h2 g H' hr hn
  refine ⟨h3,hk g H' (fun a ha q z i o e=> ?_) h4⟩
  have:=kpt_mem h3 ha
  rw[e] at this
  exact this
 ·exact h
theorem mem_names {r:Nat}:∀{H:GH},(Z6 H r).isSome → r∈names H
 | [],h=>by simp[Z6] at h
 | (q,x)::H,h=>by
  simp only[Z6] at h
  simp only[names,List.map_cons,List.mem_cons]
  split at h
  ·rename_i e;exact .inl e.symm
  ·exact .inr (mem_names h)
theorem hget_hdel0 {r q:Nat} (h:q≠r):∀{H:GH},Z6 (ZL H r) q=Z6 H q
 | []=>rfl
 | (i,x)::H=>by
  simp only[ZL]
  split
  ·rename_i h1
   simp only[Z6]
   rw[if_neg (fun e=>h (e.symm.trans h1))]
  ·simp only[Z6,hget_hdel0 h (H:=H)]
theorem nxs_mem {env:Env} {s:Option GV} {a:Nat}:∀{ks:List Nat},nxs env s ks→a∈ks→nx1 (ZU env a) s
 | [],_,h=>by cases h
 | b::ks,h,hm=>by
  simp only[nxs] at h
  rcases List.mem_cons.1 hm with rfl|hm
  ·exact h.1
  ·exact nxs_mem h.2 hm
theorem appx_far {ks:List Nat} {sz b:Nat} {s x:GE} {env:Env} {H:GH} {K K':GV→GH→Prop} (h:ZY P (.appx ks sz b s x) env H K)
 (hk:∀g H',(∀a∈ks,∀q z i o,ZU env a=some (.ptr q z i o)→(Z6 H q).isSome → Z6 H' q=Z6 H q)→K g H'→K' g H'):ZY P (.appx ks sz b s x) env H K':=by
 simp only[ZY,Z5] at h ⊢
 obtain ⟨hx,h⟩:=h
 refine ⟨hx,ZC (fun gx h=> ?_) h⟩
 split at h
 ·cases hs:ge env s with
  | none=>rw[hs] at h;exact h
  | some gs=>
   rw[hs] at h hx
   simp only[Z3] at h ⊢
   split at h
   ·refine ⟨h.1,h.2.1,fun r hr=>hk _ _ (fun a ha q z i o he hq=> ?_) (h.2.2 r hr)⟩
    have hm:=mem_names hq
    simp only[names,List.map_cons,List.nodup_cons] at hr
    simp only[Z6]
    rw[if_neg (fun e:r=q=>hr.1 (by rw[e];exact hm))]
   ·rename_i r sz' n
    split at h
    ·refine ⟨h.1,h.2.1,h.2.2.1,h.2.2.2.1,h.2.2.2.2.1,fun r' hr=>hk _ _ (fun a ha q z i o he hq=> ?_) (h.2.2.2.2.2 r' hr)⟩
     have hne:¬q=r:=by
      have:=nxs_mem hx ha
      rw[he] at this
      exact this
     have e1:Z6 (ZL H r) q=Z6 H q:=hget_hdel0 hne
     have hm:=mem_names (H:=ZL H r) (r:=q) (by rw[e1];exact hq)
     simp only[names,List.map_cons,List.nodup_cons] at hr
     simp only[Z6]
     rw[if_neg (fun e:r'=q=>hr.1 (by rw[e];exact hm)),e1]
    ·exact h
   ·exact h
 ·exact h
theorem load_far {n:Nat} {ag:Bool} {a:Nat} {env:Env} {H:GH} {K:GV→GH→Prop} (h:ZY P (.load n ag (.t a)) env H K) :
 ∃G,K G H∧∀(env2:Env) (H2:GH) (k:GV→GH→Prop),ZU env2 a=ZU env a→(∀q z i o,ZU env a=some (.ptr q z i o)→(Z6 H q).isSome → Z6 H2 q=Z6 H q)→k G H2→ZY P (.load n ag (.t a)) env2 H2 k:=by
 simp only[ZY,Z5] at h ⊢
 obtain ⟨g,e,h⟩:=ZR h
 have e':ZU env a=some g:=by
  simp only[ge] at e
  split at e
  ·cases e
  ·exact e
 have eg:∀env2:Env,ZU env2 a=ZU env a→ge env2 (.t a)=some g:=fun env2 h2=>by
  rw[←e];simp only[ge,h2]
 split at h
 ·exact ⟨_,h.2.2,fun env2 H2 k h2 h3 hk=>by rw[eg env2 h2];exact ⟨h.1,h.2.1,hk⟩⟩
 ·rename_i r sz i o
  split at h
  ·rename_i sz' es e1
   split at h
   ·rename_i e2
    split at h
    ·rename_i e3
     refine ⟨_,h.2.2,fun env2 H2 k h2 h3 hk=> ?_⟩
     have e4:=h3 r sz i o e' (by rw[e1];rfl)
     rw[e1] at e4
     rw[eg env2 h2]
     simp only[Z3,e4,e2,e3]
     exact ⟨h.1,h.2.1,hk⟩
    ·exact h.elim
   ·exact h.elim
  ·exact h.elim
 ·exact h.elim
theorem callf_far {b o f:Nat} {xs:List GE} {env:Env} {H:GH} {K K':GV→GH→Prop} (h:ZY P (.callf b o f xs) env H K)
 (hk:∀g H',kptF (ZU env b) o H H'→K g H'→K' g H'):ZY P (.callf b o f xs) env H K':=by
 simp only[ZY] at h ⊢
 split at h
 ·obtain ⟨R,h1,h2⟩:=h
  refine ⟨R,h1,fun g H' hr hn=> ?_⟩
  obtain ⟨h3,h4⟩:=h2 g H' hr hn
  exact ⟨h3,hk g H' h3 h4⟩
 ·exact h
theorem ldf_far {n:Nat} {ag:Bool} {a b o:Nat} {env:Env} {H:GH} {K:GV→GH→Prop} (h:ZY P (.ldf n ag a b o) env H K) :
 ∃G,K G H∧∀(env2:Env) (H2:GH) (k:GV→GH→Prop),ZU env2 a=ZU env a→ZU env2 b=ZU env b→kptF (ZU env b) o H H2→k G H2→ZY P (.ldf n ag a b o) env2 H2 k:=by
 simp only[ZY,Z5] at h ⊢
 obtain ⟨h0,h⟩:=h
 obtain ⟨g,e,h⟩:=ZR h
 have e':ZU env a=some g:=by
  simp only[ge] at e
  split at e
  ·cases e
  ·exact e
 have eg:∀env2:Env,ZU env2 a=ZU env a→ge env2 (.t a)=some g:=fun env2 h2=>by
  rw[←e];simp only[ge,h2]
 split at h
 ·exact ⟨_,h.2.2,fun env2 H2 k h2 h2' h3 hk=>⟨by rw[h2,h2'];exact h0,by rw[eg env2 h2];exact ⟨h.1,h.2.1,hk⟩⟩⟩
 ·rename_i r sz i o'
  split at h
  ·rename_i sz' es e1
   split at h
   ·rename_i e0 e2
    split at h
    ·rename_i gv e3
     refine ⟨_,h.2.2,fun env2 H2 k h2 h2' h3 hk=>⟨by rw[h2,h2'];exact h0,?_⟩⟩
     rw[eg env2 h2]
     rw[e'] at h0
     cases hb:ZU env b with
     | none=>rw[hb] at h0;exact h0.elim
     | some gb=>
      rw[hb] at h0 h3
      cases gb<;>first|exact h0.elim|skip
      rename_i r2 y j m
      obtain ⟨rfl,rfl,rfl,rfl⟩:r=r2∧sz=y∧i=j∧o'=o:=h0
      have h4:fldV (Z6 H2 r) sz i o' n ag=some gv:=by
       have h5:fldV (Z6 H2 r) sz i o' n ag=fldV (Z6 H r) sz i o' n ag:=h3 n ag
       rw[h5]
       simp only[fldV,e1,h.1,if_true,e2,e3]
      unfold fldV at h4
      split at h4
      case h_2=>cases h4
      rename_i s2 es2 f1
      split at h4
      case isFalse=>cases h4
      rename_i f2
      split at h4
      case h_2=>cases h4
      rename_i e4 f3
      simp only[Z3,f1,f3,h4]
      exact ⟨f2,h.2.1,hk⟩
    ·exact h.elim
   ·exact h.elim
  ·exact h.elim
 ·exact h.elim
def free (i j:GI):Bool:=gap i j&&((gcls i.op == 0||(gcls i.op == 1&&(gcls j.op≤1||gadd j.op)))||gapx i j)
theorem swap {i j:GI} {K:Env→GH→Prop} {env:Env} {H:GH} (hf:free i j=true) (hr:Rsp K) (h:ZP P i (ZP P j K) env H):ZP P j (ZP P i K) env H:=by
 simp only[free,Bool.and_eq_true,Bool.or_eq_true,beq_iff_eq,decide_eq_true_eq] at hf
 obtain ⟨hg,hc⟩:=hf
 simp only[gap,Bool.and_eq_true] at hg
 have h1:∀d,i.dst=some d→d∉Zm j:=fun d e=>by have:=hg.1;simp[e] at this;exact this.1
 have h2:∀d,i.dst=some d→j.dst≠some d:=fun d e=>by have:=hg.1;simp[e] at this;exact this.2
 have h3:∀d,j.dst=some d→d∉Zm i:=fun d e=>by have:=hg.2;simp[e] at this;exact this
 have e1:∀(G:GV),∀t∈Zm j,ZU (gput env i.dst G) t=ZU env t:=fun G t ht=>by
  rw[eget_gput,if_neg (fun e=>h1 t e ht)]
 have e2:∀(g:GV),∀t∈Zm i,ZU (gput env j.dst g) t=ZU env t:=fun g t ht=>by
  rw[eget_gput,if_neg (fun e=>h3 t e ht)]
 rcases hc with hc|hc
 case inr=>
  rcases gapx_some hc with ⟨n,ag,a,v,ks,sz,b,s,x,g1,o1,g2,o2,hm⟩|⟨n,ag,a,ks,f,xs,g1,o1,g2,o2,hm⟩|⟨n,ag,a,b,o,f,xs,g1,o1,g2,o2⟩
  case inr.inr=>
   have l1:Zm i=[a,b]:=by simp[Zm,g1,o1,looks,YS]
   unfold ZP at h ⊢
   rw[g1] at h
   rw[g2]
   simp only[ZM] at h ⊢
   rw[o1] at h
   rw[o2]
   obtain ⟨G,k1,k2⟩:=ldf_far h
   rw[g2] at k1
   simp only[ZM] at k1
   rw[o2] at k1
   have e0:ZY P (.callf b o f xs) env H (fun g H'=>K (gput (gput env i.dst G) j.dst g) H'):=by
    rw[←Ya (env:=gput env i.dst G) (fun t ht=>e1 G t (by simp[Zm,g2,o2,ht]))]
    exact k1
   refine callf_far e0 fun g H' hfar hK=> ?_
   rw[g1]
   simp only[ZM]
   rw[o1]
   have ea:=e2 g a (by rw[l1];simp)
   have eb:=e2 g b (by rw[l1];simp)
   exact k2 _ H' (fun g' H'=>K (gput (gput env j.dst g) i.dst g') H') ea eb hfar (hr _ _ _ (EqE.comm env G g h2) hK)
  case inr.inl=>
   have l1:Zm i=[a]:=by simp[Zm,g1,o1,looks,YS]
   unfold ZP at h ⊢
   rw[g1] at h
   rw[g2]
   simp only[ZM] at h ⊢
   rw[o1] at h
   rw[o2]
   obtain ⟨G,k1,k2⟩:=load_far (a:=a) (n:=n) (ag:=ag) (env:=env) (H:=H) h
   rw[g2] at k1
   simp only[ZM] at k1
   rw[o2] at k1
   have e0:ZY P (.callk ks f xs) env H (fun g H'=>K (gput (gput env i.dst G) j.dst g) H'):=by
    rw[←Ya (env:=gput env i.dst G) (fun t ht=>e1 G t (by simp[Zm,g2,o2,ht]))]
    exact k1
   refine callk_far e0 fun g H' hfar hK=> ?_
   rw[g1]
   simp only[ZM]
   rw[o1]
   have ea:=e2 g a (by rw[l1];simp)
   exact k2 _ H' (fun g' H'=>K (gput (gput env j.dst g) i.dst g') H') ea (fun q z i o he hq=>hfar a hm q z i o he) (hr _ _ _ (EqE.comm env G g h2) hK)
  have l1:Zm i=[a,v]:=by simp[Zm,g1,o1,looks,YS]
  unfold ZP at h ⊢
  rw[g1] at h
  rw[g2]
  simp only[ZM] at h ⊢
  rw[o1] at h
  rw[o2]
  have hrg:rg1 (ZU env a) (ZU env v):=by simp only[ZY] at h;exact h.1
  obtain ⟨G,k1,k2⟩:=load_far (a:=a) (n:=n) (ag:=ag) (env:=env) (H:=H) (by simp only[ZY] at h ⊢;exact h.2)
  rw[g2] at k1
  simp only[ZM] at k1
  rw[o2] at k1
  have e0:ZY P (.appx ks sz b s x) env H (fun g H'=>K (gput (gput env i.dst G) j.dst g) H'):=by
   rw[←Ya (env:=gput env i.dst G) (fun t ht=>e1 G t (by simp[Zm,g2,o2,ht]))]
   exact k1
  refine appx_far e0 fun g H' hfar hK=> ?_
  rw[g1]
  simp only[ZM]
  rw[o1]
  have ea:=e2 g a (by rw[l1];simp)
  have ev:=e2 g v (by rw[l1];simp)
  have:=k2 _ H' (fun g' H'=>K (gput (gput env j.dst g) i.dst g') H') ea (fun q z i o he hq=>by
   rw[he] at hrg
   cases hv:ZU env v with
   | none=>rw[hv] at hrg;exact hrg.elim
   | some gv=>
    rw[hv] at hrg
    cases gv<;>first|exact hrg.elim|skip
    rename_i r z' i' o'
    have:q=r:=hrg
    subst this
    exact hfar v hm q z' i' o' hv hq) (hr _ _ _ (EqE.comm env G g h2) hK)
  simp only[ZY] at this ⊢
  exact ⟨by rw[ea,ev];exact hrg,this⟩
 rcases hc with hc|⟨hc,hc'⟩
 ·obtain ⟨G,k1,k2⟩:=gstep_fix0 hc h
  exact gstep_to (e1 G) (fun g h' hk=>k2 h' K _ (e2 g) (hr _ _ _ (EqE.comm env G g h2) hk)) k1
 ·rcases hc' with hc'|hc'
  ·obtain ⟨G,k1,k2⟩:=gstep_fix1 (by omega) h
   obtain ⟨g,m1,m2⟩:=gstep_fix1 hc' k1
   exact m2 _ env (fun t ht=>(e1 G t ht).symm) (k2 K _ (e2 g) (hr _ _ _ (EqE.comm env G g h2) m1))
  ·obtain ⟨G,k1,k2⟩:=gstep_fix1a (by omega) h
   exact gstep_add hc' (e1 G) (fun g H1 hn m1=>k2 H1 K _ hn (e2 g) (hr _ _ _ (EqE.comm env G g h2) m1)) k1
end
end Go.Gh
namespace Go.Gh
def cntTo (listed:Array Bool):Nat→Nat
 | 0=>0
 | n+1=>cntTo listed n+(if listed.getD n true then 0 else 1)
theorem getD_set (listed:Array Bool) (i j:Nat):(listed.setIfInBounds i true).getD j true=(if j=i then true else listed.getD j true):=by
 by_cases h:j=i
 ·subst h
  rcases Nat.lt_or_ge j listed.size with h'|h'
  ·simp[h']
  ·simp
 ·rw[if_neg h,getD_set_ne true (Ne.symm h)]
theorem cntTo_set (listed:Array Bool) (i:Nat) (hi:listed.getD i true=false):∀n,(i<n→cntTo (listed.setIfInBounds i true) n+1=cntTo listed n)∧(n≤i→cntTo (listed.setIfInBounds i true) n=cntTo listed n)
 | 0=>⟨fun h=>absurd h (Nat.not_lt_zero _),fun _ => rfl⟩
 | n+1=>by
  obtain ⟨h1,h2⟩:=cntTo_set listed i hi n
  simp only[cntTo,getD_set]
  refine ⟨fun h=> ?_,fun h=> ?_⟩
  ·by_cases e:n=i
   ·subst e;rw[h2 (Nat.le_refl _)];simp[hi]
   ·rw[if_neg e]
    have:=h1 (by omega)
    omega
  ·have hn:n≠i:=by omega
   rw[h2 (by omega)];simp only[if_neg hn]
theorem cntTo_zero {listed:Array Bool}:∀{n:Nat},cntTo listed n=0→∀j,j<n→listed.getD j true=true
 | 0,_,j,hj=>absurd hj (Nat.not_lt_zero _)
 | n+1,h,j,hj=>by
  simp only[cntTo] at h
  by_cases e:j=n
  ·subst e
   cases hb:listed.getD j true
   ·rw[hb] at h;simp at h
   ·rfl
  ·exact cntTo_zero (n:=n) (by omega) j (by omega)
def transAux (ops:List Oper):List (List Nat)→List (List Nat)
 | acc=>ops.foldl (fun acc o=>acc++[(o.after.toList.flatMap fun e=>if Region.binds .any e then e.on::acc.getD e.on [] else []).eraseDups]) acc
def trans (ops:Array Oper):List (List Nat):=transAux ops.toList []
def Closed (ops:Array Oper) (listed:Array Bool):Prop:=∀(j:Nat) (o:Oper),ops[j]? = some o→listed.getD j true=true→∀e∈o.after,Region.binds .any e=true→listed.getD e.on false=true
def Done (ops:Array Oper) (listed:Array Bool) (j:Nat):Prop:=∀o,ops[j]? = some o→∀e∈o.after,Region.binds .any e=true→listed.getD e.on false=true
theorem mem_eraseDups' {l:List Nat} {x:Nat} (h:x∈l.eraseDups):x∈l:=by
 simpa using h
theorem listed_true_of_false {listed:Array Bool} {i:Nat} (h:listed.getD i false=true):listed.getD i true=true:=by
 rcases Nat.lt_or_ge i listed.size with h'|h'
 ·simp[h'] at h ⊢;exact h
 ·simp[Array.getElem?_eq_none h'] at h
theorem trans_done {ops:Array Oper} {listed:Array Bool} (hc:Closed ops listed):∀(l:List Oper) (acc:List (List Nat)),(∀k o,l[k]? = some o→ops[acc.length+k]? = some o) →
 (∀j,j<acc.length→Done ops listed j→∀i∈acc.getD j [],listed.getD i false=true) →
 ∀j,Done ops listed j→∀i∈(transAux l acc).getD j [],listed.getD i false=true
 | [],acc,_,ha,j,hd,i,hi=>by
  simp only[transAux,List.foldl_nil] at hi
  by_cases hj:j<acc.length
  ·exact ha j hj hd i hi
  ·simp[List.getD,List.getElem?_eq_none (Nat.le_of_not_lt hj)] at hi
 | o::l,acc,hl,ha,j,hd,i,hi=>by
  have ho:=hl 0 o rfl
  simp only[Nat.add_zero] at ho
  refine trans_done hc l (acc++[(o.after.toList.flatMap fun e=>if Region.binds .any e then e.on::acc.getD e.on [] else []).eraseDups]) (fun k o' hk=> ?_) (fun j' hj' hd' i' hi'=> ?_) j hd i hi
  ·have:=hl (k+1) o' (by simpa using hk)
   simpa[Nat.add_assoc,Nat.add_comm 1 k] using this
  ·by_cases hjl:j'<acc.length
   ·rw[List.getD,List.getElem?_append_left hjl] at hi'
    exact ha j' hjl hd' i' hi'
   ·have hje:j'=acc.length:=by simp at hj';omega
    subst hje
    rw[List.getD,List.getElem?_append_right (Nat.le_refl _)] at hi'
    simp only[Nat.sub_self,List.getElem?_cons_zero,Option.getD_some] at hi'
    have hi2:=mem_eraseDups' hi'
    simp only[List.mem_flatMap] at hi2
    obtain ⟨e,he,hin⟩:=hi2
    split at hin
    ·rename_i hb
     have hlisted:=hd' o ho e (by simpa using he) hb
     rcases List.mem_cons.1 hin with rfl|hin
     ·exact hlisted
     ·by_cases hel:e.on<acc.length
      ·exact ha e.on hel (fun o' ho'=>hc e.on o' ho' (listed_true_of_false hlisted)) i' hin
      ·simp[List.getD,List.getElem?_eq_none (Nat.le_of_not_lt hel)] at hin
    ·simp at hin
def dep (ops:Array Oper) (j i:Nat):Bool:=((trans ops).getD j []).contains i
theorem dep_done {ops:Array Oper} {listed:Array Bool} (hc:Closed ops listed) {i j:Nat} (hj:j∈Region.ready .any ops listed) (hi:listed.getD i false=false):dep ops j i=false:=by
 cases hd:dep ops j i
 ·rfl
 ·simp only[dep,List.contains_eq_mem,decide_eq_true_eq] at hd
  obtain ⟨_,oj,hoj,hall⟩:=mem_ready.1 hj
  have:=trans_done hc ops.toList [] (fun k o hk=>by simpa using hk) (fun j hj=>absurd hj (Nat.not_lt_zero _)) j (fun o ho e he hb=>by
   rw[hoj] at ho;cases ho;exact hall e he hb) i hd
  rw[hi] at this;cases this
section
variable {P:Program} {ops:Array Oper} {gis:List GI} {K:Env→GH→Prop}
def gOp (P:Program) (gis:List GI) (i:Nat) (K:Env→GH→Prop) (env:Env) (H:GH):Prop:=
 match gis[i]? with
 | some gi=>ZP P gi K env H
 | none=>K env H
theorem gOp_mono {i:Nat} {K K2:Env→GH→Prop} {env:Env} {H:GH} (hk:∀e h,K e h→K2 e h) (h:gOp P gis i K env H):gOp P gis i K2 env H:=by
 unfold gOp at *
 split at h
 ·exact gstep_mono hk h
 ·exact hk _ _ h
def gAny (P:Program) (ops:Array Oper) (gis:List GI) (K:Env→GH→Prop):Nat→Array Bool→Env→GH→Prop
 | 0,_,env,H=>K env H
 | f+1,listed,env,H=>(Region.ready .any ops listed=[]→K env H)∧∀i∈Region.ready .any ops listed,gOp P gis i (gAny P ops gis K f (listed.setIfInBounds i true)) env H
theorem gAny_le {gis':List GI} (hle:∀i (K:Env→GH→Prop) env H,gOp P gis' i K env H→gOp P gis i K env H):∀f listed env H,gAny P ops gis' K f listed env H→gAny P ops gis K f listed env H
 | 0,_,_,_,h=>h
 | f+1,_,env,H,h=>⟨h.1,fun i hi=>hle i _ env H (gOp_mono (fun e h' hk=>gAny_le hle f _ e h' hk) (h.2 i hi))⟩
theorem gAny_rsp (hr:Rsp K):∀f listed,Rsp (gAny P ops gis K f listed)
 | 0,_ => hr
 | f+1,listed=>fun a b H he h=>by
  refine ⟨fun e=>hr _ _ _ he (h.1 e),fun i hi=> ?_⟩
  have h2:=h.2 i hi
  unfold gOp at *
  split at h2
  ·exact gstep_rsp (gAny_rsp hr f _) _ _ _ he h2
  ·exact gAny_rsp hr f _ _ _ _ he h2
def freeAll (ops:Array Oper) (gis:List GI) (listed:Array Bool) (i:Nat):Bool:=
 (List.range ops.size).all fun j=>j == i||listed.getD j true||dep ops j i ||
  (match gis[i]?,gis[j]? with|some a,some b=>free a b | _,_ => false)
theorem Closed.set {listed:Array Bool} (hc:Closed ops listed) {j:Nat} (hj:j∈Region.ready .any ops listed):Closed ops (listed.setIfInBounds j true):=by
 intro k o hk hl e he hb
 have hlist:listed.getD e.on false=true:=by
  rw[getD_set] at hl
  by_cases hkj:k=j
  ·subst hkj
   obtain ⟨_,oj,hoj,hall⟩:=mem_ready.1 hj
   rw[hk] at hoj;cases hoj
   exact hall e he hb
  ·rw[if_neg hkj] at hl;exact hc k o hk hl e he hb
 by_cases hej:e.on=j
 ·rcases Nat.lt_or_ge j listed.size with h'|h'
  ·subst hej;simp[h']
  ·subst hej;simp[Array.getElem?_eq_none h'] at hlist
 ·rw[getD_set_ne false (Ne.symm hej)];exact hlist
theorem gAny_first (hr:Rsp K):∀(f:Nat) (listed:Array Bool) (i:Nat) (env:Env) (H:GH),listed.size=ops.size→cntTo listed ops.size=f+1→i∈Region.ready .any ops listed→Closed ops listed→freeAll ops gis listed i=true →
 gOp P gis i (gAny P ops gis K f (listed.setIfInBounds i true)) env H→gAny P ops gis K (f+1) listed env H:=by
 intro f
 induction f with
 | zero=>
  intro listed i env H hsz hcnt hi hc hf h
  refine ⟨fun e=>(by rw[e] at hi;cases hi),fun j hj=> ?_⟩
  by_cases hji:j=i
  ·subst hji;exact h
  ·exfalso
   have hi1:=(mem_ready.1 hi).1
   have hj1:=(mem_ready.1 hj).1
   obtain ⟨oi,hoi,_⟩:=(mem_ready.1 hi).2
   obtain ⟨oj,hoj,_⟩:=(mem_ready.1 hj).2
   have hilt:i<ops.size:=by
    rcases Nat.lt_or_ge i ops.size with h'|h'
    ·exact h'
    ·simp[Array.getElem?_eq_none h'] at hoi
   have hjlt:j<ops.size:=by
    rcases Nat.lt_or_ge j ops.size with h'|h'
    ·exact h'
    ·simp[Array.getElem?_eq_none h'] at hoj
   have:=(cntTo_set listed i hi1 ops.size).1 hilt
   have h0:=cntTo_zero (listed:=listed.setIfInBounds i true) (n:=ops.size) (by omega) j hjlt
   rw[getD_set,if_neg hji,hj1] at h0
   cases h0
 | succ f ih=>
  intro listed i env H hsz hcnt hi hc hf h
  refine ⟨fun e=>(by rw[e] at hi;cases hi),fun j hj=> ?_⟩
  by_cases hji:j=i
  ·subst hji;exact h
  ·have hi1:=(mem_ready.1 hi).1
   have hj1:=(mem_ready.1 hj).1
   obtain ⟨oj,hoj,_⟩:=(mem_ready.1 hj).2
   have hjlt:j<ops.size:=by
    rcases Nat.lt_or_ge j ops.size with h'|h'
    ·exact h'
    ·simp[Array.getElem?_eq_none h'] at hoj
   have hif:listed.getD i false=false:=by
    rcases Nat.lt_or_ge i listed.size with h'|h'
    ·simp[h'] at hi1 ⊢;exact hi1
    ·simp[Array.getElem?_eq_none h'] at hi1
   have hnd:=dep_done hc hj hif
   have hff:=hf
   simp only[freeAll,List.all_eq_true,List.mem_range] at hf
   have hfj:=hf j hjlt
   simp only[Bool.or_eq_true,beq_iff_eq,hji,hj1,hnd,false_or,Bool.false_eq_true] at hfj
   split at hfj
   case h_2=>cases hfj
   rename_i gi gj hgi hgj
   have hrA:=gAny_rsp (P:=P) (ops:=ops) (gis:=gis) hr f ((listed.setIfInBounds i true).setIfInBounds j true)
   have h1:ZP P gi (ZP P gj (gAny P ops gis K f ((listed.setIfInBounds i true).setIfInBounds j true))) env H:=by
    have:=gOp_mono (K2:=gOp P gis j (gAny P ops gis K f ((listed.setIfInBounds i true).setIfInBounds j true))) (fun e h' hk=>hk.2 j (ready_mono hj hji)) h
    have e1:gOp P gis j=ZP P gj:=by funext K' e' h';simp only[gOp,hgj]
    have e2:gOp P gis i=ZP P gi:=by funext K' e' h';simp only[gOp,hgi]
    rw[e1,e2] at this
    exact this
   have h2:=swap hfj hrA h1
   have h3:gOp P gis j (gOp P gis i (gAny P ops gis K f ((listed.setIfInBounds i true).setIfInBounds j true))) env H:=by
    have e1:gOp P gis j=ZP P gj:=by funext K' e' h';simp only[gOp,hgj]
    have e2:gOp P gis i=ZP P gi:=by funext K' e' h';simp only[gOp,hgi]
    rw[e1,e2];exact h2
   refine gOp_mono (fun e h' hk=> ?_) h3
   have hcnt':=(cntTo_set listed j hj1 ops.size).1 hjlt
   refine ih (listed.setIfInBounds j true) i e h' (by simpa using hsz) (by omega) (ready_mono hi (Ne.symm hji)) (hc.set hj) ?_ ?_
   ·simp only[freeAll,List.all_eq_true,List.mem_range] at hff ⊢
    intro k hk
    have:=hff k hk
    simp only[Bool.or_eq_true] at this ⊢
    rcases this with ((h1|h1)|h1)|h1
    ·exact .inl (.inl (.inl h1))
    ·refine .inl (.inl (.inr ?_));rw[getD_set];split<;>simp_all
    ·exact .inl (.inr h1)
    ·exact .inr h1
   ·rw[Array.setIfInBounds_comm _ _ hji];exact hk
def lexG (ops:Array Oper) (gis:List GI):List Nat→Array Bool→Bool
 | [],_ => true
 | i::rest,listed=>(Region.ready .any ops listed).contains i&&freeAll ops gis listed i&&lexG ops gis rest (listed.setIfInBounds i true)
def gOrd (P:Program) (gis:List GI) (K:Env→GH→Prop):List Nat→Env→GH→Prop
 | [],env,H=>K env H
 | i::rest,env,H=>gOp P gis i (gOrd P gis K rest) env H
theorem gAny_lex (hr:Rsp K):∀(ord:List Nat) (listed:Array Bool) (env:Env) (H:GH),listed.size=ops.size→cntTo listed ops.size=ord.length→Closed ops listed→lexG ops gis ord listed=true →
 gOrd P gis K ord env H→gAny P ops gis K ord.length listed env H
 | [],_,_,_,_,_,_,_,h=>h
 | i::rest,listed,env,H,hsz,hcnt,hc,hl,h=>by
  simp only[lexG,Bool.and_eq_true,List.contains_eq_mem,decide_eq_true_eq] at hl
  obtain ⟨⟨hi,hf⟩,hl⟩:=hl
  have hi1:=(mem_ready.1 hi).1
  obtain ⟨oi,hoi,_⟩:=(mem_ready.1 hi).2
  have hilt:i<ops.size:=by
   rcases Nat.lt_or_ge i ops.size with h'|h'
   ·exact h'
   ·simp[Array.getElem?_eq_none h'] at hoi
  have hcnt':=(cntTo_set listed i hi1 ops.size).1 hilt
  simp only[List.length_cons] at hcnt ⊢
  exact gAny_first hr rest.length listed i env H hsz hcnt hi hc hf (gOp_mono (fun e h' hk=>gAny_lex hr rest _ e h' (by simpa using hsz) (by omega) (hc.set hi) hl hk) h)
end
end Go.Gh
namespace Go.Gh
structure SI (w0:World) (D0:Nat→Prop) (O0:List Nat) (env:Env) (H:GH) (tmps:Array Value) (w:World) (D:Nat→Prop) (Ω:List Nat) (ρw:Nat→Option Nat):Prop where
 em:∀i g,ZU env i=some g→(∀n,g ≠ .raw n)→∃v,tmps[i]? = some v∧MV w D g v []
 rw:∀i n,ZU env i=some (.raw n)→∃b c T,ρw i=some b∧tmps[i]? = some (.pointer (some ⟨b,0,none⟩))∧w.heap[b]? = some (.cells c T (0,0))∧c.size=n
 ri:∀i j b,ρw i=some b→ρw j=some b→i=j
 rd:∀i b,ρw i=some b→¬D b∧b∉Ω∧b<w.heap.size∧w0.heap.size≤b
 st:St w D H Ω
 ev:Ev w0 D0 O0 w D Ω
structure SM (w0:World) (D0:Nat→Prop) (O0:List Nat) (N:Nat) (env:Env) (H:GH) (a:Act) (w:World):Prop where
 df:a.defers=[]
 sz:a.tmps.size=N
 ex:∃D Ω ρw,SI w0 D0 O0 env H a.tmps w D Ω ρw
structure Cfg where
 N:Nat
 ro:List Nat
def rawI (P:Program) (cf:Cfg) (o:Oper):Option GI:=
 match o.op with
 | .store t (.tmp s) x=>if cf.ro.contains s∧o.dst=none∧o.guard=none then
  match ZQ x,P.info? t with
  | some ex,some i=>some { dst:=some s,guard:=none,op:= .stro i.size s ex }
  | _,_ => none
  else if cf.ro.contains (s+1000000)∧o.dst=none∧o.guard=none then
   match ZQ x,P.info? t with
   | some ex,some i=>some { dst:=some s,guard:=none,op:= .strb i.size s ex }
   | _,_ => none
  else none
 | .alloc t=>match o.dst with
  | some d=>if (cf.ro.contains d∨cf.ro.contains (d+1000000))∧d<cf.N∧o.guard=none then
   match P.info? t with
   | some i=>match i.zero with
    | some z=>if z.cells.size=i.size then some { dst:=some d,guard:=none,op:= .allocr i.size } else none
    | none=>none
   | none=>none
   else none
  | none=>none
 | _ => none
def apxO (ro:List Nat) (d:Option Nat) (go:GOp):GOp:=
 match go,d with
 | .append sz b s x,some d=>
  let ks:=ro.filterMap fun e=>if e / 1000=4000+d then some (e % 1000) else none
  if ks.isEmpty then go else .appx ks sz b s x
 | .call false f xs,some d=>
  let ks:=ro.filterMap fun e=>if e / 1000=6000+d then some (e % 1000) else none
  if ks.isEmpty then match ro.find? fun e=>e / 1000000=9000+d with
   | some e=> .callf (e % 1000) (e / 1000 % 1000) f xs
   | none=>go else .callk ks f xs
 | .load n ag (.t a),some d=>match ro.find? fun e=>e / 1000=5000+d with
  | some e=> .ldx n ag a (e % 1000)
  | none=>match ro.find? fun e=>e / 1000000=8000+d with
   | some e=> .ldf n ag a (e % 1000) (e / 1000 % 1000)
   | none=>go
 | go,_ => go
def genI (P:Program) (det lro:Bool) (cf:Cfg) (ops:Array Oper) (o:Oper):Option GI:=
 match Zu P det lro cf.ro o.dst o.op with
 | none=>none
 | some go=>
  if o.dst.all (· < cf.N)∧isRaw go=false then
   match o.guard with
   | none=>some { dst:=o.dst,guard:=none,op:=apxO cf.ro o.dst go }
   | some (j,want)=>match (ops[j]?).bind (·.dst) with
    | some t=>some { dst:=o.dst,guard:=some (t,want),op:=go }
    | none=>none
  else none
def compI (P:Program) (det lro:Bool) (cf:Cfg) (ops:Array Oper) (o:Oper):Option GI:=
 match rawI P cf o with
 | some gi=>some gi
 | none=>genI P det lro cf ops o
section
variable {P:Program} {w0:World} {D0:Nat→Prop} {O0:List Nat} {cf:Cfg} {K:Env→GH→Prop}
theorem SI.om {env:Env} {H:GH} {a:Act} {w:World} {D:Nat→Prop} {Ω:List Nat} {ρw:Nat→Option Nat} (h:SI w0 D0 O0 env H a.tmps w D Ω ρw):OM w D a.eval (ge env):=by
 intro x e g hx hg
 cases x with
 | tmp t=>
  simp only[ZQ,Option.some.injEq] at hx
  subst hx
  simp only[ge] at hg
  split at hg
  ·cases hg
  ·rename_i hraw
   obtain ⟨v,h1,h2⟩:=h.em t g hg (fun n e=>hraw n (by rw[←e];exact hg))
   simp only[Act.eval,Array.getD_eq_getD_getElem?,h1,Option.getD_some]
   exact h2
 | const v=>
  simp only[ZQ,Option.some.injEq] at hx
  subst hx
  simp only[ge,Option.some.injEq] at hg
  subst hg
  simp[Act.eval,MV]
 | func f=>
  simp only[ZQ,Option.some.injEq] at hx
  subst hx
  simp only[ge,Option.some.injEq] at hg
  subst hg
  simp only[Act.eval,MV]
  exact ⟨trivial,[],rfl,by simp[ML]⟩
 | global g=>simp[ZQ] at hx
theorem SM.put {env:Env} {H H':GH} {a:Act} {w w':World} {D D':Nat→Prop} {Ω Ω':List Nat} {ρw:Nat→Option Nat} {d:Option Nat} {g:GV} {v:Value} (hdf:a.defers=[]) (hsz:a.tmps.size=cf.N)
 (h:SI w0 D0 O0 env H a.tmps w D Ω ρw) (hd:d.all (· < cf.N)=true) (hg:MV w' D' g v []) (hs:St w' D' H' Ω') (he:Ev w D Ω w' D' Ω'):SM w0 D0 O0 cf.N (gput env d g) H' (a.put d v) w':=by
 have hraw:∀n,g ≠ .raw n:=fun n e=>by subst e;simp only[MV] at hg
 have keepRw:∀i b,ρw i=some b→¬D' b∧b∉Ω'∧b<w'.heap.size∧w0.heap.size≤b:=fun i b hb=>by
  obtain ⟨r1,r2,r3,r4⟩:=h.rd i b hb
  refine ⟨fun hD=> ?_,fun hin=>r2 (he.on b hin r3),Nat.lt_of_lt_of_le r3 he.kp.size,r4⟩
  rcases he.dn b r3 hD with h1|h1
  ·exact r1 h1
  ·exact r2 h1
 have keepB:∀i b,ρw i=some b→w'.heap[b]? = w.heap[b]? := fun i b hb=>by
  obtain ⟨r1,r2,r3,r4⟩:=h.rd i b hb
  exact he.kp.block b r3 r2
 cases d with
 | none=>
  refine ⟨hdf,hsz,D',Ω',ρw,fun i g' hi hr=> ?_,fun i n hi=> ?_,h.ri,keepRw,hs,h.ev.trans he⟩
  ·obtain ⟨v',h1,h2⟩:=h.em i g' hi hr
   exact ⟨v',h1,MV.ev he h.st.dj h2⟩
  ·obtain ⟨b,c,T,h1,h2,h3,h4⟩:=h.rw i n hi
   exact ⟨b,c,T,h1,h2,by rw[keepB i b h1];exact h3,h4⟩
 | some d=>
  simp only[Option.all_some,decide_eq_true_eq] at hd
  refine ⟨hdf,by simp[Act.put,hsz],D',Ω',ρw,fun i g' hi hr=> ?_,fun i n hi=> ?_,h.ri,keepRw,hs,h.ev.trans he⟩
  ·simp only[gput,Yu] at hi
   simp only[Act.put]
   by_cases hdi:d=i
   ·subst hdi
    simp only[if_true,Option.some.injEq] at hi
    subst hi
    exact ⟨v,by simp[hsz,hd],hg⟩
   ·rw[if_neg hdi] at hi
    obtain ⟨v',h1,h2⟩:=h.em i g' hi hr
    exact ⟨v',by rw[Array.getElem?_setIfInBounds_ne hdi];exact h1,MV.ev he h.st.dj h2⟩
  ·simp only[gput,Yu] at hi
   simp only[Act.put]
   by_cases hdi:d=i
   ·subst hdi
    simp only[if_true,Option.some.injEq] at hi
    exact absurd hi (hraw n)
   ·rw[if_neg hdi] at hi
    obtain ⟨b,c,T,h1,h2,h3,h4⟩:=h.rw i n hi
    exact ⟨b,c,T,h1,by rw[Array.getElem?_setIfInBounds_ne hdi];exact h2,by rw[keepB i b h1];exact h3,h4⟩
theorem upon_of_yld {o:Oper} {a:Act} {next:Act→World→Prop} {Q:Exit→Act→World→Prop} {R:Value→World→Prop} {r:Result Next} (h:Yld P R r) (hn:∀v w',R v w'→next (a.put o.dst v) w'):o.upon P a next Q r:=by
 cases r with
 | halt x w'=>exact h.elim
 | ok n w'=>
  cases n<;>simp only[Yld] at h<;>simp only[Oper.upon]<;>first
   | exact hn _ _ h
   | exact h.elim
   | (refine h.mono fun e w'' ⟨v,h1,h2⟩=> ?_;subst h1;exact hn _ _ h2)
theorem eval_global (a:Act) (g:Nat):a.eval (.global g) = .pointer (some ⟨g,0,none⟩):=rfl
theorem eval_func (a:Act) (f:FuncId):a.eval (.func f) = .func (.func f) #[] #[]:=rfl
theorem plain_sound {det lro:Bool} {o:Oper} {go:GOp} {dst:Option Nat} {env:Env} {H:GH} {a:Act} {w:World} {Q:Exit→Act→World→Prop} (hm:SM w0 D0 O0 cf.N env H a w) (hd:o.dst.all (· < cf.N)=true) (hdst:dst=o.dst)
 (hc:Zu P det lro cf.ro o.dst o.op=some go) (hn:isRaw go=false) (h:ZY P go env H fun g H'=>K (gput env dst g) H') :
 o.wp P a w (fun a' w'=>∃env' H',K env' H'∧SM w0 D0 O0 cf.N env' H' a' w') Q:=by
 obtain ⟨hdf,hsz,D,Ω,ρw,hi⟩:=hm
 subst hdst
 have h':Z5 P go (ge env) H fun g H'=>K (gput env o.dst g) H':=by
  cases go<;>first|exact h|(simp[isRaw] at hn)
 have:=op_sound (fun _ => rfl) (eval_func a) (eval_global a) hi.st hi.om hc hn h'
 exact upon_of_yld this fun v w' ⟨g,H',D',Ω',k1,k2,k3,k4⟩=>⟨_,_,k1,SM.put hdf hsz hi hd k2 k3 k4⟩
theorem allocr_sound {n:Nat} {t:TypeId} {o:Oper} {d:Nat} {env:Env} {H:GH} {a:Act} {w:World} {i:TypeInfo} {z:Value} {Q:Exit→Act→World→Prop} (hm:SM w0 D0 O0 cf.N env H a w) (hd:d<cf.N) (hdst:o.dst=some d) (hop:o.op = .alloc t)
 (hti:P.info? t=some i) (hz:i.zero=some z) (hzs:z.cells.size=i.size) (hn:n=i.size) (h:K (gput env (some d) (.raw n)) H) :
 o.wp P a w (fun a' w'=>∃env' H',K env' H'∧SM w0 D0 O0 cf.N env' H' a' w') Q:=by
 obtain ⟨hdf,hsz,D,Ω,ρw,hi⟩:=hm
 have hrun:(execOp a.eval o).run P w = .ok (.value (.pointer (some ⟨w.heap.size,0,none⟩))) (w.alloc (.cells z.cells t)):=by
  simp only[execOp,hop]
  simp[Instr.alloc,newVar,newRow,zeroValue,typeInfo,hti,hz]
 unfold Oper.wp
 rw[hrun,Oper.upon_value,hdst]
 refine ⟨_,_,h,hdf,by simp[Act.put,hsz],D,Ω,fun j=>if j=d then some w.heap.size else ρw j,fun j g hj hr=> ?_,fun j m hj=> ?_,fun j k b hj hk=> ?_,fun j b hj=> ?_,?_,hi.ev.trans ?_⟩
 ·simp only[gput,Yu] at hj
  simp only[Act.put]
  by_cases hdj:d=j
  ·subst hdj
   simp only[if_true,Option.some.injEq] at hj
   exact absurd hj.symm (hr n)
  ·rw[if_neg hdj] at hj
   obtain ⟨v',h1,h2⟩:=hi.em j g hj hr
   exact ⟨v',by rw[Array.getElem?_setIfInBounds_ne hdj];exact h1,MV.keep (Yc w _ (fun _ => True)) (fun _ _ => trivial) (fun _ h=>h) _ _ [] (by simp) h2⟩
 ·simp only[gput,Yu] at hj
  simp only[Act.put]
  by_cases hdj:d=j
  ·subst hdj
   simp only[if_true,Option.some.injEq,GV.raw.injEq] at hj
   subst hj
   exact ⟨w.heap.size,z.cells,t,by simp,by simp[hsz,hd],hp_new _ _,by omega⟩
  ·rw[if_neg hdj] at hj
   obtain ⟨b,c,T,h1,h2,h3,h4⟩:=hi.rw j m hj
   exact ⟨b,c,T,by simp only[if_neg (Ne.symm hdj)];exact h1,by rw[Array.getElem?_setIfInBounds_ne hdj];exact h2,by rw[hp_old _ _ _ (hi.rd j b h1).2.2.1];exact h3,h4⟩
 ·split at hj<;>split at hk
  ·omega
  ·simp only[Option.some.injEq] at hj;subst hj;have:=(hi.rd k _ hk).2.2.1;omega
  ·simp only[Option.some.injEq] at hk;subst hk;have:=(hi.rd j _ hj).2.2.1;omega
  ·exact hi.ri j k b hj hk
 ·split at hj
  ·simp only[Option.some.injEq] at hj;subst hj
   refine ⟨fun hD=>absurd (hi.st.ds _ hD) (Nat.lt_irrefl _),fun hin=>absurd (HM.flt hi.st.hm _ hin) (Nat.lt_irrefl _),by simp,hi.ev.kp.size⟩
  ·obtain ⟨r1,r2,r3,r4⟩:=hi.rd j b hj
   exact ⟨r1,r2,by simp;omega,r4⟩
 ·exact ⟨HM.keep (Yc w _ (fun _ => True)) (fun _ _ => trivial) (fun _ h=>h) (fun _ _ => trivial) hi.st.hm,hi.st.nd,hi.st.nn,hi.st.dj,fun b hb=>by have:=hi.st.ds b hb;simp;omega⟩
 ·exact ⟨fun _ h=>h,fun _ _ h=> .inl h,fun _ h _ => h,Yc w _ _,rfl,rfl,rfl⟩
theorem stro_sound {n s:Nat} {t:TypeId} {x:Operand} {ex:GE} {o:Oper} {env:Env} {H:GH} {a:Act} {w:World} {i:TypeInfo} {Q:Exit→Act→World→Prop} (hm:SM w0 D0 O0 cf.N env H a w) (hdst:o.dst=none) (hop:o.op = .store t (.tmp s) x)
 (hx:ZQ x=some ex) (hti:P.info? t=some i) (hn:n=i.size) (h:ZY P (.stro n s ex) env H fun g H'=>K (gput env (some s) g) H') :
 o.wp P a w (fun a' w'=>∃env' H',K env' H'∧SM w0 D0 O0 cf.N env' H' a' w') Q:=by
 obtain ⟨hdf,hsz,D,Ω,ρw,hi⟩:=hm
 simp only[ZY] at h
 split at h
 case h_2=>exact h.elim
 rename_i m hraw
 obtain ⟨g,hg,e1,e2,e3,hk⟩:=ZT h
 have e1':m=n:=e1
 subst e1'
 obtain ⟨b,c,T,r1,r2,r3,r4⟩:=hi.rw s m hraw
 obtain ⟨q1,q2,q3,q4⟩:=hi.rd s b r1
 have hv:=hi.om x ex g hx hg
 have hvs:=MV.gsize hv
 have hok:=MV.okc hv e3
 obtain ⟨w',z1,z2,z3,z4,z5,z6⟩:=Yf (P:=P) (a.eval x).cells.toList w b 0 0 c T (0,0) r3 (fun i _ => by simp) (by simp;omega) (fun y hy=>hok y hy)
 have hs:a.eval (.tmp s) = .pointer (some ⟨b,0,none⟩):=by simp only[Act.eval,Array.getD_eq_getD_getElem?,r2,Option.getD_some]
 have hrun:(execOp a.eval o).run P w = .ok .skip w':=by
  simp only[execOp,hop,hs,Instr.storeAt,Instr.sureAddr,storeVar,Sem.run_bind,Sem.run_pure,Result.andThen_ok,ZB hti]
  have:(a.eval x).cells.size = i.size:=by omega
  simp only[this,ne_eq,not_true_eq_false,if_false,z1,Result.andThen_ok]
 unfold Oper.wp
 rw[hrun,Oper.upon_skip,hdst]
 have hDb:∀y,D y→y≠b:=fun y hy e=>q1 (e▸hy)
 have hΩb:∀y∈Ω,y≠b:=fun y hy e=>q2 (e▸hy)
 have hput:(YP c 0 (a.eval x).cells.toList)=(a.eval x).cells := by
  apply Array.ext'
  rw[YF _ _ _ (by simp;omega)]
  have:c.toList.drop (0+(a.eval x).cells.toList.length)=[]:=List.drop_eq_nil_of_le (by simp;omega)
  rw[this];simp
 refine ⟨_,_,hk,hdf,hsz,(fun y=>D y∨y=b),Ω,fun j=>if j=s then none else ρw j,⟨fun j g' hj hr=> ?_,fun j k hj=> ?_,fun j k y hj hk'=> ?_,fun j y hj=> ?_,⟨?_,hi.st.nd,hi.st.nn,fun y hy=> ?_,fun y hy=> ?_⟩,
  ⟨fun y hy=> .inl (hi.ev.d0 y hy),fun y hy hyd=> ?_,hi.ev.on,hi.ev.kp.trans z3 (fun y hy _ e=>by omega),z4.trans hi.ev.os,z5.trans hi.ev.tape,z6.trans hi.ev.output⟩⟩⟩
 ·simp only[gput,Yu] at hj
  by_cases hsj:s=j
  ·subst hsj
   simp only[if_true,Option.some.injEq] at hj
   subst hj
   refine ⟨_,r2,?_⟩
   simp only[MV]
   refine ⟨trivial,b,0,a.eval x,rfl,.inr rfl,⟨_,T,(0,0),z2,fun k y hy=> ?_⟩,hok,by omega,MV.keep z3 hDb (fun _ h=> .inl h) _ _ [] (by simp) hv⟩
   rw[hput,Nat.zero_add];simpa using hy
  ·rw[if_neg hsj] at hj
   obtain ⟨v',h1,h2⟩:=hi.em j g' hj hr
   exact ⟨v',h1,MV.keep z3 hDb (fun _ h=> .inl h) _ _ [] (by simp) h2⟩
 ·simp only[gput,Yu] at hj
  by_cases hsj:s=j
  ·subst hsj
   simp only[if_true,Option.some.injEq] at hj
   cases hj
  ·rw[if_neg hsj] at hj
   obtain ⟨b',c',T',h1,h2,h3,h4⟩:=hi.rw j k hj
   have hbb:b'≠b:=fun e=>hsj (hi.ri s j b r1 (e▸h1))
   exact ⟨b',c',T',by simp only[if_neg (Ne.symm hsj)];exact h1,h2,by rw[z3.block b' (lt_of_heap h3) hbb];exact h3,h4⟩
 ·split at hj
  ·cases hj
  ·split at hk'
   ·cases hk'
   ·exact hi.ri j k y hj hk'
 ·split at hj
  ·cases hj
  ·rename_i hjs
   obtain ⟨p1,p2,p3,p4⟩:=hi.rd j y hj
   refine ⟨?_,p2,Nat.lt_of_lt_of_le p3 z3.size,p4⟩
   rintro (h1|rfl)
   ·exact p1 h1
   ·exact hjs (hi.ri j s y hj r1)
 ·exact HM.keep z3 hDb (fun _ h=> .inl h) hΩb hi.st.hm
 ·rintro (h1|rfl)
  ·exact hi.st.dj y hy h1
  ·exact q2 hy
 ·rcases hy with hy|rfl
  ·exact Nat.lt_of_lt_of_le (hi.st.ds y hy) z3.size
  ·exact Nat.lt_of_lt_of_le q3 z3.size
 ·rcases hyd with hyd|rfl
  ·exact hi.ev.dn y hy hyd
  ·omega
theorem SM.eqE' {env env':Env} {H:GH} {a:Act} {w:World} (he:∀t,ZU env t=ZU env' t) (h:SM w0 D0 O0 cf.N env H a w):SM w0 D0 O0 cf.N env' H a w:=by
 obtain ⟨hdf,hsz,D,Ω,ρw,hi⟩:=h
 exact ⟨hdf,hsz,D,Ω,ρw,fun i g h1 h2=>hi.em i g (by rw[he i];exact h1) h2,fun i n h1=>hi.rw i n (by rw[he i];exact h1),hi.ri,hi.rd,hi.st,hi.ev⟩
theorem strb_sound {n s:Nat} {t:TypeId} {x:Operand} {ex:GE} {o:Oper} {env:Env} {H:GH} {a:Act} {w:World} {i:TypeInfo} {Q:Exit→Act→World→Prop} (hm:SM w0 D0 O0 cf.N env H a w) (hdst:o.dst=none) (hop:o.op = .store t (.tmp s) x)
 (hx:ZQ x=some ex) (hti:P.info? t=some i) (hn:n=i.size) (h:ZY P (.strb n s ex) env H fun g H'=>K (gput env (some s) g) H') :
 o.wp P a w (fun a' w'=>∃env' H',K env' H'∧SM w0 D0 O0 cf.N env' H' a' w') Q:=by
 obtain ⟨hdf,hsz,D,Ω,ρw,hi⟩:=hm
 simp only[ZY] at h
 split at h
 case h_3=>exact h.elim
 case h_2 r sz hptr=>
  have hd:o.dst.all (· < cf.N)=true:=by rw[hdst];rfl
  have hc:Zu P false false [] o.dst o.op=some (.store n (.t s) ex):=by
   have hx':=hx
   unfold ZQ at hx'
   rw[hop]
   simp only[Zu,cStore,ZQ,hx',hti,hn]
   rfl
  have h':Z5 P (.store n (.t s) ex) (ge env) H fun g H'=>K (gput env (some s) (.ptr r n 0 0)) H':=by
   obtain ⟨g,hg,h⟩:=ZT h
   split at h
   ·rename_i sz' e hr
    obtain ⟨h1,h2,h3,h4,h5⟩:=h
    have hge:ge env (.t s)=some (.ptr r sz 0 0):=by simp only[ge,hptr]
    subst h1 h2
    simp only[Z5,hge,hg,Z3,hr,List.getElem?_cons_zero,pstores,and_self,if_true,List.set_cons_zero,true_and]
    exact ⟨h3,h4,h5⟩
   ·exact h.elim
  have hsn:sz=n:=by
   obtain ⟨g,hg,h⟩:=ZT h
   split at h
   ·exact h.1
   ·exact h.elim
  subst hsn
  have:=op_sound (fun _ => rfl) (eval_func a) (eval_global a) hi.st hi.om hc rfl h'
  exact upon_of_yld this fun v w' ⟨g,H',D',Ω',k1,k2,k3,k4⟩=>⟨_,_,k1,(SM.put hdf hsz hi hd k2 k3 k4).eqE' fun t=>by
   rw[hdst]
   simp only[gput,Yu]
   split
   ·rename_i e;rw[←e];exact hptr
   ·rfl⟩
 rename_i m hraw
 obtain ⟨g,hg,e1,e2,e3,hk⟩:=ZT h
 have e1':m=n:=e1
 subst e1'
 obtain ⟨b,c,T,r1,r2,r3,r4⟩:=hi.rw s m hraw
 obtain ⟨q1,q2,q3,q4⟩:=hi.rd s b r1
 have hv:=hi.om x ex g hx hg
 have hvs:=MV.gsize hv
 have hok:=MV.okc hv e3
 obtain ⟨w',z1,z2,z3,z4,z5,z6⟩:=Yf (P:=P) (a.eval x).cells.toList w b 0 0 c T (0,0) r3 (fun i _ => by simp) (by simp;omega) (fun y hy=>hok y hy)
 have hs:a.eval (.tmp s) = .pointer (some ⟨b,0,none⟩):=by simp only[Act.eval,Array.getD_eq_getD_getElem?,r2,Option.getD_some]
 have hrun:(execOp a.eval o).run P w = .ok .skip w':=by
  simp only[execOp,hop,hs,Instr.storeAt,Instr.sureAddr,storeVar,Sem.run_bind,Sem.run_pure,Result.andThen_ok,ZB hti]
  have:(a.eval x).cells.size = i.size:=by omega
  simp only[this,ne_eq,not_true_eq_false,if_false,z1,Result.andThen_ok]
 unfold Oper.wp
 rw[hrun,Oper.upon_skip,hdst]
 have hDb:∀y,D y→y≠b:=fun y hy e=>q1 (e▸hy)
 have hΩb:∀y∈Ω,y≠b:=fun y hy e=>q2 (e▸hy)
 have hput:(YP c 0 (a.eval x).cells.toList)=(a.eval x).cells := by
  apply Array.ext'
  rw[YF _ _ _ (by simp;omega)]
  have:c.toList.drop (0+(a.eval x).cells.toList.length)=[]:=List.drop_eq_nil_of_le (by simp;omega)
  rw[this];simp
 have hnn:(names ((2 * b,m,[g])::H)).Nodup := by
  simp only[names,List.map_cons,List.nodup_cons]
  exact ⟨fun hin=>q2 (HM.in_names0 hi.st.hm hin),hi.st.nn⟩
 refine ⟨_,_,hk (2 * b) hnn,hdf,hsz,D,b::Ω,fun j=>if j=s then none else ρw j,⟨fun j g' hj hr=> ?_,fun j k hj=> ?_,fun j k y hj hk'=> ?_,fun j y hj=> ?_,⟨?_,List.nodup_cons.2 ⟨q2,hi.st.nd⟩,hnn,fun y hy=> ?_,fun y hy=> ?_⟩,
  ⟨hi.ev.d0,hi.ev.dn,fun y hy hl=> ?_,hi.ev.kp.trans z3 (fun y hy _ e=>by omega),z4.trans hi.ev.os,z5.trans hi.ev.tape,z6.trans hi.ev.output⟩⟩⟩
 ·simp only[gput,Yu] at hj
  by_cases hsj:s=j
  ·subst hsj
   simp only[if_true,Option.some.injEq] at hj
   subst hj
   refine ⟨_,r2,?_⟩
   simp only[MV]
   exact ⟨trivial,b,rfl,Nat.lt_of_lt_of_le q3 z3.size,by simp⟩
  ·rw[if_neg hsj] at hj
   obtain ⟨v',h1,h2⟩:=hi.em j g' hj hr
   exact ⟨v',h1,MV.keep z3 hDb (fun _ h=>h) _ _ [] (by simp) h2⟩
 ·simp only[gput,Yu] at hj
  by_cases hsj:s=j
  ·subst hsj
   simp only[if_true,Option.some.injEq] at hj
   cases hj
  ·rw[if_neg hsj] at hj
   obtain ⟨b',c',T',h1,h2,h3,h4⟩:=hi.rw j k hj
   have hbb:b'≠b:=fun e=>hsj (hi.ri s j b r1 (e▸h1))
   exact ⟨b',c',T',by simp only[if_neg (Ne.symm hsj)];exact h1,h2,by rw[z3.block b' (lt_of_heap h3) hbb];exact h3,h4⟩
 ·split at hj
  ·cases hj
  ·split at hk'
   ·cases hk'
   ·exact hi.ri j k y hj hk'
 ·split at hj
  ·cases hj
  ·rename_i hjs
   obtain ⟨p1,p2,p3,p4⟩:=hi.rd j y hj
   refine ⟨p1,?_,Nat.lt_of_lt_of_le p3 z3.size,p4⟩
   simp only[List.mem_cons,not_or]
   exact ⟨fun e=>hjs (hi.ri j s b (e▸hj) r1),p2⟩
 ·refine ⟨[b],Ω,rfl,.inl ⟨b,_,T,(0,0),[],rfl,z2,fun i _ => by simp,by rw[hput];simp;omega,by simp[Y9],rfl,?_⟩,HM.keep z3 hDb (fun _ h=>h) hΩb hi.st.hm⟩
  have hmv:=MF.single (sz:=m) (MV.keep z3 hDb (fun _ h=>h) _ _ [] (by simp) hv) (by omega) hok
  have e:(YP c 0 (a.eval x).cells.toList).toList.take ([g].length * m)=(a.eval x).cells.toList := by
   rw[hput,List.take_of_length_le (by simp;omega)]
  rw[Nat.zero_add,e]
  exact hmv
 ·rcases List.mem_cons.1 hy with rfl|hy
  ·exact q1
  ·exact hi.st.dj y hy
 ·exact Nat.lt_of_lt_of_le (hi.st.ds y hy) z3.size
 ·rcases List.mem_cons.1 hy with rfl|hy
  ·omega
  ·exact hi.ev.on y hy hl
end
end Go.Gh
namespace Go.Gh
section
variable {P:Program} {w0:World} {D0:Nat→Prop} {O0:List Nat} {cf:Cfg} {K:Env→GH→Prop}
theorem SM.skip {env:Env} {H:GH} {a:Act} {w:World} {d:Option Nat} (hm:SM w0 D0 O0 cf.N env H a w) (hd:d.all (· < cf.N)=true):SM w0 D0 O0 cf.N (gput env d uG) H (a.put d undef) w:=by
 obtain ⟨hdf,hsz,D,Ω,ρw,hi⟩:=hm
 exact SM.put hdf hsz hi hd (MV.val_mk _) hi.st (Ev.refl _ _ _)
theorem raw_step {ops:Array Oper} {o:Oper} {gi:GI} {env:Env} {H:GH} {a:Act} {w:World} {Q:Exit→Act→World→Prop} (hc:rawI P cf o=some gi) (hm:SM w0 D0 O0 cf.N env H a w) (h:ZP P gi K env H) :
 Region.wanted o (yielded ops a.tmps)=true∧o.wp P a w (fun a' w'=>∃env' H',K env' H'∧SM w0 D0 O0 cf.N env' H' a' w') Q:=by
 unfold rawI at hc
 split at hc
 ·rename_i t s x hop
  split at hc
  ·rename_i hcond
   obtain ⟨_,h1,h2⟩:=hcond
   split at hc
   case h_2=>cases hc
   rename_i ex i hx hi
   simp only[Option.some.injEq] at hc
   subst hc
   exact ⟨by simp[Region.wanted,h2],stro_sound hm h1 hop hx hi rfl h⟩
  split at hc
  case isFalse=>cases hc
  rename_i hcond
  obtain ⟨_,h1,h2⟩:=hcond
  split at hc
  case h_2=>cases hc
  rename_i ex i hx hi
  simp only[Option.some.injEq] at hc
  subst hc
  exact ⟨by simp[Region.wanted,h2],strb_sound hm h1 hop hx hi rfl h⟩
 ·rename_i t hop
  split at hc
  case h_2=>cases hc
  rename_i d hd
  split at hc
  case isFalse=>cases hc
  rename_i hcond
  obtain ⟨_,h1,h2⟩:=hcond
  split at hc
  case h_2=>cases hc
  rename_i i hi
  split at hc
  case h_2=>cases hc
  rename_i z hz
  split at hc
  case isFalse=>cases hc
  rename_i hzs
  simp only[Option.some.injEq] at hc
  subst hc
  exact ⟨by simp[Region.wanted,h2],allocr_sound hm h1 hd hop hi hz hzs rfl h⟩
 ·cases hc
theorem apxO_sound {ro:List Nat} {d:Option Nat} {go:GOp} {env:Env} {H:GH} {K:GV→GH→Prop} (h:ZY P (apxO ro d go) env H K):ZY P go env H K:=by
 unfold apxO at h
 split at h
 ·dsimp only at h
  split at h
  ·exact h
  ·simp only[ZY] at h ⊢;exact h.2
 ·dsimp only at h
  split at h
  ·split at h
   ·simp only[ZY] at h
    simp only[ZY,Z5]
    split at h
    ·obtain ⟨R,h1,h2⟩:=h;exact ⟨R,h1,fun g H' hr hn=>(h2 g H' hr hn).2⟩
    ·exact h
   ·exact h
  ·simp only[ZY] at h
   simp only[ZY,Z5]
   split at h
   ·obtain ⟨R,h1,h2⟩:=h;exact ⟨R,h1,fun g H' hr hn=>(h2 g H' hr hn).2⟩
   ·exact h
 ·split at h
  ·simp only[ZY] at h ⊢;exact h.2
  ·split at h
   ·simp only[ZY] at h ⊢;exact h.2
   ·exact h
 ·exact h
theorem op_step {det lro:Bool} {ops:Array Oper} {o:Oper} {gi:GI} {env:Env} {H:GH} {a:Act} {w:World} {Q:Exit→Act→World→Prop} (hc:compI P det lro cf ops o=some gi) (hm:SM w0 D0 O0 cf.N env H a w) (h:ZP P gi K env H) :
 if Region.wanted o (yielded ops a.tmps) then o.wp P a w (fun a' w'=>∃env' H',K env' H'∧SM w0 D0 O0 cf.N env' H' a' w') Q∨(o.asks P a w∧LetsOut Q) else (∃env' H',K env' H'∧SM w0 D0 O0 cf.N env' H' (a.put o.dst undef) w):=by
 unfold compI at hc
 split at hc
 ·rename_i gi' hr
  simp only[Option.some.injEq] at hc
  subst hc
  obtain ⟨h1,h2⟩:=raw_step (ops:=ops) (Q:=Q) hr hm h
  rw[if_pos h1];exact .inl h2
 ·unfold genI at hc
  split at hc
  case h_1=>cases hc
  rename_i go hgo
  split at hc
  case isFalse=>cases hc
  rename_i hcond
  obtain ⟨hd,hraw⟩:=hcond
  split at hc
  ·rename_i hg
   simp only[Option.some.injEq] at hc
   subst hc
   simp only[ZP,ZM] at h
   have hw:Region.wanted o (yielded ops a.tmps)=true:=by simp[Region.wanted,hg]
   rw[if_pos hw]
   exact .inl (plain_sound hm hd rfl hgo hraw (apxO_sound h))
  ·rename_i j want hg
   split at hc
   case h_2=>cases hc
   rename_i t ht
   simp only[Option.some.injEq] at hc
   subst hc
   simp only[ZP,ZM] at h
   obtain ⟨hdf,hsz,D,Ω,ρw,hi⟩:=hm
   have hm:SM w0 D0 O0 cf.N env H a w:=⟨hdf,hsz,D,Ω,ρw,hi⟩
   have hwant:Region.wanted o (yielded ops a.tmps)=(yielded ops a.tmps j == some want):=by simp[Region.wanted,hg]
   have hy:∀v,a.tmps[t]? = some v→yielded ops a.tmps j=(match v with | .bool b=>some b | _ => none):=fun v hv=>by
    simp only[yielded,ht,Option.bind_some,hv]
    cases v<;>rfl
   split at h
   ·rename_i b hb
    obtain ⟨v,h1,h2⟩:=hi.em t _ hb (fun n e=>by cases e)
    rw[MV.val_inv h2] at h1
    rw[hwant,hy _ h1]
    by_cases hbw:b=want
    ·subst hbw
     simp only[beq_self_eq_true,if_true]
     exact .inl (plain_sound hm hd rfl hgo hraw (h.1 rfl))
    ·have:(some b == some want)=false:=by simp[hbw]
     simp only[this,Bool.false_eq_true,if_false]
     exact ⟨_,_,h.2 (by cases b<;>cases want<;>simp_all),SM.skip hm hd⟩
   ·rename_i vs hb
    obtain ⟨v,h1,h2⟩:=hi.em t _ hb (fun n e=>by cases e)
    rw[MV.val_inv h2] at h1
    rw[hwant,hy _ h1]
    have:((none:Option Bool) == some want)=false:=rfl
    simp only[this,Bool.false_eq_true,if_false]
    exact ⟨_,_,h,SM.skip hm hd⟩
   ·exact h.elim
def Comps (P:Program) (det lro:Bool) (cf:Cfg) (ops:Array Oper) (gis:List GI):Prop:=gis.length=ops.size∧∀(i:Nat) (o:Oper) (gi:GI),ops[i]? = some o→gis[i]? = some gi→compI P det lro cf ops o=some gi
def compL (P:Program) (det lro:Bool) (cf:Cfg) (ops:Array Oper):List Oper→Option (List GI)
 | []=>some []
 | o::os=>match compI P det lro cf ops o,compL P det lro cf ops os with
  | some gi,some gis=>some (gi::gis)
  | _,_ => none
theorem compL_ok {det lro:Bool} {ops:Array Oper}:∀{os:List Oper} {gis:List GI},compL P det lro cf ops os=some gis→gis.length=os.length∧∀(i:Nat) (o:Oper) (gi:GI),os[i]? = some o→gis[i]? = some gi→compI P det lro cf ops o=some gi
 | [],gis,h=>by simp[compL] at h;subst h;simp
 | o::os,gis,h=>by
  simp only[compL] at h
  split at h
  ·rename_i gi gis' h1 h2
   simp only[Option.some.injEq] at h
   subst h
   obtain ⟨k1,k2⟩:=compL_ok h2
   refine ⟨by simp[k1],fun i o' gi' hi hg=> ?_⟩
   cases i with
   | zero=>simp at hi hg;subst hi hg;exact h1
   | succ i=>exact k2 i o' gi' (by simpa using hi) (by simpa using hg)
  ·cases h
theorem Comps.of {det lro:Bool} {ops:Array Oper} {gis:List GI} (h:compL P det lro cf ops ops.toList=some gis):Comps P det lro cf ops gis:=by
 obtain ⟨h1,h2⟩:=compL_ok h
 exact ⟨by simpa using h1,fun i o gi hi hg=>h2 i o gi (by simpa using hi) hg⟩
theorem gOp_sound {det lro:Bool} {ops:Array Oper} {gis:List GI} {Q:Exit→Act→World→Prop} (hc:Comps P det lro cf ops gis) {i:Nat} {env:Env} {H:GH} {a:Act} {w:World} (hm:SM w0 D0 O0 cf.N env H a w) (h:gOp P gis i K env H) :
 wpOp P ops Q i (fun a' w'=>∃env' H',K env' H'∧SM w0 D0 O0 cf.N env' H' a' w') a w:=by
 unfold wpOp
 cases hi:ops[i]? with
 | none=>
  have:gis[i]? = none:=by
   rw[Array.getElem?_eq_none_iff] at hi
   exact List.getElem?_eq_none (by rw[hc.1];exact hi)
  simp only[gOp,this] at h
  exact ⟨env,H,h,hm⟩
 | some o=>
  have hlt:i<gis.length:=by
   rw[hc.1]
   rcases Nat.lt_or_ge i ops.size with h'|h'
   ·exact h'
   ·simp[Array.getElem?_eq_none h'] at hi
  have hgi:gis[i]? = some gis[i]:=List.getElem?_eq_getElem hlt
  simp only[gOp,hgi] at h
  exact op_step (hc.2 i o _ hi hgi) hm h
theorem gAny_sound {det lro:Bool} {ops:Array Oper} {gis:List GI} {Q:Exit→Act→World→Prop} (hc:Comps P det lro cf ops gis) (hq:∀env H a w,K env H→SM w0 D0 O0 cf.N env H a w→Q .normal a w) :
 ∀(f:Nat) (listed:Array Bool) (env:Env) (H:GH) (a:Act) (w:World),listed.size=ops.size→cntTo listed ops.size=f→SM w0 D0 O0 cf.N env H a w→gAny P ops gis K f listed env H→wpAny P .any ops Q f listed a w
 | 0,listed,env,H,a,w,hsz,hcnt,hm,h=>by
  refine ⟨?_,hq _ _ _ _ h hm⟩
  cases hr:Region.ready .any ops listed with
  | nil=>rfl
  | cons x xs=>
   exfalso
   have hx:x∈Region.ready .any ops listed:=by rw[hr];simp
   obtain ⟨h0,o,ho,_⟩:=mem_ready.1 hx
   have hlt:x<ops.size:=by
    rcases Nat.lt_or_ge x ops.size with h'|h'
    ·exact h'
    ·simp[Array.getElem?_eq_none h'] at ho
   rw[cntTo_zero hcnt x hlt] at h0
   cases h0
 | f+1,listed,env,H,a,w,hsz,hcnt,hm,h=>by
  refine ⟨fun e=>hq _ _ _ _ (h.1 e) hm,fun i hi=> ?_⟩
  obtain ⟨h0,o,ho,_⟩:=mem_ready.1 hi
  have hlt:i<ops.size:=by
   rcases Nat.lt_or_ge i ops.size with h'|h'
   ·exact h'
   ·simp[Array.getElem?_eq_none h'] at ho
  have hcnt':=(cntTo_set listed i h0 ops.size).1 hlt
  exact wpOp_mono (fun a' w' ⟨env',H',hk,hm'⟩=>gAny_sound hc hq f _ env' H' a' w' (by simpa using hsz) (by omega) hm' hk) (gOp_sound hc hm (h.2 i hi))
theorem gOrd_sound {det lro:Bool} {ops:Array Oper} {gis:List GI} {Q:Exit→Act→World→Prop} (hc:Comps P det lro cf ops gis) (hq:∀env H a w,K env H→SM w0 D0 O0 cf.N env H a w→Q .normal a w) :
 ∀(l:List Nat) (env:Env) (H:GH) (a:Act) (w:World),SM w0 D0 O0 cf.N env H a w→gOrd P gis K l env H→wpOps P ops Q l a w
 | [],env,H,a,w,hm,h=>hq _ _ _ _ h hm
 | i::l,env,H,a,w,hm,h=>by
  rw[wpOps_cons]
  exact wpOp_mono (fun a' w' ⟨env',H',hk,hm'⟩=>gOrd_sound hc hq l env' H' a' w' hm' hk) (gOp_sound hc hm h)
end
end Go.Gh
namespace Go.Gh
inductive GC where
 | skip
 | reg (l:List GI)
 | seq (a b:GC)
 | cond (t:Nat) (a b:GC)
 | block (id:Nat) (a:GC)
 | loop (a:GC)
 | exit (id:Nat)
 | ret
def pickNext (ops:Array Oper) (gis:List GI) (listed:Array Bool):Option Nat:=
 let rs:=Region.ready .any ops listed
 let c (i:Nat):Nat:=match gis[i]? with|some g=>gcls g.op|none=>9
 match rs.find? (fun i=>c i == 0) with
 | some i=>some i
 | none=>match rs.find? (fun i=>c i == 1) with
  | some i=>some i
  | none=>rs.head?
def pickOrd (ops:Array Oper) (gis:List GI):Nat→Array Bool→List Nat
 | 0,_ => []
 | f+1,listed=>match pickNext ops gis listed with
  | some i=>i::pickOrd ops gis f (listed.setIfInBounds i true)
  | none=>[]
def getGis (gis:List GI):List Nat→Option (List GI)
 | []=>some []
 | i::is=>match gis[i]?,getGis gis is with
  | some g,some gs=>some (g::gs)
  | _,_ => none
def XW (P:Program) (cf:Cfg) (ops:Array Oper) (det lro:Bool):Option (List GI):=
 match compL P det lro cf ops ops.toList with
 | some gis=>
  let listed:=Array.replicate ops.size false
  let ord:=pickOrd ops gis ops.size listed
  if ord.length=ops.size∧lexG ops gis ord listed=true then getGis gis ord else none
 | none=>none
def compDrawM (P:Program) (cf:Cfg) (ops:Array Oper) (lro:Bool) (mask:Nat):Option (List GI):=
 match compL P false lro cf ops ops.toList with
 | some gis0=>
  let gis:=rfnL mask 0 gis0
  let listed:=Array.replicate ops.size false
  let ord:=pickOrd ops gis ops.size listed
  if ord.length=ops.size∧lexG ops gis ord listed=true then getGis gis ord else none
 | none=>none
def compReg (P:Program) (cf:Cfg) (ops:Array Oper) (draw:Bool) (mode:Nat):Option (List GI):=
 if draw then
  match mode with
  | 1=>XW P cf ops true false
  | 2=>XW P cf ops true true
  | 3=>XW P cf ops false true
  | 4=>XW P cf ops false false
  | m=>if 16≤m then compDrawM P cf ops (m % 2 == 1) ((m-16) / 2) else match XW P cf ops true false with
   | some l=>some l
   | none=>match XW P cf ops true true with
    | some l=>some l
    | none=>match XW P cf ops false true with
     | some l=>some l
     | none=>XW P cf ops false false
 else compL P false false cf ops ops.toList
def modeOf (md:List (Nat×Nat)) (id:Nat):Nat:=
 match md with
 | []=>0
 | (i,m)::r=>if i=id then m else modeOf r id
def compC (P:Program) (cf:Cfg) (md:List (Nat×Nat)):Code→Option GC
 | .skip => some .skip
 | .label _ => some .skip
 | .region id ops draw=>(compReg P cf ops draw (modeOf md id)).map .reg
 | .seq a b=>match compC P cf md a,compC P cf md b with
  | some x,some y=>some (.seq x y)
  | _,_ => none
 | .cond (.tmp t) a b=>match compC P cf md a,compC P cf md b with
  | some x,some y=>some (.cond t x y)
  | _,_ => none
 | .block id a=>(compC P cf md a).map (.block id)
 | .loop a=>(compC P cf md a).map .loop
 | .exit id=>some (.exit id)
 | .ret => some .ret
 | _ => none
section
variable {P:Program} {w0:World} {D0:Nat→Prop} {O0:List Nat} {cf:Cfg}
theorem SM.drew {env:Env} {H:GH} {a:Act} {w:World} (h:SM w0 D0 O0 cf.N env H a w):SM w0 D0 O0 cf.N env H a { w with drawn:=w.drawn+1 }:=by
 obtain ⟨hdf,hsz,D,Ω,ρw,hi⟩:=h
 obtain ⟨s1,s2⟩:=hi.st.drew
 refine ⟨hdf,hsz,D,Ω,ρw,fun i g h1 h2=> ?_,fun i n h1=> ?_,hi.ri,hi.rd,s1,hi.ev.trans s2⟩
 ·obtain ⟨v,k1,k2⟩:=hi.em i g h1 h2
  exact ⟨v,k1,MV.ev s2 hi.st.dj k2⟩
 ·exact hi.rw i n h1
theorem SM.eqE {env env':Env} {H:GH} {a:Act} {w:World} (he:EqE env env') (h:SM w0 D0 O0 cf.N env H a w):SM w0 D0 O0 cf.N env' H a w:=by
 obtain ⟨hdf,hsz,D,Ω,ρw,hi⟩:=h
 exact ⟨hdf,hsz,D,Ω,ρw,fun i g h1 h2=>hi.em i g (by rw[he i];exact h1) h2,fun i n h1=>hi.rw i n (by rw[he i];exact h1),hi.ri,hi.rd,hi.st,hi.ev⟩
theorem XZ (m:Nat):∀n,n≤m→cntTo (Array.replicate m false) n=n
 | 0,_ => rfl
 | n+1,h=>by
  simp only[cntTo,XZ m n (by omega)]
  have:n<m:=by omega
  simp[this]
theorem gOrd_of_gsteps {K:Env→GH→Prop} {gis:List GI}:∀{ord:List Nat} {l:List GI} {env:Env} {H:GH},getGis gis ord=some l→Z7 P l K env H→gOrd P gis K ord env H
 | [],l,env,H,hg,h=>by simp[getGis] at hg;subst hg;exact h
 | i::is,l,env,H,hg,h=>by
  simp only[getGis] at hg
  split at hg
  case h_2=>cases hg
  rename_i g gs h1 h2
  simp only[Option.some.injEq] at hg
  subst hg
  simp only[gOrd,gOp,h1]
  exact gstep_mono (fun e h' hk=>gOrd_of_gsteps h2 hk) h
theorem gsteps_mono {K K':Env→GH→Prop} (hk:∀e h,K e h→K' e h):∀{l:List GI} {env:Env} {H:GH},Z7 P l K env H→Z7 P l K' env H
 | [],_,_,h=>hk _ _ h
 | _ :: _,_,_,h=>gstep_mono (fun _ _ h'=>gsteps_mono hk h') h
theorem XY {K:Env→GH→Prop} {det lro:Bool} {ops:Array Oper} {id:Nat} {l:List GI} {env:Env} {H:GH} {a:Act} {w:World} {Q:Exit→Act→World→Prop} (hmx:P.follows .mixedOrders = true) (hc:XW P cf ops det lro=some l)
 (hq:∀env H a w,K env H→SM w0 D0 O0 cf.N env H a w→Q .normal a w) (hm:SM w0 D0 O0 cf.N env H a w) (h:Z7 P l K env H):(Code.region id ops true).wp P Q a w:=by
 unfold XW at hc
 split at hc
 case h_2=>cases hc
 rename_i gis hgis
 simp only at hc
 split at hc
 case isFalse=>cases hc
 rename_i hcond
 obtain ⟨hlen,hlex⟩:=hcond
 have hcs:=Comps.of hgis
 let K':Env→GH→Prop:=fun e h=>∃e',EqE e' e∧K e' h
 have hr:Rsp K':=fun a b H he ⟨e',h1,h2⟩=>⟨e',fun t=>(h1 t).trans (he t),h2⟩
 have h1:gOrd P gis K' _ env H:=gOrd_of_gsteps hc (gsteps_mono (fun e h hk=>⟨e,fun _ => rfl,hk⟩) h)
 have h2:=gAny_lex hr _ _ env H (by simp) (by rw[XZ _ _ (Nat.le_refl _),hlen]) (fun j o hj hl e he hb=>by
  have hlt:j<ops.size:=by
   rcases Nat.lt_or_ge j ops.size with h'|h'
   ·exact h'
   ·simp[Array.getElem?_eq_none h'] at hj
  simp[hlt] at hl) hlex h1
 rw[hlen] at h2
 refine wp_region_any hmx (gAny_sound (K:=K') hcs (fun env H a w ⟨e',k1,k2⟩ hm'=>hq e' H a w k2 (hm'.eqE fun t=>(k1 t).symm)) ops.size _ env H a _ (by simp) (XZ _ _ (Nat.le_refl _)) hm.drew h2)
theorem drawM_sound {K:Env→GH→Prop} {lro:Bool} {mask:Nat} {ops:Array Oper} {id:Nat} {l:List GI} {env:Env} {H:GH} {a:Act} {w:World} {Q:Exit→Act→World→Prop} (hmx:P.follows .mixedOrders = true) (hc:compDrawM P cf ops lro mask=some l)
 (hq:∀env H a w,K env H→SM w0 D0 O0 cf.N env H a w→Q .normal a w) (hm:SM w0 D0 O0 cf.N env H a w) (h:Z7 P l K env H):(Code.region id ops true).wp P Q a w:=by
 unfold compDrawM at hc
 split at hc
 case h_2=>cases hc
 rename_i gis hgis
 simp only at hc
 split at hc
 case isFalse=>cases hc
 rename_i hcond
 obtain ⟨hlen,hlex⟩:=hcond
 have hcs:=Comps.of hgis
 let K':Env→GH→Prop:=fun e h=>∃e',EqE e' e∧K e' h
 have hr:Rsp K':=fun a b H he ⟨e',h1,h2⟩=>⟨e',fun t=>(h1 t).trans (he t),h2⟩
 have h1:gOrd P (rfnL mask 0 gis) K' _ env H:=gOrd_of_gsteps hc (gsteps_mono (fun e h hk=>⟨e,fun _ => rfl,hk⟩) h)
 have h2:=gAny_lex hr _ _ env H (by simp) (by rw[XZ _ _ (Nat.le_refl _),hlen]) (fun j o hj hl e he hb=>by
  have hlt:j<ops.size:=by
   rcases Nat.lt_or_ge j ops.size with h'|h'
   ·exact h'
   ·simp[Array.getElem?_eq_none h'] at hj
  simp[hlt] at hl) hlex h1
 rw[hlen] at h2
 have h3:=gAny_le (gis:=gis) (fun i K env H h=>by
  unfold gOp at h ⊢
  rw[rfnL_get] at h
  cases hg:gis[i]? with
  | none=>rw[hg] at h;exact h
  | some gi=>rw[hg] at h;exact gstep_rfn h) _ _ _ _ h2
 refine wp_region_any hmx (gAny_sound (K:=K') hcs (fun env H a w ⟨e',k1,k2⟩ hm'=>hq e' H a w k2 (hm'.eqE fun t=>(k1 t).symm)) ops.size _ env H a _ (by simp) (XZ _ _ (Nat.le_refl _)) hm.drew h3)
theorem gOrd_range {K:Env→GH→Prop}:∀(gis pre:List GI) (env:Env) (H:GH),Z7 P gis K env H→gOrd P (pre++gis) K ((List.range' pre.length gis.length)) env H
 | [],pre,env,H,h=>by simp only[Z7] at h;simpa[gOrd] using h
 | g::gis,pre,env,H,h=>by
  simp only[List.length_cons,List.range'_succ,gOrd,gOp]
  rw[List.getElem?_append_right (Nat.le_refl _)]
  simp only[Nat.sub_self,List.getElem?_cons_zero]
  refine gstep_mono (fun e h' hk=> ?_) h
  have:=gOrd_range gis (pre++[g]) e h' hk
  simpa using this
theorem reg_sound {K:Env→GH→Prop} {ops:Array Oper} {draw:Bool} {mode id:Nat} {l:List GI} {env:Env} {H:GH} {a:Act} {w:World} {Q:Exit→Act→World→Prop} (hmx:P.follows .mixedOrders = true) (hc:compReg P cf ops draw mode=some l)
 (hq:∀env H a w,K env H→SM w0 D0 O0 cf.N env H a w→Q .normal a w) (hm:SM w0 D0 O0 cf.N env H a w) (h:Z7 P l K env H):(Code.region id ops draw).wp P Q a w:=by
 unfold compReg at hc
 cases draw
 ·simp only[Bool.false_eq_true,if_false] at hc
  have hcs:=Comps.of hc
  have:=gOrd_range l [] env H h
  simp only[List.nil_append,List.length_nil,←List.range_eq_range',hcs.1] at this
  exact wp_region (gOrd_sound hcs hq _ env H a w hm this)
 ·simp only[if_true] at hc
  split at hc
  ·exact XY hmx hc hq hm h
  ·exact XY hmx hc hq hm h
  ·exact XY hmx hc hq hm h
  ·exact XY hmx hc hq hm h
  ·split at hc
   ·exact drawM_sound hmx hc hq hm h
   split at hc
   ·rename_i e;simp only[Option.some.injEq] at hc;subst hc;exact XY hmx e hq hm h
   ·split at hc
    ·rename_i e;simp only[Option.some.injEq] at hc;subst hc;exact XY hmx e hq hm h
    ·split at hc
     ·rename_i e;simp only[Option.some.injEq] at hc;subst hc;exact XY hmx e hq hm h
     ·exact XY hmx hc hq hm h
def QM (w0:World) (D0:Nat→Prop) (O0:List Nat) (N:Nat) (Q:Exit→Env→GH→Prop):Exit→Act→World→Prop
 | .normal,a,w=>∃env H,Q .normal env H∧SM w0 D0 O0 N env H a w
 | .exit id,a,w=>∃env H,Q (.exit id) env H∧SM w0 D0 O0 N env H a w
 | .ret,a,w=>∃env H,Q .ret env H∧SM w0 D0 O0 N env H a w
 | _,_,_ => False
def GW (P:Program) (cf:Cfg) (gc:GC) (Q:Exit→Env→GH→Prop) (env:Env) (H:GH):Prop:=
 ∀md c,compC P cf md c=some gc→∀w0 D0 O0 a w,SM w0 D0 O0 cf.N env H a w→c.wp P (QM w0 D0 O0 cf.N Q) a w
theorem QM.mono {N:Nat} {Q Q':Exit→Env→GH→Prop} (h:∀ex e H,Q ex e H→Q' ex e H) {ex:Exit} {a:Act} {w:World} (hq:QM w0 D0 O0 N Q ex a w):QM w0 D0 O0 N Q' ex a w:=by
 cases ex<;>simp only[QM] at hq ⊢
 all_goals (obtain ⟨e,H,h1,h2⟩:=hq;exact ⟨e,H,h _ _ _ h1,h2⟩)
theorem GW.mono {gc:GC} {Q Q':Exit→Env→GH→Prop} {env:Env} {H:GH} (hq:∀ex e H,Q ex e H→Q' ex e H) (h:GW P cf gc Q env H):GW P cf gc Q' env H:=
 fun md c hc w0 D0 O0 a w hm=>wp_mono (h md c hc w0 D0 O0 a w hm) fun _ _ _ => QM.mono hq
def FE (env:Env) (H:GH) (env':Env) (H':GH):Prop:=∀w0 D0 O0 N a w,SM w0 D0 O0 N env H a w→SM w0 D0 O0 N env' H' a w
theorem GW.ent {gc:GC} {Q:Exit→Env→GH→Prop} {env env':Env} {H H':GH} (he:FE env H env' H') (h:GW P cf gc Q env' H'):GW P cf gc Q env H:=
 fun md c hc w0 D0 O0 a w hm=>h md c hc w0 D0 O0 a w (he _ _ _ _ _ _ hm)
theorem map_some {α β:Type} {x:Option α} {f:α→β} {y:β} (h:x.map f=some y):∃a,x=some a∧f a=y:=by
 simpa using h
theorem comp_inv {md:List (Nat×Nat)} {c:Code} {gc:GC} (hc:compC P cf md c=some gc) :
 ((c = .skip ∨ ∃l,c = .label l)∧gc = .skip)∨(∃id ops draw l,c = .region id ops draw∧gc = .reg l∧compReg P cf ops draw (modeOf md id)=some l) ∨
 (∃a b x y,c = .seq a b∧gc = .seq x y∧compC P cf md a=some x∧compC P cf md b=some y) ∨
 (∃t a b x y,c = .cond (.tmp t) a b∧gc = .cond t x y∧compC P cf md a=some x∧compC P cf md b=some y) ∨
 (∃id a x,c = .block id a∧gc = .block id x∧compC P cf md a=some x) ∨
 (∃a x,c = .loop a∧gc = .loop x∧compC P cf md a=some x)∨(∃id,c = .exit id∧gc = .exit id)∨(c = .ret ∧ gc = .ret):=by
 unfold compC at hc
 split at hc
 ·simp only[Option.some.injEq] at hc;exact .inl ⟨.inl rfl,hc.symm⟩
 ·simp only[Option.some.injEq] at hc;exact .inl ⟨.inr ⟨_,rfl⟩,hc.symm⟩
 ·obtain ⟨l,h1,h2⟩:=map_some hc;exact .inr (.inl ⟨_,_,_,l,rfl,h2.symm,h1⟩)
 ·split at hc
  ·rename_i h1 h2;simp only[Option.some.injEq] at hc;exact .inr (.inr (.inl ⟨_,_,_,_,rfl,hc.symm,h1,h2⟩))
  ·cases hc
 ·split at hc
  ·rename_i h1 h2;simp only[Option.some.injEq] at hc;exact .inr (.inr (.inr (.inl ⟨_,_,_,_,_,rfl,hc.symm,h1,h2⟩)))
  ·cases hc
 ·obtain ⟨x,h1,h2⟩:=map_some hc;exact .inr (.inr (.inr (.inr (.inl ⟨_,_,x,rfl,h2.symm,h1⟩))))
 ·obtain ⟨x,h1,h2⟩:=map_some hc;exact .inr (.inr (.inr (.inr (.inr (.inl ⟨_,x,rfl,h2.symm,h1⟩)))))
 ·simp only[Option.some.injEq] at hc;exact .inr (.inr (.inr (.inr (.inr (.inr (.inl ⟨_,rfl,hc.symm⟩))))))
 ·simp only[Option.some.injEq] at hc;exact .inr (.inr (.inr (.inr (.inr (.inr (.inr ⟨rfl,hc.symm⟩))))))
 ·cases hc
theorem GW.skip {Q:Exit→Env→GH→Prop} {env:Env} {H:GH} (h:Q .normal env H):GW P cf .skip Q env H:=by
 intro md c hc w0 D0 O0 a w hm
 rcases comp_inv hc with ⟨h0,_⟩|⟨_,_,_,_,_,e,_⟩|⟨_,_,_,_,_,e,_⟩|⟨_,_,_,_,_,_,e,_⟩|⟨_,_,_,_,e,_⟩|⟨_,_,_,e,_⟩|⟨_,_,e⟩|⟨_,e⟩
 ·rcases h0 with rfl|⟨l,rfl⟩
  ·exact wp_skip ⟨env,H,h,hm⟩
  ·exact wp_label ⟨env,H,h,hm⟩
 all_goals cases e
theorem GW.reg (hmx:P.follows .mixedOrders = true) {l:List GI} {Q:Exit→Env→GH→Prop} {env:Env} {H:GH} (h:Z7 P l (Q .normal) env H):GW P cf (.reg l) Q env H:=by
 intro md c hc w0 D0 O0 a w hm
 rcases comp_inv hc with ⟨_,e⟩|⟨id',ops,draw,l',rfl,e,k1⟩|⟨_,_,_,_,_,e,_⟩|⟨_,_,_,_,_,_,e,_⟩|⟨_,_,_,_,e,_⟩|⟨_,_,_,e,_⟩|⟨_,_,e⟩|⟨_,e⟩
 case inr.inl=>
  cases e
  exact reg_sound hmx k1 (fun env H a w hk hm'=>⟨env,H,hk,hm'⟩) hm h
 all_goals cases e
def thenG (R:Env→GH→Prop) (Q:Exit→Env→GH→Prop):Exit→Env→GH→Prop
 | .normal,e,H=>R e H
 | ex,e,H=>Q ex e H
theorem GW.seq {x y:GC} {Q:Exit→Env→GH→Prop} {env:Env} {H:GH} (h:GW P cf x (thenG (GW P cf y Q) Q) env H):GW P cf (.seq x y) Q env H:=by
 intro md c hc w0 D0 O0 a w hm
 rcases comp_inv hc with ⟨_,e⟩|⟨_,_,_,_,_,e,_⟩|⟨c1,c2,x',y',rfl,e,k1,k2⟩|⟨_,_,_,_,_,_,e,_⟩|⟨_,_,_,_,e,_⟩|⟨_,_,_,e,_⟩|⟨_,_,e⟩|⟨_,e⟩
 case inr.inr.inl=>
  cases e
  refine wp_seq (wp_mono (h md _ k1 w0 D0 O0 a w hm) fun ex a' w' hq=> ?_)
  cases ex<;>simp only[QM,thenG] at hq
  ·obtain ⟨e,H',m1,m2⟩:=hq
   exact m1 md _ k2 w0 D0 O0 a' w' m2
  ·exact hq
  ·exact hq
 all_goals cases e
theorem GW.cond {t:Nat} {x y:GC} {Q:Exit→Env→GH→Prop} {env:Env} {H:GH} {b:Bool} (hb:ZU env t=some (.val (.bool b))) (h1:b=true→GW P cf x Q env H) (h2:b=false→GW P cf y Q env H):GW P cf (.cond t x y) Q env H:=by
 intro md c hc w0 D0 O0 a w hm
 rcases comp_inv hc with ⟨_,e⟩|⟨_,_,_,_,_,e,_⟩|⟨_,_,_,_,_,e,_⟩|⟨t',c1,c2,x',y',rfl,e,k1,k2⟩|⟨_,_,_,_,e,_⟩|⟨_,_,_,e,_⟩|⟨_,_,e⟩|⟨_,e⟩
 case inr.inr.inr.inl=>
  cases e
  obtain ⟨hdf,hsz,D,Ω,ρw,hi⟩:=hm
  obtain ⟨v,m1,m2⟩:=hi.em _ _ hb (fun n e=>by cases e)
  have hev:a.eval (.tmp t) = .bool b:=by simp only[Act.eval,Array.getD_eq_getD_getElem?,m1,Option.getD_some,MV.val_inv m2]
  exact wp_cond_split hev (fun hbt=>h1 hbt md _ k1 w0 D0 O0 a w ⟨hdf,hsz,D,Ω,ρw,hi⟩) (fun hbf=>h2 hbf md _ k2 w0 D0 O0 a w ⟨hdf,hsz,D,Ω,ρw,hi⟩)
 all_goals cases e
def blockG (id:Nat) (Q:Exit→Env→GH→Prop):Exit→Env→GH→Prop
 | .exit id',e,H=>if id'=id then Q .normal e H else Q (.exit id') e H
 | ex,e,H=>Q ex e H
theorem GW.block {id:Nat} {x:GC} {Q:Exit→Env→GH→Prop} {env:Env} {H:GH} (h:GW P cf x (blockG id Q) env H):GW P cf (.block id x) Q env H:=by
 intro md c hc w0 D0 O0 a w hm
 rcases comp_inv hc with ⟨_,e⟩|⟨_,_,_,_,_,e,_⟩|⟨_,_,_,_,_,e,_⟩|⟨_,_,_,_,_,_,e,_⟩|⟨id',c1,x',rfl,e,k1⟩|⟨_,_,_,e,_⟩|⟨_,_,e⟩|⟨_,e⟩
 case inr.inr.inr.inr.inl=>
  cases e
  refine wp_block (wp_mono (h md _ k1 w0 D0 O0 a w hm) fun ex a' w' hq=> ?_)
  cases ex<;>simp only[QM,blockG] at hq<;>simp only[Exit.inBlock]
  ·exact hq
  ·obtain ⟨e,H',m1,m2⟩:=hq
   split at m1
   ·rename_i he;rw[if_pos he];exact ⟨e,H',m1,m2⟩
   ·rename_i he;rw[if_neg he];exact ⟨e,H',m1,m2⟩
  ·exact hq
 all_goals cases e
theorem GW.exit {id:Nat} {Q:Exit→Env→GH→Prop} {env:Env} {H:GH} (h:Q (.exit id) env H):GW P cf (.exit id) Q env H:=by
 intro md c hc w0 D0 O0 a w hm
 rcases comp_inv hc with ⟨_,e⟩|⟨_,_,_,_,_,e,_⟩|⟨_,_,_,_,_,e,_⟩|⟨_,_,_,_,_,_,e,_⟩|⟨_,_,_,_,e,_⟩|⟨_,_,_,e,_⟩|⟨_,rfl,e⟩|⟨_,e⟩
 case inr.inr.inr.inr.inr.inr.inl=>cases e;exact wp_exit ⟨env,H,h,hm⟩
 all_goals cases e
theorem GW.ret {Q:Exit→Env→GH→Prop} {env:Env} {H:GH} (h:Q .ret env H):GW P cf .ret Q env H:=by
 intro md c hc w0 D0 O0 a w hm
 rcases comp_inv hc with ⟨_,e⟩|⟨_,_,_,_,_,e,_⟩|⟨_,_,_,_,_,e,_⟩|⟨_,_,_,_,_,_,e,_⟩|⟨_,_,_,_,e,_⟩|⟨_,_,_,e,_⟩|⟨_,_,e⟩|⟨rfl,e⟩
 case inr.inr.inr.inr.inr.inr.inr=>exact wp_ret ⟨env,H,h,hm⟩
 all_goals cases e
theorem wp_loop_fam {ι:Type} {c:Code} {Q:Exit→Act→World→Prop} (I:ι→Act→World→Prop) (μ:ι→Nat) (round:∀i a w,I i a w→c.wp P (Exit.then (fun a' w'=>∃j,I j a' w'∧μ j<μ i) Q) a w)
 {i0:ι} {a:Act} {w:World} (h0:I i0 a w):(Code.loop c).wp P Q a w:=by
 intro b k cs
 have key:∀n i a w,μ i=n→I i a w→∃e a' w',Q e a' w'∧Arrives P (lone (b.at a (.code c :: .inLoop c::k)) cs w) b k cs e a' w':=by
  intro n
  induction n using Nat.strongRecOn with
  | _ n ih=>
   intro i a w hn hI
   obtain ⟨e,a₁,w₁,hq,harr⟩:=round i a w hI b (.inLoop c::k) cs
   cases e with
   | normal=>
    obtain ⟨j,hI₁,hlt⟩:=hq
    obtain ⟨e₂,a₂,w₂,hq₂,harr₂⟩:=ih (μ j) (hn▸hlt) j a₁ w₁ rfl hI₁
    exact ⟨e₂,a₂,w₂,hq₂,.of_steps (Steps.trans harr (.one step_inLoop)) harr₂⟩
   | exit id=>exact ⟨_,a₁,w₁,hq,.pass (x:= .inLoop c) rfl (fun _ _ => .inl (by simp)) harr⟩
   | goto l=>exact ⟨_,a₁,w₁,hq,.pass (x:= .inLoop c) rfl (fun _ _ => .inl (by simp)) harr⟩
   | ret=>exact ⟨_,a₁,w₁,hq,.pass (x:= .inLoop c) rfl (fun _ _ => .inl (by simp)) harr⟩
   | panic ch=>exact ⟨_,a₁,w₁,hq,.pass (x:= .inLoop c) rfl (fun _ _ => .inl (by simp)) harr⟩
   | outgrown=>exact ⟨_,a₁,w₁,hq,.pass (x:= .inLoop c) rfl (fun _ _ => .inl (by simp)) harr⟩
 obtain ⟨e,a',w',hq,harr⟩:=key _ i0 a w rfl h0
 exact ⟨e,a',w',hq,.of_steps (.one step_loop) harr⟩
theorem GW.loop {ι:Type} {x:GC} {Q:Exit→Env→GH→Prop} {env:Env} {H:GH} (E:ι→Env) (G:ι→GH) (μ:ι→Nat) (i0:ι) (h0:FE env H (E i0) (G i0))
 (round:∀i,GW P cf x (thenG (fun e H'=>∃j,FE e H' (E j) (G j)∧μ j<μ i) Q) (E i) (G i)):GW P cf (.loop x) Q env H:=by
 intro md c hc w0 D0 O0 a w hm
 rcases comp_inv hc with ⟨_,e⟩|⟨_,_,_,_,_,e,_⟩|⟨_,_,_,_,_,e,_⟩|⟨_,_,_,_,_,_,e,_⟩|⟨_,_,_,_,e,_⟩|⟨c1,x',rfl,e,k1⟩|⟨_,_,e⟩|⟨_,e⟩
 case inr.inr.inr.inr.inr.inl=>
  cases e
  refine wp_loop_fam (fun i a w=>SM w0 D0 O0 cf.N (E i) (G i) a w) μ (fun i a w hI=> ?_) (h0 _ _ _ _ _ _ hm)
  refine wp_mono (round i md _ k1 w0 D0 O0 a w hI) fun ex a' w' hq=> ?_
  cases ex<;>simp only[QM,thenG] at hq<;>simp only[Exit.then]
  ·obtain ⟨e,H',⟨j,m1,m2⟩,m3⟩:=hq
   exact ⟨j,m1 _ _ _ _ _ _ m3,m2⟩
  ·exact hq
  ·exact hq
 all_goals cases e
end
end Go.Gh
namespace Go.Gh
inductive GR where
 | t (n:Nat)
 | c (t n:Nat) (ag:Bool)
def Yh (P:Program):List ResultVar→Option (List GR)
 | []=>some []
 | .tmp t::rs=>match Yh P rs with
  | some gs=>some (.t t::gs)
  | none=>none
 | .cell a t::rs=>match P.underlying t,P.info? t,Yh P rs with
  | some d,some i,some gs=>some (.c a i.size (aggD d)::gs)
  | _,_,_ => none
def resG (env:Env) (H:GH):GR→Option GV
 | .t n=>ge env (.t n)
 | .c t n ag=>match ge env (.t t) with
  | some (.rop sz g)=>if sz=n∧isAgg g=ag then some g else none
  | some (.ptr r sz i o)=>match Z6 H r with
   | some (sz',es)=>match es[i]? with
    | some e=>match Yd e sz o n ag with
     | some g=>if sz'=sz∧clean g=true then some g else none
     | none=>none
    | none=>none
   | none=>none
  | _ => none
def resL (env:Env) (H:GH):List GR→Option (List GV)
 | []=>some []
 | r::rs=>match resG env H r,resL env H rs with
  | some g,some gs=>some (g::gs)
  | _,_ => none
def pack1:List GV→GV
 | [g]=>g
 | gs=> .tup gs
def FR (g:GV) (H:GH) (g':GV) (H':GH):Prop:=
 ∀w D Ω v,MV w D g v []→St w D H Ω→∃D' Ω',MV w D' g' v []∧St w D' H' Ω'∧Ev w D Ω w D' Ω'
theorem FR.refl (g:GV) (H:GH):FR g H g H:=fun _ D Ω _ h1 h2=>⟨D,Ω,h1,h2,Ev.refl _ _ _⟩
def GEnd (gr:List GR) (R:GV→GH→Prop) (ex:Exit) (env:Env) (H:GH):Prop:=
 (ex = .normal ∨ ex = .ret)∧∃gs g' H',resL env H gr=some gs∧FR (pack1 gs) H g' H'∧R g' H'
structure GFun where
 cf:Cfg
 gc:GC
 gr:List GR
def IsFun (P:Program) (f:FuncId) (F:GFun):Prop:=
 ∃fn c md,P.funcs[f]? = some fn∧(fn.name == "runtime.NumGoroutine")=false∧fn.body=some c∧compC P F.cf md c=some F.gc∧Yh P fn.results.toList=some F.gr∧fn.ntmps=F.cf.N
def envOf (gs:List GV):Nat→Env
 | k=>match gs with
  | []=>[]
  | g::gs=>(k,g)::envOf gs (k+1)
section
variable {P:Program}
theorem eget_envOf {w:World} {D:Nat→Prop}:∀{gs:List GV} {vs:List Value} {k i:Nat} {g:GV},ML w D gs vs []→ZU (envOf gs k) i=some g→∃v,k≤i∧vs[i-k]? = some v∧MV w D g v []
 | [],vs,k,i,g,_,h=>by simp[envOf,ZU] at h
 | g0::gs,vs,k,i,g,hm,h=>by
  simp only[ML] at hm
  obtain ⟨v,us,F1,F2,e1,e2,h1,h2⟩:=hm
  have e3:F1=[]∧F2=[]:=by simpa using e2.symm
  obtain ⟨rfl,rfl⟩:=e3
  simp only[envOf,ZU] at h
  split at h
  ·rename_i hk
   simp only[Option.some.injEq] at h
   subst hk h e1
   exact ⟨v,Nat.le_refl _,by simp,h1⟩
  ·rename_i hk
   obtain ⟨u,k1,k2,k3⟩:=eget_envOf h2 h
   subst e1
   refine ⟨u,by omega,?_,k3⟩
   have:i-k=(i-(k+1))+1:=by omega
   rw[this];simpa using k2
theorem resG_ok {env:Env} {H:GH} {w:World} {D:Nat→Prop} {Ω:List Nat} {a:Act} (hst:St w D H Ω) (ho:OM w D a.eval (ge env)) {rv:ResultVar} {gs:List GR} {r:GR} {g:GV} (hc:Yh P [rv]=some gs) (hr:gs=[r]) (hg:resG env H r=some g) :
 ∃v,((match rv with | .tmp t=>pure (a.tmps.getD t undef) | .cell x t=>do loadVar t (←asAddr (a.tmps.getD x undef)):Sem Value)).run P w = .ok v w∧MV w D g v []:=by
 subst hr
 cases rv with
 | tmp t=>
  simp only[Yh,Option.some.injEq,List.cons.injEq,and_true] at hc
  subst hc
  exact ⟨_,rfl,ho (.tmp t) (.t t) g rfl hg⟩
 | cell x t=>
  simp only[Yh] at hc
  split at hc
  case h_2=>cases hc
  rename_i d i gs' hd hi hgs
  simp only[Option.some.injEq] at hgs hc
  subst hgs
  simp only[List.cons.injEq,and_true] at hc
  subst hc
  simp only[resG] at hg
  split at hg
  ·rename_i sz g' hx
   split at hg
   ·rename_i hcond
    simp only[Option.some.injEq] at hg
    subst hg
    have hv:=ho (.tmp x) (.t x) _ rfl hx
    obtain ⟨u,k1,k2⟩:=load_rop hd hi hv hcond.1 hcond.2
    refine ⟨u,?_,k2⟩
    have hv':=hv
    simp only[MV] at hv'
    obtain ⟨_,b,off,u',hp,_⟩:=hv'
    have hp':a.tmps.getD x undef = .pointer (some ⟨b,off,none⟩):=hp
    simp only[Act.eval] at hp
    rw[show a.eval (.tmp x) = .pointer (some ⟨b,off,none⟩) from hp] at k1
    simpa only[hp',asAddr,Instr.loadAt,Instr.sureAddr,Sem.run_bind,Sem.run_pure,Result.andThen_ok] using k1
   ·cases hg
  ·rename_i r sz i' o hx
   split at hg
   case h_2=>cases hg
   rename_i sz' es hr
   split at hg
   case h_2=>cases hg
   rename_i e he
   split at hg
   case h_2=>cases hg
   rename_i g' hg'
   split at hg
   case isFalse=>cases hg
   rename_i hcond
   simp only[Option.some.injEq] at hg
   subst hg
   obtain ⟨rfl,hcl⟩:=hcond
   have hv:=ho (.tmp x) (.t x) _ rfl hx
   obtain ⟨u,k1,k2⟩:=load_ptr hd hi hst hv hr he hg' hcl
   refine ⟨u,?_,k2⟩
   have hv':=hv
   simp only[MV] at hv'
   obtain ⟨_,b,_,_,hp⟩:=hv'
   have hp':a.tmps.getD x undef = .pointer (some ⟨b,i' * sz'+o,none⟩):=hp
   rw[show a.eval (.tmp x) = .pointer (some ⟨b,i' * sz'+o,none⟩) from hp] at k1
   simpa only[hp',asAddr,Instr.loadAt,Instr.sureAddr,Sem.run_bind,Sem.run_pure,Result.andThen_ok] using k1
  ·cases hg
theorem resL_ok {env:Env} {H:GH} {w:World} {D:Nat→Prop} {Ω:List Nat} {a:Act} (hst:St w D H Ω) (ho:OM w D a.eval (ge env)):∀{rvs:List ResultVar} {gr:List GR} {gs:List GV},Yh P rvs=some gr→resL env H gr=some gs →
 ∃vs:List Value,(rvs.mapM (fun rv=>(match rv with | .tmp t=>pure (a.tmps.getD t undef) | .cell x t=>do loadVar t (←asAddr (a.tmps.getD x undef)):Sem Value))).run P w = .ok vs w∧ML w D gs vs []
 | [],gr,gs,hc,hg=>by simp[Yh] at hc;subst hc;simp[resL] at hg;subst hg;exact ⟨[],rfl,by simp[ML]⟩
 | rv::rvs,gr,gs,hc,hg=>by
  have:∃r grs,gr=r::grs∧Yh P [rv]=some [r]∧Yh P rvs=some grs:=by
   cases rv with
   | tmp t=>
    simp only[Yh] at hc
    split at hc
    ·rename_i grs h1;simp only[Option.some.injEq] at hc;exact ⟨_,grs,hc.symm,rfl,h1⟩
    ·cases hc
   | cell x t=>
    simp only[Yh] at hc
    split at hc
    ·rename_i d i grs h1 h2 h3;simp only[Option.some.injEq] at hc;exact ⟨_,grs,hc.symm,by simp[Yh,h1,h2],h3⟩
    ·cases hc
  obtain ⟨r,grs,rfl,h1,h2⟩:=this
  simp only[resL] at hg
  split at hg
  case h_2=>cases hg
  rename_i g gs' k1 k2
  simp only[Option.some.injEq] at hg
  subst hg
  obtain ⟨v,m1,m2⟩:=resG_ok (P:=P) hst ho h1 rfl k1
  obtain ⟨vs,n1,n2⟩:=resL_ok hst ho h2 k2
  refine ⟨v::vs,?_,?_⟩
  ·simp only[List.mapM_cons,Sem.run_bind,m1,n1,Result.andThen_ok,Sem.run_pure]
  ·simp only[ML];exact ⟨v,vs,[],[],rfl,rfl,m2,n2⟩
theorem GCalls.of_body {f:FuncId} {F:GFun} (hF:IsFun P f F) {gs:List GV} {H:GH} {R:GV→GH→Prop} (hlen:gs.length≤F.cf.N)
 (h:GW P F.cf F.gc (GEnd F.gr R) (envOf gs 0) H):GCalls P f gs H R:=by
 intro w D Ω args hst hargs
 obtain ⟨fn,c,md,h1,hname,h2,h3,h4,h5⟩:=hF
 have hal:=ML.len _ _ _ hargs
 have hrun:(callFunc f args.toArray).run P w = .ok (.enter f args.toArray) w:=by
  have hname':¬fn.name = "runtime.NumGoroutine" := by simpa using hname
  simp[callFunc,h1,hname',h2]
 rw[hrun]
 show Calls P f args.toArray w _
 refine calls_of_wp h1 h2 (wp_mono (h md c h3 w D Ω { tmps:=args.toArray++Array.replicate (fn.ntmps-args.toArray.size) undef,defers:=[] } w ?_) fun ex a' w' hq=> ?_)
 ·refine ⟨rfl,by simp[h5];omega,D,Ω,fun _ => none,fun i g hi hr=> ?_,fun i n hi=> ?_,fun _ _ _ e=>(by cases e),fun _ _ e=>(by cases e),hst,Ev.refl _ _ _⟩
  ·obtain ⟨v,_,k2,k3⟩:=eget_envOf hargs hi
   simp only[Nat.sub_zero] at k2
   refine ⟨v,?_,k3⟩
   have hlt:i<args.length:=by
    rcases Nat.lt_or_ge i args.length with h'|h'
    ·exact h'
    ·simp[List.getElem?_eq_none h'] at k2
   rw[Array.getElem?_append_left (by simpa using hlt)]
   simpa using k2
  ·obtain ⟨v,_,_,k3⟩:=eget_envOf hargs hi
   simp only[MV] at k3
 ·have fin:∀env' H',GEnd F.gr R ex env' H'→SM w D Ω F.cf.N env' H' a' w'→(ex = .normal ∨ ex = .ret)∧a'.defers=[]∧∃v,(results fn a'.tmps).run P w' = .ok v w'∧∃v',Ending.returned v = .returned v'∧Post w D Ω R v' w':=by
   intro env' H' ⟨hex,gs',g',H2,e1,e2,e3⟩ ⟨hdf,hsz,D',Ω',ρw,hi⟩
   refine ⟨hex,hdf,?_⟩
   obtain ⟨vs,n1,n2⟩:=resL_ok (P:=P) (a:=a') hi.st hi.om h4 e1
   have hres:(results fn a'.tmps).run P w' = .ok (if h:vs.toArray.size=1 then vs.toArray[0] else .tuple vs.toArray) w':=by
    unfold results
    rw[Sem.run_bind,Array.mapM_eq_mapM_toList,Sem.run_map]
    erw [n1]
    rfl
   refine ⟨_,hres,_,rfl,?_⟩
   have hv:MV w' D' (pack1 gs') (if h:vs.toArray.size=1 then vs.toArray[0] else .tuple vs.toArray) []:=by
    have hl:=ML.len _ _ _ n2
    match gs',vs,n2,hl with
    | [],[],n2,_ => simp[pack1,MV,ML]
    | [g],[v],n2,_ =>
     simp only[ML] at n2
     obtain ⟨v',us,F1,F2,q1,q2,q3,q4,q5⟩:=n2
     have q6:F1=[]∧F2=[]:=by simpa using q2.symm
     obtain ⟨rfl,rfl⟩:=q6
     simp only[List.cons.injEq] at q1
     obtain ⟨rfl,rfl⟩:=q1
     simpa[pack1] using q3
    | g1::g2::gs,v1::v2::vs,n2,_ =>
     have:¬(v1::v2::vs).toArray.size = 1:=by simp
     rw[dif_neg this]
     simp only[pack1,MV]
     exact ⟨_,rfl,n2⟩
   obtain ⟨D2,Ω2,f1,f2,f3⟩:=e2 w' D' Ω' _ hv hi.st
   exact ⟨g',H2,D2,Ω2,e3,f1,f2,hi.ev.trans f3⟩
  cases ex<;>simp only[QM] at hq
  ·obtain ⟨env',H',k1,k2⟩:=hq
   obtain ⟨_,m1,v,m2,m3⟩:=fin env' H' k1 k2
   exact ⟨m1,v,m2,m3⟩
  ·obtain ⟨env',H',k1,k2⟩:=hq
   obtain ⟨m0,_⟩:=fin env' H' k1 k2
   rcases m0 with m0|m0<;>cases m0
  ·obtain ⟨env',H',k1,k2⟩:=hq
   obtain ⟨_,m1,v,m2,m3⟩:=fin env' H' k1 k2
   exact ⟨m1,v,m2,m3⟩
end
end Go.Gh
namespace Go.Gh
theorem GCalls.mono {P:Program} {f:FuncId} {gs:List GV} {H:GH} {R R':GV→GH→Prop} (h:GCalls P f gs H R) (hm:∀g H',R g H'→R' g H'):GCalls P f gs H R':=
 fun w D Ω args hst hargs=>Yld.mono (fun _ _ ⟨g,H',D',Ω',k1,k2⟩=>⟨g,H',D',Ω',hm _ _ k1,k2⟩) (h w D Ω args hst hargs)
def Pure (P:Program) (f:FuncId) (gs:List GV) (R:GV→Prop):Prop:=GCalls P f gs [] (fun g _ => R g)
theorem St.nil {w:World} {D:Nat→Prop} (h:∀b,D b→b<w.heap.size):St w D [] []:=⟨rfl,List.nodup_nil,List.nodup_nil,by simp,h⟩
theorem Pure.frame {P:Program} {f:FuncId} {gs:List GV} {R:GV→Prop} (h:Pure P f gs R) (H:GH):GCalls P f gs H (fun g H'=>R g∧H'=H):=by
 intro w D Ω args hst hargs
 refine Yld.mono (fun v w' ⟨g,H',D',Ω',k1,k2,k3,k4⟩=> ?_) (h w D [] args (St.nil hst.ds) hargs)
 have hk:Kept w w' (fun _ => True):=k4.kp.mono fun _ _ _ => by simp
 have hlt:∀b∈Ω,b<w.heap.size:=HM.flt hst.hm
 refine ⟨g,H,D',Ω,⟨k1,rfl⟩,k2,⟨HM.keep hk (fun _ _ => trivial) k4.d0 (fun _ _ => trivial) hst.hm,hst.nd,hst.nn,fun b hb hD=> ?_,k3.ds⟩,
  ⟨k4.d0,fun b hb hD=> .inl ((k4.dn b hb hD).resolve_right (by simp)),fun _ h _ => h,hk.mono fun _ _ _ => trivial,k4.os,k4.tape,k4.output⟩⟩
 rcases k4.dn b (hlt b hb) hD with h1|h1
 ·exact hst.dj b hb h1
 ·simp at h1
mutual
def scal:GV→Bool
 | .val _ => true
 | .agg gs=>scalL gs
 | .tup gs=>scalL gs
 | _ => false
def scalL:List GV→Bool
 | []=>true
 | g::gs=>scal g&&scalL gs
end
mutual
theorem MV.scal {w w':World} {D D':Nat→Prop}:∀(g:GV) (v:Value) (F:List Nat),scal g=true→MV w D g v F→MV w' D' g v F
 | .val u,v,F,_,h=>by simpa[MV] using h
 | .agg gs,v,F,hs,h=>by
  simp only[MV] at h ⊢
  obtain ⟨vs,h1,h0,h2⟩:=h
  exact ⟨vs,h1,h0,ML.scal gs vs F (by simpa[Gh.scal] using hs) h2⟩
 | .tup gs,v,F,hs,h=>by
  simp only[MV] at h ⊢
  obtain ⟨vs,h1,h2⟩:=h
  exact ⟨vs,h1,ML.scal gs vs F (by simpa[Gh.scal] using hs) h2⟩
 | .sl _ _,_,_,hs,_ => by simp[Gh.scal] at hs
 | .rop _ _,_,_,hs,_ => by simp[Gh.scal] at hs
 | .ptr _ _ _ _,_,_,hs,_ => by simp[Gh.scal] at hs
 | .own _ _ _ _,_,_,hs,_ => by simp[Gh.scal] at hs
 | .osl _ _,_,_,hs,_ => by simp[Gh.scal] at hs
 | .clo _ _,_,_,hs,_ => by simp[Gh.scal] at hs
 | .raw _,_,_,hs,_ => by simp[Gh.scal] at hs
 | .cur,_,_,hs,_ => by simp[Gh.scal] at hs
theorem ML.scal {w w':World} {D D':Nat→Prop}:∀(gs:List GV) (vs:List Value) (F:List Nat),scalL gs=true→ML w D gs vs F→ML w' D' gs vs F
 | [],vs,F,_,h=>by simpa[ML] using h
 | g::gs,vs,F,hs,h=>by
  simp only[ML] at h ⊢
  simp only[scalL,Bool.and_eq_true] at hs
  obtain ⟨v,vs',F1,F2,h1,h2,h3,h4⟩:=h
  exact ⟨v,vs',F1,F2,h1,h2,MV.scal g v F1 hs.1 h3,ML.scal gs vs' F2 hs.2 h4⟩
end
def Bor (H:GH) (g g':GV):Prop:=∀w D Ω v,St w D H Ω→MV w D g v []→MV w (fun b=>D b∨b∈Ω) g' v []
def BorL (H:GH) (gs gs':List GV):Prop:=∀w D Ω vs,St w D H Ω→ML w D gs vs []→ML w (fun b=>D b∨b∈Ω) gs' vs []
theorem MV.more {w:World} {D D':Nat→Prop} (h:∀b,D b→D' b) {g:GV} {v:Value} {F:List Nat} (hm:MV w D g v F):MV w D' g v F:=
 MV.keep (S:=fun _ => True) (Kept.refl _ _) (fun _ _ => trivial) h g v F (fun _ _ => trivial) hm
theorem Bor.refl {H:GH} {g:GV}:Bor H g g:=fun _ _ _ _ _ h=>h.more fun _ => .inl
theorem BorL.nil {H:GH}:BorL H [] []:=fun _ _ _ _ _ h=>by simpa[ML] using h
theorem BorL.cons {H:GH} {g g':GV} {gs gs':List GV} (h:Bor H g g') (hs:BorL H gs gs'):BorL H (g::gs) (g'::gs'):=fun w D Ω vs hst hm=>by
 simp only[ML] at hm ⊢
 obtain ⟨v,vs',F1,F2,h1,h2,h3,h4⟩:=hm
 have e3:F1=[]∧F2=[]:=by simpa using h2.symm
 obtain ⟨rfl,rfl⟩:=e3
 exact ⟨v,vs',[],[],h1,rfl,h w D Ω v hst h3,hs w D Ω vs' hst h4⟩
theorem BorL.refl {H:GH}:∀{gs:List GV},BorL H gs gs
 | []=> .nil
 | _ :: _ => .cons .refl .refl
theorem Bor.nil {H:GH} {sz:Nat}:Bor H (.val (.slice none 0 0)) (.sl sz []):=fun w D Ω v _ h=>by
 simp only[MV] at h ⊢
 exact ⟨trivial,.inl ⟨trivial,_,_,h.1⟩⟩
theorem Bor.agg {H:GH} {gs gs':List GV} (h:BorL H gs gs'):Bor H (.agg gs) (.agg gs'):=fun w D Ω v hst hm=>by
 simp only[MV] at hm ⊢
 obtain ⟨vs,h1,h0,h2⟩:=hm
 exact ⟨vs,h1,h0,h w D Ω vs hst h2⟩
theorem Bor.tup {H:GH} {gs gs':List GV} (h:BorL H gs gs'):Bor H (.tup gs) (.tup gs'):=fun w D Ω v hst hm=>by
 simp only[MV] at hm ⊢
 obtain ⟨vs,h1,h2⟩:=hm
 exact ⟨vs,h1,h w D Ω vs hst h2⟩
def Bor1 (H:GH):List GV→List GV→Prop
 | [],[]=>True
 | g::gs,g'::gs'=>Bor H g g'∧Bor1 H gs gs'
 | _,_ => False
theorem Bor1.len {H:GH}:∀{gs gs':List GV},Bor1 H gs gs'→gs.length=gs'.length
 | [],[],_ => rfl
 | _ :: _,_ :: _,h=>by simp[Bor1.len h.2]
 | [],_ :: _,h=>h.elim
 | _ :: _,[],h=>h.elim
theorem MF.bor {H:GH} {w:World} {D:Nat→Prop} {Ω:List Nat} {sz:Nat} (hst:St w D H Ω):∀{gs gs':List GV} {cs:List Value},Bor1 H gs gs'→MF w D sz gs cs []→MF w (fun b=>D b∨b∈Ω) sz gs' cs []
 | [],[],_,_,hm=>by simpa[MF] using hm
 | g::gs,g'::gs',cs,h,hm=>by
  simp only[MF] at hm ⊢
  obtain ⟨v,cs',F1,F2,h1,h2,h3,h4,h5,h6⟩:=hm
  have e3:F1=[]∧F2=[]:=by simpa using h4.symm
  obtain ⟨rfl,rfl⟩:=e3
  exact ⟨v,cs',[],[],h1,h2,h3,rfl,h.1 w D Ω v hst h5,MF.bor hst h.2 h6⟩
 | [],_ :: _,_,h,_ => h.elim
 | _ :: _,[],_,h,_ => h.elim
theorem Bor.sl {H:GH} {sz:Nat} {es es':List GV} (h:Bor1 H es es'):Bor H (.sl sz es) (.sl sz es'):=fun w D Ω v hst hm=>by
 have hl:=h.len
 simp only[MV] at hm ⊢
 refine ⟨trivial,?_⟩
 rcases hm.2 with ⟨h1,h2⟩|⟨b,off,cap,cs,h1,h2,h3,h4,h5,h6⟩
 ·subst h1
  refine .inl ⟨?_,h2⟩
  cases es' with
  | nil=>rfl
  | cons=>simp at hl
 ·exact .inr ⟨b,off,cap,cs,by rw[←hl];exact h1,by rw[←hl];exact h2,by rw[←hl];exact h3,.inl h4,h5,MF.bor hst h h6⟩
theorem Bor.own {H:GH} {r sz k n:Nat} {es:List GV} (hr:Z6 H r=some (sz,es)) (hn:k+n≤es.length):Bor H (.own r sz k n) (.sl sz (Y7 ((es.drop k).take n))):=fun w D Ω v h hv=>by
 obtain ⟨F,hF,hFΩ⟩:=h.hm.mem hr
 simp only[MV] at hv ⊢
 refine ⟨trivial,?_⟩
 have hlen:(Y7 ((es.drop k).take n)).length = n:=by rw[X4];simp;omega
 rcases hv.2 with ⟨b,cap,c,T,fz,h1,rfl,h3,h4,h5⟩|⟨rfl,a,rfl⟩
 ·rcases hF with ⟨b',c',T',fz',F',k1,k2,k3,k4,k5,k6,k7⟩|⟨k1,_,_⟩
  ·have:b'=b:=by omega
   subst this
   rw[h4] at k2
   simp only[Option.some.injEq,Obj.cells.injEq] at k2
   obtain ⟨rfl,rfl,rfl⟩:=k2
   obtain ⟨G1,G2,g1,_,g3⟩:=MF.part sz k k7
   obtain ⟨G3,G4,g4,g5,_⟩:=MF.part sz n g3
   have hle:k * sz+n * sz≤es.length * sz:=by rw[←Nat.add_mul];exact Nat.mul_le_mul_right _ hn
   have ecs:((c.toList.take (es.length * sz)).drop (k * sz)).take (n * sz)=(c.toList.drop (k * sz)).take (n * sz):=by
    rw[List.drop_take,List.take_take];congr 1;omega
   rw[ecs] at g5
   refine .inr ⟨b',k * sz,cap,(c.toList.drop (k * sz)).take (n * sz),by rw[hlen],by rw[hlen];exact h3,by rw[hlen];omega,.inr (hFΩ _ (by simp[k6])),⟨c,T,fz,h4,fun j u hj=> ?_⟩,
    MF.view (fun _ => .inl) sz _ _ G3 (fun x hx=> .inr (hFΩ x (by simp[k6,g1,g4,hx]))) g5⟩
   rw[List.getElem?_take] at hj
   split at hj
   ·rw[List.getElem?_drop] at hj;simpa using hj
   ·cases hj
  ·omega
 ·exact .inl ⟨by simp[Y7],a,0,rfl⟩
theorem Pure.borrow {P:Program} {f:FuncId} {gs gs':List GV} {R:GV→Prop} {H:GH} (h:Pure P f gs' R) (hb:BorL H gs gs') (hs:∀g,R g→scal g=true):GCalls P f gs H (fun g H'=>R g∧H'=H):=by
 intro w D Ω args hst hargs
 have hds:∀b,(D b∨b∈Ω)→b<w.heap.size:=fun b hb=>hb.elim (hst.ds b) (HM.flt hst.hm b)
 refine Yld.mono (fun v w' ⟨g,H',D',Ω',k1,k2,k3,k4⟩=> ?_) (h w (fun b=>D b∨b∈Ω) [] args (St.nil hds) (hb w D Ω args hst hargs))
 have hk:Kept w w' (fun _ => True):=k4.kp.mono fun _ _ _ => by simp
 exact ⟨g,H,D,Ω,⟨k1,rfl⟩,MV.scal g v [] (hs g k1) k2,⟨HM.keep hk (fun _ _ => trivial) (fun _ h=>h) (fun _ _ => trivial) hst.hm,hst.nd,hst.nn,hst.dj,fun b hb=>Nat.lt_of_lt_of_le (hst.ds b hb) hk.size⟩,
  ⟨fun _ h=>h,fun b _ hD=> .inl hD,fun _ h _ => h,hk.mono fun _ _ _ => trivial,k4.os,k4.tape,k4.output⟩⟩
theorem call_eq {P:Program} {f:FuncId} {gs:List GV} {H:GH} {G:GV} {K:GV→GH→Prop} (h:Pure P f gs (· = G)) (hk:K G H) :
 ∃R,GCalls P f gs H R∧∀g H',R g H'→(names H').Nodup → K g H':=⟨_,h.frame H,fun _ _ ⟨h1,h2⟩ _ => by subst h1;subst h2;exact hk⟩
theorem call_det {P:Program} {f:FuncId} {gs:List GV} {H:GH} {G:GV} {K:GV→GH→Prop} (h:Pure P f gs (· = G)) (hk:K G H) :
 ∃G,GCalls P f gs H (fun g H'=>g=G∧H'=H)∧K G H:=⟨G,h.frame H,hk⟩
theorem call_bor {P:Program} {f:FuncId} {gs gs':List GV} {H:GH} {G:GV} {K:GV→GH→Prop} (h:Pure P f gs' (· = G)) (hb:BorL H gs gs') (hs:scal G=true) (hk:K G H) :
 ∃R,GCalls P f gs H R∧∀g H',R g H'→(names H').Nodup → K g H':=⟨_,h.borrow hb (fun _ e=>by rw[e];exact hs),fun _ _ ⟨h1,h2⟩ _ => by subst h1;subst h2;exact hk⟩
def nraw:GV→Bool
 | .raw _ => false
 | _ => true
def EB (H:GH) (env env':Env):Prop:=∀j g',ZU env' j=some g'→∃g,ZU env j=some g∧nraw g=true∧nraw g'=true∧Bor H g g'
theorem EB.nil {H:GH} {env:Env}:EB H env []:=fun j g' h=>by simp[ZU] at h
theorem EB.cons {H:GH} {env env':Env} {j:Nat} {g g':GV} (h1:ZU env j=some g) (h2:nraw g=true) (h3:nraw g'=true) (hb:Bor H g g') (h:EB H env env'):EB H env ((j,g')::env'):=fun i x hx=>by
 simp only[ZU] at hx
 split at hx
 ·rename_i e
  subst e
  simp only[Option.some.injEq] at hx
  subst hx
  exact ⟨g,h1,h2,h3,hb⟩
 ·exact h i x hx
theorem nraw_ne {g:GV} (h:nraw g=true):∀n,g ≠ .raw n:=fun n e=>by subst e;simp[nraw] at h
theorem take_one {w:World} {D:Nat→Prop} {H:GH} {Ω:List Nat} {r sz:Nat} {es:List GV} (h:St w D H Ω) (hr:Z6 H r=some (sz,es)) :
 ∃F Ω',St w D [(r,sz,es)] F∧St w (fun b=>D b∨b∈F) (ZL H r) Ω'∧(∀x∈F,x∈Ω)∧(∀x∈Ω',x∈Ω):=by
 obtain ⟨Ω1,F,Ω2,hΩ,hR,_,hdl⟩:=HM.take h.hm hr
 subst hΩ
 have hnd:=h.nd
 have hsub:(Ω1++Ω2).Sublist (Ω1++(F++Ω2)):=List.Sublist.append (List.Sublist.refl _) (List.sublist_append_right _ _)
 refine ⟨F,Ω1++Ω2,⟨⟨F,[],by simp,hR,rfl⟩,?_,by simp[names],fun b hb=>h.dj b (by simp[hb]),h.ds⟩,
  ⟨hdl w _ (fun _ => True) (Kept.refl _ _) (fun _ _ => trivial) (fun _ => .inl) (fun _ _ => trivial),h.nd.sublist hsub,h.nn.sublist (Yn H r),?_,?_⟩,fun x hx=>by simp[hx],fun x hx=>hsub.subset hx⟩
 ·exact (List.nodup_append.1 (List.nodup_append.1 hnd).2.1).1
 ·intro b hb hD
  rcases hD with hD|hD
  ·exact h.dj b (hsub.subset hb) hD
  ·rcases List.mem_append.1 hb with hb|hb
   ·exact (List.nodup_append.1 hnd).2.2 b hb b (by simp[hD]) rfl
   ·exact (List.nodup_append.1 (List.nodup_append.1 hnd).2.1).2.2 b hD b hb rfl
 ·intro b hb
  rcases hb with hb|hb
  ·exact h.ds b hb
  ·exact HM.flt h.hm b (by simp[hb])
theorem FE.freeze {env env':Env} {H:GH} {r sz:Nat} {es:List GV} (hr:Z6 H r=some (sz,es)) (he:EB [(r,sz,es)] env env'):FE env H env' (ZL H r):=by
 intro w0 D0 O0 N a w ⟨hdf,hsz,D,Ω,ρw,hi⟩
 obtain ⟨F,Ω',h1,h2,h3,h4⟩:=take_one hi.st hr
 refine ⟨hdf,hsz,fun b=>D b∨b∈F,Ω',ρw,fun i g hg _ => ?_,fun i n hg=> ?_,hi.ri,fun i b hb=> ?_,h2,hi.ev.trans ⟨fun _ h=> .inl h,fun b hb hD=>hD.elim .inl fun h=> .inr (h3 b h),fun b hb _ => h4 b hb,Kept.refl _ _,rfl,rfl,rfl⟩⟩
 ·obtain ⟨g0,k1,k2,k3,k4⟩:=he i g hg
  obtain ⟨v,m1,m2⟩:=hi.em i g0 k1 (nraw_ne k2)
  exact ⟨v,m1,k4 w D F v h1 m2⟩
 ·obtain ⟨_,_,_,k3,_⟩:=he i _ hg
  simp[nraw] at k3
 ·obtain ⟨r1,r2,r3,r4⟩:=hi.rd i b hb
  exact ⟨fun hD=>hD.elim r1 fun h=>r2 (h3 b h),fun h=>r2 (h4 b h),r3,r4⟩
theorem FE.sub {env env':Env} {H:GH} (he:EB [] env env'):FE env H env' H:=by
 intro w0 D0 O0 N a w ⟨hdf,hsz,D,Ω,ρw,hi⟩
 refine ⟨hdf,hsz,D,Ω,ρw,fun i g hg _ => ?_,fun i n hg=> ?_,hi.ri,hi.rd,hi.st,hi.ev⟩
 ·obtain ⟨g0,k1,k2,k3,k4⟩:=he i g hg
  obtain ⟨v,m1,m2⟩:=hi.em i g0 k1 (nraw_ne k2)
  exact ⟨v,m1,(k4 w D [] v (St.nil hi.st.ds) m2).more fun b hb=>by simpa using hb⟩
 ·obtain ⟨_,_,_,k3,_⟩:=he i _ hg
  simp[nraw] at k3
theorem FE.refl {env:Env} {H:GH}:FE env H env H:=fun _ _ _ _ _ _ h=>h
theorem FE.trans {e1 e2 e3:Env} {H1 H2 H3:GH} (h:FE e1 H1 e2 H2) (k:FE e2 H2 e3 H3):FE e1 H1 e3 H3:=fun _ _ _ _ _ _ hm=>k _ _ _ _ _ _ (h _ _ _ _ _ _ hm)
theorem FE.virt {env:Env} {H:GH} {j r sz:Nat} (hj:ZU env j=some (.val (.slice none 0 0))) (hr:r % 4=1) (hn:r∉names H):FE env H (eset env j (.own r sz 0 0)) ((r,sz,[])::H):=by
 intro w0 D0 O0 N a w ⟨hdf,hsz,D,Ω,ρw,hi⟩
 refine ⟨hdf,hsz,D,Ω,ρw,fun i g hg hr=> ?_,fun i n hg=> ?_,hi.ri,hi.rd,⟨⟨[],Ω,rfl,.inr ⟨od_virt hr,rfl,rfl⟩,hi.st.hm⟩,hi.st.nd,?_,hi.st.dj,hi.st.ds⟩,hi.ev⟩
 ·rw[Yu] at hg
  split at hg
  ·rename_i e
   subst e
   simp only[Option.some.injEq] at hg
   subst hg
   obtain ⟨v,m1,m2⟩:=hi.em j _ hj (fun n e=>by cases e)
   refine ⟨v,m1,?_⟩
   rw[MV.val_inv m2]
   simp[MV]
  ·exact hi.em i g hg hr
 ·rw[Yu] at hg
  split at hg
  ·cases hg
  ·exact hi.rw i n hg
 ·simp only[names,List.map_cons,List.nodup_cons]
  exact ⟨hn,hi.st.nn⟩
def vname (H:GH):Nat:=4 * (names H).foldr max 0+1
theorem vname_odd (H:GH):vname H % 4=1:=by simp[vname,Nat.add_mod]
theorem le_foldr_max:∀(l:List Nat) (x:Nat),x∈l→x≤l.foldr max 0
 | [],_,h=>by simp at h
 | a::l,x,h=>by
  simp only[List.foldr_cons]
  rcases List.mem_cons.1 h with rfl|h
  ·omega
  ·have:=le_foldr_max l x h;omega
theorem vname_new (H:GH):vname H∉names H:=fun h=>by have:=le_foldr_max _ _ h;simp only[vname] at this;omega
theorem FR.freeze {g g':GV} {H:GH} {r sz:Nat} {es:List GV} (hr:Z6 H r=some (sz,es)) (hb:Bor [(r,sz,es)] g g'):FR g H g' (ZL H r):=by
 intro w D Ω v hv hst
 obtain ⟨F,Ω',h1,h2,h3,h4⟩:=take_one hst hr
 exact ⟨_,Ω',hb w D F v h1 hv,h2,⟨fun _ h=> .inl h,fun b hb hD=>hD.elim .inl fun h=> .inr (h3 b h),fun b hb _ => h4 b hb,Kept.refl _ _,rfl,rfl,rfl⟩⟩
theorem FR.sub {g g':GV} {H:GH} (hb:Bor [] g g'):FR g H g' H:=fun w D Ω v hv hst=>
 ⟨D,Ω,(hb w D [] v (St.nil hst.ds) hv).more fun b hb=>by simpa using hb,hst,Ev.refl _ _ _⟩
theorem FR.trans {g g' g'':GV} {H H' H'':GH} (h:FR g H g' H') (k:FR g' H' g'' H''):FR g H g'' H'':=fun w D Ω v hv hst=>by
 obtain ⟨D1,Ω1,h1,h2,h3⟩:=h w D Ω v hv hst
 obtain ⟨D2,Ω2,k1,k2,k3⟩:=k w D1 Ω1 v h1 h2
 exact ⟨D2,Ω2,k1,k2,h3.trans k3⟩
theorem FR.drop {g:GV} {H:GH} {r sz:Nat} {es:List GV} (hr:Z6 H r=some (sz,es)):FR g H g (ZL H r):=FR.freeze hr .refl
section
variable {P:Program} {cf:Cfg}
theorem GW.names {gc:GC} {Q:Exit→Env→GH→Prop} {env:Env} {H:GH} (h:(names H).Nodup → GW P cf gc Q env H):GW P cf gc Q env H:=by
 intro md c hc w0 D0 O0 a w hm
 obtain ⟨hdf,hsz,D,Ω,ρw,hi⟩:=hm
 exact h hi.st.nn md c hc w0 D0 O0 a w ⟨hdf,hsz,D,Ω,ρw,hi⟩
end
end Go.Gh
namespace Go.Gh
def callS (P:Program) (det:Bool) (f:FuncId) (gs:Option (List GV)) (d:Option Nat) (is:List GI) (K:Env→GH→Prop) (env:Env) (H:GH):Prop:=
 match gs with
 | some gs=>if det then ∃G,GCalls P f gs H (fun g H'=>g=G∧H'=H)∧Z7 P is K (gput env d G) H
  else ∃R,GCalls P f gs H R∧∀g H',R g H'→(names H').Nodup → Z7 P is K (gput env d g) H'
 | none=>False
def callA (P:Program) (f:FuncId) (gs:Option (List GV)) (d:Option Nat) (is:List GI) (K:Env→GH→Prop) (env:Env) (H:GH):Prop:=
 match gs with
 | some gs=>∃R:GV→GH→Prop,GCalls P f gs H (fun g H'=>∃H1,R g H1∧H'=H1++H)∧∀g H1,R g H1→(names (H1++H)).Nodup → Z7 P is K (gput env d g) (H1++H)
 | none=>False
def callK (P:Program) (ks:List Nat) (f:FuncId) (gs:Option (List GV)) (d:Option Nat) (is:List GI) (K:Env→GH→Prop) (env:Env) (H:GH):Prop:=
 match gs with
 | some gs=>∃R:GV→GH→Prop,GCalls P f gs H R∧∀g H',R g H'→(names H').Nodup → kpt env H H' ks∧Z7 P is K (gput env d g) H'
 | none=>False
def callF (P:Program) (b o:Nat) (f:FuncId) (gs:Option (List GV)) (d:Option Nat) (is:List GI) (K:Env→GH→Prop) (env:Env) (H:GH):Prop:=
 match gs with
 | some gs=>∃R:GV→GH→Prop,GCalls P f gs H R∧∀g H',R g H'→(names H').Nodup → kptF (ZU env b) o H H'∧Z7 P is K (gput env d g) H'
 | none=>False
def callvA (P:Program) (x:Option GV) (gs:Option (List GV)) (d:Option Nat) (is:List GI) (K:Env→GH→Prop) (env:Env) (H:GH):Prop:=
 match x with
 | some (.clo f cs)=>callA P f (gs.map (· ++ cs)) d is K env H
 | _ => False
def callvS (P:Program) (det:Bool) (x:Option GV) (gs:Option (List GV)) (d:Option Nat) (is:List GI) (K:Env→GH→Prop) (env:Env) (H:GH):Prop:=
 match x with
 | some (.clo f cs)=>callS P det f (gs.map (· ++ cs)) d is K env H
 | _ => False
def guardS (P:Program) (x:Option GV) (t:Nat) (want:Bool) (d:Option Nat) (o:GOp) (is:List GI) (K:Env→GH→Prop) (env:Env) (H:GH):Prop:=
 ZU env t=x∧ZM (some (t,want)) env (Z7 P ({ dst:=d,guard:=none,op:=o }::is) K env H) (Z7 P is K (gput env d uG) H)
def pickS (P:Program) (c:Option GV) (a b:Option GV) (d:Option Nat) (is:List GI) (K:Env→GH→Prop) (env:Env) (H:GH):Prop:=
 match c with
 | some (.val (.bool t))=>(t=true→Z3 a fun g=>Z7 P is K (gput env d g) H)∧(t=false→Z3 b fun g=>Z7 P is K (gput env d g) H)
 | _ => False
def stopS (P:Program) (o:GOp) (d:Option Nat) (is:List GI) (K:Env→GH→Prop) (env:Env) (H:GH):Prop:=ZY P o env H fun g H'=>Z7 P is K (gput env d g) H'
def loadS (P:Program) (x:Option GV) (n:Nat) (ag:Bool) (a:GE) (d:Option Nat) (is:List GI) (K:Env→GH→Prop) (env:Env) (H:GH):Prop:=
 ge env a=x∧Z5 P (.load n ag a) (ge env) H fun g H'=>Z7 P is K (gput env d g) H'
def valS (P:Program) (r:Option GV) (d:Option Nat) (is:List GI) (K:Env→GH→Prop) (env:Env) (H:GH):Prop:=
 match r with
 | some g=>Z7 P is K (gput env d g) H
 | none=>False
def stroS (P:Program) (r x:Option GV) (n:Nat) (d:Option Nat) (is:List GI) (K:Env→GH→Prop) (env:Env) (H:GH):Prop:=
 match r with
 | some (.raw m)=>Z3 x fun g=>m=n∧gsize g=n∧ZI g=true∧Z7 P is K (gput env d (.rop n g)) H
 | _ => False
def allR:Option GV→Option (List GV)→Option (List GV)
 | some g,some gs=>some (g::gs)
 | _,_ => none
def prtR (a b:Nat):Option GV→Option (List (Nat×Nat×GV))→Option (List (Nat×Nat×GV))
 | some g,some gs=>some ((a,b,g)::gs)
 | _,_ => none
def rInt (f:IntKind→Int→Int→Value) (x y:Option GV):Option GV:=
 match x,y with
 | some (.val (.int j a)),some (.val (.int j' b))=>if j=j' then some (.val (f j a b)) else none
 | _,_ => none
def rAdd (x y:Option GV):Option GV:=
 match x,y with
 | some (.val (.int j a)),some (.val (.int j' b))=>if j=j' then some (.val (.int j (j.wrap (a+b)))) else none
 | some (.val (.string s)),some (.val (.string t))=>if (Z9 s).length + (Z9 t).length ≤ 9223372036854775807 then some (.val (mkS (Z9 s++Z9 t))) else none
 | _,_ => none
def rCmp (f:Int→Int→Bool) (g:List UInt8→List UInt8→Bool) (x y:Option GV):Option GV:=
 match x,y with
 | some (.val (.int j a)),some (.val (.int j' b))=>if j=j' then some (.val (.bool (f a b))) else none
 | some (.val (.string s)),some (.val (.string t))=>some (.val (.bool (g (Z9 s) (Z9 t))))
 | _,_ => none
def rDiv (f:IntKind→Int→Int→Value) (x y:Option GV):Option GV:=
 match x,y with
 | some (.val (.int j a)),some (.val (.int j' b))=>if j=j'∧b≠0 then some (.val (f j a b)) else none
 | _,_ => none
def rBeq (neg:Bool) (x y:Option GV):Option GV:=
 match x,y with
 | some (.val (.bool a)),some (.val (.bool b))=>some (.val (.bool (if neg then !decide (a=b) else decide (a=b))))
 | _,_ => none
def rAeq (neg:Bool) (ks:List Nat) (x y:Option GV):Option GV:=
 match x,y with
 | some (.agg as),some (.agg bs)=>(YL ks as bs).map fun t=> .val (.bool (if neg then !t else t))
 | _,_ => none
def rNot:Option GV→Option GV
 | some (.val (.bool b))=>some (.val (.bool !b))
 | _ => none
def rNeg:Option GV→Option GV
 | some (.val (.int j n))=>some (.val (.int j (j.wrap (0-n))))
 | _ => none
def rConv (k:IntKind):Option GV→Option GV
 | some (.val (.int _ n))=>some (.val (.int k (k.wrap n)))
 | _ => none
def rFaddr (off n:Nat) (ag:Bool):Option GV→Option GV
 | some (.rop _ g)=>(sub g off n ag).map (.rop n)
 | some (.ptr r sz i o)=>some (.ptr r sz i (o+off))
 | _ => none
def rField (off n:Nat) (ag:Bool):Option GV→Option GV
 | some g=>sub g off n ag
 | none=>none
def rExt (i:Nat):Option GV→Option GV
 | some (.tup gs)=>gs[i]?
 | _ => none
def rLen:Option GV→Option GV
 | some (.sl _ es)=>some (.val (.int .i64 es.length))
 | some (.own _ _ _ n)=>some (.val (.int .i64 n))
 | some (.val (.slice none 0 0))=>some (.val (.int .i64 0))
 | _ => none
def rSlen:Option GV→Option GV
 | some (.val (.string s))=>some (.val (.int .i64 (Z9 s).length))
 | _ => none
def rNck:Option GV→Option GV
 | some (.rop sz g)=>some (.rop sz g)
 | some (.ptr r sz i o)=>some (.ptr r sz i o)
 | some (.clo f cs)=>some (.clo f cs)
 | _ => none
def rLoad (n:Nat) (ag:Bool):Option GV→Option GV
 | some (.rop sz g)=>if sz=n∧isAgg g=ag then some g else none
 | _ => none
def rBuild (z:List GV) (qs:Option (List (Nat×Nat×GV))):Option GV:=
 match qs with
 | some qs=>(fillG z qs).map .agg
 | none=>none
def rFn (f:Nat):Option (List GV)→Option GV
 | some gs=>some (.clo f gs)
 | none=>none
section
variable (j:IntKind) (a b:Int) (s t:ByteArray)
theorem r_int (f:IntKind→Int→Int→Value):rInt f (some (.val (.int j a))) (some (.val (.int j b)))=some (.val (f j a b)):=by simp[rInt]
theorem r_add:rAdd (some (.val (.int j a))) (some (.val (.int j b)))=some (.val (.int j (j.wrap (a+b)))):=by simp[rAdd]
theorem r_sadd:rAdd (some (.val (.string s))) (some (.val (.string t)))=if (Z9 s).length + (Z9 t).length ≤ 9223372036854775807 then some (.val (mkS (Z9 s++Z9 t))) else none:=(rfl)
theorem r_cmp (f:Int→Int→Bool) (g:List UInt8→List UInt8→Bool):rCmp f g (some (.val (.int j a))) (some (.val (.int j b)))=some (.val (.bool (f a b))):=by simp[rCmp]
theorem r_scmp (f:Int→Int→Bool) (g:List UInt8→List UInt8→Bool):rCmp f g (some (.val (.string s))) (some (.val (.string t)))=some (.val (.bool (g (Z9 s) (Z9 t)))):=(rfl)
theorem r_div (f:IntKind→Int→Int→Value):rDiv f (some (.val (.int j a))) (some (.val (.int j b)))=if b≠0 then some (.val (f j a b)) else none:=by simp[rDiv]
theorem r_beq (neg x y:Bool):rBeq neg (some (.val (.bool x))) (some (.val (.bool y)))=some (.val (.bool (if neg then !decide (x=y) else decide (x=y)))):=(rfl)
theorem r_aeq (neg:Bool) (ks:List Nat) (as bs:List GV):rAeq neg ks (some (.agg as)) (some (.agg bs))=(YL ks as bs).map fun t=> .val (.bool (if neg then !t else t)):=(rfl)
theorem r_not (x:Bool):rNot (some (.val (.bool x)))=some (.val (.bool !x)):=(rfl)
theorem r_neg:rNeg (some (.val (.int j a)))=some (.val (.int j (j.wrap (0-a)))):=(rfl)
theorem r_conv (k:IntKind):rConv k (some (.val (.int j a)))=some (.val (.int k (k.wrap a))):=(rfl)
theorem r_faddr (off n sz:Nat) (ag:Bool) (g:GV):rFaddr off n ag (some (.rop sz g))=(sub g off n ag).map (.rop n):=(rfl)
theorem r_faddrp (off n r sz i o:Nat) (ag:Bool):rFaddr off n ag (some (.ptr r sz i o))=some (.ptr r sz i (o+off)):=(rfl)
theorem r_field (off n:Nat) (ag:Bool) (g:GV):rField off n ag (some g)=sub g off n ag:=(rfl)
theorem r_ext (i:Nat) (gs:List GV):rExt i (some (.tup gs))=gs[i]? := (rfl)
theorem r_len (sz:Nat) (es:List GV):rLen (some (.sl sz es))=some (.val (.int .i64 es.length)):=(rfl)
theorem r_leno (r sz k n:Nat):rLen (some (.own r sz k n))=some (.val (.int .i64 n)):=(rfl)
theorem r_len0:rLen (some (.val (.slice none 0 0)))=some (.val (.int .i64 0)):=(rfl)
theorem r_slen:rSlen (some (.val (.string s)))=some (.val (.int .i64 (Z9 s).length)):=(rfl)
theorem r_nckr (sz:Nat) (g:GV):rNck (some (.rop sz g))=some (.rop sz g):=(rfl)
theorem r_nckp (r sz i o:Nat):rNck (some (.ptr r sz i o))=some (.ptr r sz i o):=(rfl)
theorem r_nckc (f:Nat) (cs:List GV):rNck (some (.clo f cs))=some (.clo f cs):=(rfl)
theorem r_load (n sz:Nat) (ag:Bool) (g:GV):rLoad n ag (some (.rop sz g))=if sz=n∧isAgg g=ag then some g else none:=(rfl)
theorem r_build (z:List GV) (qs:List (Nat×Nat×GV)):rBuild z (some qs)=(fillG z qs).map .agg := (rfl)
theorem r_fn (f:Nat) (gs:List GV):rFn f (some gs)=some (.clo f gs):=(rfl)
end
section
variable (P:Program) (K:Env→GH→Prop) (is:List GI) (env:Env) (H:GH) (d:Option Nat)
theorem v_some (g:GV):valS P (some g) d is K env H=Z7 P is K (gput env d g) H:=(rfl)
theorem q_nil:Z7 P [] K env H=K env H:=(rfl)
theorem q_mov (x:GE):Z7 P (⟨d,none,.mov x⟩::is) K env H=valS P (ge env x) d is K env H:=(rfl)
theorem q_pick (c a b:GE):Z7 P (⟨d,none,.pick c a b⟩::is) K env H=pickS P (ge env c) (ge env a) (ge env b) d is K env H:=by
 show Z3 _ _ = _
 unfold pickS Z3
 cases ge env c with
 | none=>rfl
 | some g=>
  cases g with
  | val v=>cases v<;>rfl
  | _ => rfl
theorem q_call (det:Bool) (f:Nat) (xs:List GE):Z7 P (⟨d,none,.call det f xs⟩::is) K env H=callS P det f (Zi (ge env) xs) d is K env H:=(rfl)
theorem q_guard (t:Nat) (want:Bool) (o:GOp):Z7 P (⟨d,some (t,want),o⟩::is) K env H=guardS P (ZU env t) t want d o is K env H:=by
 simp only[guardS,true_and]
 rfl
theorem q_callv (det:Bool) (x:GE) (xs:List GE):Z7 P (⟨d,none,.callv det x xs⟩::is) K env H=callvS P det (ge env x) (Zi (ge env) xs) d is K env H:=by
 show Z3 _ _ = _
 unfold callvS Z3
 cases hx:ge env x with
 | none=>rfl
 | some g=>
  cases g<;>try rfl
  simp only[callS]
  cases Zi (ge env) xs<;>rfl
theorem q_calla (f:Nat) (xs:List GE):Z7 P (⟨d,none,.calla f xs⟩::is) K env H=callA P f (Zi (ge env) xs) d is K env H:=(rfl)
theorem q_callf (b o f:Nat) (xs:List GE):Z7 P (⟨d,none,.callf b o f xs⟩::is) K env H=callF P b o f (Zi (ge env) xs) d is K env H:=(rfl)
theorem q_callk (ks:List Nat) (f:Nat) (xs:List GE):Z7 P (⟨d,none,.callk ks f xs⟩::is) K env H=callK P ks f (Zi (ge env) xs) d is K env H:=(rfl)
theorem q_callva (x:GE) (xs:List GE):Z7 P (⟨d,none,.callva x xs⟩::is) K env H=callvA P (ge env x) (Zi (ge env) xs) d is K env H:=by
 show Z3 _ _ = _
 unfold callvA Z3
 cases hx:ge env x with
 | none=>rfl
 | some g=>
  cases g<;>try rfl
  simp only[callA]
  cases Zi (ge env) xs<;>rfl
theorem q_stro (n t:Nat) (x:GE):Z7 P (⟨d,none,.stro n t x⟩::is) K env H=stroS P (ZU env t) (ge env x) n d is K env H:=(rfl)
theorem v_stro (n:Nat) (g:GV):stroS P (some (.raw n)) (some g) n d is K env H=(gsize g=n∧ZI g=true∧Z7 P is K (gput env d (.rop n g)) H):=by simp[stroS,Z3]
theorem q_allocr (n:Nat):Z7 P (⟨d,none,.allocr n⟩::is) K env H=Z7 P is K (gput env d (.raw n)) H:=(rfl)
theorem q_box (n:Nat) (x:GE):Z7 P (⟨d,none,.box n x⟩::is) K env H=stopS P (.box n x) d is K env H:=(rfl)
theorem q_boxro (n:Nat) (x:GE):Z7 P (⟨d,none,.boxro n x⟩::is) K env H=stopS P (.boxro n x) d is K env H:=(rfl)
theorem q_alloc (n:Nat) (z:GV):Z7 P (⟨d,none,.alloc n z⟩::is) K env H=stopS P (.alloc n z) d is K env H:=(rfl)
theorem q_iaddr (sz:Nat) (x i:GE):Z7 P (⟨d,none,.iaddr sz x i⟩::is) K env H=stopS P (.iaddr sz x i) d is K env H:=(rfl)
theorem q_idx (x i:GE):Z7 P (⟨d,none,.idx x i⟩::is) K env H=stopS P (.idx x i) d is K env H:=(rfl)
theorem q_aidx (n:Nat) (x i:GE):Z7 P (⟨d,none,.aidx n x i⟩::is) K env H=stopS P (.aidx n x i) d is K env H:=(rfl)
theorem q_bslice (sz:Nat) (z:List GV) (len:Nat) (ag:Bool) (ps:List (Nat×GE)):Z7 P (⟨d,none,.bslice sz z len ag ps⟩::is) K env H=stopS P (.bslice sz z len ag ps) d is K env H:=(rfl)
theorem q_mkslice (sz bytes:Nat) (z:GV) (l c:GE):Z7 P (⟨d,none,.mkslice sz bytes z l c⟩::is) K env H=stopS P (.mkslice sz bytes z l c) d is K env H:=(rfl)
theorem q_slc (sz:Nat) (x:GE) (lo hi:Option GE):Z7 P (⟨d,none,.slc sz x lo hi⟩::is) K env H=stopS P (.slc sz x lo hi) d is K env H:=(rfl)
theorem q_sslc (x:GE) (lo hi:Option GE):Z7 P (⟨d,none,.sslc x lo hi⟩::is) K env H=stopS P (.sslc x lo hi) d is K env H:=(rfl)
theorem q_append (sz bytes:Nat) (a x:GE):Z7 P (⟨d,none,.append sz bytes a x⟩::is) K env H=stopS P (.append sz bytes a x) d is K env H:=(rfl)
theorem q_copy (sz:Nat) (a x:GE):Z7 P (⟨d,none,.copy sz a x⟩::is) K env H=stopS P (.copy sz a x) d is K env H:=(rfl)
theorem q_store (n:Nat) (a x:GE):Z7 P (⟨d,none,.store n a x⟩::is) K env H=stopS P (.store n a x) d is K env H:=(rfl)
theorem q_load (n:Nat) (ag:Bool) (a:GE):Z7 P (⟨d,none,.load n ag a⟩::is) K env H=loadS P (ge env a) n ag a d is K env H:=by
 simp only[loadS,true_and];rfl
theorem q_build (z:List GV) (ps:List (Nat×Nat×GE)):Z7 P (⟨d,none,.build z ps⟩::is) K env H=valS P (rBuild z (YV (ge env) ps)) d is K env H:=by
 simp only[Z7,ZP,ZM,ZY,Z5,valS,rBuild]
 cases YV (ge env) ps with
 | none=>rfl
 | some qs=>cases h:fillG z qs<;>simp[h]
theorem q_loadr (n:Nat) (ag:Bool) (a:GE):Z7 P (⟨d,none,.loadr n ag a⟩::is) K env H=valS P (rLoad n ag (ge env a)) d is K env H:=by
 simp only[Z7,ZP,ZM,ZY,Z5,valS,rLoad,Z3]
 cases ge env a with
 | none=>rfl
 | some g=>
  cases g<;>try rfl
  rename_i sz g
  by_cases h:sz=n∧isAgg g=ag
  ·obtain ⟨h1,h2⟩:=h;simp[h1,h2]
  ·simp only[if_neg h];apply propext;constructor
   ·intro k;exact h ⟨k.1,k.2.1⟩
   ·intro k;exact k.elim
theorem int_eq {o:GOp} {x y:GE} {f:IntKind→Int→Int→Value} {op:BinOp} (ho:o = .bin op x y) (hs:isShift op=false) (h:∀j a j' b k,Yz op (.int j a) (.int j' b) k=(j=j'∧k (f j a b)))
 (h2:∀v u k,(∀j a,v ≠ .int j a)∨(∀j a,u ≠ .int j a)→Yz op v u k=False):Z7 P (⟨d,none,o⟩::is) K env H=valS P (rInt f (ge env x) (ge env y)) d is K env H:=by
 subst ho
 simp only[Z7,ZP,ZM,ZY,Z5,valS,rInt,Z3,hs,Bool.false_eq_true,if_false]
 cases ge env x with
 | none=>rfl
 | some g=>
  cases g<;>try rfl
  rename_i v
  cases ge env y with
  | none=>cases v<;>rfl
  | some g'=>
   cases g'<;>try (cases v<;>rfl)
   rename_i u
   by_cases hv:∃j a,v = .int j a
   ·obtain ⟨j,a,rfl⟩:=hv
    by_cases hu:∃j a,u = .int j a
    ·obtain ⟨j',b,rfl⟩:=hu
     simp only[h]
     by_cases hj:j=j'<;>simp[hj,gput]
    ·simp only[h2 _ u _ (.inr fun j a e=>hu ⟨j,a,e⟩)]
     cases u<;>first|rfl|(exact absurd ⟨_,_,rfl⟩ hu)
   ·simp only[h2 v _ _ (.inl fun j a e=>hv ⟨j,a,e⟩)]
    cases v<;>first|rfl|(exact absurd ⟨_,_,rfl⟩ hv)
theorem q_sub (x y:GE):Z7 P (⟨d,none,.bin .sub x y⟩::is) K env H=valS P (rInt (fun j a b=> .int j (j.wrap (a-b))) (ge env x) (ge env y)) d is K env H:=
 int_eq P K is env H d rfl rfl (fun _ _ _ _ _ => rfl) (fun v u k h=>by cases v<;>cases u<;>simp_all [Yz])
theorem q_mul (x y:GE):Z7 P (⟨d,none,.bin .mul x y⟩::is) K env H=valS P (rInt (fun j a b=> .int j (j.wrap (a * b))) (ge env x) (ge env y)) d is K env H:=
 int_eq P K is env H d rfl rfl (fun _ _ _ _ _ => rfl) (fun v u k h=>by cases v<;>cases u<;>simp_all [Yz])
theorem q_leq (x y:GE):Z7 P (⟨d,none,.bin .leq x y⟩::is) K env H=valS P (rInt (fun _ a b=> .bool (decide (a≤b))) (ge env x) (ge env y)) d is K env H:=
 int_eq P K is env H d rfl rfl (fun _ _ _ _ _ => rfl) (fun v u k h=>by cases v<;>cases u<;>simp_all [Yz])
theorem q_gtr (x y:GE):Z7 P (⟨d,none,.bin .gtr x y⟩::is) K env H=valS P (rInt (fun _ a b=> .bool (decide (b<a))) (ge env x) (ge env y)) d is K env H:=
 int_eq P K is env H d rfl rfl (fun _ _ _ _ _ => rfl) (fun v u k h=>by cases v<;>cases u<;>simp_all [Yz])
theorem q_geq (x y:GE):Z7 P (⟨d,none,.bin .geq x y⟩::is) K env H=valS P (rInt (fun _ a b=> .bool (decide (b≤a))) (ge env x) (ge env y)) d is K env H:=
 int_eq P K is env H d rfl rfl (fun _ _ _ _ _ => rfl) (fun v u k h=>by cases v<;>cases u<;>simp_all [Yz])
theorem cmp_eq {o:GOp} {x y:GE} {f:Int→Int→Bool} {g:List UInt8→List UInt8→Bool} {op:BinOp} (ho:o = .bin op x y) (hs:isShift op=false) (h:∀j a j' b k,Yz op (.int j a) (.int j' b) k=(j=j'∧k (.bool (f a b))))
 (h1:∀s t k,Yz op (.string s) (.string t) k=k (.bool (g (Z9 s) (Z9 t)))) (h2:∀v u k,((∀j a,v ≠ .int j a)∨(∀j a,u ≠ .int j a))→((∀s,v ≠ .string s)∨(∀s,u ≠ .string s))→Yz op v u k=False) :
 Z7 P (⟨d,none,o⟩::is) K env H=valS P (rCmp f g (ge env x) (ge env y)) d is K env H:=by
 subst ho
 simp only[Z7,ZP,ZM,ZY,Z5,valS,rCmp,Z3,hs,Bool.false_eq_true,if_false]
 cases ge env x with
 | none=>rfl
 | some g=>
  cases g<;>try rfl
  rename_i v
  cases ge env y with
  | none=>cases v<;>rfl
  | some g'=>
   cases g'<;>try (cases v<;>rfl)
   rename_i u
   cases v<;>cases u<;>first
    | exact h1 _ _ _
    | (rename_i j a j' b;simp only[h];by_cases hj:j=j'<;>simp[hj,gput];done)
    | exact h2 _ _ _ (by simp) (by simp)
theorem q_eql (x y:GE):Z7 P (⟨d,none,.bin .eql x y⟩::is) K env H=valS P (rCmp (fun a b=>decide (a=b)) (fun a b=>decide (a=b)) (ge env x) (ge env y)) d is K env H:=
 cmp_eq P K is env H d rfl rfl (fun _ _ _ _ _ => rfl) (fun _ _ _ => rfl) (fun v u k h h'=>by cases v<;>cases u<;>simp_all [Yz])
theorem q_neq (x y:GE):Z7 P (⟨d,none,.bin .neq x y⟩::is) K env H=valS P (rCmp (fun a b=> !decide (a=b)) (fun a b=> !decide (a=b)) (ge env x) (ge env y)) d is K env H:=
 cmp_eq P K is env H d rfl rfl (fun _ _ _ _ _ => rfl) (fun _ _ _ => rfl) (fun v u k h h'=>by cases v<;>cases u<;>simp_all [Yz])
theorem q_lss (x y:GE):Z7 P (⟨d,none,.bin .lss x y⟩::is) K env H=valS P (rCmp (fun a b=>decide (a<b)) Op.bytesLess (ge env x) (ge env y)) d is K env H:=
 cmp_eq P K is env H d rfl rfl (fun _ _ _ _ _ => rfl) (fun _ _ _ => rfl) (fun v u k h h'=>by cases v<;>cases u<;>simp_all [Yz])
theorem q_add (x y:GE):Z7 P (⟨d,none,.bin .add x y⟩::is) K env H=valS P (rAdd (ge env x) (ge env y)) d is K env H:=by
 simp only[Z7,ZP,ZM,ZY,Z5,valS,rAdd,Z3,isShift,Bool.false_eq_true,if_false]
 cases ge env x with
 | none=>rfl
 | some g=>
  cases g<;>try rfl
  rename_i v
  cases ge env y with
  | none=>cases v<;>rfl
  | some g'=>
   cases g'<;>try (cases v<;>rfl)
   rename_i u
   cases v<;>cases u<;>try rfl
   ·rename_i j a j' b
    simp only[Yz]
    by_cases hj:j=j'<;>simp[hj,gput]
   ·rename_i s t
    simp only[Yz]
    by_cases hj:(Z9 s).length + (Z9 t).length ≤ 9223372036854775807
    ·rw[if_pos hj];exact propext ⟨fun k=>k.2,fun k=>⟨hj,k⟩⟩
    ·rw[if_neg hj];exact propext ⟨fun k=>hj k.1,fun k=>k.elim⟩
theorem q_quo (x y:GE):Z7 P (⟨d,none,.bin .quo x y⟩::is) K env H=valS P (rDiv (fun j a b=> .int j (j.wrap (a.tdiv b))) (ge env x) (ge env y)) d is K env H:=by
 simp only[Z7,ZP,ZM,ZY,Z5,valS,rDiv,Z3,isShift,Bool.false_eq_true,if_false]
 cases ge env x with
 | none=>rfl
 | some g=>
  cases g<;>try rfl
  rename_i v
  cases ge env y with
  | none=>cases v<;>rfl
  | some g'=>
   cases g'<;>try (cases v<;>rfl)
   rename_i u
   cases v<;>cases u<;>try rfl
   rename_i j a j' b
   simp only[Yz]
   by_cases hj:j=j'<;>by_cases hb:b=0<;>simp[hj,hb,gput]
theorem q_rem (x y:GE):Z7 P (⟨d,none,.bin .rem x y⟩::is) K env H=valS P (rDiv (fun j a b=> .int j (a.tmod b)) (ge env x) (ge env y)) d is K env H:=by
 simp only[Z7,ZP,ZM,ZY,Z5,valS,rDiv,Z3,isShift,Bool.false_eq_true,if_false]
 cases ge env x with
 | none=>rfl
 | some g=>
  cases g<;>try rfl
  rename_i v
  cases ge env y with
  | none=>cases v<;>rfl
  | some g'=>
   cases g'<;>try (cases v<;>rfl)
   rename_i u
   cases v<;>cases u<;>try rfl
   rename_i j a j' b
   simp only[Yz]
   by_cases hj:j=j'<;>by_cases hb:b=0<;>simp[hj,hb,gput]
theorem q_beq (neg:Bool) (x y:GE):Z7 P (⟨d,none,.beq neg x y⟩::is) K env H=valS P (rBeq neg (ge env x) (ge env y)) d is K env H:=by
 simp only[Z7,ZP,ZM,ZY,Z5,valS,rBeq,Z3]
 cases ge env x with
 | none=>rfl
 | some g=>
  cases g<;>try rfl
  rename_i v
  cases v<;>try rfl
  cases ge env y with
  | none=>rfl
  | some g'=>
   cases g'<;>try rfl
   rename_i u
   cases u<;>rfl
theorem q_aeq (neg:Bool) (ks:List Nat) (x y:GE):Z7 P (⟨d,none,.aeq neg ks x y⟩::is) K env H=valS P (rAeq neg ks (ge env x) (ge env y)) d is K env H:=by
 simp only[Z7,ZP,ZM,ZY,Z5,valS,rAeq,Z3]
 cases ge env x with
 | none=>rfl
 | some g=>
  cases g<;>try rfl
  cases ge env y with
  | none=>rfl
  | some g'=>
   cases g'<;>try rfl
   rename_i as bs
   cases h:YL ks as bs<;>simp[h]<;>rfl
theorem q_not (x:GE):Z7 P (⟨d,none,.not x⟩::is) K env H=valS P (rNot (ge env x)) d is K env H:=by
 simp only[Z7,ZP,ZM,ZY,Z5,valS,rNot,Z3]
 cases ge env x with
 | none=>rfl
 | some g=>
  cases g<;>try rfl
  rename_i v
  cases v<;>rfl
theorem q_neg (x:GE):Z7 P (⟨d,none,.neg x⟩::is) K env H=valS P (rNeg (ge env x)) d is K env H:=by
 simp only[Z7,ZP,ZM,ZY,Z5,valS,rNeg,Z3]
 cases ge env x with
 | none=>rfl
 | some g=>
  cases g<;>try rfl
  rename_i v
  cases v<;>rfl
theorem q_conv (k:IntKind) (x:GE):Z7 P (⟨d,none,.conv k x⟩::is) K env H=valS P (rConv k (ge env x)) d is K env H:=by
 simp only[Z7,ZP,ZM,ZY,Z5,valS,rConv,Z3]
 cases ge env x with
 | none=>rfl
 | some g=>
  cases g<;>try rfl
  rename_i v
  cases v<;>rfl
theorem q_mkfn (f:Nat) (cs:List GE):Z7 P (⟨d,none,.mkfn f cs⟩::is) K env H=valS P (rFn f (Zi (ge env) cs)) d is K env H:=by
 simp only[Z7,ZP,ZM,ZY,Z5,valS,rFn]
 cases Zi (ge env) cs<;>rfl
theorem q_faddr (off n:Nat) (ag:Bool) (x:GE):Z7 P (⟨d,none,.faddr off n ag x⟩::is) K env H=valS P (rFaddr off n ag (ge env x)) d is K env H:=by
 simp only[Z7,ZP,ZM,ZY,Z5,valS,rFaddr,Z3]
 cases ge env x with
 | none=>rfl
 | some g=>
  cases g<;>try rfl
  rename_i sz g
  cases h:sub g off n ag<;>simp[h]<;>rfl
theorem q_field (off n:Nat) (ag:Bool) (x:GE):Z7 P (⟨d,none,.field off n ag x⟩::is) K env H=valS P (rField off n ag (ge env x)) d is K env H:=by
 simp only[Z7,ZP,ZM,ZY,Z5,valS,rField,Z3]
 cases ge env x with
 | none=>rfl
 | some g=>rfl
theorem q_ext (x:GE) (i:Nat):Z7 P (⟨d,none,.ext x i⟩::is) K env H=valS P (rExt i (ge env x)) d is K env H:=by
 simp only[Z7,ZP,ZM,ZY,Z5,valS,rExt,Z3]
 cases ge env x with
 | none=>rfl
 | some g=>cases g<;>rfl
theorem q_len (x:GE):Z7 P (⟨d,none,.len x⟩::is) K env H=valS P (rLen (ge env x)) d is K env H:=by
 simp only[Z7,ZP,ZM,ZY,Z5,valS,Z3]
 cases ge env x with
 | none=>rfl
 | some g=>
  cases g<;>try rfl
  simp only[rLen]
  split<;>rename_i h
  ·cases h
  ·cases h
  ·cases h;rfl
  ·rename_i h1 h2 h3
   split<;>rename_i k
   ·split at k<;>first|(exact absurd rfl (h3 ‹_›))|cases k|skip
    all_goals simp_all
   ·rfl
theorem q_slen (x:GE):Z7 P (⟨d,none,.slen x⟩::is) K env H=valS P (rSlen (ge env x)) d is K env H:=by
 simp only[Z7,ZP,ZM,ZY,Z5,valS,rSlen,Z3]
 cases ge env x with
 | none=>rfl
 | some g=>
  cases g<;>try rfl
  rename_i v
  cases v<;>rfl
theorem q_mx (x y:GE):Z7 P (⟨d,none,.mx x y⟩::is) K env H=valS P (rInt (fun j a b=> .int j (if a<b then b else a)) (ge env x) (ge env y)) d is K env H:=by
 simp only[Z7,ZP,ZM,ZY,Z5,valS,rInt,Z3]
 cases ge env x with
 | none=>rfl
 | some g=>
  cases g<;>try rfl
  rename_i v
  cases v<;>try rfl
  cases ge env y with
  | none=>rfl
  | some g'=>
   cases g'<;>try rfl
   rename_i u
   cases u<;>try rfl
   rename_i j a j' b
   by_cases hj:j=j'<;>simp[hj,gput]
theorem q_mn (x y:GE):Z7 P (⟨d,none,.mn x y⟩::is) K env H=valS P (rInt (fun j a b=> .int j (if b<a then b else a)) (ge env x) (ge env y)) d is K env H:=by
 simp only[Z7,ZP,ZM,ZY,Z5,valS,rInt,Z3]
 cases ge env x with
 | none=>rfl
 | some g=>
  cases g<;>try rfl
  rename_i v
  cases v<;>try rfl
  cases ge env y with
  | none=>rfl
  | some g'=>
   cases g'<;>try rfl
   rename_i u
   cases u<;>try rfl
   rename_i j a j' b
   by_cases hj:j=j'<;>simp[hj,gput]
theorem q_nck (x:GE):Z7 P (⟨d,none,.nck x⟩::is) K env H=valS P (rNck (ge env x)) d is K env H:=by
 simp only[Z7,ZP,ZM,ZY,Z5,valS,rNck,Z3]
 cases ge env x with
 | none=>rfl
 | some g=>cases g<;>rfl
end
def geR:Option GV→Option GV
 | some (.raw _)=>none
 | x=>x
theorem x_get0 (j:Nat):ZU [] j=none:=(rfl)
theorem x_get (i j:Nat) (g:GV) (e:Env):ZU ((i,g)::e) j=if i=j then some g else ZU e j:=(rfl)
theorem x_set0 (j:Nat) (h:GV):eset [] j h=[(j,h)]:=(rfl)
theorem x_set (i j:Nat) (g h:GV) (e:Env):eset ((i,g)::e) j h=if i=j then (i,h)::e else (i,g)::eset e j h:=(rfl)
theorem x_put (env:Env) (d:Nat) (g:GV):gput env (some d) g=eset env d g:=(rfl)
theorem x_put0 (env:Env) (g:GV):gput env none g=env:=(rfl)
theorem x_gt (env:Env) (n:Nat):ge env (.t n)=geR (ZU env n):=(rfl)
theorem x_gk (env:Env) (g:GV):ge env (.k g)=some g:=(rfl)
theorem x_val (v:Value):geR (some (.val v))=some (.val v):=(rfl)
theorem x_sl (sz:Nat) (es:List GV):geR (some (.sl sz es))=some (.sl sz es):=(rfl)
theorem x_agg (cs:List GV):geR (some (.agg cs))=some (.agg cs):=(rfl)
theorem x_rop (sz:Nat) (g:GV):geR (some (.rop sz g))=some (.rop sz g):=(rfl)
theorem x_ptr (r sz i o:Nat):geR (some (.ptr r sz i o))=some (.ptr r sz i o):=(rfl)
theorem x_own (r sz k n:Nat):geR (some (.own r sz k n))=some (.own r sz k n):=(rfl)
theorem x_clo (f:Nat) (cs:List GV):geR (some (.clo f cs))=some (.clo f cs):=(rfl)
theorem x_tup (cs:List GV):geR (some (.tup cs))=some (.tup cs):=(rfl)
theorem x_all0 (ρ:GE→Option GV):Zi ρ []=some []:=(rfl)
theorem x_all (ρ:GE→Option GV) (x:GE) (xs:List GE):Zi ρ (x::xs)=allR (ρ x) (Zi ρ xs):=by
 simp only[Zi,allR]
 cases ρ x<;>cases Zi ρ xs<;>rfl
theorem x_allR (g:GV) (gs:List GV):allR (some g) (some gs)=some (g::gs):=(rfl)
theorem x_env0 (k:Nat):envOf [] k=[]:=(rfl)
theorem x_then (R:Env→GH→Prop) (Q:Exit→Env→GH→Prop) (e:Env) (H:GH):thenG R Q .normal e H=R e H:=(rfl)
theorem x_thenr (R:Env→GH→Prop) (Q:Exit→Env→GH→Prop) (e:Env) (H:GH):thenG R Q .ret e H=Q .ret e H:=(rfl)
theorem x_thenx (R:Env→GH→Prop) (Q:Exit→Env→GH→Prop) (i:Nat) (e:Env) (H:GH):thenG R Q (.exit i) e H=Q (.exit i) e H:=(rfl)
theorem x_blk (i:Nat) (Q:Exit→Env→GH→Prop) (e:Env) (H:GH):blockG i Q .normal e H=Q .normal e H:=(rfl)
theorem x_blkr (i:Nat) (Q:Exit→Env→GH→Prop) (e:Env) (H:GH):blockG i Q .ret e H=Q .ret e H:=(rfl)
theorem x_blkx (i j:Nat) (Q:Exit→Env→GH→Prop) (e:Env) (H:GH):blockG i Q (.exit j) e H=if j=i then Q .normal e H else Q (.exit j) e H:=(rfl)
theorem x_prt0 (ρ:GE→Option GV):YV ρ []=some []:=(rfl)
theorem x_prt (ρ:GE→Option GV) (a b:Nat) (x:GE) (xs:List (Nat×Nat×GE)):YV ρ ((a,b,x)::xs)=prtR a b (ρ x) (YV ρ xs):=by
 simp only[YV,prtR]
 cases ρ x<;>cases YV ρ xs<;>rfl
theorem x_prtR (a b:Nat) (g:GV) (gs:List (Nat×Nat×GV)):prtR a b (some g) (some gs)=some ((a,b,g)::gs):=(rfl)
theorem w_t (a b:Option GV) (P:Program) (d:Option Nat) (is:List GI) (K:Env→GH→Prop) (env:Env) (H:GH):pickS P (some (.val (.bool true))) a b d is K env H=valS P a d is K env H:=by
 simp only[pickS,valS,Z3]
 apply propext;constructor
 ·intro k;exact k.1 trivial
 ·intro k;exact ⟨fun _ => k,fun h=>by cases h⟩
theorem w_f (a b:Option GV) (P:Program) (d:Option Nat) (is:List GI) (K:Env→GH→Prop) (env:Env) (H:GH):pickS P (some (.val (.bool false))) a b d is K env H=valS P b d is K env H:=by
 simp only[pickS,valS,Z3]
 apply propext;constructor
 ·intro k;exact k.2 trivial
 ·intro k;exact ⟨fun h=>(by cases h),fun _ => k⟩
theorem w_g (w:Bool) (P:Program) (t:Nat) (o:GOp) (d:Option Nat) (is:List GI) (K:Env→GH→Prop) (env:Env) (H:GH) (he:ZU env t=some (.val (.bool w))) :
 guardS P (some (.val (.bool w))) t w d o is K env H=Z7 P (⟨d,none,o⟩::is) K env H:=by
 apply propext;constructor
 ·intro ⟨_,k⟩;simp only[ZM,he] at k;exact k.1 trivial
 ·intro k;refine ⟨he,?_⟩;simp only[ZM,he];exact ⟨fun _ => k,fun h=>by cases w<;>simp at h⟩
theorem w_ng (w:Bool) (P:Program) (t:Nat) (o:GOp) (d:Option Nat) (is:List GI) (K:Env→GH→Prop) (env:Env) (H:GH) (he:ZU env t=some (.val (.bool !w))) :
 guardS P (some (.val (.bool !w))) t w d o is K env H=Z7 P is K (gput env d uG) H:=by
 apply propext;constructor
 ·intro ⟨_,k⟩;simp only[ZM,he] at k;exact k.2 trivial
 ·intro k;refine ⟨he,?_⟩;simp only[ZM,he];exact ⟨fun h=>(by cases w<;>simp at h),fun _ => k⟩
section
variable (P:Program) (t:Nat) (o:GOp) (d:Option Nat) (is:List GI) (K:Env→GH→Prop) (env:Env) (H:GH)
theorem w_tt (he:ZU env t=some (.val (.bool true))):guardS P (some (.val (.bool true))) t true d o is K env H=Z7 P (⟨d,none,o⟩::is) K env H:=w_g true P t o d is K env H he
theorem w_ff (he:ZU env t=some (.val (.bool false))):guardS P (some (.val (.bool false))) t false d o is K env H=Z7 P (⟨d,none,o⟩::is) K env H:=w_g false P t o d is K env H he
theorem w_tf (he:ZU env t=some (.val (.bool true))):guardS P (some (.val (.bool true))) t false d o is K env H=Z7 P is K (gput env d uG) H:=w_ng false P t o d is K env H he
theorem w_ft (he:ZU env t=some (.val (.bool false))):guardS P (some (.val (.bool false))) t true d o is K env H=Z7 P is K (gput env d uG) H:=w_ng true P t o d is K env H he
end
variable {P:Program} {K:Env→GH→Prop} {is:List GI} {env:Env} {H:GH} {d:Option Nat}
theorem callS.eq {det:Bool} {f:FuncId} {gs:List GV} {G:GV} (h:Pure P f gs (· = G)) (hk:Z7 P is K (gput env d G) H):callS P det f (some gs) d is K env H:=by
 unfold callS
 cases det
 ·exact call_eq h hk
 ·exact call_det h hk
theorem callS.bor {f:FuncId} {gs gs':List GV} {G:GV} (h:Pure P f gs' (· = G)) (hb:BorL H gs gs') (hs:scal G=true) (hk:Z7 P is K (gput env d G) H):callS P false f (some gs) d is K env H:=by
 unfold callS
 exact call_bor h hb hs hk
theorem callS.of {f:FuncId} {gs:List GV} {R:GV→GH→Prop} (h:GCalls P f gs H R) (hk:∀g H',R g H'→(names H').Nodup → Z7 P is K (gput env d g) H'):callS P false f (some gs) d is K env H:=⟨R,h,hk⟩
theorem callF.of {b o:Nat} {f:FuncId} {gs:List GV} {R:GV→GH→Prop} (h:GCalls P f gs H R) (hk:∀g H',R g H'→(names H').Nodup → kptF (ZU env b) o H H'∧Z7 P is K (gput env d g) H'):callF P b o f (some gs) d is K env H:=⟨R,h,hk⟩
theorem callK.of {ks:List Nat} {f:FuncId} {gs:List GV} {R:GV→GH→Prop} (h:GCalls P f gs H R) (hk:∀g H',R g H'→(names H').Nodup → kpt env H H' ks∧Z7 P is K (gput env d g) H'):callK P ks f (some gs) d is K env H:=⟨R,h,hk⟩
theorem callA.of {f:FuncId} {gs:List GV} {R:GV→GH→Prop} (h:GCalls P f gs H R) (ha:∀g H',R g H'→∃H1,H'=H1++H) (hk:∀g H',R g H'→(names H').Nodup → Z7 P is K (gput env d g) H'):callA P f (some gs) d is K env H:=
 ⟨fun g H1=>R g (H1++H),h.mono fun g H' hr=>by obtain ⟨H1,rfl⟩:=ha g H' hr;exact ⟨H1,hr,rfl⟩,fun g H1 hr hn=>hk g _ hr hn⟩
theorem callA.eq {f:FuncId} {gs:List GV} {G:GV} (h:Pure P f gs (· = G)) (hk:Z7 P is K (gput env d G) H):callA P f (some gs) d is K env H:=
 ⟨fun g H1=>g=G∧H1=[],(h.frame H).mono fun g H' ⟨e1,e2⟩=>⟨[],⟨e1,rfl⟩,e2⟩,fun g H1 ⟨e1,e2⟩ _ => by subst e1;subst e2;exact hk⟩
theorem eset_same:∀{env:Env} {t:Nat} {g:GV},ZU env t=some g→eset env t g=env
 | (i,x)::e,t,g,h=>by
  simp only[ZU] at h
  simp only[eset]
  split at h
  ·rename_i hi
   simp only[Option.some.injEq] at h
   subst h
   rw[if_pos hi]
  ·rename_i hi
   rw[if_neg hi,eset_same h]
 | [],_,_,h=>by simp[ZU] at h
theorem guardS.split {b:Bool} {t:Nat} {want:Bool} {o:GOp} (h1:b=want→Z7 P ({ dst:=d,guard:=none,op:=o }::is) K (eset env t (.val (.bool want))) H)
 (h2:b = !want → Z7 P is K (gput (eset env t (.val (.bool !want))) d uG) H) (he:ZU env t=some (.val (.bool b))):guardS P (some (.val (.bool b))) t want d o is K env H:=by
 refine ⟨he,?_⟩
 simp only[ZM,he]
 exact ⟨fun e=>by have:=h1 e;rw[←e,eset_same he] at this;exact this,fun e=>by have:=h2 e;rw[←e,eset_same he] at this;exact this⟩
theorem loadS.rop {sz n:Nat} {g:GV} {ag:Bool} {a:GE} (he:ge env a=some (.rop sz g)) (h1:sz=n) (h2:isAgg g=ag) (hk:Z7 P is K (gput env d g) H):loadS P (some (.rop sz g)) n ag a d is K env H:=by
 refine ⟨he,?_⟩
 simp only[Z5,he,Z3]
 exact ⟨h1,h2,hk⟩
theorem loadS.ptr {r sz i o n:Nat} {ag:Bool} {a:GE} {es:List GV} {e g:GV} (he:ge env a=some (.ptr r sz i o)) (hr:Z6 H r=some (sz,es)) (hi:es[i]? = some e) (hg:Yd e sz o n ag=some g) (hc:clean g=true)
 (hk:Z7 P is K (gput env d g) H):loadS P (some (.ptr r sz i o)) n ag a d is K env H:=by
 refine ⟨he,?_⟩
 simp only[Z5,he,Z3,hr,hi,hg]
 exact ⟨trivial,hc,hk⟩
theorem stopS.store {r sz i o n:Nat} {a x:GE} {es:List GV} {e e' g:GV} (ha:ge env a=some (.ptr r sz i o)) (hx:ge env x=some g) (hr:Z6 H r=some (sz,es)) (hi:es[i]? = some e) (he:pstores e sz o n g=some e')
 (h1:gsize g=n) (h2:ZI g=true) (hk:Z7 P is K (gput env d uG) (Z1 H r (es.set i e'))):stopS P (.store n a x) d is K env H:=by
 simp only[stopS,ZY,Z5,ha,Z3,hx,hr,hi,he]
 exact ⟨trivial,h1,h2,hk⟩
theorem stopS.iaddr {sz:Nat} {x i:GE} {es:List GV} {e:GV} {j:IntKind} {n:Int} (hx:ge env x=some (.sl sz es)) (hi:ge env i=some (.val (.int j n))) (h0:0≤n) (he:es[n.toNat]? = some e)
 (hk:Z7 P is K (gput env d (.rop sz e)) H):stopS P (.iaddr sz x i) d is K env H:=by
 simp only[stopS,ZY,Z5,hi,Z3,hx,he]
 exact ⟨trivial,h0,hk⟩
theorem stopS.idx {x i:GE} {s:ByteArray} {b:UInt8} {j:IntKind} {n:Int} (hx:ge env x=some (.val (.string s))) (hi:ge env i=some (.val (.int j n))) (h0:0≤n) (he:(Z9 s)[n.toNat]? = some b)
 (hk:Z7 P is K (gput env d (.val (.int .u8 b.toNat))) H):stopS P (.idx x i) d is K env H:=by
 simp only[stopS,ZY,Z5,hi,Z3,hx,he]
 exact ⟨h0,hk⟩
theorem stopS.mkslice {sz bytes:Nat} {z:GV} {l c:GE} {j j':IntKind} {a b:Int} (hl:ge env l=some (.val (.int j a))) (hc:ge env c=some (.val (.int j' b))) (h0:0≤a) (h1:a≤b) (h2:(bytes:Int) * b≤281474976710656) (h3:b≤281474976710656)
 (hk:∀r,(names ((r,sz,List.replicate a.toNat z)::H)).Nodup → Z7 P is K (gput env d (.own r sz 0 a.toNat)) ((r,sz,List.replicate a.toNat z)::H)):stopS P (.mkslice sz bytes z l c) d is K env H:=by
 simp only[stopS,ZY,Z5,hl,Z3,hc]
 exact ⟨h0,h1,h2,h3,hk⟩
theorem stopS.box {n:Nat} {x:GE} {g:GV} (hx:ge env x=some g) (h1:ZI g=true) (h2:gsize g=n) (hk:∀r,(names ((r,n,[g])::H)).Nodup → Z7 P is K (gput env d (.ptr r n 0 0)) ((r,n,[g])::H)):stopS P (.box n x) d is K env H:=by
 simp only[stopS,ZY,Z5,hx,Z3]
 exact ⟨h1,h2,hk⟩
theorem stopS.boxro {n:Nat} {x:GE} {g:GV} (hx:ge env x=some g) (h1:ZI g=true) (h2:gsize g=n) (hk:Z7 P is K (gput env d (.rop n g)) H):stopS P (.boxro n x) d is K env H:=by
 simp only[stopS,ZY,Z5,hx,Z3]
 exact ⟨h1,h2,hk⟩
theorem stopS.alloc {n:Nat} {z:GV} (hk:∀r,(names ((r,n,[z])::H)).Nodup → Z7 P is K (gput env d (.ptr r n 0 0)) ((r,n,[z])::H)):stopS P (.alloc n z) d is K env H:=hk
theorem valS.ite {c:Prop} [Decidable c] {g:GV} (hc:c) (hk:Z7 P is K (gput env d g) H):valS P (if c then some g else none) d is K env H:=by
 rw[if_pos hc];exact hk
theorem fin {gr:List GR} {R:GV→GH→Prop} {gs:List GV} (h:resL env H gr=some gs) (hr:R (pack1 gs) H):GEnd gr R .ret env H:=⟨.inr rfl,gs,_,H,h,FR.refl _ _,hr⟩
theorem wrap64 {x:Int} (h1 : -9223372036854775808≤x) (h2:x<9223372036854775808):IntKind.i64.wrap x=x:=by
 rw[IntKind.wrap_i64];omega
end Go.Gh
namespace Go.Gh
theorem ZK {r sz:Nat} {es fs:List GV}:∀{H:GH},Z6 H r=some (sz,es)→Z6 (Z1 H r fs) r=some (sz,fs)
 | [],h=>by simp[Z6] at h
 | (q,sz',gs)::H,h=>by
  simp only[Z6] at h
  simp only[Z1]
  split at h
  ·rename_i e
   simp only[Option.some.injEq,Prod.mk.injEq] at h
   rw[if_pos e];simp[Z6,e,h.1]
  ·rename_i e
   rw[if_neg e];simp only[Z6,if_neg e];exact ZK h
theorem hget_set_ne {r q:Nat} {fs:List GV} (hne:r≠q):∀{H:GH},Z6 (Z1 H r fs) q=Z6 H q
 | []=>rfl
 | (p,sz,gs)::H=>by
  simp only[Z1]
  split
  ·rename_i e
   subst e
   simp[Z6,hne]
  ·simp only[Z6,hget_set_ne hne]
theorem Z4 {r:Nat} {fs gs:List GV}:∀{H:GH},Z1 (Z1 H r fs) r gs=Z1 H r gs
 | []=>rfl
 | (q,sz,es)::H=>by
  simp only[Z1]
  split
  ·rename_i e;simp[Z1,e]
  ·rename_i e;simp[Z1,e,Z4]
theorem Z0 {r sz:Nat} {es:List GV} {H:GH}:Z6 ((r,sz,es)::H) r=some (sz,es):=by simp[Z6]
theorem ZX {r q:Nat} {x:Nat×List GV} {H:GH} (h:r≠q):Z6 ((r,x)::H) q=Z6 H q:=by simp[Z6,h]
theorem YU {r sz:Nat} {es fs:List GV} {H:GH}:Z1 ((r,sz,es)::H) r fs=(r,sz,fs)::H:=by simp[Z1]
theorem ZJ {r q sz:Nat} {es fs:List GV} {H:GH} (h:r≠q):Z1 ((r,sz,es)::H) q fs=(r,sz,es)::Z1 H q fs:=by simp[Z1,h]
theorem hdel_new {r:Nat} {x:Nat×List GV} {H:GH}:ZL ((r,x)::H) r=H:=by simp[ZL]
theorem hdel_old {r q:Nat} {x:Nat×List GV} {H:GH} (h:r≠q):ZL ((r,x)::H) q=(r,x)::ZL H q:=by simp[ZL,h]
theorem mem_of_hget {r:Nat} {x:Nat×List GV}:∀{H:GH},Z6 H r=some x→r∈names H
 | [],h=>by simp[Z6] at h
 | (q,y)::H,h=>by
  simp only[Z6] at h
  split at h
  ·rename_i e;simp[names,e]
  ·have:=mem_of_hget h;simp only[names,List.map_cons,List.mem_cons] at *;exact .inr this
theorem ZN {r q sz:Nat} {es:List GV} {x:Nat×List GV} {H:GH} (hn:(names ((r,sz,es)::H)).Nodup) (h:Z6 H q=some x):r≠q:=fun e=>by
 subst e
 simp only[names,List.map_cons,List.nodup_cons] at hn
 exact hn.1 (mem_of_hget h)
@[simp] theorem storable_int (j:IntKind) (n:Int):ZI (.val (.int j n))=true:=by simp[ZI,Value.cells,Value.oneCell']
@[simp] theorem storable_bool (b:Bool):ZI (.val (.bool b))=true:=by simp[ZI,Value.cells,Value.oneCell']
@[simp] theorem storable_str (x:ByteArray):ZI (.val (.string x))=true:=by simp[ZI,Value.cells,Value.oneCell']
@[simp] theorem storable_nil:ZI (.val (.slice none 0 0))=true:=by simp[ZI,Value.cells,Value.oneCell']
@[simp] theorem storable_sl (sz:Nat) (es:List GV):ZI (.sl sz es)=true:=rfl
@[simp] theorem storable_agg (es:List GV):ZI (.agg es)=true:=rfl
@[simp] theorem storable_own (r sz k n:Nat):ZI (.own r sz k n)=true:=rfl
@[simp] theorem storable_clo (f:Nat) (cs:List GV):ZI (.clo f cs)=true:=rfl
@[simp] theorem storable_ptr (r sz i o:Nat):ZI (.ptr r sz i o)=true:=rfl
@[simp] theorem storable_rop (n:Nat) (g:GV):ZI (.rop n g)=true:=rfl
@[simp] theorem gsize_int (j:IntKind) (n:Int):gsize (.val (.int j n))=1:=rfl
@[simp] theorem gsize_bool (b:Bool):gsize (.val (.bool b))=1:=rfl
@[simp] theorem gsize_str (x:ByteArray):gsize (.val (.string x))=1:=rfl
@[simp] theorem gsize_nil:gsize (.val (.slice none 0 0))=1:=rfl
@[simp] theorem gsize_sl (sz:Nat) (es:List GV):gsize (.sl sz es)=1:=rfl
@[simp] theorem gsize_own (r sz k n:Nat):gsize (.own r sz k n)=1:=rfl
@[simp] theorem gsize_agg (es:List GV):gsize (.agg es)=es.length:=rfl
theorem Bor.all {H:GH} {r sz n:Nat} {es:List GV} (hr:Z6 H r=some (sz,es)) (hl:es.length=n) (hv:es.map view=es):Bor H (.own r sz 0 n) (.sl sz es):=by
 have:=Bor.own (k:=0) (n:=n) hr (by omega)
 rw[X4] at this
 simp only[List.drop_zero] at this
 rw[List.take_of_length_le (by omega),hv] at this
 exact this
theorem Bor.virt {H:GH} {r sz:Nat}:Bor H (.val (.slice none 0 0)) (.own r sz 0 0):=fun w D Ω v _ h=>by
 simp only[MV] at h ⊢
 exact ⟨trivial,.inr ⟨trivial,_,h.1⟩⟩
theorem St.addv {w:World} {D:Nat→Prop} {H:GH} {Ω:List Nat} {r sz:Nat} (hst:St w D H Ω) (hr:r % 4=1) (hn:r∉names H):St w D ((r,sz,[])::H) Ω:=
 ⟨⟨[],Ω,rfl,.inr ⟨od_virt hr,rfl,rfl⟩,hst.hm⟩,hst.nd,by simp only[names,List.map_cons,List.nodup_cons];exact ⟨hn,hst.nn⟩,hst.dj,hst.ds⟩
theorem FR.addv {g:GV} {H:GH} {r sz:Nat} (hr:r % 4=1) (hn:r∉names H):FR g H g ((r,sz,[])::H):=fun _ D Ω _ hv hst=>
 ⟨D,Ω,hv,hst.addv hr hn,Ev.refl _ _ _⟩
theorem FE.addv {env:Env} {H:GH} {r sz:Nat} (hr:r % 4=1) (hn:r∉names H):FE env H env ((r,sz,[])::H):=by
 intro w0 D0 O0 N a w ⟨hdf,hsz,D,Ω,ρw,hi⟩
 exact ⟨hdf,hsz,D,Ω,ρw,hi.em,hi.rw,hi.ri,hi.rd,hi.st.addv hr hn,hi.ev⟩
theorem GCalls.fr {P:Program} {f:FuncId} {gs:List GV} {H:GH} {R R':GV→GH→Prop} (h:GCalls P f gs H R) (hf:∀g H',R g H'→∃g' H'',FR g H' g' H''∧R' g' H''):GCalls P f gs H R':=
 fun w D Ω args hst hargs=>Yld.mono (fun v w' ⟨g,H',D',Ω',k1,k2,k3,k4⟩=>by
  obtain ⟨g',H'',k5,k6⟩:=hf g H' k1
  obtain ⟨D2,Ω2,m1,m2,m3⟩:=k5 w' D' Ω' v k2 k3
  exact ⟨g',H'',D2,Ω2,k6,m1,m2,k4.trans m3⟩) (h w D Ω args hst hargs)
section
variable {P:Program} {K:Env→GH→Prop} {is:List GI} {env:Env} {H:GH} {d:Option Nat}
theorem stroS.mk {n:Nat} {g:GV} (h1:gsize g=n) (h2:ZI g=true) (hk:Z7 P is K (gput env d (.rop n g)) H):stroS P (some (.raw n)) (some g) n d is K env H:=by
 rw[v_stro];exact ⟨h1,h2,hk⟩
theorem valS.of {r:Option GV} {g:GV} (h:r=some g) (hk:Z7 P is K (gput env d g) H):valS P r d is K env H:=by
 rw[h];exact hk
end
end Go.Gh
namespace Go.Gh
open Go.RowKit Go.ChangeShapes
theorem callFunc_run {P:Program} {f:FuncId} {F:GFun} (hF:IsFun P f F) (args:List Value) (w:World):(callFunc f args.toArray).run P w = .ok (.enter f args.toArray) w:=by
 obtain ⟨fn,c,md,h1,hname,h2,h3,h4,h5⟩:=hF
 have hname':¬fn.name = "runtime.NumGoroutine" := by simpa using hname
 simp[callFunc,h1,hname',h2]
def Yr (w:World) (b:Nat):Prop:=b<w.heap.size
theorem Pure.out {P:Program} {f:FuncId} {F:GFun} {gs:List GV} {R:GV→Prop} (h:Pure P f gs R) (hF:IsFun P f F) {W:World} {args:List Value} (hargs:ML W (Yr W) gs args []) :
 Calls P f args.toArray W fun e W'=>∃v g D,e = .returned v∧R g∧MV W' D g v []∧Below W.heap.size W W':=by
 have:=h W (Yr W) [] args (St.nil fun _ h=>h) hargs
 rw[callFunc_run hF] at this
 refine Calls.mono this fun e W' ⟨v,h1,g,H',D',Ω',k1,k2,k3,k4⟩=>⟨v,g,D',h1,k1,k2,?_⟩
 exact ⟨k4.os,k4.tape,k4.output,k4.kp.size,fun k hk=>k4.kp.block k hk (by simp)⟩
theorem ML.nil0 {w:World} {D:Nat→Prop}:ML w D [] [] []:=by simp[ML]
theorem ML.cons0 {w:World} {D:Nat→Prop} {g:GV} {gs:List GV} {v:Value} {vs:List Value} (h:MV w D g v []) (hs:ML w D gs vs []):ML w D (g::gs) (v::vs) []:=by
 simp only[ML]
 exact ⟨v,vs,[],[],rfl,rfl,h,hs⟩
theorem MV.val0 {w:World} {D:Nat→Prop} {v:Value}:MV w D (.val v) v []:=by simp[MV]
theorem post_of_below {H:Type} {enc:TypeId×Value→H} {P:Program} {f:Func} {s:ChangeSpec} {apart fresh handsOn again:Bool} {W W':World} {args:Array Value} {v:Value} {ds gs:List (DataW H)} {before pa pv:List MemPlace}
 (hW:DataW.Whole enc P f.params.toList s.vars apart W args.toList ds gs before)
 (hres:∀(b:Nat) (sp:Nat→Bool) (hd:Bool),DataW.TrodAll enc P W' b sp hd f.resultTypes.toList (v.resultList f.resultTypes.size) (s.fn H (ds++gs)).results [])
 (hargs:∀sp:Nat→Bool,(∀p∈before,sp p.block=true)→DataW.TrodAll enc P W' 0 sp true f.params.toList args.toList (s.fn H (ds++gs)).args pa)
 (hvars:∀sp:Nat→Bool,(∀p∈before,sp p.block=true)→DataW.TrodVars enc P W' sp s.vars (s.fn H (ds++gs)).vars pv)
 (hps:before=pa++pv) (hb:Below W.heap.size W W')
 (hok:∀(j:Nat) (t:TypeId) (r:Value),f.resultTypes[j]? = some t→(v.resultList f.resultTypes.size)[j]? = some r→Value.okWide P W' .any 0 t r) :
 s.post enc P f apart fresh handsOn again W args v W':=by
 have hold:∀p∈before,(fun b=>decide (b<W.heap.size)) p.block=true:=fun p hp=>by simpa using hW.lt p hp
 have hlt:=hW.lt
 refine ⟨ds,gs,before,[],pa,pv,hW,hres _ _ _,hargs _ hold,hvars _ hold,World.keptBut_mono (fun p hp=>⟨hp,?_⟩) (hb.frame (· ∈ before)),fun _ => ?_⟩
 ·rw[hps,List.mem_append] at hp
  exact Or.inr hp
 ·obtain ⟨_,_,_,_,_,hz,hn⟩:=hW
  refine ⟨hok,_,_,([]++pa)++pv,⟨[]++pa,pv,trodAll_append (hargs _ (fun _ _ => rfl)) (hres _ _ _),hvars _ (fun _ _ => rfl),rfl,?_,?_⟩,?_⟩
  ·intro b off hp
   have hp':MemPlace.cell b off∈before:=by rw[hps];simpa using hp
   rw[hb.frozen (p:=⟨b,off,none⟩) (hlt _ hp')]
   exact hz b off hp'
  ·intro ha
   have:=hn ha
   rw[hps] at this
   simpa using this
  ·intro p hp _
   rw[hps]
   simpa using hp
end Go.Gh
namespace Go.Gh
theorem GCalls.start {P:Program} {f:FuncId} {F:GFun} (hF:IsFun P f F) {cf:Cfg} {gc:GC} {gr:List GR} (hf:F=⟨cf,gc,gr⟩) {gs:List GV} {H:GH} {R:GV→GH→Prop} (hlen:gs.length≤cf.N)
 (h:GW P cf gc (GEnd gr R) (envOf gs 0) H):GCalls P f gs H R:=by
 subst hf
 exact GCalls.of_body hF hlen h
theorem x_env_1 (g0:GV):envOf [g0] 0=[(0,g0)]:=(rfl)
theorem x_env_2 (g0 g1:GV):envOf [g0,g1] 0=[(0,g0),(1,g1)]:=(rfl)
theorem x_env_3 (g0 g1 g2:GV):envOf [g0,g1,g2] 0=[(0,g0),(1,g1),(2,g2)]:=(rfl)
theorem x_env_4 (g0 g1 g2 g3:GV):envOf [g0,g1,g2,g3] 0=[(0,g0),(1,g1),(2,g2),(3,g3)]:=(rfl)
theorem x_env_5 (g0 g1 g2 g3 g4:GV):envOf [g0,g1,g2,g3,g4] 0=[(0,g0),(1,g1),(2,g2),(3,g3),(4,g4)]:=(rfl)
theorem x_env_6 (g0 g1 g2 g3 g4 g5:GV):envOf [g0,g1,g2,g3,g4,g5] 0=[(0,g0),(1,g1),(2,g2),(3,g3),(4,g4),(5,g5)]:=(rfl)
theorem x_env_7 (g0 g1 g2 g3 g4 g5 g6:GV):envOf [g0,g1,g2,g3,g4,g5,g6] 0=[(0,g0),(1,g1),(2,g2),(3,g3),(4,g4),(5,g5),(6,g6)]:=(rfl)
theorem set_one (e f:GV):List.set [e] 0 f=[f]:=by simp
set_option maxRecDepth 100000 in
theorem S:type_of% (And.intro @YU (And.intro @set_one (And.intro @v_some (And.intro @q_nil (And.intro @q_mov (And.intro @q_pick (And.intro @q_call (And.intro @q_guard (And.intro @q_callv (And.intro @q_stro (And.intro @q_allocr (And.intro @q_box (And.intro @q_boxro (And.intro @q_alloc (And.intro @q_iaddr (And.intro @q_idx (And.intro @q_aidx (And.intro @q_bslice (And.intro @q_mkslice (And.intro @q_slc (And.intro @q_sslc (And.intro @q_append (And.intro @q_copy (And.intro @q_store (And.intro @q_load (And.intro @q_loadr (And.intro @q_build (And.intro @q_sub (And.intro @q_mul (And.intro @q_leq (And.intro @q_gtr (And.intro @q_geq (And.intro @q_eql (And.intro @q_neq (And.intro @q_lss (And.intro @q_add (And.intro @q_quo (And.intro @q_rem (And.intro @q_beq (And.intro @q_aeq (And.intro @q_not (And.intro @q_neg (And.intro @q_conv (And.intro @q_mkfn (And.intro @q_faddr (And.intro @q_field (And.intro @q_ext (And.intro @q_len (And.intro @q_slen (And.intro @q_mx (And.intro @q_mn (And.intro @q_nck (And.intro @r_int (And.intro @r_add (And.intro @r_sadd (And.intro @r_cmp (And.intro @r_scmp (And.intro @r_div (And.intro @r_beq (And.intro @r_aeq (And.intro @r_not (And.intro @r_neg (And.intro @r_conv (And.intro @r_faddr (And.intro @r_faddrp (And.intro @r_field (And.intro @r_ext (And.intro @r_len (And.intro @r_leno (And.intro @r_len0 (And.intro @r_slen (And.intro @r_nckr (And.intro @r_nckp (And.intro @r_nckc (And.intro @r_load (And.intro @r_build (And.intro @r_fn (And.intro @x_get0 (And.intro @x_get (And.intro @x_set0 (And.intro @x_set (And.intro @x_put (And.intro @x_put0 (And.intro @x_gt (And.intro @x_gk (And.intro @x_val (And.intro @x_sl (And.intro @x_agg (And.intro @x_rop (And.intro @x_ptr (And.intro @x_own (And.intro @x_clo (And.intro @x_tup (And.intro @x_all0 (And.intro @x_all (And.intro @x_allR (And.intro @x_env0 (And.intro @x_env_1 (And.intro @x_env_2 (And.intro @x_env_3 (And.intro @x_env_4 (And.intro @x_env_5 (And.intro @x_env_6 (And.intro @x_env_7 (And.intro @x_then (And.intro @x_thenr (And.intro @x_thenx (And.intro @x_blk (And.intro @x_blkr (And.intro @x_blkx (And.intro @x_prt0 (And.intro @x_prt (And.intro @x_prtR (And.intro @w_t (And.intro @w_f (And.intro @w_tt (And.intro @w_ff (And.intro @w_tf (And.intro @w_ft (And.intro @Bool.not_true (And.intro @Bool.not_false (@Nat.zero_add)))))))))))))))))))))))))))))))))))))))))))))))))))))))))))))))))))))))))))))))))))))))))))))))))))))))))))))))))))))))))):=
 And.intro @YU (And.intro @set_one (And.intro @v_some (And.intro @q_nil (And.intro @q_mov (And.intro @q_pick (And.intro @q_call (And.intro @q_guard (And.intro @q_callv (And.intro @q_stro (And.intro @q_allocr (And.intro @q_box (And.intro @q_boxro (And.intro @q_alloc (And.intro @q_iaddr (And.intro @q_idx (And.intro @q_aidx (And.intro @q_bslice (And.intro @q_mkslice (And.intro @q_slc (And.intro @q_sslc (And.intro @q_append (And.intro @q_copy (And.intro @q_store (And.intro @q_load (And.intro @q_loadr (And.intro @q_build (And.intro @q_sub (And.intro @q_mul (And.intro @q_leq (And.intro @q_gtr (And.intro @q_geq (And.intro @q_eql (And.intro @q_neq (And.intro @q_lss (And.intro @q_add (And.intro @q_quo (And.intro @q_rem (And.intro @q_beq (And.intro @q_aeq (And.intro @q_not (And.intro @q_neg (And.intro @q_conv (And.intro @q_mkfn (And.intro @q_faddr (And.intro @q_field (And.intro @q_ext (And.intro @q_len (And.intro @q_slen (And.intro @q_mx (And.intro @q_mn (And.intro @q_nck (And.intro @r_int (And.intro @r_add (And.intro @r_sadd (And.intro @r_cmp (And.intro @r_scmp (And.intro @r_div (And.intro @r_beq (And.intro @r_aeq (And.intro @r_not (And.intro @r_neg (And.intro @r_conv (And.intro @r_faddr (And.intro @r_faddrp (And.intro @r_field (And.intro @r_ext (And.intro @r_len (And.intro @r_leno (And.intro @r_len0 (And.intro @r_slen (And.intro @r_nckr (And.intro @r_nckp (And.intro @r_nckc (And.intro @r_load (And.intro @r_build (And.intro @r_fn (And.intro @x_get0 (And.intro @x_get (And.intro @x_set0 (And.intro @x_set (And.intro @x_put (And.intro @x_put0 (And.intro @x_gt (And.intro @x_gk (And.intro @x_val (And.intro @x_sl (And.intro @x_agg (And.intro @x_rop (And.intro @x_ptr (And.intro @x_own (And.intro @x_clo (And.intro @x_tup (And.intro @x_all0 (And.intro @x_all (And.intro @x_allR (And.intro @x_env0 (And.intro @x_env_1 (And.intro @x_env_2 (And.intro @x_env_3 (And.intro @x_env_4 (And.intro @x_env_5 (And.intro @x_env_6 (And.intro @x_env_7 (And.intro @x_then (And.intro @x_thenr (And.intro @x_thenx (And.intro @x_blk (And.intro @x_blkr (And.intro @x_blkx (And.intro @x_prt0 (And.intro @x_prt (And.intro @x_prtR (And.intro @w_t (And.intro @w_f (And.intro @w_tt (And.intro @w_ff (And.intro @w_tf (And.intro @w_ft (And.intro @Bool.not_true (And.intro @Bool.not_false (@Nat.zero_add)))))))))))))))))))))))))))))))))))))))))))))))))))))))))))))))))))))))))))))))))))))))))))))))))))))))))))))))))))))))))
end Go.Gh
namespace Go.Gh
open Go.RowKit Go.ChangeShapes Go.WideShapes Go.Deep
theorem cells1 {v:Value} (h:v.oneCell'=true):v.cells = #[v]:=by
 cases v<;>first|rfl|simp[Value.oneCell'] at h
inductive Ty where
 | int (k:IntKind)
 | bool
 | str
 | sl (ag:Bool) (ts:List Ty)
 | pr (Q:GV→Prop)
mutual
def CT:Ty→GV→Prop
 | .int k,g=>∃n,g = .val (.int k n)∧(Lit.int k n).wf = true
 | .bool,g=>∃b,g = .val (.bool b)
 | .str,g=>∃s:ByteArray,g = .val (.string s)∧s.size≤maxLen
 | .sl ag ts,g=>∃es,g = .sl ts.length es∧es.length≤Y9∧∀e∈es,∃gs,CTs ts gs∧(if ag then e = .agg gs else gs=[e])
 | .pr Q,g=>Q g
def CTs:List Ty→List GV→Prop
 | [],gs=>gs=[]
 | t::ts,gs=>∃g gs',gs=g::gs'∧CT t g∧CTs ts gs'
end
def ET (ag:Bool) (ts:List Ty) (e:GV):Prop:=∃gs,CTs ts gs∧(if ag then e = .agg gs else gs=[e])
theorem CTs.append:∀{ts us:List Ty} {gs hs:List GV},CTs ts gs→CTs us hs→CTs (ts++us) (gs++hs)
 | [],us,gs,hs,h,k=>by simp only[CTs] at h;simpa[h] using k
 | t::ts,us,gs,hs,h,k=>by
  simp only[CTs] at h
  obtain ⟨g,gs',rfl,h1,h2⟩:=h
  simp only[List.cons_append,CTs]
  exact ⟨g,gs'++hs,rfl,h1,CTs.append h2 k⟩
theorem CTs.len:∀{ts:List Ty} {gs:List GV},CTs ts gs→gs.length=ts.length
 | [],gs,h=>by simp only[CTs] at h;simp[h]
 | t::ts,gs,h=>by
  simp only[CTs] at h
  obtain ⟨g,gs',rfl,h1,h2⟩:=h
  simp[CTs.len h2]
def fieldsTy (P:Program) (rec:TypeId→Option (Bool×List Ty)):List Field→Nat→Option (List Ty)
 | [],_ => some []
 | f::fs,off=>match rec f.type,fieldsTy P rec fs (off+P.cellsOf f.type) with
  | some (_,ts),some us=>if f.offset=off∧ts.length=P.cellsOf f.type then some (ts++us) else none
  | _,_ => none
def tyOf (P:Program):Nat→TypeId→Option (Bool×List Ty)
 | 0,_ => none
 | n+1,t=>match P.underlying t with
  | some .bool => some (false,[.bool])
  | some (.int k)=>some (false,[.int k])
  | some .string => some (false,[.str])
  | some (.slice e)=>match tyOf P n e with
   | some (ag,ts)=>if ts.length=P.cellsOf e∧0<ts.length then some (false,[.sl ag ts]) else none
   | none=>none
  | some (.struct fs)=>match fieldsTy P (tyOf P n) fs.toList 0 with
   | some ts=>if ts.length=P.cellsOf t then some (true,ts) else none
   | none=>none
  | _ => none
def Lf (W:World) (ts:List Ty) (cs:List Value):Prop:=∃gs,ML W (Yr W) gs cs []∧CTs ts gs∧∀c∈cs,c.oneCell'=true
theorem Lf.one {W:World} {t:Ty} {c:Value} {g:GV} (h1:MV W (Yr W) g c []) (h2:CT t g) (h3:c.oneCell'=true):Lf W [t] [c]:=
 ⟨[g],.cons0 h1 .nil0,by simp only[CTs];exact ⟨g,[],rfl,h2,rfl⟩,by simpa using h3⟩
theorem Lf.append {W:World} {ts us:List Ty} {cs ds:List Value} (h:Lf W ts cs) (k:Lf W us ds):Lf W (ts++us) (cs++ds):=by
 obtain ⟨gs,h1,h2,h3⟩:=h
 obtain ⟨hs,k1,k2,k3⟩:=k
 exact ⟨gs++hs,by simpa using ML.append h1 k1,h2.append k2,fun c hc=>(List.mem_append.1 hc).elim (h3 c) (k3 c)⟩
theorem Lf.len {W:World} {ts:List Ty} {cs:List Value} (h:Lf W ts cs):cs.length=ts.length:=by
 obtain ⟨gs,h1,h2,_⟩:=h
 rw[ML.len _ _ _ h1,h2.len]
theorem fields_ok {P:Program} {W:World} {rec:TypeId→Option (Bool×List Ty)} {cs:List Value}:∀{fs:List Field} {off:Nat} {ts:List Ty},fieldsTy P rec fs off=some ts →
 (∀f∈fs,∀a us,rec f.type=some (a,us)→Lf W us ((cs.drop f.offset).take (P.cellsOf f.type)))→Lf W ts ((cs.drop off).take ts.length)
 | [],off,ts,h,_ => by
  simp only[fieldsTy,Option.some.injEq] at h
  subst h
  exact ⟨[],by simpa using ML.nil0,rfl,by simp⟩
 | f::fs,off,ts,h,hf=>by
  simp only[fieldsTy] at h
  split at h
  case h_2=>cases h
  rename_i a us vs h1 h2
  split at h
  case isFalse=>cases h
  rename_i hc
  simp only[Option.some.injEq] at h
  subst h
  obtain ⟨hc1,hc2⟩:=hc
  have k1:=hf f (by simp) a us h1
  have k2:=fields_ok h2 fun f' hf'=>hf f' (by simp[hf'])
  rw[hc1,←hc2] at k1
  rw[←hc2] at k2
  have:=k1.append k2
  rwa [List.length_append,List.take_add,List.drop_drop]
theorem elems_ok {W:World} {a:Addr} {sz:Nat} {Q:GV→Prop}:∀(n:Nat),(∀i,i<n→∃cs,W.cells? 0 (a.add (i * sz)) sz=some cs∧∃u g,u.cells.toList=cs∧okc u∧MV W (Yr W) g u []∧Q g) →
 ∃es cs,es.length=n∧MF W (Yr W) sz es cs []∧(∀e∈es,Q e)∧∀j v,cs[j]? = some v→W.cell? (a.add j)=some v
 | 0,_ => ⟨[],[],rfl,by simp[MF],by simp,by simp⟩
 | n+1,h=>by
  obtain ⟨es,cs,h1,h2,h3,h4⟩:=elems_ok n fun i hi=>h i (by omega)
  obtain ⟨cs',k1,u,g,k2,k3,k4,k5⟩:=h n (by omega)
  obtain ⟨_,m1,m2⟩:=World.cells?_some k1
  have hlen:=MF.len _ _ _ _ h2
  have hu:u.cells.size=sz:=by rw[←m1,←k2];simp
  refine ⟨es++[g],cs++cs',by simp[h1],?_,fun e he=> ?_,fun j v hj=> ?_⟩
  ·have:MF W (Yr W) sz [g] cs' []:=by
    simp only[MF]
    exact ⟨u,[],[],[],by simp[k2],hu,k3,rfl,k4,rfl,rfl⟩
   simpa using MF.append sz h2 this
  ·rcases List.mem_append.1 he with he|he
   ·exact h3 e he
   ·simp only[List.mem_singleton] at he;subst he;exact k5
  ·by_cases hj':j<cs.length
   ·rw[List.getElem?_append_left hj'] at hj;exact h4 j v hj
   ·rw[List.getElem?_append_right (by omega)] at hj
    have hlt:j-cs.length<sz:=by
     rcases Nat.lt_or_ge (j-cs.length) sz with h'|h'
     ·exact h'
     ·simp[List.getElem?_eq_none (show cs'.length≤j-cs.length by omega)] at hj
    have:=m2 (j-cs.length) hlt
    rw[hj] at this
    rw[←this]
    congr 1
    rw[hlen,h1] at hj' hlt ⊢
    by_cases hz:n * sz=0
    ·rw[hz];simp[Addr.add]
    ·have e1:(a.add (n * sz)).add (j-n * sz)=⟨a.block,a.off+j,none⟩:=by
      simp only[Addr.add,if_neg hz]
      split
      ·congr 1;omega
      ·congr 1;omega
     rw[e1]
     simp only[Addr.add]
     rw[if_neg (by omega)]
theorem lift {H:Type} {enc:TypeId×Value→H} {P:Program} {W:World} {spare:Nat→Bool} {held:Bool}:∀(n:Nat) {t:TypeId} {ag:Bool} {ts:List Ty} {fuel:Nat} {cs:List Value} {x:DataW H×List MemPlace},
 tyOf P n t=some (ag,ts)→DataW.trod enc P W 0 spare held fuel t cs=some x→Lf W ts cs
 | 0,_,_,_,_,_,_,h,_ => by simp[tyOf] at h
 | n+1,t,ag,ts,fuel,cs,x,h,hx=>by
  unfold tyOf at h
  split at h
  ·rename_i ht
   simp only[Option.some.injEq,Prod.mk.injEq] at h
   obtain ⟨rfl,rfl⟩:=h
   obtain ⟨b,rfl,_⟩:=DataW.trod_bool ht hx
   exact .one .val0 ⟨b,rfl⟩ rfl
  ·rename_i k ht
   simp only[Option.some.injEq,Prod.mk.injEq] at h
   obtain ⟨rfl,rfl⟩:=h
   obtain ⟨b,rfl,_,hw⟩:=DataW.trod_int ht hx
   exact .one .val0 ⟨b,rfl,hw⟩ rfl
  ·rename_i ht
   simp only[Option.some.injEq,Prod.mk.injEq] at h
   obtain ⟨rfl,rfl⟩:=h
   obtain ⟨b,rfl,_,hw⟩:=DataW.trod_string ht hx
   exact .one .val0 ⟨b,rfl,hw⟩ rfl
  ·rename_i e ht
   split at h
   case h_2=>cases h
   rename_i ag' ts' he
   split at h
   case isFalse=>cases h
   rename_i hc
   simp only[Option.some.injEq,Prod.mk.injEq] at h
   obtain ⟨rfl,rfl⟩:=h
   rcases open_slice ht hx with ⟨rfl,_⟩|⟨a,len,cap,m,n',D,Pl,rfl,_,hl,hcap,hm,_,hel⟩
   ·exact .one (g:= .sl ts'.length []) (by simp only[MV];exact ⟨trivial,.inl ⟨trivial,_,_,rfl⟩⟩) (by simp only[CT];exact ⟨[],rfl,by simp[Y9],by simp⟩) rfl
   ·have hlm:len≤m:=by rw[hm];split<;>omega
    obtain ⟨es,cells,h1,h2,h3,h4⟩:=elems_ok (W:=W) (a:=a) (sz:=P.cellsOf e) (Q:=ET ag' ts') len fun i hi=>by
     obtain ⟨cs',k1,k2⟩:=hel i (by omega)
     obtain ⟨gs,m1,m2,m3⟩:=lift n he k2
     refine ⟨cs',k1,?_⟩
     cases ag'
     ·have hg:=ML.len _ _ _ m1
      have hg2:=m2.len
      have hone:ts'.length=1:=by
       clear m1 m2 m3 hg hg2
       cases n with
       | zero=>simp[tyOf] at he
       | succ n=>
        unfold tyOf at he
        split at he
        ·simp only[Option.some.injEq,Prod.mk.injEq] at he;rw[←he.2];rfl
        ·simp only[Option.some.injEq,Prod.mk.injEq] at he;rw[←he.2];rfl
        ·simp only[Option.some.injEq,Prod.mk.injEq] at he;rw[←he.2];rfl
        ·split at he
         ·split at he
          ·simp only[Option.some.injEq,Prod.mk.injEq] at he;rw[←he.2];rfl
          ·cases he
         ·cases he
        ·split at he
         ·split at he
          ·simp only[Option.some.injEq,Prod.mk.injEq] at he;cases he.1
          ·cases he
         ·cases he
        ·cases he
      match gs,cs',m1,hg,hg2 with
      | [g],[u],m1,_,_ =>
       simp only[ML] at m1
       obtain ⟨v',us,F1,F2,q1,q2,q3,q4,q5⟩:=m1
       have q6:F1=[]∧F2=[]:=by simpa using q2.symm
       obtain ⟨rfl,rfl⟩:=q6
       simp only[List.cons.injEq] at q1
       obtain ⟨rfl,rfl⟩:=q1
       have hu:u.cells = #[u]:=cells1 (m3 u (by simp))
       exact ⟨u,g,by simp[hu],fun x hx=>by rw[hu] at hx;simp at hx;subst hx;exact m3 _ (by simp),q3,[g],m2,by simp⟩
      | [],_,_,_,hg2=>simp at hg2;omega
      | _ :: _ :: _,_,_,_,hg2=>simp at hg2;omega
      | [_],[],_,hg,_ => simp at hg
      | [_],_ :: _ :: _,_,hg,_ => simp at hg
     ·exact ⟨.agg cs'.toArray,.agg gs,by simp[Value.cells],fun x hx=>m3 x (by simpa[Value.cells] using hx),by simp only[MV];exact ⟨cs',rfl,m3,m1⟩,gs,m2,by simp⟩
    refine .one (g:= .sl ts'.length es) ?_ (by simp only[CT];exact ⟨es,rfl,by simp only[Y9,maxLen] at *;omega,h3⟩) rfl
    simp only[MV]
    refine ⟨trivial,?_⟩
    cases len with
    | zero=>
     left
     have:es=[]:=by simpa using h1
     exact ⟨this,_,_,rfl⟩
    | succ len=>
     right
     have hl2:=MF.len _ _ _ _ h2
     have hpos:0<cells.length:=by rw[hl2,h1,←hc.1];exact Nat.mul_pos (by omega) hc.2
     have h0:=h4 0 cells[0] (by simp[hpos])
     simp only[Addr.add,if_true] at h0
     unfold World.cell? at h0
     split at h0
     case h_2=>cases h0
     rename_i c T fz hb
     split at h0
     ·cases h0
     rename_i hsp
     have hsp':a.spot=none:=by cases hs:a.spot<;>simp[hs] at hsp ⊢
     obtain ⟨ab,ao,as⟩:=a
     simp only at hsp' hb h0
     subst hsp'
     refine ⟨ab,ao,cap,cells,by rw[h1],by omega,by simp only[Y9,maxLen] at *;omega,lt_of_heap hb,⟨c,T,fz,hb,fun j u hj=> ?_⟩,by rw[hc.1];exact h2⟩
     have:=h4 j u hj
     rw[X6] at this
     simpa[World.cell?,hb] using this
  ·rename_i fs ht
   split at h
   case h_2=>cases h
   rename_i ts' hfs
   split at h
   case isFalse=>cases h
   rename_i hlen
   simp only[Option.some.injEq,Prod.mk.injEq] at h
   obtain ⟨rfl,rfl⟩:=h
   obtain ⟨xs,n',_,_,hl,hxs,hf⟩:=DataW.trod_struct ht hx
   have:=fields_ok (W:=W) (cs:=cs) hfs fun f hfm a us hus=>by
    obtain ⟨i,hi,hif⟩:=List.mem_iff_getElem.1 hfm
    have hi':i<fs.size:=by simpa using hi
    have:=hf i f (by rw[←hif];simp[hi'])
    rw[List.getElem?_eq_getElem (by omega)] at this
    exact lift n hus this
   rw[List.drop_zero,List.take_of_length_le (by omega)] at this
   exact this
  ·cases h
theorem lift_val {H:Type} {enc:TypeId×Value→H} {P:Program} {W:World} {spare:Nat→Bool} {held:Bool} {r:Reach} {b0:Nat} (n:Nat) {t:TypeId} {ag:Bool} {ts:List Ty} {v:Value} {d:DataW H} {ps:List MemPlace}
 (ht:tyOf P n t=some (ag,ts)) (hv:Value.okWide P W r b0 t v) (hx:DataW.Trod enc P W 0 spare held t v d ps):∃g,MV W (Yr W) g v []∧ET ag ts g:=by
 obtain ⟨fuel,hx⟩:=hx
 obtain ⟨gs,h1,h2,h3⟩:=lift n ht hx
 cases n with
 | zero=>simp[tyOf] at ht
 | succ n=>
 have leaf:ag=false→v.oneCell'=true→∃g,MV W (Yr W) g v []∧ET ag ts g:=by
  intro ha hv1
  subst ha
  rw[cells1 hv1] at h1
  match gs,h1 with
  | [g],h1=>
   simp only[ML] at h1
   obtain ⟨v',us,F1,F2,q1,q2,q3,q4,q5⟩:=h1
   have q6:F1=[]∧F2=[]:=by simpa using q2.symm
   obtain ⟨rfl,rfl⟩:=q6
   simp only[List.cons.injEq] at q1
   obtain ⟨rfl,rfl⟩:=q1
   exact ⟨g,q3,[g],h2,by simp⟩
  | [],h1=>have:=ML.len _ _ _ h1;simp at this
  | _ :: _ :: _,h1=>have:=ML.len _ _ _ h1;simp at this
 unfold tyOf at ht
 split at ht
 ·rename_i hu
  simp only[Option.some.injEq,Prod.mk.injEq] at ht
  refine leaf ht.1.symm ?_
  simp only[Value.okWide,hu,Cell.okWide] at hv
  cases v<;>simp_all [Cell.ok,Value.oneCell']
 ·rename_i k hu
  simp only[Option.some.injEq,Prod.mk.injEq] at ht
  refine leaf ht.1.symm ?_
  simp only[Value.okWide,hu,Cell.okWide] at hv
  cases v<;>simp_all [Cell.ok,Value.oneCell']
 ·rename_i hu
  simp only[Option.some.injEq,Prod.mk.injEq] at ht
  refine leaf ht.1.symm ?_
  simp only[Value.okWide,hu,Cell.okWide] at hv
  cases v<;>simp_all [Cell.ok,Value.oneCell']
 ·rename_i e hu
  have ha:ag=false:=by
   split at ht
   ·split at ht
    ·simp only[Option.some.injEq,Prod.mk.injEq] at ht;exact ht.1.symm
    ·cases ht
   ·cases ht
  refine leaf ha ?_
  simp only[Value.okWide,hu,Cell.okWide] at hv
  cases v<;>simp_all [Cell.ok,Value.oneCell']
 ·rename_i fs hu
  have ha:ag=true:=by
   split at ht
   ·split at ht
    ·simp only[Option.some.injEq,Prod.mk.injEq] at ht;exact ht.1.symm
    ·cases ht
   ·cases ht
  subst ha
  obtain ⟨cs,rfl,_⟩:=okWide_struct hu hv
  exact ⟨.agg gs,by simp only[MV];exact ⟨cs.toList,by simp,fun x hx=>h3 x (by simpa[Value.cells] using hx),by simpa[Value.cells] using h1⟩,gs,h2,by simp⟩
 ·cases ht
end Go.Gh
namespace Go.Gh
theorem fill_set {α β:Type} (l:List α) (f:α→β) (z:β) (i:Nat) (h:i<l.length):((l.take i).map f++List.replicate (l.length-i) z).set i (f l[i])=(l.take (i+1)).map f++List.replicate (l.length-(i+1)) z:=by
 have e:((l.take i).map f).length = i:=by simp[Nat.min_eq_left (Nat.le_of_lt h)]
 have e2:l.length-i=(l.length-(i+1))+1:=by omega
 rw[List.set_append_right _ _ (by omega),e,Nat.sub_self,e2,List.replicate_succ,List.set_cons_zero,List.take_add_one,List.getElem?_eq_getElem h,List.map_append,Option.toList_some,List.map_cons,List.map_nil,List.append_assoc,List.singleton_append]
theorem list_of {α:Type} {f:α→GV} {ok:α→Prop}:∀{es:List GV},(∀e∈es,∃a,e=f a∧ok a)→∃l:List α,es=l.map f∧∀a∈l,ok a
 | [],_ => ⟨[],rfl,by simp⟩
 | e::es,h=>by
  obtain ⟨a,rfl,ha⟩:=h e (by simp)
  obtain ⟨l,rfl,hl⟩:=list_of (es:=es) fun x hx=>h x (by simp[hx])
  exact ⟨a::l,rfl,fun b hb=>(List.mem_cons.1 hb).elim (fun e=>e▸ha) (hl b)⟩
end Go.Gh
namespace Go.Gh
abbrev I (n:Int):GV:= .val (.int .i64 n)
abbrev B (b:Bool):GV:= .val (.bool b)
section
variable {P:Program} {α:Type} {f:α→GV} {k kx sz:Nat} {det ag:Bool}
def szv (left:Int) (n:Nat):Int:=if left-n<0 then -1 else left-n
theorem szv_pos {left:Int} {n:Nat} (h:(n:Int)≤left):szv left n=left-n:=by simp only[szv];rw[if_neg (by omega)]
theorem szv_out {left:Int} {n:Nat} (h:left<n):szv left n = -1:=by simp only[szv];rw[if_pos (by omega)]
def wtS (wt:α→Nat) (xs:List α):Nat:=xs.length+(xs.map wt).sum
def psum (wt:α→Nat) (xs:List α) (i:Nat):Nat:=((xs.take i).map wt).sum
theorem psum_zero (wt:α→Nat) (xs:List α):psum wt xs 0=0:=by simp[psum]
theorem psum_succ (wt:α→Nat) (xs:List α) (i:Nat) (h:i<xs.length):psum wt xs (i+1)=psum wt xs i+wt xs[i]:=by
 rw[psum,psum,List.take_add_one,List.getElem?_eq_getElem h,List.map_append,List.sum_append]
 rfl
theorem psum_le (wt:α→Nat) (xs:List α) (i:Nat):psum wt xs i≤(xs.map wt).sum := by
 have:(xs.map wt).sum = ((xs.take i).map wt).sum + ((xs.drop i).map wt).sum := by
  rw[←List.sum_append,←List.map_append,List.take_append_drop]
 rw[psum];omega
theorem psum_all (wt:α→Nat) (xs:List α):psum wt xs xs.length=(xs.map wt).sum := by rw[psum,List.take_of_length_le (Nat.le_refl _)]
end
end Go.Gh
namespace Go.Gh
def ixOf {α:Type} (p:α→Bool) (xs:List α):Int:=match xs.findIdx? p with
 | some i=>i
 | none=> -1
theorem ixOf_none {α:Type} {p:α→Bool} {xs:List α} (h:∀a∈xs,p a=false):ixOf p xs = -1:=by
 have:xs.findIdx? p=none:=by rw[List.findIdx?_eq_none_iff];exact h
 rw[ixOf,this]
theorem ixOf_hit {α:Type} {p:α→Bool} {xs:List α} {i:Nat} (h:i<xs.length) (hp:p xs[i]=true) (hn:∀a∈xs.take i,p a=false):ixOf p xs=i:=by
 have:xs.findIdx? p=some i:=by
  rw[List.findIdx?_eq_some_iff_getElem]
  refine ⟨h,hp,fun j hj=> ?_⟩
  have:=hn xs[j] (by rw[List.mem_take_iff_getElem];exact ⟨j,by omega,rfl⟩)
  simp[this]
 rw[ixOf,this]
theorem take_step {α:Type} {p:α→Bool} {xs:List α} {i:Nat} (h:i<xs.length) (hp:p xs[i]=false) (hn:∀a∈xs.take i,p a=false):∀a∈xs.take (i+1),p a=false:=by
 intro a ha
 rw[List.take_add_one,List.getElem?_eq_getElem h,Option.toList_some,List.mem_append] at ha
 rcases ha with ha|ha
 ·exact hn a ha
 ·simp only[List.mem_singleton] at ha;rw[ha];exact hp
end Go.Gh
namespace Go.Gh
mutual
def LenOk:GV→Prop
 | .sl _ es=>es.length≤Y9∧LenOkL es
 | .agg gs=>LenOkL gs
 | .tup gs=>LenOkL gs
 | .rop _ g=>LenOk g
 | _ => True
def LenOkL:List GV→Prop
 | []=>True
 | g::gs=>LenOk g∧LenOkL gs
end
theorem LenOkL.all:∀{gs:List GV},LenOkL gs→∀g∈gs,LenOk g
 | [],_,_,h=>by cases h
 | g::gs,h,x,hx=>by
  simp only[LenOkL] at h
  rcases List.mem_cons.1 hx with rfl|hx
  ·exact h.1
  ·exact LenOkL.all h.2 x hx
mutual
theorem MV.lenOk {w:World} {D:Nat→Prop}:∀(g:GV) (v:Value) (F:List Nat),MV w D g v F→LenOk g
 | .val u,v,F,h=>trivial
 | .sl sz es,v,F,h=>by
  simp only[MV] at h
  rcases h.2 with ⟨rfl,_⟩|⟨b,off,cap,cs,h1,h2,h3,h4,h5,h6⟩
  ·exact ⟨by simp[Y9],trivial⟩
  ·exact ⟨h3,MF.lenOk sz es cs [] h6⟩
 | .agg gs,v,F,h=>by simp only[MV] at h;obtain ⟨vs,_,_,h2⟩:=h;exact ML.lenOk gs vs F h2
 | .rop sz g,v,F,h=>by simp only[MV] at h;obtain ⟨_,b,off,u,_,_,_,_,_,h2⟩:=h;exact MV.lenOk g u [] h2
 | .ptr r sz i o,v,F,h=>trivial
 | .own r sz k n,v,F,h=>trivial
 | .osl sz es,v,F,h=>trivial
 | .clo f cs,v,F,h=>trivial
 | .tup gs,v,F,h=>by simp only[MV] at h;obtain ⟨vs,_,h2⟩:=h;exact ML.lenOk gs vs F h2
 | .raw n,v,F,h=>trivial
 | .cur,v,F,h=>trivial
theorem ML.lenOk {w:World} {D:Nat→Prop}:∀(gs:List GV) (vs:List Value) (F:List Nat),ML w D gs vs F→LenOkL gs
 | [],vs,F,h=>trivial
 | g::gs,vs,F,h=>by
  simp only[ML] at h
  obtain ⟨v,vs',F1,F2,_,h2,h3,h4⟩:=h
  exact ⟨MV.lenOk g v F1 h3,ML.lenOk gs vs' F2 h4⟩
theorem MF.lenOk {w:World} {D:Nat→Prop} (sz:Nat):∀(gs:List GV) (vs:List Value) (F:List Nat),MF w D sz gs vs F→LenOkL gs
 | [],vs,F,h=>trivial
 | g::gs,vs,F,h=>by
  simp only[MF] at h
  obtain ⟨v,vs',F1,F2,_,_,_,h2,h3,h4⟩:=h
  exact ⟨MV.lenOk g v F1 h3,MF.lenOk sz gs vs' F2 h4⟩
end
theorem GCalls.lenA {P:Program} {f:FuncId} {gs:List GV} {H:GH} {R:GV→GH→Prop} (h:LenOkL gs→GCalls P f gs H R):GCalls P f gs H R:=
 fun w D Ω args hst hm=>h (ML.lenOk gs args [] hm) w D Ω args hst hm
def condT (x:Option GV) (A B:Prop):Prop:=
 match x with
 | some (.val (.bool b))=>(b=true→A)∧(b=false→B)
 | _ => False
def gwp (P:Program) (cf:Cfg):GC→(Exit→Env→GH→Prop)→Env→GH→Prop
 | .skip,Q,env,H=>Q .normal env H
 | .reg l,Q,env,H=>Z7 P l (Q .normal) env H
 | .seq x y,Q,env,H=>gwp P cf x (thenG (gwp P cf y Q) Q) env H
 | .cond t x y,Q,env,H=>condT (ZU env t) (gwp P cf x Q env H) (gwp P cf y Q env H)
 | .block id x,Q,env,H=>gwp P cf x (blockG id Q) env H
 | .loop x,Q,env,H=>GW P cf (.loop x) Q env H
 | .exit id,Q,env,H=>Q (.exit id) env H
 | .ret,Q,env,H=>Q .ret env H
section
variable {P:Program} {cf:Cfg}
theorem Y1 (mxd:P.follows .mixedOrders = true):∀{gc:GC} {Q:Exit→Env→GH→Prop} {env:Env} {H:GH},gwp P cf gc Q env H→GW P cf gc Q env H
 | .skip,_,_,_,h=>GW.skip h
 | .reg l,_,_,_,h=>GW.reg mxd h
 | .seq x y,Q,env,H,h=>GW.seq (GW.mono (fun ex e H' hq=>by
  cases ex<;>simp only[thenG] at hq ⊢
  all_goals first
   | exact hq
   | exact Y1 mxd hq) (Y1 mxd (gc:=x) h))
 | .cond t x y,Q,env,H,h=>by
  simp only[gwp,condT] at h
  split at h
  ·rename_i b hb
   exact GW.cond hb (fun e=>Y1 mxd (h.1 e)) (fun e=>Y1 mxd (h.2 e))
  ·exact h.elim
 | .block id x,Q,env,H,h=>GW.block (Y1 mxd (gc:=x) h)
 | .loop x,Q,env,H,h=>h
 | .exit id,Q,env,H,h=>GW.exit h
 | .ret,Q,env,H,h=>GW.ret h
def Nx {ι:Type} (E:ι→Env) (G:ι→GH) (μ:ι→Nat) (i:ι) (e:Env) (H:GH):Prop:=∃j,FE e H (E j) (G j)∧μ j<μ i
def subE (e:Env):Env→Prop
 | []=>True
 | (j,g)::r=>ZU e j=some g∧subE e r
theorem FE.of {e e':Env} {H:GH} (h:subE e e'):FE e H e' H:=by
 have hs:∀i g,ZU e' i=some g→ZU e i=some g:=by
  induction e' with
  | nil=>intro i g h;cases h
  | cons x r ih=>
   obtain ⟨j,g0⟩:=x
   intro i g hg
   simp only[ZU] at hg
   split at hg
   ·rename_i e;subst e;simp only[Option.some.injEq] at hg;subst hg;exact h.1
   ·exact ih h.2 i g hg
 intro w0 D0 O0 N a w ⟨hdf,hsz,D,Ω,ρw,hi⟩
 exact ⟨hdf,hsz,D,Ω,ρw,fun i g hg hr=>hi.em i g (hs i g hg) hr,fun i n hg=>hi.rw i n (hs i _ hg),hi.ri,hi.rd,hi.st,hi.ev⟩
theorem nx {ι:Type} {E:ι→Env} {G:ι→GH} {μ:ι→Nat} {i:ι} {e:Env} {H:GH} (j:ι) (hm:μ j<μ i) (h:subE e (E j)) (hh:H=G j):Nx E G μ i e H:=by
 subst hh
 exact ⟨j,FE.of h,hm⟩
theorem Zk (mxd:P.follows .mixedOrders = true) {ι:Type} {x:GC} {Q:Exit→Env→GH→Prop} {env:Env} {H:GH} (E:ι→Env) (G:ι→GH) (μ:ι→Nat) (i0:ι) (h0:subE env (E i0)) (hh:H=G i0)
 (round:∀i,gwp P cf x (thenG (Nx E G μ i) Q) (E i) (G i)):GW P cf (.loop x) Q env H:=by
 subst hh
 exact GW.loop E G μ i0 (FE.of h0) fun i=>Y1 mxd (round i)
def GEndS (gr:List GR) (R:GV→GH→Prop) (ex:Exit) (env:Env) (H:GH):Prop:=
 match ex with
 | .normal => ∃gs,resL env H gr=some gs∧R (pack1 gs) H
 | .ret => ∃gs,resL env H gr=some gs∧R (pack1 gs) H
 | _ => False
def resT (gs:Option (List GV)) (R:GV→GH→Prop) (H:GH):Prop:=match gs with|some gs=>R (pack1 gs) H|none=>False
theorem GEndS.ok {gr:List GR} {R:GV→GH→Prop} {ex:Exit} {env:Env} {H:GH} (h:GEndS gr R ex env H):GEnd gr R ex env H:=by
 cases ex<;>simp only[GEndS] at h
 ·obtain ⟨gs,h1,h2⟩:=h;exact ⟨.inl rfl,gs,_,_,h1,FR.refl _ _,h2⟩
 ·obtain ⟨gs,h1,h2⟩:=h;exact ⟨.inr rfl,gs,_,_,h1,FR.refl _ _,h2⟩
theorem k_ret (gr:List GR) (R:GV→GH→Prop) (env:Env) (H:GH):GEndS gr R .ret env H=resT (resL env H gr) R H:=by
 simp only[GEndS,resT]
 cases resL env H gr<;>simp
theorem k_nor (gr:List GR) (R:GV→GH→Prop) (env:Env) (H:GH):GEndS gr R .normal env H=resT (resL env H gr) R H:=by
 simp only[GEndS,resT]
 cases resL env H gr<;>simp
theorem k_res (gs:List GV) (R:GV→GH→Prop) (H:GH):resT (some gs) R H=R (pack1 gs) H:=(rfl)
theorem k_l0 (env:Env) (H:GH):resL env H []=some []:=(rfl)
theorem k_l (env:Env) (H:GH) (r:GR) (rs:List GR):resL env H (r::rs)=allR (resG env H r) (resL env H rs):=by
 simp only[resL]
 cases resG env H r<;>cases resL env H rs<;>rfl
theorem k_t (env:Env) (H:GH) (n:Nat):resG env H (.t n)=ge env (.t n):=(rfl)
theorem k_p1 (g:GV):pack1 [g]=g:=(rfl)
theorem k_p0:pack1 [] = .tup []:=(rfl)
theorem k_p2 (g g':GV) (gs:List GV):pack1 (g::g'::gs) = .tup (g::g'::gs):=(rfl)
def resC (x:Option GV) (n:Nat) (ag:Bool) (H:GH):Option GV:=match x with
 | some (.rop sz g)=>if sz=n∧isAgg g=ag then some g else none
 | some (.ptr r sz i o)=>match Z6 H r with
  | some (sz',es)=>match es[i]? with
   | some e=>match Yd e sz o n ag with
    | some g=>if sz'=sz∧clean g=true then some g else none
    | none=>none
   | none=>none
  | none=>none
 | _ => none
theorem k_c (env:Env) (H:GH) (t n:Nat) (ag:Bool):resG env H (.c t n ag)=resC (ge env (.t t)) n ag H:=(rfl)
theorem k_crop (sz:Nat) (g:GV) (n:Nat) (ag:Bool) (H:GH):resC (some (.rop sz g)) n ag H=if sz=n∧isAgg g=ag then some g else none:=(rfl)
def resP (h : Option (Nat × List GV)) (sz i o n : Nat) (ag : Bool) : Option GV := match h with
      | some (sz', es) => match es[i]? with
        | some e => match Yd e sz o n ag with
          | some g => if sz' = sz ∧ clean g = true then some g else none
          | none => none
        | none => none
      | none => none
theorem k_cptr (r sz i o n:Nat) (ag:Bool) (H:GH):resC (some (.ptr r sz i o)) n ag H=resP (Z6 H r) sz i o n ag:=(rfl)
def resQ (g:Option GV):Option GV:=match g with|some g=>if clean g=true then some g else none|none=>none
theorem k_p (sz o n:Nat) (e:GV) (ag:Bool):resP (some (sz,[e])) sz 0 o n ag=resQ (Yd e sz o n ag):=by
 simp only[resP,resQ,List.getElem?_cons_zero]
 cases Yd e sz o n ag<;>simp
theorem k_q (g:GV):resQ (some g)=if clean g=true then some g else none:=(rfl)
theorem Z8 (mxd:P.follows .mixedOrders = true) {f:FuncId} {F:GFun} (hF:IsFun P f F) {cf:Cfg} {gc:GC} {gr:List GR} (hf:F=⟨cf,gc,gr⟩) {gs:List GV} {H:GH} {R:GV→GH→Prop} (hlen:gs.length≤cf.N)
 (h:gwp P cf gc (GEndS gr R) (envOf gs 0) H):GCalls P f gs H R:=GCalls.start hF hf hlen (GW.mono (fun _ _ _ h=>h.ok) (Y1 mxd h))
end
section
variable (P:Program) (cf:Cfg) (Q:Exit→Env→GH→Prop) (env:Env) (H:GH)
theorem c_skip:gwp P cf .skip Q env H=Q .normal env H:=(rfl)
theorem c_reg (l:List GI):gwp P cf (.reg l) Q env H=Z7 P l (Q .normal) env H:=(rfl)
theorem c_seq (x y:GC):gwp P cf (.seq x y) Q env H=gwp P cf x (thenG (gwp P cf y Q) Q) env H:=(rfl)
theorem c_cond (t:Nat) (x y:GC):gwp P cf (.cond t x y) Q env H=condT (ZU env t) (gwp P cf x Q env H) (gwp P cf y Q env H):=(rfl)
theorem c_block (id:Nat) (x:GC):gwp P cf (.block id x) Q env H=gwp P cf x (blockG id Q) env H:=(rfl)
theorem c_loop (x:GC):gwp P cf (.loop x) Q env H=GW P cf (.loop x) Q env H:=(rfl)
theorem c_exit (id:Nat):gwp P cf (.exit id) Q env H=Q (.exit id) env H:=(rfl)
theorem c_ret:gwp P cf .ret Q env H=Q .ret env H:=(rfl)
end
def guardT (x:Option GV) (t:Nat) (want:Bool) (d:Option Nat) (env:Env) (A B:Env→Prop):Prop:=
 match x with
 | some (.val (.bool b))=>(b=want→A (eset env t (.val (.bool want))))∧(b = !want → B (gput (eset env t (.val (.bool !want))) d uG))
 | some (.val (.tuple _))=>B (gput env d uG)
 | _ => False
def pickT (c a b:Option GV) (A:GV→Prop):Prop:=
 match c with
 | some (.val (.bool t))=>(t=true→Z3 a A)∧(t=false→Z3 b A)
 | _ => False
def loadT (x:Option GV) (n:Nat) (ag:Bool) (H:GH) (A:GV→Prop):Prop:=
 match x with
 | some (.rop sz g)=>sz=n∧isAgg g=ag∧A g
 | some (.ptr r sz i o)=>match Z6 H r with
  | some (sz',es)=>match es[i]? with
   | some e=>match Yd e sz o n ag with
    | some g=>sz'=sz∧clean g=true∧A g
    | none=>False
   | none=>False
  | none=>False
 | _ => False
def ldT (h:Option (Nat×List GV)) (sz i o n:Nat) (ag:Bool) (A:GV→Prop):Prop:=
 match h with
 | some (sz',es)=>match es[i]? with
  | some e=>match Yd e sz o n ag with
   | some g=>sz'=sz∧clean g=true∧A g
   | none=>False
  | none=>False
 | none=>False
def stT (h:Option (Nat×List GV)) (sz i o n:Nat) (g:GV) (A:List GV→Prop):Prop:=
 match h with
 | some (sz',es)=>match es[i]? with
  | some e=>match pstores e sz o n g with
   | some e'=>sz'=sz∧gsize g=n∧ZI g=true∧A (es.set i e')
   | none=>False
  | none=>False
 | none=>False
def storeT (a x:Option GV) (n:Nat) (H:GH) (A:GH→Prop):Prop:=
 match a with
 | some (.ptr r sz i o)=>Z3 x fun g=>stT (Z6 H r) sz i o n g fun es=>A (Z1 H r es)
 | _ => False
def iaddrT (x i:Option GV) (sz:Nat) (A:GV→Prop):Prop:=
 match i with
 | some (.val (.int _ n))=>match x with
  | some (.sl sz' es)=>match es[n.toNat]? with
   | some e=>sz=sz'∧0≤n∧A (.rop sz e)
   | none=>False
  | some (.own r sz' k m)=>sz=sz'∧0≤n∧n<m∧A (.ptr r sz (k+n.toNat) 0)
  | _ => False
 | _ => False
def idxT (x i:Option GV) (A:GV→Prop):Prop:=
 match i with
 | some (.val (.int _ n))=>match x with
  | some (.val (.string s))=>match (Z9 s)[n.toNat]? with
   | some b=>0≤n∧A (.val (.int .u8 b.toNat))
   | none=>False
  | _ => False
 | _ => False
def boxT (x:Option GV) (n:Nat) (A:GV→Prop):Prop:=
 match x with
 | some g=>ZI g=true∧gsize g=n∧A g
 | none=>False
def stroT (r x:Option GV) (n:Nat) (A:GV→Prop):Prop:=
 match r with
 | some (.raw m)=>Z3 x fun g=>m=n∧gsize g=n∧ZI g=true∧A (.rop n g)
 | _ => False
def newT (r0:Nat×List GV) (H:GH) (A:Nat→GH→Prop):Prop:=∀r,(names ((r,r0)::H)).Nodup → A r ((r,r0)::H)
def strPT (h:Option (Nat×List GV)) (r sz n:Nat) (g:GV) (H:GH) (A:GV→GH→Prop):Prop:=
 match h with
 | some (sz',[_])=>sz=n∧sz'=n∧gsize g=n∧ZI g=true∧A (.ptr r n 0 0) (Z1 H r [g])
 | _ => False
def strbT (r x:Option GV) (n:Nat) (H:GH) (A:GV→GH→Prop):Prop:=
 match r with
 | some (.raw m)=>Z3 x fun g=>m=n∧gsize g=n∧ZI g=true∧newT (n,[g]) H fun r H'=>A (.ptr r n 0 0) H'
 | some (.ptr r sz 0 0)=>Z3 x fun g=>strPT (Z6 H r) r sz n g H A
 | _ => False
def mkT' (l c:Option GV) (sz bytes:Nat) (z:GV) (H:GH) (A:GV→GH→Prop):Prop:=
 match l with
 | some (.val (.int _ a))=>match c with
  | some (.val (.int _ b))=>0≤a∧a≤b∧(bytes:Int) * b≤281474976710656∧b≤281474976710656∧newT (sz,List.replicate a.toNat z) H fun r H'=>A (.own r sz 0 a.toNat) H'
  | _ => False
 | _ => False
def sl2T (h:Option Int) (l:Int) (sz sz':Nat) (es:List GV) (A:GV→Prop):Prop:=
 match h with
 | some h=>sz=sz'∧0≤l∧l≤h∧h≤es.length∧A (.sl sz ((es.take h.toNat).drop l.toNat))
 | none=>False
def so2T (h:Option Int) (l:Int) (sz sz' r k n:Nat) (A:GV→Prop):Prop:=
 match h with
 | some h=>sz=sz'∧0≤l∧l≤h∧h≤n∧A (.own r sz (k+l.toNat) (h-l).toNat)
 | none=>False
def ss2T (h:Option Int) (l:Int) (s:ByteArray) (A:GV→Prop):Prop:=
 match h with
 | some h=>0≤l∧l≤h∧h≤(Z9 s).length ∧ A (.val (mkS (((Z9 s).take h.toNat).drop l.toNat)))
 | none=>False
def sliceT (x:Option GV) (lo:Option Int) (hi:Int→Option Int) (sz:Nat) (A:GV→Prop):Prop:=
 match lo with
 | some l=>match x with
  | some (.sl sz' es)=>sl2T (hi es.length) l sz sz' es A
  | some (.own r sz' k n)=>so2T (hi n) l sz sz' r k n A
  | _ => False
 | none=>False
def ssliceT (x:Option GV) (lo:Option Int) (hi:Int→Option Int) (A:GV→Prop):Prop:=
 match lo with
 | some l=>match x with
  | some (.val (.string s))=>ss2T (hi (Z9 s).length) l s A
  | _ => False
 | none=>False
def intT (x:Option GV):Option Int:=
 match x with
 | some (.val (.int _ n))=>some n
 | _ => none
theorem bnd_none (ρ:GE→Option GV) (n:Int):bnd ρ none n=some n:=(rfl)
theorem bnd_some (ρ:GE→Option GV) (e:GE) (n:Int):bnd ρ (some e) n=intT (ρ e):=by
 simp only[bnd,intT]
 cases ρ e with
 | none=>rfl
 | some g=>rfl
theorem int_T (k:IntKind) (n:Int):intT (some (.val (.int k n)))=some n:=(rfl)
end Go.Gh
namespace Go.Gh
section
variable (P:Program) (K:Env→GH→Prop) (is:List GI) (env:Env) (H:GH) (d:Option Nat)
theorem g_guard (t:Nat) (want:Bool) (o:GOp):Z7 P (⟨d,some (t,want),o⟩::is) K env H =
 guardT (ZU env t) t want d env (fun e=>Z7 P (⟨d,none,o⟩::is) K e H) (fun e=>Z7 P is K e H):=by
 simp only[Z7,ZP,ZM,guardT]
 cases hx:ZU env t with
 | none=>rfl
 | some g=>
  cases g<;>try rfl
  rename_i v
  cases v<;>try rfl
  rename_i b
  apply propext
  constructor
  ·rintro ⟨h1,h2⟩
   refine ⟨fun e=> ?_,fun e=> ?_⟩
   ·rw[←e,eset_same hx];exact h1 e
   ·rw[←e,eset_same hx];exact h2 e
  ·rintro ⟨h1,h2⟩
   refine ⟨fun e=> ?_,fun e=> ?_⟩
   ·have:=h1 e;rw[←e,eset_same hx] at this;exact this
   ·have:=h2 e;rw[←e,eset_same hx] at this;exact this
theorem g_pick (c a b:GE):Z7 P (⟨d,none,.pick c a b⟩::is) K env H=pickT (ge env c) (ge env a) (ge env b) fun g=>Z7 P is K (gput env d g) H:=by
 simp only[Z7,ZP,ZM,ZY,Z5,pickT]
 cases ge env c with
 | none=>rfl
 | some g=>
  cases g<;>try rfl
  rename_i v
  cases v<;>rfl
theorem g_load (n:Nat) (ag:Bool) (a:GE):Z7 P (⟨d,none,.load n ag a⟩::is) K env H=loadT (ge env a) n ag H fun g=>Z7 P is K (gput env d g) H:=by
 simp only[Z7,ZP,ZM,ZY,Z5,loadT]
 cases ge env a with
 | none=>rfl
 | some g=>cases g<;>rfl
theorem g_store (n:Nat) (a x:GE):Z7 P (⟨d,none,.store n a x⟩::is) K env H=storeT (ge env a) (ge env x) n H fun H'=>Z7 P is K (gput env d uG) H':=by
 simp only[Z7,ZP,ZM,ZY,Z5,storeT]
 cases ge env a with
 | none=>rfl
 | some g=>
  cases g<;>rfl
theorem g_iaddr (sz:Nat) (x i:GE):Z7 P (⟨d,none,.iaddr sz x i⟩::is) K env H=iaddrT (ge env x) (ge env i) sz fun g=>Z7 P is K (gput env d g) H:=by
 simp only[Z7,ZP,ZM,ZY,Z5,iaddrT]
 cases ge env i with
 | none=>rfl
 | some g=>
  cases g<;>try rfl
  rename_i v
  cases v<;>try rfl
  simp only[Z3]
  cases ge env x with
  | none=>rfl
  | some g=>cases g<;>rfl
theorem g_idx (x i:GE):Z7 P (⟨d,none,.idx x i⟩::is) K env H=idxT (ge env x) (ge env i) fun g=>Z7 P is K (gput env d g) H:=by
 simp only[Z7,ZP,ZM,ZY,Z5,idxT]
 cases ge env i with
 | none=>rfl
 | some g=>
  cases g<;>try rfl
  rename_i v
  cases v<;>try rfl
  simp only[Z3]
  cases ge env x with
  | none=>rfl
  | some g=>
   cases g<;>try rfl
   rename_i v
   cases v<;>rfl
theorem g_box (n:Nat) (x:GE):Z7 P (⟨d,none,.box n x⟩::is) K env H=boxT (ge env x) n fun g=>newT (n,[g]) H fun r H'=>Z7 P is K (gput env d (.ptr r n 0 0)) H':=by
 simp only[Z7,ZP,ZM,ZY,Z5,boxT,newT]
 cases ge env x<;>rfl
theorem g_boxro (n:Nat) (x:GE):Z7 P (⟨d,none,.boxro n x⟩::is) K env H=boxT (ge env x) n fun g=>Z7 P is K (gput env d (.rop n g)) H:=by
 simp only[Z7,ZP,ZM,ZY,Z5,boxT]
 cases ge env x<;>rfl
theorem g_alloc (n:Nat) (z:GV):Z7 P (⟨d,none,.alloc n z⟩::is) K env H=newT (n,[z]) H fun r H'=>Z7 P is K (gput env d (.ptr r n 0 0)) H':=(rfl)
theorem g_stro (n t:Nat) (x:GE):Z7 P (⟨d,none,.stro n t x⟩::is) K env H=stroT (ZU env t) (ge env x) n fun g=>Z7 P is K (gput env d g) H:=by
 simp only[Z7,ZP,ZM,ZY,stroT]
 cases ZU env t with
 | none=>rfl
 | some g=>cases g<;>rfl
theorem g_strb (n t:Nat) (x:GE):Z7 P (⟨d,none,.strb n t x⟩::is) K env H=strbT (ZU env t) (ge env x) n H fun g H'=>Z7 P is K (gput env d g) H':=by
 simp only[Z7,ZP,ZM,ZY,strbT,strPT]
 cases ZU env t with
 | none=>rfl
 | some g=>
  cases g<;>rfl
theorem g_ldx (n:Nat) (ag:Bool) (a b:Nat):Z7 P (⟨d,none,.ldx n ag a b⟩::is) K env H=(rg1 (ZU env a) (ZU env b)∧Z7 P (⟨d,none,.load n ag (.t a)⟩::is) K env H):=(rfl)
theorem g_ldf (n:Nat) (ag:Bool) (a b o:Nat):Z7 P (⟨d,none,.ldf n ag a b o⟩::is) K env H=(rgF (ZU env a) (ZU env b) o∧Z7 P (⟨d,none,.load n ag (.t a)⟩::is) K env H):=(rfl)
def gixT (h:Option (Nat×List GV)) (x:Option GV) (len:Nat) (A:GV→Prop):Prop:=
 match h,x with
 | some (sz,[]),some (.val (.int _ n))=>match (tabW sz)[n.toNat]? with
  | some u=>1000010≤sz∧0≤n∧n<len∧A (.rop 1 (.val (.string u)))
  | none=>False
 | _,_ => False
theorem g_gidx (g len:Nat) (i:GE):Z7 P (⟨d,none,.gidx g len i⟩::is) K env H=gixT (Z6 H (4 * g+3)) (ge env i) len fun x=>Z7 P is K (gput env d x) H:=by
 simp only[Z7,ZP,ZM,ZY,Z5,gixT]
 cases Z6 H (4 * g+3) with
 | none=>
  cases ge env i with
  | none=>rfl
  | some v=>cases v<;>first|rfl|(rename_i v;cases v<;>rfl)
 | some y=>
  obtain ⟨sz,l⟩:=y
  cases l with
  | cons a l=>
   cases ge env i with
   | none=>rfl
   | some v=>cases v<;>first|rfl|(rename_i v;cases v<;>rfl)
  | nil=>
   cases ge env i with
   | none=>rfl
   | some v=>cases v<;>first|rfl|(rename_i v;cases v<;>rfl)
def gslT (h:Option (Nat×List GV)) (len:Nat) (A:GV→Prop):Prop:=
 match h with
 | some (sz,[])=>1000010≤sz∧(tabW sz).length = len∧A (.sl 1 ((tabW sz).map fun u=> .val (.string u)))
 | _ => False
theorem g_gsl (g len:Nat):Z7 P (⟨d,none,.gsl g len⟩::is) K env H=gslT (Z6 H (4 * g+3)) len fun x=>Z7 P is K (gput env d x) H:=(rfl)
theorem g_appx (ks:List Nat) (sz b:Nat) (s x:GE):Z7 P (⟨d,none,.appx ks sz b s x⟩::is) K env H=(nxs env (ge env s) ks∧Z7 P (⟨d,none,.append sz b s x⟩::is) K env H):=(rfl)
theorem g_mkslice (sz bytes:Nat) (z:GV) (l c:GE):Z7 P (⟨d,none,.mkslice sz bytes z l c⟩::is) K env H=mkT' (ge env l) (ge env c) sz bytes z H fun g H'=>Z7 P is K (gput env d g) H':=by
 simp only[Z7,ZP,ZM,ZY,Z5,mkT',newT]
 cases ge env l with
 | none=>rfl
 | some g=>
  cases g<;>try rfl
  rename_i v
  cases v<;>try rfl
  simp only[Z3]
  cases ge env c with
  | none=>rfl
  | some g=>
   cases g<;>try rfl
   rename_i v
   cases v<;>rfl
def bsT (es:Option (List GV)) (sz len:Nat) (H:GH) (A:GV→GH→Prop):Prop:=
 match es with
 | some es=>es.length=len∧newT (sz,es) H fun r H'=>A (.own r sz 0 len) H'
 | none=>False
def litT (sz:Nat) (ag:Bool) (qs:Option (List (Nat×GV))):Option (List GV):=
 match qs with
 | some qs=>Yq sz ag 0 qs
 | none=>none
theorem g_bslice (sz:Nat) (z:List GV) (len:Nat) (ag:Bool) (ps:List (Nat×GE)):Z7 P (⟨d,none,.bslice sz z len ag ps⟩::is) K env H=bsT (litT sz ag (Zn (ge env) ps)) sz len H fun g H'=>Z7 P is K (gput env d g) H':=by
 simp only[Z7,ZP,ZM,ZY,Z5,bsT,litT,newT]
 cases Zn (ge env) ps with
 | none=>rfl
 | some qs=>rfl
def bsrT (es:Option (List GV)) (sz len:Nat) (A:GV→Prop):Prop:=
 match es with
 | some es=>es.length=len∧A (.sl sz es)
 | none=>False
theorem g_bslro (sz:Nat) (z:List GV) (len:Nat) (ag:Bool) (ps:List (Nat×GE)):Z7 P (⟨d,none,.bslro sz z len ag ps⟩::is) K env H=bsrT (litT sz ag (Zn (ge env) ps)) sz len fun g=>Z7 P is K (gput env d g) H:=by
 simp only[Z7,ZP,ZM,ZY,Z5,bsrT,litT]
 cases Zn (ge env) ps with
 | none=>rfl
 | some qs=>rfl
theorem g_slc (sz:Nat) (x:GE) (lo hi:Option GE):Z7 P (⟨d,none,.slc sz x lo hi⟩::is) K env H=sliceT (ge env x) (bnd (ge env) lo 0) (fun n=>bnd (ge env) hi n) sz fun g=>Z7 P is K (gput env d g) H:=by
 simp only[Z7,ZP,ZM,ZY,Z5,sliceT]
 cases ge env x with
 | none=>cases bnd (ge env) lo 0<;>rfl
 | some g=>
  cases g
  all_goals
   simp only[Z3]
   cases bnd (ge env) lo 0<;>try rfl
  all_goals
   dsimp only
   first
    | (rename_i n l;cases bnd (ge env) hi (n:Int)<;>rfl)
    | (rename_i es l;cases bnd (ge env) hi (es.length:Int)<;>rfl)
theorem g_sslc (x:GE) (lo hi:Option GE):Z7 P (⟨d,none,.sslc x lo hi⟩::is) K env H=ssliceT (ge env x) (bnd (ge env) lo 0) (fun n=>bnd (ge env) hi n) fun g=>Z7 P is K (gput env d g) H:=by
 simp only[Z7,ZP,ZM,ZY,Z5,ssliceT]
 cases ge env x with
 | none=>cases bnd (ge env) lo 0<;>rfl
 | some g=>
  cases g
  case val v=>
   cases v
   case string s=>
    simp only[Z3]
    cases bnd (ge env) lo 0<;>try rfl
    dsimp only
    cases bnd (ge env) hi ((Z9 s).length : Int)<;>rfl
   all_goals
    simp only[Z3]
    cases bnd (ge env) lo 0<;>rfl
  all_goals
   simp only[Z3]
   cases bnd (ge env) lo 0<;>rfl
def srcT (sz:Nat) (H:GH) (x:Option GV):Option (List GV):=
 match x with
 | some g=>Y2 sz H g
 | none=>none
def apoT (h:Option (Nat×List GV)) (r sz n bytes:Nat) (fs:List GV) (H:GH) (A:GV→GH→Prop):Prop:=
 match h with
 | some (sz'',es)=>sz=sz''∧n≤es.length∧(n+fs.length) * bytes≤140737488355328∧n+fs.length≤Y9∧newT (sz,es.take n++fs) (ZL H r) fun r' H'=>A (.own r' sz 0 (n+fs.length)) H'
 | none=>False
def appT (s:Option GV) (fs:Option (List GV)) (sz bytes:Nat) (H:GH) (A:GV→GH→Prop):Prop:=
 match fs with
 | some fs=>match s with
  | some (.val (.slice none 0 0))=>fs.length * bytes≤140737488355328∧fs.length≤Y9∧newT (sz,fs) H fun r H'=>A (.own r sz 0 fs.length) H'
  | some (.own r sz' 0 n)=>sz=sz'∧apoT (Z6 H r) r sz n bytes fs H A
  | _ => False
 | none=>False
theorem g_append (sz bytes:Nat) (s x:GE):Z7 P (⟨d,none,.append sz bytes s x⟩::is) K env H=appT (ge env s) (srcT sz H (ge env x)) sz bytes H fun g H'=>Z7 P is K (gput env d g) H':=by
 simp only[Z7,ZP,ZM,ZY,Z5,appT,srcT]
 cases ge env x with
 | none=>rfl
 | some g=>
  simp only[Z3]
  cases Y2 sz H g with
  | none=>rfl
  | some fs=>
   dsimp only
   cases ge env s with
   | none=>rfl
   | some g=>
    cases g<;>try rfl
    ·rename_i v
     cases v<;>try rfl
     rename_i a n c
     cases a<;>cases n<;>cases c<;>rfl
    ·rename_i r sz' k n
     cases k<;>try rfl
     dsimp only
     simp only[apoT,newT]
     cases Z6 H r with
     | none=>simp
     | some x=>rfl
def cpyT (h:Option (Nat×List GV)) (r sz n:Nat) (fs:List GV) (H:GH) (A:GV→GH→Prop):Prop:=
 match h with
 | some (sz'',es)=>sz=sz''∧n≤es.length∧A (.val (.int .i64 (min fs.length n:Nat))) (Z1 H r (fs.take n++es.drop (min fs.length n)))
 | none=>False
def copyT (dd:Option GV) (fs:Option (List GV)) (sz:Nat) (H:GH) (A:GV→GH→Prop):Prop:=
 match fs with
 | some fs=>match dd with
  | some (.own r sz' 0 n)=>sz=sz'∧cpyT (Z6 H r) r sz n fs H A
  | _ => False
 | none=>False
theorem g_copy (sz:Nat) (a x:GE):Z7 P (⟨d,none,.copy sz a x⟩::is) K env H=copyT (ge env a) (srcT sz H (ge env x)) sz H fun g H'=>Z7 P is K (gput env d g) H':=by
 simp only[Z7,ZP,ZM,ZY,Z5,copyT,srcT]
 cases ge env x with
 | none=>rfl
 | some g=>
  simp only[Z3]
  cases Y2 sz H g with
  | none=>rfl
  | some fs=>
   dsimp only
   cases ge env a with
   | none=>rfl
   | some g=>
    cases g<;>try rfl
    rename_i r sz' k n
    cases k<;>try rfl
    dsimp only
    simp only[cpyT]
    cases Z6 H r with
    | none=>simp
    | some x=>rfl
def clrH (h:Option (Nat×List GV)) (r sz k n:Nat) (H:GH) (A:GV→GH→Prop):Prop:=
 match h with
 | some (sz'',es)=>sz=sz''∧k+n≤es.length∧A uG (Z1 H r (es.take k))
 | none=>False
def clrT (x:Option GV) (sz:Nat) (H:GH) (A:GV→GH→Prop):Prop:=
 match x with
 | some (.own r sz' k n)=>sz=sz'∧clrH (Z6 H r) r sz k n H A
 | _ => False
theorem g_clr (sz:Nat) (x:GE):Z7 P (⟨d,none,.clr sz x⟩::is) K env H=clrT (ge env x) sz H fun g H'=>Z7 P is K (gput env d g) H':=by
 simp only[Z7,ZP,ZM,ZY,Z5,clrT]
 cases ge env x with
 | none=>rfl
 | some g=>
  cases g<;>try rfl
  rename_i r sz' k n
  simp only[Z3,clrH]
  cases Z6 H r with
  | none=>simp
  | some x=>rfl
def nilT (x:Option GV) (neg:Bool) (A:GV→Prop):Prop:=
 match x with
 | some (.val (.slice none 0 0))=>A (.val (.bool (!neg)))
 | some (.sl _ es)=>if es.isEmpty then A (.val (.bool true))∧A (.val (.bool false)) else A (.val (.bool neg))
 | some (.own _ _ _ n)=>if n=0 then A (.val (.bool true))∧A (.val (.bool false)) else A (.val (.bool neg))
 | _ => False
theorem g_isnil (neg:Bool) (x:GE):Z7 P (⟨d,none,.isnil neg x⟩::is) K env H=nilT (ge env x) neg fun g=>Z7 P is K (gput env d g) H:=by
 simp only[Z7,ZP,ZM,ZY,Z5,nilT]
 cases ge env x with
 | none=>rfl
 | some g=>
  cases g<;>try rfl
  rename_i v
  cases v<;>try rfl
  rename_i a n c
  cases a<;>cases n<;>cases c<;>rfl
def ifnT (x:Option GV) (neg:Bool) (A:GV→Prop):Prop:=
 match x with
 | some (.val .nilIface)=>A (.val (.bool (!neg)))
 | some (.val (.iface _ _))=>A (.val (.bool neg))
 | _ => False
theorem g_ifnil (neg:Bool) (x:GE):Z7 P (⟨d,none,.ifnil neg x⟩::is) K env H=ifnT (ge env x) neg fun g=>Z7 P is K (gput env d g) H:=by
 simp only[Z7,ZP,ZM,ZY,Z5,ifnT]
 cases ge env x with
 | none=>rfl
 | some g=>
  cases g<;>try rfl
  rename_i v
  cases v<;>rfl
def bytT (fs:Option (List GV)):Option (List UInt8):=match fs with
 | some fs=>Ye fs
 | none=>none
def nstrT (x:Option GV):Bool:=match x with
 | some g=>isStrG g
 | none=>false
def b2sT (l:Option (List UInt8)) (b:Bool) (A:GV→Prop):Prop:=match l with
 | some l=>b=false∧A (.val (mkS l))
 | none=>False
theorem g_b2s (x:GE):Z7 P (⟨d,none,.b2s x⟩::is) K env H=b2sT (bytT (srcT 1 H (ge env x))) (nstrT (ge env x)) fun g=>Z7 P is K (gput env d g) H:=by
 simp only[Z7,ZP,ZM,ZY,Z5,b2sT,bytT,srcT,nstrT]
 cases ge env x with
 | none=>rfl
 | some g=>
  simp only[Z3]
  cases Y2 1 H g with
  | none=>rfl
  | some fs=>
   dsimp only
   cases Ye fs<;>rfl
end
end Go.Gh
namespace Go.Gh
theorem u_ext {q:True→Prop}:(∃h,q h)=q trivial:=propext ⟨fun ⟨_,h⟩=>h,fun h=>⟨trivial,h⟩⟩
def brT (b:Bool) (A B:Prop):Prop:=match b with
 | true=>A
 | false=>B
theorem b_t (A B:Prop):brT true A B=A:=(rfl)
theorem b_f (A B:Prop):brT false A B=B:=(rfl)
theorem b_dec (p:Prop) [Decidable p] (A B:Prop):brT (decide p) A B=((p→A)∧(¬p→B)):=by
 by_cases h:p<;>simp[h,brT]
theorem b_not (b:Bool) (A B:Prop):brT (!b) A B=brT b B A:=by cases b<;>rfl
theorem b_and (a b:Bool) (A B:Prop):brT (a&&b) A B=brT a (brT b A B) B:=by cases a<;>rfl
theorem b_or (a b:Bool) (A B:Prop):brT (a||b) A B=brT a A (brT b A B):=by cases a<;>rfl
theorem Zj (b:Bool) (A B:Prop):brT b A B=((b=true→A)∧(b=false→B)):=by cases b<;>simp[brT]
theorem c_br (b:Bool) (A B:Prop):condT (some (.val (.bool b))) A B=brT b A B:=by cases b<;>simp[condT,brT]
section
variable (H:GH) (A:GV→Prop) (B:GV→GH→Prop)
theorem t_guardt (b:Bool) (t:Nat) (d:Option Nat) (env:Env) (X Y:Env→Prop) :
 guardT (some (.val (.bool b))) t true d env X Y=brT b (X (eset env t (.val (.bool true)))) (Y (gput (eset env t (.val (.bool false))) d uG)):=by
 cases b<;>simp[guardT,brT]
theorem t_guardf (b:Bool) (t:Nat) (d:Option Nat) (env:Env) (X Y:Env→Prop) :
 guardT (some (.val (.bool b))) t false d env X Y=brT b (Y (gput (eset env t (.val (.bool true))) d uG)) (X (eset env t (.val (.bool false)))):=by
 cases b<;>simp[guardT,brT]
theorem t_pick (t:Bool) (a b:Option GV):pickT (some (.val (.bool t))) a b A=brT t (Z3 a A) (Z3 b A):=by
 cases t<;>simp[pickT,brT]
theorem t_with (g:GV):Z3 (some g) A=A g:=(rfl)
theorem t_lrop (sz:Nat) (g:GV) (n:Nat) (ag:Bool):loadT (some (.rop sz g)) n ag H A=(sz=n∧isAgg g=ag∧A g):=(rfl)
theorem t_lptr (r sz i o n:Nat) (ag:Bool):loadT (some (.ptr r sz i o)) n ag H A=ldT (Z6 H r) sz i o n ag A:=(rfl)
def plT (g:Option GV) (A:GV→Prop):Prop:=match g with|some g=>clean g=true∧A g|none=>False
theorem t_pl (g:GV):plT (some g) A=(clean g=true∧A g):=(rfl)
theorem t_store (r sz i o n:Nat) (g:GV) (X:GH→Prop):storeT (some (.ptr r sz i o)) (some g) n H X=stT (Z6 H r) sz i o n g fun es=>X (Z1 H r es):=(rfl)
def psT (g:GV) (n:Nat) (e:Option GV) (X:GV→Prop):Prop:=match e with|some e=>gsize g=n∧ZI g=true∧X e|none=>False
theorem t_ps (g:GV) (n:Nat) (e:GV) (X:GV→Prop):psT g n (some e) X=(gsize g=n∧ZI g=true∧X e):=(rfl)
theorem t_ldf (sz i o n:Nat) (es:List GV) (ag:Bool):ldT (some (sz,es)) sz i o n ag A=∃h:i<es.length,plT (Yd es[i] sz o n ag) A:=by
 simp only[ldT,plT]
 by_cases h:i<es.length
 ·rw[List.getElem?_eq_getElem h]
  simp only[h,exists_true_left]
  cases Yd es[i] sz o n ag<;>simp only[true_and]
 ·rw[List.getElem?_eq_none (by omega)]
  exact propext ⟨False.elim,fun ⟨b,_⟩=>h b⟩
theorem t_stf (sz i o n:Nat) (es:List GV) (g:GV) (X:List GV→Prop):stT (some (sz,es)) sz i o n g X=∃h:i<es.length,psT g n (pstores es[i] sz o n g) fun e=>X (es.set i e):=by
 simp only[stT,psT]
 by_cases h:i<es.length
 ·rw[List.getElem?_eq_getElem h]
  simp only[h,exists_true_left]
  cases pstores es[i] sz o n g<;>simp only[true_and]
 ·rw[List.getElem?_eq_none (by omega)]
  exact propext ⟨False.elim,fun ⟨b,_⟩=>h b⟩
theorem t_ldI (i:Nat) (l:List Int):ldT (some (1,l.map I)) 1 i 0 1 false A=∃h:i<l.length,A (I l[i]):=by
 rw[t_ldf]
 simp[plT,Yd,isAgg,clean]
theorem t_setI (i:Nat) (l:List Int) (v:Int):(l.map I).set i (.val (.int .i64 v))=(l.set i v).map I:=by
 rw[List.map_set]
theorem t_repI (n:Nat) (v:Int):List.replicate n (GV.val (.int .i64 v))=(List.replicate n v).map I:=by simp
theorem t_callv (P:Program) (det:Bool) (f:Nat) (cs gs:List GV) (d:Option Nat) (is:List GI) (K:Env→GH→Prop) (env:Env):callvS P det (some (.clo f cs)) (some gs) d is K env H=callS P det f (some (gs++cs)) d is K env H:=(rfl)
theorem t_callvA (P:Program) (f:Nat) (cs gs:List GV) (d:Option Nat) (is:List GI) (K:Env→GH→Prop) (env:Env):callvA P (some (.clo f cs)) (some gs) d is K env H=callA P f (some (gs++cs)) d is K env H:=(rfl)
theorem t_iaddr (k:IntKind) (n:Int) (sz:Nat) (es:List GV):iaddrT (some (.sl sz es)) (some (.val (.int k n))) sz A=(0≤n∧∃h:n.toNat<es.length,A (.rop sz es[n.toNat])):=by
 simp only[iaddrT]
 by_cases h:n.toNat<es.length
 ·rw[List.getElem?_eq_getElem h]
  simp[h]
 ·rw[List.getElem?_eq_none (by omega)]
  simp[h]
theorem t_iaddro (k:IntKind) (n:Int) (sz r q m:Nat):iaddrT (some (.own r sz q m)) (some (.val (.int k n))) sz A=(0≤n∧n<m∧A (.ptr r sz (q+n.toNat) 0)):=by
 simp only[iaddrT]
 simp
theorem t_idx (k:IntKind) (n:Int) (s:ByteArray):idxT (some (.val (.string s))) (some (.val (.int k n))) A=(0≤n∧∃h:n.toNat<(Z9 s).length,A (.val (.int .u8 ((Z9 s)[n.toNat]).toNat))):=by
 simp only[idxT]
 by_cases h:n.toNat<(Z9 s).length
 ·rw[List.getElem?_eq_getElem h]
  dsimp only
  exact propext ⟨fun ⟨a,b⟩=>⟨a,h,b⟩,fun ⟨a,_,b⟩=>⟨a,b⟩⟩
 ·rw[List.getElem?_eq_none (by omega)]
  dsimp only
  exact propext ⟨False.elim,fun ⟨_,b,_⟩=>h b⟩
theorem t_box (g:GV) (n:Nat):boxT (some g) n A=(ZI g=true∧gsize g=n∧A g):=(rfl)
theorem t_stro (g:GV) (m n:Nat):stroT (some (.raw m)) (some g) n A=(m=n∧gsize g=n∧ZI g=true∧A (.rop n g)):=(rfl)
theorem t_strb (g:GV) (m n:Nat):strbT (some (.raw m)) (some g) n H B=(m=n∧gsize g=n∧ZI g=true∧newT (n,[g]) H fun r H'=>B (.ptr r n 0 0) H'):=(rfl)
theorem t_strp (g:GV) (r sz n:Nat):strbT (some (.ptr r sz 0 0)) (some g) n H B=strPT (Z6 H r) r sz n g H B:=(rfl)
theorem t_strq (g x:GV) (r sz sz' n:Nat):strPT (some (sz',[x])) r sz n g H B=(sz=n∧sz'=n∧gsize g=n∧ZI g=true∧B (.ptr r n 0 0) (Z1 H r [g])):=(rfl)
theorem t_new (sz:Nat) (es:List GV) (X:Nat→GH→Prop):newT (sz,es) H X=∀r,(names ((r,sz,es)::H)).Nodup → X r ((r,sz,es)::H):=(rfl)
theorem t_mk (k k':IntKind) (a b:Int) (sz bytes:Nat) (z:GV):mkT' (some (.val (.int k a))) (some (.val (.int k' b))) sz bytes z H B =
 (0≤a∧a≤b∧(bytes:Int) * b≤281474976710656∧b≤281474976710656∧newT (sz,List.replicate a.toNat z) H fun r H'=>B (.own r sz 0 a.toNat) H'):=(rfl)
theorem t_bs (es:List GV) (sz len:Nat):bsT (some es) sz len H B=(es.length=len∧newT (sz,es) H fun r H'=>B (.own r sz 0 len) H'):=(rfl)
theorem u_rg1 (q z i o r y k n:Nat):rg1 (some (.ptr q z i o)) (some (.ptr r y k n))=(q=r):=(rfl)
theorem u_rg2 (z:Nat) (g:GV) (s:Option GV):rg1 (some (.rop z g)) s=True:=(rfl)
theorem u_rf1 (q z i k r y j m o:Nat):rgF (some (.ptr q z i k)) (some (.ptr r y j m)) o=(q=r∧z=y∧i=j∧k=o):=(rfl)
theorem u_rf2 (z o:Nat) (g:GV) (s:Option GV):rgF (some (.rop z g)) s o=True:=(rfl)
theorem u_nxn (env:Env) (s:Option GV):nxs env s []=True:=(rfl)
theorem u_nxc (env:Env) (s:Option GV) (a:Nat) (l:List Nat):nxs env s (a::l)=(nx1 (ZU env a) s∧nxs env s l):=(rfl)
theorem u_nx1 (q z i o r y k n:Nat):nx1 (some (.ptr q z i o)) (some (.own r y k n))=¬q=r:=(rfl)
theorem u_nx2 (q z i o:Nat) (v:Value):nx1 (some (.ptr q z i o)) (some (.val v))=True:=(rfl)
theorem u_nx3 (z:Nat) (g:GV) (s:Option GV):nx1 (some (.rop z g)) s=True:=(rfl)
theorem t_bsr (es:List GV) (sz len:Nat):bsrT (some es) sz len A=(es.length=len∧A (.sl sz es)):=(rfl)
theorem t_lit (sz:Nat) (ag:Bool) (qs:List (Nat×GV)):litT sz ag (some qs)=Yq sz ag 0 qs:=(rfl)
theorem t_slice (l:Int) (hi:Int→Option Int) (sz sz':Nat) (es:List GV):sliceT (some (.sl sz' es)) (some l) hi sz A=sl2T (hi es.length) l sz sz' es A:=(rfl)
theorem t_sliceo (l:Int) (hi:Int→Option Int) (sz sz' r k n:Nat):sliceT (some (.own r sz' k n)) (some l) hi sz A=so2T (hi n) l sz sz' r k n A:=(rfl)
theorem t_sslice (l:Int) (hi:Int→Option Int) (s:ByteArray):ssliceT (some (.val (.string s))) (some l) hi A=ss2T (hi (Z9 s).length) l s A:=(rfl)
theorem t_sl2 (h l:Int) (sz:Nat) (es:List GV):sl2T (some h) l sz sz es A=(0≤l∧l≤h∧h≤es.length∧A (.sl sz ((es.take h.toNat).drop l.toNat))):=by simp[sl2T]
theorem t_so2 (h l:Int) (sz r k n:Nat):so2T (some h) l sz sz r k n A=(0≤l∧l≤h∧h≤n∧A (.own r sz (k+l.toNat) (h-l).toNat)):=by simp[so2T]
theorem t_ss2 (h l:Int) (s:ByteArray):ss2T (some h) l s A=(0≤l∧l≤h∧h≤(Z9 s).length ∧ A (.val (mkS (((Z9 s).take h.toNat).drop l.toNat)))):=(rfl)
theorem t_src (sz:Nat) (g:GV):srcT sz H (some g)=Y2 sz H g:=(rfl)
theorem t_srcsl (sz:Nat) (es:List GV):Y2 sz H (.sl sz es)=some es:=by simp[Y2]
theorem t_srcnil (sz:Nat):Y2 sz H (.val (.slice none 0 0))=some []:=(rfl)
theorem t_srcstr (s:ByteArray):Y2 1 H (.val (.string s))=some ((Z9 s).map fun b=> .val (.int .u8 b.toNat)):=(rfl)
def soT (h:Option (Nat×List GV)) (sz sz' k n:Nat):Option (List GV):=match h with
 | some (sz'',es)=>if sz=sz'∧sz=sz''∧k+n≤es.length∧Yk ((es.drop k).take n)=true then some ((es.drop k).take n) else none
 | none=>none
theorem t_srcown (sz sz' r k n:Nat):Y2 sz H (.own r sz' k n)=soT (Z6 H r) sz sz' k n:=(rfl)
theorem t_so1 (sz:Nat) (g:GV):soT (some (sz,[g])) sz sz 0 1=if clean g=true then some [g] else none:=by simp[soT,Yk]
theorem t_app0 (fs:List GV) (sz bytes:Nat):appT (some (.val (.slice none 0 0))) (some fs) sz bytes H B =
 (fs.length * bytes≤140737488355328∧fs.length≤Y9∧newT (sz,fs) H fun r H'=>B (.own r sz 0 fs.length) H'):=(rfl)
theorem t_appo (fs:List GV) (r n sz bytes:Nat):appT (some (.own r sz 0 n)) (some fs) sz bytes H B=apoT (Z6 H r) r sz n bytes fs H B:=by simp[appT]
theorem t_apo (es fs:List GV) (r n sz bytes:Nat):apoT (some (sz,es)) r sz n bytes fs H B =
 (n≤es.length∧(n+fs.length) * bytes≤140737488355328∧n+fs.length≤Y9∧newT (sz,es.take n++fs) (ZL H r) fun r' H'=>B (.own r' sz 0 (n+fs.length)) H'):=by simp[apoT]
theorem t_copy (fs:List GV) (r n sz:Nat):copyT (some (.own r sz 0 n)) (some fs) sz H B=cpyT (Z6 H r) r sz n fs H B:=by simp[copyT]
theorem t_cpy (es fs:List GV) (r n sz:Nat):cpyT (some (sz,es)) r sz n fs H B=(n≤es.length∧B (.val (.int .i64 (min fs.length n:Nat))) (Z1 H r (fs.take n++es.drop (min fs.length n)))):=by simp[cpyT]
theorem t_clr (r k n sz:Nat):clrT (some (.own r sz k n)) sz H B=clrH (Z6 H r) r sz k n H B:=by simp[clrT]
theorem t_clrh (es:List GV) (r k n sz:Nat):clrH (some (sz,es)) r sz k n H B=(k+n≤es.length∧B uG (Z1 H r (es.take k))):=by simp[clrH]
end
theorem u_isnil0 (neg:Bool) (A:GV→Prop):nilT (some (.val (.slice none 0 0))) neg A=A (.val (.bool (!neg))):=(rfl)
theorem u_isnils (sz:Nat) (es:List GV) (neg:Bool) (A:GV→Prop):nilT (some (.sl sz es)) neg A=if es.isEmpty then A (.val (.bool true))∧A (.val (.bool false)) else A (.val (.bool neg)):=(rfl)
theorem u_isnilo (r sz k n:Nat) (neg:Bool) (A:GV→Prop):nilT (some (.own r sz k n)) neg A=if n=0 then A (.val (.bool true))∧A (.val (.bool false)) else A (.val (.bool neg)):=(rfl)
theorem u_ifnil0 (neg:Bool) (A:GV→Prop):ifnT (some (.val .nilIface)) neg A=A (.val (.bool (!neg))):=(rfl)
theorem u_ifnil1 (t:TypeId) (v:Value) (neg:Bool) (A:GV→Prop):ifnT (some (.val (.iface t v))) neg A=A (.val (.bool neg)):=(rfl)
theorem u_b2s (l:List UInt8) (A:GV→Prop):b2sT (some l) false A=A (.val (mkS l)):=by simp[b2sT]
theorem u_byt (fs:List GV):bytT (some fs)=Ye fs:=(rfl)
theorem u_byt0:Ye []=some []:=(rfl)
theorem u_byt1 (n:Int) (fs:List GV):Ye (.val (.int .u8 n)::fs)=(Ye fs).map (UInt8.ofNat n.toNat :: ·):=(rfl)
theorem u_nstro (r sz k n:Nat):nstrT (some (.own r sz k n))=false:=(rfl)
theorem u_nstrs (sz:Nat) (es:List GV):nstrT (some (.sl sz es))=false:=(rfl)
theorem u_agg (gs:List GV):isAgg (.agg gs)=true:=(rfl)
theorem u_sl (sz:Nat) (gs:List GV):isAgg (.sl sz gs)=false:=(rfl)
theorem u_own (r sz k n:Nat):isAgg (.own r sz k n)=false:=(rfl)
theorem u_int (k:IntKind) (n:Int):isAgg (.val (.int k n))=false:=(rfl)
theorem u_bool (b:Bool):isAgg (.val (.bool b))=false:=(rfl)
theorem u_str (s:ByteArray):isAgg (.val (.string s))=false:=(rfl)
theorem u_nil (a:Option Addr) (n c:Nat):isAgg (.val (.slice a n c))=false:=(rfl)
theorem u_rop (sz:Nat) (g:GV):isAgg (.rop sz g)=false:=(rfl)
theorem u_ptr (r sz i o:Nat):isAgg (.ptr r sz i o)=false:=(rfl)
theorem u_clo (f:Nat) (gs:List GV):isAgg (.clo f gs)=false:=(rfl)
theorem p_ld (e:GV) (sz o n:Nat) (ag:Bool):Yd e sz o n ag=if o=0∧n=sz∧isAgg e=ag then some e else if o=0∧n=1∧sz=1∧ag=true∧isAgg e=false then some (.agg [e]) else sub e o n ag:=(rfl)
theorem p_st (e:GV) (sz o n:Nat) (x:GV):pstores e sz o n x=if o=0∧n=sz then some x else upd e o x:=(rfl)
theorem p_sub1 (gs:List GV) (o:Nat):sub (.agg gs) o 1 false=gs[o]? := (rfl)
theorem p_suba (gs:List GV) (o n:Nat):sub (.agg gs) o n true=if o+n≤gs.length then some (.agg ((gs.drop o).take n)) else none:=(rfl)
theorem p_upda (gs xs:List GV) (o:Nat):upd (.agg gs) o (.agg xs)=if o+xs.length≤gs.length then some (.agg (gs.take o++(xs++gs.drop (o+xs.length)))) else none:=(rfl)
theorem p_updi (gs:List GV) (o:Nat) (k:IntKind) (n:Int):upd (.agg gs) o (.val (.int k n))=if o<gs.length then some (.agg (gs.set o (.val (.int k n)))) else none:=(rfl)
theorem p_updb (gs:List GV) (o:Nat) (b:Bool):upd (.agg gs) o (.val (.bool b))=if o<gs.length then some (.agg (gs.set o (.val (.bool b)))) else none:=(rfl)
theorem p_upds (gs:List GV) (o:Nat) (s:ByteArray):upd (.agg gs) o (.val (.string s))=if o<gs.length then some (.agg (gs.set o (.val (.string s)))) else none:=(rfl)
theorem p_updn (gs:List GV) (o:Nat) (a:Option Addr) (n c:Nat):upd (.agg gs) o (.val (.slice a n c))=if o<gs.length then some (.agg (gs.set o (.val (.slice a n c)))) else none:=(rfl)
theorem p_updl (gs:List GV) (o sz:Nat) (es:List GV):upd (.agg gs) o (.sl sz es)=if o<gs.length then some (.agg (gs.set o (.sl sz es))) else none:=(rfl)
theorem p_updo (gs:List GV) (o r sz k n:Nat):upd (.agg gs) o (.own r sz k n)=if o<gs.length then some (.agg (gs.set o (.own r sz k n))) else none:=(rfl)
theorem p_updp (gs:List GV) (o r sz k n:Nat):upd (.agg gs) o (.ptr r sz k n)=if o<gs.length then some (.agg (gs.set o (.ptr r sz k n))) else none:=(rfl)
theorem p_updr (gs:List GV) (o sz:Nat) (g:GV):upd (.agg gs) o (.rop sz g)=if o<gs.length then some (.agg (gs.set o (.rop sz g))) else none:=(rfl)
theorem p_updc (gs:List GV) (o f:Nat) (cs:List GV):upd (.agg gs) o (.clo f cs)=if o<gs.length then some (.agg (gs.set o (.clo f cs))) else none:=(rfl)
theorem p_fill0 (gs:List GV):fillG gs []=some gs:=by simp[fillG]
def fillT (g:Option GV) (c:Bool) (ps:List (Nat×Nat×GV)):Option (List GV):=match g with
 | some (.agg gs)=>if c then fillG gs ps else none
 | _ => none
theorem p_fill (gs:List GV) (off n:Nat) (g:GV) (ps:List (Nat×Nat×GV)):fillG gs ((off,n,g)::ps)=fillT (upd (.agg gs) off g) (decide (gsize g=n∧ZI g=true)) ps:=by
 simp only[fillG,fillT]
 cases upd (.agg gs) off g with
 | none=>rfl
 | some g'=>cases g'<;>simp
theorem p_fillT (gs:List GV) (ps:List (Nat×Nat×GV)):fillT (some (.agg gs)) true ps=fillG gs ps:=by simp[fillT]
theorem p_ceqL0:YL [] [] []=some true:=(rfl)
def andO (a b:Option Bool):Option Bool:=match a,b with|some x,some y=>some (x&&y) | _,_ => none
theorem p_ceqL (k:Nat) (ks:List Nat) (a:GV) (as:List GV) (b:GV) (bs:List GV):YL (k::ks) (a::as) (b::bs)=andO (ceq k a b) (YL ks as bs):=(rfl)
theorem p_andO (x y:Bool):andO (some x) (some y)=some (x&&y):=(rfl)
theorem p_ceq1 (k:IntKind) (a b:Int):ceq 1 (.val (.int k a)) (.val (.int k b))=some (decide (a=b)):=by simp[ceq]
theorem p_ceq2 (s t:ByteArray):ceq 2 (.val (.string s)) (.val (.string t))=some (decide (Z9 s=Z9 t)):=(rfl)
theorem p_ceq0 (s t:Bool):ceq 0 (.val (.bool s)) (.val (.bool t))=some (decide (s=t)):=(rfl)
theorem p_ip0 (ρ:GE→Option GV):Zn ρ []=some []:=(rfl)
def ipR (a:Nat):Option GV→Option (List (Nat×GV))→Option (List (Nat×GV))
 | some g,some gs=>some ((a,g)::gs)
 | _,_ => none
theorem p_ip (ρ:GE→Option GV) (a:Nat) (x:GE) (xs:List (Nat×GE)):Zn ρ ((a,x)::xs)=ipR a (ρ x) (Zn ρ xs):=by
 simp only[Zn]
 cases ρ x<;>cases Zn ρ xs<;>rfl
theorem p_ipR (a:Nat) (g:GV) (gs:List (Nat×GV)):ipR a (some g) (some gs)=some ((a,g)::gs):=(rfl)
theorem p_lit0 (sz:Nat) (ag:Bool) (i:Nat):Yq sz ag i []=some []:=(rfl)
theorem p_lit (sz:Nat) (ag:Bool) (i:Nat) (g:GV) (ps:List (Nat×GV)):Yq sz ag i ((i,g)::ps)=if gsize g=sz∧isAgg g=ag∧ZI g=true then (Yq sz ag (i+1) ps).map (g :: ·) else none:=by
 simp[Yq]
theorem p_cl0:Yk []=true:=(rfl)
theorem p_cl (g:GV) (gs:List GV):Yk (g::gs)=(clean g&&Yk gs):=(rfl)
theorem p_clv (v:Value):clean (.val v)=true:=(rfl)
theorem p_clsl (sz:Nat) (es:List GV):clean (.sl sz es)=true:=(rfl)
theorem p_clown (r sz k n:Nat):clean (.own r sz k n)=true:=(rfl)
theorem p_clptr (r sz k n:Nat):clean (.ptr r sz k n)=true:=(rfl)
theorem p_clrop (sz:Nat) (g:GV):clean (.rop sz g)=true:=(rfl)
theorem p_clclo (f:Nat) (cs:List GV):clean (.clo f cs)=true:=(rfl)
theorem p_clagg (gs:List GV):clean (.agg gs)=Yk gs:=(rfl)
section
variable {P:Program} {cf:Cfg} {gc:GC} {Q:Exit→Env→GH→Prop} {K:Env→GH→Prop} {is:List GI} {env env':Env} {H H':GH} {d:Option Nat}
@[congr] theorem y_gwp (h:env=env') (k:H=H'):gwp P cf gc Q env H=gwp P cf gc Q env' H':=by rw[h,k]
@[congr] theorem y_GW (h:env=env') (k:H=H'):GW P cf gc Q env H=GW P cf gc Q env' H':=by rw[h,k]
@[congr] theorem y_gsteps (h:env=env') (k:H=H'):Z7 P is K env H=Z7 P is K env' H':=by rw[h,k]
@[congr] theorem y_valS {r r':Option GV} (h:r=r'):valS P r d is K env H=valS P r' d is K env H:=by rw[h]
@[congr] theorem y_callS {det:Bool} {f:Nat} {gs gs':Option (List GV)} (h:gs=gs'):callS P det f gs d is K env H=callS P det f gs' d is K env H:=by rw[h]
@[congr] theorem y_callvS {det:Bool} {x x':Option GV} {gs gs':Option (List GV)} (k:x=x') (h:gs=gs'):callvS P det x gs d is K env H=callvS P det x' gs' d is K env H:=by rw[h,k]
@[congr] theorem y_callK {ks:List Nat} {f:Nat} {gs gs':Option (List GV)} (h:gs=gs'):callK P ks f gs d is K env H=callK P ks f gs' d is K env H:=by rw[h]
@[congr] theorem y_callF {b o f:Nat} {gs gs':Option (List GV)} (h:gs=gs'):callF P b o f gs d is K env H=callF P b o f gs' d is K env H:=by rw[h]
@[congr] theorem y_callA {f:Nat} {gs gs':Option (List GV)} (h:gs=gs'):callA P f gs d is K env H=callA P f gs' d is K env H:=by rw[h]
@[congr] theorem y_callvA {x x':Option GV} {gs gs':Option (List GV)} (k:x=x') (h:gs=gs'):callvA P x gs d is K env H=callvA P x' gs' d is K env H:=by rw[h,k]
@[congr] theorem y_stopS {o:GOp}:stopS P o d is K env H=stopS P o d is K env H:=rfl
@[congr] theorem y_brT {b b':Bool} {A B:Prop} (h:b=b'):brT b A B=brT b' A B:=by rw[h]
@[congr] theorem y_condT {x x':Option GV} {A B:Prop} (h:x=x'):condT x A B=condT x' A B:=by rw[h]
@[congr] theorem y_guardT {x x':Option GV} {t:Nat} {w:Bool} {A B:Env→Prop} (h:x=x'):guardT x t w d env A B=guardT x' t w d env A B:=by rw[h]
variable {A:GV→Prop} {B:GV→GH→Prop} {x x' y y' z z':Option GV}
@[congr] theorem y_pickT (h:x=x') (k:y=y') (l:z=z'):pickT x y z A=pickT x' y' z' A:=by rw[h,k,l]
@[congr] theorem y_withG (h:x=x'):Z3 x A=Z3 x' A:=by rw[h]
@[congr] theorem y_loadT {n:Nat} {ag:Bool} (h:x=x'):loadT x n ag H A=loadT x' n ag H A:=by rw[h]
@[congr] theorem y_ldT {u u':Option (Nat×List GV)} {sz i o n:Nat} {ag:Bool} (h:u=u'):ldT u sz i o n ag A=ldT u' sz i o n ag A:=by rw[h]
@[congr] theorem y_plT (h:x=x'):plT x A=plT x' A:=by rw[h]
@[congr] theorem y_storeT {n:Nat} {C:GH→Prop} (h:x=x') (k:y=y'):storeT x y n H C=storeT x' y' n H C:=by rw[h,k]
@[congr] theorem y_stT {u u':Option (Nat×List GV)} {sz i o n:Nat} {g:GV} {C:List GV→Prop} (h:u=u'):stT u sz i o n g C=stT u' sz i o n g C:=by rw[h]
@[congr] theorem y_psT {g:GV} {n:Nat} (h:x=x'):psT g n x A=psT g n x' A:=by rw[h]
@[congr] theorem y_iaddrT {sz:Nat} (h:x=x') (k:y=y'):iaddrT x y sz A=iaddrT x' y' sz A:=by rw[h,k]
@[congr] theorem y_idxT (h:x=x') (k:y=y'):idxT x y A=idxT x' y' A:=by rw[h,k]
@[congr] theorem y_boxT {n:Nat} (h:x=x'):boxT x n A=boxT x' n A:=by rw[h]
@[congr] theorem y_stroT {n:Nat} (h:x=x') (k:y=y'):stroT x y n A=stroT x' y' n A:=by rw[h,k]
@[congr] theorem y_strbT {n:Nat} (h:x=x') (k:y=y'):strbT x y n H B=strbT x' y' n H B:=by rw[h,k]
@[congr] theorem y_newT {u:Nat×List GV} {C:Nat→GH→Prop}:newT u H C=newT u H C:=rfl
@[congr] theorem y_mkT {sz b:Nat} {g:GV} (h:x=x') (k:y=y'):mkT' x y sz b g H B=mkT' x' y' sz b g H B:=by rw[h,k]
@[congr] theorem y_strPT {u u':Option (Nat×List GV)} {r sz n:Nat} {g:GV} (h:u=u'):strPT u r sz n g H B=strPT u' r sz n g H B:=by rw[h]
@[congr] theorem y_bsrT {es es':Option (List GV)} {sz len:Nat} (h:es=es'):bsrT es sz len A=bsrT es' sz len A:=by rw[h]
@[congr] theorem y_bsT {es es':Option (List GV)} {sz len:Nat} (h:es=es'):bsT es sz len H B=bsT es' sz len H B:=by rw[h]
@[congr] theorem y_sliceT {lo lo':Option Int} {hi:Int→Option Int} {sz:Nat} (h:x=x') (k:lo=lo'):sliceT x lo hi sz A=sliceT x' lo' hi sz A:=by rw[h,k]
@[congr] theorem y_sl2T {u u':Option Int} {l:Int} {sz sz':Nat} {es:List GV} (h:u=u'):sl2T u l sz sz' es A=sl2T u' l sz sz' es A:=by rw[h]
@[congr] theorem y_so2T {u u':Option Int} {l:Int} {sz sz' r k n:Nat} (h:u=u'):so2T u l sz sz' r k n A=so2T u' l sz sz' r k n A:=by rw[h]
@[congr] theorem y_ssliceT {lo lo':Option Int} {hi:Int→Option Int} (h:x=x') (k:lo=lo'):ssliceT x lo hi A=ssliceT x' lo' hi A:=by rw[h,k]
@[congr] theorem y_ss2T {u u':Option Int} {l:Int} {s:ByteArray} (h:u=u'):ss2T u l s A=ss2T u' l s A:=by rw[h]
@[congr] theorem y_apoT {u u':Option (Nat×List GV)} {r sz n b:Nat} {fs:List GV} (h:u=u'):apoT u r sz n b fs H B=apoT u' r sz n b fs H B:=by rw[h]
@[congr] theorem y_appT {fs fs':Option (List GV)} {sz b:Nat} (h:x=x') (k:fs=fs'):appT x fs sz b H B=appT x' fs' sz b H B:=by rw[h,k]
@[congr] theorem y_cpyT {u u':Option (Nat×List GV)} {r sz n:Nat} {fs:List GV} (h:u=u'):cpyT u r sz n fs H B=cpyT u' r sz n fs H B:=by rw[h]
@[congr] theorem y_copyT {fs fs':Option (List GV)} {sz:Nat} (h:x=x') (k:fs=fs'):copyT x fs sz H B=copyT x' fs' sz H B:=by rw[h,k]
@[congr] theorem y_clrH {u u':Option (Nat×List GV)} {r sz k n:Nat} (h:u=u'):clrH u r sz k n H B=clrH u' r sz k n H B:=by rw[h]
@[congr] theorem y_clrT {sz:Nat} (h:x=x'):clrT x sz H B=clrT x' sz H B:=by rw[h]
@[congr] theorem y_resT {gs gs':Option (List GV)} (h:gs=gs'):resT gs B H=resT gs' B H:=by rw[h]
@[congr] theorem y_Nx {ι:Type} {E:ι→Env} {G:ι→GH} {μ:ι→Nat} {i:ι} (h:env=env') (k:H=H'):Nx E G μ i env H=Nx E G μ i env' H':=by rw[h,k]
end
def andI (j:IntKind) (a b:Int):Int:=j.wrap (BitVec.ofInt j.bits a &&& BitVec.ofInt j.bits b).toNat
def orI (j:IntKind) (a b:Int):Int:=j.wrap (BitVec.ofInt j.bits a ||| BitVec.ofInt j.bits b).toNat
def xorI (j:IntKind) (a b:Int):Int:=j.wrap (BitVec.ofInt j.bits a ^^^ BitVec.ofInt j.bits b).toNat
def andNotI (j:IntKind) (a b:Int):Int:=j.wrap (BitVec.ofInt j.bits a &&& ~~~(BitVec.ofInt j.bits b)).toNat
def shlI (j:IntKind) (a b:Int):Int:=j.wrap (a * 2 ^ (min b.toNat j.bits))
def shrI (j:IntKind) (a b:Int):Int:=a.fdiv (2 ^ (min b.toNat j.bits))
def rSh (f:IntKind→Int→Int→Value) (x y:Option GV):Option GV:=
 match x,y with
 | some (.val (.int j a)),some (.val (.int _ b))=>if 0≤b then some (.val (f j a b)) else none
 | _,_ => none
theorem r_sh (f:IntKind→Int→Int→Value) (j j':IntKind) (a b:Int):rSh f (some (.val (.int j a))) (some (.val (.int j' b)))=if 0≤b then some (.val (f j a b)) else none:=by simp[rSh]
section
variable (P:Program) (K:Env→GH→Prop) (is:List GI) (env:Env) (H:GH) (d:Option Nat)
theorem q_and (x y:GE):Z7 P (⟨d,none,.bin .and x y⟩::is) K env H=valS P (rInt (fun j a b=> .int j (andI j a b)) (ge env x) (ge env y)) d is K env H:=
 int_eq P K is env H d rfl rfl (fun _ _ _ _ _ => rfl) (fun v u k h=>by cases v<;>cases u<;>simp_all [Yz])
theorem q_or (x y:GE):Z7 P (⟨d,none,.bin .or x y⟩::is) K env H=valS P (rInt (fun j a b=> .int j (orI j a b)) (ge env x) (ge env y)) d is K env H:=
 int_eq P K is env H d rfl rfl (fun _ _ _ _ _ => rfl) (fun v u k h=>by cases v<;>cases u<;>simp_all [Yz])
theorem q_xor (x y:GE):Z7 P (⟨d,none,.bin .xor x y⟩::is) K env H=valS P (rInt (fun j a b=> .int j (xorI j a b)) (ge env x) (ge env y)) d is K env H:=
 int_eq P K is env H d rfl rfl (fun _ _ _ _ _ => rfl) (fun v u k h=>by cases v<;>cases u<;>simp_all [Yz])
theorem q_andNot (x y:GE):Z7 P (⟨d,none,.bin .andNot x y⟩::is) K env H=valS P (rInt (fun j a b=> .int j (andNotI j a b)) (ge env x) (ge env y)) d is K env H:=
 int_eq P K is env H d rfl rfl (fun _ _ _ _ _ => rfl) (fun v u k h=>by cases v<;>cases u<;>simp_all [Yz])
theorem q_shl (x y:GE):Z7 P (⟨d,none,.bin .shl x y⟩::is) K env H=valS P (rSh (fun j a b=> .int j (shlI j a b)) (ge env x) (ge env y)) d is K env H:=by
 simp only[Z7,ZP,ZM,ZY,Z5,valS,rSh,Z3,isShift,if_true]
 cases ge env x with
 | none=>rfl
 | some g=>
  cases g<;>try rfl
  rename_i v
  cases ge env y with
  | none=>cases v<;>rfl
  | some g'=>
   cases g'<;>try (cases v<;>rfl)
   rename_i u
   cases v<;>cases u<;>try rfl
   rename_i j a j' b
   simp only[shiftV]
   by_cases hb:0≤b<;>simp[hb,gput,shlI]
theorem q_shr (x y:GE):Z7 P (⟨d,none,.bin .shr x y⟩::is) K env H=valS P (rSh (fun j a b=> .int j (shrI j a b)) (ge env x) (ge env y)) d is K env H:=by
 simp only[Z7,ZP,ZM,ZY,Z5,valS,rSh,Z3,isShift,if_true]
 cases ge env x with
 | none=>rfl
 | some g=>
  cases g<;>try rfl
  rename_i v
  cases ge env y with
  | none=>cases v<;>rfl
  | some g'=>
   cases g'<;>try (cases v<;>rfl)
   rename_i u
   cases v<;>cases u<;>try rfl
   rename_i j a j' b
   simp only[shiftV]
   by_cases hb:0≤b<;>simp[hb,gput,shrI]
end
theorem g_unset (t:Nat) (w:Bool) (d:Option Nat) (env:Env) (X Y:Env→Prop):guardT (some uG) t w d env X Y=Y (gput env d uG):=(rfl)
end Go.Gh
namespace Go.Gh
set_option maxRecDepth 100000 in
theorem S2:type_of% (And.intro @implies_true.{0} (And.intro @YU (And.intro @Z0 (And.intro @hdel_new (And.intro @x_env_1 (And.intro @x_env_2 (And.intro @x_env_3 (And.intro @x_env_4 (And.intro @x_env_5 (And.intro @x_env_6 (And.intro @x_env_7 (And.intro @v_some (And.intro @q_nil (And.intro @q_mov (And.intro @q_call (And.intro @q_callv (And.intro @q_calla (And.intro @q_callk (And.intro @q_callf (And.intro @q_callva (And.intro @q_allocr (And.intro @q_aidx (And.intro @q_loadr (And.intro @q_build (And.intro @q_sub (And.intro @q_mul (And.intro @q_leq (And.intro @q_gtr (And.intro @q_geq (And.intro @q_eql (And.intro @q_neq (And.intro @q_lss (And.intro @q_add (And.intro @q_quo (And.intro @q_rem (And.intro @q_beq (And.intro @q_aeq (And.intro @q_not (And.intro @q_neg (And.intro @q_conv (And.intro @q_mkfn (And.intro @q_faddr (And.intro @q_field (And.intro @q_ext (And.intro @q_len (And.intro @q_slen (And.intro @q_mx (And.intro @q_mn (And.intro @q_nck (And.intro @r_int (And.intro @r_add (And.intro @r_sadd (And.intro @r_cmp (And.intro @r_scmp (And.intro @r_div (And.intro @r_beq (And.intro @r_aeq (And.intro @r_not (And.intro @r_neg (And.intro @r_conv (And.intro @r_faddr (And.intro @r_faddrp (And.intro @r_field (And.intro @r_ext (And.intro @r_len (And.intro @r_leno (And.intro @r_len0 (And.intro @r_slen (And.intro @r_nckr (And.intro @r_nckp (And.intro @r_nckc (And.intro @r_load (And.intro @r_build (And.intro @r_fn (And.intro @x_get0 (And.intro @x_get (And.intro @x_set0 (And.intro @x_set (And.intro @x_put (And.intro @x_put0 (And.intro @x_gt (And.intro @x_gk (And.intro @x_val (And.intro @x_sl (And.intro @x_agg (And.intro @x_rop (And.intro @x_ptr (And.intro @x_own (And.intro @x_clo (And.intro @x_tup (And.intro @x_all0 (And.intro @x_all (And.intro @x_allR (And.intro @x_env0 (And.intro @x_then (And.intro @x_thenr (And.intro @x_thenx (And.intro @x_blk (And.intro @x_blkr (And.intro @x_blkx (And.intro @x_prt0 (And.intro @x_prt (And.intro @x_prtR (And.intro @Bool.not_true (And.intro @Bool.not_false (And.intro @Nat.zero_add (And.intro @k_ret (And.intro @k_nor (And.intro @k_res (And.intro @k_l0 (And.intro @k_l (And.intro @k_t (And.intro @k_p1 (And.intro @k_p0 (And.intro @k_p2 (And.intro @k_c (And.intro @k_crop (And.intro @k_cptr (And.intro @k_p (And.intro @k_q (And.intro @c_skip (And.intro @c_reg (And.intro @c_seq (And.intro @c_cond (And.intro @c_block (And.intro @c_loop (And.intro @c_exit (And.intro @c_ret (And.intro @g_guard (And.intro @g_pick (And.intro @g_load (And.intro @g_store (And.intro @g_iaddr (And.intro @g_idx (And.intro @g_box (And.intro @g_boxro (And.intro @g_alloc (And.intro @g_stro (And.intro @g_strb (And.intro @g_ldx (And.intro @g_ldf (And.intro @g_gidx (And.intro @g_gsl (And.intro @g_appx (And.intro @g_mkslice (And.intro @g_bslice (And.intro @g_bslro (And.intro @g_slc (And.intro @g_sslc (And.intro @g_append (And.intro @g_copy (And.intro @g_clr (And.intro @g_isnil (And.intro @g_ifnil (And.intro @g_b2s (And.intro @u_ext (And.intro @b_t (And.intro @b_f (And.intro @b_dec (And.intro @b_not (And.intro @b_and (And.intro @b_or (And.intro @c_br (And.intro @t_guardt (And.intro @t_guardf (And.intro @t_pick (And.intro @t_with (And.intro @t_lrop (And.intro @t_lptr (And.intro @t_pl (And.intro @t_store (And.intro @t_ps (And.intro @t_ldf (And.intro @t_stf (And.intro @t_ldI (And.intro @t_setI (And.intro @t_repI (And.intro @t_callv (And.intro @t_callvA (And.intro @t_iaddr (And.intro @t_iaddro (And.intro @t_idx (And.intro @t_box (And.intro @t_stro (And.intro @t_strb (And.intro @t_strp (And.intro @t_strq (And.intro @t_new (And.intro @t_mk (And.intro @t_bs (And.intro @u_rg1 (And.intro @u_rg2 (And.intro @u_rf1 (And.intro @u_rf2 (And.intro @u_nxn (And.intro @u_nxc (And.intro @u_nx1 (And.intro @u_nx2 (And.intro @u_nx3 (And.intro @t_bsr (And.intro @t_lit (And.intro @t_slice (And.intro @t_sliceo (And.intro @t_sslice (And.intro @t_sl2 (And.intro @t_so2 (And.intro @t_ss2 (And.intro @t_src (And.intro @t_srcsl (And.intro @t_srcnil (And.intro @t_srcstr (And.intro @t_srcown (And.intro @t_so1 (And.intro @t_app0 (And.intro @t_appo (And.intro @t_apo (And.intro @t_copy (And.intro @t_cpy (And.intro @t_clr (And.intro @t_clrh (And.intro @u_isnil0 (And.intro @u_isnils (And.intro @u_isnilo (And.intro @u_ifnil0 (And.intro @u_ifnil1 (And.intro @u_b2s (And.intro @u_byt (And.intro @u_byt0 (And.intro @u_byt1 (And.intro @u_nstro (And.intro @u_nstrs (And.intro @u_agg (And.intro @u_sl (And.intro @u_own (And.intro @u_int (And.intro @u_bool (And.intro @u_str (And.intro @u_nil (And.intro @u_rop (And.intro @u_ptr (And.intro @u_clo (And.intro @p_ld (And.intro @p_st (And.intro @p_sub1 (And.intro @p_suba (And.intro @p_upda (And.intro @p_updi (And.intro @p_updb (And.intro @p_upds (And.intro @p_updn (And.intro @p_updl (And.intro @p_updo (And.intro @p_updp (And.intro @p_updr (And.intro @p_updc (And.intro @p_fill0 (And.intro @p_fill (And.intro @p_fillT (And.intro @p_ceqL0 (And.intro @p_ceqL (And.intro @p_andO (And.intro @p_ceq1 (And.intro @p_ceq2 (And.intro @p_ceq0 (And.intro @p_ip0 (And.intro @p_ip (And.intro @p_ipR (And.intro @p_lit0 (And.intro @p_lit (And.intro @p_cl0 (And.intro @p_cl (And.intro @p_clv (And.intro @p_clsl (And.intro @p_clown (And.intro @p_clptr (And.intro @p_clrop (And.intro @p_clclo (And.intro @p_clagg (And.intro @r_sh (And.intro @q_and (And.intro @q_or (And.intro @q_xor (And.intro @q_andNot (And.intro @q_shl (And.intro @q_shr (And.intro @g_unset (And.intro @bnd_none (And.intro @bnd_some (And.intro @int_T (And.intro @storable_int (And.intro @storable_bool (And.intro @storable_str (And.intro @storable_nil (And.intro @storable_sl (And.intro @storable_agg (And.intro @storable_own (And.intro @storable_clo (And.intro @storable_ptr (And.intro @storable_rop (And.intro @gsize_int (And.intro @gsize_bool (And.intro @gsize_str (And.intro @gsize_nil (And.intro @gsize_sl (And.intro @gsize_own (And.intro @gsize_agg (And.intro @List.length_cons.{0} (And.intro @List.length_nil.{0} (And.intro @List.getElem?_cons_zero.{0} (And.intro @List.getElem?_cons_succ.{0} (And.intro @List.set_cons_zero.{0} (And.intro @List.set_cons_succ.{0} (And.intro @List.take_succ_cons.{0} (And.intro @List.take_zero.{0} (And.intro @List.drop_succ_cons.{0} (And.intro @List.drop_zero.{0} (And.intro @List.cons_append.{0} (And.intro @List.nil_append.{0} (And.intro @List.append_nil.{0} (And.intro @List.getElem_map.{0,0} (And.intro @List.length_map.{0,0} (And.intro @List.map_nil.{0,0} (And.intro @List.map_cons.{0,0} (And.intro @Int.toNat_natCast (And.intro @Option.map_some.{0,0} (And.intro @and_true (And.intro @true_and (And.intro @and_false (And.intro @false_and (And.intro @Bool.not_eq_true' (And.intro @Bool.not_eq_false' (And.intro @decide_eq_true_eq (And.intro @decide_eq_false_iff_not (And.intro @Bool.and_true (And.intro @Bool.true_and (And.intro @Bool.not_not (And.intro @List.getElem_cons_zero.{0} (And.intro @decide_true (And.intro @decide_false (And.intro @Nat.add_zero (And.intro @true_implies (And.intro @false_implies (And.intro @implies_true.{1} (And.intro @Bool.true_eq_false @Bool.false_eq_true)))))))))))))))))))))))))))))))))))))))))))))))))))))))))))))))))))))))))))))))))))))))))))))))))))))))))))))))))))))))))))))))))))))))))))))))))))))))))))))))))))))))))))))))))))))))))))))))))))))))))))))))))))))))))))))))))))))))))))))))))))))))))))))))))))))))))))))))))))))))))))))))))))))))))))))))))))))))))))))))))))))))))))))))))))))))):=
 (And.intro @implies_true.{0} (And.intro @YU (And.intro @Z0 (And.intro @hdel_new (And.intro @x_env_1 (And.intro @x_env_2 (And.intro @x_env_3 (And.intro @x_env_4 (And.intro @x_env_5 (And.intro @x_env_6 (And.intro @x_env_7 (And.intro @v_some (And.intro @q_nil (And.intro @q_mov (And.intro @q_call (And.intro @q_callv (And.intro @q_calla (And.intro @q_callk (And.intro @q_callf (And.intro @q_callva (And.intro @q_allocr (And.intro @q_aidx (And.intro @q_loadr (And.intro @q_build (And.intro @q_sub (And.intro @q_mul (And.intro @q_leq (And.intro @q_gtr (And.intro @q_geq (And.intro @q_eql (And.intro @q_neq (And.intro @q_lss (And.intro @q_add (And.intro @q_quo (And.intro @q_rem (And.intro @q_beq (And.intro @q_aeq (And.intro @q_not (And.intro @q_neg (And.intro @q_conv (And.intro @q_mkfn (And.intro @q_faddr (And.intro @q_field (And.intro @q_ext (And.intro @q_len (And.intro @q_slen (And.intro @q_mx (And.intro @q_mn (And.intro @q_nck (And.intro @r_int (And.intro @r_add (And.intro @r_sadd (And.intro @r_cmp (And.intro @r_scmp (And.intro @r_div (And.intro @r_beq (And.intro @r_aeq (And.intro @r_not (And.intro @r_neg (And.intro @r_conv (And.intro @r_faddr (And.intro @r_faddrp (And.intro @r_field (And.intro @r_ext (And.intro @r_len (And.intro @r_leno (And.intro @r_len0 (And.intro @r_slen (And.intro @r_nckr (And.intro @r_nckp (And.intro @r_nckc (And.intro @r_load (And.intro @r_build (And.intro @r_fn (And.intro @x_get0 (And.intro @x_get (And.intro @x_set0 (And.intro @x_set (And.intro @x_put (And.intro @x_put0 (And.intro @x_gt (And.intro @x_gk (And.intro @x_val (And.intro @x_sl (And.intro @x_agg (And.intro @x_rop (And.intro @x_ptr (And.intro @x_own (And.intro @x_clo (And.intro @x_tup (And.intro @x_all0 (And.intro @x_all (And.intro @x_allR (And.intro @x_env0 (And.intro @x_then (And.intro @x_thenr (And.intro @x_thenx (And.intro @x_blk (And.intro @x_blkr (And.intro @x_blkx (And.intro @x_prt0 (And.intro @x_prt (And.intro @x_prtR (And.intro @Bool.not_true (And.intro @Bool.not_false (And.intro @Nat.zero_add (And.intro @k_ret (And.intro @k_nor (And.intro @k_res (And.intro @k_l0 (And.intro @k_l (And.intro @k_t (And.intro @k_p1 (And.intro @k_p0 (And.intro @k_p2 (And.intro @k_c (And.intro @k_crop (And.intro @k_cptr (And.intro @k_p (And.intro @k_q (And.intro @c_skip (And.intro @c_reg (And.intro @c_seq (And.intro @c_cond (And.intro @c_block (And.intro @c_loop (And.intro @c_exit (And.intro @c_ret (And.intro @g_guard (And.intro @g_pick (And.intro @g_load (And.intro @g_store (And.intro @g_iaddr (And.intro @g_idx (And.intro @g_box (And.intro @g_boxro (And.intro @g_alloc (And.intro @g_stro (And.intro @g_strb (And.intro @g_ldx (And.intro @g_ldf (And.intro @g_gidx (And.intro @g_gsl (And.intro @g_appx (And.intro @g_mkslice (And.intro @g_bslice (And.intro @g_bslro (And.intro @g_slc (And.intro @g_sslc (And.intro @g_append (And.intro @g_copy (And.intro @g_clr (And.intro @g_isnil (And.intro @g_ifnil (And.intro @g_b2s (And.intro @u_ext (And.intro @b_t (And.intro @b_f (And.intro @b_dec (And.intro @b_not (And.intro @b_and (And.intro @b_or (And.intro @c_br (And.intro @t_guardt (And.intro @t_guardf (And.intro @t_pick (And.intro @t_with (And.intro @t_lrop (And.intro @t_lptr (And.intro @t_pl (And.intro @t_store (And.intro @t_ps (And.intro @t_ldf (And.intro @t_stf (And.intro @t_ldI (And.intro @t_setI (And.intro @t_repI (And.intro @t_callv (And.intro @t_callvA (And.intro @t_iaddr (And.intro @t_iaddro (And.intro @t_idx (And.intro @t_box (And.intro @t_stro (And.intro @t_strb (And.intro @t_strp (And.intro @t_strq (And.intro @t_new (And.intro @t_mk (And.intro @t_bs (And.intro @u_rg1 (And.intro @u_rg2 (And.intro @u_rf1 (And.intro @u_rf2 (And.intro @u_nxn (And.intro @u_nxc (And.intro @u_nx1 (And.intro @u_nx2 (And.intro @u_nx3 (And.intro @t_bsr (And.intro @t_lit (And.intro @t_slice (And.intro @t_sliceo (And.intro @t_sslice (And.intro @t_sl2 (And.intro @t_so2 (And.intro @t_ss2 (And.intro @t_src (And.intro @t_srcsl (And.intro @t_srcnil (And.intro @t_srcstr (And.intro @t_srcown (And.intro @t_so1 (And.intro @t_app0 (And.intro @t_appo (And.intro @t_apo (And.intro @t_copy (And.intro @t_cpy (And.intro @t_clr (And.intro @t_clrh (And.intro @u_isnil0 (And.intro @u_isnils (And.intro @u_isnilo (And.intro @u_ifnil0 (And.intro @u_ifnil1 (And.intro @u_b2s (And.intro @u_byt (And.intro @u_byt0 (And.intro @u_byt1 (And.intro @u_nstro (And.intro @u_nstrs (And.intro @u_agg (And.intro @u_sl (And.intro @u_own (And.intro @u_int (And.intro @u_bool (And.intro @u_str (And.intro @u_nil (And.intro @u_rop (And.intro @u_ptr (And.intro @u_clo (And.intro @p_ld (And.intro @p_st (And.intro @p_sub1 (And.intro @p_suba (And.intro @p_upda (And.intro @p_updi (And.intro @p_updb (And.intro @p_upds (And.intro @p_updn (And.intro @p_updl (And.intro @p_updo (And.intro @p_updp (And.intro @p_updr (And.intro @p_updc (And.intro @p_fill0 (And.intro @p_fill (And.intro @p_fillT (And.intro @p_ceqL0 (And.intro @p_ceqL (And.intro @p_andO (And.intro @p_ceq1 (And.intro @p_ceq2 (And.intro @p_ceq0 (And.intro @p_ip0 (And.intro @p_ip (And.intro @p_ipR (And.intro @p_lit0 (And.intro @p_lit (And.intro @p_cl0 (And.intro @p_cl (And.intro @p_clv (And.intro @p_clsl (And.intro @p_clown (And.intro @p_clptr (And.intro @p_clrop (And.intro @p_clclo (And.intro @p_clagg (And.intro @r_sh (And.intro @q_and (And.intro @q_or (And.intro @q_xor (And.intro @q_andNot (And.intro @q_shl (And.intro @q_shr (And.intro @g_unset (And.intro @bnd_none (And.intro @bnd_some (And.intro @int_T (And.intro @storable_int (And.intro @storable_bool (And.intro @storable_str (And.intro @storable_nil (And.intro @storable_sl (And.intro @storable_agg (And.intro @storable_own (And.intro @storable_clo (And.intro @storable_ptr (And.intro @storable_rop (And.intro @gsize_int (And.intro @gsize_bool (And.intro @gsize_str (And.intro @gsize_nil (And.intro @gsize_sl (And.intro @gsize_own (And.intro @gsize_agg (And.intro @List.length_cons.{0} (And.intro @List.length_nil.{0} (And.intro @List.getElem?_cons_zero.{0} (And.intro @List.getElem?_cons_succ.{0} (And.intro @List.set_cons_zero.{0} (And.intro @List.set_cons_succ.{0} (And.intro @List.take_succ_cons.{0} (And.intro @List.take_zero.{0} (And.intro @List.drop_succ_cons.{0} (And.intro @List.drop_zero.{0} (And.intro @List.cons_append.{0} (And.intro @List.nil_append.{0} (And.intro @List.append_nil.{0} (And.intro @List.getElem_map.{0,0} (And.intro @List.length_map.{0,0} (And.intro @List.map_nil.{0,0} (And.intro @List.map_cons.{0,0} (And.intro @Int.toNat_natCast (And.intro @Option.map_some.{0,0} (And.intro @and_true (And.intro @true_and (And.intro @and_false (And.intro @false_and (And.intro @Bool.not_eq_true' (And.intro @Bool.not_eq_false' (And.intro @decide_eq_true_eq (And.intro @decide_eq_false_iff_not (And.intro @Bool.and_true (And.intro @Bool.true_and (And.intro @Bool.not_not (And.intro @List.getElem_cons_zero.{0} (And.intro @decide_true (And.intro @decide_false (And.intro @Nat.add_zero (And.intro @true_implies (And.intro @false_implies (And.intro @implies_true.{1} (And.intro @Bool.true_eq_false @Bool.false_eq_true))))))))))))))))))))))))))))))))))))))))))))))))))))))))))))))))))))))))))))))))))))))))))))))))))))))))))))))))))))))))))))))))))))))))))))))))))))))))))))))))))))))))))))))))))))))))))))))))))))))))))))))))))))))))))))))))))))))))))))))))))))))))))))))))))))))))))))))))))))))))))))))))))))))))))))))))))))))))))))))))))))))))))))))))))))))))
end Go.Gh
