/- A library: ghosts that stand for the values of the model, and what functions do to them. No condition. -/
import Derived.Test.YtcegkonjphbfaaaGreatDoorLibR2
set_option maxHeartbeats 40000000
set_option maxRecDepth 20000
set_option linter.unusedSimpArgs false
set_option linter.unusedVariables false

namespace Go.Gh
theorem HM.in_names {w:World} {D:Nat→Prop}:∀{H:GH} {Ω:List Nat} {b:Nat},HM w D H Ω→2 * b∈names H→b∈Ω
 | [],_,_,_,h=>by simp[names] at h
 | (r,sz,es)::H,Ω,b,hm,h=>by
  obtain ⟨F1,F2,rfl,hR,hm⟩:=hm
  simp only[names,List.map_cons,List.mem_cons] at h
  rcases h with h|h
  ·rcases hR with ⟨b',c,T,fz,F',e,_,_,_,_,rfl,_⟩|⟨e,_⟩
   ·have:b=b':=by omega
    simp[this]
   ·omega
  ·simp[HM.in_names hm h]
theorem hset_hdel {r q:Nat} {es:List GV} (h:r≠q):∀{H:GH},Z1 (ZL H q) r es=ZL (Z1 H r es) q
 | []=>rfl
 | (i,sz,fs)::H=>by
  simp only[ZL,Z1]
  by_cases h1:i=q
  ·have:i≠r:=fun e=>h (e.symm.trans h1)
   simp[h1,ZL,(h1▸this:q≠r)]
  ·by_cases h2:i=r
   ·subst h2
    simp[h1,Z1,ZL]
   ·simp[h1,h2,Z1,ZL,hset_hdel h (H:=H)]
theorem hget_hdel {r q:Nat} (h:r≠q):∀{H:GH},Z6 (ZL H q) r=Z6 H r
 | []=>rfl
 | (i,x)::H=>by
  simp only[ZL]
  split
  ·rename_i h1
   simp only[Z6]
   rw[if_neg (fun e=>h (e.symm.trans h1))]
  ·simp only[Z6,hget_hdel h (H:=H)]
theorem RM.es_ne {w:World} {D:Nat→Prop} {r sz:Nat} {es:List GV} {F:List Nat} (h:RM w D r sz es F) (hne:es≠[]) :
 ∃b c T fz F',r=2 * b∧w.heap[b]? = some (.cells c T fz)∧Thaw c fz∧es.length * sz≤c.size∧es.length≤Y9∧F=b::F'∧MF w D sz es (c.toList.take (es.length * sz)) F':=by
 rcases h with h|⟨_,h,_⟩
 ·exact h
 ·exact absurd h hne
theorem St.close {w:World} {D:Nat→Prop} {H:GH} {Ω:List Nat} (h:St w D H Ω) {r r1 sz sz1 i j n:Nat} {es gs ks:List GV} (hne:r≠r1) (hr:Z6 H r=some (sz,es)) (he:es[i]? = some (.agg gs)) (hg:gs[j]? = some (.own r1 sz1 0 n))
 (hr1:Z6 H r1=some (sz1,ks)) (hn:ks.length=n) :
 ∃Ω',St w D (ZL (Z1 H r (es.set i (.agg (gs.set j (.osl sz1 ks))))) r1) Ω'∧∀x∈Ω',x∈Ω:=by
 obtain ⟨Ω1,F,Ω2,hΩ,hR1,_,hdl⟩:=HM.take h.hm hr1
 have hm2:=hdl w D (fun _ => True) (Kept.refl _ _) (fun _ _ => trivial) (fun _ h=>h) (fun _ _ => trivial)
 obtain ⟨Ω3,F',Ω4,hΩ2,hR,hput,_⟩:=HM.take hm2 (by rw[hget_hdel hne];exact hr)
 obtain ⟨b,c,T,fz,F0,k1,k2,k3,k4,k5,k6,k7⟩:=hR.es_ne (fun e=>by rw[e] at he;simp at he)
 obtain ⟨pre,v,post,A1,Ai,A2,m1,m2,m3,m4,m5,m6,m7⟩:=MF.split sz es _ F0 i _ k7 he
 simp only[MV] at m6
 obtain ⟨vs,rfl,hone,hml⟩:=m6
 obtain ⟨pr,u,po,B1,Bj,B2,n1,n2,n3,n4,n5⟩:=ML.split gs vs Ai j _ hml hg
 have n4':=n4
 simp only[MV] at n4
 obtain ⟨rfl,n4⟩:=n4
 have hch:∃G,MV w D (.osl sz1 ks) u G∧(G=F∨G=[]):=by
  rcases hR1 with ⟨b1,c1,T1,fz1,F1,p1,p2,p3,p4,p5,p6,p7⟩|⟨p1,p2,p3⟩
  ·rcases n4 with ⟨b2,cap,c2,T2,fz2,q1,q2,q3,q4,q5⟩|⟨q1,a,q2⟩
   ·have:b2=b1:=by omega
    subst this
    rw[p2] at q4
    injection q4 with q4
    injection q4 with q4 q6 q7
    subst q4
    refine ⟨F,?_,.inl rfl⟩
    simp only[MV]
    exact .inr ⟨b2,cap,c1,T1,fz1,F1,by rw[q2,hn];simp,by omega,p5,p6,p2,p3,by simpa using q5,p7⟩
   ·refine ⟨[],?_,.inr rfl⟩
    simp only[MV]
    exact .inl ⟨List.eq_nil_of_length_eq_zero (by omega),trivial,a,q2⟩
  ·subst p2
   refine ⟨[],?_,.inr rfl⟩
   simp only[MV]
   rcases n4 with ⟨b2,cap,c2,T2,fz2,q1,_⟩|⟨q1,a,q2⟩
   ·omega
   ·exact .inl ⟨trivial,trivial,a,q2⟩
 obtain ⟨G,hG,hGF⟩:=hch
 have hml':=n5 (.osl sz1 ks) u G hG
 have hag:MV w D (.agg (gs.set j (.osl sz1 ks))) (.agg vs.toArray) (B1++(G++B2)):=by
  simp only[MV]
  refine ⟨vs,rfl,hone,?_⟩
  rw[n1];exact hml'
 have hmf:=m7 w D (fun _ => True) (.agg (gs.set j (.osl sz1 ks))) (.agg vs.toArray) (B1++(G++B2)) (Kept.refl _ _) (fun _ _ => trivial) (fun _ h=>h) (fun _ _ => trivial) m3 m4 hag
 rw[←m1] at hmf
 have hRM:RM w D r sz (es.set i (.agg (gs.set j (.osl sz1 ks)))) (b::(A1++((B1++(G++B2))++A2))):=
  .inl ⟨b,c,T,fz,_,k1,k2,k3,by simpa using k4,by simpa using k5,rfl,by simpa using hmf⟩
 have hfin:=hput w D (fun _ => True) _ _ (Kept.refl _ _) (fun _ _ => trivial) (fun _ h=>h) (fun _ _ => trivial) hRM
 rw[hset_hdel hne] at hfin
 have hsub:∀x,(Ω3++(b::(A1++((B1++(G++B2))++A2))++Ω4)).count x≤Ω.count x:=by
  intro x
  have e1:Ω.count x=Ω1.count x+(F.count x+Ω2.count x):=by rw[hΩ];simp[List.count_append]
  have e2:Ω1.count x+Ω2.count x=Ω3.count x+(F'.count x+Ω4.count x):=by
   have:=congrArg (List.count x) hΩ2
   simpa[List.count_append] using this
  have e3:F'.count x=(b::F0).count x:=by rw[k6]
  have e4:F0.count x=A1.count x+(Ai.count x+A2.count x):=by rw[m5];simp[List.count_append]
  have e5:Ai.count x=B1.count x+B2.count x:=by rw[n3];simp[List.count_append]
  have e6:G.count x≤F.count x:=by rcases hGF with rfl|rfl<;>simp
  simp only[List.count_append,List.count_cons] at *
  omega
 have hnd:(Ω3++(b::(A1++((B1++(G++B2))++A2))++Ω4)).Nodup := by
  rw[List.nodup_iff_count]
  intro x
  have:=List.nodup_iff_count.1 h.nd x
  have:=hsub x
  omega
 have hmem:∀x∈Ω3++(b::(A1++((B1++(G++B2))++A2))++Ω4),x∈Ω:=fun x hx=>by
  have h1:=List.count_pos_iff.2 hx
  have:=hsub x
  exact List.count_pos_iff.1 (by omega)
 refine ⟨_,⟨hfin,hnd,?_,fun x hx=>h.dj x (hmem x hx),h.ds⟩,hmem⟩
 refine h.nn.sublist ?_
 have:=Yn (Z1 H r (es.set i (.agg (gs.set j (.osl sz1 ks))))) r1
 rwa [Ym] at this
theorem St.open {w:World} {D:Nat→Prop} {H:GH} {Ω:List Nat} (h:St w D H Ω) {r sz sz1 i j:Nat} {es gs ks:List GV} (hr:Z6 H r=some (sz,es)) (he:es[i]? = some (.agg gs)) (hg:gs[j]? = some (.osl sz1 ks)) :
 ∃r1 Ω',(names ((r1,sz1,ks)::H)).Nodup ∧ St w D ((r1,sz1,ks)::Z1 H r (es.set i (.agg (gs.set j (.own r1 sz1 0 ks.length))))) Ω'∧∀x∈Ω',x∈Ω:=by
 obtain ⟨Ω3,F',Ω4,hΩ2,hR,hput,_⟩:=HM.take h.hm hr
 obtain ⟨b,c,T,fz,F0,k1,k2,k3,k4,k5,k6,k7⟩:=hR.es_ne (fun e=>by rw[e] at he;simp at he)
 obtain ⟨pre,v,post,A1,Ai,A2,m1,m2,m3,m4,m5,m6,m7⟩:=MF.split sz es _ F0 i _ k7 he
 simp only[MV] at m6
 obtain ⟨vs,rfl,hone,hml⟩:=m6
 obtain ⟨pr,u,po,B1,Bj,B2,n1,n2,n3,n4,n5⟩:=ML.split gs vs Ai j _ hml hg
 simp only[MV] at n4
 have hch:∃r1 G,MV w D (.own r1 sz1 0 ks.length) u []∧RM w D r1 sz1 ks G∧G=Bj∧((∃b1 G',r1=2 * b1∧G=b1::G')∨(r1=vname H)):=by
  rcases n4 with ⟨rfl,q2,a,q3⟩|⟨b1,cap,c1,T1,fz1,F1,q1,q2,q3,q4,q5,q6,q7,q8⟩
  ·refine ⟨vname H,[],?_,.inr ⟨od_virt (vname_odd H),rfl,rfl⟩,q2.symm,.inr rfl⟩
   simp only[MV]
   exact ⟨trivial,.inr ⟨rfl,a,q3⟩⟩
  ·refine ⟨2 * b1,b1::F1,?_,.inl ⟨b1,c1,T1,fz1,F1,rfl,q5,q6,Nat.le_trans (Nat.mul_le_mul_right _ q2) q7,q3,rfl,q8⟩,q4.symm,.inl ⟨b1,F1,rfl,rfl⟩⟩
   simp only[MV]
   exact ⟨trivial,.inl ⟨b1,cap,c1,T1,fz1,rfl,by rw[q1];simp,q2,q5,by simpa using q7⟩⟩
 obtain ⟨r1,G,hown,hRM1,hGB,hr1⟩:=hch
 have hml':=n5 (.own r1 sz1 0 ks.length) u [] hown
 have hag:MV w D (.agg (gs.set j (.own r1 sz1 0 ks.length))) (.agg vs.toArray) (B1++([]++B2)):=by
  simp only[MV]
  refine ⟨vs,rfl,hone,?_⟩
  rw[n1];exact hml'
 have hmf:=m7 w D (fun _ => True) (.agg (gs.set j (.own r1 sz1 0 ks.length))) (.agg vs.toArray) (B1++([]++B2)) (Kept.refl _ _) (fun _ _ => trivial) (fun _ h=>h) (fun _ _ => trivial) m3 m4 hag
 rw[←m1] at hmf
 have hRM:RM w D r sz (es.set i (.agg (gs.set j (.own r1 sz1 0 ks.length)))) (b::(A1++((B1++([]++B2))++A2))):=
  .inl ⟨b,c,T,fz,_,k1,k2,k3,by simpa using k4,by simpa using k5,rfl,by simpa using hmf⟩
 have hfin:=hput w D (fun _ => True) _ _ (Kept.refl _ _) (fun _ _ => trivial) (fun _ h=>h) (fun _ _ => trivial) hRM
 have hcnt:∀x,(G++(Ω3++(b::(A1++((B1++([]++B2))++A2))++Ω4))).count x=Ω.count x:=by
  intro x
  have e1:Ω.count x=Ω3.count x+(F'.count x+Ω4.count x):=by rw[hΩ2];simp[List.count_append]
  have e3:F'.count x=(b::F0).count x:=by rw[k6]
  have e4:F0.count x=A1.count x+(Ai.count x+A2.count x):=by rw[m5];simp[List.count_append]
  have e5:Ai.count x=B1.count x+(Bj.count x+B2.count x):=by rw[n3];simp[List.count_append]
  rw[hGB]
  simp only[List.count_append,List.count_cons,List.count_nil] at *
  omega
 have hnd:(G++(Ω3++(b::(A1++((B1++([]++B2))++A2))++Ω4))).Nodup := by
  rw[List.nodup_iff_count]
  intro x
  have:=List.nodup_iff_count.1 h.nd x
  have:=hcnt x
  omega
 have hmem:∀x∈G++(Ω3++(b::(A1++((B1++([]++B2))++A2))++Ω4)),x∈Ω:=fun x hx=>by
  have h1:=List.count_pos_iff.2 hx
  have:=hcnt x
  exact List.count_pos_iff.1 (by omega)
 have hnew:r1∉names H:=by
  rcases hr1 with ⟨b1,G',rfl,rfl⟩|rfl
  ·intro hin
   have h1:2 * b1∈names (Z1 H r (es.set i (.agg (gs.set j (.own (2 * b1) sz1 0 ks.length))))):=by rw[Ym];exact hin
   have h2:=HM.in_names hfin h1
   exact (List.nodup_append.1 hnd).2.2 b1 (by simp) b1 h2 rfl
  ·exact vname_new H
 refine ⟨r1,_,?_,⟨⟨G,_,rfl,hRM1,hfin⟩,hnd,?_,fun x hx=>h.dj x (hmem x hx),h.ds⟩,hmem⟩
 ·simp only[names,List.map_cons,List.nodup_cons]
  exact ⟨hnew,h.nn⟩
 ·simp only[names,List.map_cons,List.nodup_cons]
  have e:List.map (fun x:Nat×Nat×List GV=>x.1) (Z1 H r (es.set i (.agg (gs.set j (.own r1 sz1 0 ks.length)))))=names H:=Ym H r _
  rw[e]
  exact ⟨hnew,h.nn⟩
theorem SI.st' {w0:World} {D0:Nat→Prop} {O0:List Nat} {env:Env} {H H':GH} {tmps:Array Value} {w:World} {D:Nat→Prop} {Ω Ω':List Nat} {ρw:Nat→Option Nat} (hi:SI w0 D0 O0 env H tmps w D Ω ρw) (hs:St w D H' Ω') (hm:∀x∈Ω',x∈Ω) :
 SI w0 D0 O0 env H' tmps w D Ω' ρw:=
 ⟨hi.em,hi.rw,hi.ri,fun i b hb=>by obtain ⟨r1,r2,r3,r4⟩:=hi.rd i b hb;exact ⟨r1,fun h=>r2 (hm b h),r3,r4⟩,hs,
  ⟨hi.ev.d0,hi.ev.dn,fun b hb hl=>hi.ev.on b (hm b hb) hl,hi.ev.kp,hi.ev.os,hi.ev.tape,hi.ev.output⟩⟩
theorem FE.close {env:Env} {H:GH} {r r1 sz sz1 i j n:Nat} {es gs ks:List GV} (hne:r≠r1) (hr:Z6 H r=some (sz,es)) (he:es[i]? = some (.agg gs)) (hg:gs[j]? = some (.own r1 sz1 0 n))
 (hr1:Z6 H r1=some (sz1,ks)) (hn:ks.length=n):FE env H env (ZL (Z1 H r (es.set i (.agg (gs.set j (.osl sz1 ks))))) r1):=by
 intro w0 D0 O0 N a w ⟨hdf,hsz,D,Ω,ρw,hi⟩
 obtain ⟨Ω',h1,h2⟩:=hi.st.close hne hr he hg hr1 hn
 exact ⟨hdf,hsz,D,Ω',ρw,hi.st' h1 h2⟩
theorem GW.opn {P:Program} {cf:Cfg} {gc:GC} {Q:Exit→Env→GH→Prop} {env:Env} {H:GH} {r sz sz1 i j:Nat} {es gs ks:List GV} (hr:Z6 H r=some (sz,es)) (he:es[i]? = some (.agg gs)) (hg:gs[j]? = some (.osl sz1 ks))
 (h:∀r1,(Gh.names ((r1,sz1,ks)::H)).Nodup → GW P cf gc Q env ((r1,sz1,ks)::Z1 H r (es.set i (.agg (gs.set j (.own r1 sz1 0 ks.length)))))):GW P cf gc Q env H:=by
 intro md c hc w0 D0 O0 a w ⟨hdf,hsz,D,Ω,ρw,hi⟩
 obtain ⟨r1,Ω',hn,h1,h2⟩:=hi.st.open hr he hg
 exact h r1 hn md c hc w0 D0 O0 a w ⟨hdf,hsz,D,Ω',ρw,hi.st' h1 h2⟩
theorem FE.drop {env:Env} {H:GH} {r sz:Nat} {es:List GV} (hr:Z6 H r=some (sz,es)):FE env H env (ZL H r):=by
 intro w0 D0 O0 N a w ⟨hdf,hsz,D,Ω,ρw,hi⟩
 obtain ⟨Ω1,F,Ω2,hΩ,hR1,_,hdl⟩:=HM.take hi.st.hm hr
 have hm2:=hdl w D (fun _ => True) (Kept.refl _ _) (fun _ _ => trivial) (fun _ h=>h) (fun _ _ => trivial)
 have hsub:(Ω1++Ω2).Sublist Ω:=by rw[hΩ];exact List.Sublist.append (List.Sublist.refl _) (List.sublist_append_right _ _)
 refine ⟨hdf,hsz,D,Ω1++Ω2,ρw,hi.st' ⟨hm2,hi.st.nd.sublist hsub,hi.st.nn.sublist (Yn H r),fun x hx=>hi.st.dj x (hsub.subset hx),hi.st.ds⟩ fun x hx=>hsub.subset hx⟩
theorem FR.close {g:GV} {H:GH} {r r1 sz sz1 i j n:Nat} {es gs ks:List GV} (hne:r≠r1) (hr:Z6 H r=some (sz,es)) (he:es[i]? = some (.agg gs)) (hg:gs[j]? = some (.own r1 sz1 0 n))
 (hr1:Z6 H r1=some (sz1,ks)) (hn:ks.length=n):FR g H g (ZL (Z1 H r (es.set i (.agg (gs.set j (.osl sz1 ks))))) r1):=by
 intro w D Ω v hv hst
 obtain ⟨Ω',h1,h2⟩:=hst.close hne hr he hg hr1 hn
 exact ⟨D,Ω',hv,h1,⟨fun _ h=>h,fun _ _ h=> .inl h,fun b hb _ => h2 b hb,Kept.refl _ _,rfl,rfl,rfl⟩⟩
mutual
def noD:GV→Bool
 | .val _ => true
 | .ptr _ _ _ _ => true
 | .own _ _ _ _ => true
 | .agg gs=>noDL gs
 | .tup gs=>noDL gs
 | .osl _ es=>noDL es
 | _ => false
def noDL:List GV→Bool
 | []=>true
 | g::gs=>noD g&&noDL gs
end
theorem noDL_eq (gs:List GV):noDL gs=gs.all noD:=by
 induction gs with
 | nil=>rfl
 | cons g gs ih=>simp[noDL,ih]
mutual
theorem MV.noD {w:World} {D D':Nat→Prop}:∀(g:GV) (v:Value) (F:List Nat),noD g=true→MV w D g v F→MV w D' g v F
 | .val u,v,F,_,h=>by simpa[MV] using h
 | .agg gs,v,F,hs,h=>by
  simp only[MV] at h ⊢
  obtain ⟨vs,h1,h0,h2⟩:=h
  exact ⟨vs,h1,h0,ML.noD gs vs F (by simpa[Gh.noD] using hs) h2⟩
 | .tup gs,v,F,hs,h=>by
  simp only[MV] at h ⊢
  obtain ⟨vs,h1,h2⟩:=h
  exact ⟨vs,h1,ML.noD gs vs F (by simpa[Gh.noD] using hs) h2⟩
 | .ptr _ _ _ _,v,F,_,h=>by simp only[MV] at h ⊢;exact h
 | .own _ _ _ _,v,F,_,h=>by simp only[MV] at h ⊢;exact h
 | .osl sz es,v,F,hs,h=>by
  simp only[MV] at h ⊢
  rcases h with h|⟨b,cap,c,T,fz,F',h1,h2,h3,h4,h5,h6,h7,h8⟩
  ·exact .inl h
  ·exact .inr ⟨b,cap,c,T,fz,F',h1,h2,h3,h4,h5,h6,h7,MF.noD sz es _ F' (by simpa[Gh.noD] using hs) h8⟩
 | .sl _ _,_,_,hs,_ => by simp[Gh.noD] at hs
 | .rop _ _,_,_,hs,_ => by simp[Gh.noD] at hs
 | .clo _ _,_,_,hs,_ => by simp[Gh.noD] at hs
 | .raw _,_,_,hs,_ => by simp[Gh.noD] at hs
 | .cur,_,_,hs,_ => by simp[Gh.noD] at hs
theorem ML.noD {w:World} {D D':Nat→Prop}:∀(gs:List GV) (vs:List Value) (F:List Nat),noDL gs=true→ML w D gs vs F→ML w D' gs vs F
 | [],vs,F,_,h=>by simpa[ML] using h
 | g::gs,vs,F,hs,h=>by
  simp only[ML] at h ⊢
  simp only[noDL,Bool.and_eq_true] at hs
  obtain ⟨v,vs',F1,F2,h1,h2,h3,h4⟩:=h
  exact ⟨v,vs',F1,F2,h1,h2,MV.noD g v F1 hs.1 h3,ML.noD gs vs' F2 hs.2 h4⟩
theorem MF.noD {w:World} {D D':Nat→Prop} (sz:Nat):∀(gs:List GV) (vs:List Value) (F:List Nat),noDL gs=true→MF w D sz gs vs F→MF w D' sz gs vs F
 | [],vs,F,_,h=>by simpa[MF] using h
 | g::gs,vs,F,hs,h=>by
  simp only[MF] at h ⊢
  simp only[noDL,Bool.and_eq_true] at hs
  obtain ⟨v,vs',F1,F2,h1,h0,h00,h2,h3,h4⟩:=h
  exact ⟨v,vs',F1,F2,h1,h0,h00,h2,MV.noD g v F1 hs.1 h3,MF.noD sz gs vs' F2 hs.2 h4⟩
end
def noDH (H:GH):Bool:=H.all fun x=>noDL x.2.2&&decide (x.2.1<1000000)
theorem HM.noD {w:World} {D D':Nat→Prop}:∀{H:GH} {Ω:List Nat},noDH H=true→HM w D H Ω→HM w D' H Ω
 | [],Ω,_,h=>h
 | (r,sz,es)::H,Ω,hs,h=>by
  simp only[noDH,List.all_cons,Bool.and_eq_true] at hs
  obtain ⟨F1,F2,h1,h2,h3⟩:=h
  refine ⟨F1,F2,h1,?_,HM.noD hs.2 h3⟩
  rcases h2 with ⟨b,c,T,fz,F',k1,k2,k3,k4,k5,k6,k7⟩|h2
  ·exact .inl ⟨b,c,T,fz,F',k1,k2,k3,k4,k5,k6,MF.noD sz es _ F' hs.1.1 k7⟩
  ·exact .inr ⟨⟨h2.1.1,fun h4 h5=>absurd h5 (Nat.not_le.2 (by simpa using hs.1.2))⟩,h2.2⟩
theorem HM.append {w:World} {D:Nat→Prop}:∀{H1 H:GH} {Ω1 Ω:List Nat},HM w D H1 Ω1→HM w D H Ω→HM w D (H1++H) (Ω1++Ω)
 | [],H,Ω1,Ω,h1,h=>by simp only[HM] at h1;subst h1;exact h
 | (r,sz,es)::H1,H,Ω1,Ω,h1,h=>by
  obtain ⟨F1,F2,rfl,h2,h3⟩:=h1
  exact ⟨F1,F2++Ω,by simp,h2,HM.append h3 h⟩
theorem HM.parted {w:World} {D:Nat→Prop}:∀{H1 H:GH} {Ω:List Nat},HM w D (H1++H) Ω→∃Ω1 Ω2,Ω=Ω1++Ω2∧HM w D H1 Ω1∧HM w D H Ω2
 | [],H,Ω,h=>⟨[],Ω,rfl,rfl,h⟩
 | (r,sz,es)::H1,H,Ω,h=>by
  obtain ⟨F1,F2,rfl,h2,h3⟩:=h
  obtain ⟨Ω1,Ω2,rfl,k1,k2⟩:=HM.parted (H1:=H1) h3
  exact ⟨F1++Ω1,Ω2,by simp,⟨F1,Ω1,rfl,h2,k1⟩,k2⟩
def oddH (H:GH):GH:=H.filter fun x=>x.1 % 2 == 1
theorem HM.odd {w:World} {D D':Nat→Prop} (hDD:∀b,D b→D' b):∀{H:GH} {Ω:List Nat},HM w D H Ω→HM w D' (oddH H) []
 | [],Ω,_ => rfl
 | (r,sz,es)::H,Ω,h=>by
  obtain ⟨F1,F2,rfl,h2,h3⟩:=h
  simp only[oddH,List.filter_cons]
  split
  ·rename_i hr
   have hr':r % 2=1:=by simpa using hr
   rcases h2 with ⟨b,c,T,fz,F',k1,_⟩|h2
   ·omega
   ·exact ⟨[],[],rfl,.inr ⟨⟨hr',fun h4 h5=>(h2.1.2 h4 h5).keep (S:=fun _ => True) (Kept.refl _ _) (fun _ _ => trivial) hDD⟩,h2.2.1,rfl⟩,HM.odd hDD h3⟩
  ·exact HM.odd hDD h3
theorem names_odd (H:GH):(names (oddH H)).Sublist (names H):=List.Sublist.map _ List.filter_sublist
theorem mem_odd {H:GH} {n:Nat} (h:n∈names H) (ho:n % 2=1):n∈names (oddH H):=by
 simp only[names,List.mem_map] at h ⊢
 obtain ⟨x,hx,rfl⟩:=h
 exact ⟨x,by simp[oddH,hx,ho],rfl⟩
theorem GCalls.lendO {P:Program} {f:FuncId} {gs gs':List GV} {R:GV→GH→Prop} {H:GH} (h:GCalls P f gs' (oddH H) (fun g H'=>∃H1,R g H1∧H'=H1++oddH H)) (hb:BorL H gs gs') (hR:∀g H1,R g H1→noD g=true∧noDH H1=true) :
 GCalls P f gs H (fun g H'=>∃H1,R g H1∧H'=H1++H):=by
 intro w D Ω args hst hargs
 have hds:∀b,(D b∨b∈Ω)→b<w.heap.size:=fun b hb=>hb.elim (hst.ds b) (HM.flt hst.hm b)
 have hs0:St w (fun b=>D b∨b∈Ω) (oddH H) []:=⟨HM.odd (fun _ h=> .inl h) hst.hm,by simp,hst.nn.sublist (names_odd H),by simp,hds⟩
 refine Yld.mono (fun v w' ⟨g,H',D',Ω',⟨H1,k1,hH'⟩,k2,k3,k4⟩=> ?_) (h w _ [] args hs0 (hb w D Ω args hst hargs))
 subst hH'
 have hk:Kept w w' (fun _ => True):=k4.kp.mono fun _ _ _ => by simp
 obtain ⟨n1,n2⟩:=hR g H1 k1
 obtain ⟨Ω1,Ω2,rfl,m1,m2⟩:=HM.parted k3.hm
 have hnew:∀x∈Ω1,w.heap.size≤x:=fun x hx=>by
  rcases Nat.lt_or_ge x w.heap.size with h1|h1
  ·have:=k4.on x (by simp[hx]) h1;simp at this
  ·exact h1
 refine ⟨g,H1++H,D,Ω1++Ω,⟨H1,k1,rfl⟩,MV.noD g v [] n1 k2,⟨HM.append (HM.noD n2 m1) (HM.keep hk (fun _ _ => trivial) (fun _ h=>h) (fun _ _ => trivial) hst.hm),?_,?_,?_,fun b hb=>Nat.lt_of_lt_of_le (hst.ds b hb) hk.size⟩,
  ⟨fun _ h=>h,fun b _ hD=> .inl hD,fun b hb hl=> ?_,hk.mono fun _ _ _ => trivial,k4.os,k4.tape,k4.output⟩⟩
 ·refine List.nodup_append.2 ⟨(List.nodup_append.1 k3.nd).1,hst.nd,fun a ha b hb e=> ?_⟩
  subst e
  have:=hnew a ha
  have:=HM.flt hst.hm a hb
  omega
 ·have e:names (H1++H)=names H1++names H:=by simp[names]
  have e2:names (H1++oddH H)=names H1++names (oddH H):=by simp[names]
  have hnn:=k3.nn
  rw[e2] at hnn
  rw[e]
  refine List.nodup_append.2 ⟨(List.nodup_append.1 hnn).1,hst.nn,fun a ha b hb e=> ?_⟩
  subst e
  rcases Nat.mod_two_eq_zero_or_one a with h2|h2
  ·obtain ⟨q,rfl⟩:∃q,a=2 * q:=⟨a / 2,by omega⟩
   have h3:=hnew q (HM.in_names m1 ha)
   have h4:=HM.flt hst.hm q (HM.in_names hst.hm hb)
   omega
  ·exact (List.nodup_append.1 hnn).2.2 a ha a (mem_odd hb h2) rfl
 ·intro b hb hD
  rcases List.mem_append.1 hb with hb|hb
  ·have:=hnew b hb
   have:=hst.ds b hD
   omega
  ·exact hst.dj b hb hD
 ·rcases List.mem_append.1 hb with hb|hb
  ·have:=hnew b hb;omega
  ·exact hb
theorem GCalls.lend {P:Program} {f:FuncId} {gs gs':List GV} {R:GV→GH→Prop} {H:GH} (h:∀H0,GCalls P f gs' H0 (fun g H'=>∃H1,R g H1∧H'=H1++H0)) (hb:BorL H gs gs') (hR:∀g H1,R g H1→noD g=true∧noDH H1=true) :
 GCalls P f gs H (fun g H'=>∃H1,R g H1∧H'=H1++H):=GCalls.lendO (h _) hb hR
theorem odd_mem {T H:GH} (hT:∀x∈T,x.1 % 4=3) (hs:∀x∈T,x∈H):∀x∈T,x∈oddH H:=fun x hx=>by
 have h1:=hT x hx
 have h2:=hs x hx
 unfold oddH
 rw[List.mem_filter]
 exact ⟨h2,by rw[beq_iff_eq];omega⟩
theorem callS.lend {P:Program} {f:FuncId} {gs gs':List GV} {R:GV→GH→Prop} {H:GH} {K:Env→GH→Prop} {is:List GI} {env:Env} {d:Option Nat} (h:∀H0,GCalls P f gs' H0 (fun g H'=>∃H1,R g H1∧H'=H1++H0)) (hb:BorL H gs gs')
 (hR:∀g H1,R g H1→noD g=true∧noDH H1=true) (hk:∀g H1,R g H1→(names (H1++H)).Nodup → Z7 P is K (gput env d g) (H1++H)):callS P false f (some gs) d is K env H:=
 callS.of (GCalls.lend h hb hR) fun g H' ⟨H1,h1,h2⟩ hn=>by subst h2;exact hk g H1 h1 hn
def subH (H:GH):GH→Prop
 | []=>True
 | (r,x)::L=>Z6 H r=some x∧r∉names L∧subH H L
theorem subH_hdel {H:GH} {q:Nat}:∀{L:GH},subH H L→q∉names L→subH (ZL H q) L
 | [],_,_ => trivial
 | (r,x)::L,hs,hn=>by
  simp only[names,List.map_cons,List.mem_cons,not_or] at hn
  exact ⟨by rw[hget_hdel (Ne.symm hn.1)];exact hs.1,hs.2.1,subH_hdel hs.2.2 hn.2⟩
theorem subH.nodup {H:GH}:∀{L:GH},subH H L→(names L).Nodup
 | [],_ => by simp[names]
 | (r,x)::L,hs=>by
  simp only[names,List.map_cons,List.nodup_cons]
  exact ⟨hs.2.1,subH.nodup hs.2.2⟩
theorem HM.sub {w:World} {D:Nat→Prop}:∀{L H:GH} {Ω:List Nat},HM w D H Ω→subH H L→∃Ω',HM w D L Ω'∧∀x,Ω'.count x≤Ω.count x
 | [],H,Ω,_,_ => ⟨[],rfl,by simp⟩
 | (r,sz,es)::L,H,Ω,h,hs=>by
  obtain ⟨Ω1,F,Ω2,rfl,hR,_,hdl⟩:=HM.take h hs.1
  have hm2:=hdl w D (fun _ => True) (Kept.refl _ _) (fun _ _ => trivial) (fun _ h=>h) (fun _ _ => trivial)
  obtain ⟨Ω',h1,h2⟩:=HM.sub hm2 (subH_hdel hs.2.2 hs.2.1)
  refine ⟨F++Ω',⟨F,Ω',rfl,hR,h1⟩,fun x=> ?_⟩
  have:=h2 x
  simp only[List.count_append] at this ⊢
  omega
theorem St.sub {w:World} {D:Nat→Prop} {H T:GH} {Ω:List Nat} (h:St w D (H++T) Ω) {L:GH} (hs:subH H L):∃Ω',St w D (L++T) Ω'∧∀x∈Ω',x∈Ω:=by
 obtain ⟨Ω1,Ω2,rfl,h1,h2⟩:=HM.part2 h.hm
 obtain ⟨Ω',h3,h4⟩:=HM.sub h1 hs
 have hc:∀x,(Ω'++Ω2).count x≤(Ω1++Ω2).count x:=fun x=>by
  have:=h4 x;simp only[List.count_append];omega
 have hmem:∀x∈Ω'++Ω2,x∈Ω1++Ω2:=fun x hx=>by
  have h1:=List.count_pos_iff.2 hx
  have:=hc x
  exact List.count_pos_iff.1 (by omega)
 refine ⟨Ω'++Ω2,⟨HM.app2 h3 h2,?_,?_,fun x hx=>h.dj x (hmem x hx),h.ds⟩,hmem⟩
 ·rw[List.nodup_iff_count]
  intro x
  have:=List.nodup_iff_count.1 h.nd x
  have:=hc x
  omega
 ·have hn:=h.nn
  simp only[names,List.map_append] at hn ⊢
  obtain ⟨k1,k2,k3⟩:=List.nodup_append.1 hn
  refine List.nodup_append.2 ⟨hs.nodup,k2,?_⟩
  rintro a ha b hb rfl
  refine k3 a ?_ a hb rfl
  have hin:∀{L:GH},subH H L→∀a∈names L,a∈names H:=by
   intro L
   induction L with
   | nil=>intro _ a ha;simp[names] at ha
   | cons y L ih=>
    obtain ⟨r,y⟩:=y
    intro hs a ha
    simp only[names,List.map_cons,List.mem_cons] at ha
    rcases ha with rfl|ha
    ·exact mem_of_hget hs.1
    ·exact ih hs.2.2 a ha
  exact hin hs a ha
theorem FE.perm {env:Env} {H L T:GH} (hs:subH H L):FE env (H++T) env (L++T):=by
 intro w0 D0 O0 N a w ⟨hdf,hsz,D,Ω,ρw,hi⟩
 obtain ⟨Ω',h1,h2⟩:=hi.st.sub hs
 exact ⟨hdf,hsz,D,Ω',ρw,hi.st' h1 h2⟩
theorem FE.perm0 {env:Env} {H L:GH} (hs:subH H L):FE env H env L:=by
 have:=FE.perm (env:=env) (T:=[]) hs
 simpa using this
theorem FR.perm0 {g:GV} {H L:GH} (hs:subH H L):FR g H g L:=by
 intro w D Ω v hv hst
 obtain ⟨Ω',h1,h2⟩:=St.sub (T:=[]) (by simpa using hst) hs
 exact ⟨D,Ω',hv,by simpa using h1,⟨fun _ h=>h,fun _ _ h=> .inl h,fun b hb _ => h2 b hb,Kept.refl _ _,rfl,rfl,rfl⟩⟩
def neA (r:Nat):GH→Prop
 | []=>True
 | (q,_)::H=>(¬r=q)∧(¬q=r)∧neA r H
def neH:GH→Prop
 | []=>True
 | (r,_)::H=>neA r H∧neH H
theorem neA_of {r:Nat}:∀{H:GH},r∉names H→neA r H
 | [],_ => trivial
 | (q,x)::H,h=>by
  simp only[names,List.map_cons,List.mem_cons,not_or] at h
  exact ⟨h.1,fun e=>h.1 e.symm,neA_of h.2⟩
theorem Y3:∀{H:GH},(names H).Nodup → neH H
 | [],_ => trivial
 | (r,x)::H,h=>by
  simp only[names,List.map_cons,List.nodup_cons] at h
  exact ⟨neA_of h.1,Y3 h.2⟩
theorem neA_nil (r:Nat):neA r []=True:=(rfl)
theorem neA_cons (r q:Nat) (x:Nat×List GV) (H:GH):neA r ((q,x)::H)=((¬r=q)∧(¬q=r)∧neA r H):=(rfl)
theorem neH_nil:neH []=True:=(rfl)
theorem neH_cons (r:Nat) (x:Nat×List GV) (H:GH):neH ((r,x)::H)=(neA r H∧neH H):=(rfl)
theorem Zd (r q:Nat) (x:Nat×List GV) (H:GH):Z6 ((r,x)::H) q=if r=q then some x else Z6 H q:=(rfl)
theorem hset_c (r q sz:Nat) (es fs:List GV) (H:GH):Z1 ((r,sz,es)::H) q fs=if r=q then (r,sz,fs)::H else (r,sz,es)::Z1 H q fs:=(rfl)
theorem hdel_c (r q:Nat) (x:Nat×List GV) (H:GH):ZL ((r,x)::H) q=if r=q then H else (r,x)::ZL H q:=(rfl)
theorem Yt:names []=[]:=(rfl)
theorem YG (r:Nat) (x:Nat×List GV) (H:GH):names ((r,x)::H)=r::names H:=(rfl)
theorem St.exch {w:World} {D:Nat→Prop} {H:GH} {Ω:List Nat} (h:St w D H Ω) {r sz i:Nat} {es:List GV} {e e':GV} (hr:Z6 H r=some (sz,es)) (he:es[i]? = some e) (hx:∀v F,MV w D e v F→MV w D e' v F):St w D (Z1 H r (es.set i e')) Ω:=by
 obtain ⟨Ω1,F',Ω2,hΩ,hR,hput,_⟩:=HM.take h.hm hr
 obtain ⟨b,c,T,fz,F0,k1,k2,k3,k4,k5,k6,k7⟩:=hR.es_ne (fun e=>by rw[e] at he;simp at he)
 obtain ⟨pre,v,post,A1,Ai,A2,m1,m2,m3,m4,m5,m6,m7⟩:=MF.split sz es _ F0 i _ k7 he
 have hmf:=m7 w D (fun _ => True) e' v Ai (Kept.refl _ _) (fun _ _ => trivial) (fun _ h=>h) (fun _ _ => trivial) m3 m4 (hx _ _ m6)
 rw[←m1,←m5] at hmf
 have hRM:RM w D r sz (es.set i e') F':= .inl ⟨b,c,T,fz,F0,k1,k2,k3,by simpa using k4,by simpa using k5,k6,by simpa using hmf⟩
 have hfin:=hput w D (fun _ => True) _ _ (Kept.refl _ _) (fun _ _ => trivial) (fun _ h=>h) (fun _ _ => trivial) hRM
 rw[←hΩ] at hfin
 exact ⟨hfin,h.nd,by rw[Ym];exact h.nn,h.dj,h.ds⟩
theorem FE.exch {env:Env} {H:GH} {r sz i:Nat} {es:List GV} {e e':GV} (hr:Z6 H r=some (sz,es)) (he:es[i]? = some e) (hx:∀w D v F,MV w D e v F→MV w D e' v F):FE env H env (Z1 H r (es.set i e')):=by
 intro w0 D0 O0 N a w ⟨hdf,hsz,D,Ω,ρw,hi⟩
 exact ⟨hdf,hsz,D,Ω,ρw,hi.st' (hi.st.exch hr he (hx w D)) (fun _ h=>h)⟩
theorem MV.nil_own {w:World} {D:Nat→Prop} {r sz:Nat}:∀v F,MV w D (.val (.slice none 0 0)) v F→MV w D (.own r sz 0 0) v F:=fun v F h=>by
 simp only[MV] at h ⊢
 exact ⟨h.2,.inr ⟨trivial,_,h.1⟩⟩
theorem MV.fld {w:World} {D:Nat→Prop} {gs:List GV} {j:Nat} {g g':GV} (hg:gs[j]? = some g) (hx:∀v F,MV w D g v F→MV w D g' v F):∀v F,MV w D (.agg gs) v F→MV w D (.agg (gs.set j g')) v F:=fun v F h=>by
 simp only[MV] at h ⊢
 obtain ⟨vs,h1,h2,h3⟩:=h
 refine ⟨vs,h1,h2,?_⟩
 obtain ⟨pr,u,po,B1,Bj,B2,n1,n2,n3,n4,n5⟩:=ML.split gs vs F j _ h3 hg
 rw[n1,n3]
 exact n5 g' u Bj (hx _ _ n4)
theorem FE.virtF {env:Env} {H:GH} {r r1 sz sz1 i j:Nat} {es gs:List GV} (hr:Z6 H r=some (sz,es)) (he:es[i]? = some (.agg gs)) (hg:gs[j]? = some (.val (.slice none 0 0))) (ho:r1 % 4=1) (hn:r1∉names H) :
 FE env H env ((r1,sz1,[])::Z1 H r (es.set i (.agg (gs.set j (.own r1 sz1 0 0))))):=
 FE.trans (FE.exch hr he (fun _ _ => MV.fld hg MV.nil_own)) (FE.addv ho (by rw[Ym];exact hn))
theorem FR.all {g g':GV} {H:GH} (hb:Bor H g g'):FR g H g' []:=fun w D Ω v hv hst=>
 ⟨fun b=>D b∨b∈Ω,[],hb w D Ω v hst hv,St.nil (fun b hb=>hb.elim (hst.ds b) (HM.flt hst.hm b)),
  ⟨fun _ h=> .inl h,fun _ _ h=>h,fun b hb _ => by simp at hb,Kept.refl _ _,rfl,rfl,rfl⟩⟩
theorem Pure.bor {P:Program} {f:FuncId} {gs:List GV} {G:GV} (h:GCalls P f gs [] (fun g H=>Bor H g G)):Pure P f gs (· = G):=
 h.fr fun _ _ hb=>⟨G,[],FR.all hb,rfl⟩
theorem Bor.allM {α:Type} {f:α→GV} {H:GH} {r sz n:Nat} {l:List α} (hv:∀a,view (f a)=f a) (hr:Z6 H r=some (sz,l.map f)) (hl:l.length=n):Bor H (.own r sz 0 n) (.sl sz (l.map f)):=
 Bor.all hr (by simpa using hl) (by rw[List.map_map];exact List.map_congr_left fun a _ => hv a)
theorem ploop {P:Program} {cf:Cfg} (mxd:P.follows .mixedOrders = true) {ι:Type} {x:GC} {Q:Exit→Env→GH→Prop} {env:Env} {H:GH} (E:ι→Env) (G:ι→GH) (μ:ι→Nat) (i0:ι) (h0:subE env (E i0)) (hh:subH H (G i0))
 (round:∀i,neH (G i)→gwp P cf x (thenG (Nx E G μ i) Q) (E i) (G i)):GW P cf (.loop x) Q env H:=
 GW.loop E G μ i0 (FE.trans (FE.of h0) (FE.perm0 hh)) fun i=>GW.names fun hn=>Y1 mxd (round i (Y3 hn))
theorem px {ι:Type} {E:ι→Env} {G:ι→GH} {μ:ι→Nat} {i:ι} {e:Env} {H:GH} (j:ι) (hm:μ j<μ i) (h:subE e (E j)) (hh:subH H (G j)):Nx E G μ i e H:=
 ⟨j,FE.trans (FE.of h) (FE.perm0 hh),hm⟩
theorem vfresh (ns:List Nat):∃v,v % 4=1∧v∉ns:=by
 refine ⟨4 * ns.foldr max 0+1,by omega,fun h=> ?_⟩
 have:=le_foldr_max ns _ h
 omega
end Go.Gh
