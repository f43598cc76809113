/- The laws FnStatic and FnStaticTypes return true whatever the input, and the input reads behind the call as before. No condition. -/
import Derived.Test.YtknbnefbgpnkgaaGreatFst28
import Derived.Test.YtknbnefbgpnkgaaGreatFst29
set_option maxHeartbeats 40000000
set_option maxRecDepth 20000
set_option linter.unusedSimpArgs false
set_option linter.unusedVariables false
namespace Go.Proofs.YtknbnefbgpnkgaaGreat
open Go.Gh
open Nat (reduceEqDiff reduceLeDiff reduceAdd reduceLT)
open Int (reduceNe)
theorem w160 (t:List Oc) (f:Nat) (cs:List GV) (p:Oc→Bool) (hp:∀x∈t,Pu f (Ins x::cs) (· = B (p x))) :
 Pu 160 [YP t,.clo f cs] (· = I (Zu p t)):=by
 refine GCalls.lenA fun hl=> ?_
 have hlen:=hl.1.1
 simp only[List.length_map,Zn] at hlen
 refine Z5 mxd i160 rfl (by simp) ?_;refine X0 ?_
 (refine V0 ?_)
 refine ZL mxd (ι:={ i:Nat // i≤t.length∧∀y∈t.take i,p y=false }) (fun i=>[(0,YP t),(1,.clo f cs),(7,I t.length),(8,I i.1)]) (fun _ => []) (fun i=>t.length-i.1) ⟨0,by simp⟩ (by simp[E2]) rfl ?_
 rintro ⟨i,hi,hn⟩
 rcases nL i t.length with hlt|hge
 ·(refine V1 @XE ?_;with_reducible repeat' first|intro h|apply jO)
  all_goals try exact oF
  refine callS.eq (hp t[i] (gM hlt)) ?_
  by_cases hb:p t[i]=true
  ·have e:=YT hlt hb hn
   rw[e]
   (refine V1 hb ?_;with_reducible repeat' exact trivial)
  ·have hb':p t[i]=false:=by simpa using hb
   (refine V1 hb' ?_)
   exact nx ⟨i+1,oT,ZA hlt hb' hn⟩ (by simp;omega) (by simp[E2]) rfl
 ·obtain rfl:i=t.length:=by omega
  rw[List.take_length] at hn
  rw[YV hn]
  (refine V0 ?_;with_reducible repeat' intro h)
  all_goals first|(exfalso;omega)|skip
theorem w102 (t:List Oc) (f:Nat) (cs:List GV) (p:Oc→Bool) (hp:∀x∈t,Pu f (Ins x::cs) (· = B (p x))) :
 Pu 102 [YP t,.clo f cs] (· = B (t.any p)):=by
 refine Z5 mxd i102 rfl (by simp) ?_;refine X0 ?_
 refine callS.eq (w160 t f cs p hp) ?_
 (refine R0 ?_)
 rw[←any_ix]
theorem w49 (g:Gram) (t:List Nod) (x:Oc) (vs:List Int) (hg:ZI g) (ho:okGr g) (hl:t.length≤1048576) (hkk:∀x∈t,x.kids.length≤1048576) (ht:Zh g t (Zi g t 0)=true) (hv:(ZQ g t).length = vs.length) :
 Pu 49 [Gr g,Tr t,Ins x,YP (ZQ g t),IS vs] (· = I (vaX g t (ZQ g t) vs x)):=by
 unfold vaX evV
 refine Z5 mxd i49 rfl (by simp) ?_;refine X0 ?_
 (refine V0 ?_)
 refine callS.eq (w100 g t x hg hl) ?_
 rcases bC (Y9 g t x) with hd|hd
 ·(refine V1 hd ?_;with_reducible repeat' exact trivial)
  all_goals try simp[hd]
 ·obtain ⟨j,hj,hjl⟩:=defO_in hd
  have hk:=tree_kl ht hjl
  have hids:=tree_ids ht hjl
  have hoe:=defE_ok ho t x
  have hwe:=XY hg t x
  have hsl:=w85 g t j vs hg hl ht hjl oT hv
  simp only[hj,hd,if_true,Int.toNat_natCast,Z6 hjl]
  generalize Zj g t x=e at *
  generalize slL g t j (ZQ g t) vs=sl at *
  (refine V0 ?_)
  all_goals try exact oF
  refine callS.eq hsl ?_
  (refine V0 ?_)
  all_goals try exact oF
  refine callS.eq (q36 t j hl hkk) ?_
  (refine V0 ?_)
  rw[←Y6]
  refine callS.eq (w101 e sl _ _ hoe hwe hids) ?_
  (refine V0 ?_;with_reducible repeat' exact trivial)
theorem w14 (g:Gram) (t:List Nod) (vs:List Int) (hg:ZI g) (ho:okGr g) (hl:t.length≤1048576) (hkk:∀x∈t,x.kids.length≤1048576) (hvl:vs.length≤1048576) :
 Pu 14 [Gr g,Tr t,IS vs] (· = B (solB g t vs)):=by
 have hqi:=q27 g t hg hl hkk
 have hst:=w28 g hg ho
 unfold solB
 by_cases h2:0<(ZQ g t).length ∧ (ZQ g t).length = vs.length
 ·obtain ⟨h2,h3⟩:=h2
  have htr:=insL_tree h2
  have hva:∀x,Pu 49 [Gr g,Tr t,Ins x,YP (ZQ g t),IS vs] (· = I (vaX g t (ZQ g t) vs x)):=fun x=>w49 g t x vs hg ho hl hkk htr h3
  generalize ZQ g t=L at *
  have hL0:((L.length:Int)=0)=False:=eq_false oT
  have hL1:((L.length:Int)=vs.length)=True:=eq_true oT
  have h2':0<vs.length:=by omega
  simp only[h2',h3,decide_true,Bool.true_and]
  refine Z5 mxd i14 rfl (by simp) ?_;refine X0 ?_
  (refine V0 ?_)
  refine callS.eq hqi ?_
  (refine V0 ?_)
  refine callS.eq hst ?_
  rcases bC (staS g) with hb|hb
  ·simp only[hb,Bool.false_and]
   (refine V0 ?_;with_reducible repeat' exact trivial)
  simp only[hb,Bool.true_and]
  (refine V1 (jO hb (jO hL0 (jO hL1 (jO @decide_true @decide_false)))) ?_)
  all_goals try exact oF
  obtain ⟨p,hp⟩:∃p:Nat→Bool,∀i,p i=decide (vs.getD i 0=vaX g t L vs (L.getD i (0,noS))):=⟨_,fun _ => rfl⟩
  simp only[←hp]
  refine ZL mxd (ι:={ i:Nat // i≤L.length∧∀k,k<i→p k=true }) (fun i=>[(2,IS vs),(3,.rop 2 (Gr g)),(4,.rop 1 (Tr t)),(7,YP L),(8,I i.1)]) (fun _ => []) (fun i=>L.length-i.1) ⟨0,by simp⟩ (by simp[E2]) rfl ?_
  rintro ⟨i,hi,hn⟩
  rcases nL i L.length with hlt|hge
  ·have hiv:i<vs.length:=by omega
   have hpi:=hp i
   rw[Z6 hlt,Z6 hiv] at hpi
   (refine V0 ?_;with_reducible repeat' first|intro h|apply jO)
   all_goals try exact oF
   refine callS.eq (hva L[i]) ?_
   by_cases hc:vs[i]=vaX g t L vs L[i]
   ·have hc':=eq_true hc
    rw[decide_eq_true hc] at hpi
    (refine V1 (jO hc' @decide_true) ?_)
    exact nx ⟨i+1,oT,fun k hk=>by
     by_cases e:k=i
     ·rw[e];exact hpi
     ·exact hn k oT⟩ (by simp;omega) (by simp[E2]) rfl
   ·have hc':=eq_false hc
    rw[decide_eq_false hc] at hpi
    have hf:((List.range vs.length).all fun i=>p i)=false:=by
     rw[List.all_eq_false]
     exact ⟨i,by rw[List.mem_range];omega,by simp[hpi]⟩
    rw[hf]
    (refine V1 (jO hc' @decide_false) ?_;with_reducible repeat' exact trivial)
  ·obtain rfl:i=L.length:=by omega
   have hf:((List.range vs.length).all fun i=>p i)=true:=by
    rw[List.all_eq_true]
    exact fun k hk=>hn k (by rw[List.mem_range] at hk;omega)
   rw[hf]
   (refine V0 ?_;with_reducible repeat' intro h)
   all_goals try exact oF
 ·have hres:((staS g&&(decide (0<(ZQ g t).length)&&(decide ((ZQ g t).length = vs.length)&&(List.range vs.length).all fun i=>decide (vs.getD i 0=vaX g t (ZQ g t) vs ((ZQ g t).getD i (0,noS)))))):Bool)=false:=by
   by_cases h4:0<(ZQ g t).length
   ·have h5:¬(ZQ g t).length = vs.length:=fun e=>h2 ⟨h4,e⟩
    simp[h5]
   ·simp[h4]
  rw[hres]
  generalize ZQ g t=L at *
  refine Z5 mxd i14 rfl (by simp) ?_;refine X0 ?_
  (refine V0 ?_)
  refine callS.eq hqi ?_
  (refine V0 ?_)
  refine callS.eq hst ?_
  rcases bC (staS g) with hb|hb
  ·(refine V1 hb ?_;with_reducible repeat' exact trivial)
  by_cases hL0:L.length=0
  ·have hL0':((L.length:Int)=0)=True:=eq_true oT
   (refine V1 (jO hb (jO hL0' @decide_true)) ?_;with_reducible repeat' exact trivial)
   all_goals try exact oF
  ·have hL0':((L.length:Int)=0)=False:=eq_false oT
   have hL1:((L.length:Int)=vs.length)=False:=eq_false oT
   (refine V1 (jO hb (jO hL0' (jO hL1 @decide_false))) ?_;with_reducible repeat' exact trivial)
   all_goals try exact oF
theorem w34 (g:Gram) (t:List Nod) (i:Nat) (vs:List Int) (hg:ZI g) (hl:t.length≤1048576) (hkk:∀x∈t,x.kids.length≤1048576) (ht:Zh g t (Zi g t 0)=true) (hi:i<t.length) (hv:(ZQ g t).length = vs.length) :
 Pu 34 [Gr g,Tr t,I i,IS vs] (· = SltS (slL g t i (ZQ g t) vs)):=by
 have hqi:=q46 g t hg hl hkk
 have hkid:=tree_kids ht hi
 have hkl:=tree_kl ht hi
 have hin {j:Nat} (hj:j<t.length) {a:Att} (ha:a∈(Zz g.syms (Zi g t j)).atts):=ixI_in (ins_in ht hj ha)
 have hslL:slL g t i (ZQ g t) vs=slA g t (ZQ g t) vs ((i:Int)::t[i].kids) (t[i].kids.length + 1):=by unfold slL;rw[Z6 hi]
 rw[hslL]
 generalize ZQ g t=L at *
 have hks:∀n,∀h:n<((i:Int)::t[i].kids).length,∃j:Nat,((i:Int)::t[i].kids)[n]=j∧j<t.length:=fun n h=>by
  have hm:=gM h
  rcases List.mem_cons.1 hm with e|e
  ·exact ⟨i,e,hi⟩
  ·have:=hkid _ e
   exact ⟨(((i:Int)::t[i].kids)[n]).toNat,oT,oT⟩
 have hlc:((i:Int)::t[i].kids).length = t[i].kids.length + 1:=rfl
 have hke:(GV.val (.int .i64 (i:Int)))::t[i].kids.map I=((i:Int)::t[i].kids).map I:=rfl
 obtain ⟨F,hF⟩:∃F:Nat→List Slo,∀n,F n=slA g t L vs ((i:Int)::t[i].kids) n:=⟨_,fun _ => rfl⟩
 have hF0:F 0=[]:=by rw[hF];rfl
 have hFs:∀n,F (n+1)=F n++slK g t L vs n (((i:Int)::t[i].kids).getD n 0):=fun n=>by rw[hF,hF];rfl
 have hLb:∀n,(F n).length ≤ n * 1048576:=fun n=>by rw[hF];exact slA_len hg n
 rw[←hF]
 clear hF
 refine Pure.bor ?_
 refine Z5 mxd i34 rfl (by simp) ?_;refine X0 ?_
 (refine V0 ?_)
 refine callS.eq hqi ?_
 (refine V0 ?_;with_reducible repeat' intro h)
 rename_i r0
 refine callS.eq (w81 t i) ?_
 have hii:(0≤(i:Int)∧(i:Int)<t.length)=True:=eq_true oT
 have hvv:((vs.length:Int)=(L.length:Int))=True:=eq_true oT
 (refine V1 (jO hii (jO hvv @decide_true)) ?_;with_reducible repeat' first|intro h|refine aO ?_)
 all_goals try exact oF
 rename_i r2 _ r3
 rw[hke]
 generalize hksd:((i:Int)::t[i].kids)=ks at *
 generalize hkn:t[i].kids.length = m at *
 refine Y2 mxd (ι:={ x:Nat×Nat // x.2≤m+1 }) (fun x=>[(3,IS vs),(4,.rop 2 (Gr g)),(5,.rop 1 (Tr t)),(9,YP L),(10,.own x.1.1 3 0 (F x.1.2).length),(43,.own r3 1 0 (m+1)),(44,I ((m+1:Nat):Int)),(45,I x.1.2)]) (fun x=>[(x.1.1,3,(F x.1.2).map Slt),(r3,1,ks.map I)]) (fun x=>m+1-x.1.2) ⟨(r0,0),by simp⟩ (by simp[E2,hF0]<;>omega) (by simp[subH,ZV,names,hF0, *]) ?_
 rintro ⟨⟨q,n⟩,hn⟩ hne
 dsimp only at hn hne ⊢
 rcases nL n (m+1) with hlt|hge
 ·have hbl:=hLb n
  have hn16:n * 1048576≤1048576 * 17:=by omega
  have hnl:n<ks.length:=by omega
  obtain ⟨j,hj,hjl⟩:=hks n hnl
  have hat:ks.getD n 0=(j:Int):=by rw[Z6 hnl,hj]
  have hFn:=hFs n
  rw[hat] at hFn
  unfold slK at hFn
  replace hin:=fun {a:Att}=>hin hjl (a:=a)
  have hsm:=YQ hg (Zi g t j)
  unfold Yw at hsm
  (replace hne:=hne;simp only[VN] at hne)
  (refine V1 (jO hj hne) ?_;with_reducible repeat' first|intro h|apply jO)
  all_goals try exact oF
  refine callS.eq (w83 g t j hg) ?_
  (refine V0 ?_)
  refine callS.eq (w82 g _ hg) ?_
  generalize Zz g.syms (Zi g t j)=s at *
  obtain ⟨M,hM⟩:∃M:List Slo,M=s.atts.map fun a=>⟨n,a.name,slV t L vs j a⟩:=⟨_,rfl⟩
  rw[←hM] at hFn
  have hMl:M.length=s.atts.length:=by rw[hM];simp
  (refine V1 hne ?_)
  refine Y2 mxd (ι:={ x:Nat×Nat // x.2≤s.atts.length }) (fun x=>[(3,IS vs),(4,.rop 2 (Gr g)),(5,.rop 1 (Tr t)),(9,YP L),(10,.own x.1.1 3 0 ((F n).length + x.1.2)),(11,I n),(12,I j),(43,.own r3 1 0 (m+1)),(44,I ((m+1:Nat):Int)),(45,I n),(60,AtS s.atts),(61,I s.atts.length),(62,I x.1.2)]) (fun x=>[(x.1.1,3,(F n++M.take x.1.2).map Slt),(r3,1,ks.map I)]) (fun x=>s.atts.length-x.1.2) ⟨(q,0),by simp⟩ (by simp[E2]) (by simp[subH,ZV,names, *]) ?_
  rintro ⟨⟨q,k⟩,hk2⟩ hn2
  dsimp only at hk2 hn2 ⊢
  (replace hn2:=hn2;simp only[VN] at hn2)
  rcases nL k s.atts.length with hlt2|hge2
  ·have hx:=hin (gM hlt2)
   obtain ⟨b,hb⟩:∃b:Nat,ixI L (t[j].id,s.atts[k].name)=b:=⟨(ixI L (t[j].id,s.atts[k].name)).toNat,oT⟩
   rw[hb] at hx
   have hb2:b<vs.length:=by omega
   have hsv:slV t L vs j s.atts[k]=vs[b]:=by unfold slV;rw[Int.toNat_natCast,Z6 hjl,hb,Int.toNat_natCast,Z6 hb2]
   have hMk:M[k]'oT = ⟨n,s.atts[k].name,vs[b]⟩:=by simp only[hM,List.getElem_map,hsv]
   have hjj:(0≤(j:Int)∧(j:Int)<t.length)=True:=eq_true oT
   (refine V1 hn2 ?_;with_reducible repeat' first|intro h|apply jO)
   all_goals try exact oF
   refine callS.eq (w81 t j) ?_
   (refine V1 (jO hjj (jO @decide_true hn2)) ?_)
   all_goals try exact oF
   refine callS.eq (w84 L (t[j].id,s.atts[k].name)) ?_
   rw[hb]
   (refine V1 (jO @List.length_append.{0} (jO @List.length_singleton.{0} (jO @List.length_map.{0,0} (jO @List.length_take.{0} (jO hMl (jO @ZM hn2)))))) ?_;with_reducible repeat' first|intro h|refine aO ?_)
   all_goals try exact oF
   rename_i q2 _ q3
   have e:=takeApp3 Slt (F n) M k oT ((F n).length + k) (by simp;omega)
   rw[hMk] at e
   refine px ⟨(q3,k+1),oT⟩ (by simp<;>omega) (by simp[E2]<;>omega) ?_
   show subH _ [(q3,3,(F n++M.take (k+1)).map Slt),(r3,1,ks.map I)]
   rw[←e]
   exact (by repeat' (first|exact trivial|(refine jO (by simp only[Z9, *,if_true,if_false];try rfl) (jO (by simp[ZW,ZU, *]) ?_))))
  ·obtain rfl:k=s.atts.length:=by omega
   rw[tL oT,←hFn]
   have hFl:(F (n+1)).length = (F n).length + s.atts.length:=by rw[hFn,List.length_append,hMl]
   (refine V1 hn2 ?_;with_reducible repeat' intro h)
   all_goals try exact oF
   refine px ⟨(q,n+1),oT⟩ (by simp<;>omega) (by simp[E2,hFl]) ?_
   show subH _ [(q,3,(F (n+1)).map Slt),(r3,1,ks.map I)]
   exact (by repeat' (first|exact trivial|(refine jO (by simp only[Z9, *,if_true,if_false];try rfl) (jO (by simp[ZW,ZU, *]) ?_))))
 ·obtain rfl:n=m+1:=by omega
  (refine V0 ?_;with_reducible repeat' intro h)
  all_goals try exact oF
  exact bor_Slt ZZ rfl
theorem w47 (g:Gram) (t:List Nod) (x:Oc) (vs:List Int) (hg:ZI g) (ho:okGr g) (hl:t.length≤1048576) (hkk:∀x∈t,x.kids.length≤1048576) (ht:Zh g t (Zi g t 0)=true) (hv:(ZQ g t).length = vs.length) :
 Pu 47 [Gr g,Tr t,Ins x,IS vs] (· = I (vaX g t (ZQ g t) vs x)):=by
 unfold vaX evV
 refine Z5 mxd i47 rfl (by simp) ?_;refine X0 ?_
 (refine V0 ?_)
 refine callS.eq (q97 g t x hg hl) ?_
 rcases bC (Y9 g t x) with hd|hd
 ·(refine V1 hd ?_;with_reducible repeat' exact trivial)
  all_goals try simp[hd]
 ·obtain ⟨j,hj,hjl⟩:=defO_in hd
  have hk:=tree_kl ht hjl
  have hids:=tree_ids ht hjl
  have hoe:=defE_ok ho t x
  have hwe:=XY hg t x
  have hsl:=w34 g t j vs hg hl hkk ht hjl hv
  simp only[hj,hd,if_true,Int.toNat_natCast,Z6 hjl]
  generalize Zj g t x=e at *
  generalize slL g t j (ZQ g t) vs=sl at *
  (refine V0 ?_)
  all_goals try exact oF
  refine callS.eq hsl ?_
  (refine V0 ?_)
  all_goals try exact oF
  refine callS.eq (q35 t j hl hkk) ?_
  (refine V0 ?_)
  rw[←Y6]
  refine callS.eq (w98 e sl _ _ hoe hwe hids) ?_
  (refine V0 ?_;with_reducible repeat' exact trivial)
theorem w103 (g:Gram) (t:List Nod) (x:Oc) (vs:List Int) (hg:ZI g) (ho:okGr g) (hl:t.length≤1048576) (hkk:∀x∈t,x.kids.length≤1048576) (ht:Zh g t (Zi g t 0)=true) (hv:(ZQ g t).length = vs.length) (hx:x∈ZQ g t) :
 Pu 103 [Ins x,.rop 1 (IS vs),.rop 1 (YP (ZQ g t)),.rop 2 (Gr g),.rop 1 (Tr t)] (· = B (badS g t vs x)):=by
 have hd:=w47 g t x vs hg ho hl hkk ht hv
 have hx2:=ixI_in hx
 unfold badS
 generalize vaX g t (ZQ g t) vs x=v at *
 generalize ZQ g t=L at *
 obtain ⟨b,hb⟩:∃b:Nat,ixI L x=b:=⟨(ixI L x).toNat,oT⟩
 rw[hb] at hx2
 have hb2:b<vs.length:=by omega
 rw[hb,Int.toNat_natCast,Z6 hb2]
 refine Z5 mxd i103 rfl (by simp) ?_;refine X0 ?_
 (refine V0 ?_)
 refine callS.eq (w84 L x) ?_
 rw[hb]
 (refine V0 ?_)
 all_goals try exact oF
 refine callS.eq hd ?_
 (refine V0 ?_;with_reducible repeat' exact trivial)
theorem w50 (g:Gram) (t:List Nod) (vs:List Int) (hg:ZI g) (ho:okGr g) (hl:t.length≤1048576) (hkk:∀x∈t,x.kids.length≤1048576) :
 Pu 50 [Gr g,Tr t,IS vs] (· = B (decide (0<(ZQ g t).length)&&(decide ((ZQ g t).length = vs.length) && !(ZQ g t).any (badS g t vs)))):=by
 have hqi:=q46 g t hg hl hkk
 by_cases h2:0<(ZQ g t).length
 case neg=>
  have h20:((0:Int)<(ZQ g t).length)=False:=eq_false oT
  simp only[h2,decide_false,Bool.false_and]
  generalize ZQ g t=L at *
  refine Z5 mxd i50 rfl (by simp) ?_;refine X0 ?_
  (refine V0 ?_)
  refine callS.eq hqi ?_
  (refine V1 (jO h20 (jO @gt_iff_lt.{0} @decide_false)) ?_;with_reducible repeat' exact trivial)
 by_cases h3:(ZQ g t).length = vs.length
 case neg=>
  have h20:((0:Int)<(ZQ g t).length)=True:=eq_true oT
  have h30:((vs.length:Int)=(ZQ g t).length)=False:=eq_false oT
  simp only[h3,decide_false,Bool.false_and,Bool.and_false]
  generalize ZQ g t=L at *
  refine Z5 mxd i50 rfl (by simp) ?_;refine X0 ?_
  (refine V0 ?_)
  refine callS.eq hqi ?_
  (refine V1 (jO h20 (jO h30 (jO @gt_iff_lt.{0} (jO @decide_false @decide_true)))) ?_;with_reducible repeat' exact trivial)
 have htr:=insL_tree h2
 have hcl:=w102 (ZQ g t) 103 [.rop 1 (IS vs),.rop 1 (YP (ZQ g t)),.rop 2 (Gr g),.rop 1 (Tr t)] (badS g t vs) fun x hx=>w103 g t x vs hg ho hl hkk htr h3 hx
 have h20:((0:Int)<(ZQ g t).length)=True:=eq_true oT
 have h30:((vs.length:Int)=(ZQ g t).length)=True:=eq_true oT
 have h2':0<vs.length:=by omega
 simp only[h2',h3,decide_true,Bool.true_and]
 generalize (ZQ g t).any (badS g t vs)=res at *
 generalize ZQ g t=L at *
 refine Z5 mxd i50 rfl (by simp) ?_;refine X0 ?_
 (refine V0 ?_)
 refine callS.eq hqi ?_
 (refine V1 (jO h20 (jO h30 (jO @gt_iff_lt.{0} @decide_true))) ?_)
 refine callS.eq hcl ?_
 (refine V0 ?_;with_reducible repeat' exact trivial)
theorem w13 (g:Gram) (t:List Nod) (vs:List Int) (hg:ZI g) (ho:okGr g) (hl:t.length≤1048576) (hkk:∀x∈t,x.kids.length≤1048576) :
 Pu 13 [Gr g,Tr t,IS vs] (· = B (solB g t vs)):=by
 rw[solB_eq]
 unfold solI
 have hso:=w50 g t vs hg ho hl hkk
 generalize (decide (0<(ZQ g t).length)&&(decide ((ZQ g t).length = vs.length) && !(ZQ g t).any (badS g t vs)))=res at *
 refine Z5 mxd i13 rfl (by simp) ?_;refine X0 ?_
 (refine V0 ?_)
 refine callS.eq (w44 g hg ho) ?_
 rcases bC (staS g) with hb|hb
 ·simp only[hb,Bool.false_and]
  (refine V0 ?_;with_reducible repeat' exact trivial)
 simp only[hb,Bool.true_and]
 (refine V0 ?_)
 refine callS.eq hso ?_
 (refine V0 ?_;with_reducible repeat' exact trivial)
end Go.Proofs.YtknbnefbgpnkgaaGreat
