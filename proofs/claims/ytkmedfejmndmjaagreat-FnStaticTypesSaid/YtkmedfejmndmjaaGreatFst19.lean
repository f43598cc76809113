/- The law FnStaticTypes returns true whatever the input, and the input reads behind the call as before. No condition. -/
import Derived.Test.YtkmedfejmndmjaaGreatFst10
set_option maxHeartbeats 40000000
set_option maxRecDepth 20000
set_option linter.unusedSimpArgs false
set_option linter.unusedVariables false
namespace Go.Proofs.YtkmedfejmndmjaaGreat
open Go.Gh
open Nat (reduceEqDiff reduceLeDiff reduceAdd reduceLT)
open Int (reduceNe)
theorem q31 (t:List Nod) (i:Int) (hl:t.length≤1048576) (hx:∀x∈t,x.kids.length≤1048576):Pu 31 [Tr t,I i] (· = IS (Zh t i)):=
 Pure.bor ((o31 t i hl hx []).mono fun v H' ⟨H1,⟨r,h1,h2⟩,h3⟩=>by
  subst h1;subst h2;subst h3
  exact X6 ZZ rfl)
theorem q29 (t:List Nod) (i:Int) (hl:t.length≤1048576) (hx:∀x∈t,x.kids.length≤1048576):Pu 29 [Tr t,I i] (· = IS (Zh t i)):=
 Pure.bor ((o29 t i hl hx []).mono fun v H' ⟨H1,⟨r,h1,h2⟩,h3⟩=>by
  subst h1;subst h2;subst h3
  exact X6 ZZ rfl)
theorem w73 (g:Gram) (t:List Nod) (i:Nat) (vs:List Int) (hg:ZE g) (hl:t.length≤1048576) (ht:Zs g t (Zr g t 0)=true) (hi:i<t.length) (hk:t[i].kids.length ≤ 1048576) (hv:(ZO g t).length = vs.length) :
 Pu 73 [Gr g,Tr t,I i,YK (ZO g t),IS vs] (· = SltS (slL g t i (ZO g t) vs)):=by
 have hkid:=tree_kids ht hi
 have hin {j:Nat} (hj:j<t.length) {a:Att} (ha:a∈(Zy g.syms (Zr g t j)).atts):=ixI_in (ins_in ht hj ha)
 have hslL:slL g t i (ZO g t) vs=slA g t (ZO g t) vs ((i:Int)::t[i].kids) (t[i].kids.length + 1):=by unfold slL;rw[Z6 hi]
 rw[hslL]
 generalize ZO g t=L at *
 obtain ⟨F,hF⟩:∃F:Nat→List Slo,∀n,F n=slA g t L vs ((i:Int)::t[i].kids) n:=⟨_,fun _ => rfl⟩
 have hF0:F 0=[]:=by rw[hF];rfl
 have hFs:∀n,F (n+1)=F n++slK g t L vs n (((i:Int)::t[i].kids).getD n 0):=fun n=>by rw[hF,hF];rfl
 rw[←hF]
 clear hF
 refine Pure.bor ?_
 refine Z5 mxd i73 rfl (by simp) ?_;refine X0 ?_
 (refine V0 ?_;with_reducible repeat' intro h)
 rename_i r0
 have hLb:∀n,n≤t[i].kids.length + 1→(F n).length ≤ n * 1048576:=by
  intro n
  induction n with
  | zero=>intro _;simp[hF0]
  | succ n ih=>
   intro hn
   have h1:=YR hg (Zr g t (((i:Int)::t[i].kids).getD n 0))
   unfold Yy at h1
   rw[hFs,List.length_append]
   simp only[slK,List.length_map]
   have:=ih oT
   omega
 refine Y1 mxd (ι:={ x:Nat×Nat // x.2≤t[i].kids.length + 1 }) (fun x=>[(2,I i),(3,YK L),(4,IS vs),(5,.rop 2 (Gr g)),(6,.rop 1 (Tr t)),(11,.own x.1.1 3 0 (F x.1.2).length),(12,I x.1.2)]) (fun x=>[(x.1.1,3,(F x.1.2).map Slt)]) (fun x=>t[i].kids.length + 1-x.1.2) ⟨(r0,0),by simp⟩ (by simp[E2,hF0]) (by simp[subH,ZV,names,hF0]) ?_
 rintro ⟨⟨q,n⟩,hn⟩ -
 dsimp only at hn ⊢
 rcases nL n (t[i].kids.length + 1) with hlt|hge
 ·have hbl:=hLb n oT
  have hn16:n * 1048576≤1099512676352:=by omega
  by_cases hn0:n=0
  ·have hjl:=hi
   have hat:((i:Int)::t[i].kids).getD n 0=(i:Int):=by subst hn0;rfl
   have hFn:=hFs n
   rw[hat] at hFn
   unfold slK at hFn
   replace hin:=fun {a:Att}=>hin hjl (a:=a)
   have hsm:=YR hg (Zr g t i)
   unfold Yy at hsm
   have h00:((0:Int)<n)=False:=eq_false oT
   (refine V1 (jO h00 (jO @gt_iff_lt.{0} @decide_false)) ?_;with_reducible repeat' first|intro h|apply jO)
   all_goals try exact oF
   (refine V0 ?_)
   refine callS.eq (w24 g t i hg) ?_
   (refine V0 ?_)
   refine callS.eq (w10 g _ hg) ?_
   generalize Zy g.syms (Zr g t i)=s at *
   obtain ⟨M,hM⟩:∃M:List Slo,M=s.atts.map fun a=>⟨n,a.name,slV t L vs i a⟩:=⟨_,rfl⟩
   rw[←hM] at hFn
   have hMl:M.length=s.atts.length:=by rw[hM];simp
   (refine V0 ?_)
   refine Y1 mxd (ι:={ x:Nat×Nat // x.2≤s.atts.length }) (fun x=>[(2,I i),(3,YK L),(4,IS vs),(5,.rop 2 (Gr g)),(6,.rop 1 (Tr t)),(11,.own x.1.1 3 0 ((F n).length + x.1.2)),(12,I n),(13,I i),(14,.rop 2 (Sy s)),(16,I x.1.2)]) (fun x=>[(x.1.1,3,(F n++M.take x.1.2).map Slt)]) (fun x=>s.atts.length-x.1.2) ⟨(q,0),by simp⟩ (by simp[E2]) (by simp[subH,ZV,names]) ?_
   rintro ⟨⟨q,k⟩,hk2⟩ hn2
   dsimp only at hk2 hn2 ⊢
   rcases nL k s.atts.length with hlt2|hge2
   ·have hx:=hin (gM hlt2)
    obtain ⟨b,hb⟩:∃b:Nat,ixI L (t[i].id,s.atts[k].name)=b:=⟨(ixI L (t[i].id,s.atts[k].name)).toNat,oT⟩
    rw[hb] at hx
    have hb2:b<vs.length:=by omega
    have hsv:slV t L vs i s.atts[k]=vs[b]:=by unfold slV;rw[Int.toNat_natCast,Z6 hjl,hb,Int.toNat_natCast,Z6 hb2]
    have hMk:M[k]'oT = ⟨n,s.atts[k].name,vs[b]⟩:=by simp only[hM,List.getElem_map,hsv]
    (refine V0 ?_;with_reducible repeat' first|intro h|apply jO)
    all_goals try exact oF
    refine callS.eq (w33 L (t[i].id,s.atts[k].name)) ?_
    rw[hb]
    (refine V1 (jO @List.length_append.{0} (jO @List.length_singleton.{0} (jO @List.length_map.{0,0} (jO @List.length_take.{0} (jO hMl @ZM))))) ?_;with_reducible repeat' first|intro h|refine aO ?_)
    all_goals try exact oF
    rename_i q2 _ q3
    have e:=takeApp3 Slt (F n) M k oT ((F n).length + k) (by simp;omega)
    rw[hMk] at e
    refine px ⟨(q3,k+1),oT⟩ (by simp<;>omega) (by simp[E2]<;>omega) ?_
    show subH _ [(q3,3,(F n++M.take (k+1)).map Slt)]
    rw[←e]
    exact (by repeat' (first|exact trivial|(refine jO (by simp only[Z9, *,if_true,if_false];try rfl) (jO (by simp[ZW,ZU, *]) ?_))))
   ·obtain rfl:k=s.atts.length:=by omega
    rw[tL oT,←hFn]
    have hFl:(F (n+1)).length = (F n).length + s.atts.length:=by rw[hFn,List.length_append,hMl]
    (refine V0 ?_;with_reducible repeat' intro h)
    all_goals try exact oF
    refine px ⟨(q,n+1),oT⟩ (by simp<;>omega) (by simp[E2,hFl]) ?_
    show subH _ [(q,3,(F (n+1)).map Slt)]
    exact (by repeat' (first|exact trivial|(refine jO (by simp only[Z9, *,if_true,if_false];try rfl) (jO (by simp[ZW,ZU, *]) ?_))))
  ·obtain ⟨m,rfl⟩:∃m,n=m+1:=⟨n-1,oT⟩
   have hm:m<t[i].kids.length := by omega
   have hc:=hkid _ (gM hm)
   obtain ⟨j,hj⟩:∃j:Nat,t[i].kids[m]=j:=⟨t[i].kids[m].toNat,oT⟩
   have hjl:j<t.length:=by omega
   have hat:((i:Int)::t[i].kids).getD (m+1) 0=(j:Int):=by rw[List.getD_cons_succ,Z6 hm,hj]
   have hFn:=hFs (m+1)
   rw[hat] at hFn
   unfold slK at hFn
   replace hin:=fun {a:Att}=>hin hjl (a:=a)
   have hsm:=YR hg (Zr g t j)
   unfold Yy at hsm
   have h00:((0:Int)<((m+1:Nat):Int))=True:=eq_true oT
   have hm1:((m+1:Nat):Int)-1=m:=by omega
   (refine V1 (jO h00 (jO hm1 (jO @Int.toNat_natCast (jO @gt_iff_lt.{0} @decide_true)))) ?_;with_reducible repeat' first|intro h|apply jO)
   all_goals try exact oF
   rw[hj]
   generalize hnm:m+1=n at *
   (refine V0 ?_)
   refine callS.eq (w24 g t j hg) ?_
   (refine V0 ?_)
   refine callS.eq (w10 g _ hg) ?_
   generalize Zy g.syms (Zr g t j)=s at *
   obtain ⟨M,hM⟩:∃M:List Slo,M=s.atts.map fun a=>⟨n,a.name,slV t L vs j a⟩:=⟨_,rfl⟩
   rw[←hM] at hFn
   have hMl:M.length=s.atts.length:=by rw[hM];simp
   (refine V0 ?_)
   refine Y1 mxd (ι:={ x:Nat×Nat // x.2≤s.atts.length }) (fun x=>[(2,I i),(3,YK L),(4,IS vs),(5,.rop 2 (Gr g)),(6,.rop 1 (Tr t)),(11,.own x.1.1 3 0 ((F n).length + x.1.2)),(12,I n),(13,I j),(14,.rop 2 (Sy s)),(16,I x.1.2)]) (fun x=>[(x.1.1,3,(F n++M.take x.1.2).map Slt)]) (fun x=>s.atts.length-x.1.2) ⟨(q,0),by simp⟩ (by simp[E2]) (by simp[subH,ZV,names]) ?_
   rintro ⟨⟨q,k⟩,hk2⟩ hn2
   dsimp only at hk2 hn2 ⊢
   rcases nL k s.atts.length with hlt2|hge2
   ·have hx:=hin (gM hlt2)
    obtain ⟨b,hb⟩:∃b:Nat,ixI L (t[j].id,s.atts[k].name)=b:=⟨(ixI L (t[j].id,s.atts[k].name)).toNat,oT⟩
    rw[hb] at hx
    have hb2:b<vs.length:=by omega
    have hsv:slV t L vs j s.atts[k]=vs[b]:=by unfold slV;rw[Int.toNat_natCast,Z6 hjl,hb,Int.toNat_natCast,Z6 hb2]
    have hMk:M[k]'oT = ⟨n,s.atts[k].name,vs[b]⟩:=by simp only[hM,List.getElem_map,hsv]
    (refine V0 ?_;with_reducible repeat' first|intro h|apply jO)
    all_goals try exact oF
    refine callS.eq (w33 L (t[j].id,s.atts[k].name)) ?_
    rw[hb]
    (refine V1 (jO @List.length_append.{0} (jO @List.length_singleton.{0} (jO @List.length_map.{0,0} (jO @List.length_take.{0} (jO hMl @ZM))))) ?_;with_reducible repeat' first|intro h|refine aO ?_)
    all_goals try exact oF
    rename_i q2 _ q3
    have e:=takeApp3 Slt (F n) M k oT ((F n).length + k) (by simp;omega)
    rw[hMk] at e
    refine px ⟨(q3,k+1),oT⟩ (by simp<;>omega) (by simp[E2]<;>omega) ?_
    show subH _ [(q3,3,(F n++M.take (k+1)).map Slt)]
    rw[←e]
    exact (by repeat' (first|exact trivial|(refine jO (by simp only[Z9, *,if_true,if_false];try rfl) (jO (by simp[ZW,ZU, *]) ?_))))
   ·obtain rfl:k=s.atts.length:=by omega
    rw[tL oT,←hFn]
    have hFl:(F (n+1)).length = (F n).length + s.atts.length:=by rw[hFn,List.length_append,hMl]
    (refine V0 ?_;with_reducible repeat' intro h)
    all_goals try exact oF
    refine px ⟨(q,n+1),oT⟩ (by simp<;>omega) (by simp[E2,hFl]) ?_
    show subH _ [(q,3,(F (n+1)).map Slt)]
    exact (by repeat' (first|exact trivial|(refine jO (by simp only[Z9, *,if_true,if_false];try rfl) (jO (by simp[ZW,ZU, *]) ?_))))
 ·obtain rfl:n=t[i].kids.length + 1:=by omega
  (refine V0 ?_;with_reducible repeat' intro h)
  all_goals try exact oF
  exact bor_Slt ZZ rfl
theorem w28 (g:Gram) (t:List Nod) (i:Nat) (vs:List Int) (hg:ZE g) (hl:t.length≤1048576) (hkk:∀x∈t,x.kids.length≤1048576) (ht:Zs g t (Zr g t 0)=true) (hi:i<t.length) (hv:(ZO g t).length = vs.length) :
 Pu 28 [Gr g,Tr t,I i,IS vs] (· = SltS (slL g t i (ZO g t) vs)):=by
 have hqi:=q61 g t hg hl hkk
 have hkid:=tree_kids ht hi
 have hkl:=tree_kl ht hi
 have hin {j:Nat} (hj:j<t.length) {a:Att} (ha:a∈(Zy g.syms (Zr g t j)).atts):=ixI_in (ins_in ht hj ha)
 have hslL:slL g t i (ZO g t) vs=slA g t (ZO g t) vs ((i:Int)::t[i].kids) (t[i].kids.length + 1):=by unfold slL;rw[Z6 hi]
 rw[hslL]
 generalize ZO g t=L at *
 have hks:∀n,∀h:n<((i:Int)::t[i].kids).length,∃j:Nat,((i:Int)::t[i].kids)[n]=j∧j<t.length:=fun n h=>by
  have hm:=gM h
  rcases List.mem_cons.1 hm with e|e
  ·exact ⟨i,e,hi⟩
  ·have:=hkid _ e
   exact ⟨(((i:Int)::t[i].kids)[n]).toNat,oT,oT⟩
 have hlc:((i:Int)::t[i].kids).length = t[i].kids.length + 1:=rfl
 have hke:(GV.val (.int .i64 (i:Int)))::t[i].kids.map I=((i:Int)::t[i].kids).map I:=rfl
 obtain ⟨F,hF⟩:∃F:Nat→List Slo,∀n,F n=slA g t L vs ((i:Int)::t[i].kids) n:=⟨_,fun _ => rfl⟩
 have hF0:F 0=[]:=by rw[hF];rfl
 have hFs:∀n,F (n+1)=F n++slK g t L vs n (((i:Int)::t[i].kids).getD n 0):=fun n=>by rw[hF,hF];rfl
 have hLb:∀n,(F n).length ≤ n * 1048576:=fun n=>by rw[hF];exact slA_len hg n
 rw[←hF]
 clear hF
 refine Pure.bor ?_
 refine Z5 mxd i28 rfl (by simp) ?_;refine X0 ?_
 (refine V0 ?_)
 refine callS.eq hqi ?_
 (refine V0 ?_;with_reducible repeat' intro h)
 rename_i r0
 refine callS.eq (w70 t i) ?_
 have hii:(0≤(i:Int)∧(i:Int)<t.length)=True:=eq_true oT
 have hvv:((vs.length:Int)=(L.length:Int))=True:=eq_true oT
 (refine V1 (jO hii (jO hvv @decide_true)) ?_;with_reducible repeat' first|intro h|refine aO ?_)
 all_goals try exact oF
 rename_i r2 _ r3
 rw[hke]
 generalize hksd:((i:Int)::t[i].kids)=ks at *
 generalize hkn:t[i].kids.length = m at *
 refine Y1 mxd (ι:={ x:Nat×Nat // x.2≤m+1 }) (fun x=>[(3,IS vs),(4,.rop 2 (Gr g)),(5,.rop 1 (Tr t)),(9,YK L),(10,.own x.1.1 3 0 (F x.1.2).length),(43,.own r3 1 0 (m+1)),(44,I ((m+1:Nat):Int)),(45,I x.1.2)]) (fun x=>[(x.1.1,3,(F x.1.2).map Slt),(r3,1,ks.map I)]) (fun x=>m+1-x.1.2) ⟨(r0,0),by simp⟩ (by simp[E2,hF0]<;>omega) (by simp[subH,ZV,names,hF0, *]) ?_
 rintro ⟨⟨q,n⟩,hn⟩ hne
 dsimp only at hn hne ⊢
 rcases nL n (m+1) with hlt|hge
 ·have hbl:=hLb n
  have hn16:n * 1048576≤1048576 * 17:=by omega
  have hnl:n<ks.length:=by omega
  obtain ⟨j,hj,hjl⟩:=hks n hnl
  have hat:ks.getD n 0=(j:Int):=by rw[Z6 hnl,hj]
  have hFn:=hFs n
  rw[hat] at hFn
  unfold slK at hFn
  replace hin:=fun {a:Att}=>hin hjl (a:=a)
  have hsm:=YR hg (Zr g t j)
  unfold Yy at hsm
  (replace hne:=hne;simp only[VN] at hne)
  (refine V1 (jO hj hne) ?_;with_reducible repeat' first|intro h|apply jO)
  all_goals try exact oF
  refine callS.eq (w71 g t j hg) ?_
  (refine V0 ?_)
  refine callS.eq (w48 g _ hg) ?_
  generalize Zy g.syms (Zr g t j)=s at *
  obtain ⟨M,hM⟩:∃M:List Slo,M=s.atts.map fun a=>⟨n,a.name,slV t L vs j a⟩:=⟨_,rfl⟩
  rw[←hM] at hFn
  have hMl:M.length=s.atts.length:=by rw[hM];simp
  (refine V1 hne ?_)
  refine Y1 mxd (ι:={ x:Nat×Nat // x.2≤s.atts.length }) (fun x=>[(3,IS vs),(4,.rop 2 (Gr g)),(5,.rop 1 (Tr t)),(9,YK L),(10,.own x.1.1 3 0 ((F n).length + x.1.2)),(11,I n),(12,I j),(43,.own r3 1 0 (m+1)),(44,I ((m+1:Nat):Int)),(45,I n),(60,AtS s.atts),(61,I s.atts.length),(62,I x.1.2)]) (fun x=>[(x.1.1,3,(F n++M.take x.1.2).map Slt),(r3,1,ks.map I)]) (fun x=>s.atts.length-x.1.2) ⟨(q,0),by simp⟩ (by simp[E2]) (by simp[subH,ZV,names, *]) ?_
  rintro ⟨⟨q,k⟩,hk2⟩ hn2
  dsimp only at hk2 hn2 ⊢
  (replace hn2:=hn2;simp only[VN] at hn2)
  rcases nL k s.atts.length with hlt2|hge2
  ·have hx:=hin (gM hlt2)
   obtain ⟨b,hb⟩:∃b:Nat,ixI L (t[j].id,s.atts[k].name)=b:=⟨(ixI L (t[j].id,s.atts[k].name)).toNat,oT⟩
   rw[hb] at hx
   have hb2:b<vs.length:=by omega
   have hsv:slV t L vs j s.atts[k]=vs[b]:=by unfold slV;rw[Int.toNat_natCast,Z6 hjl,hb,Int.toNat_natCast,Z6 hb2]
   have hMk:M[k]'oT = ⟨n,s.atts[k].name,vs[b]⟩:=by simp only[hM,List.getElem_map,hsv]
   have hjj:(0≤(j:Int)∧(j:Int)<t.length)=True:=eq_true oT
   (refine V1 hn2 ?_;with_reducible repeat' first|intro h|apply jO)
   all_goals try exact oF
   refine callS.eq (w70 t j) ?_
   (refine V1 (jO hjj (jO @decide_true hn2)) ?_)
   all_goals try exact oF
   refine callS.eq (w72 L (t[j].id,s.atts[k].name)) ?_
   rw[hb]
   (refine V1 (jO @List.length_append.{0} (jO @List.length_singleton.{0} (jO @List.length_map.{0,0} (jO @List.length_take.{0} (jO hMl (jO @ZM hn2)))))) ?_;with_reducible repeat' first|intro h|refine aO ?_)
   all_goals try exact oF
   rename_i q2 _ q3
   have e:=takeApp3 Slt (F n) M k oT ((F n).length + k) (by simp;omega)
   rw[hMk] at e
   refine px ⟨(q3,k+1),oT⟩ (by simp<;>omega) (by simp[E2]<;>omega) ?_
   show subH _ [(q3,3,(F n++M.take (k+1)).map Slt),(r3,1,ks.map I)]
   rw[←e]
   exact (by repeat' (first|exact trivial|(refine jO (by simp only[Z9, *,if_true,if_false];try rfl) (jO (by simp[ZW,ZU, *]) ?_))))
  ·obtain rfl:k=s.atts.length:=by omega
   rw[tL oT,←hFn]
   have hFl:(F (n+1)).length = (F n).length + s.atts.length:=by rw[hFn,List.length_append,hMl]
   (refine V1 hn2 ?_;with_reducible repeat' intro h)
   all_goals try exact oF
   refine px ⟨(q,n+1),oT⟩ (by simp<;>omega) (by simp[E2,hFl]) ?_
   show subH _ [(q,3,(F (n+1)).map Slt),(r3,1,ks.map I)]
   exact (by repeat' (first|exact trivial|(refine jO (by simp only[Z9, *,if_true,if_false];try rfl) (jO (by simp[ZW,ZU, *]) ?_))))
 ·obtain rfl:n=m+1:=by omega
  (refine V0 ?_;with_reducible repeat' intro h)
  all_goals try exact oF
  exact bor_Slt ZZ rfl
theorem w62 (g:Gram) (t:List Nod) (x:Oc) (vs:List Int) (hg:ZE g) (ho:okGr g) (hl:t.length≤1048576) (hkk:∀x∈t,x.kids.length≤1048576) (ht:Zs g t (Zr g t 0)=true) (hv:(ZO g t).length = vs.length) :
 Pu 62 [Gr g,Tr t,Ins x,IS vs] (· = I (vaX g t (ZO g t) vs x)):=by
 unfold vaX evV
 refine Z5 mxd i62 rfl (by simp) ?_;refine X0 ?_
 (refine V0 ?_)
 refine callS.eq (q109 g t x hg hl) ?_
 rcases bC (Y6 g t x) with hd|hd
 ·(refine V1 hd ?_;with_reducible repeat' exact trivial)
  all_goals try simp[hd]
 ·obtain ⟨j,hj,hjl⟩:=defO_in hd
  have hk:=tree_kl ht hjl
  have hids:=tree_ids ht hjl
  have hoe:=defE_ok ho t x
  have hwe:=defE_small hg t x
  have hsl:=w28 g t j vs hg hl hkk ht hjl hv
  simp only[hj,hd,if_true,Int.toNat_natCast,Z6 hjl]
  generalize Zf g t x=e at *
  generalize slL g t j (ZO g t) vs=sl at *
  (refine V0 ?_)
  all_goals try exact oF
  refine callS.eq hsl ?_
  (refine V0 ?_)
  all_goals try exact oF
  refine callS.eq (q29 t j hl hkk) ?_
  (refine V0 ?_)
  rw[←Y3]
  refine callS.eq (w110 e sl _ _ hoe hwe hids) ?_
  (refine V0 ?_;with_reducible repeat' exact trivial)
end Go.Proofs.YtkmedfejmndmjaaGreat
