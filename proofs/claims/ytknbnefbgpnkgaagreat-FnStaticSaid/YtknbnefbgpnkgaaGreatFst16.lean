/- The laws FnStatic and FnStaticTypes return true whatever the input, and the input reads behind the call as before. No condition. -/
import Derived.Test.YtknbnefbgpnkgaaGreatFst9
import Derived.Test.YtknbnefbgpnkgaaGreatFst15
set_option maxHeartbeats 40000000
set_option maxRecDepth 20000
set_option linter.unusedSimpArgs false
set_option linter.unusedVariables false
namespace Go.Proofs.YtknbnefbgpnkgaaGreat
open Go.Gh
open Nat (reduceEqDiff reduceLeDiff reduceAdd reduceLT)
open Int (reduceNe)
end Go.Proofs.YtknbnefbgpnkgaaGreat
namespace Go.Proofs.YtknbnefbgpnkgaaGreat
open Go.Gh
open Nat (reduceEqDiff reduceLeDiff reduceAdd reduceLT)
open Int (reduceNe)
theorem w156 (dn:List Bool) (row:List Int) (hr:∀k∈row, -1≤k∧k<dn.length):Pu 156 [BS dn,IS row] (· = B (metB dn row)):=by
 refine GCalls.lenA fun hlen=> ?_
 have hl1:=hlen.1.1
 have hl2:=hlen.2.1.1
 simp only[List.length_map,Zn] at hl1 hl2
 refine Z5 mxd i156 rfl (by simp) ?_;refine X0 ?_
 (refine V0 ?_)
 refine ZL mxd (ι:={ i:Nat // i≤row.length∧∀k∈row.take i,(decide (k<0)||dn.getD k.toNat false)=true }) (fun i=>[(0,BS dn),(1,IS row),(5,I i.1)]) (fun _ => []) (fun i=>row.length-i.1) ⟨0,by simp⟩ (by simp[E2]) rfl ?_
 rintro ⟨i,hi,hn⟩
 rcases nL i row.length with hlt|hge
 ·have hk:=hr row[i] (gM hlt)
  by_cases h0:0≤row[i]
  ·have hd:row[i].toNat < dn.length:=by omega
   have hg:dn.getD row[i].toNat false=dn[row[i].toNat]:=Z6 hd
   by_cases hb:dn[row[i].toNat]=true
   ·(refine V1 (jO h0 hb) ?_;with_reducible repeat' first|intro h|apply jO)
    all_goals first
     | exact nx ⟨i+1,oT,Zt hlt (by rw[hg,hb];simp) hn⟩ (by simp;omega) (by simp[E2]) rfl
     | (exfalso;omega)
   ·have hb':dn[row[i].toNat]=false:=by simpa using hb
    have e:metB dn row=false:=all_no hlt (by rw[hg,hb'];simp;omega)
    rw[e]
    (refine V1 (jO h0 hb') ?_;with_reducible repeat' intro h)
    all_goals first|rfl|(exfalso;omega)
  ·(refine V1 h0 ?_;with_reducible repeat' first|intro h|apply jO)
   all_goals first
    | exact nx ⟨i+1,oT,Zt hlt (by have:row[i]<0:=oT;simp[this]) hn⟩ (by simp;omega) (by simp[E2]) rfl
    | (exfalso;omega)
 ·obtain rfl:i=row.length:=by omega
  rw[List.take_length] at hn
  have e:metB dn row=true:=all_yes hn
  rw[e]
  (refine V0 ?_;with_reducible repeat' first|intro h|refine aO ?_)
  all_goals first|rfl|(exfalso;omega)
theorem o99 (T:List (List Int)) (hT:okT T) (H:GH):Gc 99 [TbS T] H (fun v H'=>∃H1,(∃r,v = .tup [.own r 1 0 (Y7 T).length,B (ordB T)]∧H1=[(r,1,(Y7 T).map I)])∧H'=H1++H):=by
 have h0:Gc 99 [TbS T] H (fun v H'=>∃r L,v = .tup [.own r 1 0 (Y7 T).length,B (ordB T)]∧ZV L r=some (1,(Y7 T).map I)∧H'=L++H):=by
  have hTl:=hT.1
  refine Z5 mxd i99 rfl (by simp) ?_;refine X0 ?_
  (refine V0 ?_;with_reducible repeat' first|intro h|refine aO ?_)
  all_goals try exact oF
  rename_i q0 _ d0
  refine X6 mxd (ι:={ y:(Nat×Nat)×List Int // ordI T y.2 }) (fun y=>[(0,TbS T),(4,.own y.1.1.1 1 0 y.1.2.length),(5,.own y.1.1.2 1 0 T.length)]) (fun y=>(y.1.1.2,1,(dnL T.length y.1.2).map B)::(y.1.1.1,1,y.1.2.map I)::H) (fun y=>T.length-y.1.2.length) ⟨((q0,d0),[]),ordI_start T⟩ (by simp[E2]) (by simp[dnL_zero]) ?_
  rintro ⟨⟨⟨q,d⟩,out⟩,hO⟩ hn
  dsimp only at hO hn ⊢
  replace hn:=Z4 hn
  (replace hn:=hn;simp only[VN] at hn)
  have hol:=hO.1
  have hdl:=dnL_len T.length out
  rcases nL out.length T.length with hlt|hge
  ·(refine V1 hn ?_;with_reducible repeat' first|intro h|apply jO)
   all_goals try exact oF
   refine ZL mxd (ι:={ m:Nat // m≤T.length }) (fun m=>[(0,TbS T),(4,.own q 1 0 out.length),(5,.own d 1 0 T.length),(6,I (firstG T.length (YE T out) m.1)),(7,I ((m.1:Int)-1))]) (fun m=>(d,1,(dnL T.length out).map B)::(q,1,out.map I)::H) (fun m=>m.1) ⟨T.length,Nat.le_refl _⟩ (by rw[firstG_top];simp[E2]) rfl ?_
   rintro ⟨m,hm⟩
   rcases Nat.eq_zero_or_pos m with hz|hp
   ·subst hz
    simp only[firstG_zero]
    have hfr:=XW T.length (YE T out)
    by_cases hf:Zr T.length (YE T out)<0
    ·obtain ⟨e1,e2⟩:=ordI_stuck hO hlt hf
     rw[e1,e2]
     (refine V1 (jO hn hf) ?_;with_reducible repeat' intro h)
     all_goals try exact oF
     rename_i r5
     exact ⟨r5,[(r5,_),(d,_),(q,_)],rfl,by simp[ZV],rfl⟩
    ·have hnx:=ordI_next hO hlt oT
     obtain ⟨a,ha⟩:∃a:Nat,Zr T.length (YE T out)=a:=⟨(Zr T.length (YE T out)).toNat,oT⟩
     rw[ha] at hnx hfr hf ⊢
     have hal:a<T.length:=by omega
     (refine V1 (jO hn (jO hf (jO @List.length_append.{0} (jO @List.length_singleton.{0} (jO @List.length_map.{0,0} (jO @List.length_take.{0} (jO @List.length_set.{0} (jO hdl @ZM)))))))) ?_;with_reducible repeat' first|intro h|refine aO ?_)
     all_goals try exact oF
     rename_i r5 _ r6
     refine nxF ⟨((r6,d),out++[(a:Int)]),hnx⟩ (by simp;omega) (FE.perm (H:=[_,_,_]) (L:=[(d,_),(r6,_)]) (by repeat' (first|exact trivial|(refine jO (by simp only[Z9, *,if_true,if_false];try rfl) (jO (by simp[ZW,ZU, *]) ?_))))) (by simp[E2]) ?_
     rw[dnL_snoc hal,List.map_set,tL (by simp),List.map_append]
     rfl
   ·obtain ⟨j,rfl⟩:∃j,m=j+1:=⟨m-1,oT⟩
    have hj:((j+1:Nat):Int)-1=j:=by omega
    have hjl:j<T.length:=by omega
    have hjd:j<(dnL T.length out).length := by omega
    have hrd:=rdyT_eq hT (out:=out) hjl
    have hdj:=dnL_get (n:=T.length) (out:=out) hjd
    have hrow:=fun k hk=>(hT.2 _ (gM hjl)).2 k hk
    by_cases hd:YM out (j:Int)=true
    ·rw[hd] at hdj hrd
     have hno:YE T out j=false:=by rw[hrd];rfl
     have hg:=firstG_no (n:=T.length) hno
     simp only[hj]
     (refine V1 (jO hn (jO hdj (jO hdl @List.length_map.{0,0}))) ?_)
     all_goals first
      | exact nx ⟨j,oT⟩ (by simp) (by simp only[hg];simp[E2]) rfl
      | (exfalso;omega)
      | trace_state
    ·have hd':YM out (j:Int)=false:=by simpa using hd
     rw[hd'] at hdj hrd
     simp only[Bool.not_false,Bool.true_and] at hrd
     simp only[hj]
     (refine V1 (jO hn (jO hdj (jO hdl @List.length_map.{0,0}))) ?_)
     all_goals try exact oF
     refine callS.borA (w156 (dnL T.length out) T[j] (by rw[hdl];exact hrow)) (.cons (bor_BS (by simp[Z9]) hdl) (.cons .refl .nil)) rfl ?_
     by_cases hm2:metB (dnL T.length out) T[j]=true
     ·rw[hm2] at hrd
      have hg:=firstG_yes hjl hrd
      (refine V1 (jO hn hm2) ?_)
      all_goals first
       | exact nx ⟨j,oT⟩ (by simp) (by simp only[hg];simp[E2]) rfl
       | (exfalso;omega)
       | trace_state
     ·have hm2':metB (dnL T.length out) T[j]=false:=by simpa using hm2
      rw[hm2'] at hrd
      have hg:=firstG_no (n:=T.length) hrd
      (refine V1 (jO hn hm2') ?_)
      all_goals first
       | exact nx ⟨j,oT⟩ (by simp) (by simp only[hg];simp[E2]) rfl
       | (exfalso;omega)
       | trace_state
  ·obtain ⟨e1,e2⟩:=ordI_end hO oT
   rw[e1,e2]
   (refine V1 hn ?_;with_reducible repeat' intro h)
   all_goals try exact oF
   exact ⟨q,[(d,_),(q,_)],rfl,by simp[ZV,hn],rfl⟩
 refine h0.fr ?_
 rintro v H' ⟨r,L,rfl,hr,rfl⟩
 exact ⟨_,_,FR.perm (H:=L) (L:=[(r,1,(Y7 T).map I)]) ⟨hr,by simp[names],trivial⟩,_,⟨r,rfl,rfl⟩,rfl⟩
theorem o48 (g:Gram) (t:List Nod) (hg:ZI g) (hl:t.length≤1048576) (hk:∀x∈t,x.kids.length≤1048576) (H:GH):Gc 48 [Gr g,Tr t] H (fun v H'=>∃H1,(∃r,v = .tup [.own r 1 0 (Y7 (Zq g t)).length,B (ordB (Zq g t))]∧H1=[(r,1,(Y7 (Zq g t)).map I)])∧H'=H1++H):=by
 refine Z5 mxd i48 rfl (by simp) ?_;refine X0 ?_
 (refine V0 ?_)
 refine callS.eq (q77 g t hg hl hk) ?_
 (refine V0 ?_)
 refine callS.of (o99 (Zq g t) (tabI_ok hg t) _) ?_
 rintro v H' ⟨H1,⟨r,rfl,rfl⟩,rfl⟩ hn
 (refine V0 ?_)
 exact ⟨_,⟨r,rfl,rfl⟩,rfl⟩
theorem o137 (l:List Int) (f:Nat) (cs:List GV) (p:Int→Bool) (H:GH) (hp:∀k∈l,Gc f (I k::cs) H (fun v H'=>v=B (p k)∧H'=H)) :
 Gc 137 [IS l,.clo f cs] H (fun v H'=>v=I (Zu p l)∧H'=H):=by
 refine GCalls.lenA fun hlen=> ?_
 have hlen:=hlen.1.1
 simp only[List.length_map,Zn] at hlen
 refine Z5 mxd i137 rfl (by simp) ?_;refine X0 ?_
 (refine V0 ?_)
 refine ZL mxd (ι:={ i:Nat // i≤l.length∧∀y∈l.take i,p y=false }) (fun i=>[(0,IS l),(1,.clo f cs),(7,I l.length),(8,I i.1)]) (fun _ => H) (fun i=>l.length-i.1) ⟨0,by simp⟩ (by simp[E2]) rfl ?_
 rintro ⟨i,hi,hn⟩
 rcases nL i l.length with hlt|hge
 ·(refine V0 ?_;with_reducible repeat' first|intro h|apply jO)
  all_goals try exact oF
  refine callS.of (hp l[i] (gM hlt)) ?_
  rintro v H' ⟨rfl,rfl⟩ -
  by_cases hb:p l[i]=true
  ·have e:=YT hlt hb hn
   rw[e]
   (refine V1 hb ?_;with_reducible repeat' exact trivial)
  ·have hb':p l[i]=false:=by simpa using hb
   (refine V1 hb' ?_)
   exact nx ⟨i+1,oT,ZA hlt hb' hn⟩ (by simp;omega) (by simp[E2]) rfl
 ·obtain rfl:i=l.length:=by omega
  rw[List.take_length] at hn
  rw[YV hn]
  (refine V0 ?_;with_reducible repeat' intro h)
  all_goals first|(exfalso;omega)|skip
theorem w137 (l:List Int) (f:Nat) (cs:List GV) (p:Int→Bool) (hp:∀k∈l,Pu f (I k::cs) (· = B (p k))) :
 Pu 137 [IS l,.clo f cs] (· = I (Zu p l)):=
 (o137 l f cs p [] fun k hk=>(hp k hk).frame []).mono fun v H' h=>h.1
theorem o90 (l:List Int) (f:Nat) (cs:List GV) (p:Int→Bool) (H:GH) (hp:∀k∈l,Gc f (I k::cs) H (fun v H'=>v=B (p k)∧H'=H)) :
 Gc 90 [IS l,.clo f cs] H (fun v H'=>v=B (l.any p)∧H'=H):=by
 refine Z5 mxd i90 rfl (by simp) ?_;refine X0 ?_
 (refine V0 ?_)
 refine callS.of (o137 l f cs p H hp) ?_
 rintro v H' ⟨rfl,rfl⟩ -
 (refine V0 ?_)
 rw[any_ix]
theorem o133 (L:List Int) (f:Nat) (cs:List GV) (p:Int→Bool) (r n:Nat) (T:GH) (hL:L.length=n) (hb:n≤4194304) (hcs:∀H',BorL H' cs cs) (hp:∀k∈L,Pu f (I k::cs) (· = B (p k))) :
 Gc 133 [.own r 1 0 n,.clo f cs] ((r,1,L.map I)::T) (fun v H'=>v = .own r 1 0 (L.filter fun k=> !p k).length ∧ H'=(r,1,(L.filter fun k=> !p k).map I)::T):=by
 subst hL
 have hix:=w137 L f cs p hp
 refine Z5 mxd i133 rfl (by simp) ?_;refine X0 ?_
 (refine V0 ?_)
 refine callS.borA hix (.cons (Yd ZZ rfl) (.cons (Bor.clo (hcs _)) .nil)) rfl ?_
 rcases XR p L with hno|hyes
 ·have hf:=ixOf_no hno
  rw[filter_all hf]
  simp only[hno]
  (refine V0 ?_;with_reducible repeat' exact trivial)
 ·obtain ⟨i,hi⟩:∃i:Nat,Zu p L=i:=⟨(Zu p L).toNat,oT⟩
  obtain ⟨h1,h2⟩:=dlI_start hi
  have hil:i<L.length:=by omega
  have hne:¬((i:Int) = -1):=by omega
  rw[hi]
  (refine V1 hne ?_)
  all_goals try exact oF
  refine ZL mxd (ι:={ y:Nat×List Int // dlI L p y.1 y.2 }) (fun y=>[(0,.own r 1 0 L.length),(1,.clo f cs),(5,I ((L.take y.1.1).filter fun k=> !p k).length),(6,I y.1.1)]) (fun y=>(r,1,y.1.2.map I)::T) (fun y=>L.length-y.1.1) ⟨(i+1,L),h1⟩ (by simp only[h2];simp[E2]) rfl ?_
  rintro ⟨⟨j,X⟩,hI⟩
  obtain ⟨hj1,hx1,hx2,hx3,hx4⟩:=id hI
  dsimp only at hI hj1 hx1 hx2 hx3 hx4 ⊢
  rcases nL j L.length with hlt|hge
  ·have hg:=dlI_get hI hlt oT
   (refine V1 (jO @List.length_map.{0,0} (jO hx1 hg)) ?_;with_reducible repeat' first|intro h|refine aO ?_|apply jO)
   all_goals try exact oF
   refine callS.eq (hp L[j] (gM hlt)) ?_
   by_cases hb2:p L[j]=true
   ·obtain ⟨b1,b2⟩:=dlI_drop hI hlt hb2
    (refine V1 hb2 ?_)
    exact nx ⟨(j+1,X),b1⟩ (by simp;omega) (by simp only[b2];simp[E2]) rfl
   ·have hb3:p L[j]=false:=by simpa using hb2
    obtain ⟨b1,b2⟩:=dlI_keep hI hlt hb3
    (refine V1 (jO hb3 (jO @List.length_map.{0,0} hx1)) ?_)
    all_goals try exact oF
    refine nx ⟨(j+1,_),b1⟩ (by simp;omega) (by simp only[b2];simp[E2]) ?_
    rw[List.map_set]
  ·have hje:j=L.length:=by omega
   have hle:=List.length_filter_le (fun k=> !p k) L
   rw[hje,List.take_length] at hx3
   simp only[hje,List.take_length]
   (refine V1 (jO @List.length_map.{0,0} hx1) ?_;with_reducible repeat' first|intro h|refine aO ?_|apply jO)
   all_goals first|omega|(simp;done)|(rw[←List.map_take,hx3])
theorem w134 (T:List (List Int)) (k:Int) (hT:T.length≤16777216):Pu 134 [I k,.rop 1 (TbS T)] (· = B (!decide (0≤k∧k≤(T.length:Int)-1))):=by
 refine Z5 mxd i134 rfl (by simp) ?_;refine X0 ?_
 (refine V0 ?_)
 all_goals try exact oF
 refine callS.eq (w57 _ _ _) ?_
 (refine V0 ?_;with_reducible repeat' exact trivial)
theorem o112 (xs:List Int) (hx:xs.length≤4194304) (H:GH):Gc 112 [IS xs] H (fun g H'=>∃H1,(∃r,g = .own r 1 0 xs.length∧H1=[(r,1,xs.map I)])∧H'=H1++H):=by
 have h0:Gc 112 [IS xs] H (fun g H'=>(xs=[]∧g = .val (.slice none 0 0)∧H'=H)∨∃r,g = .own r 1 0 xs.length∧H'=(r,1,xs.map I)::H):=by
  refine Z5 mxd i112 rfl (by simp) ?_;refine X0 ?_
  (refine R0 ?_)
  by_cases hxs:xs=[]
  ·subst hxs
   simp only[List.map_nil,List.isEmpty_nil,if_true]
   exact ⟨.inl trivial,fun r hr=>⟨by simp,by simp,fun r hr=> .inr ⟨r,rfl,rfl⟩⟩⟩
  ·rw[if_neg (by simpa using hxs)]
   exact fun r hr=>⟨oT,oT,fun r hr=> .inr ⟨r,rfl,rfl⟩⟩
 refine h0.fr ?_
 rintro g H' (⟨rfl,rfl,rfl⟩|⟨r,rfl,rfl⟩)
 ·exact ⟨_,_,FR.trans (FR.addv (r:=Yp H') (sz:=1) (vname_odd H') (vname_new H')) (FR.sub (Bor.virt (r:=Yp H') (sz:=1))),_,⟨Yp H',rfl,rfl⟩,rfl⟩
 ·exact ⟨_,_,FR.refl _ _,_,⟨r,rfl,rfl⟩,rfl⟩
theorem o87 (T:List (List Int)) (hT:okT T) (H:GH):Gc 87 [TbS T] H (fun v H'=>∃r,v = .own r 1 0 T.length∧H'=(r,1,(fltT T).map ItO)::H):=by
 have hTl:=hT.1
 have hF:fltT T=T.map (fltR T.length):=rfl
 rw[hF]
 refine Z5 mxd i87 rfl (by simp) ?_;refine X0 ?_
 (refine V0 ?_;with_reducible repeat' intro h)
 rename_i r0
 refine X6 mxd (ι:={ y:Nat×Nat // y.2≤T.length }) (fun y=>[(1,.rop 1 (TbS T)),(3,.own y.1.1 1 0 y.1.2),(7,TbS T),(8,I T.length),(9,I y.1.2)]) (fun y=>(y.1.1,1,((T.take y.1.2).map (fltR T.length)).map ItO)::H) (fun y=>T.length-y.1.2) ⟨(r0,0),by simp⟩ (by simp[E2]) (by simp) ?_
 rintro ⟨⟨q,i⟩,hi⟩ hn
 dsimp only at hi hn ⊢
 replace hn:=Z4 hn
 (replace hn:=hn;simp only[VN] at hn)
 rcases nL i T.length with hlt|hge
 ·have hrw:=hT.2 T[i] (gM hlt)
  (refine V1 hn ?_;with_reducible repeat' first|intro h|apply jO)
  all_goals try exact oF
  refine callS.of (o112 T[i] oT _) ?_
  rintro v H' ⟨H1,⟨rc,rfl,rfl⟩,rfl⟩ hn2
  simp only[List.cons_append,List.nil_append] at hn2 ⊢
  replace hn2:=Z4 hn2
  (replace hn2:=hn2;simp only[VN] at hn2)
  (refine V1 hn2 ?_)
  refine callS.of (o133 T[i] 134 [.rop 1 (TbS T)] (fun k=> !decide (0≤k∧k≤(T.length:Int)-1)) rc _ _ rfl oT (fun _ => .cons .refl .nil) (fun k _ => w134 T k hTl)) ?_
  rintro v H' ⟨rfl,rfl⟩ -
  rw[fltR_eq]
  have hfl:(fltR T.length T[i]).length ≤ T[i].length := List.length_filter_le _ _
  (refine V1 (jO hn2 (jO @List.length_append.{0} (jO @List.length_singleton.{0} (jO @List.length_map.{0,0} (jO @List.length_take.{0} @ZM))))) ?_;with_reducible repeat' first|intro h|refine aO ?_)
  all_goals try exact oF
  rename_i r5 _ r6
  refine nxF ⟨(r6,i+1),oT⟩ (by simp;omega) (FE.trans (FE.perm (H:=[_,_,_]) (L:=[(r6,_),(rc,_)]) (by repeat' (first|exact trivial|(refine jO (by simp only[Z9, *,if_true,if_false];try rfl) (jO (by simp[ZW,ZU, *]) ?_))))) (FE.closeE2 (by simp[*]) (by simp))) (by simp[E2]) ?_
  rw[Yk ItO (fltR T.length) T i hlt]
  rfl
 ·obtain rfl:i=T.length:=by omega
  (refine V1 hn ?_;with_reducible repeat' intro h)
  all_goals try exact oF
  rw[List.take_length]
  exact ⟨q,rfl,rfl⟩
theorem q87 (T:List (List Int)) (hT:okT T):Pu 87 [TbS T] (· = TbS (fltT T)):=
 Pure.bor ((o87 T hT []).mono fun v H' ⟨r,h1,h2⟩=>by
  subst h1;subst h2
  exact bor_Tb ZZ (by simp[fltT]))
theorem o91 (k:Int) (b q:Nat) (out:List Int) (H:GH) (hb:ZV H b=some (1,[.own q 1 0 out.length])) (hq:ZV H q=some (1,out.map I)) :
 Gc 91 [I k,.ptr b 1 0 0] H (fun v H'=>v=B (!YM out k)∧H'=H):=by
 refine Z5 mxd i91 rfl (by simp) ?_;refine X0 ?_
 (refine V1 hb ?_)
 refine callS.borA (w89 out k) (.cons (Yd hq rfl) (.cons .refl .nil)) rfl ?_
 rw[any_ix]
 (refine V0 ?_)
 simp[YM]
theorem o43 (g:Gram) (t:List Nod) (hg:ZI g) (hl:t.length≤1048576) (hk:∀x∈t,x.kids.length≤1048576) (H:GH):Gc 43 [Gr g,Tr t] H (fun v H'=>∃H1,(∃r,v = .tup [.own r 1 0 (Y7 (Zq g t)).length,B (ordB (Zq g t))]∧H1=[(r,1,(Y7 (Zq g t)).map I)])∧H'=H1++H):=by
 have hT:=tabI_ok hg t
 have q1:=q88 g t hg hl hk
 have q2:=q87 (Zq g t) hT
 have h0:Gc 43 [Gr g,Tr t] H (fun v H'=>(∃r L,v = .tup [.own r 1 0 (Y7 (Zq g t)).length,B (ordB (Zq g t))]∧ZV L r=some (1,(Y7 (Zq g t)).map I)∧H'=L++H)∨(Y7 (Zq g t)=[]∧ordB (Zq g t)=false∧v = .tup [.val (.slice none 0 0),B false]∧∃L,H'=L++H)):=by
  generalize Zq g t=T at *
  have hTl:=hT.1
  have hFl:(fltT T).length = T.length:=by simp[fltT]
  refine Z5 mxd i43 rfl (by simp) ?_;refine X0 ?_
  (refine V0 ?_)
  refine callS.eq q1 ?_
  (refine V0 ?_)
  refine callS.eq q2 ?_
  (refine V0 ?_;with_reducible repeat' intro h)
  rename_i q0 _ b0
  refine X6 mxd (ι:={ y:Nat×List Int // ordI T y.2 }) (fun y=>[(2,.rop 2 (Gr g)),(3,.rop 1 (Tr t)),(6,TbS (fltT T)),(7,.ptr b0 1 0 0)]) (fun y=>(b0,1,[.own y.1.1 1 0 y.1.2.length])::(y.1.1,1,y.1.2.map I)::H) (fun y=>T.length-y.1.2.length) ⟨(q0,[]),ordI_start T⟩ (by simp[E2]) (by simp) ?_
  rintro ⟨⟨q,out⟩,hO⟩ hn
  dsimp only at hO hn ⊢
  replace hn:=Z4 hn
  (replace hn:=hn;simp only[VN] at hn)
  have hol:=hO.1
  rcases nL out.length T.length with hlt|hge
  ·(refine V1 (jO hn hFl) ?_;with_reducible repeat' first|intro h|apply jO)
   all_goals try exact oF
   refine ZL mxd (ι:={ i:Nat // i≤T.length∧∀j,j<i→YE T out j=false }) (fun i=>[(2,.rop 2 (Gr g)),(3,.rop 1 (Tr t)),(6,TbS (fltT T)),(7,.ptr b0 1 0 0),(8,I (-1)),(21,TbS (fltT T)),(22,I T.length),(23,I i.1)]) (fun _ => (b0,1,[.own q 1 0 out.length])::(q,1,out.map I)::H) (fun i=>T.length-i.1) ⟨0,by simp⟩ (by simp[E2]) rfl ?_
   rintro ⟨i,hi,hni⟩
   rcases nL i T.length with hlt2|hge2
   ·have hif:i<(fltT T).length := by omega
    have hrow:=fltT_get hif hlt2
    have hrd:=rdyT_flt hT (out:=out) hlt2
    have hc:=w89 out (i:Int)
    rw[any_ix] at hc
    simp only[show (out.any fun y=>decide (y=(i:Int)))=YM out i from rfl] at hc
    (refine V1 (jO hn (jO hFl @List.length_map.{0,0})) ?_;with_reducible repeat' first|intro h|refine aO ?_|apply jO)
    all_goals try exact oF
    refine callS.borA hc (.cons (Yd (by simp[Z9,hn]) rfl) (.cons .refl .nil)) rfl ?_
    by_cases hd:YM out (i:Int)=true
    ·rw[hd] at hrd
     (refine V1 (jO hn hd) ?_)
     all_goals try exact oF
     exact nx ⟨i+1,oT,lt_step hrd hni⟩ (by simp;omega) (by simp[E2]) rfl
    ·have hd':YM out (i:Int)=false:=by simpa using hd
     rw[hd'] at hrd
     simp only[Bool.not_false,Bool.true_and] at hrd
     (refine V1 (jO hn hd') ?_)
     all_goals try exact oF
     rw[hrow]
     refine callS.of (o90 (fltR T.length T[i]) 91 [.ptr b0 1 0 0] (fun k=> !YM out k) _ (fun k _ => o91 k b0 q out _ ZZ (by simp[Z9,hn]))) ?_
     rintro v H' ⟨rfl,rfl⟩ -
     by_cases hm:((fltR T.length T[i]).any fun k=> !YM out k)=true
     ·rw[hm] at hrd
      (refine V1 (jO hn hm) ?_)
      all_goals try exact oF
      exact nx ⟨i+1,oT,lt_step hrd hni⟩ (by simp;omega) (by simp[E2]) rfl
     ·have hm':((fltR T.length T[i]).any fun k=> !YM out k)=false:=by simpa using hm
      rw[hm'] at hrd
      have hfi:Zr T.length (YE T out)=i:=XX hlt2 hrd hni
      have hnx:=ordI_next hO hlt (by rw[hfi];omega)
      rw[hfi] at hnx
      (refine V1 (jO hn (jO hm' (jO @List.length_append.{0} (jO @List.length_singleton.{0} (jO @List.length_map.{0,0} (jO @List.length_take.{0} @ZM)))))) ?_;with_reducible repeat' first|intro h|refine aO ?_)
      all_goals try exact oF
      rename_i r5 _ r6
      refine nxF ⟨(r6,out++[(i:Int)]),hnx⟩ (by simp;omega) (FE.perm (H:=[_,_,_]) (L:=[(b0,_),(r6,_)]) (by repeat' (first|exact trivial|(refine jO (by simp only[Z9, *,if_true,if_false];try rfl) (jO (by simp[ZW,ZU, *]) ?_))))) (by simp[E2]) ?_
      rw[tL (by simp),List.map_append,List.length_append]
      rfl
   ·have hfi:Zr T.length (YE T out) = -1:=Yf fun j hj=>hni j oT
    obtain ⟨e1,e2⟩:=ordI_stuck hO hlt (by rw[hfi];omega)
    rw[e1,e2]
    (refine V1 (jO hn hFl) ?_;with_reducible repeat' first|intro h|refine aO ?_|apply jO)
    all_goals try exact oF
    exact .inr ⟨[(b0,_),(q,_)],rfl⟩
  ·obtain ⟨e1,e2⟩:=ordI_end hO oT
   rw[e1,e2]
   (refine V1 (jO hn hFl) ?_;with_reducible repeat' intro h)
   all_goals try exact oF
   exact .inl ⟨q,[(b0,_),(q,_)],rfl,by simp[ZV,hn],rfl⟩
 refine h0.fr ?_
 rintro v H' (⟨r,L,rfl,hr,rfl⟩|⟨e1,e2,rfl,L,rfl⟩)
 ·exact ⟨_,_,FR.perm (H:=L) (L:=[(r,1,(Y7 (Zq g t)).map I)]) ⟨hr,by simp[names],trivial⟩,_,⟨r,rfl,rfl⟩,rfl⟩
 ·rw[e1,e2]
  refine ⟨_,_,FR.trans (FR.perm (H:=L) (L:=[]) trivial) (FR.trans (FR.addv (r:=Yp ([]++H)) (sz:=1) (vname_odd _) (vname_new _)) (FR.sub (.tup (.cons (Bor.virt (r:=Yp ([]++H)) (sz:=1)) (.cons .refl .nil))))),_,⟨Yp ([]++H),rfl,rfl⟩,rfl⟩
theorem q48 (g:Gram) (t:List Nod) (hg:ZI g) (hl:t.length≤1048576) (hk:∀x∈t,x.kids.length≤1048576):Pu 48 [Gr g,Tr t] (· = .tup [IS (Y7 (Zq g t)),B (ordB (Zq g t))]):=
 Pure.bor ((o48 g t hg hl hk []).mono fun v H' ⟨H1,⟨r,h1,h2⟩,h3⟩=>by
  subst h1;subst h2;subst h3
  exact .tup (.cons (Yd ZZ rfl) (.cons .refl .nil)))
theorem q43 (g:Gram) (t:List Nod) (hg:ZI g) (hl:t.length≤1048576) (hk:∀x∈t,x.kids.length≤1048576):Pu 43 [Gr g,Tr t] (· = .tup [IS (Y7 (Zq g t)),B (ordB (Zq g t))]):=
 Pure.bor ((o43 g t hg hl hk []).mono fun v H' ⟨H1,⟨r,h1,h2⟩,h3⟩=>by
  subst h1;subst h2;subst h3
  exact .tup (.cons (Yd ZZ rfl) (.cons .refl .nil)))
end Go.Proofs.YtknbnefbgpnkgaaGreat
