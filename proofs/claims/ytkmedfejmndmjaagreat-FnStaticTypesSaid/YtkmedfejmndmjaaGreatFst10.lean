/- The law FnStaticTypes returns true whatever the input, and the input reads behind the call as before. No condition. -/
import Derived.Test.YtkmedfejmndmjaaGreatFst3
import Derived.Test.YtkmedfejmndmjaaGreatFst8
import Derived.Test.YtkmedfejmndmjaaGreatFst9
set_option maxHeartbeats 40000000
set_option maxRecDepth 20000
set_option linter.unusedSimpArgs false
set_option linter.unusedVariables false
namespace Go.Proofs.YtkmedfejmndmjaaGreat
open Go.Gh
open Nat (reduceEqDiff reduceLeDiff reduceAdd reduceLT)
open Int (reduceNe)
theorem o204 (e : Exp) (l : List Oc) (hl : l.length ≤ 4194304) (rb q : Nat) (T : GH) : Gc 204 [Ex e, .ptr rb 1 0 0] ((q, 2, l.map Occ) :: (rb, 1, [.own q 2 0 l.length]) :: T)
    (fun v H' => ∃ q', v = B true ∧ H' = (q', 2, (l ++ occ1 e).map Occ) :: (rb, 1, [.own q' 2 0 (l ++ occ1 e).length]) :: T) := by
  refine GCalls.nd fun hn => ?_
  replace hn := Z4 hn
  (replace hn := hn; simp only [VN] at hn)
  by_cases hk : e.kind = 3
  · have h0 : Gc 204 [Ex e, .ptr rb 1 0 0] ((q, 2, l.map Occ) :: (rb, 1, [.own q 2 0 l.length]) :: T)
        (fun v H' => ∃ q' r1 u, ¬ q' = r1 ∧ ¬ q' = rb ∧ ¬ r1 = rb ∧ v = B true ∧ H' = (q', 2, (l ++ occ1 e).map Occ) :: (r1, 2, u) :: (rb, 1, [.own q' 2 0 (l ++ occ1 e).length]) :: T) := by
      refine Z5 mxd i204 rfl (by simp) ?_; refine X0 ?_
      (refine V1 (jO @XE (jO hk (jO hn (jO @List.length_map.{0,0} @ZM)))) ?_; with_reducible repeat' first|intro h|refine aO ?_)
      rename_i r1 _ r2
      have e1 : occ1 e = [(e.pos, e.name)] := by simp [occ1, hk]
      refine ⟨r2, r1, [Occ (e.pos, e.name)], by simp [*], by simp [*], by simp [*], ?_⟩
      rw [e1, tL (by simp), List.map_append, List.length_append]
      rfl
    refine h0.fr ?_
    rintro v H' ⟨q', r1, u, n1, n2, n3, rfl, rfl⟩
    exact ⟨_, _, FR.perm (H := [_, _, _]) (L := [(q', 2, (l ++ occ1 e).map Occ), (rb, 1, [.own q' 2 0 (l ++ occ1 e).length])]) (by simp [subH, ZV, names, *]), q', rfl, rfl⟩
  · have e1 : occ1 e = [] := by simp [occ1, hk]
    rw [e1, List.append_nil]
    refine Z5 mxd i204 rfl (by simp) ?_; refine X0 ?_
    (refine V1 (jO @XE (jO hk hn)) ?_)
    exact ⟨q, rfl⟩
theorem o157 (t:List Exp) (f:Nat) (cs:List GV) (n0 rb:Nat) (T:GH) (hb:n0+(Y8 t).length ≤ 4194304)
 (hp:∀a∈t,∀(l:List Oc) (q:Nat),l.length+(YN a).length ≤ 4194304→Gc f (Ex a::cs) ((q,2,l.map Occ)::(rb,1,[.own q 2 0 l.length])::T) (fun v H'=>∃q',v=B false∧H'=(q',2,(l++YN a).map Occ)::(rb,1,[.own q' 2 0 (l++YN a).length])::T))
 (l:List Oc) (q:Nat) (hl:l.length=n0) :
 Gc 157 [ExS t,.clo f cs] ((q,2,l.map Occ)::(rb,1,[.own q 2 0 l.length])::T) (fun v H'=>∃q',v=I (-1)∧H'=(q',2,(l++Y8 t).map Occ)::(rb,1,[.own q' 2 0 (l++Y8 t).length])::T):=by
 refine GCalls.lenA fun hlen=> ?_
 have hlen:=hlen.1.1
 simp only[List.length_map,Zc] at hlen
 refine Z5 mxd i157 rfl (by simp) ?_;refine X0 ?_
 (refine V0 ?_)
 refine Yu mxd (ι:={ y:Nat×Nat // y.2≤t.length }) (fun y=>[(0,ExS t),(1,.clo f cs),(7,I t.length),(8,I y.1.2)]) (fun y=>(y.1.1,2,(l++Y8 (t.take y.1.2)).map Occ)::(rb,1,[.own y.1.1 2 0 (l++Y8 (t.take y.1.2)).length])::T) (fun y=>t.length-y.1.2) ⟨(q,0),by simp⟩ (by simp[E2]) (by simp[Y8]) ?_
 rintro ⟨⟨q,i⟩,hi⟩ hn
 dsimp only at hi hn ⊢
 replace hn:=Z4 hn
 (replace hn:=hn;simp only[VN] at hn)
 rcases nL i t.length with h|h
 ·have e1:=occEL_step h
  have e2:(Y8 (t.take (i+1))).length ≤ (Y8 t).length := by
   have e3:t=t.take (i+1)++t.drop (i+1):=(List.take_append_drop _ _).symm
   have e4:Y8 t=Y8 (t.take (i+1))++Y8 (t.drop (i+1)):=by
    conv=>lhs;rw[e3]
    exact occEL_app _ _
   rw[e4,List.length_append];omega
  have e5:(Y8 (t.take (i+1))).length = (Y8 (t.take i)).length + (YN t[i]).length := by rw[e1,List.length_append]
  (refine V1 (jO hn (jO @XP (jO @geR_Ex (jO @XS @stor_Ex)))) ?_;with_reducible repeat' first|intro h|apply jO)
  all_goals try exact oF
  refine callS.of (hp t[i] (gM _) _ q (by rw[List.length_append];omega)) ?_
  rintro v H' ⟨q',rfl,rfl⟩ hn2
  rw[List.append_assoc,←e1] at hn2 ⊢
  (refine V1 hn ?_)
  exact nx ⟨(q',i+1),oT⟩ (by simp;omega) (by simp[E2]) rfl
 ·obtain rfl:i=t.length:=by omega
  (refine V1 hn ?_;with_reducible repeat' intro h)
  all_goals try exact oF
  rw[List.take_length]
  exact ⟨q,rfl⟩
theorem o96 (t:List Exp) (f:Nat) (cs:List GV) (n0 rb:Nat) (T:GH) (hb:n0+(Y8 t).length ≤ 4194304)
 (hp:∀a∈t,∀(l:List Oc) (q:Nat),l.length+(YN a).length ≤ 4194304→Gc f (Ex a::cs) ((q,2,l.map Occ)::(rb,1,[.own q 2 0 l.length])::T) (fun v H'=>∃q',v=B false∧H'=(q',2,(l++YN a).map Occ)::(rb,1,[.own q' 2 0 (l++YN a).length])::T))
 (l:List Oc) (q:Nat) (hl:l.length=n0) :
 Gc 96 [ExS t,.clo f cs] ((q,2,l.map Occ)::(rb,1,[.own q 2 0 l.length])::T) (fun v H'=>∃q',v=B false∧H'=(q',2,(l++Y8 t).map Occ)::(rb,1,[.own q' 2 0 (l++Y8 t).length])::T):=by
 refine Z5 mxd i96 rfl (by simp) ?_;refine X0 ?_
 (refine V0 ?_)
 refine callS.of (o157 t f cs n0 rb T hb hp l q hl) ?_
 rintro v H' ⟨q',rfl,rfl⟩ hn2
 (refine V0 ?_)
 exact ⟨q',by simp⟩
theorem o158 (rb:Nat) (T:GH):∀(e:Exp) (l:List Oc) (q:Nat),l.length+(YN e).length ≤ 4194304 →
 Gc 158 [Ex e,.clo 204 [.ptr rb 1 0 0]] ((q,2,l.map Occ)::(rb,1,[.own q 2 0 l.length])::T) (fun v H'=>∃q',v=B true∧H'=(q',2,(l++YN e).map Occ)::(rb,1,[.own q' 2 0 (l++YN e).length])::T):=by
 refine Exp.indA fun e ih l q hb=> ?_
 have e0:=occE_eq e
 have e1:(YN e).length = (occ1 e).length + (Y8 e.args).length := by rw[e0,List.length_append]
 refine Z5 mxd i158 rfl (by simp) ?_;refine X0 ?_
 ((try refine qI ?_);(repeat ((first|with_reducible refine qU ?_ | simp only[ZQ]);try simp (maxSteps:=9^7) +contextual only[↓ S2,S2,↓reduceIte,reduceNe,reduceEqDiff,reduceCtorEq,reduceLeDiff,reduceAdd,reduceLT,VQ,XE,gs_clo]));(try simp +contextual (disch:=omega) only[Z2,XE,gs_clo]);(with_reducible repeat' (first|intro h|refine jO oT ?_ | refine exP oT ?_ | apply jO)))
 refine callS.of (o204 e l oT rb q T) ?_
 rintro v H' ⟨q',rfl,rfl⟩ hn
 replace hn:=Z4 hn
 (replace hn:=hn;simp only[VN] at hn)
 (refine V1 (jO hn @XE) ?_)
 refine callS.of (o96 e.args 216 _ (l++occ1 e).length rb T (by rw[List.length_append];omega) (fun a ha l q hb=> ?_) (l++occ1 e) q' rfl) ?_
 ·refine Z5 mxd i216 rfl (by simp) ?_;refine X0 ?_
  (refine V1 @XE ?_)
  refine callS.of (ih a ha l q hb) ?_
  rintro v H' ⟨q',rfl,rfl⟩ hn
  (refine V0 ?_)
  exact ⟨q',rfl⟩
 ·rintro v H' ⟨q2,rfl,rfl⟩ hn
  (refine V0 ?_)
  rw[e0,List.append_assoc]
  exact ⟨q2,rfl⟩
theorem o207 (L:List Oc) (r n:Nat) (T:GH) (hL:L.length=n) (hb:n≤4194304):Gc 207 [.own r 2 0 n] ((r,2,L.map Occ)::T)
 (fun v H'=>v = .own r 2 0 (cpO L).length ∧ H'=(r,2,(cpO L).map Occ)::T):=by
 subst hL
 refine Z5 mxd i207 rfl (by simp) ?_;refine X0 ?_
 by_cases h2:L.length<2
 ·have e:cpO L=L:=cpO_short oT
  rw[e]
  (refine V1 h2 ?_;with_reducible repeat' intro h)
  all_goals try exact oF
 ·have h2':¬((L.length:Int)<2):=by omega
  (refine V1 h2' ?_;with_reducible repeat' intro h)
  all_goals try exact oF
  refine ZL mxd (ι:={ k:Nat // 1≤k∧k≤L.length∧cpO (L.take k)=L.take k }) (fun k=>[(0,.own r 2 0 L.length),(3,I k.1)]) (fun k=>(r,2,L.map Occ)::T) (fun k=>L.length-k.1) ⟨1,oT,oT,cpO_short (by simp;omega)⟩ (by simp[E2]) rfl ?_
  rintro ⟨k,hk1,hk2,hk⟩
  rcases nL k L.length with h|h
  ·obtain ⟨m,rfl⟩:∃m,k=m+1:=⟨k-1,oT⟩
   have hst:=cpO_take h
   have hm:((m+1:Nat):Int)-1=m:=by omega
   have hnn:((L.length:Int)-((m+1:Nat):Int)).toNat = L.length-(m+1):=by omega
   have hno:¬L[m+1]=L[m]→cpO (L.take (m+2))=L.take (m+2):=fun he=>by
    rw[hst,if_neg he,hk,List.take_add_one (i:=m+1),List.getElem?_eq_getElem h];rfl
   (refine V1 (jO @List.length_map.{0,0} (jO hm hnn)) ?_;with_reducible repeat' first|intro h|refine aO ?_|apply jO)
   all_goals try exact oF
   ·rename_i hf
    simp only[Int.toNat_natCast] at hf h
    have he:L[m+1]=L[m]:=Prod.ext hf h
    rw[if_pos he,hk] at hst
    have i1:(cpO (L.take (m+1+1))).length = m+1:=by rw[show m+1+1=m+2 from rfl,hst];simp;omega
    refine ZL mxd (ι:={ y:Nat×List Oc // cpI L m y.1 y.2 }) (fun y=>[(0,.own r 2 0 L.length),(3,I (cpO (L.take (m+1+y.1.1))).length),(4,.own r 2 (m+1) (L.length-(m+1))),(5,I y.1.1)]) (fun y=>(r,2,y.1.2.map Occ)::T) (fun y=>L.length-y.1.1) ⟨(1,L),oT,by dsimp only;omega,rfl,by dsimp only;omega,by dsimp only;rw[i1,show m+1+1=m+2 from rfl,hst],rfl⟩ (by simp only[i1];simp[E2]) rfl ?_
    rintro ⟨⟨j,X⟩,hI⟩
    obtain ⟨hj1,hj2,hx1,hx2,hx3,hx4⟩:=id hI
    dsimp only at hI hj1 hj2 hx1 hx2 hx3 hx4 ⊢
    rcases nL (m+1+j) L.length with hlt|hge
    ·have hi2:m+1+((j:Int)-1).toNat = m+j:=by omega
     (refine V1 (jO @List.length_map.{0,0} hx1) ?_;with_reducible repeat' first|intro h|refine aO ?_|apply jO)
     all_goals try exact oF
     ·rename_i hf
      obtain ⟨b1,b2⟩:=cpI_eq hI hlt hi2 oT oT (Prod.ext hf h)
      exact nx ⟨(j+1,X),b1⟩ (by simp;omega) (by simp only[b2];simp[E2]) rfl
     ·rename_i hf
      obtain ⟨b1,b2⟩:=cpI_ne hI hlt hi2 oT oT (fun e=>h (congrArg Prod.snd e))
      refine nx ⟨(j+1,_),b1⟩ (by simp;omega) (by simp only[b2];simp[E2]) ?_
      rw[List.map_set,←hf]
     ·obtain ⟨b1,b2⟩:=cpI_ne hI hlt hi2 oT oT (fun e=>h (congrArg Prod.fst e))
      refine nx ⟨(j+1,_),b1⟩ (by simp;omega) (by simp only[b2];simp[E2]) ?_
      rw[List.map_set]
    ·have hje:m+1+j=L.length:=by omega
     have hle:=cpO_len L
     have e2:(cpO (L.take (m+1+j)))=cpO L:=by rw[hje,List.take_length]
     rw[e2] at hx3
     simp only[e2]
     (refine V1 (jO @List.length_map.{0,0} hx1) ?_;with_reducible repeat' first|intro h|refine aO ?_|apply jO)
     all_goals first|omega|(simp;done)|(rw[←List.map_take,hx3])
   ·simp only[Int.toNat_natCast] at h
    exact nx ⟨m+2,oT,oT,hno fun e=>h (congrArg Prod.snd e)⟩ (by simp;omega) (by simp[E2];omega) rfl
   ·simp only[Int.toNat_natCast] at h
    exact nx ⟨m+2,oT,oT,hno fun e=>h (congrArg Prod.fst e)⟩ (by simp;omega) (by simp[E2];omega) rfl
  ·obtain rfl:k=L.length:=by omega
   rw[List.take_length] at hk
   rw[hk]
   (refine V0 ?_;with_reducible repeat' first|intro h|refine aO ?_)
   all_goals try exact oF
theorem o142 (e:Exp) (hw:wEx e≤1048576) (H:GH):Gc 142 [Ex e] H (fun v H'=>∃H1,(∃r,v = .own r 2 0 (usE e []).length ∧ H1=[(r,2,(usE e []).map Occ)])∧H'=H1++H):=by
 have h0:Gc 142 [Ex e] H (fun v H'=>∃r rb u,¬r=rb∧v = .own r 2 0 (usE e []).length ∧ H'=(r,2,(usE e []).map Occ)::(rb,1,u)::H):=by
  have e1:=occE_len e
  have e2:=srO_len (YN e)
  have e3:=usE_cp e
  refine Z5 mxd i142 rfl (by simp) ?_;refine X0 ?_
  (refine V1 @XE ?_;with_reducible repeat' intro h)
  rename_i q _ rb
  refine callS.of (GCalls.sub (H:=[_,_]) (L:=[(q,2,([]:List Oc).map Occ),(rb,1,[.own q 2 0 ([]:List Oc).length])]) (T:=H) ?_ (o158 rb H e [] q (by simp;omega))) ?_
  ·simp[subH,ZV,names, *]
  rintro v H' ⟨q',rfl,rfl⟩ hn
  rw[List.nil_append] at hn ⊢
  replace hn:=Z4 hn
  (replace hn:=hn;simp only[VN] at hn)
  (refine V1 hn ?_)
  refine callS.of (o205 ZZ rfl oT) ?_
  rintro v H' ⟨rfl,rfl⟩ -
  rw[XQ]
  (refine V1 hn ?_)
  refine callS.of (o207 (srO (YN e)) q' _ _ e2 oT) ?_
  rintro v H' ⟨rfl,rfl⟩ -
  rw[e3]
  (refine V1 hn ?_)
  exact ⟨q',rb,_,by simp[hn],rfl,rfl⟩
 refine h0.fr ?_
 rintro v H' ⟨r,rb,u,n1,rfl,rfl⟩
 exact ⟨_,_,FR.perm (H:=[_,_]) (L:=[(r,2,(usE e []).map Occ)]) (by simp[subH,ZV,names, *]),_,⟨r,rfl,rfl⟩,rfl⟩
theorem q142 (e:Exp) (hw:wEx e≤1048576):Pu 142 [Ex e] (· = OcS (usE e [])):=
 Pure.bor ((o142 e hw []).mono fun v H' ⟨H1,⟨r,h1,h2⟩,h3⟩=>by
  subst h1;subst h2;subst h3
  exact Bor.allM (fun _ => rfl) ZZ rfl)
theorem o113 (g:Gram) (t:List Nod) (x:Int×ByteArray) (hg:ZE g) (hl:t.length≤1048576) (hk:∀x∈t,x.kids.length≤1048576) (H:GH):Gc 113 [Gr g,Tr t,Ins x] H (fun v H'=>∃H1,(∃r,v = .own r 2 0 (stI g t x).length ∧ H1=[(r,2,(stI g t x).map Ins)])∧H'=H1++H):=by
 refine Z5 mxd i113 rfl (by simp) ?_;refine X0 ?_
 (refine V0 ?_;with_reducible repeat' intro h)
 rename_i r0
 refine callS.eq (w182 g t x hg hl) ?_
 by_cases hB:Y6 g t x=true
 ·have hul:=usE_sm (defE_small hg t x)
  (refine V1 hB ?_)
  have hq:=w183 (Zf g t x) (defE_small hg t x)
  rw[Y3] at hq
  refine callS.eq hq ?_
  clear hq
  have hst:stI g t x=(usE (Zf g t x) []).filterMap (stF t (YI g t x)):=rfl
  rw[hst]
  generalize usE (Zf g t x) []=U at *
  generalize Zf g t x=e at *
  generalize YI g t x=o at *
  (refine V0 ?_)
  refine Yu mxd (ι:={ y:Nat×Nat // y.2≤U.length }) (fun y=>[(3,.rop 2 (Gr g)),(4,.rop 1 (Tr t)),(7,.own y.1.1 2 0 ((U.take y.1.2).filterMap (stF t o)).length),(8,.rop 8 (DfG o e)),(10,OcS U),(11,I y.1.2)]) (fun y=>(y.1.1,2,((U.take y.1.2).filterMap (stF t o)).map Ins)::H) (fun y=>U.length-y.1.2) ⟨(r0,0),by simp⟩ (by simp[E2]) (by simp) ?_
  rintro ⟨⟨q,i⟩,hi⟩ hn
  dsimp only at hi hn ⊢
  replace hn:=Z4 hn
  (replace hn:=hn;simp only[VN] at hn)
  have hfl:=List.length_filterMap_le (stF t o) (U.take i)
  simp only[List.length_take] at hfl
  rcases nL i U.length with hlt|hge
  ·have hs:=fm_step (stF t o) hlt
   (refine V1 hn ?_;with_reducible repeat' first|intro h|apply jO)
   all_goals try exact oF
   refine callS.eq (w184 g t o U[i] hk) ?_
   by_cases hx:(Y0 t o U[i]).2 = true
   ·have hf:stF t o U[i]=some (Y0 t o U[i]).1 := by simp[stF,hx]
    rw[hf] at hs
    (refine V1 (jO hn (jO hx (jO @List.length_append.{0} (jO @List.length_singleton.{0} (jO @List.length_map.{0,0} @ZM))))) ?_;with_reducible repeat' first|intro h|refine aO ?_)
    all_goals try exact oF
    rename_i r3 _ r4
    refine nxF ⟨(r4,i+1),oT⟩ (by simp;omega) (FE.perm (H:=[_,_]) (L:=[(r4,_)]) (by repeat' (first|exact trivial|(refine jO (by simp only[Z9, *,if_true,if_false];try rfl) (jO (by simp[ZW,ZU, *]) ?_))))) (by simp[E2,hs]) ?_
    rw[hs,tL (by simp),List.map_append]
    rfl
   ·have hx':(Y0 t o U[i]).2 = false:=by simpa using hx
    have hf:stF t o U[i]=none:=by simp[stF,hx']
    rw[hf] at hs
    (refine V1 (jO hn hx') ?_)
    exact nx ⟨(q,i+1),oT⟩ (by simp;omega) (by simp[E2,hs]) (by simp[hs])
  ·obtain rfl:i=U.length:=by omega
   (refine V1 hn ?_;with_reducible repeat' intro h)
   all_goals try exact oF
   rw[List.take_length]
   exact ⟨_,⟨q,rfl,rfl⟩,rfl⟩
 ·have hB':Y6 g t x=false:=by simpa using hB
  rw[stI_no hB']
  (refine V1 hB' ?_)
  exact ⟨_,⟨r0,rfl,rfl⟩,rfl⟩
theorem o167 (g:Gram) (t:List Nod) (x:Int×ByteArray) (hg:ZE g) (hl:t.length≤1048576) (hk:∀x∈t,x.kids.length≤1048576) (H:GH):Gc 167 [Gr g,Tr t,Ins x] H (fun v H'=>∃H1,(∃r,v = .own r 2 0 (stI g t x).length ∧ H1=[(r,2,(stI g t x).map Ins)])∧H'=H1++H):=by
 refine Z5 mxd i167 rfl (by simp) ?_;refine X0 ?_
 (refine V0 ?_;with_reducible repeat' intro h)
 rename_i r0
 refine callS.eq (q109 g t x hg hl) ?_
 by_cases hB:Y6 g t x=true
 ·have hul:=usE_sm (defE_small hg t x)
  (refine V1 hB ?_)
  have hq:=q142 (Zf g t x) (defE_small hg t x)
  rw[Y3] at hq
  refine callS.eq hq ?_
  clear hq
  have hst:stI g t x=(usE (Zf g t x) []).filterMap (stF t (YI g t x)):=rfl
  rw[hst]
  generalize usE (Zf g t x) []=U at *
  generalize Zf g t x=e at *
  generalize YI g t x=o at *
  (refine V0 ?_)
  refine Yu mxd (ι:={ y:Nat×Nat // y.2≤U.length }) (fun y=>[(3,.rop 2 (Gr g)),(4,.rop 1 (Tr t)),(7,.own y.1.1 2 0 ((U.take y.1.2).filterMap (stF t o)).length),(8,.rop 8 (DfG o e)),(27,OcS U),(28,I U.length),(29,I y.1.2)]) (fun y=>(y.1.1,2,((U.take y.1.2).filterMap (stF t o)).map Ins)::H) (fun y=>U.length-y.1.2) ⟨(r0,0),by simp⟩ (by simp[E2]) (by simp) ?_
  rintro ⟨⟨q,i⟩,hi⟩ hn
  dsimp only at hi hn ⊢
  replace hn:=Z4 hn
  (replace hn:=hn;simp only[VN] at hn)
  have hfl:=List.length_filterMap_le (stF t o) (U.take i)
  simp only[List.length_take] at hfl
  rcases nL i U.length with hlt|hge
  ·have hs:=fm_step (stF t o) hlt
   (refine V1 hn ?_;with_reducible repeat' first|intro h|apply jO)
   all_goals try exact oF
   refine callS.eq (w219 g t o U[i] hk) ?_
   by_cases hx:(Y0 t o U[i]).2 = true
   ·have hf:stF t o U[i]=some (Y0 t o U[i]).1 := by simp[stF,hx]
    rw[hf] at hs
    (refine V1 (jO hn (jO hx (jO @List.length_append.{0} (jO @List.length_singleton.{0} (jO @List.length_map.{0,0} @ZM))))) ?_;with_reducible repeat' first|intro h|refine aO ?_)
    all_goals try exact oF
    rename_i r3 _ r4
    refine nxF ⟨(r4,i+1),oT⟩ (by simp;omega) (FE.perm (H:=[_,_]) (L:=[(r4,_)]) (by repeat' (first|exact trivial|(refine jO (by simp only[Z9, *,if_true,if_false];try rfl) (jO (by simp[ZW,ZU, *]) ?_))))) (by simp[E2,hs]) ?_
    rw[hs,tL (by simp),List.map_append]
    rfl
   ·have hx':(Y0 t o U[i]).2 = false:=by simpa using hx
    have hf:stF t o U[i]=none:=by simp[stF,hx']
    rw[hf] at hs
    (refine V1 (jO hn hx') ?_)
    exact nx ⟨(q,i+1),oT⟩ (by simp;omega) (by simp[E2,hs]) (by simp[hs])
  ·obtain rfl:i=U.length:=by omega
   (refine V1 hn ?_;with_reducible repeat' intro h)
   all_goals try exact oF
   rw[List.take_length]
   exact ⟨_,⟨q,rfl,rfl⟩,rfl⟩
 ·have hB':Y6 g t x=false:=by simpa using hB
  rw[stI_no hB']
  (refine V1 hB' ?_)
  exact ⟨_,⟨r0,rfl,rfl⟩,rfl⟩
theorem q113 (g:Gram) (t:List Nod) (x:Int×ByteArray) (hg:ZE g) (hl:t.length≤1048576) (hk:∀x∈t,x.kids.length≤1048576):Pu 113 [Gr g,Tr t,Ins x] (· = YK (stI g t x)):=
 Pure.bor ((o113 g t x hg hl hk []).mono fun v H' ⟨H1,⟨r,h1,h2⟩,h3⟩=>by
  subst h1;subst h2;subst h3
  exact bor_Ins ZZ rfl)
theorem q167 (g:Gram) (t:List Nod) (x:Int×ByteArray) (hg:ZE g) (hl:t.length≤1048576) (hk:∀x∈t,x.kids.length≤1048576):Pu 167 [Gr g,Tr t,Ins x] (· = YK (stI g t x)):=
 Pure.bor ((o167 g t x hg hl hk []).mono fun v H' ⟨H1,⟨r,h1,h2⟩,h3⟩=>by
  subst h1;subst h2;subst h3
  exact bor_Ins ZZ rfl)
theorem w33 (L:List Oc) (y:Oc):Pu 33 [YK L,Ins y] (· = I (ixI L y)):=by
 refine GCalls.lenA fun hlen=> ?_
 have hlen:=hlen.1.1
 simp only[List.length_map,Zc] at hlen
 refine Z5 mxd i33 rfl (by simp) ?_;refine X0 ?_
 (refine V0 ?_)
 refine ZL mxd (ι:={ i:Nat // i≤L.length∧∀a∈L.take i,decide (a=y)=false }) (fun i=>[(0,YK L),(3,.rop 2 (Ins y)),(5,I i.1)]) (fun _ => []) (fun i=>L.length-i.1) ⟨0,by simp⟩ (by simp[E2]) rfl ?_
 rintro ⟨i,hi,hn⟩
 rcases nL i L.length with hlt|hge
 ·by_cases he:L[i]=y
  ·have he1:L[i].1 = y.1:=by rw[he]
   have he2:L[i].2 = y.2:=by rw[he]
   have e:ixI L y=i:=YP hlt (by simp[he]) hn
   rw[e]
   (refine V1 (jO he1 he2) ?_;with_reducible repeat' intro h)
   all_goals first|rfl|(exfalso;omega)
  ·(refine V0 ?_;with_reducible repeat' first|intro h|apply jO)
   all_goals first
    | (exfalso;exact he (Prod.ext (by assumption) (by assumption)))
    | (exfalso;omega)
    | exact nx ⟨i+1,oT,Zn hlt (by simp[he]) hn⟩ (by simp;omega) (by simp[E2]) rfl
 ·obtain rfl:i=L.length:=by omega
  rw[List.take_length] at hn
  have e:ixI L y = -1:=YO hn
  rw[e]
  (refine V0 ?_;with_reducible repeat' first|intro h|refine aO ?_)
  all_goals first|rfl|(exfalso;omega)
theorem w119 (L:List Oc) (y:Oc):Pu 119 [YK L,Ins y] (· = I (ixI L y)):=by
 refine GCalls.lenA fun hlen=> ?_
 have hlen:=hlen.1.1
 simp only[List.length_map,Zc] at hlen
 refine Z5 mxd i119 rfl (by simp) ?_;refine X0 ?_
 (refine V0 ?_)
 refine ZL mxd (ι:={ i:Nat // i≤L.length∧∀a∈L.take i,decide (a=y)=false }) (fun i=>[(0,YK L),(3,.rop 2 (Ins y)),(7,I L.length),(8,I i.1)]) (fun _ => []) (fun i=>L.length-i.1) ⟨0,by simp⟩ (by simp[E2]) rfl ?_
 rintro ⟨i,hi,hn⟩
 rcases nL i L.length with hlt|hge
 ·by_cases he:L[i]=y
  ·have he1:y.1=L[i].1 := by rw[he]
   have he2:y.2=L[i].2 := by rw[he]
   have e:ixI L y=i:=YP hlt (by simp[he]) hn
   rw[e]
   (refine V1 (jO he1 he2) ?_;with_reducible repeat' intro h)
   all_goals first|rfl|(exfalso;omega)
  ·(refine V0 ?_;with_reducible repeat' first|intro h|apply jO)
   all_goals first
    | (exfalso;exact he (Prod.ext (Eq.symm (by assumption)) (Eq.symm (by assumption))))
    | (exfalso;omega)
    | exact nx ⟨i+1,oT,Zn hlt (by simp[he]) hn⟩ (by simp;omega) (by simp[E2]) rfl
 ·obtain rfl:i=L.length:=by omega
  rw[List.take_length] at hn
  have e:ixI L y = -1:=YO hn
  rw[e]
  (refine V0 ?_;with_reducible repeat' first|intro h|refine aO ?_)
  all_goals first|rfl|(exfalso;omega)
theorem w72 (L:List Oc) (y:Oc):Pu 72 [YK L,Ins y] (· = I (ixI L y)):=by
 refine Z5 mxd i72 rfl (by simp) ?_;refine X0 ?_
 (refine V0 ?_)
 refine callS.eq (w119 L y) ?_
 (refine V0 ?_;with_reducible repeat' exact trivial)
end Go.Proofs.YtkmedfejmndmjaaGreat
