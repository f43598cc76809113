/- The law FnStaticTypes returns true whatever the input, and the input reads behind the call as before. No condition. -/
import Derived.Test.YtkmedfejmndmjaaGreatFst10
set_option maxHeartbeats 40000000
set_option maxRecDepth 20000
set_option linter.unusedSimpArgs false
set_option linter.unusedVariables false
namespace Go.Proofs.YtkmedfejmndmjaaGreat
open Go.Gh
open Nat (reduceEqDiff reduceLeDiff reduceAdd reduceLT)
open Int (reduceNe)
theorem o66 (g:Gram) (t:List Nod) (hg:ZE g) (hl:t.length≤1048576) (hk:∀x∈t,x.kids.length≤1048576) (H:GH):Gc 66 [Gr g,Tr t] H (fun v H'=>∃H1,(∃r,v = .own r 1 0 (ZO g t).length ∧ H1=[(r,1,(Zv g t).map ItO)])∧H'=H1++H):=by
 refine Z5 mxd i66 rfl (by simp) ?_;refine X0 ?_
 (refine V0 ?_)
 refine callS.eq (q22 g t hg hl hk) ?_
 have hLl:=insL_len hg t
 have hT:Zv g t=(ZO g t).map (rowI g t (ZO g t)):=rfl
 rw[hT]
 generalize ZO g t=L at *
 (refine V0 ?_;with_reducible repeat' intro h)
 rename_i r0
 refine Yu mxd (ι:={ y:Nat×Nat // y.2≤L.length }) (fun y=>[(2,.rop 2 (Gr g)),(3,.rop 1 (Tr t)),(5,YK L),(6,.own y.1.1 1 0 y.1.2),(7,I y.1.2)]) (fun y=>(y.1.1,1,((L.take y.1.2).map (rowI g t L)).map ItO)::H) (fun y=>L.length-y.1.2) ⟨(r0,0),by simp⟩ (by simp[E2]) (by simp) ?_
 rintro ⟨⟨q,i⟩,hi⟩ hn
 dsimp only at hi hn ⊢
 replace hn:=Z4 hn
 (replace hn:=hn;simp only[VN] at hn)
 rcases nL i L.length with hlt|hge
 ·(refine V1 hn ?_;with_reducible repeat' first|intro h|apply jO)
  all_goals try exact oF
  refine callS.eq (q113 g t L[i] hg hl hk) ?_
  have hS:rowI g t L L[i]=(stI g t L[i]).map (ixI L):=rfl
  have hsl:=stI_len hg t L[i]
  generalize stI g t L[i]=S at *
  (refine V1 hn ?_;with_reducible repeat' intro h)
  rename_i r1
  refine Yu mxd (ι:={ y:Nat×Nat // y.2≤S.length }) (fun y=>[(2,.rop 2 (Gr g)),(3,.rop 1 (Tr t)),(5,YK L),(6,.own q 1 0 i),(7,I i),(8,YK S),(9,.own y.1.1 1 0 y.1.2),(10,I y.1.2)]) (fun y=>(y.1.1,1,((S.take y.1.2).map (ixI L)).map I)::(q,1,((L.take i).map (rowI g t L)).map ItO)::H) (fun y=>S.length-y.1.2) ⟨(r1,0),by simp⟩ (by simp[E2]) (by simp) ?_
  rintro ⟨⟨p,k⟩,hk2⟩ hn2
  dsimp only at hk2 hn2 ⊢
  replace hn2:=Z4 hn2
  (replace hn2:=hn2;simp only[VN] at hn2)
  rcases nL k S.length with hlt2|hge2
  ·(refine V1 hn2 ?_;with_reducible repeat' first|intro h|refine aO ?_|apply jO)
   all_goals try exact oF
   refine callS.eq (w33 L S[k]) ?_
   (refine V1 (jO hn2 (jO @List.length_append.{0} (jO @List.length_singleton.{0} (jO @List.length_map.{0,0} (jO @List.length_take.{0} @ZM))))) ?_;with_reducible repeat' first|intro h|refine aO ?_)
   all_goals try exact oF
   rename_i r3 _ r4
   refine nxF ⟨(r4,k+1),oT⟩ (by simp;omega) (FE.perm (H:=[_,_,_]) (L:=[(r4,_),(q,_)]) (by repeat' (first|exact trivial|(refine jO (by simp only[Z9, *,if_true,if_false];try rfl) (jO (by simp[ZW,ZU, *]) ?_))))) (by simp[E2]) ?_
   rw[Yg I (ixI L) S k hlt2]
   rfl
  ·obtain rfl:k=S.length:=by omega
   (refine V1 (jO hn2 (jO @List.length_append.{0} (jO @List.length_singleton.{0} (jO @List.length_map.{0,0} (jO @List.length_take.{0} @ZM))))) ?_;with_reducible repeat' first|intro h|refine aO ?_)
   all_goals try exact oF
   rename_i r5 _ r6
   refine nxF ⟨(r6,i+1),oT⟩ (by simp;omega) (FE.trans (FE.perm (H:=[_,_,_]) (L:=[(r6,_),(p,_)]) (by repeat' (first|exact trivial|(refine jO (by simp only[Z9, *,if_true,if_false];try rfl) (jO (by simp[ZW,ZU, *]) ?_))))) (FE.closeE2 (by simp[*]) (by simp))) (by simp[E2]) ?_
   rw[List.take_length,←hS,Yg ItO (rowI g t L) L i hlt]
   rfl
 ·obtain rfl:i=L.length:=by omega
  (refine V1 hn ?_;with_reducible repeat' intro h)
  all_goals try exact oF
  rw[List.take_length]
  exact ⟨_,⟨q,rfl,rfl⟩,rfl⟩
theorem q66 (g:Gram) (t:List Nod) (hg:ZE g) (hl:t.length≤1048576) (hk:∀x∈t,x.kids.length≤1048576):Pu 66 [Gr g,Tr t] (· = TbS (Zv g t)):=
 Pure.bor ((o66 g t hg hl hk []).mono fun v H' ⟨H1,⟨r,h1,h2⟩,h3⟩=>by
  subst h1;subst h2;subst h3
  exact Bor.seen view_ItO ZZ (by simp[Zv]))
theorem o104 (g:Gram) (t:List Nod) (hg:ZE g) (hl:t.length≤1048576) (hk:∀x∈t,x.kids.length≤1048576) (H:GH):Gc 104 [Gr g,Tr t] H (fun v H'=>∃H1,(∃r,v = .own r 1 0 (ZO g t).length ∧ H1=[(r,1,(Zv g t).map ItO)])∧H'=H1++H):=by
 refine Z5 mxd i104 rfl (by simp) ?_;refine X0 ?_
 (refine V0 ?_)
 refine callS.eq (q61 g t hg hl hk) ?_
 have hLl:=insL_len hg t
 have hT:Zv g t=(ZO g t).map (rowI g t (ZO g t)):=rfl
 rw[hT]
 generalize ZO g t=L at *
 (refine V0 ?_;with_reducible repeat' intro h)
 rename_i r0
 refine Yu mxd (ι:={ y:Nat×Nat // y.2≤L.length }) (fun y=>[(2,.rop 2 (Gr g)),(3,.rop 1 (Tr t)),(5,YK L),(6,.own y.1.1 1 0 y.1.2),(16,YK L),(17,I L.length),(18,I y.1.2)]) (fun y=>(y.1.1,1,((L.take y.1.2).map (rowI g t L)).map ItO)::H) (fun y=>L.length-y.1.2) ⟨(r0,0),by simp⟩ (by simp[E2]) (by simp) ?_
 rintro ⟨⟨q,i⟩,hi⟩ hn
 dsimp only at hi hn ⊢
 replace hn:=Z4 hn
 (replace hn:=hn;simp only[VN] at hn)
 rcases nL i L.length with hlt|hge
 ·(refine V1 hn ?_;with_reducible repeat' first|intro h|apply jO)
  all_goals try exact oF
  refine callS.eq (q167 g t L[i] hg hl hk) ?_
  have hS:rowI g t L L[i]=(stI g t L[i]).map (ixI L):=rfl
  have hsl:=stI_len hg t L[i]
  generalize stI g t L[i]=S at *
  (refine V1 hn ?_)
  rename_i r1
  refine Yu mxd (ι:={ y:Nat×Nat // y.2≤S.length }) (fun y=>[(2,.rop 2 (Gr g)),(3,.rop 1 (Tr t)),(5,YK L),(6,.own q 1 0 i),(16,YK L),(17,I L.length),(18,I i),(26,YK S),(27,I S.length),(28,I y.1.2),(9,.own y.1.1 1 0 y.1.2)]) (fun y=>(y.1.1,1,((S.take y.1.2).map (ixI L)).map I)::(q,1,((L.take i).map (rowI g t L)).map ItO)::H) (fun y=>S.length-y.1.2) ⟨(r1,0),by simp⟩ (by simp[E2]) (by simp) ?_
  rintro ⟨⟨p,k⟩,hk2⟩ hn2
  dsimp only at hk2 hn2 ⊢
  replace hn2:=Z4 hn2
  (replace hn2:=hn2;simp only[VN] at hn2)
  rcases nL k S.length with hlt2|hge2
  ·(refine V1 hn2 ?_;with_reducible repeat' first|intro h|refine aO ?_|apply jO)
   all_goals try exact oF
   refine callS.eq (w72 L S[k]) ?_
   (refine V1 (jO hn2 (jO @List.length_append.{0} (jO @List.length_singleton.{0} (jO @List.length_map.{0,0} (jO @List.length_take.{0} @ZM))))) ?_;with_reducible repeat' first|intro h|refine aO ?_)
   all_goals try exact oF
   rename_i r3 _ r4
   refine nxF ⟨(r4,k+1),oT⟩ (by simp;omega) (FE.perm (H:=[_,_,_]) (L:=[(r4,_),(q,_)]) (by repeat' (first|exact trivial|(refine jO (by simp only[Z9, *,if_true,if_false];try rfl) (jO (by simp[ZW,ZU, *]) ?_))))) (by simp[E2]) ?_
   rw[Yg I (ixI L) S k hlt2]
   rfl
  ·obtain rfl:k=S.length:=by omega
   (refine V1 (jO hn2 (jO @List.length_append.{0} (jO @List.length_singleton.{0} (jO @List.length_map.{0,0} (jO @List.length_take.{0} @ZM))))) ?_;with_reducible repeat' first|intro h|refine aO ?_)
   all_goals try exact oF
   rename_i r5 _ r6
   refine nxF ⟨(r6,i+1),oT⟩ (by simp;omega) (FE.trans (FE.perm (H:=[_,_,_]) (L:=[(r6,_),(p,_)]) (by repeat' (first|exact trivial|(refine jO (by simp only[Z9, *,if_true,if_false];try rfl) (jO (by simp[ZW,ZU, *]) ?_))))) (FE.closeE2 (by simp[*]) (by simp))) (by simp[E2]) ?_
   rw[List.take_length,←hS,Yg ItO (rowI g t L) L i hlt]
   rfl
 ·obtain rfl:i=L.length:=by omega
  (refine V1 hn ?_;with_reducible repeat' intro h)
  all_goals try exact oF
  rw[List.take_length]
  exact ⟨_,⟨q,rfl,rfl⟩,rfl⟩
theorem q104 (g:Gram) (t:List Nod) (hg:ZE g) (hl:t.length≤1048576) (hk:∀x∈t,x.kids.length≤1048576):Pu 104 [Gr g,Tr t] (· = TbS (Zv g t)):=
 Pure.bor ((o104 g t hg hl hk []).mono fun v H' ⟨H1,⟨r,h1,h2⟩,h3⟩=>by
  subst h1;subst h2;subst h3
  exact Bor.seen view_ItO ZZ (by simp[Zv]))
end Go.Proofs.YtkmedfejmndmjaaGreat
namespace Go.Proofs.YtkmedfejmndmjaaGreat
open Go.Gh
open Nat (reduceEqDiff reduceLeDiff reduceAdd reduceLT)
open Int (reduceNe)
end Go.Proofs.YtkmedfejmndmjaaGreat
namespace Go.Proofs.YtkmedfejmndmjaaGreat
open Go.Gh
open Nat (reduceEqDiff reduceLeDiff reduceAdd reduceLT)
open Int (reduceNe)
theorem o169 (l:List Int) (f:Nat) (cs:List GV) (p:Int→Bool) (H:GH) (hp:∀k∈l,Gc f (I k::cs) H (fun v H'=>v=B (p k)∧H'=H)) :
 Gc 169 [IS l,.clo f cs] H (fun v H'=>v=I (Zt p l)∧H'=H):=by
 refine GCalls.lenA fun hlen=> ?_
 have hlen:=hlen.1.1
 simp only[List.length_map,Zc] at hlen
 refine Z5 mxd i169 rfl (by simp) ?_;refine X0 ?_
 (refine V0 ?_)
 refine ZL mxd (ι:={ i:Nat // i≤l.length∧∀y∈l.take i,p y=false }) (fun i=>[(0,IS l),(1,.clo f cs),(7,I l.length),(8,I i.1)]) (fun _ => H) (fun i=>l.length-i.1) ⟨0,by simp⟩ (by simp[E2]) rfl ?_
 rintro ⟨i,hi,hn⟩
 rcases nL i l.length with hlt|hge
 ·(refine V0 ?_;with_reducible repeat' first|intro h|apply jO)
  all_goals try exact oF
  refine callS.of (hp l[i] (gM hlt)) ?_
  rintro v H' ⟨rfl,rfl⟩ -
  by_cases hb:p l[i]=true
  ·have e:=YP hlt hb hn
   rw[e]
   (refine V1 hb ?_;with_reducible repeat' exact trivial)
  ·have hb':p l[i]=false:=by simpa using hb
   (refine V1 hb' ?_)
   exact nx ⟨i+1,oT,Zn hlt hb' hn⟩ (by simp;omega) (by simp[E2]) rfl
 ·obtain rfl:i=l.length:=by omega
  rw[List.take_length] at hn
  rw[YO hn]
  (refine V0 ?_;with_reducible repeat' intro h)
  all_goals first|(exfalso;omega)|skip
theorem w169 (l:List Int) (f:Nat) (cs:List GV) (p:Int→Bool) (hp:∀k∈l,Pu f (I k::cs) (· = B (p k))) :
 Pu 169 [IS l,.clo f cs] (· = I (Zt p l)):=
 (o169 l f cs p [] fun k hk=>(hp k hk).frame []).mono fun v H' h=>h.1
theorem o106 (l:List Int) (f:Nat) (cs:List GV) (p:Int→Bool) (H:GH) (hp:∀k∈l,Gc f (I k::cs) H (fun v H'=>v=B (p k)∧H'=H)) :
 Gc 106 [IS l,.clo f cs] H (fun v H'=>v=B (l.any p)∧H'=H):=by
 refine Z5 mxd i106 rfl (by simp) ?_;refine X0 ?_
 (refine V0 ?_)
 refine callS.of (o169 l f cs p H hp) ?_
 rintro v H' ⟨rfl,rfl⟩ -
 (refine V0 ?_)
 rw[any_ix]
theorem o164 (L:List Int) (f:Nat) (cs:List GV) (p:Int→Bool) (r n:Nat) (T:GH) (hL:L.length=n) (hb:n≤4194304) (hcs:∀H',BorL H' cs cs) (hp:∀k∈L,Pu f (I k::cs) (· = B (p k))) :
 Gc 164 [.own r 1 0 n,.clo f cs] ((r,1,L.map I)::T) (fun v H'=>v = .own r 1 0 (L.filter fun k=> !p k).length ∧ H'=(r,1,(L.filter fun k=> !p k).map I)::T):=by
 subst hL
 have hix:=w169 L f cs p hp
 refine Z5 mxd i164 rfl (by simp) ?_;refine X0 ?_
 (refine V0 ?_)
 refine callS.borA hix (.cons (X6 ZZ rfl) (.cons (Bor.clo (hcs _)) .nil)) rfl ?_
 rcases X1 p L with hno|hyes
 ·have hf:=ixOf_no hno
  rw[filter_all hf]
  simp only[hno]
  (refine V0 ?_;with_reducible repeat' exact trivial)
 ·obtain ⟨i,hi⟩:∃i:Nat,Zt p L=i:=⟨(Zt p L).toNat,oT⟩
  obtain ⟨h1,h2⟩:=dlI_start hi
  have hil:i<L.length:=by omega
  have hne:¬((i:Int) = -1):=by omega
  rw[hi]
  (refine V1 hne ?_)
  all_goals try exact oF
  refine ZL mxd (ι:={ y:Nat×List Int // dlI L p y.1 y.2 }) (fun y=>[(0,.own r 1 0 L.length),(1,.clo f cs),(5,I ((L.take y.1.1).filter fun k=> !p k).length),(6,I y.1.1)]) (fun y=>(r,1,y.1.2.map I)::T) (fun y=>L.length-y.1.1) ⟨(i+1,L),h1⟩ (by simp only[h2];simp[E2]) rfl ?_
  rintro ⟨⟨j,X⟩,hI⟩
  obtain ⟨hj1,hx1,hx2,hx3,hx4⟩:=id hI
  dsimp only at hI hj1 hx1 hx2 hx3 hx4 ⊢
  rcases nL j L.length with hlt|hge
  ·have hg:=dlI_get hI hlt oT
   (refine V1 (jO @List.length_map.{0,0} (jO hx1 hg)) ?_;with_reducible repeat' first|intro h|refine aO ?_|apply jO)
   all_goals try exact oF
   refine callS.eq (hp L[j] (gM hlt)) ?_
   by_cases hb2:p L[j]=true
   ·obtain ⟨b1,b2⟩:=dlI_drop hI hlt hb2
    (refine V1 hb2 ?_)
    exact nx ⟨(j+1,X),b1⟩ (by simp;omega) (by simp only[b2];simp[E2]) rfl
   ·have hb3:p L[j]=false:=by simpa using hb2
    obtain ⟨b1,b2⟩:=dlI_keep hI hlt hb3
    (refine V1 (jO hb3 (jO @List.length_map.{0,0} hx1)) ?_)
    all_goals try exact oF
    refine nx ⟨(j+1,_),b1⟩ (by simp;omega) (by simp only[b2];simp[E2]) ?_
    rw[List.map_set]
  ·have hje:j=L.length:=by omega
   have hle:=List.length_filter_le (fun k=> !p k) L
   rw[hje,List.take_length] at hx3
   simp only[hje,List.take_length]
   (refine V1 (jO @List.length_map.{0,0} hx1) ?_;with_reducible repeat' first|intro h|refine aO ?_|apply jO)
   all_goals first|omega|(simp;done)|(rw[←List.map_take,hx3])
theorem w166 (T:List (List Int)) (k:Int) (hT:T.length≤16777216):Pu 166 [I k,.rop 1 (TbS T)] (· = B (!decide (0≤k∧k≤(T.length:Int)-1))):=by
 refine Z5 mxd i166 rfl (by simp) ?_;refine X0 ?_
 (refine V0 ?_)
 all_goals try exact oF
 refine callS.eq (w47 _ _ _) ?_
 (refine V0 ?_;with_reducible repeat' exact trivial)
theorem o165 (xs:List Int) (hx:xs.length≤4194304) (H:GH):Gc 165 [IS xs] H (fun g H'=>∃H1,(∃r,g = .own r 1 0 xs.length∧H1=[(r,1,xs.map I)])∧H'=H1++H):=by
 have h0:Gc 165 [IS xs] H (fun g H'=>(xs=[]∧g = .val (.slice none 0 0)∧H'=H)∨∃r,g = .own r 1 0 xs.length∧H'=(r,1,xs.map I)::H):=by
  refine Z5 mxd i165 rfl (by simp) ?_;refine X0 ?_
  (refine R0 ?_)
  by_cases hxs:xs=[]
  ·subst hxs
   simp only[List.map_nil,List.isEmpty_nil,if_true]
   exact ⟨.inl trivial,fun r hr=>⟨by simp,by simp,fun r hr=> .inr ⟨r,rfl,rfl⟩⟩⟩
  ·rw[if_neg (by simpa using hxs)]
   exact fun r hr=>⟨oT,oT,fun r hr=> .inr ⟨r,rfl,rfl⟩⟩
 refine h0.fr ?_
 rintro g H' (⟨rfl,rfl,rfl⟩|⟨r,rfl,rfl⟩)
 ·exact ⟨_,_,FR.trans (FR.addv (r:=Yk H') (sz:=1) (vname_odd H') (vname_new H')) (FR.sub (Bor.virt (r:=Yk H') (sz:=1))),_,⟨Yk H',rfl,rfl⟩,rfl⟩
 ·exact ⟨_,_,FR.refl _ _,_,⟨r,rfl,rfl⟩,rfl⟩
theorem o103 (T:List (List Int)) (hT:okT T) (H:GH):Gc 103 [TbS T] H (fun v H'=>∃r,v = .own r 1 0 T.length∧H'=(r,1,(fltT T).map ItO)::H):=by
 have hTl:=hT.1
 have hF:fltT T=T.map (fltR T.length):=rfl
 rw[hF]
 refine Z5 mxd i103 rfl (by simp) ?_;refine X0 ?_
 (refine V0 ?_;with_reducible repeat' intro h)
 rename_i r0
 refine Yu mxd (ι:={ y:Nat×Nat // y.2≤T.length }) (fun y=>[(1,.rop 1 (TbS T)),(3,.own y.1.1 1 0 y.1.2),(7,TbS T),(8,I T.length),(9,I y.1.2)]) (fun y=>(y.1.1,1,((T.take y.1.2).map (fltR T.length)).map ItO)::H) (fun y=>T.length-y.1.2) ⟨(r0,0),by simp⟩ (by simp[E2]) (by simp) ?_
 rintro ⟨⟨q,i⟩,hi⟩ hn
 dsimp only at hi hn ⊢
 replace hn:=Z4 hn
 (replace hn:=hn;simp only[VN] at hn)
 rcases nL i T.length with hlt|hge
 ·have hrw:=hT.2 T[i] (gM hlt)
  (refine V1 hn ?_;with_reducible repeat' first|intro h|apply jO)
  all_goals try exact oF
  refine callS.of (o165 T[i] oT _) ?_
  rintro v H' ⟨H1,⟨rc,rfl,rfl⟩,rfl⟩ hn2
  simp only[List.cons_append,List.nil_append] at hn2 ⊢
  replace hn2:=Z4 hn2
  (replace hn2:=hn2;simp only[VN] at hn2)
  (refine V1 hn2 ?_)
  refine callS.of (o164 T[i] 166 [.rop 1 (TbS T)] (fun k=> !decide (0≤k∧k≤(T.length:Int)-1)) rc _ _ rfl oT (fun _ => .cons .refl .nil) (fun k _ => w166 T k hTl)) ?_
  rintro v H' ⟨rfl,rfl⟩ -
  rw[fltR_eq]
  have hfl:(fltR T.length T[i]).length ≤ T[i].length := List.length_filter_le _ _
  (refine V1 (jO hn2 (jO @List.length_append.{0} (jO @List.length_singleton.{0} (jO @List.length_map.{0,0} (jO @List.length_take.{0} @ZM))))) ?_;with_reducible repeat' first|intro h|refine aO ?_)
  all_goals try exact oF
  rename_i r5 _ r6
  refine nxF ⟨(r6,i+1),oT⟩ (by simp;omega) (FE.trans (FE.perm (H:=[_,_,_]) (L:=[(r6,_),(rc,_)]) (by repeat' (first|exact trivial|(refine jO (by simp only[Z9, *,if_true,if_false];try rfl) (jO (by simp[ZW,ZU, *]) ?_))))) (FE.closeE2 (by simp[*]) (by simp))) (by simp[E2]) ?_
  rw[Yg ItO (fltR T.length) T i hlt]
  rfl
 ·obtain rfl:i=T.length:=by omega
  (refine V1 hn ?_;with_reducible repeat' intro h)
  all_goals try exact oF
  rw[List.take_length]
  exact ⟨q,rfl,rfl⟩
theorem q103 (T:List (List Int)) (hT:okT T):Pu 103 [TbS T] (· = TbS (fltT T)):=
 Pure.bor ((o103 T hT []).mono fun v H' ⟨r,h1,h2⟩=>by
  subst h1;subst h2
  exact bor_Tb ZZ (by simp[fltT]))
theorem o107 (k:Int) (b q:Nat) (out:List Int) (H:GH) (hb:ZV H b=some (1,[.own q 1 0 out.length])) (hq:ZV H q=some (1,out.map I)) :
 Gc 107 [I k,.ptr b 1 0 0] H (fun v H'=>v=B (!hasI out k)∧H'=H):=by
 refine Z5 mxd i107 rfl (by simp) ?_;refine X0 ?_
 (refine V1 hb ?_)
 refine callS.borA (w105 out k) (.cons (X6 hq rfl) (.cons .refl .nil)) rfl ?_
 rw[any_ix]
 (refine V0 ?_)
 simp[hasI]
theorem o59 (g:Gram) (t:List Nod) (hg:ZE g) (hl:t.length≤1048576) (hk:∀x∈t,x.kids.length≤1048576) (H:GH):Gc 59 [Gr g,Tr t] H (fun v H'=>∃H1,(∃r,v = .tup [.own r 1 0 (YM (Zv g t)).length,B (ordB (Zv g t))]∧H1=[(r,1,(YM (Zv g t)).map I)])∧H'=H1++H):=by
 have hT:=tabI_ok hg t
 have q1:=q104 g t hg hl hk
 have q2:=q103 (Zv g t) hT
 have h0:Gc 59 [Gr g,Tr t] H (fun v H'=>(∃r L,v = .tup [.own r 1 0 (YM (Zv g t)).length,B (ordB (Zv g t))]∧ZV L r=some (1,(YM (Zv g t)).map I)∧H'=L++H)∨(YM (Zv g t)=[]∧ordB (Zv g t)=false∧v = .tup [.val (.slice none 0 0),B false]∧∃L,H'=L++H)):=by
  generalize Zv g t=T at *
  have hTl:=hT.1
  have hFl:(fltT T).length = T.length:=by simp[fltT]
  refine Z5 mxd i59 rfl (by simp) ?_;refine X0 ?_
  (refine V0 ?_)
  refine callS.eq q1 ?_
  (refine V0 ?_)
  refine callS.eq q2 ?_
  (refine V0 ?_;with_reducible repeat' intro h)
  rename_i q0 _ b0
  refine Yu mxd (ι:={ y:Nat×List Int // ordI T y.2 }) (fun y=>[(2,.rop 2 (Gr g)),(3,.rop 1 (Tr t)),(6,TbS (fltT T)),(7,.ptr b0 1 0 0)]) (fun y=>(b0,1,[.own y.1.1 1 0 y.1.2.length])::(y.1.1,1,y.1.2.map I)::H) (fun y=>T.length-y.1.2.length) ⟨(q0,[]),ordI_start T⟩ (by simp[E2]) (by simp) ?_
  rintro ⟨⟨q,out⟩,hO⟩ hn
  dsimp only at hO hn ⊢
  replace hn:=Z4 hn
  (replace hn:=hn;simp only[VN] at hn)
  have hol:=hO.1
  rcases nL out.length T.length with hlt|hge
  ·(refine V1 (jO hn hFl) ?_;with_reducible repeat' first|intro h|apply jO)
   all_goals try exact oF
   refine ZL mxd (ι:={ i:Nat // i≤T.length∧∀j,j<i→rdyT T out j=false }) (fun i=>[(2,.rop 2 (Gr g)),(3,.rop 1 (Tr t)),(6,TbS (fltT T)),(7,.ptr b0 1 0 0),(8,I (-1)),(21,TbS (fltT T)),(22,I T.length),(23,I i.1)]) (fun _ => (b0,1,[.own q 1 0 out.length])::(q,1,out.map I)::H) (fun i=>T.length-i.1) ⟨0,by simp⟩ (by simp[E2]) rfl ?_
   rintro ⟨i,hi,hni⟩
   rcases nL i T.length with hlt2|hge2
   ·have hif:i<(fltT T).length := by omega
    have hrow:=fltT_get hif hlt2
    have hrd:=rdyT_flt hT (out:=out) hlt2
    have hc:=w105 out (i:Int)
    rw[any_ix] at hc
    simp only[show (out.any fun y=>decide (y=(i:Int)))=hasI out i from rfl] at hc
    (refine V1 (jO hn (jO hFl @List.length_map.{0,0})) ?_;with_reducible repeat' first|intro h|refine aO ?_|apply jO)
    all_goals try exact oF
    refine callS.borA hc (.cons (X6 (by simp[Z9,hn]) rfl) (.cons .refl .nil)) rfl ?_
    by_cases hd:hasI out (i:Int)=true
    ·rw[hd] at hrd
     (refine V1 (jO hn hd) ?_)
     all_goals try exact oF
     exact nx ⟨i+1,oT,lt_step hrd hni⟩ (by simp;omega) (by simp[E2]) rfl
    ·have hd':hasI out (i:Int)=false:=by simpa using hd
     rw[hd'] at hrd
     simp only[Bool.not_false,Bool.true_and] at hrd
     (refine V1 (jO hn hd') ?_)
     all_goals try exact oF
     rw[hrow]
     refine callS.of (o106 (fltR T.length T[i]) 107 [.ptr b0 1 0 0] (fun k=> !hasI out k) _ (fun k _ => o107 k b0 q out _ ZZ (by simp[Z9,hn]))) ?_
     rintro v H' ⟨rfl,rfl⟩ -
     by_cases hm:((fltR T.length T[i]).any fun k=> !hasI out k)=true
     ·rw[hm] at hrd
      (refine V1 (jO hn hm) ?_)
      all_goals try exact oF
      exact nx ⟨i+1,oT,lt_step hrd hni⟩ (by simp;omega) (by simp[E2]) rfl
     ·have hm':((fltR T.length T[i]).any fun k=> !hasI out k)=false:=by simpa using hm
      rw[hm'] at hrd
      have hfi:Zg T.length (rdyT T out)=i:=firstI_hit hlt2 hrd hni
      have hnx:=ordI_next hO hlt (by rw[hfi];omega)
      rw[hfi] at hnx
      (refine V1 (jO hn (jO hm' (jO @List.length_append.{0} (jO @List.length_singleton.{0} (jO @List.length_map.{0,0} (jO @List.length_take.{0} @ZM)))))) ?_;with_reducible repeat' first|intro h|refine aO ?_)
      all_goals try exact oF
      rename_i r5 _ r6
      refine nxF ⟨(r6,out++[(i:Int)]),hnx⟩ (by simp;omega) (FE.perm (H:=[_,_,_]) (L:=[(b0,_),(r6,_)]) (by repeat' (first|exact trivial|(refine jO (by simp only[Z9, *,if_true,if_false];try rfl) (jO (by simp[ZW,ZU, *]) ?_))))) (by simp[E2]) ?_
      rw[tL (by simp),List.map_append,List.length_append]
      rfl
   ·have hfi:Zg T.length (rdyT T out) = -1:=XX fun j hj=>hni j oT
    obtain ⟨e1,e2⟩:=ordI_stuck hO hlt (by rw[hfi];omega)
    rw[e1,e2]
    (refine V1 (jO hn hFl) ?_;with_reducible repeat' first|intro h|refine aO ?_|apply jO)
    all_goals try exact oF
    exact .inr ⟨[(b0,_),(q,_)],rfl⟩
  ·obtain ⟨e1,e2⟩:=ordI_end hO oT
   rw[e1,e2]
   (refine V1 (jO hn hFl) ?_;with_reducible repeat' intro h)
   all_goals try exact oF
   exact .inl ⟨q,[(b0,_),(q,_)],rfl,by simp[ZV,hn],rfl⟩
 refine h0.fr ?_
 rintro v H' (⟨r,L,rfl,hr,rfl⟩|⟨e1,e2,rfl,L,rfl⟩)
 ·exact ⟨_,_,FR.perm (H:=L) (L:=[(r,1,(YM (Zv g t)).map I)]) ⟨hr,by simp[names],trivial⟩,_,⟨r,rfl,rfl⟩,rfl⟩
 ·rw[e1,e2]
  refine ⟨_,_,FR.trans (FR.perm (H:=L) (L:=[]) trivial) (FR.trans (FR.addv (r:=Yk ([]++H)) (sz:=1) (vname_odd _) (vname_new _)) (FR.sub (.tup (.cons (Bor.virt (r:=Yk ([]++H)) (sz:=1)) (.cons .refl .nil))))),_,⟨Yk ([]++H),rfl,rfl⟩,rfl⟩
theorem q59 (g:Gram) (t:List Nod) (hg:ZE g) (hl:t.length≤1048576) (hk:∀x∈t,x.kids.length≤1048576):Pu 59 [Gr g,Tr t] (· = .tup [IS (YM (Zv g t)),B (ordB (Zv g t))]):=
 Pure.bor ((o59 g t hg hl hk []).mono fun v H' ⟨H1,⟨r,h1,h2⟩,h3⟩=>by
  subst h1;subst h2;subst h3
  exact .tup (.cons (X6 ZZ rfl) (.cons .refl .nil)))
end Go.Proofs.YtkmedfejmndmjaaGreat
