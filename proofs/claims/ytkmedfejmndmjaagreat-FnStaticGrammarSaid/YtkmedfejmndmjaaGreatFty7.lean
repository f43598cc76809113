/- The law returns true whatever the input, and the input reads behind the call as before. No condition. -/
import Derived.Test.YtkmedfejmndmjaaGreatFty6
set_option maxHeartbeats 40000000
set_option maxRecDepth 20000
set_option linter.unusedSimpArgs false
set_option linter.unusedVariables false
namespace Go.Proofs.YtkmedfejmndmjaaGreat
open Go.Gh
open Nat (reduceEqDiff reduceLeDiff reduceAdd reduceLT)
open Int (reduceNe)
theorem o207 (L:List Oc) (r n:Nat) (T:GH) (hL:L.length=n) (hb:n≤4194304):Gc 207 [.own r 2 0 n] ((r,2,L.map Occ)::T)
 (fun v H'=>v = .own r 2 0 (cpO L).length ∧ H'=(r,2,(cpO L).map Occ)::T):=by
 subst hL
 refine ZY mxd i207 rfl (by simp) ?_;refine X0 ?_
 by_cases h2:L.length<2
 ·have e:cpO L=L:=cpO_short (by omega)
  rw[e]
  (refine V1 h2 ?_;with_reducible repeat' first|exact trivial|intro h|refine aO ?_|refine eO ?_|apply jO)
  all_goals try exact oF
 ·have h2':¬((L.length:Int)<2):=by omega
  (refine V1 h2' ?_;with_reducible repeat' first|exact trivial|intro h|refine aO ?_|refine eO ?_|apply jO)
  all_goals try exact oF
  refine ZF mxd (ι:={ k:Nat // 1≤k∧k≤L.length∧cpO (L.take k)=L.take k }) (fun k=>[(0,.own r 2 0 L.length),(3,I k.1)]) (fun k=>(r,2,L.map Occ)::T) (fun k=>L.length-k.1) ⟨1,by omega,by omega,cpO_short (by simp;omega)⟩ (by simp[E2]) rfl ?_
  rintro ⟨k,hk1,hk2,hk⟩
  rcases nL k L.length with h|h
  ·obtain ⟨m,rfl⟩:∃m,k=m+1:=⟨k-1,by omega⟩
   have hst:=cpO_take h
   have hm:((m+1:Nat):Int)-1=m:=by omega
   have hnn:((L.length:Int)-((m+1:Nat):Int)).toNat = L.length-(m+1):=by omega
   have hno:¬L[m+1]=L[m]→cpO (L.take (m+2))=L.take (m+2):=fun he=>by
    rw[hst,if_neg he,hk,List.take_add_one (i:=m+1),List.getElem?_eq_getElem h];rfl
   (refine V1 (jO @List.length_map.{0,0} (jO hm hnn)) ?_;with_reducible repeat' first|exact trivial|intro h|refine aO ?_|refine eO ?_|apply jO)
   all_goals try exact oF
   ·rename_i hf
    simp only[Int.toNat_natCast] at hf h
    have he:L[m+1]=L[m]:=Prod.ext hf h
    rw[if_pos he,hk] at hst
    have i1:(cpO (L.take (m+1+1))).length = m+1:=by rw[show m+1+1=m+2 from rfl,hst];simp;omega
    refine ZF mxd (ι:={ y:Nat×List Oc // cpI L m y.1 y.2 }) (fun y=>[(0,.own r 2 0 L.length),(3,I (cpO (L.take (m+1+y.1.1))).length),(4,.own r 2 (m+1) (L.length-(m+1))),(5,I y.1.1)]) (fun y=>(r,2,y.1.2.map Occ)::T) (fun y=>L.length-y.1.1) ⟨(1,L),by omega,by dsimp only;omega,rfl,by dsimp only;omega,by dsimp only;rw[i1,show m+1+1=m+2 from rfl,hst],rfl⟩ (by simp only[i1];simp[E2]) rfl ?_
    rintro ⟨⟨j,X⟩,hI⟩
    obtain ⟨hj1,hj2,hx1,hx2,hx3,hx4⟩:=id hI
    dsimp only at hI hj1 hj2 hx1 hx2 hx3 hx4 ⊢
    rcases nL (m+1+j) L.length with hlt|hge
    ·have hi2:m+1+((j:Int)-1).toNat = m+j:=by omega
     (refine V1 (jO @List.length_map.{0,0} hx1) ?_;with_reducible repeat' first|exact trivial|intro h|refine aO ?_|refine eO ?_|apply jO)
     all_goals try exact oF
     ·rename_i hf
      obtain ⟨b1,b2⟩:=cpI_eq hI hlt hi2 (by omega) (by omega) (Prod.ext hf h)
      exact nx ⟨(j+1,X),b1⟩ (by simp;omega) (by simp only[b2];simp[E2]) rfl
     ·rename_i hf
      obtain ⟨b1,b2⟩:=cpI_ne hI hlt hi2 (by omega) (by omega) (fun e=>h (congrArg Prod.snd e))
      refine nx ⟨(j+1,_),b1⟩ (by simp;omega) (by simp only[b2];simp[E2]) ?_
      rw[List.map_set,←hf]
     ·obtain ⟨b1,b2⟩:=cpI_ne hI hlt hi2 (by omega) (by omega) (fun e=>h (congrArg Prod.fst e))
      refine nx ⟨(j+1,_),b1⟩ (by simp;omega) (by simp only[b2];simp[E2]) ?_
      rw[List.map_set]
    ·have hje:m+1+j=L.length:=by omega
     have hle:=cpO_len L
     have e2:(cpO (L.take (m+1+j)))=cpO L:=by rw[hje,List.take_length]
     rw[e2] at hx3
     simp only[e2]
     (refine V1 (jO @List.length_map.{0,0} hx1) ?_;with_reducible repeat' first|exact trivial|intro h|refine aO ?_|refine eO ?_|apply jO)
     all_goals first|omega|(simp;done)|(rw[←List.map_take,hx3])
   ·simp only[Int.toNat_natCast] at h
    exact nx ⟨m+2,by omega,by omega,hno fun e=>h (congrArg Prod.snd e)⟩ (by simp;omega) (by simp[E2];omega) rfl
   ·simp only[Int.toNat_natCast] at h
    exact nx ⟨m+2,by omega,by omega,hno fun e=>h (congrArg Prod.fst e)⟩ (by simp;omega) (by simp[E2];omega) rfl
  ·obtain rfl:k=L.length:=by omega
   rw[List.take_length] at hk
   rw[hk]
   (refine V0 ?_;with_reducible repeat' first|exact trivial|intro h|refine aO ?_|refine eO ?_|apply jO)
   all_goals try exact oF
theorem o142 (e:Exp) (hw:wEx e≤1048576) (H:GH):Gc 142 [Ex e] H (fun v H'=>∃H1,(∃r,v = .own r 2 0 (usE e []).length ∧ H1=[(r,2,(usE e []).map Occ)])∧H'=H1++H):=by
 have h0:Gc 142 [Ex e] H (fun v H'=>∃r rb u,¬r=rb∧v = .own r 2 0 (usE e []).length ∧ H'=(r,2,(usE e []).map Occ)::(rb,1,u)::H):=by
  have e1:=occE_len e
  have e2:=srO_len (occE e)
  have e3:=usE_cp e
  refine ZY mxd i142 rfl (by simp) ?_;refine X0 ?_
  (refine V1 @XE ?_;with_reducible repeat' first|exact trivial|intro h|refine aO ?_|refine eO ?_|apply jO)
  rename_i q _ rb
  refine callS.of (GCalls.sub (H:=[_,_]) (L:=[(q,2,([]:List Oc).map Occ),(rb,1,[.own q 2 0 ([]:List Oc).length])]) (T:=H) ?_ (o158 rb H e [] q (by simp;omega))) ?_
  ·simp[subH,ZU,names, *]
  rintro v H' ⟨q',rfl,rfl⟩ hn
  rw[List.nil_append] at hn ⊢
  replace hn:=ZX hn
  (replace hn:=hn;simp only[VN] at hn)
  (refine V1 hn ?_;with_reducible repeat' first|exact trivial|intro h|refine aO ?_|refine eO ?_|apply jO)
  refine callS.of (o205 Z4 rfl (by omega)) ?_
  rintro v H' ⟨rfl,rfl⟩ -
  rw[hset_new]
  (refine V1 hn ?_;with_reducible repeat' first|exact trivial|intro h|refine aO ?_|refine eO ?_|apply jO)
  refine callS.of (o207 (srO (occE e)) q' _ _ e2 (by omega)) ?_
  rintro v H' ⟨rfl,rfl⟩ -
  rw[e3]
  (refine V1 hn ?_;with_reducible repeat' first|exact trivial|intro h|refine aO ?_|refine eO ?_|apply jO)
  exact ⟨q',rb,_,by simp[hn],rfl,rfl⟩
 refine h0.fr ?_
 rintro v H' ⟨r,rb,u,n1,rfl,rfl⟩
 exact ⟨_,_,FR.perm (H:=[_,_]) (L:=[(r,2,(usE e []).map Occ)]) (by simp[subH,ZU,names, *]),_,⟨r,rfl,rfl⟩,rfl⟩
theorem q142 (e:Exp) (hw:wEx e≤1048576):Pu 142 [Ex e] (· = OcS (usE e [])):=
 Pure.bor ((o142 e hw []).mono fun v H' ⟨H1,⟨r,h1,h2⟩,h3⟩=>by
  subst h1;subst h2;subst h3
  exact Bor.allM (fun _ => rfl) Z4 rfl)
theorem w160 (t:List Sym) (f:Nat) (cs:List GV) (p:Sym→Bool) (hp:∀x∈t,Pu f (Sy x::cs) (· = B (p x))) :
 Pu 160 [SyS t,.clo f cs] (· = I (Y5 p t)):=by
 refine GCalls.lenA fun hl=> ?_
 have hlen:=hl.1.1
 simp only[List.length_map,Zi] at hlen
 refine ZY mxd i160 rfl (by simp) ?_;refine X0 ?_
 (refine V0 ?_;with_reducible repeat' first|exact trivial|intro h|refine aO ?_|refine eO ?_|apply jO)
 refine ZF mxd (ι:={ i:Nat // i≤t.length∧∀y∈t.take i,p y=false }) (fun i=>[(0,SyS t),(1,.clo f cs),(7,I t.length),(8,I i.1)]) (fun _ => []) (fun i=>t.length-i.1) ⟨0,by simp⟩ (by simp[E2]) rfl ?_
 rintro ⟨i,hi,hn⟩
 rcases nL i t.length with hlt|hge
 ·(refine V1 @XE ?_;with_reducible repeat' first|exact trivial|intro h|refine aO ?_|refine eO ?_|apply jO)
  all_goals try exact oF
  refine callS.eq (hp t[i] (gM hlt)) ?_
  by_cases hb:p t[i]=true
  ·have e:=YD hlt hb hn
   rw[e]
   (refine V1 hb ?_;with_reducible repeat' first|exact trivial|intro h|refine aO ?_|refine eO ?_|apply jO)
  ·have hb':p t[i]=false:=by simpa using hb
   (refine V1 hb' ?_;with_reducible repeat' first|exact trivial|intro h|refine aO ?_|refine eO ?_|apply jO)
   exact nx ⟨i+1,by omega,Zg hlt hb' hn⟩ (by simp<;>omega) (by simp[E2]) rfl
 ·obtain rfl:i=t.length:=by omega
  rw[List.take_length] at hn
  rw[YF hn]
  (refine V0 ?_;with_reducible repeat' first|exact trivial|intro h|refine aO ?_|refine eO ?_|apply jO)
  all_goals first|(exfalso;omega)|skip
theorem w99 (t:List Sym) (f:Nat) (cs:List GV) (p:Sym→Bool) (hp:∀x∈t,Pu f (Sy x::cs) (· = B (p x))) :
 Pu 99 [SyS t,.clo f cs] (· = B (t.any p)):=by
 refine ZY mxd i99 rfl (by simp) ?_;refine X0 ?_
 refine callS.eq (w160 t f cs p hp) ?_
 (refine R0 ?_;with_reducible repeat' first|exact trivial|intro h|refine aO ?_|refine eO ?_|apply jO)
 rw[←any_ix]
theorem w156 (t:List Rul) (f:Nat) (cs:List GV) (p:Rul→Bool) (hp:∀x∈t,Pu f (Ru x::cs) (· = B (p x))) :
 Pu 156 [RuS t,.clo f cs] (· = I (Y5 p t)):=by
 refine GCalls.lenA fun hl=> ?_
 have hlen:=hl.1.1
 simp only[List.length_map,Zi] at hlen
 refine ZY mxd i156 rfl (by simp) ?_;refine X0 ?_
 (refine V0 ?_;with_reducible repeat' first|exact trivial|intro h|refine aO ?_|refine eO ?_|apply jO)
 refine ZF mxd (ι:={ i:Nat // i≤t.length∧∀y∈t.take i,p y=false }) (fun i=>[(0,RuS t),(1,.clo f cs),(7,I t.length),(8,I i.1)]) (fun _ => []) (fun i=>t.length-i.1) ⟨0,by simp⟩ (by simp[E2]) rfl ?_
 rintro ⟨i,hi,hn⟩
 rcases nL i t.length with hlt|hge
 ·(refine V1 @XE ?_;with_reducible repeat' first|exact trivial|intro h|refine aO ?_|refine eO ?_|apply jO)
  all_goals try exact oF
  refine callS.eq (hp t[i] (gM hlt)) ?_
  by_cases hb:p t[i]=true
  ·have e:=YD hlt hb hn
   rw[e]
   (refine V1 hb ?_;with_reducible repeat' first|exact trivial|intro h|refine aO ?_|refine eO ?_|apply jO)
  ·have hb':p t[i]=false:=by simpa using hb
   (refine V1 hb' ?_;with_reducible repeat' first|exact trivial|intro h|refine aO ?_|refine eO ?_|apply jO)
   exact nx ⟨i+1,by omega,Zg hlt hb' hn⟩ (by simp<;>omega) (by simp[E2]) rfl
 ·obtain rfl:i=t.length:=by omega
  rw[List.take_length] at hn
  rw[YF hn]
  (refine V0 ?_;with_reducible repeat' first|exact trivial|intro h|refine aO ?_|refine eO ?_|apply jO)
  all_goals first|(exfalso;omega)|skip
theorem w94 (t:List Rul) (f:Nat) (cs:List GV) (p:Rul→Bool) (hp:∀x∈t,Pu f (Ru x::cs) (· = B (p x))) :
 Pu 94 [RuS t,.clo f cs] (· = B (t.any p)):=by
 refine ZY mxd i94 rfl (by simp) ?_;refine X0 ?_
 refine callS.eq (w156 t f cs p hp) ?_
 (refine R0 ?_;with_reducible repeat' first|exact trivial|intro h|refine aO ?_|refine eO ?_|apply jO)
 rw[←any_ix]
theorem w133 (t:List Att) (f:Nat) (cs:List GV) (p:Att→Bool) (hp:∀x∈t,Pu f (At x::cs) (· = B (p x))) :
 Pu 133 [AtS t,.clo f cs] (· = I (Y5 p t)):=by
 refine GCalls.lenA fun hl=> ?_
 have hlen:=hl.1.1
 simp only[List.length_map,Zi] at hlen
 refine ZY mxd i133 rfl (by simp) ?_;refine X0 ?_
 (refine V0 ?_;with_reducible repeat' first|exact trivial|intro h|refine aO ?_|refine eO ?_|apply jO)
 refine ZF mxd (ι:={ i:Nat // i≤t.length∧∀y∈t.take i,p y=false }) (fun i=>[(0,AtS t),(1,.clo f cs),(7,I t.length),(8,I i.1)]) (fun _ => []) (fun i=>t.length-i.1) ⟨0,by simp⟩ (by simp[E2]) rfl ?_
 rintro ⟨i,hi,hn⟩
 rcases nL i t.length with hlt|hge
 ·(refine V1 @XE ?_;with_reducible repeat' first|exact trivial|intro h|refine aO ?_|refine eO ?_|apply jO)
  all_goals try exact oF
  refine callS.eq (hp t[i] (gM hlt)) ?_
  by_cases hb:p t[i]=true
  ·have e:=YD hlt hb hn
   rw[e]
   (refine V1 hb ?_;with_reducible repeat' first|exact trivial|intro h|refine aO ?_|refine eO ?_|apply jO)
  ·have hb':p t[i]=false:=by simpa using hb
   (refine V1 hb' ?_;with_reducible repeat' first|exact trivial|intro h|refine aO ?_|refine eO ?_|apply jO)
   exact nx ⟨i+1,by omega,Zg hlt hb' hn⟩ (by simp<;>omega) (by simp[E2]) rfl
 ·obtain rfl:i=t.length:=by omega
  rw[List.take_length] at hn
  rw[YF hn]
  (refine V0 ?_;with_reducible repeat' first|exact trivial|intro h|refine aO ?_|refine eO ?_|apply jO)
  all_goals first|(exfalso;omega)|skip
theorem w81 (t:List Att) (f:Nat) (cs:List GV) (p:Att→Bool) (hp:∀x∈t,Pu f (At x::cs) (· = B (p x))) :
 Pu 81 [AtS t,.clo f cs] (· = B (t.any p)):=by
 refine ZY mxd i81 rfl (by simp) ?_;refine X0 ?_
 refine callS.eq (w133 t f cs p hp) ?_
 (refine R0 ?_;with_reducible repeat' first|exact trivial|intro h|refine aO ?_|refine eO ?_|apply jO)
 rw[←any_ix]
theorem w201 (t:List Oc) (f:Nat) (cs:List GV) (p:Oc→Bool) (hp:∀x∈t,Pu f (Occ x::cs) (· = B (p x))) :
 Pu 201 [OcS t,.clo f cs] (· = I (Y5 p t)):=by
 refine GCalls.lenA fun hl=> ?_
 have hlen:=hl.1.1
 simp only[List.length_map,Zi] at hlen
 refine ZY mxd i201 rfl (by simp) ?_;refine X0 ?_
 (refine V0 ?_;with_reducible repeat' first|exact trivial|intro h|refine aO ?_|refine eO ?_|apply jO)
 refine ZF mxd (ι:={ i:Nat // i≤t.length∧∀y∈t.take i,p y=false }) (fun i=>[(0,OcS t),(1,.clo f cs),(7,I t.length),(8,I i.1)]) (fun _ => []) (fun i=>t.length-i.1) ⟨0,by simp⟩ (by simp[E2]) rfl ?_
 rintro ⟨i,hi,hn⟩
 rcases nL i t.length with hlt|hge
 ·(refine V1 @XE ?_;with_reducible repeat' first|exact trivial|intro h|refine aO ?_|refine eO ?_|apply jO)
  all_goals try exact oF
  refine callS.eq (hp t[i] (gM hlt)) ?_
  by_cases hb:p t[i]=true
  ·have e:=YD hlt hb hn
   rw[e]
   (refine V1 hb ?_;with_reducible repeat' first|exact trivial|intro h|refine aO ?_|refine eO ?_|apply jO)
  ·have hb':p t[i]=false:=by simpa using hb
   (refine V1 hb' ?_;with_reducible repeat' first|exact trivial|intro h|refine aO ?_|refine eO ?_|apply jO)
   exact nx ⟨i+1,by omega,Zg hlt hb' hn⟩ (by simp<;>omega) (by simp[E2]) rfl
 ·obtain rfl:i=t.length:=by omega
  rw[List.take_length] at hn
  rw[YF hn]
  (refine V0 ?_;with_reducible repeat' first|exact trivial|intro h|refine aO ?_|refine eO ?_|apply jO)
  all_goals first|(exfalso;omega)|skip
theorem w134 (t:List Oc) (f:Nat) (cs:List GV) (p:Oc→Bool) (hp:∀x∈t,Pu f (Occ x::cs) (· = B (p x))) :
 Pu 134 [OcS t,.clo f cs] (· = B (t.any p)):=by
 refine ZY mxd i134 rfl (by simp) ?_;refine X0 ?_
 refine callS.eq (w201 t f cs p hp) ?_
 (refine R0 ?_;with_reducible repeat' first|exact trivial|intro h|refine aO ?_|refine eO ?_|apply jO)
 rw[←any_ix]
theorem w202 (t:List Eqn) (f:Nat) (cs:List GV) (p:Eqn→Bool) (hp:∀x∈t,Pu f (Qn x::cs) (· = B (p x))) :
 Pu 202 [QnS t,.clo f cs] (· = I (Y5 p t)):=by
 refine GCalls.lenA fun hl=> ?_
 have hlen:=hl.1.1
 simp only[List.length_map,Zi] at hlen
 refine ZY mxd i202 rfl (by simp) ?_;refine X0 ?_
 (refine V0 ?_;with_reducible repeat' first|exact trivial|intro h|refine aO ?_|refine eO ?_|apply jO)
 refine ZF mxd (ι:={ i:Nat // i≤t.length∧∀y∈t.take i,p y=false }) (fun i=>[(0,QnS t),(1,.clo f cs),(7,I t.length),(8,I i.1)]) (fun _ => []) (fun i=>t.length-i.1) ⟨0,by simp⟩ (by simp[E2]) rfl ?_
 rintro ⟨i,hi,hn⟩
 rcases nL i t.length with hlt|hge
 ·(refine V1 @XE ?_;with_reducible repeat' first|exact trivial|intro h|refine aO ?_|refine eO ?_|apply jO)
  all_goals try exact oF
  refine callS.eq (hp t[i] (gM hlt)) ?_
  by_cases hb:p t[i]=true
  ·have e:=YD hlt hb hn
   rw[e]
   (refine V1 hb ?_;with_reducible repeat' first|exact trivial|intro h|refine aO ?_|refine eO ?_|apply jO)
  ·have hb':p t[i]=false:=by simpa using hb
   (refine V1 hb' ?_;with_reducible repeat' first|exact trivial|intro h|refine aO ?_|refine eO ?_|apply jO)
   exact nx ⟨i+1,by omega,Zg hlt hb' hn⟩ (by simp<;>omega) (by simp[E2]) rfl
 ·obtain rfl:i=t.length:=by omega
  rw[List.take_length] at hn
  rw[YF hn]
  (refine V0 ?_;with_reducible repeat' first|exact trivial|intro h|refine aO ?_|refine eO ?_|apply jO)
  all_goals first|(exfalso;omega)|skip
theorem w137 (t:List Eqn) (f:Nat) (cs:List GV) (p:Eqn→Bool) (hp:∀x∈t,Pu f (Qn x::cs) (· = B (p x))) :
 Pu 137 [QnS t,.clo f cs] (· = B (t.any p)):=by
 refine ZY mxd i137 rfl (by simp) ?_;refine X0 ?_
 refine callS.eq (w202 t f cs p hp) ?_
 (refine R0 ?_;with_reducible repeat' first|exact trivial|intro h|refine aO ?_|refine eO ?_|apply jO)
 rw[←any_ix]
end Go.Proofs.YtkmedfejmndmjaaGreat
