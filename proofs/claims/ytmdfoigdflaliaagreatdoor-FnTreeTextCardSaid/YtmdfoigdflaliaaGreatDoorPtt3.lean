/- The tied card of the law holds. No condition. -/
import Derived.Test.YtmdfoigdflaliaaGreatDoorPtt2
set_option maxHeartbeats 40000000
set_option maxRecDepth 20000
set_option linter.unusedSimpArgs false
set_option linter.unusedVariables false
namespace Go.Proofs.YtmdfoigdflaliaaGreatDoor
open Go.Gh
open Nat (reduceEqDiff reduceLeDiff reduceAdd reduceLT)
open Int (reduceNe)
theorem w91 (x:Sym) (hx:smSy x):Pu 91 [Sy x] (· = Sy x):=by
 unfold smSy at hx
 refine Pure.bor ?_
 refine ZN mxd i91 rfl (by simp) ?_;refine X0 ?_
 (refine R0 ?_;with_reducible repeat' first|exact trivial|intro h|refine aO ?_|refine eO ?_|apply jO)
 exact .agg (.cons .refl (.cons (Bor.allM (fun _ => rfl) ZX rfl) .nil))
theorem w74 (g:Sym) (s:ByteArray) (hg:smSy g):Pu 74 [Sy g,T s] (· = .tup [At (fAtt g.atts s),B (hAtt g.atts s)]):=by
 unfold smSy at hg
 refine ZN mxd i74 rfl (by simp) ?_;refine X0 ?_
 refine Y5 mxd (ι:={ i:Nat // i≤g.atts.length∧∀y∈g.atts.take i,decide (y.name=s)=false }) (fun i=>[(1,T s),(2,.rop 2 (Sy g)),(4,.raw 4),(6,I i.1)]) (fun _ => []) (fun i=>g.atts.length-i.1) ⟨0,by simp⟩ (by simp[E2]) rfl ?_
 rintro ⟨i,hi,hn⟩
 (refine R0 ?_;with_reducible repeat' first|exact trivial|intro h|refine aO ?_|refine eO ?_|apply jO)
 ·subst h
  have e:=find_hit (p:=fun x:Att=>decide (x.name=g.atts[i].name)) (xs:=g.atts) (i:=i) (by assumption) (by simp) hn
  simp only[fAtt,hAtt,e]
  rfl
 ·exact nx ⟨i+1,by omega,take_step (by assumption) (by simp[*]) hn⟩ (by simp;omega) (by simp[E2]) rfl
 ·have:i=g.atts.length:=by omega
  subst this
  rw[tL (Nat.le_refl _)] at hn
  have e:=find_none hn
  simp only[fAtt,hAtt,e]
  rfl
theorem w90:∀(e:Exp),wEx e≤1048576→Pu 90 [Ex e] (· = Ex e):=by
 refine Exp.indA fun e ih hw=> ?_
 obtain ⟨hl,ha⟩:=args_small hw
 refine Pure.bor ?_
 refine ZN mxd i90 rfl (by simp) ?_;refine X0 ?_
 (refine R1 @XE ?_;with_reducible repeat' first|exact trivial|intro h|refine aO ?_|refine eO ?_|apply jO)
 rename_i r hr q
 have h0:=Z0 h
 (replace h0:=h0;simp only[VN] at h0)
 refine ploop mxd (ι:={ x:Nat×Nat // x.2≤e.args.length }) (fun x=>[(1,.ptr r 7 0 0),(2,.raw 7),(3,.own x.1.1 7 0 x.1.2),(4,I x.1.2)]) (fun x=>[(x.1.1,7,(e.args.take x.1.2).map Ex),(r,7,[Ex e])]) (fun x=>e.args.length-x.1.2) ⟨(q,0),by simp⟩ (by simp[E2]) (by simp[subH,ZW,names,h0]) ?_
 rintro ⟨⟨q,i⟩,hi⟩ hn
 dsimp only at hi hn ⊢
 (replace hn:=hn;simp only[VN] at hn)
 (refine R1 (jO @XE (jO @Z9 (jO @Z8 (jO @Z7 (jO hn @t_ldf))))) ?_;with_reducible repeat' first|exact trivial|intro h|refine aO ?_|refine eO ?_|apply jO)
 ·refine callS.eq (ih _ (gM _) (ha _ (gM _))) ?_
  (refine R1 (jO @XE (jO @Z9 (jO @Z8 (jO @Z7 (jO hn @t_ldf))))) ?_;with_reducible repeat' first|exact trivial|intro h|refine aO ?_|refine eO ?_|apply jO)
  rename_i q2
  have h2:=Z0 h
  (replace h2:=h2;simp only[VN] at h2)
  (refine R1 (jO @XE (jO @Z9 (jO @Z8 (jO @Z7 (jO hn (jO h2 @t_ldf)))))) ?_;with_reducible repeat' first|exact trivial|intro h|refine aO ?_|refine eO ?_|apply jO)
  ·simp;omega
  rename_i q3
  have h3:=Z0 h
  (replace h3:=h3;simp only[VN] at h3)
  rw[takeApp Ex e.args i (by assumption)]
  exact px ⟨(q3,i+1),by omega⟩ (by simp;omega) (by simp[E2]) (by simp[subH,ZW,names,h3])
 ·rw[Y2 e]
  refine .agg (.cons .refl (.cons .refl (.cons .refl (.cons .refl (.cons .refl (.cons .refl (.cons ?_ .nil)))))))
  have:i=e.args.length:=by omega
  subst this
  rw[List.take_length]
  exact Bor.allM view_Ex ZX rfl
theorem w36 (g:Gram) (s:ByteArray) (hg:smGr g):Pu 36 [Gr g,T s] (· = .tup [Ru (ZH g.rules s),B (Y6 g.rules s)]):=by
 refine Pure.bor ?_
 have hlen:=hg.2.1
 refine ZN mxd i36 rfl (by simp) ?_;refine X0 ?_
 refine Y5 mxd (ι:={ i:Nat // i≤g.rules.length∧∀y∈g.rules.take i,decide (y.name=s)=false }) (fun i=>[(1,T s),(4,.raw 6),(9,RuS g.rules),(10,I g.rules.length),(11,I i.1)]) (fun _ => []) (fun i=>g.rules.length-i.1) ⟨0,by simp⟩ (by simp[E2]) rfl ?_
 rintro ⟨i,hi,hn⟩
 (refine R0 ?_;with_reducible repeat' first|exact trivial|intro h|refine aO ?_|refine eO ?_|apply jO)
 ·subst h
  have e:=find_hit (p:=fun x:Rul=>decide (x.name=g.rules[i].name)) (xs:=g.rules) (i:=i) (by assumption) (by simp) hn
  simp only[ZH,Y6,e]
  exact .refl
 ·exact nx ⟨i+1,by omega,take_step (by assumption) (by simp[*]) hn⟩ (by simp;omega) (by simp[E2]) rfl
 ·have:i=g.rules.length:=by omega
  subst this
  rw[tL (Nat.le_refl _)] at hn
  have e:=find_none hn
  simp only[ZH,Y6,e]
  exact .tup (.cons (.agg (.cons .refl (.cons .refl (.cons .nil (.cons .refl (.cons .nil (.cons .nil .nil))))))) (.cons .refl .nil))
theorem w69 (e:Rul) (hr:smRu e):Pu 69 [Ru e] (· = Ru e):=by
 obtain ⟨h1,h2,h3,h4,h5⟩:=hr
 refine Pure.bor ?_
 refine ZN mxd i69 rfl (by simp) ?_;refine X0 ?_
 (refine R1 @XE ?_;with_reducible repeat' first|exact trivial|intro h|refine aO ?_|refine eO ?_|apply jO)
 rename_i ra _ rr _ r0
 have h0:=Z0 h
 (replace h0:=h0;simp only[VN] at h0)
 obtain ⟨v,ho,hv⟩:=vfresh [r0,rr]
 refine ploopF mxd (ι:={ x:Nat×Nat // x.2≤e.eqs.length }) (fun x=>[(1,.rop 6 (Ru e)),(2,.raw 6),(3,.ptr r0 6 0 0),(4,I x.1.2)])
  (fun x=>[(x.1.1,9,(e.eqs.take x.1.2).map Qn),(r0,6,[.agg [T e.name,T e.left,.own rr 1 0 e.right.length,B e.lit,.own x.1.1 9 0 x.1.2,.val (.slice none 0 0)]]),(rr,1,e.right.map T)])
  (fun x=>e.eqs.length-x.1.2) ⟨(v,0),by simp⟩ (FE.virtF (i:=0) (j:=4) (sz1:=9) ZX rfl rfl ho hv) (by simp[E2]) ?_ ?_
 ·simp only[List.mem_cons,List.not_mem_nil,or_false,not_or] at hv
  simp[subH,ZW,ZI,names,h0,hv]
 rintro ⟨⟨q,i⟩,hi⟩ hn
 dsimp only at hi hn ⊢
 (replace hn:=hn;simp only[VN] at hn)
 (refine R1 (jO @XE (jO @Z9 (jO @Z8 (jO @Z7 (jO hn @t_ldf))))) ?_;with_reducible repeat' first|exact trivial|intro h|refine aO ?_|refine eO ?_|apply jO)
 ·refine callS.eq (w90 _ (h4 _ (gM _))) ?_
  (refine R1 (jO @XE (jO @Z9 (jO @Z8 (jO @Z7 (jO hn @t_ldf))))) ?_;with_reducible repeat' first|exact trivial|intro h|refine aO ?_|refine eO ?_|apply jO)
  rename_i q2
  have h2:=Z0 h
  (replace h2:=h2;simp only[VN] at h2)
  (refine R1 (jO @XE (jO @Z9 (jO @Z8 (jO @Z7 (jO hn (jO h2 @t_ldf)))))) ?_;with_reducible repeat' first|exact trivial|intro h|refine aO ?_|refine eO ?_|apply jO)
  ·simp;omega
  rename_i q3
  have h3:=Z0 h
  (replace h3:=h3;simp only[VN] at h3)
  (refine R1 (jO @XE (jO @Z9 (jO @Z8 (jO @Z7 (jO hn (jO h2 (jO h3 @t_ldf))))))) ?_;with_reducible repeat' first|exact trivial|intro h|refine aO ?_|refine eO ?_|apply jO)
  rw[takeApp Qn e.eqs i (by assumption)]
  exact px ⟨(q3,i+1),by omega⟩ (by simp;omega) (by simp[E2]) (by simp[subH,ZW,names,h3])
 ·have:i=e.eqs.length:=by omega
  subst this
  rw[List.take_length]
  obtain ⟨v,ho,hv⟩:=vfresh [q,r0,rr]
  refine ploopF mxd (ι:={ x:Nat×Nat // x.2≤e.cons.length }) (fun x=>[(1,.rop 6 (Ru e)),(2,.raw 6),(3,.ptr r0 6 0 0),(5,I x.1.2)])
   (fun x=>[(x.1.1,16,(e.cons.take x.1.2).map Co),(q,9,e.eqs.map Qn),(r0,6,[.agg [T e.name,T e.left,.own rr 1 0 e.right.length,B e.lit,.own q 9 0 e.eqs.length,.own x.1.1 16 0 x.1.2]]),(rr,1,e.right.map T)])
   (fun x=>e.cons.length-x.1.2) ⟨(v,0),by simp⟩ (FE.virtF (r:=r0) (i:=0) (j:=5) (sz1:=16) (by simp[ZW,hn];exact ⟨rfl,rfl⟩) rfl rfl ho hv) (by simp[E2]) ?_ ?_
  ·simp only[List.mem_cons,List.not_mem_nil,or_false,not_or] at hv
   simp[subH,ZW,ZI,names,hn,hv]
  rintro ⟨⟨p,i⟩,hi⟩ hn
  dsimp only at hi hn ⊢
  (replace hn:=hn;simp only[VN] at hn)
  (refine R1 (jO @XE (jO @Z9 (jO @Z8 (jO @Z7 (jO hn @t_ldf))))) ?_;with_reducible repeat' first|exact trivial|intro h|refine aO ?_|refine eO ?_|apply jO)
  ·refine callS.eq (w90 _ (h5 _ (gM _)).1) ?_
   (refine R1 (jO @XE (jO @Z9 (jO @Z8 (jO @Z7 (jO hn @t_ldf))))) ?_;with_reducible repeat' first|exact trivial|intro h|refine aO ?_|refine eO ?_|apply jO)
   refine callS.eq (w90 _ (h5 _ (gM _)).2) ?_
   (refine R1 (jO @XE (jO @Z9 (jO @Z8 (jO @Z7 (jO hn @t_ldf))))) ?_;with_reducible repeat' first|exact trivial|intro h|refine aO ?_|refine eO ?_|apply jO)
   rename_i q2
   have h2:=Z0 h
   (replace h2:=h2;simp only[VN] at h2)
   (refine R1 (jO @XE (jO @Z9 (jO @Z8 (jO @Z7 (jO hn (jO h2 @t_ldf)))))) ?_;with_reducible repeat' first|exact trivial|intro h|refine aO ?_|refine eO ?_|apply jO)
   ·simp;omega
   rename_i q3
   have h3:=Z0 h
   (replace h3:=h3;simp only[VN] at h3)
   (refine R1 (jO @XE (jO @Z9 (jO @Z8 (jO @Z7 (jO hn (jO h2 (jO h3 @t_ldf))))))) ?_;with_reducible repeat' first|exact trivial|intro h|refine aO ?_|refine eO ?_|apply jO)
   rw[takeApp Co e.cons i (by assumption)]
   exact px ⟨(q3,i+1),by omega⟩ (by simp;omega) (by simp[E2]) (by simp[subH,ZW,names,h3])
  ·have:i=e.cons.length:=by omega
   subst this
   rw[List.take_length]
   exact .agg (.cons .refl (.cons .refl (.cons (Bor.allM (fun _ => rfl) (by simp[ZW,hn]) rfl) (.cons .refl (.cons (Bor.allM (fun _ => rfl) (by simp[ZW,hn]) rfl) (.cons (Bor.allM (fun _ => rfl) (by simp[ZW,hn]) rfl) .nil))))))
theorem w44 (g:Gram) (s:ByteArray) (hg:smGr g):Pu 44 [Gr g,T s] (· = .tup [Ru (ZH g.rules s),B (Y6 g.rules s)]):=by
 refine Pure.bor ?_
 have hlen:=hg.2.1
 refine ZN mxd i44 rfl (by simp) ?_;refine X0 ?_
 refine Y5 mxd (ι:={ i:Nat // i≤g.rules.length∧∀y∈g.rules.take i,decide (y.name=s)=false }) (fun i=>[(1,T s),(2,.rop 2 (Gr g)),(4,.raw 6),(6,I i.1)]) (fun _ => []) (fun i=>g.rules.length-i.1) ⟨0,by simp⟩ (by simp[E2]) rfl ?_
 rintro ⟨i,hi,hn⟩
 (refine R0 ?_;with_reducible repeat' first|exact trivial|intro h|refine aO ?_|refine eO ?_|apply jO)
 ·subst h
  refine callS.eq (w69 g.rules[i] (hg.2.2.2 _ (gM _))) ?_
  (refine R0 ?_;with_reducible repeat' first|exact trivial|intro h|refine aO ?_|refine eO ?_|apply jO)
  have e:=find_hit (p:=fun x:Rul=>decide (x.name=g.rules[i].name)) (xs:=g.rules) (i:=i) (by assumption) (by simp) hn
  simp only[ZH,Y6,e]
  exact .refl
 ·exact nx ⟨i+1,by omega,take_step (by assumption) (by simp[*]) hn⟩ (by simp;omega) (by simp[E2]) rfl
 ·have:i=g.rules.length:=by omega
  subst this
  rw[tL (Nat.le_refl _)] at hn
  have e:=find_none hn
  simp only[ZH,Y6,e]
  exact .tup (.cons (.agg (.cons .refl (.cons .refl (.cons .nil (.cons .refl (.cons .nil (.cons .nil .nil))))))) (.cons .refl .nil))
theorem w20 (g:Gram) (t:List Nod) (i:Int) (hg:smGr g):Pu 20 [Gr g,Tr t,I i] (· = T (symN g t i)):=by
 refine GCalls.lenA fun hl=> ?_
 obtain ⟨hlen,_⟩:=lenTr hl.2.1
 refine ZN mxd i20 rfl (by simp) ?_;refine X0 ?_
 by_cases h:0≤i∧i<t.length
 ·obtain ⟨i,rfl⟩:∃k:Nat,i=k:=⟨i.toNat,by omega⟩
  have hi:i<t.length:=by omega
  rw[symN_in hi]
  (with_reducible repeat' first|refine callS.eq (w24 _ _ _) ?_|refine callS.eq (w44 _ _ hg) ?_|exact trivial|refine aO ?_|refine eO ?_|apply jO|refine K0 ?_|intro h)
  all_goals first|rfl|(exfalso;omega)
 ·rw[symN_out h]
  (with_reducible repeat' first|refine callS.eq (w24 _ _ _) ?_|refine callS.eq (w44 _ _ hg) ?_|exact trivial|refine aO ?_|refine eO ?_|apply jO|refine K0 ?_|intro h)
  all_goals first|rfl|(exfalso;omega)
theorem w35 (g:Gram) (t:List Nod) (i:Int) (hg:smGr g):Pu 35 [Gr g,Tr t,I i] (· = T (symN g t i)):=by
 refine GCalls.lenA fun hl=> ?_
 obtain ⟨hlen,_⟩:=lenTr hl.2.1
 refine ZN mxd i35 rfl (by simp) ?_;refine X0 ?_
 by_cases h:0≤i∧i<t.length
 ·obtain ⟨i,rfl⟩:∃k:Nat,i=k:=⟨i.toNat,by omega⟩
  have hi:i<t.length:=by omega
  rw[symN_in hi]
  (with_reducible repeat' first|refine callS.eq (w23 _ _) ?_|refine callS.eq (w36 _ _ hg) ?_|exact trivial|refine aO ?_|refine eO ?_|apply jO|refine K0 ?_|intro h)
  all_goals first|rfl|(exfalso;omega)
 ·rw[symN_out h]
  (with_reducible repeat' first|refine callS.eq (w23 _ _) ?_|refine callS.eq (w36 _ _ hg) ?_|exact trivial|refine aO ?_|refine eO ?_|apply jO|refine K0 ?_|intro h)
  all_goals first|rfl|(exfalso;omega)
end Go.Proofs.YtmdfoigdflaliaaGreatDoor
namespace Go.Proofs.YtmdfoigdflaliaaGreatDoor
open Go.Gh
open Nat (reduceEqDiff reduceLeDiff reduceAdd reduceLT)
open Int (reduceNe)
end Go.Proofs.YtmdfoigdflaliaaGreatDoor
namespace Go.Proofs.YtmdfoigdflaliaaGreatDoor
open Go.Gh
open Nat (reduceEqDiff reduceLeDiff reduceAdd reduceLT)
open Int (reduceNe)
theorem w43 (g:Gram) (t:List Nod) (hg:smGr g) (hl:t.length≤1048576) (hk:∀x∈t,x.kids.length≤1048576):∀(f i:Nat) (p q:Int) (s:ByteArray),t.length≤i+f→Pu 43 [Gr g,Tr t,I i,I p,I q,T s] (· = I (Zw g t f i p q s)):=by
 intro f
 induction f with
 | zero=>
  intro i p q s hf
  refine ZN mxd i43 rfl (by simp) ?_;refine X0 ?_
  (refine R0 ?_;with_reducible repeat' first|exact trivial|intro h|refine aO ?_|refine eO ?_|apply jO)
  all_goals first|rfl|(exfalso;omega)
 | succ f ih=>
  intro i p q s hf
  refine ZN mxd i43 rfl (by simp) ?_;refine X0 ?_
  by_cases hi:i<t.length
  rotate_left
  ·rw[walkE_out (by omega)]
   (refine R0 ?_;with_reducible repeat' first|exact trivial|intro h|refine aO ?_|refine eO ?_|apply jO)
   all_goals first|rfl|(exfalso;omega)
  have hw:Zw g t (f+1) i p q s=if fitV g t[i] p q s then Za (Zw g t f) i t[i].kids (ZH g.rules t[i].rule).right 0 (i+1) else -1:=by simp only[Zw,if_pos hi,YS hi]
  have hkk:=hk _ (gM hi)
  have hr:=smRu_f hg t[i].rule
  have hrr:=hr.1
  rw[hw]
  by_cases hv:fitV g t[i] p q s=true
  ·rw[if_pos hv]
   obtain ⟨h1,h2,h3,h4,h5,h6,h7⟩:=fitV_iff.1 hv
   subst h2 h3 h4
   clear hw hv
   have hR:∃R,ZH g.rules t[i].rule = R:=⟨_,rfl⟩
   obtain ⟨R,hR⟩:=hR
   rw[hR] at hr hrr h5 h7 ⊢
   have main:∀(Q:Exit→Env→GH→Prop),True:=fun _ => trivial
   rcases h7 with h7|h7
   ·(with_reducible repeat' first|refine callS.eq (w44 _ _ hg) ?_|refine callS.eq (w68 _ _) ?_|exact trivial|refine aO ?_|refine eO ?_|apply jO|refine K1 (jO h1 (jO h5 (jO @okV1 (jO (eq_true h6) (jO h7 hR))))) ?_|intro h)
    all_goals try exact oF
    have hVV:∃V,Za (Zw g t f) i t[i].kids R.right 0 (i+1)=V:=⟨_,rfl⟩
    obtain ⟨V,hVV⟩:=hVV
    rw[hVV]
    refine Y5 mxd (ι:={ x:Nat×Int // x.1≤R.right.length∧(i:Int)<x.2∧x.2≤t.length∧Za (Zw g t f) i (t[i].kids.drop x.1) (R.right.drop x.1) x.1 x.2=V }) (fun x=>[(2,I i),(6,.rop 2 (Gr g)),(7,.rop 1 (Tr t)),(13,.rop 6 (Nd t[i])),(14,.rop 6 (Ru R)),(16,I x.1.2),(17,I x.1.1)]) (fun _ => []) (fun x=>R.right.length-x.1.1) ⟨(0,i+1),by simp,by simp;omega,by simp;omega,by simpa using hVV⟩ (by simp[E2,h7]) rfl ?_
    rintro ⟨⟨k,a⟩,hk1,ha1,ha2,hV⟩
    dsimp only at hk1 ha1 ha2 hV ⊢
    rcases nL k R.right.length with hlt|hge
    ·rw[kidsW_step (by omega) hlt] at hV
     by_cases hc:t[i].kids[k]=a
     ·rw[if_neg (by simpa using hc)] at hV
      obtain ⟨m,rfl⟩:∃m:Nat,a=m:=⟨a.toNat,by omega⟩
      have hm:=walkE_ge (g:=g) (t:=t) f m i ((k:Int)+1) R.right[k]
      simp only[Int.toNat_natCast] at hV
      (with_reducible repeat' first|refine callS.eq (ih m _ _ _ (by omega)) ?_|exact trivial|refine aO ?_|refine eO ?_|apply jO|refine K1 (jO h5 hc) ?_|intro h)
      all_goals try exact oF
      ·rw[if_pos (by assumption)] at hV;rw[←hV]
      ·rw[if_neg (by assumption)] at hV
       exact nx ⟨(k+1,Zw g t f m i ((k:Int)+1) R.right[k]),by omega,by dsimp only;omega,by dsimp only;omega,hV⟩ (by simp;omega) (by simp[E2]) rfl
     ·rw[if_pos (by simpa using hc)] at hV
      (with_reducible repeat' first|refine callS.eq (ih _ _ _ _ (by omega)) ?_|exact trivial|refine aO ?_|refine eO ?_|apply jO|refine K1 (jO h5 hc) ?_|intro h)
      all_goals first|(rw[←hV];done)|(exfalso;omega)
    ·rw[kidsW_end (by omega)] at hV
     (refine R0 ?_;with_reducible repeat' first|exact trivial|intro h|refine aO ?_|refine eO ?_|apply jO)
     all_goals first|(rw[←hV];done)|(exfalso;omega)
   ·(with_reducible repeat' first|refine callS.eq (w44 _ _ hg) ?_|refine callS.eq (w68 _ _) ?_|exact trivial|refine aO ?_|refine eO ?_|apply jO|refine K1 (jO h1 (jO h5 (jO @okV1 (jO (eq_true h6) (jO h7.1 (jO (eq_true h7.2) hR)))))) ?_|intro h)
    all_goals try exact oF
    have hVV:∃V,Za (Zw g t f) i t[i].kids R.right 0 (i+1)=V:=⟨_,rfl⟩
    obtain ⟨V,hVV⟩:=hVV
    rw[hVV]
    refine Y5 mxd (ι:={ x:Nat×Int // x.1≤R.right.length∧(i:Int)<x.2∧x.2≤t.length∧Za (Zw g t f) i (t[i].kids.drop x.1) (R.right.drop x.1) x.1 x.2=V }) (fun x=>[(2,I i),(6,.rop 2 (Gr g)),(7,.rop 1 (Tr t)),(13,.rop 6 (Nd t[i])),(14,.rop 6 (Ru R)),(16,I x.1.2),(17,I x.1.1)]) (fun _ => []) (fun x=>R.right.length-x.1.1) ⟨(0,i+1),by simp,by simp;omega,by simp;omega,by simpa using hVV⟩ (by simp[E2,h7]) rfl ?_
    rintro ⟨⟨k,a⟩,hk1,ha1,ha2,hV⟩
    dsimp only at hk1 ha1 ha2 hV ⊢
    rcases nL k R.right.length with hlt|hge
    ·rw[kidsW_step (by omega) hlt] at hV
     by_cases hc:t[i].kids[k]=a
     ·rw[if_neg (by simpa using hc)] at hV
      obtain ⟨m,rfl⟩:∃m:Nat,a=m:=⟨a.toNat,by omega⟩
      have hm:=walkE_ge (g:=g) (t:=t) f m i ((k:Int)+1) R.right[k]
      simp only[Int.toNat_natCast] at hV
      (with_reducible repeat' first|refine callS.eq (ih m _ _ _ (by omega)) ?_|exact trivial|refine aO ?_|refine eO ?_|apply jO|refine K1 (jO h5 hc) ?_|intro h)
      all_goals try exact oF
      ·rw[if_pos (by assumption)] at hV;rw[←hV]
      ·rw[if_neg (by assumption)] at hV
       exact nx ⟨(k+1,Zw g t f m i ((k:Int)+1) R.right[k]),by omega,by dsimp only;omega,by dsimp only;omega,hV⟩ (by simp;omega) (by simp[E2]) rfl
     ·rw[if_pos (by simpa using hc)] at hV
      (with_reducible repeat' first|refine callS.eq (ih _ _ _ _ (by omega)) ?_|exact trivial|refine aO ?_|refine eO ?_|apply jO|refine K1 (jO h5 hc) ?_|intro h)
      all_goals first|(rw[←hV];done)|(exfalso;omega)
    ·rw[kidsW_end (by omega)] at hV
     (refine R0 ?_;with_reducible repeat' first|exact trivial|intro h|refine aO ?_|refine eO ?_|apply jO)
     all_goals first|(rw[←hV];done)|(exfalso;omega)
  ·rw[if_neg hv]
   rw[fitV_iff] at hv
   (with_reducible repeat' first|refine callS.eq (w44 _ _ hg) ?_|refine callS.eq (w68 _ _) ?_|exact trivial|refine aO ?_|refine eO ?_|apply jO|refine K0 ?_|intro h)
   all_goals try rfl
   all_goals (exfalso;apply hv;simp_all only[okV1,decide_eq_true_eq,decide_eq_false_iff_not,true_and,and_true,or_true,true_or,not_true_eq_false,not_false_eq_true];done)
theorem w59 (g:Gram) (t:List Nod) (hg:smGr g) (hl:t.length≤1048576) (hk:∀x∈t,x.kids.length≤1048576):∀(f i:Nat) (p q:Int) (s:ByteArray),t.length≤i+f→Pu 59 [Gr g,Tr t,I i,I p,I q,T s] (· = I (Zw g t f i p q s)):=by
 intro f
 induction f with
 | zero=>
  intro i p q s hf
  refine ZN mxd i59 rfl (by simp) ?_;refine X0 ?_
  (refine R0 ?_;with_reducible repeat' first|exact trivial|intro h|refine aO ?_|refine eO ?_|apply jO)
  all_goals first|rfl|(exfalso;omega)
 | succ f ih=>
  intro i p q s hf
  refine ZN mxd i59 rfl (by simp) ?_;refine X0 ?_
  by_cases hi:i<t.length
  rotate_left
  ·rw[walkE_out (by omega)]
   (refine R0 ?_;with_reducible repeat' first|exact trivial|intro h|refine aO ?_|refine eO ?_|apply jO)
   all_goals first|rfl|(exfalso;omega)
  have hw:Zw g t (f+1) i p q s=if fitV g t[i] p q s then Za (Zw g t f) i t[i].kids (ZH g.rules t[i].rule).right 0 (i+1) else -1:=by simp only[Zw,if_pos hi,YS hi]
  have hkk:=hk _ (gM hi)
  have hr:=smRu_f hg t[i].rule
  have hrr:=hr.1
  rw[hw]
  by_cases hv:fitV g t[i] p q s=true
  ·rw[if_pos hv]
   obtain ⟨h1,h2,h3,h4,h5,h6,h7⟩:=fitV_iff.1 hv
   subst h2 h3 h4
   clear hw hv
   have hR:∃R,ZH g.rules t[i].rule = R:=⟨_,rfl⟩
   obtain ⟨R,hR⟩:=hR
   rw[hR] at hr hrr h5 h7 ⊢
   have main:∀(Q:Exit→Env→GH→Prop),True:=fun _ => trivial
   rcases h7 with h7|h7
   ·(with_reducible repeat' first|refine callS.eq (w36 _ _ hg) ?_|refine callS.eq (w17 _ _ _) ?_|exact trivial|refine aO ?_|refine eO ?_|apply jO|refine K1 (jO h1 (jO h5 (jO (eq_true h6) (jO h7 hR)))) ?_|intro h)
    all_goals try exact oF
    have hVV:∃V,Za (Zw g t f) i t[i].kids R.right 0 (i+1)=V:=⟨_,rfl⟩
    obtain ⟨V,hVV⟩:=hVV
    rw[hVV]
    refine Y5 mxd (ι:={ x:Nat×Int // x.1≤R.right.length∧(i:Int)<x.2∧x.2≤t.length∧Za (Zw g t f) i (t[i].kids.drop x.1) (R.right.drop x.1) x.1 x.2=V }) (fun x=>[(2,I i),(6,.rop 2 (Gr g)),(7,.rop 1 (Tr t)),(14,.rop 6 (Ru R)),(16,I x.1.2),(84,IS t[i].kids),(85,I R.right.length),(86,I x.1.1)]) (fun _ => []) (fun x=>R.right.length-x.1.1) ⟨(0,i+1),by simp,by simp;omega,by simp;omega,by simpa using hVV⟩ (by simp[E2,h7]) rfl ?_
    rintro ⟨⟨k,a⟩,hk1,ha1,ha2,hV⟩
    dsimp only at hk1 ha1 ha2 hV ⊢
    rcases nL k R.right.length with hlt|hge
    ·rw[kidsW_step (by omega) hlt] at hV
     by_cases hc:t[i].kids[k]=a
     ·rw[if_neg (by simpa using hc)] at hV
      obtain ⟨m,rfl⟩:∃m:Nat,a=m:=⟨a.toNat,by omega⟩
      have hm:=walkE_ge (g:=g) (t:=t) f m i ((k:Int)+1) R.right[k]
      simp only[Int.toNat_natCast] at hV
      (with_reducible repeat' first|refine callS.eq (ih m _ _ _ (by omega)) ?_|exact trivial|refine aO ?_|refine eO ?_|apply jO|refine K1 (jO h5 hc) ?_|intro h)
      all_goals try exact oF
      ·rw[if_pos (by assumption)] at hV;rw[←hV]
      ·rw[if_neg (by assumption)] at hV
       exact nx ⟨(k+1,Zw g t f m i ((k:Int)+1) R.right[k]),by omega,by dsimp only;omega,by dsimp only;omega,hV⟩ (by simp;omega) (by simp[E2]) rfl
     ·rw[if_pos (by simpa using hc)] at hV
      (with_reducible repeat' first|refine callS.eq (ih _ _ _ _ (by omega)) ?_|exact trivial|refine aO ?_|refine eO ?_|apply jO|refine K1 (jO h5 hc) ?_|intro h)
      all_goals first|(rw[←hV];done)|(exfalso;omega)
    ·rw[kidsW_end (by omega)] at hV
     (refine R0 ?_;with_reducible repeat' first|exact trivial|intro h|refine aO ?_|refine eO ?_|apply jO)
     all_goals first|(rw[←hV];done)|(exfalso;omega)
   ·(with_reducible repeat' first|refine callS.eq (w36 _ _ hg) ?_|refine callS.eq (w17 _ _ _) ?_|exact trivial|refine aO ?_|refine eO ?_|apply jO|refine K1 (jO h1 (jO h5 (jO (eq_true h6) (jO h7.1 (jO (eq_true h7.2) hR))))) ?_|intro h)
    all_goals try exact oF
    have hVV:∃V,Za (Zw g t f) i t[i].kids R.right 0 (i+1)=V:=⟨_,rfl⟩
    obtain ⟨V,hVV⟩:=hVV
    rw[hVV]
    refine Y5 mxd (ι:={ x:Nat×Int // x.1≤R.right.length∧(i:Int)<x.2∧x.2≤t.length∧Za (Zw g t f) i (t[i].kids.drop x.1) (R.right.drop x.1) x.1 x.2=V }) (fun x=>[(2,I i),(6,.rop 2 (Gr g)),(7,.rop 1 (Tr t)),(14,.rop 6 (Ru R)),(16,I x.1.2),(84,IS t[i].kids),(85,I R.right.length),(86,I x.1.1)]) (fun _ => []) (fun x=>R.right.length-x.1.1) ⟨(0,i+1),by simp,by simp;omega,by simp;omega,by simpa using hVV⟩ (by simp[E2,h7]) rfl ?_
    rintro ⟨⟨k,a⟩,hk1,ha1,ha2,hV⟩
    dsimp only at hk1 ha1 ha2 hV ⊢
    rcases nL k R.right.length with hlt|hge
    ·rw[kidsW_step (by omega) hlt] at hV
     by_cases hc:t[i].kids[k]=a
     ·rw[if_neg (by simpa using hc)] at hV
      obtain ⟨m,rfl⟩:∃m:Nat,a=m:=⟨a.toNat,by omega⟩
      have hm:=walkE_ge (g:=g) (t:=t) f m i ((k:Int)+1) R.right[k]
      simp only[Int.toNat_natCast] at hV
      (with_reducible repeat' first|refine callS.eq (ih m _ _ _ (by omega)) ?_|exact trivial|refine aO ?_|refine eO ?_|apply jO|refine K1 (jO h5 hc) ?_|intro h)
      all_goals try exact oF
      ·rw[if_pos (by assumption)] at hV;rw[←hV]
      ·rw[if_neg (by assumption)] at hV
       exact nx ⟨(k+1,Zw g t f m i ((k:Int)+1) R.right[k]),by omega,by dsimp only;omega,by dsimp only;omega,hV⟩ (by simp;omega) (by simp[E2]) rfl
     ·rw[if_pos (by simpa using hc)] at hV
      (with_reducible repeat' first|refine callS.eq (ih _ _ _ _ (by omega)) ?_|exact trivial|refine aO ?_|refine eO ?_|apply jO|refine K1 (jO h5 hc) ?_|intro h)
      all_goals first|(rw[←hV];done)|(exfalso;omega)
    ·rw[kidsW_end (by omega)] at hV
     (refine R0 ?_;with_reducible repeat' first|exact trivial|intro h|refine aO ?_|refine eO ?_|apply jO)
     all_goals first|(rw[←hV];done)|(exfalso;omega)
  ·rw[if_neg hv]
   rw[fitV_iff] at hv
   (with_reducible repeat' first|refine callS.eq (w36 _ _ hg) ?_|refine callS.eq (w17 _ _ _) ?_|exact trivial|refine aO ?_|refine eO ?_|apply jO|refine K0 ?_|intro h)
   all_goals try rfl
   all_goals (exfalso;apply hv;simp_all only[okV1,decide_eq_true_eq,decide_eq_false_iff_not,true_and,and_true,or_true,true_or,not_true_eq_false,not_false_eq_true];done)
end Go.Proofs.YtmdfoigdflaliaaGreatDoor
