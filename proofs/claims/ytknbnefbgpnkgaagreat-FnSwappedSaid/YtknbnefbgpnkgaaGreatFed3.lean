/- The laws FnEdits, FnEdited and FnSwapped return true whatever the input, and the input reads behind the call as before. No condition. -/
import Derived.Test.YtknbnefbgpnkgaaGreatFed2
set_option maxHeartbeats 40000000
set_option maxRecDepth 20000
set_option linter.unusedSimpArgs false
set_option linter.unusedVariables false
namespace Go.Proofs.YtknbnefbgpnkgaaGreat
open Go.Gh
open Nat (reduceEqDiff reduceLeDiff reduceAdd reduceLT)
open Int (reduceNe)
end Go.Proofs.YtknbnefbgpnkgaaGreat
namespace Go.Proofs.YtknbnefbgpnkgaaGreat
open Go.Gh
open Nat (reduceEqDiff reduceLeDiff reduceAdd reduceLT)
open Int (reduceNe)
end Go.Proofs.YtknbnefbgpnkgaaGreat
namespace Go.Proofs.YtknbnefbgpnkgaaGreat
open Go.Gh
open Nat (reduceEqDiff reduceLeDiff reduceAdd reduceLT)
open Int (reduceNe)
end Go.Proofs.YtknbnefbgpnkgaaGreat
namespace Go.Proofs.YtknbnefbgpnkgaaGreat
open Go.Gh
open Nat (reduceEqDiff reduceLeDiff reduceAdd reduceLT)
open Int (reduceNe)
theorem w157 (r:Rul) (o:Int×ByteArray) (hr:Y8 r):Pu 157 [Ru r,Occ o] (· = .tup [Ex (eqnE r o),B (eqnF r o).isSome]):=by
 refine Pure.bor ?_
 have hlen:=hr.2.1
 refine ZZ mxd i157 rfl (by simp) ?_;refine X0 ?_
 refine ZK mxd (ι:={ i:Nat // i≤r.eqs.length∧∀y∈r.eqs.take i,decide (y.pos=o.1∧y.name=o.2)=false }) (fun i=>[(2,.rop 6 (Ru r)),(3,.rop 2 (Occ o)),(4,.raw 7),(6,I i.1)]) (fun _ => []) (fun i=>r.eqs.length-i.1) ⟨0,by simp⟩ (by simp[E2]) rfl ?_
 rintro ⟨i,hi,hn⟩
 rcases nL i r.eqs.length with hlt|hge
 ·by_cases he:r.eqs[i].pos = o.1∧r.eqs[i].name = o.2
  ·(refine V1 (jO @XE (jO he (jO @and_self @decide_true))) ?_;with_reducible repeat' first|intro h|apply jO)
   all_goals try exact oF
   refine callS.eq (w177 r.eqs[i].expr (hr.2.2.2.1 _ (gM _))) ?_
   (refine V1 @XE ?_)
   have e:=X7 (p:=fun x:Eqn=>decide (x.pos=o.1∧x.name=o.2)) (xs:=r.eqs) (i:=i) hlt (by simp[he]) hn
   simp only[eqnE,eqnF,e]
   exact .refl
  ·(refine V1 @XE ?_;with_reducible repeat' first|intro h|apply jO)
   all_goals first
    | exact nx ⟨i+1,oT,Zi hlt (by simp[he]) hn⟩ (by simp;omega) (by simp[E2]) rfl
    | (exfalso;omega)
    | (exfalso;exact he ⟨by assumption,by assumption⟩)
 ·have:i=r.eqs.length:=by omega
  subst this
  rw[tL (Nat.le_refl _)] at hn
  have e:=X8 hn
  (refine V1 @XE ?_;with_reducible repeat' intro h)
  all_goals try exact oF
  simp only[eqnE,eqnF,e]
  exact .tup (.cons (.agg (.cons .refl (.cons .refl (.cons .refl (.cons .refl (.cons .refl (.cons .refl (.cons .nil .nil)))))))) (.cons .refl .nil))
theorem w75 (g:Gram) (t:List Nod) (hg:ZA g) (hl:t.length≤1048576) (hk:∀x∈t,x.kids.length≤1048576):∀(f i:Nat) (p q:Int) (s:ByteArray),t.length≤i+f→Pu 75 [Gr g,Tr t,I i,I p,I q,T s] (· = I (Zt g t f i p q s)):=by
 intro f
 induction f with
 | zero=>
  intro i p q s hf
  refine ZZ mxd i75 rfl (by simp) ?_;refine X0 ?_
  (refine R0 ?_;with_reducible repeat' first|intro h|apply jO)
  all_goals first|rfl|(exfalso;omega)
 | succ f ih=>
  intro i p q s hf
  refine ZZ mxd i75 rfl (by simp) ?_;refine X0 ?_
  by_cases hi:i<t.length
  rotate_left
  ·rw[walkE_out oT]
   (refine R0 ?_;with_reducible repeat' intro h)
   all_goals first|rfl|(exfalso;omega)
  have hw:Zt g t (f+1) i p q s=if fitV g t[i] p q s then Zf (Zt g t f) i t[i].kids (Zl g.rules t[i].rule).right 0 (i+1) else -1:=by simp only[Zt,if_pos hi,Z3 hi]
  have hkk:=hk _ (gM hi)
  have hr:=smRu_f hg t[i].rule
  have hrr:=hr.1
  rw[hw]
  by_cases hv:fitV g t[i] p q s=true
  ·rw[if_pos hv]
   obtain ⟨h1,h2,h3,h4,h5,h6,h7⟩:=fitV_iff.1 hv
   subst h2 h3 h4
   clear hw hv
   have hR:∃R,Zl g.rules t[i].rule = R:=⟨_,rfl⟩
   obtain ⟨R,hR⟩:=hR
   rw[hR] at hr hrr h5 h7 ⊢
   have main:∀(Q:Exit→Env→GH→Prop),True:=fun _ => trivial
   rcases h7 with h7|h7
   ·(with_reducible repeat' first|refine callS.eq (w76 _ _ hg) ?_|refine callS.eq (w33 _ _) ?_|exact trivial|refine aO ?_|refine eO ?_|apply jO|refine K1 (jO h1 (jO h5 (jO okV1 (jO (eq_true h6) (jO h7 hR))))) ?_|intro h)
    all_goals try exact oF
    have hVV:∃V,Zf (Zt g t f) i t[i].kids R.right 0 (i+1)=V:=⟨_,rfl⟩
    obtain ⟨V,hVV⟩:=hVV
    rw[hVV]
    refine ZK mxd (ι:={ x:Nat×Int // x.1≤R.right.length∧(i:Int)<x.2∧x.2≤t.length∧Zf (Zt g t f) i (t[i].kids.drop x.1) (R.right.drop x.1) x.1 x.2=V }) (fun x=>[(2,I i),(6,.rop 2 (Gr g)),(7,.rop 1 (Tr t)),(13,.rop 6 (Nd t[i])),(14,.rop 6 (Ru R)),(16,I x.1.2),(17,I x.1.1)]) (fun _ => []) (fun x=>R.right.length-x.1.1) ⟨(0,i+1),by simp,by simp;omega,by simp;omega,by simpa using hVV⟩ (by simp[E2,h7]) rfl ?_
    rintro ⟨⟨k,a⟩,hk1,ha1,ha2,hV⟩
    dsimp only at hk1 ha1 ha2 hV ⊢
    rcases nL k R.right.length with hlt|hge
    ·rw[kidsW_step oT hlt] at hV
     by_cases hc:t[i].kids[k]=a
     ·rw[if_neg (by simpa using hc)] at hV
      obtain ⟨m,rfl⟩:∃m:Nat,a=m:=⟨a.toNat,oT⟩
      have hm:=walkE_ge (g:=g) (t:=t) f m i ((k:Int)+1) R.right[k]
      simp only[Int.toNat_natCast] at hV
      (with_reducible repeat' first|refine callS.eq (ih m _ _ _ oT) ?_|exact trivial|refine aO ?_|refine eO ?_|apply jO|refine K1 (jO h5 hc) ?_|intro h)
      all_goals try exact oF
      ·rw[if_pos (by assumption)] at hV;rw[←hV]
      ·rw[if_neg (by assumption)] at hV
       exact nx ⟨(k+1,Zt g t f m i ((k:Int)+1) R.right[k]),oT,by dsimp only;omega,by dsimp only;omega,hV⟩ (by simp;omega) (by simp[E2]) rfl
     ·rw[if_pos (by simpa using hc)] at hV
      (with_reducible repeat' first|refine callS.eq (ih _ _ _ _ oT) ?_|exact trivial|refine aO ?_|refine eO ?_|apply jO|refine K1 (jO h5 hc) ?_|intro h)
      all_goals first|(rw[←hV];done)|(exfalso;omega)
    ·rw[kidsW_end oT] at hV
     (refine R0 ?_;with_reducible repeat' intro h)
     all_goals first|(rw[←hV];done)|(exfalso;omega)
   ·(with_reducible repeat' first|refine callS.eq (w76 _ _ hg) ?_|refine callS.eq (w33 _ _) ?_|exact trivial|refine aO ?_|refine eO ?_|apply jO|refine K1 (jO h1 (jO h5 (jO okV1 (jO (eq_true h6) (jO h7.1 (jO (eq_true h7.2) hR)))))) ?_|intro h)
    all_goals try exact oF
    have hVV:∃V,Zf (Zt g t f) i t[i].kids R.right 0 (i+1)=V:=⟨_,rfl⟩
    obtain ⟨V,hVV⟩:=hVV
    rw[hVV]
    refine ZK mxd (ι:={ x:Nat×Int // x.1≤R.right.length∧(i:Int)<x.2∧x.2≤t.length∧Zf (Zt g t f) i (t[i].kids.drop x.1) (R.right.drop x.1) x.1 x.2=V }) (fun x=>[(2,I i),(6,.rop 2 (Gr g)),(7,.rop 1 (Tr t)),(13,.rop 6 (Nd t[i])),(14,.rop 6 (Ru R)),(16,I x.1.2),(17,I x.1.1)]) (fun _ => []) (fun x=>R.right.length-x.1.1) ⟨(0,i+1),by simp,by simp;omega,by simp;omega,by simpa using hVV⟩ (by simp[E2,h7]) rfl ?_
    rintro ⟨⟨k,a⟩,hk1,ha1,ha2,hV⟩
    dsimp only at hk1 ha1 ha2 hV ⊢
    rcases nL k R.right.length with hlt|hge
    ·rw[kidsW_step oT hlt] at hV
     by_cases hc:t[i].kids[k]=a
     ·rw[if_neg (by simpa using hc)] at hV
      obtain ⟨m,rfl⟩:∃m:Nat,a=m:=⟨a.toNat,oT⟩
      have hm:=walkE_ge (g:=g) (t:=t) f m i ((k:Int)+1) R.right[k]
      simp only[Int.toNat_natCast] at hV
      (with_reducible repeat' first|refine callS.eq (ih m _ _ _ oT) ?_|exact trivial|refine aO ?_|refine eO ?_|apply jO|refine K1 (jO h5 hc) ?_|intro h)
      all_goals try exact oF
      ·rw[if_pos (by assumption)] at hV;rw[←hV]
      ·rw[if_neg (by assumption)] at hV
       exact nx ⟨(k+1,Zt g t f m i ((k:Int)+1) R.right[k]),oT,by dsimp only;omega,by dsimp only;omega,hV⟩ (by simp;omega) (by simp[E2]) rfl
     ·rw[if_pos (by simpa using hc)] at hV
      (with_reducible repeat' first|refine callS.eq (ih _ _ _ _ oT) ?_|exact trivial|refine aO ?_|refine eO ?_|apply jO|refine K1 (jO h5 hc) ?_|intro h)
      all_goals first|(rw[←hV];done)|(exfalso;omega)
    ·rw[kidsW_end oT] at hV
     (refine R0 ?_;with_reducible repeat' intro h)
     all_goals first|(rw[←hV];done)|(exfalso;omega)
  ·rw[if_neg hv]
   rw[fitV_iff] at hv
   (with_reducible repeat' first|refine callS.eq (w76 _ _ hg) ?_|refine callS.eq (w33 _ _) ?_|exact trivial|refine aO ?_|refine eO ?_|apply jO|refine K0 ?_|intro h)
   all_goals try rfl
   all_goals (exfalso;apply hv;simp_all only[okV1,decide_eq_true_eq,decide_eq_false_iff_not,true_and,and_true,or_true,true_or,not_true_eq_false,not_false_eq_true];done)
theorem w148 (g:Gram) (t:List Nod) (hg:ZA g) (hl:t.length≤1048576) (hk:∀x∈t,x.kids.length≤1048576):∀(f i:Nat) (p q:Int) (s:ByteArray),t.length≤i+f→Pu 148 [Gr g,Tr t,I i,I p,I q,T s] (· = I (Zt g t f i p q s)):=by
 intro f
 induction f with
 | zero=>
  intro i p q s hf
  refine ZZ mxd i148 rfl (by simp) ?_;refine X0 ?_
  (refine R0 ?_;with_reducible repeat' first|intro h|apply jO)
  all_goals first|rfl|(exfalso;omega)
 | succ f ih=>
  intro i p q s hf
  refine ZZ mxd i148 rfl (by simp) ?_;refine X0 ?_
  by_cases hi:i<t.length
  rotate_left
  ·rw[walkE_out oT]
   (refine R0 ?_;with_reducible repeat' intro h)
   all_goals first|rfl|(exfalso;omega)
  have hw:Zt g t (f+1) i p q s=if fitV g t[i] p q s then Zf (Zt g t f) i t[i].kids (Zl g.rules t[i].rule).right 0 (i+1) else -1:=by simp only[Zt,if_pos hi,Z3 hi]
  have hkk:=hk _ (gM hi)
  have hr:=smRu_f hg t[i].rule
  have hrr:=hr.1
  rw[hw]
  by_cases hv:fitV g t[i] p q s=true
  ·rw[if_pos hv]
   obtain ⟨h1,h2,h3,h4,h5,h6,h7⟩:=fitV_iff.1 hv
   subst h2 h3 h4
   clear hw hv
   have hR:∃R,Zl g.rules t[i].rule = R:=⟨_,rfl⟩
   obtain ⟨R,hR⟩:=hR
   rw[hR] at hr hrr h5 h7 ⊢
   have main:∀(Q:Exit→Env→GH→Prop),True:=fun _ => trivial
   rcases h7 with h7|h7
   ·(with_reducible repeat' first|refine callS.eq (w62 _ _ hg) ?_|refine callS.eq (w57 _ _ _) ?_|exact trivial|refine aO ?_|refine eO ?_|apply jO|refine K1 (jO h1 (jO h5 (jO (eq_true h6) (jO h7 hR)))) ?_|intro h)
    all_goals try exact oF
    have hVV:∃V,Zf (Zt g t f) i t[i].kids R.right 0 (i+1)=V:=⟨_,rfl⟩
    obtain ⟨V,hVV⟩:=hVV
    rw[hVV]
    refine ZK mxd (ι:={ x:Nat×Int // x.1≤R.right.length∧(i:Int)<x.2∧x.2≤t.length∧Zf (Zt g t f) i (t[i].kids.drop x.1) (R.right.drop x.1) x.1 x.2=V }) (fun x=>[(2,I i),(6,.rop 2 (Gr g)),(7,.rop 1 (Tr t)),(14,.rop 6 (Ru R)),(16,I x.1.2),(84,IS t[i].kids),(85,I R.right.length),(86,I x.1.1)]) (fun _ => []) (fun x=>R.right.length-x.1.1) ⟨(0,i+1),by simp,by simp;omega,by simp;omega,by simpa using hVV⟩ (by simp[E2,h7]) rfl ?_
    rintro ⟨⟨k,a⟩,hk1,ha1,ha2,hV⟩
    dsimp only at hk1 ha1 ha2 hV ⊢
    rcases nL k R.right.length with hlt|hge
    ·rw[kidsW_step oT hlt] at hV
     by_cases hc:t[i].kids[k]=a
     ·rw[if_neg (by simpa using hc)] at hV
      obtain ⟨m,rfl⟩:∃m:Nat,a=m:=⟨a.toNat,oT⟩
      have hm:=walkE_ge (g:=g) (t:=t) f m i ((k:Int)+1) R.right[k]
      simp only[Int.toNat_natCast] at hV
      (with_reducible repeat' first|refine callS.eq (ih m _ _ _ oT) ?_|exact trivial|refine aO ?_|refine eO ?_|apply jO|refine K1 (jO h5 hc) ?_|intro h)
      all_goals try exact oF
      ·rw[if_pos (by assumption)] at hV;rw[←hV]
      ·rw[if_neg (by assumption)] at hV
       exact nx ⟨(k+1,Zt g t f m i ((k:Int)+1) R.right[k]),oT,by dsimp only;omega,by dsimp only;omega,hV⟩ (by simp;omega) (by simp[E2]) rfl
     ·rw[if_pos (by simpa using hc)] at hV
      (with_reducible repeat' first|refine callS.eq (ih _ _ _ _ oT) ?_|exact trivial|refine aO ?_|refine eO ?_|apply jO|refine K1 (jO h5 hc) ?_|intro h)
      all_goals first|(rw[←hV];done)|(exfalso;omega)
    ·rw[kidsW_end oT] at hV
     (refine R0 ?_;with_reducible repeat' intro h)
     all_goals first|(rw[←hV];done)|(exfalso;omega)
   ·(with_reducible repeat' first|refine callS.eq (w62 _ _ hg) ?_|refine callS.eq (w57 _ _ _) ?_|exact trivial|refine aO ?_|refine eO ?_|apply jO|refine K1 (jO h1 (jO h5 (jO (eq_true h6) (jO h7.1 (jO (eq_true h7.2) hR))))) ?_|intro h)
    all_goals try exact oF
    have hVV:∃V,Zf (Zt g t f) i t[i].kids R.right 0 (i+1)=V:=⟨_,rfl⟩
    obtain ⟨V,hVV⟩:=hVV
    rw[hVV]
    refine ZK mxd (ι:={ x:Nat×Int // x.1≤R.right.length∧(i:Int)<x.2∧x.2≤t.length∧Zf (Zt g t f) i (t[i].kids.drop x.1) (R.right.drop x.1) x.1 x.2=V }) (fun x=>[(2,I i),(6,.rop 2 (Gr g)),(7,.rop 1 (Tr t)),(14,.rop 6 (Ru R)),(16,I x.1.2),(84,IS t[i].kids),(85,I R.right.length),(86,I x.1.1)]) (fun _ => []) (fun x=>R.right.length-x.1.1) ⟨(0,i+1),by simp,by simp;omega,by simp;omega,by simpa using hVV⟩ (by simp[E2,h7]) rfl ?_
    rintro ⟨⟨k,a⟩,hk1,ha1,ha2,hV⟩
    dsimp only at hk1 ha1 ha2 hV ⊢
    rcases nL k R.right.length with hlt|hge
    ·rw[kidsW_step oT hlt] at hV
     by_cases hc:t[i].kids[k]=a
     ·rw[if_neg (by simpa using hc)] at hV
      obtain ⟨m,rfl⟩:∃m:Nat,a=m:=⟨a.toNat,oT⟩
      have hm:=walkE_ge (g:=g) (t:=t) f m i ((k:Int)+1) R.right[k]
      simp only[Int.toNat_natCast] at hV
      (with_reducible repeat' first|refine callS.eq (ih m _ _ _ oT) ?_|exact trivial|refine aO ?_|refine eO ?_|apply jO|refine K1 (jO h5 hc) ?_|intro h)
      all_goals try exact oF
      ·rw[if_pos (by assumption)] at hV;rw[←hV]
      ·rw[if_neg (by assumption)] at hV
       exact nx ⟨(k+1,Zt g t f m i ((k:Int)+1) R.right[k]),oT,by dsimp only;omega,by dsimp only;omega,hV⟩ (by simp;omega) (by simp[E2]) rfl
     ·rw[if_pos (by simpa using hc)] at hV
      (with_reducible repeat' first|refine callS.eq (ih _ _ _ _ oT) ?_|exact trivial|refine aO ?_|refine eO ?_|apply jO|refine K1 (jO h5 hc) ?_|intro h)
      all_goals first|(rw[←hV];done)|(exfalso;omega)
    ·rw[kidsW_end oT] at hV
     (refine R0 ?_;with_reducible repeat' intro h)
     all_goals first|(rw[←hV];done)|(exfalso;omega)
  ·rw[if_neg hv]
   rw[fitV_iff] at hv
   (with_reducible repeat' first|refine callS.eq (w62 _ _ hg) ?_|refine callS.eq (w57 _ _ _) ?_|exact trivial|refine aO ?_|refine eO ?_|apply jO|refine K0 ?_|intro h)
   all_goals try rfl
   all_goals (exfalso;apply hv;simp_all only[okV1,decide_eq_true_eq,decide_eq_false_iff_not,true_and,and_true,or_true,true_or,not_true_eq_false,not_false_eq_true];done)
theorem w126 (l:List Int) (x:Int):Pu 126 [IS l,I x] (· = B (hasI l x)):=by
 refine GCalls.lenA fun hl=> ?_
 have hlen:=hl.1.1
 simp only[List.length_map,Zh] at hlen
 refine ZZ mxd i126 rfl (by simp) ?_;refine X0 ?_
 refine ZK mxd (ι:={ i:Nat // i≤l.length∧∀y∈l.take i,decide (y=x)=false }) (fun i=>[(0,IS l),(1,I x),(5,I i.1)]) (fun _ => []) (fun i=>l.length-i.1) ⟨0,by simp⟩ (by simp[E2]) rfl ?_
 rintro ⟨i,hi,hn⟩
 (refine R0 ?_;with_reducible repeat' first|intro h|apply jO)
 ·rw[hasI_hit (by assumption) h]
 ·exact nx ⟨i+1,oT,Zi (by assumption) (by simpa using h) hn⟩ (by simp;omega) (by simp[E2]) rfl
 ·have:i=l.length:=by omega
  subst this
  rw[tL (Nat.le_refl _)] at hn
  rw[hasI_none hn]
theorem w74 (t:List Nod) (hl:t.length≤1048576):Pu 74 [Tr t] (· = B (idsV t&&decide (1≤t.length∧t.length≤16))):=by
 refine Pure.bor ?_
 refine ZZ mxd i74 rfl (by simp) ?_;refine X0 ?_
 (refine R0 ?_;with_reducible repeat' intro h)
 rename_i r
 refine YS mxd (ι:={ x:Nat×Nat // x.2≤t.length∧∀j,j<x.2→gid t j=true }) (fun x=>[(1,.rop 1 (Tr t)),(3,.own x.1.1 1 0 x.1.2),(4,I x.1.2)]) (fun x=>[(x.1.1,1,((t.take x.1.2).map (·.id)).map I)]) (fun x=>t.length-x.1.2) ⟨(r,0),by simp⟩ (by simp[E2]) (by simp[subH,ZU,names]) ?_
 rintro ⟨⟨r,i⟩,hi,hn⟩ -
 dsimp only at hi hn ⊢
 rcases nL i t.length with hlt|hge
 ·(with_reducible repeat' first|refine callS.eq (w64 _ _ _) ?_|exact trivial|refine aO ?_|refine eO ?_|apply jO|refine K0 ?_|intro h)
  all_goals try exact oF
  ·refine callS.borA (w126 ((t.take i).map (·.id)) t[i].id) (.cons (bor_IS ZX (by simp;omega)) (.cons .refl .nil)) rfl ?_
   (refine R0 ?_;with_reducible repeat' first|intro h|apply jO)
   ·rw[hasI_map] at h
    rw[idsV_bad hlt (gid_f2 hlt h)]
    exact .refl
   ·rename_i q2
    have h2:=Z6 h
    (replace h2:=h2;simp only[VN] at h2)
    (refine R1 (jO @Z9 (jO @Z7 (jO @Z8 (jO h2 @t_ldf)))) ?_;with_reducible repeat' first|intro h|refine aO ?_|apply jO)
    ·simp;omega
    rename_i hh _ _ _ q3
    have h3:=Z6 h
    (replace h3:=h3;simp only[VN] at h3)
    rw[X4 I (·.id) t i hlt]
    refine px ⟨(q3,i+1),oT,fun j hj=> ?_⟩ (by simp;omega) (by simp[E2]) (by simp[subH,ZU,names,h3])
    rcases nL j i with hji|hji
    ·exact hn j hji
    ·have:j=i:=by omega
     subst this
     exact gid_t hlt (by assumption) (by rw[←hasI_map];assumption)
  ·rw[idsV_bad hlt (gid_f1 hlt (by assumption))]
   exact .refl
 ·have:i=t.length:=by omega
  subst this
  (with_reducible repeat' first|refine callS.eq (w64 _ _ _) ?_|exact trivial|refine aO ?_|refine eO ?_|apply jO|refine K0 ?_|intro h)
  have e:B (decide (1≤(t.length:Int)∧(t.length:Int)≤16))=B (idsV t&&decide (1≤t.length∧t.length≤16)):=by rw[idsV_ok hn,Bool.true_and];exact bEq oT
  rw[←e]
  exact .refl
theorem w147 (x y:Nod):Pu 147 [Nd x,.rop 6 (Nd y)] (· = B (decide (x.id=y.id))):=by
 refine ZZ mxd i147 rfl (by simp) ?_;refine X0 ?_
 try (refine R0 ?_;with_reducible repeat' exact trivial)
theorem w146 (t:List Nod) (f:Nat) (cs:List GV) (p:Nod→Bool) (hp:∀x∈t,Pu f (Nd x::cs) (· = B (p x))) :
 Pu 146 [NdS t,.clo f cs] (· = B (t.any p)):=by
 refine ZZ mxd i146 rfl (by simp) ?_;refine X0 ?_
 refine callS.eq (w113 t f cs p hp) ?_
 (refine R0 ?_)
 rw[←any_ix]
theorem w96 (g:Gram) (t:List Nod) (s:ByteArray) (hg:ZA g) (hl:t.length≤1048576) (hk:∀x∈t,x.kids.length≤1048576):Pu 96 [Gr g,Tr t,T s] (· = B (Za g t s)):=by
 refine ZZ mxd i96 rfl (by simp) ?_;refine X0 ?_
 refine callS.eq (w57 _ _ _) ?_
 (refine R0 ?_;with_reducible repeat' first|intro h|apply jO)
 rotate_left
 ·simp only[Za];rw[decide_eq_false oT];rfl
 refine ZK mxd (ι:={ i:Nat // i≤t.length∧∀j,j<i→gid t j=true }) (fun i=>[(2,T s),(3,.rop 2 (Gr g)),(4,.rop 1 (Tr t)),(15,NdS t),(16,I t.length),(17,I i.1)]) (fun _ => []) (fun i=>t.length-i.1) ⟨0,by simp⟩ (by simp[E2]) rfl ?_
 rintro ⟨i,hi,hn⟩
 rcases nL i t.length with hlt|hge
 ·(with_reducible repeat' first|refine callS.eq (w57 _ _ _) ?_|exact trivial|refine aO ?_|refine eO ?_|apply jO|refine K0 ?_|intro h)
  all_goals try exact oF
  ·rw[show List.drop (Int.toNat 0) (List.take i (List.map Nd t))=(t.take i).map Nd from by simp[List.map_take]]
   refine callS.eq (w146 (t.take i) _ _ (fun y=>decide (y.id=t[i].id)) fun x _ => w147 x t[i]) ?_
   (refine R0 ?_;with_reducible repeat' first|intro h|apply jO)
   ·rw[treeOf_bad (idsV_bad hlt (gid_f2 hlt h))]
   ·refine nx ⟨i+1,oT,fun j hj=> ?_⟩ (by simp;omega) (by simp[E2]) rfl
    rcases nL j i with hji|hji
    ·exact hn j hji
    ·have:j=i:=by omega
     subst this
     exact gid_t hlt (by assumption) h
  ·rw[treeOf_bad (idsV_bad hlt (gid_f1 hlt (by assumption)))]
 ·have:i=t.length:=by omega
  subst this
  have hw:=w148 g t hg hl hk t.length 0 (-1) 0 s oT
  simp only[Int.natCast_zero] at hw
  (with_reducible repeat' first|refine callS.eq (hw) ?_|exact trivial|refine aO ?_|refine eO ?_|apply jO|refine K0 ?_|intro h)
  simp only[Za,idsV_ok hn,Bool.true_and]
  rw[decide_eq_true (show 1≤t.length∧t.length≤16 by omega),Bool.true_and]
theorem w29 (g:Gram) (t:List Nod) (s:ByteArray) (hg:ZA g) (hl:t.length≤1048576) (hk:∀x∈t,x.kids.length≤1048576):Pu 29 [Gr g,Tr t,T s] (· = B (Za g t s)):=by
 have hw:=w75 g t hg hl hk t.length 0 (-1) 0 s oT
 simp only[Int.natCast_zero] at hw
 refine ZZ mxd i29 rfl (by simp) ?_;refine X0 ?_
 (with_reducible repeat' first|refine callS.eq (w74 t hl) ?_|refine callS.eq (hw) ?_|exact trivial|refine aO ?_|refine eO ?_|apply jO|refine K0 ?_|intro h)
 all_goals first|(simp_all [Za];done)|(simp_all [Za];intros;omega)
theorem w70 (g:Gram) (hg:ZA g):Pu 70 [Gr g] (· = T (Yv g)):=by
 have hl:=hg.1
 refine ZZ mxd i70 rfl (by simp) ?_;refine X0 ?_
 (refine R0 ?_;with_reducible repeat' first|intro h|refine aO ?_|apply jO)
 ·simp only[Yv];rw[if_neg oT];rfl
 ·simp only[Yv,Int.reduceToNat];rw[if_pos oT,Z3 oT]
theorem w19 (g:Gram) (t:List Nod) (hg:ZA g) (hl:t.length≤1048576) (hk:∀x∈t,x.kids.length≤1048576):Pu 19 [Gr g,Tr t] (· = B (Za g t (Yv g))):=by
 refine ZZ mxd i19 rfl (by simp) ?_;refine X0 ?_
 (with_reducible repeat' first|refine callS.eq (w70 g hg) ?_|refine callS.eq (w29 g t _ hg hl hk) ?_|exact trivial|refine aO ?_|refine eO ?_|apply jO|refine K0 ?_|intro h)
theorem w56 (g:Gram) (t:List Nod) (hg:ZA g) (hl:t.length≤1048576) (hk:∀x∈t,x.kids.length≤1048576):Pu 56 [Gr g,Tr t] (· = B (Za g t (Yv g))):=by
 have hgl:=hg.1
 refine ZZ mxd i56 rfl (by simp) ?_;refine X0 ?_
 (with_reducible repeat' first|refine callS.eq (w96 g t _ hg hl hk) ?_|exact trivial|refine aO ?_|refine eO ?_|apply jO|refine K0 ?_|intro h)
 ·simp only[Yv,Int.reduceToNat];rw[if_pos oT,Z3 oT]
 ·simp only[Yv];rw[if_neg oT];rfl
end Go.Proofs.YtknbnefbgpnkgaaGreat
