/- The law FnStaticTypes returns true whatever the input, and the input reads behind the call as before. No condition. -/
import Derived.Test.YtkmedfejmndmjaaGreatFst2
set_option maxHeartbeats 40000000
set_option maxRecDepth 20000
set_option linter.unusedSimpArgs false
set_option linter.unusedVariables false
namespace Go.Proofs.YtkmedfejmndmjaaGreat
open Go.Gh
open Nat (reduceEqDiff reduceLeDiff reduceAdd reduceLT)
open Int (reduceNe)
end Go.Proofs.YtkmedfejmndmjaaGreat
namespace Go.Proofs.YtkmedfejmndmjaaGreat
open Go.Gh
open Nat (reduceEqDiff reduceLeDiff reduceAdd reduceLT)
open Int (reduceNe)
end Go.Proofs.YtkmedfejmndmjaaGreat
namespace Go.Proofs.YtkmedfejmndmjaaGreat
open Go.Gh
open Nat (reduceEqDiff reduceLeDiff reduceAdd reduceLT)
open Int (reduceNe)
end Go.Proofs.YtkmedfejmndmjaaGreat
namespace Go.Proofs.YtkmedfejmndmjaaGreat
open Go.Gh
open Nat (reduceEqDiff reduceLeDiff reduceAdd reduceLT)
open Int (reduceNe)
theorem o222:∀(e:Exp),wEx e≤1048576→∀H,Gc 222 [Ex e] H (fun g H'=>∃r,g = .agg [I e.kind,I e.n,I e.pos,I e.type,T e.sym,T e.name,.own r 7 0 e.args.length]∧H'=(r,7,e.args.map ExO)::H):=by
 refine Exp.indA fun e ih hw H=> ?_
 obtain ⟨hl,ha⟩:=YT hw
 have h0:Gc 222 [Ex e] H (fun g H'=>∃r r0 u,¬r=r0∧g = .agg [I e.kind,I e.n,I e.pos,I e.type,T e.sym,T e.name,.own r 7 0 e.args.length]∧H'=(r,7,e.args.map ExO)::(r0,7,u)::H):=by
  rw[Y3]
  refine Z5 mxd i222 rfl (by simp) ?_;refine X0 ?_
  (refine V0 ?_;with_reducible repeat' intro h)
  rename_i rb
  obtain ⟨q0,ho,hq⟩:=vfresh (names ((rb,7,[GV.agg [I e.kind,I e.n,I e.pos,I e.type,T e.sym,T e.name,ExS e.args]])::H))
  refine YD mxd (ι:={ y:Nat×Nat // y.2≤e.args.length }) (fun y=>[(1,.ptr rb 7 0 0),(2,.raw 7),(3,.own y.1.1 7 0 y.1.2),(7,ExS e.args),(8,I e.args.length),(9,I y.1.2)]) (fun y=>(y.1.1,7,(e.args.take y.1.2).map ExO)::(rb,7,[.agg [I e.kind,I e.n,I e.pos,I e.type,T e.sym,T e.name,ExS e.args]])::H) (fun y=>e.args.length-y.1.2) ⟨(q0,0),by simp⟩ (FE.virt (j:=3) (sz:=7) rfl ho hq) (by simp[E2,eset]) rfl ?_
  rintro ⟨⟨q,k⟩,hk⟩ hn
  dsimp only at hk hn ⊢
  refine Zl mxd ?_
  replace hn:=Z4 hn
  (replace hn:=hn;simp only[VN] at hn)
  rcases nL k e.args.length with hlt|hge
  ·(refine V1 (jO hn (jO @XE (jO @List.length_append.{0} (jO @List.length_singleton.{0} (jO @List.length_map.{0,0} (jO @List.length_take.{0} @ZM)))))) ?_;with_reducible repeat' first|intro h|apply jO)
   all_goals try exact oF
   refine callS.of (ih e.args[k] (gM _) (ha _ (gM _)) _) ?_
   rintro g H' ⟨rc,rfl,rfl⟩ hnc
   replace hnc:=Z4 hnc
   (replace hnc:=hnc;simp only[VN] at hnc)
   (refine V1 (jO hn (jO hnc (jO @List.length_append.{0} (jO @List.length_singleton.{0} (jO @List.length_map.{0,0} (jO @List.length_take.{0} @ZM)))))) ?_;with_reducible repeat' first|intro h|refine aO ?_)
   all_goals try exact oF
   rename_i r3 _ r4
   refine nxF ⟨(r4,k+1),oT⟩ (by simp;omega) (FE.trans (FE.perm (H:=[_,_,_,_]) (L:=[(r4,_),(rc,_),(rb,_)]) (by repeat' (first|exact trivial|(refine jO (by simp only[Z9, *,if_true,if_false];try rfl) (jO (by simp[ZW,ZU, *]) ?_))))) (FE.closeL2 (j:=6) (by simp[*]) rfl (by simp))) (by simp[E2]) ?_
   rw[tL (by simp;omega),←take_snocM ExO hlt,ExO_eq]
   rfl
  ·obtain rfl:k=e.args.length:=by omega
   (refine V1 (jO hn (jO @XE @ZM)) ?_;with_reducible repeat' intro h)
   all_goals try exact oF
   rw[List.take_length]
   exact ⟨q,rb,_,hn.1.1,rfl,rfl⟩
 refine h0.fr ?_
 rintro g H' ⟨r,r0,u,hne,rfl,rfl⟩
 exact ⟨_,_,FR.perm (H:=[_,_]) (L:=[(r,7,e.args.map ExO)]) (by simp[subH,ZV,names]),r,rfl,rfl⟩
theorem w211 (r:Rul) (o:Int×ByteArray) (hr:Y7 r):Pu 211 [Ru r,Occ o] (· = .tup [Ex (YH r o),B (YC r o).isSome]):=by
 refine Pure.bor ?_
 have hlen:=hr.2.1
 refine Z5 mxd i211 rfl (by simp) ?_;refine X0 ?_
 refine ZL mxd (ι:={ i:Nat // i≤r.eqs.length∧∀y∈r.eqs.take i,decide (y.pos=o.1∧y.name=o.2)=false }) (fun i=>[(2,.rop 6 (Ru r)),(3,.rop 2 (Occ o)),(4,.raw 7),(6,I i.1)]) (fun _ => []) (fun i=>r.eqs.length-i.1) ⟨0,by simp⟩ (by simp[E2]) rfl ?_
 rintro ⟨i,hi,hn⟩
 rcases nL i r.eqs.length with hlt|hge
 ·by_cases he:r.eqs[i].pos = o.1∧r.eqs[i].name = o.2
  ·(refine V1 (jO @XE (jO he (jO @and_self @decide_true))) ?_;with_reducible repeat' first|intro h|apply jO)
   all_goals try exact oF
   refine callS.eq (w181 r.eqs[i].expr (hr.2.2.2.1 _ (gM _))) ?_
   (refine V1 @XE ?_)
   have e:=X8 (p:=fun x:Eqn=>decide (x.pos=o.1∧x.name=o.2)) (xs:=r.eqs) (i:=i) hlt (by simp[he]) hn
   simp only[YH,YC,e]
   exact .refl
  ·(refine V1 @XE ?_;with_reducible repeat' first|intro h|apply jO)
   all_goals first
    | exact nx ⟨i+1,oT,Zn hlt (by simp[he]) hn⟩ (by simp;omega) (by simp[E2]) rfl
    | (exfalso;omega)
    | (exfalso;exact he ⟨by assumption,by assumption⟩)
 ·have:i=r.eqs.length:=by omega
  subst this
  rw[tL (Nat.le_refl _)] at hn
  have e:=Yb hn
  (refine V1 @XE ?_;with_reducible repeat' intro h)
  all_goals try exact oF
  simp only[YH,YC,e]
  exact .tup (.cons (.agg (.cons .refl (.cons .refl (.cons .refl (.cons .refl (.cons .refl (.cons .refl (.cons .nil .nil)))))))) (.cons .refl .nil))
theorem o175 (r:Rul) (o:Int×ByteArray) (hr:Y7 r) (H:GH):Gc 175 [Ru r,Occ o] H (fun g H'=>∃q,g = .tup [.agg [I (YH r o).kind,I (YH r o).n,I (YH r o).pos,I (YH r o).type,T (YH r o).sym,T (YH r o).name,.own q 7 0 (YH r o).args.length],B (YC r o).isSome]∧H'=(q,7,(YH r o).args.map ExO)::H):=by
 have h0:Gc 175 [Ru r,Occ o] H (fun g H'=>(∃q,g = .tup [.agg [I (YH r o).kind,I (YH r o).n,I (YH r o).pos,I (YH r o).type,T (YH r o).sym,T (YH r o).name,.own q 7 0 (YH r o).args.length],B (YC r o).isSome]∧H'=(q,7,(YH r o).args.map ExO)::H)∨(YC r o=none∧g = .tup [.agg [I 0,I 0,I 0,I 0,T noS,T noS,.val (.slice none 0 0)],B false]∧H'=H)):=by
  have hlen:=hr.2.1
  refine Z5 mxd i175 rfl (by simp) ?_;refine X0 ?_
  refine ZL mxd (ι:={ i:Nat // i≤r.eqs.length∧∀y∈r.eqs.take i,decide (y.pos=o.1∧y.name=o.2)=false }) (fun i=>[(3,.rop 2 (Occ o)),(4,.raw 7),(9,QnS r.eqs),(10,I r.eqs.length),(11,I i.1)]) (fun _ => H) (fun i=>r.eqs.length-i.1) ⟨0,by simp⟩ (by simp[E2]) rfl ?_
  rintro ⟨i,hi,hn⟩
  rcases nL i r.eqs.length with hlt|hge
  ·by_cases he:r.eqs[i].pos = o.1∧r.eqs[i].name = o.2
   ·(refine V1 (jO @XE (jO he (jO @and_self @decide_true))) ?_;with_reducible repeat' first|intro h|apply jO)
    all_goals try exact oF
    refine callS.of (o222 r.eqs[i].expr (hr.2.2.2.1 _ (gM _)) _) ?_
    rintro g H' ⟨q,rfl,rfl⟩ hq
    (refine V1 @XE ?_)
    have e:=X8 (p:=fun x:Eqn=>decide (x.pos=o.1∧x.name=o.2)) (xs:=r.eqs) (i:=i) hlt (by simp[he]) hn
    simp only[YH,YC,e]
    exact .inl ⟨q,rfl,rfl⟩
   ·(refine V1 @XE ?_;with_reducible repeat' first|intro h|apply jO)
    all_goals first
     | exact nx ⟨i+1,oT,Zn hlt (by simp[he]) hn⟩ (by simp;omega) (by simp[E2]) rfl
     | (exfalso;omega)
     | (exfalso;exact he ⟨by assumption,by assumption⟩)
  ·have:i=r.eqs.length:=by omega
   subst this
   rw[tL (Nat.le_refl _)] at hn
   have e:=Yb hn
   (refine V1 @XE ?_;with_reducible repeat' intro h)
   all_goals try exact oF
   exact .inr ⟨e,rfl⟩
 refine h0.fr ?_
 rintro g H' (⟨q,rfl,rfl⟩|⟨e,rfl,rfl⟩)
 ·exact ⟨_,_,FR.refl _ _,q,rfl,rfl⟩
 ·refine ⟨_,_,FR.trans (FR.addv (r:=Yk H') (sz:=7) (vname_odd H') (vname_new H')) (FR.sub (.tup (.cons (.agg (nilL_bor (l:=[_,_,_,_,_,_]) (r:=Yk H') (sz:=7))) (.cons .refl .nil)))),Yk H',?_,?_⟩
  ·simp only[YH,e];rfl
  ·simp only[YH,e];rfl
theorem w182 (g:Gram) (t:List Nod) (x:Int×ByteArray) (hg:ZE g) (hl:t.length≤1048576):Pu 182 [Gr g,Tr t,Ins x] (· = .tup [DfG (YI g t x) (Zf g t x),B (Y6 g t x)]):=by
 refine Pure.bor ?_
 have hz:Bor [] (.tup [.agg [I 0,I 0,I 0,I 0,I 0,T noS,T noS,.val (.slice none 0 0)],B false]) (.tup [DfG 0 expZ,B false]):= .tup (.cons (.agg (.cons .refl (.cons .refl (.cons .refl (.cons .refl (.cons .refl (.cons .refl (.cons .refl (.cons .nil .nil))))))))) (.cons .refl .nil))
 refine Z5 mxd i182 rfl (by simp) ?_;refine X0 ?_
 refine callS.eq (w26 g t x hg) ?_
 (refine V0 ?_)
 refine callS.eq (w68 t x.1) ?_
 by_cases h1:hasN g t x.1 x.2=true
 ·obtain ⟨hi1,hi2⟩:=hasN_ix h1
  obtain ⟨n,hin⟩:∃n:Nat,Zt (fun y:Nod=>decide (y.id=x.1)) t=n:=⟨(Zt (fun y:Nod=>decide (y.id=x.1)) t).toNat,oT⟩
  have hn:n<t.length:=by omega
  by_cases h2:(attN g t x.1 x.2).mode = 3
  ·have hB:Y6 g t x=false:=by simp[Y6,h2]
   simp only[YI,Zf,hB]
   (refine V1 (jO h1 h2) ?_)
   all_goals first|exact hz|(exfalso;omega)
  by_cases h3:(attN g t x.1 x.2).mode = 1
  ·have ho:ownN g t x=(t[n].parent,t[n].place):=by simp only[ownN,if_pos h3,hin,Int.toNat_natCast];rw[Z6 hn]
   by_cases hr:0≤t[n].parent ∧ t[n].parent < t.length
   ·obtain ⟨m,hm⟩:∃m:Nat,t[n].parent = m:=⟨(t[n].parent).toNat,oT⟩
    have hmt:m<t.length:=by omega
    have hrr:0≤(m:Int)∧(m:Int)≤t.length-1:=by omega
    have hgt:t.getD m ZK=t[m]:=Z6 hmt
    (refine V1 (jO h1 (jO h2 (jO h3 hin))) ?_;with_reducible repeat' intro h)
    all_goals try exact oF
    refine callS.eq (w44 _ _ _) ?_
    (refine V1 (jO hm hrr) ?_)
    all_goals try exact oF
    refine callS.eq (w65 g _ hg) ?_
    (refine V1 hm ?_)
    all_goals try exact oF
    refine callS.eq (w211 (Zx g.rules t[m].rule) (t[n].place,x.2) (smRu_f hg _)) ?_
    by_cases h5:(YC (Zx g.rules t[m].rule) (t[n].place,x.2)).isSome = true
    ·have hB:Y6 g t x=true:=by simp[Y6,h1,h2,ho,hm,h5,hmt,hgt]
     have hE:Zf g t x=YH (Zx g.rules t[m].rule) (t[n].place,x.2):=by simp only[Zf,hB,if_true,ho,hm,Int.toNat_natCast,hgt]
     have hO:YI g t x=m:=by simp only[YI,hB,if_true,ho,hm]
     rw[hE,hO,hB]
     (refine V1 (jO h5 (jO hm @XE)) ?_)
     first|exact .refl | (rw[Y3];exact .refl)
    ·have h5':(YC (Zx g.rules t[m].rule) (t[n].place,x.2)).isSome = false:=by simpa using h5
     have hB:Y6 g t x=false:=by simp only[Y6,ho,hm,Int.toNat_natCast,hgt,h5',Bool.and_false]
     simp only[YI,Zf,hB]
     (refine V1 (jO h5' @XE) ?_)
     exact hz
   ·have hr1:¬(0≤t[n].parent ∧ t[n].parent ≤ t.length-1):=by omega
    have hB:Y6 g t x=false:=by simp only[Y6,ho,decide_eq_false hr,Bool.and_false,Bool.false_and]
    simp only[YI,Zf,hB]
    (refine V1 (jO h1 (jO h2 (jO h3 hin))) ?_;with_reducible repeat' intro h)
    all_goals try exact oF
    refine callS.eq (w44 _ _ _) ?_
    (refine V1 hr1 ?_)
    exact hz
  ·have ho:ownN g t x=((n:Int),0):=by simp only[ownN,if_neg h3,hin]
   by_cases hr:0≤(n:Int)∧(n:Int)<t.length
   ·obtain ⟨m,hm⟩:∃m:Nat,(n:Int)=m:=⟨((n:Int)).toNat,oT⟩
    have hmt:m<t.length:=by omega
    have hrr:0≤(m:Int)∧(m:Int)≤t.length-1:=by omega
    have hgt:t.getD m ZK=t[m]:=Z6 hmt
    (refine V1 (jO h1 (jO h2 (jO h3 hin))) ?_)
    all_goals try exact oF
    refine callS.eq (w44 _ _ _) ?_
    (refine V1 (jO hm hrr) ?_)
    all_goals try exact oF
    refine callS.eq (w65 g _ hg) ?_
    (refine V1 hm ?_)
    all_goals try exact oF
    refine callS.eq (w211 (Zx g.rules t[m].rule) ((0:Int),x.2) (smRu_f hg _)) ?_
    by_cases h5:(YC (Zx g.rules t[m].rule) ((0:Int),x.2)).isSome = true
    ·have hB:Y6 g t x=true:=by simp[Y6,h1,h2,ho,hm,h5,hmt,hgt]
     have hE:Zf g t x=YH (Zx g.rules t[m].rule) ((0:Int),x.2):=by simp only[Zf,hB,if_true,ho,hm,Int.toNat_natCast,hgt]
     have hO:YI g t x=m:=by simp only[YI,hB,if_true,ho,hm]
     rw[hE,hO,hB]
     (refine V1 (jO h5 (jO hm @XE)) ?_)
     first|exact .refl | (rw[Y3];exact .refl)
    ·have h5':(YC (Zx g.rules t[m].rule) ((0:Int),x.2)).isSome = false:=by simpa using h5
     have hB:Y6 g t x=false:=by simp only[Y6,ho,hm,Int.toNat_natCast,hgt,h5',Bool.and_false]
     simp only[YI,Zf,hB]
     (refine V1 (jO h5' @XE) ?_)
     exact hz
   ·exfalso;omega
 ·have h1':hasN g t x.1 x.2=false:=by simpa using h1
  have hB:Y6 g t x=false:=by simp[Y6,h1']
  simp only[YI,Zf,hB]
  (refine V1 h1' ?_)
  all_goals first|exact hz|(exfalso;omega)
theorem o109 (g:Gram) (t:List Nod) (x:Int×ByteArray) (hg:ZE g) (hl:t.length≤1048576) (H:GH):Gc 109 [Gr g,Tr t,Ins x] H (fun v H'=>∃H1,(∃q,v = .tup [.agg [I (YI g t x),I (Zf g t x).kind,I (Zf g t x).n,I (Zf g t x).pos,I (Zf g t x).type,T (Zf g t x).sym,T (Zf g t x).name,.own q 7 0 (Zf g t x).args.length],B (Y6 g t x)]∧H1=[(q,7,(Zf g t x).args.map ExO)])∧H'=H1++H):=by
 have h0:Gc 109 [Gr g,Tr t,Ins x] H (fun v H'=>(Y6 g t x=true∧∃q H2,v = .tup [.agg [I (YI g t x),I (Zf g t x).kind,I (Zf g t x).n,I (Zf g t x).pos,I (Zf g t x).type,T (Zf g t x).sym,T (Zf g t x).name,.own q 7 0 (Zf g t x).args.length],B true]∧H'=((q,7,(Zf g t x).args.map ExO)::H2)++H)∨(Y6 g t x=false∧v = .tup [.agg [I 0,I 0,I 0,I 0,I 0,T noS,T noS,.val (.slice none 0 0)],B false]∧∃H2,H'=H2++H)):=by
  refine Z5 mxd i109 rfl (by simp) ?_;refine X0 ?_
  refine callS.eq (w173 g t x hg) ?_
  by_cases h1:hasN g t x.1 x.2=true
  ·obtain ⟨hi1,hi2⟩:=hasN_ix h1
   obtain ⟨n,hin⟩:∃n:Nat,Zt (fun y:Nod=>decide (y.id=x.1)) t=n:=⟨(Zt (fun y:Nod=>decide (y.id=x.1)) t).toNat,oT⟩
   have hn:n<t.length:=by omega
   by_cases h2:(attN g t x.1 x.2).mode = 3
   ·have hB:Y6 g t x=false:=by simp[Y6,h2]
    (refine V1 (jO h1 h2) ?_)
    all_goals first|exact .inr ⟨hB,rfl,[],rfl⟩|(exfalso;omega)
   (refine V1 (jO h1 h2) ?_)
   all_goals try exact oF
   refine callS.eq (w174 t x.1) ?_
   by_cases h3:(attN g t x.1 x.2).mode = 1
   ·have ho:ownN g t x=(t[n].parent,t[n].place):=by simp only[ownN,if_pos h3,hin,Int.toNat_natCast];rw[Z6 hn]
    by_cases hr:0≤t[n].parent ∧ t[n].parent < t.length
    ·obtain ⟨m,hm⟩:∃m:Nat,t[n].parent = m:=⟨(t[n].parent).toNat,oT⟩
     have hmt:m<t.length:=by omega
     have hrr:0≤(m:Int)∧(m:Int)<t.length:=by omega
     have hgt:t.getD m ZK=t[m]:=Z6 hmt
     (refine V1 (jO h1 (jO h2 (jO h3 hin))) ?_;with_reducible repeat' intro h)
     all_goals try exact oF
     refine callS.eq (w70 t _) ?_
     (refine V1 (jO hm hrr) ?_)
     all_goals try exact oF
     refine callS.eq (w118 g _ hg) ?_
     (refine V1 hm ?_)
     all_goals try exact oF
     refine callS.of (o175 (Zx g.rules t[m].rule) (t[n].place,x.2) (smRu_f hg _) _) ?_
     rintro v H' ⟨q,rfl,rfl⟩ hq
     by_cases h5:(YC (Zx g.rules t[m].rule) (t[n].place,x.2)).isSome = true
     ·have hB:Y6 g t x=true:=by simp[Y6,h1,h2,ho,hm,h5,hmt,hgt]
      have hE:Zf g t x=YH (Zx g.rules t[m].rule) (t[n].place,x.2):=by simp only[Zf,hB,if_true,ho,hm,Int.toNat_natCast,hgt]
      have hO:YI g t x=m:=by simp only[YI,hB,if_true,ho,hm]
      rw[hE,hO]
      (refine V1 (jO h5 hm) ?_)
      exact .inl ⟨hB,q,[_],rfl,rfl⟩
     ·have h5':(YC (Zx g.rules t[m].rule) (t[n].place,x.2)).isSome = false:=by simpa using h5
      have hB:Y6 g t x=false:=by simp only[Y6,ho,hm,Int.toNat_natCast,hgt,h5',Bool.and_false]
      (refine V1 h5' ?_)
      exact .inr ⟨hB,rfl,[_,_],rfl⟩
    ·have hB:Y6 g t x=false:=by simp only[Y6,ho,decide_eq_false hr,Bool.and_false,Bool.false_and]
     (refine V1 (jO h1 (jO h2 (jO h3 hin))) ?_;with_reducible repeat' intro h)
     all_goals try exact oF
     refine callS.eq (w70 t _) ?_
     (refine V1 hr ?_)
     exact .inr ⟨hB,rfl,[_],rfl⟩
   ·have ho:ownN g t x=((n:Int),0):=by simp only[ownN,if_neg h3,hin]
    by_cases hr:0≤(n:Int)∧(n:Int)<t.length
    ·obtain ⟨m,hm⟩:∃m:Nat,(n:Int)=m:=⟨((n:Int)).toNat,oT⟩
     have hmt:m<t.length:=by omega
     have hrr:0≤(m:Int)∧(m:Int)<t.length:=by omega
     have hgt:t.getD m ZK=t[m]:=Z6 hmt
     (refine V1 (jO h1 (jO h2 (jO h3 hin))) ?_;with_reducible repeat' intro h)
     all_goals try exact oF
     refine callS.eq (w70 t _) ?_
     (refine V1 (jO hm hrr) ?_)
     all_goals try exact oF
     refine callS.eq (w118 g _ hg) ?_
     (refine V1 hm ?_)
     all_goals try exact oF
     refine callS.of (o175 (Zx g.rules t[m].rule) ((0:Int),x.2) (smRu_f hg _) _) ?_
     rintro v H' ⟨q,rfl,rfl⟩ hq
     by_cases h5:(YC (Zx g.rules t[m].rule) ((0:Int),x.2)).isSome = true
     ·have hB:Y6 g t x=true:=by simp[Y6,h1,h2,ho,hm,h5,hmt,hgt]
      have hE:Zf g t x=YH (Zx g.rules t[m].rule) ((0:Int),x.2):=by simp only[Zf,hB,if_true,ho,hm,Int.toNat_natCast,hgt]
      have hO:YI g t x=m:=by simp only[YI,hB,if_true,ho,hm]
      rw[hE,hO]
      (refine V1 (jO h5 hm) ?_)
      exact .inl ⟨hB,q,[_],rfl,rfl⟩
     ·have h5':(YC (Zx g.rules t[m].rule) ((0:Int),x.2)).isSome = false:=by simpa using h5
      have hB:Y6 g t x=false:=by simp only[Y6,ho,hm,Int.toNat_natCast,hgt,h5',Bool.and_false]
      (refine V1 h5' ?_)
      exact .inr ⟨hB,rfl,[_,_],rfl⟩
    ·exfalso;omega
  ·have h1':hasN g t x.1 x.2=false:=by simpa using h1
   have hB:Y6 g t x=false:=by simp[Y6,h1']
   (refine V1 h1' ?_)
   all_goals first|exact .inr ⟨hB,rfl,[],rfl⟩|(exfalso;omega)
 refine h0.fr ?_
 rintro v H' (⟨hB,q,H2,rfl,rfl⟩|⟨hB,rfl,H2,rfl⟩)
 ·rw[hB]
  exact ⟨_,_,FR.perm (H:=(q,7,(Zf g t x).args.map ExO)::H2) (L:=[(q,7,(Zf g t x).args.map ExO)]) (by simp[subH,ZV,names]),_,⟨q,rfl,rfl⟩,rfl⟩
 ·have hE:Zf g t x=expZ:=by simp[Zf,hB]
  have hO:YI g t x=0:=by simp[YI,hB]
  rw[hB,hE,hO]
  refine ⟨_,_,FR.trans (FR.perm (H:=H2) (L:=[]) trivial) (FR.trans (FR.addv (r:=Yk ([]++H)) (sz:=7) (vname_odd _) (vname_new _)) (FR.sub (.tup (.cons (.agg (nilL_bor (l:=[_,_,_,_,_,_,_]) (r:=Yk ([]++H)) (sz:=7))) (.cons .refl .nil))))),_,⟨Yk ([]++H),rfl,rfl⟩,rfl⟩
theorem w64 (g:Gram) (t:List Nod) (hg:ZE g) (hl:t.length≤1048576) (hk:∀x∈t,x.kids.length≤1048576):∀(f i:Nat) (p q:Int) (s:ByteArray),t.length≤i+f→Pu 64 [Gr g,Tr t,I i,I p,I q,T s] (· = I (ZJ g t f i p q s)):=by
 intro f
 induction f with
 | zero=>
  intro i p q s hf
  refine Z5 mxd i64 rfl (by simp) ?_;refine X0 ?_
  (refine R0 ?_;with_reducible repeat' first|intro h|apply jO)
  all_goals first|rfl|(exfalso;omega)
 | succ f ih=>
  intro i p q s hf
  refine Z5 mxd i64 rfl (by simp) ?_;refine X0 ?_
  by_cases hi:i<t.length
  rotate_left
  ·rw[walkE_out oT]
   (refine R0 ?_;with_reducible repeat' intro h)
   all_goals first|rfl|(exfalso;omega)
  have hw:ZJ g t (f+1) i p q s=if fitV g t[i] p q s then Zu (ZJ g t f) i t[i].kids (Zx g.rules t[i].rule).right 0 (i+1) else -1:=by simp only[ZJ,if_pos hi,Z6 hi]
  have hkk:=hk _ (gM hi)
  have hr:=smRu_f hg t[i].rule
  have hrr:=hr.1
  rw[hw]
  by_cases hv:fitV g t[i] p q s=true
  ·rw[if_pos hv]
   obtain ⟨h1,h2,h3,h4,h5,h6,h7⟩:=Yn.1 hv
   subst h2 h3 h4
   clear hw hv
   have hR:∃R,Zx g.rules t[i].rule = R:=⟨_,rfl⟩
   obtain ⟨R,hR⟩:=hR
   rw[hR] at hr hrr h5 h7 ⊢
   have main:∀(Q:Exit→Env→GH→Prop),True:=fun _ => trivial
   rcases h7 with h7|h7
   ·(with_reducible repeat' first|refine callS.eq (w65 _ _ hg) ?_|refine callS.eq (w27 _ _) ?_|exact trivial|refine aO ?_|refine eO ?_|apply jO|refine K1 (jO h1 (jO h5 (jO okV1 (jO (eq_true h6) (jO h7 hR))))) ?_|intro h)
    all_goals try exact oF
    have hVV:∃V,Zu (ZJ g t f) i t[i].kids R.right 0 (i+1)=V:=⟨_,rfl⟩
    obtain ⟨V,hVV⟩:=hVV
    rw[hVV]
    refine ZL mxd (ι:={ x:Nat×Int // x.1≤R.right.length∧(i:Int)<x.2∧x.2≤t.length∧Zu (ZJ g t f) i (t[i].kids.drop x.1) (R.right.drop x.1) x.1 x.2=V }) (fun x=>[(2,I i),(6,.rop 2 (Gr g)),(7,.rop 1 (Tr t)),(13,.rop 6 (Nd t[i])),(14,.rop 6 (Ru R)),(16,I x.1.2),(17,I x.1.1)]) (fun _ => []) (fun x=>R.right.length-x.1.1) ⟨(0,i+1),by simp,by simp;omega,by simp;omega,by simpa using hVV⟩ (by simp[E2,h7]) rfl ?_
    rintro ⟨⟨k,a⟩,hk1,ha1,ha2,hV⟩
    dsimp only at hk1 ha1 ha2 hV ⊢
    rcases nL k R.right.length with hlt|hge
    ·rw[kidsW_step oT hlt] at hV
     by_cases hc:t[i].kids[k]=a
     ·rw[if_neg (by simpa using hc)] at hV
      obtain ⟨m,rfl⟩:∃m:Nat,a=m:=⟨a.toNat,oT⟩
      have hm:=Yv (g:=g) (t:=t) f m i ((k:Int)+1) R.right[k]
      simp only[Int.toNat_natCast] at hV
      (with_reducible repeat' first|refine callS.eq (ih m _ _ _ oT) ?_|exact trivial|refine aO ?_|refine eO ?_|apply jO|refine K1 (jO h5 hc) ?_|intro h)
      all_goals try exact oF
      ·rw[if_pos (by assumption)] at hV;rw[←hV]
      ·rw[if_neg (by assumption)] at hV
       exact nx ⟨(k+1,ZJ g t f m i ((k:Int)+1) R.right[k]),oT,by dsimp only;omega,by dsimp only;omega,hV⟩ (by simp;omega) (by simp[E2]) rfl
     ·rw[if_pos (by simpa using hc)] at hV
      (with_reducible repeat' first|refine callS.eq (ih _ _ _ _ oT) ?_|exact trivial|refine aO ?_|refine eO ?_|apply jO|refine K1 (jO h5 hc) ?_|intro h)
      all_goals first|(rw[←hV];done)|(exfalso;omega)
    ·rw[kidsW_end oT] at hV
     (refine R0 ?_;with_reducible repeat' intro h)
     all_goals first|(rw[←hV];done)|(exfalso;omega)
   ·(with_reducible repeat' first|refine callS.eq (w65 _ _ hg) ?_|refine callS.eq (w27 _ _) ?_|exact trivial|refine aO ?_|refine eO ?_|apply jO|refine K1 (jO h1 (jO h5 (jO okV1 (jO (eq_true h6) (jO h7.1 (jO (eq_true h7.2) hR)))))) ?_|intro h)
    all_goals try exact oF
    have hVV:∃V,Zu (ZJ g t f) i t[i].kids R.right 0 (i+1)=V:=⟨_,rfl⟩
    obtain ⟨V,hVV⟩:=hVV
    rw[hVV]
    refine ZL mxd (ι:={ x:Nat×Int // x.1≤R.right.length∧(i:Int)<x.2∧x.2≤t.length∧Zu (ZJ g t f) i (t[i].kids.drop x.1) (R.right.drop x.1) x.1 x.2=V }) (fun x=>[(2,I i),(6,.rop 2 (Gr g)),(7,.rop 1 (Tr t)),(13,.rop 6 (Nd t[i])),(14,.rop 6 (Ru R)),(16,I x.1.2),(17,I x.1.1)]) (fun _ => []) (fun x=>R.right.length-x.1.1) ⟨(0,i+1),by simp,by simp;omega,by simp;omega,by simpa using hVV⟩ (by simp[E2,h7]) rfl ?_
    rintro ⟨⟨k,a⟩,hk1,ha1,ha2,hV⟩
    dsimp only at hk1 ha1 ha2 hV ⊢
    rcases nL k R.right.length with hlt|hge
    ·rw[kidsW_step oT hlt] at hV
     by_cases hc:t[i].kids[k]=a
     ·rw[if_neg (by simpa using hc)] at hV
      obtain ⟨m,rfl⟩:∃m:Nat,a=m:=⟨a.toNat,oT⟩
      have hm:=Yv (g:=g) (t:=t) f m i ((k:Int)+1) R.right[k]
      simp only[Int.toNat_natCast] at hV
      (with_reducible repeat' first|refine callS.eq (ih m _ _ _ oT) ?_|exact trivial|refine aO ?_|refine eO ?_|apply jO|refine K1 (jO h5 hc) ?_|intro h)
      all_goals try exact oF
      ·rw[if_pos (by assumption)] at hV;rw[←hV]
      ·rw[if_neg (by assumption)] at hV
       exact nx ⟨(k+1,ZJ g t f m i ((k:Int)+1) R.right[k]),oT,by dsimp only;omega,by dsimp only;omega,hV⟩ (by simp;omega) (by simp[E2]) rfl
     ·rw[if_pos (by simpa using hc)] at hV
      (with_reducible repeat' first|refine callS.eq (ih _ _ _ _ oT) ?_|exact trivial|refine aO ?_|refine eO ?_|apply jO|refine K1 (jO h5 hc) ?_|intro h)
      all_goals first|(rw[←hV];done)|(exfalso;omega)
    ·rw[kidsW_end oT] at hV
     (refine R0 ?_;with_reducible repeat' intro h)
     all_goals first|(rw[←hV];done)|(exfalso;omega)
  ·rw[if_neg hv]
   rw[Yn] at hv
   (with_reducible repeat' first|refine callS.eq (w65 _ _ hg) ?_|refine callS.eq (w27 _ _) ?_|exact trivial|refine aO ?_|refine eO ?_|apply jO|refine K0 ?_|intro h)
   all_goals try rfl
   all_goals (exfalso;apply hv;simp_all only[okV1,decide_eq_true_eq,decide_eq_false_iff_not,true_and,and_true,or_true,true_or,not_true_eq_false,not_false_eq_true];done)
theorem w172 (g:Gram) (t:List Nod) (hg:ZE g) (hl:t.length≤1048576) (hk:∀x∈t,x.kids.length≤1048576):∀(f i:Nat) (p q:Int) (s:ByteArray),t.length≤i+f→Pu 172 [Gr g,Tr t,I i,I p,I q,T s] (· = I (ZJ g t f i p q s)):=by
 intro f
 induction f with
 | zero=>
  intro i p q s hf
  refine Z5 mxd i172 rfl (by simp) ?_;refine X0 ?_
  (refine R0 ?_;with_reducible repeat' first|intro h|apply jO)
  all_goals first|rfl|(exfalso;omega)
 | succ f ih=>
  intro i p q s hf
  refine Z5 mxd i172 rfl (by simp) ?_;refine X0 ?_
  by_cases hi:i<t.length
  rotate_left
  ·rw[walkE_out oT]
   (refine R0 ?_;with_reducible repeat' intro h)
   all_goals first|rfl|(exfalso;omega)
  have hw:ZJ g t (f+1) i p q s=if fitV g t[i] p q s then Zu (ZJ g t f) i t[i].kids (Zx g.rules t[i].rule).right 0 (i+1) else -1:=by simp only[ZJ,if_pos hi,Z6 hi]
  have hkk:=hk _ (gM hi)
  have hr:=smRu_f hg t[i].rule
  have hrr:=hr.1
  rw[hw]
  by_cases hv:fitV g t[i] p q s=true
  ·rw[if_pos hv]
   obtain ⟨h1,h2,h3,h4,h5,h6,h7⟩:=Yn.1 hv
   subst h2 h3 h4
   clear hw hv
   have hR:∃R,Zx g.rules t[i].rule = R:=⟨_,rfl⟩
   obtain ⟨R,hR⟩:=hR
   rw[hR] at hr hrr h5 h7 ⊢
   have main:∀(Q:Exit→Env→GH→Prop),True:=fun _ => trivial
   rcases h7 with h7|h7
   ·(with_reducible repeat' first|refine callS.eq (w118 _ _ hg) ?_|refine callS.eq (w47 _ _ _) ?_|exact trivial|refine aO ?_|refine eO ?_|apply jO|refine K1 (jO h1 (jO h5 (jO (eq_true h6) (jO h7 hR)))) ?_|intro h)
    all_goals try exact oF
    have hVV:∃V,Zu (ZJ g t f) i t[i].kids R.right 0 (i+1)=V:=⟨_,rfl⟩
    obtain ⟨V,hVV⟩:=hVV
    rw[hVV]
    refine ZL mxd (ι:={ x:Nat×Int // x.1≤R.right.length∧(i:Int)<x.2∧x.2≤t.length∧Zu (ZJ g t f) i (t[i].kids.drop x.1) (R.right.drop x.1) x.1 x.2=V }) (fun x=>[(2,I i),(6,.rop 2 (Gr g)),(7,.rop 1 (Tr t)),(14,.rop 6 (Ru R)),(16,I x.1.2),(84,IS t[i].kids),(85,I R.right.length),(86,I x.1.1)]) (fun _ => []) (fun x=>R.right.length-x.1.1) ⟨(0,i+1),by simp,by simp;omega,by simp;omega,by simpa using hVV⟩ (by simp[E2,h7]) rfl ?_
    rintro ⟨⟨k,a⟩,hk1,ha1,ha2,hV⟩
    dsimp only at hk1 ha1 ha2 hV ⊢
    rcases nL k R.right.length with hlt|hge
    ·rw[kidsW_step oT hlt] at hV
     by_cases hc:t[i].kids[k]=a
     ·rw[if_neg (by simpa using hc)] at hV
      obtain ⟨m,rfl⟩:∃m:Nat,a=m:=⟨a.toNat,oT⟩
      have hm:=Yv (g:=g) (t:=t) f m i ((k:Int)+1) R.right[k]
      simp only[Int.toNat_natCast] at hV
      (with_reducible repeat' first|refine callS.eq (ih m _ _ _ oT) ?_|exact trivial|refine aO ?_|refine eO ?_|apply jO|refine K1 (jO h5 hc) ?_|intro h)
      all_goals try exact oF
      ·rw[if_pos (by assumption)] at hV;rw[←hV]
      ·rw[if_neg (by assumption)] at hV
       exact nx ⟨(k+1,ZJ g t f m i ((k:Int)+1) R.right[k]),oT,by dsimp only;omega,by dsimp only;omega,hV⟩ (by simp;omega) (by simp[E2]) rfl
     ·rw[if_pos (by simpa using hc)] at hV
      (with_reducible repeat' first|refine callS.eq (ih _ _ _ _ oT) ?_|exact trivial|refine aO ?_|refine eO ?_|apply jO|refine K1 (jO h5 hc) ?_|intro h)
      all_goals first|(rw[←hV];done)|(exfalso;omega)
    ·rw[kidsW_end oT] at hV
     (refine R0 ?_;with_reducible repeat' intro h)
     all_goals first|(rw[←hV];done)|(exfalso;omega)
   ·(with_reducible repeat' first|refine callS.eq (w118 _ _ hg) ?_|refine callS.eq (w47 _ _ _) ?_|exact trivial|refine aO ?_|refine eO ?_|apply jO|refine K1 (jO h1 (jO h5 (jO (eq_true h6) (jO h7.1 (jO (eq_true h7.2) hR))))) ?_|intro h)
    all_goals try exact oF
    have hVV:∃V,Zu (ZJ g t f) i t[i].kids R.right 0 (i+1)=V:=⟨_,rfl⟩
    obtain ⟨V,hVV⟩:=hVV
    rw[hVV]
    refine ZL mxd (ι:={ x:Nat×Int // x.1≤R.right.length∧(i:Int)<x.2∧x.2≤t.length∧Zu (ZJ g t f) i (t[i].kids.drop x.1) (R.right.drop x.1) x.1 x.2=V }) (fun x=>[(2,I i),(6,.rop 2 (Gr g)),(7,.rop 1 (Tr t)),(14,.rop 6 (Ru R)),(16,I x.1.2),(84,IS t[i].kids),(85,I R.right.length),(86,I x.1.1)]) (fun _ => []) (fun x=>R.right.length-x.1.1) ⟨(0,i+1),by simp,by simp;omega,by simp;omega,by simpa using hVV⟩ (by simp[E2,h7]) rfl ?_
    rintro ⟨⟨k,a⟩,hk1,ha1,ha2,hV⟩
    dsimp only at hk1 ha1 ha2 hV ⊢
    rcases nL k R.right.length with hlt|hge
    ·rw[kidsW_step oT hlt] at hV
     by_cases hc:t[i].kids[k]=a
     ·rw[if_neg (by simpa using hc)] at hV
      obtain ⟨m,rfl⟩:∃m:Nat,a=m:=⟨a.toNat,oT⟩
      have hm:=Yv (g:=g) (t:=t) f m i ((k:Int)+1) R.right[k]
      simp only[Int.toNat_natCast] at hV
      (with_reducible repeat' first|refine callS.eq (ih m _ _ _ oT) ?_|exact trivial|refine aO ?_|refine eO ?_|apply jO|refine K1 (jO h5 hc) ?_|intro h)
      all_goals try exact oF
      ·rw[if_pos (by assumption)] at hV;rw[←hV]
      ·rw[if_neg (by assumption)] at hV
       exact nx ⟨(k+1,ZJ g t f m i ((k:Int)+1) R.right[k]),oT,by dsimp only;omega,by dsimp only;omega,hV⟩ (by simp;omega) (by simp[E2]) rfl
     ·rw[if_pos (by simpa using hc)] at hV
      (with_reducible repeat' first|refine callS.eq (ih _ _ _ _ oT) ?_|exact trivial|refine aO ?_|refine eO ?_|apply jO|refine K1 (jO h5 hc) ?_|intro h)
      all_goals first|(rw[←hV];done)|(exfalso;omega)
    ·rw[kidsW_end oT] at hV
     (refine R0 ?_;with_reducible repeat' intro h)
     all_goals first|(rw[←hV];done)|(exfalso;omega)
  ·rw[if_neg hv]
   rw[Yn] at hv
   (with_reducible repeat' first|refine callS.eq (w118 _ _ hg) ?_|refine callS.eq (w47 _ _ _) ?_|exact trivial|refine aO ?_|refine eO ?_|apply jO|refine K0 ?_|intro h)
   all_goals try rfl
   all_goals (exfalso;apply hv;simp_all only[okV1,decide_eq_true_eq,decide_eq_false_iff_not,true_and,and_true,or_true,true_or,not_true_eq_false,not_false_eq_true];done)
theorem w111 (l:List Int) (x:Int):Pu 111 [IS l,I x] (· = B (hasI l x)):=by
 refine GCalls.lenA fun hl=> ?_
 have hlen:=hl.1.1
 simp only[List.length_map,Zc] at hlen
 refine Z5 mxd i111 rfl (by simp) ?_;refine X0 ?_
 refine ZL mxd (ι:={ i:Nat // i≤l.length∧∀y∈l.take i,decide (y=x)=false }) (fun i=>[(0,IS l),(1,I x),(5,I i.1)]) (fun _ => []) (fun i=>l.length-i.1) ⟨0,by simp⟩ (by simp[E2]) rfl ?_
 rintro ⟨i,hi,hn⟩
 (refine R0 ?_;with_reducible repeat' first|intro h|apply jO)
 ·rw[hasI_hit (by assumption) h]
 ·exact nx ⟨i+1,oT,Zn (by assumption) (by simpa using h) hn⟩ (by simp;omega) (by simp[E2]) rfl
 ·have:i=l.length:=by omega
  subst this
  rw[tL (Nat.le_refl _)] at hn
  rw[hasI_none hn]
theorem w63 (t:List Nod) (hl:t.length≤1048576):Pu 63 [Tr t] (· = B (idsV t&&decide (1≤t.length∧t.length≤16))):=by
 refine Pure.bor ?_
 refine Z5 mxd i63 rfl (by simp) ?_;refine X0 ?_
 (refine R0 ?_;with_reducible repeat' intro h)
 rename_i r
 refine Y1 mxd (ι:={ x:Nat×Nat // x.2≤t.length∧∀j,j<x.2→gid t j=true }) (fun x=>[(1,.rop 1 (Tr t)),(3,.own x.1.1 1 0 x.1.2),(4,I x.1.2)]) (fun x=>[(x.1.1,1,((t.take x.1.2).map (·.id)).map I)]) (fun x=>t.length-x.1.2) ⟨(r,0),by simp⟩ (by simp[E2]) (by simp[subH,ZV,names]) ?_
 rintro ⟨⟨r,i⟩,hi,hn⟩ -
 dsimp only at hi hn ⊢
 rcases nL i t.length with hlt|hge
 ·(with_reducible repeat' first|refine callS.eq (w44 _ _ _) ?_|exact trivial|refine aO ?_|refine eO ?_|apply jO|refine K0 ?_|intro h)
  all_goals try exact oF
  ·refine callS.borA (w111 ((t.take i).map (·.id)) t[i].id) (.cons (X6 ZZ (by simp;omega)) (.cons .refl .nil)) rfl ?_
   (refine R0 ?_;with_reducible repeat' first|intro h|apply jO)
   ·rw[hasI_map] at h
    rw[idsV_bad hlt (gid_f2 hlt h)]
    exact .refl
   ·rename_i q2
    have h2:=Z4 h
    (replace h2:=h2;simp only[VN] at h2)
    (refine R1 (jO @Z9 (jO @Z8 (jO @Z7 (jO h2 @t_ldf)))) ?_;with_reducible repeat' first|intro h|refine aO ?_|apply jO)
    ·simp;omega
    rename_i hh _ _ _ q3
    have h3:=Z4 h
    (replace h3:=h3;simp only[VN] at h3)
    rw[Yg I (·.id) t i hlt]
    refine px ⟨(q3,i+1),oT,fun j hj=> ?_⟩ (by simp;omega) (by simp[E2]) (by simp[subH,ZV,names,h3])
    rcases nL j i with hji|hji
    ·exact hn j hji
    ·have:j=i:=by omega
     subst this
     exact gid_t hlt (by assumption) (by rw[←hasI_map];assumption)
  ·rw[idsV_bad hlt (gid_f1 hlt (by assumption))]
   exact .refl
 ·have:i=t.length:=by omega
  subst this
  (with_reducible repeat' first|refine callS.eq (w44 _ _ _) ?_|exact trivial|refine aO ?_|refine eO ?_|apply jO|refine K0 ?_|intro h)
  have e:B (decide (1≤(t.length:Int)∧(t.length:Int)≤16))=B (idsV t&&decide (1≤t.length∧t.length≤16)):=by rw[idsV_ok hn,Bool.true_and];exact bEq oT
  rw[←e]
  exact .refl
theorem w171 (x y:Nod):Pu 171 [Nd x,.rop 6 (Nd y)] (· = B (decide (x.id=y.id))):=by
 refine Z5 mxd i171 rfl (by simp) ?_;refine X0 ?_
 try (refine R0 ?_;with_reducible repeat' exact trivial)
theorem w170 (t:List Nod) (f:Nat) (cs:List GV) (p:Nod→Bool) (hp:∀x∈t,Pu f (Nd x::cs) (· = B (p x))) :
 Pu 170 [NdS t,.clo f cs] (· = B (t.any p)):=by
 refine Z5 mxd i170 rfl (by simp) ?_;refine X0 ?_
 refine callS.eq (w220 t f cs p hp) ?_
 (refine R0 ?_)
 rw[←any_ix]
theorem w108 (g:Gram) (t:List Nod) (s:ByteArray) (hg:ZE g) (hl:t.length≤1048576) (hk:∀x∈t,x.kids.length≤1048576):Pu 108 [Gr g,Tr t,T s] (· = B (Zs g t s)):=by
 refine Z5 mxd i108 rfl (by simp) ?_;refine X0 ?_
 refine callS.eq (w47 _ _ _) ?_
 (refine R0 ?_;with_reducible repeat' first|intro h|apply jO)
 rotate_left
 ·simp only[Zs];rw[decide_eq_false oT];rfl
 refine ZL mxd (ι:={ i:Nat // i≤t.length∧∀j,j<i→gid t j=true }) (fun i=>[(2,T s),(3,.rop 2 (Gr g)),(4,.rop 1 (Tr t)),(15,NdS t),(16,I t.length),(17,I i.1)]) (fun _ => []) (fun i=>t.length-i.1) ⟨0,by simp⟩ (by simp[E2]) rfl ?_
 rintro ⟨i,hi,hn⟩
 rcases nL i t.length with hlt|hge
 ·(with_reducible repeat' first|refine callS.eq (w47 _ _ _) ?_|exact trivial|refine aO ?_|refine eO ?_|apply jO|refine K0 ?_|intro h)
  all_goals try exact oF
  ·rw[show List.drop (Int.toNat 0) (List.take i (List.map Nd t))=(t.take i).map Nd from by simp[List.map_take]]
   refine callS.eq (w170 (t.take i) _ _ (fun y=>decide (y.id=t[i].id)) fun x _ => w171 x t[i]) ?_
   (refine R0 ?_;with_reducible repeat' first|intro h|apply jO)
   ·rw[treeOf_bad (idsV_bad hlt (gid_f2 hlt h))]
   ·refine nx ⟨i+1,oT,fun j hj=> ?_⟩ (by simp;omega) (by simp[E2]) rfl
    rcases nL j i with hji|hji
    ·exact hn j hji
    ·have:j=i:=by omega
     subst this
     exact gid_t hlt (by assumption) h
  ·rw[treeOf_bad (idsV_bad hlt (gid_f1 hlt (by assumption)))]
 ·have:i=t.length:=by omega
  subst this
  have hw:=w172 g t hg hl hk t.length 0 (-1) 0 s oT
  simp only[Int.natCast_zero] at hw
  (with_reducible repeat' first|refine callS.eq (hw) ?_|exact trivial|refine aO ?_|refine eO ?_|apply jO|refine K0 ?_|intro h)
  simp only[Zs,idsV_ok hn,Bool.true_and]
  rw[decide_eq_true (show 1≤t.length∧t.length≤16 by omega),Bool.true_and]
theorem w23 (g:Gram) (t:List Nod) (s:ByteArray) (hg:ZE g) (hl:t.length≤1048576) (hk:∀x∈t,x.kids.length≤1048576):Pu 23 [Gr g,Tr t,T s] (· = B (Zs g t s)):=by
 have hw:=w64 g t hg hl hk t.length 0 (-1) 0 s oT
 simp only[Int.natCast_zero] at hw
 refine Z5 mxd i23 rfl (by simp) ?_;refine X0 ?_
 (with_reducible repeat' first|refine callS.eq (w63 t hl) ?_|refine callS.eq (hw) ?_|exact trivial|refine aO ?_|refine eO ?_|apply jO|refine K0 ?_|intro h)
 all_goals first|(simp_all [Zs];done)|(simp_all [Zs];intros;omega)
theorem w162 (g:Gram) (hg:ZE g):Pu 162 [Gr g] (· = T (startS g)):=by
 have hl:=hg.1
 refine Z5 mxd i162 rfl (by simp) ?_;refine X0 ?_
 (refine R0 ?_;with_reducible repeat' first|intro h|refine aO ?_|apply jO)
 ·simp only[startS];rw[if_neg oT];rfl
 ·simp only[startS,Int.reduceToNat];rw[if_pos oT,Z6 oT]
theorem w60 (g:Gram) (t:List Nod) (hg:ZE g) (hl:t.length≤1048576) (hk:∀x∈t,x.kids.length≤1048576):Pu 60 [Gr g,Tr t] (· = B (Zs g t (Zr g t 0))):=by
 refine Z5 mxd i60 rfl (by simp) ?_;refine X0 ?_
 (with_reducible repeat' first|refine callS.eq (w71 g t 0 hg) ?_|refine callS.eq (w108 g t _ hg hl hk) ?_|exact trivial|refine aO ?_|refine eO ?_|apply jO|refine K1 @ZM ?_|intro h)
theorem o22 (g:Gram) (t:List Nod) (hg:ZE g) (hl:t.length≤1048576) (hk:∀x∈t,x.kids.length≤1048576) (H:GH):Gc 22 [Gr g,Tr t] H (fun v H'=>∃H1,(∃r,v = .own r 2 0 (ZO g t).length ∧ H1=[(r,2,(ZO g t).map Ins)])∧H'=H1++H):=by
 refine Z5 mxd i22 rfl (by simp) ?_;refine X0 ?_
 (refine V0 ?_;with_reducible repeat' intro h)
 rename_i r0
 refine callS.eq (w24 g t 0 hg) ?_
 (refine V0 ?_)
 refine callS.eq (w23 g t _ hg hl hk) ?_
 have hil:=insL_len hg t
 by_cases ht:Zs g t (Zr g t 0)=true
 ·have htl:=treeOf_len ht
  have hia:=insA_len hg t
  rw[ZO,if_pos ht] at hil ⊢
  (refine V1 ht ?_)
  refine Yu mxd (ι:={ y:Nat×Nat // y.2≤t.length }) (fun y=>[(2,.rop 2 (Gr g)),(3,.rop 1 (Tr t)),(5,.own y.1.1 2 0 (YQ g t y.1.2).length),(6,I y.1.2)]) (fun y=>(y.1.1,2,(YQ g t y.1.2).map Ins)::H) (fun y=>t.length-y.1.2) ⟨(r0,0),by simp⟩ (by simp[E2,YQ]) (by simp[YQ]) ?_
  rintro ⟨⟨q,i⟩,hi⟩ hn
  dsimp only at hi hn ⊢
  replace hn:=Z4 hn
  (replace hn:=hn;simp only[VN] at hn)
  rcases nL i t.length with hlt|hge
  ·(refine V1 hn ?_;with_reducible repeat' first|intro h|apply jO)
   all_goals try exact oF
   refine callS.eq (w24 g t i hg) ?_
   (refine V1 hn ?_)
   refine callS.eq (w10 g _ hg) ?_
   (refine V1 hn ?_)
   have hsl:(Zy g.syms (Zr g t i)).atts.length ≤ 1048576:=YR hg _
   have hik:insK g t i=(Zy g.syms (Zr g t i)).atts.map fun a=>(t[i].id,a.name):=by simp only[insK];rw[Z6 hlt]
   have hai:=hia i
   generalize Zy g.syms (Zr g t i)=s at *
   refine Yu mxd (ι:={ y:Nat×Nat // y.2≤s.atts.length }) (fun y=>[(2,.rop 2 (Gr g)),(3,.rop 1 (Tr t)),(5,.own y.1.1 2 0 ((YQ g t i).length + y.1.2)),(6,I i),(7,.rop 2 (Sy s)),(9,I y.1.2)]) (fun y=>(y.1.1,2,(YQ g t i++(insK g t i).take y.1.2).map Ins)::H) (fun y=>s.atts.length-y.1.2) ⟨(q,0),by simp⟩ (by simp[E2]) (by simp) ?_
   rintro ⟨⟨q2,k⟩,hk2⟩ hn2
   dsimp only at hk2 hn2 ⊢
   replace hn2:=Z4 hn2
   (replace hn2:=hn2;simp only[VN] at hn2)
   have hkl:(insK g t i).length = s.atts.length:=by rw[hik];simp
   rcases nL k s.atts.length with hlt2|hge2
   ·(refine V1 (jO hn2 (jO @List.length_append.{0} (jO @List.length_singleton.{0} (jO @List.length_map.{0,0} (jO @List.length_take.{0} @ZM))))) ?_;with_reducible repeat' first|intro h|refine aO ?_|apply jO)
    all_goals try exact oF
    rename_i r3 _ r4
    refine nxF ⟨(r4,k+1),oT⟩ (by simp;omega) (FE.perm (H:=[_,_]) (L:=[(r4,_)]) (by repeat' (first|exact trivial|(refine jO (by simp only[Z9, *,if_true,if_false];try rfl) (jO (by simp[ZW,ZU, *]) ?_))))) (by simp[E2];omega) ?_
    have hk3:k<(insK g t i).length := by omega
    have hx:(insK g t i)[k]=(t[i].id,s.atts[k].name):=by simp only[hik,List.getElem_map]
    have e:=takeApp3 Ins (YQ g t i) (insK g t i) k hk3 ((YQ g t i).length + k) (by simp;omega)
    rw[hx] at e
    rw[←hik]
    exact congrArg (fun l=>(r4,2,l)::H) e
   ·obtain rfl:k=s.atts.length:=by omega
    (refine V1 (jO hn2 @ZM) ?_;with_reducible repeat' intro h)
    all_goals try exact oF
    have ha:YQ g t (i+1)=YQ g t i++insK g t i:=rfl
    refine nx ⟨(q2,i+1),oT⟩ (by simp;omega) (by simp[E2,ha,hkl]) ?_
    rw[ha,tL oT]
  ·obtain rfl:i=t.length:=by omega
   (refine V1 hn ?_;with_reducible repeat' intro h)
   all_goals try exact oF
   exact ⟨_,⟨q,rfl,rfl⟩,rfl⟩
 ·rw[ZO,if_neg ht]
  have ht':Zs g t (Zr g t 0)=false:=by simpa using ht
  (refine V1 ht' ?_)
  exact ⟨_,⟨r0,rfl,rfl⟩,rfl⟩
theorem o61 (g:Gram) (t:List Nod) (hg:ZE g) (hl:t.length≤1048576) (hk:∀x∈t,x.kids.length≤1048576) (H:GH):Gc 61 [Gr g,Tr t] H (fun v H'=>∃H1,(∃r,v = .own r 2 0 (ZO g t).length ∧ H1=[(r,2,(ZO g t).map Ins)])∧H'=H1++H):=by
 refine Z5 mxd i61 rfl (by simp) ?_;refine X0 ?_
 (refine V0 ?_;with_reducible repeat' intro h)
 rename_i r0
 refine callS.eq (w60 g t hg hl hk) ?_
 have hil:=insL_len hg t
 by_cases ht:Zs g t (Zr g t 0)=true
 ·have htl:=treeOf_len ht
  have hia:=insA_len hg t
  rw[ZO,if_pos ht] at hil ⊢
  (refine V1 ht ?_)
  refine Yu mxd (ι:={ y:Nat×Nat // y.2≤t.length }) (fun y=>[(2,.rop 2 (Gr g)),(3,.rop 1 (Tr t)),(5,.own y.1.1 2 0 (YQ g t y.1.2).length),(19,NdS t),(20,I t.length),(21,I y.1.2)]) (fun y=>(y.1.1,2,(YQ g t y.1.2).map Ins)::H) (fun y=>t.length-y.1.2) ⟨(r0,0),by simp⟩ (by simp[E2,YQ]) (by simp[YQ]) ?_
  rintro ⟨⟨q,i⟩,hi⟩ hn
  dsimp only at hi hn ⊢
  replace hn:=Z4 hn
  (replace hn:=hn;simp only[VN] at hn)
  rcases nL i t.length with hlt|hge
  ·(refine V1 hn ?_;with_reducible repeat' first|intro h|apply jO)
   all_goals try exact oF
   refine callS.eq (w71 g t i hg) ?_
   (refine V1 hn ?_)
   refine callS.eq (w48 g _ hg) ?_
   (refine V1 hn ?_)
   have hsl:(Zy g.syms (Zr g t i)).atts.length ≤ 1048576:=YR hg _
   have hik:insK g t i=(Zy g.syms (Zr g t i)).atts.map fun a=>(t[i].id,a.name):=by simp only[insK];rw[Z6 hlt]
   have hai:=hia i
   generalize Zy g.syms (Zr g t i)=s at *
   refine Yu mxd (ι:={ y:Nat×Nat // y.2≤s.atts.length }) (fun y=>[(2,.rop 2 (Gr g)),(3,.rop 1 (Tr t)),(5,.own y.1.1 2 0 ((YQ g t i).length + y.1.2)),(19,NdS t),(20,I t.length),(21,I i),(7,.rop 6 (Nd t[i])),(36,AtS s.atts),(37,I s.atts.length),(38,I y.1.2)]) (fun y=>(y.1.1,2,(YQ g t i++(insK g t i).take y.1.2).map Ins)::H) (fun y=>s.atts.length-y.1.2) ⟨(q,0),by simp⟩ (by simp[E2]) (by simp) ?_
   rintro ⟨⟨q2,k⟩,hk2⟩ hn2
   dsimp only at hk2 hn2 ⊢
   replace hn2:=Z4 hn2
   (replace hn2:=hn2;simp only[VN] at hn2)
   have hkl:(insK g t i).length = s.atts.length:=by rw[hik];simp
   rcases nL k s.atts.length with hlt2|hge2
   ·(refine V1 (jO hn2 (jO @List.length_append.{0} (jO @List.length_singleton.{0} (jO @List.length_map.{0,0} (jO @List.length_take.{0} @ZM))))) ?_;with_reducible repeat' first|intro h|refine aO ?_|apply jO)
    all_goals try exact oF
    rename_i r3 _ r4
    refine nxF ⟨(r4,k+1),oT⟩ (by simp;omega) (FE.perm (H:=[_,_]) (L:=[(r4,_)]) (by repeat' (first|exact trivial|(refine jO (by simp only[Z9, *,if_true,if_false];try rfl) (jO (by simp[ZW,ZU, *]) ?_))))) (by simp[E2];omega) ?_
    have hk3:k<(insK g t i).length := by omega
    have hx:(insK g t i)[k]=(t[i].id,s.atts[k].name):=by simp only[hik,List.getElem_map]
    have e:=takeApp3 Ins (YQ g t i) (insK g t i) k hk3 ((YQ g t i).length + k) (by simp;omega)
    rw[hx] at e
    rw[←hik]
    exact congrArg (fun l=>(r4,2,l)::H) e
   ·obtain rfl:k=s.atts.length:=by omega
    (refine V1 (jO hn2 @ZM) ?_;with_reducible repeat' intro h)
    all_goals try exact oF
    have ha:YQ g t (i+1)=YQ g t i++insK g t i:=rfl
    refine nx ⟨(q2,i+1),oT⟩ (by simp;omega) (by simp[E2,ha,hkl]) ?_
    rw[ha,tL oT]
  ·obtain rfl:i=t.length:=by omega
   (refine V1 hn ?_;with_reducible repeat' intro h)
   all_goals try exact oF
   exact ⟨_,⟨q,rfl,rfl⟩,rfl⟩
 ·rw[ZO,if_neg ht]
  have ht':Zs g t (Zr g t 0)=false:=by simpa using ht
  (refine V1 ht' ?_)
  exact ⟨_,⟨r0,rfl,rfl⟩,rfl⟩
theorem q22 (g:Gram) (t:List Nod) (hg:ZE g) (hl:t.length≤1048576) (hk:∀x∈t,x.kids.length≤1048576):Pu 22 [Gr g,Tr t] (· = YK (ZO g t)):=
 Pure.bor ((o22 g t hg hl hk []).mono fun v H' ⟨H1,⟨r,h1,h2⟩,h3⟩=>by
  subst h1;subst h2;subst h3
  exact bor_Ins ZZ rfl)
theorem q61 (g:Gram) (t:List Nod) (hg:ZE g) (hl:t.length≤1048576) (hk:∀x∈t,x.kids.length≤1048576):Pu 61 [Gr g,Tr t] (· = YK (ZO g t)):=
 Pure.bor ((o61 g t hg hl hk []).mono fun v H' ⟨H1,⟨r,h1,h2⟩,h3⟩=>by
  subst h1;subst h2;subst h3
  exact bor_Ins ZZ rfl)
theorem q109 (g:Gram) (t:List Nod) (x:Int×ByteArray) (hg:ZE g) (hl:t.length≤1048576):Pu 109 [Gr g,Tr t,Ins x] (· = .tup [DfG (YI g t x) (Zf g t x),B (Y6 g t x)]):=
 Pure.bor ((o109 g t x hg hl []).mono fun v H' ⟨H1,⟨r,h1,h2⟩,h3⟩=>by
  subst h1;subst h2;subst h3
  exact .tup (.cons (bor_Df ZZ rfl) (.cons .refl .nil)))
end Go.Proofs.YtkmedfejmndmjaaGreat
