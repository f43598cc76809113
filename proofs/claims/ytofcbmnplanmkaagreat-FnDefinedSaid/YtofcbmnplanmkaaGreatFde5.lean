/- The law FnDefined returns true whatever the input, and the input reads behind the call as before. No condition. -/
import Derived.Test.YtofcbmnplanmkaaGreatFde4
set_option maxHeartbeats 40000000
set_option linter.unusedSimpArgs false
set_option linter.unusedVariables false
namespace Go.Proofs.YtofcbmnplanmkaaGreat
open Go.Gh
open Nat (reduceEqDiff reduceLeDiff reduceAdd reduceLT)
open Int (reduceNe)
set_option maxRecDepth 20000
set_option linter.unusedSimpArgs false
set_option linter.unusedVariables false
theorem o90:∀(e:Exp),wEx e≤1048576→∀H,Gc 90 [Ex e] H (fun g H'=>∃r,g = .agg [I e.kind,I e.n,I e.pos,I e.type,T e.sym,T e.name,.own r 7 0 e.args.length]∧H'=(r,7,e.args.map ExO)::H):=by
 refine Exp.indA fun e ih hw H=> ?_
 obtain ⟨hl,ha⟩:=YK hw
 have h0:Gc 90 [Ex e] H (fun g H'=>∃r r0 u,¬r=r0∧g = .agg [I e.kind,I e.n,I e.pos,I e.type,T e.sym,T e.name,.own r 7 0 e.args.length]∧H'=(r,7,e.args.map ExO)::(r0,7,u)::H):=by
  rw [Y7]
  refine ZW mxd i90 rfl (by simp) ?_;refine X0 ?_
  (refine V0 ?_;with_reducible repeat' first|exact trivial|intro h|refine aO ?_|refine eO ?_|apply jO)
  rename_i rb
  obtain ⟨q0,ho,hq⟩:=vfresh (names ((rb,7,[GV.agg [I e.kind,I e.n,I e.pos,I e.type,T e.sym,T e.name,ExS e.args]])::H))
  refine YR mxd (ι:={ y:Nat×Nat // y.2≤e.args.length }) (fun y=>[(1,.ptr rb 7 0 0),(2,.raw 7),(3,.own y.1.1 7 0 y.1.2),(7,ExS e.args),(8,I e.args.length),(9,I y.1.2)]) (fun y=>(y.1.1,7,(e.args.take y.1.2).map ExO)::(rb,7,[.agg [I e.kind,I e.n,I e.pos,I e.type,T e.sym,T e.name,ExS e.args]])::H) (fun y=>e.args.length-y.1.2) ⟨(q0,0),by simp⟩ (FE.virt (j:=3) (sz:=7) rfl ho hq) (by simp [E2,eset]) rfl ?_
  rintro ⟨⟨q,k⟩,hk⟩ hn
  dsimp only at hk hn ⊢
  refine Zx mxd ?_
  replace hn:=Z0 hn
  (replace hn:=hn;simp only [VN] at hn)
  rcases nL k e.args.length with hlt|hge
  ·(refine V1 (jO hn (jO @XE (jO @List.length_append.{0} (jO @List.length_singleton.{0} (jO @List.length_map.{0,0} (jO @List.length_take.{0} @ZQ)))))) ?_;with_reducible repeat' first|exact trivial|intro h|refine aO ?_|refine eO ?_|apply jO)
   all_goals try exact oF
   refine callS.of (ih e.args[k] (gM _) (ha _ (gM _)) _) ?_
   rintro g H' ⟨rc,rfl,rfl⟩ hnc
   replace hnc:=Z0 hnc
   (replace hnc:=hnc;simp only [VN] at hnc)
   (refine V1 (jO hn (jO hnc (jO @List.length_append.{0} (jO @List.length_singleton.{0} (jO @List.length_map.{0,0} (jO @List.length_take.{0} @ZQ)))))) ?_;with_reducible repeat' first|exact trivial|intro h|refine aO ?_|refine eO ?_|apply jO)
   all_goals try exact oF
   rename_i r3 _ r4
   refine nxF ⟨(r4,k+1),by omega⟩ (by simp;omega) (FE.trans (FE.perm (H:=[_,_,_,_]) (L:=[(r4,_),(rc,_),(rb,_)]) (by repeat' (first|exact trivial|(refine And.intro (by simp only [Z9, *,if_true,if_false];try rfl) (And.intro (by simp [ZS,ZR, *]) ?_))))) (FE.closeL2 (j:=6) (by simp [*]) rfl (by simp))) (by simp [E2]) ?_
   rw [tL (by simp;omega),←take_snocM ExO hlt,ExO_eq]
   rfl
  ·obtain rfl:k=e.args.length:=by omega
   (refine V1 (jO hn (jO @XE @ZQ)) ?_;with_reducible repeat' first|exact trivial|intro h|refine aO ?_|refine eO ?_|apply jO)
   all_goals try exact oF
   rw [List.take_length]
   exact ⟨q,rb,_,hn.1.1,rfl,rfl⟩
 refine h0.fr ?_
 rintro g H' ⟨r,r0,u,hne,rfl,rfl⟩
 exact ⟨_,_,FR.perm (H:=[_,_]) (L:=[(r,7,e.args.map ExO)]) (by simp [subH,ZU,names]),r,rfl,rfl⟩
theorem w60 (r:Rul) (o:Int×ByteArray) (hr:YY r):Pu 60 [Ru r,Occ o] (· = .tup [Ex (YV r o),B (eqnF r o).isSome]):=by
 refine Pure.bor ?_
 have hlen:=hr.2.1
 refine ZW mxd i60 rfl (by simp) ?_;refine X0 ?_
 refine Zz mxd (ι:={ i:Nat // i≤r.eqs.length∧∀y∈r.eqs.take i,decide (y.pos=o.1∧y.name=o.2)=false }) (fun i=>[(2,.rop 6 (Ru r)),(3,.rop 2 (Occ o)),(4,.raw 7),(6,I i.1)]) (fun _ => []) (fun i=>r.eqs.length-i.1) ⟨0,by simp⟩ (by simp [E2]) rfl ?_
 rintro ⟨i,hi,hn⟩
 rcases nL i r.eqs.length with hlt|hge
 ·by_cases he:r.eqs[i].pos = o.1∧r.eqs[i].name = o.2
  ·(refine V1 (jO @XE (jO he (jO @and_self @decide_true))) ?_;with_reducible repeat' first|exact trivial|intro h|refine aO ?_|refine eO ?_|apply jO)
   all_goals try exact oF
   refine callS.eq (w92 r.eqs[i].expr (hr.2.2.2.1 _ (gM _))) ?_
   (refine V1 @XE ?_;with_reducible repeat' first|exact trivial|intro h|refine aO ?_|refine eO ?_|apply jO)
   have e:=Yy (p:=fun x:Eqn=>decide (x.pos=o.1∧x.name=o.2)) (xs:=r.eqs) (i:=i) hlt (by simp [he]) hn
   simp only [YV,eqnF,e]
   exact .refl
  ·(refine V1 @XE ?_;with_reducible repeat' first|exact trivial|intro h|refine aO ?_|refine eO ?_|apply jO)
   all_goals first
    | exact nx ⟨i+1,by omega,Y5 hlt (by simp [he]) hn⟩ (by simp;omega) (by simp [E2]) rfl
    | (exfalso;omega)
    | (exfalso;exact he ⟨by assumption,by assumption⟩)
 ·have:i=r.eqs.length:=by omega
  subst this
  rw [tL (Nat.le_refl _)] at hn
  have e:=YC hn
  (refine V1 @XE ?_;with_reducible repeat' first|exact trivial|intro h|refine aO ?_|refine eO ?_|apply jO)
  all_goals try exact oF
  simp only [YV,eqnF,e]
  exact .tup (.cons (.agg (.cons .refl (.cons .refl (.cons .refl (.cons .refl (.cons .refl (.cons .refl (.cons .nil .nil)))))))) (.cons .refl .nil))
theorem o58 (r:Rul) (o:Int×ByteArray) (hr:YY r) (H:GH):Gc 58 [Ru r,Occ o] H (fun g H'=>∃q,g = .tup [.agg [I (YV r o).kind,I (YV r o).n,I (YV r o).pos,I (YV r o).type,T (YV r o).sym,T (YV r o).name,.own q 7 0 (YV r o).args.length],B (eqnF r o).isSome]∧H'=(q,7,(YV r o).args.map ExO)::H):=by
 have h0:Gc 58 [Ru r,Occ o] H (fun g H'=>(∃q,g = .tup [.agg [I (YV r o).kind,I (YV r o).n,I (YV r o).pos,I (YV r o).type,T (YV r o).sym,T (YV r o).name,.own q 7 0 (YV r o).args.length],B (eqnF r o).isSome]∧H'=(q,7,(YV r o).args.map ExO)::H)∨(eqnF r o=none∧g = .tup [.agg [I 0,I 0,I 0,I 0,T noS,T noS,.val (.slice none 0 0)],B false]∧H'=H)):=by
  have hlen:=hr.2.1
  refine ZW mxd i58 rfl (by simp) ?_;refine X0 ?_
  refine Zz mxd (ι:={ i:Nat // i≤r.eqs.length∧∀y∈r.eqs.take i,decide (y.pos=o.1∧y.name=o.2)=false }) (fun i=>[(3,.rop 2 (Occ o)),(4,.raw 7),(9,QnS r.eqs),(10,I r.eqs.length),(11,I i.1)]) (fun _ => H) (fun i=>r.eqs.length-i.1) ⟨0,by simp⟩ (by simp [E2]) rfl ?_
  rintro ⟨i,hi,hn⟩
  rcases nL i r.eqs.length with hlt|hge
  ·by_cases he:r.eqs[i].pos = o.1∧r.eqs[i].name = o.2
   ·(refine V1 (jO @XE (jO he (jO @and_self @decide_true))) ?_;with_reducible repeat' first|exact trivial|intro h|refine aO ?_|refine eO ?_|apply jO)
    all_goals try exact oF
    refine callS.of (o90 r.eqs[i].expr (hr.2.2.2.1 _ (gM _)) _) ?_
    rintro g H' ⟨q,rfl,rfl⟩ hq
    (refine V1 @XE ?_;with_reducible repeat' first|exact trivial|intro h|refine aO ?_|refine eO ?_|apply jO)
    have e:=Yy (p:=fun x:Eqn=>decide (x.pos=o.1∧x.name=o.2)) (xs:=r.eqs) (i:=i) hlt (by simp [he]) hn
    simp only [YV,eqnF,e]
    exact .inl ⟨q,rfl,rfl⟩
   ·(refine V1 @XE ?_;with_reducible repeat' first|exact trivial|intro h|refine aO ?_|refine eO ?_|apply jO)
    all_goals first
     | exact nx ⟨i+1,by omega,Y5 hlt (by simp [he]) hn⟩ (by simp;omega) (by simp [E2]) rfl
     | (exfalso;omega)
     | (exfalso;exact he ⟨by assumption,by assumption⟩)
  ·have:i=r.eqs.length:=by omega
   subst this
   rw [tL (Nat.le_refl _)] at hn
   have e:=YC hn
   (refine V1 @XE ?_;with_reducible repeat' first|exact trivial|intro h|refine aO ?_|refine eO ?_|apply jO)
   all_goals try exact oF
   exact .inr ⟨e,rfl⟩
 refine h0.fr ?_
 rintro g H' (⟨q,rfl,rfl⟩|⟨e,rfl,rfl⟩)
 ·exact ⟨_,_,FR.refl _ _,q,rfl,rfl⟩
 ·refine ⟨_,_,FR.trans (FR.addv (r:=vname H') (sz:=7) (vname_odd H') (vname_new H')) (FR.sub (.tup (.cons (.agg (nilL_bor (l:=[_,_,_,_,_,_]) (r:=vname H') (sz:=7))) (.cons .refl .nil)))),vname H',?_,?_⟩
  ·simp only [YV,e];rfl
  ·simp only [YV,e];rfl
theorem w24 (g:Gram) (t:List Nod) (x:Int×ByteArray) (hg:Zw g) (hl:t.length≤1048576):Pu 24 [Gr g,Tr t,Ins x] (· = .tup [DfG (Y2 g t x) (Zo g t x),B (Zn g t x)]):=by
 refine Pure.bor ?_
 have hz:Bor [] (.tup [.agg [I 0,I 0,I 0,I 0,I 0,T noS,T noS,.val (.slice none 0 0)],B false]) (.tup [DfG 0 expZ,B false]):= .tup (.cons (.agg (.cons .refl (.cons .refl (.cons .refl (.cons .refl (.cons .refl (.cons .refl (.cons .refl (.cons .nil .nil))))))))) (.cons .refl .nil))
 refine ZW mxd i24 rfl (by simp) ?_;refine X0 ?_
 refine callS.eq (w29 g t x hg) ?_
 (refine V0 ?_;with_reducible repeat' first|exact trivial|intro h|refine aO ?_|refine eO ?_|apply jO)
 refine callS.eq (w32 t x.1) ?_
 by_cases h1:hasN g t x.1 x.2=true
 ·obtain ⟨hi1,hi2⟩:=hasN_ix h1
  obtain ⟨n,hin⟩:∃n:Nat,Zu (fun y:Nod=>decide (y.id=x.1)) t=n:=⟨(Zu (fun y:Nod=>decide (y.id=x.1)) t).toNat,by omega⟩
  have hn:n<t.length:=by omega
  by_cases h2:(attN g t x.1 x.2).mode = 3
  ·have hB:Zn g t x=false:=by simp [Zn,h2]
   simp only [Y2,Zo,hB]
   (refine V1 (jO h1 h2) ?_;with_reducible repeat' first|exact trivial|intro h|refine aO ?_|refine eO ?_|apply jO)
   all_goals first|exact hz|(exfalso;omega)
  by_cases h3:(attN g t x.1 x.2).mode = 1
  ·have ho:ownN g t x=(t[n].parent,t[n].place):=by simp only [ownN,if_pos h3,hin,Int.toNat_natCast];rw [ZJ hn]
   by_cases hr:0≤t[n].parent ∧ t[n].parent < t.length
   ·obtain ⟨m,hm⟩:∃m:Nat,t[n].parent = m:=⟨(t[n].parent).toNat,by omega⟩
    have hmt:m<t.length:=by omega
    have hrr:0≤(m:Int)∧(m:Int)≤t.length-1:=by omega
    have hgt:t.getD m Zq=t[m]:=ZJ hmt
    (refine V1 (jO h1 (jO h2 (jO h3 hin))) ?_;with_reducible repeat' first|exact trivial|intro h|refine aO ?_|refine eO ?_|apply jO)
    all_goals try exact oF
    refine callS.eq (w51 _ _ _) ?_
    (refine V1 (jO hm hrr) ?_;with_reducible repeat' first|exact trivial|intro h|refine aO ?_|refine eO ?_|apply jO)
    all_goals try exact oF
    refine callS.eq (w59 g _ hg) ?_
    (refine V1 hm ?_;with_reducible repeat' first|exact trivial|intro h|refine aO ?_|refine eO ?_|apply jO)
    all_goals try exact oF
    refine callS.eq (w60 (Zy g.rules t[m].rule) (t[n].place,x.2) (smRu_f hg _)) ?_
    by_cases h5:(eqnF (Zy g.rules t[m].rule) (t[n].place,x.2)).isSome = true
    ·have hB:Zn g t x=true:=by simp [Zn,h1,h2,ho,hm,h5,hmt,hgt]
     have hE:Zo g t x=YV (Zy g.rules t[m].rule) (t[n].place,x.2):=by simp only [Zo,hB,if_true,ho,hm,Int.toNat_natCast,hgt]
     have hO:Y2 g t x=m:=by simp only [Y2,hB,if_true,ho,hm]
     rw [hE,hO,hB]
     (refine V1 (jO h5 (jO hm @XE)) ?_;with_reducible repeat' first|exact trivial|intro h|refine aO ?_|refine eO ?_|apply jO)
     first|exact .refl | (rw [Y7];exact .refl)
    ·have h5':(eqnF (Zy g.rules t[m].rule) (t[n].place,x.2)).isSome = false:=by simpa using h5
     have hB:Zn g t x=false:=by simp only [Zn,ho,hm,Int.toNat_natCast,hgt,h5',Bool.and_false]
     simp only [Y2,Zo,hB]
     (refine V1 (jO h5' @XE) ?_;with_reducible repeat' first|exact trivial|intro h|refine aO ?_|refine eO ?_|apply jO)
     exact hz
   ·have hr1:¬(0≤t[n].parent ∧ t[n].parent ≤ t.length-1):=by omega
    have hB:Zn g t x=false:=by simp only [Zn,ho,decide_eq_false hr,Bool.and_false,Bool.false_and]
    simp only [Y2,Zo,hB]
    (refine V1 (jO h1 (jO h2 (jO h3 hin))) ?_;with_reducible repeat' first|exact trivial|intro h|refine aO ?_|refine eO ?_|apply jO)
    all_goals try exact oF
    refine callS.eq (w51 _ _ _) ?_
    (refine V1 hr1 ?_;with_reducible repeat' first|exact trivial|intro h|refine aO ?_|refine eO ?_|apply jO)
    exact hz
  ·have ho:ownN g t x=((n:Int),0):=by simp only [ownN,if_neg h3,hin]
   by_cases hr:0≤(n:Int)∧(n:Int)<t.length
   ·obtain ⟨m,hm⟩:∃m:Nat,(n:Int)=m:=⟨((n:Int)).toNat,by omega⟩
    have hmt:m<t.length:=by omega
    have hrr:0≤(m:Int)∧(m:Int)≤t.length-1:=by omega
    have hgt:t.getD m Zq=t[m]:=ZJ hmt
    (refine V1 (jO h1 (jO h2 (jO h3 hin))) ?_;with_reducible repeat' first|exact trivial|intro h|refine aO ?_|refine eO ?_|apply jO)
    all_goals try exact oF
    refine callS.eq (w51 _ _ _) ?_
    (refine V1 (jO hm hrr) ?_;with_reducible repeat' first|exact trivial|intro h|refine aO ?_|refine eO ?_|apply jO)
    all_goals try exact oF
    refine callS.eq (w59 g _ hg) ?_
    (refine V1 hm ?_;with_reducible repeat' first|exact trivial|intro h|refine aO ?_|refine eO ?_|apply jO)
    all_goals try exact oF
    refine callS.eq (w60 (Zy g.rules t[m].rule) ((0:Int),x.2) (smRu_f hg _)) ?_
    by_cases h5:(eqnF (Zy g.rules t[m].rule) ((0:Int),x.2)).isSome = true
    ·have hB:Zn g t x=true:=by simp [Zn,h1,h2,ho,hm,h5,hmt,hgt]
     have hE:Zo g t x=YV (Zy g.rules t[m].rule) ((0:Int),x.2):=by simp only [Zo,hB,if_true,ho,hm,Int.toNat_natCast,hgt]
     have hO:Y2 g t x=m:=by simp only [Y2,hB,if_true,ho,hm]
     rw [hE,hO,hB]
     (refine V1 (jO h5 (jO hm @XE)) ?_;with_reducible repeat' first|exact trivial|intro h|refine aO ?_|refine eO ?_|apply jO)
     first|exact .refl | (rw [Y7];exact .refl)
    ·have h5':(eqnF (Zy g.rules t[m].rule) ((0:Int),x.2)).isSome = false:=by simpa using h5
     have hB:Zn g t x=false:=by simp only [Zn,ho,hm,Int.toNat_natCast,hgt,h5',Bool.and_false]
     simp only [Y2,Zo,hB]
     (refine V1 (jO h5' @XE) ?_;with_reducible repeat' first|exact trivial|intro h|refine aO ?_|refine eO ?_|apply jO)
     exact hz
   ·exfalso;omega
 ·have h1':hasN g t x.1 x.2=false:=by simpa using h1
  have hB:Zn g t x=false:=by simp [Zn,h1']
  simp only [Y2,Zo,hB]
  (refine V1 h1' ?_;with_reducible repeat' first|exact trivial|intro h|refine aO ?_|refine eO ?_|apply jO)
  all_goals first|exact hz|(exfalso;omega)
theorem o23 (g:Gram) (t:List Nod) (x:Int×ByteArray) (hg:Zw g) (hl:t.length≤1048576) (H:GH):Gc 23 [Gr g,Tr t,Ins x] H (fun v H'=>∃H1,(∃q,v = .tup [.agg [I (Y2 g t x),I (Zo g t x).kind,I (Zo g t x).n,I (Zo g t x).pos,I (Zo g t x).type,T (Zo g t x).sym,T (Zo g t x).name,.own q 7 0 (Zo g t x).args.length],B (Zn g t x)]∧H1=[(q,7,(Zo g t x).args.map ExO)])∧H'=H1++H):=by
 have h0:Gc 23 [Gr g,Tr t,Ins x] H (fun v H'=>(Zn g t x=true∧∃q H2,v = .tup [.agg [I (Y2 g t x),I (Zo g t x).kind,I (Zo g t x).n,I (Zo g t x).pos,I (Zo g t x).type,T (Zo g t x).sym,T (Zo g t x).name,.own q 7 0 (Zo g t x).args.length],B true]∧H'=((q,7,(Zo g t x).args.map ExO)::H2)++H)∨(Zn g t x=false∧v = .tup [.agg [I 0,I 0,I 0,I 0,I 0,T noS,T noS,.val (.slice none 0 0)],B false]∧∃H2,H'=H2++H)):=by
  refine ZW mxd i23 rfl (by simp) ?_;refine X0 ?_
  refine callS.eq (w54 g t x hg) ?_
  by_cases h1:hasN g t x.1 x.2=true
  ·obtain ⟨hi1,hi2⟩:=hasN_ix h1
   obtain ⟨n,hin⟩:∃n:Nat,Zu (fun y:Nod=>decide (y.id=x.1)) t=n:=⟨(Zu (fun y:Nod=>decide (y.id=x.1)) t).toNat,by omega⟩
   have hn:n<t.length:=by omega
   by_cases h2:(attN g t x.1 x.2).mode = 3
   ·have hB:Zn g t x=false:=by simp [Zn,h2]
    (refine V1 (jO h1 h2) ?_;with_reducible repeat' first|exact trivial|intro h|refine aO ?_|refine eO ?_|apply jO)
    all_goals first|exact .inr ⟨hB,rfl,[],rfl⟩|(exfalso;omega)
   (refine V1 (jO h1 h2) ?_;with_reducible repeat' first|exact trivial|intro h|refine aO ?_|refine eO ?_|apply jO)
   all_goals try exact oF
   refine callS.eq (w55 t x.1) ?_
   by_cases h3:(attN g t x.1 x.2).mode = 1
   ·have ho:ownN g t x=(t[n].parent,t[n].place):=by simp only [ownN,if_pos h3,hin,Int.toNat_natCast];rw [ZJ hn]
    by_cases hr:0≤t[n].parent ∧ t[n].parent < t.length
    ·obtain ⟨m,hm⟩:∃m:Nat,t[n].parent = m:=⟨(t[n].parent).toNat,by omega⟩
     have hmt:m<t.length:=by omega
     have hrr:0≤(m:Int)∧(m:Int)<t.length:=by omega
     have hgt:t.getD m Zq=t[m]:=ZJ hmt
     (refine V1 (jO h1 (jO h2 (jO h3 hin))) ?_;with_reducible repeat' first|exact trivial|intro h|refine aO ?_|refine eO ?_|apply jO)
     all_goals try exact oF
     refine callS.eq (w56 t _) ?_
     (refine V1 (jO hm hrr) ?_;with_reducible repeat' first|exact trivial|intro h|refine aO ?_|refine eO ?_|apply jO)
     all_goals try exact oF
     refine callS.eq (w57 g _ hg) ?_
     (refine V1 hm ?_;with_reducible repeat' first|exact trivial|intro h|refine aO ?_|refine eO ?_|apply jO)
     all_goals try exact oF
     refine callS.of (o58 (Zy g.rules t[m].rule) (t[n].place,x.2) (smRu_f hg _) _) ?_
     rintro v H' ⟨q,rfl,rfl⟩ hq
     by_cases h5:(eqnF (Zy g.rules t[m].rule) (t[n].place,x.2)).isSome = true
     ·have hB:Zn g t x=true:=by simp [Zn,h1,h2,ho,hm,h5,hmt,hgt]
      have hE:Zo g t x=YV (Zy g.rules t[m].rule) (t[n].place,x.2):=by simp only [Zo,hB,if_true,ho,hm,Int.toNat_natCast,hgt]
      have hO:Y2 g t x=m:=by simp only [Y2,hB,if_true,ho,hm]
      rw [hE,hO]
      (refine V1 (jO h5 hm) ?_;with_reducible repeat' first|exact trivial|intro h|refine aO ?_|refine eO ?_|apply jO)
      exact .inl ⟨hB,q,[_],rfl,rfl⟩
     ·have h5':(eqnF (Zy g.rules t[m].rule) (t[n].place,x.2)).isSome = false:=by simpa using h5
      have hB:Zn g t x=false:=by simp only [Zn,ho,hm,Int.toNat_natCast,hgt,h5',Bool.and_false]
      (refine V1 h5' ?_;with_reducible repeat' first|exact trivial|intro h|refine aO ?_|refine eO ?_|apply jO)
      exact .inr ⟨hB,rfl,[_,_],rfl⟩
    ·have hB:Zn g t x=false:=by simp only [Zn,ho,decide_eq_false hr,Bool.and_false,Bool.false_and]
     (refine V1 (jO h1 (jO h2 (jO h3 hin))) ?_;with_reducible repeat' first|exact trivial|intro h|refine aO ?_|refine eO ?_|apply jO)
     all_goals try exact oF
     refine callS.eq (w56 t _) ?_
     (refine V1 hr ?_;with_reducible repeat' first|exact trivial|intro h|refine aO ?_|refine eO ?_|apply jO)
     exact .inr ⟨hB,rfl,[_],rfl⟩
   ·have ho:ownN g t x=((n:Int),0):=by simp only [ownN,if_neg h3,hin]
    by_cases hr:0≤(n:Int)∧(n:Int)<t.length
    ·obtain ⟨m,hm⟩:∃m:Nat,(n:Int)=m:=⟨((n:Int)).toNat,by omega⟩
     have hmt:m<t.length:=by omega
     have hrr:0≤(m:Int)∧(m:Int)<t.length:=by omega
     have hgt:t.getD m Zq=t[m]:=ZJ hmt
     (refine V1 (jO h1 (jO h2 (jO h3 hin))) ?_;with_reducible repeat' first|exact trivial|intro h|refine aO ?_|refine eO ?_|apply jO)
     all_goals try exact oF
     refine callS.eq (w56 t _) ?_
     (refine V1 (jO hm hrr) ?_;with_reducible repeat' first|exact trivial|intro h|refine aO ?_|refine eO ?_|apply jO)
     all_goals try exact oF
     refine callS.eq (w57 g _ hg) ?_
     (refine V1 hm ?_;with_reducible repeat' first|exact trivial|intro h|refine aO ?_|refine eO ?_|apply jO)
     all_goals try exact oF
     refine callS.of (o58 (Zy g.rules t[m].rule) ((0:Int),x.2) (smRu_f hg _) _) ?_
     rintro v H' ⟨q,rfl,rfl⟩ hq
     by_cases h5:(eqnF (Zy g.rules t[m].rule) ((0:Int),x.2)).isSome = true
     ·have hB:Zn g t x=true:=by simp [Zn,h1,h2,ho,hm,h5,hmt,hgt]
      have hE:Zo g t x=YV (Zy g.rules t[m].rule) ((0:Int),x.2):=by simp only [Zo,hB,if_true,ho,hm,Int.toNat_natCast,hgt]
      have hO:Y2 g t x=m:=by simp only [Y2,hB,if_true,ho,hm]
      rw [hE,hO]
      (refine V1 (jO h5 hm) ?_;with_reducible repeat' first|exact trivial|intro h|refine aO ?_|refine eO ?_|apply jO)
      exact .inl ⟨hB,q,[_],rfl,rfl⟩
     ·have h5':(eqnF (Zy g.rules t[m].rule) ((0:Int),x.2)).isSome = false:=by simpa using h5
      have hB:Zn g t x=false:=by simp only [Zn,ho,hm,Int.toNat_natCast,hgt,h5',Bool.and_false]
      (refine V1 h5' ?_;with_reducible repeat' first|exact trivial|intro h|refine aO ?_|refine eO ?_|apply jO)
      exact .inr ⟨hB,rfl,[_,_],rfl⟩
    ·exfalso;omega
  ·have h1':hasN g t x.1 x.2=false:=by simpa using h1
   have hB:Zn g t x=false:=by simp [Zn,h1']
   (refine V1 h1' ?_;with_reducible repeat' first|exact trivial|intro h|refine aO ?_|refine eO ?_|apply jO)
   all_goals first|exact .inr ⟨hB,rfl,[],rfl⟩|(exfalso;omega)
 refine h0.fr ?_
 rintro v H' (⟨hB,q,H2,rfl,rfl⟩|⟨hB,rfl,H2,rfl⟩)
 ·rw [hB]
  exact ⟨_,_,FR.perm (H:=(q,7,(Zo g t x).args.map ExO)::H2) (L:=[(q,7,(Zo g t x).args.map ExO)]) (by simp [subH,ZU,names]),_,⟨q,rfl,rfl⟩,rfl⟩
 ·have hE:Zo g t x=expZ:=by simp [Zo,hB]
  have hO:Y2 g t x=0:=by simp [Y2,hB]
  rw [hB,hE,hO]
  refine ⟨_,_,FR.trans (FR.perm (H:=H2) (L:=[]) trivial) (FR.trans (FR.addv (r:=vname ([]++H)) (sz:=7) (vname_odd _) (vname_new _)) (FR.sub (.tup (.cons (.agg (nilL_bor (l:=[_,_,_,_,_,_,_]) (r:=vname ([]++H)) (sz:=7))) (.cons .refl .nil))))),_,⟨vname ([]++H),rfl,rfl⟩,rfl⟩
end Go.Proofs.YtofcbmnplanmkaaGreat
namespace Go.Proofs.YtofcbmnplanmkaaGreat
open Go.Gh
open Nat (reduceEqDiff reduceLeDiff reduceAdd reduceLT)
open Int (reduceNe)
set_option maxRecDepth 20000
set_option linter.unusedSimpArgs false
set_option linter.unusedVariables false
theorem q13 (g:Gram) (t:List Nod) (hg:Zw g) (hl:t.length≤1048576) (hk:∀x∈t,x.kids.length≤1048576):Pu 13 [Gr g,Tr t] (· = InsS (insL g t)):=
 Pure.bor ((o13 g t hg hl hk []).mono fun v H' ⟨H1,⟨r,h1,h2⟩,h3⟩=>by
  subst h1;subst h2;subst h3
  exact bor_Ins ZX rfl)
theorem q23 (g:Gram) (t:List Nod) (x:Int×ByteArray) (hg:Zw g) (hl:t.length≤1048576):Pu 23 [Gr g,Tr t,Ins x] (· = .tup [DfG (Y2 g t x) (Zo g t x),B (Zn g t x)]):=
 Pure.bor ((o23 g t x hg hl []).mono fun v H' ⟨H1,⟨r,h1,h2⟩,h3⟩=>by
  subst h1;subst h2;subst h3
  exact .tup (.cons (bor_Df ZX rfl) (.cons .refl .nil)))
end Go.Proofs.YtofcbmnplanmkaaGreat
