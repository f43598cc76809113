/- The laws FnTreeOrder and FnTreeCycle return true whatever the input, and the input reads behind the call as before. No condition. -/
import Derived.Test.YtofcbmnplanmkaaGreatFoc2
set_option maxHeartbeats 40000000
set_option linter.unusedSimpArgs false
set_option linter.unusedVariables false
namespace Go.Proofs.YtofcbmnplanmkaaGreat
open Go.Gh
open Nat (reduceEqDiff reduceLeDiff reduceAdd reduceLT)
open Int (reduceNe)
set_option maxRecDepth 20000
set_option linter.unusedSimpArgs false
set_option linter.unusedVariables false
end Go.Proofs.YtofcbmnplanmkaaGreat
namespace Go.Proofs.YtofcbmnplanmkaaGreat
open Go.Gh
open Nat (reduceEqDiff reduceLeDiff reduceAdd reduceLT)
open Int (reduceNe)
set_option maxRecDepth 20000
set_option linter.unusedSimpArgs false
set_option linter.unusedVariables false
theorem o90:∀(e:Exp),wEx e≤1048576→∀H,Gc 90 [Ex e] H (fun g H'=>∃r,g = .agg [I e.kind,I e.n,I e.pos,I e.type,T e.sym,T e.name,.own r 7 0 e.args.length]∧H'=(r,7,e.args.map ExO)::H):=by
 refine Exp.indA fun e ih hw H=> ?_
 obtain ⟨hl,ha⟩:=args_small hw
 have h0:Gc 90 [Ex e] H (fun g H'=>∃r r0 u,¬r=r0∧g = .agg [I e.kind,I e.n,I e.pos,I e.type,T e.sym,T e.name,.own r 7 0 e.args.length]∧H'=(r,7,e.args.map ExO)::(r0,7,u)::H):=by
  rw [Y4]
  refine ZV mxd i90 rfl (by simp) ?_;refine X0 ?_
  (refine V0 ?_;with_reducible repeat' first|exact trivial|intro h|refine aO ?_|refine eO ?_|apply jO)
  rename_i rb
  obtain ⟨q0,ho,hq⟩:=vfresh (names ((rb,7,[GV.agg [I e.kind,I e.n,I e.pos,I e.type,T e.sym,T e.name,ExS e.args]])::H))
  refine YO mxd (ι:={ y:Nat×Nat // y.2≤e.args.length }) (fun y=>[(1,.ptr rb 7 0 0),(2,.raw 7),(3,.own y.1.1 7 0 y.1.2),(7,ExS e.args),(8,I e.args.length),(9,I y.1.2)]) (fun y=>(y.1.1,7,(e.args.take y.1.2).map ExO)::(rb,7,[.agg [I e.kind,I e.n,I e.pos,I e.type,T e.sym,T e.name,ExS e.args]])::H) (fun y=>e.args.length-y.1.2) ⟨(q0,0),by simp⟩ (FE.virt (j:=3) (sz:=7) rfl ho hq) (by simp [E2,eset]) rfl ?_
  rintro ⟨⟨q,k⟩,hk⟩ hn
  dsimp only at hk hn ⊢
  refine Zw mxd ?_
  replace hn:=Z4 hn
  (replace hn:=hn;simp only [VN] at hn)
  rcases nL k e.args.length with hlt|hge
  ·(refine V1 (jO hn (jO @XE (jO @List.length_append.{0} (jO @List.length_singleton.{0} (jO @List.length_map.{0,0} (jO @List.length_take.{0} @ZP)))))) ?_;with_reducible repeat' first|exact trivial|intro h|refine aO ?_|refine eO ?_|apply jO)
   all_goals try exact oF
   refine callS.of (ih e.args[k] (gM _) (ha _ (gM _)) _) ?_
   rintro g H' ⟨rc,rfl,rfl⟩ hnc
   replace hnc:=Z4 hnc
   (replace hnc:=hnc;simp only [VN] at hnc)
   (refine V1 (jO hn (jO hnc (jO @List.length_append.{0} (jO @List.length_singleton.{0} (jO @List.length_map.{0,0} (jO @List.length_take.{0} @ZP)))))) ?_;with_reducible repeat' first|exact trivial|intro h|refine aO ?_|refine eO ?_|apply jO)
   all_goals try exact oF
   rename_i r3 _ r4
   refine nxF ⟨(r4,k+1),by omega⟩ (by simp;omega) (FE.trans (FE.perm (H:=[_,_,_,_]) (L:=[(r4,_),(rc,_),(rb,_)]) (by repeat' (first|exact trivial|(refine And.intro (by simp only [Z9, *,if_true,if_false];try rfl) (And.intro (by simp [ZS,ZR, *]) ?_))))) (FE.closeL2 (j:=6) (by simp [*]) rfl (by simp))) (by simp [E2]) ?_
   rw [tL (by simp;omega),←take_snocM ExO hlt,ExO_eq]
   rfl
  ·obtain rfl:k=e.args.length:=by omega
   (refine V1 (jO hn (jO @XE @ZP)) ?_;with_reducible repeat' first|exact trivial|intro h|refine aO ?_|refine eO ?_|apply jO)
   all_goals try exact oF
   rw [List.take_length]
   exact ⟨q,rb,_,hn.1.1,rfl,rfl⟩
 refine h0.fr ?_
 rintro g H' ⟨r,r0,u,hne,rfl,rfl⟩
 exact ⟨_,_,FR.perm (H:=[_,_]) (L:=[(r,7,e.args.map ExO)]) (by simp [subH,ZW,names]),r,rfl,rfl⟩
theorem w60 (r:Rul) (o:Int×ByteArray) (hr:smRu r):Pu 60 [Ru r,Occ o] (· = .tup [Ex (YU r o),B (eqnF r o).isSome]):=by
 refine Pure.bor ?_
 have hlen:=hr.2.1
 refine ZV mxd i60 rfl (by simp) ?_;refine X0 ?_
 refine ZC mxd (ι:={ i:Nat // i≤r.eqs.length∧∀y∈r.eqs.take i,decide (y.pos=o.1∧y.name=o.2)=false }) (fun i=>[(2,.rop 6 (Ru r)),(3,.rop 2 (Occ o)),(4,.raw 7),(6,I i.1)]) (fun _ => []) (fun i=>r.eqs.length-i.1) ⟨0,by simp⟩ (by simp [E2]) rfl ?_
 rintro ⟨i,hi,hn⟩
 rcases nL i r.eqs.length with hlt|hge
 ·by_cases he:r.eqs[i].pos = o.1∧r.eqs[i].name = o.2
  ·(refine V1 (jO @XE (jO he (jO @and_self @decide_true))) ?_;with_reducible repeat' first|exact trivial|intro h|refine aO ?_|refine eO ?_|apply jO)
   all_goals try exact oF
   refine callS.eq (w92 r.eqs[i].expr (hr.2.2.2.1 _ (gM _))) ?_
   (refine V1 @XE ?_;with_reducible repeat' first|exact trivial|intro h|refine aO ?_|refine eO ?_|apply jO)
   have e:=Yr (p:=fun x:Eqn=>decide (x.pos=o.1∧x.name=o.2)) (xs:=r.eqs) (i:=i) hlt (by simp [he]) hn
   simp only [YU,eqnF,e]
   exact .refl
  ·(refine V1 @XE ?_;with_reducible repeat' first|exact trivial|intro h|refine aO ?_|refine eO ?_|apply jO)
   all_goals first
    | exact nx ⟨i+1,by omega,Zi hlt (by simp [he]) hn⟩ (by simp;omega) (by simp [E2]) rfl
    | (exfalso;omega)
    | (exfalso;exact he ⟨by assumption,by assumption⟩)
 ·have:i=r.eqs.length:=by omega
  subst this
  rw [tL (Nat.le_refl _)] at hn
  have e:=Yv hn
  (refine V1 @XE ?_;with_reducible repeat' first|exact trivial|intro h|refine aO ?_|refine eO ?_|apply jO)
  all_goals try exact oF
  simp only [YU,eqnF,e]
  exact .tup (.cons (.agg (.cons .refl (.cons .refl (.cons .refl (.cons .refl (.cons .refl (.cons .refl (.cons .nil .nil)))))))) (.cons .refl .nil))
theorem o58 (r:Rul) (o:Int×ByteArray) (hr:smRu r) (H:GH):Gc 58 [Ru r,Occ o] H (fun g H'=>∃q,g = .tup [.agg [I (YU r o).kind,I (YU r o).n,I (YU r o).pos,I (YU r o).type,T (YU r o).sym,T (YU r o).name,.own q 7 0 (YU r o).args.length],B (eqnF r o).isSome]∧H'=(q,7,(YU r o).args.map ExO)::H):=by
 have h0:Gc 58 [Ru r,Occ o] H (fun g H'=>(∃q,g = .tup [.agg [I (YU r o).kind,I (YU r o).n,I (YU r o).pos,I (YU r o).type,T (YU r o).sym,T (YU r o).name,.own q 7 0 (YU r o).args.length],B (eqnF r o).isSome]∧H'=(q,7,(YU r o).args.map ExO)::H)∨(eqnF r o=none∧g = .tup [.agg [I 0,I 0,I 0,I 0,T noS,T noS,.val (.slice none 0 0)],B false]∧H'=H)):=by
  have hlen:=hr.2.1
  refine ZV mxd i58 rfl (by simp) ?_;refine X0 ?_
  refine ZC mxd (ι:={ i:Nat // i≤r.eqs.length∧∀y∈r.eqs.take i,decide (y.pos=o.1∧y.name=o.2)=false }) (fun i=>[(3,.rop 2 (Occ o)),(4,.raw 7),(9,QnS r.eqs),(10,I r.eqs.length),(11,I i.1)]) (fun _ => H) (fun i=>r.eqs.length-i.1) ⟨0,by simp⟩ (by simp [E2]) rfl ?_
  rintro ⟨i,hi,hn⟩
  rcases nL i r.eqs.length with hlt|hge
  ·by_cases he:r.eqs[i].pos = o.1∧r.eqs[i].name = o.2
   ·(refine V1 (jO @XE (jO he (jO @and_self @decide_true))) ?_;with_reducible repeat' first|exact trivial|intro h|refine aO ?_|refine eO ?_|apply jO)
    all_goals try exact oF
    refine callS.of (o90 r.eqs[i].expr (hr.2.2.2.1 _ (gM _)) _) ?_
    rintro g H' ⟨q,rfl,rfl⟩ hq
    (refine V1 @XE ?_;with_reducible repeat' first|exact trivial|intro h|refine aO ?_|refine eO ?_|apply jO)
    have e:=Yr (p:=fun x:Eqn=>decide (x.pos=o.1∧x.name=o.2)) (xs:=r.eqs) (i:=i) hlt (by simp [he]) hn
    simp only [YU,eqnF,e]
    exact .inl ⟨q,rfl,rfl⟩
   ·(refine V1 @XE ?_;with_reducible repeat' first|exact trivial|intro h|refine aO ?_|refine eO ?_|apply jO)
    all_goals first
     | exact nx ⟨i+1,by omega,Zi hlt (by simp [he]) hn⟩ (by simp;omega) (by simp [E2]) rfl
     | (exfalso;omega)
     | (exfalso;exact he ⟨by assumption,by assumption⟩)
  ·have:i=r.eqs.length:=by omega
   subst this
   rw [tL (Nat.le_refl _)] at hn
   have e:=Yv hn
   (refine V1 @XE ?_;with_reducible repeat' first|exact trivial|intro h|refine aO ?_|refine eO ?_|apply jO)
   all_goals try exact oF
   exact .inr ⟨e,rfl⟩
 refine h0.fr ?_
 rintro g H' (⟨q,rfl,rfl⟩|⟨e,rfl,rfl⟩)
 ·exact ⟨_,_,FR.refl _ _,q,rfl,rfl⟩
 ·refine ⟨_,_,FR.trans (FR.addv (r:=YL H') (sz:=7) (vname_odd H') (vname_new H')) (FR.sub (.tup (.cons (.agg (nilL_bor (l:=[_,_,_,_,_,_]) (r:=YL H') (sz:=7))) (.cons .refl .nil)))),YL H',?_,?_⟩
  ·simp only [YU,e];rfl
  ·simp only [YU,e];rfl
theorem w24 (g:Gram) (t:List Nod) (x:Int×ByteArray) (hg:Zx g) (hl:t.length≤1048576):Pu 24 [Gr g,Tr t,Ins x] (· = .tup [DfG (defO g t x) (Zr g t x),B (Zg g t x)]):=by
 refine Pure.bor ?_
 have hz:Bor [] (.tup [.agg [I 0,I 0,I 0,I 0,I 0,T noS,T noS,.val (.slice none 0 0)],B false]) (.tup [DfG 0 expZ,B false]):= .tup (.cons (.agg (.cons .refl (.cons .refl (.cons .refl (.cons .refl (.cons .refl (.cons .refl (.cons .refl (.cons .nil .nil))))))))) (.cons .refl .nil))
 refine ZV mxd i24 rfl (by simp) ?_;refine X0 ?_
 refine callS.eq (w29 g t x hg) ?_
 (refine V0 ?_;with_reducible repeat' first|exact trivial|intro h|refine aO ?_|refine eO ?_|apply jO)
 refine callS.eq (w32 t x.1) ?_
 by_cases h1:hasN g t x.1 x.2=true
 ·obtain ⟨hi1,hi2⟩:=hasN_ix h1
  obtain ⟨n,hin⟩:∃n:Nat,Zs (fun y:Nod=>decide (y.id=x.1)) t=n:=⟨(Zs (fun y:Nod=>decide (y.id=x.1)) t).toNat,by omega⟩
  have hn:n<t.length:=by omega
  by_cases h2:(attN g t x.1 x.2).mode = 3
  ·have hB:Zg g t x=false:=by simp [Zg,h2]
   simp only [defO,Zr,hB]
   (refine V1 (jO h1 h2) ?_;with_reducible repeat' first|exact trivial|intro h|refine aO ?_|refine eO ?_|apply jO)
   all_goals first|exact hz|(exfalso;omega)
  by_cases h3:(attN g t x.1 x.2).mode = 1
  ·have ho:ownN g t x=(t[n].parent,t[n].place):=by simp only [ownN,if_pos h3,hin,Int.toNat_natCast];rw [ZQ hn]
   by_cases hr:0≤t[n].parent ∧ t[n].parent < t.length
   ·obtain ⟨m,hm⟩:∃m:Nat,t[n].parent = m:=⟨(t[n].parent).toNat,by omega⟩
    have hmt:m<t.length:=by omega
    have hrr:0≤(m:Int)∧(m:Int)≤t.length-1:=by omega
    have hgt:t.getD m nodZ=t[m]:=ZQ hmt
    (refine V1 (jO h1 (jO h2 (jO h3 hin))) ?_;with_reducible repeat' first|exact trivial|intro h|refine aO ?_|refine eO ?_|apply jO)
    all_goals try exact oF
    refine callS.eq (w51 _ _ _) ?_
    (refine V1 (jO hm hrr) ?_;with_reducible repeat' first|exact trivial|intro h|refine aO ?_|refine eO ?_|apply jO)
    all_goals try exact oF
    refine callS.eq (w59 g _ hg) ?_
    (refine V1 hm ?_;with_reducible repeat' first|exact trivial|intro h|refine aO ?_|refine eO ?_|apply jO)
    all_goals try exact oF
    refine callS.eq (w60 (Zo g.rules t[m].rule) (t[n].place,x.2) (smRu_f hg _)) ?_
    by_cases h5:(eqnF (Zo g.rules t[m].rule) (t[n].place,x.2)).isSome = true
    ·have hB:Zg g t x=true:=by simp [Zg,h1,h2,ho,hm,h5,hmt,hgt]
     have hE:Zr g t x=YU (Zo g.rules t[m].rule) (t[n].place,x.2):=by simp only [Zr,hB,if_true,ho,hm,Int.toNat_natCast,hgt]
     have hO:defO g t x=m:=by simp only [defO,hB,if_true,ho,hm]
     rw [hE,hO,hB]
     (refine V1 (jO h5 (jO hm @XE)) ?_;with_reducible repeat' first|exact trivial|intro h|refine aO ?_|refine eO ?_|apply jO)
     first|exact .refl | (rw [Y4];exact .refl)
    ·have h5':(eqnF (Zo g.rules t[m].rule) (t[n].place,x.2)).isSome = false:=by simpa using h5
     have hB:Zg g t x=false:=by simp only [Zg,ho,hm,Int.toNat_natCast,hgt,h5',Bool.and_false]
     simp only [defO,Zr,hB]
     (refine V1 (jO h5' @XE) ?_;with_reducible repeat' first|exact trivial|intro h|refine aO ?_|refine eO ?_|apply jO)
     exact hz
   ·have hr1:¬(0≤t[n].parent ∧ t[n].parent ≤ t.length-1):=by omega
    have hB:Zg g t x=false:=by simp only [Zg,ho,decide_eq_false hr,Bool.and_false,Bool.false_and]
    simp only [defO,Zr,hB]
    (refine V1 (jO h1 (jO h2 (jO h3 hin))) ?_;with_reducible repeat' first|exact trivial|intro h|refine aO ?_|refine eO ?_|apply jO)
    all_goals try exact oF
    refine callS.eq (w51 _ _ _) ?_
    (refine V1 hr1 ?_;with_reducible repeat' first|exact trivial|intro h|refine aO ?_|refine eO ?_|apply jO)
    exact hz
  ·have ho:ownN g t x=((n:Int),0):=by simp only [ownN,if_neg h3,hin]
   by_cases hr:0≤(n:Int)∧(n:Int)<t.length
   ·obtain ⟨m,hm⟩:∃m:Nat,(n:Int)=m:=⟨((n:Int)).toNat,by omega⟩
    have hmt:m<t.length:=by omega
    have hrr:0≤(m:Int)∧(m:Int)≤t.length-1:=by omega
    have hgt:t.getD m nodZ=t[m]:=ZQ hmt
    (refine V1 (jO h1 (jO h2 (jO h3 hin))) ?_;with_reducible repeat' first|exact trivial|intro h|refine aO ?_|refine eO ?_|apply jO)
    all_goals try exact oF
    refine callS.eq (w51 _ _ _) ?_
    (refine V1 (jO hm hrr) ?_;with_reducible repeat' first|exact trivial|intro h|refine aO ?_|refine eO ?_|apply jO)
    all_goals try exact oF
    refine callS.eq (w59 g _ hg) ?_
    (refine V1 hm ?_;with_reducible repeat' first|exact trivial|intro h|refine aO ?_|refine eO ?_|apply jO)
    all_goals try exact oF
    refine callS.eq (w60 (Zo g.rules t[m].rule) ((0:Int),x.2) (smRu_f hg _)) ?_
    by_cases h5:(eqnF (Zo g.rules t[m].rule) ((0:Int),x.2)).isSome = true
    ·have hB:Zg g t x=true:=by simp [Zg,h1,h2,ho,hm,h5,hmt,hgt]
     have hE:Zr g t x=YU (Zo g.rules t[m].rule) ((0:Int),x.2):=by simp only [Zr,hB,if_true,ho,hm,Int.toNat_natCast,hgt]
     have hO:defO g t x=m:=by simp only [defO,hB,if_true,ho,hm]
     rw [hE,hO,hB]
     (refine V1 (jO h5 (jO hm @XE)) ?_;with_reducible repeat' first|exact trivial|intro h|refine aO ?_|refine eO ?_|apply jO)
     first|exact .refl | (rw [Y4];exact .refl)
    ·have h5':(eqnF (Zo g.rules t[m].rule) ((0:Int),x.2)).isSome = false:=by simpa using h5
     have hB:Zg g t x=false:=by simp only [Zg,ho,hm,Int.toNat_natCast,hgt,h5',Bool.and_false]
     simp only [defO,Zr,hB]
     (refine V1 (jO h5' @XE) ?_;with_reducible repeat' first|exact trivial|intro h|refine aO ?_|refine eO ?_|apply jO)
     exact hz
   ·exfalso;omega
 ·have h1':hasN g t x.1 x.2=false:=by simpa using h1
  have hB:Zg g t x=false:=by simp [Zg,h1']
  simp only [defO,Zr,hB]
  (refine V1 h1' ?_;with_reducible repeat' first|exact trivial|intro h|refine aO ?_|refine eO ?_|apply jO)
  all_goals first|exact hz|(exfalso;omega)
theorem o23 (g:Gram) (t:List Nod) (x:Int×ByteArray) (hg:Zx g) (hl:t.length≤1048576) (H:GH):Gc 23 [Gr g,Tr t,Ins x] H (fun v H'=>∃H1,(∃q,v = .tup [.agg [I (defO g t x),I (Zr g t x).kind,I (Zr g t x).n,I (Zr g t x).pos,I (Zr g t x).type,T (Zr g t x).sym,T (Zr g t x).name,.own q 7 0 (Zr g t x).args.length],B (Zg g t x)]∧H1=[(q,7,(Zr g t x).args.map ExO)])∧H'=H1++H):=by
 have h0:Gc 23 [Gr g,Tr t,Ins x] H (fun v H'=>(Zg g t x=true∧∃q H2,v = .tup [.agg [I (defO g t x),I (Zr g t x).kind,I (Zr g t x).n,I (Zr g t x).pos,I (Zr g t x).type,T (Zr g t x).sym,T (Zr g t x).name,.own q 7 0 (Zr g t x).args.length],B true]∧H'=((q,7,(Zr g t x).args.map ExO)::H2)++H)∨(Zg g t x=false∧v = .tup [.agg [I 0,I 0,I 0,I 0,I 0,T noS,T noS,.val (.slice none 0 0)],B false]∧∃H2,H'=H2++H)):=by
  refine ZV mxd i23 rfl (by simp) ?_;refine X0 ?_
  refine callS.eq (w54 g t x hg) ?_
  by_cases h1:hasN g t x.1 x.2=true
  ·obtain ⟨hi1,hi2⟩:=hasN_ix h1
   obtain ⟨n,hin⟩:∃n:Nat,Zs (fun y:Nod=>decide (y.id=x.1)) t=n:=⟨(Zs (fun y:Nod=>decide (y.id=x.1)) t).toNat,by omega⟩
   have hn:n<t.length:=by omega
   by_cases h2:(attN g t x.1 x.2).mode = 3
   ·have hB:Zg g t x=false:=by simp [Zg,h2]
    (refine V1 (jO h1 h2) ?_;with_reducible repeat' first|exact trivial|intro h|refine aO ?_|refine eO ?_|apply jO)
    all_goals first|exact .inr ⟨hB,rfl,[],rfl⟩|(exfalso;omega)
   (refine V1 (jO h1 h2) ?_;with_reducible repeat' first|exact trivial|intro h|refine aO ?_|refine eO ?_|apply jO)
   all_goals try exact oF
   refine callS.eq (w55 t x.1) ?_
   by_cases h3:(attN g t x.1 x.2).mode = 1
   ·have ho:ownN g t x=(t[n].parent,t[n].place):=by simp only [ownN,if_pos h3,hin,Int.toNat_natCast];rw [ZQ hn]
    by_cases hr:0≤t[n].parent ∧ t[n].parent < t.length
    ·obtain ⟨m,hm⟩:∃m:Nat,t[n].parent = m:=⟨(t[n].parent).toNat,by omega⟩
     have hmt:m<t.length:=by omega
     have hrr:0≤(m:Int)∧(m:Int)<t.length:=by omega
     have hgt:t.getD m nodZ=t[m]:=ZQ hmt
     (refine V1 (jO h1 (jO h2 (jO h3 hin))) ?_;with_reducible repeat' first|exact trivial|intro h|refine aO ?_|refine eO ?_|apply jO)
     all_goals try exact oF
     refine callS.eq (w56 t _) ?_
     (refine V1 (jO hm hrr) ?_;with_reducible repeat' first|exact trivial|intro h|refine aO ?_|refine eO ?_|apply jO)
     all_goals try exact oF
     refine callS.eq (w57 g _ hg) ?_
     (refine V1 hm ?_;with_reducible repeat' first|exact trivial|intro h|refine aO ?_|refine eO ?_|apply jO)
     all_goals try exact oF
     refine callS.of (o58 (Zo g.rules t[m].rule) (t[n].place,x.2) (smRu_f hg _) _) ?_
     rintro v H' ⟨q,rfl,rfl⟩ hq
     by_cases h5:(eqnF (Zo g.rules t[m].rule) (t[n].place,x.2)).isSome = true
     ·have hB:Zg g t x=true:=by simp [Zg,h1,h2,ho,hm,h5,hmt,hgt]
      have hE:Zr g t x=YU (Zo g.rules t[m].rule) (t[n].place,x.2):=by simp only [Zr,hB,if_true,ho,hm,Int.toNat_natCast,hgt]
      have hO:defO g t x=m:=by simp only [defO,hB,if_true,ho,hm]
      rw [hE,hO]
      (refine V1 (jO h5 hm) ?_;with_reducible repeat' first|exact trivial|intro h|refine aO ?_|refine eO ?_|apply jO)
      exact .inl ⟨hB,q,[_],rfl,rfl⟩
     ·have h5':(eqnF (Zo g.rules t[m].rule) (t[n].place,x.2)).isSome = false:=by simpa using h5
      have hB:Zg g t x=false:=by simp only [Zg,ho,hm,Int.toNat_natCast,hgt,h5',Bool.and_false]
      (refine V1 h5' ?_;with_reducible repeat' first|exact trivial|intro h|refine aO ?_|refine eO ?_|apply jO)
      exact .inr ⟨hB,rfl,[_,_],rfl⟩
    ·have hB:Zg g t x=false:=by simp only [Zg,ho,decide_eq_false hr,Bool.and_false,Bool.false_and]
     (refine V1 (jO h1 (jO h2 (jO h3 hin))) ?_;with_reducible repeat' first|exact trivial|intro h|refine aO ?_|refine eO ?_|apply jO)
     all_goals try exact oF
     refine callS.eq (w56 t _) ?_
     (refine V1 hr ?_;with_reducible repeat' first|exact trivial|intro h|refine aO ?_|refine eO ?_|apply jO)
     exact .inr ⟨hB,rfl,[_],rfl⟩
   ·have ho:ownN g t x=((n:Int),0):=by simp only [ownN,if_neg h3,hin]
    by_cases hr:0≤(n:Int)∧(n:Int)<t.length
    ·obtain ⟨m,hm⟩:∃m:Nat,(n:Int)=m:=⟨((n:Int)).toNat,by omega⟩
     have hmt:m<t.length:=by omega
     have hrr:0≤(m:Int)∧(m:Int)<t.length:=by omega
     have hgt:t.getD m nodZ=t[m]:=ZQ hmt
     (refine V1 (jO h1 (jO h2 (jO h3 hin))) ?_;with_reducible repeat' first|exact trivial|intro h|refine aO ?_|refine eO ?_|apply jO)
     all_goals try exact oF
     refine callS.eq (w56 t _) ?_
     (refine V1 (jO hm hrr) ?_;with_reducible repeat' first|exact trivial|intro h|refine aO ?_|refine eO ?_|apply jO)
     all_goals try exact oF
     refine callS.eq (w57 g _ hg) ?_
     (refine V1 hm ?_;with_reducible repeat' first|exact trivial|intro h|refine aO ?_|refine eO ?_|apply jO)
     all_goals try exact oF
     refine callS.of (o58 (Zo g.rules t[m].rule) ((0:Int),x.2) (smRu_f hg _) _) ?_
     rintro v H' ⟨q,rfl,rfl⟩ hq
     by_cases h5:(eqnF (Zo g.rules t[m].rule) ((0:Int),x.2)).isSome = true
     ·have hB:Zg g t x=true:=by simp [Zg,h1,h2,ho,hm,h5,hmt,hgt]
      have hE:Zr g t x=YU (Zo g.rules t[m].rule) ((0:Int),x.2):=by simp only [Zr,hB,if_true,ho,hm,Int.toNat_natCast,hgt]
      have hO:defO g t x=m:=by simp only [defO,hB,if_true,ho,hm]
      rw [hE,hO]
      (refine V1 (jO h5 hm) ?_;with_reducible repeat' first|exact trivial|intro h|refine aO ?_|refine eO ?_|apply jO)
      exact .inl ⟨hB,q,[_],rfl,rfl⟩
     ·have h5':(eqnF (Zo g.rules t[m].rule) ((0:Int),x.2)).isSome = false:=by simpa using h5
      have hB:Zg g t x=false:=by simp only [Zg,ho,hm,Int.toNat_natCast,hgt,h5',Bool.and_false]
      (refine V1 h5' ?_;with_reducible repeat' first|exact trivial|intro h|refine aO ?_|refine eO ?_|apply jO)
      exact .inr ⟨hB,rfl,[_,_],rfl⟩
    ·exfalso;omega
  ·have h1':hasN g t x.1 x.2=false:=by simpa using h1
   have hB:Zg g t x=false:=by simp [Zg,h1']
   (refine V1 h1' ?_;with_reducible repeat' first|exact trivial|intro h|refine aO ?_|refine eO ?_|apply jO)
   all_goals first|exact .inr ⟨hB,rfl,[],rfl⟩|(exfalso;omega)
 refine h0.fr ?_
 rintro v H' (⟨hB,q,H2,rfl,rfl⟩|⟨hB,rfl,H2,rfl⟩)
 ·rw [hB]
  exact ⟨_,_,FR.perm (H:=(q,7,(Zr g t x).args.map ExO)::H2) (L:=[(q,7,(Zr g t x).args.map ExO)]) (by simp [subH,ZW,names]),_,⟨q,rfl,rfl⟩,rfl⟩
 ·have hE:Zr g t x=expZ:=by simp [Zr,hB]
  have hO:defO g t x=0:=by simp [defO,hB]
  rw [hB,hE,hO]
  refine ⟨_,_,FR.trans (FR.perm (H:=H2) (L:=[]) trivial) (FR.trans (FR.addv (r:=YL ([]++H)) (sz:=7) (vname_odd _) (vname_new _)) (FR.sub (.tup (.cons (.agg (nilL_bor (l:=[_,_,_,_,_,_,_]) (r:=YL ([]++H)) (sz:=7))) (.cons .refl .nil))))),_,⟨YL ([]++H),rfl,rfl⟩,rfl⟩
theorem w76 (g:Gram) (t:List Nod) (hg:Zx g) (hl:t.length≤1048576) (hk:∀x∈t,x.kids.length≤1048576):Pu 76 [Gr g,Tr t] (· = B (YF g t (symN g t 0))):=by
 refine ZV mxd i76 rfl (by simp) ?_;refine X0 ?_
 (with_reducible repeat' first|refine callS.eq (w78 g t 0 hg) ?_|refine callS.eq (w109 g t _ hg hl hk) ?_|exact trivial|refine aO ?_|refine eO ?_|apply jO|refine K1 @ZP ?_|intro h)
theorem o13 (g:Gram) (t:List Nod) (hg:Zx g) (hl:t.length≤1048576) (hk:∀x∈t,x.kids.length≤1048576) (H:GH):Gc 13 [Gr g,Tr t] H (fun v H'=>∃H1,(∃r,v = .own r 2 0 (insL g t).length ∧ H1=[(r,2,(insL g t).map Ins)])∧H'=H1++H):=by
 refine ZV mxd i13 rfl (by simp) ?_;refine X0 ?_
 (refine V0 ?_;with_reducible repeat' first|exact trivial|intro h|refine aO ?_|refine eO ?_|apply jO)
 rename_i r0
 refine callS.eq (w44 g t 0 hg) ?_
 (refine V0 ?_;with_reducible repeat' first|exact trivial|intro h|refine aO ?_|refine eO ?_|apply jO)
 refine callS.eq (w43 g t _ hg hl hk) ?_
 have hil:=insL_len hg t
 by_cases ht:YF g t (symN g t 0)=true
 ·have htl:=treeOf_len ht
  have hia:=insA_len hg t
  rw [insL,if_pos ht] at hil ⊢
  (refine V1 ht ?_;with_reducible repeat' first|exact trivial|intro h|refine aO ?_|refine eO ?_|apply jO)
  refine YY mxd (ι:={ y:Nat×Nat // y.2≤t.length }) (fun y=>[(2,.rop 2 (Gr g)),(3,.rop 1 (Tr t)),(5,.own y.1.1 2 0 (insA g t y.1.2).length),(6,I y.1.2)]) (fun y=>(y.1.1,2,(insA g t y.1.2).map Ins)::H) (fun y=>t.length-y.1.2) ⟨(r0,0),by simp⟩ (by simp [E2,insA]) (by simp [insA]) ?_
  rintro ⟨⟨q,i⟩,hi⟩ hn
  dsimp only at hi hn ⊢
  replace hn:=Z4 hn
  (replace hn:=hn;simp only [VN] at hn)
  rcases nL i t.length with hlt|hge
  ·(refine V1 hn ?_;with_reducible repeat' first|exact trivial|intro h|refine aO ?_|refine eO ?_|apply jO)
   all_goals try exact oF
   refine callS.eq (w44 g t i hg) ?_
   (refine V1 hn ?_;with_reducible repeat' first|exact trivial|intro h|refine aO ?_|refine eO ?_|apply jO)
   refine callS.eq (w45 g _ hg) ?_
   (refine V1 hn ?_;with_reducible repeat' first|exact trivial|intro h|refine aO ?_|refine eO ?_|apply jO)
   have hsl:(Y9 g.syms (symN g t i)).atts.length ≤ 1048576:=smSy_f hg _
   have hik:insK g t i=(Y9 g.syms (symN g t i)).atts.map fun a=>(t[i].id,a.name):=by simp only [insK];rw [ZQ hlt]
   have hai:=hia i
   generalize Y9 g.syms (symN g t i)=s at *
   refine YY mxd (ι:={ y:Nat×Nat // y.2≤s.atts.length }) (fun y=>[(2,.rop 2 (Gr g)),(3,.rop 1 (Tr t)),(5,.own y.1.1 2 0 ((insA g t i).length + y.1.2)),(6,I i),(7,.rop 2 (Sy s)),(9,I y.1.2)]) (fun y=>(y.1.1,2,(insA g t i++(insK g t i).take y.1.2).map Ins)::H) (fun y=>s.atts.length-y.1.2) ⟨(q,0),by simp⟩ (by simp [E2]) (by simp) ?_
   rintro ⟨⟨q2,k⟩,hk2⟩ hn2
   dsimp only at hk2 hn2 ⊢
   replace hn2:=Z4 hn2
   (replace hn2:=hn2;simp only [VN] at hn2)
   have hkl:(insK g t i).length = s.atts.length:=by rw [hik];simp
   rcases nL k s.atts.length with hlt2|hge2
   ·(refine V1 (jO hn2 (jO @List.length_append.{0} (jO @List.length_singleton.{0} (jO @List.length_map.{0,0} (jO @List.length_take.{0} @ZP))))) ?_;with_reducible repeat' first|exact trivial|intro h|refine aO ?_|refine eO ?_|apply jO)
    all_goals try exact oF
    rename_i r3 _ r4
    refine nxF ⟨(r4,k+1),by omega⟩ (by simp;omega) (FE.perm (H:=[_,_]) (L:=[(r4,_)]) (by repeat' (first|exact trivial|(refine And.intro (by simp only [Z9, *,if_true,if_false];try rfl) (And.intro (by simp [ZS,ZR, *]) ?_))))) (by simp [E2];omega) ?_
    have hk3:k<(insK g t i).length := by omega
    have hx:(insK g t i)[k]=(t[i].id,s.atts[k].name):=by simp only [hik,List.getElem_map]
    have e:=takeApp3 Ins (insA g t i) (insK g t i) k hk3 ((insA g t i).length + k) (by simp;omega)
    rw [hx] at e
    rw [←hik]
    exact congrArg (fun l=>(r4,2,l)::H) e
   ·obtain rfl:k=s.atts.length:=by omega
    (refine V1 (jO hn2 @ZP) ?_;with_reducible repeat' first|exact trivial|intro h|refine aO ?_|refine eO ?_|apply jO)
    all_goals try exact oF
    have ha:insA g t (i+1)=insA g t i++insK g t i:=rfl
    refine nx ⟨(q2,i+1),by omega⟩ (by simp;omega) (by simp [E2,ha,hkl]) ?_
    rw [ha,tL (by omega)]
  ·obtain rfl:i=t.length:=by omega
   (refine V1 hn ?_;with_reducible repeat' first|exact trivial|intro h|refine aO ?_|refine eO ?_|apply jO)
   all_goals try exact oF
   exact ⟨_,⟨q,rfl,rfl⟩,rfl⟩
 ·rw [insL,if_neg ht]
  have ht':YF g t (symN g t 0)=false:=by simpa using ht
  (refine V1 ht' ?_;with_reducible repeat' first|exact trivial|intro h|refine aO ?_|refine eO ?_|apply jO)
  exact ⟨_,⟨r0,rfl,rfl⟩,rfl⟩
theorem o41 (g:Gram) (t:List Nod) (hg:Zx g) (hl:t.length≤1048576) (hk:∀x∈t,x.kids.length≤1048576) (H:GH):Gc 41 [Gr g,Tr t] H (fun v H'=>∃H1,(∃r,v = .own r 2 0 (insL g t).length ∧ H1=[(r,2,(insL g t).map Ins)])∧H'=H1++H):=by
 refine ZV mxd i41 rfl (by simp) ?_;refine X0 ?_
 (refine V0 ?_;with_reducible repeat' first|exact trivial|intro h|refine aO ?_|refine eO ?_|apply jO)
 rename_i r0
 refine callS.eq (w76 g t hg hl hk) ?_
 have hil:=insL_len hg t
 by_cases ht:YF g t (symN g t 0)=true
 ·have htl:=treeOf_len ht
  have hia:=insA_len hg t
  rw [insL,if_pos ht] at hil ⊢
  (refine V1 ht ?_;with_reducible repeat' first|exact trivial|intro h|refine aO ?_|refine eO ?_|apply jO)
  refine YY mxd (ι:={ y:Nat×Nat // y.2≤t.length }) (fun y=>[(2,.rop 2 (Gr g)),(3,.rop 1 (Tr t)),(5,.own y.1.1 2 0 (insA g t y.1.2).length),(19,NdS t),(20,I t.length),(21,I y.1.2)]) (fun y=>(y.1.1,2,(insA g t y.1.2).map Ins)::H) (fun y=>t.length-y.1.2) ⟨(r0,0),by simp⟩ (by simp [E2,insA]) (by simp [insA]) ?_
  rintro ⟨⟨q,i⟩,hi⟩ hn
  dsimp only at hi hn ⊢
  replace hn:=Z4 hn
  (replace hn:=hn;simp only [VN] at hn)
  rcases nL i t.length with hlt|hge
  ·(refine V1 hn ?_;with_reducible repeat' first|exact trivial|intro h|refine aO ?_|refine eO ?_|apply jO)
   all_goals try exact oF
   refine callS.eq (w78 g t i hg) ?_
   (refine V1 hn ?_;with_reducible repeat' first|exact trivial|intro h|refine aO ?_|refine eO ?_|apply jO)
   refine callS.eq (w77 g _ hg) ?_
   (refine V1 hn ?_;with_reducible repeat' first|exact trivial|intro h|refine aO ?_|refine eO ?_|apply jO)
   have hsl:(Y9 g.syms (symN g t i)).atts.length ≤ 1048576:=smSy_f hg _
   have hik:insK g t i=(Y9 g.syms (symN g t i)).atts.map fun a=>(t[i].id,a.name):=by simp only [insK];rw [ZQ hlt]
   have hai:=hia i
   generalize Y9 g.syms (symN g t i)=s at *
   refine YY mxd (ι:={ y:Nat×Nat // y.2≤s.atts.length }) (fun y=>[(2,.rop 2 (Gr g)),(3,.rop 1 (Tr t)),(5,.own y.1.1 2 0 ((insA g t i).length + y.1.2)),(19,NdS t),(20,I t.length),(21,I i),(7,.rop 6 (Nd t[i])),(36,AtS s.atts),(37,I s.atts.length),(38,I y.1.2)]) (fun y=>(y.1.1,2,(insA g t i++(insK g t i).take y.1.2).map Ins)::H) (fun y=>s.atts.length-y.1.2) ⟨(q,0),by simp⟩ (by simp [E2]) (by simp) ?_
   rintro ⟨⟨q2,k⟩,hk2⟩ hn2
   dsimp only at hk2 hn2 ⊢
   replace hn2:=Z4 hn2
   (replace hn2:=hn2;simp only [VN] at hn2)
   have hkl:(insK g t i).length = s.atts.length:=by rw [hik];simp
   rcases nL k s.atts.length with hlt2|hge2
   ·(refine V1 (jO hn2 (jO @List.length_append.{0} (jO @List.length_singleton.{0} (jO @List.length_map.{0,0} (jO @List.length_take.{0} @ZP))))) ?_;with_reducible repeat' first|exact trivial|intro h|refine aO ?_|refine eO ?_|apply jO)
    all_goals try exact oF
    rename_i r3 _ r4
    refine nxF ⟨(r4,k+1),by omega⟩ (by simp;omega) (FE.perm (H:=[_,_]) (L:=[(r4,_)]) (by repeat' (first|exact trivial|(refine And.intro (by simp only [Z9, *,if_true,if_false];try rfl) (And.intro (by simp [ZS,ZR, *]) ?_))))) (by simp [E2];omega) ?_
    have hk3:k<(insK g t i).length := by omega
    have hx:(insK g t i)[k]=(t[i].id,s.atts[k].name):=by simp only [hik,List.getElem_map]
    have e:=takeApp3 Ins (insA g t i) (insK g t i) k hk3 ((insA g t i).length + k) (by simp;omega)
    rw [hx] at e
    rw [←hik]
    exact congrArg (fun l=>(r4,2,l)::H) e
   ·obtain rfl:k=s.atts.length:=by omega
    (refine V1 (jO hn2 @ZP) ?_;with_reducible repeat' first|exact trivial|intro h|refine aO ?_|refine eO ?_|apply jO)
    all_goals try exact oF
    have ha:insA g t (i+1)=insA g t i++insK g t i:=rfl
    refine nx ⟨(q2,i+1),by omega⟩ (by simp;omega) (by simp [E2,ha,hkl]) ?_
    rw [ha,tL (by omega)]
  ·obtain rfl:i=t.length:=by omega
   (refine V1 hn ?_;with_reducible repeat' first|exact trivial|intro h|refine aO ?_|refine eO ?_|apply jO)
   all_goals try exact oF
   exact ⟨_,⟨q,rfl,rfl⟩,rfl⟩
 ·rw [insL,if_neg ht]
  have ht':YF g t (symN g t 0)=false:=by simpa using ht
  (refine V1 ht' ?_;with_reducible repeat' first|exact trivial|intro h|refine aO ?_|refine eO ?_|apply jO)
  exact ⟨_,⟨r0,rfl,rfl⟩,rfl⟩
end Go.Proofs.YtofcbmnplanmkaaGreat
namespace Go.Proofs.YtofcbmnplanmkaaGreat
open Go.Gh
open Nat (reduceEqDiff reduceLeDiff reduceAdd reduceLT)
open Int (reduceNe)
set_option maxRecDepth 20000
set_option linter.unusedSimpArgs false
set_option linter.unusedVariables false
end Go.Proofs.YtofcbmnplanmkaaGreat
namespace Go.Proofs.YtofcbmnplanmkaaGreat
open Go.Gh
open Nat (reduceEqDiff reduceLeDiff reduceAdd reduceLT)
open Int (reduceNe)
set_option maxRecDepth 20000
set_option linter.unusedSimpArgs false
set_option linter.unusedVariables false
theorem q13 (g:Gram) (t:List Nod) (hg:Zx g) (hl:t.length≤1048576) (hk:∀x∈t,x.kids.length≤1048576):Pu 13 [Gr g,Tr t] (· = InsS (insL g t)):=
 Pure.bor ((o13 g t hg hl hk []).mono fun v H' ⟨H1,⟨r,h1,h2⟩,h3⟩=>by
  subst h1;subst h2;subst h3
  exact bor_Ins ZX rfl)
theorem q41 (g:Gram) (t:List Nod) (hg:Zx g) (hl:t.length≤1048576) (hk:∀x∈t,x.kids.length≤1048576):Pu 41 [Gr g,Tr t] (· = InsS (insL g t)):=
 Pure.bor ((o41 g t hg hl hk []).mono fun v H' ⟨H1,⟨r,h1,h2⟩,h3⟩=>by
  subst h1;subst h2;subst h3
  exact bor_Ins ZX rfl)
theorem q23 (g:Gram) (t:List Nod) (x:Int×ByteArray) (hg:Zx g) (hl:t.length≤1048576):Pu 23 [Gr g,Tr t,Ins x] (· = .tup [DfG (defO g t x) (Zr g t x),B (Zg g t x)]):=
 Pure.bor ((o23 g t x hg hl []).mono fun v H' ⟨H1,⟨r,h1,h2⟩,h3⟩=>by
  subst h1;subst h2;subst h3
  exact .tup (.cons (bor_Df ZX rfl) (.cons .refl .nil)))
theorem w148 (a b:Oc):Pu 148 [Occ a,Occ b] (· = B (ltO a b)):=by
 refine ZV mxd i148 rfl (by simp) ?_;refine X0 ?_
 (refine R0 ?_;with_reducible repeat' first|exact trivial|intro h|refine aO ?_|refine eO ?_|apply jO)
 ·simp [ltO,h]
 ·rename_i h0
  simp only [ltO,decide_eq_false h0,decide_eq_true h,Bool.false_or,Bool.true_and]
  rfl
 ·rename_i h0
  simp [ltO,h0,h]
theorem w118 (l:List Oc) (o:Oc) (hl:l.length≤4194304):Pu 118 [OcS l,Occ o] (· = OcS (putO l o)):=by
 refine Pure.bor ?_
 refine ZV mxd i118 rfl (by simp) ?_;refine X0 ?_
 refine ZC mxd (ι:={ i:Nat // i≤l.length∧∀a∈l.take i,ltO a o=true }) (fun i=>[(0,OcS l),(3,.rop 2 (Occ o)),(5,I i.1)]) (fun _ => []) (fun i=>l.length-i.1) ⟨0,by simp⟩ (by simp [E2]) rfl ?_
 rintro ⟨i,hi,hp⟩
 have hsl:(l.take i).length = i:=by simp;omega
 rcases nL i l.length with h|h
 ·(refine V1 @XE ?_;with_reducible repeat' first|exact trivial|intro h|refine aO ?_|refine eO ?_|apply jO)
  all_goals try exact oF
  refine callS.eq (w148 _ _) ?_
  by_cases hb:ltO l[i] o=true
  ·(refine V1 hb ?_;with_reducible repeat' first|exact trivial|intro h|refine aO ?_|refine eO ?_|apply jO)
   exact nx ⟨i+1,by omega,take_all_step (p:=fun a=>ltO a o) h hb hp⟩ (by simp;omega) (by simp [E2]) rfl
  ·have hb':ltO l[i] o=false:=by simpa using hb
   have ha:atO l o=i:=atO_of hi hp (fun _ => hb')
   have hpt:putO l o=if l[i]=o then l else l.take i++o::l.drop i:=by
    simp only [putO,ha,List.getElem?_eq_getElem h,Option.some.injEq]
   by_cases he:l[i]=o
   ·have he1:l[i].1 = o.1:=by rw [he]
    have he2:l[i].2 = o.2:=by rw [he]
    (refine V1 (jO hb' (jO he1 he2)) ?_;with_reducible repeat' first|exact trivial|intro h|refine aO ?_|refine eO ?_|apply jO)
    all_goals try exact oF
    rw [hpt,if_pos he]
    exact .refl
   ·rw [hpt,if_neg he]
    (refine V1 (jO hb' (jO @List.length_append.{0} (jO @List.length_singleton.{0} (jO @List.length_map.{0,0} (jO @List.length_take.{0} (jO @List.length_drop.{0} @ZP)))))) ?_;with_reducible repeat' first|exact trivial|intro h|refine aO ?_|refine eO ?_|apply jO)
    all_goals first
     | (exfalso;exact he (Prod.ext (by assumption) (by assumption)))
     | (rw [putM hi,putN (o:=o) hi];exact Bor.allM (fun _ => rfl) ZX rfl)
     | (exfalso;omega)
 ·have hil:i=l.length:=by omega
  have ha:atO l o=i:=atO_of hi hp (fun h=>absurd h (by omega))
  have hpt:putO l o=l.take i++o::l.drop i:=by
   simp only [putO,ha,List.getElem?_eq_none (by omega:l.length≤i)]
   rfl
  rw [hpt]
  have hni:¬i<l.length:=by omega
  ((try refine qI ?_);(repeat ((first|with_reducible refine qU ?_ | simp only [Z6]);try simp (maxSteps:=9^7) +contextual only [↓ S2,S2,↓reduceIte,reduceNe,reduceEqDiff,reduceCtorEq,reduceLeDiff,reduceAdd,reduceLT,VQ,hni,List.length_append,List.length_singleton,List.length_map,List.length_take,List.length_drop,ZP]));(try simp +contextual (disch:=omega) only [Z2,hni,List.length_append,List.length_singleton,List.length_map,List.length_take,List.length_drop,ZP]);(with_reducible repeat' (first|intro h|refine And.intro (by omega) ?_ | refine exP (by omega) ?_ | apply And.intro)))
  all_goals first
   | (rw [putM hi,putN (o:=o) hi];exact Bor.allM (fun _ => rfl) ZX rfl)
   | (exfalso;omega)
theorem w98:∀(e:Exp) (l:List Oc),wEx e≤1048576→l.length+(1+wEx e)≤4194303→Pu 98 [Ex e,OcS l] (· = OcS (usE e l)):=by
 refine Exp.indA fun e ih l hw hb=> ?_
 obtain ⟨hal,haw⟩:=args_small hw
 have hwa:=wEx_args e
 rw [usE_eq]
 refine ZV mxd i98 rfl (by simp) ?_;refine X0 ?_
 by_cases hk:e.kind=3
 ·rw [if_pos hk]
  ·have hlp:=putO_len l (e.pos,e.name)
   (refine V1 (jO @XE hk) ?_;with_reducible repeat' first|exact trivial|intro h|refine aO ?_|refine eO ?_|apply jO)
   all_goals try exact oF
   refine callS.eq (w118 l (e.pos,e.name) (by omega)) ?_
   (refine V1 (jO @XE hk) ?_;with_reducible repeat' first|exact trivial|intro h|refine aO ?_|refine eO ?_|apply jO)
   refine ZC mxd (ι:={ i:Nat // i≤e.args.length }) (fun i=>[(1,OcS (usEL (e.args.take i.1) (putO l (e.pos,e.name)))),(2,.rop 7 (Ex e)),(5,I i.1)]) (fun _ => []) (fun i=>e.args.length-i.1) ⟨0,by omega⟩ (by simp [E2,usEL]) rfl ?_
   rintro ⟨i,hi⟩
   rcases nL i e.args.length with h|h
   ·have e1:=wExL_step h
    have e2:=wExL_take e.args (i+1)
    have e3:=usEL_len (e.args.take i) (putO l (e.pos,e.name))
    have e4:(e.args.take i).length = i:=by simp;omega
    (refine V1 @XE ?_;with_reducible repeat' first|exact trivial|intro h|refine aO ?_|refine eO ?_|apply jO)
    all_goals try exact oF
    refine callS.eq (ih e.args[i] (gM _) _ (haw _ (gM _)) (by omega)) ?_
    (refine V1 @XE ?_;with_reducible repeat' first|exact trivial|intro h|refine aO ?_|refine eO ?_|apply jO)
    exact nx ⟨i+1,by omega⟩ (by simp;omega) (by simp [E2,usEL_step h]) rfl
   ·obtain rfl:i=e.args.length:=by omega
    (refine V1 @XE ?_;with_reducible repeat' first|exact trivial|intro h|refine aO ?_|refine eO ?_|apply jO)
    all_goals try exact oF
    rw [List.take_length]
 ·rw [if_neg hk]
  ·(refine V1 (jO @XE hk) ?_;with_reducible repeat' first|exact trivial|intro h|refine aO ?_|refine eO ?_|apply jO)
   all_goals try exact oF
   refine ZC mxd (ι:={ i:Nat // i≤e.args.length }) (fun i=>[(1,OcS (usEL (e.args.take i.1) l)),(2,.rop 7 (Ex e)),(5,I i.1)]) (fun _ => []) (fun i=>e.args.length-i.1) ⟨0,by omega⟩ (by simp [E2,usEL]) rfl ?_
   rintro ⟨i,hi⟩
   rcases nL i e.args.length with h|h
   ·have e1:=wExL_step h
    have e2:=wExL_take e.args (i+1)
    have e3:=usEL_len (e.args.take i) l
    have e4:(e.args.take i).length = i:=by simp;omega
    (refine V1 @XE ?_;with_reducible repeat' first|exact trivial|intro h|refine aO ?_|refine eO ?_|apply jO)
    all_goals try exact oF
    refine callS.eq (ih e.args[i] (gM _) _ (haw _ (gM _)) (by omega)) ?_
    (refine V1 @XE ?_;with_reducible repeat' first|exact trivial|intro h|refine aO ?_|refine eO ?_|apply jO)
    exact nx ⟨i+1,by omega⟩ (by simp;omega) (by simp [E2,usEL_step h]) rfl
   ·obtain rfl:i=e.args.length:=by omega
    (refine V1 @XE ?_;with_reducible repeat' first|exact trivial|intro h|refine aO ?_|refine eO ?_|apply jO)
    all_goals try exact oF
    rw [List.take_length]
theorem w62 (e:Exp) (hw:wEx e≤1048576):Pu 62 [Ex e] (· = OcS (usE e [])):=by
 refine ZV mxd i62 rfl (by simp) ?_;refine X0 ?_
 (refine V1 @XE ?_;with_reducible repeat' first|exact trivial|intro h|refine aO ?_|refine eO ?_|apply jO)
 refine callS.of (Pure.froz (w98 e [] hw (by simp;omega)) (.cons .refl (.cons (Bor.allM (l:=([]:List Oc)) (f:=Occ) (fun _ => rfl) ZX rfl) .nil))) ?_
 rintro g H' ⟨rfl,rfl⟩ -
 (refine V1 @XE ?_;with_reducible repeat' first|exact trivial|intro h|refine aO ?_|refine eO ?_|apply jO)
end Go.Proofs.YtofcbmnplanmkaaGreat
