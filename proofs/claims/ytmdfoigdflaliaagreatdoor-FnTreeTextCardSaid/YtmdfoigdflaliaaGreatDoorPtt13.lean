/- The tied card of the law holds. No condition. -/
import Derived.Test.YtmdfoigdflaliaaGreatDoorPtt4
import Derived.Test.YtmdfoigdflaliaaGreatDoorPtt11
import Derived.Test.YtmdfoigdflaliaaGreatDoorPtt12
set_option maxHeartbeats 40000000
set_option maxRecDepth 20000
set_option linter.unusedSimpArgs false
set_option linter.unusedVariables false
namespace Go.Proofs.YtmdfoigdflaliaaGreatDoor
open Go.Gh
open Nat (reduceEqDiff reduceLeDiff reduceAdd reduceLT)
open Int (reduceNe)
theorem s52 (g:Gram) (s:ByteArray) (room:Int) (id:Int) (hg:drG g) (hroom : -100000≤room∧room≤100000) (bnd:Rul→Nat) (B:Nat) (hB:∀r,okR g s room r→1+r.right.length * bnd r≤B) (hb1:∀r,bnd r≤100000)
 (ih:∀r,okR g s room r→∀c∈r.right,∀id,Dv Tryz.prog 52 [Gr g,T c,I (room.tdiv (max 1 (r.right.length:Int))-1),I id] (fun v=>∃t,goodT (bnd r) t∧v=Tr t)) :
 Dc Tryz.prog 52 [Gr g,T s,I room,I id] (fun v H1=>∃(q:Nat) (t:List Nod),goodT B t∧v = .agg [.own q 6 0 t.length]∧H1=[(q,6,t.map NdO)]):=by
 refine Dc.of fun rc H=> ?_
 refine ZN mxd i52 rfl (by simp) ?_;refine X0 ?_
 ((refine R1 (jO @Z9 (jO @Z8 @Z7)) ?_);(repeat' (have h:=Z0 h;simp only[Z1,ZY,Z3,ZZ,and_true,true_and] at h;(refine R1 (jO @Z9 (jO @Z8 (jO @Z7 h))) ?_;with_reducible repeat' first|exact trivial|intro h|refine aO ?_|refine eO ?_|apply jO))))
 refine callS.dv (w79 g s room hg) (by simp only[Z9, *,if_true,if_false]) ?_
 rintro _ ⟨r,hr,rfl⟩
 have ih:=ih r hr
 have hB:=hB r hr
 have hb1:=hb1 r
 have hr3:r.right.length≤3∧shT r.name:=by
  rcases hr.1 with rfl|h
  ·exact ⟨by simp[rulZ],by decide⟩
  ·exact ⟨hg.2.2.2 r h,(hg.1.2.2.2 r h).1⟩
 generalize bnd r=b0 at *
 ((refine R1 (jO @Z9 (jO @Z8 @Z7)) ?_;with_reducible repeat' first|intro h|apply jO);(repeat' (have h:=Z0 h;simp only[Z1,ZY,Z3,ZZ,and_true,true_and] at h;(refine R1 (jO @Z9 (jO @Z8 (jO @Z7 h))) ?_))))
 all_goals try exact oF
 ·rename_i rx hnx
  have h3:=Z0 hnx
  (replace h3:=h3;simp only[VN] at h3)
  refine callS.dv (wz47 9 (by omega)) (by simp only[Z9,h3,if_true,if_false]) ?_
  rintro _ ⟨lt,hlt,rfl⟩
  ((refine R1 (jO @Z9 (jO @Z8 (jO @Z7 h3))) ?_;with_reducible repeat' intro h);(repeat' (have h:=Z0 h;simp only[Z1,ZY,Z3,ZZ,and_true,true_and] at h;(refine R1 (jO @Z9 (jO @Z8 (jO @Z7 (jO h3 h)))) ?_))))
  rename_i rk _
  refine Zd mxd (ι:={ x:((Nat×List (List Nod))×Int)×Nat // x.2≤r.right.length∧x.1.1.2.length≤x.2∧∀t∈x.1.1.2,goodT b0 t }) (fun x=>[(0,.ptr rc 3 0 0),(3,I room),(6,.rop 2 (Gr g)),(10,.raw 1),(11,.rop 6 (RuB r true (QnS r.eqs) (CoS r.cons))),(12,.ptr rx 6 0 0),(13,I x.1.1.2),(14,.own x.1.1.1.1 1 0 x.1.1.1.2.length),(15,I x.1.2)]) (fun x=>(x.1.1.1.1,1,x.1.1.1.2.map Tr)::(rx,6,[.agg [I id,I 0,I 0,I ((lt:Int)-2),T r.name,ZE]])::(rc,3,[.cur])::H) (fun x=>r.right.length-x.1.2) ⟨(((rk,[]),IntKind.i64.wrap (id+1)),0),by simp⟩ FE.refl (by simp[E2]) rfl ?_
  rintro ⟨⟨⟨⟨q,ks⟩,nx1⟩,k⟩,hk,hkl,hks⟩ hn2
  dsimp only at hk hkl hks hn2 ⊢
  have h4:=Z0 hn2
  (replace h4:=h4;simp only[VN] at h4)
  refine ZD mxd ?_
  rcases nL k r.right.length with hlk|hgk
  ·have hq:=tdiv_rng hroom (b:=max 1 (r.right.length:Int)) (by omega)
   have hq1:¬max 1 (r.right.length:Int)=0:=by omega
   have ih1:=ih _ (gM hlk) nx1
   ((refine R1 (jO @Z9 (jO @Z8 (jO @Z7 h4))) ?_;with_reducible repeat' first|intro h|apply jO);(repeat' (have h:=Z0 h;simp only[Z1,ZY,Z3,ZZ,and_true,true_and] at h;(refine R1 (jO @Z9 (jO @Z8 (jO @Z7 (jO h4 h)))) ?_;with_reducible repeat' first|exact trivial|intro h|refine aO ?_|refine eO ?_|apply jO))))
   all_goals try exact oF
   refine callS.eq (w25 1 _) ?_
   generalize max 1 (r.right.length:Int)=mx at *
   have e1:=wrS (a:=room.tdiv mx) (by omega)
   have e2:=wrS (a:=room.tdiv mx-1) (by omega)
   ((refine R1 (jO @Z9 (jO @Z8 (jO @Z7 (jO h4 (jO e1 e2))))) ?_);(repeat' (have h:=Z0 h;simp only[Z1,ZY,Z3,ZZ,and_true,true_and] at h;(refine R1 (jO @Z9 (jO @Z8 (jO @Z7 (jO h4 (jO e1 (jO e2 h)))))) ?_;with_reducible repeat' first|exact trivial|intro h|refine aO ?_|refine eO ?_|apply jO))))
   all_goals try exact oF
   refine callA.dv ih1 (by simp only[Z9,h4,if_true,if_false]) ?_
   rintro _ ⟨t,ht,rfl⟩
   ((refine R1 (jO @Z9 (jO @Z8 (jO @Z7 (jO h4 (jO @List.length_append.{0} (jO @List.length_singleton.{0} (jO @List.length_map.{0,0} (jO @List.length_take.{0} @ZM)))))))) ?_;with_reducible repeat' intro h);(repeat' (have h:=Z0 h;simp only[Z1,ZY,Z3,ZZ,and_true,true_and] at h;(refine R1 (jO @Z9 (jO @Z8 (jO @Z7 (jO h4 (jO @List.length_append.{0} (jO @List.length_singleton.{0} (jO @List.length_map.{0,0} (jO @List.length_take.{0} (jO @ZM h))))))))) ?_;with_reducible repeat' intro h))))
   all_goals try exact oF
   rename_i r3 _ _ r4 _
   rw[tL (by simp)]
   exact nxF ⟨(((r4,ks++[t]),IntKind.i64.wrap (nx1+(t.length:Int))),k+1),by dsimp only;omega,by simp;omega,fun y hy=>(List.mem_append.1 hy).elim (hks y) fun h=>by
    rw[List.mem_singleton] at h;subst h;exact ht⟩ (by dsimp only;omega) (FE.perm (H:=[_,_,_,_]) (L:=[(r4,_),(rx,_),(rc,_)]) (by repeat' (first|exact trivial|(refine And.intro (by simp only[Z9, *,if_true,if_false];try rfl) (And.intro (by simp[ZR,ZP, *]) ?_))))) (by simp[E2]) (by simp)
  ·((refine R1 (jO @Z9 (jO @Z8 (jO @Z7 h4))) ?_;with_reducible repeat' intro h);(repeat' (have h:=Z0 h;simp only[Z1,ZY,Z3,ZZ,and_true,true_and] at h;(refine R1 (jO @Z9 (jO @Z8 (jO @Z7 (jO h4 h)))) ?_;with_reducible repeat' first|exact trivial|intro h|refine aO ?_|refine eO ?_|apply jO))))
   all_goals try exact oF
   refine callS.lend (fun H0=>o56 ⟨id,0,0,((lt:Int)-2),r.name,[]⟩ ZE ks (by omega) (fun t ht=>⟨by have:=(hks t ht).2.2;omega,(hks t ht).1⟩) hr3.2 H0) (.cons .refl (.cons (Bor.allM view_Tr (by simp only[Z9,h4,if_true,if_false]) rfl) .nil)) (by rintro v H1 ⟨q,t,_,_,rfl,rfl⟩;simp[noD,noDH,noDL_eq]) ?_
   rintro _ _ ⟨q9,t,ht1,ht2,rfl,rfl⟩ hn9
   have h9:=Z0 hn9
   simp only[List.cons_append,List.nil_append] at h9
   (replace h9:=h9;simp only[VN] at h9)
   ((refine R1 (jO @Z9 (jO @Z8 (jO @Z7 h9))) ?_);(repeat' (have h:=Z0 h;simp only[Z1,ZY,Z3,ZZ,and_true,true_and] at h;(refine R1 (jO @Z9 (jO @Z8 (jO @Z7 (jO h9 h)))) ?_;with_reducible repeat' first|exact trivial|intro h|refine aO ?_|refine eO ?_|apply jO))))
   have hsum:=sum_bnd (c:=b0) ks fun t ht=>(hks t ht).2.2
   have hmul:=Nat.mul_le_mul_right b0 (show ks.length≤r.right.length by omega)
   exact ⟨_,[(q9,6,t.map NdO)],[_,_,_,_],[],⟨q9,t,⟨ht1,by omega,by omega⟩,rfl,rfl⟩,.refl,rfl,(by repeat' (first|exact trivial|(refine And.intro (by simp only[Z9, *,if_true,if_false];try rfl) (And.intro (by simp[ZR,ZP, *]) ?_))))⟩
 ·rename_i rx _ _ rk _
  refine Zd mxd (ι:={ x:((Nat×List (List Nod))×Int)×Nat // x.2≤r.right.length∧x.1.1.2.length≤x.2∧∀t∈x.1.1.2,goodT b0 t }) (fun x=>[(0,.ptr rc 3 0 0),(3,I room),(6,.rop 2 (Gr g)),(10,.raw 1),(11,.rop 6 (RuB r false (QnS r.eqs) (CoS r.cons))),(12,.ptr rx 6 0 0),(13,I x.1.1.2),(14,.own x.1.1.1.1 1 0 x.1.1.1.2.length),(15,I x.1.2)]) (fun x=>(x.1.1.1.1,1,x.1.1.1.2.map Tr)::(rx,6,[.agg [I id,I 0,I 0,I 0,T r.name,ZE]])::(rc,3,[.cur])::H) (fun x=>r.right.length-x.1.2) ⟨(((rk,[]),IntKind.i64.wrap (id+1)),0),by simp⟩ FE.refl (by simp[E2]) rfl ?_
  rintro ⟨⟨⟨⟨q,ks⟩,nx1⟩,k⟩,hk,hkl,hks⟩ hn2
  dsimp only at hk hkl hks hn2 ⊢
  have h4:=Z0 hn2
  (replace h4:=h4;simp only[VN] at h4)
  refine ZD mxd ?_
  rcases nL k r.right.length with hlk|hgk
  ·have hq:=tdiv_rng hroom (b:=max 1 (r.right.length:Int)) (by omega)
   have hq1:¬max 1 (r.right.length:Int)=0:=by omega
   have ih1:=ih _ (gM hlk) nx1
   ((refine R1 (jO @Z9 (jO @Z8 (jO @Z7 h4))) ?_;with_reducible repeat' first|intro h|apply jO);(repeat' (have h:=Z0 h;simp only[Z1,ZY,Z3,ZZ,and_true,true_and] at h;(refine R1 (jO @Z9 (jO @Z8 (jO @Z7 (jO h4 h)))) ?_;with_reducible repeat' first|exact trivial|intro h|refine aO ?_|refine eO ?_|apply jO))))
   all_goals try exact oF
   refine callS.eq (w25 1 _) ?_
   generalize max 1 (r.right.length:Int)=mx at *
   have e1:=wrS (a:=room.tdiv mx) (by omega)
   have e2:=wrS (a:=room.tdiv mx-1) (by omega)
   ((refine R1 (jO @Z9 (jO @Z8 (jO @Z7 (jO h4 (jO e1 e2))))) ?_);(repeat' (have h:=Z0 h;simp only[Z1,ZY,Z3,ZZ,and_true,true_and] at h;(refine R1 (jO @Z9 (jO @Z8 (jO @Z7 (jO h4 (jO e1 (jO e2 h)))))) ?_;with_reducible repeat' first|exact trivial|intro h|refine aO ?_|refine eO ?_|apply jO))))
   all_goals try exact oF
   refine callA.dv ih1 (by simp only[Z9,h4,if_true,if_false]) ?_
   rintro _ ⟨t,ht,rfl⟩
   ((refine R1 (jO @Z9 (jO @Z8 (jO @Z7 (jO h4 (jO @List.length_append.{0} (jO @List.length_singleton.{0} (jO @List.length_map.{0,0} (jO @List.length_take.{0} @ZM)))))))) ?_;with_reducible repeat' intro h);(repeat' (have h:=Z0 h;simp only[Z1,ZY,Z3,ZZ,and_true,true_and] at h;(refine R1 (jO @Z9 (jO @Z8 (jO @Z7 (jO h4 (jO @List.length_append.{0} (jO @List.length_singleton.{0} (jO @List.length_map.{0,0} (jO @List.length_take.{0} (jO @ZM h))))))))) ?_;with_reducible repeat' intro h))))
   all_goals try exact oF
   rename_i r3 _ _ r4 _
   rw[tL (by simp)]
   exact nxF ⟨(((r4,ks++[t]),IntKind.i64.wrap (nx1+(t.length:Int))),k+1),by dsimp only;omega,by simp;omega,fun y hy=>(List.mem_append.1 hy).elim (hks y) fun h=>by
    rw[List.mem_singleton] at h;subst h;exact ht⟩ (by dsimp only;omega) (FE.perm (H:=[_,_,_,_]) (L:=[(r4,_),(rx,_),(rc,_)]) (by repeat' (first|exact trivial|(refine And.intro (by simp only[Z9, *,if_true,if_false];try rfl) (And.intro (by simp[ZR,ZP, *]) ?_))))) (by simp[E2]) (by simp)
  ·((refine R1 (jO @Z9 (jO @Z8 (jO @Z7 h4))) ?_;with_reducible repeat' intro h);(repeat' (have h:=Z0 h;simp only[Z1,ZY,Z3,ZZ,and_true,true_and] at h;(refine R1 (jO @Z9 (jO @Z8 (jO @Z7 (jO h4 h)))) ?_;with_reducible repeat' first|exact trivial|intro h|refine aO ?_|refine eO ?_|apply jO))))
   all_goals try exact oF
   refine callS.lend (fun H0=>o56 ⟨id,0,0,0,r.name,[]⟩ ZE ks (by omega) (fun t ht=>⟨by have:=(hks t ht).2.2;omega,(hks t ht).1⟩) hr3.2 H0) (.cons .refl (.cons (Bor.allM view_Tr (by simp only[Z9,h4,if_true,if_false]) rfl) .nil)) (by rintro v H1 ⟨q,t,_,_,rfl,rfl⟩;simp[noD,noDH,noDL_eq]) ?_
   rintro _ _ ⟨q9,t,ht1,ht2,rfl,rfl⟩ hn9
   have h9:=Z0 hn9
   simp only[List.cons_append,List.nil_append] at h9
   (replace h9:=h9;simp only[VN] at h9)
   ((refine R1 (jO @Z9 (jO @Z8 (jO @Z7 h9))) ?_);(repeat' (have h:=Z0 h;simp only[Z1,ZY,Z3,ZZ,and_true,true_and] at h;(refine R1 (jO @Z9 (jO @Z8 (jO @Z7 (jO h9 h)))) ?_;with_reducible repeat' first|exact trivial|intro h|refine aO ?_|refine eO ?_|apply jO))))
   have hsum:=sum_bnd (c:=b0) ks fun t ht=>(hks t ht).2.2
   have hmul:=Nat.mul_le_mul_right b0 (show ks.length≤r.right.length by omega)
   exact ⟨_,[(q9,6,t.map NdO)],[_,_,_,_],[],⟨q9,t,⟨ht1,by omega,by omega⟩,rfl,rfl⟩,.refl,rfl,(by repeat' (first|exact trivial|(refine And.intro (by simp only[Z9, *,if_true,if_false];try rfl) (And.intro (by simp[ZR,ZP, *]) ?_))))⟩
theorem z52 {g:Gram} {s:ByteArray} {room id:Int} {B:Nat} (h:Dc Tryz.prog 52 [Gr g,T s,I room,I id] (fun v H1=>∃(q:Nat) (t:List Nod),goodT B t∧v = .agg [.own q 6 0 t.length]∧H1=[(q,6,t.map NdO)])) :
 Dv Tryz.prog 52 [Gr g,T s,I room,I id] (fun v=>∃t,goodT B t∧v=Tr t):=
 h.frz fun g H1 ⟨q,t,h1,h2,h3⟩=>by
  subst h2 h3
  exact ⟨_,⟨t,h1,rfl⟩,bor_TrO⟩
theorem t52 (g:Gram) (hg:drG g):∀(h:Nat),h≤3→∀(s:ByteArray) (room id:Int),hAt g s≤h→(h:Int)-2000≤room→room<5 →
 Dc Tryz.prog 52 [Gr g,T s,I room,I id] (fun v H1=>∃(q:Nat) (t:List Nod),goodT (lowB h) t∧v = .agg [.own q 6 0 t.length]∧H1=[(q,6,t.map NdO)])
 | 0,_,s,room,id,hs,h1,h2=>by
  have hz:∀r,okR g s room r→r.right=[]:=fun r hr=>by
   rcases hr.2 h2 with rfl|h
   ·rfl
   ·cases e:r.right with
    | nil=>rfl
    | cons c l=>have:=h c (by rw[e];simp);have:=(hAt_rng g c).1;omega
  exact s52 g s room id hg (by omega) (fun _ => 0) 1 (fun r hr=>by rw[hz r hr];simp) (fun _ => by omega) fun r hr c hc=>by rw[hz r hr] at hc;cases hc
 | h+1,hh,s,room,id,hs,h1,h2=>by
  have hl:=lowB_le (h:=h) (by omega)
  refine s52 g s room id hg (by omega) (fun _ => lowB h) _ (fun r hr=> ?_) (fun _ => by omega) fun r hr c hc id=> ?_
  ·have:r.right.length≤3:=by
    rcases hr.1 with rfl|h
    ·simp[rulZ]
    ·exact hg.2.2.2 r h
   have:=Nat.mul_le_mul_right (lowB h) this
   show _ ≤ 1+3 * lowB h
   omega
  ·have hc':hAt g c<hAt g s:=by
    rcases hr.2 h2 with rfl|h
    ·cases hc
    ·exact h c hc
   have hq:=tdiv_lo (a:=room) (m:=max 1 (r.right.length:Int)) (by omega)
   refine z52 (t52 g hg h (by omega) c _ id (by omega) ?_ ?_)
   ·rcases Int.le_total 0 room with h3|h3
    ·have:=hq.1 h3;omega
    ·have:=hq.2 h3;omega
   ·rcases Int.le_total 0 room with h3|h3
    ·have:=hq.1 h3;omega
    ·have:=hq.2 h3;omega
theorem o52 (g:Gram) (hg:drG g):∀(m:Nat) (s:ByteArray) (room id:Int),room.toNat≤m → -1000≤room→room≤1000 →
 Dc Tryz.prog 52 [Gr g,T s,I room,I id] (fun v H1=>∃(q:Nat) (t:List Nod),goodT (grB room) t∧v = .agg [.own q 6 0 t.length]∧H1=[(q,6,t.map NdO)]):=by
 have low:∀(s:ByteArray) (room id:Int), -1500≤room→room<5→Dc Tryz.prog 52 [Gr g,T s,I room,I id] (fun v H1=>∃(q:Nat) (t:List Nod),goodT (grB room) t∧v = .agg [.own q 6 0 t.length]∧H1=[(q,6,t.map NdO)]):=fun s room id h1 h2=>by
  have h3:=(hAt_rng g s).2
  have h4:=(drG_len hg).2
  refine (t52 g hg 3 (Nat.le_refl _) s room id (by omega) (by omega) h2).mono fun v H1 ⟨q,t,k1,k2⟩=>⟨q,t,k1.mono ?_,k2⟩
  unfold grB
  rw[if_pos h2]
  exact lowB_le (Nat.le_refl _)
 intro m
 induction m with
 | zero=>exact fun s room id h1 h2 h3=>low s room id (by omega) (by omega)
 | succ m ih=>
  intro s room id h1 h2 h3
  rcases Int.lt_or_le room 5 with h5|h5
  ·exact low s room id (by omega) h5
  ·refine s52 g s room id hg (by omega) (fun r=>grB (room.tdiv (max 1 (r.right.length:Int))-1)) _ (fun r hr=> ?_) (fun r=> ?_) fun r hr c hc id=> ?_
   ·have:r.right.length≤3:=by
     rcases hr.1 with rfl|h
     ·simp[rulZ]
     ·exact hg.2.2.2 r h
    exact grB_step h5 this
   ·have hq:=(tdiv_lo (a:=room) (m:=max 1 (r.right.length:Int)) (by omega)).1 (by omega)
    have:=grB_le (room:=room.tdiv (max 1 (r.right.length:Int))-1) (by omega)
    omega
   ·have hq:=(tdiv_lo (a:=room) (m:=max 1 (r.right.length:Int)) (by omega)).1 (by omega)
    exact z52 (ih c _ id (by omega) (by omega) (by omega))
theorem o28 (g:Gram) (hg:drG g):Dc Tryz.prog 28 [Gr g] (fun v H1=>∃(q:Nat) (t:List Nod),goodT 40 t∧v = .agg [.own q 6 0 t.length]∧H1=[(q,6,t.map NdO)]):=by
 refine Dc.of fun rc H=> ?_
 have hsm:=drG_sm hg
 have hgr:∀room id, -1000≤room→room≤17→Dc Tryz.prog 52 [Gr g,T (startS g),I room,I id] (fun v H1=>∃(q:Nat) (t:List Nod),(goodT 800 t∧(room<5→t.length≤40))∧v = .agg [.own q 6 0 t.length]∧H1=[(q,6,t.map NdO)]):=fun room id h1 h2=>
  (o52 g hg room.toNat _ room id (Nat.le_refl _) h1 (by omega)).mono fun v H1 ⟨q,t,k1,k2⟩=>⟨q,t,⟨k1.mono (by unfold grB;split<;>omega),fun h5=>by have:=k1.2.2;unfold grB at this;rw[if_pos h5] at this;exact this⟩,k2⟩
 refine ZN mxd i28 rfl (by simp) ?_;refine X0 ?_
 ((refine R1 (jO @Z9 (jO @Z8 @Z7)) ?_);(repeat' (have h:=Z0 h;simp only[Z1,ZY,Z3,ZZ,and_true,true_and] at h;(refine R1 (jO @Z9 (jO @Z8 (jO @Z7 h))) ?_;with_reducible repeat' first|exact trivial|intro h|refine aO ?_|refine eO ?_|apply jO))))
 refine callS.eq (w53 g hsm) ?_
 ((refine R1 (jO @Z9 (jO @Z8 @Z7)) ?_);(repeat' (have h:=Z0 h;simp only[Z1,ZY,Z3,ZZ,and_true,true_and] at h;(refine R1 (jO @Z9 (jO @Z8 (jO @Z7 h))) ?_;with_reducible repeat' first|exact trivial|intro h|refine aO ?_|refine eO ?_|apply jO))))
 refine callA.dv (wz47 12 (by omega)) (by simp only[Z9, *,if_true,if_false]) ?_
 rintro _ ⟨a,ha,rfl⟩
 ((refine R1 (jO @Z9 (jO @Z8 @Z7)) ?_);(repeat' (have h:=Z0 h;simp only[Z1,ZY,Z3,ZZ,and_true,true_and] at h;(refine R1 (jO @Z9 (jO @Z8 (jO @Z7 h))) ?_;with_reducible repeat' first|exact trivial|intro h|refine aO ?_|refine eO ?_|apply jO))))
 refine callA.dv (wz47 3 (by omega)) (by simp only[Z9, *,if_true,if_false]) ?_
 rintro _ ⟨b,hb,rfl⟩
 ((refine R1 (jO @Z9 (jO @Z8 @Z7)) ?_);(repeat' (have h:=Z0 h;simp only[Z1,ZY,Z3,ZZ,and_true,true_and] at h;(refine R1 (jO @Z9 (jO @Z8 (jO @Z7 h))) ?_;with_reducible repeat' first|exact trivial|intro h|refine aO ?_|refine eO ?_|apply jO))))
 refine callA.dc (hgr _ _ (by omega) (by omega)) (by simp only[Z9, *,if_true,if_false]) ?_
 rintro _ _ ⟨q,t,⟨ht,_⟩,rfl,rfl⟩ hn9
 have h9:=Z0 hn9
 simp only[List.cons_append,List.nil_append] at h9
 (replace h9:=h9;simp only[VN] at h9)
 ((refine R1 (jO @Z9 (jO @Z8 (jO @Z7 h9))) ?_;with_reducible repeat' first|intro h|apply jO);(repeat' (have h:=Z0 h;simp only[Z1,ZY,Z3,ZZ,and_true,true_and] at h;(refine R1 (jO @Z9 (jO @Z8 (jO @Z7 (jO h9 h)))) ?_;with_reducible repeat' first|exact trivial|intro h|refine aO ?_|refine eO ?_|apply jO))))
 ·rename_i r5 hnx
  have h3:=Z0 hnx
  (replace h3:=h3;simp only[VN] at h3)
  refine callS.eq (w53 g hsm) ?_
  ((refine R1 (jO @Z9 (jO @Z8 (jO @Z7 h3))) ?_);(repeat' (have h:=Z0 h;simp only[Z1,ZY,Z3,ZZ,and_true,true_and] at h;(refine R1 (jO @Z9 (jO @Z8 (jO @Z7 (jO h3 h)))) ?_;with_reducible repeat' first|exact trivial|intro h|refine aO ?_|refine eO ?_|apply jO))))
  refine callA.dc (hgr _ _ (by omega) (by omega)) (by simp only[Z9,h3,if_true,if_false]) ?_
  rintro _ _ ⟨q2,t2,ht2,rfl,rfl⟩ hn10
  replace ht2:goodT 40 t2:=⟨ht2.1.1,ht2.1.2.1,ht2.2 (by omega)⟩
  have h10:=Z0 hn10
  simp only[List.cons_append,List.nil_append] at h10
  (replace h10:=h10;simp only[VN] at h10)
  ((refine R1 (jO @Z9 (jO @Z8 (jO @Z7 h10))) ?_);(repeat' (have h:=Z0 h;simp only[Z1,ZY,Z3,ZZ,and_true,true_and] at h;(refine R1 (jO @Z9 (jO @Z8 (jO @Z7 (jO h10 h)))) ?_;with_reducible repeat' first|exact trivial|intro h|refine aO ?_|refine eO ?_|apply jO))))
  all_goals try exact oF
  refine callS.dv (w32 3) (by simp only[Z9,h10,if_true,if_false]) ?_
  rintro _ ⟨b3,rfl⟩
  cases b3
  ·((refine R1 (jO @Z9 (jO @Z8 (jO @Z7 h10))) ?_);(repeat' (have h:=Z0 h;simp only[Z1,ZY,Z3,ZZ,and_true,true_and] at h;(refine R1 (jO @Z9 (jO @Z8 (jO @Z7 (jO h10 h)))) ?_;with_reducible repeat' first|exact trivial|intro h|refine aO ?_|refine eO ?_|apply jO))))
   all_goals try exact oF
   exact ⟨_,[(q2,6,t2.map NdO)],[_,_,_,_],[],⟨q2,t2,ht2,rfl,rfl⟩,.refl,rfl,(by repeat' (first|exact trivial|(refine And.intro (by simp only[Z9, *,if_true,if_false];try rfl) (And.intro (by simp[ZR,ZP, *]) ?_))))⟩
  ·((refine R1 (jO @Z9 (jO @Z8 (jO @Z7 h10))) ?_);(repeat' (have h:=Z0 h;simp only[Z1,ZY,Z3,ZZ,and_true,true_and] at h;(refine R1 (jO @Z9 (jO @Z8 (jO @Z7 (jO h10 h)))) ?_;with_reducible repeat' first|exact trivial|intro h|refine aO ?_|refine eO ?_|apply jO))))
   all_goals try exact oF
   refine Y5 mxd (ι:={ x:List Nod×Nat // x.2≤t2.length∧x.1.length=t2.length∧∀y∈x.1,drN y }) (fun x=>[(4,.raw 1),(5,.ptr r5 1 0 0),(6,I x.1.2)]) (fun x=>(q2,6,x.1.1.map NdO)::(r5,1,[.agg [.own q2 6 0 t2.length]])::(q,6,t.map NdO)::(rc,3,[.cur])::H) (fun x=>t2.length-x.1.2) ⟨(t2,0),by simp;exact ht2.1⟩ (by simp[E2]) rfl ?_
   rintro ⟨⟨u,k⟩,hk,hul,hu⟩
   dsimp only at hk hul hu ⊢
   have hbb:=ht2.2.2
   rcases nL k t2.length with hlk|hgk
   ·have hlu:k<u.length:=by omega
    (((try refine qI ?_);(repeat ((first|with_reducible refine qU ?_ | simp only[Z5]);try simp (maxSteps:=9^7) only[↓ S2,S2,ZT,↓reduceIte,reduceNe,reduceEqDiff,reduceCtorEq,reduceLeDiff,reduceAdd,reduceLT,Z9,Z8,Z7,h10,hul,List.length_map,List.getElem_map,List.length_set]));(try simp +contextual (disch:=omega) only[Z2,Z9,Z8,Z7,h10,hul,List.length_map,List.getElem_map,List.length_set]);(with_reducible repeat' (first|intro h|refine And.intro (by omega) ?_ | refine exP (by omega) ?_ | apply And.intro)));(repeat' (have h:=Z0 h;simp only[Z1,ZY,Z3,ZZ,and_true,true_and] at h;((try refine qI ?_);(repeat ((first|with_reducible refine qU ?_ | simp only[Z5]);try simp (maxSteps:=9^7) only[↓ S2,S2,ZT,↓reduceIte,reduceNe,reduceEqDiff,reduceCtorEq,reduceLeDiff,reduceAdd,reduceLT,Z9,Z8,Z7,h10,hul,List.length_map,List.getElem_map,List.length_set,h]));(try simp +contextual (disch:=omega) only[Z2,Z9,Z8,Z7,h10,hul,List.length_map,List.getElem_map,List.length_set,h]);(with_reducible repeat' (first|intro h|refine And.intro (by omega) ?_ | refine exP (by omega) ?_ | apply And.intro))))))
    all_goals try exact oF
    generalize IntKind.i64.wrap ((IntKind.i64.wrap (IntKind.i64.wrap (u[k].id * 7)+3)).tmod 97+1)=w
    exact nx ⟨(u.set k { u[k] with id:=w },k+1),by dsimp only;omega,by dsimp only;rw[List.length_set];exact hul,fun y hy=>(List.mem_or_eq_of_mem_set hy).elim (hu y) fun h=>by subst h;exact ⟨(hu u[k] (gM hlu)).1,(hu u[k] (gM hlu)).2⟩⟩ (by dsimp only;omega) (by simp[E2]) (by simp[List.map_set])
   ·((refine R1 (jO @Z9 (jO @Z8 (jO @Z7 h10))) ?_;with_reducible repeat' intro h);(repeat' (have h:=Z0 h;simp only[Z1,ZY,Z3,ZZ,and_true,true_and] at h;(refine R1 (jO @Z9 (jO @Z8 (jO @Z7 (jO h10 h)))) ?_;with_reducible repeat' first|exact trivial|intro h|refine aO ?_|refine eO ?_|apply jO))))
    all_goals try exact oF
    exact ⟨_,[(q2,6,u.map NdO)],[_,_,_,_],[],⟨q2,u,⟨hu,by have:=ht2.2.1;omega,by have:=ht2.2.2;omega⟩,by rw[hul],rfl⟩,.refl,rfl,(by repeat' (first|exact trivial|(refine And.intro (by simp only[Z9, *,if_true,if_false];try rfl) (And.intro (by simp[ZR,ZP, *]) ?_))))⟩
 ·rename_i r5 hnx
  have h3:=Z0 hnx
  (replace h3:=h3;simp only[VN] at h3)
  replace ht:goodT 40 t:=⟨ht.1,ht.2.1,by omega⟩
  refine callS.dv (w32 3) (by simp only[Z9,h3,if_true,if_false]) ?_
  rintro _ ⟨b3,rfl⟩
  cases b3
  ·((refine R1 (jO @Z9 (jO @Z8 (jO @Z7 h3))) ?_);(repeat' (have h:=Z0 h;simp only[Z1,ZY,Z3,ZZ,and_true,true_and] at h;(refine R1 (jO @Z9 (jO @Z8 (jO @Z7 (jO h3 h)))) ?_;with_reducible repeat' first|exact trivial|intro h|refine aO ?_|refine eO ?_|apply jO))))
   all_goals try exact oF
   exact ⟨_,[(q,6,t.map NdO)],[_,_,_],[],⟨q,t,ht,rfl,rfl⟩,.refl,rfl,(by repeat' (first|exact trivial|(refine And.intro (by simp only[Z9, *,if_true,if_false];try rfl) (And.intro (by simp[ZR,ZP, *]) ?_))))⟩
  ·((refine R1 (jO @Z9 (jO @Z8 (jO @Z7 h3))) ?_);(repeat' (have h:=Z0 h;simp only[Z1,ZY,Z3,ZZ,and_true,true_and] at h;(refine R1 (jO @Z9 (jO @Z8 (jO @Z7 (jO h3 h)))) ?_;with_reducible repeat' first|exact trivial|intro h|refine aO ?_|refine eO ?_|apply jO))))
   all_goals try exact oF
   refine Y5 mxd (ι:={ x:List Nod×Nat // x.2≤t.length∧x.1.length=t.length∧∀y∈x.1,drN y }) (fun x=>[(4,.raw 1),(5,.ptr r5 1 0 0),(6,I x.1.2)]) (fun x=>(r5,1,[.agg [.own q 6 0 t.length]])::(q,6,x.1.1.map NdO)::(rc,3,[.cur])::H) (fun x=>t.length-x.1.2) ⟨(t,0),by simp;exact ht.1⟩ (by simp[E2]) rfl ?_
   rintro ⟨⟨u,k⟩,hk,hul,hu⟩
   dsimp only at hk hul hu ⊢
   have hbb:=ht.2.2
   rcases nL k t.length with hlk|hgk
   ·have hlu:k<u.length:=by omega
    (((try refine qI ?_);(repeat ((first|with_reducible refine qU ?_ | simp only[Z5]);try simp (maxSteps:=9^7) only[↓ S2,S2,ZT,↓reduceIte,reduceNe,reduceEqDiff,reduceCtorEq,reduceLeDiff,reduceAdd,reduceLT,Z9,Z8,Z7,h3,hul,List.length_map,List.getElem_map,List.length_set]));(try simp +contextual (disch:=omega) only[Z2,Z9,Z8,Z7,h3,hul,List.length_map,List.getElem_map,List.length_set]);(with_reducible repeat' (first|intro h|refine And.intro (by omega) ?_ | refine exP (by omega) ?_ | apply And.intro)));(repeat' (have h:=Z0 h;simp only[Z1,ZY,Z3,ZZ,and_true,true_and] at h;((try refine qI ?_);(repeat ((first|with_reducible refine qU ?_ | simp only[Z5]);try simp (maxSteps:=9^7) only[↓ S2,S2,ZT,↓reduceIte,reduceNe,reduceEqDiff,reduceCtorEq,reduceLeDiff,reduceAdd,reduceLT,Z9,Z8,Z7,h3,hul,List.length_map,List.getElem_map,List.length_set,h]));(try simp +contextual (disch:=omega) only[Z2,Z9,Z8,Z7,h3,hul,List.length_map,List.getElem_map,List.length_set,h]);(with_reducible repeat' (first|intro h|refine And.intro (by omega) ?_ | refine exP (by omega) ?_ | apply And.intro))))))
    all_goals try exact oF
    generalize IntKind.i64.wrap ((IntKind.i64.wrap (IntKind.i64.wrap (u[k].id * 7)+3)).tmod 97+1)=w
    exact nx ⟨(u.set k { u[k] with id:=w },k+1),by dsimp only;omega,by dsimp only;rw[List.length_set];exact hul,fun y hy=>(List.mem_or_eq_of_mem_set hy).elim (hu y) fun h=>by subst h;exact ⟨(hu u[k] (gM hlu)).1,(hu u[k] (gM hlu)).2⟩⟩ (by dsimp only;omega) (by simp[E2]) (by simp[List.map_set])
   ·((refine R1 (jO @Z9 (jO @Z8 (jO @Z7 h3))) ?_;with_reducible repeat' intro h);(repeat' (have h:=Z0 h;simp only[Z1,ZY,Z3,ZZ,and_true,true_and] at h;(refine R1 (jO @Z9 (jO @Z8 (jO @Z7 (jO h3 h)))) ?_;with_reducible repeat' first|exact trivial|intro h|refine aO ?_|refine eO ?_|apply jO))))
    all_goals try exact oF
    exact ⟨_,[(q,6,u.map NdO)],[_,_,_],[],⟨q,u,⟨hu,by have:=ht.2.1;omega,by have:=ht.2.2;omega⟩,by rw[hul],rfl⟩,.refl,rfl,(by repeat' (first|exact trivial|(refine And.intro (by simp only[Z9, *,if_true,if_false];try rfl) (And.intro (by simp[ZR,ZP, *]) ?_))))⟩
theorem w33 (g:Gram) (hg:drG g):Dv Tryz.prog 33 [Gr g] (fun v=>∃t,bentT t∧v=Tr t):=by
 refine Dv.of fun rc H=> ?_
 refine gstartG i33 rfl (by simp) ?_
 refine Zn mxd ?_
 ((refine R1 (jO @Z9 (jO @Z8 @Z7)) ?_);(repeat' (have h:=Z0 h;simp only[Z1,ZY,Z3,ZZ,and_true,true_and] at h;(refine R1 (jO @Z9 (jO @Z8 (jO @Z7 h))) ?_;with_reducible repeat' first|exact trivial|intro h|refine aO ?_|refine eO ?_|apply jO))))
 refine Zn mxd ?_
 ((refine R1 (jO @Z9 (jO @Z8 @Z7)) ?_);(repeat' (have h:=Z0 h;simp only[Z1,ZY,Z3,ZZ,and_true,true_and] at h;(refine R1 (jO @Z9 (jO @Z8 (jO @Z7 h))) ?_;with_reducible repeat' first|exact trivial|intro h|refine aO ?_|refine eO ?_|apply jO))))
 refine callS.dc (o28 g hg) (by simp only[Z9, *,if_true,if_false]) ?_
 rintro _ _ ⟨q,t,ht,rfl,rfl⟩ hn9
 have h9:=Z0 hn9
 simp only[List.cons_append,List.nil_append] at h9
 (replace h9:=h9;simp only[VN] at h9)
 ((refine R1 (jO @Z9 (jO @Z8 (jO @Z7 h9))) ?_;with_reducible repeat' intro h);(repeat' (have h:=Z0 h;simp only[Z1,ZY,Z3,ZZ,and_true,true_and] at h;(refine R1 (jO @Z9 (jO @Z8 (jO @Z7 (jO h9 h)))) ?_))))
 rename_i r5 hnx
 have h3:=h
 have ht1:=ht.2.1
 have ht2:=ht.2.2
 refine Zn mxd ?_
 ((refine R1 (jO @Z9 (jO @Z8 (jO @Z7 h3))) ?_);(repeat' (have h:=Z0 h;simp only[Z1,ZY,Z3,ZZ,and_true,true_and] at h;(refine R1 (jO @Z9 (jO @Z8 (jO @Z7 (jO h3 h)))) ?_;with_reducible repeat' first|exact trivial|intro h|refine aO ?_|refine eO ?_|apply jO))))
 refine callS.dv (wz47 t.length (by omega)) (by simp only[Z9,h3,if_true,if_false]) ?_
 rintro _ ⟨k,hk,rfl⟩
 have hk':k<t.length:=by omega
 ((refine R1 (jO @Z9 (jO @Z8 (jO @Z7 h3))) ?_);(repeat' (have h:=Z0 h;simp only[Z1,ZY,Z3,ZZ,and_true,true_and] at h;(refine R1 (jO @Z9 (jO @Z8 (jO @Z7 (jO h3 h)))) ?_;with_reducible repeat' first|exact trivial|intro h|refine aO ?_|refine eO ?_|apply jO))))
 refine GW.seq ?_
 refine Zn mxd ?_
 ((refine R1 (jO @Z9 (jO @Z8 (jO @Z7 h3))) ?_);(repeat' (have h:=Z0 h;simp only[Z1,ZY,Z3,ZZ,and_true,true_and] at h;(refine R1 (jO @Z9 (jO @Z8 (jO @Z7 (jO h3 h)))) ?_;with_reducible repeat' first|exact trivial|intro h|refine aO ?_|refine eO ?_|apply jO))))
 refine callS.dv (wz47 14 (by omega)) (by simp only[Z9,h3,if_true,if_false]) ?_
 rintro _ ⟨d0,hd,rfl⟩
 obtain ⟨d,hdd⟩:∃d:Int,((d0:Nat):Int)=d:=⟨_,rfl⟩
 rw[hdd] at hd ⊢
 ((refine R1 (jO @Z9 (jO @Z8 (jO @Z7 h3))) ?_);(repeat' (have h:=Z0 h;simp only[Z1,ZY,Z3,ZZ,and_true,true_and] at h;(refine R1 (jO @Z9 (jO @Z8 (jO @Z7 (jO h3 h)))) ?_;with_reducible repeat' first|exact trivial|intro h|refine aO ?_|refine eO ?_|apply jO))))
 have hxk:=ht.1 _ (gM hk')
 have hkk:t[k].kids.length ≤ 4:=by have:=hxk.1;omega
 have hcs:d=0∨d=1∨d=2∨d=3∨d=4∨d=5∨d=6∨7≤d:=by omega
 clear hdd
 rcases hcs with rfl|rfl|rfl|rfl|rfl|rfl|rfl|h7
 ·refine gwpB mxd ?_
  (((try refine qI ?_);(repeat ((first|with_reducible refine qU ?_ | simp only[Z5]);try simp (maxSteps:=9^7) only[↓ S2,S2,ZT,↓reduceIte,reduceNe,reduceEqDiff,reduceCtorEq,reduceLeDiff,reduceAdd,reduceLT,Z9,Z8,Z7,h3,Int.reduceEq,decide_true,decide_false,List.length_map,List.getElem_map,Int.toNat_zero]));(try simp +contextual (disch:=omega) only[Z2,Z9,Z8,Z7,h3,Int.reduceEq,decide_true,decide_false,List.length_map,List.getElem_map,Int.toNat_zero]);(with_reducible repeat' (first|intro h|refine And.intro (by omega) ?_ | refine exP (by omega) ?_ | apply And.intro)));(repeat' (have h:=Z0 h;simp only[Z1,ZY,Z3,ZZ,and_true,true_and] at h;((try refine qI ?_);(repeat ((first|with_reducible refine qU ?_ | simp only[Z5]);try simp (maxSteps:=9^7) only[↓ S2,S2,ZT,↓reduceIte,reduceNe,reduceEqDiff,reduceCtorEq,reduceLeDiff,reduceAdd,reduceLT,Z9,Z8,Z7,h3,Int.reduceEq,decide_true,decide_false,List.length_map,List.getElem_map,Int.toNat_zero,h]));(try simp +contextual (disch:=omega) only[Z2,Z9,Z8,Z7,h3,Int.reduceEq,decide_true,decide_false,List.length_map,List.getElem_map,Int.toNat_zero,h]);(with_reducible repeat' (first|intro h|refine And.intro (by omega) ?_ | refine exP (by omega) ?_ | apply And.intro))))))
  all_goals try exact oF
  refine callA.dv (w30 _ rfl (by simp)) (by simp only[Z9,h3,if_true,if_false]) ?_
  intro _ hg9
  obtain ⟨n9,rfl⟩:=mem4 hg9
  (((try refine qI ?_);(repeat ((first|with_reducible refine qU ?_ | simp only[Z5]);try simp (maxSteps:=9^7) only[↓ S2,S2,ZT,↓reduceIte,reduceNe,reduceEqDiff,reduceCtorEq,reduceLeDiff,reduceAdd,reduceLT,Z9,Z8,Z7,h3,Int.reduceEq,decide_true,decide_false,List.length_map,List.getElem_map,Int.toNat_zero]));(try simp +contextual (disch:=omega) only[Z2,Z9,Z8,Z7,h3,Int.reduceEq,decide_true,decide_false,List.length_map,List.getElem_map,Int.toNat_zero]);(with_reducible repeat' (first|intro h|refine And.intro (by omega) ?_ | refine exP (by omega) ?_ | apply And.intro)));(repeat' (have h:=Z0 h;simp only[Z1,ZY,Z3,ZZ,and_true,true_and] at h;((try refine qI ?_);(repeat ((first|with_reducible refine qU ?_ | simp only[Z5]);try simp (maxSteps:=9^7) only[↓ S2,S2,ZT,↓reduceIte,reduceNe,reduceEqDiff,reduceCtorEq,reduceLeDiff,reduceAdd,reduceLT,Z9,Z8,Z7,h3,Int.reduceEq,decide_true,decide_false,List.length_map,List.getElem_map,Int.toNat_zero,h]));(try simp +contextual (disch:=omega) only[Z2,Z9,Z8,Z7,h3,Int.reduceEq,decide_true,decide_false,List.length_map,List.getElem_map,Int.toNat_zero,h]);(with_reducible repeat' (first|intro h|refine And.intro (by omega) ?_ | refine exP (by omega) ?_ | apply And.intro))))))
  all_goals try exact oF
  refine ZD mxd ?_
  ((refine R1 (jO @Z9 (jO @Z8 (jO @Z7 h3))) ?_);(repeat' (have h:=Z0 h;simp only[Z1,ZY,Z3,ZZ,and_true,true_and] at h;(refine R1 (jO @Z9 (jO @Z8 (jO @Z7 (jO h3 h)))) ?_;with_reducible repeat' first|exact trivial|intro h|refine aO ?_|refine eO ?_|apply jO))))
  all_goals try exact oF
  exact ⟨_,[_,_,_],[(q,6,_)],⟨_,bentT_set (x:={ t[k] with id:=n9 }) (k:=k) ht hkk hxk.2,rfl⟩,borS,rfl,(by repeat' (first|exact trivial|(refine And.intro (by simp only[Z9, *,if_true,if_false];try rfl) (And.intro (by simp[ZR,ZP, *]) ?_))))⟩
 ·refine gwpB mxd ?_
  (((try refine qI ?_);(repeat ((first|with_reducible refine qU ?_ | simp only[Z5]);try simp (maxSteps:=9^7) only[↓ S2,S2,ZT,↓reduceIte,reduceNe,reduceEqDiff,reduceCtorEq,reduceLeDiff,reduceAdd,reduceLT,Z9,Z8,Z7,h3,Int.reduceEq,decide_true,decide_false,List.length_map,List.getElem_map,Int.toNat_zero]));(try simp +contextual (disch:=omega) only[Z2,Z9,Z8,Z7,h3,Int.reduceEq,decide_true,decide_false,List.length_map,List.getElem_map,Int.toNat_zero]);(with_reducible repeat' (first|intro h|refine And.intro (by omega) ?_ | refine exP (by omega) ?_ | apply And.intro)));(repeat' (have h:=Z0 h;simp only[Z1,ZY,Z3,ZZ,and_true,true_and] at h;((try refine qI ?_);(repeat ((first|with_reducible refine qU ?_ | simp only[Z5]);try simp (maxSteps:=9^7) only[↓ S2,S2,ZT,↓reduceIte,reduceNe,reduceEqDiff,reduceCtorEq,reduceLeDiff,reduceAdd,reduceLT,Z9,Z8,Z7,h3,Int.reduceEq,decide_true,decide_false,List.length_map,List.getElem_map,Int.toNat_zero,h]));(try simp +contextual (disch:=omega) only[Z2,Z9,Z8,Z7,h3,Int.reduceEq,decide_true,decide_false,List.length_map,List.getElem_map,Int.toNat_zero,h]);(with_reducible repeat' (first|intro h|refine And.intro (by omega) ?_ | refine exP (by omega) ?_ | apply And.intro))))))
  all_goals try exact oF
  refine callA.dv (w30 _ rfl (by simp)) (by simp only[Z9,h3,if_true,if_false]) ?_
  intro _ hg9
  obtain ⟨n9,_,rfl⟩:=YK (lo:=0) (hi:=2000000) rfl hg9
  (((try refine qI ?_);(repeat ((first|with_reducible refine qU ?_ | simp only[Z5]);try simp (maxSteps:=9^7) only[↓ S2,S2,ZT,↓reduceIte,reduceNe,reduceEqDiff,reduceCtorEq,reduceLeDiff,reduceAdd,reduceLT,Z9,Z8,Z7,h3,Int.reduceEq,decide_true,decide_false,List.length_map,List.getElem_map,Int.toNat_zero]));(try simp +contextual (disch:=omega) only[Z2,Z9,Z8,Z7,h3,Int.reduceEq,decide_true,decide_false,List.length_map,List.getElem_map,Int.toNat_zero]);(with_reducible repeat' (first|intro h|refine And.intro (by omega) ?_ | refine exP (by omega) ?_ | apply And.intro)));(repeat' (have h:=Z0 h;simp only[Z1,ZY,Z3,ZZ,and_true,true_and] at h;((try refine qI ?_);(repeat ((first|with_reducible refine qU ?_ | simp only[Z5]);try simp (maxSteps:=9^7) only[↓ S2,S2,ZT,↓reduceIte,reduceNe,reduceEqDiff,reduceCtorEq,reduceLeDiff,reduceAdd,reduceLT,Z9,Z8,Z7,h3,Int.reduceEq,decide_true,decide_false,List.length_map,List.getElem_map,Int.toNat_zero,h]));(try simp +contextual (disch:=omega) only[Z2,Z9,Z8,Z7,h3,Int.reduceEq,decide_true,decide_false,List.length_map,List.getElem_map,Int.toNat_zero,h]);(with_reducible repeat' (first|intro h|refine And.intro (by omega) ?_ | refine exP (by omega) ?_ | apply And.intro))))))
  all_goals try exact oF
  refine ZD mxd ?_
  ((refine R1 (jO @Z9 (jO @Z8 (jO @Z7 h3))) ?_);(repeat' (have h:=Z0 h;simp only[Z1,ZY,Z3,ZZ,and_true,true_and] at h;(refine R1 (jO @Z9 (jO @Z8 (jO @Z7 (jO h3 h)))) ?_;with_reducible repeat' first|exact trivial|intro h|refine aO ?_|refine eO ?_|apply jO))))
  all_goals try exact oF
  exact ⟨_,[_,_,_],[(q,6,_)],⟨_,bentT_set (x:={ t[k] with lit:=n9 }) (k:=k) ht hkk hxk.2,rfl⟩,borS,rfl,(by repeat' (first|exact trivial|(refine And.intro (by simp only[Z9, *,if_true,if_false];try rfl) (And.intro (by simp[ZR,ZP, *]) ?_))))⟩
 ·refine gwpB mxd ?_
  (((try refine qI ?_);(repeat ((first|with_reducible refine qU ?_ | simp only[Z5]);try simp (maxSteps:=9^7) only[↓ S2,S2,ZT,↓reduceIte,reduceNe,reduceEqDiff,reduceCtorEq,reduceLeDiff,reduceAdd,reduceLT,Z9,Z8,Z7,h3,Int.reduceEq,decide_true,decide_false,List.length_map,List.getElem_map,Int.toNat_zero]));(try simp +contextual (disch:=omega) only[Z2,Z9,Z8,Z7,h3,Int.reduceEq,decide_true,decide_false,List.length_map,List.getElem_map,Int.toNat_zero]);(with_reducible repeat' (first|intro h|refine And.intro (by omega) ?_ | refine exP (by omega) ?_ | apply And.intro)));(repeat' (have h:=Z0 h;simp only[Z1,ZY,Z3,ZZ,and_true,true_and] at h;((try refine qI ?_);(repeat ((first|with_reducible refine qU ?_ | simp only[Z5]);try simp (maxSteps:=9^7) only[↓ S2,S2,ZT,↓reduceIte,reduceNe,reduceEqDiff,reduceCtorEq,reduceLeDiff,reduceAdd,reduceLT,Z9,Z8,Z7,h3,Int.reduceEq,decide_true,decide_false,List.length_map,List.getElem_map,Int.toNat_zero,h]));(try simp +contextual (disch:=omega) only[Z2,Z9,Z8,Z7,h3,Int.reduceEq,decide_true,decide_false,List.length_map,List.getElem_map,Int.toNat_zero,h]);(with_reducible repeat' (first|intro h|refine And.intro (by omega) ?_ | refine exP (by omega) ?_ | apply And.intro))))))
  all_goals try exact oF
  refine callA.dv (wz47 5 (by omega)) (by simp only[Z9,h3,if_true,if_false]) ?_
  rintro _ ⟨n9,hn99,rfl⟩
  (((try refine qI ?_);(repeat ((first|with_reducible refine qU ?_ | simp only[Z5]);try simp (maxSteps:=9^7) only[↓ S2,S2,ZT,↓reduceIte,reduceNe,reduceEqDiff,reduceCtorEq,reduceLeDiff,reduceAdd,reduceLT,Z9,Z8,Z7,h3,Int.reduceEq,decide_true,decide_false,List.length_map,List.getElem_map,Int.toNat_zero]));(try simp +contextual (disch:=omega) only[Z2,Z9,Z8,Z7,h3,Int.reduceEq,decide_true,decide_false,List.length_map,List.getElem_map,Int.toNat_zero]);(with_reducible repeat' (first|intro h|refine And.intro (by omega) ?_ | refine exP (by omega) ?_ | apply And.intro)));(repeat' (have h:=Z0 h;simp only[Z1,ZY,Z3,ZZ,and_true,true_and] at h;((try refine qI ?_);(repeat ((first|with_reducible refine qU ?_ | simp only[Z5]);try simp (maxSteps:=9^7) only[↓ S2,S2,ZT,↓reduceIte,reduceNe,reduceEqDiff,reduceCtorEq,reduceLeDiff,reduceAdd,reduceLT,Z9,Z8,Z7,h3,Int.reduceEq,decide_true,decide_false,List.length_map,List.getElem_map,Int.toNat_zero,h]));(try simp +contextual (disch:=omega) only[Z2,Z9,Z8,Z7,h3,Int.reduceEq,decide_true,decide_false,List.length_map,List.getElem_map,Int.toNat_zero,h]);(with_reducible repeat' (first|intro h|refine And.intro (by omega) ?_ | refine exP (by omega) ?_ | apply And.intro))))))
  all_goals try exact oF
  refine ZD mxd ?_
  ((refine R1 (jO @Z9 (jO @Z8 (jO @Z7 h3))) ?_);(repeat' (have h:=Z0 h;simp only[Z1,ZY,Z3,ZZ,and_true,true_and] at h;(refine R1 (jO @Z9 (jO @Z8 (jO @Z7 (jO h3 h)))) ?_;with_reducible repeat' first|exact trivial|intro h|refine aO ?_|refine eO ?_|apply jO))))
  all_goals try exact oF
  exact ⟨_,[_,_,_],[(q,6,_)],⟨_,bentT_set (x:={ t[k] with parent:=(n9:Int)-1 }) (k:=k) ht hkk hxk.2,rfl⟩,borS,rfl,(by repeat' (first|exact trivial|(refine And.intro (by simp only[Z9, *,if_true,if_false];try rfl) (And.intro (by simp[ZR,ZP, *]) ?_))))⟩
 ·refine gwpB mxd ?_
  (((try refine qI ?_);(repeat ((first|with_reducible refine qU ?_ | simp only[Z5]);try simp (maxSteps:=9^7) only[↓ S2,S2,ZT,↓reduceIte,reduceNe,reduceEqDiff,reduceCtorEq,reduceLeDiff,reduceAdd,reduceLT,Z9,Z8,Z7,h3,Int.reduceEq,decide_true,decide_false,List.length_map,List.getElem_map,Int.toNat_zero]));(try simp +contextual (disch:=omega) only[Z2,Z9,Z8,Z7,h3,Int.reduceEq,decide_true,decide_false,List.length_map,List.getElem_map,Int.toNat_zero]);(with_reducible repeat' (first|intro h|refine And.intro (by omega) ?_ | refine exP (by omega) ?_ | apply And.intro)));(repeat' (have h:=Z0 h;simp only[Z1,ZY,Z3,ZZ,and_true,true_and] at h;((try refine qI ?_);(repeat ((first|with_reducible refine qU ?_ | simp only[Z5]);try simp (maxSteps:=9^7) only[↓ S2,S2,ZT,↓reduceIte,reduceNe,reduceEqDiff,reduceCtorEq,reduceLeDiff,reduceAdd,reduceLT,Z9,Z8,Z7,h3,Int.reduceEq,decide_true,decide_false,List.length_map,List.getElem_map,Int.toNat_zero,h]));(try simp +contextual (disch:=omega) only[Z2,Z9,Z8,Z7,h3,Int.reduceEq,decide_true,decide_false,List.length_map,List.getElem_map,Int.toNat_zero,h]);(with_reducible repeat' (first|intro h|refine And.intro (by omega) ?_ | refine exP (by omega) ?_ | apply And.intro))))))
  all_goals try exact oF
  refine callA.dv (w49 _ rfl (by simp)) (by simp only[Z9,h3,if_true,if_false]) ?_
  intro _ hg9
  obtain ⟨n9,hn99,rfl⟩:=ltT_mem rfl hg9
  (((try refine qI ?_);(repeat ((first|with_reducible refine qU ?_ | simp only[Z5]);try simp (maxSteps:=9^7) only[↓ S2,S2,ZT,↓reduceIte,reduceNe,reduceEqDiff,reduceCtorEq,reduceLeDiff,reduceAdd,reduceLT,Z9,Z8,Z7,h3,Int.reduceEq,decide_true,decide_false,List.length_map,List.getElem_map,Int.toNat_zero]));(try simp +contextual (disch:=omega) only[Z2,Z9,Z8,Z7,h3,Int.reduceEq,decide_true,decide_false,List.length_map,List.getElem_map,Int.toNat_zero]);(with_reducible repeat' (first|intro h|refine And.intro (by omega) ?_ | refine exP (by omega) ?_ | apply And.intro)));(repeat' (have h:=Z0 h;simp only[Z1,ZY,Z3,ZZ,and_true,true_and] at h;((try refine qI ?_);(repeat ((first|with_reducible refine qU ?_ | simp only[Z5]);try simp (maxSteps:=9^7) only[↓ S2,S2,ZT,↓reduceIte,reduceNe,reduceEqDiff,reduceCtorEq,reduceLeDiff,reduceAdd,reduceLT,Z9,Z8,Z7,h3,Int.reduceEq,decide_true,decide_false,List.length_map,List.getElem_map,Int.toNat_zero,h]));(try simp +contextual (disch:=omega) only[Z2,Z9,Z8,Z7,h3,Int.reduceEq,decide_true,decide_false,List.length_map,List.getElem_map,Int.toNat_zero,h]);(with_reducible repeat' (first|intro h|refine And.intro (by omega) ?_ | refine exP (by omega) ?_ | apply And.intro))))))
  all_goals try exact oF
  refine ZD mxd ?_
  ((refine R1 (jO @Z9 (jO @Z8 (jO @Z7 h3))) ?_);(repeat' (have h:=Z0 h;simp only[Z1,ZY,Z3,ZZ,and_true,true_and] at h;(refine R1 (jO @Z9 (jO @Z8 (jO @Z7 (jO h3 h)))) ?_;with_reducible repeat' first|exact trivial|intro h|refine aO ?_|refine eO ?_|apply jO))))
  all_goals try exact oF
  exact ⟨_,[_,_,_],[(q,6,_)],⟨_,bentT_set (x:={ t[k] with rule:=n9 }) (k:=k) ht hkk hn99,rfl⟩,borS,rfl,(by repeat' (first|exact trivial|(refine And.intro (by simp only[Z9, *,if_true,if_false];try rfl) (And.intro (by simp[ZR,ZP, *]) ?_))))⟩
 ·refine GW.opn (r:=q) (es:=t.map NdO) (sz:=6) (i:=k) (j:=5) (gs:=[I t[k].id,I t[k].parent,I t[k].place,I t[k].lit,T t[k].rule,.osl 1 (t[k].kids.map I)]) (by simp only[Z9,h3,if_true,if_false]) (by simp[hk']) rfl fun r1 hn1=> ?_
  simp only[Z8,h3,if_true,if_false] at hn1 ⊢
  have h5:=Z0 hn1
  (replace h5:=h5;simp only[VN] at h5)
  refine gwpB mxd ?_
  (((try refine qI ?_);(repeat ((first|with_reducible refine qU ?_ | simp only[Z5]);try simp (maxSteps:=9^7) only[↓ S2,S2,ZT,↓reduceIte,reduceNe,reduceEqDiff,reduceCtorEq,reduceLeDiff,reduceAdd,reduceLT,Z9,Z8,Z7,h5,Int.reduceEq,decide_true,decide_false,List.length_map,List.getElem_map,List.length_set,List.getElem_set_self,List.set_set,List.length_append,List.length_singleton,List.length_take,not_false_eq_true,ZM]));(try simp +contextual (disch:=omega) only[Z2,Z9,Z8,Z7,h5,Int.reduceEq,decide_true,decide_false,List.length_map,List.getElem_map,List.length_set,List.getElem_set_self,List.set_set,List.length_append,List.length_singleton,List.length_take,not_false_eq_true,ZM]);(with_reducible repeat' (first|intro h|refine And.intro (by omega) ?_ | refine exP (by omega) ?_ | apply And.intro)));(repeat' (have h:=Z0 h;simp only[Z1,ZY,Z3,ZZ,and_true,true_and] at h;((try refine qI ?_);(repeat ((first|with_reducible refine qU ?_ | simp only[Z5]);try simp (maxSteps:=9^7) only[↓ S2,S2,ZT,↓reduceIte,reduceNe,reduceEqDiff,reduceCtorEq,reduceLeDiff,reduceAdd,reduceLT,Z9,Z8,Z7,h5,Int.reduceEq,decide_true,decide_false,List.length_map,List.getElem_map,List.length_set,List.getElem_set_self,List.set_set,List.length_append,List.length_singleton,List.length_take,not_false_eq_true,ZM,h]));(try simp +contextual (disch:=omega) only[Z2,Z9,Z8,Z7,h5,Int.reduceEq,decide_true,decide_false,List.length_map,List.getElem_map,List.length_set,List.getElem_set_self,List.set_set,List.length_append,List.length_singleton,List.length_take,not_false_eq_true,ZM,h]);(with_reducible repeat' (first|intro h|refine And.intro (by omega) ?_ | refine exP (by omega) ?_ | apply And.intro))))))
  all_goals try exact oF
  rename_i r7 _ _ r8 _
  rw[tL (by simp)]
  refine GW.ent (FE.trans (FE.perm (H:=[_,_,_,_,_]) (L:=[(r8,_),(q,_),(r5,_),(rc,_)]) (by repeat' (first|exact trivial|(refine And.intro (by simp only[Z9, *,if_true,if_false];try rfl) (And.intro (by simp[ZR,ZP, *]) ?_))))) (FE.close2 (L:=t.map NdO) (i:=k) (j:=5) (by simp[*]) (by simpa using hk') rfl (by simp))) ?_
  have e9:([I t[k].id,I t[k].parent,I t[k].place,I t[k].lit,T t[k].rule,GV.own r8 1 0 (t[k].kids.length + 1)].set 5 (.osl 1 (List.map I t[k].kids ++ [GV.val (Value.int IntKind.i64 1)])))=[I t[k].id,I t[k].parent,I t[k].place,I t[k].lit,T t[k].rule,.osl 1 ((t[k].kids ++ [1]).map I)]:=by simp
  rw[e9]
  show GW _ _ _ _ _ (_ :: (r5,1,_)::(rc,3,_)::H)
  refine ZD mxd ?_
  ((refine R1 (jO @Z9 (jO @Z8 (jO @Z7 h3))) ?_);(repeat' (have h:=Z0 h;simp only[Z1,ZY,Z3,ZZ,and_true,true_and] at h;(refine R1 (jO @Z9 (jO @Z8 (jO @Z7 (jO h3 h)))) ?_;with_reducible repeat' first|exact trivial|intro h|refine aO ?_|refine eO ?_|apply jO))))
  all_goals try exact oF
  exact ⟨_,[_,_,_],[(q,6,_)],⟨_,bentT_set (x:={ t[k] with kids:=t[k].kids ++ [1] }) (k:=k) ht (by have:=hxk.1;simp;omega) hxk.2,rfl⟩,borS,rfl,(by repeat' (first|exact trivial|(refine And.intro (by simp only[Z9, *,if_true,if_false];try rfl) (And.intro (by simp[ZR,ZP, *]) ?_))))⟩
 ·refine GW.ent (FE.frz (r:=q) (sz:=6) (es:=t.map NdO) (by simp only[Z9,h3,if_true,if_false])) ?_
  rw[view_NdOs]
  simp only[Z8,h3,if_true,if_false]
  refine gwpB mxd ?_
  (((try refine qI ?_);(repeat ((first|with_reducible refine qU ?_ | simp only[Z5]);try simp (maxSteps:=9^7) only[↓ S2,S2,ZT,↓reduceIte,reduceNe,reduceEqDiff,reduceCtorEq,reduceLeDiff,reduceAdd,reduceLT,Z9,Z8,Z7,h3,Int.reduceEq,decide_true,decide_false,List.length_map,List.getElem_map,List.length_append,List.length_singleton,List.length_take,ZM]));(try simp +contextual (disch:=omega) only[Z2,Z9,Z8,Z7,h3,Int.reduceEq,decide_true,decide_false,List.length_map,List.getElem_map,List.length_append,List.length_singleton,List.length_take,ZM]);(with_reducible repeat' (first|intro h|refine And.intro (by omega) ?_ | refine exP (by omega) ?_ | apply And.intro)));(repeat' (have h:=Z0 h;simp only[Z1,ZY,Z3,ZZ,and_true,true_and] at h;((try refine qI ?_);(repeat ((first|with_reducible refine qU ?_ | simp only[Z5]);try simp (maxSteps:=9^7) only[↓ S2,S2,ZT,↓reduceIte,reduceNe,reduceEqDiff,reduceCtorEq,reduceLeDiff,reduceAdd,reduceLT,Z9,Z8,Z7,h3,Int.reduceEq,decide_true,decide_false,List.length_map,List.getElem_map,List.length_append,List.length_singleton,List.length_take,ZM,h]));(try simp +contextual (disch:=omega) only[Z2,Z9,Z8,Z7,h3,Int.reduceEq,decide_true,decide_false,List.length_map,List.getElem_map,List.length_append,List.length_singleton,List.length_take,ZM,h]);(with_reducible repeat' (first|intro h|refine And.intro (by omega) ?_ | refine exP (by omega) ?_ | apply And.intro))))))
  all_goals try exact oF
  rename_i r7 _ _ r8 _
  rw[tL (by simp)]
  refine ZD mxd ?_
  ((refine R1 (jO @Z9 (jO @Z8 (jO @Z7 (jO h3 h)))) ?_);(repeat' (have h:=Z0 h;simp only[Z1,ZY,Z3,ZZ,and_true,true_and] at h;(refine R1 (jO @Z9 (jO @Z8 (jO @Z7 (jO h3 (jO h h))))) ?_;with_reducible repeat' first|exact trivial|intro h|refine aO ?_|refine eO ?_|apply jO))))
  all_goals try exact oF
  exact ⟨_,[_,_,_,_],[(r8,6,_)],⟨_,bentT_app ht hk',rfl⟩,by have:=bor_TrN (q:=r8) (t:=t++[t[k]]) (n:=t.length+1) (by simp);simpa using this,rfl,(by repeat' (first|exact trivial|(refine And.intro (by simp only[Z9, *,if_true,if_false];try rfl) (And.intro (by simp[ZR,ZP, *]) ?_))))⟩
 ·refine gwpB mxd ?_
  (((try refine qI ?_);(repeat ((first|with_reducible refine qU ?_ | simp only[Z5]);try simp (maxSteps:=9^7) only[↓ S2,S2,ZT,↓reduceIte,reduceNe,reduceEqDiff,reduceCtorEq,reduceLeDiff,reduceAdd,reduceLT,Z9,Z8,Z7,h3,Int.reduceEq,decide_true,decide_false,List.length_map,List.getElem_map,Int.toNat_zero]));(try simp +contextual (disch:=omega) only[Z2,Z9,Z8,Z7,h3,Int.reduceEq,decide_true,decide_false,List.length_map,List.getElem_map,Int.toNat_zero]);(with_reducible repeat' (first|intro h|refine And.intro (by omega) ?_ | refine exP (by omega) ?_ | apply And.intro)));(repeat' (have h:=Z0 h;simp only[Z1,ZY,Z3,ZZ,and_true,true_and] at h;((try refine qI ?_);(repeat ((first|with_reducible refine qU ?_ | simp only[Z5]);try simp (maxSteps:=9^7) only[↓ S2,S2,ZT,↓reduceIte,reduceNe,reduceEqDiff,reduceCtorEq,reduceLeDiff,reduceAdd,reduceLT,Z9,Z8,Z7,h3,Int.reduceEq,decide_true,decide_false,List.length_map,List.getElem_map,Int.toNat_zero,h]));(try simp +contextual (disch:=omega) only[Z2,Z9,Z8,Z7,h3,Int.reduceEq,decide_true,decide_false,List.length_map,List.getElem_map,Int.toNat_zero,h]);(with_reducible repeat' (first|intro h|refine And.intro (by omega) ?_ | refine exP (by omega) ?_ | apply And.intro))))))
  all_goals try exact oF
  refine ZD mxd ?_
  ((refine R1 (jO @Z9 (jO @Z8 (jO @Z7 h3))) ?_);(repeat' (have h:=Z0 h;simp only[Z1,ZY,Z3,ZZ,and_true,true_and] at h;(refine R1 (jO @Z9 (jO @Z8 (jO @Z7 (jO h3 h)))) ?_;with_reducible repeat' first|exact trivial|intro h|refine aO ?_|refine eO ?_|apply jO))))
  all_goals try exact oF
  exact ⟨_,[_,_,_],[(q,6,_)],⟨_,bentT_set (x:={ t[k] with place:=1 }) (k:=k) ht hkk hxk.2,rfl⟩,borS,rfl,(by repeat' (first|exact trivial|(refine And.intro (by simp only[Z9, *,if_true,if_false];try rfl) (And.intro (by simp[ZR,ZP, *]) ?_))))⟩
 ·have e0:∀n:Int,n<7→(d=n)=False:=fun n hn=>eq_false (by omega)
  refine gwpB mxd ?_
  (((try refine qI ?_);(repeat ((first|with_reducible refine qU ?_ | simp only[Z5]);try simp (maxSteps:=9^7) only[↓ S2,S2,ZT,↓reduceIte,reduceNe,reduceEqDiff,reduceCtorEq,reduceLeDiff,reduceAdd,reduceLT,Z9,Z8,Z7,h3,e0 0 (by omega),e0 1 (by omega),e0 2 (by omega),e0 3 (by omega),e0 4 (by omega),e0 5 (by omega),e0 6 (by omega),decide_false]));(try simp +contextual (disch:=omega) only[Z2,Z9,Z8,Z7,h3,e0 0 (by omega),e0 1 (by omega),e0 2 (by omega),e0 3 (by omega),e0 4 (by omega),e0 5 (by omega),e0 6 (by omega),decide_false]);(with_reducible repeat' (first|intro h|refine And.intro (by omega) ?_ | refine exP (by omega) ?_ | apply And.intro)));(repeat' (have h:=Z0 h;simp only[Z1,ZY,Z3,ZZ,and_true,true_and] at h;((try refine qI ?_);(repeat ((first|with_reducible refine qU ?_ | simp only[Z5]);try simp (maxSteps:=9^7) only[↓ S2,S2,ZT,↓reduceIte,reduceNe,reduceEqDiff,reduceCtorEq,reduceLeDiff,reduceAdd,reduceLT,Z9,Z8,Z7,h3,e0 0 (by omega),e0 1 (by omega),e0 2 (by omega),e0 3 (by omega),e0 4 (by omega),e0 5 (by omega),e0 6 (by omega),decide_false,h]));(try simp +contextual (disch:=omega) only[Z2,Z9,Z8,Z7,h3,e0 0 (by omega),e0 1 (by omega),e0 2 (by omega),e0 3 (by omega),e0 4 (by omega),e0 5 (by omega),e0 6 (by omega),decide_false,h]);(with_reducible repeat' (first|intro h|refine And.intro (by omega) ?_ | refine exP (by omega) ?_ | apply And.intro))))))
  all_goals try exact oF
  refine ZD mxd ?_
  ((refine R1 (jO @Z9 (jO @Z8 (jO @Z7 h3))) ?_);(repeat' (have h:=Z0 h;simp only[Z1,ZY,Z3,ZZ,and_true,true_and] at h;(refine R1 (jO @Z9 (jO @Z8 (jO @Z7 (jO h3 h)))) ?_;with_reducible repeat' first|exact trivial|intro h|refine aO ?_|refine eO ?_|apply jO))))
  all_goals try exact oF
  exact ⟨_,[_,_,_],[(q,6,_)],⟨t,bentT_of ht,rfl⟩,bor_TrO,rfl,(by repeat' (first|exact trivial|(refine And.intro (by simp only[Z9, *,if_true,if_false];try rfl) (And.intro (by simp[ZR,ZP, *]) ?_))))⟩
theorem w4 (bs:List UInt8):Pu 4 [Bs bs] (· = B (decide ((1048576:Int)<bs.length))):=by
 refine ZN mxd i4 rfl (by simp) ?_;refine X0 ?_
 (refine V1 @List.length_map.{0,0} ?_;with_reducible repeat' exact trivial)
end Go.Proofs.YtmdfoigdflaliaaGreatDoor
namespace Go.Proofs.YtmdfoigdflaliaaGreatDoor
open Go.Gh
open Nat (reduceEqDiff reduceLeDiff reduceAdd reduceLT)
open Int (reduceNe)
open Go.Lib
end Go.Proofs.YtmdfoigdflaliaaGreatDoor
