/- The laws FnEdits, FnEdited and FnSwapped return true whatever the input, and the input reads behind the call as before. No condition. -/
import Derived.Test.YtknbnefbgpnkgaaGreatFed23
import Derived.Test.YtknbnefbgpnkgaaGreatFed28
import Derived.Test.YtknbnefbgpnkgaaGreatFed32
set_option maxHeartbeats 40000000
set_option maxRecDepth 20000
set_option linter.unusedSimpArgs false
set_option linter.unusedVariables false
namespace Go.Proofs.YtknbnefbgpnkgaaGreat
open Go.Gh
open Nat (reduceEqDiff reduceLeDiff reduceAdd reduceLT)
open Int (reduceNe)
theorem q68 (g:Gram) (t:List Nod) (i k:Int) (hg:ZA g) (hm:Zk 1 t≤400) (hi:0≤i∧i<t.length) (hk:0≤k∧k<t.length):Pu 68 [Gr g,Tr t,I i,I k] (· = .tup [Tr (swT g t (min i k).toNat (max i k).toNat).1,I (swT g t (min i k).toNat (max i k).toNat).2]):=
 Pure.bor ((o68 g t i k hg hm hi hk []).mono fun v H' ⟨r,h1,h2⟩=>by
  subst h1;subst h2
  exact .tup (.cons (bor_Tr ZX rfl) (.cons .refl .nil)))
theorem w53 (g:Gram) (t:List Nod) (hg:drG g) (ht:goodT 40 t):Dv Tryz.prog 53 [Gr g,Tr t] (fun v=>∃e:Edi,drE e∧v=Ed e):=by
 refine Dv.of fun rc H=> ?_
 have hsm:=drG_sm hg
 have ht1:=ht.2.1
 have ht2:=ht.2.2
 have hgr:∀s room id, -1000≤room→room≤17→Dc Tryz.prog 109 [Gr g,T s,I room,I id] (fun v H1=>∃(q:Nat) (t:List Nod),goodT 800 t∧v = .agg [.own q 6 0 t.length]∧H1=[(q,6,t.map NdO)]):=fun s room id h1 h2=>
  (o109 g hg room.toNat _ room id (Nat.le_refl _) h1 oT).mono fun v H1 ⟨q,t,k1,k2⟩=>⟨q,t,k1.mono (by unfold grB;split<;>omega),k2⟩
 refine gstartG i53 rfl (by simp) ?_
 refine gwpS mxd ?_
 ((refine R1 (jO @Z9 (jO @Z7 @Z8)) ?_);(repeat' (have h:=Z6 h;simp only[Z4,Z0,Z5,Z1,and_true,true_and] at h;(refine R1 (jO @Z9 (jO @Z7 (jO @Z8 h))) ?_;with_reducible repeat' first|exact trivial|intro h|refine aO ?_|refine eO ?_|apply jO))))
 refine gwpS mxd ?_
 ((refine R1 (jO @Z9 (jO @Z7 @Z8)) ?_);(repeat' (have h:=Z6 h;simp only[Z4,Z0,Z5,Z1,and_true,true_and] at h;(refine R1 (jO @Z9 (jO @Z7 (jO @Z8 h))) ?_;with_reducible repeat' first|exact trivial|intro h|refine aO ?_|refine eO ?_|apply jO))))
 refine callS.dv (YK 3 oT) (by simp only[Z9, *,if_true,if_false]) ?_
 rintro _ ⟨a,ha,rfl⟩
 ((refine R1 (jO @Z9 (jO @Z7 @Z8)) ?_);(repeat' (have h:=Z6 h;simp only[Z4,Z0,Z5,Z1,and_true,true_and] at h;(refine R1 (jO @Z9 (jO @Z7 (jO @Z8 h))) ?_;with_reducible repeat' first|exact trivial|intro h|refine aO ?_|refine eO ?_|apply jO))))
 refine callS.dv (YK 12 oT) (by simp only[Z9, *,if_true,if_false]) ?_
 rintro _ ⟨b,hb,rfl⟩
 have eb:=wrS (a:=(b:Int)-3) oT
 have ea:=wrS (a:=1+(a:Int)) oT
 ((refine R1 (jO @Z9 (jO @Z7 (jO @Z8 (jO ea eb)))) ?_;with_reducible repeat' intro h);(repeat' (have h:=Z6 h;simp only[Z4,Z0,Z5,Z1,and_true,true_and] at h;(refine R1 (jO @Z9 (jO @Z7 (jO @Z8 (jO ea (jO eb h))))) ?_))))
 rename_i re _
 have h3:=h
 obtain ⟨kd,hkd⟩:∃kd:Int,1+(a:Int)=kd:=⟨_,rfl⟩
 have hkc:kd=1∨kd=2∨kd=3:=by omega
 generalize (b:Int)-3=lt
 rw[hkd]
 clear hkd ea eb
 refine gwpS mxd ?_
 ((refine R1 (jO @Z9 (jO @Z7 (jO @Z8 h3))) ?_);(repeat' (have h:=Z6 h;simp only[Z4,Z0,Z5,Z1,and_true,true_and] at h;(refine R1 (jO @Z9 (jO @Z7 (jO @Z8 (jO h3 h)))) ?_;with_reducible repeat' first|exact trivial|intro h|refine aO ?_|refine eO ?_|apply jO))))
 refine callS.dv (YK t.length oT) (by simp only[Z9,h3,if_true,if_false]) ?_
 rintro _ ⟨i,hi,rfl⟩
 ((refine R1 (jO @Z9 (jO @Z7 (jO @Z8 h3))) ?_);(repeat' (have h:=Z6 h;simp only[Z4,Z0,Z5,Z1,and_true,true_and] at h;(refine R1 (jO @Z9 (jO @Z7 (jO @Z8 (jO h3 h)))) ?_;with_reducible repeat' first|exact trivial|intro h|refine aO ?_|refine eO ?_|apply jO))))
 refine gwpS mxd ?_
 ((refine R1 (jO @Z9 (jO @Z7 (jO @Z8 h3))) ?_);(repeat' (have h:=Z6 h;simp only[Z4,Z0,Z5,Z1,and_true,true_and] at h;(refine R1 (jO @Z9 (jO @Z7 (jO @Z8 (jO h3 h)))) ?_;with_reducible repeat' first|exact trivial|intro h|refine aO ?_|refine eO ?_|apply jO))))
 all_goals try exact oF
 refine GW.seq ?_
 refine GW.mono (Q:=fun ex env H'=>ex = .normal ∧ ∃e:Edi,drE e∧FE env H' [(0,.ptr rc 3 0 0),(6,.raw 5),(7,.ptr re 5 0 0)] ((re,5,[Ed e])::(rc,3,[.cur])::H)) ?_ ?_
 ·rintro ex env H' ⟨rfl,e,he,hfe⟩
  show GW _ _ _ _ _ _
  refine GW.ent hfe ?_
  obtain ⟨k,n,o,l,u⟩:=e
  refine ZB mxd ?_
  ((refine R1 (jO @Z9 (jO @Z7 (jO @Z8 h3))) ?_);(repeat' (have h:=Z6 h;simp only[Z4,Z0,Z5,Z1,and_true,true_and] at h;(refine R1 (jO @Z9 (jO @Z7 (jO @Z8 (jO h3 h)))) ?_;with_reducible repeat' first|exact trivial|intro h|refine aO ?_|refine eO ?_|apply jO))))
  refine callS.dv (w41 24) (by simp only[Z9,h3,if_true,if_false]) ?_
  rintro _ ⟨b1,rfl⟩
  cases b1
  all_goals
   ((refine R1 (jO @Z9 (jO @Z7 (jO @Z8 h3))) ?_);(repeat' (have h:=Z6 h;simp only[Z4,Z0,Z5,Z1,and_true,true_and] at h;(refine R1 (jO @Z9 (jO @Z7 (jO @Z8 (jO h3 h)))) ?_;with_reducible repeat' first|exact trivial|intro h|refine aO ?_|refine eO ?_|apply jO))))
   refine callS.dv (w41 24) (by simp only[Z9,h3,if_true,if_false]) ?_
   rintro _ ⟨b2,rfl⟩
   cases b2
   ·((refine R1 (jO @Z9 (jO @Z7 (jO @Z8 h3))) ?_);(repeat' (have h:=Z6 h;simp only[Z4,Z0,Z5,Z1,and_true,true_and] at h;(refine R1 (jO @Z9 (jO @Z7 (jO @Z8 (jO h3 h)))) ?_;with_reducible repeat' first|exact trivial|intro h|refine aO ?_|refine eO ?_|apply jO))))
    exact ⟨_,[_,_],[],edF he,.refl,rfl,(by repeat' (first|exact trivial|(refine jO (by simp only[Z9, *,if_true,if_false];try rfl) (jO (by simp[ZW,ZV, *]) ?_))))⟩
   ·((refine R1 (jO @Z9 (jO @Z7 (jO @Z8 h3))) ?_);(repeat' (have h:=Z6 h;simp only[Z4,Z0,Z5,Z1,and_true,true_and] at h;(refine R1 (jO @Z9 (jO @Z7 (jO @Z8 (jO h3 h)))) ?_;with_reducible repeat' first|exact trivial|intro h|refine aO ?_|refine eO ?_|apply jO))))
    refine callS.dv (YK 6 oT) (by simp only[Z9,h3,if_true,if_false]) ?_
    rintro _ ⟨k2,_,rfl⟩
    ((refine R1 (jO @Z9 (jO @Z7 (jO @Z8 h3))) ?_);(repeat' (have h:=Z6 h;simp only[Z4,Z0,Z5,Z1,and_true,true_and] at h;(refine R1 (jO @Z9 (jO @Z7 (jO @Z8 (jO h3 h)))) ?_;with_reducible repeat' first|exact trivial|intro h|refine aO ?_|refine eO ?_|apply jO))))
    exact ⟨_,[_,_],[],edF he,.refl,rfl,(by repeat' (first|exact trivial|(refine jO (by simp only[Z9, *,if_true,if_false];try rfl) (jO (by simp[ZW,ZV, *]) ?_))))⟩
 ·have hts:=tmod_rng (n:=t.length) (a:=0)
  rcases hkc with rfl|rfl|rfl
  ·refine ZB mxd ?_
   (((try refine qI ?_);(repeat ((first|with_reducible refine qU ?_ | simp only[ZP]);try simp (maxSteps:=9^7) only[↓ S2,S2,ZL,↓reduceIte,reduceNe,reduceEqDiff,reduceCtorEq,reduceLeDiff,reduceAdd,reduceLT,Z9,Z7,Z8,h3,Int.reduceEq,decide_true,decide_false]));(try simp +contextual (disch:=omega) only[Z2,Z9,Z7,Z8,h3,Int.reduceEq,decide_true,decide_false]);(with_reducible repeat' (first|intro h|refine jO oT ?_ | refine exP oT ?_ | apply jO)));(repeat' (have h:=Z6 h;simp only[Z4,Z0,Z5,Z1,and_true,true_and] at h;((try refine qI ?_);(repeat ((first|with_reducible refine qU ?_ | simp only[ZP]);try simp (maxSteps:=9^7) only[↓ S2,S2,ZL,↓reduceIte,reduceNe,reduceEqDiff,reduceCtorEq,reduceLeDiff,reduceAdd,reduceLT,Z9,Z7,Z8,h3,Int.reduceEq,decide_true,decide_false,h]));(try simp +contextual (disch:=omega) only[Z2,Z9,Z7,Z8,h3,Int.reduceEq,decide_true,decide_false,h]);(with_reducible repeat' (first|intro h|refine jO oT ?_ | refine exP oT ?_ | apply jO))))))
   have tl:True:=trivial
   refine ZK mxd (ι:={ k:Nat // k≤t.length }) (fun k=>[(0,.ptr rc 3 0 0),(4,.rop 2 (Gr g)),(5,.rop 1 (Tr t)),(6,.raw 5),(7,.ptr re 5 0 0),(8,I i),(9,I k.1)]) (fun _ => (re,5,[.agg [I 1,I t[i].id,I 0,I lt,Zy]])::(rc,3,[.cur])::H) (fun k=>t.length-k.1) ⟨0,oT⟩ (by simp[E2]) rfl ?_
   rintro ⟨k,hk⟩
   dsimp only
   rcases nL k t.length with hlk|hgk
   ·obtain ⟨m,hm,em⟩:=tmod_rng (a:=(i:Int)+(k:Int)) (n:=t.length) oT oT
    ((refine R1 (jO @Z9 (jO @Z7 (jO @Z8 (jO h3 em)))) ?_;with_reducible repeat' first|intro h|refine aO ?_|apply jO);(repeat' (have h:=Z6 h;simp only[Z4,Z0,Z5,Z1,and_true,true_and] at h;(refine R1 (jO @Z9 (jO @Z7 (jO @Z8 (jO h3 (jO em h))))) ?_;with_reducible repeat' first|exact trivial|intro h|refine aO ?_|refine eO ?_|apply jO))))
    all_goals try exact oF
    have hfr:=w76 g t[m].rule hsm
    generalize Zl g.rules t[m].rule = r at hfr
    refine callS.eq hfr ?_
    clear hfr
    cases hlit:r.lit
    ·((refine R1 (jO @Z9 (jO @Z7 (jO @Z8 (jO h3 (jO em hlit))))) ?_);(repeat' (have h:=Z6 h;simp only[Z4,Z0,Z5,Z1,and_true,true_and] at h;(refine R1 (jO @Z9 (jO @Z7 (jO @Z8 (jO h3 (jO em (jO hlit h)))))) ?_;with_reducible repeat' first|exact trivial|intro h|refine aO ?_|refine eO ?_|apply jO))))
     all_goals try exact oF
     exact nx ⟨k+1,oT⟩ (by dsimp only;omega) (by simp[E2]) rfl
    ·((refine R1 (jO @Z9 (jO @Z7 (jO @Z8 (jO h3 (jO em hlit))))) ?_);(repeat' (have h:=Z6 h;simp only[Z4,Z0,Z5,Z1,and_true,true_and] at h;(refine R1 (jO @Z9 (jO @Z7 (jO @Z8 (jO h3 (jO em (jO hlit h)))))) ?_;with_reducible repeat' first|exact trivial|intro h|refine aO ?_|refine eO ?_|apply jO))))
     all_goals try exact oF
     refine callS.dv (w41 12) (by simp only[Z9,h3,if_true,if_false]) ?_
     rintro _ ⟨b1,rfl⟩
     cases b1
     ·((refine R1 (jO @Z9 (jO @Z7 (jO @Z8 (jO h3 (jO em hlit))))) ?_;with_reducible repeat' intro h);(repeat' (have h:=Z6 h;simp only[Z4,Z0,Z5,Z1,and_true,true_and] at h;(refine R1 (jO @Z9 (jO @Z7 (jO @Z8 (jO h3 (jO em (jO hlit h)))))) ?_;with_reducible repeat' first|exact trivial|intro h|refine aO ?_|refine eO ?_|apply jO))))
      all_goals try exact oF
      refine callS.dv (w41 20) (by simp only[Z9,h3,if_true,if_false]) ?_
      rintro _ ⟨b2,rfl⟩
      cases b2
      ·((refine R1 (jO @Z9 (jO @Z7 (jO @Z8 h3))) ?_);(repeat' (have h:=Z6 h;simp only[Z4,Z0,Z5,Z1,and_true,true_and] at h;(refine R1 (jO @Z9 (jO @Z7 (jO @Z8 (jO h3 h)))) ?_;with_reducible repeat' first|exact trivial|intro h|refine aO ?_|refine eO ?_|apply jO))))
       exact edN' (by simp[E2])
      ·((refine R1 (jO @Z9 (jO @Z7 (jO @Z8 h3))) ?_);(repeat' (have h:=Z6 h;simp only[Z4,Z0,Z5,Z1,and_true,true_and] at h;(refine R1 (jO @Z9 (jO @Z7 (jO @Z8 (jO h3 h)))) ?_;with_reducible repeat' first|exact trivial|intro h|refine aO ?_|refine eO ?_|apply jO))))
       exact edN' (by simp[E2])
     ·((refine R1 (jO @Z9 (jO @Z7 (jO @Z8 (jO h3 (jO em hlit))))) ?_);(repeat' (have h:=Z6 h;simp only[Z4,Z0,Z5,Z1,and_true,true_and] at h;(refine R1 (jO @Z9 (jO @Z7 (jO @Z8 (jO h3 (jO em (jO hlit h)))))) ?_;with_reducible repeat' first|exact trivial|intro h|refine aO ?_|refine eO ?_|apply jO))))
      all_goals try exact oF
      exact nx ⟨k+1,oT⟩ (by dsimp only;omega) (by simp[E2]) rfl
   ·((refine R1 (jO @Z9 (jO @Z7 (jO @Z8 h3))) ?_;with_reducible repeat' intro h);(repeat' (have h:=Z6 h;simp only[Z4,Z0,Z5,Z1,and_true,true_and] at h;(refine R1 (jO @Z9 (jO @Z7 (jO @Z8 (jO h3 h)))) ?_;with_reducible repeat' first|exact trivial|intro h|refine aO ?_|refine eO ?_|apply jO))))
    all_goals try exact oF
    refine callS.dv (w41 20) (by simp only[Z9,h3,if_true,if_false]) ?_
    rintro _ ⟨b2,rfl⟩
    cases b2
    ·((refine R1 (jO @Z9 (jO @Z7 (jO @Z8 h3))) ?_);(repeat' (have h:=Z6 h;simp only[Z4,Z0,Z5,Z1,and_true,true_and] at h;(refine R1 (jO @Z9 (jO @Z7 (jO @Z8 (jO h3 h)))) ?_;with_reducible repeat' first|exact trivial|intro h|refine aO ?_|refine eO ?_|apply jO))))
     exact edN' (by simp[E2])
    ·((refine R1 (jO @Z9 (jO @Z7 (jO @Z8 h3))) ?_);(repeat' (have h:=Z6 h;simp only[Z4,Z0,Z5,Z1,and_true,true_and] at h;(refine R1 (jO @Z9 (jO @Z7 (jO @Z8 (jO h3 h)))) ?_;with_reducible repeat' first|exact trivial|intro h|refine aO ?_|refine eO ?_|apply jO))))
     exact edN' (by simp[E2])
  ·refine ZB mxd ?_
   (((try refine qI ?_);(repeat ((first|with_reducible refine qU ?_ | simp only[ZP]);try simp (maxSteps:=9^7) only[↓ S2,S2,ZL,↓reduceIte,reduceNe,reduceEqDiff,reduceCtorEq,reduceLeDiff,reduceAdd,reduceLT,Z9,Z7,Z8,h3,Int.reduceEq,decide_true,decide_false]));(try simp +contextual (disch:=omega) only[Z2,Z9,Z7,Z8,h3,Int.reduceEq,decide_true,decide_false]);(with_reducible repeat' (first|intro h|refine jO oT ?_ | refine exP oT ?_ | apply jO)));(repeat' (have h:=Z6 h;simp only[Z4,Z0,Z5,Z1,and_true,true_and] at h;((try refine qI ?_);(repeat ((first|with_reducible refine qU ?_ | simp only[ZP]);try simp (maxSteps:=9^7) only[↓ S2,S2,ZL,↓reduceIte,reduceNe,reduceEqDiff,reduceCtorEq,reduceLeDiff,reduceAdd,reduceLT,Z9,Z7,Z8,h3,Int.reduceEq,decide_true,decide_false,h]));(try simp +contextual (disch:=omega) only[Z2,Z9,Z7,Z8,h3,Int.reduceEq,decide_true,decide_false,h]);(with_reducible repeat' (first|intro h|refine jO oT ?_ | refine exP oT ?_ | apply jO))))))
   refine callS.eq (w30 g t i hsm) ?_
   ((refine R1 (jO @Z9 (jO @Z7 (jO @Z8 h3))) ?_);(repeat' (have h:=Z6 h;simp only[Z4,Z0,Z5,Z1,and_true,true_and] at h;(refine R1 (jO @Z9 (jO @Z7 (jO @Z8 (jO h3 h)))) ?_;with_reducible repeat' first|exact trivial|intro h|refine aO ?_|refine eO ?_|apply jO))))
   refine callA.dv (YK 6 oT) (by simp only[Z9,h3,if_true,if_false]) ?_
   rintro _ ⟨x6,hx6,rfl⟩
   ((refine R1 (jO @Z9 (jO @Z7 (jO @Z8 h3))) ?_);(repeat' (have h:=Z6 h;simp only[Z4,Z0,Z5,Z1,and_true,true_and] at h;(refine R1 (jO @Z9 (jO @Z7 (jO @Z8 (jO h3 h)))) ?_;with_reducible repeat' first|exact trivial|intro h|refine aO ?_|refine eO ?_|apply jO))))
   refine callA.dv (YK 9 oT) (by simp only[Z9,h3,if_true,if_false]) ?_
   rintro _ ⟨x9,hx9,rfl⟩
   ((refine R1 (jO @Z9 (jO @Z7 (jO @Z8 h3))) ?_);(repeat' (have h:=Z6 h;simp only[Z4,Z0,Z5,Z1,and_true,true_and] at h;(refine R1 (jO @Z9 (jO @Z7 (jO @Z8 (jO h3 h)))) ?_;with_reducible repeat' first|exact trivial|intro h|refine aO ?_|refine eO ?_|apply jO))))
   refine callA.dc (hgr _ _ _ oT oT) (by simp only[Z9,h3,if_true,if_false]) ?_
   rintro _ _ ⟨q,u,hu,rfl,rfl⟩ hn9
   have h9:=Z6 hn9
   simp only[List.cons_append,List.nil_append] at h9
   (replace h9:=h9;simp only[VN] at h9)
   ((refine R1 (jO @Z9 (jO @Z7 (jO @Z8 h9))) ?_);(repeat' (have h:=Z6 h;simp only[Z4,Z0,Z5,Z1,and_true,true_and] at h;(refine R1 (jO @Z9 (jO @Z7 (jO @Z8 (jO h9 h)))) ?_;with_reducible repeat' first|exact trivial|intro h|refine aO ?_|refine eO ?_|apply jO))))
   refine callS.dv (w41 12) (by simp only[Z9,h9,if_true,if_false]) ?_
   rintro _ ⟨b1,rfl⟩
   cases b1
   ·((refine R1 (jO @Z9 (jO @Z7 (jO @Z8 h9))) ?_);(repeat' (have h:=Z6 h;simp only[Z4,Z0,Z5,Z1,and_true,true_and] at h;(refine R1 (jO @Z9 (jO @Z7 (jO @Z8 (jO h9 h)))) ?_;with_reducible repeat' first|exact trivial|intro h|refine aO ?_|refine eO ?_|apply jO))))
    exact ⟨⟨2,t[i].id,0,0,u⟩,⟨hu.1,hu.2.2⟩,FE.trans (FE.perm (H:=[_,_,_]) (L:=[(re,_),(q,_),(rc,_)]) (by repeat' (first|exact trivial|(refine jO (by simp only[Z9, *,if_true,if_false];try rfl) (jO (by simp[ZW,ZV, *]) ?_))))) (FE.edO (by simp[E2]) (by simp[*]) rfl)⟩
   ·((refine R1 (jO @Z9 (jO @Z7 (jO @Z8 h9))) ?_);(repeat' (have h:=Z6 h;simp only[Z4,Z0,Z5,Z1,and_true,true_and] at h;(refine R1 (jO @Z9 (jO @Z7 (jO @Z8 (jO h9 h)))) ?_;with_reducible repeat' first|exact trivial|intro h|refine aO ?_|refine eO ?_|apply jO))))
    refine callS.eq (w70 g hsm) ?_
    ((refine R1 (jO @Z9 (jO @Z7 (jO @Z8 h9))) ?_);(repeat' (have h:=Z6 h;simp only[Z4,Z0,Z5,Z1,and_true,true_and] at h;(refine R1 (jO @Z9 (jO @Z7 (jO @Z8 (jO h9 h)))) ?_;with_reducible repeat' first|exact trivial|intro h|refine aO ?_|refine eO ?_|apply jO))))
    all_goals try exact oF
    refine callA.dc (hgr _ _ _ oT oT) (by simp only[Z9,h9,if_true,if_false]) ?_
    rintro _ _ ⟨q2,u2,hu2,rfl,rfl⟩ hn10
    have h10:=Z6 hn10
    simp only[List.cons_append,List.nil_append] at h10
    (replace h10:=h10;simp only[VN] at h10)
    ((refine R1 (jO @Z9 (jO @Z7 (jO @Z8 h10))) ?_);(repeat' (have h:=Z6 h;simp only[Z4,Z0,Z5,Z1,and_true,true_and] at h;(refine R1 (jO @Z9 (jO @Z7 (jO @Z8 (jO h10 h)))) ?_;with_reducible repeat' first|exact trivial|intro h|refine aO ?_|refine eO ?_|apply jO))))
    exact ⟨⟨2,t[i].id,0,0,u2⟩,⟨hu2.1,hu2.2.2⟩,FE.trans (FE.perm (H:=[_,_,_,_]) (L:=[(re,_),(q2,_),(rc,_)]) (by repeat' (first|exact trivial|(refine jO (by simp only[Z9, *,if_true,if_false];try rfl) (jO (by simp[ZW,ZV, *]) ?_))))) (FE.edO (by simp[E2]) (by simp[*]) rfl)⟩
  ·refine ZB mxd ?_
   (((try refine qI ?_);(repeat ((first|with_reducible refine qU ?_ | simp only[ZP]);try simp (maxSteps:=9^7) only[↓ S2,S2,ZL,↓reduceIte,reduceNe,reduceEqDiff,reduceCtorEq,reduceLeDiff,reduceAdd,reduceLT,Z9,Z7,Z8,h3,Int.reduceEq,decide_true,decide_false]));(try simp +contextual (disch:=omega) only[Z2,Z9,Z7,Z8,h3,Int.reduceEq,decide_true,decide_false]);(with_reducible repeat' (first|intro h|refine jO oT ?_ | refine exP oT ?_ | apply jO)));(repeat' (have h:=Z6 h;simp only[Z4,Z0,Z5,Z1,and_true,true_and] at h;((try refine qI ?_);(repeat ((first|with_reducible refine qU ?_ | simp only[ZP]);try simp (maxSteps:=9^7) only[↓ S2,S2,ZL,↓reduceIte,reduceNe,reduceEqDiff,reduceCtorEq,reduceLeDiff,reduceAdd,reduceLT,Z9,Z7,Z8,h3,Int.reduceEq,decide_true,decide_false,h]));(try simp +contextual (disch:=omega) only[Z2,Z9,Z7,Z8,h3,Int.reduceEq,decide_true,decide_false,h]);(with_reducible repeat' (first|intro h|refine jO oT ?_ | refine exP oT ?_ | apply jO))))))
   refine callA.dv (YK t.length oT) (by simp only[Z9,h3,if_true,if_false]) ?_
   rintro _ ⟨j,hj,rfl⟩
   ((refine R1 (jO @Z9 (jO @Z7 (jO @Z8 h3))) ?_);(repeat' (have h:=Z6 h;simp only[Z4,Z0,Z5,Z1,and_true,true_and] at h;(refine R1 (jO @Z9 (jO @Z7 (jO @Z8 (jO h3 h)))) ?_;with_reducible repeat' first|exact trivial|intro h|refine aO ?_|refine eO ?_|apply jO))))
   all_goals try exact oF
   have hil:i<t.length:=by omega
   have hjl:j<t.length:=by omega
   generalize t[j].id = ot
   refine ZK mxd (ι:={ k:Nat // k≤t.length }) (fun k=>[(0,.ptr rc 3 0 0),(4,.rop 2 (Gr g)),(5,.rop 1 (Tr t)),(6,.raw 5),(7,.ptr re 5 0 0),(8,I i),(12,I k.1)]) (fun _ => (re,5,[.agg [I 3,I t[i].id,I ot,I 0,Zy]])::(rc,3,[.cur])::H) (fun k=>t.length-k.1) ⟨0,oT⟩ (by simp[E2]) rfl ?_
   rintro ⟨k,hk⟩
   dsimp only
   rcases nL k t.length with hlk|hgk
   ·obtain ⟨m,hm,em⟩:=tmod_rng (a:=(i:Int)+(k:Int)) (n:=t.length) oT oT
    have hsw:=q68 g t i m hsm (mk_goodT ht) oT oT
    generalize swT g t (min (i:Int) (m:Int)).toNat (max (i:Int) (m:Int)).toNat = sw at hsw
    obtain ⟨u,cd⟩:=sw
    dsimp only at hsw
    ((refine R1 (jO @Z9 (jO @Z7 (jO @Z8 (jO h3 em)))) ?_;with_reducible repeat' first|intro h|refine aO ?_|apply jO);(repeat' (have h:=Z6 h;simp only[Z4,Z0,Z5,Z1,and_true,true_and] at h;(refine R1 (jO @Z9 (jO @Z7 (jO @Z8 (jO h3 (jO em h))))) ?_;with_reducible repeat' first|exact trivial|intro h|refine aO ?_|refine eO ?_|apply jO))))
    all_goals try exact oF
    refine callS.eq hsw ?_
    clear hsw
    by_cases hcd:cd=0
    ·subst hcd
     ((refine R1 (jO @Z9 (jO @Z7 (jO @Z8 (jO h3 (jO em @decide_true))))) ?_);(repeat' (have h:=Z6 h;simp only[Z4,Z0,Z5,Z1,and_true,true_and] at h;(refine R1 (jO @Z9 (jO @Z7 (jO @Z8 (jO h3 (jO em (jO @decide_true h)))))) ?_;with_reducible repeat' first|exact trivial|intro h|refine aO ?_|refine eO ?_|apply jO))))
     all_goals try exact oF
     refine callS.dv (w41 6) (by simp only[Z9,h3,if_true,if_false]) ?_
     rintro _ ⟨b1,rfl⟩
     cases b1
     ·((refine R1 (jO @Z9 (jO @Z7 (jO @Z8 (jO h3 em)))) ?_;with_reducible repeat' intro h);(repeat' (have h:=Z6 h;simp only[Z4,Z0,Z5,Z1,and_true,true_and] at h;(refine R1 (jO @Z9 (jO @Z7 (jO @Z8 (jO h3 (jO em h))))) ?_;with_reducible repeat' first|exact trivial|intro h|refine aO ?_|refine eO ?_|apply jO))))
      all_goals try exact oF
      exact edN' (by simp[E2])
     ·((refine R1 (jO @Z9 (jO @Z7 (jO @Z8 (jO h3 em)))) ?_);(repeat' (have h:=Z6 h;simp only[Z4,Z0,Z5,Z1,and_true,true_and] at h;(refine R1 (jO @Z9 (jO @Z7 (jO @Z8 (jO h3 (jO em h))))) ?_;with_reducible repeat' first|exact trivial|intro h|refine aO ?_|refine eO ?_|apply jO))))
      all_goals try exact oF
      exact nx ⟨k+1,oT⟩ (by dsimp only;omega) (by simp[E2]) rfl
    ·have hcd':=eq_false hcd
     ((refine R1 (jO @Z9 (jO @Z7 (jO @Z8 (jO h3 (jO em (jO hcd' @decide_false)))))) ?_);(repeat' (have h:=Z6 h;simp only[Z4,Z0,Z5,Z1,and_true,true_and] at h;(refine R1 (jO @Z9 (jO @Z7 (jO @Z8 (jO h3 (jO em (jO hcd' (jO @decide_false h))))))) ?_;with_reducible repeat' first|exact trivial|intro h|refine aO ?_|refine eO ?_|apply jO))))
     all_goals try exact oF
     exact nx ⟨k+1,oT⟩ (by dsimp only;omega) (by simp[E2]) rfl
   ·((refine R1 (jO @Z9 (jO @Z7 (jO @Z8 h3))) ?_;with_reducible repeat' intro h);(repeat' (have h:=Z6 h;simp only[Z4,Z0,Z5,Z1,and_true,true_and] at h;(refine R1 (jO @Z9 (jO @Z7 (jO @Z8 (jO h3 h)))) ?_;with_reducible repeat' first|exact trivial|intro h|refine aO ?_|refine eO ?_|apply jO))))
    all_goals try exact oF
    exact edN' (by simp[E2])
theorem w8 (bs:List UInt8):Pu 8 [Bs bs] (· = B (decide ((1048576:Int)<bs.length))):=by
 refine ZZ mxd i8 rfl (by simp) ?_;refine X0 ?_
 (refine V1 @List.length_map.{0,0} ?_;with_reducible repeat' exact trivial)
theorem w15 (bs:List UInt8) (hb:bs.length≤1048576):Pu 15 [Bs bs] (fun v=>∃g t e,drG g∧bentT t∧drE e∧v = .tup [Gr g,Tr t,Ed e]):=by
 refine gstartG i15 rfl (by simp) ?_
 refine gwpS mxd ?_
 ((refine R1 (jO @Z9 (jO @Z7 @Z8)) ?_);(repeat' (have h:=Z6 h;simp only[Z4,Z0,Z5,Z1,and_true,true_and] at h;(refine R1 (jO @Z9 (jO @Z7 (jO @Z8 h))) ?_;with_reducible repeat' first|exact trivial|intro h|refine aO ?_|refine eO ?_|apply jO))))
 refine gwpS mxd ?_
 ((refine R1 (jO @Z9 (jO @Z7 @Z8)) ?_);(repeat' (have h:=Z6 h;simp only[Z4,Z0,Z5,Z1,and_true,true_and] at h;(refine R1 (jO @Z9 (jO @Z7 (jO @Z8 h))) ?_;with_reducible repeat' first|exact trivial|intro h|refine aO ?_|refine eO ?_|apply jO))))
 refine callS.of (o39 bs hb _) ?_
 rintro _ _ ⟨rc,rfl,rfl⟩ hn
 ((refine R1 (jO @Z9 (jO @Z7 @Z8)) ?_);(repeat' (have h:=Z6 h;simp only[Z4,Z0,Z5,Z1,and_true,true_and] at h;(refine R1 (jO @Z9 (jO @Z7 (jO @Z8 h))) ?_;with_reducible repeat' first|exact trivial|intro h|refine aO ?_|refine eO ?_|apply jO))))
 refine gwpS mxd ?_
 ((refine R1 (jO @Z9 (jO @Z7 @Z8)) ?_);(repeat' (have h:=Z6 h;simp only[Z4,Z0,Z5,Z1,and_true,true_and] at h;(refine R1 (jO @Z9 (jO @Z7 (jO @Z8 h))) ?_;with_reducible repeat' first|exact trivial|intro h|refine aO ?_|refine eO ?_|apply jO))))
 refine callS.dv (w41 2) ZX ?_
 rintro _ ⟨b,rfl⟩
 ((refine R1 (jO @Z9 (jO @Z7 @Z8)) ?_);(repeat' (have h:=Z6 h;simp only[Z4,Z0,Z5,Z1,and_true,true_and] at h;(refine R1 (jO @Z9 (jO @Z7 (jO @Z8 h))) ?_;with_reducible repeat' first|exact trivial|intro h|refine aO ?_|refine eO ?_|apply jO))))
 refine callS.dv (w51 b) ZX ?_
 rintro _ ⟨g,hg,rfl⟩
 ((refine R1 (jO @Z9 (jO @Z7 @Z8)) ?_);(repeat' (have h:=Z6 h;simp only[Z4,Z0,Z5,Z1,and_true,true_and] at h;(refine R1 (jO @Z9 (jO @Z7 (jO @Z8 h))) ?_;with_reducible repeat' first|exact trivial|intro h|refine aO ?_|refine eO ?_|apply jO))))
 refine gwpS mxd ?_
 ((refine R1 (jO @Z9 (jO @Z7 @Z8)) ?_);(repeat' (have h:=Z6 h;simp only[Z4,Z0,Z5,Z1,and_true,true_and] at h;(refine R1 (jO @Z9 (jO @Z7 (jO @Z8 h))) ?_;with_reducible repeat' first|exact trivial|intro h|refine aO ?_|refine eO ?_|apply jO))))
 refine callS.dc (o52 g hg) ZX ?_
 rintro _ _ ⟨q,t,ht,rfl,rfl⟩ hn9
 have h9:=Z6 hn9
 simp only[List.cons_append,List.nil_append] at h9
 (replace h9:=h9;simp only[VN] at h9)
 ((refine R1 (jO @Z9 (jO @Z7 (jO @Z8 h9))) ?_;with_reducible repeat' intro h);(repeat' (have h:=Z6 h;simp only[Z4,Z0,Z5,Z1,and_true,true_and] at h;(refine R1 (jO @Z9 (jO @Z7 (jO @Z8 (jO h9 h)))) ?_))))
 rename_i r7 _
 have h3:=h
 refine GW.ent (FE.trT (by simp[*]) rfl) ?_
 refine ZB mxd ?_
 ((refine R1 (jO @Z9 (jO @Z7 (jO @Z8 h3))) ?_);(repeat' (have h:=Z6 h;simp only[Z4,Z0,Z5,Z1,and_true,true_and] at h;(refine R1 (jO @Z9 (jO @Z7 (jO @Z8 (jO h3 h)))) ?_;with_reducible repeat' first|exact trivial|intro h|refine aO ?_|refine eO ?_|apply jO))))
 refine callS.dv (w53 g t hg ht) (by simp only[Z9,h3,if_true,if_false]) ?_
 rintro _ ⟨e,he,rfl⟩
 ((refine R1 (jO @Z9 (jO @Z7 (jO @Z8 h3))) ?_);(repeat' (have h:=Z6 h;simp only[Z4,Z0,Z5,Z1,and_true,true_and] at h;(refine R1 (jO @Z9 (jO @Z7 (jO @Z8 (jO h3 h)))) ?_;with_reducible repeat' first|exact trivial|intro h|refine aO ?_|refine eO ?_|apply jO))))
 refine callS.dv (w41 16) (by simp only[Z9,h3,if_true,if_false]) ?_
 rintro _ ⟨b2,rfl⟩
 cases b2
 ·((refine R1 (jO @Z9 (jO @Z7 (jO @Z8 h3))) ?_);(repeat' (have h:=Z6 h;simp only[Z4,Z0,Z5,Z1,and_true,true_and] at h;(refine R1 (jO @Z9 (jO @Z7 (jO @Z8 (jO h3 h)))) ?_;with_reducible repeat' first|exact trivial|intro h|refine aO ?_|refine eO ?_|apply jO))))
  exact ⟨g,t,e,hg,bentT_of ht,he,rfl⟩
 ·((refine R1 (jO @Z9 (jO @Z7 (jO @Z8 h3))) ?_);(repeat' (have h:=Z6 h;simp only[Z4,Z0,Z5,Z1,and_true,true_and] at h;(refine R1 (jO @Z9 (jO @Z7 (jO @Z8 (jO h3 h)))) ?_;with_reducible repeat' first|exact trivial|intro h|refine aO ?_|refine eO ?_|apply jO))))
  refine callS.dv (w54 g hg) (by simp only[Z9,h3,if_true,if_false]) ?_
  rintro _ ⟨t2,ht2,rfl⟩
  ((refine R1 (jO @Z9 (jO @Z7 (jO @Z8 h3))) ?_);(repeat' (have h:=Z6 h;simp only[Z4,Z0,Z5,Z1,and_true,true_and] at h;(refine R1 (jO @Z9 (jO @Z7 (jO @Z8 (jO h3 h)))) ?_;with_reducible repeat' first|exact trivial|intro h|refine aO ?_|refine eO ?_|apply jO))))
  exact ⟨g,t2,e,hg,ht2,he,rfl⟩
theorem w22 (bs:List UInt8) (hb:bs.length≤1048576) (i:Nat) (hi:i<100):Pu 22 [Bs bs,I i] (· = I (at0N bs i)):=by
 by_cases h:i<bs.length
 ·have e:at0N bs i=bs[i].toNat := by rw[at0N,dif_pos h]
  have hl:=bs[i].toNat_lt
  have e2:IntKind.i64.wrap (bs[i].toNat : Int)=(bs[i].toNat : Int):=wrap64 oT oT
  rw[e]
  refine ZZ mxd i22 rfl (by simp) ?_;refine X0 ?_
  (refine V1 (jO @List.length_map.{0,0} e2) ?_;with_reducible repeat' intro h)
  all_goals try exact oF
 ·have e:at0N bs i=(i * 7+bs.length) % 256:=by rw[at0N,dif_neg h]
  have e2:((i:Int) * 7+(bs.length:Int)).tmod 256=(((i * 7+bs.length) % 256:Nat):Int):=by
   rw[Int.tmod_eq_emod_of_nonneg oT];push_cast;rfl
  rw[e]
  refine ZZ mxd i22 rfl (by simp) ?_;refine X0 ?_
  (refine V1 (jO @List.length_map.{0,0} e2) ?_;with_reducible repeat' exact trivial)
  all_goals try exact oF
end Go.Proofs.YtknbnefbgpnkgaaGreat
