/- The tied card of the law holds. No condition. -/
import Derived.Test.YtmdfoigdflaliaaGreatDoorPtt8
set_option maxHeartbeats 40000000
set_option maxRecDepth 20000
set_option linter.unusedSimpArgs false
set_option linter.unusedVariables false
namespace Go.Proofs.YtmdfoigdflaliaaGreatDoor
open Go.Gh
open Nat (reduceEqDiff reduceLeDiff reduceAdd reduceLT)
open Int (reduceNe)
theorem w75 (X Y Z:GV) (g:Gram) (r:Rul) (hg:smGr g) (hs:∀s∈g.syms,shSy s) (hs1:1≤g.syms.length) (hr:smRu r) (hr3:r.right.length≤5) (d:Nat) (hd:d≤4) :
 ∀kind b remote,Dv Tryz.prog 75 [GrX g X,RuB r b Y Z,I kind,I d,B remote] (fun v=>∃e,shD d e∧v=Ex e):=by
 have hof:∀kind b,Pu 78 [GrX g X,RuB r b Y Z,I kind] (· = OcS (ofO g r kind)):=fun kind b=>by
  have:=x78 X Y Z g { r with lit:=b } kind hg (smRu_lit hr b) hr3
  rw[ofO_lit] at this
  exact this
 have hlf:∀kind k2,Dv Tryz.prog 77 [I kind,OcS (ofO g r k2)] (fun v=>∃e,e.args=[]∧shD 0 e∧v=ExN e):=fun kind k2=>w77 kind _ (ofA_sh hs r k2 _)
 clear hr hr3
 have hs2:∀k (h:k<g.syms.length),(0:Int)<((g.syms[k]'h).atts.length : Int):=fun k h=>by have:=(hs _ (gM h)).2.1;omega
 have hs3:∀k (h:k<g.syms.length),shT (g.syms[k]'h).name := fun k h=>(hs _ (gM h)).1
 have hs4:∀k (h:k<g.syms.length) j (h2:j<(g.syms[k]'h).atts.length),shT ((g.syms[k]'h).atts[j]'h2).name := fun k h j h2=>(hs _ (gM h)).2.2.2 _ (gM h2)
 generalize ofO g r=of at *
 have fin:∀(d:Nat) {e:Exp} {rc:Nat} {H:GH},shD d e→e.args=[]→∃G T L,(∃e,shD d e∧G=Ex e)∧Bor L (ExN e) G∧(rc,3,[GV.cur])::H=T++H∧subH T (L++[(rc,3,[GV.cur])]):=
  fun d e rc H h1 h2=>⟨_,[_],[],⟨e,h1,rfl⟩,bor_ExN h2,rfl,(by simp[subH,ZW,names])⟩
 induction d with
 | zero=>
  intro kind b remote
  refine Dv.of fun rc H=> ?_
  refine ZN mxd i75 rfl (by simp) ?_;simp (maxSteps:=9^7) only[↓ S2,S2,ZT,↓reduceIte,reduceNe,reduceEqDiff,reduceCtorEq,reduceLeDiff,reduceAdd,reduceLT]
  ((try refine qI ?_);(repeat ((first|with_reducible refine qU ?_ | simp only[Z5]);try simp (maxSteps:=9^7) +contextual only[↓ S2,S2,↓reduceIte,reduceNe,reduceEqDiff,reduceCtorEq,reduceLeDiff,reduceAdd,reduceLT,VQ,Int.reduceLT]));(try simp +contextual (disch:=omega) only[Z2,Int.reduceLT]);(with_reducible repeat' (first|intro h|refine And.intro (by omega) ?_ | refine exP (by omega) ?_ | apply And.intro)))
  (repeat' ((first|(refine callS.dv (hlf _ _) (by first|exact ZX|(simp only[Z9, *,if_true,if_false];done)) ?_;rintro _ ⟨_,_,_,rfl⟩)|(refine callS.dv (wz47 _ (by omega)) (by first|exact ZX|(simp only[Z9, *,if_true,if_false];done)) ?_;rintro _ ⟨_,_,rfl⟩)|(refine callS.dv (w47 _) (by first|exact ZX|(simp only[Z9, *,if_true,if_false];done)) ?_;rintro _ ⟨_,_,_,_,rfl⟩)|(refine callS.dv (w32 _) (by first|exact ZX|(simp only[Z9, *,if_true,if_false];done)) ?_;rintro _ ⟨_,rfl⟩)|(refine callS.dv (w49 _ rfl (by simp)) (by first|exact ZX|(simp only[Z9, *,if_true,if_false];done)) ?_;intro _ hg;obtain ⟨_,_,rfl⟩:=ltT_mem rfl hg;clear hg)|(refine callS.dv (w30 _ rfl (by simp)) (by first|exact ZX|(simp only[Z9, *,if_true,if_false];done)) ?_;intro _ hg;obtain ⟨_,_,rfl⟩:=YK (lo:= -9223372036854775808) (hi:=9223372036854775807) rfl hg;clear hg)|(with_reducible refine callS.eq (hof _ _) ?_)|(refine callA.dv (hlf _ _) (by first|exact ZX|(simp only[Z9, *,if_true,if_false];done)) ?_;rintro _ ⟨_,_,_,rfl⟩)|(refine callA.dv (wz47 _ (by omega)) (by first|exact ZX|(simp only[Z9, *,if_true,if_false];done)) ?_;rintro _ ⟨_,_,rfl⟩)|(refine callA.dv (w47 _) (by first|exact ZX|(simp only[Z9, *,if_true,if_false];done)) ?_;rintro _ ⟨_,_,_,_,rfl⟩)|(refine callA.dv (w32 _) (by first|exact ZX|(simp only[Z9, *,if_true,if_false];done)) ?_;rintro _ ⟨_,rfl⟩)|(refine callA.dv (w49 _ rfl (by simp)) (by first|exact ZX|(simp only[Z9, *,if_true,if_false];done)) ?_;intro _ hg;obtain ⟨_,_,rfl⟩:=ltT_mem rfl hg;clear hg)|(refine callA.dv (w30 _ rfl (by simp)) (by first|exact ZX|(simp only[Z9, *,if_true,if_false];done)) ?_;intro _ hg;obtain ⟨_,_,rfl⟩:=YK (lo:= -9223372036854775808) (hi:=9223372036854775807) rfl hg;clear hg)|(with_reducible refine callA.eq (hof _ _) ?_));((try refine qI ?_);(repeat ((first|with_reducible refine qU ?_ | simp only[Z5]);try simp (maxSteps:=9^7) +contextual only[↓ S2,S2,↓reduceIte,reduceNe,reduceEqDiff,reduceCtorEq,reduceLeDiff,reduceAdd,reduceLT,VQ,]));(try simp +contextual (disch:=omega) only[Z2,]);(with_reducible repeat' (first|intro h|refine And.intro (by omega) ?_ | refine exP (by omega) ?_ | apply And.intro)))))
  all_goals first
   | exact fin 0 (e:= .mk 2 0 0 0 noS noS []) (shD_leaf (by decide) (by decide)) rfl
   | exact fin 0 (by assumption) (by assumption)
 | succ d ih=>
  intro kind b remote
  have ih':=ih (by omega)
  clear ih
  have hd1:((d+1:Nat):Int)-1=d:=by omega
  refine Dv.of fun rc H=> ?_
  refine ZN mxd i75 rfl (by simp) ?_;simp (maxSteps:=9^7) only[↓ S2,S2,ZT,↓reduceIte,reduceNe,reduceEqDiff,reduceCtorEq,reduceLeDiff,reduceAdd,reduceLT]
  ((try refine qI ?_);(repeat ((first|with_reducible refine qU ?_ | simp only[Z5]);try simp (maxSteps:=9^7) +contextual only[↓ S2,S2,↓reduceIte,reduceNe,reduceEqDiff,reduceCtorEq,reduceLeDiff,reduceAdd,reduceLT,VQ,hd1]));(try simp +contextual (disch:=omega) only[Z2,hd1]);(with_reducible repeat' (first|intro h|refine And.intro (by omega) ?_ | refine exP (by omega) ?_ | apply And.intro)))
  (repeat' ((first|(refine callS.dv (hlf _ _) (by first|exact ZX|(simp only[Z9, *,if_true,if_false];done)) ?_;rintro _ ⟨_,_,_,rfl⟩)|(refine callS.dv (ih' _ _ _) (by first|exact ZX|(simp only[Z9, *,if_true,if_false];done)) ?_;rintro _ ⟨_,_,rfl⟩)|(refine callS.dv (wz47 _ (hs2 _ _)) (by first|exact ZX|(simp only[Z9, *,if_true,if_false];done)) ?_;rintro _ ⟨_,_,rfl⟩)|(refine callS.of (o93 _ _ _ _) ?_;rintro _ _ ⟨_,⟨_,rfl,rfl⟩,rfl⟩ hn9;have hn8:=names_nd2 hn9)|(refine callA.ex (o93 _ _ _ _) ?_;rintro _ _ ⟨_,rfl,rfl⟩ hn9;have hn8:=names_nd2 hn9)|(refine callS.dv (wz47 _ (by omega)) (by first|exact ZX|(simp only[Z9, *,if_true,if_false];done)) ?_;rintro _ ⟨_,_,rfl⟩)|(refine callS.dv (w47 _) (by first|exact ZX|(simp only[Z9, *,if_true,if_false];done)) ?_;rintro _ ⟨_,_,_,_,rfl⟩)|(refine callS.dv (w32 _) (by first|exact ZX|(simp only[Z9, *,if_true,if_false];done)) ?_;rintro _ ⟨_,rfl⟩)|(refine callS.dv (w49 _ rfl (by simp)) (by first|exact ZX|(simp only[Z9, *,if_true,if_false];done)) ?_;intro _ hg;obtain ⟨_,_,rfl⟩:=ltT_mem rfl hg;clear hg)|(refine callS.dv (w30 _ rfl (by simp)) (by first|exact ZX|(simp only[Z9, *,if_true,if_false];done)) ?_;intro _ hg;obtain ⟨_,_,rfl⟩:=YK (lo:= -9223372036854775808) (hi:=9223372036854775807) rfl hg;clear hg)|(with_reducible refine callS.eq (hof _ _) ?_)|(with_reducible refine callS.eq (w92 _) ?_)|(refine callA.dv (hlf _ _) (by first|exact ZX|(simp only[Z9, *,if_true,if_false];done)) ?_;rintro _ ⟨_,_,_,rfl⟩)|(refine callA.dv (ih' _ _ _) (by first|exact ZX|(simp only[Z9, *,if_true,if_false];done)) ?_;rintro _ ⟨_,_,rfl⟩)|(refine callA.dv (wz47 _ (hs2 _ _)) (by first|exact ZX|(simp only[Z9, *,if_true,if_false];done)) ?_;rintro _ ⟨_,_,rfl⟩)|(refine callA.dv (wz47 _ (by omega)) (by first|exact ZX|(simp only[Z9, *,if_true,if_false];done)) ?_;rintro _ ⟨_,_,rfl⟩)|(refine callA.dv (w47 _) (by first|exact ZX|(simp only[Z9, *,if_true,if_false];done)) ?_;rintro _ ⟨_,_,_,_,rfl⟩)|(refine callA.dv (w32 _) (by first|exact ZX|(simp only[Z9, *,if_true,if_false];done)) ?_;rintro _ ⟨_,rfl⟩)|(refine callA.dv (w49 _ rfl (by simp)) (by first|exact ZX|(simp only[Z9, *,if_true,if_false];done)) ?_;intro _ hg;obtain ⟨_,_,rfl⟩:=ltT_mem rfl hg;clear hg)|(refine callA.dv (w30 _ rfl (by simp)) (by first|exact ZX|(simp only[Z9, *,if_true,if_false];done)) ?_;intro _ hg;obtain ⟨_,_,rfl⟩:=YK (lo:= -9223372036854775808) (hi:=9223372036854775807) rfl hg;clear hg)|(with_reducible refine callA.eq (hof _ _) ?_)|(with_reducible refine callA.eq (w92 _) ?_));((try refine qI ?_);(repeat ((first|with_reducible refine qU ?_ | simp only[Z5]);try simp (maxSteps:=9^7) +contextual only[↓ S2,S2,↓reduceIte,reduceNe,reduceEqDiff,reduceCtorEq,reduceLeDiff,reduceAdd,reduceLT,VQ,hd1,XE,opG]));(try simp +contextual (disch:=omega) only[Z2,hd1,XE,opG]);(with_reducible repeat' (first|intro h|refine And.intro (by omega) ?_ | refine exP (by omega) ?_ | apply And.intro)))))
  all_goals try exact oF
  all_goals first
   | exact fin _ (e:= .mk 2 0 0 0 noS noS []) (shD_leaf (by decide) (by decide)) rfl
   | exact fin _ (shD_mono (Nat.zero_le _) (by assumption)) (by assumption)
   | exact fin_if (by assumption) (by assumption) (by assumption) (by simp[*])
   | exact ⟨_,[_,_],[_],⟨.mk _ _ _ _ noS noS [_,_,_],shD_node (by decide) (by decide) (by simp) (by simp[*]),rfl⟩,bor_ExV ZX rfl,rfl,by simp[subH,ZW,names, *]⟩
   | exact ⟨_,[_,_],[_],⟨.mk _ _ _ _ noS noS [_,_],shD_node (by decide) (by decide) (by simp) (by simp[*]),rfl⟩,bor_ExV ZX rfl,rfl,by simp[subH,ZW,names, *]⟩
   | exact ⟨_,[_,_],[_],⟨.mk _ _ _ _ _ _ [_],shD_node (hs3 _ _) (hs4 _ _ _ _) (by simp) (by simp;exact shD_mono (Nat.zero_le _) (by assumption)),rfl⟩,bor_ExApp (l:=[]) ZX (by assumption) rfl,rfl,by simp[subH,ZW,names, *]⟩
   | skip
theorem o50 (X:GV) (g:Gram) (r:Rul) (hg:smGr g) (hs:∀s∈g.syms,shSy s) (hs1:1≤g.syms.length) (hr:smRu r) (hr3:r.right.length≤3) (remote:Bool) :
 Dc Tryz.prog 50 [GrX g X,RuX r (.val (.slice none 0 0)) (.val (.slice none 0 0)),B remote] (fun v H1=>∃(qs:List Eqn) (q:Nat),(qs.length≤64∧∀x∈qs,shT x.name∧shEx x.expr)∧v=RuX r (.own q 9 0 qs.length) (.val (.slice none 0 0))∧H1=[(q,9,qs.map Qn)]):=by
 refine Dc.of fun rc H=> ?_
 have hrl:=reqA_len5 hs r (r.right.length+1)
 have hrs:=reqA_sh hs r (r.right.length+1)
 have hro:∀Y Z,Pu 71 [GrX g X,RuX r Y Z] (· = OcS (reqO g r)):=fun Y Z=>x71 X Y Z g r hg hr hr3
 have hsa:∀Y Z p,Pu 73 [RuX r Y Z,I p] (· = T (YH r p)):=fun Y Z p=>x73 X Y Z r p hr
 have hfs:∀n,Pu 72 [GrX g X,T n] (· = .tup [Sy (fSym g.syms n),B (hSym g.syms n)]):=fun n=>x72 X X X g n hg
 have hfa:∀n m,Pu 74 [Sy (fSym g.syms n),T m] (· = .tup [At (fAtt (fSym g.syms n).atts m),B (hAtt (fSym g.syms n).atts m)]):=fun n m=>w74 _ m (smSy_f hg n)
 have hex:∀Y Z (d:Nat),d≤4→∀kind,Dv Tryz.prog 75 [GrX g X,RuX r Y Z,I kind,I d,B remote] (fun v=>∃e,shD d e∧v=Ex e):=fun Y Z d hd kind=>w75 X Y Z g r hg hs hs1 hr (by omega) d hd kind r.lit remote
 change (reqO g r).length ≤ _ at hrl
 change ∀o∈reqO g r,_ at hrs
 generalize reqO g r=need at *
 refine ZN mxd i50 rfl (by simp) ?_;refine X0 ?_
 ((refine R1 (jO @Z9 (jO @Z8 @Z7)) ?_;with_reducible repeat' intro h);(repeat' (have h:=Z0 h;simp only[Z1,ZY,Z3,ZZ,and_true,true_and] at h;(refine R1 (jO @Z9 (jO @Z8 (jO @Z7 h))) ?_))))
 refine callS.eq (hro _ _) ?_
 ((refine R1 (jO @Z9 (jO @Z8 (jO @Z7 h))) ?_);(repeat' (have h:=Z0 h;simp only[Z1,ZY,Z3,ZZ,and_true,true_and] at h;(refine R1 (jO @Z9 (jO @Z8 (jO @Z7 (jO h h)))) ?_;with_reducible repeat' first|exact trivial|intro h|refine aO ?_|refine eO ?_|apply jO))))
 rename_i rr _
 obtain ⟨v,hv,hvn⟩:=vfresh (names ((rr,6,[RuX r (.val (.slice none 0 0)) (.val (.slice none 0 0))])::(rc,3,[.cur])::H))
 refine Zd mxd (ι:={ x:(Nat×List Eqn)×Nat // x.2≤need.length∧x.1.2.length≤x.2∧∀q∈x.1.2,shT q.name∧shEx q.expr }) (fun x=>[(0,.ptr rc 3 0 0),(3,B remote),(5,.rop 2 (GrX g X)),(6,.ptr rr 6 0 0),(8,.raw 6),(9,OcS need),(10,I x.1.2)]) (fun x=>(x.1.1.1,9,x.1.1.2.map Qn)::(rr,6,[RuX r (.own x.1.1.1 9 0 x.1.1.2.length) (.val (.slice none 0 0))])::(rc,3,[.cur])::H) (fun x=>need.length-x.1.2) ⟨((v,[]),0),by simp⟩ (FE.virtF (sz:=6) (sz1:=9) (i:=0) (j:=4) (es:=[RuX r (.val (.slice none 0 0)) (.val (.slice none 0 0))]) (gs:=[T r.name,T r.left,TS r.right,B r.lit,.val (.slice none 0 0),.val (.slice none 0 0)]) ZX rfl rfl hv hvn) (by simp[E2]) (by simp[ZI]) ?_
 rintro ⟨⟨⟨q,l⟩,i⟩,hi,hl,hd⟩ hn2
 dsimp only at hi hl hd hn2 ⊢
 have h4:=Z0 hn2
 (replace h4:=h4;simp only[VN] at h4)
 refine ZD mxd ?_
 rcases nL i need.length with hlt|hge
 ·have hli:l.length≤100:=by omega
  ((refine R1 (jO @Z9 (jO @Z8 (jO @Z7 h4))) ?_;with_reducible repeat' first|intro h|apply jO);(repeat' (have h:=Z0 h;simp only[Z1,ZY,Z3,ZZ,and_true,true_and] at h;(refine R1 (jO @Z9 (jO @Z8 (jO @Z7 (jO h4 h)))) ?_;with_reducible repeat' first|exact trivial|intro h|refine aO ?_|refine eO ?_|apply jO))))
  all_goals try exact oF
  refine callS.eq (hsa _ _ _) ?_
  ((refine R1 (jO @Z9 (jO @Z8 (jO @Z7 h4))) ?_);(repeat' (have h:=Z0 h;simp only[Z1,ZY,Z3,ZZ,and_true,true_and] at h;(refine R1 (jO @Z9 (jO @Z8 (jO @Z7 (jO h4 h)))) ?_;with_reducible repeat' first|exact trivial|intro h|refine aO ?_|refine eO ?_|apply jO))))
  refine callS.eq (hfs _) ?_
  ((refine R1 (jO @Z9 (jO @Z8 (jO @Z7 h4))) ?_);(repeat' (have h:=Z0 h;simp only[Z1,ZY,Z3,ZZ,and_true,true_and] at h;(refine R1 (jO @Z9 (jO @Z8 (jO @Z7 (jO h4 h)))) ?_;with_reducible repeat' first|exact trivial|intro h|refine aO ?_|refine eO ?_|apply jO))))
  refine callS.eq (hfa _ _) ?_
  ((refine R1 (jO @Z9 (jO @Z8 (jO @Z7 h4))) ?_);(repeat' (have h:=Z0 h;simp only[Z1,ZY,Z3,ZZ,and_true,true_and] at h;(refine R1 (jO @Z9 (jO @Z8 (jO @Z7 (jO h4 h)))) ?_;with_reducible repeat' first|exact trivial|intro h|refine aO ?_|refine eO ?_|apply jO))))
  refine callA.dv (wz47 _ (by omega)) (by simp only[Z9,h4,if_true,if_false]) ?_
  rintro _ ⟨dd,hdd,rfl⟩
  ((refine R1 (jO @Z9 (jO @Z8 (jO @Z7 h4))) ?_);(repeat' (have h:=Z0 h;simp only[Z1,ZY,Z3,ZZ,and_true,true_and] at h;(refine R1 (jO @Z9 (jO @Z8 (jO @Z7 (jO h4 h)))) ?_;with_reducible repeat' first|exact trivial|intro h|refine aO ?_|refine eO ?_|apply jO))))
  have e1:(1:Int)+(dd:Int)=((1+dd:Nat):Int):=by omega
  rw[e1]
  refine callA.dv (hex _ _ (1+dd) (by omega) _) (by simp only[Z9,h4,if_true,if_false]) ?_
  rintro _ ⟨e,he,rfl⟩
  have hee:shEx e:=shD_ex (by omega) he
  ((refine R1 (jO @Z9 (jO @Z8 (jO @Z7 (jO h4 @XE)))) ?_;with_reducible repeat' intro h);(repeat' (have h:=Z0 h;simp only[Z1,ZY,Z3,ZZ,and_true,true_and] at h;(refine R1 (jO @Z9 (jO @Z8 (jO @Z7 (jO h4 (jO @XE h))))) ?_))))
  refine callS.eq (w76 e (shEx_ok hee).1 (shEx_ok hee).2) ?_
  ((refine R1 (jO @Z9 (jO @Z8 (jO @Z7 (jO h4 @XE)))) ?_;with_reducible repeat' first|intro h|apply jO);(repeat' (have h:=Z0 h;simp only[Z1,ZY,Z3,ZZ,and_true,true_and] at h;(refine R1 (jO @Z9 (jO @Z8 (jO @Z7 (jO h4 (jO @XE h))))) ?_;with_reducible repeat' first|exact trivial|intro h|refine aO ?_|refine eO ?_|apply jO))))
  all_goals try exact oF
  ·rename_i re _ h6
   ((refine R1 (jO @Z9 (jO @Z8 (jO @Z7 (jO h4 (jO h6 (jO @XE (jO @List.length_append.{0} (jO @List.length_singleton.{0} (jO @List.length_map.{0,0} (jO @List.length_take.{0} @ZM)))))))))) ?_;with_reducible repeat' intro h);(repeat' (have h:=Z0 h;simp only[Z1,ZY,Z3,ZZ,and_true,true_and] at h;(refine R1 (jO @Z9 (jO @Z8 (jO @Z7 (jO h4 (jO h6 (jO @XE (jO @List.length_append.{0} (jO @List.length_singleton.{0} (jO @List.length_map.{0,0} (jO @List.length_take.{0} (jO @ZM h))))))))))) ?_;with_reducible repeat' intro h))))
   all_goals try exact oF
   rename_i r3 _ _ r4 _
   rw[tL (by simp)]
   exact nxF ⟨((r4,l++[⟨need[i].1,need[i].2,e⟩]),i+1),by dsimp only;omega,by simp;omega,fun y hy=>(List.mem_append.1 hy).elim (hd y) fun h=>by
    rw[List.mem_singleton] at h;subst h;exact ⟨hrs _ (gM hlt),hee⟩⟩ (by dsimp only;omega) (FE.perm (H:=[_,_,_,_,_]) (L:=[(r4,_),(rr,_),(rc,_)]) (by repeat' (first|exact trivial|(refine And.intro (by simp only[Z9, *,if_true,if_false];try rfl) (And.intro (by simp[ZR,ZP, *]) ?_))))) (by simp[E2]) (by simp)
  ·rename_i re _ h6
   refine callS.dv (w77 _ [] (by simp)) (by simp only[Z9,h4,h6,if_true,if_false]) ?_
   rintro _ ⟨e2,ha2,he2,rfl⟩
   ((refine R1 (jO @Z9 (jO @Z8 (jO @Z7 (jO h4 (jO h6 (jO @XE (jO @List.length_append.{0} (jO @List.length_singleton.{0} (jO @List.length_map.{0,0} (jO @List.length_take.{0} @ZM)))))))))) ?_;with_reducible repeat' intro h);(repeat' (have h:=Z0 h;simp only[Z1,ZY,Z3,ZZ,and_true,true_and] at h;(refine R1 (jO @Z9 (jO @Z8 (jO @Z7 (jO h4 (jO h6 (jO @XE (jO @List.length_append.{0} (jO @List.length_singleton.{0} (jO @List.length_map.{0,0} (jO @List.length_take.{0} (jO @ZM h))))))))))) ?_;with_reducible repeat' intro h))))
   all_goals try exact oF
   rename_i r3 _ _ r4 _
   rw[tL (by simp)]
   exact nxF ⟨((r4,l++[⟨need[i].1,need[i].2,e2⟩]),i+1),by dsimp only;omega,by simp;omega,fun y hy=>(List.mem_append.1 hy).elim (hd y) fun h=>by
    rw[List.mem_singleton] at h;subst h;exact ⟨hrs _ (gM hlt),shD_ex (by omega) he2⟩⟩ (by dsimp only;omega) (FE.trans (FE.perm (H:=[_,_,_,_,_]) (L:=[(r4,_),(rr,_),(rc,_)]) (by repeat' (first|exact trivial|(refine And.intro (by simp only[Z9, *,if_true,if_false];try rfl) (And.intro (by simp[ZR,ZP, *]) ?_))))) (FE.qn ha2)) (by simp[E2]) (by simp)
 ·((refine R1 (jO @Z9 (jO @Z8 (jO @Z7 (jO h4 @XE)))) ?_;with_reducible repeat' intro h);(repeat' (have h:=Z0 h;simp only[Z1,ZY,Z3,ZZ,and_true,true_and] at h;(refine R1 (jO @Z9 (jO @Z8 (jO @Z7 (jO h4 (jO @XE h))))) ?_;with_reducible repeat' first|exact trivial|intro h|refine aO ?_|refine eO ?_|apply jO))))
  all_goals try exact oF
  refine ⟨_,[(q,9,l.map Qn)],[_,_,_],[],⟨l,q,⟨by omega,hd⟩,rfl,rfl⟩,.refl,rfl,(by repeat' (first|exact trivial|(refine And.intro (by simp only[Z9, *,if_true,if_false];try rfl) (And.intro (by simp[ZR,ZP, *]) ?_))))⟩
end Go.Proofs.YtmdfoigdflaliaaGreatDoor
