/- The law FnStaticTypes returns true whatever the input, and the input reads behind the call as before. No condition. -/
import Derived.Test.YtkmedfejmndmjaaGreatFst23
set_option maxHeartbeats 40000000
set_option maxRecDepth 20000
set_option linter.unusedSimpArgs false
set_option linter.unusedVariables false
namespace Go.Proofs.YtkmedfejmndmjaaGreat
open Go.Gh
open Nat (reduceEqDiff reduceLeDiff reduceAdd reduceLT)
open Int (reduceNe)
theorem w187 (X Y Z:GV) (g:Gram) (r:Rul) (hg:ZE g) (hs:∀s∈g.syms,shSy s) (hs1:1≤g.syms.length) (hr:Y7 r) (hr3:r.right.length≤5) (d:Nat) (hd:d≤4) :
 ∀kind b remote,Dv Tryz.prog 187 [GrX g X,RuB r b Y Z,I kind,I d,B remote] (fun v=>∃e,shD d e∧v=Ex e):=by
 have hof:∀kind b,Pu 189 [GrX g X,RuB r b Y Z,I kind] (· = OcS (ofO g r kind)):=fun kind b=>by
  have:=x189 X Y Z g { r with lit:=b } kind hg (smRu_lit hr b) hr3
  rw[ofO_lit] at this
  exact this
 have hlf:∀kind k2,Dv Tryz.prog 188 [I kind,OcS (ofO g r k2)] (fun v=>∃e,e.args=[]∧shD 0 e∧v=ExN e):=fun kind k2=>w188 kind _ (ofA_sh hs r k2 _)
 clear hr hr3
 have hs2:∀k (h:k<g.syms.length),(0:Int)<((g.syms[k]'h).atts.length : Int):=fun k h=>by have:=(hs _ (gM h)).2.1;omega
 have hs3:∀k (h:k<g.syms.length),shT (g.syms[k]'h).name := fun k h=>(hs _ (gM h)).1
 have hs4:∀k (h:k<g.syms.length) j (h2:j<(g.syms[k]'h).atts.length),shT ((g.syms[k]'h).atts[j]'h2).name := fun k h j h2=>(hs _ (gM h)).2.2.2 _ (gM h2)
 generalize ofO g r=of at *
 have fin:∀(d:Nat) {e:Exp} {rc:Nat} {H:GH},shD d e→e.args=[]→∃G T L,(∃e,shD d e∧G=Ex e)∧Bor L (ExN e) G∧(rc,3,[GV.cur])::H=T++H∧subH T (L++[(rc,3,[GV.cur])]):=
  fun d e rc H h1 h2=>⟨_,[_],[],⟨e,h1,rfl⟩,bor_ExN h2,rfl,(by simp[subH,ZV,names])⟩
 induction d with
 | zero=>
  intro kind b remote
  refine Dv.of fun rc H=> ?_
  refine Z5 mxd i187 rfl (by simp) ?_;simp (maxSteps:=9^7) only[↓ S2,S2,ZF,↓reduceIte,reduceNe,reduceEqDiff,reduceCtorEq,reduceLeDiff,reduceAdd,reduceLT]
  ((try refine qI ?_);(repeat ((first|with_reducible refine qU ?_ | simp only[ZQ]);try simp (maxSteps:=9^7) +contextual only[↓ S2,S2,↓reduceIte,reduceNe,reduceEqDiff,reduceCtorEq,reduceLeDiff,reduceAdd,reduceLT,VQ,Int.reduceLT]));(try simp +contextual (disch:=omega) only[Z2,Int.reduceLT]);(with_reducible repeat' (first|intro h|refine jO oT ?_ | refine exP oT ?_ | apply jO)))
  (repeat' ((first|(refine callS.dv (hlf _ _) (by first|exact ZZ|(simp only[Z9, *,if_true,if_false];done)) ?_;rintro _ ⟨_,_,_,rfl⟩)|(refine callS.dv (wz75 _ oT) (by first|exact ZZ|(simp only[Z9, *,if_true,if_false];done)) ?_;rintro _ ⟨_,_,rfl⟩)|(refine callS.dv (w75 _) (by first|exact ZZ|(simp only[Z9, *,if_true,if_false];done)) ?_;rintro _ ⟨_,_,_,_,rfl⟩)|(refine callS.dv (w36 _) (by first|exact ZZ|(simp only[Z9, *,if_true,if_false];done)) ?_;rintro _ ⟨_,rfl⟩)|(refine callS.dv (w191) (by first|exact ZZ|(simp only[Z9, *,if_true,if_false];done)) ?_;rintro _ ⟨_,_,rfl⟩)|(refine callS.dv (w78 _ rfl (by simp)) (by first|exact ZZ|(simp only[Z9, *,if_true,if_false];done)) ?_;intro _ hg;obtain ⟨_,_,rfl⟩:=ltT_mem rfl hg;clear hg)|(refine callS.dv (w163 _ rfl (by simp)) (by first|exact ZZ|(simp only[Z9, *,if_true,if_false];done)) ?_;intro _ hg;obtain ⟨_,_,rfl⟩:=X9 (lo:= -9223372036854775808) (hi:=9223372036854775807) rfl hg;clear hg)|(with_reducible refine callS.eq (hof _ _) ?_)|(refine callA.dv (hlf _ _) (by first|exact ZZ|(simp only[Z9, *,if_true,if_false];done)) ?_;rintro _ ⟨_,_,_,rfl⟩)|(refine callA.dv (wz75 _ oT) (by first|exact ZZ|(simp only[Z9, *,if_true,if_false];done)) ?_;rintro _ ⟨_,_,rfl⟩)|(refine callA.dv (w75 _) (by first|exact ZZ|(simp only[Z9, *,if_true,if_false];done)) ?_;rintro _ ⟨_,_,_,_,rfl⟩)|(refine callA.dv (w36 _) (by first|exact ZZ|(simp only[Z9, *,if_true,if_false];done)) ?_;rintro _ ⟨_,rfl⟩)|(refine callA.dv (w191) (by first|exact ZZ|(simp only[Z9, *,if_true,if_false];done)) ?_;rintro _ ⟨_,_,rfl⟩)|(refine callA.dv (w78 _ rfl (by simp)) (by first|exact ZZ|(simp only[Z9, *,if_true,if_false];done)) ?_;intro _ hg;obtain ⟨_,_,rfl⟩:=ltT_mem rfl hg;clear hg)|(refine callA.dv (w163 _ rfl (by simp)) (by first|exact ZZ|(simp only[Z9, *,if_true,if_false];done)) ?_;intro _ hg;obtain ⟨_,_,rfl⟩:=X9 (lo:= -9223372036854775808) (hi:=9223372036854775807) rfl hg;clear hg)|(with_reducible refine callA.eq (hof _ _) ?_));((try refine qI ?_);(repeat ((first|with_reducible refine qU ?_ | simp only[ZQ]);try simp (maxSteps:=9^7) +contextual only[↓ S2,S2,↓reduceIte,reduceNe,reduceEqDiff,reduceCtorEq,reduceLeDiff,reduceAdd,reduceLT,VQ,]));(try simp +contextual (disch:=omega) only[Z2,]);(with_reducible repeat' (first|intro h|refine jO oT ?_ | refine exP oT ?_ | apply jO)))))
  all_goals first
   | exact fin 0 (e:= .mk 2 0 0 0 noS noS []) (shD_leaf (by decide) (by decide)) rfl
   | exact fin 0 (by assumption) (by assumption)
 | succ d ih=>
  intro kind b remote
  have ih':=ih oT
  clear ih
  have hd1:((d+1:Nat):Int)-1=d:=by omega
  refine Dv.of fun rc H=> ?_
  refine Z5 mxd i187 rfl (by simp) ?_;simp (maxSteps:=9^7) only[↓ S2,S2,ZF,↓reduceIte,reduceNe,reduceEqDiff,reduceCtorEq,reduceLeDiff,reduceAdd,reduceLT]
  ((try refine qI ?_);(repeat ((first|with_reducible refine qU ?_ | simp only[ZQ]);try simp (maxSteps:=9^7) +contextual only[↓ S2,S2,↓reduceIte,reduceNe,reduceEqDiff,reduceCtorEq,reduceLeDiff,reduceAdd,reduceLT,VQ,hd1]));(try simp +contextual (disch:=omega) only[Z2,hd1]);(with_reducible repeat' (first|intro h|refine jO oT ?_ | refine exP oT ?_ | apply jO)))
  (repeat' ((first|(refine callS.dv (hlf _ _) (by first|exact ZZ|(simp only[Z9, *,if_true,if_false];done)) ?_;rintro _ ⟨_,_,_,rfl⟩)|(refine callS.dv (ih' _ _ _) (by first|exact ZZ|(simp only[Z9, *,if_true,if_false];done)) ?_;rintro _ ⟨_,_,rfl⟩)|(refine callS.dv (wz75 _ (hs2 _ _)) (by first|exact ZZ|(simp only[Z9, *,if_true,if_false];done)) ?_;rintro _ ⟨_,_,rfl⟩)|(refine callS.of (o193 _ _ _ _) ?_;rintro _ _ ⟨_,⟨_,rfl,rfl⟩,rfl⟩ hn9;have hn8:=names_nd2 hn9)|(refine callA.ex (o193 _ _ _ _) ?_;rintro _ _ ⟨_,rfl,rfl⟩ hn9;have hn8:=names_nd2 hn9)|(refine callS.dv (wz75 _ oT) (by first|exact ZZ|(simp only[Z9, *,if_true,if_false];done)) ?_;rintro _ ⟨_,_,rfl⟩)|(refine callS.dv (w75 _) (by first|exact ZZ|(simp only[Z9, *,if_true,if_false];done)) ?_;rintro _ ⟨_,_,_,_,rfl⟩)|(refine callS.dv (w36 _) (by first|exact ZZ|(simp only[Z9, *,if_true,if_false];done)) ?_;rintro _ ⟨_,rfl⟩)|(refine callS.dv (w191) (by first|exact ZZ|(simp only[Z9, *,if_true,if_false];done)) ?_;rintro _ ⟨_,_,rfl⟩)|(refine callS.dv (w78 _ rfl (by simp)) (by first|exact ZZ|(simp only[Z9, *,if_true,if_false];done)) ?_;intro _ hg;obtain ⟨_,_,rfl⟩:=ltT_mem rfl hg;clear hg)|(refine callS.dv (w163 _ rfl (by simp)) (by first|exact ZZ|(simp only[Z9, *,if_true,if_false];done)) ?_;intro _ hg;obtain ⟨_,_,rfl⟩:=X9 (lo:= -9223372036854775808) (hi:=9223372036854775807) rfl hg;clear hg)|(with_reducible refine callS.eq (hof _ _) ?_)|(with_reducible refine callS.eq (w214 _) ?_)|(refine callA.dv (hlf _ _) (by first|exact ZZ|(simp only[Z9, *,if_true,if_false];done)) ?_;rintro _ ⟨_,_,_,rfl⟩)|(refine callA.dv (ih' _ _ _) (by first|exact ZZ|(simp only[Z9, *,if_true,if_false];done)) ?_;rintro _ ⟨_,_,rfl⟩)|(refine callA.dv (wz75 _ (hs2 _ _)) (by first|exact ZZ|(simp only[Z9, *,if_true,if_false];done)) ?_;rintro _ ⟨_,_,rfl⟩)|(refine callA.dv (wz75 _ oT) (by first|exact ZZ|(simp only[Z9, *,if_true,if_false];done)) ?_;rintro _ ⟨_,_,rfl⟩)|(refine callA.dv (w75 _) (by first|exact ZZ|(simp only[Z9, *,if_true,if_false];done)) ?_;rintro _ ⟨_,_,_,_,rfl⟩)|(refine callA.dv (w36 _) (by first|exact ZZ|(simp only[Z9, *,if_true,if_false];done)) ?_;rintro _ ⟨_,rfl⟩)|(refine callA.dv (w191) (by first|exact ZZ|(simp only[Z9, *,if_true,if_false];done)) ?_;rintro _ ⟨_,_,rfl⟩)|(refine callA.dv (w78 _ rfl (by simp)) (by first|exact ZZ|(simp only[Z9, *,if_true,if_false];done)) ?_;intro _ hg;obtain ⟨_,_,rfl⟩:=ltT_mem rfl hg;clear hg)|(refine callA.dv (w163 _ rfl (by simp)) (by first|exact ZZ|(simp only[Z9, *,if_true,if_false];done)) ?_;intro _ hg;obtain ⟨_,_,rfl⟩:=X9 (lo:= -9223372036854775808) (hi:=9223372036854775807) rfl hg;clear hg)|(with_reducible refine callA.eq (hof _ _) ?_)|(with_reducible refine callA.eq (w214 _) ?_));((try refine qI ?_);(repeat ((first|with_reducible refine qU ?_ | simp only[ZQ]);try simp (maxSteps:=9^7) +contextual only[↓ S2,S2,↓reduceIte,reduceNe,reduceEqDiff,reduceCtorEq,reduceLeDiff,reduceAdd,reduceLT,VQ,hd1,XE,opG]));(try simp +contextual (disch:=omega) only[Z2,hd1,XE,opG]);(with_reducible repeat' (first|intro h|refine jO oT ?_ | refine exP oT ?_ | apply jO)))))
  all_goals try exact oF
  all_goals first
   | exact fin _ (e:= .mk 2 0 0 0 noS noS []) (shD_leaf (by decide) (by decide)) rfl
   | exact fin _ (shD_mono (Nat.zero_le _) (by assumption)) (by assumption)
   | exact fin_if (by assumption) (by assumption) (by assumption) (by simp[*])
   | exact ⟨_,[_,_],[_],⟨.mk _ _ _ _ noS noS [_,_,_],shD_node (by decide) (by decide) (by simp) (by simp[*]),rfl⟩,bor_ExV ZZ rfl,rfl,by simp[subH,ZV,names, *]⟩
   | exact ⟨_,[_,_],[_],⟨.mk _ _ _ _ noS noS [_,_],shD_node (by decide) (by decide) (by simp) (by simp[*]),rfl⟩,bor_ExV ZZ rfl,rfl,by simp[subH,ZV,names, *]⟩
   | exact ⟨_,[_,_],[_],⟨.mk _ _ _ _ _ _ [_],shD_node (hs3 _ _) (hs4 _ _ _ _) (by simp) (by simp;exact shD_mono (Nat.zero_le _) (by assumption)),rfl⟩,bor_ExApp (l:=[]) ZZ (by assumption) rfl,rfl,by simp[subH,ZV,names, *]⟩
   | skip
end Go.Proofs.YtkmedfejmndmjaaGreat
