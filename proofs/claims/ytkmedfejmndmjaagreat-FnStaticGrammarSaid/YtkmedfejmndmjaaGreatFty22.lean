/- The law returns true whatever the input, and the input reads behind the call as before. No condition. -/
import Derived.Test.YtkmedfejmndmjaaGreatFty19
import Derived.Test.YtkmedfejmndmjaaGreatFty21
set_option maxHeartbeats 40000000
set_option maxRecDepth 20000
set_option linter.unusedSimpArgs false
set_option linter.unusedVariables false
namespace Go.Proofs.YtkmedfejmndmjaaGreat
open Go.Gh
open Nat (reduceEqDiff reduceLeDiff reduceAdd reduceLT)
open Int (reduceNe)
theorem y187 (rs:Nat) (X Y Z:GV) (g:Gram) (r:Rul) (hg:Zw g) (hs:∀s∈g.syms,shSy s) (hs1:1≤g.syms.length) (hr:Zk r) (hr3:r.right.length≤5) (d:Nat) (hd:d≤4) :
 ∀kind b remote,DvR Tryz.prog (syR rs g) 187 [GrO rs g X,RuB r b Y Z,I kind,I d,B remote] (fun v=>∃e,shD d e∧v=Ex e):=by
 have hof:∀kind b,PuR Tryz.prog (rs,2,g.syms.map Sy) 189 [GrO rs g X,RuB r b Y Z,I kind] (OcS (ofO g r kind)):=fun kind b=>by
  have:=y189 rs X Y Z g { r with lit:=b } kind hg (smRu_lit hr b) hr3
  rw[ofO_lit] at this
  exact this
 have hlf:∀kind k2,Dv Tryz.prog 188 [I kind,OcS (ofO g r k2)] (fun v=>∃e,e.args=[]∧shD 0 e∧v=ExN e):=fun kind k2=>w188 kind _ (ofA_sh hs r k2 _)
 clear hr hr3
 have hs2:∀k (h:k<g.syms.length),(0:Int)<((g.syms[k]'h).atts.length : Int):=fun k h=>by have:=(hs _ (gM h)).2.1;omega
 have hs3:∀k (h:k<g.syms.length),shT (g.syms[k]'h).name := fun k h=>(hs _ (gM h)).1
 have hs4:∀k (h:k<g.syms.length) j (h2:j<(g.syms[k]'h).atts.length),shT ((g.syms[k]'h).atts[j]'h2).name := fun k h j h2=>(hs _ (gM h)).2.2.2 _ (gM h2)
 generalize ofO g r=of at *
 have fin:∀(d:Nat) {e:Exp} {rc:Nat} {H:GH},shD d e→e.args=[]→rc≠rs→∃G T L,(∃e,shD d e∧G=Ex e)∧Bor L (ExN e) G∧(rc,3,[GV.cur])::(rs,2,g.syms.map Sy)::H=T++H∧subH T (L++[(rc,3,[.cur]),(rs,2,g.syms.map Sy)]):=
  fun d e rc H h1 h2 hne=>⟨_,[(rc,3,[.cur]),(rs,2,g.syms.map Sy)],[],⟨e,h1,rfl⟩,bor_ExN h2,rfl,by simp[subH,ZU,names,hne]⟩
 induction d with
 | zero=>
  intro kind b remote
  refine DvR.of fun rc H hne=> ?_
  have hne:rc≠rs:=hne
  change GCalls _ _ _ ((rc,3,[.cur])::(rs,2,g.syms.map Sy)::H) _
  refine ZY mxd i187 rfl (by simp) ?_;simp (maxSteps:=9^7) only[↓ S2,S2,Z5,↓reduceIte,reduceNe,reduceEqDiff,reduceCtorEq,reduceLeDiff,reduceAdd,reduceLT]
  ((try refine qI ?_);(repeat ((first|with_reducible refine qU ?_ | simp only[Z8]);try simp (maxSteps:=9^7) +contextual only[↓ S2,S2,↓reduceIte,reduceNe,reduceEqDiff,reduceCtorEq,reduceLeDiff,reduceAdd,reduceLT,VQ,Int.reduceLT,hne]));(try simp +contextual (disch:=omega) only[Z2,Int.reduceLT,hne]);(with_reducible repeat' (first|intro h|refine And.intro (by omega) ?_ | refine exP (by omega) ?_ | apply And.intro)))
  (repeat' ((first|(with_reducible refine callS.eqR (hof _ _) (by first|exact Z4|(simp only[Z9, *,if_true,if_false];done)) ?_)|(refine callS.dv (hlf _ _) (by first|exact Z4|(simp only[Z9, *,if_true,if_false];done)) ?_;rintro _ ⟨_,_,_,rfl⟩)|(refine callS.dv (Y8 _ (by omega)) (by first|exact Z4|(simp only[Z9, *,if_true,if_false];done)) ?_;rintro _ ⟨_,_,rfl⟩)|(refine callS.dv (w75 _) (by first|exact Z4|(simp only[Z9, *,if_true,if_false];done)) ?_;rintro _ ⟨_,_,_,_,rfl⟩)|(refine callS.dv (w36 _) (by first|exact Z4|(simp only[Z9, *,if_true,if_false];done)) ?_;rintro _ ⟨_,rfl⟩)|(refine callS.dv (w191) (by first|exact Z4|(simp only[Z9, *,if_true,if_false];done)) ?_;rintro _ ⟨_,_,rfl⟩)|(refine callS.dv (w78 _ rfl (by simp)) (by first|exact Z4|(simp only[Z9, *,if_true,if_false];done)) ?_;intro _ hg;obtain ⟨_,_,rfl⟩:=Ze rfl hg;clear hg)|(refine callS.dv (w163 _ rfl (by simp)) (by first|exact Z4|(simp only[Z9, *,if_true,if_false];done)) ?_;intro _ hg;obtain ⟨_,_,rfl⟩:=YZ (lo:= -9223372036854775808) (hi:=9223372036854775807) rfl hg;clear hg)|(with_reducible refine callA.eqR (hof _ _) (by first|exact Z4|(simp only[Z9, *,if_true,if_false];done)) ?_)|(refine callA.dv (hlf _ _) (by first|exact Z4|(simp only[Z9, *,if_true,if_false];done)) ?_;rintro _ ⟨_,_,_,rfl⟩)|(refine callA.dv (Y8 _ (by omega)) (by first|exact Z4|(simp only[Z9, *,if_true,if_false];done)) ?_;rintro _ ⟨_,_,rfl⟩)|(refine callA.dv (w75 _) (by first|exact Z4|(simp only[Z9, *,if_true,if_false];done)) ?_;rintro _ ⟨_,_,_,_,rfl⟩)|(refine callA.dv (w36 _) (by first|exact Z4|(simp only[Z9, *,if_true,if_false];done)) ?_;rintro _ ⟨_,rfl⟩)|(refine callA.dv (w191) (by first|exact Z4|(simp only[Z9, *,if_true,if_false];done)) ?_;rintro _ ⟨_,_,rfl⟩)|(refine callA.dv (w78 _ rfl (by simp)) (by first|exact Z4|(simp only[Z9, *,if_true,if_false];done)) ?_;intro _ hg;obtain ⟨_,_,rfl⟩:=Ze rfl hg;clear hg)|(refine callA.dv (w163 _ rfl (by simp)) (by first|exact Z4|(simp only[Z9, *,if_true,if_false];done)) ?_;intro _ hg;obtain ⟨_,_,rfl⟩:=YZ (lo:= -9223372036854775808) (hi:=9223372036854775807) rfl hg;clear hg));((try refine qI ?_);(repeat ((first|with_reducible refine qU ?_ | simp only[Z8]);try simp (maxSteps:=9^7) +contextual only[↓ S2,S2,↓reduceIte,reduceNe,reduceEqDiff,reduceCtorEq,reduceLeDiff,reduceAdd,reduceLT,VQ,hne]));(try simp +contextual (disch:=omega) only[Z2,hne]);(with_reducible repeat' (first|intro h|refine And.intro (by omega) ?_ | refine exP (by omega) ?_ | apply And.intro)))))
  all_goals first
   | exact fin 0 (e:= .mk 2 0 0 0 noS noS []) (shD_leaf (by decide) (by decide)) rfl hne
   | exact fin 0 (by assumption) (by assumption) hne
 | succ d ih=>
  intro kind b remote
  have ih':=ih (by omega)
  clear ih
  have hd1:((d+1:Nat):Int)-1=d:=by omega
  refine DvR.of fun rc H hne=> ?_
  have hne:rc≠rs:=hne
  change GCalls _ _ _ ((rc,3,[.cur])::(rs,2,g.syms.map Sy)::H) _
  refine ZY mxd i187 rfl (by simp) ?_;simp (maxSteps:=9^7) only[↓ S2,S2,Z5,↓reduceIte,reduceNe,reduceEqDiff,reduceCtorEq,reduceLeDiff,reduceAdd,reduceLT]
  ((try refine qI ?_);(repeat ((first|with_reducible refine qU ?_ | simp only[Z8]);try simp (maxSteps:=9^7) +contextual only[↓ S2,S2,↓reduceIte,reduceNe,reduceEqDiff,reduceCtorEq,reduceLeDiff,reduceAdd,reduceLT,VQ,hd1,hne]));(try simp +contextual (disch:=omega) only[Z2,hd1,hne]);(with_reducible repeat' (first|intro h|refine And.intro (by omega) ?_ | refine exP (by omega) ?_ | apply And.intro)))
  (repeat' ((first|(with_reducible refine callS.eqR (hof _ _) (by first|exact Z4|(simp only[Z9, *,if_true,if_false];done)) ?_)|(refine callS.dv (hlf _ _) (by first|exact Z4|(simp only[Z9, *,if_true,if_false];done)) ?_;rintro _ ⟨_,_,_,rfl⟩)|(refine callS.dvR (ih' _ _ _) (by first|exact Z4|(simp only[Z9, *,if_true,if_false];done)) (by first|exact Z4|(simp only[Z9, *,if_true,if_false];done)) (by simp) ?_;rintro _ ⟨_,_,rfl⟩)|(refine callS.dv (Y8 _ (hs2 _ _)) (by first|exact Z4|(simp only[Z9, *,if_true,if_false];done)) ?_;rintro _ ⟨_,_,rfl⟩)|(refine callS.of (o193 _ _ _ _) ?_;rintro _ _ ⟨_,⟨_,rfl,rfl⟩,rfl⟩ hn9;obtain ⟨hn8,hn7⟩:=names_nd3 hn9)|(refine callA.ex (o193 _ _ _ _) ?_;rintro _ _ ⟨_,rfl,rfl⟩ hn9;obtain ⟨hn8,hn7⟩:=names_nd3 hn9)|(refine callS.dv (Y8 _ (by omega)) (by first|exact Z4|(simp only[Z9, *,if_true,if_false];done)) ?_;rintro _ ⟨_,_,rfl⟩)|(refine callS.dv (w75 _) (by first|exact Z4|(simp only[Z9, *,if_true,if_false];done)) ?_;rintro _ ⟨_,_,_,_,rfl⟩)|(refine callS.dv (w36 _) (by first|exact Z4|(simp only[Z9, *,if_true,if_false];done)) ?_;rintro _ ⟨_,rfl⟩)|(refine callS.dv (w191) (by first|exact Z4|(simp only[Z9, *,if_true,if_false];done)) ?_;rintro _ ⟨_,_,rfl⟩)|(refine callS.dv (w78 _ rfl (by simp)) (by first|exact Z4|(simp only[Z9, *,if_true,if_false];done)) ?_;intro _ hg;obtain ⟨_,_,rfl⟩:=Ze rfl hg;clear hg)|(refine callS.dv (w163 _ rfl (by simp)) (by first|exact Z4|(simp only[Z9, *,if_true,if_false];done)) ?_;intro _ hg;obtain ⟨_,_,rfl⟩:=YZ (lo:= -9223372036854775808) (hi:=9223372036854775807) rfl hg;clear hg)|(with_reducible refine callS.eq (w214 _) ?_)|(with_reducible refine callA.eqR (hof _ _) (by first|exact Z4|(simp only[Z9, *,if_true,if_false];done)) ?_)|(refine callA.dv (hlf _ _) (by first|exact Z4|(simp only[Z9, *,if_true,if_false];done)) ?_;rintro _ ⟨_,_,_,rfl⟩)|(refine callA.dvR (ih' _ _ _) (by first|exact Z4|(simp only[Z9, *,if_true,if_false];done)) (by first|exact Z4|(simp only[Z9, *,if_true,if_false];done)) (by simp) ?_;rintro _ ⟨_,_,rfl⟩)|(refine callA.dv (Y8 _ (hs2 _ _)) (by first|exact Z4|(simp only[Z9, *,if_true,if_false];done)) ?_;rintro _ ⟨_,_,rfl⟩)|(refine callA.dv (Y8 _ (by omega)) (by first|exact Z4|(simp only[Z9, *,if_true,if_false];done)) ?_;rintro _ ⟨_,_,rfl⟩)|(refine callA.dv (w75 _) (by first|exact Z4|(simp only[Z9, *,if_true,if_false];done)) ?_;rintro _ ⟨_,_,_,_,rfl⟩)|(refine callA.dv (w36 _) (by first|exact Z4|(simp only[Z9, *,if_true,if_false];done)) ?_;rintro _ ⟨_,rfl⟩)|(refine callA.dv (w191) (by first|exact Z4|(simp only[Z9, *,if_true,if_false];done)) ?_;rintro _ ⟨_,_,rfl⟩)|(refine callA.dv (w78 _ rfl (by simp)) (by first|exact Z4|(simp only[Z9, *,if_true,if_false];done)) ?_;intro _ hg;obtain ⟨_,_,rfl⟩:=Ze rfl hg;clear hg)|(refine callA.dv (w163 _ rfl (by simp)) (by first|exact Z4|(simp only[Z9, *,if_true,if_false];done)) ?_;intro _ hg;obtain ⟨_,_,rfl⟩:=YZ (lo:= -9223372036854775808) (hi:=9223372036854775807) rfl hg;clear hg)|(with_reducible refine callA.eq (w214 _) ?_));((try refine qI ?_);(repeat ((first|with_reducible refine qU ?_ | simp only[Z8]);try simp (maxSteps:=9^7) +contextual only[↓ S2,S2,↓reduceIte,reduceNe,reduceEqDiff,reduceCtorEq,reduceLeDiff,reduceAdd,reduceLT,VQ,hne,hd1,XE,opG]));(try simp +contextual (disch:=omega) only[Z2,hne,hd1,XE,opG]);(with_reducible repeat' (first|intro h|refine And.intro (by omega) ?_ | refine exP (by omega) ?_ | apply And.intro)))))
  all_goals try exact oF
  all_goals first
   | exact fin _ (e:= .mk 2 0 0 0 noS noS []) (shD_leaf (by decide) (by decide)) rfl hne
   | exact fin _ (shD_mono (Nat.zero_le _) (by assumption)) (by assumption) hne
   | exact fin_ifR (by assumption) (by assumption) (by assumption) (by simp[*]) (by simp[*]) hne
   | exact ⟨_,[_,_,_],[_],⟨.mk _ _ _ _ noS noS [_,_,_],Ys (by decide) (by decide) (by simp) (by simp[*]),rfl⟩,bor_ExV Z4 rfl,rfl,by simp[subH,ZU,names, *]⟩
   | exact ⟨_,[_,_,_],[_],⟨.mk _ _ _ _ noS noS [_,_],Ys (by decide) (by decide) (by simp) (by simp[*]),rfl⟩,bor_ExV Z4 rfl,rfl,by simp[subH,ZU,names, *]⟩
   | exact ⟨_,[_,_,_],[_],⟨.mk _ _ _ _ _ _ [_],Ys (hs3 _ _) (hs4 _ _ _ _) (by simp) (by simp;exact shD_mono (Nat.zero_le _) (by assumption)),rfl⟩,bor_ExApp (l:=[]) Z4 (by assumption) rfl,rfl,by simp[subH,ZU,names, *]⟩
   | skip
end Go.Proofs.YtkmedfejmndmjaaGreat
