/- The law returns true whatever the input, and the input reads behind the call as before. No condition. -/
import Derived.Test.YtkmedfejmndmjaaGreatFty4
import Derived.Test.YtkmedfejmndmjaaGreatFty18
set_option maxHeartbeats 40000000
set_option maxRecDepth 20000
set_option linter.unusedSimpArgs false
set_option linter.unusedVariables false
namespace Go.Proofs.YtkmedfejmndmjaaGreat
open Go.Gh
open Nat (reduceEqDiff reduceLeDiff reduceAdd reduceLT)
open Int (reduceNe)
theorem w192 (n k:Int):Pu 192 [I n,I k] (· = ExN (.mk 1 n 0 k noS noS [])):=by
 refine ZY mxd i192 rfl (by simp) ?_;simp (maxSteps:=9^7) only[↓ S2,S2,Z5,↓reduceIte,reduceNe,reduceEqDiff,reduceCtorEq,reduceLeDiff,reduceAdd,reduceLT]
 ((try refine qI ?_);(repeat ((first|with_reducible refine qU ?_ | simp only[Z8]);try simp (maxSteps:=9^7) +contextual only[↓ S2,S2,↓reduceIte,reduceNe,reduceEqDiff,reduceCtorEq,reduceLeDiff,reduceAdd,reduceLT,VQ,]));(try simp +contextual (disch:=omega) only[Z2,]);(with_reducible repeat' (first|intro h|refine And.intro (by omega) ?_ | refine exP (by omega) ?_ | apply And.intro)))
 rfl
theorem o193 (op:Int) (a b:Exp) (H:GH):Gc 193 [I op,Ex a,Ex b] H (fun g H'=>∃H1,(∃r,g=ExR (.mk 4 op 0 0 noS noS [a,b]) r∧H1=[(r,7,[Ex a,Ex b])])∧H'=H1++H):=by
 refine ZY mxd i193 rfl (by simp) ?_;simp (maxSteps:=9^7) only[↓ S2,S2,Z5,↓reduceIte,reduceNe,reduceEqDiff,reduceCtorEq,reduceLeDiff,reduceAdd,reduceLT]
 ((try refine qI ?_);(repeat ((first|with_reducible refine qU ?_ | simp only[Z8]);try simp (maxSteps:=9^7) +contextual only[↓ S2,S2,↓reduceIte,reduceNe,reduceEqDiff,reduceCtorEq,reduceLeDiff,reduceAdd,reduceLT,VQ,XE]));(try simp +contextual (disch:=omega) only[Z2,XE]);(with_reducible repeat' (first|intro h|refine And.intro (by omega) ?_ | refine exP (by omega) ?_ | apply And.intro)))
 exact ⟨_,⟨_,rfl,rfl⟩,rfl⟩
theorem w188 (kind:Int) (l:List Oc) (hl:∀o∈l,shT o.2):Dv Tryz.prog 188 [I kind,OcS l] (fun g=>∃e,e.args=[]∧shD 0 e∧g=ExN e):=by
 refine Dv.of0 fun rc H=> ?_
 refine ZY mxd i188 rfl (by simp) ?_;simp (maxSteps:=9^7) only[↓ S2,S2,Z5,↓reduceIte,reduceNe,reduceEqDiff,reduceCtorEq,reduceLeDiff,reduceAdd,reduceLT]
 ((try refine qI ?_);(repeat ((first|with_reducible refine qU ?_ | simp only[Z8]);try simp (maxSteps:=9^7) +contextual only[↓ S2,S2,↓reduceIte,reduceNe,reduceEqDiff,reduceCtorEq,reduceLeDiff,reduceAdd,reduceLT,VQ,]));(try simp +contextual (disch:=omega) only[Z2,]);(with_reducible repeat' (first|intro h|refine And.intro (by omega) ?_ | refine exP (by omega) ?_ | apply And.intro)))
 (repeat' ((first|(refine callS.dv (Y8 _ (by omega)) (by first|exact Z4|(simp only[Z9, *,if_true,if_false];done)) ?_;rintro _ ⟨_,_,rfl⟩)|(refine callS.dv (w75 _) (by first|exact Z4|(simp only[Z9, *,if_true,if_false];done)) ?_;rintro _ ⟨_,_,_,_,rfl⟩)|(refine callS.dv (w36 _) (by first|exact Z4|(simp only[Z9, *,if_true,if_false];done)) ?_;rintro _ ⟨_,rfl⟩)|(refine callS.dv (w191) (by first|exact Z4|(simp only[Z9, *,if_true,if_false];done)) ?_;rintro _ ⟨_,_,rfl⟩)|(refine callS.dv (w78 _ rfl (by simp)) (by first|exact Z4|(simp only[Z9, *,if_true,if_false];done)) ?_;intro _ hg;obtain ⟨_,_,rfl⟩:=Ze rfl hg;clear hg)|(refine callS.dv (w163 _ rfl (by simp)) (by first|exact Z4|(simp only[Z9, *,if_true,if_false];done)) ?_;intro _ hg;obtain ⟨_,_,rfl⟩:=YZ (lo:= -9223372036854775808) (hi:=9223372036854775807) rfl hg;clear hg)|(with_reducible refine callS.eq (w192 _ _) ?_)|(refine callA.dv (Y8 _ (by omega)) (by first|exact Z4|(simp only[Z9, *,if_true,if_false];done)) ?_;rintro _ ⟨_,_,rfl⟩)|(refine callA.dv (w75 _) (by first|exact Z4|(simp only[Z9, *,if_true,if_false];done)) ?_;rintro _ ⟨_,_,_,_,rfl⟩)|(refine callA.dv (w36 _) (by first|exact Z4|(simp only[Z9, *,if_true,if_false];done)) ?_;rintro _ ⟨_,rfl⟩)|(refine callA.dv (w191) (by first|exact Z4|(simp only[Z9, *,if_true,if_false];done)) ?_;rintro _ ⟨_,_,rfl⟩)|(refine callA.dv (w78 _ rfl (by simp)) (by first|exact Z4|(simp only[Z9, *,if_true,if_false];done)) ?_;intro _ hg;obtain ⟨_,_,rfl⟩:=Ze rfl hg;clear hg)|(refine callA.dv (w163 _ rfl (by simp)) (by first|exact Z4|(simp only[Z9, *,if_true,if_false];done)) ?_;intro _ hg;obtain ⟨_,_,rfl⟩:=YZ (lo:= -9223372036854775808) (hi:=9223372036854775807) rfl hg;clear hg)|(with_reducible refine callA.eq (w192 _ _) ?_));((try refine qI ?_);(repeat ((first|with_reducible refine qU ?_ | simp only[Z8]);try simp (maxSteps:=9^7) +contextual only[↓ S2,S2,↓reduceIte,reduceNe,reduceEqDiff,reduceCtorEq,reduceLeDiff,reduceAdd,reduceLT,VQ,]));(try simp +contextual (disch:=omega) only[Z2,]);(with_reducible repeat' (first|intro h|refine And.intro (by omega) ?_ | refine exP (by omega) ?_ | apply And.intro)))))
 all_goals first
  | exact ⟨.mk _ _ _ _ noS noS [],rfl,shD_leaf (by decide) (by decide),rfl⟩
  | exact ⟨.mk _ _ _ _ noS _ [],rfl,shD_leaf (by decide) (hl _ (gM _)),rfl⟩
  | exact u64_nn _
theorem o127 (d:Nat) (hb:d≤8):Dc Tryz.prog 127 [I d] (fun g H1=>∃e,shD d e∧ExW e g H1):=by
 induction d with
 | zero=>
  refine fun rc H=> ?_
  refine ZY mxd i127 rfl (by simp) ?_;simp (maxSteps:=9^7) only[↓ S2,S2,Z5,↓reduceIte,reduceNe,reduceEqDiff,reduceCtorEq,reduceLeDiff,reduceAdd,reduceLT]
  ((try refine qI ?_);(repeat ((first|with_reducible refine qU ?_ | simp only[Z8]);try simp (maxSteps:=9^7) +contextual only[↓ S2,S2,↓reduceIte,reduceNe,reduceEqDiff,reduceCtorEq,reduceLeDiff,reduceAdd,reduceLT,VQ,Int.reduceLT]));(try simp +contextual (disch:=omega) only[Z2,Int.reduceLT]);(with_reducible repeat' (first|intro h|refine And.intro (by omega) ?_ | refine exP (by omega) ?_ | apply And.intro)))
  (repeat' ((first|(refine callS.dv (w188 _ [(_,_)] (by simp[*])) (by first|exact Z4|(simp only[Z9, *,if_true,if_false];done)) ?_;rintro _ ⟨e,_,_,rfl⟩)|(refine callS.dv (Y8 _ (by omega)) (by first|exact Z4|(simp only[Z9, *,if_true,if_false];done)) ?_;rintro _ ⟨_,_,rfl⟩)|(refine callS.dv (w75 _) (by first|exact Z4|(simp only[Z9, *,if_true,if_false];done)) ?_;rintro _ ⟨_,_,_,_,rfl⟩)|(refine callS.dv (w36 _) (by first|exact Z4|(simp only[Z9, *,if_true,if_false];done)) ?_;rintro _ ⟨_,rfl⟩)|(refine callS.dv (w191) (by first|exact Z4|(simp only[Z9, *,if_true,if_false];done)) ?_;rintro _ ⟨_,_,rfl⟩)|(refine callS.dv (w78 _ rfl (by simp)) (by first|exact Z4|(simp only[Z9, *,if_true,if_false];done)) ?_;intro _ hg;obtain ⟨_,_,rfl⟩:=Ze rfl hg;clear hg)|(refine callS.dv (w163 _ rfl (by simp)) (by first|exact Z4|(simp only[Z9, *,if_true,if_false];done)) ?_;intro _ hg;obtain ⟨_,_,rfl⟩:=YZ (lo:= -9223372036854775808) (hi:=9223372036854775807) rfl hg;clear hg)|(with_reducible refine callS.eq (w192 _ _) ?_)|(refine callA.dv (w188 _ [(_,_)] (by simp[*])) (by first|exact Z4|(simp only[Z9, *,if_true,if_false];done)) ?_;rintro _ ⟨e,_,_,rfl⟩)|(refine callA.dv (Y8 _ (by omega)) (by first|exact Z4|(simp only[Z9, *,if_true,if_false];done)) ?_;rintro _ ⟨_,_,rfl⟩)|(refine callA.dv (w75 _) (by first|exact Z4|(simp only[Z9, *,if_true,if_false];done)) ?_;rintro _ ⟨_,_,_,_,rfl⟩)|(refine callA.dv (w36 _) (by first|exact Z4|(simp only[Z9, *,if_true,if_false];done)) ?_;rintro _ ⟨_,rfl⟩)|(refine callA.dv (w191) (by first|exact Z4|(simp only[Z9, *,if_true,if_false];done)) ?_;rintro _ ⟨_,_,rfl⟩)|(refine callA.dv (w78 _ rfl (by simp)) (by first|exact Z4|(simp only[Z9, *,if_true,if_false];done)) ?_;intro _ hg;obtain ⟨_,_,rfl⟩:=Ze rfl hg;clear hg)|(refine callA.dv (w163 _ rfl (by simp)) (by first|exact Z4|(simp only[Z9, *,if_true,if_false];done)) ?_;intro _ hg;obtain ⟨_,_,rfl⟩:=YZ (lo:= -9223372036854775808) (hi:=9223372036854775807) rfl hg;clear hg)|(with_reducible refine callA.eq (w192 _ _) ?_));((try refine qI ?_);(repeat ((first|with_reducible refine qU ?_ | simp only[Z8]);try simp (maxSteps:=9^7) +contextual only[↓ S2,S2,↓reduceIte,reduceNe,reduceEqDiff,reduceCtorEq,reduceLeDiff,reduceAdd,reduceLT,VQ,]));(try simp +contextual (disch:=omega) only[Z2,]);(with_reducible repeat' (first|intro h|refine And.intro (by omega) ?_ | refine exP (by omega) ?_ | apply And.intro)))))
  all_goals first
   | exact ⟨[],⟨.mk _ _ _ _ noS noS [],shD_leaf (by decide) (by decide),.inl ⟨rfl,rfl,rfl⟩⟩,rfl⟩
   | exact ⟨[],⟨_,shD_mono (Nat.zero_le _) (by assumption),.inl ⟨by assumption,rfl,rfl⟩⟩,rfl⟩
   | exact ⟨[_],⟨.mk _ _ _ _ noS noS [_,_,_],Ys (by decide) (by decide) (by simp) (by simp[*]),.inr ⟨_,rfl,rfl⟩⟩,rfl⟩
   | exact ⟨[_],⟨.mk _ _ _ _ _ _ [_],Ys (by assumption) (by assumption) (by simp) (by simp[*]),.inr ⟨_,rfl,rfl⟩⟩,rfl⟩
   | exact ⟨[_],⟨.mk _ _ _ _ noS noS [_,_],Ys (by decide) (by decide) (by simp) (by simp[*]),.inr ⟨_,rfl,rfl⟩⟩,rfl⟩
 | succ d ih=>
  refine fun rc H=> ?_
  have hf:=Dc.exp (ih (by omega))
  have hd:((d+1:Nat):Int)-1=d:=by omega
  refine ZY mxd i127 rfl (by simp) ?_;simp (maxSteps:=9^7) only[↓ S2,S2,Z5,↓reduceIte,reduceNe,reduceEqDiff,reduceCtorEq,reduceLeDiff,reduceAdd,reduceLT]
  ((try refine qI ?_);(repeat ((first|with_reducible refine qU ?_ | simp only[Z8]);try simp (maxSteps:=9^7) +contextual only[↓ S2,S2,↓reduceIte,reduceNe,reduceEqDiff,reduceCtorEq,reduceLeDiff,reduceAdd,reduceLT,VQ,hd]));(try simp +contextual (disch:=omega) only[Z2,hd]);(with_reducible repeat' (first|intro h|refine And.intro (by omega) ?_ | refine exP (by omega) ?_ | apply And.intro)))
  (repeat' ((first|(refine callS.dv (w188 _ [(_,_)] (by simp[*])) (by first|exact Z4|(simp only[Z9, *,if_true,if_false];done)) ?_;rintro _ ⟨e,_,_,rfl⟩)|(refine callS.dv (hf) (by first|exact Z4|(simp only[Z9, *,if_true,if_false];done)) ?_;rintro _ ⟨e,_,rfl⟩)|(refine callS.of (o193 _ _ _ _) ?_;rintro _ _ ⟨_,⟨_,rfl,rfl⟩,rfl⟩ _)|(refine callS.dv (Y8 _ (by omega)) (by first|exact Z4|(simp only[Z9, *,if_true,if_false];done)) ?_;rintro _ ⟨_,_,rfl⟩)|(refine callS.dv (w75 _) (by first|exact Z4|(simp only[Z9, *,if_true,if_false];done)) ?_;rintro _ ⟨_,_,_,_,rfl⟩)|(refine callS.dv (w36 _) (by first|exact Z4|(simp only[Z9, *,if_true,if_false];done)) ?_;rintro _ ⟨_,rfl⟩)|(refine callS.dv (w191) (by first|exact Z4|(simp only[Z9, *,if_true,if_false];done)) ?_;rintro _ ⟨_,_,rfl⟩)|(refine callS.dv (w78 _ rfl (by simp)) (by first|exact Z4|(simp only[Z9, *,if_true,if_false];done)) ?_;intro _ hg;obtain ⟨_,_,rfl⟩:=Ze rfl hg;clear hg)|(refine callS.dv (w163 _ rfl (by simp)) (by first|exact Z4|(simp only[Z9, *,if_true,if_false];done)) ?_;intro _ hg;obtain ⟨_,_,rfl⟩:=YZ (lo:= -9223372036854775808) (hi:=9223372036854775807) rfl hg;clear hg)|(with_reducible refine callS.eq (w192 _ _) ?_)|(refine callA.dv (w188 _ [(_,_)] (by simp[*])) (by first|exact Z4|(simp only[Z9, *,if_true,if_false];done)) ?_;rintro _ ⟨e,_,_,rfl⟩)|(refine callA.dv (hf) (by first|exact Z4|(simp only[Z9, *,if_true,if_false];done)) ?_;rintro _ ⟨e,_,rfl⟩)|(refine callA.dv (Y8 _ (by omega)) (by first|exact Z4|(simp only[Z9, *,if_true,if_false];done)) ?_;rintro _ ⟨_,_,rfl⟩)|(refine callA.dv (w75 _) (by first|exact Z4|(simp only[Z9, *,if_true,if_false];done)) ?_;rintro _ ⟨_,_,_,_,rfl⟩)|(refine callA.dv (w36 _) (by first|exact Z4|(simp only[Z9, *,if_true,if_false];done)) ?_;rintro _ ⟨_,rfl⟩)|(refine callA.dv (w191) (by first|exact Z4|(simp only[Z9, *,if_true,if_false];done)) ?_;rintro _ ⟨_,_,rfl⟩)|(refine callA.dv (w78 _ rfl (by simp)) (by first|exact Z4|(simp only[Z9, *,if_true,if_false];done)) ?_;intro _ hg;obtain ⟨_,_,rfl⟩:=Ze rfl hg;clear hg)|(refine callA.dv (w163 _ rfl (by simp)) (by first|exact Z4|(simp only[Z9, *,if_true,if_false];done)) ?_;intro _ hg;obtain ⟨_,_,rfl⟩:=YZ (lo:= -9223372036854775808) (hi:=9223372036854775807) rfl hg;clear hg)|(with_reducible refine callA.eq (w192 _ _) ?_));((try refine qI ?_);(repeat ((first|with_reducible refine qU ?_ | simp only[Z8]);try simp (maxSteps:=9^7) +contextual only[↓ S2,S2,↓reduceIte,reduceNe,reduceEqDiff,reduceCtorEq,reduceLeDiff,reduceAdd,reduceLT,VQ,hd,XE]));(try simp +contextual (disch:=omega) only[Z2,hd,XE]);(with_reducible repeat' (first|intro h|refine And.intro (by omega) ?_ | refine exP (by omega) ?_ | apply And.intro)))))
  all_goals first
   | exact ⟨[],⟨.mk _ _ _ _ noS noS [],shD_leaf (by decide) (by decide),.inl ⟨rfl,rfl,rfl⟩⟩,rfl⟩
   | exact ⟨[],⟨_,shD_mono (Nat.zero_le _) (by assumption),.inl ⟨by assumption,rfl,rfl⟩⟩,rfl⟩
   | exact ⟨[_],⟨.mk _ _ _ _ noS noS [_,_,_],Ys (by decide) (by decide) (by simp) (by simp[*]),.inr ⟨_,rfl,rfl⟩⟩,rfl⟩
   | exact ⟨[_],⟨.mk _ _ _ _ _ _ [_],Ys (by assumption) (by assumption) (by simp) (by simp[*]),.inr ⟨_,rfl,rfl⟩⟩,rfl⟩
   | exact ⟨[_],⟨.mk _ _ _ _ noS noS [_,_],Ys (by decide) (by decide) (by simp) (by simp[*]),.inr ⟨_,rfl,rfl⟩⟩,rfl⟩
theorem o79:Dc Tryz.prog 79 [] (fun g H1=>∃e,shD 5 e∧ExW e g H1):=by
 refine Dc.of fun rc H=> ?_
 refine ZY mxd i79 rfl (by simp) ?_;simp (maxSteps:=9^7) only[↓ S2,S2,Z5,↓reduceIte,reduceNe,reduceEqDiff,reduceCtorEq,reduceLeDiff,reduceAdd,reduceLT]
 refine callS.dv (Y8 _ (by omega)) Z4 ?_
 rintro _ ⟨k,hk,rfl⟩
 ((try refine qI ?_);(repeat ((first|with_reducible refine qU ?_ | simp only[Z8]);try simp (maxSteps:=9^7) +contextual only[↓ S2,S2,↓reduceIte,reduceNe,reduceEqDiff,reduceCtorEq,reduceLeDiff,reduceAdd,reduceLT,VQ,]));(try simp +contextual (disch:=omega) only[Z2,]);(with_reducible repeat' (first|intro h|refine And.intro (by omega) ?_ | refine exP (by omega) ?_ | apply And.intro)))
 refine callS.dc (o127 (1+k) (by omega)) Z4 ?_
 rintro g H1 ⟨e,he,hw⟩ hn
 have hok:=YY (shD_ex (by omega) he)
 rcases hw with ⟨h0,rfl,rfl⟩|⟨r,rfl,rfl⟩
 ·simp only[List.nil_append] at hn ⊢
  ((try refine qI ?_);(repeat ((first|with_reducible refine qU ?_ | simp only[Z8]);try simp (maxSteps:=9^7) +contextual only[↓ S2,S2,↓reduceIte,reduceNe,reduceEqDiff,reduceCtorEq,reduceLeDiff,reduceAdd,reduceLT,VQ,]));(try simp +contextual (disch:=omega) only[Z2,]);(with_reducible repeat' (first|intro h|refine And.intro (by omega) ?_ | refine exP (by omega) ?_ | apply And.intro)))
  refine callS.borA (w128 e hok.1 hok.2) (.cons (bor_ExN h0) .nil) rfl ?_
  ((try refine qI ?_);(repeat ((first|with_reducible refine qU ?_ | simp only[Z8]);try simp (maxSteps:=9^7) +contextual only[↓ S2,S2,↓reduceIte,reduceNe,reduceEqDiff,reduceCtorEq,reduceLeDiff,reduceAdd,reduceLT,VQ,]));(try simp +contextual (disch:=omega) only[Z2,]);(with_reducible repeat' (first|intro h|refine And.intro (by omega) ?_ | refine exP (by omega) ?_ | apply And.intro)))
  ·exact ⟨_,[],[_],[],⟨e,shD_mono (by omega) he,.inl ⟨h0,rfl,rfl⟩⟩,.refl,rfl,(by simp[subH,ZU,names])⟩
  ·exact ⟨_,[],[_],[],⟨.mk _ _ _ _ noS noS [],shD_leaf (by decide) (by decide),.inl ⟨rfl,rfl,rfl⟩⟩,.refl,rfl,(by simp[subH,ZU,names])⟩
 ·simp only[List.cons_append,List.nil_append] at hn ⊢
  have h3:=ZX hn
  (replace h3:=h3;simp only[VN] at h3)
  ((try refine qI ?_);(repeat ((first|with_reducible refine qU ?_ | simp only[Z8]);try simp (maxSteps:=9^7) +contextual only[↓ S2,S2,↓reduceIte,reduceNe,reduceEqDiff,reduceCtorEq,reduceLeDiff,reduceAdd,reduceLT,VQ,]));(try simp +contextual (disch:=omega) only[Z2,]);(with_reducible repeat' (first|intro h|refine And.intro (by omega) ?_ | refine exP (by omega) ?_ | apply And.intro)))
  refine callS.borA (w128 e hok.1 hok.2) (.cons (bor_ExR Z4) .nil) rfl ?_
  ((try refine qI ?_);(repeat ((first|with_reducible refine qU ?_ | simp only[Z8]);try simp (maxSteps:=9^7) +contextual only[↓ S2,S2,↓reduceIte,reduceNe,reduceEqDiff,reduceCtorEq,reduceLeDiff,reduceAdd,reduceLT,VQ,]));(try simp +contextual (disch:=omega) only[Z2,]);(with_reducible repeat' (first|intro h|refine And.intro (by omega) ?_ | refine exP (by omega) ?_ | apply And.intro)))
  ·exact ⟨_,[_],[_,_],[],⟨e,shD_mono (by omega) he,.inr ⟨r,rfl,rfl⟩⟩,.refl,rfl,(by simp[subH,ZU,names,h3])⟩
  ·exact ⟨_,[],[_,_],[],⟨.mk _ _ _ _ noS noS [],shD_leaf (by decide) (by decide),.inl ⟨rfl,rfl,rfl⟩⟩,.refl,rfl,(by simp[subH,ZU,names,h3])⟩
theorem w126:Dv Tryz.prog 126 [] (fun g=>∃e,shEx e∧g=Ex e):=by
 refine Dv.of fun rc H=> ?_
 refine ZY mxd i126 rfl (by simp) ?_;simp (maxSteps:=9^7) only[↓ S2,S2,Z5,↓reduceIte,reduceNe,reduceEqDiff,reduceCtorEq,reduceLeDiff,reduceAdd,reduceLT]
 refine callS.dc (Dc.own o79) Z4 ?_
 rintro g H1 ⟨e,r,he,rfl,rfl⟩ hn
 have hal:=Za (YY (shD_ex (by omega) he)).2
 have hwx:=he
 unfold shD at hwx
 try simp only[List.cons_append,List.nil_append] at hn
 try simp only[List.cons_append,List.nil_append]
 have h3:=ZX hn
 (replace h3:=h3;simp only[VN] at h3)
 ((try refine qI ?_);(repeat ((first|with_reducible refine qU ?_ | simp only[Z8]);try simp (maxSteps:=9^7) +contextual only[↓ S2,S2,↓reduceIte,reduceNe,reduceEqDiff,reduceCtorEq,reduceLeDiff,reduceAdd,reduceLT,VQ,]));(try simp +contextual (disch:=omega) only[Z2,]);(with_reducible repeat' (first|intro h|refine And.intro (by omega) ?_ | refine exP (by omega) ?_ | apply And.intro)))
 (repeat' ((first|(refine callS.dv (Y8 _ (by omega)) (by first|exact Z4|(simp only[Z9, *,if_true,if_false];done)) ?_;rintro _ ⟨_,_,rfl⟩)|(refine callS.dv (w75 _) (by first|exact Z4|(simp only[Z9, *,if_true,if_false];done)) ?_;rintro _ ⟨_,_,_,_,rfl⟩)|(refine callS.dv (w36 _) (by first|exact Z4|(simp only[Z9, *,if_true,if_false];done)) ?_;rintro _ ⟨_,rfl⟩)|(refine callS.dv (w191) (by first|exact Z4|(simp only[Z9, *,if_true,if_false];done)) ?_;rintro _ ⟨_,_,rfl⟩)|(refine callS.dv (w78 _ rfl (by simp)) (by first|exact Z4|(simp only[Z9, *,if_true,if_false];done)) ?_;intro _ hg;obtain ⟨_,_,rfl⟩:=Ze rfl hg;clear hg)|(refine callS.dv (w163 _ rfl (by simp)) (by first|exact Z4|(simp only[Z9, *,if_true,if_false];done)) ?_;intro _ hg;obtain ⟨_,_,rfl⟩:=YZ (lo:= -9223372036854775808) (hi:=9223372036854775807) rfl hg;clear hg)|(refine callA.dv (Y8 _ (by omega)) (by first|exact Z4|(simp only[Z9, *,if_true,if_false];done)) ?_;rintro _ ⟨_,_,rfl⟩)|(refine callA.dv (w75 _) (by first|exact Z4|(simp only[Z9, *,if_true,if_false];done)) ?_;rintro _ ⟨_,_,_,_,rfl⟩)|(refine callA.dv (w36 _) (by first|exact Z4|(simp only[Z9, *,if_true,if_false];done)) ?_;rintro _ ⟨_,rfl⟩)|(refine callA.dv (w191) (by first|exact Z4|(simp only[Z9, *,if_true,if_false];done)) ?_;rintro _ ⟨_,_,rfl⟩)|(refine callA.dv (w78 _ rfl (by simp)) (by first|exact Z4|(simp only[Z9, *,if_true,if_false];done)) ?_;intro _ hg;obtain ⟨_,_,rfl⟩:=Ze rfl hg;clear hg)|(refine callA.dv (w163 _ rfl (by simp)) (by first|exact Z4|(simp only[Z9, *,if_true,if_false];done)) ?_;intro _ hg;obtain ⟨_,_,rfl⟩:=YZ (lo:= -9223372036854775808) (hi:=9223372036854775807) rfl hg;clear hg));((try refine qI ?_);(repeat ((first|with_reducible refine qU ?_ | simp only[Z8]);try simp (maxSteps:=9^7) +contextual only[↓ S2,S2,↓reduceIte,reduceNe,reduceEqDiff,reduceCtorEq,reduceLeDiff,reduceAdd,reduceLT,VQ,List.length_map,ZO]));(try simp +contextual (disch:=omega) only[Z2,List.length_map,ZO]);(with_reducible repeat' (first|intro h|refine And.intro (by omega) ?_ | refine exP (by omega) ?_ | apply And.intro)))))
 all_goals try exact oF
 all_goals first
  | exact ⟨_,[_,_,_],[(r,7,_)],⟨.mk _ _ _ _ e.sym e.name e.args,shEx_upd (.inr rfl) (by omega),rfl⟩,bor_ExV Z4 rfl,rfl,by simp[subH,ZU,names, *]⟩
  | exact ⟨_,[_,_,_],[(r,7,_)],⟨.mk _ _ _ _ e.sym _ e.args,shEx_upd (.inl (by assumption)) (by omega),rfl⟩,bor_ExV Z4 rfl,rfl,by simp[subH,ZU,names, *]⟩
  | skip
 ·rename_i q1 _ q2
  rw[tL (by simp)]
  refine ⟨_,[_,_,_,_],[(q2,7,_)],⟨.mk _ _ _ _ e.sym e.name (e.args++[.mk 7 0 0 0 noS noS []]),?_,rfl⟩,bor_ExApp (e:= .mk 7 0 0 0 noS noS []) Z4 rfl rfl,rfl,by simp[subH,ZU,names,Exp.kind,Exp.n,Exp.pos,Exp.type,Exp.sym,Exp.name,noS, *]⟩
  unfold shEx
  rw[wEx_app,wEx_lit]
  have:=Exp.eta e
  rw[this]
  omega
 ·rename_i q1 _ _ _ _ _ _ _ _
  have hne:¬q1=r:=by simp[*]
  refine Yw mxd (ι:={ x:Nat×Exp // x.1≤5∧wEx x.2≤40960+2 * x.1 }) (fun x=>[(2,.raw 7),(3,.ptr q1 7 0 0),(4,I x.1.1)]) (fun x=>(q1,7,[Ex x.1.2])::(rc,3,[.cur])::H) (fun x=>5-x.1.1) ⟨(0,.mk e.kind e.n e.pos e.type e.sym e.name e.args),by rw[Exp.eta];constructor<;>simp<;>omega⟩ (FE.trans FE.swap (FE.frzE hne rfl)) (by simp[E2]) rfl ?_
  rintro ⟨⟨k,x⟩,hk,hx⟩ hn2
  dsimp only at hk hx hn2 ⊢
  have h4:=ZX hn2
  (replace h4:=h4;simp only[VN] at h4)
  refine Zp mxd ?_
  ((try refine qI ?_);(repeat ((first|with_reducible refine qU ?_ | simp only[Z8]);try simp (maxSteps:=9^7) +contextual only[↓ S2,S2,↓reduceIte,reduceNe,reduceEqDiff,reduceCtorEq,reduceLeDiff,reduceAdd,reduceLT,VQ,XE]));(try simp +contextual (disch:=omega) only[Z2,XE]);(with_reducible repeat' (first|intro h|refine And.intro (by omega) ?_ | refine exP (by omega) ?_ | apply And.intro)))
  all_goals try exact oF
  ·refine callS.of (GCalls.see (o193 1 x (.mk 2 0 0 0 noS noS []) _) (.cons .refl (.cons .refl (.cons (bor_ExN (e:= .mk 2 0 0 0 noS noS []) rfl) .nil)))) ?_
   rintro _ _ ⟨_,⟨q3,rfl,rfl⟩,rfl⟩ hn3
   try simp only[List.cons_append,List.nil_append] at hn3
   have h5:=ZX hn3
   (replace h5:=h5;simp only[VN] at h5)
   ((try refine qI ?_);(repeat ((first|with_reducible refine qU ?_ | simp only[Z8]);try simp (maxSteps:=9^7) +contextual only[↓ S2,S2,↓reduceIte,reduceNe,reduceEqDiff,reduceCtorEq,reduceLeDiff,reduceAdd,reduceLT,VQ,XE,h5]));(try simp +contextual (disch:=omega) only[Z2,XE,h5]);(with_reducible repeat' (first|intro h|refine And.intro (by omega) ?_ | refine exP (by omega) ?_ | apply And.intro)))
   have hne2:¬q1=q3:=by simp[*]
   refine nxF ⟨(k+1,.mk 4 1 0 0 noS noS [x,.mk 2 0 0 0 noS noS []]),by rw[wEx_op,wEx_lit];constructor<;>simp<;>omega⟩ (by simp<;>omega) (FE.frzE (l:=[x,.mk 2 0 0 0 noS noS []]) hne2 rfl) (by simp[E2]) rfl
  ·refine ⟨_,[_,_],[],⟨x,?_,rfl⟩,.refl,rfl,by simp[subH,ZU,names, *]⟩
   unfold shEx;omega
end Go.Proofs.YtkmedfejmndmjaaGreat
