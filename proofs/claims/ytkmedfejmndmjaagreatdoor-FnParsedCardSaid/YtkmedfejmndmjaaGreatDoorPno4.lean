/- The tied card of the law holds. No condition. -/
import Derived.Test.YtkmedfejmndmjaaGreatDoorPno3
set_option maxHeartbeats 40000000
set_option maxRecDepth 20000
set_option linter.unusedSimpArgs false
set_option linter.unusedVariables false
namespace Go.Proofs.YtkmedfejmndmjaaGreatDoor
open Go.Gh
open Nat (reduceEqDiff reduceLeDiff reduceAdd reduceLT)
open Int (reduceNe)
theorem o26 (bs:List UInt8) (hb:bs.length≤1048576) (H:GH):Gc 26 [Bs bs] H (fun g H'=>∃rc,g = .ptr rc 3 0 0∧H'=(rc,3,[.cur])::H):=by
 refine GCalls.fr (R:=fun g H'=>∃rc e,isC e∧g = .ptr rc 3 0 0∧H'=(rc,3,[e])::H) ?_ (fun g H' ⟨rc,e,h1,h2,h3⟩=>by subst h3;exact ⟨g,_,FR.uncur h1,rc,h2,rfl⟩)
 refine Z6 mxd i26 rfl (by simp) ?_;simp (maxSteps:=9^7) only[↓ S2,S2,Z7,↓reduceIte,reduceNe,reduceEqDiff,reduceCtorEq,reduceLeDiff,reduceAdd,reduceLT]
 ((try refine qI ?_);(repeat ((first|with_reducible refine qU ?_ | simp only[Z9]);try simp (maxSteps:=9^7) +contextual only[↓ S2,S2,↓reduceIte,reduceNe,reduceEqDiff,reduceCtorEq,reduceLeDiff,reduceAdd,reduceLT,VQ,]));(try simp +contextual (disch:=omega) only[Z2,]);(with_reducible repeat' (first|intro h|refine And.intro (by omega) ?_ | refine exP (by omega) ?_ | apply And.intro)))
 refine Yt mxd (ι:={ x:Nat×Int // x.1≤bs.length }) (fun x=>[(0,Bs bs),(3,I x.1.2),(4,I x.1.1)]) (fun _ => H) (fun x=>bs.length-x.1.1) ⟨(0,26583+bs.length),by simp⟩ (by simp[E2]) rfl ?_
 rintro ⟨⟨i,h⟩,hi⟩
 dsimp only at hi ⊢
 ((try refine qI ?_);(repeat ((first|with_reducible refine qU ?_ | simp only[Z9]);try simp (maxSteps:=9^7) +contextual only[↓ S2,S2,↓reduceIte,reduceNe,reduceEqDiff,reduceCtorEq,reduceLeDiff,reduceAdd,reduceLT,VQ,]));(try simp +contextual (disch:=omega) only[Z2,]);(with_reducible repeat' (first|intro h|refine And.intro (by omega) ?_ | refine exP (by omega) ?_ | apply And.intro)))
 all_goals try exact oF
 ·exact nx ⟨(i+1,_),by dsimp only;omega⟩ (by simp<;>omega) (by simp[E2];rfl) rfl
 all_goals exact ⟨_,_,⟨bs,0,_,rfl,by omega,by omega,by omega⟩,rfl,rfl⟩
theorem w79:Dv Tryz.prog 79 [] (fun g=>∃k:Nat,k<256∧g=I k):=by
 refine fun rc H=>GCalls.open fun e he=> ?_
 refine GCalls.fr (R:=fun g H'=>(∃k:Nat,k<256∧g=I k)∧∃e,isC e∧H'=(rc,3,[e])::H) ?_ (fun g H' ⟨h1,e',h2,h3⟩=>by subst h3;exact ⟨g,_,FR.uncur h2,[],⟨h1,rfl⟩,rfl⟩)
 obtain ⟨bs,i,h,rfl,h0,h1,h2⟩:=he
 obtain ⟨i,rfl⟩:=Int.eq_ofNat_of_zero_le h0
 refine Z6 mxd i79 rfl (by simp) ?_;simp (maxSteps:=9^7) only[↓ S2,S2,Z7,↓reduceIte,reduceNe,reduceEqDiff,reduceCtorEq,reduceLeDiff,reduceAdd,reduceLT]
 ((try refine qI ?_);(repeat ((first|with_reducible refine qU ?_ | simp only[Z9]);try simp (maxSteps:=9^7) +contextual only[↓ S2,S2,↓reduceIte,reduceNe,reduceEqDiff,reduceCtorEq,reduceLeDiff,reduceAdd,reduceLT,VQ,]));(try simp +contextual (disch:=omega) only[Z2,]);(with_reducible repeat' (first|intro h|refine And.intro (by omega) ?_ | refine exP (by omega) ?_ | apply And.intro)))
 all_goals first
  | exact ⟨_,⟨bs,_,_,rfl,by omega,by omega,h2⟩,rfl⟩
  | (obtain ⟨k,hk,hk2⟩:=andI_255 _;exact ⟨k,hk2,by rw[hk]⟩)
theorem w45 (n:Int):Dv Tryz.prog 45 [I n] (fun g=>∃k:Int,0≤k∧(0<n→k<n)∧(n≤0→k=0)∧g=I k):=by
 refine Dv.of0 fun rc H=> ?_
 refine Z6 mxd i45 rfl (by simp) ?_;simp (maxSteps:=9^7) only[↓ S2,S2,Z7,↓reduceIte,reduceNe,reduceEqDiff,reduceCtorEq,reduceLeDiff,reduceAdd,reduceLT]
 ((try refine qI ?_);(repeat ((first|with_reducible refine qU ?_ | simp only[Z9]);try simp (maxSteps:=9^7) +contextual only[↓ S2,S2,↓reduceIte,reduceNe,reduceEqDiff,reduceCtorEq,reduceLeDiff,reduceAdd,reduceLT,VQ,]));(try simp +contextual (disch:=omega) only[Z2,]);(with_reducible repeat' (first|intro h|refine And.intro (by omega) ?_ | refine exP (by omega) ?_ | apply And.intro)))
 ·exact ⟨0,by omega,by omega,by omega,rfl⟩
 ·refine callS.dv w79 Z4 ?_
  rintro _ ⟨k,hk,rfl⟩
  ((try refine qI ?_);(repeat ((first|with_reducible refine qU ?_ | simp only[Z9]);try simp (maxSteps:=9^7) +contextual only[↓ S2,S2,↓reduceIte,reduceNe,reduceEqDiff,reduceCtorEq,reduceLeDiff,reduceAdd,reduceLT,VQ,]));(try simp +contextual (disch:=omega) only[Z2,]);(with_reducible repeat' (first|intro h|refine And.intro (by omega) ?_ | refine exP (by omega) ?_ | apply And.intro)))
  exact ⟨_,Int.tmod_nonneg _ (by omega),fun _ => Int.tmod_lt_of_pos _ (by omega),rfl⟩
 ·refine callS.dv w79 Z4 ?_
  rintro _ ⟨k1,hk1,rfl⟩
  ((try refine qI ?_);(repeat ((first|with_reducible refine qU ?_ | simp only[Z9]);try simp (maxSteps:=9^7) +contextual only[↓ S2,S2,↓reduceIte,reduceNe,reduceEqDiff,reduceCtorEq,reduceLeDiff,reduceAdd,reduceLT,VQ,]));(try simp +contextual (disch:=omega) only[Z2,]);(with_reducible repeat' (first|intro h|refine And.intro (by omega) ?_ | refine exP (by omega) ?_ | apply And.intro)))
  refine callS.dv w79 Z4 ?_
  rintro _ ⟨k2,hk2,rfl⟩
  ((try refine qI ?_);(repeat ((first|with_reducible refine qU ?_ | simp only[Z9]);try simp (maxSteps:=9^7) +contextual only[↓ S2,S2,↓reduceIte,reduceNe,reduceEqDiff,reduceCtorEq,reduceLeDiff,reduceAdd,reduceLT,VQ,]));(try simp +contextual (disch:=omega) only[Z2,]);(with_reducible repeat' (first|intro h|refine And.intro (by omega) ?_ | refine exP (by omega) ?_ | apply And.intro)))
  refine callS.dv w79 Z4 ?_
  rintro _ ⟨k3,hk3,rfl⟩
  ((try refine qI ?_);(repeat ((first|with_reducible refine qU ?_ | simp only[Z9]);try simp (maxSteps:=9^7) +contextual only[↓ S2,S2,↓reduceIte,reduceNe,reduceEqDiff,reduceCtorEq,reduceLeDiff,reduceAdd,reduceLT,VQ,]));(try simp +contextual (disch:=omega) only[Z2,]);(with_reducible repeat' (first|intro h|refine And.intro (by omega) ?_ | refine exP (by omega) ?_ | apply And.intro)))
  refine callS.dv w79 Z4 ?_
  rintro _ ⟨k4,hk4,rfl⟩
  ((try refine qI ?_);(repeat ((first|with_reducible refine qU ?_ | simp only[Z9]);try simp (maxSteps:=9^7) +contextual only[↓ S2,S2,↓reduceIte,reduceNe,reduceEqDiff,reduceCtorEq,reduceLeDiff,reduceAdd,reduceLT,VQ,]));(try simp +contextual (disch:=omega) only[Z2,]);(with_reducible repeat' (first|intro h|refine And.intro (by omega) ?_ | refine exP (by omega) ?_ | apply And.intro)))
  exact ⟨_,Int.tmod_nonneg _ (by omega),fun _ => Int.tmod_lt_of_pos _ (by omega),rfl⟩
theorem wz45 (n:Int) (hn:0<n):Dv Tryz.prog 45 [I n] (fun g=>∃k:Nat,(k:Int)<n∧g=I k):=
 (w45 n).mono fun g H1 ⟨⟨k,h0,h1,_,h2⟩,h3⟩=>⟨⟨k.toNat,by have:=h1 hn;omega,by rw[h2,Int.toNat_of_nonneg h0]⟩,h3⟩
theorem w108 (n:Int):Dv Tryz.prog 108 [I n] (fun g=>∃b:Bool,g=B b):=by
 refine Dv.of0 fun rc H=> ?_
 refine Z6 mxd i108 rfl (by simp) ?_;simp (maxSteps:=9^7) only[↓ S2,S2,Z7,↓reduceIte,reduceNe,reduceEqDiff,reduceCtorEq,reduceLeDiff,reduceAdd,reduceLT]
 refine callS.dv (w45 n) Z4 ?_
 rintro _ ⟨k,h0,h1,h2,rfl⟩
 ((try refine qI ?_);(repeat ((first|with_reducible refine qU ?_ | simp only[Z9]);try simp (maxSteps:=9^7) +contextual only[↓ S2,S2,↓reduceIte,reduceNe,reduceEqDiff,reduceCtorEq,reduceLeDiff,reduceAdd,reduceLT,VQ,]));(try simp +contextual (disch:=omega) only[Z2,]);(with_reducible repeat' (first|intro h|refine And.intro (by omega) ?_ | refine exP (by omega) ?_ | apply And.intro)))
 exact ⟨_,rfl⟩
theorem w47 (es:List GV) (ha:noAg es=true) (hl:0<es.length):Dv Tryz.prog 47 [.sl 1 es] (fun g=>g∈es):=by
 refine Dv.of0 fun rc H=> ?_
 have hA:=notAgg ha
 have hB:=notRaw ha
 refine Z6 mxd i47 rfl (by simp) ?_;simp (maxSteps:=9^7) only[↓ S2,S2,Z7,↓reduceIte,reduceNe,reduceEqDiff,reduceCtorEq,reduceLeDiff,reduceAdd,reduceLT]
 refine callS.dv (w45 es.length) Z4 ?_
 rintro _ ⟨k,h0,h1,h2,rfl⟩
 obtain ⟨k,rfl⟩:=Int.eq_ofNat_of_zero_le h0
 ((try refine qI ?_);(repeat ((first|with_reducible refine qU ?_ | simp only[Z9]);try simp (maxSteps:=9^7) +contextual only[↓ S2,S2,↓reduceIte,reduceNe,reduceEqDiff,reduceCtorEq,reduceLeDiff,reduceAdd,reduceLT,VQ,hA,hB]));(try simp +contextual (disch:=omega) only[Z2,hA,hB]);(with_reducible repeat' (first|intro h|refine And.intro (by omega) ?_ | refine exP (by omega) ?_ | apply And.intro)))
 all_goals try exact oF
 exact gM _
theorem w46 (es:List GV) (ha:noAg es=true) (hl:0<es.length):Dv Tryz.prog 46 [.sl 1 es] (fun g=>g∈es):=by
 refine Dv.of0 fun rc H=> ?_
 have hA:=notAgg ha
 have hB:=notRaw ha
 refine Z6 mxd i46 rfl (by simp) ?_;simp (maxSteps:=9^7) only[↓ S2,S2,Z7,↓reduceIte,reduceNe,reduceEqDiff,reduceCtorEq,reduceLeDiff,reduceAdd,reduceLT]
 refine callS.dv (w45 es.length) Z4 ?_
 rintro _ ⟨k,h0,h1,h2,rfl⟩
 obtain ⟨k,rfl⟩:=Int.eq_ofNat_of_zero_le h0
 ((try refine qI ?_);(repeat ((first|with_reducible refine qU ?_ | simp only[Z9]);try simp (maxSteps:=9^7) +contextual only[↓ S2,S2,↓reduceIte,reduceNe,reduceEqDiff,reduceCtorEq,reduceLeDiff,reduceAdd,reduceLT,VQ,hA,hB]));(try simp +contextual (disch:=omega) only[Z2,hA,hB]);(with_reducible repeat' (first|intro h|refine And.intro (by omega) ?_ | refine exP (by omega) ?_ | apply And.intro)))
 all_goals try exact oF
 exact gM _
theorem w110:Dv Tryz.prog 110 [] (fun g=>∃s,shT s∧g=T s):=by
 refine Dv.of0 fun rc H=> ?_
 refine Z6 mxd i110 rfl (by simp) ?_;simp (maxSteps:=9^7) only[↓ S2,S2,Z7,↓reduceIte,reduceNe,reduceEqDiff,reduceCtorEq,reduceLeDiff,reduceAdd,reduceLT]
 refine callS.dv (w47 _ rfl (by simp)) Z4 ?_
 rintro _ hg
 obtain ⟨s,hs,rfl⟩:=ltT_mem rfl hg
 ((try refine qI ?_);(repeat ((first|with_reducible refine qU ?_ | simp only[Z9]);try simp (maxSteps:=9^7) +contextual only[↓ S2,S2,↓reduceIte,reduceNe,reduceEqDiff,reduceCtorEq,reduceLeDiff,reduceAdd,reduceLT,VQ,]));(try simp +contextual (disch:=omega) only[Z2,]);(with_reducible repeat' (first|intro h|refine And.intro (by omega) ?_ | refine exP (by omega) ?_ | apply And.intro)))
 exact ⟨s,hs,rfl⟩
theorem w130 (n k:Int):Pu 130 [I n,I k] (· = ExN (.mk 1 n 0 k noS noS [])):=by
 refine Z6 mxd i130 rfl (by simp) ?_;simp (maxSteps:=9^7) only[↓ S2,S2,Z7,↓reduceIte,reduceNe,reduceEqDiff,reduceCtorEq,reduceLeDiff,reduceAdd,reduceLT]
 ((try refine qI ?_);(repeat ((first|with_reducible refine qU ?_ | simp only[Z9]);try simp (maxSteps:=9^7) +contextual only[↓ S2,S2,↓reduceIte,reduceNe,reduceEqDiff,reduceCtorEq,reduceLeDiff,reduceAdd,reduceLT,VQ,]));(try simp +contextual (disch:=omega) only[Z2,]);(with_reducible repeat' (first|intro h|refine And.intro (by omega) ?_ | refine exP (by omega) ?_ | apply And.intro)))
 rfl
theorem o48 (op:Int) (a b:Exp) (H:GH):Gc 48 [I op,Ex a,Ex b] H (fun g H'=>∃H1,(∃r,g=ExR (.mk 4 op 0 0 noS noS [a,b]) r∧H1=[(r,7,[Ex a,Ex b])])∧H'=H1++H):=by
 refine Z6 mxd i48 rfl (by simp) ?_;simp (maxSteps:=9^7) only[↓ S2,S2,Z7,↓reduceIte,reduceNe,reduceEqDiff,reduceCtorEq,reduceLeDiff,reduceAdd,reduceLT]
 ((try refine qI ?_);(repeat ((first|with_reducible refine qU ?_ | simp only[Z9]);try simp (maxSteps:=9^7) +contextual only[↓ S2,S2,↓reduceIte,reduceNe,reduceEqDiff,reduceCtorEq,reduceLeDiff,reduceAdd,reduceLT,VQ,XE]));(try simp +contextual (disch:=omega) only[Z2,XE]);(with_reducible repeat' (first|intro h|refine And.intro (by omega) ?_ | refine exP (by omega) ?_ | apply And.intro)))
 exact ⟨_,⟨_,rfl,rfl⟩,rfl⟩
theorem w109 (kind:Int) (l:List Oc) (hl:∀o∈l,shT o.2):Dv Tryz.prog 109 [I kind,OcS l] (fun g=>∃e,e.args=[]∧shD 0 e∧g=ExN e):=by
 refine Dv.of0 fun rc H=> ?_
 refine Z6 mxd i109 rfl (by simp) ?_;simp (maxSteps:=9^7) only[↓ S2,S2,Z7,↓reduceIte,reduceNe,reduceEqDiff,reduceCtorEq,reduceLeDiff,reduceAdd,reduceLT]
 ((try refine qI ?_);(repeat ((first|with_reducible refine qU ?_ | simp only[Z9]);try simp (maxSteps:=9^7) +contextual only[↓ S2,S2,↓reduceIte,reduceNe,reduceEqDiff,reduceCtorEq,reduceLeDiff,reduceAdd,reduceLT,VQ,]));(try simp +contextual (disch:=omega) only[Z2,]);(with_reducible repeat' (first|intro h|refine And.intro (by omega) ?_ | refine exP (by omega) ?_ | apply And.intro)))
 (repeat' ((first|(refine callS.dv (wz45 _ (by omega)) (by first|exact Z4|(simp only[ZF, *,if_true,if_false];done)) ?_;rintro _ ⟨_,_,rfl⟩)|(refine callS.dv (w45 _) (by first|exact Z4|(simp only[ZF, *,if_true,if_false];done)) ?_;rintro _ ⟨_,_,_,_,rfl⟩)|(refine callS.dv (w108 _) (by first|exact Z4|(simp only[ZF, *,if_true,if_false];done)) ?_;rintro _ ⟨_,rfl⟩)|(refine callS.dv (w110) (by first|exact Z4|(simp only[ZF, *,if_true,if_false];done)) ?_;rintro _ ⟨_,_,rfl⟩)|(refine callS.dv (w47 _ rfl (by simp)) (by first|exact Z4|(simp only[ZF, *,if_true,if_false];done)) ?_;intro _ hg;obtain ⟨_,_,rfl⟩:=ltT_mem rfl hg;clear hg)|(refine callS.dv (w46 _ rfl (by simp)) (by first|exact Z4|(simp only[ZF, *,if_true,if_false];done)) ?_;intro _ hg;obtain ⟨_,_,rfl⟩:=ltI_mem (lo:= -9223372036854775808) (hi:=9223372036854775807) rfl hg;clear hg)|(with_reducible refine callS.eq (w130 _ _) ?_)|(refine callA.dv (wz45 _ (by omega)) (by first|exact Z4|(simp only[ZF, *,if_true,if_false];done)) ?_;rintro _ ⟨_,_,rfl⟩)|(refine callA.dv (w45 _) (by first|exact Z4|(simp only[ZF, *,if_true,if_false];done)) ?_;rintro _ ⟨_,_,_,_,rfl⟩)|(refine callA.dv (w108 _) (by first|exact Z4|(simp only[ZF, *,if_true,if_false];done)) ?_;rintro _ ⟨_,rfl⟩)|(refine callA.dv (w110) (by first|exact Z4|(simp only[ZF, *,if_true,if_false];done)) ?_;rintro _ ⟨_,_,rfl⟩)|(refine callA.dv (w47 _ rfl (by simp)) (by first|exact Z4|(simp only[ZF, *,if_true,if_false];done)) ?_;intro _ hg;obtain ⟨_,_,rfl⟩:=ltT_mem rfl hg;clear hg)|(refine callA.dv (w46 _ rfl (by simp)) (by first|exact Z4|(simp only[ZF, *,if_true,if_false];done)) ?_;intro _ hg;obtain ⟨_,_,rfl⟩:=ltI_mem (lo:= -9223372036854775808) (hi:=9223372036854775807) rfl hg;clear hg)|(with_reducible refine callA.eq (w130 _ _) ?_));((try refine qI ?_);(repeat ((first|with_reducible refine qU ?_ | simp only[Z9]);try simp (maxSteps:=9^7) +contextual only[↓ S2,S2,↓reduceIte,reduceNe,reduceEqDiff,reduceCtorEq,reduceLeDiff,reduceAdd,reduceLT,VQ,]));(try simp +contextual (disch:=omega) only[Z2,]);(with_reducible repeat' (first|intro h|refine And.intro (by omega) ?_ | refine exP (by omega) ?_ | apply And.intro)))))
 all_goals first
  | exact ⟨.mk _ _ _ _ noS noS [],rfl,shD_leaf (by decide) (by decide),rfl⟩
  | exact ⟨.mk _ _ _ _ noS _ [],rfl,shD_leaf (by decide) (hl _ (gM _)),rfl⟩
  | exact u64_nn _
theorem o78 (d:Nat) (hb:d≤8):Dc Tryz.prog 78 [I d] (fun g H1=>∃e,shD d e∧ExW e g H1):=by
 induction d with
 | zero=>
  refine fun rc H=> ?_
  refine Z6 mxd i78 rfl (by simp) ?_;simp (maxSteps:=9^7) only[↓ S2,S2,Z7,↓reduceIte,reduceNe,reduceEqDiff,reduceCtorEq,reduceLeDiff,reduceAdd,reduceLT]
  ((try refine qI ?_);(repeat ((first|with_reducible refine qU ?_ | simp only[Z9]);try simp (maxSteps:=9^7) +contextual only[↓ S2,S2,↓reduceIte,reduceNe,reduceEqDiff,reduceCtorEq,reduceLeDiff,reduceAdd,reduceLT,VQ,Int.reduceLT]));(try simp +contextual (disch:=omega) only[Z2,Int.reduceLT]);(with_reducible repeat' (first|intro h|refine And.intro (by omega) ?_ | refine exP (by omega) ?_ | apply And.intro)))
  (repeat' ((first|(refine callS.dv (w109 _ [(_,_)] (by simp[*])) (by first|exact Z4|(simp only[ZF, *,if_true,if_false];done)) ?_;rintro _ ⟨e,_,_,rfl⟩)|(refine callS.dv (wz45 _ (by omega)) (by first|exact Z4|(simp only[ZF, *,if_true,if_false];done)) ?_;rintro _ ⟨_,_,rfl⟩)|(refine callS.dv (w45 _) (by first|exact Z4|(simp only[ZF, *,if_true,if_false];done)) ?_;rintro _ ⟨_,_,_,_,rfl⟩)|(refine callS.dv (w108 _) (by first|exact Z4|(simp only[ZF, *,if_true,if_false];done)) ?_;rintro _ ⟨_,rfl⟩)|(refine callS.dv (w110) (by first|exact Z4|(simp only[ZF, *,if_true,if_false];done)) ?_;rintro _ ⟨_,_,rfl⟩)|(refine callS.dv (w47 _ rfl (by simp)) (by first|exact Z4|(simp only[ZF, *,if_true,if_false];done)) ?_;intro _ hg;obtain ⟨_,_,rfl⟩:=ltT_mem rfl hg;clear hg)|(refine callS.dv (w46 _ rfl (by simp)) (by first|exact Z4|(simp only[ZF, *,if_true,if_false];done)) ?_;intro _ hg;obtain ⟨_,_,rfl⟩:=ltI_mem (lo:= -9223372036854775808) (hi:=9223372036854775807) rfl hg;clear hg)|(with_reducible refine callS.eq (w130 _ _) ?_)|(refine callA.dv (w109 _ [(_,_)] (by simp[*])) (by first|exact Z4|(simp only[ZF, *,if_true,if_false];done)) ?_;rintro _ ⟨e,_,_,rfl⟩)|(refine callA.dv (wz45 _ (by omega)) (by first|exact Z4|(simp only[ZF, *,if_true,if_false];done)) ?_;rintro _ ⟨_,_,rfl⟩)|(refine callA.dv (w45 _) (by first|exact Z4|(simp only[ZF, *,if_true,if_false];done)) ?_;rintro _ ⟨_,_,_,_,rfl⟩)|(refine callA.dv (w108 _) (by first|exact Z4|(simp only[ZF, *,if_true,if_false];done)) ?_;rintro _ ⟨_,rfl⟩)|(refine callA.dv (w110) (by first|exact Z4|(simp only[ZF, *,if_true,if_false];done)) ?_;rintro _ ⟨_,_,rfl⟩)|(refine callA.dv (w47 _ rfl (by simp)) (by first|exact Z4|(simp only[ZF, *,if_true,if_false];done)) ?_;intro _ hg;obtain ⟨_,_,rfl⟩:=ltT_mem rfl hg;clear hg)|(refine callA.dv (w46 _ rfl (by simp)) (by first|exact Z4|(simp only[ZF, *,if_true,if_false];done)) ?_;intro _ hg;obtain ⟨_,_,rfl⟩:=ltI_mem (lo:= -9223372036854775808) (hi:=9223372036854775807) rfl hg;clear hg)|(with_reducible refine callA.eq (w130 _ _) ?_));((try refine qI ?_);(repeat ((first|with_reducible refine qU ?_ | simp only[Z9]);try simp (maxSteps:=9^7) +contextual only[↓ S2,S2,↓reduceIte,reduceNe,reduceEqDiff,reduceCtorEq,reduceLeDiff,reduceAdd,reduceLT,VQ,]));(try simp +contextual (disch:=omega) only[Z2,]);(with_reducible repeat' (first|intro h|refine And.intro (by omega) ?_ | refine exP (by omega) ?_ | apply And.intro)))))
  all_goals first
   | exact ⟨[],⟨.mk _ _ _ _ noS noS [],shD_leaf (by decide) (by decide),.inl ⟨rfl,rfl,rfl⟩⟩,rfl⟩
   | exact ⟨[],⟨_,shD_mono (Nat.zero_le _) (by assumption),.inl ⟨by assumption,rfl,rfl⟩⟩,rfl⟩
   | exact ⟨[_],⟨.mk _ _ _ _ noS noS [_,_,_],shD_node (by decide) (by decide) (by simp) (by simp[*]),.inr ⟨_,rfl,rfl⟩⟩,rfl⟩
   | exact ⟨[_],⟨.mk _ _ _ _ _ _ [_],shD_node (by assumption) (by assumption) (by simp) (by simp[*]),.inr ⟨_,rfl,rfl⟩⟩,rfl⟩
   | exact ⟨[_],⟨.mk _ _ _ _ noS noS [_,_],shD_node (by decide) (by decide) (by simp) (by simp[*]),.inr ⟨_,rfl,rfl⟩⟩,rfl⟩
 | succ d ih=>
  refine fun rc H=> ?_
  have hf:=Dc.exp (ih (by omega))
  have hd:((d+1:Nat):Int)-1=d:=by omega
  refine Z6 mxd i78 rfl (by simp) ?_;simp (maxSteps:=9^7) only[↓ S2,S2,Z7,↓reduceIte,reduceNe,reduceEqDiff,reduceCtorEq,reduceLeDiff,reduceAdd,reduceLT]
  ((try refine qI ?_);(repeat ((first|with_reducible refine qU ?_ | simp only[Z9]);try simp (maxSteps:=9^7) +contextual only[↓ S2,S2,↓reduceIte,reduceNe,reduceEqDiff,reduceCtorEq,reduceLeDiff,reduceAdd,reduceLT,VQ,hd]));(try simp +contextual (disch:=omega) only[Z2,hd]);(with_reducible repeat' (first|intro h|refine And.intro (by omega) ?_ | refine exP (by omega) ?_ | apply And.intro)))
  (repeat' ((first|(refine callS.dv (w109 _ [(_,_)] (by simp[*])) (by first|exact Z4|(simp only[ZF, *,if_true,if_false];done)) ?_;rintro _ ⟨e,_,_,rfl⟩)|(refine callS.dv (hf) (by first|exact Z4|(simp only[ZF, *,if_true,if_false];done)) ?_;rintro _ ⟨e,_,rfl⟩)|(refine callS.of (o48 _ _ _ _) ?_;rintro _ _ ⟨_,⟨_,rfl,rfl⟩,rfl⟩ _)|(refine callS.dv (wz45 _ (by omega)) (by first|exact Z4|(simp only[ZF, *,if_true,if_false];done)) ?_;rintro _ ⟨_,_,rfl⟩)|(refine callS.dv (w45 _) (by first|exact Z4|(simp only[ZF, *,if_true,if_false];done)) ?_;rintro _ ⟨_,_,_,_,rfl⟩)|(refine callS.dv (w108 _) (by first|exact Z4|(simp only[ZF, *,if_true,if_false];done)) ?_;rintro _ ⟨_,rfl⟩)|(refine callS.dv (w110) (by first|exact Z4|(simp only[ZF, *,if_true,if_false];done)) ?_;rintro _ ⟨_,_,rfl⟩)|(refine callS.dv (w47 _ rfl (by simp)) (by first|exact Z4|(simp only[ZF, *,if_true,if_false];done)) ?_;intro _ hg;obtain ⟨_,_,rfl⟩:=ltT_mem rfl hg;clear hg)|(refine callS.dv (w46 _ rfl (by simp)) (by first|exact Z4|(simp only[ZF, *,if_true,if_false];done)) ?_;intro _ hg;obtain ⟨_,_,rfl⟩:=ltI_mem (lo:= -9223372036854775808) (hi:=9223372036854775807) rfl hg;clear hg)|(with_reducible refine callS.eq (w130 _ _) ?_)|(refine callA.dv (w109 _ [(_,_)] (by simp[*])) (by first|exact Z4|(simp only[ZF, *,if_true,if_false];done)) ?_;rintro _ ⟨e,_,_,rfl⟩)|(refine callA.dv (hf) (by first|exact Z4|(simp only[ZF, *,if_true,if_false];done)) ?_;rintro _ ⟨e,_,rfl⟩)|(refine callA.dv (wz45 _ (by omega)) (by first|exact Z4|(simp only[ZF, *,if_true,if_false];done)) ?_;rintro _ ⟨_,_,rfl⟩)|(refine callA.dv (w45 _) (by first|exact Z4|(simp only[ZF, *,if_true,if_false];done)) ?_;rintro _ ⟨_,_,_,_,rfl⟩)|(refine callA.dv (w108 _) (by first|exact Z4|(simp only[ZF, *,if_true,if_false];done)) ?_;rintro _ ⟨_,rfl⟩)|(refine callA.dv (w110) (by first|exact Z4|(simp only[ZF, *,if_true,if_false];done)) ?_;rintro _ ⟨_,_,rfl⟩)|(refine callA.dv (w47 _ rfl (by simp)) (by first|exact Z4|(simp only[ZF, *,if_true,if_false];done)) ?_;intro _ hg;obtain ⟨_,_,rfl⟩:=ltT_mem rfl hg;clear hg)|(refine callA.dv (w46 _ rfl (by simp)) (by first|exact Z4|(simp only[ZF, *,if_true,if_false];done)) ?_;intro _ hg;obtain ⟨_,_,rfl⟩:=ltI_mem (lo:= -9223372036854775808) (hi:=9223372036854775807) rfl hg;clear hg)|(with_reducible refine callA.eq (w130 _ _) ?_));((try refine qI ?_);(repeat ((first|with_reducible refine qU ?_ | simp only[Z9]);try simp (maxSteps:=9^7) +contextual only[↓ S2,S2,↓reduceIte,reduceNe,reduceEqDiff,reduceCtorEq,reduceLeDiff,reduceAdd,reduceLT,VQ,hd,XE]));(try simp +contextual (disch:=omega) only[Z2,hd,XE]);(with_reducible repeat' (first|intro h|refine And.intro (by omega) ?_ | refine exP (by omega) ?_ | apply And.intro)))))
  all_goals first
   | exact ⟨[],⟨.mk _ _ _ _ noS noS [],shD_leaf (by decide) (by decide),.inl ⟨rfl,rfl,rfl⟩⟩,rfl⟩
   | exact ⟨[],⟨_,shD_mono (Nat.zero_le _) (by assumption),.inl ⟨by assumption,rfl,rfl⟩⟩,rfl⟩
   | exact ⟨[_],⟨.mk _ _ _ _ noS noS [_,_,_],shD_node (by decide) (by decide) (by simp) (by simp[*]),.inr ⟨_,rfl,rfl⟩⟩,rfl⟩
   | exact ⟨[_],⟨.mk _ _ _ _ _ _ [_],shD_node (by assumption) (by assumption) (by simp) (by simp[*]),.inr ⟨_,rfl,rfl⟩⟩,rfl⟩
   | exact ⟨[_],⟨.mk _ _ _ _ noS noS [_,_],shD_node (by decide) (by decide) (by simp) (by simp[*]),.inr ⟨_,rfl,rfl⟩⟩,rfl⟩
theorem o44:Dc Tryz.prog 44 [] (fun g H1=>∃e,shD 5 e∧ExW e g H1):=by
 refine Dc.of fun rc H=> ?_
 refine Z6 mxd i44 rfl (by simp) ?_;simp (maxSteps:=9^7) only[↓ S2,S2,Z7,↓reduceIte,reduceNe,reduceEqDiff,reduceCtorEq,reduceLeDiff,reduceAdd,reduceLT]
 refine callS.dv (wz45 _ (by omega)) Z4 ?_
 rintro _ ⟨k,hk,rfl⟩
 ((try refine qI ?_);(repeat ((first|with_reducible refine qU ?_ | simp only[Z9]);try simp (maxSteps:=9^7) +contextual only[↓ S2,S2,↓reduceIte,reduceNe,reduceEqDiff,reduceCtorEq,reduceLeDiff,reduceAdd,reduceLT,VQ,]));(try simp +contextual (disch:=omega) only[Z2,]);(with_reducible repeat' (first|intro h|refine And.intro (by omega) ?_ | refine exP (by omega) ?_ | apply And.intro)))
 refine callS.dc (o78 (1+k) (by omega)) Z4 ?_
 rintro g H1 ⟨e,he,hw⟩ hn
 have hok:=shEx_ok (shD_ex (by omega) he)
 rcases hw with ⟨h0,rfl,rfl⟩|⟨r,rfl,rfl⟩
 ·simp only[List.nil_append] at hn ⊢
  ((try refine qI ?_);(repeat ((first|with_reducible refine qU ?_ | simp only[Z9]);try simp (maxSteps:=9^7) +contextual only[↓ S2,S2,↓reduceIte,reduceNe,reduceEqDiff,reduceCtorEq,reduceLeDiff,reduceAdd,reduceLT,VQ,]));(try simp +contextual (disch:=omega) only[Z2,]);(with_reducible repeat' (first|intro h|refine And.intro (by omega) ?_ | refine exP (by omega) ?_ | apply And.intro)))
  refine callS.borA (w12 e hok.1 hok.2) (.cons (bor_ExN h0) .nil) rfl ?_
  ((try refine qI ?_);(repeat ((first|with_reducible refine qU ?_ | simp only[Z9]);try simp (maxSteps:=9^7) +contextual only[↓ S2,S2,↓reduceIte,reduceNe,reduceEqDiff,reduceCtorEq,reduceLeDiff,reduceAdd,reduceLT,VQ,]));(try simp +contextual (disch:=omega) only[Z2,]);(with_reducible repeat' (first|intro h|refine And.intro (by omega) ?_ | refine exP (by omega) ?_ | apply And.intro)))
  ·exact ⟨_,[],[_],[],⟨e,shD_mono (by omega) he,.inl ⟨h0,rfl,rfl⟩⟩,.refl,rfl,(by simp[subH,Z3,names])⟩
  ·exact ⟨_,[],[_],[],⟨.mk _ _ _ _ noS noS [],shD_leaf (by decide) (by decide),.inl ⟨rfl,rfl,rfl⟩⟩,.refl,rfl,(by simp[subH,Z3,names])⟩
 ·simp only[List.cons_append,List.nil_append] at hn ⊢
  have h3:=neH_of hn
  (replace h3:=h3;simp only[VN] at h3)
  ((try refine qI ?_);(repeat ((first|with_reducible refine qU ?_ | simp only[Z9]);try simp (maxSteps:=9^7) +contextual only[↓ S2,S2,↓reduceIte,reduceNe,reduceEqDiff,reduceCtorEq,reduceLeDiff,reduceAdd,reduceLT,VQ,]));(try simp +contextual (disch:=omega) only[Z2,]);(with_reducible repeat' (first|intro h|refine And.intro (by omega) ?_ | refine exP (by omega) ?_ | apply And.intro)))
  refine callS.borA (w12 e hok.1 hok.2) (.cons (bor_ExR Z4) .nil) rfl ?_
  ((try refine qI ?_);(repeat ((first|with_reducible refine qU ?_ | simp only[Z9]);try simp (maxSteps:=9^7) +contextual only[↓ S2,S2,↓reduceIte,reduceNe,reduceEqDiff,reduceCtorEq,reduceLeDiff,reduceAdd,reduceLT,VQ,]));(try simp +contextual (disch:=omega) only[Z2,]);(with_reducible repeat' (first|intro h|refine And.intro (by omega) ?_ | refine exP (by omega) ?_ | apply And.intro)))
  ·exact ⟨_,[_],[_,_],[],⟨e,shD_mono (by omega) he,.inr ⟨r,rfl,rfl⟩⟩,.refl,rfl,(by simp[subH,Z3,names,h3])⟩
  ·exact ⟨_,[],[_,_],[],⟨.mk _ _ _ _ noS noS [],shD_leaf (by decide) (by decide),.inl ⟨rfl,rfl,rfl⟩⟩,.refl,rfl,(by simp[subH,Z3,names,h3])⟩
theorem w25:Dv Tryz.prog 25 [] (fun g=>∃e,shEx e∧g=Ex e):=by
 refine Dv.of fun rc H=> ?_
 refine Z6 mxd i25 rfl (by simp) ?_;simp (maxSteps:=9^7) only[↓ S2,S2,Z7,↓reduceIte,reduceNe,reduceEqDiff,reduceCtorEq,reduceLeDiff,reduceAdd,reduceLT]
 refine callS.dc (Dc.own o44) Z4 ?_
 rintro g H1 ⟨e,r,he,rfl,rfl⟩ hn
 have hal:=Yf (shEx_ok (shD_ex (by omega) he)).2
 have hwx:=he
 unfold shD at hwx
 try simp only[List.cons_append,List.nil_append] at hn
 try simp only[List.cons_append,List.nil_append]
 have h3:=neH_of hn
 (replace h3:=h3;simp only[VN] at h3)
 ((try refine qI ?_);(repeat ((first|with_reducible refine qU ?_ | simp only[Z9]);try simp (maxSteps:=9^7) +contextual only[↓ S2,S2,↓reduceIte,reduceNe,reduceEqDiff,reduceCtorEq,reduceLeDiff,reduceAdd,reduceLT,VQ,]));(try simp +contextual (disch:=omega) only[Z2,]);(with_reducible repeat' (first|intro h|refine And.intro (by omega) ?_ | refine exP (by omega) ?_ | apply And.intro)))
 (repeat' ((first|(refine callS.dv (wz45 _ (by omega)) (by first|exact Z4|(simp only[ZF, *,if_true,if_false];done)) ?_;rintro _ ⟨_,_,rfl⟩)|(refine callS.dv (w45 _) (by first|exact Z4|(simp only[ZF, *,if_true,if_false];done)) ?_;rintro _ ⟨_,_,_,_,rfl⟩)|(refine callS.dv (w108 _) (by first|exact Z4|(simp only[ZF, *,if_true,if_false];done)) ?_;rintro _ ⟨_,rfl⟩)|(refine callS.dv (w110) (by first|exact Z4|(simp only[ZF, *,if_true,if_false];done)) ?_;rintro _ ⟨_,_,rfl⟩)|(refine callS.dv (w47 _ rfl (by simp)) (by first|exact Z4|(simp only[ZF, *,if_true,if_false];done)) ?_;intro _ hg;obtain ⟨_,_,rfl⟩:=ltT_mem rfl hg;clear hg)|(refine callS.dv (w46 _ rfl (by simp)) (by first|exact Z4|(simp only[ZF, *,if_true,if_false];done)) ?_;intro _ hg;obtain ⟨_,_,rfl⟩:=ltI_mem (lo:= -9223372036854775808) (hi:=9223372036854775807) rfl hg;clear hg)|(refine callA.dv (wz45 _ (by omega)) (by first|exact Z4|(simp only[ZF, *,if_true,if_false];done)) ?_;rintro _ ⟨_,_,rfl⟩)|(refine callA.dv (w45 _) (by first|exact Z4|(simp only[ZF, *,if_true,if_false];done)) ?_;rintro _ ⟨_,_,_,_,rfl⟩)|(refine callA.dv (w108 _) (by first|exact Z4|(simp only[ZF, *,if_true,if_false];done)) ?_;rintro _ ⟨_,rfl⟩)|(refine callA.dv (w110) (by first|exact Z4|(simp only[ZF, *,if_true,if_false];done)) ?_;rintro _ ⟨_,_,rfl⟩)|(refine callA.dv (w47 _ rfl (by simp)) (by first|exact Z4|(simp only[ZF, *,if_true,if_false];done)) ?_;intro _ hg;obtain ⟨_,_,rfl⟩:=ltT_mem rfl hg;clear hg)|(refine callA.dv (w46 _ rfl (by simp)) (by first|exact Z4|(simp only[ZF, *,if_true,if_false];done)) ?_;intro _ hg;obtain ⟨_,_,rfl⟩:=ltI_mem (lo:= -9223372036854775808) (hi:=9223372036854775807) rfl hg;clear hg));((try refine qI ?_);(repeat ((first|with_reducible refine qU ?_ | simp only[Z9]);try simp (maxSteps:=9^7) +contextual only[↓ S2,S2,↓reduceIte,reduceNe,reduceEqDiff,reduceCtorEq,reduceLeDiff,reduceAdd,reduceLT,VQ,List.length_map,maxLv]));(try simp +contextual (disch:=omega) only[Z2,List.length_map,maxLv]);(with_reducible repeat' (first|intro h|refine And.intro (by omega) ?_ | refine exP (by omega) ?_ | apply And.intro)))))
 all_goals try exact oF
 all_goals first
  | exact ⟨_,[_,_,_],[(r,7,_)],⟨.mk _ _ _ _ e.sym e.name e.args,shEx_upd (.inr rfl) (by omega),rfl⟩,bor_ExV Z4 rfl,rfl,by simp[subH,Z3,names, *]⟩
  | exact ⟨_,[_,_,_],[(r,7,_)],⟨.mk _ _ _ _ e.sym _ e.args,shEx_upd (.inl (by assumption)) (by omega),rfl⟩,bor_ExV Z4 rfl,rfl,by simp[subH,Z3,names, *]⟩
  | skip
 ·rename_i q1 _ q2
  rw[tL (by simp)]
  refine ⟨_,[_,_,_,_],[(q2,7,_)],⟨.mk _ _ _ _ e.sym e.name (e.args++[.mk 7 0 0 0 noS noS []]),?_,rfl⟩,bor_ExApp (e:= .mk 7 0 0 0 noS noS []) Z4 rfl rfl,rfl,by simp[subH,Z3,names,Exp.kind,Exp.n,Exp.pos,Exp.type,Exp.sym,Exp.name,noS, *]⟩
  unfold shEx
  rw[wEx_app,wEx_lit]
  have:=Exp.eta e
  rw[this]
  omega
 ·rename_i q1 _ _ _ _ _ _ _ _
  have hne:¬q1=r:=by simp[*]
  refine wloopF mxd (ι:={ x:Nat×Exp // x.1≤5∧wEx x.2≤40960+2 * x.1 }) (fun x=>[(2,.raw 7),(3,.ptr q1 7 0 0),(4,I x.1.1)]) (fun x=>(q1,7,[Ex x.1.2])::(rc,3,[.cur])::H) (fun x=>5-x.1.1) ⟨(0,.mk e.kind e.n e.pos e.type e.sym e.name e.args),by rw[Exp.eta];constructor<;>simp<;>omega⟩ (FE.trans FE.swap (FE.frzE hne rfl)) (by simp[E2]) rfl ?_
  rintro ⟨⟨k,x⟩,hk,hx⟩ hn2
  dsimp only at hk hx hn2 ⊢
  have h4:=neH_of hn2
  (replace h4:=h4;simp only[VN] at h4)
  refine gwp_ok mxd ?_
  ((try refine qI ?_);(repeat ((first|with_reducible refine qU ?_ | simp only[Z9]);try simp (maxSteps:=9^7) +contextual only[↓ S2,S2,↓reduceIte,reduceNe,reduceEqDiff,reduceCtorEq,reduceLeDiff,reduceAdd,reduceLT,VQ,XE]));(try simp +contextual (disch:=omega) only[Z2,XE]);(with_reducible repeat' (first|intro h|refine And.intro (by omega) ?_ | refine exP (by omega) ?_ | apply And.intro)))
  all_goals try exact oF
  ·refine callS.of (GCalls.see (o48 1 x (.mk 2 0 0 0 noS noS []) _) (.cons .refl (.cons .refl (.cons (bor_ExN (e:= .mk 2 0 0 0 noS noS []) rfl) .nil)))) ?_
   rintro _ _ ⟨_,⟨q3,rfl,rfl⟩,rfl⟩ hn3
   try simp only[List.cons_append,List.nil_append] at hn3
   have h5:=neH_of hn3
   (replace h5:=h5;simp only[VN] at h5)
   ((try refine qI ?_);(repeat ((first|with_reducible refine qU ?_ | simp only[Z9]);try simp (maxSteps:=9^7) +contextual only[↓ S2,S2,↓reduceIte,reduceNe,reduceEqDiff,reduceCtorEq,reduceLeDiff,reduceAdd,reduceLT,VQ,XE,h5]));(try simp +contextual (disch:=omega) only[Z2,XE,h5]);(with_reducible repeat' (first|intro h|refine And.intro (by omega) ?_ | refine exP (by omega) ?_ | apply And.intro)))
   have hne2:¬q1=q3:=by simp[*]
   refine nxF ⟨(k+1,.mk 4 1 0 0 noS noS [x,.mk 2 0 0 0 noS noS []]),by rw[wEx_op,wEx_lit];constructor<;>simp<;>omega⟩ (by simp<;>omega) (FE.frzE (l:=[x,.mk 2 0 0 0 noS noS []]) hne2 rfl) (by simp[E2]) rfl
  ·refine ⟨_,[_,_],[],⟨x,?_,rfl⟩,.refl,rfl,by simp[subH,Z3,names, *]⟩
   unfold shEx;omega
theorem w8 (bs:List UInt8):Pu 8 [Bs bs] (· = B (decide ((1048576:Int)<bs.length))):=by
 refine Z6 mxd i8 rfl (by simp) ?_;simp (maxSteps:=9^7) only[↓ S2,S2,Z7,↓reduceIte,reduceNe,reduceEqDiff,reduceCtorEq,reduceLeDiff,reduceAdd,reduceLT]
 ((try refine qI ?_);(repeat ((first|with_reducible refine qU ?_ | simp only[Z9]);try simp (maxSteps:=9^7) +contextual only[↓ S2,S2,↓reduceIte,reduceNe,reduceEqDiff,reduceCtorEq,reduceLeDiff,reduceAdd,reduceLT,VQ,List.length_map]));(try simp +contextual (disch:=omega) only[Z2,List.length_map]);(with_reducible repeat' (first|intro h|refine And.intro (by omega) ?_ | refine exP (by omega) ?_ | apply And.intro)))
theorem w21:∀(e:Exp),wEx e≤1048576→Pu 21 [Ex e,Ex e] (· = B true):=by
 refine Exp.indA fun e ih hw=> ?_
 obtain ⟨hl,ha⟩:=Yf hw
 refine Z6 mxd i21 rfl (by simp) ?_;simp (maxSteps:=9^7) only[↓ S2,S2,Z7,↓reduceIte,reduceNe,reduceEqDiff,reduceCtorEq,reduceLeDiff,reduceAdd,reduceLT]
 ((try refine qI ?_);(repeat ((first|with_reducible refine qU ?_ | simp only[Z9]);try simp (maxSteps:=9^7) +contextual only[↓ S2,S2,↓reduceIte,reduceNe,reduceEqDiff,reduceCtorEq,reduceLeDiff,reduceAdd,reduceLT,VQ,XE]));(try simp +contextual (disch:=omega) only[Z2,XE]);(with_reducible repeat' (first|intro h|refine And.intro (by omega) ?_ | refine exP (by omega) ?_ | apply And.intro)))
 refine Yt mxd (ι:={ i:Nat // i≤e.args.length }) (fun i=>[(2,.rop 7 (Ex e)),(3,.rop 7 (Ex e)),(5,I i.1)]) (fun _ => []) (fun i=>e.args.length-i.1) ⟨0,by simp⟩ (by simp[E2]) rfl ?_
 rintro ⟨i,hi⟩
 dsimp only
 rcases nL i e.args.length with hlt|hge
 ·((try refine qI ?_);(repeat ((first|with_reducible refine qU ?_ | simp only[Z9]);try simp (maxSteps:=9^7) +contextual only[↓ S2,S2,↓reduceIte,reduceNe,reduceEqDiff,reduceCtorEq,reduceLeDiff,reduceAdd,reduceLT,VQ,XE]));(try simp +contextual (disch:=omega) only[Z2,XE]);(with_reducible repeat' (first|intro h|refine And.intro (by omega) ?_ | refine exP (by omega) ?_ | apply And.intro)))
  all_goals try exact oF
  refine callS.eq (ih _ (gM hlt) (ha _ (gM hlt))) ?_
  ((try refine qI ?_);(repeat ((first|with_reducible refine qU ?_ | simp only[Z9]);try simp (maxSteps:=9^7) +contextual only[↓ S2,S2,↓reduceIte,reduceNe,reduceEqDiff,reduceCtorEq,reduceLeDiff,reduceAdd,reduceLT,VQ,]));(try simp +contextual (disch:=omega) only[Z2,]);(with_reducible repeat' (first|intro h|refine And.intro (by omega) ?_ | refine exP (by omega) ?_ | apply And.intro)))
  exact nx ⟨i+1,by omega⟩ (by simp<;>omega) (by simp[E2]) rfl
 ·((try refine qI ?_);(repeat ((first|with_reducible refine qU ?_ | simp only[Z9]);try simp (maxSteps:=9^7) +contextual only[↓ S2,S2,↓reduceIte,reduceNe,reduceEqDiff,reduceCtorEq,reduceLeDiff,reduceAdd,reduceLT,VQ,XE]));(try simp +contextual (disch:=omega) only[Z2,XE]);(with_reducible repeat' (first|intro h|refine And.intro (by omega) ?_ | refine exP (by omega) ?_ | apply And.intro)))
  all_goals try exact oF
end Go.Proofs.YtkmedfejmndmjaaGreatDoor
