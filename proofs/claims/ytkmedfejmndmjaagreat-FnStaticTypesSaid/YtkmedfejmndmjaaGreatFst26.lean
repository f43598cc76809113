/- The law FnStaticTypes returns true whatever the input, and the input reads behind the call as before. No condition. -/
import Derived.Test.YtkmedfejmndmjaaGreatFst25
set_option maxHeartbeats 40000000
set_option maxRecDepth 20000
set_option linter.unusedSimpArgs false
set_option linter.unusedVariables false
namespace Go.Proofs.YtkmedfejmndmjaaGreat
open Go.Gh
open Nat (reduceEqDiff reduceLeDiff reduceAdd reduceLT)
open Int (reduceNe)
theorem d101 (g:Gram) (hg:drG g):Dv Tryz.prog 101 [Gr g] (fun v=>∃t,goodT 40 t∧v=Tr t):=
 (o101 g hg).frz fun v H1 ⟨q,t,ht,h2,h3⟩=>by
  subst h2 h3
  exact ⟨_,⟨t,ht,rfl⟩,.agg (.cons (Bor.seen (f:=NdO) (g:=Nd) (fun x=>by have:=view_NdO [x];simpa using this) ZZ rfl) .nil)⟩
theorem w58:Dv Tryz.prog 58 [] (fun v=>∃g t,drG g∧bentT t∧v = .tup [Gr g,Tr t]):=by
 refine Dv.of fun rc H=> ?_
 refine gstartG i58 rfl (by simp) ?_
 refine gwpS mxd ?_
 ((refine R1 (jO @Z9 (jO @Z8 @Z7)) ?_);(repeat' (have h:=Z4 h;simp only[Z0,ZX,Z1,ZY,and_true,true_and] at h;(refine R1 (jO @Z9 (jO @Z8 (jO @Z7 h))) ?_;with_reducible repeat' first|exact trivial|intro h|refine aO ?_|refine eO ?_|apply jO))))
 refine gwpS mxd ?_
 ((refine R1 (jO @Z9 (jO @Z8 @Z7)) ?_);(repeat' (have h:=Z4 h;simp only[Z0,ZX,Z1,ZY,and_true,true_and] at h;(refine R1 (jO @Z9 (jO @Z8 (jO @Z7 h))) ?_;with_reducible repeat' first|exact trivial|intro h|refine aO ?_|refine eO ?_|apply jO))))
 refine callS.dv (w36 12) ZZ ?_
 rintro _ ⟨b,rfl⟩
 ((refine R1 (jO @Z9 (jO @Z8 @Z7)) ?_);(repeat' (have h:=Z4 h;simp only[Z0,ZX,Z1,ZY,and_true,true_and] at h;(refine R1 (jO @Z9 (jO @Z8 (jO @Z7 h))) ?_;with_reducible repeat' first|exact trivial|intro h|refine aO ?_|refine eO ?_|apply jO))))
 refine callS.dv (w74 (!b)) ZZ ?_
 rintro _ ⟨g,hg,rfl⟩
 ((refine R1 (jO @Z9 (jO @Z8 @Z7)) ?_);(repeat' (have h:=Z4 h;simp only[Z0,ZX,Z1,ZY,and_true,true_and] at h;(refine R1 (jO @Z9 (jO @Z8 (jO @Z7 h))) ?_;with_reducible repeat' first|exact trivial|intro h|refine aO ?_|refine eO ?_|apply jO))))
 refine gwpS mxd ?_
 ((refine R1 (jO @Z9 (jO @Z8 @Z7)) ?_);(repeat' (have h:=Z4 h;simp only[Z0,ZX,Z1,ZY,and_true,true_and] at h;(refine R1 (jO @Z9 (jO @Z8 (jO @Z7 h))) ?_;with_reducible repeat' first|exact trivial|intro h|refine aO ?_|refine eO ?_|apply jO))))
 refine callS.dv (d101 g hg) ZZ ?_
 rintro _ ⟨t,ht,rfl⟩
 ((refine R1 (jO @Z9 (jO @Z8 @Z7)) ?_;with_reducible repeat' intro h);(repeat' (have h:=Z4 h;simp only[Z0,ZX,Z1,ZY,and_true,true_and] at h;(refine R1 (jO @Z9 (jO @Z8 (jO @Z7 h))) ?_))))
 rename_i r7 _
 have h3:=h
 refine Zl mxd ?_
 ((refine R1 (jO @Z9 (jO @Z8 (jO @Z7 h3))) ?_);(repeat' (have h:=Z4 h;simp only[Z0,ZX,Z1,ZY,and_true,true_and] at h;(refine R1 (jO @Z9 (jO @Z8 (jO @Z7 (jO h3 h)))) ?_;with_reducible repeat' first|exact trivial|intro h|refine aO ?_|refine eO ?_|apply jO))))
 refine callS.dv (w36 16) (by simp only[Z9,h3,if_true,if_false]) ?_
 rintro _ ⟨b2,rfl⟩
 cases b2
 ·((refine R1 (jO @Z9 (jO @Z8 (jO @Z7 h3))) ?_);(repeat' (have h:=Z4 h;simp only[Z0,ZX,Z1,ZY,and_true,true_and] at h;(refine R1 (jO @Z9 (jO @Z8 (jO @Z7 (jO h3 h)))) ?_;with_reducible repeat' first|exact trivial|intro h|refine aO ?_|refine eO ?_|apply jO))))
  exact ⟨_,[_,_],[],⟨g,t,hg,bentT_of ht,rfl⟩,.refl,rfl,(by repeat' (first|exact trivial|(refine jO (by simp only[Z9, *,if_true,if_false];try rfl) (jO (by simp[ZW,ZU, *]) ?_))))⟩
 ·((refine R1 (jO @Z9 (jO @Z8 (jO @Z7 h3))) ?_);(repeat' (have h:=Z4 h;simp only[Z0,ZX,Z1,ZY,and_true,true_and] at h;(refine R1 (jO @Z9 (jO @Z8 (jO @Z7 (jO h3 h)))) ?_;with_reducible repeat' first|exact trivial|intro h|refine aO ?_|refine eO ?_|apply jO))))
  refine callS.dv (w102 g hg) (by simp only[Z9,h3,if_true,if_false]) ?_
  rintro _ ⟨t2,ht2,rfl⟩
  ((refine R1 (jO @Z9 (jO @Z8 (jO @Z7 h3))) ?_);(repeat' (have h:=Z4 h;simp only[Z0,ZX,Z1,ZY,and_true,true_and] at h;(refine R1 (jO @Z9 (jO @Z8 (jO @Z7 (jO h3 h)))) ?_;with_reducible repeat' first|exact trivial|intro h|refine aO ?_|refine eO ?_|apply jO))))
  exact ⟨_,[_,_],[],⟨g,t2,hg,ht2,rfl⟩,.refl,rfl,(by repeat' (first|exact trivial|(refine jO (by simp only[Z9, *,if_true,if_false];try rfl) (jO (by simp[ZW,ZU, *]) ?_))))⟩
theorem w20 (bs:List UInt8) (hb:bs.length≤1048576):Pu 20 [Bs bs] (fun v=>∃g t,drG g∧bentT t∧v = .tup [Gr g,Tr t]):=by
 refine Z5 mxd i20 rfl (by simp) ?_;refine X0 ?_
 ((refine R1 (jO @Z9 (jO @Z8 @Z7)) ?_);(repeat' (have h:=Z4 h;simp only[Z0,ZX,Z1,ZY,and_true,true_and] at h;(refine R1 (jO @Z9 (jO @Z8 (jO @Z7 h))) ?_;with_reducible repeat' first|exact trivial|intro h|refine aO ?_|refine eO ?_|apply jO))))
 refine callS.of (o34 bs hb _) ?_
 rintro _ _ ⟨rc,rfl,rfl⟩ hn
 ((refine R1 (jO @Z9 (jO @Z8 @Z7)) ?_);(repeat' (have h:=Z4 h;simp only[Z0,ZX,Z1,ZY,and_true,true_and] at h;(refine R1 (jO @Z9 (jO @Z8 (jO @Z7 h))) ?_;with_reducible repeat' first|exact trivial|intro h|refine aO ?_|refine eO ?_|apply jO))))
 refine callS.dv w58 ZZ ?_
 rintro _ ⟨g,t,hg,ht,rfl⟩
 ((refine R1 (jO @Z9 (jO @Z8 @Z7)) ?_);(repeat' (have h:=Z4 h;simp only[Z0,ZX,Z1,ZY,and_true,true_and] at h;(refine R1 (jO @Z9 (jO @Z8 (jO @Z7 h))) ?_;with_reducible repeat' first|exact trivial|intro h|refine aO ?_|refine eO ?_|apply jO))))
 exact ⟨g,t,hg,ht,rfl⟩
end Go.Proofs.YtkmedfejmndmjaaGreat
