/- The laws FnStatic and FnStaticTypes return true whatever the input, and the input reads behind the call as before. No condition. -/
import Derived.Test.YtknbnefbgpnkgaaGreatFst34
import Derived.Test.YtknbnefbgpnkgaaGreatFst38
set_option maxHeartbeats 40000000
set_option maxRecDepth 20000
set_option linter.unusedSimpArgs false
set_option linter.unusedVariables false
namespace Go.Proofs.YtknbnefbgpnkgaaGreat
open Go.Gh
open Nat (reduceEqDiff reduceLeDiff reduceAdd reduceLT)
open Int (reduceNe)
theorem d52 (g:Gram) (hg:drG g):Dv Tryz.prog 52 [Gr g] (fun v=>∃t,goodT 40 t∧v=Tr t):=
 (o52 g hg).frz fun v H1 ⟨q,t,ht,h2,h3⟩=>by
  subst h2 h3
  exact ⟨_,⟨t,ht,rfl⟩,.agg (.cons (Bor.seen (f:=NdO) (g:=Nd) (fun x=>by have:=view_NdO [x];simpa using this) ZZ rfl) .nil)⟩
theorem w40:Dv Tryz.prog 40 [] (fun v=>∃g t,drG g∧bentT t∧v = .tup [Gr g,Tr t]):=by
 refine Dv.of fun rc H=> ?_
 refine gstartG i40 rfl (by simp) ?_
 refine gwpS mxd ?_
 ((refine R1 (jO @Z9 (jO @Z8 @Z7)) ?_);(repeat' (have h:=Z4 h;simp only[Z0,ZX,Z3,ZY,and_true,true_and] at h;(refine R1 (jO @Z9 (jO @Z8 (jO @Z7 h))) ?_;with_reducible repeat' first|exact trivial|intro h|refine aO ?_|refine eO ?_|apply jO))))
 refine gwpS mxd ?_
 ((refine R1 (jO @Z9 (jO @Z8 @Z7)) ?_);(repeat' (have h:=Z4 h;simp only[Z0,ZX,Z3,ZY,and_true,true_and] at h;(refine R1 (jO @Z9 (jO @Z8 (jO @Z7 h))) ?_;with_reducible repeat' first|exact trivial|intro h|refine aO ?_|refine eO ?_|apply jO))))
 refine callS.dv (w41 12) ZZ ?_
 rintro _ ⟨b,rfl⟩
 ((refine R1 (jO @Z9 (jO @Z8 @Z7)) ?_);(repeat' (have h:=Z4 h;simp only[Z0,ZX,Z3,ZY,and_true,true_and] at h;(refine R1 (jO @Z9 (jO @Z8 (jO @Z7 h))) ?_;with_reducible repeat' first|exact trivial|intro h|refine aO ?_|refine eO ?_|apply jO))))
 refine callS.dv (w51 (!b)) ZZ ?_
 rintro _ ⟨g,hg,rfl⟩
 ((refine R1 (jO @Z9 (jO @Z8 @Z7)) ?_);(repeat' (have h:=Z4 h;simp only[Z0,ZX,Z3,ZY,and_true,true_and] at h;(refine R1 (jO @Z9 (jO @Z8 (jO @Z7 h))) ?_;with_reducible repeat' first|exact trivial|intro h|refine aO ?_|refine eO ?_|apply jO))))
 refine gwpS mxd ?_
 ((refine R1 (jO @Z9 (jO @Z8 @Z7)) ?_);(repeat' (have h:=Z4 h;simp only[Z0,ZX,Z3,ZY,and_true,true_and] at h;(refine R1 (jO @Z9 (jO @Z8 (jO @Z7 h))) ?_;with_reducible repeat' first|exact trivial|intro h|refine aO ?_|refine eO ?_|apply jO))))
 refine callS.dv (d52 g hg) ZZ ?_
 rintro _ ⟨t,ht,rfl⟩
 ((refine R1 (jO @Z9 (jO @Z8 @Z7)) ?_;with_reducible repeat' intro h);(repeat' (have h:=Z4 h;simp only[Z0,ZX,Z3,ZY,and_true,true_and] at h;(refine R1 (jO @Z9 (jO @Z8 (jO @Z7 h))) ?_))))
 rename_i r7 _
 have h3:=h
 refine Zs mxd ?_
 ((refine R1 (jO @Z9 (jO @Z8 (jO @Z7 h3))) ?_);(repeat' (have h:=Z4 h;simp only[Z0,ZX,Z3,ZY,and_true,true_and] at h;(refine R1 (jO @Z9 (jO @Z8 (jO @Z7 (jO h3 h)))) ?_;with_reducible repeat' first|exact trivial|intro h|refine aO ?_|refine eO ?_|apply jO))))
 refine callS.dv (w41 16) (by simp only[Z9,h3,if_true,if_false]) ?_
 rintro _ ⟨b2,rfl⟩
 cases b2
 ·((refine R1 (jO @Z9 (jO @Z8 (jO @Z7 h3))) ?_);(repeat' (have h:=Z4 h;simp only[Z0,ZX,Z3,ZY,and_true,true_and] at h;(refine R1 (jO @Z9 (jO @Z8 (jO @Z7 (jO h3 h)))) ?_;with_reducible repeat' first|exact trivial|intro h|refine aO ?_|refine eO ?_|apply jO))))
  exact ⟨_,[_,_],[],⟨g,t,hg,bentT_of ht,rfl⟩,.refl,rfl,(by repeat' (first|exact trivial|(refine jO (by simp only[Z9, *,if_true,if_false];try rfl) (jO (by simp[ZW,ZU, *]) ?_))))⟩
 ·((refine R1 (jO @Z9 (jO @Z8 (jO @Z7 h3))) ?_);(repeat' (have h:=Z4 h;simp only[Z0,ZX,Z3,ZY,and_true,true_and] at h;(refine R1 (jO @Z9 (jO @Z8 (jO @Z7 (jO h3 h)))) ?_;with_reducible repeat' first|exact trivial|intro h|refine aO ?_|refine eO ?_|apply jO))))
  refine callS.dv (w54 g hg) (by simp only[Z9,h3,if_true,if_false]) ?_
  rintro _ ⟨t2,ht2,rfl⟩
  ((refine R1 (jO @Z9 (jO @Z8 (jO @Z7 h3))) ?_);(repeat' (have h:=Z4 h;simp only[Z0,ZX,Z3,ZY,and_true,true_and] at h;(refine R1 (jO @Z9 (jO @Z8 (jO @Z7 (jO h3 h)))) ?_;with_reducible repeat' first|exact trivial|intro h|refine aO ?_|refine eO ?_|apply jO))))
  exact ⟨_,[_,_],[],⟨g,t2,hg,ht2,rfl⟩,.refl,rfl,(by repeat' (first|exact trivial|(refine jO (by simp only[Z9, *,if_true,if_false];try rfl) (jO (by simp[ZW,ZU, *]) ?_))))⟩
theorem s9 (bs:List UInt8) (hb:bs.length≤1048576):Gc 9 [Bs bs] [] (fun v H'=>∃g t vs,(drG g∧bentT t∧vs.length=(YO g t).length)∧Bor H' v (.tup [Gr g,Tr t,IS vs])):=by
 refine Z5 mxd i9 rfl (by simp) ?_;refine X0 ?_
 ((refine R1 (jO @Z9 (jO @Z8 @Z7)) ?_);(repeat' (have h:=Z4 h;simp only[Z0,ZX,Z3,ZY,and_true,true_and] at h;(refine R1 (jO @Z9 (jO @Z8 (jO @Z7 h))) ?_;with_reducible repeat' first|exact trivial|intro h|refine aO ?_|refine eO ?_|apply jO))))
 refine callS.of (o39 bs hb _) ?_
 rintro _ _ ⟨rc,rfl,rfl⟩ hn
 ((refine R1 (jO @Z9 (jO @Z8 @Z7)) ?_);(repeat' (have h:=Z4 h;simp only[Z0,ZX,Z3,ZY,and_true,true_and] at h;(refine R1 (jO @Z9 (jO @Z8 (jO @Z7 h))) ?_;with_reducible repeat' first|exact trivial|intro h|refine aO ?_|refine eO ?_|apply jO))))
 refine callS.dv w40 ZZ ?_
 rintro _ ⟨g,t,hg,ht,rfl⟩
 have hsm:=drG_sm hg
 have hok:=drG_ok hg
 obtain ⟨hl,hk,_⟩:=bentT_sm ht
 have hrl:=runL_small hg ht
 ((refine R1 (jO @Z9 (jO @Z8 @Z7)) ?_);(repeat' (have h:=Z4 h;simp only[Z0,ZX,Z3,ZY,and_true,true_and] at h;(refine R1 (jO @Z9 (jO @Z8 (jO @Z7 h))) ?_;with_reducible repeat' first|exact trivial|intro h|refine aO ?_|refine eO ?_|apply jO))))
 refine callS.of (o11 g t hsm hok hl hk _) ?_
 rintro _ _ ⟨_,⟨r,rfl,rfl⟩,rfl⟩ hn9
 have h9:=Z4 hn9
 simp only[List.cons_append,List.nil_append] at h9 ⊢
 (replace h9:=h9;simp only[VN] at h9)
 generalize hR:YO g t=R at *
 by_cases h0:R.length=0
 ·have h0':=eq_false (show ¬(0:Int)<R.length by omega)
  ((refine R1 (jO @Z9 (jO @Z8 (jO @Z7 (jO h9 (jO h0' (jO @decide_false @List.length_map.{0,0})))))) ?_);(repeat' (have h:=Z4 h;simp only[Z0,ZX,Z3,ZY,and_true,true_and] at h;(refine R1 (jO @Z9 (jO @Z8 (jO @Z7 (jO h9 (jO h0' (jO @decide_false (jO @List.length_map.{0,0} h))))))) ?_;with_reducible repeat' first|exact trivial|intro h|refine aO ?_|refine eO ?_|apply jO))))
  exact ⟨g,t,R,⟨hg,ht,by rw[hR]⟩,.tup (.cons .refl (.cons .refl (.cons (Bor.allM (fun _ => rfl) ZZ rfl) .nil)))⟩
 ·have h0':=eq_true (show (0:Int)<R.length by omega)
  ((refine R1 (jO @Z9 (jO @Z8 (jO @Z7 (jO h9 (jO h0' (jO @decide_true @List.length_map.{0,0})))))) ?_);(repeat' (have h:=Z4 h;simp only[Z0,ZX,Z3,ZY,and_true,true_and] at h;(refine R1 (jO @Z9 (jO @Z8 (jO @Z7 (jO h9 (jO h0' (jO @decide_true (jO @List.length_map.{0,0} h))))))) ?_;with_reducible repeat' first|exact trivial|intro h|refine aO ?_|refine eO ?_|apply jO))))
  refine callS.dv (w41 3) (by simp only[Z9,h9,if_true,if_false]) ?_
  rintro _ ⟨b,rfl⟩
  cases b
  ·((refine R1 (jO @Z9 (jO @Z8 (jO @Z7 h9))) ?_);(repeat' (have h:=Z4 h;simp only[Z0,ZX,Z3,ZY,and_true,true_and] at h;(refine R1 (jO @Z9 (jO @Z8 (jO @Z7 (jO h9 h)))) ?_;with_reducible repeat' first|exact trivial|intro h|refine aO ?_|refine eO ?_|apply jO))))
   exact ⟨g,t,R,⟨hg,ht,by rw[hR]⟩,.tup (.cons .refl (.cons .refl (.cons (Bor.allM (fun _ => rfl) ZZ rfl) .nil)))⟩
  ·((refine R1 (jO @Z9 (jO @Z8 (jO @Z7 h9))) ?_);(repeat' (have h:=Z4 h;simp only[Z0,ZX,Z3,ZY,and_true,true_and] at h;(refine R1 (jO @Z9 (jO @Z8 (jO @Z7 (jO h9 h)))) ?_;with_reducible repeat' first|exact trivial|intro h|refine aO ?_|refine eO ?_|apply jO))))
   refine callS.dv (wz42 R.length oT) (by simp only[Z9,h9,if_true,if_false]) ?_
   rintro _ ⟨k,hk2,rfl⟩
   have hk3:k<R.length:=by omega
   ((refine R1 (jO @Z9 (jO @Z8 (jO @Z7 (jO h9 @List.length_map.{0,0})))) ?_);(repeat' (have h:=Z4 h;simp only[Z0,ZX,Z3,ZY,and_true,true_and] at h;(refine R1 (jO @Z9 (jO @Z8 (jO @Z7 (jO h9 (jO @List.length_map.{0,0} h))))) ?_;with_reducible repeat' first|exact trivial|intro h|refine aO ?_|refine eO ?_|apply jO))))
   all_goals try exact oF
   exact ⟨g,t,_,⟨hg,ht,by rw[hR];simp⟩,.tup (.cons .refl (.cons .refl (.cons (Bor.allM (fun _ => rfl) ZZ (by simp)) .nil)))⟩
theorem w9 (bs:List UInt8) (hb:bs.length≤1048576):Pu 9 [Bs bs] (fun v=>∃g t vs,drG g∧bentT t∧vs.length=(YO g t).length ∧ v = .tup [Gr g,Tr t,IS vs]):=
 (s9 bs hb).fr fun v H' ⟨g,t,vs,⟨h1,h2,h3⟩,h4⟩=>⟨_,[],by simpa using FR.front (H:=[]) h4,g,t,vs,h1,h2,h3,rfl⟩
end Go.Proofs.YtknbnefbgpnkgaaGreat
