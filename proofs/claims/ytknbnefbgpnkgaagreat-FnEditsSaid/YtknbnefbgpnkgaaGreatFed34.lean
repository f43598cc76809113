/- The laws FnEdits, FnEdited and FnSwapped return true whatever the input, and the input reads behind the call as before. No condition. -/
import Derived.Test.YtknbnefbgpnkgaaGreatFed24
import Derived.Test.YtknbnefbgpnkgaaGreatFed33
set_option maxHeartbeats 40000000
set_option maxRecDepth 20000
set_option linter.unusedSimpArgs false
set_option linter.unusedVariables false
namespace Go.Proofs.YtknbnefbgpnkgaaGreat
open Go.Gh
open Nat (reduceEqDiff reduceLeDiff reduceAdd reduceLT)
open Int (reduceNe)
theorem w71 (g:Gram) (t0:List Nod) (hg:drG g) (ht0:goodT 40 t0):Dv Tryz.prog 71 [Gr g,Tr t0,I 4] (fun v=>∃L:List Edi,L.length≤4∧(∀e∈L,drE e)∧v=EdS L):=by
 refine Dv.of fun rc H=> ?_
 have hsm:=drG_sm hg
 have hok:=drG_ok hg
 refine ZZ mxd i71 rfl (by simp) ?_;refine X0 ?_
 ((refine R1 (jO @Z9 (jO @Z7 @Z8)) ?_;with_reducible repeat' intro h);(repeat' (have h:=Z6 h;simp only[Z4,Z0,Z5,Z1,and_true,true_and] at h;(refine R1 (jO @Z9 (jO @Z7 (jO @Z8 h))) ?_))))
 refine callS.dv (YK 5 oT) (by simp only[Z9, *,if_true,if_false]) ?_
 rintro _ ⟨n,hn,rfl⟩
 ((refine R1 (jO @Z9 (jO @Z7 @Z8)) ?_);(repeat' (have h:=Z6 h;simp only[Z4,Z0,Z5,Z1,and_true,true_and] at h;(refine R1 (jO @Z9 (jO @Z7 (jO @Z8 h))) ?_;with_reducible repeat' first|exact trivial|intro h|refine aO ?_|refine eO ?_|apply jO))))
 rename_i rt _ ro hn0
 refine Y5 mxd (ι:={ x:(Nat×List Edi×List Nod)×Nat // x.2≤n∧x.1.2.1.length=x.2∧(∀e∈x.1.2.1,drE e)∧goodT 40 x.1.2.2 }) (fun x=>[(0,.ptr rc 3 0 0),(5,.rop 2 (Gr g)),(6,.ptr rt 1 0 0),(8,Zy),(9,.own x.1.1.1 5 0 x.1.1.2.1.length),(10,I n),(11,I x.1.2)]) (fun x=>(x.1.1.1,5,x.1.1.2.1.map Ed)::(rt,1,[.agg [NdS x.1.1.2.2]])::(rc,3,[.cur])::H) (fun x=>n-x.1.2) ⟨((ro,[],t0),0),by simp,rfl,by simp,ht0⟩ .refl (by simp[E2]) (by simp) ?_
 clear h hn0
 rintro ⟨⟨⟨q,L,t⟩,i⟩,hi,hL,hd,ht⟩ hn2
 dsimp only at hi hL hd ht hn2 ⊢
 have h4:=Z6 hn2
 (replace h4:=h4;simp only[VN] at h4)
 refine ZB mxd ?_
 rcases nL i n with hlt|hge
 ·((refine R1 (jO @Z9 (jO @Z7 (jO @Z8 h4))) ?_;with_reducible repeat' first|intro h|apply jO);(repeat' (have h:=Z6 h;simp only[Z4,Z0,Z5,Z1,and_true,true_and] at h;(refine R1 (jO @Z9 (jO @Z7 (jO @Z8 (jO h4 h)))) ?_;with_reducible repeat' first|exact trivial|intro h|refine aO ?_|refine eO ?_|apply jO))))
  all_goals try exact oF
  refine callS.dv (w53 g t hg ht) (by simp only[Z9,h4,if_true,if_false]) ?_
  rintro _ ⟨e,he,rfl⟩
  have hes:=drE_sm he
  have hts:=goodT_sm ht
  have hga:=edT_good (g:=g) (e:=e) hg ht
  have hqa:=q17 g t e hsm hok hts.1 hts.2 hes.1 hes.2
  generalize edT g t e=p at *
  ((refine R1 (jO @Z9 (jO @Z7 (jO @Z8 (jO h4 (jO @List.length_append.{0} (jO @List.length_singleton.{0} (jO @List.length_map.{0,0} @List.length_take.{0}))))))) ?_;with_reducible repeat' intro h);(repeat' (have h:=Z6 h;simp only[Z4,Z0,Z5,Z1,and_true,true_and] at h;(refine R1 (jO @Z9 (jO @Z7 (jO @Z8 (jO h4 (jO @List.length_append.{0} (jO @List.length_singleton.{0} (jO @List.length_map.{0,0} (jO @List.length_take.{0} h)))))))) ?_;with_reducible repeat' intro h))))
  all_goals try exact oF
  rename_i r3 _ _ r4 _
  have h5:=h
  refine callS.eq hqa ?_
  ((refine R1 (jO @Z9 (jO @Z7 (jO @Z8 (jO h4 h5)))) ?_);(repeat' (have h:=Z6 h;simp only[Z4,Z0,Z5,Z1,and_true,true_and] at h;(refine R1 (jO @Z9 (jO @Z7 (jO @Z8 (jO h4 (jO h5 h))))) ?_;with_reducible repeat' first|exact trivial|intro h|refine aO ?_|refine eO ?_|apply jO))))
  rw[tL (by simp)]
  exact nxF ⟨((r4,L++[e],p.1),i+1),by dsimp only;omega,by simp;omega,fun x hx=>(List.mem_append.1 hx).elim (hd x) fun h=>by
   rw[List.mem_singleton] at h;subst h;exact he,hga⟩ (by dsimp only;omega) (FE.perm (H:=[_,_,_,_]) (L:=[(r4,_),(rt,_),(rc,_)]) (by repeat' (first|exact trivial|(refine jO (by simp only[Z9, *,if_true,if_false];try rfl) (jO (by simp[ZW,ZV, *]) ?_))))) (by simp[E2]) (by simp)
 ·((refine R1 (jO @Z9 (jO @Z7 (jO @Z8 h4))) ?_;with_reducible repeat' intro h);(repeat' (have h:=Z6 h;simp only[Z4,Z0,Z5,Z1,and_true,true_and] at h;(refine R1 (jO @Z9 (jO @Z7 (jO @Z8 (jO h4 h)))) ?_;with_reducible repeat' first|exact trivial|intro h|refine aO ?_|refine eO ?_|apply jO))))
  all_goals try exact oF
  exact ⟨_,[_,_,_],[_],⟨L,oT,hd,rfl⟩,Bor.allM (fun _ => rfl) ZX rfl,rfl,(by repeat' (first|exact trivial|(refine jO (by simp only[Z9, *,if_true,if_false];try rfl) (jO (by simp[ZW,ZV, *]) ?_))))⟩
theorem d52 (g:Gram) (hg:drG g):Dv Tryz.prog 52 [Gr g] (fun v=>∃t,goodT 40 t∧v=Tr t):=
 (o52 g hg).frz fun v H1 ⟨q,t,ht,h2,h3⟩=>by
  subst h2 h3
  exact ⟨_,⟨t,ht,rfl⟩,.agg (.cons (Bor.seen (f:=NdO) (g:=Nd) (fun x=>by have:=view_NdO [x];simpa using this) ZX rfl) .nil)⟩
theorem w23 (bs:List UInt8) (hb:bs.length≤1048576):Pu 23 [Bs bs] (fun v=>∃g t L,drG g∧goodT 40 t∧L.length≤4∧(∀e∈L,drE e)∧v = .tup [Gr g,Tr t,EdS L]):=by
 refine gstartG i23 rfl (by simp) ?_
 refine gwpS mxd ?_
 ((refine R1 (jO @Z9 (jO @Z7 @Z8)) ?_);(repeat' (have h:=Z6 h;simp only[Z4,Z0,Z5,Z1,and_true,true_and] at h;(refine R1 (jO @Z9 (jO @Z7 (jO @Z8 h))) ?_;with_reducible repeat' first|exact trivial|intro h|refine aO ?_|refine eO ?_|apply jO))))
 refine gwpS mxd ?_
 ((refine R1 (jO @Z9 (jO @Z7 @Z8)) ?_);(repeat' (have h:=Z6 h;simp only[Z4,Z0,Z5,Z1,and_true,true_and] at h;(refine R1 (jO @Z9 (jO @Z7 (jO @Z8 h))) ?_;with_reducible repeat' first|exact trivial|intro h|refine aO ?_|refine eO ?_|apply jO))))
 refine callS.of (o39 bs hb _) ?_
 rintro _ _ ⟨rc,rfl,rfl⟩ hn
 ((refine R1 (jO @Z9 (jO @Z7 @Z8)) ?_);(repeat' (have h:=Z6 h;simp only[Z4,Z0,Z5,Z1,and_true,true_and] at h;(refine R1 (jO @Z9 (jO @Z7 (jO @Z8 h))) ?_;with_reducible repeat' first|exact trivial|intro h|refine aO ?_|refine eO ?_|apply jO))))
 refine gwpS mxd ?_
 ((refine R1 (jO @Z9 (jO @Z7 @Z8)) ?_);(repeat' (have h:=Z6 h;simp only[Z4,Z0,Z5,Z1,and_true,true_and] at h;(refine R1 (jO @Z9 (jO @Z7 (jO @Z8 h))) ?_;with_reducible repeat' first|exact trivial|intro h|refine aO ?_|refine eO ?_|apply jO))))
 refine callS.dv (w41 2) ZX ?_
 rintro _ ⟨b,rfl⟩
 ((refine R1 (jO @Z9 (jO @Z7 @Z8)) ?_);(repeat' (have h:=Z6 h;simp only[Z4,Z0,Z5,Z1,and_true,true_and] at h;(refine R1 (jO @Z9 (jO @Z7 (jO @Z8 h))) ?_;with_reducible repeat' first|exact trivial|intro h|refine aO ?_|refine eO ?_|apply jO))))
 refine callS.dv (w51 b) ZX ?_
 rintro _ ⟨g,hg,rfl⟩
 ((refine R1 (jO @Z9 (jO @Z7 @Z8)) ?_);(repeat' (have h:=Z6 h;simp only[Z4,Z0,Z5,Z1,and_true,true_and] at h;(refine R1 (jO @Z9 (jO @Z7 (jO @Z8 h))) ?_;with_reducible repeat' first|exact trivial|intro h|refine aO ?_|refine eO ?_|apply jO))))
 refine gwpS mxd ?_
 ((refine R1 (jO @Z9 (jO @Z7 @Z8)) ?_);(repeat' (have h:=Z6 h;simp only[Z4,Z0,Z5,Z1,and_true,true_and] at h;(refine R1 (jO @Z9 (jO @Z7 (jO @Z8 h))) ?_;with_reducible repeat' first|exact trivial|intro h|refine aO ?_|refine eO ?_|apply jO))))
 refine callS.dv (d52 g hg) ZX ?_
 rintro _ ⟨t,ht,rfl⟩
 ((refine R1 (jO @Z9 (jO @Z7 @Z8)) ?_);(repeat' (have h:=Z6 h;simp only[Z4,Z0,Z5,Z1,and_true,true_and] at h;(refine R1 (jO @Z9 (jO @Z7 (jO @Z8 h))) ?_;with_reducible repeat' first|exact trivial|intro h|refine aO ?_|refine eO ?_|apply jO))))
 refine ZB mxd ?_
 ((refine R1 (jO @Z9 (jO @Z7 @Z8)) ?_);(repeat' (have h:=Z6 h;simp only[Z4,Z0,Z5,Z1,and_true,true_and] at h;(refine R1 (jO @Z9 (jO @Z7 (jO @Z8 h))) ?_;with_reducible repeat' first|exact trivial|intro h|refine aO ?_|refine eO ?_|apply jO))))
 refine callA.dv (w71 g t hg ht) ZX ?_
 rintro _ ⟨L,hL4,hL,rfl⟩
 ((refine R1 (jO @Z9 (jO @Z7 @Z8)) ?_);(repeat' (have h:=Z6 h;simp only[Z4,Z0,Z5,Z1,and_true,true_and] at h;(refine R1 (jO @Z9 (jO @Z7 (jO @Z8 h))) ?_;with_reducible repeat' first|exact trivial|intro h|refine aO ?_|refine eO ?_|apply jO))))
 exact ⟨g,t,L,hg,ht,hL4,hL,rfl⟩
end Go.Proofs.YtknbnefbgpnkgaaGreat
