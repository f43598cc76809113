/- The laws FnTreeOrder and FnTreeCycle return true whatever the input, and the input reads behind the call as before. No condition. -/
import Derived.Test.YtofcbmnplanmkaaGreatFoc6
import Derived.Test.YtofcbmnplanmkaaGreatFoc7
set_option maxHeartbeats 40000000
set_option linter.unusedSimpArgs false
set_option linter.unusedVariables false
namespace Go.Proofs.YtofcbmnplanmkaaGreat
open Go.Gh
open Nat (reduceEqDiff reduceLeDiff reduceAdd reduceLT)
open Int (reduceNe)
set_option maxRecDepth 20000
set_option linter.unusedSimpArgs false
set_option linter.unusedVariables false
theorem q52 (T:List (List Int)) (hT:okT T) (goal:Nat) (hg:goal<T.length):Pu 52 [TbS T,I goal] (· = IS (YZ (dst T goal))):=
 Pure.bor ((o52 T hT goal hg []).mono fun v H' ⟨H1,⟨r,h1,h2⟩,h3⟩=>by
  subst h1;subst h2;subst h3
  exact bor_IS ZX (by simp [YZ,dst,Y2]))
theorem q40 (T:List (List Int)) (hT:okT T) (hp:posT T) (goal:Nat) (hg:goal<T.length):Pu 40 [TbS T,I goal] (· = IS (dst T goal)):=
 Pure.bor ((o40 T hT hp goal hg []).mono fun v H' ⟨H1,⟨r,h1,h2⟩,h3⟩=>by
  subst h1;subst h2;subst h3
  exact bor_IS ZX (by simp [dst,Y2]))
theorem w21 (g:Gram) (t:List Nod) (i k:Int) (hg:Zx g) (hl:t.length≤1048576) (hk:∀x∈t,x.kids.length≤1048576):Pu 21 [Gr g,Tr t,I i,I k] (· = B (depB (ZD g t) i k)):=by
 have hT:=tabI_ok hg t
 have q1:=q17 g t hg hl hk
 generalize ZD g t=T at *
 have hTl:=hT.1
 refine ZV mxd i21 rfl (by simp) ?_;refine X0 ?_
 refine callS.eq q1 ?_
 (refine V0 ?_;with_reducible repeat' first|exact trivial|intro h|refine aO ?_|refine eO ?_|apply jO)
 refine callS.eq (w51 _ _ _) ?_
 by_cases h1:0≤i∧i≤(T.length:Int)-1
 ·have e1:=eq_true h1
  (refine V1 (jO e1 @decide_true) ?_;with_reducible repeat' first|exact trivial|intro h|refine aO ?_|refine eO ?_|apply jO)
  refine callS.eq (w51 _ _ _) ?_
  by_cases h2:0≤k∧k≤(T.length:Int)-1
  ·have e2:=eq_true h2
   obtain ⟨i',rfl⟩:∃j:Nat,i=j:=⟨i.toNat,by omega⟩
   obtain ⟨k',rfl⟩:∃j:Nat,k=j:=⟨k.toNat,by omega⟩
   have hi:i'<(YZ (dst T k')).length := by rw [farD_len];omega
   have hf:=farD_pos (T:=T) (goal:=k') (i:=i') (by omega) hi
   (refine V1 (jO e2 @decide_true) ?_;with_reducible repeat' first|exact trivial|intro h|refine aO ?_|refine eO ?_|apply jO)
   refine callS.eq (q52 T hT k' (by omega)) ?_
   (refine V1 (jO hi @Int.toNat_natCast) ?_;with_reducible repeat' first|exact trivial|intro h|refine aO ?_|refine eO ?_|apply jO)
   all_goals first
    | (exfalso;omega)
    | (rw [depB_in (by omega) (by omega),←hf];done)
    | trace_state
  ·have e2:=eq_false h2
   (refine V1 (jO e2 @decide_false) ?_;with_reducible repeat' first|exact trivial|intro h|refine aO ?_|refine eO ?_|apply jO)
   all_goals first
    | (exfalso;omega)
    | (rw [depB_out (by omega)];done)
    | trace_state
 ·have e1:=eq_false h1
  (refine V1 (jO e1 @decide_false) ?_;with_reducible repeat' first|exact trivial|intro h|refine aO ?_|refine eO ?_|apply jO)
  all_goals first
   | (exfalso;omega)
   | (rw [depB_out (by omega)];done)
   | trace_state
theorem w19 (g:Gram) (t:List Nod) (i k:Int) (hg:Zx g) (hl:t.length≤1048576) (hk:∀x∈t,x.kids.length≤1048576):Pu 19 [Gr g,Tr t,I i,I k] (· = B (depB (ZD g t) i k)):=by
 have hT:=tabI_ok hg t
 have q1:=q12 g t hg hl hk
 have q2:=q35 (ZD g t) hT
 generalize ZD g t=T at *
 have hTl:=hT.1
 have hFl:(Zf T).length = T.length:=by simp [Zf]
 refine ZV mxd i19 rfl (by simp) ?_;refine X0 ?_
 refine callS.eq q1 ?_
 (refine V0 ?_;with_reducible repeat' first|exact trivial|intro h|refine aO ?_|refine eO ?_|apply jO)
 refine callS.eq q2 ?_
 (refine V1 hFl ?_;with_reducible repeat' first|exact trivial|intro h|refine aO ?_|refine eO ?_|apply jO)
 refine callS.eq (w48 _ _ _) ?_
 by_cases h1:0≤i∧i≤(T.length:Int)-1
 ·have e1:=eq_true h1
  (refine V1 (jO e1 (jO hFl @decide_true)) ?_;with_reducible repeat' first|exact trivial|intro h|refine aO ?_|refine eO ?_|apply jO)
  refine callS.eq (w48 _ _ _) ?_
  by_cases h2:0≤k∧k≤(T.length:Int)-1
  ·have e2:=eq_true h2
   obtain ⟨i',rfl⟩:∃j:Nat,i=j:=⟨i.toNat,by omega⟩
   obtain ⟨k',rfl⟩:∃j:Nat,k=j:=⟨k.toNat,by omega⟩
   have q3:=q40 (Zf T) (fltT_ok hT) (fltT_pos T) k' (by omega)
   rw [dst_flt hT] at q3
   have hi:i'<(dst T k').length := by rw [dst,Y2];omega
   have hf:=ZQ hi (d:=0)
   (refine V1 (jO e2 (jO hFl @decide_true)) ?_;with_reducible repeat' first|exact trivial|intro h|refine aO ?_|refine eO ?_|apply jO)
   refine callS.eq q3 ?_
   (refine V1 (jO hi @Int.toNat_natCast) ?_;with_reducible repeat' first|exact trivial|intro h|refine aO ?_|refine eO ?_|apply jO)
   all_goals first
    | (exfalso;omega)
    | (rw [depB_in (by omega) (by omega),hf];done)
    | trace_state
  ·have e2:=eq_false h2
   (refine V1 (jO e2 (jO hFl @decide_false)) ?_;with_reducible repeat' first|exact trivial|intro h|refine aO ?_|refine eO ?_|apply jO)
   all_goals first
    | (exfalso;omega)
    | (rw [depB_out (by omega)];done)
    | trace_state
 ·have e1:=eq_false h1
  (refine V1 (jO e1 (jO hFl @decide_false)) ?_;with_reducible repeat' first|exact trivial|intro h|refine aO ?_|refine eO ?_|apply jO)
  all_goals first
   | (exfalso;omega)
   | (rw [depB_out (by omega)];done)
   | trace_state
end Go.Proofs.YtofcbmnplanmkaaGreat
