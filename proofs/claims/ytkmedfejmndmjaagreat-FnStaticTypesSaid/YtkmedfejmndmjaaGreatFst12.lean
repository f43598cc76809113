/- The law FnStaticTypes returns true whatever the input, and the input reads behind the call as before. No condition. -/
import Derived.Test.YtkmedfejmndmjaaGreatFst3
set_option maxHeartbeats 40000000
set_option maxRecDepth 20000
set_option linter.unusedSimpArgs false
set_option linter.unusedVariables false
namespace Go.Proofs.YtkmedfejmndmjaaGreat
open Go.Gh
open Nat (reduceEqDiff reduceLeDiff reduceAdd reduceLT)
open Int (reduceNe)
theorem o114 (T:List (List Int)) (hT:okT T) (goal:Nat) (hg:goal<T.length) (H:GH):Gc 114 [TbS T,I goal] H (fun v H'=>∃H1,(∃r,v = .own r 1 0 T.length∧H1=[(r,1,(YB (dst T goal)).map I)])∧H'=H1++H):=by
 have hTl:=hT.1
 have h0:Gc 114 [TbS T,I goal] H (fun v H'=>∃r L,v = .own r 1 0 T.length∧ZV L r=some (1,(YB (dst T goal)).map I)∧H'=L++H):=by
  refine Z5 mxd i114 rfl (by simp) ?_;refine X0 ?_
  (refine V0 ?_;with_reducible repeat' intro h)
  rename_i r0
  refine Yu mxd (ι:={ y:Nat×Nat // y.2≤T.length }) (fun y=>[(0,TbS T),(1,I goal),(5,.own y.1.1 1 0 y.1.2),(6,I y.1.2)]) (fun y=>(y.1.1,1,(List.replicate y.1.2 (-1:Int)).map I)::H) (fun y=>T.length-y.1.2) ⟨(r0,0),by simp⟩ (by simp[E2]) (by simp) ?_
  rintro ⟨⟨q,k⟩,hk⟩ hn
  dsimp only at hk hn ⊢
  replace hn:=Z4 hn
  (replace hn:=hn;simp only[VN] at hn)
  rcases nL k T.length with hlt|hge
  ·(refine V1 (jO hn (jO @List.length_append.{0} (jO @List.length_singleton.{0} (jO @List.length_map.{0,0} (jO @List.length_replicate.{0} @ZM))))) ?_;with_reducible repeat' first|intro h|refine aO ?_|apply jO)
   all_goals try exact oF
   rename_i r3 _ r4
   refine nxF ⟨(r4,k+1),oT⟩ (by simp;omega) (FE.perm (H:=[_,_]) (L:=[(r4,_)]) (by repeat' (first|exact trivial|(refine jO (by simp only[Z9, *,if_true,if_false];try rfl) (jO (by simp[ZW,ZU, *]) ?_))))) (by simp[E2]) ?_
   rw[tL (by simp),List.replicate_succ',List.map_append]
   rfl
  ·obtain rfl:k=T.length:=by omega
   (refine V1 hn ?_;with_reducible repeat' intro h)
   all_goals try exact oF
   rename_i l0
   refine Yu mxd (ι:={ y:(Nat×Nat)×Nat // ∀j,j<y.2→(bfs T goal j).2 ≠ [] }) (fun y=>[(0,TbS T),(1,I goal),(5,.own y.1.1.1 1 0 T.length),(7,.own y.1.1.2 1 0 (bfs T goal y.1.2).2.length),(8,I ((y.1.2:Int)+1))]) (fun y=>(y.1.1.2,1,(bfs T goal y.1.2).2.map I)::(y.1.1.1,1,(bfs T goal y.1.2).1.map I)::H) (fun y=>bmu (bfs T goal y.1.2).1 (bfs T goal y.1.2).2) ⟨((q,l0),0),by simp⟩ (by simp[E2,bfs]) (by simp[bfs]) ?_
   rintro ⟨⟨⟨q,l⟩,m⟩,hne⟩ hn
   dsimp only at hne hn ⊢
   replace hn:=Z4 hn
   (replace hn:=hn;simp only[VN] at hn)
   have hbm:=bmu_bound m hne
   have hFl:=bfs_len T goal m
   have hLs:=bfs_small T goal m
   have hnx:(bfs T goal (m+1)).1 = Yx T (bfs T goal m).1 (bfs T goal m).2 (m+1)∧(bfs T goal (m+1)).2 = stL1 T (bfs T goal m).1 (bfs T goal m).2 := ⟨rfl,rfl⟩
   have hend:=bfs_end hT hne
   by_cases hL0:(bfs T goal m).2 = []
   ·have e:=hend hL0
    rw[e,hL0]
    (refine V1 hn ?_;with_reducible repeat' intro h)
    all_goals try exact oF
    exact ⟨q,[(l,_),(q,_)],rfl,by simp[ZV,hn],rfl⟩
   ·have hmu:=bmu_lt (T:=T) hFl hL0 (n:=m+1) oT
    rw[←hnx.1,←hnx.2] at hmu
    have hLp:0<(bfs T goal m).2.length := List.length_pos_iff.2 hL0
    generalize hF:(bfs T goal m).1 = F at *
    generalize hL:(bfs T goal m).2 = L at *
    have hne2:∀j,j<m+1→(bfs T goal j).2 ≠ []:=fun j hj=>by
     rcases Nat.lt_succ_iff_lt_or_eq.1 hj with h|h
     ·exact hne j h
     ·rw[h,hL];exact hL0
    (refine V1 hn ?_;with_reducible repeat' first|intro h|apply jO)
    all_goals try exact oF
    rename_i x0
    refine Yu mxd (ι:={ y:Nat×Nat // y.2≤T.length }) (fun y=>[(0,TbS T),(1,I goal),(5,.own q 1 0 T.length),(7,.own l 1 0 L.length),(8,I ((m:Int)+1)),(9,.own y.1.1 1 0 (stLp T F L y.1.2).length),(10,I y.1.2)]) (fun y=>(y.1.1,1,(stLp T F L y.1.2).map I)::(l,1,L.map I)::(q,1,(mixF T F L (m+1) y.1.2).map I)::H) (fun y=>T.length-y.1.2) ⟨(x0,0),by simp⟩ (by simp[E2,stLp]) (by simp[stLp,mixF]) ?_
    rintro ⟨⟨x,k⟩,hk⟩ hn
    dsimp only at hk hn ⊢
    replace hn:=Z4 hn
    (replace hn:=hn;simp only[VN] at hn)
    rcases nL k T.length with hlt|hge
    ·have hF0:(bfs T goal m).1.length = T.length:=by rw[hF];exact hFl
     (refine V1 hn ?_;with_reducible repeat' first|intro h|apply jO)
     all_goals try exact oF
     refine Yu mxd (ι:={ y:Nat×Nat // y.2≤L.length }) (fun y=>[(0,TbS T),(1,I goal),(5,.own q 1 0 T.length),(7,.own l 1 0 L.length),(8,I ((m:Int)+1)),(9,.own y.1.1 1 0 (nxtH T F L k y.1.2).length),(10,I k),(11,I y.1.2)]) (fun y=>(y.1.1,1,(nxtH T F L k y.1.2).map I)::(l,1,L.map I)::(q,1,(farH T F L (m+1) k y.1.2).map I)::H) (fun y=>L.length-y.1.2) ⟨(x,0),by simp⟩ (by simp[E2,nxtH,hitB_zero]) (by simp[nxtH,farH,hitB_zero]) ?_
     rintro ⟨⟨x,j⟩,hj⟩ hn
     dsimp only at hj hn ⊢
     replace hn:=Z4 hn
     (replace hn:=hn;simp only[VN] at hn)
     have hfl:=farH_len (T:=T) (F:=F) (L:=L) (n:=m+1) (k:=k) (j:=j) hFl oT
     have hnl:=nxtH_len (T:=T) (F:=F) (L:=L) (k:=k) (j:=j)
     rcases nL j L.length with hlt2|hge2
     ·have hsu:=hitB_succ (T:=T) (F:=F) hlt2 hlt oT
      have hmg:=mixF_get (T:=T) (F:=F) (L:=L) (n:=m+1) hFl hlt (by rw[mixF_len hFl oT];exact hlt)
      rw[Z6 (by omega:k<F.length)] at hmg
      have hkf:k<(farH T F L (m+1) k j).length := by omega
      by_cases hh:hitB T F L k j=true
      ·rw[hh,Bool.true_or] at hsu
       have e1:(farH T F L (m+1) k j)[k]=((m+1:Nat):Int):=by simp[farH,hh]
       have e2:¬(((m+1:Nat):Int)<0):=by omega
       have e3:farH T F L (m+1) k (j+1)=farH T F L (m+1) k j:=by simp[farH,hh,hsu]
       have e4:nxtH T F L k (j+1)=nxtH T F L k j:=by simp[nxtH,hh,hsu]
       (refine V1 (jO hn (jO e1 (jO e2 (jO hfl @List.length_map.{0,0})))) ?_;with_reducible repeat' first|intro h|refine aO ?_|apply jO)
       all_goals first
        | (exfalso;omega)
        | exact nx ⟨(x,j+1),oT⟩ (by simp;omega) (by simp only[e4];simp[E2]) (by simp only[e3,e4])
        | trace_state
      ·have hh':hitB T F L k j=false:=by simpa using hh
       rw[hh',Bool.false_or] at hsu
       have e1:(farH T F L (m+1) k j)[k]=F[k]:=by simp only[farH,hh'];exact hmg
       by_cases hng:F[k]<0
       ·simp only[hng,decide_true,Bool.true_and] at hsu
        (refine V1 (jO hn (jO e1 (jO hng (jO hfl @List.length_map.{0,0})))) ?_;with_reducible repeat' first|intro h|refine aO ?_|apply jO)
        all_goals try exact oF
        refine callS.eq (w111 T[k] L[j]) ?_
        by_cases hi:hasI T[k] L[j]=true
        ·rw[hi] at hsu
         have e3:farH T F L (m+1) k (j+1)=(farH T F L (m+1) k j).set k ((m+1:Nat):Int):=by simp[farH,hh',hsu]
         have e4:nxtH T F L k (j+1)=nxtH T F L k j++[(k:Int)]:=by simp[nxtH,hh',hsu]
         (refine V1 (jO hn (jO hi (jO hfl (jO @List.length_append.{0} (jO @List.length_singleton.{0} (jO @List.length_map.{0,0} (jO @List.length_take.{0} (jO @List.length_set.{0} @ZM)))))))) ?_;with_reducible repeat' first|intro h|refine aO ?_)
         all_goals try exact oF
         rename_i r5 _ r6
         refine nxF ⟨(r6,j+1),oT⟩ (by simp;omega) (FE.perm (H:=[_,_,_,_]) (L:=[(r6,_),(l,_),(q,_)]) (by repeat' (first|exact trivial|(refine jO (by simp only[Z9, *,if_true,if_false];try rfl) (jO (by simp[ZW,ZU, *]) ?_))))) (by simp only[e4];simp[E2]) ?_
         simp only[e3,e4]
         rw[tL (by simp)]
         simp only[List.map_append,List.map_set,List.map_cons,List.map_nil,List.cons_append,List.nil_append,Int.natCast_add]
         rfl
        ·have hi':hasI T[k] L[j]=false:=by simpa using hi
         rw[hi'] at hsu
         have e3:farH T F L (m+1) k (j+1)=farH T F L (m+1) k j:=by simp[farH,hh',hsu]
         have e4:nxtH T F L k (j+1)=nxtH T F L k j:=by simp[nxtH,hh',hsu]
         (refine V1 (jO hn hi') ?_)
         all_goals first
          | (exfalso;omega)
          | exact nx ⟨(x,j+1),oT⟩ (by simp;omega) (by simp only[e4];simp[E2]) (by simp only[e3,e4])
          | trace_state
       ·simp only[hng,decide_false,Bool.false_and] at hsu
        have e3:farH T F L (m+1) k (j+1)=farH T F L (m+1) k j:=by simp[farH,hh',hsu]
        have e4:nxtH T F L k (j+1)=nxtH T F L k j:=by simp[nxtH,hh',hsu]
        (refine V1 (jO hn (jO e1 (jO hng (jO hfl @List.length_map.{0,0})))) ?_;with_reducible repeat' first|intro h|refine aO ?_|apply jO)
        all_goals first
         | (exfalso;omega)
         | exact nx ⟨(x,j+1),oT⟩ (by simp;omega) (by simp only[e4];simp[E2]) (by simp only[e3,e4])
         | trace_state
     ·obtain rfl:j=L.length:=by omega
      (refine V1 hn ?_;with_reducible repeat' intro h)
      all_goals try exact oF
      refine nx ⟨(x,k+1),oT⟩ (by simp;omega) (by simp only[nxtH_next];simp[E2]) ?_
      simp only[nxtH_next,farH_next hFl hlt]
    ·obtain rfl:k=T.length:=by omega
     (refine V1 hn ?_;with_reducible repeat' intro h)
     all_goals try exact oF
     refine nxF ⟨((q,x),m+1),hne2⟩ (by dsimp only;rw[hF,hL];exact hmu) (FE.perm (H:=[_,_,_]) (L:=[(x,_),(q,_)]) (by repeat' (first|exact trivial|(refine jO (by simp only[Z9, *,if_true,if_false];try rfl) (jO (by simp[ZW,ZU, *]) ?_))))) (by simp only[hnx.2];simp[E2,stL1]) ?_
     simp only[hnx.1,hnx.2,mixF_end hFl,stL1]
     rfl
 refine h0.fr ?_
 rintro v H' ⟨r,L,rfl,hr,rfl⟩
 exact ⟨_,_,FR.perm (H:=L) (L:=[(r,1,(YB (dst T goal)).map I)]) ⟨hr,by simp[names],trivial⟩,_,⟨r,rfl,rfl⟩,rfl⟩
end Go.Proofs.YtkmedfejmndmjaaGreat
