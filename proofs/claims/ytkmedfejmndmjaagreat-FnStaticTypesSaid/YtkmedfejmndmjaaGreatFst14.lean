/- The law FnStaticTypes returns true whatever the input, and the input reads behind the call as before. No condition. -/
import Derived.Test.YtkmedfejmndmjaaGreatFst13
set_option maxHeartbeats 40000000
set_option maxRecDepth 20000
set_option linter.unusedSimpArgs false
set_option linter.unusedVariables false
namespace Go.Proofs.YtkmedfejmndmjaaGreat
open Go.Gh
open Nat (reduceEqDiff reduceLeDiff reduceAdd reduceLT)
open Int (reduceNe)
theorem o67 (T:List (List Int)) (hT:okT T) (i:Nat) (hi:i<T.length) (H:GH):Gc 67 [TbS T,I i] H (fun v H'=>∃H1,(∃r,v = .own r 1 0 (thR T i).length ∧ H1=[(r,1,(thR T i).map I)])∧H'=H1++H):=by
 have hTl:=hT.1
 have hfl:=farD_len (T:=T) (goal:=i)
 have hfi:i<(YB (dst T i)).length := by omega
 have hfd:=farD_dN (T:=T) (i:=i) hi hfi
 have hNT:=dN_le (T:=T) (i:=i) hi
 have h0:Gc 67 [TbS T,I i] H (fun v H'=>∃r L,v = .own r 1 0 (thR T i).length ∧ ZV L r=some (1,(thR T i).map I)∧H'=L++H):=by
  refine Z5 mxd i67 rfl (by simp) ?_;refine X0 ?_
  (refine V0 ?_;with_reducible repeat' first|exact trivial|intro h|refine aO ?_|refine eO ?_|apply jO)
  refine callS.eq (q114 T hT i hi) ?_
  by_cases hN:dN T i=0
  ·rw[if_pos hN] at hfd
   (refine V1 (jO hfd (jO hfl @Int.toNat_natCast)) ?_;with_reducible repeat' first|exact trivial|intro h|refine aO ?_|refine eO ?_|apply jO)
   all_goals try exact oF
   rename_i q0
   refine ZL mxd (ι:=Unit) (fun _ => [(0,TbS T),(1,I i),(5,IS (YB (dst T i))),(6,.own q0 1 0 0),(7,I i),(8,I (-1))]) (fun _ => (q0,1,[])::H) (fun _ => 0) () (by simp[E2]) rfl ?_
   rintro ⟨⟩
   (refine V0 ?_;with_reducible repeat' first|exact trivial|intro h|refine aO ?_|refine eO ?_|apply jO)
   all_goals try exact oF
   have e:thR T i=[]:=List.length_eq_zero_iff.1 (by rw[thR_len,hN])
   exact ⟨q0,[(q0,1,[])],by rw[e];rfl,by rw[e];simp[ZV],rfl⟩
  ·rw[if_neg hN] at hfd
   (refine V1 (jO hfd (jO hfl @Int.toNat_natCast)) ?_;with_reducible repeat' first|exact trivial|intro h|refine aO ?_|refine eO ?_|apply jO)
   all_goals try exact oF
   rename_i q0
   refine Yu mxd (ι:={ y:Nat×Nat // y.2≤dN T i }) (fun y=>[(0,TbS T),(1,I i),(5,IS (YB (dst T i))),(6,.own y.1.1 1 0 y.1.2),(7,I (stN T i (dN T i) y.1.2).2),(8,I ((dN T i:Int)-y.1.2))]) (fun y=>(y.1.1,1,(stN T i (dN T i) y.1.2).1.map I)::H) (fun y=>dN T i-y.1.2) ⟨(q0,0),by simp⟩ (by simp[E2,stN]) (by simp[stN]) ?_
   rintro ⟨⟨q,m⟩,hm⟩ hn
   dsimp only at hm hn ⊢
   replace hn:=Z4 hn
   (replace hn:=hn;simp only[VN] at hn)
   have hsl:=stN_len T i (dN T i) m
   have hsr:=stN_rng hT (N:=dN T i) hi m
   rcases nL m (dN T i) with hlt|hge
   ·obtain ⟨a,ha⟩:∃a:Nat,(stN T i (dN T i) m).2 = a:=⟨(stN T i (dN T i) m).2.toNat,oT⟩
    have ha2:a<T.length:=by omega
    have hst:(stN T i (dN T i) (m+1)).1 = (stN T i (dN T i) m).1 ++ [(a:Int)]:=by simp only[stN,ha]
    have hst2:(stN T i (dN T i) (m+1)).2 = max (lstI (dC T i (dN T i-m) (dst T i)) T[a]) 0:=by simp only[stN,ha,nxA,Int.toNat_natCast];rw[Z6 ha2]
    have hrl:=(hT.2 _ (gM ha2)).1
    rw[ha]
    (refine V1 (jO hn (jO hsl (jO @List.length_append.{0} (jO @List.length_singleton.{0} (jO @List.length_map.{0,0} @ZM))))) ?_;with_reducible repeat' first|exact trivial|intro h|refine aO ?_|refine eO ?_|apply jO)
    all_goals try exact oF
    rename_i r3 _ r4
    refine ZL mxd (ι:={ j:Nat // j≤T[a].length }) (fun j=>[(0,TbS T),(1,I i),(5,IS (YB (dst T i))),(6,.own r4 1 0 (m+1)),(7,I a),(8,I ((dN T i:Int)-m)),(9,I (lstI (dC T i (dN T i-m) (dst T i)) (T[a].take j.1))),(10,I j.1)]) (fun _ => (r4,1,(stN T i (dN T i) (m+1)).1.map I)::(r3,1,[I a])::H) (fun j=>T[a].length - j.1) ⟨0,oT⟩ (by simp[E2,lstI]) (by rw[hst,tL (by simp[hsl]),List.map_append];rfl) ?_
    rintro ⟨j,hj⟩
    have goT {p:Prop} (h:p):p=True:=eq_true h
    have goF {p:Prop} (h:¬p):p=False:=eq_false h
    rcases nL j T[a].length with hlt3|hge3
    ·have hxr:=(hT.2 _ (gM ha2)).2 _ (gM hlt3)
     have hj1:=goT (show (j:Int)<T[a].length by omega)
     by_cases hx0:T[a][j]<0
     ·have hx1:=goT hx0
      have hP:dC T i (dN T i-m) (dst T i) T[a][j]=false:=by
       cases c:dC T i (dN T i-m) (dst T i) T[a][j]
       ·rfl
       ·have:=dC_nn c;omega
      have hL:lstI (dC T i (dN T i-m) (dst T i)) (T[a].take (j+1))=lstI (dC T i (dN T i-m) (dst T i)) (T[a].take j):=by rw[Ya hlt3];simp only[lsF,hP];rfl
      (refine V1 (jO hj1 (jO hx1 (jO @List.length_map.{0,0} (jO @decide_true @decide_false)))) ?_;with_reducible repeat' first|exact trivial|intro h|refine aO ?_|refine eO ?_|apply jO)
      all_goals first
       | (exfalso;omega)
       | exact nx ⟨j+1,oT⟩ (by simp;omega) (by simp[E2,hL]) rfl
       | trace_state
     ·obtain ⟨x,hx⟩:∃x:Nat,T[a][j]=x:=⟨T[a][j].toNat,oT⟩
      rw[hx] at hxr hx0
      have hx1:=goF hx0
      have hxl:x<(YB (dst T i)).length := by omega
      by_cases hn1:dN T i-m=1
      ·have hd1:=goT (show (dN T i:Int)-m=1 by omega)
       have hd2:=goF (show ¬(dN T i:Int)-m>1 by omega)
       have hd3:=goF (show ¬1<(dN T i:Int)-m by omega)
       by_cases hxi:x=i
       ·have hk1:=goT (show (x:Int)=i by omega)
        have hk2:=goT hxi
        have hP:dC T i (dN T i-m) (dst T i) (x:Int)=true:=by unfold dC;rw[if_pos hn1,decide_eq_true];omega
        by_cases hb:lstI (dC T i (dN T i-m) (dst T i)) (T[a].take j)<0
        ·have hb1:=goT hb
         have hb2:True:=trivial
         have hL:lstI (dC T i (dN T i-m) (dst T i)) (T[a].take (j+1))=(x:Int):=by rw[Ya hlt3,hx];simp only[lsF,hP,hb1,hb2,decide_true,decide_false];rfl
         (refine V2 (jO hj1 (jO hx (jO hfl (jO @Int.toNat_natCast (jO @List.length_map.{0,0} (jO hx1 (jO hd1 (jO hd2 (jO hd3 (jO hk1 (jO hk2 (jO hb1 (jO @decide_true (jO @decide_false @gt_iff_lt.{0})))))))))))))) ?_;with_reducible repeat' first|exact trivial|intro h|refine aO ?_|refine eO ?_|apply jO)
         all_goals first
          | (exfalso;omega)
          | exact nx ⟨j+1,oT⟩ (by simp;omega) (by simp[E2,hL]) rfl
          | trace_state
        ·have hb1:=goF hb
         by_cases hc:(x:Int)<lstI (dC T i (dN T i-m) (dst T i)) (T[a].take j)
         ·have hb2:=goT hc
          have hL:lstI (dC T i (dN T i-m) (dst T i)) (T[a].take (j+1))=(x:Int):=by rw[Ya hlt3,hx];simp only[lsF,hP,hb1,hb2,decide_true,decide_false];rfl
          (refine V2 (jO hj1 (jO hx (jO hfl (jO @Int.toNat_natCast (jO @List.length_map.{0,0} (jO hx1 (jO hd1 (jO hd2 (jO hd3 (jO hk1 (jO hk2 (jO hb1 (jO hb2 (jO @decide_true (jO @decide_false @gt_iff_lt.{0}))))))))))))))) ?_;with_reducible repeat' first|exact trivial|intro h|refine aO ?_|refine eO ?_|apply jO)
          all_goals first
           | (exfalso;omega)
           | exact nx ⟨j+1,oT⟩ (by simp;omega) (by simp[E2,hL]) rfl
           | trace_state
         ·have hb2:=goF hc
          have hL:lstI (dC T i (dN T i-m) (dst T i)) (T[a].take (j+1))=lstI (dC T i (dN T i-m) (dst T i)) (T[a].take j):=by rw[Ya hlt3,hx];simp only[lsF,hP,hb1,hb2,decide_true,decide_false];rfl
          (refine V2 (jO hj1 (jO hx (jO hfl (jO @Int.toNat_natCast (jO @List.length_map.{0,0} (jO hx1 (jO hd1 (jO hd2 (jO hd3 (jO hk1 (jO hk2 (jO hb1 (jO hb2 (jO @decide_true (jO @decide_false @gt_iff_lt.{0}))))))))))))))) ?_;with_reducible repeat' first|exact trivial|intro h|refine aO ?_|refine eO ?_|apply jO)
          all_goals first
           | (exfalso;omega)
           | exact nx ⟨j+1,oT⟩ (by simp;omega) (by simp[E2,hL]) rfl
           | trace_state
       ·have hk1:=goF (show ¬(x:Int)=i by omega)
        have hk2:=goF hxi
        have hP:dC T i (dN T i-m) (dst T i) (x:Int)=false:=by unfold dC;rw[if_pos hn1,decide_eq_false];omega
        have hL:lstI (dC T i (dN T i-m) (dst T i)) (T[a].take (j+1))=lstI (dC T i (dN T i-m) (dst T i)) (T[a].take j):=by rw[Ya hlt3,hx];simp only[lsF,hP];rfl
        (refine V2 (jO hj1 (jO hx (jO hfl (jO @Int.toNat_natCast (jO @List.length_map.{0,0} (jO hx1 (jO hd1 (jO hd2 (jO hd3 (jO hk1 (jO hk2 (jO @decide_true (jO @decide_false @gt_iff_lt.{0}))))))))))))) ?_;with_reducible repeat' first|exact trivial|intro h|refine aO ?_|refine eO ?_|apply jO)
        all_goals first
         | (exfalso;omega)
         | exact nx ⟨j+1,oT⟩ (by simp;omega) (by simp[E2,hL]) rfl
         | trace_state
      ·have hd1:=goF (show ¬(dN T i:Int)-m=1 by omega)
       have hd2:=goT (show (dN T i:Int)-m>1 by omega)
       have hd3:=goT (show 1<(dN T i:Int)-m by omega)
       have hfx:=farD_dC (T:=T) (i:=i) (x:=x) (n:=dN T i-m) oT hxl oT
       by_cases hxi:x=i
       ·have hk1:=goT (show (x:Int)=i by omega)
        have hk2:=goT hxi
        have hP:dC T i (dN T i-m) (dst T i) (x:Int)=false:=by rw[hfx];simp[hxi]
        have hL:lstI (dC T i (dN T i-m) (dst T i)) (T[a].take (j+1))=lstI (dC T i (dN T i-m) (dst T i)) (T[a].take j):=by rw[Ya hlt3,hx];simp only[lsF,hP];rfl
        (refine V2 (jO hj1 (jO hx (jO hfl (jO @Int.toNat_natCast (jO @List.length_map.{0,0} (jO hx1 (jO hd1 (jO hd2 (jO hd3 (jO hk1 (jO hk2 (jO @decide_true (jO @decide_false @gt_iff_lt.{0}))))))))))))) ?_;with_reducible repeat' first|exact trivial|intro h|refine aO ?_|refine eO ?_|apply jO)
        all_goals first
         | (exfalso;omega)
         | exact nx ⟨j+1,oT⟩ (by simp;omega) (by simp[E2,hL]) rfl
         | trace_state
       ·have hk1:=goF (show ¬(x:Int)=i by omega)
        have hk2:=goF hxi
        by_cases hv:(YB (dst T i))[x]=((dN T i-m:Nat):Int)-1
        ·have hP:dC T i (dN T i-m) (dst T i) (x:Int)=true:=by rw[hfx];simp[hxi,hv]
         have hw:(YB (dst T i))[x]=(dN T i:Int)-m-1:=by rw[hv];omega
         by_cases hb:lstI (dC T i (dN T i-m) (dst T i)) (T[a].take j)<0
         ·have hb1:=goT hb
          have hb2:True:=trivial
          have hL:lstI (dC T i (dN T i-m) (dst T i)) (T[a].take (j+1))=(x:Int):=by rw[Ya hlt3,hx];simp only[lsF,hP,hb1,hb2,decide_true,decide_false];rfl
          (refine V2 (jO hj1 (jO hx (jO hfl (jO @Int.toNat_natCast (jO @List.length_map.{0,0} (jO hx1 (jO hd1 (jO hd2 (jO hd3 (jO hk1 (jO hk2 (jO hb1 (jO @decide_true (jO @decide_false @gt_iff_lt.{0})))))))))))))) ?_;with_reducible repeat' first|exact trivial|intro h|refine aO ?_|refine eO ?_|apply jO)
          all_goals first
           | (exfalso;omega)
           | exact nx ⟨j+1,oT⟩ (by simp;omega) (by simp[E2,hL]) rfl
           | trace_state
         ·have hb1:=goF hb
          by_cases hc:(x:Int)<lstI (dC T i (dN T i-m) (dst T i)) (T[a].take j)
          ·have hb2:=goT hc
           have hL:lstI (dC T i (dN T i-m) (dst T i)) (T[a].take (j+1))=(x:Int):=by rw[Ya hlt3,hx];simp only[lsF,hP,hb1,hb2,decide_true,decide_false];rfl
           (refine V2 (jO hj1 (jO hx (jO hfl (jO @Int.toNat_natCast (jO @List.length_map.{0,0} (jO hx1 (jO hd1 (jO hd2 (jO hd3 (jO hk1 (jO hk2 (jO hb1 (jO hb2 (jO @decide_true (jO @decide_false @gt_iff_lt.{0}))))))))))))))) ?_;with_reducible repeat' first|exact trivial|intro h|refine aO ?_|refine eO ?_|apply jO)
           all_goals first
            | (exfalso;omega)
            | exact nx ⟨j+1,oT⟩ (by simp;omega) (by simp[E2,hL]) rfl
            | trace_state
          ·have hb2:=goF hc
           have hL:lstI (dC T i (dN T i-m) (dst T i)) (T[a].take (j+1))=lstI (dC T i (dN T i-m) (dst T i)) (T[a].take j):=by rw[Ya hlt3,hx];simp only[lsF,hP,hb1,hb2,decide_true,decide_false];rfl
           (refine V2 (jO hj1 (jO hx (jO hfl (jO @Int.toNat_natCast (jO @List.length_map.{0,0} (jO hx1 (jO hd1 (jO hd2 (jO hd3 (jO hk1 (jO hk2 (jO hb1 (jO hb2 (jO @decide_true (jO @decide_false @gt_iff_lt.{0}))))))))))))))) ?_;with_reducible repeat' first|exact trivial|intro h|refine aO ?_|refine eO ?_|apply jO)
           all_goals first
            | (exfalso;omega)
            | exact nx ⟨j+1,oT⟩ (by simp;omega) (by simp[E2,hL]) rfl
            | trace_state
        ·have hP:dC T i (dN T i-m) (dst T i) (x:Int)=false:=by rw[hfx];simp[hxi,hv]
         have hL:lstI (dC T i (dN T i-m) (dst T i)) (T[a].take (j+1))=lstI (dC T i (dN T i-m) (dst T i)) (T[a].take j):=by rw[Ya hlt3,hx];simp only[lsF,hP];rfl
         (refine V2 (jO hj1 (jO hx (jO hfl (jO @Int.toNat_natCast (jO @List.length_map.{0,0} (jO hx1 (jO hd1 (jO hd2 (jO hd3 (jO hk1 (jO hk2 (jO @decide_true (jO @decide_false @gt_iff_lt.{0}))))))))))))) ?_;with_reducible repeat' first|exact trivial|intro h|refine aO ?_|refine eO ?_|apply jO)
         all_goals first
          | (exfalso;omega)
          | exact nx ⟨j+1,oT⟩ (by simp;omega) (by simp[E2,hL]) rfl
          | trace_state
    ·obtain rfl:j=T[a].length := by omega
     have hj1:=goF (show ¬(T[a].length : Int)<T[a].length by omega)
     (refine V1 (jO hj1 @decide_false) ?_;with_reducible repeat' first|exact trivial|intro h|refine aO ?_|refine eO ?_|apply jO)
     all_goals try exact oF
     refine callS.eq (w115 _ _) ?_
     (refine V0 ?_;with_reducible repeat' first|exact trivial|intro h|refine aO ?_|refine eO ?_|apply jO)
     all_goals try exact oF
     refine nxF ⟨(r4,m+1),oT⟩ (by simp;omega) (FE.perm (H:=[_,_]) (L:=[(r4,_)]) (by repeat' (first|exact trivial|(refine jO (by simp only[Z9, *,if_true,if_false];try rfl) (jO (by simp[ZW,ZU, *]) ?_))))) (by simp[E2,hst2,List.take_length]<;>omega) rfl
   ·obtain rfl:m=dN T i:=by omega
    (refine V1 hn ?_;with_reducible repeat' first|exact trivial|intro h|refine aO ?_|refine eO ?_|apply jO)
    all_goals try exact oF
    exact ⟨q,[(q,_)],by rw[thR_len],by simp[ZV,thR],rfl⟩
 refine h0.fr ?_
 rintro v H' ⟨r,L,rfl,hr,rfl⟩
 exact ⟨_,_,FR.perm (H:=L) (L:=[(r,1,(thR T i).map I)]) ⟨hr,by simp[names],trivial⟩,_,⟨r,rfl,rfl⟩,rfl⟩
end Go.Proofs.YtkmedfejmndmjaaGreat
