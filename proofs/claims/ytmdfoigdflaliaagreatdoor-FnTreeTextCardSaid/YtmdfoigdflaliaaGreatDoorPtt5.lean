/- The tied card of the law holds. No condition. -/
import Derived.Test.YtmdfoigdflaliaaGreatDoorPtt2
set_option maxHeartbeats 40000000
set_option maxRecDepth 20000
set_option linter.unusedSimpArgs false
set_option linter.unusedVariables false
namespace Go.Proofs.YtmdfoigdflaliaaGreatDoor
open Go.Gh
open Nat (reduceEqDiff reduceLeDiff reduceAdd reduceLT)
open Int (reduceNe)
theorem w100 (g:Gram) (s:ByteArray) (hg:smGr g):Pu 100 [Gr g,T s] (· = I (ixOf (fun y:Sym=>decide (y.name=s)) g.syms)):=by
 have hl:=hg.1
 refine ZN mxd i100 rfl (by simp) ?_;refine X0 ?_
 (refine V0 ?_;with_reducible repeat' first|exact trivial|intro h|refine aO ?_|refine eO ?_|apply jO)
 refine Y5 mxd (ι:={ i:Nat // i≤g.syms.length∧∀y∈g.syms.take i,decide (y.name=s)=false }) (fun i=>[(1,T s),(2,.rop 2 (Gr g)),(5,I i.1)]) (fun _ => []) (fun i=>g.syms.length-i.1) ⟨0,by simp⟩ (by simp[E2]) rfl ?_
 rintro ⟨i,hi,hn⟩
 rcases nL i g.syms.length with hlt|hge
 ·by_cases he:g.syms[i].name = s
  ·rw[ixOf_hit hlt (by simp[he]) hn]
   (refine V1 he ?_;with_reducible repeat' first|exact trivial|intro h|refine aO ?_|refine eO ?_|apply jO)
   all_goals try exact oF
  ·(refine V1 he ?_;with_reducible repeat' first|exact trivial|intro h|refine aO ?_|refine eO ?_|apply jO)
   all_goals try exact oF
   exact nx ⟨i+1,by omega,take_step hlt (by simp[he]) hn⟩ (by simp<;>omega) (by simp[E2]) rfl
 ·obtain rfl:i=g.syms.length:=by omega
  rw[List.take_length] at hn
  rw[ixOf_none hn]
  (refine V0 ?_;with_reducible repeat' first|exact trivial|intro h|refine aO ?_|refine eO ?_|apply jO)
  all_goals try exact oF
theorem w112 (g:Gram) (s:ByteArray) (out:List Int) (hg:smGr g) (ho:out.length=g.syms.length):Pu 112 [Gr g,T s,IS out] (· = B (rchS g out s)):=by
 have hl:=hg.1
 have hl2:=hg.2.1
 refine ZN mxd i112 rfl (by simp) ?_;refine X0 ?_
 (refine V0 ?_;with_reducible repeat' first|exact trivial|intro h|refine aO ?_|refine eO ?_|apply jO)
 refine Y5 mxd (ι:={ i:Nat // i≤g.rules.length∧∀r∈g.rules.take i,rchR g out s r=false }) (fun i=>[(1,T s),(2,IS out),(3,.rop 2 (Gr g)),(7,I i.1)]) (fun _ => []) (fun i=>g.rules.length-i.1) ⟨0,by simp⟩ (by simp[E2]) rfl ?_
 rintro ⟨i,hi,hn⟩
 rcases nL i g.rules.length with hlt|hge
 ·have hr:=hg.2.2.2 _ (gM hlt)
  have hrl:=hr.1
  (refine V0 ?_;with_reducible repeat' first|exact trivial|intro h|refine aO ?_|refine eO ?_|apply jO)
  all_goals try exact oF
  have hz:decide (g.rules[i].left = s)=rchP g out s g.rules[i] 0:=by simp[rchP]
  refine Y5 mxd (ι:={ k:Nat // k≤g.rules[i].right.length }) (fun k=>[(1,T s),(2,IS out),(3,.rop 2 (Gr g)),(7,I i),(8,.rop 6 (Ru g.rules[i])),(9,B (rchP g out s g.rules[i] k.1)),(10,I k.1)]) (fun _ => []) (fun k=>g.rules[i].right.length - k.1) ⟨0,by simp⟩ (by simp[E2,hz]) rfl ?_
  rintro ⟨k,hk⟩
  rcases nL k g.rules[i].right.length with hlt2|hge2
  ·have hst:=rchP_step (g:=g) (out:=out) (s:=s) hlt2
   have hix:=ixOf_cases (fun y:Sym=>decide (y.name=g.rules[i].right[k])) g.syms
   have hho:hOf g out g.rules[i].right[k]=if ixOf (fun y:Sym=>decide (y.name=g.rules[i].right[k])) g.syms<0 then 0 else out.getD (ixOf (fun y:Sym=>decide (y.name=g.rules[i].right[k])) g.syms).toNat 0:=rfl
   (refine V0 ?_;with_reducible repeat' first|exact trivial|intro h|refine aO ?_|refine eO ?_|apply jO)
   all_goals try exact oF
   refine callS.eq (w100 g g.rules[i].right[k] hg) ?_
   rcases bC (rchP g out s g.rules[i] k) with hv|hv
   ·rw[hv,Bool.false_and] at hst
    (refine V1 hv ?_;with_reducible repeat' first|exact trivial|intro h|refine aO ?_|refine eO ?_|apply jO)
    exact nx ⟨k+1,by omega⟩ (by simp<;>omega) (by simp[E2,hst]) rfl
   ·rw[hv,Bool.true_and] at hst
    rcases hix with hx|⟨hx,hx2⟩
    ·rw[hx] at hho ⊢
     rw[if_pos (by omega)] at hho
     rw[hho] at hst
     (refine V2 (jO hv (jO @ge_iff_le.{0} @decide_false)) ?_;with_reducible repeat' first|exact trivial|intro h|refine aO ?_|refine eO ?_|apply jO)
     exact nx ⟨k+1,by omega⟩ (by simp<;>omega) (by simp[E2,hst]) rfl
    ·obtain ⟨a,ha⟩:∃a:Nat,ixOf (fun y:Sym=>decide (y.name=g.rules[i].right[k])) g.syms=a:=⟨(ixOf (fun y:Sym=>decide (y.name=g.rules[i].right[k])) g.syms).toNat,by omega⟩
     rw[ha] at hho hx hx2 ⊢
     have ha2:a<out.length:=by omega
     rw[if_neg (by omega),Int.toNat_natCast,YS ha2] at hho
     rw[hho] at hst
     have hmx:max (a:Int) 0=a:=by omega
     (refine V1 (jO hv (jO hx (jO @ge_iff_le.{0} @decide_true))) ?_;with_reducible repeat' first|exact trivial|intro h|refine aO ?_|refine eO ?_|apply jO)
     refine callS.eq (w25 _ _) ?_
     rw[hmx]
     (refine V1 hst ?_;with_reducible repeat' first|exact trivial|intro h|refine aO ?_|refine eO ?_|apply jO)
     all_goals try exact oF
     exact nx ⟨k+1,by omega⟩ (by simp<;>omega) (by simp[E2,hst]) rfl
  ·obtain rfl:k=g.rules[i].right.length := by omega
   have he:=rchP_end g out s g.rules[i]
   rcases bC (rchR g out s g.rules[i]) with hw|hw
   ·rw[he,hw]
    (refine V0 ?_;with_reducible repeat' first|exact trivial|intro h|refine aO ?_|refine eO ?_|apply jO)
    all_goals try exact oF
    exact nx ⟨i+1,by omega,takeP_step hlt hw hn⟩ (by simp<;>omega) (by simp[E2]) rfl
   ·have:rchS g out s=true:=any_yes hlt hw
    rw[he,hw,this]
    (refine V0 ?_;with_reducible repeat' first|exact trivial|intro h|refine aO ?_|refine eO ?_|apply jO)
    all_goals try exact oF
 ·obtain rfl:i=g.rules.length:=by omega
  rw[List.take_length] at hn
  have:rchS g out s=false:=any_no hn
  rw[this]
  (refine V0 ?_;with_reducible repeat' first|exact trivial|intro h|refine aO ?_|refine eO ?_|apply jO)
  all_goals try exact oF
theorem w99 (g:Gram) (hg:smGr g) (h4:g.syms.length≤4):Pu 99 [Gr g] (· = IS (hgts g)):=by
 refine Pure.bor ?_
 refine ZN mxd i99 rfl (by simp) ?_;refine X0 ?_
 (refine V0 ?_;with_reducible repeat' first|exact trivial|intro h|refine aO ?_|refine eO ?_|apply jO)
 all_goals try exact oF
 rename_i r0
 refine ploop mxd (ι:={ x:Nat×Nat // x.2≤g.syms.length }) (fun x=>[(1,.rop 2 (Gr g)),(3,.own x.1.1 1 0 g.syms.length),(4,I ((x.1.2:Int)+1))]) (fun x=>[(x.1.1,1,(hIt g x.1.2).map I)]) (fun x=>g.syms.length-x.1.2) ⟨(r0,0),by simp⟩ (by simp[E2]) (by simp[subH,ZW,names,hIt]) ?_
 rintro ⟨⟨q,k⟩,hk⟩ hn0
 dsimp only at hk hn0 ⊢
 have hol:=hIt_len g k
 rcases nL k g.syms.length with hlt|hge
 ·(refine V1 (jO @List.length_map.{0,0} hol) ?_;with_reducible repeat' first|exact trivial|intro h|refine aO ?_|refine eO ?_|apply jO)
  all_goals try exact oF
  rename_i q2 hq2 q3
  rw[soT_I hol]
  (refine V1 (jO @List.length_map.{0,0} (jO @List.length_append.{0} (jO @List.length_nil.{0} (jO hol @ZM)))) ?_;with_reducible repeat' first|exact trivial|intro h|refine aO ?_|refine eO ?_|apply jO)
  all_goals try exact oF
  rename_i r5
  refine ploop mxd (ι:={ x:Nat×List Int // x.1≤g.syms.length∧nxt g k x.1 x.2 }) (fun x=>[(1,.rop 2 (Gr g)),(3,.own q 1 0 g.syms.length),(4,I ((k:Int)+1)),(5,.own r5 1 0 g.syms.length),(6,I x.1.1)]) (fun x=>[(r5,1,x.1.2.map I),(q,1,(hIt g k).map I)]) (fun x=>g.syms.length-x.1.1) ⟨(0,hIt g k),by omega,nxt_0 g k⟩ (by simp[E2]) (by repeat' (first|exact trivial|(refine And.intro (by simp only[Z9, *,if_true,if_false];try rfl) (And.intro (by simp[ZR,ZP, *]) ?_)))) ?_
  rintro ⟨⟨i,Y⟩,hi,hY⟩ hn2
  dsimp only at hi hY hn2 ⊢
  (replace hn2:=hn2;simp only[VN] at hn2)
  have hYl:=hY.1
  rcases nL i g.syms.length with hlt2|hge2
  ·have hg1:(hIt g k).getD i 0=(hIt g k)[i]:=YS (by omega)
   have hg2:g.syms.getD i symZ=g.syms[i]:=YS hlt2
   have hnx:hNext g ((k:Int)+1) (hIt g k) i=if 0<(hIt g k)[i] then (hIt g k)[i] else if rchS g (hIt g k) g.syms[i].name = true then (k:Int)+1 else (hIt g k)[i]:=by simp only[hNext,hg1,hg2]
   have hnn:=hIt_nn g k _ (gM (show i<(hIt g k).length by omega))
   by_cases hz:(hIt g k)[i]=0
   ·rw[if_neg (by omega)] at hnx
    (refine V1 (jO hn2 (jO hz (jO @List.length_map.{0,0} (jO hol (jO hYl @decide_true))))) ?_;with_reducible repeat' first|exact trivial|intro h|refine aO ?_|refine eO ?_|apply jO)
    all_goals try exact oF
    refine callS.borA (w112 g g.syms[i].name (hIt g k) hg hol) (.cons .refl (.cons .refl (.cons (bor_IS (by simp[Z9,hn2]) hol) .nil))) rfl ?_
    rcases bC (rchS g (hIt g k) g.syms[i].name) with hv|hv
    ·rw[hv,if_neg (by simp)] at hnx
     (refine V1 hv ?_;with_reducible repeat' first|exact trivial|intro h|refine aO ?_|refine eO ?_|apply jO)
     exact px ⟨(i+1,Y),by omega,nxt_keep hY hlt2 (by rw[hnx,hg1])⟩ (by simp<;>omega) (by simp[E2]) (by repeat' (first|exact trivial|(refine And.intro (by simp only[Z9, *,if_true,if_false];try rfl) (And.intro (by simp[ZR,ZP, *]) ?_))))
    ·rw[hv,if_pos rfl] at hnx
     (refine V1 (jO hn2 (jO hv (jO @List.length_map.{0,0} hYl))) ?_;with_reducible repeat' first|exact trivial|intro h|refine aO ?_|refine eO ?_|apply jO)
     all_goals try exact oF
     refine px ⟨(i+1,Y.set i ((k:Int)+1)),by omega,nxt_set hY hlt2 hnx⟩ (by simp<;>omega) (by simp[E2]) ?_
     show subH _ [(r5,1,(Y.set i ((k:Int)+1)).map I),(q,1,(hIt g k).map I)]
     rw[List.map_set]
     exact (by repeat' (first|exact trivial|(refine And.intro (by simp only[Z9, *,if_true,if_false];try rfl) (And.intro (by simp[ZR,ZP, *]) ?_))))
   ·rw[if_pos (by omega)] at hnx
    (refine V1 (jO hn2 (jO hz (jO @List.length_map.{0,0} (jO hol (jO hYl @decide_false))))) ?_;with_reducible repeat' first|exact trivial|intro h|refine aO ?_|refine eO ?_|apply jO)
    all_goals try exact oF
    exact px ⟨(i+1,Y),by omega,nxt_keep hY hlt2 (by rw[hnx,hg1])⟩ (by simp<;>omega) (by simp[E2]) (by repeat' (first|exact trivial|(refine And.intro (by simp only[Z9, *,if_true,if_false];try rfl) (And.intro (by simp[ZR,ZP, *]) ?_))))
  ·obtain rfl:i=g.syms.length:=by omega
   have hYe:=nxt_n hY
   subst hYe
   (refine V1 hn2 ?_;with_reducible repeat' first|exact trivial|intro h|refine aO ?_|refine eO ?_|apply jO)
   all_goals try exact oF
   exact px ⟨(r5,k+1),by omega⟩ (by simp<;>omega) (by simp[E2]) (by repeat' (first|exact trivial|(refine And.intro (by simp only[Z9, *,if_true,if_false];try rfl) (And.intro (by simp[ZR,ZP, *]) ?_))))
 ·obtain rfl:k=g.syms.length:=by omega
  (refine V0 ?_;with_reducible repeat' first|exact trivial|intro h|refine aO ?_|refine eO ?_|apply jO)
  all_goals try exact oF
  exact bor_IS ZX (hgts_len g)
end Go.Proofs.YtmdfoigdflaliaaGreatDoor
