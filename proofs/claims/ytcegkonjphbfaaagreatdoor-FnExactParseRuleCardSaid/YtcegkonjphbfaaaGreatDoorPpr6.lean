/- The tied card of the law holds. No condition. -/
import Derived.Test.YtcegkonjphbfaaaGreatDoorPpr5
set_option maxHeartbeats 40000000
set_option maxRecDepth 20000
set_option linter.unusedSimpArgs false
set_option linter.unusedVariables false
namespace Go.Proofs.YtcegkonjphbfaaaGreatDoor
open Go.Gh
open Nat (reduceEqDiff reduceLeDiff reduceAdd reduceLT)
open Int (reduceNe)
open Go.Lib
theorem w182 (c:UInt8):Pu 182 [.val (.int .u8 c.toNat)] (· = B (Zh c)):=by
 refine Z8 mxd i182 rfl (by simp) ?_;refine X0 ?_
 (refine R0 ?_;with_reducible repeat' first|intro h|apply jO)<;>simp_all [Zh]<;>(intros;omega)
theorem w183 (c:UInt8):Pu 183 [.val (.int .u8 c.toNat)] (· = B (ZG c)):=by
 refine Z8 mxd i183 rfl (by simp) ?_;refine X0 ?_
 (refine R0 ?_;with_reducible repeat' first|intro h|apply jO)<;>simp_all [ZG]<;>(intros;omega)
theorem w185 (s:ByteArray) (k:Nat) (hk:k<(Z9 s).length) (hs:(Z9 s).length ≤ 1048576):Pu 185 [T s,I k] (· = I (sybN (Z9 s) k)):=by
 have hsz:s.size≤1048576:=by rw[ZE];exact hs
 have hkk:((k:Int)+1).toNat = k+1:=by omega
 refine Z8 mxd i185 rfl (by simp) ?_;refine X0 ?_
 (refine V1 hkk ?_;with_reducible repeat' first|intro h|refine aO ?_|apply jO)
 all_goals first
  | (rw[sybN_1 hk (by omega)];rfl)
  | (rw[sybN_2 hk (by omega) (by omega) (by omega)];rfl)
  | (rw[sybN_0 hk (by omega) (.inl (by omega))];rfl)
  | (rw[sybN_0 hk (by omega) (.inr (.inl (by omega)))];rfl)
  | (rw[sybN_0 hk (by omega) (.inr (.inr ⟨by omega,by omega⟩))];rfl)
theorem w211 (s:ByteArray) (hd:∀c∈Z9 s,ZG c=true) (h1:1≤(Z9 s).length) (hs:(Z9 s).length ≤ 1048576):Pu 211 [T s,I 12] (· = .tup [I (Yx (Z9 s)),B (redB (Z9 s))]):=by
 have hsz:s.size≤1048576:=by rw[ZE];exact hs
 have hd':∀(k:Nat) (h:k<(Z9 s).length),48≤((Z9 s)[k].toNat : Int)∧((Z9 s)[k].toNat : Int)≤57:=fun k h=>by
  have:=hd _ (gM h)
  simpa only[ZG,Bool.and_eq_true,decide_eq_true_eq] using this
 have h0:∀h:Int.toNat 0<(Z9 s).length,¬(((Z9 s)[Int.toNat 0]'h).toNat : Int)=45:=fun h=>by have:=hd' _ h;omega
 by_cases hl:(Z9 s).length ≤ 12
 ·refine Z8 mxd i211 rfl (by simp) ?_;refine X0 ?_
  (refine V1 h0 ?_;with_reducible repeat' first|intro h|refine aO ?_|apply jO)
  all_goals try exact oF
  refine Zk mxd (ι:={ i:Nat // i≤(Z9 s).length }) (fun i=>[(0,T s),(6,B false),(7,T s),(8,I (Zg ((Z9 s).take i.1))),(9,I i.1)]) (fun _ => []) (fun i=>(Z9 s).length - i.1) ⟨0,by simp⟩ (by simp[E2,Zg]) rfl ?_
  rintro ⟨i,hi⟩
  rcases nL i (Z9 s).length with hlt|hge
  ·have hb:=hd' i hlt
   have hv:=valD_bd ((Z9 s).take i) (fun c hc=>hd c (List.mem_of_mem_take hc))
   have hp:=pow12 (l:=(Z9 s).take i) (by simp;omega)
   have hw:IntKind.u8.wrap (((Z9 s)[i].toNat : Int)-48)=((Z9 s)[i].toNat : Int)-48:=wrap_u8 (by omega) (by omega)
   (refine V1 hw ?_;with_reducible repeat' first|intro h|refine aO ?_|apply jO)
   all_goals try exact oF
   rw[←valD_take hlt]
   exact nx ⟨i+1,by omega⟩ (by dsimp only;omega) (by simp[E2]) rfl
  ·obtain rfl:i=(Z9 s).length := by omega
   have hv:=valD_bd (Z9 s) hd
   have hp:=pow13 (l:=Z9 s) hl
   rw[List.take_length]
   have hq:=w33 (Zg (Z9 s)) (by omega) (by omega)
   by_cases he:itoa (Zg (Z9 s))=Z9 s
   ·have hB:redB (Z9 s)=true:=by unfold redB;rw[decide_eq_true hl,decide_eq_true he];rfl
    have hV:Yx (Z9 s)=Zg (Z9 s):=by unfold Yx;rw[if_pos hB]
    rw[he] at hq
    (refine V0 ?_;with_reducible repeat' intro h)
    all_goals try exact oF
    refine callS.eq hq ?_
    (refine V1 (jO hB hV) ?_;with_reducible repeat' exact trivial)
   ·have hB:redB (Z9 s)=false:=by unfold redB;rw[decide_eq_false he,Bool.and_false]
    have hV:Yx (Z9 s)=0:=by unfold Yx;rw[if_neg (by rw[hB];decide)]
    have hne:¬(⟨(itoa (Zg (Z9 s))).toArray⟩:ByteArray)=s:=fun h=>he (congrArg Z9 h)
    (refine V0 ?_;with_reducible repeat' intro h)
    all_goals try exact oF
    refine callS.eq hq ?_
    (refine V1 (jO hne (jO hB hV)) ?_;with_reducible repeat' exact trivial)
 ·have hB:redB (Z9 s)=false:=by unfold redB;rw[decide_eq_false hl,Bool.false_and]
  have hV:Yx (Z9 s)=0:=by unfold Yx;rw[if_neg (by rw[hB];decide)]
  refine Z8 mxd i211 rfl (by simp) ?_;refine X0 ?_
  (refine V1 h0 ?_;with_reducible repeat' first|intro h|refine aO ?_|apply jO)
  all_goals try exact oF
  all_goals rw[hB,hV]
theorem w184 (s:ByteArray) (hd:∀c∈Z9 s,ZG c=true) (h1:1≤(Z9 s).length) (hs:(Z9 s).length ≤ 1048576):Pu 184 [T s] (· = .tup [I (Yx (Z9 s)),B (redB (Z9 s))]):=by
 refine Z8 mxd i184 rfl (by simp) ?_;refine X0 ?_
 (refine V0 ?_)
 refine callS.eq (w211 s hd h1 hs) ?_
 (refine V0 ?_;with_reducible repeat' exact trivial)
theorem w154 (s:ByteArray) (k:Nat) (hk:k<(Z9 s).length) (hs:(Z9 s).length ≤ 1048576):Pu 154 [T s,I k] (· = .tup [Tk (tokS (Z9 s) k),I (Zb (Z9 s) k).2]):=by
 have hsz:s.size≤1048576:=by rw[ZE];exact hs
 have hT:tokS (Z9 s) k = _ := tokS_at hk
 have hN:(Zb (Z9 s) k).2 = _ := tokN_2 hk
 refine Pure.bor ?_
 by_cases hl:Zh (Z9 s)[k]=true
 ·rw[if_pos hl] at hT hN
  have hsp:=spanL_le YW ((Z9 s).drop k)
  rw[List.length_drop] at hsp
  generalize hn:Zx YW ((Z9 s).drop k)=n at *
  rw[hT,hN]
  clear hT hN
  have fin:∀(i:Nat) (H:GH) (m:Int) (hi:i=k+n) (hm:m=((if n≤8 then n else 0:Nat):Int)),Bor H (.tup [.agg [I 1,I 0,I k,T ⟨(((Z9 s).take i).drop k).toArray⟩],I m]) (.tup [Tk ⟨1,0,k,⟨(((Z9 s).drop k).take n).toArray⟩⟩,I ((if n≤8 then n else 0:Nat):Int)]):=fun i H m hi hm=>by
   subst hi hm
   rw[Ys]
   exact .refl
  refine Z8 mxd i154 rfl (by simp) ?_;refine X0 ?_
  (refine V0 ?_;with_reducible repeat' intro h)
  refine callS.eq (w182 _) ?_
  (refine V1 hl ?_)
  rename_i r
  refine Zk mxd (ι:={ i:Nat // k≤i∧i≤(Z9 s).length ∧ i+Zx YW ((Z9 s).drop i)=k+n }) (fun i=>[(0,T s),(1,I k),(4,.raw 4),(6,.ptr r 4 0 0),(7,I i.1)]) (fun _ => [(r,4,[.agg [I 0,I 0,I k,T noS]])]) (fun i=>(Z9 s).length - i.1) ⟨k,by omega⟩ (by simp[E2]) rfl ?_
  rintro ⟨i,hi,hi2,hi3⟩
  rcases nL i (Z9 s).length with hlt|hge
  ·by_cases ha:YW (Z9 s)[i]=true
   ·have e1:=XS hlt ha
    rcases aln_or ha with hq|⟨hq1,hq2⟩
    ·(refine V1 hlt ?_;with_reducible repeat' intro h)
     refine callS.eq (w182 _) ?_
     (refine V1 hq ?_)
     exact nx ⟨i+1,by omega,by omega,by omega⟩ (by dsimp only;omega) (by simp[E2]) rfl
    ·(refine V1 hlt ?_;with_reducible repeat' intro h)
     refine callS.eq (w182 _) ?_
     (refine V1 hq1 ?_)
     refine callS.eq (w183 _) ?_
     (refine V1 hq2 ?_)
     exact nx ⟨i+1,by omega,by omega,by omega⟩ (by dsimp only;omega) (by simp[E2]) rfl
   ·have ha':YW (Z9 s)[i]=false:=by simpa using ha
    obtain ⟨hq1,hq2⟩:=aln_no ha'
    rw[spanL_stop hlt ha'] at hi3
    (refine V1 hlt ?_;with_reducible repeat' intro h)
    refine callS.eq (w182 _) ?_
    (refine V1 hq1 ?_)
    refine callS.eq (w183 _) ?_
    (refine V1 hq2 ?_;with_reducible repeat' first|intro h|apply jO)
    all_goals exact fin i _ _ hi3 (by split<;>omega)
  ·rw[spanL_end hge] at hi3
   have hge':¬i<(Z9 s).length := by omega
   (refine V1 hge' ?_;with_reducible repeat' first|intro h|refine aO ?_|apply jO)
   all_goals try exact oF
   all_goals exact fin i _ _ hi3 (by split<;>omega)
 ·have hl':Zh (Z9 s)[k]=false:=by simpa using hl
  rw[if_neg hl] at hT hN
  by_cases hd:ZG (Z9 s)[k]=true
  ·rw[if_pos hd] at hT hN
   have hsp:=spanL_le ZG ((Z9 s).drop k)
   have hsd:=spanL_digs ((Z9 s).drop k)
   have hs1:=XS hk hd
   rw[List.length_drop] at hsp
   generalize hn:Zx ZG ((Z9 s).drop k)=n at *
   rw[hT,hN]
   clear hT hN
   generalize hw:(((Z9 s).drop k).take n)=w at *
   have fin:∀(H:GH) (m:Int) (x:Nat) (hm:m=(x:Int)),Bor H (.tup [.agg [I 2,I (Yx w),I k,T noS],I m]) (.tup [Tk ⟨2,Yx w,k,noS⟩,I (x:Int)]):=fun H m x hm=>by
    subst hm
    exact .refl
   have hwl:w.length=n:=by rw[←hw,List.length_take,List.length_drop];omega
   have hpi:=w184 ⟨w.toArray⟩ hsd (by show 1≤w.length;omega) (by show w.length≤1048576;omega)
   have e0:Z9 ⟨w.toArray⟩=w:=rfl
   rw[e0] at hpi
   refine Z8 mxd i154 rfl (by simp) ?_;refine X0 ?_
   (refine V0 ?_;with_reducible repeat' intro h)
   refine callS.eq (w182 _) ?_
   (refine V1 hl' ?_)
   refine callS.eq (w183 _) ?_
   (refine V1 hd ?_)
   rename_i r
   refine Zk mxd (ι:={ i:Nat // k≤i∧i≤(Z9 s).length ∧ i+Zx ZG ((Z9 s).drop i)=k+n }) (fun i=>[(0,T s),(1,I k),(4,.raw 4),(6,.ptr r 4 0 0),(7,I i.1)]) (fun _ => [(r,4,[.agg [I 0,I 0,I k,T noS]])]) (fun i=>(Z9 s).length - i.1) ⟨k,by omega⟩ (by simp[E2]) rfl ?_
   rintro ⟨i,hi,hi2,hi3⟩
   rcases nL i (Z9 s).length with hlt|hge
   ·by_cases ha:ZG (Z9 s)[i]=true
    ·have e1:=XS hlt ha
     (refine V1 hlt ?_;with_reducible repeat' intro h)
     refine callS.eq (w183 _) ?_
     (refine V1 ha ?_)
     exact nx ⟨i+1,by omega,by omega,by omega⟩ (by dsimp only;omega) (by simp[E2]) rfl
    ·have ha':ZG (Z9 s)[i]=false:=by simpa using ha
     rw[spanL_stop hlt ha'] at hi3
     obtain rfl:i=k+n:=hi3
     have hw2:(((Z9 s).take (k+n)).drop k)=w:=by rw[Ys,hw]
     (refine V1 hlt ?_;with_reducible repeat' intro h)
     refine callS.eq (w183 _) ?_
     (refine V1 ha' ?_)
     rw[hw2]
     refine callS.eq hpi ?_
     by_cases hB:redB w=true
     ·by_cases h6:Yx w≤1000000
      ·have h6':¬1000000<Yx w:=by omega
       rw[if_pos (show redB w=true∧Yx w≤1000000 from ⟨hB,h6⟩)]
       (refine V1 (jO hB h6') ?_)
       all_goals exact fin _ _ _ (by omega)
      ·have h6':1000000<Yx w:=by omega
       rw[if_neg (show ¬(redB w=true∧Yx w≤1000000) from fun h=>h6 h.2)]
       (refine V1 (jO hB h6') ?_)
       all_goals exact fin _ _ 0 rfl
     ·have hB':redB w=false:=by simpa using hB
      rw[if_neg (show ¬(redB w=true∧Yx w≤1000000) from fun h=>hB h.1)]
      (refine V1 hB' ?_)
      all_goals exact fin _ _ 0 rfl
   ·rw[spanL_end hge] at hi3
    obtain rfl:i=k+n:=hi3
    have hge':¬k+n<(Z9 s).length := by omega
    have hw2:(((Z9 s).take (k+n)).drop k)=w:=by rw[Ys,hw]
    (refine V1 hge' ?_;with_reducible repeat' first|intro h|refine aO ?_|apply jO)
    all_goals try exact oF
    rw[hw2]
    refine callS.eq hpi ?_
    by_cases hB:redB w=true
    ·by_cases h6:Yx w≤1000000
     ·have h6':¬1000000<Yx w:=by omega
      rw[if_pos (show redB w=true∧Yx w≤1000000 from ⟨hB,h6⟩)]
      (refine V1 (jO hB h6') ?_)
      all_goals exact fin _ _ _ (by omega)
     ·have h6':1000000<Yx w:=by omega
      rw[if_neg (show ¬(redB w=true∧Yx w≤1000000) from fun h=>h6 h.2)]
      (refine V1 (jO hB h6') ?_)
      all_goals exact fin _ _ 0 rfl
    ·have hB':redB w=false:=by simpa using hB
     rw[if_neg (show ¬(redB w=true∧Yx w≤1000000) from fun h=>hB h.1)]
     (refine V1 hB' ?_)
     all_goals exact fin _ _ 0 rfl
  ·have hd':ZG (Z9 s)[k]=false:=by simpa using hd
   rw[if_neg hd] at hT hN
   rw[hT,hN]
   have hle:=sybN_le hk
   refine Z8 mxd i154 rfl (by simp) ?_;refine X0 ?_
   (refine V0 ?_;with_reducible repeat' intro h)
   refine callS.eq (w182 _) ?_
   (refine V1 hl' ?_)
   refine callS.eq (w183 _) ?_
   (refine V1 hd' ?_)
   refine callS.eq (w185 s k hk hs) ?_
   have hkm:((k:Int)+(sybN (Z9 s) k:Int)).toNat = k+sybN (Z9 s) k:=by omega
   have hks:(k:Int)+(sybN (Z9 s) k:Int)-k=(sybN (Z9 s) k:Int):=by omega
   (refine V1 (jO hkm hks) ?_)
   all_goals try exact oF
   all_goals (rw[Ys];exact .refl)
theorem w122 (s:ByteArray) (hs:(Z9 s).length ≤ 1048576):Pu 122 [T s] (· = .tup [TkS (Zp (Z9 s)).1,I (Zp (Z9 s)).2]):=by
 have hsz:s.size≤1048576:=by rw[ZE];exact hs
 refine Pure.bor ?_
 by_cases hl:160<(Z9 s).length
 ·have e:Zp (Z9 s)=([],160):=by unfold Zp;rw[if_pos hl]
  rw[e]
  refine Z8 mxd i122 rfl (by simp) ?_;refine X0 ?_
  (refine V1 hl ?_;with_reducible repeat' first|intro h|apply jO)
  all_goals try exact oF
  rename_i r
  exact .tup (.cons (Bor.seenT (l:=[]) Z0 rfl) (.cons .refl .nil))
 ·have e:Zp (Z9 s)=YE (Z9 s) ((Z9 s).length + 1) 0 []:=by unfold Zp;rw[if_neg hl]
  refine Z8 mxd i122 rfl (by simp) ?_;refine X0 ?_
  (refine V1 hl ?_;with_reducible repeat' intro h)
  all_goals try exact oF
  rename_i r
  refine ploop mxd (ι:={ x:Nat×Nat×List Go.Gh.Tok // x.2.1≤(Z9 s).length ∧ x.2.2.length≤80∧YE (Z9 s) ((Z9 s).length + 1) x.2.1 x.2.2=Zp (Z9 s) }) (fun x=>[(0,T s),(4,.own x.1.1 4 0 x.1.2.2.length),(5,I x.1.2.1)]) (fun x=>[(x.1.1,4,x.1.2.2.map Tk)]) (fun x=>(Z9 s).length - x.1.2.1) ⟨(r,0,[]),by simp[e]⟩ (by simp[E2]) (by simp[subH,Z6,names]) ?_
  rintro ⟨⟨q,i,out⟩,hi,ho,ht⟩ hn
  dsimp only at hi ho ht hn ⊢
  rw[tokL_succ] at ht
  rcases nL i (Z9 s).length with hlt|hge
  ·rw[dif_pos hlt] at ht
   by_cases h32:(Z9 s)[i]=32
   ·have h32':((Z9 s)[i].toNat : Int)=32:=by rw[h32];rfl
    rw[if_pos h32] at ht
    (refine V1 (jO hlt h32') ?_)
    refine px ⟨(q,i+1,out),by dsimp only;omega,ho,?_⟩ (by dsimp only;omega) (by simp[E2]) (by simp[subH,Z6,names])
    dsimp only
    rw[←ht]
    exact tokL_fuel _ _ _ _ (by omega) (by omega) (by omega)
   ·have h32':¬((Z9 s)[i].toNat : Int)=32:=fun h=>h32 ((u8_eq _ _).2 h)
    rw[if_neg h32] at ht
    have hle:=tokN_le (l:=Z9 s) (k:=i) hi
    by_cases h0:(Zb (Z9 s) i).2 = 0
    ·rw[if_pos (.inl h0)] at ht
     (refine V1 (jO hlt h32') ?_;with_reducible repeat' intro h)
     refine callS.eq (w154 s i hlt hs) ?_
     (refine V1 h0 ?_;with_reducible repeat' intro h)
     all_goals try exact oF
     all_goals (rw[←ht];exact .tup (.cons (Bor.seenT (l:=[]) Z0 rfl) (.cons .refl .nil)))
    ·have h0':¬((Zb (Z9 s) i).2 : Int)=0:=by omega
     by_cases h8:out.length=80
     ·have h8':((out.length:Int)=80):=by omega
      rw[if_pos (.inr h8)] at ht
      (refine V1 (jO hlt h32') ?_;with_reducible repeat' intro h)
      refine callS.eq (w154 s i hlt hs) ?_
      (refine V1 (jO h0' h8') ?_;with_reducible repeat' intro h)
      all_goals try exact oF
      all_goals (rw[←ht];exact .tup (.cons (Bor.seenT (l:=[]) Z0 rfl) (.cons .refl .nil)))
     ·have h8':¬((out.length:Int)=80):=by omega
      rw[if_neg (by intro h;rcases h with h|h<;>contradiction),←tokS_N hlt h0] at ht
      (refine V1 (jO hlt h32') ?_;with_reducible repeat' intro h)
      refine callS.eq (w154 s i hlt hs) ?_
      (refine V1 (jO h0' (jO h8' @List.length_map.{0,0})) ?_;with_reducible repeat' first|intro h|refine aO ?_)
      all_goals try exact oF
      all_goals first
       | omega
       | skip
      rename_i r1 r2
      refine px ⟨(r2,i+(Zb (Z9 s) i).2,out++[tokS (Z9 s) i]),by dsimp only;omega,by simp;omega,?_⟩ (by dsimp only;omega) (by simp[E2]) (by simp[subH,Z6,names,List.take_of_length_le])
      dsimp only
      rw[←ht]
      exact tokL_fuel _ _ _ _ (by omega) (by omega) (by omega)
  ·rw[dif_neg (by omega)] at ht
   have hge':¬i<(Z9 s).length := by omega
   (refine V1 hge' ?_;with_reducible repeat' first|intro h|apply jO)
   all_goals try exact oF
   all_goals (rw[←ht];exact .tup (.cons (Bor.seenT Z0 rfl) (.cons .refl .nil)))
end Go.Proofs.YtcegkonjphbfaaaGreatDoor
namespace Go.Proofs.YtcegkonjphbfaaaGreatDoor
open Go.Gh
open Nat (reduceEqDiff reduceLeDiff reduceAdd reduceLT)
open Int (reduceNe)
open Go.Shelf Go.RowKit Go.Lib Go.Sort
theorem p147 (s:ByteArray) (hd:∀c∈Z9 s,ZG c=true) (hne:Z9 s≠[]) (hs:(Z9 s).length ≤ 1048576):PureT Tryz.prog (tabE 1 5) 147 [T s] (atoR (Z9 s) (Tryz.atoiL_ren.t 168)):=by
 have eg:∀args w,(callFunc 147 args).run Tryz.prog w = .ok (.enter 147 args) w:=enters_of Tryz.func147 (by kernel_rfl) rfl
 have hsz:s.size≤1048576:=by rw[ZE];exact hs
 refine lib_ok (fun w D vs hm hn hml=> ?_) (tabE_ok 1 5) eg
 obtain rfl:vs=[.string s]:=by
  simp only[ML,MV] at hml
  obtain ⟨v,vs',F1,F2,rfl,_,⟨rfl,_⟩,rfl,_⟩:=hml
  rfl
 obtain ⟨h1,h2⟩:=atoi_digs hd hne
 by_cases hv:Zg (Z9 s)<9223372036854775808
 ·refine (Any.strconv_Atoi_ok Tryz.atoiL s (by omega) _ (h1 hv) w).mono ?_
  rintro e w' ⟨rfl,hw⟩
  refine ⟨_,.tup [I (Zg (Z9 s)),.val .nilIface],rfl,.inl ⟨hv,rfl⟩,fun D'=>MV.tup2 _ _,?_⟩
  rcases hw with rfl|⟨t,rfl⟩
  ·exact Below.refl _ _
  ·exact Lib.bytesWorld_below _ _ _
 ·obtain ⟨te,pe,hc⟩:=HM.isE (m:=5) hm hn (by simp[tabE])
  refine (Any.strconv_Atoi_range Tryz.atoiL s (by omega) (h2 hv) _ w hc (.inr ⟨te,pe,rfl⟩)).mono ?_
  rintro e w' ⟨M,rfl,_,_,hb⟩
  exact ⟨_,.tup [I _,.val (.iface _ _)],rfl,.inr ⟨hv,_,_,rfl⟩,fun D'=>MV.tup2 _ _,hb⟩
theorem Tryz.inE:∀x∈tab10 1,x∈tabE 1 5:=fun x hx=>by simp only[tab10,List.mem_singleton] at hx;subst hx;simp[tabE]
theorem p112 (s:ByteArray) (hd:∀c∈Z9 s,ZG c=true) (hne:Z9 s≠[]) (hs:(Z9 s).length ≤ 1048576):PureT Tryz.prog (tabE 1 5) 112 [T s,I 0,I 1000000] (· = .tup [I ((numT (Z9 s)).getD 0),B (numT (Z9 s)).isSome]):=by
 have hb:=(valD_bd (Z9 s) hd).1
 refine Z8 mxd i112 rfl (by simp) ?_;refine X0 ?_
 (refine V0 ?_)
 refine callS.of ((p147 s hd hne hs).frame (tabH_E (by decide)) (fun _ h=>h)) ?_
 rintro g H' ⟨hR,rfl⟩ hn
 rcases hR with ⟨hv,rfl⟩|⟨hv,n,p,rfl⟩
 ·by_cases h6:Zg (Z9 s)≤1000000
  ·have h6':(0≤Zg (Z9 s)∧Zg (Z9 s)≤1000000):=⟨hb,h6⟩
   have hq:=p24 (Zg (Z9 s)) (by omega) (by omega)
   by_cases he:itoa (Zg (Z9 s))=Z9 s
   ·have e:numT (Z9 s)=some (Zg (Z9 s)):=by unfold numT;rw[if_pos ⟨he,h6⟩]
    rw[e]
    rw[he] at hq
    (refine V0 ?_)
    refine callS.eq (w46 _ _ _) ?_
    (refine V1 h6' ?_)
    refine callS.eqT hq (Zq 1) Tryz.inE ?_
    (refine V0 ?_)
    rfl
   ·have e:numT (Z9 s)=none:=by unfold numT;rw[if_neg (fun h=>he h.1)]
    have hne:¬(⟨(itoa (Zg (Z9 s))).toArray⟩:ByteArray)=s:=fun h=>he (congrArg Z9 h)
    rw[e]
    (refine V0 ?_)
    refine callS.eq (w46 _ _ _) ?_
    (refine V1 h6' ?_)
    refine callS.eqT hq (Zq 1) Tryz.inE ?_
    (refine V1 hne ?_;with_reducible repeat' intro h)
    rfl
  ·have h6':¬(0≤Zg (Z9 s)∧Zg (Z9 s)≤1000000):=fun h=>h6 h.2
   have e:numT (Z9 s)=none:=by unfold numT;rw[if_neg (fun h=>h6 h.2)]
   rw[e]
   (refine V0 ?_)
   refine callS.eq (w46 _ _ _) ?_
   (refine V1 h6' ?_)
   rfl
 ·have e:numT (Z9 s)=none:=by unfold numT;rw[if_neg (fun h=>hv (by have:=h.2;omega))]
  rw[e]
  (refine V0 ?_)
  rfl
theorem w66 (s p:ByteArray) (hs:(Z9 s).length ≤ 1048576) (hp:(Z9 p).length ≤ 1048576):Pu 66 [T s,T p] (· = B (hasPr (Z9 s) (Z9 p))):=by
 have hsz:s.size≤1048576:=by rw[ZE];exact hs
 have hpz:p.size≤1048576:=by rw[ZE];exact hp
 refine Z8 mxd i66 rfl (by simp) ?_;refine X0 ?_
 by_cases hl:(Z9 p).length ≤ (Z9 s).length
 ·by_cases he:(Z9 s).take (Z9 p).length = Z9 p
  ·have e:hasPr (Z9 s) (Z9 p)=true:=by unfold hasPr;rw[decide_eq_true hl,decide_eq_true he];rfl
   rw[e]
   (refine V1 (jO hl he) ?_;with_reducible repeat' first|intro h|refine aO ?_|apply jO)
   all_goals first|(exfalso;omega)|(show B (decide ((⟨(Z9 p).toArray⟩:ByteArray)=p))=B true;rw[decide_eq_true (chars_eta p)])
  ·have e:hasPr (Z9 s) (Z9 p)=false:=by unfold hasPr;rw[decide_eq_false he,Bool.and_false]
   have he':¬(⟨((Z9 s).take (Z9 p).length).toArray⟩:ByteArray)=p:=fun h=>he (congrArg Z9 h)
   rw[e]
   (refine V1 hl ?_;with_reducible repeat' first|intro h|refine aO ?_)
   all_goals first|(exfalso;omega)|(show B (decide ((⟨((Z9 s).take (Z9 p).length).toArray⟩:ByteArray)=p))=B false;rw[decide_eq_false he'])
 ·have e:hasPr (Z9 s) (Z9 p)=false:=by unfold hasPr;rw[decide_eq_false hl,Bool.false_and]
  rw[e]
  (refine V1 hl ?_;with_reducible repeat' first|intro h|refine aO ?_)
  all_goals first|rfl|(exfalso;omega)
theorem w28 (s p:ByteArray) (hs:(Z9 s).length ≤ 1048576) (hp:(Z9 p).length ≤ 1048576):Pu 28 [T s,T p] (· = B (hasPr (Z9 s) (Z9 p))):=by
 refine Z8 mxd i28 rfl (by simp) ?_;refine X0 ?_
 (refine V0 ?_)
 refine callS.eq (w66 s p hs hp) ?_
 (refine V0 ?_;with_reducible repeat' exact trivial)
theorem w174 (s:ByteArray) (c:UInt8):Pu 174 [T s,.val (.int .u8 c.toNat)] (· = I (indexByte (Z9 s) c)):=by
 have eg:∀args w,(callFunc 174 args).run Tryz.prog w = .ok (.enter 174 args) w:=enters_of Tryz.func174 (by kernel_rfl) rfl
 refine lib_ok (T:=[]) (fun w D vs hm hn hml=> ?_) (by simp) eg
 obtain rfl:vs=[.string s,.int .u8 c.toNat]:=by
  simp only[ML,MV] at hml
  obtain ⟨v,vs',F1,F2,rfl,_,⟨rfl,_⟩,v2,vs2,F3,F4,rfl,_,⟨rfl,_⟩,rfl,_⟩:=hml
  rfl
 refine (Go.Proofs.Any.strings_IndexByte Tryz.ixbL s (c.toNat:Int) w).mono ?_
 rintro e w' ⟨rfl,rfl⟩
 refine ⟨_,I (indexByte (Z9 s) c),rfl,rfl,fun D'=> ?_,Below.refl _ _⟩
 have:((c.toNat:Int).toNat.toUInt8)=c:=by simp
 rw[this]
 exact MV.val_mk _
end Go.Proofs.YtcegkonjphbfaaaGreatDoor
namespace Go.Proofs.YtcegkonjphbfaaaGreatDoor
open Go.Gh
open Nat (reduceEqDiff reduceLeDiff reduceAdd reduceLT)
open Int (reduceNe)
open Go.Lib
theorem p141 (s:ByteArray) (k:Nat) (hk:k<(Z9 s).length) (hs:(Z9 s).length ≤ 1048576):PureT Tryz.prog (tabE 1 5) 141 [T s,I k] (· = .tup [Tk (Zb (Z9 s) k).1,I (Zb (Z9 s) k).2]):=by
 have hsz:s.size≤1048576:=by rw[ZE];exact hs
 by_cases hl:Zh (Z9 s)[k]=true
 ·have hN:Zb (Z9 s) k = _ := tokN_let hk hl
  have hsp:=spanL_le YW ((Z9 s).drop k)
  rw[List.length_drop] at hsp
  generalize hn:Zx YW ((Z9 s).drop k)=n at *
  rw[hN]
  clear hN
  refine Z8 mxd i141 rfl (by simp) ?_;refine X0 ?_
  (refine V0 ?_)
  refine callS.eq (w82 _) ?_
  (refine V1 hl ?_)
  refine Zk mxd (ι:={ i:Nat // k≤i∧i≤(Z9 s).length ∧ i+Zx YW ((Z9 s).drop i)=k+n }) (fun i=>[(0,T s),(1,I k),(4,.raw 4),(6,I i.1)]) (fun _ => tabE 1 5) (fun i=>(Z9 s).length - i.1) ⟨k,by omega⟩ (by simp[E2]) rfl ?_
  rintro ⟨i,hi,hi2,hi3⟩
  have fin:i=k+n→(8<(i:Int)-k→(GV.tup [Tk Y5,I 0]) = .tup [Tk (if n≤8 then (⟨1,0,k,⟨(((Z9 s).drop k).take n).toArray⟩⟩,n) else (Y5,0)).1,I (((if n≤8 then (⟨1,0,k,⟨(((Z9 s).drop k).take n).toArray⟩⟩,n) else (Y5,0):Go.Gh.Tok×Nat).2 : Nat):Int)])∧(¬8<(i:Int)-k→(GV.tup [.agg [I 1,I 0,I k,T ⟨(((Z9 s).take i).drop k).toArray⟩],I ((i:Int)-k)]) = .tup [Tk (if n≤8 then (⟨1,0,k,⟨(((Z9 s).drop k).take n).toArray⟩⟩,n) else (Y5,0)).1,I (((if n≤8 then (⟨1,0,k,⟨(((Z9 s).drop k).take n).toArray⟩⟩,n) else (Y5,0):Go.Gh.Tok×Nat).2 : Nat):Int)]):=fun hi=>by
   subst hi
   refine ⟨fun h=>by rw[if_neg (by omega)];rfl,fun h=> ?_⟩
   rw[if_pos (by omega),Ys,show ((k+n:Nat):Int)-k=(n:Int) by omega]
  rcases nL i (Z9 s).length with hlt|hge
  ·by_cases ha:YW (Z9 s)[i]=true
   ·have e1:=XS hlt ha
    rcases aln_or ha with hq|⟨hq1,hq2⟩
    ·(refine V1 hlt ?_;with_reducible repeat' intro h)
     refine callS.eq (w82 _) ?_
     (refine V1 hq ?_)
     exact nx ⟨i+1,by omega,by omega,by omega⟩ (by dsimp only;omega) (by simp[E2]) rfl
    ·(refine V1 hlt ?_;with_reducible repeat' intro h)
     refine callS.eq (w82 _) ?_
     (refine V1 hq1 ?_)
     refine callS.eq (w83 _) ?_
     (refine V1 hq2 ?_)
     exact nx ⟨i+1,by omega,by omega,by omega⟩ (by dsimp only;omega) (by simp[E2]) rfl
   ·have ha':YW (Z9 s)[i]=false:=by simpa using ha
    obtain ⟨hq1,hq2⟩:=aln_no ha'
    rw[spanL_stop hlt ha'] at hi3
    obtain ⟨f1,f2⟩:=fin hi3
    (refine V1 hlt ?_;with_reducible repeat' intro h)
    refine callS.eq (w82 _) ?_
    (refine V1 hq1 ?_)
    refine callS.eq (w83 _) ?_
    (refine V1 hq2 ?_;with_reducible repeat' first|intro h|refine aO ?_|apply jO)
    all_goals first|exact f1 (by assumption)|exact f2 (by assumption)
  ·rw[spanL_end hge] at hi3
   obtain ⟨f1,f2⟩:=fin hi3
   have hge':¬i<(Z9 s).length := by omega
   (refine V1 hge' ?_;with_reducible repeat' first|intro h|refine aO ?_|apply jO)
   all_goals try exact oF
   all_goals first|exact f1 (by assumption)|exact f2 (by assumption)
 ·have hl':Zh (Z9 s)[k]=false:=by simpa using hl
  by_cases hd:ZG (Z9 s)[k]=true
  ·have hN:Zb (Z9 s) k = _ := tokN_dig hk hl' hd
   have hsp:=spanL_le ZG ((Z9 s).drop k)
   have hsd:=spanL_digs ((Z9 s).drop k)
   have hs1:=XS hk hd
   rw[List.length_drop] at hsp
   generalize hn:Zx ZG ((Z9 s).drop k)=n at *
   rw[hN]
   clear hN
   generalize hw:(((Z9 s).drop k).take n)=w at *
   have hwl:w.length=n:=by rw[←hw,List.length_take,List.length_drop];omega
   have hpi:=p112 ⟨w.toArray⟩ hsd (by intro h;rw[show Z9 ⟨w.toArray⟩=w from rfl] at h;rw[h] at hwl;simp at hwl;omega) (by show w.length≤1048576;omega)
   have e0:Z9 ⟨w.toArray⟩=w:=rfl
   rw[e0] at hpi
   refine Z8 mxd i141 rfl (by simp) ?_;refine X0 ?_
   (refine V0 ?_)
   refine callS.eq (w82 _) ?_
   (refine V1 hl' ?_)
   refine callS.eq (w83 _) ?_
   (refine V1 hd ?_)
   refine Zk mxd (ι:={ i:Nat // k≤i∧i≤(Z9 s).length ∧ i+Zx ZG ((Z9 s).drop i)=k+n }) (fun i=>[(0,T s),(1,I k),(4,.raw 4),(6,I i.1)]) (fun _ => tabE 1 5) (fun i=>(Z9 s).length - i.1) ⟨k,by omega⟩ (by simp[E2]) rfl ?_
   rintro ⟨i,hi,hi2,hi3⟩
   rcases nL i (Z9 s).length with hlt|hge
   ·by_cases ha:ZG (Z9 s)[i]=true
    ·have e1:=XS hlt ha
     (refine V1 hlt ?_;with_reducible repeat' intro h)
     refine callS.eq (w83 _) ?_
     (refine V1 ha ?_)
     exact nx ⟨i+1,by omega,by omega,by omega⟩ (by dsimp only;omega) (by simp[E2]) rfl
    ·have ha':ZG (Z9 s)[i]=false:=by simpa using ha
     rw[spanL_stop hlt ha'] at hi3
     obtain rfl:i=k+n:=hi3
     have hw2:(((Z9 s).take (k+n)).drop k)=w:=by rw[Ys,hw]
     (refine V1 hlt ?_;with_reducible repeat' intro h)
     refine callS.eq (w83 _) ?_
     (refine V1 ha' ?_)
     rw[hw2]
     refine callS.eqT hpi (tabH_E (by decide)) (fun _ h=>h) ?_
     cases hnt:numT w with
     | none=>
      (refine V1 (jO @Option.isSome_none.{0} @Option.getD_none.{0}) ?_)
      all_goals rfl
     | some v=>
      (refine V1 (jO @Option.isSome_some.{0} @Option.getD_some.{0}) ?_)
      all_goals (rw[show (((k+n:Nat):Int)-k)=(n:Int) by omega];rfl)
   ·rw[spanL_end hge] at hi3
    obtain rfl:i=k+n:=hi3
    have hge':¬k+n<(Z9 s).length := by omega
    have hw2:(((Z9 s).take (k+n)).drop k)=w:=by rw[Ys,hw]
    (refine V1 hge' ?_;with_reducible repeat' first|intro h|refine aO ?_|apply jO)
    all_goals try exact oF
    rw[hw2]
    refine callS.eqT hpi (tabH_E (by decide)) (fun _ h=>h) ?_
    cases hnt:numT w with
    | none=>
     (refine V1 (jO @Option.isSome_none.{0} @Option.getD_none.{0}) ?_)
     all_goals rfl
    | some v=>
     (refine V1 (jO @Option.isSome_some.{0} @Option.getD_some.{0}) ?_)
     all_goals (rw[show (((k+n:Nat):Int)-k)=(n:Int) by omega];rfl)
  ·have hd':ZG (Z9 s)[k]=false:=by simpa using hd
   have hN:=tokN_sym hk hl' hd'
   have hkk:((k:Int)+1).toNat = k+1:=by omega
   have hpr:=hasPr_eq hk
   have hp:=w28 ⟨((Z9 s).drop k).toArray⟩ ⟨#[61,61]⟩ (by show ((Z9 s).drop k).length ≤ 1048576;rw[List.length_drop];omega) (by decide)
   have hp':hasPr (Z9 ⟨((Z9 s).drop k).toArray⟩) (Z9 ⟨#[61,61]⟩)=hasPr ((Z9 s).drop k) [61,61]:=rfl
   rw[hp'] at hp
   have htk:(Z9 s).take (Z9 s).length = Z9 s:=List.take_length
   rw[hN]
   by_cases h2:(Z9 s)[k]=61∧(Z9 s)[k+1]? = some 61
   ·have hns:¬(Z9 s)[k]∈symC:=by rw[h2.1];decide
    rw[if_neg hns,if_pos h2]
    rw[hpr,decide_eq_true h2] at hp
    refine Z8 mxd i141 rfl (by simp) ?_;refine X0 ?_
    (refine V0 ?_)
    refine callS.eq (w82 _) ?_
    (refine V1 hl' ?_)
    refine callS.eq (w83 _) ?_
    (refine V1 (jO hd' htk) ?_)
    all_goals try exact oF
    refine callS.eq hp ?_
    (refine V0 ?_)
    all_goals rfl
   ·rw[hpr,decide_eq_false h2] at hp
    have hix:=ix_mem symC (Z9 s)[k]
    by_cases hm:(Z9 s)[k]∈symC
    ·have hix':=hix.2 hm
     rw[if_pos hm]
     refine Z8 mxd i141 rfl (by simp) ?_;refine X0 ?_
     (refine V0 ?_)
     refine callS.eq (w82 _) ?_
     (refine V1 hl' ?_)
     refine callS.eq (w83 _) ?_
     (refine V1 (jO hd' htk) ?_)
     all_goals try exact oF
     refine callS.eq hp ?_
     (refine V0 ?_)
     refine callS.eq (w174 ⟨#[40,41,123,125,44,46,36,43,45,42,60,124,38,92]⟩ _) ?_
     rw[show Z9 ⟨#[40,41,123,125,44,46,36,43,45,42,60,124,38,92]⟩=symC from rfl]
     (refine V1 (jO hix' hkk) ?_)
     all_goals try exact oF
     all_goals (rw[Ys,List.drop_eq_getElem_cons hk];rfl)
    ·have hix':¬0≤Go.Lib.indexByte symC (Z9 s)[k]:=fun h=>hm (hix.1 h)
     rw[if_neg hm,if_neg h2]
     refine Z8 mxd i141 rfl (by simp) ?_;refine X0 ?_
     (refine V0 ?_)
     refine callS.eq (w82 _) ?_
     (refine V1 hl' ?_)
     refine callS.eq (w83 _) ?_
     (refine V1 (jO hd' htk) ?_)
     all_goals try exact oF
     refine callS.eq hp ?_
     (refine V0 ?_)
     refine callS.eq (w174 ⟨#[40,41,123,125,44,46,36,43,45,42,60,124,38,92]⟩ _) ?_
     rw[show Z9 ⟨#[40,41,123,125,44,46,36,43,45,42,60,124,38,92]⟩=symC from rfl]
     (refine V1 hix' ?_)
     all_goals try exact oF
     all_goals rfl
theorem p110 (s:ByteArray) (hs:(Z9 s).length ≤ 1048576):PureT Tryz.prog (tabE 1 5) 110 [T s] (· = .tup [TkS (Zp (Z9 s)).1,I (Zp (Z9 s)).2]):=by
 have hsz:s.size≤1048576:=by rw[ZE];exact hs
 refine PureT.bor ?_
 change GCalls _ _ _ [(7,1000000,[]),(23,1000001,[])] _
 by_cases hl:160<(Z9 s).length
 ·have e:Zp (Z9 s)=([],160):=by unfold Zp;rw[if_pos hl]
  rw[e]
  refine Z8 mxd i110 rfl (by simp) ?_;refine X0 ?_
  (refine V1 hl ?_;with_reducible repeat' first|intro h|apply jO)
  all_goals try exact oF
  exact .tup (.cons .nil (.cons .refl .nil))
 ·have e:Zp (Z9 s)=YE (Z9 s) ((Z9 s).length + 1) 0 []:=by unfold Zp;rw[if_neg hl]
  refine Z8 mxd i110 rfl (by simp) ?_;refine X0 ?_
  (refine V1 hl ?_;with_reducible repeat' intro h)
  all_goals try exact oF
  rename_i r
  refine ploop mxd (ι:={ x:Nat×Nat×List Go.Gh.Tok // x.2.1≤(Z9 s).length ∧ x.2.2.length≤80∧YE (Z9 s) ((Z9 s).length + 1) x.2.1 x.2.2=Zp (Z9 s) }) (fun x=>[(0,T s),(4,.own x.1.1 4 0 x.1.2.2.length),(5,I x.1.2.1)]) (fun x=>[(x.1.1,4,x.1.2.2.map Tk),(7,1000000,[]),(23,1000001,[])]) (fun x=>(Z9 s).length - x.1.2.1) ⟨(r,0,[]),by simp[e]⟩ (by simp[E2]) (by simp[subH,Z6,names, *]) ?_
  rintro ⟨⟨q,i,out⟩,hi,ho,ht⟩ hn
  dsimp only at hi ho ht hn ⊢
  have hn0:=hn
  (replace hn0:=hn0;simp only[VN] at hn0)
  rw[tokL_succ] at ht
  rcases nL i (Z9 s).length with hlt|hge
  ·rw[dif_pos hlt] at ht
   by_cases h32:(Z9 s)[i]=32
   ·have h32':((Z9 s)[i].toNat : Int)=32:=by rw[h32];rfl
    rw[if_pos h32] at ht
    (refine V1 (jO hlt h32') ?_)
    refine px ⟨(q,i+1,out),by dsimp only;omega,ho,?_⟩ (by dsimp only;omega) (by simp[E2]) (by simp[subH,Z6,names, *])
    dsimp only
    rw[←ht]
    exact tokL_fuel _ _ _ _ (by omega) (by omega) (by omega)
   ·have h32':¬((Z9 s)[i].toNat : Int)=32:=fun h=>h32 ((u8_eq _ _).2 h)
    rw[if_neg h32] at ht
    have hle:=tokN_le (l:=Z9 s) (k:=i) hi
    by_cases h0:(Zb (Z9 s) i).2 = 0
    ·rw[if_pos (.inl h0)] at ht
     (refine V1 (jO hlt h32') ?_;with_reducible repeat' intro h)
     refine callS.eqT (p141 s i hlt hs) (tabH_E (by decide)) (by simp[tabE]) ?_
     (refine V1 h0 ?_)
     all_goals try exact oF
     all_goals (rw[←ht];exact .tup (.cons .nil (.cons .refl .nil)))
    ·have h0':¬((Zb (Z9 s) i).2 : Int)=0:=by omega
     by_cases h8:out.length=80
     ·have h8':((out.length:Int)=80):=by omega
      rw[if_pos (.inr h8)] at ht
      (refine V1 (jO hlt h32') ?_;with_reducible repeat' intro h)
      refine callS.eqT (p141 s i hlt hs) (tabH_E (by decide)) (by simp[tabE]) ?_
      (refine V1 (jO h0' h8') ?_)
      all_goals try exact oF
      all_goals (rw[←ht];exact .tup (.cons .nil (.cons .refl .nil)))
     ·have h8':¬((out.length:Int)=80):=by omega
      rw[if_neg (by intro h;rcases h with h|h<;>contradiction)] at ht
      (refine V1 (jO hlt h32') ?_;with_reducible repeat' intro h)
      refine callS.eqT (p141 s i hlt hs) (tabH_E (by decide)) (by simp[tabE]) ?_
      (refine V1 (jO h0' (jO h8' @List.length_map.{0,0})) ?_;with_reducible repeat' first|intro h|refine aO ?_)
      all_goals try exact oF
      all_goals first
       | omega
       | skip
      rename_i r1 r2
      refine px ⟨(r2,i+(Zb (Z9 s) i).2,out++[(Zb (Z9 s) i).1]),by dsimp only;omega,by simp;omega,?_⟩ (by dsimp only;omega) (by simp[E2]) (by simp[subH,Z6,names,List.take_of_length_le, *])
      dsimp only
      rw[←ht]
      exact tokL_fuel _ _ _ _ (by omega) (by omega) (by omega)
  ·rw[dif_neg (by omega)] at ht
   have hge':¬i<(Z9 s).length := by omega
   (refine V1 hge' ?_;with_reducible repeat' first|intro h|apply jO)
   all_goals try exact oF
   all_goals (rw[←ht];exact .tup (.cons (Bor.seenT Z0 rfl) (.cons .refl .nil)))
theorem w198 (t:Go.Gh.Tok) (w:ByteArray):Pu 198 [Tk t,T w] (· = B (isW t w)):=by
 refine Z8 mxd i198 rfl (by simp) ?_;refine X0 ?_
 (refine V0 ?_;with_reducible repeat' first|intro h|apply jO)
 all_goals first|rfl|(simp_all [isW];done)
theorem w175 (ts:List Go.Gh.Tok) (hl:ts.length≤80) (i:Nat) (hi:i≤ts.length) (b:Bool) (w:ByteArray) (rp:Nat) (H:GH) (hr:Z6 H rp=some (3,[PaG ts i b])) :
 Gc 175 [.ptr rp 3 0 0,T w] H (fun g H'=>g=B (!b && sees ts i w)∧H'=H):=by
 cases b with
 | true=>
  refine Z8 mxd i175 rfl (by simp) ?_;refine X0 ?_
  (refine V1 hr ?_)
  all_goals rfl
 | false=>
  rcases nL i ts.length with h|h
  ·have e:sees ts i w=isW ts[i] w:=by unfold sees;rw[decide_eq_true h,Za h];rfl
   rw[e]
   refine Z8 mxd i175 rfl (by simp) ?_;refine X0 ?_
   (refine V1 (jO hr h) ?_;with_reducible repeat' intro h)
   refine callS.eq (w198 _ _) ?_
   (refine V0 ?_;with_reducible repeat' exact trivial)
   all_goals first|rfl|exact ⟨rfl,rfl⟩
  ·have e:sees ts i w=false:=by unfold sees;rw[decide_eq_false (by omega)];rfl
   have h':¬i<ts.length:=by omega
   rw[e]
   refine Z8 mxd i175 rfl (by simp) ?_;refine X0 ?_
   (refine V1 (jO hr h') ?_;with_reducible repeat' intro h)
   all_goals try exact oF
   all_goals first|rfl|exact ⟨rfl,rfl⟩
theorem w142 (ts:List Go.Gh.Tok) (hl:ts.length≤80) (i:Nat) (hi:i≤ts.length) (b:Bool) (w:ByteArray) (rp:Nat) (H:GH) (hr:Z6 H rp=some (3,[PaG ts i b])) :
 Gc 142 [.ptr rp 3 0 0,T w] H (fun g H'=>g=B (!b && sees ts i w)∧H'=Z1 H rp [PaG ts (if (!b && sees ts i w)=true then i+1 else i) b]):=by
 have h1:=w175 ts hl i hi b w rp H hr
 generalize hq:(!b && sees ts i w)=q at *
 cases q with
 | true=>
  refine Z8 mxd i142 rfl (by simp) ?_;refine X0 ?_
  (refine V0 ?_)
  refine callS.of h1 ?_
  rintro _ _ ⟨rfl,rfl⟩ _
  (refine V1 hr ?_)
  all_goals first|rfl|exact ⟨rfl,rfl⟩
 | false=>
  refine Z8 mxd i142 rfl (by simp) ?_;refine X0 ?_
  (refine V0 ?_)
  refine callS.of h1 ?_
  rintro _ _ ⟨rfl,rfl⟩ _
  (refine V1 hr ?_)
  all_goals exact (YJ hr).symm
theorem w143 (ts:List Go.Gh.Tok) (hl:ts.length≤80) (i:Nat) (hi:i≤ts.length) (b:Bool) (w:ByteArray) (rp:Nat) (H:GH) (hr:Z6 H rp=some (3,[PaG ts i b])) :
 Gc 143 [.ptr rp 3 0 0,T w] H (fun _ H'=>H'=Z1 H rp [PaG ts (frm b (fun i=>ZW ts i w) i).at (frm b (fun i=>ZW ts i w) i).err]):=by
 have h1:=w142 ts hl i hi b w rp H hr
 have h2:∀fs,Z6 (Z1 H rp fs) rp=some (3,fs):=fun fs=>ZK hr
 cases b with
 | true=>
  refine Z8 mxd i143 rfl (by simp) ?_;refine X0 ?_
  (refine V0 ?_)
  refine callS.of h1 ?_
  rintro _ _ ⟨rfl,rfl⟩ _
  (refine V1 (jO @Bool.not_true (jO @Bool.false_and (jO h2 @Z4))) ?_)
  all_goals rfl
 | false=>
  cases hq:sees ts i w with
  | true=>
   rw[hq] at h1
   rw[Zl,take_t hq]
   refine Z8 mxd i143 rfl (by simp) ?_;refine X0 ?_
   (refine V0 ?_)
   refine callS.of h1 ?_
   rintro _ _ ⟨rfl,rfl⟩ _
   (refine V0 ?_)
   all_goals rfl
  | false=>
   rw[hq] at h1
   rw[Zl,take_f hq]
   refine Z8 mxd i143 rfl (by simp) ?_;refine X0 ?_
   (refine V0 ?_)
   refine callS.of h1 ?_
   rintro _ _ ⟨rfl,rfl⟩ _
   (refine V1 (jO h2 @Z4) ?_)
   all_goals rfl
theorem w103 (n:Int):Pu 103 [I n] (· = I (Zy n)):=by
 refine Z8 mxd i103 rfl (by simp) ?_;refine X0 ?_
 (refine V0 ?_;with_reducible repeat' first|intro h|apply jO)
 all_goals first|(unfold Zy;simp[*];done)|(unfold Zy;rw[if_neg (by omega),if_neg (by omega),if_neg (by omega)];rfl)
theorem w203 (s:ByteArray):Pu 203 [T s] (· = I (funO s)):=by
 refine Z8 mxd i203 rfl (by simp) ?_;refine X0 ?_
 (refine V0 ?_;with_reducible repeat' first|intro h|apply jO)
 all_goals first|(subst_vars;rfl)|(unfold funO wMax wMin wHas wWith;simp[*];done)|trace_state
theorem w199 (n k:Int):Pu 199 [I n,I k] (· = ExN (conE n k)):=by
 refine Z8 mxd i199 rfl (by simp) ?_;refine X0 ?_
 (refine V0 ?_)
 all_goals first|rfl|trace_state
theorem w177 (t:Go.Gh.Tok) (lv:Nat) (h1:1≤lv) (h3:lv≤3):Pu 177 [Tk t,I lv] (· = I (if t.kind=3 then opKy (3,0,t.text) lv else 0)):=by
 have e1:((Zy 1:Nat):Int)=2:=rfl
 have e2:((Zy 2:Nat):Int)=2:=rfl
 have e3:((Zy 3:Nat):Int)=3:=rfl
 have e6:((Zy 6:Nat):Int)=2:=rfl
 have e7:((Zy 7:Nat):Int)=3:=rfl
 have e8:((Zy 8:Nat):Int)=2:=rfl
 have e9:((Zy 9:Nat):Int)=1:=rfl
 have e10:((Zy 10:Nat):Int)=1:=rfl
 by_cases hk:t.kind=3
 ·rw[if_pos hk]
  obtain ⟨l,hl⟩:∃l:Int,l=lv:=⟨_,rfl⟩
  rw[←hl]
  have hl':(l=1∧lv=1)∨(l=2∧lv=2)∨(l=3∧lv=3):=by omega
  clear hl
  rcases hl' with ⟨rfl,rfl⟩|⟨rfl,rfl⟩|⟨rfl,rfl⟩
  all_goals
   refine Z8 mxd i177 rfl (by simp) ?_;refine X0 ?_
   (refine V1 hk ?_;with_reducible repeat' first|intro h|refine aO ?_|apply jO)
   all_goals try (refine callS.eq (w103 _) ?_;(refine V1 (jO e1 (jO e2 (jO e3 (jO e6 (jO e7 (jO e8 (jO e9 e10))))))) ?_;with_reducible repeat' intro h))
   all_goals (simp[opKy,isK, *];done)
 ·rw[if_neg hk]
  refine Z8 mxd i177 rfl (by simp) ?_;refine X0 ?_
  (refine V1 hk ?_;with_reducible repeat' exact trivial)
theorem w145 (ts:List Go.Gh.Tok) (hl:ts.length≤80) (ht:okTs ts) (i:Nat) (hi:i≤ts.length) (b:Bool) (lv:Nat) (h1:1≤lv) (h3:lv≤3) (rp:Nat) (H:GH) (hr:Z6 H rp=some (3,[PaG ts i b])) :
 Gc 145 [.ptr rp 3 0 0,I lv] H (fun g H'=>g=I (opB ts b i lv)∧H'=Z1 H rp [PaG ts (if opB ts b i lv≠0 then i+1 else i) b]):=by
 cases b with
 | true=>
  refine Z8 mxd i145 rfl (by simp) ?_;refine X0 ?_
  (refine V1 hr ?_;with_reducible repeat' apply jO)
  all_goals first|exact (YJ hr).symm | rfl
 | false=>
  rcases nL i ts.length with h|hG
  ·have hL:¬ts.length≤i:=by omega
   have e:=opB_lt ht h lv
   have hop:=w177 ts[i] lv h1 h3
   rw[←e] at hop
   generalize opB ts false i lv=o at *
   by_cases h0:o=0
   ·subst h0
    refine Z8 mxd i145 rfl (by simp) ?_;refine X0 ?_
    (refine V1 (jO hr (jO h hL)) ?_;with_reducible repeat' intro h)
    refine callS.eq hop ?_
    (refine V0 ?_)
    all_goals first|exact (YJ hr).symm | rfl
   ·rw[if_pos h0]
    refine Z8 mxd i145 rfl (by simp) ?_;refine X0 ?_
    (refine V1 (jO hr (jO h hL)) ?_;with_reducible repeat' intro h)
    refine callS.eq hop ?_
    (refine V1 (jO h0 hr) ?_)
    all_goals rfl
  ·have e:opB ts false i lv=0:=opB_ge hG lv
   have h':¬i<ts.length:=by omega
   rw[e]
   refine Z8 mxd i145 rfl (by simp) ?_;refine X0 ?_
   (refine V1 (jO hr (jO h' hG)) ?_;with_reducible repeat' first|intro h|apply jO)
   all_goals try exact oF
   all_goals first|exact (YJ hr).symm | rfl
theorem w200 (ts:List Go.Gh.Tok) (hl:ts.length≤80) (i:Nat) (hi:i≤ts.length) (b:Bool) (lo hh:Int) (rp:Nat) (H:GH) (hr:Z6 H rp=some (3,[PaG ts i b])) :
 Gc 200 [.ptr rp 3 0 0,I lo,I hh] H (fun g H'=>g=I (PR.val 0 (frm b (fun i=>Zv ts i lo hh) i))∧H'=Z1 H rp [PaG ts (frm b (fun i=>Zv ts i lo hh) i).at (frm b (fun i=>Zv ts i lo hh) i).err]):=by
 have h2:∀fs,Z6 (Z1 H rp fs) rp=some (3,fs):=fun fs=>ZK hr
 cases b with
 | true=>
  refine Z8 mxd i200 rfl (by simp) ?_;refine X0 ?_
  (refine R1 hr ?_;with_reducible repeat' apply jO)
  all_goals first|rfl|exact ⟨rfl,rfl⟩
 | false=>
  rw[Zl]
  rcases nL i ts.length with h|hG
  ·have hL:¬ts.length≤i:=by omega
   have hx1:((i:Int)+1-1)=(i:Int):=by omega
   by_cases hk:ts[i].kind = 2
   ·have hkk:((ts[i].kind = 2)=True):=eq_true hk
    by_cases hw:lo≤ts[i].num ∧ ts[i].num ≤ hh
    ·have e:Zv ts i lo hh = .ok ts[i].num (i+1):=by unfold Zv;rw[Za h,if_pos ⟨h,hk,hw⟩]
     have hwd:=decide_eq_true hw
     rw[e]
     refine Z8 mxd i200 rfl (by simp) ?_;refine X0 ?_
     (refine R1 (jO hr (jO h (jO hL (jO hkk (jO @decide_true @decide_false))))) ?_;with_reducible repeat' intro h)
     refine callS.eq (w46 _ _ _) ?_
     (refine R1 (jO hwd (jO hr (jO h (jO h2 (jO @Z4 hx1))))) ?_;with_reducible repeat' first|intro h|apply jO)
     all_goals first|rfl|exact ⟨rfl,rfl⟩|trace_state
    ·have e:Zv ts i lo hh = .bad i:=by unfold Zv;rw[Za h,if_neg (fun hc=>hw ⟨hc.2.2.1,hc.2.2.2⟩)]
     have hwd:=decide_eq_false hw
     rw[e]
     refine Z8 mxd i200 rfl (by simp) ?_;refine X0 ?_
     (refine R1 (jO hr (jO h (jO hL (jO hkk (jO @decide_true @decide_false))))) ?_;with_reducible repeat' intro h)
     refine callS.eq (w46 _ _ _) ?_
     (refine R1 (jO hwd (jO hr h2)) ?_;with_reducible repeat' apply jO)
     all_goals first|rfl|exact ⟨rfl,rfl⟩|trace_state
   ·have e:Zv ts i lo hh = .bad i:=by unfold Zv;rw[Za h,if_neg (fun hc=>hk hc.2.1)]
    have hkk:((ts[i].kind = 2)=False):=eq_false hk
    rw[e]
    refine Z8 mxd i200 rfl (by simp) ?_;refine X0 ?_
    (refine R1 (jO hr (jO h (jO hL (jO hkk (jO @decide_true @decide_false))))) ?_;with_reducible repeat' first|intro h|apply jO)
    all_goals first|rfl|exact ⟨rfl,rfl⟩|trace_state
  ·have e:Zv ts i lo hh = .bad i:=by unfold Zv;rw[if_neg (fun hc=>by omega)]
   rw[e]
   refine Z8 mxd i200 rfl (by simp) ?_;refine X0 ?_
   (refine R1 (jO hr (jO hG @decide_true)) ?_;with_reducible repeat' first|intro h|refine aO ?_|apply jO)
   all_goals first|rfl|exact ⟨rfl,rfl⟩|trace_state
theorem w202 (ts:List Go.Gh.Tok) (hl:ts.length≤80) (ht:okTs ts) (i:Nat) (hi:i≤ts.length) (b:Bool) (rp:Nat) (H:GH) (hr:Z6 H rp=some (3,[PaG ts i b])) :
 Gc 202 [.ptr rp 3 0 0] H (fun g H'=>g=T (PR.val noS (frm b (ZO ts) i))∧H'=Z1 H rp [PaG ts (frm b (ZO ts) i).at (frm b (ZO ts) i).err]):=by
 have h2:∀fs,Z6 (Z1 H rp fs) rp=some (3,fs):=fun fs=>ZK hr
 cases b with
 | true=>
  refine Z8 mxd i202 rfl (by simp) ?_;refine X0 ?_
  (refine R1 hr ?_;with_reducible repeat' apply jO)
  all_goals first|rfl|exact ⟨rfl,rfl⟩
 | false=>
  rw[Zl]
  rcases nL i ts.length with h|hG
  ·have hL:¬ts.length≤i:=by omega
   have hx1:((i:Int)+1-1)=(i:Int):=by omega
   have hsz:=(ht _ (gM h)).2
   have hm:ts[i].text.size ≤ maxLen:=by simp only[maxLen,ZE];omega
   by_cases hk:ts[i].kind = 1
   ·have hkk:((ts[i].kind = 1)=True):=eq_true hk
    by_cases hw:ZS ts[i].text = true
    ·have e:ZO ts i = .ok ts[i].text (i+1):=by unfold ZO;rw[Za h,if_pos ⟨h,hk,hw⟩]
     rw[e]
     refine Z8 mxd i202 rfl (by simp) ?_;refine X0 ?_
     (refine R1 (jO hr (jO h (jO hL (jO hkk (jO @decide_true @decide_false))))) ?_;with_reducible repeat' intro h)
     refine callS.eq (w44 _ hm) ?_
     (refine R1 (jO hw (jO hr (jO h (jO h2 (jO @Z4 hx1))))) ?_;with_reducible repeat' first|intro h|apply jO)
     all_goals first|rfl|exact ⟨rfl,rfl⟩|trace_state
    ·have hw':ZS ts[i].text = false:=by simpa using hw
     have e:ZO ts i = .bad i:=by unfold ZO;rw[Za h,if_neg (fun hc=>hw hc.2.2)]
     rw[e]
     refine Z8 mxd i202 rfl (by simp) ?_;refine X0 ?_
     (refine R1 (jO hr (jO h (jO hL (jO hkk (jO @decide_true @decide_false))))) ?_;with_reducible repeat' intro h)
     refine callS.eq (w44 _ hm) ?_
     (refine R1 (jO hw' (jO hr h2)) ?_;with_reducible repeat' apply jO)
     all_goals first|rfl|exact ⟨rfl,rfl⟩|trace_state
   ·have e:ZO ts i = .bad i:=by unfold ZO;rw[Za h,if_neg (fun hc=>hk hc.2.1)]
    have hkk:((ts[i].kind = 1)=False):=eq_false hk
    rw[e]
    refine Z8 mxd i202 rfl (by simp) ?_;refine X0 ?_
    (refine R1 (jO hr (jO h (jO hL (jO hkk (jO @decide_true @decide_false))))) ?_;with_reducible repeat' first|intro h|apply jO)
    all_goals first|rfl|exact ⟨rfl,rfl⟩|trace_state
  ·have e:ZO ts i = .bad i:=by unfold ZO;rw[if_neg (fun hc=>by omega)]
   rw[e]
   refine Z8 mxd i202 rfl (by simp) ?_;refine X0 ?_
   (refine R1 (jO hr (jO hG @decide_true)) ?_;with_reducible repeat' first|intro h|refine aO ?_|apply jO)
   all_goals first|rfl|exact ⟨rfl,rfl⟩|trace_state
theorem o146 (op:Int) (a b:Exp) (ra rb:Nat) (H:GH) (hab:ra≠rb) (ha:Z6 H ra=some (7,a.args.map ExO)) (hb:Z6 H rb=some (7,b.args.map ExO)) :
 Gc 146 [I op,EO ra a,EO rb b] H (fun g H'=>∃r,g=EO r (opE op a b)∧H'=(r,7,(opE op a b).args.map ExO)::ZL (ZL H ra) rb):=by
 have h0:Gc 146 [I op,EO ra a,EO rb b] H (fun g H'=>∃r,r≠ra∧r≠rb∧g=EO r (opE op a b)∧H'=(r,7,[EO ra a,EO rb b])::H):=by
  refine Z8 mxd i146 rfl (by simp) ?_;refine X0 ?_
  (refine V0 ?_;with_reducible repeat' intro h)
  rename_i r
  have h1:=neA_get h.1 ha
  have h2:=neA_get h.1 hb
  exact ⟨r,h1,h2,rfl,rfl⟩
 refine h0.fr ?_
 rintro g H' ⟨r,h1,h2,rfl,rfl⟩
 have e1:ZL (Z1 ((r,7,[EO ra a,EO rb b])::H) r [.agg [I a.kind,I a.n,I a.pos,I a.type,T a.sym,T a.name,.osl 7 (a.args.map ExO)],EO rb b]) ra=(r,7,[ExO a,EO rb b])::ZL H ra:=by
  rw[YU,ExO_eq]
  simp[ZL,h1]
 have e2:ZL (Z1 ((r,7,[ExO a,EO rb b])::ZL H ra) r [ExO a,.agg [I b.kind,I b.n,I b.pos,I b.type,T b.sym,T b.name,.osl 7 (b.args.map ExO)]]) rb=(r,7,[ExO a,ExO b])::ZL (ZL H ra) rb:=by
  rw[YU,ExO_eq b]
  simp[ZL,h2]
 have c1:FR (EO r (opE op a b)) ((r,7,[EO ra a,EO rb b])::H) (EO r (opE op a b)) ((r,7,[ExO a,EO rb b])::ZL H ra):=by
  rw[←e1]
  exact FR.close (es:=[EO ra a,EO rb b]) (i:=0) (j:=6) (gs:=[I a.kind,I a.n,I a.pos,I a.type,T a.sym,T a.name,.own ra 7 0 a.args.length]) h1 Z0 rfl rfl (by rw[ZX h1];exact ha) (by simp)
 have c2:FR (EO r (opE op a b)) ((r,7,[ExO a,EO rb b])::ZL H ra) (EO r (opE op a b)) ((r,7,[ExO a,ExO b])::ZL (ZL H ra) rb):=by
  rw[←e2]
  exact FR.close (es:=[ExO a,EO rb b]) (i:=1) (j:=6) (gs:=[I b.kind,I b.n,I b.pos,I b.type,T b.sym,T b.name,.own rb 7 0 b.args.length]) h2 Z0 rfl rfl (by rw[ZX h2,hget_hdel (Ne.symm hab)];exact hb) (by simp)
 exact ⟨_,_,FR.trans c1 c2,r,rfl,rfl⟩
theorem o201 (ts:List Go.Gh.Tok) (hl:ts.length≤80) (i:Nat) (hi:i≤ts.length) (rp:Nat) (H:GH) (hr:Z6 H rp=some (3,[PaG ts i false])) :
 Gc 201 [.ptr rp 3 0 0] H (EP (PaG ts) ((YM ts (ts.length+1) i 0 0).bind fun s j=> .ok (conE s 2) j) rp H):=by
 have h0:Gc 201 [.ptr rp 3 0 0] H (fun g H'=>∃v,g=ExN (conE v 2)∧H'=Z1 H rp [PaG ts (YM ts (ts.length+1) i 0 0).at (YM ts (ts.length+1) i 0 0).err]∧∀a j,YM ts (ts.length+1) i 0 0 = .ok a j→v=a):=by
  generalize hR:YM ts (ts.length+1) i 0 0=R at *
  refine Z8 mxd i201 rfl (by simp) ?_;refine X0 ?_
  (refine V0 ?_)
  refine Zk mxd (ι:={ x:Nat×Bool×Int×Int // x.1≤ts.length∧0≤x.2.2.1∧x.2.2.1≤4095∧0≤x.2.2.2∧x.2.2.2≤12∧(x.2.1=true→R = .bad x.1)∧(x.2.1=false→∃f,ts.length-x.1<f∧YM ts f x.1 x.2.2.2 x.2.2.1=R) }) (fun x=>[(0,.ptr rp 3 0 0),(2,.raw 7),(3,I x.1.2.2.1),(4,I x.1.2.2.2)]) (fun x=>Z1 H rp [PaG ts x.1.1 x.1.2.1]) (fun x=>if x.1.2.1=true then 0 else ts.length-x.1.1+1) ⟨(i,false,0,0),hi,by dsimp only;omega,by dsimp only;omega,by dsimp only;omega,by dsimp only;omega,(fun h=>by cases h),fun _ => ⟨_,by dsimp only;omega,hR⟩⟩ (by simp[E2]) (YJ hr).symm ?_
  rintro ⟨⟨k,b,v,l⟩,hk,v0,v1,l0,l1,hb1,hb2⟩
  dsimp only at hk v0 v1 l0 l1 hb1 hb2 ⊢
  have hr':=ZK (fs:=[PaG ts k b]) hr
  cases b with
  | true=>
   obtain rfl:=hb1 rfl
   (refine V1 (jO hr' @Bool.not_true) ?_)
   refine callS.of (w143 ts hl k hk true ⟨#[125]⟩ rp _ hr') ?_
   rintro _ _ rfl _
   (refine V1 @Z4 ?_)
   refine callS.eq (w199 v 2) ?_
   (refine V0 ?_)
   all_goals exact ⟨v,rfl,rfl⟩
  | false=>
   obtain ⟨f,hf,hs⟩:=hb2 rfl
   obtain ⟨f,rfl⟩:∃g,f=g+1:=⟨f-1,by omega⟩
   simp only[YM] at hs
   cases hq:sees ts k wRB with
   | true=>
    rw[if_pos hq] at hs
    subst hs
    have h1:=w175 ts hl k hk false ⟨#[125]⟩ rp _ hr'
    have h2:=w143 ts hl k hk false ⟨#[125]⟩ rp _ hr'
    rw[show (⟨#[125]⟩:ByteArray)=wRB from rfl] at h1 h2
    rw[hq] at h1
    rw[Zl,take_t hq] at h2
    (refine V1 (jO hr' @Bool.not_false) ?_)
    refine callS.of h1 ?_
    rintro _ _ ⟨rfl,rfl⟩ _
    (refine V1 (jO hr' @Bool.not_true) ?_)
    refine callS.of h2 ?_
    rintro _ _ rfl _
    (refine V1 @Z4 ?_)
    refine callS.eq (w199 v 2) ?_
    (refine V0 ?_)
    all_goals first|exact ⟨v,rfl,rfl,fun a j h=>by cases h;rfl⟩|trace_state
   | false=>
    rw[if_neg (by rw[hq];decide)] at hs
    have h1:=w175 ts hl k hk false ⟨#[125]⟩ rp _ hr'
    have h2:=w200 ts hl k hk false l 11 rp _ hr'
    rw[show (⟨#[125]⟩:ByteArray)=wRB from rfl,hq] at h1
    rw[Zl] at h2
    cases hn:Zv ts k l 11 with
    | bad j=>
     rw[hn] at hs h2
     simp only[PR.val,PR.at,PR.err] at h2
     have hj:j=k:=by unfold Zv at hn;split at hn<;>cases hn;rfl
     subst hj
     have hr2:=ZK (fs:=[PaG ts j true]) hr
     (refine V1 (jO hr' @Bool.not_false) ?_)
     refine callS.of h1 ?_
     rintro _ _ ⟨rfl,rfl⟩ _
     (refine V1 (jO hr' @Bool.not_true) ?_)
     refine callS.of h2 ?_
     rintro _ _ ⟨rfl,rfl⟩ _
     (refine V1 (jO @Z4 hr2) ?_)
     exact nx ⟨(j,true,v,l),hk,v0,v1,l0,l1,fun _ => hs.symm,fun h=>by cases h⟩ (by simp) (by simp[E2]) rfl
    | ok n j=>
     rw[hn] at hs h2
     simp only[PR.val,PR.at,PR.err] at h2
     have hlt0:=num_lt hn
     obtain ⟨rfl,n0,n1⟩:=num_nx hn
     have hlt:k<ts.length:=hlt0
     obtain ⟨q0,q1,_⟩:=set_len v0 v1 (by omega:0≤n) n1
     have hr2:=ZK (fs:=[PaG ts (k+1) false]) hr
     have hwu:=wrapU n (by omega) (by omega)
     (refine V1 (jO hr' @Bool.not_false) ?_)
     refine callS.of h1 ?_
     rintro _ _ ⟨rfl,rfl⟩ _
     (refine V1 (jO hr' @Bool.not_true) ?_)
     refine callS.of h2 ?_
     rintro _ _ ⟨rfl,rfl⟩ _
     (refine V1 (jO @Z4 (jO hr2 hwu)) ?_)
     all_goals try exact oF
     all_goals first|exact nx ⟨(k+1,false,orI .i64 v (shlI .i64 1 n),n+1),by dsimp only;omega,q0,q1,by dsimp only;omega,by dsimp only;omega,(fun h=>by cases h),fun _ => ⟨f,by dsimp only;omega,hs⟩⟩ (by dsimp only;simp;omega) (by simp[E2]) rfl|trace_state
 refine h0.fr ?_
 rintro g H' ⟨v,rfl,rfl,hv⟩
 obtain ⟨r,hf⟩:=FR.nilE (e:=conE v 2) rfl (Z1 H rp [PaG ts (YM ts (ts.length+1) i 0 0).at (YM ts (ts.length+1) i 0 0).err])
 refine ⟨_,_,hf,conE v 2,r,rfl,?_,?_⟩
 ·cases YM ts (ts.length+1) i 0 0<;>rfl
 ·intro a j h
  cases hs:YM ts (ts.length+1) i 0 0 with
  | bad k=>rw[hs] at h;cases h
  | ok s k=>rw[hs] at h;cases h;rw[hv s _ hs]
theorem Tryz.rowS (lv:Nat) (h2:2≤lv) (h3:lv≤3) (ts:List Go.Gh.Tok) (hl:ts.length≤80) (ht:okTs ts) (X:Nat→PR Exp) (i0:Nat) (hXb:∀i,BdA ts i (X i))
 (hX:∀(i:Nat) (b:Bool) (rp:Nat) (H:GH),i0≤i→i≤ts.length→Z6 H rp=some (3,[PaG ts i b])→Gc 144 [.ptr rp 3 0 0,I ((lv:Int)+1)] H (EP (PaG ts) (frm b X i) rp H))
 (i:Nat) (b:Bool) (rp:Nat) (H:GH) (h0i:i0≤i) (hi:i≤ts.length) (hr:Z6 H rp=some (3,[PaG ts i b])):Gc 144 [.ptr rp 3 0 0,I lv] H (EP (PaG ts) (frm b (lvP ts X lv) i) rp H):=by
 have hlv4:¬(lv:Int)=4:=by omega
 generalize hR:frm b (lvP ts X lv) i=R
 have h0:Gc 144 [.ptr rp 3 0 0,I lv] H (fun g H'=>∃e r r5 u,r≠r5∧g=EO r e∧H'=(r,7,e.args.map ExO)::(r5,7,u)::Z1 H rp [PaG ts R.at R.err]∧∀a j,R = .ok a j→e=a):=by
  refine Z8 mxd i144 rfl (by simp) ?_;refine X0 ?_
  (refine V1 hlv4 ?_;with_reducible repeat' intro h)
  all_goals try exact oF
  refine callS.of (hX i b rp H h0i hi hr) ?_
  rintro g H' ⟨e,r,rfl,rfl,he⟩ hn
  have hP:(frm b X i).at ≤ ts.length:=Zw (hXb i) hi
  have hP0:i0≤(frm b X i).at := Nat.le_trans h0i (X5 (hXb i) hi)
  generalize hPP:frm b X i=P at *
  have hr1:=ZK (fs:=[PaG ts P.at P.err]) hr
  have hrp:=ZN hn hr1
  replace hn:=Y3 hn
  (replace hn:=hn;simp only[VN] at hn)
  (refine V1 hn ?_;with_reducible repeat' intro h)
  all_goals try exact oF
  rename_i r5
  have hr5:=neA_get h.1.2.2 hr1
  have hne:=h.1.2.1
  clear hn
  have hg1:Z6 ((r5,7,[EO r e])::(r,7,e.args.map ExO)::Z1 H rp [PaG ts P.at P.err]) rp=some (3,[PaG ts P.at P.err]):=by rw[ZX hr5,ZX hrp];exact hr1
  refine callS.of (w145 ts hl ht P.at hP P.err lv (by omega) h3 rp _ hg1) ?_
  rintro _ _ ⟨rfl,rfl⟩ _
  rw[ZJ hr5,ZJ hrp,Z4]
  (refine V0 ?_)
  have hinv:(P.err=true→R = .bad P.at)∧(P.err=false→∃F,ts.length-P.at<F∧YO ts X lv F e P.at=R):=by
   cases b with
   | true=>rw[frm_t] at hPP hR;subst hPP hR;exact ⟨fun _ => rfl,fun h=>by cases h⟩
   | false=>
    rw[Zl] at hPP hR
    unfold lvP at hR
    rw[hPP] at hR
    cases P with
    | bad k=>exact ⟨fun _ => hR.symm,fun h=>by cases h⟩
    | ok a k=>
     obtain rfl:=he a k rfl
     exact ⟨(fun h=>by cases h),fun _ => ⟨ts.length+1,by omega,hR⟩⟩
  refine wloopF mxd (ι:={ y:Nat×Bool×Exp×Nat // (i0≤y.1∧y.1≤ts.length)∧y.2.2.2≠r5∧(y.2.1=true→R = .bad y.1)∧(y.2.1=false→∃F,ts.length-y.1<F∧YO ts X lv F y.2.2.1 y.1=R) }) (fun y=>[(0,.ptr rp 3 0 0),(1,I lv),(4,.raw 7),(5,.ptr r5 7 0 0),(6,I (opB ts y.1.2.1 y.1.1 lv))]) (fun y=>(y.1.2.2.2,7,y.1.2.2.1.args.map ExO)::(r5,7,[EO y.1.2.2.2 y.1.2.2.1])::Z1 H rp [PaG ts (if opB ts y.1.2.1 y.1.1 lv≠0 then y.1.1+1 else y.1.1) y.1.2.1]) (fun y=>if y.1.2.1=true then 0 else ts.length-y.1.1+1) ⟨(P.at,P.err,e,r),⟨hP0,hP⟩,hne,hinv.1,hinv.2⟩ FE.swap (by simp[E2]) rfl ?_
  clear hinv hg1 he hPP hP hP0 hr1 hrp hne h
  rintro ⟨⟨k,c,e,r⟩,⟨hk0,hk⟩,hne,h1,h2⟩ hn
  dsimp only at hk0 hk hne h1 h2 hn ⊢
  refine Y1 mxd ?_
  have hrp:r≠rp:=ZN hn (by rw[ZX hr5];exact ZK hr)
  by_cases ho:opB ts c k lv=0
  ·have hst:(if opB ts c k lv≠0 then k+1 else k)=k:=if_neg (fun h=>h ho)
   rw[hst]
   have hRk:R.at=k∧R.err=c∧∀a j,R = .ok a j→e=a:=by
    cases c with
    | true=>rw[h1 rfl];exact ⟨rfl,rfl,fun a j h=>by cases h⟩
    | false=>
     obtain ⟨F,hF,hs⟩:=h2 rfl
     obtain ⟨F,rfl⟩:∃G,F=G+1:=⟨F-1,by omega⟩
     simp only[YO] at hs
     rw[if_pos (show Go.Gh.opAt ts k lv=0 from ho)] at hs
     subst hs
     exact ⟨rfl,rfl,fun a j h=>by cases h;rfl⟩
   (refine V1 (jO ho hne) ?_)
   all_goals try exact oF
   all_goals exact ⟨e,r,r5,_,hne,rfl,by rw[hRk.1,hRk.2.1],hRk.2.2⟩
  ·have hst:(if opB ts c k lv≠0 then k+1 else k)=k+1:=if_pos ho
   rw[hst]
   obtain rfl:c=false:=by
    cases c with
    | true=>exact absurd rfl ho
    | false=>rfl
   have hlt:k<ts.length:=by
    rcases nL k ts.length with h|h
    ·exact h
    ·exact absurd (opB_ge h lv) ho
   obtain ⟨F,hF,hs⟩:=h2 rfl
   obtain ⟨F,rfl⟩:∃G,F=G+1:=⟨F-1,by omega⟩
   simp only[YO] at hs
   rw[if_neg (show ¬Go.Gh.opAt ts k lv=0 from ho)] at hs
   have hop:Go.Gh.opAt ts k lv=opB ts false k lv:=rfl
   rw[hop] at hs
   have hbd:=hXb (k+1) (by omega)
   have hg0:=ZK (fs:=[PaG ts (k+1) false]) hr
   have hx:=hX (k+1) false rp ((r,7,e.args.map ExO)::(r5,7,[EO r e])::Z1 H rp [PaG ts (k+1) false]) (by omega) (by omega) (by rw[ZX hrp,ZX hr5];exact hg0)
   rw[Zl] at hx
   generalize hXX:X (k+1)=Q at *
   generalize opB ts false k lv=o at *
   have hne':r5≠r:=Ne.symm hne
   (refine V1 (jO ho (jO hne hne')) ?_)
   all_goals try exact oF
   refine callK.of hx ?_
   rintro g H' ⟨e2,q,rfl,rfl,he2⟩ hq
   have hqr5:q≠r5:=ZN hq (by rw[ZJ hrp,ZJ hr5,ZX hne];exact Z0)
   have hqr:q≠r:=ZN hq (by rw[ZJ hrp,ZJ hr5];exact Z0)
   rw[ZJ hrp,ZJ hr5,Z4]
   refine ⟨⟨by simp[kpt1,ZU,ZX hqr5,ZX hne,Z0],trivial⟩,?_⟩
   (refine V0 ?_)
   have hgr:Z6 ((q,7,e2.args.map ExO)::(r,7,e.args.map ExO)::(r5,7,[EO r e])::Z1 H rp [PaG ts Q.at Q.err]) r=some (7,e.args.map ExO):=by rw[ZX hqr];exact Z0
   refine callS.of (o146 o e e2 r q _ (Ne.symm hqr) hgr Z0) ?_
   rintro g H' ⟨r3,rfl,rfl⟩ hn3
   have hd:ZL (ZL ((q,7,e2.args.map ExO)::(r,7,e.args.map ExO)::(r5,7,[EO r e])::Z1 H rp [PaG ts Q.at Q.err]) r) q=(r5,7,[EO r e])::Z1 H rp [PaG ts Q.at Q.err]:=by simp[ZL,hqr]
   rw[hd] at hn3 ⊢
   have h35:r3≠r5:=ZN hn3 Z0
   have hg2:=ZK (fs:=[PaG ts Q.at Q.err]) hr
   have h3p:r3≠rp:=ZN hn3 (by rw[ZX hr5];exact hg2)
   (refine V1 h35 ?_)
   all_goals try exact oF
   have hQ:Q.at≤ts.length:=hbd.2
   have hQ1:k+1≤Q.at:=hbd.1
   refine callS.of (w145 ts hl ht Q.at hQ Q.err lv (by omega) h3 rp _ (by rw[ZX h3p,ZX hr5];exact hg2)) ?_
   rintro _ _ ⟨rfl,rfl⟩ _
   rw[ZJ h3p,ZJ hr5,Z4]
   (refine V0 ?_)
   have hn1:Q.err=true→R = .bad Q.at:=fun h=>by
    cases Q with
    | bad j=>exact hs.symm
    | ok a j=>cases h
   have hn2:Q.err=false→∃F,ts.length-Q.at<F∧YO ts X lv F (opE o e e2) Q.at=R:=fun h=>by
    cases Q with
    | bad j=>cases h
    | ok a j=>
     obtain rfl:=he2 a j rfl
     simp only[PR.bind] at hs
     rw[if_neg (by omega)] at hs
     have hQ1:k+1≤j:=hQ1
     exact ⟨F,by show ts.length-j<F;omega,hs⟩
   exact nx ⟨(Q.at,Q.err,opE o e e2,r3),⟨by show i0≤Q.at;omega,hQ⟩,h35,hn1,hn2⟩ (by dsimp only;simp only[Bool.false_eq_true,if_false];split<;>omega) (by simp[E2]) rfl
 refine h0.fr ?_
 rintro g H' ⟨e,r,r5,u,hne,rfl,rfl,he⟩
 exact ⟨_,_,FR.perm (H:=[(r,7,e.args.map ExO),(r5,7,u)]) (L:=[(r,7,e.args.map ExO)]) (by simp[subH,Z6,names]),e,r,rfl,rfl,he⟩
end Go.Proofs.YtcegkonjphbfaaaGreatDoor
