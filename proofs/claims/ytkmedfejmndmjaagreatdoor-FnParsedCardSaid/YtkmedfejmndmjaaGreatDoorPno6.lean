/- The tied card of the law holds. No condition. -/
import Derived.Test.YtkmedfejmndmjaaGreatDoorPno5
set_option maxHeartbeats 40000000
set_option maxRecDepth 20000
set_option linter.unusedSimpArgs false
set_option linter.unusedVariables false
namespace Go.Proofs.YtkmedfejmndmjaaGreatDoor
open Go.Gh
open Nat (reduceEqDiff reduceLeDiff reduceAdd reduceLT)
open Int (reduceNe)
open Go.Lib
theorem w69 (c:UInt8):Pu 69 [.val (.int .u8 c.toNat)] (· = B (Ze c)):=by
 refine Z6 mxd i69 rfl (by simp) ?_;simp (maxSteps:=9^7) only[↓ S2,S2,Z7,↓reduceIte,reduceNe,reduceEqDiff,reduceCtorEq,reduceLeDiff,reduceAdd,reduceLT]
 ((try refine qI ?_);(repeat ((first|with_reducible refine qU ?_ | simp only[Z9]);try simp (maxSteps:=9^7) only[↓ S2,S2,Z7,↓reduceIte,reduceNe,reduceEqDiff,reduceCtorEq,reduceLeDiff,reduceAdd,reduceLT]));(try simp +contextual (disch:=omega) only[Z2]);(with_reducible repeat' (first|intro h|refine And.intro (by omega) ?_ | refine exP (by omega) ?_ | apply And.intro)))<;>simp_all [Ze]<;>(intros;omega)
theorem w70 (c:UInt8):Pu 70 [.val (.int .u8 c.toNat)] (· = B (ZI c)):=by
 refine Z6 mxd i70 rfl (by simp) ?_;simp (maxSteps:=9^7) only[↓ S2,S2,Z7,↓reduceIte,reduceNe,reduceEqDiff,reduceCtorEq,reduceLeDiff,reduceAdd,reduceLT]
 ((try refine qI ?_);(repeat ((first|with_reducible refine qU ?_ | simp only[Z9]);try simp (maxSteps:=9^7) only[↓ S2,S2,Z7,↓reduceIte,reduceNe,reduceEqDiff,reduceCtorEq,reduceLeDiff,reduceAdd,reduceLT]));(try simp +contextual (disch:=omega) only[Z2]);(with_reducible repeat' (first|intro h|refine And.intro (by omega) ?_ | refine exP (by omega) ?_ | apply And.intro)))<;>simp_all [ZI]<;>(intros;omega)
theorem w72 (s:ByteArray) (k:Nat) (hk:k<(Z8 s).length) (hs:(Z8 s).length ≤ 1048576):Pu 72 [T s,I k] (· = I (sybN (Z8 s) k)):=by
 have hsz:s.size≤1048576:=by rw[Zu];exact hs
 have hkk:((k:Int)+1).toNat = k+1:=by omega
 refine Z6 mxd i72 rfl (by simp) ?_;simp (maxSteps:=9^7) only[↓ S2,S2,Z7,↓reduceIte,reduceNe,reduceEqDiff,reduceCtorEq,reduceLeDiff,reduceAdd,reduceLT]
 ((try refine qI ?_);(repeat ((first|with_reducible refine qU ?_ | simp only[Z9]);try simp (maxSteps:=9^7) +contextual only[↓ S2,S2,↓reduceIte,reduceNe,reduceEqDiff,reduceCtorEq,reduceLeDiff,reduceAdd,reduceLT,VQ,hkk]));(try simp +contextual (disch:=omega) only[Z2,hkk]);(with_reducible repeat' (first|intro h|refine And.intro (by omega) ?_ | refine exP (by omega) ?_ | apply And.intro)))
 all_goals first
  | (rw[sybN_1 hk (by omega)];rfl)
  | (rw[sybN_2 hk (by omega) (by omega) (by omega)];rfl)
  | (rw[sybN_0 hk (by omega) (.inl (by omega))];rfl)
  | (rw[sybN_0 hk (by omega) (.inr (.inl (by omega)))];rfl)
  | (rw[sybN_0 hk (by omega) (.inr (.inr ⟨by omega,by omega⟩))];rfl)
theorem w104 (s:ByteArray) (hd:∀c∈Z8 s,ZI c=true) (h1:1≤(Z8 s).length) (hs:(Z8 s).length ≤ 1048576):Pu 104 [T s,I 12] (· = .tup [I (Yz (Z8 s)),B (redB (Z8 s))]):=by
 have hsz:s.size≤1048576:=by rw[Zu];exact hs
 have hd':∀(k:Nat) (h:k<(Z8 s).length),48≤((Z8 s)[k].toNat : Int)∧((Z8 s)[k].toNat : Int)≤57:=fun k h=>by
  have:=hd _ (gM h)
  simpa only[ZI,Bool.and_eq_true,decide_eq_true_eq] using this
 have h0:∀h:Int.toNat 0<(Z8 s).length,¬(((Z8 s)[Int.toNat 0]'h).toNat : Int)=45:=fun h=>by have:=hd' _ h;omega
 by_cases hl:(Z8 s).length ≤ 12
 ·refine Z6 mxd i104 rfl (by simp) ?_;simp (maxSteps:=9^7) only[↓ S2,S2,Z7,↓reduceIte,reduceNe,reduceEqDiff,reduceCtorEq,reduceLeDiff,reduceAdd,reduceLT]
  ((try refine qI ?_);(repeat ((first|with_reducible refine qU ?_ | simp only[Z9]);try simp (maxSteps:=9^7) +contextual only[↓ S2,S2,↓reduceIte,reduceNe,reduceEqDiff,reduceCtorEq,reduceLeDiff,reduceAdd,reduceLT,VQ,h0]));(try simp +contextual (disch:=omega) only[Z2,h0]);(with_reducible repeat' (first|intro h|refine And.intro (by omega) ?_ | refine exP (by omega) ?_ | apply And.intro)))
  all_goals try exact oF
  refine Yt mxd (ι:={ i:Nat // i≤(Z8 s).length }) (fun i=>[(0,T s),(6,B false),(7,T s),(8,I (Y8 ((Z8 s).take i.1))),(9,I i.1)]) (fun _ => []) (fun i=>(Z8 s).length - i.1) ⟨0,by simp⟩ (by simp[E2,Y8]) rfl ?_
  rintro ⟨i,hi⟩
  rcases nL i (Z8 s).length with hlt|hge
  ·have hb:=hd' i hlt
   have hv:=valD_bd ((Z8 s).take i) (fun c hc=>hd c (List.mem_of_mem_take hc))
   have hp:=pow12 (l:=(Z8 s).take i) (by simp;omega)
   have hw:IntKind.u8.wrap (((Z8 s)[i].toNat : Int)-48)=((Z8 s)[i].toNat : Int)-48:=wrap_u8 (by omega) (by omega)
   ((try refine qI ?_);(repeat ((first|with_reducible refine qU ?_ | simp only[Z9]);try simp (maxSteps:=9^7) +contextual only[↓ S2,S2,↓reduceIte,reduceNe,reduceEqDiff,reduceCtorEq,reduceLeDiff,reduceAdd,reduceLT,VQ,hw]));(try simp +contextual (disch:=omega) only[Z2,hw]);(with_reducible repeat' (first|intro h|refine And.intro (by omega) ?_ | refine exP (by omega) ?_ | apply And.intro)))
   all_goals try exact oF
   rw[←valD_take hlt]
   exact nx ⟨i+1,by omega⟩ (by dsimp only;omega) (by simp[E2]) rfl
  ·obtain rfl:i=(Z8 s).length := by omega
   have hv:=valD_bd (Z8 s) hd
   have hp:=pow13 (l:=Z8 s) hl
   rw[List.take_length]
   have hq:=w58 (Y8 (Z8 s)) (by omega) (by omega)
   by_cases he:itoa (Y8 (Z8 s))=Z8 s
   ·have hB:redB (Z8 s)=true:=by unfold redB;rw[decide_eq_true hl,decide_eq_true he];rfl
    have hV:Yz (Z8 s)=Y8 (Z8 s):=by unfold Yz;rw[if_pos hB]
    rw[he] at hq
    ((try refine qI ?_);(repeat ((first|with_reducible refine qU ?_ | simp only[Z9]);try simp (maxSteps:=9^7) +contextual only[↓ S2,S2,↓reduceIte,reduceNe,reduceEqDiff,reduceCtorEq,reduceLeDiff,reduceAdd,reduceLT,VQ,]));(try simp +contextual (disch:=omega) only[Z2,]);(with_reducible repeat' (first|intro h|refine And.intro (by omega) ?_ | refine exP (by omega) ?_ | apply And.intro)))
    all_goals try exact oF
    refine callS.eq hq ?_
    ((try refine qI ?_);(repeat ((first|with_reducible refine qU ?_ | simp only[Z9]);try simp (maxSteps:=9^7) +contextual only[↓ S2,S2,↓reduceIte,reduceNe,reduceEqDiff,reduceCtorEq,reduceLeDiff,reduceAdd,reduceLT,VQ,hB,hV]));(try simp +contextual (disch:=omega) only[Z2,hB,hV]);(with_reducible repeat' (first|intro h|refine And.intro (by omega) ?_ | refine exP (by omega) ?_ | apply And.intro)))
   ·have hB:redB (Z8 s)=false:=by unfold redB;rw[decide_eq_false he,Bool.and_false]
    have hV:Yz (Z8 s)=0:=by unfold Yz;rw[if_neg (by rw[hB];decide)]
    have hne:¬(⟨(itoa (Y8 (Z8 s))).toArray⟩:ByteArray)=s:=fun h=>he (congrArg Z8 h)
    ((try refine qI ?_);(repeat ((first|with_reducible refine qU ?_ | simp only[Z9]);try simp (maxSteps:=9^7) +contextual only[↓ S2,S2,↓reduceIte,reduceNe,reduceEqDiff,reduceCtorEq,reduceLeDiff,reduceAdd,reduceLT,VQ,]));(try simp +contextual (disch:=omega) only[Z2,]);(with_reducible repeat' (first|intro h|refine And.intro (by omega) ?_ | refine exP (by omega) ?_ | apply And.intro)))
    all_goals try exact oF
    refine callS.eq hq ?_
    ((try refine qI ?_);(repeat ((first|with_reducible refine qU ?_ | simp only[Z9]);try simp (maxSteps:=9^7) +contextual only[↓ S2,S2,↓reduceIte,reduceNe,reduceEqDiff,reduceCtorEq,reduceLeDiff,reduceAdd,reduceLT,VQ,hne,hB,hV]));(try simp +contextual (disch:=omega) only[Z2,hne,hB,hV]);(with_reducible repeat' (first|intro h|refine And.intro (by omega) ?_ | refine exP (by omega) ?_ | apply And.intro)))
 ·have hB:redB (Z8 s)=false:=by unfold redB;rw[decide_eq_false hl,Bool.false_and]
  have hV:Yz (Z8 s)=0:=by unfold Yz;rw[if_neg (by rw[hB];decide)]
  refine Z6 mxd i104 rfl (by simp) ?_;simp (maxSteps:=9^7) only[↓ S2,S2,Z7,↓reduceIte,reduceNe,reduceEqDiff,reduceCtorEq,reduceLeDiff,reduceAdd,reduceLT]
  ((try refine qI ?_);(repeat ((first|with_reducible refine qU ?_ | simp only[Z9]);try simp (maxSteps:=9^7) +contextual only[↓ S2,S2,↓reduceIte,reduceNe,reduceEqDiff,reduceCtorEq,reduceLeDiff,reduceAdd,reduceLT,VQ,h0]));(try simp +contextual (disch:=omega) only[Z2,h0]);(with_reducible repeat' (first|intro h|refine And.intro (by omega) ?_ | refine exP (by omega) ?_ | apply And.intro)))
  all_goals try exact oF
  all_goals rw[hB,hV]
theorem w71 (s:ByteArray) (hd:∀c∈Z8 s,ZI c=true) (h1:1≤(Z8 s).length) (hs:(Z8 s).length ≤ 1048576):Pu 71 [T s] (· = .tup [I (Yz (Z8 s)),B (redB (Z8 s))]):=by
 refine Z6 mxd i71 rfl (by simp) ?_;simp (maxSteps:=9^7) only[↓ S2,S2,Z7,↓reduceIte,reduceNe,reduceEqDiff,reduceCtorEq,reduceLeDiff,reduceAdd,reduceLT]
 ((try refine qI ?_);(repeat ((first|with_reducible refine qU ?_ | simp only[Z9]);try simp (maxSteps:=9^7) +contextual only[↓ S2,S2,↓reduceIte,reduceNe,reduceEqDiff,reduceCtorEq,reduceLeDiff,reduceAdd,reduceLT,VQ,]));(try simp +contextual (disch:=omega) only[Z2,]);(with_reducible repeat' (first|intro h|refine And.intro (by omega) ?_ | refine exP (by omega) ?_ | apply And.intro)))
 refine callS.eq (w104 s hd h1 hs) ?_
 ((try refine qI ?_);(repeat ((first|with_reducible refine qU ?_ | simp only[Z9]);try simp (maxSteps:=9^7) +contextual only[↓ S2,S2,↓reduceIte,reduceNe,reduceEqDiff,reduceCtorEq,reduceLeDiff,reduceAdd,reduceLT,VQ,]));(try simp +contextual (disch:=omega) only[Z2,]);(with_reducible repeat' (first|intro h|refine And.intro (by omega) ?_ | refine exP (by omega) ?_ | apply And.intro)))
theorem w35 (s:ByteArray) (k:Nat) (hk:k<(Z8 s).length) (hs:(Z8 s).length ≤ 1048576):Pu 35 [T s,I k] (· = .tup [Tk (tokS (Z8 s) k),I (Zk (Z8 s) k).2]):=by
 have hsz:s.size≤1048576:=by rw[Zu];exact hs
 have hT:tokS (Z8 s) k = _ := tokS_at hk
 have hN:(Zk (Z8 s) k).2 = _ := tokN_2 hk
 refine Pure.bor ?_
 by_cases hl:Ze (Z8 s)[k]=true
 ·rw[if_pos hl] at hT hN
  have hsp:=XR Y2 ((Z8 s).drop k)
  rw[List.length_drop] at hsp
  generalize hn:Zw Y2 ((Z8 s).drop k)=n at *
  rw[hT,hN]
  clear hT hN
  have fin:∀(i:Nat) (H:GH) (m:Int) (hi:i=k+n) (hm:m=((if n≤8 then n else 0:Nat):Int)),Bor H (.tup [.agg [I 1,I 0,I k,T ⟨(((Z8 s).take i).drop k).toArray⟩],I m]) (.tup [Tk ⟨1,0,k,⟨(((Z8 s).drop k).take n).toArray⟩⟩,I ((if n≤8 then n else 0:Nat):Int)]):=fun i H m hi hm=>by
   subst hi hm
   rw[Yv]
   exact .refl
  refine Z6 mxd i35 rfl (by simp) ?_;simp (maxSteps:=9^7) only[↓ S2,S2,Z7,↓reduceIte,reduceNe,reduceEqDiff,reduceCtorEq,reduceLeDiff,reduceAdd,reduceLT]
  ((try refine qI ?_);(repeat ((first|with_reducible refine qU ?_ | simp only[Z9]);try simp (maxSteps:=9^7) +contextual only[↓ S2,S2,↓reduceIte,reduceNe,reduceEqDiff,reduceCtorEq,reduceLeDiff,reduceAdd,reduceLT,VQ,]));(try simp +contextual (disch:=omega) only[Z2,]);(with_reducible repeat' (first|intro h|refine And.intro (by omega) ?_ | refine exP (by omega) ?_ | apply And.intro)))
  refine callS.eq (w69 _) ?_
  ((try refine qI ?_);(repeat ((first|with_reducible refine qU ?_ | simp only[Z9]);try simp (maxSteps:=9^7) +contextual only[↓ S2,S2,↓reduceIte,reduceNe,reduceEqDiff,reduceCtorEq,reduceLeDiff,reduceAdd,reduceLT,VQ,hl]));(try simp +contextual (disch:=omega) only[Z2,hl]);(with_reducible repeat' (first|intro h|refine And.intro (by omega) ?_ | refine exP (by omega) ?_ | apply And.intro)))
  rename_i r
  refine Yt mxd (ι:={ i:Nat // k≤i∧i≤(Z8 s).length ∧ i+Zw Y2 ((Z8 s).drop i)=k+n }) (fun i=>[(0,T s),(1,I k),(4,.raw 4),(6,.ptr r 4 0 0),(7,I i.1)]) (fun _ => [(r,4,[.agg [I 0,I 0,I k,T noS]])]) (fun i=>(Z8 s).length - i.1) ⟨k,by omega⟩ (by simp[E2]) rfl ?_
  rintro ⟨i,hi,hi2,hi3⟩
  rcases nL i (Z8 s).length with hlt|hge
  ·by_cases ha:Y2 (Z8 s)[i]=true
   ·have e1:=XQ hlt ha
    rcases aln_or ha with hq|⟨hq1,hq2⟩
    ·((try refine qI ?_);(repeat ((first|with_reducible refine qU ?_ | simp only[Z9]);try simp (maxSteps:=9^7) +contextual only[↓ S2,S2,↓reduceIte,reduceNe,reduceEqDiff,reduceCtorEq,reduceLeDiff,reduceAdd,reduceLT,VQ,hlt]));(try simp +contextual (disch:=omega) only[Z2,hlt]);(with_reducible repeat' (first|intro h|refine And.intro (by omega) ?_ | refine exP (by omega) ?_ | apply And.intro)))
     refine callS.eq (w69 _) ?_
     ((try refine qI ?_);(repeat ((first|with_reducible refine qU ?_ | simp only[Z9]);try simp (maxSteps:=9^7) +contextual only[↓ S2,S2,↓reduceIte,reduceNe,reduceEqDiff,reduceCtorEq,reduceLeDiff,reduceAdd,reduceLT,VQ,hq]));(try simp +contextual (disch:=omega) only[Z2,hq]);(with_reducible repeat' (first|intro h|refine And.intro (by omega) ?_ | refine exP (by omega) ?_ | apply And.intro)))
     exact nx ⟨i+1,by omega,by omega,by omega⟩ (by dsimp only;omega) (by simp[E2]) rfl
    ·((try refine qI ?_);(repeat ((first|with_reducible refine qU ?_ | simp only[Z9]);try simp (maxSteps:=9^7) +contextual only[↓ S2,S2,↓reduceIte,reduceNe,reduceEqDiff,reduceCtorEq,reduceLeDiff,reduceAdd,reduceLT,VQ,hlt]));(try simp +contextual (disch:=omega) only[Z2,hlt]);(with_reducible repeat' (first|intro h|refine And.intro (by omega) ?_ | refine exP (by omega) ?_ | apply And.intro)))
     refine callS.eq (w69 _) ?_
     ((try refine qI ?_);(repeat ((first|with_reducible refine qU ?_ | simp only[Z9]);try simp (maxSteps:=9^7) +contextual only[↓ S2,S2,↓reduceIte,reduceNe,reduceEqDiff,reduceCtorEq,reduceLeDiff,reduceAdd,reduceLT,VQ,hq1]));(try simp +contextual (disch:=omega) only[Z2,hq1]);(with_reducible repeat' (first|intro h|refine And.intro (by omega) ?_ | refine exP (by omega) ?_ | apply And.intro)))
     refine callS.eq (w70 _) ?_
     ((try refine qI ?_);(repeat ((first|with_reducible refine qU ?_ | simp only[Z9]);try simp (maxSteps:=9^7) +contextual only[↓ S2,S2,↓reduceIte,reduceNe,reduceEqDiff,reduceCtorEq,reduceLeDiff,reduceAdd,reduceLT,VQ,hq2]));(try simp +contextual (disch:=omega) only[Z2,hq2]);(with_reducible repeat' (first|intro h|refine And.intro (by omega) ?_ | refine exP (by omega) ?_ | apply And.intro)))
     exact nx ⟨i+1,by omega,by omega,by omega⟩ (by dsimp only;omega) (by simp[E2]) rfl
   ·have ha':Y2 (Z8 s)[i]=false:=by simpa using ha
    obtain ⟨hq1,hq2⟩:=aln_no ha'
    rw[spanL_stop hlt ha'] at hi3
    ((try refine qI ?_);(repeat ((first|with_reducible refine qU ?_ | simp only[Z9]);try simp (maxSteps:=9^7) +contextual only[↓ S2,S2,↓reduceIte,reduceNe,reduceEqDiff,reduceCtorEq,reduceLeDiff,reduceAdd,reduceLT,VQ,hlt]));(try simp +contextual (disch:=omega) only[Z2,hlt]);(with_reducible repeat' (first|intro h|refine And.intro (by omega) ?_ | refine exP (by omega) ?_ | apply And.intro)))
    refine callS.eq (w69 _) ?_
    ((try refine qI ?_);(repeat ((first|with_reducible refine qU ?_ | simp only[Z9]);try simp (maxSteps:=9^7) +contextual only[↓ S2,S2,↓reduceIte,reduceNe,reduceEqDiff,reduceCtorEq,reduceLeDiff,reduceAdd,reduceLT,VQ,hq1]));(try simp +contextual (disch:=omega) only[Z2,hq1]);(with_reducible repeat' (first|intro h|refine And.intro (by omega) ?_ | refine exP (by omega) ?_ | apply And.intro)))
    refine callS.eq (w70 _) ?_
    ((try refine qI ?_);(repeat ((first|with_reducible refine qU ?_ | simp only[Z9]);try simp (maxSteps:=9^7) +contextual only[↓ S2,S2,↓reduceIte,reduceNe,reduceEqDiff,reduceCtorEq,reduceLeDiff,reduceAdd,reduceLT,VQ,hq2]));(try simp +contextual (disch:=omega) only[Z2,hq2]);(with_reducible repeat' (first|intro h|refine And.intro (by omega) ?_ | refine exP (by omega) ?_ | apply And.intro)))
    all_goals exact fin i _ _ hi3 (by split<;>omega)
  ·rw[spanL_end hge] at hi3
   have hge':¬i<(Z8 s).length := by omega
   ((try refine qI ?_);(repeat ((first|with_reducible refine qU ?_ | simp only[Z9]);try simp (maxSteps:=9^7) +contextual only[↓ S2,S2,↓reduceIte,reduceNe,reduceEqDiff,reduceCtorEq,reduceLeDiff,reduceAdd,reduceLT,VQ,hge']));(try simp +contextual (disch:=omega) only[Z2,hge']);(with_reducible repeat' (first|intro h|refine And.intro (by omega) ?_ | refine exP (by omega) ?_ | apply And.intro)))
   all_goals try exact oF
   all_goals exact fin i _ _ hi3 (by split<;>omega)
 ·have hl':Ze (Z8 s)[k]=false:=by simpa using hl
  rw[if_neg hl] at hT hN
  by_cases hd:ZI (Z8 s)[k]=true
  ·rw[if_pos hd] at hT hN
   have hsp:=XR ZI ((Z8 s).drop k)
   have hsd:=spanL_digs ((Z8 s).drop k)
   have hs1:=XQ hk hd
   rw[List.length_drop] at hsp
   generalize hn:Zw ZI ((Z8 s).drop k)=n at *
   rw[hT,hN]
   clear hT hN
   generalize hw:(((Z8 s).drop k).take n)=w at *
   have fin:∀(H:GH) (m:Int) (x:Nat) (hm:m=(x:Int)),Bor H (.tup [.agg [I 2,I (Yz w),I k,T noS],I m]) (.tup [Tk ⟨2,Yz w,k,noS⟩,I (x:Int)]):=fun H m x hm=>by
    subst hm
    exact .refl
   have hwl:w.length=n:=by rw[←hw,List.length_take,List.length_drop];omega
   have hpi:=w71 ⟨w.toArray⟩ hsd (by show 1≤w.length;omega) (by show w.length≤1048576;omega)
   have e0:Z8 ⟨w.toArray⟩=w:=rfl
   rw[e0] at hpi
   refine Z6 mxd i35 rfl (by simp) ?_;simp (maxSteps:=9^7) only[↓ S2,S2,Z7,↓reduceIte,reduceNe,reduceEqDiff,reduceCtorEq,reduceLeDiff,reduceAdd,reduceLT]
   ((try refine qI ?_);(repeat ((first|with_reducible refine qU ?_ | simp only[Z9]);try simp (maxSteps:=9^7) +contextual only[↓ S2,S2,↓reduceIte,reduceNe,reduceEqDiff,reduceCtorEq,reduceLeDiff,reduceAdd,reduceLT,VQ,]));(try simp +contextual (disch:=omega) only[Z2,]);(with_reducible repeat' (first|intro h|refine And.intro (by omega) ?_ | refine exP (by omega) ?_ | apply And.intro)))
   refine callS.eq (w69 _) ?_
   ((try refine qI ?_);(repeat ((first|with_reducible refine qU ?_ | simp only[Z9]);try simp (maxSteps:=9^7) +contextual only[↓ S2,S2,↓reduceIte,reduceNe,reduceEqDiff,reduceCtorEq,reduceLeDiff,reduceAdd,reduceLT,VQ,hl']));(try simp +contextual (disch:=omega) only[Z2,hl']);(with_reducible repeat' (first|intro h|refine And.intro (by omega) ?_ | refine exP (by omega) ?_ | apply And.intro)))
   refine callS.eq (w70 _) ?_
   ((try refine qI ?_);(repeat ((first|with_reducible refine qU ?_ | simp only[Z9]);try simp (maxSteps:=9^7) +contextual only[↓ S2,S2,↓reduceIte,reduceNe,reduceEqDiff,reduceCtorEq,reduceLeDiff,reduceAdd,reduceLT,VQ,hd]));(try simp +contextual (disch:=omega) only[Z2,hd]);(with_reducible repeat' (first|intro h|refine And.intro (by omega) ?_ | refine exP (by omega) ?_ | apply And.intro)))
   rename_i r
   refine Yt mxd (ι:={ i:Nat // k≤i∧i≤(Z8 s).length ∧ i+Zw ZI ((Z8 s).drop i)=k+n }) (fun i=>[(0,T s),(1,I k),(4,.raw 4),(6,.ptr r 4 0 0),(7,I i.1)]) (fun _ => [(r,4,[.agg [I 0,I 0,I k,T noS]])]) (fun i=>(Z8 s).length - i.1) ⟨k,by omega⟩ (by simp[E2]) rfl ?_
   rintro ⟨i,hi,hi2,hi3⟩
   rcases nL i (Z8 s).length with hlt|hge
   ·by_cases ha:ZI (Z8 s)[i]=true
    ·have e1:=XQ hlt ha
     ((try refine qI ?_);(repeat ((first|with_reducible refine qU ?_ | simp only[Z9]);try simp (maxSteps:=9^7) +contextual only[↓ S2,S2,↓reduceIte,reduceNe,reduceEqDiff,reduceCtorEq,reduceLeDiff,reduceAdd,reduceLT,VQ,hlt]));(try simp +contextual (disch:=omega) only[Z2,hlt]);(with_reducible repeat' (first|intro h|refine And.intro (by omega) ?_ | refine exP (by omega) ?_ | apply And.intro)))
     refine callS.eq (w70 _) ?_
     ((try refine qI ?_);(repeat ((first|with_reducible refine qU ?_ | simp only[Z9]);try simp (maxSteps:=9^7) +contextual only[↓ S2,S2,↓reduceIte,reduceNe,reduceEqDiff,reduceCtorEq,reduceLeDiff,reduceAdd,reduceLT,VQ,ha]));(try simp +contextual (disch:=omega) only[Z2,ha]);(with_reducible repeat' (first|intro h|refine And.intro (by omega) ?_ | refine exP (by omega) ?_ | apply And.intro)))
     exact nx ⟨i+1,by omega,by omega,by omega⟩ (by dsimp only;omega) (by simp[E2]) rfl
    ·have ha':ZI (Z8 s)[i]=false:=by simpa using ha
     rw[spanL_stop hlt ha'] at hi3
     obtain rfl:i=k+n:=hi3
     have hw2:(((Z8 s).take (k+n)).drop k)=w:=by rw[Yv,hw]
     ((try refine qI ?_);(repeat ((first|with_reducible refine qU ?_ | simp only[Z9]);try simp (maxSteps:=9^7) +contextual only[↓ S2,S2,↓reduceIte,reduceNe,reduceEqDiff,reduceCtorEq,reduceLeDiff,reduceAdd,reduceLT,VQ,hlt]));(try simp +contextual (disch:=omega) only[Z2,hlt]);(with_reducible repeat' (first|intro h|refine And.intro (by omega) ?_ | refine exP (by omega) ?_ | apply And.intro)))
     refine callS.eq (w70 _) ?_
     ((try refine qI ?_);(repeat ((first|with_reducible refine qU ?_ | simp only[Z9]);try simp (maxSteps:=9^7) +contextual only[↓ S2,S2,↓reduceIte,reduceNe,reduceEqDiff,reduceCtorEq,reduceLeDiff,reduceAdd,reduceLT,VQ,ha']));(try simp +contextual (disch:=omega) only[Z2,ha']);(with_reducible repeat' (first|intro h|refine And.intro (by omega) ?_ | refine exP (by omega) ?_ | apply And.intro)))
     rw[hw2]
     refine callS.eq hpi ?_
     by_cases hB:redB w=true
     ·by_cases h6:Yz w≤1000000
      ·have h6':¬1000000<Yz w:=by omega
       rw[if_pos (show redB w=true∧Yz w≤1000000 from ⟨hB,h6⟩)]
       ((try refine qI ?_);(repeat ((first|with_reducible refine qU ?_ | simp only[Z9]);try simp (maxSteps:=9^7) +contextual only[↓ S2,S2,↓reduceIte,reduceNe,reduceEqDiff,reduceCtorEq,reduceLeDiff,reduceAdd,reduceLT,VQ,hB,h6']));(try simp +contextual (disch:=omega) only[Z2,hB,h6']);(with_reducible repeat' (first|intro h|refine And.intro (by omega) ?_ | refine exP (by omega) ?_ | apply And.intro)))
       all_goals exact fin _ _ _ (by omega)
      ·have h6':1000000<Yz w:=by omega
       rw[if_neg (show ¬(redB w=true∧Yz w≤1000000) from fun h=>h6 h.2)]
       ((try refine qI ?_);(repeat ((first|with_reducible refine qU ?_ | simp only[Z9]);try simp (maxSteps:=9^7) +contextual only[↓ S2,S2,↓reduceIte,reduceNe,reduceEqDiff,reduceCtorEq,reduceLeDiff,reduceAdd,reduceLT,VQ,hB,h6']));(try simp +contextual (disch:=omega) only[Z2,hB,h6']);(with_reducible repeat' (first|intro h|refine And.intro (by omega) ?_ | refine exP (by omega) ?_ | apply And.intro)))
       all_goals exact fin _ _ 0 rfl
     ·have hB':redB w=false:=by simpa using hB
      rw[if_neg (show ¬(redB w=true∧Yz w≤1000000) from fun h=>hB h.1)]
      ((try refine qI ?_);(repeat ((first|with_reducible refine qU ?_ | simp only[Z9]);try simp (maxSteps:=9^7) +contextual only[↓ S2,S2,↓reduceIte,reduceNe,reduceEqDiff,reduceCtorEq,reduceLeDiff,reduceAdd,reduceLT,VQ,hB']));(try simp +contextual (disch:=omega) only[Z2,hB']);(with_reducible repeat' (first|intro h|refine And.intro (by omega) ?_ | refine exP (by omega) ?_ | apply And.intro)))
      all_goals exact fin _ _ 0 rfl
   ·rw[spanL_end hge] at hi3
    obtain rfl:i=k+n:=hi3
    have hge':¬k+n<(Z8 s).length := by omega
    have hw2:(((Z8 s).take (k+n)).drop k)=w:=by rw[Yv,hw]
    ((try refine qI ?_);(repeat ((first|with_reducible refine qU ?_ | simp only[Z9]);try simp (maxSteps:=9^7) +contextual only[↓ S2,S2,↓reduceIte,reduceNe,reduceEqDiff,reduceCtorEq,reduceLeDiff,reduceAdd,reduceLT,VQ,hge']));(try simp +contextual (disch:=omega) only[Z2,hge']);(with_reducible repeat' (first|intro h|refine And.intro (by omega) ?_ | refine exP (by omega) ?_ | apply And.intro)))
    all_goals try exact oF
    rw[hw2]
    refine callS.eq hpi ?_
    by_cases hB:redB w=true
    ·by_cases h6:Yz w≤1000000
     ·have h6':¬1000000<Yz w:=by omega
      rw[if_pos (show redB w=true∧Yz w≤1000000 from ⟨hB,h6⟩)]
      ((try refine qI ?_);(repeat ((first|with_reducible refine qU ?_ | simp only[Z9]);try simp (maxSteps:=9^7) +contextual only[↓ S2,S2,↓reduceIte,reduceNe,reduceEqDiff,reduceCtorEq,reduceLeDiff,reduceAdd,reduceLT,VQ,hB,h6']));(try simp +contextual (disch:=omega) only[Z2,hB,h6']);(with_reducible repeat' (first|intro h|refine And.intro (by omega) ?_ | refine exP (by omega) ?_ | apply And.intro)))
      all_goals exact fin _ _ _ (by omega)
     ·have h6':1000000<Yz w:=by omega
      rw[if_neg (show ¬(redB w=true∧Yz w≤1000000) from fun h=>h6 h.2)]
      ((try refine qI ?_);(repeat ((first|with_reducible refine qU ?_ | simp only[Z9]);try simp (maxSteps:=9^7) +contextual only[↓ S2,S2,↓reduceIte,reduceNe,reduceEqDiff,reduceCtorEq,reduceLeDiff,reduceAdd,reduceLT,VQ,hB,h6']));(try simp +contextual (disch:=omega) only[Z2,hB,h6']);(with_reducible repeat' (first|intro h|refine And.intro (by omega) ?_ | refine exP (by omega) ?_ | apply And.intro)))
      all_goals exact fin _ _ 0 rfl
    ·have hB':redB w=false:=by simpa using hB
     rw[if_neg (show ¬(redB w=true∧Yz w≤1000000) from fun h=>hB h.1)]
     ((try refine qI ?_);(repeat ((first|with_reducible refine qU ?_ | simp only[Z9]);try simp (maxSteps:=9^7) +contextual only[↓ S2,S2,↓reduceIte,reduceNe,reduceEqDiff,reduceCtorEq,reduceLeDiff,reduceAdd,reduceLT,VQ,hB']));(try simp +contextual (disch:=omega) only[Z2,hB']);(with_reducible repeat' (first|intro h|refine And.intro (by omega) ?_ | refine exP (by omega) ?_ | apply And.intro)))
     all_goals exact fin _ _ 0 rfl
  ·have hd':ZI (Z8 s)[k]=false:=by simpa using hd
   rw[if_neg hd] at hT hN
   rw[hT,hN]
   have hle:=sybN_le hk
   refine Z6 mxd i35 rfl (by simp) ?_;simp (maxSteps:=9^7) only[↓ S2,S2,Z7,↓reduceIte,reduceNe,reduceEqDiff,reduceCtorEq,reduceLeDiff,reduceAdd,reduceLT]
   ((try refine qI ?_);(repeat ((first|with_reducible refine qU ?_ | simp only[Z9]);try simp (maxSteps:=9^7) +contextual only[↓ S2,S2,↓reduceIte,reduceNe,reduceEqDiff,reduceCtorEq,reduceLeDiff,reduceAdd,reduceLT,VQ,]));(try simp +contextual (disch:=omega) only[Z2,]);(with_reducible repeat' (first|intro h|refine And.intro (by omega) ?_ | refine exP (by omega) ?_ | apply And.intro)))
   refine callS.eq (w69 _) ?_
   ((try refine qI ?_);(repeat ((first|with_reducible refine qU ?_ | simp only[Z9]);try simp (maxSteps:=9^7) +contextual only[↓ S2,S2,↓reduceIte,reduceNe,reduceEqDiff,reduceCtorEq,reduceLeDiff,reduceAdd,reduceLT,VQ,hl']));(try simp +contextual (disch:=omega) only[Z2,hl']);(with_reducible repeat' (first|intro h|refine And.intro (by omega) ?_ | refine exP (by omega) ?_ | apply And.intro)))
   refine callS.eq (w70 _) ?_
   ((try refine qI ?_);(repeat ((first|with_reducible refine qU ?_ | simp only[Z9]);try simp (maxSteps:=9^7) +contextual only[↓ S2,S2,↓reduceIte,reduceNe,reduceEqDiff,reduceCtorEq,reduceLeDiff,reduceAdd,reduceLT,VQ,hd']));(try simp +contextual (disch:=omega) only[Z2,hd']);(with_reducible repeat' (first|intro h|refine And.intro (by omega) ?_ | refine exP (by omega) ?_ | apply And.intro)))
   refine callS.eq (w72 s k hk hs) ?_
   have hkm:((k:Int)+(sybN (Z8 s) k:Int)).toNat = k+sybN (Z8 s) k:=by omega
   have hks:(k:Int)+(sybN (Z8 s) k:Int)-k=(sybN (Z8 s) k:Int):=by omega
   ((try refine qI ?_);(repeat ((first|with_reducible refine qU ?_ | simp only[Z9]);try simp (maxSteps:=9^7) +contextual only[↓ S2,S2,↓reduceIte,reduceNe,reduceEqDiff,reduceCtorEq,reduceLeDiff,reduceAdd,reduceLT,VQ,hkm,hks]));(try simp +contextual (disch:=omega) only[Z2,hkm,hks]);(with_reducible repeat' (first|intro h|refine And.intro (by omega) ?_ | refine exP (by omega) ?_ | apply And.intro)))
   all_goals try exact oF
   all_goals (rw[Yv];exact .refl)
theorem w14 (s:ByteArray) (hs:(Z8 s).length ≤ 1048576):Pu 14 [T s] (· = .tup [TkS (ZA (Z8 s)).1,I (ZA (Z8 s)).2]):=by
 have hsz:s.size≤1048576:=by rw[Zu];exact hs
 refine Pure.bor ?_
 by_cases hl:160<(Z8 s).length
 ·have e:ZA (Z8 s)=([],160):=by unfold ZA;rw[if_pos hl]
  rw[e]
  refine Z6 mxd i14 rfl (by simp) ?_;simp (maxSteps:=9^7) only[↓ S2,S2,Z7,↓reduceIte,reduceNe,reduceEqDiff,reduceCtorEq,reduceLeDiff,reduceAdd,reduceLT]
  ((try refine qI ?_);(repeat ((first|with_reducible refine qU ?_ | simp only[Z9]);try simp (maxSteps:=9^7) +contextual only[↓ S2,S2,↓reduceIte,reduceNe,reduceEqDiff,reduceCtorEq,reduceLeDiff,reduceAdd,reduceLT,VQ,hl]));(try simp +contextual (disch:=omega) only[Z2,hl]);(with_reducible repeat' (first|intro h|refine And.intro (by omega) ?_ | refine exP (by omega) ?_ | apply And.intro)))
  all_goals try exact oF
  rename_i r
  exact .tup (.cons (Bor.seenT (l:=[]) Z4 rfl) (.cons .refl .nil))
 ·have e:ZA (Z8 s)=Y6 (Z8 s) ((Z8 s).length + 1) 0 []:=by unfold ZA;rw[if_neg hl]
  refine Z6 mxd i14 rfl (by simp) ?_;simp (maxSteps:=9^7) only[↓ S2,S2,Z7,↓reduceIte,reduceNe,reduceEqDiff,reduceCtorEq,reduceLeDiff,reduceAdd,reduceLT]
  ((try refine qI ?_);(repeat ((first|with_reducible refine qU ?_ | simp only[Z9]);try simp (maxSteps:=9^7) +contextual only[↓ S2,S2,↓reduceIte,reduceNe,reduceEqDiff,reduceCtorEq,reduceLeDiff,reduceAdd,reduceLT,VQ,hl]));(try simp +contextual (disch:=omega) only[Z2,hl]);(with_reducible repeat' (first|intro h|refine And.intro (by omega) ?_ | refine exP (by omega) ?_ | apply And.intro)))
  all_goals try exact oF
  rename_i r
  refine ploop mxd (ι:={ x:Nat×Nat×List Go.Gh.Tok // x.2.1≤(Z8 s).length ∧ x.2.2.length≤80∧Y6 (Z8 s) ((Z8 s).length + 1) x.2.1 x.2.2=ZA (Z8 s) }) (fun x=>[(0,T s),(4,.own x.1.1 4 0 x.1.2.2.length),(5,I x.1.2.1)]) (fun x=>[(x.1.1,4,x.1.2.2.map Tk)]) (fun x=>(Z8 s).length - x.1.2.1) ⟨(r,0,[]),by simp[e]⟩ (by simp[E2]) (by simp[subH,Z3,names]) ?_
  rintro ⟨⟨q,i,out⟩,hi,ho,ht⟩ hn
  dsimp only at hi ho ht hn ⊢
  rw[Ya] at ht
  rcases nL i (Z8 s).length with hlt|hge
  ·rw[dif_pos hlt] at ht
   by_cases h32:(Z8 s)[i]=32
   ·have h32':((Z8 s)[i].toNat : Int)=32:=by rw[h32];rfl
    rw[if_pos h32] at ht
    ((try refine qI ?_);(repeat ((first|with_reducible refine qU ?_ | simp only[Z9]);try simp (maxSteps:=9^7) +contextual only[↓ S2,S2,↓reduceIte,reduceNe,reduceEqDiff,reduceCtorEq,reduceLeDiff,reduceAdd,reduceLT,VQ,hlt,h32']));(try simp +contextual (disch:=omega) only[Z2,hlt,h32']);(with_reducible repeat' (first|intro h|refine And.intro (by omega) ?_ | refine exP (by omega) ?_ | apply And.intro)))
    refine px ⟨(q,i+1,out),by dsimp only;omega,ho,?_⟩ (by dsimp only;omega) (by simp[E2]) (by simp[subH,Z3,names])
    dsimp only
    rw[←ht]
    exact tokL_fuel _ _ _ _ (by omega) (by omega) (by omega)
   ·have h32':¬((Z8 s)[i].toNat : Int)=32:=fun h=>h32 ((u8_eq _ _).2 h)
    rw[if_neg h32] at ht
    have hle:=tokN_le (l:=Z8 s) (k:=i) hi
    by_cases h0:(Zk (Z8 s) i).2 = 0
    ·rw[if_pos (.inl h0)] at ht
     ((try refine qI ?_);(repeat ((first|with_reducible refine qU ?_ | simp only[Z9]);try simp (maxSteps:=9^7) +contextual only[↓ S2,S2,↓reduceIte,reduceNe,reduceEqDiff,reduceCtorEq,reduceLeDiff,reduceAdd,reduceLT,VQ,hlt,h32']));(try simp +contextual (disch:=omega) only[Z2,hlt,h32']);(with_reducible repeat' (first|intro h|refine And.intro (by omega) ?_ | refine exP (by omega) ?_ | apply And.intro)))
     refine callS.eq (w35 s i hlt hs) ?_
     ((try refine qI ?_);(repeat ((first|with_reducible refine qU ?_ | simp only[Z9]);try simp (maxSteps:=9^7) +contextual only[↓ S2,S2,↓reduceIte,reduceNe,reduceEqDiff,reduceCtorEq,reduceLeDiff,reduceAdd,reduceLT,VQ,h0]));(try simp +contextual (disch:=omega) only[Z2,h0]);(with_reducible repeat' (first|intro h|refine And.intro (by omega) ?_ | refine exP (by omega) ?_ | apply And.intro)))
     all_goals try exact oF
     all_goals (rw[←ht];exact .tup (.cons (Bor.seenT (l:=[]) Z4 rfl) (.cons .refl .nil)))
    ·have h0':¬((Zk (Z8 s) i).2 : Int)=0:=by omega
     by_cases h8:out.length=80
     ·have h8':((out.length:Int)=80):=by omega
      rw[if_pos (.inr h8)] at ht
      ((try refine qI ?_);(repeat ((first|with_reducible refine qU ?_ | simp only[Z9]);try simp (maxSteps:=9^7) +contextual only[↓ S2,S2,↓reduceIte,reduceNe,reduceEqDiff,reduceCtorEq,reduceLeDiff,reduceAdd,reduceLT,VQ,hlt,h32']));(try simp +contextual (disch:=omega) only[Z2,hlt,h32']);(with_reducible repeat' (first|intro h|refine And.intro (by omega) ?_ | refine exP (by omega) ?_ | apply And.intro)))
      refine callS.eq (w35 s i hlt hs) ?_
      ((try refine qI ?_);(repeat ((first|with_reducible refine qU ?_ | simp only[Z9]);try simp (maxSteps:=9^7) +contextual only[↓ S2,S2,↓reduceIte,reduceNe,reduceEqDiff,reduceCtorEq,reduceLeDiff,reduceAdd,reduceLT,VQ,h0',h8']));(try simp +contextual (disch:=omega) only[Z2,h0',h8']);(with_reducible repeat' (first|intro h|refine And.intro (by omega) ?_ | refine exP (by omega) ?_ | apply And.intro)))
      all_goals try exact oF
      all_goals (rw[←ht];exact .tup (.cons (Bor.seenT (l:=[]) Z4 rfl) (.cons .refl .nil)))
     ·have h8':¬((out.length:Int)=80):=by omega
      rw[if_neg (by intro h;rcases h with h|h<;>contradiction),←tokS_N hlt h0] at ht
      ((try refine qI ?_);(repeat ((first|with_reducible refine qU ?_ | simp only[Z9]);try simp (maxSteps:=9^7) +contextual only[↓ S2,S2,↓reduceIte,reduceNe,reduceEqDiff,reduceCtorEq,reduceLeDiff,reduceAdd,reduceLT,VQ,hlt,h32']));(try simp +contextual (disch:=omega) only[Z2,hlt,h32']);(with_reducible repeat' (first|intro h|refine And.intro (by omega) ?_ | refine exP (by omega) ?_ | apply And.intro)))
      refine callS.eq (w35 s i hlt hs) ?_
      ((try refine qI ?_);(repeat ((first|with_reducible refine qU ?_ | simp only[Z9]);try simp (maxSteps:=9^7) +contextual only[↓ S2,S2,↓reduceIte,reduceNe,reduceEqDiff,reduceCtorEq,reduceLeDiff,reduceAdd,reduceLT,VQ,h0',h8',List.length_map]));(try simp +contextual (disch:=omega) only[Z2,h0',h8',List.length_map]);(with_reducible repeat' (first|intro h|refine And.intro (by omega) ?_ | refine exP (by omega) ?_ | apply And.intro)))
      all_goals try exact oF
      all_goals first
       | omega
       | skip
      rename_i r1 r2
      refine px ⟨(r2,i+(Zk (Z8 s) i).2,out++[tokS (Z8 s) i]),by dsimp only;omega,by simp;omega,?_⟩ (by dsimp only;omega) (by simp[E2]) (by simp[subH,Z3,names,List.take_of_length_le])
      dsimp only
      rw[←ht]
      exact tokL_fuel _ _ _ _ (by omega) (by omega) (by omega)
  ·rw[dif_neg (by omega)] at ht
   have hge':¬i<(Z8 s).length := by omega
   ((try refine qI ?_);(repeat ((first|with_reducible refine qU ?_ | simp only[Z9]);try simp (maxSteps:=9^7) +contextual only[↓ S2,S2,↓reduceIte,reduceNe,reduceEqDiff,reduceCtorEq,reduceLeDiff,reduceAdd,reduceLT,VQ,hge']));(try simp +contextual (disch:=omega) only[Z2,hge']);(with_reducible repeat' (first|intro h|refine And.intro (by omega) ?_ | refine exP (by omega) ?_ | apply And.intro)))
   all_goals try exact oF
   all_goals (rw[←ht];exact .tup (.cons (Bor.seenT Z4 rfl) (.cons .refl .nil)))
end Go.Proofs.YtkmedfejmndmjaaGreatDoor
namespace Go.Proofs.YtkmedfejmndmjaaGreatDoor
open Go.Gh
open Nat (reduceEqDiff reduceLeDiff reduceAdd reduceLT)
open Int (reduceNe)
open Go.Shelf Go.RowKit Go.Lib Go.Sort
theorem p120 (s:ByteArray) (hd:∀c∈Z8 s,ZI c=true) (hne:Z8 s≠[]) (hs:(Z8 s).length ≤ 1048576):PureT Tryz.prog (tabE 1 3) 120 [T s] (atoR (Z8 s) (Tryz.atoiL_ren.t 168)):=by
 have eg:∀args w,(callFunc 120 args).run Tryz.prog w = .ok (.enter 120 args) w:=enters_of Tryz.func120 (by kernel_rfl) rfl
 have hsz:s.size≤1048576:=by rw[Zu];exact hs
 refine lib_ok (fun w D vs hm hn hml=> ?_) (tabE_ok 1 3) eg
 obtain rfl:vs=[.string s]:=by
  simp only[ML,MV] at hml
  obtain ⟨v,vs',F1,F2,rfl,_,⟨rfl,_⟩,rfl,_⟩:=hml
  rfl
 obtain ⟨h1,h2⟩:=atoi_digs hd hne
 by_cases hv:Y8 (Z8 s)<9223372036854775808
 ·refine (Any.strconv_Atoi_ok Tryz.atoiL s (by omega) _ (h1 hv) w).mono ?_
  rintro e w' ⟨rfl,hw⟩
  refine ⟨_,.tup [I (Y8 (Z8 s)),.val .nilIface],rfl,.inl ⟨hv,rfl⟩,fun D'=>MV.tup2 _ _,?_⟩
  rcases hw with rfl|⟨t,rfl⟩
  ·exact Below.refl _ _
  ·exact Lib.bytesWorld_below _ _ _
 ·obtain ⟨te,pe,hc⟩:=HM.isE (m:=3) hm hn (by simp[tabE])
  refine (Any.strconv_Atoi_range Tryz.atoiL s (by omega) (h2 hv) _ w hc (.inr ⟨te,pe,rfl⟩)).mono ?_
  rintro e w' ⟨M,rfl,_,_,hb⟩
  exact ⟨_,.tup [I _,.val (.iface _ _)],rfl,.inr ⟨hv,_,_,rfl⟩,fun D'=>MV.tup2 _ _,hb⟩
theorem Tryz.inE:∀x∈tab10 1,x∈tabE 1 3:=fun x hx=>by simp only[tab10,List.mem_singleton] at hx;subst hx;simp[tabE]
theorem p98 (s:ByteArray) (hd:∀c∈Z8 s,ZI c=true) (hne:Z8 s≠[]) (hs:(Z8 s).length ≤ 1048576):PureT Tryz.prog (tabE 1 3) 98 [T s,I 0,I 1000000] (· = .tup [I ((numT (Z8 s)).getD 0),B (numT (Z8 s)).isSome]):=by
 have hb:=(valD_bd (Z8 s) hd).1
 refine Z6 mxd i98 rfl (by simp) ?_;simp (maxSteps:=9^7) only[↓ S2,S2,Z7,↓reduceIte,reduceNe,reduceEqDiff,reduceCtorEq,reduceLeDiff,reduceAdd,reduceLT]
 ((try refine qI ?_);(repeat ((first|with_reducible refine qU ?_ | simp only[Z9]);try simp (maxSteps:=9^7) +contextual only[↓ S2,S2,↓reduceIte,reduceNe,reduceEqDiff,reduceCtorEq,reduceLeDiff,reduceAdd,reduceLT,VQ,]));(try simp +contextual (disch:=omega) only[Z2,]);(with_reducible repeat' (first|intro h|refine And.intro (by omega) ?_ | refine exP (by omega) ?_ | apply And.intro)))
 refine callS.of ((p120 s hd hne hs).frame (YM (by decide)) (fun _ h=>h)) ?_
 rintro g H' ⟨hR,rfl⟩ hn
 rcases hR with ⟨hv,rfl⟩|⟨hv,n,p,rfl⟩
 ·by_cases h6:Y8 (Z8 s)≤1000000
  ·have h6':(0≤Y8 (Z8 s)∧Y8 (Z8 s)≤1000000):=⟨hb,h6⟩
   have hq:=p54 (Y8 (Z8 s)) (by omega) (by omega)
   by_cases he:itoa (Y8 (Z8 s))=Z8 s
   ·have e:numT (Z8 s)=some (Y8 (Z8 s)):=by unfold numT;rw[if_pos ⟨he,h6⟩]
    rw[e]
    rw[he] at hq
    ((try refine qI ?_);(repeat ((first|with_reducible refine qU ?_ | simp only[Z9]);try simp (maxSteps:=9^7) +contextual only[↓ S2,S2,↓reduceIte,reduceNe,reduceEqDiff,reduceCtorEq,reduceLeDiff,reduceAdd,reduceLT,VQ,]));(try simp +contextual (disch:=omega) only[Z2,]);(with_reducible repeat' (first|intro h|refine And.intro (by omega) ?_ | refine exP (by omega) ?_ | apply And.intro)))
    refine callS.eq (w84 _ _ _) ?_
    ((try refine qI ?_);(repeat ((first|with_reducible refine qU ?_ | simp only[Z9]);try simp (maxSteps:=9^7) +contextual only[↓ S2,S2,↓reduceIte,reduceNe,reduceEqDiff,reduceCtorEq,reduceLeDiff,reduceAdd,reduceLT,VQ,h6']));(try simp +contextual (disch:=omega) only[Z2,h6']);(with_reducible repeat' (first|intro h|refine And.intro (by omega) ?_ | refine exP (by omega) ?_ | apply And.intro)))
    refine callS.eqT hq (Zf 1) Tryz.inE ?_
    ((try refine qI ?_);(repeat ((first|with_reducible refine qU ?_ | simp only[Z9]);try simp (maxSteps:=9^7) +contextual only[↓ S2,S2,↓reduceIte,reduceNe,reduceEqDiff,reduceCtorEq,reduceLeDiff,reduceAdd,reduceLT,VQ,]));(try simp +contextual (disch:=omega) only[Z2,]);(with_reducible repeat' (first|intro h|refine And.intro (by omega) ?_ | refine exP (by omega) ?_ | apply And.intro)))
    rfl
   ·have e:numT (Z8 s)=none:=by unfold numT;rw[if_neg (fun h=>he h.1)]
    have hne:¬(⟨(itoa (Y8 (Z8 s))).toArray⟩:ByteArray)=s:=fun h=>he (congrArg Z8 h)
    rw[e]
    ((try refine qI ?_);(repeat ((first|with_reducible refine qU ?_ | simp only[Z9]);try simp (maxSteps:=9^7) +contextual only[↓ S2,S2,↓reduceIte,reduceNe,reduceEqDiff,reduceCtorEq,reduceLeDiff,reduceAdd,reduceLT,VQ,]));(try simp +contextual (disch:=omega) only[Z2,]);(with_reducible repeat' (first|intro h|refine And.intro (by omega) ?_ | refine exP (by omega) ?_ | apply And.intro)))
    refine callS.eq (w84 _ _ _) ?_
    ((try refine qI ?_);(repeat ((first|with_reducible refine qU ?_ | simp only[Z9]);try simp (maxSteps:=9^7) +contextual only[↓ S2,S2,↓reduceIte,reduceNe,reduceEqDiff,reduceCtorEq,reduceLeDiff,reduceAdd,reduceLT,VQ,h6']));(try simp +contextual (disch:=omega) only[Z2,h6']);(with_reducible repeat' (first|intro h|refine And.intro (by omega) ?_ | refine exP (by omega) ?_ | apply And.intro)))
    refine callS.eqT hq (Zf 1) Tryz.inE ?_
    ((try refine qI ?_);(repeat ((first|with_reducible refine qU ?_ | simp only[Z9]);try simp (maxSteps:=9^7) +contextual only[↓ S2,S2,↓reduceIte,reduceNe,reduceEqDiff,reduceCtorEq,reduceLeDiff,reduceAdd,reduceLT,VQ,hne]));(try simp +contextual (disch:=omega) only[Z2,hne]);(with_reducible repeat' (first|intro h|refine And.intro (by omega) ?_ | refine exP (by omega) ?_ | apply And.intro)))
    rfl
  ·have h6':¬(0≤Y8 (Z8 s)∧Y8 (Z8 s)≤1000000):=fun h=>h6 h.2
   have e:numT (Z8 s)=none:=by unfold numT;rw[if_neg (fun h=>h6 h.2)]
   rw[e]
   ((try refine qI ?_);(repeat ((first|with_reducible refine qU ?_ | simp only[Z9]);try simp (maxSteps:=9^7) +contextual only[↓ S2,S2,↓reduceIte,reduceNe,reduceEqDiff,reduceCtorEq,reduceLeDiff,reduceAdd,reduceLT,VQ,]));(try simp +contextual (disch:=omega) only[Z2,]);(with_reducible repeat' (first|intro h|refine And.intro (by omega) ?_ | refine exP (by omega) ?_ | apply And.intro)))
   refine callS.eq (w84 _ _ _) ?_
   ((try refine qI ?_);(repeat ((first|with_reducible refine qU ?_ | simp only[Z9]);try simp (maxSteps:=9^7) +contextual only[↓ S2,S2,↓reduceIte,reduceNe,reduceEqDiff,reduceCtorEq,reduceLeDiff,reduceAdd,reduceLT,VQ,h6']));(try simp +contextual (disch:=omega) only[Z2,h6']);(with_reducible repeat' (first|intro h|refine And.intro (by omega) ?_ | refine exP (by omega) ?_ | apply And.intro)))
   rfl
 ·have e:numT (Z8 s)=none:=by unfold numT;rw[if_neg (fun h=>hv (by have:=h.2;omega))]
  rw[e]
  ((try refine qI ?_);(repeat ((first|with_reducible refine qU ?_ | simp only[Z9]);try simp (maxSteps:=9^7) +contextual only[↓ S2,S2,↓reduceIte,reduceNe,reduceEqDiff,reduceCtorEq,reduceLeDiff,reduceAdd,reduceLT,VQ,]));(try simp +contextual (disch:=omega) only[Z2,]);(with_reducible repeat' (first|intro h|refine And.intro (by omega) ?_ | refine exP (by omega) ?_ | apply And.intro)))
  rfl
theorem w121 (s p:ByteArray) (hs:(Z8 s).length ≤ 1048576) (hp:(Z8 p).length ≤ 1048576):Pu 121 [T s,T p] (· = B (hasPr (Z8 s) (Z8 p))):=by
 have hsz:s.size≤1048576:=by rw[Zu];exact hs
 have hpz:p.size≤1048576:=by rw[Zu];exact hp
 refine Z6 mxd i121 rfl (by simp) ?_;simp (maxSteps:=9^7) only[↓ S2,S2,Z7,↓reduceIte,reduceNe,reduceEqDiff,reduceCtorEq,reduceLeDiff,reduceAdd,reduceLT]
 by_cases hl:(Z8 p).length ≤ (Z8 s).length
 ·by_cases he:(Z8 s).take (Z8 p).length = Z8 p
  ·have e:hasPr (Z8 s) (Z8 p)=true:=by unfold hasPr;rw[decide_eq_true hl,decide_eq_true he];rfl
   rw[e]
   ((try refine qI ?_);(repeat ((first|with_reducible refine qU ?_ | simp only[Z9]);try simp (maxSteps:=9^7) +contextual only[↓ S2,S2,↓reduceIte,reduceNe,reduceEqDiff,reduceCtorEq,reduceLeDiff,reduceAdd,reduceLT,VQ,hl,he]));(try simp +contextual (disch:=omega) only[Z2,hl,he]);(with_reducible repeat' (first|intro h|refine And.intro (by omega) ?_ | refine exP (by omega) ?_ | apply And.intro)))
   all_goals first|(exfalso;omega)|(show B (decide ((⟨(Z8 p).toArray⟩:ByteArray)=p))=B true;rw[decide_eq_true (chars_eta p)])
  ·have e:hasPr (Z8 s) (Z8 p)=false:=by unfold hasPr;rw[decide_eq_false he,Bool.and_false]
   have he':¬(⟨((Z8 s).take (Z8 p).length).toArray⟩:ByteArray)=p:=fun h=>he (congrArg Z8 h)
   rw[e]
   ((try refine qI ?_);(repeat ((first|with_reducible refine qU ?_ | simp only[Z9]);try simp (maxSteps:=9^7) +contextual only[↓ S2,S2,↓reduceIte,reduceNe,reduceEqDiff,reduceCtorEq,reduceLeDiff,reduceAdd,reduceLT,VQ,hl]));(try simp +contextual (disch:=omega) only[Z2,hl]);(with_reducible repeat' (first|intro h|refine And.intro (by omega) ?_ | refine exP (by omega) ?_ | apply And.intro)))
   all_goals first|(exfalso;omega)|(show B (decide ((⟨((Z8 s).take (Z8 p).length).toArray⟩:ByteArray)=p))=B false;rw[decide_eq_false he'])
 ·have e:hasPr (Z8 s) (Z8 p)=false:=by unfold hasPr;rw[decide_eq_false hl,Bool.false_and]
  rw[e]
  ((try refine qI ?_);(repeat ((first|with_reducible refine qU ?_ | simp only[Z9]);try simp (maxSteps:=9^7) +contextual only[↓ S2,S2,↓reduceIte,reduceNe,reduceEqDiff,reduceCtorEq,reduceLeDiff,reduceAdd,reduceLT,VQ,hl]));(try simp +contextual (disch:=omega) only[Z2,hl]);(with_reducible repeat' (first|intro h|refine And.intro (by omega) ?_ | refine exP (by omega) ?_ | apply And.intro)))
  all_goals first|rfl|(exfalso;omega)
theorem w99 (s p:ByteArray) (hs:(Z8 s).length ≤ 1048576) (hp:(Z8 p).length ≤ 1048576):Pu 99 [T s,T p] (· = B (hasPr (Z8 s) (Z8 p))):=by
 refine Z6 mxd i99 rfl (by simp) ?_;simp (maxSteps:=9^7) only[↓ S2,S2,Z7,↓reduceIte,reduceNe,reduceEqDiff,reduceCtorEq,reduceLeDiff,reduceAdd,reduceLT]
 ((try refine qI ?_);(repeat ((first|with_reducible refine qU ?_ | simp only[Z9]);try simp (maxSteps:=9^7) +contextual only[↓ S2,S2,↓reduceIte,reduceNe,reduceEqDiff,reduceCtorEq,reduceLeDiff,reduceAdd,reduceLT,VQ,]));(try simp +contextual (disch:=omega) only[Z2,]);(with_reducible repeat' (first|intro h|refine And.intro (by omega) ?_ | refine exP (by omega) ?_ | apply And.intro)))
 refine callS.eq (w121 s p hs hp) ?_
 ((try refine qI ?_);(repeat ((first|with_reducible refine qU ?_ | simp only[Z9]);try simp (maxSteps:=9^7) +contextual only[↓ S2,S2,↓reduceIte,reduceNe,reduceEqDiff,reduceCtorEq,reduceLeDiff,reduceAdd,reduceLT,VQ,]));(try simp +contextual (disch:=omega) only[Z2,]);(with_reducible repeat' (first|intro h|refine And.intro (by omega) ?_ | refine exP (by omega) ?_ | apply And.intro)))
theorem w100 (s:ByteArray) (c:UInt8):Pu 100 [T s,.val (.int .u8 c.toNat)] (· = I (indexByte (Z8 s) c)):=by
 have eg:∀args w,(callFunc 100 args).run Tryz.prog w = .ok (.enter 100 args) w:=enters_of Tryz.func100 (by kernel_rfl) rfl
 refine lib_ok (T:=[]) (fun w D vs hm hn hml=> ?_) (by simp) eg
 obtain rfl:vs=[.string s,.int .u8 c.toNat]:=by
  simp only[ML,MV] at hml
  obtain ⟨v,vs',F1,F2,rfl,_,⟨rfl,_⟩,v2,vs2,F3,F4,rfl,_,⟨rfl,_⟩,rfl,_⟩:=hml
  rfl
 refine (Go.Proofs.Any.strings_IndexByte Tryz.ixbL s (c.toNat:Int) w).mono ?_
 rintro e w' ⟨rfl,rfl⟩
 refine ⟨_,I (indexByte (Z8 s) c),rfl,rfl,fun D'=> ?_,Below.refl _ _⟩
 have:((c.toNat:Int).toNat.toUInt8)=c:=by simp
 rw[this]
 exact MV.val_mk _
end Go.Proofs.YtkmedfejmndmjaaGreatDoor
namespace Go.Proofs.YtkmedfejmndmjaaGreatDoor
open Go.Gh
open Nat (reduceEqDiff reduceLeDiff reduceAdd reduceLT)
open Int (reduceNe)
open Go.Lib
theorem p63 (s:ByteArray) (k:Nat) (hk:k<(Z8 s).length) (hs:(Z8 s).length ≤ 1048576):PureT Tryz.prog (tabE 1 3) 63 [T s,I k] (· = .tup [Tk (Zk (Z8 s) k).1,I (Zk (Z8 s) k).2]):=by
 have hsz:s.size≤1048576:=by rw[Zu];exact hs
 by_cases hl:Ze (Z8 s)[k]=true
 ·have hN:Zk (Z8 s) k = _ := tokN_let hk hl
  have hsp:=XR Y2 ((Z8 s).drop k)
  rw[List.length_drop] at hsp
  generalize hn:Zw Y2 ((Z8 s).drop k)=n at *
  rw[hN]
  clear hN
  refine Z6 mxd i63 rfl (by simp) ?_;simp (maxSteps:=9^7) only[↓ S2,S2,Z7,↓reduceIte,reduceNe,reduceEqDiff,reduceCtorEq,reduceLeDiff,reduceAdd,reduceLT]
  ((try refine qI ?_);(repeat ((first|with_reducible refine qU ?_ | simp only[Z9]);try simp (maxSteps:=9^7) +contextual only[↓ S2,S2,↓reduceIte,reduceNe,reduceEqDiff,reduceCtorEq,reduceLeDiff,reduceAdd,reduceLT,VQ,]));(try simp +contextual (disch:=omega) only[Z2,]);(with_reducible repeat' (first|intro h|refine And.intro (by omega) ?_ | refine exP (by omega) ?_ | apply And.intro)))
  refine callS.eq (w96 _) ?_
  ((try refine qI ?_);(repeat ((first|with_reducible refine qU ?_ | simp only[Z9]);try simp (maxSteps:=9^7) +contextual only[↓ S2,S2,↓reduceIte,reduceNe,reduceEqDiff,reduceCtorEq,reduceLeDiff,reduceAdd,reduceLT,VQ,hl]));(try simp +contextual (disch:=omega) only[Z2,hl]);(with_reducible repeat' (first|intro h|refine And.intro (by omega) ?_ | refine exP (by omega) ?_ | apply And.intro)))
  refine Yt mxd (ι:={ i:Nat // k≤i∧i≤(Z8 s).length ∧ i+Zw Y2 ((Z8 s).drop i)=k+n }) (fun i=>[(0,T s),(1,I k),(4,.raw 4),(6,I i.1)]) (fun _ => tabE 1 3) (fun i=>(Z8 s).length - i.1) ⟨k,by omega⟩ (by simp[E2]) rfl ?_
  rintro ⟨i,hi,hi2,hi3⟩
  have fin:i=k+n→(8<(i:Int)-k→(GV.tup [Tk Y9,I 0]) = .tup [Tk (if n≤8 then (⟨1,0,k,⟨(((Z8 s).drop k).take n).toArray⟩⟩,n) else (Y9,0)).1,I (((if n≤8 then (⟨1,0,k,⟨(((Z8 s).drop k).take n).toArray⟩⟩,n) else (Y9,0):Go.Gh.Tok×Nat).2 : Nat):Int)])∧(¬8<(i:Int)-k→(GV.tup [.agg [I 1,I 0,I k,T ⟨(((Z8 s).take i).drop k).toArray⟩],I ((i:Int)-k)]) = .tup [Tk (if n≤8 then (⟨1,0,k,⟨(((Z8 s).drop k).take n).toArray⟩⟩,n) else (Y9,0)).1,I (((if n≤8 then (⟨1,0,k,⟨(((Z8 s).drop k).take n).toArray⟩⟩,n) else (Y9,0):Go.Gh.Tok×Nat).2 : Nat):Int)]):=fun hi=>by
   subst hi
   refine ⟨fun h=>by rw[if_neg (by omega)];rfl,fun h=> ?_⟩
   rw[if_pos (by omega),Yv,show ((k+n:Nat):Int)-k=(n:Int) by omega]
  rcases nL i (Z8 s).length with hlt|hge
  ·by_cases ha:Y2 (Z8 s)[i]=true
   ·have e1:=XQ hlt ha
    rcases aln_or ha with hq|⟨hq1,hq2⟩
    ·((try refine qI ?_);(repeat ((first|with_reducible refine qU ?_ | simp only[Z9]);try simp (maxSteps:=9^7) +contextual only[↓ S2,S2,↓reduceIte,reduceNe,reduceEqDiff,reduceCtorEq,reduceLeDiff,reduceAdd,reduceLT,VQ,hlt]));(try simp +contextual (disch:=omega) only[Z2,hlt]);(with_reducible repeat' (first|intro h|refine And.intro (by omega) ?_ | refine exP (by omega) ?_ | apply And.intro)))
     refine callS.eq (w96 _) ?_
     ((try refine qI ?_);(repeat ((first|with_reducible refine qU ?_ | simp only[Z9]);try simp (maxSteps:=9^7) +contextual only[↓ S2,S2,↓reduceIte,reduceNe,reduceEqDiff,reduceCtorEq,reduceLeDiff,reduceAdd,reduceLT,VQ,hq]));(try simp +contextual (disch:=omega) only[Z2,hq]);(with_reducible repeat' (first|intro h|refine And.intro (by omega) ?_ | refine exP (by omega) ?_ | apply And.intro)))
     exact nx ⟨i+1,by omega,by omega,by omega⟩ (by dsimp only;omega) (by simp[E2]) rfl
    ·((try refine qI ?_);(repeat ((first|with_reducible refine qU ?_ | simp only[Z9]);try simp (maxSteps:=9^7) +contextual only[↓ S2,S2,↓reduceIte,reduceNe,reduceEqDiff,reduceCtorEq,reduceLeDiff,reduceAdd,reduceLT,VQ,hlt]));(try simp +contextual (disch:=omega) only[Z2,hlt]);(with_reducible repeat' (first|intro h|refine And.intro (by omega) ?_ | refine exP (by omega) ?_ | apply And.intro)))
     refine callS.eq (w96 _) ?_
     ((try refine qI ?_);(repeat ((first|with_reducible refine qU ?_ | simp only[Z9]);try simp (maxSteps:=9^7) +contextual only[↓ S2,S2,↓reduceIte,reduceNe,reduceEqDiff,reduceCtorEq,reduceLeDiff,reduceAdd,reduceLT,VQ,hq1]));(try simp +contextual (disch:=omega) only[Z2,hq1]);(with_reducible repeat' (first|intro h|refine And.intro (by omega) ?_ | refine exP (by omega) ?_ | apply And.intro)))
     refine callS.eq (w97 _) ?_
     ((try refine qI ?_);(repeat ((first|with_reducible refine qU ?_ | simp only[Z9]);try simp (maxSteps:=9^7) +contextual only[↓ S2,S2,↓reduceIte,reduceNe,reduceEqDiff,reduceCtorEq,reduceLeDiff,reduceAdd,reduceLT,VQ,hq2]));(try simp +contextual (disch:=omega) only[Z2,hq2]);(with_reducible repeat' (first|intro h|refine And.intro (by omega) ?_ | refine exP (by omega) ?_ | apply And.intro)))
     exact nx ⟨i+1,by omega,by omega,by omega⟩ (by dsimp only;omega) (by simp[E2]) rfl
   ·have ha':Y2 (Z8 s)[i]=false:=by simpa using ha
    obtain ⟨hq1,hq2⟩:=aln_no ha'
    rw[spanL_stop hlt ha'] at hi3
    obtain ⟨f1,f2⟩:=fin hi3
    ((try refine qI ?_);(repeat ((first|with_reducible refine qU ?_ | simp only[Z9]);try simp (maxSteps:=9^7) +contextual only[↓ S2,S2,↓reduceIte,reduceNe,reduceEqDiff,reduceCtorEq,reduceLeDiff,reduceAdd,reduceLT,VQ,hlt]));(try simp +contextual (disch:=omega) only[Z2,hlt]);(with_reducible repeat' (first|intro h|refine And.intro (by omega) ?_ | refine exP (by omega) ?_ | apply And.intro)))
    refine callS.eq (w96 _) ?_
    ((try refine qI ?_);(repeat ((first|with_reducible refine qU ?_ | simp only[Z9]);try simp (maxSteps:=9^7) +contextual only[↓ S2,S2,↓reduceIte,reduceNe,reduceEqDiff,reduceCtorEq,reduceLeDiff,reduceAdd,reduceLT,VQ,hq1]));(try simp +contextual (disch:=omega) only[Z2,hq1]);(with_reducible repeat' (first|intro h|refine And.intro (by omega) ?_ | refine exP (by omega) ?_ | apply And.intro)))
    refine callS.eq (w97 _) ?_
    ((try refine qI ?_);(repeat ((first|with_reducible refine qU ?_ | simp only[Z9]);try simp (maxSteps:=9^7) +contextual only[↓ S2,S2,↓reduceIte,reduceNe,reduceEqDiff,reduceCtorEq,reduceLeDiff,reduceAdd,reduceLT,VQ,hq2]));(try simp +contextual (disch:=omega) only[Z2,hq2]);(with_reducible repeat' (first|intro h|refine And.intro (by omega) ?_ | refine exP (by omega) ?_ | apply And.intro)))
    all_goals first|exact f1 (by assumption)|exact f2 (by assumption)
  ·rw[spanL_end hge] at hi3
   obtain ⟨f1,f2⟩:=fin hi3
   have hge':¬i<(Z8 s).length := by omega
   ((try refine qI ?_);(repeat ((first|with_reducible refine qU ?_ | simp only[Z9]);try simp (maxSteps:=9^7) +contextual only[↓ S2,S2,↓reduceIte,reduceNe,reduceEqDiff,reduceCtorEq,reduceLeDiff,reduceAdd,reduceLT,VQ,hge']));(try simp +contextual (disch:=omega) only[Z2,hge']);(with_reducible repeat' (first|intro h|refine And.intro (by omega) ?_ | refine exP (by omega) ?_ | apply And.intro)))
   all_goals try exact oF
   all_goals first|exact f1 (by assumption)|exact f2 (by assumption)
 ·have hl':Ze (Z8 s)[k]=false:=by simpa using hl
  by_cases hd:ZI (Z8 s)[k]=true
  ·have hN:Zk (Z8 s) k = _ := tokN_dig hk hl' hd
   have hsp:=XR ZI ((Z8 s).drop k)
   have hsd:=spanL_digs ((Z8 s).drop k)
   have hs1:=XQ hk hd
   rw[List.length_drop] at hsp
   generalize hn:Zw ZI ((Z8 s).drop k)=n at *
   rw[hN]
   clear hN
   generalize hw:(((Z8 s).drop k).take n)=w at *
   have hwl:w.length=n:=by rw[←hw,List.length_take,List.length_drop];omega
   have hpi:=p98 ⟨w.toArray⟩ hsd (by intro h;rw[show Z8 ⟨w.toArray⟩=w from rfl] at h;rw[h] at hwl;simp at hwl;omega) (by show w.length≤1048576;omega)
   have e0:Z8 ⟨w.toArray⟩=w:=rfl
   rw[e0] at hpi
   refine Z6 mxd i63 rfl (by simp) ?_;simp (maxSteps:=9^7) only[↓ S2,S2,Z7,↓reduceIte,reduceNe,reduceEqDiff,reduceCtorEq,reduceLeDiff,reduceAdd,reduceLT]
   ((try refine qI ?_);(repeat ((first|with_reducible refine qU ?_ | simp only[Z9]);try simp (maxSteps:=9^7) +contextual only[↓ S2,S2,↓reduceIte,reduceNe,reduceEqDiff,reduceCtorEq,reduceLeDiff,reduceAdd,reduceLT,VQ,]));(try simp +contextual (disch:=omega) only[Z2,]);(with_reducible repeat' (first|intro h|refine And.intro (by omega) ?_ | refine exP (by omega) ?_ | apply And.intro)))
   refine callS.eq (w96 _) ?_
   ((try refine qI ?_);(repeat ((first|with_reducible refine qU ?_ | simp only[Z9]);try simp (maxSteps:=9^7) +contextual only[↓ S2,S2,↓reduceIte,reduceNe,reduceEqDiff,reduceCtorEq,reduceLeDiff,reduceAdd,reduceLT,VQ,hl']));(try simp +contextual (disch:=omega) only[Z2,hl']);(with_reducible repeat' (first|intro h|refine And.intro (by omega) ?_ | refine exP (by omega) ?_ | apply And.intro)))
   refine callS.eq (w97 _) ?_
   ((try refine qI ?_);(repeat ((first|with_reducible refine qU ?_ | simp only[Z9]);try simp (maxSteps:=9^7) +contextual only[↓ S2,S2,↓reduceIte,reduceNe,reduceEqDiff,reduceCtorEq,reduceLeDiff,reduceAdd,reduceLT,VQ,hd]));(try simp +contextual (disch:=omega) only[Z2,hd]);(with_reducible repeat' (first|intro h|refine And.intro (by omega) ?_ | refine exP (by omega) ?_ | apply And.intro)))
   refine Yt mxd (ι:={ i:Nat // k≤i∧i≤(Z8 s).length ∧ i+Zw ZI ((Z8 s).drop i)=k+n }) (fun i=>[(0,T s),(1,I k),(4,.raw 4),(6,I i.1)]) (fun _ => tabE 1 3) (fun i=>(Z8 s).length - i.1) ⟨k,by omega⟩ (by simp[E2]) rfl ?_
   rintro ⟨i,hi,hi2,hi3⟩
   rcases nL i (Z8 s).length with hlt|hge
   ·by_cases ha:ZI (Z8 s)[i]=true
    ·have e1:=XQ hlt ha
     ((try refine qI ?_);(repeat ((first|with_reducible refine qU ?_ | simp only[Z9]);try simp (maxSteps:=9^7) +contextual only[↓ S2,S2,↓reduceIte,reduceNe,reduceEqDiff,reduceCtorEq,reduceLeDiff,reduceAdd,reduceLT,VQ,hlt]));(try simp +contextual (disch:=omega) only[Z2,hlt]);(with_reducible repeat' (first|intro h|refine And.intro (by omega) ?_ | refine exP (by omega) ?_ | apply And.intro)))
     refine callS.eq (w97 _) ?_
     ((try refine qI ?_);(repeat ((first|with_reducible refine qU ?_ | simp only[Z9]);try simp (maxSteps:=9^7) +contextual only[↓ S2,S2,↓reduceIte,reduceNe,reduceEqDiff,reduceCtorEq,reduceLeDiff,reduceAdd,reduceLT,VQ,ha]));(try simp +contextual (disch:=omega) only[Z2,ha]);(with_reducible repeat' (first|intro h|refine And.intro (by omega) ?_ | refine exP (by omega) ?_ | apply And.intro)))
     exact nx ⟨i+1,by omega,by omega,by omega⟩ (by dsimp only;omega) (by simp[E2]) rfl
    ·have ha':ZI (Z8 s)[i]=false:=by simpa using ha
     rw[spanL_stop hlt ha'] at hi3
     obtain rfl:i=k+n:=hi3
     have hw2:(((Z8 s).take (k+n)).drop k)=w:=by rw[Yv,hw]
     ((try refine qI ?_);(repeat ((first|with_reducible refine qU ?_ | simp only[Z9]);try simp (maxSteps:=9^7) +contextual only[↓ S2,S2,↓reduceIte,reduceNe,reduceEqDiff,reduceCtorEq,reduceLeDiff,reduceAdd,reduceLT,VQ,hlt]));(try simp +contextual (disch:=omega) only[Z2,hlt]);(with_reducible repeat' (first|intro h|refine And.intro (by omega) ?_ | refine exP (by omega) ?_ | apply And.intro)))
     refine callS.eq (w97 _) ?_
     ((try refine qI ?_);(repeat ((first|with_reducible refine qU ?_ | simp only[Z9]);try simp (maxSteps:=9^7) +contextual only[↓ S2,S2,↓reduceIte,reduceNe,reduceEqDiff,reduceCtorEq,reduceLeDiff,reduceAdd,reduceLT,VQ,ha']));(try simp +contextual (disch:=omega) only[Z2,ha']);(with_reducible repeat' (first|intro h|refine And.intro (by omega) ?_ | refine exP (by omega) ?_ | apply And.intro)))
     rw[hw2]
     refine callS.eqT hpi (YM (by decide)) (fun _ h=>h) ?_
     cases hnt:numT w with
     | none=>
      ((try refine qI ?_);(repeat ((first|with_reducible refine qU ?_ | simp only[Z9]);try simp (maxSteps:=9^7) +contextual only[↓ S2,S2,↓reduceIte,reduceNe,reduceEqDiff,reduceCtorEq,reduceLeDiff,reduceAdd,reduceLT,VQ,Option.isSome_none,Option.getD_none]));(try simp +contextual (disch:=omega) only[Z2,Option.isSome_none,Option.getD_none]);(with_reducible repeat' (first|intro h|refine And.intro (by omega) ?_ | refine exP (by omega) ?_ | apply And.intro)))
      all_goals rfl
     | some v=>
      ((try refine qI ?_);(repeat ((first|with_reducible refine qU ?_ | simp only[Z9]);try simp (maxSteps:=9^7) +contextual only[↓ S2,S2,↓reduceIte,reduceNe,reduceEqDiff,reduceCtorEq,reduceLeDiff,reduceAdd,reduceLT,VQ,Option.isSome_some,Option.getD_some]));(try simp +contextual (disch:=omega) only[Z2,Option.isSome_some,Option.getD_some]);(with_reducible repeat' (first|intro h|refine And.intro (by omega) ?_ | refine exP (by omega) ?_ | apply And.intro)))
      all_goals (rw[show (((k+n:Nat):Int)-k)=(n:Int) by omega];rfl)
   ·rw[spanL_end hge] at hi3
    obtain rfl:i=k+n:=hi3
    have hge':¬k+n<(Z8 s).length := by omega
    have hw2:(((Z8 s).take (k+n)).drop k)=w:=by rw[Yv,hw]
    ((try refine qI ?_);(repeat ((first|with_reducible refine qU ?_ | simp only[Z9]);try simp (maxSteps:=9^7) +contextual only[↓ S2,S2,↓reduceIte,reduceNe,reduceEqDiff,reduceCtorEq,reduceLeDiff,reduceAdd,reduceLT,VQ,hge']));(try simp +contextual (disch:=omega) only[Z2,hge']);(with_reducible repeat' (first|intro h|refine And.intro (by omega) ?_ | refine exP (by omega) ?_ | apply And.intro)))
    all_goals try exact oF
    rw[hw2]
    refine callS.eqT hpi (YM (by decide)) (fun _ h=>h) ?_
    cases hnt:numT w with
    | none=>
     ((try refine qI ?_);(repeat ((first|with_reducible refine qU ?_ | simp only[Z9]);try simp (maxSteps:=9^7) +contextual only[↓ S2,S2,↓reduceIte,reduceNe,reduceEqDiff,reduceCtorEq,reduceLeDiff,reduceAdd,reduceLT,VQ,Option.isSome_none,Option.getD_none]));(try simp +contextual (disch:=omega) only[Z2,Option.isSome_none,Option.getD_none]);(with_reducible repeat' (first|intro h|refine And.intro (by omega) ?_ | refine exP (by omega) ?_ | apply And.intro)))
     all_goals rfl
    | some v=>
     ((try refine qI ?_);(repeat ((first|with_reducible refine qU ?_ | simp only[Z9]);try simp (maxSteps:=9^7) +contextual only[↓ S2,S2,↓reduceIte,reduceNe,reduceEqDiff,reduceCtorEq,reduceLeDiff,reduceAdd,reduceLT,VQ,Option.isSome_some,Option.getD_some]));(try simp +contextual (disch:=omega) only[Z2,Option.isSome_some,Option.getD_some]);(with_reducible repeat' (first|intro h|refine And.intro (by omega) ?_ | refine exP (by omega) ?_ | apply And.intro)))
     all_goals (rw[show (((k+n:Nat):Int)-k)=(n:Int) by omega];rfl)
  ·have hd':ZI (Z8 s)[k]=false:=by simpa using hd
   have hN:=tokN_sym hk hl' hd'
   have hkk:((k:Int)+1).toNat = k+1:=by omega
   have hpr:=hasPr_eq hk
   have hp:=w99 ⟨((Z8 s).drop k).toArray⟩ ⟨#[61,61]⟩ (by show ((Z8 s).drop k).length ≤ 1048576;rw[List.length_drop];omega) (by decide)
   have hp':hasPr (Z8 ⟨((Z8 s).drop k).toArray⟩) (Z8 ⟨#[61,61]⟩)=hasPr ((Z8 s).drop k) [61,61]:=rfl
   rw[hp'] at hp
   have htk:(Z8 s).take (Z8 s).length = Z8 s:=List.take_length
   rw[hN]
   by_cases h2:(Z8 s)[k]=61∧(Z8 s)[k+1]? = some 61
   ·have hns:¬(Z8 s)[k]∈symC:=by rw[h2.1];decide
    rw[if_neg hns,if_pos h2]
    rw[hpr,decide_eq_true h2] at hp
    refine Z6 mxd i63 rfl (by simp) ?_;simp (maxSteps:=9^7) only[↓ S2,S2,Z7,↓reduceIte,reduceNe,reduceEqDiff,reduceCtorEq,reduceLeDiff,reduceAdd,reduceLT]
    ((try refine qI ?_);(repeat ((first|with_reducible refine qU ?_ | simp only[Z9]);try simp (maxSteps:=9^7) +contextual only[↓ S2,S2,↓reduceIte,reduceNe,reduceEqDiff,reduceCtorEq,reduceLeDiff,reduceAdd,reduceLT,VQ,]));(try simp +contextual (disch:=omega) only[Z2,]);(with_reducible repeat' (first|intro h|refine And.intro (by omega) ?_ | refine exP (by omega) ?_ | apply And.intro)))
    refine callS.eq (w96 _) ?_
    ((try refine qI ?_);(repeat ((first|with_reducible refine qU ?_ | simp only[Z9]);try simp (maxSteps:=9^7) +contextual only[↓ S2,S2,↓reduceIte,reduceNe,reduceEqDiff,reduceCtorEq,reduceLeDiff,reduceAdd,reduceLT,VQ,hl']));(try simp +contextual (disch:=omega) only[Z2,hl']);(with_reducible repeat' (first|intro h|refine And.intro (by omega) ?_ | refine exP (by omega) ?_ | apply And.intro)))
    refine callS.eq (w97 _) ?_
    ((try refine qI ?_);(repeat ((first|with_reducible refine qU ?_ | simp only[Z9]);try simp (maxSteps:=9^7) +contextual only[↓ S2,S2,↓reduceIte,reduceNe,reduceEqDiff,reduceCtorEq,reduceLeDiff,reduceAdd,reduceLT,VQ,hd',htk]));(try simp +contextual (disch:=omega) only[Z2,hd',htk]);(with_reducible repeat' (first|intro h|refine And.intro (by omega) ?_ | refine exP (by omega) ?_ | apply And.intro)))
    all_goals try exact oF
    refine callS.eq hp ?_
    ((try refine qI ?_);(repeat ((first|with_reducible refine qU ?_ | simp only[Z9]);try simp (maxSteps:=9^7) +contextual only[↓ S2,S2,↓reduceIte,reduceNe,reduceEqDiff,reduceCtorEq,reduceLeDiff,reduceAdd,reduceLT,VQ,]));(try simp +contextual (disch:=omega) only[Z2,]);(with_reducible repeat' (first|intro h|refine And.intro (by omega) ?_ | refine exP (by omega) ?_ | apply And.intro)))
    all_goals rfl
   ·rw[hpr,decide_eq_false h2] at hp
    have hix:=ix_mem symC (Z8 s)[k]
    by_cases hm:(Z8 s)[k]∈symC
    ·have hix':=hix.2 hm
     rw[if_pos hm]
     refine Z6 mxd i63 rfl (by simp) ?_;simp (maxSteps:=9^7) only[↓ S2,S2,Z7,↓reduceIte,reduceNe,reduceEqDiff,reduceCtorEq,reduceLeDiff,reduceAdd,reduceLT]
     ((try refine qI ?_);(repeat ((first|with_reducible refine qU ?_ | simp only[Z9]);try simp (maxSteps:=9^7) +contextual only[↓ S2,S2,↓reduceIte,reduceNe,reduceEqDiff,reduceCtorEq,reduceLeDiff,reduceAdd,reduceLT,VQ,]));(try simp +contextual (disch:=omega) only[Z2,]);(with_reducible repeat' (first|intro h|refine And.intro (by omega) ?_ | refine exP (by omega) ?_ | apply And.intro)))
     refine callS.eq (w96 _) ?_
     ((try refine qI ?_);(repeat ((first|with_reducible refine qU ?_ | simp only[Z9]);try simp (maxSteps:=9^7) +contextual only[↓ S2,S2,↓reduceIte,reduceNe,reduceEqDiff,reduceCtorEq,reduceLeDiff,reduceAdd,reduceLT,VQ,hl']));(try simp +contextual (disch:=omega) only[Z2,hl']);(with_reducible repeat' (first|intro h|refine And.intro (by omega) ?_ | refine exP (by omega) ?_ | apply And.intro)))
     refine callS.eq (w97 _) ?_
     ((try refine qI ?_);(repeat ((first|with_reducible refine qU ?_ | simp only[Z9]);try simp (maxSteps:=9^7) +contextual only[↓ S2,S2,↓reduceIte,reduceNe,reduceEqDiff,reduceCtorEq,reduceLeDiff,reduceAdd,reduceLT,VQ,hd',htk]));(try simp +contextual (disch:=omega) only[Z2,hd',htk]);(with_reducible repeat' (first|intro h|refine And.intro (by omega) ?_ | refine exP (by omega) ?_ | apply And.intro)))
     all_goals try exact oF
     refine callS.eq hp ?_
     ((try refine qI ?_);(repeat ((first|with_reducible refine qU ?_ | simp only[Z9]);try simp (maxSteps:=9^7) +contextual only[↓ S2,S2,↓reduceIte,reduceNe,reduceEqDiff,reduceCtorEq,reduceLeDiff,reduceAdd,reduceLT,VQ,]));(try simp +contextual (disch:=omega) only[Z2,]);(with_reducible repeat' (first|intro h|refine And.intro (by omega) ?_ | refine exP (by omega) ?_ | apply And.intro)))
     refine callS.eq (w100 ⟨#[40,41,123,125,44,46,36,43,45,42,60,124,38,92]⟩ _) ?_
     rw[show Z8 ⟨#[40,41,123,125,44,46,36,43,45,42,60,124,38,92]⟩=symC from rfl]
     ((try refine qI ?_);(repeat ((first|with_reducible refine qU ?_ | simp only[Z9]);try simp (maxSteps:=9^7) +contextual only[↓ S2,S2,↓reduceIte,reduceNe,reduceEqDiff,reduceCtorEq,reduceLeDiff,reduceAdd,reduceLT,VQ,hix',hkk]));(try simp +contextual (disch:=omega) only[Z2,hix',hkk]);(with_reducible repeat' (first|intro h|refine And.intro (by omega) ?_ | refine exP (by omega) ?_ | apply And.intro)))
     all_goals try exact oF
     all_goals (rw[Yv,List.drop_eq_getElem_cons hk];rfl)
    ·have hix':¬0≤Go.Lib.indexByte symC (Z8 s)[k]:=fun h=>hm (hix.1 h)
     rw[if_neg hm,if_neg h2]
     refine Z6 mxd i63 rfl (by simp) ?_;simp (maxSteps:=9^7) only[↓ S2,S2,Z7,↓reduceIte,reduceNe,reduceEqDiff,reduceCtorEq,reduceLeDiff,reduceAdd,reduceLT]
     ((try refine qI ?_);(repeat ((first|with_reducible refine qU ?_ | simp only[Z9]);try simp (maxSteps:=9^7) +contextual only[↓ S2,S2,↓reduceIte,reduceNe,reduceEqDiff,reduceCtorEq,reduceLeDiff,reduceAdd,reduceLT,VQ,]));(try simp +contextual (disch:=omega) only[Z2,]);(with_reducible repeat' (first|intro h|refine And.intro (by omega) ?_ | refine exP (by omega) ?_ | apply And.intro)))
     refine callS.eq (w96 _) ?_
     ((try refine qI ?_);(repeat ((first|with_reducible refine qU ?_ | simp only[Z9]);try simp (maxSteps:=9^7) +contextual only[↓ S2,S2,↓reduceIte,reduceNe,reduceEqDiff,reduceCtorEq,reduceLeDiff,reduceAdd,reduceLT,VQ,hl']));(try simp +contextual (disch:=omega) only[Z2,hl']);(with_reducible repeat' (first|intro h|refine And.intro (by omega) ?_ | refine exP (by omega) ?_ | apply And.intro)))
     refine callS.eq (w97 _) ?_
     ((try refine qI ?_);(repeat ((first|with_reducible refine qU ?_ | simp only[Z9]);try simp (maxSteps:=9^7) +contextual only[↓ S2,S2,↓reduceIte,reduceNe,reduceEqDiff,reduceCtorEq,reduceLeDiff,reduceAdd,reduceLT,VQ,hd',htk]));(try simp +contextual (disch:=omega) only[Z2,hd',htk]);(with_reducible repeat' (first|intro h|refine And.intro (by omega) ?_ | refine exP (by omega) ?_ | apply And.intro)))
     all_goals try exact oF
     refine callS.eq hp ?_
     ((try refine qI ?_);(repeat ((first|with_reducible refine qU ?_ | simp only[Z9]);try simp (maxSteps:=9^7) +contextual only[↓ S2,S2,↓reduceIte,reduceNe,reduceEqDiff,reduceCtorEq,reduceLeDiff,reduceAdd,reduceLT,VQ,]));(try simp +contextual (disch:=omega) only[Z2,]);(with_reducible repeat' (first|intro h|refine And.intro (by omega) ?_ | refine exP (by omega) ?_ | apply And.intro)))
     refine callS.eq (w100 ⟨#[40,41,123,125,44,46,36,43,45,42,60,124,38,92]⟩ _) ?_
     rw[show Z8 ⟨#[40,41,123,125,44,46,36,43,45,42,60,124,38,92]⟩=symC from rfl]
     ((try refine qI ?_);(repeat ((first|with_reducible refine qU ?_ | simp only[Z9]);try simp (maxSteps:=9^7) +contextual only[↓ S2,S2,↓reduceIte,reduceNe,reduceEqDiff,reduceCtorEq,reduceLeDiff,reduceAdd,reduceLT,VQ,hix']));(try simp +contextual (disch:=omega) only[Z2,hix']);(with_reducible repeat' (first|intro h|refine And.intro (by omega) ?_ | refine exP (by omega) ?_ | apply And.intro)))
     all_goals try exact oF
     all_goals rfl
theorem p33 (s:ByteArray) (hs:(Z8 s).length ≤ 1048576):PureT Tryz.prog (tabE 1 3) 33 [T s] (· = .tup [TkS (ZA (Z8 s)).1,I (ZA (Z8 s)).2]):=by
 have hsz:s.size≤1048576:=by rw[Zu];exact hs
 refine PureT.bor ?_
 change GCalls _ _ _ [(7,1000000,[]),(15,1000001,[])] _
 by_cases hl:160<(Z8 s).length
 ·have e:ZA (Z8 s)=([],160):=by unfold ZA;rw[if_pos hl]
  rw[e]
  refine Z6 mxd i33 rfl (by simp) ?_;simp (maxSteps:=9^7) only[↓ S2,S2,Z7,↓reduceIte,reduceNe,reduceEqDiff,reduceCtorEq,reduceLeDiff,reduceAdd,reduceLT]
  ((try refine qI ?_);(repeat ((first|with_reducible refine qU ?_ | simp only[Z9]);try simp (maxSteps:=9^7) +contextual only[↓ S2,S2,↓reduceIte,reduceNe,reduceEqDiff,reduceCtorEq,reduceLeDiff,reduceAdd,reduceLT,VQ,hl]));(try simp +contextual (disch:=omega) only[Z2,hl]);(with_reducible repeat' (first|intro h|refine And.intro (by omega) ?_ | refine exP (by omega) ?_ | apply And.intro)))
  all_goals try exact oF
  exact .tup (.cons .nil (.cons .refl .nil))
 ·have e:ZA (Z8 s)=Y6 (Z8 s) ((Z8 s).length + 1) 0 []:=by unfold ZA;rw[if_neg hl]
  refine Z6 mxd i33 rfl (by simp) ?_;simp (maxSteps:=9^7) only[↓ S2,S2,Z7,↓reduceIte,reduceNe,reduceEqDiff,reduceCtorEq,reduceLeDiff,reduceAdd,reduceLT]
  ((try refine qI ?_);(repeat ((first|with_reducible refine qU ?_ | simp only[Z9]);try simp (maxSteps:=9^7) +contextual only[↓ S2,S2,↓reduceIte,reduceNe,reduceEqDiff,reduceCtorEq,reduceLeDiff,reduceAdd,reduceLT,VQ,hl]));(try simp +contextual (disch:=omega) only[Z2,hl]);(with_reducible repeat' (first|intro h|refine And.intro (by omega) ?_ | refine exP (by omega) ?_ | apply And.intro)))
  all_goals try exact oF
  rename_i r
  refine ploop mxd (ι:={ x:Nat×Nat×List Go.Gh.Tok // x.2.1≤(Z8 s).length ∧ x.2.2.length≤80∧Y6 (Z8 s) ((Z8 s).length + 1) x.2.1 x.2.2=ZA (Z8 s) }) (fun x=>[(0,T s),(4,.own x.1.1 4 0 x.1.2.2.length),(5,I x.1.2.1)]) (fun x=>[(x.1.1,4,x.1.2.2.map Tk),(7,1000000,[]),(15,1000001,[])]) (fun x=>(Z8 s).length - x.1.2.1) ⟨(r,0,[]),by simp[e]⟩ (by simp[E2]) (by simp[subH,Z3,names, *]) ?_
  rintro ⟨⟨q,i,out⟩,hi,ho,ht⟩ hn
  dsimp only at hi ho ht hn ⊢
  have hn0:=hn
  (replace hn0:=hn0;simp only[VN] at hn0)
  rw[Ya] at ht
  rcases nL i (Z8 s).length with hlt|hge
  ·rw[dif_pos hlt] at ht
   by_cases h32:(Z8 s)[i]=32
   ·have h32':((Z8 s)[i].toNat : Int)=32:=by rw[h32];rfl
    rw[if_pos h32] at ht
    ((try refine qI ?_);(repeat ((first|with_reducible refine qU ?_ | simp only[Z9]);try simp (maxSteps:=9^7) +contextual only[↓ S2,S2,↓reduceIte,reduceNe,reduceEqDiff,reduceCtorEq,reduceLeDiff,reduceAdd,reduceLT,VQ,hlt,h32']));(try simp +contextual (disch:=omega) only[Z2,hlt,h32']);(with_reducible repeat' (first|intro h|refine And.intro (by omega) ?_ | refine exP (by omega) ?_ | apply And.intro)))
    refine px ⟨(q,i+1,out),by dsimp only;omega,ho,?_⟩ (by dsimp only;omega) (by simp[E2]) (by simp[subH,Z3,names, *])
    dsimp only
    rw[←ht]
    exact tokL_fuel _ _ _ _ (by omega) (by omega) (by omega)
   ·have h32':¬((Z8 s)[i].toNat : Int)=32:=fun h=>h32 ((u8_eq _ _).2 h)
    rw[if_neg h32] at ht
    have hle:=tokN_le (l:=Z8 s) (k:=i) hi
    by_cases h0:(Zk (Z8 s) i).2 = 0
    ·rw[if_pos (.inl h0)] at ht
     ((try refine qI ?_);(repeat ((first|with_reducible refine qU ?_ | simp only[Z9]);try simp (maxSteps:=9^7) +contextual only[↓ S2,S2,↓reduceIte,reduceNe,reduceEqDiff,reduceCtorEq,reduceLeDiff,reduceAdd,reduceLT,VQ,hlt,h32']));(try simp +contextual (disch:=omega) only[Z2,hlt,h32']);(with_reducible repeat' (first|intro h|refine And.intro (by omega) ?_ | refine exP (by omega) ?_ | apply And.intro)))
     refine callS.eqT (p63 s i hlt hs) (YM (by decide)) (by simp[tabE]) ?_
     ((try refine qI ?_);(repeat ((first|with_reducible refine qU ?_ | simp only[Z9]);try simp (maxSteps:=9^7) +contextual only[↓ S2,S2,↓reduceIte,reduceNe,reduceEqDiff,reduceCtorEq,reduceLeDiff,reduceAdd,reduceLT,VQ,h0]));(try simp +contextual (disch:=omega) only[Z2,h0]);(with_reducible repeat' (first|intro h|refine And.intro (by omega) ?_ | refine exP (by omega) ?_ | apply And.intro)))
     all_goals try exact oF
     all_goals (rw[←ht];exact .tup (.cons .nil (.cons .refl .nil)))
    ·have h0':¬((Zk (Z8 s) i).2 : Int)=0:=by omega
     by_cases h8:out.length=80
     ·have h8':((out.length:Int)=80):=by omega
      rw[if_pos (.inr h8)] at ht
      ((try refine qI ?_);(repeat ((first|with_reducible refine qU ?_ | simp only[Z9]);try simp (maxSteps:=9^7) +contextual only[↓ S2,S2,↓reduceIte,reduceNe,reduceEqDiff,reduceCtorEq,reduceLeDiff,reduceAdd,reduceLT,VQ,hlt,h32']));(try simp +contextual (disch:=omega) only[Z2,hlt,h32']);(with_reducible repeat' (first|intro h|refine And.intro (by omega) ?_ | refine exP (by omega) ?_ | apply And.intro)))
      refine callS.eqT (p63 s i hlt hs) (YM (by decide)) (by simp[tabE]) ?_
      ((try refine qI ?_);(repeat ((first|with_reducible refine qU ?_ | simp only[Z9]);try simp (maxSteps:=9^7) +contextual only[↓ S2,S2,↓reduceIte,reduceNe,reduceEqDiff,reduceCtorEq,reduceLeDiff,reduceAdd,reduceLT,VQ,h0',h8']));(try simp +contextual (disch:=omega) only[Z2,h0',h8']);(with_reducible repeat' (first|intro h|refine And.intro (by omega) ?_ | refine exP (by omega) ?_ | apply And.intro)))
      all_goals try exact oF
      all_goals (rw[←ht];exact .tup (.cons .nil (.cons .refl .nil)))
     ·have h8':¬((out.length:Int)=80):=by omega
      rw[if_neg (by intro h;rcases h with h|h<;>contradiction)] at ht
      ((try refine qI ?_);(repeat ((first|with_reducible refine qU ?_ | simp only[Z9]);try simp (maxSteps:=9^7) +contextual only[↓ S2,S2,↓reduceIte,reduceNe,reduceEqDiff,reduceCtorEq,reduceLeDiff,reduceAdd,reduceLT,VQ,hlt,h32']));(try simp +contextual (disch:=omega) only[Z2,hlt,h32']);(with_reducible repeat' (first|intro h|refine And.intro (by omega) ?_ | refine exP (by omega) ?_ | apply And.intro)))
      refine callS.eqT (p63 s i hlt hs) (YM (by decide)) (by simp[tabE]) ?_
      ((try refine qI ?_);(repeat ((first|with_reducible refine qU ?_ | simp only[Z9]);try simp (maxSteps:=9^7) +contextual only[↓ S2,S2,↓reduceIte,reduceNe,reduceEqDiff,reduceCtorEq,reduceLeDiff,reduceAdd,reduceLT,VQ,h0',h8',List.length_map]));(try simp +contextual (disch:=omega) only[Z2,h0',h8',List.length_map]);(with_reducible repeat' (first|intro h|refine And.intro (by omega) ?_ | refine exP (by omega) ?_ | apply And.intro)))
      all_goals try exact oF
      all_goals first
       | omega
       | skip
      rename_i r1 r2
      refine px ⟨(r2,i+(Zk (Z8 s) i).2,out++[(Zk (Z8 s) i).1]),by dsimp only;omega,by simp;omega,?_⟩ (by dsimp only;omega) (by simp[E2]) (by simp[subH,Z3,names,List.take_of_length_le, *])
      dsimp only
      rw[←ht]
      exact tokL_fuel _ _ _ _ (by omega) (by omega) (by omega)
  ·rw[dif_neg (by omega)] at ht
   have hge':¬i<(Z8 s).length := by omega
   ((try refine qI ?_);(repeat ((first|with_reducible refine qU ?_ | simp only[Z9]);try simp (maxSteps:=9^7) +contextual only[↓ S2,S2,↓reduceIte,reduceNe,reduceEqDiff,reduceCtorEq,reduceLeDiff,reduceAdd,reduceLT,VQ,hge']));(try simp +contextual (disch:=omega) only[Z2,hge']);(with_reducible repeat' (first|intro h|refine And.intro (by omega) ?_ | refine exP (by omega) ?_ | apply And.intro)))
   all_goals try exact oF
   all_goals (rw[←ht];exact .tup (.cons (Bor.seenT Z4 rfl) (.cons .refl .nil)))
theorem w123 (t:Go.Gh.Tok) (w:ByteArray):Pu 123 [Tk t,T w] (· = B (isW t w)):=by
 refine Z6 mxd i123 rfl (by simp) ?_;simp (maxSteps:=9^7) only[↓ S2,S2,Z7,↓reduceIte,reduceNe,reduceEqDiff,reduceCtorEq,reduceLeDiff,reduceAdd,reduceLT]
 ((try refine qI ?_);(repeat ((first|with_reducible refine qU ?_ | simp only[Z9]);try simp (maxSteps:=9^7) +contextual only[↓ S2,S2,↓reduceIte,reduceNe,reduceEqDiff,reduceCtorEq,reduceLeDiff,reduceAdd,reduceLT,VQ,]));(try simp +contextual (disch:=omega) only[Z2,]);(with_reducible repeat' (first|intro h|refine And.intro (by omega) ?_ | refine exP (by omega) ?_ | apply And.intro)))
 all_goals first|rfl|(simp_all [isW];done)
theorem w101 (ts:List Go.Gh.Tok) (hl:ts.length≤80) (i:Nat) (hi:i≤ts.length) (b:Bool) (w:ByteArray) (rp:Nat) (H:GH) (hr:Z3 H rp=some (3,[PaG ts i b])) :
 Gc 101 [.ptr rp 3 0 0,T w] H (fun g H'=>g=B (!b && sees ts i w)∧H'=H):=by
 cases b with
 | true=>
  refine Z6 mxd i101 rfl (by simp) ?_;simp (maxSteps:=9^7) only[↓ S2,S2,Z7,↓reduceIte,reduceNe,reduceEqDiff,reduceCtorEq,reduceLeDiff,reduceAdd,reduceLT]
  ((try refine qI ?_);(repeat ((first|with_reducible refine qU ?_ | simp only[Z9]);try simp (maxSteps:=9^7) +contextual only[↓ S2,S2,↓reduceIte,reduceNe,reduceEqDiff,reduceCtorEq,reduceLeDiff,reduceAdd,reduceLT,VQ,hr]));(try simp +contextual (disch:=omega) only[Z2,hr]);(with_reducible repeat' (first|intro h|refine And.intro (by omega) ?_ | refine exP (by omega) ?_ | apply And.intro)))
  all_goals rfl
 | false=>
  rcases nL i ts.length with h|h
  ·have e:sees ts i w=isW ts[i] w:=by unfold sees;rw[decide_eq_true h,Zg h];rfl
   rw[e]
   refine Z6 mxd i101 rfl (by simp) ?_;simp (maxSteps:=9^7) only[↓ S2,S2,Z7,↓reduceIte,reduceNe,reduceEqDiff,reduceCtorEq,reduceLeDiff,reduceAdd,reduceLT]
   ((try refine qI ?_);(repeat ((first|with_reducible refine qU ?_ | simp only[Z9]);try simp (maxSteps:=9^7) +contextual only[↓ S2,S2,↓reduceIte,reduceNe,reduceEqDiff,reduceCtorEq,reduceLeDiff,reduceAdd,reduceLT,VQ,hr,h]));(try simp +contextual (disch:=omega) only[Z2,hr,h]);(with_reducible repeat' (first|intro h|refine And.intro (by omega) ?_ | refine exP (by omega) ?_ | apply And.intro)))
   refine callS.eq (w123 _ _) ?_
   ((try refine qI ?_);(repeat ((first|with_reducible refine qU ?_ | simp only[Z9]);try simp (maxSteps:=9^7) +contextual only[↓ S2,S2,↓reduceIte,reduceNe,reduceEqDiff,reduceCtorEq,reduceLeDiff,reduceAdd,reduceLT,VQ,]));(try simp +contextual (disch:=omega) only[Z2,]);(with_reducible repeat' (first|intro h|refine And.intro (by omega) ?_ | refine exP (by omega) ?_ | apply And.intro)))
   all_goals first|rfl|exact ⟨rfl,rfl⟩
  ·have e:sees ts i w=false:=by unfold sees;rw[decide_eq_false (by omega)];rfl
   have h':¬i<ts.length:=by omega
   rw[e]
   refine Z6 mxd i101 rfl (by simp) ?_;simp (maxSteps:=9^7) only[↓ S2,S2,Z7,↓reduceIte,reduceNe,reduceEqDiff,reduceCtorEq,reduceLeDiff,reduceAdd,reduceLT]
   ((try refine qI ?_);(repeat ((first|with_reducible refine qU ?_ | simp only[Z9]);try simp (maxSteps:=9^7) +contextual only[↓ S2,S2,↓reduceIte,reduceNe,reduceEqDiff,reduceCtorEq,reduceLeDiff,reduceAdd,reduceLT,VQ,hr,h']));(try simp +contextual (disch:=omega) only[Z2,hr,h']);(with_reducible repeat' (first|intro h|refine And.intro (by omega) ?_ | refine exP (by omega) ?_ | apply And.intro)))
   all_goals try exact oF
   all_goals first|rfl|exact ⟨rfl,rfl⟩
theorem w64 (ts:List Go.Gh.Tok) (hl:ts.length≤80) (i:Nat) (hi:i≤ts.length) (b:Bool) (w:ByteArray) (rp:Nat) (H:GH) (hr:Z3 H rp=some (3,[PaG ts i b])) :
 Gc 64 [.ptr rp 3 0 0,T w] H (fun g H'=>g=B (!b && sees ts i w)∧H'=ZX H rp [PaG ts (if (!b && sees ts i w)=true then i+1 else i) b]):=by
 have h1:=w101 ts hl i hi b w rp H hr
 generalize hq:(!b && sees ts i w)=q at *
 cases q with
 | true=>
  refine Z6 mxd i64 rfl (by simp) ?_;simp (maxSteps:=9^7) only[↓ S2,S2,Z7,↓reduceIte,reduceNe,reduceEqDiff,reduceCtorEq,reduceLeDiff,reduceAdd,reduceLT]
  ((try refine qI ?_);(repeat ((first|with_reducible refine qU ?_ | simp only[Z9]);try simp (maxSteps:=9^7) +contextual only[↓ S2,S2,↓reduceIte,reduceNe,reduceEqDiff,reduceCtorEq,reduceLeDiff,reduceAdd,reduceLT,VQ,]));(try simp +contextual (disch:=omega) only[Z2,]);(with_reducible repeat' (first|intro h|refine And.intro (by omega) ?_ | refine exP (by omega) ?_ | apply And.intro)))
  refine callS.of h1 ?_
  rintro _ _ ⟨rfl,rfl⟩ _
  ((try refine qI ?_);(repeat ((first|with_reducible refine qU ?_ | simp only[Z9]);try simp (maxSteps:=9^7) +contextual only[↓ S2,S2,↓reduceIte,reduceNe,reduceEqDiff,reduceCtorEq,reduceLeDiff,reduceAdd,reduceLT,VQ,hr]));(try simp +contextual (disch:=omega) only[Z2,hr]);(with_reducible repeat' (first|intro h|refine And.intro (by omega) ?_ | refine exP (by omega) ?_ | apply And.intro)))
  all_goals first|rfl|exact ⟨rfl,rfl⟩
 | false=>
  refine Z6 mxd i64 rfl (by simp) ?_;simp (maxSteps:=9^7) only[↓ S2,S2,Z7,↓reduceIte,reduceNe,reduceEqDiff,reduceCtorEq,reduceLeDiff,reduceAdd,reduceLT]
  ((try refine qI ?_);(repeat ((first|with_reducible refine qU ?_ | simp only[Z9]);try simp (maxSteps:=9^7) +contextual only[↓ S2,S2,↓reduceIte,reduceNe,reduceEqDiff,reduceCtorEq,reduceLeDiff,reduceAdd,reduceLT,VQ,]));(try simp +contextual (disch:=omega) only[Z2,]);(with_reducible repeat' (first|intro h|refine And.intro (by omega) ?_ | refine exP (by omega) ?_ | apply And.intro)))
  refine callS.of h1 ?_
  rintro _ _ ⟨rfl,rfl⟩ _
  ((try refine qI ?_);(repeat ((first|with_reducible refine qU ?_ | simp only[Z9]);try simp (maxSteps:=9^7) +contextual only[↓ S2,S2,↓reduceIte,reduceNe,reduceEqDiff,reduceCtorEq,reduceLeDiff,reduceAdd,reduceLT,VQ,hr]));(try simp +contextual (disch:=omega) only[Z2,hr]);(with_reducible repeat' (first|intro h|refine And.intro (by omega) ?_ | refine exP (by omega) ?_ | apply And.intro)))
  all_goals exact (Yb hr).symm
theorem w65 (ts:List Go.Gh.Tok) (hl:ts.length≤80) (i:Nat) (hi:i≤ts.length) (b:Bool) (w:ByteArray) (rp:Nat) (H:GH) (hr:Z3 H rp=some (3,[PaG ts i b])) :
 Gc 65 [.ptr rp 3 0 0,T w] H (fun _ H'=>H'=ZX H rp [PaG ts (frm b (fun i=>ZW ts i w) i).at (frm b (fun i=>ZW ts i w) i).err]):=by
 have h1:=w64 ts hl i hi b w rp H hr
 have h2:∀fs,Z3 (ZX H rp fs) rp=some (3,fs):=fun fs=>Zz hr
 cases b with
 | true=>
  refine Z6 mxd i65 rfl (by simp) ?_;simp (maxSteps:=9^7) only[↓ S2,S2,Z7,↓reduceIte,reduceNe,reduceEqDiff,reduceCtorEq,reduceLeDiff,reduceAdd,reduceLT]
  ((try refine qI ?_);(repeat ((first|with_reducible refine qU ?_ | simp only[Z9]);try simp (maxSteps:=9^7) +contextual only[↓ S2,S2,↓reduceIte,reduceNe,reduceEqDiff,reduceCtorEq,reduceLeDiff,reduceAdd,reduceLT,VQ,]));(try simp +contextual (disch:=omega) only[Z2,]);(with_reducible repeat' (first|intro h|refine And.intro (by omega) ?_ | refine exP (by omega) ?_ | apply And.intro)))
  refine callS.of h1 ?_
  rintro _ _ ⟨rfl,rfl⟩ _
  ((try refine qI ?_);(repeat ((first|with_reducible refine qU ?_ | simp only[Z9]);try simp (maxSteps:=9^7) +contextual only[↓ S2,S2,↓reduceIte,reduceNe,reduceEqDiff,reduceCtorEq,reduceLeDiff,reduceAdd,reduceLT,VQ,Bool.not_true,Bool.false_and,h2,Z0]));(try simp +contextual (disch:=omega) only[Z2,Bool.not_true,Bool.false_and,h2,Z0]);(with_reducible repeat' (first|intro h|refine And.intro (by omega) ?_ | refine exP (by omega) ?_ | apply And.intro)))
  all_goals rfl
 | false=>
  cases hq:sees ts i w with
  | true=>
   rw[hq] at h1
   rw[Zn,take_t hq]
   refine Z6 mxd i65 rfl (by simp) ?_;simp (maxSteps:=9^7) only[↓ S2,S2,Z7,↓reduceIte,reduceNe,reduceEqDiff,reduceCtorEq,reduceLeDiff,reduceAdd,reduceLT]
   ((try refine qI ?_);(repeat ((first|with_reducible refine qU ?_ | simp only[Z9]);try simp (maxSteps:=9^7) +contextual only[↓ S2,S2,↓reduceIte,reduceNe,reduceEqDiff,reduceCtorEq,reduceLeDiff,reduceAdd,reduceLT,VQ,]));(try simp +contextual (disch:=omega) only[Z2,]);(with_reducible repeat' (first|intro h|refine And.intro (by omega) ?_ | refine exP (by omega) ?_ | apply And.intro)))
   refine callS.of h1 ?_
   rintro _ _ ⟨rfl,rfl⟩ _
   ((try refine qI ?_);(repeat ((first|with_reducible refine qU ?_ | simp only[Z9]);try simp (maxSteps:=9^7) +contextual only[↓ S2,S2,↓reduceIte,reduceNe,reduceEqDiff,reduceCtorEq,reduceLeDiff,reduceAdd,reduceLT,VQ,]));(try simp +contextual (disch:=omega) only[Z2,]);(with_reducible repeat' (first|intro h|refine And.intro (by omega) ?_ | refine exP (by omega) ?_ | apply And.intro)))
   all_goals rfl
  | false=>
   rw[hq] at h1
   rw[Zn,take_f hq]
   refine Z6 mxd i65 rfl (by simp) ?_;simp (maxSteps:=9^7) only[↓ S2,S2,Z7,↓reduceIte,reduceNe,reduceEqDiff,reduceCtorEq,reduceLeDiff,reduceAdd,reduceLT]
   ((try refine qI ?_);(repeat ((first|with_reducible refine qU ?_ | simp only[Z9]);try simp (maxSteps:=9^7) +contextual only[↓ S2,S2,↓reduceIte,reduceNe,reduceEqDiff,reduceCtorEq,reduceLeDiff,reduceAdd,reduceLT,VQ,]));(try simp +contextual (disch:=omega) only[Z2,]);(with_reducible repeat' (first|intro h|refine And.intro (by omega) ?_ | refine exP (by omega) ?_ | apply And.intro)))
   refine callS.of h1 ?_
   rintro _ _ ⟨rfl,rfl⟩ _
   ((try refine qI ?_);(repeat ((first|with_reducible refine qU ?_ | simp only[Z9]);try simp (maxSteps:=9^7) +contextual only[↓ S2,S2,↓reduceIte,reduceNe,reduceEqDiff,reduceCtorEq,reduceLeDiff,reduceAdd,reduceLT,VQ,h2,Z0]));(try simp +contextual (disch:=omega) only[Z2,h2,Z0]);(with_reducible repeat' (first|intro h|refine And.intro (by omega) ?_ | refine exP (by omega) ?_ | apply And.intro)))
   all_goals rfl
theorem w88 (n:Int):Pu 88 [I n] (· = I (ZB n)):=by
 refine Z6 mxd i88 rfl (by simp) ?_;simp (maxSteps:=9^7) only[↓ S2,S2,Z7,↓reduceIte,reduceNe,reduceEqDiff,reduceCtorEq,reduceLeDiff,reduceAdd,reduceLT]
 ((try refine qI ?_);(repeat ((first|with_reducible refine qU ?_ | simp only[Z9]);try simp (maxSteps:=9^7) +contextual only[↓ S2,S2,↓reduceIte,reduceNe,reduceEqDiff,reduceCtorEq,reduceLeDiff,reduceAdd,reduceLT,VQ,]));(try simp +contextual (disch:=omega) only[Z2,]);(with_reducible repeat' (first|intro h|refine And.intro (by omega) ?_ | refine exP (by omega) ?_ | apply And.intro)))
 all_goals first|(unfold ZB;simp[*];done)|(unfold ZB;rw[if_neg (by omega),if_neg (by omega),if_neg (by omega)];rfl)
theorem w128 (s:ByteArray):Pu 128 [T s] (· = I (YI s)):=by
 refine Z6 mxd i128 rfl (by simp) ?_;simp (maxSteps:=9^7) only[↓ S2,S2,Z7,↓reduceIte,reduceNe,reduceEqDiff,reduceCtorEq,reduceLeDiff,reduceAdd,reduceLT]
 ((try refine qI ?_);(repeat ((first|with_reducible refine qU ?_ | simp only[Z9]);try simp (maxSteps:=9^7) +contextual only[↓ S2,S2,↓reduceIte,reduceNe,reduceEqDiff,reduceCtorEq,reduceLeDiff,reduceAdd,reduceLT,VQ,]));(try simp +contextual (disch:=omega) only[Z2,]);(with_reducible repeat' (first|intro h|refine And.intro (by omega) ?_ | refine exP (by omega) ?_ | apply And.intro)))
 all_goals first|(subst_vars;rfl)|(unfold YI wMax wMin wHas wWith;simp[*];done)|trace_state
theorem w124 (n k:Int):Pu 124 [I n,I k] (· = ExN (YE n k)):=by
 refine Z6 mxd i124 rfl (by simp) ?_;simp (maxSteps:=9^7) only[↓ S2,S2,Z7,↓reduceIte,reduceNe,reduceEqDiff,reduceCtorEq,reduceLeDiff,reduceAdd,reduceLT]
 ((try refine qI ?_);(repeat ((first|with_reducible refine qU ?_ | simp only[Z9]);try simp (maxSteps:=9^7) +contextual only[↓ S2,S2,↓reduceIte,reduceNe,reduceEqDiff,reduceCtorEq,reduceLeDiff,reduceAdd,reduceLT,VQ,]));(try simp +contextual (disch:=omega) only[Z2,]);(with_reducible repeat' (first|intro h|refine And.intro (by omega) ?_ | refine exP (by omega) ?_ | apply And.intro)))
 all_goals first|rfl|trace_state
theorem w103 (t:Go.Gh.Tok) (lv:Nat) (h1:1≤lv) (h3:lv≤3):Pu 103 [Tk t,I lv] (· = I (if t.kind=3 then opKy (3,0,t.text) lv else 0)):=by
 have e1:((ZB 1:Nat):Int)=2:=rfl
 have e2:((ZB 2:Nat):Int)=2:=rfl
 have e3:((ZB 3:Nat):Int)=3:=rfl
 have e6:((ZB 6:Nat):Int)=2:=rfl
 have e7:((ZB 7:Nat):Int)=3:=rfl
 have e8:((ZB 8:Nat):Int)=2:=rfl
 have e9:((ZB 9:Nat):Int)=1:=rfl
 have e10:((ZB 10:Nat):Int)=1:=rfl
 by_cases hk:t.kind=3
 ·rw[if_pos hk]
  obtain ⟨l,hl⟩:∃l:Int,l=lv:=⟨_,rfl⟩
  rw[←hl]
  have hl':(l=1∧lv=1)∨(l=2∧lv=2)∨(l=3∧lv=3):=by omega
  clear hl
  rcases hl' with ⟨rfl,rfl⟩|⟨rfl,rfl⟩|⟨rfl,rfl⟩
  all_goals
   refine Z6 mxd i103 rfl (by simp) ?_;simp (maxSteps:=9^7) only[↓ S2,S2,Z7,↓reduceIte,reduceNe,reduceEqDiff,reduceCtorEq,reduceLeDiff,reduceAdd,reduceLT]
   ((try refine qI ?_);(repeat ((first|with_reducible refine qU ?_ | simp only[Z9]);try simp (maxSteps:=9^7) +contextual only[↓ S2,S2,↓reduceIte,reduceNe,reduceEqDiff,reduceCtorEq,reduceLeDiff,reduceAdd,reduceLT,VQ,hk]));(try simp +contextual (disch:=omega) only[Z2,hk]);(with_reducible repeat' (first|intro h|refine And.intro (by omega) ?_ | refine exP (by omega) ?_ | apply And.intro)))
   all_goals try (refine callS.eq (w88 _) ?_;((try refine qI ?_);(repeat ((first|with_reducible refine qU ?_ | simp only[Z9]);try simp (maxSteps:=9^7) +contextual only[↓ S2,S2,↓reduceIte,reduceNe,reduceEqDiff,reduceCtorEq,reduceLeDiff,reduceAdd,reduceLT,VQ,e1,e2,e3,e6,e7,e8,e9,e10]));(try simp +contextual (disch:=omega) only[Z2,e1,e2,e3,e6,e7,e8,e9,e10]);(with_reducible repeat' (first|intro h|refine And.intro (by omega) ?_ | refine exP (by omega) ?_ | apply And.intro))))
   all_goals (simp[opKy,isK, *];done)
 ·rw[if_neg hk]
  refine Z6 mxd i103 rfl (by simp) ?_;simp (maxSteps:=9^7) only[↓ S2,S2,Z7,↓reduceIte,reduceNe,reduceEqDiff,reduceCtorEq,reduceLeDiff,reduceAdd,reduceLT]
  ((try refine qI ?_);(repeat ((first|with_reducible refine qU ?_ | simp only[Z9]);try simp (maxSteps:=9^7) +contextual only[↓ S2,S2,↓reduceIte,reduceNe,reduceEqDiff,reduceCtorEq,reduceLeDiff,reduceAdd,reduceLT,VQ,hk]));(try simp +contextual (disch:=omega) only[Z2,hk]);(with_reducible repeat' (first|intro h|refine And.intro (by omega) ?_ | refine exP (by omega) ?_ | apply And.intro)))
theorem w67 (ts:List Go.Gh.Tok) (hl:ts.length≤80) (ht:okTs ts) (i:Nat) (hi:i≤ts.length) (b:Bool) (lv:Nat) (h1:1≤lv) (h3:lv≤3) (rp:Nat) (H:GH) (hr:Z3 H rp=some (3,[PaG ts i b])) :
 Gc 67 [.ptr rp 3 0 0,I lv] H (fun g H'=>g=I (opB ts b i lv)∧H'=ZX H rp [PaG ts (if opB ts b i lv≠0 then i+1 else i) b]):=by
 cases b with
 | true=>
  refine Z6 mxd i67 rfl (by simp) ?_;simp (maxSteps:=9^7) only[↓ S2,S2,Z7,↓reduceIte,reduceNe,reduceEqDiff,reduceCtorEq,reduceLeDiff,reduceAdd,reduceLT]
  ((try refine qI ?_);(repeat ((first|with_reducible refine qU ?_ | simp only[Z9]);try simp (maxSteps:=9^7) +contextual only[↓ S2,S2,↓reduceIte,reduceNe,reduceEqDiff,reduceCtorEq,reduceLeDiff,reduceAdd,reduceLT,VQ,hr]));(try simp +contextual (disch:=omega) only[Z2,hr]);(with_reducible repeat' (first|intro h|refine And.intro (by omega) ?_ | refine exP (by omega) ?_ | apply And.intro)))
  all_goals first|exact (Yb hr).symm | rfl
 | false=>
  rcases nL i ts.length with h|hG
  ·have hL:¬ts.length≤i:=by omega
   have e:=opB_lt ht h lv
   have hop:=w103 ts[i] lv h1 h3
   rw[←e] at hop
   generalize opB ts false i lv=o at *
   by_cases h0:o=0
   ·subst h0
    refine Z6 mxd i67 rfl (by simp) ?_;simp (maxSteps:=9^7) only[↓ S2,S2,Z7,↓reduceIte,reduceNe,reduceEqDiff,reduceCtorEq,reduceLeDiff,reduceAdd,reduceLT]
    ((try refine qI ?_);(repeat ((first|with_reducible refine qU ?_ | simp only[Z9]);try simp (maxSteps:=9^7) +contextual only[↓ S2,S2,↓reduceIte,reduceNe,reduceEqDiff,reduceCtorEq,reduceLeDiff,reduceAdd,reduceLT,VQ,hr,h,hL]));(try simp +contextual (disch:=omega) only[Z2,hr,h,hL]);(with_reducible repeat' (first|intro h|refine And.intro (by omega) ?_ | refine exP (by omega) ?_ | apply And.intro)))
    refine callS.eq hop ?_
    ((try refine qI ?_);(repeat ((first|with_reducible refine qU ?_ | simp only[Z9]);try simp (maxSteps:=9^7) +contextual only[↓ S2,S2,↓reduceIte,reduceNe,reduceEqDiff,reduceCtorEq,reduceLeDiff,reduceAdd,reduceLT,VQ,]));(try simp +contextual (disch:=omega) only[Z2,]);(with_reducible repeat' (first|intro h|refine And.intro (by omega) ?_ | refine exP (by omega) ?_ | apply And.intro)))
    all_goals first|exact (Yb hr).symm | rfl
   ·rw[if_pos h0]
    refine Z6 mxd i67 rfl (by simp) ?_;simp (maxSteps:=9^7) only[↓ S2,S2,Z7,↓reduceIte,reduceNe,reduceEqDiff,reduceCtorEq,reduceLeDiff,reduceAdd,reduceLT]
    ((try refine qI ?_);(repeat ((first|with_reducible refine qU ?_ | simp only[Z9]);try simp (maxSteps:=9^7) +contextual only[↓ S2,S2,↓reduceIte,reduceNe,reduceEqDiff,reduceCtorEq,reduceLeDiff,reduceAdd,reduceLT,VQ,hr,h,hL]));(try simp +contextual (disch:=omega) only[Z2,hr,h,hL]);(with_reducible repeat' (first|intro h|refine And.intro (by omega) ?_ | refine exP (by omega) ?_ | apply And.intro)))
    refine callS.eq hop ?_
    ((try refine qI ?_);(repeat ((first|with_reducible refine qU ?_ | simp only[Z9]);try simp (maxSteps:=9^7) +contextual only[↓ S2,S2,↓reduceIte,reduceNe,reduceEqDiff,reduceCtorEq,reduceLeDiff,reduceAdd,reduceLT,VQ,h0,hr]));(try simp +contextual (disch:=omega) only[Z2,h0,hr]);(with_reducible repeat' (first|intro h|refine And.intro (by omega) ?_ | refine exP (by omega) ?_ | apply And.intro)))
    all_goals rfl
  ·have e:opB ts false i lv=0:=opB_ge hG lv
   have h':¬i<ts.length:=by omega
   rw[e]
   refine Z6 mxd i67 rfl (by simp) ?_;simp (maxSteps:=9^7) only[↓ S2,S2,Z7,↓reduceIte,reduceNe,reduceEqDiff,reduceCtorEq,reduceLeDiff,reduceAdd,reduceLT]
   ((try refine qI ?_);(repeat ((first|with_reducible refine qU ?_ | simp only[Z9]);try simp (maxSteps:=9^7) +contextual only[↓ S2,S2,↓reduceIte,reduceNe,reduceEqDiff,reduceCtorEq,reduceLeDiff,reduceAdd,reduceLT,VQ,hr,h',hG]));(try simp +contextual (disch:=omega) only[Z2,hr,h',hG]);(with_reducible repeat' (first|intro h|refine And.intro (by omega) ?_ | refine exP (by omega) ?_ | apply And.intro)))
   all_goals try exact oF
   all_goals first|exact (Yb hr).symm | rfl
theorem w125 (ts:List Go.Gh.Tok) (hl:ts.length≤80) (i:Nat) (hi:i≤ts.length) (b:Bool) (lo hh:Int) (rp:Nat) (H:GH) (hr:Z3 H rp=some (3,[PaG ts i b])) :
 Gc 125 [.ptr rp 3 0 0,I lo,I hh] H (fun g H'=>g=I (PR.val 0 (frm b (fun i=>Zs ts i lo hh) i))∧H'=ZX H rp [PaG ts (frm b (fun i=>Zs ts i lo hh) i).at (frm b (fun i=>Zs ts i lo hh) i).err]):=by
 have h2:∀fs,Z3 (ZX H rp fs) rp=some (3,fs):=fun fs=>Zz hr
 cases b with
 | true=>
  refine Z6 mxd i125 rfl (by simp) ?_;simp (maxSteps:=9^7) only[↓ S2,S2,Z7,↓reduceIte,reduceNe,reduceEqDiff,reduceCtorEq,reduceLeDiff,reduceAdd,reduceLT]
  ((try refine qI ?_);(repeat ((first|with_reducible refine qU ?_ | simp only[Z9]);try simp (maxSteps:=9^7) only[↓ S2,S2,Z7,↓reduceIte,reduceNe,reduceEqDiff,reduceCtorEq,reduceLeDiff,reduceAdd,reduceLT,hr]));(try simp +contextual (disch:=omega) only[Z2,hr]);(with_reducible repeat' (first|intro h|refine And.intro (by omega) ?_ | refine exP (by omega) ?_ | apply And.intro)))
  all_goals first|rfl|exact ⟨rfl,rfl⟩
 | false=>
  rw[Zn]
  rcases nL i ts.length with h|hG
  ·have hL:¬ts.length≤i:=by omega
   have hx1:((i:Int)+1-1)=(i:Int):=by omega
   by_cases hk:ts[i].kind = 2
   ·have hkk:((ts[i].kind = 2)=True):=eq_true hk
    by_cases hw:lo≤ts[i].num ∧ ts[i].num ≤ hh
    ·have e:Zs ts i lo hh = .ok ts[i].num (i+1):=by unfold Zs;rw[Zg h,if_pos ⟨h,hk,hw⟩]
     have hwd:=decide_eq_true hw
     rw[e]
     refine Z6 mxd i125 rfl (by simp) ?_;simp (maxSteps:=9^7) only[↓ S2,S2,Z7,↓reduceIte,reduceNe,reduceEqDiff,reduceCtorEq,reduceLeDiff,reduceAdd,reduceLT]
     ((try refine qI ?_);(repeat ((first|with_reducible refine qU ?_ | simp only[Z9]);try simp (maxSteps:=9^7) only[↓ S2,S2,Z7,↓reduceIte,reduceNe,reduceEqDiff,reduceCtorEq,reduceLeDiff,reduceAdd,reduceLT,hr,h,hL,hkk,decide_true,decide_false]));(try simp +contextual (disch:=omega) only[Z2,hr,h,hL,hkk,decide_true,decide_false]);(with_reducible repeat' (first|intro h|refine And.intro (by omega) ?_ | refine exP (by omega) ?_ | apply And.intro)))
     refine callS.eq (w84 _ _ _) ?_
     ((try refine qI ?_);(repeat ((first|with_reducible refine qU ?_ | simp only[Z9]);try simp (maxSteps:=9^7) only[↓ S2,S2,Z7,↓reduceIte,reduceNe,reduceEqDiff,reduceCtorEq,reduceLeDiff,reduceAdd,reduceLT,hwd,hr,h,h2,Z0,hx1]));(try simp +contextual (disch:=omega) only[Z2,hwd,hr,h,h2,Z0,hx1]);(with_reducible repeat' (first|intro h|refine And.intro (by omega) ?_ | refine exP (by omega) ?_ | apply And.intro)))
     all_goals first|rfl|exact ⟨rfl,rfl⟩|trace_state
    ·have e:Zs ts i lo hh = .bad i:=by unfold Zs;rw[Zg h,if_neg (fun hc=>hw ⟨hc.2.2.1,hc.2.2.2⟩)]
     have hwd:=decide_eq_false hw
     rw[e]
     refine Z6 mxd i125 rfl (by simp) ?_;simp (maxSteps:=9^7) only[↓ S2,S2,Z7,↓reduceIte,reduceNe,reduceEqDiff,reduceCtorEq,reduceLeDiff,reduceAdd,reduceLT]
     ((try refine qI ?_);(repeat ((first|with_reducible refine qU ?_ | simp only[Z9]);try simp (maxSteps:=9^7) only[↓ S2,S2,Z7,↓reduceIte,reduceNe,reduceEqDiff,reduceCtorEq,reduceLeDiff,reduceAdd,reduceLT,hr,h,hL,hkk,decide_true,decide_false]));(try simp +contextual (disch:=omega) only[Z2,hr,h,hL,hkk,decide_true,decide_false]);(with_reducible repeat' (first|intro h|refine And.intro (by omega) ?_ | refine exP (by omega) ?_ | apply And.intro)))
     refine callS.eq (w84 _ _ _) ?_
     ((try refine qI ?_);(repeat ((first|with_reducible refine qU ?_ | simp only[Z9]);try simp (maxSteps:=9^7) only[↓ S2,S2,Z7,↓reduceIte,reduceNe,reduceEqDiff,reduceCtorEq,reduceLeDiff,reduceAdd,reduceLT,hwd,hr,h2]));(try simp +contextual (disch:=omega) only[Z2,hwd,hr,h2]);(with_reducible repeat' (first|intro h|refine And.intro (by omega) ?_ | refine exP (by omega) ?_ | apply And.intro)))
     all_goals first|rfl|exact ⟨rfl,rfl⟩|trace_state
   ·have e:Zs ts i lo hh = .bad i:=by unfold Zs;rw[Zg h,if_neg (fun hc=>hk hc.2.1)]
    have hkk:((ts[i].kind = 2)=False):=eq_false hk
    rw[e]
    refine Z6 mxd i125 rfl (by simp) ?_;simp (maxSteps:=9^7) only[↓ S2,S2,Z7,↓reduceIte,reduceNe,reduceEqDiff,reduceCtorEq,reduceLeDiff,reduceAdd,reduceLT]
    ((try refine qI ?_);(repeat ((first|with_reducible refine qU ?_ | simp only[Z9]);try simp (maxSteps:=9^7) only[↓ S2,S2,Z7,↓reduceIte,reduceNe,reduceEqDiff,reduceCtorEq,reduceLeDiff,reduceAdd,reduceLT,hr,h,hL,hkk,decide_true,decide_false]));(try simp +contextual (disch:=omega) only[Z2,hr,h,hL,hkk,decide_true,decide_false]);(with_reducible repeat' (first|intro h|refine And.intro (by omega) ?_ | refine exP (by omega) ?_ | apply And.intro)))
    all_goals first|rfl|exact ⟨rfl,rfl⟩|trace_state
  ·have e:Zs ts i lo hh = .bad i:=by unfold Zs;rw[if_neg (fun hc=>by omega)]
   rw[e]
   refine Z6 mxd i125 rfl (by simp) ?_;simp (maxSteps:=9^7) only[↓ S2,S2,Z7,↓reduceIte,reduceNe,reduceEqDiff,reduceCtorEq,reduceLeDiff,reduceAdd,reduceLT]
   ((try refine qI ?_);(repeat ((first|with_reducible refine qU ?_ | simp only[Z9]);try simp (maxSteps:=9^7) only[↓ S2,S2,Z7,↓reduceIte,reduceNe,reduceEqDiff,reduceCtorEq,reduceLeDiff,reduceAdd,reduceLT,hr,hG,decide_true]));(try simp +contextual (disch:=omega) only[Z2,hr,hG,decide_true]);(with_reducible repeat' (first|intro h|refine And.intro (by omega) ?_ | refine exP (by omega) ?_ | apply And.intro)))
   all_goals first|rfl|exact ⟨rfl,rfl⟩|trace_state
theorem w127 (ts:List Go.Gh.Tok) (hl:ts.length≤80) (ht:okTs ts) (i:Nat) (hi:i≤ts.length) (b:Bool) (rp:Nat) (H:GH) (hr:Z3 H rp=some (3,[PaG ts i b])) :
 Gc 127 [.ptr rp 3 0 0] H (fun g H'=>g=T (PR.val noS (frm b (ZP ts) i))∧H'=ZX H rp [PaG ts (frm b (ZP ts) i).at (frm b (ZP ts) i).err]):=by
 have h2:∀fs,Z3 (ZX H rp fs) rp=some (3,fs):=fun fs=>Zz hr
 cases b with
 | true=>
  refine Z6 mxd i127 rfl (by simp) ?_;simp (maxSteps:=9^7) only[↓ S2,S2,Z7,↓reduceIte,reduceNe,reduceEqDiff,reduceCtorEq,reduceLeDiff,reduceAdd,reduceLT]
  ((try refine qI ?_);(repeat ((first|with_reducible refine qU ?_ | simp only[Z9]);try simp (maxSteps:=9^7) only[↓ S2,S2,Z7,↓reduceIte,reduceNe,reduceEqDiff,reduceCtorEq,reduceLeDiff,reduceAdd,reduceLT,hr]));(try simp +contextual (disch:=omega) only[Z2,hr]);(with_reducible repeat' (first|intro h|refine And.intro (by omega) ?_ | refine exP (by omega) ?_ | apply And.intro)))
  all_goals first|rfl|exact ⟨rfl,rfl⟩
 | false=>
  rw[Zn]
  rcases nL i ts.length with h|hG
  ·have hL:¬ts.length≤i:=by omega
   have hx1:((i:Int)+1-1)=(i:Int):=by omega
   have hsz:=(ht _ (gM h)).2
   have hm:ts[i].text.size ≤ maxLen:=by simp only[maxLen,Zu];omega
   by_cases hk:ts[i].kind = 1
   ·have hkk:((ts[i].kind = 1)=True):=eq_true hk
    by_cases hw:YV ts[i].text = true
    ·have e:ZP ts i = .ok ts[i].text (i+1):=by unfold ZP;rw[Zg h,if_pos ⟨h,hk,hw⟩]
     rw[e]
     refine Z6 mxd i127 rfl (by simp) ?_;simp (maxSteps:=9^7) only[↓ S2,S2,Z7,↓reduceIte,reduceNe,reduceEqDiff,reduceCtorEq,reduceLeDiff,reduceAdd,reduceLT]
     ((try refine qI ?_);(repeat ((first|with_reducible refine qU ?_ | simp only[Z9]);try simp (maxSteps:=9^7) only[↓ S2,S2,Z7,↓reduceIte,reduceNe,reduceEqDiff,reduceCtorEq,reduceLeDiff,reduceAdd,reduceLT,hr,h,hL,hkk,decide_true,decide_false]));(try simp +contextual (disch:=omega) only[Z2,hr,h,hL,hkk,decide_true,decide_false]);(with_reducible repeat' (first|intro h|refine And.intro (by omega) ?_ | refine exP (by omega) ?_ | apply And.intro)))
     refine callS.eq (w83 _ hm) ?_
     ((try refine qI ?_);(repeat ((first|with_reducible refine qU ?_ | simp only[Z9]);try simp (maxSteps:=9^7) only[↓ S2,S2,Z7,↓reduceIte,reduceNe,reduceEqDiff,reduceCtorEq,reduceLeDiff,reduceAdd,reduceLT,hw,hr,h,h2,Z0,hx1]));(try simp +contextual (disch:=omega) only[Z2,hw,hr,h,h2,Z0,hx1]);(with_reducible repeat' (first|intro h|refine And.intro (by omega) ?_ | refine exP (by omega) ?_ | apply And.intro)))
     all_goals first|rfl|exact ⟨rfl,rfl⟩|trace_state
    ·have hw':YV ts[i].text = false:=by simpa using hw
     have e:ZP ts i = .bad i:=by unfold ZP;rw[Zg h,if_neg (fun hc=>hw hc.2.2)]
     rw[e]
     refine Z6 mxd i127 rfl (by simp) ?_;simp (maxSteps:=9^7) only[↓ S2,S2,Z7,↓reduceIte,reduceNe,reduceEqDiff,reduceCtorEq,reduceLeDiff,reduceAdd,reduceLT]
     ((try refine qI ?_);(repeat ((first|with_reducible refine qU ?_ | simp only[Z9]);try simp (maxSteps:=9^7) only[↓ S2,S2,Z7,↓reduceIte,reduceNe,reduceEqDiff,reduceCtorEq,reduceLeDiff,reduceAdd,reduceLT,hr,h,hL,hkk,decide_true,decide_false]));(try simp +contextual (disch:=omega) only[Z2,hr,h,hL,hkk,decide_true,decide_false]);(with_reducible repeat' (first|intro h|refine And.intro (by omega) ?_ | refine exP (by omega) ?_ | apply And.intro)))
     refine callS.eq (w83 _ hm) ?_
     ((try refine qI ?_);(repeat ((first|with_reducible refine qU ?_ | simp only[Z9]);try simp (maxSteps:=9^7) only[↓ S2,S2,Z7,↓reduceIte,reduceNe,reduceEqDiff,reduceCtorEq,reduceLeDiff,reduceAdd,reduceLT,hw',hr,h2]));(try simp +contextual (disch:=omega) only[Z2,hw',hr,h2]);(with_reducible repeat' (first|intro h|refine And.intro (by omega) ?_ | refine exP (by omega) ?_ | apply And.intro)))
     all_goals first|rfl|exact ⟨rfl,rfl⟩|trace_state
   ·have e:ZP ts i = .bad i:=by unfold ZP;rw[Zg h,if_neg (fun hc=>hk hc.2.1)]
    have hkk:((ts[i].kind = 1)=False):=eq_false hk
    rw[e]
    refine Z6 mxd i127 rfl (by simp) ?_;simp (maxSteps:=9^7) only[↓ S2,S2,Z7,↓reduceIte,reduceNe,reduceEqDiff,reduceCtorEq,reduceLeDiff,reduceAdd,reduceLT]
    ((try refine qI ?_);(repeat ((first|with_reducible refine qU ?_ | simp only[Z9]);try simp (maxSteps:=9^7) only[↓ S2,S2,Z7,↓reduceIte,reduceNe,reduceEqDiff,reduceCtorEq,reduceLeDiff,reduceAdd,reduceLT,hr,h,hL,hkk,decide_true,decide_false]));(try simp +contextual (disch:=omega) only[Z2,hr,h,hL,hkk,decide_true,decide_false]);(with_reducible repeat' (first|intro h|refine And.intro (by omega) ?_ | refine exP (by omega) ?_ | apply And.intro)))
    all_goals first|rfl|exact ⟨rfl,rfl⟩|trace_state
  ·have e:ZP ts i = .bad i:=by unfold ZP;rw[if_neg (fun hc=>by omega)]
   rw[e]
   refine Z6 mxd i127 rfl (by simp) ?_;simp (maxSteps:=9^7) only[↓ S2,S2,Z7,↓reduceIte,reduceNe,reduceEqDiff,reduceCtorEq,reduceLeDiff,reduceAdd,reduceLT]
   ((try refine qI ?_);(repeat ((first|with_reducible refine qU ?_ | simp only[Z9]);try simp (maxSteps:=9^7) only[↓ S2,S2,Z7,↓reduceIte,reduceNe,reduceEqDiff,reduceCtorEq,reduceLeDiff,reduceAdd,reduceLT,hr,hG,decide_true]));(try simp +contextual (disch:=omega) only[Z2,hr,hG,decide_true]);(with_reducible repeat' (first|intro h|refine And.intro (by omega) ?_ | refine exP (by omega) ?_ | apply And.intro)))
   all_goals first|rfl|exact ⟨rfl,rfl⟩|trace_state
theorem o68 (op:Int) (a b:Exp) (ra rb:Nat) (H:GH) (hab:ra≠rb) (ha:Z3 H ra=some (7,a.args.map ExO)) (hb:Z3 H rb=some (7,b.args.map ExO)) :
 Gc 68 [I op,EO ra a,EO rb b] H (fun g H'=>∃r,g=EO r (opE op a b)∧H'=(r,7,(opE op a b).args.map ExO)::ZL (ZL H ra) rb):=by
 have h0:Gc 68 [I op,EO ra a,EO rb b] H (fun g H'=>∃r,r≠ra∧r≠rb∧g=EO r (opE op a b)∧H'=(r,7,[EO ra a,EO rb b])::H):=by
  refine Z6 mxd i68 rfl (by simp) ?_;simp (maxSteps:=9^7) only[↓ S2,S2,Z7,↓reduceIte,reduceNe,reduceEqDiff,reduceCtorEq,reduceLeDiff,reduceAdd,reduceLT]
  ((try refine qI ?_);(repeat ((first|with_reducible refine qU ?_ | simp only[Z9]);try simp (maxSteps:=9^7) +contextual only[↓ S2,S2,↓reduceIte,reduceNe,reduceEqDiff,reduceCtorEq,reduceLeDiff,reduceAdd,reduceLT,VQ,]));(try simp +contextual (disch:=omega) only[Z2,]);(with_reducible repeat' (first|intro h|refine And.intro (by omega) ?_ | refine exP (by omega) ?_ | apply And.intro)))
  rename_i r
  have h1:=neA_get h.1 ha
  have h2:=neA_get h.1 hb
  exact ⟨r,h1,h2,rfl,rfl⟩
 refine h0.fr ?_
 rintro g H' ⟨r,h1,h2,rfl,rfl⟩
 have e1:ZL (ZX ((r,7,[EO ra a,EO rb b])::H) r [.agg [I a.kind,I a.n,I a.pos,I a.type,T a.sym,T a.name,.osl 7 (a.args.map ExO)],EO rb b]) ra=(r,7,[ExO a,EO rb b])::ZL H ra:=by
  rw[Yi,ExO_eq]
  simp[ZL,h1]
 have e2:ZL (ZX ((r,7,[ExO a,EO rb b])::ZL H ra) r [ExO a,.agg [I b.kind,I b.n,I b.pos,I b.type,T b.sym,T b.name,.osl 7 (b.args.map ExO)]]) rb=(r,7,[ExO a,ExO b])::ZL (ZL H ra) rb:=by
  rw[Yi,ExO_eq b]
  simp[ZL,h2]
 have c1:FR (EO r (opE op a b)) ((r,7,[EO ra a,EO rb b])::H) (EO r (opE op a b)) ((r,7,[ExO a,EO rb b])::ZL H ra):=by
  rw[←e1]
  exact FR.close (es:=[EO ra a,EO rb b]) (i:=0) (j:=6) (gs:=[I a.kind,I a.n,I a.pos,I a.type,T a.sym,T a.name,.own ra 7 0 a.args.length]) h1 Z4 rfl rfl (by rw[ZU h1];exact ha) (by simp)
 have c2:FR (EO r (opE op a b)) ((r,7,[ExO a,EO rb b])::ZL H ra) (EO r (opE op a b)) ((r,7,[ExO a,ExO b])::ZL (ZL H ra) rb):=by
  rw[←e2]
  exact FR.close (es:=[ExO a,EO rb b]) (i:=1) (j:=6) (gs:=[I b.kind,I b.n,I b.pos,I b.type,T b.sym,T b.name,.own rb 7 0 b.args.length]) h2 Z4 rfl rfl (by rw[ZU h2,hget_hdel (Ne.symm hab)];exact hb) (by simp)
 exact ⟨_,_,FR.trans c1 c2,r,rfl,rfl⟩
theorem o126 (ts:List Go.Gh.Tok) (hl:ts.length≤80) (i:Nat) (hi:i≤ts.length) (rp:Nat) (H:GH) (hr:Z3 H rp=some (3,[PaG ts i false])) :
 Gc 126 [.ptr rp 3 0 0] H (EP (PaG ts) ((Y0 ts (ts.length+1) i 0 0).bind fun s j=> .ok (YE s 2) j) rp H):=by
 have h0:Gc 126 [.ptr rp 3 0 0] H (fun g H'=>∃v,g=ExN (YE v 2)∧H'=ZX H rp [PaG ts (Y0 ts (ts.length+1) i 0 0).at (Y0 ts (ts.length+1) i 0 0).err]∧∀a j,Y0 ts (ts.length+1) i 0 0 = .ok a j→v=a):=by
  generalize hR:Y0 ts (ts.length+1) i 0 0=R at *
  refine Z6 mxd i126 rfl (by simp) ?_;simp (maxSteps:=9^7) only[↓ S2,S2,Z7,↓reduceIte,reduceNe,reduceEqDiff,reduceCtorEq,reduceLeDiff,reduceAdd,reduceLT]
  ((try refine qI ?_);(repeat ((first|with_reducible refine qU ?_ | simp only[Z9]);try simp (maxSteps:=9^7) +contextual only[↓ S2,S2,↓reduceIte,reduceNe,reduceEqDiff,reduceCtorEq,reduceLeDiff,reduceAdd,reduceLT,VQ,]));(try simp +contextual (disch:=omega) only[Z2,]);(with_reducible repeat' (first|intro h|refine And.intro (by omega) ?_ | refine exP (by omega) ?_ | apply And.intro)))
  refine Yt mxd (ι:={ x:Nat×Bool×Int×Int // x.1≤ts.length∧0≤x.2.2.1∧x.2.2.1≤4095∧0≤x.2.2.2∧x.2.2.2≤12∧(x.2.1=true→R = .bad x.1)∧(x.2.1=false→∃f,ts.length-x.1<f∧Y0 ts f x.1 x.2.2.2 x.2.2.1=R) }) (fun x=>[(0,.ptr rp 3 0 0),(2,.raw 7),(3,I x.1.2.2.1),(4,I x.1.2.2.2)]) (fun x=>ZX H rp [PaG ts x.1.1 x.1.2.1]) (fun x=>if x.1.2.1=true then 0 else ts.length-x.1.1+1) ⟨(i,false,0,0),hi,by dsimp only;omega,by dsimp only;omega,by dsimp only;omega,by dsimp only;omega,(fun h=>by cases h),fun _ => ⟨_,by dsimp only;omega,hR⟩⟩ (by simp[E2]) (Yb hr).symm ?_
  rintro ⟨⟨k,b,v,l⟩,hk,v0,v1,l0,l1,hb1,hb2⟩
  dsimp only at hk v0 v1 l0 l1 hb1 hb2 ⊢
  have hr':=Zz (fs:=[PaG ts k b]) hr
  cases b with
  | true=>
   obtain rfl:=hb1 rfl
   ((try refine qI ?_);(repeat ((first|with_reducible refine qU ?_ | simp only[Z9]);try simp (maxSteps:=9^7) +contextual only[↓ S2,S2,↓reduceIte,reduceNe,reduceEqDiff,reduceCtorEq,reduceLeDiff,reduceAdd,reduceLT,VQ,hr',Bool.not_true]));(try simp +contextual (disch:=omega) only[Z2,hr',Bool.not_true]);(with_reducible repeat' (first|intro h|refine And.intro (by omega) ?_ | refine exP (by omega) ?_ | apply And.intro)))
   refine callS.of (w65 ts hl k hk true ⟨#[125]⟩ rp _ hr') ?_
   rintro _ _ rfl _
   ((try refine qI ?_);(repeat ((first|with_reducible refine qU ?_ | simp only[Z9]);try simp (maxSteps:=9^7) +contextual only[↓ S2,S2,↓reduceIte,reduceNe,reduceEqDiff,reduceCtorEq,reduceLeDiff,reduceAdd,reduceLT,VQ,Z0]));(try simp +contextual (disch:=omega) only[Z2,Z0]);(with_reducible repeat' (first|intro h|refine And.intro (by omega) ?_ | refine exP (by omega) ?_ | apply And.intro)))
   refine callS.eq (w124 v 2) ?_
   ((try refine qI ?_);(repeat ((first|with_reducible refine qU ?_ | simp only[Z9]);try simp (maxSteps:=9^7) +contextual only[↓ S2,S2,↓reduceIte,reduceNe,reduceEqDiff,reduceCtorEq,reduceLeDiff,reduceAdd,reduceLT,VQ,]));(try simp +contextual (disch:=omega) only[Z2,]);(with_reducible repeat' (first|intro h|refine And.intro (by omega) ?_ | refine exP (by omega) ?_ | apply And.intro)))
   all_goals exact ⟨v,rfl,rfl⟩
  | false=>
   obtain ⟨f,hf,hs⟩:=hb2 rfl
   obtain ⟨f,rfl⟩:∃g,f=g+1:=⟨f-1,by omega⟩
   simp only[Y0] at hs
   cases hq:sees ts k wRB with
   | true=>
    rw[if_pos hq] at hs
    subst hs
    have h1:=w101 ts hl k hk false ⟨#[125]⟩ rp _ hr'
    have h2:=w65 ts hl k hk false ⟨#[125]⟩ rp _ hr'
    rw[show (⟨#[125]⟩:ByteArray)=wRB from rfl] at h1 h2
    rw[hq] at h1
    rw[Zn,take_t hq] at h2
    ((try refine qI ?_);(repeat ((first|with_reducible refine qU ?_ | simp only[Z9]);try simp (maxSteps:=9^7) +contextual only[↓ S2,S2,↓reduceIte,reduceNe,reduceEqDiff,reduceCtorEq,reduceLeDiff,reduceAdd,reduceLT,VQ,hr',Bool.not_false]));(try simp +contextual (disch:=omega) only[Z2,hr',Bool.not_false]);(with_reducible repeat' (first|intro h|refine And.intro (by omega) ?_ | refine exP (by omega) ?_ | apply And.intro)))
    refine callS.of h1 ?_
    rintro _ _ ⟨rfl,rfl⟩ _
    ((try refine qI ?_);(repeat ((first|with_reducible refine qU ?_ | simp only[Z9]);try simp (maxSteps:=9^7) +contextual only[↓ S2,S2,↓reduceIte,reduceNe,reduceEqDiff,reduceCtorEq,reduceLeDiff,reduceAdd,reduceLT,VQ,hr',Bool.not_true]));(try simp +contextual (disch:=omega) only[Z2,hr',Bool.not_true]);(with_reducible repeat' (first|intro h|refine And.intro (by omega) ?_ | refine exP (by omega) ?_ | apply And.intro)))
    refine callS.of h2 ?_
    rintro _ _ rfl _
    ((try refine qI ?_);(repeat ((first|with_reducible refine qU ?_ | simp only[Z9]);try simp (maxSteps:=9^7) +contextual only[↓ S2,S2,↓reduceIte,reduceNe,reduceEqDiff,reduceCtorEq,reduceLeDiff,reduceAdd,reduceLT,VQ,Z0]));(try simp +contextual (disch:=omega) only[Z2,Z0]);(with_reducible repeat' (first|intro h|refine And.intro (by omega) ?_ | refine exP (by omega) ?_ | apply And.intro)))
    refine callS.eq (w124 v 2) ?_
    ((try refine qI ?_);(repeat ((first|with_reducible refine qU ?_ | simp only[Z9]);try simp (maxSteps:=9^7) +contextual only[↓ S2,S2,↓reduceIte,reduceNe,reduceEqDiff,reduceCtorEq,reduceLeDiff,reduceAdd,reduceLT,VQ,]));(try simp +contextual (disch:=omega) only[Z2,]);(with_reducible repeat' (first|intro h|refine And.intro (by omega) ?_ | refine exP (by omega) ?_ | apply And.intro)))
    all_goals first|exact ⟨v,rfl,rfl,fun a j h=>by cases h;rfl⟩|trace_state
   | false=>
    rw[if_neg (by rw[hq];decide)] at hs
    have h1:=w101 ts hl k hk false ⟨#[125]⟩ rp _ hr'
    have h2:=w125 ts hl k hk false l 11 rp _ hr'
    rw[show (⟨#[125]⟩:ByteArray)=wRB from rfl,hq] at h1
    rw[Zn] at h2
    cases hn:Zs ts k l 11 with
    | bad j=>
     rw[hn] at hs h2
     simp only[PR.val,PR.at,PR.err] at h2
     have hj:j=k:=by unfold Zs at hn;split at hn<;>cases hn;rfl
     subst hj
     have hr2:=Zz (fs:=[PaG ts j true]) hr
     ((try refine qI ?_);(repeat ((first|with_reducible refine qU ?_ | simp only[Z9]);try simp (maxSteps:=9^7) +contextual only[↓ S2,S2,↓reduceIte,reduceNe,reduceEqDiff,reduceCtorEq,reduceLeDiff,reduceAdd,reduceLT,VQ,hr',Bool.not_false]));(try simp +contextual (disch:=omega) only[Z2,hr',Bool.not_false]);(with_reducible repeat' (first|intro h|refine And.intro (by omega) ?_ | refine exP (by omega) ?_ | apply And.intro)))
     refine callS.of h1 ?_
     rintro _ _ ⟨rfl,rfl⟩ _
     ((try refine qI ?_);(repeat ((first|with_reducible refine qU ?_ | simp only[Z9]);try simp (maxSteps:=9^7) +contextual only[↓ S2,S2,↓reduceIte,reduceNe,reduceEqDiff,reduceCtorEq,reduceLeDiff,reduceAdd,reduceLT,VQ,hr',Bool.not_true]));(try simp +contextual (disch:=omega) only[Z2,hr',Bool.not_true]);(with_reducible repeat' (first|intro h|refine And.intro (by omega) ?_ | refine exP (by omega) ?_ | apply And.intro)))
     refine callS.of h2 ?_
     rintro _ _ ⟨rfl,rfl⟩ _
     ((try refine qI ?_);(repeat ((first|with_reducible refine qU ?_ | simp only[Z9]);try simp (maxSteps:=9^7) +contextual only[↓ S2,S2,↓reduceIte,reduceNe,reduceEqDiff,reduceCtorEq,reduceLeDiff,reduceAdd,reduceLT,VQ,Z0,hr2]));(try simp +contextual (disch:=omega) only[Z2,Z0,hr2]);(with_reducible repeat' (first|intro h|refine And.intro (by omega) ?_ | refine exP (by omega) ?_ | apply And.intro)))
     exact nx ⟨(j,true,v,l),hk,v0,v1,l0,l1,fun _ => hs.symm,fun h=>by cases h⟩ (by simp) (by simp[E2]) rfl
    | ok n j=>
     rw[hn] at hs h2
     simp only[PR.val,PR.at,PR.err] at h2
     have hlt0:=num_lt hn
     obtain ⟨rfl,n0,n1⟩:=num_nx hn
     have hlt:k<ts.length:=hlt0
     obtain ⟨q0,q1,_⟩:=set_len v0 v1 (by omega:0≤n) n1
     have hr2:=Zz (fs:=[PaG ts (k+1) false]) hr
     have hwu:=wrapU n (by omega) (by omega)
     ((try refine qI ?_);(repeat ((first|with_reducible refine qU ?_ | simp only[Z9]);try simp (maxSteps:=9^7) +contextual only[↓ S2,S2,↓reduceIte,reduceNe,reduceEqDiff,reduceCtorEq,reduceLeDiff,reduceAdd,reduceLT,VQ,hr',Bool.not_false]));(try simp +contextual (disch:=omega) only[Z2,hr',Bool.not_false]);(with_reducible repeat' (first|intro h|refine And.intro (by omega) ?_ | refine exP (by omega) ?_ | apply And.intro)))
     refine callS.of h1 ?_
     rintro _ _ ⟨rfl,rfl⟩ _
     ((try refine qI ?_);(repeat ((first|with_reducible refine qU ?_ | simp only[Z9]);try simp (maxSteps:=9^7) +contextual only[↓ S2,S2,↓reduceIte,reduceNe,reduceEqDiff,reduceCtorEq,reduceLeDiff,reduceAdd,reduceLT,VQ,hr',Bool.not_true]));(try simp +contextual (disch:=omega) only[Z2,hr',Bool.not_true]);(with_reducible repeat' (first|intro h|refine And.intro (by omega) ?_ | refine exP (by omega) ?_ | apply And.intro)))
     refine callS.of h2 ?_
     rintro _ _ ⟨rfl,rfl⟩ _
     ((try refine qI ?_);(repeat ((first|with_reducible refine qU ?_ | simp only[Z9]);try simp (maxSteps:=9^7) +contextual only[↓ S2,S2,↓reduceIte,reduceNe,reduceEqDiff,reduceCtorEq,reduceLeDiff,reduceAdd,reduceLT,VQ,Z0,hr2,hwu]));(try simp +contextual (disch:=omega) only[Z2,Z0,hr2,hwu]);(with_reducible repeat' (first|intro h|refine And.intro (by omega) ?_ | refine exP (by omega) ?_ | apply And.intro)))
     all_goals try exact oF
     all_goals first|exact nx ⟨(k+1,false,orI .i64 v (shlI .i64 1 n),n+1),by dsimp only;omega,q0,q1,by dsimp only;omega,by dsimp only;omega,(fun h=>by cases h),fun _ => ⟨f,by dsimp only;omega,hs⟩⟩ (by dsimp only;simp;omega) (by simp[E2]) rfl|trace_state
 refine h0.fr ?_
 rintro g H' ⟨v,rfl,rfl,hv⟩
 obtain ⟨r,hf⟩:=FR.nilE (e:=YE v 2) rfl (ZX H rp [PaG ts (Y0 ts (ts.length+1) i 0 0).at (Y0 ts (ts.length+1) i 0 0).err])
 refine ⟨_,_,hf,YE v 2,r,rfl,?_,?_⟩
 ·cases Y0 ts (ts.length+1) i 0 0<;>rfl
 ·intro a j h
  cases hs:Y0 ts (ts.length+1) i 0 0 with
  | bad k=>rw[hs] at h;cases h
  | ok s k=>rw[hs] at h;cases h;rw[hv s _ hs]
theorem Tryz.rowS (lv:Nat) (h2:2≤lv) (h3:lv≤3) (ts:List Go.Gh.Tok) (hl:ts.length≤80) (ht:okTs ts) (X:Nat→PR Exp) (i0:Nat) (hXb:∀i,BdA ts i (X i))
 (hX:∀(i:Nat) (b:Bool) (rp:Nat) (H:GH),i0≤i→i≤ts.length→Z3 H rp=some (3,[PaG ts i b])→Gc 66 [.ptr rp 3 0 0,I ((lv:Int)+1)] H (EP (PaG ts) (frm b X i) rp H))
 (i:Nat) (b:Bool) (rp:Nat) (H:GH) (h0i:i0≤i) (hi:i≤ts.length) (hr:Z3 H rp=some (3,[PaG ts i b])):Gc 66 [.ptr rp 3 0 0,I lv] H (EP (PaG ts) (frm b (lvP ts X lv) i) rp H):=by
 have hlv4:¬(lv:Int)=4:=by omega
 generalize hR:frm b (lvP ts X lv) i=R
 have h0:Gc 66 [.ptr rp 3 0 0,I lv] H (fun g H'=>∃e r r5 u,r≠r5∧g=EO r e∧H'=(r,7,e.args.map ExO)::(r5,7,u)::ZX H rp [PaG ts R.at R.err]∧∀a j,R = .ok a j→e=a):=by
  refine Z6 mxd i66 rfl (by simp) ?_;simp (maxSteps:=9^7) only[↓ S2,S2,Z7,↓reduceIte,reduceNe,reduceEqDiff,reduceCtorEq,reduceLeDiff,reduceAdd,reduceLT]
  ((try refine qI ?_);(repeat ((first|with_reducible refine qU ?_ | simp only[Z9]);try simp (maxSteps:=9^7) +contextual only[↓ S2,S2,↓reduceIte,reduceNe,reduceEqDiff,reduceCtorEq,reduceLeDiff,reduceAdd,reduceLT,VQ,hlv4]));(try simp +contextual (disch:=omega) only[Z2,hlv4]);(with_reducible repeat' (first|intro h|refine And.intro (by omega) ?_ | refine exP (by omega) ?_ | apply And.intro)))
  all_goals try exact oF
  refine callS.of (hX i b rp H h0i hi hr) ?_
  rintro g H' ⟨e,r,rfl,rfl,he⟩ hn
  have hP:(frm b X i).at ≤ ts.length:=Zt (hXb i) hi
  have hP0:i0≤(frm b X i).at := Nat.le_trans h0i (X7 (hXb i) hi)
  generalize hPP:frm b X i=P at *
  have hr1:=Zz (fs:=[PaG ts P.at P.err]) hr
  have hrp:=ZH hn hr1
  replace hn:=neH_of hn
  (replace hn:=hn;simp only[VN] at hn)
  ((try refine qI ?_);(repeat ((first|with_reducible refine qU ?_ | simp only[Z9]);try simp (maxSteps:=9^7) +contextual only[↓ S2,S2,↓reduceIte,reduceNe,reduceEqDiff,reduceCtorEq,reduceLeDiff,reduceAdd,reduceLT,VQ,hn]));(try simp +contextual (disch:=omega) only[Z2,hn]);(with_reducible repeat' (first|intro h|refine And.intro (by omega) ?_ | refine exP (by omega) ?_ | apply And.intro)))
  all_goals try exact oF
  rename_i r5
  have hr5:=neA_get h.1.2.2 hr1
  have hne:=h.1.2.1
  clear hn
  have hg1:Z3 ((r5,7,[EO r e])::(r,7,e.args.map ExO)::ZX H rp [PaG ts P.at P.err]) rp=some (3,[PaG ts P.at P.err]):=by rw[ZU hr5,ZU hrp];exact hr1
  refine callS.of (w67 ts hl ht P.at hP P.err lv (by omega) h3 rp _ hg1) ?_
  rintro _ _ ⟨rfl,rfl⟩ _
  rw[ZE hr5,ZE hrp,Z0]
  ((try refine qI ?_);(repeat ((first|with_reducible refine qU ?_ | simp only[Z9]);try simp (maxSteps:=9^7) +contextual only[↓ S2,S2,↓reduceIte,reduceNe,reduceEqDiff,reduceCtorEq,reduceLeDiff,reduceAdd,reduceLT,VQ,]));(try simp +contextual (disch:=omega) only[Z2,]);(with_reducible repeat' (first|intro h|refine And.intro (by omega) ?_ | refine exP (by omega) ?_ | apply And.intro)))
  have hinv:(P.err=true→R = .bad P.at)∧(P.err=false→∃F,ts.length-P.at<F∧Y5 ts X lv F e P.at=R):=by
   cases b with
   | true=>rw[frm_t] at hPP hR;subst hPP hR;exact ⟨fun _ => rfl,fun h=>by cases h⟩
   | false=>
    rw[Zn] at hPP hR
    unfold lvP at hR
    rw[hPP] at hR
    cases P with
    | bad k=>exact ⟨fun _ => hR.symm,fun h=>by cases h⟩
    | ok a k=>
     obtain rfl:=he a k rfl
     exact ⟨(fun h=>by cases h),fun _ => ⟨ts.length+1,by omega,hR⟩⟩
  refine wloopF mxd (ι:={ y:Nat×Bool×Exp×Nat // (i0≤y.1∧y.1≤ts.length)∧y.2.2.2≠r5∧(y.2.1=true→R = .bad y.1)∧(y.2.1=false→∃F,ts.length-y.1<F∧Y5 ts X lv F y.2.2.1 y.1=R) }) (fun y=>[(0,.ptr rp 3 0 0),(1,I lv),(4,.raw 7),(5,.ptr r5 7 0 0),(6,I (opB ts y.1.2.1 y.1.1 lv))]) (fun y=>(y.1.2.2.2,7,y.1.2.2.1.args.map ExO)::(r5,7,[EO y.1.2.2.2 y.1.2.2.1])::ZX H rp [PaG ts (if opB ts y.1.2.1 y.1.1 lv≠0 then y.1.1+1 else y.1.1) y.1.2.1]) (fun y=>if y.1.2.1=true then 0 else ts.length-y.1.1+1) ⟨(P.at,P.err,e,r),⟨hP0,hP⟩,hne,hinv.1,hinv.2⟩ FE.swap (by simp[E2]) rfl ?_
  clear hinv hg1 he hPP hP hP0 hr1 hrp hne h
  rintro ⟨⟨k,c,e,r⟩,⟨hk0,hk⟩,hne,h1,h2⟩ hn
  dsimp only at hk0 hk hne h1 h2 hn ⊢
  refine gwp_ok mxd ?_
  have hrp:r≠rp:=ZH hn (by rw[ZU hr5];exact Zz hr)
  by_cases ho:opB ts c k lv=0
  ·have hst:(if opB ts c k lv≠0 then k+1 else k)=k:=if_neg (fun h=>h ho)
   rw[hst]
   have hRk:R.at=k∧R.err=c∧∀a j,R = .ok a j→e=a:=by
    cases c with
    | true=>rw[h1 rfl];exact ⟨rfl,rfl,fun a j h=>by cases h⟩
    | false=>
     obtain ⟨F,hF,hs⟩:=h2 rfl
     obtain ⟨F,rfl⟩:∃G,F=G+1:=⟨F-1,by omega⟩
     simp only[Y5] at hs
     rw[if_pos (show Go.Gh.opAt ts k lv=0 from ho)] at hs
     subst hs
     exact ⟨rfl,rfl,fun a j h=>by cases h;rfl⟩
   ((try refine qI ?_);(repeat ((first|with_reducible refine qU ?_ | simp only[Z9]);try simp (maxSteps:=9^7) +contextual only[↓ S2,S2,↓reduceIte,reduceNe,reduceEqDiff,reduceCtorEq,reduceLeDiff,reduceAdd,reduceLT,VQ,ho,hne]));(try simp +contextual (disch:=omega) only[Z2,ho,hne]);(with_reducible repeat' (first|intro h|refine And.intro (by omega) ?_ | refine exP (by omega) ?_ | apply And.intro)))
   all_goals try exact oF
   all_goals exact ⟨e,r,r5,_,hne,rfl,by rw[hRk.1,hRk.2.1],hRk.2.2⟩
  ·have hst:(if opB ts c k lv≠0 then k+1 else k)=k+1:=if_pos ho
   rw[hst]
   obtain rfl:c=false:=by
    cases c with
    | true=>exact absurd rfl ho
    | false=>rfl
   have hlt:k<ts.length:=by
    rcases nL k ts.length with h|h
    ·exact h
    ·exact absurd (opB_ge h lv) ho
   obtain ⟨F,hF,hs⟩:=h2 rfl
   obtain ⟨F,rfl⟩:∃G,F=G+1:=⟨F-1,by omega⟩
   simp only[Y5] at hs
   rw[if_neg (show ¬Go.Gh.opAt ts k lv=0 from ho)] at hs
   have hop:Go.Gh.opAt ts k lv=opB ts false k lv:=rfl
   rw[hop] at hs
   have hbd:=hXb (k+1) (by omega)
   have hg0:=Zz (fs:=[PaG ts (k+1) false]) hr
   have hx:=hX (k+1) false rp ((r,7,e.args.map ExO)::(r5,7,[EO r e])::ZX H rp [PaG ts (k+1) false]) (by omega) (by omega) (by rw[ZU hrp,ZU hr5];exact hg0)
   rw[Zn] at hx
   generalize hXX:X (k+1)=Q at *
   generalize opB ts false k lv=o at *
   have hne':r5≠r:=Ne.symm hne
   ((try refine qI ?_);(repeat ((first|with_reducible refine qU ?_ | simp only[Z9]);try simp (maxSteps:=9^7) +contextual only[↓ S2,S2,↓reduceIte,reduceNe,reduceEqDiff,reduceCtorEq,reduceLeDiff,reduceAdd,reduceLT,VQ,ho,hne,hne']));(try simp +contextual (disch:=omega) only[Z2,ho,hne,hne']);(with_reducible repeat' (first|intro h|refine And.intro (by omega) ?_ | refine exP (by omega) ?_ | apply And.intro)))
   all_goals try exact oF
   refine callK.of hx ?_
   rintro g H' ⟨e2,q,rfl,rfl,he2⟩ hq
   have hqr5:q≠r5:=ZH hq (by rw[ZE hrp,ZE hr5,ZU hne];exact Z4)
   have hqr:q≠r:=ZH hq (by rw[ZE hrp,ZE hr5];exact Z4)
   rw[ZE hrp,ZE hr5,Z0]
   refine ⟨⟨by simp[kpt1,ZS,ZU hqr5,ZU hne,Z4],trivial⟩,?_⟩
   ((try refine qI ?_);(repeat ((first|with_reducible refine qU ?_ | simp only[Z9]);try simp (maxSteps:=9^7) +contextual only[↓ S2,S2,↓reduceIte,reduceNe,reduceEqDiff,reduceCtorEq,reduceLeDiff,reduceAdd,reduceLT,VQ,]));(try simp +contextual (disch:=omega) only[Z2,]);(with_reducible repeat' (first|intro h|refine And.intro (by omega) ?_ | refine exP (by omega) ?_ | apply And.intro)))
   have hgr:Z3 ((q,7,e2.args.map ExO)::(r,7,e.args.map ExO)::(r5,7,[EO r e])::ZX H rp [PaG ts Q.at Q.err]) r=some (7,e.args.map ExO):=by rw[ZU hqr];exact Z4
   refine callS.of (o68 o e e2 r q _ (Ne.symm hqr) hgr Z4) ?_
   rintro g H' ⟨r3,rfl,rfl⟩ hn3
   have hd:ZL (ZL ((q,7,e2.args.map ExO)::(r,7,e.args.map ExO)::(r5,7,[EO r e])::ZX H rp [PaG ts Q.at Q.err]) r) q=(r5,7,[EO r e])::ZX H rp [PaG ts Q.at Q.err]:=by simp[ZL,hqr]
   rw[hd] at hn3 ⊢
   have h35:r3≠r5:=ZH hn3 Z4
   have hg2:=Zz (fs:=[PaG ts Q.at Q.err]) hr
   have h3p:r3≠rp:=ZH hn3 (by rw[ZU hr5];exact hg2)
   ((try refine qI ?_);(repeat ((first|with_reducible refine qU ?_ | simp only[Z9]);try simp (maxSteps:=9^7) +contextual only[↓ S2,S2,↓reduceIte,reduceNe,reduceEqDiff,reduceCtorEq,reduceLeDiff,reduceAdd,reduceLT,VQ,h35]));(try simp +contextual (disch:=omega) only[Z2,h35]);(with_reducible repeat' (first|intro h|refine And.intro (by omega) ?_ | refine exP (by omega) ?_ | apply And.intro)))
   all_goals try exact oF
   have hQ:Q.at≤ts.length:=hbd.2
   have hQ1:k+1≤Q.at:=hbd.1
   refine callS.of (w67 ts hl ht Q.at hQ Q.err lv (by omega) h3 rp _ (by rw[ZU h3p,ZU hr5];exact hg2)) ?_
   rintro _ _ ⟨rfl,rfl⟩ _
   rw[ZE h3p,ZE hr5,Z0]
   ((try refine qI ?_);(repeat ((first|with_reducible refine qU ?_ | simp only[Z9]);try simp (maxSteps:=9^7) +contextual only[↓ S2,S2,↓reduceIte,reduceNe,reduceEqDiff,reduceCtorEq,reduceLeDiff,reduceAdd,reduceLT,VQ,]));(try simp +contextual (disch:=omega) only[Z2,]);(with_reducible repeat' (first|intro h|refine And.intro (by omega) ?_ | refine exP (by omega) ?_ | apply And.intro)))
   have hn1:Q.err=true→R = .bad Q.at:=fun h=>by
    cases Q with
    | bad j=>exact hs.symm
    | ok a j=>cases h
   have hn2:Q.err=false→∃F,ts.length-Q.at<F∧Y5 ts X lv F (opE o e e2) Q.at=R:=fun h=>by
    cases Q with
    | bad j=>cases h
    | ok a j=>
     obtain rfl:=he2 a j rfl
     simp only[PR.bind] at hs
     rw[if_neg (by omega)] at hs
     have hQ1:k+1≤j:=hQ1
     exact ⟨F,by show ts.length-j<F;omega,hs⟩
   exact nx ⟨(Q.at,Q.err,opE o e e2,r3),⟨by show i0≤Q.at;omega,hQ⟩,h35,hn1,hn2⟩ (by dsimp only;simp only[Bool.false_eq_true,if_false];split<;>omega) (by simp[E2]) rfl
 refine h0.fr ?_
 rintro g H' ⟨e,r,r5,u,hne,rfl,rfl,he⟩
 exact ⟨_,_,FR.perm (H:=[(r,7,e.args.map ExO),(r5,7,u)]) (L:=[(r,7,e.args.map ExO)]) (by simp[subH,Z3,names]),e,r,rfl,rfl,he⟩
end Go.Proofs.YtkmedfejmndmjaaGreatDoor
