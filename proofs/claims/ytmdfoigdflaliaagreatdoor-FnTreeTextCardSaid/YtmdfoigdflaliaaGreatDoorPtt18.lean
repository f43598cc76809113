/- The tied card of the law holds. No condition. -/
import Derived.Test.YtmdfoigdflaliaaGreatDoorPtt12
import Derived.Test.YtmdfoigdflaliaaGreatDoorPtt17
set_option maxHeartbeats 40000000
set_option maxRecDepth 20000
set_option linter.unusedSimpArgs false
set_option linter.unusedVariables false
namespace Go.Proofs.YtmdfoigdflaliaaGreatDoor
open Go.Gh
open Nat (reduceEqDiff reduceLeDiff reduceAdd reduceLT)
open Int (reduceNe)
open Go.Lib
theorem e31 (g:Gram) (hg:smGr g) (hr3:∀r∈g.rules,r.right.length≤3) (f:Int) (hf0:0≤f) (hf1:f≤1000) (s:ByteArray) (hs:(Z6 s).length ≤ 1048576) (m:Nat)
 (ih:∀m',m'<m→∀(i a rp:Nat) (H:GH),1016≤f+i+m'→f+i≤1016→a≤1060000→Gc 31 [.ptr rp 4 0 0,Gr g] ((rp,4,[.agg [T s,I a,I (f+i),B false]])::H) (fun v H'=>∃fs,nsR g f s i a v fs∧H'=(rp,4,fs)::H)) :
 ∀(i a rp:Nat) (H:GH),1016≤f+i+m→f+i≤1016→a≤1060000→Gc 31 [.ptr rp 4 0 0,Gr g] ((rp,4,[.agg [T s,I a,I (f+i),B false]])::H) (fun v H'=>∃fs,nsR g f s i a v fs∧H'=(rp,4,fs)::H):=by
 intro i a rp H hm hi ha
 refine GCalls.nd fun hn0=> ?_
 have h7:=Z0 hn0
 (replace h7:=h7;simp only[VN] at h7)
 have hnil:Bor [] (.agg [ZE]) (Tr []):= .agg (.cons .nil .nil)
 have h0:Gc 31 [.ptr rp 4 0 0,Gr g] ((rp,4,[.agg [T s,I a,I (f+i),B false]])::H) (fun v H'=>∃v' fs,nsR g f s i a v' fs∧FR v H' v' ((rp,4,fs)::H)):=by
  have i2:((0:Int)≤(a:Int))=True:=eq_true (by omega)
  have hbadx:Y4 g niN f ((Z6 s).drop a) i=none→∀x y:Int,∃v' fs,nsR g f s i a v' fs∧FR (.agg [ZE]) ((rp,4,[.agg [T s,I x,I y,B true]])::H) v' ((rp,4,fs)::H):=fun h x y=>⟨Tr [],_,.inl ⟨h,rfl,x,y,rfl⟩,FR.sub hnil⟩
  refine gstartG i31 rfl (by simp) ?_
  refine Zn mxd ?_
  ((try refine qI ?_);(repeat ((first|with_reducible refine qU ?_ | simp only[Z5]);try simp (maxSteps:=9^7) +contextual only[↓ S2,S2,↓reduceIte,reduceNe,reduceEqDiff,reduceCtorEq,reduceLeDiff,reduceAdd,reduceLT,VQ,]));(try simp +contextual (disch:=omega) only[Z2,]);(with_reducible repeat' (first|intro h|refine And.intro (by omega) ?_ | refine exP (by omega) ?_ | apply And.intro)))
  rcases nL a (Z6 s).length with hlt|hge
  case inr=>
   have e1:(((Z6 s).length : Int)≤(a:Int))=True:=eq_true (by omega)
   have hno:Y4 g niN f ((Z6 s).drop a) i=none:=by rw[List.drop_eq_nil_of_le hge];rfl
   refine ZD mxd ?_
   ((try refine qI ?_);(repeat ((first|with_reducible refine qU ?_ | simp only[Z5]);try simp (maxSteps:=9^7) +contextual only[↓ S2,S2,↓reduceIte,reduceNe,reduceEqDiff,reduceCtorEq,reduceLeDiff,reduceAdd,reduceLT,VQ,e1,ge_iff_le]));(try simp +contextual (disch:=omega) only[Z2,e1,ge_iff_le]);(with_reducible repeat' (first|intro h|refine And.intro (by omega) ?_ | refine exP (by omega) ?_ | apply And.intro)))
   exact hbadx hno _ _
  have e1:(((Z6 s).length : Int)≤(a:Int))=False:=eq_false (by omega)
  by_cases hc:((Z6 s)[a].toNat : Int)=40
  case neg=>
   have hno:=oneS_no (g:=g) (ni:=niN) (first:=f) (i:=i) (drop_no40 hlt hc)
   refine ZD mxd ?_
   ((try refine qI ?_);(repeat ((first|with_reducible refine qU ?_ | simp only[Z5]);try simp (maxSteps:=9^7) only[↓ S2,S2,ZT,↓reduceIte,reduceNe,reduceEqDiff,reduceCtorEq,reduceLeDiff,reduceAdd,reduceLT,e1,hc,i2,hlt,ge_iff_le,Int.toNat_natCast,not_false_eq_true,decide_true,decide_false]));(try simp +contextual (disch:=omega) only[Z2,e1,hc,i2,hlt,ge_iff_le,Int.toNat_natCast,not_false_eq_true,decide_true,decide_false]);(with_reducible repeat' (first|intro h|refine And.intro (by omega) ?_ | refine exP (by omega) ?_ | apply And.intro)))
   exact hbadx hno _ _
  by_cases hid:f+(i:Int)≤1015
  case neg=>
   have hno:=oneS_id (g:=g) (ni:=niN) (first:=f) (l:=(Z6 s).drop a) (show f+(i:Int)>1015 by omega)
   have e3:((1015:Int)<f+(i:Int))=True:=eq_true (by omega)
   refine ZD mxd ?_
   ((try refine qI ?_);(repeat ((first|with_reducible refine qU ?_ | simp only[Z5]);try simp (maxSteps:=9^7) only[↓ S2,S2,ZT,↓reduceIte,reduceNe,reduceEqDiff,reduceCtorEq,reduceLeDiff,reduceAdd,reduceLT,e1,hc,e3,i2,hlt,ge_iff_le,gt_iff_lt,Int.toNat_natCast,not_false_eq_true,decide_true,decide_false,not_true_eq_false]));(try simp +contextual (disch:=omega) only[Z2,e1,hc,e3,i2,hlt,ge_iff_le,gt_iff_lt,Int.toNat_natCast,not_false_eq_true,decide_true,decide_false,not_true_eq_false]);(with_reducible repeat' (first|intro h|refine And.intro (by omega) ?_ | refine exP (by omega) ?_ | apply And.intro)))
   exact hbadx hno _ _
  have e3:((1015:Int)<f+(i:Int))=False:=eq_false (by omega)
  clear hbadx
  have hd:=drop_40 hlt hc
  obtain ⟨m,rfl⟩:∃m',m=m'+1:=⟨m-1,by omega⟩
  obtain ⟨a1,ha1⟩:∃x:Nat,x=a+1:=⟨_,rfl⟩
  have wa1:IntKind.i64.wrap ((a:Int)+1)=(a1:Int):=by rw[wrap64 (by omega) (by omega)];omega
  rw[←ha1] at hd
  have hO:∀r,Y4 g niN f (40::(Z6 s).drop a1) i=r→Y4 g niN f ((Z6 s).drop a) i=r:=fun r h=>by rw[hd];exact h
  clear hd
  have hw:=o54 s hs a1 (by omega) (I (f+i)) (B false) rp H
  obtain ⟨a2,ha2⟩:∃x:Nat,x=a1+(((Z6 s).drop a1).takeWhile inS).length := ⟨_,rfl⟩
  rw[←ha2] at hw
  have hd1:(Z6 s).drop a2=((Z6 s).drop a1).dropWhile inS:=by rw[ha2];exact drop_dw ..
  have ha2l:a2≤(Z6 s).length := by
   have h1:=(List.takeWhile_sublist inS (l:=(Z6 s).drop a1)).length_le
   rw[List.length_drop] at h1
   omega
  have hbad:¬Y6 g.rules (bA (((Z6 s).drop a1).takeWhile inS))=true→Y4 g niN f (40::(Z6 s).drop a1) i=none:=oneS_bad
  have hkn:=oneS_knone (g:=g) (ni:=niN) (first:=f) (l:=(Z6 s).drop a1) (i:=i) (by omega)
  have hke:=fun ks l2=>oneS_end (g:=g) (ni:=niN) (first:=f) (l:=(Z6 s).drop a1) (i:=i) (ks:=ks) (l2:=l2) (by omega)
  have hfr:=w44 g (bA (((Z6 s).drop a1).takeWhile inS)) hg
  have hrl:(ZH g.rules (bA (((Z6 s).drop a1).takeWhile inS))).right.length ≤ 3:=by
   rcases fRul_mem g.rules (bA (((Z6 s).drop a1).takeWhile inS)) with h|h
   ·exact hr3 _ h
   ·rw[h];decide
  have hLv:∀b,litL b ((Z6 s).drop a1)=if b=true then ((Z6 s).drop (a2+1)).dropWhile inS else (Z6 s).drop a2:=fun b=>by
   unfold litL;rw[←hd1,List.drop_drop]
  have hLw:∀b,litV niN b ((Z6 s).drop a1)=if b=true then (niN (((Z6 s).drop (a2+1)).takeWhile inS)).1 else 0:=fun b=>by
   unfold litV;rw[←hd1,List.drop_drop]
  generalize hW:bA (((Z6 s).drop a1).takeWhile inS)=W at *
  generalize hL1:(Z6 s).drop a1=l1 at *
  generalize hR:ZH g.rules W=R at *
  generalize Y6 g.rules W=hr at *
  have wid:IntKind.i64.wrap (f+(i:Int)+1)=f+((i+1:Nat):Int):=by rw[wrap64 (by omega) (by omega)];omega
  refine Zn mxd ?_
  ((try refine qI ?_);(repeat ((first|with_reducible refine qU ?_ | simp only[Z5]);try simp (maxSteps:=9^7) only[↓ S2,S2,ZT,↓reduceIte,reduceNe,reduceEqDiff,reduceCtorEq,reduceLeDiff,reduceAdd,reduceLT,e1,hc,e3,i2,hlt,ge_iff_le,gt_iff_lt,Int.toNat_natCast,not_false_eq_true,decide_true,decide_false,not_true_eq_false]));(try simp +contextual (disch:=omega) only[Z2,e1,hc,e3,i2,hlt,ge_iff_le,gt_iff_lt,Int.toNat_natCast,not_false_eq_true,decide_true,decide_false,not_true_eq_false]);(with_reducible repeat' (first|intro h|refine And.intro (by omega) ?_ | refine exP (by omega) ?_ | apply And.intro)))
  refine Zn mxd ?_
  ((try refine qI ?_);(repeat ((first|with_reducible refine qU ?_ | simp only[Z5]);try simp (maxSteps:=9^7) +contextual only[↓ S2,S2,↓reduceIte,reduceNe,reduceEqDiff,reduceCtorEq,reduceLeDiff,reduceAdd,reduceLT,VQ,wa1]));(try simp +contextual (disch:=omega) only[Z2,wa1]);(with_reducible repeat' (first|intro h|refine And.intro (by omega) ?_ | refine exP (by omega) ?_ | apply And.intro)))
  refine Zn mxd ?_
  ((try refine qI ?_);(repeat ((first|with_reducible refine qU ?_ | simp only[Z5]);try simp (maxSteps:=9^7) +contextual only[↓ S2,S2,↓reduceIte,reduceNe,reduceEqDiff,reduceCtorEq,reduceLeDiff,reduceAdd,reduceLT,VQ,]));(try simp +contextual (disch:=omega) only[Z2,]);(with_reducible repeat' (first|intro h|refine And.intro (by omega) ?_ | refine exP (by omega) ?_ | apply And.intro)))
  refine callF.of hw ?_
  rintro _ _ ⟨rfl,rfl⟩ -
  refine ⟨kpt_r4 ZX ZX,?_⟩
  ((try refine qI ?_);(repeat ((first|with_reducible refine qU ?_ | simp only[Z5]);try simp (maxSteps:=9^7) +contextual only[↓ S2,S2,↓reduceIte,reduceNe,reduceEqDiff,reduceCtorEq,reduceLeDiff,reduceAdd,reduceLT,VQ,]));(try simp +contextual (disch:=omega) only[Z2,]);(with_reducible repeat' (first|intro h|refine And.intro (by omega) ?_ | refine exP (by omega) ?_ | apply And.intro)))
  rename_i r8
  have h8:=h
  clear h hw
  refine Zn mxd ?_
  ((try refine qI ?_);(repeat ((first|with_reducible refine qU ?_ | simp only[Z5]);try simp (maxSteps:=9^7) +contextual only[↓ S2,S2,↓reduceIte,reduceNe,reduceEqDiff,reduceCtorEq,reduceLeDiff,reduceAdd,reduceLT,VQ,h7,h8,wid]));(try simp +contextual (disch:=omega) only[Z2,h7,h8,wid]);(with_reducible repeat' (first|intro h|refine And.intro (by omega) ?_ | refine exP (by omega) ?_ | apply And.intro)))
  refine Zn mxd ?_
  ((try refine qI ?_);(repeat ((first|with_reducible refine qU ?_ | simp only[Z5]);try simp (maxSteps:=9^7) +contextual only[↓ S2,S2,↓reduceIte,reduceNe,reduceEqDiff,reduceCtorEq,reduceLeDiff,reduceAdd,reduceLT,VQ,h7,h8]));(try simp +contextual (disch:=omega) only[Z2,h7,h8]);(with_reducible repeat' (first|intro h|refine And.intro (by omega) ?_ | refine exP (by omega) ?_ | apply And.intro)))
  refine callS.eq hfr ?_
  ((try refine qI ?_);(repeat ((first|with_reducible refine qU ?_ | simp only[Z5]);try simp (maxSteps:=9^7) +contextual only[↓ S2,S2,↓reduceIte,reduceNe,reduceEqDiff,reduceCtorEq,reduceLeDiff,reduceAdd,reduceLT,VQ,h7,h8]));(try simp +contextual (disch:=omega) only[Z2,h7,h8]);(with_reducible repeat' (first|intro h|refine And.intro (by omega) ?_ | refine exP (by omega) ?_ | apply And.intro)))
  clear hfr
  refine Zn mxd ?_
  ((try refine qI ?_);(repeat ((first|with_reducible refine qU ?_ | simp only[Z5]);try simp (maxSteps:=9^7) +contextual only[↓ S2,S2,↓reduceIte,reduceNe,reduceEqDiff,reduceCtorEq,reduceLeDiff,reduceAdd,reduceLT,VQ,h7,h8]));(try simp +contextual (disch:=omega) only[Z2,h7,h8]);(with_reducible repeat' (first|intro h|refine And.intro (by omega) ?_ | refine exP (by omega) ?_ | apply And.intro)))
  refine GW.cut mxd (fun env' H'=>∃(bad:Bool) (lt:Int) (a3:Nat),(bad=false→hr=true∧litL R.lit l1=(Z6 s).drop a3∧litV niN R.lit l1=lt∧a3≤(Z6 s).length + 1)∧(bad=true→Y4 g niN f (40::l1) i=none)∧a3≤(Z6 s).length + 1∧subE env' [(0,.ptr rp 4 0 0),(3,.rop 2 (Gr g)),(4,.raw 1),(5,.ptr r8 6 0 0),(6,.rop 6 (Ru R))]∧H'=(r8,6,[.agg [I (f+(i:Int)),I 0,I 0,I lt,T W,ZE]])::(rp,4,[.agg [T s,I a3,I (f+((i+1:Nat):Int)),B bad]])::H) ?_ ?_
  ·cases hr with
   | false=>
    have hno:=hbad (by simp)
    cases hlt2:R.lit with
    | false=>
     ((try refine qI ?_);(repeat ((first|with_reducible refine qU ?_ | simp only[Z5]);try simp (maxSteps:=9^7) +contextual only[↓ S2,S2,↓reduceIte,reduceNe,reduceEqDiff,reduceCtorEq,reduceLeDiff,reduceAdd,reduceLT,VQ,h7,h8,hlt2]));(try simp +contextual (disch:=omega) only[Z2,h7,h8,hlt2]);(with_reducible repeat' (first|intro h|refine And.intro (by omega) ?_ | refine exP (by omega) ?_ | apply And.intro)))
     exact ⟨true,0,a2,(fun h=>by cases h),fun _ => hno,by omega,by simp[E2,hlt2],rfl⟩
    | true=>
     ((try refine qI ?_);(repeat ((first|with_reducible refine qU ?_ | simp only[Z5]);try simp (maxSteps:=9^7) +contextual only[↓ S2,S2,↓reduceIte,reduceNe,reduceEqDiff,reduceCtorEq,reduceLeDiff,reduceAdd,reduceLT,VQ,h7,h8,hlt2]));(try simp +contextual (disch:=omega) only[Z2,h7,h8,hlt2]);(with_reducible repeat' (first|intro h|refine And.intro (by omega) ?_ | refine exP (by omega) ?_ | apply And.intro)))
     exact ⟨true,0,a2,(fun h=>by cases h),fun _ => hno,by omega,by simp[E2,hlt2],rfl⟩
   | true=>
    cases hlt2:R.lit with
    | false=>
     ((try refine qI ?_);(repeat ((first|with_reducible refine qU ?_ | simp only[Z5]);try simp (maxSteps:=9^7) +contextual only[↓ S2,S2,↓reduceIte,reduceNe,reduceEqDiff,reduceCtorEq,reduceLeDiff,reduceAdd,reduceLT,VQ,h7,h8,hlt2]));(try simp +contextual (disch:=omega) only[Z2,h7,h8,hlt2]);(with_reducible repeat' (first|intro h|refine And.intro (by omega) ?_ | refine exP (by omega) ?_ | apply And.intro)))
     exact ⟨false,0,a2,fun _ => ⟨by rw[hLv];simp,by rw[hLw];simp,by omega⟩,(fun h=>by cases h),by omega,by simp[E2,hlt2],rfl⟩
    | true=>
     obtain ⟨a3,ha3⟩:∃x:Nat,x=a2+1:=⟨_,rfl⟩
     rw[←ha3] at hLv hLw
     have wa3:IntKind.i64.wrap ((a2:Int)+1)=(a3:Int):=by rw[wrap64 (by omega) (by omega)];omega
     rcases nL (Z6 s).length a3 with hgt|hle
     ·have e5:((a3:Int)≤((Z6 s).length : Int))=False:=eq_false (by omega)
      have hdn:(Z6 s).drop a3=[]:=List.drop_eq_nil_of_le (by omega)
      ((try refine qI ?_);(repeat ((first|with_reducible refine qU ?_ | simp only[Z5]);try simp (maxSteps:=9^7) +contextual only[↓ S2,S2,↓reduceIte,reduceNe,reduceEqDiff,reduceCtorEq,reduceLeDiff,reduceAdd,reduceLT,VQ,h7,h8,hlt2,wa3,e5]));(try simp +contextual (disch:=omega) only[Z2,h7,h8,hlt2,wa3,e5]);(with_reducible repeat' (first|intro h|refine And.intro (by omega) ?_ | refine exP (by omega) ?_ | apply And.intro)))
      exact ⟨false,0,a3,fun _ => ⟨by rw[hLv,if_pos rfl,hdn];rfl,by rw[hLw,if_pos rfl,hdn];exact congrArg (·.1) (niN_no (l:=[]) (.inr (.inl rfl))),by omega⟩,(fun h=>by cases h),by omega,by simp[E2,hlt2],rfl⟩
     ·have e5:((a3:Int)≤((Z6 s).length : Int))=True:=eq_true (by omega)
      have hw2:=GCalls.at (S:=fun g fs=>g=T (bA (((Z6 s).drop a3).takeWhile inS))∧fs=[.agg [T s,I ((a3+(((Z6 s).drop a3).takeWhile inS).length : Nat):Int),I (f+((i+1:Nat):Int)),B false]]) (fun H0=>(o54 s hs a3 (by omega) (I (f+((i+1:Nat):Int))) (B false) rp H0).mono fun g H' ⟨k1,k2⟩=>⟨_,⟨k1,rfl⟩,k2⟩) (H:=(r8,6,[.agg [I (f+(i:Int)),I 0,I 0,I 0,T W,ZE]])::(rp,4,[.agg [T s,I a3,I (f+((i+1:Nat):Int)),B false]])::H) (by simp only[Z9,h7,h8,if_true,if_false])
      simp only[Z8,h7,h8,if_true,if_false] at hw2
      have hpi:=wf55 (bA (((Z6 s).drop a3).takeWhile inS)) (by rw[chA (((Z6 s).drop a3).takeWhile inS)];have h1:=(List.takeWhile_sublist inS (l:=(Z6 s).drop a3)).length_le;rw[List.length_drop] at h1;omega)
      rw[chA (((Z6 s).drop a3).takeWhile inS)] at hpi
      have hd3:(Z6 s).drop (a3+(((Z6 s).drop a3).takeWhile inS).length)=((Z6 s).drop a3).dropWhile inS:=drop_dw ..
      have h3l:a3+(((Z6 s).drop a3).takeWhile inS).length ≤ (Z6 s).length := by
       have h1:=(List.takeWhile_sublist inS (l:=(Z6 s).drop a3)).length_le
       rw[List.length_drop] at h1
       omega
      ((try refine qI ?_);(repeat ((first|with_reducible refine qU ?_ | simp only[Z5]);try simp (maxSteps:=9^7) +contextual only[↓ S2,S2,↓reduceIte,reduceNe,reduceEqDiff,reduceCtorEq,reduceLeDiff,reduceAdd,reduceLT,VQ,h7,h8,hlt2,wa3,e5]));(try simp +contextual (disch:=omega) only[Z2,h7,h8,hlt2,wa3,e5]);(with_reducible repeat' (first|intro h|refine And.intro (by omega) ?_ | refine exP (by omega) ?_ | apply And.intro)))
      refine callS.of hw2 ?_
      rintro _ _ ⟨_,⟨rfl,rfl⟩,rfl⟩ -
      ((try refine qI ?_);(repeat ((first|with_reducible refine qU ?_ | simp only[Z5]);try simp (maxSteps:=9^7) +contextual only[↓ S2,S2,↓reduceIte,reduceNe,reduceEqDiff,reduceCtorEq,reduceLeDiff,reduceAdd,reduceLT,VQ,h7,h8]));(try simp +contextual (disch:=omega) only[Z2,h7,h8]);(with_reducible repeat' (first|intro h|refine And.intro (by omega) ?_ | refine exP (by omega) ?_ | apply And.intro)))
      refine callS.eq hpi ?_
      ((try refine qI ?_);(repeat ((first|with_reducible refine qU ?_ | simp only[Z5]);try simp (maxSteps:=9^7) +contextual only[↓ S2,S2,↓reduceIte,reduceNe,reduceEqDiff,reduceCtorEq,reduceLeDiff,reduceAdd,reduceLT,VQ,h7,h8]));(try simp +contextual (disch:=omega) only[Z2,h7,h8]);(with_reducible repeat' (first|intro h|refine And.intro (by omega) ?_ | refine exP (by omega) ?_ | apply And.intro)))
      exact ⟨false,_,_,fun _ => ⟨by rw[hLv,if_pos rfl,hd3],by rw[hLw,if_pos rfl],by omega⟩,(fun h=>by cases h),by omega,by simp[E2,hlt2],rfl⟩
  ·rintro env1 _ ⟨bad,lt,a3,hb1,hb2,ha3,he1,rfl⟩
   refine GW.ent (FE.of he1) ?_
   clear he1 hLv hLw hbad e1 e3 i2 hc wa1 wid hd1
   have hinit:(bad=false∧∃(G:Fo) (aj:Nat),(a3:Int)=aj∧f+((i+1:Nat):Int)=f+((i+1+G.sz:Nat):Int)∧kidT g niN f R.right.length ((Z6 s).drop a3) (i+1) G 0 ((Z6 s).drop aj)∧jnI [] G∧aj≤(Z6 s).length + 1+3 * G.sz∧f+((i+1+G.sz:Nat):Int)≤1016∧hr=true∧litL R.lit l1=(Z6 s).drop a3∧litV niN R.lit l1=lt)∨(bad=true∧Y4 g niN f (40::l1) i=none):=by
    cases bad with
    | false=>
     obtain ⟨k1,k2,k3,k4⟩:=hb1 rfl
     exact .inl ⟨rfl,.nil,a3,rfl,rfl,kidT_0 _ _ _ _ _ _,jnI_nil,by omega,by show f+((i+1:Nat):Int)≤1016;omega,k1,k2,k3⟩
    | true=>exact .inr ⟨rfl,hb2 rfl⟩
   clear hb1 hb2
   refine ZD mxd ?_
   ((try refine qI ?_);(repeat ((first|with_reducible refine qU ?_ | simp only[Z5]);try simp (maxSteps:=9^7) +contextual only[↓ S2,S2,↓reduceIte,reduceNe,reduceEqDiff,reduceCtorEq,reduceLeDiff,reduceAdd,reduceLT,VQ,h7,h8]));(try simp +contextual (disch:=omega) only[Z2,h7,h8]);(with_reducible repeat' (first|intro h|refine And.intro (by omega) ?_ | refine exP (by omega) ?_ | apply And.intro)))
   rename_i r9
   have h9:=h
   clear h
   refine Zd mxd (ι:={ x:(Nat×List (List Nod))×(Nat×(Int×(Int×Bool))) // x.1.2.length=x.2.1∧x.2.1≤R.right.length∧((x.2.2.2.2=false∧∃(G:Fo) (aj:Nat),x.2.2.1=aj∧x.2.2.2.1=f+((i+1+G.sz:Nat):Int)∧kidT g niN f R.right.length ((Z6 s).drop a3) (i+1) G x.2.1 ((Z6 s).drop aj)∧jnI x.1.2 G∧aj≤(Z6 s).length + 1+3 * G.sz∧f+((i+1+G.sz:Nat):Int)≤1016∧hr=true∧litL R.lit l1=(Z6 s).drop a3∧litV niN R.lit l1=lt)∨(x.2.2.2.2=true∧Y4 g niN f (40::l1) i=none)) }) (fun x=>[(0,.ptr rp 4 0 0),(3,.rop 2 (Gr g)),(4,.raw 1),(5,.ptr r8 6 0 0),(6,.rop 6 (Ru R)),(8,.own x.1.1.1 1 0 x.1.1.2.length),(9,I x.1.2.1)]) (fun x=>(rp,4,[.agg [T s,I x.1.2.2.1,I x.1.2.2.2.1,B x.1.2.2.2.2]])::(x.1.1.1,1,x.1.1.2.map Tr)::(r8,6,[.agg [I (f+(i:Int)),I 0,I 0,I lt,T W,ZE]])::H) (fun x=>R.right.length-x.1.2.1) ⟨((r9,[]),(0,((a3:Int),(f+((i+1:Nat):Int),bad)))),rfl,Nat.zero_le _,hinit⟩ (FE.perm (H:=[_,_,_]) (L:=[(rp,_),(r9,_),(r8,_)]) (by repeat' (first|exact trivial|(refine And.intro (by simp only[Z9, *,if_true,if_false];try rfl) (And.intro (by simp[ZR,ZP, *]) ?_))))) (by simp[E2]) (by simp) ?_
   rintro ⟨⟨⟨q,ks⟩,⟨j,p,d,bd⟩⟩,hkl,hj,hb⟩ hn2
   dsimp only at hkl hj hb hn2 ⊢
   have h4:=Z0 hn2
   (replace h4:=h4;simp only[VN] at h4)
   refine ZD mxd ?_
   rcases hb with ⟨rfl,G,aj,rfl,rfl,hT,hJ,haj,hidj,hrt,hl1,hl2⟩|⟨rfl,hno⟩
   ·obtain ⟨aj1,haj1⟩:∃x:Nat,x=aj+1:=⟨_,rfl⟩
    have waj:IntKind.i64.wrap ((aj:Int)+1)=(aj1:Int):=by rw[wrap64 (by omega) (by omega)];omega
    rcases nL j R.right.length with hlj|hgj
    ·have hcl:=ih m (by omega) (i+1+G.sz) aj1 rp ((q,1,ks.map Tr)::(r8,6,[.agg [I (f+(i:Int)),I 0,I 0,I lt,T W,ZE]])::H) (by omega) hidj (by omega)
     ((try refine qI ?_);(repeat ((first|with_reducible refine qU ?_ | simp only[Z5]);try simp (maxSteps:=9^7) +contextual only[↓ S2,S2,↓reduceIte,reduceNe,reduceEqDiff,reduceCtorEq,reduceLeDiff,reduceAdd,reduceLT,VQ,h4,waj]));(try simp +contextual (disch:=omega) only[Z2,h4,waj]);(with_reducible repeat' (first|intro h|refine And.intro (by omega) ?_ | refine exP (by omega) ?_ | apply And.intro)))
     all_goals try exact oF
     refine callS.of hcl ?_
     rintro _ _ ⟨fs,hfs,rfl⟩ -
     rcases hfs with ⟨hno1,rfl,x,y,rfl⟩|⟨F,a',hF,rfl,rfl,ha',hid'⟩
     ·have hkN:=kidT.no hT hlj (by rw[List.drop_drop,←haj1];exact hno1)
      ((try refine qI ?_);(repeat ((first|with_reducible refine qU ?_ | simp only[Z5]);try simp (maxSteps:=9^7) +contextual only[↓ S2,S2,↓reduceIte,reduceNe,reduceEqDiff,reduceCtorEq,reduceLeDiff,reduceAdd,reduceLT,VQ,h4,List.length_append,List.length_singleton,List.length_map,ZM]));(try simp +contextual (disch:=omega) only[Z2,h4,List.length_append,List.length_singleton,List.length_map,ZM]);(with_reducible repeat' (first|intro h|refine And.intro (by omega) ?_ | refine exP (by omega) ?_ | apply And.intro)))
      all_goals try exact oF
      rename_i r5 _ r6
      rw[List.take_of_length_le (l:=ks.map Tr) (by simp)]
      exact nxF ⟨((r6,ks++[[]]),(j+1,(x,(y,true)))),by simp[hkl],by dsimp only;omega,.inr ⟨rfl,hkn hrt (by rw[hl1];exact hkN)⟩⟩ (by dsimp only;omega) (FE.perm (H:=[_,_,_,_]) (L:=[(rp,_),(r6,_),(r8,_)]) (by repeat' (first|exact trivial|(refine And.intro (by simp only[Z9, *,if_true,if_false];try rfl) (And.intro (by simp[ZR,ZP, *]) ?_))))) (by simp[E2]) (by simp)
     ·have hF1:=(oneS_one g niN f hF).1
      have hlt1:aj1<(Z6 s).length := by
       rcases nL aj1 (Z6 s).length with h|h
       ·exact h
       ·rw[List.drop_eq_nil_of_le h] at hF;cases hF
      have hst:=kidT.step hT hlj (by rw[List.drop_drop,←haj1];exact hF)
      have hszA:(G.app F).sz = G.sz+F.sz:=Fo.app_sz G F
      ((try refine qI ?_);(repeat ((first|with_reducible refine qU ?_ | simp only[Z5]);try simp (maxSteps:=9^7) +contextual only[↓ S2,S2,↓reduceIte,reduceNe,reduceEqDiff,reduceCtorEq,reduceLeDiff,reduceAdd,reduceLT,VQ,h4,List.length_append,List.length_singleton,List.length_map,ZM]));(try simp +contextual (disch:=omega) only[Z2,h4,List.length_append,List.length_singleton,List.length_map,ZM]);(with_reducible repeat' (first|intro h|refine And.intro (by omega) ?_ | refine exP (by omega) ?_ | apply And.intro)))
      all_goals try exact oF
      rename_i r5 _ r6
      rw[List.take_of_length_le (l:=ks.map Tr) (by simp)]
      exact nxF ⟨((r6,ks++[F.flt 0 (-1) 0]),(j+1,((a':Int),(f+((i+1+G.sz+F.sz:Nat):Int),false)))),by simp[hkl],by dsimp only;omega,.inl ⟨rfl,G.app F,a',rfl,by rw[hszA];dsimp only;omega,hst,jnI_step hJ hF1 (by omega) (by omega),by rw[hszA];omega,by rw[hszA];omega,hrt,hl1,hl2⟩⟩ (by dsimp only;omega) (FE.perm (H:=[_,_,_,_]) (L:=[(rp,_),(r6,_),(r8,_)]) (by repeat' (first|exact trivial|(refine And.intro (by simp only[Z9, *,if_true,if_false];try rfl) (And.intro (by simp[ZR,ZP, *]) ?_))))) (by simp[E2]) (by simp)
    ·obtain rfl:j=R.right.length:=by omega
     have hkd:=kidT.all hT
     have hone:=hke G ((Z6 s).drop aj) hrt (by rw[hl1];exact hkd)
     rw[hl2,List.drop_drop,←haj1] at hone
     have hjf:=jnI_fin hJ (f+(i:Int)) lt W ks.length rfl
     have hjl:(jnL ks ks.length).length + 1=1+G.sz:=by rw[hJ.1,Fo.flt_len];omega
     have hsz1:(Fo.cons (f+(i:Int)) W lt G .nil).sz = 1+G.sz:=sz_one1 ..
     have hjo:=fun H0=>oe56 ⟨f+(i:Int),0,0,lt,W,[]⟩ ZE ks (by omega) (fun t ht=>⟨by have:=(hJ.2.2.2 t ht).1;omega,fun x hx=>by have:=(hJ.2.2.2 t ht).2 x hx;omega⟩) H0
     dsimp only at hjo
     rw[hjf,hjl] at hjo
     have hlF:((Fo.cons (f+(i:Int)) W lt G .nil).flt 0 (-1) 0).length = 1+G.sz:=by rw[Fo.flt_len,hsz1]
     generalize hFF:Fo.cons (f+(i:Int)) W lt G .nil = FF at *
     ((try refine qI ?_);(repeat ((first|with_reducible refine qU ?_ | simp only[Z5]);try simp (maxSteps:=9^7) +contextual only[↓ S2,S2,↓reduceIte,reduceNe,reduceEqDiff,reduceCtorEq,reduceLeDiff,reduceAdd,reduceLT,VQ,h4,waj]));(try simp +contextual (disch:=omega) only[Z2,h4,waj]);(with_reducible repeat' (first|intro h|refine And.intro (by omega) ?_ | refine exP (by omega) ?_ | apply And.intro)))
     all_goals try exact oF
     refine callS.lend hjo (.cons .refl (.cons (Bor.allM view_Tr (by simp only[Z9,h4,if_true,if_false]) rfl) .nil)) (by rintro v H1 ⟨q,rfl,rfl⟩;simp[noD,noDH,noDL_eq]) ?_
     rintro _ _ ⟨q9,rfl,rfl⟩ hn9
     have h9:=Z0 hn9
     simp only[List.cons_append,List.nil_append] at h9
     (replace h9:=h9;simp only[VN] at h9)
     ((try refine qI ?_);(repeat ((first|with_reducible refine qU ?_ | simp only[Z5]);try simp (maxSteps:=9^7) +contextual only[↓ S2,S2,↓reduceIte,reduceNe,reduceEqDiff,reduceCtorEq,reduceLeDiff,reduceAdd,reduceLT,VQ,h9]));(try simp +contextual (disch:=omega) only[Z2,h9]);(with_reducible repeat' (first|intro h|refine And.intro (by omega) ?_ | refine exP (by omega) ?_ | apply And.intro)))
     have hcs:i+1+G.sz=i+FF.sz:=by omega
     exact ⟨Tr (FF.flt 0 (-1) 0),[.agg [T s,I aj1,I (f+((i+1+G.sz:Nat):Int)),B false]],.inr ⟨FF,aj1,hO _ hone,rfl,by rw[hcs],by omega,by omega⟩,FR.trans (FR.perm (H:=[_,_,_,_]) (L:=[(q9,6,_),(rp,4,_)]) (by simp[subH,ZW,names, *])) (FR.front (L:=[(q9,6,_)]) (bor_TrO' hlF))⟩
   ·have hex:∀x y z:Int,∀X1 X2,∃v' fs,nsR g f s i a v' fs∧FR (.agg [ZE]) ((rp,4,[.agg [T s,I x,I y,B true]])::(q,1,X1)::(r8,6,X2)::H) v' ((rp,4,fs)::H):=fun x y z X1 X2=>⟨Tr [],_,.inl ⟨hO _ hno,rfl,x,y,rfl⟩,FR.trans (FR.sub hnil) (FR.perm (H:=[_,_,_]) (L:=[(rp,4,_)]) (by simp[subH,ZW,names, *]))⟩
    rcases nL j R.right.length with hlj|hgj
    ·((try refine qI ?_);(repeat ((first|with_reducible refine qU ?_ | simp only[Z5]);try simp (maxSteps:=9^7) +contextual only[↓ S2,S2,↓reduceIte,reduceNe,reduceEqDiff,reduceCtorEq,reduceLeDiff,reduceAdd,reduceLT,VQ,h4]));(try simp +contextual (disch:=omega) only[Z2,h4]);(with_reducible repeat' (first|intro h|refine And.intro (by omega) ?_ | refine exP (by omega) ?_ | apply And.intro)))
     all_goals try exact oF
     exact hex _ _ 0 _ _
    ·((try refine qI ?_);(repeat ((first|with_reducible refine qU ?_ | simp only[Z5]);try simp (maxSteps:=9^7) +contextual only[↓ S2,S2,↓reduceIte,reduceNe,reduceEqDiff,reduceCtorEq,reduceLeDiff,reduceAdd,reduceLT,VQ,h4]));(try simp +contextual (disch:=omega) only[Z2,h4]);(with_reducible repeat' (first|intro h|refine And.intro (by omega) ?_ | refine exP (by omega) ?_ | apply And.intro)))
     all_goals try exact oF
     exact hex _ _ 0 _ _
 exact h0.fr fun v H' ⟨v',fs,h1,h2⟩=>⟨v',_,h2,fs,h1,rfl⟩
theorem o31 (g:Gram) (hg:smGr g) (hr3:∀r∈g.rules,r.right.length≤3) (f:Int) (hf0:0≤f) (hf1:f≤1000) (s:ByteArray) (hs:(Z6 s).length ≤ 1048576) (m:Nat):∀(i a rp:Nat) (H:GH),1016≤f+i+m→f+i≤1016→a≤1060000→Gc 31 [.ptr rp 4 0 0,Gr g] ((rp,4,[.agg [T s,I a,I (f+i),B false]])::H) (fun v H'=>∃fs,nsR g f s i a v fs∧H'=(rp,4,fs)::H):=
 Nat.strongRecOn m fun m ih=>e31 g hg hr3 f hf0 hf1 s hs m ih
end Go.Proofs.YtmdfoigdflaliaaGreatDoor
