/- The tied card of the law holds. No condition. -/
import Derived.Test.YtmdfoigdflaliaaGreatDoorPtt6
set_option maxHeartbeats 40000000
set_option maxRecDepth 20000
set_option linter.unusedSimpArgs false
set_option linter.unusedVariables false
namespace Go.Proofs.YtmdfoigdflaliaaGreatDoor
open Go.Gh
open Nat (reduceEqDiff reduceLeDiff reduceAdd reduceLT)
open Int (reduceNe)
open Go.Lib
theorem wf80 (s:ByteArray) (hs:(Z6 s).length ≤ 1048576):Pu 80 [T s,I 12] (· = .tup [I (niN (Z6 s)).1,B (niN (Z6 s)).2]):=by
 have hsz:s.size≤1048576:=by rw[Zo];exact hs
 refine gstartG i80 rfl (by simp) ?_
 refine Zn mxd ?_
 ((try refine qI ?_);(repeat ((first|with_reducible refine qU ?_ | simp only[Z5]);try simp (maxSteps:=9^7) +contextual only[↓ S2,S2,↓reduceIte,reduceNe,reduceEqDiff,reduceCtorEq,reduceLeDiff,reduceAdd,reduceLT,VQ,]));(try simp +contextual (disch:=omega) only[Z2,]);(with_reducible repeat' (first|intro h|refine And.intro (by omega) ?_ | refine exP (by omega) ?_ | apply And.intro)))
 refine GW.cut mxd (fun env' H'=>subE env' [(0,T s),(1,I 12),(6,B (sgnB (Z6 s)))]∧H'=[]) ?_ ?_
 ·rcases Nat.eq_zero_or_pos (Z6 s).length with hz|hz
  ·have hb:sgnB (Z6 s)=false:=by rw[List.eq_nil_of_length_eq_zero hz];rfl
   ((try refine qI ?_);(repeat ((first|with_reducible refine qU ?_ | simp only[Z5]);try simp (maxSteps:=9^7) +contextual only[↓ S2,S2,↓reduceIte,reduceNe,reduceEqDiff,reduceCtorEq,reduceLeDiff,reduceAdd,reduceLT,VQ,hz,hb]));(try simp +contextual (disch:=omega) only[Z2,hz,hb]);(with_reducible repeat' (first|intro h|refine And.intro (by omega) ?_ | refine exP (by omega) ?_ | apply And.intro)))
   all_goals try exact oF
   exact (by simp[E2])
  ·have hb:=sgnB_at (l:=Z6 s) hz
   rw[hb]
   ((try refine qI ?_);(repeat ((first|with_reducible refine qU ?_ | simp only[Z5]);try simp (maxSteps:=9^7) +contextual only[↓ S2,S2,↓reduceIte,reduceNe,reduceEqDiff,reduceCtorEq,reduceLeDiff,reduceAdd,reduceLT,VQ,]));(try simp +contextual (disch:=omega) only[Z2,]);(with_reducible repeat' (first|intro h|refine And.intro (by omega) ?_ | refine exP (by omega) ?_ | apply And.intro)))
   all_goals try exact oF
   exact (by simp[E2])
 ·rintro env' _ ⟨he,rfl⟩
  refine GW.ent (FE.of he) ?_
  refine Zn mxd ?_
  ((try refine qI ?_);(repeat ((first|with_reducible refine qU ?_ | simp only[Z5]);try simp (maxSteps:=9^7) +contextual only[↓ S2,S2,↓reduceIte,reduceNe,reduceEqDiff,reduceCtorEq,reduceLeDiff,reduceAdd,reduceLT,VQ,]));(try simp +contextual (disch:=omega) only[Z2,]);(with_reducible repeat' (first|intro h|refine And.intro (by omega) ?_ | refine exP (by omega) ?_ | apply And.intro)))
  refine GW.cut mxd (fun env' H'=>∃t:ByteArray,Z6 t=sgnT (Z6 s)∧subE env' [(0,T s),(1,I 12),(6,B (sgnB (Z6 s))),(7,T t)]∧H'=[]) ?_ ?_
  ·cases hb:sgnB (Z6 s)
   ·((try refine qI ?_);(repeat ((first|with_reducible refine qU ?_ | simp only[Z5]);try simp (maxSteps:=9^7) +contextual only[↓ S2,S2,↓reduceIte,reduceNe,reduceEqDiff,reduceCtorEq,reduceLeDiff,reduceAdd,reduceLT,VQ,]));(try simp +contextual (disch:=omega) only[Z2,]);(with_reducible repeat' (first|intro h|refine And.intro (by omega) ?_ | refine exP (by omega) ?_ | apply And.intro)))
    exact ⟨s,by unfold sgnT;rw[if_neg (by simpa[sgnB] using hb)],(by simp[E2])⟩
   ·have hh:(Z6 s).head? = some 45:=by simpa[sgnB] using hb
    have hz:1≤(Z6 s).length := by cases hq:Z6 s with
     | nil=>rw[hq] at hh;cases hh
     | cons c u=>simp
    ((try refine qI ?_);(repeat ((first|with_reducible refine qU ?_ | simp only[Z5]);try simp (maxSteps:=9^7) +contextual only[↓ S2,S2,↓reduceIte,reduceNe,reduceEqDiff,reduceCtorEq,reduceLeDiff,reduceAdd,reduceLT,VQ,]));(try simp +contextual (disch:=omega) only[Z2,]);(with_reducible repeat' (first|intro h|refine And.intro (by omega) ?_ | refine exP (by omega) ?_ | apply And.intro)))
    all_goals try exact oF
    exact ⟨⟨(List.drop (Int.toNat 1) (List.take (Z6 s).length (Z6 s))).toArray⟩,by unfold sgnT;rw[if_pos hh,chA,List.take_length];rfl,(by simp[E2])⟩
  ·rintro env' _ ⟨t,ht,he,rfl⟩
   refine GW.ent (FE.of he) ?_
   have htz:(Z6 t).length ≤ (Z6 s).length := by rw[ht];unfold sgnT;split<;>simp
   have hno:(∃c∈sgnT (Z6 s),Zr c=false)∨sgnT (Z6 s)=[]∨12<(sgnT (Z6 s)).length → (niN (Z6 s)).1 = 0∧(niN (Z6 s)).2 = false:=fun h=>by rw[niN_no h];exact ⟨rfl,rfl⟩
   rw[←ht] at hno
   by_cases hl:1≤(Z6 t).length ∧ (Z6 t).length ≤ 12
   ·refine Zn mxd ?_
    ((try refine qI ?_);(repeat ((first|with_reducible refine qU ?_ | simp only[Z5]);try simp (maxSteps:=9^7) +contextual only[↓ S2,S2,↓reduceIte,reduceNe,reduceEqDiff,reduceCtorEq,reduceLeDiff,reduceAdd,reduceLT,VQ,]));(try simp +contextual (disch:=omega) only[Z2,]);(with_reducible repeat' (first|intro h|refine And.intro (by omega) ?_ | refine exP (by omega) ?_ | apply And.intro)))
    all_goals try exact oF
    refine Zn mxd ?_
    ((try refine qI ?_);(repeat ((first|with_reducible refine qU ?_ | simp only[Z5]);try simp (maxSteps:=9^7) +contextual only[↓ S2,S2,↓reduceIte,reduceNe,reduceEqDiff,reduceCtorEq,reduceLeDiff,reduceAdd,reduceLT,VQ,]));(try simp +contextual (disch:=omega) only[Z2,]);(with_reducible repeat' (first|intro h|refine And.intro (by omega) ?_ | refine exP (by omega) ?_ | apply And.intro)))
    refine ZD mxd ?_
    ((try refine qI ?_);(repeat ((first|with_reducible refine qU ?_ | simp only[Z5]);try simp (maxSteps:=9^7) +contextual only[↓ S2,S2,↓reduceIte,reduceNe,reduceEqDiff,reduceCtorEq,reduceLeDiff,reduceAdd,reduceLT,VQ,]));(try simp +contextual (disch:=omega) only[Z2,]);(with_reducible repeat' (first|intro h|refine And.intro (by omega) ?_ | refine exP (by omega) ?_ | apply And.intro)))
    refine Y5 mxd (ι:={ i:Nat // i≤(Z6 t).length ∧ ∀c∈(Z6 t).take i,Zr c=true }) (fun i=>[(0,T s),(6,B (sgnB (Z6 s))),(7,T t),(8,I (Zh ((Z6 t).take i.1))),(9,I i.1)]) (fun _ => []) (fun i=>(Z6 t).length - i.1) ⟨0,by simp⟩ (by simp[E2,Zh]) rfl ?_
    rintro ⟨i,hi,hdi⟩
    dsimp only
    have hv:=valD_bd ((Z6 t).take i) hdi
    rcases nL i (Z6 t).length with hlt|hge
    ·have hp:=pow12 (l:=(Z6 t).take i) (by simp;omega)
     by_cases hd:Zr (Z6 t)[i]=true
     ·have hd2:48≤((Z6 t)[i].toNat : Int)∧((Z6 t)[i].toNat : Int)≤57:=by simpa only[Zr,Bool.and_eq_true,decide_eq_true_eq] using hd
      have hw:IntKind.u8.wrap (((Z6 t)[i].toNat : Int)-48)=((Z6 t)[i].toNat : Int)-48:=wrap_u8 (by omega) (by omega)
      ((try refine qI ?_);(repeat ((first|with_reducible refine qU ?_ | simp only[Z5]);try simp (maxSteps:=9^7) +contextual only[↓ S2,S2,↓reduceIte,reduceNe,reduceEqDiff,reduceCtorEq,reduceLeDiff,reduceAdd,reduceLT,VQ,hw]));(try simp +contextual (disch:=omega) only[Z2,hw]);(with_reducible repeat' (first|intro h|refine And.intro (by omega) ?_ | refine exP (by omega) ?_ | apply And.intro)))
      all_goals try exact oF
      rw[←valD_take hlt]
      exact nx ⟨i+1,by omega,fun c hc=>by rw[List.take_succ_eq_append_getElem hlt] at hc;exact (List.mem_append.1 hc).elim (hdi c) (fun h=>List.mem_singleton.1 h▸hd)⟩ (by dsimp only;omega) (by simp[E2]) rfl
     ·have hd':Zr (Z6 t)[i]=false:=by simpa using hd
      obtain ⟨n1,n2⟩:=hno (.inl ⟨_,gM hlt,hd'⟩)
      have hd2:¬(48≤((Z6 t)[i].toNat : Int)∧((Z6 t)[i].toNat : Int)≤57):=by simpa only[Zr,Bool.and_eq_true,decide_eq_true_eq] using hd
      ((try refine qI ?_);(repeat ((first|with_reducible refine qU ?_ | simp only[Z5]);try simp (maxSteps:=9^7) +contextual only[↓ S2,S2,↓reduceIte,reduceNe,reduceEqDiff,reduceCtorEq,reduceLeDiff,reduceAdd,reduceLT,VQ,n1,n2]));(try simp +contextual (disch:=omega) only[Z2,n1,n2]);(with_reducible repeat' (first|intro h|refine And.intro (by omega) ?_ | refine exP (by omega) ?_ | apply And.intro)))
      all_goals try exact oF
    ·obtain rfl:i=(Z6 t).length := by omega
     have htl:(Z6 t).take (Z6 t).length = Z6 t:=List.take_length ..
     rw[htl] at hdi hv
     have hp:=pow13 (l:=Z6 t) hl.2
     have hy:=fun n hn=>niN_yes (l:=Z6 s) (n:=n) (by rw[←ht];exact hdi) (by rw[←ht];intro h;rw[h] at hl;simp at hl) (by rw[←ht];exact hl.2) hn
     rw[←ht] at hy
     cases hb:sgnB (Z6 s)
     ·have hy:=hy (Zh (Z6 t)) (by rw[hb];rfl)
      have hq:=w45 (Zh (Z6 t)) (by omega) (by omega)
      by_cases he:itoa (Zh (Z6 t))=Z6 s
      ·rw[if_pos he] at hy
       rw[he] at hq
       ((try refine qI ?_);(repeat ((first|with_reducible refine qU ?_ | simp only[Z5]);try simp (maxSteps:=9^7) +contextual only[↓ S2,S2,↓reduceIte,reduceNe,reduceEqDiff,reduceCtorEq,reduceLeDiff,reduceAdd,reduceLT,VQ,htl]));(try simp +contextual (disch:=omega) only[Z2,htl]);(with_reducible repeat' (first|intro h|refine And.intro (by omega) ?_ | refine exP (by omega) ?_ | apply And.intro)))
       all_goals try exact oF
       refine callS.eq hq ?_
       ((try refine qI ?_);(repeat ((first|with_reducible refine qU ?_ | simp only[Z5]);try simp (maxSteps:=9^7) +contextual only[↓ S2,S2,↓reduceIte,reduceNe,reduceEqDiff,reduceCtorEq,reduceLeDiff,reduceAdd,reduceLT,VQ,hy]));(try simp +contextual (disch:=omega) only[Z2,hy]);(with_reducible repeat' (first|intro h|refine And.intro (by omega) ?_ | refine exP (by omega) ?_ | apply And.intro)))
      ·rw[if_neg he] at hy
       have hne:¬(⟨(itoa (Zh (Z6 t))).toArray⟩:ByteArray)=s:=fun h=>he (congrArg Z6 h)
       ((try refine qI ?_);(repeat ((first|with_reducible refine qU ?_ | simp only[Z5]);try simp (maxSteps:=9^7) +contextual only[↓ S2,S2,↓reduceIte,reduceNe,reduceEqDiff,reduceCtorEq,reduceLeDiff,reduceAdd,reduceLT,VQ,htl]));(try simp +contextual (disch:=omega) only[Z2,htl]);(with_reducible repeat' (first|intro h|refine And.intro (by omega) ?_ | refine exP (by omega) ?_ | apply And.intro)))
       all_goals try exact oF
       refine callS.eq hq ?_
       ((try refine qI ?_);(repeat ((first|with_reducible refine qU ?_ | simp only[Z5]);try simp (maxSteps:=9^7) +contextual only[↓ S2,S2,↓reduceIte,reduceNe,reduceEqDiff,reduceCtorEq,reduceLeDiff,reduceAdd,reduceLT,VQ,hne,hy]));(try simp +contextual (disch:=omega) only[Z2,hne,hy]);(with_reducible repeat' (first|intro h|refine And.intro (by omega) ?_ | refine exP (by omega) ?_ | apply And.intro)))
     ·have hy:=hy (0-Zh (Z6 t)) (by rw[hb,if_pos rfl];omega)
      have hq:=w45 (0-Zh (Z6 t)) (by omega) (by omega)
      by_cases he:itoa (0-Zh (Z6 t))=Z6 s
      ·rw[if_pos he] at hy
       rw[he] at hq
       ((try refine qI ?_);(repeat ((first|with_reducible refine qU ?_ | simp only[Z5]);try simp (maxSteps:=9^7) +contextual only[↓ S2,S2,↓reduceIte,reduceNe,reduceEqDiff,reduceCtorEq,reduceLeDiff,reduceAdd,reduceLT,VQ,htl]));(try simp +contextual (disch:=omega) only[Z2,htl]);(with_reducible repeat' (first|intro h|refine And.intro (by omega) ?_ | refine exP (by omega) ?_ | apply And.intro)))
       all_goals try exact oF
       refine callS.eq hq ?_
       ((try refine qI ?_);(repeat ((first|with_reducible refine qU ?_ | simp only[Z5]);try simp (maxSteps:=9^7) +contextual only[↓ S2,S2,↓reduceIte,reduceNe,reduceEqDiff,reduceCtorEq,reduceLeDiff,reduceAdd,reduceLT,VQ,hy]));(try simp +contextual (disch:=omega) only[Z2,hy]);(with_reducible repeat' (first|intro h|refine And.intro (by omega) ?_ | refine exP (by omega) ?_ | apply And.intro)))
      ·rw[if_neg he] at hy
       have hne:¬(⟨(itoa (0-Zh (Z6 t))).toArray⟩:ByteArray)=s:=fun h=>he (congrArg Z6 h)
       ((try refine qI ?_);(repeat ((first|with_reducible refine qU ?_ | simp only[Z5]);try simp (maxSteps:=9^7) +contextual only[↓ S2,S2,↓reduceIte,reduceNe,reduceEqDiff,reduceCtorEq,reduceLeDiff,reduceAdd,reduceLT,VQ,htl]));(try simp +contextual (disch:=omega) only[Z2,htl]);(with_reducible repeat' (first|intro h|refine And.intro (by omega) ?_ | refine exP (by omega) ?_ | apply And.intro)))
       all_goals try exact oF
       refine callS.eq hq ?_
       ((try refine qI ?_);(repeat ((first|with_reducible refine qU ?_ | simp only[Z5]);try simp (maxSteps:=9^7) +contextual only[↓ S2,S2,↓reduceIte,reduceNe,reduceEqDiff,reduceCtorEq,reduceLeDiff,reduceAdd,reduceLT,VQ,hne,hy]));(try simp +contextual (disch:=omega) only[Z2,hne,hy]);(with_reducible repeat' (first|intro h|refine And.intro (by omega) ?_ | refine exP (by omega) ?_ | apply And.intro)))
   ·obtain ⟨n1,n2⟩:=hno (.inr (by
     by_cases h:(Z6 t).length = 0
     ·exact .inl (List.eq_nil_of_length_eq_zero h)
     ·exact .inr (by omega)))
    refine Zn mxd ?_
    ((try refine qI ?_);(repeat ((first|with_reducible refine qU ?_ | simp only[Z5]);try simp (maxSteps:=9^7) +contextual only[↓ S2,S2,↓reduceIte,reduceNe,reduceEqDiff,reduceCtorEq,reduceLeDiff,reduceAdd,reduceLT,VQ,n1,n2]));(try simp +contextual (disch:=omega) only[Z2,n1,n2]);(with_reducible repeat' (first|intro h|refine And.intro (by omega) ?_ | refine exP (by omega) ?_ | apply And.intro)))
    all_goals try exact oF
theorem wf55 (s:ByteArray) (hs:(Z6 s).length ≤ 1048576):Pu 55 [T s] (· = .tup [I (niN (Z6 s)).1,B (niN (Z6 s)).2]):=by
 refine ZN mxd i55 rfl (by simp) ?_;simp (maxSteps:=9^7) only[↓ S2,S2,ZT,↓reduceIte,reduceNe,reduceEqDiff,reduceCtorEq,reduceLeDiff,reduceAdd,reduceLT]
 ((try refine qI ?_);(repeat ((first|with_reducible refine qU ?_ | simp only[Z5]);try simp (maxSteps:=9^7) +contextual only[↓ S2,S2,↓reduceIte,reduceNe,reduceEqDiff,reduceCtorEq,reduceLeDiff,reduceAdd,reduceLT,VQ,]));(try simp +contextual (disch:=omega) only[Z2,]);(with_reducible repeat' (first|intro h|refine And.intro (by omega) ?_ | refine exP (by omega) ?_ | apply And.intro)))
 refine callS.eq (wf80 s hs) ?_
 ((try refine qI ?_);(repeat ((first|with_reducible refine qU ?_ | simp only[Z5]);try simp (maxSteps:=9^7) +contextual only[↓ S2,S2,↓reduceIte,reduceNe,reduceEqDiff,reduceCtorEq,reduceLeDiff,reduceAdd,reduceLT,VQ,]));(try simp +contextual (disch:=omega) only[Z2,]);(with_reducible repeat' (first|intro h|refine And.intro (by omega) ?_ | refine exP (by omega) ?_ | apply And.intro)))
theorem o54 (s:ByteArray) (hs:(Z6 s).length ≤ 1048576) (a:Nat) (ha:a≤(Z6 s).length) (x y:GV) (rp:Nat) (H:GH) :
 Gc 54 [.ptr rp 4 0 0] ((rp,4,[.agg [T s,I a,x,y]])::H) (fun g H'=>g=T (bA (((Z6 s).drop a).takeWhile inS))∧H'=(rp,4,[.agg [T s,I ((a+(((Z6 s).drop a).takeWhile inS).length : Nat):Int),x,y]])::H):=by
 have hsz:s.size≤1048576:=by rw[Zo];exact hs
 refine ZN mxd i54 rfl (by simp) ?_;simp (maxSteps:=9^7) only[↓ S2,S2,ZT,↓reduceIte,reduceNe,reduceEqDiff,reduceCtorEq,reduceLeDiff,reduceAdd,reduceLT]
 ((try refine qI ?_);(repeat ((first|with_reducible refine qU ?_ | simp only[Z5]);try simp (maxSteps:=9^7) +contextual only[↓ S2,S2,↓reduceIte,reduceNe,reduceEqDiff,reduceCtorEq,reduceLeDiff,reduceAdd,reduceLT,VQ,]));(try simp +contextual (disch:=omega) only[Z2,]);(with_reducible repeat' (first|intro h|refine And.intro (by omega) ?_ | refine exP (by omega) ?_ | apply And.intro)))
 refine Zd mxd (ι:={ j:Nat // a≤j∧j≤(Z6 s).length ∧ ∀c∈((Z6 s).drop a).take (j-a),inS c=true }) (fun j=>[(0,.ptr rp 4 0 0),(3,I a)]) (fun j=>(rp,4,[.agg [T s,I j.1,x,y]])::H) (fun j=>(Z6 s).length - j.1) ⟨a,Nat.le_refl a,ha,by simp⟩ FE.refl (by simp[E2]) rfl ?_
 rintro ⟨j,haj,hj,hall⟩ hn
 dsimp only at haj hj hall ⊢
 refine ZD mxd ?_
 have hl:(((Z6 s).drop a).take (j-a)).length = j-a:=by rw[List.length_take,List.length_drop];omega
 have hlj:a+(j-a)=j:=by omega
 have hsl:(List.take j (Z6 s)).drop a=((Z6 s).drop a).take (j-a):=List.drop_take ..
 rcases nL j (Z6 s).length with hlt|hge
 ·have hgd:((Z6 s).drop a)[j-a]'(by rw[List.length_drop];omega)=(Z6 s)[j]:=by rw[List.getElem_drop];simp only[hlj]
  by_cases hc:inS (Z6 s)[j]=true
  ·have h3:¬((Z6 s)[j].toNat : Int)=32∧¬((Z6 s)[j].toNat : Int)=41∧¬((Z6 s)[j].toNat : Int)=40:=inS_int hc
   clear hsl hl
   have i1:((j:Int)<((Z6 s).length : Int))=True:=eq_true (by omega)
   have i2:((0:Int)≤(j:Int))=True:=eq_true (by omega)
   have i3:((j:Int).toNat < (Z6 s).length)=True:=eq_true (by omega)
   obtain ⟨h4,h5,h6⟩:=h3
   ((try refine qI ?_);(repeat ((first|with_reducible refine qU ?_ | simp only[Z5]);try simp (maxSteps:=9^7) only[↓ S2,S2,ZT,↓reduceIte,reduceNe,reduceEqDiff,reduceCtorEq,reduceLeDiff,reduceAdd,reduceLT,h4,h5,h6,i1,i2,i3,hlt,Int.toNat_natCast,decide_true,decide_false,not_false_eq_true]));(try simp +contextual (disch:=omega) only[Z2,h4,h5,h6,i1,i2,i3,hlt,Int.toNat_natCast,decide_true,decide_false,not_false_eq_true]);(with_reducible repeat' (first|intro h|refine And.intro (by omega) ?_ | refine exP (by omega) ?_ | apply And.intro)))
   exact nxF ⟨j+1,by omega,by omega,fun c hx=>by rw[show j+1-a=j-a+1 by omega,List.take_succ_eq_append_getElem (by rw[List.length_drop];omega),hgd] at hx;exact (List.mem_append.1 hx).elim (hall c) (fun h=>List.mem_singleton.1 h▸hc)⟩ (by dsimp only;omega) FE.refl (by simp[E2]) (by simp)
  ·have hw:((Z6 s).drop a).takeWhile inS=((Z6 s).drop a).take (j-a):=tw_stop hall (by rw[List.length_drop];omega) (by rw[hgd];simpa using hc)
   have h3:=inS_no hc
   rw[hw,hl,hlj]
   have i1:((j:Int)<((Z6 s).length : Int))=True:=eq_true (by omega)
   have i2:((0:Int)≤(j:Int))=True:=eq_true (by omega)
   have i3:((j:Int).toNat < (Z6 s).length)=True:=eq_true (by omega)
   have i4:((a:Int)≤(j:Int))=True:=eq_true (by omega)
   have i5:((j:Int)≤((Z6 s).length : Int))=True:=eq_true (by omega)
   have i6:((0:Int)≤(a:Int))=True:=eq_true (by omega)
   rcases h3 with h3|h3|h3
   ·((try refine qI ?_);(repeat ((first|with_reducible refine qU ?_ | simp only[Z5]);try simp (maxSteps:=9^7) only[↓ S2,S2,ZT,↓reduceIte,reduceNe,reduceEqDiff,reduceCtorEq,reduceLeDiff,reduceAdd,reduceLT,h3,i1,i2,i3,i4,i5,i6,hsl,hlt,Int.toNat_natCast,decide_true,decide_false,not_false_eq_true,not_true_eq_false,Int.reduceEq]));(try simp +contextual (disch:=omega) only[Z2,h3,i1,i2,i3,i4,i5,i6,hsl,hlt,Int.toNat_natCast,decide_true,decide_false,not_false_eq_true,not_true_eq_false,Int.reduceEq]);(with_reducible repeat' (first|intro h|refine And.intro (by omega) ?_ | refine exP (by omega) ?_ | apply And.intro)))
   ·((try refine qI ?_);(repeat ((first|with_reducible refine qU ?_ | simp only[Z5]);try simp (maxSteps:=9^7) only[↓ S2,S2,ZT,↓reduceIte,reduceNe,reduceEqDiff,reduceCtorEq,reduceLeDiff,reduceAdd,reduceLT,h3,i1,i2,i3,i4,i5,i6,hsl,hlt,Int.toNat_natCast,decide_true,decide_false,not_false_eq_true,not_true_eq_false,Int.reduceEq]));(try simp +contextual (disch:=omega) only[Z2,h3,i1,i2,i3,i4,i5,i6,hsl,hlt,Int.toNat_natCast,decide_true,decide_false,not_false_eq_true,not_true_eq_false,Int.reduceEq]);(with_reducible repeat' (first|intro h|refine And.intro (by omega) ?_ | refine exP (by omega) ?_ | apply And.intro)))
   ·((try refine qI ?_);(repeat ((first|with_reducible refine qU ?_ | simp only[Z5]);try simp (maxSteps:=9^7) only[↓ S2,S2,ZT,↓reduceIte,reduceNe,reduceEqDiff,reduceCtorEq,reduceLeDiff,reduceAdd,reduceLT,h3,i1,i2,i3,i4,i5,i6,hsl,hlt,Int.toNat_natCast,decide_true,decide_false,not_false_eq_true,not_true_eq_false,Int.reduceEq]));(try simp +contextual (disch:=omega) only[Z2,h3,i1,i2,i3,i4,i5,i6,hsl,hlt,Int.toNat_natCast,decide_true,decide_false,not_false_eq_true,not_true_eq_false,Int.reduceEq]);(with_reducible repeat' (first|intro h|refine And.intro (by omega) ?_ | refine exP (by omega) ?_ | apply And.intro)))
 ·obtain rfl:j=(Z6 s).length := by omega
  have hw:((Z6 s).drop a).takeWhile inS=((Z6 s).drop a).take ((Z6 s).length - a):=tw_allS hall (by rw[List.length_drop];omega)
  rw[hw,hl,hlj]
  have i1:(((Z6 s).length : Int)<((Z6 s).length : Int))=False:=eq_false (by omega)
  have i4:((a:Int)≤((Z6 s).length : Int))=True:=eq_true (by omega)
  have i5:(((Z6 s).length : Int)≤((Z6 s).length : Int))=True:=eq_true (by omega)
  have i6:((0:Int)≤(a:Int))=True:=eq_true (by omega)
  ((try refine qI ?_);(repeat ((first|with_reducible refine qU ?_ | simp only[Z5]);try simp (maxSteps:=9^7) only[↓ S2,S2,ZT,↓reduceIte,reduceNe,reduceEqDiff,reduceCtorEq,reduceLeDiff,reduceAdd,reduceLT,i1,i4,i5,i6,hsl,Int.toNat_natCast,decide_true,decide_false,not_false_eq_true]));(try simp +contextual (disch:=omega) only[Z2,i1,i4,i5,i6,hsl,Int.toNat_natCast,decide_true,decide_false,not_false_eq_true]);(with_reducible repeat' (first|intro h|refine And.intro (by omega) ?_ | refine exP (by omega) ?_ | apply And.intro)))
end Go.Proofs.YtmdfoigdflaliaaGreatDoor
