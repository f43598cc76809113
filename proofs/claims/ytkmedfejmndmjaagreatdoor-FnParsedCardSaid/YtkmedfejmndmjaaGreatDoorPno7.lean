/- The tied card of the law holds. No condition. -/
import Derived.Test.YtkmedfejmndmjaaGreatDoorPno6
set_option maxHeartbeats 40000000
set_option maxRecDepth 20000
set_option linter.unusedSimpArgs false
set_option linter.unusedVariables false
namespace Go.Proofs.YtkmedfejmndmjaaGreatDoor
open Go.Gh
open Nat (reduceEqDiff reduceLeDiff reduceAdd reduceLT)
open Int (reduceNe)
open Go.Lib
theorem Tryz.atomT (ts:List Go.Gh.Tok) (hl:ts.length≤80) (i:Nat) (rp:Nat) (H:GH) (hr:Z3 H rp=some (3,[PaG ts i true])):Gc 102 [.ptr rp 3 0 0] H (EP (PaG ts) (.bad i) rp H):=by
 refine EP.of ?_
 have h2:∀fs,Z3 (ZX H rp fs) rp=some (3,fs):=fun fs=>Zz hr
 refine Z6 mxd i102 rfl (by simp) ?_;simp (maxSteps:=9^7) only[↓ S2,S2,Z7,↓reduceIte,reduceNe,reduceEqDiff,reduceCtorEq,reduceLeDiff,reduceAdd,reduceLT]
 ((try refine qI ?_);(repeat ((first|with_reducible refine qU ?_ | simp only[Z9]);try simp (maxSteps:=9^7) only[↓ S2,S2,Z7,↓reduceIte,reduceNe,reduceEqDiff,reduceCtorEq,reduceLeDiff,reduceAdd,reduceLT,hr,h2,Z0]));(try simp +contextual (disch:=omega) only[Z2,hr,h2,Z0]);(with_reducible repeat' (first|intro h|refine And.intro (by omega) ?_ | refine exP (by omega) ?_ | apply And.intro)))
 all_goals exact .inr (.inl ⟨(.mk 0 0 0 0 noS noS []),rfl,rfl,rfl,fun a j h=>(by cases h)⟩)
theorem Tryz.skT (ts:List Go.Gh.Tok) (hl:ts.length≤80) (i:Nat) (hi:i≤ts.length) (w:ByteArray) (rp:Nat) (H:GH) (hr:Z3 H rp=some (3,[PaG ts i false])) (hs:sees ts i w=true) :
 Gc 64 [.ptr rp 3 0 0,T w] H (fun g H'=>g=B true∧H'=ZX H rp [PaG ts (i+1) false]):=by
 have:=w64 ts hl i hi false w rp H hr
 rw[hs] at this
 exact this
theorem Tryz.skF (ts:List Go.Gh.Tok) (hl:ts.length≤80) (i:Nat) (hi:i≤ts.length) (w:ByteArray) (rp:Nat) (H:GH) (hr:Z3 H rp=some (3,[PaG ts i false])) (hs:sees ts i w=false) :
 Gc 64 [.ptr rp 3 0 0,T w] H (fun g H'=>g=B false∧H'=H):=by
 have:=w64 ts hl i hi false w rp H hr
 rw[hs] at this
 have e:ZX H rp [PaG ts i false]=H:=Yb hr
 refine this.mono ?_
 rintro g H' ⟨h1,h2⟩
 exact ⟨h1,h2.trans e⟩
theorem Tryz.atomS (ts:List Go.Gh.Tok) (hl:ts.length≤80) (ht:okTs ts) (hN:okNs ts) (i:Nat) (hi:i≤ts.length)
 (hE:∀(j:Nat) (b:Bool) (rp:Nat) (H:GH),i<j→j≤ts.length→Z3 H rp=some (3,[PaG ts j b])→Gc 34 [.ptr rp 3 0 0] H (EP (PaG ts) (frm b (rE ts) j) rp H))
 (hA:∀(j:Nat) (b:Bool) (rp:Nat) (H:GH),i<j→j≤ts.length→Z3 H rp=some (3,[PaG ts j b])→Gc 102 [.ptr rp 3 0 0] H (EP (PaG ts) (frm b (rA ts) j) rp H))
 (b:Bool) (rp:Nat) (H:GH) (hr:Z3 H rp=some (3,[PaG ts i b])):Gc 102 [.ptr rp 3 0 0] H (EP (PaG ts) (frm b (rA ts) i) rp H):=by
 generalize hR:frm b (rA ts) i=R
 have hbad:R = .bad i→EN (PaG ts) R rp H (ExN (.mk 0 0 0 0 noS noS [])) (ZX H rp [PaG ts i true]):=fun h=>by subst h;exact ⟨_,rfl,rfl,rfl,fun a j h=>by cases h⟩
 refine EP.of ?_
 have h2:∀fs,Z3 (ZX H rp fs) rp=some (3,fs):=fun fs=>Zz hr
 cases b with
 | true=>
  refine Z6 mxd i102 rfl (by simp) ?_;simp (maxSteps:=9^7) only[↓ S2,S2,Z7,↓reduceIte,reduceNe,reduceEqDiff,reduceCtorEq,reduceLeDiff,reduceAdd,reduceLT]
  ((try refine qI ?_);(repeat ((first|with_reducible refine qU ?_ | simp only[Z9]);try simp (maxSteps:=9^7) only[↓ S2,S2,Z7,↓reduceIte,reduceNe,reduceEqDiff,reduceCtorEq,reduceLeDiff,reduceAdd,reduceLT,hr,h2,Z0]));(try simp +contextual (disch:=omega) only[Z2,hr,h2,Z0]);(with_reducible repeat' (first|intro h|refine And.intro (by omega) ?_ | refine exP (by omega) ?_ | apply And.intro)))
  all_goals exact .inr (.inl (hbad hR.symm))
 | false=>
  rw[Zn,rA_eq hi] at hR
  rcases nL i ts.length with h|hG
  ·have hL:¬ts.length≤i:=by omega
   have hi1:i+1≤ts.length:=h
   have hgd:ts.getD i Y9=ts[i]:=Zg h
   unfold Zc at hR
   dsimp only at hR
   rw[if_neg (not_not_intro h)] at hR
   simp only[sees_isW h] at hR
   rw[hgd] at hR
   by_cases hk:ts[i].kind = 2
   ·have hkk:((ts[i].kind = 2)=True):=eq_true hk
    rw[if_pos hk] at hR
    have hn:=hN _ (gM h) hk
    have e:Zs ts i 0 1000000 = .ok ts[i].num (i+1):=by unfold Zs;rw[Zg h,if_pos ⟨h,hk,hn⟩]
    have hc:=w125 ts hl i hi false 0 1000000 rp H hr
    rw[Zn,e] at hc
    simp only[PR.val,PR.at,PR.err] at hc
    refine Z6 mxd i102 rfl (by simp) ?_;simp (maxSteps:=9^7) only[↓ S2,S2,Z7,↓reduceIte,reduceNe,reduceEqDiff,reduceCtorEq,reduceLeDiff,reduceAdd,reduceLT]
    ((try refine qI ?_);(repeat ((first|with_reducible refine qU ?_ | simp only[Z9]);try simp (maxSteps:=9^7) only[↓ S2,S2,Z7,↓reduceIte,reduceNe,reduceEqDiff,reduceCtorEq,reduceLeDiff,reduceAdd,reduceLT,hr,h,hL,hkk,decide_true,decide_false]));(try simp +contextual (disch:=omega) only[Z2,hr,h,hL,hkk,decide_true,decide_false]);(with_reducible repeat' (first|intro h|refine And.intro (by omega) ?_ | refine exP (by omega) ?_ | apply And.intro)))
    refine callS.of hc ?_
    rintro _ _ ⟨rfl,rfl⟩ _
    ((try refine qI ?_);(repeat ((first|with_reducible refine qU ?_ | simp only[Z9]);try simp (maxSteps:=9^7) only[↓ S2,S2,Z7,↓reduceIte,reduceNe,reduceEqDiff,reduceCtorEq,reduceLeDiff,reduceAdd,reduceLT,]));(try simp +contextual (disch:=omega) only[Z2,]);(with_reducible repeat' (first|intro h|refine And.intro (by omega) ?_ | refine exP (by omega) ?_ | apply And.intro)))
    refine callS.eq (w124 _ _) ?_
    ((try refine qI ?_);(repeat ((first|with_reducible refine qU ?_ | simp only[Z9]);try simp (maxSteps:=9^7) only[↓ S2,S2,Z7,↓reduceIte,reduceNe,reduceEqDiff,reduceCtorEq,reduceLeDiff,reduceAdd,reduceLT,]));(try simp +contextual (disch:=omega) only[Z2,]);(with_reducible repeat' (first|intro h|refine And.intro (by omega) ?_ | refine exP (by omega) ?_ | apply And.intro)))
    all_goals (subst hR;exact .inr (.inl ⟨YE ts[i].num 1,rfl,rfl,rfl,fun a j h=>by cases h;rfl⟩))
   ·have hkk:((ts[i].kind = 2)=False):=eq_false hk
    rw[if_neg hk] at hR
    refine Z6 mxd i102 rfl (by simp) ?_;simp (maxSteps:=9^7) only[↓ S2,S2,Z7,↓reduceIte,reduceNe,reduceEqDiff,reduceCtorEq,reduceLeDiff,reduceAdd,reduceLT]
    ((try refine qI ?_);(repeat ((first|with_reducible refine qU ?_ | simp only[Z9]);try simp (maxSteps:=9^7) only[↓ S2,S2,Z7,↓reduceIte,reduceNe,reduceEqDiff,reduceCtorEq,reduceLeDiff,reduceAdd,reduceLT,hr,h,hL,hkk,decide_true,decide_false]));(try simp +contextual (disch:=omega) only[Z2,hr,h,hL,hkk,decide_true,decide_false]);(with_reducible repeat' (first|intro h|refine And.intro (by omega) ?_ | refine exP (by omega) ?_ | apply And.intro)))
    cases hq0:sees ts i wLB with
    | true=>
     rw[if_pos hq0] at hR
     refine callS.of (Tryz.skT ts hl i hi wLB rp H hr hq0) ?_
     rintro _ _ ⟨rfl,rfl⟩ _
     ((try refine qI ?_);(repeat ((first|with_reducible refine qU ?_ | simp only[Z9]);try simp (maxSteps:=9^7) only[↓ S2,S2,Z7,↓reduceIte,reduceNe,reduceEqDiff,reduceCtorEq,reduceLeDiff,reduceAdd,reduceLT,]));(try simp +contextual (disch:=omega) only[Z2,]);(with_reducible repeat' (first|intro h|refine And.intro (by omega) ?_ | refine exP (by omega) ?_ | apply And.intro)))
     refine callS.of (o126 ts hl (i+1) hi1 rp _ (h2 _)) ?_
     rintro g H' ⟨e,r,rfl,rfl,he⟩ hn
     rw[Z0,hR]
     rw[hR] at he
     ((try refine qI ?_);(repeat ((first|with_reducible refine qU ?_ | simp only[Z9]);try simp (maxSteps:=9^7) only[↓ S2,S2,Z7,↓reduceIte,reduceNe,reduceEqDiff,reduceCtorEq,reduceLeDiff,reduceAdd,reduceLT,]));(try simp +contextual (disch:=omega) only[Z2,]);(with_reducible repeat' (first|intro h|refine And.intro (by omega) ?_ | refine exP (by omega) ?_ | apply And.intro)))
     all_goals exact .inl ⟨e,r,rfl,rfl,he⟩
    | false=>
     rw[if_neg (by rw[hq0];decide)] at hR
     refine callS.of (Tryz.skF ts hl i hi wLB rp H hr hq0) ?_
     rintro _ H9 ⟨rfl,e9⟩ _
     rw[e9]
     ((try refine qI ?_);(repeat ((first|with_reducible refine qU ?_ | simp only[Z9]);try simp (maxSteps:=9^7) only[↓ S2,S2,Z7,↓reduceIte,reduceNe,reduceEqDiff,reduceCtorEq,reduceLeDiff,reduceAdd,reduceLT,]));(try simp +contextual (disch:=omega) only[Z2,]);(with_reducible repeat' (first|intro h|refine And.intro (by omega) ?_ | refine exP (by omega) ?_ | apply And.intro)))
     cases hq1:sees ts i wTrue with
     | true=>
      rw[if_pos hq1] at hR
      refine callS.of (Tryz.skT ts hl i hi wTrue rp H hr hq1) ?_
      rintro _ _ ⟨rfl,rfl⟩ _
      ((try refine qI ?_);(repeat ((first|with_reducible refine qU ?_ | simp only[Z9]);try simp (maxSteps:=9^7) only[↓ S2,S2,Z7,↓reduceIte,reduceNe,reduceEqDiff,reduceCtorEq,reduceLeDiff,reduceAdd,reduceLT,]));(try simp +contextual (disch:=omega) only[Z2,]);(with_reducible repeat' (first|intro h|refine And.intro (by omega) ?_ | refine exP (by omega) ?_ | apply And.intro)))
      refine callS.eq (w124 _ _) ?_
      ((try refine qI ?_);(repeat ((first|with_reducible refine qU ?_ | simp only[Z9]);try simp (maxSteps:=9^7) only[↓ S2,S2,Z7,↓reduceIte,reduceNe,reduceEqDiff,reduceCtorEq,reduceLeDiff,reduceAdd,reduceLT,]));(try simp +contextual (disch:=omega) only[Z2,]);(with_reducible repeat' (first|intro h|refine And.intro (by omega) ?_ | refine exP (by omega) ?_ | apply And.intro)))
      all_goals (subst hR;exact .inr (.inl ⟨YE 1 3,rfl,rfl,rfl,fun a j h=>by cases h;rfl⟩))
     | false=>
      rw[if_neg (by rw[hq1];decide)] at hR
      refine callS.of (Tryz.skF ts hl i hi wTrue rp H hr hq1) ?_
      rintro _ H9 ⟨rfl,e9⟩ _
      rw[e9]
      ((try refine qI ?_);(repeat ((first|with_reducible refine qU ?_ | simp only[Z9]);try simp (maxSteps:=9^7) only[↓ S2,S2,Z7,↓reduceIte,reduceNe,reduceEqDiff,reduceCtorEq,reduceLeDiff,reduceAdd,reduceLT,]));(try simp +contextual (disch:=omega) only[Z2,]);(with_reducible repeat' (first|intro h|refine And.intro (by omega) ?_ | refine exP (by omega) ?_ | apply And.intro)))
      cases hq2:sees ts i Yl with
      | true=>
       rw[if_pos hq2] at hR
       refine callS.of (Tryz.skT ts hl i hi Yl rp H hr hq2) ?_
       rintro _ _ ⟨rfl,rfl⟩ _
       ((try refine qI ?_);(repeat ((first|with_reducible refine qU ?_ | simp only[Z9]);try simp (maxSteps:=9^7) only[↓ S2,S2,Z7,↓reduceIte,reduceNe,reduceEqDiff,reduceCtorEq,reduceLeDiff,reduceAdd,reduceLT,]));(try simp +contextual (disch:=omega) only[Z2,]);(with_reducible repeat' (first|intro h|refine And.intro (by omega) ?_ | refine exP (by omega) ?_ | apply And.intro)))
       refine callS.eq (w124 _ _) ?_
       ((try refine qI ?_);(repeat ((first|with_reducible refine qU ?_ | simp only[Z9]);try simp (maxSteps:=9^7) only[↓ S2,S2,Z7,↓reduceIte,reduceNe,reduceEqDiff,reduceCtorEq,reduceLeDiff,reduceAdd,reduceLT,]));(try simp +contextual (disch:=omega) only[Z2,]);(with_reducible repeat' (first|intro h|refine And.intro (by omega) ?_ | refine exP (by omega) ?_ | apply And.intro)))
       all_goals (subst hR;exact .inr (.inl ⟨YE 0 3,rfl,rfl,rfl,fun a j h=>by cases h;rfl⟩))
      | false=>
       rw[if_neg (by rw[hq2];decide)] at hR
       refine callS.of (Tryz.skF ts hl i hi Yl rp H hr hq2) ?_
       rintro _ H9 ⟨rfl,e9⟩ _
       rw[e9]
       ((try refine qI ?_);(repeat ((first|with_reducible refine qU ?_ | simp only[Z9]);try simp (maxSteps:=9^7) only[↓ S2,S2,Z7,↓reduceIte,reduceNe,reduceEqDiff,reduceCtorEq,reduceLeDiff,reduceAdd,reduceLT,]));(try simp +contextual (disch:=omega) only[Z2,]);(with_reducible repeat' (first|intro h|refine And.intro (by omega) ?_ | refine exP (by omega) ?_ | apply And.intro)))
       cases hq3:sees ts i wLit with
       | true=>
        rw[if_pos hq3] at hR
        refine callS.of (Tryz.skT ts hl i hi wLit rp H hr hq3) ?_
        rintro _ _ ⟨rfl,rfl⟩ _
        ((try refine qI ?_);(repeat ((first|with_reducible refine qU ?_ | simp only[Z9]);try simp (maxSteps:=9^7) only[↓ S2,S2,Z7,↓reduceIte,reduceNe,reduceEqDiff,reduceCtorEq,reduceLeDiff,reduceAdd,reduceLT,]));(try simp +contextual (disch:=omega) only[Z2,]);(with_reducible repeat' (first|intro h|refine And.intro (by omega) ?_ | refine exP (by omega) ?_ | apply And.intro)))
        all_goals (subst hR;exact .inr (.inl ⟨.mk 2 0 0 0 noS noS [],rfl,rfl,rfl,fun a j h=>by cases h;rfl⟩))
       | false=>
        rw[if_neg (by rw[hq3];decide)] at hR
        refine callS.of (Tryz.skF ts hl i hi wLit rp H hr hq3) ?_
        rintro _ H9 ⟨rfl,e9⟩ _
        rw[e9]
        ((try refine qI ?_);(repeat ((first|with_reducible refine qU ?_ | simp only[Z9]);try simp (maxSteps:=9^7) only[↓ S2,S2,Z7,↓reduceIte,reduceNe,reduceEqDiff,reduceCtorEq,reduceLeDiff,reduceAdd,reduceLT,]));(try simp +contextual (disch:=omega) only[Z2,]);(with_reducible repeat' (first|intro h|refine And.intro (by omega) ?_ | refine exP (by omega) ?_ | apply And.intro)))
        cases hq4:sees ts i wNone with
        | true=>
         rw[if_pos hq4] at hR
         refine callS.of (Tryz.skT ts hl i hi wNone rp H hr hq4) ?_
         rintro _ _ ⟨rfl,rfl⟩ _
         ((try refine qI ?_);(repeat ((first|with_reducible refine qU ?_ | simp only[Z9]);try simp (maxSteps:=9^7) only[↓ S2,S2,Z7,↓reduceIte,reduceNe,reduceEqDiff,reduceCtorEq,reduceLeDiff,reduceAdd,reduceLT,]));(try simp +contextual (disch:=omega) only[Z2,]);(with_reducible repeat' (first|intro h|refine And.intro (by omega) ?_ | refine exP (by omega) ?_ | apply And.intro)))
         all_goals (subst hR;exact .inr (.inl ⟨.mk 7 0 0 0 noS noS [],rfl,rfl,rfl,fun a j h=>by cases h;rfl⟩))
        | false=>
         rw[if_neg (by rw[hq4];decide)] at hR
         refine callS.of (Tryz.skF ts hl i hi wNone rp H hr hq4) ?_
         rintro _ H9 ⟨rfl,e9⟩ _
         rw[e9]
         ((try refine qI ?_);(repeat ((first|with_reducible refine qU ?_ | simp only[Z9]);try simp (maxSteps:=9^7) only[↓ S2,S2,Z7,↓reduceIte,reduceNe,reduceEqDiff,reduceCtorEq,reduceLeDiff,reduceAdd,reduceLT,]));(try simp +contextual (disch:=omega) only[Z2,]);(with_reducible repeat' (first|intro h|refine And.intro (by omega) ?_ | refine exP (by omega) ?_ | apply And.intro)))
         cases hq5:sees ts i wDol with
         | true=>
          rw[if_pos hq5] at hR
          refine callS.of (Tryz.skT ts hl i hi wDol rp H hr hq5) ?_
          rintro _ _ ⟨rfl,rfl⟩ _
          ((try refine qI ?_);(repeat ((first|with_reducible refine qU ?_ | simp only[Z9]);try simp (maxSteps:=9^7) only[↓ S2,S2,Z7,↓reduceIte,reduceNe,reduceEqDiff,reduceCtorEq,reduceLeDiff,reduceAdd,reduceLT,]));(try simp +contextual (disch:=omega) only[Z2,]);(with_reducible repeat' (first|intro h|refine And.intro (by omega) ?_ | refine exP (by omega) ?_ | apply And.intro)))
          have b1:(frm false (fun i=>Zs ts i 0 3) (i+1)).at ≤ ts.length:=Zt (ba_num _ _ _) hi1
          refine callS.of (w125 ts hl (i+1) hi1 false 0 3 rp _ (h2 _)) ?_
          rintro _ _ ⟨rfl,rfl⟩ _
          rw[Z0]
          generalize hP1:frm false (fun i=>Zs ts i 0 3) (i+1)=P1 at *
          ((try refine qI ?_);(repeat ((first|with_reducible refine qU ?_ | simp only[Z9]);try simp (maxSteps:=9^7) only[↓ S2,S2,Z7,↓reduceIte,reduceNe,reduceEqDiff,reduceCtorEq,reduceLeDiff,reduceAdd,reduceLT,]));(try simp +contextual (disch:=omega) only[Z2,]);(with_reducible repeat' (first|intro h|refine And.intro (by omega) ?_ | refine exP (by omega) ?_ | apply And.intro)))
          have b2:(frm P1.err (fun i=>ZW ts i Zb) P1.at).at ≤ ts.length:=Zt (ZG _ _) b1
          refine callS.of (w65 ts hl P1.at b1 P1.err Zb rp _ (h2 _)) ?_
          rintro _ _ rfl _
          rw[Z0]
          generalize hP2:frm P1.err (fun i=>ZW ts i Zb) P1.at=P2 at *
          ((try refine qI ?_);(repeat ((first|with_reducible refine qU ?_ | simp only[Z9]);try simp (maxSteps:=9^7) only[↓ S2,S2,Z7,↓reduceIte,reduceNe,reduceEqDiff,reduceCtorEq,reduceLeDiff,reduceAdd,reduceLT,]));(try simp +contextual (disch:=omega) only[Z2,]);(with_reducible repeat' (first|intro h|refine And.intro (by omega) ?_ | refine exP (by omega) ?_ | apply And.intro)))
          refine callS.of (w127 ts hl ht P2.at b2 P2.err rp _ (h2 _)) ?_
          rintro _ _ ⟨rfl,rfl⟩ _
          rw[Z0]
          ((try refine qI ?_);(repeat ((first|with_reducible refine qU ?_ | simp only[Z9]);try simp (maxSteps:=9^7) only[↓ S2,S2,Z7,↓reduceIte,reduceNe,reduceEqDiff,reduceCtorEq,reduceLeDiff,reduceAdd,reduceLT,]));(try simp +contextual (disch:=omega) only[Z2,]);(with_reducible repeat' (first|intro h|refine And.intro (by omega) ?_ | refine exP (by omega) ?_ | apply And.intro)))
          all_goals (
           refine .inr (.inl ⟨.mk 3 0 (PR.val 0 P1) 0 noS (PR.val noS (frm P2.err (ZP ts) P2.at)) [],rfl,rfl,?_,?_⟩)
           ·subst hR hP2 hP1
            rw[Zn]
            cases Zs ts (i+1) 0 3 with
            | bad k=>rfl
            | ok p k=>
             show ZX H rp [PaG ts (frm (ZW ts k Zb).err (ZP ts) (ZW ts k Zb).at).at (frm (ZW ts k Zb).err (ZP ts) (ZW ts k Zb).at).err]=ZX H rp [PaG ts ((ZW ts k Zb).bind _).at ((ZW ts k Zb).bind _).err]
             cases ZW ts k Zb with
             | bad m=>rfl
             | ok u m=>
              show ZX H rp [PaG ts (ZP ts m).at (ZP ts m).err]=ZX H rp [PaG ts ((ZP ts m).bind _).at ((ZP ts m).bind _).err]
              cases ZP ts m<;>rfl
           ·subst hR hP2 hP1
            rw[Zn]
            intro a j hx
            obtain ⟨p,k,q1,hx⟩:=ZZ hx
            obtain ⟨u,m,q2,hx⟩:=ZZ hx
            obtain ⟨n,q,q3,hx⟩:=ZZ hx
            rw[q1]
            simp only[PR.at,PR.err,Zn]
            rw[q2]
            simp only[PR.at,PR.err,Zn]
            rw[q3]
            cases hx
            rfl)
         | false=>
          rw[if_neg (by rw[hq5];decide)] at hR
          refine callS.of (Tryz.skF ts hl i hi wDol rp H hr hq5) ?_
          rintro _ H9 ⟨rfl,e9⟩ _
          rw[e9]
          ((try refine qI ?_);(repeat ((first|with_reducible refine qU ?_ | simp only[Z9]);try simp (maxSteps:=9^7) only[↓ S2,S2,Z7,↓reduceIte,reduceNe,reduceEqDiff,reduceCtorEq,reduceLeDiff,reduceAdd,reduceLT,]));(try simp +contextual (disch:=omega) only[Z2,]);(with_reducible repeat' (first|intro h|refine And.intro (by omega) ?_ | refine exP (by omega) ?_ | apply And.intro)))
          cases hq6:sees ts i wSelf with
          | true=>
           rw[if_pos hq6] at hR
           refine callS.of (Tryz.skT ts hl i hi wSelf rp H hr hq6) ?_
           rintro _ _ ⟨rfl,rfl⟩ _
           ((try refine qI ?_);(repeat ((first|with_reducible refine qU ?_ | simp only[Z9]);try simp (maxSteps:=9^7) only[↓ S2,S2,Z7,↓reduceIte,reduceNe,reduceEqDiff,reduceCtorEq,reduceLeDiff,reduceAdd,reduceLT,]));(try simp +contextual (disch:=omega) only[Z2,]);(with_reducible repeat' (first|intro h|refine And.intro (by omega) ?_ | refine exP (by omega) ?_ | apply And.intro)))
           have b1:(frm false (fun i=>ZW ts i wLP) (i+1)).at ≤ ts.length:=Zt (ZG _ _) hi1
           refine callS.of (w65 ts hl (i+1) hi1 false wLP rp _ (h2 _)) ?_
           rintro _ _ rfl _
           rw[Z0]
           generalize hP1:frm false (fun i=>ZW ts i wLP) (i+1)=P1 at *
           ((try refine qI ?_);(repeat ((first|with_reducible refine qU ?_ | simp only[Z9]);try simp (maxSteps:=9^7) only[↓ S2,S2,Z7,↓reduceIte,reduceNe,reduceEqDiff,reduceCtorEq,reduceLeDiff,reduceAdd,reduceLT,]));(try simp +contextual (disch:=omega) only[Z2,]);(with_reducible repeat' (first|intro h|refine And.intro (by omega) ?_ | refine exP (by omega) ?_ | apply And.intro)))
           have b2:(frm P1.err (fun i=>Zs ts i 0 3) P1.at).at ≤ ts.length:=Zt (ba_num _ _ _) b1
           refine callS.of (w125 ts hl P1.at b1 P1.err 0 3 rp _ (h2 _)) ?_
           rintro _ _ ⟨rfl,rfl⟩ _
           rw[Z0]
           generalize hP2:frm P1.err (fun i=>Zs ts i 0 3) P1.at=P2 at *
           ((try refine qI ?_);(repeat ((first|with_reducible refine qU ?_ | simp only[Z9]);try simp (maxSteps:=9^7) only[↓ S2,S2,Z7,↓reduceIte,reduceNe,reduceEqDiff,reduceCtorEq,reduceLeDiff,reduceAdd,reduceLT,]));(try simp +contextual (disch:=omega) only[Z2,]);(with_reducible repeat' (first|intro h|refine And.intro (by omega) ?_ | refine exP (by omega) ?_ | apply And.intro)))
           refine callS.of (w65 ts hl P2.at b2 P2.err wRP rp _ (h2 _)) ?_
           rintro _ _ rfl _
           rw[Z0]
           generalize hP3:frm P2.err (fun i=>ZW ts i wRP) P2.at=P3 at *
           ((try refine qI ?_);(repeat ((first|with_reducible refine qU ?_ | simp only[Z9]);try simp (maxSteps:=9^7) only[↓ S2,S2,Z7,↓reduceIte,reduceNe,reduceEqDiff,reduceCtorEq,reduceLeDiff,reduceAdd,reduceLT,]));(try simp +contextual (disch:=omega) only[Z2,]);(with_reducible repeat' (first|intro h|refine And.intro (by omega) ?_ | refine exP (by omega) ?_ | apply And.intro)))
           rw[Zn] at hP1
           rw[YD] at hP2 hP3
           have hS:StP P3 R:=by
            subst hR hP3 hP2 hP1
            rw[bind_as]
            exact StP.bind _ fun _ j=>StP.bind (Zs ts j 0 3) fun p k=>StP.last (ZW ts k wRP) _
           all_goals (
            refine .inr (.inl ⟨.mk 6 0 (PR.val 0 P2) 0 noS noS [],rfl,rfl,by rw[hS.1,hS.2],?_⟩)
            subst hR
            intro a j hx
            obtain ⟨u,m,q1,hx⟩:=ZZ hx
            obtain ⟨n,k,q2,hx⟩:=ZZ hx
            obtain ⟨v,q,q3,hx⟩:=ZZ hx
            have hv:PR.val 0 P2=n:=by rw[←hP2,←hP1,q1];show PR.val 0 (Zs ts m 0 3)=n;rw[q2];rfl
            rw[hv]
            cases hx
            rfl)
          | false=>
           rw[if_neg (by rw[hq6];decide)] at hR
           refine callS.of (Tryz.skF ts hl i hi wSelf rp H hr hq6) ?_
           rintro _ H9 ⟨rfl,e9⟩ _
           rw[e9]
           ((try refine qI ?_);(repeat ((first|with_reducible refine qU ?_ | simp only[Z9]);try simp (maxSteps:=9^7) only[↓ S2,S2,Z7,↓reduceIte,reduceNe,reduceEqDiff,reduceCtorEq,reduceLeDiff,reduceAdd,reduceLT,]));(try simp +contextual (disch:=omega) only[Z2,]);(with_reducible repeat' (first|intro h|refine And.intro (by omega) ?_ | refine exP (by omega) ?_ | apply And.intro)))
           cases hq7:sees ts i wLP with
           | true=>
            rw[if_pos hq7] at hR
            refine callS.of (Tryz.skT ts hl i hi wLP rp H hr hq7) ?_
            rintro _ _ ⟨rfl,rfl⟩ _
            ((try refine qI ?_);(repeat ((first|with_reducible refine qU ?_ | simp only[Z9]);try simp (maxSteps:=9^7) only[↓ S2,S2,Z7,↓reduceIte,reduceNe,reduceEqDiff,reduceCtorEq,reduceLeDiff,reduceAdd,reduceLT,]));(try simp +contextual (disch:=omega) only[Z2,]);(with_reducible repeat' (first|intro h|refine And.intro (by omega) ?_ | refine exP (by omega) ?_ | apply And.intro)))
            have bE:(frm false (rE ts) (i+1)).at ≤ ts.length:=Zt (Yc _) hi1
            refine callS.of (hE (i+1) false rp _ (Nat.lt_succ_self i) hi1 (h2 _)) ?_
            rintro _ _ ⟨e,r,rfl,rfl,he⟩ hn
            rw[Z0] at hn ⊢
            have hrp:r≠rp:=ZH hn (h2 _)
            generalize hP1:frm false (rE ts) (i+1)=P1 at *
            ((try refine qI ?_);(repeat ((first|with_reducible refine qU ?_ | simp only[Z9]);try simp (maxSteps:=9^7) only[↓ S2,S2,Z7,↓reduceIte,reduceNe,reduceEqDiff,reduceCtorEq,reduceLeDiff,reduceAdd,reduceLT,hrp]));(try simp +contextual (disch:=omega) only[Z2,hrp]);(with_reducible repeat' (first|intro h|refine And.intro (by omega) ?_ | refine exP (by omega) ?_ | apply And.intro)))
            refine callS.of (w65 ts hl P1.at bE P1.err wRP rp _ (by rw[ZU hrp];exact h2 _)) ?_
            rintro _ _ rfl _
            rw[ZE hrp,Z0]
            generalize hP2:frm P1.err (fun i=>ZW ts i wRP) P1.at=P2 at *
            ((try refine qI ?_);(repeat ((first|with_reducible refine qU ?_ | simp only[Z9]);try simp (maxSteps:=9^7) only[↓ S2,S2,Z7,↓reduceIte,reduceNe,reduceEqDiff,reduceCtorEq,reduceLeDiff,reduceAdd,reduceLT,hrp]));(try simp +contextual (disch:=omega) only[Z2,hrp]);(with_reducible repeat' (first|intro h|refine And.intro (by omega) ?_ | refine exP (by omega) ?_ | apply And.intro)))
            rw[Zn] at hP1
            rw[YD] at hP2
            have hS:StP P2 R:=by
             subst hR hP2 hP1
             exact StP.bind _ fun _ j=>StP.last _ _
            all_goals (
             refine .inl ⟨e,r,rfl,by rw[hS.1,hS.2],?_⟩
             subst hR
             intro a j hx
             obtain ⟨u,m,q1,hx⟩:=ZZ hx
             obtain ⟨v,q,q3,hx⟩:=ZZ hx
             cases hx
             exact he _ _ (hP1▸q1))
           | false=>
            rw[if_neg (by rw[hq7];decide)] at hR
            refine callS.of (Tryz.skF ts hl i hi wLP rp H hr hq7) ?_
            rintro _ H9 ⟨rfl,e9⟩ _
            rw[e9]
            by_cases hf:ts[i].kind = 1∧YI ts[i].text ≠ 0
            ·rw[if_pos hf] at hR
             have hk1:(ts[i].kind = 1)=True:=eq_true hf.1
             have hf2:(YI ts[i].text = 0)=False:=eq_false hf.2
             ((try refine qI ?_);(repeat ((first|with_reducible refine qU ?_ | simp only[Z9]);try simp (maxSteps:=9^7) only[↓ S2,S2,Z7,↓reduceIte,reduceNe,reduceEqDiff,reduceCtorEq,reduceLeDiff,reduceAdd,reduceLT,hk1,decide_true,decide_false]));(try simp +contextual (disch:=omega) only[Z2,hk1,decide_true,decide_false]);(with_reducible repeat' (first|intro h|refine And.intro (by omega) ?_ | refine exP (by omega) ?_ | apply And.intro)))
             refine callS.eq (w128 _) ?_
             ((try refine qI ?_);(repeat ((first|with_reducible refine qU ?_ | simp only[Z9]);try simp (maxSteps:=9^7) only[↓ S2,S2,Z7,↓reduceIte,reduceNe,reduceEqDiff,reduceCtorEq,reduceLeDiff,reduceAdd,reduceLT,hk1,hf2,decide_true,decide_false,hr]));(try simp +contextual (disch:=omega) only[Z2,hk1,hf2,decide_true,decide_false,hr]);(with_reducible repeat' (first|intro h|refine And.intro (by omega) ?_ | refine exP (by omega) ?_ | apply And.intro)))
             rw[show ZX H rp [.agg [TkS ts,I ((i:Int)+1),B false]]=ZX H rp [PaG ts (i+1) false] from rfl]
             have b1:(frm false (fun i=>ZW ts i wLP) (i+1)).at ≤ ts.length:=Zt (ZG _ _) hi1
             have l1:i<(frm false (fun i=>ZW ts i wLP) (i+1)).at := (ZG (i+1) wLP hi1).1
             refine callS.of (w65 ts hl (i+1) hi1 false wLP rp _ (h2 _)) ?_
             rintro _ _ rfl _
             rw[Z0]
             generalize hP1:frm false (fun i=>ZW ts i wLP) (i+1)=P1 at *
             ((try refine qI ?_);(repeat ((first|with_reducible refine qU ?_ | simp only[Z9]);try simp (maxSteps:=9^7) only[↓ S2,S2,Z7,↓reduceIte,reduceNe,reduceEqDiff,reduceCtorEq,reduceLeDiff,reduceAdd,reduceLT,]));(try simp +contextual (disch:=omega) only[Z2,]);(with_reducible repeat' (first|intro h|refine And.intro (by omega) ?_ | refine exP (by omega) ?_ | apply And.intro)))
             have b2:(frm P1.err (rE ts) P1.at).at ≤ ts.length:=Zt (Yc _) b1
             have l2:i<(frm P1.err (rE ts) P1.at).at := Nat.lt_of_lt_of_le l1 (X7 (Yc _) b1)
             refine callS.of (hE P1.at P1.err rp _ l1 b1 (h2 _)) ?_
             rintro _ _ ⟨ea,ra,rfl,rfl,hea⟩ hna
             rw[Z0] at hna ⊢
             have hrap:ra≠rp:=ZH hna (h2 _)
             generalize hP2:frm P1.err (rE ts) P1.at=P2 at *
             ((try refine qI ?_);(repeat ((first|with_reducible refine qU ?_ | simp only[Z9]);try simp (maxSteps:=9^7) only[↓ S2,S2,Z7,↓reduceIte,reduceNe,reduceEqDiff,reduceCtorEq,reduceLeDiff,reduceAdd,reduceLT,hrap]));(try simp +contextual (disch:=omega) only[Z2,hrap]);(with_reducible repeat' (first|intro h|refine And.intro (by omega) ?_ | refine exP (by omega) ?_ | apply And.intro)))
             have b3:(frm P2.err (fun i=>ZW ts i Yy) P2.at).at ≤ ts.length:=Zt (ZG _ _) b2
             have l3:i<(frm P2.err (fun i=>ZW ts i Yy) P2.at).at := Nat.lt_of_lt_of_le l2 (X7 (ZG _ _) b2)
             refine callS.of (w65 ts hl P2.at b2 P2.err Yy rp _ (by rw[ZU hrap];exact h2 _)) ?_
             rintro _ _ rfl _
             rw[ZE hrap,Z0]
             generalize hP3:frm P2.err (fun i=>ZW ts i Yy) P2.at=P3 at *
             ((try refine qI ?_);(repeat ((first|with_reducible refine qU ?_ | simp only[Z9]);try simp (maxSteps:=9^7) only[↓ S2,S2,Z7,↓reduceIte,reduceNe,reduceEqDiff,reduceCtorEq,reduceLeDiff,reduceAdd,reduceLT,hrap]));(try simp +contextual (disch:=omega) only[Z2,hrap]);(with_reducible repeat' (first|intro h|refine And.intro (by omega) ?_ | refine exP (by omega) ?_ | apply And.intro)))
             have b4:(frm P3.err (rE ts) P3.at).at ≤ ts.length:=Zt (Yc _) b3
             refine callS.of (hE P3.at P3.err rp _ l3 b3 (by rw[ZU hrap];exact h2 _)) ?_
             rintro _ _ ⟨eb,rb,rfl,rfl,heb⟩ hnb
             rw[ZE hrap,Z0] at hnb ⊢
             have hrba:rb≠ra:=ZH hnb Z4
             have hrbp:rb≠rp:=ZH hnb (by rw[ZU hrap];exact h2 _)
             generalize hP4:frm P3.err (rE ts) P3.at=P4 at *
             ((try refine qI ?_);(repeat ((first|with_reducible refine qU ?_ | simp only[Z9]);try simp (maxSteps:=9^7) only[↓ S2,S2,Z7,↓reduceIte,reduceNe,reduceEqDiff,reduceCtorEq,reduceLeDiff,reduceAdd,reduceLT,hrap,hrbp,hrba]));(try simp +contextual (disch:=omega) only[Z2,hrap,hrbp,hrba]);(with_reducible repeat' (first|intro h|refine And.intro (by omega) ?_ | refine exP (by omega) ?_ | apply And.intro)))
             refine callS.of (w65 ts hl P4.at b4 P4.err wRP rp _ (by rw[ZU hrbp,ZU hrap];exact h2 _)) ?_
             rintro _ _ rfl _
             rw[ZE hrbp,ZE hrap,Z0]
             generalize hP5:frm P4.err (fun i=>ZW ts i wRP) P4.at=P5 at *
             ((try refine qI ?_);(repeat ((first|with_reducible refine qU ?_ | simp only[Z9]);try simp (maxSteps:=9^7) only[↓ S2,S2,Z7,↓reduceIte,reduceNe,reduceEqDiff,reduceCtorEq,reduceLeDiff,reduceAdd,reduceLT,hrap,hrbp,hrba]));(try simp +contextual (disch:=omega) only[Z2,hrap,hrbp,hrba]);(with_reducible repeat' (first|intro h|refine And.intro (by omega) ?_ | refine exP (by omega) ?_ | apply And.intro)))
             refine callS.eq (w128 _) ?_
             ((try refine qI ?_);(repeat ((first|with_reducible refine qU ?_ | simp only[Z9]);try simp (maxSteps:=9^7) only[↓ S2,S2,Z7,↓reduceIte,reduceNe,reduceEqDiff,reduceCtorEq,reduceLeDiff,reduceAdd,reduceLT,hrap,hrbp,hrba]));(try simp +contextual (disch:=omega) only[Z2,hrap,hrbp,hrba]);(with_reducible repeat' (first|intro h|refine And.intro (by omega) ?_ | refine exP (by omega) ?_ | apply And.intro)))
             refine callS.of (o68 (YI ts[i].text) ea eb ra rb _ (Ne.symm hrba) (by rw[ZU hrba];exact Z4) Z4) ?_
             rintro _ _ ⟨r,rfl,rfl⟩ hn
             have hd:ZL (ZL ((rb,7,eb.args.map ExO)::(ra,7,ea.args.map ExO)::ZX H rp [PaG ts P5.at P5.err]) ra) rb=ZX H rp [PaG ts P5.at P5.err]:=by simp[ZL,hrba]
             rw[hd] at hn ⊢
             ((try refine qI ?_);(repeat ((first|with_reducible refine qU ?_ | simp only[Z9]);try simp (maxSteps:=9^7) only[↓ S2,S2,Z7,↓reduceIte,reduceNe,reduceEqDiff,reduceCtorEq,reduceLeDiff,reduceAdd,reduceLT,]));(try simp +contextual (disch:=omega) only[Z2,]);(with_reducible repeat' (first|intro h|refine And.intro (by omega) ?_ | refine exP (by omega) ?_ | apply And.intro)))
             rw[Zn] at hP1
             rw[YD] at hP2 hP3 hP4 hP5
             have hS:StP P5 R:=by
              subst hR hP5 hP4 hP3 hP2 hP1
              simp only[bind_as]
              exact StP.bind _ fun _ j=>StP.bind _ fun a j=>StP.bind _ fun _ j=>StP.bind (rE ts j) fun b j=>StP.last _ _
             all_goals (
              refine .inl ⟨opE (YI ts[i].text) ea eb,r,rfl,by rw[hS.1,hS.2],?_⟩
              subst hR
              intro a j hx
              obtain ⟨u,m,q1,hx⟩:=ZZ hx
              obtain ⟨a1,k,q2,hx⟩:=ZZ hx
              obtain ⟨v,q,q3,hx⟩:=ZZ hx
              obtain ⟨a2,n,q4,hx⟩:=ZZ hx
              obtain ⟨v2,q0,q5,hx⟩:=ZZ hx
              have f2:P2 = .ok a1 k:=by rw[←hP2,←hP1,q1];exact q2
              have f4:P4 = .ok a2 n:=by rw[←hP4,←hP3,f2,show (PR.ok a1 k).bind (fun _ i=>ZW ts i Yy)=ZW ts k Yy from rfl,q3];exact q4
              cases hx
              rw[hea _ _ f2,heb _ _ f4])
            ·rw[if_neg hf] at hR
             have hA':∀(j:Nat) (b:Bool) (rp:Nat) (H:GH),(b=false→i<j)→j≤ts.length→Z3 H rp=some (3,[PaG ts j b])→Gc 102 [.ptr rp 3 0 0] H (EP (PaG ts) (frm b (rA ts) j) rp H):=by
              intro j b rp H h1 h2 h3
              cases b with
              | true=>exact Tryz.atomT ts hl j rp H h3
              | false=>exact hA j false rp H (h1 rfl) h2 h3
             have hS0:Z3 H rp=some (3,[PaG ts i false]):=hr
             by_cases hk1:ts[i].kind = 1
             ·have hk1':(ts[i].kind = 1)=True:=eq_true hk1
              have hf2:(YI ts[i].text = 0)=True:=eq_true (Decidable.not_not.mp fun h=>hf ⟨hk1,h⟩)
              ((try refine qI ?_);(repeat ((first|with_reducible refine qU ?_ | simp only[Z9]);try simp (maxSteps:=9^7) only[↓ S2,S2,Z7,↓reduceIte,reduceNe,reduceEqDiff,reduceCtorEq,reduceLeDiff,reduceAdd,reduceLT,hk1',decide_true,decide_false]));(try simp +contextual (disch:=omega) only[Z2,hk1',decide_true,decide_false]);(with_reducible repeat' (first|intro h|refine And.intro (by omega) ?_ | refine exP (by omega) ?_ | apply And.intro)))
              refine callS.eq (w128 _) ?_
              ((try refine qI ?_);(repeat ((first|with_reducible refine qU ?_ | simp only[Z9]);try simp (maxSteps:=9^7) only[↓ S2,S2,Z7,↓reduceIte,reduceNe,reduceEqDiff,reduceCtorEq,reduceLeDiff,reduceAdd,reduceLT,hk1',hf2,decide_true,decide_false]));(try simp +contextual (disch:=omega) only[Z2,hk1',hf2,decide_true,decide_false]);(with_reducible repeat' (first|intro h|refine And.intro (by omega) ?_ | refine exP (by omega) ?_ | apply And.intro)))
              refine callS.of (w127 ts hl ht i hi false rp H hr) ?_
              rintro _ _ ⟨rfl,rfl⟩ _
              have b1:(frm false (ZP ts) i).at ≤ ts.length:=Zt (X9 _) hi
              generalize hP1:frm false (ZP ts) i=P1 at *
              ((try refine qI ?_);(repeat ((first|with_reducible refine qU ?_ | simp only[Z9]);try simp (maxSteps:=9^7) only[↓ S2,S2,Z7,↓reduceIte,reduceNe,reduceEqDiff,reduceCtorEq,reduceLeDiff,reduceAdd,reduceLT,]));(try simp +contextual (disch:=omega) only[Z2,]);(with_reducible repeat' (first|intro h|refine And.intro (by omega) ?_ | refine exP (by omega) ?_ | apply And.intro)))
              have b2:(frm P1.err (fun i=>ZW ts i Zb) P1.at).at ≤ ts.length:=Zt (ZG _ _) b1
              refine callS.of (w65 ts hl P1.at b1 P1.err Zb rp _ (h2 _)) ?_
              rintro _ _ rfl _
              rw[Z0]
              generalize hP2:frm P1.err (fun i=>ZW ts i Zb) P1.at=P2 at *
              ((try refine qI ?_);(repeat ((first|with_reducible refine qU ?_ | simp only[Z9]);try simp (maxSteps:=9^7) only[↓ S2,S2,Z7,↓reduceIte,reduceNe,reduceEqDiff,reduceCtorEq,reduceLeDiff,reduceAdd,reduceLT,]));(try simp +contextual (disch:=omega) only[Z2,]);(with_reducible repeat' (first|intro h|refine And.intro (by omega) ?_ | refine exP (by omega) ?_ | apply And.intro)))
              have b3:(frm P2.err (ZP ts) P2.at).at ≤ ts.length:=Zt (X9 _) b2
              refine callS.of (w127 ts hl ht P2.at b2 P2.err rp _ (h2 _)) ?_
              rintro _ _ ⟨rfl,rfl⟩ _
              rw[Z0]
              generalize hP3:frm P2.err (ZP ts) P2.at=P3 at *
              ((try refine qI ?_);(repeat ((first|with_reducible refine qU ?_ | simp only[Z9]);try simp (maxSteps:=9^7) only[↓ S2,S2,Z7,↓reduceIte,reduceNe,reduceEqDiff,reduceCtorEq,reduceLeDiff,reduceAdd,reduceLT,]));(try simp +contextual (disch:=omega) only[Z2,]);(with_reducible repeat' (first|intro h|refine And.intro (by omega) ?_ | refine exP (by omega) ?_ | apply And.intro)))
              have b4:(frm P3.err (fun i=>ZW ts i wOf) P3.at).at ≤ ts.length:=Zt (ZG _ _) b3
              refine callS.of (w65 ts hl P3.at b3 P3.err wOf rp _ (h2 _)) ?_
              rintro _ _ rfl _
              rw[Z0]
              generalize hP4:frm P3.err (fun i=>ZW ts i wOf) P3.at=P4 at *
              ((try refine qI ?_);(repeat ((first|with_reducible refine qU ?_ | simp only[Z9]);try simp (maxSteps:=9^7) only[↓ S2,S2,Z7,↓reduceIte,reduceNe,reduceEqDiff,reduceCtorEq,reduceLeDiff,reduceAdd,reduceLT,]));(try simp +contextual (disch:=omega) only[Z2,]);(with_reducible repeat' (first|intro h|refine And.intro (by omega) ?_ | refine exP (by omega) ?_ | apply And.intro)))
              rw[Zn] at hP1
              rw[YD] at hP2 hP3 hP4
              have hlt:P4.err=false→i<P4.at:=by
               subst hP4 hP3 hP2
               cases hq:ZP ts i with
               | bad k=>rw[←hP1,hq];intro h;cases h
               | ok s k=>
                rw[←hP1,hq]
                intro _
                obtain rfl:=name_nx hq
                exact ((((ZG (i+1) Zb).bind fun _ _ => X9 _).bind fun _ _ => ZG _ _) hi1).1
              refine callS.of (hA' P4.at P4.err rp _ hlt b4 (h2 _)) ?_
              rintro _ _ ⟨e,r,rfl,rfl,he⟩ hn
              rw[Z0] at hn ⊢
              have hrp:r≠rp:=ZH hn (h2 _)
              generalize hP5:frm P4.err (rA ts) P4.at=P5 at *
              replace hn:=neH_of hn
              (replace hn:=hn;simp only[VN] at hn)
              ((try refine qI ?_);(repeat ((first|with_reducible refine qU ?_ | simp only[Z9]);try simp (maxSteps:=9^7) only[↓ S2,S2,Z7,↓reduceIte,reduceNe,reduceEqDiff,reduceCtorEq,reduceLeDiff,reduceAdd,reduceLT,hn,hrp]));(try simp +contextual (disch:=omega) only[Z2,hn,hrp]);(with_reducible repeat' (first|intro h|refine And.intro (by omega) ?_ | refine exP (by omega) ?_ | apply And.intro)))
              rename_i q
              have hqr:q≠r:=(by intro hh;subst hh;simp[names] at h)
              rw[YD] at hP5
              have hS:StP P5 R:=by
               subst hR hP5 hP4 hP3 hP2 hP1
               simp only[bind_as]
               exact StP.bind _ fun _ j=>StP.bind _ fun _ j=>StP.bind _ fun _ j=>StP.bind _ fun _ j=>StP.last _ _
              refine .inr (.inr (.inl ⟨PR.val noS P1,PR.val noS P3,e,r,q,hqr,rfl,by rw[hS.1,hS.2],?_⟩))
              subst hR
              intro x j hx
              obtain ⟨s,m,q1,hx⟩:=ZZ hx
              obtain ⟨u,k,q2,hx⟩:=ZZ hx
              obtain ⟨n,p,q3,hx⟩:=ZZ hx
              obtain ⟨u2,o,q4,hx⟩:=ZZ hx
              obtain ⟨e2,o2,q5,hx⟩:=ZZ hx
              have f1:P1 = .ok s m:=by rw[←hP1];exact q1
              have f2:P2 = .ok u k:=by rw[←hP2,f1];exact q2
              have f3:P3 = .ok n p:=by rw[←hP3,f2];exact q3
              have f4:P4 = .ok u2 o:=by rw[←hP4,f3];exact q4
              have f5:P5 = .ok e2 o2:=by rw[←hP5,f4];exact q5
              cases hx
              rw[he _ _ f5,f1,f3]
              rfl
             ·have hk1':(ts[i].kind = 1)=False:=eq_false hk1
              ((try refine qI ?_);(repeat ((first|with_reducible refine qU ?_ | simp only[Z9]);try simp (maxSteps:=9^7) only[↓ S2,S2,Z7,↓reduceIte,reduceNe,reduceEqDiff,reduceCtorEq,reduceLeDiff,reduceAdd,reduceLT,hk1',decide_true,decide_false]));(try simp +contextual (disch:=omega) only[Z2,hk1',decide_true,decide_false]);(with_reducible repeat' (first|intro h|refine And.intro (by omega) ?_ | refine exP (by omega) ?_ | apply And.intro)))
              refine callS.of (w127 ts hl ht i hi false rp H hr) ?_
              rintro _ _ ⟨rfl,rfl⟩ _
              have b1:(frm false (ZP ts) i).at ≤ ts.length:=Zt (X9 _) hi
              generalize hP1:frm false (ZP ts) i=P1 at *
              ((try refine qI ?_);(repeat ((first|with_reducible refine qU ?_ | simp only[Z9]);try simp (maxSteps:=9^7) only[↓ S2,S2,Z7,↓reduceIte,reduceNe,reduceEqDiff,reduceCtorEq,reduceLeDiff,reduceAdd,reduceLT,]));(try simp +contextual (disch:=omega) only[Z2,]);(with_reducible repeat' (first|intro h|refine And.intro (by omega) ?_ | refine exP (by omega) ?_ | apply And.intro)))
              have b2:(frm P1.err (fun i=>ZW ts i Zb) P1.at).at ≤ ts.length:=Zt (ZG _ _) b1
              refine callS.of (w65 ts hl P1.at b1 P1.err Zb rp _ (h2 _)) ?_
              rintro _ _ rfl _
              rw[Z0]
              generalize hP2:frm P1.err (fun i=>ZW ts i Zb) P1.at=P2 at *
              ((try refine qI ?_);(repeat ((first|with_reducible refine qU ?_ | simp only[Z9]);try simp (maxSteps:=9^7) only[↓ S2,S2,Z7,↓reduceIte,reduceNe,reduceEqDiff,reduceCtorEq,reduceLeDiff,reduceAdd,reduceLT,]));(try simp +contextual (disch:=omega) only[Z2,]);(with_reducible repeat' (first|intro h|refine And.intro (by omega) ?_ | refine exP (by omega) ?_ | apply And.intro)))
              have b3:(frm P2.err (ZP ts) P2.at).at ≤ ts.length:=Zt (X9 _) b2
              refine callS.of (w127 ts hl ht P2.at b2 P2.err rp _ (h2 _)) ?_
              rintro _ _ ⟨rfl,rfl⟩ _
              rw[Z0]
              generalize hP3:frm P2.err (ZP ts) P2.at=P3 at *
              ((try refine qI ?_);(repeat ((first|with_reducible refine qU ?_ | simp only[Z9]);try simp (maxSteps:=9^7) only[↓ S2,S2,Z7,↓reduceIte,reduceNe,reduceEqDiff,reduceCtorEq,reduceLeDiff,reduceAdd,reduceLT,]));(try simp +contextual (disch:=omega) only[Z2,]);(with_reducible repeat' (first|intro h|refine And.intro (by omega) ?_ | refine exP (by omega) ?_ | apply And.intro)))
              have b4:(frm P3.err (fun i=>ZW ts i wOf) P3.at).at ≤ ts.length:=Zt (ZG _ _) b3
              refine callS.of (w65 ts hl P3.at b3 P3.err wOf rp _ (h2 _)) ?_
              rintro _ _ rfl _
              rw[Z0]
              generalize hP4:frm P3.err (fun i=>ZW ts i wOf) P3.at=P4 at *
              ((try refine qI ?_);(repeat ((first|with_reducible refine qU ?_ | simp only[Z9]);try simp (maxSteps:=9^7) only[↓ S2,S2,Z7,↓reduceIte,reduceNe,reduceEqDiff,reduceCtorEq,reduceLeDiff,reduceAdd,reduceLT,]));(try simp +contextual (disch:=omega) only[Z2,]);(with_reducible repeat' (first|intro h|refine And.intro (by omega) ?_ | refine exP (by omega) ?_ | apply And.intro)))
              rw[Zn] at hP1
              rw[YD] at hP2 hP3 hP4
              have hlt:P4.err=false→i<P4.at:=by
               subst hP4 hP3 hP2
               cases hq:ZP ts i with
               | bad k=>rw[←hP1,hq];intro h;cases h
               | ok s k=>
                rw[←hP1,hq]
                intro _
                obtain rfl:=name_nx hq
                exact ((((ZG (i+1) Zb).bind fun _ _ => X9 _).bind fun _ _ => ZG _ _) hi1).1
              refine callS.of (hA' P4.at P4.err rp _ hlt b4 (h2 _)) ?_
              rintro _ _ ⟨e,r,rfl,rfl,he⟩ hn
              rw[Z0] at hn ⊢
              have hrp:r≠rp:=ZH hn (h2 _)
              generalize hP5:frm P4.err (rA ts) P4.at=P5 at *
              replace hn:=neH_of hn
              (replace hn:=hn;simp only[VN] at hn)
              ((try refine qI ?_);(repeat ((first|with_reducible refine qU ?_ | simp only[Z9]);try simp (maxSteps:=9^7) only[↓ S2,S2,Z7,↓reduceIte,reduceNe,reduceEqDiff,reduceCtorEq,reduceLeDiff,reduceAdd,reduceLT,hn,hrp]));(try simp +contextual (disch:=omega) only[Z2,hn,hrp]);(with_reducible repeat' (first|intro h|refine And.intro (by omega) ?_ | refine exP (by omega) ?_ | apply And.intro)))
              rename_i q
              have hqr:q≠r:=(by intro hh;subst hh;simp[names] at h)
              rw[YD] at hP5
              have hS:StP P5 R:=by
               subst hR hP5 hP4 hP3 hP2 hP1
               simp only[bind_as]
               exact StP.bind _ fun _ j=>StP.bind _ fun _ j=>StP.bind _ fun _ j=>StP.bind _ fun _ j=>StP.last _ _
              refine .inr (.inr (.inl ⟨PR.val noS P1,PR.val noS P3,e,r,q,hqr,rfl,by rw[hS.1,hS.2],?_⟩))
              subst hR
              intro x j hx
              obtain ⟨s,m,q1,hx⟩:=ZZ hx
              obtain ⟨u,k,q2,hx⟩:=ZZ hx
              obtain ⟨n,p,q3,hx⟩:=ZZ hx
              obtain ⟨u2,o,q4,hx⟩:=ZZ hx
              obtain ⟨e2,o2,q5,hx⟩:=ZZ hx
              have f1:P1 = .ok s m:=by rw[←hP1];exact q1
              have f2:P2 = .ok u k:=by rw[←hP2,f1];exact q2
              have f3:P3 = .ok n p:=by rw[←hP3,f2];exact q3
              have f4:P4 = .ok u2 o:=by rw[←hP4,f3];exact q4
              have f5:P5 = .ok e2 o2:=by rw[←hP5,f4];exact q5
              cases hx
              rw[he _ _ f5,f1,f3]
              rfl
  ·have hx:R = .bad i:=by
    unfold Zc at hR
    dsimp only at hR
    rw[if_pos (by omega)] at hR
    exact hR.symm
   have hG':ts.length≤i:=hG
   refine Z6 mxd i102 rfl (by simp) ?_;simp (maxSteps:=9^7) only[↓ S2,S2,Z7,↓reduceIte,reduceNe,reduceEqDiff,reduceCtorEq,reduceLeDiff,reduceAdd,reduceLT]
   ((try refine qI ?_);(repeat ((first|with_reducible refine qU ?_ | simp only[Z9]);try simp (maxSteps:=9^7) only[↓ S2,S2,Z7,↓reduceIte,reduceNe,reduceEqDiff,reduceCtorEq,reduceLeDiff,reduceAdd,reduceLT,hr,hG',h2,Z0,decide_true,decide_false]));(try simp +contextual (disch:=omega) only[Z2,hr,hG',h2,Z0,decide_true,decide_false]);(with_reducible repeat' (first|intro h|refine And.intro (by omega) ?_ | refine exP (by omega) ?_ | apply And.intro)))
   all_goals first|(exfalso;omega)|exact .inr (.inl (hbad hx))
theorem Tryz.row4 (ts:List Go.Gh.Tok) (X:Nat→PR Exp) (i:Nat) (b:Bool) (rp:Nat) (H:GH)
 (hA:Gc 102 [.ptr rp 3 0 0] H (EP (PaG ts) (frm b X i) rp H)):Gc 66 [.ptr rp 3 0 0,I 4] H (EP (PaG ts) (frm b X i) rp H):=by
 refine Z6 mxd i66 rfl (by simp) ?_;simp (maxSteps:=9^7) only[↓ S2,S2,Z7,↓reduceIte,reduceNe,reduceEqDiff,reduceCtorEq,reduceLeDiff,reduceAdd,reduceLT]
 ((try refine qI ?_);(repeat ((first|with_reducible refine qU ?_ | simp only[Z9]);try simp (maxSteps:=9^7) only[↓ S2,S2,Z7,↓reduceIte,reduceNe,reduceEqDiff,reduceCtorEq,reduceLeDiff,reduceAdd,reduceLT,]));(try simp +contextual (disch:=omega) only[Z2,]);(with_reducible repeat' (first|intro h|refine And.intro (by omega) ?_ | refine exP (by omega) ?_ | apply And.intro)))
 refine callS.of hA ?_
 rintro _ _ ⟨e,r,rfl,rfl,he⟩ hn
 ((try refine qI ?_);(repeat ((first|with_reducible refine qU ?_ | simp only[Z9]);try simp (maxSteps:=9^7) only[↓ S2,S2,Z7,↓reduceIte,reduceNe,reduceEqDiff,reduceCtorEq,reduceLeDiff,reduceAdd,reduceLT,]));(try simp +contextual (disch:=omega) only[Z2,]);(with_reducible repeat' (first|intro h|refine And.intro (by omega) ?_ | refine exP (by omega) ?_ | apply And.intro)))
 exact ⟨e,r,rfl,rfl,he⟩
theorem Tryz.skE (ts:List Go.Gh.Tok) (hl:ts.length≤80) (i:Nat) (hi:i≤ts.length) (b:Bool) (w:ByteArray) (rp:Nat) (H:GH) (hr:Z3 H rp=some (3,[PaG ts i b])) (hs:(b=true)∨sees ts i w=false) :
 Gc 64 [.ptr rp 3 0 0,T w] H (fun g H'=>g=B false∧H'=H):=by
 have:=w64 ts hl i hi b w rp H hr
 have e:ZX H rp [PaG ts i b]=H:=Yb hr
 cases b with
 | true=>
  refine this.mono ?_
  rintro g H' ⟨h1,h2⟩
  exact ⟨h1,h2.trans e⟩
 | false=>
  have hs:sees ts i w=false:=hs.resolve_left (fun h=>(by cases h))
  rw[hs] at this
  refine this.mono ?_
  rintro g H' ⟨h1,h2⟩
  exact ⟨h1,h2.trans e⟩
theorem Tryz.exprR (ts:List Go.Gh.Tok) (hl:ts.length≤80) (ht:okTs ts) (X:Nat→PR Exp) (hXb:∀i,BdA ts i (X i)) (i:Nat) (hi:i≤ts.length) (b:Bool) (hs:(b=true)∨sees ts i wIf=false)
 (hX:∀(j:Nat) (b:Bool) (rp:Nat) (H:GH),i≤j→j≤ts.length→Z3 H rp=some (3,[PaG ts j b])→Gc 66 [.ptr rp 3 0 0,I 2] H (EP (PaG ts) (frm b X j) rp H))
 (rp:Nat) (H:GH) (hr:Z3 H rp=some (3,[PaG ts i b])):Gc 34 [.ptr rp 3 0 0] H (EP (PaG ts) (frm b (lvP ts X 1) i) rp H):=by
 have h2:∀fs,Z3 (ZX H rp fs) rp=some (3,fs):=fun fs=>Zz hr
 generalize hR:frm b (lvP ts X 1) i=R
 refine Z6 mxd i34 rfl (by simp) ?_;simp (maxSteps:=9^7) only[↓ S2,S2,Z7,↓reduceIte,reduceNe,reduceEqDiff,reduceCtorEq,reduceLeDiff,reduceAdd,reduceLT]
 ((try refine qI ?_);(repeat ((first|with_reducible refine qU ?_ | simp only[Z9]);try simp (maxSteps:=9^7) only[↓ S2,S2,Z7,↓reduceIte,reduceNe,reduceEqDiff,reduceCtorEq,reduceLeDiff,reduceAdd,reduceLT,]));(try simp +contextual (disch:=omega) only[Z2,]);(with_reducible repeat' (first|intro h|refine And.intro (by omega) ?_ | refine exP (by omega) ?_ | apply And.intro)))
 refine callS.of (Tryz.skE ts hl i hi b wIf rp H hr hs) ?_
 rintro _ H9 ⟨rfl,e9⟩ _
 rw[e9]
 ((try refine qI ?_);(repeat ((first|with_reducible refine qU ?_ | simp only[Z9]);try simp (maxSteps:=9^7) only[↓ S2,S2,Z7,↓reduceIte,reduceNe,reduceEqDiff,reduceCtorEq,reduceLeDiff,reduceAdd,reduceLT,]));(try simp +contextual (disch:=omega) only[Z2,]);(with_reducible repeat' (first|intro h|refine And.intro (by omega) ?_ | refine exP (by omega) ?_ | apply And.intro)))
 have b1:(frm b X i).at ≤ ts.length:=Zt (hXb _) hi
 have l1:i≤(frm b X i).at := X7 (hXb _) hi
 refine callS.of (hX i b rp _ (Nat.le_refl _) hi hr) ?_
 rintro _ _ ⟨ea,ra,rfl,rfl,hea⟩ hna
 have hrap:ra≠rp:=ZH hna (h2 _)
 generalize hP1:frm b X i=P1 at *
 ((try refine qI ?_);(repeat ((first|with_reducible refine qU ?_ | simp only[Z9]);try simp (maxSteps:=9^7) only[↓ S2,S2,Z7,↓reduceIte,reduceNe,reduceEqDiff,reduceCtorEq,reduceLeDiff,reduceAdd,reduceLT,hrap]));(try simp +contextual (disch:=omega) only[Z2,hrap]);(with_reducible repeat' (first|intro h|refine And.intro (by omega) ?_ | refine exP (by omega) ?_ | apply And.intro)))
 refine callS.of (w67 ts hl ht P1.at b1 P1.err 1 (by omega) (by omega) rp _ (by rw[ZU hrap];exact h2 _)) ?_
 rintro _ _ ⟨rfl,rfl⟩ _
 rw[ZE hrap,Z0]
 have hRP:P1.bind (fun e j=>Y5 ts X 1 (ts.length+1) e j)=R:=by subst hP1 hR;cases b<;>rfl
 by_cases ho:opB ts P1.err P1.at 1=0
 ·have ho':(opB ts P1.err P1.at 1=0)=True:=eq_true ho
  ((try refine qI ?_);(repeat ((first|with_reducible refine qU ?_ | simp only[Z9]);try simp (maxSteps:=9^7) only[↓ S2,S2,Z7,↓reduceIte,reduceNe,reduceEqDiff,reduceCtorEq,reduceLeDiff,reduceAdd,reduceLT,hrap,ho']));(try simp +contextual (disch:=omega) only[Z2,hrap,ho']);(with_reducible repeat' (first|intro h|refine And.intro (by omega) ?_ | refine exP (by omega) ?_ | apply And.intro)))
  rw[if_neg (fun h=>h ho)]
  cases P1 with
  | bad k=>
   obtain rfl:PR.bad k=R:=hRP
   exact ⟨ea,ra,rfl,rfl,fun a j h=>(by cases h)⟩
  | ok a k=>
   obtain rfl:=hea a k rfl
   simp only[PR.bind,Y5] at hRP
   rw[if_pos (show Go.Gh.opAt ts k 1=0 from ho)] at hRP
   subst hRP
   exact ⟨ea,ra,rfl,rfl,fun a j h=>(by cases h;rfl)⟩
 ·have ho':(opB ts P1.err P1.at 1=0)=False:=eq_false ho
  ((try refine qI ?_);(repeat ((first|with_reducible refine qU ?_ | simp only[Z9]);try simp (maxSteps:=9^7) only[↓ S2,S2,Z7,↓reduceIte,reduceNe,reduceEqDiff,reduceCtorEq,reduceLeDiff,reduceAdd,reduceLT,hrap,ho']));(try simp +contextual (disch:=omega) only[Z2,hrap,ho']);(with_reducible repeat' (first|intro h|refine And.intro (by omega) ?_ | refine exP (by omega) ?_ | apply And.intro)))
  rw[if_pos ho]
  cases P1 with
  | bad k=>exact absurd rfl ho
  | ok a k=>
   obtain rfl:=hea a k rfl
   have hlt:k<ts.length:=by
    rcases nL k ts.length with h|h
    ·exact h
    ·exact absurd (opB_ge h 1) ho
   simp only[PR.bind,Y5] at hRP
   rw[if_neg (show ¬Go.Gh.opAt ts k 1=0 from ho)] at hRP
   simp only[if_pos] at hRP
   have hop:Go.Gh.opAt ts k 1=opB ts false k 1:=rfl
   rw[hop] at hRP
   have l1:i≤k:=l1
   rw[show ZX H rp [PaG ts ((PR.ok ea k).at + 1) (PR.ok ea k).err]=ZX H rp [PaG ts (k+1) false] from rfl]
   refine callS.of (hX (k+1) false rp _ (by omega) hlt (by rw[ZU hrap];exact h2 _)) ?_
   rintro _ _ ⟨eb,rb,rfl,rfl,heb⟩ hnb
   rw[ZE hrap,Z0] at hnb ⊢
   rw[Zn] at heb hnb ⊢
   have hrba:rb≠ra:=ZH hnb Z4
   have hrbp:rb≠rp:=ZH hnb (by rw[ZU hrap];exact h2 _)
   generalize hP2:X (k+1)=P2 at *
   ((try refine qI ?_);(repeat ((first|with_reducible refine qU ?_ | simp only[Z9]);try simp (maxSteps:=9^7) only[↓ S2,S2,Z7,↓reduceIte,reduceNe,reduceEqDiff,reduceCtorEq,reduceLeDiff,reduceAdd,reduceLT,hrap,hrbp,hrba]));(try simp +contextual (disch:=omega) only[Z2,hrap,hrbp,hrba]);(with_reducible repeat' (first|intro h|refine And.intro (by omega) ?_ | refine exP (by omega) ?_ | apply And.intro)))
   refine callS.of (o68 (opB ts false k 1) ea eb ra rb _ (Ne.symm hrba) (by rw[ZU hrba];exact Z4) Z4) ?_
   rintro _ _ ⟨r,rfl,rfl⟩ hn
   have hd:ZL (ZL ((rb,7,eb.args.map ExO)::(ra,7,ea.args.map ExO)::ZX H rp [PaG ts P2.at P2.err]) ra) rb=ZX H rp [PaG ts P2.at P2.err]:=by simp[ZL,hrba]
   rw[hd] at hn ⊢
   ((try refine qI ?_);(repeat ((first|with_reducible refine qU ?_ | simp only[Z9]);try simp (maxSteps:=9^7) only[↓ S2,S2,Z7,↓reduceIte,reduceNe,reduceEqDiff,reduceCtorEq,reduceLeDiff,reduceAdd,reduceLT,]));(try simp +contextual (disch:=omega) only[Z2,]);(with_reducible repeat' (first|intro h|refine And.intro (by omega) ?_ | refine exP (by omega) ?_ | apply And.intro)))
   subst hRP
   refine ⟨opE (opB ts false k 1) ea eb,r,rfl,?_,?_⟩
   ·cases P2<;>rfl
   ·intro x j hx
    obtain ⟨y,m,q1,hx⟩:=ZZ hx
    cases hx
    rw[heb _ _ q1]
theorem Tryz.exprI (ts:List Go.Gh.Tok) (hl:ts.length≤80) (i:Nat) (hi:i≤ts.length) (hs:sees ts i wIf=true)
 (hE:∀(j:Nat) (b:Bool) (rp:Nat) (H:GH),i<j→j≤ts.length→Z3 H rp=some (3,[PaG ts j b])→Gc 34 [.ptr rp 3 0 0] H (EP (PaG ts) (frm b (rE ts) j) rp H))
 (rp:Nat) (H:GH) (hr:Z3 H rp=some (3,[PaG ts i false])):Gc 34 [.ptr rp 3 0 0] H (EP (PaG ts) (rE ts i) rp H):=by
 have h2:∀fs,Z3 (ZX H rp fs) rp=some (3,fs):=fun fs=>Zz hr
 have hi1:i+1≤ts.length:=sees_lt hs
 generalize hR:rE ts i=R
 rw[rE_eq hi] at hR
 unfold YH at hR
 rw[if_pos hs] at hR
 refine EP.of ?_
 refine Z6 mxd i34 rfl (by simp) ?_;simp (maxSteps:=9^7) only[↓ S2,S2,Z7,↓reduceIte,reduceNe,reduceEqDiff,reduceCtorEq,reduceLeDiff,reduceAdd,reduceLT]
 ((try refine qI ?_);(repeat ((first|with_reducible refine qU ?_ | simp only[Z9]);try simp (maxSteps:=9^7) only[↓ S2,S2,Z7,↓reduceIte,reduceNe,reduceEqDiff,reduceCtorEq,reduceLeDiff,reduceAdd,reduceLT,]));(try simp +contextual (disch:=omega) only[Z2,]);(with_reducible repeat' (first|intro h|refine And.intro (by omega) ?_ | refine exP (by omega) ?_ | apply And.intro)))
 refine callS.of (Tryz.skT ts hl i hi wIf rp H hr hs) ?_
 rintro _ _ ⟨rfl,rfl⟩ _
 ((try refine qI ?_);(repeat ((first|with_reducible refine qU ?_ | simp only[Z9]);try simp (maxSteps:=9^7) only[↓ S2,S2,Z7,↓reduceIte,reduceNe,reduceEqDiff,reduceCtorEq,reduceLeDiff,reduceAdd,reduceLT,]));(try simp +contextual (disch:=omega) only[Z2,]);(with_reducible repeat' (first|intro h|refine And.intro (by omega) ?_ | refine exP (by omega) ?_ | apply And.intro)))
 have b1:(frm false (rE ts) (i+1)).at ≤ ts.length:=Zt (Yc _) hi1
 have l1:i<(frm false (rE ts) (i+1)).at := X7 (Yc _) hi1
 refine callS.of (hE (i+1) false rp _ (Nat.lt_succ_self i) hi1 (h2 _)) ?_
 rintro _ _ ⟨ea,ra,rfl,rfl,hea⟩ hna
 rw[Z0] at hna ⊢
 have hrap:ra≠rp:=ZH hna (h2 _)
 generalize hP1:frm false (rE ts) (i+1)=P1 at *
 ((try refine qI ?_);(repeat ((first|with_reducible refine qU ?_ | simp only[Z9]);try simp (maxSteps:=9^7) only[↓ S2,S2,Z7,↓reduceIte,reduceNe,reduceEqDiff,reduceCtorEq,reduceLeDiff,reduceAdd,reduceLT,hrap]));(try simp +contextual (disch:=omega) only[Z2,hrap]);(with_reducible repeat' (first|intro h|refine And.intro (by omega) ?_ | refine exP (by omega) ?_ | apply And.intro)))
 have b2:(frm P1.err (fun i=>ZW ts i wThen) P1.at).at ≤ ts.length:=Zt (ZG _ _) b1
 have l2:i<(frm P1.err (fun i=>ZW ts i wThen) P1.at).at := Nat.lt_of_lt_of_le l1 (X7 (ZG _ _) b1)
 refine callS.of (w65 ts hl P1.at b1 P1.err wThen rp _ (by rw[ZU hrap];exact h2 _)) ?_
 rintro _ _ rfl _
 rw[ZE hrap,Z0]
 generalize hP2:frm P1.err (fun i=>ZW ts i wThen) P1.at=P2 at *
 ((try refine qI ?_);(repeat ((first|with_reducible refine qU ?_ | simp only[Z9]);try simp (maxSteps:=9^7) only[↓ S2,S2,Z7,↓reduceIte,reduceNe,reduceEqDiff,reduceCtorEq,reduceLeDiff,reduceAdd,reduceLT,hrap]));(try simp +contextual (disch:=omega) only[Z2,hrap]);(with_reducible repeat' (first|intro h|refine And.intro (by omega) ?_ | refine exP (by omega) ?_ | apply And.intro)))
 have b3:(frm P2.err (rE ts) P2.at).at ≤ ts.length:=Zt (Yc _) b2
 have l3:i<(frm P2.err (rE ts) P2.at).at := Nat.lt_of_lt_of_le l2 (X7 (Yc _) b2)
 refine callS.of (hE P2.at P2.err rp _ l2 b2 (by rw[ZU hrap];exact h2 _)) ?_
 rintro _ _ ⟨eb,rb,rfl,rfl,heb⟩ hnb
 rw[ZE hrap,Z0] at hnb ⊢
 have hrba:rb≠ra:=ZH hnb Z4
 have hrbp:rb≠rp:=ZH hnb (by rw[ZU hrap];exact h2 _)
 generalize hP3:frm P2.err (rE ts) P2.at=P3 at *
 ((try refine qI ?_);(repeat ((first|with_reducible refine qU ?_ | simp only[Z9]);try simp (maxSteps:=9^7) only[↓ S2,S2,Z7,↓reduceIte,reduceNe,reduceEqDiff,reduceCtorEq,reduceLeDiff,reduceAdd,reduceLT,hrap,hrbp,hrba]));(try simp +contextual (disch:=omega) only[Z2,hrap,hrbp,hrba]);(with_reducible repeat' (first|intro h|refine And.intro (by omega) ?_ | refine exP (by omega) ?_ | apply And.intro)))
 have b4:(frm P3.err (fun i=>ZW ts i wElse) P3.at).at ≤ ts.length:=Zt (ZG _ _) b3
 have l4:i<(frm P3.err (fun i=>ZW ts i wElse) P3.at).at := Nat.lt_of_lt_of_le l3 (X7 (ZG _ _) b3)
 refine callS.of (w65 ts hl P3.at b3 P3.err wElse rp _ (by rw[ZU hrbp,ZU hrap];exact h2 _)) ?_
 rintro _ _ rfl _
 rw[ZE hrbp,ZE hrap,Z0]
 generalize hP4:frm P3.err (fun i=>ZW ts i wElse) P3.at=P4 at *
 ((try refine qI ?_);(repeat ((first|with_reducible refine qU ?_ | simp only[Z9]);try simp (maxSteps:=9^7) only[↓ S2,S2,Z7,↓reduceIte,reduceNe,reduceEqDiff,reduceCtorEq,reduceLeDiff,reduceAdd,reduceLT,hrap,hrbp,hrba]));(try simp +contextual (disch:=omega) only[Z2,hrap,hrbp,hrba]);(with_reducible repeat' (first|intro h|refine And.intro (by omega) ?_ | refine exP (by omega) ?_ | apply And.intro)))
 refine callS.of (hE P4.at P4.err rp _ l4 b4 (by rw[ZU hrbp,ZU hrap];exact h2 _)) ?_
 rintro _ _ ⟨ec,rc,rfl,rfl,hec⟩ hnc
 rw[ZE hrbp,ZE hrap,Z0] at hnc ⊢
 have hrcb:rc≠rb:=ZH hnc Z4
 have hrca:rc≠ra:=ZH hnc (by rw[ZU hrba];exact Z4)
 have hrcp:rc≠rp:=ZH hnc (by rw[ZU hrbp,ZU hrap];exact h2 _)
 generalize hP5:frm P4.err (rE ts) P4.at=P5 at *
 replace hnc:=neH_of hnc
 (replace hnc:=hnc;simp only[VN] at hnc)
 ((try refine qI ?_);(repeat ((first|with_reducible refine qU ?_ | simp only[Z9]);try simp (maxSteps:=9^7) only[↓ S2,S2,Z7,↓reduceIte,reduceNe,reduceEqDiff,reduceCtorEq,reduceLeDiff,reduceAdd,reduceLT,hrap,hrbp,hrba,hrca,hrcb,hrcp,hnc]));(try simp +contextual (disch:=omega) only[Z2,hrap,hrbp,hrba,hrca,hrcb,hrcp,hnc]);(with_reducible repeat' (first|intro h|refine And.intro (by omega) ?_ | refine exP (by omega) ?_ | apply And.intro)))
 rename_i q
 have q1:q≠ra:=(by intro hh;subst hh;simp[names] at h)
 have q2:q≠rb:=(by intro hh;subst hh;simp[names] at h)
 have q3:q≠rc:=(by intro hh;subst hh;simp[names] at h)
 rw[Zn] at hP1
 rw[YD] at hP2 hP3 hP4 hP5
 have hS:StP P5 R:=by
  subst hR hP5 hP4 hP3 hP2 hP1
  simp only[bind_as]
  exact StP.bind _ fun _ j=>StP.bind _ fun _ j=>StP.bind _ fun _ j=>StP.bind _ fun _ j=>StP.last _ _
 refine .inr (.inr (.inr ⟨ea,eb,ec,ra,rb,rc,q,q1,q2,q3,hrca,hrcb,hrba,rfl,by rw[hS.1,hS.2],?_⟩))
 subst hR
 intro x j hx
 obtain ⟨a,m,g1,hx⟩:=ZZ hx
 obtain ⟨u,k,g2,hx⟩:=ZZ hx
 obtain ⟨b,p,g3,hx⟩:=ZZ hx
 obtain ⟨u2,o,g4,hx⟩:=ZZ hx
 obtain ⟨c,o2,g5,hx⟩:=ZZ hx
 have f1:P1 = .ok a m:=by rw[←hP1];exact g1
 have f2:P2 = .ok u k:=by rw[←hP2,f1];exact g2
 have f3:P3 = .ok b p:=by rw[←hP3,f2];exact g3
 have f4:P4 = .ok u2 o:=by rw[←hP4,f3];exact g4
 have f5:P5 = .ok c o2:=by rw[←hP5,f4];exact g5
 cases hx
 rw[hea _ _ f1,heb _ _ f3,hec _ _ f5]
theorem Tryz.bothS (ts:List Go.Gh.Tok) (hl:ts.length≤80) (ht:okTs ts) (hN:okNs ts):∀(d i:Nat),ts.length-i≤d→i≤ts.length →
 (∀(b:Bool) (rp:Nat) (H:GH),Z3 H rp=some (3,[PaG ts i b])→Gc 34 [.ptr rp 3 0 0] H (EP (PaG ts) (frm b (rE ts) i) rp H)) ∧
 (∀(b:Bool) (rp:Nat) (H:GH),Z3 H rp=some (3,[PaG ts i b])→Gc 102 [.ptr rp 3 0 0] H (EP (PaG ts) (frm b (rA ts) i) rp H)):=by
 have key:∀(i:Nat),i≤ts.length →
  (∀(j:Nat),i<j→j≤ts.length→(∀(b:Bool) (rp:Nat) (H:GH),Z3 H rp=some (3,[PaG ts j b])→Gc 34 [.ptr rp 3 0 0] H (EP (PaG ts) (frm b (rE ts) j) rp H)) ∧
   (∀(b:Bool) (rp:Nat) (H:GH),Z3 H rp=some (3,[PaG ts j b])→Gc 102 [.ptr rp 3 0 0] H (EP (PaG ts) (frm b (rA ts) j) rp H))) →
  (∀(b:Bool) (rp:Nat) (H:GH),Z3 H rp=some (3,[PaG ts i b])→Gc 34 [.ptr rp 3 0 0] H (EP (PaG ts) (frm b (rE ts) i) rp H)) ∧
  (∀(b:Bool) (rp:Nat) (H:GH),Z3 H rp=some (3,[PaG ts i b])→Gc 102 [.ptr rp 3 0 0] H (EP (PaG ts) (frm b (rA ts) i) rp H)):=by
  intro i hi ih
  have hE:∀(j:Nat) (b:Bool) (rp:Nat) (H:GH),i<j→j≤ts.length→Z3 H rp=some (3,[PaG ts j b])→Gc 34 [.ptr rp 3 0 0] H (EP (PaG ts) (frm b (rE ts) j) rp H):=fun j b rp H h1 h2 h3=>(ih j h1 h2).1 b rp H h3
  have hA:∀(j:Nat) (b:Bool) (rp:Nat) (H:GH),i<j→j≤ts.length→Z3 H rp=some (3,[PaG ts j b])→Gc 102 [.ptr rp 3 0 0] H (EP (PaG ts) (frm b (rA ts) j) rp H):=fun j b rp H h1 h2 h3=>(ih j h1 h2).2 b rp H h3
  have hAt:=Tryz.atomS ts hl ht hN i hi hE hA
  refine ⟨?_,hAt⟩
  intro b rp H hr
  by_cases hs:b=true∨sees ts i wIf=false
  ·have hA4:∀(j:Nat) (b:Bool) (rp:Nat) (H:GH),i≤j→j≤ts.length→Z3 H rp=some (3,[PaG ts j b])→Gc 66 [.ptr rp 3 0 0,I 4] H (EP (PaG ts) (frm b (rA ts) j) rp H):=by
    intro j b rp H h1 h2 h3
    refine Tryz.row4 ts _ j b rp H ?_
    rcases nL i j with h|h
    ·exact hA j b rp H h h2 h3
    ·obtain rfl:j=i:=by omega
     exact hAt b rp H h3
   have hA3:∀(j:Nat) (b:Bool) (rp:Nat) (H:GH),i≤j→j≤ts.length→Z3 H rp=some (3,[PaG ts j b])→Gc 66 [.ptr rp 3 0 0,I 3] H (EP (PaG ts) (frm b (lvP ts (rA ts) 3) j) rp H):=by
    intro j b rp H h1 h2 h3
    exact Tryz.rowS 3 (by omega) (by omega) ts hl ht (rA ts) i rA_bd hA4 j b rp H h1 h2 h3
   have hA2:∀(j:Nat) (b:Bool) (rp:Nat) (H:GH),i≤j→j≤ts.length→Z3 H rp=some (3,[PaG ts j b])→Gc 66 [.ptr rp 3 0 0,I 2] H (EP (PaG ts) (frm b (lvP ts (lvP ts (rA ts) 3) 2) j) rp H):=by
    intro j b rp H h1 h2 h3
    exact Tryz.rowS 2 (by omega) (by omega) ts hl ht (lvP ts (rA ts) 3) i (fun i=>ba_lv rA_bd 3 i) hA3 j b rp H h1 h2 h3
   have h:=Tryz.exprR ts hl ht (lvP ts (lvP ts (rA ts) 3) 2) (fun i=>ba_lv (fun i=>ba_lv rA_bd 3 i) 2 i) i hi b hs hA2 rp H hr
   cases b with
   | true=>exact h
   | false=>
    have hs:sees ts i wIf=false:=hs.resolve_left (fun h=>(by cases h))
    rw[Zn,rE_eq hi]
    unfold YH
    rw[if_neg (by rw[hs];decide)]
    exact h
  ·cases b with
   | true=>exact absurd (.inl rfl) hs
   | false=>
    have hs:sees ts i wIf=true:=by
     cases h:sees ts i wIf with
     | true=>rfl
     | false=>exact absurd (.inr h) hs
    exact Tryz.exprI ts hl i hi hs hE rp H hr
 intro d
 induction d with
 | zero=>exact fun i hd hi=>key i hi fun j h1 h2=>(by omega)
 | succ d ih=>exact fun i hd hi=>key i hi fun j h1 h2=>ih j (by omega) h2
theorem o34 (ts:List Go.Gh.Tok) (hl:ts.length≤80) (ht:okTs ts) (hN:okNs ts) (i:Nat) (hi:i≤ts.length) (b:Bool) (rp:Nat) (H:GH) (hr:Z3 H rp=some (3,[PaG ts i b])) :
 Gc 34 [.ptr rp 3 0 0] H (EP (PaG ts) (frm b (rE ts) i) rp H):=(Tryz.bothS ts hl ht hN _ i (Nat.le_refl _) hi).1 b rp H hr
end Go.Proofs.YtkmedfejmndmjaaGreatDoor
