/- The tied card of the law holds. No condition. -/
import Derived.Test.YtcegkonjphbfaaaGreatDoorPpr6
set_option maxHeartbeats 40000000
set_option maxRecDepth 20000
set_option linter.unusedSimpArgs false
set_option linter.unusedVariables false
namespace Go.Proofs.YtcegkonjphbfaaaGreatDoor
open Go.Gh
open Nat (reduceEqDiff reduceLeDiff reduceAdd reduceLT)
open Int (reduceNe)
open Go.Lib
theorem Tryz.atomT (ts:List Go.Gh.Tok) (hl:ts.length≤80) (i:Nat) (rp:Nat) (H:GH) (hr:Z6 H rp=some (3,[PaG ts i true])):Gc 176 [.ptr rp 3 0 0] H (EP (PaG ts) (.bad i) rp H):=by
 refine EP.of ?_
 have h2:∀fs,Z6 (Z1 H rp fs) rp=some (3,fs):=fun fs=>ZK hr
 refine Z8 mxd i176 rfl (by simp) ?_;refine X0 ?_
 (refine R1 (jO hr (jO h2 @Z4)) ?_)
 all_goals exact .inr (.inl ⟨(.mk 0 0 0 0 noS noS []),rfl,rfl,rfl,fun a j h=>(by cases h)⟩)
theorem Tryz.skT (ts:List Go.Gh.Tok) (hl:ts.length≤80) (i:Nat) (hi:i≤ts.length) (w:ByteArray) (rp:Nat) (H:GH) (hr:Z6 H rp=some (3,[PaG ts i false])) (hs:sees ts i w=true) :
 Gc 142 [.ptr rp 3 0 0,T w] H (fun g H'=>g=B true∧H'=Z1 H rp [PaG ts (i+1) false]):=by
 have:=w142 ts hl i hi false w rp H hr
 rw[hs] at this
 exact this
theorem Tryz.skF (ts:List Go.Gh.Tok) (hl:ts.length≤80) (i:Nat) (hi:i≤ts.length) (w:ByteArray) (rp:Nat) (H:GH) (hr:Z6 H rp=some (3,[PaG ts i false])) (hs:sees ts i w=false) :
 Gc 142 [.ptr rp 3 0 0,T w] H (fun g H'=>g=B false∧H'=H):=by
 have:=w142 ts hl i hi false w rp H hr
 rw[hs] at this
 have e:Z1 H rp [PaG ts i false]=H:=YJ hr
 refine this.mono ?_
 rintro g H' ⟨h1,h2⟩
 exact ⟨h1,h2.trans e⟩
theorem Tryz.atomS (ts:List Go.Gh.Tok) (hl:ts.length≤80) (ht:okTs ts) (hN:okNs ts) (i:Nat) (hi:i≤ts.length)
 (hE:∀(j:Nat) (b:Bool) (rp:Nat) (H:GH),i<j→j≤ts.length→Z6 H rp=some (3,[PaG ts j b])→Gc 111 [.ptr rp 3 0 0] H (EP (PaG ts) (frm b (rE ts) j) rp H))
 (hA:∀(j:Nat) (b:Bool) (rp:Nat) (H:GH),i<j→j≤ts.length→Z6 H rp=some (3,[PaG ts j b])→Gc 176 [.ptr rp 3 0 0] H (EP (PaG ts) (frm b (rA ts) j) rp H))
 (b:Bool) (rp:Nat) (H:GH) (hr:Z6 H rp=some (3,[PaG ts i b])):Gc 176 [.ptr rp 3 0 0] H (EP (PaG ts) (frm b (rA ts) i) rp H):=by
 generalize hR:frm b (rA ts) i=R
 have hbad:R = .bad i→EN (PaG ts) R rp H (ExN (.mk 0 0 0 0 noS noS [])) (Z1 H rp [PaG ts i true]):=fun h=>by subst h;exact ⟨_,rfl,rfl,rfl,fun a j h=>by cases h⟩
 refine EP.of ?_
 have h2:∀fs,Z6 (Z1 H rp fs) rp=some (3,fs):=fun fs=>ZK hr
 cases b with
 | true=>
  refine Z8 mxd i176 rfl (by simp) ?_;refine X0 ?_
  (refine R1 (jO hr (jO h2 @Z4)) ?_)
  all_goals exact .inr (.inl (hbad hR.symm))
 | false=>
  rw[Zl,rA_eq hi] at hR
  rcases nL i ts.length with h|hG
  ·have hL:¬ts.length≤i:=by omega
   have hi1:i+1≤ts.length:=h
   have hgd:ts.getD i Y5=ts[i]:=Za h
   unfold Y6 at hR
   dsimp only at hR
   rw[if_neg (not_not_intro h)] at hR
   simp only[sees_isW h] at hR
   rw[hgd] at hR
   by_cases hk:ts[i].kind = 2
   ·have hkk:((ts[i].kind = 2)=True):=eq_true hk
    rw[if_pos hk] at hR
    have hn:=hN _ (gM h) hk
    have e:Zv ts i 0 1000000 = .ok ts[i].num (i+1):=by unfold Zv;rw[Za h,if_pos ⟨h,hk,hn⟩]
    have hc:=w200 ts hl i hi false 0 1000000 rp H hr
    rw[Zl,e] at hc
    simp only[PR.val,PR.at,PR.err] at hc
    refine Z8 mxd i176 rfl (by simp) ?_;refine X0 ?_
    (refine R1 (jO hr (jO h (jO hL (jO hkk (jO @decide_true @decide_false))))) ?_;with_reducible repeat' intro h)
    refine callS.of hc ?_
    rintro _ _ ⟨rfl,rfl⟩ _
    (refine R0 ?_)
    refine callS.eq (w199 _ _) ?_
    (refine R0 ?_)
    all_goals (subst hR;exact .inr (.inl ⟨conE ts[i].num 1,rfl,rfl,rfl,fun a j h=>by cases h;rfl⟩))
   ·have hkk:((ts[i].kind = 2)=False):=eq_false hk
    rw[if_neg hk] at hR
    refine Z8 mxd i176 rfl (by simp) ?_;refine X0 ?_
    (refine R1 (jO hr (jO h (jO hL (jO hkk (jO @decide_true @decide_false))))) ?_;with_reducible repeat' intro h)
    cases hq0:sees ts i wLB with
    | true=>
     rw[if_pos hq0] at hR
     refine callS.of (Tryz.skT ts hl i hi wLB rp H hr hq0) ?_
     rintro _ _ ⟨rfl,rfl⟩ _
     (refine R0 ?_)
     refine callS.of (o201 ts hl (i+1) hi1 rp _ (h2 _)) ?_
     rintro g H' ⟨e,r,rfl,rfl,he⟩ hn
     rw[Z4,hR]
     rw[hR] at he
     (refine R0 ?_)
     all_goals exact .inl ⟨e,r,rfl,rfl,he⟩
    | false=>
     rw[if_neg (by rw[hq0];decide)] at hR
     refine callS.of (Tryz.skF ts hl i hi wLB rp H hr hq0) ?_
     rintro _ H9 ⟨rfl,e9⟩ _
     rw[e9]
     (refine R0 ?_)
     cases hq1:sees ts i wTrue with
     | true=>
      rw[if_pos hq1] at hR
      refine callS.of (Tryz.skT ts hl i hi wTrue rp H hr hq1) ?_
      rintro _ _ ⟨rfl,rfl⟩ _
      (refine R0 ?_)
      refine callS.eq (w199 _ _) ?_
      (refine R0 ?_)
      all_goals (subst hR;exact .inr (.inl ⟨conE 1 3,rfl,rfl,rfl,fun a j h=>by cases h;rfl⟩))
     | false=>
      rw[if_neg (by rw[hq1];decide)] at hR
      refine callS.of (Tryz.skF ts hl i hi wTrue rp H hr hq1) ?_
      rintro _ H9 ⟨rfl,e9⟩ _
      rw[e9]
      (refine R0 ?_)
      cases hq2:sees ts i Yi with
      | true=>
       rw[if_pos hq2] at hR
       refine callS.of (Tryz.skT ts hl i hi Yi rp H hr hq2) ?_
       rintro _ _ ⟨rfl,rfl⟩ _
       (refine R0 ?_)
       refine callS.eq (w199 _ _) ?_
       (refine R0 ?_)
       all_goals (subst hR;exact .inr (.inl ⟨conE 0 3,rfl,rfl,rfl,fun a j h=>by cases h;rfl⟩))
      | false=>
       rw[if_neg (by rw[hq2];decide)] at hR
       refine callS.of (Tryz.skF ts hl i hi Yi rp H hr hq2) ?_
       rintro _ H9 ⟨rfl,e9⟩ _
       rw[e9]
       (refine R0 ?_)
       cases hq3:sees ts i wLit with
       | true=>
        rw[if_pos hq3] at hR
        refine callS.of (Tryz.skT ts hl i hi wLit rp H hr hq3) ?_
        rintro _ _ ⟨rfl,rfl⟩ _
        (refine R0 ?_)
        all_goals (subst hR;exact .inr (.inl ⟨.mk 2 0 0 0 noS noS [],rfl,rfl,rfl,fun a j h=>by cases h;rfl⟩))
       | false=>
        rw[if_neg (by rw[hq3];decide)] at hR
        refine callS.of (Tryz.skF ts hl i hi wLit rp H hr hq3) ?_
        rintro _ H9 ⟨rfl,e9⟩ _
        rw[e9]
        (refine R0 ?_)
        cases hq4:sees ts i wNone with
        | true=>
         rw[if_pos hq4] at hR
         refine callS.of (Tryz.skT ts hl i hi wNone rp H hr hq4) ?_
         rintro _ _ ⟨rfl,rfl⟩ _
         (refine R0 ?_)
         all_goals (subst hR;exact .inr (.inl ⟨.mk 7 0 0 0 noS noS [],rfl,rfl,rfl,fun a j h=>by cases h;rfl⟩))
        | false=>
         rw[if_neg (by rw[hq4];decide)] at hR
         refine callS.of (Tryz.skF ts hl i hi wNone rp H hr hq4) ?_
         rintro _ H9 ⟨rfl,e9⟩ _
         rw[e9]
         (refine R0 ?_)
         cases hq5:sees ts i wDol with
         | true=>
          rw[if_pos hq5] at hR
          refine callS.of (Tryz.skT ts hl i hi wDol rp H hr hq5) ?_
          rintro _ _ ⟨rfl,rfl⟩ _
          (refine R0 ?_)
          have b1:(frm false (fun i=>Zv ts i 0 3) (i+1)).at ≤ ts.length:=Zw (ba_num _ _ _) hi1
          refine callS.of (w200 ts hl (i+1) hi1 false 0 3 rp _ (h2 _)) ?_
          rintro _ _ ⟨rfl,rfl⟩ _
          rw[Z4]
          generalize hP1:frm false (fun i=>Zv ts i 0 3) (i+1)=P1 at *
          (refine R0 ?_)
          have b2:(frm P1.err (fun i=>ZW ts i Zc) P1.at).at ≤ ts.length:=Zw (ZF _ _) b1
          refine callS.of (w143 ts hl P1.at b1 P1.err Zc rp _ (h2 _)) ?_
          rintro _ _ rfl _
          rw[Z4]
          generalize hP2:frm P1.err (fun i=>ZW ts i Zc) P1.at=P2 at *
          (refine R0 ?_)
          refine callS.of (w202 ts hl ht P2.at b2 P2.err rp _ (h2 _)) ?_
          rintro _ _ ⟨rfl,rfl⟩ _
          rw[Z4]
          (refine R0 ?_)
          all_goals (
           refine .inr (.inl ⟨.mk 3 0 (PR.val 0 P1) 0 noS (PR.val noS (frm P2.err (ZO ts) P2.at)) [],rfl,rfl,?_,?_⟩)
           ·subst hR hP2 hP1
            rw[Zl]
            cases Zv ts (i+1) 0 3 with
            | bad k=>rfl
            | ok p k=>
             show Z1 H rp [PaG ts (frm (ZW ts k Zc).err (ZO ts) (ZW ts k Zc).at).at (frm (ZW ts k Zc).err (ZO ts) (ZW ts k Zc).at).err]=Z1 H rp [PaG ts ((ZW ts k Zc).bind _).at ((ZW ts k Zc).bind _).err]
             cases ZW ts k Zc with
             | bad m=>rfl
             | ok u m=>
              show Z1 H rp [PaG ts (ZO ts m).at (ZO ts m).err]=Z1 H rp [PaG ts ((ZO ts m).bind _).at ((ZO ts m).bind _).err]
              cases ZO ts m<;>rfl
           ·subst hR hP2 hP1
            rw[Zl]
            intro a j hx
            obtain ⟨p,k,q1,hx⟩:=ZV hx
            obtain ⟨u,m,q2,hx⟩:=ZV hx
            obtain ⟨n,q,q3,hx⟩:=ZV hx
            rw[q1]
            simp only[PR.at,PR.err,Zl]
            rw[q2]
            simp only[PR.at,PR.err,Zl]
            rw[q3]
            cases hx
            rfl)
         | false=>
          rw[if_neg (by rw[hq5];decide)] at hR
          refine callS.of (Tryz.skF ts hl i hi wDol rp H hr hq5) ?_
          rintro _ H9 ⟨rfl,e9⟩ _
          rw[e9]
          (refine R0 ?_)
          cases hq6:sees ts i wSelf with
          | true=>
           rw[if_pos hq6] at hR
           refine callS.of (Tryz.skT ts hl i hi wSelf rp H hr hq6) ?_
           rintro _ _ ⟨rfl,rfl⟩ _
           (refine R0 ?_)
           have b1:(frm false (fun i=>ZW ts i wLP) (i+1)).at ≤ ts.length:=Zw (ZF _ _) hi1
           refine callS.of (w143 ts hl (i+1) hi1 false wLP rp _ (h2 _)) ?_
           rintro _ _ rfl _
           rw[Z4]
           generalize hP1:frm false (fun i=>ZW ts i wLP) (i+1)=P1 at *
           (refine R0 ?_)
           have b2:(frm P1.err (fun i=>Zv ts i 0 3) P1.at).at ≤ ts.length:=Zw (ba_num _ _ _) b1
           refine callS.of (w200 ts hl P1.at b1 P1.err 0 3 rp _ (h2 _)) ?_
           rintro _ _ ⟨rfl,rfl⟩ _
           rw[Z4]
           generalize hP2:frm P1.err (fun i=>Zv ts i 0 3) P1.at=P2 at *
           (refine R0 ?_)
           refine callS.of (w143 ts hl P2.at b2 P2.err wRP rp _ (h2 _)) ?_
           rintro _ _ rfl _
           rw[Z4]
           generalize hP3:frm P2.err (fun i=>ZW ts i wRP) P2.at=P3 at *
           (refine R0 ?_)
           rw[Zl] at hP1
           rw[Yy] at hP2 hP3
           have hS:StP P3 R:=by
            subst hR hP3 hP2 hP1
            rw[bind_as]
            exact StP.bind _ fun _ j=>StP.bind (Zv ts j 0 3) fun p k=>StP.last (ZW ts k wRP) _
           all_goals (
            refine .inr (.inl ⟨.mk 6 0 (PR.val 0 P2) 0 noS noS [],rfl,rfl,by rw[hS.1,hS.2],?_⟩)
            subst hR
            intro a j hx
            obtain ⟨u,m,q1,hx⟩:=ZV hx
            obtain ⟨n,k,q2,hx⟩:=ZV hx
            obtain ⟨v,q,q3,hx⟩:=ZV hx
            have hv:PR.val 0 P2=n:=by rw[←hP2,←hP1,q1];show PR.val 0 (Zv ts m 0 3)=n;rw[q2];rfl
            rw[hv]
            cases hx
            rfl)
          | false=>
           rw[if_neg (by rw[hq6];decide)] at hR
           refine callS.of (Tryz.skF ts hl i hi wSelf rp H hr hq6) ?_
           rintro _ H9 ⟨rfl,e9⟩ _
           rw[e9]
           (refine R0 ?_)
           cases hq7:sees ts i wLP with
           | true=>
            rw[if_pos hq7] at hR
            refine callS.of (Tryz.skT ts hl i hi wLP rp H hr hq7) ?_
            rintro _ _ ⟨rfl,rfl⟩ _
            (refine R0 ?_)
            have bE:(frm false (rE ts) (i+1)).at ≤ ts.length:=Zw (Yb _) hi1
            refine callS.of (hE (i+1) false rp _ (Nat.lt_succ_self i) hi1 (h2 _)) ?_
            rintro _ _ ⟨e,r,rfl,rfl,he⟩ hn
            rw[Z4] at hn ⊢
            have hrp:r≠rp:=ZN hn (h2 _)
            generalize hP1:frm false (rE ts) (i+1)=P1 at *
            (refine R1 hrp ?_)
            refine callS.of (w143 ts hl P1.at bE P1.err wRP rp _ (by rw[ZX hrp];exact h2 _)) ?_
            rintro _ _ rfl _
            rw[ZJ hrp,Z4]
            generalize hP2:frm P1.err (fun i=>ZW ts i wRP) P1.at=P2 at *
            (refine R1 hrp ?_)
            rw[Zl] at hP1
            rw[Yy] at hP2
            have hS:StP P2 R:=by
             subst hR hP2 hP1
             exact StP.bind _ fun _ j=>StP.last _ _
            all_goals (
             refine .inl ⟨e,r,rfl,by rw[hS.1,hS.2],?_⟩
             subst hR
             intro a j hx
             obtain ⟨u,m,q1,hx⟩:=ZV hx
             obtain ⟨v,q,q3,hx⟩:=ZV hx
             cases hx
             exact he _ _ (hP1▸q1))
           | false=>
            rw[if_neg (by rw[hq7];decide)] at hR
            refine callS.of (Tryz.skF ts hl i hi wLP rp H hr hq7) ?_
            rintro _ H9 ⟨rfl,e9⟩ _
            rw[e9]
            by_cases hf:ts[i].kind = 1∧funO ts[i].text ≠ 0
            ·rw[if_pos hf] at hR
             have hk1:(ts[i].kind = 1)=True:=eq_true hf.1
             have hf2:(funO ts[i].text = 0)=False:=eq_false hf.2
             (refine R1 (jO hk1 (jO @decide_true @decide_false)) ?_)
             refine callS.eq (w203 _) ?_
             (refine R1 (jO hk1 (jO hf2 (jO @decide_true (jO @decide_false hr)))) ?_)
             rw[show Z1 H rp [.agg [TkS ts,I ((i:Int)+1),B false]]=Z1 H rp [PaG ts (i+1) false] from rfl]
             have b1:(frm false (fun i=>ZW ts i wLP) (i+1)).at ≤ ts.length:=Zw (ZF _ _) hi1
             have l1:i<(frm false (fun i=>ZW ts i wLP) (i+1)).at := (ZF (i+1) wLP hi1).1
             refine callS.of (w143 ts hl (i+1) hi1 false wLP rp _ (h2 _)) ?_
             rintro _ _ rfl _
             rw[Z4]
             generalize hP1:frm false (fun i=>ZW ts i wLP) (i+1)=P1 at *
             (refine R0 ?_)
             have b2:(frm P1.err (rE ts) P1.at).at ≤ ts.length:=Zw (Yb _) b1
             have l2:i<(frm P1.err (rE ts) P1.at).at := Nat.lt_of_lt_of_le l1 (X5 (Yb _) b1)
             refine callS.of (hE P1.at P1.err rp _ l1 b1 (h2 _)) ?_
             rintro _ _ ⟨ea,ra,rfl,rfl,hea⟩ hna
             rw[Z4] at hna ⊢
             have hrap:ra≠rp:=ZN hna (h2 _)
             generalize hP2:frm P1.err (rE ts) P1.at=P2 at *
             (refine R1 hrap ?_)
             have b3:(frm P2.err (fun i=>ZW ts i Yv) P2.at).at ≤ ts.length:=Zw (ZF _ _) b2
             have l3:i<(frm P2.err (fun i=>ZW ts i Yv) P2.at).at := Nat.lt_of_lt_of_le l2 (X5 (ZF _ _) b2)
             refine callS.of (w143 ts hl P2.at b2 P2.err Yv rp _ (by rw[ZX hrap];exact h2 _)) ?_
             rintro _ _ rfl _
             rw[ZJ hrap,Z4]
             generalize hP3:frm P2.err (fun i=>ZW ts i Yv) P2.at=P3 at *
             (refine R1 hrap ?_)
             have b4:(frm P3.err (rE ts) P3.at).at ≤ ts.length:=Zw (Yb _) b3
             refine callS.of (hE P3.at P3.err rp _ l3 b3 (by rw[ZX hrap];exact h2 _)) ?_
             rintro _ _ ⟨eb,rb,rfl,rfl,heb⟩ hnb
             rw[ZJ hrap,Z4] at hnb ⊢
             have hrba:rb≠ra:=ZN hnb Z0
             have hrbp:rb≠rp:=ZN hnb (by rw[ZX hrap];exact h2 _)
             generalize hP4:frm P3.err (rE ts) P3.at=P4 at *
             (refine R1 (jO hrap (jO hrbp hrba)) ?_)
             refine callS.of (w143 ts hl P4.at b4 P4.err wRP rp _ (by rw[ZX hrbp,ZX hrap];exact h2 _)) ?_
             rintro _ _ rfl _
             rw[ZJ hrbp,ZJ hrap,Z4]
             generalize hP5:frm P4.err (fun i=>ZW ts i wRP) P4.at=P5 at *
             (refine R1 (jO hrap (jO hrbp hrba)) ?_)
             refine callS.eq (w203 _) ?_
             (refine R1 (jO hrap (jO hrbp hrba)) ?_)
             refine callS.of (o146 (funO ts[i].text) ea eb ra rb _ (Ne.symm hrba) (by rw[ZX hrba];exact Z0) Z0) ?_
             rintro _ _ ⟨r,rfl,rfl⟩ hn
             have hd:ZL (ZL ((rb,7,eb.args.map ExO)::(ra,7,ea.args.map ExO)::Z1 H rp [PaG ts P5.at P5.err]) ra) rb=Z1 H rp [PaG ts P5.at P5.err]:=by simp[ZL,hrba]
             rw[hd] at hn ⊢
             (refine R0 ?_)
             rw[Zl] at hP1
             rw[Yy] at hP2 hP3 hP4 hP5
             have hS:StP P5 R:=by
              subst hR hP5 hP4 hP3 hP2 hP1
              simp only[bind_as]
              exact StP.bind _ fun _ j=>StP.bind _ fun a j=>StP.bind _ fun _ j=>StP.bind (rE ts j) fun b j=>StP.last _ _
             all_goals (
              refine .inl ⟨opE (funO ts[i].text) ea eb,r,rfl,by rw[hS.1,hS.2],?_⟩
              subst hR
              intro a j hx
              obtain ⟨u,m,q1,hx⟩:=ZV hx
              obtain ⟨a1,k,q2,hx⟩:=ZV hx
              obtain ⟨v,q,q3,hx⟩:=ZV hx
              obtain ⟨a2,n,q4,hx⟩:=ZV hx
              obtain ⟨v2,q0,q5,hx⟩:=ZV hx
              have f2:P2 = .ok a1 k:=by rw[←hP2,←hP1,q1];exact q2
              have f4:P4 = .ok a2 n:=by rw[←hP4,←hP3,f2,show (PR.ok a1 k).bind (fun _ i=>ZW ts i Yv)=ZW ts k Yv from rfl,q3];exact q4
              cases hx
              rw[hea _ _ f2,heb _ _ f4])
            ·rw[if_neg hf] at hR
             have hA':∀(j:Nat) (b:Bool) (rp:Nat) (H:GH),(b=false→i<j)→j≤ts.length→Z6 H rp=some (3,[PaG ts j b])→Gc 176 [.ptr rp 3 0 0] H (EP (PaG ts) (frm b (rA ts) j) rp H):=by
              intro j b rp H h1 h2 h3
              cases b with
              | true=>exact Tryz.atomT ts hl j rp H h3
              | false=>exact hA j false rp H (h1 rfl) h2 h3
             have hS0:Z6 H rp=some (3,[PaG ts i false]):=hr
             by_cases hk1:ts[i].kind = 1
             ·have hk1':(ts[i].kind = 1)=True:=eq_true hk1
              have hf2:(funO ts[i].text = 0)=True:=eq_true (Decidable.not_not.mp fun h=>hf ⟨hk1,h⟩)
              (refine R1 (jO hk1' (jO @decide_true @decide_false)) ?_)
              refine callS.eq (w203 _) ?_
              (refine R1 (jO hk1' (jO hf2 (jO @decide_true @decide_false))) ?_)
              refine callS.of (w202 ts hl ht i hi false rp H hr) ?_
              rintro _ _ ⟨rfl,rfl⟩ _
              have b1:(frm false (ZO ts) i).at ≤ ts.length:=Zw (X8 _) hi
              generalize hP1:frm false (ZO ts) i=P1 at *
              (refine R0 ?_)
              have b2:(frm P1.err (fun i=>ZW ts i Zc) P1.at).at ≤ ts.length:=Zw (ZF _ _) b1
              refine callS.of (w143 ts hl P1.at b1 P1.err Zc rp _ (h2 _)) ?_
              rintro _ _ rfl _
              rw[Z4]
              generalize hP2:frm P1.err (fun i=>ZW ts i Zc) P1.at=P2 at *
              (refine R0 ?_)
              have b3:(frm P2.err (ZO ts) P2.at).at ≤ ts.length:=Zw (X8 _) b2
              refine callS.of (w202 ts hl ht P2.at b2 P2.err rp _ (h2 _)) ?_
              rintro _ _ ⟨rfl,rfl⟩ _
              rw[Z4]
              generalize hP3:frm P2.err (ZO ts) P2.at=P3 at *
              (refine R0 ?_)
              have b4:(frm P3.err (fun i=>ZW ts i wOf) P3.at).at ≤ ts.length:=Zw (ZF _ _) b3
              refine callS.of (w143 ts hl P3.at b3 P3.err wOf rp _ (h2 _)) ?_
              rintro _ _ rfl _
              rw[Z4]
              generalize hP4:frm P3.err (fun i=>ZW ts i wOf) P3.at=P4 at *
              (refine R0 ?_)
              rw[Zl] at hP1
              rw[Yy] at hP2 hP3 hP4
              have hlt:P4.err=false→i<P4.at:=by
               subst hP4 hP3 hP2
               cases hq:ZO ts i with
               | bad k=>rw[←hP1,hq];intro h;cases h
               | ok s k=>
                rw[←hP1,hq]
                intro _
                obtain rfl:=name_nx hq
                exact ((((ZF (i+1) Zc).bind fun _ _ => X8 _).bind fun _ _ => ZF _ _) hi1).1
              refine callS.of (hA' P4.at P4.err rp _ hlt b4 (h2 _)) ?_
              rintro _ _ ⟨e,r,rfl,rfl,he⟩ hn
              rw[Z4] at hn ⊢
              have hrp:r≠rp:=ZN hn (h2 _)
              generalize hP5:frm P4.err (rA ts) P4.at=P5 at *
              replace hn:=Y3 hn
              (replace hn:=hn;simp only[VN] at hn)
              (refine R1 (jO hn hrp) ?_;with_reducible repeat' intro h)
              rename_i q
              have hqr:q≠r:=(by intro hh;subst hh;simp[names] at h)
              rw[Yy] at hP5
              have hS:StP P5 R:=by
               subst hR hP5 hP4 hP3 hP2 hP1
               simp only[bind_as]
               exact StP.bind _ fun _ j=>StP.bind _ fun _ j=>StP.bind _ fun _ j=>StP.bind _ fun _ j=>StP.last _ _
              refine .inr (.inr (.inl ⟨PR.val noS P1,PR.val noS P3,e,r,q,hqr,rfl,by rw[hS.1,hS.2],?_⟩))
              subst hR
              intro x j hx
              obtain ⟨s,m,q1,hx⟩:=ZV hx
              obtain ⟨u,k,q2,hx⟩:=ZV hx
              obtain ⟨n,p,q3,hx⟩:=ZV hx
              obtain ⟨u2,o,q4,hx⟩:=ZV hx
              obtain ⟨e2,o2,q5,hx⟩:=ZV hx
              have f1:P1 = .ok s m:=by rw[←hP1];exact q1
              have f2:P2 = .ok u k:=by rw[←hP2,f1];exact q2
              have f3:P3 = .ok n p:=by rw[←hP3,f2];exact q3
              have f4:P4 = .ok u2 o:=by rw[←hP4,f3];exact q4
              have f5:P5 = .ok e2 o2:=by rw[←hP5,f4];exact q5
              cases hx
              rw[he _ _ f5,f1,f3]
              rfl
             ·have hk1':(ts[i].kind = 1)=False:=eq_false hk1
              (refine R1 (jO hk1' (jO @decide_true @decide_false)) ?_)
              refine callS.of (w202 ts hl ht i hi false rp H hr) ?_
              rintro _ _ ⟨rfl,rfl⟩ _
              have b1:(frm false (ZO ts) i).at ≤ ts.length:=Zw (X8 _) hi
              generalize hP1:frm false (ZO ts) i=P1 at *
              (refine R0 ?_)
              have b2:(frm P1.err (fun i=>ZW ts i Zc) P1.at).at ≤ ts.length:=Zw (ZF _ _) b1
              refine callS.of (w143 ts hl P1.at b1 P1.err Zc rp _ (h2 _)) ?_
              rintro _ _ rfl _
              rw[Z4]
              generalize hP2:frm P1.err (fun i=>ZW ts i Zc) P1.at=P2 at *
              (refine R0 ?_)
              have b3:(frm P2.err (ZO ts) P2.at).at ≤ ts.length:=Zw (X8 _) b2
              refine callS.of (w202 ts hl ht P2.at b2 P2.err rp _ (h2 _)) ?_
              rintro _ _ ⟨rfl,rfl⟩ _
              rw[Z4]
              generalize hP3:frm P2.err (ZO ts) P2.at=P3 at *
              (refine R0 ?_)
              have b4:(frm P3.err (fun i=>ZW ts i wOf) P3.at).at ≤ ts.length:=Zw (ZF _ _) b3
              refine callS.of (w143 ts hl P3.at b3 P3.err wOf rp _ (h2 _)) ?_
              rintro _ _ rfl _
              rw[Z4]
              generalize hP4:frm P3.err (fun i=>ZW ts i wOf) P3.at=P4 at *
              (refine R0 ?_)
              rw[Zl] at hP1
              rw[Yy] at hP2 hP3 hP4
              have hlt:P4.err=false→i<P4.at:=by
               subst hP4 hP3 hP2
               cases hq:ZO ts i with
               | bad k=>rw[←hP1,hq];intro h;cases h
               | ok s k=>
                rw[←hP1,hq]
                intro _
                obtain rfl:=name_nx hq
                exact ((((ZF (i+1) Zc).bind fun _ _ => X8 _).bind fun _ _ => ZF _ _) hi1).1
              refine callS.of (hA' P4.at P4.err rp _ hlt b4 (h2 _)) ?_
              rintro _ _ ⟨e,r,rfl,rfl,he⟩ hn
              rw[Z4] at hn ⊢
              have hrp:r≠rp:=ZN hn (h2 _)
              generalize hP5:frm P4.err (rA ts) P4.at=P5 at *
              replace hn:=Y3 hn
              (replace hn:=hn;simp only[VN] at hn)
              (refine R1 (jO hn hrp) ?_;with_reducible repeat' intro h)
              rename_i q
              have hqr:q≠r:=(by intro hh;subst hh;simp[names] at h)
              rw[Yy] at hP5
              have hS:StP P5 R:=by
               subst hR hP5 hP4 hP3 hP2 hP1
               simp only[bind_as]
               exact StP.bind _ fun _ j=>StP.bind _ fun _ j=>StP.bind _ fun _ j=>StP.bind _ fun _ j=>StP.last _ _
              refine .inr (.inr (.inl ⟨PR.val noS P1,PR.val noS P3,e,r,q,hqr,rfl,by rw[hS.1,hS.2],?_⟩))
              subst hR
              intro x j hx
              obtain ⟨s,m,q1,hx⟩:=ZV hx
              obtain ⟨u,k,q2,hx⟩:=ZV hx
              obtain ⟨n,p,q3,hx⟩:=ZV hx
              obtain ⟨u2,o,q4,hx⟩:=ZV hx
              obtain ⟨e2,o2,q5,hx⟩:=ZV hx
              have f1:P1 = .ok s m:=by rw[←hP1];exact q1
              have f2:P2 = .ok u k:=by rw[←hP2,f1];exact q2
              have f3:P3 = .ok n p:=by rw[←hP3,f2];exact q3
              have f4:P4 = .ok u2 o:=by rw[←hP4,f3];exact q4
              have f5:P5 = .ok e2 o2:=by rw[←hP5,f4];exact q5
              cases hx
              rw[he _ _ f5,f1,f3]
              rfl
  ·have hx:R = .bad i:=by
    unfold Y6 at hR
    dsimp only at hR
    rw[if_pos (by omega)] at hR
    exact hR.symm
   have hG':ts.length≤i:=hG
   refine Z8 mxd i176 rfl (by simp) ?_;refine X0 ?_
   (refine R1 (jO hr (jO hG' (jO h2 (jO @Z4 (jO @decide_true @decide_false))))) ?_;with_reducible repeat' first|intro h|refine aO ?_|apply jO)
   all_goals first|(exfalso;omega)|exact .inr (.inl (hbad hx))
theorem Tryz.row4 (ts:List Go.Gh.Tok) (X:Nat→PR Exp) (i:Nat) (b:Bool) (rp:Nat) (H:GH)
 (hA:Gc 176 [.ptr rp 3 0 0] H (EP (PaG ts) (frm b X i) rp H)):Gc 144 [.ptr rp 3 0 0,I 4] H (EP (PaG ts) (frm b X i) rp H):=by
 refine Z8 mxd i144 rfl (by simp) ?_;refine X0 ?_
 (refine R0 ?_)
 refine callS.of hA ?_
 rintro _ _ ⟨e,r,rfl,rfl,he⟩ hn
 (refine R0 ?_)
 exact ⟨e,r,rfl,rfl,he⟩
theorem Tryz.skE (ts:List Go.Gh.Tok) (hl:ts.length≤80) (i:Nat) (hi:i≤ts.length) (b:Bool) (w:ByteArray) (rp:Nat) (H:GH) (hr:Z6 H rp=some (3,[PaG ts i b])) (hs:(b=true)∨sees ts i w=false) :
 Gc 142 [.ptr rp 3 0 0,T w] H (fun g H'=>g=B false∧H'=H):=by
 have:=w142 ts hl i hi b w rp H hr
 have e:Z1 H rp [PaG ts i b]=H:=YJ hr
 cases b with
 | true=>
  refine this.mono ?_
  rintro g H' ⟨h1,h2⟩
  exact ⟨h1,h2.trans e⟩
 | false=>
  have hs:sees ts i w=false:=hs.resolve_left (fun h=>(by cases h))
  rw[hs] at this
  refine this.mono ?_
  rintro g H' ⟨h1,h2⟩
  exact ⟨h1,h2.trans e⟩
theorem Tryz.exprR (ts:List Go.Gh.Tok) (hl:ts.length≤80) (ht:okTs ts) (X:Nat→PR Exp) (hXb:∀i,BdA ts i (X i)) (i:Nat) (hi:i≤ts.length) (b:Bool) (hs:(b=true)∨sees ts i wIf=false)
 (hX:∀(j:Nat) (b:Bool) (rp:Nat) (H:GH),i≤j→j≤ts.length→Z6 H rp=some (3,[PaG ts j b])→Gc 144 [.ptr rp 3 0 0,I 2] H (EP (PaG ts) (frm b X j) rp H))
 (rp:Nat) (H:GH) (hr:Z6 H rp=some (3,[PaG ts i b])):Gc 111 [.ptr rp 3 0 0] H (EP (PaG ts) (frm b (lvP ts X 1) i) rp H):=by
 have h2:∀fs,Z6 (Z1 H rp fs) rp=some (3,fs):=fun fs=>ZK hr
 generalize hR:frm b (lvP ts X 1) i=R
 refine Z8 mxd i111 rfl (by simp) ?_;refine X0 ?_
 (refine R0 ?_)
 refine callS.of (Tryz.skE ts hl i hi b wIf rp H hr hs) ?_
 rintro _ H9 ⟨rfl,e9⟩ _
 rw[e9]
 (refine R0 ?_)
 have b1:(frm b X i).at ≤ ts.length:=Zw (hXb _) hi
 have l1:i≤(frm b X i).at := X5 (hXb _) hi
 refine callS.of (hX i b rp _ (Nat.le_refl _) hi hr) ?_
 rintro _ _ ⟨ea,ra,rfl,rfl,hea⟩ hna
 have hrap:ra≠rp:=ZN hna (h2 _)
 generalize hP1:frm b X i=P1 at *
 (refine R1 hrap ?_)
 refine callS.of (w145 ts hl ht P1.at b1 P1.err 1 (by omega) (by omega) rp _ (by rw[ZX hrap];exact h2 _)) ?_
 rintro _ _ ⟨rfl,rfl⟩ _
 rw[ZJ hrap,Z4]
 have hRP:P1.bind (fun e j=>YO ts X 1 (ts.length+1) e j)=R:=by subst hP1 hR;cases b<;>rfl
 by_cases ho:opB ts P1.err P1.at 1=0
 ·have ho':(opB ts P1.err P1.at 1=0)=True:=eq_true ho
  (refine R1 (jO hrap ho') ?_)
  rw[if_neg (fun h=>h ho)]
  cases P1 with
  | bad k=>
   obtain rfl:PR.bad k=R:=hRP
   exact ⟨ea,ra,rfl,rfl,fun a j h=>(by cases h)⟩
  | ok a k=>
   obtain rfl:=hea a k rfl
   simp only[PR.bind,YO] at hRP
   rw[if_pos (show Go.Gh.opAt ts k 1=0 from ho)] at hRP
   subst hRP
   exact ⟨ea,ra,rfl,rfl,fun a j h=>(by cases h;rfl)⟩
 ·have ho':(opB ts P1.err P1.at 1=0)=False:=eq_false ho
  (refine R1 (jO hrap ho') ?_)
  rw[if_pos ho]
  cases P1 with
  | bad k=>exact absurd rfl ho
  | ok a k=>
   obtain rfl:=hea a k rfl
   have hlt:k<ts.length:=by
    rcases nL k ts.length with h|h
    ·exact h
    ·exact absurd (opB_ge h 1) ho
   simp only[PR.bind,YO] at hRP
   rw[if_neg (show ¬Go.Gh.opAt ts k 1=0 from ho)] at hRP
   simp only[if_pos] at hRP
   have hop:Go.Gh.opAt ts k 1=opB ts false k 1:=rfl
   rw[hop] at hRP
   have l1:i≤k:=l1
   rw[show Z1 H rp [PaG ts ((PR.ok ea k).at + 1) (PR.ok ea k).err]=Z1 H rp [PaG ts (k+1) false] from rfl]
   refine callS.of (hX (k+1) false rp _ (by omega) hlt (by rw[ZX hrap];exact h2 _)) ?_
   rintro _ _ ⟨eb,rb,rfl,rfl,heb⟩ hnb
   rw[ZJ hrap,Z4] at hnb ⊢
   rw[Zl] at heb hnb ⊢
   have hrba:rb≠ra:=ZN hnb Z0
   have hrbp:rb≠rp:=ZN hnb (by rw[ZX hrap];exact h2 _)
   generalize hP2:X (k+1)=P2 at *
   (refine R1 (jO hrap (jO hrbp hrba)) ?_)
   refine callS.of (o146 (opB ts false k 1) ea eb ra rb _ (Ne.symm hrba) (by rw[ZX hrba];exact Z0) Z0) ?_
   rintro _ _ ⟨r,rfl,rfl⟩ hn
   have hd:ZL (ZL ((rb,7,eb.args.map ExO)::(ra,7,ea.args.map ExO)::Z1 H rp [PaG ts P2.at P2.err]) ra) rb=Z1 H rp [PaG ts P2.at P2.err]:=by simp[ZL,hrba]
   rw[hd] at hn ⊢
   (refine R0 ?_)
   subst hRP
   refine ⟨opE (opB ts false k 1) ea eb,r,rfl,?_,?_⟩
   ·cases P2<;>rfl
   ·intro x j hx
    obtain ⟨y,m,q1,hx⟩:=ZV hx
    cases hx
    rw[heb _ _ q1]
theorem Tryz.exprI (ts:List Go.Gh.Tok) (hl:ts.length≤80) (i:Nat) (hi:i≤ts.length) (hs:sees ts i wIf=true)
 (hE:∀(j:Nat) (b:Bool) (rp:Nat) (H:GH),i<j→j≤ts.length→Z6 H rp=some (3,[PaG ts j b])→Gc 111 [.ptr rp 3 0 0] H (EP (PaG ts) (frm b (rE ts) j) rp H))
 (rp:Nat) (H:GH) (hr:Z6 H rp=some (3,[PaG ts i false])):Gc 111 [.ptr rp 3 0 0] H (EP (PaG ts) (rE ts i) rp H):=by
 have h2:∀fs,Z6 (Z1 H rp fs) rp=some (3,fs):=fun fs=>ZK hr
 have hi1:i+1≤ts.length:=sees_lt hs
 generalize hR:rE ts i=R
 rw[rE_eq hi] at hR
 unfold Yg at hR
 rw[if_pos hs] at hR
 refine EP.of ?_
 refine Z8 mxd i111 rfl (by simp) ?_;refine X0 ?_
 (refine R0 ?_)
 refine callS.of (Tryz.skT ts hl i hi wIf rp H hr hs) ?_
 rintro _ _ ⟨rfl,rfl⟩ _
 (refine R0 ?_)
 have b1:(frm false (rE ts) (i+1)).at ≤ ts.length:=Zw (Yb _) hi1
 have l1:i<(frm false (rE ts) (i+1)).at := X5 (Yb _) hi1
 refine callS.of (hE (i+1) false rp _ (Nat.lt_succ_self i) hi1 (h2 _)) ?_
 rintro _ _ ⟨ea,ra,rfl,rfl,hea⟩ hna
 rw[Z4] at hna ⊢
 have hrap:ra≠rp:=ZN hna (h2 _)
 generalize hP1:frm false (rE ts) (i+1)=P1 at *
 (refine R1 hrap ?_)
 have b2:(frm P1.err (fun i=>ZW ts i wThen) P1.at).at ≤ ts.length:=Zw (ZF _ _) b1
 have l2:i<(frm P1.err (fun i=>ZW ts i wThen) P1.at).at := Nat.lt_of_lt_of_le l1 (X5 (ZF _ _) b1)
 refine callS.of (w143 ts hl P1.at b1 P1.err wThen rp _ (by rw[ZX hrap];exact h2 _)) ?_
 rintro _ _ rfl _
 rw[ZJ hrap,Z4]
 generalize hP2:frm P1.err (fun i=>ZW ts i wThen) P1.at=P2 at *
 (refine R1 hrap ?_)
 have b3:(frm P2.err (rE ts) P2.at).at ≤ ts.length:=Zw (Yb _) b2
 have l3:i<(frm P2.err (rE ts) P2.at).at := Nat.lt_of_lt_of_le l2 (X5 (Yb _) b2)
 refine callS.of (hE P2.at P2.err rp _ l2 b2 (by rw[ZX hrap];exact h2 _)) ?_
 rintro _ _ ⟨eb,rb,rfl,rfl,heb⟩ hnb
 rw[ZJ hrap,Z4] at hnb ⊢
 have hrba:rb≠ra:=ZN hnb Z0
 have hrbp:rb≠rp:=ZN hnb (by rw[ZX hrap];exact h2 _)
 generalize hP3:frm P2.err (rE ts) P2.at=P3 at *
 (refine R1 (jO hrap (jO hrbp hrba)) ?_)
 have b4:(frm P3.err (fun i=>ZW ts i wElse) P3.at).at ≤ ts.length:=Zw (ZF _ _) b3
 have l4:i<(frm P3.err (fun i=>ZW ts i wElse) P3.at).at := Nat.lt_of_lt_of_le l3 (X5 (ZF _ _) b3)
 refine callS.of (w143 ts hl P3.at b3 P3.err wElse rp _ (by rw[ZX hrbp,ZX hrap];exact h2 _)) ?_
 rintro _ _ rfl _
 rw[ZJ hrbp,ZJ hrap,Z4]
 generalize hP4:frm P3.err (fun i=>ZW ts i wElse) P3.at=P4 at *
 (refine R1 (jO hrap (jO hrbp hrba)) ?_)
 refine callS.of (hE P4.at P4.err rp _ l4 b4 (by rw[ZX hrbp,ZX hrap];exact h2 _)) ?_
 rintro _ _ ⟨ec,rc,rfl,rfl,hec⟩ hnc
 rw[ZJ hrbp,ZJ hrap,Z4] at hnc ⊢
 have hrcb:rc≠rb:=ZN hnc Z0
 have hrca:rc≠ra:=ZN hnc (by rw[ZX hrba];exact Z0)
 have hrcp:rc≠rp:=ZN hnc (by rw[ZX hrbp,ZX hrap];exact h2 _)
 generalize hP5:frm P4.err (rE ts) P4.at=P5 at *
 replace hnc:=Y3 hnc
 (replace hnc:=hnc;simp only[VN] at hnc)
 (refine R1 (jO hrap (jO hrbp (jO hrba (jO hrca (jO hrcb (jO hrcp hnc)))))) ?_;with_reducible repeat' intro h)
 rename_i q
 have q1:q≠ra:=(by intro hh;subst hh;simp[names] at h)
 have q2:q≠rb:=(by intro hh;subst hh;simp[names] at h)
 have q3:q≠rc:=(by intro hh;subst hh;simp[names] at h)
 rw[Zl] at hP1
 rw[Yy] at hP2 hP3 hP4 hP5
 have hS:StP P5 R:=by
  subst hR hP5 hP4 hP3 hP2 hP1
  simp only[bind_as]
  exact StP.bind _ fun _ j=>StP.bind _ fun _ j=>StP.bind _ fun _ j=>StP.bind _ fun _ j=>StP.last _ _
 refine .inr (.inr (.inr ⟨ea,eb,ec,ra,rb,rc,q,q1,q2,q3,hrca,hrcb,hrba,rfl,by rw[hS.1,hS.2],?_⟩))
 subst hR
 intro x j hx
 obtain ⟨a,m,g1,hx⟩:=ZV hx
 obtain ⟨u,k,g2,hx⟩:=ZV hx
 obtain ⟨b,p,g3,hx⟩:=ZV hx
 obtain ⟨u2,o,g4,hx⟩:=ZV hx
 obtain ⟨c,o2,g5,hx⟩:=ZV hx
 have f1:P1 = .ok a m:=by rw[←hP1];exact g1
 have f2:P2 = .ok u k:=by rw[←hP2,f1];exact g2
 have f3:P3 = .ok b p:=by rw[←hP3,f2];exact g3
 have f4:P4 = .ok u2 o:=by rw[←hP4,f3];exact g4
 have f5:P5 = .ok c o2:=by rw[←hP5,f4];exact g5
 cases hx
 rw[hea _ _ f1,heb _ _ f3,hec _ _ f5]
theorem Tryz.bothS (ts:List Go.Gh.Tok) (hl:ts.length≤80) (ht:okTs ts) (hN:okNs ts):∀(d i:Nat),ts.length-i≤d→i≤ts.length →
 (∀(b:Bool) (rp:Nat) (H:GH),Z6 H rp=some (3,[PaG ts i b])→Gc 111 [.ptr rp 3 0 0] H (EP (PaG ts) (frm b (rE ts) i) rp H)) ∧
 (∀(b:Bool) (rp:Nat) (H:GH),Z6 H rp=some (3,[PaG ts i b])→Gc 176 [.ptr rp 3 0 0] H (EP (PaG ts) (frm b (rA ts) i) rp H)):=by
 have key:∀(i:Nat),i≤ts.length →
  (∀(j:Nat),i<j→j≤ts.length→(∀(b:Bool) (rp:Nat) (H:GH),Z6 H rp=some (3,[PaG ts j b])→Gc 111 [.ptr rp 3 0 0] H (EP (PaG ts) (frm b (rE ts) j) rp H)) ∧
   (∀(b:Bool) (rp:Nat) (H:GH),Z6 H rp=some (3,[PaG ts j b])→Gc 176 [.ptr rp 3 0 0] H (EP (PaG ts) (frm b (rA ts) j) rp H))) →
  (∀(b:Bool) (rp:Nat) (H:GH),Z6 H rp=some (3,[PaG ts i b])→Gc 111 [.ptr rp 3 0 0] H (EP (PaG ts) (frm b (rE ts) i) rp H)) ∧
  (∀(b:Bool) (rp:Nat) (H:GH),Z6 H rp=some (3,[PaG ts i b])→Gc 176 [.ptr rp 3 0 0] H (EP (PaG ts) (frm b (rA ts) i) rp H)):=by
  intro i hi ih
  have hE:∀(j:Nat) (b:Bool) (rp:Nat) (H:GH),i<j→j≤ts.length→Z6 H rp=some (3,[PaG ts j b])→Gc 111 [.ptr rp 3 0 0] H (EP (PaG ts) (frm b (rE ts) j) rp H):=fun j b rp H h1 h2 h3=>(ih j h1 h2).1 b rp H h3
  have hA:∀(j:Nat) (b:Bool) (rp:Nat) (H:GH),i<j→j≤ts.length→Z6 H rp=some (3,[PaG ts j b])→Gc 176 [.ptr rp 3 0 0] H (EP (PaG ts) (frm b (rA ts) j) rp H):=fun j b rp H h1 h2 h3=>(ih j h1 h2).2 b rp H h3
  have hAt:=Tryz.atomS ts hl ht hN i hi hE hA
  refine ⟨?_,hAt⟩
  intro b rp H hr
  by_cases hs:b=true∨sees ts i wIf=false
  ·have hA4:∀(j:Nat) (b:Bool) (rp:Nat) (H:GH),i≤j→j≤ts.length→Z6 H rp=some (3,[PaG ts j b])→Gc 144 [.ptr rp 3 0 0,I 4] H (EP (PaG ts) (frm b (rA ts) j) rp H):=by
    intro j b rp H h1 h2 h3
    refine Tryz.row4 ts _ j b rp H ?_
    rcases nL i j with h|h
    ·exact hA j b rp H h h2 h3
    ·obtain rfl:j=i:=by omega
     exact hAt b rp H h3
   have hA3:∀(j:Nat) (b:Bool) (rp:Nat) (H:GH),i≤j→j≤ts.length→Z6 H rp=some (3,[PaG ts j b])→Gc 144 [.ptr rp 3 0 0,I 3] H (EP (PaG ts) (frm b (lvP ts (rA ts) 3) j) rp H):=by
    intro j b rp H h1 h2 h3
    exact Tryz.rowS 3 (by omega) (by omega) ts hl ht (rA ts) i rA_bd hA4 j b rp H h1 h2 h3
   have hA2:∀(j:Nat) (b:Bool) (rp:Nat) (H:GH),i≤j→j≤ts.length→Z6 H rp=some (3,[PaG ts j b])→Gc 144 [.ptr rp 3 0 0,I 2] H (EP (PaG ts) (frm b (lvP ts (lvP ts (rA ts) 3) 2) j) rp H):=by
    intro j b rp H h1 h2 h3
    exact Tryz.rowS 2 (by omega) (by omega) ts hl ht (lvP ts (rA ts) 3) i (fun i=>ba_lv rA_bd 3 i) hA3 j b rp H h1 h2 h3
   have h:=Tryz.exprR ts hl ht (lvP ts (lvP ts (rA ts) 3) 2) (fun i=>ba_lv (fun i=>ba_lv rA_bd 3 i) 2 i) i hi b hs hA2 rp H hr
   cases b with
   | true=>exact h
   | false=>
    have hs:sees ts i wIf=false:=hs.resolve_left (fun h=>(by cases h))
    rw[Zl,rE_eq hi]
    unfold Yg
    rw[if_neg (by rw[hs];decide)]
    exact h
  ·cases b with
   | true=>exact absurd (.inl rfl) hs
   | false=>
    have hs:sees ts i wIf=true:=by
     cases h:sees ts i wIf with
     | true=>rfl
     | false=>exact absurd (.inr h) hs
    exact Tryz.exprI ts hl i hi hs hE rp H hr
 intro d
 induction d with
 | zero=>exact fun i hd hi=>key i hi fun j h1 h2=>(by omega)
 | succ d ih=>exact fun i hd hi=>key i hi fun j h1 h2=>ih j (by omega) h2
theorem o111 (ts:List Go.Gh.Tok) (hl:ts.length≤80) (ht:okTs ts) (hN:okNs ts) (i:Nat) (hi:i≤ts.length) (b:Bool) (rp:Nat) (H:GH) (hr:Z6 H rp=some (3,[PaG ts i b])) :
 Gc 111 [.ptr rp 3 0 0] H (EP (PaG ts) (frm b (rE ts) i) rp H):=(Tryz.bothS ts hl ht hN _ i (Nat.le_refl _) hi).1 b rp H hr
end Go.Proofs.YtcegkonjphbfaaaGreatDoor
