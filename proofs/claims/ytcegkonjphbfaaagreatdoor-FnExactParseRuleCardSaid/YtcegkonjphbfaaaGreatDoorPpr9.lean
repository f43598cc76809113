/- The tied card of the law holds. No condition. -/
import Derived.Test.YtcegkonjphbfaaaGreatDoorPpr8
set_option maxHeartbeats 40000000
set_option maxRecDepth 20000
set_option linter.unusedSimpArgs false
set_option linter.unusedVariables false
namespace Go.Proofs.YtcegkonjphbfaaaGreatDoor
open Go.Gh
open Nat (reduceEqDiff reduceLeDiff reduceAdd reduceLT)
open Int (reduceNe)
open Go.Lib
theorem e214 {ts:List Go.Gh.Tok} {nE:Int} (hK:OkR ts nE) (i:Nat) (hi:i<ts.length) (rp:Nat) (H:GH) (hr:Z6 H rp=some (4,[SpG ts nE i false])) :
 Gc 214 [.ptr rp 4 0 0] H (EP (SpG ts nE) ((Zv ts (i+1) 0 3).bind fun p j=>(ZW ts j Zc).bind fun _ j=>(ZO ts j).bind fun n j=> .ok (.mk 3 0 p 0 noS n []) j) rp H):=by
 have hl:=hK.len
 have h2:∀fs,Z6 (Z1 H rp fs) rp=some (4,fs):=fun fs=>ZK hr
 have hi1:i+1≤ts.length:=hi
 generalize hR:(((Zv ts (i+1) 0 3).bind fun p j=>(ZW ts j Zc).bind fun _ j=>(ZO ts j).bind fun n j=> .ok (.mk 3 0 p 0 noS n []) j:PR Exp))=R
 refine EP.of ?_
 refine Z8 mxd i214 rfl (by simp) ?_;refine X0 ?_
 (refine R1 (jO hr (jO @YZ (jO @YA @YB))) ?_)
 rw[show Z1 H rp [.agg [TkS ts,I ((i:Int)+1),I nE,I (-1)]]=Z1 H rp [SpG ts nE (i+1) false] from rfl]
 have b1:(frm false (fun i=>Zv ts i 0 3) (i+1)).at ≤ ts.length:=Zw (ba_num _ _ _) hi1
 refine callS.of (w227 hK (i+1) hi1 false 0 3 rp _ (h2 _)) ?_
 rintro _ _ ⟨rfl,rfl⟩ _
 rw[Z4]
 generalize hP1:frm false (fun i=>Zv ts i 0 3) (i+1)=P1 at *
 (refine R0 ?_)
 have b2:(frm P1.err (fun i=>ZW ts i Zc) P1.at).at ≤ ts.length:=Zw (ZF _ _) b1
 refine callS.of (w157 hK P1.at b1 P1.err Zc rp _ (h2 _)) ?_
 rintro _ _ rfl _
 rw[Z4]
 generalize hP2:frm P1.err (fun i=>ZW ts i Zc) P1.at=P2 at *
 (refine R0 ?_)
 refine callS.of (w228 hK P2.at b2 P2.err rp _ (h2 _)) ?_
 rintro _ _ ⟨rfl,rfl⟩ _
 rw[Z4]
 (refine R0 ?_)
 all_goals (
  refine .inr (.inl ⟨.mk 3 0 (PR.val 0 P1) 0 noS (PR.val noS (frm P2.err (ZO ts) P2.at)) [],rfl,rfl,?_,?_⟩)
  ·subst hR hP2 hP1
   rw[Zl]
   cases Zv ts (i+1) 0 3 with
   | bad k=>rfl
   | ok p k=>
    show Z1 H rp [SpG ts nE (frm (ZW ts k Zc).err (ZO ts) (ZW ts k Zc).at).at (frm (ZW ts k Zc).err (ZO ts) (ZW ts k Zc).at).err]=Z1 H rp [SpG ts nE ((ZW ts k Zc).bind _).at ((ZW ts k Zc).bind _).err]
    cases ZW ts k Zc with
    | bad m=>rfl
    | ok u m=>
     show Z1 H rp [SpG ts nE (ZO ts m).at (ZO ts m).err]=Z1 H rp [SpG ts nE ((ZO ts m).bind _).at ((ZO ts m).bind _).err]
     cases ZO ts m<;>rfl
  ·subst hR hP2 hP1
   rw[Zl]
   intro a j hx
   obtain ⟨p,k,q1,hx⟩:=ZV hx
   obtain ⟨u,m,q2,hx⟩:=ZV hx
   obtain ⟨n,q,q3,hx⟩:=ZV hx
   rw[q1]
   simp only[PR.at,PR.err,Zl]
   rw[q2]
   simp only[PR.at,PR.err,Zl]
   rw[q3]
   cases hx
   rfl)
theorem e215 {ts:List Go.Gh.Tok} {nE:Int} (hK:OkR ts nE) (i:Nat) (hi:i<ts.length) (rp:Nat) (H:GH) (hr:Z6 H rp=some (4,[SpG ts nE i false])) :
 Gc 215 [.ptr rp 4 0 0] H (EP (SpG ts nE) ((ZW ts (i+1) wLP).bind fun _ j=>(Zv ts j 0 3).bind fun p j=>(ZW ts j wRP).bind fun _ j=> .ok (.mk 6 0 p 0 noS noS []) j) rp H):=by
 have hl:=hK.len
 have h2:∀fs,Z6 (Z1 H rp fs) rp=some (4,fs):=fun fs=>ZK hr
 have hi1:i+1≤ts.length:=hi
 generalize hR:(((ZW ts (i+1) wLP).bind fun _ j=>(Zv ts j 0 3).bind fun p j=>(ZW ts j wRP).bind fun _ j=> .ok (.mk 6 0 p 0 noS noS []) j:PR Exp))=R
 refine EP.of ?_
 refine Z8 mxd i215 rfl (by simp) ?_;refine X0 ?_
 (refine R1 (jO hr (jO @YZ (jO @YA @YB))) ?_)
 rw[show Z1 H rp [.agg [TkS ts,I ((i:Int)+1),I nE,I (-1)]]=Z1 H rp [SpG ts nE (i+1) false] from rfl]
 have b1:(frm false (fun i=>ZW ts i wLP) (i+1)).at ≤ ts.length:=Zw (ZF _ _) hi1
 refine callS.of (w157 hK (i+1) hi1 false wLP rp _ (h2 _)) ?_
 rintro _ _ rfl _
 rw[Z4]
 generalize hP1:frm false (fun i=>ZW ts i wLP) (i+1)=P1 at *
 (refine R0 ?_)
 have b2:(frm P1.err (fun i=>Zv ts i 0 3) P1.at).at ≤ ts.length:=Zw (ba_num _ _ _) b1
 refine callS.of (w227 hK P1.at b1 P1.err 0 3 rp _ (h2 _)) ?_
 rintro _ _ ⟨rfl,rfl⟩ _
 rw[Z4]
 generalize hP2:frm P1.err (fun i=>Zv ts i 0 3) P1.at=P2 at *
 (refine R0 ?_)
 refine callS.of (w157 hK P2.at b2 P2.err wRP rp _ (h2 _)) ?_
 rintro _ _ rfl _
 rw[Z4]
 generalize hP3:frm P2.err (fun i=>ZW ts i wRP) P2.at=P3 at *
 (refine R0 ?_)
 rw[Zl] at hP1
 rw[Yy] at hP2 hP3
 have hS:StP P3 R:=by
  subst hR hP3 hP2 hP1
  rw[bind_as]
  exact StP.bind _ fun _ j=>StP.bind (Zv ts j 0 3) fun p k=>StP.last (ZW ts k wRP) _
 all_goals (
  refine .inr (.inl ⟨.mk 6 0 (PR.val 0 P2) 0 noS noS [],rfl,rfl,by rw[hS.1,hS.2],?_⟩)
  subst hR
  intro a j hx
  obtain ⟨u,m,q1,hx⟩:=ZV hx
  obtain ⟨n,k,q2,hx⟩:=ZV hx
  obtain ⟨v,q,q3,hx⟩:=ZV hx
  have hv:PR.val 0 P2=n:=by rw[←hP2,←hP1,q1];show PR.val 0 (Zv ts m 0 3)=n;rw[q2];rfl
  rw[hv]
  cases hx
  rfl)
theorem e217 {ts:List Go.Gh.Tok} {nE:Int} (hK:OkR ts nE) (i:Nat) (hi:i<ts.length) (op:Int) (hE:∀(j:Nat) (b:Bool) (rp:Nat) (H:GH),i<j→j≤ts.length→Z6 H rp=some (4,[SpG ts nE j b])→Gc 123 [.ptr rp 4 0 0] H (EP (SpG ts nE) (frm b (rE ts) j) rp H)) (rp:Nat) (H:GH) (hr:Z6 H rp=some (4,[SpG ts nE i false])) :
 Gc 217 [.ptr rp 4 0 0,I op] H (EP (SpG ts nE) ((ZW ts (i+1) wLP).bind fun _ j=>(rE ts j).bind fun a j=>(ZW ts j Yv).bind fun _ j=>(rE ts j).bind fun b j=>(ZW ts j wRP).bind fun _ j=> .ok (opE op a b) j) rp H):=by
 have hl:=hK.len
 have h2:∀fs,Z6 (Z1 H rp fs) rp=some (4,fs):=fun fs=>ZK hr
 have hi1:i+1≤ts.length:=hi
 generalize hR:(((ZW ts (i+1) wLP).bind fun _ j=>(rE ts j).bind fun a j=>(ZW ts j Yv).bind fun _ j=>(rE ts j).bind fun b j=>(ZW ts j wRP).bind fun _ j=> .ok (opE op a b) j:PR Exp))=R
 refine EP.of ?_
 refine Z8 mxd i217 rfl (by simp) ?_;refine X0 ?_
 (refine R1 (jO hr (jO @YZ (jO @YA @YB))) ?_)
 rw[show Z1 H rp [.agg [TkS ts,I ((i:Int)+1),I nE,I (-1)]]=Z1 H rp [SpG ts nE (i+1) false] from rfl]
 have b1:(frm false (fun i=>ZW ts i wLP) (i+1)).at ≤ ts.length:=Zw (ZF _ _) hi1
 have l1:i<(frm false (fun i=>ZW ts i wLP) (i+1)).at := (ZF (i+1) wLP hi1).1
 refine callS.of (w157 hK (i+1) hi1 false wLP rp _ (h2 _)) ?_
 rintro _ _ rfl _
 rw[Z4]
 generalize hP1:frm false (fun i=>ZW ts i wLP) (i+1)=P1 at *
 (refine R0 ?_)
 have b2:(frm P1.err (rE ts) P1.at).at ≤ ts.length:=Zw (Yb _) b1
 have l2:i<(frm P1.err (rE ts) P1.at).at := Nat.lt_of_lt_of_le l1 (X5 (Yb _) b1)
 refine callS.of (hE P1.at P1.err rp _ l1 b1 (h2 _)) ?_
 rintro _ _ ⟨ea,ra,rfl,rfl,hea⟩ hna
 rw[Z4] at hna ⊢
 have hrap:ra≠rp:=ZN hna (h2 _)
 generalize hP2:frm P1.err (rE ts) P1.at=P2 at *
 (refine R1 hrap ?_)
 have b3:(frm P2.err (fun i=>ZW ts i Yv) P2.at).at ≤ ts.length:=Zw (ZF _ _) b2
 have l3:i<(frm P2.err (fun i=>ZW ts i Yv) P2.at).at := Nat.lt_of_lt_of_le l2 (X5 (ZF _ _) b2)
 refine callS.of (w157 hK P2.at b2 P2.err Yv rp _ (by rw[ZX hrap];exact h2 _)) ?_
 rintro _ _ rfl _
 rw[ZJ hrap,Z4]
 generalize hP3:frm P2.err (fun i=>ZW ts i Yv) P2.at=P3 at *
 (refine R1 hrap ?_)
 have b4:(frm P3.err (rE ts) P3.at).at ≤ ts.length:=Zw (Yb _) b3
 refine callS.of (hE P3.at P3.err rp _ l3 b3 (by rw[ZX hrap];exact h2 _)) ?_
 rintro _ _ ⟨eb,rb,rfl,rfl,heb⟩ hnb
 rw[ZJ hrap,Z4] at hnb ⊢
 have hrba:rb≠ra:=ZN hnb Z0
 have hrbp:rb≠rp:=ZN hnb (by rw[ZX hrap];exact h2 _)
 generalize hP4:frm P3.err (rE ts) P3.at=P4 at *
 (refine R1 (jO hrap (jO hrbp hrba)) ?_)
 refine callS.of (w157 hK P4.at b4 P4.err wRP rp _ (by rw[ZX hrbp,ZX hrap];exact h2 _)) ?_
 rintro _ _ rfl _
 rw[ZJ hrbp,ZJ hrap,Z4]
 generalize hP5:frm P4.err (fun i=>ZW ts i wRP) P4.at=P5 at *
 (refine R1 (jO hrap (jO hrbp hrba)) ?_)
 refine callS.of (q98 op ea eb ra rb _ (Ne.symm hrba) (by rw[ZX hrba];exact Z0) Z0) ?_
 rintro _ _ ⟨r,rfl,rfl⟩ hn
 have hd:ZL (ZL ((rb,7,eb.args.map ExO)::(ra,7,ea.args.map ExO)::Z1 H rp [SpG ts nE P5.at P5.err]) ra) rb=Z1 H rp [SpG ts nE P5.at P5.err]:=by simp[ZL,hrba]
 rw[hd] at hn ⊢
 (refine R0 ?_)
 rw[Zl] at hP1
 rw[Yy] at hP2 hP3 hP4 hP5
 have hS:StP P5 R:=by
  subst hR hP5 hP4 hP3 hP2 hP1
  simp only[bind_as]
  exact StP.bind _ fun _ j=>StP.bind _ fun a j=>StP.bind _ fun _ j=>StP.bind (rE ts j) fun b j=>StP.last _ _
 all_goals (
  refine .inl ⟨opE op ea eb,r,rfl,by rw[hS.1,hS.2],?_⟩
  subst hR
  intro a j hx
  obtain ⟨u,m,q1,hx⟩:=ZV hx
  obtain ⟨a1,k,q2,hx⟩:=ZV hx
  obtain ⟨v,q,q3,hx⟩:=ZV hx
  obtain ⟨a2,n,q4,hx⟩:=ZV hx
  obtain ⟨v2,q0,q5,hx⟩:=ZV hx
  have f2:P2 = .ok a1 k:=by rw[←hP2,←hP1,q1];exact q2
  have f4:P4 = .ok a2 n:=by rw[←hP4,←hP3,f2,show (PR.ok a1 k).bind (fun _ i=>ZW ts i Yv)=ZW ts k Yv from rfl,q3];exact q4
  cases hx
  rw[hea _ _ f2,heb _ _ f4])
theorem e218 {ts:List Go.Gh.Tok} {nE:Int} (hK:OkR ts nE) (i:Nat) (hi:i<ts.length) (hA:∀(j:Nat) (b:Bool) (rp:Nat) (H:GH),(b=false→i<j)→j≤ts.length→Z6 H rp=some (4,[SpG ts nE j b])→Gc 187 [.ptr rp 4 0 0] H (EP (SpG ts nE) (frm b (rA ts) j) rp H)) (rp:Nat) (H:GH) (hr:Z6 H rp=some (4,[SpG ts nE i false])) :
 Gc 218 [.ptr rp 4 0 0] H (EP (SpG ts nE) ((ZO ts i).bind fun s j=>(ZW ts j Zc).bind fun _ j=>(ZO ts j).bind fun n j=>(ZW ts j wOf).bind fun _ j=>(rA ts j).bind fun e j=> .ok (.mk 8 0 0 0 s n [e]) j) rp H):=by
 have hl:=hK.len
 have h2:∀fs,Z6 (Z1 H rp fs) rp=some (4,fs):=fun fs=>ZK hr
 have hi1:i+1≤ts.length:=hi
 generalize hR:(((ZO ts i).bind fun s j=>(ZW ts j Zc).bind fun _ j=>(ZO ts j).bind fun n j=>(ZW ts j wOf).bind fun _ j=>(rA ts j).bind fun e j=> .ok (.mk 8 0 0 0 s n [e]) j:PR Exp))=R
 refine EP.of ?_
 refine Z8 mxd i218 rfl (by simp) ?_;refine X0 ?_
 (refine R1 (jO hr (jO @YZ (jO @YA @YB))) ?_)
 refine callS.of (w228 hK i (Nat.le_of_lt hi) false rp H hr) ?_
 rintro _ _ ⟨rfl,rfl⟩ _
 have b1:(frm false (ZO ts) i).at ≤ ts.length:=Zw (X8 _) (Nat.le_of_lt hi)
 generalize hP1:frm false (ZO ts) i=P1 at *
 (refine R0 ?_)
 have b2:(frm P1.err (fun i=>ZW ts i Zc) P1.at).at ≤ ts.length:=Zw (ZF _ _) b1
 refine callS.of (w157 hK P1.at b1 P1.err Zc rp _ (h2 _)) ?_
 rintro _ _ rfl _
 rw[Z4]
 generalize hP2:frm P1.err (fun i=>ZW ts i Zc) P1.at=P2 at *
 (refine R0 ?_)
 have b3:(frm P2.err (ZO ts) P2.at).at ≤ ts.length:=Zw (X8 _) b2
 refine callS.of (w228 hK P2.at b2 P2.err rp _ (h2 _)) ?_
 rintro _ _ ⟨rfl,rfl⟩ _
 rw[Z4]
 generalize hP3:frm P2.err (ZO ts) P2.at=P3 at *
 (refine R0 ?_)
 have b4:(frm P3.err (fun i=>ZW ts i wOf) P3.at).at ≤ ts.length:=Zw (ZF _ _) b3
 refine callS.of (w157 hK P3.at b3 P3.err wOf rp _ (h2 _)) ?_
 rintro _ _ rfl _
 rw[Z4]
 generalize hP4:frm P3.err (fun i=>ZW ts i wOf) P3.at=P4 at *
 (refine R0 ?_)
 rw[Zl] at hP1
 rw[Yy] at hP2 hP3 hP4
 have hlt:P4.err=false→i<P4.at:=by
  subst hP4 hP3 hP2
  cases hq:ZO ts i with
  | bad k=>rw[←hP1,hq];intro h;cases h
  | ok s k=>
   rw[←hP1,hq]
   intro _
   obtain rfl:=name_nx hq
   exact ((((ZF (i+1) Zc).bind fun _ _ => X8 _).bind fun _ _ => ZF _ _) hi1).1
 refine callS.of (hA P4.at P4.err rp _ hlt b4 (h2 _)) ?_
 rintro _ _ ⟨e,r,rfl,rfl,he⟩ hn
 rw[Z4] at hn ⊢
 have hrp:r≠rp:=ZN hn (h2 _)
 generalize hP5:frm P4.err (rA ts) P4.at=P5 at *
 replace hn:=Y3 hn
 (replace hn:=hn;simp only[VN] at hn)
 (refine R1 (jO hn hrp) ?_;with_reducible repeat' intro h)
 rename_i q
 have hqr:q≠r:=(by intro hh;subst hh;simp[names] at h)
 rw[Yy] at hP5
 have hS:StP P5 R:=by
  subst hR hP5 hP4 hP3 hP2 hP1
  simp only[bind_as]
  exact StP.bind _ fun _ j=>StP.bind _ fun _ j=>StP.bind _ fun _ j=>StP.bind _ fun _ j=>StP.last _ _
 refine .inr (.inr (.inl ⟨PR.val noS P1,PR.val noS P3,e,r,q,hqr,rfl,by rw[hS.1,hS.2],?_⟩))
 subst hR
 intro x j hx
 obtain ⟨s,m,q1,hx⟩:=ZV hx
 obtain ⟨u,k,q2,hx⟩:=ZV hx
 obtain ⟨n,p,q3,hx⟩:=ZV hx
 obtain ⟨u2,o,q4,hx⟩:=ZV hx
 obtain ⟨e2,o2,q5,hx⟩:=ZV hx
 have f1:P1 = .ok s m:=by rw[←hP1];exact q1
 have f2:P2 = .ok u k:=by rw[←hP2,f1];exact q2
 have f3:P3 = .ok n p:=by rw[←hP3,f2];exact q3
 have f4:P4 = .ok u2 o:=by rw[←hP4,f3];exact q4
 have f5:P5 = .ok e2 o2:=by rw[←hP5,f4];exact q5
 cases hx
 rw[he _ _ f5,f1,f3]
 rfl
theorem Tryz.isW_txt {t:Go.Gh.Tok} {w:ByteArray} (h:isW t w=true):t.text=w:=by
 unfold isW at h
 simp only[Bool.and_eq_true,decide_eq_true_eq] at h
 exact h.2
theorem Tryz.funO_nn (s:ByteArray):0≤funO s:=by
 unfold funO
 split
 ·decide
 ·split
  ·decide
  ·split
   ·decide
   ·split<;>decide
theorem Tryz.satomT {ts:List Go.Gh.Tok} {nE:Int} (hK:OkR ts nE) (i:Nat) (hi:i≤ts.length) (rp:Nat) (H:GH) (hr:Z6 H rp=some (4,[SpG ts nE i true])):Gc 187 [.ptr rp 4 0 0] H (EP (SpG ts nE) (.bad i) rp H):=by
 refine EP.of ?_
 have hg:=hK.ge i
 refine Z8 mxd i187 rfl (by simp) ?_;refine X0 ?_
 (refine R1 (jO hr (jO @bdO_t (jO hg (jO @decide_true @decide_false)))) ?_)
 refine callS.of (w124 hK i hi true rp H hr) ?_
 rintro _ _ ⟨rfl,rfl⟩ _
 (refine R0 ?_)
 all_goals exact .inr (.inl ⟨(.mk 0 0 0 0 noS noS []),rfl,rfl,rfl,fun a j h=>(by cases h)⟩)
theorem Tryz.satomS {ts:List Go.Gh.Tok} {nE:Int} (hK:OkR ts nE) (i:Nat) (hi:i≤ts.length)
 (hE:∀(j:Nat) (b:Bool) (rp:Nat) (H:GH),i<j→j≤ts.length→Z6 H rp=some (4,[SpG ts nE j b])→Gc 123 [.ptr rp 4 0 0] H (EP (SpG ts nE) (frm b (rE ts) j) rp H))
 (hA:∀(j:Nat) (b:Bool) (rp:Nat) (H:GH),i<j→j≤ts.length→Z6 H rp=some (4,[SpG ts nE j b])→Gc 187 [.ptr rp 4 0 0] H (EP (SpG ts nE) (frm b (rA ts) j) rp H))
 (b:Bool) (rp:Nat) (H:GH) (hr:Z6 H rp=some (4,[SpG ts nE i b])):Gc 187 [.ptr rp 4 0 0] H (EP (SpG ts nE) (frm b (rA ts) i) rp H):=by
 cases b with
 | true=>exact Tryz.satomT hK i hi rp H hr
 | false=>
  have hl:=hK.len
  generalize hR:frm false (rA ts) i=R
  have hbad:R = .bad i→EN (SpG ts nE) R rp H (ExN (.mk 0 0 0 0 noS noS [])) (Z1 H rp [SpG ts nE i true]):=fun h=>by subst h;exact ⟨_,rfl,rfl,rfl,fun a j h=>by cases h⟩
  refine EP.of ?_
  have hfail:=w124 hK i hi false rp H hr
  have h2:∀fs,Z6 (Z1 H rp fs) rp=some (4,fs):=fun fs=>ZK hr
  rw[Zl,rA_eq hi] at hR
  rcases nL i ts.length with hlt|hG
  ·have hL:¬ts.length≤i:=by omega
   have hi1:i+1≤ts.length:=hlt
   have hgd:ts.getD i Y5=ts[i]:=Za hlt
   have hsz:=(hK.txt _ (gM hlt)).2
   have hm:ts[i].text.size ≤ maxLen:=by simp only[maxLen,ZE];omega
   unfold Y6 at hR
   dsimp only at hR
   rw[if_neg (not_not_intro hlt)] at hR
   rw[hgd] at hR
   by_cases hk:ts[i].kind = 2
   ·have hkk:((ts[i].kind = 2)=True):=eq_true hk
    rw[if_pos hk] at hR
    refine Z8 mxd i187 rfl (by simp) ?_;refine X0 ?_
    (refine R1 (jO hr (jO @YZ (jO @YA (jO @YB (jO hlt (jO hL (jO hkk (jO @decide_true @decide_false)))))))) ?_;with_reducible repeat' intro h)
    refine callS.eq (v90 _ _) ?_
    (refine R0 ?_)
    refine callS.of (w212 hK i hlt (conE ts[i].num 1) rp H hr) ?_
    rintro _ _ ⟨rfl,rfl⟩ _
    (refine R0 ?_)
    all_goals (subst hR;exact .inr (.inl ⟨conE ts[i].num 1,rfl,rfl,rfl,fun a j h=>by cases h;rfl⟩))
   ·have hkk:((ts[i].kind = 2)=False):=eq_false hk
    rw[if_neg hk] at hR
    refine Z8 mxd i187 rfl (by simp) ?_;refine X0 ?_
    (refine R1 (jO hr (jO @YZ (jO @YA (jO @YB (jO hlt (jO hL (jO hkk (jO @decide_true @decide_false)))))))) ?_;with_reducible repeat' intro h)
    refine callS.eq (w186 ts[i] wLB) ?_
    cases hq0:isW ts[i] wLB with
    | true=>
     rw[if_pos hq0] at hR
     (refine R0 ?_)
     refine callS.of (o213 hK i hlt rp H hr) ?_
     rintro g H' ⟨e,r,rfl,rfl,he⟩ hn
     (refine R0 ?_)
     all_goals (subst hR;exact .inl ⟨e,r,rfl,rfl,he⟩)
    | false=>
     rw[if_neg (by rw[hq0];decide)] at hR
     (refine R0 ?_)
     refine callS.eq (w186 ts[i] wTrue) ?_
     cases hq1:isW ts[i] wTrue with
     | true=>
      rw[if_pos hq1] at hR
      (refine R0 ?_)
      have htx:=Tryz.isW_txt hq1
      have ht3:decide (ts[i].text = ⟨#[116,114,117,101]⟩)=true:=decide_eq_true htx
      refine callS.eq (w210 _) ?_
      rw[ht3]
      (refine R0 ?_)
      refine callS.eq (v90 _ _) ?_
      (refine R0 ?_)
      refine callS.of (w212 hK i hlt (conE 1 3) rp H hr) ?_
      rintro _ _ ⟨rfl,rfl⟩ _
      (refine R0 ?_)
      all_goals (subst hR;exact .inr (.inl ⟨conE 1 3,rfl,rfl,rfl,fun a j h=>by cases h;rfl⟩))
     | false=>
      rw[if_neg (by rw[hq1];decide)] at hR
      (refine R0 ?_)
      refine callS.eq (w186 ts[i] Yi) ?_
      cases hq2:isW ts[i] Yi with
      | true=>
       rw[if_pos hq2] at hR
       (refine R0 ?_)
       have htx:=Tryz.isW_txt hq2
       have ht3:decide (ts[i].text = ⟨#[116,114,117,101]⟩)=false:=decide_eq_false (by rw[htx];decide)
       refine callS.eq (w210 _) ?_
       rw[ht3]
       (refine R0 ?_)
       refine callS.eq (v90 _ _) ?_
       (refine R0 ?_)
       refine callS.of (w212 hK i hlt (conE 0 3) rp H hr) ?_
       rintro _ _ ⟨rfl,rfl⟩ _
       (refine R0 ?_)
       all_goals (subst hR;exact .inr (.inl ⟨conE 0 3,rfl,rfl,rfl,fun a j h=>by cases h;rfl⟩))
      | false=>
       rw[if_neg (by rw[hq2];decide)] at hR
       (refine R0 ?_)
       refine callS.eq (w186 ts[i] wLit) ?_
       cases hq3:isW ts[i] wLit with
       | true=>
        rw[if_pos hq3] at hR
        (refine R0 ?_)
        refine callS.of (w212 hK i hlt (.mk 2 0 0 0 noS noS []) rp H hr) ?_
        rintro _ _ ⟨rfl,rfl⟩ _
        (refine R0 ?_)
        all_goals (subst hR;exact .inr (.inl ⟨.mk 2 0 0 0 noS noS [],rfl,rfl,rfl,fun a j h=>by cases h;rfl⟩))
       | false=>
        rw[if_neg (by rw[hq3];decide)] at hR
        (refine R0 ?_)
        refine callS.eq (w186 ts[i] wNone) ?_
        cases hq4:isW ts[i] wNone with
        | true=>
         rw[if_pos hq4] at hR
         (refine R0 ?_)
         refine callS.of (w212 hK i hlt (.mk 7 0 0 0 noS noS []) rp H hr) ?_
         rintro _ _ ⟨rfl,rfl⟩ _
         (refine R0 ?_)
         all_goals (subst hR;exact .inr (.inl ⟨.mk 7 0 0 0 noS noS [],rfl,rfl,rfl,fun a j h=>by cases h;rfl⟩))
        | false=>
         rw[if_neg (by rw[hq4];decide)] at hR
         (refine R0 ?_)
         refine callS.eq (w186 ts[i] wDol) ?_
         cases hq5:isW ts[i] wDol with
         | true=>
          rw[if_pos hq5] at hR
          (refine R0 ?_)
          refine callS.of (e214 hK i hlt rp H hr) ?_
          rintro g H' ⟨e,r,rfl,rfl,he⟩ hn
          (refine R0 ?_)
          all_goals (subst hR;exact .inl ⟨e,r,rfl,rfl,he⟩)
         | false=>
          rw[if_neg (by rw[hq5];decide)] at hR
          (refine R0 ?_)
          refine callS.eq (w186 ts[i] wSelf) ?_
          cases hq6:isW ts[i] wSelf with
          | true=>
           rw[if_pos hq6] at hR
           (refine R0 ?_)
           refine callS.of (e215 hK i hlt rp H hr) ?_
           rintro g H' ⟨e,r,rfl,rfl,he⟩ hn
           (refine R0 ?_)
           all_goals (subst hR;exact .inl ⟨e,r,rfl,rfl,he⟩)
          | false=>
           rw[if_neg (by rw[hq6];decide)] at hR
           (refine R0 ?_)
           refine callS.eq (w186 ts[i] wLP) ?_
           cases hq7:isW ts[i] wLP with
           | true=>
            rw[if_pos hq7] at hR
            (refine R0 ?_)
            (refine R1 (jO hr (jO @YZ (jO @YA @YB))) ?_)
            rw[show Z1 H rp [.agg [TkS ts,I ((i:Int)+1),I nE,I (-1)]]=Z1 H rp [SpG ts nE (i+1) false] from rfl]
            have bE:(frm false (rE ts) (i+1)).at ≤ ts.length:=Zw (Yb _) hi1
            refine callS.of (hE (i+1) false rp _ (Nat.lt_succ_self i) hi1 (h2 _)) ?_
            rintro _ _ ⟨e,r,rfl,rfl,he⟩ hn
            rw[Z4] at hn ⊢
            have hrp:r≠rp:=ZN hn (h2 _)
            generalize hP1:frm false (rE ts) (i+1)=P1 at *
            (refine R1 hrp ?_)
            refine callS.of (w157 hK P1.at bE P1.err wRP rp _ (by rw[ZX hrp];exact h2 _)) ?_
            rintro _ _ rfl _
            rw[ZJ hrp,Z4]
            generalize hP2:frm P1.err (fun i=>ZW ts i wRP) P1.at=P2 at *
            (refine R1 hrp ?_)
            rw[Zl] at hP1
            rw[Yy] at hP2
            have hS:StP P2 R:=by
             subst hR hP2 hP1
             exact StP.bind _ fun _ j=>StP.last _ _
            all_goals (
             refine .inl ⟨e,r,rfl,by rw[hS.1,hS.2],?_⟩
             subst hR
             intro a j hx
             obtain ⟨u,m,q1,hx⟩:=ZV hx
             obtain ⟨v,q,q3,hx⟩:=ZV hx
             cases hx
             exact he _ _ (hP1▸q1))
           | false=>
            rw[if_neg (by rw[hq7];decide)] at hR
            by_cases hk1:ts[i].kind = 1
            ·have hk1':(ts[i].kind = 1)=True:=eq_true hk1
             (refine R1 (jO hk1' (jO @decide_true @decide_false)) ?_)
             refine callS.eq (w216 _) ?_
             by_cases hf:funO ts[i].text = 0
             ·rw[if_neg (fun h=>h.2 hf)] at hR
              have hf':(0<funO ts[i].text)=False:=eq_false (by omega)
              (refine R1 (jO hf' (jO hk1' (jO @decide_true @decide_false))) ?_)
              refine callS.eq (w71 _ hm) ?_
              by_cases hv:ZS ts[i].text = true
              ·(refine R1 hv ?_)
               have hA':∀(j:Nat) (b:Bool) (rp:Nat) (H:GH),(b=false→i<j)→j≤ts.length→Z6 H rp=some (4,[SpG ts nE j b])→Gc 187 [.ptr rp 4 0 0] H (EP (SpG ts nE) (frm b (rA ts) j) rp H):=by
                intro j b rp H h1 h2 h3
                cases b with
                | true=>exact Tryz.satomT hK j h2 rp H h3
                | false=>exact hA j false rp H (h1 rfl) h2 h3
               refine callS.of (e218 hK i hlt hA' rp H hr) ?_
               rintro g H' ⟨e,r,rfl,rfl,he⟩ hn
               (refine R0 ?_)
               all_goals (subst hR;exact .inl ⟨e,r,rfl,rfl,he⟩)
              ·have hv':ZS ts[i].text = false:=Bool.eq_false_iff.2 hv
               have e:ZO ts i = .bad i:=by unfold ZO;rw[Za hlt,if_neg (fun hc=>hv hc.2.2)]
               rw[e] at hR
               (refine R1 hv' ?_)
               refine callS.of hfail ?_
               rintro _ _ ⟨rfl,rfl⟩ _
               (refine R0 ?_)
               all_goals exact .inr (.inl (hbad hR.symm))
             ·have hf0:=Tryz.funO_nn ts[i].text
              rw[if_pos ⟨hk1,hf⟩] at hR
              have hf':(0<funO ts[i].text)=True:=eq_true (by omega)
              (refine R1 (jO hf' (jO hk1' (jO @decide_true @decide_false))) ?_)
              refine callS.eq (w216 _) ?_
              (refine R0 ?_)
              refine callS.of (e217 hK i hlt (funO ts[i].text) hE rp H hr) ?_
              rintro g H' ⟨e,r,rfl,rfl,he⟩ hn
              (refine R0 ?_)
              all_goals (subst hR;exact .inl ⟨e,r,rfl,rfl,he⟩)
            ·have hk1':(ts[i].kind = 1)=False:=eq_false hk1
             rw[if_neg (fun h=>hk1 h.1)] at hR
             have e:ZO ts i = .bad i:=by unfold ZO;rw[Za hlt,if_neg (fun hc=>hk1 hc.2.1)]
             rw[e] at hR
             (refine R1 (jO hk1' (jO @decide_true @decide_false)) ?_)
             refine callS.of hfail ?_
             rintro _ _ ⟨rfl,rfl⟩ _
             (refine R0 ?_)
             all_goals exact .inr (.inl (hbad hR.symm))
  ·have hx:R = .bad i:=by
    unfold Y6 at hR
    dsimp only at hR
    rw[if_pos (by omega)] at hR
    exact hR.symm
   have hG':ts.length≤i:=hG
   refine Z8 mxd i187 rfl (by simp) ?_;refine X0 ?_
   (refine R1 (jO hr (jO @YZ (jO @YA (jO @YB (jO hG' (jO @decide_true @decide_false)))))) ?_;with_reducible repeat' first|intro h|refine aO ?_|apply jO)
   refine callS.of hfail ?_
   rintro _ _ ⟨rfl,rfl⟩ _
   (refine R0 ?_)
   all_goals first|(exfalso;omega)|exact .inr (.inl (hbad hx))
theorem Tryz.aggSl (s:Nat) (l:List GV):Go.Gh.isAgg (GV.sl s l)=false:=rfl
theorem Tryz.opB_S (ts:List Go.Gh.Tok) (b:Bool) (i lv:Nat):opB ts b i lv=(if lv=1 then (if (!b && sees ts i ⟨#[60]⟩)=true then 9 else if (!b && sees ts i ⟨#[61,61]⟩)=true then 10 else 0) else
 if lv=2 then (if (!b && sees ts i ⟨#[43]⟩)=true then 1 else if (!b && sees ts i ⟨#[45]⟩)=true then 2 else if (!b && sees ts i ⟨#[124]⟩)=true then 6 else if (!b && sees ts i ⟨#[92]⟩)=true then 8 else 0) else
 if lv=3 then (if (!b && sees ts i ⟨#[42]⟩)=true then 3 else if (!b && sees ts i ⟨#[38]⟩)=true then 7 else 0) else 0):=by
 cases b with
 | true=>simp[opB]
 | false=>simp only[opB,Go.Gh.opAt,Bool.not_false,Bool.true_and,Bool.false_eq_true,if_false]
theorem Tryz.sop1 {ts:List Go.Gh.Tok} {nE:Int} (hK:OkR ts nE) (i:Nat) (hi:i≤ts.length) (b:Bool) (rp:Nat) (H:GH) (hr:Z6 H rp=some (4,[SpG ts nE i b])) :
 Gc 188 [.ptr rp 4 0 0,I 1] H (fun g H'=>g=I (opB ts b i 1)∧H'=H):=by
 have hs:∀w,Gc 155 [.ptr rp 4 0 0,T w] H (fun g H'=>g=B (!b && sees ts i w)∧H'=H):=fun w=>w155 hK i hi b w rp H hr
 rw[Tryz.opB_S]
 refine Z8 mxd i188 rfl (by simp) ?_;simp (maxSteps:=9^7) only[↓ S2,S2,Y8,↓reduceIte,reduceNe,reduceEqDiff,reduceCtorEq,reduceLeDiff,reduceAdd,reduceLT]
 ((try refine qI ?_);(repeat ((first|with_reducible refine qU ?_ | simp only[Zj]);try simp (maxSteps:=9^7) +contextual only[↓ S2,S2,↓reduceIte,reduceNe,reduceEqDiff,reduceCtorEq,reduceLeDiff,reduceAdd,reduceLT,VQ,Int.reduceSub,Int.reduceToNat,List.getElem_cons_zero,List.getElem_cons_succ,Tryz.aggSl]));(try simp +contextual (disch:=omega) only[Z2,Int.reduceSub,Int.reduceToNat,List.getElem_cons_zero,List.getElem_cons_succ,Tryz.aggSl]);(with_reducible repeat' (first|intro h|refine And.intro (by omega) ?_ | refine exP (by omega) ?_ | apply And.intro)))
 ((try refine qI ?_);(repeat ((first|with_reducible refine qU ?_ | simp only[Zj]);try simp (maxSteps:=9^7) +contextual only[↓ S2,S2,↓reduceIte,reduceNe,reduceEqDiff,reduceCtorEq,reduceLeDiff,reduceAdd,reduceLT,VQ,Int.reduceSub,Int.reduceToNat,List.getElem_cons_zero,List.getElem_cons_succ,Tryz.aggSl]));(try simp +contextual (disch:=omega) only[Z2,Int.reduceSub,Int.reduceToNat,List.getElem_cons_zero,List.getElem_cons_succ,Tryz.aggSl]);(with_reducible repeat' (first|intro h|refine And.intro (by omega) ?_ | refine exP (by omega) ?_ | apply And.intro)))
 ((try refine qI ?_);(repeat ((first|with_reducible refine qU ?_ | simp only[Zj]);try simp (maxSteps:=9^7) +contextual only[↓ S2,S2,↓reduceIte,reduceNe,reduceEqDiff,reduceCtorEq,reduceLeDiff,reduceAdd,reduceLT,VQ,Int.reduceSub,Int.reduceToNat,List.getElem_cons_zero,List.getElem_cons_succ,Tryz.aggSl]));(try simp +contextual (disch:=omega) only[Z2,Int.reduceSub,Int.reduceToNat,List.getElem_cons_zero,List.getElem_cons_succ,Tryz.aggSl]);(with_reducible repeat' (first|intro h|refine And.intro (by omega) ?_ | refine exP (by omega) ?_ | apply And.intro)))
 refine Zk mxd (ι:={ k:Int // k=0∨(k=1∧(!b && sees ts i ⟨#[60]⟩)=false)∨(k=2∧(!b && sees ts i ⟨#[60]⟩)=false∧(!b && sees ts i ⟨#[61,61]⟩)=false) }) (fun k=>[(0,.ptr rp 4 0 0),(4,I 0),(5,.sl 1 [T ⟨#[60]⟩,T ⟨#[61,61]⟩]),(6,.sl 1 [I 9,I 10]),(7,I k.1)]) (fun _ => H) (fun k=>(2-k.1).toNat) ⟨0,.inl rfl⟩ (by simp[E2]) rfl ?_
 rintro ⟨k,rfl|⟨rfl,q0⟩|⟨rfl,q0,q1⟩⟩
 ·((try refine qI ?_);(repeat ((first|with_reducible refine qU ?_ | simp only[Zj]);try simp (maxSteps:=9^7) +contextual only[↓ S2,S2,↓reduceIte,reduceNe,reduceEqDiff,reduceCtorEq,reduceLeDiff,reduceAdd,reduceLT,VQ,Int.reduceSub,Int.reduceToNat,List.getElem_cons_zero,List.getElem_cons_succ,Tryz.aggSl]));(try simp +contextual (disch:=omega) only[Z2,Int.reduceSub,Int.reduceToNat,List.getElem_cons_zero,List.getElem_cons_succ,Tryz.aggSl]);(with_reducible repeat' (first|intro h|refine And.intro (by omega) ?_ | refine exP (by omega) ?_ | apply And.intro)))
  ((try refine qI ?_);(repeat ((first|with_reducible refine qU ?_ | simp only[Zj]);try simp (maxSteps:=9^7) +contextual only[↓ S2,S2,↓reduceIte,reduceNe,reduceEqDiff,reduceCtorEq,reduceLeDiff,reduceAdd,reduceLT,VQ,Int.reduceSub,Int.reduceToNat,List.getElem_cons_zero,List.getElem_cons_succ,Tryz.aggSl]));(try simp +contextual (disch:=omega) only[Z2,Int.reduceSub,Int.reduceToNat,List.getElem_cons_zero,List.getElem_cons_succ,Tryz.aggSl]);(with_reducible repeat' (first|intro h|refine And.intro (by omega) ?_ | refine exP (by omega) ?_ | apply And.intro)))
  all_goals try exact oF
  refine callS.of (hs ⟨#[60]⟩) ?_
  rintro _ _ ⟨rfl,rfl⟩ _
  cases hq:(!b && sees ts i ⟨#[60]⟩) with
  | true=>
   ((try refine qI ?_);(repeat ((first|with_reducible refine qU ?_ | simp only[Zj]);try simp (maxSteps:=9^7) +contextual only[↓ S2,S2,↓reduceIte,reduceNe,reduceEqDiff,reduceCtorEq,reduceLeDiff,reduceAdd,reduceLT,VQ,Int.reduceSub,Int.reduceToNat,List.getElem_cons_zero,List.getElem_cons_succ,Tryz.aggSl]));(try simp +contextual (disch:=omega) only[Z2,Int.reduceSub,Int.reduceToNat,List.getElem_cons_zero,List.getElem_cons_succ,Tryz.aggSl]);(with_reducible repeat' (first|intro h|refine And.intro (by omega) ?_ | refine exP (by omega) ?_ | apply And.intro)))
   ((try refine qI ?_);(repeat ((first|with_reducible refine qU ?_ | simp only[Zj]);try simp (maxSteps:=9^7) +contextual only[↓ S2,S2,↓reduceIte,reduceNe,reduceEqDiff,reduceCtorEq,reduceLeDiff,reduceAdd,reduceLT,VQ,Int.reduceSub,Int.reduceToNat,List.getElem_cons_zero,List.getElem_cons_succ,Tryz.aggSl]));(try simp +contextual (disch:=omega) only[Z2,Int.reduceSub,Int.reduceToNat,List.getElem_cons_zero,List.getElem_cons_succ,Tryz.aggSl]);(with_reducible repeat' (first|intro h|refine And.intro (by omega) ?_ | refine exP (by omega) ?_ | apply And.intro)))
   all_goals first|(simp[hq];done)|trace_state
  | false=>
   ((try refine qI ?_);(repeat ((first|with_reducible refine qU ?_ | simp only[Zj]);try simp (maxSteps:=9^7) +contextual only[↓ S2,S2,↓reduceIte,reduceNe,reduceEqDiff,reduceCtorEq,reduceLeDiff,reduceAdd,reduceLT,VQ,]));(try simp +contextual (disch:=omega) only[Z2,]);(with_reducible repeat' (first|intro h|refine And.intro (by omega) ?_ | refine exP (by omega) ?_ | apply And.intro)))
   all_goals exact nx ⟨1,.inr (.inl ⟨rfl,(by first|exact hq|rfl)⟩)⟩ (by dsimp only;decide) (by simp[E2]) rfl
 ·((try refine qI ?_);(repeat ((first|with_reducible refine qU ?_ | simp only[Zj]);try simp (maxSteps:=9^7) +contextual only[↓ S2,S2,↓reduceIte,reduceNe,reduceEqDiff,reduceCtorEq,reduceLeDiff,reduceAdd,reduceLT,VQ,Int.reduceSub,Int.reduceToNat,List.getElem_cons_zero,List.getElem_cons_succ,Tryz.aggSl]));(try simp +contextual (disch:=omega) only[Z2,Int.reduceSub,Int.reduceToNat,List.getElem_cons_zero,List.getElem_cons_succ,Tryz.aggSl]);(with_reducible repeat' (first|intro h|refine And.intro (by omega) ?_ | refine exP (by omega) ?_ | apply And.intro)))
  ((try refine qI ?_);(repeat ((first|with_reducible refine qU ?_ | simp only[Zj]);try simp (maxSteps:=9^7) +contextual only[↓ S2,S2,↓reduceIte,reduceNe,reduceEqDiff,reduceCtorEq,reduceLeDiff,reduceAdd,reduceLT,VQ,Int.reduceSub,Int.reduceToNat,List.getElem_cons_zero,List.getElem_cons_succ,Tryz.aggSl]));(try simp +contextual (disch:=omega) only[Z2,Int.reduceSub,Int.reduceToNat,List.getElem_cons_zero,List.getElem_cons_succ,Tryz.aggSl]);(with_reducible repeat' (first|intro h|refine And.intro (by omega) ?_ | refine exP (by omega) ?_ | apply And.intro)))
  all_goals try exact oF
  refine callS.of (hs ⟨#[61,61]⟩) ?_
  rintro _ _ ⟨rfl,rfl⟩ _
  cases hq:(!b && sees ts i ⟨#[61,61]⟩) with
  | true=>
   ((try refine qI ?_);(repeat ((first|with_reducible refine qU ?_ | simp only[Zj]);try simp (maxSteps:=9^7) +contextual only[↓ S2,S2,↓reduceIte,reduceNe,reduceEqDiff,reduceCtorEq,reduceLeDiff,reduceAdd,reduceLT,VQ,Int.reduceSub,Int.reduceToNat,List.getElem_cons_zero,List.getElem_cons_succ,Tryz.aggSl]));(try simp +contextual (disch:=omega) only[Z2,Int.reduceSub,Int.reduceToNat,List.getElem_cons_zero,List.getElem_cons_succ,Tryz.aggSl]);(with_reducible repeat' (first|intro h|refine And.intro (by omega) ?_ | refine exP (by omega) ?_ | apply And.intro)))
   ((try refine qI ?_);(repeat ((first|with_reducible refine qU ?_ | simp only[Zj]);try simp (maxSteps:=9^7) +contextual only[↓ S2,S2,↓reduceIte,reduceNe,reduceEqDiff,reduceCtorEq,reduceLeDiff,reduceAdd,reduceLT,VQ,Int.reduceSub,Int.reduceToNat,List.getElem_cons_zero,List.getElem_cons_succ,Tryz.aggSl]));(try simp +contextual (disch:=omega) only[Z2,Int.reduceSub,Int.reduceToNat,List.getElem_cons_zero,List.getElem_cons_succ,Tryz.aggSl]);(with_reducible repeat' (first|intro h|refine And.intro (by omega) ?_ | refine exP (by omega) ?_ | apply And.intro)))
   all_goals first|(simp[hq,q0];done)|trace_state
  | false=>
   ((try refine qI ?_);(repeat ((first|with_reducible refine qU ?_ | simp only[Zj]);try simp (maxSteps:=9^7) +contextual only[↓ S2,S2,↓reduceIte,reduceNe,reduceEqDiff,reduceCtorEq,reduceLeDiff,reduceAdd,reduceLT,VQ,]));(try simp +contextual (disch:=omega) only[Z2,]);(with_reducible repeat' (first|intro h|refine And.intro (by omega) ?_ | refine exP (by omega) ?_ | apply And.intro)))
   all_goals exact nx ⟨2,.inr (.inr (⟨rfl,q0,(by first|exact hq|rfl)⟩))⟩ (by dsimp only;decide) (by simp[E2]) rfl
 ·((try refine qI ?_);(repeat ((first|with_reducible refine qU ?_ | simp only[Zj]);try simp (maxSteps:=9^7) +contextual only[↓ S2,S2,↓reduceIte,reduceNe,reduceEqDiff,reduceCtorEq,reduceLeDiff,reduceAdd,reduceLT,VQ,]));(try simp +contextual (disch:=omega) only[Z2,]);(with_reducible repeat' (first|intro h|refine And.intro (by omega) ?_ | refine exP (by omega) ?_ | apply And.intro)))
  all_goals first|(simp[q0,q1];done)|trace_state
theorem Tryz.sop2 {ts:List Go.Gh.Tok} {nE:Int} (hK:OkR ts nE) (i:Nat) (hi:i≤ts.length) (b:Bool) (rp:Nat) (H:GH) (hr:Z6 H rp=some (4,[SpG ts nE i b])) :
 Gc 188 [.ptr rp 4 0 0,I 2] H (fun g H'=>g=I (opB ts b i 2)∧H'=H):=by
 have hs:∀w,Gc 155 [.ptr rp 4 0 0,T w] H (fun g H'=>g=B (!b && sees ts i w)∧H'=H):=fun w=>w155 hK i hi b w rp H hr
 rw[Tryz.opB_S]
 refine Z8 mxd i188 rfl (by simp) ?_;simp (maxSteps:=9^7) only[↓ S2,S2,Y8,↓reduceIte,reduceNe,reduceEqDiff,reduceCtorEq,reduceLeDiff,reduceAdd,reduceLT]
 ((try refine qI ?_);(repeat ((first|with_reducible refine qU ?_ | simp only[Zj]);try simp (maxSteps:=9^7) +contextual only[↓ S2,S2,↓reduceIte,reduceNe,reduceEqDiff,reduceCtorEq,reduceLeDiff,reduceAdd,reduceLT,VQ,Int.reduceSub,Int.reduceToNat,List.getElem_cons_zero,List.getElem_cons_succ,Tryz.aggSl]));(try simp +contextual (disch:=omega) only[Z2,Int.reduceSub,Int.reduceToNat,List.getElem_cons_zero,List.getElem_cons_succ,Tryz.aggSl]);(with_reducible repeat' (first|intro h|refine And.intro (by omega) ?_ | refine exP (by omega) ?_ | apply And.intro)))
 ((try refine qI ?_);(repeat ((first|with_reducible refine qU ?_ | simp only[Zj]);try simp (maxSteps:=9^7) +contextual only[↓ S2,S2,↓reduceIte,reduceNe,reduceEqDiff,reduceCtorEq,reduceLeDiff,reduceAdd,reduceLT,VQ,Int.reduceSub,Int.reduceToNat,List.getElem_cons_zero,List.getElem_cons_succ,Tryz.aggSl]));(try simp +contextual (disch:=omega) only[Z2,Int.reduceSub,Int.reduceToNat,List.getElem_cons_zero,List.getElem_cons_succ,Tryz.aggSl]);(with_reducible repeat' (first|intro h|refine And.intro (by omega) ?_ | refine exP (by omega) ?_ | apply And.intro)))
 ((try refine qI ?_);(repeat ((first|with_reducible refine qU ?_ | simp only[Zj]);try simp (maxSteps:=9^7) +contextual only[↓ S2,S2,↓reduceIte,reduceNe,reduceEqDiff,reduceCtorEq,reduceLeDiff,reduceAdd,reduceLT,VQ,Int.reduceSub,Int.reduceToNat,List.getElem_cons_zero,List.getElem_cons_succ,Tryz.aggSl]));(try simp +contextual (disch:=omega) only[Z2,Int.reduceSub,Int.reduceToNat,List.getElem_cons_zero,List.getElem_cons_succ,Tryz.aggSl]);(with_reducible repeat' (first|intro h|refine And.intro (by omega) ?_ | refine exP (by omega) ?_ | apply And.intro)))
 refine Zk mxd (ι:={ k:Int // k=0∨(k=1∧(!b && sees ts i ⟨#[43]⟩)=false)∨(k=2∧(!b && sees ts i ⟨#[43]⟩)=false∧(!b && sees ts i ⟨#[45]⟩)=false)∨(k=3∧(!b && sees ts i ⟨#[43]⟩)=false∧(!b && sees ts i ⟨#[45]⟩)=false∧(!b && sees ts i ⟨#[124]⟩)=false)∨(k=4∧(!b && sees ts i ⟨#[43]⟩)=false∧(!b && sees ts i ⟨#[45]⟩)=false∧(!b && sees ts i ⟨#[124]⟩)=false∧(!b && sees ts i ⟨#[92]⟩)=false) }) (fun k=>[(0,.ptr rp 4 0 0),(4,I 0),(5,.sl 1 [T ⟨#[43]⟩,T ⟨#[45]⟩,T ⟨#[124]⟩,T ⟨#[92]⟩]),(6,.sl 1 [I 1,I 2,I 6,I 8]),(7,I k.1)]) (fun _ => H) (fun k=>(4-k.1).toNat) ⟨0,.inl rfl⟩ (by simp[E2]) rfl ?_
 rintro ⟨k,rfl|⟨rfl,q0⟩|⟨rfl,q0,q1⟩|⟨rfl,q0,q1,q2⟩|⟨rfl,q0,q1,q2,q3⟩⟩
 ·((try refine qI ?_);(repeat ((first|with_reducible refine qU ?_ | simp only[Zj]);try simp (maxSteps:=9^7) +contextual only[↓ S2,S2,↓reduceIte,reduceNe,reduceEqDiff,reduceCtorEq,reduceLeDiff,reduceAdd,reduceLT,VQ,Int.reduceSub,Int.reduceToNat,List.getElem_cons_zero,List.getElem_cons_succ,Tryz.aggSl]));(try simp +contextual (disch:=omega) only[Z2,Int.reduceSub,Int.reduceToNat,List.getElem_cons_zero,List.getElem_cons_succ,Tryz.aggSl]);(with_reducible repeat' (first|intro h|refine And.intro (by omega) ?_ | refine exP (by omega) ?_ | apply And.intro)))
  ((try refine qI ?_);(repeat ((first|with_reducible refine qU ?_ | simp only[Zj]);try simp (maxSteps:=9^7) +contextual only[↓ S2,S2,↓reduceIte,reduceNe,reduceEqDiff,reduceCtorEq,reduceLeDiff,reduceAdd,reduceLT,VQ,Int.reduceSub,Int.reduceToNat,List.getElem_cons_zero,List.getElem_cons_succ,Tryz.aggSl]));(try simp +contextual (disch:=omega) only[Z2,Int.reduceSub,Int.reduceToNat,List.getElem_cons_zero,List.getElem_cons_succ,Tryz.aggSl]);(with_reducible repeat' (first|intro h|refine And.intro (by omega) ?_ | refine exP (by omega) ?_ | apply And.intro)))
  all_goals try exact oF
  refine callS.of (hs ⟨#[43]⟩) ?_
  rintro _ _ ⟨rfl,rfl⟩ _
  cases hq:(!b && sees ts i ⟨#[43]⟩) with
  | true=>
   ((try refine qI ?_);(repeat ((first|with_reducible refine qU ?_ | simp only[Zj]);try simp (maxSteps:=9^7) +contextual only[↓ S2,S2,↓reduceIte,reduceNe,reduceEqDiff,reduceCtorEq,reduceLeDiff,reduceAdd,reduceLT,VQ,Int.reduceSub,Int.reduceToNat,List.getElem_cons_zero,List.getElem_cons_succ,Tryz.aggSl]));(try simp +contextual (disch:=omega) only[Z2,Int.reduceSub,Int.reduceToNat,List.getElem_cons_zero,List.getElem_cons_succ,Tryz.aggSl]);(with_reducible repeat' (first|intro h|refine And.intro (by omega) ?_ | refine exP (by omega) ?_ | apply And.intro)))
   ((try refine qI ?_);(repeat ((first|with_reducible refine qU ?_ | simp only[Zj]);try simp (maxSteps:=9^7) +contextual only[↓ S2,S2,↓reduceIte,reduceNe,reduceEqDiff,reduceCtorEq,reduceLeDiff,reduceAdd,reduceLT,VQ,Int.reduceSub,Int.reduceToNat,List.getElem_cons_zero,List.getElem_cons_succ,Tryz.aggSl]));(try simp +contextual (disch:=omega) only[Z2,Int.reduceSub,Int.reduceToNat,List.getElem_cons_zero,List.getElem_cons_succ,Tryz.aggSl]);(with_reducible repeat' (first|intro h|refine And.intro (by omega) ?_ | refine exP (by omega) ?_ | apply And.intro)))
   all_goals first|(simp[hq];done)|trace_state
  | false=>
   ((try refine qI ?_);(repeat ((first|with_reducible refine qU ?_ | simp only[Zj]);try simp (maxSteps:=9^7) +contextual only[↓ S2,S2,↓reduceIte,reduceNe,reduceEqDiff,reduceCtorEq,reduceLeDiff,reduceAdd,reduceLT,VQ,]));(try simp +contextual (disch:=omega) only[Z2,]);(with_reducible repeat' (first|intro h|refine And.intro (by omega) ?_ | refine exP (by omega) ?_ | apply And.intro)))
   all_goals exact nx ⟨1,.inr (.inl ⟨rfl,(by first|exact hq|rfl)⟩)⟩ (by dsimp only;decide) (by simp[E2]) rfl
 ·((try refine qI ?_);(repeat ((first|with_reducible refine qU ?_ | simp only[Zj]);try simp (maxSteps:=9^7) +contextual only[↓ S2,S2,↓reduceIte,reduceNe,reduceEqDiff,reduceCtorEq,reduceLeDiff,reduceAdd,reduceLT,VQ,Int.reduceSub,Int.reduceToNat,List.getElem_cons_zero,List.getElem_cons_succ,Tryz.aggSl]));(try simp +contextual (disch:=omega) only[Z2,Int.reduceSub,Int.reduceToNat,List.getElem_cons_zero,List.getElem_cons_succ,Tryz.aggSl]);(with_reducible repeat' (first|intro h|refine And.intro (by omega) ?_ | refine exP (by omega) ?_ | apply And.intro)))
  ((try refine qI ?_);(repeat ((first|with_reducible refine qU ?_ | simp only[Zj]);try simp (maxSteps:=9^7) +contextual only[↓ S2,S2,↓reduceIte,reduceNe,reduceEqDiff,reduceCtorEq,reduceLeDiff,reduceAdd,reduceLT,VQ,Int.reduceSub,Int.reduceToNat,List.getElem_cons_zero,List.getElem_cons_succ,Tryz.aggSl]));(try simp +contextual (disch:=omega) only[Z2,Int.reduceSub,Int.reduceToNat,List.getElem_cons_zero,List.getElem_cons_succ,Tryz.aggSl]);(with_reducible repeat' (first|intro h|refine And.intro (by omega) ?_ | refine exP (by omega) ?_ | apply And.intro)))
  all_goals try exact oF
  refine callS.of (hs ⟨#[45]⟩) ?_
  rintro _ _ ⟨rfl,rfl⟩ _
  cases hq:(!b && sees ts i ⟨#[45]⟩) with
  | true=>
   ((try refine qI ?_);(repeat ((first|with_reducible refine qU ?_ | simp only[Zj]);try simp (maxSteps:=9^7) +contextual only[↓ S2,S2,↓reduceIte,reduceNe,reduceEqDiff,reduceCtorEq,reduceLeDiff,reduceAdd,reduceLT,VQ,Int.reduceSub,Int.reduceToNat,List.getElem_cons_zero,List.getElem_cons_succ,Tryz.aggSl]));(try simp +contextual (disch:=omega) only[Z2,Int.reduceSub,Int.reduceToNat,List.getElem_cons_zero,List.getElem_cons_succ,Tryz.aggSl]);(with_reducible repeat' (first|intro h|refine And.intro (by omega) ?_ | refine exP (by omega) ?_ | apply And.intro)))
   ((try refine qI ?_);(repeat ((first|with_reducible refine qU ?_ | simp only[Zj]);try simp (maxSteps:=9^7) +contextual only[↓ S2,S2,↓reduceIte,reduceNe,reduceEqDiff,reduceCtorEq,reduceLeDiff,reduceAdd,reduceLT,VQ,Int.reduceSub,Int.reduceToNat,List.getElem_cons_zero,List.getElem_cons_succ,Tryz.aggSl]));(try simp +contextual (disch:=omega) only[Z2,Int.reduceSub,Int.reduceToNat,List.getElem_cons_zero,List.getElem_cons_succ,Tryz.aggSl]);(with_reducible repeat' (first|intro h|refine And.intro (by omega) ?_ | refine exP (by omega) ?_ | apply And.intro)))
   all_goals first|(simp[hq,q0];done)|trace_state
  | false=>
   ((try refine qI ?_);(repeat ((first|with_reducible refine qU ?_ | simp only[Zj]);try simp (maxSteps:=9^7) +contextual only[↓ S2,S2,↓reduceIte,reduceNe,reduceEqDiff,reduceCtorEq,reduceLeDiff,reduceAdd,reduceLT,VQ,]));(try simp +contextual (disch:=omega) only[Z2,]);(with_reducible repeat' (first|intro h|refine And.intro (by omega) ?_ | refine exP (by omega) ?_ | apply And.intro)))
   all_goals exact nx ⟨2,.inr (.inr (.inl ⟨rfl,q0,(by first|exact hq|rfl)⟩))⟩ (by dsimp only;decide) (by simp[E2]) rfl
 ·((try refine qI ?_);(repeat ((first|with_reducible refine qU ?_ | simp only[Zj]);try simp (maxSteps:=9^7) +contextual only[↓ S2,S2,↓reduceIte,reduceNe,reduceEqDiff,reduceCtorEq,reduceLeDiff,reduceAdd,reduceLT,VQ,Int.reduceSub,Int.reduceToNat,List.getElem_cons_zero,List.getElem_cons_succ,Tryz.aggSl]));(try simp +contextual (disch:=omega) only[Z2,Int.reduceSub,Int.reduceToNat,List.getElem_cons_zero,List.getElem_cons_succ,Tryz.aggSl]);(with_reducible repeat' (first|intro h|refine And.intro (by omega) ?_ | refine exP (by omega) ?_ | apply And.intro)))
  ((try refine qI ?_);(repeat ((first|with_reducible refine qU ?_ | simp only[Zj]);try simp (maxSteps:=9^7) +contextual only[↓ S2,S2,↓reduceIte,reduceNe,reduceEqDiff,reduceCtorEq,reduceLeDiff,reduceAdd,reduceLT,VQ,Int.reduceSub,Int.reduceToNat,List.getElem_cons_zero,List.getElem_cons_succ,Tryz.aggSl]));(try simp +contextual (disch:=omega) only[Z2,Int.reduceSub,Int.reduceToNat,List.getElem_cons_zero,List.getElem_cons_succ,Tryz.aggSl]);(with_reducible repeat' (first|intro h|refine And.intro (by omega) ?_ | refine exP (by omega) ?_ | apply And.intro)))
  all_goals try exact oF
  refine callS.of (hs ⟨#[124]⟩) ?_
  rintro _ _ ⟨rfl,rfl⟩ _
  cases hq:(!b && sees ts i ⟨#[124]⟩) with
  | true=>
   ((try refine qI ?_);(repeat ((first|with_reducible refine qU ?_ | simp only[Zj]);try simp (maxSteps:=9^7) +contextual only[↓ S2,S2,↓reduceIte,reduceNe,reduceEqDiff,reduceCtorEq,reduceLeDiff,reduceAdd,reduceLT,VQ,Int.reduceSub,Int.reduceToNat,List.getElem_cons_zero,List.getElem_cons_succ,Tryz.aggSl]));(try simp +contextual (disch:=omega) only[Z2,Int.reduceSub,Int.reduceToNat,List.getElem_cons_zero,List.getElem_cons_succ,Tryz.aggSl]);(with_reducible repeat' (first|intro h|refine And.intro (by omega) ?_ | refine exP (by omega) ?_ | apply And.intro)))
   ((try refine qI ?_);(repeat ((first|with_reducible refine qU ?_ | simp only[Zj]);try simp (maxSteps:=9^7) +contextual only[↓ S2,S2,↓reduceIte,reduceNe,reduceEqDiff,reduceCtorEq,reduceLeDiff,reduceAdd,reduceLT,VQ,Int.reduceSub,Int.reduceToNat,List.getElem_cons_zero,List.getElem_cons_succ,Tryz.aggSl]));(try simp +contextual (disch:=omega) only[Z2,Int.reduceSub,Int.reduceToNat,List.getElem_cons_zero,List.getElem_cons_succ,Tryz.aggSl]);(with_reducible repeat' (first|intro h|refine And.intro (by omega) ?_ | refine exP (by omega) ?_ | apply And.intro)))
   all_goals first|(simp[hq,q0,q1];done)|trace_state
  | false=>
   ((try refine qI ?_);(repeat ((first|with_reducible refine qU ?_ | simp only[Zj]);try simp (maxSteps:=9^7) +contextual only[↓ S2,S2,↓reduceIte,reduceNe,reduceEqDiff,reduceCtorEq,reduceLeDiff,reduceAdd,reduceLT,VQ,]));(try simp +contextual (disch:=omega) only[Z2,]);(with_reducible repeat' (first|intro h|refine And.intro (by omega) ?_ | refine exP (by omega) ?_ | apply And.intro)))
   all_goals exact nx ⟨3,.inr (.inr (.inr (.inl ⟨rfl,q0,q1,(by first|exact hq|rfl)⟩)))⟩ (by dsimp only;decide) (by simp[E2]) rfl
 ·((try refine qI ?_);(repeat ((first|with_reducible refine qU ?_ | simp only[Zj]);try simp (maxSteps:=9^7) +contextual only[↓ S2,S2,↓reduceIte,reduceNe,reduceEqDiff,reduceCtorEq,reduceLeDiff,reduceAdd,reduceLT,VQ,Int.reduceSub,Int.reduceToNat,List.getElem_cons_zero,List.getElem_cons_succ,Tryz.aggSl]));(try simp +contextual (disch:=omega) only[Z2,Int.reduceSub,Int.reduceToNat,List.getElem_cons_zero,List.getElem_cons_succ,Tryz.aggSl]);(with_reducible repeat' (first|intro h|refine And.intro (by omega) ?_ | refine exP (by omega) ?_ | apply And.intro)))
  ((try refine qI ?_);(repeat ((first|with_reducible refine qU ?_ | simp only[Zj]);try simp (maxSteps:=9^7) +contextual only[↓ S2,S2,↓reduceIte,reduceNe,reduceEqDiff,reduceCtorEq,reduceLeDiff,reduceAdd,reduceLT,VQ,Int.reduceSub,Int.reduceToNat,List.getElem_cons_zero,List.getElem_cons_succ,Tryz.aggSl]));(try simp +contextual (disch:=omega) only[Z2,Int.reduceSub,Int.reduceToNat,List.getElem_cons_zero,List.getElem_cons_succ,Tryz.aggSl]);(with_reducible repeat' (first|intro h|refine And.intro (by omega) ?_ | refine exP (by omega) ?_ | apply And.intro)))
  all_goals try exact oF
  refine callS.of (hs ⟨#[92]⟩) ?_
  rintro _ _ ⟨rfl,rfl⟩ _
  cases hq:(!b && sees ts i ⟨#[92]⟩) with
  | true=>
   ((try refine qI ?_);(repeat ((first|with_reducible refine qU ?_ | simp only[Zj]);try simp (maxSteps:=9^7) +contextual only[↓ S2,S2,↓reduceIte,reduceNe,reduceEqDiff,reduceCtorEq,reduceLeDiff,reduceAdd,reduceLT,VQ,Int.reduceSub,Int.reduceToNat,List.getElem_cons_zero,List.getElem_cons_succ,Tryz.aggSl]));(try simp +contextual (disch:=omega) only[Z2,Int.reduceSub,Int.reduceToNat,List.getElem_cons_zero,List.getElem_cons_succ,Tryz.aggSl]);(with_reducible repeat' (first|intro h|refine And.intro (by omega) ?_ | refine exP (by omega) ?_ | apply And.intro)))
   ((try refine qI ?_);(repeat ((first|with_reducible refine qU ?_ | simp only[Zj]);try simp (maxSteps:=9^7) +contextual only[↓ S2,S2,↓reduceIte,reduceNe,reduceEqDiff,reduceCtorEq,reduceLeDiff,reduceAdd,reduceLT,VQ,Int.reduceSub,Int.reduceToNat,List.getElem_cons_zero,List.getElem_cons_succ,Tryz.aggSl]));(try simp +contextual (disch:=omega) only[Z2,Int.reduceSub,Int.reduceToNat,List.getElem_cons_zero,List.getElem_cons_succ,Tryz.aggSl]);(with_reducible repeat' (first|intro h|refine And.intro (by omega) ?_ | refine exP (by omega) ?_ | apply And.intro)))
   all_goals first|(simp[hq,q0,q1,q2];done)|trace_state
  | false=>
   ((try refine qI ?_);(repeat ((first|with_reducible refine qU ?_ | simp only[Zj]);try simp (maxSteps:=9^7) +contextual only[↓ S2,S2,↓reduceIte,reduceNe,reduceEqDiff,reduceCtorEq,reduceLeDiff,reduceAdd,reduceLT,VQ,]));(try simp +contextual (disch:=omega) only[Z2,]);(with_reducible repeat' (first|intro h|refine And.intro (by omega) ?_ | refine exP (by omega) ?_ | apply And.intro)))
   all_goals exact nx ⟨4,.inr (.inr (.inr (.inr (⟨rfl,q0,q1,q2,(by first|exact hq|rfl)⟩))))⟩ (by dsimp only;decide) (by simp[E2]) rfl
 ·((try refine qI ?_);(repeat ((first|with_reducible refine qU ?_ | simp only[Zj]);try simp (maxSteps:=9^7) +contextual only[↓ S2,S2,↓reduceIte,reduceNe,reduceEqDiff,reduceCtorEq,reduceLeDiff,reduceAdd,reduceLT,VQ,]));(try simp +contextual (disch:=omega) only[Z2,]);(with_reducible repeat' (first|intro h|refine And.intro (by omega) ?_ | refine exP (by omega) ?_ | apply And.intro)))
  all_goals first|(simp[q0,q1,q2,q3];done)|trace_state
theorem Tryz.sop3 {ts:List Go.Gh.Tok} {nE:Int} (hK:OkR ts nE) (i:Nat) (hi:i≤ts.length) (b:Bool) (rp:Nat) (H:GH) (hr:Z6 H rp=some (4,[SpG ts nE i b])) :
 Gc 188 [.ptr rp 4 0 0,I 3] H (fun g H'=>g=I (opB ts b i 3)∧H'=H):=by
 have hs:∀w,Gc 155 [.ptr rp 4 0 0,T w] H (fun g H'=>g=B (!b && sees ts i w)∧H'=H):=fun w=>w155 hK i hi b w rp H hr
 rw[Tryz.opB_S]
 refine Z8 mxd i188 rfl (by simp) ?_;simp (maxSteps:=9^7) only[↓ S2,S2,Y8,↓reduceIte,reduceNe,reduceEqDiff,reduceCtorEq,reduceLeDiff,reduceAdd,reduceLT]
 ((try refine qI ?_);(repeat ((first|with_reducible refine qU ?_ | simp only[Zj]);try simp (maxSteps:=9^7) +contextual only[↓ S2,S2,↓reduceIte,reduceNe,reduceEqDiff,reduceCtorEq,reduceLeDiff,reduceAdd,reduceLT,VQ,Int.reduceSub,Int.reduceToNat,List.getElem_cons_zero,List.getElem_cons_succ,Tryz.aggSl]));(try simp +contextual (disch:=omega) only[Z2,Int.reduceSub,Int.reduceToNat,List.getElem_cons_zero,List.getElem_cons_succ,Tryz.aggSl]);(with_reducible repeat' (first|intro h|refine And.intro (by omega) ?_ | refine exP (by omega) ?_ | apply And.intro)))
 ((try refine qI ?_);(repeat ((first|with_reducible refine qU ?_ | simp only[Zj]);try simp (maxSteps:=9^7) +contextual only[↓ S2,S2,↓reduceIte,reduceNe,reduceEqDiff,reduceCtorEq,reduceLeDiff,reduceAdd,reduceLT,VQ,Int.reduceSub,Int.reduceToNat,List.getElem_cons_zero,List.getElem_cons_succ,Tryz.aggSl]));(try simp +contextual (disch:=omega) only[Z2,Int.reduceSub,Int.reduceToNat,List.getElem_cons_zero,List.getElem_cons_succ,Tryz.aggSl]);(with_reducible repeat' (first|intro h|refine And.intro (by omega) ?_ | refine exP (by omega) ?_ | apply And.intro)))
 ((try refine qI ?_);(repeat ((first|with_reducible refine qU ?_ | simp only[Zj]);try simp (maxSteps:=9^7) +contextual only[↓ S2,S2,↓reduceIte,reduceNe,reduceEqDiff,reduceCtorEq,reduceLeDiff,reduceAdd,reduceLT,VQ,Int.reduceSub,Int.reduceToNat,List.getElem_cons_zero,List.getElem_cons_succ,Tryz.aggSl]));(try simp +contextual (disch:=omega) only[Z2,Int.reduceSub,Int.reduceToNat,List.getElem_cons_zero,List.getElem_cons_succ,Tryz.aggSl]);(with_reducible repeat' (first|intro h|refine And.intro (by omega) ?_ | refine exP (by omega) ?_ | apply And.intro)))
 refine Zk mxd (ι:={ k:Int // k=0∨(k=1∧(!b && sees ts i ⟨#[42]⟩)=false)∨(k=2∧(!b && sees ts i ⟨#[42]⟩)=false∧(!b && sees ts i ⟨#[38]⟩)=false) }) (fun k=>[(0,.ptr rp 4 0 0),(4,I 0),(5,.sl 1 [T ⟨#[42]⟩,T ⟨#[38]⟩]),(6,.sl 1 [I 3,I 7]),(7,I k.1)]) (fun _ => H) (fun k=>(2-k.1).toNat) ⟨0,.inl rfl⟩ (by simp[E2]) rfl ?_
 rintro ⟨k,rfl|⟨rfl,q0⟩|⟨rfl,q0,q1⟩⟩
 ·((try refine qI ?_);(repeat ((first|with_reducible refine qU ?_ | simp only[Zj]);try simp (maxSteps:=9^7) +contextual only[↓ S2,S2,↓reduceIte,reduceNe,reduceEqDiff,reduceCtorEq,reduceLeDiff,reduceAdd,reduceLT,VQ,Int.reduceSub,Int.reduceToNat,List.getElem_cons_zero,List.getElem_cons_succ,Tryz.aggSl]));(try simp +contextual (disch:=omega) only[Z2,Int.reduceSub,Int.reduceToNat,List.getElem_cons_zero,List.getElem_cons_succ,Tryz.aggSl]);(with_reducible repeat' (first|intro h|refine And.intro (by omega) ?_ | refine exP (by omega) ?_ | apply And.intro)))
  ((try refine qI ?_);(repeat ((first|with_reducible refine qU ?_ | simp only[Zj]);try simp (maxSteps:=9^7) +contextual only[↓ S2,S2,↓reduceIte,reduceNe,reduceEqDiff,reduceCtorEq,reduceLeDiff,reduceAdd,reduceLT,VQ,Int.reduceSub,Int.reduceToNat,List.getElem_cons_zero,List.getElem_cons_succ,Tryz.aggSl]));(try simp +contextual (disch:=omega) only[Z2,Int.reduceSub,Int.reduceToNat,List.getElem_cons_zero,List.getElem_cons_succ,Tryz.aggSl]);(with_reducible repeat' (first|intro h|refine And.intro (by omega) ?_ | refine exP (by omega) ?_ | apply And.intro)))
  all_goals try exact oF
  refine callS.of (hs ⟨#[42]⟩) ?_
  rintro _ _ ⟨rfl,rfl⟩ _
  cases hq:(!b && sees ts i ⟨#[42]⟩) with
  | true=>
   ((try refine qI ?_);(repeat ((first|with_reducible refine qU ?_ | simp only[Zj]);try simp (maxSteps:=9^7) +contextual only[↓ S2,S2,↓reduceIte,reduceNe,reduceEqDiff,reduceCtorEq,reduceLeDiff,reduceAdd,reduceLT,VQ,Int.reduceSub,Int.reduceToNat,List.getElem_cons_zero,List.getElem_cons_succ,Tryz.aggSl]));(try simp +contextual (disch:=omega) only[Z2,Int.reduceSub,Int.reduceToNat,List.getElem_cons_zero,List.getElem_cons_succ,Tryz.aggSl]);(with_reducible repeat' (first|intro h|refine And.intro (by omega) ?_ | refine exP (by omega) ?_ | apply And.intro)))
   ((try refine qI ?_);(repeat ((first|with_reducible refine qU ?_ | simp only[Zj]);try simp (maxSteps:=9^7) +contextual only[↓ S2,S2,↓reduceIte,reduceNe,reduceEqDiff,reduceCtorEq,reduceLeDiff,reduceAdd,reduceLT,VQ,Int.reduceSub,Int.reduceToNat,List.getElem_cons_zero,List.getElem_cons_succ,Tryz.aggSl]));(try simp +contextual (disch:=omega) only[Z2,Int.reduceSub,Int.reduceToNat,List.getElem_cons_zero,List.getElem_cons_succ,Tryz.aggSl]);(with_reducible repeat' (first|intro h|refine And.intro (by omega) ?_ | refine exP (by omega) ?_ | apply And.intro)))
   all_goals first|(simp[hq];done)|trace_state
  | false=>
   ((try refine qI ?_);(repeat ((first|with_reducible refine qU ?_ | simp only[Zj]);try simp (maxSteps:=9^7) +contextual only[↓ S2,S2,↓reduceIte,reduceNe,reduceEqDiff,reduceCtorEq,reduceLeDiff,reduceAdd,reduceLT,VQ,]));(try simp +contextual (disch:=omega) only[Z2,]);(with_reducible repeat' (first|intro h|refine And.intro (by omega) ?_ | refine exP (by omega) ?_ | apply And.intro)))
   all_goals exact nx ⟨1,.inr (.inl ⟨rfl,(by first|exact hq|rfl)⟩)⟩ (by dsimp only;decide) (by simp[E2]) rfl
 ·((try refine qI ?_);(repeat ((first|with_reducible refine qU ?_ | simp only[Zj]);try simp (maxSteps:=9^7) +contextual only[↓ S2,S2,↓reduceIte,reduceNe,reduceEqDiff,reduceCtorEq,reduceLeDiff,reduceAdd,reduceLT,VQ,Int.reduceSub,Int.reduceToNat,List.getElem_cons_zero,List.getElem_cons_succ,Tryz.aggSl]));(try simp +contextual (disch:=omega) only[Z2,Int.reduceSub,Int.reduceToNat,List.getElem_cons_zero,List.getElem_cons_succ,Tryz.aggSl]);(with_reducible repeat' (first|intro h|refine And.intro (by omega) ?_ | refine exP (by omega) ?_ | apply And.intro)))
  ((try refine qI ?_);(repeat ((first|with_reducible refine qU ?_ | simp only[Zj]);try simp (maxSteps:=9^7) +contextual only[↓ S2,S2,↓reduceIte,reduceNe,reduceEqDiff,reduceCtorEq,reduceLeDiff,reduceAdd,reduceLT,VQ,Int.reduceSub,Int.reduceToNat,List.getElem_cons_zero,List.getElem_cons_succ,Tryz.aggSl]));(try simp +contextual (disch:=omega) only[Z2,Int.reduceSub,Int.reduceToNat,List.getElem_cons_zero,List.getElem_cons_succ,Tryz.aggSl]);(with_reducible repeat' (first|intro h|refine And.intro (by omega) ?_ | refine exP (by omega) ?_ | apply And.intro)))
  all_goals try exact oF
  refine callS.of (hs ⟨#[38]⟩) ?_
  rintro _ _ ⟨rfl,rfl⟩ _
  cases hq:(!b && sees ts i ⟨#[38]⟩) with
  | true=>
   ((try refine qI ?_);(repeat ((first|with_reducible refine qU ?_ | simp only[Zj]);try simp (maxSteps:=9^7) +contextual only[↓ S2,S2,↓reduceIte,reduceNe,reduceEqDiff,reduceCtorEq,reduceLeDiff,reduceAdd,reduceLT,VQ,Int.reduceSub,Int.reduceToNat,List.getElem_cons_zero,List.getElem_cons_succ,Tryz.aggSl]));(try simp +contextual (disch:=omega) only[Z2,Int.reduceSub,Int.reduceToNat,List.getElem_cons_zero,List.getElem_cons_succ,Tryz.aggSl]);(with_reducible repeat' (first|intro h|refine And.intro (by omega) ?_ | refine exP (by omega) ?_ | apply And.intro)))
   ((try refine qI ?_);(repeat ((first|with_reducible refine qU ?_ | simp only[Zj]);try simp (maxSteps:=9^7) +contextual only[↓ S2,S2,↓reduceIte,reduceNe,reduceEqDiff,reduceCtorEq,reduceLeDiff,reduceAdd,reduceLT,VQ,Int.reduceSub,Int.reduceToNat,List.getElem_cons_zero,List.getElem_cons_succ,Tryz.aggSl]));(try simp +contextual (disch:=omega) only[Z2,Int.reduceSub,Int.reduceToNat,List.getElem_cons_zero,List.getElem_cons_succ,Tryz.aggSl]);(with_reducible repeat' (first|intro h|refine And.intro (by omega) ?_ | refine exP (by omega) ?_ | apply And.intro)))
   all_goals first|(simp[hq,q0];done)|trace_state
  | false=>
   ((try refine qI ?_);(repeat ((first|with_reducible refine qU ?_ | simp only[Zj]);try simp (maxSteps:=9^7) +contextual only[↓ S2,S2,↓reduceIte,reduceNe,reduceEqDiff,reduceCtorEq,reduceLeDiff,reduceAdd,reduceLT,VQ,]));(try simp +contextual (disch:=omega) only[Z2,]);(with_reducible repeat' (first|intro h|refine And.intro (by omega) ?_ | refine exP (by omega) ?_ | apply And.intro)))
   all_goals exact nx ⟨2,.inr (.inr (⟨rfl,q0,(by first|exact hq|rfl)⟩))⟩ (by dsimp only;decide) (by simp[E2]) rfl
 ·((try refine qI ?_);(repeat ((first|with_reducible refine qU ?_ | simp only[Zj]);try simp (maxSteps:=9^7) +contextual only[↓ S2,S2,↓reduceIte,reduceNe,reduceEqDiff,reduceCtorEq,reduceLeDiff,reduceAdd,reduceLT,VQ,]));(try simp +contextual (disch:=omega) only[Z2,]);(with_reducible repeat' (first|intro h|refine And.intro (by omega) ?_ | refine exP (by omega) ?_ | apply And.intro)))
  all_goals first|(simp[q0,q1];done)|trace_state
theorem w188 {ts:List Go.Gh.Tok} {nE:Int} (hK:OkR ts nE) (i:Nat) (hi:i≤ts.length) (b:Bool) (lv:Nat) (h1:1≤lv) (h3:lv≤3) (rp:Nat) (H:GH) (hr:Z6 H rp=some (4,[SpG ts nE i b])) :
 Gc 188 [.ptr rp 4 0 0,I lv] H (fun g H'=>g=I (opB ts b i lv)∧H'=H):=by
 obtain rfl|rfl|rfl:lv=1∨lv=2∨lv=3:=by omega
 ·exact Tryz.sop1 hK i hi b rp H hr
 ·exact Tryz.sop2 hK i hi b rp H hr
 ·exact Tryz.sop3 hK i hi b rp H hr
theorem Tryz.slev (lv:Nat) (h1:1≤lv) (h3:lv≤3) {ts:List Go.Gh.Tok} {nE:Int} (hK:OkR ts nE) (X:Nat→PR Exp) (i0:Nat) (hXb:∀i,BdA ts i (X i))
 (hX:∀(i:Nat) (b:Bool) (rp:Nat) (H:GH),i0≤i→i≤ts.length→Z6 H rp=some (4,[SpG ts nE i b])→Gc 156 [.ptr rp 4 0 0,I ((lv:Int)+1)] H (EP (SpG ts nE) (frm b X i) rp H))
 (i:Nat) (b:Bool) (rp:Nat) (H:GH) (h0i:i0≤i) (hi:i≤ts.length) (hr:Z6 H rp=some (4,[SpG ts nE i b])):Gc 156 [.ptr rp 4 0 0,I lv] H (EP (SpG ts nE) (frm b (lvP ts X lv) i) rp H):=by
 have hlv3:¬3<(lv:Int):=by omega
 have hl:=hK.len
 generalize hR:frm b (lvP ts X lv) i=R
 have h0:Gc 156 [.ptr rp 4 0 0,I lv] H (fun g H'=>∃e r r5 u,r≠r5∧g=EO r e∧H'=(r,7,e.args.map ExO)::(r5,7,u)::Z1 H rp [SpG ts nE R.at R.err]∧∀a j,R = .ok a j→e=a):=by
  refine Z8 mxd i156 rfl (by simp) ?_;refine X0 ?_
  (refine V1 hlv3 ?_;with_reducible repeat' intro h)
  all_goals try exact oF
  refine callS.of (hX i b rp H h0i hi hr) ?_
  rintro g H' ⟨e,r,rfl,rfl,he⟩ hn
  have hP:(frm b X i).at ≤ ts.length:=Zw (hXb i) hi
  have hP0:i0≤(frm b X i).at := Nat.le_trans h0i (X5 (hXb i) hi)
  generalize hPP:frm b X i=P at *
  have hr1:=ZK (fs:=[SpG ts nE P.at P.err]) hr
  have hrp:=ZN hn hr1
  replace hn:=Y3 hn
  (replace hn:=hn;simp only[VN] at hn)
  (refine V1 hn ?_;with_reducible repeat' intro h)
  all_goals try exact oF
  rename_i r5
  have hr5:=neA_get h.1.2.2 hr1
  have hne:=h.1.2.1
  clear hn
  have hinv:(P.err=true→R = .bad P.at)∧(P.err=false→∃F,ts.length-P.at<F∧YO ts X lv F e P.at=R):=by
   cases b with
   | true=>rw[frm_t] at hPP hR;subst hPP hR;exact ⟨fun _ => rfl,fun h=>by cases h⟩
   | false=>
    rw[Zl] at hPP hR
    unfold lvP at hR
    rw[hPP] at hR
    cases P with
    | bad k=>exact ⟨fun _ => hR.symm,fun h=>by cases h⟩
    | ok a k=>
     obtain rfl:=he a k rfl
     exact ⟨(fun h=>by cases h),fun _ => ⟨ts.length+1,by omega,hR⟩⟩
  refine wloopF mxd (ι:={ y:Nat×Bool×Exp×Nat // (i0≤y.1∧y.1≤ts.length)∧y.2.2.2≠r5∧(y.2.1=true→R = .bad y.1)∧(y.2.1=false→∃F,ts.length-y.1<F∧YO ts X lv F y.2.2.1 y.1=R) }) (fun y=>[(0,.ptr rp 4 0 0),(1,I lv),(4,.raw 7),(5,.ptr r5 7 0 0)]) (fun y=>(y.1.2.2.2,7,y.1.2.2.1.args.map ExO)::(r5,7,[EO y.1.2.2.2 y.1.2.2.1])::Z1 H rp [SpG ts nE y.1.1 y.1.2.1]) (fun y=>if y.1.2.1=true then 0 else ts.length-y.1.1+1) ⟨(P.at,P.err,e,r),⟨hP0,hP⟩,hne,hinv.1,hinv.2⟩ FE.swap (by simp[E2]) rfl ?_
  clear hinv he hPP hP hP0 hr1 hrp hne h
  rintro ⟨⟨k,c,e,r⟩,⟨hk0,hk⟩,hne,h1',h2⟩ hn
  dsimp only at hk0 hk hne h1' h2 hn ⊢
  refine Y1 mxd ?_
  have hrp:r≠rp:=ZN hn (by rw[ZX hr5];exact ZK hr)
  have hg1:Z6 ((r,7,e.args.map ExO)::(r5,7,[EO r e])::Z1 H rp [SpG ts nE k c]) rp=some (4,[SpG ts nE k c]):=by rw[ZX hrp,ZX hr5];exact ZK hr
  have hop:=w188 hK k hk c lv h1 h3 rp _ hg1
  by_cases ho:opB ts c k lv=0
  ·have hRk:R.at=k∧R.err=c∧∀a j,R = .ok a j→e=a:=by
    cases c with
    | true=>rw[h1' rfl];exact ⟨rfl,rfl,fun a j h=>by cases h⟩
    | false=>
     obtain ⟨F,hF,hs⟩:=h2 rfl
     obtain ⟨F,rfl⟩:∃G,F=G+1:=⟨F-1,by omega⟩
     simp only[YO] at hs
     rw[if_pos (show Go.Gh.opAt ts k lv=0 from ho)] at hs
     subst hs
     exact ⟨rfl,rfl,fun a j h=>by cases h;rfl⟩
   (refine V0 ?_)
   refine callS.of hop ?_
   rintro _ _ ⟨rfl,rfl⟩ _
   (refine V1 (jO ho hne) ?_)
   all_goals try exact oF
   all_goals exact ⟨e,r,r5,_,hne,rfl,by rw[hRk.1,hRk.2.1],hRk.2.2⟩
  ·obtain rfl:c=false:=by
    cases c with
    | true=>exact absurd rfl ho
    | false=>rfl
   have hlt:k<ts.length:=by
    rcases nL k ts.length with h|h
    ·exact h
    ·exact absurd (opB_ge h lv) ho
   obtain ⟨F,hF,hs⟩:=h2 rfl
   obtain ⟨F,rfl⟩:∃G,F=G+1:=⟨F-1,by omega⟩
   simp only[YO] at hs
   rw[if_neg (show ¬Go.Gh.opAt ts k lv=0 from ho)] at hs
   have hop':Go.Gh.opAt ts k lv=opB ts false k lv:=rfl
   rw[hop'] at hs
   have hbd:=hXb (k+1) (by omega)
   have hg0:=ZK (fs:=[SpG ts nE (k+1) false]) hr
   have hx:=hX (k+1) false rp ((r,7,e.args.map ExO)::(r5,7,[EO r e])::Z1 H rp [SpG ts nE (k+1) false]) (by omega) (by omega) (by rw[ZX hrp,ZX hr5];exact hg0)
   rw[Zl] at hx
   generalize hXX:X (k+1)=Q at *
   generalize opB ts false k lv=o at *
   have hne':r5≠r:=Ne.symm hne
   have hgs:Z6 (Z1 H rp [SpG ts nE k false]) rp=some (4,[SpG ts nE k false]):=ZK hr
   (refine V0 ?_)
   refine callS.of hop ?_
   rintro _ _ ⟨rfl,rfl⟩ _
   (refine V1 (jO ho (jO hne (jO hne' (jO hrp (jO hr5 (jO hgs (jO @YZ (jO @YA (jO @YB @Z4))))))))) ?_)
   all_goals try exact oF
   rw[show Z1 H rp [.agg [TkS ts,I ((k:Int)+1),I nE,I (-1)]]=Z1 H rp [SpG ts nE (k+1) false] from rfl]
   refine callK.of hx ?_
   rintro g H' ⟨e2,q,rfl,rfl,he2⟩ hq
   have hqr5:q≠r5:=ZN hq (by rw[ZJ hrp,ZJ hr5,ZX hne];exact Z0)
   have hqr:q≠r:=ZN hq (by rw[ZJ hrp,ZJ hr5];exact Z0)
   rw[ZJ hrp,ZJ hr5,Z4]
   refine ⟨⟨by simp[kpt1,ZU,ZX hqr5,ZX hne,Z0],trivial⟩,?_⟩
   (refine V0 ?_)
   have hgr:Z6 ((q,7,e2.args.map ExO)::(r,7,e.args.map ExO)::(r5,7,[EO r e])::Z1 H rp [SpG ts nE Q.at Q.err]) r=some (7,e.args.map ExO):=by rw[ZX hqr];exact Z0
   refine callS.of (q98 o e e2 r q _ (Ne.symm hqr) hgr Z0) ?_
   rintro g H' ⟨r3,rfl,rfl⟩ hn3
   have hd:ZL (ZL ((q,7,e2.args.map ExO)::(r,7,e.args.map ExO)::(r5,7,[EO r e])::Z1 H rp [SpG ts nE Q.at Q.err]) r) q=(r5,7,[EO r e])::Z1 H rp [SpG ts nE Q.at Q.err]:=by simp[ZL,hqr]
   rw[hd] at hn3 ⊢
   have h35:r3≠r5:=ZN hn3 Z0
   have hg2:=ZK (fs:=[SpG ts nE Q.at Q.err]) hr
   have h3p:r3≠rp:=ZN hn3 (by rw[ZX hr5];exact hg2)
   have hQ:Q.at≤ts.length:=hbd.2
   have hQ1:k+1≤Q.at:=hbd.1
   by_cases hl1:lv=1
   ·subst hl1
    have hRk:R.at=Q.at∧R.err=Q.err∧∀a j,R = .ok a j→opE o e e2=a:=by
     subst hs
     cases Q with
     | bad j=>exact ⟨rfl,rfl,fun a j h=>by cases h⟩
     | ok a j=>
      obtain rfl:=he2 a j rfl
      exact ⟨rfl,rfl,fun a j h=>by cases h;rfl⟩
    have e1:(((1:Nat):Int)=1)=True:=eq_true rfl
    (refine V1 (jO h35 e1) ?_)
    all_goals try exact oF
    all_goals exact ⟨opE o e e2,r3,r5,_,h35,rfl,by rw[hRk.1,hRk.2.1],hRk.2.2⟩
   ·have hn1:Q.err=true→R = .bad Q.at:=fun h=>by
     cases Q with
     | bad j=>exact hs.symm
     | ok a j=>cases h
    have hn2:Q.err=false→∃F,ts.length-Q.at<F∧YO ts X lv F (opE o e e2) Q.at=R:=fun h=>by
     cases Q with
     | bad j=>cases h
     | ok a j=>
      obtain rfl:=he2 a j rfl
      simp only[PR.bind] at hs
      rw[if_neg hl1] at hs
      have hQ1:k+1≤j:=hQ1
      exact ⟨F,by show ts.length-j<F;omega,hs⟩
    have hlv1:((lv:Int)=1)=False:=eq_false (by omega)
    (refine V1 (jO h35 hlv1) ?_)
    all_goals try exact oF
    exact nx ⟨(Q.at,Q.err,opE o e e2,r3),⟨by show i0≤Q.at;omega,hQ⟩,h35,hn1,hn2⟩ (by dsimp only;simp only[Bool.false_eq_true,if_false];split<;>omega) (by simp[E2]) rfl
 refine h0.fr ?_
 rintro g H' ⟨e,r,r5,u,hne,rfl,rfl,he⟩
 exact ⟨_,_,FR.perm (H:=[(r,7,e.args.map ExO),(r5,7,u)]) (L:=[(r,7,e.args.map ExO)]) (by simp[subH,Z6,names]),e,r,rfl,rfl,he⟩
theorem Tryz.slev4 {ts:List Go.Gh.Tok} {nE:Int} (X:Nat→PR Exp) (i:Nat) (b:Bool) (rp:Nat) (H:GH)
 (hA:Gc 187 [.ptr rp 4 0 0] H (EP (SpG ts nE) (frm b X i) rp H)):Gc 156 [.ptr rp 4 0 0,I 4] H (EP (SpG ts nE) (frm b X i) rp H):=by
 have e34:((3:Int)<4)=True:=eq_true (by decide)
 refine Z8 mxd i156 rfl (by simp) ?_;refine X0 ?_
 (refine R1 (jO e34 @decide_true) ?_)
 refine callS.of hA ?_
 rintro _ _ ⟨e,r,rfl,rfl,he⟩ hn
 (refine R0 ?_)
 exact ⟨e,r,rfl,rfl,he⟩
theorem Tryz.sexprI {ts:List Go.Gh.Tok} {nE:Int} (hK:OkR ts nE) (i:Nat) (hi:i≤ts.length) (hs:sees ts i wIf=true)
 (hE:∀(j:Nat) (b:Bool) (rp:Nat) (H:GH),i<j→j≤ts.length→Z6 H rp=some (4,[SpG ts nE j b])→Gc 123 [.ptr rp 4 0 0] H (EP (SpG ts nE) (frm b (rE ts) j) rp H))
 (rp:Nat) (H:GH) (hr:Z6 H rp=some (4,[SpG ts nE i false])):Gc 123 [.ptr rp 4 0 0] H (EP (SpG ts nE) (rE ts i) rp H):=by
 have h2:∀fs,Z6 (Z1 H rp fs) rp=some (4,fs):=fun fs=>ZK hr
 have hi1:i+1≤ts.length:=sees_lt hs
 generalize hR:rE ts i=R
 rw[rE_eq hi] at hR
 unfold Yg at hR
 rw[if_pos hs] at hR
 refine EP.of ?_
 refine Z8 mxd i123 rfl (by simp) ?_;refine X0 ?_
 (refine R0 ?_)
 have hs0:=w155 hK i hi false wIf rp H hr
 rw[hs] at hs0
 have hl:=hK.len
 refine callS.of hs0 ?_
 rintro _ H9 ⟨rfl,e9⟩ _
 rw[e9]
 (refine R1 (jO hr (jO @YZ (jO @YA (jO @YB (jO @Bool.not_false (jO @Bool.true_and @Bool.not_true)))))) ?_)
 rw[show Z1 H rp [.agg [TkS ts,I ((i:Int)+1),I nE,I (-1)]]=Z1 H rp [SpG ts nE (i+1) false] from rfl]
 have b1:(frm false (rE ts) (i+1)).at ≤ ts.length:=Zw (Yb _) hi1
 have l1:i<(frm false (rE ts) (i+1)).at := X5 (Yb _) hi1
 refine callS.of (hE (i+1) false rp _ (Nat.lt_succ_self i) hi1 (h2 _)) ?_
 rintro _ _ ⟨ea,ra,rfl,rfl,hea⟩ hna
 rw[Z4] at hna ⊢
 have hrap:ra≠rp:=ZN hna (h2 _)
 generalize hP1:frm false (rE ts) (i+1)=P1 at *
 (refine R1 hrap ?_)
 have b2:(frm P1.err (fun i=>ZW ts i wThen) P1.at).at ≤ ts.length:=Zw (ZF _ _) b1
 have l2:i<(frm P1.err (fun i=>ZW ts i wThen) P1.at).at := Nat.lt_of_lt_of_le l1 (X5 (ZF _ _) b1)
 refine callS.of (w157 hK P1.at b1 P1.err wThen rp _ (by rw[ZX hrap];exact h2 _)) ?_
 rintro _ _ rfl _
 rw[ZJ hrap,Z4]
 generalize hP2:frm P1.err (fun i=>ZW ts i wThen) P1.at=P2 at *
 (refine R1 hrap ?_)
 have b3:(frm P2.err (rE ts) P2.at).at ≤ ts.length:=Zw (Yb _) b2
 have l3:i<(frm P2.err (rE ts) P2.at).at := Nat.lt_of_lt_of_le l2 (X5 (Yb _) b2)
 refine callS.of (hE P2.at P2.err rp _ l2 b2 (by rw[ZX hrap];exact h2 _)) ?_
 rintro _ _ ⟨eb,rb,rfl,rfl,heb⟩ hnb
 rw[ZJ hrap,Z4] at hnb ⊢
 have hrba:rb≠ra:=ZN hnb Z0
 have hrbp:rb≠rp:=ZN hnb (by rw[ZX hrap];exact h2 _)
 generalize hP3:frm P2.err (rE ts) P2.at=P3 at *
 (refine R1 (jO hrap (jO hrbp hrba)) ?_)
 have b4:(frm P3.err (fun i=>ZW ts i wElse) P3.at).at ≤ ts.length:=Zw (ZF _ _) b3
 have l4:i<(frm P3.err (fun i=>ZW ts i wElse) P3.at).at := Nat.lt_of_lt_of_le l3 (X5 (ZF _ _) b3)
 refine callS.of (w157 hK P3.at b3 P3.err wElse rp _ (by rw[ZX hrbp,ZX hrap];exact h2 _)) ?_
 rintro _ _ rfl _
 rw[ZJ hrbp,ZJ hrap,Z4]
 generalize hP4:frm P3.err (fun i=>ZW ts i wElse) P3.at=P4 at *
 (refine R1 (jO hrap (jO hrbp hrba)) ?_)
 refine callS.of (hE P4.at P4.err rp _ l4 b4 (by rw[ZX hrbp,ZX hrap];exact h2 _)) ?_
 rintro _ _ ⟨ec,rc,rfl,rfl,hec⟩ hnc
 rw[ZJ hrbp,ZJ hrap,Z4] at hnc ⊢
 have hrcb:rc≠rb:=ZN hnc Z0
 have hrca:rc≠ra:=ZN hnc (by rw[ZX hrba];exact Z0)
 have hrcp:rc≠rp:=ZN hnc (by rw[ZX hrbp,ZX hrap];exact h2 _)
 generalize hP5:frm P4.err (rE ts) P4.at=P5 at *
 replace hnc:=Y3 hnc
 (replace hnc:=hnc;simp only[VN] at hnc)
 (refine R1 (jO hrap (jO hrbp (jO hrba (jO hrca (jO hrcb (jO hrcp hnc)))))) ?_;with_reducible repeat' intro h)
 rename_i q
 have q1:q≠ra:=(by intro hh;subst hh;simp[names] at h)
 have q2:q≠rb:=(by intro hh;subst hh;simp[names] at h)
 have q3:q≠rc:=(by intro hh;subst hh;simp[names] at h)
 rw[Zl] at hP1
 rw[Yy] at hP2 hP3 hP4 hP5
 have hS:StP P5 R:=by
  subst hR hP5 hP4 hP3 hP2 hP1
  simp only[bind_as]
  exact StP.bind _ fun _ j=>StP.bind _ fun _ j=>StP.bind _ fun _ j=>StP.bind _ fun _ j=>StP.last _ _
 refine .inr (.inr (.inr ⟨ea,eb,ec,ra,rb,rc,q,q1,q2,q3,hrca,hrcb,hrba,rfl,by rw[hS.1,hS.2],?_⟩))
 subst hR
 intro x j hx
 obtain ⟨a,m,g1,hx⟩:=ZV hx
 obtain ⟨u,k,g2,hx⟩:=ZV hx
 obtain ⟨b,p,g3,hx⟩:=ZV hx
 obtain ⟨u2,o,g4,hx⟩:=ZV hx
 obtain ⟨c,o2,g5,hx⟩:=ZV hx
 have f1:P1 = .ok a m:=by rw[←hP1];exact g1
 have f2:P2 = .ok u k:=by rw[←hP2,f1];exact g2
 have f3:P3 = .ok b p:=by rw[←hP3,f2];exact g3
 have f4:P4 = .ok u2 o:=by rw[←hP4,f3];exact g4
 have f5:P5 = .ok c o2:=by rw[←hP5,f4];exact g5
 cases hx
 rw[hea _ _ f1,heb _ _ f3,hec _ _ f5]
theorem Tryz.sbothS {ts:List Go.Gh.Tok} {nE:Int} (hK:OkR ts nE):∀(d i:Nat),ts.length-i≤d→i≤ts.length →
 (∀(b:Bool) (rp:Nat) (H:GH),Z6 H rp=some (4,[SpG ts nE i b])→Gc 123 [.ptr rp 4 0 0] H (EP (SpG ts nE) (frm b (rE ts) i) rp H)) ∧
 (∀(b:Bool) (rp:Nat) (H:GH),Z6 H rp=some (4,[SpG ts nE i b])→Gc 187 [.ptr rp 4 0 0] H (EP (SpG ts nE) (frm b (rA ts) i) rp H)):=by
 have key:∀(i:Nat),i≤ts.length →
  (∀(j:Nat),i<j→j≤ts.length→(∀(b:Bool) (rp:Nat) (H:GH),Z6 H rp=some (4,[SpG ts nE j b])→Gc 123 [.ptr rp 4 0 0] H (EP (SpG ts nE) (frm b (rE ts) j) rp H)) ∧
   (∀(b:Bool) (rp:Nat) (H:GH),Z6 H rp=some (4,[SpG ts nE j b])→Gc 187 [.ptr rp 4 0 0] H (EP (SpG ts nE) (frm b (rA ts) j) rp H))) →
  (∀(b:Bool) (rp:Nat) (H:GH),Z6 H rp=some (4,[SpG ts nE i b])→Gc 123 [.ptr rp 4 0 0] H (EP (SpG ts nE) (frm b (rE ts) i) rp H)) ∧
  (∀(b:Bool) (rp:Nat) (H:GH),Z6 H rp=some (4,[SpG ts nE i b])→Gc 187 [.ptr rp 4 0 0] H (EP (SpG ts nE) (frm b (rA ts) i) rp H)):=by
  intro i hi ih
  have hE:∀(j:Nat) (b:Bool) (rp:Nat) (H:GH),i<j→j≤ts.length→Z6 H rp=some (4,[SpG ts nE j b])→Gc 123 [.ptr rp 4 0 0] H (EP (SpG ts nE) (frm b (rE ts) j) rp H):=fun j b rp H h1 h2 h3=>(ih j h1 h2).1 b rp H h3
  have hA:∀(j:Nat) (b:Bool) (rp:Nat) (H:GH),i<j→j≤ts.length→Z6 H rp=some (4,[SpG ts nE j b])→Gc 187 [.ptr rp 4 0 0] H (EP (SpG ts nE) (frm b (rA ts) j) rp H):=fun j b rp H h1 h2 h3=>(ih j h1 h2).2 b rp H h3
  have hAt:=Tryz.satomS hK i hi hE hA
  refine ⟨?_,hAt⟩
  intro b rp H hr
  by_cases hs:b=true∨sees ts i wIf=false
  ·have hA4:∀(j:Nat) (b:Bool) (rp:Nat) (H:GH),i≤j→j≤ts.length→Z6 H rp=some (4,[SpG ts nE j b])→Gc 156 [.ptr rp 4 0 0,I 4] H (EP (SpG ts nE) (frm b (rA ts) j) rp H):=by
    intro j b rp H h1 h2 h3
    refine Tryz.slev4 _ j b rp H ?_
    rcases nL i j with h|h
    ·exact hA j b rp H h h2 h3
    ·obtain rfl:j=i:=by omega
     exact hAt b rp H h3
   have hA3:∀(j:Nat) (b:Bool) (rp:Nat) (H:GH),i≤j→j≤ts.length→Z6 H rp=some (4,[SpG ts nE j b])→Gc 156 [.ptr rp 4 0 0,I 3] H (EP (SpG ts nE) (frm b (lvP ts (rA ts) 3) j) rp H):=by
    intro j b rp H h1 h2 h3
    exact Tryz.slev 3 (by omega) (by omega) hK (rA ts) i rA_bd hA4 j b rp H h1 h2 h3
   have hA2:∀(j:Nat) (b:Bool) (rp:Nat) (H:GH),i≤j→j≤ts.length→Z6 H rp=some (4,[SpG ts nE j b])→Gc 156 [.ptr rp 4 0 0,I 2] H (EP (SpG ts nE) (frm b (lvP ts (lvP ts (rA ts) 3) 2) j) rp H):=by
    intro j b rp H h1 h2 h3
    exact Tryz.slev 2 (by omega) (by omega) hK (lvP ts (rA ts) 3) i (fun i=>ba_lv rA_bd 3 i) hA3 j b rp H h1 h2 h3
   have h:Gc 123 [.ptr rp 4 0 0] H (EP (SpG ts nE) (frm b (lvP ts (lvP ts (lvP ts (rA ts) 3) 2) 1) i) rp H):=by
    have hlv:=Tryz.slev 1 (by omega) (by omega) hK (lvP ts (lvP ts (rA ts) 3) 2) i (fun i=>ba_lv (fun i=>ba_lv rA_bd 3 i) 2 i) hA2 i b rp H (Nat.le_refl _) hi hr
    have hs0:=w155 hK i hi b wIf rp H hr
    have hq:(!b && sees ts i wIf)=false:=by rcases hs with rfl|h<;>simp[*]
    rw[hq] at hs0
    refine Z8 mxd i123 rfl (by simp) ?_;refine X0 ?_
    (refine R0 ?_)
    refine callS.of hs0 ?_
    rintro _ H9 ⟨rfl,e9⟩ _
    rw[e9]
    (refine R1 @Bool.not_false ?_)
    refine callS.of hlv ?_
    rintro _ _ ⟨e,r,rfl,rfl,he⟩ hn
    (refine R0 ?_)
    exact ⟨e,r,rfl,rfl,he⟩
   cases b with
   | true=>exact h
   | false=>
    have hs:sees ts i wIf=false:=hs.resolve_left (fun h=>(by cases h))
    rw[Zl,rE_eq hi]
    unfold Yg
    rw[if_neg (by rw[hs];decide)]
    exact h
  ·cases b with
   | true=>exact absurd (.inl rfl) hs
   | false=>
    have hs:sees ts i wIf=true:=by
     cases h:sees ts i wIf with
     | true=>rfl
     | false=>exact absurd (.inr h) hs
    exact Tryz.sexprI hK i hi hs hE rp H hr
 intro d
 induction d with
 | zero=>exact fun i hd hi=>key i hi fun j h1 h2=>(by omega)
 | succ d ih=>exact fun i hd hi=>key i hi fun j h1 h2=>ih j (by omega) h2
theorem o123 {ts:List Go.Gh.Tok} {nE:Int} (hK:OkR ts nE) (i:Nat) (hi:i≤ts.length) (b:Bool) (rp:Nat) (H:GH) (hr:Z6 H rp=some (4,[SpG ts nE i b])) :
 Gc 123 [.ptr rp 4 0 0] H (EP (SpG ts nE) (frm b (rE ts) i) rp H):=(Tryz.sbothS hK _ i (Nat.le_refl _) hi).1 b rp H hr
end Go.Proofs.YtcegkonjphbfaaaGreatDoor
