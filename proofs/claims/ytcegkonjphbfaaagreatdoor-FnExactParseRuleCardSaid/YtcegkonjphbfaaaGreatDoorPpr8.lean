/- The tied card of the law holds. No condition. -/
import Derived.Test.YtcegkonjphbfaaaGreatDoorPpr2
set_option maxHeartbeats 40000000
set_option maxRecDepth 20000
set_option linter.unusedSimpArgs false
set_option linter.unusedVariables false
namespace Go.Proofs.YtcegkonjphbfaaaGreatDoor
open Go.Gh
open Nat (reduceEqDiff reduceLeDiff reduceAdd reduceLT)
open Int (reduceNe)
open Go.Lib
theorem w186 (t:Go.Gh.Tok) (w:ByteArray):Pu 186 [Tk t,T w] (· = B (isW t w)):=by
 refine Z8 mxd i186 rfl (by simp) ?_;refine X0 ?_
 (refine V0 ?_;with_reducible repeat' first|intro h|apply jO)
 all_goals first|rfl|(simp_all [isW];done)
theorem w124 {ts:List Go.Gh.Tok} {n:Int} (hk:OkR ts n) (i:Nat) (hi:i≤ts.length) (b:Bool) (rp:Nat) (H:GH) (hr:Z6 H rp=some (4,[SpG ts n i b])) :
 Gc 124 [.ptr rp 4 0 0] H (fun g H'=>g=ExN (.mk 0 0 0 0 noS noS [])∧H'=Z1 H rp [SpG ts n i true]):=by
 have hl:=hk.len
 cases b with
 | true=>
  have hg:=hk.ng i
  refine Z8 mxd i124 rfl (by simp) ?_;refine X0 ?_
  (refine R1 (jO hr (jO @bdO_t (jO hg (jO @decide_true @decide_false)))) ?_;with_reducible repeat' apply jO)
  all_goals first|exact ⟨rfl,(YJ hr).symm⟩|exact (YJ hr).symm | rfl
 | false=>
  rcases nL i ts.length with h|h
  ·have hL:¬ts.length≤i:=by omega
   have e:=offT_lt (n:=n) h
   have h2:∀fs,Z6 (Z1 H rp fs) rp=some (4,fs):=fun fs=>ZK hr
   show GCalls _ _ _ _ (fun g H'=> _ ∧ H'=Z1 H rp [.agg [TkS ts,I i,I n,I (offT ts n i)]])
   rw[e]
   refine Z8 mxd i124 rfl (by simp) ?_;refine X0 ?_
   (refine R1 (jO hr (jO @YZ (jO @YA (jO @YB (jO h (jO hL (jO h2 (jO @Z4 (jO @decide_true @decide_false))))))))) ?_)
   all_goals first|exact ⟨rfl,rfl⟩|rfl|trace_state
  ·have h':¬i<ts.length:=by omega
   have h2:∀fs,Z6 (Z1 H rp fs) rp=some (4,fs):=fun fs=>ZK hr
   have e:=offT_ge (n:=n) h
   show GCalls _ _ _ _ (fun g H'=> _ ∧ H'=Z1 H rp [.agg [TkS ts,I i,I n,I (offT ts n i)]])
   rw[e]
   refine Z8 mxd i124 rfl (by simp) ?_;refine X0 ?_
   (refine R1 (jO hr (jO @YZ (jO @YA (jO @YB (jO h (jO h' (jO h2 (jO @Z4 (jO @decide_true @decide_false))))))))) ?_;with_reducible repeat' first|intro h|apply jO)
   all_goals try exact oF
   all_goals first|exact ⟨rfl,rfl⟩|rfl|trace_state
theorem w155 {ts:List Go.Gh.Tok} {n:Int} (hk:OkR ts n) (i:Nat) (hi:i≤ts.length) (b:Bool) (w:ByteArray) (rp:Nat) (H:GH) (hr:Z6 H rp=some (4,[SpG ts n i b])) :
 Gc 155 [.ptr rp 4 0 0,T w] H (fun g H'=>g=B (!b && sees ts i w)∧H'=H):=by
 have hl:=hk.len
 cases b with
 | true=>
  have hg:=hk.ng i
  refine Z8 mxd i155 rfl (by simp) ?_;refine X0 ?_
  (refine R1 (jO hr (jO @bdO_t (jO hg (jO @decide_true @decide_false)))) ?_)
  all_goals first|rfl|exact ⟨rfl,rfl⟩|trace_state
 | false=>
  rcases nL i ts.length with h|h
  ·have e:sees ts i w=isW ts[i] w:=by unfold sees;rw[decide_eq_true h,Za h];rfl
   have hL:¬ts.length≤i:=by omega
   rw[e]
   refine Z8 mxd i155 rfl (by simp) ?_;refine X0 ?_
   (refine R1 (jO hr (jO @YZ (jO @YA (jO @YB (jO h (jO hL (jO @decide_true @decide_false))))))) ?_;with_reducible repeat' intro h)
   refine callS.eq (w186 _ _) ?_
   (refine R0 ?_;with_reducible repeat' exact trivial)
   all_goals first|rfl|exact ⟨rfl,rfl⟩|trace_state
  ·have e:sees ts i w=false:=by unfold sees;rw[decide_eq_false (by omega)];rfl
   have h':¬i<ts.length:=by omega
   rw[e]
   refine Z8 mxd i155 rfl (by simp) ?_;refine X0 ?_
   (refine R1 (jO hr (jO @YZ (jO @YA (jO @YB (jO h (jO h' (jO @decide_true @decide_false))))))) ?_;with_reducible repeat' intro h)
   all_goals try exact oF
   all_goals first|rfl|exact ⟨rfl,rfl⟩|trace_state
theorem w157 {ts:List Go.Gh.Tok} {n:Int} (hk:OkR ts n) (i:Nat) (hi:i≤ts.length) (b:Bool) (w:ByteArray) (rp:Nat) (H:GH) (hr:Z6 H rp=some (4,[SpG ts n i b])) :
 Gc 157 [.ptr rp 4 0 0,T w] H (fun _ H'=>H'=Z1 H rp [SpG ts n (frm b (fun i=>ZW ts i w) i).at (frm b (fun i=>ZW ts i w) i).err]):=by
 have hl:=hk.len
 have h1:=w155 hk i hi b w rp H hr
 have h3:=w124 hk i hi b rp H hr
 have h2:∀fs,Z6 (Z1 H rp fs) rp=some (4,fs):=fun fs=>ZK hr
 cases b with
 | true=>
  refine Z8 mxd i157 rfl (by simp) ?_;refine X0 ?_
  (refine R0 ?_)
  refine callS.of h1 ?_
  rintro _ _ ⟨rfl,rfl⟩ _
  (refine R1 (jO @Bool.not_true (jO @Bool.false_and @Bool.not_false)) ?_)
  refine callS.of h3 ?_
  rintro _ _ ⟨rfl,rfl⟩ _
  (refine R1 h2 ?_)
  all_goals rfl
 | false=>
  cases hq:sees ts i w with
  | true=>
   rw[hq] at h1
   rw[Zl,take_t hq]
   refine Z8 mxd i157 rfl (by simp) ?_;refine X0 ?_
   (refine R0 ?_)
   refine callS.of h1 ?_
   rintro _ _ ⟨rfl,rfl⟩ _
   (refine R1 (jO hr (jO @Bool.not_false (jO @Bool.true_and @Bool.not_true))) ?_)
   all_goals rfl
  | false=>
   rw[hq] at h1
   rw[Zl,take_f hq]
   refine Z8 mxd i157 rfl (by simp) ?_;refine X0 ?_
   (refine R0 ?_)
   refine callS.of h1 ?_
   rintro _ _ ⟨rfl,rfl⟩ _
   (refine R1 (jO @Bool.not_false @Bool.and_false) ?_)
   refine callS.of h3 ?_
   rintro _ _ ⟨rfl,rfl⟩ _
   (refine R1 h2 ?_)
   all_goals rfl
theorem w216 (s:ByteArray):Pu 216 [T s] (· = I (funO s)):=by
 refine Z8 mxd i216 rfl (by simp) ?_;refine X0 ?_
 (refine V0 ?_;with_reducible repeat' first|intro h|apply jO)
 all_goals first|(subst_vars;rfl)|(unfold funO wMax wMin wHas wWith;simp[*];done)|trace_state
theorem v90 (n k:Int):Pu 90 [I n,I k] (· = ExN (conE n k)):=by
 refine Z8 mxd i90 rfl (by simp) ?_;refine X0 ?_
 (refine V0 ?_)
 all_goals first|rfl|trace_state
theorem w212 {ts:List Go.Gh.Tok} {n:Int} (hk:OkR ts n) (i:Nat) (hi:i<ts.length) (e:Exp) (rp:Nat) (H:GH) (hr:Z6 H rp=some (4,[SpG ts n i false])) :
 Gc 212 [.ptr rp 4 0 0,ExN e] H (fun g H'=>g=ExN e∧H'=Z1 H rp [SpG ts n (i+1) false]):=by
 have hl:=hk.len
 refine Z8 mxd i212 rfl (by simp) ?_;refine X0 ?_
 (refine R1 (jO hr @YZ) ?_)
 all_goals first|rfl|exact ⟨rfl,rfl⟩|trace_state
theorem w227 {ts:List Go.Gh.Tok} {n:Int} (hK:OkR ts n) (i:Nat) (hi:i≤ts.length) (b:Bool) (lo hh:Int) (rp:Nat) (H:GH) (hr:Z6 H rp=some (4,[SpG ts n i b])) :
 Gc 227 [.ptr rp 4 0 0,I lo,I hh] H (fun g H'=>g=I (PR.val 0 (frm b (fun i=>Zv ts i lo hh) i))∧H'=Z1 H rp [SpG ts n (frm b (fun i=>Zv ts i lo hh) i).at (frm b (fun i=>Zv ts i lo hh) i).err]):=by
 have hl:=hK.len
 have h3:=w124 hK i hi b rp H hr
 have h2:∀fs,Z6 (Z1 H rp fs) rp=some (4,fs):=fun fs=>ZK hr
 cases b with
 | true=>
  have hg:=hK.ge i
  refine Z8 mxd i227 rfl (by simp) ?_;refine X0 ?_
  (refine R1 (jO hr (jO @bdO_t (jO hg (jO @decide_true @decide_false)))) ?_)
  all_goals try exact oF
  refine callS.of h3 ?_
  rintro _ _ ⟨rfl,rfl⟩ _
  (refine R0 ?_;with_reducible repeat' apply jO)
  all_goals first|rfl|exact ⟨rfl,rfl⟩
 | false=>
  rw[Zl]
  rcases nL i ts.length with h|hG
  ·have hL:¬ts.length≤i:=by omega
   have hx1:((i:Int)+1-1)=(i:Int):=by omega
   by_cases hk:ts[i].kind = 2
   ·have hkk:((ts[i].kind = 2)=True):=eq_true hk
    by_cases hw:lo≤ts[i].num ∧ ts[i].num ≤ hh
    ·have e:Zv ts i lo hh = .ok ts[i].num (i+1):=by unfold Zv;rw[Za h,if_pos ⟨h,hk,hw⟩]
     have hwd:=decide_eq_true hw
     rw[e]
     refine Z8 mxd i227 rfl (by simp) ?_;refine X0 ?_
     (refine R1 (jO hr (jO @YZ (jO @YA (jO @YB (jO h (jO hL (jO hkk (jO @decide_true @decide_false)))))))) ?_;with_reducible repeat' intro h)
     refine callS.eq (w72 _ _ _) ?_
     (refine R1 (jO hwd (jO hr (jO h (jO h2 (jO @YZ (jO @YA (jO @YB (jO @Z4 hx1)))))))) ?_;with_reducible repeat' first|intro h|apply jO)
     all_goals first|rfl|exact ⟨rfl,rfl⟩|trace_state
    ·have e:Zv ts i lo hh = .bad i:=by unfold Zv;rw[Za h,if_neg (fun hc=>hw ⟨hc.2.2.1,hc.2.2.2⟩)]
     have hwd:=decide_eq_false hw
     rw[e]
     refine Z8 mxd i227 rfl (by simp) ?_;refine X0 ?_
     (refine R1 (jO hr (jO @YZ (jO @YA (jO @YB (jO h (jO hL (jO hkk (jO @decide_true @decide_false)))))))) ?_;with_reducible repeat' intro h)
     refine callS.eq (w72 _ _ _) ?_
     (refine R1 hwd ?_)
     all_goals try exact oF
     refine callS.of h3 ?_
     rintro _ _ ⟨rfl,rfl⟩ _
     (refine R0 ?_;with_reducible repeat' apply jO)
     all_goals first|rfl|exact ⟨rfl,rfl⟩|trace_state
   ·have e:Zv ts i lo hh = .bad i:=by unfold Zv;rw[Za h,if_neg (fun hc=>hk hc.2.1)]
    have hkk:((ts[i].kind = 2)=False):=eq_false hk
    rw[e]
    refine Z8 mxd i227 rfl (by simp) ?_;refine X0 ?_
    (refine R1 (jO hr (jO @YZ (jO @YA (jO @YB (jO h (jO hL (jO hkk (jO @decide_true @decide_false)))))))) ?_;with_reducible repeat' intro h)
    all_goals try exact oF
    refine callS.of h3 ?_
    rintro _ _ ⟨rfl,rfl⟩ _
    (refine R0 ?_;with_reducible repeat' apply jO)
    all_goals first|rfl|exact ⟨rfl,rfl⟩|trace_state
  ·have e:Zv ts i lo hh = .bad i:=by unfold Zv;rw[if_neg (fun hc=>by omega)]
   rw[e]
   refine Z8 mxd i227 rfl (by simp) ?_;refine X0 ?_
   (refine R1 (jO hr (jO @YZ (jO @YA (jO @YB (jO hG @decide_true))))) ?_;with_reducible repeat' first|intro h|refine aO ?_|apply jO)
   all_goals try exact oF
   refine callS.of h3 ?_
   rintro _ _ ⟨rfl,rfl⟩ _
   (refine R0 ?_;with_reducible repeat' apply jO)
   all_goals first|rfl|exact ⟨rfl,rfl⟩|trace_state
theorem w228 {ts:List Go.Gh.Tok} {n:Int} (hK:OkR ts n) (i:Nat) (hi:i≤ts.length) (b:Bool) (rp:Nat) (H:GH) (hr:Z6 H rp=some (4,[SpG ts n i b])) :
 Gc 228 [.ptr rp 4 0 0] H (fun g H'=>g=T (PR.val noS (frm b (ZO ts) i))∧H'=Z1 H rp [SpG ts n (frm b (ZO ts) i).at (frm b (ZO ts) i).err]):=by
 have hl:=hK.len
 have ht:=hK.txt
 have h3:=w124 hK i hi b rp H hr
 have h2:∀fs,Z6 (Z1 H rp fs) rp=some (4,fs):=fun fs=>ZK hr
 cases b with
 | true=>
  have hg:=hK.ge i
  refine Z8 mxd i228 rfl (by simp) ?_;refine X0 ?_
  (refine R1 (jO hr (jO @bdO_t (jO hg (jO @decide_true @decide_false)))) ?_)
  all_goals try exact oF
  refine callS.of h3 ?_
  rintro _ _ ⟨rfl,rfl⟩ _
  (refine R0 ?_;with_reducible repeat' apply jO)
  all_goals first|rfl|exact ⟨rfl,rfl⟩
 | false=>
  rw[Zl]
  rcases nL i ts.length with h|hG
  ·have hL:¬ts.length≤i:=by omega
   have hx1:((i:Int)+1-1)=(i:Int):=by omega
   have hsz:=(ht _ (gM h)).2
   have hm:ts[i].text.size ≤ maxLen:=by simp only[maxLen,ZE];omega
   by_cases hk:ts[i].kind = 1
   ·have hkk:((ts[i].kind = 1)=True):=eq_true hk
    by_cases hw:ZS ts[i].text = true
    ·have e:ZO ts i = .ok ts[i].text (i+1):=by unfold ZO;rw[Za h,if_pos ⟨h,hk,hw⟩]
     rw[e]
     refine Z8 mxd i228 rfl (by simp) ?_;refine X0 ?_
     (refine R1 (jO hr (jO @YZ (jO @YA (jO @YB (jO h (jO hL (jO hkk (jO @decide_true @decide_false)))))))) ?_;with_reducible repeat' intro h)
     refine callS.eq (w71 _ hm) ?_
     (refine R1 (jO hw (jO hr (jO h (jO h2 (jO @YZ (jO @YA (jO @YB (jO @Z4 hx1)))))))) ?_;with_reducible repeat' first|intro h|apply jO)
     all_goals first|rfl|exact ⟨rfl,rfl⟩|trace_state
    ·have hw':ZS ts[i].text = false:=by simpa using hw
     have e:ZO ts i = .bad i:=by unfold ZO;rw[Za h,if_neg (fun hc=>hw hc.2.2)]
     rw[e]
     refine Z8 mxd i228 rfl (by simp) ?_;refine X0 ?_
     (refine R1 (jO hr (jO @YZ (jO @YA (jO @YB (jO h (jO hL (jO hkk (jO @decide_true @decide_false)))))))) ?_;with_reducible repeat' intro h)
     refine callS.eq (w71 _ hm) ?_
     (refine R1 hw' ?_)
     all_goals try exact oF
     refine callS.of h3 ?_
     rintro _ _ ⟨rfl,rfl⟩ _
     (refine R0 ?_;with_reducible repeat' apply jO)
     all_goals first|rfl|exact ⟨rfl,rfl⟩|trace_state
   ·have e:ZO ts i = .bad i:=by unfold ZO;rw[Za h,if_neg (fun hc=>hk hc.2.1)]
    have hkk:((ts[i].kind = 1)=False):=eq_false hk
    rw[e]
    refine Z8 mxd i228 rfl (by simp) ?_;refine X0 ?_
    (refine R1 (jO hr (jO @YZ (jO @YA (jO @YB (jO h (jO hL (jO hkk (jO @decide_true @decide_false)))))))) ?_;with_reducible repeat' intro h)
    all_goals try exact oF
    refine callS.of h3 ?_
    rintro _ _ ⟨rfl,rfl⟩ _
    (refine R0 ?_;with_reducible repeat' apply jO)
    all_goals first|rfl|exact ⟨rfl,rfl⟩|trace_state
  ·have e:ZO ts i = .bad i:=by unfold ZO;rw[if_neg (fun hc=>by omega)]
   rw[e]
   refine Z8 mxd i228 rfl (by simp) ?_;refine X0 ?_
   (refine R1 (jO hr (jO @YZ (jO @YA (jO @YB (jO hG @decide_true))))) ?_;with_reducible repeat' first|intro h|refine aO ?_|apply jO)
   all_goals try exact oF
   refine callS.of h3 ?_
   rintro _ _ ⟨rfl,rfl⟩ _
   (refine R0 ?_;with_reducible repeat' apply jO)
   all_goals first|rfl|exact ⟨rfl,rfl⟩|trace_state
theorem q98 (op:Int) (a b:Exp) (ra rb:Nat) (H:GH) (hab:ra≠rb) (ha:Z6 H ra=some (7,a.args.map ExO)) (hb:Z6 H rb=some (7,b.args.map ExO)) :
 Gc 98 [I op,EO ra a,EO rb b] H (fun g H'=>∃r,g=EO r (opE op a b)∧H'=(r,7,(opE op a b).args.map ExO)::ZL (ZL H ra) rb):=by
 have h0:Gc 98 [I op,EO ra a,EO rb b] H (fun g H'=>∃r,r≠ra∧r≠rb∧g=EO r (opE op a b)∧H'=(r,7,[EO ra a,EO rb b])::H):=by
  refine Z8 mxd i98 rfl (by simp) ?_;refine X0 ?_
  (refine V0 ?_;with_reducible repeat' intro h)
  rename_i r
  have h1:=neA_get h.1 ha
  have h2:=neA_get h.1 hb
  exact ⟨r,h1,h2,rfl,rfl⟩
 refine h0.fr ?_
 rintro g H' ⟨r,h1,h2,rfl,rfl⟩
 have e1:ZL (Z1 ((r,7,[EO ra a,EO rb b])::H) r [.agg [I a.kind,I a.n,I a.pos,I a.type,T a.sym,T a.name,.osl 7 (a.args.map ExO)],EO rb b]) ra=(r,7,[ExO a,EO rb b])::ZL H ra:=by
  rw[YU,ExO_eq]
  simp[ZL,h1]
 have e2:ZL (Z1 ((r,7,[ExO a,EO rb b])::ZL H ra) r [ExO a,.agg [I b.kind,I b.n,I b.pos,I b.type,T b.sym,T b.name,.osl 7 (b.args.map ExO)]]) rb=(r,7,[ExO a,ExO b])::ZL (ZL H ra) rb:=by
  rw[YU,ExO_eq b]
  simp[ZL,h2]
 have c1:FR (EO r (opE op a b)) ((r,7,[EO ra a,EO rb b])::H) (EO r (opE op a b)) ((r,7,[ExO a,EO rb b])::ZL H ra):=by
  rw[←e1]
  exact FR.close (es:=[EO ra a,EO rb b]) (i:=0) (j:=6) (gs:=[I a.kind,I a.n,I a.pos,I a.type,T a.sym,T a.name,.own ra 7 0 a.args.length]) h1 Z0 rfl rfl (by rw[ZX h1];exact ha) (by simp)
 have c2:FR (EO r (opE op a b)) ((r,7,[ExO a,EO rb b])::ZL H ra) (EO r (opE op a b)) ((r,7,[ExO a,ExO b])::ZL (ZL H ra) rb):=by
  rw[←e2]
  exact FR.close (es:=[ExO a,EO rb b]) (i:=1) (j:=6) (gs:=[I b.kind,I b.n,I b.pos,I b.type,T b.sym,T b.name,.own rb 7 0 b.args.length]) h2 Z0 rfl rfl (by rw[ZX h2,hget_hdel (Ne.symm hab)];exact hb) (by simp)
 exact ⟨_,_,FR.trans c1 c2,r,rfl,rfl⟩
theorem o213 {ts:List Go.Gh.Tok} {n:Int} (hK:OkR ts n) (i:Nat) (hi:i<ts.length) (rp:Nat) (H:GH) (hr:Z6 H rp=some (4,[SpG ts n i false])) :
 Gc 213 [.ptr rp 4 0 0] H (EP (SpG ts n) ((YM ts (ts.length+1) (i+1) 0 0).bind fun s j=> .ok (conE s 2) j) rp H):=by
 have hl:=hK.len
 have h0:Gc 213 [.ptr rp 4 0 0] H (fun g H'=>∃v,g=ExN (conE v 2)∧H'=Z1 H rp [SpG ts n (YM ts (ts.length+1) (i+1) 0 0).at (YM ts (ts.length+1) (i+1) 0 0).err]∧∀a j,YM ts (ts.length+1) (i+1) 0 0 = .ok a j→v=a):=by
  generalize hR:YM ts (ts.length+1) (i+1) 0 0=R at *
  refine Z8 mxd i213 rfl (by simp) ?_;refine X0 ?_
  (refine V1 (jO hr (jO @YZ (jO @YA @YB))) ?_)
  refine Zk mxd (ι:={ x:Nat×Bool×Int×Int // x.1≤ts.length∧0≤x.2.2.1∧x.2.2.1≤4095∧0≤x.2.2.2∧x.2.2.2≤12∧(x.2.1=true→R = .bad x.1)∧(x.2.1=false→∃f,ts.length-x.1<f∧YM ts f x.1 x.2.2.2 x.2.2.1=R) }) (fun x=>[(0,.ptr rp 4 0 0),(2,.raw 7),(3,I x.1.2.2.2),(4,I x.1.2.2.1)]) (fun x=>Z1 H rp [SpG ts n x.1.1 x.1.2.1]) (fun x=>if x.1.2.1=true then 0 else ts.length-x.1.1+1) ⟨(i+1,false,0,0),hi,by dsimp only;omega,by dsimp only;omega,by dsimp only;omega,by dsimp only;omega,(fun h=>by cases h),fun _ => ⟨_,by dsimp only;omega,hR⟩⟩ (by simp[E2]) rfl ?_
  rintro ⟨⟨k,b,v,l⟩,hk,v0,v1,l0,l1,hb1,hb2⟩
  dsimp only at hk v0 v1 l0 l1 hb1 hb2 ⊢
  have hr':=ZK (fs:=[SpG ts n k b]) hr
  cases b with
  | true=>
   obtain rfl:=hb1 rfl
   have hg:=hK.ng k
   have h2:=w157 hK k hk true ⟨#[125]⟩ rp _ hr'
   (refine R1 (jO hr' (jO @bdO_t (jO hg (jO @decide_true @decide_false)))) ?_)
   refine callS.of h2 ?_
   rintro _ _ rfl _
   (refine R1 @Z4 ?_)
   refine callS.eq (v90 v 2) ?_
   (refine R0 ?_)
   all_goals exact ⟨v,rfl,rfl⟩
  | false=>
   obtain ⟨f,hf,hs⟩:=hb2 rfl
   obtain ⟨f,rfl⟩:∃g,f=g+1:=⟨f-1,by omega⟩
   simp only[YM] at hs
   cases hq:sees ts k wRB with
   | true=>
    rw[if_pos hq] at hs
    subst hs
    have h1:=w155 hK k hk false ⟨#[125]⟩ rp _ hr'
    have h2:=w157 hK k hk false ⟨#[125]⟩ rp _ hr'
    rw[show (⟨#[125]⟩:ByteArray)=wRB from rfl] at h1 h2
    rw[hq] at h1
    rw[Zl,take_t hq] at h2
    (refine R1 (jO hr' (jO @YZ (jO @YA @YB))) ?_)
    refine callS.of h1 ?_
    rintro _ _ ⟨rfl,rfl⟩ _
    (refine R1 (jO hr' (jO @Bool.not_false (jO @Bool.true_and @Bool.not_true))) ?_)
    refine callS.of h2 ?_
    rintro _ _ rfl _
    (refine R1 @Z4 ?_)
    refine callS.eq (v90 v 2) ?_
    (refine R0 ?_)
    all_goals first|exact ⟨v,rfl,rfl,fun a j h=>by cases h;rfl⟩|trace_state
   | false=>
    rw[if_neg (by rw[hq];decide)] at hs
    have h1:=w155 hK k hk false ⟨#[125]⟩ rp _ hr'
    have h2:=w227 hK k hk false l 11 rp _ hr'
    rw[show (⟨#[125]⟩:ByteArray)=wRB from rfl,hq] at h1
    rw[Zl] at h2
    cases hn:Zv ts k l 11 with
    | bad j=>
     rw[hn] at hs h2
     simp only[PR.val,PR.at,PR.err] at h2
     have hj:j=k:=by unfold Zv at hn;split at hn<;>cases hn;rfl
     subst hj
     have hr2:=ZK (fs:=[SpG ts n j true]) hr
     have hw0:IntKind.u64.wrap 0=0:=wrapU 0 (by omega) (by omega)
     obtain ⟨q0,q1,_⟩:=set_len v0 v1 (by omega:(0:Int)≤0) (by omega)
     (refine R1 (jO hr' (jO @YZ (jO @YA @YB))) ?_)
     refine callS.of h1 ?_
     rintro _ _ ⟨rfl,rfl⟩ _
     (refine R1 (jO hr' (jO @Bool.and_false @Bool.not_false)) ?_)
     refine callS.of h2 ?_
     rintro _ _ ⟨rfl,rfl⟩ _
     (refine V1 (jO @Z4 (jO hr2 hw0)) ?_)
     all_goals try exact oF
     exact nx ⟨(j,true,orI .i64 v (shlI .i64 1 0),0+1),hk,q0,q1,by dsimp only;omega,by dsimp only;omega,fun _ => hs.symm,fun h=>by cases h⟩ (by simp) (by simp[E2]) rfl
    | ok m j=>
     rw[hn] at hs h2
     simp only[PR.val,PR.at,PR.err] at h2
     have hlt0:=num_lt hn
     obtain ⟨rfl,n0,n1⟩:=num_nx hn
     have hlt:k<ts.length:=hlt0
     obtain ⟨q0,q1,_⟩:=set_len v0 v1 (by omega:0≤m) n1
     have hr2:=ZK (fs:=[SpG ts n (k+1) false]) hr
     have hwu:=wrapU m (by omega) (by omega)
     (refine R1 (jO hr' (jO @YZ (jO @YA @YB))) ?_)
     refine callS.of h1 ?_
     rintro _ _ ⟨rfl,rfl⟩ _
     (refine R1 (jO hr' (jO @Bool.and_false @Bool.not_false)) ?_)
     refine callS.of h2 ?_
     rintro _ _ ⟨rfl,rfl⟩ _
     (refine V1 (jO @Z4 (jO hr2 hwu)) ?_)
     all_goals try exact oF
     all_goals first|exact nx ⟨(k+1,false,orI .i64 v (shlI .i64 1 m),m+1),by dsimp only;omega,q0,q1,by dsimp only;omega,by dsimp only;omega,(fun h=>by cases h),fun _ => ⟨f,by dsimp only;omega,hs⟩⟩ (by dsimp only;simp;omega) (by simp[E2]) rfl|trace_state
 refine h0.fr ?_
 rintro g H' ⟨v,rfl,rfl,hv⟩
 obtain ⟨r,hf⟩:=FR.nilE (e:=conE v 2) rfl (Z1 H rp [SpG ts n (YM ts (ts.length+1) (i+1) 0 0).at (YM ts (ts.length+1) (i+1) 0 0).err])
 refine ⟨_,_,hf,conE v 2,r,rfl,?_,?_⟩
 ·cases YM ts (ts.length+1) (i+1) 0 0<;>rfl
 ·intro a j h
  cases hs:YM ts (ts.length+1) (i+1) 0 0 with
  | bad k=>rw[hs] at h;cases h
  | ok s k=>rw[hs] at h;cases h;rw[hv s _ hs]
end Go.Proofs.YtcegkonjphbfaaaGreatDoor
