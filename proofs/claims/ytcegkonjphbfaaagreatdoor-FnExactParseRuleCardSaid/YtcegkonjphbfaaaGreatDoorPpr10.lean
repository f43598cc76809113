/- The tied card of the law holds. No condition. -/
import Derived.Test.YtcegkonjphbfaaaGreatDoorPpr3
import Derived.Test.YtcegkonjphbfaaaGreatDoorPpr7
import Derived.Test.YtcegkonjphbfaaaGreatDoorPpr9
set_option maxHeartbeats 40000000
set_option maxRecDepth 20000
set_option linter.unusedSimpArgs false
set_option linter.unusedVariables false
namespace Go.Proofs.YtcegkonjphbfaaaGreatDoor
open Go.Gh
open Nat (reduceEqDiff reduceLeDiff reduceAdd reduceLT)
open Int (reduceNe)
open Go.Lib
theorem o69 (s:ByteArray) (hs:(Z9 s).length ≤ 1048576) (H:GH) (hT:∀x∈tabE 1 5,x∈H):Gc 69 [T s] H (AnsO (ZD (Z9 s)) H):=by
 refine AnsS.own ?_
 have hK:=okR_tokz (Z9 s)
 have hl:=hK.len
 have hV:∀e j,rE (Zp (Z9 s)).1 0 = .ok e j→okE e∧wEx e≤1048576:=fun e j h=>rE_sz hK.txt hl h
 have hp:∀k,(rE (Zp (Z9 s)).1 0).at = k→k≤(Zp (Z9 s)).1.length := fun k h=>h▸(Yb 0 (Nat.zero_le _)).2
 have hbd:=parV_bad (l:=Z9 s)
 have hrd:=parV_rd (l:=Z9 s)
 refine Z8 mxd i69 rfl (by simp) ?_;refine X0 ?_
 (refine R0 ?_)
 refine callS.eqT (p110 s hs) (tabH_E (by decide)) hT ?_
 generalize hTT:Zp (Z9 s)=TT at *
 by_cases h0:0≤TT.2
 ·have h0':(0≤TT.2)=True:=eq_true h0
  rw[hbd h0]
  (refine R1 (jO h0' (jO @decide_true @decide_false)) ?_)
  all_goals exact .inr ⟨[],rfl,rfl,rfl⟩
 ·have h0':(0≤TT.2)=False:=eq_false h0
  have hrd:=hrd h0
  rw[hrd]
  (refine R1 (jO h0' (jO @decide_true @decide_false)) ?_;with_reducible repeat' intro h)
  rename_i rp
  refine callS.of (o111 TT.1 hl hK.txt hK.num 0 (Nat.zero_le _) false rp _ Z0) ?_
  rintro _ _ ⟨e,r,rfl,rfl,he⟩ hn
  rw[YU] at hn ⊢
  have hrp:r≠rp:=ZN hn Z0
  rw[Zl] at he hn ⊢
  cases hP:rE TT.1 0 with
  | bad k=>
   rw[hP] at hp hV he
   have hk:=hp k rfl
   rw[show [PaG TT.1 (PR.bad k:PR Exp).at (PR.bad k:PR Exp).err]=[PaG TT.1 k true] from rfl]
   have hg:Z6 ((r,7,e.args.map ExO)::(rp,3,[PaG TT.1 k true])::H) rp=some (3,[PaG TT.1 k true]):=by rw[ZX hrp];exact Z0
   rcases nL k TT.1.length with hlt|hge
   ·have e1:((k:Int)=TT.1.length)=False:=eq_false (by omega)
    have e2:((k:Int)<TT.1.length)=True:=eq_true (by omega)
    have e3:¬TT.1.length≤k:=(by omega)
    (refine R1 (jO hrp (jO hg (jO e1 (jO e2 (jO e3 (jO hlt (jO @decide_true @decide_false))))))) ?_;with_reducible repeat' intro h)
    all_goals exact .inr ⟨[(r,7,e.args.map ExO),(rp,3,[PaG TT.1 k true])],rfl,by rw[offT_lt hlt];rfl,rfl⟩
   ·have e1:((k:Int)=TT.1.length)=True:=eq_true (by omega)
    (refine R1 (jO hrp (jO hg (jO e1 (jO @decide_true @decide_false)))) ?_)
    all_goals exact .inr ⟨[(r,7,e.args.map ExO),(rp,3,[PaG TT.1 k true])],rfl,by rw[offT_ge hge];rfl,rfl⟩
  | ok a k=>
   rw[hP] at hp hV he
   have hk:=hp k rfl
   obtain rfl:=he a k rfl
   dsimp only
   rw[show [PaG TT.1 (PR.ok e k).at (PR.ok e k).err]=[PaG TT.1 k false] from rfl]
   have hg:Z6 ((r,7,e.args.map ExO)::(rp,3,[PaG TT.1 k false])::H) rp=some (3,[PaG TT.1 k false]):=by rw[ZX hrp];exact Z0
   rcases nL k TT.1.length with hlt|hge
   ·have e1:((k:Int)=TT.1.length)=False:=eq_false (by omega)
    have e2:((k:Int)<TT.1.length)=True:=eq_true (by omega)
    have e3:¬TT.1.length≤k:=(by omega)
    rw[if_pos hlt]
    (refine R1 (jO hrp (jO hg (jO e1 (jO e2 (jO e3 (jO hlt (jO @decide_true @decide_false))))))) ?_;with_reducible repeat' intro h)
    all_goals exact .inr ⟨[(r,7,e.args.map ExO),(rp,3,[PaG TT.1 k false])],rfl,by rw[offT_lt hlt];rfl,rfl⟩
   ·have e1:((k:Int)=TT.1.length)=True:=eq_true (by omega)
    have e2:((k:Int)<TT.1.length)=False:=eq_false (by omega)
    rw[if_neg (by omega)]
    (refine R1 (jO hrp (jO hg (jO e1 (jO e2 (jO @decide_true @decide_false))))) ?_)
    obtain ⟨v1,v2⟩:=hV e k rfl
    have hb:Bor ((r,7,e.args.map ExO)::(rp,3,[PaG TT.1 k false])::H) (EO r e) (Ex e):=bor_EO Z0
    refine callS.borA (w85 e v1 v2) (.cons hb .nil) rfl ?_
    by_cases hv:Zo e=true
    ·rw[hv,if_pos rfl]
     (refine R1 (jO hrp hg) ?_)
     all_goals exact .inl ⟨r,rp,_,rfl,rfl⟩
    ·have hv':Zo e=false:=Bool.eq_false_iff.2 hv
     rw[hv',if_neg (by decide)]
     (refine R1 (jO hrp hg) ?_)
     all_goals exact .inr ⟨[(r,7,e.args.map ExO),(rp,3,[PaG TT.1 k false])],rfl,rfl,rfl⟩
theorem o78 (s:ByteArray) (hs:(Z9 s).length ≤ 1048576) (H:GH):Gc 78 [T s] H (AnsO (ZD (Z9 s)) H):=by
 refine AnsS.own ?_
 have hK:=okR_tokz (Z9 s)
 have hl:=hK.len
 have hsz:s.size≤1048576:=by rw[ZE];exact hs
 have hV:∀e j,rE (Zp (Z9 s)).1 0 = .ok e j→okE e∧wEx e≤1048576:=fun e j h=>rE_sz hK.txt hl h
 have hp:∀k,(rE (Zp (Z9 s)).1 0).at = k→k≤(Zp (Z9 s)).1.length := fun k h=>h▸(Yb 0 (Nat.zero_le _)).2
 have hbd:=parV_bad (l:=Z9 s)
 have hrd:=parV_rd (l:=Z9 s)
 refine Z8 mxd i78 rfl (by simp) ?_;refine X0 ?_
 (refine R0 ?_)
 refine callS.eq (w122 s hs) ?_
 generalize hTT:Zp (Z9 s)=TT at *
 by_cases h0:0≤TT.2
 ·have h0':(0≤TT.2)=True:=eq_true h0
  rw[hbd h0]
  (refine R1 (jO h0' (jO @decide_true @decide_false)) ?_)
  all_goals exact .inr ⟨[],rfl,rfl,rfl⟩
 ·have h0':(0≤TT.2)=False:=eq_false h0
  have hrd:=hrd h0
  rw[hrd]
  (refine R1 (jO h0' (jO @decide_true @decide_false)) ?_;with_reducible repeat' intro h)
  rename_i rp
  rw[show (rp,4,[GV.agg [TkS TT.1,I 0,I ((Z9 s).length : Int),I (-1)]])=(rp,4,[SpG TT.1 ((Z9 s).length : Int) 0 false]) from rfl]
  refine callS.of (o123 hK 0 (Nat.zero_le _) false rp _ Z0) ?_
  rintro _ _ ⟨e,r,rfl,rfl,he⟩ hn
  rw[YU] at hn ⊢
  have hrp:r≠rp:=ZN hn Z0
  rw[Zl] at he hn ⊢
  cases hP:rE TT.1 0 with
  | bad k=>
   rw[hP] at hp hV he
   have hk:=hp k rfl
   rw[show [SpG TT.1 ((Z9 s).length : Int) (PR.bad k:PR Exp).at (PR.bad k:PR Exp).err]=[SpG TT.1 ((Z9 s).length : Int) k true] from rfl]
   have hg:Z6 ((r,7,e.args.map ExO)::(rp,4,[SpG TT.1 ((Z9 s).length : Int) k true])::H) rp=some (4,[SpG TT.1 ((Z9 s).length : Int) k true]):=by rw[ZX hrp];exact Z0
   have e1:=hK.ng k
   have e2:=hK.ge k
   (refine R1 (jO hrp (jO hg (jO @bdO_t (jO e1 (jO e2 (jO @decide_true @decide_false)))))) ?_)
   all_goals exact .inr ⟨[(r,7,e.args.map ExO),(rp,4,[SpG TT.1 ((Z9 s).length : Int) k true])],rfl,rfl,rfl⟩
  | ok a k=>
   rw[hP] at hp hV he
   have hk:=hp k rfl
   obtain rfl:=he a k rfl
   dsimp only
   rw[show [SpG TT.1 ((Z9 s).length : Int) (PR.ok e k).at (PR.ok e k).err]=[SpG TT.1 ((Z9 s).length : Int) k false] from rfl]
   have hg:Z6 ((r,7,e.args.map ExO)::(rp,4,[SpG TT.1 ((Z9 s).length : Int) k false])::H) rp=some (4,[SpG TT.1 ((Z9 s).length : Int) k false]):=by rw[ZX hrp];exact Z0
   rcases nL k TT.1.length with hlt|hge
   ·have e2:((k:Int)<TT.1.length)=True:=eq_true (by omega)
    have e1:=hK.ng k
    have e3:=hK.ge k
    have hf:=w124 hK k hk false rp ((r,7,e.args.map ExO)::(rp,4,[SpG TT.1 ((Z9 s).length : Int) k false])::H) hg
    rw[if_pos hlt]
    (refine R1 (jO hrp (jO hg (jO @YZ (jO @YA (jO @YB (jO e2 (jO @decide_true @decide_false))))))) ?_)
    refine callS.of hf ?_
    rintro _ _ ⟨rfl,rfl⟩ _
    rw[ZJ hrp,YU]
    have hg2:Z6 ((r,7,e.args.map ExO)::(rp,4,[SpG TT.1 ((Z9 s).length : Int) k true])::H) rp=some (4,[SpG TT.1 ((Z9 s).length : Int) k true]):=by rw[ZX hrp];exact Z0
    (refine R1 (jO hrp (jO hg2 (jO @bdO_t (jO e1 (jO e3 (jO @decide_true @decide_false)))))) ?_)
    all_goals exact .inr ⟨[(r,7,e.args.map ExO),(rp,4,[SpG TT.1 ((Z9 s).length : Int) k true])],rfl,rfl,rfl⟩
   ·have e2:((k:Int)<TT.1.length)=False:=eq_false (by omega)
    rw[if_neg (by omega)]
    (refine R1 (jO hrp (jO hg (jO @YZ (jO @YA (jO @YB (jO e2 (jO @decide_true @decide_false))))))) ?_)
    obtain ⟨v1,v2⟩:=hV e k rfl
    have hb:Bor ((r,7,e.args.map ExO)::(rp,4,[SpG TT.1 ((Z9 s).length : Int) k false])::H) (EO r e) (Ex e):=bor_EO Z0
    refine callS.borA (w74 e v1 v2) (.cons hb .nil) rfl ?_
    by_cases hv:Zo e=true
    ·rw[hv,if_pos rfl]
     (refine R1 (jO hrp hg) ?_)
     all_goals exact .inl ⟨r,rp,_,rfl,rfl⟩
    ·have hv':Zo e=false:=Bool.eq_false_iff.2 hv
     rw[hv',if_neg (by decide)]
     (refine R1 (jO hrp hg) ?_)
     all_goals exact .inr ⟨[(r,7,e.args.map ExO),(rp,4,[SpG TT.1 ((Z9 s).length : Int) k false])],rfl,rfl,rfl⟩
theorem w78 (s:ByteArray) (hs:(Z9 s).length ≤ 1048576):Pu 78 [T s] (· = .tup [Ex (ZD (Z9 s)).1,I (ZD (Z9 s)).2]):=
 Pure.bor ((o78 s hs []).mono fun _ _ h=>h.bor)
end Go.Proofs.YtcegkonjphbfaaaGreatDoor
