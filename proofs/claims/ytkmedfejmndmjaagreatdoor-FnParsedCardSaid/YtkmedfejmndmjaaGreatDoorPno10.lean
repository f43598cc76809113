/- The tied card of the law holds. No condition. -/
import Derived.Test.YtkmedfejmndmjaaGreatDoorPno3
import Derived.Test.YtkmedfejmndmjaaGreatDoorPno7
import Derived.Test.YtkmedfejmndmjaaGreatDoorPno9
set_option maxHeartbeats 40000000
set_option maxRecDepth 20000
set_option linter.unusedSimpArgs false
set_option linter.unusedVariables false
namespace Go.Proofs.YtkmedfejmndmjaaGreatDoor
open Go.Gh
open Nat (reduceEqDiff reduceLeDiff reduceAdd reduceLT)
open Int (reduceNe)
open Go.Lib
theorem o13 (s:ByteArray) (hs:(Z8 s).length ≤ 1048576) (H:GH) (hT:∀x∈tabE 1 3,x∈H):Gc 13 [T s] H (AnsO (Zj (Z8 s)) H):=by
 refine AnsS.own ?_
 have hK:=okR_tokz (Z8 s)
 have hl:=hK.len
 have hV:∀e j,rE (ZA (Z8 s)).1 0 = .ok e j→okE e∧wEx e≤1048576:=fun e j h=>rE_sz hK.txt hl h
 have hp:∀k,(rE (ZA (Z8 s)).1 0).at = k→k≤(ZA (Z8 s)).1.length := fun k h=>h▸(Yc 0 (Nat.zero_le _)).2
 have hbd:=parV_bad (l:=Z8 s)
 have hrd:=parV_rd (l:=Z8 s)
 refine Z6 mxd i13 rfl (by simp) ?_;simp (maxSteps:=9^7) only[↓ S2,S2,Z7,↓reduceIte,reduceNe,reduceEqDiff,reduceCtorEq,reduceLeDiff,reduceAdd,reduceLT]
 ((try refine qI ?_);(repeat ((first|with_reducible refine qU ?_ | simp only[Z9]);try simp (maxSteps:=9^7) only[↓ S2,S2,Z7,↓reduceIte,reduceNe,reduceEqDiff,reduceCtorEq,reduceLeDiff,reduceAdd,reduceLT,]));(try simp +contextual (disch:=omega) only[Z2,]);(with_reducible repeat' (first|intro h|refine And.intro (by omega) ?_ | refine exP (by omega) ?_ | apply And.intro)))
 refine callS.eqT (p33 s hs) (YM (by decide)) hT ?_
 generalize hTT:ZA (Z8 s)=TT at *
 by_cases h0:0≤TT.2
 ·have h0':(0≤TT.2)=True:=eq_true h0
  rw[hbd h0]
  ((try refine qI ?_);(repeat ((first|with_reducible refine qU ?_ | simp only[Z9]);try simp (maxSteps:=9^7) only[↓ S2,S2,Z7,↓reduceIte,reduceNe,reduceEqDiff,reduceCtorEq,reduceLeDiff,reduceAdd,reduceLT,h0',decide_true,decide_false]));(try simp +contextual (disch:=omega) only[Z2,h0',decide_true,decide_false]);(with_reducible repeat' (first|intro h|refine And.intro (by omega) ?_ | refine exP (by omega) ?_ | apply And.intro)))
  all_goals exact .inr ⟨[],rfl,rfl,rfl⟩
 ·have h0':(0≤TT.2)=False:=eq_false h0
  have hrd:=hrd h0
  rw[hrd]
  ((try refine qI ?_);(repeat ((first|with_reducible refine qU ?_ | simp only[Z9]);try simp (maxSteps:=9^7) only[↓ S2,S2,Z7,↓reduceIte,reduceNe,reduceEqDiff,reduceCtorEq,reduceLeDiff,reduceAdd,reduceLT,h0',decide_true,decide_false]));(try simp +contextual (disch:=omega) only[Z2,h0',decide_true,decide_false]);(with_reducible repeat' (first|intro h|refine And.intro (by omega) ?_ | refine exP (by omega) ?_ | apply And.intro)))
  rename_i rp
  refine callS.of (o34 TT.1 hl hK.txt hK.num 0 (Nat.zero_le _) false rp _ Z4) ?_
  rintro _ _ ⟨e,r,rfl,rfl,he⟩ hn
  rw[Yi] at hn ⊢
  have hrp:r≠rp:=ZH hn Z4
  rw[Zn] at he hn ⊢
  cases hP:rE TT.1 0 with
  | bad k=>
   rw[hP] at hp hV he
   have hk:=hp k rfl
   rw[show [PaG TT.1 (PR.bad k:PR Exp).at (PR.bad k:PR Exp).err]=[PaG TT.1 k true] from rfl]
   have hg:Z3 ((r,7,e.args.map ExO)::(rp,3,[PaG TT.1 k true])::H) rp=some (3,[PaG TT.1 k true]):=by rw[ZU hrp];exact Z4
   rcases nL k TT.1.length with hlt|hge
   ·have e1:((k:Int)=TT.1.length)=False:=eq_false (by omega)
    have e2:((k:Int)<TT.1.length)=True:=eq_true (by omega)
    have e3:¬TT.1.length≤k:=(by omega)
    ((try refine qI ?_);(repeat ((first|with_reducible refine qU ?_ | simp only[Z9]);try simp (maxSteps:=9^7) only[↓ S2,S2,Z7,↓reduceIte,reduceNe,reduceEqDiff,reduceCtorEq,reduceLeDiff,reduceAdd,reduceLT,hrp,hg,e1,e2,e3,hlt,decide_true,decide_false]));(try simp +contextual (disch:=omega) only[Z2,hrp,hg,e1,e2,e3,hlt,decide_true,decide_false]);(with_reducible repeat' (first|intro h|refine And.intro (by omega) ?_ | refine exP (by omega) ?_ | apply And.intro)))
    all_goals exact .inr ⟨[(r,7,e.args.map ExO),(rp,3,[PaG TT.1 k true])],rfl,by rw[offT_lt hlt];rfl,rfl⟩
   ·have e1:((k:Int)=TT.1.length)=True:=eq_true (by omega)
    ((try refine qI ?_);(repeat ((first|with_reducible refine qU ?_ | simp only[Z9]);try simp (maxSteps:=9^7) only[↓ S2,S2,Z7,↓reduceIte,reduceNe,reduceEqDiff,reduceCtorEq,reduceLeDiff,reduceAdd,reduceLT,hrp,hg,e1,decide_true,decide_false]));(try simp +contextual (disch:=omega) only[Z2,hrp,hg,e1,decide_true,decide_false]);(with_reducible repeat' (first|intro h|refine And.intro (by omega) ?_ | refine exP (by omega) ?_ | apply And.intro)))
    all_goals exact .inr ⟨[(r,7,e.args.map ExO),(rp,3,[PaG TT.1 k true])],rfl,by rw[offT_ge hge];rfl,rfl⟩
  | ok a k=>
   rw[hP] at hp hV he
   have hk:=hp k rfl
   obtain rfl:=he a k rfl
   dsimp only
   rw[show [PaG TT.1 (PR.ok e k).at (PR.ok e k).err]=[PaG TT.1 k false] from rfl]
   have hg:Z3 ((r,7,e.args.map ExO)::(rp,3,[PaG TT.1 k false])::H) rp=some (3,[PaG TT.1 k false]):=by rw[ZU hrp];exact Z4
   rcases nL k TT.1.length with hlt|hge
   ·have e1:((k:Int)=TT.1.length)=False:=eq_false (by omega)
    have e2:((k:Int)<TT.1.length)=True:=eq_true (by omega)
    have e3:¬TT.1.length≤k:=(by omega)
    rw[if_pos hlt]
    ((try refine qI ?_);(repeat ((first|with_reducible refine qU ?_ | simp only[Z9]);try simp (maxSteps:=9^7) only[↓ S2,S2,Z7,↓reduceIte,reduceNe,reduceEqDiff,reduceCtorEq,reduceLeDiff,reduceAdd,reduceLT,hrp,hg,e1,e2,e3,hlt,decide_true,decide_false]));(try simp +contextual (disch:=omega) only[Z2,hrp,hg,e1,e2,e3,hlt,decide_true,decide_false]);(with_reducible repeat' (first|intro h|refine And.intro (by omega) ?_ | refine exP (by omega) ?_ | apply And.intro)))
    all_goals exact .inr ⟨[(r,7,e.args.map ExO),(rp,3,[PaG TT.1 k false])],rfl,by rw[offT_lt hlt];rfl,rfl⟩
   ·have e1:((k:Int)=TT.1.length)=True:=eq_true (by omega)
    have e2:((k:Int)<TT.1.length)=False:=eq_false (by omega)
    rw[if_neg (by omega)]
    ((try refine qI ?_);(repeat ((first|with_reducible refine qU ?_ | simp only[Z9]);try simp (maxSteps:=9^7) only[↓ S2,S2,Z7,↓reduceIte,reduceNe,reduceEqDiff,reduceCtorEq,reduceLeDiff,reduceAdd,reduceLT,hrp,hg,e1,e2,decide_true,decide_false]));(try simp +contextual (disch:=omega) only[Z2,hrp,hg,e1,e2,decide_true,decide_false]);(with_reducible repeat' (first|intro h|refine And.intro (by omega) ?_ | refine exP (by omega) ?_ | apply And.intro)))
    obtain ⟨v1,v2⟩:=hV e k rfl
    have hb:Bor ((r,7,e.args.map ExO)::(rp,3,[PaG TT.1 k false])::H) (EO r e) (Ex e):=bor_EO Z4
    refine callS.borA (w27 e v1 v2) (.cons hb .nil) rfl ?_
    by_cases hv:YZ e=true
    ·rw[hv,if_pos rfl]
     ((try refine qI ?_);(repeat ((first|with_reducible refine qU ?_ | simp only[Z9]);try simp (maxSteps:=9^7) only[↓ S2,S2,Z7,↓reduceIte,reduceNe,reduceEqDiff,reduceCtorEq,reduceLeDiff,reduceAdd,reduceLT,hrp,hg]));(try simp +contextual (disch:=omega) only[Z2,hrp,hg]);(with_reducible repeat' (first|intro h|refine And.intro (by omega) ?_ | refine exP (by omega) ?_ | apply And.intro)))
     all_goals exact .inl ⟨r,rp,_,rfl,rfl⟩
    ·have hv':YZ e=false:=Bool.eq_false_iff.2 hv
     rw[hv',if_neg (by decide)]
     ((try refine qI ?_);(repeat ((first|with_reducible refine qU ?_ | simp only[Z9]);try simp (maxSteps:=9^7) only[↓ S2,S2,Z7,↓reduceIte,reduceNe,reduceEqDiff,reduceCtorEq,reduceLeDiff,reduceAdd,reduceLT,hrp,hg]));(try simp +contextual (disch:=omega) only[Z2,hrp,hg]);(with_reducible repeat' (first|intro h|refine And.intro (by omega) ?_ | refine exP (by omega) ?_ | apply And.intro)))
     all_goals exact .inr ⟨[(r,7,e.args.map ExO),(rp,3,[PaG TT.1 k false])],rfl,rfl,rfl⟩
theorem p13 (s:ByteArray) (hs:(Z8 s).length ≤ 1048576):PureT Tryz.prog (tabE 1 3) 13 [T s] (· = .tup [Ex (Zj (Z8 s)).1,I (Zj (Z8 s)).2]):=
 PureT.bor ((o13 s hs _ fun _ h=>h).mono fun _ _ h=>h.bor)
theorem o16 (s:ByteArray) (hs:(Z8 s).length ≤ 1048576) (H:GH):Gc 16 [T s] H (AnsO (Zj (Z8 s)) H):=by
 refine AnsS.own ?_
 have hK:=okR_tokz (Z8 s)
 have hl:=hK.len
 have hsz:s.size≤1048576:=by rw[Zu];exact hs
 have hV:∀e j,rE (ZA (Z8 s)).1 0 = .ok e j→okE e∧wEx e≤1048576:=fun e j h=>rE_sz hK.txt hl h
 have hp:∀k,(rE (ZA (Z8 s)).1 0).at = k→k≤(ZA (Z8 s)).1.length := fun k h=>h▸(Yc 0 (Nat.zero_le _)).2
 have hbd:=parV_bad (l:=Z8 s)
 have hrd:=parV_rd (l:=Z8 s)
 refine Z6 mxd i16 rfl (by simp) ?_;simp (maxSteps:=9^7) only[↓ S2,S2,Z7,↓reduceIte,reduceNe,reduceEqDiff,reduceCtorEq,reduceLeDiff,reduceAdd,reduceLT]
 ((try refine qI ?_);(repeat ((first|with_reducible refine qU ?_ | simp only[Z9]);try simp (maxSteps:=9^7) only[↓ S2,S2,Z7,↓reduceIte,reduceNe,reduceEqDiff,reduceCtorEq,reduceLeDiff,reduceAdd,reduceLT,]));(try simp +contextual (disch:=omega) only[Z2,]);(with_reducible repeat' (first|intro h|refine And.intro (by omega) ?_ | refine exP (by omega) ?_ | apply And.intro)))
 refine callS.eq (w14 s hs) ?_
 generalize hTT:ZA (Z8 s)=TT at *
 by_cases h0:0≤TT.2
 ·have h0':(0≤TT.2)=True:=eq_true h0
  rw[hbd h0]
  ((try refine qI ?_);(repeat ((first|with_reducible refine qU ?_ | simp only[Z9]);try simp (maxSteps:=9^7) only[↓ S2,S2,Z7,↓reduceIte,reduceNe,reduceEqDiff,reduceCtorEq,reduceLeDiff,reduceAdd,reduceLT,h0',decide_true,decide_false]));(try simp +contextual (disch:=omega) only[Z2,h0',decide_true,decide_false]);(with_reducible repeat' (first|intro h|refine And.intro (by omega) ?_ | refine exP (by omega) ?_ | apply And.intro)))
  all_goals exact .inr ⟨[],rfl,rfl,rfl⟩
 ·have h0':(0≤TT.2)=False:=eq_false h0
  have hrd:=hrd h0
  rw[hrd]
  ((try refine qI ?_);(repeat ((first|with_reducible refine qU ?_ | simp only[Z9]);try simp (maxSteps:=9^7) only[↓ S2,S2,Z7,↓reduceIte,reduceNe,reduceEqDiff,reduceCtorEq,reduceLeDiff,reduceAdd,reduceLT,h0',decide_true,decide_false]));(try simp +contextual (disch:=omega) only[Z2,h0',decide_true,decide_false]);(with_reducible repeat' (first|intro h|refine And.intro (by omega) ?_ | refine exP (by omega) ?_ | apply And.intro)))
  rename_i rp
  rw[show (rp,4,[GV.agg [TkS TT.1,I 0,I ((Z8 s).length : Int),I (-1)]])=(rp,4,[SpG TT.1 ((Z8 s).length : Int) 0 false]) from rfl]
  refine callS.of (o38 hK 0 (Nat.zero_le _) false rp _ Z4) ?_
  rintro _ _ ⟨e,r,rfl,rfl,he⟩ hn
  rw[Yi] at hn ⊢
  have hrp:r≠rp:=ZH hn Z4
  rw[Zn] at he hn ⊢
  cases hP:rE TT.1 0 with
  | bad k=>
   rw[hP] at hp hV he
   have hk:=hp k rfl
   rw[show [SpG TT.1 ((Z8 s).length : Int) (PR.bad k:PR Exp).at (PR.bad k:PR Exp).err]=[SpG TT.1 ((Z8 s).length : Int) k true] from rfl]
   have hg:Z3 ((r,7,e.args.map ExO)::(rp,4,[SpG TT.1 ((Z8 s).length : Int) k true])::H) rp=some (4,[SpG TT.1 ((Z8 s).length : Int) k true]):=by rw[ZU hrp];exact Z4
   have e1:=hK.ng k
   have e2:=hK.ge k
   ((try refine qI ?_);(repeat ((first|with_reducible refine qU ?_ | simp only[Z9]);try simp (maxSteps:=9^7) only[↓ S2,S2,Z7,↓reduceIte,reduceNe,reduceEqDiff,reduceCtorEq,reduceLeDiff,reduceAdd,reduceLT,hrp,hg,bdO_t,e1,e2,decide_true,decide_false]));(try simp +contextual (disch:=omega) only[Z2,hrp,hg,bdO_t,e1,e2,decide_true,decide_false]);(with_reducible repeat' (first|intro h|refine And.intro (by omega) ?_ | refine exP (by omega) ?_ | apply And.intro)))
   all_goals exact .inr ⟨[(r,7,e.args.map ExO),(rp,4,[SpG TT.1 ((Z8 s).length : Int) k true])],rfl,rfl,rfl⟩
  | ok a k=>
   rw[hP] at hp hV he
   have hk:=hp k rfl
   obtain rfl:=he a k rfl
   dsimp only
   rw[show [SpG TT.1 ((Z8 s).length : Int) (PR.ok e k).at (PR.ok e k).err]=[SpG TT.1 ((Z8 s).length : Int) k false] from rfl]
   have hg:Z3 ((r,7,e.args.map ExO)::(rp,4,[SpG TT.1 ((Z8 s).length : Int) k false])::H) rp=some (4,[SpG TT.1 ((Z8 s).length : Int) k false]):=by rw[ZU hrp];exact Z4
   rcases nL k TT.1.length with hlt|hge
   ·have e2:((k:Int)<TT.1.length)=True:=eq_true (by omega)
    have e1:=hK.ng k
    have e3:=hK.ge k
    have hf:=w39 hK k hk false rp ((r,7,e.args.map ExO)::(rp,4,[SpG TT.1 ((Z8 s).length : Int) k false])::H) hg
    rw[if_pos hlt]
    ((try refine qI ?_);(repeat ((first|with_reducible refine qU ?_ | simp only[Z9]);try simp (maxSteps:=9^7) only[↓ S2,S2,Z7,↓reduceIte,reduceNe,reduceEqDiff,reduceCtorEq,reduceLeDiff,reduceAdd,reduceLT,hrp,hg,ZD,Zq,Zr,e2,decide_true,decide_false]));(try simp +contextual (disch:=omega) only[Z2,hrp,hg,ZD,Zq,Zr,e2,decide_true,decide_false]);(with_reducible repeat' (first|intro h|refine And.intro (by omega) ?_ | refine exP (by omega) ?_ | apply And.intro)))
    refine callS.of hf ?_
    rintro _ _ ⟨rfl,rfl⟩ _
    rw[ZE hrp,Yi]
    have hg2:Z3 ((r,7,e.args.map ExO)::(rp,4,[SpG TT.1 ((Z8 s).length : Int) k true])::H) rp=some (4,[SpG TT.1 ((Z8 s).length : Int) k true]):=by rw[ZU hrp];exact Z4
    ((try refine qI ?_);(repeat ((first|with_reducible refine qU ?_ | simp only[Z9]);try simp (maxSteps:=9^7) only[↓ S2,S2,Z7,↓reduceIte,reduceNe,reduceEqDiff,reduceCtorEq,reduceLeDiff,reduceAdd,reduceLT,hrp,hg2,bdO_t,e1,e3,decide_true,decide_false]));(try simp +contextual (disch:=omega) only[Z2,hrp,hg2,bdO_t,e1,e3,decide_true,decide_false]);(with_reducible repeat' (first|intro h|refine And.intro (by omega) ?_ | refine exP (by omega) ?_ | apply And.intro)))
    all_goals exact .inr ⟨[(r,7,e.args.map ExO),(rp,4,[SpG TT.1 ((Z8 s).length : Int) k true])],rfl,rfl,rfl⟩
   ·have e2:((k:Int)<TT.1.length)=False:=eq_false (by omega)
    rw[if_neg (by omega)]
    ((try refine qI ?_);(repeat ((first|with_reducible refine qU ?_ | simp only[Z9]);try simp (maxSteps:=9^7) only[↓ S2,S2,Z7,↓reduceIte,reduceNe,reduceEqDiff,reduceCtorEq,reduceLeDiff,reduceAdd,reduceLT,hrp,hg,ZD,Zq,Zr,e2,decide_true,decide_false]));(try simp +contextual (disch:=omega) only[Z2,hrp,hg,ZD,Zq,Zr,e2,decide_true,decide_false]);(with_reducible repeat' (first|intro h|refine And.intro (by omega) ?_ | refine exP (by omega) ?_ | apply And.intro)))
    obtain ⟨v1,v2⟩:=hV e k rfl
    have hb:Bor ((r,7,e.args.map ExO)::(rp,4,[SpG TT.1 ((Z8 s).length : Int) k false])::H) (EO r e) (Ex e):=bor_EO Z4
    refine callS.borA (w12 e v1 v2) (.cons hb .nil) rfl ?_
    by_cases hv:YZ e=true
    ·rw[hv,if_pos rfl]
     ((try refine qI ?_);(repeat ((first|with_reducible refine qU ?_ | simp only[Z9]);try simp (maxSteps:=9^7) only[↓ S2,S2,Z7,↓reduceIte,reduceNe,reduceEqDiff,reduceCtorEq,reduceLeDiff,reduceAdd,reduceLT,hrp,hg]));(try simp +contextual (disch:=omega) only[Z2,hrp,hg]);(with_reducible repeat' (first|intro h|refine And.intro (by omega) ?_ | refine exP (by omega) ?_ | apply And.intro)))
     all_goals exact .inl ⟨r,rp,_,rfl,rfl⟩
    ·have hv':YZ e=false:=Bool.eq_false_iff.2 hv
     rw[hv',if_neg (by decide)]
     ((try refine qI ?_);(repeat ((first|with_reducible refine qU ?_ | simp only[Z9]);try simp (maxSteps:=9^7) only[↓ S2,S2,Z7,↓reduceIte,reduceNe,reduceEqDiff,reduceCtorEq,reduceLeDiff,reduceAdd,reduceLT,hrp,hg]));(try simp +contextual (disch:=omega) only[Z2,hrp,hg]);(with_reducible repeat' (first|intro h|refine And.intro (by omega) ?_ | refine exP (by omega) ?_ | apply And.intro)))
     all_goals exact .inr ⟨[(r,7,e.args.map ExO),(rp,4,[SpG TT.1 ((Z8 s).length : Int) k false])],rfl,rfl,rfl⟩
theorem w16 (s:ByteArray) (hs:(Z8 s).length ≤ 1048576):Pu 16 [T s] (· = .tup [Ex (Zj (Z8 s)).1,I (Zj (Z8 s)).2]):=
 Pure.bor ((o16 s hs []).mono fun _ _ h=>h.bor)
end Go.Proofs.YtkmedfejmndmjaaGreatDoor
