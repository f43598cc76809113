/- The tied card of the law holds. No condition. -/
import Derived.Test.YtkmedfejmndmjaaGreatDoorPno10
set_option maxHeartbeats 40000000
set_option maxRecDepth 20000
set_option linter.unusedSimpArgs false
set_option linter.unusedVariables false
namespace Go.Proofs.YtkmedfejmndmjaaGreatDoor
open Go.Gh
open Nat (reduceEqDiff reduceLeDiff reduceAdd reduceLT)
open Int (reduceNe)
open Go.Lib
theorem w91 (l:List ByteArray) (sep:ByteArray) (hl:l.length≤4096) (hs:(Z8 sep).length ≤ 8) (hL:∀x∈l,(Z8 x).length ≤ 4096):Pu 91 [.sl 1 (l.map T),T sep] (· = .val (mkS (Zi (Z8 sep) (l.map Z8)))):=by
 have hbd:∀i,(Zi (Z8 sep) ((l.take i).map Z8)).length ≤ 20000000:=by
  intro i
  have h1:=join_le (Z8 sep) 4096 8 hs ((l.take i).map Z8) (by
   intro x hx
   obtain ⟨y,hy,rfl⟩:=List.mem_map.1 hx
   exact hL y (List.mem_of_mem_take hy))
  have h2:((l.take i).map Z8).length ≤ 4096:=by rw[List.length_map,List.length_take];omega
  have h3:=Nat.mul_le_mul_right (4096+8) h2
  omega
 have hst:∀(i:Nat) (hi:i<l.length),Zi (Z8 sep) ((l.take (i+1)).map Z8)=if i=0 then Z8 l[i] else Zi (Z8 sep) ((l.take i).map Z8)++Z8 sep++Z8 l[i]:=by
  intro i hi
  have:=join_take (Z8 sep) (l:=l.map Z8) (i:=i) (by rw[List.length_map];exact hi)
  rw[List.map_take,List.map_take,this]
  simp
 obtain ⟨J,hJ⟩:∃J:Nat→List UInt8,∀i,Zi (Z8 sep) ((l.take i).map Z8)=J i:=⟨_,fun _ => rfl⟩
 have h00:J 0=[]:=by rw[←hJ];rfl
 have hall:Zi (Z8 sep) (l.map Z8)=J l.length:=by rw[←hJ,List.take_length]
 rw[hall]
 simp only[hJ] at hbd hst
 refine Z6 mxd i91 rfl (by simp) ?_;simp (maxSteps:=9^7) only[↓ S2,S2,Z7,↓reduceIte,reduceNe,reduceEqDiff,reduceCtorEq,reduceLeDiff,reduceAdd,reduceLT]
 ((try refine qI ?_);(repeat ((first|with_reducible refine qU ?_ | simp only[Z9]);try simp (maxSteps:=9^7) +contextual only[↓ S2,S2,↓reduceIte,reduceNe,reduceEqDiff,reduceCtorEq,reduceLeDiff,reduceAdd,reduceLT,VQ,]));(try simp +contextual (disch:=omega) only[Z2,]);(with_reducible repeat' (first|intro h|refine And.intro (by omega) ?_ | refine exP (by omega) ?_ | apply And.intro)))
 rename_i r
 refine ploop mxd (ι:={ x:Nat×Nat // x.2≤l.length }) (fun x=>[(0,.sl 1 (l.map T)),(1,T sep),(5,.own x.1.1 1 0 (J x.1.2).length),(6,I x.1.2)]) (fun x=>[(x.1.1,1,(J x.1.2).map U8)]) (fun x=>l.length-x.1.2) ⟨(r,0),by simp⟩ (by simp[E2,h00]) (by simp[subH,Z3,names,h00]) ?_
 rintro ⟨⟨q,i⟩,hi⟩ hn
 dsimp only at hi hn ⊢
 have hb0:=hbd i
 rcases nL i l.length with hlt|hge
 ·have hx:=hL _ (gM hlt)
  have hst:=hst i hlt
  have hb1:=hbd (i+1)
  rw[hst] at hb1
  by_cases h0:i=0
  ·subst h0
   rw[if_pos rfl] at hst hb1
   rw[h00]
   ((try refine qI ?_);(repeat ((first|with_reducible refine qU ?_ | simp only[Z9]);try simp (maxSteps:=9^7) +contextual only[↓ S2,S2,↓reduceIte,reduceNe,reduceEqDiff,reduceCtorEq,reduceLeDiff,reduceAdd,reduceLT,VQ,hlt,List.length_map]));(try simp +contextual (disch:=omega) only[Z2,hlt,List.length_map]);(with_reducible repeat' (first|intro h|refine And.intro (by omega) ?_ | refine exP (by omega) ?_ | apply And.intro)))
   all_goals try exact oF
   rename_i r1
   exact px ⟨(r1,0+1),hlt⟩ (by dsimp only;omega) (by dsimp only;rw[hst];simp[E2]) (by dsimp only;rw[hst];simp[subH,Z3,names])
  ·rw[if_neg h0] at hst hb1
   have h0':0<i:=by omega
   ((try refine qI ?_);(repeat ((first|with_reducible refine qU ?_ | simp only[Z9]);try simp (maxSteps:=9^7) +contextual only[↓ S2,S2,↓reduceIte,reduceNe,reduceEqDiff,reduceCtorEq,reduceLeDiff,reduceAdd,reduceLT,VQ,hlt,h0',List.length_map,takeU8]));(try simp +contextual (disch:=omega) only[Z2,hlt,h0',List.length_map,takeU8]);(with_reducible repeat' (first|intro h|refine And.intro (by omega) ?_ | refine exP (by omega) ?_ | apply And.intro)))
   all_goals try exact oF
   all_goals first|(simp;done)|(simp;omega;done)|skip
   exact px ⟨(h,i+1),hlt⟩ (by dsimp only;omega) (by dsimp only;rw[hst];simp[E2];omega) (by dsimp only;rw[hst];simp[subH,Z3,names,List.take_of_length_le])
 ·obtain rfl:i=l.length:=by omega
  have hge':¬l.length<l.length:=by omega
  ((try refine qI ?_);(repeat ((first|with_reducible refine qU ?_ | simp only[Z9]);try simp (maxSteps:=9^7) +contextual only[↓ S2,S2,↓reduceIte,reduceNe,reduceEqDiff,reduceCtorEq,reduceLeDiff,reduceAdd,reduceLT,VQ,hge',bytesG_map,soT_U8]));(try simp +contextual (disch:=omega) only[Z2,hge',bytesG_map,soT_U8]);(with_reducible repeat' (first|intro h|refine And.intro (by omega) ?_ | refine exP (by omega) ?_ | apply And.intro)))
  ((try refine qI ?_);(repeat ((first|with_reducible refine qU ?_ | simp only[Z9]);try simp (maxSteps:=9^7) +contextual only[↓ S2,S2,↓reduceIte,reduceNe,reduceEqDiff,reduceCtorEq,reduceLeDiff,reduceAdd,reduceLT,VQ,bytesG_map,soT_U8]));(try simp +contextual (disch:=omega) only[Z2,bytesG_map,soT_U8]);(with_reducible repeat' (first|intro h|refine And.intro (by omega) ?_ | refine exP (by omega) ?_ | apply And.intro)))
  all_goals try exact oF
theorem w57 (n t:Int) (hc:(t=1∧0≤n∧n≤1000000)∨(t=2∧0≤n∧n≤4095)∨(t=3∧(n=0∨n=1))):Pu 57 [I n,I t] (· = .val (mkS (ZO (.mk 1 n 0 t noS noS [])))):=by
 have hok:=okV_con hc
 have hty:=w90 n t
 rw[hok] at hty
 rcases hc with ⟨rfl,h0,h1⟩|⟨rfl,h0,h1⟩|⟨rfl,h1⟩
 ·rw[txt_num]
  refine Z6 mxd i57 rfl (by simp) ?_;simp (maxSteps:=9^7) only[↓ S2,S2,Z7,↓reduceIte,reduceNe,reduceEqDiff,reduceCtorEq,reduceLeDiff,reduceAdd,reduceLT]
  ((try refine qI ?_);(repeat ((first|with_reducible refine qU ?_ | simp only[Z9]);try simp (maxSteps:=9^7) +contextual only[↓ S2,S2,↓reduceIte,reduceNe,reduceEqDiff,reduceCtorEq,reduceLeDiff,reduceAdd,reduceLT,VQ,]));(try simp +contextual (disch:=omega) only[Z2,]);(with_reducible repeat' (first|intro h|refine And.intro (by omega) ?_ | refine exP (by omega) ?_ | apply And.intro)))
  refine callS.eq hty ?_
  ((try refine qI ?_);(repeat ((first|with_reducible refine qU ?_ | simp only[Z9]);try simp (maxSteps:=9^7) +contextual only[↓ S2,S2,↓reduceIte,reduceNe,reduceEqDiff,reduceCtorEq,reduceLeDiff,reduceAdd,reduceLT,VQ,]));(try simp +contextual (disch:=omega) only[Z2,]);(with_reducible repeat' (first|intro h|refine And.intro (by omega) ?_ | refine exP (by omega) ?_ | apply And.intro)))
  refine callS.eq (w58 n (by omega) (by omega)) ?_
  ((try refine qI ?_);(repeat ((first|with_reducible refine qU ?_ | simp only[Z9]);try simp (maxSteps:=9^7) +contextual only[↓ S2,S2,↓reduceIte,reduceNe,reduceEqDiff,reduceCtorEq,reduceLeDiff,reduceAdd,reduceLT,VQ,]));(try simp +contextual (disch:=omega) only[Z2,]);(with_reducible repeat' (first|intro h|refine And.intro (by omega) ?_ | refine exP (by omega) ?_ | apply And.intro)))
 ·rw[txt_set]
  have hjl:(Zi [32] ((YS n).map fun k:Nat=>itoa k)).length ≤ 96:=by
   have h3:=join_len ((YS n).map fun k:Nat=>itoa k) (by
    intro x hx
    obtain ⟨k,hk,rfl⟩:=List.mem_map.1 hx
    have:=(setL_lt n).2 k hk
    exact YL (by omega) (by omega))
   have h4:=setL_len n
   rw[List.length_map] at h3
   omega
  refine Z6 mxd i57 rfl (by simp) ?_;simp (maxSteps:=9^7) only[↓ S2,S2,Z7,↓reduceIte,reduceNe,reduceEqDiff,reduceCtorEq,reduceLeDiff,reduceAdd,reduceLT]
  ((try refine qI ?_);(repeat ((first|with_reducible refine qU ?_ | simp only[Z9]);try simp (maxSteps:=9^7) +contextual only[↓ S2,S2,↓reduceIte,reduceNe,reduceEqDiff,reduceCtorEq,reduceLeDiff,reduceAdd,reduceLT,VQ,]));(try simp +contextual (disch:=omega) only[Z2,]);(with_reducible repeat' (first|intro h|refine And.intro (by omega) ?_ | refine exP (by omega) ?_ | apply And.intro)))
  refine callS.eq hty ?_
  ((try refine qI ?_);(repeat ((first|with_reducible refine qU ?_ | simp only[Z9]);try simp (maxSteps:=9^7) +contextual only[↓ S2,S2,↓reduceIte,reduceNe,reduceEqDiff,reduceCtorEq,reduceLeDiff,reduceAdd,reduceLT,VQ,]));(try simp +contextual (disch:=omega) only[Z2,]);(with_reducible repeat' (first|intro h|refine And.intro (by omega) ?_ | refine exP (by omega) ?_ | apply And.intro)))
  rename_i r
  refine ploop mxd (ι:={ x:Nat×Nat // x.2≤12 }) (fun x=>[(0,I n),(1,I 2),(5,.own x.1.1 1 0 (setK n x.1.2).length),(6,I x.1.2)]) (fun x=>[(x.1.1,1,((setK n x.1.2).map nS).map T)]) (fun x=>12-x.1.2) ⟨(r,0),by simp⟩ (by simp[E2,setK_zero]) (by simp[subH,Z3,names,setK_zero]) ?_
  rintro ⟨⟨q,i⟩,hi⟩ hn
  dsimp only at hi hn ⊢
  have hkl:=setK_len n i
  rcases nL i 12 with hlt|hge
  ·have hit:((i:Int)≤11)=True:=eq_true (by omega)
   have hwu:=wrapU (i:Int) (by omega) (by omega)
   have hbt:=bit_of h0 h1 (k:=i) (by omega)
   have hst:=setK_succ n i
   cases hb:n.toNat.testBit i with
   | true=>
    rw[hb,if_pos rfl] at hbt hst
    ((try refine qI ?_);(repeat ((first|with_reducible refine qU ?_ | simp only[Z9]);try simp (maxSteps:=9^7) +contextual only[↓ S2,S2,↓reduceIte,reduceNe,reduceEqDiff,reduceCtorEq,reduceLeDiff,reduceAdd,reduceLT,VQ,hit,hwu,hbt]));(try simp +contextual (disch:=omega) only[Z2,hit,hwu,hbt]);(with_reducible repeat' (first|intro h|refine And.intro (by omega) ?_ | refine exP (by omega) ?_ | apply And.intro)))
    all_goals try exact oF
    refine callS.eq (w58 (i:Int) (by omega) (by omega)) ?_
    ((try refine qI ?_);(repeat ((first|with_reducible refine qU ?_ | simp only[Z9]);try simp (maxSteps:=9^7) +contextual only[↓ S2,S2,↓reduceIte,reduceNe,reduceEqDiff,reduceCtorEq,reduceLeDiff,reduceAdd,reduceLT,VQ,List.length_map]));(try simp +contextual (disch:=omega) only[Z2,List.length_map]);(with_reducible repeat' (first|intro h|refine And.intro (by omega) ?_ | refine exP (by omega) ?_ | apply And.intro)))
    all_goals try exact oF
    all_goals try (simp;omega;done)
    rename_i r1 _ r2
    exact px ⟨(r2,i+1),hlt⟩ (by dsimp only;omega) (by dsimp only;rw[hst];simp[E2]) (by dsimp only;rw[hst];simp[subH,Z3,names,List.take_of_length_le])
   | false=>
    rw[hb,if_neg (by decide)] at hbt hst
    ((try refine qI ?_);(repeat ((first|with_reducible refine qU ?_ | simp only[Z9]);try simp (maxSteps:=9^7) +contextual only[↓ S2,S2,↓reduceIte,reduceNe,reduceEqDiff,reduceCtorEq,reduceLeDiff,reduceAdd,reduceLT,VQ,hit,hwu,hbt]));(try simp +contextual (disch:=omega) only[Z2,hit,hwu,hbt]);(with_reducible repeat' (first|intro h|refine And.intro (by omega) ?_ | refine exP (by omega) ?_ | apply And.intro)))
    all_goals try exact oF
    exact px ⟨(q,i+1),hlt⟩ (by dsimp only;omega) (by dsimp only;rw[hst];simp[E2]) (by dsimp only;rw[hst];simp[subH,Z3,names])
  ·obtain rfl:i=12:=by omega
   have hit:(((12:Nat):Int)≤11)=False:=eq_false (by omega)
   ((try refine qI ?_);(repeat ((first|with_reducible refine qU ?_ | simp only[Z9]);try simp (maxSteps:=9^7) +contextual only[↓ S2,S2,↓reduceIte,reduceNe,reduceEqDiff,reduceCtorEq,reduceLeDiff,reduceAdd,reduceLT,VQ,hit]));(try simp +contextual (disch:=omega) only[Z2,hit]);(with_reducible repeat' (first|intro h|refine And.intro (by omega) ?_ | refine exP (by omega) ?_ | apply And.intro)))
   all_goals try exact oF
   refine callS.borA (w91 ((YS n).map nS) ⟨#[32]⟩ (by have:=setL_len n;rw[List.length_map];omega) (by decide) (by
    intro x hx
    obtain ⟨k,hk,rfl⟩:=List.mem_map.1 hx
    have:=(setL_lt n).2 k hk
    exact Nat.le_trans (YL (n:=(k:Int)) (by omega) (by omega)) (by omega))) (.cons (Bor.seen (f:=T) (fun a=>by simp[view,YJ]) Z4 (by rw[List.length_map];rfl)) (.cons .refl .nil)) rfl ?_
   have ej:((YS n).map nS).map Z8=(YS n).map fun k:Nat=>itoa k:=by rw[List.map_map];rfl
   rw[ej,show Z8 ⟨#[32]⟩=[32] from rfl]
   generalize Zi [32] ((YS n).map fun k:Nat=>itoa k)=J at *
   ((try refine qI ?_);(repeat ((first|with_reducible refine qU ?_ | simp only[Z9]);try simp (maxSteps:=9^7) +contextual only[↓ S2,S2,↓reduceIte,reduceNe,reduceEqDiff,reduceCtorEq,reduceLeDiff,reduceAdd,reduceLT,VQ,]));(try simp +contextual (disch:=omega) only[Z2,]);(with_reducible repeat' (first|intro h|refine And.intro (by omega) ?_ | refine exP (by omega) ?_ | apply And.intro)))
   all_goals first|(exfalso;omega)|(simp[chA];done)|(simp[chA];omega)
 ·rw[txt_bool]
  rcases h1 with rfl|rfl
  ·refine Z6 mxd i57 rfl (by simp) ?_;simp (maxSteps:=9^7) only[↓ S2,S2,Z7,↓reduceIte,reduceNe,reduceEqDiff,reduceCtorEq,reduceLeDiff,reduceAdd,reduceLT]
   ((try refine qI ?_);(repeat ((first|with_reducible refine qU ?_ | simp only[Z9]);try simp (maxSteps:=9^7) +contextual only[↓ S2,S2,↓reduceIte,reduceNe,reduceEqDiff,reduceCtorEq,reduceLeDiff,reduceAdd,reduceLT,VQ,]));(try simp +contextual (disch:=omega) only[Z2,]);(with_reducible repeat' (first|intro h|refine And.intro (by omega) ?_ | refine exP (by omega) ?_ | apply And.intro)))
   refine callS.eq hty ?_
   ((try refine qI ?_);(repeat ((first|with_reducible refine qU ?_ | simp only[Z9]);try simp (maxSteps:=9^7) +contextual only[↓ S2,S2,↓reduceIte,reduceNe,reduceEqDiff,reduceCtorEq,reduceLeDiff,reduceAdd,reduceLT,VQ,]));(try simp +contextual (disch:=omega) only[Z2,]);(with_reducible repeat' (first|intro h|refine And.intro (by omega) ?_ | refine exP (by omega) ?_ | apply And.intro)))
   all_goals rfl
  ·refine Z6 mxd i57 rfl (by simp) ?_;simp (maxSteps:=9^7) only[↓ S2,S2,Z7,↓reduceIte,reduceNe,reduceEqDiff,reduceCtorEq,reduceLeDiff,reduceAdd,reduceLT]
   ((try refine qI ?_);(repeat ((first|with_reducible refine qU ?_ | simp only[Z9]);try simp (maxSteps:=9^7) +contextual only[↓ S2,S2,↓reduceIte,reduceNe,reduceEqDiff,reduceCtorEq,reduceLeDiff,reduceAdd,reduceLT,VQ,]));(try simp +contextual (disch:=omega) only[Z2,]);(with_reducible repeat' (first|intro h|refine And.intro (by omega) ?_ | refine exP (by omega) ?_ | apply And.intro)))
   refine callS.eq hty ?_
   ((try refine qI ?_);(repeat ((first|with_reducible refine qU ?_ | simp only[Z9]);try simp (maxSteps:=9^7) +contextual only[↓ S2,S2,↓reduceIte,reduceNe,reduceEqDiff,reduceCtorEq,reduceLeDiff,reduceAdd,reduceLT,VQ,]));(try simp +contextual (disch:=omega) only[Z2,]);(with_reducible repeat' (first|intro h|refine And.intro (by omega) ?_ | refine exP (by omega) ?_ | apply And.intro)))
   all_goals rfl
theorem w92 (e:Exp):Pu 92 [Ex e] (· = I (lvE e)):=by
 refine Z6 mxd i92 rfl (by simp) ?_;simp (maxSteps:=9^7) only[↓ S2,S2,Z7,↓reduceIte,reduceNe,reduceEqDiff,reduceCtorEq,reduceLeDiff,reduceAdd,reduceLT]
 ((try refine qI ?_);(repeat ((first|with_reducible refine qU ?_ | simp only[Z9]);try simp (maxSteps:=9^7) +contextual only[↓ S2,S2,↓reduceIte,reduceNe,reduceEqDiff,reduceCtorEq,reduceLeDiff,reduceAdd,reduceLT,VQ,XE]));(try simp +contextual (disch:=omega) only[Z2,XE]);(with_reducible repeat' (first|intro h|refine And.intro (by omega) ?_ | refine exP (by omega) ?_ | apply And.intro)))
 all_goals first|(simp[lvE,ZB, *];done)|(simp[lvE,ZB, *];omega)|trace_state
theorem Tryz.at7 (e:Exp) (L:Nat) (hL:L≤4) (hlen:(ZO e).length ≤ 1000000) (h:Pu 29 [Ex e] (· = .val (mkS (ZO e)))):Pu 59 [Ex e,I L] (· = .val (mkS (oprT L e))):=by
 have hlv:=lvE_bd e
 rw[oprT_eq]
 generalize ZO e=A at *
 by_cases hc:lvE e<L
 ·rw[if_pos hc]
  have hc':((lvE e:Int)<(L:Int))=True:=eq_true (by omega)
  refine Z6 mxd i59 rfl (by simp) ?_;simp (maxSteps:=9^7) only[↓ S2,S2,Z7,↓reduceIte,reduceNe,reduceEqDiff,reduceCtorEq,reduceLeDiff,reduceAdd,reduceLT]
  ((try refine qI ?_);(repeat ((first|with_reducible refine qU ?_ | simp only[Z9]);try simp (maxSteps:=9^7) +contextual only[↓ S2,S2,↓reduceIte,reduceNe,reduceEqDiff,reduceCtorEq,reduceLeDiff,reduceAdd,reduceLT,VQ,XE]));(try simp +contextual (disch:=omega) only[Z2,XE]);(with_reducible repeat' (first|intro h|refine And.intro (by omega) ?_ | refine exP (by omega) ?_ | apply And.intro)))
  refine callS.eq h ?_
  ((try refine qI ?_);(repeat ((first|with_reducible refine qU ?_ | simp only[Z9]);try simp (maxSteps:=9^7) +contextual only[↓ S2,S2,↓reduceIte,reduceNe,reduceEqDiff,reduceCtorEq,reduceLeDiff,reduceAdd,reduceLT,VQ,XE]));(try simp +contextual (disch:=omega) only[Z2,XE]);(with_reducible repeat' (first|intro h|refine And.intro (by omega) ?_ | refine exP (by omega) ?_ | apply And.intro)))
  refine callS.eq (w92 e) ?_
  ((try refine qI ?_);(repeat ((first|with_reducible refine qU ?_ | simp only[Z9]);try simp (maxSteps:=9^7) +contextual only[↓ S2,S2,↓reduceIte,reduceNe,reduceEqDiff,reduceCtorEq,reduceLeDiff,reduceAdd,reduceLT,VQ,hc']));(try simp +contextual (disch:=omega) only[Z2,hc']);(with_reducible repeat' (first|intro h|refine And.intro (by omega) ?_ | refine exP (by omega) ?_ | apply And.intro)))
  all_goals first|(exfalso;omega)|(simp[chA];done)|(simp[chA];omega)|trace_state
 ·rw[if_neg hc]
  have hc':((lvE e:Int)<(L:Int))=False:=eq_false (by omega)
  refine Z6 mxd i59 rfl (by simp) ?_;simp (maxSteps:=9^7) only[↓ S2,S2,Z7,↓reduceIte,reduceNe,reduceEqDiff,reduceCtorEq,reduceLeDiff,reduceAdd,reduceLT]
  ((try refine qI ?_);(repeat ((first|with_reducible refine qU ?_ | simp only[Z9]);try simp (maxSteps:=9^7) +contextual only[↓ S2,S2,↓reduceIte,reduceNe,reduceEqDiff,reduceCtorEq,reduceLeDiff,reduceAdd,reduceLT,VQ,XE]));(try simp +contextual (disch:=omega) only[Z2,XE]);(with_reducible repeat' (first|intro h|refine And.intro (by omega) ?_ | refine exP (by omega) ?_ | apply And.intro)))
  refine callS.eq h ?_
  ((try refine qI ?_);(repeat ((first|with_reducible refine qU ?_ | simp only[Z9]);try simp (maxSteps:=9^7) +contextual only[↓ S2,S2,↓reduceIte,reduceNe,reduceEqDiff,reduceCtorEq,reduceLeDiff,reduceAdd,reduceLT,VQ,XE]));(try simp +contextual (disch:=omega) only[Z2,XE]);(with_reducible repeat' (first|intro h|refine And.intro (by omega) ?_ | refine exP (by omega) ?_ | apply And.intro)))
  refine callS.eq (w92 e) ?_
  ((try refine qI ?_);(repeat ((first|with_reducible refine qU ?_ | simp only[Z9]);try simp (maxSteps:=9^7) +contextual only[↓ S2,S2,↓reduceIte,reduceNe,reduceEqDiff,reduceCtorEq,reduceLeDiff,reduceAdd,reduceLT,VQ,hc']));(try simp +contextual (disch:=omega) only[Z2,hc']);(with_reducible repeat' (first|intro h|refine And.intro (by omega) ?_ | refine exP (by omega) ?_ | apply And.intro)))
  all_goals first|(exfalso;omega)|(simp[chA];done)|(simp[chA];omega)|trace_state
theorem Tryz.op7 (e a b:Exp) (h:IsOp e a b) (he:e = .mk 4 e.n 0 0 noS noS [a,b]) (hla:(ZO a).length ≤ 500000) (hlb:(ZO b).length ≤ 500000)
 (ha:Pu 29 [Ex a] (· = .val (mkS (ZO a)))) (hb:Pu 29 [Ex b] (· = .val (mkS (ZO b)))):Pu 60 [Ex e] (· = .val (mkS (ZO e))):=by
 have n0:=h.n0
 have n1:=h.n1
 have hk:=h.k
 have hag:=h.a
 have hga:Go.Gh.isAgg (Ex a)=true:=by rw[ZC];rfl
 have hgb:Go.Gh.isAgg (Ex b)=true:=by rw[ZC];rfl
 have hw:=opW_get n0 n1
 have hwl:=opW_len e.n (mem12 n0 n1)
 have hlv:=w92 e
 rw[lvE_4 hk] at hlv
 have htx:=h.txt he
 rw[htx]
 clear htx he h
 rcases opLv_cases e.n with h4|h4|h4|h4
 ·have hA:=Tryz.at7 a 2 (by omega) (by omega) ha
  have hB:=Tryz.at7 b (1+1) (by omega) (by omega) hb
  have hAl:=YU 2 a
  have hBl:=YU (1+1) b
  rw[h4] at hlv ⊢
  rw[if_neg (by decide),show max 1 2=2 from rfl]
  replace hlv:Pu 92 [Ex e] (· = I 1):=hlv
  generalize oprT 2 a=A at *
  generalize oprT (1+1) b=B at *
  refine Z6 mxd i60 rfl (by simp) ?_;simp (maxSteps:=9^7) only[↓ S2,S2,Z7,↓reduceIte,reduceNe,reduceEqDiff,reduceCtorEq,reduceLeDiff,reduceAdd,reduceLT]
  ((try refine qI ?_);(repeat ((first|with_reducible refine qU ?_ | simp only[Z9]);try simp (maxSteps:=9^7) +contextual only[↓ S2,S2,↓reduceIte,reduceNe,reduceEqDiff,reduceCtorEq,reduceLeDiff,reduceAdd,reduceLT,VQ,XE]));(try simp +contextual (disch:=omega) only[Z2,XE]);(with_reducible repeat' (first|intro h|refine And.intro (by omega) ?_ | refine exP (by omega) ?_ | apply And.intro)))
  refine callS.eq hlv ?_
  ((try refine qI ?_);(repeat ((first|with_reducible refine qU ?_ | simp only[Z9]);try simp (maxSteps:=9^7) +contextual only[↓ S2,S2,↓reduceIte,reduceNe,reduceEqDiff,reduceCtorEq,reduceLeDiff,reduceAdd,reduceLT,VQ,XE,hag,hga,hgb,hw,Int.reduceToNat,List.getElem_cons_zero,List.getElem_cons_succ]));(try simp +contextual (disch:=omega) only[Z2,XE,hag,hga,hgb,hw,Int.reduceToNat,List.getElem_cons_zero,List.getElem_cons_succ]);(with_reducible repeat' (first|intro h|refine And.intro (by omega) ?_ | refine exP (by omega) ?_ | apply And.intro)))
  ((try refine qI ?_);(repeat ((first|with_reducible refine qU ?_ | simp only[Z9]);try simp (maxSteps:=9^7) +contextual only[↓ S2,S2,↓reduceIte,reduceNe,reduceEqDiff,reduceCtorEq,reduceLeDiff,reduceAdd,reduceLT,VQ,XE,hag,hga,hgb,hw,Int.reduceToNat,List.getElem_cons_zero,List.getElem_cons_succ]));(try simp +contextual (disch:=omega) only[Z2,XE,hag,hga,hgb,hw,Int.reduceToNat,List.getElem_cons_zero,List.getElem_cons_succ]);(with_reducible repeat' (first|intro h|refine And.intro (by omega) ?_ | refine exP (by omega) ?_ | apply And.intro)))
  all_goals try exact oF
  refine callS.eq (w61 1 2) ?_
  rw[show max (1:Int) 2=((2:Nat):Int) from rfl]
  ((try refine qI ?_);(repeat ((first|with_reducible refine qU ?_ | simp only[Z9]);try simp (maxSteps:=9^7) +contextual only[↓ S2,S2,↓reduceIte,reduceNe,reduceEqDiff,reduceCtorEq,reduceLeDiff,reduceAdd,reduceLT,VQ,XE,hag,hga,hgb,hw,Int.reduceToNat,List.getElem_cons_zero,List.getElem_cons_succ]));(try simp +contextual (disch:=omega) only[Z2,XE,hag,hga,hgb,hw,Int.reduceToNat,List.getElem_cons_zero,List.getElem_cons_succ]);(with_reducible repeat' (first|intro h|refine And.intro (by omega) ?_ | refine exP (by omega) ?_ | apply And.intro)))
  refine callS.eq hA ?_
  ((try refine qI ?_);(repeat ((first|with_reducible refine qU ?_ | simp only[Z9]);try simp (maxSteps:=9^7) +contextual only[↓ S2,S2,↓reduceIte,reduceNe,reduceEqDiff,reduceCtorEq,reduceLeDiff,reduceAdd,reduceLT,VQ,XE,hag,hga,hgb,hw,Int.reduceToNat,List.getElem_cons_zero,List.getElem_cons_succ]));(try simp +contextual (disch:=omega) only[Z2,XE,hag,hga,hgb,hw,Int.reduceToNat,List.getElem_cons_zero,List.getElem_cons_succ]);(with_reducible repeat' (first|intro h|refine And.intro (by omega) ?_ | refine exP (by omega) ?_ | apply And.intro)))
  ((try refine qI ?_);(repeat ((first|with_reducible refine qU ?_ | simp only[Z9]);try simp (maxSteps:=9^7) +contextual only[↓ S2,S2,↓reduceIte,reduceNe,reduceEqDiff,reduceCtorEq,reduceLeDiff,reduceAdd,reduceLT,VQ,XE,hag,hga,hgb,hw,Int.reduceToNat,List.getElem_cons_zero,List.getElem_cons_succ]));(try simp +contextual (disch:=omega) only[Z2,XE,hag,hga,hgb,hw,Int.reduceToNat,List.getElem_cons_zero,List.getElem_cons_succ]);(with_reducible repeat' (first|intro h|refine And.intro (by omega) ?_ | refine exP (by omega) ?_ | apply And.intro)))
  all_goals first|(exfalso;omega)|(simp only[chA,List.length_append,List.length_cons,List.length_nil];omega)|(simp[chA];done)|skip
  refine callS.eq hB ?_
  ((try refine qI ?_);(repeat ((first|with_reducible refine qU ?_ | simp only[Z9]);try simp (maxSteps:=9^7) +contextual only[↓ S2,S2,↓reduceIte,reduceNe,reduceEqDiff,reduceCtorEq,reduceLeDiff,reduceAdd,reduceLT,VQ,]));(try simp +contextual (disch:=omega) only[Z2,]);(with_reducible repeat' (first|intro h|refine And.intro (by omega) ?_ | refine exP (by omega) ?_ | apply And.intro)))
  all_goals first|(exfalso;omega)|(simp only[chA,List.length_append,List.length_cons,List.length_nil];omega)|(simp[chA];done)|trace_state
 ·have hA:=Tryz.at7 a 2 (by omega) (by omega) ha
  have hB:=Tryz.at7 b (2+1) (by omega) (by omega) hb
  have hAl:=YU 2 a
  have hBl:=YU (2+1) b
  rw[h4] at hlv ⊢
  rw[if_neg (by decide),show max 2 2=2 from rfl]
  replace hlv:Pu 92 [Ex e] (· = I 2):=hlv
  generalize oprT 2 a=A at *
  generalize oprT (2+1) b=B at *
  refine Z6 mxd i60 rfl (by simp) ?_;simp (maxSteps:=9^7) only[↓ S2,S2,Z7,↓reduceIte,reduceNe,reduceEqDiff,reduceCtorEq,reduceLeDiff,reduceAdd,reduceLT]
  ((try refine qI ?_);(repeat ((first|with_reducible refine qU ?_ | simp only[Z9]);try simp (maxSteps:=9^7) +contextual only[↓ S2,S2,↓reduceIte,reduceNe,reduceEqDiff,reduceCtorEq,reduceLeDiff,reduceAdd,reduceLT,VQ,XE]));(try simp +contextual (disch:=omega) only[Z2,XE]);(with_reducible repeat' (first|intro h|refine And.intro (by omega) ?_ | refine exP (by omega) ?_ | apply And.intro)))
  refine callS.eq hlv ?_
  ((try refine qI ?_);(repeat ((first|with_reducible refine qU ?_ | simp only[Z9]);try simp (maxSteps:=9^7) +contextual only[↓ S2,S2,↓reduceIte,reduceNe,reduceEqDiff,reduceCtorEq,reduceLeDiff,reduceAdd,reduceLT,VQ,XE,hag,hga,hgb,hw,Int.reduceToNat,List.getElem_cons_zero,List.getElem_cons_succ]));(try simp +contextual (disch:=omega) only[Z2,XE,hag,hga,hgb,hw,Int.reduceToNat,List.getElem_cons_zero,List.getElem_cons_succ]);(with_reducible repeat' (first|intro h|refine And.intro (by omega) ?_ | refine exP (by omega) ?_ | apply And.intro)))
  ((try refine qI ?_);(repeat ((first|with_reducible refine qU ?_ | simp only[Z9]);try simp (maxSteps:=9^7) +contextual only[↓ S2,S2,↓reduceIte,reduceNe,reduceEqDiff,reduceCtorEq,reduceLeDiff,reduceAdd,reduceLT,VQ,XE,hag,hga,hgb,hw,Int.reduceToNat,List.getElem_cons_zero,List.getElem_cons_succ]));(try simp +contextual (disch:=omega) only[Z2,XE,hag,hga,hgb,hw,Int.reduceToNat,List.getElem_cons_zero,List.getElem_cons_succ]);(with_reducible repeat' (first|intro h|refine And.intro (by omega) ?_ | refine exP (by omega) ?_ | apply And.intro)))
  all_goals try exact oF
  refine callS.eq (w61 2 2) ?_
  rw[show max (2:Int) 2=((2:Nat):Int) from rfl]
  ((try refine qI ?_);(repeat ((first|with_reducible refine qU ?_ | simp only[Z9]);try simp (maxSteps:=9^7) +contextual only[↓ S2,S2,↓reduceIte,reduceNe,reduceEqDiff,reduceCtorEq,reduceLeDiff,reduceAdd,reduceLT,VQ,XE,hag,hga,hgb,hw,Int.reduceToNat,List.getElem_cons_zero,List.getElem_cons_succ]));(try simp +contextual (disch:=omega) only[Z2,XE,hag,hga,hgb,hw,Int.reduceToNat,List.getElem_cons_zero,List.getElem_cons_succ]);(with_reducible repeat' (first|intro h|refine And.intro (by omega) ?_ | refine exP (by omega) ?_ | apply And.intro)))
  refine callS.eq hA ?_
  ((try refine qI ?_);(repeat ((first|with_reducible refine qU ?_ | simp only[Z9]);try simp (maxSteps:=9^7) +contextual only[↓ S2,S2,↓reduceIte,reduceNe,reduceEqDiff,reduceCtorEq,reduceLeDiff,reduceAdd,reduceLT,VQ,XE,hag,hga,hgb,hw,Int.reduceToNat,List.getElem_cons_zero,List.getElem_cons_succ]));(try simp +contextual (disch:=omega) only[Z2,XE,hag,hga,hgb,hw,Int.reduceToNat,List.getElem_cons_zero,List.getElem_cons_succ]);(with_reducible repeat' (first|intro h|refine And.intro (by omega) ?_ | refine exP (by omega) ?_ | apply And.intro)))
  ((try refine qI ?_);(repeat ((first|with_reducible refine qU ?_ | simp only[Z9]);try simp (maxSteps:=9^7) +contextual only[↓ S2,S2,↓reduceIte,reduceNe,reduceEqDiff,reduceCtorEq,reduceLeDiff,reduceAdd,reduceLT,VQ,XE,hag,hga,hgb,hw,Int.reduceToNat,List.getElem_cons_zero,List.getElem_cons_succ]));(try simp +contextual (disch:=omega) only[Z2,XE,hag,hga,hgb,hw,Int.reduceToNat,List.getElem_cons_zero,List.getElem_cons_succ]);(with_reducible repeat' (first|intro h|refine And.intro (by omega) ?_ | refine exP (by omega) ?_ | apply And.intro)))
  all_goals first|(exfalso;omega)|(simp only[chA,List.length_append,List.length_cons,List.length_nil];omega)|(simp[chA];done)|skip
  refine callS.eq hB ?_
  ((try refine qI ?_);(repeat ((first|with_reducible refine qU ?_ | simp only[Z9]);try simp (maxSteps:=9^7) +contextual only[↓ S2,S2,↓reduceIte,reduceNe,reduceEqDiff,reduceCtorEq,reduceLeDiff,reduceAdd,reduceLT,VQ,]));(try simp +contextual (disch:=omega) only[Z2,]);(with_reducible repeat' (first|intro h|refine And.intro (by omega) ?_ | refine exP (by omega) ?_ | apply And.intro)))
  all_goals first|(exfalso;omega)|(simp only[chA,List.length_append,List.length_cons,List.length_nil];omega)|(simp[chA];done)|trace_state
 ·have hA:=Tryz.at7 a 3 (by omega) (by omega) ha
  have hB:=Tryz.at7 b (3+1) (by omega) (by omega) hb
  have hAl:=YU 3 a
  have hBl:=YU (3+1) b
  rw[h4] at hlv ⊢
  rw[if_neg (by decide),show max 3 2=3 from rfl]
  replace hlv:Pu 92 [Ex e] (· = I 3):=hlv
  generalize oprT 3 a=A at *
  generalize oprT (3+1) b=B at *
  refine Z6 mxd i60 rfl (by simp) ?_;simp (maxSteps:=9^7) only[↓ S2,S2,Z7,↓reduceIte,reduceNe,reduceEqDiff,reduceCtorEq,reduceLeDiff,reduceAdd,reduceLT]
  ((try refine qI ?_);(repeat ((first|with_reducible refine qU ?_ | simp only[Z9]);try simp (maxSteps:=9^7) +contextual only[↓ S2,S2,↓reduceIte,reduceNe,reduceEqDiff,reduceCtorEq,reduceLeDiff,reduceAdd,reduceLT,VQ,XE]));(try simp +contextual (disch:=omega) only[Z2,XE]);(with_reducible repeat' (first|intro h|refine And.intro (by omega) ?_ | refine exP (by omega) ?_ | apply And.intro)))
  refine callS.eq hlv ?_
  ((try refine qI ?_);(repeat ((first|with_reducible refine qU ?_ | simp only[Z9]);try simp (maxSteps:=9^7) +contextual only[↓ S2,S2,↓reduceIte,reduceNe,reduceEqDiff,reduceCtorEq,reduceLeDiff,reduceAdd,reduceLT,VQ,XE,hag,hga,hgb,hw,Int.reduceToNat,List.getElem_cons_zero,List.getElem_cons_succ]));(try simp +contextual (disch:=omega) only[Z2,XE,hag,hga,hgb,hw,Int.reduceToNat,List.getElem_cons_zero,List.getElem_cons_succ]);(with_reducible repeat' (first|intro h|refine And.intro (by omega) ?_ | refine exP (by omega) ?_ | apply And.intro)))
  ((try refine qI ?_);(repeat ((first|with_reducible refine qU ?_ | simp only[Z9]);try simp (maxSteps:=9^7) +contextual only[↓ S2,S2,↓reduceIte,reduceNe,reduceEqDiff,reduceCtorEq,reduceLeDiff,reduceAdd,reduceLT,VQ,XE,hag,hga,hgb,hw,Int.reduceToNat,List.getElem_cons_zero,List.getElem_cons_succ]));(try simp +contextual (disch:=omega) only[Z2,XE,hag,hga,hgb,hw,Int.reduceToNat,List.getElem_cons_zero,List.getElem_cons_succ]);(with_reducible repeat' (first|intro h|refine And.intro (by omega) ?_ | refine exP (by omega) ?_ | apply And.intro)))
  all_goals try exact oF
  refine callS.eq (w61 3 2) ?_
  rw[show max (3:Int) 2=((3:Nat):Int) from rfl]
  ((try refine qI ?_);(repeat ((first|with_reducible refine qU ?_ | simp only[Z9]);try simp (maxSteps:=9^7) +contextual only[↓ S2,S2,↓reduceIte,reduceNe,reduceEqDiff,reduceCtorEq,reduceLeDiff,reduceAdd,reduceLT,VQ,XE,hag,hga,hgb,hw,Int.reduceToNat,List.getElem_cons_zero,List.getElem_cons_succ]));(try simp +contextual (disch:=omega) only[Z2,XE,hag,hga,hgb,hw,Int.reduceToNat,List.getElem_cons_zero,List.getElem_cons_succ]);(with_reducible repeat' (first|intro h|refine And.intro (by omega) ?_ | refine exP (by omega) ?_ | apply And.intro)))
  refine callS.eq hA ?_
  ((try refine qI ?_);(repeat ((first|with_reducible refine qU ?_ | simp only[Z9]);try simp (maxSteps:=9^7) +contextual only[↓ S2,S2,↓reduceIte,reduceNe,reduceEqDiff,reduceCtorEq,reduceLeDiff,reduceAdd,reduceLT,VQ,XE,hag,hga,hgb,hw,Int.reduceToNat,List.getElem_cons_zero,List.getElem_cons_succ]));(try simp +contextual (disch:=omega) only[Z2,XE,hag,hga,hgb,hw,Int.reduceToNat,List.getElem_cons_zero,List.getElem_cons_succ]);(with_reducible repeat' (first|intro h|refine And.intro (by omega) ?_ | refine exP (by omega) ?_ | apply And.intro)))
  ((try refine qI ?_);(repeat ((first|with_reducible refine qU ?_ | simp only[Z9]);try simp (maxSteps:=9^7) +contextual only[↓ S2,S2,↓reduceIte,reduceNe,reduceEqDiff,reduceCtorEq,reduceLeDiff,reduceAdd,reduceLT,VQ,XE,hag,hga,hgb,hw,Int.reduceToNat,List.getElem_cons_zero,List.getElem_cons_succ]));(try simp +contextual (disch:=omega) only[Z2,XE,hag,hga,hgb,hw,Int.reduceToNat,List.getElem_cons_zero,List.getElem_cons_succ]);(with_reducible repeat' (first|intro h|refine And.intro (by omega) ?_ | refine exP (by omega) ?_ | apply And.intro)))
  all_goals first|(exfalso;omega)|(simp only[chA,List.length_append,List.length_cons,List.length_nil];omega)|(simp[chA];done)|skip
  refine callS.eq hB ?_
  ((try refine qI ?_);(repeat ((first|with_reducible refine qU ?_ | simp only[Z9]);try simp (maxSteps:=9^7) +contextual only[↓ S2,S2,↓reduceIte,reduceNe,reduceEqDiff,reduceCtorEq,reduceLeDiff,reduceAdd,reduceLT,VQ,]));(try simp +contextual (disch:=omega) only[Z2,]);(with_reducible repeat' (first|intro h|refine And.intro (by omega) ?_ | refine exP (by omega) ?_ | apply And.intro)))
  all_goals first|(exfalso;omega)|(simp only[chA,List.length_append,List.length_cons,List.length_nil];omega)|(simp[chA];done)|trace_state
 ·rw[h4] at hlv ⊢
  rw[if_pos rfl]
  replace hlv:Pu 92 [Ex e] (· = I 4):=hlv
  generalize ZO a=A at *
  generalize ZO b=B at *
  refine Z6 mxd i60 rfl (by simp) ?_;simp (maxSteps:=9^7) only[↓ S2,S2,Z7,↓reduceIte,reduceNe,reduceEqDiff,reduceCtorEq,reduceLeDiff,reduceAdd,reduceLT]
  ((try refine qI ?_);(repeat ((first|with_reducible refine qU ?_ | simp only[Z9]);try simp (maxSteps:=9^7) +contextual only[↓ S2,S2,↓reduceIte,reduceNe,reduceEqDiff,reduceCtorEq,reduceLeDiff,reduceAdd,reduceLT,VQ,XE]));(try simp +contextual (disch:=omega) only[Z2,XE]);(with_reducible repeat' (first|intro h|refine And.intro (by omega) ?_ | refine exP (by omega) ?_ | apply And.intro)))
  refine callS.eq hlv ?_
  ((try refine qI ?_);(repeat ((first|with_reducible refine qU ?_ | simp only[Z9]);try simp (maxSteps:=9^7) +contextual only[↓ S2,S2,↓reduceIte,reduceNe,reduceEqDiff,reduceCtorEq,reduceLeDiff,reduceAdd,reduceLT,VQ,XE,hag,hga,hgb,hw,Int.reduceToNat,List.getElem_cons_zero,List.getElem_cons_succ]));(try simp +contextual (disch:=omega) only[Z2,XE,hag,hga,hgb,hw,Int.reduceToNat,List.getElem_cons_zero,List.getElem_cons_succ]);(with_reducible repeat' (first|intro h|refine And.intro (by omega) ?_ | refine exP (by omega) ?_ | apply And.intro)))
  ((try refine qI ?_);(repeat ((first|with_reducible refine qU ?_ | simp only[Z9]);try simp (maxSteps:=9^7) +contextual only[↓ S2,S2,↓reduceIte,reduceNe,reduceEqDiff,reduceCtorEq,reduceLeDiff,reduceAdd,reduceLT,VQ,XE,hag,hga,hgb,hw,Int.reduceToNat,List.getElem_cons_zero,List.getElem_cons_succ]));(try simp +contextual (disch:=omega) only[Z2,XE,hag,hga,hgb,hw,Int.reduceToNat,List.getElem_cons_zero,List.getElem_cons_succ]);(with_reducible repeat' (first|intro h|refine And.intro (by omega) ?_ | refine exP (by omega) ?_ | apply And.intro)))
  all_goals try exact oF
  all_goals first|(exfalso;omega)|(simp only[chA,List.length_append,List.length_cons,List.length_nil];omega)|(simp[chA];done)|skip
  refine callS.eq ha ?_
  ((try refine qI ?_);(repeat ((first|with_reducible refine qU ?_ | simp only[Z9]);try simp (maxSteps:=9^7) +contextual only[↓ S2,S2,↓reduceIte,reduceNe,reduceEqDiff,reduceCtorEq,reduceLeDiff,reduceAdd,reduceLT,VQ,XE,hag,hga,hgb,hw,Int.reduceToNat,List.getElem_cons_zero,List.getElem_cons_succ]));(try simp +contextual (disch:=omega) only[Z2,XE,hag,hga,hgb,hw,Int.reduceToNat,List.getElem_cons_zero,List.getElem_cons_succ]);(with_reducible repeat' (first|intro h|refine And.intro (by omega) ?_ | refine exP (by omega) ?_ | apply And.intro)))
  ((try refine qI ?_);(repeat ((first|with_reducible refine qU ?_ | simp only[Z9]);try simp (maxSteps:=9^7) +contextual only[↓ S2,S2,↓reduceIte,reduceNe,reduceEqDiff,reduceCtorEq,reduceLeDiff,reduceAdd,reduceLT,VQ,XE,hag,hga,hgb,hw,Int.reduceToNat,List.getElem_cons_zero,List.getElem_cons_succ]));(try simp +contextual (disch:=omega) only[Z2,XE,hag,hga,hgb,hw,Int.reduceToNat,List.getElem_cons_zero,List.getElem_cons_succ]);(with_reducible repeat' (first|intro h|refine And.intro (by omega) ?_ | refine exP (by omega) ?_ | apply And.intro)))
  all_goals first|(exfalso;omega)|(simp only[chA,List.length_append,List.length_cons,List.length_nil];omega)|(simp[chA];done)|skip
  refine callS.eq hb ?_
  ((try refine qI ?_);(repeat ((first|with_reducible refine qU ?_ | simp only[Z9]);try simp (maxSteps:=9^7) +contextual only[↓ S2,S2,↓reduceIte,reduceNe,reduceEqDiff,reduceCtorEq,reduceLeDiff,reduceAdd,reduceLT,VQ,]));(try simp +contextual (disch:=omega) only[Z2,]);(with_reducible repeat' (first|intro h|refine And.intro (by omega) ?_ | refine exP (by omega) ?_ | apply And.intro)))
  all_goals first|(exfalso;omega)|(simp only[chA,List.length_append,List.length_cons,List.length_nil];omega)|(simp[chA];done)|trace_state
theorem w29:∀(e:Exp),allE YG e=true→Zo e≤1000→Pu 29 [Ex e] (· = .val (mkS (ZO e))):=by
 refine Exp.indA fun e ih=> ?_
 intro hv hc
 obtain ⟨hn,hv⟩:=allE_args hv
 have hag:Go.Gh.isAgg (Ex e)=true:=by rw[ZC];rfl
 rcases (node_c hn).c with ⟨n,h1,h2,he⟩|⟨n,h1,h2,he⟩|⟨n,h1,he⟩|he|⟨p,m,h1,h2,h3,he⟩|⟨n,a,b,h1,h2,he⟩|⟨a,b,c,he⟩|⟨p,h1,h2,he⟩|he|⟨s,m,a,h1,h2,he⟩
 ·have hk:e.kind=1:=by rw[he];rfl
  have hft:=w57 e.n e.type (.inl ⟨by rw[he];rfl,by rw[he];exact h1,by rw[he];exact h2⟩)
  have ee:Exp.mk 1 e.n 0 e.type noS noS []=e:=by rw[he];rfl
  rw[ee] at hft
  refine Z6 mxd i29 rfl (by simp) ?_;simp (maxSteps:=9^7) only[↓ S2,S2,Z7,↓reduceIte,reduceNe,reduceEqDiff,reduceCtorEq,reduceLeDiff,reduceAdd,reduceLT]
  ((try refine qI ?_);(repeat ((first|with_reducible refine qU ?_ | simp only[Z9]);try simp (maxSteps:=9^7) +contextual only[↓ S2,S2,↓reduceIte,reduceNe,reduceEqDiff,reduceCtorEq,reduceLeDiff,reduceAdd,reduceLT,VQ,XE,hk,hag,Int.reduceToNat,List.getElem_cons_zero,List.getElem_cons_succ]));(try simp +contextual (disch:=omega) only[Z2,XE,hk,hag,Int.reduceToNat,List.getElem_cons_zero,List.getElem_cons_succ]);(with_reducible repeat' (first|intro h|refine And.intro (by omega) ?_ | refine exP (by omega) ?_ | apply And.intro)))
  refine callS.eq hft ?_
  ((try refine qI ?_);(repeat ((first|with_reducible refine qU ?_ | simp only[Z9]);try simp (maxSteps:=9^7) +contextual only[↓ S2,S2,↓reduceIte,reduceNe,reduceEqDiff,reduceCtorEq,reduceLeDiff,reduceAdd,reduceLT,VQ,]));(try simp +contextual (disch:=omega) only[Z2,]);(with_reducible repeat' (first|intro h|refine And.intro (by omega) ?_ | refine exP (by omega) ?_ | apply And.intro)))
 ·have hk:e.kind=1:=by rw[he];rfl
  have hft:=w57 e.n e.type (.inr (.inl ⟨by rw[he];rfl,by rw[he];exact h1,by rw[he];exact h2⟩))
  have ee:Exp.mk 1 e.n 0 e.type noS noS []=e:=by rw[he];rfl
  rw[ee] at hft
  refine Z6 mxd i29 rfl (by simp) ?_;simp (maxSteps:=9^7) only[↓ S2,S2,Z7,↓reduceIte,reduceNe,reduceEqDiff,reduceCtorEq,reduceLeDiff,reduceAdd,reduceLT]
  ((try refine qI ?_);(repeat ((first|with_reducible refine qU ?_ | simp only[Z9]);try simp (maxSteps:=9^7) +contextual only[↓ S2,S2,↓reduceIte,reduceNe,reduceEqDiff,reduceCtorEq,reduceLeDiff,reduceAdd,reduceLT,VQ,XE,hk,hag,Int.reduceToNat,List.getElem_cons_zero,List.getElem_cons_succ]));(try simp +contextual (disch:=omega) only[Z2,XE,hk,hag,Int.reduceToNat,List.getElem_cons_zero,List.getElem_cons_succ]);(with_reducible repeat' (first|intro h|refine And.intro (by omega) ?_ | refine exP (by omega) ?_ | apply And.intro)))
  refine callS.eq hft ?_
  ((try refine qI ?_);(repeat ((first|with_reducible refine qU ?_ | simp only[Z9]);try simp (maxSteps:=9^7) +contextual only[↓ S2,S2,↓reduceIte,reduceNe,reduceEqDiff,reduceCtorEq,reduceLeDiff,reduceAdd,reduceLT,VQ,]));(try simp +contextual (disch:=omega) only[Z2,]);(with_reducible repeat' (first|intro h|refine And.intro (by omega) ?_ | refine exP (by omega) ?_ | apply And.intro)))
 ·have hk:e.kind=1:=by rw[he];rfl
  have hft:=w57 e.n e.type (.inr (.inr ⟨by rw[he];rfl,by rw[he];exact h1⟩))
  have ee:Exp.mk 1 e.n 0 e.type noS noS []=e:=by rw[he];rfl
  rw[ee] at hft
  refine Z6 mxd i29 rfl (by simp) ?_;simp (maxSteps:=9^7) only[↓ S2,S2,Z7,↓reduceIte,reduceNe,reduceEqDiff,reduceCtorEq,reduceLeDiff,reduceAdd,reduceLT]
  ((try refine qI ?_);(repeat ((first|with_reducible refine qU ?_ | simp only[Z9]);try simp (maxSteps:=9^7) +contextual only[↓ S2,S2,↓reduceIte,reduceNe,reduceEqDiff,reduceCtorEq,reduceLeDiff,reduceAdd,reduceLT,VQ,XE,hk,hag,Int.reduceToNat,List.getElem_cons_zero,List.getElem_cons_succ]));(try simp +contextual (disch:=omega) only[Z2,XE,hk,hag,Int.reduceToNat,List.getElem_cons_zero,List.getElem_cons_succ]);(with_reducible repeat' (first|intro h|refine And.intro (by omega) ?_ | refine exP (by omega) ?_ | apply And.intro)))
  refine callS.eq hft ?_
  ((try refine qI ?_);(repeat ((first|with_reducible refine qU ?_ | simp only[Z9]);try simp (maxSteps:=9^7) +contextual only[↓ S2,S2,↓reduceIte,reduceNe,reduceEqDiff,reduceCtorEq,reduceLeDiff,reduceAdd,reduceLT,VQ,]));(try simp +contextual (disch:=omega) only[Z2,]);(with_reducible repeat' (first|intro h|refine And.intro (by omega) ?_ | refine exP (by omega) ?_ | apply And.intro)))
 ·have hk:e.kind=2:=by rw[he];rfl
  have htx:ZO e = _ := (congrArg ZO he).trans txt_lit
  rw[htx]
  refine Z6 mxd i29 rfl (by simp) ?_;simp (maxSteps:=9^7) only[↓ S2,S2,Z7,↓reduceIte,reduceNe,reduceEqDiff,reduceCtorEq,reduceLeDiff,reduceAdd,reduceLT]
  ((try refine qI ?_);(repeat ((first|with_reducible refine qU ?_ | simp only[Z9]);try simp (maxSteps:=9^7) +contextual only[↓ S2,S2,↓reduceIte,reduceNe,reduceEqDiff,reduceCtorEq,reduceLeDiff,reduceAdd,reduceLT,VQ,XE,hk,hag,Int.reduceToNat,List.getElem_cons_zero,List.getElem_cons_succ]));(try simp +contextual (disch:=omega) only[Z2,XE,hk,hag,Int.reduceToNat,List.getElem_cons_zero,List.getElem_cons_succ]);(with_reducible repeat' (first|intro h|refine And.intro (by omega) ?_ | refine exP (by omega) ?_ | apply And.intro)))
  all_goals try exact oF
 ·have hk:e.kind=3:=by rw[he];rfl
  have hp0:0≤e.pos∧e.pos≤3:=by rw[he];exact ⟨h1,h2⟩
  have hnl:(Z8 e.name).length ≤ 8:=by rw[he];exact XX h3
  have htx:ZO e=36::(itoa e.pos++46::Z8 e.name):=by rw[he];exact txt_attr p m
  rw[htx]
  have hfi:=w58 e.pos (by omega) (by omega)
  have hpl:=YL hp0.1 (by omega)
  generalize itoa e.pos=A at *
  refine Z6 mxd i29 rfl (by simp) ?_;simp (maxSteps:=9^7) only[↓ S2,S2,Z7,↓reduceIte,reduceNe,reduceEqDiff,reduceCtorEq,reduceLeDiff,reduceAdd,reduceLT]
  ((try refine qI ?_);(repeat ((first|with_reducible refine qU ?_ | simp only[Z9]);try simp (maxSteps:=9^7) +contextual only[↓ S2,S2,↓reduceIte,reduceNe,reduceEqDiff,reduceCtorEq,reduceLeDiff,reduceAdd,reduceLT,VQ,XE,hk,hag,Int.reduceToNat,List.getElem_cons_zero,List.getElem_cons_succ]));(try simp +contextual (disch:=omega) only[Z2,XE,hk,hag,Int.reduceToNat,List.getElem_cons_zero,List.getElem_cons_succ]);(with_reducible repeat' (first|intro h|refine And.intro (by omega) ?_ | refine exP (by omega) ?_ | apply And.intro)))
  refine callS.eq hfi ?_
  ((try refine qI ?_);(repeat ((first|with_reducible refine qU ?_ | simp only[Z9]);try simp (maxSteps:=9^7) +contextual only[↓ S2,S2,↓reduceIte,reduceNe,reduceEqDiff,reduceCtorEq,reduceLeDiff,reduceAdd,reduceLT,VQ,XE,hk,hag,Int.reduceToNat,List.getElem_cons_zero,List.getElem_cons_succ]));(try simp +contextual (disch:=omega) only[Z2,XE,hk,hag,Int.reduceToNat,List.getElem_cons_zero,List.getElem_cons_succ]);(with_reducible repeat' (first|intro h|refine And.intro (by omega) ?_ | refine exP (by omega) ?_ | apply And.intro)))
  all_goals first|(exfalso;omega)|(simp only[chA,List.length_append,List.length_cons,List.length_nil];omega)|(simp[chA];done)|skip
 ·have hk:e.kind=4:=by rw[he];rfl
  have hen:e.n=n:=by rw[he];rfl
  have har:e.args=[a,b]:=by rw[he];rfl
  have hcn:Zo e=1+Zo a+Zo b:=by rw[he,Y4];simp[Exp.args];omega
  have hva:=hv a (by rw[har];simp)
  have hvb:=hv b (by rw[har];simp)
  have ha:=ih a (by rw[har];simp) hva (by omega)
  have hb:=ih b (by rw[har];simp) hvb (by omega)
  have hla:=X8 a hva
  have hlb:=X8 b hvb
  have hop:=Tryz.op7 e a b ⟨hk,by rw[hen];exact h1,by rw[hen];exact h2,har⟩ (by rw[hen];exact he) (by omega) (by omega) ha hb
  refine Z6 mxd i29 rfl (by simp) ?_;simp (maxSteps:=9^7) only[↓ S2,S2,Z7,↓reduceIte,reduceNe,reduceEqDiff,reduceCtorEq,reduceLeDiff,reduceAdd,reduceLT]
  ((try refine qI ?_);(repeat ((first|with_reducible refine qU ?_ | simp only[Z9]);try simp (maxSteps:=9^7) +contextual only[↓ S2,S2,↓reduceIte,reduceNe,reduceEqDiff,reduceCtorEq,reduceLeDiff,reduceAdd,reduceLT,VQ,XE,hk,hag,Int.reduceToNat,List.getElem_cons_zero,List.getElem_cons_succ]));(try simp +contextual (disch:=omega) only[Z2,XE,hk,hag,Int.reduceToNat,List.getElem_cons_zero,List.getElem_cons_succ]);(with_reducible repeat' (first|intro h|refine And.intro (by omega) ?_ | refine exP (by omega) ?_ | apply And.intro)))
  refine callS.eq hop ?_
  ((try refine qI ?_);(repeat ((first|with_reducible refine qU ?_ | simp only[Z9]);try simp (maxSteps:=9^7) +contextual only[↓ S2,S2,↓reduceIte,reduceNe,reduceEqDiff,reduceCtorEq,reduceLeDiff,reduceAdd,reduceLT,VQ,]));(try simp +contextual (disch:=omega) only[Z2,]);(with_reducible repeat' (first|intro h|refine And.intro (by omega) ?_ | refine exP (by omega) ?_ | apply And.intro)))
 ·have hk:e.kind=5:=by rw[he];rfl
  have har:e.args=[a,b,c]:=by rw[he];rfl
  have hcn:Zo e=1+Zo a+Zo b+Zo c:=by rw[he,Y4];simp[Exp.args];omega
  have hva:=hv a (by rw[har];simp)
  have hvb:=hv b (by rw[har];simp)
  have hvc:=hv c (by rw[har];simp)
  have ha:=ih a (by rw[har];simp) hva (by omega)
  have hb:=ih b (by rw[har];simp) hvb (by omega)
  have hcc:=ih c (by rw[har];simp) hvc (by omega)
  have hla:=X8 a hva
  have hlb:=X8 b hvb
  have hlc:=X8 c hvc
  have hga:Go.Gh.isAgg (Ex a)=true:=by rw[ZC];rfl
  have hgb:Go.Gh.isAgg (Ex b)=true:=by rw[ZC];rfl
  have hgc:Go.Gh.isAgg (Ex c)=true:=by rw[ZC];rfl
  have htx:ZO e=[105,102,32]++ZO a++[32,116,104,101,110,32]++ZO b++[32,101,108,115,101,32]++ZO c:=by rw[he];exact txt_if a b c
  rw[htx]
  generalize ZO a=A at *
  generalize ZO b=B at *
  generalize ZO c=C at *
  refine Z6 mxd i29 rfl (by simp) ?_;simp (maxSteps:=9^7) only[↓ S2,S2,Z7,↓reduceIte,reduceNe,reduceEqDiff,reduceCtorEq,reduceLeDiff,reduceAdd,reduceLT]
  ((try refine qI ?_);(repeat ((first|with_reducible refine qU ?_ | simp only[Z9]);try simp (maxSteps:=9^7) +contextual only[↓ S2,S2,↓reduceIte,reduceNe,reduceEqDiff,reduceCtorEq,reduceLeDiff,reduceAdd,reduceLT,VQ,XE,hk,hag,Int.reduceToNat,List.getElem_cons_zero,List.getElem_cons_succ,har,hga,hgb,hgc]));(try simp +contextual (disch:=omega) only[Z2,XE,hk,hag,Int.reduceToNat,List.getElem_cons_zero,List.getElem_cons_succ,har,hga,hgb,hgc]);(with_reducible repeat' (first|intro h|refine And.intro (by omega) ?_ | refine exP (by omega) ?_ | apply And.intro)))
  ((try refine qI ?_);(repeat ((first|with_reducible refine qU ?_ | simp only[Z9]);try simp (maxSteps:=9^7) +contextual only[↓ S2,S2,↓reduceIte,reduceNe,reduceEqDiff,reduceCtorEq,reduceLeDiff,reduceAdd,reduceLT,VQ,XE,hk,hag,Int.reduceToNat,List.getElem_cons_zero,List.getElem_cons_succ,har,hga,hgb,hgc]));(try simp +contextual (disch:=omega) only[Z2,XE,hk,hag,Int.reduceToNat,List.getElem_cons_zero,List.getElem_cons_succ,har,hga,hgb,hgc]);(with_reducible repeat' (first|intro h|refine And.intro (by omega) ?_ | refine exP (by omega) ?_ | apply And.intro)))
  all_goals first|(exfalso;omega)|(simp only[chA,List.length_append,List.length_cons,List.length_nil];omega)|(simp[chA];done)|skip
  refine callS.eq ha ?_
  ((try refine qI ?_);(repeat ((first|with_reducible refine qU ?_ | simp only[Z9]);try simp (maxSteps:=9^7) +contextual only[↓ S2,S2,↓reduceIte,reduceNe,reduceEqDiff,reduceCtorEq,reduceLeDiff,reduceAdd,reduceLT,VQ,XE,hk,hag,Int.reduceToNat,List.getElem_cons_zero,List.getElem_cons_succ,har,hga,hgb,hgc]));(try simp +contextual (disch:=omega) only[Z2,XE,hk,hag,Int.reduceToNat,List.getElem_cons_zero,List.getElem_cons_succ,har,hga,hgb,hgc]);(with_reducible repeat' (first|intro h|refine And.intro (by omega) ?_ | refine exP (by omega) ?_ | apply And.intro)))
  ((try refine qI ?_);(repeat ((first|with_reducible refine qU ?_ | simp only[Z9]);try simp (maxSteps:=9^7) +contextual only[↓ S2,S2,↓reduceIte,reduceNe,reduceEqDiff,reduceCtorEq,reduceLeDiff,reduceAdd,reduceLT,VQ,XE,hk,hag,Int.reduceToNat,List.getElem_cons_zero,List.getElem_cons_succ,har,hga,hgb,hgc]));(try simp +contextual (disch:=omega) only[Z2,XE,hk,hag,Int.reduceToNat,List.getElem_cons_zero,List.getElem_cons_succ,har,hga,hgb,hgc]);(with_reducible repeat' (first|intro h|refine And.intro (by omega) ?_ | refine exP (by omega) ?_ | apply And.intro)))
  all_goals first|(exfalso;omega)|(simp only[chA,List.length_append,List.length_cons,List.length_nil];omega)|(simp[chA];done)|skip
  refine callS.eq hb ?_
  ((try refine qI ?_);(repeat ((first|with_reducible refine qU ?_ | simp only[Z9]);try simp (maxSteps:=9^7) +contextual only[↓ S2,S2,↓reduceIte,reduceNe,reduceEqDiff,reduceCtorEq,reduceLeDiff,reduceAdd,reduceLT,VQ,XE,hk,hag,Int.reduceToNat,List.getElem_cons_zero,List.getElem_cons_succ,har,hga,hgb,hgc]));(try simp +contextual (disch:=omega) only[Z2,XE,hk,hag,Int.reduceToNat,List.getElem_cons_zero,List.getElem_cons_succ,har,hga,hgb,hgc]);(with_reducible repeat' (first|intro h|refine And.intro (by omega) ?_ | refine exP (by omega) ?_ | apply And.intro)))
  ((try refine qI ?_);(repeat ((first|with_reducible refine qU ?_ | simp only[Z9]);try simp (maxSteps:=9^7) +contextual only[↓ S2,S2,↓reduceIte,reduceNe,reduceEqDiff,reduceCtorEq,reduceLeDiff,reduceAdd,reduceLT,VQ,XE,hk,hag,Int.reduceToNat,List.getElem_cons_zero,List.getElem_cons_succ,har,hga,hgb,hgc]));(try simp +contextual (disch:=omega) only[Z2,XE,hk,hag,Int.reduceToNat,List.getElem_cons_zero,List.getElem_cons_succ,har,hga,hgb,hgc]);(with_reducible repeat' (first|intro h|refine And.intro (by omega) ?_ | refine exP (by omega) ?_ | apply And.intro)))
  all_goals first|(exfalso;omega)|(simp only[chA,List.length_append,List.length_cons,List.length_nil];omega)|(simp[chA];done)|skip
  refine callS.eq hcc ?_
  ((try refine qI ?_);(repeat ((first|with_reducible refine qU ?_ | simp only[Z9]);try simp (maxSteps:=9^7) +contextual only[↓ S2,S2,↓reduceIte,reduceNe,reduceEqDiff,reduceCtorEq,reduceLeDiff,reduceAdd,reduceLT,VQ,XE,hk,hag,Int.reduceToNat,List.getElem_cons_zero,List.getElem_cons_succ]));(try simp +contextual (disch:=omega) only[Z2,XE,hk,hag,Int.reduceToNat,List.getElem_cons_zero,List.getElem_cons_succ]);(with_reducible repeat' (first|intro h|refine And.intro (by omega) ?_ | refine exP (by omega) ?_ | apply And.intro)))
  all_goals first|(exfalso;omega)|(simp only[chA,List.length_append,List.length_cons,List.length_nil];omega)|(simp[chA];done)|skip
 ·have hk:e.kind=6:=by rw[he];rfl
  have hp0:0≤e.pos∧e.pos≤3:=by rw[he];exact ⟨h1,h2⟩
  have htx:ZO e=[115,101,108,102,40]++(itoa e.pos++[41]):=by rw[he];exact txt_self p
  rw[htx]
  have hfi:=w58 e.pos (by omega) (by omega)
  have hpl:=YL hp0.1 (by omega)
  generalize itoa e.pos=A at *
  refine Z6 mxd i29 rfl (by simp) ?_;simp (maxSteps:=9^7) only[↓ S2,S2,Z7,↓reduceIte,reduceNe,reduceEqDiff,reduceCtorEq,reduceLeDiff,reduceAdd,reduceLT]
  ((try refine qI ?_);(repeat ((first|with_reducible refine qU ?_ | simp only[Z9]);try simp (maxSteps:=9^7) +contextual only[↓ S2,S2,↓reduceIte,reduceNe,reduceEqDiff,reduceCtorEq,reduceLeDiff,reduceAdd,reduceLT,VQ,XE,hk,hag,Int.reduceToNat,List.getElem_cons_zero,List.getElem_cons_succ]));(try simp +contextual (disch:=omega) only[Z2,XE,hk,hag,Int.reduceToNat,List.getElem_cons_zero,List.getElem_cons_succ]);(with_reducible repeat' (first|intro h|refine And.intro (by omega) ?_ | refine exP (by omega) ?_ | apply And.intro)))
  refine callS.eq hfi ?_
  ((try refine qI ?_);(repeat ((first|with_reducible refine qU ?_ | simp only[Z9]);try simp (maxSteps:=9^7) +contextual only[↓ S2,S2,↓reduceIte,reduceNe,reduceEqDiff,reduceCtorEq,reduceLeDiff,reduceAdd,reduceLT,VQ,XE,hk,hag,Int.reduceToNat,List.getElem_cons_zero,List.getElem_cons_succ]));(try simp +contextual (disch:=omega) only[Z2,XE,hk,hag,Int.reduceToNat,List.getElem_cons_zero,List.getElem_cons_succ]);(with_reducible repeat' (first|intro h|refine And.intro (by omega) ?_ | refine exP (by omega) ?_ | apply And.intro)))
  all_goals first|(exfalso;omega)|(simp only[chA,List.length_append,List.length_cons,List.length_nil];omega)|(simp[chA];done)|skip
 ·have hk:e.kind=7:=by rw[he];rfl
  have htx:ZO e = _ := (congrArg ZO he).trans txt_none
  rw[htx]
  refine Z6 mxd i29 rfl (by simp) ?_;simp (maxSteps:=9^7) only[↓ S2,S2,Z7,↓reduceIte,reduceNe,reduceEqDiff,reduceCtorEq,reduceLeDiff,reduceAdd,reduceLT]
  ((try refine qI ?_);(repeat ((first|with_reducible refine qU ?_ | simp only[Z9]);try simp (maxSteps:=9^7) +contextual only[↓ S2,S2,↓reduceIte,reduceNe,reduceEqDiff,reduceCtorEq,reduceLeDiff,reduceAdd,reduceLT,VQ,XE,hk,hag,Int.reduceToNat,List.getElem_cons_zero,List.getElem_cons_succ]));(try simp +contextual (disch:=omega) only[Z2,XE,hk,hag,Int.reduceToNat,List.getElem_cons_zero,List.getElem_cons_succ]);(with_reducible repeat' (first|intro h|refine And.intro (by omega) ?_ | refine exP (by omega) ?_ | apply And.intro)))
  all_goals try exact oF
 ·have hk:e.kind=8:=by rw[he];rfl
  have har:e.args=[a]:=by rw[he];rfl
  have hcn:Zo e=1+Zo a:=by rw[he,Y4];simp[Exp.args]
  have hva:=hv a (by rw[har];simp)
  have ha:=ih a (by rw[har];simp) hva (by omega)
  have hla:=X8 a hva
  have hga:Go.Gh.isAgg (Ex a)=true:=by rw[ZC];rfl
  have hat:=Tryz.at7 a 4 (by omega) (by omega) ha
  have hal:=YU 4 a
  have hsl:(Z8 e.sym).length ≤ 8:=by rw[he];exact XX h1
  have hnl:(Z8 e.name).length ≤ 8:=by rw[he];exact XX h2
  have htx:ZO e=Z8 e.sym++46::(Z8 e.name++[32,111,102,32]++oprT 4 a):=by rw[he];exact txt_rem s m a
  rw[htx]
  generalize oprT 4 a=A at *
  refine Z6 mxd i29 rfl (by simp) ?_;simp (maxSteps:=9^7) only[↓ S2,S2,Z7,↓reduceIte,reduceNe,reduceEqDiff,reduceCtorEq,reduceLeDiff,reduceAdd,reduceLT]
  ((try refine qI ?_);(repeat ((first|with_reducible refine qU ?_ | simp only[Z9]);try simp (maxSteps:=9^7) +contextual only[↓ S2,S2,↓reduceIte,reduceNe,reduceEqDiff,reduceCtorEq,reduceLeDiff,reduceAdd,reduceLT,VQ,XE,hk,hag,Int.reduceToNat,List.getElem_cons_zero,List.getElem_cons_succ,har,hga]));(try simp +contextual (disch:=omega) only[Z2,XE,hk,hag,Int.reduceToNat,List.getElem_cons_zero,List.getElem_cons_succ,har,hga]);(with_reducible repeat' (first|intro h|refine And.intro (by omega) ?_ | refine exP (by omega) ?_ | apply And.intro)))
  ((try refine qI ?_);(repeat ((first|with_reducible refine qU ?_ | simp only[Z9]);try simp (maxSteps:=9^7) +contextual only[↓ S2,S2,↓reduceIte,reduceNe,reduceEqDiff,reduceCtorEq,reduceLeDiff,reduceAdd,reduceLT,VQ,XE,hk,hag,Int.reduceToNat,List.getElem_cons_zero,List.getElem_cons_succ,har,hga]));(try simp +contextual (disch:=omega) only[Z2,XE,hk,hag,Int.reduceToNat,List.getElem_cons_zero,List.getElem_cons_succ,har,hga]);(with_reducible repeat' (first|intro h|refine And.intro (by omega) ?_ | refine exP (by omega) ?_ | apply And.intro)))
  all_goals first|(exfalso;omega)|(simp only[chA,List.length_append,List.length_cons,List.length_nil];omega)|(simp[chA];done)|skip
  refine callS.eq hat ?_
  ((try refine qI ?_);(repeat ((first|with_reducible refine qU ?_ | simp only[Z9]);try simp (maxSteps:=9^7) +contextual only[↓ S2,S2,↓reduceIte,reduceNe,reduceEqDiff,reduceCtorEq,reduceLeDiff,reduceAdd,reduceLT,VQ,XE,hk,hag,Int.reduceToNat,List.getElem_cons_zero,List.getElem_cons_succ]));(try simp +contextual (disch:=omega) only[Z2,XE,hk,hag,Int.reduceToNat,List.getElem_cons_zero,List.getElem_cons_succ]);(with_reducible repeat' (first|intro h|refine And.intro (by omega) ?_ | refine exP (by omega) ?_ | apply And.intro)))
  all_goals first|(exfalso;omega)|(simp only[chA,List.length_append,List.length_cons,List.length_nil];omega)|(simp[chA];done)|skip
theorem w11 (e:Exp) (h1:okE e) (h2:wEx e≤1048576):Pu 11 [Ex e] (· = .val (mkS (fmtE e))):=by
 have hv:=w12 e h1 h2
 have hag:Go.Gh.isAgg (Ex e)=true:=by rw[ZC];rfl
 unfold fmtE
 by_cases h:YZ e=true
 ·have ht:Pu 29 [Ex e] (· = .val (mkS (ZO e))):=by
   simp only[YZ,Bool.and_eq_true,decide_eq_true_eq] at h
   exact w29 e h.2 (by omega)
  rw[h] at hv
  rw[if_pos h]
  refine Z6 mxd i11 rfl (by simp) ?_;simp (maxSteps:=9^7) only[↓ S2,S2,Z7,↓reduceIte,reduceNe,reduceEqDiff,reduceCtorEq,reduceLeDiff,reduceAdd,reduceLT]
  ((try refine qI ?_);(repeat ((first|with_reducible refine qU ?_ | simp only[Z9]);try simp (maxSteps:=9^7) +contextual only[↓ S2,S2,↓reduceIte,reduceNe,reduceEqDiff,reduceCtorEq,reduceLeDiff,reduceAdd,reduceLT,VQ,XE,hag]));(try simp +contextual (disch:=omega) only[Z2,XE,hag]);(with_reducible repeat' (first|intro h|refine And.intro (by omega) ?_ | refine exP (by omega) ?_ | apply And.intro)))
  refine callS.eq hv ?_
  ((try refine qI ?_);(repeat ((first|with_reducible refine qU ?_ | simp only[Z9]);try simp (maxSteps:=9^7) +contextual only[↓ S2,S2,↓reduceIte,reduceNe,reduceEqDiff,reduceCtorEq,reduceLeDiff,reduceAdd,reduceLT,VQ,XE,hag]));(try simp +contextual (disch:=omega) only[Z2,XE,hag]);(with_reducible repeat' (first|intro h|refine And.intro (by omega) ?_ | refine exP (by omega) ?_ | apply And.intro)))
  refine callS.eq ht ?_
  ((try refine qI ?_);(repeat ((first|with_reducible refine qU ?_ | simp only[Z9]);try simp (maxSteps:=9^7) +contextual only[↓ S2,S2,↓reduceIte,reduceNe,reduceEqDiff,reduceCtorEq,reduceLeDiff,reduceAdd,reduceLT,VQ,]));(try simp +contextual (disch:=omega) only[Z2,]);(with_reducible repeat' (first|intro h|refine And.intro (by omega) ?_ | refine exP (by omega) ?_ | apply And.intro)))
 ·rw[Bool.eq_false_iff.2 h] at hv
  rw[if_neg h]
  refine Z6 mxd i11 rfl (by simp) ?_;simp (maxSteps:=9^7) only[↓ S2,S2,Z7,↓reduceIte,reduceNe,reduceEqDiff,reduceCtorEq,reduceLeDiff,reduceAdd,reduceLT]
  ((try refine qI ?_);(repeat ((first|with_reducible refine qU ?_ | simp only[Z9]);try simp (maxSteps:=9^7) +contextual only[↓ S2,S2,↓reduceIte,reduceNe,reduceEqDiff,reduceCtorEq,reduceLeDiff,reduceAdd,reduceLT,VQ,XE,hag]));(try simp +contextual (disch:=omega) only[Z2,XE,hag]);(with_reducible repeat' (first|intro h|refine And.intro (by omega) ?_ | refine exP (by omega) ?_ | apply And.intro)))
  refine callS.eq hv ?_
  ((try refine qI ?_);(repeat ((first|with_reducible refine qU ?_ | simp only[Z9]);try simp (maxSteps:=9^7) +contextual only[↓ S2,S2,↓reduceIte,reduceNe,reduceEqDiff,reduceCtorEq,reduceLeDiff,reduceAdd,reduceLT,VQ,]));(try simp +contextual (disch:=omega) only[Z2,]);(with_reducible repeat' (first|intro h|refine And.intro (by omega) ?_ | refine exP (by omega) ?_ | apply And.intro)))
theorem w22 (s:ByteArray) (hs:(Z8 s).length ≤ 1048576):Pu 22 [T s] (· = .tup [.val (mkS (if (Zj (Z8 s)).2 ≥ 0 then [] else fmtE (Zj (Z8 s)).1)),B (!decide ((Zj (Z8 s)).2 ≥ 0))]):=by
 have hp:=w16 s hs
 obtain ⟨v1,v2⟩:=parV_sz (Z8 s)
 generalize Zj (Z8 s)=P at *
 obtain ⟨e,b⟩:=P
 dsimp only at hp v1 v2 ⊢
 have hag:Go.Gh.isAgg (Ex e)=true:=by rw[ZC];rfl
 by_cases hb:0≤b
 ·have hb':(0≤b)=True:=eq_true hb
  rw[if_pos hb,decide_eq_true (show b≥0 from hb)]
  refine Z6 mxd i22 rfl (by simp) ?_;simp (maxSteps:=9^7) only[↓ S2,S2,Z7,↓reduceIte,reduceNe,reduceEqDiff,reduceCtorEq,reduceLeDiff,reduceAdd,reduceLT]
  ((try refine qI ?_);(repeat ((first|with_reducible refine qU ?_ | simp only[Z9]);try simp (maxSteps:=9^7) +contextual only[↓ S2,S2,↓reduceIte,reduceNe,reduceEqDiff,reduceCtorEq,reduceLeDiff,reduceAdd,reduceLT,VQ,]));(try simp +contextual (disch:=omega) only[Z2,]);(with_reducible repeat' (first|intro h|refine And.intro (by omega) ?_ | refine exP (by omega) ?_ | apply And.intro)))
  refine callS.eq hp ?_
  ((try refine qI ?_);(repeat ((first|with_reducible refine qU ?_ | simp only[Z9]);try simp (maxSteps:=9^7) +contextual only[↓ S2,S2,↓reduceIte,reduceNe,reduceEqDiff,reduceCtorEq,reduceLeDiff,reduceAdd,reduceLT,VQ,XE,hag,hb']));(try simp +contextual (disch:=omega) only[Z2,XE,hag,hb']);(with_reducible repeat' (first|intro h|refine And.intro (by omega) ?_ | refine exP (by omega) ?_ | apply And.intro)))
 ·have hb':(0≤b)=False:=eq_false hb
  rw[if_neg hb,decide_eq_false (show ¬b≥0 from hb)]
  refine Z6 mxd i22 rfl (by simp) ?_;simp (maxSteps:=9^7) only[↓ S2,S2,Z7,↓reduceIte,reduceNe,reduceEqDiff,reduceCtorEq,reduceLeDiff,reduceAdd,reduceLT]
  ((try refine qI ?_);(repeat ((first|with_reducible refine qU ?_ | simp only[Z9]);try simp (maxSteps:=9^7) +contextual only[↓ S2,S2,↓reduceIte,reduceNe,reduceEqDiff,reduceCtorEq,reduceLeDiff,reduceAdd,reduceLT,VQ,]));(try simp +contextual (disch:=omega) only[Z2,]);(with_reducible repeat' (first|intro h|refine And.intro (by omega) ?_ | refine exP (by omega) ?_ | apply And.intro)))
  refine callS.eq hp ?_
  ((try refine qI ?_);(repeat ((first|with_reducible refine qU ?_ | simp only[Z9]);try simp (maxSteps:=9^7) +contextual only[↓ S2,S2,↓reduceIte,reduceNe,reduceEqDiff,reduceCtorEq,reduceLeDiff,reduceAdd,reduceLT,VQ,XE,hag,hb']));(try simp +contextual (disch:=omega) only[Z2,XE,hag,hb']);(with_reducible repeat' (first|intro h|refine And.intro (by omega) ?_ | refine exP (by omega) ?_ | apply And.intro)))
  ((try refine qI ?_);(repeat ((first|with_reducible refine qU ?_ | simp only[Z9]);try simp (maxSteps:=9^7) +contextual only[↓ S2,S2,↓reduceIte,reduceNe,reduceEqDiff,reduceCtorEq,reduceLeDiff,reduceAdd,reduceLT,VQ,XE,hag,hb']));(try simp +contextual (disch:=omega) only[Z2,XE,hag,hb']);(with_reducible repeat' (first|intro h|refine And.intro (by omega) ?_ | refine exP (by omega) ?_ | apply And.intro)))
  refine callS.eq (w11 e v1 v2) ?_
  ((try refine qI ?_);(repeat ((first|with_reducible refine qU ?_ | simp only[Z9]);try simp (maxSteps:=9^7) +contextual only[↓ S2,S2,↓reduceIte,reduceNe,reduceEqDiff,reduceCtorEq,reduceLeDiff,reduceAdd,reduceLT,VQ,]));(try simp +contextual (disch:=omega) only[Z2,]);(with_reducible repeat' (first|intro h|refine And.intro (by omega) ?_ | refine exP (by omega) ?_ | apply And.intro)))
end Go.Proofs.YtkmedfejmndmjaaGreatDoor
namespace Go.Proofs.YtkmedfejmndmjaaGreatDoor
open Go.Gh
open Nat (reduceEqDiff reduceLeDiff reduceAdd reduceLT)
open Int (reduceNe)
open Go.Shelf Go.RowKit Go.Lib
theorem Tryz.joinX:Builder.Extra Tryz.prog Tryz.joinL_ren:={
 sizeBuilder:=by kernel_rfl
 liesBuilder:=by kernel_rfl
 t5:=Tryz.underlying5
 a5:=Tryz.isAgg5
 z5:=Tryz.sizeOf5
 v5:=Tryz.zeroValue5
 infoByte:=by kernel_rfl
 cellsByte:=by kernel_rfl
 sizeByte:=by kernel_rfl
 neB5:=by decide }
theorem w115 (l:List ByteArray) (sep:ByteArray) (hl:l.length≤4096) (hj:(Zi (Z8 sep) (l.map Z8)).length ≤ 20000000):Pu 115 [.sl 1 (l.map T),T sep] (· = .val (mkS (Zi (Z8 sep) (l.map Z8)))):=by
 have eg:∀args w,(callFunc 115 args).run Tryz.prog w = .ok (.enter 115 args) w:=enters_of Tryz.func115 (by kernel_rfl) rfl
 refine lib_ok (T:=[]) (fun w D vs hm hn hml=> ?_) (by simp) eg
 simp only[ML,MV] at hml
 obtain ⟨v1,vs',F1,F2,rfl,_,⟨_,h1⟩,v2,vs2,F3,F4,rfl,_,⟨rfl,_⟩,rfl,_⟩:=hml
 have fin:∀(e:Ending) (w':World),(e = .returned (.string ⟨(Lib.join (l.map (·.data.toList)) sep.data.toList).toArray⟩)∧Below w.heap.size w w')→∃v g,e = .returned v∧g = .val (mkS (Zi (Z8 sep) (l.map Z8)))∧(∀D',MV w' D' g v [])∧Below w.heap.size w w':=by
  rintro e w' ⟨rfl,hb⟩
  exact ⟨_,_,rfl,rfl,fun D'=>MV.val_mk _,hb⟩
 rcases h1 with ⟨h0,a,cap,rfl⟩|⟨b,off,cap,cs,rfl,hc,_,_,⟨c,ty,fz,hh,hr⟩,hf⟩
 ·obtain rfl:l=[]:=by simpa using h0
  exact (Go.Proofs.Any.strings_Join_none Tryz.joinL Tryz.joinX a cap sep w).mono fun e w' ⟨h1,h2⟩=>fin e w' ⟨h1,h2▸Below.refl _ _⟩
 ·have hcs:=sl_str l cs hf
  rw[List.length_map] at hc ⊢
  refine (Go.Proofs.Any.strings_Join Tryz.joinL Tryz.joinX b off cap l sep w (fun j x hx=> ?_) (Go.Gh.lt_of_heap hh) (by omega) hc (Nat.le_trans hj (by omega))).mono fin
  have:=hr j (.string x) (by rw[hcs,List.getElem?_map,hx];rfl)
  simp only[World.cell?,hh]
  exact this
theorem w85 (l:List ByteArray) (sep:ByteArray) (hl:l.length≤4096) (hj:(Zi (Z8 sep) (l.map Z8)).length ≤ 20000000):Pu 85 [.sl 1 (l.map T),T sep] (· = .val (mkS (Zi (Z8 sep) (l.map Z8)))):=by
 refine Z6 mxd i85 rfl (by simp) ?_;simp (maxSteps:=9^7) only[↓ S2,S2,Z7,↓reduceIte,reduceNe,reduceEqDiff,reduceCtorEq,reduceLeDiff,reduceAdd,reduceLT]
 ((try refine qI ?_);(repeat ((first|with_reducible refine qU ?_ | simp only[Z9]);try simp (maxSteps:=9^7) +contextual only[↓ S2,S2,↓reduceIte,reduceNe,reduceEqDiff,reduceCtorEq,reduceLeDiff,reduceAdd,reduceLT,VQ,]));(try simp +contextual (disch:=omega) only[Z2,]);(with_reducible repeat' (first|intro h|refine And.intro (by omega) ?_ | refine exP (by omega) ?_ | apply And.intro)))
 refine callS.eq (w115 l sep hl hj) ?_
 ((try refine qI ?_);(repeat ((first|with_reducible refine qU ?_ | simp only[Z9]);try simp (maxSteps:=9^7) +contextual only[↓ S2,S2,↓reduceIte,reduceNe,reduceEqDiff,reduceCtorEq,reduceLeDiff,reduceAdd,reduceLT,VQ,]));(try simp +contextual (disch:=omega) only[Z2,]);(with_reducible repeat' (first|intro h|refine And.intro (by omega) ?_ | refine exP (by omega) ?_ | apply And.intro)))
end Go.Proofs.YtkmedfejmndmjaaGreatDoor
