/- The tied card of the law holds. No condition. -/
import Derived.Test.YtmdfoigdflaliaaGreatDoorPtt6
set_option maxHeartbeats 40000000
set_option maxRecDepth 20000
set_option linter.unusedSimpArgs false
set_option linter.unusedVariables false
namespace Go.Proofs.YtmdfoigdflaliaaGreatDoor
open Go.Gh
open Nat (reduceEqDiff reduceLeDiff reduceAdd reduceLT)
open Int (reduceNe)
open Go.Shelf Go.RowKit Go.Lib Go.Sort
theorem w61 (l:List UInt8) (c:UInt8):Pu 61 [T (bA l),T ⟨#[c]⟩] (· = .tup [T (bA (skp c l).1),B (skp c l).2]):=by
 have eg:∀args w,(callFunc 61 args).run Tryz.prog w = .ok (.enter 61 args) w:=enters_of Tryz.func61 (by kernel_rfl) rfl
 refine lib_ok (T:=[]) (fun w D vs hm hn hml=> ?_) (by simp) eg
 obtain rfl:=ml2 hml
 refine (Any.strings_CutPrefix Tryz.ctpL (bA l) ⟨#[c]⟩ w).mono ?_
 rintro e w' ⟨rfl,rfl⟩
 have h:=skp_eq c l
 have h1:trimPrefix (bA l).data.toList [c]=(skp c l).1 := congrArg Prod.fst h
 have h2:hasPrefix (bA l).data.toList [c]=(skp c l).2 := congrArg Prod.snd h
 rw[h1,h2]
 exact ⟨_,_,rfl,rfl,fun D'=>MV.tup2 _ _,Below.refl _ _⟩
theorem w62 (l:List UInt8) (hl:l.length≤1048576) (ha:asc l):Pu 62 [T (bA l),T ⟨#[32,41]⟩] (· = I (if (l.takeWhile inW).length = l.length then -1 else ((l.takeWhile inW).length : Int))):=by
 have eg:∀args w,(callFunc 62 args).run Tryz.prog w = .ok (.enter 62 args) w:=enters_of Tryz.func62 (by kernel_rfl) rfl
 refine lib_ok (T:=[]) (fun w D vs hm hn hml=> ?_) (by simp) eg
 obtain rfl:=ml2 hml
 have hsz:(bA l).size = l.length:=by rw[Zo,chA]
 refine (Any.strings_IndexAny_laid Tryz.ixaL (by kernel_rfl) (bA l) ⟨#[32,41]⟩ w (by omega) (by decide) ?_ ?_).mono ?_
 ·intro j b hb
  exact ha b (List.mem_of_getElem? hb)
 ·intro j b hb
  have hb:([32,41]:List UInt8)[j]? = some b:=hb
  have:=List.mem_of_getElem? hb
  simp only[List.mem_cons,List.not_mem_nil,or_false] at this
  rcases this with rfl|rfl<;>decide
 rintro e w' ⟨rfl,hw⟩
 have h:indexAny (bA l).data.toList (⟨#[32,41]⟩:ByteArray).data.toList = indexAny l [32,41]:=rfl
 rw[h,ixa_eq]
 exact ⟨_,_,rfl,rfl,fun D'=>MV.val_mk _,hw⟩
theorem o39 {a b X:GV} {l:List UInt8} {f:Int} (hl:l.length≤1048576) (ha:asc l) {rp:Nat} {H:GH} (hr:ZW H rp=some (5,[RdG a b l f X])) :
 Gc 39 [.ptr rp 5 0 0] H (fun g H'=>g=T (bA (l.takeWhile inW))∧H'=ZI H rp [RdG a b (l.dropWhile inW) f X]):=by
 have hix:=w62 l hl ha
 obtain ⟨t1,t2⟩:=tw_take (p:=inW) l
 have hlen:(l.takeWhile inW).length ≤ l.length:=by rw[←t1,List.length_take];omega
 generalize hW:l.takeWhile inW=W at *
 generalize hD:l.dropWhile inW=D at *
 refine ZN mxd i39 rfl (by simp) ?_;simp (maxSteps:=9^7) only[↓ S2,S2,ZT,↓reduceIte,reduceNe,reduceEqDiff,reduceCtorEq,reduceLeDiff,reduceAdd,reduceLT]
 ((try refine qI ?_);(repeat ((first|with_reducible refine qU ?_ | simp only[Z5]);try simp (maxSteps:=9^7) +contextual only[↓ S2,S2,↓reduceIte,reduceNe,reduceEqDiff,reduceCtorEq,reduceLeDiff,reduceAdd,reduceLT,VQ,hr]));(try simp +contextual (disch:=omega) only[Z2,hr]);(with_reducible repeat' (first|intro h|refine And.intro (by omega) ?_ | refine exP (by omega) ?_ | apply And.intro)))
 refine callS.eq hix ?_
 have hc:Z6 (bA l)=l:=chA l
 have em:((-1:Int)<0)=True:=eq_true (by decide)
 by_cases h:W.length=l.length
 ·rw[h,List.take_length] at t1
  rw[h,List.drop_length] at t2
  subst t1
  subst t2
  ((try refine qI ?_);(repeat ((first|with_reducible refine qU ?_ | simp only[Z5]);try simp (maxSteps:=9^7) +contextual only[↓ S2,S2,↓reduceIte,reduceNe,reduceEqDiff,reduceCtorEq,reduceLeDiff,reduceAdd,reduceLT,VQ,hr,h,hc,em,List.take_length,List.drop_length]));(try simp +contextual (disch:=omega) only[Z2,hr,h,hc,em,List.take_length,List.drop_length]);(with_reducible repeat' (first|intro h|refine And.intro (by omega) ?_ | refine exP (by omega) ?_ | apply And.intro)))
  all_goals rfl
 ·((try refine qI ?_);(repeat ((first|with_reducible refine qU ?_ | simp only[Z5]);try simp (maxSteps:=9^7) +contextual only[↓ S2,S2,↓reduceIte,reduceNe,reduceEqDiff,reduceCtorEq,reduceLeDiff,reduceAdd,reduceLT,VQ,hr,h,hc]));(try simp +contextual (disch:=omega) only[Z2,hr,h,hc]);(with_reducible repeat' (first|intro h|refine And.intro (by omega) ?_ | refine exP (by omega) ?_ | apply And.intro)))
  all_goals first|omega|skip
  ·rw[t1];rfl
  ·rw[List.take_length,t2]
theorem o38 {a b X:GV} {l:List UInt8} {f:Int} (c:UInt8) {rp:Nat} {H:GH} (hr:ZW H rp=some (5,[RdG a b l f X])) :
 Gc 38 [.ptr rp 5 0 0,T ⟨#[c]⟩] H (fun g H'=>g=B (skp c l).2 ∧ H'=ZI H rp [RdG a b (skp c l).1 f X]):=by
 have hcp:=w61 l c
 generalize skp c l=R at *
 obtain ⟨l2,ok⟩:=R
 dsimp only at hcp ⊢
 refine ZN mxd i38 rfl (by simp) ?_;simp (maxSteps:=9^7) only[↓ S2,S2,ZT,↓reduceIte,reduceNe,reduceEqDiff,reduceCtorEq,reduceLeDiff,reduceAdd,reduceLT]
 ((try refine qI ?_);(repeat ((first|with_reducible refine qU ?_ | simp only[Z5]);try simp (maxSteps:=9^7) +contextual only[↓ S2,S2,↓reduceIte,reduceNe,reduceEqDiff,reduceCtorEq,reduceLeDiff,reduceAdd,reduceLT,VQ,hr]));(try simp +contextual (disch:=omega) only[Z2,hr]);(with_reducible repeat' (first|intro h|refine And.intro (by omega) ?_ | refine exP (by omega) ?_ | apply And.intro)))
 refine callS.eq hcp ?_
 ((try refine qI ?_);(repeat ((first|with_reducible refine qU ?_ | simp only[Z5]);try simp (maxSteps:=9^7) +contextual only[↓ S2,S2,↓reduceIte,reduceNe,reduceEqDiff,reduceCtorEq,reduceLeDiff,reduceAdd,reduceLT,VQ,hr]));(try simp +contextual (disch:=omega) only[Z2,hr]);(with_reducible repeat' (first|intro h|refine And.intro (by omega) ?_ | refine exP (by omega) ?_ | apply And.intro)))
theorem p41 (l:List UInt8) (hs:l.length≤1048576):PureT Tryz.prog Tryz.tb 41 [T (bA l)] (· = .tup [I (niN l).1,B (niN l).2]):=by
 have q:=px66 (bA l) (-999999999999) 999999999999 (by omega) (by omega) (by rw[chA];exact hs)
 rw[chA] at q
 have e:rdN (-999999999999) 999999999999 l=niN l:=rfl
 rw[e] at q
 generalize niN l=R at *
 obtain ⟨v,ok⟩:=R
 dsimp only at q ⊢
 refine ZN mxd i41 rfl (by simp) ?_;simp (maxSteps:=9^7) only[↓ S2,S2,ZT,↓reduceIte,reduceNe,reduceEqDiff,reduceCtorEq,reduceLeDiff,reduceAdd,reduceLT]
 ((try refine qI ?_);(repeat ((first|with_reducible refine qU ?_ | simp only[Z5]);try simp (maxSteps:=9^7) +contextual only[↓ S2,S2,↓reduceIte,reduceNe,reduceEqDiff,reduceCtorEq,reduceLeDiff,reduceAdd,reduceLT,VQ,]));(try simp +contextual (disch:=omega) only[Z2,]);(with_reducible repeat' (first|intro h|refine And.intro (by omega) ?_ | refine exP (by omega) ?_ | apply And.intro)))
 refine callS.eqT q Tryz.tbH (fun _ h=>h) ?_
 ((try refine qI ?_);(repeat ((first|with_reducible refine qU ?_ | simp only[Z5]);try simp (maxSteps:=9^7) +contextual only[↓ S2,S2,↓reduceIte,reduceNe,reduceEqDiff,reduceCtorEq,reduceLeDiff,reduceAdd,reduceLT,VQ,]));(try simp +contextual (disch:=omega) only[Z2,]);(with_reducible repeat' (first|intro h|refine And.intro (by omega) ?_ | refine exP (by omega) ?_ | apply And.intro)))
end Go.Proofs.YtmdfoigdflaliaaGreatDoor
