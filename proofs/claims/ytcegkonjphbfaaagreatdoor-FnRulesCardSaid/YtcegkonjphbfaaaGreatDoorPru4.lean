/- The tied card of the law holds. No condition. -/
import Derived.Test.YtcegkonjphbfaaaGreatDoorPru3
set_option maxHeartbeats 40000000
set_option maxRecDepth 20000
set_option linter.unusedSimpArgs false
set_option linter.unusedVariables false
namespace Go.Proofs.YtcegkonjphbfaaaGreatDoor
open Go.Gh
open Nat (reduceEqDiff reduceLeDiff reduceAdd reduceLT)
open Int (reduceNe)
theorem o23 (bs:List UInt8) (hb:bs.length≤1048576) (H:GH):Gc 23 [Bs bs] H (fun g H'=>∃rc,g = .ptr rc 3 0 0∧H'=(rc,3,[.cur])::H):=by
 refine GCalls.fr (R:=fun g H'=>∃rc e,isC e∧g = .ptr rc 3 0 0∧H'=(rc,3,[e])::H) ?_ (fun g H' ⟨rc,e,h1,h2,h3⟩=>by subst h3;exact ⟨g,_,FR.uncur h1,rc,h2,rfl⟩)
 refine Z8 mxd i23 rfl (by simp) ?_;refine X0 ?_
 (refine V0 ?_)
 refine Y3 mxd (ι:={ x:Nat×Int // x.1≤bs.length }) (fun x=>[(0,Bs bs),(3,I x.1.2),(4,I x.1.1)]) (fun _ => H) (fun x=>bs.length-x.1.1) ⟨(0,26583+bs.length),by simp⟩ (by simp[E2]) rfl ?_
 rintro ⟨⟨i,h⟩,hi⟩
 dsimp only at hi ⊢
 (refine V0 ?_;with_reducible repeat' first|intro h|apply jO)
 all_goals try exact oF
 ·exact nx ⟨(i+1,_),by dsimp only;omega⟩ (by simp<;>omega) (by simp[E2];rfl) rfl
 all_goals exact ⟨_,_,⟨bs,0,_,rfl,by omega,by omega,by omega⟩,rfl,rfl⟩
theorem w91:Dv Tryz.prog 91 [] (fun g=>∃k:Nat,k<256∧g=I k):=by
 refine fun rc H=>GCalls.open fun e he=> ?_
 refine GCalls.fr (R:=fun g H'=>(∃k:Nat,k<256∧g=I k)∧∃e,isC e∧H'=(rc,3,[e])::H) ?_ (fun g H' ⟨h1,e',h2,h3⟩=>by subst h3;exact ⟨g,_,FR.uncur h2,[],⟨h1,rfl⟩,rfl⟩)
 obtain ⟨bs,i,h,rfl,h0,h1,h2⟩:=he
 obtain ⟨i,rfl⟩:=Int.eq_ofNat_of_zero_le h0
 refine Z8 mxd i91 rfl (by simp) ?_;refine X0 ?_
 (refine V0 ?_;with_reducible repeat' first|intro h|apply jO)
 all_goals first
  | exact ⟨_,⟨bs,_,_,rfl,by omega,by omega,h2⟩,rfl⟩
  | (obtain ⟨k,hk,hk2⟩:=andI_255 _;exact ⟨k,hk2,by rw[hk]⟩)
theorem w49 (n:Int):Dv Tryz.prog 49 [I n] (fun g=>∃k:Int,0≤k∧(0<n→k<n)∧(n≤0→k=0)∧g=I k):=by
 refine Dv.of0 fun rc H=> ?_
 refine Z8 mxd i49 rfl (by simp) ?_;refine X0 ?_
 (refine V0 ?_;with_reducible repeat' first|intro h|apply jO)
 ·exact ⟨0,by omega,by omega,by omega,rfl⟩
 ·refine callS.dv w91 Z6 ?_
  rintro _ ⟨k,hk,rfl⟩
  (refine V0 ?_)
  exact ⟨_,Int.tmod_nonneg _ (by omega),fun _ => Int.tmod_lt_of_pos _ (by omega),rfl⟩
 ·refine callS.dv w91 Z6 ?_
  rintro _ ⟨k1,hk1,rfl⟩
  (refine V0 ?_)
  refine callS.dv w91 Z6 ?_
  rintro _ ⟨k2,hk2,rfl⟩
  (refine V0 ?_)
  refine callS.dv w91 Z6 ?_
  rintro _ ⟨k3,hk3,rfl⟩
  (refine V0 ?_)
  refine callS.dv w91 Z6 ?_
  rintro _ ⟨k4,hk4,rfl⟩
  (refine V0 ?_)
  exact ⟨_,Int.tmod_nonneg _ (by omega),fun _ => Int.tmod_lt_of_pos _ (by omega),rfl⟩
theorem wz49 (n:Int) (hn:0<n):Dv Tryz.prog 49 [I n] (fun g=>∃k:Nat,(k:Int)<n∧g=I k):=
 (w49 n).mono fun g H1 ⟨⟨k,h0,h1,_,h2⟩,h3⟩=>⟨⟨k.toNat,by have:=h1 hn;omega,by rw[h2,Int.toNat_of_nonneg h0]⟩,h3⟩
theorem w48 (n:Int):Dv Tryz.prog 48 [I n] (fun g=>∃b:Bool,g=B b):=by
 refine Dv.of0 fun rc H=> ?_
 refine Z8 mxd i48 rfl (by simp) ?_;refine X0 ?_
 refine callS.dv (w49 n) Z6 ?_
 rintro _ ⟨k,h0,h1,h2,rfl⟩
 (refine V0 ?_)
 exact ⟨_,rfl⟩
theorem w59 (es:List GV) (ha:noAg es=true) (hl:0<es.length):Dv Tryz.prog 59 [.sl 1 es] (fun g=>g∈es):=by
 refine Dv.of0 fun rc H=> ?_
 have hA:=notAgg ha
 have hB:=notRaw ha
 refine Z8 mxd i59 rfl (by simp) ?_;refine X0 ?_
 refine callS.dv (w49 es.length) Z6 ?_
 rintro _ ⟨k,h0,h1,h2,rfl⟩
 obtain ⟨k,rfl⟩:=Int.eq_ofNat_of_zero_le h0
 (refine V1 (jO hA hB) ?_)
 all_goals try exact oF
 exact gM _
theorem w97 (es:List GV) (ha:noAg es=true) (hl:0<es.length):Dv Tryz.prog 97 [.sl 1 es] (fun g=>g∈es):=by
 refine Dv.of0 fun rc H=> ?_
 have hA:=notAgg ha
 have hB:=notRaw ha
 refine Z8 mxd i97 rfl (by simp) ?_;refine X0 ?_
 refine callS.dv (w49 es.length) Z6 ?_
 rintro _ ⟨k,h0,h1,h2,rfl⟩
 obtain ⟨k,rfl⟩:=Int.eq_ofNat_of_zero_le h0
 (refine V1 (jO hA hB) ?_)
 all_goals try exact oF
 exact gM _
theorem w89:Dv Tryz.prog 89 [] (fun g=>∃s,shT s∧g=T s):=by
 refine Dv.of0 fun rc H=> ?_
 refine Z8 mxd i89 rfl (by simp) ?_;refine X0 ?_
 refine callS.dv (w59 _ rfl (by simp)) Z6 ?_
 rintro _ hg
 obtain ⟨s,hs,rfl⟩:=XX rfl hg
 (refine V0 ?_;with_reducible repeat' first|exact trivial|intro h|refine aO ?_|refine eO ?_|apply jO)
 exact ⟨s,hs,rfl⟩
theorem w90 (n k:Int):Pu 90 [I n,I k] (· = ExN (.mk 1 n 0 k noS noS [])):=by
 refine Z8 mxd i90 rfl (by simp) ?_;refine X0 ?_
 (refine V0 ?_)
 rfl
theorem o98 (op:Int) (a b:Exp) (H:GH):Gc 98 [I op,Ex a,Ex b] H (fun g H'=>∃H1,(∃r,g=ExR (.mk 4 op 0 0 noS noS [a,b]) r∧H1=[(r,7,[Ex a,Ex b])])∧H'=H1++H):=by
 refine Z8 mxd i98 rfl (by simp) ?_;refine X0 ?_
 (refine V1 @XE ?_;with_reducible repeat' intro h)
 exact ⟨_,⟨_,rfl,rfl⟩,rfl⟩
theorem w130 (kind:Int) (l:List Oc) (hl:∀o∈l,shT o.2):Dv Tryz.prog 130 [I kind,OcS l] (fun g=>∃e,e.args=[]∧shD 0 e∧g=ExN e):=by
 refine Dv.of0 fun rc H=> ?_
 refine Z8 mxd i130 rfl (by simp) ?_;refine X0 ?_
 (refine V0 ?_;with_reducible repeat' first|intro h|apply jO)
 (repeat' ((first|(refine callS.dv (wz49 _ (by omega)) (by first|exact Z6|(simp only[Z4, *,if_true,if_false];done)) ?_;rintro _ ⟨_,_,rfl⟩)|(refine callS.dv (w49 _) (by first|exact Z6|(simp only[Z4, *,if_true,if_false];done)) ?_;rintro _ ⟨_,_,_,_,rfl⟩)|(refine callS.dv (w48 _) (by first|exact Z6|(simp only[Z4, *,if_true,if_false];done)) ?_;rintro _ ⟨_,rfl⟩)|(refine callS.dv (w89) (by first|exact Z6|(simp only[Z4, *,if_true,if_false];done)) ?_;rintro _ ⟨_,_,rfl⟩)|(refine callS.dv (w59 _ rfl (by simp)) (by first|exact Z6|(simp only[Z4, *,if_true,if_false];done)) ?_;intro _ hg;obtain ⟨_,_,rfl⟩:=XX rfl hg;clear hg)|(refine callS.dv (w97 _ rfl (by simp)) (by first|exact Z6|(simp only[Z4, *,if_true,if_false];done)) ?_;intro _ hg;obtain ⟨_,_,rfl⟩:=ltI_mem (lo:= -9223372036854775808) (hi:=9223372036854775807) rfl hg;clear hg)|(with_reducible refine callS.eq (w90 _ _) ?_)|(refine callA.dv (wz49 _ (by omega)) (by first|exact Z6|(simp only[Z4, *,if_true,if_false];done)) ?_;rintro _ ⟨_,_,rfl⟩)|(refine callA.dv (w49 _) (by first|exact Z6|(simp only[Z4, *,if_true,if_false];done)) ?_;rintro _ ⟨_,_,_,_,rfl⟩)|(refine callA.dv (w48 _) (by first|exact Z6|(simp only[Z4, *,if_true,if_false];done)) ?_;rintro _ ⟨_,rfl⟩)|(refine callA.dv (w89) (by first|exact Z6|(simp only[Z4, *,if_true,if_false];done)) ?_;rintro _ ⟨_,_,rfl⟩)|(refine callA.dv (w59 _ rfl (by simp)) (by first|exact Z6|(simp only[Z4, *,if_true,if_false];done)) ?_;intro _ hg;obtain ⟨_,_,rfl⟩:=XX rfl hg;clear hg)|(refine callA.dv (w97 _ rfl (by simp)) (by first|exact Z6|(simp only[Z4, *,if_true,if_false];done)) ?_;intro _ hg;obtain ⟨_,_,rfl⟩:=ltI_mem (lo:= -9223372036854775808) (hi:=9223372036854775807) rfl hg;clear hg)|(with_reducible refine callA.eq (w90 _ _) ?_));(refine V0 ?_;with_reducible repeat' first|intro h|apply jO)))
 all_goals first
  | exact ⟨.mk _ _ _ _ noS noS [],rfl,shD_leaf (by decide) (by decide),rfl⟩
  | exact ⟨.mk _ _ _ _ noS _ [],rfl,shD_leaf (by decide) (hl _ (gM _)),rfl⟩
  | exact u64_nn _
theorem o88 (d:Nat) (hb:d≤8):Dc Tryz.prog 88 [I d] (fun g H1=>∃e,shD d e∧ExW e g H1):=by
 induction d with
 | zero=>
  refine fun rc H=> ?_
  refine Z8 mxd i88 rfl (by simp) ?_;refine X0 ?_
  ((try refine qI ?_);(repeat ((first|with_reducible refine qU ?_ | simp only[YD]);try simp (maxSteps:=9^7) +contextual only[↓ S2,S2,↓reduceIte,reduceNe,reduceEqDiff,reduceCtorEq,reduceLeDiff,reduceAdd,reduceLT,VQ,Int.reduceLT]));(try simp +contextual (disch:=omega) only[Z2,Int.reduceLT]);(with_reducible repeat' (first|intro h|refine And.intro (by omega) ?_ | refine exP (by omega) ?_ | apply And.intro)))
  (repeat' ((first|(refine callS.dv (w130 _ [(_,_)] (by simp[*])) (by first|exact Z6|(simp only[Z4, *,if_true,if_false];done)) ?_;rintro _ ⟨e,_,_,rfl⟩)|(refine callS.dv (wz49 _ (by omega)) (by first|exact Z6|(simp only[Z4, *,if_true,if_false];done)) ?_;rintro _ ⟨_,_,rfl⟩)|(refine callS.dv (w49 _) (by first|exact Z6|(simp only[Z4, *,if_true,if_false];done)) ?_;rintro _ ⟨_,_,_,_,rfl⟩)|(refine callS.dv (w48 _) (by first|exact Z6|(simp only[Z4, *,if_true,if_false];done)) ?_;rintro _ ⟨_,rfl⟩)|(refine callS.dv (w89) (by first|exact Z6|(simp only[Z4, *,if_true,if_false];done)) ?_;rintro _ ⟨_,_,rfl⟩)|(refine callS.dv (w59 _ rfl (by simp)) (by first|exact Z6|(simp only[Z4, *,if_true,if_false];done)) ?_;intro _ hg;obtain ⟨_,_,rfl⟩:=XX rfl hg;clear hg)|(refine callS.dv (w97 _ rfl (by simp)) (by first|exact Z6|(simp only[Z4, *,if_true,if_false];done)) ?_;intro _ hg;obtain ⟨_,_,rfl⟩:=ltI_mem (lo:= -9223372036854775808) (hi:=9223372036854775807) rfl hg;clear hg)|(with_reducible refine callS.eq (w90 _ _) ?_)|(refine callA.dv (w130 _ [(_,_)] (by simp[*])) (by first|exact Z6|(simp only[Z4, *,if_true,if_false];done)) ?_;rintro _ ⟨e,_,_,rfl⟩)|(refine callA.dv (wz49 _ (by omega)) (by first|exact Z6|(simp only[Z4, *,if_true,if_false];done)) ?_;rintro _ ⟨_,_,rfl⟩)|(refine callA.dv (w49 _) (by first|exact Z6|(simp only[Z4, *,if_true,if_false];done)) ?_;rintro _ ⟨_,_,_,_,rfl⟩)|(refine callA.dv (w48 _) (by first|exact Z6|(simp only[Z4, *,if_true,if_false];done)) ?_;rintro _ ⟨_,rfl⟩)|(refine callA.dv (w89) (by first|exact Z6|(simp only[Z4, *,if_true,if_false];done)) ?_;rintro _ ⟨_,_,rfl⟩)|(refine callA.dv (w59 _ rfl (by simp)) (by first|exact Z6|(simp only[Z4, *,if_true,if_false];done)) ?_;intro _ hg;obtain ⟨_,_,rfl⟩:=XX rfl hg;clear hg)|(refine callA.dv (w97 _ rfl (by simp)) (by first|exact Z6|(simp only[Z4, *,if_true,if_false];done)) ?_;intro _ hg;obtain ⟨_,_,rfl⟩:=ltI_mem (lo:= -9223372036854775808) (hi:=9223372036854775807) rfl hg;clear hg)|(with_reducible refine callA.eq (w90 _ _) ?_));(refine V0 ?_;with_reducible repeat' first|exact trivial|intro h|refine aO ?_|refine eO ?_|apply jO)))
  all_goals first
   | exact ⟨[],⟨.mk _ _ _ _ noS noS [],shD_leaf (by decide) (by decide),.inl ⟨rfl,rfl,rfl⟩⟩,rfl⟩
   | exact ⟨[],⟨_,shD_mono (Nat.zero_le _) (by assumption),.inl ⟨by assumption,rfl,rfl⟩⟩,rfl⟩
   | exact ⟨[_],⟨.mk _ _ _ _ noS noS [_,_,_],shD_node (by decide) (by decide) (by simp) (by simp[*]),.inr ⟨_,rfl,rfl⟩⟩,rfl⟩
   | exact ⟨[_],⟨.mk _ _ _ _ _ _ [_],shD_node (by assumption) (by assumption) (by simp) (by simp[*]),.inr ⟨_,rfl,rfl⟩⟩,rfl⟩
   | exact ⟨[_],⟨.mk _ _ _ _ noS noS [_,_],shD_node (by decide) (by decide) (by simp) (by simp[*]),.inr ⟨_,rfl,rfl⟩⟩,rfl⟩
 | succ d ih=>
  refine fun rc H=> ?_
  have hf:=Dc.exp (ih (by omega))
  have hd:((d+1:Nat):Int)-1=d:=by omega
  refine Z8 mxd i88 rfl (by simp) ?_;refine X0 ?_
  (refine V1 hd ?_;with_reducible repeat' first|exact trivial|intro h|refine aO ?_|refine eO ?_|apply jO)
  (repeat' ((first|(refine callS.dv (w130 _ [(_,_)] (by simp[*])) (by first|exact Z6|(simp only[Z4, *,if_true,if_false];done)) ?_;rintro _ ⟨e,_,_,rfl⟩)|(refine callS.dv (hf) (by first|exact Z6|(simp only[Z4, *,if_true,if_false];done)) ?_;rintro _ ⟨e,_,rfl⟩)|(refine callS.of (o98 _ _ _ _) ?_;rintro _ _ ⟨_,⟨_,rfl,rfl⟩,rfl⟩ _)|(refine callS.dv (wz49 _ (by omega)) (by first|exact Z6|(simp only[Z4, *,if_true,if_false];done)) ?_;rintro _ ⟨_,_,rfl⟩)|(refine callS.dv (w49 _) (by first|exact Z6|(simp only[Z4, *,if_true,if_false];done)) ?_;rintro _ ⟨_,_,_,_,rfl⟩)|(refine callS.dv (w48 _) (by first|exact Z6|(simp only[Z4, *,if_true,if_false];done)) ?_;rintro _ ⟨_,rfl⟩)|(refine callS.dv (w89) (by first|exact Z6|(simp only[Z4, *,if_true,if_false];done)) ?_;rintro _ ⟨_,_,rfl⟩)|(refine callS.dv (w59 _ rfl (by simp)) (by first|exact Z6|(simp only[Z4, *,if_true,if_false];done)) ?_;intro _ hg;obtain ⟨_,_,rfl⟩:=XX rfl hg;clear hg)|(refine callS.dv (w97 _ rfl (by simp)) (by first|exact Z6|(simp only[Z4, *,if_true,if_false];done)) ?_;intro _ hg;obtain ⟨_,_,rfl⟩:=ltI_mem (lo:= -9223372036854775808) (hi:=9223372036854775807) rfl hg;clear hg)|(with_reducible refine callS.eq (w90 _ _) ?_)|(refine callA.dv (w130 _ [(_,_)] (by simp[*])) (by first|exact Z6|(simp only[Z4, *,if_true,if_false];done)) ?_;rintro _ ⟨e,_,_,rfl⟩)|(refine callA.dv (hf) (by first|exact Z6|(simp only[Z4, *,if_true,if_false];done)) ?_;rintro _ ⟨e,_,rfl⟩)|(refine callA.dv (wz49 _ (by omega)) (by first|exact Z6|(simp only[Z4, *,if_true,if_false];done)) ?_;rintro _ ⟨_,_,rfl⟩)|(refine callA.dv (w49 _) (by first|exact Z6|(simp only[Z4, *,if_true,if_false];done)) ?_;rintro _ ⟨_,_,_,_,rfl⟩)|(refine callA.dv (w48 _) (by first|exact Z6|(simp only[Z4, *,if_true,if_false];done)) ?_;rintro _ ⟨_,rfl⟩)|(refine callA.dv (w89) (by first|exact Z6|(simp only[Z4, *,if_true,if_false];done)) ?_;rintro _ ⟨_,_,rfl⟩)|(refine callA.dv (w59 _ rfl (by simp)) (by first|exact Z6|(simp only[Z4, *,if_true,if_false];done)) ?_;intro _ hg;obtain ⟨_,_,rfl⟩:=XX rfl hg;clear hg)|(refine callA.dv (w97 _ rfl (by simp)) (by first|exact Z6|(simp only[Z4, *,if_true,if_false];done)) ?_;intro _ hg;obtain ⟨_,_,rfl⟩:=ltI_mem (lo:= -9223372036854775808) (hi:=9223372036854775807) rfl hg;clear hg)|(with_reducible refine callA.eq (w90 _ _) ?_));(refine V1 (jO hd @XE) ?_;with_reducible repeat' first|exact trivial|intro h|refine aO ?_|refine eO ?_|apply jO)))
  all_goals first
   | exact ⟨[],⟨.mk _ _ _ _ noS noS [],shD_leaf (by decide) (by decide),.inl ⟨rfl,rfl,rfl⟩⟩,rfl⟩
   | exact ⟨[],⟨_,shD_mono (Nat.zero_le _) (by assumption),.inl ⟨by assumption,rfl,rfl⟩⟩,rfl⟩
   | exact ⟨[_],⟨.mk _ _ _ _ noS noS [_,_,_],shD_node (by decide) (by decide) (by simp) (by simp[*]),.inr ⟨_,rfl,rfl⟩⟩,rfl⟩
   | exact ⟨[_],⟨.mk _ _ _ _ _ _ [_],shD_node (by assumption) (by assumption) (by simp) (by simp[*]),.inr ⟨_,rfl,rfl⟩⟩,rfl⟩
   | exact ⟨[_],⟨.mk _ _ _ _ noS noS [_,_],shD_node (by decide) (by decide) (by simp) (by simp[*]),.inr ⟨_,rfl,rfl⟩⟩,rfl⟩
theorem o96:Dc Tryz.prog 96 [] (fun g H1=>∃e,shD 5 e∧ExW e g H1):=by
 refine Dc.of fun rc H=> ?_
 refine Z8 mxd i96 rfl (by simp) ?_;refine X0 ?_
 refine callS.dv (wz49 _ (by omega)) Z6 ?_
 rintro _ ⟨k,hk,rfl⟩
 (refine V0 ?_;with_reducible repeat' first|exact trivial|intro h|refine aO ?_|refine eO ?_|apply jO)
 refine callS.dc (o88 (1+k) (by omega)) Z6 ?_
 rintro g H1 ⟨e,he,hw⟩ hn
 have hok:=shEx_ok (shD_ex (by omega) he)
 rcases hw with ⟨h0,rfl,rfl⟩|⟨r,rfl,rfl⟩
 ·simp only[List.nil_append] at hn ⊢
  (refine V0 ?_;with_reducible repeat' first|exact trivial|intro h|refine aO ?_|refine eO ?_|apply jO)
  refine callS.borA (w74 e hok.1 hok.2) (.cons (bor_ExN h0) .nil) rfl ?_
  (refine V0 ?_;with_reducible repeat' first|exact trivial|intro h|refine aO ?_|refine eO ?_|apply jO)
  ·exact ⟨_,[],[_],[],⟨e,shD_mono (by omega) he,.inl ⟨h0,rfl,rfl⟩⟩,.refl,rfl,(by simp[subH,Z5,names])⟩
  ·exact ⟨_,[],[_],[],⟨.mk _ _ _ _ noS noS [],shD_leaf (by decide) (by decide),.inl ⟨rfl,rfl,rfl⟩⟩,.refl,rfl,(by simp[subH,Z5,names])⟩
 ·simp only[List.cons_append,List.nil_append] at hn ⊢
  have h3:=ZP hn
  (replace h3:=h3;simp only[VN] at h3)
  (refine V0 ?_;with_reducible repeat' first|exact trivial|intro h|refine aO ?_|refine eO ?_|apply jO)
  refine callS.borA (w74 e hok.1 hok.2) (.cons (bor_ExR Z6) .nil) rfl ?_
  (refine V0 ?_;with_reducible repeat' first|exact trivial|intro h|refine aO ?_|refine eO ?_|apply jO)
  ·exact ⟨_,[_],[_,_],[],⟨e,shD_mono (by omega) he,.inr ⟨r,rfl,rfl⟩⟩,.refl,rfl,(by simp[subH,Z5,names,h3])⟩
  ·exact ⟨_,[],[_,_],[],⟨.mk _ _ _ _ noS noS [],shD_leaf (by decide) (by decide),.inl ⟨rfl,rfl,rfl⟩⟩,.refl,rfl,(by simp[subH,Z5,names,h3])⟩
theorem w60:Dv Tryz.prog 60 [] (fun g=>∃e,shEx e∧g=Ex e):=by
 refine Dv.of fun rc H=> ?_
 refine Z8 mxd i60 rfl (by simp) ?_;refine X0 ?_
 refine callS.dc (Dc.own o96) Z6 ?_
 rintro g H1 ⟨e,r,he,rfl,rfl⟩ hn
 have hal:=X5 (shEx_ok (shD_ex (by omega) he)).2
 have hwx:=he
 unfold shD at hwx
 try simp only[List.cons_append,List.nil_append] at hn
 try simp only[List.cons_append,List.nil_append]
 have h3:=ZP hn
 (replace h3:=h3;simp only[VN] at h3)
 (refine V0 ?_;with_reducible repeat' first|exact trivial|intro h|refine aO ?_|refine eO ?_|apply jO)
 (repeat' ((first|(refine callS.dv (wz49 _ (by omega)) (by first|exact Z6|(simp only[Z4, *,if_true,if_false];done)) ?_;rintro _ ⟨_,_,rfl⟩)|(refine callS.dv (w49 _) (by first|exact Z6|(simp only[Z4, *,if_true,if_false];done)) ?_;rintro _ ⟨_,_,_,_,rfl⟩)|(refine callS.dv (w48 _) (by first|exact Z6|(simp only[Z4, *,if_true,if_false];done)) ?_;rintro _ ⟨_,rfl⟩)|(refine callS.dv (w89) (by first|exact Z6|(simp only[Z4, *,if_true,if_false];done)) ?_;rintro _ ⟨_,_,rfl⟩)|(refine callS.dv (w59 _ rfl (by simp)) (by first|exact Z6|(simp only[Z4, *,if_true,if_false];done)) ?_;intro _ hg;obtain ⟨_,_,rfl⟩:=XX rfl hg;clear hg)|(refine callS.dv (w97 _ rfl (by simp)) (by first|exact Z6|(simp only[Z4, *,if_true,if_false];done)) ?_;intro _ hg;obtain ⟨_,_,rfl⟩:=ltI_mem (lo:= -9223372036854775808) (hi:=9223372036854775807) rfl hg;clear hg)|(refine callA.dv (wz49 _ (by omega)) (by first|exact Z6|(simp only[Z4, *,if_true,if_false];done)) ?_;rintro _ ⟨_,_,rfl⟩)|(refine callA.dv (w49 _) (by first|exact Z6|(simp only[Z4, *,if_true,if_false];done)) ?_;rintro _ ⟨_,_,_,_,rfl⟩)|(refine callA.dv (w48 _) (by first|exact Z6|(simp only[Z4, *,if_true,if_false];done)) ?_;rintro _ ⟨_,rfl⟩)|(refine callA.dv (w89) (by first|exact Z6|(simp only[Z4, *,if_true,if_false];done)) ?_;rintro _ ⟨_,_,rfl⟩)|(refine callA.dv (w59 _ rfl (by simp)) (by first|exact Z6|(simp only[Z4, *,if_true,if_false];done)) ?_;intro _ hg;obtain ⟨_,_,rfl⟩:=XX rfl hg;clear hg)|(refine callA.dv (w97 _ rfl (by simp)) (by first|exact Z6|(simp only[Z4, *,if_true,if_false];done)) ?_;intro _ hg;obtain ⟨_,_,rfl⟩:=ltI_mem (lo:= -9223372036854775808) (hi:=9223372036854775807) rfl hg;clear hg));(refine V1 (jO @List.length_map.{0,0} @X9) ?_;with_reducible repeat' first|exact trivial|intro h|refine aO ?_|refine eO ?_|apply jO)))
 all_goals try exact oF
 all_goals first
  | exact ⟨_,[_,_,_],[(r,7,_)],⟨.mk _ _ _ _ e.sym e.name e.args,shEx_upd (.inr rfl) (by omega),rfl⟩,bor_ExV Z6 rfl,rfl,by simp[subH,Z5,names, *]⟩
  | exact ⟨_,[_,_,_],[(r,7,_)],⟨.mk _ _ _ _ e.sym _ e.args,shEx_upd (.inl (by assumption)) (by omega),rfl⟩,bor_ExV Z6 rfl,rfl,by simp[subH,Z5,names, *]⟩
  | skip
 ·rename_i q1 _ q2
  rw[tL (by simp)]
  refine ⟨_,[_,_,_,_],[(q2,7,_)],⟨.mk _ _ _ _ e.sym e.name (e.args++[.mk 7 0 0 0 noS noS []]),?_,rfl⟩,bor_ExApp (e:= .mk 7 0 0 0 noS noS []) Z6 rfl rfl,rfl,by simp[subH,Z5,names,Exp.kind,Exp.n,Exp.pos,Exp.type,Exp.sym,Exp.name,noS, *]⟩
  unfold shEx
  rw[wEx_app,wEx_lit]
  have:=Exp.eta e
  rw[this]
  omega
 ·rename_i q1 _ _ _ _ _ _ _ _
  have hne:¬q1=r:=by simp[*]
  refine wloopF mxd (ι:={ x:Nat×Exp // x.1≤5∧wEx x.2≤40960+2 * x.1 }) (fun x=>[(2,.raw 7),(3,.ptr q1 7 0 0),(4,I x.1.1)]) (fun x=>(q1,7,[Ex x.1.2])::(rc,3,[.cur])::H) (fun x=>5-x.1.1) ⟨(0,.mk e.kind e.n e.pos e.type e.sym e.name e.args),by rw[Exp.eta];constructor<;>simp<;>omega⟩ (FE.trans FE.swap (FE.frzE hne rfl)) (by simp[E2]) rfl ?_
  rintro ⟨⟨k,x⟩,hk,hx⟩ hn2
  dsimp only at hk hx hn2 ⊢
  have h4:=ZP hn2
  (replace h4:=h4;simp only[VN] at h4)
  refine YP mxd ?_
  (refine V1 @XE ?_;with_reducible repeat' first|exact trivial|intro h|refine aO ?_|refine eO ?_|apply jO)
  all_goals try exact oF
  ·refine callS.of (GCalls.see (o98 1 x (.mk 2 0 0 0 noS noS []) _) (.cons .refl (.cons .refl (.cons (bor_ExN (e:= .mk 2 0 0 0 noS noS []) rfl) .nil)))) ?_
   rintro _ _ ⟨_,⟨q3,rfl,rfl⟩,rfl⟩ hn3
   try simp only[List.cons_append,List.nil_append] at hn3
   have h5:=ZP hn3
   (replace h5:=h5;simp only[VN] at h5)
   (refine V1 (jO @XE h5) ?_;with_reducible repeat' first|exact trivial|intro h|refine aO ?_|refine eO ?_|apply jO)
   have hne2:¬q1=q3:=by simp[*]
   refine nxF ⟨(k+1,.mk 4 1 0 0 noS noS [x,.mk 2 0 0 0 noS noS []]),by rw[wEx_op,wEx_lit];constructor<;>simp<;>omega⟩ (by simp<;>omega) (FE.frzE (l:=[x,.mk 2 0 0 0 noS noS []]) hne2 rfl) (by simp[E2]) rfl
  ·refine ⟨_,[_,_],[],⟨x,?_,rfl⟩,.refl,rfl,by simp[subH,Z5,names, *]⟩
   unfold shEx;omega
theorem w5 (bs:List UInt8):Pu 5 [Bs bs] (· = B (decide ((1048576:Int)<bs.length))):=by
 refine Z8 mxd i5 rfl (by simp) ?_;refine X0 ?_
 (refine V1 @List.length_map.{0,0} ?_;with_reducible repeat' exact trivial)
end Go.Proofs.YtcegkonjphbfaaaGreatDoor
