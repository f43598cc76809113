/- The law FnDefined returns true whatever the input, and the input reads behind the call as before. No condition. -/
import Derived.Test.YtofcbmnplanmkaaGreatFde2
set_option maxHeartbeats 40000000
set_option linter.unusedSimpArgs false
set_option linter.unusedVariables false
namespace Go.Proofs.YtofcbmnplanmkaaGreat
open Go.Gh
open Nat (reduceEqDiff reduceLeDiff reduceAdd reduceLT)
open Int (reduceNe)
set_option maxRecDepth 20000
set_option linter.unusedSimpArgs false
set_option linter.unusedVariables false
end Go.Proofs.YtofcbmnplanmkaaGreat
namespace Go.Proofs.YtofcbmnplanmkaaGreat
open Go.Gh
open Nat (reduceEqDiff reduceLeDiff reduceAdd reduceLT)
open Int (reduceNe)
set_option maxRecDepth 20000
set_option linter.unusedSimpArgs false
set_option linter.unusedVariables false
theorem w158 (g:Gram) (s:ByteArray) (hg:Zw g):Pu 158 [Gr g,T s] (· = I (Zu (fun y:Sym=>decide (y.name=s)) g.syms)):=by
 have hl:=hg.1
 refine ZW mxd i158 rfl (by simp) ?_;refine X0 ?_
 (refine V0 ?_;with_reducible repeat' first|exact trivial|intro h|refine aO ?_|refine eO ?_|apply jO)
 refine Zz mxd (ι:={ i:Nat // i≤g.syms.length∧∀y∈g.syms.take i,decide (y.name=s)=false }) (fun i=>[(1,T s),(2,.rop 2 (Gr g)),(5,I i.1)]) (fun _ => []) (fun i=>g.syms.length-i.1) ⟨0,by simp⟩ (by simp [E2]) rfl ?_
 rintro ⟨i,hi,hn⟩
 rcases nL i g.syms.length with hlt|hge
 ·by_cases he:g.syms[i].name = s
  ·rw [ixOf_hit hlt (by simp [he]) hn]
   (refine V1 he ?_;with_reducible repeat' first|exact trivial|intro h|refine aO ?_|refine eO ?_|apply jO)
   all_goals try exact oF
  ·(refine V1 he ?_;with_reducible repeat' first|exact trivial|intro h|refine aO ?_|refine eO ?_|apply jO)
   all_goals try exact oF
   exact nx ⟨i+1,by omega,Y5 hlt (by simp [he]) hn⟩ (by simp<;>omega) (by simp [E2]) rfl
 ·obtain rfl:i=g.syms.length:=by omega
  rw [List.take_length] at hn
  rw [ixOf_none hn]
  (refine V0 ?_;with_reducible repeat' first|exact trivial|intro h|refine aO ?_|refine eO ?_|apply jO)
  all_goals try exact oF
theorem w181 (g:Gram) (s:ByteArray) (out:List Int) (hg:Zw g) (ho:out.length=g.syms.length):Pu 181 [Gr g,T s,IS out] (· = B (rchS g out s)):=by
 have hl:=hg.1
 have hl2:=hg.2.1
 refine ZW mxd i181 rfl (by simp) ?_;refine X0 ?_
 (refine V0 ?_;with_reducible repeat' first|exact trivial|intro h|refine aO ?_|refine eO ?_|apply jO)
 refine Zz mxd (ι:={ i:Nat // i≤g.rules.length∧∀r∈g.rules.take i,rchR g out s r=false }) (fun i=>[(1,T s),(2,IS out),(3,.rop 2 (Gr g)),(7,I i.1)]) (fun _ => []) (fun i=>g.rules.length-i.1) ⟨0,by simp⟩ (by simp [E2]) rfl ?_
 rintro ⟨i,hi,hn⟩
 rcases nL i g.rules.length with hlt|hge
 ·have hr:=hg.2.2.2 _ (gM hlt)
  have hrl:=hr.1
  (refine V0 ?_;with_reducible repeat' first|exact trivial|intro h|refine aO ?_|refine eO ?_|apply jO)
  all_goals try exact oF
  have hz:decide (g.rules[i].left = s)=rchP g out s g.rules[i] 0:=by simp [rchP]
  refine Zz mxd (ι:={ k:Nat // k≤g.rules[i].right.length }) (fun k=>[(1,T s),(2,IS out),(3,.rop 2 (Gr g)),(7,I i),(8,.rop 6 (Ru g.rules[i])),(9,B (rchP g out s g.rules[i] k.1)),(10,I k.1)]) (fun _ => []) (fun k=>g.rules[i].right.length - k.1) ⟨0,by simp⟩ (by simp [E2,hz]) rfl ?_
  rintro ⟨k,hk⟩
  rcases nL k g.rules[i].right.length with hlt2|hge2
  ·have hst:=rchP_step (g:=g) (out:=out) (s:=s) hlt2
   have hix:=ixOf_cases (fun y:Sym=>decide (y.name=g.rules[i].right[k])) g.syms
   have hho:hOf g out g.rules[i].right[k]=if Zu (fun y:Sym=>decide (y.name=g.rules[i].right[k])) g.syms<0 then 0 else out.getD (Zu (fun y:Sym=>decide (y.name=g.rules[i].right[k])) g.syms).toNat 0:=rfl
   (refine V0 ?_;with_reducible repeat' first|exact trivial|intro h|refine aO ?_|refine eO ?_|apply jO)
   all_goals try exact oF
   refine callS.eq (w158 g g.rules[i].right[k] hg) ?_
   rcases bC (rchP g out s g.rules[i] k) with hv|hv
   ·rw [hv,Bool.false_and] at hst
    (refine V1 hv ?_;with_reducible repeat' first|exact trivial|intro h|refine aO ?_|refine eO ?_|apply jO)
    exact nx ⟨k+1,by omega⟩ (by simp<;>omega) (by simp [E2,hst]) rfl
   ·rw [hv,Bool.true_and] at hst
    rcases hix with hx|⟨hx,hx2⟩
    ·rw [hx] at hho ⊢
     rw [if_pos (by omega)] at hho
     rw [hho] at hst
     (refine V2 (jO hv (jO @ge_iff_le.{0} @decide_false)) ?_;with_reducible repeat' first|exact trivial|intro h|refine aO ?_|refine eO ?_|apply jO)
     exact nx ⟨k+1,by omega⟩ (by simp<;>omega) (by simp [E2,hst]) rfl
    ·obtain ⟨a,ha⟩:∃a:Nat,Zu (fun y:Sym=>decide (y.name=g.rules[i].right[k])) g.syms=a:=⟨(Zu (fun y:Sym=>decide (y.name=g.rules[i].right[k])) g.syms).toNat,by omega⟩
     rw [ha] at hho hx hx2 ⊢
     have ha2:a<out.length:=by omega
     rw [if_neg (by omega),Int.toNat_natCast,ZJ ha2] at hho
     rw [hho] at hst
     have hmx:max (a:Int) 0=a:=by omega
     (refine V1 (jO hv (jO hx (jO @ge_iff_le.{0} @decide_true))) ?_;with_reducible repeat' first|exact trivial|intro h|refine aO ?_|refine eO ?_|apply jO)
     refine callS.eq (w83 _ _) ?_
     rw [hmx]
     (refine V1 hst ?_;with_reducible repeat' first|exact trivial|intro h|refine aO ?_|refine eO ?_|apply jO)
     all_goals try exact oF
     exact nx ⟨k+1,by omega⟩ (by simp<;>omega) (by simp [E2,hst]) rfl
  ·obtain rfl:k=g.rules[i].right.length := by omega
   have he:=rchP_end g out s g.rules[i]
   rcases bC (rchR g out s g.rules[i]) with hw|hw
   ·rw [he,hw]
    (refine V0 ?_;with_reducible repeat' first|exact trivial|intro h|refine aO ?_|refine eO ?_|apply jO)
    all_goals try exact oF
    exact nx ⟨i+1,by omega,Y0 hlt hw hn⟩ (by simp<;>omega) (by simp [E2]) rfl
   ·have:rchS g out s=true:=any_yes hlt hw
    rw [he,hw,this]
    (refine V0 ?_;with_reducible repeat' first|exact trivial|intro h|refine aO ?_|refine eO ?_|apply jO)
    all_goals try exact oF
 ·obtain rfl:i=g.rules.length:=by omega
  rw [List.take_length] at hn
  have:rchS g out s=false:=any_no hn
  rw [this]
  (refine V0 ?_;with_reducible repeat' first|exact trivial|intro h|refine aO ?_|refine eO ?_|apply jO)
  all_goals try exact oF
theorem w159 (g:Gram) (hg:Zw g) (h4:g.syms.length≤4):Pu 159 [Gr g] (· = IS (hgts g)):=by
 refine Pure.bor ?_
 refine ZW mxd i159 rfl (by simp) ?_;refine X0 ?_
 (refine V0 ?_;with_reducible repeat' first|exact trivial|intro h|refine aO ?_|refine eO ?_|apply jO)
 all_goals try exact oF
 rename_i r0
 refine ploop mxd (ι:={ x:Nat×Nat // x.2≤g.syms.length }) (fun x=>[(1,.rop 2 (Gr g)),(3,.own x.1.1 1 0 g.syms.length),(4,I ((x.1.2:Int)+1))]) (fun x=>[(x.1.1,1,(hIt g x.1.2).map I)]) (fun x=>g.syms.length-x.1.2) ⟨(r0,0),by simp⟩ (by simp [E2]) (by simp [subH,ZU,names,hIt]) ?_
 rintro ⟨⟨q,k⟩,hk⟩ hn0
 dsimp only at hk hn0 ⊢
 have hol:=hIt_len g k
 rcases nL k g.syms.length with hlt|hge
 ·(refine V1 (jO @List.length_map.{0,0} hol) ?_;with_reducible repeat' first|exact trivial|intro h|refine aO ?_|refine eO ?_|apply jO)
  all_goals try exact oF
  rename_i q2 hq2 q3
  rw [soT_I hol]
  (refine V1 (jO @List.length_map.{0,0} (jO @List.length_append.{0} (jO @List.length_nil.{0} (jO hol @ZQ)))) ?_;with_reducible repeat' first|exact trivial|intro h|refine aO ?_|refine eO ?_|apply jO)
  all_goals try exact oF
  rename_i r5
  refine ploop mxd (ι:={ x:Nat×List Int // x.1≤g.syms.length∧nxt g k x.1 x.2 }) (fun x=>[(1,.rop 2 (Gr g)),(3,.own q 1 0 g.syms.length),(4,I ((k:Int)+1)),(5,.own r5 1 0 g.syms.length),(6,I x.1.1)]) (fun x=>[(r5,1,x.1.2.map I),(q,1,(hIt g k).map I)]) (fun x=>g.syms.length-x.1.1) ⟨(0,hIt g k),by omega,nxt_0 g k⟩ (by simp [E2]) (by repeat' (first|exact trivial|(refine And.intro (by simp only [Z9, *,if_true,if_false];try rfl) (And.intro (by simp [ZS,ZR, *]) ?_)))) ?_
  rintro ⟨⟨i,Y⟩,hi,hY⟩ hn2
  dsimp only at hi hY hn2 ⊢
  (replace hn2:=hn2;simp only [VN] at hn2)
  have hYl:=hY.1
  rcases nL i g.syms.length with hlt2|hge2
  ·have hg1:(hIt g k).getD i 0=(hIt g k)[i]:=ZJ (by omega)
   have hg2:g.syms.getD i symZ=g.syms[i]:=ZJ hlt2
   have hnx:hNext g ((k:Int)+1) (hIt g k) i=if 0<(hIt g k)[i] then (hIt g k)[i] else if rchS g (hIt g k) g.syms[i].name = true then (k:Int)+1 else (hIt g k)[i]:=by simp only [hNext,hg1,hg2]
   have hnn:=hIt_nn g k _ (gM (show i<(hIt g k).length by omega))
   by_cases hz:(hIt g k)[i]=0
   ·rw [if_neg (by omega)] at hnx
    (refine V1 (jO hn2 (jO hz (jO @List.length_map.{0,0} (jO hol (jO hYl @decide_true))))) ?_;with_reducible repeat' first|exact trivial|intro h|refine aO ?_|refine eO ?_|apply jO)
    all_goals try exact oF
    refine callS.borA (w181 g g.syms[i].name (hIt g k) hg hol) (.cons .refl (.cons .refl (.cons (bor_IS (by simp [Z9,hn2]) hol) .nil))) rfl ?_
    rcases bC (rchS g (hIt g k) g.syms[i].name) with hv|hv
    ·rw [hv,if_neg (by simp)] at hnx
     (refine V1 hv ?_;with_reducible repeat' first|exact trivial|intro h|refine aO ?_|refine eO ?_|apply jO)
     exact px ⟨(i+1,Y),by omega,nxt_keep hY hlt2 (by rw [hnx,hg1])⟩ (by simp<;>omega) (by simp [E2]) (by repeat' (first|exact trivial|(refine And.intro (by simp only [Z9, *,if_true,if_false];try rfl) (And.intro (by simp [ZS,ZR, *]) ?_))))
    ·rw [hv,if_pos rfl] at hnx
     (refine V1 (jO hn2 (jO hv (jO @List.length_map.{0,0} hYl))) ?_;with_reducible repeat' first|exact trivial|intro h|refine aO ?_|refine eO ?_|apply jO)
     all_goals try exact oF
     refine px ⟨(i+1,Y.set i ((k:Int)+1)),by omega,nxt_set hY hlt2 hnx⟩ (by simp<;>omega) (by simp [E2]) ?_
     show subH _ [(r5,1,(Y.set i ((k:Int)+1)).map I),(q,1,(hIt g k).map I)]
     rw [List.map_set]
     exact (by repeat' (first|exact trivial|(refine And.intro (by simp only [Z9, *,if_true,if_false];try rfl) (And.intro (by simp [ZS,ZR, *]) ?_))))
   ·rw [if_pos (by omega)] at hnx
    (refine V1 (jO hn2 (jO hz (jO @List.length_map.{0,0} (jO hol (jO hYl @decide_false))))) ?_;with_reducible repeat' first|exact trivial|intro h|refine aO ?_|refine eO ?_|apply jO)
    all_goals try exact oF
    exact px ⟨(i+1,Y),by omega,nxt_keep hY hlt2 (by rw [hnx,hg1])⟩ (by simp<;>omega) (by simp [E2]) (by repeat' (first|exact trivial|(refine And.intro (by simp only [Z9, *,if_true,if_false];try rfl) (And.intro (by simp [ZS,ZR, *]) ?_))))
  ·obtain rfl:i=g.syms.length:=by omega
   have hYe:=nxt_n hY
   subst hYe
   (refine V1 hn2 ?_;with_reducible repeat' first|exact trivial|intro h|refine aO ?_|refine eO ?_|apply jO)
   all_goals try exact oF
   exact px ⟨(r5,k+1),by omega⟩ (by simp<;>omega) (by simp [E2]) (by repeat' (first|exact trivial|(refine And.intro (by simp only [Z9, *,if_true,if_false];try rfl) (And.intro (by simp [ZS,ZR, *]) ?_))))
 ·obtain rfl:k=g.syms.length:=by omega
  (refine V0 ?_;with_reducible repeat' first|exact trivial|intro h|refine aO ?_|refine eO ?_|apply jO)
  all_goals try exact oF
  exact bor_IS ZX (hgts_len g)
theorem w124 (g:Gram) (s:ByteArray) (hg:Zw g) (h4:g.syms.length≤4):Pu 124 [Gr g,T s] (· = I (minH g s)):=by
 have hl:=hgts_len g
 have hix:=ixOf_cases (fun y:Sym=>decide (y.name=s)) g.syms
 have hm:minH g s=if Zu (fun y:Sym=>decide (y.name=s)) g.syms<0 then 0 else (hgts g).getD (Zu (fun y:Sym=>decide (y.name=s)) g.syms).toNat 0:=rfl
 refine ZW mxd i124 rfl (by simp) ?_;refine X0 ?_
 (refine V0 ?_;with_reducible repeat' first|exact trivial|intro h|refine aO ?_|refine eO ?_|apply jO)
 refine callS.eq (w158 g s hg) ?_
 rcases hix with hx|⟨hx,hx2⟩
 ·rw [hx,if_pos (by omega)] at hm
  rw [hx,hm]
  (refine V2 @decide_true ?_;with_reducible repeat' first|exact trivial|intro h|refine aO ?_|refine eO ?_|apply jO)
 ·obtain ⟨a,ha⟩:∃a:Nat,Zu (fun y:Sym=>decide (y.name=s)) g.syms=a:=⟨(Zu (fun y:Sym=>decide (y.name=s)) g.syms).toNat,by omega⟩
  rw [ha] at hx hx2 hm ⊢
  rw [if_neg (by omega),Int.toNat_natCast,ZJ (by omega)] at hm
  rw [hm]
  (refine V0 ?_;with_reducible repeat' first|exact trivial|intro h|refine aO ?_|refine eO ?_|apply jO)
  all_goals try exact oF
  refine callS.eq (w159 g hg h4) ?_
  (refine V1 (jO @List.length_map.{0,0} hl) ?_;with_reducible repeat' first|exact trivial|intro h|refine aO ?_|refine eO ?_|apply jO)
  all_goals try exact oF
theorem w101 (g:Gram) (s:ByteArray) (hg:Zw g) (h4:g.syms.length≤4):Pu 101 [Gr g,T s] (· = B (decide (0<minH g s))):=by
 refine ZW mxd i101 rfl (by simp) ?_;refine X0 ?_
 (refine V0 ?_;with_reducible repeat' first|exact trivial|intro h|refine aO ?_|refine eO ?_|apply jO)
 refine callS.eq (w124 g s hg h4) ?_
 (refine V1 @gt_iff_lt.{0} ?_;with_reducible repeat' first|exact trivial|intro h|refine aO ?_|refine eO ?_|apply jO)
theorem o49 (bs:List UInt8) (hb:bs.length≤1048576) (H:GH):Gc 49 [Bs bs] H (fun g H'=>∃rc,g = .ptr rc 3 0 0∧H'=(rc,3,[.cur])::H):=by
 refine GCalls.fr (R:=fun g H'=>∃rc e,isC e∧g = .ptr rc 3 0 0∧H'=(rc,3,[e])::H) ?_ (fun g H' ⟨rc,e,h1,h2,h3⟩=>by subst h3;exact ⟨g,_,FR.uncur h1,rc,h2,rfl⟩)
 refine ZW mxd i49 rfl (by simp) ?_;simp (maxSteps:=9^7) only [↓ S2,S2,Z5,↓reduceIte,reduceNe,reduceEqDiff,reduceCtorEq,reduceLeDiff,reduceAdd,reduceLT]
 ((try refine qI ?_);(repeat ((first|with_reducible refine qU ?_ | simp only [Z6]);try simp (maxSteps:=9^7) +contextual only [↓ S2,S2,↓reduceIte,reduceNe,reduceEqDiff,reduceCtorEq,reduceLeDiff,reduceAdd,reduceLT,VQ,]));(try simp +contextual (disch:=omega) only [Z2,]);(with_reducible repeat' (first|intro h|refine And.intro (by omega) ?_ | refine exP (by omega) ?_ | apply And.intro)))
 refine Zz mxd (ι:={ x:Nat×Int // x.1≤bs.length }) (fun x=>[(0,Bs bs),(3,I x.1.2),(4,I x.1.1)]) (fun _ => H) (fun x=>bs.length-x.1.1) ⟨(0,26583+bs.length),by simp⟩ (by simp [E2]) rfl ?_
 rintro ⟨⟨i,h⟩,hi⟩
 dsimp only at hi ⊢
 ((try refine qI ?_);(repeat ((first|with_reducible refine qU ?_ | simp only [Z6]);try simp (maxSteps:=9^7) +contextual only [↓ S2,S2,↓reduceIte,reduceNe,reduceEqDiff,reduceCtorEq,reduceLeDiff,reduceAdd,reduceLT,VQ,]));(try simp +contextual (disch:=omega) only [Z2,]);(with_reducible repeat' (first|intro h|refine And.intro (by omega) ?_ | refine exP (by omega) ?_ | apply And.intro)))
 all_goals try exact oF
 ·exact nx ⟨(i+1,_),by dsimp only;omega⟩ (by simp<;>omega) (by simp [E2];rfl) rfl
 all_goals exact ⟨_,_,⟨bs,0,_,rfl,by omega,by omega,by omega⟩,rfl,rfl⟩
theorem w84:Dv Tryz.prog 84 [] (fun g=>∃k:Nat,k<256∧g=I k):=by
 refine fun rc H=>GCalls.open fun e he=> ?_
 refine GCalls.fr (R:=fun g H'=>(∃k:Nat,k<256∧g=I k)∧∃e,isC e∧H'=(rc,3,[e])::H) ?_ (fun g H' ⟨h1,e',h2,h3⟩=>by subst h3;exact ⟨g,_,FR.uncur h2,[],⟨h1,rfl⟩,rfl⟩)
 obtain ⟨bs,i,h,rfl,h0,h1,h2⟩:=he
 obtain ⟨i,rfl⟩:=Int.eq_ofNat_of_zero_le h0
 refine ZW mxd i84 rfl (by simp) ?_;simp (maxSteps:=9^7) only [↓ S2,S2,Z5,↓reduceIte,reduceNe,reduceEqDiff,reduceCtorEq,reduceLeDiff,reduceAdd,reduceLT]
 ((try refine qI ?_);(repeat ((first|with_reducible refine qU ?_ | simp only [Z6]);try simp (maxSteps:=9^7) +contextual only [↓ S2,S2,↓reduceIte,reduceNe,reduceEqDiff,reduceCtorEq,reduceLeDiff,reduceAdd,reduceLT,VQ,]));(try simp +contextual (disch:=omega) only [Z2,]);(with_reducible repeat' (first|intro h|refine And.intro (by omega) ?_ | refine exP (by omega) ?_ | apply And.intro)))
 all_goals first
  | exact ⟨_,⟨bs,_,_,rfl,by omega,by omega,h2⟩,rfl⟩
  | (obtain ⟨k,hk,hk2⟩:=andI_255 _;exact ⟨k,hk2,by rw [hk]⟩)
theorem w50 (n:Int):Dv Tryz.prog 50 [I n] (fun g=>∃k:Int,0≤k∧(0<n→k<n)∧(n≤0→k=0)∧g=I k):=by
 refine Dv.of0 fun rc H=> ?_
 refine ZW mxd i50 rfl (by simp) ?_;simp (maxSteps:=9^7) only [↓ S2,S2,Z5,↓reduceIte,reduceNe,reduceEqDiff,reduceCtorEq,reduceLeDiff,reduceAdd,reduceLT]
 ((try refine qI ?_);(repeat ((first|with_reducible refine qU ?_ | simp only [Z6]);try simp (maxSteps:=9^7) +contextual only [↓ S2,S2,↓reduceIte,reduceNe,reduceEqDiff,reduceCtorEq,reduceLeDiff,reduceAdd,reduceLT,VQ,]));(try simp +contextual (disch:=omega) only [Z2,]);(with_reducible repeat' (first|intro h|refine And.intro (by omega) ?_ | refine exP (by omega) ?_ | apply And.intro)))
 ·exact ⟨0,by omega,by omega,by omega,rfl⟩
 ·refine callS.dv w84 ZX ?_
  rintro _ ⟨k,hk,rfl⟩
  ((try refine qI ?_);(repeat ((first|with_reducible refine qU ?_ | simp only [Z6]);try simp (maxSteps:=9^7) +contextual only [↓ S2,S2,↓reduceIte,reduceNe,reduceEqDiff,reduceCtorEq,reduceLeDiff,reduceAdd,reduceLT,VQ,]));(try simp +contextual (disch:=omega) only [Z2,]);(with_reducible repeat' (first|intro h|refine And.intro (by omega) ?_ | refine exP (by omega) ?_ | apply And.intro)))
  exact ⟨_,Int.tmod_nonneg _ (by omega),fun _ => Int.tmod_lt_of_pos _ (by omega),rfl⟩
 ·refine callS.dv w84 ZX ?_
  rintro _ ⟨k1,hk1,rfl⟩
  ((try refine qI ?_);(repeat ((first|with_reducible refine qU ?_ | simp only [Z6]);try simp (maxSteps:=9^7) +contextual only [↓ S2,S2,↓reduceIte,reduceNe,reduceEqDiff,reduceCtorEq,reduceLeDiff,reduceAdd,reduceLT,VQ,]));(try simp +contextual (disch:=omega) only [Z2,]);(with_reducible repeat' (first|intro h|refine And.intro (by omega) ?_ | refine exP (by omega) ?_ | apply And.intro)))
  refine callS.dv w84 ZX ?_
  rintro _ ⟨k2,hk2,rfl⟩
  ((try refine qI ?_);(repeat ((first|with_reducible refine qU ?_ | simp only [Z6]);try simp (maxSteps:=9^7) +contextual only [↓ S2,S2,↓reduceIte,reduceNe,reduceEqDiff,reduceCtorEq,reduceLeDiff,reduceAdd,reduceLT,VQ,]));(try simp +contextual (disch:=omega) only [Z2,]);(with_reducible repeat' (first|intro h|refine And.intro (by omega) ?_ | refine exP (by omega) ?_ | apply And.intro)))
  refine callS.dv w84 ZX ?_
  rintro _ ⟨k3,hk3,rfl⟩
  ((try refine qI ?_);(repeat ((first|with_reducible refine qU ?_ | simp only [Z6]);try simp (maxSteps:=9^7) +contextual only [↓ S2,S2,↓reduceIte,reduceNe,reduceEqDiff,reduceCtorEq,reduceLeDiff,reduceAdd,reduceLT,VQ,]));(try simp +contextual (disch:=omega) only [Z2,]);(with_reducible repeat' (first|intro h|refine And.intro (by omega) ?_ | refine exP (by omega) ?_ | apply And.intro)))
  refine callS.dv w84 ZX ?_
  rintro _ ⟨k4,hk4,rfl⟩
  ((try refine qI ?_);(repeat ((first|with_reducible refine qU ?_ | simp only [Z6]);try simp (maxSteps:=9^7) +contextual only [↓ S2,S2,↓reduceIte,reduceNe,reduceEqDiff,reduceCtorEq,reduceLeDiff,reduceAdd,reduceLT,VQ,]));(try simp +contextual (disch:=omega) only [Z2,]);(with_reducible repeat' (first|intro h|refine And.intro (by omega) ?_ | refine exP (by omega) ?_ | apply And.intro)))
  exact ⟨_,Int.tmod_nonneg _ (by omega),fun _ => Int.tmod_lt_of_pos _ (by omega),rfl⟩
theorem wz50 (n:Int) (hn:0<n):Dv Tryz.prog 50 [I n] (fun g=>∃k:Nat,(k:Int)<n∧g=I k):=
 (w50 n).mono fun g H1 ⟨⟨k,h0,h1,_,h2⟩,h3⟩=>⟨⟨k.toNat,by have:=h1 hn;omega,by rw [h2,Int.toNat_of_nonneg h0]⟩,h3⟩
theorem w68 (n:Int):Dv Tryz.prog 68 [I n] (fun g=>∃b:Bool,g=B b):=by
 refine Dv.of0 fun rc H=> ?_
 refine ZW mxd i68 rfl (by simp) ?_;simp (maxSteps:=9^7) only [↓ S2,S2,Z5,↓reduceIte,reduceNe,reduceEqDiff,reduceCtorEq,reduceLeDiff,reduceAdd,reduceLT]
 refine callS.dv (w50 n) ZX ?_
 rintro _ ⟨k,h0,h1,h2,rfl⟩
 ((try refine qI ?_);(repeat ((first|with_reducible refine qU ?_ | simp only [Z6]);try simp (maxSteps:=9^7) +contextual only [↓ S2,S2,↓reduceIte,reduceNe,reduceEqDiff,reduceCtorEq,reduceLeDiff,reduceAdd,reduceLT,VQ,]));(try simp +contextual (disch:=omega) only [Z2,]);(with_reducible repeat' (first|intro h|refine And.intro (by omega) ?_ | refine exP (by omega) ?_ | apply And.intro)))
 exact ⟨_,rfl⟩
theorem w104 (es:List GV) (ha:noAg es=true) (hl:0<es.length):Dv Tryz.prog 104 [.sl 1 es] (fun g=>g∈es):=by
 refine Dv.of0 fun rc H=> ?_
 have hA:=notAgg ha
 have hB:=notRaw ha
 refine ZW mxd i104 rfl (by simp) ?_;simp (maxSteps:=9^7) only [↓ S2,S2,Z5,↓reduceIte,reduceNe,reduceEqDiff,reduceCtorEq,reduceLeDiff,reduceAdd,reduceLT]
 refine callS.dv (w50 es.length) ZX ?_
 rintro _ ⟨k,h0,h1,h2,rfl⟩
 obtain ⟨k,rfl⟩:=Int.eq_ofNat_of_zero_le h0
 ((try refine qI ?_);(repeat ((first|with_reducible refine qU ?_ | simp only [Z6]);try simp (maxSteps:=9^7) +contextual only [↓ S2,S2,↓reduceIte,reduceNe,reduceEqDiff,reduceCtorEq,reduceLeDiff,reduceAdd,reduceLT,VQ,hA,hB]));(try simp +contextual (disch:=omega) only [Z2,hA,hB]);(with_reducible repeat' (first|intro h|refine And.intro (by omega) ?_ | refine exP (by omega) ?_ | apply And.intro)))
 all_goals try exact oF
 exact gM _
theorem w108 (es:List GV) (ha:noAg es=true) (hl:0<es.length):Dv Tryz.prog 108 [.sl 1 es] (fun g=>g∈es):=by
 refine Dv.of0 fun rc H=> ?_
 have hA:=notAgg ha
 have hB:=notRaw ha
 refine ZW mxd i108 rfl (by simp) ?_;simp (maxSteps:=9^7) only [↓ S2,S2,Z5,↓reduceIte,reduceNe,reduceEqDiff,reduceCtorEq,reduceLeDiff,reduceAdd,reduceLT]
 refine callS.dv (w50 es.length) ZX ?_
 rintro _ ⟨k,h0,h1,h2,rfl⟩
 obtain ⟨k,rfl⟩:=Int.eq_ofNat_of_zero_le h0
 ((try refine qI ?_);(repeat ((first|with_reducible refine qU ?_ | simp only [Z6]);try simp (maxSteps:=9^7) +contextual only [↓ S2,S2,↓reduceIte,reduceNe,reduceEqDiff,reduceCtorEq,reduceLeDiff,reduceAdd,reduceLT,VQ,hA,hB]));(try simp +contextual (disch:=omega) only [Z2,hA,hB]);(with_reducible repeat' (first|intro h|refine And.intro (by omega) ?_ | refine exP (by omega) ?_ | apply And.intro)))
 all_goals try exact oF
 exact gM _
end Go.Proofs.YtofcbmnplanmkaaGreat
namespace Go.Proofs.YtofcbmnplanmkaaGreat
open Go.Gh
open Nat (reduceEqDiff reduceLeDiff reduceAdd reduceLT)
open Int (reduceNe)
set_option maxRecDepth 20000
set_option linter.unusedSimpArgs false
set_option linter.unusedVariables false
theorem w191:Pu 191 [] (· = .sl 1 (kwS.map T)):=by
 have o:Gc 191 [] [] (fun g H'=>∃r,g = .own r 1 0 13∧H'=[(r,1,kwS.map T)]):=by
  refine ZW mxd i191 rfl (by simp) ?_;refine X0 ?_
  intro r hr
  exact ⟨r,rfl,rfl⟩
 refine o.fr ?_
 rintro g H' ⟨r,rfl,rfl⟩
 exact ⟨_,_,FR.freeze ZX (.all ZX (by simp [kwS]) (by simp [view,kwS])),rfl⟩
theorem w150 (l:List ByteArray) (s:ByteArray):Pu 150 [.sl 1 (l.map T),T s] (· = B (hasS l s)):=by
 refine GCalls.lenA fun hl=> ?_
 have hlen:=hl.1.1
 simp only [List.length_map,Zh] at hlen
 refine ZW mxd i150 rfl (by simp) ?_;refine X0 ?_
 refine Zz mxd (ι:={ i:Nat // i≤l.length∧∀y∈l.take i,decide (y=s)=false }) (fun i=>[(0,.sl 1 (l.map T)),(1,T s),(5,I i.1)]) (fun _ => []) (fun i=>l.length-i.1) ⟨0,by simp⟩ (by simp [E2]) rfl ?_
 rintro ⟨i,hi,hn⟩
 (refine R0 ?_;with_reducible repeat' first|exact trivial|intro h|refine aO ?_|refine eO ?_|apply jO)
 ·rw [hasS_hit (by assumption) h]
 ·exact nx ⟨i+1,by omega,Y5 (by assumption) (by simpa using h) hn⟩ (by simp;omega) (by simp [E2]) rfl
 ·have:i=l.length:=by omega
  subst this
  rw [tL (Nat.le_refl _)] at hn
  rw [hasS_none hn]
theorem w187 (s:ByteArray):Pu 187 [T s] (· = B (resV s)):=by
 refine ZW mxd i187 rfl (by simp) ?_;refine X0 ?_
 refine callS.eq w191 ?_
 (refine R0 ?_;with_reducible repeat' first|exact trivial|intro h|refine aO ?_|refine eO ?_|apply jO)
 refine callS.eq (w150 _ _) ?_
 (refine R0 ?_;with_reducible repeat' first|exact trivial|intro h|refine aO ?_|refine eO ?_|apply jO)
 rfl
theorem w186 (s : ByteArray) (hs : s.size ≤ maxLen) : Pu 186 [T s] (· = B (shp (ZP s))) := by
  simp only [maxLen, YB] at hs
  refine ZW mxd i186 rfl (by simp) ?_; refine X0 ?_
  refine Zz mxd (ι := { i : Nat // i ≤ (ZP s).length ∧ ∀ (j : Nat) (h : j < (ZP s).length), j < i → letV (ZP s)[j] = true ∨ (j ≠ 0 ∧ digV (ZP s)[j] = true) }) (fun i => [(0, T s), (3, I i.1)]) (fun _ => []) (fun i => (ZP s).length - i.1) ⟨0, by simp⟩ (by simp [E2]) rfl ?_
  rintro ⟨i, hi, hn⟩
  (refine R0 ?_; with_reducible repeat' first|exact trivial|intro h|refine aO ?_|refine eO ?_|apply jO)
  all_goals first
    | (rw [shp_bad (i := i) (by assumption) (by simp only [letV, digV, Bool.and_eq_true, decide_eq_true_eq]; omega)]; done)
    | (have hlt : i < (ZP s).length := by omega
       have hg : letV (ZP s)[i] = true ∨ (i ≠ 0 ∧ digV (ZP s)[i] = true) := by
         simp only [letV, digV, Bool.and_eq_true, decide_eq_true_eq]
         omega
       exact nx ⟨i + 1, by omega, shp_step hlt hn hg⟩ (by simp; omega) (by simp [E2]) rfl)
    | (have : i = (ZP s).length := by omega
       subst this
       rw [shp_end hn]
       simp; done)
    | skip
  all_goals have hlt : i < (ZP s).length := by omega
  all_goals have hg : letV (ZP s)[i] = true ∨ (i ≠ 0 ∧ digV (ZP s)[i] = true) := by (simp only [letV, digV, Bool.and_eq_true, decide_eq_true_eq]; omega)
  all_goals refine nx ⟨i + 1, by omega, shp_step hlt hn hg⟩ ?_ ?_ rfl
  all_goals first | (simp only; omega) | exact (by simp [E2]) | skip
theorem w176 (s:ByteArray) (hs:s.size≤maxLen):Pu 176 [T s] (· = B (Zg s)):=by
 have hs':=hs
 simp only [maxLen,YB] at hs'
 refine ZW mxd i176 rfl (by simp) ?_;refine X0 ?_
 refine callS.eq (w186 s hs) ?_
 (refine R0 ?_;with_reducible repeat' first|exact trivial|intro h|refine aO ?_|refine eO ?_|apply jO)
 all_goals try (refine callS.eq (w187 _) ?_;(refine R0 ?_;with_reducible repeat' first|exact trivial|intro h|refine aO ?_|refine eO ?_|apply jO))
 all_goals simp_all [Zg]
 all_goals try (intros;omega)
theorem w163:∀(e:Exp),wEx e≤1048576→Pu 163 [Ex e] (· = I (dpE e)):=by
 refine Exp.indA fun e ih hw=> ?_
 obtain ⟨hl,ha⟩:=YK hw
 have hc:=cntE_le e
 have he:=cntE_eq e
 have hd:=dpE_eq e
 have hq:=sumL_le (l:=e.args) fun a _ => dpE_le a
 rw [Y7]
 refine ZW mxd i163 rfl (by simp) ?_;refine X0 ?_
 refine Zz mxd (ι:={ i:Nat // i≤e.args.length }) (fun i=>[(1,.rop 7 (.agg [I e.kind,I e.n,I e.pos,I e.type,T e.sym,T e.name,ExS e.args])),(3,I (mxL ((e.args.take i.1).map dpE))),(4,I i.1)]) (fun i=>[]) (fun i=>e.args.length-i.1) ⟨0,by simp⟩ (by simp [E2,mxL]) (by simp) ?_
 rintro ⟨i,hi⟩
 have h1:=mxT_le dpE e.args i
 (refine R1 (jO @isAgg_Ex (jO @geR_Ex (jO @gsize_Ex @stor_Ex))) ?_;with_reducible repeat' first|exact trivial|intro h|refine aO ?_|refine eO ?_|apply jO)
 ·have h2:=mxT dpE e.args i (by omega)
  refine callS.eq (ih _ (gM _) (ha _ (gM _))) ?_
  (refine R0 ?_;with_reducible repeat' first|exact trivial|intro h|refine aO ?_|refine eO ?_|apply jO)
  refine callS.eq (w83 _ _) ?_
  (refine R0 ?_;with_reducible repeat' first|exact trivial|intro h|refine aO ?_|refine eO ?_|apply jO)
  refine nx ⟨i+1,by omega⟩ (by simp;omega) ?_ (by simp)
  simp [E2,h2, -List.map_take]
  try (first|omega|(split<;>omega))
 ·have:i=e.args.length:=by omega
  subst this
  simp [hd]
  try omega
theorem w162:∀(e:Exp),wEx e≤1048576→∀left:Int,0≤left→left≤1048576→Pu 162 [Ex e,I left] (· = I (max (left-cntE e) (-1))):=by
 refine Exp.indA fun e ih hw left l0 l1=> ?_
 obtain ⟨hl,ha⟩:=YK hw
 have hc:=cntE_le e
 have he:=cntE_eq e
 rw [Y7]
 refine ZW mxd i162 rfl (by simp) ?_;refine X0 ?_
 simp +contextual (disch:=omega) only [Z2]
 refine Zz mxd (ι:={ i:Nat // i≤e.args.length }) (fun i=>[(2,.rop 7 (.agg [I e.kind,I e.n,I e.pos,I e.type,T e.sym,T e.name,ExS e.args])),(1,I (max (left-1-((e.args.take i.1).map cntE).sum) (-1))),(5,I i.1)]) (fun i=>[]) (fun i=>e.args.length-i.1) ⟨0,by simp⟩ (by simp [E2];try omega) (by simp) ?_
 rintro ⟨i,hi⟩
 have h1:=sumT_le cntE e.args i
 generalize hs:((e.args.take i).map cntE).sum = s at *
 (refine R1 (jO @isAgg_Ex (jO @geR_Ex (jO @gsize_Ex @stor_Ex))) ?_;with_reducible repeat' first|exact trivial|intro h|refine aO ?_|refine eO ?_|apply jO)
 ·have h2:=sumT cntE e.args i (by omega)
  refine callS.eq (ih _ (gM _) (ha _ (gM _)) _ (by omega) (by omega)) ?_
  (refine R0 ?_;with_reducible repeat' first|exact trivial|intro h|refine aO ?_|refine eO ?_|apply jO)
  refine nx ⟨i+1,by omega⟩ (by simp;omega) ?_ (by simp)
  simp [E2,h2,hs, -List.map_take]
  try omega
 all_goals first|(congr 2;omega)|(rw [tL (by omega)] at hs;congr 2;omega)
end Go.Proofs.YtofcbmnplanmkaaGreat
