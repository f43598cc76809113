/- The law FnStaticTypes returns true whatever the input, and the input reads behind the call as before. No condition. -/
import Derived.Test.YtkmedfejmndmjaaGreatFst17
set_option maxHeartbeats 40000000
set_option maxRecDepth 20000
set_option linter.unusedSimpArgs false
set_option linter.unusedVariables false
namespace Go.Proofs.YtkmedfejmndmjaaGreat
open Go.Gh
open Nat (reduceEqDiff reduceLeDiff reduceAdd reduceLT)
open Int (reduceNe)
theorem o34 (bs:List UInt8) (hb:bs.length≤1048576) (H:GH):Gc 34 [Bs bs] H (fun g H'=>∃rc,g = .ptr rc 3 0 0∧H'=(rc,3,[.cur])::H):=by
 refine GCalls.fr (R:=fun g H'=>∃rc e,isC e∧g = .ptr rc 3 0 0∧H'=(rc,3,[e])::H) ?_ (fun g H' ⟨rc,e,h1,h2,h3⟩=>by subst h3;exact ⟨g,_,FR.uncur h1,rc,h2,rfl⟩)
 refine Z5 mxd i34 rfl (by simp) ?_;refine X0 ?_
 (refine V0 ?_)
 refine ZL mxd (ι:={ x:Nat×Int // x.1≤bs.length }) (fun x=>[(0,Bs bs),(3,I x.1.2),(4,I x.1.1)]) (fun _ => H) (fun x=>bs.length-x.1.1) ⟨(0,26583+bs.length),by simp⟩ (by simp[E2]) rfl ?_
 rintro ⟨⟨i,h⟩,hi⟩
 dsimp only at hi ⊢
 (refine V0 ?_;with_reducible repeat' first|intro h|apply jO)
 all_goals try exact oF
 ·exact nx ⟨(i+1,_),by dsimp only;omega⟩ (by simp<;>omega) (by simp[E2];rfl) rfl
 all_goals exact ⟨_,_,⟨bs,0,_,rfl,oT,oT,oT⟩,rfl,rfl⟩
theorem w124:Dv Tryz.prog 124 [] (fun g=>∃k:Nat,k<256∧g=I k):=by
 refine fun rc H=>GCalls.open fun e he=> ?_
 refine GCalls.fr (R:=fun g H'=>(∃k:Nat,k<256∧g=I k)∧∃e,isC e∧H'=(rc,3,[e])::H) ?_ (fun g H' ⟨h1,e',h2,h3⟩=>by subst h3;exact ⟨g,_,FR.uncur h2,[],⟨h1,rfl⟩,rfl⟩)
 obtain ⟨bs,i,h,rfl,h0,h1,h2⟩:=he
 obtain ⟨i,rfl⟩:=Int.eq_ofNat_of_zero_le h0
 refine Z5 mxd i124 rfl (by simp) ?_;refine X0 ?_
 (refine V0 ?_;with_reducible repeat' first|intro h|apply jO)
 all_goals first
  | exact ⟨_,⟨bs,_,_,rfl,oT,oT,h2⟩,rfl⟩
  | (obtain ⟨k,hk,hk2⟩:=andI_255 _;exact ⟨k,hk2,by rw[hk]⟩)
theorem w75 (n:Int):Dv Tryz.prog 75 [I n] (fun g=>∃k:Int,0≤k∧(0<n→k<n)∧(n≤0→k=0)∧g=I k):=by
 refine Dv.of0 fun rc H=> ?_
 refine Z5 mxd i75 rfl (by simp) ?_;refine X0 ?_
 (refine V0 ?_;with_reducible repeat' first|intro h|apply jO)
 ·exact ⟨0,oT,oT,oT,rfl⟩
 ·refine callS.dv w124 ZZ ?_
  rintro _ ⟨k,hk,rfl⟩
  (refine V0 ?_)
  exact ⟨_,Int.tmod_nonneg _ oT,fun _ => Int.tmod_lt_of_pos _ oT,rfl⟩
 ·refine callS.dv w124 ZZ ?_
  rintro _ ⟨k1,hk1,rfl⟩
  (refine V0 ?_)
  refine callS.dv w124 ZZ ?_
  rintro _ ⟨k2,hk2,rfl⟩
  (refine V0 ?_)
  refine callS.dv w124 ZZ ?_
  rintro _ ⟨k3,hk3,rfl⟩
  (refine V0 ?_)
  refine callS.dv w124 ZZ ?_
  rintro _ ⟨k4,hk4,rfl⟩
  (refine V0 ?_)
  exact ⟨_,Int.tmod_nonneg _ oT,fun _ => Int.tmod_lt_of_pos _ oT,rfl⟩
theorem wz75 (n:Int) (hn:0<n):Dv Tryz.prog 75 [I n] (fun g=>∃k:Nat,(k:Int)<n∧g=I k):=
 (w75 n).mono fun g H1 ⟨⟨k,h0,h1,_,h2⟩,h3⟩=>⟨⟨k.toNat,by have:=h1 hn;omega,by rw[h2,Int.toNat_of_nonneg h0]⟩,h3⟩
theorem w36 (n:Int):Dv Tryz.prog 36 [I n] (fun g=>∃b:Bool,g=B b):=by
 refine Dv.of0 fun rc H=> ?_
 refine Z5 mxd i36 rfl (by simp) ?_;refine X0 ?_
 refine callS.dv (w75 n) ZZ ?_
 rintro _ ⟨k,h0,h1,h2,rfl⟩
 (refine V0 ?_)
 exact ⟨_,rfl⟩
theorem w78 (es:List GV) (ha:noAg es=true) (hl:0<es.length):Dv Tryz.prog 78 [.sl 1 es] (fun g=>g∈es):=by
 refine Dv.of0 fun rc H=> ?_
 have hA:=notAgg ha
 have hB:=notRaw ha
 refine Z5 mxd i78 rfl (by simp) ?_;refine X0 ?_
 refine callS.dv (w75 es.length) ZZ ?_
 rintro _ ⟨k,h0,h1,h2,rfl⟩
 obtain ⟨k,rfl⟩:=Int.eq_ofNat_of_zero_le h0
 (refine V1 (jO hA hB) ?_)
 all_goals try exact oF
 exact gM _
theorem w163 (es:List GV) (ha:noAg es=true) (hl:0<es.length):Dv Tryz.prog 163 [.sl 1 es] (fun g=>g∈es):=by
 refine Dv.of0 fun rc H=> ?_
 have hA:=notAgg ha
 have hB:=notRaw ha
 refine Z5 mxd i163 rfl (by simp) ?_;refine X0 ?_
 refine callS.dv (w75 es.length) ZZ ?_
 rintro _ ⟨k,h0,h1,h2,rfl⟩
 obtain ⟨k,rfl⟩:=Int.eq_ofNat_of_zero_le h0
 (refine V1 (jO hA hB) ?_)
 all_goals try exact oF
 exact gM _
theorem w192 (n k:Int):Pu 192 [I n,I k] (· = ExN (.mk 1 n 0 k noS noS [])):=by
 refine Z5 mxd i192 rfl (by simp) ?_;refine X0 ?_
 (refine V0 ?_)
 rfl
theorem o193 (op:Int) (a b:Exp) (H:GH):Gc 193 [I op,Ex a,Ex b] H (fun g H'=>∃H1,(∃r,g=ExR (.mk 4 op 0 0 noS noS [a,b]) r∧H1=[(r,7,[Ex a,Ex b])])∧H'=H1++H):=by
 refine Z5 mxd i193 rfl (by simp) ?_;refine X0 ?_
 (refine V1 @XE ?_;with_reducible repeat' intro h)
 exact ⟨_,⟨_,rfl,rfl⟩,rfl⟩
theorem w188 (kind:Int) (l:List Oc) (hl:∀o∈l,shT o.2):Dv Tryz.prog 188 [I kind,OcS l] (fun g=>∃e,e.args=[]∧shD 0 e∧g=ExN e):=by
 refine Dv.of0 fun rc H=> ?_
 refine Z5 mxd i188 rfl (by simp) ?_;refine X0 ?_
 (refine V0 ?_;with_reducible repeat' first|intro h|apply jO)
 (repeat' ((first|(refine callS.dv (wz75 _ oT) (by first|exact ZZ|(simp only[Z9, *,if_true,if_false];done)) ?_;rintro _ ⟨_,_,rfl⟩)|(refine callS.dv (w75 _) (by first|exact ZZ|(simp only[Z9, *,if_true,if_false];done)) ?_;rintro _ ⟨_,_,_,_,rfl⟩)|(refine callS.dv (w36 _) (by first|exact ZZ|(simp only[Z9, *,if_true,if_false];done)) ?_;rintro _ ⟨_,rfl⟩)|(refine callS.dv (w191) (by first|exact ZZ|(simp only[Z9, *,if_true,if_false];done)) ?_;rintro _ ⟨_,_,rfl⟩)|(refine callS.dv (w78 _ rfl (by simp)) (by first|exact ZZ|(simp only[Z9, *,if_true,if_false];done)) ?_;intro _ hg;obtain ⟨_,_,rfl⟩:=ltT_mem rfl hg;clear hg)|(refine callS.dv (w163 _ rfl (by simp)) (by first|exact ZZ|(simp only[Z9, *,if_true,if_false];done)) ?_;intro _ hg;obtain ⟨_,_,rfl⟩:=X9 (lo:= -9223372036854775808) (hi:=9223372036854775807) rfl hg;clear hg)|(with_reducible refine callS.eq (w192 _ _) ?_)|(refine callA.dv (wz75 _ oT) (by first|exact ZZ|(simp only[Z9, *,if_true,if_false];done)) ?_;rintro _ ⟨_,_,rfl⟩)|(refine callA.dv (w75 _) (by first|exact ZZ|(simp only[Z9, *,if_true,if_false];done)) ?_;rintro _ ⟨_,_,_,_,rfl⟩)|(refine callA.dv (w36 _) (by first|exact ZZ|(simp only[Z9, *,if_true,if_false];done)) ?_;rintro _ ⟨_,rfl⟩)|(refine callA.dv (w191) (by first|exact ZZ|(simp only[Z9, *,if_true,if_false];done)) ?_;rintro _ ⟨_,_,rfl⟩)|(refine callA.dv (w78 _ rfl (by simp)) (by first|exact ZZ|(simp only[Z9, *,if_true,if_false];done)) ?_;intro _ hg;obtain ⟨_,_,rfl⟩:=ltT_mem rfl hg;clear hg)|(refine callA.dv (w163 _ rfl (by simp)) (by first|exact ZZ|(simp only[Z9, *,if_true,if_false];done)) ?_;intro _ hg;obtain ⟨_,_,rfl⟩:=X9 (lo:= -9223372036854775808) (hi:=9223372036854775807) rfl hg;clear hg)|(with_reducible refine callA.eq (w192 _ _) ?_));(refine V0 ?_;with_reducible repeat' first|intro h|apply jO)))
 all_goals first
  | exact ⟨.mk _ _ _ _ noS noS [],rfl,shD_leaf (by decide) (by decide),rfl⟩
  | exact ⟨.mk _ _ _ _ noS _ [],rfl,shD_leaf (by decide) (hl _ (gM _)),rfl⟩
  | exact u64_nn _
theorem w243 (g:Gram) (s:ByteArray) (hg:ZE g):Pu 243 [Gr g,T s] (· = TS (rulO g s)):=by
 refine Pure.bor ?_
 have hg2:=hg.2.1
 refine Z5 mxd i243 rfl (by simp) ?_;refine X0 ?_
 (refine V0 ?_;with_reducible repeat' intro h)
 rename_i r0
 refine Y1 mxd (ι:={ x:Nat×Nat // x.2≤g.rules.length }) (fun x=>[(1,T s),(2,.rop 2 (Gr g)),(5,.own x.1.1 1 0 (rulP g s x.1.2).length),(6,I x.1.2)]) (fun x=>[(x.1.1,1,(rulP g s x.1.2).map T)]) (fun x=>g.rules.length-x.1.2) ⟨(r0,0),by simp⟩ (by simp[E2,rulP]) (by simp[subH,ZV,names,rulP]) ?_
 rintro ⟨⟨q,k⟩,hk⟩ hn
 dsimp only at hk hn ⊢
 have hl:=rulP_len g s k
 rcases nL k g.rules.length with hlt|hge
 ·have e:=rulP_s (s:=s) hlt
  by_cases hs:g.rules[k].left = s
  ·have hs':=eq_true hs
   rw[if_pos hs] at e
   (refine V1 (jO hs' (jO @decide_true (jO @List.length_append.{0} (jO @List.length_singleton.{0} (jO @List.length_map.{0,0} (jO @List.length_take.{0} @ZM)))))) ?_;with_reducible repeat' first|intro h|refine aO ?_|apply jO)
   all_goals try exact oF
   rename_i q2 _ q3
   refine px ⟨(q3,k+1),oT⟩ (by simp<;>omega) (by simp[E2,e]) ?_
   show subH _ [(q3,1,(rulP g s (k+1)).map T)]
   rw[e,List.map_append,tL (by simp)]
   exact (by repeat' (first|exact trivial|(refine jO (by simp only[Z9, *,if_true,if_false];try rfl) (jO (by simp[ZW,ZU, *]) ?_))))
  ·have hs':=eq_false hs
   rw[if_neg hs,List.append_nil] at e
   (refine V1 (jO hs' @decide_false) ?_;with_reducible repeat' first|intro h|apply jO)
   all_goals try exact oF
   refine px ⟨(q,k+1),oT⟩ (by simp<;>omega) (by simp[E2,e]) ?_
   show subH _ [(q,1,(rulP g s (k+1)).map T)]
   rw[e]
   exact (by repeat' (first|exact trivial|(refine jO (by simp only[Z9, *,if_true,if_false];try rfl) (jO (by simp[ZW,ZU, *]) ?_))))
 ·obtain rfl:k=g.rules.length:=by omega
  rw[rulP_end]
  (refine V0 ?_;with_reducible repeat' intro h)
  all_goals try exact oF
  exact Bor.allM (fun _ => rfl) ZZ rfl
theorem w217 (g:Gram) (s:ByteArray) (room:Int) (hg:drG g):Dv Tryz.prog 217 [Gr g,T s,I room] (fun v=>∃r,okR g s room r∧v=Ru r):=by
 refine Dv.of fun rc H=> ?_
 have hsm:=drG_sm hg
 have hsl:=drG_len hg
 have hg8:=hg.2.2.1
 have hR:∀n∈rulO g s,Zx g.rules n∈g.rules:=fun n hn=>rulO_mem hn
 have hol:(rulO g s).length ≤ 8:=by
  have:=rulP_len g s g.rules.length
  rw[rulP_end] at this;omega
 have hro:=w243 g s hsm
 have hfr:=fun n=>w65 g n hsm
 generalize rulO g s=L at *
 have hat:∀c,Pu 154 [Gr g,T c] (· = I (Zt (fun y:Sym=>decide (y.name=c)) g.syms)):=fun c=>w154 g c hsm
 have hmx:∀c,Pu 115 [I 0,I (Zt (fun y:Sym=>decide (y.name=c)) g.syms)] (· = I (atS g c)):=fun c=>by
  have:=w115 0 (Zt (fun y:Sym=>decide (y.name=c)) g.syms)
  have e:((atS g c:Nat):Int)=max 0 (Zt (fun y:Sym=>decide (y.name=c)) g.syms):=by unfold atS;omega
  rw[e];exact this
 obtain ⟨hh,hht,hlt,hval⟩:∃hh:List Int,Pu 155 [Gr g] (· = IS hh)∧(∀c,atS g c<hh.length)∧∀c (h:atS g c<hh.length),hh[atS g c]=hAt g c:=⟨YA g,w155 g hsm oT,fun c=>atS_lt hsl.1 c,fun c _ => hAt_eq hsl.1 c⟩
 refine Z5 mxd i217 rfl (by simp) ?_;refine X0 ?_
 ((refine R1 (jO @Z9 (jO @Z8 @Z7)) ?_);(repeat' (have h:=Z4 h;simp only[Z0,ZX,Z1,ZY,and_true,true_and] at h;(refine R1 (jO @Z9 (jO @Z8 (jO @Z7 h))) ?_;with_reducible repeat' first|exact trivial|intro h|refine aO ?_|refine eO ?_|apply jO))))
 refine callS.eq hro ?_
 ((refine R1 (jO @Z9 (jO @Z8 @Z7)) ?_;with_reducible repeat' intro h);(repeat' (have h:=Z4 h;simp only[Z0,ZX,Z1,ZY,and_true,true_and] at h;(refine R1 (jO @Z9 (jO @Z8 (jO @Z7 h))) ?_))))
 rename_i rb _
 refine callS.eq hht ?_
 ((refine R1 (jO @Z9 (jO @Z8 (jO @Z7 h))) ?_);(repeat' (have h:=Z4 h;simp only[Z0,ZX,Z1,ZY,and_true,true_and] at h;(refine R1 (jO @Z9 (jO @Z8 (jO @Z7 (jO h h)))) ?_;with_reducible repeat' first|exact trivial|intro h|refine aO ?_|refine eO ?_|apply jO))))
 refine YD mxd (ι:={ x:Rul×Nat // x.2≤L.length∧(x.1=rulZ∨x.1∈g.rules∧lowR g s x.1) }) (fun x=>[(0,.ptr rc 3 0 0),(2,T s),(3,I room),(5,.rop 2 (Gr g)),(8,.raw 6),(9,TS L),(10,.ptr rb 6 0 0),(11,IS hh),(12,I x.1.2)]) (fun x=>(rb,6,[Ru x.1.1])::(rc,3,[.cur])::H) (fun x=>L.length-x.1.2) ⟨(rulZ,0),by simp⟩ FE.rulz (by simp[E2]) rfl ?_
 rintro ⟨⟨b,i⟩,hi,hb⟩ hn2
 dsimp only at hi hb hn2 ⊢
 have h4:=Z4 hn2
 (replace h4:=h4;simp only[VN] at h4)
 refine Zl mxd ?_
 rcases nL i L.length with hli|hge
 ·((refine R1 (jO @Z9 (jO @Z8 (jO @Z7 h4))) ?_;with_reducible repeat' first|intro h|refine aO ?_|apply jO);(repeat' (have h:=Z4 h;simp only[Z0,ZX,Z1,ZY,and_true,true_and] at h;(refine R1 (jO @Z9 (jO @Z8 (jO @Z7 (jO h4 h)))) ?_;with_reducible repeat' first|exact trivial|intro h|refine aO ?_|refine eO ?_|apply jO))))
  all_goals try exact oF
  refine callS.eq (hfr _) ?_
  have hrr:=hR _ (gM hli)
  generalize Zx g.rules L[i]=r at *
  have hr3:r.right.length≤3:=hg.2.2.2 r hrr
  ((refine R1 (jO @Z9 (jO @Z8 (jO @Z7 h4))) ?_);(repeat' (have h:=Z4 h;simp only[Z0,ZX,Z1,ZY,and_true,true_and] at h;(refine R1 (jO @Z9 (jO @Z8 (jO @Z7 (jO h4 h)))) ?_;with_reducible repeat' first|exact trivial|intro h|refine aO ?_|refine eO ?_|apply jO))))
  refine ZL mxd (ι:={ x:Bool×Nat // x.2≤r.right.length∧(x.1=true→∀c∈r.right.take x.2,hAt g c<hAt g s) }) (fun x=>[(0,.ptr rc 3 0 0),(2,T s),(3,I room),(5,.rop 2 (Gr g)),(8,.raw 6),(9,TS L),(10,.ptr rb 6 0 0),(11,IS hh),(12,I i),(13,.rop 6 (Ru r)),(15,B x.1.1),(16,I x.1.2)]) (fun _ => (rb,6,[Ru b])::(rc,3,[.cur])::H) (fun x=>r.right.length-x.1.2) ⟨(true,0),by simp⟩ (by simp[E2]) rfl ?_
  rintro ⟨⟨lo,k⟩,hk,hlo⟩
  dsimp only at hk hlo ⊢
  rcases nL k r.right.length with hlk|hgk
  ·have k1:=hlt r.right[k]
   have k2:=hlt s
   have hstep:hAt g r.right[k]<hAt g s→(∀c∈r.right.take k,hAt g c<hAt g s)→∀c∈r.right.take (k+1),hAt g c<hAt g s:=fun e1 e2 c hc=>by
    rw[List.take_add_one,List.getElem?_eq_getElem hlk] at hc
    rcases List.mem_append.1 hc with h|h
    ·exact e2 c h
    ·simp at h;rw[h];exact e1
   cases lo
   ·(((try refine qI ?_);(repeat ((first|with_reducible refine qU ?_ | simp only[ZQ]);try simp (maxSteps:=9^7) only[↓ S2,S2,ZF,↓reduceIte,reduceNe,reduceEqDiff,reduceCtorEq,reduceLeDiff,reduceAdd,reduceLT,Z9,Z8,Z7,h4,Bool.false_eq_true]));(try simp +contextual (disch:=omega) only[Z2,Z9,Z8,Z7,h4,Bool.false_eq_true]);(with_reducible repeat' (first|intro h|refine jO oT ?_ | refine exP oT ?_ | apply jO)));(repeat' (have h:=Z4 h;simp only[Z0,ZX,Z1,ZY,and_true,true_and] at h;((try refine qI ?_);(repeat ((first|with_reducible refine qU ?_ | simp only[ZQ]);try simp (maxSteps:=9^7) only[↓ S2,S2,ZF,↓reduceIte,reduceNe,reduceEqDiff,reduceCtorEq,reduceLeDiff,reduceAdd,reduceLT,Z9,Z8,Z7,h4,Bool.false_eq_true,h]));(try simp +contextual (disch:=omega) only[Z2,Z9,Z8,Z7,h4,Bool.false_eq_true,h]);(with_reducible repeat' (first|intro h|refine jO oT ?_ | refine exP oT ?_ | apply jO))))))
    all_goals try exact oF
    exact nx ⟨(false,k+1),by dsimp only;omega,by simp⟩ (by dsimp only;omega) (by simp[E2]) rfl
   ·((refine R1 (jO @Z9 (jO @Z8 (jO @Z7 h4))) ?_;with_reducible repeat' first|intro h|refine aO ?_|apply jO);(repeat' (have h:=Z4 h;simp only[Z0,ZX,Z1,ZY,and_true,true_and] at h;(refine R1 (jO @Z9 (jO @Z8 (jO @Z7 (jO h4 h)))) ?_;with_reducible repeat' first|exact trivial|intro h|refine aO ?_|refine eO ?_|apply jO))))
    all_goals try exact oF
    refine callS.eq (hat _) ?_
    ((refine R1 (jO @Z9 (jO @Z8 (jO @Z7 h4))) ?_);(repeat' (have h:=Z4 h;simp only[Z0,ZX,Z1,ZY,and_true,true_and] at h;(refine R1 (jO @Z9 (jO @Z8 (jO @Z7 (jO h4 h)))) ?_;with_reducible repeat' first|exact trivial|intro h|refine aO ?_|refine eO ?_|apply jO))))
    refine callS.eq (hmx _) ?_
    ((refine R1 (jO @Z9 (jO @Z8 (jO @Z7 (jO h4 hval)))) ?_);(repeat' (have h:=Z4 h;simp only[Z0,ZX,Z1,ZY,and_true,true_and] at h;(refine R1 (jO @Z9 (jO @Z8 (jO @Z7 (jO h4 (jO hval h))))) ?_;with_reducible repeat' first|exact trivial|intro h|refine aO ?_|refine eO ?_|apply jO))))
    all_goals try exact oF
    refine callS.eq (hat _) ?_
    ((refine R1 (jO @Z9 (jO @Z8 (jO @Z7 (jO h4 hval)))) ?_);(repeat' (have h:=Z4 h;simp only[Z0,ZX,Z1,ZY,and_true,true_and] at h;(refine R1 (jO @Z9 (jO @Z8 (jO @Z7 (jO h4 (jO hval h))))) ?_;with_reducible repeat' first|exact trivial|intro h|refine aO ?_|refine eO ?_|apply jO))))
    refine callS.eq (hmx _) ?_
    ((refine R1 (jO @Z9 (jO @Z8 (jO @Z7 (jO h4 hval)))) ?_);(repeat' (have h:=Z4 h;simp only[Z0,ZX,Z1,ZY,and_true,true_and] at h;(refine R1 (jO @Z9 (jO @Z8 (jO @Z7 (jO h4 (jO hval h))))) ?_;with_reducible repeat' first|exact trivial|intro h|refine aO ?_|refine eO ?_|apply jO))))
    all_goals try exact oF
    exact nx ⟨(decide (hAt g r.right[k]<hAt g s),k+1),by dsimp only;omega,fun e=>hstep (of_decide_eq_true e) (hlo rfl)⟩ (by dsimp only;omega) (by simp[E2]) rfl
  ·((refine R1 (jO @Z9 (jO @Z8 (jO @Z7 h4))) ?_;with_reducible repeat' first|intro h|apply jO);(repeat' (have h:=Z4 h;simp only[Z0,ZX,Z1,ZY,and_true,true_and] at h;(refine R1 (jO @Z9 (jO @Z8 (jO @Z7 (jO h4 h)))) ?_;with_reducible repeat' first|exact trivial|intro h|refine aO ?_|refine eO ?_|apply jO))))
   all_goals try exact oF
   all_goals first
    | exact nx ⟨(r,i+1),by dsimp only;omega,.inr ⟨hrr,fun c hc=>hlo (by first|rfl|assumption) c (by rw[tL oT];exact hc)⟩⟩ (by dsimp only;omega) (by simp[E2]) rfl
    | exact nx ⟨(b,i+1),by dsimp only;omega,hb⟩ (by dsimp only;omega) (by simp[E2]) rfl
 ·have hbo:okR g s room b:=⟨hb.imp id (·.1),fun _ => hb.imp id (·.2)⟩
  have finb:∃G T L,(∃r,okR g s room r∧G=Ru r)∧Bor L (.agg [Gh.T b.name,Gh.T b.left,TS b.right,B b.lit,QnS b.eqs,CoS b.cons]) G∧(rb,6,[Ru b])::(rc,3,[GV.cur])::H=T++H∧subH T (L++[(rc,3,[GV.cur])]):=
   ⟨_,[_,_],[],⟨b,hbo,rfl⟩,.refl,rfl,(by repeat' (first|exact trivial|(refine jO (by simp only[Z9, *,if_true,if_false];try rfl) (jO (by simp[ZW,ZU, *]) ?_))))⟩
  ((refine R1 (jO @Z9 (jO @Z8 (jO @Z7 h4))) ?_;with_reducible repeat' first|intro h|apply jO);(repeat' (have h:=Z4 h;simp only[Z0,ZX,Z1,ZY,and_true,true_and] at h;(refine R1 (jO @Z9 (jO @Z8 (jO @Z7 (jO h4 h)))) ?_;with_reducible repeat' first|exact trivial|intro h|refine aO ?_|refine eO ?_|apply jO))))
  all_goals try exact oF
  ·exact finb
  ·exact finb
  refine callS.dv (w36 4) (by simp only[Z9,h4,if_true,if_false]) ?_
  rintro _ ⟨b2,rfl⟩
  cases b2
  ·((refine R1 (jO @Z9 (jO @Z8 (jO @Z7 h4))) ?_);(repeat' (have h:=Z4 h;simp only[Z0,ZX,Z1,ZY,and_true,true_and] at h;(refine R1 (jO @Z9 (jO @Z8 (jO @Z7 (jO h4 h)))) ?_;with_reducible repeat' first|exact trivial|intro h|refine aO ?_|refine eO ?_|apply jO))))
   all_goals try exact oF
   refine callA.dv (wz75 L.length oT) (by simp only[Z9,h4,if_true,if_false]) ?_
   rintro _ ⟨z,hz,rfl⟩
   ((refine R1 (jO @Z9 (jO @Z8 (jO @Z7 h4))) ?_);(repeat' (have h:=Z4 h;simp only[Z0,ZX,Z1,ZY,and_true,true_and] at h;(refine R1 (jO @Z9 (jO @Z8 (jO @Z7 (jO h4 h)))) ?_;with_reducible repeat' first|exact trivial|intro h|refine aO ?_|refine eO ?_|apply jO))))
   all_goals try exact oF
   refine callS.eq (hfr _) ?_
   ((refine R1 (jO @Z9 (jO @Z8 (jO @Z7 h4))) ?_);(repeat' (have h:=Z4 h;simp only[Z0,ZX,Z1,ZY,and_true,true_and] at h;(refine R1 (jO @Z9 (jO @Z8 (jO @Z7 (jO h4 h)))) ?_;with_reducible repeat' first|exact trivial|intro h|refine aO ?_|refine eO ?_|apply jO))))
   all_goals try exact oF
   exact ⟨_,[_,_],[],⟨_,⟨.inr (hR _ (gM _)),fun _ => by omega⟩,rfl⟩,.refl,rfl,(by repeat' (first|exact trivial|(refine jO (by simp only[Z9, *,if_true,if_false];try rfl) (jO (by simp[ZW,ZU, *]) ?_))))⟩
  ·((refine R1 (jO @Z9 (jO @Z8 (jO @Z7 h4))) ?_);(repeat' (have h:=Z4 h;simp only[Z0,ZX,Z1,ZY,and_true,true_and] at h;(refine R1 (jO @Z9 (jO @Z8 (jO @Z7 (jO h4 h)))) ?_;with_reducible repeat' first|exact trivial|intro h|refine aO ?_|refine eO ?_|apply jO))))
   all_goals try exact oF
   exact finb
theorem o218 (root:Nod) (Y:GV) (ks:List (List Nod)) (hk3:ks.length≤3) (hkn:∀t∈ks,t.length≤100000∧∀x∈t,drN x) (hr:shT root.rule) (H:GH) :
 Gc 218 [.agg [I root.id,I root.parent,I root.place,I root.lit,T root.rule,Y],.sl 1 (ks.map Tr)] H (fun v H'=>∃H1,(∃(r:Nat) (t:List Nod),(∀x∈t,drN x)∧t.length=1+(ks.map (·.length)).sum ∧ v = .agg [.own r 6 0 t.length]∧H1=[(r,6,t.map NdO)])∧H'=H1++H):=by
 have h0:Gc 218 [.agg [I root.id,I root.parent,I root.place,I root.lit,T root.rule,Y],.sl 1 (ks.map Tr)] H (fun v H'=>∃(r rb ro:Nat) (t:List Nod) (u1 u2:List GV),(∀x∈t,drN x)∧t.length=1+(ks.map (·.length)).sum ∧ v = .agg [.own r 6 0 t.length]∧(¬r=rb∧¬r=ro)∧H'=(r,6,t.map NdO)::(ro,1,u2)::(rb,6,u1)::H):=by
  refine Z5 mxd i218 rfl (by simp) ?_;refine X0 ?_
  (refine V0 ?_;with_reducible repeat' intro h)
  rename_i rb _ rk _ rn _ ro
  refine YD mxd (ι:={ x:((Nat×Nod)×List Nod)×Nat // x.2≤ks.length∧x.1.1.2.kids.length≤x.2∧shT x.1.1.2.rule∧(∀y∈x.1.2,drN y)∧((ks.take x.2).map (·.length)).sum = x.1.2.length }) (fun x=>[(1,.sl 1 (ks.map Tr)),(4,.raw 1),(5,.ptr ro 1 0 0),(6,I x.1.2)]) (fun x=>(x.1.1.1.1,6,(x.1.1.1.2::x.1.1.2).map NdO)::(ro,1,[.own x.1.1.1.1 6 0 (x.1.1.2.length+1)])::(rb,6,[.agg [I root.id,I (-1),I 0,I root.lit,T root.rule,.own rk 1 0 0]])::H) (fun x=>ks.length-x.1.2) ⟨(((rn,{ root with parent:= -1,place:=0,kids:=[] }),[]),0),by simp[hr]⟩ (FE.trans (FE.perm (H:=[_,_,_,_]) (L:=[(rn,_),(rk,_),(ro,_),(rb,_)]) (by repeat' (first|exact trivial|(refine jO (by simp only[Z9, *,if_true,if_false];try rfl) (jO (by simp[ZW,ZU, *]) ?_))))) (FE.trans (FE.closeL2 (L:=[]) (j:=5) (by simp[*]) rfl rfl) (FE.unagg (r:=ro) (sz:=1) (g:= .own rn 6 0 1) (by simp[ZV, *])))) (by simp[E2]) ?_ ?_
  ·simp[ZC, *]
  rintro ⟨⟨⟨⟨q,rt⟩,rest⟩,k⟩,hk,hkl,hrt,hrest,hsum⟩ hn2
  dsimp only at hk hkl hrt hrest hsum hn2 ⊢
  have h4:=Z4 hn2
  (replace h4:=h4;simp only[VN] at h4)
  rcases nL k ks.length with hlt|hge
  ·refine GW.opn (r:=q) (es:=(rt::rest).map NdO) (sz:=6) (i:=0) (j:=5) (gs:=[I rt.id,I rt.parent,I rt.place,I rt.lit,T rt.rule,.osl 1 (rt.kids.map I)]) ZZ rfl rfl fun r1 hn1=> ?_
   simp only[XQ,List.map_cons,List.set_cons_zero] at hn1 ⊢
   have h5:=Z4 hn1
   (replace h5:=h5;simp only[VN] at h5)
   refine Zl mxd ?_
   (((try refine qI ?_);(repeat ((first|with_reducible refine qU ?_ | simp only[ZQ]);try simp (maxSteps:=9^7) only[↓ S2,S2,ZF,↓reduceIte,reduceNe,reduceEqDiff,reduceCtorEq,reduceLeDiff,reduceAdd,reduceLT,Z9,Z8,Z7,h4,h5,Int.toNat_zero,List.getElem_cons_zero,List.length_cons,List.length_map,List.set_cons_zero,List.length_append,List.length_singleton,not_false_eq_true,ZM]));(try simp +contextual (disch:=omega) only[Z2,Z9,Z8,Z7,h4,h5,Int.toNat_zero,List.getElem_cons_zero,List.length_cons,List.length_map,List.set_cons_zero,List.length_append,List.length_singleton,not_false_eq_true,ZM]);(with_reducible repeat' (first|intro h|refine jO oT ?_ | refine exP oT ?_ | apply jO)));(repeat' (have h:=Z4 h;simp only[Z0,ZX,Z1,ZY,and_true,true_and] at h;((try refine qI ?_);(repeat ((first|with_reducible refine qU ?_ | simp only[ZQ]);try simp (maxSteps:=9^7) only[↓ S2,S2,ZF,↓reduceIte,reduceNe,reduceEqDiff,reduceCtorEq,reduceLeDiff,reduceAdd,reduceLT,Z9,Z8,Z7,h4,h5,Int.toNat_zero,List.getElem_cons_zero,List.length_cons,List.length_map,List.set_cons_zero,List.length_append,List.length_singleton,not_false_eq_true,ZM,h]));(try simp +contextual (disch:=omega) only[Z2,Z9,Z8,Z7,h4,h5,Int.toNat_zero,List.getElem_cons_zero,List.length_cons,List.length_map,List.set_cons_zero,List.length_append,List.length_singleton,not_false_eq_true,ZM,h]);(with_reducible repeat' (first|intro h|refine jO oT ?_ | refine exP oT ?_ | apply jO))))))
   all_goals try exact oF
   rename_i rs _ h6 ra _
   have h7:=h
   have htk:=hkn _ (gM hlt)
   have hb:rest.length≤300000:=by
    have e1:=sum_bnd (c:=100000) (ks.take k) fun t ht=>(hkn t (List.mem_of_mem_take ht)).1
    have e2:(ks.take k).length ≤ 3:=by simp;omega
    have:=Nat.mul_le_mul_right 100000 e2
    omega
   refine YD mxd (ι:={ x:(Nat×List Nod)×Nat // x.2≤ks[k].length ∧ (∀y∈x.1.2,drN y)∧rest.length+x.2=x.1.2.length }) (fun x=>[(1,.sl 1 (ks.map Tr)),(4,.raw 1),(5,.ptr ro 1 0 0),(6,I k),(7,I ((rest.length+1:Nat):Int)),(8,I x.1.2)]) (fun x=>(x.1.1.1,6,({ rt with kids:=rt.kids++[((rest.length+1:Nat):Int)] }::x.1.1.2).map NdO)::(ro,1,[.own x.1.1.1 6 0 (x.1.1.2.length+1)])::(rb,6,[.agg [I root.id,I (-1),I 0,I root.lit,T root.rule,.own rk 1 0 0]])::H) (fun x=>ks[k].length - x.1.2) ⟨((q,rest),0),by simp;exact hrest⟩ (FE.trans (FE.perm (H:=[_,_,_,_,_]) (L:=[(ra,_),(q,_),(ro,_),(rb,_)]) (by repeat' (first|exact trivial|(refine jO (by simp only[Z9, *,if_true,if_false];try rfl) (jO (by simp[ZW,ZU, *]) ?_))))) (FE.close2 (L:=NdO rt::rest.map NdO) (i:=0) (j:=5) (by simp[*]) (by simp) rfl (by rw[List.length_append,List.length_take,List.length_map,List.length_singleton];omega))) (by simp[E2]) (by rw[tL (by simp)];simp) ?_
   rintro ⟨⟨⟨q2,rs2⟩,i⟩,hi,hrs2,hsum2⟩ hn3
   dsimp only at hi hrs2 hsum2 hn3 ⊢
   have h8:=Z4 hn3
   (replace h8:=h8;simp only[VN] at h8)
   refine Zl mxd ?_
   rcases nL i ks[k].length with hlt2|hge2
   ·have hxr:=htk.2 _ (gM hlt2)
    have hi0:((i:Int)=0)=(i=0):=by simp
    ((refine R1 (jO @Z9 (jO @Z8 (jO @Z7 (jO h8 hi0)))) ?_;with_reducible repeat' first|intro h|apply jO);(repeat' (have h:=Z4 h;simp only[Z0,ZX,Z1,ZY,and_true,true_and] at h;(refine R1 (jO @Z9 (jO @Z8 (jO @Z7 (jO h8 (jO hi0 h))))) ?_))))
    all_goals try exact oF
    ·rename_i r9 _ h9 rl _
     have h10:=h
     refine YD mxd (ι:={ x:(Nat×List Int)×Nat // x.2≤ks[k][0].kids.length ∧ x.1.2.length≤x.2 }) (fun x=>[(1,.sl 1 (ks.map Tr)),(4,.raw 1),(5,.ptr ro 1 0 0),(6,I k),(7,I ((rest.length+1:Nat):Int)),(8,I 0),(9,.ptr r9 6 0 0),(10,.own x.1.1.1 1 0 x.1.1.2.length),(11,I x.1.2)]) (fun x=>(x.1.1.1,1,x.1.1.2.map I)::(r9,6,[.agg [I ks[k][0].id,I 0,I ((k:Int)+1),I ks[k][0].lit,T ks[k][0].rule,IS ks[k][0].kids]])::(q2,6,({ rt with kids:=rt.kids++[((rest.length+1:Nat):Int)] }::rs2).map NdO)::(ro,1,[.own q2 6 0 (rs2.length+1)])::(rb,6,[.agg [I root.id,I (-1),I 0,I root.lit,T root.rule,.own rk 1 0 0]])::H) (fun x=>ks[k][0].kids.length - x.1.2) ⟨((rl,[]),0),by simp⟩ FE.refl (by simp[E2]) (by simp) ?_
     rintro ⟨⟨⟨q3,l⟩,j⟩,hj,hlj⟩ hn4
     dsimp only at hj hlj hn4 ⊢
     have h11:=Z4 hn4
     (replace h11:=h11;simp only[VN] at h11)
     have hx3:ks[k][0].kids.length ≤ 3:=(htk.2 _ (gM oT)).1
     have hxr3:shT ks[k][0].rule := (htk.2 _ (gM oT)).2
     refine Zl mxd ?_
     rcases nL j ks[k][0].kids.length with hlt3|hge3
     ·((refine R1 (jO @Z9 (jO @Z8 (jO @Z7 (jO h11 (jO @List.length_append.{0} (jO @List.length_singleton.{0} (jO @List.length_map.{0,0} (jO @List.length_take.{0} (jO @ZM @not_false_eq_true))))))))) ?_;with_reducible repeat' first|intro h|apply jO);(repeat' (have h:=Z4 h;simp only[Z0,ZX,Z1,ZY,and_true,true_and] at h;(refine R1 (jO @Z9 (jO @Z8 (jO @Z7 (jO h11 (jO @List.length_append.{0} (jO @List.length_singleton.{0} (jO @List.length_map.{0,0} (jO @List.length_take.{0} (jO @ZM (jO @not_false_eq_true h)))))))))) ?_;with_reducible repeat' intro h))))
      all_goals try exact oF
      rename_i ra3 _ h12 rl3 _
      generalize IntKind.i64.wrap (ks[k][0].kids[j]+((rest.length+1:Nat):Int))=w at *
      rw[tL (by simp)]
      exact nxF ⟨((rl3,l++[w]),j+1),by dsimp only;omega,by simp;omega⟩ (by dsimp only;omega) (FE.perm (H:=[_,_,_,_,_,_]) (L:=[(rl3,_),(r9,_),(q2,_),(ro,_),(rb,_)]) (by repeat' (first|exact trivial|(refine jO (by simp only[Z9, *,if_true,if_false];try rfl) (jO (by simp[ZW,ZU, *]) ?_))))) (by simp[E2]) (by simp)
     ·((refine R1 (jO @Z9 (jO @Z8 (jO @Z7 (jO h11 (jO @List.length_append.{0} (jO @List.length_singleton.{0} (jO @List.length_map.{0,0} (jO @List.length_take.{0} (jO @ZM @not_false_eq_true))))))))) ?_;with_reducible repeat' intro h);(repeat' (have h:=Z4 h;simp only[Z0,ZX,Z1,ZY,and_true,true_and] at h;(refine R1 (jO @Z9 (jO @Z8 (jO @Z7 (jO h11 (jO @List.length_append.{0} (jO @List.length_singleton.{0} (jO @List.length_map.{0,0} (jO @List.length_take.{0} (jO @ZM (jO @not_false_eq_true h)))))))))) ?_;with_reducible repeat' intro h))))
      all_goals try exact oF
      rename_i ra3 _ h12 rl3 _
      rw[tL (by simp)]
      exact nxF ⟨((rl3,rs2++[⟨ks[k][0].id,0,((k:Int)+1),ks[k][0].lit,ks[k][0].rule,l⟩]),0+1),by dsimp only;omega,fun y hy=>(List.mem_append.1 hy).elim (hrs2 y) fun h=>by
       rw[List.mem_singleton] at h;subst h;exact ⟨by show l.length≤3;omega,hxr3⟩,by simp;omega⟩ (by dsimp only;omega) (FE.trans (FE.perm (H:=[_,_,_,_,_,_]) (L:=[(rl3,_),(q3,_),(ro,_),(rb,_)]) (by repeat' (first|exact trivial|(refine jO (by simp only[Z9, *,if_true,if_false];try rfl) (jO (by simp[ZW,ZU, *]) ?_))))) (FE.closeL2 (L:=NdO { rt with kids:=rt.kids++[((rest.length+1:Nat):Int)] }::rs2.map NdO) (j:=5) (by simp[*]) rfl (by simp))) (by simp[E2]) (by simp)
    ·rename_i r9 _ h9 rl _
     have h10:=h
     refine YD mxd (ι:={ x:(Nat×List Int)×Nat // x.2≤ks[k][i].kids.length ∧ x.1.2.length≤x.2 }) (fun x=>[(1,.sl 1 (ks.map Tr)),(4,.raw 1),(5,.ptr ro 1 0 0),(6,I k),(7,I ((rest.length+1:Nat):Int)),(8,I i),(9,.ptr r9 6 0 0),(10,.own x.1.1.1 1 0 x.1.1.2.length),(11,I x.1.2)]) (fun x=>(x.1.1.1,1,x.1.1.2.map I)::(r9,6,[.agg [I ks[k][i].id,I (IntKind.i64.wrap (ks[k][i].parent + ((rest.length+1:Nat):Int))),I ks[k][i].place,I ks[k][i].lit,T ks[k][i].rule,IS ks[k][i].kids]])::(q2,6,({ rt with kids:=rt.kids++[((rest.length+1:Nat):Int)] }::rs2).map NdO)::(ro,1,[.own q2 6 0 (rs2.length+1)])::(rb,6,[.agg [I root.id,I (-1),I 0,I root.lit,T root.rule,.own rk 1 0 0]])::H) (fun x=>ks[k][i].kids.length - x.1.2) ⟨((rl,[]),0),by simp⟩ FE.refl (by simp[E2]) (by simp) ?_
     rintro ⟨⟨⟨q3,l⟩,j⟩,hj,hlj⟩ hn4
     dsimp only at hj hlj hn4 ⊢
     have h11:=Z4 hn4
     (replace h11:=h11;simp only[VN] at h11)
     have hx3:ks[k][i].kids.length ≤ 3:=(htk.2 _ (gM oT)).1
     have hxr3:shT ks[k][i].rule := (htk.2 _ (gM oT)).2
     refine Zl mxd ?_
     rcases nL j ks[k][i].kids.length with hlt3|hge3
     ·((refine R1 (jO @Z9 (jO @Z8 (jO @Z7 (jO h11 (jO @List.length_append.{0} (jO @List.length_singleton.{0} (jO @List.length_map.{0,0} (jO @List.length_take.{0} (jO @ZM @not_false_eq_true))))))))) ?_;with_reducible repeat' first|intro h|apply jO);(repeat' (have h:=Z4 h;simp only[Z0,ZX,Z1,ZY,and_true,true_and] at h;(refine R1 (jO @Z9 (jO @Z8 (jO @Z7 (jO h11 (jO @List.length_append.{0} (jO @List.length_singleton.{0} (jO @List.length_map.{0,0} (jO @List.length_take.{0} (jO @ZM (jO @not_false_eq_true h)))))))))) ?_;with_reducible repeat' intro h))))
      all_goals try exact oF
      rename_i ra3 _ h12 rl3 _
      generalize IntKind.i64.wrap (ks[k][i].kids[j]+((rest.length+1:Nat):Int))=w at *
      rw[tL (by simp)]
      exact nxF ⟨((rl3,l++[w]),j+1),by dsimp only;omega,by simp;omega⟩ (by dsimp only;omega) (FE.perm (H:=[_,_,_,_,_,_]) (L:=[(rl3,_),(r9,_),(q2,_),(ro,_),(rb,_)]) (by repeat' (first|exact trivial|(refine jO (by simp only[Z9, *,if_true,if_false];try rfl) (jO (by simp[ZW,ZU, *]) ?_))))) (by simp[E2]) (by simp)
     ·((refine R1 (jO @Z9 (jO @Z8 (jO @Z7 (jO h11 (jO @List.length_append.{0} (jO @List.length_singleton.{0} (jO @List.length_map.{0,0} (jO @List.length_take.{0} (jO @ZM @not_false_eq_true))))))))) ?_;with_reducible repeat' intro h);(repeat' (have h:=Z4 h;simp only[Z0,ZX,Z1,ZY,and_true,true_and] at h;(refine R1 (jO @Z9 (jO @Z8 (jO @Z7 (jO h11 (jO @List.length_append.{0} (jO @List.length_singleton.{0} (jO @List.length_map.{0,0} (jO @List.length_take.{0} (jO @ZM (jO @not_false_eq_true h)))))))))) ?_;with_reducible repeat' intro h))))
      all_goals try exact oF
      rename_i ra3 _ h12 rl3 _
      rw[tL (by simp)]
      exact nxF ⟨((rl3,rs2++[⟨ks[k][i].id,(IntKind.i64.wrap (ks[k][i].parent + ((rest.length+1:Nat):Int))),ks[k][i].place,ks[k][i].lit,ks[k][i].rule,l⟩]),i+1),by dsimp only;omega,fun y hy=>(List.mem_append.1 hy).elim (hrs2 y) fun h=>by
       rw[List.mem_singleton] at h;subst h;exact ⟨by show l.length≤3;omega,hxr3⟩,by simp;omega⟩ (by dsimp only;omega) (FE.trans (FE.perm (H:=[_,_,_,_,_,_]) (L:=[(rl3,_),(q3,_),(ro,_),(rb,_)]) (by repeat' (first|exact trivial|(refine jO (by simp only[Z9, *,if_true,if_false];try rfl) (jO (by simp[ZW,ZU, *]) ?_))))) (FE.closeL2 (L:=NdO { rt with kids:=rt.kids++[((rest.length+1:Nat):Int)] }::rs2.map NdO) (j:=5) (by simp[*]) rfl (by simp))) (by simp[E2]) (by simp)
   ·obtain rfl:i=ks[k].length := by omega
    ((refine R1 (jO @Z9 (jO @Z8 (jO @Z7 h8))) ?_;with_reducible repeat' intro h);(repeat' (have h:=Z4 h;simp only[Z0,ZX,Z1,ZY,and_true,true_and] at h;(refine R1 (jO @Z9 (jO @Z8 (jO @Z7 (jO h8 h)))) ?_;with_reducible repeat' first|exact trivial|intro h|refine aO ?_|refine eO ?_|apply jO))))
    all_goals try exact oF
    exact nx ⟨(((q2,{ rt with kids:=rt.kids++[((rest.length+1:Nat):Int)] }),rs2),k+1),by dsimp only;omega,by simp;omega,hrt,hrs2,by dsimp only;rw[sum_take hlt];omega⟩ (by dsimp only;omega) (by simp[E2]) rfl
  ·obtain rfl:k=ks.length:=by omega
   refine Zl mxd ?_
   ((refine R1 (jO @Z9 (jO @Z8 (jO @Z7 h4))) ?_;with_reducible repeat' intro h);(repeat' (have h:=Z4 h;simp only[Z0,ZX,Z1,ZY,and_true,true_and] at h;(refine R1 (jO @Z9 (jO @Z8 (jO @Z7 (jO h4 h)))) ?_;with_reducible repeat' first|exact trivial|intro h|refine aO ?_|refine eO ?_|apply jO))))
   refine ⟨q,rb,ro,rt::rest,_,_,fun x hx=> ?_,?_,rfl,by simp[*],rfl⟩
   ·rcases List.mem_cons.1 hx with rfl|hx
    ·exact ⟨oT,hrt⟩
    ·exact hrest x hx
   ·rw[List.length_cons,←hsum,List.take_length];omega
 refine h0.fr ?_
 rintro v H' ⟨r,rb,ro,t,u1,u2,h1,h2,rfl,h3,rfl⟩
 exact ⟨_,_,FR.perm (H:=[_,_,_]) (L:=[(r,6,t.map NdO)]) (by simp[subH,ZV,names]),[(r,6,t.map NdO)],⟨r,t,h1,h2,rfl,rfl⟩,rfl⟩
theorem s161 (g:Gram) (s:ByteArray) (room:Int) (id:Int) (hg:drG g) (hroom : -100000≤room∧room≤100000) (bnd:Rul→Nat) (B:Nat) (hB:∀r,okR g s room r→1+r.right.length * bnd r≤B) (hb1:∀r,bnd r≤100000)
 (ih:∀r,okR g s room r→∀c∈r.right,∀id,Dv Tryz.prog 161 [Gr g,T c,I (room.tdiv (max 1 (r.right.length:Int))-1),I id] (fun v=>∃t,goodT (bnd r) t∧v=Tr t)) :
 Dc Tryz.prog 161 [Gr g,T s,I room,I id] (fun v H1=>∃(q:Nat) (t:List Nod),goodT B t∧v = .agg [.own q 6 0 t.length]∧H1=[(q,6,t.map NdO)]):=by
 refine Dc.of fun rc H=> ?_
 refine Z5 mxd i161 rfl (by simp) ?_;refine X0 ?_
 ((refine R1 (jO @Z9 (jO @Z8 @Z7)) ?_);(repeat' (have h:=Z4 h;simp only[Z0,ZX,Z1,ZY,and_true,true_and] at h;(refine R1 (jO @Z9 (jO @Z8 (jO @Z7 h))) ?_;with_reducible repeat' first|exact trivial|intro h|refine aO ?_|refine eO ?_|apply jO))))
 refine callS.dv (w217 g s room hg) (by simp only[Z9, *,if_true,if_false]) ?_
 rintro _ ⟨r,hr,rfl⟩
 have ih:=ih r hr
 have hB:=hB r hr
 have hb1:=hb1 r
 have hr3:r.right.length≤3∧shT r.name:=by
  rcases hr.1 with rfl|h
  ·exact ⟨by simp[rulZ],by decide⟩
  ·exact ⟨hg.2.2.2 r h,(hg.1.2.2.2 r h).1⟩
 generalize bnd r=b0 at *
 ((refine R1 (jO @Z9 (jO @Z8 @Z7)) ?_;with_reducible repeat' first|intro h|apply jO);(repeat' (have h:=Z4 h;simp only[Z0,ZX,Z1,ZY,and_true,true_and] at h;(refine R1 (jO @Z9 (jO @Z8 (jO @Z7 h))) ?_))))
 all_goals try exact oF
 ·rename_i rx hnx
  have h3:=Z4 hnx
  (replace h3:=h3;simp only[VN] at h3)
  refine callS.dv (wz75 9 oT) (by simp only[Z9,h3,if_true,if_false]) ?_
  rintro _ ⟨lt,hlt,rfl⟩
  ((refine R1 (jO @Z9 (jO @Z8 (jO @Z7 h3))) ?_;with_reducible repeat' intro h);(repeat' (have h:=Z4 h;simp only[Z0,ZX,Z1,ZY,and_true,true_and] at h;(refine R1 (jO @Z9 (jO @Z8 (jO @Z7 (jO h3 h)))) ?_))))
  rename_i rk _
  refine YD mxd (ι:={ x:((Nat×List (List Nod))×Int)×Nat // x.2≤r.right.length∧x.1.1.2.length≤x.2∧∀t∈x.1.1.2,goodT b0 t }) (fun x=>[(0,.ptr rc 3 0 0),(3,I room),(6,.rop 2 (Gr g)),(10,.raw 1),(11,.rop 6 (RuB r true (QnS r.eqs) (CoS r.cons))),(12,.ptr rx 6 0 0),(13,I x.1.1.2),(14,.own x.1.1.1.1 1 0 x.1.1.1.2.length),(15,I x.1.2)]) (fun x=>(x.1.1.1.1,1,x.1.1.1.2.map Tr)::(rx,6,[.agg [I id,I 0,I 0,I ((lt:Int)-2),T r.name,Zp]])::(rc,3,[.cur])::H) (fun x=>r.right.length-x.1.2) ⟨(((rk,[]),IntKind.i64.wrap (id+1)),0),by simp⟩ FE.refl (by simp[E2]) rfl ?_
  rintro ⟨⟨⟨⟨q,ks⟩,nx1⟩,k⟩,hk,hkl,hks⟩ hn2
  dsimp only at hk hkl hks hn2 ⊢
  have h4:=Z4 hn2
  (replace h4:=h4;simp only[VN] at h4)
  refine Zl mxd ?_
  rcases nL k r.right.length with hlk|hgk
  ·have hq:=tdiv_rng hroom (b:=max 1 (r.right.length:Int)) oT
   have hq1:¬max 1 (r.right.length:Int)=0:=by omega
   have ih1:=ih _ (gM hlk) nx1
   ((refine R1 (jO @Z9 (jO @Z8 (jO @Z7 h4))) ?_;with_reducible repeat' first|intro h|apply jO);(repeat' (have h:=Z4 h;simp only[Z0,ZX,Z1,ZY,and_true,true_and] at h;(refine R1 (jO @Z9 (jO @Z8 (jO @Z7 (jO h4 h)))) ?_;with_reducible repeat' first|exact trivial|intro h|refine aO ?_|refine eO ?_|apply jO))))
   all_goals try exact oF
   refine callS.eq (w115 1 _) ?_
   generalize max 1 (r.right.length:Int)=mx at *
   have e1:=wrS (a:=room.tdiv mx) oT
   have e2:=wrS (a:=room.tdiv mx-1) oT
   ((refine R1 (jO @Z9 (jO @Z8 (jO @Z7 (jO h4 (jO e1 e2))))) ?_);(repeat' (have h:=Z4 h;simp only[Z0,ZX,Z1,ZY,and_true,true_and] at h;(refine R1 (jO @Z9 (jO @Z8 (jO @Z7 (jO h4 (jO e1 (jO e2 h)))))) ?_;with_reducible repeat' first|exact trivial|intro h|refine aO ?_|refine eO ?_|apply jO))))
   all_goals try exact oF
   refine callA.dv ih1 (by simp only[Z9,h4,if_true,if_false]) ?_
   rintro _ ⟨t,ht,rfl⟩
   ((refine R1 (jO @Z9 (jO @Z8 (jO @Z7 (jO h4 (jO @List.length_append.{0} (jO @List.length_singleton.{0} (jO @List.length_map.{0,0} (jO @List.length_take.{0} @ZM)))))))) ?_;with_reducible repeat' intro h);(repeat' (have h:=Z4 h;simp only[Z0,ZX,Z1,ZY,and_true,true_and] at h;(refine R1 (jO @Z9 (jO @Z8 (jO @Z7 (jO h4 (jO @List.length_append.{0} (jO @List.length_singleton.{0} (jO @List.length_map.{0,0} (jO @List.length_take.{0} (jO @ZM h))))))))) ?_;with_reducible repeat' intro h))))
   all_goals try exact oF
   rename_i r3 _ _ r4 _
   rw[tL (by simp)]
   exact nxF ⟨(((r4,ks++[t]),IntKind.i64.wrap (nx1+(t.length:Int))),k+1),by dsimp only;omega,by simp;omega,fun y hy=>(List.mem_append.1 hy).elim (hks y) fun h=>by
    rw[List.mem_singleton] at h;subst h;exact ht⟩ (by dsimp only;omega) (FE.perm (H:=[_,_,_,_]) (L:=[(r4,_),(rx,_),(rc,_)]) (by repeat' (first|exact trivial|(refine jO (by simp only[Z9, *,if_true,if_false];try rfl) (jO (by simp[ZW,ZU, *]) ?_))))) (by simp[E2]) (by simp)
  ·((refine R1 (jO @Z9 (jO @Z8 (jO @Z7 h4))) ?_;with_reducible repeat' intro h);(repeat' (have h:=Z4 h;simp only[Z0,ZX,Z1,ZY,and_true,true_and] at h;(refine R1 (jO @Z9 (jO @Z8 (jO @Z7 (jO h4 h)))) ?_;with_reducible repeat' first|exact trivial|intro h|refine aO ?_|refine eO ?_|apply jO))))
   all_goals try exact oF
   refine callS.lend (fun H0=>o218 ⟨id,0,0,((lt:Int)-2),r.name,[]⟩ Zp ks oT (fun t ht=>⟨by have:=(hks t ht).2.2;omega,(hks t ht).1⟩) hr3.2 H0) (.cons .refl (.cons (Bor.allM view_Tr (by simp only[Z9,h4,if_true,if_false]) rfl) .nil)) (by rintro v H1 ⟨q,t,_,_,rfl,rfl⟩;simp[noD,noDH,noDL_eq]) ?_
   rintro _ _ ⟨q9,t,ht1,ht2,rfl,rfl⟩ hn9
   have h9:=Z4 hn9
   simp only[List.cons_append,List.nil_append] at h9
   (replace h9:=h9;simp only[VN] at h9)
   ((refine R1 (jO @Z9 (jO @Z8 (jO @Z7 h9))) ?_);(repeat' (have h:=Z4 h;simp only[Z0,ZX,Z1,ZY,and_true,true_and] at h;(refine R1 (jO @Z9 (jO @Z8 (jO @Z7 (jO h9 h)))) ?_;with_reducible repeat' first|exact trivial|intro h|refine aO ?_|refine eO ?_|apply jO))))
   have hsum:=sum_bnd (c:=b0) ks fun t ht=>(hks t ht).2.2
   have hmul:=Nat.mul_le_mul_right b0 (show ks.length≤r.right.length by omega)
   exact ⟨_,[(q9,6,t.map NdO)],[_,_,_,_],[],⟨q9,t,⟨ht1,oT,oT⟩,rfl,rfl⟩,.refl,rfl,(by repeat' (first|exact trivial|(refine jO (by simp only[Z9, *,if_true,if_false];try rfl) (jO (by simp[ZW,ZU, *]) ?_))))⟩
 ·rename_i rx _ _ rk _
  refine YD mxd (ι:={ x:((Nat×List (List Nod))×Int)×Nat // x.2≤r.right.length∧x.1.1.2.length≤x.2∧∀t∈x.1.1.2,goodT b0 t }) (fun x=>[(0,.ptr rc 3 0 0),(3,I room),(6,.rop 2 (Gr g)),(10,.raw 1),(11,.rop 6 (RuB r false (QnS r.eqs) (CoS r.cons))),(12,.ptr rx 6 0 0),(13,I x.1.1.2),(14,.own x.1.1.1.1 1 0 x.1.1.1.2.length),(15,I x.1.2)]) (fun x=>(x.1.1.1.1,1,x.1.1.1.2.map Tr)::(rx,6,[.agg [I id,I 0,I 0,I 0,T r.name,Zp]])::(rc,3,[.cur])::H) (fun x=>r.right.length-x.1.2) ⟨(((rk,[]),IntKind.i64.wrap (id+1)),0),by simp⟩ FE.refl (by simp[E2]) rfl ?_
  rintro ⟨⟨⟨⟨q,ks⟩,nx1⟩,k⟩,hk,hkl,hks⟩ hn2
  dsimp only at hk hkl hks hn2 ⊢
  have h4:=Z4 hn2
  (replace h4:=h4;simp only[VN] at h4)
  refine Zl mxd ?_
  rcases nL k r.right.length with hlk|hgk
  ·have hq:=tdiv_rng hroom (b:=max 1 (r.right.length:Int)) oT
   have hq1:¬max 1 (r.right.length:Int)=0:=by omega
   have ih1:=ih _ (gM hlk) nx1
   ((refine R1 (jO @Z9 (jO @Z8 (jO @Z7 h4))) ?_;with_reducible repeat' first|intro h|apply jO);(repeat' (have h:=Z4 h;simp only[Z0,ZX,Z1,ZY,and_true,true_and] at h;(refine R1 (jO @Z9 (jO @Z8 (jO @Z7 (jO h4 h)))) ?_;with_reducible repeat' first|exact trivial|intro h|refine aO ?_|refine eO ?_|apply jO))))
   all_goals try exact oF
   refine callS.eq (w115 1 _) ?_
   generalize max 1 (r.right.length:Int)=mx at *
   have e1:=wrS (a:=room.tdiv mx) oT
   have e2:=wrS (a:=room.tdiv mx-1) oT
   ((refine R1 (jO @Z9 (jO @Z8 (jO @Z7 (jO h4 (jO e1 e2))))) ?_);(repeat' (have h:=Z4 h;simp only[Z0,ZX,Z1,ZY,and_true,true_and] at h;(refine R1 (jO @Z9 (jO @Z8 (jO @Z7 (jO h4 (jO e1 (jO e2 h)))))) ?_;with_reducible repeat' first|exact trivial|intro h|refine aO ?_|refine eO ?_|apply jO))))
   all_goals try exact oF
   refine callA.dv ih1 (by simp only[Z9,h4,if_true,if_false]) ?_
   rintro _ ⟨t,ht,rfl⟩
   ((refine R1 (jO @Z9 (jO @Z8 (jO @Z7 (jO h4 (jO @List.length_append.{0} (jO @List.length_singleton.{0} (jO @List.length_map.{0,0} (jO @List.length_take.{0} @ZM)))))))) ?_;with_reducible repeat' intro h);(repeat' (have h:=Z4 h;simp only[Z0,ZX,Z1,ZY,and_true,true_and] at h;(refine R1 (jO @Z9 (jO @Z8 (jO @Z7 (jO h4 (jO @List.length_append.{0} (jO @List.length_singleton.{0} (jO @List.length_map.{0,0} (jO @List.length_take.{0} (jO @ZM h))))))))) ?_;with_reducible repeat' intro h))))
   all_goals try exact oF
   rename_i r3 _ _ r4 _
   rw[tL (by simp)]
   exact nxF ⟨(((r4,ks++[t]),IntKind.i64.wrap (nx1+(t.length:Int))),k+1),by dsimp only;omega,by simp;omega,fun y hy=>(List.mem_append.1 hy).elim (hks y) fun h=>by
    rw[List.mem_singleton] at h;subst h;exact ht⟩ (by dsimp only;omega) (FE.perm (H:=[_,_,_,_]) (L:=[(r4,_),(rx,_),(rc,_)]) (by repeat' (first|exact trivial|(refine jO (by simp only[Z9, *,if_true,if_false];try rfl) (jO (by simp[ZW,ZU, *]) ?_))))) (by simp[E2]) (by simp)
  ·((refine R1 (jO @Z9 (jO @Z8 (jO @Z7 h4))) ?_;with_reducible repeat' intro h);(repeat' (have h:=Z4 h;simp only[Z0,ZX,Z1,ZY,and_true,true_and] at h;(refine R1 (jO @Z9 (jO @Z8 (jO @Z7 (jO h4 h)))) ?_;with_reducible repeat' first|exact trivial|intro h|refine aO ?_|refine eO ?_|apply jO))))
   all_goals try exact oF
   refine callS.lend (fun H0=>o218 ⟨id,0,0,0,r.name,[]⟩ Zp ks oT (fun t ht=>⟨by have:=(hks t ht).2.2;omega,(hks t ht).1⟩) hr3.2 H0) (.cons .refl (.cons (Bor.allM view_Tr (by simp only[Z9,h4,if_true,if_false]) rfl) .nil)) (by rintro v H1 ⟨q,t,_,_,rfl,rfl⟩;simp[noD,noDH,noDL_eq]) ?_
   rintro _ _ ⟨q9,t,ht1,ht2,rfl,rfl⟩ hn9
   have h9:=Z4 hn9
   simp only[List.cons_append,List.nil_append] at h9
   (replace h9:=h9;simp only[VN] at h9)
   ((refine R1 (jO @Z9 (jO @Z8 (jO @Z7 h9))) ?_);(repeat' (have h:=Z4 h;simp only[Z0,ZX,Z1,ZY,and_true,true_and] at h;(refine R1 (jO @Z9 (jO @Z8 (jO @Z7 (jO h9 h)))) ?_;with_reducible repeat' first|exact trivial|intro h|refine aO ?_|refine eO ?_|apply jO))))
   have hsum:=sum_bnd (c:=b0) ks fun t ht=>(hks t ht).2.2
   have hmul:=Nat.mul_le_mul_right b0 (show ks.length≤r.right.length by omega)
   exact ⟨_,[(q9,6,t.map NdO)],[_,_,_,_],[],⟨q9,t,⟨ht1,oT,oT⟩,rfl,rfl⟩,.refl,rfl,(by repeat' (first|exact trivial|(refine jO (by simp only[Z9, *,if_true,if_false];try rfl) (jO (by simp[ZW,ZU, *]) ?_))))⟩
theorem z161 {g:Gram} {s:ByteArray} {room id:Int} {B:Nat} (h:Dc Tryz.prog 161 [Gr g,T s,I room,I id] (fun v H1=>∃(q:Nat) (t:List Nod),goodT B t∧v = .agg [.own q 6 0 t.length]∧H1=[(q,6,t.map NdO)])) :
 Dv Tryz.prog 161 [Gr g,T s,I room,I id] (fun v=>∃t,goodT B t∧v=Tr t):=
 h.frz fun g H1 ⟨q,t,h1,h2,h3⟩=>by
  subst h2 h3
  exact ⟨_,⟨t,h1,rfl⟩,bor_TrO⟩
theorem t161 (g:Gram) (hg:drG g):∀(h:Nat),h≤3→∀(s:ByteArray) (room id:Int),hAt g s≤h→(h:Int)-2000≤room→room<5 →
 Dc Tryz.prog 161 [Gr g,T s,I room,I id] (fun v H1=>∃(q:Nat) (t:List Nod),goodT (lowB h) t∧v = .agg [.own q 6 0 t.length]∧H1=[(q,6,t.map NdO)])
 | 0,_,s,room,id,hs,h1,h2=>by
  have hz:∀r,okR g s room r→r.right=[]:=fun r hr=>by
   rcases hr.2 h2 with rfl|h
   ·rfl
   ·cases e:r.right with
    | nil=>rfl
    | cons c l=>have:=h c (by rw[e];simp);have:=(hAt_rng g c).1;omega
  exact s161 g s room id hg oT (fun _ => 0) 1 (fun r hr=>by rw[hz r hr];simp) (fun _ => by omega) fun r hr c hc=>by rw[hz r hr] at hc;cases hc
 | h+1,hh,s,room,id,hs,h1,h2=>by
  have hl:=lowB_le (h:=h) oT
  refine s161 g s room id hg oT (fun _ => lowB h) _ (fun r hr=> ?_) (fun _ => by omega) fun r hr c hc id=> ?_
  ·have:r.right.length≤3:=by
    rcases hr.1 with rfl|h
    ·simp[rulZ]
    ·exact hg.2.2.2 r h
   have:=Nat.mul_le_mul_right (lowB h) this
   show _ ≤ 1+3 * lowB h
   omega
  ·have hc':hAt g c<hAt g s:=by
    rcases hr.2 h2 with rfl|h
    ·cases hc
    ·exact h c hc
   have hq:=tdiv_lo (a:=room) (m:=max 1 (r.right.length:Int)) oT
   refine z161 (t161 g hg h oT c _ id oT ?_ ?_)
   ·rcases Int.le_total 0 room with h3|h3
    ·have:=hq.1 h3;omega
    ·have:=hq.2 h3;omega
   ·rcases Int.le_total 0 room with h3|h3
    ·have:=hq.1 h3;omega
    ·have:=hq.2 h3;omega
theorem o161 (g:Gram) (hg:drG g):∀(m:Nat) (s:ByteArray) (room id:Int),room.toNat≤m → -1000≤room→room≤1000 →
 Dc Tryz.prog 161 [Gr g,T s,I room,I id] (fun v H1=>∃(q:Nat) (t:List Nod),goodT (grB room) t∧v = .agg [.own q 6 0 t.length]∧H1=[(q,6,t.map NdO)]):=by
 have low:∀(s:ByteArray) (room id:Int), -1500≤room→room<5→Dc Tryz.prog 161 [Gr g,T s,I room,I id] (fun v H1=>∃(q:Nat) (t:List Nod),goodT (grB room) t∧v = .agg [.own q 6 0 t.length]∧H1=[(q,6,t.map NdO)]):=fun s room id h1 h2=>by
  have h3:=(hAt_rng g s).2
  have h4:=(drG_len hg).2
  refine (t161 g hg 3 (Nat.le_refl _) s room id oT oT h2).mono fun v H1 ⟨q,t,k1,k2⟩=>⟨q,t,k1.mono ?_,k2⟩
  unfold grB
  rw[if_pos h2]
  exact lowB_le (Nat.le_refl _)
 intro m
 induction m with
 | zero=>exact fun s room id h1 h2 h3=>low s room id oT oT
 | succ m ih=>
  intro s room id h1 h2 h3
  rcases Int.lt_or_le room 5 with h5|h5
  ·exact low s room id oT h5
  ·refine s161 g s room id hg oT (fun r=>grB (room.tdiv (max 1 (r.right.length:Int))-1)) _ (fun r hr=> ?_) (fun r=> ?_) fun r hr c hc id=> ?_
   ·have:r.right.length≤3:=by
     rcases hr.1 with rfl|h
     ·simp[rulZ]
     ·exact hg.2.2.2 r h
    exact grB_step h5 this
   ·have hq:=(tdiv_lo (a:=room) (m:=max 1 (r.right.length:Int)) oT).1 oT
    have:=grB_le (room:=room.tdiv (max 1 (r.right.length:Int))-1) oT
    omega
   ·have hq:=(tdiv_lo (a:=room) (m:=max 1 (r.right.length:Int)) oT).1 oT
    exact z161 (ih c _ id oT oT oT)
theorem o101 (g:Gram) (hg:drG g):Dc Tryz.prog 101 [Gr g] (fun v H1=>∃(q:Nat) (t:List Nod),goodT 40 t∧v = .agg [.own q 6 0 t.length]∧H1=[(q,6,t.map NdO)]):=by
 refine Dc.of fun rc H=> ?_
 have hsm:=drG_sm hg
 have hgr:∀room id, -1000≤room→room≤17→Dc Tryz.prog 161 [Gr g,T (startS g),I room,I id] (fun v H1=>∃(q:Nat) (t:List Nod),(goodT 800 t∧(room<5→t.length≤40))∧v = .agg [.own q 6 0 t.length]∧H1=[(q,6,t.map NdO)]):=fun room id h1 h2=>
  (o161 g hg room.toNat _ room id (Nat.le_refl _) h1 oT).mono fun v H1 ⟨q,t,k1,k2⟩=>⟨q,t,⟨k1.mono (by unfold grB;split<;>omega),fun h5=>by have:=k1.2.2;unfold grB at this;rw[if_pos h5] at this;exact this⟩,k2⟩
 refine Z5 mxd i101 rfl (by simp) ?_;refine X0 ?_
 ((refine R1 (jO @Z9 (jO @Z8 @Z7)) ?_);(repeat' (have h:=Z4 h;simp only[Z0,ZX,Z1,ZY,and_true,true_and] at h;(refine R1 (jO @Z9 (jO @Z8 (jO @Z7 h))) ?_;with_reducible repeat' first|exact trivial|intro h|refine aO ?_|refine eO ?_|apply jO))))
 refine callS.eq (w162 g hsm) ?_
 ((refine R1 (jO @Z9 (jO @Z8 @Z7)) ?_);(repeat' (have h:=Z4 h;simp only[Z0,ZX,Z1,ZY,and_true,true_and] at h;(refine R1 (jO @Z9 (jO @Z8 (jO @Z7 h))) ?_;with_reducible repeat' first|exact trivial|intro h|refine aO ?_|refine eO ?_|apply jO))))
 refine callA.dv (wz75 12 oT) (by simp only[Z9, *,if_true,if_false]) ?_
 rintro _ ⟨a,ha,rfl⟩
 ((refine R1 (jO @Z9 (jO @Z8 @Z7)) ?_);(repeat' (have h:=Z4 h;simp only[Z0,ZX,Z1,ZY,and_true,true_and] at h;(refine R1 (jO @Z9 (jO @Z8 (jO @Z7 h))) ?_;with_reducible repeat' first|exact trivial|intro h|refine aO ?_|refine eO ?_|apply jO))))
 refine callA.dv (wz75 3 oT) (by simp only[Z9, *,if_true,if_false]) ?_
 rintro _ ⟨b,hb,rfl⟩
 ((refine R1 (jO @Z9 (jO @Z8 @Z7)) ?_);(repeat' (have h:=Z4 h;simp only[Z0,ZX,Z1,ZY,and_true,true_and] at h;(refine R1 (jO @Z9 (jO @Z8 (jO @Z7 h))) ?_;with_reducible repeat' first|exact trivial|intro h|refine aO ?_|refine eO ?_|apply jO))))
 refine callA.dc (hgr _ _ oT oT) (by simp only[Z9, *,if_true,if_false]) ?_
 rintro _ _ ⟨q,t,⟨ht,_⟩,rfl,rfl⟩ hn9
 have h9:=Z4 hn9
 simp only[List.cons_append,List.nil_append] at h9
 (replace h9:=h9;simp only[VN] at h9)
 ((refine R1 (jO @Z9 (jO @Z8 (jO @Z7 h9))) ?_;with_reducible repeat' first|intro h|apply jO);(repeat' (have h:=Z4 h;simp only[Z0,ZX,Z1,ZY,and_true,true_and] at h;(refine R1 (jO @Z9 (jO @Z8 (jO @Z7 (jO h9 h)))) ?_;with_reducible repeat' first|exact trivial|intro h|refine aO ?_|refine eO ?_|apply jO))))
 ·rename_i r5 hnx
  have h3:=Z4 hnx
  (replace h3:=h3;simp only[VN] at h3)
  refine callS.eq (w162 g hsm) ?_
  ((refine R1 (jO @Z9 (jO @Z8 (jO @Z7 h3))) ?_);(repeat' (have h:=Z4 h;simp only[Z0,ZX,Z1,ZY,and_true,true_and] at h;(refine R1 (jO @Z9 (jO @Z8 (jO @Z7 (jO h3 h)))) ?_;with_reducible repeat' first|exact trivial|intro h|refine aO ?_|refine eO ?_|apply jO))))
  refine callA.dc (hgr _ _ oT oT) (by simp only[Z9,h3,if_true,if_false]) ?_
  rintro _ _ ⟨q2,t2,ht2,rfl,rfl⟩ hn10
  replace ht2:goodT 40 t2:=⟨ht2.1.1,ht2.1.2.1,ht2.2 oT⟩
  have h10:=Z4 hn10
  simp only[List.cons_append,List.nil_append] at h10
  (replace h10:=h10;simp only[VN] at h10)
  ((refine R1 (jO @Z9 (jO @Z8 (jO @Z7 h10))) ?_);(repeat' (have h:=Z4 h;simp only[Z0,ZX,Z1,ZY,and_true,true_and] at h;(refine R1 (jO @Z9 (jO @Z8 (jO @Z7 (jO h10 h)))) ?_;with_reducible repeat' first|exact trivial|intro h|refine aO ?_|refine eO ?_|apply jO))))
  all_goals try exact oF
  refine callS.dv (w36 3) (by simp only[Z9,h10,if_true,if_false]) ?_
  rintro _ ⟨b3,rfl⟩
  cases b3
  ·((refine R1 (jO @Z9 (jO @Z8 (jO @Z7 h10))) ?_);(repeat' (have h:=Z4 h;simp only[Z0,ZX,Z1,ZY,and_true,true_and] at h;(refine R1 (jO @Z9 (jO @Z8 (jO @Z7 (jO h10 h)))) ?_;with_reducible repeat' first|exact trivial|intro h|refine aO ?_|refine eO ?_|apply jO))))
   all_goals try exact oF
   exact ⟨_,[(q2,6,t2.map NdO)],[_,_,_,_],[],⟨q2,t2,ht2,rfl,rfl⟩,.refl,rfl,(by repeat' (first|exact trivial|(refine jO (by simp only[Z9, *,if_true,if_false];try rfl) (jO (by simp[ZW,ZU, *]) ?_))))⟩
  ·((refine R1 (jO @Z9 (jO @Z8 (jO @Z7 h10))) ?_);(repeat' (have h:=Z4 h;simp only[Z0,ZX,Z1,ZY,and_true,true_and] at h;(refine R1 (jO @Z9 (jO @Z8 (jO @Z7 (jO h10 h)))) ?_;with_reducible repeat' first|exact trivial|intro h|refine aO ?_|refine eO ?_|apply jO))))
   all_goals try exact oF
   refine ZL mxd (ι:={ x:List Nod×Nat // x.2≤t2.length∧x.1.length=t2.length∧∀y∈x.1,drN y }) (fun x=>[(4,.raw 1),(5,.ptr r5 1 0 0),(6,I x.1.2)]) (fun x=>(q2,6,x.1.1.map NdO)::(r5,1,[.agg [.own q2 6 0 t2.length]])::(q,6,t.map NdO)::(rc,3,[.cur])::H) (fun x=>t2.length-x.1.2) ⟨(t2,0),by simp;exact ht2.1⟩ (by simp[E2]) rfl ?_
   rintro ⟨⟨u,k⟩,hk,hul,hu⟩
   dsimp only at hk hul hu ⊢
   have hbb:=ht2.2.2
   rcases nL k t2.length with hlk|hgk
   ·have hlu:k<u.length:=by omega
    (((try refine qI ?_);(repeat ((first|with_reducible refine qU ?_ | simp only[ZQ]);try simp (maxSteps:=9^7) only[↓ S2,S2,ZF,↓reduceIte,reduceNe,reduceEqDiff,reduceCtorEq,reduceLeDiff,reduceAdd,reduceLT,Z9,Z8,Z7,h10,hul,List.length_map,List.getElem_map,List.length_set]));(try simp +contextual (disch:=omega) only[Z2,Z9,Z8,Z7,h10,hul,List.length_map,List.getElem_map,List.length_set]);(with_reducible repeat' (first|intro h|refine jO oT ?_ | refine exP oT ?_ | apply jO)));(repeat' (have h:=Z4 h;simp only[Z0,ZX,Z1,ZY,and_true,true_and] at h;((try refine qI ?_);(repeat ((first|with_reducible refine qU ?_ | simp only[ZQ]);try simp (maxSteps:=9^7) only[↓ S2,S2,ZF,↓reduceIte,reduceNe,reduceEqDiff,reduceCtorEq,reduceLeDiff,reduceAdd,reduceLT,Z9,Z8,Z7,h10,hul,List.length_map,List.getElem_map,List.length_set,h]));(try simp +contextual (disch:=omega) only[Z2,Z9,Z8,Z7,h10,hul,List.length_map,List.getElem_map,List.length_set,h]);(with_reducible repeat' (first|intro h|refine jO oT ?_ | refine exP oT ?_ | apply jO))))))
    all_goals try exact oF
    generalize IntKind.i64.wrap ((IntKind.i64.wrap (IntKind.i64.wrap (u[k].id * 7)+3)).tmod 97+1)=w
    exact nx ⟨(u.set k { u[k] with id:=w },k+1),by dsimp only;omega,by dsimp only;rw[List.length_set];exact hul,fun y hy=>(List.mem_or_eq_of_mem_set hy).elim (hu y) fun h=>by subst h;exact ⟨(hu u[k] (gM hlu)).1,(hu u[k] (gM hlu)).2⟩⟩ (by dsimp only;omega) (by simp[E2]) (by simp[List.map_set])
   ·((refine R1 (jO @Z9 (jO @Z8 (jO @Z7 h10))) ?_;with_reducible repeat' intro h);(repeat' (have h:=Z4 h;simp only[Z0,ZX,Z1,ZY,and_true,true_and] at h;(refine R1 (jO @Z9 (jO @Z8 (jO @Z7 (jO h10 h)))) ?_;with_reducible repeat' first|exact trivial|intro h|refine aO ?_|refine eO ?_|apply jO))))
    all_goals try exact oF
    exact ⟨_,[(q2,6,u.map NdO)],[_,_,_,_],[],⟨q2,u,⟨hu,by have:=ht2.2.1;omega,by have:=ht2.2.2;omega⟩,by rw[hul],rfl⟩,.refl,rfl,(by repeat' (first|exact trivial|(refine jO (by simp only[Z9, *,if_true,if_false];try rfl) (jO (by simp[ZW,ZU, *]) ?_))))⟩
 ·rename_i r5 hnx
  have h3:=Z4 hnx
  (replace h3:=h3;simp only[VN] at h3)
  replace ht:goodT 40 t:=⟨ht.1,ht.2.1,oT⟩
  refine callS.dv (w36 3) (by simp only[Z9,h3,if_true,if_false]) ?_
  rintro _ ⟨b3,rfl⟩
  cases b3
  ·((refine R1 (jO @Z9 (jO @Z8 (jO @Z7 h3))) ?_);(repeat' (have h:=Z4 h;simp only[Z0,ZX,Z1,ZY,and_true,true_and] at h;(refine R1 (jO @Z9 (jO @Z8 (jO @Z7 (jO h3 h)))) ?_;with_reducible repeat' first|exact trivial|intro h|refine aO ?_|refine eO ?_|apply jO))))
   all_goals try exact oF
   exact ⟨_,[(q,6,t.map NdO)],[_,_,_],[],⟨q,t,ht,rfl,rfl⟩,.refl,rfl,(by repeat' (first|exact trivial|(refine jO (by simp only[Z9, *,if_true,if_false];try rfl) (jO (by simp[ZW,ZU, *]) ?_))))⟩
  ·((refine R1 (jO @Z9 (jO @Z8 (jO @Z7 h3))) ?_);(repeat' (have h:=Z4 h;simp only[Z0,ZX,Z1,ZY,and_true,true_and] at h;(refine R1 (jO @Z9 (jO @Z8 (jO @Z7 (jO h3 h)))) ?_;with_reducible repeat' first|exact trivial|intro h|refine aO ?_|refine eO ?_|apply jO))))
   all_goals try exact oF
   refine ZL mxd (ι:={ x:List Nod×Nat // x.2≤t.length∧x.1.length=t.length∧∀y∈x.1,drN y }) (fun x=>[(4,.raw 1),(5,.ptr r5 1 0 0),(6,I x.1.2)]) (fun x=>(r5,1,[.agg [.own q 6 0 t.length]])::(q,6,x.1.1.map NdO)::(rc,3,[.cur])::H) (fun x=>t.length-x.1.2) ⟨(t,0),by simp;exact ht.1⟩ (by simp[E2]) rfl ?_
   rintro ⟨⟨u,k⟩,hk,hul,hu⟩
   dsimp only at hk hul hu ⊢
   have hbb:=ht.2.2
   rcases nL k t.length with hlk|hgk
   ·have hlu:k<u.length:=by omega
    (((try refine qI ?_);(repeat ((first|with_reducible refine qU ?_ | simp only[ZQ]);try simp (maxSteps:=9^7) only[↓ S2,S2,ZF,↓reduceIte,reduceNe,reduceEqDiff,reduceCtorEq,reduceLeDiff,reduceAdd,reduceLT,Z9,Z8,Z7,h3,hul,List.length_map,List.getElem_map,List.length_set]));(try simp +contextual (disch:=omega) only[Z2,Z9,Z8,Z7,h3,hul,List.length_map,List.getElem_map,List.length_set]);(with_reducible repeat' (first|intro h|refine jO oT ?_ | refine exP oT ?_ | apply jO)));(repeat' (have h:=Z4 h;simp only[Z0,ZX,Z1,ZY,and_true,true_and] at h;((try refine qI ?_);(repeat ((first|with_reducible refine qU ?_ | simp only[ZQ]);try simp (maxSteps:=9^7) only[↓ S2,S2,ZF,↓reduceIte,reduceNe,reduceEqDiff,reduceCtorEq,reduceLeDiff,reduceAdd,reduceLT,Z9,Z8,Z7,h3,hul,List.length_map,List.getElem_map,List.length_set,h]));(try simp +contextual (disch:=omega) only[Z2,Z9,Z8,Z7,h3,hul,List.length_map,List.getElem_map,List.length_set,h]);(with_reducible repeat' (first|intro h|refine jO oT ?_ | refine exP oT ?_ | apply jO))))))
    all_goals try exact oF
    generalize IntKind.i64.wrap ((IntKind.i64.wrap (IntKind.i64.wrap (u[k].id * 7)+3)).tmod 97+1)=w
    exact nx ⟨(u.set k { u[k] with id:=w },k+1),by dsimp only;omega,by dsimp only;rw[List.length_set];exact hul,fun y hy=>(List.mem_or_eq_of_mem_set hy).elim (hu y) fun h=>by subst h;exact ⟨(hu u[k] (gM hlu)).1,(hu u[k] (gM hlu)).2⟩⟩ (by dsimp only;omega) (by simp[E2]) (by simp[List.map_set])
   ·((refine R1 (jO @Z9 (jO @Z8 (jO @Z7 h3))) ?_;with_reducible repeat' intro h);(repeat' (have h:=Z4 h;simp only[Z0,ZX,Z1,ZY,and_true,true_and] at h;(refine R1 (jO @Z9 (jO @Z8 (jO @Z7 (jO h3 h)))) ?_;with_reducible repeat' first|exact trivial|intro h|refine aO ?_|refine eO ?_|apply jO))))
    all_goals try exact oF
    exact ⟨_,[(q,6,u.map NdO)],[_,_,_],[],⟨q,u,⟨hu,by have:=ht.2.1;omega,by have:=ht.2.2;omega⟩,by rw[hul],rfl⟩,.refl,rfl,(by repeat' (first|exact trivial|(refine jO (by simp only[Z9, *,if_true,if_false];try rfl) (jO (by simp[ZW,ZU, *]) ?_))))⟩
theorem w102 (g:Gram) (hg:drG g):Dv Tryz.prog 102 [Gr g] (fun v=>∃t,bentT t∧v=Tr t):=by
 refine Dv.of fun rc H=> ?_
 refine gstartG i102 rfl (by simp) ?_
 refine gwpS mxd ?_
 ((refine R1 (jO @Z9 (jO @Z8 @Z7)) ?_);(repeat' (have h:=Z4 h;simp only[Z0,ZX,Z1,ZY,and_true,true_and] at h;(refine R1 (jO @Z9 (jO @Z8 (jO @Z7 h))) ?_;with_reducible repeat' first|exact trivial|intro h|refine aO ?_|refine eO ?_|apply jO))))
 refine gwpS mxd ?_
 ((refine R1 (jO @Z9 (jO @Z8 @Z7)) ?_);(repeat' (have h:=Z4 h;simp only[Z0,ZX,Z1,ZY,and_true,true_and] at h;(refine R1 (jO @Z9 (jO @Z8 (jO @Z7 h))) ?_;with_reducible repeat' first|exact trivial|intro h|refine aO ?_|refine eO ?_|apply jO))))
 refine callS.dc (o101 g hg) (by simp only[Z9, *,if_true,if_false]) ?_
 rintro _ _ ⟨q,t,ht,rfl,rfl⟩ hn9
 have h9:=Z4 hn9
 simp only[List.cons_append,List.nil_append] at h9
 (replace h9:=h9;simp only[VN] at h9)
 ((refine R1 (jO @Z9 (jO @Z8 (jO @Z7 h9))) ?_;with_reducible repeat' intro h);(repeat' (have h:=Z4 h;simp only[Z0,ZX,Z1,ZY,and_true,true_and] at h;(refine R1 (jO @Z9 (jO @Z8 (jO @Z7 (jO h9 h)))) ?_))))
 rename_i r5 hnx
 have h3:=h
 have ht1:=ht.2.1
 have ht2:=ht.2.2
 refine gwpS mxd ?_
 ((refine R1 (jO @Z9 (jO @Z8 (jO @Z7 h3))) ?_);(repeat' (have h:=Z4 h;simp only[Z0,ZX,Z1,ZY,and_true,true_and] at h;(refine R1 (jO @Z9 (jO @Z8 (jO @Z7 (jO h3 h)))) ?_;with_reducible repeat' first|exact trivial|intro h|refine aO ?_|refine eO ?_|apply jO))))
 refine callS.dv (wz75 t.length oT) (by simp only[Z9,h3,if_true,if_false]) ?_
 rintro _ ⟨k,hk,rfl⟩
 have hk':k<t.length:=by omega
 ((refine R1 (jO @Z9 (jO @Z8 (jO @Z7 h3))) ?_);(repeat' (have h:=Z4 h;simp only[Z0,ZX,Z1,ZY,and_true,true_and] at h;(refine R1 (jO @Z9 (jO @Z8 (jO @Z7 (jO h3 h)))) ?_;with_reducible repeat' first|exact trivial|intro h|refine aO ?_|refine eO ?_|apply jO))))
 refine GW.seq ?_
 refine gwpS mxd ?_
 ((refine R1 (jO @Z9 (jO @Z8 (jO @Z7 h3))) ?_);(repeat' (have h:=Z4 h;simp only[Z0,ZX,Z1,ZY,and_true,true_and] at h;(refine R1 (jO @Z9 (jO @Z8 (jO @Z7 (jO h3 h)))) ?_;with_reducible repeat' first|exact trivial|intro h|refine aO ?_|refine eO ?_|apply jO))))
 refine callS.dv (wz75 14 oT) (by simp only[Z9,h3,if_true,if_false]) ?_
 rintro _ ⟨d0,hd,rfl⟩
 obtain ⟨d,hdd⟩:∃d:Int,((d0:Nat):Int)=d:=⟨_,rfl⟩
 rw[hdd] at hd ⊢
 ((refine R1 (jO @Z9 (jO @Z8 (jO @Z7 h3))) ?_);(repeat' (have h:=Z4 h;simp only[Z0,ZX,Z1,ZY,and_true,true_and] at h;(refine R1 (jO @Z9 (jO @Z8 (jO @Z7 (jO h3 h)))) ?_;with_reducible repeat' first|exact trivial|intro h|refine aO ?_|refine eO ?_|apply jO))))
 have hxk:=ht.1 _ (gM hk')
 have hkk:t[k].kids.length ≤ 4:=by have:=hxk.1;omega
 have hcs:d=0∨d=1∨d=2∨d=3∨d=4∨d=5∨d=6∨7≤d:=by omega
 clear hdd
 rcases hcs with rfl|rfl|rfl|rfl|rfl|rfl|rfl|h7
 ·refine gwpB mxd ?_
  (((try refine qI ?_);(repeat ((first|with_reducible refine qU ?_ | simp only[ZQ]);try simp (maxSteps:=9^7) only[↓ S2,S2,ZF,↓reduceIte,reduceNe,reduceEqDiff,reduceCtorEq,reduceLeDiff,reduceAdd,reduceLT,Z9,Z8,Z7,h3,Int.reduceEq,decide_true,decide_false,List.length_map,List.getElem_map,Int.toNat_zero]));(try simp +contextual (disch:=omega) only[Z2,Z9,Z8,Z7,h3,Int.reduceEq,decide_true,decide_false,List.length_map,List.getElem_map,Int.toNat_zero]);(with_reducible repeat' (first|intro h|refine jO oT ?_ | refine exP oT ?_ | apply jO)));(repeat' (have h:=Z4 h;simp only[Z0,ZX,Z1,ZY,and_true,true_and] at h;((try refine qI ?_);(repeat ((first|with_reducible refine qU ?_ | simp only[ZQ]);try simp (maxSteps:=9^7) only[↓ S2,S2,ZF,↓reduceIte,reduceNe,reduceEqDiff,reduceCtorEq,reduceLeDiff,reduceAdd,reduceLT,Z9,Z8,Z7,h3,Int.reduceEq,decide_true,decide_false,List.length_map,List.getElem_map,Int.toNat_zero,h]));(try simp +contextual (disch:=omega) only[Z2,Z9,Z8,Z7,h3,Int.reduceEq,decide_true,decide_false,List.length_map,List.getElem_map,Int.toNat_zero,h]);(with_reducible repeat' (first|intro h|refine jO oT ?_ | refine exP oT ?_ | apply jO))))))
  all_goals try exact oF
  refine callA.dv (w163 _ rfl (by simp)) (by simp only[Z9,h3,if_true,if_false]) ?_
  intro _ hg9
  obtain ⟨n9,rfl⟩:=mem4 hg9
  (((try refine qI ?_);(repeat ((first|with_reducible refine qU ?_ | simp only[ZQ]);try simp (maxSteps:=9^7) only[↓ S2,S2,ZF,↓reduceIte,reduceNe,reduceEqDiff,reduceCtorEq,reduceLeDiff,reduceAdd,reduceLT,Z9,Z8,Z7,h3,Int.reduceEq,decide_true,decide_false,List.length_map,List.getElem_map,Int.toNat_zero]));(try simp +contextual (disch:=omega) only[Z2,Z9,Z8,Z7,h3,Int.reduceEq,decide_true,decide_false,List.length_map,List.getElem_map,Int.toNat_zero]);(with_reducible repeat' (first|intro h|refine jO oT ?_ | refine exP oT ?_ | apply jO)));(repeat' (have h:=Z4 h;simp only[Z0,ZX,Z1,ZY,and_true,true_and] at h;((try refine qI ?_);(repeat ((first|with_reducible refine qU ?_ | simp only[ZQ]);try simp (maxSteps:=9^7) only[↓ S2,S2,ZF,↓reduceIte,reduceNe,reduceEqDiff,reduceCtorEq,reduceLeDiff,reduceAdd,reduceLT,Z9,Z8,Z7,h3,Int.reduceEq,decide_true,decide_false,List.length_map,List.getElem_map,Int.toNat_zero,h]));(try simp +contextual (disch:=omega) only[Z2,Z9,Z8,Z7,h3,Int.reduceEq,decide_true,decide_false,List.length_map,List.getElem_map,Int.toNat_zero,h]);(with_reducible repeat' (first|intro h|refine jO oT ?_ | refine exP oT ?_ | apply jO))))))
  all_goals try exact oF
  refine Zl mxd ?_
  ((refine R1 (jO @Z9 (jO @Z8 (jO @Z7 h3))) ?_);(repeat' (have h:=Z4 h;simp only[Z0,ZX,Z1,ZY,and_true,true_and] at h;(refine R1 (jO @Z9 (jO @Z8 (jO @Z7 (jO h3 h)))) ?_;with_reducible repeat' first|exact trivial|intro h|refine aO ?_|refine eO ?_|apply jO))))
  all_goals try exact oF
  exact ⟨_,[_,_,_],[(q,6,_)],⟨_,bentT_set (x:={ t[k] with id:=n9 }) (k:=k) ht hkk hxk.2,rfl⟩,borS,rfl,(by repeat' (first|exact trivial|(refine jO (by simp only[Z9, *,if_true,if_false];try rfl) (jO (by simp[ZW,ZU, *]) ?_))))⟩
 ·refine gwpB mxd ?_
  (((try refine qI ?_);(repeat ((first|with_reducible refine qU ?_ | simp only[ZQ]);try simp (maxSteps:=9^7) only[↓ S2,S2,ZF,↓reduceIte,reduceNe,reduceEqDiff,reduceCtorEq,reduceLeDiff,reduceAdd,reduceLT,Z9,Z8,Z7,h3,Int.reduceEq,decide_true,decide_false,List.length_map,List.getElem_map,Int.toNat_zero]));(try simp +contextual (disch:=omega) only[Z2,Z9,Z8,Z7,h3,Int.reduceEq,decide_true,decide_false,List.length_map,List.getElem_map,Int.toNat_zero]);(with_reducible repeat' (first|intro h|refine jO oT ?_ | refine exP oT ?_ | apply jO)));(repeat' (have h:=Z4 h;simp only[Z0,ZX,Z1,ZY,and_true,true_and] at h;((try refine qI ?_);(repeat ((first|with_reducible refine qU ?_ | simp only[ZQ]);try simp (maxSteps:=9^7) only[↓ S2,S2,ZF,↓reduceIte,reduceNe,reduceEqDiff,reduceCtorEq,reduceLeDiff,reduceAdd,reduceLT,Z9,Z8,Z7,h3,Int.reduceEq,decide_true,decide_false,List.length_map,List.getElem_map,Int.toNat_zero,h]));(try simp +contextual (disch:=omega) only[Z2,Z9,Z8,Z7,h3,Int.reduceEq,decide_true,decide_false,List.length_map,List.getElem_map,Int.toNat_zero,h]);(with_reducible repeat' (first|intro h|refine jO oT ?_ | refine exP oT ?_ | apply jO))))))
  all_goals try exact oF
  refine callA.dv (w163 _ rfl (by simp)) (by simp only[Z9,h3,if_true,if_false]) ?_
  intro _ hg9
  obtain ⟨n9,_,rfl⟩:=X9 (lo:=0) (hi:=2000000) rfl hg9
  (((try refine qI ?_);(repeat ((first|with_reducible refine qU ?_ | simp only[ZQ]);try simp (maxSteps:=9^7) only[↓ S2,S2,ZF,↓reduceIte,reduceNe,reduceEqDiff,reduceCtorEq,reduceLeDiff,reduceAdd,reduceLT,Z9,Z8,Z7,h3,Int.reduceEq,decide_true,decide_false,List.length_map,List.getElem_map,Int.toNat_zero]));(try simp +contextual (disch:=omega) only[Z2,Z9,Z8,Z7,h3,Int.reduceEq,decide_true,decide_false,List.length_map,List.getElem_map,Int.toNat_zero]);(with_reducible repeat' (first|intro h|refine jO oT ?_ | refine exP oT ?_ | apply jO)));(repeat' (have h:=Z4 h;simp only[Z0,ZX,Z1,ZY,and_true,true_and] at h;((try refine qI ?_);(repeat ((first|with_reducible refine qU ?_ | simp only[ZQ]);try simp (maxSteps:=9^7) only[↓ S2,S2,ZF,↓reduceIte,reduceNe,reduceEqDiff,reduceCtorEq,reduceLeDiff,reduceAdd,reduceLT,Z9,Z8,Z7,h3,Int.reduceEq,decide_true,decide_false,List.length_map,List.getElem_map,Int.toNat_zero,h]));(try simp +contextual (disch:=omega) only[Z2,Z9,Z8,Z7,h3,Int.reduceEq,decide_true,decide_false,List.length_map,List.getElem_map,Int.toNat_zero,h]);(with_reducible repeat' (first|intro h|refine jO oT ?_ | refine exP oT ?_ | apply jO))))))
  all_goals try exact oF
  refine Zl mxd ?_
  ((refine R1 (jO @Z9 (jO @Z8 (jO @Z7 h3))) ?_);(repeat' (have h:=Z4 h;simp only[Z0,ZX,Z1,ZY,and_true,true_and] at h;(refine R1 (jO @Z9 (jO @Z8 (jO @Z7 (jO h3 h)))) ?_;with_reducible repeat' first|exact trivial|intro h|refine aO ?_|refine eO ?_|apply jO))))
  all_goals try exact oF
  exact ⟨_,[_,_,_],[(q,6,_)],⟨_,bentT_set (x:={ t[k] with lit:=n9 }) (k:=k) ht hkk hxk.2,rfl⟩,borS,rfl,(by repeat' (first|exact trivial|(refine jO (by simp only[Z9, *,if_true,if_false];try rfl) (jO (by simp[ZW,ZU, *]) ?_))))⟩
 ·refine gwpB mxd ?_
  (((try refine qI ?_);(repeat ((first|with_reducible refine qU ?_ | simp only[ZQ]);try simp (maxSteps:=9^7) only[↓ S2,S2,ZF,↓reduceIte,reduceNe,reduceEqDiff,reduceCtorEq,reduceLeDiff,reduceAdd,reduceLT,Z9,Z8,Z7,h3,Int.reduceEq,decide_true,decide_false,List.length_map,List.getElem_map,Int.toNat_zero]));(try simp +contextual (disch:=omega) only[Z2,Z9,Z8,Z7,h3,Int.reduceEq,decide_true,decide_false,List.length_map,List.getElem_map,Int.toNat_zero]);(with_reducible repeat' (first|intro h|refine jO oT ?_ | refine exP oT ?_ | apply jO)));(repeat' (have h:=Z4 h;simp only[Z0,ZX,Z1,ZY,and_true,true_and] at h;((try refine qI ?_);(repeat ((first|with_reducible refine qU ?_ | simp only[ZQ]);try simp (maxSteps:=9^7) only[↓ S2,S2,ZF,↓reduceIte,reduceNe,reduceEqDiff,reduceCtorEq,reduceLeDiff,reduceAdd,reduceLT,Z9,Z8,Z7,h3,Int.reduceEq,decide_true,decide_false,List.length_map,List.getElem_map,Int.toNat_zero,h]));(try simp +contextual (disch:=omega) only[Z2,Z9,Z8,Z7,h3,Int.reduceEq,decide_true,decide_false,List.length_map,List.getElem_map,Int.toNat_zero,h]);(with_reducible repeat' (first|intro h|refine jO oT ?_ | refine exP oT ?_ | apply jO))))))
  all_goals try exact oF
  refine callA.dv (wz75 5 oT) (by simp only[Z9,h3,if_true,if_false]) ?_
  rintro _ ⟨n9,hn99,rfl⟩
  (((try refine qI ?_);(repeat ((first|with_reducible refine qU ?_ | simp only[ZQ]);try simp (maxSteps:=9^7) only[↓ S2,S2,ZF,↓reduceIte,reduceNe,reduceEqDiff,reduceCtorEq,reduceLeDiff,reduceAdd,reduceLT,Z9,Z8,Z7,h3,Int.reduceEq,decide_true,decide_false,List.length_map,List.getElem_map,Int.toNat_zero]));(try simp +contextual (disch:=omega) only[Z2,Z9,Z8,Z7,h3,Int.reduceEq,decide_true,decide_false,List.length_map,List.getElem_map,Int.toNat_zero]);(with_reducible repeat' (first|intro h|refine jO oT ?_ | refine exP oT ?_ | apply jO)));(repeat' (have h:=Z4 h;simp only[Z0,ZX,Z1,ZY,and_true,true_and] at h;((try refine qI ?_);(repeat ((first|with_reducible refine qU ?_ | simp only[ZQ]);try simp (maxSteps:=9^7) only[↓ S2,S2,ZF,↓reduceIte,reduceNe,reduceEqDiff,reduceCtorEq,reduceLeDiff,reduceAdd,reduceLT,Z9,Z8,Z7,h3,Int.reduceEq,decide_true,decide_false,List.length_map,List.getElem_map,Int.toNat_zero,h]));(try simp +contextual (disch:=omega) only[Z2,Z9,Z8,Z7,h3,Int.reduceEq,decide_true,decide_false,List.length_map,List.getElem_map,Int.toNat_zero,h]);(with_reducible repeat' (first|intro h|refine jO oT ?_ | refine exP oT ?_ | apply jO))))))
  all_goals try exact oF
  refine Zl mxd ?_
  ((refine R1 (jO @Z9 (jO @Z8 (jO @Z7 h3))) ?_);(repeat' (have h:=Z4 h;simp only[Z0,ZX,Z1,ZY,and_true,true_and] at h;(refine R1 (jO @Z9 (jO @Z8 (jO @Z7 (jO h3 h)))) ?_;with_reducible repeat' first|exact trivial|intro h|refine aO ?_|refine eO ?_|apply jO))))
  all_goals try exact oF
  exact ⟨_,[_,_,_],[(q,6,_)],⟨_,bentT_set (x:={ t[k] with parent:=(n9:Int)-1 }) (k:=k) ht hkk hxk.2,rfl⟩,borS,rfl,(by repeat' (first|exact trivial|(refine jO (by simp only[Z9, *,if_true,if_false];try rfl) (jO (by simp[ZW,ZU, *]) ?_))))⟩
 ·refine gwpB mxd ?_
  (((try refine qI ?_);(repeat ((first|with_reducible refine qU ?_ | simp only[ZQ]);try simp (maxSteps:=9^7) only[↓ S2,S2,ZF,↓reduceIte,reduceNe,reduceEqDiff,reduceCtorEq,reduceLeDiff,reduceAdd,reduceLT,Z9,Z8,Z7,h3,Int.reduceEq,decide_true,decide_false,List.length_map,List.getElem_map,Int.toNat_zero]));(try simp +contextual (disch:=omega) only[Z2,Z9,Z8,Z7,h3,Int.reduceEq,decide_true,decide_false,List.length_map,List.getElem_map,Int.toNat_zero]);(with_reducible repeat' (first|intro h|refine jO oT ?_ | refine exP oT ?_ | apply jO)));(repeat' (have h:=Z4 h;simp only[Z0,ZX,Z1,ZY,and_true,true_and] at h;((try refine qI ?_);(repeat ((first|with_reducible refine qU ?_ | simp only[ZQ]);try simp (maxSteps:=9^7) only[↓ S2,S2,ZF,↓reduceIte,reduceNe,reduceEqDiff,reduceCtorEq,reduceLeDiff,reduceAdd,reduceLT,Z9,Z8,Z7,h3,Int.reduceEq,decide_true,decide_false,List.length_map,List.getElem_map,Int.toNat_zero,h]));(try simp +contextual (disch:=omega) only[Z2,Z9,Z8,Z7,h3,Int.reduceEq,decide_true,decide_false,List.length_map,List.getElem_map,Int.toNat_zero,h]);(with_reducible repeat' (first|intro h|refine jO oT ?_ | refine exP oT ?_ | apply jO))))))
  all_goals try exact oF
  refine callA.dv (w78 _ rfl (by simp)) (by simp only[Z9,h3,if_true,if_false]) ?_
  intro _ hg9
  obtain ⟨n9,hn99,rfl⟩:=ltT_mem rfl hg9
  (((try refine qI ?_);(repeat ((first|with_reducible refine qU ?_ | simp only[ZQ]);try simp (maxSteps:=9^7) only[↓ S2,S2,ZF,↓reduceIte,reduceNe,reduceEqDiff,reduceCtorEq,reduceLeDiff,reduceAdd,reduceLT,Z9,Z8,Z7,h3,Int.reduceEq,decide_true,decide_false,List.length_map,List.getElem_map,Int.toNat_zero]));(try simp +contextual (disch:=omega) only[Z2,Z9,Z8,Z7,h3,Int.reduceEq,decide_true,decide_false,List.length_map,List.getElem_map,Int.toNat_zero]);(with_reducible repeat' (first|intro h|refine jO oT ?_ | refine exP oT ?_ | apply jO)));(repeat' (have h:=Z4 h;simp only[Z0,ZX,Z1,ZY,and_true,true_and] at h;((try refine qI ?_);(repeat ((first|with_reducible refine qU ?_ | simp only[ZQ]);try simp (maxSteps:=9^7) only[↓ S2,S2,ZF,↓reduceIte,reduceNe,reduceEqDiff,reduceCtorEq,reduceLeDiff,reduceAdd,reduceLT,Z9,Z8,Z7,h3,Int.reduceEq,decide_true,decide_false,List.length_map,List.getElem_map,Int.toNat_zero,h]));(try simp +contextual (disch:=omega) only[Z2,Z9,Z8,Z7,h3,Int.reduceEq,decide_true,decide_false,List.length_map,List.getElem_map,Int.toNat_zero,h]);(with_reducible repeat' (first|intro h|refine jO oT ?_ | refine exP oT ?_ | apply jO))))))
  all_goals try exact oF
  refine Zl mxd ?_
  ((refine R1 (jO @Z9 (jO @Z8 (jO @Z7 h3))) ?_);(repeat' (have h:=Z4 h;simp only[Z0,ZX,Z1,ZY,and_true,true_and] at h;(refine R1 (jO @Z9 (jO @Z8 (jO @Z7 (jO h3 h)))) ?_;with_reducible repeat' first|exact trivial|intro h|refine aO ?_|refine eO ?_|apply jO))))
  all_goals try exact oF
  exact ⟨_,[_,_,_],[(q,6,_)],⟨_,bentT_set (x:={ t[k] with rule:=n9 }) (k:=k) ht hkk hn99,rfl⟩,borS,rfl,(by repeat' (first|exact trivial|(refine jO (by simp only[Z9, *,if_true,if_false];try rfl) (jO (by simp[ZW,ZU, *]) ?_))))⟩
 ·refine GW.opn (r:=q) (es:=t.map NdO) (sz:=6) (i:=k) (j:=5) (gs:=[I t[k].id,I t[k].parent,I t[k].place,I t[k].lit,T t[k].rule,.osl 1 (t[k].kids.map I)]) (by simp only[Z9,h3,if_true,if_false]) (by simp[hk']) rfl fun r1 hn1=> ?_
  simp only[Z8,h3,if_true,if_false] at hn1 ⊢
  have h5:=Z4 hn1
  (replace h5:=h5;simp only[VN] at h5)
  refine gwpB mxd ?_
  (((try refine qI ?_);(repeat ((first|with_reducible refine qU ?_ | simp only[ZQ]);try simp (maxSteps:=9^7) only[↓ S2,S2,ZF,↓reduceIte,reduceNe,reduceEqDiff,reduceCtorEq,reduceLeDiff,reduceAdd,reduceLT,Z9,Z8,Z7,h5,Int.reduceEq,decide_true,decide_false,List.length_map,List.getElem_map,List.length_set,List.getElem_set_self,List.set_set,List.length_append,List.length_singleton,List.length_take,not_false_eq_true,ZM]));(try simp +contextual (disch:=omega) only[Z2,Z9,Z8,Z7,h5,Int.reduceEq,decide_true,decide_false,List.length_map,List.getElem_map,List.length_set,List.getElem_set_self,List.set_set,List.length_append,List.length_singleton,List.length_take,not_false_eq_true,ZM]);(with_reducible repeat' (first|intro h|refine jO oT ?_ | refine exP oT ?_ | apply jO)));(repeat' (have h:=Z4 h;simp only[Z0,ZX,Z1,ZY,and_true,true_and] at h;((try refine qI ?_);(repeat ((first|with_reducible refine qU ?_ | simp only[ZQ]);try simp (maxSteps:=9^7) only[↓ S2,S2,ZF,↓reduceIte,reduceNe,reduceEqDiff,reduceCtorEq,reduceLeDiff,reduceAdd,reduceLT,Z9,Z8,Z7,h5,Int.reduceEq,decide_true,decide_false,List.length_map,List.getElem_map,List.length_set,List.getElem_set_self,List.set_set,List.length_append,List.length_singleton,List.length_take,not_false_eq_true,ZM,h]));(try simp +contextual (disch:=omega) only[Z2,Z9,Z8,Z7,h5,Int.reduceEq,decide_true,decide_false,List.length_map,List.getElem_map,List.length_set,List.getElem_set_self,List.set_set,List.length_append,List.length_singleton,List.length_take,not_false_eq_true,ZM,h]);(with_reducible repeat' (first|intro h|refine jO oT ?_ | refine exP oT ?_ | apply jO))))))
  all_goals try exact oF
  rename_i r7 _ _ r8 _
  rw[tL (by simp)]
  refine GW.ent (FE.trans (FE.perm (H:=[_,_,_,_,_]) (L:=[(r8,_),(q,_),(r5,_),(rc,_)]) (by repeat' (first|exact trivial|(refine jO (by simp only[Z9, *,if_true,if_false];try rfl) (jO (by simp[ZW,ZU, *]) ?_))))) (FE.close2 (L:=t.map NdO) (i:=k) (j:=5) (by simp[*]) (by simpa using hk') rfl (by simp))) ?_
  have e9:([I t[k].id,I t[k].parent,I t[k].place,I t[k].lit,T t[k].rule,GV.own r8 1 0 (t[k].kids.length + 1)].set 5 (.osl 1 (List.map I t[k].kids ++ [GV.val (Value.int IntKind.i64 1)])))=[I t[k].id,I t[k].parent,I t[k].place,I t[k].lit,T t[k].rule,.osl 1 ((t[k].kids ++ [1]).map I)]:=by simp
  rw[e9]
  show GW _ _ _ _ _ (_ :: (r5,1,_)::(rc,3,_)::H)
  refine Zl mxd ?_
  ((refine R1 (jO @Z9 (jO @Z8 (jO @Z7 h3))) ?_);(repeat' (have h:=Z4 h;simp only[Z0,ZX,Z1,ZY,and_true,true_and] at h;(refine R1 (jO @Z9 (jO @Z8 (jO @Z7 (jO h3 h)))) ?_;with_reducible repeat' first|exact trivial|intro h|refine aO ?_|refine eO ?_|apply jO))))
  all_goals try exact oF
  exact ⟨_,[_,_,_],[(q,6,_)],⟨_,bentT_set (x:={ t[k] with kids:=t[k].kids ++ [1] }) (k:=k) ht (by have:=hxk.1;simp;omega) hxk.2,rfl⟩,borS,rfl,(by repeat' (first|exact trivial|(refine jO (by simp only[Z9, *,if_true,if_false];try rfl) (jO (by simp[ZW,ZU, *]) ?_))))⟩
 ·refine GW.ent (FE.frz (r:=q) (sz:=6) (es:=t.map NdO) (by simp only[Z9,h3,if_true,if_false])) ?_
  rw[view_NdOs]
  simp only[Z8,h3,if_true,if_false]
  refine gwpB mxd ?_
  (((try refine qI ?_);(repeat ((first|with_reducible refine qU ?_ | simp only[ZQ]);try simp (maxSteps:=9^7) only[↓ S2,S2,ZF,↓reduceIte,reduceNe,reduceEqDiff,reduceCtorEq,reduceLeDiff,reduceAdd,reduceLT,Z9,Z8,Z7,h3,Int.reduceEq,decide_true,decide_false,List.length_map,List.getElem_map,List.length_append,List.length_singleton,List.length_take,ZM]));(try simp +contextual (disch:=omega) only[Z2,Z9,Z8,Z7,h3,Int.reduceEq,decide_true,decide_false,List.length_map,List.getElem_map,List.length_append,List.length_singleton,List.length_take,ZM]);(with_reducible repeat' (first|intro h|refine jO oT ?_ | refine exP oT ?_ | apply jO)));(repeat' (have h:=Z4 h;simp only[Z0,ZX,Z1,ZY,and_true,true_and] at h;((try refine qI ?_);(repeat ((first|with_reducible refine qU ?_ | simp only[ZQ]);try simp (maxSteps:=9^7) only[↓ S2,S2,ZF,↓reduceIte,reduceNe,reduceEqDiff,reduceCtorEq,reduceLeDiff,reduceAdd,reduceLT,Z9,Z8,Z7,h3,Int.reduceEq,decide_true,decide_false,List.length_map,List.getElem_map,List.length_append,List.length_singleton,List.length_take,ZM,h]));(try simp +contextual (disch:=omega) only[Z2,Z9,Z8,Z7,h3,Int.reduceEq,decide_true,decide_false,List.length_map,List.getElem_map,List.length_append,List.length_singleton,List.length_take,ZM,h]);(with_reducible repeat' (first|intro h|refine jO oT ?_ | refine exP oT ?_ | apply jO))))))
  all_goals try exact oF
  rename_i r7 _ _ r8 _
  rw[tL (by simp)]
  refine Zl mxd ?_
  ((refine R1 (jO @Z9 (jO @Z8 (jO @Z7 (jO h3 h)))) ?_);(repeat' (have h:=Z4 h;simp only[Z0,ZX,Z1,ZY,and_true,true_and] at h;(refine R1 (jO @Z9 (jO @Z8 (jO @Z7 (jO h3 (jO h h))))) ?_;with_reducible repeat' first|exact trivial|intro h|refine aO ?_|refine eO ?_|apply jO))))
  all_goals try exact oF
  exact ⟨_,[_,_,_,_],[(r8,6,_)],⟨_,bentT_app ht hk',rfl⟩,by have:=bor_TrN (q:=r8) (t:=t++[t[k]]) (n:=t.length+1) (by simp);simpa using this,rfl,(by repeat' (first|exact trivial|(refine jO (by simp only[Z9, *,if_true,if_false];try rfl) (jO (by simp[ZW,ZU, *]) ?_))))⟩
 ·refine gwpB mxd ?_
  (((try refine qI ?_);(repeat ((first|with_reducible refine qU ?_ | simp only[ZQ]);try simp (maxSteps:=9^7) only[↓ S2,S2,ZF,↓reduceIte,reduceNe,reduceEqDiff,reduceCtorEq,reduceLeDiff,reduceAdd,reduceLT,Z9,Z8,Z7,h3,Int.reduceEq,decide_true,decide_false,List.length_map,List.getElem_map,Int.toNat_zero]));(try simp +contextual (disch:=omega) only[Z2,Z9,Z8,Z7,h3,Int.reduceEq,decide_true,decide_false,List.length_map,List.getElem_map,Int.toNat_zero]);(with_reducible repeat' (first|intro h|refine jO oT ?_ | refine exP oT ?_ | apply jO)));(repeat' (have h:=Z4 h;simp only[Z0,ZX,Z1,ZY,and_true,true_and] at h;((try refine qI ?_);(repeat ((first|with_reducible refine qU ?_ | simp only[ZQ]);try simp (maxSteps:=9^7) only[↓ S2,S2,ZF,↓reduceIte,reduceNe,reduceEqDiff,reduceCtorEq,reduceLeDiff,reduceAdd,reduceLT,Z9,Z8,Z7,h3,Int.reduceEq,decide_true,decide_false,List.length_map,List.getElem_map,Int.toNat_zero,h]));(try simp +contextual (disch:=omega) only[Z2,Z9,Z8,Z7,h3,Int.reduceEq,decide_true,decide_false,List.length_map,List.getElem_map,Int.toNat_zero,h]);(with_reducible repeat' (first|intro h|refine jO oT ?_ | refine exP oT ?_ | apply jO))))))
  all_goals try exact oF
  refine Zl mxd ?_
  ((refine R1 (jO @Z9 (jO @Z8 (jO @Z7 h3))) ?_);(repeat' (have h:=Z4 h;simp only[Z0,ZX,Z1,ZY,and_true,true_and] at h;(refine R1 (jO @Z9 (jO @Z8 (jO @Z7 (jO h3 h)))) ?_;with_reducible repeat' first|exact trivial|intro h|refine aO ?_|refine eO ?_|apply jO))))
  all_goals try exact oF
  exact ⟨_,[_,_,_],[(q,6,_)],⟨_,bentT_set (x:={ t[k] with place:=1 }) (k:=k) ht hkk hxk.2,rfl⟩,borS,rfl,(by repeat' (first|exact trivial|(refine jO (by simp only[Z9, *,if_true,if_false];try rfl) (jO (by simp[ZW,ZU, *]) ?_))))⟩
 ·have e0:∀n:Int,n<7→(d=n)=False:=fun n hn=>eq_false oT
  refine gwpB mxd ?_
  (((try refine qI ?_);(repeat ((first|with_reducible refine qU ?_ | simp only[ZQ]);try simp (maxSteps:=9^7) only[↓ S2,S2,ZF,↓reduceIte,reduceNe,reduceEqDiff,reduceCtorEq,reduceLeDiff,reduceAdd,reduceLT,Z9,Z8,Z7,h3,e0 0 oT,e0 1 oT,e0 2 oT,e0 3 oT,e0 4 oT,e0 5 oT,e0 6 oT,decide_false]));(try simp +contextual (disch:=omega) only[Z2,Z9,Z8,Z7,h3,e0 0 oT,e0 1 oT,e0 2 oT,e0 3 oT,e0 4 oT,e0 5 oT,e0 6 oT,decide_false]);(with_reducible repeat' (first|intro h|refine jO oT ?_ | refine exP oT ?_ | apply jO)));(repeat' (have h:=Z4 h;simp only[Z0,ZX,Z1,ZY,and_true,true_and] at h;((try refine qI ?_);(repeat ((first|with_reducible refine qU ?_ | simp only[ZQ]);try simp (maxSteps:=9^7) only[↓ S2,S2,ZF,↓reduceIte,reduceNe,reduceEqDiff,reduceCtorEq,reduceLeDiff,reduceAdd,reduceLT,Z9,Z8,Z7,h3,e0 0 oT,e0 1 oT,e0 2 oT,e0 3 oT,e0 4 oT,e0 5 oT,e0 6 oT,decide_false,h]));(try simp +contextual (disch:=omega) only[Z2,Z9,Z8,Z7,h3,e0 0 oT,e0 1 oT,e0 2 oT,e0 3 oT,e0 4 oT,e0 5 oT,e0 6 oT,decide_false,h]);(with_reducible repeat' (first|intro h|refine jO oT ?_ | refine exP oT ?_ | apply jO))))))
  all_goals try exact oF
  refine Zl mxd ?_
  ((refine R1 (jO @Z9 (jO @Z8 (jO @Z7 h3))) ?_);(repeat' (have h:=Z4 h;simp only[Z0,ZX,Z1,ZY,and_true,true_and] at h;(refine R1 (jO @Z9 (jO @Z8 (jO @Z7 (jO h3 h)))) ?_;with_reducible repeat' first|exact trivial|intro h|refine aO ?_|refine eO ?_|apply jO))))
  all_goals try exact oF
  exact ⟨_,[_,_,_],[(q,6,_)],⟨t,bentT_of ht,rfl⟩,bor_TrO,rfl,(by repeat' (first|exact trivial|(refine jO (by simp only[Z9, *,if_true,if_false];try rfl) (jO (by simp[ZW,ZU, *]) ?_))))⟩
end Go.Proofs.YtkmedfejmndmjaaGreat
