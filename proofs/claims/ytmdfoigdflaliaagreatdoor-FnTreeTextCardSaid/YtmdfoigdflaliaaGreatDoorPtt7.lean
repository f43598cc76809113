/- The tied card of the law holds. No condition. -/
import Derived.Test.YtmdfoigdflaliaaGreatDoorPtt3
set_option maxHeartbeats 40000000
set_option maxRecDepth 20000
set_option linter.unusedSimpArgs false
set_option linter.unusedVariables false
namespace Go.Proofs.YtmdfoigdflaliaaGreatDoor
open Go.Gh
open Nat (reduceEqDiff reduceLeDiff reduceAdd reduceLT)
open Int (reduceNe)
theorem o26 (bs:List UInt8) (hb:bs.length≤1048576) (H:GH):Gc 26 [Bs bs] H (fun g H'=>∃rc,g = .ptr rc 3 0 0∧H'=(rc,3,[.cur])::H):=by
 refine GCalls.fr (R:=fun g H'=>∃rc e,isC e∧g = .ptr rc 3 0 0∧H'=(rc,3,[e])::H) ?_ (fun g H' ⟨rc,e,h1,h2,h3⟩=>by subst h3;exact ⟨g,_,FR.uncur h1,rc,h2,rfl⟩)
 refine ZN mxd i26 rfl (by simp) ?_;refine X0 ?_
 (refine V0 ?_;with_reducible repeat' first|exact trivial|intro h|refine aO ?_|refine eO ?_|apply jO)
 refine Y5 mxd (ι:={ x:Nat×Int // x.1≤bs.length }) (fun x=>[(0,Bs bs),(3,I x.1.2),(4,I x.1.1)]) (fun _ => H) (fun x=>bs.length-x.1.1) ⟨(0,26583+bs.length),by simp⟩ (by simp[E2]) rfl ?_
 rintro ⟨⟨i,h⟩,hi⟩
 dsimp only at hi ⊢
 (refine V0 ?_;with_reducible repeat' first|exact trivial|intro h|refine aO ?_|refine eO ?_|apply jO)
 all_goals try exact oF
 ·exact nx ⟨(i+1,_),by dsimp only;omega⟩ (by simp<;>omega) (by simp[E2];rfl) rfl
 all_goals exact ⟨_,_,⟨bs,0,_,rfl,by omega,by omega,by omega⟩,rfl,rfl⟩
theorem w70:Dv Tryz.prog 70 [] (fun g=>∃k:Nat,k<256∧g=I k):=by
 refine fun rc H=>GCalls.open fun e he=> ?_
 refine GCalls.fr (R:=fun g H'=>(∃k:Nat,k<256∧g=I k)∧∃e,isC e∧H'=(rc,3,[e])::H) ?_ (fun g H' ⟨h1,e',h2,h3⟩=>by subst h3;exact ⟨g,_,FR.uncur h2,[],⟨h1,rfl⟩,rfl⟩)
 obtain ⟨bs,i,h,rfl,h0,h1,h2⟩:=he
 obtain ⟨i,rfl⟩:=Int.eq_ofNat_of_zero_le h0
 refine ZN mxd i70 rfl (by simp) ?_;refine X0 ?_
 (refine V0 ?_;with_reducible repeat' first|exact trivial|intro h|refine aO ?_|refine eO ?_|apply jO)
 all_goals first
  | exact ⟨_,⟨bs,_,_,rfl,by omega,by omega,h2⟩,rfl⟩
  | (obtain ⟨k,hk,hk2⟩:=andI_255 _;exact ⟨k,hk2,by rw[hk]⟩)
theorem w47 (n:Int):Dv Tryz.prog 47 [I n] (fun g=>∃k:Int,0≤k∧(0<n→k<n)∧(n≤0→k=0)∧g=I k):=by
 refine Dv.of0 fun rc H=> ?_
 refine ZN mxd i47 rfl (by simp) ?_;refine X0 ?_
 (refine V0 ?_;with_reducible repeat' first|exact trivial|intro h|refine aO ?_|refine eO ?_|apply jO)
 ·exact ⟨0,by omega,by omega,by omega,rfl⟩
 ·refine callS.dv w70 ZX ?_
  rintro _ ⟨k,hk,rfl⟩
  (refine V0 ?_;with_reducible repeat' first|exact trivial|intro h|refine aO ?_|refine eO ?_|apply jO)
  exact ⟨_,Int.tmod_nonneg _ (by omega),fun _ => Int.tmod_lt_of_pos _ (by omega),rfl⟩
 ·refine callS.dv w70 ZX ?_
  rintro _ ⟨k1,hk1,rfl⟩
  (refine V0 ?_;with_reducible repeat' first|exact trivial|intro h|refine aO ?_|refine eO ?_|apply jO)
  refine callS.dv w70 ZX ?_
  rintro _ ⟨k2,hk2,rfl⟩
  (refine V0 ?_;with_reducible repeat' first|exact trivial|intro h|refine aO ?_|refine eO ?_|apply jO)
  refine callS.dv w70 ZX ?_
  rintro _ ⟨k3,hk3,rfl⟩
  (refine V0 ?_;with_reducible repeat' first|exact trivial|intro h|refine aO ?_|refine eO ?_|apply jO)
  refine callS.dv w70 ZX ?_
  rintro _ ⟨k4,hk4,rfl⟩
  (refine V0 ?_;with_reducible repeat' first|exact trivial|intro h|refine aO ?_|refine eO ?_|apply jO)
  exact ⟨_,Int.tmod_nonneg _ (by omega),fun _ => Int.tmod_lt_of_pos _ (by omega),rfl⟩
theorem wz47 (n:Int) (hn:0<n):Dv Tryz.prog 47 [I n] (fun g=>∃k:Nat,(k:Int)<n∧g=I k):=
 (w47 n).mono fun g H1 ⟨⟨k,h0,h1,_,h2⟩,h3⟩=>⟨⟨k.toNat,by have:=h1 hn;omega,by rw[h2,Int.toNat_of_nonneg h0]⟩,h3⟩
theorem w32 (n:Int):Dv Tryz.prog 32 [I n] (fun g=>∃b:Bool,g=B b):=by
 refine Dv.of0 fun rc H=> ?_
 refine ZN mxd i32 rfl (by simp) ?_;refine X0 ?_
 refine callS.dv (w47 n) ZX ?_
 rintro _ ⟨k,h0,h1,h2,rfl⟩
 (refine V0 ?_;with_reducible repeat' first|exact trivial|intro h|refine aO ?_|refine eO ?_|apply jO)
 exact ⟨_,rfl⟩
theorem w49 (es:List GV) (ha:noAg es=true) (hl:0<es.length):Dv Tryz.prog 49 [.sl 1 es] (fun g=>g∈es):=by
 refine Dv.of0 fun rc H=> ?_
 have hA:=notAgg ha
 have hB:=notRaw ha
 refine ZN mxd i49 rfl (by simp) ?_;refine X0 ?_
 refine callS.dv (w47 es.length) ZX ?_
 rintro _ ⟨k,h0,h1,h2,rfl⟩
 obtain ⟨k,rfl⟩:=Int.eq_ofNat_of_zero_le h0
 (refine V1 (jO hA hB) ?_;with_reducible repeat' first|exact trivial|intro h|refine aO ?_|refine eO ?_|apply jO)
 all_goals try exact oF
 exact gM _
theorem w30 (es:List GV) (ha:noAg es=true) (hl:0<es.length):Dv Tryz.prog 30 [.sl 1 es] (fun g=>g∈es):=by
 refine Dv.of0 fun rc H=> ?_
 have hA:=notAgg ha
 have hB:=notRaw ha
 refine ZN mxd i30 rfl (by simp) ?_;refine X0 ?_
 refine callS.dv (w47 es.length) ZX ?_
 rintro _ ⟨k,h0,h1,h2,rfl⟩
 obtain ⟨k,rfl⟩:=Int.eq_ofNat_of_zero_le h0
 (refine V1 (jO hA hB) ?_;with_reducible repeat' first|exact trivial|intro h|refine aO ?_|refine eO ?_|apply jO)
 all_goals try exact oF
 exact gM _
theorem w97 (n k:Int):Pu 97 [I n,I k] (· = ExN (.mk 1 n 0 k noS noS [])):=by
 refine ZN mxd i97 rfl (by simp) ?_;refine X0 ?_
 (refine V0 ?_;with_reducible repeat' first|exact trivial|intro h|refine aO ?_|refine eO ?_|apply jO)
 rfl
theorem o93 (op:Int) (a b:Exp) (H:GH):Gc 93 [I op,Ex a,Ex b] H (fun g H'=>∃H1,(∃r,g=ExR (.mk 4 op 0 0 noS noS [a,b]) r∧H1=[(r,7,[Ex a,Ex b])])∧H'=H1++H):=by
 refine ZN mxd i93 rfl (by simp) ?_;refine X0 ?_
 (refine V1 @XE ?_;with_reducible repeat' first|exact trivial|intro h|refine aO ?_|refine eO ?_|apply jO)
 exact ⟨_,⟨_,rfl,rfl⟩,rfl⟩
theorem w77 (kind:Int) (l:List Oc) (hl:∀o∈l,shT o.2):Dv Tryz.prog 77 [I kind,OcS l] (fun g=>∃e,e.args=[]∧shD 0 e∧g=ExN e):=by
 refine Dv.of0 fun rc H=> ?_
 refine ZN mxd i77 rfl (by simp) ?_;refine X0 ?_
 (refine V0 ?_;with_reducible repeat' first|exact trivial|intro h|refine aO ?_|refine eO ?_|apply jO)
 (repeat' ((first|(refine callS.dv (wz47 _ (by omega)) (by first|exact ZX|(simp only[Z9, *,if_true,if_false];done)) ?_;rintro _ ⟨_,_,rfl⟩)|(refine callS.dv (w47 _) (by first|exact ZX|(simp only[Z9, *,if_true,if_false];done)) ?_;rintro _ ⟨_,_,_,_,rfl⟩)|(refine callS.dv (w32 _) (by first|exact ZX|(simp only[Z9, *,if_true,if_false];done)) ?_;rintro _ ⟨_,rfl⟩)|(refine callS.dv (w49 _ rfl (by simp)) (by first|exact ZX|(simp only[Z9, *,if_true,if_false];done)) ?_;intro _ hg;obtain ⟨_,_,rfl⟩:=ltT_mem rfl hg;clear hg)|(refine callS.dv (w30 _ rfl (by simp)) (by first|exact ZX|(simp only[Z9, *,if_true,if_false];done)) ?_;intro _ hg;obtain ⟨_,_,rfl⟩:=YK (lo:= -9223372036854775808) (hi:=9223372036854775807) rfl hg;clear hg)|(with_reducible refine callS.eq (w97 _ _) ?_)|(refine callA.dv (wz47 _ (by omega)) (by first|exact ZX|(simp only[Z9, *,if_true,if_false];done)) ?_;rintro _ ⟨_,_,rfl⟩)|(refine callA.dv (w47 _) (by first|exact ZX|(simp only[Z9, *,if_true,if_false];done)) ?_;rintro _ ⟨_,_,_,_,rfl⟩)|(refine callA.dv (w32 _) (by first|exact ZX|(simp only[Z9, *,if_true,if_false];done)) ?_;rintro _ ⟨_,rfl⟩)|(refine callA.dv (w49 _ rfl (by simp)) (by first|exact ZX|(simp only[Z9, *,if_true,if_false];done)) ?_;intro _ hg;obtain ⟨_,_,rfl⟩:=ltT_mem rfl hg;clear hg)|(refine callA.dv (w30 _ rfl (by simp)) (by first|exact ZX|(simp only[Z9, *,if_true,if_false];done)) ?_;intro _ hg;obtain ⟨_,_,rfl⟩:=YK (lo:= -9223372036854775808) (hi:=9223372036854775807) rfl hg;clear hg)|(with_reducible refine callA.eq (w97 _ _) ?_));(refine V0 ?_;with_reducible repeat' first|exact trivial|intro h|refine aO ?_|refine eO ?_|apply jO)))
 all_goals first
  | exact ⟨.mk _ _ _ _ noS noS [],rfl,shD_leaf (by decide) (by decide),rfl⟩
  | exact ⟨.mk _ _ _ _ noS _ [],rfl,shD_leaf (by decide) (hl _ (gM _)),rfl⟩
  | exact u64_nn _
theorem o48 (s:ByteArray) (hs:shT s) (first plain:Bool):Dc Tryz.prog 48 [T s,B first,B plain] (fun g H1=>∃(l:List Att) (r:Nat),drS ⟨s,l⟩∧g = .agg [T s,.own r 4 0 l.length]∧H1=[(r,4,l.map At)]):=by
 refine Dc.of fun rc H=> ?_
 refine ZN mxd i48 rfl (by simp) ?_;refine X0 ?_
 (refine V0 ?_;with_reducible repeat' first|exact trivial|intro h|refine aO ?_|refine eO ?_|apply jO)
 refine callS.dv (wz47 _ (by omega)) (by simp only[Z9, *,if_true,if_false]) ?_
 rintro _ ⟨n,hn,rfl⟩
 (refine V0 ?_;with_reducible repeat' first|exact trivial|intro h|refine aO ?_|refine eO ?_|apply jO)
 rename_i r9
 obtain ⟨v,hv,hvn⟩:=vfresh (names ((r9,2,[.agg [T s,.val (.slice none 0 0)]])::(rc,3,[.cur])::H))
 refine Zd mxd (ι:={ x:(Nat×List Att)×Nat // x.2≤n+1∧x.1.2.length=x.2∧drL x.1.2 }) (fun x=>[(0,.ptr rc 3 0 0),(2,B first),(3,B plain),(8,.raw 2),(9,.ptr r9 2 0 0),(10,I (1+n)),(11,I x.1.2)]) (fun x=>(x.1.1.1,4,x.1.1.2.map At)::(r9,2,[.agg [T s,.own x.1.1.1 4 0 x.1.1.2.length]])::(rc,3,[.cur])::H) (fun x=>n+1-x.1.2) ⟨((v,[]),0),by simp,rfl,drL_nil⟩ (FE.virtF (sz:=2) (sz1:=4) (i:=0) (j:=1) (es:=[.agg [T s,.val (.slice none 0 0)]]) (gs:=[T s,.val (.slice none 0 0)]) ZX rfl rfl hv hvn) (by simp[E2]) (by simp[ZI]) ?_
 rintro ⟨⟨⟨q,l⟩,i⟩,hi,hl,hd⟩ hn2
 dsimp only at hi hl hd hn2 ⊢
 have h4:=Z0 hn2
 (replace h4:=h4;simp only[VN] at h4)
 refine ZD mxd ?_
 rcases nL i (n+1) with hlt|hge
 ·have hA:=ltr_get i
  (refine V1 hA ?_;with_reducible repeat' first|exact trivial|intro h|refine aO ?_|refine eO ?_|apply jO)
  all_goals try exact oF
  refine callA.dv (w30 _ rfl (by simp)) (by simp only[Z9,h4,if_false,if_true]) ?_
  intro _ hg;obtain ⟨t,ht,rfl⟩:=YK (lo:=1) (hi:=4) rfl hg;clear hg
  (refine V0 ?_;with_reducible repeat' first|exact trivial|intro h|refine aO ?_|refine eO ?_|apply jO)
  refine callA.dv (w30 _ rfl (by simp)) (by simp only[Z9,h4,if_false,if_true]) ?_
  intro _ hg;obtain ⟨m,hm,rfl⟩:=YK (lo:=1) (hi:=3) rfl hg;clear hg
  have h0:m=1∨m=2∨m=3:=by omega
  rcases h0 with rfl|rfl|rfl<;>cases first<;>cases plain
  all_goals (((refine R2 (jO @Z9 (jO @Z8 (jO @Z7 (jO h4 (jO @List.length_map.{0,0} (jO @ZM (jO @decide_true @decide_false))))))) ?_;with_reducible repeat' first|exact trivial|intro h|refine aO ?_|refine eO ?_|apply jO);(repeat' (have h:=Z0 h;simp only[Z1,ZY,Z3,ZZ,and_true,true_and] at h;(refine R2 (jO @Z9 (jO @Z8 (jO @Z7 (jO h4 (jO @List.length_map.{0,0} (jO @ZM (jO @decide_true (jO @decide_false h)))))))) ?_;with_reducible repeat' first|exact trivial|intro h|refine aO ?_|refine eO ?_|apply jO)))))
  all_goals ((repeat' ((first|(refine callS.dv (w30 _ rfl (by simp)) (by first|exact ZX|(simp only[Z9, *,if_true,if_false];done)) ?_;intro _ hg;obtain ⟨_,_,rfl⟩:=YK (lo:=1) (hi:=4) rfl hg;clear hg)|(refine callS.dv (wz47 _ (by omega)) (by first|exact ZX|(simp only[Z9, *,if_true,if_false];done)) ?_;rintro _ ⟨_,_,rfl⟩)|(refine callS.dv (w47 _) (by first|exact ZX|(simp only[Z9, *,if_true,if_false];done)) ?_;rintro _ ⟨_,_,_,_,rfl⟩)|(refine callS.dv (w32 _) (by first|exact ZX|(simp only[Z9, *,if_true,if_false];done)) ?_;rintro _ ⟨_,rfl⟩)|(refine callS.dv (w49 _ rfl (by simp)) (by first|exact ZX|(simp only[Z9, *,if_true,if_false];done)) ?_;intro _ hg;obtain ⟨_,_,rfl⟩:=ltT_mem rfl hg;clear hg)|(refine callS.dv (w30 _ rfl (by simp)) (by first|exact ZX|(simp only[Z9, *,if_true,if_false];done)) ?_;intro _ hg;obtain ⟨_,_,rfl⟩:=YK (lo:= -9223372036854775808) (hi:=9223372036854775807) rfl hg;clear hg)|(refine callA.dv (w30 _ rfl (by simp)) (by first|exact ZX|(simp only[Z9, *,if_true,if_false];done)) ?_;intro _ hg;obtain ⟨_,_,rfl⟩:=YK (lo:=1) (hi:=4) rfl hg;clear hg)|(refine callA.dv (wz47 _ (by omega)) (by first|exact ZX|(simp only[Z9, *,if_true,if_false];done)) ?_;rintro _ ⟨_,_,rfl⟩)|(refine callA.dv (w47 _) (by first|exact ZX|(simp only[Z9, *,if_true,if_false];done)) ?_;rintro _ ⟨_,_,_,_,rfl⟩)|(refine callA.dv (w32 _) (by first|exact ZX|(simp only[Z9, *,if_true,if_false];done)) ?_;rintro _ ⟨_,rfl⟩)|(refine callA.dv (w49 _ rfl (by simp)) (by first|exact ZX|(simp only[Z9, *,if_true,if_false];done)) ?_;intro _ hg;obtain ⟨_,_,rfl⟩:=ltT_mem rfl hg;clear hg)|(refine callA.dv (w30 _ rfl (by simp)) (by first|exact ZX|(simp only[Z9, *,if_true,if_false];done)) ?_;intro _ hg;obtain ⟨_,_,rfl⟩:=YK (lo:= -9223372036854775808) (hi:=9223372036854775807) rfl hg;clear hg));(first|(have h':=h;((refine R2 (jO @Z9 (jO @Z8 (jO @Z7 (jO h4 (jO @List.length_map.{0,0} (jO @ZM (jO @decide_true (jO @decide_false h')))))))) ?_;with_reducible repeat' first|exact trivial|intro h|refine aO ?_|refine eO ?_|apply jO);(repeat' (have h:=Z0 h;simp only[Z1,ZY,Z3,ZZ,and_true,true_and] at h;(refine R2 (jO @Z9 (jO @Z8 (jO @Z7 (jO h4 (jO @List.length_map.{0,0} (jO @ZM (jO @decide_true (jO @decide_false (jO h' h))))))))) ?_;with_reducible repeat' first|exact trivial|intro h|refine aO ?_|refine eO ?_|apply jO)))))|((refine R2 (jO @Z9 (jO @Z8 (jO @Z7 (jO h4 (jO @List.length_map.{0,0} (jO @ZM (jO @decide_true @decide_false))))))) ?_;with_reducible repeat' first|exact trivial|intro h|refine aO ?_|refine eO ?_|apply jO);(repeat' (have h:=Z0 h;simp only[Z1,ZY,Z3,ZZ,and_true,true_and] at h;(refine R2 (jO @Z9 (jO @Z8 (jO @Z7 (jO h4 (jO @List.length_map.{0,0} (jO @ZM (jO @decide_true (jO @decide_false h)))))))) ?_;with_reducible repeat' first|exact trivial|intro h|refine aO ?_|refine eO ?_|apply jO))))))))
  all_goals try exact oF
  all_goals
   rename_i q2 _
   rw[tL (by simp)]
   refine nxAtt fun a ha=> ?_
   have hda:drA i a:=by rw[ha];exact ⟨rfl,by dsimp only;omega,by dsimp only;omega,rfl⟩
   refine nxF ⟨((q2,l++[a]),i+1),by dsimp only;omega,by simp;omega,drL_app hd (by rw[hl];exact hda)⟩ (by simp<;>omega) (FE.perm (H:=[_,_,_,_,_]) (L:=[(q2,4,List.map At l++[At a]),(r9,2,[.agg [T s,.own q2 4 0 (l.length+1)]]),(rc,3,[.cur])]) (by simp[subH,ZW,names, *])) (by simp[E2]) (by simp)
 ·((refine R1 (jO @Z9 (jO @Z8 (jO @Z7 h4))) ?_;with_reducible repeat' first|exact trivial|intro h|refine aO ?_|refine eO ?_|apply jO);(repeat' (have h:=Z0 h;simp only[Z1,ZY,Z3,ZZ,and_true,true_and] at h;(refine R1 (jO @Z9 (jO @Z8 (jO @Z7 (jO h4 h)))) ?_;with_reducible repeat' first|exact trivial|intro h|refine aO ?_|refine eO ?_|apply jO))))
  all_goals try exact oF
  exact ⟨_,[(q,_)],[_,_,_],[],⟨l,q,⟨hs,by show 1≤l.length;omega,by show l.length≤4;omega,hd⟩,rfl,rfl⟩,.refl,rfl,by simp[subH,ZW,names, *]⟩
theorem x72 (X Y Z:GV) (g:Gram) (s:ByteArray) (hg:smGr g):Pu 72 [GrX g X,T s] (· = .tup [Sy (fSym g.syms s),B (hSym g.syms s)]):=by
 refine Pure.bor ?_
 have hlen:=hg.1
 refine ZN mxd i72 rfl (by simp) ?_;refine X0 ?_
 refine Y5 mxd (ι:={ i:Nat // i≤g.syms.length∧∀y∈g.syms.take i,decide (y.name=s)=false }) (fun i=>[(1,T s),(2,.rop 2 (GrX g X)),(4,.raw 2),(6,I i.1)]) (fun _ => []) (fun i=>g.syms.length-i.1) ⟨0,by simp⟩ (by simp[E2]) rfl ?_
 rintro ⟨i,hi,hn⟩
 (refine R0 ?_;with_reducible repeat' first|exact trivial|intro h|refine aO ?_|refine eO ?_|apply jO)
 ·subst h
  refine callS.eq (w91 g.syms[i] (hg.2.2.1 _ (gM _))) ?_
  (refine R0 ?_;with_reducible repeat' first|exact trivial|intro h|refine aO ?_|refine eO ?_|apply jO)
  have e:=find_hit (p:=fun x:Sym=>decide (x.name=g.syms[i].name)) (xs:=g.syms) (i:=i) (by assumption) (by simp) hn
  simp only[fSym,hSym,e]
  exact .refl
 ·exact nx ⟨i+1,by omega,take_step (by assumption) (by simp[*]) hn⟩ (by simp;omega) (by simp[E2]) rfl
 ·have:i=g.syms.length:=by omega
  subst this
  rw[tL (Nat.le_refl _)] at hn
  have e:=find_none hn
  simp only[fSym,hSym,e]
  exact .tup (.cons (.agg (.cons .refl (.cons .nil .nil))) (.cons .refl .nil))
theorem x73 (X Y Z:GV) (r:Rul) (p:Int) (hr:smRu r):Pu 73 [RuX r Y Z,I p] (· = T (YH r p)):=by
 have hl:=hr.1
 refine ZN mxd i73 rfl (by simp) ?_;refine X0 ?_
 (refine R0 ?_;with_reducible repeat' first|exact trivial|intro h|refine aO ?_|refine eO ?_|apply jO)
 ·simp[YH,h]
 refine callS.eq (w24 _ _ _) ?_
 (refine R0 ?_;with_reducible repeat' first|exact trivial|intro h|refine aO ?_|refine eO ?_|apply jO)
 ·simp only[YH,if_neg (show ¬p=0 from by assumption),if_pos h,YS (show (p-1).toNat < r.right.length by omega)]
 ·simp only[YH,if_neg (show ¬p=0 from by assumption),if_neg h];rfl
theorem x71 (X Y Z:GV) (g:Gram) (r:Rul) (hg:smGr g) (hr:smRu r) (hr3:r.right.length≤3):Pu 71 [GrX g X,RuX r Y Z] (· = OcS (reqO g r)):=by
 refine Pure.bor ?_
 refine ZN mxd i71 rfl (by simp) ?_;refine X0 ?_
 (refine V0 ?_;with_reducible repeat' first|exact trivial|intro h|refine aO ?_|refine eO ?_|apply jO)
 rename_i r0
 refine ploop mxd (ι:={ x:Nat×Nat // x.2≤r.right.length+1 }) (fun x=>[(2,.rop 2 (GrX g X)),(3,.rop 6 (RuX r Y Z)),(5,.own x.1.1 2 0 (reqA g r x.1.2).length),(6,I x.1.2)]) (fun x=>[(x.1.1,2,(reqA g r x.1.2).map Occ)]) (fun x=>r.right.length+1-x.1.2) ⟨(r0,0),by simp⟩ (by simp[E2,reqA]) (by simp[subH,ZW,names,reqA]) ?_
 rintro ⟨⟨q,i⟩,hi⟩ hn
 dsimp only at hi hn ⊢
 rcases nL i (r.right.length+1) with hlt|hge
 ·(refine V0 ?_;with_reducible repeat' first|exact trivial|intro h|refine aO ?_|refine eO ?_|apply jO)
  all_goals try exact oF
  refine callS.eq (x73 X Y Z r i hr) ?_
  (refine V0 ?_;with_reducible repeat' first|exact trivial|intro h|refine aO ?_|refine eO ?_|apply jO)
  refine callS.eq (x72 X Y Z g _ hg) ?_
  have hbl:=reqA_len hg r i
  have hst:reqA g r (i+1)=reqA g r i++((((fSym g.syms (YH r i)).atts.filter fun a=>decide (a.mode=if i=0 then 2 else 1)).map fun a=>((i:Int),a.name))):=rfl
  have hsm:=smSy_f hg (YH r i)
  unfold smSy at hsm
  generalize fSym g.syms (YH r i)=s at *
  by_cases h0:i=0
  ·have hi1:((i:Int)=0)=True:=eq_true (by omega)
   rw[if_pos h0] at hst
   (refine V1 (jO hi1 @decide_true) ?_;with_reducible repeat' first|exact trivial|intro h|refine aO ?_|refine eO ?_|apply jO)
   obtain ⟨F,hF⟩:∃F:Nat→List Oc,∀k,F k=reqA g r i++(((s.atts.take k).filter fun a=>decide (a.mode=2)).map fun a=>((i:Int),a.name)):=⟨_,fun _ => rfl⟩
   have hF0:F 0=reqA g r i:=by rw[hF];simp
   have hFe:F s.atts.length=reqA g r (i+1):=by rw[hF,hst,List.take_length]
   have hFs:∀k (hk:k<s.atts.length),F (k+1)=F k++(if s.atts[k].mode = 2 then [((i:Int),s.atts[k].name)] else []):=fun k hk=>by
    rw[hF,hF,reqP_take (g:=g) (r:=r) (pos:=i) (m:=2) (by simp[h0]) s.atts hk,List.append_assoc]
   have hFl:∀k,(F k).length ≤ (reqA g r i).length + s.atts.length:=fun k=>by
    have h1:=List.length_filter_le (fun a:Att=>decide (a.mode=2)) (s.atts.take k)
    rw[List.length_take] at h1
    rw[hF,List.length_append,List.length_map];omega
   clear hF
   refine ploop mxd (ι:={ x:Nat×Nat // x.2≤s.atts.length }) (fun x=>[(2,.rop 2 (GrX g X)),(3,.rop 6 (RuX r Y Z)),(5,.own x.1.1 2 0 (F x.1.2).length),(6,I i),(7,.rop 2 (Sy s)),(9,I 2),(10,I x.1.2)]) (fun x=>[(x.1.1,2,(F x.1.2).map Occ)]) (fun x=>s.atts.length-x.1.2) ⟨(q,0),by simp⟩ (by simp[E2,hF0]) (by simp[subH,ZW,names,hF0]) ?_
   rintro ⟨⟨q,k⟩,hk⟩ hn
   dsimp only at hk hn ⊢
   have hl1:=hFl k
   rcases nL k s.atts.length with hlt2|hge2
   ·have e:=hFs k hlt2
    rcases Decidable.em (s.atts[k].mode = 2) with hm|hm
    ·rw[if_pos hm] at e
     have el:(F (k+1)).length = (F k).length + 1:=by rw[e];simp
     (refine V1 (jO hm (jO @List.length_append.{0} (jO @List.length_singleton.{0} (jO @List.length_map.{0,0} (jO @List.length_take.{0} @ZM))))) ?_;with_reducible repeat' first|exact trivial|intro h|refine aO ?_|refine eO ?_|apply jO)
     all_goals try exact oF
     rename_i q2 _ q3
     refine px ⟨(q3,k+1),by omega⟩ (by simp<;>omega) (by simp[E2,el]) ?_
     show subH _ [(q3,2,(F (k+1)).map Occ)]
     rw[e,List.map_append,tL (by simp)]
     exact (by repeat' (first|exact trivial|(refine And.intro (by simp only[Z9, *,if_true,if_false];try rfl) (And.intro (by simp[ZR,ZP, *]) ?_))))
    ·rw[if_neg hm,List.append_nil] at e
     (refine V1 hm ?_;with_reducible repeat' first|exact trivial|intro h|refine aO ?_|refine eO ?_|apply jO)
     all_goals try exact oF
     refine px ⟨(q,k+1),by omega⟩ (by simp<;>omega) (by simp[E2,e]) ?_
     show subH _ [(q,2,(F (k+1)).map Occ)]
     rw[e]
     exact (by repeat' (first|exact trivial|(refine And.intro (by simp only[Z9, *,if_true,if_false];try rfl) (And.intro (by simp[ZR,ZP, *]) ?_))))
   ·obtain rfl:k=s.atts.length:=by omega
    rw[hFe]
    (refine V0 ?_;with_reducible repeat' first|exact trivial|intro h|refine aO ?_|refine eO ?_|apply jO)
    all_goals try exact oF
    exact px ⟨(q,i+1),by omega⟩ (by simp<;>omega) (by simp[E2]) (by repeat' (first|exact trivial|(refine And.intro (by simp only[Z9, *,if_true,if_false];try rfl) (And.intro (by simp[ZR,ZP, *]) ?_))))
  ·have hi1:((i:Int)=0)=False:=eq_false (by omega)
   rw[if_neg h0] at hst
   (refine V1 (jO hi1 @decide_false) ?_;with_reducible repeat' first|exact trivial|intro h|refine aO ?_|refine eO ?_|apply jO)
   obtain ⟨F,hF⟩:∃F:Nat→List Oc,∀k,F k=reqA g r i++(((s.atts.take k).filter fun a=>decide (a.mode=1)).map fun a=>((i:Int),a.name)):=⟨_,fun _ => rfl⟩
   have hF0:F 0=reqA g r i:=by rw[hF];simp
   have hFe:F s.atts.length=reqA g r (i+1):=by rw[hF,hst,List.take_length]
   have hFs:∀k (hk:k<s.atts.length),F (k+1)=F k++(if s.atts[k].mode = 1 then [((i:Int),s.atts[k].name)] else []):=fun k hk=>by
    rw[hF,hF,reqP_take (g:=g) (r:=r) (pos:=i) (m:=1) (by simp[h0]) s.atts hk,List.append_assoc]
   have hFl:∀k,(F k).length ≤ (reqA g r i).length + s.atts.length:=fun k=>by
    have h1:=List.length_filter_le (fun a:Att=>decide (a.mode=1)) (s.atts.take k)
    rw[List.length_take] at h1
    rw[hF,List.length_append,List.length_map];omega
   clear hF
   refine ploop mxd (ι:={ x:Nat×Nat // x.2≤s.atts.length }) (fun x=>[(2,.rop 2 (GrX g X)),(3,.rop 6 (RuX r Y Z)),(5,.own x.1.1 2 0 (F x.1.2).length),(6,I i),(7,.rop 2 (Sy s)),(9,I 1),(10,I x.1.2)]) (fun x=>[(x.1.1,2,(F x.1.2).map Occ)]) (fun x=>s.atts.length-x.1.2) ⟨(q,0),by simp⟩ (by simp[E2,hF0]) (by simp[subH,ZW,names,hF0]) ?_
   rintro ⟨⟨q,k⟩,hk⟩ hn
   dsimp only at hk hn ⊢
   have hl1:=hFl k
   rcases nL k s.atts.length with hlt2|hge2
   ·have e:=hFs k hlt2
    rcases Decidable.em (s.atts[k].mode = 1) with hm|hm
    ·rw[if_pos hm] at e
     have el:(F (k+1)).length = (F k).length + 1:=by rw[e];simp
     (refine V1 (jO hm (jO @List.length_append.{0} (jO @List.length_singleton.{0} (jO @List.length_map.{0,0} (jO @List.length_take.{0} @ZM))))) ?_;with_reducible repeat' first|exact trivial|intro h|refine aO ?_|refine eO ?_|apply jO)
     all_goals try exact oF
     rename_i q2 _ q3
     refine px ⟨(q3,k+1),by omega⟩ (by simp<;>omega) (by simp[E2,el]) ?_
     show subH _ [(q3,2,(F (k+1)).map Occ)]
     rw[e,List.map_append,tL (by simp)]
     exact (by repeat' (first|exact trivial|(refine And.intro (by simp only[Z9, *,if_true,if_false];try rfl) (And.intro (by simp[ZR,ZP, *]) ?_))))
    ·rw[if_neg hm,List.append_nil] at e
     (refine V1 hm ?_;with_reducible repeat' first|exact trivial|intro h|refine aO ?_|refine eO ?_|apply jO)
     all_goals try exact oF
     refine px ⟨(q,k+1),by omega⟩ (by simp<;>omega) (by simp[E2,e]) ?_
     show subH _ [(q,2,(F (k+1)).map Occ)]
     rw[e]
     exact (by repeat' (first|exact trivial|(refine And.intro (by simp only[Z9, *,if_true,if_false];try rfl) (And.intro (by simp[ZR,ZP, *]) ?_))))
   ·obtain rfl:k=s.atts.length:=by omega
    rw[hFe]
    (refine V0 ?_;with_reducible repeat' first|exact trivial|intro h|refine aO ?_|refine eO ?_|apply jO)
    all_goals try exact oF
    exact px ⟨(q,i+1),by omega⟩ (by simp<;>omega) (by simp[E2]) (by repeat' (first|exact trivial|(refine And.intro (by simp only[Z9, *,if_true,if_false];try rfl) (And.intro (by simp[ZR,ZP, *]) ?_))))
 ·obtain rfl:i=r.right.length+1:=by omega
  (refine V0 ?_;with_reducible repeat' first|exact trivial|intro h|refine aO ?_|refine eO ?_|apply jO)
  all_goals try exact oF
  exact bor_OcS ZX rfl
end Go.Proofs.YtmdfoigdflaliaaGreatDoor
