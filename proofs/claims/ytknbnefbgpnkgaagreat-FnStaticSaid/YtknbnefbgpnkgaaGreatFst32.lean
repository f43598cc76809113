/- The laws FnStatic and FnStaticTypes return true whatever the input, and the input reads behind the call as before. No condition. -/
import Derived.Test.YtknbnefbgpnkgaaGreatFst2
set_option maxHeartbeats 40000000
set_option maxRecDepth 20000
set_option linter.unusedSimpArgs false
set_option linter.unusedVariables false
namespace Go.Proofs.YtknbnefbgpnkgaaGreat
open Go.Gh
open Nat (reduceEqDiff reduceLeDiff reduceAdd reduceLT)
open Int (reduceNe)
theorem o39 (bs:List UInt8) (hb:bs.length≤1048576) (H:GH):Gc 39 [Bs bs] H (fun g H'=>∃rc,g = .ptr rc 3 0 0∧H'=(rc,3,[.cur])::H):=by
 refine GCalls.fr (R:=fun g H'=>∃rc e,isC e∧g = .ptr rc 3 0 0∧H'=(rc,3,[e])::H) ?_ (fun g H' ⟨rc,e,h1,h2,h3⟩=>by subst h3;exact ⟨g,_,FR.uncur h1,rc,h2,rfl⟩)
 refine Z5 mxd i39 rfl (by simp) ?_;refine X0 ?_
 (refine V0 ?_)
 refine ZL mxd (ι:={ x:Nat×Int // x.1≤bs.length }) (fun x=>[(0,Bs bs),(3,I x.1.2),(4,I x.1.1)]) (fun _ => H) (fun x=>bs.length-x.1.1) ⟨(0,26583+bs.length),by simp⟩ (by simp[E2]) rfl ?_
 rintro ⟨⟨i,h⟩,hi⟩
 dsimp only at hi ⊢
 (refine V0 ?_;with_reducible repeat' first|intro h|apply jO)
 all_goals try exact oF
 ·exact nx ⟨(i+1,_),by dsimp only;omega⟩ (by simp<;>omega) (by simp[E2];rfl) rfl
 all_goals exact ⟨_,_,⟨bs,0,_,rfl,oT,oT,oT⟩,rfl,rfl⟩
theorem w86:Dv Tryz.prog 86 [] (fun g=>∃k:Nat,k<256∧g=I k):=by
 refine fun rc H=>GCalls.open fun e he=> ?_
 refine GCalls.fr (R:=fun g H'=>(∃k:Nat,k<256∧g=I k)∧∃e,isC e∧H'=(rc,3,[e])::H) ?_ (fun g H' ⟨h1,e',h2,h3⟩=>by subst h3;exact ⟨g,_,FR.uncur h2,[],⟨h1,rfl⟩,rfl⟩)
 obtain ⟨bs,i,h,rfl,h0,h1,h2⟩:=he
 obtain ⟨i,rfl⟩:=Int.eq_ofNat_of_zero_le h0
 refine Z5 mxd i86 rfl (by simp) ?_;refine X0 ?_
 (refine V0 ?_;with_reducible repeat' first|intro h|apply jO)
 all_goals first
  | exact ⟨_,⟨bs,_,_,rfl,oT,oT,h2⟩,rfl⟩
  | (obtain ⟨k,hk,hk2⟩:=andI_255 _;exact ⟨k,hk2,by rw[hk]⟩)
theorem w42 (n:Int):Dv Tryz.prog 42 [I n] (fun g=>∃k:Int,0≤k∧(0<n→k<n)∧(n≤0→k=0)∧g=I k):=by
 refine Dv.of0 fun rc H=> ?_
 refine Z5 mxd i42 rfl (by simp) ?_;refine X0 ?_
 (refine V0 ?_;with_reducible repeat' first|intro h|apply jO)
 ·exact ⟨0,oT,oT,oT,rfl⟩
 ·refine callS.dv w86 ZZ ?_
  rintro _ ⟨k,hk,rfl⟩
  (refine V0 ?_)
  exact ⟨_,Int.tmod_nonneg _ oT,fun _ => Int.tmod_lt_of_pos _ oT,rfl⟩
 ·refine callS.dv w86 ZZ ?_
  rintro _ ⟨k1,hk1,rfl⟩
  (refine V0 ?_)
  refine callS.dv w86 ZZ ?_
  rintro _ ⟨k2,hk2,rfl⟩
  (refine V0 ?_)
  refine callS.dv w86 ZZ ?_
  rintro _ ⟨k3,hk3,rfl⟩
  (refine V0 ?_)
  refine callS.dv w86 ZZ ?_
  rintro _ ⟨k4,hk4,rfl⟩
  (refine V0 ?_)
  exact ⟨_,Int.tmod_nonneg _ oT,fun _ => Int.tmod_lt_of_pos _ oT,rfl⟩
theorem wz42 (n:Int) (hn:0<n):Dv Tryz.prog 42 [I n] (fun g=>∃k:Nat,(k:Int)<n∧g=I k):=
 (w42 n).mono fun g H1 ⟨⟨k,h0,h1,_,h2⟩,h3⟩=>⟨⟨k.toNat,by have:=h1 hn;omega,by rw[h2,Int.toNat_of_nonneg h0]⟩,h3⟩
theorem w41 (n:Int):Dv Tryz.prog 41 [I n] (fun g=>∃b:Bool,g=B b):=by
 refine Dv.of0 fun rc H=> ?_
 refine Z5 mxd i41 rfl (by simp) ?_;refine X0 ?_
 refine callS.dv (w42 n) ZZ ?_
 rintro _ ⟨k,h0,h1,h2,rfl⟩
 (refine V0 ?_)
 exact ⟨_,rfl⟩
theorem w106 (es:List GV) (ha:noAg es=true) (hl:0<es.length):Dv Tryz.prog 106 [.sl 1 es] (fun g=>g∈es):=by
 refine Dv.of0 fun rc H=> ?_
 have hA:=notAgg ha
 have hB:=notRaw ha
 refine Z5 mxd i106 rfl (by simp) ?_;refine X0 ?_
 refine callS.dv (w42 es.length) ZZ ?_
 rintro _ ⟨k,h0,h1,h2,rfl⟩
 obtain ⟨k,rfl⟩:=Int.eq_ofNat_of_zero_le h0
 (refine V1 (jO hA hB) ?_)
 all_goals try exact oF
 exact gM _
theorem w110 (es:List GV) (ha:noAg es=true) (hl:0<es.length):Dv Tryz.prog 110 [.sl 1 es] (fun g=>g∈es):=by
 refine Dv.of0 fun rc H=> ?_
 have hA:=notAgg ha
 have hB:=notRaw ha
 refine Z5 mxd i110 rfl (by simp) ?_;refine X0 ?_
 refine callS.dv (w42 es.length) ZZ ?_
 rintro _ ⟨k,h0,h1,h2,rfl⟩
 obtain ⟨k,rfl⟩:=Int.eq_ofNat_of_zero_le h0
 (refine V1 (jO hA hB) ?_)
 all_goals try exact oF
 exact gM _
end Go.Proofs.YtknbnefbgpnkgaaGreat
