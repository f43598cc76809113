/- The law FnInstances returns true whatever the input, and the input reads behind the call as before. No condition. -/
import Derived.Test.YtofcbmnplanmkaaDoorFin1
set_option maxHeartbeats 40000000
set_option linter.unusedSimpArgs false
set_option linter.unusedVariables false
namespace Go.Proofs.YtofcbmnplanmkaaDoor
open Go.Gh
open Nat (reduceEqDiff reduceLeDiff reduceAdd reduceLT)
open Int (reduceNe)
set_option maxRecDepth 20000
set_option linter.unusedSimpArgs false
set_option linter.unusedVariables false
open Go.Shelf
def Tryd.itoaL_ren:Go.Shelf.Ren:=⟨fun|171=>40|243=>53|246=>68|283=>80|284=>81|285=>82|286=>83|129=>90|317=>89|318=>91|319=>92|320=>93|337=>97|338=>98|n=>n,fun|3=>3|9=>9|2=>2|4=>4|171=>123|0=>0|53=>124|37=>22|5=>5|173=>127|212=>132|51=>133|20=>20|213=>134|46=>111|232=>140|233=>141|n=>n,fun|17=>0|18=>1|19=>2|n=>n⟩
theorem Tryd.itoaL:Go.Proofs.LaysM.n171 Tryd.prog Tryd.itoaL_ren:={
 mixed:=by kernel_rfl
 f129:=Tryd.func90.trans (congrArg some (by kernel_rfl))
 f171:=Tryd.func40.trans (congrArg some (by kernel_rfl))
 f243:=Tryd.func53.trans (congrArg some (by kernel_rfl))
 f246:=Tryd.func68.trans (congrArg some (by kernel_rfl))
 f283:=Tryd.func80.trans (congrArg some (by kernel_rfl))
 f284:=Tryd.func81.trans (congrArg some (by kernel_rfl))
 f285:=Tryd.func82.trans (congrArg some (by kernel_rfl))
 f286:=Tryd.func83.trans (congrArg some (by kernel_rfl))
 f317:=Tryd.func89.trans (congrArg some (by kernel_rfl))
 f318:=Tryd.func91.trans (congrArg some (by kernel_rfl))
 f319:=Tryd.func92.trans (congrArg some (by kernel_rfl))
 f320:=Tryd.func93.trans (congrArg some (by kernel_rfl))
 f337:=Tryd.func97.trans (congrArg some (by kernel_rfl))
 f338:=Tryd.func98.trans (congrArg some (by kernel_rfl))
 t0:=Tryd.underlying0
 a0:=Tryd.isAgg0
 z0:=Tryd.sizeOf0
 v0:=Tryd.zeroValue0
 t2:=Tryd.underlying2
 a2:=Tryd.isAgg2
 z2:=Tryd.sizeOf2
 v2:=Tryd.zeroValue2
 t3:=Tryd.underlying3
 a3:=Tryd.isAgg3
 z3:=Tryd.sizeOf3
 v3:=Tryd.zeroValue3
 t4:=Tryd.underlying4
 a4:=Tryd.isAgg4
 z4:=Tryd.sizeOf4
 v4:=Tryd.zeroValue4
 t5:=Tryd.underlying5
 a5:=Tryd.isAgg5
 z5:=Tryd.sizeOf5
 v5:=Tryd.zeroValue5
 t9:=Tryd.underlying9
 a9:=Tryd.isAgg9
 z9:=Tryd.sizeOf9
 v9:=Tryd.zeroValue9
 t20:=Tryd.underlying20
 a20:=Tryd.isAgg20
 z20:=Tryd.sizeOf20
 v20:=Tryd.zeroValue20
 t37:=Tryd.underlying22
 a37:=Tryd.isAgg22
 z37:=Tryd.sizeOf22
 v37:=Tryd.zeroValue22
 t46:=Tryd.underlying111
 a46:=Tryd.isAgg111
 z46:=Tryd.sizeOf111
 v46:=Tryd.zeroValue111
 t51:=Tryd.underlying133
 a51:=Tryd.isAgg133
 z51:=Tryd.sizeOf133
 v51:=Tryd.zeroValue133
 t53:=Tryd.underlying124
 a53:=Tryd.isAgg124
 z53:=Tryd.sizeOf124
 v53:=Tryd.zeroValue124
 t171:=Tryd.underlying123
 a171:=Tryd.isAgg123
 z171:=Tryd.sizeOf123
 v171:=Tryd.zeroValue123
 t173:=Tryd.underlying127
 a173:=Tryd.isAgg127
 z173:=Tryd.sizeOf127
 v173:=Tryd.zeroValue127
 t212:=Tryd.underlying132
 a212:=Tryd.isAgg132
 z212:=Tryd.sizeOf132
 v212:=Tryd.zeroValue132
 t213:=Tryd.underlying134
 a213:=Tryd.isAgg134
 z213:=Tryd.sizeOf134
 t232:=Tryd.underlying140
 a232:=Tryd.isAgg140
 z232:=Tryd.sizeOf140
 v232:=Tryd.zeroValue140
 t233:=Tryd.underlying141
 a233:=Tryd.isAgg141
 z233:=Tryd.sizeOf141
 v233:=Tryd.zeroValue141
 g17:=by kernel_rfl
 g18:=by kernel_rfl
 g19:=by kernel_rfl
 i0:=by kernel_rfl
 i2:=by kernel_rfl
 i3:=by kernel_rfl
 i4:=by kernel_rfl
 i5:=by kernel_rfl
 i9:=by kernel_rfl
 i20:=by kernel_rfl
 i37:=by kernel_rfl
 i46:=by kernel_rfl
 i51:=by kernel_rfl
 i53:=by kernel_rfl
 i171:=by kernel_rfl
 i173:=by kernel_rfl
 i212:=by kernel_rfl
 i232:=by kernel_rfl
 i233:=by kernel_rfl
 m17:=by kernel_rfl
 m18:=by kernel_rfl
 m19:=by kernel_rfl }
end Go.Proofs.YtofcbmnplanmkaaDoor
namespace Go.Proofs.YtofcbmnplanmkaaDoor
open Go.Gh
open Nat (reduceEqDiff reduceLeDiff reduceAdd reduceLT)
open Int (reduceNe)
set_option maxRecDepth 20000
set_option linter.unusedSimpArgs false
set_option linter.unusedVariables false
open Go.Shelf Go.RowKit Go.Lib Go.Sort
theorem Tryd.gp10:Tryd.prog.globalNamed "internal/strconv.uint64pow10" = some 0:=by kernel_rfl
theorem p40 (n:Int) (h0 : -9223372036854775808≤n) (h1:n≤9223372036854775807):PureT Tryd.prog (tab10 0) 40 [I n] (· = .val (mkS (itoa n))):=by
 have eg:∀args w,(callFunc 40 args).run Tryd.prog w = .ok (.enter 40 args) w:=enters_of Tryd.func40 (by kernel_rfl) rfl
 refine itoa_ok (args:=fun n=> #[.int .i64 n]) (n:=n) Tryd.gp10 ?_ (fun w ht=>Any.strconv_Itoa Tryd.itoaL n h0 h1 w ht) eg
 intro w D vs h
 simp only [ML,MV] at h
 obtain ⟨v,vs',F1,F2,rfl,_,⟨rfl,_⟩,rfl,_⟩:=h
 rfl
theorem p26 (n:Int) (h0 : -9223372036854775808≤n) (h1:n≤9223372036854775807):PureT Tryd.prog (tab10 0) 26 [I n] (· = .val (mkS (itoa n))):=by
 refine ZR mxd i26 rfl (by simp) ?_;refine X0 ?_
 (refine V0 ?_;with_reducible repeat' first|exact trivial|intro h|refine aO ?_|refine eO ?_|apply jO)
 refine callS.eqT (p40 n h0 h1) (tabH_10 0) (fun _ h=>h) ?_
 (refine V0 ?_;with_reducible repeat' first|exact trivial|intro h|refine aO ?_|refine eO ?_|apply jO)
theorem w27 (n:Int) (h0 : -9223372036854775808≤n) (h1:n≤9223372036854775807):Pu 27 [I n] (· = .val (mkS (itoa n))):=by
 refine Pure.bor ?_
 by_cases hn:n=0
 ·subst hn
  rw [itoa_0]
  refine ZR mxd i27 rfl (by simp) ?_;refine X0 ?_
  (refine V0 ?_;with_reducible repeat' first|exact trivial|intro h|refine aO ?_|refine eO ?_|apply jO)
  exact .refl
 have hn':=eq_false hn
 rw [itoa_dgs hn]
 have hlen:=dgs_len (u:=n.natAbs) (by omega)
 refine ZR mxd i27 rfl (by simp) ?_;refine X0 ?_
 (refine V1 (jO hn' @decide_false) ?_;with_reducible repeat' first|exact trivial|intro h|refine aO ?_|refine eO ?_|apply jO)
 refine ploop mxd (ι:={ x:Int×List UInt8 // x.1.natAbs≤n.natAbs∧dgs x.1.natAbs++x.2=dgs n.natAbs }) (fun x=>[(0,I x.1.1),(3,B (decide (n<0))),(4,.val (mkS x.1.2))]) (fun _ => []) (fun x=>x.1.1.natAbs) ⟨(n,[]),by simp⟩ (by simp [E2]) (by simp [subH]) ?_
 rintro ⟨⟨m,out⟩,hm,ho⟩ -
 dsimp only at hm ho ⊢
 by_cases hm0:m=0
 ·have hm0':=eq_true hm0
  subst hm0
  have ho':out=dgs n.natAbs:=by rw [←ho];simp [dgs]
  subst ho'
  by_cases hneg:n<0
  ·have hneg':=eq_true hneg
   (refine V1 (jO hneg' @decide_true) ?_;with_reducible repeat' first|exact trivial|intro h|refine aO ?_|refine eO ?_|apply jO)
   all_goals try exact oF
   all_goals first|exact .refl | (simp;omega)
  ·have hneg':=eq_false hneg
   (refine V1 (jO hneg' @decide_false) ?_;with_reducible repeat' first|exact trivial|intro h|refine aO ?_|refine eO ?_|apply jO)
   all_goals try exact oF
   exact .refl
 ·have hm0':=eq_false hm0
  have hs:=dgs_step (u:=m.natAbs) (by omega) out
  have hol:out.length≤19:=by have:=congrArg List.length ho;simp at this;omega
  have h3:=tmod10 m
  have h4:=tdiv10 m
  by_cases hd:m.tmod 10<0
  ·have hd':=eq_true hd
   have e1:0-m.tmod 10=((m.natAbs % 10:Nat):Int):=by rw [if_pos hd] at h3;exact h3
   have e2:=digB _ (mod_lt10 m.natAbs)
   (refine V1 (jO hm0' (jO hd' (jO @decide_false @decide_true))) ?_;with_reducible repeat' first|exact trivial|intro h|refine aO ?_|refine eO ?_|apply jO)
   all_goals try exact oF
   ·simp;omega
   ·rw [e1,e2]
    refine px ⟨(m.tdiv 10,UInt8.ofNat (48+m.natAbs % 10)::out),by dsimp only;omega,by dsimp only;rw [h4,←hs,ho]⟩ (by dsimp only;omega) (by simp [E2]<;>rfl) (by simp [subH])
  ·have hd':=eq_false hd
   have e1:m.tmod 10=((m.natAbs % 10:Nat):Int):=by rw [if_neg hd] at h3;exact h3
   have e2:=digB _ (mod_lt10 m.natAbs)
   (refine V1 (jO hm0' (jO hd' (jO @decide_false @decide_true))) ?_;with_reducible repeat' first|exact trivial|intro h|refine aO ?_|refine eO ?_|apply jO)
   all_goals try exact oF
   ·simp;omega
   ·rw [e1,e2]
    refine px ⟨(m.tdiv 10,UInt8.ofNat (48+m.natAbs % 10)::out),by dsimp only;omega,by dsimp only;rw [h4,←hs,ho]⟩ (by dsimp only;omega) (by simp [E2]<;>rfl) (by simp [subH])
end Go.Proofs.YtofcbmnplanmkaaDoor
namespace Go.Proofs.YtofcbmnplanmkaaDoor
open Go.Gh
open Nat (reduceEqDiff reduceLeDiff reduceAdd reduceLT)
open Int (reduceNe)
set_option maxRecDepth 20000
set_option linter.unusedSimpArgs false
set_option linter.unusedVariables false
open Go.Lib
def fmtI (x:Oc):List UInt8:=35::(itoa x.1++46::ZP x.2)
theorem w14 (x:Oc) (h0 : -9223372036854775808≤x.1) (h1:x.1≤9223372036854775807) (hx:(ZP x.2).length ≤ 1048576):Pu 14 [Ins x] (· = .val (mkS (fmtI x))):=by
 have hl:=itoa_len h0 h1
 have hx':x.2.size≤1048576:=by rw [YZ];exact hx
 have hf:=w27 x.1 h0 h1
 unfold fmtI
 generalize itoa x.1=s at *
 refine ZR mxd i14 rfl (by simp) ?_;refine X0 ?_
 (refine V0 ?_;with_reducible repeat' first|exact trivial|intro h|refine aO ?_|refine eO ?_|apply jO)
 refine callS.eq hf ?_
 (refine V0 ?_;with_reducible repeat' first|exact trivial|intro h|refine aO ?_|refine eO ?_|apply jO)
 all_goals first|(exfalso;omega)|(simp;done)|(simp;omega)|(show GV.val (mkS ((([35]++s)++[46])++ZP x.2)) = _;simp)
theorem p13 (x:Oc) (h0 : -9223372036854775808≤x.1) (h1:x.1≤9223372036854775807) (hx:(ZP x.2).length ≤ 1048576):PureT Tryd.prog (tab10 0) 13 [Ins x] (· = .val (mkS (fmtI x))):=by
 have hl:=itoa_len h0 h1
 have hx':x.2.size≤1048576:=by rw [YZ];exact hx
 have hf:=p26 x.1 h0 h1
 unfold fmtI
 generalize itoa x.1=s at *
 refine ZR mxd i13 rfl (by simp) ?_;refine X0 ?_
 (refine V0 ?_;with_reducible repeat' first|exact trivial|intro h|refine aO ?_|refine eO ?_|apply jO)
 refine callS.eqT hf (tabH_10 0) (fun _ h=>h) ?_
 (refine V0 ?_;with_reducible repeat' first|exact trivial|intro h|refine aO ?_|refine eO ?_|apply jO)
 all_goals first|(exfalso;omega)|(simp;done)|(simp;omega)|(show GV.val (mkS ((([35]++s)++[46])++ZP x.2)) = _;simp)
end Go.Proofs.YtofcbmnplanmkaaDoor
