/- The law FnExactSubtreeSize returns true whatever the input, and the input reads behind the call as before. No condition. -/
import Derived.Test.YtpnkabohkmabmaaLib2
import Derived.Test.YtpnkabohkmabmaaRows
import Derived.Test.YtpnkabohkmabmaaChecked
import Derived.KernelRfl
namespace Go.Proofs.Ytpnkabohkmabmaa
open Go.Gh

def g5 : GFun := ⟨⟨31, [2,7]⟩,
  (.seq (.reg [(.mk (some 2) none (.boxro 1 (.t 0))), (.mk (some 4) none (.mov (.k (.val (.bool false)))))]) (.seq (.reg [(.mk (some 5) none (.mov (.k (.val (.int .i64 1048576)))))]) (.seq (.reg [(.mk (some 9) none
  (.load 1 true (.t 2))), (.mk (some 10) none (.mov (.t 5))), (.mk (some 11) none (.call false 21 [(.t 9), (.t 10)])), (.mk (some 5) none (.mov (.t 11)))]) (.seq (.seq (.reg [(.mk (some 12) none (.mov (.t 5))), (.mk
  (some 13) none (.bin .lss (.t 12) (.k (.val (.int .i64 0)))))]) (.cond 13 (.seq (.reg [(.mk (some 4) none (.mov (.k (.val (.bool true)))))]) .ret) .skip)) (.seq (.reg [(.mk (some 14) none (.load 1 true (.t 2))), (.mk
  (some 15) none (.call false 23 [(.t 14)])), (.mk (some 16) none (.mov (.t 1))), (.mk (some 17) none (.call false 26 [(.t 15), (.t 16)])), (.mk (some 6) none (.mov (.t 17)))]) (.seq (.reg [(.mk (some 18) none (.load 1
  true (.t 2))), (.mk (some 19) none (.call false 23 [(.t 18)])), (.mk (some 7) none (.allocr 1)), (.mk (some 7) none (.stro 1 7 (.t 19)))]) (.seq (.reg [(.mk (some 20) none (.load 1 true (.t 7))), (.mk (some 21) none
  (.mov (.t 1))), (.mk (some 22) none (.call false 27 [(.t 20), (.t 21)])), (.mk (some 8) none (.mov (.t 22)))]) (.seq (.seq (.reg [(.mk (some 23) none (.mov (.t 8))), (.mk (some 24) none (.mov (.t 6))), (.mk (some 25)
  none (.bin .neq (.t 23) (.t 24)))]) (.cond 25 (.seq (.reg [(.mk (some 4) none (.mov (.k (.val (.bool false)))))]) .ret) .skip)) (.seq (.seq (.reg [(.mk (some 26) none (.load 1 true (.t 7))), (.mk (some 27) none (.load
  1 true (.t 2))), (.mk (some 28) none (.call true 23 [(.t 27)])), (.mk (some 29) none (.call true 25 [(.t 26), (.t 28)])), (.mk (some 30) none (.not (.t 29)))]) (.cond 30 (.seq (.reg [(.mk (some 4) none (.mov (.k (.val
  (.bool false)))))]) .ret) .skip)) (.seq (.reg [(.mk (some 4) none (.mov (.k (.val (.bool true)))))]) .ret)))))))))),
  [(.t 4)]⟩
theorem i5 : IsFun Try.prog 5 g5 := ⟨Try.f5, _, [], Try.func5, by kernel_rfl, rfl, by kernel_rfl, by kernel_rfl, rfl⟩

def g21 : GFun := ⟨⟨12, [2]⟩,
  (.seq (.reg [(.mk (some 2) none (.boxro 1 (.t 0))), (.mk (some 4) none (.mov (.k (.val (.int .i64 0)))))]) (.seq (.reg [(.mk (some 5) none (.faddr 0 1 false (.t 2))), (.mk (some 6) none (.load 1 false (.t 5))), (.mk
  (some 7) none (.mov (.t 1))), (.mk (some 8) none (.call false 56 [(.t 6), (.t 7)])), (.mk (some 1) none (.mov (.t 8)))]) (.seq (.seq (.reg [(.mk (some 9) none (.mov (.t 1))), (.mk (some 10) none (.bin .lss (.t 9) (.k
  (.val (.int .i64 0)))))]) (.cond 10 (.seq (.reg [(.mk (some 4) none (.mov (.k (.val (.int .i64 (-1))))))]) .ret) .skip)) (.seq (.reg [(.mk (some 11) none (.mov (.t 1))), (.mk (some 4) none (.mov (.t 11)))]) .ret)))),
  [(.t 4)]⟩
theorem i21 : IsFun Try.prog 21 g21 := ⟨Try.f21, _, [], Try.func21, by kernel_rfl, rfl, by kernel_rfl, by kernel_rfl, rfl⟩

def g23 : GFun := ⟨⟨9, [1,2]⟩,
  (.seq (.reg [(.mk (some 1) none (.boxro 1 (.t 0))), (.mk (some 2) none (.allocr 1))]) (.seq (.reg [(.mk (some 3) none (.alloc 1 (.agg [(.val (.slice none 0 0))])))]) (.seq (.reg [(.mk (some 4) none (.faddr 0 1 false
  (.t 1))), (.mk (some 5) none (.load 1 false (.t 4))), (.mk (some 6) none (.call false 57 [(.t 5)])), (.mk (some 7) none (.faddr 0 1 false (.t 3))), (.mk none none (.store 1 (.t 7) (.t 6)))]) (.seq (.reg [(.mk (some 8)
  none (.load 1 true (.t 3))), (.mk (some 2) none (.stro 1 2 (.t 8)))]) .ret)))),
  [(.c 2 1 true)]⟩
theorem i23 : IsFun Try.prog 23 g23 := ⟨Try.f23, _, [], Try.func23, by kernel_rfl, rfl, by kernel_rfl, by kernel_rfl, rfl⟩

def g25 : GFun := ⟨⟨11, [2,3]⟩,
  (.seq (.reg [(.mk (some 2) none (.boxro 1 (.t 0))), (.mk (some 3) none (.boxro 1 (.t 1))), (.mk (some 4) none (.mov (.k (.val (.bool false)))))]) (.seq (.seq (.reg [(.mk (some 5) none (.faddr 0 1 false (.t 2))), (.mk
  (some 6) none (.load 1 false (.t 5))), (.mk (some 7) none (.faddr 0 1 false (.t 3))), (.mk (some 8) none (.load 1 false (.t 7))), (.mk (some 9) none (.call false 60 [(.t 6), (.t 8)])), (.mk (some 10) none (.not (.t
  9)))]) (.cond 10 (.seq (.reg [(.mk (some 4) none (.mov (.k (.val (.bool false)))))]) .ret) .skip)) (.seq (.reg [(.mk (some 4) none (.mov (.k (.val (.bool true)))))]) .ret))),
  [(.t 4)]⟩
theorem i25 : IsFun Try.prog 25 g25 := ⟨Try.f25, _, [], Try.func25, by kernel_rfl, rfl, by kernel_rfl, by kernel_rfl, rfl⟩

def g26 : GFun := ⟨⟨35, [2]⟩,
  (.seq (.reg [(.mk (some 2) none (.boxro 1 (.t 0))), (.mk (some 4) none (.mov (.k (.val (.int .i64 0)))))]) (.seq (.seq (.reg [(.mk (some 6) none (.mov (.t 1))), (.mk (some 7) none (.faddr 0 1 false (.t 2))), (.mk
  (some 8) none (.load 1 false (.t 7))), (.mk (some 9) none (.len (.t 8))), (.mk (some 10) none (.bin .sub (.t 9) (.k (.val (.int .i64 1))))), (.mk (some 11) none (.call false 61 [(.t 6), (.k (.val (.int .i64 0))), (.t
  10)])), (.mk (some 12) none (.not (.t 11)))]) (.cond 12 (.seq (.reg [(.mk (some 4) none (.mov (.k (.val (.int .i64 0)))))]) .ret) .skip)) (.seq (.reg [(.mk (some 13) none (.mov (.t 1))), (.mk (some 14) none (.bin .add
  (.t 13) (.k (.val (.int .i64 1))))), (.mk (some 5) none (.mov (.t 14)))]) (.seq (.block 0 (.loop (.seq (.seq (.reg [(.mk (some 15) none (.mov (.t 5))), (.mk (some 16) none (.faddr 0 1 false (.t 2))), (.mk (some 17)
  none (.load 1 false (.t 16))), (.mk (some 18) none (.len (.t 17))), (.mk (some 19) none (.bin .lss (.t 15) (.t 18))), (.mk (some 20) none (.mov (.t 19))), (.mk (some 21) (some (20, true)) (.faddr 0 1 false (.t 2))),
  (.mk (some 22) (some (20, true)) (.load 1 false (.t 21))), (.mk (some 23) (some (20, true)) (.mov (.t 5))), (.mk (some 24) (some (20, true)) (.iaddr 6 (.t 22) (.t 23))), (.mk (some 25) (some (20, true)) (.faddr 1 1
  false (.t 24))), (.mk (some 26) (some (20, true)) (.load 1 false (.t 25))), (.mk (some 27) (some (20, true)) (.mov (.t 1))), (.mk (some 28) (some (20, true)) (.bin .geq (.t 26) (.t 27))), (.mk (some 29) none (.pick
  (.t 20) (.t 28) (.k (.val (.bool false)))))]) (.cond 29 .skip (.exit 0))) (.block 1 (.reg [(.mk (some 30) none (.mov (.t 5))), (.mk (some 31) none (.bin .add (.t 30) (.k (.val (.int .i64 1))))), (.mk (some 5) none
  (.mov (.t 31)))]))))) (.seq (.reg [(.mk (some 32) none (.mov (.t 5))), (.mk (some 33) none (.mov (.t 1))), (.mk (some 34) none (.bin .sub (.t 32) (.t 33))), (.mk (some 4) none (.mov (.t 34)))]) .ret))))),
  [(.t 4)]⟩
theorem i26 : IsFun Try.prog 26 g26 := ⟨Try.f26, _, [], Try.func26, by kernel_rfl, rfl, by kernel_rfl, by kernel_rfl, rfl⟩

def g27 : GFun := ⟨⟨32, [2]⟩,
  (.seq (.reg [(.mk (some 2) none (.boxro 1 (.t 0))), (.mk (some 4) none (.mov (.k (.val (.int .i64 0)))))]) (.seq (.seq (.reg [(.mk (some 6) none (.load 1 true (.t 2))), (.mk (some 7) none (.mov (.t 1))), (.mk (some 8)
  none (.call false 62 [(.t 6), (.t 7)])), (.mk (some 9) none (.not (.t 8)))]) (.cond 9 (.seq (.reg [(.mk (some 4) none (.mov (.k (.val (.int .i64 0)))))]) .ret) .skip)) (.seq (.reg [(.mk (some 10) none (.mov (.t 1))),
  (.mk (some 11) none (.bin .add (.t 10) (.k (.val (.int .i64 1))))), (.mk (some 5) none (.mov (.t 11)))]) (.seq (.block 0 (.loop (.seq (.seq (.reg [(.mk (some 12) none (.mov (.t 5))), (.mk (some 13) none (.faddr 0 1
  false (.t 2))), (.mk (some 14) none (.load 1 false (.t 13))), (.mk (some 15) none (.len (.t 14))), (.mk (some 16) none (.bin .lss (.t 12) (.t 15))), (.mk (some 17) none (.mov (.t 16))), (.mk (some 18) (some (17,
  true)) (.faddr 0 1 false (.t 2))), (.mk (some 19) (some (17, true)) (.load 1 false (.t 18))), (.mk (some 20) (some (17, true)) (.mov (.t 5))), (.mk (some 21) (some (17, true)) (.iaddr 6 (.t 19) (.t 20))), (.mk (some
  22) (some (17, true)) (.faddr 1 1 false (.t 21))), (.mk (some 23) (some (17, true)) (.load 1 false (.t 22))), (.mk (some 24) (some (17, true)) (.mov (.t 1))), (.mk (some 25) (some (17, true)) (.bin .geq (.t 23) (.t
  24))), (.mk (some 26) none (.pick (.t 17) (.t 25) (.k (.val (.bool false)))))]) (.cond 26 .skip (.exit 0))) (.block 1 (.reg [(.mk (some 27) none (.mov (.t 5))), (.mk (some 28) none (.bin .add (.t 27) (.k (.val (.int
  .i64 1))))), (.mk (some 5) none (.mov (.t 28)))]))))) (.seq (.reg [(.mk (some 29) none (.mov (.t 5))), (.mk (some 30) none (.mov (.t 1))), (.mk (some 31) none (.bin .sub (.t 29) (.t 30))), (.mk (some 4) none (.mov (.t
  31)))]) .ret))))),
  [(.t 4)]⟩
theorem i27 : IsFun Try.prog 27 g27 := ⟨Try.f27, _, [], Try.func27, by kernel_rfl, rfl, by kernel_rfl, by kernel_rfl, rfl⟩

def g36 : GFun := ⟨⟨26, []⟩,
  (.seq (.reg [(.mk (some 4) none (.mov (.k (.val (.bool false)))))]) (.seq (.seq (.reg [(.mk (some 6) none (.mov (.t 0))), (.mk (some 7) none (.len (.t 6))), (.mk (some 8) none (.mov (.t 1))), (.mk (some 9) none (.len
  (.t 8))), (.mk (some 10) none (.bin .neq (.t 7) (.t 9)))]) (.cond 10 (.seq (.reg [(.mk (some 4) none (.mov (.k (.val (.bool false)))))]) .ret) .skip)) (.seq (.seq (.reg [(.mk (some 5) none (.mov (.k (.val (.int .i64
  0)))))]) (.block 0 (.loop (.seq (.seq (.reg [(.mk (some 11) none (.mov (.t 5))), (.mk (some 12) none (.mov (.t 0))), (.mk (some 13) none (.len (.t 12))), (.mk (some 14) none (.bin .lss (.t 11) (.t 13)))]) (.cond 14
  .skip (.exit 0))) (.seq (.block 1 (.seq (.reg [(.mk (some 17) none (.mov (.t 0))), (.mk (some 18) none (.mov (.t 5))), (.mk (some 19) none (.iaddr 1 (.t 17) (.t 18))), (.mk (some 21) none (.mov (.t 1))), (.mk (some
  22) none (.mov (.t 5))), (.mk (some 23) none (.iaddr 1 (.t 21) (.t 22))), (.mk (some 20) none (.load 1 false (.t 19))), (.mk (some 24) none (.load 1 false (.t 23))), (.mk (some 25) none (.bin .neq (.t 20) (.t 24)))])
  (.cond 25 (.seq (.reg [(.mk (some 4) none (.mov (.k (.val (.bool false)))))]) .ret) .skip))) (.reg [(.mk (some 15) none (.mov (.t 5))), (.mk (some 16) none (.bin .add (.t 15) (.k (.val (.int .i64 1))))), (.mk (some 5)
  none (.mov (.t 16)))])))))) (.seq (.reg [(.mk (some 4) none (.mov (.k (.val (.bool true)))))]) .ret)))),
  [(.t 4)]⟩
theorem i36 : IsFun Try.prog 36 g36 := ⟨Try.f36, _, [], Try.func36, by kernel_rfl, rfl, by kernel_rfl, by kernel_rfl, rfl⟩

def g51 : GFun := ⟨⟨22, []⟩,
  (.seq (.reg [(.mk (some 2) none (.mov (.k (.val (.slice none 0 0)))))]) (.seq (.reg [(.mk (some 5) none (.mov (.t 0))), (.mk (some 6) none (.len (.t 5))), (.mk (some 7) none (.mkslice 1 8 (.val (.int .i64 0)) (.t 6)
  (.t 6))), (.mk (some 3) none (.mov (.t 7)))]) (.seq (.seq (.reg [(.mk (some 4) none (.mov (.k (.val (.int .i64 0)))))]) (.block 0 (.loop (.seq (.seq (.reg [(.mk (some 8) none (.mov (.t 4))), (.mk (some 9) none (.mov
  (.t 0))), (.mk (some 10) none (.len (.t 9))), (.mk (some 11) none (.bin .lss (.t 8) (.t 10)))]) (.cond 11 .skip (.exit 0))) (.seq (.block 1 (.reg [(.mk (some 14) none (.mov (.t 3))), (.mk (some 15) none (.mov (.t
  4))), (.mk (some 16) none (.mov (.t 0))), (.mk (some 17) none (.mov (.t 4))), (.mk (some 18) none (.iaddr 1 (.t 16) (.t 17))), (.mk (some 19) none (.load 1 false (.t 18))), (.mk (some 20) none (.iaddr 1 (.t 14) (.t
  15))), (.mk none none (.store 1 (.t 20) (.t 19)))])) (.reg [(.mk (some 12) none (.mov (.t 4))), (.mk (some 13) none (.bin .add (.t 12) (.k (.val (.int .i64 1))))), (.mk (some 4) none (.mov (.t 13)))])))))) (.seq (.reg
  [(.mk (some 21) none (.mov (.t 3))), (.mk (some 2) none (.mov (.t 21)))]) .ret)))),
  [(.t 2)]⟩
theorem i51 : IsFun Try.prog 51 g51 := ⟨Try.f51, _, [], Try.func51, by kernel_rfl, rfl, by kernel_rfl, by kernel_rfl, rfl⟩

def g56 : GFun := ⟨⟨27, []⟩,
  (.seq (.reg [(.mk (some 4) none (.mov (.k (.val (.int .i64 0)))))]) (.seq (.reg [(.mk (some 6) none (.mov (.t 1))), (.mk (some 7) none (.mov (.t 0))), (.mk (some 8) none (.len (.t 7))), (.mk (some 9) none (.bin .sub
  (.t 6) (.t 8))), (.mk (some 1) none (.mov (.t 9)))]) (.seq (.seq (.reg [(.mk (some 10) none (.mov (.t 1))), (.mk (some 11) none (.bin .lss (.t 10) (.k (.val (.int .i64 0)))))]) (.cond 11 (.seq (.reg [(.mk (some 4)
  none (.mov (.k (.val (.int .i64 (-1))))))]) .ret) .skip)) (.seq (.seq (.reg [(.mk (some 5) none (.mov (.k (.val (.int .i64 0)))))]) (.block 0 (.loop (.seq (.seq (.reg [(.mk (some 12) none (.mov (.t 5))), (.mk (some
  13) none (.mov (.t 0))), (.mk (some 14) none (.len (.t 13))), (.mk (some 15) none (.bin .lss (.t 12) (.t 14)))]) (.cond 15 .skip (.exit 0))) (.seq (.block 1 (.seq (.reg [(.mk (some 18) none (.mov (.t 0))), (.mk (some
  19) none (.mov (.t 5))), (.mk (some 20) none (.iaddr 6 (.t 18) (.t 19))), (.mk (some 21) none (.load 6 true (.t 20))), (.mk (some 22) none (.mov (.t 1))), (.mk (some 23) none (.call false 89 [(.t 21), (.t 22)])), (.mk
  (some 1) none (.mov (.t 23)))]) (.seq (.reg [(.mk (some 24) none (.mov (.t 1))), (.mk (some 25) none (.bin .lss (.t 24) (.k (.val (.int .i64 0)))))]) (.cond 25 (.seq (.reg [(.mk (some 4) none (.mov (.k (.val (.int
  .i64 (-1))))))]) .ret) .skip)))) (.reg [(.mk (some 16) none (.mov (.t 5))), (.mk (some 17) none (.bin .add (.t 16) (.k (.val (.int .i64 1))))), (.mk (some 5) none (.mov (.t 17)))])))))) (.seq (.reg [(.mk (some 26)
  none (.mov (.t 1))), (.mk (some 4) none (.mov (.t 26)))]) .ret))))),
  [(.t 4)]⟩
theorem i56 : IsFun Try.prog 56 g56 := ⟨Try.f56, _, [], Try.func56, by kernel_rfl, rfl, by kernel_rfl, by kernel_rfl, rfl⟩

def g57 : GFun := ⟨⟨23, []⟩,
  (.seq (.reg [(.mk (some 2) none (.mov (.k (.val (.slice none 0 0)))))]) (.seq (.reg [(.mk (some 5) none (.mov (.t 0))), (.mk (some 6) none (.len (.t 5))), (.mk (some 7) none (.mkslice 6 72 (.agg [(.val (.int .i64 0)),
  (.val (.int .i64 0)), (.val (.int .i64 0)), (.val (.int .i64 0)), (.val (.string (ByteArray.mk #[]))), (.val (.slice none 0 0))]) (.t 6) (.t 6))), (.mk (some 3) none (.mov (.t 7)))]) (.seq (.seq (.reg [(.mk (some 4)
  none (.mov (.k (.val (.int .i64 0)))))]) (.block 0 (.loop (.seq (.seq (.reg [(.mk (some 8) none (.mov (.t 4))), (.mk (some 9) none (.mov (.t 0))), (.mk (some 10) none (.len (.t 9))), (.mk (some 11) none (.bin .lss (.t
  8) (.t 10)))]) (.cond 11 .skip (.exit 0))) (.seq (.block 1 (.reg [(.mk (some 14) none (.mov (.t 3))), (.mk (some 15) none (.mov (.t 4))), (.mk (some 16) none (.mov (.t 0))), (.mk (some 17) none (.mov (.t 4))), (.mk
  (some 18) none (.iaddr 6 (.t 16) (.t 17))), (.mk (some 19) none (.load 6 true (.t 18))), (.mk (some 20) none (.call false 90 [(.t 19)])), (.mk (some 21) none (.iaddr 6 (.t 14) (.t 15))), (.mk none none (.store 6 (.t
  21) (.t 20)))])) (.reg [(.mk (some 12) none (.mov (.t 4))), (.mk (some 13) none (.bin .add (.t 12) (.k (.val (.int .i64 1))))), (.mk (some 4) none (.mov (.t 13)))])))))) (.seq (.reg [(.mk (some 22) none (.mov (.t
  3))), (.mk (some 2) none (.mov (.t 22)))]) .ret)))),
  [(.t 2)]⟩
theorem i57 : IsFun Try.prog 57 g57 := ⟨Try.f57, _, [], Try.func57, by kernel_rfl, rfl, by kernel_rfl, by kernel_rfl, rfl⟩

def g60 : GFun := ⟨⟨27, []⟩,
  (.seq (.reg [(.mk (some 4) none (.mov (.k (.val (.bool false)))))]) (.seq (.seq (.reg [(.mk (some 6) none (.mov (.t 0))), (.mk (some 7) none (.len (.t 6))), (.mk (some 8) none (.mov (.t 1))), (.mk (some 9) none (.len
  (.t 8))), (.mk (some 10) none (.bin .neq (.t 7) (.t 9)))]) (.cond 10 (.seq (.reg [(.mk (some 4) none (.mov (.k (.val (.bool false)))))]) .ret) .skip)) (.seq (.seq (.reg [(.mk (some 5) none (.mov (.k (.val (.int .i64
  0)))))]) (.block 0 (.loop (.seq (.seq (.reg [(.mk (some 11) none (.mov (.t 5))), (.mk (some 12) none (.mov (.t 0))), (.mk (some 13) none (.len (.t 12))), (.mk (some 14) none (.bin .lss (.t 11) (.t 13)))]) (.cond 14
  .skip (.exit 0))) (.seq (.block 1 (.seq (.reg [(.mk (some 17) none (.mov (.t 0))), (.mk (some 18) none (.mov (.t 5))), (.mk (some 19) none (.iaddr 6 (.t 17) (.t 18))), (.mk (some 21) none (.mov (.t 1))), (.mk (some
  22) none (.mov (.t 5))), (.mk (some 23) none (.iaddr 6 (.t 21) (.t 22))), (.mk (some 20) none (.load 6 true (.t 19))), (.mk (some 24) none (.load 6 true (.t 23))), (.mk (some 25) none (.call true 91 [(.t 20), (.t
  24)])), (.mk (some 26) none (.not (.t 25)))]) (.cond 26 (.seq (.reg [(.mk (some 4) none (.mov (.k (.val (.bool false)))))]) .ret) .skip))) (.reg [(.mk (some 15) none (.mov (.t 5))), (.mk (some 16) none (.bin .add (.t
  15) (.k (.val (.int .i64 1))))), (.mk (some 5) none (.mov (.t 16)))])))))) (.seq (.reg [(.mk (some 4) none (.mov (.k (.val (.bool true)))))]) .ret)))),
  [(.t 4)]⟩
theorem i60 : IsFun Try.prog 60 g60 := ⟨Try.f60, _, [], Try.func60, by kernel_rfl, rfl, by kernel_rfl, by kernel_rfl, rfl⟩

def g61 : GFun := ⟨⟨15, []⟩,
  (.seq (.reg [(.mk (some 6) none (.mov (.k (.val (.bool false)))))]) (.seq (.reg [(.mk (some 7) none (.mov (.t 0))), (.mk (some 8) none (.mov (.t 1))), (.mk (some 9) none (.bin .geq (.t 7) (.t 8))), (.mk (some 10) none
  (.mov (.t 9))), (.mk (some 11) (some (10, true)) (.mov (.t 0))), (.mk (some 12) (some (10, true)) (.mov (.t 2))), (.mk (some 13) (some (10, true)) (.bin .leq (.t 11) (.t 12))), (.mk (some 14) none (.pick (.t 10) (.t
  13) (.k (.val (.bool false))))), (.mk (some 6) none (.mov (.t 14)))]) .ret)),
  [(.t 6)]⟩
theorem i61 : IsFun Try.prog 61 g61 := ⟨Try.f61, _, [], Try.func61, by kernel_rfl, rfl, by kernel_rfl, by kernel_rfl, rfl⟩

def g62 : GFun := ⟨⟨11, [2]⟩,
  (.seq (.reg [(.mk (some 2) none (.boxro 1 (.t 0))), (.mk (some 4) none (.mov (.k (.val (.bool false)))))]) (.seq (.reg [(.mk (some 5) none (.mov (.t 1))), (.mk (some 6) none (.faddr 0 1 false (.t 2))), (.mk (some 7)
  none (.load 1 false (.t 6))), (.mk (some 8) none (.len (.t 7))), (.mk (some 9) none (.bin .sub (.t 8) (.k (.val (.int .i64 1))))), (.mk (some 10) none (.call false 74 [(.t 5), (.k (.val (.int .i64 0))), (.t 9)])),
  (.mk (some 4) none (.mov (.t 10)))]) .ret)),
  [(.t 4)]⟩
theorem i62 : IsFun Try.prog 62 g62 := ⟨Try.f62, _, [], Try.func62, by kernel_rfl, rfl, by kernel_rfl, by kernel_rfl, rfl⟩

def g74 : GFun := ⟨⟨15, []⟩,
  (.seq (.reg [(.mk (some 6) none (.mov (.k (.val (.bool false)))))]) (.seq (.reg [(.mk (some 7) none (.mov (.t 0))), (.mk (some 8) none (.mov (.t 1))), (.mk (some 9) none (.bin .geq (.t 7) (.t 8))), (.mk (some 10) none
  (.mov (.t 9))), (.mk (some 11) (some (10, true)) (.mov (.t 0))), (.mk (some 12) (some (10, true)) (.mov (.t 2))), (.mk (some 13) (some (10, true)) (.bin .leq (.t 11) (.t 12))), (.mk (some 14) none (.pick (.t 10) (.t
  13) (.k (.val (.bool false))))), (.mk (some 6) none (.mov (.t 14)))]) .ret)),
  [(.t 6)]⟩
theorem i74 : IsFun Try.prog 74 g74 := ⟨Try.f74, _, [], Try.func74, by kernel_rfl, rfl, by kernel_rfl, by kernel_rfl, rfl⟩

def g89 : GFun := ⟨⟨19, [2]⟩,
  (.seq (.reg [(.mk (some 2) none (.boxro 6 (.t 0))), (.mk (some 4) none (.mov (.k (.val (.int .i64 0)))))]) (.seq (.reg [(.mk (some 5) none (.mov (.t 1))), (.mk (some 6) none (.faddr 4 1 false (.t 2))), (.mk (some 7)
  none (.load 1 false (.t 6))), (.mk (some 8) none (.slen (.t 7))), (.mk (some 9) none (.bin .sub (.t 5) (.t 8))), (.mk (some 1) none (.mov (.t 9)))]) (.seq (.seq (.reg [(.mk (some 10) none (.mov (.t 1))), (.mk (some
  11) none (.bin .lss (.t 10) (.k (.val (.int .i64 0)))))]) (.cond 11 (.seq (.reg [(.mk (some 4) none (.mov (.k (.val (.int .i64 (-1))))))]) .ret) .skip)) (.seq (.reg [(.mk (some 12) none (.faddr 5 1 false (.t 2))),
  (.mk (some 13) none (.load 1 false (.t 12))), (.mk (some 14) none (.mov (.t 1))), (.mk (some 15) none (.call false 109 [(.t 13), (.t 14)])), (.mk (some 1) none (.mov (.t 15)))]) (.seq (.seq (.reg [(.mk (some 16) none
  (.mov (.t 1))), (.mk (some 17) none (.bin .lss (.t 16) (.k (.val (.int .i64 0)))))]) (.cond 17 (.seq (.reg [(.mk (some 4) none (.mov (.k (.val (.int .i64 (-1))))))]) .ret) .skip)) (.seq (.reg [(.mk (some 18) none
  (.mov (.t 1))), (.mk (some 4) none (.mov (.t 18)))]) .ret)))))),
  [(.t 4)]⟩
theorem i89 : IsFun Try.prog 89 g89 := ⟨Try.f89, _, [], Try.func89, by kernel_rfl, rfl, by kernel_rfl, by kernel_rfl, rfl⟩

def g90 : GFun := ⟨⟨24, [1,2]⟩,
  (.seq (.reg [(.mk (some 1) none (.boxro 6 (.t 0))), (.mk (some 2) none (.allocr 6))]) (.seq (.reg [(.mk (some 3) none (.alloc 6 (.agg [(.val (.int .i64 0)), (.val (.int .i64 0)), (.val (.int .i64 0)), (.val (.int .i64
  0)), (.val (.string (ByteArray.mk #[]))), (.val (.slice none 0 0))])))]) (.seq (.reg [(.mk (some 4) none (.faddr 0 1 false (.t 1))), (.mk (some 5) none (.load 1 false (.t 4))), (.mk (some 6) none (.faddr 0 1 false (.t
  3))), (.mk none none (.store 1 (.t 6) (.t 5)))]) (.seq (.reg [(.mk (some 7) none (.faddr 1 1 false (.t 1))), (.mk (some 8) none (.load 1 false (.t 7))), (.mk (some 9) none (.faddr 1 1 false (.t 3))), (.mk none none
  (.store 1 (.t 9) (.t 8)))]) (.seq (.reg [(.mk (some 10) none (.faddr 2 1 false (.t 1))), (.mk (some 11) none (.load 1 false (.t 10))), (.mk (some 12) none (.faddr 2 1 false (.t 3))), (.mk none none (.store 1 (.t 12)
  (.t 11)))]) (.seq (.reg [(.mk (some 13) none (.faddr 3 1 false (.t 1))), (.mk (some 14) none (.load 1 false (.t 13))), (.mk (some 15) none (.faddr 3 1 false (.t 3))), (.mk none none (.store 1 (.t 15) (.t 14)))]) (.seq
  (.reg [(.mk (some 16) none (.faddr 4 1 false (.t 1))), (.mk (some 17) none (.load 1 false (.t 16))), (.mk (some 18) none (.faddr 4 1 false (.t 3))), (.mk none none (.store 1 (.t 18) (.t 17)))]) (.seq (.reg [(.mk (some
  19) none (.faddr 5 1 false (.t 1))), (.mk (some 20) none (.load 1 false (.t 19))), (.mk (some 21) none (.call false 51 [(.t 20)])), (.mk (some 22) none (.faddr 5 1 false (.t 3))), (.mk none none (.store 1 (.t 22) (.t
  21)))]) (.seq (.reg [(.mk (some 23) none (.load 6 true (.t 3))), (.mk (some 2) none (.stro 6 2 (.t 23)))]) .ret))))))))),
  [(.c 2 6 true)]⟩
theorem i90 : IsFun Try.prog 90 g90 := ⟨Try.f90, _, [], Try.func90, by kernel_rfl, rfl, by kernel_rfl, by kernel_rfl, rfl⟩

def g91 : GFun := ⟨⟨36, [2,3]⟩,
  (.seq (.reg [(.mk (some 2) none (.boxro 6 (.t 0))), (.mk (some 3) none (.boxro 6 (.t 1))), (.mk (some 4) none (.mov (.k (.val (.bool false)))))]) (.seq (.seq (.reg [(.mk (some 5) none (.faddr 0 1 false (.t 2))), (.mk
  (some 6) none (.load 1 false (.t 5))), (.mk (some 7) none (.faddr 0 1 false (.t 3))), (.mk (some 8) none (.load 1 false (.t 7))), (.mk (some 9) none (.bin .neq (.t 6) (.t 8)))]) (.cond 9 (.seq (.reg [(.mk (some 4)
  none (.mov (.k (.val (.bool false)))))]) .ret) .skip)) (.seq (.seq (.reg [(.mk (some 10) none (.faddr 1 1 false (.t 2))), (.mk (some 11) none (.load 1 false (.t 10))), (.mk (some 12) none (.faddr 1 1 false (.t 3))),
  (.mk (some 13) none (.load 1 false (.t 12))), (.mk (some 14) none (.bin .neq (.t 11) (.t 13)))]) (.cond 14 (.seq (.reg [(.mk (some 4) none (.mov (.k (.val (.bool false)))))]) .ret) .skip)) (.seq (.seq (.reg [(.mk
  (some 15) none (.faddr 2 1 false (.t 2))), (.mk (some 16) none (.load 1 false (.t 15))), (.mk (some 17) none (.faddr 2 1 false (.t 3))), (.mk (some 18) none (.load 1 false (.t 17))), (.mk (some 19) none (.bin .neq (.t
  16) (.t 18)))]) (.cond 19 (.seq (.reg [(.mk (some 4) none (.mov (.k (.val (.bool false)))))]) .ret) .skip)) (.seq (.seq (.reg [(.mk (some 20) none (.faddr 3 1 false (.t 2))), (.mk (some 21) none (.load 1 false (.t
  20))), (.mk (some 22) none (.faddr 3 1 false (.t 3))), (.mk (some 23) none (.load 1 false (.t 22))), (.mk (some 24) none (.bin .neq (.t 21) (.t 23)))]) (.cond 24 (.seq (.reg [(.mk (some 4) none (.mov (.k (.val (.bool
  false)))))]) .ret) .skip)) (.seq (.seq (.reg [(.mk (some 25) none (.faddr 4 1 false (.t 2))), (.mk (some 26) none (.load 1 false (.t 25))), (.mk (some 27) none (.faddr 4 1 false (.t 3))), (.mk (some 28) none (.load 1
  false (.t 27))), (.mk (some 29) none (.bin .neq (.t 26) (.t 28)))]) (.cond 29 (.seq (.reg [(.mk (some 4) none (.mov (.k (.val (.bool false)))))]) .ret) .skip)) (.seq (.seq (.reg [(.mk (some 30) none (.faddr 5 1 false
  (.t 2))), (.mk (some 31) none (.load 1 false (.t 30))), (.mk (some 32) none (.faddr 5 1 false (.t 3))), (.mk (some 33) none (.load 1 false (.t 32))), (.mk (some 34) none (.call false 36 [(.t 31), (.t 33)])), (.mk
  (some 35) none (.not (.t 34)))]) (.cond 35 (.seq (.reg [(.mk (some 4) none (.mov (.k (.val (.bool false)))))]) .ret) .skip)) (.seq (.reg [(.mk (some 4) none (.mov (.k (.val (.bool true)))))]) .ret)))))))),
  [(.t 4)]⟩
theorem i91 : IsFun Try.prog 91 g91 := ⟨Try.f91, _, [], Try.func91, by kernel_rfl, rfl, by kernel_rfl, by kernel_rfl, rfl⟩

def g109 : GFun := ⟨⟨12, []⟩,
  (.seq (.reg [(.mk (some 4) none (.mov (.k (.val (.int .i64 0)))))]) (.seq (.reg [(.mk (some 5) none (.mov (.t 1))), (.mk (some 6) none (.mov (.t 0))), (.mk (some 7) none (.len (.t 6))), (.mk (some 8) none (.bin .sub
  (.t 5) (.t 7))), (.mk (some 1) none (.mov (.t 8)))]) (.seq (.seq (.reg [(.mk (some 9) none (.mov (.t 1))), (.mk (some 10) none (.bin .lss (.t 9) (.k (.val (.int .i64 0)))))]) (.cond 10 (.seq (.reg [(.mk (some 4) none
  (.mov (.k (.val (.int .i64 (-1))))))]) .ret) .skip)) (.seq (.reg [(.mk (some 11) none (.mov (.t 1))), (.mk (some 4) none (.mov (.t 11)))]) .ret)))),
  [(.t 4)]⟩
theorem i109 : IsFun Try.prog 109 g109 := ⟨Try.f109, _, [], Try.func109, by kernel_rfl, rfl, by kernel_rfl, by kernel_rfl, rfl⟩

end Go.Proofs.Ytpnkabohkmabmaa

namespace Go.Proofs.Ytpnkabohkmabmaa
open Go.Gh
set_option maxRecDepth 20000
theorem mxd : Try.prog.follows .mixedOrders = true := Checked.mixed Try.checked
end Go.Proofs.Ytpnkabohkmabmaa

namespace Go.Proofs.Ytpnkabohkmabmaa
open Go.Gh
set_option maxRecDepth 20000
theorem w109 (xs : List Int) (left : Int) (h0 : 0 ≤ left) (h1 : left ≤ 1048576) : Pure Try.prog 109 [IS xs, I left] (· = I (szv left xs.length)) := by
  refine GCalls.lenA fun hl => ?_
  have hl := hl.1.1
  simp only [List.length_map, maxL] at hl
  refine gstart mxd i109 rfl (by simp) ?_
  simp only [↓ S2, S2, ↓reduceIte, Nat.reduceEqDiff, reduceCtorEq, Nat.reduceLeDiff, Nat.reduceAdd, Nat.reduceLT]
  ((try simp only [↓ S2, S2, ↓reduceIte, Nat.reduceEqDiff, reduceCtorEq, Nat.reduceLeDiff, Nat.reduceAdd, Nat.reduceLT]); (repeat (simp only [brGen]; try simp only [↓ S2, S2, ↓reduceIte, Nat.reduceEqDiff, reduceCtorEq, Nat.reduceLeDiff, Nat.reduceAdd, Nat.reduceLT])); (try simp +contextual (disch := omega) only [Z2]); (repeat' (first | (with_reducible intro h) | (with_reducible refine And.intro (by omega) ?_) | (with_reducible refine exP (by omega) ?_) | (with_reducible apply And.intro)))) <;> (congr 2; simp only [szv]; omega)
theorem w89 (x : Nod) (left : Int) (h0 : 0 ≤ left) (h1 : left ≤ 1048576) (hx : x.rule.size ≤ maxLen) : Pure Try.prog 89 [Nd x, I left] (· = I (szv left (wNd x))) := by
  simp only [maxLen, size_chars] at hx
  refine gstart mxd i89 rfl (by simp) ?_
  simp only [↓ S2, S2, ↓reduceIte, Nat.reduceEqDiff, reduceCtorEq, Nat.reduceLeDiff, Nat.reduceAdd, Nat.reduceLT]
  ((try simp only [↓ S2, S2, ↓reduceIte, Nat.reduceEqDiff, reduceCtorEq, Nat.reduceLeDiff, Nat.reduceAdd, Nat.reduceLT]); (repeat (simp only [brGen]; try simp only [↓ S2, S2, ↓reduceIte, Nat.reduceEqDiff, reduceCtorEq, Nat.reduceLeDiff, Nat.reduceAdd, Nat.reduceLT])); (try simp +contextual (disch := omega) only [Z2]); (repeat' (first | (with_reducible intro h) | (with_reducible refine And.intro (by omega) ?_) | (with_reducible refine exP (by omega) ?_) | (with_reducible apply And.intro))))
  · congr 2; simp only [szv, wNd]; omega
  refine callS.eq (w109 _ _ (by omega) (by omega)) ?_
  ((try simp only [↓ S2, S2, ↓reduceIte, Nat.reduceEqDiff, reduceCtorEq, Nat.reduceLeDiff, Nat.reduceAdd, Nat.reduceLT]); (repeat (simp only [brGen]; try simp only [↓ S2, S2, ↓reduceIte, Nat.reduceEqDiff, reduceCtorEq, Nat.reduceLeDiff, Nat.reduceAdd, Nat.reduceLT])); (try simp +contextual (disch := omega) only [Z2]); (repeat' (first | (with_reducible intro h) | (with_reducible refine And.intro (by omega) ?_) | (with_reducible refine exP (by omega) ?_) | (with_reducible apply And.intro)))) <;> (congr 2; simp only [szv, wNd] at *; omega)
theorem w56 (xs : List Nod) (left : Int) (h0 : 0 ≤ left) (h1 : left ≤ 1048576) (hx : ∀ x ∈ xs, x.rule.size ≤ maxLen) : Pure Try.prog 56 [NdS xs, I left] (· = I (szv left (wtS wNd xs))) :=
  szS mxd wNd i56 (fun _ => rfl) (fun _ => rfl) xs left h0 h1 fun x hm l a b => w89 x l a b (hx x hm)
theorem w21 (t : List Nod) (left : Int) (h0 : 0 ≤ left) (h1 : left ≤ 1048576) (hx : ∀ x ∈ t, x.rule.size ≤ maxLen) : Pure Try.prog 21 [Tr t, I left] (· = I (szv left (wtS wNd t))) := by
  refine gstart mxd i21 rfl (by simp) ?_
  simp only [↓ S2, S2, ↓reduceIte, Nat.reduceEqDiff, reduceCtorEq, Nat.reduceLeDiff, Nat.reduceAdd, Nat.reduceLT]
  refine callS.eq (w56 _ _ (by omega) (by omega) hx) ?_
  ((try simp only [↓ S2, S2, ↓reduceIte, Nat.reduceEqDiff, reduceCtorEq, Nat.reduceLeDiff, Nat.reduceAdd, Nat.reduceLT]); (repeat (simp only [brGen]; try simp only [↓ S2, S2, ↓reduceIte, Nat.reduceEqDiff, reduceCtorEq, Nat.reduceLeDiff, Nat.reduceAdd, Nat.reduceLT])); (try simp +contextual (disch := omega) only [Z2]); (repeat' (first | (with_reducible intro h) | (with_reducible refine And.intro (by omega) ?_) | (with_reducible refine exP (by omega) ?_) | (with_reducible apply And.intro)))) <;> (congr 2; simp only [szv] at *; omega)
theorem o51 (xs : List Int) (hx : xs.length ≤ 1048576) (H : GH) : GCalls Try.prog 51 [IS xs] H (fun g H' => ∃ r, g = .own r 1 0 xs.length ∧ H' = (r, 1, xs.map I) :: H) := by
  refine gstart mxd i51 rfl (by simp) ?_
  simp only [↓ S2, S2, ↓reduceIte, Nat.reduceEqDiff, reduceCtorEq, Nat.reduceLeDiff, Nat.reduceAdd, Nat.reduceLT]
  refine ⟨by omega, by omega, by omega, by omega, fun r hr => ?_⟩
  refine wloop mxd (ι := { i : Nat // i ≤ xs.length }) (fun i => [(0, IS xs), (3, .own r 1 0 xs.length), (4, I i.1)]) (fun i => (r, 1, (xs.take i.1 ++ List.replicate (xs.length - i.1) 0).map I) :: H) (fun i => xs.length - i.1) ⟨0, by simp⟩ (by simp [E2]) (by simp) ?_
  rintro ⟨i, hi⟩
  ((try simp only [↓ S2, S2, ↓reduceIte, Nat.reduceEqDiff, reduceCtorEq, Nat.reduceLeDiff, Nat.reduceAdd, Nat.reduceLT]); (repeat (simp only [brGen]; try simp only [↓ S2, S2, ↓reduceIte, Nat.reduceEqDiff, reduceCtorEq, Nat.reduceLeDiff, Nat.reduceAdd, Nat.reduceLT])); (try simp +contextual (disch := omega) only [Z2]); (repeat' (first | (with_reducible intro h) | (with_reducible refine And.intro (by omega) ?_) | (with_reducible refine exP (by omega) ?_) | (with_reducible apply And.intro))))
  · refine ⟨by simp; omega, nx ⟨i + 1, by omega⟩ (by simp; omega) (by simp [E2]) ?_⟩
    have e := fill_set xs id 0 i (by omega)
    simp only [List.map_id, id_eq] at e
    rw [← e]
  · have : i = xs.length := by omega
    subst this
    exact ⟨r, rfl, by simp⟩
theorem w51 (xs : List Int) (hx : xs.length ≤ 1048576) : Pure Try.prog 51 [IS xs] (· = IS xs) := by
  refine (o51 xs hx []).fr ?_
  rintro g H' ⟨r, rfl, rfl⟩
  exact ⟨_, _, FR.freeze hget_new (.all hget_new (by simp) (by simp [view])), rfl⟩
theorem w90 (x : Nod) (hx : x.kids.length ≤ 1048576) : Pure Try.prog 90 [Nd x] (· = Nd x) := by
  refine gstart mxd i90 rfl (by simp) ?_
  simp only [↓ S2, S2, ↓reduceIte, Nat.reduceEqDiff, reduceCtorEq, Nat.reduceLeDiff, Nat.reduceAdd, Nat.reduceLT]
  intro r hr
  refine callS.eq (w51 _ hx) ?_
  ((try simp only [↓ S2, S2, ↓reduceIte, Nat.reduceEqDiff, reduceCtorEq, Nat.reduceLeDiff, Nat.reduceAdd, Nat.reduceLT]); (repeat (simp only [brGen]; try simp only [↓ S2, S2, ↓reduceIte, Nat.reduceEqDiff, reduceCtorEq, Nat.reduceLeDiff, Nat.reduceAdd, Nat.reduceLT])); (try simp +contextual (disch := omega) only [Z2]); (repeat' (first | (with_reducible intro h) | (with_reducible refine And.intro (by omega) ?_) | (with_reducible refine exP (by omega) ?_) | (with_reducible apply And.intro))))
theorem w57 (xs : List Nod) (hl : xs.length ≤ 1048576) (hx : ∀ x ∈ xs, x.kids.length ≤ 1048576) : Pure Try.prog 57 [NdS xs] (· = NdS xs) :=
  freezeS (fun _ => rfl) fun H => toSo mxd i57 (fun _ => rfl) (fun _ => rfl) (fun _ => rfl) (fun _ => rfl) xs hl (by decide) (fun x hm => w90 x (hx x hm)) H
theorem w23 (t : List Nod) (hl : t.length ≤ 1048576) (hx : ∀ x ∈ t, x.kids.length ≤ 1048576) : Pure Try.prog 23 [Tr t] (· = Tr t) := by
  refine gstart mxd i23 rfl (by simp) ?_
  simp only [↓ S2, S2, ↓reduceIte, Nat.reduceEqDiff, reduceCtorEq, Nat.reduceLeDiff, Nat.reduceAdd, Nat.reduceLT]
  intro r hr
  refine callS.eq (w57 _ hl hx) ?_
  ((try simp only [↓ S2, S2, ↓reduceIte, Nat.reduceEqDiff, reduceCtorEq, Nat.reduceLeDiff, Nat.reduceAdd, Nat.reduceLT]); (repeat (simp only [brGen]; try simp only [↓ S2, S2, ↓reduceIte, Nat.reduceEqDiff, reduceCtorEq, Nat.reduceLeDiff, Nat.reduceAdd, Nat.reduceLT])); (try simp +contextual (disch := omega) only [Z2]); (repeat' (first | (with_reducible intro h) | (with_reducible refine And.intro (by omega) ?_) | (with_reducible refine exP (by omega) ?_) | (with_reducible apply And.intro))))
theorem w36 (xs ys : List Int) : Pure Try.prog 36 [IS xs, IS ys] (· = B (decide (xs = ys))) := by
  refine GCalls.lenA fun hl => ?_
  have hl := hl.1.1
  simp only [List.length_map, maxL] at hl
  refine gstart mxd i36 rfl (by simp) ?_
  simp only [↓ S2, S2, ↓reduceIte, Nat.reduceEqDiff, reduceCtorEq, Nat.reduceLeDiff, Nat.reduceAdd, Nat.reduceLT]
  ((try simp only [↓ S2, S2, ↓reduceIte, Nat.reduceEqDiff, reduceCtorEq, Nat.reduceLeDiff, Nat.reduceAdd, Nat.reduceLT]); (repeat (simp only [brGen]; try simp only [↓ S2, S2, ↓reduceIte, Nat.reduceEqDiff, reduceCtorEq, Nat.reduceLeDiff, Nat.reduceAdd, Nat.reduceLT])); (try simp +contextual (disch := omega) only [Z2]); (repeat' (first | (with_reducible intro h) | (with_reducible refine And.intro (by omega) ?_) | (with_reducible refine exP (by omega) ?_) | (with_reducible apply And.intro))))
  rotate_left
  · simp; rintro rfl; exact h rfl
  refine wloop mxd (ι := { i : Nat // i ≤ xs.length ∧ xs.take i = ys.take i }) (fun i => [(0, IS xs), (1, IS ys), (5, I i.1)]) (fun _ => []) (fun i => xs.length - i.1) ⟨0, by simp⟩ (by simp [E2]) rfl ?_
  rintro ⟨i, hi, hp⟩
  ((try simp only [↓ S2, S2, ↓reduceIte, Nat.reduceEqDiff, reduceCtorEq, Nat.reduceLeDiff, Nat.reduceAdd, Nat.reduceLT]); (repeat (simp only [brGen]; try simp only [↓ S2, S2, ↓reduceIte, Nat.reduceEqDiff, reduceCtorEq, Nat.reduceLeDiff, Nat.reduceAdd, Nat.reduceLT])); (try simp +contextual (disch := omega) only [Z2]); (repeat' (first | (with_reducible intro h) | (with_reducible refine And.intro (by omega) ?_) | (with_reducible refine exP (by omega) ?_) | (with_reducible apply And.intro))))
  · exact nx ⟨i + 1, by omega, take_eq_step hp (by omega) (by omega) h⟩ (by simp; omega) (by simp [E2]) rfl
  · simp; rintro rfl; simp at h
  · have : i = xs.length := by omega
    subst this
    rw [List.take_of_length_le (by omega), List.take_of_length_le (by omega)] at hp
    simp [hp]
theorem w91 (x y : Nod) : Pure Try.prog 91 [Nd x, Nd y] (· = B (decide (x = y))) := by
  refine gstart mxd i91 rfl (by simp) ?_
  simp only [↓ S2, S2, ↓reduceIte, Nat.reduceEqDiff, reduceCtorEq, Nat.reduceLeDiff, Nat.reduceAdd, Nat.reduceLT]
  ((try simp only [↓ S2, S2, ↓reduceIte, Nat.reduceEqDiff, reduceCtorEq, Nat.reduceLeDiff, Nat.reduceAdd, Nat.reduceLT]); (repeat (simp only [brGen]; try simp only [↓ S2, S2, ↓reduceIte, Nat.reduceEqDiff, reduceCtorEq, Nat.reduceLeDiff, Nat.reduceAdd, Nat.reduceLT])); (try simp +contextual (disch := omega) only [Z2]); (repeat' (first | (with_reducible intro h) | (with_reducible refine And.intro (by omega) ?_) | (with_reducible refine exP (by omega) ?_) | (with_reducible apply And.intro))))
  all_goals first
    | (simp [Nod.ext_iff, *]; done)
    | skip
  refine callS.eq (w36 _ _) ?_
  ((try simp only [↓ S2, S2, ↓reduceIte, Nat.reduceEqDiff, reduceCtorEq, Nat.reduceLeDiff, Nat.reduceAdd, Nat.reduceLT]); (repeat (simp only [brGen]; try simp only [↓ S2, S2, ↓reduceIte, Nat.reduceEqDiff, reduceCtorEq, Nat.reduceLeDiff, Nat.reduceAdd, Nat.reduceLT])); (try simp +contextual (disch := omega) only [Z2]); (repeat' (first | (with_reducible intro h) | (with_reducible refine And.intro (by omega) ?_) | (with_reducible refine exP (by omega) ?_) | (with_reducible apply And.intro)))) <;> simp [Nod.ext_iff, *]
theorem w60 (xs ys : List Nod) : Pure Try.prog 60 [NdS xs, NdS ys] (· = B (decide (xs = ys))) :=
  eqS mxd i60 (fun _ => rfl) (fun _ => rfl) xs ys fun x _ y _ => w91 x y
theorem w25 (t u : List Nod) : Pure Try.prog 25 [Tr t, Tr u] (· = B (decide (t = u))) := by
  refine gstart mxd i25 rfl (by simp) ?_
  simp only [↓ S2, S2, ↓reduceIte, Nat.reduceEqDiff, reduceCtorEq, Nat.reduceLeDiff, Nat.reduceAdd, Nat.reduceLT]
  refine callS.eq (w60 _ _) ?_
  ((try simp only [↓ S2, S2, ↓reduceIte, Nat.reduceEqDiff, reduceCtorEq, Nat.reduceLeDiff, Nat.reduceAdd, Nat.reduceLT]); (repeat (simp only [brGen]; try simp only [↓ S2, S2, ↓reduceIte, Nat.reduceEqDiff, reduceCtorEq, Nat.reduceLeDiff, Nat.reduceAdd, Nat.reduceLT])); (try simp +contextual (disch := omega) only [Z2]); (repeat' (first | (with_reducible intro h) | (with_reducible refine And.intro (by omega) ?_) | (with_reducible refine exP (by omega) ?_) | (with_reducible apply And.intro)))) <;> simp [*]
theorem w61 (x lo hi : Int) : Pure Try.prog 61 [I x, I lo, I hi] (· = B (decide (lo ≤ x ∧ x ≤ hi))) := by
  refine gstart mxd i61 rfl (by simp) ?_
  simp only [↓ S2, S2, ↓reduceIte, Nat.reduceEqDiff, reduceCtorEq, Nat.reduceLeDiff, Nat.reduceAdd, Nat.reduceLT]
  ((try simp only [↓ S2, S2, ↓reduceIte, Nat.reduceEqDiff, reduceCtorEq, Nat.reduceLeDiff, Nat.reduceAdd, Nat.reduceLT]); (repeat (simp only [brGen]; try simp only [↓ S2, S2, ↓reduceIte, Nat.reduceEqDiff, reduceCtorEq, Nat.reduceLeDiff, Nat.reduceAdd, Nat.reduceLT])); (try simp +contextual (disch := omega) only [Z2]); (repeat' (first | (with_reducible intro h) | (with_reducible refine And.intro (by omega) ?_) | (with_reducible refine exP (by omega) ?_) | (with_reducible apply And.intro)))) <;> simp [*]
theorem w74 (x lo hi : Int) : Pure Try.prog 74 [I x, I lo, I hi] (· = B (decide (lo ≤ x ∧ x ≤ hi))) := by
  refine gstart mxd i74 rfl (by simp) ?_
  simp only [↓ S2, S2, ↓reduceIte, Nat.reduceEqDiff, reduceCtorEq, Nat.reduceLeDiff, Nat.reduceAdd, Nat.reduceLT]
  ((try simp only [↓ S2, S2, ↓reduceIte, Nat.reduceEqDiff, reduceCtorEq, Nat.reduceLeDiff, Nat.reduceAdd, Nat.reduceLT]); (repeat (simp only [brGen]; try simp only [↓ S2, S2, ↓reduceIte, Nat.reduceEqDiff, reduceCtorEq, Nat.reduceLeDiff, Nat.reduceAdd, Nat.reduceLT])); (try simp +contextual (disch := omega) only [Z2]); (repeat' (first | (with_reducible intro h) | (with_reducible refine And.intro (by omega) ?_) | (with_reducible refine exP (by omega) ?_) | (with_reducible apply And.intro)))) <;> simp [*]
end Go.Proofs.Ytpnkabohkmabmaa

namespace Go.Proofs.Ytpnkabohkmabmaa
open Go.Gh
set_option maxRecDepth 20000
theorem w26 (t : List Nod) (i : Int) : Pure Try.prog 26 [Tr t, I i] (· = I (treeSize t i)) := by
  refine GCalls.lenA fun hl => ?_
  obtain ⟨hlen, _⟩ := lenTr hl.1
  refine gstart mxd i26 rfl (by simp) ?_
  simp only [↓ S2, S2, ↓reduceIte, Nat.reduceEqDiff, reduceCtorEq, Nat.reduceLeDiff, Nat.reduceAdd, Nat.reduceLT]
  refine callS.eq (w61 _ _ _) ?_
  ((try simp only [↓ S2, S2, ↓reduceIte, Nat.reduceEqDiff, reduceCtorEq, Nat.reduceLeDiff, Nat.reduceAdd, Nat.reduceLT]); (repeat (simp only [brGen]; try simp only [↓ S2, S2, ↓reduceIte, Nat.reduceEqDiff, reduceCtorEq, Nat.reduceLeDiff, Nat.reduceAdd, Nat.reduceLT])); (try simp +contextual (disch := omega) only [Z2]); (repeat' (first | (with_reducible intro h) | (with_reducible refine And.intro (by omega) ?_) | (with_reducible refine exP (by omega) ?_) | (with_reducible apply And.intro))))
  rotate_left
  · simp [treeSize]; omega
  obtain ⟨i, rfl⟩ : ∃ k : Nat, i = k := ⟨i.toNat, by omega⟩
  have hi : i < t.length := by omega
  have hs : treeSize t i = subLen t i := by simp [treeSize, hi]
  refine wloop mxd (ι := { k : Nat // i < k ∧ k ≤ t.length ∧ ∀ j (h : j < t.length), i < j → j < k → (i : Int) ≤ t[j].parent }) (fun k => [(2, .rop 1 (Tr t)), (1, I i), (5, I k.1)]) (fun _ => []) (fun k => t.length - k.1) ⟨i + 1, by omega, by omega, fun j h h1 h2 => by omega⟩ (by simp [E2]) rfl ?_
  rintro ⟨k, hk, hkl, ha⟩
  ((try simp only [↓ S2, S2, ↓reduceIte, Nat.reduceEqDiff, reduceCtorEq, Nat.reduceLeDiff, Nat.reduceAdd, Nat.reduceLT]); (repeat (simp only [brGen]; try simp only [↓ S2, S2, ↓reduceIte, Nat.reduceEqDiff, reduceCtorEq, Nat.reduceLeDiff, Nat.reduceAdd, Nat.reduceLT])); (try simp +contextual (disch := omega) only [Z2]); (repeat' (first | (with_reducible intro h) | (with_reducible refine And.intro (by omega) ?_) | (with_reducible refine exP (by omega) ?_) | (with_reducible apply And.intro))))
  · refine nx ⟨k + 1, by omega, by omega, fun j hj h1 h2 => ?_⟩ (by simp; omega) (by simp [E2]) rfl
    rcases Nat.lt_or_ge j k with h3 | h3
    · exact ha j hj h1 h3
    · have : j = k := by omega
      subst this; exact h
  · rw [hs, subLen_eq hk hkl ha (fun _ => h)]
    congr 2; omega
  · rw [hs, subLen_eq hk hkl ha (fun h' => absurd h' h)]
    congr 2; omega
theorem w62 (t : List Nod) (i : Int) : Pure Try.prog 62 [Tr t, I i] (· = B (decide (0 ≤ i ∧ i < t.length))) := by
  refine GCalls.lenA fun hl => ?_
  obtain ⟨hlen, _⟩ := lenTr hl.1
  refine gstart mxd i62 rfl (by simp) ?_
  simp only [↓ S2, S2, ↓reduceIte, Nat.reduceEqDiff, reduceCtorEq, Nat.reduceLeDiff, Nat.reduceAdd, Nat.reduceLT]
  refine callS.eq (w74 _ _ _) ?_
  ((try simp only [↓ S2, S2, ↓reduceIte, Nat.reduceEqDiff, reduceCtorEq, Nat.reduceLeDiff, Nat.reduceAdd, Nat.reduceLT]); (repeat (simp only [brGen]; try simp only [↓ S2, S2, ↓reduceIte, Nat.reduceEqDiff, reduceCtorEq, Nat.reduceLeDiff, Nat.reduceAdd, Nat.reduceLT])); (try simp +contextual (disch := omega) only [Z2]); (repeat' (first | (with_reducible intro h) | (with_reducible refine And.intro (by omega) ?_) | (with_reducible refine exP (by omega) ?_) | (with_reducible apply And.intro))))
  exact bEq (by omega)
theorem w27 (t : List Nod) (i : Int) : Pure Try.prog 27 [Tr t, I i] (· = I (treeSize t i)) := by
  refine GCalls.lenA fun hl => ?_
  obtain ⟨hlen, _⟩ := lenTr hl.1
  refine gstart mxd i27 rfl (by simp) ?_
  simp only [↓ S2, S2, ↓reduceIte, Nat.reduceEqDiff, reduceCtorEq, Nat.reduceLeDiff, Nat.reduceAdd, Nat.reduceLT]
  refine callS.eq (w62 _ _) ?_
  ((try simp only [↓ S2, S2, ↓reduceIte, Nat.reduceEqDiff, reduceCtorEq, Nat.reduceLeDiff, Nat.reduceAdd, Nat.reduceLT]); (repeat (simp only [brGen]; try simp only [↓ S2, S2, ↓reduceIte, Nat.reduceEqDiff, reduceCtorEq, Nat.reduceLeDiff, Nat.reduceAdd, Nat.reduceLT])); (try simp +contextual (disch := omega) only [Z2]); (repeat' (first | (with_reducible intro h) | (with_reducible refine And.intro (by omega) ?_) | (with_reducible refine exP (by omega) ?_) | (with_reducible apply And.intro))))
  rotate_left
  · simp [treeSize]; omega
  obtain ⟨i, rfl⟩ : ∃ k : Nat, i = k := ⟨i.toNat, by omega⟩
  have hi : i < t.length := by omega
  have hs : treeSize t i = subLen t i := by simp [treeSize, hi]
  refine wloop mxd (ι := { k : Nat // i < k ∧ k ≤ t.length ∧ ∀ j (h : j < t.length), i < j → j < k → (i : Int) ≤ t[j].parent }) (fun k => [(2, .rop 1 (Tr t)), (1, I i), (5, I k.1)]) (fun _ => []) (fun k => t.length - k.1) ⟨i + 1, by omega, by omega, fun j h h1 h2 => by omega⟩ (by simp [E2]) rfl ?_
  rintro ⟨k, hk, hkl, ha⟩
  ((try simp only [↓ S2, S2, ↓reduceIte, Nat.reduceEqDiff, reduceCtorEq, Nat.reduceLeDiff, Nat.reduceAdd, Nat.reduceLT]); (repeat (simp only [brGen]; try simp only [↓ S2, S2, ↓reduceIte, Nat.reduceEqDiff, reduceCtorEq, Nat.reduceLeDiff, Nat.reduceAdd, Nat.reduceLT])); (try simp +contextual (disch := omega) only [Z2]); (repeat' (first | (with_reducible intro h) | (with_reducible refine And.intro (by omega) ?_) | (with_reducible refine exP (by omega) ?_) | (with_reducible apply And.intro))))
  · refine nx ⟨k + 1, by omega, by omega, fun j hj h1 h2 => ?_⟩ (by simp; omega) (by simp [E2]) rfl
    rcases Nat.lt_or_ge j k with h3 | h3
    · exact ha j hj h1 h3
    · have : j = k := by omega
      subst this; exact h
  · rw [hs, subLen_eq hk hkl ha (fun _ => h)]
    congr 2; omega
  · rw [hs, subLen_eq hk hkl ha (fun h' => absurd h' h)]
    congr 2; omega
theorem w5 (t : List Nod) (i : Int) (hx : ∀ x ∈ t, x.rule.size ≤ maxLen) : Pure Try.prog 5 [Tr t, I i] (· = B true) := by
  refine gstart mxd i5 rfl (by simp) ?_
  simp only [↓ S2, S2, ↓reduceIte, Nat.reduceEqDiff, reduceCtorEq, Nat.reduceLeDiff, Nat.reduceAdd, Nat.reduceLT]
  refine callS.eq (w21 t _ (by omega) (by omega) hx) ?_
  ((try simp only [↓ S2, S2, ↓reduceIte, Nat.reduceEqDiff, reduceCtorEq, Nat.reduceLeDiff, Nat.reduceAdd, Nat.reduceLT]); (repeat (simp only [brGen]; try simp only [↓ S2, S2, ↓reduceIte, Nat.reduceEqDiff, reduceCtorEq, Nat.reduceLeDiff, Nat.reduceAdd, Nat.reduceLT])); (try simp +contextual (disch := omega) only [Z2]); (repeat' (first | (with_reducible intro h) | (with_reducible refine And.intro (by omega) ?_) | (with_reducible refine exP (by omega) ?_) | (with_reducible apply And.intro))))
  have hb := szTr h
  repeat' (first | (with_reducible refine callS.eq (w23 t hb.1 hb.2) ?_) | (with_reducible refine callS.eq (w26 t i) ?_) | (with_reducible refine callS.eq (w27 t i) ?_) | (with_reducible refine callS.eq (w25 t t) ?_) | simp only [↓ S2, S2, ↓reduceIte, Nat.reduceEqDiff, reduceCtorEq, Nat.reduceLeDiff, Nat.reduceAdd, Nat.reduceLT] | simp only [brGen] | simp +contextual (disch := omega) only [Z2] | (with_reducible intro h) | (with_reducible apply And.intro))
  all_goals first | rfl | (exfalso; simp_all; done) | simp_all
end Go.Proofs.Ytpnkabohkmabmaa

namespace Go.Proofs.Ytpnkabohkmabmaa
open Go.ChangeShapes Go.WideShapes Go.ChangeAt Go.RowKit Go.Gh
theorem Try.own : ownKnob Try.prog.godebug = none := by kernel_rfl
theorem Try.laidOut : laidOutB Try.prog = true := by kernel_rfl
set_option maxRecDepth 100000 in
theorem l5 (os : Os) (started : os.Started) (H : Type) (enc : TypeId × Value → H) :
    ReturnsInHanded {} Try.checked os 5 .any (Rows.fnExactSubtreeSizeSpec.pre6 enc Try.prog Try.f5 Rows.fnExactSubtreeSizeRow.domain false) (Rows.fnExactSubtreeSizeSpec.post enc Try.prog Try.f5 false true false false) := by
  refine returnsInHanded_of_change (C := Try.checked) Try.own started (by kernel_rfl) Try.func5
    (ChangeSpec.witness6 (enc := enc) (C := Try.checked) false ⟨#[], #[.agg #[.slice none 0 0], .int .i64 0], []⟩ 8 (by kernel_rfl) (by kernel_rfl) (by kernel_rfl) (by kernel_rfl)) ?_
  intro W base args ds gs before hval0 hW hcnd _
  have hval : ∀ (j : Nat) t v, Try.f5.params[j]? = some t → args[j]? = some v → Value.okWide Try.prog W .any base t v := hval0
  have hW' := hW
  obtain ⟨p, q, hA0, hV, rfl, hfz, hnd⟩ := hW
  have hA : DataW.TrodAll enc Try.prog W 0 (fun _ => true) true Try.f5.params.toList args.toList ds p := hA0
  rw [Try.params5] at hA hval
  obtain ⟨v0, v1, d0, d1, p0, p1, rfl, rfl, rfl, h0, h1⟩ := trodAll_two hA
  obtain ⟨rfl, rfl⟩ := trodVars_none hV
  obtain ⟨g0, m0, e0⟩ := lift_val (P := Try.prog) 8 (by kernel_rfl) (hval 0 _ v0 rfl rfl) h0
  obtain ⟨g1, m1, e1⟩ := lift_val (P := Try.prog) 8 (by kernel_rfl) (hval 1 _ v1 rfl rfl) h1
  obtain ⟨t, rfl, hx⟩ := t_Tr e0
  obtain ⟨i, rfl⟩ := t_int e1
  clear hA0 hval0
  simp only [List.append_nil] at hW'
  have hlt := hW'.lt
  refine ((w5 t i hx).out i5 (W := W) (args := [v0, v1]) (.cons0 m0 (.cons0 m1 .nil0))).mono fun e W' ⟨v, g, D, he, hg, hm, hb⟩ => ?_
  subst he; subst hg
  have hv := MV.val_inv hm
  subst hv
  exact ⟨_, rfl, post_of_below (pa := p0 ++ p1) (pv := []) hW' (fun _ _ _ => trodAll_mk1 (shut_bool Try.underlying4 _)) (fun sp hsp => trodAll_mk2 (WideElems.Trod_stays Try.laidOut (by kernel_rfl) (of_decide_eq_true (by kernel_rfl)) h0 (fun x hx => hb.same (hlt x (by simp [hx]))) (fun x hx => hsp x (by simp [hx]))) (WideElems.Trod_stays Try.laidOut (by kernel_rfl) (of_decide_eq_true (by kernel_rfl)) h1 (fun x hx => hb.same (hlt x (by simp [hx]))) (fun x hx => hsp x (by simp [hx])))) (fun _ _ => rfl) (by simp)
    hb (ok_one (by kernel_rfl) rfl (okWide_bool_mk Try.underlying4 _))⟩
theorem h5 : Rows.FnExactSubtreeSizeSaid :=
  OpenClaim.holds_of_wide 5 Try.f5 rfl rfl rfl rfl rfl rfl rfl ⟨rfl, rfl, rfl, rfl, rfl⟩ rfl rfl rfl rfl rfl (by kernel_rfl) Try.func5 (by kernel_rfl)
    (of_decide_eq_true (by kernel_rfl)) (by unfold Func.isWrapper; first | (rw [if_pos (by decide +kernel)]; kernel_rfl) | (rw [if_neg (by decide +kernel)]; exact ⟨rfl, rfl⟩))
    (fun os started H enc _ => l5 os started H enc)
end Go.Proofs.Ytpnkabohkmabmaa

