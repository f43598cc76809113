/- The law FnExactDependsOn returns true whatever the input, and the input reads behind the call as before. No condition. -/
import Derived.Test.YtkepdhkomchlgaaGreatCdo1
import Derived.Test.YtkepdhkomchlgaaGreatRows
import Derived.Test.YtkepdhkomchlgaaGreatChecked
import Derived.KernelRfl
namespace Go.Proofs.YtkepdhkomchlgaaGreat
open Go.Gh
def g4 : GFun := ⟨⟨53, [4,5,11,12]⟩,
  (.seq (.reg [(.mk (some 4) none (.boxro 2 (.t 0))), (.mk (some 5) none (.boxro 1 (.t 1))), (.mk (some 8) none (.mov (.k (.val (.bool false)))))]) (.seq (.reg [(.mk (some 9) none (.mov (.k (.val (.int .i64
  1048576)))))]) (.seq (.reg [(.mk (some 14) none (.load 2 true (.t 4))), (.mk (some 15) none (.mov (.t 9))), (.mk (some 16) none (.call false 11 [(.t 14), (.t 15)])), (.mk (some 9) none (.mov (.t 16)))]) (.seq (.seq
  (.reg [(.mk (some 17) none (.mov (.t 9))), (.mk (some 18) none (.bin .lss (.t 17) (.k (.val (.int .i64 0)))))]) (.cond 18 (.seq (.reg [(.mk (some 8) none (.mov (.k (.val (.bool true)))))]) .ret) .skip)) (.seq (.reg
  [(.mk (some 19) none (.load 1 true (.t 5))), (.mk (some 20) none (.mov (.t 9))), (.mk (some 21) none (.call false 12 [(.t 19), (.t 20)])), (.mk (some 9) none (.mov (.t 21)))]) (.seq (.seq (.reg [(.mk (some 22) none
  (.mov (.t 9))), (.mk (some 23) none (.bin .lss (.t 22) (.k (.val (.int .i64 0)))))]) (.cond 23 (.seq (.reg [(.mk (some 8) none (.mov (.k (.val (.bool true)))))]) .ret) .skip)) (.seq (.reg [(.mk (some 28) none (.mov
  (.t 2))), (.mk (some 29) none (.mov (.t 3))), (.mk (some 24) none (.load 2 true (.t 4))), (.mk (some 25) none (.call true 15 [(.t 24)])), (.mk (some 26) none (.load 1 true (.t 5))), (.mk (some 27) none (.call true 16
  [(.t 26)])), (.mk (some 30) none (.call true 26 [(.t 25), (.t 27), (.t 28), (.t 29)])), (.mk (some 10) none (.mov (.t 30)))]) (.seq (.reg [(.mk (some 31) none (.load 2 true (.t 4))), (.mk (some 32) none (.call false
  15 [(.t 31)])), (.mk (some 11) none (.allocr 2)), (.mk (some 11) none (.stro 2 11 (.t 32)))]) (.seq (.reg [(.mk (some 33) none (.load 1 true (.t 5))), (.mk (some 34) none (.call false 16 [(.t 33)])), (.mk (some 12)
  none (.allocr 1)), (.mk (some 12) none (.stro 1 12 (.t 34)))]) (.seq (.reg [(.mk (some 35) none (.load 2 true (.t 11))), (.mk (some 36) none (.load 1 true (.t 12))), (.mk (some 37) none (.mov (.t 2))), (.mk (some 38)
  none (.mov (.t 3))), (.mk (some 39) none (.call false 27 [(.t 35), (.t 36), (.t 37), (.t 38)])), (.mk (some 13) none (.mov (.t 39)))]) (.seq (.seq (.reg [(.mk (some 40) none (.mov (.t 13))), (.mk (some 41) none (.mov
  (.t 10))), (.mk (some 42) none (.beq true (.t 40) (.t 41)))]) (.cond 42 (.seq (.reg [(.mk (some 8) none (.mov (.k (.val (.bool false)))))]) .ret) .skip)) (.seq (.seq (.reg [(.mk (some 43) none (.load 2 true (.t 11))),
  (.mk (some 44) none (.load 2 true (.t 4))), (.mk (some 45) none (.call true 15 [(.t 44)])), (.mk (some 46) none (.call true 20 [(.t 43), (.t 45)])), (.mk (some 47) none (.not (.t 46)))]) (.cond 47 (.seq (.reg [(.mk
  (some 8) none (.mov (.k (.val (.bool false)))))]) .ret) .skip)) (.seq (.seq (.reg [(.mk (some 48) none (.load 1 true (.t 12))), (.mk (some 49) none (.load 1 true (.t 5))), (.mk (some 50) none (.call true 16 [(.t
  49)])), (.mk (some 51) none (.call true 21 [(.t 48), (.t 50)])), (.mk (some 52) none (.not (.t 51)))]) (.cond 52 (.seq (.reg [(.mk (some 8) none (.mov (.k (.val (.bool false)))))]) .ret) .skip)) (.seq (.reg [(.mk
  (some 8) none (.mov (.k (.val (.bool true)))))]) .ret)))))))))))))),
  [(.t 8)]⟩
theorem i4 : IsFun Tryz.prog 4 g4 := ⟨Tryz.f4, _, [], Tryz.func4, by kernel_rfl, rfl, by kernel_rfl, by kernel_rfl, rfl⟩
def g11 : GFun := ⟨⟨18, [2]⟩,
  (.seq (.reg [(.mk (some 2) none (.boxro 2 (.t 0))), (.mk (some 4) none (.mov (.k (.val (.int .i64 0)))))]) (.seq (.reg [(.mk (some 5) none (.faddr 0 1 false (.t 2))), (.mk (some 6) none (.load 1 false (.t 5))), (.mk
  (some 7) none (.mov (.t 1))), (.mk (some 8) none (.call false 47 [(.t 6), (.t 7)])), (.mk (some 1) none (.mov (.t 8)))]) (.seq (.seq (.reg [(.mk (some 9) none (.mov (.t 1))), (.mk (some 10) none (.bin .lss (.t 9) (.k
  (.val (.int .i64 0)))))]) (.cond 10 (.seq (.reg [(.mk (some 4) none (.mov (.k (.val (.int .i64 (-1))))))]) .ret) .skip)) (.seq (.reg [(.mk (some 11) none (.faddr 1 1 false (.t 2))), (.mk (some 12) none (.load 1 false
  (.t 11))), (.mk (some 13) none (.mov (.t 1))), (.mk (some 14) none (.call false 48 [(.t 12), (.t 13)])), (.mk (some 1) none (.mov (.t 14)))]) (.seq (.seq (.reg [(.mk (some 15) none (.mov (.t 1))), (.mk (some 16) none
  (.bin .lss (.t 15) (.k (.val (.int .i64 0)))))]) (.cond 16 (.seq (.reg [(.mk (some 4) none (.mov (.k (.val (.int .i64 (-1))))))]) .ret) .skip)) (.seq (.reg [(.mk (some 17) none (.mov (.t 1))), (.mk (some 4) none (.mov
  (.t 17)))]) .ret)))))),
  [(.t 4)]⟩
theorem i11 : IsFun Tryz.prog 11 g11 := ⟨Tryz.f11, _, [], Tryz.func11, by kernel_rfl, rfl, by kernel_rfl, by kernel_rfl, rfl⟩
def g12 : GFun := ⟨⟨12, [2]⟩,
  (.seq (.reg [(.mk (some 2) none (.boxro 1 (.t 0))), (.mk (some 4) none (.mov (.k (.val (.int .i64 0)))))]) (.seq (.reg [(.mk (some 5) none (.faddr 0 1 false (.t 2))), (.mk (some 6) none (.load 1 false (.t 5))), (.mk
  (some 7) none (.mov (.t 1))), (.mk (some 8) none (.call false 49 [(.t 6), (.t 7)])), (.mk (some 1) none (.mov (.t 8)))]) (.seq (.seq (.reg [(.mk (some 9) none (.mov (.t 1))), (.mk (some 10) none (.bin .lss (.t 9) (.k
  (.val (.int .i64 0)))))]) (.cond 10 (.seq (.reg [(.mk (some 4) none (.mov (.k (.val (.int .i64 (-1))))))]) .ret) .skip)) (.seq (.reg [(.mk (some 11) none (.mov (.t 1))), (.mk (some 4) none (.mov (.t 11)))]) .ret)))),
  [(.t 4)]⟩
theorem i12 : IsFun Tryz.prog 12 g12 := ⟨Tryz.f12, _, [], Tryz.func12, by kernel_rfl, rfl, by kernel_rfl, by kernel_rfl, rfl⟩
def g14 : GFun := ⟨⟨52, [3,4,5,8,12]⟩,
  (.seq (.reg [(.mk (some 3) none (.boxro 2 (.t 0))), (.mk (some 4) none (.boxro 1 (.t 1))), (.mk (some 5) none (.boxro 2 (.t 2))), (.mk (some 6) none (.mov (.k (.val (.slice none 0 0)))))]) (.seq (.reg [(.mk (some 14)
  none (.bslice 2 [] 0 true [])), (.mk (some 7) none (.mov (.t 14)))]) (.seq (.reg [(.mk (some 16) none (.load 2 true (.t 3))), (.mk (some 17) none (.load 1 true (.t 4))), (.mk (some 18) none (.load 2 true (.t 5))),
  (.mk (some 19) none (.call false 50 [(.t 16), (.t 17), (.t 18)])), (.mk (some 15) none (.mov (.t 19))), (.mk (some 20) none (.ext (.t 15) 0)), (.mk (some 21) none (.ext (.t 15) 1)), (.mk (some 8) none (.allocr 8)),
  (.mk (some 8) none (.stro 8 8 (.t 20))), (.mk (some 9) none (.mov (.t 21)))]) (.seq (.seq (.reg [(.mk (some 22) none (.mov (.t 9))), (.mk (some 23) none (.not (.t 22)))]) (.cond 23 (.seq (.reg [(.mk (some 24) none
  (.mov (.t 7))), (.mk (some 6) none (.mov (.t 24)))]) .ret) .skip)) (.seq (.reg [(.mk (some 25) none (.faddr 1 7 true (.t 8))), (.mk (some 26) none (.load 7 true (.t 25))), (.mk (some 27) none (.call false 51 [(.t
  26)])), (.mk (some 10) none (.mov (.t 27)))]) (.seq (.seq (.reg [(.mk (some 11) none (.mov (.k (.val (.int .i64 0)))))]) (.block 0 (.loop (.seq (.seq (.reg [(.mk (some 28) none (.mov (.t 11))), (.mk (some 29) none
  (.mov (.t 10))), (.mk (some 30) none (.len (.t 29))), (.mk (some 31) none (.bin .lss (.t 28) (.t 30)))]) (.cond 31 .skip (.exit 0))) (.seq (.block 1 (.seq (.reg [(.mk (some 37) none (.faddr 0 1 false (.t 8))), (.mk
  (some 39) none (.mov (.t 10))), (.mk (some 40) none (.mov (.t 11))), (.mk (some 41) none (.iaddr 2 (.t 39) (.t 40))), (.mk (some 12) none (.allocr 2)), (.mk (some 35) none (.load 2 true (.t 3))), (.mk (some 36) none
  (.load 1 true (.t 4))), (.mk (some 38) none (.load 1 false (.t 37))), (.mk (some 42) none (.load 2 true (.t 41))), (.mk (some 43) none (.call true 52 [(.t 35), (.t 36), (.t 38), (.t 42)])), (.mk (some 34) none (.mov
  (.t 43))), (.mk (some 44) none (.ext (.t 34) 0)), (.mk (some 45) none (.ext (.t 34) 1)), (.mk (some 12) none (.stro 2 12 (.t 44))), (.mk (some 13) none (.mov (.t 45)))]) (.seq (.reg [(.mk (some 46) none (.mov (.t
  13)))]) (.cond 46 (.reg [(.mk (some 47) none (.mov (.t 7))), (.mk (some 48) none (.load 2 true (.t 12))), (.mk (some 49) none (.bslice 2 [] 1 true [(0, (.t 48))])), (.mk (some 50) none (.append 2 24 (.t 47) (.t 49))),
  (.mk (some 7) none (.mov (.t 50)))]) .skip)))) (.reg [(.mk (some 32) none (.mov (.t 11))), (.mk (some 33) none (.bin .add (.t 32) (.k (.val (.int .i64 1))))), (.mk (some 11) none (.mov (.t 33)))])))))) (.seq (.reg
  [(.mk (some 51) none (.mov (.t 7))), (.mk (some 6) none (.mov (.t 51)))]) .ret))))))),
  [(.t 6)]⟩
theorem i14 : IsFun Tryz.prog 14 g14 := ⟨Tryz.f14, _, [], Tryz.func14, by kernel_rfl, rfl, by kernel_rfl, by kernel_rfl, rfl⟩
def g15 : GFun := ⟨⟨13, [1,2]⟩,
  (.seq (.reg [(.mk (some 1) none (.boxro 2 (.t 0))), (.mk (some 2) none (.allocr 2))]) (.seq (.reg [(.mk (some 3) none (.alloc 2 (.agg [(.val (.slice none 0 0)), (.val (.slice none 0 0))])))]) (.seq (.reg [(.mk (some
  4) none (.faddr 0 1 false (.t 1))), (.mk (some 5) none (.load 1 false (.t 4))), (.mk (some 6) none (.call false 53 [(.t 5)])), (.mk (some 7) none (.faddr 0 1 false (.t 3))), (.mk none none (.store 1 (.t 7) (.t 6)))])
  (.seq (.reg [(.mk (some 8) none (.faddr 1 1 false (.t 1))), (.mk (some 9) none (.load 1 false (.t 8))), (.mk (some 10) none (.call false 54 [(.t 9)])), (.mk (some 11) none (.faddr 1 1 false (.t 3))), (.mk none none
  (.store 1 (.t 11) (.t 10)))]) (.seq (.reg [(.mk (some 12) none (.load 2 true (.t 3))), (.mk (some 2) none (.stro 2 2 (.t 12)))]) .ret))))),
  [(.c 2 2 true)]⟩
theorem i15 : IsFun Tryz.prog 15 g15 := ⟨Tryz.f15, _, [], Tryz.func15, by kernel_rfl, rfl, by kernel_rfl, by kernel_rfl, rfl⟩
def g16 : GFun := ⟨⟨9, [1,2]⟩,
  (.seq (.reg [(.mk (some 1) none (.boxro 1 (.t 0))), (.mk (some 2) none (.allocr 1))]) (.seq (.reg [(.mk (some 3) none (.alloc 1 (.agg [(.val (.slice none 0 0))])))]) (.seq (.reg [(.mk (some 4) none (.faddr 0 1 false
  (.t 1))), (.mk (some 5) none (.load 1 false (.t 4))), (.mk (some 6) none (.call false 55 [(.t 5)])), (.mk (some 7) none (.faddr 0 1 false (.t 3))), (.mk none none (.store 1 (.t 7) (.t 6)))]) (.seq (.reg [(.mk (some 8)
  none (.load 1 true (.t 3))), (.mk (some 2) none (.stro 1 2 (.t 8)))]) .ret)))),
  [(.c 2 1 true)]⟩
theorem i16 : IsFun Tryz.prog 16 g16 := ⟨Tryz.f16, _, [], Tryz.func16, by kernel_rfl, rfl, by kernel_rfl, by kernel_rfl, rfl⟩
def g18 : GFun := ⟨⟨49, [3,4,5,8,11,12]⟩,
  (.seq (.reg [(.mk (some 3) none (.boxro 2 (.t 0))), (.mk (some 4) none (.boxro 1 (.t 1))), (.mk (some 5) none (.boxro 2 (.t 2))), (.mk (some 6) none (.mov (.k (.val (.slice none 0 0)))))]) (.seq (.reg [(.mk (some 14)
  none (.bslice 2 [] 0 true [])), (.mk (some 7) none (.mov (.t 14)))]) (.seq (.reg [(.mk (some 16) none (.load 2 true (.t 3))), (.mk (some 17) none (.load 1 true (.t 4))), (.mk (some 18) none (.load 2 true (.t 5))),
  (.mk (some 19) none (.call false 56 [(.t 16), (.t 17), (.t 18)])), (.mk (some 15) none (.mov (.t 19))), (.mk (some 20) none (.ext (.t 15) 0)), (.mk (some 21) none (.ext (.t 15) 1)), (.mk (some 8) none (.allocr 8)),
  (.mk (some 8) none (.stro 8 8 (.t 20))), (.mk (some 9) none (.mov (.t 21)))]) (.seq (.seq (.reg [(.mk (some 22) none (.mov (.t 9))), (.mk (some 23) none (.not (.t 22)))]) (.cond 23 (.seq (.reg [(.mk (some 24) none
  (.mov (.t 7))), (.mk (some 6) none (.mov (.t 24)))]) .ret) .skip)) (.seq (.seq (.reg [(.mk (some 25) none (.faddr 1 7 true (.t 8))), (.mk (some 26) none (.load 7 true (.t 25))), (.mk (some 27) none (.call false 57
  [(.t 26)])), (.mk (some 28) none (.len (.t 27))), (.mk (some 29) none (.mov (.k (.val (.int .i64 0)))))]) (.block 0 (.loop (.seq (.reg [(.mk (some 30) none (.bin .lss (.t 29) (.t 28)))]) (.seq (.cond 30 .skip (.exit
  0)) (.seq (.block 1 (.seq (.reg [(.mk (some 31) none (.iaddr 2 (.t 27) (.t 29))), (.mk (some 32) none (.load 2 true (.t 31))), (.mk (some 11) none (.allocr 2)), (.mk (some 11) none (.stro 2 11 (.t 32)))]) (.seq (.reg
  [(.mk (some 34) none (.load 2 true (.t 3))), (.mk (some 35) none (.load 1 true (.t 4))), (.mk (some 36) none (.faddr 0 1 false (.t 8))), (.mk (some 37) none (.load 1 false (.t 36))), (.mk (some 38) none (.load 2 true
  (.t 11))), (.mk (some 39) none (.call false 58 [(.t 34), (.t 35), (.t 37), (.t 38)])), (.mk (some 33) none (.mov (.t 39))), (.mk (some 40) none (.ext (.t 33) 0)), (.mk (some 41) none (.ext (.t 33) 1)), (.mk (some 12)
  none (.allocr 2)), (.mk (some 12) none (.stro 2 12 (.t 40))), (.mk (some 13) none (.mov (.t 41)))]) (.seq (.reg [(.mk (some 42) none (.mov (.t 13)))]) (.cond 42 (.reg [(.mk (some 43) none (.mov (.t 7))), (.mk (some
  44) none (.load 2 true (.t 12))), (.mk (some 45) none (.bslice 2 [] 1 true [(0, (.t 44))])), (.mk (some 46) none (.append 2 24 (.t 43) (.t 45))), (.mk (some 7) none (.mov (.t 46)))]) .skip))))) (.reg [(.mk (some 47)
  none (.bin .add (.t 29) (.k (.val (.int .i64 1))))), (.mk (some 29) none (.mov (.t 47)))]))))))) (.seq (.reg [(.mk (some 48) none (.mov (.t 7))), (.mk (some 6) none (.mov (.t 48)))]) .ret)))))),
  [(.t 6)]⟩
theorem i18 : IsFun Tryz.prog 18 g18 := ⟨Tryz.f18, _, [], Tryz.func18, by kernel_rfl, rfl, by kernel_rfl, by kernel_rfl, rfl⟩
def g20 : GFun := ⟨⟨17, [2,3]⟩,
  (.seq (.reg [(.mk (some 2) none (.boxro 2 (.t 0))), (.mk (some 3) none (.boxro 2 (.t 1))), (.mk (some 4) none (.mov (.k (.val (.bool false)))))]) (.seq (.seq (.reg [(.mk (some 5) none (.faddr 0 1 false (.t 2))), (.mk
  (some 6) none (.load 1 false (.t 5))), (.mk (some 7) none (.faddr 0 1 false (.t 3))), (.mk (some 8) none (.load 1 false (.t 7))), (.mk (some 9) none (.call false 60 [(.t 6), (.t 8)])), (.mk (some 10) none (.not (.t
  9)))]) (.cond 10 (.seq (.reg [(.mk (some 4) none (.mov (.k (.val (.bool false)))))]) .ret) .skip)) (.seq (.seq (.reg [(.mk (some 11) none (.faddr 1 1 false (.t 2))), (.mk (some 12) none (.load 1 false (.t 11))), (.mk
  (some 13) none (.faddr 1 1 false (.t 3))), (.mk (some 14) none (.load 1 false (.t 13))), (.mk (some 15) none (.call false 61 [(.t 12), (.t 14)])), (.mk (some 16) none (.not (.t 15)))]) (.cond 16 (.seq (.reg [(.mk
  (some 4) none (.mov (.k (.val (.bool false)))))]) .ret) .skip)) (.seq (.reg [(.mk (some 4) none (.mov (.k (.val (.bool true)))))]) .ret)))),
  [(.t 4)]⟩
theorem i20 : IsFun Tryz.prog 20 g20 := ⟨Tryz.f20, _, [], Tryz.func20, by kernel_rfl, rfl, by kernel_rfl, by kernel_rfl, rfl⟩
def g21 : GFun := ⟨⟨11, [2,3]⟩,
  (.seq (.reg [(.mk (some 2) none (.boxro 1 (.t 0))), (.mk (some 3) none (.boxro 1 (.t 1))), (.mk (some 4) none (.mov (.k (.val (.bool false)))))]) (.seq (.seq (.reg [(.mk (some 5) none (.faddr 0 1 false (.t 2))), (.mk
  (some 6) none (.load 1 false (.t 5))), (.mk (some 7) none (.faddr 0 1 false (.t 3))), (.mk (some 8) none (.load 1 false (.t 7))), (.mk (some 9) none (.call false 62 [(.t 6), (.t 8)])), (.mk (some 10) none (.not (.t
  9)))]) (.cond 10 (.seq (.reg [(.mk (some 4) none (.mov (.k (.val (.bool false)))))]) .ret) .skip)) (.seq (.reg [(.mk (some 4) none (.mov (.k (.val (.bool true)))))]) .ret))),
  [(.t 4)]⟩
theorem i21 : IsFun Tryz.prog 21 g21 := ⟨Tryz.f21, _, [], Tryz.func21, by kernel_rfl, rfl, by kernel_rfl, by kernel_rfl, rfl⟩
def g26 : GFun := ⟨⟨34, [4,5]⟩,
  (.seq (.reg [(.mk (some 4) none (.boxro 2 (.t 0))), (.mk (some 5) none (.boxro 1 (.t 1))), (.mk (some 8) none (.mov (.k (.val (.bool false)))))]) (.seq (.reg [(.mk (some 10) none (.load 2 true (.t 4))), (.mk (some 11)
  none (.load 1 true (.t 5))), (.mk (some 12) none (.call false 28 [(.t 10), (.t 11)])), (.mk (some 9) none (.mov (.t 12)))]) (.seq (.seq (.reg [(.mk (some 13) none (.mov (.t 2))), (.mk (some 14) none (.mov (.t 9))),
  (.mk (some 15) none (.len (.t 14))), (.mk (some 16) none (.bin .sub (.t 15) (.k (.val (.int .i64 1))))), (.mk (some 17) none (.call false 67 [(.t 13), (.k (.val (.int .i64 0))), (.t 16)])), (.mk (some 18) none (.not
  (.t 17))), (.mk (some 19) none (.mov (.t 18))), (.mk (some 20) (some (19, false)) (.mov (.t 3))), (.mk (some 21) (some (19, false)) (.mov (.t 9))), (.mk (some 22) (some (19, false)) (.len (.t 21))), (.mk (some 23)
  (some (19, false)) (.bin .sub (.t 22) (.k (.val (.int .i64 1))))), (.mk (some 24) (some (19, false)) (.call false 67 [(.t 20), (.k (.val (.int .i64 0))), (.t 23)])), (.mk (some 25) (some (19, false)) (.not (.t 24))),
  (.mk (some 26) none (.pick (.t 19) (.k (.val (.bool true))) (.t 25)))]) (.cond 26 (.seq (.reg [(.mk (some 8) none (.mov (.k (.val (.bool false)))))]) .ret) .skip)) (.seq (.reg [(.mk (some 27) none (.mov (.t 9))), (.mk
  (some 28) none (.mov (.t 3))), (.mk (some 29) none (.call false 68 [(.t 27), (.t 28)])), (.mk (some 30) none (.mov (.t 2))), (.mk (some 31) none (.iaddr 1 (.t 29) (.t 30))), (.mk (some 32) none (.load 1 false (.t
  31))), (.mk (some 33) none (.bin .gtr (.t 32) (.k (.val (.int .i64 0))))), (.mk (some 8) none (.mov (.t 33)))]) .ret)))),
  [(.t 8)]⟩
theorem i26 : IsFun Tryz.prog 26 g26 := ⟨Tryz.f26, _, [], Tryz.func26, by kernel_rfl, rfl, by kernel_rfl, by kernel_rfl, rfl⟩
def g27 : GFun := ⟨⟨35, [4,5]⟩,
  (.seq (.reg [(.mk (some 4) none (.boxro 2 (.t 0))), (.mk (some 5) none (.boxro 1 (.t 1))), (.mk (some 8) none (.mov (.k (.val (.bool false)))))]) (.seq (.reg [(.mk (some 10) none (.load 2 true (.t 4))), (.mk (some 11)
  none (.load 1 true (.t 5))), (.mk (some 12) none (.call false 29 [(.t 10), (.t 11)])), (.mk (some 13) none (.call false 69 [(.t 12)])), (.mk (some 9) none (.mov (.t 13)))]) (.seq (.reg [(.mk (some 14) none (.mov (.t
  2))), (.mk (some 15) none (.mov (.t 9))), (.mk (some 16) none (.len (.t 15))), (.mk (some 17) none (.bin .sub (.t 16) (.k (.val (.int .i64 1))))), (.mk (some 18) none (.call false 70 [(.t 14), (.k (.val (.int .i64
  0))), (.t 17)])), (.mk (some 19) none (.mov (.t 18))), (.mk (some 20) (some (19, true)) (.mov (.t 3))), (.mk (some 21) (some (19, true)) (.mov (.t 9))), (.mk (some 22) (some (19, true)) (.len (.t 21))), (.mk (some 23)
  (some (19, true)) (.bin .sub (.t 22) (.k (.val (.int .i64 1))))), (.mk (some 24) (some (19, true)) (.call false 70 [(.t 20), (.k (.val (.int .i64 0))), (.t 23)])), (.mk (some 25) none (.pick (.t 19) (.t 24) (.k (.val
  (.bool false))))), (.mk (some 26) none (.mov (.t 25))), (.mk (some 27) (some (26, true)) (.mov (.t 9))), (.mk (some 28) (some (26, true)) (.mov (.t 3))), (.mk (some 29) (some (26, true)) (.call false 71 [(.t 27), (.t
  28)])), (.mk (some 30) (some (26, true)) (.mov (.t 2))), (.mk (some 31) (some (26, true)) (.iaddr 1 (.t 29) (.t 30))), (.mk (some 32) (some (26, true)) (.load 1 false (.t 31))), (.mk (some 33) (some (26, true)) (.bin
  .gtr (.t 32) (.k (.val (.int .i64 0))))), (.mk (some 34) none (.pick (.t 26) (.t 33) (.k (.val (.bool false))))), (.mk (some 8) none (.mov (.t 34)))]) .ret))),
  [(.t 8)]⟩
theorem i27 : IsFun Tryz.prog 27 g27 := ⟨Tryz.f27, _, [], Tryz.func27, by kernel_rfl, rfl, by kernel_rfl, by kernel_rfl, rfl⟩
def g28 : GFun := ⟨⟨49, [2,3]⟩,
  (.seq (.reg [(.mk (some 2) none (.boxro 2 (.t 0))), (.mk (some 3) none (.boxro 1 (.t 1))), (.mk (some 4) none (.mov (.k (.val (.slice none 0 0)))))]) (.seq (.reg [(.mk (some 11) none (.load 2 true (.t 2))), (.mk (some
  12) none (.load 1 true (.t 3))), (.mk (some 13) none (.call false 72 [(.t 11), (.t 12)])), (.mk (some 5) none (.mov (.t 13)))]) (.seq (.reg [(.mk (some 14) none (.bslice 1 [] 0 false [])), (.mk (some 6) none (.mov (.t
  14)))]) (.seq (.seq (.reg [(.mk (some 7) none (.mov (.k (.val (.int .i64 0)))))]) (.block 0 (.loop (.seq (.seq (.reg [(.mk (some 15) none (.mov (.t 7))), (.mk (some 16) none (.mov (.t 5))), (.mk (some 17) none (.len
  (.t 16))), (.mk (some 18) none (.bin .lss (.t 15) (.t 17)))]) (.cond 18 .skip (.exit 0))) (.seq (.block 1 (.seq (.reg [(.mk (some 23) none (.mov (.t 5))), (.mk (some 24) none (.mov (.t 7))), (.mk (some 25) none
  (.iaddr 2 (.t 23) (.t 24))), (.mk (some 21) none (.load 2 true (.t 2))), (.mk (some 22) none (.load 1 true (.t 3))), (.mk (some 26) none (.load 2 true (.t 25))), (.mk (some 27) none (.call true 14 [(.t 21), (.t 22),
  (.t 26)])), (.mk (some 8) none (.mov (.t 27)))]) (.seq (.reg [(.mk (some 28) none (.bslice 1 [] 0 false [])), (.mk (some 9) none (.mov (.t 28)))]) (.seq (.seq (.reg [(.mk (some 10) none (.mov (.k (.val (.int .i64
  0)))))]) (.block 2 (.loop (.seq (.seq (.reg [(.mk (some 29) none (.mov (.t 10))), (.mk (some 30) none (.mov (.t 8))), (.mk (some 31) none (.len (.t 30))), (.mk (some 32) none (.bin .lss (.t 29) (.t 31)))]) (.cond 32
  .skip (.exit 2))) (.seq (.block 3 (.reg [(.mk (some 35) none (.mov (.t 9))), (.mk (some 36) none (.mov (.t 5))), (.mk (some 37) none (.mov (.t 8))), (.mk (some 38) none (.mov (.t 10))), (.mk (some 39) none (.iaddr 2
  (.t 37) (.t 38))), (.mk (some 40) none (.load 2 true (.t 39))), (.mk (some 41) none (.call false 73 [(.t 36), (.t 40)])), (.mk (some 42) none (.bslice 1 [] 1 false [(0, (.t 41))])), (.mk (some 43) none (.append 1 8
  (.t 35) (.t 42))), (.mk (some 9) none (.mov (.t 43)))])) (.reg [(.mk (some 33) none (.mov (.t 10))), (.mk (some 34) none (.bin .add (.t 33) (.k (.val (.int .i64 1))))), (.mk (some 10) none (.mov (.t 34)))])))))) (.reg
  [(.mk (some 44) none (.mov (.t 6))), (.mk (some 45) none (.mov (.t 9))), (.mk (some 46) none (.bslice 1 [] 1 false [(0, (.t 45))])), (.mk (some 47) none (.append 1 24 (.t 44) (.t 46))), (.mk (some 6) none (.mov (.t
  47)))]))))) (.reg [(.mk (some 19) none (.mov (.t 7))), (.mk (some 20) none (.bin .add (.t 19) (.k (.val (.int .i64 1))))), (.mk (some 7) none (.mov (.t 20)))])))))) (.seq (.reg [(.mk (some 48) none (.mov (.t 6))),
  (.mk (some 4) none (.mov (.t 48)))]) .ret))))),
  [(.t 4)]⟩
theorem i28 : IsFun Tryz.prog 28 g28 := ⟨Tryz.f28, _, [], Tryz.func28, by kernel_rfl, rfl, by kernel_rfl, by kernel_rfl, rfl⟩
def g29 : GFun := ⟨⟨45, [2,3,8,11]⟩,
  (.seq (.reg [(.mk (some 2) none (.boxro 2 (.t 0))), (.mk (some 3) none (.boxro 1 (.t 1))), (.mk (some 4) none (.mov (.k (.val (.slice none 0 0)))))]) (.seq (.reg [(.mk (some 12) none (.load 2 true (.t 2))), (.mk (some
  13) none (.load 1 true (.t 3))), (.mk (some 14) none (.call false 74 [(.t 12), (.t 13)])), (.mk (some 15) none (.bslice 1 [] 0 false [])), (.mk (some 5) none (.mov (.t 14))), (.mk (some 6) none (.mov (.t 15)))]) (.seq
  (.seq (.reg [(.mk (some 16) none (.mov (.t 5))), (.mk (some 17) none (.len (.t 16))), (.mk (some 18) none (.mov (.k (.val (.int .i64 0)))))]) (.block 0 (.loop (.seq (.reg [(.mk (some 19) none (.bin .lss (.t 18) (.t
  17)))]) (.seq (.cond 19 .skip (.exit 0)) (.seq (.block 1 (.seq (.reg [(.mk (some 20) none (.iaddr 2 (.t 16) (.t 18))), (.mk (some 21) none (.load 2 true (.t 20))), (.mk (some 8) none (.allocr 2)), (.mk (some 8) none
  (.stro 2 8 (.t 21)))]) (.seq (.reg [(.mk (some 22) none (.bslice 1 [] 0 false [])), (.mk (some 9) none (.mov (.t 22)))]) (.seq (.seq (.reg [(.mk (some 23) none (.load 2 true (.t 2))), (.mk (some 24) none (.load 1 true
  (.t 3))), (.mk (some 25) none (.load 2 true (.t 8))), (.mk (some 26) none (.call false 18 [(.t 23), (.t 24), (.t 25)])), (.mk (some 27) none (.len (.t 26))), (.mk (some 28) none (.mov (.k (.val (.int .i64 0)))))])
  (.block 2 (.loop (.seq (.reg [(.mk (some 29) none (.bin .lss (.t 28) (.t 27)))]) (.seq (.cond 29 .skip (.exit 2)) (.seq (.block 3 (.seq (.reg [(.mk (some 30) none (.iaddr 2 (.t 26) (.t 28))), (.mk (some 31) none
  (.load 2 true (.t 30))), (.mk (some 11) none (.allocr 2)), (.mk (some 11) none (.stro 2 11 (.t 31)))]) (.reg [(.mk (some 32) none (.mov (.t 9))), (.mk (some 33) none (.mov (.t 5))), (.mk (some 34) none (.load 2 true
  (.t 11))), (.mk (some 35) none (.call false 75 [(.t 33), (.t 34)])), (.mk (some 36) none (.bslice 1 [] 1 false [(0, (.t 35))])), (.mk (some 37) none (.append 1 8 (.t 32) (.t 36))), (.mk (some 9) none (.mov (.t
  37)))]))) (.reg [(.mk (some 38) none (.bin .add (.t 28) (.k (.val (.int .i64 1))))), (.mk (some 28) none (.mov (.t 38)))]))))))) (.reg [(.mk (some 39) none (.mov (.t 6))), (.mk (some 40) none (.mov (.t 9))), (.mk
  (some 41) none (.bslice 1 [] 1 false [(0, (.t 40))])), (.mk (some 42) none (.append 1 24 (.t 39) (.t 41))), (.mk (some 6) none (.mov (.t 42)))]))))) (.reg [(.mk (some 43) none (.bin .add (.t 18) (.k (.val (.int .i64
  1))))), (.mk (some 18) none (.mov (.t 43)))]))))))) (.seq (.reg [(.mk (some 44) none (.mov (.t 6))), (.mk (some 4) none (.mov (.t 44)))]) .ret)))),
  [(.t 4)]⟩
theorem i29 : IsFun Tryz.prog 29 g29 := ⟨Tryz.f29, _, [], Tryz.func29, by kernel_rfl, rfl, by kernel_rfl, by kernel_rfl, rfl⟩
def g35 : GFun := ⟨⟨26, []⟩,
  (.seq (.reg [(.mk (some 4) none (.mov (.k (.val (.bool false)))))]) (.seq (.seq (.reg [(.mk (some 6) none (.mov (.t 0))), (.mk (some 7) none (.len (.t 6))), (.mk (some 8) none (.mov (.t 1))), (.mk (some 9) none (.len
  (.t 8))), (.mk (some 10) none (.bin .neq (.t 7) (.t 9)))]) (.cond 10 (.seq (.reg [(.mk (some 4) none (.mov (.k (.val (.bool false)))))]) .ret) .skip)) (.seq (.seq (.reg [(.mk (some 5) none (.mov (.k (.val (.int .i64
  0)))))]) (.block 0 (.loop (.seq (.seq (.reg [(.mk (some 11) none (.mov (.t 5))), (.mk (some 12) none (.mov (.t 0))), (.mk (some 13) none (.len (.t 12))), (.mk (some 14) none (.bin .lss (.t 11) (.t 13)))]) (.cond 14
  .skip (.exit 0))) (.seq (.block 1 (.seq (.reg [(.mk (some 17) none (.mov (.t 0))), (.mk (some 18) none (.mov (.t 5))), (.mk (some 19) none (.iaddr 1 (.t 17) (.t 18))), (.mk (some 21) none (.mov (.t 1))), (.mk (some
  22) none (.mov (.t 5))), (.mk (some 23) none (.iaddr 1 (.t 21) (.t 22))), (.mk (some 20) none (.load 1 false (.t 19))), (.mk (some 24) none (.load 1 false (.t 23))), (.mk (some 25) none (.bin .neq (.t 20) (.t 24)))])
  (.cond 25 (.seq (.reg [(.mk (some 4) none (.mov (.k (.val (.bool false)))))]) .ret) .skip))) (.reg [(.mk (some 15) none (.mov (.t 5))), (.mk (some 16) none (.bin .add (.t 15) (.k (.val (.int .i64 1))))), (.mk (some 5)
  none (.mov (.t 16)))])))))) (.seq (.reg [(.mk (some 4) none (.mov (.k (.val (.bool true)))))]) .ret)))),
  [(.t 4)]⟩
theorem i35 : IsFun Tryz.prog 35 g35 := ⟨Tryz.f35, _, [], Tryz.func35, by kernel_rfl, rfl, by kernel_rfl, by kernel_rfl, rfl⟩
def g45 : GFun := ⟨⟨22, []⟩,
  (.seq (.reg [(.mk (some 2) none (.mov (.k (.val (.slice none 0 0)))))]) (.seq (.reg [(.mk (some 5) none (.mov (.t 0))), (.mk (some 6) none (.len (.t 5))), (.mk (some 7) none (.mkslice 1 8 (.val (.int .i64 0)) (.t 6)
  (.t 6))), (.mk (some 3) none (.mov (.t 7)))]) (.seq (.seq (.reg [(.mk (some 4) none (.mov (.k (.val (.int .i64 0)))))]) (.block 0 (.loop (.seq (.seq (.reg [(.mk (some 8) none (.mov (.t 4))), (.mk (some 9) none (.mov
  (.t 0))), (.mk (some 10) none (.len (.t 9))), (.mk (some 11) none (.bin .lss (.t 8) (.t 10)))]) (.cond 11 .skip (.exit 0))) (.seq (.block 1 (.reg [(.mk (some 14) none (.mov (.t 3))), (.mk (some 15) none (.mov (.t
  4))), (.mk (some 16) none (.mov (.t 0))), (.mk (some 17) none (.mov (.t 4))), (.mk (some 18) none (.iaddr 1 (.t 16) (.t 17))), (.mk (some 19) none (.load 1 false (.t 18))), (.mk (some 20) none (.iaddr 1 (.t 14) (.t
  15))), (.mk none none (.store 1 (.t 20) (.t 19)))])) (.reg [(.mk (some 12) none (.mov (.t 4))), (.mk (some 13) none (.bin .add (.t 12) (.k (.val (.int .i64 1))))), (.mk (some 4) none (.mov (.t 13)))])))))) (.seq (.reg
  [(.mk (some 21) none (.mov (.t 3))), (.mk (some 2) none (.mov (.t 21)))]) .ret)))),
  [(.t 2)]⟩
theorem i45 : IsFun Tryz.prog 45 g45 := ⟨Tryz.f45, _, [], Tryz.func45, by kernel_rfl, rfl, by kernel_rfl, by kernel_rfl, rfl⟩
def g47 : GFun := ⟨⟨27, []⟩,
  (.seq (.reg [(.mk (some 4) none (.mov (.k (.val (.int .i64 0)))))]) (.seq (.reg [(.mk (some 6) none (.mov (.t 1))), (.mk (some 7) none (.mov (.t 0))), (.mk (some 8) none (.len (.t 7))), (.mk (some 9) none (.bin .sub
  (.t 6) (.t 8))), (.mk (some 1) none (.mov (.t 9)))]) (.seq (.seq (.reg [(.mk (some 10) none (.mov (.t 1))), (.mk (some 11) none (.bin .lss (.t 10) (.k (.val (.int .i64 0)))))]) (.cond 11 (.seq (.reg [(.mk (some 4)
  none (.mov (.k (.val (.int .i64 (-1))))))]) .ret) .skip)) (.seq (.seq (.reg [(.mk (some 5) none (.mov (.k (.val (.int .i64 0)))))]) (.block 0 (.loop (.seq (.seq (.reg [(.mk (some 12) none (.mov (.t 5))), (.mk (some
  13) none (.mov (.t 0))), (.mk (some 14) none (.len (.t 13))), (.mk (some 15) none (.bin .lss (.t 12) (.t 14)))]) (.cond 15 .skip (.exit 0))) (.seq (.block 1 (.seq (.reg [(.mk (some 18) none (.mov (.t 0))), (.mk (some
  19) none (.mov (.t 5))), (.mk (some 20) none (.iaddr 2 (.t 18) (.t 19))), (.mk (some 21) none (.load 2 true (.t 20))), (.mk (some 22) none (.mov (.t 1))), (.mk (some 23) none (.call false 96 [(.t 21), (.t 22)])), (.mk
  (some 1) none (.mov (.t 23)))]) (.seq (.reg [(.mk (some 24) none (.mov (.t 1))), (.mk (some 25) none (.bin .lss (.t 24) (.k (.val (.int .i64 0)))))]) (.cond 25 (.seq (.reg [(.mk (some 4) none (.mov (.k (.val (.int
  .i64 (-1))))))]) .ret) .skip)))) (.reg [(.mk (some 16) none (.mov (.t 5))), (.mk (some 17) none (.bin .add (.t 16) (.k (.val (.int .i64 1))))), (.mk (some 5) none (.mov (.t 17)))])))))) (.seq (.reg [(.mk (some 26)
  none (.mov (.t 1))), (.mk (some 4) none (.mov (.t 26)))]) .ret))))),
  [(.t 4)]⟩
theorem i47 : IsFun Tryz.prog 47 g47 := ⟨Tryz.f47, _, [], Tryz.func47, by kernel_rfl, rfl, by kernel_rfl, by kernel_rfl, rfl⟩
def g48 : GFun := ⟨⟨27, []⟩,
  (.seq (.reg [(.mk (some 4) none (.mov (.k (.val (.int .i64 0)))))]) (.seq (.reg [(.mk (some 6) none (.mov (.t 1))), (.mk (some 7) none (.mov (.t 0))), (.mk (some 8) none (.len (.t 7))), (.mk (some 9) none (.bin .sub
  (.t 6) (.t 8))), (.mk (some 1) none (.mov (.t 9)))]) (.seq (.seq (.reg [(.mk (some 10) none (.mov (.t 1))), (.mk (some 11) none (.bin .lss (.t 10) (.k (.val (.int .i64 0)))))]) (.cond 11 (.seq (.reg [(.mk (some 4)
  none (.mov (.k (.val (.int .i64 (-1))))))]) .ret) .skip)) (.seq (.seq (.reg [(.mk (some 5) none (.mov (.k (.val (.int .i64 0)))))]) (.block 0 (.loop (.seq (.seq (.reg [(.mk (some 12) none (.mov (.t 5))), (.mk (some
  13) none (.mov (.t 0))), (.mk (some 14) none (.len (.t 13))), (.mk (some 15) none (.bin .lss (.t 12) (.t 14)))]) (.cond 15 .skip (.exit 0))) (.seq (.block 1 (.seq (.reg [(.mk (some 18) none (.mov (.t 0))), (.mk (some
  19) none (.mov (.t 5))), (.mk (some 20) none (.iaddr 6 (.t 18) (.t 19))), (.mk (some 21) none (.load 6 true (.t 20))), (.mk (some 22) none (.mov (.t 1))), (.mk (some 23) none (.call false 97 [(.t 21), (.t 22)])), (.mk
  (some 1) none (.mov (.t 23)))]) (.seq (.reg [(.mk (some 24) none (.mov (.t 1))), (.mk (some 25) none (.bin .lss (.t 24) (.k (.val (.int .i64 0)))))]) (.cond 25 (.seq (.reg [(.mk (some 4) none (.mov (.k (.val (.int
  .i64 (-1))))))]) .ret) .skip)))) (.reg [(.mk (some 16) none (.mov (.t 5))), (.mk (some 17) none (.bin .add (.t 16) (.k (.val (.int .i64 1))))), (.mk (some 5) none (.mov (.t 17)))])))))) (.seq (.reg [(.mk (some 26)
  none (.mov (.t 1))), (.mk (some 4) none (.mov (.t 26)))]) .ret))))),
  [(.t 4)]⟩
theorem i48 : IsFun Tryz.prog 48 g48 := ⟨Tryz.f48, _, [], Tryz.func48, by kernel_rfl, rfl, by kernel_rfl, by kernel_rfl, rfl⟩
def g49 : GFun := ⟨⟨27, []⟩,
  (.seq (.reg [(.mk (some 4) none (.mov (.k (.val (.int .i64 0)))))]) (.seq (.reg [(.mk (some 6) none (.mov (.t 1))), (.mk (some 7) none (.mov (.t 0))), (.mk (some 8) none (.len (.t 7))), (.mk (some 9) none (.bin .sub
  (.t 6) (.t 8))), (.mk (some 1) none (.mov (.t 9)))]) (.seq (.seq (.reg [(.mk (some 10) none (.mov (.t 1))), (.mk (some 11) none (.bin .lss (.t 10) (.k (.val (.int .i64 0)))))]) (.cond 11 (.seq (.reg [(.mk (some 4)
  none (.mov (.k (.val (.int .i64 (-1))))))]) .ret) .skip)) (.seq (.seq (.reg [(.mk (some 5) none (.mov (.k (.val (.int .i64 0)))))]) (.block 0 (.loop (.seq (.seq (.reg [(.mk (some 12) none (.mov (.t 5))), (.mk (some
  13) none (.mov (.t 0))), (.mk (some 14) none (.len (.t 13))), (.mk (some 15) none (.bin .lss (.t 12) (.t 14)))]) (.cond 15 .skip (.exit 0))) (.seq (.block 1 (.seq (.reg [(.mk (some 18) none (.mov (.t 0))), (.mk (some
  19) none (.mov (.t 5))), (.mk (some 20) none (.iaddr 6 (.t 18) (.t 19))), (.mk (some 21) none (.load 6 true (.t 20))), (.mk (some 22) none (.mov (.t 1))), (.mk (some 23) none (.call false 98 [(.t 21), (.t 22)])), (.mk
  (some 1) none (.mov (.t 23)))]) (.seq (.reg [(.mk (some 24) none (.mov (.t 1))), (.mk (some 25) none (.bin .lss (.t 24) (.k (.val (.int .i64 0)))))]) (.cond 25 (.seq (.reg [(.mk (some 4) none (.mov (.k (.val (.int
  .i64 (-1))))))]) .ret) .skip)))) (.reg [(.mk (some 16) none (.mov (.t 5))), (.mk (some 17) none (.bin .add (.t 16) (.k (.val (.int .i64 1))))), (.mk (some 5) none (.mov (.t 17)))])))))) (.seq (.reg [(.mk (some 26)
  none (.mov (.t 1))), (.mk (some 4) none (.mov (.t 26)))]) .ret))))),
  [(.t 4)]⟩
theorem i49 : IsFun Tryz.prog 49 g49 := ⟨Tryz.f49, _, [], Tryz.func49, by kernel_rfl, rfl, by kernel_rfl, by kernel_rfl, rfl⟩
def g50 : GFun := ⟨⟨86, [3,4,5,6,8,13,15]⟩,
  (.seq (.reg [(.mk (some 3) none (.boxro 2 (.t 0))), (.mk (some 4) none (.boxro 1 (.t 1))), (.mk (some 5) none (.boxro 2 (.t 2))), (.mk (some 6) none (.allocr 8)), (.mk (some 7) none (.mov (.k (.val (.bool false)))))])
  (.seq (.reg [(.mk (some 18) none (.load 2 true (.t 3))), (.mk (some 19) none (.load 1 true (.t 4))), (.mk (some 20) none (.load 2 true (.t 5))), (.mk (some 21) none (.call false 99 [(.t 18), (.t 19), (.t 20)])), (.mk
  (some 17) none (.mov (.t 21))), (.mk (some 22) none (.ext (.t 17) 0)), (.mk (some 23) none (.ext (.t 17) 1)), (.mk (some 8) none (.allocr 4)), (.mk (some 8) none (.stro 4 8 (.t 22))), (.mk (some 9) none (.mov (.t
  23)))]) (.seq (.reg [(.mk (some 24) none (.load 1 true (.t 4))), (.mk (some 25) none (.faddr 0 1 false (.t 5))), (.mk (some 26) none (.load 1 false (.t 25))), (.mk (some 27) none (.call false 100 [(.t 24), (.t 26)])),
  (.mk (some 10) none (.mov (.t 27)))]) (.seq (.seq (.reg [(.mk (some 28) none (.mov (.t 9))), (.mk (some 29) none (.not (.t 28))), (.mk (some 30) none (.mov (.t 29))), (.mk (some 31) (some (30, false)) (.faddr 2 1
  false (.t 8))), (.mk (some 32) (some (30, false)) (.load 1 false (.t 31))), (.mk (some 33) (some (30, false)) (.bin .eql (.t 32) (.k (.val (.int .i64 3))))), (.mk (some 34) none (.pick (.t 30) (.k (.val (.bool true)))
  (.t 33)))]) (.cond 34 (.seq (.reg [(.mk (some 35) none (.build [(.val (.int .i64 0)), (.val (.int .i64 0)), (.val (.int .i64 0)), (.val (.int .i64 0)), (.val (.int .i64 0)), (.val (.string (ByteArray.mk #[]))), (.val
  (.string (ByteArray.mk #[]))), (.val (.slice none 0 0))] [])), (.mk (some 6) none (.stro 8 6 (.t 35))), (.mk (some 7) none (.mov (.k (.val (.bool false)))))]) .ret) .skip)) (.seq (.reg [(.mk (some 36) none (.mov (.t
  10))), (.mk (some 11) none (.mov (.t 36)))]) (.seq (.reg [(.mk (some 12) none (.mov (.k (.val (.int .i64 0)))))]) (.seq (.seq (.reg [(.mk (some 37) none (.faddr 2 1 false (.t 8))), (.mk (some 38) none (.load 1 false
  (.t 37))), (.mk (some 39) none (.bin .eql (.t 38) (.k (.val (.int .i64 1)))))]) (.cond 39 (.seq (.reg [(.mk (some 40) none (.faddr 0 1 false (.t 4))), (.mk (some 41) none (.load 1 false (.t 40))), (.mk (some 42) none
  (.mov (.t 10))), (.mk (some 43) none (.iaddr 6 (.t 41) (.t 42))), (.mk (some 44) none (.faddr 1 1 false (.t 43))), (.mk (some 45) none (.load 1 false (.t 44))), (.mk (some 11) none (.mov (.t 45)))]) (.reg [(.mk (some
  46) none (.faddr 0 1 false (.t 4))), (.mk (some 47) none (.load 1 false (.t 46))), (.mk (some 48) none (.mov (.t 10))), (.mk (some 49) none (.iaddr 6 (.t 47) (.t 48))), (.mk (some 50) none (.faddr 2 1 false (.t 49))),
  (.mk (some 51) none (.load 1 false (.t 50))), (.mk (some 12) none (.mov (.t 51)))])) .skip)) (.seq (.seq (.reg [(.mk (some 52) none (.mov (.t 11))), (.mk (some 53) none (.faddr 0 1 false (.t 4))), (.mk (some 54) none
  (.load 1 false (.t 53))), (.mk (some 55) none (.len (.t 54))), (.mk (some 56) none (.bin .sub (.t 55) (.k (.val (.int .i64 1))))), (.mk (some 57) none (.call false 67 [(.t 52), (.k (.val (.int .i64 0))), (.t 56)])),
  (.mk (some 58) none (.not (.t 57)))]) (.cond 58 (.seq (.reg [(.mk (some 59) none (.build [(.val (.int .i64 0)), (.val (.int .i64 0)), (.val (.int .i64 0)), (.val (.int .i64 0)), (.val (.int .i64 0)), (.val (.string
  (ByteArray.mk #[]))), (.val (.string (ByteArray.mk #[]))), (.val (.slice none 0 0))] [])), (.mk (some 6) none (.stro 8 6 (.t 59))), (.mk (some 7) none (.mov (.k (.val (.bool false)))))]) .ret) .skip)) (.seq (.reg
  [(.mk (some 62) none (.faddr 0 1 false (.t 4))), (.mk (some 64) none (.mov (.t 11))), (.mk (some 13) none (.allocr 6)), (.mk (some 61) none (.load 2 true (.t 3))), (.mk (some 63) none (.load 1 false (.t 62))), (.mk
  (some 65) none (.iaddr 6 (.t 63) (.t 64))), (.mk (some 66) none (.faddr 4 1 false (.t 65))), (.mk (some 67) none (.load 1 false (.t 66))), (.mk (some 68) none (.call true 101 [(.t 61), (.t 67)])), (.mk (some 60) none
  (.mov (.t 68))), (.mk (some 69) none (.ext (.t 60) 0)), (.mk (some 70) none (.ext (.t 60) 1)), (.mk (some 13) none (.stro 6 13 (.t 69))), (.mk (some 14) none (.mov (.t 70)))]) (.seq (.reg [(.mk (some 72) none (.load 6
  true (.t 13))), (.mk (some 73) none (.mov (.t 12))), (.mk (some 74) none (.faddr 1 1 false (.t 5))), (.mk (some 75) none (.load 1 false (.t 74))), (.mk (some 76) none (.build [(.val (.int .i64 0)), (.val (.string
  (ByteArray.mk #[])))] [(0, (1, (.t 73))), (1, (1, (.t 75)))])), (.mk (some 77) none (.call false 102 [(.t 72), (.t 76)])), (.mk (some 71) none (.mov (.t 77))), (.mk (some 78) none (.ext (.t 71) 0)), (.mk (some 79)
  none (.ext (.t 71) 1)), (.mk (some 15) none (.allocr 7)), (.mk (some 15) none (.stro 7 15 (.t 78))), (.mk (some 16) none (.mov (.t 79)))]) (.seq (.seq (.reg [(.mk (some 80) none (.mov (.t 16))), (.mk (some 81) none
  (.not (.t 80)))]) (.cond 81 (.seq (.reg [(.mk (some 82) none (.build [(.val (.int .i64 0)), (.val (.int .i64 0)), (.val (.int .i64 0)), (.val (.int .i64 0)), (.val (.int .i64 0)), (.val (.string (ByteArray.mk #[]))),
  (.val (.string (ByteArray.mk #[]))), (.val (.slice none 0 0))] [])), (.mk (some 6) none (.stro 8 6 (.t 82))), (.mk (some 7) none (.mov (.k (.val (.bool false)))))]) .ret) .skip)) (.seq (.reg [(.mk (some 83) none (.mov
  (.t 11))), (.mk (some 84) none (.load 7 true (.t 15))), (.mk (some 85) none (.build [(.val (.int .i64 0)), (.val (.int .i64 0)), (.val (.int .i64 0)), (.val (.int .i64 0)), (.val (.int .i64 0)), (.val (.string
  (ByteArray.mk #[]))), (.val (.string (ByteArray.mk #[]))), (.val (.slice none 0 0))] [(0, (1, (.t 83))), (1, (7, (.t 84)))])), (.mk (some 6) none (.stro 8 6 (.t 85))), (.mk (some 7) none (.mov (.k (.val (.bool
  true)))))]) .ret)))))))))))),
  [(.c 6 8 true), (.t 7)]⟩
theorem i50 : IsFun Tryz.prog 50 g50 := ⟨Tryz.f50, _, [], Tryz.func50, by kernel_rfl, rfl, by kernel_rfl, by kernel_rfl, rfl⟩
def g51 : GFun := ⟨⟨6, [1]⟩,
  (.seq (.reg [(.mk (some 1) none (.boxro 7 (.t 0))), (.mk (some 2) none (.mov (.k (.val (.slice none 0 0)))))]) (.seq (.reg [(.mk (some 3) none (.load 7 true (.t 1))), (.mk (some 4) none (.bslice 2 [] 0 true [])), (.mk
  (some 5) none (.call false 103 [(.t 3), (.t 4)])), (.mk (some 2) none (.mov (.t 5)))]) .ret)),
  [(.t 2)]⟩
theorem i51 : IsFun Tryz.prog 51 g51 := ⟨Tryz.f51, _, [], Tryz.func51, by kernel_rfl, rfl, by kernel_rfl, by kernel_rfl, rfl⟩
def g52 : GFun := ⟨⟨62, [4,5,7,8]⟩,
  (.seq (.reg [(.mk (some 4) none (.boxro 2 (.t 0))), (.mk (some 5) none (.boxro 1 (.t 1))), (.mk (some 7) none (.boxro 2 (.t 3))), (.mk (some 8) none (.allocr 2)), (.mk (some 9) none (.mov (.k (.val (.bool false)))))])
  (.seq (.seq (.reg [(.mk (some 10) none (.mov (.t 2))), (.mk (some 11) none (.faddr 0 1 false (.t 5))), (.mk (some 12) none (.load 1 false (.t 11))), (.mk (some 13) none (.len (.t 12))), (.mk (some 14) none (.bin .sub
  (.t 13) (.k (.val (.int .i64 1))))), (.mk (some 15) none (.call true 67 [(.t 10), (.k (.val (.int .i64 0))), (.t 14)])), (.mk (some 16) none (.not (.t 15))), (.mk (some 17) none (.mov (.t 16))), (.mk (some 18) (some
  (17, false)) (.faddr 0 1 false (.t 7))), (.mk (some 20) (some (17, false)) (.faddr 0 1 false (.t 5))), (.mk (some 22) (some (17, false)) (.mov (.t 2))), (.mk (some 19) (some (17, false)) (.load 1 false (.t 18))), (.mk
  (some 21) (some (17, false)) (.load 1 false (.t 20))), (.mk (some 23) (some (17, false)) (.iaddr 6 (.t 21) (.t 22))), (.mk (some 24) (some (17, false)) (.faddr 5 1 false (.t 23))), (.mk (some 25) (some (17, false))
  (.load 1 false (.t 24))), (.mk (some 26) (some (17, false)) (.len (.t 25))), (.mk (some 27) (some (17, false)) (.call true 67 [(.t 19), (.k (.val (.int .i64 0))), (.t 26)])), (.mk (some 28) (some (17, false)) (.not
  (.t 27))), (.mk (some 29) none (.pick (.t 17) (.k (.val (.bool true))) (.t 28)))]) (.cond 29 (.seq (.reg [(.mk (some 30) none (.build [(.val (.int .i64 0)), (.val (.string (ByteArray.mk #[])))] [])), (.mk (some 8)
  none (.stro 2 8 (.t 30))), (.mk (some 9) none (.mov (.k (.val (.bool false)))))]) .ret) .skip)) (.seq (.seq (.reg [(.mk (some 31) none (.faddr 0 1 false (.t 7))), (.mk (some 32) none (.load 1 false (.t 31))), (.mk
  (some 33) none (.bin .gtr (.t 32) (.k (.val (.int .i64 0)))))]) (.cond 33 (.reg [(.mk (some 34) none (.faddr 0 1 false (.t 5))), (.mk (some 36) none (.mov (.t 2))), (.mk (some 40) none (.faddr 0 1 false (.t 7))), (.mk
  (some 35) none (.load 1 false (.t 34))), (.mk (some 37) none (.iaddr 6 (.t 35) (.t 36))), (.mk (some 38) none (.faddr 5 1 false (.t 37))), (.mk (some 39) none (.load 1 false (.t 38))), (.mk (some 41) none (.load 1
  false (.t 40))), (.mk (some 42) none (.bin .sub (.t 41) (.k (.val (.int .i64 1))))), (.mk (some 43) none (.iaddr 1 (.t 39) (.t 42))), (.mk (some 44) none (.load 1 false (.t 43))), (.mk (some 2) none (.mov (.t 44)))])
  .skip)) (.seq (.seq (.reg [(.mk (some 45) none (.mov (.t 2))), (.mk (some 46) none (.faddr 0 1 false (.t 5))), (.mk (some 47) none (.load 1 false (.t 46))), (.mk (some 48) none (.len (.t 47))), (.mk (some 49) none
  (.bin .sub (.t 48) (.k (.val (.int .i64 1))))), (.mk (some 50) none (.call false 67 [(.t 45), (.k (.val (.int .i64 0))), (.t 49)])), (.mk (some 51) none (.not (.t 50)))]) (.cond 51 (.seq (.reg [(.mk (some 52) none
  (.build [(.val (.int .i64 0)), (.val (.string (ByteArray.mk #[])))] [])), (.mk (some 8) none (.stro 2 8 (.t 52))), (.mk (some 9) none (.mov (.k (.val (.bool false)))))]) .ret) .skip)) (.seq (.reg [(.mk (some 53) none
  (.faddr 0 1 false (.t 5))), (.mk (some 55) none (.mov (.t 2))), (.mk (some 59) none (.faddr 1 1 false (.t 7))), (.mk (some 54) none (.load 1 false (.t 53))), (.mk (some 56) none (.iaddr 6 (.t 54) (.t 55))), (.mk (some
  57) none (.faddr 0 1 false (.t 56))), (.mk (some 58) none (.load 1 false (.t 57))), (.mk (some 60) none (.load 1 false (.t 59))), (.mk (some 61) none (.build [(.val (.int .i64 0)), (.val (.string (ByteArray.mk #[])))]
  [(0, (1, (.t 58))), (1, (1, (.t 60)))])), (.mk (some 8) none (.stro 2 8 (.t 61))), (.mk (some 9) none (.mov (.k (.val (.bool true)))))]) .ret))))),
  [(.c 8 2 true), (.t 9)]⟩
theorem i52 : IsFun Tryz.prog 52 g52 := ⟨Tryz.f52, _, [], Tryz.func52, by kernel_rfl, rfl, by kernel_rfl, by kernel_rfl, rfl⟩
def g53 : GFun := ⟨⟨23, []⟩,
  (.seq (.reg [(.mk (some 2) none (.mov (.k (.val (.slice none 0 0)))))]) (.seq (.reg [(.mk (some 5) none (.mov (.t 0))), (.mk (some 6) none (.len (.t 5))), (.mk (some 7) none (.mkslice 2 40 (.agg [(.val (.string
  (ByteArray.mk #[]))), (.val (.slice none 0 0))]) (.t 6) (.t 6))), (.mk (some 3) none (.mov (.t 7)))]) (.seq (.seq (.reg [(.mk (some 4) none (.mov (.k (.val (.int .i64 0)))))]) (.block 0 (.loop (.seq (.seq (.reg [(.mk
  (some 8) none (.mov (.t 4))), (.mk (some 9) none (.mov (.t 0))), (.mk (some 10) none (.len (.t 9))), (.mk (some 11) none (.bin .lss (.t 8) (.t 10)))]) (.cond 11 .skip (.exit 0))) (.seq (.block 1 (.reg [(.mk (some 14)
  none (.mov (.t 3))), (.mk (some 15) none (.mov (.t 4))), (.mk (some 16) none (.mov (.t 0))), (.mk (some 17) none (.mov (.t 4))), (.mk (some 18) none (.iaddr 2 (.t 16) (.t 17))), (.mk (some 19) none (.load 2 true (.t
  18))), (.mk (some 20) none (.call false 104 [(.t 19)])), (.mk (some 21) none (.iaddr 2 (.t 14) (.t 15))), (.mk none none (.store 2 (.t 21) (.t 20)))])) (.reg [(.mk (some 12) none (.mov (.t 4))), (.mk (some 13) none
  (.bin .add (.t 12) (.k (.val (.int .i64 1))))), (.mk (some 4) none (.mov (.t 13)))])))))) (.seq (.reg [(.mk (some 22) none (.mov (.t 3))), (.mk (some 2) none (.mov (.t 22)))]) .ret)))),
  [(.t 2)]⟩
theorem i53 : IsFun Tryz.prog 53 g53 := ⟨Tryz.f53, _, [], Tryz.func53, by kernel_rfl, rfl, by kernel_rfl, by kernel_rfl, rfl⟩
def g54 : GFun := ⟨⟨23, []⟩,
  (.seq (.reg [(.mk (some 2) none (.mov (.k (.val (.slice none 0 0)))))]) (.seq (.reg [(.mk (some 5) none (.mov (.t 0))), (.mk (some 6) none (.len (.t 5))), (.mk (some 7) none (.mkslice 6 112 (.agg [(.val (.string
  (ByteArray.mk #[]))), (.val (.string (ByteArray.mk #[]))), (.val (.slice none 0 0)), (.val (.bool false)), (.val (.slice none 0 0)), (.val (.slice none 0 0))]) (.t 6) (.t 6))), (.mk (some 3) none (.mov (.t 7)))])
  (.seq (.seq (.reg [(.mk (some 4) none (.mov (.k (.val (.int .i64 0)))))]) (.block 0 (.loop (.seq (.seq (.reg [(.mk (some 8) none (.mov (.t 4))), (.mk (some 9) none (.mov (.t 0))), (.mk (some 10) none (.len (.t 9))),
  (.mk (some 11) none (.bin .lss (.t 8) (.t 10)))]) (.cond 11 .skip (.exit 0))) (.seq (.block 1 (.reg [(.mk (some 14) none (.mov (.t 3))), (.mk (some 15) none (.mov (.t 4))), (.mk (some 16) none (.mov (.t 0))), (.mk
  (some 17) none (.mov (.t 4))), (.mk (some 18) none (.iaddr 6 (.t 16) (.t 17))), (.mk (some 19) none (.load 6 true (.t 18))), (.mk (some 20) none (.call false 105 [(.t 19)])), (.mk (some 21) none (.iaddr 6 (.t 14) (.t
  15))), (.mk none none (.store 6 (.t 21) (.t 20)))])) (.reg [(.mk (some 12) none (.mov (.t 4))), (.mk (some 13) none (.bin .add (.t 12) (.k (.val (.int .i64 1))))), (.mk (some 4) none (.mov (.t 13)))])))))) (.seq (.reg
  [(.mk (some 22) none (.mov (.t 3))), (.mk (some 2) none (.mov (.t 22)))]) .ret)))),
  [(.t 2)]⟩
theorem i54 : IsFun Tryz.prog 54 g54 := ⟨Tryz.f54, _, [], Tryz.func54, by kernel_rfl, rfl, by kernel_rfl, by kernel_rfl, rfl⟩
def g55 : GFun := ⟨⟨23, []⟩,
  (.seq (.reg [(.mk (some 2) none (.mov (.k (.val (.slice none 0 0)))))]) (.seq (.reg [(.mk (some 5) none (.mov (.t 0))), (.mk (some 6) none (.len (.t 5))), (.mk (some 7) none (.mkslice 6 72 (.agg [(.val (.int .i64 0)),
  (.val (.int .i64 0)), (.val (.int .i64 0)), (.val (.int .i64 0)), (.val (.string (ByteArray.mk #[]))), (.val (.slice none 0 0))]) (.t 6) (.t 6))), (.mk (some 3) none (.mov (.t 7)))]) (.seq (.seq (.reg [(.mk (some 4)
  none (.mov (.k (.val (.int .i64 0)))))]) (.block 0 (.loop (.seq (.seq (.reg [(.mk (some 8) none (.mov (.t 4))), (.mk (some 9) none (.mov (.t 0))), (.mk (some 10) none (.len (.t 9))), (.mk (some 11) none (.bin .lss (.t
  8) (.t 10)))]) (.cond 11 .skip (.exit 0))) (.seq (.block 1 (.reg [(.mk (some 14) none (.mov (.t 3))), (.mk (some 15) none (.mov (.t 4))), (.mk (some 16) none (.mov (.t 0))), (.mk (some 17) none (.mov (.t 4))), (.mk
  (some 18) none (.iaddr 6 (.t 16) (.t 17))), (.mk (some 19) none (.load 6 true (.t 18))), (.mk (some 20) none (.call false 106 [(.t 19)])), (.mk (some 21) none (.iaddr 6 (.t 14) (.t 15))), (.mk none none (.store 6 (.t
  21) (.t 20)))])) (.reg [(.mk (some 12) none (.mov (.t 4))), (.mk (some 13) none (.bin .add (.t 12) (.k (.val (.int .i64 1))))), (.mk (some 4) none (.mov (.t 13)))])))))) (.seq (.reg [(.mk (some 22) none (.mov (.t
  3))), (.mk (some 2) none (.mov (.t 22)))]) .ret)))),
  [(.t 2)]⟩
theorem i55 : IsFun Tryz.prog 55 g55 := ⟨Tryz.f55, _, [], Tryz.func55, by kernel_rfl, rfl, by kernel_rfl, by kernel_rfl, rfl⟩
def g56 : GFun := ⟨⟨81, [3,4,5,6,8,12,14]⟩,
  (.seq (.reg [(.mk (some 3) none (.boxro 2 (.t 0))), (.mk (some 4) none (.boxro 1 (.t 1))), (.mk (some 5) none (.boxro 2 (.t 2))), (.mk (some 6) none (.allocr 8)), (.mk (some 7) none (.mov (.k (.val (.bool false)))))])
  (.seq (.reg [(.mk (some 16) none (.load 2 true (.t 3))), (.mk (some 17) none (.load 1 true (.t 4))), (.mk (some 18) none (.load 2 true (.t 5))), (.mk (some 19) none (.call false 107 [(.t 16), (.t 17), (.t 18)])), (.mk
  (some 15) none (.mov (.t 19))), (.mk (some 20) none (.ext (.t 15) 0)), (.mk (some 21) none (.ext (.t 15) 1)), (.mk (some 8) none (.allocr 4)), (.mk (some 8) none (.stro 4 8 (.t 20))), (.mk (some 9) none (.mov (.t
  21)))]) (.seq (.seq (.reg [(.mk (some 22) none (.mov (.t 9))), (.mk (some 23) none (.not (.t 22))), (.mk (some 24) none (.mov (.t 23))), (.mk (some 25) (some (24, false)) (.faddr 2 1 false (.t 8))), (.mk (some 26)
  (some (24, false)) (.load 1 false (.t 25))), (.mk (some 27) (some (24, false)) (.bin .eql (.t 26) (.k (.val (.int .i64 3))))), (.mk (some 28) none (.pick (.t 24) (.k (.val (.bool true))) (.t 27)))]) (.cond 28 (.seq
  (.reg [(.mk (some 29) none (.build [(.val (.int .i64 0)), (.val (.int .i64 0)), (.val (.int .i64 0)), (.val (.int .i64 0)), (.val (.int .i64 0)), (.val (.string (ByteArray.mk #[]))), (.val (.string (ByteArray.mk
  #[]))), (.val (.slice none 0 0))] [])), (.mk (some 6) none (.stro 8 6 (.t 29))), (.mk (some 7) none (.mov (.k (.val (.bool false)))))]) .ret) .skip)) (.seq (.reg [(.mk (some 31) none (.faddr 0 1 false (.t 5))), (.mk
  (some 34) none (.faddr 1 1 false (.t 5))), (.mk (some 30) none (.load 1 true (.t 4))), (.mk (some 32) none (.load 1 false (.t 31))), (.mk (some 33) none (.call true 108 [(.t 30), (.t 32)])), (.mk (some 35) none (.load
  1 false (.t 34))), (.mk (some 36) none (.build [(.val (.int .i64 0)), (.val (.string (ByteArray.mk #[])))] [(1, (1, (.t 35)))])), (.mk (some 11) none (.alloc 2 (.agg [(.val (.int .i64 0)), (.val (.string (ByteArray.mk
  #[])))]))), (.mk (some 10) none (.mov (.t 33))), (.mk none none (.store 2 (.t 11) (.t 36)))]) (.seq (.seq (.reg [(.mk (some 37) none (.faddr 2 1 false (.t 8))), (.mk (some 38) none (.load 1 false (.t 37))), (.mk (some
  39) none (.bin .eql (.t 38) (.k (.val (.int .i64 1)))))]) (.cond 39 (.reg [(.mk (some 40) none (.faddr 0 1 false (.t 4))), (.mk (some 42) none (.mov (.t 10))), (.mk (some 46) none (.faddr 0 1 false (.t 4))), (.mk
  (some 48) none (.mov (.t 10))), (.mk (some 41) none (.load 1 false (.t 40))), (.mk (some 43) none (.iaddr 6 (.t 41) (.t 42))), (.mk (some 44) none (.faddr 1 1 false (.t 43))), (.mk (some 45) none (.load 1 false (.t
  44))), (.mk (some 10) none (.mov (.t 45))), (.mk (some 47) none (.load 1 false (.t 46))), (.mk (some 49) none (.iaddr 6 (.t 47) (.t 48))), (.mk (some 50) none (.faddr 2 1 false (.t 49))), (.mk (some 51) none (.load 1
  false (.t 50))), (.mk (some 52) none (.faddr 0 1 false (.t 11))), (.mk none none (.store 1 (.t 52) (.t 51)))]) .skip)) (.seq (.seq (.reg [(.mk (some 53) none (.load 1 true (.t 4))), (.mk (some 54) none (.mov (.t
  10))), (.mk (some 55) none (.call false 109 [(.t 53), (.t 54)])), (.mk (some 56) none (.not (.t 55)))]) (.cond 56 (.seq (.reg [(.mk (some 57) none (.build [(.val (.int .i64 0)), (.val (.int .i64 0)), (.val (.int .i64
  0)), (.val (.int .i64 0)), (.val (.int .i64 0)), (.val (.string (ByteArray.mk #[]))), (.val (.string (ByteArray.mk #[]))), (.val (.slice none 0 0))] [])), (.mk (some 6) none (.stro 8 6 (.t 57))), (.mk (some 7) none
  (.mov (.k (.val (.bool false)))))]) .ret) .skip)) (.seq (.reg [(.mk (some 60) none (.faddr 0 1 false (.t 4))), (.mk (some 62) none (.mov (.t 10))), (.mk (some 12) none (.allocr 6)), (.mk (some 59) none (.load 2 true
  (.t 3))), (.mk (some 61) none (.load 1 false (.t 60))), (.mk (some 63) none (.iaddr 6 (.t 61) (.t 62))), (.mk (some 64) none (.faddr 4 1 false (.t 63))), (.mk (some 65) none (.load 1 false (.t 64))), (.mk (some 66)
  none (.call true 110 [(.t 59), (.t 65)])), (.mk (some 58) none (.mov (.t 66))), (.mk (some 67) none (.ext (.t 58) 0)), (.mk (some 68) none (.ext (.t 58) 1)), (.mk (some 12) none (.stro 6 12 (.t 67))), (.mk (some 13)
  none (.mov (.t 68)))]) (.seq (.reg [(.mk (some 70) none (.load 6 true (.t 12))), (.mk (some 71) none (.load 2 true (.t 11))), (.mk (some 72) none (.call false 111 [(.t 70), (.t 71)])), (.mk (some 69) none (.mov (.t
  72))), (.mk (some 73) none (.ext (.t 69) 0)), (.mk (some 74) none (.ext (.t 69) 1)), (.mk (some 14) none (.allocr 7)), (.mk (some 14) none (.stro 7 14 (.t 73))), (.mk (some 9) none (.mov (.t 74)))]) (.seq (.seq (.reg
  [(.mk (some 75) none (.mov (.t 9))), (.mk (some 76) none (.not (.t 75)))]) (.cond 76 (.seq (.reg [(.mk (some 77) none (.build [(.val (.int .i64 0)), (.val (.int .i64 0)), (.val (.int .i64 0)), (.val (.int .i64 0)),
  (.val (.int .i64 0)), (.val (.string (ByteArray.mk #[]))), (.val (.string (ByteArray.mk #[]))), (.val (.slice none 0 0))] [])), (.mk (some 6) none (.stro 8 6 (.t 77))), (.mk (some 7) none (.mov (.k (.val (.bool
  false)))))]) .ret) .skip)) (.seq (.reg [(.mk (some 78) none (.mov (.t 10))), (.mk (some 79) none (.load 7 true (.t 14))), (.mk (some 80) none (.build [(.val (.int .i64 0)), (.val (.int .i64 0)), (.val (.int .i64 0)),
  (.val (.int .i64 0)), (.val (.int .i64 0)), (.val (.string (ByteArray.mk #[]))), (.val (.string (ByteArray.mk #[]))), (.val (.slice none 0 0))] [(0, (1, (.t 78))), (1, (7, (.t 79)))])), (.mk (some 6) none (.stro 8 6
  (.t 80))), (.mk (some 7) none (.mov (.k (.val (.bool true)))))]) .ret)))))))))),
  [(.c 6 8 true), (.t 7)]⟩
theorem i56 : IsFun Tryz.prog 56 g56 := ⟨Tryz.f56, _, [], Tryz.func56, by kernel_rfl, rfl, by kernel_rfl, by kernel_rfl, rfl⟩
def g57 : GFun := ⟨⟨12, [1]⟩,
  (.seq (.reg [(.mk (some 1) none (.boxro 7 (.t 0))), (.mk (some 2) none (.mov (.k (.val (.slice none 0 0)))))]) (.seq (.reg [(.mk (some 4) none (.bslice 2 [] 0 true [])), (.mk (some 3) none (.alloc 1 (.val (.slice none
  0 0)))), (.mk none none (.store 1 (.t 3) (.t 4)))]) (.seq (.reg [(.mk (some 5) none (.load 7 true (.t 1))), (.mk (some 6) none (.mkfn 113 [(.t 3)])), (.mk (some 7) none (.call false 112 [(.t 5), (.t 6)]))]) (.seq
  (.reg [(.mk (some 8) none (.load 1 false (.t 3))), (.mk (some 9) none (.call false 114 [(.t 8), (.k (.clo 115 []))]))]) (.seq (.reg [(.mk (some 10) none (.load 1 false (.t 3))), (.mk (some 11) none (.call false 116
  [(.t 10)])), (.mk (some 2) none (.mov (.t 11)))]) .ret))))),
  [(.t 2)]⟩
theorem i57 : IsFun Tryz.prog 57 g57 := ⟨Tryz.f57, _, [], Tryz.func57, by kernel_rfl, rfl, by kernel_rfl, by kernel_rfl, rfl⟩
def g58 : GFun := ⟨⟨55, [4,5,7,8]⟩,
  (.seq (.reg [(.mk (some 4) none (.boxro 2 (.t 0))), (.mk (some 5) none (.boxro 1 (.t 1))), (.mk (some 7) none (.boxro 2 (.t 3))), (.mk (some 8) none (.allocr 2)), (.mk (some 9) none (.mov (.k (.val (.bool false)))))])
  (.seq (.seq (.reg [(.mk (some 10) none (.load 1 true (.t 5))), (.mk (some 11) none (.mov (.t 2))), (.mk (some 12) none (.call false 109 [(.t 10), (.t 11)])), (.mk (some 13) none (.not (.t 12)))]) (.cond 13 (.seq (.reg
  [(.mk (some 14) none (.build [(.val (.int .i64 0)), (.val (.string (ByteArray.mk #[])))] [])), (.mk (some 8) none (.stro 2 8 (.t 14))), (.mk (some 9) none (.mov (.k (.val (.bool false)))))]) .ret) .skip)) (.seq (.seq
  (.reg [(.mk (some 15) none (.faddr 0 1 false (.t 7))), (.mk (some 16) none (.load 1 false (.t 15))), (.mk (some 17) none (.bin .neq (.t 16) (.k (.val (.int .i64 0)))))]) (.cond 17 (.seq (.seq (.reg [(.mk (some 18)
  none (.faddr 0 1 false (.t 7))), (.mk (some 20) none (.faddr 0 1 false (.t 5))), (.mk (some 22) none (.mov (.t 2))), (.mk (some 19) none (.load 1 false (.t 18))), (.mk (some 21) none (.load 1 false (.t 20))), (.mk
  (some 23) none (.iaddr 6 (.t 21) (.t 22))), (.mk (some 24) none (.faddr 5 1 false (.t 23))), (.mk (some 25) none (.load 1 false (.t 24))), (.mk (some 26) none (.len (.t 25))), (.mk (some 27) none (.call true 70 [(.t
  19), (.k (.val (.int .i64 1))), (.t 26)])), (.mk (some 28) none (.not (.t 27)))]) (.cond 28 (.seq (.reg [(.mk (some 29) none (.build [(.val (.int .i64 0)), (.val (.string (ByteArray.mk #[])))] [])), (.mk (some 8) none
  (.stro 2 8 (.t 29))), (.mk (some 9) none (.mov (.k (.val (.bool false)))))]) .ret) .skip)) (.reg [(.mk (some 30) none (.faddr 0 1 false (.t 5))), (.mk (some 32) none (.mov (.t 2))), (.mk (some 36) none (.faddr 0 1
  false (.t 7))), (.mk (some 31) none (.load 1 false (.t 30))), (.mk (some 33) none (.iaddr 6 (.t 31) (.t 32))), (.mk (some 34) none (.faddr 5 1 false (.t 33))), (.mk (some 35) none (.load 1 false (.t 34))), (.mk (some
  37) none (.load 1 false (.t 36))), (.mk (some 38) none (.bin .sub (.t 37) (.k (.val (.int .i64 1))))), (.mk (some 39) none (.iaddr 1 (.t 35) (.t 38))), (.mk (some 40) none (.load 1 false (.t 39))), (.mk (some 2) none
  (.mov (.t 40)))])) .skip)) (.seq (.seq (.reg [(.mk (some 41) none (.load 1 true (.t 5))), (.mk (some 42) none (.mov (.t 2))), (.mk (some 43) none (.call false 109 [(.t 41), (.t 42)])), (.mk (some 44) none (.not (.t
  43)))]) (.cond 44 (.seq (.reg [(.mk (some 45) none (.build [(.val (.int .i64 0)), (.val (.string (ByteArray.mk #[])))] [])), (.mk (some 8) none (.stro 2 8 (.t 45))), (.mk (some 9) none (.mov (.k (.val (.bool
  false)))))]) .ret) .skip)) (.seq (.reg [(.mk (some 46) none (.faddr 0 1 false (.t 5))), (.mk (some 48) none (.mov (.t 2))), (.mk (some 52) none (.faddr 1 1 false (.t 7))), (.mk (some 47) none (.load 1 false (.t 46))),
  (.mk (some 49) none (.iaddr 6 (.t 47) (.t 48))), (.mk (some 50) none (.faddr 0 1 false (.t 49))), (.mk (some 51) none (.load 1 false (.t 50))), (.mk (some 53) none (.load 1 false (.t 52))), (.mk (some 54) none (.build
  [(.val (.int .i64 0)), (.val (.string (ByteArray.mk #[])))] [(0, (1, (.t 51))), (1, (1, (.t 53)))])), (.mk (some 8) none (.stro 2 8 (.t 54))), (.mk (some 9) none (.mov (.k (.val (.bool true)))))]) .ret))))),
  [(.c 8 2 true), (.t 9)]⟩
theorem i58 : IsFun Tryz.prog 58 g58 := ⟨Tryz.f58, _, [], Tryz.func58, by kernel_rfl, rfl, by kernel_rfl, by kernel_rfl, rfl⟩
def g60 : GFun := ⟨⟨27, []⟩,
  (.seq (.reg [(.mk (some 4) none (.mov (.k (.val (.bool false)))))]) (.seq (.seq (.reg [(.mk (some 6) none (.mov (.t 0))), (.mk (some 7) none (.len (.t 6))), (.mk (some 8) none (.mov (.t 1))), (.mk (some 9) none (.len
  (.t 8))), (.mk (some 10) none (.bin .neq (.t 7) (.t 9)))]) (.cond 10 (.seq (.reg [(.mk (some 4) none (.mov (.k (.val (.bool false)))))]) .ret) .skip)) (.seq (.seq (.reg [(.mk (some 5) none (.mov (.k (.val (.int .i64
  0)))))]) (.block 0 (.loop (.seq (.seq (.reg [(.mk (some 11) none (.mov (.t 5))), (.mk (some 12) none (.mov (.t 0))), (.mk (some 13) none (.len (.t 12))), (.mk (some 14) none (.bin .lss (.t 11) (.t 13)))]) (.cond 14
  .skip (.exit 0))) (.seq (.block 1 (.seq (.reg [(.mk (some 17) none (.mov (.t 0))), (.mk (some 18) none (.mov (.t 5))), (.mk (some 19) none (.iaddr 2 (.t 17) (.t 18))), (.mk (some 21) none (.mov (.t 1))), (.mk (some
  22) none (.mov (.t 5))), (.mk (some 23) none (.iaddr 2 (.t 21) (.t 22))), (.mk (some 20) none (.load 2 true (.t 19))), (.mk (some 24) none (.load 2 true (.t 23))), (.mk (some 25) none (.call true 117 [(.t 20), (.t
  24)])), (.mk (some 26) none (.not (.t 25)))]) (.cond 26 (.seq (.reg [(.mk (some 4) none (.mov (.k (.val (.bool false)))))]) .ret) .skip))) (.reg [(.mk (some 15) none (.mov (.t 5))), (.mk (some 16) none (.bin .add (.t
  15) (.k (.val (.int .i64 1))))), (.mk (some 5) none (.mov (.t 16)))])))))) (.seq (.reg [(.mk (some 4) none (.mov (.k (.val (.bool true)))))]) .ret)))),
  [(.t 4)]⟩
theorem i60 : IsFun Tryz.prog 60 g60 := ⟨Tryz.f60, _, [], Tryz.func60, by kernel_rfl, rfl, by kernel_rfl, by kernel_rfl, rfl⟩
def g61 : GFun := ⟨⟨27, []⟩,
  (.seq (.reg [(.mk (some 4) none (.mov (.k (.val (.bool false)))))]) (.seq (.seq (.reg [(.mk (some 6) none (.mov (.t 0))), (.mk (some 7) none (.len (.t 6))), (.mk (some 8) none (.mov (.t 1))), (.mk (some 9) none (.len
  (.t 8))), (.mk (some 10) none (.bin .neq (.t 7) (.t 9)))]) (.cond 10 (.seq (.reg [(.mk (some 4) none (.mov (.k (.val (.bool false)))))]) .ret) .skip)) (.seq (.seq (.reg [(.mk (some 5) none (.mov (.k (.val (.int .i64
  0)))))]) (.block 0 (.loop (.seq (.seq (.reg [(.mk (some 11) none (.mov (.t 5))), (.mk (some 12) none (.mov (.t 0))), (.mk (some 13) none (.len (.t 12))), (.mk (some 14) none (.bin .lss (.t 11) (.t 13)))]) (.cond 14
  .skip (.exit 0))) (.seq (.block 1 (.seq (.reg [(.mk (some 17) none (.mov (.t 0))), (.mk (some 18) none (.mov (.t 5))), (.mk (some 19) none (.iaddr 6 (.t 17) (.t 18))), (.mk (some 21) none (.mov (.t 1))), (.mk (some
  22) none (.mov (.t 5))), (.mk (some 23) none (.iaddr 6 (.t 21) (.t 22))), (.mk (some 20) none (.load 6 true (.t 19))), (.mk (some 24) none (.load 6 true (.t 23))), (.mk (some 25) none (.call true 118 [(.t 20), (.t
  24)])), (.mk (some 26) none (.not (.t 25)))]) (.cond 26 (.seq (.reg [(.mk (some 4) none (.mov (.k (.val (.bool false)))))]) .ret) .skip))) (.reg [(.mk (some 15) none (.mov (.t 5))), (.mk (some 16) none (.bin .add (.t
  15) (.k (.val (.int .i64 1))))), (.mk (some 5) none (.mov (.t 16)))])))))) (.seq (.reg [(.mk (some 4) none (.mov (.k (.val (.bool true)))))]) .ret)))),
  [(.t 4)]⟩
theorem i61 : IsFun Tryz.prog 61 g61 := ⟨Tryz.f61, _, [], Tryz.func61, by kernel_rfl, rfl, by kernel_rfl, by kernel_rfl, rfl⟩
def g62 : GFun := ⟨⟨27, []⟩,
  (.seq (.reg [(.mk (some 4) none (.mov (.k (.val (.bool false)))))]) (.seq (.seq (.reg [(.mk (some 6) none (.mov (.t 0))), (.mk (some 7) none (.len (.t 6))), (.mk (some 8) none (.mov (.t 1))), (.mk (some 9) none (.len
  (.t 8))), (.mk (some 10) none (.bin .neq (.t 7) (.t 9)))]) (.cond 10 (.seq (.reg [(.mk (some 4) none (.mov (.k (.val (.bool false)))))]) .ret) .skip)) (.seq (.seq (.reg [(.mk (some 5) none (.mov (.k (.val (.int .i64
  0)))))]) (.block 0 (.loop (.seq (.seq (.reg [(.mk (some 11) none (.mov (.t 5))), (.mk (some 12) none (.mov (.t 0))), (.mk (some 13) none (.len (.t 12))), (.mk (some 14) none (.bin .lss (.t 11) (.t 13)))]) (.cond 14
  .skip (.exit 0))) (.seq (.block 1 (.seq (.reg [(.mk (some 17) none (.mov (.t 0))), (.mk (some 18) none (.mov (.t 5))), (.mk (some 19) none (.iaddr 6 (.t 17) (.t 18))), (.mk (some 21) none (.mov (.t 1))), (.mk (some
  22) none (.mov (.t 5))), (.mk (some 23) none (.iaddr 6 (.t 21) (.t 22))), (.mk (some 20) none (.load 6 true (.t 19))), (.mk (some 24) none (.load 6 true (.t 23))), (.mk (some 25) none (.call true 119 [(.t 20), (.t
  24)])), (.mk (some 26) none (.not (.t 25)))]) (.cond 26 (.seq (.reg [(.mk (some 4) none (.mov (.k (.val (.bool false)))))]) .ret) .skip))) (.reg [(.mk (some 15) none (.mov (.t 5))), (.mk (some 16) none (.bin .add (.t
  15) (.k (.val (.int .i64 1))))), (.mk (some 5) none (.mov (.t 16)))])))))) (.seq (.reg [(.mk (some 4) none (.mov (.k (.val (.bool true)))))]) .ret)))),
  [(.t 4)]⟩
theorem i62 : IsFun Tryz.prog 62 g62 := ⟨Tryz.f62, _, [], Tryz.func62, by kernel_rfl, rfl, by kernel_rfl, by kernel_rfl, rfl⟩
def g67 : GFun := ⟨⟨15, []⟩,
  (.seq (.reg [(.mk (some 6) none (.mov (.k (.val (.bool false)))))]) (.seq (.reg [(.mk (some 7) none (.mov (.t 0))), (.mk (some 8) none (.mov (.t 1))), (.mk (some 9) none (.bin .geq (.t 7) (.t 8))), (.mk (some 10) none
  (.mov (.t 9))), (.mk (some 11) (some (10, true)) (.mov (.t 0))), (.mk (some 12) (some (10, true)) (.mov (.t 2))), (.mk (some 13) (some (10, true)) (.bin .leq (.t 11) (.t 12))), (.mk (some 14) none (.pick (.t 10) (.t
  13) (.k (.val (.bool false))))), (.mk (some 6) none (.mov (.t 14)))]) .ret)),
  [(.t 6)]⟩
theorem i67 : IsFun Tryz.prog 67 g67 := ⟨Tryz.f67, _, [], Tryz.func67, by kernel_rfl, rfl, by kernel_rfl, by kernel_rfl, rfl⟩
def g68 : GFun := ⟨⟨68, []⟩,
  (.seq (.reg [(.mk (some 4) none (.mov (.k (.val (.slice none 0 0)))))]) (.seq (.reg [(.mk (some 12) none (.bslice 1 [] 0 false [])), (.mk (some 5) none (.mov (.t 12)))]) (.seq (.seq (.reg [(.mk (some 6) none (.mov (.k
  (.val (.int .i64 0)))))]) (.block 0 (.loop (.seq (.seq (.reg [(.mk (some 13) none (.mov (.t 6))), (.mk (some 14) none (.mov (.t 0))), (.mk (some 15) none (.len (.t 14))), (.mk (some 16) none (.bin .lss (.t 13) (.t
  15)))]) (.cond 16 .skip (.exit 0))) (.seq (.block 1 (.reg [(.mk (some 19) none (.mov (.t 5))), (.mk (some 20) none (.bslice 1 [] 1 false [(0, (.k (.val (.int .i64 (-1)))))])), (.mk (some 21) none (.append 1 8 (.t 19)
  (.t 20))), (.mk (some 5) none (.mov (.t 21)))])) (.reg [(.mk (some 17) none (.mov (.t 6))), (.mk (some 18) none (.bin .add (.t 17) (.k (.val (.int .i64 1))))), (.mk (some 6) none (.mov (.t 18)))])))))) (.seq (.reg
  [(.mk (some 22) none (.mov (.t 1))), (.mk (some 23) none (.bslice 1 [] 1 false [(0, (.t 22))])), (.mk (some 7) none (.mov (.t 23)))]) (.seq (.seq (.reg [(.mk (some 8) none (.mov (.k (.val (.int .i64 1)))))]) (.block 2
  (.loop (.seq (.seq (.reg [(.mk (some 24) none (.mov (.t 7))), (.mk (some 25) none (.len (.t 24))), (.mk (some 26) none (.bin .gtr (.t 25) (.k (.val (.int .i64 0)))))]) (.cond 26 .skip (.exit 2))) (.seq (.block 3 (.seq
  (.reg [(.mk (some 29) none (.bslice 1 [] 0 false [])), (.mk (some 9) none (.mov (.t 29)))]) (.seq (.seq (.reg [(.mk (some 10) none (.mov (.k (.val (.int .i64 0)))))]) (.block 4 (.loop (.seq (.seq (.reg [(.mk (some 30)
  none (.mov (.t 10))), (.mk (some 31) none (.mov (.t 0))), (.mk (some 32) none (.len (.t 31))), (.mk (some 33) none (.bin .lss (.t 30) (.t 32)))]) (.cond 33 .skip (.exit 4))) (.seq (.block 5 (.seq (.reg [(.mk (some 11)
  none (.mov (.k (.val (.int .i64 0)))))]) (.block 6 (.loop (.seq (.seq (.reg [(.mk (some 36) none (.mov (.t 11))), (.mk (some 37) none (.mov (.t 7))), (.mk (some 38) none (.len (.t 37))), (.mk (some 39) none (.bin .lss
  (.t 36) (.t 38)))]) (.cond 39 .skip (.exit 6))) (.seq (.block 7 (.seq (.reg [(.mk (some 42) none (.mov (.t 5))), (.mk (some 43) none (.mov (.t 10))), (.mk (some 44) none (.iaddr 1 (.t 42) (.t 43))), (.mk (some 45)
  none (.load 1 false (.t 44))), (.mk (some 46) none (.bin .lss (.t 45) (.k (.val (.int .i64 0))))), (.mk (some 47) none (.mov (.t 46))), (.mk (some 48) (some (47, true)) (.mov (.t 0))), (.mk (some 49) (some (47, true))
  (.mov (.t 10))), (.mk (some 50) (some (47, true)) (.iaddr 1 (.t 48) (.t 49))), (.mk (some 52) (some (47, true)) (.mov (.t 7))), (.mk (some 53) (some (47, true)) (.mov (.t 11))), (.mk (some 54) (some (47, true))
  (.iaddr 1 (.t 52) (.t 53))), (.mk (some 51) (some (47, true)) (.load 1 false (.t 50))), (.mk (some 55) (some (47, true)) (.load 1 false (.t 54))), (.mk (some 56) (some (47, true)) (.call true 124 [(.t 51), (.t 55)])),
  (.mk (some 57) none (.pick (.t 47) (.t 56) (.k (.val (.bool false)))))]) (.cond 57 (.seq (.reg [(.mk (some 58) none (.mov (.t 5))), (.mk (some 59) none (.mov (.t 10))), (.mk (some 60) none (.mov (.t 8))), (.mk (some
  61) none (.iaddr 1 (.t 58) (.t 59))), (.mk none none (.store 1 (.t 61) (.t 60)))]) (.reg [(.mk (some 62) none (.mov (.t 9))), (.mk (some 63) none (.mov (.t 10))), (.mk (some 64) none (.bslice 1 [] 1 false [(0, (.t
  63))])), (.mk (some 65) none (.append 1 8 (.t 62) (.t 64))), (.mk (some 9) none (.mov (.t 65)))])) .skip))) (.reg [(.mk (some 40) none (.mov (.t 11))), (.mk (some 41) none (.bin .add (.t 40) (.k (.val (.int .i64
  1))))), (.mk (some 11) none (.mov (.t 41)))]))))))) (.reg [(.mk (some 34) none (.mov (.t 10))), (.mk (some 35) none (.bin .add (.t 34) (.k (.val (.int .i64 1))))), (.mk (some 10) none (.mov (.t 35)))])))))) (.reg
  [(.mk (some 66) none (.mov (.t 9))), (.mk (some 7) none (.mov (.t 66)))])))) (.reg [(.mk (some 27) none (.mov (.t 8))), (.mk (some 28) none (.bin .add (.t 27) (.k (.val (.int .i64 1))))), (.mk (some 8) none (.mov (.t
  28)))])))))) (.seq (.reg [(.mk (some 67) none (.mov (.t 5))), (.mk (some 4) none (.mov (.t 67)))]) .ret)))))),
  [(.t 4)]⟩
theorem i68 : IsFun Tryz.prog 68 g68 := ⟨Tryz.f68, _, [], Tryz.func68, by kernel_rfl, rfl, by kernel_rfl, by kernel_rfl, rfl⟩
def g69 : GFun := ⟨⟨22, [1]⟩,
  (.seq (.reg [(.mk (some 1) none (.boxro 1 (.t 0))), (.mk (some 2) none (.mov (.k (.val (.slice none 0 0)))))]) (.seq (.reg [(.mk (some 6) none (.bslice 1 [] 0 false [])), (.mk (some 3) none (.mov (.t 6)))]) (.seq
  (.seq (.reg [(.mk (some 7) none (.load 1 false (.t 1))), (.mk (some 8) none (.len (.t 7))), (.mk (some 9) none (.mov (.k (.val (.int .i64 0)))))]) (.block 0 (.loop (.seq (.reg [(.mk (some 10) none (.bin .lss (.t 9)
  (.t 8)))]) (.seq (.cond 10 .skip (.exit 0)) (.seq (.block 1 (.seq (.reg [(.mk (some 11) none (.iaddr 1 (.t 7) (.t 9))), (.mk (some 12) none (.load 1 false (.t 11))), (.mk (some 5) none (.mov (.t 12)))]) (.reg [(.mk
  (some 13) none (.mov (.t 3))), (.mk (some 14) none (.mov (.t 5))), (.mk (some 15) none (.call false 126 [(.t 14)])), (.mk (some 16) none (.mkfn 127 [(.t 1)])), (.mk (some 17) none (.call false 125 [(.t 15), (.t
  16)])), (.mk (some 18) none (.bslice 1 [] 1 false [(0, (.t 17))])), (.mk (some 19) none (.append 1 24 (.t 13) (.t 18))), (.mk (some 3) none (.mov (.t 19)))]))) (.reg [(.mk (some 20) none (.bin .add (.t 9) (.k (.val
  (.int .i64 1))))), (.mk (some 9) none (.mov (.t 20)))]))))))) (.seq (.reg [(.mk (some 21) none (.mov (.t 3))), (.mk (some 2) none (.mov (.t 21)))]) .ret)))),
  [(.t 2)]⟩
theorem i69 : IsFun Tryz.prog 69 g69 := ⟨Tryz.f69, _, [], Tryz.func69, by kernel_rfl, rfl, by kernel_rfl, by kernel_rfl, rfl⟩
def g70 : GFun := ⟨⟨15, []⟩,
  (.seq (.reg [(.mk (some 6) none (.mov (.k (.val (.bool false)))))]) (.seq (.reg [(.mk (some 7) none (.mov (.t 0))), (.mk (some 8) none (.mov (.t 1))), (.mk (some 9) none (.bin .geq (.t 7) (.t 8))), (.mk (some 10) none
  (.mov (.t 9))), (.mk (some 11) (some (10, true)) (.mov (.t 0))), (.mk (some 12) (some (10, true)) (.mov (.t 2))), (.mk (some 13) (some (10, true)) (.bin .leq (.t 11) (.t 12))), (.mk (some 14) none (.pick (.t 10) (.t
  13) (.k (.val (.bool false))))), (.mk (some 6) none (.mov (.t 14)))]) .ret)),
  [(.t 6)]⟩
theorem i70 : IsFun Tryz.prog 70 g70 := ⟨Tryz.f70, _, [], Tryz.func70, by kernel_rfl, rfl, by kernel_rfl, by kernel_rfl, rfl⟩
def g71 : GFun := ⟨⟨70, []⟩,
  (.seq (.reg [(.mk (some 4) none (.mov (.k (.val (.slice none 0 0)))))]) (.seq (.reg [(.mk (some 11) none (.mov (.t 0))), (.mk (some 12) none (.len (.t 11))), (.mk (some 13) none (.mkslice 1 8 (.val (.int .i64 0)) (.t
  12) (.t 12))), (.mk (some 5) none (.mov (.t 13)))]) (.seq (.seq (.reg [(.mk (some 6) none (.mov (.k (.val (.int .i64 1)))))]) (.block 0 (.loop (.seq (.seq (.reg [(.mk (some 14) none (.mov (.t 6))), (.mk (some 15) none
  (.mov (.t 0))), (.mk (some 16) none (.len (.t 15))), (.mk (some 17) none (.bin .leq (.t 14) (.t 16)))]) (.cond 17 .skip (.exit 0))) (.seq (.block 1 (.seq (.reg [(.mk (some 20) none (.mov (.t 0))), (.mk (some 21) none
  (.len (.t 20))), (.mk (some 22) none (.mov (.k (.val (.int .i64 0)))))]) (.block 2 (.loop (.seq (.reg [(.mk (some 23) none (.bin .lss (.t 22) (.t 21)))]) (.seq (.cond 23 .skip (.exit 2)) (.seq (.block 3 (.seq (.reg
  [(.mk (some 24) none (.mov (.t 22))), (.mk (some 25) none (.iaddr 1 (.t 20) (.t 22))), (.mk (some 26) none (.load 1 false (.t 25))), (.mk (some 7) none (.mov (.t 24))), (.mk (some 8) none (.mov (.t 26)))]) (.seq (.seq
  (.reg [(.mk (some 27) none (.mov (.t 5))), (.mk (some 28) none (.mov (.t 7))), (.mk (some 29) none (.iaddr 1 (.t 27) (.t 28))), (.mk (some 30) none (.load 1 false (.t 29))), (.mk (some 31) none (.bin .neq (.t 30) (.k
  (.val (.int .i64 0)))))]) (.cond 31 (.exit 3) .skip)) (.seq (.reg [(.mk (some 32) none (.mov (.t 8))), (.mk (some 33) none (.len (.t 32))), (.mk (some 34) none (.mov (.k (.val (.int .i64 0)))))]) (.block 4 (.loop
  (.seq (.reg [(.mk (some 35) none (.bin .lss (.t 34) (.t 33)))]) (.seq (.cond 35 .skip (.exit 4)) (.seq (.block 5 (.seq (.reg [(.mk (some 36) none (.iaddr 1 (.t 32) (.t 34))), (.mk (some 37) none (.load 1 false (.t
  36))), (.mk (some 10) none (.mov (.t 37)))]) (.seq (.reg [(.mk (some 38) none (.mov (.t 6))), (.mk (some 39) none (.bin .eql (.t 38) (.k (.val (.int .i64 1))))), (.mk (some 40) none (.mov (.t 39))), (.mk (some 41)
  (some (40, true)) (.mov (.t 10))), (.mk (some 42) (some (40, true)) (.mov (.t 1))), (.mk (some 43) (some (40, true)) (.bin .eql (.t 41) (.t 42))), (.mk (some 44) none (.pick (.t 40) (.t 43) (.k (.val (.bool
  false))))), (.mk (some 45) none (.mov (.t 44))), (.mk (some 46) (some (45, false)) (.mov (.t 6))), (.mk (some 47) (some (45, false)) (.bin .gtr (.t 46) (.k (.val (.int .i64 1))))), (.mk (some 48) (some (45, false))
  (.mov (.t 47))), (.mk (some 49) (some (48, true)) (.mov (.t 10))), (.mk (some 50) (some (48, true)) (.mov (.t 1))), (.mk (some 51) (some (48, true)) (.bin .neq (.t 49) (.t 50))), (.mk (some 52) (some (45, false))
  (.pick (.t 48) (.t 51) (.k (.val (.bool false))))), (.mk (some 53) (some (45, false)) (.mov (.t 52))), (.mk (some 54) (some (53, true)) (.mov (.t 5))), (.mk (some 55) (some (53, true)) (.mov (.t 10))), (.mk (some 56)
  (some (53, true)) (.iaddr 1 (.t 54) (.t 55))), (.mk (some 57) (some (53, true)) (.load 1 false (.t 56))), (.mk (some 58) (some (53, true)) (.mov (.t 6))), (.mk (some 59) (some (53, true)) (.bin .sub (.t 58) (.k (.val
  (.int .i64 1))))), (.mk (some 60) (some (53, true)) (.bin .eql (.t 57) (.t 59))), (.mk (some 61) (some (45, false)) (.pick (.t 53) (.t 60) (.k (.val (.bool false))))), (.mk (some 62) none (.pick (.t 45) (.k (.val
  (.bool true))) (.t 61)))]) (.cond 62 (.reg [(.mk (some 63) none (.mov (.t 5))), (.mk (some 64) none (.mov (.t 7))), (.mk (some 65) none (.mov (.t 6))), (.mk (some 66) none (.iaddr 1 (.t 63) (.t 64))), (.mk none none
  (.store 1 (.t 66) (.t 65)))]) .skip)))) (.reg [(.mk (some 67) none (.bin .add (.t 34) (.k (.val (.int .i64 1))))), (.mk (some 34) none (.mov (.t 67)))])))))))))) (.reg [(.mk (some 68) none (.bin .add (.t 22) (.k (.val
  (.int .i64 1))))), (.mk (some 22) none (.mov (.t 68)))])))))))) (.reg [(.mk (some 18) none (.mov (.t 6))), (.mk (some 19) none (.bin .add (.t 18) (.k (.val (.int .i64 1))))), (.mk (some 6) none (.mov (.t 19)))]))))))
  (.seq (.reg [(.mk (some 69) none (.mov (.t 5))), (.mk (some 4) none (.mov (.t 69)))]) .ret)))),
  [(.t 4)]⟩
theorem i71 : IsFun Tryz.prog 71 g71 := ⟨Tryz.f71, _, [], Tryz.func71, by kernel_rfl, rfl, by kernel_rfl, by kernel_rfl, rfl⟩
def g72 : GFun := ⟨⟨59, [2,3,7]⟩,
  (.seq (.reg [(.mk (some 2) none (.boxro 2 (.t 0))), (.mk (some 3) none (.boxro 1 (.t 1))), (.mk (some 4) none (.mov (.k (.val (.slice none 0 0)))))]) (.seq (.reg [(.mk (some 10) none (.bslice 2 [] 0 true [])), (.mk
  (some 5) none (.mov (.t 10)))]) (.seq (.seq (.reg [(.mk (some 11) none (.load 2 true (.t 2))), (.mk (some 12) none (.load 1 true (.t 3))), (.mk (some 13) none (.load 2 true (.t 2))), (.mk (some 14) none (.load 1 true
  (.t 3))), (.mk (some 15) none (.call true 129 [(.t 13), (.t 14), (.k (.val (.int .i64 0)))])), (.mk (some 16) none (.call true 128 [(.t 11), (.t 12), (.t 15)])), (.mk (some 17) none (.not (.t 16)))]) (.cond 17 (.seq
  (.reg [(.mk (some 18) none (.mov (.t 5))), (.mk (some 4) none (.mov (.t 18)))]) .ret) .skip)) (.seq (.seq (.reg [(.mk (some 6) none (.mov (.k (.val (.int .i64 0)))))]) (.block 0 (.loop (.seq (.seq (.reg [(.mk (some
  19) none (.mov (.t 6))), (.mk (some 20) none (.faddr 0 1 false (.t 3))), (.mk (some 21) none (.load 1 false (.t 20))), (.mk (some 22) none (.len (.t 21))), (.mk (some 23) none (.bin .lss (.t 19) (.t 22)))]) (.cond 23
  .skip (.exit 0))) (.seq (.block 1 (.seq (.reg [(.mk (some 30) none (.mov (.t 6))), (.mk (some 7) none (.allocr 2)), (.mk (some 27) none (.load 2 true (.t 2))), (.mk (some 28) none (.load 2 true (.t 2))), (.mk (some
  29) none (.load 1 true (.t 3))), (.mk (some 31) none (.call true 129 [(.t 28), (.t 29), (.t 30)])), (.mk (some 32) none (.call true 130 [(.t 27), (.t 31)])), (.mk (some 26) none (.mov (.t 32))), (.mk (some 33) none
  (.ext (.t 26) 0)), (.mk (some 34) none (.ext (.t 26) 1)), (.mk (some 7) none (.stro 2 7 (.t 33))), (.mk (some 8) none (.mov (.t 34)))]) (.seq (.reg [(.mk (some 9) none (.mov (.k (.val (.int .i64 0)))))]) (.block 2
  (.loop (.seq (.seq (.reg [(.mk (some 35) none (.mov (.t 9))), (.mk (some 36) none (.faddr 1 1 false (.t 7))), (.mk (some 37) none (.load 1 false (.t 36))), (.mk (some 38) none (.len (.t 37))), (.mk (some 39) none
  (.bin .lss (.t 35) (.t 38)))]) (.cond 39 .skip (.exit 2))) (.seq (.block 3 (.reg [(.mk (some 42) none (.mov (.t 5))), (.mk (some 43) none (.faddr 0 1 false (.t 3))), (.mk (some 45) none (.mov (.t 6))), (.mk (some 49)
  none (.faddr 1 1 false (.t 7))), (.mk (some 51) none (.mov (.t 9))), (.mk (some 44) none (.load 1 false (.t 43))), (.mk (some 46) none (.iaddr 6 (.t 44) (.t 45))), (.mk (some 47) none (.faddr 0 1 false (.t 46))), (.mk
  (some 48) none (.load 1 false (.t 47))), (.mk (some 50) none (.load 1 false (.t 49))), (.mk (some 52) none (.iaddr 4 (.t 50) (.t 51))), (.mk (some 53) none (.faddr 0 1 false (.t 52))), (.mk (some 54) none (.load 1
  false (.t 53))), (.mk (some 55) none (.build [(.val (.int .i64 0)), (.val (.string (ByteArray.mk #[])))] [(0, (1, (.t 48))), (1, (1, (.t 54)))])), (.mk (some 56) none (.bslice 2 [] 1 true [(0, (.t 55))])), (.mk (some
  57) none (.append 2 24 (.t 42) (.t 56))), (.mk (some 5) none (.mov (.t 57)))])) (.reg [(.mk (some 40) none (.mov (.t 9))), (.mk (some 41) none (.bin .add (.t 40) (.k (.val (.int .i64 1))))), (.mk (some 9) none (.mov
  (.t 41)))])))))))) (.reg [(.mk (some 24) none (.mov (.t 6))), (.mk (some 25) none (.bin .add (.t 24) (.k (.val (.int .i64 1))))), (.mk (some 6) none (.mov (.t 25)))])))))) (.seq (.reg [(.mk (some 58) none (.mov (.t
  5))), (.mk (some 4) none (.mov (.t 58)))]) .ret))))),
  [(.t 4)]⟩
theorem i72 : IsFun Tryz.prog 72 g72 := ⟨Tryz.f72, _, [], Tryz.func72, by kernel_rfl, rfl, by kernel_rfl, by kernel_rfl, rfl⟩
def g73 : GFun := ⟨⟨19, [3]⟩,
  (.seq (.reg [(.mk (some 3) none (.boxro 2 (.t 1))), (.mk (some 4) none (.mov (.k (.val (.int .i64 0)))))]) (.seq (.seq (.reg [(.mk (some 5) none (.mov (.k (.val (.int .i64 0)))))]) (.block 0 (.loop (.seq (.seq (.reg
  [(.mk (some 6) none (.mov (.t 5))), (.mk (some 7) none (.mov (.t 0))), (.mk (some 8) none (.len (.t 7))), (.mk (some 9) none (.bin .lss (.t 6) (.t 8)))]) (.cond 9 .skip (.exit 0))) (.seq (.block 1 (.seq (.reg [(.mk
  (some 12) none (.mov (.t 0))), (.mk (some 13) none (.mov (.t 5))), (.mk (some 14) none (.iaddr 2 (.t 12) (.t 13))), (.mk (some 15) none (.load 2 true (.t 14))), (.mk (some 16) none (.load 2 true (.t 3))), (.mk (some
  17) none (.aeq false [1, 2] (.t 15) (.t 16)))]) (.cond 17 (.seq (.reg [(.mk (some 18) none (.mov (.t 5))), (.mk (some 4) none (.mov (.t 18)))]) .ret) .skip))) (.reg [(.mk (some 10) none (.mov (.t 5))), (.mk (some 11)
  none (.bin .add (.t 10) (.k (.val (.int .i64 1))))), (.mk (some 5) none (.mov (.t 11)))])))))) (.seq (.reg [(.mk (some 4) none (.mov (.k (.val (.int .i64 (-1))))))]) .ret))),
  [(.t 4)]⟩
theorem i73 : IsFun Tryz.prog 73 g73 := ⟨Tryz.f73, _, [], Tryz.func73, by kernel_rfl, rfl, by kernel_rfl, by kernel_rfl, rfl⟩
def g74 : GFun := ⟨⟨53, [2,3,7,8,11]⟩,
  (.seq (.reg [(.mk (some 2) none (.boxro 2 (.t 0))), (.mk (some 3) none (.boxro 1 (.t 1))), (.mk (some 4) none (.mov (.k (.val (.slice none 0 0)))))]) (.seq (.reg [(.mk (some 12) none (.bslice 2 [] 0 true [])), (.mk
  (some 5) none (.mov (.t 12)))]) (.seq (.seq (.reg [(.mk (some 13) none (.load 2 true (.t 2))), (.mk (some 14) none (.load 1 true (.t 3))), (.mk (some 15) none (.call false 131 [(.t 13), (.t 14)])), (.mk (some 16) none
  (.not (.t 15)))]) (.cond 16 (.seq (.reg [(.mk (some 17) none (.mov (.t 5))), (.mk (some 4) none (.mov (.t 17)))]) .ret) .skip)) (.seq (.seq (.reg [(.mk (some 18) none (.faddr 0 1 false (.t 3))), (.mk (some 19) none
  (.load 1 false (.t 18))), (.mk (some 20) none (.len (.t 19))), (.mk (some 21) none (.mov (.k (.val (.int .i64 0)))))]) (.block 0 (.loop (.seq (.reg [(.mk (some 22) none (.bin .lss (.t 21) (.t 20)))]) (.seq (.cond 22
  .skip (.exit 0)) (.seq (.block 1 (.seq (.reg [(.mk (some 23) none (.mov (.t 21))), (.mk (some 24) none (.iaddr 6 (.t 19) (.t 21))), (.mk (some 25) none (.load 6 true (.t 24))), (.mk (some 7) none (.allocr 6)), (.mk
  (some 6) none (.mov (.t 23))), (.mk (some 7) none (.stro 6 7 (.t 25)))]) (.seq (.reg [(.mk (some 30) none (.mov (.t 6))), (.mk (some 8) none (.allocr 2)), (.mk (some 27) none (.load 2 true (.t 2))), (.mk (some 28)
  none (.load 2 true (.t 2))), (.mk (some 29) none (.load 1 true (.t 3))), (.mk (some 31) none (.call true 133 [(.t 28), (.t 29), (.t 30)])), (.mk (some 32) none (.call true 132 [(.t 27), (.t 31)])), (.mk (some 26) none
  (.mov (.t 32))), (.mk (some 33) none (.ext (.t 26) 0)), (.mk (some 34) none (.ext (.t 26) 1)), (.mk (some 8) none (.stro 2 8 (.t 33))), (.mk (some 9) none (.mov (.t 34)))]) (.seq (.reg [(.mk (some 35) none (.faddr 1 1
  false (.t 8))), (.mk (some 36) none (.load 1 false (.t 35))), (.mk (some 37) none (.len (.t 36))), (.mk (some 38) none (.mov (.k (.val (.int .i64 0)))))]) (.block 2 (.loop (.seq (.reg [(.mk (some 39) none (.bin .lss
  (.t 38) (.t 37)))]) (.seq (.cond 39 .skip (.exit 2)) (.seq (.block 3 (.seq (.reg [(.mk (some 40) none (.iaddr 4 (.t 36) (.t 38))), (.mk (some 41) none (.load 4 true (.t 40))), (.mk (some 11) none (.allocr 4)), (.mk
  (some 11) none (.stro 4 11 (.t 41)))]) (.reg [(.mk (some 42) none (.mov (.t 5))), (.mk (some 43) none (.faddr 0 1 false (.t 7))), (.mk (some 44) none (.load 1 false (.t 43))), (.mk (some 45) none (.faddr 0 1 false (.t
  11))), (.mk (some 46) none (.load 1 false (.t 45))), (.mk (some 47) none (.build [(.val (.int .i64 0)), (.val (.string (ByteArray.mk #[])))] [(0, (1, (.t 44))), (1, (1, (.t 46)))])), (.mk (some 48) none (.bslice 2 []
  1 true [(0, (.t 47))])), (.mk (some 49) none (.append 2 24 (.t 42) (.t 48))), (.mk (some 5) none (.mov (.t 49)))]))) (.reg [(.mk (some 50) none (.bin .add (.t 38) (.k (.val (.int .i64 1))))), (.mk (some 38) none (.mov
  (.t 50)))])))))))))) (.reg [(.mk (some 51) none (.bin .add (.t 21) (.k (.val (.int .i64 1))))), (.mk (some 21) none (.mov (.t 51)))]))))))) (.seq (.reg [(.mk (some 52) none (.mov (.t 5))), (.mk (some 4) none (.mov (.t
  52)))]) .ret))))),
  [(.t 4)]⟩
theorem i74 : IsFun Tryz.prog 74 g74 := ⟨Tryz.f74, _, [], Tryz.func74, by kernel_rfl, rfl, by kernel_rfl, by kernel_rfl, rfl⟩
def g75 : GFun := ⟨⟨8, [3]⟩,
  (.seq (.reg [(.mk (some 3) none (.boxro 2 (.t 1))), (.mk (some 4) none (.mov (.k (.val (.int .i64 0)))))]) (.seq (.reg [(.mk (some 5) none (.mov (.t 0))), (.mk (some 6) none (.load 2 true (.t 3))), (.mk (some 7) none
  (.call false 134 [(.t 5), (.t 6)])), (.mk (some 4) none (.mov (.t 7)))]) .ret)),
  [(.t 4)]⟩
theorem i75 : IsFun Tryz.prog 75 g75 := ⟨Tryz.f75, _, [], Tryz.func75, by kernel_rfl, rfl, by kernel_rfl, by kernel_rfl, rfl⟩
def g96 : GFun := ⟨⟨19, [2]⟩,
  (.seq (.reg [(.mk (some 2) none (.boxro 2 (.t 0))), (.mk (some 4) none (.mov (.k (.val (.int .i64 0)))))]) (.seq (.reg [(.mk (some 5) none (.mov (.t 1))), (.mk (some 6) none (.faddr 0 1 false (.t 2))), (.mk (some 7)
  none (.load 1 false (.t 6))), (.mk (some 8) none (.slen (.t 7))), (.mk (some 9) none (.bin .sub (.t 5) (.t 8))), (.mk (some 1) none (.mov (.t 9)))]) (.seq (.seq (.reg [(.mk (some 10) none (.mov (.t 1))), (.mk (some
  11) none (.bin .lss (.t 10) (.k (.val (.int .i64 0)))))]) (.cond 11 (.seq (.reg [(.mk (some 4) none (.mov (.k (.val (.int .i64 (-1))))))]) .ret) .skip)) (.seq (.reg [(.mk (some 12) none (.faddr 1 1 false (.t 2))),
  (.mk (some 13) none (.load 1 false (.t 12))), (.mk (some 14) none (.mov (.t 1))), (.mk (some 15) none (.call false 171 [(.t 13), (.t 14)])), (.mk (some 1) none (.mov (.t 15)))]) (.seq (.seq (.reg [(.mk (some 16) none
  (.mov (.t 1))), (.mk (some 17) none (.bin .lss (.t 16) (.k (.val (.int .i64 0)))))]) (.cond 17 (.seq (.reg [(.mk (some 4) none (.mov (.k (.val (.int .i64 (-1))))))]) .ret) .skip)) (.seq (.reg [(.mk (some 18) none
  (.mov (.t 1))), (.mk (some 4) none (.mov (.t 18)))]) .ret)))))),
  [(.t 4)]⟩
theorem i96 : IsFun Tryz.prog 96 g96 := ⟨Tryz.f96, _, [], Tryz.func96, by kernel_rfl, rfl, by kernel_rfl, by kernel_rfl, rfl⟩
def g97 : GFun := ⟨⟨38, [2]⟩,
  (.seq (.reg [(.mk (some 2) none (.boxro 6 (.t 0))), (.mk (some 4) none (.mov (.k (.val (.int .i64 0)))))]) (.seq (.reg [(.mk (some 5) none (.mov (.t 1))), (.mk (some 6) none (.faddr 0 1 false (.t 2))), (.mk (some 7)
  none (.load 1 false (.t 6))), (.mk (some 8) none (.slen (.t 7))), (.mk (some 9) none (.bin .sub (.t 5) (.t 8))), (.mk (some 1) none (.mov (.t 9)))]) (.seq (.seq (.reg [(.mk (some 10) none (.mov (.t 1))), (.mk (some
  11) none (.bin .lss (.t 10) (.k (.val (.int .i64 0)))))]) (.cond 11 (.seq (.reg [(.mk (some 4) none (.mov (.k (.val (.int .i64 (-1))))))]) .ret) .skip)) (.seq (.reg [(.mk (some 12) none (.mov (.t 1))), (.mk (some 13)
  none (.faddr 1 1 false (.t 2))), (.mk (some 14) none (.load 1 false (.t 13))), (.mk (some 15) none (.slen (.t 14))), (.mk (some 16) none (.bin .sub (.t 12) (.t 15))), (.mk (some 1) none (.mov (.t 16)))]) (.seq (.seq
  (.reg [(.mk (some 17) none (.mov (.t 1))), (.mk (some 18) none (.bin .lss (.t 17) (.k (.val (.int .i64 0)))))]) (.cond 18 (.seq (.reg [(.mk (some 4) none (.mov (.k (.val (.int .i64 (-1))))))]) .ret) .skip)) (.seq
  (.reg [(.mk (some 19) none (.faddr 2 1 false (.t 2))), (.mk (some 20) none (.load 1 false (.t 19))), (.mk (some 21) none (.mov (.t 1))), (.mk (some 22) none (.call false 172 [(.t 20), (.t 21)])), (.mk (some 1) none
  (.mov (.t 22)))]) (.seq (.seq (.reg [(.mk (some 23) none (.mov (.t 1))), (.mk (some 24) none (.bin .lss (.t 23) (.k (.val (.int .i64 0)))))]) (.cond 24 (.seq (.reg [(.mk (some 4) none (.mov (.k (.val (.int .i64
  (-1))))))]) .ret) .skip)) (.seq (.reg [(.mk (some 25) none (.faddr 4 1 false (.t 2))), (.mk (some 26) none (.load 1 false (.t 25))), (.mk (some 27) none (.mov (.t 1))), (.mk (some 28) none (.call false 173 [(.t 26),
  (.t 27)])), (.mk (some 1) none (.mov (.t 28)))]) (.seq (.seq (.reg [(.mk (some 29) none (.mov (.t 1))), (.mk (some 30) none (.bin .lss (.t 29) (.k (.val (.int .i64 0)))))]) (.cond 30 (.seq (.reg [(.mk (some 4) none
  (.mov (.k (.val (.int .i64 (-1))))))]) .ret) .skip)) (.seq (.reg [(.mk (some 31) none (.faddr 5 1 false (.t 2))), (.mk (some 32) none (.load 1 false (.t 31))), (.mk (some 33) none (.mov (.t 1))), (.mk (some 34) none
  (.call false 174 [(.t 32), (.t 33)])), (.mk (some 1) none (.mov (.t 34)))]) (.seq (.seq (.reg [(.mk (some 35) none (.mov (.t 1))), (.mk (some 36) none (.bin .lss (.t 35) (.k (.val (.int .i64 0)))))]) (.cond 36 (.seq
  (.reg [(.mk (some 4) none (.mov (.k (.val (.int .i64 (-1))))))]) .ret) .skip)) (.seq (.reg [(.mk (some 37) none (.mov (.t 1))), (.mk (some 4) none (.mov (.t 37)))]) .ret)))))))))))),
  [(.t 4)]⟩
theorem i97 : IsFun Tryz.prog 97 g97 := ⟨Tryz.f97, _, [], Tryz.func97, by kernel_rfl, rfl, by kernel_rfl, by kernel_rfl, rfl⟩
def g98 : GFun := ⟨⟨19, [2]⟩,
  (.seq (.reg [(.mk (some 2) none (.boxro 6 (.t 0))), (.mk (some 4) none (.mov (.k (.val (.int .i64 0)))))]) (.seq (.reg [(.mk (some 5) none (.mov (.t 1))), (.mk (some 6) none (.faddr 4 1 false (.t 2))), (.mk (some 7)
  none (.load 1 false (.t 6))), (.mk (some 8) none (.slen (.t 7))), (.mk (some 9) none (.bin .sub (.t 5) (.t 8))), (.mk (some 1) none (.mov (.t 9)))]) (.seq (.seq (.reg [(.mk (some 10) none (.mov (.t 1))), (.mk (some
  11) none (.bin .lss (.t 10) (.k (.val (.int .i64 0)))))]) (.cond 11 (.seq (.reg [(.mk (some 4) none (.mov (.k (.val (.int .i64 (-1))))))]) .ret) .skip)) (.seq (.reg [(.mk (some 12) none (.faddr 5 1 false (.t 2))),
  (.mk (some 13) none (.load 1 false (.t 12))), (.mk (some 14) none (.mov (.t 1))), (.mk (some 15) none (.call false 175 [(.t 13), (.t 14)])), (.mk (some 1) none (.mov (.t 15)))]) (.seq (.seq (.reg [(.mk (some 16) none
  (.mov (.t 1))), (.mk (some 17) none (.bin .lss (.t 16) (.k (.val (.int .i64 0)))))]) (.cond 17 (.seq (.reg [(.mk (some 4) none (.mov (.k (.val (.int .i64 (-1))))))]) .ret) .skip)) (.seq (.reg [(.mk (some 18) none
  (.mov (.t 1))), (.mk (some 4) none (.mov (.t 18)))]) .ret)))))),
  [(.t 4)]⟩
theorem i98 : IsFun Tryz.prog 98 g98 := ⟨Tryz.f98, _, [], Tryz.func98, by kernel_rfl, rfl, by kernel_rfl, by kernel_rfl, rfl⟩
def g99 : GFun := ⟨⟨34, [3,4,5,6,8]⟩,
  (.seq (.reg [(.mk (some 3) none (.boxro 2 (.t 0))), (.mk (some 4) none (.boxro 1 (.t 1))), (.mk (some 5) none (.boxro 2 (.t 2))), (.mk (some 6) none (.allocr 4)), (.mk (some 7) none (.mov (.k (.val (.bool false)))))])
  (.seq (.seq (.reg [(.mk (some 10) none (.load 1 true (.t 4))), (.mk (some 11) none (.faddr 0 1 false (.t 5))), (.mk (some 12) none (.load 1 false (.t 11))), (.mk (some 13) none (.call false 100 [(.t 10), (.t 12)])),
  (.mk (some 14) none (.bin .lss (.t 13) (.k (.val (.int .i64 0)))))]) (.cond 14 (.seq (.reg [(.mk (some 15) none (.build [(.val (.string (ByteArray.mk #[]))), (.val (.int .i64 0)), (.val (.int .i64 0)), (.val (.bool
  false))] [])), (.mk (some 6) none (.stro 4 6 (.t 15))), (.mk (some 7) none (.mov (.k (.val (.bool false)))))]) .ret) .skip)) (.seq (.reg [(.mk (some 21) none (.faddr 0 1 false (.t 5))), (.mk (some 8) none (.allocr
  2)), (.mk (some 17) none (.load 2 true (.t 3))), (.mk (some 18) none (.load 2 true (.t 3))), (.mk (some 19) none (.load 1 true (.t 4))), (.mk (some 20) none (.load 1 true (.t 4))), (.mk (some 22) none (.load 1 false
  (.t 21))), (.mk (some 23) none (.call true 100 [(.t 20), (.t 22)])), (.mk (some 24) none (.call true 129 [(.t 18), (.t 19), (.t 23)])), (.mk (some 25) none (.call true 130 [(.t 17), (.t 24)])), (.mk (some 16) none
  (.mov (.t 25))), (.mk (some 26) none (.ext (.t 16) 0)), (.mk (some 27) none (.ext (.t 16) 1)), (.mk (some 8) none (.stro 2 8 (.t 26))), (.mk (some 9) none (.mov (.t 27)))]) (.seq (.reg [(.mk (some 28) none (.load 2
  true (.t 8))), (.mk (some 29) none (.faddr 1 1 false (.t 5))), (.mk (some 30) none (.load 1 false (.t 29))), (.mk (some 31) none (.call false 144 [(.t 28), (.t 30)])), (.mk (some 32) none (.ext (.t 31) 0)), (.mk (some
  33) none (.ext (.t 31) 1)), (.mk (some 6) none (.stro 4 6 (.t 32))), (.mk (some 7) none (.mov (.t 33)))]) .ret)))),
  [(.c 6 4 true), (.t 7)]⟩
theorem i99 : IsFun Tryz.prog 99 g99 := ⟨Tryz.f99, _, [], Tryz.func99, by kernel_rfl, rfl, by kernel_rfl, by kernel_rfl, rfl⟩
def g100 : GFun := ⟨⟨22, [2]⟩,
  (.seq (.reg [(.mk (some 2) none (.boxro 1 (.t 0))), (.mk (some 4) none (.mov (.k (.val (.int .i64 0)))))]) (.seq (.seq (.reg [(.mk (some 5) none (.mov (.k (.val (.int .i64 0)))))]) (.block 0 (.loop (.seq (.seq (.reg
  [(.mk (some 6) none (.mov (.t 5))), (.mk (some 7) none (.faddr 0 1 false (.t 2))), (.mk (some 8) none (.load 1 false (.t 7))), (.mk (some 9) none (.len (.t 8))), (.mk (some 10) none (.bin .lss (.t 6) (.t 9)))]) (.cond
  10 .skip (.exit 0))) (.seq (.block 1 (.seq (.reg [(.mk (some 13) none (.faddr 0 1 false (.t 2))), (.mk (some 14) none (.load 1 false (.t 13))), (.mk (some 15) none (.mov (.t 5))), (.mk (some 16) none (.iaddr 6 (.t 14)
  (.t 15))), (.mk (some 17) none (.faddr 0 1 false (.t 16))), (.mk (some 18) none (.load 1 false (.t 17))), (.mk (some 19) none (.mov (.t 1))), (.mk (some 20) none (.bin .eql (.t 18) (.t 19)))]) (.cond 20 (.seq (.reg
  [(.mk (some 21) none (.mov (.t 5))), (.mk (some 4) none (.mov (.t 21)))]) .ret) .skip))) (.reg [(.mk (some 11) none (.mov (.t 5))), (.mk (some 12) none (.bin .add (.t 11) (.k (.val (.int .i64 1))))), (.mk (some 5)
  none (.mov (.t 12)))])))))) (.seq (.reg [(.mk (some 4) none (.mov (.k (.val (.int .i64 (-1))))))]) .ret))),
  [(.t 4)]⟩
theorem i100 : IsFun Tryz.prog 100 g100 := ⟨Tryz.f100, _, [], Tryz.func100, by kernel_rfl, rfl, by kernel_rfl, by kernel_rfl, rfl⟩
def g101 : GFun := ⟨⟨29, [2,4]⟩,
  (.seq (.reg [(.mk (some 2) none (.boxro 2 (.t 0))), (.mk (some 4) none (.allocr 6)), (.mk (some 5) none (.mov (.k (.val (.bool false)))))]) (.seq (.seq (.reg [(.mk (some 6) none (.mov (.k (.val (.int .i64 0)))))])
  (.block 0 (.loop (.seq (.seq (.reg [(.mk (some 7) none (.mov (.t 6))), (.mk (some 8) none (.faddr 1 1 false (.t 2))), (.mk (some 9) none (.load 1 false (.t 8))), (.mk (some 10) none (.len (.t 9))), (.mk (some 11) none
  (.bin .lss (.t 7) (.t 10)))]) (.cond 11 .skip (.exit 0))) (.seq (.block 1 (.seq (.reg [(.mk (some 14) none (.faddr 1 1 false (.t 2))), (.mk (some 15) none (.load 1 false (.t 14))), (.mk (some 16) none (.mov (.t 6))),
  (.mk (some 17) none (.iaddr 6 (.t 15) (.t 16))), (.mk (some 18) none (.faddr 0 1 false (.t 17))), (.mk (some 19) none (.load 1 false (.t 18))), (.mk (some 20) none (.mov (.t 1))), (.mk (some 21) none (.bin .eql (.t
  19) (.t 20)))]) (.cond 21 (.seq (.reg [(.mk (some 22) none (.faddr 1 1 false (.t 2))), (.mk (some 23) none (.load 1 false (.t 22))), (.mk (some 24) none (.mov (.t 6))), (.mk (some 25) none (.iaddr 6 (.t 23) (.t 24))),
  (.mk (some 26) none (.load 6 true (.t 25))), (.mk (some 27) none (.call false 176 [(.t 26)])), (.mk (some 4) none (.stro 6 4 (.t 27))), (.mk (some 5) none (.mov (.k (.val (.bool true)))))]) .ret) .skip))) (.reg [(.mk
  (some 12) none (.mov (.t 6))), (.mk (some 13) none (.bin .add (.t 12) (.k (.val (.int .i64 1))))), (.mk (some 6) none (.mov (.t 13)))])))))) (.seq (.reg [(.mk (some 28) none (.build [(.val (.string (ByteArray.mk
  #[]))), (.val (.string (ByteArray.mk #[]))), (.val (.slice none 0 0)), (.val (.bool false)), (.val (.slice none 0 0)), (.val (.slice none 0 0))] [])), (.mk (some 4) none (.stro 6 4 (.t 28))), (.mk (some 5) none (.mov
  (.k (.val (.bool false)))))]) .ret))),
  [(.c 4 6 true), (.t 5)]⟩
theorem i101 : IsFun Tryz.prog 101 g101 := ⟨Tryz.f101, _, [], Tryz.func101, by kernel_rfl, rfl, by kernel_rfl, by kernel_rfl, rfl⟩
def g102 : GFun := ⟨⟨30, [2,3,4]⟩,
  (.seq (.reg [(.mk (some 2) none (.boxro 6 (.t 0))), (.mk (some 3) none (.boxro 2 (.t 1))), (.mk (some 4) none (.allocr 7)), (.mk (some 5) none (.mov (.k (.val (.bool false)))))]) (.seq (.seq (.reg [(.mk (some 6) none
  (.mov (.k (.val (.int .i64 0)))))]) (.block 0 (.loop (.seq (.seq (.reg [(.mk (some 7) none (.mov (.t 6))), (.mk (some 8) none (.faddr 4 1 false (.t 2))), (.mk (some 9) none (.load 1 false (.t 8))), (.mk (some 10) none
  (.len (.t 9))), (.mk (some 11) none (.bin .lss (.t 7) (.t 10)))]) (.cond 11 .skip (.exit 0))) (.seq (.block 1 (.seq (.reg [(.mk (some 14) none (.faddr 4 1 false (.t 2))), (.mk (some 16) none (.mov (.t 6))), (.mk (some
  15) none (.load 1 false (.t 14))), (.mk (some 17) none (.iaddr 9 (.t 15) (.t 16))), (.mk (some 18) none (.faddr 0 2 true (.t 17))), (.mk (some 19) none (.load 2 true (.t 18))), (.mk (some 20) none (.load 2 true (.t
  3))), (.mk (some 21) none (.aeq false [1, 2] (.t 19) (.t 20)))]) (.cond 21 (.seq (.reg [(.mk (some 22) none (.faddr 4 1 false (.t 2))), (.mk (some 23) none (.load 1 false (.t 22))), (.mk (some 24) none (.mov (.t 6))),
  (.mk (some 25) none (.iaddr 9 (.t 23) (.t 24))), (.mk (some 26) none (.faddr 2 7 true (.t 25))), (.mk (some 27) none (.load 7 true (.t 26))), (.mk (some 28) none (.call false 177 [(.t 27)])), (.mk (some 4) none (.stro
  7 4 (.t 28))), (.mk (some 5) none (.mov (.k (.val (.bool true)))))]) .ret) .skip))) (.reg [(.mk (some 12) none (.mov (.t 6))), (.mk (some 13) none (.bin .add (.t 12) (.k (.val (.int .i64 1))))), (.mk (some 6) none
  (.mov (.t 13)))])))))) (.seq (.reg [(.mk (some 29) none (.build [(.val (.int .i64 0)), (.val (.int .i64 0)), (.val (.int .i64 0)), (.val (.int .i64 0)), (.val (.string (ByteArray.mk #[]))), (.val (.string
  (ByteArray.mk #[]))), (.val (.slice none 0 0))] [])), (.mk (some 4) none (.stro 7 4 (.t 29))), (.mk (some 5) none (.mov (.k (.val (.bool false)))))]) .ret))),
  [(.c 4 7 true), (.t 5)]⟩
theorem i102 : IsFun Tryz.prog 102 g102 := ⟨Tryz.f102, _, [], Tryz.func102, by kernel_rfl, rfl, by kernel_rfl, by kernel_rfl, rfl⟩
def g103 : GFun := ⟨⟨31, [2]⟩,
  (.seq (.reg [(.mk (some 2) none (.boxro 7 (.t 0))), (.mk (some 4) none (.mov (.k (.val (.slice none 0 0)))))]) (.seq (.seq (.reg [(.mk (some 6) none (.faddr 0 1 false (.t 2))), (.mk (some 7) none (.load 1 false (.t
  6))), (.mk (some 8) none (.bin .eql (.t 7) (.k (.val (.int .i64 3)))))]) (.cond 8 (.reg [(.mk (some 9) none (.mov (.t 1))), (.mk (some 10) none (.faddr 2 1 false (.t 2))), (.mk (some 11) none (.load 1 false (.t 10))),
  (.mk (some 12) none (.faddr 5 1 false (.t 2))), (.mk (some 13) none (.load 1 false (.t 12))), (.mk (some 14) none (.build [(.val (.int .i64 0)), (.val (.string (ByteArray.mk #[])))] [(0, (1, (.t 11))), (1, (1, (.t
  13)))])), (.mk (some 15) none (.call false 178 [(.t 9), (.t 14)])), (.mk (some 1) none (.mov (.t 15)))]) .skip)) (.seq (.seq (.reg [(.mk (some 5) none (.mov (.k (.val (.int .i64 0)))))]) (.block 0 (.loop (.seq (.seq
  (.reg [(.mk (some 16) none (.mov (.t 5))), (.mk (some 17) none (.faddr 6 1 false (.t 2))), (.mk (some 18) none (.load 1 false (.t 17))), (.mk (some 19) none (.len (.t 18))), (.mk (some 20) none (.bin .lss (.t 16) (.t
  19)))]) (.cond 20 .skip (.exit 0))) (.seq (.block 1 (.reg [(.mk (some 23) none (.faddr 6 1 false (.t 2))), (.mk (some 24) none (.load 1 false (.t 23))), (.mk (some 25) none (.mov (.t 5))), (.mk (some 26) none (.iaddr
  7 (.t 24) (.t 25))), (.mk (some 27) none (.load 7 true (.t 26))), (.mk (some 28) none (.mov (.t 1))), (.mk (some 29) none (.call false 103 [(.t 27), (.t 28)])), (.mk (some 1) none (.mov (.t 29)))])) (.reg [(.mk (some
  21) none (.mov (.t 5))), (.mk (some 22) none (.bin .add (.t 21) (.k (.val (.int .i64 1))))), (.mk (some 5) none (.mov (.t 22)))])))))) (.seq (.reg [(.mk (some 30) none (.mov (.t 1))), (.mk (some 4) none (.mov (.t
  30)))]) .ret)))),
  [(.t 4)]⟩
theorem i103 : IsFun Tryz.prog 103 g103 := ⟨Tryz.f103, _, [], Tryz.func103, by kernel_rfl, rfl, by kernel_rfl, by kernel_rfl, rfl⟩
def g104 : GFun := ⟨⟨12, [1,2]⟩,
  (.seq (.reg [(.mk (some 1) none (.boxro 2 (.t 0))), (.mk (some 2) none (.allocr 2))]) (.seq (.reg [(.mk (some 3) none (.alloc 2 (.agg [(.val (.string (ByteArray.mk #[]))), (.val (.slice none 0 0))])))]) (.seq (.reg
  [(.mk (some 4) none (.faddr 0 1 false (.t 1))), (.mk (some 5) none (.load 1 false (.t 4))), (.mk (some 6) none (.faddr 0 1 false (.t 3))), (.mk none none (.store 1 (.t 6) (.t 5)))]) (.seq (.reg [(.mk (some 7) none
  (.faddr 1 1 false (.t 1))), (.mk (some 8) none (.load 1 false (.t 7))), (.mk (some 9) none (.call false 179 [(.t 8)])), (.mk (some 10) none (.faddr 1 1 false (.t 3))), (.mk none none (.store 1 (.t 10) (.t 9)))]) (.seq
  (.reg [(.mk (some 11) none (.load 2 true (.t 3))), (.mk (some 2) none (.stro 2 2 (.t 11)))]) .ret))))),
  [(.c 2 2 true)]⟩
theorem i104 : IsFun Tryz.prog 104 g104 := ⟨Tryz.f104, _, [], Tryz.func104, by kernel_rfl, rfl, by kernel_rfl, by kernel_rfl, rfl⟩
def g105 : GFun := ⟨⟨26, [1,2]⟩,
  (.seq (.reg [(.mk (some 1) none (.boxro 6 (.t 0))), (.mk (some 2) none (.allocr 6))]) (.seq (.reg [(.mk (some 3) none (.alloc 6 (.agg [(.val (.string (ByteArray.mk #[]))), (.val (.string (ByteArray.mk #[]))), (.val
  (.slice none 0 0)), (.val (.bool false)), (.val (.slice none 0 0)), (.val (.slice none 0 0))])))]) (.seq (.reg [(.mk (some 4) none (.faddr 0 1 false (.t 1))), (.mk (some 5) none (.load 1 false (.t 4))), (.mk (some 6)
  none (.faddr 0 1 false (.t 3))), (.mk none none (.store 1 (.t 6) (.t 5)))]) (.seq (.reg [(.mk (some 7) none (.faddr 1 1 false (.t 1))), (.mk (some 8) none (.load 1 false (.t 7))), (.mk (some 9) none (.faddr 1 1 false
  (.t 3))), (.mk none none (.store 1 (.t 9) (.t 8)))]) (.seq (.reg [(.mk (some 10) none (.faddr 2 1 false (.t 1))), (.mk (some 11) none (.load 1 false (.t 10))), (.mk (some 12) none (.call false 180 [(.t 11)])), (.mk
  (some 13) none (.faddr 2 1 false (.t 3))), (.mk none none (.store 1 (.t 13) (.t 12)))]) (.seq (.reg [(.mk (some 14) none (.faddr 3 1 false (.t 1))), (.mk (some 15) none (.load 1 false (.t 14))), (.mk (some 16) none
  (.faddr 3 1 false (.t 3))), (.mk none none (.store 1 (.t 16) (.t 15)))]) (.seq (.reg [(.mk (some 17) none (.faddr 4 1 false (.t 1))), (.mk (some 18) none (.load 1 false (.t 17))), (.mk (some 19) none (.call false 181
  [(.t 18)])), (.mk (some 20) none (.faddr 4 1 false (.t 3))), (.mk none none (.store 1 (.t 20) (.t 19)))]) (.seq (.reg [(.mk (some 21) none (.faddr 5 1 false (.t 1))), (.mk (some 22) none (.load 1 false (.t 21))), (.mk
  (some 23) none (.call false 182 [(.t 22)])), (.mk (some 24) none (.faddr 5 1 false (.t 3))), (.mk none none (.store 1 (.t 24) (.t 23)))]) (.seq (.reg [(.mk (some 25) none (.load 6 true (.t 3))), (.mk (some 2) none
  (.stro 6 2 (.t 25)))]) .ret))))))))),
  [(.c 2 6 true)]⟩
theorem i105 : IsFun Tryz.prog 105 g105 := ⟨Tryz.f105, _, [], Tryz.func105, by kernel_rfl, rfl, by kernel_rfl, by kernel_rfl, rfl⟩
def g106 : GFun := ⟨⟨24, [1,2]⟩,
  (.seq (.reg [(.mk (some 1) none (.boxro 6 (.t 0))), (.mk (some 2) none (.allocr 6))]) (.seq (.reg [(.mk (some 3) none (.alloc 6 (.agg [(.val (.int .i64 0)), (.val (.int .i64 0)), (.val (.int .i64 0)), (.val (.int .i64
  0)), (.val (.string (ByteArray.mk #[]))), (.val (.slice none 0 0))])))]) (.seq (.reg [(.mk (some 4) none (.faddr 0 1 false (.t 1))), (.mk (some 5) none (.load 1 false (.t 4))), (.mk (some 6) none (.faddr 0 1 false (.t
  3))), (.mk none none (.store 1 (.t 6) (.t 5)))]) (.seq (.reg [(.mk (some 7) none (.faddr 1 1 false (.t 1))), (.mk (some 8) none (.load 1 false (.t 7))), (.mk (some 9) none (.faddr 1 1 false (.t 3))), (.mk none none
  (.store 1 (.t 9) (.t 8)))]) (.seq (.reg [(.mk (some 10) none (.faddr 2 1 false (.t 1))), (.mk (some 11) none (.load 1 false (.t 10))), (.mk (some 12) none (.faddr 2 1 false (.t 3))), (.mk none none (.store 1 (.t 12)
  (.t 11)))]) (.seq (.reg [(.mk (some 13) none (.faddr 3 1 false (.t 1))), (.mk (some 14) none (.load 1 false (.t 13))), (.mk (some 15) none (.faddr 3 1 false (.t 3))), (.mk none none (.store 1 (.t 15) (.t 14)))]) (.seq
  (.reg [(.mk (some 16) none (.faddr 4 1 false (.t 1))), (.mk (some 17) none (.load 1 false (.t 16))), (.mk (some 18) none (.faddr 4 1 false (.t 3))), (.mk none none (.store 1 (.t 18) (.t 17)))]) (.seq (.reg [(.mk (some
  19) none (.faddr 5 1 false (.t 1))), (.mk (some 20) none (.load 1 false (.t 19))), (.mk (some 21) none (.call false 45 [(.t 20)])), (.mk (some 22) none (.faddr 5 1 false (.t 3))), (.mk none none (.store 1 (.t 22) (.t
  21)))]) (.seq (.reg [(.mk (some 23) none (.load 6 true (.t 3))), (.mk (some 2) none (.stro 6 2 (.t 23)))]) .ret))))))))),
  [(.c 2 6 true)]⟩
theorem i106 : IsFun Tryz.prog 106 g106 := ⟨Tryz.f106, _, [], Tryz.func106, by kernel_rfl, rfl, by kernel_rfl, by kernel_rfl, rfl⟩
def g107 : GFun := ⟨⟨33, [3,4,5,6,9]⟩,
  (.seq (.reg [(.mk (some 3) none (.boxro 2 (.t 0))), (.mk (some 4) none (.boxro 1 (.t 1))), (.mk (some 5) none (.boxro 2 (.t 2))), (.mk (some 6) none (.allocr 4)), (.mk (some 7) none (.mov (.k (.val (.bool false)))))])
  (.seq (.reg [(.mk (some 11) none (.load 1 true (.t 4))), (.mk (some 12) none (.faddr 0 1 false (.t 5))), (.mk (some 13) none (.load 1 false (.t 12))), (.mk (some 14) none (.call false 108 [(.t 11), (.t 13)])), (.mk
  (some 8) none (.mov (.t 14)))]) (.seq (.seq (.reg [(.mk (some 15) none (.mov (.t 8))), (.mk (some 16) none (.bin .lss (.t 15) (.k (.val (.int .i64 0)))))]) (.cond 16 (.seq (.reg [(.mk (some 17) none (.build [(.val
  (.string (ByteArray.mk #[]))), (.val (.int .i64 0)), (.val (.int .i64 0)), (.val (.bool false))] [])), (.mk (some 6) none (.stro 4 6 (.t 17))), (.mk (some 7) none (.mov (.k (.val (.bool false)))))]) .ret) .skip))
  (.seq (.reg [(.mk (some 22) none (.mov (.t 8))), (.mk (some 9) none (.allocr 2)), (.mk (some 19) none (.load 2 true (.t 3))), (.mk (some 20) none (.load 2 true (.t 3))), (.mk (some 21) none (.load 1 true (.t 4))),
  (.mk (some 23) none (.call true 133 [(.t 20), (.t 21), (.t 22)])), (.mk (some 24) none (.call true 132 [(.t 19), (.t 23)])), (.mk (some 18) none (.mov (.t 24))), (.mk (some 25) none (.ext (.t 18) 0)), (.mk (some 26)
  none (.ext (.t 18) 1)), (.mk (some 9) none (.stro 2 9 (.t 25))), (.mk (some 10) none (.mov (.t 26)))]) (.seq (.reg [(.mk (some 27) none (.load 2 true (.t 9))), (.mk (some 28) none (.faddr 1 1 false (.t 5))), (.mk
  (some 29) none (.load 1 false (.t 28))), (.mk (some 30) none (.call false 155 [(.t 27), (.t 29)])), (.mk (some 31) none (.ext (.t 30) 0)), (.mk (some 32) none (.ext (.t 30) 1)), (.mk (some 6) none (.stro 4 6 (.t
  31))), (.mk (some 7) none (.mov (.t 32)))]) .ret))))),
  [(.c 6 4 true), (.t 7)]⟩
theorem i107 : IsFun Tryz.prog 107 g107 := ⟨Tryz.f107, _, [], Tryz.func107, by kernel_rfl, rfl, by kernel_rfl, by kernel_rfl, rfl⟩
def g108 : GFun := ⟨⟨9, [2,3]⟩,
  (.seq (.reg [(.mk (some 2) none (.boxro 1 (.t 0))), (.mk (some 3) none (.boxro 1 (.t 1))), (.mk (some 4) none (.mov (.k (.val (.int .i64 0)))))]) (.seq (.reg [(.mk (some 5) none (.faddr 0 1 false (.t 2))), (.mk (some
  6) none (.load 1 false (.t 5))), (.mk (some 7) none (.mkfn 184 [(.t 3)])), (.mk (some 8) none (.call false 183 [(.t 6), (.t 7)])), (.mk (some 4) none (.mov (.t 8)))]) .ret)),
  [(.t 4)]⟩
theorem i108 : IsFun Tryz.prog 108 g108 := ⟨Tryz.f108, _, [], Tryz.func108, by kernel_rfl, rfl, by kernel_rfl, by kernel_rfl, rfl⟩
def g109 : GFun := ⟨⟨11, [2]⟩,
  (.seq (.reg [(.mk (some 2) none (.boxro 1 (.t 0))), (.mk (some 4) none (.mov (.k (.val (.bool false)))))]) (.seq (.reg [(.mk (some 5) none (.mov (.t 1))), (.mk (some 6) none (.faddr 0 1 false (.t 2))), (.mk (some 7)
  none (.load 1 false (.t 6))), (.mk (some 8) none (.len (.t 7))), (.mk (some 9) none (.bin .sub (.t 8) (.k (.val (.int .i64 1))))), (.mk (some 10) none (.call false 70 [(.t 5), (.k (.val (.int .i64 0))), (.t 9)])),
  (.mk (some 4) none (.mov (.t 10)))]) .ret)),
  [(.t 4)]⟩
theorem i109 : IsFun Tryz.prog 109 g109 := ⟨Tryz.f109, _, [], Tryz.func109, by kernel_rfl, rfl, by kernel_rfl, by kernel_rfl, rfl⟩
def g110 : GFun := ⟨⟨22, [2,4,7]⟩,
  (.seq (.reg [(.mk (some 2) none (.boxro 2 (.t 0))), (.mk (some 4) none (.allocr 6)), (.mk (some 5) none (.mov (.k (.val (.bool false)))))]) (.seq (.seq (.reg [(.mk (some 8) none (.faddr 1 1 false (.t 2))), (.mk (some
  9) none (.load 1 false (.t 8))), (.mk (some 10) none (.len (.t 9))), (.mk (some 11) none (.mov (.k (.val (.int .i64 0)))))]) (.block 0 (.loop (.seq (.reg [(.mk (some 12) none (.bin .lss (.t 11) (.t 10)))]) (.seq
  (.cond 12 .skip (.exit 0)) (.seq (.block 1 (.seq (.reg [(.mk (some 13) none (.iaddr 6 (.t 9) (.t 11))), (.mk (some 14) none (.load 6 true (.t 13))), (.mk (some 7) none (.allocr 6)), (.mk (some 7) none (.stro 6 7 (.t
  14)))]) (.seq (.reg [(.mk (some 15) none (.faddr 0 1 false (.t 7))), (.mk (some 16) none (.load 1 false (.t 15))), (.mk (some 17) none (.mov (.t 1))), (.mk (some 18) none (.bin .eql (.t 16) (.t 17)))]) (.cond 18 (.seq
  (.reg [(.mk (some 19) none (.load 6 true (.t 7))), (.mk (some 4) none (.stro 6 4 (.t 19))), (.mk (some 5) none (.mov (.k (.val (.bool true)))))]) .ret) .skip)))) (.reg [(.mk (some 20) none (.bin .add (.t 11) (.k (.val
  (.int .i64 1))))), (.mk (some 11) none (.mov (.t 20)))]))))))) (.seq (.reg [(.mk (some 21) none (.build [(.val (.string (ByteArray.mk #[]))), (.val (.string (ByteArray.mk #[]))), (.val (.slice none 0 0)), (.val (.bool
  false)), (.val (.slice none 0 0)), (.val (.slice none 0 0))] [])), (.mk (some 4) none (.stro 6 4 (.t 21))), (.mk (some 5) none (.mov (.k (.val (.bool false)))))]) .ret))),
  [(.c 4 6 true), (.t 5)]⟩
theorem i110 : IsFun Tryz.prog 110 g110 := ⟨Tryz.f110, _, [], Tryz.func110, by kernel_rfl, rfl, by kernel_rfl, by kernel_rfl, rfl⟩
def g111 : GFun := ⟨⟨24, [2,3,4,7]⟩,
  (.seq (.reg [(.mk (some 2) none (.boxro 6 (.t 0))), (.mk (some 3) none (.boxro 2 (.t 1))), (.mk (some 4) none (.allocr 7)), (.mk (some 5) none (.mov (.k (.val (.bool false)))))]) (.seq (.seq (.reg [(.mk (some 8) none
  (.faddr 4 1 false (.t 2))), (.mk (some 9) none (.load 1 false (.t 8))), (.mk (some 10) none (.len (.t 9))), (.mk (some 11) none (.mov (.k (.val (.int .i64 0)))))]) (.block 0 (.loop (.seq (.reg [(.mk (some 12) none
  (.bin .lss (.t 11) (.t 10)))]) (.seq (.cond 12 .skip (.exit 0)) (.seq (.block 1 (.seq (.reg [(.mk (some 13) none (.iaddr 9 (.t 9) (.t 11))), (.mk (some 14) none (.load 9 true (.t 13))), (.mk (some 7) none (.allocr
  9)), (.mk (some 7) none (.stro 9 7 (.t 14)))]) (.seq (.reg [(.mk (some 15) none (.faddr 0 2 true (.t 7))), (.mk (some 16) none (.load 2 true (.t 15))), (.mk (some 17) none (.load 2 true (.t 3))), (.mk (some 18) none
  (.aeq false [1, 2] (.t 16) (.t 17)))]) (.cond 18 (.seq (.reg [(.mk (some 19) none (.faddr 2 7 true (.t 7))), (.mk (some 20) none (.load 7 true (.t 19))), (.mk (some 21) none (.call false 185 [(.t 20)])), (.mk (some 4)
  none (.stro 7 4 (.t 21))), (.mk (some 5) none (.mov (.k (.val (.bool true)))))]) .ret) .skip)))) (.reg [(.mk (some 22) none (.bin .add (.t 11) (.k (.val (.int .i64 1))))), (.mk (some 11) none (.mov (.t 22)))])))))))
  (.seq (.reg [(.mk (some 23) none (.build [(.val (.int .i64 0)), (.val (.int .i64 0)), (.val (.int .i64 0)), (.val (.int .i64 0)), (.val (.string (ByteArray.mk #[]))), (.val (.string (ByteArray.mk #[]))), (.val (.slice
  none 0 0))] [])), (.mk (some 4) none (.stro 7 4 (.t 23))), (.mk (some 5) none (.mov (.k (.val (.bool false)))))]) .ret))),
  [(.c 4 7 true), (.t 5)]⟩
theorem i111 : IsFun Tryz.prog 111 g111 := ⟨Tryz.f111, _, [], Tryz.func111, by kernel_rfl, rfl, by kernel_rfl, by kernel_rfl, rfl⟩
def g112 : GFun := ⟨⟨15, [2,3]⟩,
  (.seq (.reg [(.mk (some 2) none (.boxro 7 (.t 0))), (.mk (some 3) none (.boxro 1 (.t 1))), (.mk (some 4) none (.mov (.k (.val (.bool false)))))]) (.seq (.reg [(.mk (some 5) none (.load 1 false (.t 3))), (.mk (some 6)
  none (.load 7 true (.t 2))), (.mk (some 7) none (.callv false (.t 5) [(.t 6)])), (.mk (some 8) none (.mov (.t 7))), (.mk (some 9) (some (8, true)) (.faddr 6 1 false (.t 2))), (.mk (some 10) (some (8, true)) (.load 1
  false (.t 9))), (.mk (some 11) (some (8, true)) (.mkfn 186 [(.t 3)])), (.mk (some 12) (some (8, true)) (.call false 160 [(.t 10), (.t 11)])), (.mk (some 13) (some (8, true)) (.not (.t 12))), (.mk (some 14) none (.pick
  (.t 8) (.t 13) (.k (.val (.bool false))))), (.mk (some 4) none (.mov (.t 14)))]) .ret)),
  [(.t 4)]⟩
theorem i112 : IsFun Tryz.prog 112 g112 := ⟨Tryz.f112, _, [], Tryz.func112, by kernel_rfl, rfl, by kernel_rfl, by kernel_rfl, rfl⟩
def g113 : GFun := ⟨⟨15, [2]⟩,
  (.seq (.reg [(.mk (some 2) none (.boxro 7 (.t 0))), (.mk (some 3) none (.mov (.k (.val (.bool false)))))]) (.seq (.seq (.reg [(.mk (some 4) none (.faddr 0 1 false (.t 2))), (.mk (some 5) none (.load 1 false (.t 4))),
  (.mk (some 6) none (.bin .eql (.t 5) (.k (.val (.int .i64 3)))))]) (.cond 6 (.reg [(.mk (some 7) none (.load 1 false (.t 1))), (.mk (some 8) none (.faddr 2 1 false (.t 2))), (.mk (some 9) none (.load 1 false (.t 8))),
  (.mk (some 10) none (.faddr 5 1 false (.t 2))), (.mk (some 11) none (.load 1 false (.t 10))), (.mk (some 12) none (.build [(.val (.int .i64 0)), (.val (.string (ByteArray.mk #[])))] [(0, (1, (.t 9))), (1, (1, (.t
  11)))])), (.mk (some 13) none (.bslice 2 [] 1 true [(0, (.t 12))])), (.mk (some 14) none (.append 2 24 (.t 7) (.t 13))), (.mk none none (.store 1 (.t 1) (.t 14)))]) .skip)) (.seq (.reg [(.mk (some 3) none (.mov (.k
  (.val (.bool true)))))]) .ret))),
  [(.t 3)]⟩
theorem i113 : IsFun Tryz.prog 113 g113 := ⟨Tryz.f113, _, [], Tryz.func113, by kernel_rfl, rfl, by kernel_rfl, by kernel_rfl, rfl⟩
def g116 : GFun := ⟨⟨61, []⟩,
  (.seq (.reg [(.mk (some 2) none (.mov (.k (.val (.slice none 0 0)))))]) (.seq (.seq (.reg [(.mk (some 6) none (.mov (.t 0))), (.mk (some 7) none (.len (.t 6))), (.mk (some 8) none (.bin .lss (.t 7) (.k (.val (.int
  .i64 2)))))]) (.cond 8 (.seq (.reg [(.mk (some 9) none (.mov (.t 0))), (.mk (some 2) none (.mov (.t 9)))]) .ret) .skip)) (.seq (.seq (.reg [(.mk (some 3) none (.mov (.k (.val (.int .i64 1)))))]) (.block 0 (.loop (.seq
  (.seq (.reg [(.mk (some 10) none (.mov (.t 3))), (.mk (some 11) none (.mov (.t 0))), (.mk (some 12) none (.len (.t 11))), (.mk (some 13) none (.bin .lss (.t 10) (.t 12)))]) (.cond 13 .skip (.exit 0))) (.seq (.block 1
  (.seq (.reg [(.mk (some 16) none (.mov (.t 0))), (.mk (some 17) none (.mov (.t 3))), (.mk (some 18) none (.iaddr 2 (.t 16) (.t 17))), (.mk (some 20) none (.mov (.t 0))), (.mk (some 21) none (.mov (.t 3))), (.mk (some
  22) none (.bin .sub (.t 21) (.k (.val (.int .i64 1))))), (.mk (some 23) none (.iaddr 2 (.t 20) (.t 22))), (.mk (some 19) none (.load 2 true (.t 18))), (.mk (some 24) none (.load 2 true (.t 23))), (.mk (some 25) none
  (.aeq false [1, 2] (.t 19) (.t 24)))]) (.cond 25 (.seq (.reg [(.mk (some 26) none (.mov (.t 0))), (.mk (some 27) none (.mov (.t 3))), (.mk (some 28) none (.slc 2 (.t 26) (some (.t 27)) none)), (.mk (some 4) none (.mov
  (.t 28)))]) (.seq (.seq (.reg [(.mk (some 5) none (.mov (.k (.val (.int .i64 1)))))]) (.block 2 (.loop (.seq (.seq (.reg [(.mk (some 29) none (.mov (.t 5))), (.mk (some 30) none (.mov (.t 4))), (.mk (some 31) none
  (.len (.t 30))), (.mk (some 32) none (.bin .lss (.t 29) (.t 31)))]) (.cond 32 .skip (.exit 2))) (.seq (.block 3 (.seq (.reg [(.mk (some 35) none (.mov (.t 4))), (.mk (some 36) none (.mov (.t 5))), (.mk (some 37) none
  (.iaddr 2 (.t 35) (.t 36))), (.mk (some 39) none (.mov (.t 4))), (.mk (some 40) none (.mov (.t 5))), (.mk (some 41) none (.bin .sub (.t 40) (.k (.val (.int .i64 1))))), (.mk (some 42) none (.iaddr 2 (.t 39) (.t 41))),
  (.mk (some 38) none (.load 2 true (.t 37))), (.mk (some 43) none (.load 2 true (.t 42))), (.mk (some 44) none (.aeq true [1, 2] (.t 38) (.t 43)))]) (.cond 44 (.seq (.reg [(.mk (some 45) none (.mov (.t 0))), (.mk (some
  46) none (.mov (.t 3))), (.mk (some 47) none (.mov (.t 4))), (.mk (some 48) none (.mov (.t 5))), (.mk (some 49) none (.iaddr 2 (.t 47) (.t 48))), (.mk (some 50) none (.load 2 true (.t 49))), (.mk (some 51) none
  (.iaddr 2 (.t 45) (.t 46))), (.mk none none (.store 2 (.t 51) (.t 50)))]) (.reg [(.mk (some 52) none (.mov (.t 3))), (.mk (some 53) none (.bin .add (.t 52) (.k (.val (.int .i64 1))))), (.mk (some 3) none (.mov (.t
  53)))])) .skip))) (.reg [(.mk (some 33) none (.mov (.t 5))), (.mk (some 34) none (.bin .add (.t 33) (.k (.val (.int .i64 1))))), (.mk (some 5) none (.mov (.t 34)))])))))) (.seq (.reg [(.mk (some 54) none (.mov (.t
  0))), (.mk (some 55) none (.mov (.t 3))), (.mk (some 56) none (.slc 2 (.t 54) (some (.t 55)) none)), (.mk none none (.clr 2 (.t 56)))]) (.seq (.reg [(.mk (some 57) none (.mov (.t 0))), (.mk (some 58) none (.mov (.t
  3))), (.mk (some 59) none (.slc 2 (.t 57) none (some (.t 58)))), (.mk (some 2) none (.mov (.t 59)))]) .ret)))) .skip))) (.reg [(.mk (some 14) none (.mov (.t 3))), (.mk (some 15) none (.bin .add (.t 14) (.k (.val (.int
  .i64 1))))), (.mk (some 3) none (.mov (.t 15)))])))))) (.seq (.reg [(.mk (some 60) none (.mov (.t 0))), (.mk (some 2) none (.mov (.t 60)))]) .ret)))),
  [(.t 2)]⟩
theorem i116 : IsFun Tryz.prog 116 g116 := ⟨Tryz.f116, _, [], Tryz.func116, by kernel_rfl, rfl, by kernel_rfl, by kernel_rfl, rfl⟩
def g117 : GFun := ⟨⟨16, [2,3]⟩,
  (.seq (.reg [(.mk (some 2) none (.boxro 2 (.t 0))), (.mk (some 3) none (.boxro 2 (.t 1))), (.mk (some 4) none (.mov (.k (.val (.bool false)))))]) (.seq (.seq (.reg [(.mk (some 5) none (.faddr 0 1 false (.t 2))), (.mk
  (some 6) none (.load 1 false (.t 5))), (.mk (some 7) none (.faddr 0 1 false (.t 3))), (.mk (some 8) none (.load 1 false (.t 7))), (.mk (some 9) none (.bin .neq (.t 6) (.t 8)))]) (.cond 9 (.seq (.reg [(.mk (some 4)
  none (.mov (.k (.val (.bool false)))))]) .ret) .skip)) (.seq (.seq (.reg [(.mk (some 10) none (.faddr 1 1 false (.t 2))), (.mk (some 11) none (.load 1 false (.t 10))), (.mk (some 12) none (.faddr 1 1 false (.t 3))),
  (.mk (some 13) none (.load 1 false (.t 12))), (.mk (some 14) none (.call false 192 [(.t 11), (.t 13)])), (.mk (some 15) none (.not (.t 14)))]) (.cond 15 (.seq (.reg [(.mk (some 4) none (.mov (.k (.val (.bool
  false)))))]) .ret) .skip)) (.seq (.reg [(.mk (some 4) none (.mov (.k (.val (.bool true)))))]) .ret)))),
  [(.t 4)]⟩
theorem i117 : IsFun Tryz.prog 117 g117 := ⟨Tryz.f117, _, [], Tryz.func117, by kernel_rfl, rfl, by kernel_rfl, by kernel_rfl, rfl⟩
def g118 : GFun := ⟨⟨38, [2,3]⟩,
  (.seq (.reg [(.mk (some 2) none (.boxro 6 (.t 0))), (.mk (some 3) none (.boxro 6 (.t 1))), (.mk (some 4) none (.mov (.k (.val (.bool false)))))]) (.seq (.seq (.reg [(.mk (some 5) none (.faddr 0 1 false (.t 2))), (.mk
  (some 6) none (.load 1 false (.t 5))), (.mk (some 7) none (.faddr 0 1 false (.t 3))), (.mk (some 8) none (.load 1 false (.t 7))), (.mk (some 9) none (.bin .neq (.t 6) (.t 8)))]) (.cond 9 (.seq (.reg [(.mk (some 4)
  none (.mov (.k (.val (.bool false)))))]) .ret) .skip)) (.seq (.seq (.reg [(.mk (some 10) none (.faddr 1 1 false (.t 2))), (.mk (some 11) none (.load 1 false (.t 10))), (.mk (some 12) none (.faddr 1 1 false (.t 3))),
  (.mk (some 13) none (.load 1 false (.t 12))), (.mk (some 14) none (.bin .neq (.t 11) (.t 13)))]) (.cond 14 (.seq (.reg [(.mk (some 4) none (.mov (.k (.val (.bool false)))))]) .ret) .skip)) (.seq (.seq (.reg [(.mk
  (some 15) none (.faddr 2 1 false (.t 2))), (.mk (some 16) none (.load 1 false (.t 15))), (.mk (some 17) none (.faddr 2 1 false (.t 3))), (.mk (some 18) none (.load 1 false (.t 17))), (.mk (some 19) none (.call false
  193 [(.t 16), (.t 18)])), (.mk (some 20) none (.not (.t 19)))]) (.cond 20 (.seq (.reg [(.mk (some 4) none (.mov (.k (.val (.bool false)))))]) .ret) .skip)) (.seq (.seq (.reg [(.mk (some 21) none (.faddr 3 1 false (.t
  2))), (.mk (some 22) none (.load 1 false (.t 21))), (.mk (some 23) none (.faddr 3 1 false (.t 3))), (.mk (some 24) none (.load 1 false (.t 23))), (.mk (some 25) none (.beq true (.t 22) (.t 24)))]) (.cond 25 (.seq
  (.reg [(.mk (some 4) none (.mov (.k (.val (.bool false)))))]) .ret) .skip)) (.seq (.seq (.reg [(.mk (some 26) none (.faddr 4 1 false (.t 2))), (.mk (some 27) none (.load 1 false (.t 26))), (.mk (some 28) none (.faddr
  4 1 false (.t 3))), (.mk (some 29) none (.load 1 false (.t 28))), (.mk (some 30) none (.call false 194 [(.t 27), (.t 29)])), (.mk (some 31) none (.not (.t 30)))]) (.cond 31 (.seq (.reg [(.mk (some 4) none (.mov (.k
  (.val (.bool false)))))]) .ret) .skip)) (.seq (.seq (.reg [(.mk (some 32) none (.faddr 5 1 false (.t 2))), (.mk (some 33) none (.load 1 false (.t 32))), (.mk (some 34) none (.faddr 5 1 false (.t 3))), (.mk (some 35)
  none (.load 1 false (.t 34))), (.mk (some 36) none (.call false 195 [(.t 33), (.t 35)])), (.mk (some 37) none (.not (.t 36)))]) (.cond 37 (.seq (.reg [(.mk (some 4) none (.mov (.k (.val (.bool false)))))]) .ret)
  .skip)) (.seq (.reg [(.mk (some 4) none (.mov (.k (.val (.bool true)))))]) .ret)))))))),
  [(.t 4)]⟩
theorem i118 : IsFun Tryz.prog 118 g118 := ⟨Tryz.f118, _, [], Tryz.func118, by kernel_rfl, rfl, by kernel_rfl, by kernel_rfl, rfl⟩
def g119 : GFun := ⟨⟨36, [2,3]⟩,
  (.seq (.reg [(.mk (some 2) none (.boxro 6 (.t 0))), (.mk (some 3) none (.boxro 6 (.t 1))), (.mk (some 4) none (.mov (.k (.val (.bool false)))))]) (.seq (.seq (.reg [(.mk (some 5) none (.faddr 0 1 false (.t 2))), (.mk
  (some 6) none (.load 1 false (.t 5))), (.mk (some 7) none (.faddr 0 1 false (.t 3))), (.mk (some 8) none (.load 1 false (.t 7))), (.mk (some 9) none (.bin .neq (.t 6) (.t 8)))]) (.cond 9 (.seq (.reg [(.mk (some 4)
  none (.mov (.k (.val (.bool false)))))]) .ret) .skip)) (.seq (.seq (.reg [(.mk (some 10) none (.faddr 1 1 false (.t 2))), (.mk (some 11) none (.load 1 false (.t 10))), (.mk (some 12) none (.faddr 1 1 false (.t 3))),
  (.mk (some 13) none (.load 1 false (.t 12))), (.mk (some 14) none (.bin .neq (.t 11) (.t 13)))]) (.cond 14 (.seq (.reg [(.mk (some 4) none (.mov (.k (.val (.bool false)))))]) .ret) .skip)) (.seq (.seq (.reg [(.mk
  (some 15) none (.faddr 2 1 false (.t 2))), (.mk (some 16) none (.load 1 false (.t 15))), (.mk (some 17) none (.faddr 2 1 false (.t 3))), (.mk (some 18) none (.load 1 false (.t 17))), (.mk (some 19) none (.bin .neq (.t
  16) (.t 18)))]) (.cond 19 (.seq (.reg [(.mk (some 4) none (.mov (.k (.val (.bool false)))))]) .ret) .skip)) (.seq (.seq (.reg [(.mk (some 20) none (.faddr 3 1 false (.t 2))), (.mk (some 21) none (.load 1 false (.t
  20))), (.mk (some 22) none (.faddr 3 1 false (.t 3))), (.mk (some 23) none (.load 1 false (.t 22))), (.mk (some 24) none (.bin .neq (.t 21) (.t 23)))]) (.cond 24 (.seq (.reg [(.mk (some 4) none (.mov (.k (.val (.bool
  false)))))]) .ret) .skip)) (.seq (.seq (.reg [(.mk (some 25) none (.faddr 4 1 false (.t 2))), (.mk (some 26) none (.load 1 false (.t 25))), (.mk (some 27) none (.faddr 4 1 false (.t 3))), (.mk (some 28) none (.load 1
  false (.t 27))), (.mk (some 29) none (.bin .neq (.t 26) (.t 28)))]) (.cond 29 (.seq (.reg [(.mk (some 4) none (.mov (.k (.val (.bool false)))))]) .ret) .skip)) (.seq (.seq (.reg [(.mk (some 30) none (.faddr 5 1 false
  (.t 2))), (.mk (some 31) none (.load 1 false (.t 30))), (.mk (some 32) none (.faddr 5 1 false (.t 3))), (.mk (some 33) none (.load 1 false (.t 32))), (.mk (some 34) none (.call false 35 [(.t 31), (.t 33)])), (.mk
  (some 35) none (.not (.t 34)))]) (.cond 35 (.seq (.reg [(.mk (some 4) none (.mov (.k (.val (.bool false)))))]) .ret) .skip)) (.seq (.reg [(.mk (some 4) none (.mov (.k (.val (.bool true)))))]) .ret)))))))),
  [(.t 4)]⟩
theorem i119 : IsFun Tryz.prog 119 g119 := ⟨Tryz.f119, _, [], Tryz.func119, by kernel_rfl, rfl, by kernel_rfl, by kernel_rfl, rfl⟩
def g124 : GFun := ⟨⟨18, []⟩,
  (.seq (.reg [(.mk (some 4) none (.mov (.k (.val (.bool false)))))]) (.seq (.seq (.reg [(.mk (some 5) none (.mov (.k (.val (.int .i64 0)))))]) (.block 0 (.loop (.seq (.seq (.reg [(.mk (some 6) none (.mov (.t 5))), (.mk
  (some 7) none (.mov (.t 0))), (.mk (some 8) none (.len (.t 7))), (.mk (some 9) none (.bin .lss (.t 6) (.t 8)))]) (.cond 9 .skip (.exit 0))) (.seq (.block 1 (.seq (.reg [(.mk (some 12) none (.mov (.t 0))), (.mk (some
  13) none (.mov (.t 5))), (.mk (some 14) none (.iaddr 1 (.t 12) (.t 13))), (.mk (some 15) none (.load 1 false (.t 14))), (.mk (some 16) none (.mov (.t 1))), (.mk (some 17) none (.bin .eql (.t 15) (.t 16)))]) (.cond 17
  (.seq (.reg [(.mk (some 4) none (.mov (.k (.val (.bool true)))))]) .ret) .skip))) (.reg [(.mk (some 10) none (.mov (.t 5))), (.mk (some 11) none (.bin .add (.t 10) (.k (.val (.int .i64 1))))), (.mk (some 5) none (.mov
  (.t 11)))])))))) (.seq (.reg [(.mk (some 4) none (.mov (.k (.val (.bool false)))))]) .ret))),
  [(.t 4)]⟩
theorem i124 : IsFun Tryz.prog 124 g124 := ⟨Tryz.f124, _, [], Tryz.func124, by kernel_rfl, rfl, by kernel_rfl, by kernel_rfl, rfl⟩
def g125 : GFun := ⟨⟨42, []⟩,
  (.seq (.reg [(.mk (some 4) none (.mov (.k (.val (.slice none 0 0)))))]) (.seq (.reg [(.mk (some 8) none (.mov (.t 0))), (.mk (some 9) none (.mov (.t 1))), (.mk (some 10) none (.call false 137 [(.t 8), (.t 9)])), (.mk
  (some 5) none (.mov (.t 10)))]) (.seq (.seq (.reg [(.mk (some 11) none (.mov (.t 5))), (.mk (some 12) none (.bin .eql (.t 11) (.k (.val (.int .i64 (-1))))))]) (.cond 12 (.seq (.reg [(.mk (some 13) none (.mov (.t 0))),
  (.mk (some 4) none (.mov (.t 13)))]) .ret) .skip)) (.seq (.seq (.reg [(.mk (some 14) none (.mov (.t 5))), (.mk (some 15) none (.bin .add (.t 14) (.k (.val (.int .i64 1))))), (.mk (some 6) none (.mov (.t 15)))])
  (.block 0 (.loop (.seq (.seq (.reg [(.mk (some 16) none (.mov (.t 6))), (.mk (some 17) none (.mov (.t 0))), (.mk (some 18) none (.len (.t 17))), (.mk (some 19) none (.bin .lss (.t 16) (.t 18)))]) (.cond 19 .skip
  (.exit 0))) (.seq (.block 1 (.seq (.reg [(.mk (some 22) none (.mov (.t 0))), (.mk (some 23) none (.mov (.t 6))), (.mk (some 24) none (.iaddr 1 (.t 22) (.t 23))), (.mk (some 25) none (.load 1 false (.t 24))), (.mk
  (some 7) none (.mov (.t 25)))]) (.seq (.reg [(.mk (some 26) none (.mov (.t 1))), (.mk (some 27) none (.mov (.t 7))), (.mk (some 28) none (.callv false (.t 26) [(.t 27)])), (.mk (some 29) none (.not (.t 28)))]) (.cond
  29 (.seq (.reg [(.mk (some 30) none (.mov (.t 0))), (.mk (some 31) none (.mov (.t 5))), (.mk (some 32) none (.mov (.t 7))), (.mk (some 33) none (.iaddr 1 (.t 30) (.t 31))), (.mk none none (.store 1 (.t 33) (.t 32)))])
  (.reg [(.mk (some 34) none (.mov (.t 5))), (.mk (some 35) none (.bin .add (.t 34) (.k (.val (.int .i64 1))))), (.mk (some 5) none (.mov (.t 35)))])) .skip)))) (.reg [(.mk (some 20) none (.mov (.t 6))), (.mk (some 21)
  none (.bin .add (.t 20) (.k (.val (.int .i64 1))))), (.mk (some 6) none (.mov (.t 21)))])))))) (.seq (.reg [(.mk (some 36) none (.mov (.t 0))), (.mk (some 37) none (.mov (.t 5))), (.mk (some 38) none (.slc 1 (.t 36)
  (some (.t 37)) none)), (.mk none none (.clr 1 (.t 38)))]) (.seq (.reg [(.mk (some 39) none (.mov (.t 0))), (.mk (some 40) none (.mov (.t 5))), (.mk (some 41) none (.slc 1 (.t 39) none (some (.t 40)))), (.mk (some 4)
  none (.mov (.t 41)))]) .ret)))))),
  [(.t 4)]⟩
theorem i125 : IsFun Tryz.prog 125 g125 := ⟨Tryz.f125, _, [], Tryz.func125, by kernel_rfl, rfl, by kernel_rfl, by kernel_rfl, rfl⟩
def g126 : GFun := ⟨⟨8, []⟩,
  (.seq (.reg [(.mk (some 2) none (.mov (.k (.val (.slice none 0 0)))))]) (.seq (.seq (.reg [(.mk (some 3) none (.mov (.t 0))), (.mk (some 4) none (.isnil false (.t 3)))]) (.cond 4 (.seq (.reg [(.mk (some 2) none (.mov
  (.k (.val (.slice none 0 0)))))]) .ret) .skip)) (.seq (.reg [(.mk (some 5) none (.bslice 1 [] 0 false [])), (.mk (some 6) none (.mov (.t 0))), (.mk (some 7) none (.append 1 8 (.t 5) (.t 6))), (.mk (some 2) none (.mov
  (.t 7)))]) .ret))),
  [(.t 2)]⟩
theorem i126 : IsFun Tryz.prog 126 g126 := ⟨Tryz.f126, _, [], Tryz.func126, by kernel_rfl, rfl, by kernel_rfl, by kernel_rfl, rfl⟩
def g127 : GFun := ⟨⟨10, []⟩,
  (.seq (.reg [(.mk (some 3) none (.mov (.k (.val (.bool false)))))]) (.seq (.reg [(.mk (some 4) none (.mov (.t 0))), (.mk (some 5) none (.load 1 false (.t 1))), (.mk (some 6) none (.len (.t 5))), (.mk (some 7) none
  (.bin .sub (.t 6) (.k (.val (.int .i64 1))))), (.mk (some 8) none (.call false 70 [(.t 4), (.k (.val (.int .i64 0))), (.t 7)])), (.mk (some 9) none (.not (.t 8))), (.mk (some 3) none (.mov (.t 9)))]) .ret)),
  [(.t 3)]⟩
theorem i127 : IsFun Tryz.prog 127 g127 := ⟨Tryz.f127, _, [], Tryz.func127, by kernel_rfl, rfl, by kernel_rfl, by kernel_rfl, rfl⟩
def g128 : GFun := ⟨⟨19, [3,4]⟩,
  (.seq (.reg [(.mk (some 3) none (.boxro 2 (.t 0))), (.mk (some 4) none (.boxro 1 (.t 1))), (.mk (some 6) none (.mov (.k (.val (.bool false)))))]) (.seq (.reg [(.mk (some 7) none (.load 1 true (.t 4))), (.mk (some 8)
  none (.call true 197 [(.t 7)])), (.mk (some 9) none (.mov (.t 8))), (.mk (some 12) (some (9, true)) (.mov (.t 2))), (.mk (some 14) (some (9, true)) (.faddr 0 1 false (.t 4))), (.mk (some 10) (some (9, true)) (.load 2
  true (.t 3))), (.mk (some 11) (some (9, true)) (.load 1 true (.t 4))), (.mk (some 13) (some (9, true)) (.call true 198 [(.t 10), (.t 11), (.k (.val (.int .i64 0))), (.k (.val (.int .i64 (-1)))), (.k (.val (.int .i64
  0))), (.t 12)])), (.mk (some 15) (some (9, true)) (.load 1 false (.t 14))), (.mk (some 16) (some (9, true)) (.len (.t 15))), (.mk (some 17) (some (9, true)) (.bin .eql (.t 13) (.t 16))), (.mk (some 18) none (.pick (.t
  9) (.t 17) (.k (.val (.bool false))))), (.mk (some 6) none (.mov (.t 18)))]) .ret)),
  [(.t 6)]⟩
theorem i128 : IsFun Tryz.prog 128 g128 := ⟨Tryz.f128, _, [], Tryz.func128, by kernel_rfl, rfl, by kernel_rfl, by kernel_rfl, rfl⟩
def g129 : GFun := ⟨⟨29, [3,4,7]⟩,
  (.seq (.reg [(.mk (some 3) none (.boxro 2 (.t 0))), (.mk (some 4) none (.boxro 1 (.t 1))), (.mk (some 6) none (.mov (.k (.val (.string (ByteArray.mk #[]))))))]) (.seq (.seq (.reg [(.mk (some 9) none (.mov (.t 2))),
  (.mk (some 10) none (.faddr 0 1 false (.t 4))), (.mk (some 11) none (.load 1 false (.t 10))), (.mk (some 12) none (.len (.t 11))), (.mk (some 13) none (.bin .sub (.t 12) (.k (.val (.int .i64 1))))), (.mk (some 14)
  none (.call false 67 [(.t 9), (.k (.val (.int .i64 0))), (.t 13)])), (.mk (some 15) none (.not (.t 14)))]) (.cond 15 (.seq (.reg [(.mk (some 6) none (.mov (.k (.val (.string (ByteArray.mk #[]))))))]) .ret) .skip))
  (.seq (.reg [(.mk (some 18) none (.faddr 0 1 false (.t 4))), (.mk (some 20) none (.mov (.t 2))), (.mk (some 7) none (.allocr 6)), (.mk (some 17) none (.load 2 true (.t 3))), (.mk (some 19) none (.load 1 false (.t
  18))), (.mk (some 21) none (.iaddr 6 (.t 19) (.t 20))), (.mk (some 22) none (.faddr 4 1 false (.t 21))), (.mk (some 23) none (.load 1 false (.t 22))), (.mk (some 24) none (.call true 101 [(.t 17), (.t 23)])), (.mk
  (some 16) none (.mov (.t 24))), (.mk (some 25) none (.ext (.t 16) 0)), (.mk (some 26) none (.ext (.t 16) 1)), (.mk (some 7) none (.stro 6 7 (.t 25))), (.mk (some 8) none (.mov (.t 26)))]) (.seq (.reg [(.mk (some 27)
  none (.faddr 1 1 false (.t 7))), (.mk (some 28) none (.load 1 false (.t 27))), (.mk (some 6) none (.mov (.t 28)))]) .ret)))),
  [(.t 6)]⟩
theorem i129 : IsFun Tryz.prog 129 g129 := ⟨Tryz.f129, _, [], Tryz.func129, by kernel_rfl, rfl, by kernel_rfl, by kernel_rfl, rfl⟩
def g130 : GFun := ⟨⟨29, [2,4]⟩,
  (.seq (.reg [(.mk (some 2) none (.boxro 2 (.t 0))), (.mk (some 4) none (.allocr 2)), (.mk (some 5) none (.mov (.k (.val (.bool false)))))]) (.seq (.seq (.reg [(.mk (some 6) none (.mov (.k (.val (.int .i64 0)))))])
  (.block 0 (.loop (.seq (.seq (.reg [(.mk (some 7) none (.mov (.t 6))), (.mk (some 8) none (.faddr 0 1 false (.t 2))), (.mk (some 9) none (.load 1 false (.t 8))), (.mk (some 10) none (.len (.t 9))), (.mk (some 11) none
  (.bin .lss (.t 7) (.t 10)))]) (.cond 11 .skip (.exit 0))) (.seq (.block 1 (.seq (.reg [(.mk (some 14) none (.faddr 0 1 false (.t 2))), (.mk (some 15) none (.load 1 false (.t 14))), (.mk (some 16) none (.mov (.t 6))),
  (.mk (some 17) none (.iaddr 2 (.t 15) (.t 16))), (.mk (some 18) none (.faddr 0 1 false (.t 17))), (.mk (some 19) none (.load 1 false (.t 18))), (.mk (some 20) none (.mov (.t 1))), (.mk (some 21) none (.bin .eql (.t
  19) (.t 20)))]) (.cond 21 (.seq (.reg [(.mk (some 22) none (.faddr 0 1 false (.t 2))), (.mk (some 23) none (.load 1 false (.t 22))), (.mk (some 24) none (.mov (.t 6))), (.mk (some 25) none (.iaddr 2 (.t 23) (.t 24))),
  (.mk (some 26) none (.load 2 true (.t 25))), (.mk (some 27) none (.call false 199 [(.t 26)])), (.mk (some 4) none (.stro 2 4 (.t 27))), (.mk (some 5) none (.mov (.k (.val (.bool true)))))]) .ret) .skip))) (.reg [(.mk
  (some 12) none (.mov (.t 6))), (.mk (some 13) none (.bin .add (.t 12) (.k (.val (.int .i64 1))))), (.mk (some 6) none (.mov (.t 13)))])))))) (.seq (.reg [(.mk (some 28) none (.build [(.val (.string (ByteArray.mk
  #[]))), (.val (.slice none 0 0))] [])), (.mk (some 4) none (.stro 2 4 (.t 28))), (.mk (some 5) none (.mov (.k (.val (.bool false)))))]) .ret))),
  [(.c 4 2 true), (.t 5)]⟩
theorem i130 : IsFun Tryz.prog 130 g130 := ⟨Tryz.f130, _, [], Tryz.func130, by kernel_rfl, rfl, by kernel_rfl, by kernel_rfl, rfl⟩
def g131 : GFun := ⟨⟨11, [2,3]⟩,
  (.seq (.reg [(.mk (some 2) none (.boxro 2 (.t 0))), (.mk (some 3) none (.boxro 1 (.t 1))), (.mk (some 4) none (.mov (.k (.val (.bool false)))))]) (.seq (.reg [(.mk (some 5) none (.load 2 true (.t 2))), (.mk (some 6)
  none (.load 1 true (.t 3))), (.mk (some 7) none (.load 2 true (.t 2))), (.mk (some 8) none (.load 1 true (.t 3))), (.mk (some 9) none (.call true 133 [(.t 7), (.t 8), (.k (.val (.int .i64 0)))])), (.mk (some 10) none
  (.call true 200 [(.t 5), (.t 6), (.t 9)])), (.mk (some 4) none (.mov (.t 10)))]) .ret)),
  [(.t 4)]⟩
theorem i131 : IsFun Tryz.prog 131 g131 := ⟨Tryz.f131, _, [], Tryz.func131, by kernel_rfl, rfl, by kernel_rfl, by kernel_rfl, rfl⟩
def g132 : GFun := ⟨⟨22, [2,4,7]⟩,
  (.seq (.reg [(.mk (some 2) none (.boxro 2 (.t 0))), (.mk (some 4) none (.allocr 2)), (.mk (some 5) none (.mov (.k (.val (.bool false)))))]) (.seq (.seq (.reg [(.mk (some 8) none (.faddr 0 1 false (.t 2))), (.mk (some
  9) none (.load 1 false (.t 8))), (.mk (some 10) none (.len (.t 9))), (.mk (some 11) none (.mov (.k (.val (.int .i64 0)))))]) (.block 0 (.loop (.seq (.reg [(.mk (some 12) none (.bin .lss (.t 11) (.t 10)))]) (.seq
  (.cond 12 .skip (.exit 0)) (.seq (.block 1 (.seq (.reg [(.mk (some 13) none (.iaddr 2 (.t 9) (.t 11))), (.mk (some 14) none (.load 2 true (.t 13))), (.mk (some 7) none (.allocr 2)), (.mk (some 7) none (.stro 2 7 (.t
  14)))]) (.seq (.reg [(.mk (some 15) none (.faddr 0 1 false (.t 7))), (.mk (some 16) none (.load 1 false (.t 15))), (.mk (some 17) none (.mov (.t 1))), (.mk (some 18) none (.bin .eql (.t 16) (.t 17)))]) (.cond 18 (.seq
  (.reg [(.mk (some 19) none (.load 2 true (.t 7))), (.mk (some 4) none (.stro 2 4 (.t 19))), (.mk (some 5) none (.mov (.k (.val (.bool true)))))]) .ret) .skip)))) (.reg [(.mk (some 20) none (.bin .add (.t 11) (.k (.val
  (.int .i64 1))))), (.mk (some 11) none (.mov (.t 20)))]))))))) (.seq (.reg [(.mk (some 21) none (.build [(.val (.string (ByteArray.mk #[]))), (.val (.slice none 0 0))] [])), (.mk (some 4) none (.stro 2 4 (.t 21))),
  (.mk (some 5) none (.mov (.k (.val (.bool false)))))]) .ret))),
  [(.c 4 2 true), (.t 5)]⟩
theorem i132 : IsFun Tryz.prog 132 g132 := ⟨Tryz.f132, _, [], Tryz.func132, by kernel_rfl, rfl, by kernel_rfl, by kernel_rfl, rfl⟩
def g133 : GFun := ⟨⟨26, [3,4,7]⟩,
  (.seq (.reg [(.mk (some 3) none (.boxro 2 (.t 0))), (.mk (some 4) none (.boxro 1 (.t 1))), (.mk (some 6) none (.mov (.k (.val (.string (ByteArray.mk #[]))))))]) (.seq (.seq (.reg [(.mk (some 9) none (.load 1 true (.t
  4))), (.mk (some 10) none (.mov (.t 2))), (.mk (some 11) none (.call false 109 [(.t 9), (.t 10)])), (.mk (some 12) none (.not (.t 11)))]) (.cond 12 (.seq (.reg [(.mk (some 6) none (.mov (.k (.val (.string
  (ByteArray.mk #[]))))))]) .ret) .skip)) (.seq (.reg [(.mk (some 15) none (.faddr 0 1 false (.t 4))), (.mk (some 17) none (.mov (.t 2))), (.mk (some 7) none (.allocr 6)), (.mk (some 14) none (.load 2 true (.t 3))),
  (.mk (some 16) none (.load 1 false (.t 15))), (.mk (some 18) none (.iaddr 6 (.t 16) (.t 17))), (.mk (some 19) none (.faddr 4 1 false (.t 18))), (.mk (some 20) none (.load 1 false (.t 19))), (.mk (some 21) none (.call
  true 110 [(.t 14), (.t 20)])), (.mk (some 13) none (.mov (.t 21))), (.mk (some 22) none (.ext (.t 13) 0)), (.mk (some 23) none (.ext (.t 13) 1)), (.mk (some 7) none (.stro 6 7 (.t 22))), (.mk (some 8) none (.mov (.t
  23)))]) (.seq (.reg [(.mk (some 24) none (.faddr 1 1 false (.t 7))), (.mk (some 25) none (.load 1 false (.t 24))), (.mk (some 6) none (.mov (.t 25)))]) .ret)))),
  [(.t 6)]⟩
theorem i133 : IsFun Tryz.prog 133 g133 := ⟨Tryz.f133, _, [], Tryz.func133, by kernel_rfl, rfl, by kernel_rfl, by kernel_rfl, rfl⟩
def g134 : GFun := ⟨⟨19, [3]⟩,
  (.seq (.reg [(.mk (some 3) none (.boxro 2 (.t 1))), (.mk (some 4) none (.mov (.k (.val (.int .i64 0)))))]) (.seq (.seq (.reg [(.mk (some 6) none (.mov (.t 0))), (.mk (some 7) none (.len (.t 6))), (.mk (some 8) none
  (.mov (.k (.val (.int .i64 0)))))]) (.block 0 (.loop (.seq (.reg [(.mk (some 9) none (.bin .lss (.t 8) (.t 7)))]) (.seq (.cond 9 .skip (.exit 0)) (.seq (.block 1 (.seq (.reg [(.mk (some 10) none (.mov (.t 8))), (.mk
  (some 5) none (.mov (.t 10)))]) (.seq (.reg [(.mk (some 12) none (.mov (.t 0))), (.mk (some 13) none (.mov (.t 5))), (.mk (some 14) none (.iaddr 2 (.t 12) (.t 13))), (.mk (some 11) none (.load 2 true (.t 3))), (.mk
  (some 15) none (.load 2 true (.t 14))), (.mk (some 16) none (.aeq false [1, 2] (.t 11) (.t 15)))]) (.cond 16 (.seq (.reg [(.mk (some 17) none (.mov (.t 5))), (.mk (some 4) none (.mov (.t 17)))]) .ret) .skip)))) (.reg
  [(.mk (some 18) none (.bin .add (.t 8) (.k (.val (.int .i64 1))))), (.mk (some 8) none (.mov (.t 18)))]))))))) (.seq (.reg [(.mk (some 4) none (.mov (.k (.val (.int .i64 (-1))))))]) .ret))),
  [(.t 4)]⟩
theorem i134 : IsFun Tryz.prog 134 g134 := ⟨Tryz.f134, _, [], Tryz.func134, by kernel_rfl, rfl, by kernel_rfl, by kernel_rfl, rfl⟩
def g137 : GFun := ⟨⟨19, []⟩,
  (.seq (.reg [(.mk (some 4) none (.mov (.k (.val (.int .i64 0)))))]) (.seq (.seq (.reg [(.mk (some 6) none (.mov (.t 0))), (.mk (some 7) none (.len (.t 6))), (.mk (some 8) none (.mov (.k (.val (.int .i64 0)))))])
  (.block 0 (.loop (.seq (.reg [(.mk (some 9) none (.bin .lss (.t 8) (.t 7)))]) (.seq (.cond 9 .skip (.exit 0)) (.seq (.block 1 (.seq (.reg [(.mk (some 10) none (.mov (.t 8))), (.mk (some 5) none (.mov (.t 10)))]) (.seq
  (.reg [(.mk (some 11) none (.mov (.t 1))), (.mk (some 12) none (.mov (.t 0))), (.mk (some 13) none (.mov (.t 5))), (.mk (some 14) none (.iaddr 1 (.t 12) (.t 13))), (.mk (some 15) none (.load 1 false (.t 14))), (.mk
  (some 16) none (.callv false (.t 11) [(.t 15)]))]) (.cond 16 (.seq (.reg [(.mk (some 17) none (.mov (.t 5))), (.mk (some 4) none (.mov (.t 17)))]) .ret) .skip)))) (.reg [(.mk (some 18) none (.bin .add (.t 8) (.k (.val
  (.int .i64 1))))), (.mk (some 8) none (.mov (.t 18)))]))))))) (.seq (.reg [(.mk (some 4) none (.mov (.k (.val (.int .i64 (-1))))))]) .ret))),
  [(.t 4)]⟩
theorem i137 : IsFun Tryz.prog 137 g137 := ⟨Tryz.f137, _, [], Tryz.func137, by kernel_rfl, rfl, by kernel_rfl, by kernel_rfl, rfl⟩
def g138 : GFun := ⟨⟨10, []⟩,
  (.seq (.reg [(.mk (some 4) none (.mov (.k (.val (.int .i64 0)))))]) (.seq (.seq (.reg [(.mk (some 5) none (.mov (.t 0))), (.mk (some 6) none (.mov (.t 1))), (.mk (some 7) none (.bin .gtr (.t 5) (.t 6)))]) (.cond 7
  (.seq (.reg [(.mk (some 8) none (.mov (.t 0))), (.mk (some 4) none (.mov (.t 8)))]) .ret) .skip)) (.seq (.reg [(.mk (some 9) none (.mov (.t 1))), (.mk (some 4) none (.mov (.t 9)))]) .ret))),
  [(.t 4)]⟩
theorem i138 : IsFun Tryz.prog 138 g138 := ⟨Tryz.f138, _, [], Tryz.func138, by kernel_rfl, rfl, by kernel_rfl, by kernel_rfl, rfl⟩
def g144 : GFun := ⟨⟨28, [2,4]⟩,
  (.seq (.reg [(.mk (some 2) none (.boxro 2 (.t 0))), (.mk (some 4) none (.allocr 4)), (.mk (some 5) none (.mov (.k (.val (.bool false)))))]) (.seq (.seq (.reg [(.mk (some 6) none (.mov (.k (.val (.int .i64 0)))))])
  (.block 0 (.loop (.seq (.seq (.reg [(.mk (some 7) none (.mov (.t 6))), (.mk (some 8) none (.faddr 1 1 false (.t 2))), (.mk (some 9) none (.load 1 false (.t 8))), (.mk (some 10) none (.len (.t 9))), (.mk (some 11) none
  (.bin .lss (.t 7) (.t 10)))]) (.cond 11 .skip (.exit 0))) (.seq (.block 1 (.seq (.reg [(.mk (some 14) none (.faddr 1 1 false (.t 2))), (.mk (some 15) none (.load 1 false (.t 14))), (.mk (some 16) none (.mov (.t 6))),
  (.mk (some 17) none (.iaddr 4 (.t 15) (.t 16))), (.mk (some 18) none (.faddr 0 1 false (.t 17))), (.mk (some 19) none (.load 1 false (.t 18))), (.mk (some 20) none (.mov (.t 1))), (.mk (some 21) none (.bin .eql (.t
  19) (.t 20)))]) (.cond 21 (.seq (.reg [(.mk (some 22) none (.faddr 1 1 false (.t 2))), (.mk (some 23) none (.load 1 false (.t 22))), (.mk (some 24) none (.mov (.t 6))), (.mk (some 25) none (.iaddr 4 (.t 23) (.t 24))),
  (.mk (some 26) none (.load 4 true (.t 25))), (.mk (some 4) none (.stro 4 4 (.t 26))), (.mk (some 5) none (.mov (.k (.val (.bool true)))))]) .ret) .skip))) (.reg [(.mk (some 12) none (.mov (.t 6))), (.mk (some 13) none
  (.bin .add (.t 12) (.k (.val (.int .i64 1))))), (.mk (some 6) none (.mov (.t 13)))])))))) (.seq (.reg [(.mk (some 27) none (.build [(.val (.string (ByteArray.mk #[]))), (.val (.int .i64 0)), (.val (.int .i64 0)),
  (.val (.bool false))] [])), (.mk (some 4) none (.stro 4 4 (.t 27))), (.mk (some 5) none (.mov (.k (.val (.bool false)))))]) .ret))),
  [(.c 4 4 true), (.t 5)]⟩
theorem i144 : IsFun Tryz.prog 144 g144 := ⟨Tryz.f144, _, [], Tryz.func144, by kernel_rfl, rfl, by kernel_rfl, by kernel_rfl, rfl⟩
def g155 : GFun := ⟨⟨22, [2,4,7]⟩,
  (.seq (.reg [(.mk (some 2) none (.boxro 2 (.t 0))), (.mk (some 4) none (.allocr 4)), (.mk (some 5) none (.mov (.k (.val (.bool false)))))]) (.seq (.seq (.reg [(.mk (some 8) none (.faddr 1 1 false (.t 2))), (.mk (some
  9) none (.load 1 false (.t 8))), (.mk (some 10) none (.len (.t 9))), (.mk (some 11) none (.mov (.k (.val (.int .i64 0)))))]) (.block 0 (.loop (.seq (.reg [(.mk (some 12) none (.bin .lss (.t 11) (.t 10)))]) (.seq
  (.cond 12 .skip (.exit 0)) (.seq (.block 1 (.seq (.reg [(.mk (some 13) none (.iaddr 4 (.t 9) (.t 11))), (.mk (some 14) none (.load 4 true (.t 13))), (.mk (some 7) none (.allocr 4)), (.mk (some 7) none (.stro 4 7 (.t
  14)))]) (.seq (.reg [(.mk (some 15) none (.faddr 0 1 false (.t 7))), (.mk (some 16) none (.load 1 false (.t 15))), (.mk (some 17) none (.mov (.t 1))), (.mk (some 18) none (.bin .eql (.t 16) (.t 17)))]) (.cond 18 (.seq
  (.reg [(.mk (some 19) none (.load 4 true (.t 7))), (.mk (some 4) none (.stro 4 4 (.t 19))), (.mk (some 5) none (.mov (.k (.val (.bool true)))))]) .ret) .skip)))) (.reg [(.mk (some 20) none (.bin .add (.t 11) (.k (.val
  (.int .i64 1))))), (.mk (some 11) none (.mov (.t 20)))]))))))) (.seq (.reg [(.mk (some 21) none (.build [(.val (.string (ByteArray.mk #[]))), (.val (.int .i64 0)), (.val (.int .i64 0)), (.val (.bool false))] [])),
  (.mk (some 4) none (.stro 4 4 (.t 21))), (.mk (some 5) none (.mov (.k (.val (.bool false)))))]) .ret))),
  [(.c 4 4 true), (.t 5)]⟩
theorem i155 : IsFun Tryz.prog 155 g155 := ⟨Tryz.f155, _, [], Tryz.func155, by kernel_rfl, rfl, by kernel_rfl, by kernel_rfl, rfl⟩
def g160 : GFun := ⟨⟨9, []⟩,
  (.seq (.reg [(.mk (some 4) none (.mov (.k (.val (.bool false)))))]) (.seq (.reg [(.mk (some 5) none (.mov (.t 0))), (.mk (some 6) none (.mov (.t 1))), (.mk (some 7) none (.call false 230 [(.t 5), (.t 6)])), (.mk (some
  8) none (.bin .geq (.t 7) (.k (.val (.int .i64 0))))), (.mk (some 4) none (.mov (.t 8)))]) .ret)),
  [(.t 4)]⟩
theorem i160 : IsFun Tryz.prog 160 g160 := ⟨Tryz.f160, _, [], Tryz.func160, by kernel_rfl, rfl, by kernel_rfl, by kernel_rfl, rfl⟩
def g171 : GFun := ⟨⟨27, []⟩,
  (.seq (.reg [(.mk (some 4) none (.mov (.k (.val (.int .i64 0)))))]) (.seq (.reg [(.mk (some 6) none (.mov (.t 1))), (.mk (some 7) none (.mov (.t 0))), (.mk (some 8) none (.len (.t 7))), (.mk (some 9) none (.bin .sub
  (.t 6) (.t 8))), (.mk (some 1) none (.mov (.t 9)))]) (.seq (.seq (.reg [(.mk (some 10) none (.mov (.t 1))), (.mk (some 11) none (.bin .lss (.t 10) (.k (.val (.int .i64 0)))))]) (.cond 11 (.seq (.reg [(.mk (some 4)
  none (.mov (.k (.val (.int .i64 (-1))))))]) .ret) .skip)) (.seq (.seq (.reg [(.mk (some 5) none (.mov (.k (.val (.int .i64 0)))))]) (.block 0 (.loop (.seq (.seq (.reg [(.mk (some 12) none (.mov (.t 5))), (.mk (some
  13) none (.mov (.t 0))), (.mk (some 14) none (.len (.t 13))), (.mk (some 15) none (.bin .lss (.t 12) (.t 14)))]) (.cond 15 .skip (.exit 0))) (.seq (.block 1 (.seq (.reg [(.mk (some 18) none (.mov (.t 0))), (.mk (some
  19) none (.mov (.t 5))), (.mk (some 20) none (.iaddr 4 (.t 18) (.t 19))), (.mk (some 21) none (.load 4 true (.t 20))), (.mk (some 22) none (.mov (.t 1))), (.mk (some 23) none (.call false 239 [(.t 21), (.t 22)])),
  (.mk (some 1) none (.mov (.t 23)))]) (.seq (.reg [(.mk (some 24) none (.mov (.t 1))), (.mk (some 25) none (.bin .lss (.t 24) (.k (.val (.int .i64 0)))))]) (.cond 25 (.seq (.reg [(.mk (some 4) none (.mov (.k (.val
  (.int .i64 (-1))))))]) .ret) .skip)))) (.reg [(.mk (some 16) none (.mov (.t 5))), (.mk (some 17) none (.bin .add (.t 16) (.k (.val (.int .i64 1))))), (.mk (some 5) none (.mov (.t 17)))])))))) (.seq (.reg [(.mk (some
  26) none (.mov (.t 1))), (.mk (some 4) none (.mov (.t 26)))]) .ret))))),
  [(.t 4)]⟩
theorem i171 : IsFun Tryz.prog 171 g171 := ⟨Tryz.f171, _, [], Tryz.func171, by kernel_rfl, rfl, by kernel_rfl, by kernel_rfl, rfl⟩
def g172 : GFun := ⟨⟨28, []⟩,
  (.seq (.reg [(.mk (some 4) none (.mov (.k (.val (.int .i64 0)))))]) (.seq (.reg [(.mk (some 6) none (.mov (.t 1))), (.mk (some 7) none (.mov (.t 0))), (.mk (some 8) none (.len (.t 7))), (.mk (some 9) none (.bin .sub
  (.t 6) (.t 8))), (.mk (some 1) none (.mov (.t 9)))]) (.seq (.seq (.reg [(.mk (some 10) none (.mov (.t 1))), (.mk (some 11) none (.bin .lss (.t 10) (.k (.val (.int .i64 0)))))]) (.cond 11 (.seq (.reg [(.mk (some 4)
  none (.mov (.k (.val (.int .i64 (-1))))))]) .ret) .skip)) (.seq (.seq (.reg [(.mk (some 5) none (.mov (.k (.val (.int .i64 0)))))]) (.block 0 (.loop (.seq (.seq (.reg [(.mk (some 12) none (.mov (.t 5))), (.mk (some
  13) none (.mov (.t 0))), (.mk (some 14) none (.len (.t 13))), (.mk (some 15) none (.bin .lss (.t 12) (.t 14)))]) (.cond 15 .skip (.exit 0))) (.seq (.block 1 (.seq (.reg [(.mk (some 18) none (.mov (.t 1))), (.mk (some
  19) none (.mov (.t 0))), (.mk (some 20) none (.mov (.t 5))), (.mk (some 21) none (.iaddr 1 (.t 19) (.t 20))), (.mk (some 22) none (.load 1 false (.t 21))), (.mk (some 23) none (.slen (.t 22))), (.mk (some 24) none
  (.bin .sub (.t 18) (.t 23))), (.mk (some 1) none (.mov (.t 24)))]) (.seq (.reg [(.mk (some 25) none (.mov (.t 1))), (.mk (some 26) none (.bin .lss (.t 25) (.k (.val (.int .i64 0)))))]) (.cond 26 (.seq (.reg [(.mk
  (some 4) none (.mov (.k (.val (.int .i64 (-1))))))]) .ret) .skip)))) (.reg [(.mk (some 16) none (.mov (.t 5))), (.mk (some 17) none (.bin .add (.t 16) (.k (.val (.int .i64 1))))), (.mk (some 5) none (.mov (.t
  17)))])))))) (.seq (.reg [(.mk (some 27) none (.mov (.t 1))), (.mk (some 4) none (.mov (.t 27)))]) .ret))))),
  [(.t 4)]⟩
theorem i172 : IsFun Tryz.prog 172 g172 := ⟨Tryz.f172, _, [], Tryz.func172, by kernel_rfl, rfl, by kernel_rfl, by kernel_rfl, rfl⟩
def g173 : GFun := ⟨⟨27, []⟩,
  (.seq (.reg [(.mk (some 4) none (.mov (.k (.val (.int .i64 0)))))]) (.seq (.reg [(.mk (some 6) none (.mov (.t 1))), (.mk (some 7) none (.mov (.t 0))), (.mk (some 8) none (.len (.t 7))), (.mk (some 9) none (.bin .sub
  (.t 6) (.t 8))), (.mk (some 1) none (.mov (.t 9)))]) (.seq (.seq (.reg [(.mk (some 10) none (.mov (.t 1))), (.mk (some 11) none (.bin .lss (.t 10) (.k (.val (.int .i64 0)))))]) (.cond 11 (.seq (.reg [(.mk (some 4)
  none (.mov (.k (.val (.int .i64 (-1))))))]) .ret) .skip)) (.seq (.seq (.reg [(.mk (some 5) none (.mov (.k (.val (.int .i64 0)))))]) (.block 0 (.loop (.seq (.seq (.reg [(.mk (some 12) none (.mov (.t 5))), (.mk (some
  13) none (.mov (.t 0))), (.mk (some 14) none (.len (.t 13))), (.mk (some 15) none (.bin .lss (.t 12) (.t 14)))]) (.cond 15 .skip (.exit 0))) (.seq (.block 1 (.seq (.reg [(.mk (some 18) none (.mov (.t 0))), (.mk (some
  19) none (.mov (.t 5))), (.mk (some 20) none (.iaddr 9 (.t 18) (.t 19))), (.mk (some 21) none (.load 9 true (.t 20))), (.mk (some 22) none (.mov (.t 1))), (.mk (some 23) none (.call false 240 [(.t 21), (.t 22)])),
  (.mk (some 1) none (.mov (.t 23)))]) (.seq (.reg [(.mk (some 24) none (.mov (.t 1))), (.mk (some 25) none (.bin .lss (.t 24) (.k (.val (.int .i64 0)))))]) (.cond 25 (.seq (.reg [(.mk (some 4) none (.mov (.k (.val
  (.int .i64 (-1))))))]) .ret) .skip)))) (.reg [(.mk (some 16) none (.mov (.t 5))), (.mk (some 17) none (.bin .add (.t 16) (.k (.val (.int .i64 1))))), (.mk (some 5) none (.mov (.t 17)))])))))) (.seq (.reg [(.mk (some
  26) none (.mov (.t 1))), (.mk (some 4) none (.mov (.t 26)))]) .ret))))),
  [(.t 4)]⟩
theorem i173 : IsFun Tryz.prog 173 g173 := ⟨Tryz.f173, _, [], Tryz.func173, by kernel_rfl, rfl, by kernel_rfl, by kernel_rfl, rfl⟩
def g174 : GFun := ⟨⟨27, []⟩,
  (.seq (.reg [(.mk (some 4) none (.mov (.k (.val (.int .i64 0)))))]) (.seq (.reg [(.mk (some 6) none (.mov (.t 1))), (.mk (some 7) none (.mov (.t 0))), (.mk (some 8) none (.len (.t 7))), (.mk (some 9) none (.bin .sub
  (.t 6) (.t 8))), (.mk (some 1) none (.mov (.t 9)))]) (.seq (.seq (.reg [(.mk (some 10) none (.mov (.t 1))), (.mk (some 11) none (.bin .lss (.t 10) (.k (.val (.int .i64 0)))))]) (.cond 11 (.seq (.reg [(.mk (some 4)
  none (.mov (.k (.val (.int .i64 (-1))))))]) .ret) .skip)) (.seq (.seq (.reg [(.mk (some 5) none (.mov (.k (.val (.int .i64 0)))))]) (.block 0 (.loop (.seq (.seq (.reg [(.mk (some 12) none (.mov (.t 5))), (.mk (some
  13) none (.mov (.t 0))), (.mk (some 14) none (.len (.t 13))), (.mk (some 15) none (.bin .lss (.t 12) (.t 14)))]) (.cond 15 .skip (.exit 0))) (.seq (.block 1 (.seq (.reg [(.mk (some 18) none (.mov (.t 0))), (.mk (some
  19) none (.mov (.t 5))), (.mk (some 20) none (.iaddr 16 (.t 18) (.t 19))), (.mk (some 21) none (.load 16 true (.t 20))), (.mk (some 22) none (.mov (.t 1))), (.mk (some 23) none (.call false 241 [(.t 21), (.t 22)])),
  (.mk (some 1) none (.mov (.t 23)))]) (.seq (.reg [(.mk (some 24) none (.mov (.t 1))), (.mk (some 25) none (.bin .lss (.t 24) (.k (.val (.int .i64 0)))))]) (.cond 25 (.seq (.reg [(.mk (some 4) none (.mov (.k (.val
  (.int .i64 (-1))))))]) .ret) .skip)))) (.reg [(.mk (some 16) none (.mov (.t 5))), (.mk (some 17) none (.bin .add (.t 16) (.k (.val (.int .i64 1))))), (.mk (some 5) none (.mov (.t 17)))])))))) (.seq (.reg [(.mk (some
  26) none (.mov (.t 1))), (.mk (some 4) none (.mov (.t 26)))]) .ret))))),
  [(.t 4)]⟩
theorem i174 : IsFun Tryz.prog 174 g174 := ⟨Tryz.f174, _, [], Tryz.func174, by kernel_rfl, rfl, by kernel_rfl, by kernel_rfl, rfl⟩
def g175 : GFun := ⟨⟨12, []⟩,
  (.seq (.reg [(.mk (some 4) none (.mov (.k (.val (.int .i64 0)))))]) (.seq (.reg [(.mk (some 5) none (.mov (.t 1))), (.mk (some 6) none (.mov (.t 0))), (.mk (some 7) none (.len (.t 6))), (.mk (some 8) none (.bin .sub
  (.t 5) (.t 7))), (.mk (some 1) none (.mov (.t 8)))]) (.seq (.seq (.reg [(.mk (some 9) none (.mov (.t 1))), (.mk (some 10) none (.bin .lss (.t 9) (.k (.val (.int .i64 0)))))]) (.cond 10 (.seq (.reg [(.mk (some 4) none
  (.mov (.k (.val (.int .i64 (-1))))))]) .ret) .skip)) (.seq (.reg [(.mk (some 11) none (.mov (.t 1))), (.mk (some 4) none (.mov (.t 11)))]) .ret)))),
  [(.t 4)]⟩
theorem i175 : IsFun Tryz.prog 175 g175 := ⟨Tryz.f175, _, [], Tryz.func175, by kernel_rfl, rfl, by kernel_rfl, by kernel_rfl, rfl⟩
def g176 : GFun := ⟨⟨73, [1,2,6,1000003]⟩,
  (.seq (.reg [(.mk (some 1) none (.boxro 6 (.t 0))), (.mk (some 2) none (.allocr 6))]) (.seq (.reg [(.mk (some 7) none (.faddr 0 1 false (.t 1))), (.mk (some 8) none (.loadr 1 false (.t 7))), (.mk (some 9) none (.faddr
  1 1 false (.t 1))), (.mk (some 10) none (.loadr 1 false (.t 9))), (.mk (some 11) none (.faddr 3 1 false (.t 1))), (.mk (some 12) none (.loadr 1 false (.t 11))), (.mk (some 14) none (.faddr 2 1 false (.t 1))), (.mk
  (some 15) none (.loadr 1 false (.t 14))), (.mk (some 3) none (.allocr 6)), (.mk (some 13) none (.bslice 1 [] 0 false [])), (.mk (some 16) none (.append 1 16 (.t 13) (.t 15))), (.mk (some 17) none (.build [(.val
  (.string (ByteArray.mk #[]))), (.val (.string (ByteArray.mk #[]))), (.val (.slice none 0 0)), (.val (.bool false)), (.val (.slice none 0 0)), (.val (.slice none 0 0))] [(0, (1, (.t 8))), (1, (1, (.t 10))), (3, (1, (.t
  12))), (2, (1, (.t 16)))])), (.mk (some 3) none (.strb 6 3 (.t 17)))]) (.seq (.seq (.reg [(.mk (some 4) none (.mov (.k (.val (.int .i64 0)))))]) (.block 0 (.loop (.seq (.seq (.reg [(.mk (some 18) none (.mov (.t 4))),
  (.mk (some 19) none (.faddr 4 1 false (.t 1))), (.mk (some 20) none (.load 1 false (.t 19))), (.mk (some 21) none (.len (.t 20))), (.mk (some 22) none (.bin .lss (.t 18) (.t 21)))]) (.cond 22 .skip (.exit 0))) (.seq
  (.block 1 (.reg [(.mk (some 25) none (.faddr 4 1 false (.t 3))), (.mk (some 27) none (.faddr 4 1 false (.t 1))), (.mk (some 29) none (.mov (.t 4))), (.mk (some 33) none (.faddr 4 1 false (.t 1))), (.mk (some 35) none
  (.mov (.t 4))), (.mk (some 26) none (.load 1 false (.t 25))), (.mk (some 28) none (.load 1 false (.t 27))), (.mk (some 30) none (.iaddr 9 (.t 28) (.t 29))), (.mk (some 31) none (.faddr 0 2 true (.t 30))), (.mk (some
  32) none (.load 2 true (.t 31))), (.mk (some 34) none (.load 1 false (.t 33))), (.mk (some 36) none (.iaddr 9 (.t 34) (.t 35))), (.mk (some 37) none (.faddr 2 7 true (.t 36))), (.mk (some 38) none (.load 7 true (.t
  37))), (.mk (some 39) none (.call true 177 [(.t 38)])), (.mk (some 40) none (.build [(.val (.int .i64 0)), (.val (.string (ByteArray.mk #[]))), (.val (.int .i64 0)), (.val (.int .i64 0)), (.val (.int .i64 0)), (.val
  (.int .i64 0)), (.val (.string (ByteArray.mk #[]))), (.val (.string (ByteArray.mk #[]))), (.val (.slice none 0 0))] [(0, (2, (.t 32))), (2, (7, (.t 39)))])), (.mk (some 41) none (.bslice 9 [] 1 true [(0, (.t 40))])),
  (.mk (some 42) none (.append 9 112 (.t 26) (.t 41))), (.mk (some 43) none (.faddr 4 1 false (.t 3))), (.mk none none (.store 1 (.t 43) (.t 42)))])) (.reg [(.mk (some 23) none (.mov (.t 4))), (.mk (some 24) none (.bin
  .add (.t 23) (.k (.val (.int .i64 1))))), (.mk (some 4) none (.mov (.t 24)))])))))) (.seq (.seq (.reg [(.mk (some 5) none (.mov (.k (.val (.int .i64 0)))))]) (.block 2 (.loop (.seq (.seq (.reg [(.mk (some 44) none
  (.mov (.t 5))), (.mk (some 45) none (.faddr 5 1 false (.t 1))), (.mk (some 46) none (.load 1 false (.t 45))), (.mk (some 47) none (.len (.t 46))), (.mk (some 48) none (.bin .lss (.t 44) (.t 47)))]) (.cond 48 .skip
  (.exit 2))) (.seq (.block 3 (.seq (.reg [(.mk (some 51) none (.faddr 5 1 false (.t 1))), (.mk (some 52) none (.load 1 false (.t 51))), (.mk (some 53) none (.mov (.t 5))), (.mk (some 54) none (.iaddr 16 (.t 52) (.t
  53))), (.mk (some 55) none (.load 16 true (.t 54))), (.mk (some 6) none (.allocr 16)), (.mk (some 6) none (.stro 16 6 (.t 55)))]) (.reg [(.mk (some 56) none (.faddr 5 1 false (.t 3))), (.mk (some 58) none (.faddr 0 1
  false (.t 6))), (.mk (some 60) none (.faddr 1 1 false (.t 6))), (.mk (some 62) none (.faddr 2 7 true (.t 6))), (.mk (some 65) none (.faddr 9 7 true (.t 6))), (.mk (some 57) none (.load 1 false (.t 56))), (.mk (some
  59) none (.load 1 false (.t 58))), (.mk (some 61) none (.load 1 false (.t 60))), (.mk (some 63) none (.load 7 true (.t 62))), (.mk (some 64) none (.call true 177 [(.t 63)])), (.mk (some 66) none (.load 7 true (.t
  65))), (.mk (some 67) none (.call true 177 [(.t 66)])), (.mk (some 68) none (.build [(.val (.string (ByteArray.mk #[]))), (.val (.string (ByteArray.mk #[]))), (.val (.int .i64 0)), (.val (.int .i64 0)), (.val (.int
  .i64 0)), (.val (.int .i64 0)), (.val (.string (ByteArray.mk #[]))), (.val (.string (ByteArray.mk #[]))), (.val (.slice none 0 0)), (.val (.int .i64 0)), (.val (.int .i64 0)), (.val (.int .i64 0)), (.val (.int .i64
  0)), (.val (.string (ByteArray.mk #[]))), (.val (.string (ByteArray.mk #[]))), (.val (.slice none 0 0))] [(0, (1, (.t 59))), (1, (1, (.t 61))), (2, (7, (.t 64))), (9, (7, (.t 67)))])), (.mk (some 69) none (.bslice 16
  [] 1 true [(0, (.t 68))])), (.mk (some 70) none (.append 16 208 (.t 57) (.t 69))), (.mk (some 71) none (.faddr 5 1 false (.t 3))), (.mk none none (.store 1 (.t 71) (.t 70)))]))) (.reg [(.mk (some 49) none (.mov (.t
  5))), (.mk (some 50) none (.bin .add (.t 49) (.k (.val (.int .i64 1))))), (.mk (some 5) none (.mov (.t 50)))])))))) (.seq (.reg [(.mk (some 72) none (.load 6 true (.t 3))), (.mk (some 2) none (.stro 6 2 (.t 72)))])
  .ret))))),
  [(.c 2 6 true)]⟩
theorem i176 : IsFun Tryz.prog 176 g176 := ⟨Tryz.f176, _, [], Tryz.func176, by kernel_rfl, rfl, by kernel_rfl, by kernel_rfl, rfl⟩
def g177 : GFun := ⟨⟨25, [2]⟩,
  (.seq (.reg [(.mk (some 1) none (.box 7 (.t 0))), (.mk (some 2) none (.allocr 7))]) (.seq (.reg [(.mk (some 5) none (.bslice 7 [] 0 true [])), (.mk (some 3) none (.mov (.t 5)))]) (.seq (.seq (.reg [(.mk (some 4) none
  (.mov (.k (.val (.int .i64 0)))))]) (.block 0 (.loop (.seq (.seq (.reg [(.mk (some 6) none (.mov (.t 4))), (.mk (some 7) none (.faddr 6 1 false (.t 1))), (.mk (some 8) none (.load 1 false (.t 7))), (.mk (some 9) none
  (.len (.t 8))), (.mk (some 10) none (.bin .lss (.t 6) (.t 9)))]) (.cond 10 .skip (.exit 0))) (.seq (.block 1 (.reg [(.mk (some 13) none (.mov (.t 3))), (.mk (some 14) none (.faddr 6 1 false (.t 1))), (.mk (some 15)
  none (.load 1 false (.t 14))), (.mk (some 16) none (.mov (.t 4))), (.mk (some 17) none (.iaddr 7 (.t 15) (.t 16))), (.mk (some 18) none (.load 7 true (.t 17))), (.mk (some 19) none (.call false 177 [(.t 18)])), (.mk
  (some 20) none (.bslice 7 [] 1 true [(0, (.t 19))])), (.mk (some 21) none (.append 7 88 (.t 13) (.t 20))), (.mk (some 3) none (.mov (.t 21)))])) (.reg [(.mk (some 11) none (.mov (.t 4))), (.mk (some 12) none (.bin
  .add (.t 11) (.k (.val (.int .i64 1))))), (.mk (some 4) none (.mov (.t 12)))])))))) (.seq (.reg [(.mk (some 22) none (.mov (.t 3))), (.mk (some 23) none (.faddr 6 1 false (.t 1))), (.mk none none (.store 1 (.t 23) (.t
  22)))]) (.seq (.reg [(.mk (some 24) none (.load 7 true (.t 1))), (.mk (some 2) none (.stro 7 2 (.t 24)))]) .ret))))),
  [(.c 2 7 true)]⟩
theorem i177 : IsFun Tryz.prog 177 g177 := ⟨Tryz.f177, _, [], Tryz.func177, by kernel_rfl, rfl, by kernel_rfl, by kernel_rfl, rfl⟩
def g178 : GFun := ⟨⟨48, [3]⟩,
  (.seq (.reg [(.mk (some 3) none (.boxro 2 (.t 1))), (.mk (some 4) none (.mov (.k (.val (.slice none 0 0)))))]) (.seq (.reg [(.mk (some 5) none (.mov (.k (.val (.int .i64 0)))))]) (.seq (.block 0 (.loop (.seq (.seq
  (.reg [(.mk (some 7) none (.mov (.t 5))), (.mk (some 8) none (.mov (.t 0))), (.mk (some 9) none (.len (.t 8))), (.mk (some 10) none (.bin .lss (.t 7) (.t 9))), (.mk (some 11) none (.mov (.t 10))), (.mk (some 12) (some
  (11, true)) (.mov (.t 0))), (.mk (some 13) (some (11, true)) (.mov (.t 5))), (.mk (some 14) (some (11, true)) (.iaddr 2 (.t 12) (.t 13))), (.mk (some 15) (some (11, true)) (.load 2 true (.t 14))), (.mk (some 16) (some
  (11, true)) (.load 2 true (.t 3))), (.mk (some 17) (some (11, true)) (.call true 242 [(.t 15), (.t 16)])), (.mk (some 18) none (.pick (.t 11) (.t 17) (.k (.val (.bool false)))))]) (.cond 18 .skip (.exit 0))) (.block 1
  (.reg [(.mk (some 19) none (.mov (.t 5))), (.mk (some 20) none (.bin .add (.t 19) (.k (.val (.int .i64 1))))), (.mk (some 5) none (.mov (.t 20)))]))))) (.seq (.seq (.reg [(.mk (some 21) none (.mov (.t 5))), (.mk (some
  22) none (.mov (.t 0))), (.mk (some 23) none (.len (.t 22))), (.mk (some 24) none (.bin .lss (.t 21) (.t 23))), (.mk (some 25) none (.mov (.t 24))), (.mk (some 26) (some (25, true)) (.mov (.t 0))), (.mk (some 27)
  (some (25, true)) (.mov (.t 5))), (.mk (some 28) (some (25, true)) (.iaddr 2 (.t 26) (.t 27))), (.mk (some 29) (some (25, true)) (.load 2 true (.t 28))), (.mk (some 30) (some (25, true)) (.load 2 true (.t 3))), (.mk
  (some 31) (some (25, true)) (.aeq false [1, 2] (.t 29) (.t 30))), (.mk (some 32) none (.pick (.t 25) (.t 31) (.k (.val (.bool false)))))]) (.cond 32 (.seq (.reg [(.mk (some 33) none (.mov (.t 0))), (.mk (some 4) none
  (.mov (.t 33)))]) .ret) .skip)) (.seq (.reg [(.mk (some 34) none (.bslice 2 [] 0 true [])), (.mk (some 35) none (.mov (.t 0))), (.mk (some 36) none (.mov (.t 5))), (.mk (some 37) none (.slc 2 (.t 35) none (some (.t
  36)))), (.mk (some 38) none (.append 2 24 (.t 34) (.t 37))), (.mk (some 6) none (.mov (.t 38)))]) (.seq (.reg [(.mk (some 39) none (.mov (.t 6))), (.mk (some 40) none (.load 2 true (.t 3))), (.mk (some 41) none
  (.bslice 2 [] 1 true [(0, (.t 40))])), (.mk (some 42) none (.append 2 24 (.t 39) (.t 41))), (.mk (some 6) none (.mov (.t 42)))]) (.seq (.reg [(.mk (some 43) none (.mov (.t 6))), (.mk (some 44) none (.mov (.t 0))),
  (.mk (some 45) none (.mov (.t 5))), (.mk (some 46) none (.slc 2 (.t 44) (some (.t 45)) none)), (.mk (some 47) none (.append 2 24 (.t 43) (.t 46))), (.mk (some 4) none (.mov (.t 47)))]) .ret))))))),
  [(.t 4)]⟩
theorem i178 : IsFun Tryz.prog 178 g178 := ⟨Tryz.f178, _, [], Tryz.func178, by kernel_rfl, rfl, by kernel_rfl, by kernel_rfl, rfl⟩
def g179 : GFun := ⟨⟨23, []⟩,
  (.seq (.reg [(.mk (some 2) none (.mov (.k (.val (.slice none 0 0)))))]) (.seq (.reg [(.mk (some 5) none (.mov (.t 0))), (.mk (some 6) none (.len (.t 5))), (.mk (some 7) none (.mkslice 4 40 (.agg [(.val (.string
  (ByteArray.mk #[]))), (.val (.int .i64 0)), (.val (.int .i64 0)), (.val (.bool false))]) (.t 6) (.t 6))), (.mk (some 3) none (.mov (.t 7)))]) (.seq (.seq (.reg [(.mk (some 4) none (.mov (.k (.val (.int .i64 0)))))])
  (.block 0 (.loop (.seq (.seq (.reg [(.mk (some 8) none (.mov (.t 4))), (.mk (some 9) none (.mov (.t 0))), (.mk (some 10) none (.len (.t 9))), (.mk (some 11) none (.bin .lss (.t 8) (.t 10)))]) (.cond 11 .skip (.exit
  0))) (.seq (.block 1 (.reg [(.mk (some 14) none (.mov (.t 3))), (.mk (some 15) none (.mov (.t 4))), (.mk (some 16) none (.mov (.t 0))), (.mk (some 17) none (.mov (.t 4))), (.mk (some 18) none (.iaddr 4 (.t 16) (.t
  17))), (.mk (some 19) none (.load 4 true (.t 18))), (.mk (some 20) none (.call false 243 [(.t 19)])), (.mk (some 21) none (.iaddr 4 (.t 14) (.t 15))), (.mk none none (.store 4 (.t 21) (.t 20)))])) (.reg [(.mk (some
  12) none (.mov (.t 4))), (.mk (some 13) none (.bin .add (.t 12) (.k (.val (.int .i64 1))))), (.mk (some 4) none (.mov (.t 13)))])))))) (.seq (.reg [(.mk (some 22) none (.mov (.t 3))), (.mk (some 2) none (.mov (.t
  22)))]) .ret)))),
  [(.t 2)]⟩
theorem i179 : IsFun Tryz.prog 179 g179 := ⟨Tryz.f179, _, [], Tryz.func179, by kernel_rfl, rfl, by kernel_rfl, by kernel_rfl, rfl⟩
def g180 : GFun := ⟨⟨22, []⟩,
  (.seq (.reg [(.mk (some 2) none (.mov (.k (.val (.slice none 0 0)))))]) (.seq (.reg [(.mk (some 5) none (.mov (.t 0))), (.mk (some 6) none (.len (.t 5))), (.mk (some 7) none (.mkslice 1 16 (.val (.string (ByteArray.mk
  #[]))) (.t 6) (.t 6))), (.mk (some 3) none (.mov (.t 7)))]) (.seq (.seq (.reg [(.mk (some 4) none (.mov (.k (.val (.int .i64 0)))))]) (.block 0 (.loop (.seq (.seq (.reg [(.mk (some 8) none (.mov (.t 4))), (.mk (some
  9) none (.mov (.t 0))), (.mk (some 10) none (.len (.t 9))), (.mk (some 11) none (.bin .lss (.t 8) (.t 10)))]) (.cond 11 .skip (.exit 0))) (.seq (.block 1 (.reg [(.mk (some 14) none (.mov (.t 3))), (.mk (some 15) none
  (.mov (.t 4))), (.mk (some 16) none (.mov (.t 0))), (.mk (some 17) none (.mov (.t 4))), (.mk (some 18) none (.iaddr 1 (.t 16) (.t 17))), (.mk (some 19) none (.load 1 false (.t 18))), (.mk (some 20) none (.iaddr 1 (.t
  14) (.t 15))), (.mk none none (.store 1 (.t 20) (.t 19)))])) (.reg [(.mk (some 12) none (.mov (.t 4))), (.mk (some 13) none (.bin .add (.t 12) (.k (.val (.int .i64 1))))), (.mk (some 4) none (.mov (.t 13)))]))))))
  (.seq (.reg [(.mk (some 21) none (.mov (.t 3))), (.mk (some 2) none (.mov (.t 21)))]) .ret)))),
  [(.t 2)]⟩
theorem i180 : IsFun Tryz.prog 180 g180 := ⟨Tryz.f180, _, [], Tryz.func180, by kernel_rfl, rfl, by kernel_rfl, by kernel_rfl, rfl⟩
def g181 : GFun := ⟨⟨23, []⟩,
  (.seq (.reg [(.mk (some 2) none (.mov (.k (.val (.slice none 0 0)))))]) (.seq (.reg [(.mk (some 5) none (.mov (.t 0))), (.mk (some 6) none (.len (.t 5))), (.mk (some 7) none (.mkslice 9 112 (.agg [(.val (.int .i64
  0)), (.val (.string (ByteArray.mk #[]))), (.val (.int .i64 0)), (.val (.int .i64 0)), (.val (.int .i64 0)), (.val (.int .i64 0)), (.val (.string (ByteArray.mk #[]))), (.val (.string (ByteArray.mk #[]))), (.val (.slice
  none 0 0))]) (.t 6) (.t 6))), (.mk (some 3) none (.mov (.t 7)))]) (.seq (.seq (.reg [(.mk (some 4) none (.mov (.k (.val (.int .i64 0)))))]) (.block 0 (.loop (.seq (.seq (.reg [(.mk (some 8) none (.mov (.t 4))), (.mk
  (some 9) none (.mov (.t 0))), (.mk (some 10) none (.len (.t 9))), (.mk (some 11) none (.bin .lss (.t 8) (.t 10)))]) (.cond 11 .skip (.exit 0))) (.seq (.block 1 (.reg [(.mk (some 14) none (.mov (.t 3))), (.mk (some 15)
  none (.mov (.t 4))), (.mk (some 16) none (.mov (.t 0))), (.mk (some 17) none (.mov (.t 4))), (.mk (some 18) none (.iaddr 9 (.t 16) (.t 17))), (.mk (some 19) none (.load 9 true (.t 18))), (.mk (some 20) none (.call
  false 244 [(.t 19)])), (.mk (some 21) none (.iaddr 9 (.t 14) (.t 15))), (.mk none none (.store 9 (.t 21) (.t 20)))])) (.reg [(.mk (some 12) none (.mov (.t 4))), (.mk (some 13) none (.bin .add (.t 12) (.k (.val (.int
  .i64 1))))), (.mk (some 4) none (.mov (.t 13)))])))))) (.seq (.reg [(.mk (some 22) none (.mov (.t 3))), (.mk (some 2) none (.mov (.t 22)))]) .ret)))),
  [(.t 2)]⟩
theorem i181 : IsFun Tryz.prog 181 g181 := ⟨Tryz.f181, _, [], Tryz.func181, by kernel_rfl, rfl, by kernel_rfl, by kernel_rfl, rfl⟩
def g182 : GFun := ⟨⟨23, []⟩,
  (.seq (.reg [(.mk (some 2) none (.mov (.k (.val (.slice none 0 0)))))]) (.seq (.reg [(.mk (some 5) none (.mov (.t 0))), (.mk (some 6) none (.len (.t 5))), (.mk (some 7) none (.mkslice 16 208 (.agg [(.val (.string
  (ByteArray.mk #[]))), (.val (.string (ByteArray.mk #[]))), (.val (.int .i64 0)), (.val (.int .i64 0)), (.val (.int .i64 0)), (.val (.int .i64 0)), (.val (.string (ByteArray.mk #[]))), (.val (.string (ByteArray.mk
  #[]))), (.val (.slice none 0 0)), (.val (.int .i64 0)), (.val (.int .i64 0)), (.val (.int .i64 0)), (.val (.int .i64 0)), (.val (.string (ByteArray.mk #[]))), (.val (.string (ByteArray.mk #[]))), (.val (.slice none 0
  0))]) (.t 6) (.t 6))), (.mk (some 3) none (.mov (.t 7)))]) (.seq (.seq (.reg [(.mk (some 4) none (.mov (.k (.val (.int .i64 0)))))]) (.block 0 (.loop (.seq (.seq (.reg [(.mk (some 8) none (.mov (.t 4))), (.mk (some 9)
  none (.mov (.t 0))), (.mk (some 10) none (.len (.t 9))), (.mk (some 11) none (.bin .lss (.t 8) (.t 10)))]) (.cond 11 .skip (.exit 0))) (.seq (.block 1 (.reg [(.mk (some 14) none (.mov (.t 3))), (.mk (some 15) none
  (.mov (.t 4))), (.mk (some 16) none (.mov (.t 0))), (.mk (some 17) none (.mov (.t 4))), (.mk (some 18) none (.iaddr 16 (.t 16) (.t 17))), (.mk (some 19) none (.load 16 true (.t 18))), (.mk (some 20) none (.call false
  245 [(.t 19)])), (.mk (some 21) none (.iaddr 16 (.t 14) (.t 15))), (.mk none none (.store 16 (.t 21) (.t 20)))])) (.reg [(.mk (some 12) none (.mov (.t 4))), (.mk (some 13) none (.bin .add (.t 12) (.k (.val (.int .i64
  1))))), (.mk (some 4) none (.mov (.t 13)))])))))) (.seq (.reg [(.mk (some 22) none (.mov (.t 3))), (.mk (some 2) none (.mov (.t 22)))]) .ret)))),
  [(.t 2)]⟩
theorem i182 : IsFun Tryz.prog 182 g182 := ⟨Tryz.f182, _, [], Tryz.func182, by kernel_rfl, rfl, by kernel_rfl, by kernel_rfl, rfl⟩
def g183 : GFun := ⟨⟨19, []⟩,
  (.seq (.reg [(.mk (some 4) none (.mov (.k (.val (.int .i64 0)))))]) (.seq (.seq (.reg [(.mk (some 6) none (.mov (.t 0))), (.mk (some 7) none (.len (.t 6))), (.mk (some 8) none (.mov (.k (.val (.int .i64 0)))))])
  (.block 0 (.loop (.seq (.reg [(.mk (some 9) none (.bin .lss (.t 8) (.t 7)))]) (.seq (.cond 9 .skip (.exit 0)) (.seq (.block 1 (.seq (.reg [(.mk (some 10) none (.mov (.t 8))), (.mk (some 5) none (.mov (.t 10)))]) (.seq
  (.reg [(.mk (some 11) none (.mov (.t 1))), (.mk (some 12) none (.mov (.t 0))), (.mk (some 13) none (.mov (.t 5))), (.mk (some 14) none (.iaddr 6 (.t 12) (.t 13))), (.mk (some 15) none (.load 6 true (.t 14))), (.mk
  (some 16) none (.callv false (.t 11) [(.t 15)]))]) (.cond 16 (.seq (.reg [(.mk (some 17) none (.mov (.t 5))), (.mk (some 4) none (.mov (.t 17)))]) .ret) .skip)))) (.reg [(.mk (some 18) none (.bin .add (.t 8) (.k (.val
  (.int .i64 1))))), (.mk (some 8) none (.mov (.t 18)))]))))))) (.seq (.reg [(.mk (some 4) none (.mov (.k (.val (.int .i64 (-1))))))]) .ret))),
  [(.t 4)]⟩
theorem i183 : IsFun Tryz.prog 183 g183 := ⟨Tryz.f183, _, [], Tryz.func183, by kernel_rfl, rfl, by kernel_rfl, by kernel_rfl, rfl⟩
def g184 : GFun := ⟨⟨8, [2]⟩,
  (.seq (.reg [(.mk (some 2) none (.boxro 6 (.t 0))), (.mk (some 3) none (.mov (.k (.val (.bool false)))))]) (.seq (.reg [(.mk (some 4) none (.faddr 0 1 false (.t 2))), (.mk (some 5) none (.load 1 false (.t 4))), (.mk
  (some 6) none (.load 1 false (.t 1))), (.mk (some 7) none (.bin .eql (.t 5) (.t 6))), (.mk (some 3) none (.mov (.t 7)))]) .ret)),
  [(.t 3)]⟩
theorem i184 : IsFun Tryz.prog 184 g184 := ⟨Tryz.f184, _, [], Tryz.func184, by kernel_rfl, rfl, by kernel_rfl, by kernel_rfl, rfl⟩
def g185 : GFun := ⟨⟨22, [2,5]⟩,
  (.seq (.reg [(.mk (some 1) none (.box 7 (.t 0))), (.mk (some 2) none (.allocr 7))]) (.seq (.reg [(.mk (some 3) none (.mov (.k (.val (.slice none 0 0)))))]) (.seq (.seq (.reg [(.mk (some 6) none (.faddr 6 1 false (.t
  1))), (.mk (some 7) none (.load 1 false (.t 6))), (.mk (some 8) none (.len (.t 7))), (.mk (some 9) none (.mov (.k (.val (.int .i64 0)))))]) (.block 0 (.loop (.seq (.reg [(.mk (some 10) none (.bin .lss (.t 9) (.t
  8)))]) (.seq (.cond 10 .skip (.exit 0)) (.seq (.block 1 (.seq (.reg [(.mk (some 11) none (.iaddr 7 (.t 7) (.t 9))), (.mk (some 12) none (.load 7 true (.t 11))), (.mk (some 5) none (.allocr 7)), (.mk (some 5) none
  (.stro 7 5 (.t 12)))]) (.reg [(.mk (some 13) none (.mov (.t 3))), (.mk (some 14) none (.load 7 true (.t 5))), (.mk (some 15) none (.call false 185 [(.t 14)])), (.mk (some 16) none (.bslice 7 [] 1 true [(0, (.t
  15))])), (.mk (some 17) none (.append 7 88 (.t 13) (.t 16))), (.mk (some 3) none (.mov (.t 17)))]))) (.reg [(.mk (some 18) none (.bin .add (.t 9) (.k (.val (.int .i64 1))))), (.mk (some 9) none (.mov (.t 18)))])))))))
  (.seq (.reg [(.mk (some 19) none (.mov (.t 3))), (.mk (some 20) none (.faddr 6 1 false (.t 1))), (.mk none none (.store 1 (.t 20) (.t 19)))]) (.seq (.reg [(.mk (some 21) none (.load 7 true (.t 1))), (.mk (some 2) none
  (.stro 7 2 (.t 21)))]) .ret))))),
  [(.c 2 7 true)]⟩
theorem i185 : IsFun Tryz.prog 185 g185 := ⟨Tryz.f185, _, [], Tryz.func185, by kernel_rfl, rfl, by kernel_rfl, by kernel_rfl, rfl⟩
def g186 : GFun := ⟨⟨8, [2]⟩,
  (.seq (.reg [(.mk (some 2) none (.boxro 7 (.t 0))), (.mk (some 3) none (.mov (.k (.val (.bool false)))))]) (.seq (.reg [(.mk (some 4) none (.load 7 true (.t 2))), (.mk (some 5) none (.load 1 false (.t 1))), (.mk (some
  6) none (.call false 112 [(.t 4), (.t 5)])), (.mk (some 7) none (.not (.t 6))), (.mk (some 3) none (.mov (.t 7)))]) .ret)),
  [(.t 3)]⟩
theorem i186 : IsFun Tryz.prog 186 g186 := ⟨Tryz.f186, _, [], Tryz.func186, by kernel_rfl, rfl, by kernel_rfl, by kernel_rfl, rfl⟩
def g192 : GFun := ⟨⟨27, []⟩,
  (.seq (.reg [(.mk (some 4) none (.mov (.k (.val (.bool false)))))]) (.seq (.seq (.reg [(.mk (some 6) none (.mov (.t 0))), (.mk (some 7) none (.len (.t 6))), (.mk (some 8) none (.mov (.t 1))), (.mk (some 9) none (.len
  (.t 8))), (.mk (some 10) none (.bin .neq (.t 7) (.t 9)))]) (.cond 10 (.seq (.reg [(.mk (some 4) none (.mov (.k (.val (.bool false)))))]) .ret) .skip)) (.seq (.seq (.reg [(.mk (some 5) none (.mov (.k (.val (.int .i64
  0)))))]) (.block 0 (.loop (.seq (.seq (.reg [(.mk (some 11) none (.mov (.t 5))), (.mk (some 12) none (.mov (.t 0))), (.mk (some 13) none (.len (.t 12))), (.mk (some 14) none (.bin .lss (.t 11) (.t 13)))]) (.cond 14
  .skip (.exit 0))) (.seq (.block 1 (.seq (.reg [(.mk (some 17) none (.mov (.t 0))), (.mk (some 18) none (.mov (.t 5))), (.mk (some 19) none (.iaddr 4 (.t 17) (.t 18))), (.mk (some 21) none (.mov (.t 1))), (.mk (some
  22) none (.mov (.t 5))), (.mk (some 23) none (.iaddr 4 (.t 21) (.t 22))), (.mk (some 20) none (.load 4 true (.t 19))), (.mk (some 24) none (.load 4 true (.t 23))), (.mk (some 25) none (.call true 258 [(.t 20), (.t
  24)])), (.mk (some 26) none (.not (.t 25)))]) (.cond 26 (.seq (.reg [(.mk (some 4) none (.mov (.k (.val (.bool false)))))]) .ret) .skip))) (.reg [(.mk (some 15) none (.mov (.t 5))), (.mk (some 16) none (.bin .add (.t
  15) (.k (.val (.int .i64 1))))), (.mk (some 5) none (.mov (.t 16)))])))))) (.seq (.reg [(.mk (some 4) none (.mov (.k (.val (.bool true)))))]) .ret)))),
  [(.t 4)]⟩
theorem i192 : IsFun Tryz.prog 192 g192 := ⟨Tryz.f192, _, [], Tryz.func192, by kernel_rfl, rfl, by kernel_rfl, by kernel_rfl, rfl⟩
def g193 : GFun := ⟨⟨26, []⟩,
  (.seq (.reg [(.mk (some 4) none (.mov (.k (.val (.bool false)))))]) (.seq (.seq (.reg [(.mk (some 6) none (.mov (.t 0))), (.mk (some 7) none (.len (.t 6))), (.mk (some 8) none (.mov (.t 1))), (.mk (some 9) none (.len
  (.t 8))), (.mk (some 10) none (.bin .neq (.t 7) (.t 9)))]) (.cond 10 (.seq (.reg [(.mk (some 4) none (.mov (.k (.val (.bool false)))))]) .ret) .skip)) (.seq (.seq (.reg [(.mk (some 5) none (.mov (.k (.val (.int .i64
  0)))))]) (.block 0 (.loop (.seq (.seq (.reg [(.mk (some 11) none (.mov (.t 5))), (.mk (some 12) none (.mov (.t 0))), (.mk (some 13) none (.len (.t 12))), (.mk (some 14) none (.bin .lss (.t 11) (.t 13)))]) (.cond 14
  .skip (.exit 0))) (.seq (.block 1 (.seq (.reg [(.mk (some 17) none (.mov (.t 0))), (.mk (some 18) none (.mov (.t 5))), (.mk (some 19) none (.iaddr 1 (.t 17) (.t 18))), (.mk (some 21) none (.mov (.t 1))), (.mk (some
  22) none (.mov (.t 5))), (.mk (some 23) none (.iaddr 1 (.t 21) (.t 22))), (.mk (some 20) none (.load 1 false (.t 19))), (.mk (some 24) none (.load 1 false (.t 23))), (.mk (some 25) none (.bin .neq (.t 20) (.t 24)))])
  (.cond 25 (.seq (.reg [(.mk (some 4) none (.mov (.k (.val (.bool false)))))]) .ret) .skip))) (.reg [(.mk (some 15) none (.mov (.t 5))), (.mk (some 16) none (.bin .add (.t 15) (.k (.val (.int .i64 1))))), (.mk (some 5)
  none (.mov (.t 16)))])))))) (.seq (.reg [(.mk (some 4) none (.mov (.k (.val (.bool true)))))]) .ret)))),
  [(.t 4)]⟩
theorem i193 : IsFun Tryz.prog 193 g193 := ⟨Tryz.f193, _, [], Tryz.func193, by kernel_rfl, rfl, by kernel_rfl, by kernel_rfl, rfl⟩
def g194 : GFun := ⟨⟨27, []⟩,
  (.seq (.reg [(.mk (some 4) none (.mov (.k (.val (.bool false)))))]) (.seq (.seq (.reg [(.mk (some 6) none (.mov (.t 0))), (.mk (some 7) none (.len (.t 6))), (.mk (some 8) none (.mov (.t 1))), (.mk (some 9) none (.len
  (.t 8))), (.mk (some 10) none (.bin .neq (.t 7) (.t 9)))]) (.cond 10 (.seq (.reg [(.mk (some 4) none (.mov (.k (.val (.bool false)))))]) .ret) .skip)) (.seq (.seq (.reg [(.mk (some 5) none (.mov (.k (.val (.int .i64
  0)))))]) (.block 0 (.loop (.seq (.seq (.reg [(.mk (some 11) none (.mov (.t 5))), (.mk (some 12) none (.mov (.t 0))), (.mk (some 13) none (.len (.t 12))), (.mk (some 14) none (.bin .lss (.t 11) (.t 13)))]) (.cond 14
  .skip (.exit 0))) (.seq (.block 1 (.seq (.reg [(.mk (some 17) none (.mov (.t 0))), (.mk (some 18) none (.mov (.t 5))), (.mk (some 19) none (.iaddr 9 (.t 17) (.t 18))), (.mk (some 21) none (.mov (.t 1))), (.mk (some
  22) none (.mov (.t 5))), (.mk (some 23) none (.iaddr 9 (.t 21) (.t 22))), (.mk (some 20) none (.load 9 true (.t 19))), (.mk (some 24) none (.load 9 true (.t 23))), (.mk (some 25) none (.call true 259 [(.t 20), (.t
  24)])), (.mk (some 26) none (.not (.t 25)))]) (.cond 26 (.seq (.reg [(.mk (some 4) none (.mov (.k (.val (.bool false)))))]) .ret) .skip))) (.reg [(.mk (some 15) none (.mov (.t 5))), (.mk (some 16) none (.bin .add (.t
  15) (.k (.val (.int .i64 1))))), (.mk (some 5) none (.mov (.t 16)))])))))) (.seq (.reg [(.mk (some 4) none (.mov (.k (.val (.bool true)))))]) .ret)))),
  [(.t 4)]⟩
theorem i194 : IsFun Tryz.prog 194 g194 := ⟨Tryz.f194, _, [], Tryz.func194, by kernel_rfl, rfl, by kernel_rfl, by kernel_rfl, rfl⟩
def g195 : GFun := ⟨⟨27, []⟩,
  (.seq (.reg [(.mk (some 4) none (.mov (.k (.val (.bool false)))))]) (.seq (.seq (.reg [(.mk (some 6) none (.mov (.t 0))), (.mk (some 7) none (.len (.t 6))), (.mk (some 8) none (.mov (.t 1))), (.mk (some 9) none (.len
  (.t 8))), (.mk (some 10) none (.bin .neq (.t 7) (.t 9)))]) (.cond 10 (.seq (.reg [(.mk (some 4) none (.mov (.k (.val (.bool false)))))]) .ret) .skip)) (.seq (.seq (.reg [(.mk (some 5) none (.mov (.k (.val (.int .i64
  0)))))]) (.block 0 (.loop (.seq (.seq (.reg [(.mk (some 11) none (.mov (.t 5))), (.mk (some 12) none (.mov (.t 0))), (.mk (some 13) none (.len (.t 12))), (.mk (some 14) none (.bin .lss (.t 11) (.t 13)))]) (.cond 14
  .skip (.exit 0))) (.seq (.block 1 (.seq (.reg [(.mk (some 17) none (.mov (.t 0))), (.mk (some 18) none (.mov (.t 5))), (.mk (some 19) none (.iaddr 16 (.t 17) (.t 18))), (.mk (some 21) none (.mov (.t 1))), (.mk (some
  22) none (.mov (.t 5))), (.mk (some 23) none (.iaddr 16 (.t 21) (.t 22))), (.mk (some 20) none (.load 16 true (.t 19))), (.mk (some 24) none (.load 16 true (.t 23))), (.mk (some 25) none (.call true 260 [(.t 20), (.t
  24)])), (.mk (some 26) none (.not (.t 25)))]) (.cond 26 (.seq (.reg [(.mk (some 4) none (.mov (.k (.val (.bool false)))))]) .ret) .skip))) (.reg [(.mk (some 15) none (.mov (.t 5))), (.mk (some 16) none (.bin .add (.t
  15) (.k (.val (.int .i64 1))))), (.mk (some 5) none (.mov (.t 16)))])))))) (.seq (.reg [(.mk (some 4) none (.mov (.k (.val (.bool true)))))]) .ret)))),
  [(.t 4)]⟩
theorem i195 : IsFun Tryz.prog 195 g195 := ⟨Tryz.f195, _, [], Tryz.func195, by kernel_rfl, rfl, by kernel_rfl, by kernel_rfl, rfl⟩
def g197 : GFun := ⟨⟨43, [1]⟩,
  (.seq (.reg [(.mk (some 1) none (.boxro 1 (.t 0))), (.mk (some 2) none (.mov (.k (.val (.bool false)))))]) (.seq (.reg [(.mk (some 5) none (.bslice 1 [] 0 false [])), (.mk (some 3) none (.mov (.t 5)))]) (.seq (.seq
  (.reg [(.mk (some 4) none (.mov (.k (.val (.int .i64 0)))))]) (.block 0 (.loop (.seq (.seq (.reg [(.mk (some 6) none (.mov (.t 4))), (.mk (some 7) none (.faddr 0 1 false (.t 1))), (.mk (some 8) none (.load 1 false (.t
  7))), (.mk (some 9) none (.len (.t 8))), (.mk (some 10) none (.bin .lss (.t 6) (.t 9)))]) (.cond 10 .skip (.exit 0))) (.seq (.block 1 (.seq (.seq (.reg [(.mk (some 13) none (.faddr 0 1 false (.t 1))), (.mk (some 14)
  none (.load 1 false (.t 13))), (.mk (some 15) none (.mov (.t 4))), (.mk (some 16) none (.iaddr 6 (.t 14) (.t 15))), (.mk (some 17) none (.faddr 0 1 false (.t 16))), (.mk (some 18) none (.load 1 false (.t 17))), (.mk
  (some 19) none (.call false 67 [(.t 18), (.k (.val (.int .i64 1))), (.k (.val (.int .i64 999)))])), (.mk (some 20) none (.not (.t 19))), (.mk (some 21) none (.mov (.t 20))), (.mk (some 22) (some (21, false)) (.mov (.t
  3))), (.mk (some 23) (some (21, false)) (.faddr 0 1 false (.t 1))), (.mk (some 24) (some (21, false)) (.load 1 false (.t 23))), (.mk (some 25) (some (21, false)) (.mov (.t 4))), (.mk (some 26) (some (21, false))
  (.iaddr 6 (.t 24) (.t 25))), (.mk (some 27) (some (21, false)) (.faddr 0 1 false (.t 26))), (.mk (some 28) (some (21, false)) (.load 1 false (.t 27))), (.mk (some 29) (some (21, false)) (.call false 124 [(.t 22), (.t
  28)])), (.mk (some 30) none (.pick (.t 21) (.k (.val (.bool true))) (.t 29)))]) (.cond 30 (.seq (.reg [(.mk (some 2) none (.mov (.k (.val (.bool false)))))]) .ret) .skip)) (.reg [(.mk (some 31) none (.mov (.t 3))),
  (.mk (some 32) none (.faddr 0 1 false (.t 1))), (.mk (some 33) none (.load 1 false (.t 32))), (.mk (some 34) none (.mov (.t 4))), (.mk (some 35) none (.iaddr 6 (.t 33) (.t 34))), (.mk (some 36) none (.faddr 0 1 false
  (.t 35))), (.mk (some 37) none (.load 1 false (.t 36))), (.mk (some 38) none (.bslice 1 [] 1 false [(0, (.t 37))])), (.mk (some 39) none (.append 1 8 (.t 31) (.t 38))), (.mk (some 3) none (.mov (.t 39)))]))) (.reg
  [(.mk (some 11) none (.mov (.t 4))), (.mk (some 12) none (.bin .add (.t 11) (.k (.val (.int .i64 1))))), (.mk (some 4) none (.mov (.t 12)))])))))) (.seq (.reg [(.mk (some 40) none (.mov (.t 3))), (.mk (some 41) none
  (.len (.t 40))), (.mk (some 42) none (.call false 67 [(.t 41), (.k (.val (.int .i64 1))), (.k (.val (.int .i64 16)))])), (.mk (some 2) none (.mov (.t 42)))]) .ret)))),
  [(.t 2)]⟩
theorem i197 : IsFun Tryz.prog 197 g197 := ⟨Tryz.f197, _, [], Tryz.func197, by kernel_rfl, rfl, by kernel_rfl, by kernel_rfl, rfl⟩
def g198 : GFun := ⟨⟨109, [6,7,13,14]⟩,
  (.seq (.reg [(.mk (some 6) none (.boxro 2 (.t 0))), (.mk (some 7) none (.boxro 1 (.t 1))), (.mk (some 12) none (.mov (.k (.val (.int .i64 0)))))]) (.seq (.seq (.reg [(.mk (some 18) none (.mov (.t 2))), (.mk (some 19)
  none (.faddr 0 1 false (.t 7))), (.mk (some 20) none (.load 1 false (.t 19))), (.mk (some 21) none (.len (.t 20))), (.mk (some 22) none (.bin .geq (.t 18) (.t 21)))]) (.cond 22 (.seq (.reg [(.mk (some 12) none (.mov
  (.k (.val (.int .i64 (-1))))))]) .ret) .skip)) (.seq (.reg [(.mk (some 23) none (.faddr 0 1 false (.t 7))), (.mk (some 24) none (.load 1 false (.t 23))), (.mk (some 25) none (.mov (.t 2))), (.mk (some 26) none (.iaddr
  6 (.t 24) (.t 25))), (.mk (some 27) none (.load 6 true (.t 26))), (.mk (some 13) none (.allocr 6)), (.mk (some 13) none (.stro 6 13 (.t 27)))]) (.seq (.reg [(.mk (some 29) none (.load 2 true (.t 6))), (.mk (some 30)
  none (.faddr 4 1 false (.t 13))), (.mk (some 31) none (.load 1 false (.t 30))), (.mk (some 32) none (.call false 101 [(.t 29), (.t 31)])), (.mk (some 28) none (.mov (.t 32))), (.mk (some 33) none (.ext (.t 28) 0)),
  (.mk (some 34) none (.ext (.t 28) 1)), (.mk (some 14) none (.allocr 6)), (.mk (some 14) none (.stro 6 14 (.t 33))), (.mk (some 15) none (.mov (.t 34)))]) (.seq (.seq (.reg [(.mk (some 35) none (.mov (.t 15))), (.mk
  (some 36) none (.not (.t 35))), (.mk (some 37) none (.mov (.t 36))), (.mk (some 38) (some (37, false)) (.faddr 1 1 false (.t 14))), (.mk (some 39) (some (37, false)) (.load 1 false (.t 38))), (.mk (some 40) (some (37,
  false)) (.mov (.t 5))), (.mk (some 41) (some (37, false)) (.bin .neq (.t 39) (.t 40))), (.mk (some 42) none (.pick (.t 37) (.k (.val (.bool true))) (.t 41))), (.mk (some 43) none (.mov (.t 42))), (.mk (some 44) (some
  (43, false)) (.faddr 1 1 false (.t 13))), (.mk (some 45) (some (43, false)) (.load 1 false (.t 44))), (.mk (some 46) (some (43, false)) (.mov (.t 3))), (.mk (some 47) (some (43, false)) (.bin .neq (.t 45) (.t 46))),
  (.mk (some 48) none (.pick (.t 43) (.k (.val (.bool true))) (.t 47))), (.mk (some 49) none (.mov (.t 48))), (.mk (some 50) (some (49, false)) (.faddr 2 1 false (.t 13))), (.mk (some 51) (some (49, false)) (.load 1
  false (.t 50))), (.mk (some 52) (some (49, false)) (.mov (.t 4))), (.mk (some 53) (some (49, false)) (.bin .neq (.t 51) (.t 52))), (.mk (some 54) none (.pick (.t 49) (.k (.val (.bool true))) (.t 53))), (.mk (some 55)
  none (.mov (.t 54))), (.mk (some 56) (some (55, false)) (.faddr 5 1 false (.t 13))), (.mk (some 57) (some (55, false)) (.load 1 false (.t 56))), (.mk (some 58) (some (55, false)) (.len (.t 57))), (.mk (some 59) (some
  (55, false)) (.faddr 2 1 false (.t 14))), (.mk (some 60) (some (55, false)) (.load 1 false (.t 59))), (.mk (some 61) (some (55, false)) (.len (.t 60))), (.mk (some 62) (some (55, false)) (.bin .neq (.t 58) (.t 61))),
  (.mk (some 63) none (.pick (.t 55) (.k (.val (.bool true))) (.t 62)))]) (.cond 63 (.seq (.reg [(.mk (some 12) none (.mov (.k (.val (.int .i64 (-1))))))]) .ret) .skip)) (.seq (.seq (.reg [(.mk (some 64) none (.faddr 3
  1 false (.t 13))), (.mk (some 65) none (.load 1 false (.t 64))), (.mk (some 66) none (.call false 261 [(.t 65), (.k (.val (.int .i64 1)))])), (.mk (some 67) none (.not (.t 66))), (.mk (some 68) none (.mov (.t 67))),
  (.mk (some 69) (some (68, false)) (.faddr 3 1 false (.t 14))), (.mk (some 70) (some (68, false)) (.load 1 false (.t 69))), (.mk (some 71) (some (68, false)) (.not (.t 70))), (.mk (some 72) (some (68, false)) (.mov (.t
  71))), (.mk (some 73) (some (72, true)) (.faddr 3 1 false (.t 13))), (.mk (some 74) (some (72, true)) (.load 1 false (.t 73))), (.mk (some 75) (some (72, true)) (.bin .neq (.t 74) (.k (.val (.int .i64 0))))), (.mk
  (some 76) (some (68, false)) (.pick (.t 72) (.t 75) (.k (.val (.bool false))))), (.mk (some 77) none (.pick (.t 68) (.k (.val (.bool true))) (.t 76)))]) (.cond 77 (.seq (.reg [(.mk (some 12) none (.mov (.k (.val (.int
  .i64 (-1))))))]) .ret) .skip)) (.seq (.reg [(.mk (some 78) none (.mov (.t 2))), (.mk (some 79) none (.bin .add (.t 78) (.k (.val (.int .i64 1))))), (.mk (some 16) none (.mov (.t 79)))]) (.seq (.seq (.reg [(.mk (some
  17) none (.mov (.k (.val (.int .i64 0)))))]) (.block 0 (.loop (.seq (.seq (.reg [(.mk (some 80) none (.mov (.t 17))), (.mk (some 81) none (.faddr 2 1 false (.t 14))), (.mk (some 82) none (.load 1 false (.t 81))), (.mk
  (some 83) none (.len (.t 82))), (.mk (some 84) none (.bin .lss (.t 80) (.t 83)))]) (.cond 84 .skip (.exit 0))) (.seq (.block 1 (.seq (.seq (.reg [(.mk (some 87) none (.faddr 5 1 false (.t 13))), (.mk (some 88) none
  (.load 1 false (.t 87))), (.mk (some 89) none (.mov (.t 17))), (.mk (some 90) none (.iaddr 1 (.t 88) (.t 89))), (.mk (some 91) none (.load 1 false (.t 90))), (.mk (some 92) none (.mov (.t 16))), (.mk (some 93) none
  (.bin .neq (.t 91) (.t 92)))]) (.cond 93 (.seq (.reg [(.mk (some 12) none (.mov (.k (.val (.int .i64 (-1))))))]) .ret) .skip)) (.seq (.reg [(.mk (some 96) none (.mov (.t 16))), (.mk (some 97) none (.mov (.t 2))), (.mk
  (some 98) none (.mov (.t 17))), (.mk (some 99) none (.bin .add (.t 98) (.k (.val (.int .i64 1))))), (.mk (some 100) none (.faddr 2 1 false (.t 14))), (.mk (some 102) none (.mov (.t 17))), (.mk (some 94) none (.load 2
  true (.t 6))), (.mk (some 95) none (.load 1 true (.t 7))), (.mk (some 101) none (.load 1 false (.t 100))), (.mk (some 103) none (.iaddr 1 (.t 101) (.t 102))), (.mk (some 104) none (.load 1 false (.t 103))), (.mk (some
  105) none (.call true 198 [(.t 94), (.t 95), (.t 96), (.t 97), (.t 99), (.t 104)])), (.mk (some 16) none (.mov (.t 105)))]) (.seq (.reg [(.mk (some 106) none (.mov (.t 16))), (.mk (some 107) none (.bin .lss (.t 106)
  (.k (.val (.int .i64 0)))))]) (.cond 107 (.seq (.reg [(.mk (some 12) none (.mov (.k (.val (.int .i64 (-1))))))]) .ret) .skip))))) (.reg [(.mk (some 85) none (.mov (.t 17))), (.mk (some 86) none (.bin .add (.t 85) (.k
  (.val (.int .i64 1))))), (.mk (some 17) none (.mov (.t 86)))])))))) (.seq (.reg [(.mk (some 108) none (.mov (.t 16))), (.mk (some 12) none (.mov (.t 108)))]) .ret))))))))),
  [(.t 12)]⟩
theorem i198 : IsFun Tryz.prog 198 g198 := ⟨Tryz.f198, _, [], Tryz.func198, by kernel_rfl, rfl, by kernel_rfl, by kernel_rfl, rfl⟩
def g199 : GFun := ⟨⟨10, [1,2]⟩,
  (.seq (.reg [(.mk (some 1) none (.boxro 2 (.t 0))), (.mk (some 2) none (.allocr 2))]) (.seq (.reg [(.mk (some 3) none (.faddr 0 1 false (.t 1))), (.mk (some 4) none (.loadr 1 false (.t 3))), (.mk (some 6) none (.faddr
  1 1 false (.t 1))), (.mk (some 7) none (.loadr 1 false (.t 6))), (.mk (some 5) none (.bslice 4 [] 0 true [])), (.mk (some 8) none (.append 4 40 (.t 5) (.t 7))), (.mk (some 9) none (.build [(.val (.string (ByteArray.mk
  #[]))), (.val (.slice none 0 0))] [(0, (1, (.t 4))), (1, (1, (.t 8)))])), (.mk (some 2) none (.stro 2 2 (.t 9)))]) .ret)),
  [(.c 2 2 true)]⟩
theorem i199 : IsFun Tryz.prog 199 g199 := ⟨Tryz.f199, _, [], Tryz.func199, by kernel_rfl, rfl, by kernel_rfl, by kernel_rfl, rfl⟩
def g200 : GFun := ⟨⟨43, [3,4,8]⟩,
  (.seq (.reg [(.mk (some 3) none (.boxro 2 (.t 0))), (.mk (some 4) none (.boxro 1 (.t 1))), (.mk (some 6) none (.mov (.k (.val (.bool false)))))]) (.seq (.seq (.reg [(.mk (some 9) none (.faddr 0 1 false (.t 4))), (.mk
  (some 10) none (.load 1 false (.t 9))), (.mk (some 11) none (.len (.t 10))), (.mk (some 12) none (.call false 70 [(.t 11), (.k (.val (.int .i64 1))), (.k (.val (.int .i64 16)))])), (.mk (some 13) none (.not (.t
  12)))]) (.cond 13 (.seq (.reg [(.mk (some 6) none (.mov (.k (.val (.bool false)))))]) .ret) .skip)) (.seq (.seq (.reg [(.mk (some 14) none (.faddr 0 1 false (.t 4))), (.mk (some 15) none (.load 1 false (.t 14))), (.mk
  (some 16) none (.len (.t 15))), (.mk (some 17) none (.mov (.k (.val (.int .i64 0)))))]) (.block 0 (.loop (.seq (.reg [(.mk (some 18) none (.bin .lss (.t 17) (.t 16)))]) (.seq (.cond 18 .skip (.exit 0)) (.seq (.block 1
  (.seq (.reg [(.mk (some 19) none (.mov (.t 17))), (.mk (some 20) none (.iaddr 6 (.t 15) (.t 17))), (.mk (some 21) none (.load 6 true (.t 20))), (.mk (some 8) none (.allocr 6)), (.mk (some 7) none (.mov (.t 19))), (.mk
  (some 8) none (.stro 6 8 (.t 21)))]) (.seq (.reg [(.mk (some 22) none (.faddr 0 1 false (.t 8))), (.mk (some 23) none (.load 1 false (.t 22))), (.mk (some 24) none (.call false 70 [(.t 23), (.k (.val (.int .i64 1))),
  (.k (.val (.int .i64 999)))])), (.mk (some 25) none (.not (.t 24))), (.mk (some 26) none (.mov (.t 25))), (.mk (some 27) (some (26, false)) (.faddr 0 1 false (.t 4))), (.mk (some 28) (some (26, false)) (.load 1 false
  (.t 27))), (.mk (some 29) (some (26, false)) (.mov (.t 7))), (.mk (some 30) (some (26, false)) (.slc 6 (.t 28) none (some (.t 29)))), (.mk (some 31) (some (26, false)) (.mkfn 263 [(.t 8)])), (.mk (some 32) (some (26,
  false)) (.call false 262 [(.t 30), (.t 31)])), (.mk (some 33) none (.pick (.t 26) (.k (.val (.bool true))) (.t 32)))]) (.cond 33 (.seq (.reg [(.mk (some 6) none (.mov (.k (.val (.bool false)))))]) .ret) .skip))))
  (.reg [(.mk (some 34) none (.bin .add (.t 17) (.k (.val (.int .i64 1))))), (.mk (some 17) none (.mov (.t 34)))]))))))) (.seq (.reg [(.mk (some 37) none (.mov (.t 2))), (.mk (some 39) none (.faddr 0 1 false (.t 4))),
  (.mk (some 35) none (.load 2 true (.t 3))), (.mk (some 36) none (.load 1 true (.t 4))), (.mk (some 38) none (.call true 264 [(.t 35), (.t 36), (.k (.val (.int .i64 0))), (.k (.val (.int .i64 (-1)))), (.k (.val (.int
  .i64 0))), (.t 37)])), (.mk (some 40) none (.load 1 false (.t 39))), (.mk (some 41) none (.len (.t 40))), (.mk (some 42) none (.bin .eql (.t 38) (.t 41))), (.mk (some 6) none (.mov (.t 42)))]) .ret)))),
  [(.t 6)]⟩
theorem i200 : IsFun Tryz.prog 200 g200 := ⟨Tryz.f200, _, [], Tryz.func200, by kernel_rfl, rfl, by kernel_rfl, by kernel_rfl, rfl⟩
def g230 : GFun := ⟨⟨19, []⟩,
  (.seq (.reg [(.mk (some 4) none (.mov (.k (.val (.int .i64 0)))))]) (.seq (.seq (.reg [(.mk (some 6) none (.mov (.t 0))), (.mk (some 7) none (.len (.t 6))), (.mk (some 8) none (.mov (.k (.val (.int .i64 0)))))])
  (.block 0 (.loop (.seq (.reg [(.mk (some 9) none (.bin .lss (.t 8) (.t 7)))]) (.seq (.cond 9 .skip (.exit 0)) (.seq (.block 1 (.seq (.reg [(.mk (some 10) none (.mov (.t 8))), (.mk (some 5) none (.mov (.t 10)))]) (.seq
  (.reg [(.mk (some 11) none (.mov (.t 1))), (.mk (some 12) none (.mov (.t 0))), (.mk (some 13) none (.mov (.t 5))), (.mk (some 14) none (.iaddr 7 (.t 12) (.t 13))), (.mk (some 15) none (.load 7 true (.t 14))), (.mk
  (some 16) none (.callv false (.t 11) [(.t 15)]))]) (.cond 16 (.seq (.reg [(.mk (some 17) none (.mov (.t 5))), (.mk (some 4) none (.mov (.t 17)))]) .ret) .skip)))) (.reg [(.mk (some 18) none (.bin .add (.t 8) (.k (.val
  (.int .i64 1))))), (.mk (some 8) none (.mov (.t 18)))]))))))) (.seq (.reg [(.mk (some 4) none (.mov (.k (.val (.int .i64 (-1))))))]) .ret))),
  [(.t 4)]⟩
theorem i230 : IsFun Tryz.prog 230 g230 := ⟨Tryz.f230, _, [], Tryz.func230, by kernel_rfl, rfl, by kernel_rfl, by kernel_rfl, rfl⟩
def g239 : GFun := ⟨⟨13, [2]⟩,
  (.seq (.reg [(.mk (some 2) none (.boxro 4 (.t 0))), (.mk (some 4) none (.mov (.k (.val (.int .i64 0)))))]) (.seq (.reg [(.mk (some 5) none (.mov (.t 1))), (.mk (some 6) none (.faddr 0 1 false (.t 2))), (.mk (some 7)
  none (.load 1 false (.t 6))), (.mk (some 8) none (.slen (.t 7))), (.mk (some 9) none (.bin .sub (.t 5) (.t 8))), (.mk (some 1) none (.mov (.t 9)))]) (.seq (.seq (.reg [(.mk (some 10) none (.mov (.t 1))), (.mk (some
  11) none (.bin .lss (.t 10) (.k (.val (.int .i64 0)))))]) (.cond 11 (.seq (.reg [(.mk (some 4) none (.mov (.k (.val (.int .i64 (-1))))))]) .ret) .skip)) (.seq (.reg [(.mk (some 12) none (.mov (.t 1))), (.mk (some 4)
  none (.mov (.t 12)))]) .ret)))),
  [(.t 4)]⟩
theorem i239 : IsFun Tryz.prog 239 g239 := ⟨Tryz.f239, _, [], Tryz.func239, by kernel_rfl, rfl, by kernel_rfl, by kernel_rfl, rfl⟩
def g240 : GFun := ⟨⟨18, [2]⟩,
  (.seq (.reg [(.mk (some 2) none (.boxro 9 (.t 0))), (.mk (some 4) none (.mov (.k (.val (.int .i64 0)))))]) (.seq (.reg [(.mk (some 5) none (.faddr 0 2 true (.t 2))), (.mk (some 6) none (.load 2 true (.t 5))), (.mk
  (some 7) none (.mov (.t 1))), (.mk (some 8) none (.call false 291 [(.t 6), (.t 7)])), (.mk (some 1) none (.mov (.t 8)))]) (.seq (.seq (.reg [(.mk (some 9) none (.mov (.t 1))), (.mk (some 10) none (.bin .lss (.t 9) (.k
  (.val (.int .i64 0)))))]) (.cond 10 (.seq (.reg [(.mk (some 4) none (.mov (.k (.val (.int .i64 (-1))))))]) .ret) .skip)) (.seq (.reg [(.mk (some 11) none (.faddr 2 7 true (.t 2))), (.mk (some 12) none (.load 7 true
  (.t 11))), (.mk (some 13) none (.mov (.t 1))), (.mk (some 14) none (.call false 292 [(.t 12), (.t 13)])), (.mk (some 1) none (.mov (.t 14)))]) (.seq (.seq (.reg [(.mk (some 15) none (.mov (.t 1))), (.mk (some 16) none
  (.bin .lss (.t 15) (.k (.val (.int .i64 0)))))]) (.cond 16 (.seq (.reg [(.mk (some 4) none (.mov (.k (.val (.int .i64 (-1))))))]) .ret) .skip)) (.seq (.reg [(.mk (some 17) none (.mov (.t 1))), (.mk (some 4) none (.mov
  (.t 17)))]) .ret)))))),
  [(.t 4)]⟩
theorem i240 : IsFun Tryz.prog 240 g240 := ⟨Tryz.f240, _, [], Tryz.func240, by kernel_rfl, rfl, by kernel_rfl, by kernel_rfl, rfl⟩
def g241 : GFun := ⟨⟨32, [2]⟩,
  (.seq (.reg [(.mk (some 2) none (.boxro 16 (.t 0))), (.mk (some 4) none (.mov (.k (.val (.int .i64 0)))))]) (.seq (.reg [(.mk (some 5) none (.mov (.t 1))), (.mk (some 6) none (.faddr 0 1 false (.t 2))), (.mk (some 7)
  none (.load 1 false (.t 6))), (.mk (some 8) none (.slen (.t 7))), (.mk (some 9) none (.bin .sub (.t 5) (.t 8))), (.mk (some 1) none (.mov (.t 9)))]) (.seq (.seq (.reg [(.mk (some 10) none (.mov (.t 1))), (.mk (some
  11) none (.bin .lss (.t 10) (.k (.val (.int .i64 0)))))]) (.cond 11 (.seq (.reg [(.mk (some 4) none (.mov (.k (.val (.int .i64 (-1))))))]) .ret) .skip)) (.seq (.reg [(.mk (some 12) none (.mov (.t 1))), (.mk (some 13)
  none (.faddr 1 1 false (.t 2))), (.mk (some 14) none (.load 1 false (.t 13))), (.mk (some 15) none (.slen (.t 14))), (.mk (some 16) none (.bin .sub (.t 12) (.t 15))), (.mk (some 1) none (.mov (.t 16)))]) (.seq (.seq
  (.reg [(.mk (some 17) none (.mov (.t 1))), (.mk (some 18) none (.bin .lss (.t 17) (.k (.val (.int .i64 0)))))]) (.cond 18 (.seq (.reg [(.mk (some 4) none (.mov (.k (.val (.int .i64 (-1))))))]) .ret) .skip)) (.seq
  (.reg [(.mk (some 19) none (.faddr 2 7 true (.t 2))), (.mk (some 20) none (.load 7 true (.t 19))), (.mk (some 21) none (.mov (.t 1))), (.mk (some 22) none (.call false 292 [(.t 20), (.t 21)])), (.mk (some 1) none
  (.mov (.t 22)))]) (.seq (.seq (.reg [(.mk (some 23) none (.mov (.t 1))), (.mk (some 24) none (.bin .lss (.t 23) (.k (.val (.int .i64 0)))))]) (.cond 24 (.seq (.reg [(.mk (some 4) none (.mov (.k (.val (.int .i64
  (-1))))))]) .ret) .skip)) (.seq (.reg [(.mk (some 25) none (.faddr 9 7 true (.t 2))), (.mk (some 26) none (.load 7 true (.t 25))), (.mk (some 27) none (.mov (.t 1))), (.mk (some 28) none (.call false 292 [(.t 26), (.t
  27)])), (.mk (some 1) none (.mov (.t 28)))]) (.seq (.seq (.reg [(.mk (some 29) none (.mov (.t 1))), (.mk (some 30) none (.bin .lss (.t 29) (.k (.val (.int .i64 0)))))]) (.cond 30 (.seq (.reg [(.mk (some 4) none (.mov
  (.k (.val (.int .i64 (-1))))))]) .ret) .skip)) (.seq (.reg [(.mk (some 31) none (.mov (.t 1))), (.mk (some 4) none (.mov (.t 31)))]) .ret)))))))))),
  [(.t 4)]⟩
theorem i241 : IsFun Tryz.prog 241 g241 := ⟨Tryz.f241, _, [], Tryz.func241, by kernel_rfl, rfl, by kernel_rfl, by kernel_rfl, rfl⟩
def g242 : GFun := ⟨⟨24, [2,3]⟩,
  (.seq (.reg [(.mk (some 2) none (.boxro 2 (.t 0))), (.mk (some 3) none (.boxro 2 (.t 1))), (.mk (some 4) none (.mov (.k (.val (.bool false)))))]) (.seq (.reg [(.mk (some 5) none (.faddr 0 1 false (.t 2))), (.mk (some
  6) none (.load 1 false (.t 5))), (.mk (some 7) none (.faddr 0 1 false (.t 3))), (.mk (some 8) none (.load 1 false (.t 7))), (.mk (some 9) none (.bin .lss (.t 6) (.t 8))), (.mk (some 10) none (.mov (.t 9))), (.mk (some
  11) (some (10, false)) (.faddr 0 1 false (.t 2))), (.mk (some 12) (some (10, false)) (.load 1 false (.t 11))), (.mk (some 13) (some (10, false)) (.faddr 0 1 false (.t 3))), (.mk (some 14) (some (10, false)) (.load 1
  false (.t 13))), (.mk (some 15) (some (10, false)) (.bin .eql (.t 12) (.t 14))), (.mk (some 16) (some (10, false)) (.mov (.t 15))), (.mk (some 17) (some (16, true)) (.faddr 1 1 false (.t 2))), (.mk (some 18) (some
  (16, true)) (.load 1 false (.t 17))), (.mk (some 19) (some (16, true)) (.faddr 1 1 false (.t 3))), (.mk (some 20) (some (16, true)) (.load 1 false (.t 19))), (.mk (some 21) (some (16, true)) (.bin .lss (.t 18) (.t
  20))), (.mk (some 22) (some (10, false)) (.pick (.t 16) (.t 21) (.k (.val (.bool false))))), (.mk (some 23) none (.pick (.t 10) (.k (.val (.bool true))) (.t 22))), (.mk (some 4) none (.mov (.t 23)))]) .ret)),
  [(.t 4)]⟩
theorem i242 : IsFun Tryz.prog 242 g242 := ⟨Tryz.f242, _, [], Tryz.func242, by kernel_rfl, rfl, by kernel_rfl, by kernel_rfl, rfl⟩
def g243 : GFun := ⟨⟨17, [1,2]⟩,
  (.seq (.reg [(.mk (some 1) none (.boxro 4 (.t 0))), (.mk (some 2) none (.allocr 4))]) (.seq (.reg [(.mk (some 3) none (.alloc 4 (.agg [(.val (.string (ByteArray.mk #[]))), (.val (.int .i64 0)), (.val (.int .i64 0)),
  (.val (.bool false))])))]) (.seq (.reg [(.mk (some 4) none (.faddr 0 1 false (.t 1))), (.mk (some 5) none (.load 1 false (.t 4))), (.mk (some 6) none (.faddr 0 1 false (.t 3))), (.mk none none (.store 1 (.t 6) (.t
  5)))]) (.seq (.reg [(.mk (some 7) none (.faddr 1 1 false (.t 1))), (.mk (some 8) none (.load 1 false (.t 7))), (.mk (some 9) none (.faddr 1 1 false (.t 3))), (.mk none none (.store 1 (.t 9) (.t 8)))]) (.seq (.reg
  [(.mk (some 10) none (.faddr 2 1 false (.t 1))), (.mk (some 11) none (.load 1 false (.t 10))), (.mk (some 12) none (.faddr 2 1 false (.t 3))), (.mk none none (.store 1 (.t 12) (.t 11)))]) (.seq (.reg [(.mk (some 13)
  none (.faddr 3 1 false (.t 1))), (.mk (some 14) none (.load 1 false (.t 13))), (.mk (some 15) none (.faddr 3 1 false (.t 3))), (.mk none none (.store 1 (.t 15) (.t 14)))]) (.seq (.reg [(.mk (some 16) none (.load 4
  true (.t 3))), (.mk (some 2) none (.stro 4 2 (.t 16)))]) .ret))))))),
  [(.c 2 4 true)]⟩
theorem i243 : IsFun Tryz.prog 243 g243 := ⟨Tryz.f243, _, [], Tryz.func243, by kernel_rfl, rfl, by kernel_rfl, by kernel_rfl, rfl⟩
def g244 : GFun := ⟨⟨13, [1,2]⟩,
  (.seq (.reg [(.mk (some 1) none (.boxro 9 (.t 0))), (.mk (some 2) none (.allocr 9))]) (.seq (.reg [(.mk (some 3) none (.alloc 9 (.agg [(.val (.int .i64 0)), (.val (.string (ByteArray.mk #[]))), (.val (.int .i64 0)),
  (.val (.int .i64 0)), (.val (.int .i64 0)), (.val (.int .i64 0)), (.val (.string (ByteArray.mk #[]))), (.val (.string (ByteArray.mk #[]))), (.val (.slice none 0 0))])))]) (.seq (.reg [(.mk (some 4) none (.faddr 0 2
  true (.t 1))), (.mk (some 5) none (.load 2 true (.t 4))), (.mk (some 6) none (.call false 293 [(.t 5)])), (.mk (some 7) none (.faddr 0 2 true (.t 3))), (.mk none none (.store 2 (.t 7) (.t 6)))]) (.seq (.reg [(.mk
  (some 8) none (.faddr 2 7 true (.t 1))), (.mk (some 9) none (.load 7 true (.t 8))), (.mk (some 10) none (.call false 294 [(.t 9)])), (.mk (some 11) none (.faddr 2 7 true (.t 3))), (.mk none none (.store 7 (.t 11) (.t
  10)))]) (.seq (.reg [(.mk (some 12) none (.load 9 true (.t 3))), (.mk (some 2) none (.stro 9 2 (.t 12)))]) .ret))))),
  [(.c 2 9 true)]⟩
theorem i244 : IsFun Tryz.prog 244 g244 := ⟨Tryz.f244, _, [], Tryz.func244, by kernel_rfl, rfl, by kernel_rfl, by kernel_rfl, rfl⟩
def g245 : GFun := ⟨⟨19, [1,2]⟩,
  (.seq (.reg [(.mk (some 1) none (.boxro 16 (.t 0))), (.mk (some 2) none (.allocr 16))]) (.seq (.reg [(.mk (some 3) none (.alloc 16 (.agg [(.val (.string (ByteArray.mk #[]))), (.val (.string (ByteArray.mk #[]))), (.val
  (.int .i64 0)), (.val (.int .i64 0)), (.val (.int .i64 0)), (.val (.int .i64 0)), (.val (.string (ByteArray.mk #[]))), (.val (.string (ByteArray.mk #[]))), (.val (.slice none 0 0)), (.val (.int .i64 0)), (.val (.int
  .i64 0)), (.val (.int .i64 0)), (.val (.int .i64 0)), (.val (.string (ByteArray.mk #[]))), (.val (.string (ByteArray.mk #[]))), (.val (.slice none 0 0))])))]) (.seq (.reg [(.mk (some 4) none (.faddr 0 1 false (.t
  1))), (.mk (some 5) none (.load 1 false (.t 4))), (.mk (some 6) none (.faddr 0 1 false (.t 3))), (.mk none none (.store 1 (.t 6) (.t 5)))]) (.seq (.reg [(.mk (some 7) none (.faddr 1 1 false (.t 1))), (.mk (some 8)
  none (.load 1 false (.t 7))), (.mk (some 9) none (.faddr 1 1 false (.t 3))), (.mk none none (.store 1 (.t 9) (.t 8)))]) (.seq (.reg [(.mk (some 10) none (.faddr 2 7 true (.t 1))), (.mk (some 11) none (.load 7 true (.t
  10))), (.mk (some 12) none (.call false 294 [(.t 11)])), (.mk (some 13) none (.faddr 2 7 true (.t 3))), (.mk none none (.store 7 (.t 13) (.t 12)))]) (.seq (.reg [(.mk (some 14) none (.faddr 9 7 true (.t 1))), (.mk
  (some 15) none (.load 7 true (.t 14))), (.mk (some 16) none (.call false 294 [(.t 15)])), (.mk (some 17) none (.faddr 9 7 true (.t 3))), (.mk none none (.store 7 (.t 17) (.t 16)))]) (.seq (.reg [(.mk (some 18) none
  (.load 16 true (.t 3))), (.mk (some 2) none (.stro 16 2 (.t 18)))]) .ret))))))),
  [(.c 2 16 true)]⟩
theorem i245 : IsFun Tryz.prog 245 g245 := ⟨Tryz.f245, _, [], Tryz.func245, by kernel_rfl, rfl, by kernel_rfl, by kernel_rfl, rfl⟩
def g258 : GFun := ⟨⟨25, [2,3]⟩,
  (.seq (.reg [(.mk (some 2) none (.boxro 4 (.t 0))), (.mk (some 3) none (.boxro 4 (.t 1))), (.mk (some 4) none (.mov (.k (.val (.bool false)))))]) (.seq (.seq (.reg [(.mk (some 5) none (.faddr 0 1 false (.t 2))), (.mk
  (some 6) none (.load 1 false (.t 5))), (.mk (some 7) none (.faddr 0 1 false (.t 3))), (.mk (some 8) none (.load 1 false (.t 7))), (.mk (some 9) none (.bin .neq (.t 6) (.t 8)))]) (.cond 9 (.seq (.reg [(.mk (some 4)
  none (.mov (.k (.val (.bool false)))))]) .ret) .skip)) (.seq (.seq (.reg [(.mk (some 10) none (.faddr 1 1 false (.t 2))), (.mk (some 11) none (.load 1 false (.t 10))), (.mk (some 12) none (.faddr 1 1 false (.t 3))),
  (.mk (some 13) none (.load 1 false (.t 12))), (.mk (some 14) none (.bin .neq (.t 11) (.t 13)))]) (.cond 14 (.seq (.reg [(.mk (some 4) none (.mov (.k (.val (.bool false)))))]) .ret) .skip)) (.seq (.seq (.reg [(.mk
  (some 15) none (.faddr 2 1 false (.t 2))), (.mk (some 16) none (.load 1 false (.t 15))), (.mk (some 17) none (.faddr 2 1 false (.t 3))), (.mk (some 18) none (.load 1 false (.t 17))), (.mk (some 19) none (.bin .neq (.t
  16) (.t 18)))]) (.cond 19 (.seq (.reg [(.mk (some 4) none (.mov (.k (.val (.bool false)))))]) .ret) .skip)) (.seq (.seq (.reg [(.mk (some 20) none (.faddr 3 1 false (.t 2))), (.mk (some 21) none (.load 1 false (.t
  20))), (.mk (some 22) none (.faddr 3 1 false (.t 3))), (.mk (some 23) none (.load 1 false (.t 22))), (.mk (some 24) none (.beq true (.t 21) (.t 23)))]) (.cond 24 (.seq (.reg [(.mk (some 4) none (.mov (.k (.val (.bool
  false)))))]) .ret) .skip)) (.seq (.reg [(.mk (some 4) none (.mov (.k (.val (.bool true)))))]) .ret)))))),
  [(.t 4)]⟩
theorem i258 : IsFun Tryz.prog 258 g258 := ⟨Tryz.f258, _, [], Tryz.func258, by kernel_rfl, rfl, by kernel_rfl, by kernel_rfl, rfl⟩
def g259 : GFun := ⟨⟨17, [2,3]⟩,
  (.seq (.reg [(.mk (some 2) none (.boxro 9 (.t 0))), (.mk (some 3) none (.boxro 9 (.t 1))), (.mk (some 4) none (.mov (.k (.val (.bool false)))))]) (.seq (.seq (.reg [(.mk (some 5) none (.faddr 0 2 true (.t 2))), (.mk
  (some 6) none (.load 2 true (.t 5))), (.mk (some 7) none (.faddr 0 2 true (.t 3))), (.mk (some 8) none (.load 2 true (.t 7))), (.mk (some 9) none (.call false 300 [(.t 6), (.t 8)])), (.mk (some 10) none (.not (.t
  9)))]) (.cond 10 (.seq (.reg [(.mk (some 4) none (.mov (.k (.val (.bool false)))))]) .ret) .skip)) (.seq (.seq (.reg [(.mk (some 11) none (.faddr 2 7 true (.t 2))), (.mk (some 12) none (.load 7 true (.t 11))), (.mk
  (some 13) none (.faddr 2 7 true (.t 3))), (.mk (some 14) none (.load 7 true (.t 13))), (.mk (some 15) none (.call false 301 [(.t 12), (.t 14)])), (.mk (some 16) none (.not (.t 15)))]) (.cond 16 (.seq (.reg [(.mk (some
  4) none (.mov (.k (.val (.bool false)))))]) .ret) .skip)) (.seq (.reg [(.mk (some 4) none (.mov (.k (.val (.bool true)))))]) .ret)))),
  [(.t 4)]⟩
theorem i259 : IsFun Tryz.prog 259 g259 := ⟨Tryz.f259, _, [], Tryz.func259, by kernel_rfl, rfl, by kernel_rfl, by kernel_rfl, rfl⟩
def g260 : GFun := ⟨⟨27, [2,3]⟩,
  (.seq (.reg [(.mk (some 2) none (.boxro 16 (.t 0))), (.mk (some 3) none (.boxro 16 (.t 1))), (.mk (some 4) none (.mov (.k (.val (.bool false)))))]) (.seq (.seq (.reg [(.mk (some 5) none (.faddr 0 1 false (.t 2))),
  (.mk (some 6) none (.load 1 false (.t 5))), (.mk (some 7) none (.faddr 0 1 false (.t 3))), (.mk (some 8) none (.load 1 false (.t 7))), (.mk (some 9) none (.bin .neq (.t 6) (.t 8)))]) (.cond 9 (.seq (.reg [(.mk (some
  4) none (.mov (.k (.val (.bool false)))))]) .ret) .skip)) (.seq (.seq (.reg [(.mk (some 10) none (.faddr 1 1 false (.t 2))), (.mk (some 11) none (.load 1 false (.t 10))), (.mk (some 12) none (.faddr 1 1 false (.t
  3))), (.mk (some 13) none (.load 1 false (.t 12))), (.mk (some 14) none (.bin .neq (.t 11) (.t 13)))]) (.cond 14 (.seq (.reg [(.mk (some 4) none (.mov (.k (.val (.bool false)))))]) .ret) .skip)) (.seq (.seq (.reg
  [(.mk (some 15) none (.faddr 2 7 true (.t 2))), (.mk (some 16) none (.load 7 true (.t 15))), (.mk (some 17) none (.faddr 2 7 true (.t 3))), (.mk (some 18) none (.load 7 true (.t 17))), (.mk (some 19) none (.call false
  301 [(.t 16), (.t 18)])), (.mk (some 20) none (.not (.t 19)))]) (.cond 20 (.seq (.reg [(.mk (some 4) none (.mov (.k (.val (.bool false)))))]) .ret) .skip)) (.seq (.seq (.reg [(.mk (some 21) none (.faddr 9 7 true (.t
  2))), (.mk (some 22) none (.load 7 true (.t 21))), (.mk (some 23) none (.faddr 9 7 true (.t 3))), (.mk (some 24) none (.load 7 true (.t 23))), (.mk (some 25) none (.call false 301 [(.t 22), (.t 24)])), (.mk (some 26)
  none (.not (.t 25)))]) (.cond 26 (.seq (.reg [(.mk (some 4) none (.mov (.k (.val (.bool false)))))]) .ret) .skip)) (.seq (.reg [(.mk (some 4) none (.mov (.k (.val (.bool true)))))]) .ret)))))),
  [(.t 4)]⟩
theorem i260 : IsFun Tryz.prog 260 g260 := ⟨Tryz.f260, _, [], Tryz.func260, by kernel_rfl, rfl, by kernel_rfl, by kernel_rfl, rfl⟩
def g261 : GFun := ⟨⟨14, []⟩,
  (.seq (.reg [(.mk (some 4) none (.mov (.k (.val (.bool false)))))]) (.seq (.reg [(.mk (some 5) none (.mov (.t 1))), (.mk (some 6) none (.call false 67 [(.t 5), (.k (.val (.int .i64 1))), (.k (.val (.int .i64 4)))])),
  (.mk (some 7) none (.mov (.t 6))), (.mk (some 8) (some (7, true)) (.mov (.t 0))), (.mk (some 9) (some (7, true)) (.mov (.t 1))), (.mk (some 10) (some (7, true)) (.call false 302 [(.t 8), (.t 9)])), (.mk (some 11)
  (some (7, true)) (.mov (.t 0))), (.mk (some 12) (some (7, true)) (.bin .eql (.t 10) (.t 11))), (.mk (some 13) none (.pick (.t 7) (.t 12) (.k (.val (.bool false))))), (.mk (some 4) none (.mov (.t 13)))]) .ret)),
  [(.t 4)]⟩
theorem i261 : IsFun Tryz.prog 261 g261 := ⟨Tryz.f261, _, [], Tryz.func261, by kernel_rfl, rfl, by kernel_rfl, by kernel_rfl, rfl⟩
def g262 : GFun := ⟨⟨9, []⟩,
  (.seq (.reg [(.mk (some 4) none (.mov (.k (.val (.bool false)))))]) (.seq (.reg [(.mk (some 5) none (.mov (.t 0))), (.mk (some 6) none (.mov (.t 1))), (.mk (some 7) none (.call false 183 [(.t 5), (.t 6)])), (.mk (some
  8) none (.bin .geq (.t 7) (.k (.val (.int .i64 0))))), (.mk (some 4) none (.mov (.t 8)))]) .ret)),
  [(.t 4)]⟩
theorem i262 : IsFun Tryz.prog 262 g262 := ⟨Tryz.f262, _, [], Tryz.func262, by kernel_rfl, rfl, by kernel_rfl, by kernel_rfl, rfl⟩
def g263 : GFun := ⟨⟨9, [2]⟩,
  (.seq (.reg [(.mk (some 2) none (.boxro 6 (.t 0))), (.mk (some 3) none (.mov (.k (.val (.bool false)))))]) (.seq (.reg [(.mk (some 4) none (.faddr 0 1 false (.t 2))), (.mk (some 5) none (.load 1 false (.t 4))), (.mk
  (some 6) none (.faddr 0 1 false (.t 1))), (.mk (some 7) none (.load 1 false (.t 6))), (.mk (some 8) none (.bin .eql (.t 5) (.t 7))), (.mk (some 3) none (.mov (.t 8)))]) .ret)),
  [(.t 3)]⟩
theorem i263 : IsFun Tryz.prog 263 g263 := ⟨Tryz.f263, _, [], Tryz.func263, by kernel_rfl, rfl, by kernel_rfl, by kernel_rfl, rfl⟩
def g264 : GFun := ⟨⟨110, [6,7,13,14]⟩,
  (.seq (.reg [(.mk (some 6) none (.boxro 2 (.t 0))), (.mk (some 7) none (.boxro 1 (.t 1))), (.mk (some 12) none (.mov (.k (.val (.int .i64 0)))))]) (.seq (.seq (.reg [(.mk (some 19) none (.mov (.t 2))), (.mk (some 20)
  none (.faddr 0 1 false (.t 7))), (.mk (some 21) none (.load 1 false (.t 20))), (.mk (some 22) none (.len (.t 21))), (.mk (some 23) none (.bin .geq (.t 19) (.t 22)))]) (.cond 23 (.seq (.reg [(.mk (some 12) none (.mov
  (.k (.val (.int .i64 (-1))))))]) .ret) .skip)) (.seq (.reg [(.mk (some 24) none (.faddr 0 1 false (.t 7))), (.mk (some 25) none (.load 1 false (.t 24))), (.mk (some 26) none (.mov (.t 2))), (.mk (some 27) none (.iaddr
  6 (.t 25) (.t 26))), (.mk (some 28) none (.load 6 true (.t 27))), (.mk (some 13) none (.allocr 6)), (.mk (some 13) none (.stro 6 13 (.t 28)))]) (.seq (.reg [(.mk (some 30) none (.load 2 true (.t 6))), (.mk (some 31)
  none (.faddr 4 1 false (.t 13))), (.mk (some 32) none (.load 1 false (.t 31))), (.mk (some 33) none (.call false 110 [(.t 30), (.t 32)])), (.mk (some 29) none (.mov (.t 33))), (.mk (some 34) none (.ext (.t 29) 0)),
  (.mk (some 35) none (.ext (.t 29) 1)), (.mk (some 14) none (.allocr 6)), (.mk (some 14) none (.stro 6 14 (.t 34))), (.mk (some 15) none (.mov (.t 35)))]) (.seq (.seq (.reg [(.mk (some 36) none (.mov (.t 15))), (.mk
  (some 37) none (.not (.t 36))), (.mk (some 38) none (.mov (.t 37))), (.mk (some 39) (some (38, false)) (.faddr 1 1 false (.t 14))), (.mk (some 40) (some (38, false)) (.load 1 false (.t 39))), (.mk (some 41) (some (38,
  false)) (.mov (.t 5))), (.mk (some 42) (some (38, false)) (.bin .neq (.t 40) (.t 41))), (.mk (some 43) none (.pick (.t 38) (.k (.val (.bool true))) (.t 42))), (.mk (some 44) none (.mov (.t 43))), (.mk (some 45) (some
  (44, false)) (.faddr 1 1 false (.t 13))), (.mk (some 46) (some (44, false)) (.load 1 false (.t 45))), (.mk (some 47) (some (44, false)) (.mov (.t 3))), (.mk (some 48) (some (44, false)) (.bin .neq (.t 46) (.t 47))),
  (.mk (some 49) none (.pick (.t 44) (.k (.val (.bool true))) (.t 48))), (.mk (some 50) none (.mov (.t 49))), (.mk (some 51) (some (50, false)) (.faddr 2 1 false (.t 13))), (.mk (some 52) (some (50, false)) (.load 1
  false (.t 51))), (.mk (some 53) (some (50, false)) (.mov (.t 4))), (.mk (some 54) (some (50, false)) (.bin .neq (.t 52) (.t 53))), (.mk (some 55) none (.pick (.t 50) (.k (.val (.bool true))) (.t 54))), (.mk (some 56)
  none (.mov (.t 55))), (.mk (some 57) (some (56, false)) (.faddr 5 1 false (.t 13))), (.mk (some 58) (some (56, false)) (.load 1 false (.t 57))), (.mk (some 59) (some (56, false)) (.len (.t 58))), (.mk (some 60) (some
  (56, false)) (.faddr 2 1 false (.t 14))), (.mk (some 61) (some (56, false)) (.load 1 false (.t 60))), (.mk (some 62) (some (56, false)) (.len (.t 61))), (.mk (some 63) (some (56, false)) (.bin .neq (.t 59) (.t 62))),
  (.mk (some 64) none (.pick (.t 56) (.k (.val (.bool true))) (.t 63))), (.mk (some 65) none (.mov (.t 64))), (.mk (some 66) (some (65, false)) (.faddr 3 1 false (.t 13))), (.mk (some 67) (some (65, false)) (.load 1
  false (.t 66))), (.mk (some 68) (some (65, false)) (.call false 70 [(.t 67), (.k (.val (.int .i64 (-1000000)))), (.k (.val (.int .i64 1000000)))])), (.mk (some 69) (some (65, false)) (.not (.t 68))), (.mk (some 70)
  none (.pick (.t 65) (.k (.val (.bool true))) (.t 69))), (.mk (some 71) none (.mov (.t 70))), (.mk (some 72) (some (71, false)) (.faddr 3 1 false (.t 14))), (.mk (some 73) (some (71, false)) (.load 1 false (.t 72))),
  (.mk (some 74) (some (71, false)) (.not (.t 73))), (.mk (some 75) (some (71, false)) (.mov (.t 74))), (.mk (some 76) (some (75, true)) (.faddr 3 1 false (.t 13))), (.mk (some 77) (some (75, true)) (.load 1 false (.t
  76))), (.mk (some 78) (some (75, true)) (.bin .neq (.t 77) (.k (.val (.int .i64 0))))), (.mk (some 79) (some (71, false)) (.pick (.t 75) (.t 78) (.k (.val (.bool false))))), (.mk (some 80) none (.pick (.t 71) (.k
  (.val (.bool true))) (.t 79)))]) (.cond 80 (.seq (.reg [(.mk (some 12) none (.mov (.k (.val (.int .i64 (-1))))))]) .ret) .skip)) (.seq (.reg [(.mk (some 81) none (.mov (.t 2))), (.mk (some 82) none (.bin .add (.t 81)
  (.k (.val (.int .i64 1))))), (.mk (some 16) none (.mov (.t 82)))]) (.seq (.seq (.reg [(.mk (some 83) none (.faddr 5 1 false (.t 13))), (.mk (some 84) none (.load 1 false (.t 83))), (.mk (some 85) none (.len (.t 84))),
  (.mk (some 86) none (.mov (.k (.val (.int .i64 0)))))]) (.block 0 (.loop (.seq (.reg [(.mk (some 87) none (.bin .lss (.t 86) (.t 85)))]) (.seq (.cond 87 .skip (.exit 0)) (.seq (.block 1 (.seq (.reg [(.mk (some 88)
  none (.mov (.t 86))), (.mk (some 89) none (.iaddr 1 (.t 84) (.t 86))), (.mk (some 90) none (.load 1 false (.t 89))), (.mk (some 17) none (.mov (.t 88))), (.mk (some 18) none (.mov (.t 90)))]) (.seq (.seq (.reg [(.mk
  (some 91) none (.mov (.t 18))), (.mk (some 92) none (.mov (.t 16))), (.mk (some 93) none (.bin .neq (.t 91) (.t 92)))]) (.cond 93 (.seq (.reg [(.mk (some 12) none (.mov (.k (.val (.int .i64 (-1))))))]) .ret) .skip))
  (.seq (.reg [(.mk (some 96) none (.mov (.t 16))), (.mk (some 97) none (.mov (.t 2))), (.mk (some 98) none (.mov (.t 17))), (.mk (some 99) none (.bin .add (.t 98) (.k (.val (.int .i64 1))))), (.mk (some 100) none
  (.faddr 2 1 false (.t 14))), (.mk (some 102) none (.mov (.t 17))), (.mk (some 94) none (.load 2 true (.t 6))), (.mk (some 95) none (.load 1 true (.t 7))), (.mk (some 101) none (.load 1 false (.t 100))), (.mk (some
  103) none (.iaddr 1 (.t 101) (.t 102))), (.mk (some 104) none (.load 1 false (.t 103))), (.mk (some 105) none (.call true 264 [(.t 94), (.t 95), (.t 96), (.t 97), (.t 99), (.t 104)])), (.mk (some 16) none (.mov (.t
  105)))]) (.seq (.reg [(.mk (some 106) none (.mov (.t 16))), (.mk (some 107) none (.bin .lss (.t 106) (.k (.val (.int .i64 0)))))]) (.cond 107 (.seq (.reg [(.mk (some 12) none (.mov (.k (.val (.int .i64 (-1))))))])
  .ret) .skip)))))) (.reg [(.mk (some 108) none (.bin .add (.t 86) (.k (.val (.int .i64 1))))), (.mk (some 86) none (.mov (.t 108)))]))))))) (.seq (.reg [(.mk (some 109) none (.mov (.t 16))), (.mk (some 12) none (.mov
  (.t 109)))]) .ret)))))))),
  [(.t 12)]⟩
theorem i264 : IsFun Tryz.prog 264 g264 := ⟨Tryz.f264, _, [], Tryz.func264, by kernel_rfl, rfl, by kernel_rfl, by kernel_rfl, rfl⟩
def g291 : GFun := ⟨⟨13, [2]⟩,
  (.seq (.reg [(.mk (some 2) none (.boxro 2 (.t 0))), (.mk (some 4) none (.mov (.k (.val (.int .i64 0)))))]) (.seq (.reg [(.mk (some 5) none (.mov (.t 1))), (.mk (some 6) none (.faddr 1 1 false (.t 2))), (.mk (some 7)
  none (.load 1 false (.t 6))), (.mk (some 8) none (.slen (.t 7))), (.mk (some 9) none (.bin .sub (.t 5) (.t 8))), (.mk (some 1) none (.mov (.t 9)))]) (.seq (.seq (.reg [(.mk (some 10) none (.mov (.t 1))), (.mk (some
  11) none (.bin .lss (.t 10) (.k (.val (.int .i64 0)))))]) (.cond 11 (.seq (.reg [(.mk (some 4) none (.mov (.k (.val (.int .i64 (-1))))))]) .ret) .skip)) (.seq (.reg [(.mk (some 12) none (.mov (.t 1))), (.mk (some 4)
  none (.mov (.t 12)))]) .ret)))),
  [(.t 4)]⟩
theorem i291 : IsFun Tryz.prog 291 g291 := ⟨Tryz.f291, _, [], Tryz.func291, by kernel_rfl, rfl, by kernel_rfl, by kernel_rfl, rfl⟩
def g292 : GFun := ⟨⟨26, [2]⟩,
  (.seq (.reg [(.mk (some 2) none (.boxro 7 (.t 0))), (.mk (some 4) none (.mov (.k (.val (.int .i64 0)))))]) (.seq (.reg [(.mk (some 5) none (.mov (.t 1))), (.mk (some 6) none (.faddr 4 1 false (.t 2))), (.mk (some 7)
  none (.load 1 false (.t 6))), (.mk (some 8) none (.slen (.t 7))), (.mk (some 9) none (.bin .sub (.t 5) (.t 8))), (.mk (some 1) none (.mov (.t 9)))]) (.seq (.seq (.reg [(.mk (some 10) none (.mov (.t 1))), (.mk (some
  11) none (.bin .lss (.t 10) (.k (.val (.int .i64 0)))))]) (.cond 11 (.seq (.reg [(.mk (some 4) none (.mov (.k (.val (.int .i64 (-1))))))]) .ret) .skip)) (.seq (.reg [(.mk (some 12) none (.mov (.t 1))), (.mk (some 13)
  none (.faddr 5 1 false (.t 2))), (.mk (some 14) none (.load 1 false (.t 13))), (.mk (some 15) none (.slen (.t 14))), (.mk (some 16) none (.bin .sub (.t 12) (.t 15))), (.mk (some 1) none (.mov (.t 16)))]) (.seq (.seq
  (.reg [(.mk (some 17) none (.mov (.t 1))), (.mk (some 18) none (.bin .lss (.t 17) (.k (.val (.int .i64 0)))))]) (.cond 18 (.seq (.reg [(.mk (some 4) none (.mov (.k (.val (.int .i64 (-1))))))]) .ret) .skip)) (.seq
  (.reg [(.mk (some 19) none (.faddr 6 1 false (.t 2))), (.mk (some 20) none (.load 1 false (.t 19))), (.mk (some 21) none (.mov (.t 1))), (.mk (some 22) none (.call false 320 [(.t 20), (.t 21)])), (.mk (some 1) none
  (.mov (.t 22)))]) (.seq (.seq (.reg [(.mk (some 23) none (.mov (.t 1))), (.mk (some 24) none (.bin .lss (.t 23) (.k (.val (.int .i64 0)))))]) (.cond 24 (.seq (.reg [(.mk (some 4) none (.mov (.k (.val (.int .i64
  (-1))))))]) .ret) .skip)) (.seq (.reg [(.mk (some 25) none (.mov (.t 1))), (.mk (some 4) none (.mov (.t 25)))]) .ret)))))))),
  [(.t 4)]⟩
theorem i292 : IsFun Tryz.prog 292 g292 := ⟨Tryz.f292, _, [], Tryz.func292, by kernel_rfl, rfl, by kernel_rfl, by kernel_rfl, rfl⟩
def g293 : GFun := ⟨⟨11, [1,2]⟩,
  (.seq (.reg [(.mk (some 1) none (.boxro 2 (.t 0))), (.mk (some 2) none (.allocr 2))]) (.seq (.reg [(.mk (some 3) none (.alloc 2 (.agg [(.val (.int .i64 0)), (.val (.string (ByteArray.mk #[])))])))]) (.seq (.reg [(.mk
  (some 4) none (.faddr 0 1 false (.t 1))), (.mk (some 5) none (.load 1 false (.t 4))), (.mk (some 6) none (.faddr 0 1 false (.t 3))), (.mk none none (.store 1 (.t 6) (.t 5)))]) (.seq (.reg [(.mk (some 7) none (.faddr 1
  1 false (.t 1))), (.mk (some 8) none (.load 1 false (.t 7))), (.mk (some 9) none (.faddr 1 1 false (.t 3))), (.mk none none (.store 1 (.t 9) (.t 8)))]) (.seq (.reg [(.mk (some 10) none (.load 2 true (.t 3))), (.mk
  (some 2) none (.stro 2 2 (.t 10)))]) .ret))))),
  [(.c 2 2 true)]⟩
theorem i293 : IsFun Tryz.prog 293 g293 := ⟨Tryz.f293, _, [], Tryz.func293, by kernel_rfl, rfl, by kernel_rfl, by kernel_rfl, rfl⟩
def g294 : GFun := ⟨⟨27, [1,2]⟩,
  (.seq (.reg [(.mk (some 1) none (.boxro 7 (.t 0))), (.mk (some 2) none (.allocr 7))]) (.seq (.reg [(.mk (some 3) none (.alloc 7 (.agg [(.val (.int .i64 0)), (.val (.int .i64 0)), (.val (.int .i64 0)), (.val (.int .i64
  0)), (.val (.string (ByteArray.mk #[]))), (.val (.string (ByteArray.mk #[]))), (.val (.slice none 0 0))])))]) (.seq (.reg [(.mk (some 4) none (.faddr 0 1 false (.t 1))), (.mk (some 5) none (.load 1 false (.t 4))),
  (.mk (some 6) none (.faddr 0 1 false (.t 3))), (.mk none none (.store 1 (.t 6) (.t 5)))]) (.seq (.reg [(.mk (some 7) none (.faddr 1 1 false (.t 1))), (.mk (some 8) none (.load 1 false (.t 7))), (.mk (some 9) none
  (.faddr 1 1 false (.t 3))), (.mk none none (.store 1 (.t 9) (.t 8)))]) (.seq (.reg [(.mk (some 10) none (.faddr 2 1 false (.t 1))), (.mk (some 11) none (.load 1 false (.t 10))), (.mk (some 12) none (.faddr 2 1 false
  (.t 3))), (.mk none none (.store 1 (.t 12) (.t 11)))]) (.seq (.reg [(.mk (some 13) none (.faddr 3 1 false (.t 1))), (.mk (some 14) none (.load 1 false (.t 13))), (.mk (some 15) none (.faddr 3 1 false (.t 3))), (.mk
  none none (.store 1 (.t 15) (.t 14)))]) (.seq (.reg [(.mk (some 16) none (.faddr 4 1 false (.t 1))), (.mk (some 17) none (.load 1 false (.t 16))), (.mk (some 18) none (.faddr 4 1 false (.t 3))), (.mk none none (.store
  1 (.t 18) (.t 17)))]) (.seq (.reg [(.mk (some 19) none (.faddr 5 1 false (.t 1))), (.mk (some 20) none (.load 1 false (.t 19))), (.mk (some 21) none (.faddr 5 1 false (.t 3))), (.mk none none (.store 1 (.t 21) (.t
  20)))]) (.seq (.reg [(.mk (some 22) none (.faddr 6 1 false (.t 1))), (.mk (some 23) none (.load 1 false (.t 22))), (.mk (some 24) none (.call false 321 [(.t 23)])), (.mk (some 25) none (.faddr 6 1 false (.t 3))), (.mk
  none none (.store 1 (.t 25) (.t 24)))]) (.seq (.reg [(.mk (some 26) none (.load 7 true (.t 3))), (.mk (some 2) none (.stro 7 2 (.t 26)))]) .ret)))))))))),
  [(.c 2 7 true)]⟩
theorem i294 : IsFun Tryz.prog 294 g294 := ⟨Tryz.f294, _, [], Tryz.func294, by kernel_rfl, rfl, by kernel_rfl, by kernel_rfl, rfl⟩
def g300 : GFun := ⟨⟨15, [2,3]⟩,
  (.seq (.reg [(.mk (some 2) none (.boxro 2 (.t 0))), (.mk (some 3) none (.boxro 2 (.t 1))), (.mk (some 4) none (.mov (.k (.val (.bool false)))))]) (.seq (.seq (.reg [(.mk (some 5) none (.faddr 0 1 false (.t 2))), (.mk
  (some 6) none (.load 1 false (.t 5))), (.mk (some 7) none (.faddr 0 1 false (.t 3))), (.mk (some 8) none (.load 1 false (.t 7))), (.mk (some 9) none (.bin .neq (.t 6) (.t 8)))]) (.cond 9 (.seq (.reg [(.mk (some 4)
  none (.mov (.k (.val (.bool false)))))]) .ret) .skip)) (.seq (.seq (.reg [(.mk (some 10) none (.faddr 1 1 false (.t 2))), (.mk (some 11) none (.load 1 false (.t 10))), (.mk (some 12) none (.faddr 1 1 false (.t 3))),
  (.mk (some 13) none (.load 1 false (.t 12))), (.mk (some 14) none (.bin .neq (.t 11) (.t 13)))]) (.cond 14 (.seq (.reg [(.mk (some 4) none (.mov (.k (.val (.bool false)))))]) .ret) .skip)) (.seq (.reg [(.mk (some 4)
  none (.mov (.k (.val (.bool true)))))]) .ret)))),
  [(.t 4)]⟩
theorem i300 : IsFun Tryz.prog 300 g300 := ⟨Tryz.f300, _, [], Tryz.func300, by kernel_rfl, rfl, by kernel_rfl, by kernel_rfl, rfl⟩
def g301 : GFun := ⟨⟨41, [2,3]⟩,
  (.seq (.reg [(.mk (some 2) none (.boxro 7 (.t 0))), (.mk (some 3) none (.boxro 7 (.t 1))), (.mk (some 4) none (.mov (.k (.val (.bool false)))))]) (.seq (.seq (.reg [(.mk (some 5) none (.faddr 0 1 false (.t 2))), (.mk
  (some 6) none (.load 1 false (.t 5))), (.mk (some 7) none (.faddr 0 1 false (.t 3))), (.mk (some 8) none (.load 1 false (.t 7))), (.mk (some 9) none (.bin .neq (.t 6) (.t 8)))]) (.cond 9 (.seq (.reg [(.mk (some 4)
  none (.mov (.k (.val (.bool false)))))]) .ret) .skip)) (.seq (.seq (.reg [(.mk (some 10) none (.faddr 1 1 false (.t 2))), (.mk (some 11) none (.load 1 false (.t 10))), (.mk (some 12) none (.faddr 1 1 false (.t 3))),
  (.mk (some 13) none (.load 1 false (.t 12))), (.mk (some 14) none (.bin .neq (.t 11) (.t 13)))]) (.cond 14 (.seq (.reg [(.mk (some 4) none (.mov (.k (.val (.bool false)))))]) .ret) .skip)) (.seq (.seq (.reg [(.mk
  (some 15) none (.faddr 2 1 false (.t 2))), (.mk (some 16) none (.load 1 false (.t 15))), (.mk (some 17) none (.faddr 2 1 false (.t 3))), (.mk (some 18) none (.load 1 false (.t 17))), (.mk (some 19) none (.bin .neq (.t
  16) (.t 18)))]) (.cond 19 (.seq (.reg [(.mk (some 4) none (.mov (.k (.val (.bool false)))))]) .ret) .skip)) (.seq (.seq (.reg [(.mk (some 20) none (.faddr 3 1 false (.t 2))), (.mk (some 21) none (.load 1 false (.t
  20))), (.mk (some 22) none (.faddr 3 1 false (.t 3))), (.mk (some 23) none (.load 1 false (.t 22))), (.mk (some 24) none (.bin .neq (.t 21) (.t 23)))]) (.cond 24 (.seq (.reg [(.mk (some 4) none (.mov (.k (.val (.bool
  false)))))]) .ret) .skip)) (.seq (.seq (.reg [(.mk (some 25) none (.faddr 4 1 false (.t 2))), (.mk (some 26) none (.load 1 false (.t 25))), (.mk (some 27) none (.faddr 4 1 false (.t 3))), (.mk (some 28) none (.load 1
  false (.t 27))), (.mk (some 29) none (.bin .neq (.t 26) (.t 28)))]) (.cond 29 (.seq (.reg [(.mk (some 4) none (.mov (.k (.val (.bool false)))))]) .ret) .skip)) (.seq (.seq (.reg [(.mk (some 30) none (.faddr 5 1 false
  (.t 2))), (.mk (some 31) none (.load 1 false (.t 30))), (.mk (some 32) none (.faddr 5 1 false (.t 3))), (.mk (some 33) none (.load 1 false (.t 32))), (.mk (some 34) none (.bin .neq (.t 31) (.t 33)))]) (.cond 34 (.seq
  (.reg [(.mk (some 4) none (.mov (.k (.val (.bool false)))))]) .ret) .skip)) (.seq (.seq (.reg [(.mk (some 35) none (.faddr 6 1 false (.t 2))), (.mk (some 36) none (.load 1 false (.t 35))), (.mk (some 37) none (.faddr
  6 1 false (.t 3))), (.mk (some 38) none (.load 1 false (.t 37))), (.mk (some 39) none (.call false 323 [(.t 36), (.t 38)])), (.mk (some 40) none (.not (.t 39)))]) (.cond 40 (.seq (.reg [(.mk (some 4) none (.mov (.k
  (.val (.bool false)))))]) .ret) .skip)) (.seq (.reg [(.mk (some 4) none (.mov (.k (.val (.bool true)))))]) .ret))))))))),
  [(.t 4)]⟩
theorem i301 : IsFun Tryz.prog 301 g301 := ⟨Tryz.f301, _, [], Tryz.func301, by kernel_rfl, rfl, by kernel_rfl, by kernel_rfl, rfl⟩
def g302 : GFun := ⟨⟨24, []⟩,
  (.seq (.reg [(.mk (some 4) none (.mov (.k (.val (.int .i64 0)))))]) (.seq (.seq (.reg [(.mk (some 5) none (.mov (.t 1)))]) (.block 0 (.seq (.reg [(.mk (some 7) none (.bin .eql (.t 5) (.k (.val (.int .i64 1))))), (.mk
  (some 6) none (.mov (.t 7)))]) (.cond 6 (.seq (.reg [(.mk (some 8) none (.mov (.t 0))), (.mk (some 9) none (.call false 313 [(.t 8)])), (.mk (some 4) none (.mov (.t 9)))]) .ret) (.seq (.reg [(.mk (some 11) none (.bin
  .eql (.t 5) (.k (.val (.int .i64 2))))), (.mk (some 10) none (.mov (.t 11)))]) (.cond 10 (.seq (.reg [(.mk (some 12) none (.mov (.t 0))), (.mk (some 13) none (.bin .and (.t 12) (.k (.val (.int .i64 4095))))), (.mk
  (some 4) none (.mov (.t 13)))]) .ret) (.seq (.reg [(.mk (some 15) none (.bin .eql (.t 5) (.k (.val (.int .i64 3))))), (.mk (some 14) none (.mov (.t 15)))]) (.cond 14 (.seq (.reg [(.mk (some 16) none (.mov (.t 0))),
  (.mk (some 17) none (.bin .neq (.t 16) (.k (.val (.int .i64 0))))), (.mk (some 18) none (.call false 315 [(.t 17)])), (.mk (some 4) none (.mov (.t 18)))]) .ret) (.seq (.reg [(.mk (some 20) none (.bin .eql (.t 5) (.k
  (.val (.int .i64 4))))), (.mk (some 19) none (.mov (.t 20)))]) (.cond 19 (.seq (.reg [(.mk (some 21) none (.mov (.t 0))), (.mk (some 22) none (.call false 67 [(.t 21), (.k (.val (.int .i64 0))), (.k (.val (.int .i64
  999)))]))]) (.cond 22 (.seq (.reg [(.mk (some 23) none (.mov (.t 0))), (.mk (some 4) none (.mov (.t 23)))]) .ret) .skip)) .skip)))))))))) (.seq (.reg [(.mk (some 4) none (.mov (.k (.val (.int .i64 0)))))]) .ret))),
  [(.t 4)]⟩
theorem i302 : IsFun Tryz.prog 302 g302 := ⟨Tryz.f302, _, [], Tryz.func302, by kernel_rfl, rfl, by kernel_rfl, by kernel_rfl, rfl⟩
def g313 : GFun := ⟨⟨6, []⟩,
  (.seq (.reg [(.mk (some 2) none (.mov (.k (.val (.int .i64 0)))))]) (.seq (.reg [(.mk (some 3) none (.mov (.t 0))), (.mk (some 4) none (.call false 314 [(.k (.val (.int .i64 1000000))), (.t 3)])), (.mk (some 5) none
  (.call false 138 [(.k (.val (.int .i64 (-1000000)))), (.t 4)])), (.mk (some 2) none (.mov (.t 5)))]) .ret)),
  [(.t 2)]⟩
theorem i313 : IsFun Tryz.prog 313 g313 := ⟨Tryz.f313, _, [], Tryz.func313, by kernel_rfl, rfl, by kernel_rfl, by kernel_rfl, rfl⟩
def g314 : GFun := ⟨⟨10, []⟩,
  (.seq (.reg [(.mk (some 4) none (.mov (.k (.val (.int .i64 0)))))]) (.seq (.seq (.reg [(.mk (some 5) none (.mov (.t 0))), (.mk (some 6) none (.mov (.t 1))), (.mk (some 7) none (.bin .lss (.t 5) (.t 6)))]) (.cond 7
  (.seq (.reg [(.mk (some 8) none (.mov (.t 0))), (.mk (some 4) none (.mov (.t 8)))]) .ret) .skip)) (.seq (.reg [(.mk (some 9) none (.mov (.t 1))), (.mk (some 4) none (.mov (.t 9)))]) .ret))),
  [(.t 4)]⟩
theorem i314 : IsFun Tryz.prog 314 g314 := ⟨Tryz.f314, _, [], Tryz.func314, by kernel_rfl, rfl, by kernel_rfl, by kernel_rfl, rfl⟩
def g315 : GFun := ⟨⟨4, []⟩,
  (.seq (.reg [(.mk (some 2) none (.mov (.k (.val (.int .i64 0)))))]) (.seq (.seq (.reg [(.mk (some 3) none (.mov (.t 0)))]) (.cond 3 (.seq (.reg [(.mk (some 2) none (.mov (.k (.val (.int .i64 1)))))]) .ret) .skip))
  (.seq (.reg [(.mk (some 2) none (.mov (.k (.val (.int .i64 0)))))]) .ret))),
  [(.t 2)]⟩
theorem i315 : IsFun Tryz.prog 315 g315 := ⟨Tryz.f315, _, [], Tryz.func315, by kernel_rfl, rfl, by kernel_rfl, by kernel_rfl, rfl⟩
def g320 : GFun := ⟨⟨27, []⟩,
  (.seq (.reg [(.mk (some 4) none (.mov (.k (.val (.int .i64 0)))))]) (.seq (.reg [(.mk (some 6) none (.mov (.t 1))), (.mk (some 7) none (.mov (.t 0))), (.mk (some 8) none (.len (.t 7))), (.mk (some 9) none (.bin .sub
  (.t 6) (.t 8))), (.mk (some 1) none (.mov (.t 9)))]) (.seq (.seq (.reg [(.mk (some 10) none (.mov (.t 1))), (.mk (some 11) none (.bin .lss (.t 10) (.k (.val (.int .i64 0)))))]) (.cond 11 (.seq (.reg [(.mk (some 4)
  none (.mov (.k (.val (.int .i64 (-1))))))]) .ret) .skip)) (.seq (.seq (.reg [(.mk (some 5) none (.mov (.k (.val (.int .i64 0)))))]) (.block 0 (.loop (.seq (.seq (.reg [(.mk (some 12) none (.mov (.t 5))), (.mk (some
  13) none (.mov (.t 0))), (.mk (some 14) none (.len (.t 13))), (.mk (some 15) none (.bin .lss (.t 12) (.t 14)))]) (.cond 15 .skip (.exit 0))) (.seq (.block 1 (.seq (.reg [(.mk (some 18) none (.mov (.t 0))), (.mk (some
  19) none (.mov (.t 5))), (.mk (some 20) none (.iaddr 7 (.t 18) (.t 19))), (.mk (some 21) none (.load 7 true (.t 20))), (.mk (some 22) none (.mov (.t 1))), (.mk (some 23) none (.call false 292 [(.t 21), (.t 22)])),
  (.mk (some 1) none (.mov (.t 23)))]) (.seq (.reg [(.mk (some 24) none (.mov (.t 1))), (.mk (some 25) none (.bin .lss (.t 24) (.k (.val (.int .i64 0)))))]) (.cond 25 (.seq (.reg [(.mk (some 4) none (.mov (.k (.val
  (.int .i64 (-1))))))]) .ret) .skip)))) (.reg [(.mk (some 16) none (.mov (.t 5))), (.mk (some 17) none (.bin .add (.t 16) (.k (.val (.int .i64 1))))), (.mk (some 5) none (.mov (.t 17)))])))))) (.seq (.reg [(.mk (some
  26) none (.mov (.t 1))), (.mk (some 4) none (.mov (.t 26)))]) .ret))))),
  [(.t 4)]⟩
theorem i320 : IsFun Tryz.prog 320 g320 := ⟨Tryz.f320, _, [], Tryz.func320, by kernel_rfl, rfl, by kernel_rfl, by kernel_rfl, rfl⟩
def g321 : GFun := ⟨⟨23, []⟩,
  (.seq (.reg [(.mk (some 2) none (.mov (.k (.val (.slice none 0 0)))))]) (.seq (.reg [(.mk (some 5) none (.mov (.t 0))), (.mk (some 6) none (.len (.t 5))), (.mk (some 7) none (.mkslice 7 88 (.agg [(.val (.int .i64 0)),
  (.val (.int .i64 0)), (.val (.int .i64 0)), (.val (.int .i64 0)), (.val (.string (ByteArray.mk #[]))), (.val (.string (ByteArray.mk #[]))), (.val (.slice none 0 0))]) (.t 6) (.t 6))), (.mk (some 3) none (.mov (.t
  7)))]) (.seq (.seq (.reg [(.mk (some 4) none (.mov (.k (.val (.int .i64 0)))))]) (.block 0 (.loop (.seq (.seq (.reg [(.mk (some 8) none (.mov (.t 4))), (.mk (some 9) none (.mov (.t 0))), (.mk (some 10) none (.len (.t
  9))), (.mk (some 11) none (.bin .lss (.t 8) (.t 10)))]) (.cond 11 .skip (.exit 0))) (.seq (.block 1 (.reg [(.mk (some 14) none (.mov (.t 3))), (.mk (some 15) none (.mov (.t 4))), (.mk (some 16) none (.mov (.t 0))),
  (.mk (some 17) none (.mov (.t 4))), (.mk (some 18) none (.iaddr 7 (.t 16) (.t 17))), (.mk (some 19) none (.load 7 true (.t 18))), (.mk (some 20) none (.call false 294 [(.t 19)])), (.mk (some 21) none (.iaddr 7 (.t 14)
  (.t 15))), (.mk none none (.store 7 (.t 21) (.t 20)))])) (.reg [(.mk (some 12) none (.mov (.t 4))), (.mk (some 13) none (.bin .add (.t 12) (.k (.val (.int .i64 1))))), (.mk (some 4) none (.mov (.t 13)))])))))) (.seq
  (.reg [(.mk (some 22) none (.mov (.t 3))), (.mk (some 2) none (.mov (.t 22)))]) .ret)))),
  [(.t 2)]⟩
theorem i321 : IsFun Tryz.prog 321 g321 := ⟨Tryz.f321, _, [], Tryz.func321, by kernel_rfl, rfl, by kernel_rfl, by kernel_rfl, rfl⟩
def g323 : GFun := ⟨⟨27, []⟩,
  (.seq (.reg [(.mk (some 4) none (.mov (.k (.val (.bool false)))))]) (.seq (.seq (.reg [(.mk (some 6) none (.mov (.t 0))), (.mk (some 7) none (.len (.t 6))), (.mk (some 8) none (.mov (.t 1))), (.mk (some 9) none (.len
  (.t 8))), (.mk (some 10) none (.bin .neq (.t 7) (.t 9)))]) (.cond 10 (.seq (.reg [(.mk (some 4) none (.mov (.k (.val (.bool false)))))]) .ret) .skip)) (.seq (.seq (.reg [(.mk (some 5) none (.mov (.k (.val (.int .i64
  0)))))]) (.block 0 (.loop (.seq (.seq (.reg [(.mk (some 11) none (.mov (.t 5))), (.mk (some 12) none (.mov (.t 0))), (.mk (some 13) none (.len (.t 12))), (.mk (some 14) none (.bin .lss (.t 11) (.t 13)))]) (.cond 14
  .skip (.exit 0))) (.seq (.block 1 (.seq (.reg [(.mk (some 17) none (.mov (.t 0))), (.mk (some 18) none (.mov (.t 5))), (.mk (some 19) none (.iaddr 7 (.t 17) (.t 18))), (.mk (some 21) none (.mov (.t 1))), (.mk (some
  22) none (.mov (.t 5))), (.mk (some 23) none (.iaddr 7 (.t 21) (.t 22))), (.mk (some 20) none (.load 7 true (.t 19))), (.mk (some 24) none (.load 7 true (.t 23))), (.mk (some 25) none (.call true 301 [(.t 20), (.t
  24)])), (.mk (some 26) none (.not (.t 25)))]) (.cond 26 (.seq (.reg [(.mk (some 4) none (.mov (.k (.val (.bool false)))))]) .ret) .skip))) (.reg [(.mk (some 15) none (.mov (.t 5))), (.mk (some 16) none (.bin .add (.t
  15) (.k (.val (.int .i64 1))))), (.mk (some 5) none (.mov (.t 16)))])))))) (.seq (.reg [(.mk (some 4) none (.mov (.k (.val (.bool true)))))]) .ret)))),
  [(.t 4)]⟩
theorem i323 : IsFun Tryz.prog 323 g323 := ⟨Tryz.f323, _, [], Tryz.func323, by kernel_rfl, rfl, by kernel_rfl, by kernel_rfl, rfl⟩
end Go.Proofs.YtkepdhkomchlgaaGreat

namespace Go.Proofs.YtkepdhkomchlgaaGreat
open Go.Gh
set_option maxRecDepth 20000
set_option linter.unusedSimpArgs false
set_option linter.unusedVariables false
theorem mxd : Tryz.prog.follows .mixedOrders = true := Checked.mixed Tryz.checked
end Go.Proofs.YtkepdhkomchlgaaGreat

namespace Go.Proofs.YtkepdhkomchlgaaGreat
open Go.Gh
set_option maxRecDepth 20000
set_option linter.unusedSimpArgs false
set_option linter.unusedVariables false
theorem w175 (xs : List Int) (left : Int) (h0 : 0 ≤ left) (h1 : left ≤ 1048576) : Pure Tryz.prog 175 [IS xs, I left] (· = I (szv left xs.length)) := by
  refine GCalls.lenA fun hl => ?_
  have hl := hl.1.1
  simp only [List.length_map, maxL] at hl
  refine gstart mxd i175 rfl (by simp) ?_; simp (maxSteps := 2000000) only [↓ S2, S2, vIte, ↓reduceIte, Int.reduceNe, Nat.reduceEqDiff, reduceCtorEq, Nat.reduceLeDiff, Nat.reduceAdd, Nat.reduceLT]
  ((try with_reducible refine mkQI ?_); (repeat ((first | (with_reducible refine mkQU ?_) | simp only [brGen]); try simp (maxSteps := 2000000) only [↓ S2, S2, vIte, ↓reduceIte, Int.reduceNe, Nat.reduceEqDiff, reduceCtorEq, Nat.reduceLeDiff, Nat.reduceAdd, Nat.reduceLT])); (try simp +contextual (disch := omega) only [Z2]); (repeat' (first | (with_reducible intro h) | (with_reducible refine And.intro (by omega) ?_) | (with_reducible refine exP (by omega) ?_) | (with_reducible apply And.intro)))) <;> (congr 2; simp only [szv]; omega)
theorem w98 (x : Nod) (left : Int) (h0 : 0 ≤ left) (h1 : left ≤ 1048576) (hx : x.rule.size ≤ maxLen) : Pure Tryz.prog 98 [Nd x, I left] (· = I (szv left (wNd x))) := by
  simp only [maxLen, size_chars] at hx
  refine gstart mxd i98 rfl (by simp) ?_; simp (maxSteps := 2000000) only [↓ S2, S2, vIte, ↓reduceIte, Int.reduceNe, Nat.reduceEqDiff, reduceCtorEq, Nat.reduceLeDiff, Nat.reduceAdd, Nat.reduceLT]
  ((try with_reducible refine mkQI ?_); (repeat ((first | (with_reducible refine mkQU ?_) | simp only [brGen]); try simp (maxSteps := 2000000) only [↓ S2, S2, vIte, ↓reduceIte, Int.reduceNe, Nat.reduceEqDiff, reduceCtorEq, Nat.reduceLeDiff, Nat.reduceAdd, Nat.reduceLT])); (try simp +contextual (disch := omega) only [Z2]); (repeat' (first | (with_reducible intro h) | (with_reducible refine And.intro (by omega) ?_) | (with_reducible refine exP (by omega) ?_) | (with_reducible apply And.intro))))
  · congr 2; simp only [szv, wNd]; omega
  refine callS.eq (w175 _ _ (by omega) (by omega)) ?_
  ((try with_reducible refine mkQI ?_); (repeat ((first | (with_reducible refine mkQU ?_) | simp only [brGen]); try simp (maxSteps := 2000000) only [↓ S2, S2, vIte, ↓reduceIte, Int.reduceNe, Nat.reduceEqDiff, reduceCtorEq, Nat.reduceLeDiff, Nat.reduceAdd, Nat.reduceLT])); (try simp +contextual (disch := omega) only [Z2]); (repeat' (first | (with_reducible intro h) | (with_reducible refine And.intro (by omega) ?_) | (with_reducible refine exP (by omega) ?_) | (with_reducible apply And.intro)))) <;> (congr 2; simp only [szv, wNd] at *; omega)
theorem w49 (xs : List Nod) (left : Int) (h0 : 0 ≤ left) (h1 : left ≤ 1048576) (hx : ∀ x ∈ xs, x.rule.size ≤ maxLen) : Pure Tryz.prog 49 [NdS xs, I left] (· = I (szv left (wtS wNd xs))) :=
  szS mxd wNd i49 (fun _ => rfl) (fun _ => rfl) xs left h0 h1 fun x hm l a b => w98 x l a b (hx x hm)
theorem w12 (t : List Nod) (left : Int) (h0 : 0 ≤ left) (h1 : left ≤ 1048576) (hx : ∀ x ∈ t, x.rule.size ≤ maxLen) : Pure Tryz.prog 12 [Tr t, I left] (· = I (szv left (wtS wNd t))) := by
  refine gstart mxd i12 rfl (by simp) ?_; simp (maxSteps := 2000000) only [↓ S2, S2, vIte, ↓reduceIte, Int.reduceNe, Nat.reduceEqDiff, reduceCtorEq, Nat.reduceLeDiff, Nat.reduceAdd, Nat.reduceLT]
  refine callS.eq (w49 _ _ (by omega) (by omega) hx) ?_
  ((try with_reducible refine mkQI ?_); (repeat ((first | (with_reducible refine mkQU ?_) | simp only [brGen]); try simp (maxSteps := 2000000) only [↓ S2, S2, vIte, ↓reduceIte, Int.reduceNe, Nat.reduceEqDiff, reduceCtorEq, Nat.reduceLeDiff, Nat.reduceAdd, Nat.reduceLT])); (try simp +contextual (disch := omega) only [Z2]); (repeat' (first | (with_reducible intro h) | (with_reducible refine And.intro (by omega) ?_) | (with_reducible refine exP (by omega) ?_) | (with_reducible apply And.intro)))) <;> (congr 2; simp only [szv] at *; omega)
theorem o45 (xs : List Int) (hx : xs.length ≤ 1048576) (H : GH) : GCalls Tryz.prog 45 [IS xs] H (fun g H' => ∃ r, g = .own r 1 0 xs.length ∧ H' = (r, 1, xs.map I) :: H) := by
  refine gstart mxd i45 rfl (by simp) ?_; simp (maxSteps := 2000000) only [↓ S2, S2, vIte, ↓reduceIte, Int.reduceNe, Nat.reduceEqDiff, reduceCtorEq, Nat.reduceLeDiff, Nat.reduceAdd, Nat.reduceLT]
  refine ⟨by omega, by omega, by omega, by omega, fun r hr => ?_⟩
  refine wloop mxd (ι := { i : Nat // i ≤ xs.length }) (fun i => [(0, IS xs), (3, .own r 1 0 xs.length), (4, I i.1)]) (fun i => (r, 1, (xs.take i.1 ++ List.replicate (xs.length - i.1) 0).map I) :: H) (fun i => xs.length - i.1) ⟨0, by simp⟩ (by simp [E2]) (by simp) ?_
  rintro ⟨i, hi⟩
  ((try with_reducible refine mkQI ?_); (repeat ((first | (with_reducible refine mkQU ?_) | simp only [brGen]); try simp (maxSteps := 2000000) only [↓ S2, S2, vIte, ↓reduceIte, Int.reduceNe, Nat.reduceEqDiff, reduceCtorEq, Nat.reduceLeDiff, Nat.reduceAdd, Nat.reduceLT])); (try simp +contextual (disch := omega) only [Z2]); (repeat' (first | (with_reducible intro h) | (with_reducible refine And.intro (by omega) ?_) | (with_reducible refine exP (by omega) ?_) | (with_reducible apply And.intro))))
  · refine ⟨by simp; omega, nx ⟨i + 1, by omega⟩ (by simp; omega) (by simp [E2]) ?_⟩
    have e := fill_set xs id 0 i (by omega)
    simp only [List.map_id, id_eq] at e
    rw [← e]
  · have : i = xs.length := by omega
    subst this
    exact ⟨r, rfl, by simp⟩
theorem w45 (xs : List Int) (hx : xs.length ≤ 1048576) : Pure Tryz.prog 45 [IS xs] (· = IS xs) := by
  refine (o45 xs hx []).fr ?_
  rintro g H' ⟨r, rfl, rfl⟩
  exact ⟨_, _, FR.freeze hget_new (.all hget_new (by simp) (by simp [view])), rfl⟩
theorem w106 (x : Nod) (hx : x.kids.length ≤ 1048576) : Pure Tryz.prog 106 [Nd x] (· = Nd x) := by
  refine gstart mxd i106 rfl (by simp) ?_; simp (maxSteps := 2000000) only [↓ S2, S2, vIte, ↓reduceIte, Int.reduceNe, Nat.reduceEqDiff, reduceCtorEq, Nat.reduceLeDiff, Nat.reduceAdd, Nat.reduceLT]
  intro r hr
  refine callS.eq (w45 _ hx) ?_
  ((try with_reducible refine mkQI ?_); (repeat ((first | (with_reducible refine mkQU ?_) | simp only [brGen]); try simp (maxSteps := 2000000) only [↓ S2, S2, vIte, ↓reduceIte, Int.reduceNe, Nat.reduceEqDiff, reduceCtorEq, Nat.reduceLeDiff, Nat.reduceAdd, Nat.reduceLT])); (try simp +contextual (disch := omega) only [Z2]); (repeat' (first | (with_reducible intro h) | (with_reducible refine And.intro (by omega) ?_) | (with_reducible refine exP (by omega) ?_) | (with_reducible apply And.intro))))
theorem w55 (xs : List Nod) (hl : xs.length ≤ 1048576) (hx : ∀ x ∈ xs, x.kids.length ≤ 1048576) : Pure Tryz.prog 55 [NdS xs] (· = NdS xs) :=
  freezeS (fun _ => rfl) fun H => toSo mxd i55 (fun _ => rfl) (fun _ => rfl) (fun _ => rfl) (fun _ => rfl) xs hl (by decide) (fun x hm => w106 x (hx x hm)) H
theorem w16 (t : List Nod) (hl : t.length ≤ 1048576) (hx : ∀ x ∈ t, x.kids.length ≤ 1048576) : Pure Tryz.prog 16 [Tr t] (· = Tr t) := by
  refine gstart mxd i16 rfl (by simp) ?_; simp (maxSteps := 2000000) only [↓ S2, S2, vIte, ↓reduceIte, Int.reduceNe, Nat.reduceEqDiff, reduceCtorEq, Nat.reduceLeDiff, Nat.reduceAdd, Nat.reduceLT]
  intro r hr
  refine callS.eq (w55 _ hl hx) ?_
  ((try with_reducible refine mkQI ?_); (repeat ((first | (with_reducible refine mkQU ?_) | simp only [brGen]); try simp (maxSteps := 2000000) only [↓ S2, S2, vIte, ↓reduceIte, Int.reduceNe, Nat.reduceEqDiff, reduceCtorEq, Nat.reduceLeDiff, Nat.reduceAdd, Nat.reduceLT])); (try simp +contextual (disch := omega) only [Z2]); (repeat' (first | (with_reducible intro h) | (with_reducible refine And.intro (by omega) ?_) | (with_reducible refine exP (by omega) ?_) | (with_reducible apply And.intro))))
theorem w35 (xs ys : List Int) : Pure Tryz.prog 35 [IS xs, IS ys] (· = B (decide (xs = ys))) := by
  refine GCalls.lenA fun hl => ?_
  have hl := hl.1.1
  simp only [List.length_map, maxL] at hl
  refine gstart mxd i35 rfl (by simp) ?_; simp (maxSteps := 2000000) only [↓ S2, S2, vIte, ↓reduceIte, Int.reduceNe, Nat.reduceEqDiff, reduceCtorEq, Nat.reduceLeDiff, Nat.reduceAdd, Nat.reduceLT]
  ((try with_reducible refine mkQI ?_); (repeat ((first | (with_reducible refine mkQU ?_) | simp only [brGen]); try simp (maxSteps := 2000000) only [↓ S2, S2, vIte, ↓reduceIte, Int.reduceNe, Nat.reduceEqDiff, reduceCtorEq, Nat.reduceLeDiff, Nat.reduceAdd, Nat.reduceLT])); (try simp +contextual (disch := omega) only [Z2]); (repeat' (first | (with_reducible intro h) | (with_reducible refine And.intro (by omega) ?_) | (with_reducible refine exP (by omega) ?_) | (with_reducible apply And.intro))))
  rotate_left
  · simp; rintro rfl; exact h rfl
  refine wloop mxd (ι := { i : Nat // i ≤ xs.length ∧ xs.take i = ys.take i }) (fun i => [(0, IS xs), (1, IS ys), (5, I i.1)]) (fun _ => []) (fun i => xs.length - i.1) ⟨0, by simp⟩ (by simp [E2]) rfl ?_
  rintro ⟨i, hi, hp⟩
  ((try with_reducible refine mkQI ?_); (repeat ((first | (with_reducible refine mkQU ?_) | simp only [brGen]); try simp (maxSteps := 2000000) only [↓ S2, S2, vIte, ↓reduceIte, Int.reduceNe, Nat.reduceEqDiff, reduceCtorEq, Nat.reduceLeDiff, Nat.reduceAdd, Nat.reduceLT])); (try simp +contextual (disch := omega) only [Z2]); (repeat' (first | (with_reducible intro h) | (with_reducible refine And.intro (by omega) ?_) | (with_reducible refine exP (by omega) ?_) | (with_reducible apply And.intro))))
  · exact nx ⟨i + 1, by omega, take_eq_step hp (by omega) (by omega) h⟩ (by simp; omega) (by simp [E2]) rfl
  · simp; rintro rfl; simp at h
  · have : i = xs.length := by omega
    subst this
    rw [List.take_of_length_le (by omega), List.take_of_length_le (by omega)] at hp
    simp [hp]
theorem w119 (x y : Nod) : Pure Tryz.prog 119 [Nd x, Nd y] (· = B (decide (x = y))) := by
  refine gstart mxd i119 rfl (by simp) ?_; simp (maxSteps := 2000000) only [↓ S2, S2, vIte, ↓reduceIte, Int.reduceNe, Nat.reduceEqDiff, reduceCtorEq, Nat.reduceLeDiff, Nat.reduceAdd, Nat.reduceLT]
  ((try with_reducible refine mkQI ?_); (repeat ((first | (with_reducible refine mkQU ?_) | simp only [brGen]); try simp (maxSteps := 2000000) only [↓ S2, S2, vIte, ↓reduceIte, Int.reduceNe, Nat.reduceEqDiff, reduceCtorEq, Nat.reduceLeDiff, Nat.reduceAdd, Nat.reduceLT])); (try simp +contextual (disch := omega) only [Z2]); (repeat' (first | (with_reducible intro h) | (with_reducible refine And.intro (by omega) ?_) | (with_reducible refine exP (by omega) ?_) | (with_reducible apply And.intro))))
  all_goals first
    | (simp [Nod.ext_iff, *]; done)
    | skip
  refine callS.eq (w35 _ _) ?_
  ((try with_reducible refine mkQI ?_); (repeat ((first | (with_reducible refine mkQU ?_) | simp only [brGen]); try simp (maxSteps := 2000000) only [↓ S2, S2, vIte, ↓reduceIte, Int.reduceNe, Nat.reduceEqDiff, reduceCtorEq, Nat.reduceLeDiff, Nat.reduceAdd, Nat.reduceLT])); (try simp +contextual (disch := omega) only [Z2]); (repeat' (first | (with_reducible intro h) | (with_reducible refine And.intro (by omega) ?_) | (with_reducible refine exP (by omega) ?_) | (with_reducible apply And.intro)))) <;> simp [Nod.ext_iff, *]
theorem w62 (xs ys : List Nod) : Pure Tryz.prog 62 [NdS xs, NdS ys] (· = B (decide (xs = ys))) :=
  eqS mxd i62 (fun _ => rfl) (fun _ => rfl) xs ys fun x _ y _ => w119 x y
theorem w21 (t u : List Nod) : Pure Tryz.prog 21 [Tr t, Tr u] (· = B (decide (t = u))) := by
  refine gstart mxd i21 rfl (by simp) ?_; simp (maxSteps := 2000000) only [↓ S2, S2, vIte, ↓reduceIte, Int.reduceNe, Nat.reduceEqDiff, reduceCtorEq, Nat.reduceLeDiff, Nat.reduceAdd, Nat.reduceLT]
  refine callS.eq (w62 _ _) ?_
  ((try with_reducible refine mkQI ?_); (repeat ((first | (with_reducible refine mkQU ?_) | simp only [brGen]); try simp (maxSteps := 2000000) only [↓ S2, S2, vIte, ↓reduceIte, Int.reduceNe, Nat.reduceEqDiff, reduceCtorEq, Nat.reduceLeDiff, Nat.reduceAdd, Nat.reduceLT])); (try simp +contextual (disch := omega) only [Z2]); (repeat' (first | (with_reducible intro h) | (with_reducible refine And.intro (by omega) ?_) | (with_reducible refine exP (by omega) ?_) | (with_reducible apply And.intro)))) <;> simp [*]
theorem w67 (x lo hi : Int) : Pure Tryz.prog 67 [I x, I lo, I hi] (· = B (decide (lo ≤ x ∧ x ≤ hi))) := by
  refine gstart mxd i67 rfl (by simp) ?_; simp (maxSteps := 2000000) only [↓ S2, S2, vIte, ↓reduceIte, Int.reduceNe, Nat.reduceEqDiff, reduceCtorEq, Nat.reduceLeDiff, Nat.reduceAdd, Nat.reduceLT]
  ((try with_reducible refine mkQI ?_); (repeat ((first | (with_reducible refine mkQU ?_) | simp only [brGen]); try simp (maxSteps := 2000000) only [↓ S2, S2, vIte, ↓reduceIte, Int.reduceNe, Nat.reduceEqDiff, reduceCtorEq, Nat.reduceLeDiff, Nat.reduceAdd, Nat.reduceLT])); (try simp +contextual (disch := omega) only [Z2]); (repeat' (first | (with_reducible intro h) | (with_reducible refine And.intro (by omega) ?_) | (with_reducible refine exP (by omega) ?_) | (with_reducible apply And.intro)))) <;> simp [*]
theorem w70 (x lo hi : Int) : Pure Tryz.prog 70 [I x, I lo, I hi] (· = B (decide (lo ≤ x ∧ x ≤ hi))) := by
  refine gstart mxd i70 rfl (by simp) ?_; simp (maxSteps := 2000000) only [↓ S2, S2, vIte, ↓reduceIte, Int.reduceNe, Nat.reduceEqDiff, reduceCtorEq, Nat.reduceLeDiff, Nat.reduceAdd, Nat.reduceLT]
  ((try with_reducible refine mkQI ?_); (repeat ((first | (with_reducible refine mkQU ?_) | simp only [brGen]); try simp (maxSteps := 2000000) only [↓ S2, S2, vIte, ↓reduceIte, Int.reduceNe, Nat.reduceEqDiff, reduceCtorEq, Nat.reduceLeDiff, Nat.reduceAdd, Nat.reduceLT])); (try simp +contextual (disch := omega) only [Z2]); (repeat' (first | (with_reducible intro h) | (with_reducible refine And.intro (by omega) ?_) | (with_reducible refine exP (by omega) ?_) | (with_reducible apply And.intro)))) <;> simp [*]
theorem w100 (t : List Nod) (id : Int) : Pure Tryz.prog 100 [Tr t, I id] (· = I (ixOf (fun y => decide (y.id = id)) t)) := by
  refine GCalls.lenA fun hl => ?_
  obtain ⟨hlen, _⟩ := lenTr hl.1
  refine gstart mxd i100 rfl (by simp) ?_; simp (maxSteps := 2000000) only [↓ S2, S2, vIte, ↓reduceIte, Int.reduceNe, Nat.reduceEqDiff, reduceCtorEq, Nat.reduceLeDiff, Nat.reduceAdd, Nat.reduceLT]
  refine wloop mxd (ι := { i : Nat // i ≤ t.length ∧ ∀ y ∈ t.take i, decide (y.id = id) = false }) (fun i => [(2, .rop 1 (Tr t)), (1, I id), (5, I i.1)]) (fun _ => []) (fun i => t.length - i.1) ⟨0, by simp⟩ (by simp [E2]) rfl ?_
  rintro ⟨i, hi, hn⟩
  ((try with_reducible refine mkQI ?_); (repeat ((first | (with_reducible refine mkQU ?_) | simp only [brGen]); try simp (maxSteps := 2000000) only [↓ S2, S2, vIte, ↓reduceIte, Int.reduceNe, Nat.reduceEqDiff, reduceCtorEq, Nat.reduceLeDiff, Nat.reduceAdd, Nat.reduceLT])); (try simp +contextual (disch := omega) only [Z2]); (repeat' (first | (with_reducible intro h) | (with_reducible refine And.intro (by omega) ?_) | (with_reducible refine exP (by omega) ?_) | (with_reducible apply And.intro))))
  · rw [ixOf_hit (by assumption) (by simp [h]) hn]
  · exact nx ⟨i + 1, by omega, take_step (by assumption) (by simp [h]) hn⟩ (by simp; omega) (by simp [E2]) rfl
  · have : i = t.length := by omega
    subst this
    rw [List.take_of_length_le (Nat.le_refl _)] at hn
    rw [ixOf_none hn]
theorem w184 (x : Nod) (id : Int) : Pure Tryz.prog 184 [Nd x, .rop 1 (I id)] (· = B (decide (x.id = id))) := by
  refine gstart mxd i184 rfl (by simp) ?_; simp (maxSteps := 2000000) only [↓ S2, S2, vIte, ↓reduceIte, Int.reduceNe, Nat.reduceEqDiff, reduceCtorEq, Nat.reduceLeDiff, Nat.reduceAdd, Nat.reduceLT]
  try ((try with_reducible refine mkQI ?_); (repeat ((first | (with_reducible refine mkQU ?_) | simp only [brGen]); try simp (maxSteps := 2000000) only [↓ S2, S2, vIte, ↓reduceIte, Int.reduceNe, Nat.reduceEqDiff, reduceCtorEq, Nat.reduceLeDiff, Nat.reduceAdd, Nat.reduceLT])); (try simp +contextual (disch := omega) only [Z2]); (repeat' (first | (with_reducible intro h) | (with_reducible refine And.intro (by omega) ?_) | (with_reducible refine exP (by omega) ?_) | (with_reducible apply And.intro))))
theorem w183 (t : List Nod) (f : Nat) (cs : List GV) (p : Nod → Bool) (hp : ∀ x ∈ t, Pure Tryz.prog f (Nd x :: cs) (· = B (p x))) :
    Pure Tryz.prog 183 [NdS t, .clo f cs] (· = I (ixOf p t)) := by
  refine GCalls.lenA fun hl => ?_
  have hlen := hl.1.1
  simp only [List.length_map, maxL] at hlen
  refine gstart mxd i183 rfl (by simp) ?_; simp (maxSteps := 2000000) only [↓ S2, S2, vIte, ↓reduceIte, Int.reduceNe, Nat.reduceEqDiff, reduceCtorEq, Nat.reduceLeDiff, Nat.reduceAdd, Nat.reduceLT]
  refine wloop mxd (ι := { i : Nat // i ≤ t.length ∧ ∀ y ∈ t.take i, p y = false }) (fun i => [(0, NdS t), (1, .clo f cs), (7, I t.length), (8, I i.1)]) (fun _ => []) (fun i => t.length - i.1) ⟨0, by simp⟩ (by simp [E2]) rfl ?_
  rintro ⟨i, hi, hn⟩
  ((try with_reducible refine mkQI ?_); (repeat ((first | (with_reducible refine mkQU ?_) | simp only [brGen]); try simp (maxSteps := 2000000) only [↓ S2, S2, vIte, ↓reduceIte, Int.reduceNe, Nat.reduceEqDiff, reduceCtorEq, Nat.reduceLeDiff, Nat.reduceAdd, Nat.reduceLT])); (try simp +contextual (disch := omega) only [Z2]); (repeat' (first | (with_reducible intro h) | (with_reducible refine And.intro (by omega) ?_) | (with_reducible refine exP (by omega) ?_) | (with_reducible apply And.intro))))
  · refine callS.eq (hp t[i] (List.getElem_mem _)) ?_
    ((try with_reducible refine mkQI ?_); (repeat ((first | (with_reducible refine mkQU ?_) | simp only [brGen]); try simp (maxSteps := 2000000) only [↓ S2, S2, vIte, ↓reduceIte, Int.reduceNe, Nat.reduceEqDiff, reduceCtorEq, Nat.reduceLeDiff, Nat.reduceAdd, Nat.reduceLT])); (try simp +contextual (disch := omega) only [Z2]); (repeat' (first | (with_reducible intro h) | (with_reducible refine And.intro (by omega) ?_) | (with_reducible refine exP (by omega) ?_) | (with_reducible apply And.intro))))
    · rw [ixOf_hit (by assumption) h hn]
    · exact nx ⟨i + 1, by omega, take_step (by assumption) h hn⟩ (by simp; omega) (by simp [E2]) rfl
  · have : i = t.length := by omega
    subst this
    rw [List.take_of_length_le (Nat.le_refl _)] at hn
    rw [ixOf_none hn]
theorem w108 (t : List Nod) (id : Int) : Pure Tryz.prog 108 [Tr t, I id] (· = I (ixOf (fun y => decide (y.id = id)) t)) := by
  refine gstart mxd i108 rfl (by simp) ?_; simp (maxSteps := 2000000) only [↓ S2, S2, vIte, ↓reduceIte, Int.reduceNe, Nat.reduceEqDiff, reduceCtorEq, Nat.reduceLeDiff, Nat.reduceAdd, Nat.reduceLT]
  refine callS.eq (w183 t _ _ _ fun x _ => w184 x id) ?_
  ((try with_reducible refine mkQI ?_); (repeat ((first | (with_reducible refine mkQU ?_) | simp only [brGen]); try simp (maxSteps := 2000000) only [↓ S2, S2, vIte, ↓reduceIte, Int.reduceNe, Nat.reduceEqDiff, reduceCtorEq, Nat.reduceLeDiff, Nat.reduceAdd, Nat.reduceLT])); (try simp +contextual (disch := omega) only [Z2]); (repeat' (first | (with_reducible intro h) | (with_reducible refine And.intro (by omega) ?_) | (with_reducible refine exP (by omega) ?_) | (with_reducible apply And.intro))))
end Go.Proofs.YtkepdhkomchlgaaGreat

namespace Go.Proofs.YtkepdhkomchlgaaGreat
open Go.Gh
set_option maxRecDepth 20000
set_option linter.unusedSimpArgs false
set_option linter.unusedVariables false
theorem w291 (x : Int × ByteArray) (left : Int) (h0 : 0 ≤ left) (h1 : left ≤ 1048576) (hx : x.2.size ≤ maxLen) : Pure Tryz.prog 291 [Occ x, I left] (· = I (szv left (wOcc x))) := by
  simp only [maxLen, size_chars] at hx
  refine gstart mxd i291 rfl (by simp) ?_; simp (maxSteps := 2000000) only [↓ S2, S2, vIte, ↓reduceIte, Int.reduceNe, Nat.reduceEqDiff, reduceCtorEq, Nat.reduceLeDiff, Nat.reduceAdd, Nat.reduceLT]
  ((try with_reducible refine mkQI ?_); (repeat ((first | (with_reducible refine mkQU ?_) | simp only [brGen]); try simp (maxSteps := 2000000) only [↓ S2, S2, vIte, ↓reduceIte, Int.reduceNe, Nat.reduceEqDiff, reduceCtorEq, Nat.reduceLeDiff, Nat.reduceAdd, Nat.reduceLT])); (try simp +contextual (disch := omega) only [Z2]); (repeat' (first | (with_reducible intro h) | (with_reducible refine And.intro (by omega) ?_) | (with_reducible refine exP (by omega) ?_) | (with_reducible apply And.intro)))) <;> (congr 2; simp only [szv, wOcc]; omega)
theorem w293 (x : Int × ByteArray) : Pure Tryz.prog 293 [Occ x] (· = Occ x) := by
  refine gstart mxd i293 rfl (by simp) ?_; simp (maxSteps := 2000000) only [↓ S2, S2, vIte, ↓reduceIte, Int.reduceNe, Nat.reduceEqDiff, reduceCtorEq, Nat.reduceLeDiff, Nat.reduceAdd, Nat.reduceLT]
  ((try with_reducible refine mkQI ?_); (repeat ((first | (with_reducible refine mkQU ?_) | simp only [brGen]); try simp (maxSteps := 2000000) only [↓ S2, S2, vIte, ↓reduceIte, Int.reduceNe, Nat.reduceEqDiff, reduceCtorEq, Nat.reduceLeDiff, Nat.reduceAdd, Nat.reduceLT])); (try simp +contextual (disch := omega) only [Z2]); (repeat' (first | (with_reducible intro h) | (with_reducible refine And.intro (by omega) ?_) | (with_reducible refine exP (by omega) ?_) | (with_reducible apply And.intro))))
theorem w300 (x y : Int × ByteArray) : Pure Tryz.prog 300 [Occ x, Occ y] (· = B (decide (x = y))) := by
  refine gstart mxd i300 rfl (by simp) ?_; simp (maxSteps := 2000000) only [↓ S2, S2, vIte, ↓reduceIte, Int.reduceNe, Nat.reduceEqDiff, reduceCtorEq, Nat.reduceLeDiff, Nat.reduceAdd, Nat.reduceLT]
  ((try with_reducible refine mkQI ?_); (repeat ((first | (with_reducible refine mkQU ?_) | simp only [brGen]); try simp (maxSteps := 2000000) only [↓ S2, S2, vIte, ↓reduceIte, Int.reduceNe, Nat.reduceEqDiff, reduceCtorEq, Nat.reduceLeDiff, Nat.reduceAdd, Nat.reduceLT])); (try simp +contextual (disch := omega) only [Z2]); (repeat' (first | (with_reducible intro h) | (with_reducible refine And.intro (by omega) ?_) | (with_reducible refine exP (by omega) ?_) | (with_reducible apply And.intro)))) <;> simp [Prod.ext_iff, *]
end Go.Proofs.YtkepdhkomchlgaaGreat

namespace Go.Proofs.YtkepdhkomchlgaaGreat
open Go.Gh
set_option maxRecDepth 20000
set_option linter.unusedSimpArgs false
set_option linter.unusedVariables false
theorem w292 : ∀ (e : Exp), okE e → ∀ left : Int, 0 ≤ left → left ≤ 1048576 → Pure Tryz.prog 292 [Ex e, I left] (· = I (szv left (wEx e))) := by
  refine Exp.indA fun e ih ho left h0 h1 => ?_
  obtain ⟨hs, hm, ha⟩ := okE_eq.1 ho
  simp only [maxLen, size_chars] at hs hm
  rw [Ex_eq]
  refine gstart mxd i292 rfl (by simp) ?_; simp (maxSteps := 2000000) only [↓ S2, S2, vIte, ↓reduceIte, Int.reduceNe, Nat.reduceEqDiff, reduceCtorEq, Nat.reduceLeDiff, Nat.reduceAdd, Nat.reduceLT]
  ((try with_reducible refine mkQI ?_); (repeat ((first | (with_reducible refine mkQU ?_) | simp only [brGen]); try simp (maxSteps := 2000000) only [↓ S2, S2, vIte, ↓reduceIte, Int.reduceNe, Nat.reduceEqDiff, reduceCtorEq, Nat.reduceLeDiff, Nat.reduceAdd, Nat.reduceLT])); (try simp +contextual (disch := omega) only [Z2]); (repeat' (first | (with_reducible intro h) | (with_reducible refine And.intro (by omega) ?_) | (with_reducible refine exP (by omega) ?_) | (with_reducible apply And.intro))))
  · congr 2; rw [wEx_eq]; simp only [szv]; omega
  · congr 2; rw [wEx_eq]; simp only [szv]; omega
  refine callS.eq (szS mxd wEx i320 isAgg_Ex geR_Ex e.args _ (by omega) (by omega) fun a ham l a0 a1 => ih a ham (ha a ham) l a0 a1) ?_
  ((try with_reducible refine mkQI ?_); (repeat ((first | (with_reducible refine mkQU ?_) | simp only [brGen]); try simp (maxSteps := 2000000) only [↓ S2, S2, vIte, ↓reduceIte, Int.reduceNe, Nat.reduceEqDiff, reduceCtorEq, Nat.reduceLeDiff, Nat.reduceAdd, Nat.reduceLT])); (try simp +contextual (disch := omega) only [Z2]); (repeat' (first | (with_reducible intro h) | (with_reducible refine And.intro (by omega) ?_) | (with_reducible refine exP (by omega) ?_) | (with_reducible apply And.intro)))) <;> (congr 2; rw [wEx_eq]; simp only [szv] at *; omega)
theorem w294 : ∀ (e : Exp), wEx e ≤ 1048576 → Pure Tryz.prog 294 [Ex e] (· = Ex e) := by
  refine Exp.indA fun e ih hw => ?_
  obtain ⟨hl, ha⟩ := args_small hw
  rw [Ex_eq]
  refine gstart mxd i294 rfl (by simp) ?_; simp (maxSteps := 2000000) only [↓ S2, S2, vIte, ↓reduceIte, Int.reduceNe, Nat.reduceEqDiff, reduceCtorEq, Nat.reduceLeDiff, Nat.reduceAdd, Nat.reduceLT]
  intro r hr
  refine callS.eq (freezeS view_Ex fun H => toSo mxd i321 isAgg_Ex geR_Ex gsize_Ex stor_Ex e.args hl (by decide) (fun a ham => ih a ham (ha a ham)) H) ?_
  ((try with_reducible refine mkQI ?_); (repeat ((first | (with_reducible refine mkQU ?_) | simp only [brGen]); try simp (maxSteps := 2000000) only [↓ S2, S2, vIte, ↓reduceIte, Int.reduceNe, Nat.reduceEqDiff, reduceCtorEq, Nat.reduceLeDiff, Nat.reduceAdd, Nat.reduceLT])); (try simp +contextual (disch := omega) only [Z2]); (repeat' (first | (with_reducible intro h) | (with_reducible refine And.intro (by omega) ?_) | (with_reducible refine exP (by omega) ?_) | (with_reducible apply And.intro))))
theorem w301 : ∀ (x y : Exp), Pure Tryz.prog 301 [Ex x, Ex y] (· = B (decide (x = y))) := by
  refine Exp.indA fun x ih y => ?_
  rw [Ex_eq, Ex_eq y]
  refine gstart mxd i301 rfl (by simp) ?_; simp (maxSteps := 2000000) only [↓ S2, S2, vIte, ↓reduceIte, Int.reduceNe, Nat.reduceEqDiff, reduceCtorEq, Nat.reduceLeDiff, Nat.reduceAdd, Nat.reduceLT]
  ((try with_reducible refine mkQI ?_); (repeat ((first | (with_reducible refine mkQU ?_) | simp only [brGen]); try simp (maxSteps := 2000000) only [↓ S2, S2, vIte, ↓reduceIte, Int.reduceNe, Nat.reduceEqDiff, reduceCtorEq, Nat.reduceLeDiff, Nat.reduceAdd, Nat.reduceLT])); (try simp +contextual (disch := omega) only [Z2]); (repeat' (first | (with_reducible intro h) | (with_reducible refine And.intro (by omega) ?_) | (with_reducible refine exP (by omega) ?_) | (with_reducible apply And.intro))))
  all_goals first
    | (simp [Exp.ext_iff, *]; done)
    | skip
  refine callS.eq (eqS mxd i323 isAgg_Ex geR_Ex x.args y.args fun a ha b _ => ih a ha b) ?_
  ((try with_reducible refine mkQI ?_); (repeat ((first | (with_reducible refine mkQU ?_) | simp only [brGen]); try simp (maxSteps := 2000000) only [↓ S2, S2, vIte, ↓reduceIte, Int.reduceNe, Nat.reduceEqDiff, reduceCtorEq, Nat.reduceLeDiff, Nat.reduceAdd, Nat.reduceLT])); (try simp +contextual (disch := omega) only [Z2]); (repeat' (first | (with_reducible intro h) | (with_reducible refine And.intro (by omega) ?_) | (with_reducible refine exP (by omega) ?_) | (with_reducible apply And.intro)))) <;> simp [Exp.ext_iff, *]
end Go.Proofs.YtkepdhkomchlgaaGreat

