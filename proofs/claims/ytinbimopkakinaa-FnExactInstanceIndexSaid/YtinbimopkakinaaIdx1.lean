/- The law FnExactInstanceIndex returns true whatever the input, and the input reads behind the call as before. No condition. -/
import Derived.Test.YtinbimopkakinaaLib2
import Derived.Test.YtinbimopkakinaaRows
import Derived.KernelRfl
/- The ghost code of functions, and that they are compiled so (printed by a program). -/
namespace Go.Proofs.Ytinbimopkakinaa
open Go.Gh

def g3 : GFun := ⟨⟨41, [3,4,7]⟩,
  (.seq (.reg [(.mk (some 2) none (.mov (.k (.val (.bool false)))))]) (.seq (.reg [(.mk (some 8) none (.mov (.t 0))), (.mk (some 9) none (.call false 10 [(.t 8)])), (.mk (some 3) none (.allocr 2)), (.mk (some 3) none
  (.stro 2 3 (.t 9)))]) (.seq (.reg [(.mk (some 10) none (.mov (.t 0))), (.mk (some 11) none (.call false 11 [(.t 10)])), (.mk (some 4) none (.allocr 2)), (.mk (some 4) none (.stro 2 4 (.t 11)))]) (.seq (.seq (.reg
  [(.mk (some 12) none (.load 2 true (.t 4))), (.mk (some 13) none (.load 2 true (.t 3))), (.mk (some 14) none (.call false 12 [(.t 12), (.t 13)])), (.mk (some 15) none (.not (.t 14)))]) (.cond 15 (.seq (.reg [(.mk
  (some 2) none (.mov (.k (.val (.bool false)))))]) .ret) .skip)) (.seq (.reg [(.mk (some 5) none (.mov (.k (.val (.int .i64 1)))))]) (.seq (.reg [(.mk (some 16) none (.load 2 true (.t 4))), (.mk (some 17) none (.mov
  (.t 5))), (.mk (some 18) none (.call false 13 [(.t 16), (.t 17)])), (.mk (some 5) none (.mov (.t 18)))]) (.seq (.reg [(.mk (some 6) none (.mov (.k (.val (.int .i64 1)))))]) (.seq (.reg [(.mk (some 19) none (.load 2
  true (.t 4))), (.mk (some 20) none (.mov (.t 6))), (.mk (some 21) none (.call false 14 [(.t 19), (.t 20)])), (.mk (some 6) none (.mov (.t 21)))]) (.seq (.seq (.reg [(.mk (some 22) none (.mov (.t 6))), (.mk (some 23)
  none (.bin .lss (.t 22) (.k (.val (.int .i64 0)))))]) (.cond 23 (.seq (.reg [(.mk (some 2) none (.mov (.k (.val (.bool false)))))]) .ret) .skip)) (.seq (.seq (.reg [(.mk (some 24) none (.mov (.t 6))), (.mk (some 25)
  none (.mov (.t 5))), (.mk (some 26) none (.bin .neq (.t 24) (.t 25)))]) (.cond 26 (.seq (.reg [(.mk (some 2) none (.mov (.k (.val (.bool false)))))]) .ret) .skip)) (.seq (.reg [(.mk (some 27) none (.mov (.t 0))), (.mk
  (some 28) none (.call false 11 [(.t 27)])), (.mk (some 7) none (.allocr 2)), (.mk (some 7) none (.stro 2 7 (.t 28)))]) (.seq (.seq (.reg [(.mk (some 29) none (.load 2 true (.t 7))), (.mk (some 30) none (.load 2 true
  (.t 3))), (.mk (some 31) none (.call false 12 [(.t 29), (.t 30)])), (.mk (some 32) none (.not (.t 31)))]) (.cond 32 (.seq (.reg [(.mk (some 2) none (.mov (.k (.val (.bool false)))))]) .ret) .skip)) (.seq (.reg [(.mk
  (some 6) none (.mov (.k (.val (.int .i64 1)))))]) (.seq (.reg [(.mk (some 33) none (.load 2 true (.t 4))), (.mk (some 34) none (.mov (.t 6))), (.mk (some 35) none (.call false 14 [(.t 33), (.t 34)])), (.mk (some 6)
  none (.mov (.t 35)))]) (.seq (.seq (.reg [(.mk (some 36) none (.mov (.t 6))), (.mk (some 37) none (.bin .lss (.t 36) (.k (.val (.int .i64 0)))))]) (.cond 37 (.seq (.reg [(.mk (some 2) none (.mov (.k (.val (.bool
  false)))))]) .ret) .skip)) (.seq (.seq (.reg [(.mk (some 38) none (.mov (.t 6))), (.mk (some 39) none (.mov (.t 5))), (.mk (some 40) none (.bin .neq (.t 38) (.t 39)))]) (.cond 40 (.seq (.reg [(.mk (some 2) none (.mov
  (.k (.val (.bool false)))))]) .ret) .skip)) (.seq (.reg [(.mk (some 2) none (.mov (.k (.val (.bool true)))))]) .ret))))))))))))))))),
  [(.t 2)]⟩
theorem i3 : IsFun Try.prog 3 g3 := ⟨Try.f3, _, [], Try.func3, by kernel_rfl, rfl, by kernel_rfl, by kernel_rfl, rfl⟩

def g10 : GFun := ⟨⟨11, [2]⟩,
  (.seq (.reg [(.mk (some 2) none (.allocr 2))]) (.seq (.seq (.reg [(.mk (some 3) none (.mov (.t 0))), (.mk (some 4) none (.call false 42 [(.t 3), (.k (.val (.int .i64 0))), (.k (.val (.int .i64 16)))])), (.mk (some 5)
  none (.not (.t 4)))]) (.cond 5 (.seq (.reg [(.mk (some 6) none (.build [(.val (.int .i64 0)), (.val (.slice none 0 0))] [])), (.mk (some 2) none (.stro 2 2 (.t 6)))]) .ret) .skip)) (.seq (.reg [(.mk (some 7) none
  (.mov (.t 0))), (.mk (some 8) none (.mov (.t 0))), (.mk (some 9) none (.mkslice 1 8 (.val (.int .i64 0)) (.t 8) (.t 8))), (.mk (some 10) none (.build [(.val (.int .i64 0)), (.val (.slice none 0 0))] [(0, (1, (.t 7))),
  (1, (1, (.t 9)))])), (.mk (some 2) none (.stro 2 2 (.t 10)))]) .ret))),
  [(.c 2 2 true)]⟩
theorem i10 : IsFun Try.prog 10 g10 := ⟨Try.f10, _, [], Try.func10, by kernel_rfl, rfl, by kernel_rfl, by kernel_rfl, rfl⟩

def g11 : GFun := ⟨⟨11, [2]⟩,
  (.seq (.reg [(.mk (some 2) none (.allocr 2))]) (.seq (.seq (.reg [(.mk (some 3) none (.mov (.t 0))), (.mk (some 4) none (.call false 43 [(.t 3), (.k (.val (.int .i64 0))), (.k (.val (.int .i64 16)))])), (.mk (some 5)
  none (.not (.t 4)))]) (.cond 5 (.seq (.reg [(.mk (some 6) none (.build [(.val (.int .i64 0)), (.val (.slice none 0 0))] [])), (.mk (some 2) none (.stro 2 2 (.t 6)))]) .ret) .skip)) (.seq (.reg [(.mk (some 7) none
  (.mov (.t 0))), (.mk (some 8) none (.mov (.t 0))), (.mk (some 9) none (.mkslice 1 8 (.val (.int .i64 0)) (.t 8) (.t 8))), (.mk (some 10) none (.build [(.val (.int .i64 0)), (.val (.slice none 0 0))] [(0, (1, (.t 7))),
  (1, (1, (.t 9)))])), (.mk (some 2) none (.stro 2 2 (.t 10)))]) .ret))),
  [(.c 2 2 true)]⟩
theorem i11 : IsFun Try.prog 11 g11 := ⟨Try.f11, _, [], Try.func11, by kernel_rfl, rfl, by kernel_rfl, by kernel_rfl, rfl⟩

def g12 : GFun := ⟨⟨16, [2,3]⟩,
  (.seq (.reg [(.mk (some 2) none (.boxro 2 (.t 0))), (.mk (some 3) none (.boxro 2 (.t 1))), (.mk (some 4) none (.mov (.k (.val (.bool false)))))]) (.seq (.seq (.reg [(.mk (some 5) none (.faddr 0 1 false (.t 2))), (.mk
  (some 6) none (.load 1 false (.t 5))), (.mk (some 7) none (.faddr 0 1 false (.t 3))), (.mk (some 8) none (.load 1 false (.t 7))), (.mk (some 9) none (.bin .neq (.t 6) (.t 8)))]) (.cond 9 (.seq (.reg [(.mk (some 4)
  none (.mov (.k (.val (.bool false)))))]) .ret) .skip)) (.seq (.seq (.reg [(.mk (some 10) none (.faddr 1 1 false (.t 2))), (.mk (some 11) none (.load 1 false (.t 10))), (.mk (some 12) none (.faddr 1 1 false (.t 3))),
  (.mk (some 13) none (.load 1 false (.t 12))), (.mk (some 14) none (.call false 44 [(.t 11), (.t 13)])), (.mk (some 15) none (.not (.t 14)))]) (.cond 15 (.seq (.reg [(.mk (some 4) none (.mov (.k (.val (.bool
  false)))))]) .ret) .skip)) (.seq (.reg [(.mk (some 4) none (.mov (.k (.val (.bool true)))))]) .ret)))),
  [(.t 4)]⟩
theorem i12 : IsFun Try.prog 12 g12 := ⟨Try.f12, _, [], Try.func12, by kernel_rfl, rfl, by kernel_rfl, by kernel_rfl, rfl⟩

def g13 : GFun := ⟨⟨10, [2]⟩,
  (.seq (.reg [(.mk (some 2) none (.boxro 2 (.t 0))), (.mk (some 4) none (.mov (.k (.val (.int .i64 0)))))]) (.seq (.reg [(.mk (some 5) none (.faddr 1 1 false (.t 2))), (.mk (some 6) none (.load 1 false (.t 5))), (.mk
  (some 7) none (.mov (.t 1))), (.mk (some 8) none (.call false 45 [(.t 6), (.t 7)])), (.mk (some 1) none (.mov (.t 8)))]) (.seq (.reg [(.mk (some 9) none (.mov (.t 1))), (.mk (some 4) none (.mov (.t 9)))]) .ret))),
  [(.t 4)]⟩
theorem i13 : IsFun Try.prog 13 g13 := ⟨Try.f13, _, [], Try.func13, by kernel_rfl, rfl, by kernel_rfl, by kernel_rfl, rfl⟩

def g14 : GFun := ⟨⟨12, [2]⟩,
  (.seq (.reg [(.mk (some 2) none (.boxro 2 (.t 0))), (.mk (some 4) none (.mov (.k (.val (.int .i64 0)))))]) (.seq (.reg [(.mk (some 5) none (.faddr 1 1 false (.t 2))), (.mk (some 6) none (.load 1 false (.t 5))), (.mk
  (some 7) none (.mov (.t 1))), (.mk (some 8) none (.call false 46 [(.t 6), (.t 7)])), (.mk (some 1) none (.mov (.t 8)))]) (.seq (.seq (.reg [(.mk (some 9) none (.mov (.t 1))), (.mk (some 10) none (.bin .lss (.t 9) (.k
  (.val (.int .i64 0)))))]) (.cond 10 (.seq (.reg [(.mk (some 4) none (.mov (.k (.val (.int .i64 (-1))))))]) .ret) .skip)) (.seq (.reg [(.mk (some 11) none (.mov (.t 1))), (.mk (some 4) none (.mov (.t 11)))]) .ret)))),
  [(.t 4)]⟩
theorem i14 : IsFun Try.prog 14 g14 := ⟨Try.f14, _, [], Try.func14, by kernel_rfl, rfl, by kernel_rfl, by kernel_rfl, rfl⟩

def g44 : GFun := ⟨⟨26, []⟩,
  (.seq (.reg [(.mk (some 4) none (.mov (.k (.val (.bool false)))))]) (.seq (.seq (.reg [(.mk (some 6) none (.mov (.t 0))), (.mk (some 7) none (.len (.t 6))), (.mk (some 8) none (.mov (.t 1))), (.mk (some 9) none (.len
  (.t 8))), (.mk (some 10) none (.bin .neq (.t 7) (.t 9)))]) (.cond 10 (.seq (.reg [(.mk (some 4) none (.mov (.k (.val (.bool false)))))]) .ret) .skip)) (.seq (.seq (.reg [(.mk (some 5) none (.mov (.k (.val (.int .i64
  0)))))]) (.block 0 (.loop (.seq (.seq (.reg [(.mk (some 11) none (.mov (.t 5))), (.mk (some 12) none (.mov (.t 0))), (.mk (some 13) none (.len (.t 12))), (.mk (some 14) none (.bin .lss (.t 11) (.t 13)))]) (.cond 14
  .skip (.exit 0))) (.seq (.block 1 (.seq (.reg [(.mk (some 17) none (.mov (.t 0))), (.mk (some 18) none (.mov (.t 5))), (.mk (some 19) none (.iaddr 1 (.t 17) (.t 18))), (.mk (some 21) none (.mov (.t 1))), (.mk (some
  22) none (.mov (.t 5))), (.mk (some 23) none (.iaddr 1 (.t 21) (.t 22))), (.mk (some 20) none (.load 1 false (.t 19))), (.mk (some 24) none (.load 1 false (.t 23))), (.mk (some 25) none (.bin .neq (.t 20) (.t 24)))])
  (.cond 25 (.seq (.reg [(.mk (some 4) none (.mov (.k (.val (.bool false)))))]) .ret) .skip))) (.reg [(.mk (some 15) none (.mov (.t 5))), (.mk (some 16) none (.bin .add (.t 15) (.k (.val (.int .i64 1))))), (.mk (some 5)
  none (.mov (.t 16)))])))))) (.seq (.reg [(.mk (some 4) none (.mov (.k (.val (.bool true)))))]) .ret)))),
  [(.t 4)]⟩
theorem i44 : IsFun Try.prog 44 g44 := ⟨Try.f44, _, [], Try.func44, by kernel_rfl, rfl, by kernel_rfl, by kernel_rfl, rfl⟩

def g45 : GFun := ⟨⟨19, []⟩,
  (.seq (.reg [(.mk (some 4) none (.mov (.k (.val (.int .i64 0)))))]) (.seq (.seq (.reg [(.mk (some 5) none (.mov (.k (.val (.int .i64 0)))))]) (.block 0 (.loop (.seq (.seq (.reg [(.mk (some 6) none (.mov (.t 5))), (.mk
  (some 7) none (.mov (.t 0))), (.mk (some 8) none (.len (.t 7))), (.mk (some 9) none (.bin .lss (.t 6) (.t 8)))]) (.cond 9 .skip (.exit 0))) (.seq (.block 1 (.seq (.reg [(.mk (some 12) none (.mov (.t 0))), (.mk (some
  13) none (.mov (.t 5))), (.mk (some 14) none (.mov (.t 1))), (.mk (some 15) none (.iaddr 1 (.t 12) (.t 13))), (.mk none none (.store 1 (.t 15) (.t 14)))]) (.reg [(.mk (some 16) none (.mov (.t 1))), (.mk (some 17) none
  (.bin .add (.t 16) (.k (.val (.int .i64 1))))), (.mk (some 1) none (.mov (.t 17)))]))) (.reg [(.mk (some 10) none (.mov (.t 5))), (.mk (some 11) none (.bin .add (.t 10) (.k (.val (.int .i64 1))))), (.mk (some 5) none
  (.mov (.t 11)))])))))) (.seq (.reg [(.mk (some 18) none (.mov (.t 1))), (.mk (some 4) none (.mov (.t 18)))]) .ret))),
  [(.t 4)]⟩
theorem i45 : IsFun Try.prog 45 g45 := ⟨Try.f45, _, [], Try.func45, by kernel_rfl, rfl, by kernel_rfl, by kernel_rfl, rfl⟩

def g46 : GFun := ⟨⟨21, []⟩,
  (.seq (.reg [(.mk (some 4) none (.mov (.k (.val (.int .i64 0)))))]) (.seq (.seq (.reg [(.mk (some 5) none (.mov (.k (.val (.int .i64 0)))))]) (.block 0 (.loop (.seq (.seq (.reg [(.mk (some 6) none (.mov (.t 5))), (.mk
  (some 7) none (.mov (.t 0))), (.mk (some 8) none (.len (.t 7))), (.mk (some 9) none (.bin .lss (.t 6) (.t 8)))]) (.cond 9 .skip (.exit 0))) (.seq (.block 1 (.seq (.seq (.reg [(.mk (some 12) none (.mov (.t 0))), (.mk
  (some 13) none (.mov (.t 5))), (.mk (some 14) none (.iaddr 1 (.t 12) (.t 13))), (.mk (some 15) none (.load 1 false (.t 14))), (.mk (some 16) none (.mov (.t 1))), (.mk (some 17) none (.bin .neq (.t 15) (.t 16)))])
  (.cond 17 (.seq (.reg [(.mk (some 4) none (.mov (.k (.val (.int .i64 (-1))))))]) .ret) .skip)) (.reg [(.mk (some 18) none (.mov (.t 1))), (.mk (some 19) none (.bin .add (.t 18) (.k (.val (.int .i64 1))))), (.mk (some
  1) none (.mov (.t 19)))]))) (.reg [(.mk (some 10) none (.mov (.t 5))), (.mk (some 11) none (.bin .add (.t 10) (.k (.val (.int .i64 1))))), (.mk (some 5) none (.mov (.t 11)))])))))) (.seq (.reg [(.mk (some 20) none
  (.mov (.t 1))), (.mk (some 4) none (.mov (.t 20)))]) .ret))),
  [(.t 4)]⟩
theorem i46 : IsFun Try.prog 46 g46 := ⟨Try.f46, _, [], Try.func46, by kernel_rfl, rfl, by kernel_rfl, by kernel_rfl, rfl⟩

def g42 : GFun := ⟨⟨15, []⟩,
  (.seq (.reg [(.mk (some 6) none (.mov (.k (.val (.bool false)))))]) (.seq (.reg [(.mk (some 7) none (.mov (.t 0))), (.mk (some 8) none (.mov (.t 1))), (.mk (some 9) none (.bin .geq (.t 7) (.t 8))), (.mk (some 10) none
  (.mov (.t 9))), (.mk (some 11) (some (10, true)) (.mov (.t 0))), (.mk (some 12) (some (10, true)) (.mov (.t 2))), (.mk (some 13) (some (10, true)) (.bin .leq (.t 11) (.t 12))), (.mk (some 14) none (.pick (.t 10) (.t
  13) (.k (.val (.bool false))))), (.mk (some 6) none (.mov (.t 14)))]) .ret)),
  [(.t 6)]⟩
theorem i42 : IsFun Try.prog 42 g42 := ⟨Try.f42, _, [], Try.func42, by kernel_rfl, rfl, by kernel_rfl, by kernel_rfl, rfl⟩

def g43 : GFun := ⟨⟨15, []⟩,
  (.seq (.reg [(.mk (some 6) none (.mov (.k (.val (.bool false)))))]) (.seq (.reg [(.mk (some 7) none (.mov (.t 0))), (.mk (some 8) none (.mov (.t 1))), (.mk (some 9) none (.bin .geq (.t 7) (.t 8))), (.mk (some 10) none
  (.mov (.t 9))), (.mk (some 11) (some (10, true)) (.mov (.t 0))), (.mk (some 12) (some (10, true)) (.mov (.t 2))), (.mk (some 13) (some (10, true)) (.bin .leq (.t 11) (.t 12))), (.mk (some 14) none (.pick (.t 10) (.t
  13) (.k (.val (.bool false))))), (.mk (some 6) none (.mov (.t 14)))]) .ret)),
  [(.t 6)]⟩
theorem i43 : IsFun Try.prog 43 g43 := ⟨Try.f43, _, [], Try.func43, by kernel_rfl, rfl, by kernel_rfl, by kernel_rfl, rfl⟩

end Go.Proofs.Ytinbimopkakinaa

/- The ghost code of functions, and that they are compiled so (printed by a program). -/
namespace Go.Proofs.Ytinbimopkakinaa
open Go.Gh

def g4 : GFun := ⟨⟨38, [3]⟩,
  (.seq (.reg [(.mk (some 3) none (.boxro 2 (.t 1))), (.mk (some 4) none (.mov (.k (.val (.bool false)))))]) (.seq (.reg [(.mk (some 5) none (.mov (.k (.val (.int .i64 1048576)))))]) (.seq (.reg [(.mk (some 9) none
  (.mov (.t 0))), (.mk (some 10) none (.mov (.t 5))), (.mk (some 11) none (.call false 15 [(.t 9), (.t 10)])), (.mk (some 5) none (.mov (.t 11)))]) (.seq (.seq (.reg [(.mk (some 12) none (.mov (.t 5))), (.mk (some 13)
  none (.bin .lss (.t 12) (.k (.val (.int .i64 0)))))]) (.cond 13 (.seq (.reg [(.mk (some 4) none (.mov (.k (.val (.bool true)))))]) .ret) .skip)) (.seq (.reg [(.mk (some 14) none (.load 2 true (.t 3))), (.mk (some 15)
  none (.mov (.t 5))), (.mk (some 16) none (.call false 16 [(.t 14), (.t 15)])), (.mk (some 5) none (.mov (.t 16)))]) (.seq (.seq (.reg [(.mk (some 17) none (.mov (.t 5))), (.mk (some 18) none (.bin .lss (.t 17) (.k
  (.val (.int .i64 0)))))]) (.cond 18 (.seq (.reg [(.mk (some 4) none (.mov (.k (.val (.bool true)))))]) .ret) .skip)) (.seq (.reg [(.mk (some 19) none (.mov (.t 0))), (.mk (some 20) none (.call true 18 [(.t 19)])),
  (.mk (some 21) none (.load 2 true (.t 3))), (.mk (some 22) none (.call true 19 [(.t 21)])), (.mk (some 23) none (.call true 17 [(.t 20), (.t 22)])), (.mk (some 6) none (.mov (.t 23)))]) (.seq (.reg [(.mk (some 24)
  none (.mov (.t 0))), (.mk (some 25) none (.call false 18 [(.t 24)])), (.mk (some 7) none (.mov (.t 25)))]) (.seq (.reg [(.mk (some 26) none (.mov (.t 7))), (.mk (some 27) none (.load 2 true (.t 3))), (.mk (some 28)
  none (.call false 19 [(.t 27)])), (.mk (some 29) none (.call false 20 [(.t 26), (.t 28)])), (.mk (some 8) none (.mov (.t 29)))]) (.seq (.seq (.reg [(.mk (some 30) none (.mov (.t 8))), (.mk (some 31) none (.mov (.t
  6))), (.mk (some 32) none (.bin .neq (.t 30) (.t 31)))]) (.cond 32 (.seq (.reg [(.mk (some 4) none (.mov (.k (.val (.bool false)))))]) .ret) .skip)) (.seq (.seq (.reg [(.mk (some 33) none (.mov (.t 7))), (.mk (some
  34) none (.mov (.t 0))), (.mk (some 35) none (.call false 18 [(.t 34)])), (.mk (some 36) none (.call false 21 [(.t 33), (.t 35)])), (.mk (some 37) none (.not (.t 36)))]) (.cond 37 (.seq (.reg [(.mk (some 4) none (.mov
  (.k (.val (.bool false)))))]) .ret) .skip)) (.seq (.reg [(.mk (some 4) none (.mov (.k (.val (.bool true)))))]) .ret)))))))))))),
  [(.t 4)]⟩
theorem i4 : IsFun Try.prog 4 g4 := ⟨Try.f4, _, [], Try.func4, by kernel_rfl, rfl, by kernel_rfl, by kernel_rfl, rfl⟩

def g5 : GFun := ⟨⟨45, [2,3,7,8]⟩,
  (.seq (.reg [(.mk (some 2) none (.boxro 2 (.t 0))), (.mk (some 3) none (.boxro 2 (.t 1))), (.mk (some 4) none (.mov (.k (.val (.bool false)))))]) (.seq (.reg [(.mk (some 5) none (.mov (.k (.val (.int .i64
  1048576)))))]) (.seq (.reg [(.mk (some 10) none (.load 2 true (.t 2))), (.mk (some 11) none (.mov (.t 5))), (.mk (some 12) none (.call false 22 [(.t 10), (.t 11)])), (.mk (some 5) none (.mov (.t 12)))]) (.seq (.seq
  (.reg [(.mk (some 13) none (.mov (.t 5))), (.mk (some 14) none (.bin .lss (.t 13) (.k (.val (.int .i64 0)))))]) (.cond 14 (.seq (.reg [(.mk (some 4) none (.mov (.k (.val (.bool true)))))]) .ret) .skip)) (.seq (.reg
  [(.mk (some 15) none (.load 2 true (.t 3))), (.mk (some 16) none (.mov (.t 5))), (.mk (some 17) none (.call false 22 [(.t 15), (.t 16)])), (.mk (some 5) none (.mov (.t 17)))]) (.seq (.seq (.reg [(.mk (some 18) none
  (.mov (.t 5))), (.mk (some 19) none (.bin .lss (.t 18) (.k (.val (.int .i64 0)))))]) (.cond 19 (.seq (.reg [(.mk (some 4) none (.mov (.k (.val (.bool true)))))]) .ret) .skip)) (.seq (.reg [(.mk (some 20) none (.load 2
  true (.t 2))), (.mk (some 21) none (.call true 24 [(.t 20)])), (.mk (some 22) none (.load 2 true (.t 3))), (.mk (some 23) none (.call true 24 [(.t 22)])), (.mk (some 24) none (.call true 23 [(.t 21), (.t 23)])), (.mk
  (some 6) none (.mov (.t 24)))]) (.seq (.reg [(.mk (some 25) none (.load 2 true (.t 2))), (.mk (some 26) none (.call false 24 [(.t 25)])), (.mk (some 7) none (.allocr 2)), (.mk (some 7) none (.stro 2 7 (.t 26)))])
  (.seq (.reg [(.mk (some 27) none (.load 2 true (.t 3))), (.mk (some 28) none (.call false 24 [(.t 27)])), (.mk (some 8) none (.allocr 2)), (.mk (some 8) none (.stro 2 8 (.t 28)))]) (.seq (.reg [(.mk (some 29) none
  (.load 2 true (.t 7))), (.mk (some 30) none (.load 2 true (.t 8))), (.mk (some 31) none (.call false 25 [(.t 29), (.t 30)])), (.mk (some 9) none (.mov (.t 31)))]) (.seq (.seq (.reg [(.mk (some 32) none (.mov (.t 9))),
  (.mk (some 33) none (.mov (.t 6))), (.mk (some 34) none (.beq true (.t 32) (.t 33)))]) (.cond 34 (.seq (.reg [(.mk (some 4) none (.mov (.k (.val (.bool false)))))]) .ret) .skip)) (.seq (.seq (.reg [(.mk (some 35) none
  (.load 2 true (.t 7))), (.mk (some 36) none (.load 2 true (.t 2))), (.mk (some 37) none (.call true 24 [(.t 36)])), (.mk (some 38) none (.call true 12 [(.t 35), (.t 37)])), (.mk (some 39) none (.not (.t 38)))]) (.cond
  39 (.seq (.reg [(.mk (some 4) none (.mov (.k (.val (.bool false)))))]) .ret) .skip)) (.seq (.seq (.reg [(.mk (some 40) none (.load 2 true (.t 8))), (.mk (some 41) none (.load 2 true (.t 3))), (.mk (some 42) none
  (.call true 24 [(.t 41)])), (.mk (some 43) none (.call true 12 [(.t 40), (.t 42)])), (.mk (some 44) none (.not (.t 43)))]) (.cond 44 (.seq (.reg [(.mk (some 4) none (.mov (.k (.val (.bool false)))))]) .ret) .skip))
  (.seq (.reg [(.mk (some 4) none (.mov (.k (.val (.bool true)))))]) .ret)))))))))))))),
  [(.t 4)]⟩
theorem i5 : IsFun Try.prog 5 g5 := ⟨Try.f5, _, [], Try.func5, by kernel_rfl, rfl, by kernel_rfl, by kernel_rfl, rfl⟩

def g6 : GFun := ⟨⟨38, [3]⟩,
  (.seq (.reg [(.mk (some 3) none (.boxro 2 (.t 1))), (.mk (some 4) none (.mov (.k (.val (.bool false)))))]) (.seq (.reg [(.mk (some 5) none (.mov (.k (.val (.int .i64 1048576)))))]) (.seq (.reg [(.mk (some 9) none
  (.mov (.t 0))), (.mk (some 10) none (.mov (.t 5))), (.mk (some 11) none (.call false 26 [(.t 9), (.t 10)])), (.mk (some 5) none (.mov (.t 11)))]) (.seq (.seq (.reg [(.mk (some 12) none (.mov (.t 5))), (.mk (some 13)
  none (.bin .lss (.t 12) (.k (.val (.int .i64 0)))))]) (.cond 13 (.seq (.reg [(.mk (some 4) none (.mov (.k (.val (.bool true)))))]) .ret) .skip)) (.seq (.reg [(.mk (some 14) none (.load 2 true (.t 3))), (.mk (some 15)
  none (.mov (.t 5))), (.mk (some 16) none (.call false 27 [(.t 14), (.t 15)])), (.mk (some 5) none (.mov (.t 16)))]) (.seq (.seq (.reg [(.mk (some 17) none (.mov (.t 5))), (.mk (some 18) none (.bin .lss (.t 17) (.k
  (.val (.int .i64 0)))))]) (.cond 18 (.seq (.reg [(.mk (some 4) none (.mov (.k (.val (.bool true)))))]) .ret) .skip)) (.seq (.reg [(.mk (some 19) none (.mov (.t 0))), (.mk (some 20) none (.call true 29 [(.t 19)])),
  (.mk (some 21) none (.load 2 true (.t 3))), (.mk (some 22) none (.call true 30 [(.t 21)])), (.mk (some 23) none (.call true 28 [(.t 20), (.t 22)])), (.mk (some 6) none (.mov (.t 23)))]) (.seq (.reg [(.mk (some 24)
  none (.mov (.t 0))), (.mk (some 25) none (.call false 29 [(.t 24)])), (.mk (some 7) none (.mov (.t 25)))]) (.seq (.reg [(.mk (some 26) none (.mov (.t 7))), (.mk (some 27) none (.load 2 true (.t 3))), (.mk (some 28)
  none (.call false 30 [(.t 27)])), (.mk (some 29) none (.call false 31 [(.t 26), (.t 28)])), (.mk (some 8) none (.mov (.t 29)))]) (.seq (.seq (.reg [(.mk (some 30) none (.mov (.t 8))), (.mk (some 31) none (.mov (.t
  6))), (.mk (some 32) none (.bin .neq (.t 30) (.t 31)))]) (.cond 32 (.seq (.reg [(.mk (some 4) none (.mov (.k (.val (.bool false)))))]) .ret) .skip)) (.seq (.seq (.reg [(.mk (some 33) none (.mov (.t 7))), (.mk (some
  34) none (.mov (.t 0))), (.mk (some 35) none (.call false 29 [(.t 34)])), (.mk (some 36) none (.call false 32 [(.t 33), (.t 35)])), (.mk (some 37) none (.not (.t 36)))]) (.cond 37 (.seq (.reg [(.mk (some 4) none (.mov
  (.k (.val (.bool false)))))]) .ret) .skip)) (.seq (.reg [(.mk (some 4) none (.mov (.k (.val (.bool true)))))]) .ret)))))))))))),
  [(.t 4)]⟩
theorem i6 : IsFun Try.prog 6 g6 := ⟨Try.f6, _, [], Try.func6, by kernel_rfl, rfl, by kernel_rfl, by kernel_rfl, rfl⟩

def g7 : GFun := ⟨⟨31, [2,7]⟩,
  (.seq (.reg [(.mk (some 2) none (.boxro 1 (.t 0))), (.mk (some 4) none (.mov (.k (.val (.bool false)))))]) (.seq (.reg [(.mk (some 5) none (.mov (.k (.val (.int .i64 1048576)))))]) (.seq (.reg [(.mk (some 9) none
  (.load 1 true (.t 2))), (.mk (some 10) none (.mov (.t 5))), (.mk (some 11) none (.call false 33 [(.t 9), (.t 10)])), (.mk (some 5) none (.mov (.t 11)))]) (.seq (.seq (.reg [(.mk (some 12) none (.mov (.t 5))), (.mk
  (some 13) none (.bin .lss (.t 12) (.k (.val (.int .i64 0)))))]) (.cond 13 (.seq (.reg [(.mk (some 4) none (.mov (.k (.val (.bool true)))))]) .ret) .skip)) (.seq (.reg [(.mk (some 14) none (.load 1 true (.t 2))), (.mk
  (some 15) none (.call false 35 [(.t 14)])), (.mk (some 16) none (.mov (.t 1))), (.mk (some 17) none (.call false 34 [(.t 15), (.t 16)])), (.mk (some 6) none (.mov (.t 17)))]) (.seq (.reg [(.mk (some 18) none (.load 1
  true (.t 2))), (.mk (some 19) none (.call false 35 [(.t 18)])), (.mk (some 7) none (.allocr 1)), (.mk (some 7) none (.stro 1 7 (.t 19)))]) (.seq (.reg [(.mk (some 20) none (.load 1 true (.t 7))), (.mk (some 21) none
  (.mov (.t 1))), (.mk (some 22) none (.call false 36 [(.t 20), (.t 21)])), (.mk (some 8) none (.mov (.t 22)))]) (.seq (.seq (.reg [(.mk (some 23) none (.mov (.t 8))), (.mk (some 24) none (.mov (.t 6))), (.mk (some 25)
  none (.bin .neq (.t 23) (.t 24)))]) (.cond 25 (.seq (.reg [(.mk (some 4) none (.mov (.k (.val (.bool false)))))]) .ret) .skip)) (.seq (.seq (.reg [(.mk (some 26) none (.load 1 true (.t 7))), (.mk (some 27) none (.load
  1 true (.t 2))), (.mk (some 28) none (.call true 35 [(.t 27)])), (.mk (some 29) none (.call true 37 [(.t 26), (.t 28)])), (.mk (some 30) none (.not (.t 29)))]) (.cond 30 (.seq (.reg [(.mk (some 4) none (.mov (.k (.val
  (.bool false)))))]) .ret) .skip)) (.seq (.reg [(.mk (some 4) none (.mov (.k (.val (.bool true)))))]) .ret)))))))))),
  [(.t 4)]⟩
theorem i7 : IsFun Try.prog 7 g7 := ⟨Try.f7, _, [], Try.func7, by kernel_rfl, rfl, by kernel_rfl, by kernel_rfl, rfl⟩

def g8 : GFun := ⟨⟨31, [2,7]⟩,
  (.seq (.reg [(.mk (some 2) none (.boxro 1 (.t 0))), (.mk (some 4) none (.mov (.k (.val (.bool false)))))]) (.seq (.reg [(.mk (some 5) none (.mov (.k (.val (.int .i64 1048576)))))]) (.seq (.reg [(.mk (some 9) none
  (.load 1 true (.t 2))), (.mk (some 10) none (.mov (.t 5))), (.mk (some 11) none (.call false 33 [(.t 9), (.t 10)])), (.mk (some 5) none (.mov (.t 11)))]) (.seq (.seq (.reg [(.mk (some 12) none (.mov (.t 5))), (.mk
  (some 13) none (.bin .lss (.t 12) (.k (.val (.int .i64 0)))))]) (.cond 13 (.seq (.reg [(.mk (some 4) none (.mov (.k (.val (.bool true)))))]) .ret) .skip)) (.seq (.reg [(.mk (some 14) none (.load 1 true (.t 2))), (.mk
  (some 15) none (.call false 35 [(.t 14)])), (.mk (some 16) none (.mov (.t 1))), (.mk (some 17) none (.call false 38 [(.t 15), (.t 16)])), (.mk (some 6) none (.mov (.t 17)))]) (.seq (.reg [(.mk (some 18) none (.load 1
  true (.t 2))), (.mk (some 19) none (.call false 35 [(.t 18)])), (.mk (some 7) none (.allocr 1)), (.mk (some 7) none (.stro 1 7 (.t 19)))]) (.seq (.reg [(.mk (some 20) none (.load 1 true (.t 7))), (.mk (some 21) none
  (.mov (.t 1))), (.mk (some 22) none (.call false 39 [(.t 20), (.t 21)])), (.mk (some 8) none (.mov (.t 22)))]) (.seq (.seq (.reg [(.mk (some 23) none (.mov (.t 8))), (.mk (some 24) none (.mov (.t 6))), (.mk (some 25)
  none (.bin .neq (.t 23) (.t 24)))]) (.cond 25 (.seq (.reg [(.mk (some 4) none (.mov (.k (.val (.bool false)))))]) .ret) .skip)) (.seq (.seq (.reg [(.mk (some 26) none (.load 1 true (.t 7))), (.mk (some 27) none (.load
  1 true (.t 2))), (.mk (some 28) none (.call true 35 [(.t 27)])), (.mk (some 29) none (.call true 37 [(.t 26), (.t 28)])), (.mk (some 30) none (.not (.t 29)))]) (.cond 30 (.seq (.reg [(.mk (some 4) none (.mov (.k (.val
  (.bool false)))))]) .ret) .skip)) (.seq (.reg [(.mk (some 4) none (.mov (.k (.val (.bool true)))))]) .ret)))))))))),
  [(.t 4)]⟩
theorem i8 : IsFun Try.prog 8 g8 := ⟨Try.f8, _, [], Try.func8, by kernel_rfl, rfl, by kernel_rfl, by kernel_rfl, rfl⟩

def g9 : GFun := ⟨⟨31, [2,7]⟩,
  (.seq (.reg [(.mk (some 2) none (.boxro 1 (.t 0))), (.mk (some 4) none (.mov (.k (.val (.bool false)))))]) (.seq (.reg [(.mk (some 5) none (.mov (.k (.val (.int .i64 1048576)))))]) (.seq (.reg [(.mk (some 9) none
  (.load 1 true (.t 2))), (.mk (some 10) none (.mov (.t 5))), (.mk (some 11) none (.call false 33 [(.t 9), (.t 10)])), (.mk (some 5) none (.mov (.t 11)))]) (.seq (.seq (.reg [(.mk (some 12) none (.mov (.t 5))), (.mk
  (some 13) none (.bin .lss (.t 12) (.k (.val (.int .i64 0)))))]) (.cond 13 (.seq (.reg [(.mk (some 4) none (.mov (.k (.val (.bool true)))))]) .ret) .skip)) (.seq (.reg [(.mk (some 14) none (.load 1 true (.t 2))), (.mk
  (some 15) none (.call false 35 [(.t 14)])), (.mk (some 16) none (.mov (.t 1))), (.mk (some 17) none (.call false 40 [(.t 15), (.t 16)])), (.mk (some 6) none (.mov (.t 17)))]) (.seq (.reg [(.mk (some 18) none (.load 1
  true (.t 2))), (.mk (some 19) none (.call false 35 [(.t 18)])), (.mk (some 7) none (.allocr 1)), (.mk (some 7) none (.stro 1 7 (.t 19)))]) (.seq (.reg [(.mk (some 20) none (.load 1 true (.t 7))), (.mk (some 21) none
  (.mov (.t 1))), (.mk (some 22) none (.call false 41 [(.t 20), (.t 21)])), (.mk (some 8) none (.mov (.t 22)))]) (.seq (.seq (.reg [(.mk (some 23) none (.mov (.t 8))), (.mk (some 24) none (.mov (.t 6))), (.mk (some 25)
  none (.bin .neq (.t 23) (.t 24)))]) (.cond 25 (.seq (.reg [(.mk (some 4) none (.mov (.k (.val (.bool false)))))]) .ret) .skip)) (.seq (.seq (.reg [(.mk (some 26) none (.load 1 true (.t 7))), (.mk (some 27) none (.load
  1 true (.t 2))), (.mk (some 28) none (.call true 35 [(.t 27)])), (.mk (some 29) none (.call true 37 [(.t 26), (.t 28)])), (.mk (some 30) none (.not (.t 29)))]) (.cond 30 (.seq (.reg [(.mk (some 4) none (.mov (.k (.val
  (.bool false)))))]) .ret) .skip)) (.seq (.reg [(.mk (some 4) none (.mov (.k (.val (.bool true)))))]) .ret)))))))))),
  [(.t 4)]⟩
theorem i9 : IsFun Try.prog 9 g9 := ⟨Try.f9, _, [], Try.func9, by kernel_rfl, rfl, by kernel_rfl, by kernel_rfl, rfl⟩

def g15 : GFun := ⟨⟨27, []⟩,
  (.seq (.reg [(.mk (some 4) none (.mov (.k (.val (.int .i64 0)))))]) (.seq (.reg [(.mk (some 6) none (.mov (.t 1))), (.mk (some 7) none (.mov (.t 0))), (.mk (some 8) none (.len (.t 7))), (.mk (some 9) none (.bin .sub
  (.t 6) (.t 8))), (.mk (some 1) none (.mov (.t 9)))]) (.seq (.seq (.reg [(.mk (some 10) none (.mov (.t 1))), (.mk (some 11) none (.bin .lss (.t 10) (.k (.val (.int .i64 0)))))]) (.cond 11 (.seq (.reg [(.mk (some 4)
  none (.mov (.k (.val (.int .i64 (-1))))))]) .ret) .skip)) (.seq (.seq (.reg [(.mk (some 5) none (.mov (.k (.val (.int .i64 0)))))]) (.block 0 (.loop (.seq (.seq (.reg [(.mk (some 12) none (.mov (.t 5))), (.mk (some
  13) none (.mov (.t 0))), (.mk (some 14) none (.len (.t 13))), (.mk (some 15) none (.bin .lss (.t 12) (.t 14)))]) (.cond 15 .skip (.exit 0))) (.seq (.block 1 (.seq (.reg [(.mk (some 18) none (.mov (.t 0))), (.mk (some
  19) none (.mov (.t 5))), (.mk (some 20) none (.iaddr 2 (.t 18) (.t 19))), (.mk (some 21) none (.load 2 true (.t 20))), (.mk (some 22) none (.mov (.t 1))), (.mk (some 23) none (.call false 16 [(.t 21), (.t 22)])), (.mk
  (some 1) none (.mov (.t 23)))]) (.seq (.reg [(.mk (some 24) none (.mov (.t 1))), (.mk (some 25) none (.bin .lss (.t 24) (.k (.val (.int .i64 0)))))]) (.cond 25 (.seq (.reg [(.mk (some 4) none (.mov (.k (.val (.int
  .i64 (-1))))))]) .ret) .skip)))) (.reg [(.mk (some 16) none (.mov (.t 5))), (.mk (some 17) none (.bin .add (.t 16) (.k (.val (.int .i64 1))))), (.mk (some 5) none (.mov (.t 17)))])))))) (.seq (.reg [(.mk (some 26)
  none (.mov (.t 1))), (.mk (some 4) none (.mov (.t 26)))]) .ret))))),
  [(.t 4)]⟩
theorem i15 : IsFun Try.prog 15 g15 := ⟨Try.f15, _, [], Try.func15, by kernel_rfl, rfl, by kernel_rfl, by kernel_rfl, rfl⟩

def g16 : GFun := ⟨⟨13, [2]⟩,
  (.seq (.reg [(.mk (some 2) none (.boxro 2 (.t 0))), (.mk (some 4) none (.mov (.k (.val (.int .i64 0)))))]) (.seq (.reg [(.mk (some 5) none (.mov (.t 1))), (.mk (some 6) none (.faddr 1 1 false (.t 2))), (.mk (some 7)
  none (.load 1 false (.t 6))), (.mk (some 8) none (.slen (.t 7))), (.mk (some 9) none (.bin .sub (.t 5) (.t 8))), (.mk (some 1) none (.mov (.t 9)))]) (.seq (.seq (.reg [(.mk (some 10) none (.mov (.t 1))), (.mk (some
  11) none (.bin .lss (.t 10) (.k (.val (.int .i64 0)))))]) (.cond 11 (.seq (.reg [(.mk (some 4) none (.mov (.k (.val (.int .i64 (-1))))))]) .ret) .skip)) (.seq (.reg [(.mk (some 12) none (.mov (.t 1))), (.mk (some 4)
  none (.mov (.t 12)))]) .ret)))),
  [(.t 4)]⟩
theorem i16 : IsFun Try.prog 16 g16 := ⟨Try.f16, _, [], Try.func16, by kernel_rfl, rfl, by kernel_rfl, by kernel_rfl, rfl⟩

def g17 : GFun := ⟨⟨19, [3]⟩,
  (.seq (.reg [(.mk (some 3) none (.boxro 2 (.t 1))), (.mk (some 4) none (.mov (.k (.val (.int .i64 0)))))]) (.seq (.seq (.reg [(.mk (some 5) none (.mov (.k (.val (.int .i64 0)))))]) (.block 0 (.loop (.seq (.seq (.reg
  [(.mk (some 6) none (.mov (.t 5))), (.mk (some 7) none (.mov (.t 0))), (.mk (some 8) none (.len (.t 7))), (.mk (some 9) none (.bin .lss (.t 6) (.t 8)))]) (.cond 9 .skip (.exit 0))) (.seq (.block 1 (.seq (.reg [(.mk
  (some 12) none (.mov (.t 0))), (.mk (some 13) none (.mov (.t 5))), (.mk (some 14) none (.iaddr 2 (.t 12) (.t 13))), (.mk (some 15) none (.load 2 true (.t 14))), (.mk (some 16) none (.load 2 true (.t 3))), (.mk (some
  17) none (.aeq false [1, 2] (.t 15) (.t 16)))]) (.cond 17 (.seq (.reg [(.mk (some 18) none (.mov (.t 5))), (.mk (some 4) none (.mov (.t 18)))]) .ret) .skip))) (.reg [(.mk (some 10) none (.mov (.t 5))), (.mk (some 11)
  none (.bin .add (.t 10) (.k (.val (.int .i64 1))))), (.mk (some 5) none (.mov (.t 11)))])))))) (.seq (.reg [(.mk (some 4) none (.mov (.k (.val (.int .i64 (-1))))))]) .ret))),
  [(.t 4)]⟩
theorem i17 : IsFun Try.prog 17 g17 := ⟨Try.f17, _, [], Try.func17, by kernel_rfl, rfl, by kernel_rfl, by kernel_rfl, rfl⟩

def g18 : GFun := ⟨⟨23, []⟩,
  (.seq (.reg [(.mk (some 2) none (.mov (.k (.val (.slice none 0 0)))))]) (.seq (.reg [(.mk (some 5) none (.mov (.t 0))), (.mk (some 6) none (.len (.t 5))), (.mk (some 7) none (.mkslice 2 24 (.agg [(.val (.int .i64 0)),
  (.val (.string (ByteArray.mk #[])))]) (.t 6) (.t 6))), (.mk (some 3) none (.mov (.t 7)))]) (.seq (.seq (.reg [(.mk (some 4) none (.mov (.k (.val (.int .i64 0)))))]) (.block 0 (.loop (.seq (.seq (.reg [(.mk (some 8)
  none (.mov (.t 4))), (.mk (some 9) none (.mov (.t 0))), (.mk (some 10) none (.len (.t 9))), (.mk (some 11) none (.bin .lss (.t 8) (.t 10)))]) (.cond 11 .skip (.exit 0))) (.seq (.block 1 (.reg [(.mk (some 14) none
  (.mov (.t 3))), (.mk (some 15) none (.mov (.t 4))), (.mk (some 16) none (.mov (.t 0))), (.mk (some 17) none (.mov (.t 4))), (.mk (some 18) none (.iaddr 2 (.t 16) (.t 17))), (.mk (some 19) none (.load 2 true (.t 18))),
  (.mk (some 20) none (.call false 19 [(.t 19)])), (.mk (some 21) none (.iaddr 2 (.t 14) (.t 15))), (.mk none none (.store 2 (.t 21) (.t 20)))])) (.reg [(.mk (some 12) none (.mov (.t 4))), (.mk (some 13) none (.bin .add
  (.t 12) (.k (.val (.int .i64 1))))), (.mk (some 4) none (.mov (.t 13)))])))))) (.seq (.reg [(.mk (some 22) none (.mov (.t 3))), (.mk (some 2) none (.mov (.t 22)))]) .ret)))),
  [(.t 2)]⟩
theorem i18 : IsFun Try.prog 18 g18 := ⟨Try.f18, _, [], Try.func18, by kernel_rfl, rfl, by kernel_rfl, by kernel_rfl, rfl⟩

def g19 : GFun := ⟨⟨11, [1,2]⟩,
  (.seq (.reg [(.mk (some 1) none (.boxro 2 (.t 0))), (.mk (some 2) none (.allocr 2))]) (.seq (.reg [(.mk (some 3) none (.alloc 2 (.agg [(.val (.int .i64 0)), (.val (.string (ByteArray.mk #[])))])))]) (.seq (.reg [(.mk
  (some 4) none (.faddr 0 1 false (.t 1))), (.mk (some 5) none (.load 1 false (.t 4))), (.mk (some 6) none (.faddr 0 1 false (.t 3))), (.mk none none (.store 1 (.t 6) (.t 5)))]) (.seq (.reg [(.mk (some 7) none (.faddr 1
  1 false (.t 1))), (.mk (some 8) none (.load 1 false (.t 7))), (.mk (some 9) none (.faddr 1 1 false (.t 3))), (.mk none none (.store 1 (.t 9) (.t 8)))]) (.seq (.reg [(.mk (some 10) none (.load 2 true (.t 3))), (.mk
  (some 2) none (.stro 2 2 (.t 10)))]) .ret))))),
  [(.c 2 2 true)]⟩
theorem i19 : IsFun Try.prog 19 g19 := ⟨Try.f19, _, [], Try.func19, by kernel_rfl, rfl, by kernel_rfl, by kernel_rfl, rfl⟩

def g20 : GFun := ⟨⟨8, [3]⟩,
  (.seq (.reg [(.mk (some 3) none (.boxro 2 (.t 1))), (.mk (some 4) none (.mov (.k (.val (.int .i64 0)))))]) (.seq (.reg [(.mk (some 5) none (.mov (.t 0))), (.mk (some 6) none (.load 2 true (.t 3))), (.mk (some 7) none
  (.call false 47 [(.t 5), (.t 6)])), (.mk (some 4) none (.mov (.t 7)))]) .ret)),
  [(.t 4)]⟩
theorem i20 : IsFun Try.prog 20 g20 := ⟨Try.f20, _, [], Try.func20, by kernel_rfl, rfl, by kernel_rfl, by kernel_rfl, rfl⟩

def g21 : GFun := ⟨⟨27, []⟩,
  (.seq (.reg [(.mk (some 4) none (.mov (.k (.val (.bool false)))))]) (.seq (.seq (.reg [(.mk (some 6) none (.mov (.t 0))), (.mk (some 7) none (.len (.t 6))), (.mk (some 8) none (.mov (.t 1))), (.mk (some 9) none (.len
  (.t 8))), (.mk (some 10) none (.bin .neq (.t 7) (.t 9)))]) (.cond 10 (.seq (.reg [(.mk (some 4) none (.mov (.k (.val (.bool false)))))]) .ret) .skip)) (.seq (.seq (.reg [(.mk (some 5) none (.mov (.k (.val (.int .i64
  0)))))]) (.block 0 (.loop (.seq (.seq (.reg [(.mk (some 11) none (.mov (.t 5))), (.mk (some 12) none (.mov (.t 0))), (.mk (some 13) none (.len (.t 12))), (.mk (some 14) none (.bin .lss (.t 11) (.t 13)))]) (.cond 14
  .skip (.exit 0))) (.seq (.block 1 (.seq (.reg [(.mk (some 17) none (.mov (.t 0))), (.mk (some 18) none (.mov (.t 5))), (.mk (some 19) none (.iaddr 2 (.t 17) (.t 18))), (.mk (some 21) none (.mov (.t 1))), (.mk (some
  22) none (.mov (.t 5))), (.mk (some 23) none (.iaddr 2 (.t 21) (.t 22))), (.mk (some 20) none (.load 2 true (.t 19))), (.mk (some 24) none (.load 2 true (.t 23))), (.mk (some 25) none (.call true 48 [(.t 20), (.t
  24)])), (.mk (some 26) none (.not (.t 25)))]) (.cond 26 (.seq (.reg [(.mk (some 4) none (.mov (.k (.val (.bool false)))))]) .ret) .skip))) (.reg [(.mk (some 15) none (.mov (.t 5))), (.mk (some 16) none (.bin .add (.t
  15) (.k (.val (.int .i64 1))))), (.mk (some 5) none (.mov (.t 16)))])))))) (.seq (.reg [(.mk (some 4) none (.mov (.k (.val (.bool true)))))]) .ret)))),
  [(.t 4)]⟩
theorem i21 : IsFun Try.prog 21 g21 := ⟨Try.f21, _, [], Try.func21, by kernel_rfl, rfl, by kernel_rfl, by kernel_rfl, rfl⟩

def g22 : GFun := ⟨⟨12, [2]⟩,
  (.seq (.reg [(.mk (some 2) none (.boxro 2 (.t 0))), (.mk (some 4) none (.mov (.k (.val (.int .i64 0)))))]) (.seq (.reg [(.mk (some 5) none (.faddr 1 1 false (.t 2))), (.mk (some 6) none (.load 1 false (.t 5))), (.mk
  (some 7) none (.mov (.t 1))), (.mk (some 8) none (.call false 49 [(.t 6), (.t 7)])), (.mk (some 1) none (.mov (.t 8)))]) (.seq (.seq (.reg [(.mk (some 9) none (.mov (.t 1))), (.mk (some 10) none (.bin .lss (.t 9) (.k
  (.val (.int .i64 0)))))]) (.cond 10 (.seq (.reg [(.mk (some 4) none (.mov (.k (.val (.int .i64 (-1))))))]) .ret) .skip)) (.seq (.reg [(.mk (some 11) none (.mov (.t 1))), (.mk (some 4) none (.mov (.t 11)))]) .ret)))),
  [(.t 4)]⟩
theorem i22 : IsFun Try.prog 22 g22 := ⟨Try.f22, _, [], Try.func22, by kernel_rfl, rfl, by kernel_rfl, by kernel_rfl, rfl⟩

def g23 : GFun := ⟨⟨17, [2,3]⟩,
  (.seq (.reg [(.mk (some 2) none (.boxro 2 (.t 0))), (.mk (some 3) none (.boxro 2 (.t 1))), (.mk (some 4) none (.mov (.k (.val (.bool false)))))]) (.seq (.reg [(.mk (some 5) none (.faddr 0 1 false (.t 2))), (.mk (some
  6) none (.load 1 false (.t 5))), (.mk (some 7) none (.faddr 0 1 false (.t 3))), (.mk (some 8) none (.load 1 false (.t 7))), (.mk (some 9) none (.bin .eql (.t 6) (.t 8))), (.mk (some 10) none (.mov (.t 9))), (.mk (some
  11) (some (10, true)) (.faddr 1 1 false (.t 2))), (.mk (some 12) (some (10, true)) (.load 1 false (.t 11))), (.mk (some 13) (some (10, true)) (.faddr 1 1 false (.t 3))), (.mk (some 14) (some (10, true)) (.load 1 false
  (.t 13))), (.mk (some 15) (some (10, true)) (.call false 50 [(.t 12), (.t 14)])), (.mk (some 16) none (.pick (.t 10) (.t 15) (.k (.val (.bool false))))), (.mk (some 4) none (.mov (.t 16)))]) .ret)),
  [(.t 4)]⟩
theorem i23 : IsFun Try.prog 23 g23 := ⟨Try.f23, _, [], Try.func23, by kernel_rfl, rfl, by kernel_rfl, by kernel_rfl, rfl⟩

def g24 : GFun := ⟨⟨12, [1,2]⟩,
  (.seq (.reg [(.mk (some 1) none (.boxro 2 (.t 0))), (.mk (some 2) none (.allocr 2))]) (.seq (.reg [(.mk (some 3) none (.alloc 2 (.agg [(.val (.int .i64 0)), (.val (.slice none 0 0))])))]) (.seq (.reg [(.mk (some 4)
  none (.faddr 0 1 false (.t 1))), (.mk (some 5) none (.load 1 false (.t 4))), (.mk (some 6) none (.faddr 0 1 false (.t 3))), (.mk none none (.store 1 (.t 6) (.t 5)))]) (.seq (.reg [(.mk (some 7) none (.faddr 1 1 false
  (.t 1))), (.mk (some 8) none (.load 1 false (.t 7))), (.mk (some 9) none (.call false 51 [(.t 8)])), (.mk (some 10) none (.faddr 1 1 false (.t 3))), (.mk none none (.store 1 (.t 10) (.t 9)))]) (.seq (.reg [(.mk (some
  11) none (.load 2 true (.t 3))), (.mk (some 2) none (.stro 2 2 (.t 11)))]) .ret))))),
  [(.c 2 2 true)]⟩
theorem i24 : IsFun Try.prog 24 g24 := ⟨Try.f24, _, [], Try.func24, by kernel_rfl, rfl, by kernel_rfl, by kernel_rfl, rfl⟩

def g25 : GFun := ⟨⟨17, [2,3]⟩,
  (.seq (.reg [(.mk (some 2) none (.boxro 2 (.t 0))), (.mk (some 3) none (.boxro 2 (.t 1))), (.mk (some 4) none (.mov (.k (.val (.bool false)))))]) (.seq (.reg [(.mk (some 5) none (.faddr 0 1 false (.t 2))), (.mk (some
  6) none (.load 1 false (.t 5))), (.mk (some 7) none (.faddr 0 1 false (.t 3))), (.mk (some 8) none (.load 1 false (.t 7))), (.mk (some 9) none (.bin .eql (.t 6) (.t 8))), (.mk (some 10) none (.mov (.t 9))), (.mk (some
  11) (some (10, true)) (.faddr 1 1 false (.t 2))), (.mk (some 12) (some (10, true)) (.load 1 false (.t 11))), (.mk (some 13) (some (10, true)) (.faddr 1 1 false (.t 3))), (.mk (some 14) (some (10, true)) (.load 1 false
  (.t 13))), (.mk (some 15) (some (10, true)) (.call false 52 [(.t 12), (.t 14)])), (.mk (some 16) none (.pick (.t 10) (.t 15) (.k (.val (.bool false))))), (.mk (some 4) none (.mov (.t 16)))]) .ret)),
  [(.t 4)]⟩
theorem i25 : IsFun Try.prog 25 g25 := ⟨Try.f25, _, [], Try.func25, by kernel_rfl, rfl, by kernel_rfl, by kernel_rfl, rfl⟩

def g26 : GFun := ⟨⟨27, []⟩,
  (.seq (.reg [(.mk (some 4) none (.mov (.k (.val (.int .i64 0)))))]) (.seq (.reg [(.mk (some 6) none (.mov (.t 1))), (.mk (some 7) none (.mov (.t 0))), (.mk (some 8) none (.len (.t 7))), (.mk (some 9) none (.bin .sub
  (.t 6) (.t 8))), (.mk (some 1) none (.mov (.t 9)))]) (.seq (.seq (.reg [(.mk (some 10) none (.mov (.t 1))), (.mk (some 11) none (.bin .lss (.t 10) (.k (.val (.int .i64 0)))))]) (.cond 11 (.seq (.reg [(.mk (some 4)
  none (.mov (.k (.val (.int .i64 (-1))))))]) .ret) .skip)) (.seq (.seq (.reg [(.mk (some 5) none (.mov (.k (.val (.int .i64 0)))))]) (.block 0 (.loop (.seq (.seq (.reg [(.mk (some 12) none (.mov (.t 5))), (.mk (some
  13) none (.mov (.t 0))), (.mk (some 14) none (.len (.t 13))), (.mk (some 15) none (.bin .lss (.t 12) (.t 14)))]) (.cond 15 .skip (.exit 0))) (.seq (.block 1 (.seq (.reg [(.mk (some 18) none (.mov (.t 0))), (.mk (some
  19) none (.mov (.t 5))), (.mk (some 20) none (.iaddr 3 (.t 18) (.t 19))), (.mk (some 21) none (.load 3 true (.t 20))), (.mk (some 22) none (.mov (.t 1))), (.mk (some 23) none (.call false 53 [(.t 21), (.t 22)])), (.mk
  (some 1) none (.mov (.t 23)))]) (.seq (.reg [(.mk (some 24) none (.mov (.t 1))), (.mk (some 25) none (.bin .lss (.t 24) (.k (.val (.int .i64 0)))))]) (.cond 25 (.seq (.reg [(.mk (some 4) none (.mov (.k (.val (.int
  .i64 (-1))))))]) .ret) .skip)))) (.reg [(.mk (some 16) none (.mov (.t 5))), (.mk (some 17) none (.bin .add (.t 16) (.k (.val (.int .i64 1))))), (.mk (some 5) none (.mov (.t 17)))])))))) (.seq (.reg [(.mk (some 26)
  none (.mov (.t 1))), (.mk (some 4) none (.mov (.t 26)))]) .ret))))),
  [(.t 4)]⟩
theorem i26 : IsFun Try.prog 26 g26 := ⟨Try.f26, _, [], Try.func26, by kernel_rfl, rfl, by kernel_rfl, by kernel_rfl, rfl⟩

def g27 : GFun := ⟨⟨13, [2]⟩,
  (.seq (.reg [(.mk (some 2) none (.boxro 2 (.t 0))), (.mk (some 4) none (.mov (.k (.val (.int .i64 0)))))]) (.seq (.reg [(.mk (some 5) none (.mov (.t 1))), (.mk (some 6) none (.faddr 1 1 false (.t 2))), (.mk (some 7)
  none (.load 1 false (.t 6))), (.mk (some 8) none (.slen (.t 7))), (.mk (some 9) none (.bin .sub (.t 5) (.t 8))), (.mk (some 1) none (.mov (.t 9)))]) (.seq (.seq (.reg [(.mk (some 10) none (.mov (.t 1))), (.mk (some
  11) none (.bin .lss (.t 10) (.k (.val (.int .i64 0)))))]) (.cond 11 (.seq (.reg [(.mk (some 4) none (.mov (.k (.val (.int .i64 (-1))))))]) .ret) .skip)) (.seq (.reg [(.mk (some 12) none (.mov (.t 1))), (.mk (some 4)
  none (.mov (.t 12)))]) .ret)))),
  [(.t 4)]⟩
theorem i27 : IsFun Try.prog 27 g27 := ⟨Try.f27, _, [], Try.func27, by kernel_rfl, rfl, by kernel_rfl, by kernel_rfl, rfl⟩

def g28 : GFun := ⟨⟨24, [3]⟩,
  (.seq (.reg [(.mk (some 3) none (.boxro 2 (.t 1))), (.mk (some 4) none (.mov (.k (.val (.int .i64 0)))))]) (.seq (.seq (.reg [(.mk (some 5) none (.mov (.k (.val (.int .i64 0)))))]) (.block 0 (.loop (.seq (.seq (.reg
  [(.mk (some 6) none (.mov (.t 5))), (.mk (some 7) none (.mov (.t 0))), (.mk (some 8) none (.len (.t 7))), (.mk (some 9) none (.bin .lss (.t 6) (.t 8)))]) (.cond 9 .skip (.exit 0))) (.seq (.block 1 (.seq (.reg [(.mk
  (some 12) none (.mov (.t 0))), (.mk (some 13) none (.mov (.t 5))), (.mk (some 14) none (.iaddr 3 (.t 12) (.t 13))), (.mk (some 15) none (.faddr 0 2 true (.t 14))), (.mk (some 16) none (.load 2 true (.t 15))), (.mk
  (some 17) none (.load 2 true (.t 3))), (.mk (some 18) none (.aeq false [1, 2] (.t 16) (.t 17)))]) (.cond 18 (.seq (.reg [(.mk (some 19) none (.mov (.t 0))), (.mk (some 20) none (.mov (.t 5))), (.mk (some 21) none
  (.iaddr 3 (.t 19) (.t 20))), (.mk (some 22) none (.faddr 2 1 false (.t 21))), (.mk (some 23) none (.load 1 false (.t 22))), (.mk (some 4) none (.mov (.t 23)))]) .ret) .skip))) (.reg [(.mk (some 10) none (.mov (.t
  5))), (.mk (some 11) none (.bin .add (.t 10) (.k (.val (.int .i64 1))))), (.mk (some 5) none (.mov (.t 11)))])))))) (.seq (.reg [(.mk (some 4) none (.mov (.k (.val (.int .i64 0)))))]) .ret))),
  [(.t 4)]⟩
theorem i28 : IsFun Try.prog 28 g28 := ⟨Try.f28, _, [], Try.func28, by kernel_rfl, rfl, by kernel_rfl, by kernel_rfl, rfl⟩

def g29 : GFun := ⟨⟨23, []⟩,
  (.seq (.reg [(.mk (some 2) none (.mov (.k (.val (.slice none 0 0)))))]) (.seq (.reg [(.mk (some 5) none (.mov (.t 0))), (.mk (some 6) none (.len (.t 5))), (.mk (some 7) none (.mkslice 3 32 (.agg [(.val (.int .i64 0)),
  (.val (.string (ByteArray.mk #[]))), (.val (.int .i64 0))]) (.t 6) (.t 6))), (.mk (some 3) none (.mov (.t 7)))]) (.seq (.seq (.reg [(.mk (some 4) none (.mov (.k (.val (.int .i64 0)))))]) (.block 0 (.loop (.seq (.seq
  (.reg [(.mk (some 8) none (.mov (.t 4))), (.mk (some 9) none (.mov (.t 0))), (.mk (some 10) none (.len (.t 9))), (.mk (some 11) none (.bin .lss (.t 8) (.t 10)))]) (.cond 11 .skip (.exit 0))) (.seq (.block 1 (.reg
  [(.mk (some 14) none (.mov (.t 3))), (.mk (some 15) none (.mov (.t 4))), (.mk (some 16) none (.mov (.t 0))), (.mk (some 17) none (.mov (.t 4))), (.mk (some 18) none (.iaddr 3 (.t 16) (.t 17))), (.mk (some 19) none
  (.load 3 true (.t 18))), (.mk (some 20) none (.call false 54 [(.t 19)])), (.mk (some 21) none (.iaddr 3 (.t 14) (.t 15))), (.mk none none (.store 3 (.t 21) (.t 20)))])) (.reg [(.mk (some 12) none (.mov (.t 4))), (.mk
  (some 13) none (.bin .add (.t 12) (.k (.val (.int .i64 1))))), (.mk (some 4) none (.mov (.t 13)))])))))) (.seq (.reg [(.mk (some 22) none (.mov (.t 3))), (.mk (some 2) none (.mov (.t 22)))]) .ret)))),
  [(.t 2)]⟩
theorem i29 : IsFun Try.prog 29 g29 := ⟨Try.f29, _, [], Try.func29, by kernel_rfl, rfl, by kernel_rfl, by kernel_rfl, rfl⟩

def g30 : GFun := ⟨⟨11, [1,2]⟩,
  (.seq (.reg [(.mk (some 1) none (.boxro 2 (.t 0))), (.mk (some 2) none (.allocr 2))]) (.seq (.reg [(.mk (some 3) none (.alloc 2 (.agg [(.val (.int .i64 0)), (.val (.string (ByteArray.mk #[])))])))]) (.seq (.reg [(.mk
  (some 4) none (.faddr 0 1 false (.t 1))), (.mk (some 5) none (.load 1 false (.t 4))), (.mk (some 6) none (.faddr 0 1 false (.t 3))), (.mk none none (.store 1 (.t 6) (.t 5)))]) (.seq (.reg [(.mk (some 7) none (.faddr 1
  1 false (.t 1))), (.mk (some 8) none (.load 1 false (.t 7))), (.mk (some 9) none (.faddr 1 1 false (.t 3))), (.mk none none (.store 1 (.t 9) (.t 8)))]) (.seq (.reg [(.mk (some 10) none (.load 2 true (.t 3))), (.mk
  (some 2) none (.stro 2 2 (.t 10)))]) .ret))))),
  [(.c 2 2 true)]⟩
theorem i30 : IsFun Try.prog 30 g30 := ⟨Try.f30, _, [], Try.func30, by kernel_rfl, rfl, by kernel_rfl, by kernel_rfl, rfl⟩

def g31 : GFun := ⟨⟨20, [3,6]⟩,
  (.seq (.reg [(.mk (some 3) none (.boxro 2 (.t 1))), (.mk (some 4) none (.mov (.k (.val (.int .i64 0)))))]) (.seq (.seq (.reg [(.mk (some 7) none (.mov (.t 0))), (.mk (some 8) none (.len (.t 7))), (.mk (some 9) none
  (.mov (.k (.val (.int .i64 0)))))]) (.block 0 (.loop (.seq (.reg [(.mk (some 10) none (.bin .lss (.t 9) (.t 8)))]) (.seq (.cond 10 .skip (.exit 0)) (.seq (.block 1 (.seq (.reg [(.mk (some 11) none (.iaddr 3 (.t 7) (.t
  9))), (.mk (some 12) none (.load 3 true (.t 11))), (.mk (some 6) none (.allocr 3)), (.mk (some 6) none (.stro 3 6 (.t 12)))]) (.seq (.reg [(.mk (some 13) none (.faddr 0 2 true (.t 6))), (.mk (some 14) none (.load 2
  true (.t 13))), (.mk (some 15) none (.load 2 true (.t 3))), (.mk (some 16) none (.aeq false [1, 2] (.t 14) (.t 15)))]) (.cond 16 (.seq (.reg [(.mk (some 17) none (.faddr 2 1 false (.t 6))), (.mk (some 18) none (.load
  1 false (.t 17))), (.mk (some 4) none (.mov (.t 18)))]) .ret) .skip)))) (.reg [(.mk (some 19) none (.bin .add (.t 9) (.k (.val (.int .i64 1))))), (.mk (some 9) none (.mov (.t 19)))]))))))) (.seq (.reg [(.mk (some 4)
  none (.mov (.k (.val (.int .i64 0)))))]) .ret))),
  [(.t 4)]⟩
theorem i31 : IsFun Try.prog 31 g31 := ⟨Try.f31, _, [], Try.func31, by kernel_rfl, rfl, by kernel_rfl, by kernel_rfl, rfl⟩

def g32 : GFun := ⟨⟨27, []⟩,
  (.seq (.reg [(.mk (some 4) none (.mov (.k (.val (.bool false)))))]) (.seq (.seq (.reg [(.mk (some 6) none (.mov (.t 0))), (.mk (some 7) none (.len (.t 6))), (.mk (some 8) none (.mov (.t 1))), (.mk (some 9) none (.len
  (.t 8))), (.mk (some 10) none (.bin .neq (.t 7) (.t 9)))]) (.cond 10 (.seq (.reg [(.mk (some 4) none (.mov (.k (.val (.bool false)))))]) .ret) .skip)) (.seq (.seq (.reg [(.mk (some 5) none (.mov (.k (.val (.int .i64
  0)))))]) (.block 0 (.loop (.seq (.seq (.reg [(.mk (some 11) none (.mov (.t 5))), (.mk (some 12) none (.mov (.t 0))), (.mk (some 13) none (.len (.t 12))), (.mk (some 14) none (.bin .lss (.t 11) (.t 13)))]) (.cond 14
  .skip (.exit 0))) (.seq (.block 1 (.seq (.reg [(.mk (some 17) none (.mov (.t 0))), (.mk (some 18) none (.mov (.t 5))), (.mk (some 19) none (.iaddr 3 (.t 17) (.t 18))), (.mk (some 21) none (.mov (.t 1))), (.mk (some
  22) none (.mov (.t 5))), (.mk (some 23) none (.iaddr 3 (.t 21) (.t 22))), (.mk (some 20) none (.load 3 true (.t 19))), (.mk (some 24) none (.load 3 true (.t 23))), (.mk (some 25) none (.call true 55 [(.t 20), (.t
  24)])), (.mk (some 26) none (.not (.t 25)))]) (.cond 26 (.seq (.reg [(.mk (some 4) none (.mov (.k (.val (.bool false)))))]) .ret) .skip))) (.reg [(.mk (some 15) none (.mov (.t 5))), (.mk (some 16) none (.bin .add (.t
  15) (.k (.val (.int .i64 1))))), (.mk (some 5) none (.mov (.t 16)))])))))) (.seq (.reg [(.mk (some 4) none (.mov (.k (.val (.bool true)))))]) .ret)))),
  [(.t 4)]⟩
theorem i32 : IsFun Try.prog 32 g32 := ⟨Try.f32, _, [], Try.func32, by kernel_rfl, rfl, by kernel_rfl, by kernel_rfl, rfl⟩

def g33 : GFun := ⟨⟨12, [2]⟩,
  (.seq (.reg [(.mk (some 2) none (.boxro 1 (.t 0))), (.mk (some 4) none (.mov (.k (.val (.int .i64 0)))))]) (.seq (.reg [(.mk (some 5) none (.faddr 0 1 false (.t 2))), (.mk (some 6) none (.load 1 false (.t 5))), (.mk
  (some 7) none (.mov (.t 1))), (.mk (some 8) none (.call false 56 [(.t 6), (.t 7)])), (.mk (some 1) none (.mov (.t 8)))]) (.seq (.seq (.reg [(.mk (some 9) none (.mov (.t 1))), (.mk (some 10) none (.bin .lss (.t 9) (.k
  (.val (.int .i64 0)))))]) (.cond 10 (.seq (.reg [(.mk (some 4) none (.mov (.k (.val (.int .i64 (-1))))))]) .ret) .skip)) (.seq (.reg [(.mk (some 11) none (.mov (.t 1))), (.mk (some 4) none (.mov (.t 11)))]) .ret)))),
  [(.t 4)]⟩
theorem i33 : IsFun Try.prog 33 g33 := ⟨Try.f33, _, [], Try.func33, by kernel_rfl, rfl, by kernel_rfl, by kernel_rfl, rfl⟩

def g34 : GFun := ⟨⟨22, [2]⟩,
  (.seq (.reg [(.mk (some 2) none (.boxro 1 (.t 0))), (.mk (some 4) none (.mov (.k (.val (.int .i64 0)))))]) (.seq (.seq (.reg [(.mk (some 5) none (.mov (.k (.val (.int .i64 0)))))]) (.block 0 (.loop (.seq (.seq (.reg
  [(.mk (some 6) none (.mov (.t 5))), (.mk (some 7) none (.faddr 0 1 false (.t 2))), (.mk (some 8) none (.load 1 false (.t 7))), (.mk (some 9) none (.len (.t 8))), (.mk (some 10) none (.bin .lss (.t 6) (.t 9)))]) (.cond
  10 .skip (.exit 0))) (.seq (.block 1 (.seq (.reg [(.mk (some 13) none (.faddr 0 1 false (.t 2))), (.mk (some 14) none (.load 1 false (.t 13))), (.mk (some 15) none (.mov (.t 5))), (.mk (some 16) none (.iaddr 6 (.t 14)
  (.t 15))), (.mk (some 17) none (.faddr 0 1 false (.t 16))), (.mk (some 18) none (.load 1 false (.t 17))), (.mk (some 19) none (.mov (.t 1))), (.mk (some 20) none (.bin .eql (.t 18) (.t 19)))]) (.cond 20 (.seq (.reg
  [(.mk (some 21) none (.mov (.t 5))), (.mk (some 4) none (.mov (.t 21)))]) .ret) .skip))) (.reg [(.mk (some 11) none (.mov (.t 5))), (.mk (some 12) none (.bin .add (.t 11) (.k (.val (.int .i64 1))))), (.mk (some 5)
  none (.mov (.t 12)))])))))) (.seq (.reg [(.mk (some 4) none (.mov (.k (.val (.int .i64 (-1))))))]) .ret))),
  [(.t 4)]⟩
theorem i34 : IsFun Try.prog 34 g34 := ⟨Try.f34, _, [], Try.func34, by kernel_rfl, rfl, by kernel_rfl, by kernel_rfl, rfl⟩

def g35 : GFun := ⟨⟨9, [1,2]⟩,
  (.seq (.reg [(.mk (some 1) none (.boxro 1 (.t 0))), (.mk (some 2) none (.allocr 1))]) (.seq (.reg [(.mk (some 3) none (.alloc 1 (.agg [(.val (.slice none 0 0))])))]) (.seq (.reg [(.mk (some 4) none (.faddr 0 1 false
  (.t 1))), (.mk (some 5) none (.load 1 false (.t 4))), (.mk (some 6) none (.call false 57 [(.t 5)])), (.mk (some 7) none (.faddr 0 1 false (.t 3))), (.mk none none (.store 1 (.t 7) (.t 6)))]) (.seq (.reg [(.mk (some 8)
  none (.load 1 true (.t 3))), (.mk (some 2) none (.stro 1 2 (.t 8)))]) .ret)))),
  [(.c 2 1 true)]⟩
theorem i35 : IsFun Try.prog 35 g35 := ⟨Try.f35, _, [], Try.func35, by kernel_rfl, rfl, by kernel_rfl, by kernel_rfl, rfl⟩

def g36 : GFun := ⟨⟨9, [2]⟩,
  (.seq (.reg [(.mk (some 2) none (.boxro 1 (.t 0))), (.mk (some 3) none (.box 1 (.t 1))), (.mk (some 4) none (.mov (.k (.val (.int .i64 0)))))]) (.seq (.reg [(.mk (some 5) none (.faddr 0 1 false (.t 2))), (.mk (some 6)
  none (.load 1 false (.t 5))), (.mk (some 7) none (.mkfn 59 [(.t 3)])), (.mk (some 8) none (.call false 58 [(.t 6), (.t 7)])), (.mk (some 4) none (.mov (.t 8)))]) .ret)),
  [(.t 4)]⟩
theorem i36 : IsFun Try.prog 36 g36 := ⟨Try.f36, _, [], Try.func36, by kernel_rfl, rfl, by kernel_rfl, by kernel_rfl, rfl⟩

def g37 : GFun := ⟨⟨11, [2,3]⟩,
  (.seq (.reg [(.mk (some 2) none (.boxro 1 (.t 0))), (.mk (some 3) none (.boxro 1 (.t 1))), (.mk (some 4) none (.mov (.k (.val (.bool false)))))]) (.seq (.seq (.reg [(.mk (some 5) none (.faddr 0 1 false (.t 2))), (.mk
  (some 6) none (.load 1 false (.t 5))), (.mk (some 7) none (.faddr 0 1 false (.t 3))), (.mk (some 8) none (.load 1 false (.t 7))), (.mk (some 9) none (.call false 60 [(.t 6), (.t 8)])), (.mk (some 10) none (.not (.t
  9)))]) (.cond 10 (.seq (.reg [(.mk (some 4) none (.mov (.k (.val (.bool false)))))]) .ret) .skip)) (.seq (.reg [(.mk (some 4) none (.mov (.k (.val (.bool true)))))]) .ret))),
  [(.t 4)]⟩
theorem i37 : IsFun Try.prog 37 g37 := ⟨Try.f37, _, [], Try.func37, by kernel_rfl, rfl, by kernel_rfl, by kernel_rfl, rfl⟩

def g38 : GFun := ⟨⟨35, [2]⟩,
  (.seq (.reg [(.mk (some 2) none (.boxro 1 (.t 0))), (.mk (some 4) none (.mov (.k (.val (.int .i64 0)))))]) (.seq (.seq (.reg [(.mk (some 6) none (.mov (.t 1))), (.mk (some 7) none (.faddr 0 1 false (.t 2))), (.mk
  (some 8) none (.load 1 false (.t 7))), (.mk (some 9) none (.len (.t 8))), (.mk (some 10) none (.bin .sub (.t 9) (.k (.val (.int .i64 1))))), (.mk (some 11) none (.call false 42 [(.t 6), (.k (.val (.int .i64 0))), (.t
  10)])), (.mk (some 12) none (.not (.t 11)))]) (.cond 12 (.seq (.reg [(.mk (some 4) none (.mov (.k (.val (.int .i64 0)))))]) .ret) .skip)) (.seq (.reg [(.mk (some 13) none (.mov (.t 1))), (.mk (some 14) none (.bin .add
  (.t 13) (.k (.val (.int .i64 1))))), (.mk (some 5) none (.mov (.t 14)))]) (.seq (.block 0 (.loop (.seq (.seq (.reg [(.mk (some 15) none (.mov (.t 5))), (.mk (some 16) none (.faddr 0 1 false (.t 2))), (.mk (some 17)
  none (.load 1 false (.t 16))), (.mk (some 18) none (.len (.t 17))), (.mk (some 19) none (.bin .lss (.t 15) (.t 18))), (.mk (some 20) none (.mov (.t 19))), (.mk (some 21) (some (20, true)) (.faddr 0 1 false (.t 2))),
  (.mk (some 22) (some (20, true)) (.load 1 false (.t 21))), (.mk (some 23) (some (20, true)) (.mov (.t 5))), (.mk (some 24) (some (20, true)) (.iaddr 6 (.t 22) (.t 23))), (.mk (some 25) (some (20, true)) (.faddr 1 1
  false (.t 24))), (.mk (some 26) (some (20, true)) (.load 1 false (.t 25))), (.mk (some 27) (some (20, true)) (.mov (.t 1))), (.mk (some 28) (some (20, true)) (.bin .geq (.t 26) (.t 27))), (.mk (some 29) none (.pick
  (.t 20) (.t 28) (.k (.val (.bool false)))))]) (.cond 29 .skip (.exit 0))) (.block 1 (.reg [(.mk (some 30) none (.mov (.t 5))), (.mk (some 31) none (.bin .add (.t 30) (.k (.val (.int .i64 1))))), (.mk (some 5) none
  (.mov (.t 31)))]))))) (.seq (.reg [(.mk (some 32) none (.mov (.t 5))), (.mk (some 33) none (.mov (.t 1))), (.mk (some 34) none (.bin .sub (.t 32) (.t 33))), (.mk (some 4) none (.mov (.t 34)))]) .ret))))),
  [(.t 4)]⟩
theorem i38 : IsFun Try.prog 38 g38 := ⟨Try.f38, _, [], Try.func38, by kernel_rfl, rfl, by kernel_rfl, by kernel_rfl, rfl⟩

def g39 : GFun := ⟨⟨32, [2]⟩,
  (.seq (.reg [(.mk (some 2) none (.boxro 1 (.t 0))), (.mk (some 4) none (.mov (.k (.val (.int .i64 0)))))]) (.seq (.seq (.reg [(.mk (some 6) none (.load 1 true (.t 2))), (.mk (some 7) none (.mov (.t 1))), (.mk (some 8)
  none (.call false 61 [(.t 6), (.t 7)])), (.mk (some 9) none (.not (.t 8)))]) (.cond 9 (.seq (.reg [(.mk (some 4) none (.mov (.k (.val (.int .i64 0)))))]) .ret) .skip)) (.seq (.reg [(.mk (some 10) none (.mov (.t 1))),
  (.mk (some 11) none (.bin .add (.t 10) (.k (.val (.int .i64 1))))), (.mk (some 5) none (.mov (.t 11)))]) (.seq (.block 0 (.loop (.seq (.seq (.reg [(.mk (some 12) none (.mov (.t 5))), (.mk (some 13) none (.faddr 0 1
  false (.t 2))), (.mk (some 14) none (.load 1 false (.t 13))), (.mk (some 15) none (.len (.t 14))), (.mk (some 16) none (.bin .lss (.t 12) (.t 15))), (.mk (some 17) none (.mov (.t 16))), (.mk (some 18) (some (17,
  true)) (.faddr 0 1 false (.t 2))), (.mk (some 19) (some (17, true)) (.load 1 false (.t 18))), (.mk (some 20) (some (17, true)) (.mov (.t 5))), (.mk (some 21) (some (17, true)) (.iaddr 6 (.t 19) (.t 20))), (.mk (some
  22) (some (17, true)) (.faddr 1 1 false (.t 21))), (.mk (some 23) (some (17, true)) (.load 1 false (.t 22))), (.mk (some 24) (some (17, true)) (.mov (.t 1))), (.mk (some 25) (some (17, true)) (.bin .geq (.t 23) (.t
  24))), (.mk (some 26) none (.pick (.t 17) (.t 25) (.k (.val (.bool false)))))]) (.cond 26 .skip (.exit 0))) (.block 1 (.reg [(.mk (some 27) none (.mov (.t 5))), (.mk (some 28) none (.bin .add (.t 27) (.k (.val (.int
  .i64 1))))), (.mk (some 5) none (.mov (.t 28)))]))))) (.seq (.reg [(.mk (some 29) none (.mov (.t 5))), (.mk (some 30) none (.mov (.t 1))), (.mk (some 31) none (.bin .sub (.t 29) (.t 30))), (.mk (some 4) none (.mov (.t
  31)))]) .ret))))),
  [(.t 4)]⟩
theorem i39 : IsFun Try.prog 39 g39 := ⟨Try.f39, _, [], Try.func39, by kernel_rfl, rfl, by kernel_rfl, by kernel_rfl, rfl⟩

def g40 : GFun := ⟨⟨81, [2]⟩,
  (.seq (.reg [(.mk (some 2) none (.boxro 1 (.t 0))), (.mk (some 4) none (.mov (.k (.val (.int .i64 0)))))]) (.seq (.seq (.reg [(.mk (some 9) none (.mov (.t 1))), (.mk (some 10) none (.faddr 0 1 false (.t 2))), (.mk
  (some 11) none (.load 1 false (.t 10))), (.mk (some 12) none (.len (.t 11))), (.mk (some 13) none (.bin .sub (.t 12) (.k (.val (.int .i64 1))))), (.mk (some 14) none (.call false 42 [(.t 9), (.k (.val (.int .i64 0))),
  (.t 13)])), (.mk (some 15) none (.not (.t 14)))]) (.cond 15 (.seq (.reg [(.mk (some 4) none (.mov (.k (.val (.int .i64 0)))))]) .ret) .skip)) (.seq (.reg [(.mk (some 16) none (.faddr 0 1 false (.t 2))), (.mk (some 17)
  none (.load 1 false (.t 16))), (.mk (some 18) none (.len (.t 17))), (.mk (some 19) none (.mkslice 1 8 (.val (.int .i64 0)) (.t 18) (.t 18))), (.mk (some 5) none (.mov (.t 19)))]) (.seq (.seq (.reg [(.mk (some 20) none
  (.faddr 0 1 false (.t 2))), (.mk (some 21) none (.load 1 false (.t 20))), (.mk (some 22) none (.len (.t 21))), (.mk (some 23) none (.bin .sub (.t 22) (.k (.val (.int .i64 1))))), (.mk (some 6) none (.mov (.t 23)))])
  (.block 0 (.loop (.seq (.seq (.reg [(.mk (some 24) none (.mov (.t 6))), (.mk (some 25) none (.mov (.t 1))), (.mk (some 26) none (.bin .geq (.t 24) (.t 25)))]) (.cond 26 .skip (.exit 0))) (.seq (.block 1 (.seq (.seq
  (.reg [(.mk (some 7) none (.mov (.k (.val (.int .i64 0)))))]) (.block 2 (.loop (.seq (.seq (.reg [(.mk (some 29) none (.mov (.t 7))), (.mk (some 30) none (.faddr 0 1 false (.t 2))), (.mk (some 31) none (.load 1 false
  (.t 30))), (.mk (some 32) none (.mov (.t 6))), (.mk (some 33) none (.iaddr 6 (.t 31) (.t 32))), (.mk (some 34) none (.faddr 5 1 false (.t 33))), (.mk (some 35) none (.load 1 false (.t 34))), (.mk (some 36) none (.len
  (.t 35))), (.mk (some 37) none (.bin .lss (.t 29) (.t 36)))]) (.cond 37 .skip (.exit 2))) (.seq (.block 3 (.seq (.reg [(.mk (some 40) none (.faddr 0 1 false (.t 2))), (.mk (some 41) none (.load 1 false (.t 40))), (.mk
  (some 42) none (.mov (.t 6))), (.mk (some 43) none (.iaddr 6 (.t 41) (.t 42))), (.mk (some 44) none (.faddr 5 1 false (.t 43))), (.mk (some 45) none (.load 1 false (.t 44))), (.mk (some 46) none (.mov (.t 7))), (.mk
  (some 47) none (.iaddr 1 (.t 45) (.t 46))), (.mk (some 48) none (.load 1 false (.t 47))), (.mk (some 8) none (.mov (.t 48)))]) (.seq (.reg [(.mk (some 49) none (.mov (.t 8))), (.mk (some 50) none (.mov (.t 6))), (.mk
  (some 51) none (.bin .add (.t 50) (.k (.val (.int .i64 1))))), (.mk (some 52) none (.faddr 0 1 false (.t 2))), (.mk (some 53) none (.load 1 false (.t 52))), (.mk (some 54) none (.len (.t 53))), (.mk (some 55) none
  (.bin .sub (.t 54) (.k (.val (.int .i64 1))))), (.mk (some 56) none (.call false 42 [(.t 49), (.t 51), (.t 55)]))]) (.cond 56 (.reg [(.mk (some 57) none (.mov (.t 5))), (.mk (some 58) none (.mov (.t 6))), (.mk (some
  59) none (.mov (.t 5))), (.mk (some 60) none (.mov (.t 6))), (.mk (some 61) none (.iaddr 1 (.t 59) (.t 60))), (.mk (some 63) none (.mov (.t 5))), (.mk (some 64) none (.mov (.t 8))), (.mk (some 65) none (.iaddr 1 (.t
  63) (.t 64))), (.mk (some 62) none (.load 1 false (.t 61))), (.mk (some 66) none (.load 1 false (.t 65))), (.mk (some 67) none (.call true 62 [(.t 62), (.t 66)])), (.mk (some 68) none (.iaddr 1 (.t 57) (.t 58))), (.mk
  none none (.store 1 (.t 68) (.t 67)))]) .skip)))) (.reg [(.mk (some 38) none (.mov (.t 7))), (.mk (some 39) none (.bin .add (.t 38) (.k (.val (.int .i64 1))))), (.mk (some 7) none (.mov (.t 39)))])))))) (.reg [(.mk
  (some 69) none (.mov (.t 5))), (.mk (some 70) none (.mov (.t 6))), (.mk (some 71) none (.mov (.t 5))), (.mk (some 72) none (.mov (.t 6))), (.mk (some 73) none (.iaddr 1 (.t 71) (.t 72))), (.mk (some 74) none (.load 1
  false (.t 73))), (.mk (some 75) none (.bin .add (.t 74) (.k (.val (.int .i64 1))))), (.mk (some 76) none (.iaddr 1 (.t 69) (.t 70))), (.mk none none (.store 1 (.t 76) (.t 75)))]))) (.reg [(.mk (some 27) none (.mov (.t
  6))), (.mk (some 28) none (.bin .sub (.t 27) (.k (.val (.int .i64 1))))), (.mk (some 6) none (.mov (.t 28)))])))))) (.seq (.reg [(.mk (some 77) none (.mov (.t 5))), (.mk (some 78) none (.mov (.t 1))), (.mk (some 79)
  none (.iaddr 1 (.t 77) (.t 78))), (.mk (some 80) none (.load 1 false (.t 79))), (.mk (some 4) none (.mov (.t 80)))]) .ret))))),
  [(.t 4)]⟩
theorem i40 : IsFun Try.prog 40 g40 := ⟨Try.f40, _, [], Try.func40, by kernel_rfl, rfl, by kernel_rfl, by kernel_rfl, rfl⟩

def g41 : GFun := ⟨⟨66, [2]⟩,
  (.seq (.reg [(.mk (some 2) none (.boxro 1 (.t 0))), (.mk (some 4) none (.mov (.k (.val (.int .i64 0)))))]) (.seq (.seq (.reg [(.mk (some 9) none (.load 1 true (.t 2))), (.mk (some 10) none (.mov (.t 1))), (.mk (some
  11) none (.call false 61 [(.t 9), (.t 10)])), (.mk (some 12) none (.not (.t 11)))]) (.cond 12 (.seq (.reg [(.mk (some 4) none (.mov (.k (.val (.int .i64 0)))))]) .ret) .skip)) (.seq (.reg [(.mk (some 13) none (.faddr
  0 1 false (.t 2))), (.mk (some 14) none (.load 1 false (.t 13))), (.mk (some 15) none (.len (.t 14))), (.mk (some 16) none (.mkslice 1 8 (.val (.int .i64 0)) (.t 15) (.t 15))), (.mk (some 5) none (.mov (.t 16)))])
  (.seq (.seq (.reg [(.mk (some 17) none (.faddr 0 1 false (.t 2))), (.mk (some 18) none (.load 1 false (.t 17))), (.mk (some 19) none (.len (.t 18))), (.mk (some 20) none (.bin .sub (.t 19) (.k (.val (.int .i64 1))))),
  (.mk (some 6) none (.mov (.t 20)))]) (.block 0 (.loop (.seq (.seq (.reg [(.mk (some 21) none (.mov (.t 6))), (.mk (some 22) none (.mov (.t 1))), (.mk (some 23) none (.bin .geq (.t 21) (.t 22)))]) (.cond 23 .skip
  (.exit 0))) (.seq (.block 1 (.seq (.reg [(.mk (some 26) none (.mov (.t 5))), (.mk (some 27) none (.mov (.t 6))), (.mk (some 28) none (.iaddr 1 (.t 26) (.t 27))), (.mk none none (.store 1 (.t 28) (.k (.val (.int .i64
  1)))))]) (.seq (.reg [(.mk (some 29) none (.faddr 0 1 false (.t 2))), (.mk (some 30) none (.load 1 false (.t 29))), (.mk (some 31) none (.mov (.t 6))), (.mk (some 32) none (.iaddr 6 (.t 30) (.t 31))), (.mk (some 33)
  none (.faddr 5 1 false (.t 32))), (.mk (some 34) none (.load 1 false (.t 33))), (.mk (some 35) none (.len (.t 34))), (.mk (some 36) none (.mov (.k (.val (.int .i64 0)))))]) (.block 2 (.loop (.seq (.reg [(.mk (some 37)
  none (.bin .lss (.t 36) (.t 35)))]) (.seq (.cond 37 .skip (.exit 2)) (.seq (.block 3 (.seq (.reg [(.mk (some 38) none (.iaddr 1 (.t 34) (.t 36))), (.mk (some 39) none (.load 1 false (.t 38))), (.mk (some 8) none (.mov
  (.t 39)))]) (.seq (.reg [(.mk (some 40) none (.mov (.t 8))), (.mk (some 41) none (.mov (.t 6))), (.mk (some 42) none (.bin .gtr (.t 40) (.t 41))), (.mk (some 43) none (.mov (.t 42))), (.mk (some 44) (some (43, true))
  (.load 1 true (.t 2))), (.mk (some 45) (some (43, true)) (.mov (.t 8))), (.mk (some 46) (some (43, true)) (.call false 61 [(.t 44), (.t 45)])), (.mk (some 47) none (.pick (.t 43) (.t 46) (.k (.val (.bool false)))))])
  (.cond 47 (.reg [(.mk (some 48) none (.mov (.t 5))), (.mk (some 49) none (.mov (.t 6))), (.mk (some 50) none (.mov (.t 5))), (.mk (some 51) none (.mov (.t 6))), (.mk (some 52) none (.iaddr 1 (.t 50) (.t 51))), (.mk
  (some 54) none (.mov (.t 5))), (.mk (some 55) none (.mov (.t 8))), (.mk (some 56) none (.iaddr 1 (.t 54) (.t 55))), (.mk (some 53) none (.load 1 false (.t 52))), (.mk (some 57) none (.load 1 false (.t 56))), (.mk
  (some 58) none (.bin .add (.t 57) (.k (.val (.int .i64 1))))), (.mk (some 59) none (.mx (.t 53) (.t 58))), (.mk (some 60) none (.iaddr 1 (.t 48) (.t 49))), (.mk none none (.store 1 (.t 60) (.t 59)))]) .skip)))) (.reg
  [(.mk (some 61) none (.bin .add (.t 36) (.k (.val (.int .i64 1))))), (.mk (some 36) none (.mov (.t 61)))]))))))))) (.reg [(.mk (some 24) none (.mov (.t 6))), (.mk (some 25) none (.bin .sub (.t 24) (.k (.val (.int .i64
  1))))), (.mk (some 6) none (.mov (.t 25)))])))))) (.seq (.reg [(.mk (some 62) none (.mov (.t 5))), (.mk (some 63) none (.mov (.t 1))), (.mk (some 64) none (.iaddr 1 (.t 62) (.t 63))), (.mk (some 65) none (.load 1
  false (.t 64))), (.mk (some 4) none (.mov (.t 65)))]) .ret))))),
  [(.t 4)]⟩
theorem i41 : IsFun Try.prog 41 g41 := ⟨Try.f41, _, [], Try.func41, by kernel_rfl, rfl, by kernel_rfl, by kernel_rfl, rfl⟩

def g47 : GFun := ⟨⟨19, [3]⟩,
  (.seq (.reg [(.mk (some 3) none (.boxro 2 (.t 1))), (.mk (some 4) none (.mov (.k (.val (.int .i64 0)))))]) (.seq (.seq (.reg [(.mk (some 6) none (.mov (.t 0))), (.mk (some 7) none (.len (.t 6))), (.mk (some 8) none
  (.mov (.k (.val (.int .i64 0)))))]) (.block 0 (.loop (.seq (.reg [(.mk (some 9) none (.bin .lss (.t 8) (.t 7)))]) (.seq (.cond 9 .skip (.exit 0)) (.seq (.block 1 (.seq (.reg [(.mk (some 10) none (.mov (.t 8))), (.mk
  (some 5) none (.mov (.t 10)))]) (.seq (.reg [(.mk (some 12) none (.mov (.t 0))), (.mk (some 13) none (.mov (.t 5))), (.mk (some 14) none (.iaddr 2 (.t 12) (.t 13))), (.mk (some 11) none (.load 2 true (.t 3))), (.mk
  (some 15) none (.load 2 true (.t 14))), (.mk (some 16) none (.aeq false [1, 2] (.t 11) (.t 15)))]) (.cond 16 (.seq (.reg [(.mk (some 17) none (.mov (.t 5))), (.mk (some 4) none (.mov (.t 17)))]) .ret) .skip)))) (.reg
  [(.mk (some 18) none (.bin .add (.t 8) (.k (.val (.int .i64 1))))), (.mk (some 8) none (.mov (.t 18)))]))))))) (.seq (.reg [(.mk (some 4) none (.mov (.k (.val (.int .i64 (-1))))))]) .ret))),
  [(.t 4)]⟩
theorem i47 : IsFun Try.prog 47 g47 := ⟨Try.f47, _, [], Try.func47, by kernel_rfl, rfl, by kernel_rfl, by kernel_rfl, rfl⟩

def g48 : GFun := ⟨⟨15, [2,3]⟩,
  (.seq (.reg [(.mk (some 2) none (.boxro 2 (.t 0))), (.mk (some 3) none (.boxro 2 (.t 1))), (.mk (some 4) none (.mov (.k (.val (.bool false)))))]) (.seq (.seq (.reg [(.mk (some 5) none (.faddr 0 1 false (.t 2))), (.mk
  (some 6) none (.load 1 false (.t 5))), (.mk (some 7) none (.faddr 0 1 false (.t 3))), (.mk (some 8) none (.load 1 false (.t 7))), (.mk (some 9) none (.bin .neq (.t 6) (.t 8)))]) (.cond 9 (.seq (.reg [(.mk (some 4)
  none (.mov (.k (.val (.bool false)))))]) .ret) .skip)) (.seq (.seq (.reg [(.mk (some 10) none (.faddr 1 1 false (.t 2))), (.mk (some 11) none (.load 1 false (.t 10))), (.mk (some 12) none (.faddr 1 1 false (.t 3))),
  (.mk (some 13) none (.load 1 false (.t 12))), (.mk (some 14) none (.bin .neq (.t 11) (.t 13)))]) (.cond 14 (.seq (.reg [(.mk (some 4) none (.mov (.k (.val (.bool false)))))]) .ret) .skip)) (.seq (.reg [(.mk (some 4)
  none (.mov (.k (.val (.bool true)))))]) .ret)))),
  [(.t 4)]⟩
theorem i48 : IsFun Try.prog 48 g48 := ⟨Try.f48, _, [], Try.func48, by kernel_rfl, rfl, by kernel_rfl, by kernel_rfl, rfl⟩

def g49 : GFun := ⟨⟨12, []⟩,
  (.seq (.reg [(.mk (some 4) none (.mov (.k (.val (.int .i64 0)))))]) (.seq (.reg [(.mk (some 5) none (.mov (.t 1))), (.mk (some 6) none (.mov (.t 0))), (.mk (some 7) none (.len (.t 6))), (.mk (some 8) none (.bin .sub
  (.t 5) (.t 7))), (.mk (some 1) none (.mov (.t 8)))]) (.seq (.seq (.reg [(.mk (some 9) none (.mov (.t 1))), (.mk (some 10) none (.bin .lss (.t 9) (.k (.val (.int .i64 0)))))]) (.cond 10 (.seq (.reg [(.mk (some 4) none
  (.mov (.k (.val (.int .i64 (-1))))))]) .ret) .skip)) (.seq (.reg [(.mk (some 11) none (.mov (.t 1))), (.mk (some 4) none (.mov (.t 11)))]) .ret)))),
  [(.t 4)]⟩
theorem i49 : IsFun Try.prog 49 g49 := ⟨Try.f49, _, [], Try.func49, by kernel_rfl, rfl, by kernel_rfl, by kernel_rfl, rfl⟩

def g50 : GFun := ⟨⟨26, []⟩,
  (.seq (.reg [(.mk (some 4) none (.mov (.k (.val (.bool false)))))]) (.seq (.seq (.reg [(.mk (some 6) none (.mov (.t 0))), (.mk (some 7) none (.len (.t 6))), (.mk (some 8) none (.mov (.t 1))), (.mk (some 9) none (.len
  (.t 8))), (.mk (some 10) none (.bin .neq (.t 7) (.t 9)))]) (.cond 10 (.seq (.reg [(.mk (some 4) none (.mov (.k (.val (.bool false)))))]) .ret) .skip)) (.seq (.seq (.reg [(.mk (some 5) none (.mov (.k (.val (.int .i64
  0)))))]) (.block 0 (.loop (.seq (.seq (.reg [(.mk (some 11) none (.mov (.t 5))), (.mk (some 12) none (.mov (.t 0))), (.mk (some 13) none (.len (.t 12))), (.mk (some 14) none (.bin .lss (.t 11) (.t 13)))]) (.cond 14
  .skip (.exit 0))) (.seq (.block 1 (.seq (.reg [(.mk (some 17) none (.mov (.t 0))), (.mk (some 18) none (.mov (.t 5))), (.mk (some 19) none (.iaddr 1 (.t 17) (.t 18))), (.mk (some 21) none (.mov (.t 1))), (.mk (some
  22) none (.mov (.t 5))), (.mk (some 23) none (.iaddr 1 (.t 21) (.t 22))), (.mk (some 20) none (.load 1 false (.t 19))), (.mk (some 24) none (.load 1 false (.t 23))), (.mk (some 25) none (.bin .neq (.t 20) (.t 24)))])
  (.cond 25 (.seq (.reg [(.mk (some 4) none (.mov (.k (.val (.bool false)))))]) .ret) .skip))) (.reg [(.mk (some 15) none (.mov (.t 5))), (.mk (some 16) none (.bin .add (.t 15) (.k (.val (.int .i64 1))))), (.mk (some 5)
  none (.mov (.t 16)))])))))) (.seq (.reg [(.mk (some 4) none (.mov (.k (.val (.bool true)))))]) .ret)))),
  [(.t 4)]⟩
theorem i50 : IsFun Try.prog 50 g50 := ⟨Try.f50, _, [], Try.func50, by kernel_rfl, rfl, by kernel_rfl, by kernel_rfl, rfl⟩

def g51 : GFun := ⟨⟨22, []⟩,
  (.seq (.reg [(.mk (some 2) none (.mov (.k (.val (.slice none 0 0)))))]) (.seq (.reg [(.mk (some 5) none (.mov (.t 0))), (.mk (some 6) none (.len (.t 5))), (.mk (some 7) none (.mkslice 1 8 (.val (.int .i64 0)) (.t 6)
  (.t 6))), (.mk (some 3) none (.mov (.t 7)))]) (.seq (.seq (.reg [(.mk (some 4) none (.mov (.k (.val (.int .i64 0)))))]) (.block 0 (.loop (.seq (.seq (.reg [(.mk (some 8) none (.mov (.t 4))), (.mk (some 9) none (.mov
  (.t 0))), (.mk (some 10) none (.len (.t 9))), (.mk (some 11) none (.bin .lss (.t 8) (.t 10)))]) (.cond 11 .skip (.exit 0))) (.seq (.block 1 (.reg [(.mk (some 14) none (.mov (.t 3))), (.mk (some 15) none (.mov (.t
  4))), (.mk (some 16) none (.mov (.t 0))), (.mk (some 17) none (.mov (.t 4))), (.mk (some 18) none (.iaddr 1 (.t 16) (.t 17))), (.mk (some 19) none (.load 1 false (.t 18))), (.mk (some 20) none (.iaddr 1 (.t 14) (.t
  15))), (.mk none none (.store 1 (.t 20) (.t 19)))])) (.reg [(.mk (some 12) none (.mov (.t 4))), (.mk (some 13) none (.bin .add (.t 12) (.k (.val (.int .i64 1))))), (.mk (some 4) none (.mov (.t 13)))])))))) (.seq (.reg
  [(.mk (some 21) none (.mov (.t 3))), (.mk (some 2) none (.mov (.t 21)))]) .ret)))),
  [(.t 2)]⟩
theorem i51 : IsFun Try.prog 51 g51 := ⟨Try.f51, _, [], Try.func51, by kernel_rfl, rfl, by kernel_rfl, by kernel_rfl, rfl⟩

def g52 : GFun := ⟨⟨26, []⟩,
  (.seq (.reg [(.mk (some 4) none (.mov (.k (.val (.bool false)))))]) (.seq (.seq (.reg [(.mk (some 6) none (.mov (.t 0))), (.mk (some 7) none (.len (.t 6))), (.mk (some 8) none (.mov (.t 1))), (.mk (some 9) none (.len
  (.t 8))), (.mk (some 10) none (.bin .neq (.t 7) (.t 9)))]) (.cond 10 (.seq (.reg [(.mk (some 4) none (.mov (.k (.val (.bool false)))))]) .ret) .skip)) (.seq (.seq (.reg [(.mk (some 11) none (.mov (.t 0))), (.mk (some
  12) none (.len (.t 11))), (.mk (some 13) none (.mov (.k (.val (.int .i64 0)))))]) (.block 0 (.loop (.seq (.reg [(.mk (some 14) none (.bin .lss (.t 13) (.t 12)))]) (.seq (.cond 14 .skip (.exit 0)) (.seq (.block 1 (.seq
  (.reg [(.mk (some 15) none (.mov (.t 13))), (.mk (some 5) none (.mov (.t 15)))]) (.seq (.reg [(.mk (some 16) none (.mov (.t 0))), (.mk (some 17) none (.mov (.t 5))), (.mk (some 18) none (.iaddr 1 (.t 16) (.t 17))),
  (.mk (some 20) none (.mov (.t 1))), (.mk (some 21) none (.mov (.t 5))), (.mk (some 22) none (.iaddr 1 (.t 20) (.t 21))), (.mk (some 19) none (.load 1 false (.t 18))), (.mk (some 23) none (.load 1 false (.t 22))), (.mk
  (some 24) none (.bin .neq (.t 19) (.t 23)))]) (.cond 24 (.seq (.reg [(.mk (some 4) none (.mov (.k (.val (.bool false)))))]) .ret) .skip)))) (.reg [(.mk (some 25) none (.bin .add (.t 13) (.k (.val (.int .i64 1))))),
  (.mk (some 13) none (.mov (.t 25)))]))))))) (.seq (.reg [(.mk (some 4) none (.mov (.k (.val (.bool true)))))]) .ret)))),
  [(.t 4)]⟩
theorem i52 : IsFun Try.prog 52 g52 := ⟨Try.f52, _, [], Try.func52, by kernel_rfl, rfl, by kernel_rfl, by kernel_rfl, rfl⟩

def g53 : GFun := ⟨⟨12, [2]⟩,
  (.seq (.reg [(.mk (some 2) none (.boxro 3 (.t 0))), (.mk (some 4) none (.mov (.k (.val (.int .i64 0)))))]) (.seq (.reg [(.mk (some 5) none (.faddr 0 2 true (.t 2))), (.mk (some 6) none (.load 2 true (.t 5))), (.mk
  (some 7) none (.mov (.t 1))), (.mk (some 8) none (.call false 27 [(.t 6), (.t 7)])), (.mk (some 1) none (.mov (.t 8)))]) (.seq (.seq (.reg [(.mk (some 9) none (.mov (.t 1))), (.mk (some 10) none (.bin .lss (.t 9) (.k
  (.val (.int .i64 0)))))]) (.cond 10 (.seq (.reg [(.mk (some 4) none (.mov (.k (.val (.int .i64 (-1))))))]) .ret) .skip)) (.seq (.reg [(.mk (some 11) none (.mov (.t 1))), (.mk (some 4) none (.mov (.t 11)))]) .ret)))),
  [(.t 4)]⟩
theorem i53 : IsFun Try.prog 53 g53 := ⟨Try.f53, _, [], Try.func53, by kernel_rfl, rfl, by kernel_rfl, by kernel_rfl, rfl⟩

def g54 : GFun := ⟨⟨12, [1,2]⟩,
  (.seq (.reg [(.mk (some 1) none (.boxro 3 (.t 0))), (.mk (some 2) none (.allocr 3))]) (.seq (.reg [(.mk (some 3) none (.alloc 3 (.agg [(.val (.int .i64 0)), (.val (.string (ByteArray.mk #[]))), (.val (.int .i64
  0))])))]) (.seq (.reg [(.mk (some 4) none (.faddr 0 2 true (.t 1))), (.mk (some 5) none (.load 2 true (.t 4))), (.mk (some 6) none (.call false 30 [(.t 5)])), (.mk (some 7) none (.faddr 0 2 true (.t 3))), (.mk none
  none (.store 2 (.t 7) (.t 6)))]) (.seq (.reg [(.mk (some 8) none (.faddr 2 1 false (.t 1))), (.mk (some 9) none (.load 1 false (.t 8))), (.mk (some 10) none (.faddr 2 1 false (.t 3))), (.mk none none (.store 1 (.t 10)
  (.t 9)))]) (.seq (.reg [(.mk (some 11) none (.load 3 true (.t 3))), (.mk (some 2) none (.stro 3 2 (.t 11)))]) .ret))))),
  [(.c 2 3 true)]⟩
theorem i54 : IsFun Try.prog 54 g54 := ⟨Try.f54, _, [], Try.func54, by kernel_rfl, rfl, by kernel_rfl, by kernel_rfl, rfl⟩

def g55 : GFun := ⟨⟨16, [2,3]⟩,
  (.seq (.reg [(.mk (some 2) none (.boxro 3 (.t 0))), (.mk (some 3) none (.boxro 3 (.t 1))), (.mk (some 4) none (.mov (.k (.val (.bool false)))))]) (.seq (.seq (.reg [(.mk (some 5) none (.faddr 0 2 true (.t 2))), (.mk
  (some 6) none (.load 2 true (.t 5))), (.mk (some 7) none (.faddr 0 2 true (.t 3))), (.mk (some 8) none (.load 2 true (.t 7))), (.mk (some 9) none (.call false 63 [(.t 6), (.t 8)])), (.mk (some 10) none (.not (.t
  9)))]) (.cond 10 (.seq (.reg [(.mk (some 4) none (.mov (.k (.val (.bool false)))))]) .ret) .skip)) (.seq (.seq (.reg [(.mk (some 11) none (.faddr 2 1 false (.t 2))), (.mk (some 12) none (.load 1 false (.t 11))), (.mk
  (some 13) none (.faddr 2 1 false (.t 3))), (.mk (some 14) none (.load 1 false (.t 13))), (.mk (some 15) none (.bin .neq (.t 12) (.t 14)))]) (.cond 15 (.seq (.reg [(.mk (some 4) none (.mov (.k (.val (.bool false)))))])
  .ret) .skip)) (.seq (.reg [(.mk (some 4) none (.mov (.k (.val (.bool true)))))]) .ret)))),
  [(.t 4)]⟩
theorem i55 : IsFun Try.prog 55 g55 := ⟨Try.f55, _, [], Try.func55, by kernel_rfl, rfl, by kernel_rfl, by kernel_rfl, rfl⟩

def g56 : GFun := ⟨⟨27, []⟩,
  (.seq (.reg [(.mk (some 4) none (.mov (.k (.val (.int .i64 0)))))]) (.seq (.reg [(.mk (some 6) none (.mov (.t 1))), (.mk (some 7) none (.mov (.t 0))), (.mk (some 8) none (.len (.t 7))), (.mk (some 9) none (.bin .sub
  (.t 6) (.t 8))), (.mk (some 1) none (.mov (.t 9)))]) (.seq (.seq (.reg [(.mk (some 10) none (.mov (.t 1))), (.mk (some 11) none (.bin .lss (.t 10) (.k (.val (.int .i64 0)))))]) (.cond 11 (.seq (.reg [(.mk (some 4)
  none (.mov (.k (.val (.int .i64 (-1))))))]) .ret) .skip)) (.seq (.seq (.reg [(.mk (some 5) none (.mov (.k (.val (.int .i64 0)))))]) (.block 0 (.loop (.seq (.seq (.reg [(.mk (some 12) none (.mov (.t 5))), (.mk (some
  13) none (.mov (.t 0))), (.mk (some 14) none (.len (.t 13))), (.mk (some 15) none (.bin .lss (.t 12) (.t 14)))]) (.cond 15 .skip (.exit 0))) (.seq (.block 1 (.seq (.reg [(.mk (some 18) none (.mov (.t 0))), (.mk (some
  19) none (.mov (.t 5))), (.mk (some 20) none (.iaddr 6 (.t 18) (.t 19))), (.mk (some 21) none (.load 6 true (.t 20))), (.mk (some 22) none (.mov (.t 1))), (.mk (some 23) none (.call false 64 [(.t 21), (.t 22)])), (.mk
  (some 1) none (.mov (.t 23)))]) (.seq (.reg [(.mk (some 24) none (.mov (.t 1))), (.mk (some 25) none (.bin .lss (.t 24) (.k (.val (.int .i64 0)))))]) (.cond 25 (.seq (.reg [(.mk (some 4) none (.mov (.k (.val (.int
  .i64 (-1))))))]) .ret) .skip)))) (.reg [(.mk (some 16) none (.mov (.t 5))), (.mk (some 17) none (.bin .add (.t 16) (.k (.val (.int .i64 1))))), (.mk (some 5) none (.mov (.t 17)))])))))) (.seq (.reg [(.mk (some 26)
  none (.mov (.t 1))), (.mk (some 4) none (.mov (.t 26)))]) .ret))))),
  [(.t 4)]⟩
theorem i56 : IsFun Try.prog 56 g56 := ⟨Try.f56, _, [], Try.func56, by kernel_rfl, rfl, by kernel_rfl, by kernel_rfl, rfl⟩

def g57 : GFun := ⟨⟨23, []⟩,
  (.seq (.reg [(.mk (some 2) none (.mov (.k (.val (.slice none 0 0)))))]) (.seq (.reg [(.mk (some 5) none (.mov (.t 0))), (.mk (some 6) none (.len (.t 5))), (.mk (some 7) none (.mkslice 6 72 (.agg [(.val (.int .i64 0)),
  (.val (.int .i64 0)), (.val (.int .i64 0)), (.val (.int .i64 0)), (.val (.string (ByteArray.mk #[]))), (.val (.slice none 0 0))]) (.t 6) (.t 6))), (.mk (some 3) none (.mov (.t 7)))]) (.seq (.seq (.reg [(.mk (some 4)
  none (.mov (.k (.val (.int .i64 0)))))]) (.block 0 (.loop (.seq (.seq (.reg [(.mk (some 8) none (.mov (.t 4))), (.mk (some 9) none (.mov (.t 0))), (.mk (some 10) none (.len (.t 9))), (.mk (some 11) none (.bin .lss (.t
  8) (.t 10)))]) (.cond 11 .skip (.exit 0))) (.seq (.block 1 (.reg [(.mk (some 14) none (.mov (.t 3))), (.mk (some 15) none (.mov (.t 4))), (.mk (some 16) none (.mov (.t 0))), (.mk (some 17) none (.mov (.t 4))), (.mk
  (some 18) none (.iaddr 6 (.t 16) (.t 17))), (.mk (some 19) none (.load 6 true (.t 18))), (.mk (some 20) none (.call false 65 [(.t 19)])), (.mk (some 21) none (.iaddr 6 (.t 14) (.t 15))), (.mk none none (.store 6 (.t
  21) (.t 20)))])) (.reg [(.mk (some 12) none (.mov (.t 4))), (.mk (some 13) none (.bin .add (.t 12) (.k (.val (.int .i64 1))))), (.mk (some 4) none (.mov (.t 13)))])))))) (.seq (.reg [(.mk (some 22) none (.mov (.t
  3))), (.mk (some 2) none (.mov (.t 22)))]) .ret)))),
  [(.t 2)]⟩
theorem i57 : IsFun Try.prog 57 g57 := ⟨Try.f57, _, [], Try.func57, by kernel_rfl, rfl, by kernel_rfl, by kernel_rfl, rfl⟩

def g58 : GFun := ⟨⟨19, []⟩,
  (.seq (.reg [(.mk (some 4) none (.mov (.k (.val (.int .i64 0)))))]) (.seq (.seq (.reg [(.mk (some 6) none (.mov (.t 0))), (.mk (some 7) none (.len (.t 6))), (.mk (some 8) none (.mov (.k (.val (.int .i64 0)))))])
  (.block 0 (.loop (.seq (.reg [(.mk (some 9) none (.bin .lss (.t 8) (.t 7)))]) (.seq (.cond 9 .skip (.exit 0)) (.seq (.block 1 (.seq (.reg [(.mk (some 10) none (.mov (.t 8))), (.mk (some 5) none (.mov (.t 10)))]) (.seq
  (.reg [(.mk (some 11) none (.mov (.t 1))), (.mk (some 12) none (.mov (.t 0))), (.mk (some 13) none (.mov (.t 5))), (.mk (some 14) none (.iaddr 6 (.t 12) (.t 13))), (.mk (some 15) none (.load 6 true (.t 14))), (.mk
  (some 16) none (.callv false (.t 11) [(.t 15)]))]) (.cond 16 (.seq (.reg [(.mk (some 17) none (.mov (.t 5))), (.mk (some 4) none (.mov (.t 17)))]) .ret) .skip)))) (.reg [(.mk (some 18) none (.bin .add (.t 8) (.k (.val
  (.int .i64 1))))), (.mk (some 8) none (.mov (.t 18)))]))))))) (.seq (.reg [(.mk (some 4) none (.mov (.k (.val (.int .i64 (-1))))))]) .ret))),
  [(.t 4)]⟩
theorem i58 : IsFun Try.prog 58 g58 := ⟨Try.f58, _, [], Try.func58, by kernel_rfl, rfl, by kernel_rfl, by kernel_rfl, rfl⟩

def g59 : GFun := ⟨⟨8, [2]⟩,
  (.seq (.reg [(.mk (some 2) none (.boxro 6 (.t 0))), (.mk (some 3) none (.mov (.k (.val (.bool false)))))]) (.seq (.reg [(.mk (some 4) none (.faddr 0 1 false (.t 2))), (.mk (some 5) none (.load 1 false (.t 4))), (.mk
  (some 6) none (.load 1 false (.t 1))), (.mk (some 7) none (.bin .eql (.t 5) (.t 6))), (.mk (some 3) none (.mov (.t 7)))]) .ret)),
  [(.t 3)]⟩
theorem i59 : IsFun Try.prog 59 g59 := ⟨Try.f59, _, [], Try.func59, by kernel_rfl, rfl, by kernel_rfl, by kernel_rfl, rfl⟩

def g60 : GFun := ⟨⟨27, []⟩,
  (.seq (.reg [(.mk (some 4) none (.mov (.k (.val (.bool false)))))]) (.seq (.seq (.reg [(.mk (some 6) none (.mov (.t 0))), (.mk (some 7) none (.len (.t 6))), (.mk (some 8) none (.mov (.t 1))), (.mk (some 9) none (.len
  (.t 8))), (.mk (some 10) none (.bin .neq (.t 7) (.t 9)))]) (.cond 10 (.seq (.reg [(.mk (some 4) none (.mov (.k (.val (.bool false)))))]) .ret) .skip)) (.seq (.seq (.reg [(.mk (some 5) none (.mov (.k (.val (.int .i64
  0)))))]) (.block 0 (.loop (.seq (.seq (.reg [(.mk (some 11) none (.mov (.t 5))), (.mk (some 12) none (.mov (.t 0))), (.mk (some 13) none (.len (.t 12))), (.mk (some 14) none (.bin .lss (.t 11) (.t 13)))]) (.cond 14
  .skip (.exit 0))) (.seq (.block 1 (.seq (.reg [(.mk (some 17) none (.mov (.t 0))), (.mk (some 18) none (.mov (.t 5))), (.mk (some 19) none (.iaddr 6 (.t 17) (.t 18))), (.mk (some 21) none (.mov (.t 1))), (.mk (some
  22) none (.mov (.t 5))), (.mk (some 23) none (.iaddr 6 (.t 21) (.t 22))), (.mk (some 20) none (.load 6 true (.t 19))), (.mk (some 24) none (.load 6 true (.t 23))), (.mk (some 25) none (.call true 66 [(.t 20), (.t
  24)])), (.mk (some 26) none (.not (.t 25)))]) (.cond 26 (.seq (.reg [(.mk (some 4) none (.mov (.k (.val (.bool false)))))]) .ret) .skip))) (.reg [(.mk (some 15) none (.mov (.t 5))), (.mk (some 16) none (.bin .add (.t
  15) (.k (.val (.int .i64 1))))), (.mk (some 5) none (.mov (.t 16)))])))))) (.seq (.reg [(.mk (some 4) none (.mov (.k (.val (.bool true)))))]) .ret)))),
  [(.t 4)]⟩
theorem i60 : IsFun Try.prog 60 g60 := ⟨Try.f60, _, [], Try.func60, by kernel_rfl, rfl, by kernel_rfl, by kernel_rfl, rfl⟩

def g61 : GFun := ⟨⟨11, [2]⟩,
  (.seq (.reg [(.mk (some 2) none (.boxro 1 (.t 0))), (.mk (some 4) none (.mov (.k (.val (.bool false)))))]) (.seq (.reg [(.mk (some 5) none (.mov (.t 1))), (.mk (some 6) none (.faddr 0 1 false (.t 2))), (.mk (some 7)
  none (.load 1 false (.t 6))), (.mk (some 8) none (.len (.t 7))), (.mk (some 9) none (.bin .sub (.t 8) (.k (.val (.int .i64 1))))), (.mk (some 10) none (.call false 43 [(.t 5), (.k (.val (.int .i64 0))), (.t 9)])),
  (.mk (some 4) none (.mov (.t 10)))]) .ret)),
  [(.t 4)]⟩
theorem i61 : IsFun Try.prog 61 g61 := ⟨Try.f61, _, [], Try.func61, by kernel_rfl, rfl, by kernel_rfl, by kernel_rfl, rfl⟩

def g62 : GFun := ⟨⟨10, []⟩,
  (.seq (.reg [(.mk (some 4) none (.mov (.k (.val (.int .i64 0)))))]) (.seq (.seq (.reg [(.mk (some 5) none (.mov (.t 0))), (.mk (some 6) none (.mov (.t 1))), (.mk (some 7) none (.bin .gtr (.t 5) (.t 6)))]) (.cond 7
  (.seq (.reg [(.mk (some 8) none (.mov (.t 0))), (.mk (some 4) none (.mov (.t 8)))]) .ret) .skip)) (.seq (.reg [(.mk (some 9) none (.mov (.t 1))), (.mk (some 4) none (.mov (.t 9)))]) .ret))),
  [(.t 4)]⟩
theorem i62 : IsFun Try.prog 62 g62 := ⟨Try.f62, _, [], Try.func62, by kernel_rfl, rfl, by kernel_rfl, by kernel_rfl, rfl⟩

def g63 : GFun := ⟨⟨15, [2,3]⟩,
  (.seq (.reg [(.mk (some 2) none (.boxro 2 (.t 0))), (.mk (some 3) none (.boxro 2 (.t 1))), (.mk (some 4) none (.mov (.k (.val (.bool false)))))]) (.seq (.seq (.reg [(.mk (some 5) none (.faddr 0 1 false (.t 2))), (.mk
  (some 6) none (.load 1 false (.t 5))), (.mk (some 7) none (.faddr 0 1 false (.t 3))), (.mk (some 8) none (.load 1 false (.t 7))), (.mk (some 9) none (.bin .neq (.t 6) (.t 8)))]) (.cond 9 (.seq (.reg [(.mk (some 4)
  none (.mov (.k (.val (.bool false)))))]) .ret) .skip)) (.seq (.seq (.reg [(.mk (some 10) none (.faddr 1 1 false (.t 2))), (.mk (some 11) none (.load 1 false (.t 10))), (.mk (some 12) none (.faddr 1 1 false (.t 3))),
  (.mk (some 13) none (.load 1 false (.t 12))), (.mk (some 14) none (.bin .neq (.t 11) (.t 13)))]) (.cond 14 (.seq (.reg [(.mk (some 4) none (.mov (.k (.val (.bool false)))))]) .ret) .skip)) (.seq (.reg [(.mk (some 4)
  none (.mov (.k (.val (.bool true)))))]) .ret)))),
  [(.t 4)]⟩
theorem i63 : IsFun Try.prog 63 g63 := ⟨Try.f63, _, [], Try.func63, by kernel_rfl, rfl, by kernel_rfl, by kernel_rfl, rfl⟩

def g64 : GFun := ⟨⟨19, [2]⟩,
  (.seq (.reg [(.mk (some 2) none (.boxro 6 (.t 0))), (.mk (some 4) none (.mov (.k (.val (.int .i64 0)))))]) (.seq (.reg [(.mk (some 5) none (.mov (.t 1))), (.mk (some 6) none (.faddr 4 1 false (.t 2))), (.mk (some 7)
  none (.load 1 false (.t 6))), (.mk (some 8) none (.slen (.t 7))), (.mk (some 9) none (.bin .sub (.t 5) (.t 8))), (.mk (some 1) none (.mov (.t 9)))]) (.seq (.seq (.reg [(.mk (some 10) none (.mov (.t 1))), (.mk (some
  11) none (.bin .lss (.t 10) (.k (.val (.int .i64 0)))))]) (.cond 11 (.seq (.reg [(.mk (some 4) none (.mov (.k (.val (.int .i64 (-1))))))]) .ret) .skip)) (.seq (.reg [(.mk (some 12) none (.faddr 5 1 false (.t 2))),
  (.mk (some 13) none (.load 1 false (.t 12))), (.mk (some 14) none (.mov (.t 1))), (.mk (some 15) none (.call false 49 [(.t 13), (.t 14)])), (.mk (some 1) none (.mov (.t 15)))]) (.seq (.seq (.reg [(.mk (some 16) none
  (.mov (.t 1))), (.mk (some 17) none (.bin .lss (.t 16) (.k (.val (.int .i64 0)))))]) (.cond 17 (.seq (.reg [(.mk (some 4) none (.mov (.k (.val (.int .i64 (-1))))))]) .ret) .skip)) (.seq (.reg [(.mk (some 18) none
  (.mov (.t 1))), (.mk (some 4) none (.mov (.t 18)))]) .ret)))))),
  [(.t 4)]⟩
theorem i64 : IsFun Try.prog 64 g64 := ⟨Try.f64, _, [], Try.func64, by kernel_rfl, rfl, by kernel_rfl, by kernel_rfl, rfl⟩

def g65 : GFun := ⟨⟨24, [1,2]⟩,
  (.seq (.reg [(.mk (some 1) none (.boxro 6 (.t 0))), (.mk (some 2) none (.allocr 6))]) (.seq (.reg [(.mk (some 3) none (.alloc 6 (.agg [(.val (.int .i64 0)), (.val (.int .i64 0)), (.val (.int .i64 0)), (.val (.int .i64
  0)), (.val (.string (ByteArray.mk #[]))), (.val (.slice none 0 0))])))]) (.seq (.reg [(.mk (some 4) none (.faddr 0 1 false (.t 1))), (.mk (some 5) none (.load 1 false (.t 4))), (.mk (some 6) none (.faddr 0 1 false (.t
  3))), (.mk none none (.store 1 (.t 6) (.t 5)))]) (.seq (.reg [(.mk (some 7) none (.faddr 1 1 false (.t 1))), (.mk (some 8) none (.load 1 false (.t 7))), (.mk (some 9) none (.faddr 1 1 false (.t 3))), (.mk none none
  (.store 1 (.t 9) (.t 8)))]) (.seq (.reg [(.mk (some 10) none (.faddr 2 1 false (.t 1))), (.mk (some 11) none (.load 1 false (.t 10))), (.mk (some 12) none (.faddr 2 1 false (.t 3))), (.mk none none (.store 1 (.t 12)
  (.t 11)))]) (.seq (.reg [(.mk (some 13) none (.faddr 3 1 false (.t 1))), (.mk (some 14) none (.load 1 false (.t 13))), (.mk (some 15) none (.faddr 3 1 false (.t 3))), (.mk none none (.store 1 (.t 15) (.t 14)))]) (.seq
  (.reg [(.mk (some 16) none (.faddr 4 1 false (.t 1))), (.mk (some 17) none (.load 1 false (.t 16))), (.mk (some 18) none (.faddr 4 1 false (.t 3))), (.mk none none (.store 1 (.t 18) (.t 17)))]) (.seq (.reg [(.mk (some
  19) none (.faddr 5 1 false (.t 1))), (.mk (some 20) none (.load 1 false (.t 19))), (.mk (some 21) none (.call false 51 [(.t 20)])), (.mk (some 22) none (.faddr 5 1 false (.t 3))), (.mk none none (.store 1 (.t 22) (.t
  21)))]) (.seq (.reg [(.mk (some 23) none (.load 6 true (.t 3))), (.mk (some 2) none (.stro 6 2 (.t 23)))]) .ret))))))))),
  [(.c 2 6 true)]⟩
theorem i65 : IsFun Try.prog 65 g65 := ⟨Try.f65, _, [], Try.func65, by kernel_rfl, rfl, by kernel_rfl, by kernel_rfl, rfl⟩

def g66 : GFun := ⟨⟨36, [2,3]⟩,
  (.seq (.reg [(.mk (some 2) none (.boxro 6 (.t 0))), (.mk (some 3) none (.boxro 6 (.t 1))), (.mk (some 4) none (.mov (.k (.val (.bool false)))))]) (.seq (.seq (.reg [(.mk (some 5) none (.faddr 0 1 false (.t 2))), (.mk
  (some 6) none (.load 1 false (.t 5))), (.mk (some 7) none (.faddr 0 1 false (.t 3))), (.mk (some 8) none (.load 1 false (.t 7))), (.mk (some 9) none (.bin .neq (.t 6) (.t 8)))]) (.cond 9 (.seq (.reg [(.mk (some 4)
  none (.mov (.k (.val (.bool false)))))]) .ret) .skip)) (.seq (.seq (.reg [(.mk (some 10) none (.faddr 1 1 false (.t 2))), (.mk (some 11) none (.load 1 false (.t 10))), (.mk (some 12) none (.faddr 1 1 false (.t 3))),
  (.mk (some 13) none (.load 1 false (.t 12))), (.mk (some 14) none (.bin .neq (.t 11) (.t 13)))]) (.cond 14 (.seq (.reg [(.mk (some 4) none (.mov (.k (.val (.bool false)))))]) .ret) .skip)) (.seq (.seq (.reg [(.mk
  (some 15) none (.faddr 2 1 false (.t 2))), (.mk (some 16) none (.load 1 false (.t 15))), (.mk (some 17) none (.faddr 2 1 false (.t 3))), (.mk (some 18) none (.load 1 false (.t 17))), (.mk (some 19) none (.bin .neq (.t
  16) (.t 18)))]) (.cond 19 (.seq (.reg [(.mk (some 4) none (.mov (.k (.val (.bool false)))))]) .ret) .skip)) (.seq (.seq (.reg [(.mk (some 20) none (.faddr 3 1 false (.t 2))), (.mk (some 21) none (.load 1 false (.t
  20))), (.mk (some 22) none (.faddr 3 1 false (.t 3))), (.mk (some 23) none (.load 1 false (.t 22))), (.mk (some 24) none (.bin .neq (.t 21) (.t 23)))]) (.cond 24 (.seq (.reg [(.mk (some 4) none (.mov (.k (.val (.bool
  false)))))]) .ret) .skip)) (.seq (.seq (.reg [(.mk (some 25) none (.faddr 4 1 false (.t 2))), (.mk (some 26) none (.load 1 false (.t 25))), (.mk (some 27) none (.faddr 4 1 false (.t 3))), (.mk (some 28) none (.load 1
  false (.t 27))), (.mk (some 29) none (.bin .neq (.t 26) (.t 28)))]) (.cond 29 (.seq (.reg [(.mk (some 4) none (.mov (.k (.val (.bool false)))))]) .ret) .skip)) (.seq (.seq (.reg [(.mk (some 30) none (.faddr 5 1 false
  (.t 2))), (.mk (some 31) none (.load 1 false (.t 30))), (.mk (some 32) none (.faddr 5 1 false (.t 3))), (.mk (some 33) none (.load 1 false (.t 32))), (.mk (some 34) none (.call false 44 [(.t 31), (.t 33)])), (.mk
  (some 35) none (.not (.t 34)))]) (.cond 35 (.seq (.reg [(.mk (some 4) none (.mov (.k (.val (.bool false)))))]) .ret) .skip)) (.seq (.reg [(.mk (some 4) none (.mov (.k (.val (.bool true)))))]) .ret)))))))),
  [(.t 4)]⟩
theorem i66 : IsFun Try.prog 66 g66 := ⟨Try.f66, _, [], Try.func66, by kernel_rfl, rfl, by kernel_rfl, by kernel_rfl, rfl⟩

end Go.Proofs.Ytinbimopkakinaa

/- Functions walked over ghosts. -/
namespace Go.Proofs.Ytinbimopkakinaa
open Go.Gh


theorem mxd : Try.prog.follows .mixedOrders = true := Checked.mixed Try.checked

theorem w42 (x lo hi : Int) : Pure Try.prog 42 [I x, I lo, I hi] (· = B (decide (lo ≤ x ∧ x ≤ hi))) := by
  refine GCalls.start i42 rfl (by simp) ?_
  repeat' (first | (with_reducible refine GW.seq ?_) | (with_reducible refine GW.reg mxd ?_) | (with_reducible refine GW.block ?_) | (with_reducible refine GW.skip ?_) | (with_reducible refine GW.exit ?_) | (with_reducible refine GW.ret ?_) | ((with_reducible apply GW.cond2); (case hb => rfl); refine ⟨fun h => ?_, fun h => ?_⟩) | ((with_reducible refine loadS.rop ?ha ?hb ?hc ?_); (case ha => rfl); (case hb => rfl); (case hc => rfl)) | (with_reducible refine stopS.alloc (fun r hr => ?_)) | ((with_reducible apply stopS.store (hr := hget_new)); (case ha => rfl); (case hx => rfl); (case hi => rfl); (case he => (simp [pstores, upd]; rfl)); (case h1 => simp); (case h2 => simp)) | ((with_reducible apply loadS.ptr (hr := hget_new)); (case he => rfl); (case hi => rfl); (case hg => (simp [ploads, sub, isAgg]; rfl)); (case hc => simp [clean, cleanL])) | ((with_reducible apply stopS.boxro); (case hx => rfl); (case h1 => simp); (case h2 => simp)) | ((with_reducible refine stroS.mk ?ha ?hb ?_); (case ha => simp); (case hb => simp)) | ((with_reducible refine guardS.split (fun h => ?_) (fun h => ?_) ?ha); (case ha => rfl)) | simp only [S, reduceIte, Nat.reduceEqDiff] | ((with_reducible apply valS.of); (case h => (simp [fillG, upd, sub]; rfl))))
  all_goals
    simp at h
    exact fin rfl (by simp [pack1] <;> omega)

theorem w43 (x lo hi : Int) : Pure Try.prog 43 [I x, I lo, I hi] (· = B (decide (lo ≤ x ∧ x ≤ hi))) := by
  refine GCalls.start i43 rfl (by simp) ?_
  repeat' (first | (with_reducible refine GW.seq ?_) | (with_reducible refine GW.reg mxd ?_) | (with_reducible refine GW.block ?_) | (with_reducible refine GW.skip ?_) | (with_reducible refine GW.exit ?_) | (with_reducible refine GW.ret ?_) | ((with_reducible apply GW.cond2); (case hb => rfl); refine ⟨fun h => ?_, fun h => ?_⟩) | ((with_reducible refine loadS.rop ?ha ?hb ?hc ?_); (case ha => rfl); (case hb => rfl); (case hc => rfl)) | (with_reducible refine stopS.alloc (fun r hr => ?_)) | ((with_reducible apply stopS.store (hr := hget_new)); (case ha => rfl); (case hx => rfl); (case hi => rfl); (case he => (simp [pstores, upd]; rfl)); (case h1 => simp); (case h2 => simp)) | ((with_reducible apply loadS.ptr (hr := hget_new)); (case he => rfl); (case hi => rfl); (case hg => (simp [ploads, sub, isAgg]; rfl)); (case hc => simp [clean, cleanL])) | ((with_reducible apply stopS.boxro); (case hx => rfl); (case h1 => simp); (case h2 => simp)) | ((with_reducible refine stroS.mk ?ha ?hb ?_); (case ha => simp); (case hb => simp)) | ((with_reducible refine guardS.split (fun h => ?_) (fun h => ?_) ?ha); (case ha => rfl)) | simp only [S, reduceIte, Nat.reduceEqDiff] | ((with_reducible apply valS.of); (case h => (simp [fillG, upd, sub]; rfl))))
  all_goals
    simp at h
    exact fin rfl (by simp [pack1] <;> omega)

theorem w44 (xs ys : List Int) : Pure Try.prog 44 [IS xs, IS ys] (· = B (decide (xs = ys))) := by
  refine GCalls.start i44 rfl (by simp) ?_
  refine GW.lenSl (j := 0) rfl fun hlen => ?_
  repeat' (first | (with_reducible refine GW.seq ?_) | (with_reducible refine GW.reg mxd ?_) | (with_reducible refine GW.block ?_) | (with_reducible refine GW.skip ?_) | (with_reducible refine GW.exit ?_) | (with_reducible refine GW.ret ?_) | ((with_reducible apply GW.cond2); (case hb => rfl); refine ⟨fun h => ?_, fun h => ?_⟩) | ((with_reducible refine loadS.rop ?ha ?hb ?hc ?_); (case ha => rfl); (case hb => rfl); (case hc => rfl)) | (with_reducible refine stopS.alloc (fun r hr => ?_)) | ((with_reducible apply stopS.store (hr := hget_new)); (case ha => rfl); (case hx => rfl); (case hi => rfl); (case he => (simp [pstores, upd]; rfl)); (case h1 => simp); (case h2 => simp)) | ((with_reducible apply loadS.ptr (hr := hget_new)); (case he => rfl); (case hi => rfl); (case hg => (simp [ploads, sub, isAgg]; rfl)); (case hc => simp [clean, cleanL])) | ((with_reducible apply stopS.boxro); (case hx => rfl); (case h1 => simp); (case h2 => simp)) | ((with_reducible refine stroS.mk ?ha ?hb ?_); (case ha => simp); (case hb => simp)) | ((with_reducible refine guardS.split (fun h => ?_) (fun h => ?_) ?ha); (case ha => rfl)) | simp only [S, reduceIte, Nat.reduceEqDiff] | ((with_reducible apply valS.of); (case h => (simp [fillG, upd, sub]; rfl))))
  · refine fin rfl ?_
    simp at h
    simp [pack1]
    rintro rfl; simp at h
  simp at h
  refine GW.loop (ι := { i : Nat // i ≤ xs.length ∧ xs.take i = ys.take i }) (fun i => [(0, IS xs), (1, IS ys), (5, I i.1)]) (fun _ => []) (fun i => xs.length - i.1) ⟨0, by simp⟩ (FE.sub ?_) ?_
  · exact .cons rfl rfl rfl .refl (.cons rfl rfl rfl .refl (.cons rfl rfl rfl .refl .nil))
  intro ⟨i, hi, hp⟩
  repeat' (first | (with_reducible refine GW.seq ?_) | (with_reducible refine GW.reg mxd ?_) | (with_reducible refine GW.block ?_) | (with_reducible refine GW.skip ?_) | (with_reducible refine GW.exit ?_) | (with_reducible refine GW.ret ?_) | ((with_reducible apply GW.cond2); (case hb => rfl); refine ⟨fun h => ?_, fun h => ?_⟩) | ((with_reducible refine loadS.rop ?ha ?hb ?hc ?_); (case ha => rfl); (case hb => rfl); (case hc => rfl)) | (with_reducible refine stopS.alloc (fun r hr => ?_)) | ((with_reducible apply stopS.store (hr := hget_new)); (case ha => rfl); (case hx => rfl); (case hi => rfl); (case he => (simp [pstores, upd]; rfl)); (case h1 => simp); (case h2 => simp)) | ((with_reducible apply loadS.ptr (hr := hget_new)); (case he => rfl); (case hi => rfl); (case hg => (simp [ploads, sub, isAgg]; rfl)); (case hc => simp [clean, cleanL])) | ((with_reducible apply stopS.boxro); (case hx => rfl); (case h1 => simp); (case h2 => simp)) | ((with_reducible refine stroS.mk ?ha ?hb ?_); (case ha => simp); (case hb => simp)) | ((with_reducible refine guardS.split (fun h => ?_) (fun h => ?_) ?ha); (case ha => rfl)) | simp only [S, reduceIte, Nat.reduceEqDiff] | ((with_reducible apply valS.of); (case h => (simp [fillG, upd, sub]; rfl))))
  · simp at h
    refine stopS.iaddr rfl rfl (by omega) (e := I xs[i]) (by simp [h]) ?_
    repeat' (first | (with_reducible refine GW.seq ?_) | (with_reducible refine GW.reg mxd ?_) | (with_reducible refine GW.block ?_) | (with_reducible refine GW.skip ?_) | (with_reducible refine GW.exit ?_) | (with_reducible refine GW.ret ?_) | ((with_reducible apply GW.cond2); (case hb => rfl); refine ⟨fun h => ?_, fun h => ?_⟩) | ((with_reducible refine loadS.rop ?ha ?hb ?hc ?_); (case ha => rfl); (case hb => rfl); (case hc => rfl)) | (with_reducible refine stopS.alloc (fun r hr => ?_)) | ((with_reducible apply stopS.store (hr := hget_new)); (case ha => rfl); (case hx => rfl); (case hi => rfl); (case he => (simp [pstores, upd]; rfl)); (case h1 => simp); (case h2 => simp)) | ((with_reducible apply loadS.ptr (hr := hget_new)); (case he => rfl); (case hi => rfl); (case hg => (simp [ploads, sub, isAgg]; rfl)); (case hc => simp [clean, cleanL])) | ((with_reducible apply stopS.boxro); (case hx => rfl); (case h1 => simp); (case h2 => simp)) | ((with_reducible refine stroS.mk ?ha ?hb ?_); (case ha => simp); (case hb => simp)) | ((with_reducible refine guardS.split (fun h => ?_) (fun h => ?_) ?ha); (case ha => rfl)) | simp only [S, reduceIte, Nat.reduceEqDiff] | ((with_reducible apply valS.of); (case h => (simp [fillG, upd, sub]; rfl))))
    refine stopS.iaddr rfl rfl (by omega) (e := I ys[i]) (by simp [show i < ys.length by omega]) ?_
    repeat' (first | (with_reducible refine GW.seq ?_) | (with_reducible refine GW.reg mxd ?_) | (with_reducible refine GW.block ?_) | (with_reducible refine GW.skip ?_) | (with_reducible refine GW.exit ?_) | (with_reducible refine GW.ret ?_) | ((with_reducible apply GW.cond2); (case hb => rfl); refine ⟨fun h => ?_, fun h => ?_⟩) | ((with_reducible refine loadS.rop ?ha ?hb ?hc ?_); (case ha => rfl); (case hb => rfl); (case hc => rfl)) | (with_reducible refine stopS.alloc (fun r hr => ?_)) | ((with_reducible apply stopS.store (hr := hget_new)); (case ha => rfl); (case hx => rfl); (case hi => rfl); (case he => (simp [pstores, upd]; rfl)); (case h1 => simp); (case h2 => simp)) | ((with_reducible apply loadS.ptr (hr := hget_new)); (case he => rfl); (case hi => rfl); (case hg => (simp [ploads, sub, isAgg]; rfl)); (case hc => simp [clean, cleanL])) | ((with_reducible apply stopS.boxro); (case hx => rfl); (case h1 => simp); (case h2 => simp)) | ((with_reducible refine stroS.mk ?ha ?hb ?_); (case ha => simp); (case hb => simp)) | ((with_reducible refine guardS.split (fun h => ?_) (fun h => ?_) ?ha); (case ha => rfl)) | simp only [S, reduceIte, Nat.reduceEqDiff] | ((with_reducible apply valS.of); (case h => (simp [fillG, upd, sub]; rfl))))
    · refine fin rfl ?_
      simp at h
      simp [pack1]
      rintro rfl; simp at h
    · simp at h
      refine ⟨⟨i + 1, by omega, ?_⟩, FE.sub ?_, ?_⟩
      · simp [List.take_add_one, *]
      · rw [wrap64 (by omega) (by simp [maxL] at hlen; omega)]
        exact .cons rfl rfl rfl .refl (.cons rfl rfl rfl .refl (.cons rfl rfl rfl .refl .nil))
      · simp; omega
  · refine fin rfl ?_
    simp at h
    have : i = xs.length := by omega
    subst this
    simp [pack1]
    rw [List.take_of_length_le (by omega), List.take_of_length_le (by omega)] at hp
    exact hp
end Go.Proofs.Ytinbimopkakinaa

/- Functions walked over ghosts. -/
namespace Go.Proofs.Ytinbimopkakinaa
open Go.Gh
/-- A string's ghost. -/
abbrev T (s : ByteArray) : GV := .val (.string s)
theorem chars_inj {s t : ByteArray} : chars s = chars t ↔ s = t := by
  constructor
  · intro h; obtain ⟨a⟩ := s; obtain ⟨b⟩ := t; simp only [chars] at h; congr 1; exact Array.ext' h
  · rintro rfl; rfl
theorem data_inj {s t : ByteArray} : s.data = t.data ↔ s = t := ByteArray.ext_iff.symm
abbrev Inst (x : Int × ByteArray) : GV := .agg [I x.1, T x.2]
abbrev InstS (l : List (Int × ByteArray)) : GV := .sl 2 (l.map Inst)
def wtInst (x : Int × ByteArray) : Nat := (chars x.2).length
theorem w16 (x : Int × ByteArray) (left : Int) (h0 : 0 ≤ left) (h1 : left ≤ 1048576) (hx : x.2.size ≤ maxLen) : Pure Try.prog 16 [Inst x, I left] (· = I (szv left (wtInst x))) := by
  refine GCalls.start i16 rfl (by simp) ?_
  have hl : (chars x.2).length ≤ 9223372036854775807 := by simpa [maxLen] using hx
  repeat' (first | (with_reducible refine GW.seq ?_) | (with_reducible refine GW.reg mxd ?_) | (with_reducible refine GW.block ?_) | (with_reducible refine GW.skip ?_) | (with_reducible refine GW.exit ?_) | (with_reducible refine GW.ret ?_) | ((with_reducible apply GW.cond2); (case hb => rfl); refine ⟨fun h => ?_, fun h => ?_⟩) | ((with_reducible refine loadS.rop ?ha ?hb ?hc ?_); (case ha => rfl); (case hb => rfl); (case hc => rfl)) | (with_reducible refine stopS.alloc (fun r hr => ?_)) | ((with_reducible apply stopS.store (hr := hget_new)); (case ha => rfl); (case hx => rfl); (case hi => rfl); (case he => (simp [pstores, upd]; rfl)); (case h1 => simp); (case h2 => simp)) | ((with_reducible apply loadS.ptr (hr := hget_new)); (case he => rfl); (case hi => rfl); (case hg => (simp [ploads, sub, isAgg]; rfl)); (case hc => simp [clean, cleanL])) | ((with_reducible apply stopS.boxro); (case hx => rfl); (case h1 => simp); (case h2 => simp)) | ((with_reducible refine stroS.mk ?ha ?hb ?_); (case ha => simp); (case hb => simp)) | ((with_reducible refine guardS.split (fun h => ?_) (fun h => ?_) ?ha); (case ha => rfl)) | simp only [S, reduceIte, Nat.reduceEqDiff] | ((with_reducible apply valS.of); (case h => (simp [fillG, upd, sub, ceqL, ceq]; rfl))))
  all_goals
    rw [wrap64 (by omega) (by omega)] at h
    simp at h
  · exact fin rfl (by simp only [pack1, wtInst]; rw [szv_out (by simp; omega)])
  · refine fin rfl ?_
    simp only [pack1, wtInst]
    rw [wrap64 (by omega) (by omega), szv_pos (by simp; omega)]
theorem w15 (xs : List (Int × ByteArray)) (left : Int) (h0 : 0 ≤ left) (h1 : left ≤ 1048576) (hx : ∀ x ∈ xs, x.2.size ≤ maxLen) : Pure Try.prog 15 [InstS xs, I left] (· = I (szv left (wtS wtInst xs))) :=
  szS mxd wtInst i15 (fun _ => rfl) (fun _ => rfl) xs left h0 h1 fun x hm l a b => w16 x l a b (hx x hm)
theorem w19 (x : Int × ByteArray) : Pure Try.prog 19 [Inst x] (· = Inst x) := by
  refine GCalls.start i19 rfl (by simp) ?_
  repeat' (first | (with_reducible refine GW.seq ?_) | (with_reducible refine GW.reg mxd ?_) | (with_reducible refine GW.block ?_) | (with_reducible refine GW.skip ?_) | (with_reducible refine GW.exit ?_) | (with_reducible refine GW.ret ?_) | ((with_reducible apply GW.cond2); (case hb => rfl); refine ⟨fun h => ?_, fun h => ?_⟩) | ((with_reducible refine loadS.rop ?ha ?hb ?hc ?_); (case ha => rfl); (case hb => rfl); (case hc => rfl)) | (with_reducible refine stopS.alloc (fun r hr => ?_)) | ((with_reducible apply stopS.store (hr := hget_new)); (case ha => rfl); (case hx => rfl); (case hi => rfl); (case he => (simp [pstores, upd]; rfl)); (case h1 => simp); (case h2 => simp)) | ((with_reducible apply loadS.ptr (hr := hget_new)); (case he => rfl); (case hi => rfl); (case hg => (simp [ploads, sub, isAgg]; rfl)); (case hc => simp [clean, cleanL])) | ((with_reducible apply stopS.boxro); (case hx => rfl); (case h1 => simp); (case h2 => simp)) | ((with_reducible refine stroS.mk ?ha ?hb ?_); (case ha => simp); (case hb => simp)) | ((with_reducible refine guardS.split (fun h => ?_) (fun h => ?_) ?ha); (case ha => rfl)) | simp only [S, reduceIte, Nat.reduceEqDiff] | ((with_reducible apply valS.of); (case h => (simp [fillG, upd, sub, ceqL, ceq]; rfl))))
  exact fin rfl rfl
theorem w18 (xs : List (Int × ByteArray)) (hl : xs.length ≤ 1048576) : Pure Try.prog 18 [InstS xs] (· = InstS xs) :=
  freezeS (fun _ => rfl) fun H => toSo mxd i18 (fun _ => rfl) (fun _ => rfl) (fun _ => rfl) (fun _ => rfl) xs hl (by decide) (fun x _ => w19 x) H
theorem w48 (x y : Int × ByteArray) : Pure Try.prog 48 [Inst x, Inst y] (· = B (decide (x = y))) := by
  refine GCalls.start i48 rfl (by simp) ?_
  obtain ⟨n, s⟩ := x
  obtain ⟨m, t⟩ := y
  repeat' (first | (with_reducible refine GW.seq ?_) | (with_reducible refine GW.reg mxd ?_) | (with_reducible refine GW.block ?_) | (with_reducible refine GW.skip ?_) | (with_reducible refine GW.exit ?_) | (with_reducible refine GW.ret ?_) | ((with_reducible apply GW.cond2); (case hb => rfl); refine ⟨fun h => ?_, fun h => ?_⟩) | ((with_reducible refine loadS.rop ?ha ?hb ?hc ?_); (case ha => rfl); (case hb => rfl); (case hc => rfl)) | (with_reducible refine stopS.alloc (fun r hr => ?_)) | ((with_reducible apply stopS.store (hr := hget_new)); (case ha => rfl); (case hx => rfl); (case hi => rfl); (case he => (simp [pstores, upd]; rfl)); (case h1 => simp); (case h2 => simp)) | ((with_reducible apply loadS.ptr (hr := hget_new)); (case he => rfl); (case hi => rfl); (case hg => (simp [ploads, sub, isAgg]; rfl)); (case hc => simp [clean, cleanL])) | ((with_reducible apply stopS.boxro); (case hx => rfl); (case h1 => simp); (case h2 => simp)) | ((with_reducible refine stroS.mk ?ha ?hb ?_); (case ha => simp); (case hb => simp)) | ((with_reducible refine guardS.split (fun h => ?_) (fun h => ?_) ?ha); (case ha => rfl)) | simp only [S, reduceIte, Nat.reduceEqDiff] | ((with_reducible apply valS.of); (case h => (simp [fillG, upd, sub, ceqL, ceq]; rfl))))
  all_goals
    simp [data_inj] at *
    exact fin rfl (by simp [pack1, *])
theorem w21 (xs ys : List (Int × ByteArray)) : Pure Try.prog 21 [InstS xs, InstS ys] (· = B (decide (xs = ys))) :=
  eqS mxd i21 (fun _ => rfl) (fun _ => rfl) xs ys fun x _ y _ => w48 x y
theorem w17 (xs : List (Int × ByteArray)) (x : Int × ByteArray) : Pure Try.prog 17 [InstS xs, Inst x] (· = I (ixOf (fun y => decide (y = x)) xs)) := by
  refine GCalls.start i17 rfl (by simp) ?_
  refine GW.lenSl (j := 0) rfl fun hlen => ?_
  simp [maxL] at hlen
  repeat' (first | (with_reducible refine GW.seq ?_) | (with_reducible refine GW.reg mxd ?_) | (with_reducible refine GW.block ?_) | (with_reducible refine GW.skip ?_) | (with_reducible refine GW.exit ?_) | (with_reducible refine GW.ret ?_) | ((with_reducible apply GW.cond2); (case hb => rfl); refine ⟨fun h => ?_, fun h => ?_⟩) | ((with_reducible refine loadS.rop ?ha ?hb ?hc ?_); (case ha => rfl); (case hb => rfl); (case hc => rfl)) | (with_reducible refine stopS.alloc (fun r hr => ?_)) | ((with_reducible apply stopS.store (hr := hget_new)); (case ha => rfl); (case hx => rfl); (case hi => rfl); (case he => (simp [pstores, upd]; rfl)); (case h1 => simp); (case h2 => simp)) | ((with_reducible apply loadS.ptr (hr := hget_new)); (case he => rfl); (case hi => rfl); (case hg => (simp [ploads, sub, isAgg]; rfl)); (case hc => simp [clean, cleanL])) | ((with_reducible apply stopS.boxro); (case hx => rfl); (case h1 => simp); (case h2 => simp)) | ((with_reducible refine stroS.mk ?ha ?hb ?_); (case ha => simp); (case hb => simp)) | ((with_reducible refine guardS.split (fun h => ?_) (fun h => ?_) ?ha); (case ha => rfl)) | simp only [S, reduceIte, Nat.reduceEqDiff] | ((with_reducible apply valS.of); (case h => (simp [fillG, upd, sub, ceqL, ceq]; rfl))))
  refine GW.loop (ι := { i : Nat // i ≤ xs.length ∧ ∀ y ∈ xs.take i, decide (y = x) = false }) (fun i => [(0, InstS xs), (3, .rop 2 (Inst x)), (5, I i.1)]) (fun _ => []) (fun i => xs.length - i.1) ⟨0, by simp⟩ (FE.sub ?_) ?_
  · exact .cons rfl rfl rfl .refl (.cons rfl rfl rfl .refl (.cons rfl rfl rfl .refl .nil))
  intro ⟨i, hi, hn⟩
  repeat' (first | (with_reducible refine GW.seq ?_) | (with_reducible refine GW.reg mxd ?_) | (with_reducible refine GW.block ?_) | (with_reducible refine GW.skip ?_) | (with_reducible refine GW.exit ?_) | (with_reducible refine GW.ret ?_) | ((with_reducible apply GW.cond2); (case hb => rfl); refine ⟨fun h => ?_, fun h => ?_⟩) | ((with_reducible refine loadS.rop ?ha ?hb ?hc ?_); (case ha => rfl); (case hb => rfl); (case hc => rfl)) | (with_reducible refine stopS.alloc (fun r hr => ?_)) | ((with_reducible apply stopS.store (hr := hget_new)); (case ha => rfl); (case hx => rfl); (case hi => rfl); (case he => (simp [pstores, upd]; rfl)); (case h1 => simp); (case h2 => simp)) | ((with_reducible apply loadS.ptr (hr := hget_new)); (case he => rfl); (case hi => rfl); (case hg => (simp [ploads, sub, isAgg]; rfl)); (case hc => simp [clean, cleanL])) | ((with_reducible apply stopS.boxro); (case hx => rfl); (case h1 => simp); (case h2 => simp)) | ((with_reducible refine stroS.mk ?ha ?hb ?_); (case ha => simp); (case hb => simp)) | ((with_reducible refine guardS.split (fun h => ?_) (fun h => ?_) ?ha); (case ha => rfl)) | simp only [S, reduceIte, Nat.reduceEqDiff] | ((with_reducible apply valS.of); (case h => (simp [fillG, upd, sub, ceqL, ceq]; rfl))))
  · simp at h
    have hi' : i < xs.length := h
    refine stopS.iaddr rfl rfl (by omega) (e := Inst xs[i]) (by simp [h]) ?_
    repeat' (first | (with_reducible refine GW.seq ?_) | (with_reducible refine GW.reg mxd ?_) | (with_reducible refine GW.block ?_) | (with_reducible refine GW.skip ?_) | (with_reducible refine GW.exit ?_) | (with_reducible refine GW.ret ?_) | ((with_reducible apply GW.cond2); (case hb => rfl); refine ⟨fun h => ?_, fun h => ?_⟩) | ((with_reducible refine loadS.rop ?ha ?hb ?hc ?_); (case ha => rfl); (case hb => rfl); (case hc => rfl)) | (with_reducible refine stopS.alloc (fun r hr => ?_)) | ((with_reducible apply stopS.store (hr := hget_new)); (case ha => rfl); (case hx => rfl); (case hi => rfl); (case he => (simp [pstores, upd]; rfl)); (case h1 => simp); (case h2 => simp)) | ((with_reducible apply loadS.ptr (hr := hget_new)); (case he => rfl); (case hi => rfl); (case hg => (simp [ploads, sub, isAgg]; rfl)); (case hc => simp [clean, cleanL])) | ((with_reducible apply stopS.boxro); (case hx => rfl); (case h1 => simp); (case h2 => simp)) | ((with_reducible refine stroS.mk ?ha ?hb ?_); (case ha => simp); (case hb => simp)) | ((with_reducible refine guardS.split (fun h => ?_) (fun h => ?_) ?ha); (case ha => rfl)) | simp only [S, reduceIte, Nat.reduceEqDiff] | ((with_reducible apply valS.of); (case h => (simp [fillG, upd, sub, ceqL, ceq]; rfl))))
    · refine fin rfl ?_
      simp [data_inj] at h
      rw [ixOf_hit hi' (by simp [Prod.ext_iff, h]) hn]
      rfl
    · simp [data_inj] at h
      refine ⟨⟨i + 1, by omega, take_step hi' (by simp [Prod.ext_iff]; first | exact h | exact fun a b => h a.symm b.symm) hn⟩, FE.sub ?_, ?_⟩
      · rw [wrap64 (by omega) (by omega)]
        exact .cons rfl rfl rfl .refl (.cons rfl rfl rfl .refl (.cons rfl rfl rfl .refl .nil))
      · simp; omega
  · simp at h
    have : i = xs.length := by omega
    subst this
    rw [List.take_of_length_le (Nat.le_refl _)] at hn
    refine fin rfl ?_
    rw [ixOf_none hn]; rfl
theorem w47 (xs : List (Int × ByteArray)) (x : Int × ByteArray) : Pure Try.prog 47 [InstS xs, Inst x] (· = I (ixOf (fun y => decide (y = x)) xs)) := by
  refine GCalls.start i47 rfl (by simp) ?_
  refine GW.lenSl (j := 0) rfl fun hlen => ?_
  simp [maxL] at hlen
  repeat' (first | (with_reducible refine GW.seq ?_) | (with_reducible refine GW.reg mxd ?_) | (with_reducible refine GW.block ?_) | (with_reducible refine GW.skip ?_) | (with_reducible refine GW.exit ?_) | (with_reducible refine GW.ret ?_) | ((with_reducible apply GW.cond2); (case hb => rfl); refine ⟨fun h => ?_, fun h => ?_⟩) | ((with_reducible refine loadS.rop ?ha ?hb ?hc ?_); (case ha => rfl); (case hb => rfl); (case hc => rfl)) | (with_reducible refine stopS.alloc (fun r hr => ?_)) | ((with_reducible apply stopS.store (hr := hget_new)); (case ha => rfl); (case hx => rfl); (case hi => rfl); (case he => (simp [pstores, upd]; rfl)); (case h1 => simp); (case h2 => simp)) | ((with_reducible apply loadS.ptr (hr := hget_new)); (case he => rfl); (case hi => rfl); (case hg => (simp [ploads, sub, isAgg]; rfl)); (case hc => simp [clean, cleanL])) | ((with_reducible apply stopS.boxro); (case hx => rfl); (case h1 => simp); (case h2 => simp)) | ((with_reducible refine stroS.mk ?ha ?hb ?_); (case ha => simp); (case hb => simp)) | ((with_reducible refine guardS.split (fun h => ?_) (fun h => ?_) ?ha); (case ha => rfl)) | simp only [S, reduceIte, Nat.reduceEqDiff] | ((with_reducible apply valS.of); (case h => (simp [fillG, upd, sub, ceqL, ceq]; rfl))))
  refine GW.loop (ι := { i : Nat // i ≤ xs.length ∧ ∀ y ∈ xs.take i, decide (y = x) = false }) (fun i => [(0, InstS xs), (3, .rop 2 (Inst x)), (7, I xs.length), (8, I i.1)]) (fun _ => []) (fun i => xs.length - i.1) ⟨0, by simp⟩ (FE.sub ?_) ?_
  · exact .cons rfl rfl rfl .refl (.cons rfl rfl rfl .refl (.cons (by simp; rfl) rfl rfl .refl (.cons rfl rfl rfl .refl .nil)))
  intro ⟨i, hi, hn⟩
  repeat' (first | (with_reducible refine GW.seq ?_) | (with_reducible refine GW.reg mxd ?_) | (with_reducible refine GW.block ?_) | (with_reducible refine GW.skip ?_) | (with_reducible refine GW.exit ?_) | (with_reducible refine GW.ret ?_) | ((with_reducible apply GW.cond2); (case hb => rfl); refine ⟨fun h => ?_, fun h => ?_⟩) | ((with_reducible refine loadS.rop ?ha ?hb ?hc ?_); (case ha => rfl); (case hb => rfl); (case hc => rfl)) | (with_reducible refine stopS.alloc (fun r hr => ?_)) | ((with_reducible apply stopS.store (hr := hget_new)); (case ha => rfl); (case hx => rfl); (case hi => rfl); (case he => (simp [pstores, upd]; rfl)); (case h1 => simp); (case h2 => simp)) | ((with_reducible apply loadS.ptr (hr := hget_new)); (case he => rfl); (case hi => rfl); (case hg => (simp [ploads, sub, isAgg]; rfl)); (case hc => simp [clean, cleanL])) | ((with_reducible apply stopS.boxro); (case hx => rfl); (case h1 => simp); (case h2 => simp)) | ((with_reducible refine stroS.mk ?ha ?hb ?_); (case ha => simp); (case hb => simp)) | ((with_reducible refine guardS.split (fun h => ?_) (fun h => ?_) ?ha); (case ha => rfl)) | simp only [S, reduceIte, Nat.reduceEqDiff] | ((with_reducible apply valS.of); (case h => (simp [fillG, upd, sub, ceqL, ceq]; rfl))))
  · simp at h
    have hi' : i < xs.length := h
    refine stopS.iaddr rfl rfl (by omega) (e := Inst xs[i]) (by simp [h]) ?_
    repeat' (first | (with_reducible refine GW.seq ?_) | (with_reducible refine GW.reg mxd ?_) | (with_reducible refine GW.block ?_) | (with_reducible refine GW.skip ?_) | (with_reducible refine GW.exit ?_) | (with_reducible refine GW.ret ?_) | ((with_reducible apply GW.cond2); (case hb => rfl); refine ⟨fun h => ?_, fun h => ?_⟩) | ((with_reducible refine loadS.rop ?ha ?hb ?hc ?_); (case ha => rfl); (case hb => rfl); (case hc => rfl)) | (with_reducible refine stopS.alloc (fun r hr => ?_)) | ((with_reducible apply stopS.store (hr := hget_new)); (case ha => rfl); (case hx => rfl); (case hi => rfl); (case he => (simp [pstores, upd]; rfl)); (case h1 => simp); (case h2 => simp)) | ((with_reducible apply loadS.ptr (hr := hget_new)); (case he => rfl); (case hi => rfl); (case hg => (simp [ploads, sub, isAgg]; rfl)); (case hc => simp [clean, cleanL])) | ((with_reducible apply stopS.boxro); (case hx => rfl); (case h1 => simp); (case h2 => simp)) | ((with_reducible refine stroS.mk ?ha ?hb ?_); (case ha => simp); (case hb => simp)) | ((with_reducible refine guardS.split (fun h => ?_) (fun h => ?_) ?ha); (case ha => rfl)) | simp only [S, reduceIte, Nat.reduceEqDiff] | ((with_reducible apply valS.of); (case h => (simp [fillG, upd, sub, ceqL, ceq]; rfl))))
    · refine fin rfl ?_
      simp [data_inj] at h
      rw [ixOf_hit hi' (by simp [Prod.ext_iff, h]) hn]
      rfl
    · simp [data_inj] at h
      refine ⟨⟨i + 1, by omega, take_step hi' (by simp [Prod.ext_iff]; first | exact h | exact fun a b => h a.symm b.symm) hn⟩, FE.sub ?_, ?_⟩
      · rw [wrap64 (by omega) (by omega)]
        exact .cons rfl rfl rfl .refl (.cons rfl rfl rfl .refl (.cons rfl rfl rfl .refl (.cons rfl rfl rfl .refl .nil)))
      · simp; omega
  · simp at h
    have : i = xs.length := by omega
    subst this
    rw [List.take_of_length_le (Nat.le_refl _)] at hn
    refine fin rfl ?_
    rw [ixOf_none hn]; rfl
theorem w20 (xs : List (Int × ByteArray)) (x : Int × ByteArray) : Pure Try.prog 20 [InstS xs, Inst x] (· = I (ixOf (fun y => decide (y = x)) xs)) := by
  refine GCalls.start i20 rfl (by simp) ?_
  repeat' (first | (with_reducible refine GW.seq ?_) | (with_reducible refine GW.reg mxd ?_) | (with_reducible refine GW.block ?_) | (with_reducible refine GW.skip ?_) | (with_reducible refine GW.exit ?_) | (with_reducible refine GW.ret ?_) | ((with_reducible apply GW.cond2); (case hb => rfl); refine ⟨fun h => ?_, fun h => ?_⟩) | ((with_reducible refine loadS.rop ?ha ?hb ?hc ?_); (case ha => rfl); (case hb => rfl); (case hc => rfl)) | (with_reducible refine stopS.alloc (fun r hr => ?_)) | ((with_reducible apply stopS.store (hr := hget_new)); (case ha => rfl); (case hx => rfl); (case hi => rfl); (case he => (simp [pstores, upd]; rfl)); (case h1 => simp); (case h2 => simp)) | ((with_reducible apply loadS.ptr (hr := hget_new)); (case he => rfl); (case hi => rfl); (case hg => (simp [ploads, sub, isAgg]; rfl)); (case hc => simp [clean, cleanL])) | ((with_reducible apply stopS.boxro); (case hx => rfl); (case h1 => simp); (case h2 => simp)) | ((with_reducible refine stroS.mk ?ha ?hb ?_); (case ha => simp); (case hb => simp)) | ((with_reducible refine guardS.split (fun h => ?_) (fun h => ?_) ?ha); (case ha => rfl)) | simp only [S, reduceIte, Nat.reduceEqDiff] | ((with_reducible apply valS.of); (case h => (simp [fillG, upd, sub, ceqL, ceq]; rfl))))
  refine callS.eq (w47 xs x) ?_
  repeat' (first | (with_reducible refine GW.seq ?_) | (with_reducible refine GW.reg mxd ?_) | (with_reducible refine GW.block ?_) | (with_reducible refine GW.skip ?_) | (with_reducible refine GW.exit ?_) | (with_reducible refine GW.ret ?_) | ((with_reducible apply GW.cond2); (case hb => rfl); refine ⟨fun h => ?_, fun h => ?_⟩) | ((with_reducible refine loadS.rop ?ha ?hb ?hc ?_); (case ha => rfl); (case hb => rfl); (case hc => rfl)) | (with_reducible refine stopS.alloc (fun r hr => ?_)) | ((with_reducible apply stopS.store (hr := hget_new)); (case ha => rfl); (case hx => rfl); (case hi => rfl); (case he => (simp [pstores, upd]; rfl)); (case h1 => simp); (case h2 => simp)) | ((with_reducible apply loadS.ptr (hr := hget_new)); (case he => rfl); (case hi => rfl); (case hg => (simp [ploads, sub, isAgg]; rfl)); (case hc => simp [clean, cleanL])) | ((with_reducible apply stopS.boxro); (case hx => rfl); (case h1 => simp); (case h2 => simp)) | ((with_reducible refine stroS.mk ?ha ?hb ?_); (case ha => simp); (case hb => simp)) | ((with_reducible refine guardS.split (fun h => ?_) (fun h => ?_) ?ha); (case ha => rfl)) | simp only [S, reduceIte, Nat.reduceEqDiff] | ((with_reducible apply valS.of); (case h => (simp [fillG, upd, sub, ceqL, ceq]; rfl))))
  exact fin rfl rfl
theorem w4 (xs : List (Int × ByteArray)) (x : Int × ByteArray) (hx : ∀ y ∈ xs, y.2.size ≤ maxLen) (hx1 : x.2.size ≤ maxLen) : Pure Try.prog 4 [InstS xs, Inst x] (· = B true) := by
  refine GCalls.start i4 rfl (by simp) ?_
  repeat' (first | (with_reducible refine GW.seq ?_) | (with_reducible refine GW.reg mxd ?_) | (with_reducible refine GW.block ?_) | (with_reducible refine GW.skip ?_) | (with_reducible refine GW.exit ?_) | (with_reducible refine GW.ret ?_) | ((with_reducible apply GW.cond2); (case hb => rfl); refine ⟨fun h => ?_, fun h => ?_⟩) | ((with_reducible refine loadS.rop ?ha ?hb ?hc ?_); (case ha => rfl); (case hb => rfl); (case hc => rfl)) | (with_reducible refine stopS.alloc (fun r hr => ?_)) | ((with_reducible apply stopS.store (hr := hget_new)); (case ha => rfl); (case hx => rfl); (case hi => rfl); (case he => (simp [pstores, upd]; rfl)); (case h1 => simp); (case h2 => simp)) | ((with_reducible apply loadS.ptr (hr := hget_new)); (case he => rfl); (case hi => rfl); (case hg => (simp [ploads, sub, isAgg]; rfl)); (case hc => simp [clean, cleanL])) | ((with_reducible apply stopS.boxro); (case hx => rfl); (case h1 => simp); (case h2 => simp)) | ((with_reducible refine stroS.mk ?ha ?hb ?_); (case ha => simp); (case hb => simp)) | ((with_reducible refine guardS.split (fun h => ?_) (fun h => ?_) ?ha); (case ha => rfl)) | simp only [S, reduceIte, Nat.reduceEqDiff] | ((with_reducible apply valS.of); (case h => (simp [fillG, upd, sub, ceqL, ceq]; rfl))))
  refine callS.eq (w15 xs _ (by omega) (by omega) hx) ?_
  repeat' (first | (with_reducible refine GW.seq ?_) | (with_reducible refine GW.reg mxd ?_) | (with_reducible refine GW.block ?_) | (with_reducible refine GW.skip ?_) | (with_reducible refine GW.exit ?_) | (with_reducible refine GW.ret ?_) | ((with_reducible apply GW.cond2); (case hb => rfl); refine ⟨fun h => ?_, fun h => ?_⟩) | ((with_reducible refine loadS.rop ?ha ?hb ?hc ?_); (case ha => rfl); (case hb => rfl); (case hc => rfl)) | (with_reducible refine stopS.alloc (fun r hr => ?_)) | ((with_reducible apply stopS.store (hr := hget_new)); (case ha => rfl); (case hx => rfl); (case hi => rfl); (case he => (simp [pstores, upd]; rfl)); (case h1 => simp); (case h2 => simp)) | ((with_reducible apply loadS.ptr (hr := hget_new)); (case he => rfl); (case hi => rfl); (case hg => (simp [ploads, sub, isAgg]; rfl)); (case hc => simp [clean, cleanL])) | ((with_reducible apply stopS.boxro); (case hx => rfl); (case h1 => simp); (case h2 => simp)) | ((with_reducible refine stroS.mk ?ha ?hb ?_); (case ha => simp); (case hb => simp)) | ((with_reducible refine guardS.split (fun h => ?_) (fun h => ?_) ?ha); (case ha => rfl)) | simp only [S, reduceIte, Nat.reduceEqDiff] | ((with_reducible apply valS.of); (case h => (simp [fillG, upd, sub, ceqL, ceq]; rfl))))
  · exact fin rfl rfl
  simp at h
  have h1 := szv_nn (left := 1048576) (n := wtS wtInst xs) (by omega)
  have h2 := szv_le (left := 1048576) (n := wtS wtInst xs) (by omega)
  refine callS.eq (w16 x _ (by omega) (by omega) hx1) ?_
  repeat' (first | (with_reducible refine GW.seq ?_) | (with_reducible refine GW.reg mxd ?_) | (with_reducible refine GW.block ?_) | (with_reducible refine GW.skip ?_) | (with_reducible refine GW.exit ?_) | (with_reducible refine GW.ret ?_) | ((with_reducible apply GW.cond2); (case hb => rfl); refine ⟨fun h => ?_, fun h => ?_⟩) | ((with_reducible refine loadS.rop ?ha ?hb ?hc ?_); (case ha => rfl); (case hb => rfl); (case hc => rfl)) | (with_reducible refine stopS.alloc (fun r hr => ?_)) | ((with_reducible apply stopS.store (hr := hget_new)); (case ha => rfl); (case hx => rfl); (case hi => rfl); (case he => (simp [pstores, upd]; rfl)); (case h1 => simp); (case h2 => simp)) | ((with_reducible apply loadS.ptr (hr := hget_new)); (case he => rfl); (case hi => rfl); (case hg => (simp [ploads, sub, isAgg]; rfl)); (case hc => simp [clean, cleanL])) | ((with_reducible apply stopS.boxro); (case hx => rfl); (case h1 => simp); (case h2 => simp)) | ((with_reducible refine stroS.mk ?ha ?hb ?_); (case ha => simp); (case hb => simp)) | ((with_reducible refine guardS.split (fun h => ?_) (fun h => ?_) ?ha); (case ha => rfl)) | simp only [S, reduceIte, Nat.reduceEqDiff] | ((with_reducible apply valS.of); (case h => (simp [fillG, upd, sub, ceqL, ceq]; rfl))))
  · exact fin rfl rfl
  have hl : xs.length ≤ 1048576 := by simp only [wtS] at h1; omega
  repeat' (first
    | refine callS.eq (w18 _ hl) ?_
    | refine callS.eq (w19 _) ?_
    | refine callS.eq (w17 _ _) ?_
    | refine callS.eq (w20 _ _) ?_
    | refine callS.eq (w21 _ _) ?_
    | (first | (with_reducible refine GW.seq ?_) | (with_reducible refine GW.reg mxd ?_) | (with_reducible refine GW.block ?_) | (with_reducible refine GW.skip ?_) | (with_reducible refine GW.exit ?_) | (with_reducible refine GW.ret ?_) | ((with_reducible apply GW.cond2); (case hb => rfl); refine ⟨fun h => ?_, fun h => ?_⟩) | ((with_reducible refine loadS.rop ?ha ?hb ?hc ?_); (case ha => rfl); (case hb => rfl); (case hc => rfl)) | (with_reducible refine stopS.alloc (fun r hr => ?_)) | ((with_reducible apply stopS.store (hr := hget_new)); (case ha => rfl); (case hx => rfl); (case hi => rfl); (case he => (simp [pstores, upd]; rfl)); (case h1 => simp); (case h2 => simp)) | ((with_reducible apply loadS.ptr (hr := hget_new)); (case he => rfl); (case hi => rfl); (case hg => (simp [ploads, sub, isAgg]; rfl)); (case hc => simp [clean, cleanL])) | ((with_reducible apply stopS.boxro); (case hx => rfl); (case h1 => simp); (case h2 => simp)) | ((with_reducible refine stroS.mk ?ha ?hb ?_); (case ha => simp); (case hb => simp)) | ((with_reducible refine guardS.split (fun h => ?_) (fun h => ?_) ?ha); (case ha => rfl)) | simp only [S, reduceIte, Nat.reduceEqDiff] | ((with_reducible apply valS.of); (case h => (simp [fillG, upd, sub, ceqL, ceq]; rfl)))))
  all_goals first
    | exact fin rfl rfl
    | (simp at h)
end Go.Proofs.Ytinbimopkakinaa

/- Functions walked over ghosts. -/
namespace Go.Proofs.Ytinbimopkakinaa
open Go.ChangeShapes Go.WideShapes Go.ChangeAt Go.RowKit Go.Gh
theorem Try.own : ownKnob Try.prog.godebug = none := by kernel_rfl
theorem Try.laidOut : laidOutB Try.prog = true := by kernel_rfl
theorem t_Inst {g : GV} (h : ET true [.int .i64, .str] g) : ∃ x : Int × ByteArray, g = Inst x ∧ x.2.size ≤ maxLen := by
  obtain ⟨gs, k1, k2⟩ := h
  simp only [CTs, CT] at k1
  obtain ⟨g1, gs', rfl, ⟨n, rfl, _⟩, g2, gs'', rfl, ⟨s, rfl, hs⟩, rfl⟩ := k1
  exact ⟨(n, s), by simpa using k2, hs⟩
theorem t_InstS {g : GV} (h : ET false [.sl true [.int .i64, .str]] g) : ∃ xs, g = InstS xs ∧ ∀ x ∈ xs, x.2.size ≤ maxLen := by
  obtain ⟨gs, k1, k2⟩ := h
  rw [CTs] at k1
  obtain ⟨g1, gs', rfl, h1, k1⟩ := k1
  simp only [CTs] at k1
  subst k1
  simp only [CT] at h1
  obtain ⟨es, rfl, _, he⟩ := h1
  obtain ⟨l, rfl, hl⟩ := list_of (f := Inst) (ok := fun x => x.2.size ≤ maxLen) fun e hm => by
    obtain ⟨gs, k1, k2⟩ := he e hm
    obtain ⟨x, hx1, hx2⟩ := t_Inst (g := e) ⟨gs, k1, by simpa using k2⟩
    exact ⟨x, hx1, hx2⟩
  exact ⟨l, by simpa using k2.symm, hl⟩
set_option maxRecDepth 100000 in
theorem l4 (os : Os) (started : os.Started) (H : Type) (enc : TypeId × Value → H) :
    ReturnsInHanded {} Try.checked os 4 .any (Rows.fnExactInstanceIndexSpec.pre6 enc Try.prog Try.f4 Rows.fnExactInstanceIndexRow.domain false) (Rows.fnExactInstanceIndexSpec.post enc Try.prog Try.f4 false true false false) := by
  refine returnsInHanded_of_change (C := Try.checked) Try.own started (by kernel_rfl) Try.func4
    (ChangeSpec.witness6 (enc := enc) (C := Try.checked) false ⟨#[], #[.slice none 0 0, .agg #[.int .i64 0, .string (ByteArray.mk #[])]], []⟩ 8 (by kernel_rfl) (by kernel_rfl) (by kernel_rfl) (by kernel_rfl)) ?_
  intro W base args ds gs before hval0 hW hcnd _
  have hval : ∀ (j : Nat) t v, Try.f4.params[j]? = some t → args[j]? = some v → Value.okWide Try.prog W .any base t v := hval0
  have hW' := hW
  obtain ⟨p, q, hA0, hV, rfl, hfz, hnd⟩ := hW
  have hA : DataW.TrodAll enc Try.prog W 0 (fun _ => true) true Try.f4.params.toList args.toList ds p := hA0
  rw [Try.params4] at hA hval
  obtain ⟨v0, v1, d0, d1, p0, p1, rfl, rfl, rfl, h0, h1⟩ := trodAll_two hA
  obtain ⟨rfl, rfl⟩ := trodVars_none hV
  obtain ⟨g0, m0, e0⟩ := lift_val (P := Try.prog) 8 (by kernel_rfl) (hval 0 _ v0 rfl rfl) h0
  obtain ⟨g1, m1, e1⟩ := lift_val (P := Try.prog) 8 (by kernel_rfl) (hval 1 _ v1 rfl rfl) h1
  obtain ⟨xs, rfl, hx⟩ := t_InstS e0
  obtain ⟨x, rfl, hx1⟩ := t_Inst e1
  clear hA0 hval0
  simp only [List.append_nil] at hW'
  have hlt := hW'.lt
  refine ((w4 xs x hx hx1).out i4 (W := W) (args := [v0, v1]) (.cons0 m0 (.cons0 m1 .nil0))).mono fun e W' ⟨v, g, D, he, hg, hm, hb⟩ => ?_
  subst he; subst hg
  have hv := MV.val_inv hm
  subst hv
  exact ⟨_, rfl, post_of_below (pa := p0 ++ p1) (pv := []) hW' (fun _ _ _ => trodAll_mk1 (shut_bool Try.underlying4 _)) (fun sp hsp => trodAll_mk2 (WideElems.Trod_stays Try.laidOut (by kernel_rfl) (of_decide_eq_true (by kernel_rfl)) h0 (fun x hx => hb.same (hlt x (by simp [hx]))) (fun x hx => hsp x (by simp [hx]))) (WideElems.Trod_stays Try.laidOut (by kernel_rfl) (of_decide_eq_true (by kernel_rfl)) h1 (fun x hx => hb.same (hlt x (by simp [hx]))) (fun x hx => hsp x (by simp [hx])))) (fun _ _ => rfl) (by simp)
    hb (ok_one (by kernel_rfl) rfl (okWide_bool_mk Try.underlying4 _))⟩
theorem h4 : Rows.FnExactInstanceIndexSaid :=
  OpenClaim.holds_of_wide 4 Try.f4 rfl rfl rfl rfl rfl rfl rfl ⟨rfl, rfl, rfl, rfl, rfl⟩ rfl rfl rfl rfl rfl (by kernel_rfl) Try.func4 (by kernel_rfl)
    (of_decide_eq_true (by kernel_rfl)) (by unfold Func.isWrapper; first | (rw [if_pos (by decide +kernel)]; kernel_rfl) | (rw [if_neg (by decide +kernel)]; exact ⟨rfl, rfl⟩))
    (fun os started H enc _ => l4 os started H enc)
end Go.Proofs.Ytinbimopkakinaa
