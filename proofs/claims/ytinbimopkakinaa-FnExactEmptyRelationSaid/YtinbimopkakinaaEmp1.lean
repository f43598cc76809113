/- The law FnExactEmptyRelation returns true whatever the input, and the input reads behind the call as before. No condition. -/
import Derived.Test.YtinbimopkakinaaLib2
import Derived.Test.YtinbimopkakinaaRows
import Derived.KernelRfl
/- The ghost code of functions, and that they are compiled so (printed by a program). -/
namespace Go.Proofs.Ytinbimopkakinaa
open Go.Gh

def g3 : GFun := ⟨⟨41, [3,4,7]⟩,
  (.seq (.reg [(.mk (some 2) none (.mov (.k (.val (.bool false)))))]) (.seq (.reg [(.mk (some 8) none (.mov (.t 0))), (.mk (some 9) none (.call false 10 [(.t 8)])), (.mk (some 3) none (.allocr 2)), (.mk (some 3) none
  (.stro 2 3 (.t 9)))]) (.seq (.reg [(.mk (some 10) none (.mov (.t 0))), (.mk (some 11) none (.call false 11 [(.t 10)])), (.mk (some 4) none (.allocr 2)), (.mk (some 4) none (.stro 2 4 (.t 11)))]) (.seq (.seq (.reg
  [(.mk (some 12) none (.load 2 true (.t 4))), (.mk (some 13) none (.load 2 true (.t 3))), (.mk (some 14) none (.call false 12 [(.t 12), (.t 13)])), (.mk (some 15) none (.not (.t 14)))]) (.cond 15 (.seq (.reg [(.mk
  (some 2) none (.mov (.k (.val (.bool false)))))]) .ret) .skip)) (.seq (.reg [(.mk (some 5) none (.mov (.k (.val (.int .i64 1)))))]) (.seq (.reg [(.mk (some 16) none (.load 2 true (.t 4))), (.mk (some 17) none (.mov
  (.t 5))), (.mk (some 18) none (.call false 13 [(.t 16), (.t 17)])), (.mk (some 5) none (.mov (.t 18)))]) (.seq (.reg [(.mk (some 6) none (.mov (.k (.val (.int .i64 1)))))]) (.seq (.reg [(.mk (some 19) none (.load 2
  true (.t 4))), (.mk (some 20) none (.mov (.t 6))), (.mk (some 21) none (.call false 14 [(.t 19), (.t 20)])), (.mk (some 6) none (.mov (.t 21)))]) (.seq (.seq (.reg [(.mk (some 22) none (.mov (.t 6))), (.mk (some 23)
  none (.bin .lss (.t 22) (.k (.val (.int .i64 0)))))]) (.cond 23 (.seq (.reg [(.mk (some 2) none (.mov (.k (.val (.bool false)))))]) .ret) .skip)) (.seq (.seq (.reg [(.mk (some 24) none (.mov (.t 6))), (.mk (some 25)
  none (.mov (.t 5))), (.mk (some 26) none (.bin .neq (.t 24) (.t 25)))]) (.cond 26 (.seq (.reg [(.mk (some 2) none (.mov (.k (.val (.bool false)))))]) .ret) .skip)) (.seq (.reg [(.mk (some 27) none (.mov (.t 0))), (.mk
  (some 28) none (.call false 11 [(.t 27)])), (.mk (some 7) none (.allocr 2)), (.mk (some 7) none (.stro 2 7 (.t 28)))]) (.seq (.seq (.reg [(.mk (some 29) none (.load 2 true (.t 7))), (.mk (some 30) none (.load 2 true
  (.t 3))), (.mk (some 31) none (.call false 12 [(.t 29), (.t 30)])), (.mk (some 32) none (.not (.t 31)))]) (.cond 32 (.seq (.reg [(.mk (some 2) none (.mov (.k (.val (.bool false)))))]) .ret) .skip)) (.seq (.reg [(.mk
  (some 6) none (.mov (.k (.val (.int .i64 1)))))]) (.seq (.reg [(.mk (some 33) none (.load 2 true (.t 4))), (.mk (some 34) none (.mov (.t 6))), (.mk (some 35) none (.call false 14 [(.t 33), (.t 34)])), (.mk (some 6)
  none (.mov (.t 35)))]) (.seq (.seq (.reg [(.mk (some 36) none (.mov (.t 6))), (.mk (some 37) none (.bin .lss (.t 36) (.k (.val (.int .i64 0)))))]) (.cond 37 (.seq (.reg [(.mk (some 2) none (.mov (.k (.val (.bool
  false)))))]) .ret) .skip)) (.seq (.seq (.reg [(.mk (some 38) none (.mov (.t 6))), (.mk (some 39) none (.mov (.t 5))), (.mk (some 40) none (.bin .neq (.t 38) (.t 39)))]) (.cond 40 (.seq (.reg [(.mk (some 2) none (.mov
  (.k (.val (.bool false)))))]) .ret) .skip)) (.seq (.reg [(.mk (some 2) none (.mov (.k (.val (.bool true)))))]) .ret))))))))))))))))),
  [(.t 2)]⟩
theorem i3 : IsFun Try.prog 3 g3 := ⟨Try.f3, _, [], Try.func3, by kernel_rfl, rfl, by kernel_rfl, by kernel_rfl, rfl⟩

def g10 : GFun := ⟨⟨11, [2]⟩,
  (.seq (.reg [(.mk (some 2) none (.allocr 2))]) (.seq (.seq (.reg [(.mk (some 3) none (.mov (.t 0))), (.mk (some 4) none (.call false 42 [(.t 3), (.k (.val (.int .i64 0))), (.k (.val (.int .i64 16)))])), (.mk (some 5)
  none (.not (.t 4)))]) (.cond 5 (.seq (.reg [(.mk (some 6) none (.build [(.val (.int .i64 0)), (.val (.slice none 0 0))] [])), (.mk (some 2) none (.stro 2 2 (.t 6)))]) .ret) .skip)) (.seq (.reg [(.mk (some 7) none
  (.mov (.t 0))), (.mk (some 8) none (.mov (.t 0))), (.mk (some 9) none (.mkslice 1 8 (.val (.int .i64 0)) (.t 8) (.t 8))), (.mk (some 10) none (.build [(.val (.int .i64 0)), (.val (.slice none 0 0))] [(0, (1, (.t 7))),
  (1, (1, (.t 9)))])), (.mk (some 2) none (.stro 2 2 (.t 10)))]) .ret))),
  [(.c 2 2 true)]⟩
theorem i10 : IsFun Try.prog 10 g10 := ⟨Try.f10, _, [], Try.func10, by kernel_rfl, rfl, by kernel_rfl, by kernel_rfl, rfl⟩

def g11 : GFun := ⟨⟨11, [2]⟩,
  (.seq (.reg [(.mk (some 2) none (.allocr 2))]) (.seq (.seq (.reg [(.mk (some 3) none (.mov (.t 0))), (.mk (some 4) none (.call false 43 [(.t 3), (.k (.val (.int .i64 0))), (.k (.val (.int .i64 16)))])), (.mk (some 5)
  none (.not (.t 4)))]) (.cond 5 (.seq (.reg [(.mk (some 6) none (.build [(.val (.int .i64 0)), (.val (.slice none 0 0))] [])), (.mk (some 2) none (.stro 2 2 (.t 6)))]) .ret) .skip)) (.seq (.reg [(.mk (some 7) none
  (.mov (.t 0))), (.mk (some 8) none (.mov (.t 0))), (.mk (some 9) none (.mkslice 1 8 (.val (.int .i64 0)) (.t 8) (.t 8))), (.mk (some 10) none (.build [(.val (.int .i64 0)), (.val (.slice none 0 0))] [(0, (1, (.t 7))),
  (1, (1, (.t 9)))])), (.mk (some 2) none (.stro 2 2 (.t 10)))]) .ret))),
  [(.c 2 2 true)]⟩
theorem i11 : IsFun Try.prog 11 g11 := ⟨Try.f11, _, [], Try.func11, by kernel_rfl, rfl, by kernel_rfl, by kernel_rfl, rfl⟩

def g12 : GFun := ⟨⟨16, [2,3]⟩,
  (.seq (.reg [(.mk (some 2) none (.boxro 2 (.t 0))), (.mk (some 3) none (.boxro 2 (.t 1))), (.mk (some 4) none (.mov (.k (.val (.bool false)))))]) (.seq (.seq (.reg [(.mk (some 5) none (.faddr 0 1 false (.t 2))), (.mk
  (some 6) none (.load 1 false (.t 5))), (.mk (some 7) none (.faddr 0 1 false (.t 3))), (.mk (some 8) none (.load 1 false (.t 7))), (.mk (some 9) none (.bin .neq (.t 6) (.t 8)))]) (.cond 9 (.seq (.reg [(.mk (some 4)
  none (.mov (.k (.val (.bool false)))))]) .ret) .skip)) (.seq (.seq (.reg [(.mk (some 10) none (.faddr 1 1 false (.t 2))), (.mk (some 11) none (.load 1 false (.t 10))), (.mk (some 12) none (.faddr 1 1 false (.t 3))),
  (.mk (some 13) none (.load 1 false (.t 12))), (.mk (some 14) none (.call false 44 [(.t 11), (.t 13)])), (.mk (some 15) none (.not (.t 14)))]) (.cond 15 (.seq (.reg [(.mk (some 4) none (.mov (.k (.val (.bool
  false)))))]) .ret) .skip)) (.seq (.reg [(.mk (some 4) none (.mov (.k (.val (.bool true)))))]) .ret)))),
  [(.t 4)]⟩
theorem i12 : IsFun Try.prog 12 g12 := ⟨Try.f12, _, [], Try.func12, by kernel_rfl, rfl, by kernel_rfl, by kernel_rfl, rfl⟩

def g13 : GFun := ⟨⟨10, [2]⟩,
  (.seq (.reg [(.mk (some 2) none (.boxro 2 (.t 0))), (.mk (some 4) none (.mov (.k (.val (.int .i64 0)))))]) (.seq (.reg [(.mk (some 5) none (.faddr 1 1 false (.t 2))), (.mk (some 6) none (.load 1 false (.t 5))), (.mk
  (some 7) none (.mov (.t 1))), (.mk (some 8) none (.call false 45 [(.t 6), (.t 7)])), (.mk (some 1) none (.mov (.t 8)))]) (.seq (.reg [(.mk (some 9) none (.mov (.t 1))), (.mk (some 4) none (.mov (.t 9)))]) .ret))),
  [(.t 4)]⟩
theorem i13 : IsFun Try.prog 13 g13 := ⟨Try.f13, _, [], Try.func13, by kernel_rfl, rfl, by kernel_rfl, by kernel_rfl, rfl⟩

def g14 : GFun := ⟨⟨12, [2]⟩,
  (.seq (.reg [(.mk (some 2) none (.boxro 2 (.t 0))), (.mk (some 4) none (.mov (.k (.val (.int .i64 0)))))]) (.seq (.reg [(.mk (some 5) none (.faddr 1 1 false (.t 2))), (.mk (some 6) none (.load 1 false (.t 5))), (.mk
  (some 7) none (.mov (.t 1))), (.mk (some 8) none (.call false 46 [(.t 6), (.t 7)])), (.mk (some 1) none (.mov (.t 8)))]) (.seq (.seq (.reg [(.mk (some 9) none (.mov (.t 1))), (.mk (some 10) none (.bin .lss (.t 9) (.k
  (.val (.int .i64 0)))))]) (.cond 10 (.seq (.reg [(.mk (some 4) none (.mov (.k (.val (.int .i64 (-1))))))]) .ret) .skip)) (.seq (.reg [(.mk (some 11) none (.mov (.t 1))), (.mk (some 4) none (.mov (.t 11)))]) .ret)))),
  [(.t 4)]⟩
theorem i14 : IsFun Try.prog 14 g14 := ⟨Try.f14, _, [], Try.func14, by kernel_rfl, rfl, by kernel_rfl, by kernel_rfl, rfl⟩

def g44 : GFun := ⟨⟨26, []⟩,
  (.seq (.reg [(.mk (some 4) none (.mov (.k (.val (.bool false)))))]) (.seq (.seq (.reg [(.mk (some 6) none (.mov (.t 0))), (.mk (some 7) none (.len (.t 6))), (.mk (some 8) none (.mov (.t 1))), (.mk (some 9) none (.len
  (.t 8))), (.mk (some 10) none (.bin .neq (.t 7) (.t 9)))]) (.cond 10 (.seq (.reg [(.mk (some 4) none (.mov (.k (.val (.bool false)))))]) .ret) .skip)) (.seq (.seq (.reg [(.mk (some 5) none (.mov (.k (.val (.int .i64
  0)))))]) (.block 0 (.loop (.seq (.seq (.reg [(.mk (some 11) none (.mov (.t 5))), (.mk (some 12) none (.mov (.t 0))), (.mk (some 13) none (.len (.t 12))), (.mk (some 14) none (.bin .lss (.t 11) (.t 13)))]) (.cond 14
  .skip (.exit 0))) (.seq (.block 1 (.seq (.reg [(.mk (some 17) none (.mov (.t 0))), (.mk (some 18) none (.mov (.t 5))), (.mk (some 19) none (.iaddr 1 (.t 17) (.t 18))), (.mk (some 21) none (.mov (.t 1))), (.mk (some
  22) none (.mov (.t 5))), (.mk (some 23) none (.iaddr 1 (.t 21) (.t 22))), (.mk (some 20) none (.load 1 false (.t 19))), (.mk (some 24) none (.load 1 false (.t 23))), (.mk (some 25) none (.bin .neq (.t 20) (.t 24)))])
  (.cond 25 (.seq (.reg [(.mk (some 4) none (.mov (.k (.val (.bool false)))))]) .ret) .skip))) (.reg [(.mk (some 15) none (.mov (.t 5))), (.mk (some 16) none (.bin .add (.t 15) (.k (.val (.int .i64 1))))), (.mk (some 5)
  none (.mov (.t 16)))])))))) (.seq (.reg [(.mk (some 4) none (.mov (.k (.val (.bool true)))))]) .ret)))),
  [(.t 4)]⟩
theorem i44 : IsFun Try.prog 44 g44 := ⟨Try.f44, _, [], Try.func44, by kernel_rfl, rfl, by kernel_rfl, by kernel_rfl, rfl⟩

def g45 : GFun := ⟨⟨19, []⟩,
  (.seq (.reg [(.mk (some 4) none (.mov (.k (.val (.int .i64 0)))))]) (.seq (.seq (.reg [(.mk (some 5) none (.mov (.k (.val (.int .i64 0)))))]) (.block 0 (.loop (.seq (.seq (.reg [(.mk (some 6) none (.mov (.t 5))), (.mk
  (some 7) none (.mov (.t 0))), (.mk (some 8) none (.len (.t 7))), (.mk (some 9) none (.bin .lss (.t 6) (.t 8)))]) (.cond 9 .skip (.exit 0))) (.seq (.block 1 (.seq (.reg [(.mk (some 12) none (.mov (.t 0))), (.mk (some
  13) none (.mov (.t 5))), (.mk (some 14) none (.mov (.t 1))), (.mk (some 15) none (.iaddr 1 (.t 12) (.t 13))), (.mk none none (.store 1 (.t 15) (.t 14)))]) (.reg [(.mk (some 16) none (.mov (.t 1))), (.mk (some 17) none
  (.bin .add (.t 16) (.k (.val (.int .i64 1))))), (.mk (some 1) none (.mov (.t 17)))]))) (.reg [(.mk (some 10) none (.mov (.t 5))), (.mk (some 11) none (.bin .add (.t 10) (.k (.val (.int .i64 1))))), (.mk (some 5) none
  (.mov (.t 11)))])))))) (.seq (.reg [(.mk (some 18) none (.mov (.t 1))), (.mk (some 4) none (.mov (.t 18)))]) .ret))),
  [(.t 4)]⟩
theorem i45 : IsFun Try.prog 45 g45 := ⟨Try.f45, _, [], Try.func45, by kernel_rfl, rfl, by kernel_rfl, by kernel_rfl, rfl⟩

def g46 : GFun := ⟨⟨21, []⟩,
  (.seq (.reg [(.mk (some 4) none (.mov (.k (.val (.int .i64 0)))))]) (.seq (.seq (.reg [(.mk (some 5) none (.mov (.k (.val (.int .i64 0)))))]) (.block 0 (.loop (.seq (.seq (.reg [(.mk (some 6) none (.mov (.t 5))), (.mk
  (some 7) none (.mov (.t 0))), (.mk (some 8) none (.len (.t 7))), (.mk (some 9) none (.bin .lss (.t 6) (.t 8)))]) (.cond 9 .skip (.exit 0))) (.seq (.block 1 (.seq (.seq (.reg [(.mk (some 12) none (.mov (.t 0))), (.mk
  (some 13) none (.mov (.t 5))), (.mk (some 14) none (.iaddr 1 (.t 12) (.t 13))), (.mk (some 15) none (.load 1 false (.t 14))), (.mk (some 16) none (.mov (.t 1))), (.mk (some 17) none (.bin .neq (.t 15) (.t 16)))])
  (.cond 17 (.seq (.reg [(.mk (some 4) none (.mov (.k (.val (.int .i64 (-1))))))]) .ret) .skip)) (.reg [(.mk (some 18) none (.mov (.t 1))), (.mk (some 19) none (.bin .add (.t 18) (.k (.val (.int .i64 1))))), (.mk (some
  1) none (.mov (.t 19)))]))) (.reg [(.mk (some 10) none (.mov (.t 5))), (.mk (some 11) none (.bin .add (.t 10) (.k (.val (.int .i64 1))))), (.mk (some 5) none (.mov (.t 11)))])))))) (.seq (.reg [(.mk (some 20) none
  (.mov (.t 1))), (.mk (some 4) none (.mov (.t 20)))]) .ret))),
  [(.t 4)]⟩
theorem i46 : IsFun Try.prog 46 g46 := ⟨Try.f46, _, [], Try.func46, by kernel_rfl, rfl, by kernel_rfl, by kernel_rfl, rfl⟩

def g42 : GFun := ⟨⟨15, []⟩,
  (.seq (.reg [(.mk (some 6) none (.mov (.k (.val (.bool false)))))]) (.seq (.reg [(.mk (some 7) none (.mov (.t 0))), (.mk (some 8) none (.mov (.t 1))), (.mk (some 9) none (.bin .geq (.t 7) (.t 8))), (.mk (some 10) none
  (.mov (.t 9))), (.mk (some 11) (some (10, true)) (.mov (.t 0))), (.mk (some 12) (some (10, true)) (.mov (.t 2))), (.mk (some 13) (some (10, true)) (.bin .leq (.t 11) (.t 12))), (.mk (some 14) none (.pick (.t 10) (.t
  13) (.k (.val (.bool false))))), (.mk (some 6) none (.mov (.t 14)))]) .ret)),
  [(.t 6)]⟩
theorem i42 : IsFun Try.prog 42 g42 := ⟨Try.f42, _, [], Try.func42, by kernel_rfl, rfl, by kernel_rfl, by kernel_rfl, rfl⟩

def g43 : GFun := ⟨⟨15, []⟩,
  (.seq (.reg [(.mk (some 6) none (.mov (.k (.val (.bool false)))))]) (.seq (.reg [(.mk (some 7) none (.mov (.t 0))), (.mk (some 8) none (.mov (.t 1))), (.mk (some 9) none (.bin .geq (.t 7) (.t 8))), (.mk (some 10) none
  (.mov (.t 9))), (.mk (some 11) (some (10, true)) (.mov (.t 0))), (.mk (some 12) (some (10, true)) (.mov (.t 2))), (.mk (some 13) (some (10, true)) (.bin .leq (.t 11) (.t 12))), (.mk (some 14) none (.pick (.t 10) (.t
  13) (.k (.val (.bool false))))), (.mk (some 6) none (.mov (.t 14)))]) .ret)),
  [(.t 6)]⟩
theorem i43 : IsFun Try.prog 43 g43 := ⟨Try.f43, _, [], Try.func43, by kernel_rfl, rfl, by kernel_rfl, by kernel_rfl, rfl⟩

end Go.Proofs.Ytinbimopkakinaa

namespace Go.Proofs.Ytinbimopkakinaa
open Go.Gh

abbrev I (n : Int) : GV := .val (.int .i64 n)
abbrev B (b : Bool) : GV := .val (.bool b)
abbrev IS (l : List Int) : GV := .sl 1 (l.map I)

theorem mxd : Try.prog.follows .mixedOrders = true := Checked.mixed Try.checked

theorem w42 (x lo hi : Int) : Pure Try.prog 42 [I x, I lo, I hi] (· = B (decide (lo ≤ x ∧ x ≤ hi))) := by
  refine GCalls.of_body i42 (by simp [g42]) ?_
  repeat' (first | refine GW.seq ?_ | refine GW.reg mxd ?_ | refine GW.block ?_ | refine GW.skip ?_ | refine GW.exit ?_ | refine GW.ret ?_ | refine loadS.rop rfl rfl rfl ?_ | refine stopS.boxro rfl (by simp) (by simp) ?_ | refine stroS.mk (by simp) (by simp) ?_ | refine valS.of (by simp [fillG, upd, sub]; rfl) ?_ | refine GW.cond rfl (fun h => ?_) (fun h => ?_) | refine guardS.split (fun h => ?_) (fun h => ?_) rfl | simp only [S, reduceIte, Nat.reduceEqDiff])
  all_goals
    simp at h
    exact fin rfl (by simp [pack1] <;> omega)

theorem w43 (x lo hi : Int) : Pure Try.prog 43 [I x, I lo, I hi] (· = B (decide (lo ≤ x ∧ x ≤ hi))) := by
  refine GCalls.of_body i43 (by simp [g43]) ?_
  repeat' (first | refine GW.seq ?_ | refine GW.reg mxd ?_ | refine GW.block ?_ | refine GW.skip ?_ | refine GW.exit ?_ | refine GW.ret ?_ | refine loadS.rop rfl rfl rfl ?_ | refine stopS.boxro rfl (by simp) (by simp) ?_ | refine stroS.mk (by simp) (by simp) ?_ | refine valS.of (by simp [fillG, upd, sub]; rfl) ?_ | refine GW.cond rfl (fun h => ?_) (fun h => ?_) | refine guardS.split (fun h => ?_) (fun h => ?_) rfl | simp only [S, reduceIte, Nat.reduceEqDiff])
  all_goals
    simp at h
    exact fin rfl (by simp [pack1] <;> omega)

theorem w44 (xs ys : List Int) : Pure Try.prog 44 [IS xs, IS ys] (· = B (decide (xs = ys))) := by
  refine GCalls.of_body i44 (by simp [g44]) ?_
  refine GW.lenSl (j := 0) rfl fun hlen => ?_
  repeat' (first | refine GW.seq ?_ | refine GW.reg mxd ?_ | refine GW.block ?_ | refine GW.skip ?_ | refine GW.exit ?_ | refine GW.ret ?_ | refine loadS.rop rfl rfl rfl ?_ | refine stopS.boxro rfl (by simp) (by simp) ?_ | refine stroS.mk (by simp) (by simp) ?_ | refine valS.of (by simp [fillG, upd, sub]; rfl) ?_ | refine GW.cond rfl (fun h => ?_) (fun h => ?_) | refine guardS.split (fun h => ?_) (fun h => ?_) rfl | simp only [S, reduceIte, Nat.reduceEqDiff])
  · refine fin rfl ?_
    simp at h
    simp [pack1]
    rintro rfl; simp at h
  simp at h
  refine GW.loop (ι := { i : Nat // i ≤ xs.length ∧ xs.take i = ys.take i }) (fun i => [(0, IS xs), (1, IS ys), (5, I i.1)]) (fun _ => []) (fun i => xs.length - i.1) ⟨0, by simp⟩ (FE.sub ?_) ?_
  · exact .cons rfl rfl rfl .refl (.cons rfl rfl rfl .refl (.cons rfl rfl rfl .refl .nil))
  intro ⟨i, hi, hp⟩
  repeat' (first | refine GW.seq ?_ | refine GW.reg mxd ?_ | refine GW.block ?_ | refine GW.skip ?_ | refine GW.exit ?_ | refine GW.ret ?_ | refine loadS.rop rfl rfl rfl ?_ | refine stopS.boxro rfl (by simp) (by simp) ?_ | refine stroS.mk (by simp) (by simp) ?_ | refine valS.of (by simp [fillG, upd, sub]; rfl) ?_ | refine GW.cond rfl (fun h => ?_) (fun h => ?_) | refine guardS.split (fun h => ?_) (fun h => ?_) rfl | simp only [S, reduceIte, Nat.reduceEqDiff])
  · simp at h
    refine stopS.iaddr rfl rfl (by omega) (e := I xs[i]) (by simp [h]) ?_
    repeat' (first | refine GW.seq ?_ | refine GW.reg mxd ?_ | refine GW.block ?_ | refine GW.skip ?_ | refine GW.exit ?_ | refine GW.ret ?_ | refine loadS.rop rfl rfl rfl ?_ | refine stopS.boxro rfl (by simp) (by simp) ?_ | refine stroS.mk (by simp) (by simp) ?_ | refine valS.of (by simp [fillG, upd, sub]; rfl) ?_ | refine GW.cond rfl (fun h => ?_) (fun h => ?_) | refine guardS.split (fun h => ?_) (fun h => ?_) rfl | simp only [S, reduceIte, Nat.reduceEqDiff])
    refine stopS.iaddr rfl rfl (by omega) (e := I ys[i]) (by simp [show i < ys.length by omega]) ?_
    repeat' (first | refine GW.seq ?_ | refine GW.reg mxd ?_ | refine GW.block ?_ | refine GW.skip ?_ | refine GW.exit ?_ | refine GW.ret ?_ | refine loadS.rop rfl rfl rfl ?_ | refine stopS.boxro rfl (by simp) (by simp) ?_ | refine stroS.mk (by simp) (by simp) ?_ | refine valS.of (by simp [fillG, upd, sub]; rfl) ?_ | refine GW.cond rfl (fun h => ?_) (fun h => ?_) | refine guardS.split (fun h => ?_) (fun h => ?_) rfl | simp only [S, reduceIte, Nat.reduceEqDiff])
    · refine fin rfl ?_
      simp at h
      simp [pack1]
      rintro rfl; simp at h
    · simp at h
      refine ⟨⟨i + 1, by omega, ?_⟩, FE.sub ?_, ?_⟩
      · simp [List.take_add_one, *]
      · rw [wrap64 (by omega) (by simp [maxL] at hlen; omega)]
        exact .cons rfl rfl rfl .refl (.cons rfl rfl rfl .refl (.cons rfl rfl rfl .refl .nil))
      · simp; omega
  · refine fin rfl ?_
    simp at h
    have : i = xs.length := by omega
    subst this
    simp [pack1]
    rw [List.take_of_length_le (by omega), List.take_of_length_le (by omega)] at hp
    exact hp
end Go.Proofs.Ytinbimopkakinaa

namespace Go.Proofs.Ytinbimopkakinaa
open Go.Gh

def upFrom : Int → Nat → List Int
  | _, 0 => []
  | k, n + 1 => k :: upFrom (k + 1) n

theorem upFrom_len : ∀ (n : Nat) (k : Int), (upFrom k n).length = n
  | 0, _ => rfl
  | n + 1, k => by simp [upFrom, upFrom_len n]
theorem upFrom_snoc : ∀ (n : Nat) (k : Int), upFrom k (n + 1) = upFrom k n ++ [k + n]
  | 0, k => by simp [upFrom]
  | n + 1, k => by rw [upFrom, upFrom_snoc n (k + 1)]; simp [upFrom]; omega

theorem upFrom_get : ∀ (n : Nat) (k : Int) (i : Nat), i < n → (upFrom k n)[i]? = some (k + i)
  | n + 1, k, 0, _ => by simp [upFrom]
  | n + 1, k, i + 1, h => by simp [upFrom, upFrom_get n (k + 1) i (by omega)]; omega

theorem w45 (r n : Nat) (k : Int) (es : List GV) (H : GH) (hr : hget H r = some (1, es)) (hn : es.length = n) (hk : 0 ≤ k) (hb : k + n < 9223372036854775807) :
    GCalls Try.prog 45 [.own r 1 0 n, I k] H (fun g H' => g = I (k + n) ∧ H' = hset H r ((upFrom k n).map I)) := by
  refine GCalls.of_body i45 (by simp [g45]) ?_
  repeat' (first | refine GW.seq ?_ | refine GW.reg mxd ?_ | refine GW.block ?_ | refine GW.skip ?_ | refine GW.exit ?_ | refine GW.ret ?_ | refine loadS.rop rfl rfl rfl ?_ | refine stopS.boxro rfl (by simp) (by simp) ?_ | refine stroS.mk (by simp) (by simp) ?_ | refine valS.of (by simp [fillG, upd, sub]; rfl) ?_ | refine GW.cond rfl (fun h => ?_) (fun h => ?_) | refine guardS.split (fun h => ?_) (fun h => ?_) rfl | simp only [S, reduceIte, Nat.reduceEqDiff])
  refine GW.loop (ι := { i : Nat // i ≤ n }) (fun i => [(0, .own r 1 0 n), (1, I (k + i.1)), (5, I i.1)]) (fun i => hset H r ((upFrom k i.1).map I ++ es.drop i.1)) (fun i => n - i.1) ⟨0, by simp⟩ ?_ ?_
  · simp [upFrom]
    rw [hset_self hr]
    exact FE.sub (.cons rfl rfl rfl .refl (.cons rfl rfl rfl .refl (.cons rfl rfl rfl .refl .nil)))
  intro ⟨i, hi⟩
  repeat' (first | refine GW.seq ?_ | refine GW.reg mxd ?_ | refine GW.block ?_ | refine GW.skip ?_ | refine GW.exit ?_ | refine GW.ret ?_ | refine loadS.rop rfl rfl rfl ?_ | refine stopS.boxro rfl (by simp) (by simp) ?_ | refine stroS.mk (by simp) (by simp) ?_ | refine valS.of (by simp [fillG, upd, sub]; rfl) ?_ | refine GW.cond rfl (fun h => ?_) (fun h => ?_) | refine guardS.split (fun h => ?_) (fun h => ?_) rfl | simp only [S, reduceIte, Nat.reduceEqDiff])
  · simp at h
    refine stopS.iaddro rfl rfl (by omega) (by omega) ?_
    repeat' (first | refine GW.seq ?_ | refine GW.reg mxd ?_ | refine GW.block ?_ | refine GW.skip ?_ | refine GW.exit ?_ | refine GW.ret ?_ | refine loadS.rop rfl rfl rfl ?_ | refine stopS.boxro rfl (by simp) (by simp) ?_ | refine stroS.mk (by simp) (by simp) ?_ | refine valS.of (by simp [fillG, upd, sub]; rfl) ?_ | refine GW.cond rfl (fun h => ?_) (fun h => ?_) | refine guardS.split (fun h => ?_) (fun h => ?_) rfl | simp only [S, reduceIte, Nat.reduceEqDiff])
    refine stopS.store (e := es[i]) rfl rfl (hget_set hr) (by simp [upFrom_len]; rw [List.getElem?_append_right (by simp [upFrom_len])]; simp [upFrom_len, hn, h]) pst_all rfl (by simp) ?_
    repeat' (first | refine GW.seq ?_ | refine GW.reg mxd ?_ | refine GW.block ?_ | refine GW.skip ?_ | refine GW.exit ?_ | refine GW.ret ?_ | refine loadS.rop rfl rfl rfl ?_ | refine stopS.boxro rfl (by simp) (by simp) ?_ | refine stroS.mk (by simp) (by simp) ?_ | refine valS.of (by simp [fillG, upd, sub]; rfl) ?_ | refine GW.cond rfl (fun h => ?_) (fun h => ?_) | refine guardS.split (fun h => ?_) (fun h => ?_) rfl | simp only [S, reduceIte, Nat.reduceEqDiff])
    refine ⟨⟨i + 1, by omega⟩, ?_, ?_⟩
    · rw [wrap64 (by omega) (by omega), wrap64 (by omega) (by omega), hset_set]
      have e : (List.map I (upFrom k i) ++ List.drop i es).set ((i : Int).toNat) (I (k + i)) = List.map I (upFrom k (i + 1)) ++ List.drop (i + 1) es := by
        rw [upFrom_snoc, List.set_append_right _ _ (by simp [upFrom_len])]
        simp [upFrom_len]
        rw [List.drop_eq_getElem_cons (by omega)]
        rfl
      rw [e, Int.add_assoc]
      exact FE.sub (.cons rfl rfl rfl .refl (.cons rfl rfl rfl .refl (.cons rfl rfl rfl .refl .nil)))
    · simp; omega
  · simp at h
    have : i = n := by omega
    subst this
    refine fin rfl ?_
    simp [pack1, List.drop_of_length_le, hn]

theorem w46 (xs : List Int) (k : Int) (hk : 0 ≤ k) (hb : k + xs.length < 9223372036854775807) :
    Pure Try.prog 46 [IS xs, I k] (· = I (if xs = upFrom k xs.length then k + xs.length else -1)) := by
  refine GCalls.of_body i46 (by simp [g46]) ?_
  repeat' (first | refine GW.seq ?_ | refine GW.reg mxd ?_ | refine GW.block ?_ | refine GW.skip ?_ | refine GW.exit ?_ | refine GW.ret ?_ | refine loadS.rop rfl rfl rfl ?_ | refine stopS.boxro rfl (by simp) (by simp) ?_ | refine stroS.mk (by simp) (by simp) ?_ | refine valS.of (by simp [fillG, upd, sub]; rfl) ?_ | refine GW.cond rfl (fun h => ?_) (fun h => ?_) | refine guardS.split (fun h => ?_) (fun h => ?_) rfl | simp only [S, reduceIte, Nat.reduceEqDiff])
  refine GW.loop (ι := { i : Nat // i ≤ xs.length ∧ xs.take i = upFrom k i }) (fun i => [(0, IS xs), (1, I (k + i.1)), (5, I i.1)]) (fun i => []) (fun i => xs.length - i.1) ⟨0, by simp [upFrom]⟩ ?_ ?_
  · simp
    exact FE.sub (.cons rfl rfl rfl .refl (.cons rfl rfl rfl .refl (.cons rfl rfl rfl .refl .nil)))
  intro ⟨i, hi, hp⟩
  repeat' (first | refine GW.seq ?_ | refine GW.reg mxd ?_ | refine GW.block ?_ | refine GW.skip ?_ | refine GW.exit ?_ | refine GW.ret ?_ | refine loadS.rop rfl rfl rfl ?_ | refine stopS.boxro rfl (by simp) (by simp) ?_ | refine stroS.mk (by simp) (by simp) ?_ | refine valS.of (by simp [fillG, upd, sub]; rfl) ?_ | refine GW.cond rfl (fun h => ?_) (fun h => ?_) | refine guardS.split (fun h => ?_) (fun h => ?_) rfl | simp only [S, reduceIte, Nat.reduceEqDiff])
  · simp at h
    refine stopS.iaddr rfl rfl (by omega) (e := I xs[i]) (by simp [h]) ?_
    repeat' (first | refine GW.seq ?_ | refine GW.reg mxd ?_ | refine GW.block ?_ | refine GW.skip ?_ | refine GW.exit ?_ | refine GW.ret ?_ | refine loadS.rop rfl rfl rfl ?_ | refine stopS.boxro rfl (by simp) (by simp) ?_ | refine stroS.mk (by simp) (by simp) ?_ | refine valS.of (by simp [fillG, upd, sub]; rfl) ?_ | refine GW.cond rfl (fun h => ?_) (fun h => ?_) | refine guardS.split (fun h => ?_) (fun h => ?_) rfl | simp only [S, reduceIte, Nat.reduceEqDiff])
    · simp at h
      refine fin rfl ?_
      simp only [pack1]
      have hne : xs ≠ upFrom k xs.length := fun e => by
        have h2 := upFrom_get xs.length k i (by omega)
        have h3 : i < xs.length := by omega
        rw [← e, List.getElem?_eq_getElem h3] at h2
        simp at h2
        omega
      rw [if_neg hne]
    · simp at h
      refine ⟨⟨i + 1, by omega, ?_⟩, ?_, ?_⟩
      · simp [List.take_add_one, upFrom_snoc, *]
      · rw [wrap64 (by omega) (by omega), wrap64 (by omega) (by omega), Int.add_assoc]
        exact FE.sub (.cons rfl rfl rfl .refl (.cons rfl rfl rfl .refl (.cons rfl rfl rfl .refl .nil)))
      · simp; omega
  · simp at h
    have : i = xs.length := by omega
    subst this
    refine fin rfl ?_
    simp at hp
    simp [pack1, ← hp]

end Go.Proofs.Ytinbimopkakinaa

namespace Go.Proofs.Ytinbimopkakinaa
open Go.Gh

abbrev Rel (n : Int) (rows : List Int) : GV := .agg [I n, IS rows]

theorem w12 (n m : Int) (xs ys : List Int) : Pure Try.prog 12 [Rel n xs, Rel m ys] (· = B (decide (n = m ∧ xs = ys))) := by
  refine GCalls.of_body i12 (by simp [g12]) ?_
  repeat' (first | refine GW.seq ?_ | refine GW.reg mxd ?_ | refine GW.block ?_ | refine GW.skip ?_ | refine GW.exit ?_ | refine GW.ret ?_ | refine loadS.rop rfl rfl rfl ?_ | refine stopS.boxro rfl (by simp) (by simp) ?_ | refine stroS.mk (by simp) (by simp) ?_ | refine valS.of (by simp [fillG, upd, sub]; rfl) ?_ | refine GW.cond rfl (fun h => ?_) (fun h => ?_) | refine guardS.split (fun h => ?_) (fun h => ?_) rfl | simp only [S, reduceIte, Nat.reduceEqDiff])
  · simp at h
    exact fin rfl (by simp [pack1, h])
  refine callS.eq (w44 xs ys) ?_
  simp at h
  subst h
  repeat' (first | refine GW.seq ?_ | refine GW.reg mxd ?_ | refine GW.block ?_ | refine GW.skip ?_ | refine GW.exit ?_ | refine GW.ret ?_ | refine loadS.rop rfl rfl rfl ?_ | refine stopS.boxro rfl (by simp) (by simp) ?_ | refine stroS.mk (by simp) (by simp) ?_ | refine valS.of (by simp [fillG, upd, sub]; rfl) ?_ | refine GW.cond rfl (fun h => ?_) (fun h => ?_) | refine guardS.split (fun h => ?_) (fun h => ?_) rfl | simp only [S, reduceIte, Nat.reduceEqDiff])
  · simp at h
    exact fin rfl (by simp [pack1, h])
  · simp at h
    exact fin rfl (by simp [pack1, h])

theorem w13 (r n : Nat) (m k : Int) (es : List GV) (H : GH) (hr : hget H r = some (1, es)) (hn : es.length = n) (hk : 0 ≤ k) (hb : k + n < 9223372036854775807) :
    GCalls Try.prog 13 [.agg [I m, .own r 1 0 n], I k] H (fun g H' => g = I (k + n) ∧ H' = hset H r ((upFrom k n).map I)) := by
  refine GCalls.of_body i13 (by simp [g13]) ?_
  repeat' (first | refine GW.seq ?_ | refine GW.reg mxd ?_ | refine GW.block ?_ | refine GW.skip ?_ | refine GW.exit ?_ | refine GW.ret ?_ | refine loadS.rop rfl rfl rfl ?_ | refine stopS.boxro rfl (by simp) (by simp) ?_ | refine stroS.mk (by simp) (by simp) ?_ | refine valS.of (by simp [fillG, upd, sub]; rfl) ?_ | refine GW.cond rfl (fun h => ?_) (fun h => ?_) | refine guardS.split (fun h => ?_) (fun h => ?_) rfl | simp only [S, reduceIte, Nat.reduceEqDiff])
  refine callS.of (w45 r n k es H hr hn hk hb) fun g H' ⟨h1, h2⟩ _ => ?_
  subst h1; subst h2
  repeat' (first | refine GW.seq ?_ | refine GW.reg mxd ?_ | refine GW.block ?_ | refine GW.skip ?_ | refine GW.exit ?_ | refine GW.ret ?_ | refine loadS.rop rfl rfl rfl ?_ | refine stopS.boxro rfl (by simp) (by simp) ?_ | refine stroS.mk (by simp) (by simp) ?_ | refine valS.of (by simp [fillG, upd, sub]; rfl) ?_ | refine GW.cond rfl (fun h => ?_) (fun h => ?_) | refine guardS.split (fun h => ?_) (fun h => ?_) rfl | simp only [S, reduceIte, Nat.reduceEqDiff])
  exact fin rfl ⟨rfl, rfl⟩

theorem w14 (xs : List Int) (m k : Int) (hk : 0 ≤ k) (hb : k + xs.length < 9223372036854775807) :
    Pure Try.prog 14 [Rel m xs, I k] (· = I (if xs = upFrom k xs.length then k + xs.length else -1)) := by
  refine GCalls.of_body i14 (by simp [g14]) ?_
  repeat' (first | refine GW.seq ?_ | refine GW.reg mxd ?_ | refine GW.block ?_ | refine GW.skip ?_ | refine GW.exit ?_ | refine GW.ret ?_ | refine loadS.rop rfl rfl rfl ?_ | refine stopS.boxro rfl (by simp) (by simp) ?_ | refine stroS.mk (by simp) (by simp) ?_ | refine valS.of (by simp [fillG, upd, sub]; rfl) ?_ | refine GW.cond rfl (fun h => ?_) (fun h => ?_) | refine guardS.split (fun h => ?_) (fun h => ?_) rfl | simp only [S, reduceIte, Nat.reduceEqDiff])
  refine callS.eq (w46 xs k hk hb) ?_
  repeat' (first | refine GW.seq ?_ | refine GW.reg mxd ?_ | refine GW.block ?_ | refine GW.skip ?_ | refine GW.exit ?_ | refine GW.ret ?_ | refine loadS.rop rfl rfl rfl ?_ | refine stopS.boxro rfl (by simp) (by simp) ?_ | refine stroS.mk (by simp) (by simp) ?_ | refine valS.of (by simp [fillG, upd, sub]; rfl) ?_ | refine GW.cond rfl (fun h => ?_) (fun h => ?_) | refine guardS.split (fun h => ?_) (fun h => ?_) rfl | simp only [S, reduceIte, Nat.reduceEqDiff])
  · refine fin rfl ?_
    simp at h
    simp only [pack1]
    split at h
    · omega
    · rename_i h'; rw [if_neg h']
  · exact fin rfl (by simp [pack1])

def clampN (n : Int) : Nat := if 0 ≤ n ∧ n ≤ 16 then n.toNat else 0

theorem w10o (n : Int) (H : GH) : GCalls Try.prog 10 [I n] H (fun g H' => ∃ r, g = .agg [I (clampN n), .own r 1 0 (clampN n)] ∧ H' = (r, 1, (List.replicate (clampN n) 0).map I) :: H) := by
  refine GCalls.of_body i10 (by simp [g10]) ?_
  repeat' (first | refine GW.seq ?_ | refine GW.reg mxd ?_ | refine GW.block ?_ | refine GW.skip ?_ | refine GW.exit ?_ | refine GW.ret ?_ | refine loadS.rop rfl rfl rfl ?_ | refine stopS.boxro rfl (by simp) (by simp) ?_ | refine stroS.mk (by simp) (by simp) ?_ | refine valS.of (by simp [fillG, upd, sub]; rfl) ?_ | refine GW.cond rfl (fun h => ?_) (fun h => ?_) | refine guardS.split (fun h => ?_) (fun h => ?_) rfl | simp only [S, reduceIte, Nat.reduceEqDiff])
  refine callS.eq (w42 n 0 16) ?_
  repeat' (first | refine GW.seq ?_ | refine GW.reg mxd ?_ | refine GW.block ?_ | refine GW.skip ?_ | refine GW.exit ?_ | refine GW.ret ?_ | refine loadS.rop rfl rfl rfl ?_ | refine stopS.boxro rfl (by simp) (by simp) ?_ | refine stroS.mk (by simp) (by simp) ?_ | refine valS.of (by simp [fillG, upd, sub]; rfl) ?_ | refine GW.cond rfl (fun h => ?_) (fun h => ?_) | refine guardS.split (fun h => ?_) (fun h => ?_) rfl | simp only [S, reduceIte, Nat.reduceEqDiff])
  · simp only [Bool.not_eq_true', decide_eq_false_iff_not] at h
    have hc : clampN n = 0 := by rw [clampN, if_neg h]
    refine finr rfl (FR.trans (FR.addv (r := vname H) (sz := 1) (vname_odd H) (vname_new H)) (FR.sub (.agg (.cons .refl (.cons (Bor.virt (r := vname H) (sz := 1)) .nil))))) ⟨vname H, ?_, ?_⟩ <;> simp [hc]
  · simp only [Bool.not_eq_false', decide_eq_true_eq] at h
    have hc : clampN n = n.toNat := by rw [clampN, if_pos h]
    refine stopS.mkslice rfl rfl (by omega) (by omega) (by omega) (by omega) fun r hr => ?_
    repeat' (first | refine GW.seq ?_ | refine GW.reg mxd ?_ | refine GW.block ?_ | refine GW.skip ?_ | refine GW.exit ?_ | refine GW.ret ?_ | refine loadS.rop rfl rfl rfl ?_ | refine stopS.boxro rfl (by simp) (by simp) ?_ | refine stroS.mk (by simp) (by simp) ?_ | refine valS.of (by simp [fillG, upd, sub]; rfl) ?_ | refine GW.cond rfl (fun h => ?_) (fun h => ?_) | refine guardS.split (fun h => ?_) (fun h => ?_) rfl | simp only [S, reduceIte, Nat.reduceEqDiff])
    refine fin rfl ⟨r, ?_, ?_⟩
    · simp [pack1, hc]; omega
    · simp [hc]

theorem w11o (n : Int) (H : GH) : GCalls Try.prog 11 [I n] H (fun g H' => ∃ r, g = .agg [I (clampN n), .own r 1 0 (clampN n)] ∧ H' = (r, 1, (List.replicate (clampN n) 0).map I) :: H) := by
  refine GCalls.of_body i11 (by simp [g11]) ?_
  repeat' (first | refine GW.seq ?_ | refine GW.reg mxd ?_ | refine GW.block ?_ | refine GW.skip ?_ | refine GW.exit ?_ | refine GW.ret ?_ | refine loadS.rop rfl rfl rfl ?_ | refine stopS.boxro rfl (by simp) (by simp) ?_ | refine stroS.mk (by simp) (by simp) ?_ | refine valS.of (by simp [fillG, upd, sub]; rfl) ?_ | refine GW.cond rfl (fun h => ?_) (fun h => ?_) | refine guardS.split (fun h => ?_) (fun h => ?_) rfl | simp only [S, reduceIte, Nat.reduceEqDiff])
  refine callS.eq (w43 n 0 16) ?_
  repeat' (first | refine GW.seq ?_ | refine GW.reg mxd ?_ | refine GW.block ?_ | refine GW.skip ?_ | refine GW.exit ?_ | refine GW.ret ?_ | refine loadS.rop rfl rfl rfl ?_ | refine stopS.boxro rfl (by simp) (by simp) ?_ | refine stroS.mk (by simp) (by simp) ?_ | refine valS.of (by simp [fillG, upd, sub]; rfl) ?_ | refine GW.cond rfl (fun h => ?_) (fun h => ?_) | refine guardS.split (fun h => ?_) (fun h => ?_) rfl | simp only [S, reduceIte, Nat.reduceEqDiff])
  · simp only [Bool.not_eq_true', decide_eq_false_iff_not] at h
    have hc : clampN n = 0 := by rw [clampN, if_neg h]
    refine finr rfl (FR.trans (FR.addv (r := vname H) (sz := 1) (vname_odd H) (vname_new H)) (FR.sub (.agg (.cons .refl (.cons (Bor.virt (r := vname H) (sz := 1)) .nil))))) ⟨vname H, ?_, ?_⟩ <;> simp [hc]
  · simp only [Bool.not_eq_false', decide_eq_true_eq] at h
    have hc : clampN n = n.toNat := by rw [clampN, if_pos h]
    refine stopS.mkslice rfl rfl (by omega) (by omega) (by omega) (by omega) fun r hr => ?_
    repeat' (first | refine GW.seq ?_ | refine GW.reg mxd ?_ | refine GW.block ?_ | refine GW.skip ?_ | refine GW.exit ?_ | refine GW.ret ?_ | refine loadS.rop rfl rfl rfl ?_ | refine stopS.boxro rfl (by simp) (by simp) ?_ | refine stroS.mk (by simp) (by simp) ?_ | refine valS.of (by simp [fillG, upd, sub]; rfl) ?_ | refine GW.cond rfl (fun h => ?_) (fun h => ?_) | refine guardS.split (fun h => ?_) (fun h => ?_) rfl | simp only [S, reduceIte, Nat.reduceEqDiff])
    refine fin rfl ⟨r, ?_, ?_⟩
    · simp [pack1, hc]; omega
    · simp [hc]

theorem w10 (n : Int) : Pure Try.prog 10 [I n] (· = Rel (clampN n) (List.replicate (clampN n) 0)) := by
  refine (w10o n []).fr ?_
  rintro g H' ⟨r, rfl, rfl⟩
  exact ⟨_, _, FR.freeze hget_new (.agg (.cons .refl (.cons (.all hget_new (by simp) (by simp [view])) .nil))), by simp⟩

theorem w3 (n : Int) : Pure Try.prog 3 [I n] (· = B true) := by
  refine GCalls.of_body i3 (by simp [g3]) ?_
  repeat' (first | refine GW.seq ?_ | refine GW.reg mxd ?_ | refine GW.block ?_ | refine GW.skip ?_ | refine GW.exit ?_ | refine GW.ret ?_ | refine loadS.rop rfl rfl rfl ?_ | refine stopS.boxro rfl (by simp) (by simp) ?_ | refine stroS.mk (by simp) (by simp) ?_ | refine valS.of (by simp [fillG, upd, sub]; rfl) ?_ | refine GW.cond rfl (fun h => ?_) (fun h => ?_) | refine guardS.split (fun h => ?_) (fun h => ?_) rfl | simp only [S, reduceIte, Nat.reduceEqDiff])
  refine callS.eq (w10 n) ?_
  repeat' (first | refine GW.seq ?_ | refine GW.reg mxd ?_ | refine GW.block ?_ | refine GW.skip ?_ | refine GW.exit ?_ | refine GW.ret ?_ | refine loadS.rop rfl rfl rfl ?_ | refine stopS.boxro rfl (by simp) (by simp) ?_ | refine stroS.mk (by simp) (by simp) ?_ | refine valS.of (by simp [fillG, upd, sub]; rfl) ?_ | refine GW.cond rfl (fun h => ?_) (fun h => ?_) | refine guardS.split (fun h => ?_) (fun h => ?_) rfl | simp only [S, reduceIte, Nat.reduceEqDiff])
  refine callS.of (w11o n _) ?_
  rintro g H' ⟨r1, rfl, rfl⟩ -
  have hz : ((List.replicate (clampN n) 0).map I).map view = (List.replicate (clampN n) 0).map I := by simp [view]
  have hc : clampN n ≤ 16 := by simp only [clampN]; split <;> omega
  have hu : ((upFrom 1 (clampN n)).map I).map view = (upFrom 1 (clampN n)).map I := by simp [view]
  repeat' (first | refine GW.seq ?_ | refine GW.reg mxd ?_ | refine GW.block ?_ | refine GW.skip ?_ | refine GW.exit ?_ | refine GW.ret ?_ | refine loadS.rop rfl rfl rfl ?_ | refine stopS.boxro rfl (by simp) (by simp) ?_ | refine stroS.mk (by simp) (by simp) ?_ | refine valS.of (by simp [fillG, upd, sub]; rfl) ?_ | refine GW.cond rfl (fun h => ?_) (fun h => ?_) | refine guardS.split (fun h => ?_) (fun h => ?_) rfl | simp only [S, reduceIte, Nat.reduceEqDiff])
  refine callS.bor (w12 (clampN n) (clampN n) (List.replicate (clampN n) 0) (List.replicate (clampN n) 0)) (.cons (.agg (.cons .refl (.cons (Bor.all hget_new (by simp) hz) .nil))) (.cons .refl .nil)) rfl ?_
  repeat' (first | refine GW.seq ?_ | refine GW.reg mxd ?_ | refine GW.block ?_ | refine GW.skip ?_ | refine GW.exit ?_ | refine GW.ret ?_ | refine loadS.rop rfl rfl rfl ?_ | refine stopS.boxro rfl (by simp) (by simp) ?_ | refine stroS.mk (by simp) (by simp) ?_ | refine valS.of (by simp [fillG, upd, sub]; rfl) ?_ | refine GW.cond rfl (fun h => ?_) (fun h => ?_) | refine guardS.split (fun h => ?_) (fun h => ?_) rfl | simp only [S, reduceIte, Nat.reduceEqDiff])
  · simp at h
  refine callS.of (w13 r1 (clampN n) (clampN n) 1 _ _ hget_new (by simp) (by omega) (by omega)) ?_
  rintro g H' ⟨rfl, rfl⟩ hnd
  rw [hset_new] at hnd ⊢
  repeat' (first | refine GW.seq ?_ | refine GW.reg mxd ?_ | refine GW.block ?_ | refine GW.skip ?_ | refine GW.exit ?_ | refine GW.ret ?_ | refine loadS.rop rfl rfl rfl ?_ | refine stopS.boxro rfl (by simp) (by simp) ?_ | refine stroS.mk (by simp) (by simp) ?_ | refine valS.of (by simp [fillG, upd, sub]; rfl) ?_ | refine GW.cond rfl (fun h => ?_) (fun h => ?_) | refine guardS.split (fun h => ?_) (fun h => ?_) rfl | simp only [S, reduceIte, Nat.reduceEqDiff])
  refine callS.bor (w14 (upFrom 1 (clampN n)) (clampN n) 1 (by omega) (by simp [upFrom_len]; omega)) (.cons (.agg (.cons .refl (.cons (.all hget_new (by simp [upFrom_len]) hu) .nil))) (.cons .refl .nil)) rfl ?_
  simp only [upFrom_len, if_true]
  repeat' (first | refine GW.seq ?_ | refine GW.reg mxd ?_ | refine GW.block ?_ | refine GW.skip ?_ | refine GW.exit ?_ | refine GW.ret ?_ | refine loadS.rop rfl rfl rfl ?_ | refine stopS.boxro rfl (by simp) (by simp) ?_ | refine stroS.mk (by simp) (by simp) ?_ | refine valS.of (by simp [fillG, upd, sub]; rfl) ?_ | refine GW.cond rfl (fun h => ?_) (fun h => ?_) | refine guardS.split (fun h => ?_) (fun h => ?_) rfl | simp only [S, reduceIte, Nat.reduceEqDiff])
  · simp at h; omega
  · simp at h
  refine callS.of (w11o n _) ?_
  rintro g H' ⟨r2, rfl, rfl⟩ hnd2
  have hne : r2 ≠ r1 := ne_of_new hnd2 hget_new
  repeat' (first | refine GW.seq ?_ | refine GW.reg mxd ?_ | refine GW.block ?_ | refine GW.skip ?_ | refine GW.exit ?_ | refine GW.ret ?_ | refine loadS.rop rfl rfl rfl ?_ | refine stopS.boxro rfl (by simp) (by simp) ?_ | refine stroS.mk (by simp) (by simp) ?_ | refine valS.of (by simp [fillG, upd, sub]; rfl) ?_ | refine GW.cond rfl (fun h => ?_) (fun h => ?_) | refine guardS.split (fun h => ?_) (fun h => ?_) rfl | simp only [S, reduceIte, Nat.reduceEqDiff])
  refine callS.bor (w12 (clampN n) (clampN n) (List.replicate (clampN n) 0) (List.replicate (clampN n) 0)) (.cons (.agg (.cons .refl (.cons (Bor.all hget_new (by simp) hz) .nil))) (.cons .refl .nil)) rfl ?_
  repeat' (first | refine GW.seq ?_ | refine GW.reg mxd ?_ | refine GW.block ?_ | refine GW.skip ?_ | refine GW.exit ?_ | refine GW.ret ?_ | refine loadS.rop rfl rfl rfl ?_ | refine stopS.boxro rfl (by simp) (by simp) ?_ | refine stroS.mk (by simp) (by simp) ?_ | refine valS.of (by simp [fillG, upd, sub]; rfl) ?_ | refine GW.cond rfl (fun h => ?_) (fun h => ?_) | refine guardS.split (fun h => ?_) (fun h => ?_) rfl | simp only [S, reduceIte, Nat.reduceEqDiff])
  · simp at h
  refine callS.bor (w14 (upFrom 1 (clampN n)) (clampN n) 1 (by omega) (by simp [upFrom_len]; omega)) (.cons (.agg (.cons .refl (.cons (.all (by rw [hget_old hne]; exact hget_new) (by simp [upFrom_len]) hu) .nil))) (.cons .refl .nil)) rfl ?_
  simp only [upFrom_len, if_true]
  repeat' (first | refine GW.seq ?_ | refine GW.reg mxd ?_ | refine GW.block ?_ | refine GW.skip ?_ | refine GW.exit ?_ | refine GW.ret ?_ | refine loadS.rop rfl rfl rfl ?_ | refine stopS.boxro rfl (by simp) (by simp) ?_ | refine stroS.mk (by simp) (by simp) ?_ | refine valS.of (by simp [fillG, upd, sub]; rfl) ?_ | refine GW.cond rfl (fun h => ?_) (fun h => ?_) | refine guardS.split (fun h => ?_) (fun h => ?_) rfl | simp only [S, reduceIte, Nat.reduceEqDiff])
  · simp at h; omega
  · simp at h
  exact fin rfl rfl
end Go.Proofs.Ytinbimopkakinaa

namespace Go.Proofs.Ytinbimopkakinaa
open Go.ChangeShapes Go.WideShapes Go.ChangeAt Go.RowKit Go.Gh

theorem Try.own : ownKnob Try.prog.godebug = none := by kernel_rfl
theorem Try.laidOut : laidOutB Try.prog = true := by kernel_rfl

set_option maxRecDepth 100000 in
theorem l3 (os : Os) (started : os.Started) (H : Type) (enc : TypeId × Value → H) :
    ReturnsInHanded {} Try.checked os 3 .any (Rows.fnExactEmptyRelationSpec.pre6 enc Try.prog Try.f3 Rows.fnExactEmptyRelationRow.domain false) (Rows.fnExactEmptyRelationSpec.post enc Try.prog Try.f3 false true false false) := by
  refine returnsInHanded_of_change (C := Try.checked) Try.own started (by kernel_rfl) Try.func3
    (ChangeSpec.witness6 (enc := enc) (C := Try.checked) false ⟨#[], #[.int .i64 0], []⟩ 8 (by kernel_rfl) (by kernel_rfl) (by kernel_rfl) (by kernel_rfl)) ?_
  intro W base args ds gs before hval0 hW hcnd _
  have hval : ∀ (j : Nat) t v, Try.f3.params[j]? = some t → args[j]? = some v → Value.okWide Try.prog W .any base t v := hval0
  have hW' := hW
  obtain ⟨p, q, hA0, hV, rfl, hfz, hnd⟩ := hW
  have hA : DataW.TrodAll enc Try.prog W 0 (fun _ => true) true Try.f3.params.toList args.toList ds p := hA0
  rw [Try.params3] at hA hval
  obtain ⟨v0, d0, rfl, rfl, h0⟩ := trodAll_one hA
  obtain ⟨rfl, rfl⟩ := trodVars_none hV
  obtain ⟨a, rfl, rfl, rfl, w0⟩ := open_int Try.underlying3 (hval 0 3 v0 rfl rfl) h0
  clear hA0 hval0
  simp only [List.append_nil] at hW'
  refine ((w3 a).out i3 (W := W) (args := [.int .i64 a]) (.cons0 .val0 .nil0)).mono fun e W' ⟨v, g, D, he, hg, hm, hb⟩ => ?_
  subst he; subst hg
  have hv := MV.val_inv hm
  subst hv
  exact ⟨_, rfl, post_of_below (pa := []) (pv := []) hW' (fun _ _ _ => trodAll_mk1 (shut_bool Try.underlying4 _)) (fun sp _ => trodAll_mk1 (shut_int Try.underlying3 w0)) (fun _ _ => rfl) rfl
    hb (ok_one (by kernel_rfl) rfl (okWide_bool_mk Try.underlying4 _))⟩

theorem l3_holds : Rows.FnExactEmptyRelationSaid :=
  OpenClaim.holds_of_wide 3 Try.f3 rfl rfl rfl rfl rfl rfl rfl ⟨rfl, rfl, rfl, rfl, rfl⟩ rfl rfl rfl rfl rfl (by kernel_rfl) Try.func3 (by kernel_rfl)
    (of_decide_eq_true (by kernel_rfl)) (by unfold Func.isWrapper; first | (rw [if_pos (by decide +kernel)]; kernel_rfl) | (rw [if_neg (by decide +kernel)]; exact ⟨rfl, rfl⟩))
    (fun os started H enc _ => l3 os started H enc)
end Go.Proofs.Ytinbimopkakinaa
