/- The law FnExactTreeCycle returns true whatever the input, and the input reads behind the call as before. No condition. -/
import Derived.Test.YtbdmpkidcpblaaaGreatCyc1
import Derived.Test.YtbdmpkidcpblaaaGreatRows
import Derived.Test.YtbdmpkidcpblaaaGreatChecked
import Derived.KernelRfl
namespace Go.Proofs.YtbdmpkidcpblaaaGreat
open Go.Gh Go.Gh.Z
def g3 : GFun := ⟨⟨92,[2,3,7,8]⟩,(s [a 2 2 0,a 3 1 1,b 4 false] (s [k 5 1048576] (s [h 14 2 2,m 15 5,c 16 7 [.t 14,.t 15],m 5 16] (.seq (s [m 17 5,q 18 .lss 17 0] (.cond 18 (s [b 4 true] .ret) .skip)) (s [h 19 1 3,m 20 5,c 21 8 [.t 19,
 .t 20],m 5 21] (.seq (s [m 22 5,q 23 .lss 22 0] (.cond 23 (s [b 4 true] .ret) .skip)) (s [h 24 2 2,x 25 (.call true 10 [.t 24]),h 26 1 3,x 27 (.call true 11 [.t 26]),x 28 (.call true 9 [.t 25,.t 27]),m 6 28] (s [h 29 2 2,c 30 10 [.t 29],
 x 7 (.allocr 2),x 7 (.stro 2 7 (.t 30))] (s [h 31 1 3,c 32 11 [.t 31],x 8 (.allocr 1),x 8 (.stro 1 8 (.t 32))] (s [h 33 2 7,h 34 1 8,c 35 12 [.t 33,.t 34],m 9 35] (.seq (s [m 36 9,m 37 6,c 38 13 [.t 36,.t 37],w 39 38] (.cond 39
 (s [b 4 false] .ret) .skip)) (.seq (s [h 40 2 7,h 41 2 2,x 42 (.call true 10 [.t 41]),x 43 (.call true 14 [.t 40,.t 42]),w 44 43] (.cond 44 (s [b 4 false] .ret) .skip)) (.seq (s [h 45 1 8,h 46 1 3,x 47 (.call true 11 [.t 46]),x 48
 (.call true 15 [.t 45,.t 47]),w 49 48] (.cond 49 (s [b 4 false] .ret) .skip)) (s [k 10 1] (s [h 50 2 7,m 51 10,c 52 16 [.t 50,.t 51],m 10 52] (s [h 53 1 8,m 54 10,c 55 17 [.t 53,.t 54],m 10 55] (.seq (s [m 56 10,q 57 .lss 56 0,m 58 57,
 z 59 58 (.mov (.t 9)),z 60 58 (.mov (.t 6)),z 61 58 (.call false 13 [.t 59,.t 60]),z 62 58 (.not (.t 61)),x 63 (.pick (.t 58) (.k (.val (.bool true))) (.t 62))] (.cond 63 (s [b 4 false] .ret) .skip)) (s [k 11 1] (s [m 64 9,m 65 11,
 c 66 18 [.t 64,.t 65],m 11 66] (s [k 12 1] (s [m 67 9,m 68 12,c 69 19 [.t 67,.t 68],m 12 69] (.seq (s [m 70 12,q 71 .lss 70 0] (.cond 71 (s [b 4 false] .ret) .skip)) (.seq (s [m 72 12,m 73 11,o 74 .neq 72 73] (.cond 74
 (s [b 4 false] .ret) .skip)) (s [h 75 2 2,x 76 (.call true 10 [.t 75]),h 77 1 3,x 78 (.call true 11 [.t 77]),x 79 (.call true 12 [.t 76,.t 78]),m 13 79] (.seq (s [m 80 13,m 81 6,c 82 13 [.t 80,.t 81],w 83 82] (.cond 83
 (s [b 4 false] .ret) .skip)) (s [k 12 1] (s [m 84 9,m 85 12,c 86 19 [.t 84,.t 85],m 12 86] (.seq (s [m 87 12,q 88 .lss 87 0] (.cond 88 (s [b 4 false] .ret) .skip)) (.seq (s [m 89 12,m 90 11,o 91 .neq 89 90] (.cond 91
 (s [b 4 false] .ret) .skip)) (s [b 4 true] .ret)))))))))))))))))))))))))))))),[.t 4]⟩
theorem i3 : IsFun Tryz.prog 3 g3 := ⟨Tryz.f3, _, [], Tryz.func3, by kernel_rfl, rfl, by kernel_rfl, by kernel_rfl, rfl⟩
def g7 : GFun := ⟨⟨18,[2]⟩,(s [a 2 2 0,k 4 0] (s [f 5 0 2,l 6 5,m 7 1,c 8 27 [.t 6,.t 7],m 1 8] (.seq (s [m 9 1,q 10 .lss 9 0] (.cond 10 (s [k 4 (-1)] .ret) .skip)) (s [f 11 1 2,l 12 11,m 13 1,c 14 28 [.t 12,.t 13],m 1 14] (.seq (s [m 15 1,
 q 16 .lss 15 0] (.cond 16 (s [k 4 (-1)] .ret) .skip)) (s [m 17 1,m 4 17] .ret)))))),[.t 4]⟩
theorem i7 : IsFun Tryz.prog 7 g7 := ⟨Tryz.f7, _, [], Tryz.func7, by kernel_rfl, rfl, by kernel_rfl, by kernel_rfl, rfl⟩
def g8 : GFun := ⟨⟨12,[2]⟩,(s [a 2 1 0,k 4 0] (s [f 5 0 2,l 6 5,m 7 1,c 8 29 [.t 6,.t 7],m 1 8] (.seq (s [m 9 1,q 10 .lss 9 0] (.cond 10 (s [k 4 (-1)] .ret) .skip)) (s [m 11 1,m 4 11] .ret)))),[.t 4]⟩
theorem i8 : IsFun Tryz.prog 8 g8 := ⟨Tryz.f8, _, [], Tryz.func8, by kernel_rfl, rfl, by kernel_rfl, by kernel_rfl, rfl⟩
def g9 : GFun := ⟨⟨39,[2,3]⟩,(s [a 2 2 0,a 3 1 1,x 4 (.mov (.k (.val (.slice none 0 0))))] (s [h 9 2 2,h 10 1 3,c 11 30 [.t 9,.t 10],m 5 11] (s [x 12 (.bslice 1 [] 0 false []),m 6 12] (.seq (s [k 7 0] (.block 0 (.loop (.seq (s [m 13 7,
 m 14 5,n 15 14,o 16 .lss 13 15] (.cond 16 .skip (.exit 0))) (.seq (.block 1 (s [m 19 5,m 20 7,c 21 31 [.t 19,.t 20],m 8 21] (s [m 22 8,n 23 22,q 24 .gtr 23 0,m 25 24,y 26 25 (.mov (.t 6)),y 27 25 (.len (.t 26)),y 28 25 (.bin .eql (.t 27)
 (.k (.val (.int .i64 0)))),y 29 25 (.mov (.t 28)),z 30 29 (.mov (.t 8)),z 31 29 (.len (.t 30)),z 32 29 (.mov (.t 6)),z 33 29 (.len (.t 32)),z 34 29 (.bin .lss (.t 31) (.t 33)),y 35 25 (.pick (.t 29) (.k (.val (.bool true))) (.t 34)),x 36
 (.pick (.t 25) (.t 35) (.k (.val (.bool false))))] (.cond 36 (.reg [m 37 8,m 6 37]) .skip)))) (.reg [m 17 7,q 18 .add 17 1,m 7 18])))))) (s [m 38 6,m 4 38] .ret))))),[.t 4]⟩
theorem i9 : IsFun Tryz.prog 9 g9 := ⟨Tryz.f9, _, [], Tryz.func9, by kernel_rfl, rfl, by kernel_rfl, by kernel_rfl, rfl⟩
def g10 : GFun := ⟨⟨13,[1,2]⟩,(s [a 1 2 0,x 2 (.allocr 2)] (s [x 3 (.alloc 2 (.agg [(.val (.slice none 0 0)),(.val (.slice none 0 0))]))] (s [f 4 0 1,l 5 4,c 6 32 [.t 5],f 7 0 3,(.mk none none (.store 1 (.t 7) (.t 6)))] (s [f 8 1 1,l 9 8,
 c 10 33 [.t 9],f 11 1 3,(.mk none none (.store 1 (.t 11) (.t 10)))] (s [h 12 2 3,x 2 (.stro 2 2 (.t 12))] .ret))))),[(.c 2 2 true)]⟩
theorem i10 : IsFun Tryz.prog 10 g10 := ⟨Tryz.f10, _, [], Tryz.func10, by kernel_rfl, rfl, by kernel_rfl, by kernel_rfl, rfl⟩
def g11 : GFun := ⟨⟨9,[1,2]⟩,(s [a 1 1 0,x 2 (.allocr 1)] (s [x 3 (.alloc 1 (.agg [(.val (.slice none 0 0))]))] (s [f 4 0 1,l 5 4,c 6 34 [.t 5],f 7 0 3,(.mk none none (.store 1 (.t 7) (.t 6)))] (s [h 8 1 3,x 2 (.stro 1 2 (.t 8))] .ret)))),
 [(.c 2 1 true)]⟩
theorem i11 : IsFun Tryz.prog 11 g11 := ⟨Tryz.f11, _, [], Tryz.func11, by kernel_rfl, rfl, by kernel_rfl, by kernel_rfl, rfl⟩
def g12 : GFun := ⟨⟨92,[2,3]⟩,(s [a 2 2 0,a 3 1 1,x 4 (.mov (.k (.val (.slice none 0 0))))] (s [h 17 2 2,h 18 1 3,c 19 36 [.t 17,.t 18],c 20 35 [.t 19],m 5 20] (s [k 6 (-1),k 7 0] (.seq (s [m 21 5,n 22 21,k 23 0] (.block 0 (.loop
 (s [o 24 .lss 23 22] (.seq (.cond 24 .skip (.exit 0)) (.seq (.block 1 (s [m 25 23,m 8 25] (s [m 26 5,m 27 8,c 28 37 [.t 26,.t 27],m 29 8,i 30 1 28 29,l 31 30,m 9 31] (s [m 32 9,q 33 .gtr 32 0,m 34 33,y 35 34 (.mov (.t 6)),y 36 34
 (.bin .lss (.t 35) (.k (.val (.int .i64 0)))),y 37 34 (.mov (.t 36)),z 38 37 (.mov (.t 9)),z 39 37 (.mov (.t 7)),z 40 37 (.bin .lss (.t 38) (.t 39)),y 41 34 (.pick (.t 37) (.k (.val (.bool true))) (.t 40)),x 42 (.pick (.t 34) (.t 41) (.k
 (.val (.bool false))))] (.cond 42 (.reg [m 43 8,m 44 9,m 6 43,m 7 44]) .skip))))) (.reg [q 45 .add 23 1,m 23 45]))))))) (.seq (s [m 46 6,q 47 .lss 46 0] (.cond 47 (s [x 4 (.mov (.k (.val (.slice none 0 0))))] .ret) .skip)) (s [m 48 5,
 m 49 6,c 50 37 [.t 48,.t 49],m 51 6,x 52 (.bslice 1 [] 1 false [(0,(.t 51))]),m 53 6,m 10 50,m 11 52,m 12 53] (.seq (s [m 54 7,q 55 .sub 54 1,m 13 55] (.block 2 (.loop (.seq (s [m 56 13,q 57 .gtr 56 0] (.cond 57 .skip (.exit 2))) (.seq
 (.block 3 (s [k 14 (-1)] (.seq (s [m 60 5,m 61 12,i 62 1 60 61,l 63 62,n 64 63,k 65 0] (.block 4 (.loop (s [o 66 .lss 65 64] (.seq (.cond 66 .skip (.exit 4)) (.seq (.block 5 (s [i 67 1 63 65,l 68 67,m 16 68] (s [m 69 10,m 70 16,
 i 71 1 69 70,l 72 71,m 73 13,o 74 .eql 72 73,m 75 74,y 76 75 (.mov (.t 14)),y 77 75 (.bin .lss (.t 76) (.k (.val (.int .i64 0)))),y 78 75 (.mov (.t 77)),z 79 78 (.mov (.t 16)),z 80 78 (.mov (.t 14)),z 81 78 (.bin .lss (.t 79) (.t 80)),
 y 82 75 (.pick (.t 78) (.k (.val (.bool true))) (.t 81)),x 83 (.pick (.t 75) (.t 82) (.k (.val (.bool false))))] (.cond 83 (.reg [m 84 16,m 14 84]) .skip)))) (.reg [q 85 .add 65 1,m 65 85]))))))) (.reg [m 86 11,m 87 14,x 88
 (.bslice 1 [] 1 false [(0,(.t 87))]),x 89 (.append 1 8 (.t 86) (.t 88)),m 90 14,m 11 89,m 12 90])))) (.reg [m 58 13,q 59 .sub 58 1,m 13 59])))))) (s [m 91 11,m 4 91] .ret)))))))),[.t 4]⟩
theorem i12 : IsFun Tryz.prog 12 g12 := ⟨Tryz.f12, _, [], Tryz.func12, by kernel_rfl, rfl, by kernel_rfl, by kernel_rfl, rfl⟩
def g13 : GFun := ⟨⟨26,[]⟩,(s [b 4 false] (.seq (s [m 6 0,n 7 6,m 8 1,n 9 8,o 10 .neq 7 9] (.cond 10 (s [b 4 false] .ret) .skip)) (.seq (s [k 5 0] (.block 0 (.loop (.seq (s [m 11 5,m 12 0,n 13 12,o 14 .lss 11 13] (.cond 14 .skip
 (.exit 0))) (.seq (.block 1 (s [m 17 0,m 18 5,i 19 1 17 18,m 21 1,m 22 5,i 23 1 21 22,l 20 19,l 24 23,o 25 .neq 20 24] (.cond 25 (s [b 4 false] .ret) .skip))) (.reg [m 15 5,q 16 .add 15 1,m 5 16])))))) (s [b 4 true] .ret)))),[.t 4]⟩
theorem i13 : IsFun Tryz.prog 13 g13 := ⟨Tryz.f13, _, [], Tryz.func13, by kernel_rfl, rfl, by kernel_rfl, by kernel_rfl, rfl⟩
def g14 : GFun := ⟨⟨17,[2,3]⟩,(s [a 2 2 0,a 3 2 1,b 4 false] (.seq (s [f 5 0 2,l 6 5,f 7 0 3,l 8 7,c 9 38 [.t 6,.t 8],w 10 9] (.cond 10 (s [b 4 false] .ret) .skip)) (.seq (s [f 11 1 2,l 12 11,f 13 1 3,l 14 13,c 15 39 [.t 12,.t 14],
 w 16 15] (.cond 16 (s [b 4 false] .ret) .skip)) (s [b 4 true] .ret)))),[.t 4]⟩
theorem i14 : IsFun Tryz.prog 14 g14 := ⟨Tryz.f14, _, [], Tryz.func14, by kernel_rfl, rfl, by kernel_rfl, by kernel_rfl, rfl⟩
def g15 : GFun := ⟨⟨11,[2,3]⟩,(s [a 2 1 0,a 3 1 1,b 4 false] (.seq (s [f 5 0 2,l 6 5,f 7 0 3,l 8 7,c 9 40 [.t 6,.t 8],w 10 9] (.cond 10 (s [b 4 false] .ret) .skip)) (s [b 4 true] .ret))),[.t 4]⟩
theorem i15 : IsFun Tryz.prog 15 g15 := ⟨Tryz.f15, _, [], Tryz.func15, by kernel_rfl, rfl, by kernel_rfl, by kernel_rfl, rfl⟩
def g16 : GFun := ⟨⟨14,[2]⟩,(s [a 2 2 0,k 4 0] (s [f 5 0 2,l 6 5,m 7 1,c 8 41 [.t 6,.t 7],m 1 8] (s [f 9 1 2,l 10 9,m 11 1,c 12 42 [.t 10,.t 11],m 1 12] (s [m 13 1,m 4 13] .ret)))),[.t 4]⟩
theorem i16 : IsFun Tryz.prog 16 g16 := ⟨Tryz.f16, _, [], Tryz.func16, by kernel_rfl, rfl, by kernel_rfl, by kernel_rfl, rfl⟩
def g17 : GFun := ⟨⟨10,[2]⟩,(s [a 2 1 0,k 4 0] (s [f 5 0 2,l 6 5,m 7 1,c 8 43 [.t 6,.t 7],m 1 8] (s [m 9 1,m 4 9] .ret))),[.t 4]⟩
theorem i17 : IsFun Tryz.prog 17 g17 := ⟨Tryz.f17, _, [], Tryz.func17, by kernel_rfl, rfl, by kernel_rfl, by kernel_rfl, rfl⟩
def g18 : GFun := ⟨⟨19,[]⟩,(s [k 4 0] (.seq (s [k 5 0] (.block 0 (.loop (.seq (s [m 6 5,m 7 0,n 8 7,o 9 .lss 6 8] (.cond 9 .skip (.exit 0))) (.seq (.block 1 (s [m 12 0,m 13 5,m 14 1,i 15 1 12 13,(.mk none none (.store 1 (.t 15) (.t 14)))]
 (.reg [m 16 1,q 17 .add 16 1,m 1 17]))) (.reg [m 10 5,q 11 .add 10 1,m 5 11])))))) (s [m 18 1,m 4 18] .ret))),[.t 4]⟩
theorem i18 : IsFun Tryz.prog 18 g18 := ⟨Tryz.f18, _, [], Tryz.func18, by kernel_rfl, rfl, by kernel_rfl, by kernel_rfl, rfl⟩
def g19 : GFun := ⟨⟨21,[]⟩,(s [k 4 0] (.seq (s [k 5 0] (.block 0 (.loop (.seq (s [m 6 5,m 7 0,n 8 7,o 9 .lss 6 8] (.cond 9 .skip (.exit 0))) (.seq (.block 1 (.seq (s [m 12 0,m 13 5,i 14 1 12 13,l 15 14,m 16 1,o 17 .neq 15 16] (.cond 17
 (s [k 4 (-1)] .ret) .skip)) (.reg [m 18 1,q 19 .add 18 1,m 1 19]))) (.reg [m 10 5,q 11 .add 10 1,m 5 11])))))) (s [m 20 1,m 4 20] .ret))),[.t 4]⟩
theorem i19 : IsFun Tryz.prog 19 g19 := ⟨Tryz.f19, _, [], Tryz.func19, by kernel_rfl, rfl, by kernel_rfl, by kernel_rfl, rfl⟩
def g25 : GFun := ⟨⟨22,[]⟩,(s [x 2 (.mov (.k (.val (.slice none 0 0))))] (s [m 5 0,n 6 5,x 7 (.mkslice 1 8 (.val (.int .i64 0)) (.t 6) (.t 6)),m 3 7] (.seq (s [k 4 0] (.block 0 (.loop (.seq (s [m 8 4,m 9 0,n 10 9,o 11 .lss 8 10]
 (.cond 11 .skip (.exit 0))) (.seq (.block 1 (.reg [m 14 3,m 15 4,m 16 0,m 17 4,i 18 1 16 17,l 19 18,i 20 1 14 15,(.mk none none (.store 1 (.t 20) (.t 19)))])) (.reg [m 12 4,q 13 .add 12 1,m 4 13])))))) (s [m 21 3,m 2 21] .ret)))),[.t 2]⟩
theorem i25 : IsFun Tryz.prog 25 g25 := ⟨Tryz.f25, _, [], Tryz.func25, by kernel_rfl, rfl, by kernel_rfl, by kernel_rfl, rfl⟩
def g27 : GFun := ⟨⟨27,[]⟩,(s [k 4 0] (s [m 6 1,m 7 0,n 8 7,o 9 .sub 6 8,m 1 9] (.seq (s [m 10 1,q 11 .lss 10 0] (.cond 11 (s [k 4 (-1)] .ret) .skip)) (.seq (s [k 5 0] (.block 0 (.loop (.seq (s [m 12 5,m 13 0,n 14 13,o 15 .lss 12 14]
 (.cond 15 .skip (.exit 0))) (.seq (.block 1 (s [m 18 0,m 19 5,i 20 2 18 19,h 21 2 20,m 22 1,c 23 60 [.t 21,.t 22],m 1 23] (s [m 24 1,q 25 .lss 24 0] (.cond 25 (s [k 4 (-1)] .ret) .skip)))) (.reg [m 16 5,q 17 .add 16 1,m 5 17]))))))
 (s [m 26 1,m 4 26] .ret))))),[.t 4]⟩
theorem i27 : IsFun Tryz.prog 27 g27 := ⟨Tryz.f27, _, [], Tryz.func27, by kernel_rfl, rfl, by kernel_rfl, by kernel_rfl, rfl⟩
def g28 : GFun := ⟨⟨27,[]⟩,(s [k 4 0] (s [m 6 1,m 7 0,n 8 7,o 9 .sub 6 8,m 1 9] (.seq (s [m 10 1,q 11 .lss 10 0] (.cond 11 (s [k 4 (-1)] .ret) .skip)) (.seq (s [k 5 0] (.block 0 (.loop (.seq (s [m 12 5,m 13 0,n 14 13,o 15 .lss 12 14]
 (.cond 15 .skip (.exit 0))) (.seq (.block 1 (s [m 18 0,m 19 5,i 20 6 18 19,h 21 6 20,m 22 1,c 23 61 [.t 21,.t 22],m 1 23] (s [m 24 1,q 25 .lss 24 0] (.cond 25 (s [k 4 (-1)] .ret) .skip)))) (.reg [m 16 5,q 17 .add 16 1,m 5 17]))))))
 (s [m 26 1,m 4 26] .ret))))),[.t 4]⟩
theorem i28 : IsFun Tryz.prog 28 g28 := ⟨Tryz.f28, _, [], Tryz.func28, by kernel_rfl, rfl, by kernel_rfl, by kernel_rfl, rfl⟩
def g29 : GFun := ⟨⟨27,[]⟩,(s [k 4 0] (s [m 6 1,m 7 0,n 8 7,o 9 .sub 6 8,m 1 9] (.seq (s [m 10 1,q 11 .lss 10 0] (.cond 11 (s [k 4 (-1)] .ret) .skip)) (.seq (s [k 5 0] (.block 0 (.loop (.seq (s [m 12 5,m 13 0,n 14 13,o 15 .lss 12 14]
 (.cond 15 .skip (.exit 0))) (.seq (.block 1 (s [m 18 0,m 19 5,i 20 6 18 19,h 21 6 20,m 22 1,c 23 62 [.t 21,.t 22],m 1 23] (s [m 24 1,q 25 .lss 24 0] (.cond 25 (s [k 4 (-1)] .ret) .skip)))) (.reg [m 16 5,q 17 .add 16 1,m 5 17]))))))
 (s [m 26 1,m 4 26] .ret))))),[.t 4]⟩
theorem i29 : IsFun Tryz.prog 29 g29 := ⟨Tryz.f29, _, [], Tryz.func29, by kernel_rfl, rfl, by kernel_rfl, by kernel_rfl, rfl⟩
def g30 : GFun := ⟨⟨49,[2,3]⟩,(s [a 2 2 0,a 3 1 1,x 4 (.mov (.k (.val (.slice none 0 0))))] (s [h 11 2 2,h 12 1 3,c 13 57 [.t 11,.t 12],m 5 13] (s [x 14 (.bslice 1 [] 0 false []),m 6 14] (.seq (s [k 7 0] (.block 0 (.loop (.seq (s [m 15 7,
 m 16 5,n 17 16,o 18 .lss 15 17] (.cond 18 .skip (.exit 0))) (.seq (.block 1 (s [m 23 5,m 24 7,i 25 2 23 24,h 21 2 2,h 22 1 3,h 26 2 25,x 27 (.call true 63 [.t 21,.t 22,.t 26]),m 8 27] (s [x 28 (.bslice 1 [] 0 false []),m 9 28] (.seq
 (s [k 10 0] (.block 2 (.loop (.seq (s [m 29 10,m 30 8,n 31 30,o 32 .lss 29 31] (.cond 32 .skip (.exit 2))) (.seq (.block 3 (.reg [m 35 9,m 36 5,m 37 8,m 38 10,i 39 2 37 38,h 40 2 39,c 41 64 [.t 36,.t 40],x 42 (.bslice 1 [] 1 false [(0,
 (.t 41))]),x 43 (.append 1 8 (.t 35) (.t 42)),m 9 43])) (.reg [m 33 10,q 34 .add 33 1,m 10 34])))))) (.reg [m 44 6,m 45 9,x 46 (.bslice 1 [] 1 false [(0,(.t 45))]),x 47 (.append 1 24 (.t 44) (.t 46)),m 6 47]))))) (.reg [m 19 7,
 q 20 .add 19 1,m 7 20])))))) (s [m 48 6,m 4 48] .ret))))),[.t 4]⟩
theorem i30 : IsFun Tryz.prog 30 g30 := ⟨Tryz.f30, _, [], Tryz.func30, by kernel_rfl, rfl, by kernel_rfl, by kernel_rfl, rfl⟩
def g31 : GFun := ⟨⟨85,[]⟩,(s [x 4 (.mov (.k (.val (.slice none 0 0))))] (s [m 12 0,m 13 1,c 14 65 [.t 12,.t 13],m 5 14] (s [x 15 (.bslice 1 [] 0 false []),m 6 15] (s [m 16 1,m 7 16] (.seq (s [m 17 5,m 18 1,i 19 1 17 18,l 20 19,m 8 20]
 (.block 0 (.loop (.seq (s [m 21 8,q 22 .gtr 21 0] (.cond 22 .skip (.exit 0))) (.seq (.block 1 (s [m 25 6,m 26 7,x 27 (.bslice 1 [] 1 false [(0,(.t 26))]),x 28 (.append 1 8 (.t 25) (.t 27)),m 6 28] (s [k 9 (-1)] (.seq (s [k 10 0]
 (.block 2 (.loop (.seq (s [m 29 10,m 30 0,m 31 7,i 32 1 30 31,l 33 32,n 34 33,o 35 .lss 29 34] (.cond 35 .skip (.exit 2))) (.seq (.block 3 (s [m 38 0,m 39 7,i 40 1 38 39,l 41 40,m 42 10,i 43 1 41 42,l 44 43,m 11 44] (.seq (s [m 45 11,
 q 46 .lss 45 0,m 47 46,z 48 47 (.mov (.t 8)),z 49 47 (.bin .eql (.t 48) (.k (.val (.int .i64 1)))),z 50 47 (.mov (.t 49)),y 51 50 (.mov (.t 11)),y 52 50 (.mov (.t 1)),y 53 50 (.bin .neq (.t 51) (.t 52)),z 54 47 (.pick (.t 50) (.t 53) (.k
 (.val (.bool false)))),x 55 (.pick (.t 47) (.k (.val (.bool true))) (.t 54)),m 56 55,z 57 56 (.mov (.t 8)),z 58 56 (.bin .gtr (.t 57) (.k (.val (.int .i64 1)))),z 59 56 (.mov (.t 58)),y 60 59 (.mov (.t 11)),y 61 59 (.mov (.t 1)),y 62 59
 (.bin .eql (.t 60) (.t 61)),y 63 59 (.mov (.t 62)),z 64 63 (.mov (.t 5)),z 65 63 (.mov (.t 11)),z 66 63 (.iaddr 1 (.t 64) (.t 65)),z 67 63 (.load 1 false (.t 66)),z 68 63 (.mov (.t 8)),z 69 63 (.bin .sub (.t 68) (.k (.val (.int .i64 1)))),
 z 70 63 (.bin .neq (.t 67) (.t 69)),y 71 59 (.pick (.t 63) (.k (.val (.bool true))) (.t 70)),z 72 56 (.pick (.t 59) (.t 71) (.k (.val (.bool false)))),x 73 (.pick (.t 56) (.k (.val (.bool true))) (.t 72))] (.cond 73 (.exit 3) .skip))
 (s [m 74 9,q 75 .lss 74 0,m 76 75,z 77 76 (.mov (.t 11)),z 78 76 (.mov (.t 9)),z 79 76 (.bin .lss (.t 77) (.t 78)),x 80 (.pick (.t 76) (.k (.val (.bool true))) (.t 79))] (.cond 80 (.reg [m 81 11,m 9 81]) .skip))))) (.reg [m 36 10,
 q 37 .add 36 1,m 10 37])))))) (.reg [m 82 9,c 83 66 [.t 82,(.k (.val (.int .i64 0)))],m 7 83]))))) (.reg [m 23 8,q 24 .sub 23 1,m 8 24])))))) (s [m 84 6,m 4 84] .ret)))))),[.t 4]⟩
theorem i31 : IsFun Tryz.prog 31 g31 := ⟨Tryz.f31, _, [], Tryz.func31, by kernel_rfl, rfl, by kernel_rfl, by kernel_rfl, rfl⟩
def g32 : GFun := ⟨⟨23,[]⟩,(s [x 2 (.mov (.k (.val (.slice none 0 0))))] (s [m 5 0,n 6 5,x 7 (.mkslice 2 40 (.agg [(.val (.string (ByteArray.mk #[]))),(.val (.slice none 0 0))]) (.t 6) (.t 6)),m 3 7] (.seq (s [k 4 0] (.block 0 (.loop
 (.seq (s [m 8 4,m 9 0,n 10 9,o 11 .lss 8 10] (.cond 11 .skip (.exit 0))) (.seq (.block 1 (.reg [m 14 3,m 15 4,m 16 0,m 17 4,i 18 2 16 17,h 19 2 18,c 20 67 [.t 19],i 21 2 14 15,(.mk none none (.store 2 (.t 21) (.t 20)))])) (.reg [m 12 4,
 q 13 .add 12 1,m 4 13])))))) (s [m 22 3,m 2 22] .ret)))),[.t 2]⟩
theorem i32 : IsFun Tryz.prog 32 g32 := ⟨Tryz.f32, _, [], Tryz.func32, by kernel_rfl, rfl, by kernel_rfl, by kernel_rfl, rfl⟩
def g33 : GFun := ⟨⟨23,[]⟩,(s [x 2 (.mov (.k (.val (.slice none 0 0))))] (s [m 5 0,n 6 5,x 7 (.mkslice 6 112 (.agg [(.val (.string (ByteArray.mk #[]))),(.val (.string (ByteArray.mk #[]))),(.val (.slice none 0 0)),(.val (.bool false)),
 (.val (.slice none 0 0)),(.val (.slice none 0 0))]) (.t 6) (.t 6)),m 3 7] (.seq (s [k 4 0] (.block 0 (.loop (.seq (s [m 8 4,m 9 0,n 10 9,o 11 .lss 8 10] (.cond 11 .skip (.exit 0))) (.seq (.block 1 (.reg [m 14 3,m 15 4,m 16 0,m 17 4,
 i 18 6 16 17,h 19 6 18,c 20 68 [.t 19],i 21 6 14 15,(.mk none none (.store 6 (.t 21) (.t 20)))])) (.reg [m 12 4,q 13 .add 12 1,m 4 13])))))) (s [m 22 3,m 2 22] .ret)))),[.t 2]⟩
theorem i33 : IsFun Tryz.prog 33 g33 := ⟨Tryz.f33, _, [], Tryz.func33, by kernel_rfl, rfl, by kernel_rfl, by kernel_rfl, rfl⟩
def g34 : GFun := ⟨⟨23,[]⟩,(s [x 2 (.mov (.k (.val (.slice none 0 0))))] (s [m 5 0,n 6 5,x 7 (.mkslice 6 72 (.agg [(.val (.int .i64 0)),(.val (.int .i64 0)),(.val (.int .i64 0)),(.val (.int .i64 0)),(.val (.string (ByteArray.mk #[]))),
 (.val (.slice none 0 0))]) (.t 6) (.t 6)),m 3 7] (.seq (s [k 4 0] (.block 0 (.loop (.seq (s [m 8 4,m 9 0,n 10 9,o 11 .lss 8 10] (.cond 11 .skip (.exit 0))) (.seq (.block 1 (.reg [m 14 3,m 15 4,m 16 0,m 17 4,i 18 6 16 17,h 19 6 18,
 c 20 69 [.t 19],i 21 6 14 15,(.mk none none (.store 6 (.t 21) (.t 20)))])) (.reg [m 12 4,q 13 .add 12 1,m 4 13])))))) (s [m 22 3,m 2 22] .ret)))),[.t 2]⟩
theorem i34 : IsFun Tryz.prog 34 g34 := ⟨Tryz.f34, _, [], Tryz.func34, by kernel_rfl, rfl, by kernel_rfl, by kernel_rfl, rfl⟩
def g35 : GFun := ⟨⟨22,[1]⟩,(s [a 1 1 0,x 2 (.mov (.k (.val (.slice none 0 0))))] (s [x 6 (.bslice 1 [] 0 false []),m 3 6] (.seq (s [l 7 1,n 8 7,k 9 0] (.block 0 (.loop (s [o 10 .lss 9 8] (.seq (.cond 10 .skip (.exit 0)) (.seq (.block 1
 (s [i 11 1 7 9,l 12 11,m 5 12] (.reg [m 13 3,m 14 5,c 15 71 [.t 14],x 16 (.mkfn 72 [.t 1]),c 17 70 [.t 15,.t 16],x 18 (.bslice 1 [] 1 false [(0,(.t 17))]),x 19 (.append 1 24 (.t 13) (.t 18)),m 3 19]))) (.reg [q 20 .add 9 1,m 9 20])))))))
 (s [m 21 3,m 2 21] .ret)))),[.t 2]⟩
theorem i35 : IsFun Tryz.prog 35 g35 := ⟨Tryz.f35, _, [], Tryz.func35, by kernel_rfl, rfl, by kernel_rfl, by kernel_rfl, rfl⟩
def g36 : GFun := ⟨⟨45,[2,3,8,11]⟩,(s [a 2 2 0,a 3 1 1,x 4 (.mov (.k (.val (.slice none 0 0))))] (s [h 12 2 2,h 13 1 3,c 14 74 [.t 12,.t 13],x 15 (.bslice 1 [] 0 false []),m 5 14,m 6 15] (.seq (s [m 16 5,n 17 16,k 18 0] (.block 0 (.loop
 (s [o 19 .lss 18 17] (.seq (.cond 19 .skip (.exit 0)) (.seq (.block 1 (s [i 20 2 16 18,h 21 2 20,x 8 (.allocr 2),x 8 (.stro 2 8 (.t 21))] (s [x 22 (.bslice 1 [] 0 false []),m 9 22] (.seq (s [h 23 2 2,h 24 1 3,h 25 2 8,c 26 75 [.t 23,.t 24,
 .t 25],n 27 26,k 28 0] (.block 2 (.loop (s [o 29 .lss 28 27] (.seq (.cond 29 .skip (.exit 2)) (.seq (.block 3 (s [i 30 2 26 28,h 31 2 30,x 11 (.allocr 2),x 11 (.stro 2 11 (.t 31))] (.reg [m 32 9,m 33 5,h 34 2 11,c 35 76 [.t 33,.t 34],
 x 36 (.bslice 1 [] 1 false [(0,(.t 35))]),x 37 (.append 1 8 (.t 32) (.t 36)),m 9 37]))) (.reg [q 38 .add 28 1,m 28 38]))))))) (.reg [m 39 6,m 40 9,x 41 (.bslice 1 [] 1 false [(0,(.t 40))]),x 42 (.append 1 24 (.t 39) (.t 41)),m 6 42])))))
 (.reg [q 43 .add 18 1,m 18 43]))))))) (s [m 44 6,m 4 44] .ret)))),[.t 4]⟩
theorem i36 : IsFun Tryz.prog 36 g36 := ⟨Tryz.f36, _, [], Tryz.func36, by kernel_rfl, rfl, by kernel_rfl, by kernel_rfl, rfl⟩
def g37 : GFun := ⟨⟨70,[]⟩,(s [x 4 (.mov (.k (.val (.slice none 0 0))))] (s [m 11 0,n 12 11,x 13 (.mkslice 1 8 (.val (.int .i64 0)) (.t 12) (.t 12)),m 5 13] (.seq (s [k 6 1] (.block 0 (.loop (.seq (s [m 14 6,m 15 0,n 16 15,
 o 17 .leq 14 16] (.cond 17 .skip (.exit 0))) (.seq (.block 1 (s [m 20 0,n 21 20,k 22 0] (.block 2 (.loop (s [o 23 .lss 22 21] (.seq (.cond 23 .skip (.exit 2)) (.seq (.block 3 (s [m 24 22,i 25 1 20 22,l 26 25,m 7 24,m 8 26] (.seq
 (s [m 27 5,m 28 7,i 29 1 27 28,l 30 29,q 31 .neq 30 0] (.cond 31 (.exit 3) .skip)) (s [m 32 8,n 33 32,k 34 0] (.block 4 (.loop (s [o 35 .lss 34 33] (.seq (.cond 35 .skip (.exit 4)) (.seq (.block 5 (s [i 36 1 32 34,l 37 36,m 10 37]
 (s [m 38 6,q 39 .eql 38 1,m 40 39,y 41 40 (.mov (.t 10)),y 42 40 (.mov (.t 1)),y 43 40 (.bin .eql (.t 41) (.t 42)),x 44 (.pick (.t 40) (.t 43) (.k (.val (.bool false)))),m 45 44,z 46 45 (.mov (.t 6)),z 47 45 (.bin .gtr (.t 46) (.k (.val
 (.int .i64 1)))),z 48 45 (.mov (.t 47)),y 49 48 (.mov (.t 10)),y 50 48 (.mov (.t 1)),y 51 48 (.bin .neq (.t 49) (.t 50)),z 52 45 (.pick (.t 48) (.t 51) (.k (.val (.bool false)))),z 53 45 (.mov (.t 52)),y 54 53 (.mov (.t 5)),y 55 53 (.mov
 (.t 10)),y 56 53 (.iaddr 1 (.t 54) (.t 55)),y 57 53 (.load 1 false (.t 56)),y 58 53 (.mov (.t 6)),y 59 53 (.bin .sub (.t 58) (.k (.val (.int .i64 1)))),y 60 53 (.bin .eql (.t 57) (.t 59)),z 61 45 (.pick (.t 53) (.t 60) (.k (.val
 (.bool false)))),x 62 (.pick (.t 45) (.k (.val (.bool true))) (.t 61))] (.cond 62 (.reg [m 63 5,m 64 7,m 65 6,i 66 1 63 64,(.mk none none (.store 1 (.t 66) (.t 65)))]) .skip)))) (.reg [q 67 .add 34 1,m 34 67]))))))))))
 (.reg [q 68 .add 22 1,m 22 68])))))))) (.reg [m 18 6,q 19 .add 18 1,m 6 19])))))) (s [m 69 5,m 4 69] .ret)))),[.t 4]⟩
theorem i37 : IsFun Tryz.prog 37 g37 := ⟨Tryz.f37, _, [], Tryz.func37, by kernel_rfl, rfl, by kernel_rfl, by kernel_rfl, rfl⟩
def g38 : GFun := ⟨⟨27,[]⟩,(s [b 4 false] (.seq (s [m 6 0,n 7 6,m 8 1,n 9 8,o 10 .neq 7 9] (.cond 10 (s [b 4 false] .ret) .skip)) (.seq (s [k 5 0] (.block 0 (.loop (.seq (s [m 11 5,m 12 0,n 13 12,o 14 .lss 11 13] (.cond 14 .skip
 (.exit 0))) (.seq (.block 1 (s [m 17 0,m 18 5,i 19 2 17 18,m 21 1,m 22 5,i 23 2 21 22,h 20 2 19,h 24 2 23,x 25 (.call true 77 [.t 20,.t 24]),w 26 25] (.cond 26 (s [b 4 false] .ret) .skip))) (.reg [m 15 5,q 16 .add 15 1,m 5 16]))))))
 (s [b 4 true] .ret)))),[.t 4]⟩
theorem i38 : IsFun Tryz.prog 38 g38 := ⟨Tryz.f38, _, [], Tryz.func38, by kernel_rfl, rfl, by kernel_rfl, by kernel_rfl, rfl⟩
def g39 : GFun := ⟨⟨27,[]⟩,(s [b 4 false] (.seq (s [m 6 0,n 7 6,m 8 1,n 9 8,o 10 .neq 7 9] (.cond 10 (s [b 4 false] .ret) .skip)) (.seq (s [k 5 0] (.block 0 (.loop (.seq (s [m 11 5,m 12 0,n 13 12,o 14 .lss 11 13] (.cond 14 .skip
 (.exit 0))) (.seq (.block 1 (s [m 17 0,m 18 5,i 19 6 17 18,m 21 1,m 22 5,i 23 6 21 22,h 20 6 19,h 24 6 23,x 25 (.call true 78 [.t 20,.t 24]),w 26 25] (.cond 26 (s [b 4 false] .ret) .skip))) (.reg [m 15 5,q 16 .add 15 1,m 5 16]))))))
 (s [b 4 true] .ret)))),[.t 4]⟩
theorem i39 : IsFun Tryz.prog 39 g39 := ⟨Tryz.f39, _, [], Tryz.func39, by kernel_rfl, rfl, by kernel_rfl, by kernel_rfl, rfl⟩
def g40 : GFun := ⟨⟨27,[]⟩,(s [b 4 false] (.seq (s [m 6 0,n 7 6,m 8 1,n 9 8,o 10 .neq 7 9] (.cond 10 (s [b 4 false] .ret) .skip)) (.seq (s [k 5 0] (.block 0 (.loop (.seq (s [m 11 5,m 12 0,n 13 12,o 14 .lss 11 13] (.cond 14 .skip
 (.exit 0))) (.seq (.block 1 (s [m 17 0,m 18 5,i 19 6 17 18,m 21 1,m 22 5,i 23 6 21 22,h 20 6 19,h 24 6 23,x 25 (.call true 79 [.t 20,.t 24]),w 26 25] (.cond 26 (s [b 4 false] .ret) .skip))) (.reg [m 15 5,q 16 .add 15 1,m 5 16]))))))
 (s [b 4 true] .ret)))),[.t 4]⟩
theorem i40 : IsFun Tryz.prog 40 g40 := ⟨Tryz.f40, _, [], Tryz.func40, by kernel_rfl, rfl, by kernel_rfl, by kernel_rfl, rfl⟩
def g41 : GFun := ⟨⟨28,[]⟩,(s [k 4 0] (.seq (s [k 5 0] (.block 0 (.loop (.seq (s [m 6 5,m 7 0,n 8 7,o 9 .lss 6 8] (.cond 9 .skip (.exit 0))) (.seq (.block 1 (s [m 12 0,m 13 5,m 14 1,c 15 80 [.t 14],i 16 2 12 13,f 17 0 16,(.mk none none
 (.store 1 (.t 17) (.t 15)))] (s [m 18 1,q 19 .add 18 1,m 1 19] (.reg [m 20 0,m 21 5,i 22 2 20 21,f 23 1 22,l 24 23,m 25 1,c 26 81 [.t 24,.t 25],m 1 26])))) (.reg [m 10 5,q 11 .add 10 1,m 5 11])))))) (s [m 27 1,m 4 27] .ret))),[.t 4]⟩
theorem i41 : IsFun Tryz.prog 41 g41 := ⟨Tryz.f41, _, [], Tryz.func41, by kernel_rfl, rfl, by kernel_rfl, by kernel_rfl, rfl⟩
def g42 : GFun := ⟨⟨59,[]⟩,(s [k 4 0] (.seq (s [k 5 0] (.block 0 (.loop (.seq (s [m 6 5,m 7 0,n 8 7,o 9 .lss 6 8] (.cond 9 .skip (.exit 0))) (.seq (.block 1 (s [m 12 0,m 13 5,m 14 1,c 15 80 [.t 14],i 16 6 12 13,f 17 0 16,(.mk none none
 (.store 1 (.t 17) (.t 15)))] (s [m 18 1,q 19 .add 18 1,m 1 19] (s [m 20 0,m 21 5,m 22 1,c 23 80 [.t 22],i 24 6 20 21,f 25 1 24,(.mk none none (.store 1 (.t 25) (.t 23)))] (s [m 26 1,q 27 .add 26 1,m 1 27] (s [m 28 0,m 29 5,i 30 6 28 29,
 f 31 2 30,l 32 31,m 33 1,c 34 82 [.t 32,.t 33],m 1 34] (s [m 35 0,m 36 5,m 37 1,q 38 .rem 37 3,q 39 .eql 38 0,i 40 6 35 36,f 41 3 40,(.mk none none (.store 1 (.t 41) (.t 39)))] (s [m 42 1,q 43 .add 42 1,m 1 43] (s [m 44 0,m 45 5,
 i 46 6 44 45,f 47 4 46,l 48 47,m 49 1,c 50 83 [.t 48,.t 49],m 1 50] (.reg [m 51 0,m 52 5,i 53 6 51 52,f 54 5 53,l 55 54,m 56 1,c 57 84 [.t 55,.t 56],m 1 57])))))))))) (.reg [m 10 5,q 11 .add 10 1,m 5 11])))))) (s [m 58 1,m 4 58] .ret))),
 [.t 4]⟩
theorem i42 : IsFun Tryz.prog 42 g42 := ⟨Tryz.f42, _, [], Tryz.func42, by kernel_rfl, rfl, by kernel_rfl, by kernel_rfl, rfl⟩
def g43 : GFun := ⟨⟨56,[]⟩,(s [k 4 0] (.seq (s [k 5 0] (.block 0 (.loop (.seq (s [m 6 5,m 7 0,n 8 7,o 9 .lss 6 8] (.cond 9 .skip (.exit 0))) (.seq (.block 1 (s [m 12 0,m 13 5,m 14 1,i 15 6 12 13,f 16 0 15,(.mk none none (.store 1 (.t 16)
 (.t 14)))] (s [m 17 1,q 18 .add 17 1,m 1 18] (s [m 19 0,m 20 5,m 21 1,i 22 6 19 20,f 23 1 22,(.mk none none (.store 1 (.t 23) (.t 21)))] (s [m 24 1,q 25 .add 24 1,m 1 25] (s [m 26 0,m 27 5,m 28 1,i 29 6 26 27,f 30 2 29,(.mk none none
 (.store 1 (.t 30) (.t 28)))] (s [m 31 1,q 32 .add 31 1,m 1 32] (s [m 33 0,m 34 5,m 35 1,i 36 6 33 34,f 37 3 36,(.mk none none (.store 1 (.t 37) (.t 35)))] (s [m 38 1,q 39 .add 38 1,m 1 39] (s [m 40 0,m 41 5,m 42 1,c 43 80 [.t 42],
 i 44 6 40 41,f 45 4 44,(.mk none none (.store 1 (.t 45) (.t 43)))] (s [m 46 1,q 47 .add 46 1,m 1 47] (.reg [m 48 0,m 49 5,i 50 6 48 49,f 51 5 50,l 52 51,m 53 1,c 54 18 [.t 52,.t 53],m 1 54])))))))))))) (.reg [m 10 5,q 11 .add 10 1,
 m 5 11])))))) (s [m 55 1,m 4 55] .ret))),[.t 4]⟩
theorem i43 : IsFun Tryz.prog 43 g43 := ⟨Tryz.f43, _, [], Tryz.func43, by kernel_rfl, rfl, by kernel_rfl, by kernel_rfl, rfl⟩
def g57 : GFun := ⟨⟨59,[2,3,7]⟩,(s [a 2 2 0,a 3 1 1,x 4 (.mov (.k (.val (.slice none 0 0))))] (s [x 10 (.bslice 2 [] 0 true []),m 5 10] (.seq (s [h 11 2 2,h 12 1 3,h 13 2 2,h 14 1 3,x 15 (.call true 115 [.t 13,.t 14,(.k (.val
 (.int .i64 0)))]),x 16 (.call true 114 [.t 11,.t 12,.t 15]),w 17 16] (.cond 17 (s [m 18 5,m 4 18] .ret) .skip)) (.seq (s [k 6 0] (.block 0 (.loop (.seq (s [m 19 6,f 20 0 3,l 21 20,n 22 21,o 23 .lss 19 22] (.cond 23 .skip (.exit 0)))
 (.seq (.block 1 (s [m 30 6,x 7 (.allocr 2),h 27 2 2,h 28 2 2,h 29 1 3,x 31 (.call true 115 [.t 28,.t 29,.t 30]),x 32 (.call true 91 [.t 27,.t 31]),m 26 32,x 33 (.ext (.t 26) 0),x 34 (.ext (.t 26) 1),x 7 (.stro 2 7 (.t 33)),m 8 34]
 (s [k 9 0] (.block 2 (.loop (.seq (s [m 35 9,f 36 1 7,l 37 36,n 38 37,o 39 .lss 35 38] (.cond 39 .skip (.exit 2))) (.seq (.block 3 (.reg [m 42 5,f 43 0 3,m 45 6,f 49 1 7,m 51 9,l 44 43,i 46 6 44 45,f 47 0 46,l 48 47,l 50 49,i 52 4 50 51,
 f 53 0 52,l 54 53,x 55 (.build [(.val (.int .i64 0)),(.val (.string (ByteArray.mk #[])))] [(0,(1,(.t 48))),(1,(1,(.t 54)))]),x 56 (.bslice 2 [] 1 true [(0,(.t 55))]),x 57 (.append 2 24 (.t 42) (.t 56)),m 5 57])) (.reg [m 40 9,
 q 41 .add 40 1,m 9 41])))))))) (.reg [m 24 6,q 25 .add 24 1,m 6 25])))))) (s [m 58 5,m 4 58] .ret))))),[.t 4]⟩
theorem i57 : IsFun Tryz.prog 57 g57 := ⟨Tryz.f57, _, [], Tryz.func57, by kernel_rfl, rfl, by kernel_rfl, by kernel_rfl, rfl⟩
def g60 : GFun := ⟨⟨19,[2]⟩,(s [a 2 2 0,k 4 0] (s [m 5 1,f 6 0 2,l 7 6,x 8 (.slen (.t 7)),o 9 .sub 5 8,m 1 9] (.seq (s [m 10 1,q 11 .lss 10 0] (.cond 11 (s [k 4 (-1)] .ret) .skip)) (s [f 12 1 2,l 13 12,m 14 1,c 15 123 [.t 13,.t 14],
 m 1 15] (.seq (s [m 16 1,q 17 .lss 16 0] (.cond 17 (s [k 4 (-1)] .ret) .skip)) (s [m 18 1,m 4 18] .ret)))))),[.t 4]⟩
theorem i60 : IsFun Tryz.prog 60 g60 := ⟨Tryz.f60, _, [], Tryz.func60, by kernel_rfl, rfl, by kernel_rfl, by kernel_rfl, rfl⟩
def g61 : GFun := ⟨⟨38,[2]⟩,(s [a 2 6 0,k 4 0] (s [m 5 1,f 6 0 2,l 7 6,x 8 (.slen (.t 7)),o 9 .sub 5 8,m 1 9] (.seq (s [m 10 1,q 11 .lss 10 0] (.cond 11 (s [k 4 (-1)] .ret) .skip)) (s [m 12 1,f 13 1 2,l 14 13,x 15 (.slen (.t 14)),
 o 16 .sub 12 15,m 1 16] (.seq (s [m 17 1,q 18 .lss 17 0] (.cond 18 (s [k 4 (-1)] .ret) .skip)) (s [f 19 2 2,l 20 19,m 21 1,c 22 124 [.t 20,.t 21],m 1 22] (.seq (s [m 23 1,q 24 .lss 23 0] (.cond 24 (s [k 4 (-1)] .ret) .skip)) (s [f 25 4 2,
 l 26 25,m 27 1,c 28 125 [.t 26,.t 27],m 1 28] (.seq (s [m 29 1,q 30 .lss 29 0] (.cond 30 (s [k 4 (-1)] .ret) .skip)) (s [f 31 5 2,l 32 31,m 33 1,c 34 126 [.t 32,.t 33],m 1 34] (.seq (s [m 35 1,q 36 .lss 35 0] (.cond 36 (s [k 4
 (-1)] .ret) .skip)) (s [m 37 1,m 4 37] .ret)))))))))))),[.t 4]⟩
theorem i61 : IsFun Tryz.prog 61 g61 := ⟨Tryz.f61, _, [], Tryz.func61, by kernel_rfl, rfl, by kernel_rfl, by kernel_rfl, rfl⟩
def g62 : GFun := ⟨⟨19,[2]⟩,(s [a 2 6 0,k 4 0] (s [m 5 1,f 6 4 2,l 7 6,x 8 (.slen (.t 7)),o 9 .sub 5 8,m 1 9] (.seq (s [m 10 1,q 11 .lss 10 0] (.cond 11 (s [k 4 (-1)] .ret) .skip)) (s [f 12 5 2,l 13 12,m 14 1,c 15 127 [.t 13,.t 14],
 m 1 15] (.seq (s [m 16 1,q 17 .lss 16 0] (.cond 17 (s [k 4 (-1)] .ret) .skip)) (s [m 18 1,m 4 18] .ret)))))),[.t 4]⟩
theorem i62 : IsFun Tryz.prog 62 g62 := ⟨Tryz.f62, _, [], Tryz.func62, by kernel_rfl, rfl, by kernel_rfl, by kernel_rfl, rfl⟩
def g63 : GFun := ⟨⟨52,[3,4,5,8,12]⟩,(s [a 3 2 0,a 4 1 1,a 5 2 2,x 6 (.mov (.k (.val (.slice none 0 0))))] (s [x 14 (.bslice 2 [] 0 true []),m 7 14] (s [h 16 2 3,h 17 1 4,h 18 2 5,c 19 116 [.t 16,.t 17,.t 18],m 15 19,x 20 (.ext (.t 15) 0),
 x 21 (.ext (.t 15) 1),x 8 (.allocr 8),x 8 (.stro 8 8 (.t 20)),m 9 21] (.seq (s [m 22 9,w 23 22] (.cond 23 (s [m 24 7,m 6 24] .ret) .skip)) (s [e 25 1 7 8,h 26 7 25,c 27 128 [.t 26],m 10 27] (.seq (s [k 11 0] (.block 0 (.loop (.seq
 (s [m 28 11,m 29 10,n 30 29,o 31 .lss 28 30] (.cond 31 .skip (.exit 0))) (.seq (.block 1 (s [f 37 0 8,m 39 10,m 40 11,i 41 2 39 40,x 12 (.allocr 2),h 35 2 3,h 36 1 4,l 38 37,h 42 2 41,x 43 (.call true 129 [.t 35,.t 36,.t 38,.t 42]),
 m 34 43,x 44 (.ext (.t 34) 0),x 45 (.ext (.t 34) 1),x 12 (.stro 2 12 (.t 44)),m 13 45] (s [m 46 13] (.cond 46 (.reg [m 47 7,h 48 2 12,x 49 (.bslice 2 [] 1 true [(0,(.t 48))]),x 50 (.append 2 24 (.t 47) (.t 49)),m 7 50]) .skip))))
 (.reg [m 32 11,q 33 .add 32 1,m 11 33])))))) (s [m 51 7,m 6 51] .ret))))))),[.t 6]⟩
theorem i63 : IsFun Tryz.prog 63 g63 := ⟨Tryz.f63, _, [], Tryz.func63, by kernel_rfl, rfl, by kernel_rfl, by kernel_rfl, rfl⟩
def g64 : GFun := ⟨⟨19,[3]⟩,(s [a 3 2 1,k 4 0] (.seq (s [k 5 0] (.block 0 (.loop (.seq (s [m 6 5,m 7 0,n 8 7,o 9 .lss 6 8] (.cond 9 .skip (.exit 0))) (.seq (.block 1 (s [m 12 0,m 13 5,i 14 2 12 13,h 15 2 14,h 16 2 3,x 17 (.aeq false [1,2]
 (.t 15) (.t 16))] (.cond 17 (s [m 18 5,m 4 18] .ret) .skip))) (.reg [m 10 5,q 11 .add 10 1,m 5 11])))))) (s [k 4 (-1)] .ret))),[.t 4]⟩
theorem i64 : IsFun Tryz.prog 64 g64 := ⟨Tryz.f64, _, [], Tryz.func64, by kernel_rfl, rfl, by kernel_rfl, by kernel_rfl, rfl⟩
def g65 : GFun := ⟨⟨68,[]⟩,(s [x 4 (.mov (.k (.val (.slice none 0 0))))] (s [x 12 (.bslice 1 [] 0 false []),m 5 12] (.seq (s [k 6 0] (.block 0 (.loop (.seq (s [m 13 6,m 14 0,n 15 14,o 16 .lss 13 15] (.cond 16 .skip (.exit 0))) (.seq
 (.block 1 (.reg [m 19 5,x 20 (.bslice 1 [] 1 false [(0,(.k (.val (.int .i64 (-1)))))]),x 21 (.append 1 8 (.t 19) (.t 20)),m 5 21])) (.reg [m 17 6,q 18 .add 17 1,m 6 18])))))) (s [m 22 1,x 23 (.bslice 1 [] 1 false [(0,(.t 22))]),m 7 23]
 (.seq (s [k 8 1] (.block 2 (.loop (.seq (s [m 24 7,n 25 24,q 26 .gtr 25 0] (.cond 26 .skip (.exit 2))) (.seq (.block 3 (s [x 29 (.bslice 1 [] 0 false []),m 9 29] (.seq (s [k 10 0] (.block 4 (.loop (.seq (s [m 30 10,m 31 0,n 32 31,
 o 33 .lss 30 32] (.cond 33 .skip (.exit 4))) (.seq (.block 5 (s [k 11 0] (.block 6 (.loop (.seq (s [m 36 11,m 37 7,n 38 37,o 39 .lss 36 38] (.cond 39 .skip (.exit 6))) (.seq (.block 7 (s [m 42 5,m 43 10,i 44 1 42 43,l 45 44,q 46 .lss 45 0,
 m 47 46,y 48 47 (.mov (.t 0)),y 49 47 (.mov (.t 10)),y 50 47 (.iaddr 1 (.t 48) (.t 49)),y 52 47 (.mov (.t 7)),y 53 47 (.mov (.t 11)),y 54 47 (.iaddr 1 (.t 52) (.t 53)),y 51 47 (.load 1 false (.t 50)),y 55 47 (.load 1 false (.t 54)),
 y 56 47 (.call true 130 [.t 51,.t 55]),x 57 (.pick (.t 47) (.t 56) (.k (.val (.bool false))))] (.cond 57 (s [m 58 5,m 59 10,m 60 8,i 61 1 58 59,(.mk none none (.store 1 (.t 61) (.t 60)))] (.reg [m 62 9,m 63 10,x 64
 (.bslice 1 [] 1 false [(0,(.t 63))]),x 65 (.append 1 8 (.t 62) (.t 64)),m 9 65])) .skip))) (.reg [m 40 11,q 41 .add 40 1,m 11 41]))))))) (.reg [m 34 10,q 35 .add 34 1,m 10 35])))))) (.reg [m 66 9,m 7 66])))) (.reg [m 27 8,q 28 .add 27 1,
 m 8 28])))))) (s [m 67 5,m 4 67] .ret)))))),[.t 4]⟩
theorem i65 : IsFun Tryz.prog 65 g65 := ⟨Tryz.f65, _, [], Tryz.func65, by kernel_rfl, rfl, by kernel_rfl, by kernel_rfl, rfl⟩
def g66 : GFun := ⟨⟨10,[]⟩,(s [k 4 0] (.seq (s [m 5 0,m 6 1,o 7 .gtr 5 6] (.cond 7 (s [m 8 0,m 4 8] .ret) .skip)) (s [m 9 1,m 4 9] .ret))),[.t 4]⟩
theorem i66 : IsFun Tryz.prog 66 g66 := ⟨Tryz.f66, _, [], Tryz.func66, by kernel_rfl, rfl, by kernel_rfl, by kernel_rfl, rfl⟩
def g67 : GFun := ⟨⟨12,[1,2]⟩,(s [a 1 2 0,x 2 (.allocr 2)] (s [x 3 (.alloc 2 (.agg [(.val (.string (ByteArray.mk #[]))),(.val (.slice none 0 0))]))] (s [f 4 0 1,l 5 4,f 6 0 3,(.mk none none (.store 1 (.t 6) (.t 5)))] (s [f 7 1 1,l 8 7,
 c 9 131 [.t 8],f 10 1 3,(.mk none none (.store 1 (.t 10) (.t 9)))] (s [h 11 2 3,x 2 (.stro 2 2 (.t 11))] .ret))))),[(.c 2 2 true)]⟩
theorem i67 : IsFun Tryz.prog 67 g67 := ⟨Tryz.f67, _, [], Tryz.func67, by kernel_rfl, rfl, by kernel_rfl, by kernel_rfl, rfl⟩
def g68 : GFun := ⟨⟨26,[1,2]⟩,(s [a 1 6 0,x 2 (.allocr 6)] (s [x 3 (.alloc 6 (.agg [(.val (.string (ByteArray.mk #[]))),(.val (.string (ByteArray.mk #[]))),(.val (.slice none 0 0)),(.val (.bool false)),(.val (.slice none 0 0)),(.val
 (.slice none 0 0))]))] (s [f 4 0 1,l 5 4,f 6 0 3,(.mk none none (.store 1 (.t 6) (.t 5)))] (s [f 7 1 1,l 8 7,f 9 1 3,(.mk none none (.store 1 (.t 9) (.t 8)))] (s [f 10 2 1,l 11 10,c 12 132 [.t 11],f 13 2 3,(.mk none none (.store 1
 (.t 13) (.t 12)))] (s [f 14 3 1,l 15 14,f 16 3 3,(.mk none none (.store 1 (.t 16) (.t 15)))] (s [f 17 4 1,l 18 17,c 19 133 [.t 18],f 20 4 3,(.mk none none (.store 1 (.t 20) (.t 19)))] (s [f 21 5 1,l 22 21,c 23 134 [.t 22],f 24 5 3,
 (.mk none none (.store 1 (.t 24) (.t 23)))] (s [h 25 6 3,x 2 (.stro 6 2 (.t 25))] .ret))))))))),[(.c 2 6 true)]⟩
theorem i68 : IsFun Tryz.prog 68 g68 := ⟨Tryz.f68, _, [], Tryz.func68, by kernel_rfl, rfl, by kernel_rfl, by kernel_rfl, rfl⟩
def g69 : GFun := ⟨⟨24,[1,2]⟩,(s [a 1 6 0,x 2 (.allocr 6)] (s [x 3 (.alloc 6 (.agg [(.val (.int .i64 0)),(.val (.int .i64 0)),(.val (.int .i64 0)),(.val (.int .i64 0)),(.val (.string (ByteArray.mk #[]))),(.val (.slice none 0 0))]))]
 (s [f 4 0 1,l 5 4,f 6 0 3,(.mk none none (.store 1 (.t 6) (.t 5)))] (s [f 7 1 1,l 8 7,f 9 1 3,(.mk none none (.store 1 (.t 9) (.t 8)))] (s [f 10 2 1,l 11 10,f 12 2 3,(.mk none none (.store 1 (.t 12) (.t 11)))] (s [f 13 3 1,l 14 13,
 f 15 3 3,(.mk none none (.store 1 (.t 15) (.t 14)))] (s [f 16 4 1,l 17 16,f 18 4 3,(.mk none none (.store 1 (.t 18) (.t 17)))] (s [f 19 5 1,l 20 19,c 21 25 [.t 20],f 22 5 3,(.mk none none (.store 1 (.t 22) (.t 21)))] (s [h 23 6 3,x 2
 (.stro 6 2 (.t 23))] .ret))))))))),[(.c 2 6 true)]⟩
theorem i69 : IsFun Tryz.prog 69 g69 := ⟨Tryz.f69, _, [], Tryz.func69, by kernel_rfl, rfl, by kernel_rfl, by kernel_rfl, rfl⟩
def g70 : GFun := ⟨⟨42,[]⟩,(s [x 4 (.mov (.k (.val (.slice none 0 0))))] (s [m 8 0,m 9 1,c 10 135 [.t 8,.t 9],m 5 10] (.seq (s [m 11 5,q 12 .eql 11 (-1)] (.cond 12 (s [m 13 0,m 4 13] .ret) .skip)) (.seq (s [m 14 5,q 15 .add 14 1,m 6 15]
 (.block 0 (.loop (.seq (s [m 16 6,m 17 0,n 18 17,o 19 .lss 16 18] (.cond 19 .skip (.exit 0))) (.seq (.block 1 (s [m 22 0,m 23 6,i 24 1 22 23,l 25 24,m 7 25] (s [m 26 1,m 27 7,x 28 (.callv false (.t 26) [.t 27]),w 29 28] (.cond 29
 (s [m 30 0,m 31 5,m 32 7,i 33 1 30 31,(.mk none none (.store 1 (.t 33) (.t 32)))] (.reg [m 34 5,q 35 .add 34 1,m 5 35])) .skip)))) (.reg [m 20 6,q 21 .add 20 1,m 6 21])))))) (s [m 36 0,m 37 5,x 38 (.slc 1 (.t 36) (some (.t 37)) none),
 (.mk none none (.clr 1 (.t 38)))] (s [m 39 0,m 40 5,x 41 (.slc 1 (.t 39) none (some (.t 40))),m 4 41] .ret)))))),[.t 4]⟩
theorem i70 : IsFun Tryz.prog 70 g70 := ⟨Tryz.f70, _, [], Tryz.func70, by kernel_rfl, rfl, by kernel_rfl, by kernel_rfl, rfl⟩
def g71 : GFun := ⟨⟨8,[]⟩,(s [x 2 (.mov (.k (.val (.slice none 0 0))))] (.seq (s [m 3 0,x 4 (.isnil false (.t 3))] (.cond 4 (s [x 2 (.mov (.k (.val (.slice none 0 0))))] .ret) .skip)) (s [x 5 (.bslice 1 [] 0 false []),m 6 0,x 7
 (.append 1 8 (.t 5) (.t 6)),m 2 7] .ret))),[.t 2]⟩
theorem i71 : IsFun Tryz.prog 71 g71 := ⟨Tryz.f71, _, [], Tryz.func71, by kernel_rfl, rfl, by kernel_rfl, by kernel_rfl, rfl⟩
def g72 : GFun := ⟨⟨10,[]⟩,(s [b 3 false] (s [m 4 0,l 5 1,n 6 5,q 7 .sub 6 1,c 8 73 [.t 4,(.k (.val (.int .i64 0))),.t 7],w 9 8,m 3 9] .ret)),[.t 3]⟩
theorem i72 : IsFun Tryz.prog 72 g72 := ⟨Tryz.f72, _, [], Tryz.func72, by kernel_rfl, rfl, by kernel_rfl, by kernel_rfl, rfl⟩
def g73 : GFun := ⟨⟨15,[]⟩,(s [b 6 false] (s [m 7 0,m 8 1,o 9 .geq 7 8,m 10 9,y 11 10 (.mov (.t 0)),y 12 10 (.mov (.t 2)),y 13 10 (.bin .leq (.t 11) (.t 12)),x 14 (.pick (.t 10) (.t 13) (.k (.val (.bool false)))),m 6 14] .ret)),[.t 6]⟩
theorem i73 : IsFun Tryz.prog 73 g73 := ⟨Tryz.f73, _, [], Tryz.func73, by kernel_rfl, rfl, by kernel_rfl, by kernel_rfl, rfl⟩
def g74 : GFun := ⟨⟨53,[2,3,7,8,11]⟩,(s [a 2 2 0,a 3 1 1,x 4 (.mov (.k (.val (.slice none 0 0))))] (s [x 12 (.bslice 2 [] 0 true []),m 5 12] (.seq (s [h 13 2 2,h 14 1 3,c 15 136 [.t 13,.t 14],w 16 15] (.cond 16 (s [m 17 5,
 m 4 17] .ret) .skip)) (.seq (s [f 18 0 3,l 19 18,n 20 19,k 21 0] (.block 0 (.loop (s [o 22 .lss 21 20] (.seq (.cond 22 .skip (.exit 0)) (.seq (.block 1 (s [m 23 21,i 24 6 19 21,h 25 6 24,x 7 (.allocr 6),m 6 23,x 7 (.stro 6 7 (.t 25))]
 (s [m 30 6,x 8 (.allocr 2),h 27 2 2,h 28 2 2,h 29 1 3,x 31 (.call true 137 [.t 28,.t 29,.t 30]),x 32 (.call true 103 [.t 27,.t 31]),m 26 32,x 33 (.ext (.t 26) 0),x 34 (.ext (.t 26) 1),x 8 (.stro 2 8 (.t 33)),m 9 34] (s [f 35 1 8,l 36 35,
 n 37 36,k 38 0] (.block 2 (.loop (s [o 39 .lss 38 37] (.seq (.cond 39 .skip (.exit 2)) (.seq (.block 3 (s [i 40 4 36 38,h 41 4 40,x 11 (.allocr 4),x 11 (.stro 4 11 (.t 41))] (.reg [m 42 5,f 43 0 7,l 44 43,f 45 0 11,l 46 45,x 47
 (.build [(.val (.int .i64 0)),(.val (.string (ByteArray.mk #[])))] [(0,(1,(.t 44))),(1,(1,(.t 46)))]),x 48 (.bslice 2 [] 1 true [(0,(.t 47))]),x 49 (.append 2 24 (.t 42) (.t 48)),m 5 49]))) (.reg [q 50 .add 38 1,m 38 50]))))))))))
 (.reg [q 51 .add 21 1,m 21 51]))))))) (s [m 52 5,m 4 52] .ret))))),[.t 4]⟩
theorem i74 : IsFun Tryz.prog 74 g74 := ⟨Tryz.f74, _, [], Tryz.func74, by kernel_rfl, rfl, by kernel_rfl, by kernel_rfl, rfl⟩
def g75 : GFun := ⟨⟨49,[3,4,5,8,11,12]⟩,(s [a 3 2 0,a 4 1 1,a 5 2 2,x 6 (.mov (.k (.val (.slice none 0 0))))] (s [x 14 (.bslice 2 [] 0 true []),m 7 14] (s [h 16 2 3,h 17 1 4,h 18 2 5,c 19 138 [.t 16,.t 17,.t 18],m 15 19,x 20 (.ext
 (.t 15) 0),x 21 (.ext (.t 15) 1),x 8 (.allocr 8),x 8 (.stro 8 8 (.t 20)),m 9 21] (.seq (s [m 22 9,w 23 22] (.cond 23 (s [m 24 7,m 6 24] .ret) .skip)) (.seq (s [e 25 1 7 8,h 26 7 25,c 27 139 [.t 26],n 28 27,k 29 0] (.block 0 (.loop
 (s [o 30 .lss 29 28] (.seq (.cond 30 .skip (.exit 0)) (.seq (.block 1 (s [i 31 2 27 29,h 32 2 31,x 11 (.allocr 2),x 11 (.stro 2 11 (.t 32))] (s [h 34 2 3,h 35 1 4,f 36 0 8,l 37 36,h 38 2 11,c 39 140 [.t 34,.t 35,.t 37,.t 38],m 33 39,x 40
 (.ext (.t 33) 0),x 41 (.ext (.t 33) 1),x 12 (.allocr 2),x 12 (.stro 2 12 (.t 40)),m 13 41] (s [m 42 13] (.cond 42 (.reg [m 43 7,h 44 2 12,x 45 (.bslice 2 [] 1 true [(0,(.t 44))]),x 46 (.append 2 24 (.t 43) (.t 45)),m 7 46]) .skip)))))
 (.reg [q 47 .add 29 1,m 29 47]))))))) (s [m 48 7,m 6 48] .ret)))))),[.t 6]⟩
theorem i75 : IsFun Tryz.prog 75 g75 := ⟨Tryz.f75, _, [], Tryz.func75, by kernel_rfl, rfl, by kernel_rfl, by kernel_rfl, rfl⟩
def g76 : GFun := ⟨⟨8,[3]⟩,(s [a 3 2 1,k 4 0] (s [m 5 0,h 6 2 3,c 7 141 [.t 5,.t 6],m 4 7] .ret)),[.t 4]⟩
theorem i76 : IsFun Tryz.prog 76 g76 := ⟨Tryz.f76, _, [], Tryz.func76, by kernel_rfl, rfl, by kernel_rfl, by kernel_rfl, rfl⟩
def g77 : GFun := ⟨⟨16,[2,3]⟩,(s [a 2 2 0,a 3 2 1,b 4 false] (.seq (s [f 5 0 2,l 6 5,f 7 0 3,l 8 7,o 9 .neq 6 8] (.cond 9 (s [b 4 false] .ret) .skip)) (.seq (s [f 10 1 2,l 11 10,f 12 1 3,l 13 12,c 14 142 [.t 11,.t 13],w 15 14] (.cond 15
 (s [b 4 false] .ret) .skip)) (s [b 4 true] .ret)))),[.t 4]⟩
theorem i77 : IsFun Tryz.prog 77 g77 := ⟨Tryz.f77, _, [], Tryz.func77, by kernel_rfl, rfl, by kernel_rfl, by kernel_rfl, rfl⟩
def g78 : GFun := ⟨⟨38,[2,3]⟩,(s [a 2 6 0,a 3 6 1,b 4 false] (.seq (s [f 5 0 2,l 6 5,f 7 0 3,l 8 7,o 9 .neq 6 8] (.cond 9 (s [b 4 false] .ret) .skip)) (.seq (s [f 10 1 2,l 11 10,f 12 1 3,l 13 12,o 14 .neq 11 13] (.cond 14
 (s [b 4 false] .ret) .skip)) (.seq (s [f 15 2 2,l 16 15,f 17 2 3,l 18 17,c 19 143 [.t 16,.t 18],w 20 19] (.cond 20 (s [b 4 false] .ret) .skip)) (.seq (s [f 21 3 2,l 22 21,f 23 3 3,l 24 23,x 25 (.beq true (.t 22) (.t 24))] (.cond 25
 (s [b 4 false] .ret) .skip)) (.seq (s [f 26 4 2,l 27 26,f 28 4 3,l 29 28,c 30 144 [.t 27,.t 29],w 31 30] (.cond 31 (s [b 4 false] .ret) .skip)) (.seq (s [f 32 5 2,l 33 32,f 34 5 3,l 35 34,c 36 145 [.t 33,.t 35],w 37 36] (.cond 37
 (s [b 4 false] .ret) .skip)) (s [b 4 true] .ret)))))))),[.t 4]⟩
theorem i78 : IsFun Tryz.prog 78 g78 := ⟨Tryz.f78, _, [], Tryz.func78, by kernel_rfl, rfl, by kernel_rfl, by kernel_rfl, rfl⟩
def g79 : GFun := ⟨⟨36,[2,3]⟩,(s [a 2 6 0,a 3 6 1,b 4 false] (.seq (s [f 5 0 2,l 6 5,f 7 0 3,l 8 7,o 9 .neq 6 8] (.cond 9 (s [b 4 false] .ret) .skip)) (.seq (s [f 10 1 2,l 11 10,f 12 1 3,l 13 12,o 14 .neq 11 13] (.cond 14
 (s [b 4 false] .ret) .skip)) (.seq (s [f 15 2 2,l 16 15,f 17 2 3,l 18 17,o 19 .neq 16 18] (.cond 19 (s [b 4 false] .ret) .skip)) (.seq (s [f 20 3 2,l 21 20,f 22 3 3,l 23 22,o 24 .neq 21 23] (.cond 24 (s [b 4 false] .ret) .skip)) (.seq
 (s [f 25 4 2,l 26 25,f 27 4 3,l 28 27,o 29 .neq 26 28] (.cond 29 (s [b 4 false] .ret) .skip)) (.seq (s [f 30 5 2,l 31 30,f 32 5 3,l 33 32,c 34 13 [.t 31,.t 33],w 35 34] (.cond 35 (s [b 4 false] .ret) .skip)) (s [b 4 true] .ret)))))))),
 [.t 4]⟩
theorem i79 : IsFun Tryz.prog 79 g79 := ⟨Tryz.f79, _, [], Tryz.func79, by kernel_rfl, rfl, by kernel_rfl, by kernel_rfl, rfl⟩
def g80 : GFun := ⟨⟨20,[]⟩,(s [x 2 (.mov (.k (.val (.string (ByteArray.mk #[])))))] (.seq (s [m 4 0,q 5 .leq 4 0] (.cond 5 (s [x 2 (.mov (.k (.val (.string (ByteArray.mk #[109,48])))))] .ret) .skip)) (s [x 3 (.mov (.k (.val (.string
 (ByteArray.mk #[])))))] (.seq (.block 0 (.loop (.seq (s [m 6 0,q 7 .gtr 6 0] (.cond 7 .skip (.exit 0))) (.block 1 (s [m 8 0,q 9 .rem 8 10,x 10 (.bin .add (.k (.val (.int .i64 48))) (.t 9)),x 11 (.conv .u8 (.t 10)),x 12
 (.bslice 1 [] 1 false [(0,(.t 11))]),x 13 (.b2s (.t 12)),m 14 3,o 15 .add 13 14,m 3 15] (.reg [m 16 0,q 17 .quo 16 10,m 0 17])))))) (s [m 18 3,x 19 (.bin .add (.k (.val (.string (ByteArray.mk #[109])))) (.t 18)),m 2 19] .ret))))),[.t 2]⟩
theorem i80 : IsFun Tryz.prog 80 g80 := ⟨Tryz.f80, _, [], Tryz.func80, by kernel_rfl, rfl, by kernel_rfl, by kernel_rfl, rfl⟩
def g81 : GFun := ⟨⟨44,[]⟩,(s [k 4 0] (.seq (s [k 5 0] (.block 0 (.loop (.seq (s [m 6 5,m 7 0,n 8 7,o 9 .lss 6 8] (.cond 9 .skip (.exit 0))) (.seq (.block 1 (s [m 12 0,m 13 5,m 14 1,c 15 80 [.t 14],i 16 4 12 13,f 17 0 16,(.mk none none
 (.store 1 (.t 17) (.t 15)))] (s [m 18 1,q 19 .add 18 1,m 1 19] (s [m 20 0,m 21 5,m 22 1,i 23 4 20 21,f 24 1 23,(.mk none none (.store 1 (.t 24) (.t 22)))] (s [m 25 1,q 26 .add 25 1,m 1 26] (s [m 27 0,m 28 5,m 29 1,i 30 4 27 28,f 31 2 30,
 (.mk none none (.store 1 (.t 31) (.t 29)))] (s [m 32 1,q 33 .add 32 1,m 1 33] (s [m 34 0,m 35 5,m 36 1,q 37 .rem 36 3,q 38 .eql 37 0,i 39 4 34 35,f 40 3 39,(.mk none none (.store 1 (.t 40) (.t 38)))] (.reg [m 41 1,q 42 .add 41 1,
 m 1 42]))))))))) (.reg [m 10 5,q 11 .add 10 1,m 5 11])))))) (s [m 43 1,m 4 43] .ret))),[.t 4]⟩
theorem i81 : IsFun Tryz.prog 81 g81 := ⟨Tryz.f81, _, [], Tryz.func81, by kernel_rfl, rfl, by kernel_rfl, by kernel_rfl, rfl⟩
def g82 : GFun := ⟨⟨20,[]⟩,(s [k 4 0] (.seq (s [k 5 0] (.block 0 (.loop (.seq (s [m 6 5,m 7 0,n 8 7,o 9 .lss 6 8] (.cond 9 .skip (.exit 0))) (.seq (.block 1 (s [m 12 0,m 13 5,m 14 1,c 15 80 [.t 14],i 16 1 12 13,(.mk none none (.store 1
 (.t 16) (.t 15)))] (.reg [m 17 1,q 18 .add 17 1,m 1 18]))) (.reg [m 10 5,q 11 .add 10 1,m 5 11])))))) (s [m 19 1,m 4 19] .ret))),[.t 4]⟩
theorem i82 : IsFun Tryz.prog 82 g82 := ⟨Tryz.f82, _, [], Tryz.func82, by kernel_rfl, rfl, by kernel_rfl, by kernel_rfl, rfl⟩
def g83 : GFun := ⟨⟨88,[]⟩,(s [k 4 0] (.seq (s [k 5 0] (.block 0 (.loop (.seq (s [m 6 5,m 7 0,n 8 7,o 9 .lss 6 8] (.cond 9 .skip (.exit 0))) (.seq (.block 1 (s [m 12 0,m 13 5,m 14 1,i 15 9 12 13,e 16 0 2 15,f 17 0 16,(.mk none none
 (.store 1 (.t 17) (.t 14)))] (s [m 18 1,q 19 .add 18 1,m 1 19] (s [m 20 0,m 21 5,m 22 1,c 23 80 [.t 22],i 24 9 20 21,e 25 0 2 24,f 26 1 25,(.mk none none (.store 1 (.t 26) (.t 23)))] (s [m 27 1,q 28 .add 27 1,m 1 28] (s [m 29 0,m 30 5,
 m 31 1,i 32 9 29 30,e 33 2 7 32,f 34 0 33,(.mk none none (.store 1 (.t 34) (.t 31)))] (s [m 35 1,q 36 .add 35 1,m 1 36] (s [m 37 0,m 38 5,m 39 1,i 40 9 37 38,e 41 2 7 40,f 42 1 41,(.mk none none (.store 1 (.t 42) (.t 39)))] (s [m 43 1,
 q 44 .add 43 1,m 1 44] (s [m 45 0,m 46 5,m 47 1,i 48 9 45 46,e 49 2 7 48,f 50 2 49,(.mk none none (.store 1 (.t 50) (.t 47)))] (s [m 51 1,q 52 .add 51 1,m 1 52] (s [m 53 0,m 54 5,m 55 1,i 56 9 53 54,e 57 2 7 56,f 58 3 57,(.mk none none
 (.store 1 (.t 58) (.t 55)))] (s [m 59 1,q 60 .add 59 1,m 1 60] (s [m 61 0,m 62 5,m 63 1,c 64 80 [.t 63],i 65 9 61 62,e 66 2 7 65,f 67 4 66,(.mk none none (.store 1 (.t 67) (.t 64)))] (s [m 68 1,q 69 .add 68 1,m 1 69] (s [m 70 0,m 71 5,
 m 72 1,c 73 80 [.t 72],i 74 9 70 71,e 75 2 7 74,f 76 5 75,(.mk none none (.store 1 (.t 76) (.t 73)))] (s [m 77 1,q 78 .add 77 1,m 1 78] (.reg [m 79 0,m 80 5,i 81 9 79 80,e 82 2 7 81,f 83 6 82,l 84 83,m 85 1,c 86 146 [.t 84,.t 85],
 m 1 86])))))))))))))))))) (.reg [m 10 5,q 11 .add 10 1,m 5 11])))))) (s [m 87 1,m 4 87] .ret))),[.t 4]⟩
theorem i83 : IsFun Tryz.prog 83 g83 := ⟨Tryz.f83, _, [], Tryz.func83, by kernel_rfl, rfl, by kernel_rfl, by kernel_rfl, rfl⟩
def g84 : GFun := ⟨⟨145,[]⟩,(s [k 4 0] (.seq (s [k 5 0] (.block 0 (.loop (.seq (s [m 6 5,m 7 0,n 8 7,o 9 .lss 6 8] (.cond 9 .skip (.exit 0))) (.seq (.block 1 (s [m 12 0,m 13 5,m 14 1,c 15 80 [.t 14],i 16 16 12 13,f 17 0 16,(.mk none none
 (.store 1 (.t 17) (.t 15)))] (s [m 18 1,q 19 .add 18 1,m 1 19] (s [m 20 0,m 21 5,m 22 1,c 23 80 [.t 22],i 24 16 20 21,f 25 1 24,(.mk none none (.store 1 (.t 25) (.t 23)))] (s [m 26 1,q 27 .add 26 1,m 1 27] (s [m 28 0,m 29 5,m 30 1,
 i 31 16 28 29,e 32 2 7 31,f 33 0 32,(.mk none none (.store 1 (.t 33) (.t 30)))] (s [m 34 1,q 35 .add 34 1,m 1 35] (s [m 36 0,m 37 5,m 38 1,i 39 16 36 37,e 40 2 7 39,f 41 1 40,(.mk none none (.store 1 (.t 41) (.t 38)))] (s [m 42 1,
 q 43 .add 42 1,m 1 43] (s [m 44 0,m 45 5,m 46 1,i 47 16 44 45,e 48 2 7 47,f 49 2 48,(.mk none none (.store 1 (.t 49) (.t 46)))] (s [m 50 1,q 51 .add 50 1,m 1 51] (s [m 52 0,m 53 5,m 54 1,i 55 16 52 53,e 56 2 7 55,f 57 3 56,(.mk none none
 (.store 1 (.t 57) (.t 54)))] (s [m 58 1,q 59 .add 58 1,m 1 59] (s [m 60 0,m 61 5,m 62 1,c 63 80 [.t 62],i 64 16 60 61,e 65 2 7 64,f 66 4 65,(.mk none none (.store 1 (.t 66) (.t 63)))] (s [m 67 1,q 68 .add 67 1,m 1 68] (s [m 69 0,m 70 5,
 m 71 1,c 72 80 [.t 71],i 73 16 69 70,e 74 2 7 73,f 75 5 74,(.mk none none (.store 1 (.t 75) (.t 72)))] (s [m 76 1,q 77 .add 76 1,m 1 77] (s [m 78 0,m 79 5,i 80 16 78 79,e 81 2 7 80,f 82 6 81,l 83 82,m 84 1,c 85 146 [.t 83,.t 84],m 1 85]
 (s [m 86 0,m 87 5,m 88 1,i 89 16 86 87,e 90 9 7 89,f 91 0 90,(.mk none none (.store 1 (.t 91) (.t 88)))] (s [m 92 1,q 93 .add 92 1,m 1 93] (s [m 94 0,m 95 5,m 96 1,i 97 16 94 95,e 98 9 7 97,f 99 1 98,(.mk none none (.store 1 (.t 99)
 (.t 96)))] (s [m 100 1,q 101 .add 100 1,m 1 101] (s [m 102 0,m 103 5,m 104 1,i 105 16 102 103,e 106 9 7 105,f 107 2 106,(.mk none none (.store 1 (.t 107) (.t 104)))] (s [m 108 1,q 109 .add 108 1,m 1 109] (s [m 110 0,m 111 5,m 112 1,
 i 113 16 110 111,e 114 9 7 113,f 115 3 114,(.mk none none (.store 1 (.t 115) (.t 112)))] (s [m 116 1,q 117 .add 116 1,m 1 117] (s [m 118 0,m 119 5,m 120 1,c 121 80 [.t 120],i 122 16 118 119,e 123 9 7 122,f 124 4 123,(.mk none none
 (.store 1 (.t 124) (.t 121)))] (s [m 125 1,q 126 .add 125 1,m 1 126] (s [m 127 0,m 128 5,m 129 1,c 130 80 [.t 129],i 131 16 127 128,e 132 9 7 131,f 133 5 132,(.mk none none (.store 1 (.t 133) (.t 130)))] (s [m 134 1,q 135 .add 134 1,
 m 1 135] (.reg [m 136 0,m 137 5,i 138 16 136 137,e 139 9 7 138,f 140 6 139,l 141 140,m 142 1,c 143 146 [.t 141,.t 142],m 1 143]))))))))))))))))))))))))))))))) (.reg [m 10 5,q 11 .add 10 1,m 5 11])))))) (s [m 144 1,m 4 144] .ret))),[.t 4]⟩
theorem i84 : IsFun Tryz.prog 84 g84 := ⟨Tryz.f84, _, [], Tryz.func84, by kernel_rfl, rfl, by kernel_rfl, by kernel_rfl, rfl⟩
def g85 : GFun := ⟨⟨15,[]⟩,(s [b 6 false] (s [m 7 0,m 8 1,o 9 .geq 7 8,m 10 9,y 11 10 (.mov (.t 0)),y 12 10 (.mov (.t 2)),y 13 10 (.bin .leq (.t 11) (.t 12)),x 14 (.pick (.t 10) (.t 13) (.k (.val (.bool false)))),m 6 14] .ret)),[.t 6]⟩
theorem i85 : IsFun Tryz.prog 85 g85 := ⟨Tryz.f85, _, [], Tryz.func85, by kernel_rfl, rfl, by kernel_rfl, by kernel_rfl, rfl⟩
def g91 : GFun := ⟨⟨29,[2,4]⟩,(s [a 2 2 0,x 4 (.allocr 2),b 5 false] (.seq (s [k 6 0] (.block 0 (.loop (.seq (s [m 7 6,f 8 0 2,l 9 8,n 10 9,o 11 .lss 7 10] (.cond 11 .skip (.exit 0))) (.seq (.block 1 (s [f 14 0 2,l 15 14,m 16 6,
 i 17 2 15 16,f 18 0 17,l 19 18,m 20 1,o 21 .eql 19 20] (.cond 21 (s [f 22 0 2,l 23 22,m 24 6,i 25 2 23 24,h 26 2 25,c 27 156 [.t 26],x 4 (.stro 2 4 (.t 27)),b 5 true] .ret) .skip))) (.reg [m 12 6,q 13 .add 12 1,m 6 13])))))) (s [x 28
 (.build [(.val (.string (ByteArray.mk #[]))),(.val (.slice none 0 0))] []),x 4 (.stro 2 4 (.t 28)),b 5 false] .ret))),[(.c 4 2 true),.t 5]⟩
theorem i91 : IsFun Tryz.prog 91 g91 := ⟨Tryz.f91, _, [], Tryz.func91, by kernel_rfl, rfl, by kernel_rfl, by kernel_rfl, rfl⟩
def g92 : GFun := ⟨⟨28,[2,4]⟩,(s [a 2 2 0,x 4 (.allocr 4),b 5 false] (.seq (s [k 6 0] (.block 0 (.loop (.seq (s [m 7 6,f 8 1 2,l 9 8,n 10 9,o 11 .lss 7 10] (.cond 11 .skip (.exit 0))) (.seq (.block 1 (s [f 14 1 2,l 15 14,m 16 6,
 i 17 4 15 16,f 18 0 17,l 19 18,m 20 1,o 21 .eql 19 20] (.cond 21 (s [f 22 1 2,l 23 22,m 24 6,i 25 4 23 24,h 26 4 25,x 4 (.stro 4 4 (.t 26)),b 5 true] .ret) .skip))) (.reg [m 12 6,q 13 .add 12 1,m 6 13])))))) (s [x 27 (.build [(.val
 (.string (ByteArray.mk #[]))),(.val (.int .i64 0)),(.val (.int .i64 0)),(.val (.bool false))] []),x 4 (.stro 4 4 (.t 27)),b 5 false] .ret))),[(.c 4 4 true),.t 5]⟩
theorem i92 : IsFun Tryz.prog 92 g92 := ⟨Tryz.f92, _, [], Tryz.func92, by kernel_rfl, rfl, by kernel_rfl, by kernel_rfl, rfl⟩
def g103 : GFun := ⟨⟨22,[2,4,7]⟩,(s [a 2 2 0,x 4 (.allocr 2),b 5 false] (.seq (s [f 8 0 2,l 9 8,n 10 9,k 11 0] (.block 0 (.loop (s [o 12 .lss 11 10] (.seq (.cond 12 .skip (.exit 0)) (.seq (.block 1 (s [i 13 2 9 11,h 14 2 13,x 7 (.allocr 2),
 x 7 (.stro 2 7 (.t 14))] (s [f 15 0 7,l 16 15,m 17 1,o 18 .eql 16 17] (.cond 18 (s [h 19 2 7,x 4 (.stro 2 4 (.t 19)),b 5 true] .ret) .skip)))) (.reg [q 20 .add 11 1,m 11 20]))))))) (s [x 21 (.build [(.val (.string (ByteArray.mk #[]))),
 (.val (.slice none 0 0))] []),x 4 (.stro 2 4 (.t 21)),b 5 false] .ret))),[(.c 4 2 true),.t 5]⟩
theorem i103 : IsFun Tryz.prog 103 g103 := ⟨Tryz.f103, _, [], Tryz.func103, by kernel_rfl, rfl, by kernel_rfl, by kernel_rfl, rfl⟩
def g104 : GFun := ⟨⟨22,[2,4,7]⟩,(s [a 2 2 0,x 4 (.allocr 4),b 5 false] (.seq (s [f 8 1 2,l 9 8,n 10 9,k 11 0] (.block 0 (.loop (s [o 12 .lss 11 10] (.seq (.cond 12 .skip (.exit 0)) (.seq (.block 1 (s [i 13 4 9 11,h 14 4 13,x 7 (.allocr 4),
 x 7 (.stro 4 7 (.t 14))] (s [f 15 0 7,l 16 15,m 17 1,o 18 .eql 16 17] (.cond 18 (s [h 19 4 7,x 4 (.stro 4 4 (.t 19)),b 5 true] .ret) .skip)))) (.reg [q 20 .add 11 1,m 11 20]))))))) (s [x 21 (.build [(.val (.string (ByteArray.mk #[]))),
 (.val (.int .i64 0)),(.val (.int .i64 0)),(.val (.bool false))] []),x 4 (.stro 4 4 (.t 21)),b 5 false] .ret))),[(.c 4 4 true),.t 5]⟩
theorem i104 : IsFun Tryz.prog 104 g104 := ⟨Tryz.f104, _, [], Tryz.func104, by kernel_rfl, rfl, by kernel_rfl, by kernel_rfl, rfl⟩
def g109 : GFun := ⟨⟨9,[]⟩,(s [b 4 false] (s [m 5 0,m 6 1,c 7 177 [.t 5,.t 6],q 8 .geq 7 0,m 4 8] .ret)),[.t 4]⟩
theorem i109 : IsFun Tryz.prog 109 g109 := ⟨Tryz.f109, _, [], Tryz.func109, by kernel_rfl, rfl, by kernel_rfl, by kernel_rfl, rfl⟩
def g114 : GFun := ⟨⟨19,[3,4]⟩,(s [a 3 2 0,a 4 1 1,b 6 false] (s [h 7 1 4,x 8 (.call true 181 [.t 7]),m 9 8,y 12 9 (.mov (.t 2)),y 14 9 (.faddr 0 1 false (.t 4)),y 10 9 (.load 2 true (.t 3)),y 11 9 (.load 1 true (.t 4)),y 13 9
 (.call true 182 [.t 10,.t 11,(.k (.val (.int .i64 0))),(.k (.val (.int .i64 (-1)))),(.k (.val (.int .i64 0))),.t 12]),y 15 9 (.load 1 false (.t 14)),y 16 9 (.len (.t 15)),y 17 9 (.bin .eql (.t 13) (.t 16)),x 18 (.pick (.t 9) (.t 17) (.k
 (.val (.bool false)))),m 6 18] .ret)),[.t 6]⟩
theorem i114 : IsFun Tryz.prog 114 g114 := ⟨Tryz.f114, _, [], Tryz.func114, by kernel_rfl, rfl, by kernel_rfl, by kernel_rfl, rfl⟩
def g115 : GFun := ⟨⟨29,[3,4,7]⟩,(s [a 3 2 0,a 4 1 1,x 6 (.mov (.k (.val (.string (ByteArray.mk #[])))))] (.seq (s [m 9 2,f 10 0 4,l 11 10,n 12 11,q 13 .sub 12 1,c 14 85 [.t 9,(.k (.val (.int .i64 0))),.t 13],w 15 14] (.cond 15 (s [x 6
 (.mov (.k (.val (.string (ByteArray.mk #[])))))] .ret) .skip)) (s [f 18 0 4,m 20 2,x 7 (.allocr 6),h 17 2 3,l 19 18,i 21 6 19 20,f 22 4 21,l 23 22,x 24 (.call true 183 [.t 17,.t 23]),m 16 24,x 25 (.ext (.t 16) 0),x 26 (.ext (.t 16) 1),
 x 7 (.stro 6 7 (.t 25)),m 8 26] (s [f 27 1 7,l 28 27,m 6 28] .ret)))),[.t 6]⟩
theorem i115 : IsFun Tryz.prog 115 g115 := ⟨Tryz.f115, _, [], Tryz.func115, by kernel_rfl, rfl, by kernel_rfl, by kernel_rfl, rfl⟩
def g116 : GFun := ⟨⟨86,[3,4,5,6,8,13,15]⟩,(s [a 3 2 0,a 4 1 1,a 5 2 2,x 6 (.allocr 8),b 7 false] (s [h 18 2 3,h 19 1 4,h 20 2 5,c 21 184 [.t 18,.t 19,.t 20],m 17 21,x 22 (.ext (.t 17) 0),x 23 (.ext (.t 17) 1),x 8 (.allocr 4),x 8
 (.stro 4 8 (.t 22)),m 9 23] (s [h 24 1 4,f 25 0 5,l 26 25,c 27 185 [.t 24,.t 26],m 10 27] (.seq (s [m 28 9,w 29 28,m 30 29,z 31 30 (.faddr 2 1 false (.t 8)),z 32 30 (.load 1 false (.t 31)),z 33 30 (.bin .eql (.t 32) (.k (.val
 (.int .i64 3)))),x 34 (.pick (.t 30) (.k (.val (.bool true))) (.t 33))] (.cond 34 (s [x 35 (.build [(.val (.int .i64 0)),(.val (.int .i64 0)),(.val (.int .i64 0)),(.val (.int .i64 0)),(.val (.int .i64 0)),(.val (.string
 (ByteArray.mk #[]))),(.val (.string (ByteArray.mk #[]))),(.val (.slice none 0 0))] []),x 6 (.stro 8 6 (.t 35)),b 7 false] .ret) .skip)) (s [m 36 10,m 11 36] (s [k 12 0] (.seq (s [f 37 2 8,l 38 37,q 39 .eql 38 1] (.cond 39 (s [f 40 0 4,
 l 41 40,m 42 10,i 43 6 41 42,f 44 1 43,l 45 44,m 11 45] (.reg [f 46 0 4,l 47 46,m 48 10,i 49 6 47 48,f 50 2 49,l 51 50,m 12 51])) .skip)) (.seq (s [m 52 11,f 53 0 4,l 54 53,n 55 54,q 56 .sub 55 1,c 57 85 [.t 52,(.k (.val (.int .i64 0))),
 .t 56],w 58 57] (.cond 58 (s [x 59 (.build [(.val (.int .i64 0)),(.val (.int .i64 0)),(.val (.int .i64 0)),(.val (.int .i64 0)),(.val (.int .i64 0)),(.val (.string (ByteArray.mk #[]))),(.val (.string (ByteArray.mk #[]))),(.val
 (.slice none 0 0))] []),x 6 (.stro 8 6 (.t 59)),b 7 false] .ret) .skip)) (s [f 62 0 4,m 64 11,x 13 (.allocr 6),h 61 2 3,l 63 62,i 65 6 63 64,f 66 4 65,l 67 66,x 68 (.call true 183 [.t 61,.t 67]),m 60 68,x 69 (.ext (.t 60) 0),x 70 (.ext
 (.t 60) 1),x 13 (.stro 6 13 (.t 69)),m 14 70] (s [h 72 6 13,m 73 12,f 74 1 5,l 75 74,x 76 (.build [(.val (.int .i64 0)),(.val (.string (ByteArray.mk #[])))] [(0,(1,(.t 73))),(1,(1,(.t 75)))]),c 77 186 [.t 72,.t 76],m 71 77,x 78 (.ext
 (.t 71) 0),x 79 (.ext (.t 71) 1),x 15 (.allocr 7),x 15 (.stro 7 15 (.t 78)),m 16 79] (.seq (s [m 80 16,w 81 80] (.cond 81 (s [x 82 (.build [(.val (.int .i64 0)),(.val (.int .i64 0)),(.val (.int .i64 0)),(.val (.int .i64 0)),(.val
 (.int .i64 0)),(.val (.string (ByteArray.mk #[]))),(.val (.string (ByteArray.mk #[]))),(.val (.slice none 0 0))] []),x 6 (.stro 8 6 (.t 82)),b 7 false] .ret) .skip)) (s [m 83 11,h 84 7 15,x 85 (.build [(.val (.int .i64 0)),(.val
 (.int .i64 0)),(.val (.int .i64 0)),(.val (.int .i64 0)),(.val (.int .i64 0)),(.val (.string (ByteArray.mk #[]))),(.val (.string (ByteArray.mk #[]))),(.val (.slice none 0 0))] [(0,(1,(.t 83))),(1,(7,(.t 84)))]),x 6 (.stro 8 6 (.t 85)),
 b 7 true] .ret)))))))))))),[(.c 6 8 true),.t 7]⟩
theorem i116 : IsFun Tryz.prog 116 g116 := ⟨Tryz.f116, _, [], Tryz.func116, by kernel_rfl, rfl, by kernel_rfl, by kernel_rfl, rfl⟩
def g123 : GFun := ⟨⟨27,[]⟩,(s [k 4 0] (s [m 6 1,m 7 0,n 8 7,o 9 .sub 6 8,m 1 9] (.seq (s [m 10 1,q 11 .lss 10 0] (.cond 11 (s [k 4 (-1)] .ret) .skip)) (.seq (s [k 5 0] (.block 0 (.loop (.seq (s [m 12 5,m 13 0,n 14 13,o 15 .lss 12 14]
 (.cond 15 .skip (.exit 0))) (.seq (.block 1 (s [m 18 0,m 19 5,i 20 4 18 19,h 21 4 20,m 22 1,c 23 193 [.t 21,.t 22],m 1 23] (s [m 24 1,q 25 .lss 24 0] (.cond 25 (s [k 4 (-1)] .ret) .skip)))) (.reg [m 16 5,q 17 .add 16 1,m 5 17]))))))
 (s [m 26 1,m 4 26] .ret))))),[.t 4]⟩
theorem i123 : IsFun Tryz.prog 123 g123 := ⟨Tryz.f123, _, [], Tryz.func123, by kernel_rfl, rfl, by kernel_rfl, by kernel_rfl, rfl⟩
def g124 : GFun := ⟨⟨28,[]⟩,(s [k 4 0] (s [m 6 1,m 7 0,n 8 7,o 9 .sub 6 8,m 1 9] (.seq (s [m 10 1,q 11 .lss 10 0] (.cond 11 (s [k 4 (-1)] .ret) .skip)) (.seq (s [k 5 0] (.block 0 (.loop (.seq (s [m 12 5,m 13 0,n 14 13,o 15 .lss 12 14]
 (.cond 15 .skip (.exit 0))) (.seq (.block 1 (s [m 18 1,m 19 0,m 20 5,i 21 1 19 20,l 22 21,x 23 (.slen (.t 22)),o 24 .sub 18 23,m 1 24] (s [m 25 1,q 26 .lss 25 0] (.cond 26 (s [k 4 (-1)] .ret) .skip)))) (.reg [m 16 5,q 17 .add 16 1,
 m 5 17])))))) (s [m 27 1,m 4 27] .ret))))),[.t 4]⟩
theorem i124 : IsFun Tryz.prog 124 g124 := ⟨Tryz.f124, _, [], Tryz.func124, by kernel_rfl, rfl, by kernel_rfl, by kernel_rfl, rfl⟩
def g125 : GFun := ⟨⟨27,[]⟩,(s [k 4 0] (s [m 6 1,m 7 0,n 8 7,o 9 .sub 6 8,m 1 9] (.seq (s [m 10 1,q 11 .lss 10 0] (.cond 11 (s [k 4 (-1)] .ret) .skip)) (.seq (s [k 5 0] (.block 0 (.loop (.seq (s [m 12 5,m 13 0,n 14 13,o 15 .lss 12 14]
 (.cond 15 .skip (.exit 0))) (.seq (.block 1 (s [m 18 0,m 19 5,i 20 9 18 19,h 21 9 20,m 22 1,c 23 194 [.t 21,.t 22],m 1 23] (s [m 24 1,q 25 .lss 24 0] (.cond 25 (s [k 4 (-1)] .ret) .skip)))) (.reg [m 16 5,q 17 .add 16 1,m 5 17]))))))
 (s [m 26 1,m 4 26] .ret))))),[.t 4]⟩
theorem i125 : IsFun Tryz.prog 125 g125 := ⟨Tryz.f125, _, [], Tryz.func125, by kernel_rfl, rfl, by kernel_rfl, by kernel_rfl, rfl⟩
def g126 : GFun := ⟨⟨27,[]⟩,(s [k 4 0] (s [m 6 1,m 7 0,n 8 7,o 9 .sub 6 8,m 1 9] (.seq (s [m 10 1,q 11 .lss 10 0] (.cond 11 (s [k 4 (-1)] .ret) .skip)) (.seq (s [k 5 0] (.block 0 (.loop (.seq (s [m 12 5,m 13 0,n 14 13,o 15 .lss 12 14]
 (.cond 15 .skip (.exit 0))) (.seq (.block 1 (s [m 18 0,m 19 5,i 20 16 18 19,h 21 16 20,m 22 1,c 23 195 [.t 21,.t 22],m 1 23] (s [m 24 1,q 25 .lss 24 0] (.cond 25 (s [k 4 (-1)] .ret) .skip)))) (.reg [m 16 5,q 17 .add 16 1,m 5 17]))))))
 (s [m 26 1,m 4 26] .ret))))),[.t 4]⟩
theorem i126 : IsFun Tryz.prog 126 g126 := ⟨Tryz.f126, _, [], Tryz.func126, by kernel_rfl, rfl, by kernel_rfl, by kernel_rfl, rfl⟩
def g127 : GFun := ⟨⟨12,[]⟩,(s [k 4 0] (s [m 5 1,m 6 0,n 7 6,o 8 .sub 5 7,m 1 8] (.seq (s [m 9 1,q 10 .lss 9 0] (.cond 10 (s [k 4 (-1)] .ret) .skip)) (s [m 11 1,m 4 11] .ret)))),[.t 4]⟩
theorem i127 : IsFun Tryz.prog 127 g127 := ⟨Tryz.f127, _, [], Tryz.func127, by kernel_rfl, rfl, by kernel_rfl, by kernel_rfl, rfl⟩
def g128 : GFun := ⟨⟨6,[1]⟩,(s [a 1 7 0,x 2 (.mov (.k (.val (.slice none 0 0))))] (s [h 3 7 1,x 4 (.bslice 2 [] 0 true []),c 5 196 [.t 3,.t 4],m 2 5] .ret)),[.t 2]⟩
theorem i128 : IsFun Tryz.prog 128 g128 := ⟨Tryz.f128, _, [], Tryz.func128, by kernel_rfl, rfl, by kernel_rfl, by kernel_rfl, rfl⟩
def g129 : GFun := ⟨⟨62,[4,5,7,8]⟩,(s [a 4 2 0,a 5 1 1,a 7 2 3,x 8 (.allocr 2),b 9 false] (.seq (s [m 10 2,f 11 0 5,l 12 11,n 13 12,q 14 .sub 13 1,x 15 (.call true 85 [.t 10,(.k (.val (.int .i64 0))),.t 14]),w 16 15,m 17 16,z 18 17
 (.faddr 0 1 false (.t 7)),z 20 17 (.faddr 0 1 false (.t 5)),z 22 17 (.mov (.t 2)),z 19 17 (.load 1 false (.t 18)),z 21 17 (.load 1 false (.t 20)),z 23 17 (.iaddr 6 (.t 21) (.t 22)),z 24 17 (.faddr 5 1 false (.t 23)),z 25 17
 (.load 1 false (.t 24)),z 26 17 (.len (.t 25)),z 27 17 (.call true 85 [.t 19,(.k (.val (.int .i64 0))),.t 26]),z 28 17 (.not (.t 27)),x 29 (.pick (.t 17) (.k (.val (.bool true))) (.t 28))] (.cond 29 (s [x 30 (.build [(.val (.int .i64 0)),
 (.val (.string (ByteArray.mk #[])))] []),x 8 (.stro 2 8 (.t 30)),b 9 false] .ret) .skip)) (.seq (s [f 31 0 7,l 32 31,q 33 .gtr 32 0] (.cond 33 (.reg [f 34 0 5,m 36 2,f 40 0 7,l 35 34,i 37 6 35 36,f 38 5 37,l 39 38,l 41 40,q 42 .sub 41 1,
 i 43 1 39 42,l 44 43,m 2 44]) .skip)) (.seq (s [m 45 2,f 46 0 5,l 47 46,n 48 47,q 49 .sub 48 1,c 50 85 [.t 45,(.k (.val (.int .i64 0))),.t 49],w 51 50] (.cond 51 (s [x 52 (.build [(.val (.int .i64 0)),(.val (.string
 (ByteArray.mk #[])))] []),x 8 (.stro 2 8 (.t 52)),b 9 false] .ret) .skip)) (s [f 53 0 5,m 55 2,f 59 1 7,l 54 53,i 56 6 54 55,f 57 0 56,l 58 57,l 60 59,x 61 (.build [(.val (.int .i64 0)),(.val (.string (ByteArray.mk #[])))] [(0,(1,
 (.t 58))),(1,(1,(.t 60)))]),x 8 (.stro 2 8 (.t 61)),b 9 true] .ret))))),[(.c 8 2 true),.t 9]⟩
theorem i129 : IsFun Tryz.prog 129 g129 := ⟨Tryz.f129, _, [], Tryz.func129, by kernel_rfl, rfl, by kernel_rfl, by kernel_rfl, rfl⟩
def g130 : GFun := ⟨⟨18,[]⟩,(s [b 4 false] (.seq (s [k 5 0] (.block 0 (.loop (.seq (s [m 6 5,m 7 0,n 8 7,o 9 .lss 6 8] (.cond 9 .skip (.exit 0))) (.seq (.block 1 (s [m 12 0,m 13 5,i 14 1 12 13,l 15 14,m 16 1,o 17 .eql 15 16] (.cond 17
 (s [b 4 true] .ret) .skip))) (.reg [m 10 5,q 11 .add 10 1,m 5 11])))))) (s [b 4 false] .ret))),[.t 4]⟩
theorem i130 : IsFun Tryz.prog 130 g130 := ⟨Tryz.f130, _, [], Tryz.func130, by kernel_rfl, rfl, by kernel_rfl, by kernel_rfl, rfl⟩
def g131 : GFun := ⟨⟨23,[]⟩,(s [x 2 (.mov (.k (.val (.slice none 0 0))))] (s [m 5 0,n 6 5,x 7 (.mkslice 4 40 (.agg [(.val (.string (ByteArray.mk #[]))),(.val (.int .i64 0)),(.val (.int .i64 0)),(.val (.bool false))]) (.t 6) (.t 6)),m 3 7]
 (.seq (s [k 4 0] (.block 0 (.loop (.seq (s [m 8 4,m 9 0,n 10 9,o 11 .lss 8 10] (.cond 11 .skip (.exit 0))) (.seq (.block 1 (.reg [m 14 3,m 15 4,m 16 0,m 17 4,i 18 4 16 17,h 19 4 18,c 20 197 [.t 19],i 21 4 14 15,(.mk none none (.store 4
 (.t 21) (.t 20)))])) (.reg [m 12 4,q 13 .add 12 1,m 4 13])))))) (s [m 22 3,m 2 22] .ret)))),[.t 2]⟩
theorem i131 : IsFun Tryz.prog 131 g131 := ⟨Tryz.f131, _, [], Tryz.func131, by kernel_rfl, rfl, by kernel_rfl, by kernel_rfl, rfl⟩
def g132 : GFun := ⟨⟨22,[]⟩,(s [x 2 (.mov (.k (.val (.slice none 0 0))))] (s [m 5 0,n 6 5,x 7 (.mkslice 1 16 (.val (.string (ByteArray.mk #[]))) (.t 6) (.t 6)),m 3 7] (.seq (s [k 4 0] (.block 0 (.loop (.seq (s [m 8 4,m 9 0,n 10 9,
 o 11 .lss 8 10] (.cond 11 .skip (.exit 0))) (.seq (.block 1 (.reg [m 14 3,m 15 4,m 16 0,m 17 4,i 18 1 16 17,l 19 18,i 20 1 14 15,(.mk none none (.store 1 (.t 20) (.t 19)))])) (.reg [m 12 4,q 13 .add 12 1,m 4 13])))))) (s [m 21 3,
 m 2 21] .ret)))),[.t 2]⟩
theorem i132 : IsFun Tryz.prog 132 g132 := ⟨Tryz.f132, _, [], Tryz.func132, by kernel_rfl, rfl, by kernel_rfl, by kernel_rfl, rfl⟩
def g133 : GFun := ⟨⟨23,[]⟩,(s [x 2 (.mov (.k (.val (.slice none 0 0))))] (s [m 5 0,n 6 5,x 7 (.mkslice 9 112 (.agg [(.val (.int .i64 0)),(.val (.string (ByteArray.mk #[]))),(.val (.int .i64 0)),(.val (.int .i64 0)),(.val (.int .i64 0)),
 (.val (.int .i64 0)),(.val (.string (ByteArray.mk #[]))),(.val (.string (ByteArray.mk #[]))),(.val (.slice none 0 0))]) (.t 6) (.t 6)),m 3 7] (.seq (s [k 4 0] (.block 0 (.loop (.seq (s [m 8 4,m 9 0,n 10 9,o 11 .lss 8 10] (.cond 11 .skip
 (.exit 0))) (.seq (.block 1 (.reg [m 14 3,m 15 4,m 16 0,m 17 4,i 18 9 16 17,h 19 9 18,c 20 198 [.t 19],i 21 9 14 15,(.mk none none (.store 9 (.t 21) (.t 20)))])) (.reg [m 12 4,q 13 .add 12 1,m 4 13])))))) (s [m 22 3,m 2 22] .ret)))),
 [.t 2]⟩
theorem i133 : IsFun Tryz.prog 133 g133 := ⟨Tryz.f133, _, [], Tryz.func133, by kernel_rfl, rfl, by kernel_rfl, by kernel_rfl, rfl⟩
def g134 : GFun := ⟨⟨23,[]⟩,(s [x 2 (.mov (.k (.val (.slice none 0 0))))] (s [m 5 0,n 6 5,x 7 (.mkslice 16 208 (.agg [(.val (.string (ByteArray.mk #[]))),(.val (.string (ByteArray.mk #[]))),(.val (.int .i64 0)),(.val (.int .i64 0)),(.val
 (.int .i64 0)),(.val (.int .i64 0)),(.val (.string (ByteArray.mk #[]))),(.val (.string (ByteArray.mk #[]))),(.val (.slice none 0 0)),(.val (.int .i64 0)),(.val (.int .i64 0)),(.val (.int .i64 0)),(.val (.int .i64 0)),(.val (.string
 (ByteArray.mk #[]))),(.val (.string (ByteArray.mk #[]))),(.val (.slice none 0 0))]) (.t 6) (.t 6)),m 3 7] (.seq (s [k 4 0] (.block 0 (.loop (.seq (s [m 8 4,m 9 0,n 10 9,o 11 .lss 8 10] (.cond 11 .skip (.exit 0))) (.seq (.block 1
 (.reg [m 14 3,m 15 4,m 16 0,m 17 4,i 18 16 16 17,h 19 16 18,c 20 199 [.t 19],i 21 16 14 15,(.mk none none (.store 16 (.t 21) (.t 20)))])) (.reg [m 12 4,q 13 .add 12 1,m 4 13])))))) (s [m 22 3,m 2 22] .ret)))),[.t 2]⟩
theorem i134 : IsFun Tryz.prog 134 g134 := ⟨Tryz.f134, _, [], Tryz.func134, by kernel_rfl, rfl, by kernel_rfl, by kernel_rfl, rfl⟩
def g135 : GFun := ⟨⟨19,[]⟩,(s [k 4 0] (.seq (s [m 6 0,n 7 6,k 8 0] (.block 0 (.loop (s [o 9 .lss 8 7] (.seq (.cond 9 .skip (.exit 0)) (.seq (.block 1 (s [m 10 8,m 5 10] (s [m 11 1,m 12 0,m 13 5,i 14 1 12 13,l 15 14,x 16 (.callv false
 (.t 11) [.t 15])] (.cond 16 (s [m 17 5,m 4 17] .ret) .skip)))) (.reg [q 18 .add 8 1,m 8 18]))))))) (s [k 4 (-1)] .ret))),[.t 4]⟩
theorem i135 : IsFun Tryz.prog 135 g135 := ⟨Tryz.f135, _, [], Tryz.func135, by kernel_rfl, rfl, by kernel_rfl, by kernel_rfl, rfl⟩
def g136 : GFun := ⟨⟨11,[2,3]⟩,(s [a 2 2 0,a 3 1 1,b 4 false] (s [h 5 2 2,h 6 1 3,h 7 2 2,h 8 1 3,x 9 (.call true 137 [.t 7,.t 8,(.k (.val (.int .i64 0)))]),x 10 (.call true 200 [.t 5,.t 6,.t 9]),m 4 10] .ret)),[.t 4]⟩
theorem i136 : IsFun Tryz.prog 136 g136 := ⟨Tryz.f136, _, [], Tryz.func136, by kernel_rfl, rfl, by kernel_rfl, by kernel_rfl, rfl⟩
def g137 : GFun := ⟨⟨26,[3,4,7]⟩,(s [a 3 2 0,a 4 1 1,x 6 (.mov (.k (.val (.string (ByteArray.mk #[])))))] (.seq (s [h 9 1 4,m 10 2,c 11 201 [.t 9,.t 10],w 12 11] (.cond 12 (s [x 6 (.mov (.k (.val (.string
 (ByteArray.mk #[])))))] .ret) .skip)) (s [f 15 0 4,m 17 2,x 7 (.allocr 6),h 14 2 3,l 16 15,i 18 6 16 17,f 19 4 18,l 20 19,x 21 (.call true 202 [.t 14,.t 20]),m 13 21,x 22 (.ext (.t 13) 0),x 23 (.ext (.t 13) 1),x 7 (.stro 6 7 (.t 22)),
 m 8 23] (s [f 24 1 7,l 25 24,m 6 25] .ret)))),[.t 6]⟩
theorem i137 : IsFun Tryz.prog 137 g137 := ⟨Tryz.f137, _, [], Tryz.func137, by kernel_rfl, rfl, by kernel_rfl, by kernel_rfl, rfl⟩
def g138 : GFun := ⟨⟨81,[3,4,5,6,8,12,14]⟩,(s [a 3 2 0,a 4 1 1,a 5 2 2,x 6 (.allocr 8),b 7 false] (s [h 16 2 3,h 17 1 4,h 18 2 5,c 19 203 [.t 16,.t 17,.t 18],m 15 19,x 20 (.ext (.t 15) 0),x 21 (.ext (.t 15) 1),x 8 (.allocr 4),x 8
 (.stro 4 8 (.t 20)),m 9 21] (.seq (s [m 22 9,w 23 22,m 24 23,z 25 24 (.faddr 2 1 false (.t 8)),z 26 24 (.load 1 false (.t 25)),z 27 24 (.bin .eql (.t 26) (.k (.val (.int .i64 3)))),x 28 (.pick (.t 24) (.k (.val (.bool true))) (.t 27))]
 (.cond 28 (s [x 29 (.build [(.val (.int .i64 0)),(.val (.int .i64 0)),(.val (.int .i64 0)),(.val (.int .i64 0)),(.val (.int .i64 0)),(.val (.string (ByteArray.mk #[]))),(.val (.string (ByteArray.mk #[]))),(.val (.slice none 0 0))] []),
 x 6 (.stro 8 6 (.t 29)),b 7 false] .ret) .skip)) (s [f 31 0 5,f 34 1 5,h 30 1 4,l 32 31,x 33 (.call true 204 [.t 30,.t 32]),l 35 34,x 36 (.build [(.val (.int .i64 0)),(.val (.string (ByteArray.mk #[])))] [(1,(1,(.t 35)))]),x 11 (.alloc 2
 (.agg [(.val (.int .i64 0)),(.val (.string (ByteArray.mk #[])))])),m 10 33,(.mk none none (.store 2 (.t 11) (.t 36)))] (.seq (s [f 37 2 8,l 38 37,q 39 .eql 38 1] (.cond 39 (.reg [f 40 0 4,m 42 10,f 46 0 4,m 48 10,l 41 40,i 43 6 41 42,
 f 44 1 43,l 45 44,m 10 45,l 47 46,i 49 6 47 48,f 50 2 49,l 51 50,f 52 0 11,(.mk none none (.store 1 (.t 52) (.t 51)))]) .skip)) (.seq (s [h 53 1 4,m 54 10,c 55 201 [.t 53,.t 54],w 56 55] (.cond 56 (s [x 57 (.build [(.val (.int .i64 0)),
 (.val (.int .i64 0)),(.val (.int .i64 0)),(.val (.int .i64 0)),(.val (.int .i64 0)),(.val (.string (ByteArray.mk #[]))),(.val (.string (ByteArray.mk #[]))),(.val (.slice none 0 0))] []),x 6 (.stro 8 6 (.t 57)),b 7 false] .ret) .skip))
 (s [f 60 0 4,m 62 10,x 12 (.allocr 6),h 59 2 3,l 61 60,i 63 6 61 62,f 64 4 63,l 65 64,x 66 (.call true 202 [.t 59,.t 65]),m 58 66,x 67 (.ext (.t 58) 0),x 68 (.ext (.t 58) 1),x 12 (.stro 6 12 (.t 67)),m 13 68] (s [h 70 6 12,h 71 2 11,
 c 72 205 [.t 70,.t 71],m 69 72,x 73 (.ext (.t 69) 0),x 74 (.ext (.t 69) 1),x 14 (.allocr 7),x 14 (.stro 7 14 (.t 73)),m 9 74] (.seq (s [m 75 9,w 76 75] (.cond 76 (s [x 77 (.build [(.val (.int .i64 0)),(.val (.int .i64 0)),(.val
 (.int .i64 0)),(.val (.int .i64 0)),(.val (.int .i64 0)),(.val (.string (ByteArray.mk #[]))),(.val (.string (ByteArray.mk #[]))),(.val (.slice none 0 0))] []),x 6 (.stro 8 6 (.t 77)),b 7 false] .ret) .skip)) (s [m 78 10,h 79 7 14,x 80
 (.build [(.val (.int .i64 0)),(.val (.int .i64 0)),(.val (.int .i64 0)),(.val (.int .i64 0)),(.val (.int .i64 0)),(.val (.string (ByteArray.mk #[]))),(.val (.string (ByteArray.mk #[]))),(.val (.slice none 0 0))] [(0,(1,(.t 78))),(1,(7,
 (.t 79)))]),x 6 (.stro 8 6 (.t 80)),b 7 true] .ret)))))))))),[(.c 6 8 true),.t 7]⟩
theorem i138 : IsFun Tryz.prog 138 g138 := ⟨Tryz.f138, _, [], Tryz.func138, by kernel_rfl, rfl, by kernel_rfl, by kernel_rfl, rfl⟩
def g139 : GFun := ⟨⟨12,[1]⟩,(s [a 1 7 0,x 2 (.mov (.k (.val (.slice none 0 0))))] (s [x 4 (.bslice 2 [] 0 true []),x 3 (.alloc 1 (.val (.slice none 0 0))),(.mk none none (.store 1 (.t 3) (.t 4)))] (s [h 5 7 1,x 6 (.mkfn 206 [.t 3]),
 c 7 178 [.t 5,.t 6]] (s [l 8 3,x 9 (.call false 207 [.t 8,(.k (.clo 208 []))])] (s [l 10 3,c 11 209 [.t 10],m 2 11] .ret))))),[.t 2]⟩
theorem i139 : IsFun Tryz.prog 139 g139 := ⟨Tryz.f139, _, [], Tryz.func139, by kernel_rfl, rfl, by kernel_rfl, by kernel_rfl, rfl⟩
def g140 : GFun := ⟨⟨55,[4,5,7,8]⟩,(s [a 4 2 0,a 5 1 1,a 7 2 3,x 8 (.allocr 2),b 9 false] (.seq (s [h 10 1 5,m 11 2,c 12 201 [.t 10,.t 11],w 13 12] (.cond 13 (s [x 14 (.build [(.val (.int .i64 0)),(.val (.string (ByteArray.mk #[])))] []),
 x 8 (.stro 2 8 (.t 14)),b 9 false] .ret) .skip)) (.seq (s [f 15 0 7,l 16 15,q 17 .neq 16 0] (.cond 17 (.seq (s [f 18 0 7,f 20 0 5,m 22 2,l 19 18,l 21 20,i 23 6 21 22,f 24 5 23,l 25 24,n 26 25,x 27 (.call true 73 [.t 19,(.k (.val
 (.int .i64 1))),.t 26]),w 28 27] (.cond 28 (s [x 29 (.build [(.val (.int .i64 0)),(.val (.string (ByteArray.mk #[])))] []),x 8 (.stro 2 8 (.t 29)),b 9 false] .ret) .skip)) (.reg [f 30 0 5,m 32 2,f 36 0 7,l 31 30,i 33 6 31 32,f 34 5 33,
 l 35 34,l 37 36,q 38 .sub 37 1,i 39 1 35 38,l 40 39,m 2 40])) .skip)) (.seq (s [h 41 1 5,m 42 2,c 43 201 [.t 41,.t 42],w 44 43] (.cond 44 (s [x 45 (.build [(.val (.int .i64 0)),(.val (.string (ByteArray.mk #[])))] []),x 8 (.stro 2 8
 (.t 45)),b 9 false] .ret) .skip)) (s [f 46 0 5,m 48 2,f 52 1 7,l 47 46,i 49 6 47 48,f 50 0 49,l 51 50,l 53 52,x 54 (.build [(.val (.int .i64 0)),(.val (.string (ByteArray.mk #[])))] [(0,(1,(.t 51))),(1,(1,(.t 53)))]),x 8 (.stro 2 8
 (.t 54)),b 9 true] .ret))))),[(.c 8 2 true),.t 9]⟩
theorem i140 : IsFun Tryz.prog 140 g140 := ⟨Tryz.f140, _, [], Tryz.func140, by kernel_rfl, rfl, by kernel_rfl, by kernel_rfl, rfl⟩
def g141 : GFun := ⟨⟨19,[3]⟩,(s [a 3 2 1,k 4 0] (.seq (s [m 6 0,n 7 6,k 8 0] (.block 0 (.loop (s [o 9 .lss 8 7] (.seq (.cond 9 .skip (.exit 0)) (.seq (.block 1 (s [m 10 8,m 5 10] (s [m 12 0,m 13 5,i 14 2 12 13,h 11 2 3,h 15 2 14,x 16
 (.aeq false [1,2] (.t 11) (.t 15))] (.cond 16 (s [m 17 5,m 4 17] .ret) .skip)))) (.reg [q 18 .add 8 1,m 8 18]))))))) (s [k 4 (-1)] .ret))),[.t 4]⟩
theorem i141 : IsFun Tryz.prog 141 g141 := ⟨Tryz.f141, _, [], Tryz.func141, by kernel_rfl, rfl, by kernel_rfl, by kernel_rfl, rfl⟩
def g142 : GFun := ⟨⟨27,[]⟩,(s [b 4 false] (.seq (s [m 6 0,n 7 6,m 8 1,n 9 8,o 10 .neq 7 9] (.cond 10 (s [b 4 false] .ret) .skip)) (.seq (s [k 5 0] (.block 0 (.loop (.seq (s [m 11 5,m 12 0,n 13 12,o 14 .lss 11 13] (.cond 14 .skip
 (.exit 0))) (.seq (.block 1 (s [m 17 0,m 18 5,i 19 4 17 18,m 21 1,m 22 5,i 23 4 21 22,h 20 4 19,h 24 4 23,x 25 (.call true 210 [.t 20,.t 24]),w 26 25] (.cond 26 (s [b 4 false] .ret) .skip))) (.reg [m 15 5,q 16 .add 15 1,m 5 16]))))))
 (s [b 4 true] .ret)))),[.t 4]⟩
theorem i142 : IsFun Tryz.prog 142 g142 := ⟨Tryz.f142, _, [], Tryz.func142, by kernel_rfl, rfl, by kernel_rfl, by kernel_rfl, rfl⟩
def g143 : GFun := ⟨⟨26,[]⟩,(s [b 4 false] (.seq (s [m 6 0,n 7 6,m 8 1,n 9 8,o 10 .neq 7 9] (.cond 10 (s [b 4 false] .ret) .skip)) (.seq (s [k 5 0] (.block 0 (.loop (.seq (s [m 11 5,m 12 0,n 13 12,o 14 .lss 11 13] (.cond 14 .skip
 (.exit 0))) (.seq (.block 1 (s [m 17 0,m 18 5,i 19 1 17 18,m 21 1,m 22 5,i 23 1 21 22,l 20 19,l 24 23,o 25 .neq 20 24] (.cond 25 (s [b 4 false] .ret) .skip))) (.reg [m 15 5,q 16 .add 15 1,m 5 16])))))) (s [b 4 true] .ret)))),[.t 4]⟩
theorem i143 : IsFun Tryz.prog 143 g143 := ⟨Tryz.f143, _, [], Tryz.func143, by kernel_rfl, rfl, by kernel_rfl, by kernel_rfl, rfl⟩
def g144 : GFun := ⟨⟨27,[]⟩,(s [b 4 false] (.seq (s [m 6 0,n 7 6,m 8 1,n 9 8,o 10 .neq 7 9] (.cond 10 (s [b 4 false] .ret) .skip)) (.seq (s [k 5 0] (.block 0 (.loop (.seq (s [m 11 5,m 12 0,n 13 12,o 14 .lss 11 13] (.cond 14 .skip
 (.exit 0))) (.seq (.block 1 (s [m 17 0,m 18 5,i 19 9 17 18,m 21 1,m 22 5,i 23 9 21 22,h 20 9 19,h 24 9 23,x 25 (.call true 211 [.t 20,.t 24]),w 26 25] (.cond 26 (s [b 4 false] .ret) .skip))) (.reg [m 15 5,q 16 .add 15 1,m 5 16]))))))
 (s [b 4 true] .ret)))),[.t 4]⟩
theorem i144 : IsFun Tryz.prog 144 g144 := ⟨Tryz.f144, _, [], Tryz.func144, by kernel_rfl, rfl, by kernel_rfl, by kernel_rfl, rfl⟩
def g145 : GFun := ⟨⟨27,[]⟩,(s [b 4 false] (.seq (s [m 6 0,n 7 6,m 8 1,n 9 8,o 10 .neq 7 9] (.cond 10 (s [b 4 false] .ret) .skip)) (.seq (s [k 5 0] (.block 0 (.loop (.seq (s [m 11 5,m 12 0,n 13 12,o 14 .lss 11 13] (.cond 14 .skip
 (.exit 0))) (.seq (.block 1 (s [m 17 0,m 18 5,i 19 16 17 18,m 21 1,m 22 5,i 23 16 21 22,h 20 16 19,h 24 16 23,x 25 (.call true 212 [.t 20,.t 24]),w 26 25] (.cond 26 (s [b 4 false] .ret) .skip))) (.reg [m 15 5,q 16 .add 15 1,m 5 16]))))))
 (s [b 4 true] .ret)))),[.t 4]⟩
theorem i145 : IsFun Tryz.prog 145 g145 := ⟨Tryz.f145, _, [], Tryz.func145, by kernel_rfl, rfl, by kernel_rfl, by kernel_rfl, rfl⟩
def g146 : GFun := ⟨⟨64,[]⟩,(s [k 4 0] (.seq (s [k 5 0] (.block 0 (.loop (.seq (s [m 6 5,m 7 0,n 8 7,o 9 .lss 6 8] (.cond 9 .skip (.exit 0))) (.seq (.block 1 (s [m 12 0,m 13 5,m 14 1,i 15 7 12 13,f 16 0 15,(.mk none none (.store 1 (.t 16)
 (.t 14)))] (s [m 17 1,q 18 .add 17 1,m 1 18] (s [m 19 0,m 20 5,m 21 1,i 22 7 19 20,f 23 1 22,(.mk none none (.store 1 (.t 23) (.t 21)))] (s [m 24 1,q 25 .add 24 1,m 1 25] (s [m 26 0,m 27 5,m 28 1,i 29 7 26 27,f 30 2 29,(.mk none none
 (.store 1 (.t 30) (.t 28)))] (s [m 31 1,q 32 .add 31 1,m 1 32] (s [m 33 0,m 34 5,m 35 1,i 36 7 33 34,f 37 3 36,(.mk none none (.store 1 (.t 37) (.t 35)))] (s [m 38 1,q 39 .add 38 1,m 1 39] (s [m 40 0,m 41 5,m 42 1,c 43 80 [.t 42],
 i 44 7 40 41,f 45 4 44,(.mk none none (.store 1 (.t 45) (.t 43)))] (s [m 46 1,q 47 .add 46 1,m 1 47] (s [m 48 0,m 49 5,m 50 1,c 51 80 [.t 50],i 52 7 48 49,f 53 5 52,(.mk none none (.store 1 (.t 53) (.t 51)))] (s [m 54 1,q 55 .add 54 1,
 m 1 55] (.reg [m 56 0,m 57 5,i 58 7 56 57,f 59 6 58,l 60 59,m 61 1,c 62 146 [.t 60,.t 61],m 1 62])))))))))))))) (.reg [m 10 5,q 11 .add 10 1,m 5 11])))))) (s [m 63 1,m 4 63] .ret))),[.t 4]⟩
theorem i146 : IsFun Tryz.prog 146 g146 := ⟨Tryz.f146, _, [], Tryz.func146, by kernel_rfl, rfl, by kernel_rfl, by kernel_rfl, rfl⟩
def g156 : GFun := ⟨⟨10,[1,2]⟩,(s [a 1 2 0,x 2 (.allocr 2)] (s [f 3 0 1,x 4 (.loadr 1 false (.t 3)),f 6 1 1,x 7 (.loadr 1 false (.t 6)),x 5 (.bslice 4 [] 0 true []),x 8 (.append 4 40 (.t 5) (.t 7)),x 9 (.build [(.val (.string
 (ByteArray.mk #[]))),(.val (.slice none 0 0))] [(0,(1,(.t 4))),(1,(1,(.t 8)))]),x 2 (.stro 2 2 (.t 9))] .ret)),[(.c 2 2 true)]⟩
theorem i156 : IsFun Tryz.prog 156 g156 := ⟨Tryz.f156, _, [], Tryz.func156, by kernel_rfl, rfl, by kernel_rfl, by kernel_rfl, rfl⟩
def g177 : GFun := ⟨⟨19,[]⟩,(s [k 4 0] (.seq (s [m 6 0,n 7 6,k 8 0] (.block 0 (.loop (s [o 9 .lss 8 7] (.seq (.cond 9 .skip (.exit 0)) (.seq (.block 1 (s [m 10 8,m 5 10] (s [m 11 1,m 12 0,m 13 5,i 14 7 12 13,h 15 7 14,x 16 (.callv false
 (.t 11) [.t 15])] (.cond 16 (s [m 17 5,m 4 17] .ret) .skip)))) (.reg [q 18 .add 8 1,m 8 18]))))))) (s [k 4 (-1)] .ret))),[.t 4]⟩
theorem i177 : IsFun Tryz.prog 177 g177 := ⟨Tryz.f177, _, [], Tryz.func177, by kernel_rfl, rfl, by kernel_rfl, by kernel_rfl, rfl⟩
def g178 : GFun := ⟨⟨15,[2,3]⟩,(s [a 2 7 0,a 3 1 1,b 4 false] (s [l 5 3,h 6 7 2,x 7 (.callv false (.t 5) [.t 6]),m 8 7,y 9 8 (.faddr 6 1 false (.t 2)),y 10 8 (.load 1 false (.t 9)),y 11 8 (.mkfn 229 [.t 3]),y 12 8 (.call false 109 [.t 10,
 .t 11]),y 13 8 (.not (.t 12)),x 14 (.pick (.t 8) (.t 13) (.k (.val (.bool false)))),m 4 14] .ret)),[.t 4]⟩
theorem i178 : IsFun Tryz.prog 178 g178 := ⟨Tryz.f178, _, [], Tryz.func178, by kernel_rfl, rfl, by kernel_rfl, by kernel_rfl, rfl⟩
def g181 : GFun := ⟨⟨43,[1]⟩,(s [a 1 1 0,b 2 false] (s [x 5 (.bslice 1 [] 0 false []),m 3 5] (.seq (s [k 4 0] (.block 0 (.loop (.seq (s [m 6 4,f 7 0 1,l 8 7,n 9 8,o 10 .lss 6 9] (.cond 10 .skip (.exit 0))) (.seq (.block 1 (.seq
 (s [f 13 0 1,l 14 13,m 15 4,i 16 6 14 15,f 17 0 16,l 18 17,c 19 85 [.t 18,(.k (.val (.int .i64 1))),(.k (.val (.int .i64 999)))],w 20 19,m 21 20,z 22 21 (.mov (.t 3)),z 23 21 (.faddr 0 1 false (.t 1)),z 24 21 (.load 1 false (.t 23)),
 z 25 21 (.mov (.t 4)),z 26 21 (.iaddr 6 (.t 24) (.t 25)),z 27 21 (.faddr 0 1 false (.t 26)),z 28 21 (.load 1 false (.t 27)),z 29 21 (.call false 130 [.t 22,.t 28]),x 30 (.pick (.t 21) (.k (.val (.bool true))) (.t 29))] (.cond 30
 (s [b 2 false] .ret) .skip)) (.reg [m 31 3,f 32 0 1,l 33 32,m 34 4,i 35 6 33 34,f 36 0 35,l 37 36,x 38 (.bslice 1 [] 1 false [(0,(.t 37))]),x 39 (.append 1 8 (.t 31) (.t 38)),m 3 39]))) (.reg [m 11 4,q 12 .add 11 1,m 4 12]))))))
 (s [m 40 3,n 41 40,c 42 85 [.t 41,(.k (.val (.int .i64 1))),(.k (.val (.int .i64 16)))],m 2 42] .ret)))),[.t 2]⟩
theorem i181 : IsFun Tryz.prog 181 g181 := ⟨Tryz.f181, _, [], Tryz.func181, by kernel_rfl, rfl, by kernel_rfl, by kernel_rfl, rfl⟩
def g182 : GFun := ⟨⟨109,[6,7,13,14]⟩,(s [a 6 2 0,a 7 1 1,k 12 0] (.seq (s [m 18 2,f 19 0 7,l 20 19,n 21 20,o 22 .geq 18 21] (.cond 22 (s [k 12 (-1)] .ret) .skip)) (s [f 23 0 7,l 24 23,m 25 2,i 26 6 24 25,h 27 6 26,x 13 (.allocr 6),x 13
 (.stro 6 13 (.t 27))] (s [h 29 2 6,f 30 4 13,l 31 30,c 32 183 [.t 29,.t 31],m 28 32,x 33 (.ext (.t 28) 0),x 34 (.ext (.t 28) 1),x 14 (.allocr 6),x 14 (.stro 6 14 (.t 33)),m 15 34] (.seq (s [m 35 15,w 36 35,m 37 36,z 38 37
 (.faddr 1 1 false (.t 14)),z 39 37 (.load 1 false (.t 38)),z 40 37 (.mov (.t 5)),z 41 37 (.bin .neq (.t 39) (.t 40)),x 42 (.pick (.t 37) (.k (.val (.bool true))) (.t 41)),m 43 42,z 44 43 (.faddr 1 1 false (.t 13)),z 45 43 (.load 1 false
 (.t 44)),z 46 43 (.mov (.t 3)),z 47 43 (.bin .neq (.t 45) (.t 46)),x 48 (.pick (.t 43) (.k (.val (.bool true))) (.t 47)),m 49 48,z 50 49 (.faddr 2 1 false (.t 13)),z 51 49 (.load 1 false (.t 50)),z 52 49 (.mov (.t 4)),z 53 49 (.bin .neq
 (.t 51) (.t 52)),x 54 (.pick (.t 49) (.k (.val (.bool true))) (.t 53)),m 55 54,z 56 55 (.faddr 5 1 false (.t 13)),z 57 55 (.load 1 false (.t 56)),z 58 55 (.len (.t 57)),z 59 55 (.faddr 2 1 false (.t 14)),z 60 55 (.load 1 false (.t 59)),
 z 61 55 (.len (.t 60)),z 62 55 (.bin .neq (.t 58) (.t 61)),x 63 (.pick (.t 55) (.k (.val (.bool true))) (.t 62))] (.cond 63 (s [k 12 (-1)] .ret) .skip)) (.seq (s [f 64 3 13,l 65 64,c 66 230 [.t 65,(.k (.val (.int .i64 1)))],w 67 66,
 m 68 67,z 69 68 (.faddr 3 1 false (.t 14)),z 70 68 (.load 1 false (.t 69)),z 71 68 (.not (.t 70)),z 72 68 (.mov (.t 71)),y 73 72 (.faddr 3 1 false (.t 13)),y 74 72 (.load 1 false (.t 73)),y 75 72 (.bin .neq (.t 74) (.k (.val
 (.int .i64 0)))),z 76 68 (.pick (.t 72) (.t 75) (.k (.val (.bool false)))),x 77 (.pick (.t 68) (.k (.val (.bool true))) (.t 76))] (.cond 77 (s [k 12 (-1)] .ret) .skip)) (s [m 78 2,q 79 .add 78 1,m 16 79] (.seq (s [k 17 0] (.block 0
 (.loop (.seq (s [m 80 17,f 81 2 14,l 82 81,n 83 82,o 84 .lss 80 83] (.cond 84 .skip (.exit 0))) (.seq (.block 1 (.seq (s [f 87 5 13,l 88 87,m 89 17,i 90 1 88 89,l 91 90,m 92 16,o 93 .neq 91 92] (.cond 93 (s [k 12 (-1)] .ret) .skip))
 (s [m 96 16,m 97 2,m 98 17,q 99 .add 98 1,f 100 2 14,m 102 17,h 94 2 6,h 95 1 7,l 101 100,i 103 1 101 102,l 104 103,x 105 (.call true 182 [.t 94,.t 95,.t 96,.t 97,.t 99,.t 104]),m 16 105] (s [m 106 16,q 107 .lss 106 0] (.cond 107
 (s [k 12 (-1)] .ret) .skip))))) (.reg [m 85 17,q 86 .add 85 1,m 17 86])))))) (s [m 108 16,m 12 108] .ret))))))))),[.t 12]⟩
theorem i182 : IsFun Tryz.prog 182 g182 := ⟨Tryz.f182, _, [], Tryz.func182, by kernel_rfl, rfl, by kernel_rfl, by kernel_rfl, rfl⟩
def g183 : GFun := ⟨⟨29,[2,4]⟩,(s [a 2 2 0,x 4 (.allocr 6),b 5 false] (.seq (s [k 6 0] (.block 0 (.loop (.seq (s [m 7 6,f 8 1 2,l 9 8,n 10 9,o 11 .lss 7 10] (.cond 11 .skip (.exit 0))) (.seq (.block 1 (s [f 14 1 2,l 15 14,m 16 6,
 i 17 6 15 16,f 18 0 17,l 19 18,m 20 1,o 21 .eql 19 20] (.cond 21 (s [f 22 1 2,l 23 22,m 24 6,i 25 6 23 24,h 26 6 25,c 27 231 [.t 26],x 4 (.stro 6 4 (.t 27)),b 5 true] .ret) .skip))) (.reg [m 12 6,q 13 .add 12 1,m 6 13])))))) (s [x 28
 (.build [(.val (.string (ByteArray.mk #[]))),(.val (.string (ByteArray.mk #[]))),(.val (.slice none 0 0)),(.val (.bool false)),(.val (.slice none 0 0)),(.val (.slice none 0 0))] []),x 4 (.stro 6 4 (.t 28)),b 5 false] .ret))),
 [(.c 4 6 true),.t 5]⟩
theorem i183 : IsFun Tryz.prog 183 g183 := ⟨Tryz.f183, _, [], Tryz.func183, by kernel_rfl, rfl, by kernel_rfl, by kernel_rfl, rfl⟩
def g184 : GFun := ⟨⟨34,[3,4,5,6,8]⟩,(s [a 3 2 0,a 4 1 1,a 5 2 2,x 6 (.allocr 4),b 7 false] (.seq (s [h 10 1 4,f 11 0 5,l 12 11,c 13 185 [.t 10,.t 12],q 14 .lss 13 0] (.cond 14 (s [x 15 (.build [(.val (.string (ByteArray.mk #[]))),(.val
 (.int .i64 0)),(.val (.int .i64 0)),(.val (.bool false))] []),x 6 (.stro 4 6 (.t 15)),b 7 false] .ret) .skip)) (s [f 21 0 5,x 8 (.allocr 2),h 17 2 3,h 18 2 3,h 19 1 4,h 20 1 4,l 22 21,x 23 (.call true 185 [.t 20,.t 22]),x 24
 (.call true 115 [.t 18,.t 19,.t 23]),x 25 (.call true 91 [.t 17,.t 24]),m 16 25,x 26 (.ext (.t 16) 0),x 27 (.ext (.t 16) 1),x 8 (.stro 2 8 (.t 26)),m 9 27] (s [h 28 2 8,f 29 1 5,l 30 29,c 31 92 [.t 28,.t 30],x 32 (.ext (.t 31) 0),x 33
 (.ext (.t 31) 1),x 6 (.stro 4 6 (.t 32)),m 7 33] .ret)))),[(.c 6 4 true),.t 7]⟩
theorem i184 : IsFun Tryz.prog 184 g184 := ⟨Tryz.f184, _, [], Tryz.func184, by kernel_rfl, rfl, by kernel_rfl, by kernel_rfl, rfl⟩
def g185 : GFun := ⟨⟨22,[2]⟩,(s [a 2 1 0,k 4 0] (.seq (s [k 5 0] (.block 0 (.loop (.seq (s [m 6 5,f 7 0 2,l 8 7,n 9 8,o 10 .lss 6 9] (.cond 10 .skip (.exit 0))) (.seq (.block 1 (s [f 13 0 2,l 14 13,m 15 5,i 16 6 14 15,f 17 0 16,l 18 17,
 m 19 1,o 20 .eql 18 19] (.cond 20 (s [m 21 5,m 4 21] .ret) .skip))) (.reg [m 11 5,q 12 .add 11 1,m 5 12])))))) (s [k 4 (-1)] .ret))),[.t 4]⟩
theorem i185 : IsFun Tryz.prog 185 g185 := ⟨Tryz.f185, _, [], Tryz.func185, by kernel_rfl, rfl, by kernel_rfl, by kernel_rfl, rfl⟩
def g186 : GFun := ⟨⟨30,[2,3,4]⟩,(s [a 2 6 0,a 3 2 1,x 4 (.allocr 7),b 5 false] (.seq (s [k 6 0] (.block 0 (.loop (.seq (s [m 7 6,f 8 4 2,l 9 8,n 10 9,o 11 .lss 7 10] (.cond 11 .skip (.exit 0))) (.seq (.block 1 (s [f 14 4 2,m 16 6,l 15 14,
 i 17 9 15 16,e 18 0 2 17,h 19 2 18,h 20 2 3,x 21 (.aeq false [1,2] (.t 19) (.t 20))] (.cond 21 (s [f 22 4 2,l 23 22,m 24 6,i 25 9 23 24,e 26 2 7 25,h 27 7 26,c 28 232 [.t 27],x 4 (.stro 7 4 (.t 28)),b 5 true] .ret) .skip))) (.reg [m 12 6,
 q 13 .add 12 1,m 6 13])))))) (s [x 29 (.build [(.val (.int .i64 0)),(.val (.int .i64 0)),(.val (.int .i64 0)),(.val (.int .i64 0)),(.val (.string (ByteArray.mk #[]))),(.val (.string (ByteArray.mk #[]))),(.val (.slice none 0 0))] []),x 4
 (.stro 7 4 (.t 29)),b 5 false] .ret))),[(.c 4 7 true),.t 5]⟩
theorem i186 : IsFun Tryz.prog 186 g186 := ⟨Tryz.f186, _, [], Tryz.func186, by kernel_rfl, rfl, by kernel_rfl, by kernel_rfl, rfl⟩
def g193 : GFun := ⟨⟨13,[2]⟩,(s [a 2 4 0,k 4 0] (s [m 5 1,f 6 0 2,l 7 6,x 8 (.slen (.t 7)),o 9 .sub 5 8,m 1 9] (.seq (s [m 10 1,q 11 .lss 10 0] (.cond 11 (s [k 4 (-1)] .ret) .skip)) (s [m 12 1,m 4 12] .ret)))),[.t 4]⟩
theorem i193 : IsFun Tryz.prog 193 g193 := ⟨Tryz.f193, _, [], Tryz.func193, by kernel_rfl, rfl, by kernel_rfl, by kernel_rfl, rfl⟩
def g194 : GFun := ⟨⟨18,[2]⟩,(s [a 2 9 0,k 4 0] (s [e 5 0 2 2,h 6 2 5,m 7 1,c 8 243 [.t 6,.t 7],m 1 8] (.seq (s [m 9 1,q 10 .lss 9 0] (.cond 10 (s [k 4 (-1)] .ret) .skip)) (s [e 11 2 7 2,h 12 7 11,m 13 1,c 14 244 [.t 12,.t 13],m 1 14]
 (.seq (s [m 15 1,q 16 .lss 15 0] (.cond 16 (s [k 4 (-1)] .ret) .skip)) (s [m 17 1,m 4 17] .ret)))))),[.t 4]⟩
theorem i194 : IsFun Tryz.prog 194 g194 := ⟨Tryz.f194, _, [], Tryz.func194, by kernel_rfl, rfl, by kernel_rfl, by kernel_rfl, rfl⟩
def g195 : GFun := ⟨⟨32,[2]⟩,(s [a 2 16 0,k 4 0] (s [m 5 1,f 6 0 2,l 7 6,x 8 (.slen (.t 7)),o 9 .sub 5 8,m 1 9] (.seq (s [m 10 1,q 11 .lss 10 0] (.cond 11 (s [k 4 (-1)] .ret) .skip)) (s [m 12 1,f 13 1 2,l 14 13,x 15 (.slen (.t 14)),
 o 16 .sub 12 15,m 1 16] (.seq (s [m 17 1,q 18 .lss 17 0] (.cond 18 (s [k 4 (-1)] .ret) .skip)) (s [e 19 2 7 2,h 20 7 19,m 21 1,c 22 244 [.t 20,.t 21],m 1 22] (.seq (s [m 23 1,q 24 .lss 23 0] (.cond 24 (s [k 4 (-1)] .ret) .skip))
 (s [e 25 9 7 2,h 26 7 25,m 27 1,c 28 244 [.t 26,.t 27],m 1 28] (.seq (s [m 29 1,q 30 .lss 29 0] (.cond 30 (s [k 4 (-1)] .ret) .skip)) (s [m 31 1,m 4 31] .ret)))))))))),[.t 4]⟩
theorem i195 : IsFun Tryz.prog 195 g195 := ⟨Tryz.f195, _, [], Tryz.func195, by kernel_rfl, rfl, by kernel_rfl, by kernel_rfl, rfl⟩
def g196 : GFun := ⟨⟨31,[2]⟩,(s [a 2 7 0,x 4 (.mov (.k (.val (.slice none 0 0))))] (.seq (s [f 6 0 2,l 7 6,q 8 .eql 7 3] (.cond 8 (.reg [m 9 1,f 10 2 2,l 11 10,f 12 5 2,l 13 12,x 14 (.build [(.val (.int .i64 0)),(.val (.string
 (ByteArray.mk #[])))] [(0,(1,(.t 11))),(1,(1,(.t 13)))]),c 15 245 [.t 9,.t 14],m 1 15]) .skip)) (.seq (s [k 5 0] (.block 0 (.loop (.seq (s [m 16 5,f 17 6 2,l 18 17,n 19 18,o 20 .lss 16 19] (.cond 20 .skip (.exit 0))) (.seq (.block 1
 (.reg [f 23 6 2,l 24 23,m 25 5,i 26 7 24 25,h 27 7 26,m 28 1,c 29 196 [.t 27,.t 28],m 1 29])) (.reg [m 21 5,q 22 .add 21 1,m 5 22])))))) (s [m 30 1,m 4 30] .ret)))),[.t 4]⟩
theorem i196 : IsFun Tryz.prog 196 g196 := ⟨Tryz.f196, _, [], Tryz.func196, by kernel_rfl, rfl, by kernel_rfl, by kernel_rfl, rfl⟩
def g197 : GFun := ⟨⟨17,[1,2]⟩,(s [a 1 4 0,x 2 (.allocr 4)] (s [x 3 (.alloc 4 (.agg [(.val (.string (ByteArray.mk #[]))),(.val (.int .i64 0)),(.val (.int .i64 0)),(.val (.bool false))]))] (s [f 4 0 1,l 5 4,f 6 0 3,(.mk none none (.store 1
 (.t 6) (.t 5)))] (s [f 7 1 1,l 8 7,f 9 1 3,(.mk none none (.store 1 (.t 9) (.t 8)))] (s [f 10 2 1,l 11 10,f 12 2 3,(.mk none none (.store 1 (.t 12) (.t 11)))] (s [f 13 3 1,l 14 13,f 15 3 3,(.mk none none (.store 1 (.t 15) (.t 14)))]
 (s [h 16 4 3,x 2 (.stro 4 2 (.t 16))] .ret))))))),[(.c 2 4 true)]⟩
theorem i197 : IsFun Tryz.prog 197 g197 := ⟨Tryz.f197, _, [], Tryz.func197, by kernel_rfl, rfl, by kernel_rfl, by kernel_rfl, rfl⟩
def g198 : GFun := ⟨⟨13,[1,2]⟩,(s [a 1 9 0,x 2 (.allocr 9)] (s [x 3 (.alloc 9 (.agg [(.val (.int .i64 0)),(.val (.string (ByteArray.mk #[]))),(.val (.int .i64 0)),(.val (.int .i64 0)),(.val (.int .i64 0)),(.val (.int .i64 0)),(.val
 (.string (ByteArray.mk #[]))),(.val (.string (ByteArray.mk #[]))),(.val (.slice none 0 0))]))] (s [e 4 0 2 1,h 5 2 4,c 6 246 [.t 5],e 7 0 2 3,(.mk none none (.store 2 (.t 7) (.t 6)))] (s [e 8 2 7 1,h 9 7 8,c 10 247 [.t 9],e 11 2 7 3,
 (.mk none none (.store 7 (.t 11) (.t 10)))] (s [h 12 9 3,x 2 (.stro 9 2 (.t 12))] .ret))))),[(.c 2 9 true)]⟩
theorem i198 : IsFun Tryz.prog 198 g198 := ⟨Tryz.f198, _, [], Tryz.func198, by kernel_rfl, rfl, by kernel_rfl, by kernel_rfl, rfl⟩
def g199 : GFun := ⟨⟨19,[1,2]⟩,(s [a 1 16 0,x 2 (.allocr 16)] (s [x 3 (.alloc 16 (.agg [(.val (.string (ByteArray.mk #[]))),(.val (.string (ByteArray.mk #[]))),(.val (.int .i64 0)),(.val (.int .i64 0)),(.val (.int .i64 0)),(.val
 (.int .i64 0)),(.val (.string (ByteArray.mk #[]))),(.val (.string (ByteArray.mk #[]))),(.val (.slice none 0 0)),(.val (.int .i64 0)),(.val (.int .i64 0)),(.val (.int .i64 0)),(.val (.int .i64 0)),(.val (.string (ByteArray.mk #[]))),(.val
 (.string (ByteArray.mk #[]))),(.val (.slice none 0 0))]))] (s [f 4 0 1,l 5 4,f 6 0 3,(.mk none none (.store 1 (.t 6) (.t 5)))] (s [f 7 1 1,l 8 7,f 9 1 3,(.mk none none (.store 1 (.t 9) (.t 8)))] (s [e 10 2 7 1,h 11 7 10,c 12 247 [.t 11],
 e 13 2 7 3,(.mk none none (.store 7 (.t 13) (.t 12)))] (s [e 14 9 7 1,h 15 7 14,c 16 247 [.t 15],e 17 9 7 3,(.mk none none (.store 7 (.t 17) (.t 16)))] (s [h 18 16 3,x 2 (.stro 16 2 (.t 18))] .ret))))))),[(.c 2 16 true)]⟩
theorem i199 : IsFun Tryz.prog 199 g199 := ⟨Tryz.f199, _, [], Tryz.func199, by kernel_rfl, rfl, by kernel_rfl, by kernel_rfl, rfl⟩
def g200 : GFun := ⟨⟨43,[3,4,8]⟩,(s [a 3 2 0,a 4 1 1,b 6 false] (.seq (s [f 9 0 4,l 10 9,n 11 10,c 12 73 [.t 11,(.k (.val (.int .i64 1))),(.k (.val (.int .i64 16)))],w 13 12] (.cond 13 (s [b 6 false] .ret) .skip)) (.seq (s [f 14 0 4,
 l 15 14,n 16 15,k 17 0] (.block 0 (.loop (s [o 18 .lss 17 16] (.seq (.cond 18 .skip (.exit 0)) (.seq (.block 1 (s [m 19 17,i 20 6 15 17,h 21 6 20,x 8 (.allocr 6),m 7 19,x 8 (.stro 6 8 (.t 21))] (s [f 22 0 8,l 23 22,c 24 73 [.t 23,(.k
 (.val (.int .i64 1))),(.k (.val (.int .i64 999)))],w 25 24,m 26 25,z 27 26 (.faddr 0 1 false (.t 4)),z 28 26 (.load 1 false (.t 27)),z 29 26 (.mov (.t 7)),z 30 26 (.slc 6 (.t 28) none (some (.t 29))),z 31 26 (.mkfn 249 [.t 8]),z 32 26
 (.call false 248 [.t 30,.t 31]),x 33 (.pick (.t 26) (.k (.val (.bool true))) (.t 32))] (.cond 33 (s [b 6 false] .ret) .skip)))) (.reg [q 34 .add 17 1,m 17 34]))))))) (s [m 37 2,f 39 0 4,h 35 2 3,h 36 1 4,x 38 (.call true 250 [.t 35,.t 36,
 (.k (.val (.int .i64 0))),(.k (.val (.int .i64 (-1)))),(.k (.val (.int .i64 0))),.t 37]),l 40 39,n 41 40,o 42 .eql 38 41,m 6 42] .ret)))),[.t 6]⟩
theorem i200 : IsFun Tryz.prog 200 g200 := ⟨Tryz.f200, _, [], Tryz.func200, by kernel_rfl, rfl, by kernel_rfl, by kernel_rfl, rfl⟩
def g201 : GFun := ⟨⟨11,[2]⟩,(s [a 2 1 0,b 4 false] (s [m 5 1,f 6 0 2,l 7 6,n 8 7,q 9 .sub 8 1,c 10 73 [.t 5,(.k (.val (.int .i64 0))),.t 9],m 4 10] .ret)),[.t 4]⟩
theorem i201 : IsFun Tryz.prog 201 g201 := ⟨Tryz.f201, _, [], Tryz.func201, by kernel_rfl, rfl, by kernel_rfl, by kernel_rfl, rfl⟩
def g202 : GFun := ⟨⟨22,[2,4,7]⟩,(s [a 2 2 0,x 4 (.allocr 6),b 5 false] (.seq (s [f 8 1 2,l 9 8,n 10 9,k 11 0] (.block 0 (.loop (s [o 12 .lss 11 10] (.seq (.cond 12 .skip (.exit 0)) (.seq (.block 1 (s [i 13 6 9 11,h 14 6 13,x 7 (.allocr 6),
 x 7 (.stro 6 7 (.t 14))] (s [f 15 0 7,l 16 15,m 17 1,o 18 .eql 16 17] (.cond 18 (s [h 19 6 7,x 4 (.stro 6 4 (.t 19)),b 5 true] .ret) .skip)))) (.reg [q 20 .add 11 1,m 11 20]))))))) (s [x 21 (.build [(.val (.string (ByteArray.mk #[]))),
 (.val (.string (ByteArray.mk #[]))),(.val (.slice none 0 0)),(.val (.bool false)),(.val (.slice none 0 0)),(.val (.slice none 0 0))] []),x 4 (.stro 6 4 (.t 21)),b 5 false] .ret))),[(.c 4 6 true),.t 5]⟩
theorem i202 : IsFun Tryz.prog 202 g202 := ⟨Tryz.f202, _, [], Tryz.func202, by kernel_rfl, rfl, by kernel_rfl, by kernel_rfl, rfl⟩
def g203 : GFun := ⟨⟨33,[3,4,5,6,9]⟩,(s [a 3 2 0,a 4 1 1,a 5 2 2,x 6 (.allocr 4),b 7 false] (s [h 11 1 4,f 12 0 5,l 13 12,c 14 204 [.t 11,.t 13],m 8 14] (.seq (s [m 15 8,q 16 .lss 15 0] (.cond 16 (s [x 17 (.build [(.val (.string
 (ByteArray.mk #[]))),(.val (.int .i64 0)),(.val (.int .i64 0)),(.val (.bool false))] []),x 6 (.stro 4 6 (.t 17)),b 7 false] .ret) .skip)) (s [m 22 8,x 9 (.allocr 2),h 19 2 3,h 20 2 3,h 21 1 4,x 23 (.call true 137 [.t 20,.t 21,.t 22]),
 x 24 (.call true 103 [.t 19,.t 23]),m 18 24,x 25 (.ext (.t 18) 0),x 26 (.ext (.t 18) 1),x 9 (.stro 2 9 (.t 25)),m 10 26] (s [h 27 2 9,f 28 1 5,l 29 28,c 30 104 [.t 27,.t 29],x 31 (.ext (.t 30) 0),x 32 (.ext (.t 30) 1),x 6 (.stro 4 6
 (.t 31)),m 7 32] .ret))))),[(.c 6 4 true),.t 7]⟩
theorem i203 : IsFun Tryz.prog 203 g203 := ⟨Tryz.f203, _, [], Tryz.func203, by kernel_rfl, rfl, by kernel_rfl, by kernel_rfl, rfl⟩
def g204 : GFun := ⟨⟨9,[2,3]⟩,(s [a 2 1 0,a 3 1 1,k 4 0] (s [f 5 0 2,l 6 5,x 7 (.mkfn 252 [.t 3]),c 8 251 [.t 6,.t 7],m 4 8] .ret)),[.t 4]⟩
theorem i204 : IsFun Tryz.prog 204 g204 := ⟨Tryz.f204, _, [], Tryz.func204, by kernel_rfl, rfl, by kernel_rfl, by kernel_rfl, rfl⟩
def g205 : GFun := ⟨⟨24,[2,3,4,7]⟩,(s [a 2 6 0,a 3 2 1,x 4 (.allocr 7),b 5 false] (.seq (s [f 8 4 2,l 9 8,n 10 9,k 11 0] (.block 0 (.loop (s [o 12 .lss 11 10] (.seq (.cond 12 .skip (.exit 0)) (.seq (.block 1 (s [i 13 9 9 11,h 14 9 13,x 7
 (.allocr 9),x 7 (.stro 9 7 (.t 14))] (s [e 15 0 2 7,h 16 2 15,h 17 2 3,x 18 (.aeq false [1,2] (.t 16) (.t 17))] (.cond 18 (s [e 19 2 7 7,h 20 7 19,c 21 253 [.t 20],x 4 (.stro 7 4 (.t 21)),b 5 true] .ret) .skip)))) (.reg [q 22 .add 11 1,
 m 11 22]))))))) (s [x 23 (.build [(.val (.int .i64 0)),(.val (.int .i64 0)),(.val (.int .i64 0)),(.val (.int .i64 0)),(.val (.string (ByteArray.mk #[]))),(.val (.string (ByteArray.mk #[]))),(.val (.slice none 0 0))] []),x 4 (.stro 7 4
 (.t 23)),b 5 false] .ret))),[(.c 4 7 true),.t 5]⟩
theorem i205 : IsFun Tryz.prog 205 g205 := ⟨Tryz.f205, _, [], Tryz.func205, by kernel_rfl, rfl, by kernel_rfl, by kernel_rfl, rfl⟩
def g206 : GFun := ⟨⟨15,[2]⟩,(s [a 2 7 0,b 3 false] (.seq (s [f 4 0 2,l 5 4,q 6 .eql 5 3] (.cond 6 (.reg [l 7 1,f 8 2 2,l 9 8,f 10 5 2,l 11 10,x 12 (.build [(.val (.int .i64 0)),(.val (.string (ByteArray.mk #[])))] [(0,(1,(.t 9))),(1,(1,
 (.t 11)))]),x 13 (.bslice 2 [] 1 true [(0,(.t 12))]),x 14 (.append 2 24 (.t 7) (.t 13)),(.mk none none (.store 1 (.t 1) (.t 14)))]) .skip)) (s [b 3 true] .ret))),[.t 3]⟩
theorem i206 : IsFun Tryz.prog 206 g206 := ⟨Tryz.f206, _, [], Tryz.func206, by kernel_rfl, rfl, by kernel_rfl, by kernel_rfl, rfl⟩
def g209 : GFun := ⟨⟨61,[]⟩,(s [x 2 (.mov (.k (.val (.slice none 0 0))))] (.seq (s [m 6 0,n 7 6,q 8 .lss 7 2] (.cond 8 (s [m 9 0,m 2 9] .ret) .skip)) (.seq (s [k 3 1] (.block 0 (.loop (.seq (s [m 10 3,m 11 0,n 12 11,o 13 .lss 10 12]
 (.cond 13 .skip (.exit 0))) (.seq (.block 1 (s [m 16 0,m 17 3,i 18 2 16 17,m 20 0,m 21 3,q 22 .sub 21 1,i 23 2 20 22,h 19 2 18,h 24 2 23,x 25 (.aeq false [1,2] (.t 19) (.t 24))] (.cond 25 (s [m 26 0,m 27 3,x 28 (.slc 2 (.t 26) (some
 (.t 27)) none),m 4 28] (.seq (s [k 5 1] (.block 2 (.loop (.seq (s [m 29 5,m 30 4,n 31 30,o 32 .lss 29 31] (.cond 32 .skip (.exit 2))) (.seq (.block 3 (s [m 35 4,m 36 5,i 37 2 35 36,m 39 4,m 40 5,q 41 .sub 40 1,i 42 2 39 41,h 38 2 37,
 h 43 2 42,x 44 (.aeq true [1,2] (.t 38) (.t 43))] (.cond 44 (s [m 45 0,m 46 3,m 47 4,m 48 5,i 49 2 47 48,h 50 2 49,i 51 2 45 46,(.mk none none (.store 2 (.t 51) (.t 50)))] (.reg [m 52 3,q 53 .add 52 1,m 3 53])) .skip))) (.reg [m 33 5,
 q 34 .add 33 1,m 5 34])))))) (s [m 54 0,m 55 3,x 56 (.slc 2 (.t 54) (some (.t 55)) none),(.mk none none (.clr 2 (.t 56)))] (s [m 57 0,m 58 3,x 59 (.slc 2 (.t 57) none (some (.t 58))),m 2 59] .ret)))) .skip))) (.reg [m 14 3,q 15 .add 14 1,
 m 3 15])))))) (s [m 60 0,m 2 60] .ret)))),[.t 2]⟩
theorem i209 : IsFun Tryz.prog 209 g209 := ⟨Tryz.f209, _, [], Tryz.func209, by kernel_rfl, rfl, by kernel_rfl, by kernel_rfl, rfl⟩
def g210 : GFun := ⟨⟨25,[2,3]⟩,(s [a 2 4 0,a 3 4 1,b 4 false] (.seq (s [f 5 0 2,l 6 5,f 7 0 3,l 8 7,o 9 .neq 6 8] (.cond 9 (s [b 4 false] .ret) .skip)) (.seq (s [f 10 1 2,l 11 10,f 12 1 3,l 13 12,o 14 .neq 11 13] (.cond 14
 (s [b 4 false] .ret) .skip)) (.seq (s [f 15 2 2,l 16 15,f 17 2 3,l 18 17,o 19 .neq 16 18] (.cond 19 (s [b 4 false] .ret) .skip)) (.seq (s [f 20 3 2,l 21 20,f 22 3 3,l 23 22,x 24 (.beq true (.t 21) (.t 23))] (.cond 24
 (s [b 4 false] .ret) .skip)) (s [b 4 true] .ret)))))),[.t 4]⟩
theorem i210 : IsFun Tryz.prog 210 g210 := ⟨Tryz.f210, _, [], Tryz.func210, by kernel_rfl, rfl, by kernel_rfl, by kernel_rfl, rfl⟩
def g211 : GFun := ⟨⟨17,[2,3]⟩,(s [a 2 9 0,a 3 9 1,b 4 false] (.seq (s [e 5 0 2 2,h 6 2 5,e 7 0 2 3,h 8 2 7,c 9 259 [.t 6,.t 8],w 10 9] (.cond 10 (s [b 4 false] .ret) .skip)) (.seq (s [e 11 2 7 2,h 12 7 11,e 13 2 7 3,h 14 7 13,
 c 15 260 [.t 12,.t 14],w 16 15] (.cond 16 (s [b 4 false] .ret) .skip)) (s [b 4 true] .ret)))),[.t 4]⟩
theorem i211 : IsFun Tryz.prog 211 g211 := ⟨Tryz.f211, _, [], Tryz.func211, by kernel_rfl, rfl, by kernel_rfl, by kernel_rfl, rfl⟩
def g212 : GFun := ⟨⟨27,[2,3]⟩,(s [a 2 16 0,a 3 16 1,b 4 false] (.seq (s [f 5 0 2,l 6 5,f 7 0 3,l 8 7,o 9 .neq 6 8] (.cond 9 (s [b 4 false] .ret) .skip)) (.seq (s [f 10 1 2,l 11 10,f 12 1 3,l 13 12,o 14 .neq 11 13] (.cond 14
 (s [b 4 false] .ret) .skip)) (.seq (s [e 15 2 7 2,h 16 7 15,e 17 2 7 3,h 18 7 17,c 19 260 [.t 16,.t 18],w 20 19] (.cond 20 (s [b 4 false] .ret) .skip)) (.seq (s [e 21 9 7 2,h 22 7 21,e 23 9 7 3,h 24 7 23,c 25 260 [.t 22,.t 24],w 26 25]
 (.cond 26 (s [b 4 false] .ret) .skip)) (s [b 4 true] .ret)))))),[.t 4]⟩
theorem i212 : IsFun Tryz.prog 212 g212 := ⟨Tryz.f212, _, [], Tryz.func212, by kernel_rfl, rfl, by kernel_rfl, by kernel_rfl, rfl⟩
def g229 : GFun := ⟨⟨8,[2]⟩,(s [a 2 7 0,b 3 false] (s [h 4 7 2,l 5 1,c 6 178 [.t 4,.t 5],w 7 6,m 3 7] .ret)),[.t 3]⟩
theorem i229 : IsFun Tryz.prog 229 g229 := ⟨Tryz.f229, _, [], Tryz.func229, by kernel_rfl, rfl, by kernel_rfl, by kernel_rfl, rfl⟩
def g230 : GFun := ⟨⟨14,[]⟩,(s [b 4 false] (s [m 5 1,c 6 85 [.t 5,(.k (.val (.int .i64 1))),(.k (.val (.int .i64 4)))],m 7 6,y 8 7 (.mov (.t 0)),y 9 7 (.mov (.t 1)),y 10 7 (.call false 270 [.t 8,.t 9]),y 11 7 (.mov (.t 0)),y 12 7
 (.bin .eql (.t 10) (.t 11)),x 13 (.pick (.t 7) (.t 12) (.k (.val (.bool false)))),m 4 13] .ret)),[.t 4]⟩
theorem i230 : IsFun Tryz.prog 230 g230 := ⟨Tryz.f230, _, [], Tryz.func230, by kernel_rfl, rfl, by kernel_rfl, by kernel_rfl, rfl⟩
def g231 : GFun := ⟨⟨73,[1,2,6,1000003]⟩,(s [a 1 6 0,x 2 (.allocr 6)] (s [f 7 0 1,x 8 (.loadr 1 false (.t 7)),f 9 1 1,x 10 (.loadr 1 false (.t 9)),f 11 3 1,x 12 (.loadr 1 false (.t 11)),f 14 2 1,x 15 (.loadr 1 false (.t 14)),x 3
 (.allocr 6),x 13 (.bslice 1 [] 0 false []),x 16 (.append 1 16 (.t 13) (.t 15)),x 17 (.build [(.val (.string (ByteArray.mk #[]))),(.val (.string (ByteArray.mk #[]))),(.val (.slice none 0 0)),(.val (.bool false)),(.val (.slice none 0 0)),
 (.val (.slice none 0 0))] [(0,(1,(.t 8))),(1,(1,(.t 10))),(3,(1,(.t 12))),(2,(1,(.t 16)))]),x 3 (.strb 6 3 (.t 17))] (.seq (s [k 4 0] (.block 0 (.loop (.seq (s [m 18 4,f 19 4 1,l 20 19,n 21 20,o 22 .lss 18 21] (.cond 22 .skip (.exit 0)))
 (.seq (.block 1 (.reg [f 25 4 3,f 27 4 1,m 29 4,f 33 4 1,m 35 4,l 26 25,l 28 27,i 30 9 28 29,e 31 0 2 30,h 32 2 31,l 34 33,i 36 9 34 35,e 37 2 7 36,h 38 7 37,x 39 (.call true 232 [.t 38]),x 40 (.build [(.val (.int .i64 0)),(.val (.string
 (ByteArray.mk #[]))),(.val (.int .i64 0)),(.val (.int .i64 0)),(.val (.int .i64 0)),(.val (.int .i64 0)),(.val (.string (ByteArray.mk #[]))),(.val (.string (ByteArray.mk #[]))),(.val (.slice none 0 0))] [(0,(2,(.t 32))),(2,(7,(.t 39)))]),
 x 41 (.bslice 9 [] 1 true [(0,(.t 40))]),x 42 (.append 9 112 (.t 26) (.t 41)),f 43 4 3,(.mk none none (.store 1 (.t 43) (.t 42)))])) (.reg [m 23 4,q 24 .add 23 1,m 4 24])))))) (.seq (s [k 5 0] (.block 2 (.loop (.seq (s [m 44 5,f 45 5 1,
 l 46 45,n 47 46,o 48 .lss 44 47] (.cond 48 .skip (.exit 2))) (.seq (.block 3 (s [f 51 5 1,l 52 51,m 53 5,i 54 16 52 53,h 55 16 54,x 6 (.allocr 16),x 6 (.stro 16 6 (.t 55))] (.reg [f 56 5 3,f 58 0 6,f 60 1 6,e 62 2 7 6,e 65 9 7 6,l 57 56,
 l 59 58,l 61 60,h 63 7 62,x 64 (.call true 232 [.t 63]),h 66 7 65,x 67 (.call true 232 [.t 66]),x 68 (.build [(.val (.string (ByteArray.mk #[]))),(.val (.string (ByteArray.mk #[]))),(.val (.int .i64 0)),(.val (.int .i64 0)),(.val
 (.int .i64 0)),(.val (.int .i64 0)),(.val (.string (ByteArray.mk #[]))),(.val (.string (ByteArray.mk #[]))),(.val (.slice none 0 0)),(.val (.int .i64 0)),(.val (.int .i64 0)),(.val (.int .i64 0)),(.val (.int .i64 0)),(.val (.string
 (ByteArray.mk #[]))),(.val (.string (ByteArray.mk #[]))),(.val (.slice none 0 0))] [(0,(1,(.t 59))),(1,(1,(.t 61))),(2,(7,(.t 64))),(9,(7,(.t 67)))]),x 69 (.bslice 16 [] 1 true [(0,(.t 68))]),x 70 (.append 16 208 (.t 57) (.t 69)),f 71 5 3,
 (.mk none none (.store 1 (.t 71) (.t 70)))]))) (.reg [m 49 5,q 50 .add 49 1,m 5 50])))))) (s [h 72 6 3,x 2 (.stro 6 2 (.t 72))] .ret))))),[(.c 2 6 true)]⟩
theorem i231 : IsFun Tryz.prog 231 g231 := ⟨Tryz.f231, _, [], Tryz.func231, by kernel_rfl, rfl, by kernel_rfl, by kernel_rfl, rfl⟩
def g232 : GFun := ⟨⟨25,[2]⟩,(s [x 1 (.box 7 (.t 0)),x 2 (.allocr 7)] (s [x 5 (.bslice 7 [] 0 true []),m 3 5] (.seq (s [k 4 0] (.block 0 (.loop (.seq (s [m 6 4,f 7 6 1,l 8 7,n 9 8,o 10 .lss 6 9] (.cond 10 .skip (.exit 0))) (.seq (.block 1
 (.reg [m 13 3,f 14 6 1,l 15 14,m 16 4,i 17 7 15 16,h 18 7 17,c 19 232 [.t 18],x 20 (.bslice 7 [] 1 true [(0,(.t 19))]),x 21 (.append 7 88 (.t 13) (.t 20)),m 3 21])) (.reg [m 11 4,q 12 .add 11 1,m 4 12])))))) (s [m 22 3,f 23 6 1,
 (.mk none none (.store 1 (.t 23) (.t 22)))] (s [h 24 7 1,x 2 (.stro 7 2 (.t 24))] .ret))))),[(.c 2 7 true)]⟩
theorem i232 : IsFun Tryz.prog 232 g232 := ⟨Tryz.f232, _, [], Tryz.func232, by kernel_rfl, rfl, by kernel_rfl, by kernel_rfl, rfl⟩
def g243 : GFun := ⟨⟨13,[2]⟩,(s [a 2 2 0,k 4 0] (s [m 5 1,f 6 1 2,l 7 6,x 8 (.slen (.t 7)),o 9 .sub 5 8,m 1 9] (.seq (s [m 10 1,q 11 .lss 10 0] (.cond 11 (s [k 4 (-1)] .ret) .skip)) (s [m 12 1,m 4 12] .ret)))),[.t 4]⟩
theorem i243 : IsFun Tryz.prog 243 g243 := ⟨Tryz.f243, _, [], Tryz.func243, by kernel_rfl, rfl, by kernel_rfl, by kernel_rfl, rfl⟩
def g244 : GFun := ⟨⟨26,[2]⟩,(s [a 2 7 0,k 4 0] (s [m 5 1,f 6 4 2,l 7 6,x 8 (.slen (.t 7)),o 9 .sub 5 8,m 1 9] (.seq (s [m 10 1,q 11 .lss 10 0] (.cond 11 (s [k 4 (-1)] .ret) .skip)) (s [m 12 1,f 13 5 2,l 14 13,x 15 (.slen (.t 14)),
 o 16 .sub 12 15,m 1 16] (.seq (s [m 17 1,q 18 .lss 17 0] (.cond 18 (s [k 4 (-1)] .ret) .skip)) (s [f 19 6 2,l 20 19,m 21 1,c 22 279 [.t 20,.t 21],m 1 22] (.seq (s [m 23 1,q 24 .lss 23 0] (.cond 24 (s [k 4 (-1)] .ret) .skip)) (s [m 25 1,
 m 4 25] .ret)))))))),[.t 4]⟩
theorem i244 : IsFun Tryz.prog 244 g244 := ⟨Tryz.f244, _, [], Tryz.func244, by kernel_rfl, rfl, by kernel_rfl, by kernel_rfl, rfl⟩
def g245 : GFun := ⟨⟨48,[3]⟩,(s [a 3 2 1,x 4 (.mov (.k (.val (.slice none 0 0))))] (s [k 5 0] (.seq (.block 0 (.loop (.seq (s [m 7 5,m 8 0,n 9 8,o 10 .lss 7 9,m 11 10,y 12 11 (.mov (.t 0)),y 13 11 (.mov (.t 5)),y 14 11 (.iaddr 2 (.t 12)
 (.t 13)),y 15 11 (.load 2 true (.t 14)),y 16 11 (.load 2 true (.t 3)),y 17 11 (.call true 280 [.t 15,.t 16]),x 18 (.pick (.t 11) (.t 17) (.k (.val (.bool false))))] (.cond 18 .skip (.exit 0))) (.block 1 (.reg [m 19 5,q 20 .add 19 1,
 m 5 20]))))) (.seq (s [m 21 5,m 22 0,n 23 22,o 24 .lss 21 23,m 25 24,y 26 25 (.mov (.t 0)),y 27 25 (.mov (.t 5)),y 28 25 (.iaddr 2 (.t 26) (.t 27)),y 29 25 (.load 2 true (.t 28)),y 30 25 (.load 2 true (.t 3)),y 31 25 (.aeq false [1,2]
 (.t 29) (.t 30)),x 32 (.pick (.t 25) (.t 31) (.k (.val (.bool false))))] (.cond 32 (s [m 33 0,m 4 33] .ret) .skip)) (s [x 34 (.bslice 2 [] 0 true []),m 35 0,m 36 5,x 37 (.slc 2 (.t 35) none (some (.t 36))),x 38 (.append 2 24 (.t 34)
 (.t 37)),m 6 38] (s [m 39 6,h 40 2 3,x 41 (.bslice 2 [] 1 true [(0,(.t 40))]),x 42 (.append 2 24 (.t 39) (.t 41)),m 6 42] (s [m 43 6,m 44 0,m 45 5,x 46 (.slc 2 (.t 44) (some (.t 45)) none),x 47 (.append 2 24 (.t 43) (.t 46)),
 m 4 47] .ret))))))),[.t 4]⟩
theorem i245 : IsFun Tryz.prog 245 g245 := ⟨Tryz.f245, _, [], Tryz.func245, by kernel_rfl, rfl, by kernel_rfl, by kernel_rfl, rfl⟩
def g246 : GFun := ⟨⟨11,[1,2]⟩,(s [a 1 2 0,x 2 (.allocr 2)] (s [x 3 (.alloc 2 (.agg [(.val (.int .i64 0)),(.val (.string (ByteArray.mk #[])))]))] (s [f 4 0 1,l 5 4,f 6 0 3,(.mk none none (.store 1 (.t 6) (.t 5)))] (s [f 7 1 1,l 8 7,f 9 1 3,
 (.mk none none (.store 1 (.t 9) (.t 8)))] (s [h 10 2 3,x 2 (.stro 2 2 (.t 10))] .ret))))),[(.c 2 2 true)]⟩
theorem i246 : IsFun Tryz.prog 246 g246 := ⟨Tryz.f246, _, [], Tryz.func246, by kernel_rfl, rfl, by kernel_rfl, by kernel_rfl, rfl⟩
def g247 : GFun := ⟨⟨27,[1,2]⟩,(s [a 1 7 0,x 2 (.allocr 7)] (s [x 3 (.alloc 7 (.agg [(.val (.int .i64 0)),(.val (.int .i64 0)),(.val (.int .i64 0)),(.val (.int .i64 0)),(.val (.string (ByteArray.mk #[]))),(.val (.string
 (ByteArray.mk #[]))),(.val (.slice none 0 0))]))] (s [f 4 0 1,l 5 4,f 6 0 3,(.mk none none (.store 1 (.t 6) (.t 5)))] (s [f 7 1 1,l 8 7,f 9 1 3,(.mk none none (.store 1 (.t 9) (.t 8)))] (s [f 10 2 1,l 11 10,f 12 2 3,(.mk none none
 (.store 1 (.t 12) (.t 11)))] (s [f 13 3 1,l 14 13,f 15 3 3,(.mk none none (.store 1 (.t 15) (.t 14)))] (s [f 16 4 1,l 17 16,f 18 4 3,(.mk none none (.store 1 (.t 18) (.t 17)))] (s [f 19 5 1,l 20 19,f 21 5 3,(.mk none none (.store 1
 (.t 21) (.t 20)))] (s [f 22 6 1,l 23 22,c 24 281 [.t 23],f 25 6 3,(.mk none none (.store 1 (.t 25) (.t 24)))] (s [h 26 7 3,x 2 (.stro 7 2 (.t 26))] .ret)))))))))),[(.c 2 7 true)]⟩
theorem i247 : IsFun Tryz.prog 247 g247 := ⟨Tryz.f247, _, [], Tryz.func247, by kernel_rfl, rfl, by kernel_rfl, by kernel_rfl, rfl⟩
def g248 : GFun := ⟨⟨9,[]⟩,(s [b 4 false] (s [m 5 0,m 6 1,c 7 251 [.t 5,.t 6],q 8 .geq 7 0,m 4 8] .ret)),[.t 4]⟩
theorem i248 : IsFun Tryz.prog 248 g248 := ⟨Tryz.f248, _, [], Tryz.func248, by kernel_rfl, rfl, by kernel_rfl, by kernel_rfl, rfl⟩
def g249 : GFun := ⟨⟨9,[2]⟩,(s [a 2 6 0,b 3 false] (s [f 4 0 2,l 5 4,f 6 0 1,l 7 6,o 8 .eql 5 7,m 3 8] .ret)),[.t 3]⟩
theorem i249 : IsFun Tryz.prog 249 g249 := ⟨Tryz.f249, _, [], Tryz.func249, by kernel_rfl, rfl, by kernel_rfl, by kernel_rfl, rfl⟩
def g250 : GFun := ⟨⟨110,[6,7,13,14]⟩,(s [a 6 2 0,a 7 1 1,k 12 0] (.seq (s [m 19 2,f 20 0 7,l 21 20,n 22 21,o 23 .geq 19 22] (.cond 23 (s [k 12 (-1)] .ret) .skip)) (s [f 24 0 7,l 25 24,m 26 2,i 27 6 25 26,h 28 6 27,x 13 (.allocr 6),x 13
 (.stro 6 13 (.t 28))] (s [h 30 2 6,f 31 4 13,l 32 31,c 33 202 [.t 30,.t 32],m 29 33,x 34 (.ext (.t 29) 0),x 35 (.ext (.t 29) 1),x 14 (.allocr 6),x 14 (.stro 6 14 (.t 34)),m 15 35] (.seq (s [m 36 15,w 37 36,m 38 37,z 39 38
 (.faddr 1 1 false (.t 14)),z 40 38 (.load 1 false (.t 39)),z 41 38 (.mov (.t 5)),z 42 38 (.bin .neq (.t 40) (.t 41)),x 43 (.pick (.t 38) (.k (.val (.bool true))) (.t 42)),m 44 43,z 45 44 (.faddr 1 1 false (.t 13)),z 46 44 (.load 1 false
 (.t 45)),z 47 44 (.mov (.t 3)),z 48 44 (.bin .neq (.t 46) (.t 47)),x 49 (.pick (.t 44) (.k (.val (.bool true))) (.t 48)),m 50 49,z 51 50 (.faddr 2 1 false (.t 13)),z 52 50 (.load 1 false (.t 51)),z 53 50 (.mov (.t 4)),z 54 50 (.bin .neq
 (.t 52) (.t 53)),x 55 (.pick (.t 50) (.k (.val (.bool true))) (.t 54)),m 56 55,z 57 56 (.faddr 5 1 false (.t 13)),z 58 56 (.load 1 false (.t 57)),z 59 56 (.len (.t 58)),z 60 56 (.faddr 2 1 false (.t 14)),z 61 56 (.load 1 false (.t 60)),
 z 62 56 (.len (.t 61)),z 63 56 (.bin .neq (.t 59) (.t 62)),x 64 (.pick (.t 56) (.k (.val (.bool true))) (.t 63)),m 65 64,z 66 65 (.faddr 3 1 false (.t 13)),z 67 65 (.load 1 false (.t 66)),z 68 65 (.call false 73 [.t 67,(.k (.val
 (.int .i64 (-1000000)))),(.k (.val (.int .i64 1000000)))]),z 69 65 (.not (.t 68)),x 70 (.pick (.t 65) (.k (.val (.bool true))) (.t 69)),m 71 70,z 72 71 (.faddr 3 1 false (.t 14)),z 73 71 (.load 1 false (.t 72)),z 74 71 (.not (.t 73)),
 z 75 71 (.mov (.t 74)),y 76 75 (.faddr 3 1 false (.t 13)),y 77 75 (.load 1 false (.t 76)),y 78 75 (.bin .neq (.t 77) (.k (.val (.int .i64 0)))),z 79 71 (.pick (.t 75) (.t 78) (.k (.val (.bool false)))),x 80 (.pick (.t 71) (.k (.val
 (.bool true))) (.t 79))] (.cond 80 (s [k 12 (-1)] .ret) .skip)) (s [m 81 2,q 82 .add 81 1,m 16 82] (.seq (s [f 83 5 13,l 84 83,n 85 84,k 86 0] (.block 0 (.loop (s [o 87 .lss 86 85] (.seq (.cond 87 .skip (.exit 0)) (.seq (.block 1
 (s [m 88 86,i 89 1 84 86,l 90 89,m 17 88,m 18 90] (.seq (s [m 91 18,m 92 16,o 93 .neq 91 92] (.cond 93 (s [k 12 (-1)] .ret) .skip)) (s [m 96 16,m 97 2,m 98 17,q 99 .add 98 1,f 100 2 14,m 102 17,h 94 2 6,h 95 1 7,l 101 100,i 103 1 101 102,
 l 104 103,x 105 (.call true 250 [.t 94,.t 95,.t 96,.t 97,.t 99,.t 104]),m 16 105] (s [m 106 16,q 107 .lss 106 0] (.cond 107 (s [k 12 (-1)] .ret) .skip)))))) (.reg [q 108 .add 86 1,m 86 108]))))))) (s [m 109 16,m 12 109] .ret)))))))),
 [.t 12]⟩
theorem i250 : IsFun Tryz.prog 250 g250 := ⟨Tryz.f250, _, [], Tryz.func250, by kernel_rfl, rfl, by kernel_rfl, by kernel_rfl, rfl⟩
def g251 : GFun := ⟨⟨19,[]⟩,(s [k 4 0] (.seq (s [m 6 0,n 7 6,k 8 0] (.block 0 (.loop (s [o 9 .lss 8 7] (.seq (.cond 9 .skip (.exit 0)) (.seq (.block 1 (s [m 10 8,m 5 10] (s [m 11 1,m 12 0,m 13 5,i 14 6 12 13,h 15 6 14,x 16 (.callv false
 (.t 11) [.t 15])] (.cond 16 (s [m 17 5,m 4 17] .ret) .skip)))) (.reg [q 18 .add 8 1,m 8 18]))))))) (s [k 4 (-1)] .ret))),[.t 4]⟩
theorem i251 : IsFun Tryz.prog 251 g251 := ⟨Tryz.f251, _, [], Tryz.func251, by kernel_rfl, rfl, by kernel_rfl, by kernel_rfl, rfl⟩
def g252 : GFun := ⟨⟨8,[2]⟩,(s [a 2 6 0,b 3 false] (s [f 4 0 2,l 5 4,l 6 1,o 7 .eql 5 6,m 3 7] .ret)),[.t 3]⟩
theorem i252 : IsFun Tryz.prog 252 g252 := ⟨Tryz.f252, _, [], Tryz.func252, by kernel_rfl, rfl, by kernel_rfl, by kernel_rfl, rfl⟩
def g253 : GFun := ⟨⟨22,[2,5]⟩,(s [x 1 (.box 7 (.t 0)),x 2 (.allocr 7)] (s [x 3 (.mov (.k (.val (.slice none 0 0))))] (.seq (s [f 6 6 1,l 7 6,n 8 7,k 9 0] (.block 0 (.loop (s [o 10 .lss 9 8] (.seq (.cond 10 .skip (.exit 0)) (.seq
 (.block 1 (s [i 11 7 7 9,h 12 7 11,x 5 (.allocr 7),x 5 (.stro 7 5 (.t 12))] (.reg [m 13 3,h 14 7 5,c 15 253 [.t 14],x 16 (.bslice 7 [] 1 true [(0,(.t 15))]),x 17 (.append 7 88 (.t 13) (.t 16)),m 3 17]))) (.reg [q 18 .add 9 1,
 m 9 18]))))))) (s [m 19 3,f 20 6 1,(.mk none none (.store 1 (.t 20) (.t 19)))] (s [h 21 7 1,x 2 (.stro 7 2 (.t 21))] .ret))))),[(.c 2 7 true)]⟩
theorem i253 : IsFun Tryz.prog 253 g253 := ⟨Tryz.f253, _, [], Tryz.func253, by kernel_rfl, rfl, by kernel_rfl, by kernel_rfl, rfl⟩
def g259 : GFun := ⟨⟨15,[2,3]⟩,(s [a 2 2 0,a 3 2 1,b 4 false] (.seq (s [f 5 0 2,l 6 5,f 7 0 3,l 8 7,o 9 .neq 6 8] (.cond 9 (s [b 4 false] .ret) .skip)) (.seq (s [f 10 1 2,l 11 10,f 12 1 3,l 13 12,o 14 .neq 11 13] (.cond 14
 (s [b 4 false] .ret) .skip)) (s [b 4 true] .ret)))),[.t 4]⟩
theorem i259 : IsFun Tryz.prog 259 g259 := ⟨Tryz.f259, _, [], Tryz.func259, by kernel_rfl, rfl, by kernel_rfl, by kernel_rfl, rfl⟩
def g260 : GFun := ⟨⟨41,[2,3]⟩,(s [a 2 7 0,a 3 7 1,b 4 false] (.seq (s [f 5 0 2,l 6 5,f 7 0 3,l 8 7,o 9 .neq 6 8] (.cond 9 (s [b 4 false] .ret) .skip)) (.seq (s [f 10 1 2,l 11 10,f 12 1 3,l 13 12,o 14 .neq 11 13] (.cond 14
 (s [b 4 false] .ret) .skip)) (.seq (s [f 15 2 2,l 16 15,f 17 2 3,l 18 17,o 19 .neq 16 18] (.cond 19 (s [b 4 false] .ret) .skip)) (.seq (s [f 20 3 2,l 21 20,f 22 3 3,l 23 22,o 24 .neq 21 23] (.cond 24 (s [b 4 false] .ret) .skip)) (.seq
 (s [f 25 4 2,l 26 25,f 27 4 3,l 28 27,o 29 .neq 26 28] (.cond 29 (s [b 4 false] .ret) .skip)) (.seq (s [f 30 5 2,l 31 30,f 32 5 3,l 33 32,o 34 .neq 31 33] (.cond 34 (s [b 4 false] .ret) .skip)) (.seq (s [f 35 6 2,l 36 35,f 37 6 3,l 38 37,
 c 39 294 [.t 36,.t 38],w 40 39] (.cond 40 (s [b 4 false] .ret) .skip)) (s [b 4 true] .ret))))))))),[.t 4]⟩
theorem i260 : IsFun Tryz.prog 260 g260 := ⟨Tryz.f260, _, [], Tryz.func260, by kernel_rfl, rfl, by kernel_rfl, by kernel_rfl, rfl⟩
def g270 : GFun := ⟨⟨24,[]⟩,(s [k 4 0] (.seq (s [m 5 1] (.block 0 (s [q 7 .eql 5 1,m 6 7] (.cond 6 (s [m 8 0,c 9 272 [.t 8],m 4 9] .ret) (s [q 11 .eql 5 2,m 10 11] (.cond 10 (s [m 12 0,q 13 .and 12 4095,m 4 13] .ret) (s [q 15 .eql 5 3,
 m 14 15] (.cond 14 (s [m 16 0,q 17 .neq 16 0,c 18 274 [.t 17],m 4 18] .ret) (s [q 20 .eql 5 4,m 19 20] (.cond 19 (s [m 21 0,c 22 85 [.t 21,(.k (.val (.int .i64 0))),(.k (.val (.int .i64 999)))]] (.cond 22 (s [m 23 0,
 m 4 23] .ret) .skip)) .skip)))))))))) (s [k 4 0] .ret))),[.t 4]⟩
theorem i270 : IsFun Tryz.prog 270 g270 := ⟨Tryz.f270, _, [], Tryz.func270, by kernel_rfl, rfl, by kernel_rfl, by kernel_rfl, rfl⟩
def g272 : GFun := ⟨⟨6,[]⟩,(s [k 2 0] (s [m 3 0,c 4 273 [(.k (.val (.int .i64 1000000))),.t 3],c 5 66 [(.k (.val (.int .i64 (-1000000)))),.t 4],m 2 5] .ret)),[.t 2]⟩
theorem i272 : IsFun Tryz.prog 272 g272 := ⟨Tryz.f272, _, [], Tryz.func272, by kernel_rfl, rfl, by kernel_rfl, by kernel_rfl, rfl⟩
def g273 : GFun := ⟨⟨10,[]⟩,(s [k 4 0] (.seq (s [m 5 0,m 6 1,o 7 .lss 5 6] (.cond 7 (s [m 8 0,m 4 8] .ret) .skip)) (s [m 9 1,m 4 9] .ret))),[.t 4]⟩
theorem i273 : IsFun Tryz.prog 273 g273 := ⟨Tryz.f273, _, [], Tryz.func273, by kernel_rfl, rfl, by kernel_rfl, by kernel_rfl, rfl⟩
def g274 : GFun := ⟨⟨4,[]⟩,(s [k 2 0] (.seq (s [m 3 0] (.cond 3 (s [k 2 1] .ret) .skip)) (s [k 2 0] .ret))),[.t 2]⟩
theorem i274 : IsFun Tryz.prog 274 g274 := ⟨Tryz.f274, _, [], Tryz.func274, by kernel_rfl, rfl, by kernel_rfl, by kernel_rfl, rfl⟩
def g279 : GFun := ⟨⟨27,[]⟩,(s [k 4 0] (s [m 6 1,m 7 0,n 8 7,o 9 .sub 6 8,m 1 9] (.seq (s [m 10 1,q 11 .lss 10 0] (.cond 11 (s [k 4 (-1)] .ret) .skip)) (.seq (s [k 5 0] (.block 0 (.loop (.seq (s [m 12 5,m 13 0,n 14 13,o 15 .lss 12 14]
 (.cond 15 .skip (.exit 0))) (.seq (.block 1 (s [m 18 0,m 19 5,i 20 7 18 19,h 21 7 20,m 22 1,c 23 244 [.t 21,.t 22],m 1 23] (s [m 24 1,q 25 .lss 24 0] (.cond 25 (s [k 4 (-1)] .ret) .skip)))) (.reg [m 16 5,q 17 .add 16 1,m 5 17]))))))
 (s [m 26 1,m 4 26] .ret))))),[.t 4]⟩
theorem i279 : IsFun Tryz.prog 279 g279 := ⟨Tryz.f279, _, [], Tryz.func279, by kernel_rfl, rfl, by kernel_rfl, by kernel_rfl, rfl⟩
def g280 : GFun := ⟨⟨24,[2,3]⟩,(s [a 2 2 0,a 3 2 1,b 4 false] (s [f 5 0 2,l 6 5,f 7 0 3,l 8 7,o 9 .lss 6 8,m 10 9,z 11 10 (.faddr 0 1 false (.t 2)),z 12 10 (.load 1 false (.t 11)),z 13 10 (.faddr 0 1 false (.t 3)),z 14 10 (.load 1 false
 (.t 13)),z 15 10 (.bin .eql (.t 12) (.t 14)),z 16 10 (.mov (.t 15)),y 17 16 (.faddr 1 1 false (.t 2)),y 18 16 (.load 1 false (.t 17)),y 19 16 (.faddr 1 1 false (.t 3)),y 20 16 (.load 1 false (.t 19)),y 21 16 (.bin .lss (.t 18) (.t 20)),
 z 22 10 (.pick (.t 16) (.t 21) (.k (.val (.bool false)))),x 23 (.pick (.t 10) (.k (.val (.bool true))) (.t 22)),m 4 23] .ret)),[.t 4]⟩
theorem i280 : IsFun Tryz.prog 280 g280 := ⟨Tryz.f280, _, [], Tryz.func280, by kernel_rfl, rfl, by kernel_rfl, by kernel_rfl, rfl⟩
def g281 : GFun := ⟨⟨23,[]⟩,(s [x 2 (.mov (.k (.val (.slice none 0 0))))] (s [m 5 0,n 6 5,x 7 (.mkslice 7 88 (.agg [(.val (.int .i64 0)),(.val (.int .i64 0)),(.val (.int .i64 0)),(.val (.int .i64 0)),(.val (.string (ByteArray.mk #[]))),
 (.val (.string (ByteArray.mk #[]))),(.val (.slice none 0 0))]) (.t 6) (.t 6)),m 3 7] (.seq (s [k 4 0] (.block 0 (.loop (.seq (s [m 8 4,m 9 0,n 10 9,o 11 .lss 8 10] (.cond 11 .skip (.exit 0))) (.seq (.block 1 (.reg [m 14 3,m 15 4,m 16 0,
 m 17 4,i 18 7 16 17,h 19 7 18,c 20 247 [.t 19],i 21 7 14 15,(.mk none none (.store 7 (.t 21) (.t 20)))])) (.reg [m 12 4,q 13 .add 12 1,m 4 13])))))) (s [m 22 3,m 2 22] .ret)))),[.t 2]⟩
theorem i281 : IsFun Tryz.prog 281 g281 := ⟨Tryz.f281, _, [], Tryz.func281, by kernel_rfl, rfl, by kernel_rfl, by kernel_rfl, rfl⟩
def g294 : GFun := ⟨⟨27,[]⟩,(s [b 4 false] (.seq (s [m 6 0,n 7 6,m 8 1,n 9 8,o 10 .neq 7 9] (.cond 10 (s [b 4 false] .ret) .skip)) (.seq (s [k 5 0] (.block 0 (.loop (.seq (s [m 11 5,m 12 0,n 13 12,o 14 .lss 11 13] (.cond 14 .skip
 (.exit 0))) (.seq (.block 1 (s [m 17 0,m 18 5,i 19 7 17 18,m 21 1,m 22 5,i 23 7 21 22,h 20 7 19,h 24 7 23,x 25 (.call true 260 [.t 20,.t 24]),w 26 25] (.cond 26 (s [b 4 false] .ret) .skip))) (.reg [m 15 5,q 16 .add 15 1,m 5 16]))))))
 (s [b 4 true] .ret)))),[.t 4]⟩
theorem i294 : IsFun Tryz.prog 294 g294 := ⟨Tryz.f294, _, [], Tryz.func294, by kernel_rfl, rfl, by kernel_rfl, by kernel_rfl, rfl⟩
end Go.Proofs.YtbdmpkidcpblaaaGreat

namespace Go.Proofs.YtbdmpkidcpblaaaGreat
open Go.Gh
set_option maxRecDepth 20000
set_option linter.unusedSimpArgs false
set_option linter.unusedVariables false
theorem mxd : Tryz.prog.follows .mixedOrders = true := Checked.mixed Tryz.checked
end Go.Proofs.YtbdmpkidcpblaaaGreat

namespace Go.Proofs.YtbdmpkidcpblaaaGreat
open Go.Gh
set_option maxRecDepth 20000
set_option linter.unusedSimpArgs false
set_option linter.unusedVariables false
theorem w127 (xs : List Int) (left : Int) (h0 : 0 ≤ left) (h1 : left ≤ 1048576) : Pure Tryz.prog 127 [IS xs, I left] (· = I (szv left xs.length)) := by
  refine GCalls.lenA fun hl => ?_
  have hl := hl.1.1
  simp only [List.length_map, maxL] at hl
  refine gstart mxd i127 rfl (by simp) ?_; simp (maxSteps := 2000000) only [↓ S2, S2, vIte, ↓reduceIte, Int.reduceNe, Nat.reduceEqDiff, reduceCtorEq, Nat.reduceLeDiff, Nat.reduceAdd, Nat.reduceLT]
  ((try with_reducible refine mkQI ?_); (repeat ((first | (with_reducible refine mkQU ?_) | simp only [brGen]); try simp (maxSteps := 2000000) only [↓ S2, S2, vIte, ↓reduceIte, Int.reduceNe, Nat.reduceEqDiff, reduceCtorEq, Nat.reduceLeDiff, Nat.reduceAdd, Nat.reduceLT])); (try simp +contextual (disch := omega) only [Z2]); (repeat' (first | (with_reducible intro h) | (with_reducible refine And.intro (by omega) ?_) | (with_reducible refine exP (by omega) ?_) | (with_reducible apply And.intro)))) <;> (congr 2; simp only [szv]; omega)
theorem w62 (x : Nod) (left : Int) (h0 : 0 ≤ left) (h1 : left ≤ 1048576) (hx : x.rule.size ≤ maxLen) : Pure Tryz.prog 62 [Nd x, I left] (· = I (szv left (wNd x))) := by
  simp only [maxLen, size_chars] at hx
  refine gstart mxd i62 rfl (by simp) ?_; simp (maxSteps := 2000000) only [↓ S2, S2, vIte, ↓reduceIte, Int.reduceNe, Nat.reduceEqDiff, reduceCtorEq, Nat.reduceLeDiff, Nat.reduceAdd, Nat.reduceLT]
  ((try with_reducible refine mkQI ?_); (repeat ((first | (with_reducible refine mkQU ?_) | simp only [brGen]); try simp (maxSteps := 2000000) only [↓ S2, S2, vIte, ↓reduceIte, Int.reduceNe, Nat.reduceEqDiff, reduceCtorEq, Nat.reduceLeDiff, Nat.reduceAdd, Nat.reduceLT])); (try simp +contextual (disch := omega) only [Z2]); (repeat' (first | (with_reducible intro h) | (with_reducible refine And.intro (by omega) ?_) | (with_reducible refine exP (by omega) ?_) | (with_reducible apply And.intro))))
  · congr 2; simp only [szv, wNd]; omega
  refine callS.eq (w127 _ _ (by omega) (by omega)) ?_
  ((try with_reducible refine mkQI ?_); (repeat ((first | (with_reducible refine mkQU ?_) | simp only [brGen]); try simp (maxSteps := 2000000) only [↓ S2, S2, vIte, ↓reduceIte, Int.reduceNe, Nat.reduceEqDiff, reduceCtorEq, Nat.reduceLeDiff, Nat.reduceAdd, Nat.reduceLT])); (try simp +contextual (disch := omega) only [Z2]); (repeat' (first | (with_reducible intro h) | (with_reducible refine And.intro (by omega) ?_) | (with_reducible refine exP (by omega) ?_) | (with_reducible apply And.intro)))) <;> (congr 2; simp only [szv, wNd] at *; omega)
theorem w29 (xs : List Nod) (left : Int) (h0 : 0 ≤ left) (h1 : left ≤ 1048576) (hx : ∀ x ∈ xs, x.rule.size ≤ maxLen) : Pure Tryz.prog 29 [NdS xs, I left] (· = I (szv left (wtS wNd xs))) :=
  szS mxd wNd i29 (fun _ => rfl) (fun _ => rfl) xs left h0 h1 fun x hm l a b => w62 x l a b (hx x hm)
theorem w8 (t : List Nod) (left : Int) (h0 : 0 ≤ left) (h1 : left ≤ 1048576) (hx : ∀ x ∈ t, x.rule.size ≤ maxLen) : Pure Tryz.prog 8 [Tr t, I left] (· = I (szv left (wtS wNd t))) := by
  refine gstart mxd i8 rfl (by simp) ?_; simp (maxSteps := 2000000) only [↓ S2, S2, vIte, ↓reduceIte, Int.reduceNe, Nat.reduceEqDiff, reduceCtorEq, Nat.reduceLeDiff, Nat.reduceAdd, Nat.reduceLT]
  refine callS.eq (w29 _ _ (by omega) (by omega) hx) ?_
  ((try with_reducible refine mkQI ?_); (repeat ((first | (with_reducible refine mkQU ?_) | simp only [brGen]); try simp (maxSteps := 2000000) only [↓ S2, S2, vIte, ↓reduceIte, Int.reduceNe, Nat.reduceEqDiff, reduceCtorEq, Nat.reduceLeDiff, Nat.reduceAdd, Nat.reduceLT])); (try simp +contextual (disch := omega) only [Z2]); (repeat' (first | (with_reducible intro h) | (with_reducible refine And.intro (by omega) ?_) | (with_reducible refine exP (by omega) ?_) | (with_reducible apply And.intro)))) <;> (congr 2; simp only [szv] at *; omega)
theorem o25 (xs : List Int) (hx : xs.length ≤ 1048576) (H : GH) : GCalls Tryz.prog 25 [IS xs] H (fun g H' => ∃ r, g = .own r 1 0 xs.length ∧ H' = (r, 1, xs.map I) :: H) := by
  refine gstart mxd i25 rfl (by simp) ?_; simp (maxSteps := 2000000) only [↓ S2, S2, vIte, ↓reduceIte, Int.reduceNe, Nat.reduceEqDiff, reduceCtorEq, Nat.reduceLeDiff, Nat.reduceAdd, Nat.reduceLT]
  refine ⟨by omega, by omega, by omega, by omega, fun r hr => ?_⟩
  refine wloop mxd (ι := { i : Nat // i ≤ xs.length }) (fun i => [(0, IS xs), (3, .own r 1 0 xs.length), (4, I i.1)]) (fun i => (r, 1, (xs.take i.1 ++ List.replicate (xs.length - i.1) 0).map I) :: H) (fun i => xs.length - i.1) ⟨0, by simp⟩ (by simp [E2]) (by simp) ?_
  rintro ⟨i, hi⟩
  ((try with_reducible refine mkQI ?_); (repeat ((first | (with_reducible refine mkQU ?_) | simp only [brGen]); try simp (maxSteps := 2000000) only [↓ S2, S2, vIte, ↓reduceIte, Int.reduceNe, Nat.reduceEqDiff, reduceCtorEq, Nat.reduceLeDiff, Nat.reduceAdd, Nat.reduceLT])); (try simp +contextual (disch := omega) only [Z2]); (repeat' (first | (with_reducible intro h) | (with_reducible refine And.intro (by omega) ?_) | (with_reducible refine exP (by omega) ?_) | (with_reducible apply And.intro))))
  · refine ⟨by simp; omega, nx ⟨i + 1, by omega⟩ (by simp; omega) (by simp [E2]) ?_⟩
    have e := fill_set xs id 0 i (by omega)
    simp only [List.map_id, id_eq] at e
    rw [← e]
  · have : i = xs.length := by omega
    subst this
    exact ⟨r, rfl, by simp⟩
theorem w25 (xs : List Int) (hx : xs.length ≤ 1048576) : Pure Tryz.prog 25 [IS xs] (· = IS xs) := by
  refine (o25 xs hx []).fr ?_
  rintro g H' ⟨r, rfl, rfl⟩
  exact ⟨_, _, FR.freeze hget_new (.all hget_new (by simp) (by simp [view])), rfl⟩
theorem w69 (x : Nod) (hx : x.kids.length ≤ 1048576) : Pure Tryz.prog 69 [Nd x] (· = Nd x) := by
  refine gstart mxd i69 rfl (by simp) ?_; simp (maxSteps := 2000000) only [↓ S2, S2, vIte, ↓reduceIte, Int.reduceNe, Nat.reduceEqDiff, reduceCtorEq, Nat.reduceLeDiff, Nat.reduceAdd, Nat.reduceLT]
  intro r hr
  refine callS.eq (w25 _ hx) ?_
  ((try with_reducible refine mkQI ?_); (repeat ((first | (with_reducible refine mkQU ?_) | simp only [brGen]); try simp (maxSteps := 2000000) only [↓ S2, S2, vIte, ↓reduceIte, Int.reduceNe, Nat.reduceEqDiff, reduceCtorEq, Nat.reduceLeDiff, Nat.reduceAdd, Nat.reduceLT])); (try simp +contextual (disch := omega) only [Z2]); (repeat' (first | (with_reducible intro h) | (with_reducible refine And.intro (by omega) ?_) | (with_reducible refine exP (by omega) ?_) | (with_reducible apply And.intro))))
theorem w34 (xs : List Nod) (hl : xs.length ≤ 1048576) (hx : ∀ x ∈ xs, x.kids.length ≤ 1048576) : Pure Tryz.prog 34 [NdS xs] (· = NdS xs) :=
  freezeS (fun _ => rfl) fun H => toSo mxd i34 (fun _ => rfl) (fun _ => rfl) (fun _ => rfl) (fun _ => rfl) xs hl (by decide) (fun x hm => w69 x (hx x hm)) H
theorem w11 (t : List Nod) (hl : t.length ≤ 1048576) (hx : ∀ x ∈ t, x.kids.length ≤ 1048576) : Pure Tryz.prog 11 [Tr t] (· = Tr t) := by
  refine gstart mxd i11 rfl (by simp) ?_; simp (maxSteps := 2000000) only [↓ S2, S2, vIte, ↓reduceIte, Int.reduceNe, Nat.reduceEqDiff, reduceCtorEq, Nat.reduceLeDiff, Nat.reduceAdd, Nat.reduceLT]
  intro r hr
  refine callS.eq (w34 _ hl hx) ?_
  ((try with_reducible refine mkQI ?_); (repeat ((first | (with_reducible refine mkQU ?_) | simp only [brGen]); try simp (maxSteps := 2000000) only [↓ S2, S2, vIte, ↓reduceIte, Int.reduceNe, Nat.reduceEqDiff, reduceCtorEq, Nat.reduceLeDiff, Nat.reduceAdd, Nat.reduceLT])); (try simp +contextual (disch := omega) only [Z2]); (repeat' (first | (with_reducible intro h) | (with_reducible refine And.intro (by omega) ?_) | (with_reducible refine exP (by omega) ?_) | (with_reducible apply And.intro))))
theorem w13 (xs ys : List Int) : Pure Tryz.prog 13 [IS xs, IS ys] (· = B (decide (xs = ys))) := by
  refine GCalls.lenA fun hl => ?_
  have hl := hl.1.1
  simp only [List.length_map, maxL] at hl
  refine gstart mxd i13 rfl (by simp) ?_; simp (maxSteps := 2000000) only [↓ S2, S2, vIte, ↓reduceIte, Int.reduceNe, Nat.reduceEqDiff, reduceCtorEq, Nat.reduceLeDiff, Nat.reduceAdd, Nat.reduceLT]
  ((try with_reducible refine mkQI ?_); (repeat ((first | (with_reducible refine mkQU ?_) | simp only [brGen]); try simp (maxSteps := 2000000) only [↓ S2, S2, vIte, ↓reduceIte, Int.reduceNe, Nat.reduceEqDiff, reduceCtorEq, Nat.reduceLeDiff, Nat.reduceAdd, Nat.reduceLT])); (try simp +contextual (disch := omega) only [Z2]); (repeat' (first | (with_reducible intro h) | (with_reducible refine And.intro (by omega) ?_) | (with_reducible refine exP (by omega) ?_) | (with_reducible apply And.intro))))
  rotate_left
  · simp; rintro rfl; exact h rfl
  refine wloop mxd (ι := { i : Nat // i ≤ xs.length ∧ xs.take i = ys.take i }) (fun i => [(0, IS xs), (1, IS ys), (5, I i.1)]) (fun _ => []) (fun i => xs.length - i.1) ⟨0, by simp⟩ (by simp [E2]) rfl ?_
  rintro ⟨i, hi, hp⟩
  ((try with_reducible refine mkQI ?_); (repeat ((first | (with_reducible refine mkQU ?_) | simp only [brGen]); try simp (maxSteps := 2000000) only [↓ S2, S2, vIte, ↓reduceIte, Int.reduceNe, Nat.reduceEqDiff, reduceCtorEq, Nat.reduceLeDiff, Nat.reduceAdd, Nat.reduceLT])); (try simp +contextual (disch := omega) only [Z2]); (repeat' (first | (with_reducible intro h) | (with_reducible refine And.intro (by omega) ?_) | (with_reducible refine exP (by omega) ?_) | (with_reducible apply And.intro))))
  · exact nx ⟨i + 1, by omega, take_eq_step hp (by omega) (by omega) h⟩ (by simp; omega) (by simp [E2]) rfl
  · simp; rintro rfl; simp at h
  · have : i = xs.length := by omega
    subst this
    rw [List.take_of_length_le (by omega), List.take_of_length_le (by omega)] at hp
    simp [hp]
theorem w79 (x y : Nod) : Pure Tryz.prog 79 [Nd x, Nd y] (· = B (decide (x = y))) := by
  refine gstart mxd i79 rfl (by simp) ?_; simp (maxSteps := 2000000) only [↓ S2, S2, vIte, ↓reduceIte, Int.reduceNe, Nat.reduceEqDiff, reduceCtorEq, Nat.reduceLeDiff, Nat.reduceAdd, Nat.reduceLT]
  ((try with_reducible refine mkQI ?_); (repeat ((first | (with_reducible refine mkQU ?_) | simp only [brGen]); try simp (maxSteps := 2000000) only [↓ S2, S2, vIte, ↓reduceIte, Int.reduceNe, Nat.reduceEqDiff, reduceCtorEq, Nat.reduceLeDiff, Nat.reduceAdd, Nat.reduceLT])); (try simp +contextual (disch := omega) only [Z2]); (repeat' (first | (with_reducible intro h) | (with_reducible refine And.intro (by omega) ?_) | (with_reducible refine exP (by omega) ?_) | (with_reducible apply And.intro))))
  all_goals first
    | (simp [Nod.ext_iff, *]; done)
    | skip
  refine callS.eq (w13 _ _) ?_
  ((try with_reducible refine mkQI ?_); (repeat ((first | (with_reducible refine mkQU ?_) | simp only [brGen]); try simp (maxSteps := 2000000) only [↓ S2, S2, vIte, ↓reduceIte, Int.reduceNe, Nat.reduceEqDiff, reduceCtorEq, Nat.reduceLeDiff, Nat.reduceAdd, Nat.reduceLT])); (try simp +contextual (disch := omega) only [Z2]); (repeat' (first | (with_reducible intro h) | (with_reducible refine And.intro (by omega) ?_) | (with_reducible refine exP (by omega) ?_) | (with_reducible apply And.intro)))) <;> simp [Nod.ext_iff, *]
theorem w40 (xs ys : List Nod) : Pure Tryz.prog 40 [NdS xs, NdS ys] (· = B (decide (xs = ys))) :=
  eqS mxd i40 (fun _ => rfl) (fun _ => rfl) xs ys fun x _ y _ => w79 x y
theorem w15 (t u : List Nod) : Pure Tryz.prog 15 [Tr t, Tr u] (· = B (decide (t = u))) := by
  refine gstart mxd i15 rfl (by simp) ?_; simp (maxSteps := 2000000) only [↓ S2, S2, vIte, ↓reduceIte, Int.reduceNe, Nat.reduceEqDiff, reduceCtorEq, Nat.reduceLeDiff, Nat.reduceAdd, Nat.reduceLT]
  refine callS.eq (w40 _ _) ?_
  ((try with_reducible refine mkQI ?_); (repeat ((first | (with_reducible refine mkQU ?_) | simp only [brGen]); try simp (maxSteps := 2000000) only [↓ S2, S2, vIte, ↓reduceIte, Int.reduceNe, Nat.reduceEqDiff, reduceCtorEq, Nat.reduceLeDiff, Nat.reduceAdd, Nat.reduceLT])); (try simp +contextual (disch := omega) only [Z2]); (repeat' (first | (with_reducible intro h) | (with_reducible refine And.intro (by omega) ?_) | (with_reducible refine exP (by omega) ?_) | (with_reducible apply And.intro)))) <;> simp [*]
theorem w85 (x lo hi : Int) : Pure Tryz.prog 85 [I x, I lo, I hi] (· = B (decide (lo ≤ x ∧ x ≤ hi))) := by
  refine gstart mxd i85 rfl (by simp) ?_; simp (maxSteps := 2000000) only [↓ S2, S2, vIte, ↓reduceIte, Int.reduceNe, Nat.reduceEqDiff, reduceCtorEq, Nat.reduceLeDiff, Nat.reduceAdd, Nat.reduceLT]
  ((try with_reducible refine mkQI ?_); (repeat ((first | (with_reducible refine mkQU ?_) | simp only [brGen]); try simp (maxSteps := 2000000) only [↓ S2, S2, vIte, ↓reduceIte, Int.reduceNe, Nat.reduceEqDiff, reduceCtorEq, Nat.reduceLeDiff, Nat.reduceAdd, Nat.reduceLT])); (try simp +contextual (disch := omega) only [Z2]); (repeat' (first | (with_reducible intro h) | (with_reducible refine And.intro (by omega) ?_) | (with_reducible refine exP (by omega) ?_) | (with_reducible apply And.intro)))) <;> simp [*]
theorem w73 (x lo hi : Int) : Pure Tryz.prog 73 [I x, I lo, I hi] (· = B (decide (lo ≤ x ∧ x ≤ hi))) := by
  refine gstart mxd i73 rfl (by simp) ?_; simp (maxSteps := 2000000) only [↓ S2, S2, vIte, ↓reduceIte, Int.reduceNe, Nat.reduceEqDiff, reduceCtorEq, Nat.reduceLeDiff, Nat.reduceAdd, Nat.reduceLT]
  ((try with_reducible refine mkQI ?_); (repeat ((first | (with_reducible refine mkQU ?_) | simp only [brGen]); try simp (maxSteps := 2000000) only [↓ S2, S2, vIte, ↓reduceIte, Int.reduceNe, Nat.reduceEqDiff, reduceCtorEq, Nat.reduceLeDiff, Nat.reduceAdd, Nat.reduceLT])); (try simp +contextual (disch := omega) only [Z2]); (repeat' (first | (with_reducible intro h) | (with_reducible refine And.intro (by omega) ?_) | (with_reducible refine exP (by omega) ?_) | (with_reducible apply And.intro)))) <;> simp [*]
theorem w185 (t : List Nod) (id : Int) : Pure Tryz.prog 185 [Tr t, I id] (· = I (ixOf (fun y => decide (y.id = id)) t)) := by
  refine GCalls.lenA fun hl => ?_
  obtain ⟨hlen, _⟩ := lenTr hl.1
  refine gstart mxd i185 rfl (by simp) ?_; simp (maxSteps := 2000000) only [↓ S2, S2, vIte, ↓reduceIte, Int.reduceNe, Nat.reduceEqDiff, reduceCtorEq, Nat.reduceLeDiff, Nat.reduceAdd, Nat.reduceLT]
  refine wloop mxd (ι := { i : Nat // i ≤ t.length ∧ ∀ y ∈ t.take i, decide (y.id = id) = false }) (fun i => [(2, .rop 1 (Tr t)), (1, I id), (5, I i.1)]) (fun _ => []) (fun i => t.length - i.1) ⟨0, by simp⟩ (by simp [E2]) rfl ?_
  rintro ⟨i, hi, hn⟩
  ((try with_reducible refine mkQI ?_); (repeat ((first | (with_reducible refine mkQU ?_) | simp only [brGen]); try simp (maxSteps := 2000000) only [↓ S2, S2, vIte, ↓reduceIte, Int.reduceNe, Nat.reduceEqDiff, reduceCtorEq, Nat.reduceLeDiff, Nat.reduceAdd, Nat.reduceLT])); (try simp +contextual (disch := omega) only [Z2]); (repeat' (first | (with_reducible intro h) | (with_reducible refine And.intro (by omega) ?_) | (with_reducible refine exP (by omega) ?_) | (with_reducible apply And.intro))))
  · rw [ixOf_hit (by assumption) (by simp [h]) hn]
  · exact nx ⟨i + 1, by omega, take_step (by assumption) (by simp [h]) hn⟩ (by simp; omega) (by simp [E2]) rfl
  · have : i = t.length := by omega
    subst this
    rw [List.take_of_length_le (Nat.le_refl _)] at hn
    rw [ixOf_none hn]
theorem w252 (x : Nod) (id : Int) : Pure Tryz.prog 252 [Nd x, .rop 1 (I id)] (· = B (decide (x.id = id))) := by
  refine gstart mxd i252 rfl (by simp) ?_; simp (maxSteps := 2000000) only [↓ S2, S2, vIte, ↓reduceIte, Int.reduceNe, Nat.reduceEqDiff, reduceCtorEq, Nat.reduceLeDiff, Nat.reduceAdd, Nat.reduceLT]
  try ((try with_reducible refine mkQI ?_); (repeat ((first | (with_reducible refine mkQU ?_) | simp only [brGen]); try simp (maxSteps := 2000000) only [↓ S2, S2, vIte, ↓reduceIte, Int.reduceNe, Nat.reduceEqDiff, reduceCtorEq, Nat.reduceLeDiff, Nat.reduceAdd, Nat.reduceLT])); (try simp +contextual (disch := omega) only [Z2]); (repeat' (first | (with_reducible intro h) | (with_reducible refine And.intro (by omega) ?_) | (with_reducible refine exP (by omega) ?_) | (with_reducible apply And.intro))))
theorem w251 (t : List Nod) (f : Nat) (cs : List GV) (p : Nod → Bool) (hp : ∀ x ∈ t, Pure Tryz.prog f (Nd x :: cs) (· = B (p x))) :
    Pure Tryz.prog 251 [NdS t, .clo f cs] (· = I (ixOf p t)) := by
  refine GCalls.lenA fun hl => ?_
  have hlen := hl.1.1
  simp only [List.length_map, maxL] at hlen
  refine gstart mxd i251 rfl (by simp) ?_; simp (maxSteps := 2000000) only [↓ S2, S2, vIte, ↓reduceIte, Int.reduceNe, Nat.reduceEqDiff, reduceCtorEq, Nat.reduceLeDiff, Nat.reduceAdd, Nat.reduceLT]
  refine wloop mxd (ι := { i : Nat // i ≤ t.length ∧ ∀ y ∈ t.take i, p y = false }) (fun i => [(0, NdS t), (1, .clo f cs), (7, I t.length), (8, I i.1)]) (fun _ => []) (fun i => t.length - i.1) ⟨0, by simp⟩ (by simp [E2]) rfl ?_
  rintro ⟨i, hi, hn⟩
  ((try with_reducible refine mkQI ?_); (repeat ((first | (with_reducible refine mkQU ?_) | simp only [brGen]); try simp (maxSteps := 2000000) only [↓ S2, S2, vIte, ↓reduceIte, Int.reduceNe, Nat.reduceEqDiff, reduceCtorEq, Nat.reduceLeDiff, Nat.reduceAdd, Nat.reduceLT])); (try simp +contextual (disch := omega) only [Z2]); (repeat' (first | (with_reducible intro h) | (with_reducible refine And.intro (by omega) ?_) | (with_reducible refine exP (by omega) ?_) | (with_reducible apply And.intro))))
  · refine callS.eq (hp t[i] (List.getElem_mem _)) ?_
    ((try with_reducible refine mkQI ?_); (repeat ((first | (with_reducible refine mkQU ?_) | simp only [brGen]); try simp (maxSteps := 2000000) only [↓ S2, S2, vIte, ↓reduceIte, Int.reduceNe, Nat.reduceEqDiff, reduceCtorEq, Nat.reduceLeDiff, Nat.reduceAdd, Nat.reduceLT])); (try simp +contextual (disch := omega) only [Z2]); (repeat' (first | (with_reducible intro h) | (with_reducible refine And.intro (by omega) ?_) | (with_reducible refine exP (by omega) ?_) | (with_reducible apply And.intro))))
    · rw [ixOf_hit (by assumption) h hn]
    · exact nx ⟨i + 1, by omega, take_step (by assumption) h hn⟩ (by simp; omega) (by simp [E2]) rfl
  · have : i = t.length := by omega
    subst this
    rw [List.take_of_length_le (Nat.le_refl _)] at hn
    rw [ixOf_none hn]
theorem w204 (t : List Nod) (id : Int) : Pure Tryz.prog 204 [Tr t, I id] (· = I (ixOf (fun y => decide (y.id = id)) t)) := by
  refine gstart mxd i204 rfl (by simp) ?_; simp (maxSteps := 2000000) only [↓ S2, S2, vIte, ↓reduceIte, Int.reduceNe, Nat.reduceEqDiff, reduceCtorEq, Nat.reduceLeDiff, Nat.reduceAdd, Nat.reduceLT]
  refine callS.eq (w251 t _ _ _ fun x _ => w252 x id) ?_
  ((try with_reducible refine mkQI ?_); (repeat ((first | (with_reducible refine mkQU ?_) | simp only [brGen]); try simp (maxSteps := 2000000) only [↓ S2, S2, vIte, ↓reduceIte, Int.reduceNe, Nat.reduceEqDiff, reduceCtorEq, Nat.reduceLeDiff, Nat.reduceAdd, Nat.reduceLT])); (try simp +contextual (disch := omega) only [Z2]); (repeat' (first | (with_reducible intro h) | (with_reducible refine And.intro (by omega) ?_) | (with_reducible refine exP (by omega) ?_) | (with_reducible apply And.intro))))
end Go.Proofs.YtbdmpkidcpblaaaGreat

namespace Go.Proofs.YtbdmpkidcpblaaaGreat
open Go.Gh
set_option maxRecDepth 20000
set_option linter.unusedSimpArgs false
set_option linter.unusedVariables false
theorem w243 (x : Int × ByteArray) (left : Int) (h0 : 0 ≤ left) (h1 : left ≤ 1048576) (hx : x.2.size ≤ maxLen) : Pure Tryz.prog 243 [Occ x, I left] (· = I (szv left (wOcc x))) := by
  simp only [maxLen, size_chars] at hx
  refine gstart mxd i243 rfl (by simp) ?_; simp (maxSteps := 2000000) only [↓ S2, S2, vIte, ↓reduceIte, Int.reduceNe, Nat.reduceEqDiff, reduceCtorEq, Nat.reduceLeDiff, Nat.reduceAdd, Nat.reduceLT]
  ((try with_reducible refine mkQI ?_); (repeat ((first | (with_reducible refine mkQU ?_) | simp only [brGen]); try simp (maxSteps := 2000000) only [↓ S2, S2, vIte, ↓reduceIte, Int.reduceNe, Nat.reduceEqDiff, reduceCtorEq, Nat.reduceLeDiff, Nat.reduceAdd, Nat.reduceLT])); (try simp +contextual (disch := omega) only [Z2]); (repeat' (first | (with_reducible intro h) | (with_reducible refine And.intro (by omega) ?_) | (with_reducible refine exP (by omega) ?_) | (with_reducible apply And.intro)))) <;> (congr 2; simp only [szv, wOcc]; omega)
theorem w246 (x : Int × ByteArray) : Pure Tryz.prog 246 [Occ x] (· = Occ x) := by
  refine gstart mxd i246 rfl (by simp) ?_; simp (maxSteps := 2000000) only [↓ S2, S2, vIte, ↓reduceIte, Int.reduceNe, Nat.reduceEqDiff, reduceCtorEq, Nat.reduceLeDiff, Nat.reduceAdd, Nat.reduceLT]
  ((try with_reducible refine mkQI ?_); (repeat ((first | (with_reducible refine mkQU ?_) | simp only [brGen]); try simp (maxSteps := 2000000) only [↓ S2, S2, vIte, ↓reduceIte, Int.reduceNe, Nat.reduceEqDiff, reduceCtorEq, Nat.reduceLeDiff, Nat.reduceAdd, Nat.reduceLT])); (try simp +contextual (disch := omega) only [Z2]); (repeat' (first | (with_reducible intro h) | (with_reducible refine And.intro (by omega) ?_) | (with_reducible refine exP (by omega) ?_) | (with_reducible apply And.intro))))
theorem w259 (x y : Int × ByteArray) : Pure Tryz.prog 259 [Occ x, Occ y] (· = B (decide (x = y))) := by
  refine gstart mxd i259 rfl (by simp) ?_; simp (maxSteps := 2000000) only [↓ S2, S2, vIte, ↓reduceIte, Int.reduceNe, Nat.reduceEqDiff, reduceCtorEq, Nat.reduceLeDiff, Nat.reduceAdd, Nat.reduceLT]
  ((try with_reducible refine mkQI ?_); (repeat ((first | (with_reducible refine mkQU ?_) | simp only [brGen]); try simp (maxSteps := 2000000) only [↓ S2, S2, vIte, ↓reduceIte, Int.reduceNe, Nat.reduceEqDiff, reduceCtorEq, Nat.reduceLeDiff, Nat.reduceAdd, Nat.reduceLT])); (try simp +contextual (disch := omega) only [Z2]); (repeat' (first | (with_reducible intro h) | (with_reducible refine And.intro (by omega) ?_) | (with_reducible refine exP (by omega) ?_) | (with_reducible apply And.intro)))) <;> simp [Prod.ext_iff, *]
end Go.Proofs.YtbdmpkidcpblaaaGreat

namespace Go.Proofs.YtbdmpkidcpblaaaGreat
open Go.Gh
set_option maxRecDepth 20000
set_option linter.unusedSimpArgs false
set_option linter.unusedVariables false
theorem w244 : ∀ (e : Exp), okE e → ∀ left : Int, 0 ≤ left → left ≤ 1048576 → Pure Tryz.prog 244 [Ex e, I left] (· = I (szv left (wEx e))) := by
  refine Exp.indA fun e ih ho left h0 h1 => ?_
  obtain ⟨hs, hm, ha⟩ := okE_eq.1 ho
  simp only [maxLen, size_chars] at hs hm
  rw [Ex_eq]
  refine gstart mxd i244 rfl (by simp) ?_; simp (maxSteps := 2000000) only [↓ S2, S2, vIte, ↓reduceIte, Int.reduceNe, Nat.reduceEqDiff, reduceCtorEq, Nat.reduceLeDiff, Nat.reduceAdd, Nat.reduceLT]
  ((try with_reducible refine mkQI ?_); (repeat ((first | (with_reducible refine mkQU ?_) | simp only [brGen]); try simp (maxSteps := 2000000) only [↓ S2, S2, vIte, ↓reduceIte, Int.reduceNe, Nat.reduceEqDiff, reduceCtorEq, Nat.reduceLeDiff, Nat.reduceAdd, Nat.reduceLT])); (try simp +contextual (disch := omega) only [Z2]); (repeat' (first | (with_reducible intro h) | (with_reducible refine And.intro (by omega) ?_) | (with_reducible refine exP (by omega) ?_) | (with_reducible apply And.intro))))
  · congr 2; rw [wEx_eq]; simp only [szv]; omega
  · congr 2; rw [wEx_eq]; simp only [szv]; omega
  refine callS.eq (szS mxd wEx i279 isAgg_Ex geR_Ex e.args _ (by omega) (by omega) fun a ham l a0 a1 => ih a ham (ha a ham) l a0 a1) ?_
  ((try with_reducible refine mkQI ?_); (repeat ((first | (with_reducible refine mkQU ?_) | simp only [brGen]); try simp (maxSteps := 2000000) only [↓ S2, S2, vIte, ↓reduceIte, Int.reduceNe, Nat.reduceEqDiff, reduceCtorEq, Nat.reduceLeDiff, Nat.reduceAdd, Nat.reduceLT])); (try simp +contextual (disch := omega) only [Z2]); (repeat' (first | (with_reducible intro h) | (with_reducible refine And.intro (by omega) ?_) | (with_reducible refine exP (by omega) ?_) | (with_reducible apply And.intro)))) <;> (congr 2; rw [wEx_eq]; simp only [szv] at *; omega)
theorem w247 : ∀ (e : Exp), wEx e ≤ 1048576 → Pure Tryz.prog 247 [Ex e] (· = Ex e) := by
  refine Exp.indA fun e ih hw => ?_
  obtain ⟨hl, ha⟩ := args_small hw
  rw [Ex_eq]
  refine gstart mxd i247 rfl (by simp) ?_; simp (maxSteps := 2000000) only [↓ S2, S2, vIte, ↓reduceIte, Int.reduceNe, Nat.reduceEqDiff, reduceCtorEq, Nat.reduceLeDiff, Nat.reduceAdd, Nat.reduceLT]
  intro r hr
  refine callS.eq (freezeS view_Ex fun H => toSo mxd i281 isAgg_Ex geR_Ex gsize_Ex stor_Ex e.args hl (by decide) (fun a ham => ih a ham (ha a ham)) H) ?_
  ((try with_reducible refine mkQI ?_); (repeat ((first | (with_reducible refine mkQU ?_) | simp only [brGen]); try simp (maxSteps := 2000000) only [↓ S2, S2, vIte, ↓reduceIte, Int.reduceNe, Nat.reduceEqDiff, reduceCtorEq, Nat.reduceLeDiff, Nat.reduceAdd, Nat.reduceLT])); (try simp +contextual (disch := omega) only [Z2]); (repeat' (first | (with_reducible intro h) | (with_reducible refine And.intro (by omega) ?_) | (with_reducible refine exP (by omega) ?_) | (with_reducible apply And.intro))))
theorem w260 : ∀ (x y : Exp), Pure Tryz.prog 260 [Ex x, Ex y] (· = B (decide (x = y))) := by
  refine Exp.indA fun x ih y => ?_
  rw [Ex_eq, Ex_eq y]
  refine gstart mxd i260 rfl (by simp) ?_; simp (maxSteps := 2000000) only [↓ S2, S2, vIte, ↓reduceIte, Int.reduceNe, Nat.reduceEqDiff, reduceCtorEq, Nat.reduceLeDiff, Nat.reduceAdd, Nat.reduceLT]
  ((try with_reducible refine mkQI ?_); (repeat ((first | (with_reducible refine mkQU ?_) | simp only [brGen]); try simp (maxSteps := 2000000) only [↓ S2, S2, vIte, ↓reduceIte, Int.reduceNe, Nat.reduceEqDiff, reduceCtorEq, Nat.reduceLeDiff, Nat.reduceAdd, Nat.reduceLT])); (try simp +contextual (disch := omega) only [Z2]); (repeat' (first | (with_reducible intro h) | (with_reducible refine And.intro (by omega) ?_) | (with_reducible refine exP (by omega) ?_) | (with_reducible apply And.intro))))
  all_goals first
    | (simp [Exp.ext_iff, *]; done)
    | skip
  refine callS.eq (eqS mxd i294 isAgg_Ex geR_Ex x.args y.args fun a ha b _ => ih a ha b) ?_
  ((try with_reducible refine mkQI ?_); (repeat ((first | (with_reducible refine mkQU ?_) | simp only [brGen]); try simp (maxSteps := 2000000) only [↓ S2, S2, vIte, ↓reduceIte, Int.reduceNe, Nat.reduceEqDiff, reduceCtorEq, Nat.reduceLeDiff, Nat.reduceAdd, Nat.reduceLT])); (try simp +contextual (disch := omega) only [Z2]); (repeat' (first | (with_reducible intro h) | (with_reducible refine And.intro (by omega) ?_) | (with_reducible refine exP (by omega) ?_) | (with_reducible apply And.intro)))) <;> simp [Exp.ext_iff, *]
end Go.Proofs.YtbdmpkidcpblaaaGreat

namespace Go.Proofs.YtbdmpkidcpblaaaGreat
open Go.Gh
set_option maxRecDepth 20000
set_option linter.unusedSimpArgs false
set_option linter.unusedVariables false
theorem w124 (xs : List ByteArray) (left : Int) (h0 : 0 ≤ left) (h1 : left ≤ 1048576) (hx : ∀ x ∈ xs, x.size ≤ maxLen) : Pure Tryz.prog 124 [TS xs, I left] (· = I (szv left (wtS wT xs))) := by
  refine GCalls.lenA fun hl => ?_
  have hlen := hl.1.1
  simp only [List.length_map, maxL] at hlen
  refine gstart mxd i124 rfl (by simp) ?_; simp (maxSteps := 2000000) only [↓ S2, S2, vIte, ↓reduceIte, Int.reduceNe, Nat.reduceEqDiff, reduceCtorEq, Nat.reduceLeDiff, Nat.reduceAdd, Nat.reduceLT]
  ((try with_reducible refine mkQI ?_); (repeat ((first | (with_reducible refine mkQU ?_) | simp only [brGen]); try simp (maxSteps := 2000000) only [↓ S2, S2, vIte, ↓reduceIte, Int.reduceNe, Nat.reduceEqDiff, reduceCtorEq, Nat.reduceLeDiff, Nat.reduceAdd, Nat.reduceLT])); (try simp +contextual (disch := omega) only [Z2]); (repeat' (first | (with_reducible intro h) | (with_reducible refine And.intro (by omega) ?_) | (with_reducible refine exP (by omega) ?_) | (with_reducible apply And.intro))))
  · congr 2; simp only [szv, wtS]; omega
  refine wloop mxd (ι := { i : Nat // i ≤ xs.length ∧ ((xs.length + psum wT xs i : Nat) : Int) ≤ left }) (fun i => [(0, TS xs), (1, I (left - ((xs.length + psum wT xs i.1 : Nat) : Int))), (5, I i.1)]) (fun _ => []) (fun i => xs.length - i.1) ⟨0, by simp [psum_zero]; omega⟩ (by simp [E2, psum_zero]) rfl ?_
  rintro ⟨i, hi, hp⟩
  simp (maxSteps := 2000000) only [↓ S2, S2, vIte, ↓reduceIte, Int.reduceNe, Nat.reduceEqDiff, reduceCtorEq, Nat.reduceLeDiff, Nat.reduceAdd, Nat.reduceLT]
  rcases Nat.lt_or_ge i xs.length with h | h
  · have e1 := psum_succ wT xs i h
    have e2 := psum_le wT xs (i + 1)
    have e3 := hx _ (List.getElem_mem h)
    have hz := size_chars xs[i]
    simp only [maxLen, size_chars] at e3
    simp only [wT] at e1
    ((try with_reducible refine mkQI ?_); (repeat ((first | (with_reducible refine mkQU ?_) | simp only [brGen]); try simp (maxSteps := 2000000) only [↓ S2, S2, vIte, ↓reduceIte, Int.reduceNe, Nat.reduceEqDiff, reduceCtorEq, Nat.reduceLeDiff, Nat.reduceAdd, Nat.reduceLT])); (try simp +contextual (disch := omega) only [Z2]); (repeat' (first | (with_reducible intro h) | (with_reducible refine And.intro (by omega) ?_) | (with_reducible refine exP (by omega) ?_) | (with_reducible apply And.intro))))
    · congr 2; simp only [szv, wtS] at *; omega
    · exact nx ⟨i + 1, by omega, by omega⟩ (by simp; omega) (by simp [E2]; omega) rfl
    all_goals (exfalso; omega)
  · ((try with_reducible refine mkQI ?_); (repeat ((first | (with_reducible refine mkQU ?_) | simp only [brGen]); try simp (maxSteps := 2000000) only [↓ S2, S2, vIte, ↓reduceIte, Int.reduceNe, Nat.reduceEqDiff, reduceCtorEq, Nat.reduceLeDiff, Nat.reduceAdd, Nat.reduceLT])); (try simp +contextual (disch := omega) only [Z2]); (repeat' (first | (with_reducible intro h) | (with_reducible refine And.intro (by omega) ?_) | (with_reducible refine exP (by omega) ?_) | (with_reducible apply And.intro))))
    all_goals first | (exfalso; omega) | skip
    have : i = xs.length := by omega
    subst this
    rw [psum_all] at *
    congr 2; simp only [szv, wtS]; omega
theorem w132 (xs : List ByteArray) (hx : xs.length ≤ 1048576) : Pure Tryz.prog 132 [TS xs] (· = TS xs) := by
  refine Pure.bor ?_
  refine gstart mxd i132 rfl (by simp) ?_; simp (maxSteps := 2000000) only [↓ S2, S2, vIte, ↓reduceIte, Int.reduceNe, Nat.reduceEqDiff, reduceCtorEq, Nat.reduceLeDiff, Nat.reduceAdd, Nat.reduceLT]
  refine ⟨by omega, by omega, by omega, by omega, fun r hr => ?_⟩
  refine wloop mxd (ι := { i : Nat // i ≤ xs.length }) (fun i => [(0, TS xs), (3, .own r 1 0 xs.length), (4, I i.1)]) (fun i => [(r, 1, (xs.take i.1).map T ++ List.replicate (xs.length - i.1) (T noS))]) (fun i => xs.length - i.1) ⟨0, by simp⟩ (by simp [E2]) (by simp [noS]) ?_
  rintro ⟨i, hi⟩
  ((try with_reducible refine mkQI ?_); (repeat ((first | (with_reducible refine mkQU ?_) | simp only [brGen]); try simp (maxSteps := 2000000) only [↓ S2, S2, vIte, ↓reduceIte, Int.reduceNe, Nat.reduceEqDiff, reduceCtorEq, Nat.reduceLeDiff, Nat.reduceAdd, Nat.reduceLT])); (try simp +contextual (disch := omega) only [Z2]); (repeat' (first | (with_reducible intro h) | (with_reducible refine And.intro (by omega) ?_) | (with_reducible refine exP (by omega) ?_) | (with_reducible apply And.intro))))
  · refine ⟨by simp; omega, nx ⟨i + 1, by omega⟩ (by simp; omega) (by simp [E2]) ?_⟩
    rw [fill_set xs T (T noS) i h]
  · have : i = xs.length := by omega
    subst this
    exact Bor.allM (fun _ => rfl) (by simp [hget]) rfl
theorem w143 (xs ys : List ByteArray) : Pure Tryz.prog 143 [TS xs, TS ys] (· = B (decide (xs = ys))) := by
  refine GCalls.lenA fun hl => ?_
  have hl := hl.1.1
  simp only [List.length_map, maxL] at hl
  refine gstart mxd i143 rfl (by simp) ?_; simp (maxSteps := 2000000) only [↓ S2, S2, vIte, ↓reduceIte, Int.reduceNe, Nat.reduceEqDiff, reduceCtorEq, Nat.reduceLeDiff, Nat.reduceAdd, Nat.reduceLT]
  ((try with_reducible refine mkQI ?_); (repeat ((first | (with_reducible refine mkQU ?_) | simp only [brGen]); try simp (maxSteps := 2000000) only [↓ S2, S2, vIte, ↓reduceIte, Int.reduceNe, Nat.reduceEqDiff, reduceCtorEq, Nat.reduceLeDiff, Nat.reduceAdd, Nat.reduceLT])); (try simp +contextual (disch := omega) only [Z2]); (repeat' (first | (with_reducible intro h) | (with_reducible refine And.intro (by omega) ?_) | (with_reducible refine exP (by omega) ?_) | (with_reducible apply And.intro))))
  rotate_left
  · simp; rintro rfl; exact h rfl
  refine wloop mxd (ι := { i : Nat // i ≤ xs.length ∧ xs.take i = ys.take i }) (fun i => [(0, TS xs), (1, TS ys), (5, I i.1)]) (fun _ => []) (fun i => xs.length - i.1) ⟨0, by simp⟩ (by simp [E2]) rfl ?_
  rintro ⟨i, hi, hp⟩
  ((try with_reducible refine mkQI ?_); (repeat ((first | (with_reducible refine mkQU ?_) | simp only [brGen]); try simp (maxSteps := 2000000) only [↓ S2, S2, vIte, ↓reduceIte, Int.reduceNe, Nat.reduceEqDiff, reduceCtorEq, Nat.reduceLeDiff, Nat.reduceAdd, Nat.reduceLT])); (try simp +contextual (disch := omega) only [Z2]); (repeat' (first | (with_reducible intro h) | (with_reducible refine And.intro (by omega) ?_) | (with_reducible refine exP (by omega) ?_) | (with_reducible apply And.intro))))
  · exact nx ⟨i + 1, by omega, take_eq_step hp (by omega) (by omega) h⟩ (by simp; omega) (by simp [E2]) rfl
  · simp; rintro rfl; simp at h
  · have : i = xs.length := by omega
    subst this
    rw [List.take_of_length_le (by omega), List.take_of_length_le (by omega)] at hp
    simp [hp]
theorem w193 (x : Att) (left : Int) (h0 : 0 ≤ left) (h1 : left ≤ 1048576) (hx : okAt x) : Pure Tryz.prog 193 [At x, I left] (· = I (szv left (wAt x))) := by
  simp only [okAt, maxLen, size_chars] at hx
  refine gstart mxd i193 rfl (by simp) ?_; simp (maxSteps := 2000000) only [↓ S2, S2, vIte, ↓reduceIte, Int.reduceNe, Nat.reduceEqDiff, reduceCtorEq, Nat.reduceLeDiff, Nat.reduceAdd, Nat.reduceLT]
  ((try with_reducible refine mkQI ?_); (repeat ((first | (with_reducible refine mkQU ?_) | simp only [brGen]); try simp (maxSteps := 2000000) only [↓ S2, S2, vIte, ↓reduceIte, Int.reduceNe, Nat.reduceEqDiff, reduceCtorEq, Nat.reduceLeDiff, Nat.reduceAdd, Nat.reduceLT])); (try simp +contextual (disch := omega) only [Z2]); (repeat' (first | (with_reducible intro h) | (with_reducible refine And.intro (by omega) ?_) | (with_reducible refine exP (by omega) ?_) | (with_reducible apply And.intro)))) <;> (congr 2; simp only [szv, wAt]; omega)
theorem w60 (x : Sym) (left : Int) (h0 : 0 ≤ left) (h1 : left ≤ 1048576) (hx : okSy x) : Pure Tryz.prog 60 [Sy x, I left] (· = I (szv left (wSy x))) := by
  obtain ⟨ho, hx⟩ := hx
  simp only [maxLen, size_chars] at ho
  refine gstart mxd i60 rfl (by simp) ?_; simp (maxSteps := 2000000) only [↓ S2, S2, vIte, ↓reduceIte, Int.reduceNe, Nat.reduceEqDiff, reduceCtorEq, Nat.reduceLeDiff, Nat.reduceAdd, Nat.reduceLT]
  ((try with_reducible refine mkQI ?_); (repeat ((first | (with_reducible refine mkQU ?_) | simp only [brGen]); try simp (maxSteps := 2000000) only [↓ S2, S2, vIte, ↓reduceIte, Int.reduceNe, Nat.reduceEqDiff, reduceCtorEq, Nat.reduceLeDiff, Nat.reduceAdd, Nat.reduceLT])); (try simp +contextual (disch := omega) only [Z2]); (repeat' (first | (with_reducible intro h) | (with_reducible refine And.intro (by omega) ?_) | (with_reducible refine exP (by omega) ?_) | (with_reducible apply And.intro))))
  · congr 2; simp only [szv, wSy]; omega
  refine callS.eq (szS mxd wAt i123 (fun _ => rfl) (fun _ => rfl) x.atts _ (by omega) (by omega) fun a hm l c d => w193 a l c d (hx a hm)) ?_
  ((try with_reducible refine mkQI ?_); (repeat ((first | (with_reducible refine mkQU ?_) | simp only [brGen]); try simp (maxSteps := 2000000) only [↓ S2, S2, vIte, ↓reduceIte, Int.reduceNe, Nat.reduceEqDiff, reduceCtorEq, Nat.reduceLeDiff, Nat.reduceAdd, Nat.reduceLT])); (try simp +contextual (disch := omega) only [Z2]); (repeat' (first | (with_reducible intro h) | (with_reducible refine And.intro (by omega) ?_) | (with_reducible refine exP (by omega) ?_) | (with_reducible apply And.intro)))) <;> (congr 2; simp only [szv, wSy] at *; omega)
theorem w194 (x : Eqn) (left : Int) (h0 : 0 ≤ left) (h1 : left ≤ 1048576) (hx : okEq x) : Pure Tryz.prog 194 [Qn x, I left] (· = I (szv left (wEq x))) := by
  have hz := size_chars x.name
  refine gstart mxd i194 rfl (by simp) ?_; simp (maxSteps := 2000000) only [↓ S2, S2, vIte, ↓reduceIte, Int.reduceNe, Nat.reduceEqDiff, reduceCtorEq, Nat.reduceLeDiff, Nat.reduceAdd, Nat.reduceLT]
  refine callS.eq (w243 (x.pos, x.name) _ (by omega) (by omega) hx.1) ?_
  ((try with_reducible refine mkQI ?_); (repeat ((first | (with_reducible refine mkQU ?_) | simp only [brGen]); try simp (maxSteps := 2000000) only [↓ S2, S2, vIte, ↓reduceIte, Int.reduceNe, Nat.reduceEqDiff, reduceCtorEq, Nat.reduceLeDiff, Nat.reduceAdd, Nat.reduceLT, XE])); (try simp +contextual (disch := omega) only [Z2, XE]); (repeat' (first | (with_reducible intro h) | (with_reducible refine And.intro (by omega) ?_) | (with_reducible refine exP (by omega) ?_) | (with_reducible apply And.intro))))
  · congr 2; simp only [szv, wEq, wOcc] at *; omega
  have e := szv_nn h
  rw [szv_pos e]
  simp only [wOcc] at e ⊢
  refine callS.eq (w244 x.expr hx.2 _ (by omega) (by omega)) ?_
  ((try with_reducible refine mkQI ?_); (repeat ((first | (with_reducible refine mkQU ?_) | simp only [brGen]); try simp (maxSteps := 2000000) only [↓ S2, S2, vIte, ↓reduceIte, Int.reduceNe, Nat.reduceEqDiff, reduceCtorEq, Nat.reduceLeDiff, Nat.reduceAdd, Nat.reduceLT])); (try simp +contextual (disch := omega) only [Z2]); (repeat' (first | (with_reducible intro h) | (with_reducible refine And.intro (by omega) ?_) | (with_reducible refine exP (by omega) ?_) | (with_reducible apply And.intro)))) <;> (congr 2; simp only [szv, wEq, wOcc] at *; omega)
theorem w195 (x : Con) (left : Int) (h0 : 0 ≤ left) (h1 : left ≤ 1048576) (hx : okCo x) : Pure Tryz.prog 195 [Co x, I left] (· = I (szv left (wCo x))) := by
  obtain ⟨ho, hp, hg, hv⟩ := hx
  simp only [maxLen, size_chars] at ho hp
  refine gstart mxd i195 rfl (by simp) ?_; simp (maxSteps := 2000000) only [↓ S2, S2, vIte, ↓reduceIte, Int.reduceNe, Nat.reduceEqDiff, reduceCtorEq, Nat.reduceLeDiff, Nat.reduceAdd, Nat.reduceLT]
  ((try with_reducible refine mkQI ?_); (repeat ((first | (with_reducible refine mkQU ?_) | simp only [brGen]); try simp (maxSteps := 2000000) only [↓ S2, S2, vIte, ↓reduceIte, Int.reduceNe, Nat.reduceEqDiff, reduceCtorEq, Nat.reduceLeDiff, Nat.reduceAdd, Nat.reduceLT, XE])); (try simp +contextual (disch := omega) only [Z2, XE]); (repeat' (first | (with_reducible intro h) | (with_reducible refine And.intro (by omega) ?_) | (with_reducible refine exP (by omega) ?_) | (with_reducible apply And.intro))))
  · congr 2; simp only [szv, wCo]; omega
  · congr 2; simp only [szv, wCo]; omega
  refine callS.eq (w244 x.goal hg _ (by omega) (by omega)) ?_
  ((try with_reducible refine mkQI ?_); (repeat ((first | (with_reducible refine mkQU ?_) | simp only [brGen]); try simp (maxSteps := 2000000) only [↓ S2, S2, vIte, ↓reduceIte, Int.reduceNe, Nat.reduceEqDiff, reduceCtorEq, Nat.reduceLeDiff, Nat.reduceAdd, Nat.reduceLT, XE])); (try simp +contextual (disch := omega) only [Z2, XE]); (repeat' (first | (with_reducible intro h) | (with_reducible refine And.intro (by omega) ?_) | (with_reducible refine exP (by omega) ?_) | (with_reducible apply And.intro))))
  · congr 2; simp only [szv, wCo] at *; omega
  have e := szv_nn h
  rw [szv_pos e]
  refine callS.eq (w244 x.value hv _ (by omega) (by omega)) ?_
  ((try with_reducible refine mkQI ?_); (repeat ((first | (with_reducible refine mkQU ?_) | simp only [brGen]); try simp (maxSteps := 2000000) only [↓ S2, S2, vIte, ↓reduceIte, Int.reduceNe, Nat.reduceEqDiff, reduceCtorEq, Nat.reduceLeDiff, Nat.reduceAdd, Nat.reduceLT])); (try simp +contextual (disch := omega) only [Z2]); (repeat' (first | (with_reducible intro h) | (with_reducible refine And.intro (by omega) ?_) | (with_reducible refine exP (by omega) ?_) | (with_reducible apply And.intro)))) <;> (congr 2; simp only [szv, wCo] at *; omega)
theorem w61 (x : Rul) (left : Int) (h0 : 0 ≤ left) (h1 : left ≤ 1048576) (hx : okRu x) : Pure Tryz.prog 61 [Ru x, I left] (· = I (szv left (wRu x))) := by
  obtain ⟨ho, hp, hr, hq, hc⟩ := hx
  simp only [maxLen, size_chars] at ho hp
  refine gstart mxd i61 rfl (by simp) ?_; simp (maxSteps := 2000000) only [↓ S2, S2, vIte, ↓reduceIte, Int.reduceNe, Nat.reduceEqDiff, reduceCtorEq, Nat.reduceLeDiff, Nat.reduceAdd, Nat.reduceLT]
  ((try with_reducible refine mkQI ?_); (repeat ((first | (with_reducible refine mkQU ?_) | simp only [brGen]); try simp (maxSteps := 2000000) only [↓ S2, S2, vIte, ↓reduceIte, Int.reduceNe, Nat.reduceEqDiff, reduceCtorEq, Nat.reduceLeDiff, Nat.reduceAdd, Nat.reduceLT])); (try simp +contextual (disch := omega) only [Z2]); (repeat' (first | (with_reducible intro h) | (with_reducible refine And.intro (by omega) ?_) | (with_reducible refine exP (by omega) ?_) | (with_reducible apply And.intro))))
  · congr 2; simp only [szv, wRu]; omega
  · congr 2; simp only [szv, wRu]; omega
  refine callS.eq (w124 x.right _ (by omega) (by omega) hr) ?_
  ((try with_reducible refine mkQI ?_); (repeat ((first | (with_reducible refine mkQU ?_) | simp only [brGen]); try simp (maxSteps := 2000000) only [↓ S2, S2, vIte, ↓reduceIte, Int.reduceNe, Nat.reduceEqDiff, reduceCtorEq, Nat.reduceLeDiff, Nat.reduceAdd, Nat.reduceLT])); (try simp +contextual (disch := omega) only [Z2]); (repeat' (first | (with_reducible intro h) | (with_reducible refine And.intro (by omega) ?_) | (with_reducible refine exP (by omega) ?_) | (with_reducible apply And.intro))))
  · congr 2; simp only [szv, wRu] at *; omega
  have e := szv_nn h
  rw [szv_pos e]
  refine callS.eq (szS mxd wEq i125 (fun _ => rfl) (fun _ => rfl) x.eqs _ (by omega) (by omega) fun a hm l c d => w194 a l c d (hq a hm)) ?_
  ((try with_reducible refine mkQI ?_); (repeat ((first | (with_reducible refine mkQU ?_) | simp only [brGen]); try simp (maxSteps := 2000000) only [↓ S2, S2, vIte, ↓reduceIte, Int.reduceNe, Nat.reduceEqDiff, reduceCtorEq, Nat.reduceLeDiff, Nat.reduceAdd, Nat.reduceLT])); (try simp +contextual (disch := omega) only [Z2]); (repeat' (first | (with_reducible intro h) | (with_reducible refine And.intro (by omega) ?_) | (with_reducible refine exP (by omega) ?_) | (with_reducible apply And.intro))))
  · congr 2; simp only [szv, wRu] at *; omega
  have e2 := szv_nn h
  rw [szv_pos e2]
  refine callS.eq (szS mxd wCo i126 (fun _ => rfl) (fun _ => rfl) x.cons _ (by omega) (by omega) fun a hm l c d => w195 a l c d (hc a hm)) ?_
  ((try with_reducible refine mkQI ?_); (repeat ((first | (with_reducible refine mkQU ?_) | simp only [brGen]); try simp (maxSteps := 2000000) only [↓ S2, S2, vIte, ↓reduceIte, Int.reduceNe, Nat.reduceEqDiff, reduceCtorEq, Nat.reduceLeDiff, Nat.reduceAdd, Nat.reduceLT])); (try simp +contextual (disch := omega) only [Z2]); (repeat' (first | (with_reducible intro h) | (with_reducible refine And.intro (by omega) ?_) | (with_reducible refine exP (by omega) ?_) | (with_reducible apply And.intro)))) <;> (congr 2; simp only [szv, wRu] at *; omega)
theorem w7 (g : Gram) (left : Int) (h0 : 0 ≤ left) (h1 : left ≤ 1048576) (hx : okGr g) : Pure Tryz.prog 7 [Gr g, I left] (· = I (szv left (wGr g))) := by
  refine gstart mxd i7 rfl (by simp) ?_; simp (maxSteps := 2000000) only [↓ S2, S2, vIte, ↓reduceIte, Int.reduceNe, Nat.reduceEqDiff, reduceCtorEq, Nat.reduceLeDiff, Nat.reduceAdd, Nat.reduceLT]
  refine callS.eq (szS mxd wSy i27 (fun _ => rfl) (fun _ => rfl) g.syms _ (by omega) (by omega) fun a hm l c d => w60 a l c d (hx.1 a hm)) ?_
  ((try with_reducible refine mkQI ?_); (repeat ((first | (with_reducible refine mkQU ?_) | simp only [brGen]); try simp (maxSteps := 2000000) only [↓ S2, S2, vIte, ↓reduceIte, Int.reduceNe, Nat.reduceEqDiff, reduceCtorEq, Nat.reduceLeDiff, Nat.reduceAdd, Nat.reduceLT])); (try simp +contextual (disch := omega) only [Z2]); (repeat' (first | (with_reducible intro h) | (with_reducible refine And.intro (by omega) ?_) | (with_reducible refine exP (by omega) ?_) | (with_reducible apply And.intro))))
  · congr 2; simp only [szv, wGr] at *; omega
  have e := szv_nn h
  rw [szv_pos e]
  refine callS.eq (szS mxd wRu i28 (fun _ => rfl) (fun _ => rfl) g.rules _ (by omega) (by omega) fun a hm l c d => w61 a l c d (hx.2 a hm)) ?_
  ((try with_reducible refine mkQI ?_); (repeat ((first | (with_reducible refine mkQU ?_) | simp only [brGen]); try simp (maxSteps := 2000000) only [↓ S2, S2, vIte, ↓reduceIte, Int.reduceNe, Nat.reduceEqDiff, reduceCtorEq, Nat.reduceLeDiff, Nat.reduceAdd, Nat.reduceLT])); (try simp +contextual (disch := omega) only [Z2]); (repeat' (first | (with_reducible intro h) | (with_reducible refine And.intro (by omega) ?_) | (with_reducible refine exP (by omega) ?_) | (with_reducible apply And.intro)))) <;> (congr 2; simp only [szv, wGr] at *; omega)
theorem w197 (x : Att) : Pure Tryz.prog 197 [At x] (· = At x) := by
  refine gstart mxd i197 rfl (by simp) ?_; simp (maxSteps := 2000000) only [↓ S2, S2, vIte, ↓reduceIte, Int.reduceNe, Nat.reduceEqDiff, reduceCtorEq, Nat.reduceLeDiff, Nat.reduceAdd, Nat.reduceLT]
  ((try with_reducible refine mkQI ?_); (repeat ((first | (with_reducible refine mkQU ?_) | simp only [brGen]); try simp (maxSteps := 2000000) only [↓ S2, S2, vIte, ↓reduceIte, Int.reduceNe, Nat.reduceEqDiff, reduceCtorEq, Nat.reduceLeDiff, Nat.reduceAdd, Nat.reduceLT])); (try simp +contextual (disch := omega) only [Z2]); (repeat' (first | (with_reducible intro h) | (with_reducible refine And.intro (by omega) ?_) | (with_reducible refine exP (by omega) ?_) | (with_reducible apply And.intro))))
theorem w131 (xs : List Att) (hl : xs.length ≤ 1048576) : Pure Tryz.prog 131 [AtS xs] (· = AtS xs) :=
  freezeS (fun _ => rfl) fun H => toSo mxd i131 (fun _ => rfl) (fun _ => rfl) (fun _ => rfl) (fun _ => rfl) xs hl (by decide) (fun x hm => w197 x) H
theorem w67 (x : Sym) (hx : smSy x) : Pure Tryz.prog 67 [Sy x] (· = Sy x) := by
  refine gstart mxd i67 rfl (by simp) ?_; simp (maxSteps := 2000000) only [↓ S2, S2, vIte, ↓reduceIte, Int.reduceNe, Nat.reduceEqDiff, reduceCtorEq, Nat.reduceLeDiff, Nat.reduceAdd, Nat.reduceLT]
  intro r hr
  refine callS.eq (w131 _ hx) ?_
  ((try with_reducible refine mkQI ?_); (repeat ((first | (with_reducible refine mkQU ?_) | simp only [brGen]); try simp (maxSteps := 2000000) only [↓ S2, S2, vIte, ↓reduceIte, Int.reduceNe, Nat.reduceEqDiff, reduceCtorEq, Nat.reduceLeDiff, Nat.reduceAdd, Nat.reduceLT])); (try simp +contextual (disch := omega) only [Z2]); (repeat' (first | (with_reducible intro h) | (with_reducible refine And.intro (by omega) ?_) | (with_reducible refine exP (by omega) ?_) | (with_reducible apply And.intro))))
theorem w198 (x : Eqn) (hx : smEq x) : Pure Tryz.prog 198 [Qn x] (· = Qn x) := by
  refine gstart mxd i198 rfl (by simp) ?_; simp (maxSteps := 2000000) only [↓ S2, S2, vIte, ↓reduceIte, Int.reduceNe, Nat.reduceEqDiff, reduceCtorEq, Nat.reduceLeDiff, Nat.reduceAdd, Nat.reduceLT]
  intro r hr
  refine callS.eq (w246 (x.pos, x.name)) ?_
  simp (maxSteps := 2000000) only [↓ S2, S2, vIte, ↓reduceIte, Int.reduceNe, Nat.reduceEqDiff, reduceCtorEq, Nat.reduceLeDiff, Nat.reduceAdd, Nat.reduceLT, XE]
  refine callS.eq (w247 x.expr hx) ?_
  ((try with_reducible refine mkQI ?_); (repeat ((first | (with_reducible refine mkQU ?_) | simp only [brGen]); try simp (maxSteps := 2000000) only [↓ S2, S2, vIte, ↓reduceIte, Int.reduceNe, Nat.reduceEqDiff, reduceCtorEq, Nat.reduceLeDiff, Nat.reduceAdd, Nat.reduceLT, XE])); (try simp +contextual (disch := omega) only [Z2, XE]); (repeat' (first | (with_reducible intro h) | (with_reducible refine And.intro (by omega) ?_) | (with_reducible refine exP (by omega) ?_) | (with_reducible apply And.intro))))
theorem w199 (x : Con) (hx : smCo x) : Pure Tryz.prog 199 [Co x] (· = Co x) := by
  refine gstart mxd i199 rfl (by simp) ?_; simp (maxSteps := 2000000) only [↓ S2, S2, vIte, ↓reduceIte, Int.reduceNe, Nat.reduceEqDiff, reduceCtorEq, Nat.reduceLeDiff, Nat.reduceAdd, Nat.reduceLT]
  intro r hr
  try simp (maxSteps := 2000000) only [↓ S2, S2, vIte, ↓reduceIte, Int.reduceNe, Nat.reduceEqDiff, reduceCtorEq, Nat.reduceLeDiff, Nat.reduceAdd, Nat.reduceLT, XE]
  refine callS.eq (w247 x.goal hx.1) ?_
  simp (maxSteps := 2000000) only [↓ S2, S2, vIte, ↓reduceIte, Int.reduceNe, Nat.reduceEqDiff, reduceCtorEq, Nat.reduceLeDiff, Nat.reduceAdd, Nat.reduceLT, XE]
  refine callS.eq (w247 x.value hx.2) ?_
  ((try with_reducible refine mkQI ?_); (repeat ((first | (with_reducible refine mkQU ?_) | simp only [brGen]); try simp (maxSteps := 2000000) only [↓ S2, S2, vIte, ↓reduceIte, Int.reduceNe, Nat.reduceEqDiff, reduceCtorEq, Nat.reduceLeDiff, Nat.reduceAdd, Nat.reduceLT, XE])); (try simp +contextual (disch := omega) only [Z2, XE]); (repeat' (first | (with_reducible intro h) | (with_reducible refine And.intro (by omega) ?_) | (with_reducible refine exP (by omega) ?_) | (with_reducible apply And.intro))))
theorem w68 (x : Rul) (hx : smRu x) : Pure Tryz.prog 68 [Ru x] (· = Ru x) := by
  obtain ⟨h1, h2, h3, h4, h5⟩ := hx
  refine gstart mxd i68 rfl (by simp) ?_; simp (maxSteps := 2000000) only [↓ S2, S2, vIte, ↓reduceIte, Int.reduceNe, Nat.reduceEqDiff, reduceCtorEq, Nat.reduceLeDiff, Nat.reduceAdd, Nat.reduceLT]
  intro r hr
  refine callS.eq (w132 _ h1) ?_
  simp (maxSteps := 2000000) only [↓ S2, S2, vIte, ↓reduceIte, Int.reduceNe, Nat.reduceEqDiff, reduceCtorEq, Nat.reduceLeDiff, Nat.reduceAdd, Nat.reduceLT]
  refine callS.eq (freezeS (fun _ => rfl) fun H => toSo mxd i133 (fun _ => rfl) (fun _ => rfl) (fun _ => rfl) (fun _ => rfl) x.eqs h2 (by decide) (fun x hm => w198 x (h4 x hm)) H) ?_
  simp (maxSteps := 2000000) only [↓ S2, S2, vIte, ↓reduceIte, Int.reduceNe, Nat.reduceEqDiff, reduceCtorEq, Nat.reduceLeDiff, Nat.reduceAdd, Nat.reduceLT]
  refine callS.eq (freezeS (fun _ => rfl) fun H => toSo mxd i134 (fun _ => rfl) (fun _ => rfl) (fun _ => rfl) (fun _ => rfl) x.cons h3 (by decide) (fun x hm => w199 x (h5 x hm)) H) ?_
  ((try with_reducible refine mkQI ?_); (repeat ((first | (with_reducible refine mkQU ?_) | simp only [brGen]); try simp (maxSteps := 2000000) only [↓ S2, S2, vIte, ↓reduceIte, Int.reduceNe, Nat.reduceEqDiff, reduceCtorEq, Nat.reduceLeDiff, Nat.reduceAdd, Nat.reduceLT])); (try simp +contextual (disch := omega) only [Z2]); (repeat' (first | (with_reducible intro h) | (with_reducible refine And.intro (by omega) ?_) | (with_reducible refine exP (by omega) ?_) | (with_reducible apply And.intro))))
theorem w10 (g : Gram) (hx : smGr g) : Pure Tryz.prog 10 [Gr g] (· = Gr g) := by
  obtain ⟨h1, h2, h3, h4⟩ := hx
  refine gstart mxd i10 rfl (by simp) ?_; simp (maxSteps := 2000000) only [↓ S2, S2, vIte, ↓reduceIte, Int.reduceNe, Nat.reduceEqDiff, reduceCtorEq, Nat.reduceLeDiff, Nat.reduceAdd, Nat.reduceLT]
  intro r hr
  refine callS.eq (freezeS (fun _ => rfl) fun H => toSo mxd i32 (fun _ => rfl) (fun _ => rfl) (fun _ => rfl) (fun _ => rfl) g.syms h1 (by decide) (fun x hm => w67 x (h3 x hm)) H) ?_
  simp (maxSteps := 2000000) only [↓ S2, S2, vIte, ↓reduceIte, Int.reduceNe, Nat.reduceEqDiff, reduceCtorEq, Nat.reduceLeDiff, Nat.reduceAdd, Nat.reduceLT]
  refine callS.eq (freezeS (fun _ => rfl) fun H => toSo mxd i33 (fun _ => rfl) (fun _ => rfl) (fun _ => rfl) (fun _ => rfl) g.rules h2 (by decide) (fun x hm => w68 x (h4 x hm)) H) ?_
  ((try with_reducible refine mkQI ?_); (repeat ((first | (with_reducible refine mkQU ?_) | simp only [brGen]); try simp (maxSteps := 2000000) only [↓ S2, S2, vIte, ↓reduceIte, Int.reduceNe, Nat.reduceEqDiff, reduceCtorEq, Nat.reduceLeDiff, Nat.reduceAdd, Nat.reduceLT])); (try simp +contextual (disch := omega) only [Z2]); (repeat' (first | (with_reducible intro h) | (with_reducible refine And.intro (by omega) ?_) | (with_reducible refine exP (by omega) ?_) | (with_reducible apply And.intro))))
theorem w210 (x y : Att) : Pure Tryz.prog 210 [At x, At y] (· = B (decide (x = y))) := by
  refine gstart mxd i210 rfl (by simp) ?_; simp (maxSteps := 2000000) only [↓ S2, S2, vIte, ↓reduceIte, Int.reduceNe, Nat.reduceEqDiff, reduceCtorEq, Nat.reduceLeDiff, Nat.reduceAdd, Nat.reduceLT]
  ((try with_reducible refine mkQI ?_); (repeat ((first | (with_reducible refine mkQU ?_) | simp only [brGen]); try simp (maxSteps := 2000000) only [↓ S2, S2, vIte, ↓reduceIte, Int.reduceNe, Nat.reduceEqDiff, reduceCtorEq, Nat.reduceLeDiff, Nat.reduceAdd, Nat.reduceLT])); (try simp +contextual (disch := omega) only [Z2]); (repeat' (first | (with_reducible intro h) | (with_reducible refine And.intro (by omega) ?_) | (with_reducible refine exP (by omega) ?_) | (with_reducible apply And.intro)))) <;> simp_all [Att.ext_iff]
theorem w77 (x y : Sym) : Pure Tryz.prog 77 [Sy x, Sy y] (· = B (decide (x = y))) := by
  refine gstart mxd i77 rfl (by simp) ?_; simp (maxSteps := 2000000) only [↓ S2, S2, vIte, ↓reduceIte, Int.reduceNe, Nat.reduceEqDiff, reduceCtorEq, Nat.reduceLeDiff, Nat.reduceAdd, Nat.reduceLT]
  ((try with_reducible refine mkQI ?_); (repeat ((first | (with_reducible refine mkQU ?_) | simp only [brGen]); try simp (maxSteps := 2000000) only [↓ S2, S2, vIte, ↓reduceIte, Int.reduceNe, Nat.reduceEqDiff, reduceCtorEq, Nat.reduceLeDiff, Nat.reduceAdd, Nat.reduceLT])); (try simp +contextual (disch := omega) only [Z2]); (repeat' (first | (with_reducible intro h) | (with_reducible refine And.intro (by omega) ?_) | (with_reducible refine exP (by omega) ?_) | (with_reducible apply And.intro))))
  rotate_left
  · simp_all [Sym.ext_iff]
  refine callS.eq (eqS mxd i142 (fun _ => rfl) (fun _ => rfl) x.atts y.atts fun a _ b _ => w210 a b) ?_
  ((try with_reducible refine mkQI ?_); (repeat ((first | (with_reducible refine mkQU ?_) | simp only [brGen]); try simp (maxSteps := 2000000) only [↓ S2, S2, vIte, ↓reduceIte, Int.reduceNe, Nat.reduceEqDiff, reduceCtorEq, Nat.reduceLeDiff, Nat.reduceAdd, Nat.reduceLT])); (try simp +contextual (disch := omega) only [Z2]); (repeat' (first | (with_reducible intro h) | (with_reducible refine And.intro (by omega) ?_) | (with_reducible refine exP (by omega) ?_) | (with_reducible apply And.intro)))) <;> simp_all [Sym.ext_iff]
theorem w211 (x y : Eqn) : Pure Tryz.prog 211 [Qn x, Qn y] (· = B (decide (x = y))) := by
  refine gstart mxd i211 rfl (by simp) ?_; simp (maxSteps := 2000000) only [↓ S2, S2, vIte, ↓reduceIte, Int.reduceNe, Nat.reduceEqDiff, reduceCtorEq, Nat.reduceLeDiff, Nat.reduceAdd, Nat.reduceLT]
  refine callS.eq (w259 (x.pos, x.name) (y.pos, y.name)) ?_
  ((try with_reducible refine mkQI ?_); (repeat ((first | (with_reducible refine mkQU ?_) | simp only [brGen]); try simp (maxSteps := 2000000) only [↓ S2, S2, vIte, ↓reduceIte, Int.reduceNe, Nat.reduceEqDiff, reduceCtorEq, Nat.reduceLeDiff, Nat.reduceAdd, Nat.reduceLT, XE])); (try simp +contextual (disch := omega) only [Z2, XE]); (repeat' (first | (with_reducible intro h) | (with_reducible refine And.intro (by omega) ?_) | (with_reducible refine exP (by omega) ?_) | (with_reducible apply And.intro))))
  rotate_left
  · simp_all [Eqn.ext_iff, Prod.ext_iff]
  refine callS.eq (w260 x.expr y.expr) ?_
  ((try with_reducible refine mkQI ?_); (repeat ((first | (with_reducible refine mkQU ?_) | simp only [brGen]); try simp (maxSteps := 2000000) only [↓ S2, S2, vIte, ↓reduceIte, Int.reduceNe, Nat.reduceEqDiff, reduceCtorEq, Nat.reduceLeDiff, Nat.reduceAdd, Nat.reduceLT])); (try simp +contextual (disch := omega) only [Z2]); (repeat' (first | (with_reducible intro h) | (with_reducible refine And.intro (by omega) ?_) | (with_reducible refine exP (by omega) ?_) | (with_reducible apply And.intro)))) <;> simp_all [Eqn.ext_iff, Prod.ext_iff]
theorem w212 (x y : Con) : Pure Tryz.prog 212 [Co x, Co y] (· = B (decide (x = y))) := by
  refine gstart mxd i212 rfl (by simp) ?_; simp (maxSteps := 2000000) only [↓ S2, S2, vIte, ↓reduceIte, Int.reduceNe, Nat.reduceEqDiff, reduceCtorEq, Nat.reduceLeDiff, Nat.reduceAdd, Nat.reduceLT]
  ((try with_reducible refine mkQI ?_); (repeat ((first | (with_reducible refine mkQU ?_) | simp only [brGen]); try simp (maxSteps := 2000000) only [↓ S2, S2, vIte, ↓reduceIte, Int.reduceNe, Nat.reduceEqDiff, reduceCtorEq, Nat.reduceLeDiff, Nat.reduceAdd, Nat.reduceLT, XE])); (try simp +contextual (disch := omega) only [Z2, XE]); (repeat' (first | (with_reducible intro h) | (with_reducible refine And.intro (by omega) ?_) | (with_reducible refine exP (by omega) ?_) | (with_reducible apply And.intro))))
  all_goals first
    | (simp [Con.ext_iff, *]; done)
    | skip
  refine callS.eq (w260 x.goal y.goal) ?_
  ((try with_reducible refine mkQI ?_); (repeat ((first | (with_reducible refine mkQU ?_) | simp only [brGen]); try simp (maxSteps := 2000000) only [↓ S2, S2, vIte, ↓reduceIte, Int.reduceNe, Nat.reduceEqDiff, reduceCtorEq, Nat.reduceLeDiff, Nat.reduceAdd, Nat.reduceLT, XE])); (try simp +contextual (disch := omega) only [Z2, XE]); (repeat' (first | (with_reducible intro h) | (with_reducible refine And.intro (by omega) ?_) | (with_reducible refine exP (by omega) ?_) | (with_reducible apply And.intro))))
  rotate_left
  · simp_all [Con.ext_iff]
  refine callS.eq (w260 x.value y.value) ?_
  ((try with_reducible refine mkQI ?_); (repeat ((first | (with_reducible refine mkQU ?_) | simp only [brGen]); try simp (maxSteps := 2000000) only [↓ S2, S2, vIte, ↓reduceIte, Int.reduceNe, Nat.reduceEqDiff, reduceCtorEq, Nat.reduceLeDiff, Nat.reduceAdd, Nat.reduceLT])); (try simp +contextual (disch := omega) only [Z2]); (repeat' (first | (with_reducible intro h) | (with_reducible refine And.intro (by omega) ?_) | (with_reducible refine exP (by omega) ?_) | (with_reducible apply And.intro)))) <;> simp_all [Con.ext_iff]
theorem w78 (x y : Rul) : Pure Tryz.prog 78 [Ru x, Ru y] (· = B (decide (x = y))) := by
  refine gstart mxd i78 rfl (by simp) ?_; simp (maxSteps := 2000000) only [↓ S2, S2, vIte, ↓reduceIte, Int.reduceNe, Nat.reduceEqDiff, reduceCtorEq, Nat.reduceLeDiff, Nat.reduceAdd, Nat.reduceLT]
  ((try with_reducible refine mkQI ?_); (repeat ((first | (with_reducible refine mkQU ?_) | simp only [brGen]); try simp (maxSteps := 2000000) only [↓ S2, S2, vIte, ↓reduceIte, Int.reduceNe, Nat.reduceEqDiff, reduceCtorEq, Nat.reduceLeDiff, Nat.reduceAdd, Nat.reduceLT])); (try simp +contextual (disch := omega) only [Z2]); (repeat' (first | (with_reducible intro h) | (with_reducible refine And.intro (by omega) ?_) | (with_reducible refine exP (by omega) ?_) | (with_reducible apply And.intro))))
  all_goals first
    | (simp [Rul.ext_iff, *]; done)
    | skip
  refine callS.eq (w143 x.right y.right) ?_
  ((try with_reducible refine mkQI ?_); (repeat ((first | (with_reducible refine mkQU ?_) | simp only [brGen]); try simp (maxSteps := 2000000) only [↓ S2, S2, vIte, ↓reduceIte, Int.reduceNe, Nat.reduceEqDiff, reduceCtorEq, Nat.reduceLeDiff, Nat.reduceAdd, Nat.reduceLT])); (try simp +contextual (disch := omega) only [Z2]); (repeat' (first | (with_reducible intro h) | (with_reducible refine And.intro (by omega) ?_) | (with_reducible refine exP (by omega) ?_) | (with_reducible apply And.intro))))
  all_goals first
    | (simp [Rul.ext_iff, *]; done)
    | (simp_all [Rul.ext_iff]; done)
    | skip
  refine callS.eq (eqS mxd i144 (fun _ => rfl) (fun _ => rfl) x.eqs y.eqs fun a _ b _ => w211 a b) ?_
  ((try with_reducible refine mkQI ?_); (repeat ((first | (with_reducible refine mkQU ?_) | simp only [brGen]); try simp (maxSteps := 2000000) only [↓ S2, S2, vIte, ↓reduceIte, Int.reduceNe, Nat.reduceEqDiff, reduceCtorEq, Nat.reduceLeDiff, Nat.reduceAdd, Nat.reduceLT])); (try simp +contextual (disch := omega) only [Z2]); (repeat' (first | (with_reducible intro h) | (with_reducible refine And.intro (by omega) ?_) | (with_reducible refine exP (by omega) ?_) | (with_reducible apply And.intro))))
  rotate_left
  · simp_all [Rul.ext_iff]
  refine callS.eq (eqS mxd i145 (fun _ => rfl) (fun _ => rfl) x.cons y.cons fun a _ b _ => w212 a b) ?_
  ((try with_reducible refine mkQI ?_); (repeat ((first | (with_reducible refine mkQU ?_) | simp only [brGen]); try simp (maxSteps := 2000000) only [↓ S2, S2, vIte, ↓reduceIte, Int.reduceNe, Nat.reduceEqDiff, reduceCtorEq, Nat.reduceLeDiff, Nat.reduceAdd, Nat.reduceLT])); (try simp +contextual (disch := omega) only [Z2]); (repeat' (first | (with_reducible intro h) | (with_reducible refine And.intro (by omega) ?_) | (with_reducible refine exP (by omega) ?_) | (with_reducible apply And.intro)))) <;> simp_all [Rul.ext_iff]
theorem w14 (x y : Gram) : Pure Tryz.prog 14 [Gr x, Gr y] (· = B (decide (x = y))) := by
  refine gstart mxd i14 rfl (by simp) ?_; simp (maxSteps := 2000000) only [↓ S2, S2, vIte, ↓reduceIte, Int.reduceNe, Nat.reduceEqDiff, reduceCtorEq, Nat.reduceLeDiff, Nat.reduceAdd, Nat.reduceLT]
  refine callS.eq (eqS mxd i38 (fun _ => rfl) (fun _ => rfl) x.syms y.syms fun a _ b _ => w77 a b) ?_
  ((try with_reducible refine mkQI ?_); (repeat ((first | (with_reducible refine mkQU ?_) | simp only [brGen]); try simp (maxSteps := 2000000) only [↓ S2, S2, vIte, ↓reduceIte, Int.reduceNe, Nat.reduceEqDiff, reduceCtorEq, Nat.reduceLeDiff, Nat.reduceAdd, Nat.reduceLT])); (try simp +contextual (disch := omega) only [Z2]); (repeat' (first | (with_reducible intro h) | (with_reducible refine And.intro (by omega) ?_) | (with_reducible refine exP (by omega) ?_) | (with_reducible apply And.intro))))
  rotate_left
  · simp_all [Gram.ext_iff]
  refine callS.eq (eqS mxd i39 (fun _ => rfl) (fun _ => rfl) x.rules y.rules fun a _ b _ => w78 a b) ?_
  ((try with_reducible refine mkQI ?_); (repeat ((first | (with_reducible refine mkQU ?_) | simp only [brGen]); try simp (maxSteps := 2000000) only [↓ S2, S2, vIte, ↓reduceIte, Int.reduceNe, Nat.reduceEqDiff, reduceCtorEq, Nat.reduceLeDiff, Nat.reduceAdd, Nat.reduceLT])); (try simp +contextual (disch := omega) only [Z2]); (repeat' (first | (with_reducible intro h) | (with_reducible refine And.intro (by omega) ?_) | (with_reducible refine exP (by omega) ?_) | (with_reducible apply And.intro)))) <;> simp_all [Gram.ext_iff]
end Go.Proofs.YtbdmpkidcpblaaaGreat

namespace Go.Proofs.YtbdmpkidcpblaaaGreat
open Go.Gh
set_option maxRecDepth 20000
set_option linter.unusedSimpArgs false
set_option linter.unusedVariables false
theorem w201 (t : List Nod) (i : Int) : Pure Tryz.prog 201 [Tr t, I i] (· = B (decide (0 ≤ i ∧ i < t.length))) := by
  refine GCalls.lenA fun hl => ?_
  obtain ⟨hlen, _⟩ := lenTr hl.1
  refine gstart mxd i201 rfl (by simp) ?_; simp (maxSteps := 2000000) only [↓ S2, S2, vIte, ↓reduceIte, Int.reduceNe, Nat.reduceEqDiff, reduceCtorEq, Nat.reduceLeDiff, Nat.reduceAdd, Nat.reduceLT]
  refine callS.eq (w73 _ _ _) ?_
  ((try with_reducible refine mkQI ?_); (repeat ((first | (with_reducible refine mkQU ?_) | simp only [brGen]); try simp (maxSteps := 2000000) only [↓ S2, S2, vIte, ↓reduceIte, Int.reduceNe, Nat.reduceEqDiff, reduceCtorEq, Nat.reduceLeDiff, Nat.reduceAdd, Nat.reduceLT])); (try simp +contextual (disch := omega) only [Z2]); (repeat' (first | (with_reducible intro h) | (with_reducible refine And.intro (by omega) ?_) | (with_reducible refine exP (by omega) ?_) | (with_reducible apply And.intro))))
  exact bEq (by omega)
theorem w66 (x y : Int) : Pure Tryz.prog 66 [I x, I y] (· = I (max x y)) := by
  refine gstart mxd i66 rfl (by simp) ?_; simp (maxSteps := 2000000) only [↓ S2, S2, vIte, ↓reduceIte, Int.reduceNe, Nat.reduceEqDiff, reduceCtorEq, Nat.reduceLeDiff, Nat.reduceAdd, Nat.reduceLT]
  ((try with_reducible refine mkQI ?_); (repeat ((first | (with_reducible refine mkQU ?_) | simp only [brGen]); try simp (maxSteps := 2000000) only [↓ S2, S2, vIte, ↓reduceIte, Int.reduceNe, Nat.reduceEqDiff, reduceCtorEq, Nat.reduceLeDiff, Nat.reduceAdd, Nat.reduceLT])); (try simp +contextual (disch := omega) only [Z2]); (repeat' (first | (with_reducible intro h) | (with_reducible refine And.intro (by omega) ?_) | (with_reducible refine exP (by omega) ?_) | (with_reducible apply And.intro)))) <;> simp <;> omega
end Go.Proofs.YtbdmpkidcpblaaaGreat

namespace Go.Proofs.YtbdmpkidcpblaaaGreat
open Go.Gh
set_option maxRecDepth 20000
set_option linter.unusedSimpArgs false
set_option linter.unusedVariables false
theorem w274 (b : Bool) : Pure Tryz.prog 274 [B b] (· = I (trV b)) := by
  refine gstart mxd i274 rfl (by simp) ?_; simp (maxSteps := 2000000) only [↓ S2, S2, vIte, ↓reduceIte, Int.reduceNe, Nat.reduceEqDiff, reduceCtorEq, Nat.reduceLeDiff, Nat.reduceAdd, Nat.reduceLT]
  ((try with_reducible refine mkQI ?_); (repeat ((first | (with_reducible refine mkQU ?_) | simp only [brGen]); try simp (maxSteps := 2000000) only [↓ S2, S2, vIte, ↓reduceIte, Int.reduceNe, Nat.reduceEqDiff, reduceCtorEq, Nat.reduceLeDiff, Nat.reduceAdd, Nat.reduceLT])); (try simp +contextual (disch := omega) only [Z2]); (repeat' (first | (with_reducible intro h) | (with_reducible refine And.intro (by omega) ?_) | (with_reducible refine exP (by omega) ?_) | (with_reducible apply And.intro)))) <;> simp_all [trV]
theorem w273 (a b : Int) : Pure Tryz.prog 273 [I a, I b] (· = I (min a b)) := by
  refine gstart mxd i273 rfl (by simp) ?_; simp (maxSteps := 2000000) only [↓ S2, S2, vIte, ↓reduceIte, Int.reduceNe, Nat.reduceEqDiff, reduceCtorEq, Nat.reduceLeDiff, Nat.reduceAdd, Nat.reduceLT]
  ((try with_reducible refine mkQI ?_); (repeat ((first | (with_reducible refine mkQU ?_) | simp only [brGen]); try simp (maxSteps := 2000000) only [↓ S2, S2, vIte, ↓reduceIte, Int.reduceNe, Nat.reduceEqDiff, reduceCtorEq, Nat.reduceLeDiff, Nat.reduceAdd, Nat.reduceLT])); (try simp +contextual (disch := omega) only [Z2]); (repeat' (first | (with_reducible intro h) | (with_reducible refine And.intro (by omega) ?_) | (with_reducible refine exP (by omega) ?_) | (with_reducible apply And.intro)))) <;> (congr 2; omega)
theorem w272 (n : Int) : Pure Tryz.prog 272 [I n] (· = I (satV n)) := by
  refine gstart mxd i272 rfl (by simp) ?_; simp (maxSteps := 2000000) only [↓ S2, S2, vIte, ↓reduceIte, Int.reduceNe, Nat.reduceEqDiff, reduceCtorEq, Nat.reduceLeDiff, Nat.reduceAdd, Nat.reduceLT]
  refine callS.eq (w273 _ _) ?_
  ((try with_reducible refine mkQI ?_); (repeat ((first | (with_reducible refine mkQU ?_) | simp only [brGen]); try simp (maxSteps := 2000000) only [↓ S2, S2, vIte, ↓reduceIte, Int.reduceNe, Nat.reduceEqDiff, reduceCtorEq, Nat.reduceLeDiff, Nat.reduceAdd, Nat.reduceLT])); (try simp +contextual (disch := omega) only [Z2]); (repeat' (first | (with_reducible intro h) | (with_reducible refine And.intro (by omega) ?_) | (with_reducible refine exP (by omega) ?_) | (with_reducible apply And.intro))))
  refine callS.eq (w66 _ _) ?_
  ((try with_reducible refine mkQI ?_); (repeat ((first | (with_reducible refine mkQU ?_) | simp only [brGen]); try simp (maxSteps := 2000000) only [↓ S2, S2, vIte, ↓reduceIte, Int.reduceNe, Nat.reduceEqDiff, reduceCtorEq, Nat.reduceLeDiff, Nat.reduceAdd, Nat.reduceLT])); (try simp +contextual (disch := omega) only [Z2]); (repeat' (first | (with_reducible intro h) | (with_reducible refine And.intro (by omega) ?_) | (with_reducible refine exP (by omega) ?_) | (with_reducible apply And.intro)))) <;> rfl
theorem w270 (v k : Int) : Pure Tryz.prog 270 [I v, I k] (· = I (coV v k)) := by
  refine gstart mxd i270 rfl (by simp) ?_; simp (maxSteps := 2000000) only [↓ S2, S2, vIte, ↓reduceIte, Int.reduceNe, Nat.reduceEqDiff, reduceCtorEq, Nat.reduceLeDiff, Nat.reduceAdd, Nat.reduceLT]
  ((try with_reducible refine mkQI ?_); (repeat ((first | (with_reducible refine mkQU ?_) | simp only [brGen]); try simp (maxSteps := 2000000) only [↓ S2, S2, vIte, ↓reduceIte, Int.reduceNe, Nat.reduceEqDiff, reduceCtorEq, Nat.reduceLeDiff, Nat.reduceAdd, Nat.reduceLT])); (try simp +contextual (disch := omega) only [Z2]); (repeat' (first | (with_reducible intro h) | (with_reducible refine And.intro (by omega) ?_) | (with_reducible refine exP (by omega) ?_) | (with_reducible apply And.intro))))
  · refine callS.eq (w272 _) ?_
    ((try with_reducible refine mkQI ?_); (repeat ((first | (with_reducible refine mkQU ?_) | simp only [brGen]); try simp (maxSteps := 2000000) only [↓ S2, S2, vIte, ↓reduceIte, Int.reduceNe, Nat.reduceEqDiff, reduceCtorEq, Nat.reduceLeDiff, Nat.reduceAdd, Nat.reduceLT])); (try simp +contextual (disch := omega) only [Z2]); (repeat' (first | (with_reducible intro h) | (with_reducible refine And.intro (by omega) ?_) | (with_reducible refine exP (by omega) ?_) | (with_reducible apply And.intro)))) <;> simp_all [coV]
  · simp_all [coV]
  · refine callS.eq (w274 _) ?_
    ((try with_reducible refine mkQI ?_); (repeat ((first | (with_reducible refine mkQU ?_) | simp only [brGen]); try simp (maxSteps := 2000000) only [↓ S2, S2, vIte, ↓reduceIte, Int.reduceNe, Nat.reduceEqDiff, reduceCtorEq, Nat.reduceLeDiff, Nat.reduceAdd, Nat.reduceLT])); (try simp +contextual (disch := omega) only [Z2]); (repeat' (first | (with_reducible intro h) | (with_reducible refine And.intro (by omega) ?_) | (with_reducible refine exP (by omega) ?_) | (with_reducible apply And.intro)))) <;> simp_all [coV]
  · refine callS.eq (w85 _ _ _) ?_
    ((try with_reducible refine mkQI ?_); (repeat ((first | (with_reducible refine mkQU ?_) | simp only [brGen]); try simp (maxSteps := 2000000) only [↓ S2, S2, vIte, ↓reduceIte, Int.reduceNe, Nat.reduceEqDiff, reduceCtorEq, Nat.reduceLeDiff, Nat.reduceAdd, Nat.reduceLT])); (try simp +contextual (disch := omega) only [Z2]); (repeat' (first | (with_reducible intro h) | (with_reducible refine And.intro (by omega) ?_) | (with_reducible refine exP (by omega) ?_) | (with_reducible apply And.intro)))) <;> simp_all [coV] <;> (intros; omega)
  · simp_all [coV]
theorem w230 (v k : Int) : Pure Tryz.prog 230 [I v, I k] (· = B (okV v k)) := by
  refine gstart mxd i230 rfl (by simp) ?_; simp (maxSteps := 2000000) only [↓ S2, S2, vIte, ↓reduceIte, Int.reduceNe, Nat.reduceEqDiff, reduceCtorEq, Nat.reduceLeDiff, Nat.reduceAdd, Nat.reduceLT]
  refine callS.eq (w85 _ _ _) ?_
  ((try with_reducible refine mkQI ?_); (repeat ((first | (with_reducible refine mkQU ?_) | simp only [brGen]); try simp (maxSteps := 2000000) only [↓ S2, S2, vIte, ↓reduceIte, Int.reduceNe, Nat.reduceEqDiff, reduceCtorEq, Nat.reduceLeDiff, Nat.reduceAdd, Nat.reduceLT])); (try simp +contextual (disch := omega) only [Z2]); (repeat' (first | (with_reducible intro h) | (with_reducible refine And.intro (by omega) ?_) | (with_reducible refine exP (by omega) ?_) | (with_reducible apply And.intro))))
  · refine callS.eq (w270 _ _) ?_
    ((try with_reducible refine mkQI ?_); (repeat ((first | (with_reducible refine mkQU ?_) | simp only [brGen]); try simp (maxSteps := 2000000) only [↓ S2, S2, vIte, ↓reduceIte, Int.reduceNe, Nat.reduceEqDiff, reduceCtorEq, Nat.reduceLeDiff, Nat.reduceAdd, Nat.reduceLT])); (try simp +contextual (disch := omega) only [Z2]); (repeat' (first | (with_reducible intro h) | (with_reducible refine And.intro (by omega) ?_) | (with_reducible refine exP (by omega) ?_) | (with_reducible apply And.intro)))) <;> simp_all [okV]
  · simp_all [okV] <;> (intros; omega)
end Go.Proofs.YtbdmpkidcpblaaaGreat

namespace Go.Proofs.YtbdmpkidcpblaaaGreat
open Go.Gh
set_option maxRecDepth 20000
set_option linter.unusedSimpArgs false
set_option linter.unusedVariables false
theorem w156 (x : Sym) (hx : smSy x) : Pure Tryz.prog 156 [Sy x] (· = Sy x) := by
  unfold smSy at hx
  refine Pure.bor ?_
  refine gstart mxd i156 rfl (by simp) ?_; simp (maxSteps := 2000000) only [↓ S2, S2, vIte, ↓reduceIte, Int.reduceNe, Nat.reduceEqDiff, reduceCtorEq, Nat.reduceLeDiff, Nat.reduceAdd, Nat.reduceLT]
  ((try with_reducible refine mkQI ?_); (repeat ((first | (with_reducible refine mkQU ?_) | simp only [brGen]); try simp (maxSteps := 2000000) only [↓ S2, S2, vIte, ↓reduceIte, Int.reduceNe, Nat.reduceEqDiff, reduceCtorEq, Nat.reduceLeDiff, Nat.reduceAdd, Nat.reduceLT])); (try simp +contextual (disch := omega) only [Z2]); (repeat' (first | (with_reducible intro h) | (with_reducible refine And.intro (by omega) ?_) | (with_reducible refine exP (by omega) ?_) | (with_reducible apply And.intro))))
  exact .agg (.cons .refl (.cons (Bor.allM (fun _ => rfl) hget_new rfl) .nil))
theorem w91 (g : Gram) (s : ByteArray) (hg : smGr g) : Pure Tryz.prog 91 [Gr g, T s] (· = .tup [Sy (fSym g.syms s), B (hSym g.syms s)]) := by
  refine Pure.bor ?_
  have hlen := hg.1
  refine gstart mxd i91 rfl (by simp) ?_; simp (maxSteps := 2000000) only [↓ S2, S2, vIte, ↓reduceIte, Int.reduceNe, Nat.reduceEqDiff, reduceCtorEq, Nat.reduceLeDiff, Nat.reduceAdd, Nat.reduceLT]
  refine wloop mxd (ι := { i : Nat // i ≤ g.syms.length ∧ ∀ y ∈ g.syms.take i, decide (y.name = s) = false }) (fun i => [(1, T s), (2, .rop 2 (Gr g)), (4, .raw 2), (6, I i.1)]) (fun _ => []) (fun i => g.syms.length - i.1) ⟨0, by simp⟩ (by simp [E2]) rfl ?_
  rintro ⟨i, hi, hn⟩
  ((try with_reducible refine mkQI ?_); (repeat ((first | (with_reducible refine mkQU ?_) | simp only [brGen]); try simp (maxSteps := 2000000) only [↓ S2, S2, vIte, ↓reduceIte, Int.reduceNe, Nat.reduceEqDiff, reduceCtorEq, Nat.reduceLeDiff, Nat.reduceAdd, Nat.reduceLT])); (try simp +contextual (disch := omega) only [Z2]); (repeat' (first | (with_reducible intro h) | (with_reducible refine And.intro (by omega) ?_) | (with_reducible refine exP (by omega) ?_) | (with_reducible apply And.intro))))
  · subst h
    refine callS.eq (w156 g.syms[i] (hg.2.2.1 _ (List.getElem_mem _))) ?_
    ((try with_reducible refine mkQI ?_); (repeat ((first | (with_reducible refine mkQU ?_) | simp only [brGen]); try simp (maxSteps := 2000000) only [↓ S2, S2, vIte, ↓reduceIte, Int.reduceNe, Nat.reduceEqDiff, reduceCtorEq, Nat.reduceLeDiff, Nat.reduceAdd, Nat.reduceLT])); (try simp +contextual (disch := omega) only [Z2]); (repeat' (first | (with_reducible intro h) | (with_reducible refine And.intro (by omega) ?_) | (with_reducible refine exP (by omega) ?_) | (with_reducible apply And.intro))))
    have e := find_hit (p := fun x : Sym => decide (x.name = g.syms[i].name)) (xs := g.syms) (i := i) (by assumption) (by simp) hn
    simp only [fSym, hSym, e]
    exact .refl
  · exact nx ⟨i + 1, by omega, take_step (by assumption) (by simp [*]) hn⟩ (by simp; omega) (by simp [E2]) rfl
  · have : i = g.syms.length := by omega
    subst this
    rw [List.take_of_length_le (Nat.le_refl _)] at hn
    have e := find_none hn
    simp only [fSym, hSym, e]
    exact .tup (.cons (.agg (.cons .refl (.cons .nil .nil))) (.cons .refl .nil))
theorem w92 (g : Sym) (s : ByteArray) (hg : smSy g) : Pure Tryz.prog 92 [Sy g, T s] (· = .tup [At (fAtt g.atts s), B (hAtt g.atts s)]) := by
  unfold smSy at hg
  refine gstart mxd i92 rfl (by simp) ?_; simp (maxSteps := 2000000) only [↓ S2, S2, vIte, ↓reduceIte, Int.reduceNe, Nat.reduceEqDiff, reduceCtorEq, Nat.reduceLeDiff, Nat.reduceAdd, Nat.reduceLT]
  refine wloop mxd (ι := { i : Nat // i ≤ g.atts.length ∧ ∀ y ∈ g.atts.take i, decide (y.name = s) = false }) (fun i => [(1, T s), (2, .rop 2 (Sy g)), (4, .raw 4), (6, I i.1)]) (fun _ => []) (fun i => g.atts.length - i.1) ⟨0, by simp⟩ (by simp [E2]) rfl ?_
  rintro ⟨i, hi, hn⟩
  ((try with_reducible refine mkQI ?_); (repeat ((first | (with_reducible refine mkQU ?_) | simp only [brGen]); try simp (maxSteps := 2000000) only [↓ S2, S2, vIte, ↓reduceIte, Int.reduceNe, Nat.reduceEqDiff, reduceCtorEq, Nat.reduceLeDiff, Nat.reduceAdd, Nat.reduceLT])); (try simp +contextual (disch := omega) only [Z2]); (repeat' (first | (with_reducible intro h) | (with_reducible refine And.intro (by omega) ?_) | (with_reducible refine exP (by omega) ?_) | (with_reducible apply And.intro))))
  · subst h
    have e := find_hit (p := fun x : Att => decide (x.name = g.atts[i].name)) (xs := g.atts) (i := i) (by assumption) (by simp) hn
    simp only [fAtt, hAtt, e]
    rfl
  · exact nx ⟨i + 1, by omega, take_step (by assumption) (by simp [*]) hn⟩ (by simp; omega) (by simp [E2]) rfl
  · have : i = g.atts.length := by omega
    subst this
    rw [List.take_of_length_le (Nat.le_refl _)] at hn
    have e := find_none hn
    simp only [fAtt, hAtt, e]
    rfl
theorem w103 (g : Gram) (s : ByteArray) (hg : smGr g) : Pure Tryz.prog 103 [Gr g, T s] (· = .tup [Sy (fSym g.syms s), B (hSym g.syms s)]) := by
  refine Pure.bor ?_
  have hlen := hg.1
  refine gstart mxd i103 rfl (by simp) ?_; simp (maxSteps := 2000000) only [↓ S2, S2, vIte, ↓reduceIte, Int.reduceNe, Nat.reduceEqDiff, reduceCtorEq, Nat.reduceLeDiff, Nat.reduceAdd, Nat.reduceLT]
  refine wloop mxd (ι := { i : Nat // i ≤ g.syms.length ∧ ∀ y ∈ g.syms.take i, decide (y.name = s) = false }) (fun i => [(1, T s), (4, .raw 2), (9, SyS g.syms), (10, I g.syms.length), (11, I i.1)]) (fun _ => []) (fun i => g.syms.length - i.1) ⟨0, by simp⟩ (by simp [E2]) rfl ?_
  rintro ⟨i, hi, hn⟩
  ((try with_reducible refine mkQI ?_); (repeat ((first | (with_reducible refine mkQU ?_) | simp only [brGen]); try simp (maxSteps := 2000000) only [↓ S2, S2, vIte, ↓reduceIte, Int.reduceNe, Nat.reduceEqDiff, reduceCtorEq, Nat.reduceLeDiff, Nat.reduceAdd, Nat.reduceLT])); (try simp +contextual (disch := omega) only [Z2]); (repeat' (first | (with_reducible intro h) | (with_reducible refine And.intro (by omega) ?_) | (with_reducible refine exP (by omega) ?_) | (with_reducible apply And.intro))))
  · subst h
    have e := find_hit (p := fun x : Sym => decide (x.name = g.syms[i].name)) (xs := g.syms) (i := i) (by assumption) (by simp) hn
    simp only [fSym, hSym, e]
    exact .refl
  · exact nx ⟨i + 1, by omega, take_step (by assumption) (by simp [*]) hn⟩ (by simp; omega) (by simp [E2]) rfl
  · have : i = g.syms.length := by omega
    subst this
    rw [List.take_of_length_le (Nat.le_refl _)] at hn
    have e := find_none hn
    simp only [fSym, hSym, e]
    exact .tup (.cons (.agg (.cons .refl (.cons .nil .nil))) (.cons .refl .nil))
theorem w104 (g : Sym) (s : ByteArray) (hg : smSy g) : Pure Tryz.prog 104 [Sy g, T s] (· = .tup [At (fAtt g.atts s), B (hAtt g.atts s)]) := by
  unfold smSy at hg
  refine gstart mxd i104 rfl (by simp) ?_; simp (maxSteps := 2000000) only [↓ S2, S2, vIte, ↓reduceIte, Int.reduceNe, Nat.reduceEqDiff, reduceCtorEq, Nat.reduceLeDiff, Nat.reduceAdd, Nat.reduceLT]
  refine wloop mxd (ι := { i : Nat // i ≤ g.atts.length ∧ ∀ y ∈ g.atts.take i, decide (y.name = s) = false }) (fun i => [(1, T s), (4, .raw 4), (9, AtS g.atts), (10, I g.atts.length), (11, I i.1)]) (fun _ => []) (fun i => g.atts.length - i.1) ⟨0, by simp⟩ (by simp [E2]) rfl ?_
  rintro ⟨i, hi, hn⟩
  ((try with_reducible refine mkQI ?_); (repeat ((first | (with_reducible refine mkQU ?_) | simp only [brGen]); try simp (maxSteps := 2000000) only [↓ S2, S2, vIte, ↓reduceIte, Int.reduceNe, Nat.reduceEqDiff, reduceCtorEq, Nat.reduceLeDiff, Nat.reduceAdd, Nat.reduceLT])); (try simp +contextual (disch := omega) only [Z2]); (repeat' (first | (with_reducible intro h) | (with_reducible refine And.intro (by omega) ?_) | (with_reducible refine exP (by omega) ?_) | (with_reducible apply And.intro))))
  · subst h
    have e := find_hit (p := fun x : Att => decide (x.name = g.atts[i].name)) (xs := g.atts) (i := i) (by assumption) (by simp) hn
    simp only [fAtt, hAtt, e]
    rfl
  · exact nx ⟨i + 1, by omega, take_step (by assumption) (by simp [*]) hn⟩ (by simp; omega) (by simp [E2]) rfl
  · have : i = g.atts.length := by omega
    subst this
    rw [List.take_of_length_le (Nat.le_refl _)] at hn
    have e := find_none hn
    simp only [fAtt, hAtt, e]
    rfl
theorem w232 : ∀ (e : Exp), wEx e ≤ 1048576 → Pure Tryz.prog 232 [Ex e] (· = Ex e) := by
  refine Exp.indA fun e ih hw => ?_
  obtain ⟨hl, ha⟩ := args_small hw
  refine Pure.bor ?_
  refine gstart mxd i232 rfl (by simp) ?_; simp (maxSteps := 2000000) only [↓ S2, S2, vIte, ↓reduceIte, Int.reduceNe, Nat.reduceEqDiff, reduceCtorEq, Nat.reduceLeDiff, Nat.reduceAdd, Nat.reduceLT]
  ((try with_reducible refine mkQI ?_); (repeat ((first | (with_reducible refine mkQU ?_) | simp only [brGen]); try simp (maxSteps := 2000000) only [↓ S2, S2, vIte, ↓reduceIte, Int.reduceNe, Nat.reduceEqDiff, reduceCtorEq, Nat.reduceLeDiff, Nat.reduceAdd, Nat.reduceLT, XE])); (try simp +contextual (disch := omega) only [Z2, XE]); (repeat' (first | (with_reducible intro h) | (with_reducible refine And.intro (by omega) ?_) | (with_reducible refine exP (by omega) ?_) | (with_reducible apply And.intro))))
  rename_i r hr q
  have h0 := neH_of h
  (replace h0 := h0; simp only [neH_cons, neH_nil, neA_cons, neA_nil, and_true, true_and] at h0)
  refine ploop mxd (ι := { x : Nat × Nat // x.2 ≤ e.args.length }) (fun x => [(1, .ptr r 7 0 0), (2, .raw 7), (3, .own x.1.1 7 0 x.1.2), (4, I x.1.2)]) (fun x => [(x.1.1, 7, (e.args.take x.1.2).map Ex), (r, 7, [Ex e])]) (fun x => e.args.length - x.1.2) ⟨(q, 0), by simp⟩ (by simp [E2]) (by simp [subH, hget, names, h0]) ?_
  rintro ⟨⟨q, i⟩, hi⟩ hn
  dsimp only at hi hn ⊢
  (replace hn := hn; simp only [neH_cons, neH_nil, neA_cons, neA_nil, and_true, true_and] at hn)
  ((try with_reducible refine mkQI ?_); (repeat ((first | (with_reducible refine mkQU ?_) | simp only [brGen]); try simp (maxSteps := 2000000) only [↓ S2, S2, vIte, ↓reduceIte, Int.reduceNe, Nat.reduceEqDiff, reduceCtorEq, Nat.reduceLeDiff, Nat.reduceAdd, Nat.reduceLT, XE, hget_c, hset_c, hdel_c, hn, t_ldf])); (try simp +contextual (disch := omega) only [Z2, XE, hget_c, hset_c, hdel_c, hn, t_ldf]); (repeat' (first | (with_reducible intro h) | (with_reducible refine And.intro (by omega) ?_) | (with_reducible refine exP (by omega) ?_) | (with_reducible apply And.intro))))
  · refine callS.eq (ih _ (List.getElem_mem _) (ha _ (List.getElem_mem _))) ?_
    ((try with_reducible refine mkQI ?_); (repeat ((first | (with_reducible refine mkQU ?_) | simp only [brGen]); try simp (maxSteps := 2000000) only [↓ S2, S2, vIte, ↓reduceIte, Int.reduceNe, Nat.reduceEqDiff, reduceCtorEq, Nat.reduceLeDiff, Nat.reduceAdd, Nat.reduceLT, XE, hget_c, hset_c, hdel_c, hn, t_ldf])); (try simp +contextual (disch := omega) only [Z2, XE, hget_c, hset_c, hdel_c, hn, t_ldf]); (repeat' (first | (with_reducible intro h) | (with_reducible refine And.intro (by omega) ?_) | (with_reducible refine exP (by omega) ?_) | (with_reducible apply And.intro))))
    rename_i q2
    have h2 := neH_of h
    (replace h2 := h2; simp only [neH_cons, neH_nil, neA_cons, neA_nil, and_true, true_and] at h2)
    ((try with_reducible refine mkQI ?_); (repeat ((first | (with_reducible refine mkQU ?_) | simp only [brGen]); try simp (maxSteps := 2000000) only [↓ S2, S2, vIte, ↓reduceIte, Int.reduceNe, Nat.reduceEqDiff, reduceCtorEq, Nat.reduceLeDiff, Nat.reduceAdd, Nat.reduceLT, XE, hget_c, hset_c, hdel_c, hn, h2, t_ldf])); (try simp +contextual (disch := omega) only [Z2, XE, hget_c, hset_c, hdel_c, hn, h2, t_ldf]); (repeat' (first | (with_reducible intro h) | (with_reducible refine And.intro (by omega) ?_) | (with_reducible refine exP (by omega) ?_) | (with_reducible apply And.intro))))
    · simp; omega
    rename_i q3
    have h3 := neH_of h
    (replace h3 := h3; simp only [neH_cons, neH_nil, neA_cons, neA_nil, and_true, true_and] at h3)
    rw [takeApp Ex e.args i (by assumption)]
    exact px ⟨(q3, i + 1), by omega⟩ (by simp; omega) (by simp [E2]) (by simp [subH, hget, names, h3])
  · rw [Ex_eq e]
    refine .agg (.cons .refl (.cons .refl (.cons .refl (.cons .refl (.cons .refl (.cons .refl (.cons ?_ .nil)))))))
    have : i = e.args.length := by omega
    subst this
    rw [List.take_length]
    exact Bor.allM view_Ex hget_new rfl
theorem w202 (g : Gram) (s : ByteArray) (hg : smGr g) : Pure Tryz.prog 202 [Gr g, T s] (· = .tup [Ru (fRul g.rules s), B (hRul g.rules s)]) := by
  refine Pure.bor ?_
  have hlen := hg.2.1
  refine gstart mxd i202 rfl (by simp) ?_; simp (maxSteps := 2000000) only [↓ S2, S2, vIte, ↓reduceIte, Int.reduceNe, Nat.reduceEqDiff, reduceCtorEq, Nat.reduceLeDiff, Nat.reduceAdd, Nat.reduceLT]
  refine wloop mxd (ι := { i : Nat // i ≤ g.rules.length ∧ ∀ y ∈ g.rules.take i, decide (y.name = s) = false }) (fun i => [(1, T s), (4, .raw 6), (9, RuS g.rules), (10, I g.rules.length), (11, I i.1)]) (fun _ => []) (fun i => g.rules.length - i.1) ⟨0, by simp⟩ (by simp [E2]) rfl ?_
  rintro ⟨i, hi, hn⟩
  ((try with_reducible refine mkQI ?_); (repeat ((first | (with_reducible refine mkQU ?_) | simp only [brGen]); try simp (maxSteps := 2000000) only [↓ S2, S2, vIte, ↓reduceIte, Int.reduceNe, Nat.reduceEqDiff, reduceCtorEq, Nat.reduceLeDiff, Nat.reduceAdd, Nat.reduceLT])); (try simp +contextual (disch := omega) only [Z2]); (repeat' (first | (with_reducible intro h) | (with_reducible refine And.intro (by omega) ?_) | (with_reducible refine exP (by omega) ?_) | (with_reducible apply And.intro))))
  · subst h
    have e := find_hit (p := fun x : Rul => decide (x.name = g.rules[i].name)) (xs := g.rules) (i := i) (by assumption) (by simp) hn
    simp only [fRul, hRul, e]
    exact .refl
  · exact nx ⟨i + 1, by omega, take_step (by assumption) (by simp [*]) hn⟩ (by simp; omega) (by simp [E2]) rfl
  · have : i = g.rules.length := by omega
    subst this
    rw [List.take_of_length_le (Nat.le_refl _)] at hn
    have e := find_none hn
    simp only [fRul, hRul, e]
    exact .tup (.cons (.agg (.cons .refl (.cons .refl (.cons .nil (.cons .refl (.cons .nil (.cons .nil .nil))))))) (.cons .refl .nil))
end Go.Proofs.YtbdmpkidcpblaaaGreat

namespace Go.Proofs.YtbdmpkidcpblaaaGreat
open Go.Gh
set_option maxRecDepth 20000
set_option linter.unusedSimpArgs false
set_option linter.unusedVariables false
theorem w231 (e : Rul) (hr : smRu e) : Pure Tryz.prog 231 [Ru e] (· = Ru e) := by
  obtain ⟨h1, h2, h3, h4, h5⟩ := hr
  refine Pure.bor ?_
  refine gstart mxd i231 rfl (by simp) ?_; simp (maxSteps := 2000000) only [↓ S2, S2, vIte, ↓reduceIte, Int.reduceNe, Nat.reduceEqDiff, reduceCtorEq, Nat.reduceLeDiff, Nat.reduceAdd, Nat.reduceLT]
  ((try with_reducible refine mkQI ?_); (repeat ((first | (with_reducible refine mkQU ?_) | simp only [brGen]); try simp (maxSteps := 2000000) only [↓ S2, S2, vIte, ↓reduceIte, Int.reduceNe, Nat.reduceEqDiff, reduceCtorEq, Nat.reduceLeDiff, Nat.reduceAdd, Nat.reduceLT, XE])); (try simp +contextual (disch := omega) only [Z2, XE]); (repeat' (first | (with_reducible intro h) | (with_reducible refine And.intro (by omega) ?_) | (with_reducible refine exP (by omega) ?_) | (with_reducible apply And.intro))))
  rename_i ra _ rr _ r0
  have h0 := neH_of h
  (replace h0 := h0; simp only [neH_cons, neH_nil, neA_cons, neA_nil, and_true, true_and] at h0)
  obtain ⟨v, ho, hv⟩ := vfresh [r0, rr]
  refine ploopF mxd (ι := { x : Nat × Nat // x.2 ≤ e.eqs.length }) (fun x => [(1, .rop 6 (Ru e)), (2, .raw 6), (3, .ptr r0 6 0 0), (4, I x.1.2)])
    (fun x => [(x.1.1, 9, (e.eqs.take x.1.2).map Qn), (r0, 6, [.agg [T e.name, T e.left, .own rr 1 0 e.right.length, B e.lit, .own x.1.1 9 0 x.1.2, .val (.slice none 0 0)]]), (rr, 1, e.right.map T)])
    (fun x => e.eqs.length - x.1.2) ⟨(v, 0), by simp⟩ (FE.virtF (i := 0) (j := 4) (sz1 := 9) hget_new rfl rfl ho hv) (by simp [E2]) ?_ ?_
  · simp only [List.mem_cons, List.not_mem_nil, or_false, not_or] at hv
    simp [subH, hget, hset, names, h0, hv]
  rintro ⟨⟨q, i⟩, hi⟩ hn
  dsimp only at hi hn ⊢
  (replace hn := hn; simp only [neH_cons, neH_nil, neA_cons, neA_nil, and_true, true_and] at hn)
  ((try with_reducible refine mkQI ?_); (repeat ((first | (with_reducible refine mkQU ?_) | simp only [brGen]); try simp (maxSteps := 2000000) only [↓ S2, S2, vIte, ↓reduceIte, Int.reduceNe, Nat.reduceEqDiff, reduceCtorEq, Nat.reduceLeDiff, Nat.reduceAdd, Nat.reduceLT, XE, hget_c, hset_c, hdel_c, hn, t_ldf])); (try simp +contextual (disch := omega) only [Z2, XE, hget_c, hset_c, hdel_c, hn, t_ldf]); (repeat' (first | (with_reducible intro h) | (with_reducible refine And.intro (by omega) ?_) | (with_reducible refine exP (by omega) ?_) | (with_reducible apply And.intro))))
  · refine callS.eq (w232 _ (h4 _ (List.getElem_mem _))) ?_
    ((try with_reducible refine mkQI ?_); (repeat ((first | (with_reducible refine mkQU ?_) | simp only [brGen]); try simp (maxSteps := 2000000) only [↓ S2, S2, vIte, ↓reduceIte, Int.reduceNe, Nat.reduceEqDiff, reduceCtorEq, Nat.reduceLeDiff, Nat.reduceAdd, Nat.reduceLT, XE, hget_c, hset_c, hdel_c, hn, t_ldf])); (try simp +contextual (disch := omega) only [Z2, XE, hget_c, hset_c, hdel_c, hn, t_ldf]); (repeat' (first | (with_reducible intro h) | (with_reducible refine And.intro (by omega) ?_) | (with_reducible refine exP (by omega) ?_) | (with_reducible apply And.intro))))
    rename_i q2
    have h2 := neH_of h
    (replace h2 := h2; simp only [neH_cons, neH_nil, neA_cons, neA_nil, and_true, true_and] at h2)
    ((try with_reducible refine mkQI ?_); (repeat ((first | (with_reducible refine mkQU ?_) | simp only [brGen]); try simp (maxSteps := 2000000) only [↓ S2, S2, vIte, ↓reduceIte, Int.reduceNe, Nat.reduceEqDiff, reduceCtorEq, Nat.reduceLeDiff, Nat.reduceAdd, Nat.reduceLT, XE, hget_c, hset_c, hdel_c, hn, h2, t_ldf])); (try simp +contextual (disch := omega) only [Z2, XE, hget_c, hset_c, hdel_c, hn, h2, t_ldf]); (repeat' (first | (with_reducible intro h) | (with_reducible refine And.intro (by omega) ?_) | (with_reducible refine exP (by omega) ?_) | (with_reducible apply And.intro))))
    · simp; omega
    rename_i q3
    have h3 := neH_of h
    (replace h3 := h3; simp only [neH_cons, neH_nil, neA_cons, neA_nil, and_true, true_and] at h3)
    ((try with_reducible refine mkQI ?_); (repeat ((first | (with_reducible refine mkQU ?_) | simp only [brGen]); try simp (maxSteps := 2000000) only [↓ S2, S2, vIte, ↓reduceIte, Int.reduceNe, Nat.reduceEqDiff, reduceCtorEq, Nat.reduceLeDiff, Nat.reduceAdd, Nat.reduceLT, XE, hget_c, hset_c, hdel_c, hn, h2, h3, t_ldf])); (try simp +contextual (disch := omega) only [Z2, XE, hget_c, hset_c, hdel_c, hn, h2, h3, t_ldf]); (repeat' (first | (with_reducible intro h) | (with_reducible refine And.intro (by omega) ?_) | (with_reducible refine exP (by omega) ?_) | (with_reducible apply And.intro))))
    rw [takeApp Qn e.eqs i (by assumption)]
    exact px ⟨(q3, i + 1), by omega⟩ (by simp; omega) (by simp [E2]) (by simp [subH, hget, names, h3])
  · have : i = e.eqs.length := by omega
    subst this
    rw [List.take_length]
    obtain ⟨v, ho, hv⟩ := vfresh [q, r0, rr]
    refine ploopF mxd (ι := { x : Nat × Nat // x.2 ≤ e.cons.length }) (fun x => [(1, .rop 6 (Ru e)), (2, .raw 6), (3, .ptr r0 6 0 0), (5, I x.1.2)])
      (fun x => [(x.1.1, 16, (e.cons.take x.1.2).map Co), (q, 9, e.eqs.map Qn), (r0, 6, [.agg [T e.name, T e.left, .own rr 1 0 e.right.length, B e.lit, .own q 9 0 e.eqs.length, .own x.1.1 16 0 x.1.2]]), (rr, 1, e.right.map T)])
      (fun x => e.cons.length - x.1.2) ⟨(v, 0), by simp⟩ (FE.virtF (r := r0) (i := 0) (j := 5) (sz1 := 16) (by simp [hget, hn]; exact ⟨rfl, rfl⟩) rfl rfl ho hv) (by simp [E2]) ?_ ?_
    · simp only [List.mem_cons, List.not_mem_nil, or_false, not_or] at hv
      simp [subH, hget, hset, names, hn, hv]
    rintro ⟨⟨p, i⟩, hi⟩ hn
    dsimp only at hi hn ⊢
    (replace hn := hn; simp only [neH_cons, neH_nil, neA_cons, neA_nil, and_true, true_and] at hn)
    ((try with_reducible refine mkQI ?_); (repeat ((first | (with_reducible refine mkQU ?_) | simp only [brGen]); try simp (maxSteps := 2000000) only [↓ S2, S2, vIte, ↓reduceIte, Int.reduceNe, Nat.reduceEqDiff, reduceCtorEq, Nat.reduceLeDiff, Nat.reduceAdd, Nat.reduceLT, XE, hget_c, hset_c, hdel_c, hn, t_ldf])); (try simp +contextual (disch := omega) only [Z2, XE, hget_c, hset_c, hdel_c, hn, t_ldf]); (repeat' (first | (with_reducible intro h) | (with_reducible refine And.intro (by omega) ?_) | (with_reducible refine exP (by omega) ?_) | (with_reducible apply And.intro))))
    · refine callS.eq (w232 _ (h5 _ (List.getElem_mem _)).1) ?_
      ((try with_reducible refine mkQI ?_); (repeat ((first | (with_reducible refine mkQU ?_) | simp only [brGen]); try simp (maxSteps := 2000000) only [↓ S2, S2, vIte, ↓reduceIte, Int.reduceNe, Nat.reduceEqDiff, reduceCtorEq, Nat.reduceLeDiff, Nat.reduceAdd, Nat.reduceLT, XE, hget_c, hset_c, hdel_c, hn, t_ldf])); (try simp +contextual (disch := omega) only [Z2, XE, hget_c, hset_c, hdel_c, hn, t_ldf]); (repeat' (first | (with_reducible intro h) | (with_reducible refine And.intro (by omega) ?_) | (with_reducible refine exP (by omega) ?_) | (with_reducible apply And.intro))))
      refine callS.eq (w232 _ (h5 _ (List.getElem_mem _)).2) ?_
      ((try with_reducible refine mkQI ?_); (repeat ((first | (with_reducible refine mkQU ?_) | simp only [brGen]); try simp (maxSteps := 2000000) only [↓ S2, S2, vIte, ↓reduceIte, Int.reduceNe, Nat.reduceEqDiff, reduceCtorEq, Nat.reduceLeDiff, Nat.reduceAdd, Nat.reduceLT, XE, hget_c, hset_c, hdel_c, hn, t_ldf])); (try simp +contextual (disch := omega) only [Z2, XE, hget_c, hset_c, hdel_c, hn, t_ldf]); (repeat' (first | (with_reducible intro h) | (with_reducible refine And.intro (by omega) ?_) | (with_reducible refine exP (by omega) ?_) | (with_reducible apply And.intro))))
      rename_i q2
      have h2 := neH_of h
      (replace h2 := h2; simp only [neH_cons, neH_nil, neA_cons, neA_nil, and_true, true_and] at h2)
      ((try with_reducible refine mkQI ?_); (repeat ((first | (with_reducible refine mkQU ?_) | simp only [brGen]); try simp (maxSteps := 2000000) only [↓ S2, S2, vIte, ↓reduceIte, Int.reduceNe, Nat.reduceEqDiff, reduceCtorEq, Nat.reduceLeDiff, Nat.reduceAdd, Nat.reduceLT, XE, hget_c, hset_c, hdel_c, hn, h2, t_ldf])); (try simp +contextual (disch := omega) only [Z2, XE, hget_c, hset_c, hdel_c, hn, h2, t_ldf]); (repeat' (first | (with_reducible intro h) | (with_reducible refine And.intro (by omega) ?_) | (with_reducible refine exP (by omega) ?_) | (with_reducible apply And.intro))))
      · simp; omega
      rename_i q3
      have h3 := neH_of h
      (replace h3 := h3; simp only [neH_cons, neH_nil, neA_cons, neA_nil, and_true, true_and] at h3)
      ((try with_reducible refine mkQI ?_); (repeat ((first | (with_reducible refine mkQU ?_) | simp only [brGen]); try simp (maxSteps := 2000000) only [↓ S2, S2, vIte, ↓reduceIte, Int.reduceNe, Nat.reduceEqDiff, reduceCtorEq, Nat.reduceLeDiff, Nat.reduceAdd, Nat.reduceLT, XE, hget_c, hset_c, hdel_c, hn, h2, h3, t_ldf])); (try simp +contextual (disch := omega) only [Z2, XE, hget_c, hset_c, hdel_c, hn, h2, h3, t_ldf]); (repeat' (first | (with_reducible intro h) | (with_reducible refine And.intro (by omega) ?_) | (with_reducible refine exP (by omega) ?_) | (with_reducible apply And.intro))))
      rw [takeApp Co e.cons i (by assumption)]
      exact px ⟨(q3, i + 1), by omega⟩ (by simp; omega) (by simp [E2]) (by simp [subH, hget, names, h3])
    · have : i = e.cons.length := by omega
      subst this
      rw [List.take_length]
      exact .agg (.cons .refl (.cons .refl (.cons (Bor.allM (fun _ => rfl) (by simp [hget, hn]) rfl) (.cons .refl (.cons (Bor.allM (fun _ => rfl) (by simp [hget, hn]) rfl) (.cons (Bor.allM (fun _ => rfl) (by simp [hget, hn]) rfl) .nil))))))
theorem w183 (g : Gram) (s : ByteArray) (hg : smGr g) : Pure Tryz.prog 183 [Gr g, T s] (· = .tup [Ru (fRul g.rules s), B (hRul g.rules s)]) := by
  refine Pure.bor ?_
  have hlen := hg.2.1
  refine gstart mxd i183 rfl (by simp) ?_; simp (maxSteps := 2000000) only [↓ S2, S2, vIte, ↓reduceIte, Int.reduceNe, Nat.reduceEqDiff, reduceCtorEq, Nat.reduceLeDiff, Nat.reduceAdd, Nat.reduceLT]
  refine wloop mxd (ι := { i : Nat // i ≤ g.rules.length ∧ ∀ y ∈ g.rules.take i, decide (y.name = s) = false }) (fun i => [(1, T s), (2, .rop 2 (Gr g)), (4, .raw 6), (6, I i.1)]) (fun _ => []) (fun i => g.rules.length - i.1) ⟨0, by simp⟩ (by simp [E2]) rfl ?_
  rintro ⟨i, hi, hn⟩
  ((try with_reducible refine mkQI ?_); (repeat ((first | (with_reducible refine mkQU ?_) | simp only [brGen]); try simp (maxSteps := 2000000) only [↓ S2, S2, vIte, ↓reduceIte, Int.reduceNe, Nat.reduceEqDiff, reduceCtorEq, Nat.reduceLeDiff, Nat.reduceAdd, Nat.reduceLT])); (try simp +contextual (disch := omega) only [Z2]); (repeat' (first | (with_reducible intro h) | (with_reducible refine And.intro (by omega) ?_) | (with_reducible refine exP (by omega) ?_) | (with_reducible apply And.intro))))
  · subst h
    refine callS.eq (w231 g.rules[i] (hg.2.2.2 _ (List.getElem_mem _))) ?_
    ((try with_reducible refine mkQI ?_); (repeat ((first | (with_reducible refine mkQU ?_) | simp only [brGen]); try simp (maxSteps := 2000000) only [↓ S2, S2, vIte, ↓reduceIte, Int.reduceNe, Nat.reduceEqDiff, reduceCtorEq, Nat.reduceLeDiff, Nat.reduceAdd, Nat.reduceLT])); (try simp +contextual (disch := omega) only [Z2]); (repeat' (first | (with_reducible intro h) | (with_reducible refine And.intro (by omega) ?_) | (with_reducible refine exP (by omega) ?_) | (with_reducible apply And.intro))))
    have e := find_hit (p := fun x : Rul => decide (x.name = g.rules[i].name)) (xs := g.rules) (i := i) (by assumption) (by simp) hn
    simp only [fRul, hRul, e]
    exact .refl
  · exact nx ⟨i + 1, by omega, take_step (by assumption) (by simp [*]) hn⟩ (by simp; omega) (by simp [E2]) rfl
  · have : i = g.rules.length := by omega
    subst this
    rw [List.take_of_length_le (Nat.le_refl _)] at hn
    have e := find_none hn
    simp only [fRul, hRul, e]
    exact .tup (.cons (.agg (.cons .refl (.cons .refl (.cons .nil (.cons .refl (.cons .nil (.cons .nil .nil))))))) (.cons .refl .nil))
theorem w115 (g : Gram) (t : List Nod) (i : Int) (hg : smGr g) : Pure Tryz.prog 115 [Gr g, Tr t, I i] (· = T (symN g t i)) := by
  refine GCalls.lenA fun hl => ?_
  obtain ⟨hlen, _⟩ := lenTr hl.2.1
  refine gstart mxd i115 rfl (by simp) ?_; simp (maxSteps := 2000000) only [↓ S2, S2, vIte, ↓reduceIte, Int.reduceNe, Nat.reduceEqDiff, reduceCtorEq, Nat.reduceLeDiff, Nat.reduceAdd, Nat.reduceLT]
  by_cases h : 0 ≤ i ∧ i < t.length
  · obtain ⟨i, rfl⟩ : ∃ k : Nat, i = k := ⟨i.toNat, by omega⟩
    have hi : i < t.length := by omega
    rw [symN_in hi]
    (repeat' (first | (with_reducible refine callS.eq (w85 _ _ _) ?_) | (with_reducible refine callS.eq (w183 _ _ hg) ?_) | simp (maxSteps := 2000000) only [↓ S2, S2, vIte, ↓reduceIte, Int.reduceNe, Nat.reduceEqDiff, reduceCtorEq, Nat.reduceLeDiff, Nat.reduceAdd, Nat.reduceLT] | simp only [brGen] | simp +contextual (disch := omega) only [Z2] | (with_reducible intro h) | (with_reducible refine And.intro (by omega) ?_) | (with_reducible refine exP (by omega) ?_) | (with_reducible apply And.intro)))
    all_goals first | rfl | (exfalso; omega)
  · rw [symN_out h]
    (repeat' (first | (with_reducible refine callS.eq (w85 _ _ _) ?_) | (with_reducible refine callS.eq (w183 _ _ hg) ?_) | simp (maxSteps := 2000000) only [↓ S2, S2, vIte, ↓reduceIte, Int.reduceNe, Nat.reduceEqDiff, reduceCtorEq, Nat.reduceLeDiff, Nat.reduceAdd, Nat.reduceLT] | simp only [brGen] | simp +contextual (disch := omega) only [Z2] | (with_reducible intro h) | (with_reducible refine And.intro (by omega) ?_) | (with_reducible refine exP (by omega) ?_) | (with_reducible apply And.intro)))
    all_goals first | rfl | (exfalso; omega)
theorem w137 (g : Gram) (t : List Nod) (i : Int) (hg : smGr g) : Pure Tryz.prog 137 [Gr g, Tr t, I i] (· = T (symN g t i)) := by
  refine GCalls.lenA fun hl => ?_
  obtain ⟨hlen, _⟩ := lenTr hl.2.1
  refine gstart mxd i137 rfl (by simp) ?_; simp (maxSteps := 2000000) only [↓ S2, S2, vIte, ↓reduceIte, Int.reduceNe, Nat.reduceEqDiff, reduceCtorEq, Nat.reduceLeDiff, Nat.reduceAdd, Nat.reduceLT]
  by_cases h : 0 ≤ i ∧ i < t.length
  · obtain ⟨i, rfl⟩ : ∃ k : Nat, i = k := ⟨i.toNat, by omega⟩
    have hi : i < t.length := by omega
    rw [symN_in hi]
    (repeat' (first | (with_reducible refine callS.eq (w201 _ _) ?_) | (with_reducible refine callS.eq (w202 _ _ hg) ?_) | simp (maxSteps := 2000000) only [↓ S2, S2, vIte, ↓reduceIte, Int.reduceNe, Nat.reduceEqDiff, reduceCtorEq, Nat.reduceLeDiff, Nat.reduceAdd, Nat.reduceLT] | simp only [brGen] | simp +contextual (disch := omega) only [Z2] | (with_reducible intro h) | (with_reducible refine And.intro (by omega) ?_) | (with_reducible refine exP (by omega) ?_) | (with_reducible apply And.intro)))
    all_goals first | rfl | (exfalso; omega)
  · rw [symN_out h]
    (repeat' (first | (with_reducible refine callS.eq (w201 _ _) ?_) | (with_reducible refine callS.eq (w202 _ _ hg) ?_) | simp (maxSteps := 2000000) only [↓ S2, S2, vIte, ↓reduceIte, Int.reduceNe, Nat.reduceEqDiff, reduceCtorEq, Nat.reduceLeDiff, Nat.reduceAdd, Nat.reduceLT] | simp only [brGen] | simp +contextual (disch := omega) only [Z2] | (with_reducible intro h) | (with_reducible refine And.intro (by omega) ?_) | (with_reducible refine exP (by omega) ?_) | (with_reducible apply And.intro)))
    all_goals first | rfl | (exfalso; omega)
theorem w203 (g : Gram) (t : List Nod) (x : Int × ByteArray) (hg : smGr g) : Pure Tryz.prog 203 [Gr g, Tr t, Ins x] (· = .tup [At (attN g t x.1 x.2), B (hasN g t x.1 x.2)]) := by
  refine gstart mxd i203 rfl (by simp) ?_; simp (maxSteps := 2000000) only [↓ S2, S2, vIte, ↓reduceIte, Int.reduceNe, Nat.reduceEqDiff, reduceCtorEq, Nat.reduceLeDiff, Nat.reduceAdd, Nat.reduceLT]
  (repeat' (first | (with_reducible refine callS.eq (w204 _ _) ?_) | (with_reducible refine callS.eq (w137 _ _ _ hg) ?_) | (with_reducible refine callS.eq (w103 _ _ hg) ?_) | (with_reducible refine callS.eq (w104 _ _ (smSy_f hg _)) ?_) | simp (maxSteps := 2000000) only [↓ S2, S2, vIte, ↓reduceIte, Int.reduceNe, Nat.reduceEqDiff, reduceCtorEq, Nat.reduceLeDiff, Nat.reduceAdd, Nat.reduceLT] | simp only [brGen] | simp +contextual (disch := omega) only [Z2] | (with_reducible intro h) | (with_reducible refine And.intro (by omega) ?_) | (with_reducible refine exP (by omega) ?_) | (with_reducible apply And.intro)))
  all_goals simp only [attN, hasN]
  · rw [if_neg (by omega), if_neg (by omega)]; rfl
  · rw [if_pos (by omega), if_pos (by omega)]
theorem w184 (g : Gram) (t : List Nod) (x : Int × ByteArray) (hg : smGr g) : Pure Tryz.prog 184 [Gr g, Tr t, Ins x] (· = .tup [At (attN g t x.1 x.2), B (hasN g t x.1 x.2)]) := by
  refine gstart mxd i184 rfl (by simp) ?_; simp (maxSteps := 2000000) only [↓ S2, S2, vIte, ↓reduceIte, Int.reduceNe, Nat.reduceEqDiff, reduceCtorEq, Nat.reduceLeDiff, Nat.reduceAdd, Nat.reduceLT]
  (repeat' (first | (with_reducible refine callS.eq (w185 _ _) ?_) | (with_reducible refine callS.eq (w115 _ _ _ hg) ?_) | (with_reducible refine callS.eq (w91 _ _ hg) ?_) | (with_reducible refine callS.eq (w92 _ _ (smSy_f hg _)) ?_) | simp (maxSteps := 2000000) only [↓ S2, S2, vIte, ↓reduceIte, Int.reduceNe, Nat.reduceEqDiff, reduceCtorEq, Nat.reduceLeDiff, Nat.reduceAdd, Nat.reduceLT] | simp only [brGen] | simp +contextual (disch := omega) only [Z2] | (with_reducible intro h) | (with_reducible refine And.intro (by omega) ?_) | (with_reducible refine exP (by omega) ?_) | (with_reducible apply And.intro)))
  all_goals simp only [attN, hasN]
  · rw [if_neg (by omega), if_neg (by omega)]; rfl
  · rw [if_pos (by omega), if_pos (by omega)]
theorem w140 (g : Gram) (t : List Nod) (i : Int) (o : Int × ByteArray) (ht : ∀ x ∈ t, x.kids.length ≤ 1048576) : Pure Tryz.prog 140 [Gr g, Tr t, I i, Occ o] (· = .tup [Ins (instAt t i o).1, B (instAt t i o).2]) := by
  refine GCalls.lenA fun hl => ?_
  obtain ⟨hlen, _⟩ := lenTr hl.2.1
  refine gstart mxd i140 rfl (by simp) ?_; simp (maxSteps := 2000000) only [↓ S2, S2, vIte, ↓reduceIte, Int.reduceNe, Nat.reduceEqDiff, reduceCtorEq, Nat.reduceLeDiff, Nat.reduceAdd, Nat.reduceLT]
  by_cases h : 0 ≤ i ∧ i < t.length
  · obtain ⟨i, rfl⟩ : ∃ k : Nat, i = k := ⟨i.toNat, by omega⟩
    have hi : i < t.length := by omega
    have hk := ht _ (List.getElem_mem hi)
    (repeat' (first | (with_reducible refine callS.eq (w201 _ _) ?_) | (with_reducible refine callS.eq (w73 _ _ _) ?_) | simp (maxSteps := 2000000) only [↓ S2, S2, vIte, ↓reduceIte, Int.reduceNe, Nat.reduceEqDiff, reduceCtorEq, Nat.reduceLeDiff, Nat.reduceAdd, Nat.reduceLT] | simp only [brGen] | simp +contextual (disch := omega) only [Z2] | (with_reducible intro h) | (with_reducible refine And.intro (by omega) ?_) | (with_reducible refine exP (by omega) ?_) | (with_reducible apply And.intro)))
    all_goals try (exfalso; omega)
    all_goals first
      | (rw [inst0 hi (by omega)]; done)
      | (rw [inst1 hi (by omega) (by omega) (by omega) (by omega)]; done)
      | (rw [inst2 hi (by omega) (by omega) (by omega)]; rfl)
      | (rw [inst3 hi (by omega)]; rfl)
  · (repeat' (first | (with_reducible refine callS.eq (w201 _ _) ?_) | (with_reducible refine callS.eq (w73 _ _ _) ?_) | simp (maxSteps := 2000000) only [↓ S2, S2, vIte, ↓reduceIte, Int.reduceNe, Nat.reduceEqDiff, reduceCtorEq, Nat.reduceLeDiff, Nat.reduceAdd, Nat.reduceLT] | simp only [brGen] | simp +contextual (disch := omega) only [Z2] | (with_reducible intro h) | (with_reducible refine And.intro (by omega) ?_) | (with_reducible refine exP (by omega) ?_) | (with_reducible apply And.intro)))
    all_goals try (exfalso; omega)
    rw [inst4 (by omega)]
    rfl
theorem w129 (g : Gram) (t : List Nod) (i : Int) (o : Int × ByteArray) (ht : ∀ x ∈ t, x.kids.length ≤ 1048576) : Pure Tryz.prog 129 [Gr g, Tr t, I i, Occ o] (· = .tup [Ins (instAt t i o).1, B (instAt t i o).2]) := by
  refine GCalls.lenA fun hl => ?_
  obtain ⟨hlen, _⟩ := lenTr hl.2.1
  refine gstart mxd i129 rfl (by simp) ?_; simp (maxSteps := 2000000) only [↓ S2, S2, vIte, ↓reduceIte, Int.reduceNe, Nat.reduceEqDiff, reduceCtorEq, Nat.reduceLeDiff, Nat.reduceAdd, Nat.reduceLT]
  by_cases h : 0 ≤ i ∧ i < t.length
  · obtain ⟨i, rfl⟩ : ∃ k : Nat, i = k := ⟨i.toNat, by omega⟩
    have hi : i < t.length := by omega
    have hk := ht _ (List.getElem_mem hi)
    (repeat' (first | (with_reducible refine callS.eq (w85 _ _ _) ?_) | simp (maxSteps := 2000000) only [↓ S2, S2, vIte, ↓reduceIte, Int.reduceNe, Nat.reduceEqDiff, reduceCtorEq, Nat.reduceLeDiff, Nat.reduceAdd, Nat.reduceLT] | simp only [brGen] | simp +contextual (disch := omega) only [Z2] | (with_reducible intro h) | (with_reducible refine And.intro (by omega) ?_) | (with_reducible refine exP (by omega) ?_) | (with_reducible apply And.intro)))
    all_goals try (exfalso; omega)
    all_goals first
      | (rw [inst0 hi (by omega)]; done)
      | (rw [inst1 hi (by omega) (by omega) (by omega) (by omega)]; done)
      | (rw [inst2 hi (by omega) (by omega) (by omega)]; rfl)
      | (rw [inst3 hi (by omega)]; rfl)
  · (repeat' (first | (with_reducible refine callS.eq (w85 _ _ _) ?_) | simp (maxSteps := 2000000) only [↓ S2, S2, vIte, ↓reduceIte, Int.reduceNe, Nat.reduceEqDiff, reduceCtorEq, Nat.reduceLeDiff, Nat.reduceAdd, Nat.reduceLT] | simp only [brGen] | simp +contextual (disch := omega) only [Z2] | (with_reducible intro h) | (with_reducible refine And.intro (by omega) ?_) | (with_reducible refine exP (by omega) ?_) | (with_reducible apply And.intro)))
    all_goals try (exfalso; omega)
    rw [inst4 (by omega)]
    rfl
end Go.Proofs.YtbdmpkidcpblaaaGreat

namespace Go.Proofs.YtbdmpkidcpblaaaGreat
open Go.Gh
set_option maxRecDepth 20000
set_option linter.unusedSimpArgs false
set_option linter.unusedVariables false
end Go.Proofs.YtbdmpkidcpblaaaGreat

namespace Go.Proofs.YtbdmpkidcpblaaaGreat
open Go.Gh
set_option maxRecDepth 20000
set_option linter.unusedSimpArgs false
set_option linter.unusedVariables false
set_option maxHeartbeats 2000000 in
theorem w182 (g : Gram) (t : List Nod) (hg : smGr g) (hl : t.length ≤ 1048576) (hk : ∀ x ∈ t, x.kids.length ≤ 1048576) : ∀ (f i : Nat) (p q : Int) (s : ByteArray), t.length ≤ i + f → Pure Tryz.prog 182 [Gr g, Tr t, I i, I p, I q, T s] (· = I (walkE g t f i p q s)) := by
  intro f
  induction f with
  | zero =>
    intro i p q s hf
    refine gstart mxd i182 rfl (by simp) ?_; simp (maxSteps := 2000000) only [↓ S2, S2, vIte, ↓reduceIte, Int.reduceNe, Nat.reduceEqDiff, reduceCtorEq, Nat.reduceLeDiff, Nat.reduceAdd, Nat.reduceLT]
    ((try with_reducible refine mkQI ?_); (repeat ((first | (with_reducible refine mkQU ?_) | simp only [brGen]); try simp (maxSteps := 2000000) only [↓ S2, S2, vIte, ↓reduceIte, Int.reduceNe, Nat.reduceEqDiff, reduceCtorEq, Nat.reduceLeDiff, Nat.reduceAdd, Nat.reduceLT])); (try simp +contextual (disch := omega) only [Z2]); (repeat' (first | (with_reducible intro h) | (with_reducible refine And.intro (by omega) ?_) | (with_reducible refine exP (by omega) ?_) | (with_reducible apply And.intro))))
    all_goals first | rfl | (exfalso; omega)
  | succ f ih =>
    intro i p q s hf
    refine gstart mxd i182 rfl (by simp) ?_; simp (maxSteps := 2000000) only [↓ S2, S2, vIte, ↓reduceIte, Int.reduceNe, Nat.reduceEqDiff, reduceCtorEq, Nat.reduceLeDiff, Nat.reduceAdd, Nat.reduceLT]
    by_cases hi : i < t.length
    rotate_left
    · rw [walkE_out (by omega)]
      ((try with_reducible refine mkQI ?_); (repeat ((first | (with_reducible refine mkQU ?_) | simp only [brGen]); try simp (maxSteps := 2000000) only [↓ S2, S2, vIte, ↓reduceIte, Int.reduceNe, Nat.reduceEqDiff, reduceCtorEq, Nat.reduceLeDiff, Nat.reduceAdd, Nat.reduceLT])); (try simp +contextual (disch := omega) only [Z2]); (repeat' (first | (with_reducible intro h) | (with_reducible refine And.intro (by omega) ?_) | (with_reducible refine exP (by omega) ?_) | (with_reducible apply And.intro))))
      all_goals first | rfl | (exfalso; omega)
    have hw : walkE g t (f + 1) i p q s = if fitV g t[i] p q s then kidsW (walkE g t f) i t[i].kids (fRul g.rules t[i].rule).right 0 (i + 1) else -1 := by simp only [walkE, if_pos hi, getD_lt hi]
    have hkk := hk _ (List.getElem_mem hi)
    have hr := smRu_f hg t[i].rule
    have hrr := hr.1
    rw [hw]
    by_cases hv : fitV g t[i] p q s = true
    · rw [if_pos hv]
      obtain ⟨h1, h2, h3, h4, h5, h6, h7⟩ := fitV_iff.1 hv
      subst h2 h3 h4
      clear hw hv
      have hR : ∃ R, fRul g.rules t[i].rule = R := ⟨_, rfl⟩
      obtain ⟨R, hR⟩ := hR
      rw [hR] at hr hrr h5 h7 ⊢
      have main : ∀ (Q : Exit → Env → GH → Prop), True := fun _ => trivial
      rcases h7 with h7 | h7
      · (repeat' (first | (with_reducible refine callS.eq (w183 _ _ hg) ?_) | (with_reducible refine callS.eq (w230 _ _) ?_) | simp (maxSteps := 2000000) only [↓ S2, S2, vIte, ↓reduceIte, Int.reduceNe, Nat.reduceEqDiff, reduceCtorEq, Nat.reduceLeDiff, Nat.reduceAdd, Nat.reduceLT, h1, h5, okV1, eq_true h6, h7, hR] | simp only [brGen] | simp +contextual (disch := omega) only [Z2] | (with_reducible intro h) | (with_reducible refine And.intro (by omega) ?_) | (with_reducible refine exP (by omega) ?_) | (with_reducible apply And.intro)))
        all_goals try (exfalso; omega)
        have hVV : ∃ V, kidsW (walkE g t f) i t[i].kids R.right 0 (i + 1) = V := ⟨_, rfl⟩
        obtain ⟨V, hVV⟩ := hVV
        rw [hVV]
        refine wloop mxd (ι := { x : Nat × Int // x.1 ≤ R.right.length ∧ (i : Int) < x.2 ∧ x.2 ≤ t.length ∧ kidsW (walkE g t f) i (t[i].kids.drop x.1) (R.right.drop x.1) x.1 x.2 = V }) (fun x => [(2, I i), (6, .rop 2 (Gr g)), (7, .rop 1 (Tr t)), (13, .rop 6 (Nd t[i])), (14, .rop 6 (Ru R)), (16, I x.1.2), (17, I x.1.1)]) (fun _ => []) (fun x => R.right.length - x.1.1) ⟨(0, i + 1), by simp, by simp; omega, by simp; omega, by simpa using hVV⟩ (by simp [E2, h7]) rfl ?_
        rintro ⟨⟨k, a⟩, hk1, ha1, ha2, hV⟩
        dsimp only at hk1 ha1 ha2 hV ⊢
        rcases Nat.lt_or_ge k R.right.length with hlt | hge
        · rw [kidsW_step (by omega) hlt] at hV
          by_cases hc : t[i].kids[k] = a
          · rw [if_neg (by simpa using hc)] at hV
            obtain ⟨m, rfl⟩ : ∃ m : Nat, a = m := ⟨a.toNat, by omega⟩
            have hm := walkE_ge (g := g) (t := t) f m i ((k : Int) + 1) R.right[k]
            simp only [Int.toNat_natCast] at hV
            (repeat' (first | (with_reducible refine callS.eq (ih m _ _ _ (by omega)) ?_) | simp (maxSteps := 2000000) only [↓ S2, S2, vIte, ↓reduceIte, Int.reduceNe, Nat.reduceEqDiff, reduceCtorEq, Nat.reduceLeDiff, Nat.reduceAdd, Nat.reduceLT, h5, hc] | simp only [brGen] | simp +contextual (disch := omega) only [Z2] | (with_reducible intro h) | (with_reducible refine And.intro (by omega) ?_) | (with_reducible refine exP (by omega) ?_) | (with_reducible apply And.intro)))
            all_goals try (exfalso; omega)
            · rw [if_pos (by assumption)] at hV; rw [← hV]
            · rw [if_neg (by assumption)] at hV
              exact nx ⟨(k + 1, walkE g t f m i ((k : Int) + 1) R.right[k]), by omega, by dsimp only; omega, by dsimp only; omega, hV⟩ (by simp; omega) (by simp [E2]) rfl
          · rw [if_pos (by simpa using hc)] at hV
            (repeat' (first | (with_reducible refine callS.eq (ih _ _ _ _ (by omega)) ?_) | simp (maxSteps := 2000000) only [↓ S2, S2, vIte, ↓reduceIte, Int.reduceNe, Nat.reduceEqDiff, reduceCtorEq, Nat.reduceLeDiff, Nat.reduceAdd, Nat.reduceLT, h5, hc] | simp only [brGen] | simp +contextual (disch := omega) only [Z2] | (with_reducible intro h) | (with_reducible refine And.intro (by omega) ?_) | (with_reducible refine exP (by omega) ?_) | (with_reducible apply And.intro)))
            all_goals first | (rw [← hV]; done) | (exfalso; omega)
        · rw [kidsW_end (by omega)] at hV
          ((try with_reducible refine mkQI ?_); (repeat ((first | (with_reducible refine mkQU ?_) | simp only [brGen]); try simp (maxSteps := 2000000) only [↓ S2, S2, vIte, ↓reduceIte, Int.reduceNe, Nat.reduceEqDiff, reduceCtorEq, Nat.reduceLeDiff, Nat.reduceAdd, Nat.reduceLT])); (try simp +contextual (disch := omega) only [Z2]); (repeat' (first | (with_reducible intro h) | (with_reducible refine And.intro (by omega) ?_) | (with_reducible refine exP (by omega) ?_) | (with_reducible apply And.intro))))
          all_goals first | (rw [← hV]; done) | (exfalso; omega)
      · (repeat' (first | (with_reducible refine callS.eq (w183 _ _ hg) ?_) | (with_reducible refine callS.eq (w230 _ _) ?_) | simp (maxSteps := 2000000) only [↓ S2, S2, vIte, ↓reduceIte, Int.reduceNe, Nat.reduceEqDiff, reduceCtorEq, Nat.reduceLeDiff, Nat.reduceAdd, Nat.reduceLT, h1, h5, okV1, eq_true h6, h7.1, eq_true h7.2, hR] | simp only [brGen] | simp +contextual (disch := omega) only [Z2] | (with_reducible intro h) | (with_reducible refine And.intro (by omega) ?_) | (with_reducible refine exP (by omega) ?_) | (with_reducible apply And.intro)))
        all_goals try (exfalso; omega)
        have hVV : ∃ V, kidsW (walkE g t f) i t[i].kids R.right 0 (i + 1) = V := ⟨_, rfl⟩
        obtain ⟨V, hVV⟩ := hVV
        rw [hVV]
        refine wloop mxd (ι := { x : Nat × Int // x.1 ≤ R.right.length ∧ (i : Int) < x.2 ∧ x.2 ≤ t.length ∧ kidsW (walkE g t f) i (t[i].kids.drop x.1) (R.right.drop x.1) x.1 x.2 = V }) (fun x => [(2, I i), (6, .rop 2 (Gr g)), (7, .rop 1 (Tr t)), (13, .rop 6 (Nd t[i])), (14, .rop 6 (Ru R)), (16, I x.1.2), (17, I x.1.1)]) (fun _ => []) (fun x => R.right.length - x.1.1) ⟨(0, i + 1), by simp, by simp; omega, by simp; omega, by simpa using hVV⟩ (by simp [E2, h7]) rfl ?_
        rintro ⟨⟨k, a⟩, hk1, ha1, ha2, hV⟩
        dsimp only at hk1 ha1 ha2 hV ⊢
        rcases Nat.lt_or_ge k R.right.length with hlt | hge
        · rw [kidsW_step (by omega) hlt] at hV
          by_cases hc : t[i].kids[k] = a
          · rw [if_neg (by simpa using hc)] at hV
            obtain ⟨m, rfl⟩ : ∃ m : Nat, a = m := ⟨a.toNat, by omega⟩
            have hm := walkE_ge (g := g) (t := t) f m i ((k : Int) + 1) R.right[k]
            simp only [Int.toNat_natCast] at hV
            (repeat' (first | (with_reducible refine callS.eq (ih m _ _ _ (by omega)) ?_) | simp (maxSteps := 2000000) only [↓ S2, S2, vIte, ↓reduceIte, Int.reduceNe, Nat.reduceEqDiff, reduceCtorEq, Nat.reduceLeDiff, Nat.reduceAdd, Nat.reduceLT, h5, hc] | simp only [brGen] | simp +contextual (disch := omega) only [Z2] | (with_reducible intro h) | (with_reducible refine And.intro (by omega) ?_) | (with_reducible refine exP (by omega) ?_) | (with_reducible apply And.intro)))
            all_goals try (exfalso; omega)
            · rw [if_pos (by assumption)] at hV; rw [← hV]
            · rw [if_neg (by assumption)] at hV
              exact nx ⟨(k + 1, walkE g t f m i ((k : Int) + 1) R.right[k]), by omega, by dsimp only; omega, by dsimp only; omega, hV⟩ (by simp; omega) (by simp [E2]) rfl
          · rw [if_pos (by simpa using hc)] at hV
            (repeat' (first | (with_reducible refine callS.eq (ih _ _ _ _ (by omega)) ?_) | simp (maxSteps := 2000000) only [↓ S2, S2, vIte, ↓reduceIte, Int.reduceNe, Nat.reduceEqDiff, reduceCtorEq, Nat.reduceLeDiff, Nat.reduceAdd, Nat.reduceLT, h5, hc] | simp only [brGen] | simp +contextual (disch := omega) only [Z2] | (with_reducible intro h) | (with_reducible refine And.intro (by omega) ?_) | (with_reducible refine exP (by omega) ?_) | (with_reducible apply And.intro)))
            all_goals first | (rw [← hV]; done) | (exfalso; omega)
        · rw [kidsW_end (by omega)] at hV
          ((try with_reducible refine mkQI ?_); (repeat ((first | (with_reducible refine mkQU ?_) | simp only [brGen]); try simp (maxSteps := 2000000) only [↓ S2, S2, vIte, ↓reduceIte, Int.reduceNe, Nat.reduceEqDiff, reduceCtorEq, Nat.reduceLeDiff, Nat.reduceAdd, Nat.reduceLT])); (try simp +contextual (disch := omega) only [Z2]); (repeat' (first | (with_reducible intro h) | (with_reducible refine And.intro (by omega) ?_) | (with_reducible refine exP (by omega) ?_) | (with_reducible apply And.intro))))
          all_goals first | (rw [← hV]; done) | (exfalso; omega)
    · rw [if_neg hv]
      rw [fitV_iff] at hv
      (repeat' (first | (with_reducible refine callS.eq (w183 _ _ hg) ?_) | (with_reducible refine callS.eq (w230 _ _) ?_) | simp (maxSteps := 2000000) only [↓ S2, S2, vIte, ↓reduceIte, Int.reduceNe, Nat.reduceEqDiff, reduceCtorEq, Nat.reduceLeDiff, Nat.reduceAdd, Nat.reduceLT] | simp only [brGen] | simp +contextual (disch := omega) only [Z2] | (with_reducible intro h) | (with_reducible refine And.intro (by omega) ?_) | (with_reducible refine exP (by omega) ?_) | (with_reducible apply And.intro)))
      all_goals try rfl
      all_goals (exfalso; apply hv; simp_all only [okV1, decide_eq_true_eq, decide_eq_false_iff_not, true_and, and_true, or_true, true_or, not_true_eq_false, not_false_eq_true]; done)
set_option maxHeartbeats 2000000 in
theorem w250 (g : Gram) (t : List Nod) (hg : smGr g) (hl : t.length ≤ 1048576) (hk : ∀ x ∈ t, x.kids.length ≤ 1048576) : ∀ (f i : Nat) (p q : Int) (s : ByteArray), t.length ≤ i + f → Pure Tryz.prog 250 [Gr g, Tr t, I i, I p, I q, T s] (· = I (walkE g t f i p q s)) := by
  intro f
  induction f with
  | zero =>
    intro i p q s hf
    refine gstart mxd i250 rfl (by simp) ?_; simp (maxSteps := 2000000) only [↓ S2, S2, vIte, ↓reduceIte, Int.reduceNe, Nat.reduceEqDiff, reduceCtorEq, Nat.reduceLeDiff, Nat.reduceAdd, Nat.reduceLT]
    ((try with_reducible refine mkQI ?_); (repeat ((first | (with_reducible refine mkQU ?_) | simp only [brGen]); try simp (maxSteps := 2000000) only [↓ S2, S2, vIte, ↓reduceIte, Int.reduceNe, Nat.reduceEqDiff, reduceCtorEq, Nat.reduceLeDiff, Nat.reduceAdd, Nat.reduceLT])); (try simp +contextual (disch := omega) only [Z2]); (repeat' (first | (with_reducible intro h) | (with_reducible refine And.intro (by omega) ?_) | (with_reducible refine exP (by omega) ?_) | (with_reducible apply And.intro))))
    all_goals first | rfl | (exfalso; omega)
  | succ f ih =>
    intro i p q s hf
    refine gstart mxd i250 rfl (by simp) ?_; simp (maxSteps := 2000000) only [↓ S2, S2, vIte, ↓reduceIte, Int.reduceNe, Nat.reduceEqDiff, reduceCtorEq, Nat.reduceLeDiff, Nat.reduceAdd, Nat.reduceLT]
    by_cases hi : i < t.length
    rotate_left
    · rw [walkE_out (by omega)]
      ((try with_reducible refine mkQI ?_); (repeat ((first | (with_reducible refine mkQU ?_) | simp only [brGen]); try simp (maxSteps := 2000000) only [↓ S2, S2, vIte, ↓reduceIte, Int.reduceNe, Nat.reduceEqDiff, reduceCtorEq, Nat.reduceLeDiff, Nat.reduceAdd, Nat.reduceLT])); (try simp +contextual (disch := omega) only [Z2]); (repeat' (first | (with_reducible intro h) | (with_reducible refine And.intro (by omega) ?_) | (with_reducible refine exP (by omega) ?_) | (with_reducible apply And.intro))))
      all_goals first | rfl | (exfalso; omega)
    have hw : walkE g t (f + 1) i p q s = if fitV g t[i] p q s then kidsW (walkE g t f) i t[i].kids (fRul g.rules t[i].rule).right 0 (i + 1) else -1 := by simp only [walkE, if_pos hi, getD_lt hi]
    have hkk := hk _ (List.getElem_mem hi)
    have hr := smRu_f hg t[i].rule
    have hrr := hr.1
    rw [hw]
    by_cases hv : fitV g t[i] p q s = true
    · rw [if_pos hv]
      obtain ⟨h1, h2, h3, h4, h5, h6, h7⟩ := fitV_iff.1 hv
      subst h2 h3 h4
      clear hw hv
      have hR : ∃ R, fRul g.rules t[i].rule = R := ⟨_, rfl⟩
      obtain ⟨R, hR⟩ := hR
      rw [hR] at hr hrr h5 h7 ⊢
      have main : ∀ (Q : Exit → Env → GH → Prop), True := fun _ => trivial
      rcases h7 with h7 | h7
      · (repeat' (first | (with_reducible refine callS.eq (w202 _ _ hg) ?_) | (with_reducible refine callS.eq (w73 _ _ _) ?_) | simp (maxSteps := 2000000) only [↓ S2, S2, vIte, ↓reduceIte, Int.reduceNe, Nat.reduceEqDiff, reduceCtorEq, Nat.reduceLeDiff, Nat.reduceAdd, Nat.reduceLT, h1, h5, eq_true h6, h7, hR] | simp only [brGen] | simp +contextual (disch := omega) only [Z2] | (with_reducible intro h) | (with_reducible refine And.intro (by omega) ?_) | (with_reducible refine exP (by omega) ?_) | (with_reducible apply And.intro)))
        all_goals try (exfalso; omega)
        have hVV : ∃ V, kidsW (walkE g t f) i t[i].kids R.right 0 (i + 1) = V := ⟨_, rfl⟩
        obtain ⟨V, hVV⟩ := hVV
        rw [hVV]
        refine wloop mxd (ι := { x : Nat × Int // x.1 ≤ R.right.length ∧ (i : Int) < x.2 ∧ x.2 ≤ t.length ∧ kidsW (walkE g t f) i (t[i].kids.drop x.1) (R.right.drop x.1) x.1 x.2 = V }) (fun x => [(2, I i), (6, .rop 2 (Gr g)), (7, .rop 1 (Tr t)), (14, .rop 6 (Ru R)), (16, I x.1.2), (84, IS t[i].kids), (85, I R.right.length), (86, I x.1.1)]) (fun _ => []) (fun x => R.right.length - x.1.1) ⟨(0, i + 1), by simp, by simp; omega, by simp; omega, by simpa using hVV⟩ (by simp [E2, h7]) rfl ?_
        rintro ⟨⟨k, a⟩, hk1, ha1, ha2, hV⟩
        dsimp only at hk1 ha1 ha2 hV ⊢
        rcases Nat.lt_or_ge k R.right.length with hlt | hge
        · rw [kidsW_step (by omega) hlt] at hV
          by_cases hc : t[i].kids[k] = a
          · rw [if_neg (by simpa using hc)] at hV
            obtain ⟨m, rfl⟩ : ∃ m : Nat, a = m := ⟨a.toNat, by omega⟩
            have hm := walkE_ge (g := g) (t := t) f m i ((k : Int) + 1) R.right[k]
            simp only [Int.toNat_natCast] at hV
            (repeat' (first | (with_reducible refine callS.eq (ih m _ _ _ (by omega)) ?_) | simp (maxSteps := 2000000) only [↓ S2, S2, vIte, ↓reduceIte, Int.reduceNe, Nat.reduceEqDiff, reduceCtorEq, Nat.reduceLeDiff, Nat.reduceAdd, Nat.reduceLT, h5, hc] | simp only [brGen] | simp +contextual (disch := omega) only [Z2] | (with_reducible intro h) | (with_reducible refine And.intro (by omega) ?_) | (with_reducible refine exP (by omega) ?_) | (with_reducible apply And.intro)))
            all_goals try (exfalso; omega)
            · rw [if_pos (by assumption)] at hV; rw [← hV]
            · rw [if_neg (by assumption)] at hV
              exact nx ⟨(k + 1, walkE g t f m i ((k : Int) + 1) R.right[k]), by omega, by dsimp only; omega, by dsimp only; omega, hV⟩ (by simp; omega) (by simp [E2]) rfl
          · rw [if_pos (by simpa using hc)] at hV
            (repeat' (first | (with_reducible refine callS.eq (ih _ _ _ _ (by omega)) ?_) | simp (maxSteps := 2000000) only [↓ S2, S2, vIte, ↓reduceIte, Int.reduceNe, Nat.reduceEqDiff, reduceCtorEq, Nat.reduceLeDiff, Nat.reduceAdd, Nat.reduceLT, h5, hc] | simp only [brGen] | simp +contextual (disch := omega) only [Z2] | (with_reducible intro h) | (with_reducible refine And.intro (by omega) ?_) | (with_reducible refine exP (by omega) ?_) | (with_reducible apply And.intro)))
            all_goals first | (rw [← hV]; done) | (exfalso; omega)
        · rw [kidsW_end (by omega)] at hV
          ((try with_reducible refine mkQI ?_); (repeat ((first | (with_reducible refine mkQU ?_) | simp only [brGen]); try simp (maxSteps := 2000000) only [↓ S2, S2, vIte, ↓reduceIte, Int.reduceNe, Nat.reduceEqDiff, reduceCtorEq, Nat.reduceLeDiff, Nat.reduceAdd, Nat.reduceLT])); (try simp +contextual (disch := omega) only [Z2]); (repeat' (first | (with_reducible intro h) | (with_reducible refine And.intro (by omega) ?_) | (with_reducible refine exP (by omega) ?_) | (with_reducible apply And.intro))))
          all_goals first | (rw [← hV]; done) | (exfalso; omega)
      · (repeat' (first | (with_reducible refine callS.eq (w202 _ _ hg) ?_) | (with_reducible refine callS.eq (w73 _ _ _) ?_) | simp (maxSteps := 2000000) only [↓ S2, S2, vIte, ↓reduceIte, Int.reduceNe, Nat.reduceEqDiff, reduceCtorEq, Nat.reduceLeDiff, Nat.reduceAdd, Nat.reduceLT, h1, h5, eq_true h6, h7.1, eq_true h7.2, hR] | simp only [brGen] | simp +contextual (disch := omega) only [Z2] | (with_reducible intro h) | (with_reducible refine And.intro (by omega) ?_) | (with_reducible refine exP (by omega) ?_) | (with_reducible apply And.intro)))
        all_goals try (exfalso; omega)
        have hVV : ∃ V, kidsW (walkE g t f) i t[i].kids R.right 0 (i + 1) = V := ⟨_, rfl⟩
        obtain ⟨V, hVV⟩ := hVV
        rw [hVV]
        refine wloop mxd (ι := { x : Nat × Int // x.1 ≤ R.right.length ∧ (i : Int) < x.2 ∧ x.2 ≤ t.length ∧ kidsW (walkE g t f) i (t[i].kids.drop x.1) (R.right.drop x.1) x.1 x.2 = V }) (fun x => [(2, I i), (6, .rop 2 (Gr g)), (7, .rop 1 (Tr t)), (14, .rop 6 (Ru R)), (16, I x.1.2), (84, IS t[i].kids), (85, I R.right.length), (86, I x.1.1)]) (fun _ => []) (fun x => R.right.length - x.1.1) ⟨(0, i + 1), by simp, by simp; omega, by simp; omega, by simpa using hVV⟩ (by simp [E2, h7]) rfl ?_
        rintro ⟨⟨k, a⟩, hk1, ha1, ha2, hV⟩
        dsimp only at hk1 ha1 ha2 hV ⊢
        rcases Nat.lt_or_ge k R.right.length with hlt | hge
        · rw [kidsW_step (by omega) hlt] at hV
          by_cases hc : t[i].kids[k] = a
          · rw [if_neg (by simpa using hc)] at hV
            obtain ⟨m, rfl⟩ : ∃ m : Nat, a = m := ⟨a.toNat, by omega⟩
            have hm := walkE_ge (g := g) (t := t) f m i ((k : Int) + 1) R.right[k]
            simp only [Int.toNat_natCast] at hV
            (repeat' (first | (with_reducible refine callS.eq (ih m _ _ _ (by omega)) ?_) | simp (maxSteps := 2000000) only [↓ S2, S2, vIte, ↓reduceIte, Int.reduceNe, Nat.reduceEqDiff, reduceCtorEq, Nat.reduceLeDiff, Nat.reduceAdd, Nat.reduceLT, h5, hc] | simp only [brGen] | simp +contextual (disch := omega) only [Z2] | (with_reducible intro h) | (with_reducible refine And.intro (by omega) ?_) | (with_reducible refine exP (by omega) ?_) | (with_reducible apply And.intro)))
            all_goals try (exfalso; omega)
            · rw [if_pos (by assumption)] at hV; rw [← hV]
            · rw [if_neg (by assumption)] at hV
              exact nx ⟨(k + 1, walkE g t f m i ((k : Int) + 1) R.right[k]), by omega, by dsimp only; omega, by dsimp only; omega, hV⟩ (by simp; omega) (by simp [E2]) rfl
          · rw [if_pos (by simpa using hc)] at hV
            (repeat' (first | (with_reducible refine callS.eq (ih _ _ _ _ (by omega)) ?_) | simp (maxSteps := 2000000) only [↓ S2, S2, vIte, ↓reduceIte, Int.reduceNe, Nat.reduceEqDiff, reduceCtorEq, Nat.reduceLeDiff, Nat.reduceAdd, Nat.reduceLT, h5, hc] | simp only [brGen] | simp +contextual (disch := omega) only [Z2] | (with_reducible intro h) | (with_reducible refine And.intro (by omega) ?_) | (with_reducible refine exP (by omega) ?_) | (with_reducible apply And.intro)))
            all_goals first | (rw [← hV]; done) | (exfalso; omega)
        · rw [kidsW_end (by omega)] at hV
          ((try with_reducible refine mkQI ?_); (repeat ((first | (with_reducible refine mkQU ?_) | simp only [brGen]); try simp (maxSteps := 2000000) only [↓ S2, S2, vIte, ↓reduceIte, Int.reduceNe, Nat.reduceEqDiff, reduceCtorEq, Nat.reduceLeDiff, Nat.reduceAdd, Nat.reduceLT])); (try simp +contextual (disch := omega) only [Z2]); (repeat' (first | (with_reducible intro h) | (with_reducible refine And.intro (by omega) ?_) | (with_reducible refine exP (by omega) ?_) | (with_reducible apply And.intro))))
          all_goals first | (rw [← hV]; done) | (exfalso; omega)
    · rw [if_neg hv]
      rw [fitV_iff] at hv
      (repeat' (first | (with_reducible refine callS.eq (w202 _ _ hg) ?_) | (with_reducible refine callS.eq (w73 _ _ _) ?_) | simp (maxSteps := 2000000) only [↓ S2, S2, vIte, ↓reduceIte, Int.reduceNe, Nat.reduceEqDiff, reduceCtorEq, Nat.reduceLeDiff, Nat.reduceAdd, Nat.reduceLT] | simp only [brGen] | simp +contextual (disch := omega) only [Z2] | (with_reducible intro h) | (with_reducible refine And.intro (by omega) ?_) | (with_reducible refine exP (by omega) ?_) | (with_reducible apply And.intro)))
      all_goals try rfl
      all_goals (exfalso; apply hv; simp_all only [okV1, decide_eq_true_eq, decide_eq_false_iff_not, true_and, and_true, or_true, true_or, not_true_eq_false, not_false_eq_true]; done)
end Go.Proofs.YtbdmpkidcpblaaaGreat

namespace Go.Proofs.YtbdmpkidcpblaaaGreat
open Go.Gh
set_option maxRecDepth 20000
set_option linter.unusedSimpArgs false
set_option linter.unusedVariables false
theorem w130 (l : List Int) (x : Int) : Pure Tryz.prog 130 [IS l, I x] (· = B (hasI l x)) := by
  refine GCalls.lenA fun hl => ?_
  have hlen := hl.1.1
  simp only [List.length_map, maxL] at hlen
  refine gstart mxd i130 rfl (by simp) ?_; simp (maxSteps := 2000000) only [↓ S2, S2, vIte, ↓reduceIte, Int.reduceNe, Nat.reduceEqDiff, reduceCtorEq, Nat.reduceLeDiff, Nat.reduceAdd, Nat.reduceLT]
  refine wloop mxd (ι := { i : Nat // i ≤ l.length ∧ ∀ y ∈ l.take i, decide (y = x) = false }) (fun i => [(0, IS l), (1, I x), (5, I i.1)]) (fun _ => []) (fun i => l.length - i.1) ⟨0, by simp⟩ (by simp [E2]) rfl ?_
  rintro ⟨i, hi, hn⟩
  ((try with_reducible refine mkQI ?_); (repeat ((first | (with_reducible refine mkQU ?_) | simp only [brGen]); try simp (maxSteps := 2000000) only [↓ S2, S2, vIte, ↓reduceIte, Int.reduceNe, Nat.reduceEqDiff, reduceCtorEq, Nat.reduceLeDiff, Nat.reduceAdd, Nat.reduceLT])); (try simp +contextual (disch := omega) only [Z2]); (repeat' (first | (with_reducible intro h) | (with_reducible refine And.intro (by omega) ?_) | (with_reducible refine exP (by omega) ?_) | (with_reducible apply And.intro))))
  · rw [hasI_hit (by assumption) h]
  · exact nx ⟨i + 1, by omega, take_step (by assumption) (by simpa using h) hn⟩ (by simp; omega) (by simp [E2]) rfl
  · have : i = l.length := by omega
    subst this
    rw [List.take_of_length_le (Nat.le_refl _)] at hn
    rw [hasI_none hn]
theorem w181 (t : List Nod) (hl : t.length ≤ 1048576) : Pure Tryz.prog 181 [Tr t] (· = B (idsV t && decide (1 ≤ t.length ∧ t.length ≤ 16))) := by
  refine Pure.bor ?_
  refine gstart mxd i181 rfl (by simp) ?_; simp (maxSteps := 2000000) only [↓ S2, S2, vIte, ↓reduceIte, Int.reduceNe, Nat.reduceEqDiff, reduceCtorEq, Nat.reduceLeDiff, Nat.reduceAdd, Nat.reduceLT]
  ((try with_reducible refine mkQI ?_); (repeat ((first | (with_reducible refine mkQU ?_) | simp only [brGen]); try simp (maxSteps := 2000000) only [↓ S2, S2, vIte, ↓reduceIte, Int.reduceNe, Nat.reduceEqDiff, reduceCtorEq, Nat.reduceLeDiff, Nat.reduceAdd, Nat.reduceLT])); (try simp +contextual (disch := omega) only [Z2]); (repeat' (first | (with_reducible intro h) | (with_reducible refine And.intro (by omega) ?_) | (with_reducible refine exP (by omega) ?_) | (with_reducible apply And.intro))))
  rename_i r
  refine ploop mxd (ι := { x : Nat × Nat // x.2 ≤ t.length ∧ ∀ j, j < x.2 → gid t j = true }) (fun x => [(1, .rop 1 (Tr t)), (3, .own x.1.1 1 0 x.1.2), (4, I x.1.2)]) (fun x => [(x.1.1, 1, ((t.take x.1.2).map (·.id)).map I)]) (fun x => t.length - x.1.2) ⟨(r, 0), by simp⟩ (by simp [E2]) (by simp [subH, hget, names]) ?_
  rintro ⟨⟨r, i⟩, hi, hn⟩ -
  dsimp only at hi hn ⊢
  rcases Nat.lt_or_ge i t.length with hlt | hge
  · (repeat' (first | (with_reducible refine callS.eq (w85 _ _ _) ?_) | simp (maxSteps := 2000000) only [↓ S2, S2, vIte, ↓reduceIte, Int.reduceNe, Nat.reduceEqDiff, reduceCtorEq, Nat.reduceLeDiff, Nat.reduceAdd, Nat.reduceLT] | simp only [brGen] | simp +contextual (disch := omega) only [Z2] | (with_reducible intro h) | (with_reducible refine And.intro (by omega) ?_) | (with_reducible refine exP (by omega) ?_) | (with_reducible apply And.intro)))
    all_goals try (exfalso; omega)
    · refine callS.borA (w130 ((t.take i).map (·.id)) t[i].id) (.cons (bor_IS hget_new (by simp; omega)) (.cons .refl .nil)) rfl ?_
      ((try with_reducible refine mkQI ?_); (repeat ((first | (with_reducible refine mkQU ?_) | simp only [brGen]); try simp (maxSteps := 2000000) only [↓ S2, S2, vIte, ↓reduceIte, Int.reduceNe, Nat.reduceEqDiff, reduceCtorEq, Nat.reduceLeDiff, Nat.reduceAdd, Nat.reduceLT])); (try simp +contextual (disch := omega) only [Z2]); (repeat' (first | (with_reducible intro h) | (with_reducible refine And.intro (by omega) ?_) | (with_reducible refine exP (by omega) ?_) | (with_reducible apply And.intro))))
      · rw [hasI_map] at h
        rw [idsV_bad hlt (gid_f2 hlt h)]
        exact .refl
      · rename_i q2
        have h2 := neH_of h
        (replace h2 := h2; simp only [neH_cons, neH_nil, neA_cons, neA_nil, and_true, true_and] at h2)
        ((try with_reducible refine mkQI ?_); (repeat ((first | (with_reducible refine mkQU ?_) | simp only [brGen]); try simp (maxSteps := 2000000) only [↓ S2, S2, vIte, ↓reduceIte, Int.reduceNe, Nat.reduceEqDiff, reduceCtorEq, Nat.reduceLeDiff, Nat.reduceAdd, Nat.reduceLT, hget_c, hset_c, hdel_c, h2, t_ldf])); (try simp +contextual (disch := omega) only [Z2, hget_c, hset_c, hdel_c, h2, t_ldf]); (repeat' (first | (with_reducible intro h) | (with_reducible refine And.intro (by omega) ?_) | (with_reducible refine exP (by omega) ?_) | (with_reducible apply And.intro))))
        · simp; omega
        rename_i hh _ _ _ q3
        have h3 := neH_of h
        (replace h3 := h3; simp only [neH_cons, neH_nil, neA_cons, neA_nil, and_true, true_and] at h3)
        rw [takeApp2 I (·.id) t i hlt]
        refine px ⟨(q3, i + 1), by omega, fun j hj => ?_⟩ (by simp; omega) (by simp [E2]) (by simp [subH, hget, names, h3])
        rcases Nat.lt_or_ge j i with hji | hji
        · exact hn j hji
        · have : j = i := by omega
          subst this
          exact gid_t hlt (by assumption) (by rw [← hasI_map]; assumption)
    · rw [idsV_bad hlt (gid_f1 hlt (by assumption))]
      exact .refl
  · have : i = t.length := by omega
    subst this
    (repeat' (first | (with_reducible refine callS.eq (w85 _ _ _) ?_) | simp (maxSteps := 2000000) only [↓ S2, S2, vIte, ↓reduceIte, Int.reduceNe, Nat.reduceEqDiff, reduceCtorEq, Nat.reduceLeDiff, Nat.reduceAdd, Nat.reduceLT] | simp only [brGen] | simp +contextual (disch := omega) only [Z2] | (with_reducible intro h) | (with_reducible refine And.intro (by omega) ?_) | (with_reducible refine exP (by omega) ?_) | (with_reducible apply And.intro)))
    have e : B (decide (1 ≤ (t.length : Int) ∧ (t.length : Int) ≤ 16)) = B (idsV t && decide (1 ≤ t.length ∧ t.length ≤ 16)) := by rw [idsV_ok hn, Bool.true_and]; exact bEq (by omega)
    rw [← e]
    exact .refl
theorem w249 (x y : Nod) : Pure Tryz.prog 249 [Nd x, .rop 6 (Nd y)] (· = B (decide (x.id = y.id))) := by
  refine gstart mxd i249 rfl (by simp) ?_; simp (maxSteps := 2000000) only [↓ S2, S2, vIte, ↓reduceIte, Int.reduceNe, Nat.reduceEqDiff, reduceCtorEq, Nat.reduceLeDiff, Nat.reduceAdd, Nat.reduceLT]
  try ((try with_reducible refine mkQI ?_); (repeat ((first | (with_reducible refine mkQU ?_) | simp only [brGen]); try simp (maxSteps := 2000000) only [↓ S2, S2, vIte, ↓reduceIte, Int.reduceNe, Nat.reduceEqDiff, reduceCtorEq, Nat.reduceLeDiff, Nat.reduceAdd, Nat.reduceLT])); (try simp +contextual (disch := omega) only [Z2]); (repeat' (first | (with_reducible intro h) | (with_reducible refine And.intro (by omega) ?_) | (with_reducible refine exP (by omega) ?_) | (with_reducible apply And.intro))))
theorem w248 (t : List Nod) (f : Nat) (cs : List GV) (p : Nod → Bool) (hp : ∀ x ∈ t, Pure Tryz.prog f (Nd x :: cs) (· = B (p x))) :
    Pure Tryz.prog 248 [NdS t, .clo f cs] (· = B (t.any p)) := by
  refine gstart mxd i248 rfl (by simp) ?_; simp (maxSteps := 2000000) only [↓ S2, S2, vIte, ↓reduceIte, Int.reduceNe, Nat.reduceEqDiff, reduceCtorEq, Nat.reduceLeDiff, Nat.reduceAdd, Nat.reduceLT]
  refine callS.eq (w251 t f cs p hp) ?_
  ((try with_reducible refine mkQI ?_); (repeat ((first | (with_reducible refine mkQU ?_) | simp only [brGen]); try simp (maxSteps := 2000000) only [↓ S2, S2, vIte, ↓reduceIte, Int.reduceNe, Nat.reduceEqDiff, reduceCtorEq, Nat.reduceLeDiff, Nat.reduceAdd, Nat.reduceLT])); (try simp +contextual (disch := omega) only [Z2]); (repeat' (first | (with_reducible intro h) | (with_reducible refine And.intro (by omega) ?_) | (with_reducible refine exP (by omega) ?_) | (with_reducible apply And.intro))))
  rw [← any_ix]
theorem w200 (g : Gram) (t : List Nod) (s : ByteArray) (hg : smGr g) (hl : t.length ≤ 1048576) (hk : ∀ x ∈ t, x.kids.length ≤ 1048576) : Pure Tryz.prog 200 [Gr g, Tr t, T s] (· = B (treeOf g t s)) := by
  refine gstart mxd i200 rfl (by simp) ?_; simp (maxSteps := 2000000) only [↓ S2, S2, vIte, ↓reduceIte, Int.reduceNe, Nat.reduceEqDiff, reduceCtorEq, Nat.reduceLeDiff, Nat.reduceAdd, Nat.reduceLT]
  refine callS.eq (w73 _ _ _) ?_
  ((try with_reducible refine mkQI ?_); (repeat ((first | (with_reducible refine mkQU ?_) | simp only [brGen]); try simp (maxSteps := 2000000) only [↓ S2, S2, vIte, ↓reduceIte, Int.reduceNe, Nat.reduceEqDiff, reduceCtorEq, Nat.reduceLeDiff, Nat.reduceAdd, Nat.reduceLT])); (try simp +contextual (disch := omega) only [Z2]); (repeat' (first | (with_reducible intro h) | (with_reducible refine And.intro (by omega) ?_) | (with_reducible refine exP (by omega) ?_) | (with_reducible apply And.intro))))
  rotate_left
  · simp only [treeOf]; rw [decide_eq_false (by omega)]; rfl
  refine wloop mxd (ι := { i : Nat // i ≤ t.length ∧ ∀ j, j < i → gid t j = true }) (fun i => [(2, T s), (3, .rop 2 (Gr g)), (4, .rop 1 (Tr t)), (15, NdS t), (16, I t.length), (17, I i.1)]) (fun _ => []) (fun i => t.length - i.1) ⟨0, by simp⟩ (by simp [E2]) rfl ?_
  rintro ⟨i, hi, hn⟩
  rcases Nat.lt_or_ge i t.length with hlt | hge
  · (repeat' (first | (with_reducible refine callS.eq (w73 _ _ _) ?_) | simp (maxSteps := 2000000) only [↓ S2, S2, vIte, ↓reduceIte, Int.reduceNe, Nat.reduceEqDiff, reduceCtorEq, Nat.reduceLeDiff, Nat.reduceAdd, Nat.reduceLT] | simp only [brGen] | simp +contextual (disch := omega) only [Z2] | (with_reducible intro h) | (with_reducible refine And.intro (by omega) ?_) | (with_reducible refine exP (by omega) ?_) | (with_reducible apply And.intro)))
    all_goals try (exfalso; omega)
    · rw [show List.drop (Int.toNat 0) (List.take i (List.map Nd t)) = (t.take i).map Nd from by simp [List.map_take]]
      refine callS.eq (w248 (t.take i) _ _ (fun y => decide (y.id = t[i].id)) fun x _ => w249 x t[i]) ?_
      ((try with_reducible refine mkQI ?_); (repeat ((first | (with_reducible refine mkQU ?_) | simp only [brGen]); try simp (maxSteps := 2000000) only [↓ S2, S2, vIte, ↓reduceIte, Int.reduceNe, Nat.reduceEqDiff, reduceCtorEq, Nat.reduceLeDiff, Nat.reduceAdd, Nat.reduceLT])); (try simp +contextual (disch := omega) only [Z2]); (repeat' (first | (with_reducible intro h) | (with_reducible refine And.intro (by omega) ?_) | (with_reducible refine exP (by omega) ?_) | (with_reducible apply And.intro))))
      · rw [treeOf_bad (idsV_bad hlt (gid_f2 hlt h))]
      · refine nx ⟨i + 1, by omega, fun j hj => ?_⟩ (by simp; omega) (by simp [E2]) rfl
        rcases Nat.lt_or_ge j i with hji | hji
        · exact hn j hji
        · have : j = i := by omega
          subst this
          exact gid_t hlt (by assumption) h
    · rw [treeOf_bad (idsV_bad hlt (gid_f1 hlt (by assumption)))]
  · have : i = t.length := by omega
    subst this
    have hw := w250 g t hg hl hk t.length 0 (-1) 0 s (by omega)
    simp only [Int.natCast_zero] at hw
    (repeat' (first | (with_reducible refine callS.eq (hw) ?_) | simp (maxSteps := 2000000) only [↓ S2, S2, vIte, ↓reduceIte, Int.reduceNe, Nat.reduceEqDiff, reduceCtorEq, Nat.reduceLeDiff, Nat.reduceAdd, Nat.reduceLT] | simp only [brGen] | simp +contextual (disch := omega) only [Z2] | (with_reducible intro h) | (with_reducible refine And.intro (by omega) ?_) | (with_reducible refine exP (by omega) ?_) | (with_reducible apply And.intro)))
    simp only [treeOf, idsV_ok hn, Bool.true_and]
    rw [decide_eq_true (show 1 ≤ t.length ∧ t.length ≤ 16 by omega), Bool.true_and]
theorem w114 (g : Gram) (t : List Nod) (s : ByteArray) (hg : smGr g) (hl : t.length ≤ 1048576) (hk : ∀ x ∈ t, x.kids.length ≤ 1048576) : Pure Tryz.prog 114 [Gr g, Tr t, T s] (· = B (treeOf g t s)) := by
  have hw := w182 g t hg hl hk t.length 0 (-1) 0 s (by omega)
  simp only [Int.natCast_zero] at hw
  refine gstart mxd i114 rfl (by simp) ?_; simp (maxSteps := 2000000) only [↓ S2, S2, vIte, ↓reduceIte, Int.reduceNe, Nat.reduceEqDiff, reduceCtorEq, Nat.reduceLeDiff, Nat.reduceAdd, Nat.reduceLT]
  (repeat' (first | (with_reducible refine callS.eq (w181 t hl) ?_) | (with_reducible refine callS.eq (hw) ?_) | simp (maxSteps := 2000000) only [↓ S2, S2, vIte, ↓reduceIte, Int.reduceNe, Nat.reduceEqDiff, reduceCtorEq, Nat.reduceLeDiff, Nat.reduceAdd, Nat.reduceLT] | simp only [brGen] | simp +contextual (disch := omega) only [Z2] | (with_reducible intro h) | (with_reducible refine And.intro (by omega) ?_) | (with_reducible refine exP (by omega) ?_) | (with_reducible apply And.intro)))
  all_goals first | (simp_all [treeOf]; done) | (simp_all [treeOf]; intros; omega)
end Go.Proofs.YtbdmpkidcpblaaaGreat

