/- The laws FnExactIsSolution and FnExactIsStatic return true whatever the input, and the input reads behind the call as before. No condition. -/
import Derived.Test.YtbdmpkidcpblaaaGreatCis1
import Derived.Test.YtbdmpkidcpblaaaGreatRows
import Derived.Test.YtbdmpkidcpblaaaGreatChecked
import Derived.KernelRfl
namespace Go.Proofs.YtbdmpkidcpblaaaGreat
open Go.Gh Go.Gh.Z
def g5 : GFun := ⟨⟨27,[1,5]⟩,(s [a 1 2 0,b 2 false] (s [k 3 1048576] (s [h 7 2 1,m 8 3,c 9 7 [.t 7,.t 8],m 3 9] (.seq (s [m 10 3,q 11 .lss 10 0] (.cond 11 (s [b 2 true] .ret) .skip)) (s [h 12 2 1,c 13 10 [.t 12],c 14 22 [.t 13],m 4 14]
 (s [h 15 2 1,c 16 10 [.t 15],x 5 (.allocr 2),x 5 (.stro 2 5 (.t 16))] (s [h 17 2 5,c 18 23 [.t 17],m 6 18] (.seq (s [m 19 6,m 20 4,x 21 (.beq true (.t 19) (.t 20))] (.cond 21 (s [b 2 false] .ret) .skip)) (.seq (s [h 22 2 5,h 23 2 1,x 24
 (.call true 10 [.t 23]),x 25 (.call true 14 [.t 22,.t 24]),w 26 25] (.cond 26 (s [b 2 false] .ret) .skip)) (s [b 2 true] .ret)))))))))),[.t 2]⟩
theorem i5 : IsFun Tryz.prog 5 g5 := ⟨Tryz.f5, _, [], Tryz.func5, by kernel_rfl, rfl, by kernel_rfl, by kernel_rfl, rfl⟩
def g6 : GFun := ⟨⟨61,[3,4,9,10]⟩,(s [a 3 2 0,a 4 1 1,b 6 false] (.seq (s [m 13 2,n 14 13,q 15 .gtr 14 1048576] (.cond 15 (s [b 6 true] .ret) .skip)) (s [k 7 1048576] (s [h 16 2 3,m 17 7,c 18 7 [.t 16,.t 17],m 7 18] (.seq (s [m 19 7,
 q 20 .lss 19 0] (.cond 20 (s [b 6 true] .ret) .skip)) (s [h 21 1 4,m 22 7,c 23 8 [.t 21,.t 22],m 7 23] (.seq (s [m 24 7,q 25 .lss 24 0] (.cond 25 (s [b 6 true] .ret) .skip)) (s [m 30 2,h 26 2 3,x 27 (.call true 10 [.t 26]),h 28 1 4,x 29
 (.call true 11 [.t 28]),x 31 (.call true 25 [.t 30]),x 32 (.call true 24 [.t 27,.t 29,.t 31]),m 8 32] (s [h 33 2 3,c 34 10 [.t 33],x 9 (.allocr 2),x 9 (.stro 2 9 (.t 34))] (s [h 35 1 4,c 36 11 [.t 35],x 10 (.allocr 1),x 10 (.stro 1 10
 (.t 36))] (s [m 37 2,c 38 25 [.t 37],m 11 38] (s [h 39 2 9,h 40 1 10,m 41 11,c 42 26 [.t 39,.t 40,.t 41],m 12 42] (.seq (s [m 43 12,m 44 8,x 45 (.beq true (.t 43) (.t 44))] (.cond 45 (s [b 6 false] .ret) .skip)) (.seq (s [h 46 2 9,
 h 47 2 3,x 48 (.call true 10 [.t 47]),x 49 (.call true 14 [.t 46,.t 48]),w 50 49] (.cond 50 (s [b 6 false] .ret) .skip)) (.seq (s [h 51 1 10,h 52 1 4,x 53 (.call true 11 [.t 52]),x 54 (.call true 15 [.t 51,.t 53]),w 55 54] (.cond 55
 (s [b 6 false] .ret) .skip)) (.seq (s [m 56 11,m 57 2,c 58 25 [.t 57],c 59 13 [.t 56,.t 58],w 60 59] (.cond 60 (s [b 6 false] .ret) .skip)) (s [b 6 true] .ret))))))))))))))))),[.t 6]⟩
theorem i6 : IsFun Tryz.prog 6 g6 := ⟨Tryz.f6, _, [], Tryz.func6, by kernel_rfl, rfl, by kernel_rfl, by kernel_rfl, rfl⟩
def g7 : GFun := ⟨⟨18,[2]⟩,(s [a 2 2 0,k 4 0] (s [f 5 0 2,l 6 5,m 7 1,c 8 27 [.t 6,.t 7],m 1 8] (.seq (s [m 9 1,q 10 .lss 9 0] (.cond 10 (s [k 4 (-1)] .ret) .skip)) (s [f 11 1 2,l 12 11,m 13 1,c 14 28 [.t 12,.t 13],m 1 14] (.seq (s [m 15 1,
 q 16 .lss 15 0] (.cond 16 (s [k 4 (-1)] .ret) .skip)) (s [m 17 1,m 4 17] .ret)))))),[.t 4]⟩
theorem i7 : IsFun Tryz.prog 7 g7 := ⟨Tryz.f7, _, [], Tryz.func7, by kernel_rfl, rfl, by kernel_rfl, by kernel_rfl, rfl⟩
def g8 : GFun := ⟨⟨12,[2]⟩,(s [a 2 1 0,k 4 0] (s [f 5 0 2,l 6 5,m 7 1,c 8 29 [.t 6,.t 7],m 1 8] (.seq (s [m 9 1,q 10 .lss 9 0] (.cond 10 (s [k 4 (-1)] .ret) .skip)) (s [m 11 1,m 4 11] .ret)))),[.t 4]⟩
theorem i8 : IsFun Tryz.prog 8 g8 := ⟨Tryz.f8, _, [], Tryz.func8, by kernel_rfl, rfl, by kernel_rfl, by kernel_rfl, rfl⟩
def g10 : GFun := ⟨⟨13,[1,2]⟩,(s [a 1 2 0,x 2 (.allocr 2)] (s [x 3 (.alloc 2 (.agg [(.val (.slice none 0 0)),(.val (.slice none 0 0))]))] (s [f 4 0 1,l 5 4,c 6 32 [.t 5],f 7 0 3,(.mk none none (.store 1 (.t 7) (.t 6)))] (s [f 8 1 1,l 9 8,
 c 10 33 [.t 9],f 11 1 3,(.mk none none (.store 1 (.t 11) (.t 10)))] (s [h 12 2 3,x 2 (.stro 2 2 (.t 12))] .ret))))),[(.c 2 2 true)]⟩
theorem i10 : IsFun Tryz.prog 10 g10 := ⟨Tryz.f10, _, [], Tryz.func10, by kernel_rfl, rfl, by kernel_rfl, by kernel_rfl, rfl⟩
def g11 : GFun := ⟨⟨9,[1,2]⟩,(s [a 1 1 0,x 2 (.allocr 1)] (s [x 3 (.alloc 1 (.agg [(.val (.slice none 0 0))]))] (s [f 4 0 1,l 5 4,c 6 34 [.t 5],f 7 0 3,(.mk none none (.store 1 (.t 7) (.t 6)))] (s [h 8 1 3,x 2 (.stro 1 2 (.t 8))] .ret)))),
 [(.c 2 1 true)]⟩
theorem i11 : IsFun Tryz.prog 11 g11 := ⟨Tryz.f11, _, [], Tryz.func11, by kernel_rfl, rfl, by kernel_rfl, by kernel_rfl, rfl⟩
def g13 : GFun := ⟨⟨26,[]⟩,(s [b 4 false] (.seq (s [m 6 0,n 7 6,m 8 1,n 9 8,o 10 .neq 7 9] (.cond 10 (s [b 4 false] .ret) .skip)) (.seq (s [k 5 0] (.block 0 (.loop (.seq (s [m 11 5,m 12 0,n 13 12,o 14 .lss 11 13] (.cond 14 .skip
 (.exit 0))) (.seq (.block 1 (s [m 17 0,m 18 5,i 19 1 17 18,m 21 1,m 22 5,i 23 1 21 22,l 20 19,l 24 23,o 25 .neq 20 24] (.cond 25 (s [b 4 false] .ret) .skip))) (.reg [m 15 5,q 16 .add 15 1,m 5 16])))))) (s [b 4 true] .ret)))),[.t 4]⟩
theorem i13 : IsFun Tryz.prog 13 g13 := ⟨Tryz.f13, _, [], Tryz.func13, by kernel_rfl, rfl, by kernel_rfl, by kernel_rfl, rfl⟩
def g14 : GFun := ⟨⟨17,[2,3]⟩,(s [a 2 2 0,a 3 2 1,b 4 false] (.seq (s [f 5 0 2,l 6 5,f 7 0 3,l 8 7,c 9 38 [.t 6,.t 8],w 10 9] (.cond 10 (s [b 4 false] .ret) .skip)) (.seq (s [f 11 1 2,l 12 11,f 13 1 3,l 14 13,c 15 39 [.t 12,.t 14],
 w 16 15] (.cond 16 (s [b 4 false] .ret) .skip)) (s [b 4 true] .ret)))),[.t 4]⟩
theorem i14 : IsFun Tryz.prog 14 g14 := ⟨Tryz.f14, _, [], Tryz.func14, by kernel_rfl, rfl, by kernel_rfl, by kernel_rfl, rfl⟩
def g15 : GFun := ⟨⟨11,[2,3]⟩,(s [a 2 1 0,a 3 1 1,b 4 false] (.seq (s [f 5 0 2,l 6 5,f 7 0 3,l 8 7,c 9 40 [.t 6,.t 8],w 10 9] (.cond 10 (s [b 4 false] .ret) .skip)) (s [b 4 true] .ret))),[.t 4]⟩
theorem i15 : IsFun Tryz.prog 15 g15 := ⟨Tryz.f15, _, [], Tryz.func15, by kernel_rfl, rfl, by kernel_rfl, by kernel_rfl, rfl⟩
def g20 : GFun := ⟨⟨50,[1]⟩,(s [a 1 2 0,k 2 0,k 3 0] (s [h 9 2 1,c 10 44 [.t 9],m 8 10,x 11 (.ext (.t 8) 0),x 12 (.ext (.t 8) 1),m 4 11,m 5 12] (.seq (s [m 13 4,q 14 .neq 13 0] (.cond 14 (s [m 15 4,m 16 5,m 2 15,m 3 16] .ret) .skip))
 (.seq (s [k 6 0] (.block 0 (.loop (.seq (s [m 17 6,f 18 1 1,l 19 18,n 20 19,o 21 .lss 17 20] (.cond 21 .skip (.exit 0))) (.seq (.block 1 (s [f 25 1 1,m 27 6,h 24 2 1,l 26 25,i 28 6 26 27,h 29 6 28,x 30 (.call true 45 [.t 24,.t 29]),
 w 31 30] (.cond 31 (s [m 32 6,k 2 7,m 3 32] .ret) .skip))) (.reg [m 22 6,q 23 .add 22 1,m 6 23])))))) (.seq (s [k 7 0] (.block 2 (.loop (.seq (s [m 33 7,f 34 0 1,l 35 34,n 36 35,o 37 .lss 33 36] (.cond 37 .skip (.exit 2))) (.seq
 (.block 3 (s [f 41 0 1,m 43 7,h 40 2 1,l 42 41,i 44 2 42 43,f 45 0 44,l 46 45,x 47 (.call true 46 [.t 40,.t 46]),w 48 47] (.cond 48 (s [m 49 7,k 2 8,m 3 49] .ret) .skip))) (.reg [m 38 7,q 39 .add 38 1,m 7 39])))))) (s [k 2 0,
 k 3 0] .ret)))))),[.t 2,.t 3]⟩
theorem i20 : IsFun Tryz.prog 20 g20 := ⟨Tryz.f20, _, [], Tryz.func20, by kernel_rfl, rfl, by kernel_rfl, by kernel_rfl, rfl⟩
def g21 : GFun := ⟨⟨44,[1,7]⟩,(s [a 1 2 0,k 2 0,k 3 0] (.seq (s [h 11 2 1,c 12 47 [.t 11],m 10 12,x 13 (.ext (.t 10) 0),x 14 (.ext (.t 10) 1),m 4 13,m 5 14] (s [m 15 4,q 16 .neq 15 0] (.cond 16 (s [m 17 4,m 18 5,m 2 17,
 m 3 18] .ret) .skip))) (.seq (s [f 19 1 1,l 20 19,n 21 20,k 22 0] (.block 0 (.loop (s [o 23 .lss 22 21] (.seq (.cond 23 .skip (.exit 0)) (.seq (.block 1 (s [m 24 22,i 25 6 20 22,h 26 6 25,x 7 (.allocr 6),m 6 24,x 7 (.stro 6 7 (.t 26))]
 (s [h 27 2 1,h 28 6 7,c 29 48 [.t 27,.t 28]] (.cond 29 (s [m 30 6,k 2 7,m 3 30] .ret) .skip)))) (.reg [q 31 .add 22 1,m 22 31]))))))) (.seq (s [h 32 2 1,c 33 49 [.t 32],n 34 33,k 35 0] (.block 2 (.loop (s [o 36 .lss 35 34] (.seq
 (.cond 36 .skip (.exit 2)) (.seq (.block 3 (s [m 37 35,i 38 1 33 35,l 39 38,m 8 37,m 9 39] (s [m 40 9,q 41 .eql 40 0] (.cond 41 (s [m 42 8,k 2 8,m 3 42] .ret) .skip)))) (.reg [q 43 .add 35 1,m 35 43]))))))) (s [k 2 0,k 3 0] .ret))))),
 [.t 2,.t 3]⟩
theorem i21 : IsFun Tryz.prog 21 g21 := ⟨Tryz.f21, _, [], Tryz.func21, by kernel_rfl, rfl, by kernel_rfl, by kernel_rfl, rfl⟩
def g22 : GFun := ⟨⟨56,[1,5]⟩,(s [a 1 2 0,b 2 false] (.seq (s [k 3 0] (.block 0 (.loop (.seq (s [m 7 3,f 8 0 1,l 9 8,n 10 9,o 11 .lss 7 10] (.cond 11 .skip (.exit 0))) (.seq (.block 1 (s [k 4 0] (.block 2 (.loop (.seq (s [m 14 4,f 15 0 1,
 l 16 15,m 17 3,i 18 2 16 17,f 19 1 18,l 20 19,n 21 20,o 22 .lss 14 21] (.cond 22 .skip (.exit 2))) (.seq (.block 3 (s [f 25 0 1,l 26 25,m 27 3,i 28 2 26 27,f 29 1 28,l 30 29,m 31 4,i 32 4 30 31,h 33 4 32,x 5 (.allocr 4),x 5 (.stro 4 5
 (.t 33))] (s [f 34 3 5,l 35 34,m 36 35,z 37 36 (.faddr 2 1 false (.t 5)),z 38 36 (.load 1 false (.t 37)),z 39 36 (.bin .eql (.t 38) (.k (.val (.int .i64 3)))),x 40 (.pick (.t 36) (.k (.val (.bool true))) (.t 39))] (.cond 40
 (s [b 2 false] .ret) .skip)))) (.reg [m 23 4,q 24 .add 23 1,m 4 24]))))))) (.reg [m 12 3,q 13 .add 12 1,m 3 13])))))) (.seq (s [k 6 0] (.block 4 (.loop (.seq (s [m 41 6,f 42 1 1,l 43 42,n 44 43,o 45 .lss 41 44] (.cond 45 .skip
 (.exit 4))) (.seq (.block 5 (s [f 48 1 1,l 49 48,m 50 6,i 51 6 49 50,h 52 6 51,c 53 50 [.t 52]] (.cond 53 (s [b 2 false] .ret) .skip))) (.reg [m 46 6,q 47 .add 46 1,m 6 47])))))) (s [h 54 2 1,c 55 51 [.t 54],m 2 55] .ret)))),[.t 2]⟩
theorem i22 : IsFun Tryz.prog 22 g22 := ⟨Tryz.f22, _, [], Tryz.func22, by kernel_rfl, rfl, by kernel_rfl, by kernel_rfl, rfl⟩
def g23 : GFun := ⟨⟨20,[1]⟩,(s [a 1 2 0,b 2 false] (s [h 3 2 1,c 4 52 [.t 3],m 5 4,y 6 5 (.load 2 true (.t 1)),y 7 5 (.call false 53 [.t 6]),y 8 5 (.not (.t 7)),x 9 (.pick (.t 5) (.t 8) (.k (.val (.bool false)))),m 10 9,y 11 10
 (.load 2 true (.t 1)),y 12 10 (.call false 54 [.t 11,(.k (.clo 55 []))]),y 13 10 (.not (.t 12)),x 14 (.pick (.t 10) (.t 13) (.k (.val (.bool false)))),m 15 14,y 16 15 (.load 2 true (.t 1)),y 17 15 (.call false 54 [.t 16,(.k
 (.clo 56 []))]),y 18 15 (.not (.t 17)),x 19 (.pick (.t 15) (.t 18) (.k (.val (.bool false)))),m 2 19] .ret)),[.t 2]⟩
theorem i23 : IsFun Tryz.prog 23 g23 := ⟨Tryz.f23, _, [], Tryz.func23, by kernel_rfl, rfl, by kernel_rfl, by kernel_rfl, rfl⟩
def g24 : GFun := ⟨⟨47,[3,4]⟩,(s [a 3 2 0,a 4 1 1,b 6 false] (s [h 9 2 3,h 10 1 4,c 11 57 [.t 9,.t 10],m 7 11] (.seq (s [h 12 2 3,c 13 22 [.t 12],w 14 13,m 15 14,z 16 15 (.mov (.t 7)),z 17 15 (.len (.t 16)),z 18 15 (.bin .eql (.t 17) (.k
 (.val (.int .i64 0)))),x 19 (.pick (.t 15) (.k (.val (.bool true))) (.t 18)),m 20 19,z 21 20 (.mov (.t 7)),z 22 20 (.len (.t 21)),z 23 20 (.mov (.t 2)),z 24 20 (.len (.t 23)),z 25 20 (.bin .neq (.t 22) (.t 24)),x 26 (.pick (.t 20) (.k
 (.val (.bool true))) (.t 25))] (.cond 26 (s [b 6 false] .ret) .skip)) (.seq (s [k 8 0] (.block 0 (.loop (.seq (s [m 27 8,m 28 7,n 29 28,o 30 .lss 27 29] (.cond 30 .skip (.exit 0))) (.seq (.block 1 (s [m 33 2,m 34 8,i 35 1 33 34,m 39 7,
 m 40 8,i 41 2 39 40,m 43 7,m 44 2,l 36 35,h 37 2 3,h 38 1 4,h 42 2 41,x 45 (.call true 58 [.t 37,.t 38,.t 42,.t 43,.t 44]),o 46 .neq 36 45] (.cond 46 (s [b 6 false] .ret) .skip))) (.reg [m 31 8,q 32 .add 31 1,m 8 32]))))))
 (s [b 6 true] .ret))))),[.t 6]⟩
theorem i24 : IsFun Tryz.prog 24 g24 := ⟨Tryz.f24, _, [], Tryz.func24, by kernel_rfl, rfl, by kernel_rfl, by kernel_rfl, rfl⟩
def g25 : GFun := ⟨⟨22,[]⟩,(s [x 2 (.mov (.k (.val (.slice none 0 0))))] (s [m 5 0,n 6 5,x 7 (.mkslice 1 8 (.val (.int .i64 0)) (.t 6) (.t 6)),m 3 7] (.seq (s [k 4 0] (.block 0 (.loop (.seq (s [m 8 4,m 9 0,n 10 9,o 11 .lss 8 10]
 (.cond 11 .skip (.exit 0))) (.seq (.block 1 (.reg [m 14 3,m 15 4,m 16 0,m 17 4,i 18 1 16 17,l 19 18,i 20 1 14 15,(.mk none none (.store 1 (.t 20) (.t 19)))])) (.reg [m 12 4,q 13 .add 12 1,m 4 13])))))) (s [m 21 3,m 2 21] .ret)))),[.t 2]⟩
theorem i25 : IsFun Tryz.prog 25 g25 := ⟨Tryz.f25, _, [], Tryz.func25, by kernel_rfl, rfl, by kernel_rfl, by kernel_rfl, rfl⟩
def g26 : GFun := ⟨⟨15,[3,4]⟩,(s [a 3 2 0,a 4 1 1,b 6 false] (s [h 7 2 3,c 8 23 [.t 7],m 9 8,y 10 9 (.load 2 true (.t 3)),y 11 9 (.load 1 true (.t 4)),y 12 9 (.mov (.t 2)),y 13 9 (.call false 59 [.t 10,.t 11,.t 12]),x 14 (.pick (.t 9)
 (.t 13) (.k (.val (.bool false)))),m 6 14] .ret)),[.t 6]⟩
theorem i26 : IsFun Tryz.prog 26 g26 := ⟨Tryz.f26, _, [], Tryz.func26, by kernel_rfl, rfl, by kernel_rfl, by kernel_rfl, rfl⟩
def g27 : GFun := ⟨⟨27,[]⟩,(s [k 4 0] (s [m 6 1,m 7 0,n 8 7,o 9 .sub 6 8,m 1 9] (.seq (s [m 10 1,q 11 .lss 10 0] (.cond 11 (s [k 4 (-1)] .ret) .skip)) (.seq (s [k 5 0] (.block 0 (.loop (.seq (s [m 12 5,m 13 0,n 14 13,o 15 .lss 12 14]
 (.cond 15 .skip (.exit 0))) (.seq (.block 1 (s [m 18 0,m 19 5,i 20 2 18 19,h 21 2 20,m 22 1,c 23 60 [.t 21,.t 22],m 1 23] (s [m 24 1,q 25 .lss 24 0] (.cond 25 (s [k 4 (-1)] .ret) .skip)))) (.reg [m 16 5,q 17 .add 16 1,m 5 17]))))))
 (s [m 26 1,m 4 26] .ret))))),[.t 4]⟩
theorem i27 : IsFun Tryz.prog 27 g27 := ⟨Tryz.f27, _, [], Tryz.func27, by kernel_rfl, rfl, by kernel_rfl, by kernel_rfl, rfl⟩
def g28 : GFun := ⟨⟨27,[]⟩,(s [k 4 0] (s [m 6 1,m 7 0,n 8 7,o 9 .sub 6 8,m 1 9] (.seq (s [m 10 1,q 11 .lss 10 0] (.cond 11 (s [k 4 (-1)] .ret) .skip)) (.seq (s [k 5 0] (.block 0 (.loop (.seq (s [m 12 5,m 13 0,n 14 13,o 15 .lss 12 14]
 (.cond 15 .skip (.exit 0))) (.seq (.block 1 (s [m 18 0,m 19 5,i 20 6 18 19,h 21 6 20,m 22 1,c 23 61 [.t 21,.t 22],m 1 23] (s [m 24 1,q 25 .lss 24 0] (.cond 25 (s [k 4 (-1)] .ret) .skip)))) (.reg [m 16 5,q 17 .add 16 1,m 5 17]))))))
 (s [m 26 1,m 4 26] .ret))))),[.t 4]⟩
theorem i28 : IsFun Tryz.prog 28 g28 := ⟨Tryz.f28, _, [], Tryz.func28, by kernel_rfl, rfl, by kernel_rfl, by kernel_rfl, rfl⟩
def g29 : GFun := ⟨⟨27,[]⟩,(s [k 4 0] (s [m 6 1,m 7 0,n 8 7,o 9 .sub 6 8,m 1 9] (.seq (s [m 10 1,q 11 .lss 10 0] (.cond 11 (s [k 4 (-1)] .ret) .skip)) (.seq (s [k 5 0] (.block 0 (.loop (.seq (s [m 12 5,m 13 0,n 14 13,o 15 .lss 12 14]
 (.cond 15 .skip (.exit 0))) (.seq (.block 1 (s [m 18 0,m 19 5,i 20 6 18 19,h 21 6 20,m 22 1,c 23 62 [.t 21,.t 22],m 1 23] (s [m 24 1,q 25 .lss 24 0] (.cond 25 (s [k 4 (-1)] .ret) .skip)))) (.reg [m 16 5,q 17 .add 16 1,m 5 17]))))))
 (s [m 26 1,m 4 26] .ret))))),[.t 4]⟩
theorem i29 : IsFun Tryz.prog 29 g29 := ⟨Tryz.f29, _, [], Tryz.func29, by kernel_rfl, rfl, by kernel_rfl, by kernel_rfl, rfl⟩
def g32 : GFun := ⟨⟨23,[]⟩,(s [x 2 (.mov (.k (.val (.slice none 0 0))))] (s [m 5 0,n 6 5,x 7 (.mkslice 2 40 (.agg [(.val (.string (ByteArray.mk #[]))),(.val (.slice none 0 0))]) (.t 6) (.t 6)),m 3 7] (.seq (s [k 4 0] (.block 0 (.loop
 (.seq (s [m 8 4,m 9 0,n 10 9,o 11 .lss 8 10] (.cond 11 .skip (.exit 0))) (.seq (.block 1 (.reg [m 14 3,m 15 4,m 16 0,m 17 4,i 18 2 16 17,h 19 2 18,c 20 67 [.t 19],i 21 2 14 15,(.mk none none (.store 2 (.t 21) (.t 20)))])) (.reg [m 12 4,
 q 13 .add 12 1,m 4 13])))))) (s [m 22 3,m 2 22] .ret)))),[.t 2]⟩
theorem i32 : IsFun Tryz.prog 32 g32 := ⟨Tryz.f32, _, [], Tryz.func32, by kernel_rfl, rfl, by kernel_rfl, by kernel_rfl, rfl⟩
def g33 : GFun := ⟨⟨23,[]⟩,(s [x 2 (.mov (.k (.val (.slice none 0 0))))] (s [m 5 0,n 6 5,x 7 (.mkslice 6 112 (.agg [(.val (.string (ByteArray.mk #[]))),(.val (.string (ByteArray.mk #[]))),(.val (.slice none 0 0)),(.val (.bool false)),
 (.val (.slice none 0 0)),(.val (.slice none 0 0))]) (.t 6) (.t 6)),m 3 7] (.seq (s [k 4 0] (.block 0 (.loop (.seq (s [m 8 4,m 9 0,n 10 9,o 11 .lss 8 10] (.cond 11 .skip (.exit 0))) (.seq (.block 1 (.reg [m 14 3,m 15 4,m 16 0,m 17 4,
 i 18 6 16 17,h 19 6 18,c 20 68 [.t 19],i 21 6 14 15,(.mk none none (.store 6 (.t 21) (.t 20)))])) (.reg [m 12 4,q 13 .add 12 1,m 4 13])))))) (s [m 22 3,m 2 22] .ret)))),[.t 2]⟩
theorem i33 : IsFun Tryz.prog 33 g33 := ⟨Tryz.f33, _, [], Tryz.func33, by kernel_rfl, rfl, by kernel_rfl, by kernel_rfl, rfl⟩
def g34 : GFun := ⟨⟨23,[]⟩,(s [x 2 (.mov (.k (.val (.slice none 0 0))))] (s [m 5 0,n 6 5,x 7 (.mkslice 6 72 (.agg [(.val (.int .i64 0)),(.val (.int .i64 0)),(.val (.int .i64 0)),(.val (.int .i64 0)),(.val (.string (ByteArray.mk #[]))),
 (.val (.slice none 0 0))]) (.t 6) (.t 6)),m 3 7] (.seq (s [k 4 0] (.block 0 (.loop (.seq (s [m 8 4,m 9 0,n 10 9,o 11 .lss 8 10] (.cond 11 .skip (.exit 0))) (.seq (.block 1 (.reg [m 14 3,m 15 4,m 16 0,m 17 4,i 18 6 16 17,h 19 6 18,
 c 20 69 [.t 19],i 21 6 14 15,(.mk none none (.store 6 (.t 21) (.t 20)))])) (.reg [m 12 4,q 13 .add 12 1,m 4 13])))))) (s [m 22 3,m 2 22] .ret)))),[.t 2]⟩
theorem i34 : IsFun Tryz.prog 34 g34 := ⟨Tryz.f34, _, [], Tryz.func34, by kernel_rfl, rfl, by kernel_rfl, by kernel_rfl, rfl⟩
def g38 : GFun := ⟨⟨27,[]⟩,(s [b 4 false] (.seq (s [m 6 0,n 7 6,m 8 1,n 9 8,o 10 .neq 7 9] (.cond 10 (s [b 4 false] .ret) .skip)) (.seq (s [k 5 0] (.block 0 (.loop (.seq (s [m 11 5,m 12 0,n 13 12,o 14 .lss 11 13] (.cond 14 .skip
 (.exit 0))) (.seq (.block 1 (s [m 17 0,m 18 5,i 19 2 17 18,m 21 1,m 22 5,i 23 2 21 22,h 20 2 19,h 24 2 23,x 25 (.call true 77 [.t 20,.t 24]),w 26 25] (.cond 26 (s [b 4 false] .ret) .skip))) (.reg [m 15 5,q 16 .add 15 1,m 5 16]))))))
 (s [b 4 true] .ret)))),[.t 4]⟩
theorem i38 : IsFun Tryz.prog 38 g38 := ⟨Tryz.f38, _, [], Tryz.func38, by kernel_rfl, rfl, by kernel_rfl, by kernel_rfl, rfl⟩
def g39 : GFun := ⟨⟨27,[]⟩,(s [b 4 false] (.seq (s [m 6 0,n 7 6,m 8 1,n 9 8,o 10 .neq 7 9] (.cond 10 (s [b 4 false] .ret) .skip)) (.seq (s [k 5 0] (.block 0 (.loop (.seq (s [m 11 5,m 12 0,n 13 12,o 14 .lss 11 13] (.cond 14 .skip
 (.exit 0))) (.seq (.block 1 (s [m 17 0,m 18 5,i 19 6 17 18,m 21 1,m 22 5,i 23 6 21 22,h 20 6 19,h 24 6 23,x 25 (.call true 78 [.t 20,.t 24]),w 26 25] (.cond 26 (s [b 4 false] .ret) .skip))) (.reg [m 15 5,q 16 .add 15 1,m 5 16]))))))
 (s [b 4 true] .ret)))),[.t 4]⟩
theorem i39 : IsFun Tryz.prog 39 g39 := ⟨Tryz.f39, _, [], Tryz.func39, by kernel_rfl, rfl, by kernel_rfl, by kernel_rfl, rfl⟩
def g40 : GFun := ⟨⟨27,[]⟩,(s [b 4 false] (.seq (s [m 6 0,n 7 6,m 8 1,n 9 8,o 10 .neq 7 9] (.cond 10 (s [b 4 false] .ret) .skip)) (.seq (s [k 5 0] (.block 0 (.loop (.seq (s [m 11 5,m 12 0,n 13 12,o 14 .lss 11 13] (.cond 14 .skip
 (.exit 0))) (.seq (.block 1 (s [m 17 0,m 18 5,i 19 6 17 18,m 21 1,m 22 5,i 23 6 21 22,h 20 6 19,h 24 6 23,x 25 (.call true 79 [.t 20,.t 24]),w 26 25] (.cond 26 (s [b 4 false] .ret) .skip))) (.reg [m 15 5,q 16 .add 15 1,m 5 16]))))))
 (s [b 4 true] .ret)))),[.t 4]⟩
theorem i40 : IsFun Tryz.prog 40 g40 := ⟨Tryz.f40, _, [], Tryz.func40, by kernel_rfl, rfl, by kernel_rfl, by kernel_rfl, rfl⟩
def g44 : GFun := ⟨⟨66,[1]⟩,(s [a 1 2 0,k 2 0,k 3 0] (.seq (s [f 8 0 1,l 9 8,n 10 9,c 11 85 [.t 10,(.k (.val (.int .i64 1))),(.k (.val (.int .i64 4)))],w 12 11,m 13 12,z 14 13 (.faddr 1 1 false (.t 1)),z 15 13 (.load 1 false (.t 14)),
 z 16 13 (.len (.t 15)),z 17 13 (.call false 85 [.t 16,(.k (.val (.int .i64 1))),(.k (.val (.int .i64 8)))]),z 18 13 (.not (.t 17)),x 19 (.pick (.t 13) (.k (.val (.bool true))) (.t 18))] (.cond 19 (s [k 2 1,k 3 0] .ret) .skip))
 (s [h 20 2 1,c 21 86 [.t 20],m 4 21] (.seq (s [m 22 4,q 23 .geq 22 0] (.cond 23 (s [m 24 4,k 2 1,m 3 24] .ret) .skip)) (.seq (s [k 5 0] (.block 0 (.loop (.seq (s [m 25 5,f 26 0 1,l 27 26,x 28 (.iaddr 2 (.t 27) (.k (.val (.int .i64 0)))),
 f 29 1 28,l 30 29,n 31 30,o 32 .lss 25 31] (.cond 32 .skip (.exit 0))) (.seq (.block 1 (s [f 35 0 1,l 36 35,x 37 (.iaddr 2 (.t 36) (.k (.val (.int .i64 0)))),f 38 1 37,l 39 38,m 40 5,i 41 4 39 40,f 42 2 41,l 43 42,q 44 .eql 43 1]
 (.cond 44 (s [k 2 2,k 3 0] .ret) .skip))) (.reg [m 33 5,q 34 .add 33 1,m 5 34])))))) (.seq (s [k 6 3] (.block 2 (.loop (.seq (s [m 45 6,q 46 .leq 45 6] (.cond 46 .skip (.exit 2))) (.seq (.block 3 (s [k 7 0] (.block 4 (.loop (.seq
 (s [m 49 7,f 50 1 1,l 51 50,n 52 51,o 53 .lss 49 52] (.cond 53 .skip (.exit 4))) (.seq (.block 5 (s [f 57 1 1,m 59 7,m 62 6,h 56 2 1,l 58 57,i 60 6 58 59,h 61 6 60,x 63 (.call true 87 [.t 56,.t 61,.t 62])] (.cond 63 (s [m 64 6,m 65 7,
 m 2 64,m 3 65] .ret) .skip))) (.reg [m 54 7,q 55 .add 54 1,m 7 55]))))))) (.reg [m 47 6,q 48 .add 47 1,m 6 48])))))) (s [k 2 0,k 3 0] .ret))))))),[.t 2,.t 3]⟩
theorem i44 : IsFun Tryz.prog 44 g44 := ⟨Tryz.f44, _, [], Tryz.func44, by kernel_rfl, rfl, by kernel_rfl, by kernel_rfl, rfl⟩
def g45 : GFun := ⟨⟨90,[2,3,6,8,9,11]⟩,(s [a 2 2 0,a 3 6 1,b 4 false] (.seq (s [k 5 0] (.block 0 (.loop (.seq (s [m 13 5,f 14 4 3,l 15 14,n 16 15,o 17 .lss 13 16] (.cond 17 .skip (.exit 0))) (.seq (.block 1 (s [f 20 4 3,l 21 20,m 22 5,
 i 23 9 21 22,h 24 9 23,x 6 (.allocr 9),x 6 (.stro 9 6 (.t 24))] (s [e 27 2 7 6,e 32 0 2 6,f 33 0 32,e 36 0 2 6,f 37 1 36,h 25 2 2,h 26 6 3,h 28 7 27,x 29 (.call true 88 [.t 25,.t 26,.t 28]),h 30 2 2,h 31 6 3,l 34 33,x 35
 (.call true 90 [.t 31,.t 34]),l 38 37,x 39 (.call true 89 [.t 30,.t 35,.t 38]),o 40 .neq 29 39] (.cond 40 (s [b 4 false] .ret) .skip)))) (.reg [m 18 5,q 19 .add 18 1,m 5 19])))))) (.seq (s [k 7 0] (.block 2 (.loop (.seq (s [m 41 7,
 f 42 5 3,l 43 42,n 44 43,o 45 .lss 41 44] (.cond 45 .skip (.exit 2))) (.seq (.block 3 (s [f 48 5 3,l 49 48,m 50 7,i 51 16 49 50,h 52 16 51,x 8 (.allocr 16),x 8 (.stro 16 8 (.t 52))] (s [h 54 2 2,f 55 0 8,l 56 55,c 57 91 [.t 54,.t 56],
 m 53 57,x 58 (.ext (.t 53) 0),x 59 (.ext (.t 53) 1),x 9 (.allocr 2),x 9 (.stro 2 9 (.t 58)),m 10 59] (s [h 61 2 9,f 62 1 8,l 63 62,c 64 92 [.t 61,.t 63],m 60 64,x 65 (.ext (.t 60) 0),x 66 (.ext (.t 60) 1),x 11 (.allocr 4),x 11
 (.stro 4 11 (.t 65)),m 12 66] (s [m 67 12,w 68 67,m 69 68,z 70 69 (.faddr 2 1 false (.t 11)),z 71 69 (.load 1 false (.t 70)),z 72 69 (.bin .neq (.t 71) (.k (.val (.int .i64 3)))),x 73 (.pick (.t 69) (.k (.val (.bool true))) (.t 72)),
 m 74 73,z 75 74 (.load 2 true (.t 2)),z 76 74 (.load 6 true (.t 3)),z 77 74 (.faddr 2 7 true (.t 8)),z 78 74 (.load 7 true (.t 77)),z 79 74 (.call false 88 [.t 75,.t 76,.t 78]),z 80 74 (.bin .neq (.t 79) (.k (.val (.int .i64 4)))),x 81
 (.pick (.t 74) (.k (.val (.bool true))) (.t 80)),m 82 81,z 83 82 (.load 2 true (.t 2)),z 84 82 (.load 6 true (.t 3)),z 85 82 (.faddr 9 7 true (.t 8)),z 86 82 (.load 7 true (.t 85)),z 87 82 (.call false 88 [.t 83,.t 84,.t 86]),z 88 82
 (.bin .neq (.t 87) (.k (.val (.int .i64 2)))),x 89 (.pick (.t 82) (.k (.val (.bool true))) (.t 88))] (.cond 89 (s [b 4 false] .ret) .skip)))))) (.reg [m 46 7,q 47 .add 46 1,m 7 47])))))) (s [b 4 true] .ret)))),[.t 4]⟩
theorem i45 : IsFun Tryz.prog 45 g45 := ⟨Tryz.f45, _, [], Tryz.func45, by kernel_rfl, rfl, by kernel_rfl, by kernel_rfl, rfl⟩
def g46 : GFun := ⟨⟨9,[2]⟩,(s [a 2 2 0,b 4 false] (s [h 5 2 2,m 6 1,c 7 93 [.t 5,.t 6],q 8 .gtr 7 0,m 4 8] .ret)),[.t 4]⟩
theorem i46 : IsFun Tryz.prog 46 g46 := ⟨Tryz.f46, _, [], Tryz.func46, by kernel_rfl, rfl, by kernel_rfl, by kernel_rfl, rfl⟩
def g47 : GFun := ⟨⟨67,[1,7]⟩,(s [a 1 2 0,k 2 0,k 3 0] (.seq (s [f 9 0 1,l 10 9,n 11 10,c 12 73 [.t 11,(.k (.val (.int .i64 1))),(.k (.val (.int .i64 4)))],w 13 12,m 14 13,z 15 14 (.faddr 1 1 false (.t 1)),z 16 14 (.load 1 false (.t 15)),
 z 17 14 (.len (.t 16)),z 18 14 (.call false 73 [.t 17,(.k (.val (.int .i64 1))),(.k (.val (.int .i64 8)))]),z 19 14 (.not (.t 18)),x 20 (.pick (.t 14) (.k (.val (.bool true))) (.t 19))] (.cond 20 (s [k 2 1,k 3 0] .ret) .skip)) (.seq
 (s [h 21 2 1,c 22 94 [.t 21],m 4 22] (s [m 23 4,q 24 .geq 23 0] (.cond 24 (s [m 25 4,k 2 1,m 3 25] .ret) .skip))) (.seq (s [f 26 0 1,l 27 26,x 28 (.iaddr 2 (.t 27) (.k (.val (.int .i64 0)))),f 29 1 28,l 30 29,x 31 (.call false 95 [.t 30,
 (.k (.clo 96 []))])] (.cond 31 (s [k 2 2,k 3 0] .ret) .skip)) (.seq (s [k 5 3] (.block 0 (.loop (.seq (s [m 32 5,q 33 .leq 32 6] (.cond 33 .skip (.exit 0))) (.seq (.block 1 (s [f 36 1 1,l 37 36,n 38 37,k 39 0] (.block 2 (.loop
 (s [o 40 .lss 39 38] (.seq (.cond 40 .skip (.exit 2)) (.seq (.block 3 (s [m 41 39,i 42 6 37 39,h 43 6 42,x 7 (.allocr 6),m 6 41,x 7 (.stro 6 7 (.t 43))] (s [b 8 false] (.seq (s [m 44 5] (.block 4 (s [q 49 .eql 44 3,m 48 49] (.cond 48
 (.reg [h 50 2 1,h 51 6 7,c 52 97 [.t 50,.t 51],m 8 52]) (s [q 54 .eql 44 4,m 53 54] (.cond 53 (.reg [h 55 2 1,h 56 6 7,c 57 98 [.t 55,.t 56],m 8 57]) (s [q 59 .eql 44 5,m 58 59] (.cond 58 (.reg [h 60 2 1,h 61 6 7,c 62 99 [.t 60,.t 61],
 m 8 62]) (.reg [h 45 2 1,h 46 6 7,c 47 100 [.t 45,.t 46],m 8 47]))))))))) (s [m 63 8] (.cond 63 (s [m 64 5,m 65 6,m 2 64,m 3 65] .ret) .skip)))))) (.reg [q 66 .add 39 1,m 39 66])))))))) (.reg [m 34 5,q 35 .add 34 1,m 5 35])))))) (s [k 2 0,
 k 3 0] .ret)))))),[.t 2,.t 3]⟩
theorem i47 : IsFun Tryz.prog 47 g47 := ⟨Tryz.f47, _, [], Tryz.func47, by kernel_rfl, rfl, by kernel_rfl, by kernel_rfl, rfl⟩
def g48 : GFun := ⟨⟨80,[2,3,6,7,10,11,13]⟩,(s [a 2 2 0,a 3 6 1,b 4 false] (.seq (s [f 15 4 3,l 16 15,n 17 16,k 18 0] (.block 0 (.loop (s [o 19 .lss 18 17] (.seq (.cond 19 .skip (.exit 0)) (.seq (.block 1 (s [i 20 9 16 18,h 21 9 20,x 6
 (.allocr 9),x 6 (.stro 9 6 (.t 21))] (s [h 23 2 2,h 24 6 3,e 25 0 2 6,h 26 2 25,c 27 101 [.t 23,.t 24,.t 26],m 22 27,x 28 (.ext (.t 22) 0),x 29 (.ext (.t 22) 1),x 7 (.allocr 4),x 7 (.stro 4 7 (.t 28)),m 8 29] (s [e 32 2 7 6,f 35 1 7,
 h 30 2 2,h 31 6 3,h 33 7 32,x 34 (.call true 102 [.t 30,.t 31,.t 33]),l 36 35,o 37 .neq 34 36] (.cond 37 (s [b 4 true] .ret) .skip))))) (.reg [q 38 .add 18 1,m 18 38]))))))) (.seq (s [f 39 5 3,l 40 39,n 41 40,k 42 0] (.block 2 (.loop
 (s [o 43 .lss 42 41] (.seq (.cond 43 .skip (.exit 2)) (.seq (.block 3 (s [i 44 16 40 42,h 45 16 44,x 10 (.allocr 16),x 10 (.stro 16 10 (.t 45))] (s [h 47 2 2,f 48 0 10,l 49 48,c 50 103 [.t 47,.t 49],m 46 50,x 51 (.ext (.t 46) 0),x 52
 (.ext (.t 46) 1),x 11 (.allocr 2),x 11 (.stro 2 11 (.t 51)),m 12 52] (s [h 54 2 11,f 55 1 10,l 56 55,c 57 104 [.t 54,.t 56],m 53 57,x 58 (.ext (.t 53) 0),x 59 (.ext (.t 53) 1),x 13 (.allocr 4),x 13 (.stro 4 13 (.t 58)),m 14 59]
 (s [h 60 2 2,h 61 6 3,e 62 2 7 10,h 63 7 62,c 64 102 [.t 60,.t 61,.t 63],q 65 .neq 64 4,m 66 65,z 67 66 (.load 2 true (.t 2)),z 68 66 (.load 6 true (.t 3)),z 69 66 (.faddr 9 7 true (.t 10)),z 70 66 (.load 7 true (.t 69)),z 71 66
 (.call false 102 [.t 67,.t 68,.t 70]),z 72 66 (.bin .neq (.t 71) (.k (.val (.int .i64 2)))),x 73 (.pick (.t 66) (.k (.val (.bool true))) (.t 72)),m 74 73,z 75 74 (.faddr 2 1 false (.t 13)),z 76 74 (.load 1 false (.t 75)),z 77 74
 (.bin .neq (.t 76) (.k (.val (.int .i64 3)))),x 78 (.pick (.t 74) (.k (.val (.bool true))) (.t 77))] (.cond 78 (s [b 4 true] .ret) .skip)))))) (.reg [q 79 .add 42 1,m 42 79]))))))) (s [b 4 false] .ret)))),[.t 4]⟩
theorem i48 : IsFun Tryz.prog 48 g48 := ⟨Tryz.f48, _, [], Tryz.func48, by kernel_rfl, rfl, by kernel_rfl, by kernel_rfl, rfl⟩
def g49 : GFun := ⟨⟨81,[1,8,10]⟩,(s [a 1 2 0,x 2 (.mov (.k (.val (.slice none 0 0))))] (s [f 14 0 1,l 15 14,n 16 15,x 17 (.mkslice 1 8 (.val (.int .i64 0)) (.t 16) (.t 16)),x 3 (.alloc 1 (.val (.slice none 0 0))),(.mk none none (.store 1
 (.t 3) (.t 17)))] (s [x 18 (.mkfn 105 [.t 1,.t 3]),m 4 18] (.seq (s [k 5 1] (.block 0 (.loop (.seq (s [m 19 5,f 20 0 1,l 21 20,n 22 21,o 23 .leq 19 22] (.cond 23 .skip (.exit 0))) (.seq (.block 1 (s [l 26 3,n 27 26,x 28 (.mkslice 1 8
 (.val (.int .i64 0)) (.t 27) (.t 27)),m 6 28] (s [m 29 6,l 30 3,x 31 (.copy 1 (.t 29) (.t 30))] (.seq (s [f 32 0 1,l 33 32,n 34 33,k 35 0] (.block 2 (.loop (s [o 36 .lss 35 34] (.seq (.cond 36 .skip (.exit 2)) (.seq (.block 3 (s [m 37 35,
 i 38 2 33 35,h 39 2 38,x 8 (.allocr 2),m 7 37,x 8 (.stro 2 8 (.t 39))] (.seq (s [l 40 3,m 41 7,i 42 1 40 41,l 43 42,q 44 .gtr 43 0] (.cond 44 (.exit 3) .skip)) (s [f 45 1 1,l 46 45,n 47 46,k 48 0] (.block 4 (.loop (s [o 49 .lss 48 47]
 (.seq (.cond 49 .skip (.exit 4)) (.seq (.block 5 (s [i 50 6 46 48,h 51 6 50,x 10 (.allocr 6),x 10 (.stro 6 10 (.t 51))] (s [f 52 1 10,l 53 52,f 54 0 8,l 55 54,o 56 .eql 53 55,m 11 56] (.seq (s [f 57 2 10,l 58 57,n 59 58,k 60 0] (.block 6
 (.loop (s [o 61 .lss 60 59] (.seq (.cond 61 .skip (.exit 6)) (.seq (.block 7 (s [i 62 1 58 60,l 63 62,m 13 63] (.reg [m 64 11,m 65 64,y 66 65 (.mov (.t 4)),y 67 65 (.mov (.t 13)),y 68 65 (.callv false (.t 66) [.t 67]),y 69 65 (.bin .gtr
 (.t 68) (.k (.val (.int .i64 0)))),x 70 (.pick (.t 65) (.t 69) (.k (.val (.bool false)))),m 11 70]))) (.reg [q 71 .add 60 1,m 60 71]))))))) (s [m 72 11] (.cond 72 (.reg [m 73 6,m 74 7,m 75 5,i 76 1 73 74,(.mk none none (.store 1 (.t 76)
 (.t 75)))]) .skip)))))) (.reg [q 77 .add 48 1,m 48 77])))))))))) (.reg [q 78 .add 35 1,m 35 78]))))))) (.reg [m 79 6,(.mk none none (.store 1 (.t 3) (.t 79)))]))))) (.reg [m 24 5,q 25 .add 24 1,m 5 25])))))) (s [l 80 3,m 2 80] .ret))))),
 [.t 2]⟩
theorem i49 : IsFun Tryz.prog 49 g49 := ⟨Tryz.f49, _, [], Tryz.func49, by kernel_rfl, rfl, by kernel_rfl, by kernel_rfl, rfl⟩
def g50 : GFun := ⟨⟨18,[1]⟩,(s [a 1 6 0,b 2 false] (.seq (s [k 3 0] (.block 0 (.loop (.seq (s [m 4 3,f 5 4 1,l 6 5,n 7 6,o 8 .lss 4 7] (.cond 8 .skip (.exit 0))) (.seq (.block 1 (s [f 11 4 1,l 12 11,m 13 3,i 14 9 12 13,e 15 2 7 14,
 h 16 7 15,c 17 106 [.t 16]] (.cond 17 (s [b 2 true] .ret) .skip))) (.reg [m 9 3,q 10 .add 9 1,m 3 10])))))) (s [b 2 false] .ret))),[.t 2]⟩
theorem i50 : IsFun Tryz.prog 50 g50 := ⟨Tryz.f50, _, [], Tryz.func50, by kernel_rfl, rfl, by kernel_rfl, by kernel_rfl, rfl⟩
def g51 : GFun := ⟨⟨12,[1]⟩,(s [a 1 2 0,b 2 false] (s [h 6 2 1,c 7 20 [.t 6],m 5 7,x 8 (.ext (.t 5) 0),x 9 (.ext (.t 5) 1),m 3 8,m 4 9] (s [m 10 3,q 11 .eql 10 0,m 2 11] .ret))),[.t 2]⟩
theorem i51 : IsFun Tryz.prog 51 g51 := ⟨Tryz.f51, _, [], Tryz.func51, by kernel_rfl, rfl, by kernel_rfl, by kernel_rfl, rfl⟩
def g52 : GFun := ⟨⟨12,[1]⟩,(s [a 1 2 0,b 2 false] (s [h 6 2 1,c 7 21 [.t 6],m 5 7,x 8 (.ext (.t 5) 0),x 9 (.ext (.t 5) 1),m 3 8,m 4 9] (s [m 10 3,q 11 .eql 10 0,m 2 11] .ret))),[.t 2]⟩
theorem i52 : IsFun Tryz.prog 52 g52 := ⟨Tryz.f52, _, [], Tryz.func52, by kernel_rfl, rfl, by kernel_rfl, by kernel_rfl, rfl⟩
def g53 : GFun := ⟨⟨6,[1]⟩,(s [a 1 2 0,b 2 false] (s [f 3 1 1,l 4 3,x 5 (.call false 107 [.t 4,(.k (.clo 108 []))]),m 2 5] .ret)),[.t 2]⟩
theorem i53 : IsFun Tryz.prog 53 g53 := ⟨Tryz.f53, _, [], Tryz.func53, by kernel_rfl, rfl, by kernel_rfl, by kernel_rfl, rfl⟩
def g54 : GFun := ⟨⟨9,[2,3]⟩,(s [a 2 2 0,a 3 1 1,b 4 false] (s [f 5 0 2,l 6 5,x 7 (.mkfn 113 [.t 3]),c 8 112 [.t 6,.t 7],m 4 8] .ret)),[.t 4]⟩
theorem i54 : IsFun Tryz.prog 54 g54 := ⟨Tryz.f54, _, [], Tryz.func54, by kernel_rfl, rfl, by kernel_rfl, by kernel_rfl, rfl⟩
def g55 : GFun := ⟨⟨6,[1]⟩,(s [a 1 4 0,b 2 false] (s [f 3 2 1,l 4 3,q 5 .eql 4 3,m 2 5] .ret)),[.t 2]⟩
theorem i55 : IsFun Tryz.prog 55 g55 := ⟨Tryz.f55, _, [], Tryz.func55, by kernel_rfl, rfl, by kernel_rfl, by kernel_rfl, rfl⟩
def g56 : GFun := ⟨⟨5,[1]⟩,(s [a 1 4 0,b 2 false] (s [f 3 3 1,l 4 3,m 2 4] .ret)),[.t 2]⟩
theorem i56 : IsFun Tryz.prog 56 g56 := ⟨Tryz.f56, _, [], Tryz.func56, by kernel_rfl, rfl, by kernel_rfl, by kernel_rfl, rfl⟩
def g57 : GFun := ⟨⟨59,[2,3,7]⟩,(s [a 2 2 0,a 3 1 1,x 4 (.mov (.k (.val (.slice none 0 0))))] (s [x 10 (.bslice 2 [] 0 true []),m 5 10] (.seq (s [h 11 2 2,h 12 1 3,h 13 2 2,h 14 1 3,x 15 (.call true 115 [.t 13,.t 14,(.k (.val
 (.int .i64 0)))]),x 16 (.call true 114 [.t 11,.t 12,.t 15]),w 17 16] (.cond 17 (s [m 18 5,m 4 18] .ret) .skip)) (.seq (s [k 6 0] (.block 0 (.loop (.seq (s [m 19 6,f 20 0 3,l 21 20,n 22 21,o 23 .lss 19 22] (.cond 23 .skip (.exit 0)))
 (.seq (.block 1 (s [m 30 6,x 7 (.allocr 2),h 27 2 2,h 28 2 2,h 29 1 3,x 31 (.call true 115 [.t 28,.t 29,.t 30]),x 32 (.call true 91 [.t 27,.t 31]),m 26 32,x 33 (.ext (.t 26) 0),x 34 (.ext (.t 26) 1),x 7 (.stro 2 7 (.t 33)),m 8 34]
 (s [k 9 0] (.block 2 (.loop (.seq (s [m 35 9,f 36 1 7,l 37 36,n 38 37,o 39 .lss 35 38] (.cond 39 .skip (.exit 2))) (.seq (.block 3 (.reg [m 42 5,f 43 0 3,m 45 6,f 49 1 7,m 51 9,l 44 43,i 46 6 44 45,f 47 0 46,l 48 47,l 50 49,i 52 4 50 51,
 f 53 0 52,l 54 53,x 55 (.build [(.val (.int .i64 0)),(.val (.string (ByteArray.mk #[])))] [(0,(1,(.t 48))),(1,(1,(.t 54)))]),x 56 (.bslice 2 [] 1 true [(0,(.t 55))]),x 57 (.append 2 24 (.t 42) (.t 56)),m 5 57])) (.reg [m 40 9,
 q 41 .add 40 1,m 9 41])))))))) (.reg [m 24 6,q 25 .add 24 1,m 6 25])))))) (s [m 58 5,m 4 58] .ret))))),[.t 4]⟩
theorem i57 : IsFun Tryz.prog 57 g57 := ⟨Tryz.f57, _, [], Tryz.func57, by kernel_rfl, rfl, by kernel_rfl, by kernel_rfl, rfl⟩
def g58 : GFun := ⟨⟨43,[5,6,7,11]⟩,(s [a 5 2 0,a 6 1 1,a 7 2 2,k 10 0] (s [h 14 2 5,h 15 1 6,h 16 2 7,c 17 116 [.t 14,.t 15,.t 16],m 13 17,x 18 (.ext (.t 13) 0),x 19 (.ext (.t 13) 1),x 11 (.allocr 8),x 11 (.stro 8 11 (.t 18)),m 12 19]
 (.seq (s [m 20 12,w 21 20] (.cond 21 (s [k 10 0] .ret) .skip)) (s [e 22 1 7 11,f 26 0 11,m 28 3,m 29 4,f 31 0 6,f 33 0 11,f 39 0 11,h 23 7 22,h 24 2 5,h 25 1 6,l 27 26,x 30 (.call true 118 [.t 24,.t 25,.t 27,.t 28,.t 29]),l 32 31,l 34 33,
 i 35 6 32 34,f 36 3 35,l 37 36,h 38 1 6,l 40 39,x 41 (.call true 119 [.t 38,.t 40]),x 42 (.call true 117 [.t 23,.t 30,.t 37,.t 41]),m 10 42] .ret)))),[.t 10]⟩
theorem i58 : IsFun Tryz.prog 58 g58 := ⟨Tryz.f58, _, [], Tryz.func58, by kernel_rfl, rfl, by kernel_rfl, by kernel_rfl, rfl⟩
def g59 : GFun := ⟨⟨27,[3,4,5,7]⟩,(s [a 3 2 0,a 4 1 1,a 5 1 2,b 6 false] (s [h 8 2 3,h 9 1 4,c 10 74 [.t 8,.t 9],x 7 (.allocr 1),x 7 (.stro 1 7 (.t 10))] (s [l 11 7,n 12 11,q 13 .gtr 12 0,m 14 13,y 15 14 (.load 1 false (.t 5)),y 16 14
 (.len (.t 15)),y 17 14 (.load 1 false (.t 7)),y 18 14 (.len (.t 17)),y 19 14 (.bin .eql (.t 16) (.t 18)),x 20 (.pick (.t 14) (.t 19) (.k (.val (.bool false)))),m 21 20,y 22 21 (.load 1 false (.t 7)),y 23 21 (.mkfn 121 [.t 5,.t 7,.t 3,
 .t 4]),y 24 21 (.call false 120 [.t 22,.t 23]),y 25 21 (.not (.t 24)),x 26 (.pick (.t 21) (.t 25) (.k (.val (.bool false)))),m 6 26] .ret))),[.t 6]⟩
theorem i59 : IsFun Tryz.prog 59 g59 := ⟨Tryz.f59, _, [], Tryz.func59, by kernel_rfl, rfl, by kernel_rfl, by kernel_rfl, rfl⟩
def g60 : GFun := ⟨⟨19,[2]⟩,(s [a 2 2 0,k 4 0] (s [m 5 1,f 6 0 2,l 7 6,x 8 (.slen (.t 7)),o 9 .sub 5 8,m 1 9] (.seq (s [m 10 1,q 11 .lss 10 0] (.cond 11 (s [k 4 (-1)] .ret) .skip)) (s [f 12 1 2,l 13 12,m 14 1,c 15 123 [.t 13,.t 14],
 m 1 15] (.seq (s [m 16 1,q 17 .lss 16 0] (.cond 17 (s [k 4 (-1)] .ret) .skip)) (s [m 18 1,m 4 18] .ret)))))),[.t 4]⟩
theorem i60 : IsFun Tryz.prog 60 g60 := ⟨Tryz.f60, _, [], Tryz.func60, by kernel_rfl, rfl, by kernel_rfl, by kernel_rfl, rfl⟩
def g61 : GFun := ⟨⟨38,[2]⟩,(s [a 2 6 0,k 4 0] (s [m 5 1,f 6 0 2,l 7 6,x 8 (.slen (.t 7)),o 9 .sub 5 8,m 1 9] (.seq (s [m 10 1,q 11 .lss 10 0] (.cond 11 (s [k 4 (-1)] .ret) .skip)) (s [m 12 1,f 13 1 2,l 14 13,x 15 (.slen (.t 14)),
 o 16 .sub 12 15,m 1 16] (.seq (s [m 17 1,q 18 .lss 17 0] (.cond 18 (s [k 4 (-1)] .ret) .skip)) (s [f 19 2 2,l 20 19,m 21 1,c 22 124 [.t 20,.t 21],m 1 22] (.seq (s [m 23 1,q 24 .lss 23 0] (.cond 24 (s [k 4 (-1)] .ret) .skip)) (s [f 25 4 2,
 l 26 25,m 27 1,c 28 125 [.t 26,.t 27],m 1 28] (.seq (s [m 29 1,q 30 .lss 29 0] (.cond 30 (s [k 4 (-1)] .ret) .skip)) (s [f 31 5 2,l 32 31,m 33 1,c 34 126 [.t 32,.t 33],m 1 34] (.seq (s [m 35 1,q 36 .lss 35 0] (.cond 36 (s [k 4
 (-1)] .ret) .skip)) (s [m 37 1,m 4 37] .ret)))))))))))),[.t 4]⟩
theorem i61 : IsFun Tryz.prog 61 g61 := ⟨Tryz.f61, _, [], Tryz.func61, by kernel_rfl, rfl, by kernel_rfl, by kernel_rfl, rfl⟩
def g62 : GFun := ⟨⟨19,[2]⟩,(s [a 2 6 0,k 4 0] (s [m 5 1,f 6 4 2,l 7 6,x 8 (.slen (.t 7)),o 9 .sub 5 8,m 1 9] (.seq (s [m 10 1,q 11 .lss 10 0] (.cond 11 (s [k 4 (-1)] .ret) .skip)) (s [f 12 5 2,l 13 12,m 14 1,c 15 127 [.t 13,.t 14],
 m 1 15] (.seq (s [m 16 1,q 17 .lss 16 0] (.cond 17 (s [k 4 (-1)] .ret) .skip)) (s [m 18 1,m 4 18] .ret)))))),[.t 4]⟩
theorem i62 : IsFun Tryz.prog 62 g62 := ⟨Tryz.f62, _, [], Tryz.func62, by kernel_rfl, rfl, by kernel_rfl, by kernel_rfl, rfl⟩
def g64 : GFun := ⟨⟨19,[3]⟩,(s [a 3 2 1,k 4 0] (.seq (s [k 5 0] (.block 0 (.loop (.seq (s [m 6 5,m 7 0,n 8 7,o 9 .lss 6 8] (.cond 9 .skip (.exit 0))) (.seq (.block 1 (s [m 12 0,m 13 5,i 14 2 12 13,h 15 2 14,h 16 2 3,x 17 (.aeq false [1,2]
 (.t 15) (.t 16))] (.cond 17 (s [m 18 5,m 4 18] .ret) .skip))) (.reg [m 10 5,q 11 .add 10 1,m 5 11])))))) (s [k 4 (-1)] .ret))),[.t 4]⟩
theorem i64 : IsFun Tryz.prog 64 g64 := ⟨Tryz.f64, _, [], Tryz.func64, by kernel_rfl, rfl, by kernel_rfl, by kernel_rfl, rfl⟩
def g66 : GFun := ⟨⟨10,[]⟩,(s [k 4 0] (.seq (s [m 5 0,m 6 1,o 7 .gtr 5 6] (.cond 7 (s [m 8 0,m 4 8] .ret) .skip)) (s [m 9 1,m 4 9] .ret))),[.t 4]⟩
theorem i66 : IsFun Tryz.prog 66 g66 := ⟨Tryz.f66, _, [], Tryz.func66, by kernel_rfl, rfl, by kernel_rfl, by kernel_rfl, rfl⟩
def g67 : GFun := ⟨⟨12,[1,2]⟩,(s [a 1 2 0,x 2 (.allocr 2)] (s [x 3 (.alloc 2 (.agg [(.val (.string (ByteArray.mk #[]))),(.val (.slice none 0 0))]))] (s [f 4 0 1,l 5 4,f 6 0 3,(.mk none none (.store 1 (.t 6) (.t 5)))] (s [f 7 1 1,l 8 7,
 c 9 131 [.t 8],f 10 1 3,(.mk none none (.store 1 (.t 10) (.t 9)))] (s [h 11 2 3,x 2 (.stro 2 2 (.t 11))] .ret))))),[(.c 2 2 true)]⟩
theorem i67 : IsFun Tryz.prog 67 g67 := ⟨Tryz.f67, _, [], Tryz.func67, by kernel_rfl, rfl, by kernel_rfl, by kernel_rfl, rfl⟩
def g68 : GFun := ⟨⟨26,[1,2]⟩,(s [a 1 6 0,x 2 (.allocr 6)] (s [x 3 (.alloc 6 (.agg [(.val (.string (ByteArray.mk #[]))),(.val (.string (ByteArray.mk #[]))),(.val (.slice none 0 0)),(.val (.bool false)),(.val (.slice none 0 0)),(.val
 (.slice none 0 0))]))] (s [f 4 0 1,l 5 4,f 6 0 3,(.mk none none (.store 1 (.t 6) (.t 5)))] (s [f 7 1 1,l 8 7,f 9 1 3,(.mk none none (.store 1 (.t 9) (.t 8)))] (s [f 10 2 1,l 11 10,c 12 132 [.t 11],f 13 2 3,(.mk none none (.store 1
 (.t 13) (.t 12)))] (s [f 14 3 1,l 15 14,f 16 3 3,(.mk none none (.store 1 (.t 16) (.t 15)))] (s [f 17 4 1,l 18 17,c 19 133 [.t 18],f 20 4 3,(.mk none none (.store 1 (.t 20) (.t 19)))] (s [f 21 5 1,l 22 21,c 23 134 [.t 22],f 24 5 3,
 (.mk none none (.store 1 (.t 24) (.t 23)))] (s [h 25 6 3,x 2 (.stro 6 2 (.t 25))] .ret))))))))),[(.c 2 6 true)]⟩
theorem i68 : IsFun Tryz.prog 68 g68 := ⟨Tryz.f68, _, [], Tryz.func68, by kernel_rfl, rfl, by kernel_rfl, by kernel_rfl, rfl⟩
def g69 : GFun := ⟨⟨24,[1,2]⟩,(s [a 1 6 0,x 2 (.allocr 6)] (s [x 3 (.alloc 6 (.agg [(.val (.int .i64 0)),(.val (.int .i64 0)),(.val (.int .i64 0)),(.val (.int .i64 0)),(.val (.string (ByteArray.mk #[]))),(.val (.slice none 0 0))]))]
 (s [f 4 0 1,l 5 4,f 6 0 3,(.mk none none (.store 1 (.t 6) (.t 5)))] (s [f 7 1 1,l 8 7,f 9 1 3,(.mk none none (.store 1 (.t 9) (.t 8)))] (s [f 10 2 1,l 11 10,f 12 2 3,(.mk none none (.store 1 (.t 12) (.t 11)))] (s [f 13 3 1,l 14 13,
 f 15 3 3,(.mk none none (.store 1 (.t 15) (.t 14)))] (s [f 16 4 1,l 17 16,f 18 4 3,(.mk none none (.store 1 (.t 18) (.t 17)))] (s [f 19 5 1,l 20 19,c 21 25 [.t 20],f 22 5 3,(.mk none none (.store 1 (.t 22) (.t 21)))] (s [h 23 6 3,x 2
 (.stro 6 2 (.t 23))] .ret))))))))),[(.c 2 6 true)]⟩
theorem i69 : IsFun Tryz.prog 69 g69 := ⟨Tryz.f69, _, [], Tryz.func69, by kernel_rfl, rfl, by kernel_rfl, by kernel_rfl, rfl⟩
def g73 : GFun := ⟨⟨15,[]⟩,(s [b 6 false] (s [m 7 0,m 8 1,o 9 .geq 7 8,m 10 9,y 11 10 (.mov (.t 0)),y 12 10 (.mov (.t 2)),y 13 10 (.bin .leq (.t 11) (.t 12)),x 14 (.pick (.t 10) (.t 13) (.k (.val (.bool false)))),m 6 14] .ret)),[.t 6]⟩
theorem i73 : IsFun Tryz.prog 73 g73 := ⟨Tryz.f73, _, [], Tryz.func73, by kernel_rfl, rfl, by kernel_rfl, by kernel_rfl, rfl⟩
def g74 : GFun := ⟨⟨53,[2,3,7,8,11]⟩,(s [a 2 2 0,a 3 1 1,x 4 (.mov (.k (.val (.slice none 0 0))))] (s [x 12 (.bslice 2 [] 0 true []),m 5 12] (.seq (s [h 13 2 2,h 14 1 3,c 15 136 [.t 13,.t 14],w 16 15] (.cond 16 (s [m 17 5,
 m 4 17] .ret) .skip)) (.seq (s [f 18 0 3,l 19 18,n 20 19,k 21 0] (.block 0 (.loop (s [o 22 .lss 21 20] (.seq (.cond 22 .skip (.exit 0)) (.seq (.block 1 (s [m 23 21,i 24 6 19 21,h 25 6 24,x 7 (.allocr 6),m 6 23,x 7 (.stro 6 7 (.t 25))]
 (s [m 30 6,x 8 (.allocr 2),h 27 2 2,h 28 2 2,h 29 1 3,x 31 (.call true 137 [.t 28,.t 29,.t 30]),x 32 (.call true 103 [.t 27,.t 31]),m 26 32,x 33 (.ext (.t 26) 0),x 34 (.ext (.t 26) 1),x 8 (.stro 2 8 (.t 33)),m 9 34] (s [f 35 1 8,l 36 35,
 n 37 36,k 38 0] (.block 2 (.loop (s [o 39 .lss 38 37] (.seq (.cond 39 .skip (.exit 2)) (.seq (.block 3 (s [i 40 4 36 38,h 41 4 40,x 11 (.allocr 4),x 11 (.stro 4 11 (.t 41))] (.reg [m 42 5,f 43 0 7,l 44 43,f 45 0 11,l 46 45,x 47
 (.build [(.val (.int .i64 0)),(.val (.string (ByteArray.mk #[])))] [(0,(1,(.t 44))),(1,(1,(.t 46)))]),x 48 (.bslice 2 [] 1 true [(0,(.t 47))]),x 49 (.append 2 24 (.t 42) (.t 48)),m 5 49]))) (.reg [q 50 .add 38 1,m 38 50]))))))))))
 (.reg [q 51 .add 21 1,m 21 51]))))))) (s [m 52 5,m 4 52] .ret))))),[.t 4]⟩
theorem i74 : IsFun Tryz.prog 74 g74 := ⟨Tryz.f74, _, [], Tryz.func74, by kernel_rfl, rfl, by kernel_rfl, by kernel_rfl, rfl⟩
def g76 : GFun := ⟨⟨8,[3]⟩,(s [a 3 2 1,k 4 0] (s [m 5 0,h 6 2 3,c 7 141 [.t 5,.t 6],m 4 7] .ret)),[.t 4]⟩
theorem i76 : IsFun Tryz.prog 76 g76 := ⟨Tryz.f76, _, [], Tryz.func76, by kernel_rfl, rfl, by kernel_rfl, by kernel_rfl, rfl⟩
def g77 : GFun := ⟨⟨16,[2,3]⟩,(s [a 2 2 0,a 3 2 1,b 4 false] (.seq (s [f 5 0 2,l 6 5,f 7 0 3,l 8 7,o 9 .neq 6 8] (.cond 9 (s [b 4 false] .ret) .skip)) (.seq (s [f 10 1 2,l 11 10,f 12 1 3,l 13 12,c 14 142 [.t 11,.t 13],w 15 14] (.cond 15
 (s [b 4 false] .ret) .skip)) (s [b 4 true] .ret)))),[.t 4]⟩
theorem i77 : IsFun Tryz.prog 77 g77 := ⟨Tryz.f77, _, [], Tryz.func77, by kernel_rfl, rfl, by kernel_rfl, by kernel_rfl, rfl⟩
def g78 : GFun := ⟨⟨38,[2,3]⟩,(s [a 2 6 0,a 3 6 1,b 4 false] (.seq (s [f 5 0 2,l 6 5,f 7 0 3,l 8 7,o 9 .neq 6 8] (.cond 9 (s [b 4 false] .ret) .skip)) (.seq (s [f 10 1 2,l 11 10,f 12 1 3,l 13 12,o 14 .neq 11 13] (.cond 14
 (s [b 4 false] .ret) .skip)) (.seq (s [f 15 2 2,l 16 15,f 17 2 3,l 18 17,c 19 143 [.t 16,.t 18],w 20 19] (.cond 20 (s [b 4 false] .ret) .skip)) (.seq (s [f 21 3 2,l 22 21,f 23 3 3,l 24 23,x 25 (.beq true (.t 22) (.t 24))] (.cond 25
 (s [b 4 false] .ret) .skip)) (.seq (s [f 26 4 2,l 27 26,f 28 4 3,l 29 28,c 30 144 [.t 27,.t 29],w 31 30] (.cond 31 (s [b 4 false] .ret) .skip)) (.seq (s [f 32 5 2,l 33 32,f 34 5 3,l 35 34,c 36 145 [.t 33,.t 35],w 37 36] (.cond 37
 (s [b 4 false] .ret) .skip)) (s [b 4 true] .ret)))))))),[.t 4]⟩
theorem i78 : IsFun Tryz.prog 78 g78 := ⟨Tryz.f78, _, [], Tryz.func78, by kernel_rfl, rfl, by kernel_rfl, by kernel_rfl, rfl⟩
def g79 : GFun := ⟨⟨36,[2,3]⟩,(s [a 2 6 0,a 3 6 1,b 4 false] (.seq (s [f 5 0 2,l 6 5,f 7 0 3,l 8 7,o 9 .neq 6 8] (.cond 9 (s [b 4 false] .ret) .skip)) (.seq (s [f 10 1 2,l 11 10,f 12 1 3,l 13 12,o 14 .neq 11 13] (.cond 14
 (s [b 4 false] .ret) .skip)) (.seq (s [f 15 2 2,l 16 15,f 17 2 3,l 18 17,o 19 .neq 16 18] (.cond 19 (s [b 4 false] .ret) .skip)) (.seq (s [f 20 3 2,l 21 20,f 22 3 3,l 23 22,o 24 .neq 21 23] (.cond 24 (s [b 4 false] .ret) .skip)) (.seq
 (s [f 25 4 2,l 26 25,f 27 4 3,l 28 27,o 29 .neq 26 28] (.cond 29 (s [b 4 false] .ret) .skip)) (.seq (s [f 30 5 2,l 31 30,f 32 5 3,l 33 32,c 34 13 [.t 31,.t 33],w 35 34] (.cond 35 (s [b 4 false] .ret) .skip)) (s [b 4 true] .ret)))))))),
 [.t 4]⟩
theorem i79 : IsFun Tryz.prog 79 g79 := ⟨Tryz.f79, _, [], Tryz.func79, by kernel_rfl, rfl, by kernel_rfl, by kernel_rfl, rfl⟩
def g85 : GFun := ⟨⟨15,[]⟩,(s [b 6 false] (s [m 7 0,m 8 1,o 9 .geq 7 8,m 10 9,y 11 10 (.mov (.t 0)),y 12 10 (.mov (.t 2)),y 13 10 (.bin .leq (.t 11) (.t 12)),x 14 (.pick (.t 10) (.t 13) (.k (.val (.bool false)))),m 6 14] .ret)),[.t 6]⟩
theorem i85 : IsFun Tryz.prog 85 g85 := ⟨Tryz.f85, _, [], Tryz.func85, by kernel_rfl, rfl, by kernel_rfl, by kernel_rfl, rfl⟩
def g86 : GFun := ⟨⟨76,[1]⟩,(s [a 1 2 0,k 2 0] (s [x 6 (.bslice 1 [] 0 false []),m 3 6] (.seq (s [k 4 0] (.block 0 (.loop (.seq (s [m 7 4,f 8 0 1,l 9 8,n 10 9,o 11 .lss 7 10] (.cond 11 .skip (.exit 0))) (.seq (.block 1 (.seq (s [f 14 0 1,
 l 15 14,m 16 4,i 17 2 15 16,h 18 2 17,c 19 147 [.t 18],w 20 19,m 21 20,z 22 21 (.mov (.t 3)),z 23 21 (.faddr 0 1 false (.t 1)),z 24 21 (.load 1 false (.t 23)),z 25 21 (.mov (.t 4)),z 26 21 (.iaddr 2 (.t 24) (.t 25)),z 27 21
 (.faddr 0 1 false (.t 26)),z 28 21 (.load 1 false (.t 27)),z 29 21 (.call false 148 [.t 22,.t 28]),x 30 (.pick (.t 21) (.k (.val (.bool true))) (.t 29))] (.cond 30 (s [m 31 4,m 2 31] .ret) .skip)) (.reg [m 32 3,f 33 0 1,l 34 33,m 35 4,
 i 36 2 34 35,f 37 0 36,l 38 37,x 39 (.bslice 1 [] 1 false [(0,(.t 38))]),x 40 (.append 1 16 (.t 32) (.t 39)),m 3 40]))) (.reg [m 12 4,q 13 .add 12 1,m 4 13])))))) (s [x 41 (.bslice 1 [] 0 false []),m 3 41] (.seq (s [k 5 0] (.block 2
 (.loop (.seq (s [m 42 5,f 43 1 1,l 44 43,n 45 44,o 46 .lss 42 45] (.cond 46 .skip (.exit 2))) (.seq (.block 3 (.seq (s [f 49 1 1,l 50 49,m 51 5,i 52 6 50 51,h 53 6 52,c 54 149 [.t 53],w 55 54,m 56 55,z 57 56 (.mov (.t 3)),z 58 56
 (.faddr 1 1 false (.t 1)),z 59 56 (.load 1 false (.t 58)),z 60 56 (.mov (.t 5)),z 61 56 (.iaddr 6 (.t 59) (.t 60)),z 62 56 (.faddr 0 1 false (.t 61)),z 63 56 (.load 1 false (.t 62)),z 64 56 (.call false 148 [.t 57,.t 63]),x 65 (.pick
 (.t 56) (.k (.val (.bool true))) (.t 64))] (.cond 65 (s [m 66 5,m 2 66] .ret) .skip)) (.reg [m 67 3,f 68 1 1,l 69 68,m 70 5,i 71 6 69 70,f 72 0 71,l 73 72,x 74 (.bslice 1 [] 1 false [(0,(.t 73))]),x 75 (.append 1 16 (.t 67) (.t 74)),
 m 3 75]))) (.reg [m 47 5,q 48 .add 47 1,m 5 48])))))) (s [k 2 (-1)] .ret)))))),[.t 2]⟩
theorem i86 : IsFun Tryz.prog 86 g86 := ⟨Tryz.f86, _, [], Tryz.func86, by kernel_rfl, rfl, by kernel_rfl, by kernel_rfl, rfl⟩
def g87 : GFun := ⟨⟨27,[3,4]⟩,(s [a 3 2 0,a 4 6 1,b 6 false] (.seq (s [m 7 2] (.block 0 (s [q 9 .eql 7 3,m 8 9] (.cond 8 (s [h 10 2 3,h 11 6 4,c 12 150 [.t 10,.t 11],w 13 12,m 6 13] .ret) (s [q 15 .eql 7 4,m 14 15] (.cond 14 (s [h 16 2 3,
 h 17 6 4,c 18 151 [.t 16,.t 17],m 6 18] .ret) (s [q 20 .eql 7 5,m 19 20] (.cond 19 (s [h 21 2 3,h 22 6 4,c 23 152 [.t 21,.t 22],m 6 23] .ret) .skip)))))))) (s [h 24 2 3,h 25 6 4,c 26 153 [.t 24,.t 25],m 6 26] .ret))),[.t 6]⟩
theorem i87 : IsFun Tryz.prog 87 g87 := ⟨Tryz.f87, _, [], Tryz.func87, by kernel_rfl, rfl, by kernel_rfl, by kernel_rfl, rfl⟩
def g88 : GFun := ⟨⟨77,[3,4,5]⟩,(s [a 3 2 0,a 4 6 1,a 5 7 2,k 6 0] (.seq (s [f 7 0 5,l 8 7] (.block 0 (s [q 10 .eql 8 1,m 9 10] (.cond 9 (s [f 11 3 5,l 12 11,m 6 12] .ret) (s [q 14 .eql 8 2,m 13 14] (.cond 13 (s [f 15 3 4,l 16 15]
 (.cond 16 (s [k 6 1] .ret) .skip)) (s [q 18 .eql 8 3,m 17 18] (.cond 17 (s [f 19 2 5,l 20 19,f 21 2 4,l 22 21,n 23 22,c 24 85 [.t 20,(.k (.val (.int .i64 0))),.t 23]] (.cond 24 (s [f 27 2 5,f 30 5 5,h 25 2 3,h 26 6 4,l 28 27,x 29
 (.call true 90 [.t 26,.t 28]),l 31 30,x 32 (.call true 89 [.t 25,.t 29,.t 31]),m 6 32] .ret) .skip)) (s [q 34 .eql 8 4,m 33 34] (.cond 33 (s [h 35 2 3,h 36 6 4,h 37 7 5,c 38 154 [.t 35,.t 36,.t 37],m 6 38] .ret) (s [q 40 .eql 8 5,
 m 39 40] (.cond 39 (s [h 41 2 3,h 42 6 4,h 43 7 5,c 44 155 [.t 41,.t 42,.t 43],m 6 44] .ret) (s [q 46 .eql 8 6,m 45 46] (.cond 45 (s [f 47 2 5,l 48 47,f 49 2 4,l 50 49,n 51 50,c 52 85 [.t 48,(.k (.val (.int .i64 0))),.t 51]] (.cond 52
 (s [k 6 4] .ret) .skip)) (s [q 54 .eql 8 7,m 53 54] (.cond 53 (s [k 6 4] .ret) (s [q 56 .eql 8 8,m 55 56] (.cond 55 (s [f 57 6 5,l 58 57,n 59 58,q 60 .eql 59 1,m 61 60,y 64 61 (.faddr 6 1 false (.t 5)),y 62 61 (.load 2 true (.t 3)),
 y 63 61 (.load 6 true (.t 4)),y 65 61 (.load 1 false (.t 64)),y 66 61 (.iaddr 7 (.t 65) (.k (.val (.int .i64 0)))),y 67 61 (.load 7 true (.t 66)),y 68 61 (.call true 88 [.t 62,.t 63,.t 67]),y 69 61 (.bin .eql (.t 68) (.k (.val
 (.int .i64 4)))),x 70 (.pick (.t 61) (.t 69) (.k (.val (.bool false))))] (.cond 70 (s [h 71 2 3,f 72 4 5,l 73 72,f 74 5 5,l 75 74,c 76 89 [.t 71,.t 73,.t 75],m 6 76] .ret) .skip)) .skip)))))))))))))))))) (s [k 6 0] .ret))),[.t 6]⟩
theorem i88 : IsFun Tryz.prog 88 g88 := ⟨Tryz.f88, _, [], Tryz.func88, by kernel_rfl, rfl, by kernel_rfl, by kernel_rfl, rfl⟩
def g89 : GFun := ⟨⟨27,[3,7,9]⟩,(s [a 3 2 0,k 6 0] (s [h 12 2 3,m 13 1,c 14 91 [.t 12,.t 13],m 11 14,x 15 (.ext (.t 11) 0),x 16 (.ext (.t 11) 1),x 7 (.allocr 2),x 7 (.stro 2 7 (.t 15)),m 8 16] (s [h 18 2 7,m 19 2,c 20 92 [.t 18,.t 19],
 m 17 20,x 21 (.ext (.t 17) 0),x 22 (.ext (.t 17) 1),x 9 (.allocr 4),x 9 (.stro 4 9 (.t 21)),m 10 22] (.seq (s [m 23 10,w 24 23] (.cond 24 (s [k 6 0] .ret) .skip)) (s [f 25 1 9,l 26 25,m 6 26] .ret))))),[.t 6]⟩
theorem i89 : IsFun Tryz.prog 89 g89 := ⟨Tryz.f89, _, [], Tryz.func89, by kernel_rfl, rfl, by kernel_rfl, by kernel_rfl, rfl⟩
def g90 : GFun := ⟨⟨21,[2]⟩,(s [a 2 6 0,x 4 (.mov (.k (.val (.string (ByteArray.mk #[])))))] (.seq (s [m 5 1,q 6 .eql 5 0] (.cond 6 (s [f 7 1 2,l 8 7,m 4 8] .ret) .skip)) (.seq (s [m 9 1,f 10 2 2,l 11 10,n 12 11,c 13 85 [.t 9,(.k (.val
 (.int .i64 1))),.t 12],w 14 13] (.cond 14 (s [x 4 (.mov (.k (.val (.string (ByteArray.mk #[])))))] .ret) .skip)) (s [f 15 2 2,l 16 15,m 17 1,q 18 .sub 17 1,i 19 1 16 18,l 20 19,m 4 20] .ret)))),[.t 4]⟩
theorem i90 : IsFun Tryz.prog 90 g90 := ⟨Tryz.f90, _, [], Tryz.func90, by kernel_rfl, rfl, by kernel_rfl, by kernel_rfl, rfl⟩
def g91 : GFun := ⟨⟨29,[2,4]⟩,(s [a 2 2 0,x 4 (.allocr 2),b 5 false] (.seq (s [k 6 0] (.block 0 (.loop (.seq (s [m 7 6,f 8 0 2,l 9 8,n 10 9,o 11 .lss 7 10] (.cond 11 .skip (.exit 0))) (.seq (.block 1 (s [f 14 0 2,l 15 14,m 16 6,
 i 17 2 15 16,f 18 0 17,l 19 18,m 20 1,o 21 .eql 19 20] (.cond 21 (s [f 22 0 2,l 23 22,m 24 6,i 25 2 23 24,h 26 2 25,c 27 156 [.t 26],x 4 (.stro 2 4 (.t 27)),b 5 true] .ret) .skip))) (.reg [m 12 6,q 13 .add 12 1,m 6 13])))))) (s [x 28
 (.build [(.val (.string (ByteArray.mk #[]))),(.val (.slice none 0 0))] []),x 4 (.stro 2 4 (.t 28)),b 5 false] .ret))),[(.c 4 2 true),.t 5]⟩
theorem i91 : IsFun Tryz.prog 91 g91 := ⟨Tryz.f91, _, [], Tryz.func91, by kernel_rfl, rfl, by kernel_rfl, by kernel_rfl, rfl⟩
def g92 : GFun := ⟨⟨28,[2,4]⟩,(s [a 2 2 0,x 4 (.allocr 4),b 5 false] (.seq (s [k 6 0] (.block 0 (.loop (.seq (s [m 7 6,f 8 1 2,l 9 8,n 10 9,o 11 .lss 7 10] (.cond 11 .skip (.exit 0))) (.seq (.block 1 (s [f 14 1 2,l 15 14,m 16 6,
 i 17 4 15 16,f 18 0 17,l 19 18,m 20 1,o 21 .eql 19 20] (.cond 21 (s [f 22 1 2,l 23 22,m 24 6,i 25 4 23 24,h 26 4 25,x 4 (.stro 4 4 (.t 26)),b 5 true] .ret) .skip))) (.reg [m 12 6,q 13 .add 12 1,m 6 13])))))) (s [x 27 (.build [(.val
 (.string (ByteArray.mk #[]))),(.val (.int .i64 0)),(.val (.int .i64 0)),(.val (.bool false))] []),x 4 (.stro 4 4 (.t 27)),b 5 false] .ret))),[(.c 4 4 true),.t 5]⟩
theorem i92 : IsFun Tryz.prog 92 g92 := ⟨Tryz.f92, _, [], Tryz.func92, by kernel_rfl, rfl, by kernel_rfl, by kernel_rfl, rfl⟩
def g93 : GFun := ⟨⟨16,[2]⟩,(s [a 2 2 0,k 4 0] (s [h 6 2 2,m 7 1,c 8 157 [.t 6,.t 7],m 5 8] (.seq (s [m 9 5,q 10 .lss 9 0] (.cond 10 (s [k 4 0] .ret) .skip)) (s [h 11 2 2,c 12 158 [.t 11],m 13 5,i 14 1 12 13,l 15 14,m 4 15] .ret)))),[.t 4]⟩
theorem i93 : IsFun Tryz.prog 93 g93 := ⟨Tryz.f93, _, [], Tryz.func93, by kernel_rfl, rfl, by kernel_rfl, by kernel_rfl, rfl⟩
def g94 : GFun := ⟨⟨49,[1,4,6]⟩,(s [a 1 2 0,k 2 0] (.seq (s [f 7 0 1,l 8 7,n 9 8,k 10 0] (.block 0 (.loop (s [o 11 .lss 10 9] (.seq (.cond 11 .skip (.exit 0)) (.seq (.block 1 (s [m 12 10,i 13 2 8 10,h 14 2 13,x 4 (.allocr 2),m 3 12,x 4
 (.stro 2 4 (.t 14))] (s [h 15 2 4,c 16 159 [.t 15],w 17 16,m 18 17,z 19 18 (.faddr 0 1 false (.t 1)),z 20 18 (.load 1 false (.t 19)),z 21 18 (.mov (.t 3)),z 22 18 (.slc 2 (.t 20) none (some (.t 21))),z 23 18 (.mkfn 160 [.t 4]),z 24 18
 (.call false 112 [.t 22,.t 23]),x 25 (.pick (.t 18) (.k (.val (.bool true))) (.t 24))] (.cond 25 (s [m 26 3,m 2 26] .ret) .skip)))) (.reg [q 27 .add 10 1,m 10 27]))))))) (.seq (s [f 28 1 1,l 29 28,n 30 29,k 31 0] (.block 2 (.loop
 (s [o 32 .lss 31 30] (.seq (.cond 32 .skip (.exit 2)) (.seq (.block 3 (s [m 33 31,i 34 6 29 31,h 35 6 34,x 6 (.allocr 6),m 5 33,x 6 (.stro 6 6 (.t 35))] (s [h 36 6 6,c 37 161 [.t 36],w 38 37,m 39 38,z 40 39 (.faddr 1 1 false (.t 1)),
 z 41 39 (.load 1 false (.t 40)),z 42 39 (.mov (.t 5)),z 43 39 (.slc 6 (.t 41) none (some (.t 42))),z 44 39 (.mkfn 162 [.t 6]),z 45 39 (.call false 107 [.t 43,.t 44]),x 46 (.pick (.t 39) (.k (.val (.bool true))) (.t 45))] (.cond 46
 (s [m 47 5,m 2 47] .ret) .skip)))) (.reg [q 48 .add 31 1,m 31 48]))))))) (s [k 2 (-1)] .ret)))),[.t 2]⟩
theorem i94 : IsFun Tryz.prog 94 g94 := ⟨Tryz.f94, _, [], Tryz.func94, by kernel_rfl, rfl, by kernel_rfl, by kernel_rfl, rfl⟩
def g95 : GFun := ⟨⟨9,[]⟩,(s [b 4 false] (s [m 5 0,m 6 1,c 7 163 [.t 5,.t 6],q 8 .geq 7 0,m 4 8] .ret)),[.t 4]⟩
theorem i95 : IsFun Tryz.prog 95 g95 := ⟨Tryz.f95, _, [], Tryz.func95, by kernel_rfl, rfl, by kernel_rfl, by kernel_rfl, rfl⟩
def g96 : GFun := ⟨⟨6,[1]⟩,(s [a 1 4 0,b 2 false] (s [f 3 2 1,l 4 3,q 5 .eql 4 1,m 2 5] .ret)),[.t 2]⟩
theorem i96 : IsFun Tryz.prog 96 g96 := ⟨Tryz.f96, _, [], Tryz.func96, by kernel_rfl, rfl, by kernel_rfl, by kernel_rfl, rfl⟩
def g97 : GFun := ⟨⟨26,[2,3,6]⟩,(s [a 2 2 0,a 3 6 1,b 4 false] (.seq (s [f 8 2 3,l 9 8,n 10 9,q 11 .add 10 1,k 12 0] (.block 0 (.loop (s [o 13 .lss 12 11] (.seq (.cond 13 .skip (.exit 0)) (.seq (.block 1 (s [m 14 12,m 5 14] (s [m 18 5,x 6
 (.allocr 2),h 16 2 2,h 17 6 3,x 19 (.call true 164 [.t 17,.t 18]),x 20 (.call true 103 [.t 16,.t 19]),m 15 20,x 21 (.ext (.t 15) 0),x 22 (.ext (.t 15) 1),x 6 (.stro 2 6 (.t 21)),m 7 22] (s [m 23 7,w 24 23] (.cond 24
 (s [b 4 true] .ret) .skip))))) (.reg [q 25 .add 12 1,m 12 25]))))))) (s [b 4 false] .ret))),[.t 4]⟩
theorem i97 : IsFun Tryz.prog 97 g97 := ⟨Tryz.f97, _, [], Tryz.func97, by kernel_rfl, rfl, by kernel_rfl, by kernel_rfl, rfl⟩
def g98 : GFun := ⟨⟨10,[2,3]⟩,(s [a 2 2 0,a 3 6 1,b 4 false] (s [h 5 2 2,h 6 6 3,c 7 166 [.t 5,.t 6],x 8 (.mkfn 167 [.t 3]),c 9 165 [.t 7,.t 8],m 4 9] .ret)),[.t 4]⟩
theorem i98 : IsFun Tryz.prog 98 g98 := ⟨Tryz.f98, _, [], Tryz.func98, by kernel_rfl, rfl, by kernel_rfl, by kernel_rfl, rfl⟩
def g99 : GFun := ⟨⟨33,[2,3,7]⟩,(s [a 2 2 0,a 3 6 1,b 4 false] (s [h 8 2 2,h 9 6 3,c 10 166 [.t 8,.t 9],m 5 10] (.seq (s [f 11 4 3,l 12 11,n 13 12,k 14 0] (.block 0 (.loop (s [o 15 .lss 14 13] (.seq (.cond 15 .skip (.exit 0)) (.seq
 (.block 1 (s [m 16 14,i 17 9 12 14,h 18 9 17,x 7 (.allocr 9),m 6 16,x 7 (.stro 9 7 (.t 18))] (s [m 19 5,e 20 0 2 7,h 21 2 20,c 22 170 [.t 19,.t 21],w 23 22,m 24 23,z 25 24 (.faddr 4 1 false (.t 3)),z 26 24 (.load 1 false (.t 25)),z 27 24
 (.mov (.t 6)),z 28 24 (.slc 9 (.t 26) none (some (.t 27))),z 29 24 (.mkfn 171 [.t 7]),z 30 24 (.call false 168 [.t 28,.t 29]),x 31 (.pick (.t 24) (.k (.val (.bool true))) (.t 30))] (.cond 31 (s [b 4 true] .ret) .skip))))
 (.reg [q 32 .add 14 1,m 14 32]))))))) (s [b 4 false] .ret)))),[.t 4]⟩
theorem i99 : IsFun Tryz.prog 99 g99 := ⟨Tryz.f99, _, [], Tryz.func99, by kernel_rfl, rfl, by kernel_rfl, by kernel_rfl, rfl⟩
def g100 : GFun := ⟨⟨9,[2,3]⟩,(s [a 2 2 0,a 3 6 1,b 4 false] (s [h 5 6 3,c 6 110 [.t 5],x 7 (.mkfn 172 [.t 2,.t 3]),c 8 109 [.t 6,.t 7],m 4 8] .ret)),[.t 4]⟩
theorem i100 : IsFun Tryz.prog 100 g100 := ⟨Tryz.f100, _, [], Tryz.func100, by kernel_rfl, rfl, by kernel_rfl, by kernel_rfl, rfl⟩
def g101 : GFun := ⟨⟨33,[3,4,5,6,8]⟩,(s [a 3 2 0,a 4 6 1,a 5 2 2,x 6 (.allocr 4),b 7 false] (.seq (s [f 10 0 5,l 11 10,f 12 2 4,l 13 12,n 14 13,c 15 73 [.t 11,(.k (.val (.int .i64 0))),.t 14],w 16 15] (.cond 16 (s [x 17 (.build [(.val
 (.string (ByteArray.mk #[]))),(.val (.int .i64 0)),(.val (.int .i64 0)),(.val (.bool false))] []),x 6 (.stro 4 6 (.t 17)),b 7 false] .ret) .skip)) (s [f 21 0 5,x 8 (.allocr 2),h 19 2 3,h 20 6 4,l 22 21,x 23 (.call true 164 [.t 20,.t 22]),
 x 24 (.call true 103 [.t 19,.t 23]),m 18 24,x 25 (.ext (.t 18) 0),x 26 (.ext (.t 18) 1),x 8 (.stro 2 8 (.t 25)),m 9 26] (s [h 27 2 8,f 28 1 5,l 29 28,c 30 104 [.t 27,.t 29],x 31 (.ext (.t 30) 0),x 32 (.ext (.t 30) 1),x 6 (.stro 4 6
 (.t 31)),m 7 32] .ret)))),[(.c 6 4 true),.t 7]⟩
theorem i101 : IsFun Tryz.prog 101 g101 := ⟨Tryz.f101, _, [], Tryz.func101, by kernel_rfl, rfl, by kernel_rfl, by kernel_rfl, rfl⟩
def g102 : GFun := ⟨⟨166,[3,4,5,9,10,15,17]⟩,(s [a 3 2 0,a 4 6 1,a 5 7 2,k 6 0] (s [x 19 (.bslice 1 [] 0 false []),m 7 19] (.seq (s [f 20 6 5,l 21 20,n 22 21,k 23 0] (.block 0 (.loop (s [o 24 .lss 23 22] (.seq (.cond 24 .skip (.exit 0))
 (.seq (.block 1 (s [i 25 7 21 23,h 26 7 25,x 9 (.allocr 7),x 9 (.stro 7 9 (.t 26))] (.reg [m 27 7,h 28 2 3,h 29 6 4,h 30 7 9,c 31 102 [.t 28,.t 29,.t 30],x 32 (.bslice 1 [] 1 false [(0,(.t 31))]),x 33 (.append 1 8 (.t 27) (.t 32)),
 m 7 33]))) (.reg [q 34 .add 23 1,m 23 34]))))))) (.seq (.block 2 (s [f 36 0 5,l 37 36,q 38 .eql 37 1,m 35 38] (.cond 35 (s [f 39 3 5,l 40 39,m 6 40] .ret) (s [f 42 0 5,l 43 42,q 44 .eql 43 2,m 45 44,y 46 45 (.faddr 3 1 false (.t 4)),
 y 47 45 (.load 1 false (.t 46)),x 48 (.pick (.t 45) (.t 47) (.k (.val (.bool false)))),m 41 48] (.cond 41 (s [k 6 1] .ret) (s [f 50 0 5,l 51 50,q 52 .eql 51 3,m 49 52] (.cond 49 (s [h 54 2 3,h 55 6 4,f 56 2 5,l 57 56,f 58 5 5,l 59 58,
 x 60 (.build [(.val (.int .i64 0)),(.val (.string (ByteArray.mk #[])))] [(0,(1,(.t 57))),(1,(1,(.t 59)))]),c 61 101 [.t 54,.t 55,.t 60],m 53 61,x 62 (.ext (.t 53) 0),x 63 (.ext (.t 53) 1),x 10 (.allocr 4),x 10 (.stro 4 10 (.t 62)),
 m 11 63] (s [f 64 1 10,l 65 64,m 6 65] .ret)) (s [f 67 0 5,l 68 67,q 69 .eql 68 4,m 70 69,y 71 70 (.mov (.t 7)),y 72 70 (.len (.t 71)),y 73 70 (.bin .eql (.t 72) (.k (.val (.int .i64 2)))),x 74 (.pick (.t 70) (.t 73) (.k (.val
 (.bool false)))),m 66 74] (.cond 66 (s [f 76 1 5,l 77 76,c 78 175 [.t 77],m 75 78,x 79 (.ext (.t 75) 0),x 80 (.ext (.t 75) 1),x 81 (.ext (.t 75) 2),m 12 79,m 13 80,m 14 81] (s [m 82 7,x 83 (.iaddr 1 (.t 82) (.k (.val (.int .i64 0)))),
 l 84 83,m 85 12,o 86 .eql 84 85,m 87 86,y 88 87 (.mov (.t 7)),y 89 87 (.iaddr 1 (.t 88) (.k (.val (.int .i64 1)))),y 90 87 (.load 1 false (.t 89)),y 91 87 (.mov (.t 13)),y 92 87 (.bin .eql (.t 90) (.t 91)),x 93 (.pick (.t 87) (.t 92) (.k
 (.val (.bool false))))] (.cond 93 (s [m 94 14,m 6 94] .ret) .skip))) (s [f 96 0 5,l 97 96,q 98 .eql 97 5,m 99 98,y 100 99 (.mov (.t 7)),y 101 99 (.len (.t 100)),y 102 99 (.bin .eql (.t 101) (.k (.val (.int .i64 3)))),x 103 (.pick (.t 99)
 (.t 102) (.k (.val (.bool false)))),m 95 103] (.cond 95 (s [m 104 7,x 105 (.iaddr 1 (.t 104) (.k (.val (.int .i64 0)))),l 106 105,q 107 .eql 106 3,m 108 107,y 109 108 (.mov (.t 7)),y 110 108 (.iaddr 1 (.t 109) (.k (.val (.int .i64 1)))),
 y 112 108 (.mov (.t 7)),y 113 108 (.iaddr 1 (.t 112) (.k (.val (.int .i64 2)))),y 111 108 (.load 1 false (.t 110)),y 114 108 (.load 1 false (.t 113)),y 115 108 (.bin .eql (.t 111) (.t 114)),x 116 (.pick (.t 108) (.t 115) (.k (.val
 (.bool false))))] (.cond 116 (s [m 117 7,x 118 (.iaddr 1 (.t 117) (.k (.val (.int .i64 1)))),l 119 118,m 6 119] .ret) .skip)) (.seq (s [f 121 0 5,l 122 121,q 123 .eql 122 6,m 124 123,y 125 124 (.faddr 2 1 false (.t 5)),y 126 124
 (.load 1 false (.t 125)),y 127 124 (.faddr 2 1 false (.t 4)),y 128 124 (.load 1 false (.t 127)),y 129 124 (.len (.t 128)),y 130 124 (.call false 73 [.t 126,(.k (.val (.int .i64 0))),.t 129]),x 131 (.pick (.t 124) (.t 130) (.k (.val
 (.bool false)))),m 120 131] (.cond 120 .skip (.reg [f 132 0 5,l 133 132,q 134 .eql 133 7,m 120 134]))) (.cond 120 (s [k 6 4] .ret) (s [f 136 0 5,l 137 136,q 138 .eql 137 8,m 139 138,y 140 139 (.mov (.t 7)),y 141 139 (.len (.t 140)),
 y 142 139 (.bin .eql (.t 141) (.k (.val (.int .i64 1)))),x 143 (.pick (.t 139) (.t 142) (.k (.val (.bool false)))),m 144 143,y 145 144 (.mov (.t 7)),y 146 144 (.iaddr 1 (.t 145) (.k (.val (.int .i64 0)))),y 147 144 (.load 1 false
 (.t 146)),y 148 144 (.bin .eql (.t 147) (.k (.val (.int .i64 4)))),x 149 (.pick (.t 144) (.t 148) (.k (.val (.bool false)))),m 135 149] (.cond 135 (s [h 151 2 3,f 152 4 5,l 153 152,c 154 103 [.t 151,.t 153],m 150 154,x 155 (.ext
 (.t 150) 0),x 156 (.ext (.t 150) 1),x 15 (.allocr 2),x 15 (.stro 2 15 (.t 155)),m 16 156] (s [h 158 2 15,f 159 5 5,l 160 159,c 161 104 [.t 158,.t 160],m 157 161,x 162 (.ext (.t 157) 0),x 163 (.ext (.t 157) 1),x 17 (.allocr 4),x 17
 (.stro 4 17 (.t 162)),m 18 163] (s [f 164 1 17,l 165 164,m 6 165] .ret))) .skip))))))))))))))) (s [k 6 0] .ret))))),[.t 6]⟩
theorem i102 : IsFun Tryz.prog 102 g102 := ⟨Tryz.f102, _, [], Tryz.func102, by kernel_rfl, rfl, by kernel_rfl, by kernel_rfl, rfl⟩
def g103 : GFun := ⟨⟨22,[2,4,7]⟩,(s [a 2 2 0,x 4 (.allocr 2),b 5 false] (.seq (s [f 8 0 2,l 9 8,n 10 9,k 11 0] (.block 0 (.loop (s [o 12 .lss 11 10] (.seq (.cond 12 .skip (.exit 0)) (.seq (.block 1 (s [i 13 2 9 11,h 14 2 13,x 7 (.allocr 2),
 x 7 (.stro 2 7 (.t 14))] (s [f 15 0 7,l 16 15,m 17 1,o 18 .eql 16 17] (.cond 18 (s [h 19 2 7,x 4 (.stro 2 4 (.t 19)),b 5 true] .ret) .skip)))) (.reg [q 20 .add 11 1,m 11 20]))))))) (s [x 21 (.build [(.val (.string (ByteArray.mk #[]))),
 (.val (.slice none 0 0))] []),x 4 (.stro 2 4 (.t 21)),b 5 false] .ret))),[(.c 4 2 true),.t 5]⟩
theorem i103 : IsFun Tryz.prog 103 g103 := ⟨Tryz.f103, _, [], Tryz.func103, by kernel_rfl, rfl, by kernel_rfl, by kernel_rfl, rfl⟩
def g104 : GFun := ⟨⟨22,[2,4,7]⟩,(s [a 2 2 0,x 4 (.allocr 4),b 5 false] (.seq (s [f 8 1 2,l 9 8,n 10 9,k 11 0] (.block 0 (.loop (s [o 12 .lss 11 10] (.seq (.cond 12 .skip (.exit 0)) (.seq (.block 1 (s [i 13 4 9 11,h 14 4 13,x 7 (.allocr 4),
 x 7 (.stro 4 7 (.t 14))] (s [f 15 0 7,l 16 15,m 17 1,o 18 .eql 16 17] (.cond 18 (s [h 19 4 7,x 4 (.stro 4 4 (.t 19)),b 5 true] .ret) .skip)))) (.reg [q 20 .add 11 1,m 11 20]))))))) (s [x 21 (.build [(.val (.string (ByteArray.mk #[]))),
 (.val (.int .i64 0)),(.val (.int .i64 0)),(.val (.bool false))] []),x 4 (.stro 4 4 (.t 21)),b 5 false] .ret))),[(.c 4 4 true),.t 5]⟩
theorem i104 : IsFun Tryz.prog 104 g104 := ⟨Tryz.f104, _, [], Tryz.func104, by kernel_rfl, rfl, by kernel_rfl, by kernel_rfl, rfl⟩
def g105 : GFun := ⟨⟨24,[6]⟩,(s [k 4 0] (.seq (s [f 7 0 1,l 8 7,n 9 8,k 10 0] (.block 0 (.loop (s [o 11 .lss 10 9] (.seq (.cond 11 .skip (.exit 0)) (.seq (.block 1 (s [m 12 10,i 13 2 8 10,h 14 2 13,x 6 (.allocr 2),m 5 12,x 6 (.stro 2 6
 (.t 14))] (s [f 15 0 6,l 16 15,m 17 0,o 18 .eql 16 17] (.cond 18 (s [l 19 2,m 20 5,i 21 1 19 20,l 22 21,m 4 22] .ret) .skip)))) (.reg [q 23 .add 10 1,m 10 23]))))))) (s [k 4 0] .ret))),[.t 4]⟩
theorem i105 : IsFun Tryz.prog 105 g105 := ⟨Tryz.f105, _, [], Tryz.func105, by kernel_rfl, rfl, by kernel_rfl, by kernel_rfl, rfl⟩
def g106 : GFun := ⟨⟨20,[1]⟩,(s [a 1 7 0,b 2 false] (.seq (s [k 3 0] (.block 0 (.loop (.seq (s [m 4 3,f 5 6 1,l 6 5,n 7 6,o 8 .lss 4 7] (.cond 8 .skip (.exit 0))) (.seq (.block 1 (s [f 11 6 1,l 12 11,m 13 3,i 14 7 12 13,h 15 7 14,
 c 16 106 [.t 15]] (.cond 16 (s [b 2 true] .ret) .skip))) (.reg [m 9 3,q 10 .add 9 1,m 3 10])))))) (s [f 17 0 1,l 18 17,q 19 .eql 18 8,m 2 19] .ret))),[.t 2]⟩
theorem i106 : IsFun Tryz.prog 106 g106 := ⟨Tryz.f106, _, [], Tryz.func106, by kernel_rfl, rfl, by kernel_rfl, by kernel_rfl, rfl⟩
def g107 : GFun := ⟨⟨9,[]⟩,(s [b 4 false] (s [m 5 0,m 6 1,c 7 176 [.t 5,.t 6],q 8 .geq 7 0,m 4 8] .ret)),[.t 4]⟩
theorem i107 : IsFun Tryz.prog 107 g107 := ⟨Tryz.f107, _, [], Tryz.func107, by kernel_rfl, rfl, by kernel_rfl, by kernel_rfl, rfl⟩
def g108 : GFun := ⟨⟨6,[1]⟩,(s [a 1 6 0,b 2 false] (s [h 3 6 1,c 4 110 [.t 3],x 5 (.call false 109 [.t 4,(.k (.clo 111 []))]),m 2 5] .ret)),[.t 2]⟩
theorem i108 : IsFun Tryz.prog 108 g108 := ⟨Tryz.f108, _, [], Tryz.func108, by kernel_rfl, rfl, by kernel_rfl, by kernel_rfl, rfl⟩
def g109 : GFun := ⟨⟨9,[]⟩,(s [b 4 false] (s [m 5 0,m 6 1,c 7 177 [.t 5,.t 6],q 8 .geq 7 0,m 4 8] .ret)),[.t 4]⟩
theorem i109 : IsFun Tryz.prog 109 g109 := ⟨Tryz.f109, _, [], Tryz.func109, by kernel_rfl, rfl, by kernel_rfl, by kernel_rfl, rfl⟩
def g110 : GFun := ⟨⟨38,[1,5,7]⟩,(s [a 1 6 0,x 2 (.mov (.k (.val (.slice none 0 0))))] (s [x 8 (.bslice 7 [] 0 true []),m 3 8] (.seq (s [f 9 4 1,l 10 9,n 11 10,k 12 0] (.block 0 (.loop (s [o 13 .lss 12 11] (.seq (.cond 13 .skip (.exit 0))
 (.seq (.block 1 (s [i 14 9 10 12,h 15 9 14,x 5 (.allocr 9),x 5 (.stro 9 5 (.t 15))] (.reg [m 16 3,e 17 2 7 5,h 18 7 17,x 19 (.bslice 7 [] 1 true [(0,(.t 18))]),x 20 (.append 7 88 (.t 16) (.t 19)),m 3 20]))) (.reg [q 21 .add 12 1,
 m 12 21]))))))) (.seq (s [f 22 5 1,l 23 22,n 24 23,k 25 0] (.block 2 (.loop (s [o 26 .lss 25 24] (.seq (.cond 26 .skip (.exit 2)) (.seq (.block 3 (s [i 27 16 23 25,h 28 16 27,x 7 (.allocr 16),x 7 (.stro 16 7 (.t 28))] (.reg [m 29 3,
 e 30 2 7 7,h 31 7 30,e 32 9 7 7,h 33 7 32,x 34 (.bslice 7 [] 2 true [(0,(.t 31)),(1,(.t 33))]),x 35 (.append 7 88 (.t 29) (.t 34)),m 3 35]))) (.reg [q 36 .add 25 1,m 25 36]))))))) (s [m 37 3,m 2 37] .ret))))),[.t 2]⟩
theorem i110 : IsFun Tryz.prog 110 g110 := ⟨Tryz.f110, _, [], Tryz.func110, by kernel_rfl, rfl, by kernel_rfl, by kernel_rfl, rfl⟩
def g111 : GFun := ⟨⟨6,[1]⟩,(s [a 1 7 0,b 2 false] (s [h 3 7 1,x 4 (.call false 178 [.t 3,(.k (.clo 179 []))]),w 5 4,m 2 5] .ret)),[.t 2]⟩
theorem i111 : IsFun Tryz.prog 111 g111 := ⟨Tryz.f111, _, [], Tryz.func111, by kernel_rfl, rfl, by kernel_rfl, by kernel_rfl, rfl⟩
def g112 : GFun := ⟨⟨9,[]⟩,(s [b 4 false] (s [m 5 0,m 6 1,c 7 180 [.t 5,.t 6],q 8 .geq 7 0,m 4 8] .ret)),[.t 4]⟩
theorem i112 : IsFun Tryz.prog 112 g112 := ⟨Tryz.f112, _, [], Tryz.func112, by kernel_rfl, rfl, by kernel_rfl, by kernel_rfl, rfl⟩
def g113 : GFun := ⟨⟨8,[2]⟩,(s [a 2 2 0,b 3 false] (s [f 4 1 2,l 5 4,l 6 1,c 7 95 [.t 5,.t 6],m 3 7] .ret)),[.t 3]⟩
theorem i113 : IsFun Tryz.prog 113 g113 := ⟨Tryz.f113, _, [], Tryz.func113, by kernel_rfl, rfl, by kernel_rfl, by kernel_rfl, rfl⟩
def g114 : GFun := ⟨⟨19,[3,4]⟩,(s [a 3 2 0,a 4 1 1,b 6 false] (s [h 7 1 4,x 8 (.call true 181 [.t 7]),m 9 8,y 12 9 (.mov (.t 2)),y 14 9 (.faddr 0 1 false (.t 4)),y 10 9 (.load 2 true (.t 3)),y 11 9 (.load 1 true (.t 4)),y 13 9
 (.call true 182 [.t 10,.t 11,(.k (.val (.int .i64 0))),(.k (.val (.int .i64 (-1)))),(.k (.val (.int .i64 0))),.t 12]),y 15 9 (.load 1 false (.t 14)),y 16 9 (.len (.t 15)),y 17 9 (.bin .eql (.t 13) (.t 16)),x 18 (.pick (.t 9) (.t 17) (.k
 (.val (.bool false)))),m 6 18] .ret)),[.t 6]⟩
theorem i114 : IsFun Tryz.prog 114 g114 := ⟨Tryz.f114, _, [], Tryz.func114, by kernel_rfl, rfl, by kernel_rfl, by kernel_rfl, rfl⟩
def g115 : GFun := ⟨⟨29,[3,4,7]⟩,(s [a 3 2 0,a 4 1 1,x 6 (.mov (.k (.val (.string (ByteArray.mk #[])))))] (.seq (s [m 9 2,f 10 0 4,l 11 10,n 12 11,q 13 .sub 12 1,c 14 85 [.t 9,(.k (.val (.int .i64 0))),.t 13],w 15 14] (.cond 15 (s [x 6
 (.mov (.k (.val (.string (ByteArray.mk #[])))))] .ret) .skip)) (s [f 18 0 4,m 20 2,x 7 (.allocr 6),h 17 2 3,l 19 18,i 21 6 19 20,f 22 4 21,l 23 22,x 24 (.call true 183 [.t 17,.t 23]),m 16 24,x 25 (.ext (.t 16) 0),x 26 (.ext (.t 16) 1),
 x 7 (.stro 6 7 (.t 25)),m 8 26] (s [f 27 1 7,l 28 27,m 6 28] .ret)))),[.t 6]⟩
theorem i115 : IsFun Tryz.prog 115 g115 := ⟨Tryz.f115, _, [], Tryz.func115, by kernel_rfl, rfl, by kernel_rfl, by kernel_rfl, rfl⟩
def g116 : GFun := ⟨⟨86,[3,4,5,6,8,13,15]⟩,(s [a 3 2 0,a 4 1 1,a 5 2 2,x 6 (.allocr 8),b 7 false] (s [h 18 2 3,h 19 1 4,h 20 2 5,c 21 184 [.t 18,.t 19,.t 20],m 17 21,x 22 (.ext (.t 17) 0),x 23 (.ext (.t 17) 1),x 8 (.allocr 4),x 8
 (.stro 4 8 (.t 22)),m 9 23] (s [h 24 1 4,f 25 0 5,l 26 25,c 27 185 [.t 24,.t 26],m 10 27] (.seq (s [m 28 9,w 29 28,m 30 29,z 31 30 (.faddr 2 1 false (.t 8)),z 32 30 (.load 1 false (.t 31)),z 33 30 (.bin .eql (.t 32) (.k (.val
 (.int .i64 3)))),x 34 (.pick (.t 30) (.k (.val (.bool true))) (.t 33))] (.cond 34 (s [x 35 (.build [(.val (.int .i64 0)),(.val (.int .i64 0)),(.val (.int .i64 0)),(.val (.int .i64 0)),(.val (.int .i64 0)),(.val (.string
 (ByteArray.mk #[]))),(.val (.string (ByteArray.mk #[]))),(.val (.slice none 0 0))] []),x 6 (.stro 8 6 (.t 35)),b 7 false] .ret) .skip)) (s [m 36 10,m 11 36] (s [k 12 0] (.seq (s [f 37 2 8,l 38 37,q 39 .eql 38 1] (.cond 39 (s [f 40 0 4,
 l 41 40,m 42 10,i 43 6 41 42,f 44 1 43,l 45 44,m 11 45] (.reg [f 46 0 4,l 47 46,m 48 10,i 49 6 47 48,f 50 2 49,l 51 50,m 12 51])) .skip)) (.seq (s [m 52 11,f 53 0 4,l 54 53,n 55 54,q 56 .sub 55 1,c 57 85 [.t 52,(.k (.val (.int .i64 0))),
 .t 56],w 58 57] (.cond 58 (s [x 59 (.build [(.val (.int .i64 0)),(.val (.int .i64 0)),(.val (.int .i64 0)),(.val (.int .i64 0)),(.val (.int .i64 0)),(.val (.string (ByteArray.mk #[]))),(.val (.string (ByteArray.mk #[]))),(.val
 (.slice none 0 0))] []),x 6 (.stro 8 6 (.t 59)),b 7 false] .ret) .skip)) (s [f 62 0 4,m 64 11,x 13 (.allocr 6),h 61 2 3,l 63 62,i 65 6 63 64,f 66 4 65,l 67 66,x 68 (.call true 183 [.t 61,.t 67]),m 60 68,x 69 (.ext (.t 60) 0),x 70 (.ext
 (.t 60) 1),x 13 (.stro 6 13 (.t 69)),m 14 70] (s [h 72 6 13,m 73 12,f 74 1 5,l 75 74,x 76 (.build [(.val (.int .i64 0)),(.val (.string (ByteArray.mk #[])))] [(0,(1,(.t 73))),(1,(1,(.t 75)))]),c 77 186 [.t 72,.t 76],m 71 77,x 78 (.ext
 (.t 71) 0),x 79 (.ext (.t 71) 1),x 15 (.allocr 7),x 15 (.stro 7 15 (.t 78)),m 16 79] (.seq (s [m 80 16,w 81 80] (.cond 81 (s [x 82 (.build [(.val (.int .i64 0)),(.val (.int .i64 0)),(.val (.int .i64 0)),(.val (.int .i64 0)),(.val
 (.int .i64 0)),(.val (.string (ByteArray.mk #[]))),(.val (.string (ByteArray.mk #[]))),(.val (.slice none 0 0))] []),x 6 (.stro 8 6 (.t 82)),b 7 false] .ret) .skip)) (s [m 83 11,h 84 7 15,x 85 (.build [(.val (.int .i64 0)),(.val
 (.int .i64 0)),(.val (.int .i64 0)),(.val (.int .i64 0)),(.val (.int .i64 0)),(.val (.string (ByteArray.mk #[]))),(.val (.string (ByteArray.mk #[]))),(.val (.slice none 0 0))] [(0,(1,(.t 83))),(1,(7,(.t 84)))]),x 6 (.stro 8 6 (.t 85)),
 b 7 true] .ret)))))))))))),[(.c 6 8 true),.t 7]⟩
theorem i116 : IsFun Tryz.prog 116 g116 := ⟨Tryz.f116, _, [], Tryz.func116, by kernel_rfl, rfl, by kernel_rfl, by kernel_rfl, rfl⟩
def g117 : GFun := ⟨⟨17,[4]⟩,(s [a 4 7 0,k 8 0] (.seq (s [h 9 7 4,c 10 187 [.t 9],w 11 10] (.cond 11 (s [k 8 0] .ret) .skip)) (s [h 12 7 4,m 13 1,m 14 2,m 15 3,c 16 188 [.t 12,.t 13,.t 14,.t 15],m 8 16] .ret))),[.t 8]⟩
theorem i117 : IsFun Tryz.prog 117 g117 := ⟨Tryz.f117, _, [], Tryz.func117, by kernel_rfl, rfl, by kernel_rfl, by kernel_rfl, rfl⟩
def g118 : GFun := ⟨⟨91,[5,6,14]⟩,(s [a 5 2 0,a 6 1 1,x 10 (.mov (.k (.val (.slice none 0 0))))] (s [x 18 (.bslice 3 [] 0 true []),m 11 18] (.seq (s [k 12 0] (.block 0 (.loop (.seq (s [m 19 12,f 20 0 6,l 21 20,m 22 2,i 23 6 21 22,f 24 5 23,
 l 25 24,n 26 25,o 27 .leq 19 26] (.cond 27 .skip (.exit 0))) (.seq (.block 1 (s [m 30 2,m 13 30] (.seq (s [m 31 12,q 32 .gtr 31 0] (.cond 32 (.reg [f 33 0 6,l 34 33,m 35 2,i 36 6 34 35,f 37 5 36,l 38 37,m 39 12,q 40 .sub 39 1,i 41 1 38 40,
 l 42 41,m 13 42]) .skip)) (s [m 47 13,x 14 (.allocr 2),h 44 2 5,h 45 2 5,h 46 1 6,x 48 (.call true 115 [.t 45,.t 46,.t 47]),x 49 (.call true 91 [.t 44,.t 48]),m 43 49,x 50 (.ext (.t 43) 0),x 51 (.ext (.t 43) 1),x 14 (.stro 2 14 (.t 50)),
 m 15 51] (s [k 16 0] (.block 2 (.loop (.seq (s [m 52 16,f 53 1 14,l 54 53,n 55 54,o 56 .lss 52 55] (.cond 56 .skip (.exit 2))) (.seq (.block 3 (s [m 59 3,f 60 0 6,m 62 13,f 66 1 14,m 68 16,l 61 60,i 63 6 61 62,f 64 0 63,l 65 64,l 67 66,
 i 69 4 67 68,f 70 0 69,l 71 70,x 72 (.build [(.val (.int .i64 0)),(.val (.string (ByteArray.mk #[])))] [(0,(1,(.t 65))),(1,(1,(.t 71)))]),x 73 (.call true 64 [.t 59,.t 72]),m 17 73] (.reg [m 74 11,m 75 12,f 76 1 14,m 78 16,m 83 4,m 84 17,
 i 85 1 83 84,l 77 76,i 79 4 77 78,f 80 0 79,l 81 80,x 82 (.build [(.val (.int .i64 0)),(.val (.string (ByteArray.mk #[])))] [(0,(1,(.t 75))),(1,(1,(.t 81)))]),l 86 85,x 87 (.build [(.val (.int .i64 0)),(.val (.string (ByteArray.mk #[]))),
 (.val (.int .i64 0))] [(0,(2,(.t 82))),(2,(1,(.t 86)))]),x 88 (.bslice 3 [] 1 true [(0,(.t 87))]),x 89 (.append 3 32 (.t 74) (.t 88)),m 11 89]))) (.reg [m 57 16,q 58 .add 57 1,m 16 58])))))))))) (.reg [m 28 12,q 29 .add 28 1,
 m 12 29])))))) (s [m 90 11,m 10 90] .ret)))),[.t 10]⟩
theorem i118 : IsFun Tryz.prog 118 g118 := ⟨Tryz.f118, _, [], Tryz.func118, by kernel_rfl, rfl, by kernel_rfl, by kernel_rfl, rfl⟩
def g119 : GFun := ⟨⟨62,[2]⟩,(s [a 2 1 0,x 4 (.mov (.k (.val (.slice none 0 0))))] (s [x 8 (.bslice 1 [] 0 false []),m 5 8] (.seq (s [m 9 1,f 10 0 2,l 11 10,n 12 11,q 13 .sub 12 1,c 14 85 [.t 9,(.k (.val (.int .i64 0))),.t 13],w 15 14]
 (.cond 15 (s [m 16 5,m 4 16] .ret) .skip)) (s [m 17 5,f 18 0 2,l 19 18,m 20 1,i 21 6 19 20,f 22 0 21,l 23 22,x 24 (.bslice 1 [] 1 false [(0,(.t 23))]),x 25 (.append 1 8 (.t 17) (.t 24)),m 5 25] (.seq (s [k 6 0] (.block 0 (.loop (.seq
 (s [m 26 6,f 27 0 2,l 28 27,m 29 1,i 30 6 28 29,f 31 5 30,l 32 31,n 33 32,o 34 .lss 26 33] (.cond 34 .skip (.exit 0))) (.seq (.block 1 (s [f 37 0 2,l 38 37,m 39 1,i 40 6 38 39,f 41 5 40,l 42 41,m 43 6,i 44 1 42 43,l 45 44,m 7 45]
 (s [m 46 7,f 47 0 2,l 48 47,n 49 48,q 50 .sub 49 1,c 51 85 [.t 46,(.k (.val (.int .i64 0))),.t 50]] (.cond 51 (.reg [m 52 5,f 53 0 2,l 54 53,m 55 7,i 56 6 54 55,f 57 0 56,l 58 57,x 59 (.bslice 1 [] 1 false [(0,(.t 58))]),x 60
 (.append 1 8 (.t 52) (.t 59)),m 5 60]) .skip)))) (.reg [m 35 6,q 36 .add 35 1,m 6 36])))))) (s [m 61 5,m 4 61] .ret)))))),[.t 4]⟩
theorem i119 : IsFun Tryz.prog 119 g119 := ⟨Tryz.f119, _, [], Tryz.func119, by kernel_rfl, rfl, by kernel_rfl, by kernel_rfl, rfl⟩
def g120 : GFun := ⟨⟨9,[]⟩,(s [b 4 false] (s [m 5 0,m 6 1,c 7 189 [.t 5,.t 6],q 8 .geq 7 0,m 4 8] .ret)),[.t 4]⟩
theorem i120 : IsFun Tryz.prog 120 g120 := ⟨Tryz.f120, _, [], Tryz.func120, by kernel_rfl, rfl, by kernel_rfl, by kernel_rfl, rfl⟩
def g121 : GFun := ⟨⟨19,[5]⟩,(s [a 5 2 0,b 6 false] (s [l 7 1,l 8 2,h 9 2 5,x 10 (.call true 76 [.t 8,.t 9]),i 11 1 7 10,l 12 11,h 13 2 3,h 14 1 4,h 15 2 5,l 16 1,x 17 (.call true 122 [.t 13,.t 14,.t 15,.t 16]),o 18 .neq 12 17,
 m 6 18] .ret)),[.t 6]⟩
theorem i121 : IsFun Tryz.prog 121 g121 := ⟨Tryz.f121, _, [], Tryz.func121, by kernel_rfl, rfl, by kernel_rfl, by kernel_rfl, rfl⟩
def g122 : GFun := ⟨⟨40,[4,5,6,9]⟩,(s [a 4 2 0,a 5 1 1,a 6 2 2,k 8 0] (s [h 12 2 4,h 13 1 5,h 14 2 6,c 15 138 [.t 12,.t 13,.t 14],m 11 15,x 16 (.ext (.t 11) 0),x 17 (.ext (.t 11) 1),x 9 (.allocr 8),x 9 (.stro 8 9 (.t 16)),m 10 17] (.seq
 (s [m 18 10,w 19 18] (.cond 19 (s [k 8 0] .ret) .skip)) (s [e 20 1 7 9,f 24 0 9,m 26 3,f 28 0 5,f 30 0 9,f 36 0 9,h 21 7 20,h 22 2 4,h 23 1 5,l 25 24,x 27 (.call true 191 [.t 22,.t 23,.t 25,.t 26]),l 29 28,l 31 30,i 32 6 29 31,f 33 3 32,
 l 34 33,h 35 1 5,l 37 36,x 38 (.call true 192 [.t 35,.t 37]),x 39 (.call true 190 [.t 21,.t 27,.t 34,.t 38]),m 8 39] .ret)))),[.t 8]⟩
theorem i122 : IsFun Tryz.prog 122 g122 := ⟨Tryz.f122, _, [], Tryz.func122, by kernel_rfl, rfl, by kernel_rfl, by kernel_rfl, rfl⟩
def g123 : GFun := ⟨⟨27,[]⟩,(s [k 4 0] (s [m 6 1,m 7 0,n 8 7,o 9 .sub 6 8,m 1 9] (.seq (s [m 10 1,q 11 .lss 10 0] (.cond 11 (s [k 4 (-1)] .ret) .skip)) (.seq (s [k 5 0] (.block 0 (.loop (.seq (s [m 12 5,m 13 0,n 14 13,o 15 .lss 12 14]
 (.cond 15 .skip (.exit 0))) (.seq (.block 1 (s [m 18 0,m 19 5,i 20 4 18 19,h 21 4 20,m 22 1,c 23 193 [.t 21,.t 22],m 1 23] (s [m 24 1,q 25 .lss 24 0] (.cond 25 (s [k 4 (-1)] .ret) .skip)))) (.reg [m 16 5,q 17 .add 16 1,m 5 17]))))))
 (s [m 26 1,m 4 26] .ret))))),[.t 4]⟩
theorem i123 : IsFun Tryz.prog 123 g123 := ⟨Tryz.f123, _, [], Tryz.func123, by kernel_rfl, rfl, by kernel_rfl, by kernel_rfl, rfl⟩
def g124 : GFun := ⟨⟨28,[]⟩,(s [k 4 0] (s [m 6 1,m 7 0,n 8 7,o 9 .sub 6 8,m 1 9] (.seq (s [m 10 1,q 11 .lss 10 0] (.cond 11 (s [k 4 (-1)] .ret) .skip)) (.seq (s [k 5 0] (.block 0 (.loop (.seq (s [m 12 5,m 13 0,n 14 13,o 15 .lss 12 14]
 (.cond 15 .skip (.exit 0))) (.seq (.block 1 (s [m 18 1,m 19 0,m 20 5,i 21 1 19 20,l 22 21,x 23 (.slen (.t 22)),o 24 .sub 18 23,m 1 24] (s [m 25 1,q 26 .lss 25 0] (.cond 26 (s [k 4 (-1)] .ret) .skip)))) (.reg [m 16 5,q 17 .add 16 1,
 m 5 17])))))) (s [m 27 1,m 4 27] .ret))))),[.t 4]⟩
theorem i124 : IsFun Tryz.prog 124 g124 := ⟨Tryz.f124, _, [], Tryz.func124, by kernel_rfl, rfl, by kernel_rfl, by kernel_rfl, rfl⟩
def g125 : GFun := ⟨⟨27,[]⟩,(s [k 4 0] (s [m 6 1,m 7 0,n 8 7,o 9 .sub 6 8,m 1 9] (.seq (s [m 10 1,q 11 .lss 10 0] (.cond 11 (s [k 4 (-1)] .ret) .skip)) (.seq (s [k 5 0] (.block 0 (.loop (.seq (s [m 12 5,m 13 0,n 14 13,o 15 .lss 12 14]
 (.cond 15 .skip (.exit 0))) (.seq (.block 1 (s [m 18 0,m 19 5,i 20 9 18 19,h 21 9 20,m 22 1,c 23 194 [.t 21,.t 22],m 1 23] (s [m 24 1,q 25 .lss 24 0] (.cond 25 (s [k 4 (-1)] .ret) .skip)))) (.reg [m 16 5,q 17 .add 16 1,m 5 17]))))))
 (s [m 26 1,m 4 26] .ret))))),[.t 4]⟩
theorem i125 : IsFun Tryz.prog 125 g125 := ⟨Tryz.f125, _, [], Tryz.func125, by kernel_rfl, rfl, by kernel_rfl, by kernel_rfl, rfl⟩
def g126 : GFun := ⟨⟨27,[]⟩,(s [k 4 0] (s [m 6 1,m 7 0,n 8 7,o 9 .sub 6 8,m 1 9] (.seq (s [m 10 1,q 11 .lss 10 0] (.cond 11 (s [k 4 (-1)] .ret) .skip)) (.seq (s [k 5 0] (.block 0 (.loop (.seq (s [m 12 5,m 13 0,n 14 13,o 15 .lss 12 14]
 (.cond 15 .skip (.exit 0))) (.seq (.block 1 (s [m 18 0,m 19 5,i 20 16 18 19,h 21 16 20,m 22 1,c 23 195 [.t 21,.t 22],m 1 23] (s [m 24 1,q 25 .lss 24 0] (.cond 25 (s [k 4 (-1)] .ret) .skip)))) (.reg [m 16 5,q 17 .add 16 1,m 5 17]))))))
 (s [m 26 1,m 4 26] .ret))))),[.t 4]⟩
theorem i126 : IsFun Tryz.prog 126 g126 := ⟨Tryz.f126, _, [], Tryz.func126, by kernel_rfl, rfl, by kernel_rfl, by kernel_rfl, rfl⟩
def g127 : GFun := ⟨⟨12,[]⟩,(s [k 4 0] (s [m 5 1,m 6 0,n 7 6,o 8 .sub 5 7,m 1 8] (.seq (s [m 9 1,q 10 .lss 9 0] (.cond 10 (s [k 4 (-1)] .ret) .skip)) (s [m 11 1,m 4 11] .ret)))),[.t 4]⟩
theorem i127 : IsFun Tryz.prog 127 g127 := ⟨Tryz.f127, _, [], Tryz.func127, by kernel_rfl, rfl, by kernel_rfl, by kernel_rfl, rfl⟩
def g128 : GFun := ⟨⟨6,[1]⟩,(s [a 1 7 0,x 2 (.mov (.k (.val (.slice none 0 0))))] (s [h 3 7 1,x 4 (.bslice 2 [] 0 true []),c 5 196 [.t 3,.t 4],m 2 5] .ret)),[.t 2]⟩
theorem i128 : IsFun Tryz.prog 128 g128 := ⟨Tryz.f128, _, [], Tryz.func128, by kernel_rfl, rfl, by kernel_rfl, by kernel_rfl, rfl⟩
def g130 : GFun := ⟨⟨18,[]⟩,(s [b 4 false] (.seq (s [k 5 0] (.block 0 (.loop (.seq (s [m 6 5,m 7 0,n 8 7,o 9 .lss 6 8] (.cond 9 .skip (.exit 0))) (.seq (.block 1 (s [m 12 0,m 13 5,i 14 1 12 13,l 15 14,m 16 1,o 17 .eql 15 16] (.cond 17
 (s [b 4 true] .ret) .skip))) (.reg [m 10 5,q 11 .add 10 1,m 5 11])))))) (s [b 4 false] .ret))),[.t 4]⟩
theorem i130 : IsFun Tryz.prog 130 g130 := ⟨Tryz.f130, _, [], Tryz.func130, by kernel_rfl, rfl, by kernel_rfl, by kernel_rfl, rfl⟩
def g131 : GFun := ⟨⟨23,[]⟩,(s [x 2 (.mov (.k (.val (.slice none 0 0))))] (s [m 5 0,n 6 5,x 7 (.mkslice 4 40 (.agg [(.val (.string (ByteArray.mk #[]))),(.val (.int .i64 0)),(.val (.int .i64 0)),(.val (.bool false))]) (.t 6) (.t 6)),m 3 7]
 (.seq (s [k 4 0] (.block 0 (.loop (.seq (s [m 8 4,m 9 0,n 10 9,o 11 .lss 8 10] (.cond 11 .skip (.exit 0))) (.seq (.block 1 (.reg [m 14 3,m 15 4,m 16 0,m 17 4,i 18 4 16 17,h 19 4 18,c 20 197 [.t 19],i 21 4 14 15,(.mk none none (.store 4
 (.t 21) (.t 20)))])) (.reg [m 12 4,q 13 .add 12 1,m 4 13])))))) (s [m 22 3,m 2 22] .ret)))),[.t 2]⟩
theorem i131 : IsFun Tryz.prog 131 g131 := ⟨Tryz.f131, _, [], Tryz.func131, by kernel_rfl, rfl, by kernel_rfl, by kernel_rfl, rfl⟩
def g132 : GFun := ⟨⟨22,[]⟩,(s [x 2 (.mov (.k (.val (.slice none 0 0))))] (s [m 5 0,n 6 5,x 7 (.mkslice 1 16 (.val (.string (ByteArray.mk #[]))) (.t 6) (.t 6)),m 3 7] (.seq (s [k 4 0] (.block 0 (.loop (.seq (s [m 8 4,m 9 0,n 10 9,
 o 11 .lss 8 10] (.cond 11 .skip (.exit 0))) (.seq (.block 1 (.reg [m 14 3,m 15 4,m 16 0,m 17 4,i 18 1 16 17,l 19 18,i 20 1 14 15,(.mk none none (.store 1 (.t 20) (.t 19)))])) (.reg [m 12 4,q 13 .add 12 1,m 4 13])))))) (s [m 21 3,
 m 2 21] .ret)))),[.t 2]⟩
theorem i132 : IsFun Tryz.prog 132 g132 := ⟨Tryz.f132, _, [], Tryz.func132, by kernel_rfl, rfl, by kernel_rfl, by kernel_rfl, rfl⟩
def g133 : GFun := ⟨⟨23,[]⟩,(s [x 2 (.mov (.k (.val (.slice none 0 0))))] (s [m 5 0,n 6 5,x 7 (.mkslice 9 112 (.agg [(.val (.int .i64 0)),(.val (.string (ByteArray.mk #[]))),(.val (.int .i64 0)),(.val (.int .i64 0)),(.val (.int .i64 0)),
 (.val (.int .i64 0)),(.val (.string (ByteArray.mk #[]))),(.val (.string (ByteArray.mk #[]))),(.val (.slice none 0 0))]) (.t 6) (.t 6)),m 3 7] (.seq (s [k 4 0] (.block 0 (.loop (.seq (s [m 8 4,m 9 0,n 10 9,o 11 .lss 8 10] (.cond 11 .skip
 (.exit 0))) (.seq (.block 1 (.reg [m 14 3,m 15 4,m 16 0,m 17 4,i 18 9 16 17,h 19 9 18,c 20 198 [.t 19],i 21 9 14 15,(.mk none none (.store 9 (.t 21) (.t 20)))])) (.reg [m 12 4,q 13 .add 12 1,m 4 13])))))) (s [m 22 3,m 2 22] .ret)))),
 [.t 2]⟩
theorem i133 : IsFun Tryz.prog 133 g133 := ⟨Tryz.f133, _, [], Tryz.func133, by kernel_rfl, rfl, by kernel_rfl, by kernel_rfl, rfl⟩
def g134 : GFun := ⟨⟨23,[]⟩,(s [x 2 (.mov (.k (.val (.slice none 0 0))))] (s [m 5 0,n 6 5,x 7 (.mkslice 16 208 (.agg [(.val (.string (ByteArray.mk #[]))),(.val (.string (ByteArray.mk #[]))),(.val (.int .i64 0)),(.val (.int .i64 0)),(.val
 (.int .i64 0)),(.val (.int .i64 0)),(.val (.string (ByteArray.mk #[]))),(.val (.string (ByteArray.mk #[]))),(.val (.slice none 0 0)),(.val (.int .i64 0)),(.val (.int .i64 0)),(.val (.int .i64 0)),(.val (.int .i64 0)),(.val (.string
 (ByteArray.mk #[]))),(.val (.string (ByteArray.mk #[]))),(.val (.slice none 0 0))]) (.t 6) (.t 6)),m 3 7] (.seq (s [k 4 0] (.block 0 (.loop (.seq (s [m 8 4,m 9 0,n 10 9,o 11 .lss 8 10] (.cond 11 .skip (.exit 0))) (.seq (.block 1
 (.reg [m 14 3,m 15 4,m 16 0,m 17 4,i 18 16 16 17,h 19 16 18,c 20 199 [.t 19],i 21 16 14 15,(.mk none none (.store 16 (.t 21) (.t 20)))])) (.reg [m 12 4,q 13 .add 12 1,m 4 13])))))) (s [m 22 3,m 2 22] .ret)))),[.t 2]⟩
theorem i134 : IsFun Tryz.prog 134 g134 := ⟨Tryz.f134, _, [], Tryz.func134, by kernel_rfl, rfl, by kernel_rfl, by kernel_rfl, rfl⟩
def g136 : GFun := ⟨⟨11,[2,3]⟩,(s [a 2 2 0,a 3 1 1,b 4 false] (s [h 5 2 2,h 6 1 3,h 7 2 2,h 8 1 3,x 9 (.call true 137 [.t 7,.t 8,(.k (.val (.int .i64 0)))]),x 10 (.call true 200 [.t 5,.t 6,.t 9]),m 4 10] .ret)),[.t 4]⟩
theorem i136 : IsFun Tryz.prog 136 g136 := ⟨Tryz.f136, _, [], Tryz.func136, by kernel_rfl, rfl, by kernel_rfl, by kernel_rfl, rfl⟩
def g137 : GFun := ⟨⟨26,[3,4,7]⟩,(s [a 3 2 0,a 4 1 1,x 6 (.mov (.k (.val (.string (ByteArray.mk #[])))))] (.seq (s [h 9 1 4,m 10 2,c 11 201 [.t 9,.t 10],w 12 11] (.cond 12 (s [x 6 (.mov (.k (.val (.string
 (ByteArray.mk #[])))))] .ret) .skip)) (s [f 15 0 4,m 17 2,x 7 (.allocr 6),h 14 2 3,l 16 15,i 18 6 16 17,f 19 4 18,l 20 19,x 21 (.call true 202 [.t 14,.t 20]),m 13 21,x 22 (.ext (.t 13) 0),x 23 (.ext (.t 13) 1),x 7 (.stro 6 7 (.t 22)),
 m 8 23] (s [f 24 1 7,l 25 24,m 6 25] .ret)))),[.t 6]⟩
theorem i137 : IsFun Tryz.prog 137 g137 := ⟨Tryz.f137, _, [], Tryz.func137, by kernel_rfl, rfl, by kernel_rfl, by kernel_rfl, rfl⟩
def g138 : GFun := ⟨⟨81,[3,4,5,6,8,12,14]⟩,(s [a 3 2 0,a 4 1 1,a 5 2 2,x 6 (.allocr 8),b 7 false] (s [h 16 2 3,h 17 1 4,h 18 2 5,c 19 203 [.t 16,.t 17,.t 18],m 15 19,x 20 (.ext (.t 15) 0),x 21 (.ext (.t 15) 1),x 8 (.allocr 4),x 8
 (.stro 4 8 (.t 20)),m 9 21] (.seq (s [m 22 9,w 23 22,m 24 23,z 25 24 (.faddr 2 1 false (.t 8)),z 26 24 (.load 1 false (.t 25)),z 27 24 (.bin .eql (.t 26) (.k (.val (.int .i64 3)))),x 28 (.pick (.t 24) (.k (.val (.bool true))) (.t 27))]
 (.cond 28 (s [x 29 (.build [(.val (.int .i64 0)),(.val (.int .i64 0)),(.val (.int .i64 0)),(.val (.int .i64 0)),(.val (.int .i64 0)),(.val (.string (ByteArray.mk #[]))),(.val (.string (ByteArray.mk #[]))),(.val (.slice none 0 0))] []),
 x 6 (.stro 8 6 (.t 29)),b 7 false] .ret) .skip)) (s [f 31 0 5,f 34 1 5,h 30 1 4,l 32 31,x 33 (.call true 204 [.t 30,.t 32]),l 35 34,x 36 (.build [(.val (.int .i64 0)),(.val (.string (ByteArray.mk #[])))] [(1,(1,(.t 35)))]),x 11 (.alloc 2
 (.agg [(.val (.int .i64 0)),(.val (.string (ByteArray.mk #[])))])),m 10 33,(.mk none none (.store 2 (.t 11) (.t 36)))] (.seq (s [f 37 2 8,l 38 37,q 39 .eql 38 1] (.cond 39 (.reg [f 40 0 4,m 42 10,f 46 0 4,m 48 10,l 41 40,i 43 6 41 42,
 f 44 1 43,l 45 44,m 10 45,l 47 46,i 49 6 47 48,f 50 2 49,l 51 50,f 52 0 11,(.mk none none (.store 1 (.t 52) (.t 51)))]) .skip)) (.seq (s [h 53 1 4,m 54 10,c 55 201 [.t 53,.t 54],w 56 55] (.cond 56 (s [x 57 (.build [(.val (.int .i64 0)),
 (.val (.int .i64 0)),(.val (.int .i64 0)),(.val (.int .i64 0)),(.val (.int .i64 0)),(.val (.string (ByteArray.mk #[]))),(.val (.string (ByteArray.mk #[]))),(.val (.slice none 0 0))] []),x 6 (.stro 8 6 (.t 57)),b 7 false] .ret) .skip))
 (s [f 60 0 4,m 62 10,x 12 (.allocr 6),h 59 2 3,l 61 60,i 63 6 61 62,f 64 4 63,l 65 64,x 66 (.call true 202 [.t 59,.t 65]),m 58 66,x 67 (.ext (.t 58) 0),x 68 (.ext (.t 58) 1),x 12 (.stro 6 12 (.t 67)),m 13 68] (s [h 70 6 12,h 71 2 11,
 c 72 205 [.t 70,.t 71],m 69 72,x 73 (.ext (.t 69) 0),x 74 (.ext (.t 69) 1),x 14 (.allocr 7),x 14 (.stro 7 14 (.t 73)),m 9 74] (.seq (s [m 75 9,w 76 75] (.cond 76 (s [x 77 (.build [(.val (.int .i64 0)),(.val (.int .i64 0)),(.val
 (.int .i64 0)),(.val (.int .i64 0)),(.val (.int .i64 0)),(.val (.string (ByteArray.mk #[]))),(.val (.string (ByteArray.mk #[]))),(.val (.slice none 0 0))] []),x 6 (.stro 8 6 (.t 77)),b 7 false] .ret) .skip)) (s [m 78 10,h 79 7 14,x 80
 (.build [(.val (.int .i64 0)),(.val (.int .i64 0)),(.val (.int .i64 0)),(.val (.int .i64 0)),(.val (.int .i64 0)),(.val (.string (ByteArray.mk #[]))),(.val (.string (ByteArray.mk #[]))),(.val (.slice none 0 0))] [(0,(1,(.t 78))),(1,(7,
 (.t 79)))]),x 6 (.stro 8 6 (.t 80)),b 7 true] .ret)))))))))),[(.c 6 8 true),.t 7]⟩
theorem i138 : IsFun Tryz.prog 138 g138 := ⟨Tryz.f138, _, [], Tryz.func138, by kernel_rfl, rfl, by kernel_rfl, by kernel_rfl, rfl⟩
def g139 : GFun := ⟨⟨12,[1]⟩,(s [a 1 7 0,x 2 (.mov (.k (.val (.slice none 0 0))))] (s [x 4 (.bslice 2 [] 0 true []),x 3 (.alloc 1 (.val (.slice none 0 0))),(.mk none none (.store 1 (.t 3) (.t 4)))] (s [h 5 7 1,x 6 (.mkfn 206 [.t 3]),
 c 7 178 [.t 5,.t 6]] (s [l 8 3,x 9 (.call false 207 [.t 8,(.k (.clo 208 []))])] (s [l 10 3,c 11 209 [.t 10],m 2 11] .ret))))),[.t 2]⟩
theorem i139 : IsFun Tryz.prog 139 g139 := ⟨Tryz.f139, _, [], Tryz.func139, by kernel_rfl, rfl, by kernel_rfl, by kernel_rfl, rfl⟩
def g141 : GFun := ⟨⟨19,[3]⟩,(s [a 3 2 1,k 4 0] (.seq (s [m 6 0,n 7 6,k 8 0] (.block 0 (.loop (s [o 9 .lss 8 7] (.seq (.cond 9 .skip (.exit 0)) (.seq (.block 1 (s [m 10 8,m 5 10] (s [m 12 0,m 13 5,i 14 2 12 13,h 11 2 3,h 15 2 14,x 16
 (.aeq false [1,2] (.t 11) (.t 15))] (.cond 16 (s [m 17 5,m 4 17] .ret) .skip)))) (.reg [q 18 .add 8 1,m 8 18]))))))) (s [k 4 (-1)] .ret))),[.t 4]⟩
theorem i141 : IsFun Tryz.prog 141 g141 := ⟨Tryz.f141, _, [], Tryz.func141, by kernel_rfl, rfl, by kernel_rfl, by kernel_rfl, rfl⟩
def g142 : GFun := ⟨⟨27,[]⟩,(s [b 4 false] (.seq (s [m 6 0,n 7 6,m 8 1,n 9 8,o 10 .neq 7 9] (.cond 10 (s [b 4 false] .ret) .skip)) (.seq (s [k 5 0] (.block 0 (.loop (.seq (s [m 11 5,m 12 0,n 13 12,o 14 .lss 11 13] (.cond 14 .skip
 (.exit 0))) (.seq (.block 1 (s [m 17 0,m 18 5,i 19 4 17 18,m 21 1,m 22 5,i 23 4 21 22,h 20 4 19,h 24 4 23,x 25 (.call true 210 [.t 20,.t 24]),w 26 25] (.cond 26 (s [b 4 false] .ret) .skip))) (.reg [m 15 5,q 16 .add 15 1,m 5 16]))))))
 (s [b 4 true] .ret)))),[.t 4]⟩
theorem i142 : IsFun Tryz.prog 142 g142 := ⟨Tryz.f142, _, [], Tryz.func142, by kernel_rfl, rfl, by kernel_rfl, by kernel_rfl, rfl⟩
def g143 : GFun := ⟨⟨26,[]⟩,(s [b 4 false] (.seq (s [m 6 0,n 7 6,m 8 1,n 9 8,o 10 .neq 7 9] (.cond 10 (s [b 4 false] .ret) .skip)) (.seq (s [k 5 0] (.block 0 (.loop (.seq (s [m 11 5,m 12 0,n 13 12,o 14 .lss 11 13] (.cond 14 .skip
 (.exit 0))) (.seq (.block 1 (s [m 17 0,m 18 5,i 19 1 17 18,m 21 1,m 22 5,i 23 1 21 22,l 20 19,l 24 23,o 25 .neq 20 24] (.cond 25 (s [b 4 false] .ret) .skip))) (.reg [m 15 5,q 16 .add 15 1,m 5 16])))))) (s [b 4 true] .ret)))),[.t 4]⟩
theorem i143 : IsFun Tryz.prog 143 g143 := ⟨Tryz.f143, _, [], Tryz.func143, by kernel_rfl, rfl, by kernel_rfl, by kernel_rfl, rfl⟩
def g144 : GFun := ⟨⟨27,[]⟩,(s [b 4 false] (.seq (s [m 6 0,n 7 6,m 8 1,n 9 8,o 10 .neq 7 9] (.cond 10 (s [b 4 false] .ret) .skip)) (.seq (s [k 5 0] (.block 0 (.loop (.seq (s [m 11 5,m 12 0,n 13 12,o 14 .lss 11 13] (.cond 14 .skip
 (.exit 0))) (.seq (.block 1 (s [m 17 0,m 18 5,i 19 9 17 18,m 21 1,m 22 5,i 23 9 21 22,h 20 9 19,h 24 9 23,x 25 (.call true 211 [.t 20,.t 24]),w 26 25] (.cond 26 (s [b 4 false] .ret) .skip))) (.reg [m 15 5,q 16 .add 15 1,m 5 16]))))))
 (s [b 4 true] .ret)))),[.t 4]⟩
theorem i144 : IsFun Tryz.prog 144 g144 := ⟨Tryz.f144, _, [], Tryz.func144, by kernel_rfl, rfl, by kernel_rfl, by kernel_rfl, rfl⟩
def g145 : GFun := ⟨⟨27,[]⟩,(s [b 4 false] (.seq (s [m 6 0,n 7 6,m 8 1,n 9 8,o 10 .neq 7 9] (.cond 10 (s [b 4 false] .ret) .skip)) (.seq (s [k 5 0] (.block 0 (.loop (.seq (s [m 11 5,m 12 0,n 13 12,o 14 .lss 11 13] (.cond 14 .skip
 (.exit 0))) (.seq (.block 1 (s [m 17 0,m 18 5,i 19 16 17 18,m 21 1,m 22 5,i 23 16 21 22,h 20 16 19,h 24 16 23,x 25 (.call true 212 [.t 20,.t 24]),w 26 25] (.cond 26 (s [b 4 false] .ret) .skip))) (.reg [m 15 5,q 16 .add 15 1,m 5 16]))))))
 (s [b 4 true] .ret)))),[.t 4]⟩
theorem i145 : IsFun Tryz.prog 145 g145 := ⟨Tryz.f145, _, [], Tryz.func145, by kernel_rfl, rfl, by kernel_rfl, by kernel_rfl, rfl⟩
def g147 : GFun := ⟨⟨41,[1]⟩,(s [a 1 2 0,b 2 false] (s [x 5 (.bslice 1 [] 0 false []),m 3 5] (.seq (s [k 4 0] (.block 0 (.loop (.seq (s [m 6 4,f 7 1 1,l 8 7,n 9 8,o 10 .lss 6 9] (.cond 10 .skip (.exit 0))) (.seq (.block 1 (.seq
 (s [f 13 1 1,l 14 13,m 15 4,i 16 4 14 15,h 17 4 16,c 18 213 [.t 17],w 19 18] (.cond 19 (s [b 2 false] .ret) .skip)) (.reg [m 20 3,f 21 1 1,l 22 21,m 23 4,i 24 4 22 23,f 25 0 24,l 26 25,x 27 (.bslice 1 [] 1 false [(0,(.t 26))]),x 28
 (.append 1 16 (.t 20) (.t 27)),m 3 28]))) (.reg [m 11 4,q 12 .add 11 1,m 4 12])))))) (s [f 29 0 1,l 30 29,c 31 214 [.t 30],m 32 31,y 33 32 (.mov (.t 3)),y 34 32 (.len (.t 33)),y 35 32 (.bin .leq (.t 34) (.k (.val (.int .i64 4)))),x 36
 (.pick (.t 32) (.t 35) (.k (.val (.bool false)))),m 37 36,y 38 37 (.mov (.t 3)),y 39 37 (.call false 215 [.t 38]),x 40 (.pick (.t 37) (.t 39) (.k (.val (.bool false)))),m 2 40] .ret)))),[.t 2]⟩
theorem i147 : IsFun Tryz.prog 147 g147 := ⟨Tryz.f147, _, [], Tryz.func147, by kernel_rfl, rfl, by kernel_rfl, by kernel_rfl, rfl⟩
def g148 : GFun := ⟨⟨18,[]⟩,(s [b 4 false] (.seq (s [k 5 0] (.block 0 (.loop (.seq (s [m 6 5,m 7 0,n 8 7,o 9 .lss 6 8] (.cond 9 .skip (.exit 0))) (.seq (.block 1 (s [m 12 0,m 13 5,i 14 1 12 13,l 15 14,m 16 1,o 17 .eql 15 16] (.cond 17
 (s [b 4 true] .ret) .skip))) (.reg [m 10 5,q 11 .add 10 1,m 5 11])))))) (s [b 4 false] .ret))),[.t 4]⟩
theorem i148 : IsFun Tryz.prog 148 g148 := ⟨Tryz.f148, _, [], Tryz.func148, by kernel_rfl, rfl, by kernel_rfl, by kernel_rfl, rfl⟩
def g149 : GFun := ⟨⟨112,[1,6,8]⟩,(s [a 1 6 0,b 2 false] (s [f 9 2 1,l 10 9,n 11 10,m 3 11] (.seq (s [f 12 0 1,l 13 12,c 14 214 [.t 13],w 15 14,m 16 15,z 17 16 (.faddr 1 1 false (.t 1)),z 18 16 (.load 1 false (.t 17)),z 19 16
 (.call false 214 [.t 18]),z 20 16 (.not (.t 19)),x 21 (.pick (.t 16) (.k (.val (.bool true))) (.t 20)),m 22 21,z 23 22 (.mov (.t 3)),z 24 22 (.bin .gtr (.t 23) (.k (.val (.int .i64 3)))),x 25 (.pick (.t 22) (.k (.val (.bool true)))
 (.t 24)),m 26 25,z 27 26 (.faddr 5 1 false (.t 1)),z 28 26 (.load 1 false (.t 27)),z 29 26 (.len (.t 28)),z 30 26 (.bin .gtr (.t 29) (.k (.val (.int .i64 2)))),x 31 (.pick (.t 26) (.k (.val (.bool true))) (.t 30))] (.cond 31
 (s [b 2 false] .ret) .skip)) (.seq (s [k 4 0] (.block 0 (.loop (.seq (s [m 32 4,m 33 3,o 34 .lss 32 33] (.cond 34 .skip (.exit 0))) (.seq (.block 1 (s [f 37 2 1,l 38 37,m 39 4,i 40 1 38 39,l 41 40,c 42 214 [.t 41],w 43 42] (.cond 43
 (s [b 2 false] .ret) .skip))) (.reg [m 35 4,q 36 .add 35 1,m 4 36])))))) (.seq (s [k 5 0] (.block 2 (.loop (.seq (s [m 44 5,f 45 4 1,l 46 45,n 47 46,o 48 .lss 44 47] (.cond 48 .skip (.exit 2))) (.seq (.block 3 (s [f 51 4 1,l 52 51,m 53 5,
 i 54 9 52 53,h 55 9 54,x 6 (.allocr 9),x 6 (.stro 9 6 (.t 55))] (s [e 56 0 2 6,f 57 1 56,l 58 57,c 59 214 [.t 58],w 60 59,m 61 60,z 62 61 (.faddr 0 2 true (.t 6)),z 63 61 (.faddr 0 1 false (.t 62)),z 64 61 (.load 1 false (.t 63)),z 65 61
 (.mov (.t 3)),z 66 61 (.call false 85 [.t 64,(.k (.val (.int .i64 0))),.t 65]),z 67 61 (.not (.t 66)),x 68 (.pick (.t 61) (.k (.val (.bool true))) (.t 67)),m 69 68,z 70 69 (.faddr 2 7 true (.t 6)),z 71 69 (.load 7 true (.t 70)),z 72 69
 (.mov (.t 3)),z 73 69 (.call false 216 [.t 71,.t 72]),z 74 69 (.not (.t 73)),x 75 (.pick (.t 69) (.k (.val (.bool true))) (.t 74))] (.cond 75 (s [b 2 false] .ret) .skip)))) (.reg [m 49 5,q 50 .add 49 1,m 5 50])))))) (.seq (s [k 7 0]
 (.block 4 (.loop (.seq (s [m 76 7,f 77 5 1,l 78 77,n 79 78,o 80 .lss 76 79] (.cond 80 .skip (.exit 4))) (.seq (.block 5 (s [f 83 5 1,l 84 83,m 85 7,i 86 16 84 85,h 87 16 86,x 8 (.allocr 16),x 8 (.stro 16 8 (.t 87))] (s [f 88 0 8,l 89 88,
 c 90 214 [.t 89],w 91 90,m 92 91,z 93 92 (.faddr 1 1 false (.t 8)),z 94 92 (.load 1 false (.t 93)),z 95 92 (.call false 214 [.t 94]),z 96 92 (.not (.t 95)),x 97 (.pick (.t 92) (.k (.val (.bool true))) (.t 96)),m 98 97,z 99 98
 (.faddr 2 7 true (.t 8)),z 100 98 (.load 7 true (.t 99)),z 101 98 (.mov (.t 3)),z 102 98 (.call false 216 [.t 100,.t 101]),z 103 98 (.not (.t 102)),x 104 (.pick (.t 98) (.k (.val (.bool true))) (.t 103)),m 105 104,z 106 105
 (.faddr 9 7 true (.t 8)),z 107 105 (.load 7 true (.t 106)),z 108 105 (.mov (.t 3)),z 109 105 (.call false 216 [.t 107,.t 108]),z 110 105 (.not (.t 109)),x 111 (.pick (.t 105) (.k (.val (.bool true))) (.t 110))] (.cond 111
 (s [b 2 false] .ret) .skip)))) (.reg [m 81 7,q 82 .add 81 1,m 7 82])))))) (s [b 2 true] .ret))))))),[.t 2]⟩
theorem i149 : IsFun Tryz.prog 149 g149 := ⟨Tryz.f149, _, [], Tryz.func149, by kernel_rfl, rfl, by kernel_rfl, by kernel_rfl, rfl⟩
def g150 : GFun := ⟨⟨25,[2,3,6]⟩,(s [a 2 2 0,a 3 6 1,b 4 false] (.seq (s [k 5 0] (.block 0 (.loop (.seq (s [m 8 5,f 9 2 3,l 10 9,n 11 10,o 12 .leq 8 11] (.cond 12 .skip (.exit 0))) (.seq (.block 1 (s [m 18 5,x 6 (.allocr 2),h 16 2 2,
 h 17 6 3,x 19 (.call true 90 [.t 17,.t 18]),x 20 (.call true 91 [.t 16,.t 19]),m 15 20,x 21 (.ext (.t 15) 0),x 22 (.ext (.t 15) 1),x 6 (.stro 2 6 (.t 21)),m 7 22] (s [m 23 7,w 24 23] (.cond 24 (s [b 4 false] .ret) .skip)))) (.reg [m 13 5,
 q 14 .add 13 1,m 5 14])))))) (s [b 4 true] .ret))),[.t 4]⟩
theorem i150 : IsFun Tryz.prog 150 g150 := ⟨Tryz.f150, _, [], Tryz.func150, by kernel_rfl, rfl, by kernel_rfl, by kernel_rfl, rfl⟩
def g151 : GFun := ⟨⟨29,[2,3,7]⟩,(s [a 2 2 0,a 3 6 1,b 4 false] (s [h 9 2 2,h 10 6 3,c 11 217 [.t 9,.t 10],m 5 11] (.seq (s [k 6 0] (.block 0 (.loop (.seq (s [m 12 6,m 13 5,n 14 13,o 15 .lss 12 14] (.cond 15 .skip (.exit 0))) (.seq
 (.block 1 (s [m 20 5,m 21 6,i 22 2 20 21,x 7 (.allocr 7),h 19 6 3,h 23 2 22,x 24 (.call true 186 [.t 19,.t 23]),m 18 24,x 25 (.ext (.t 18) 0),x 26 (.ext (.t 18) 1),x 7 (.stro 7 7 (.t 25)),m 8 26] (s [m 27 8,w 28 27] (.cond 28
 (s [b 4 true] .ret) .skip)))) (.reg [m 16 6,q 17 .add 16 1,m 6 17])))))) (s [b 4 false] .ret)))),[.t 4]⟩
theorem i151 : IsFun Tryz.prog 151 g151 := ⟨Tryz.f151, _, [], Tryz.func151, by kernel_rfl, rfl, by kernel_rfl, by kernel_rfl, rfl⟩
def g152 : GFun := ⟨⟨39,[2,3,8]⟩,(s [a 2 2 0,a 3 6 1,b 4 false] (s [h 9 2 2,h 10 6 3,c 11 217 [.t 9,.t 10],m 5 11] (s [x 12 (.bslice 2 [] 0 true []),m 6 12] (.seq (s [k 7 0] (.block 0 (.loop (.seq (s [m 13 7,f 14 4 3,l 15 14,n 16 15,
 o 17 .lss 13 16] (.cond 17 .skip (.exit 0))) (.seq (.block 1 (s [f 20 4 3,l 21 20,m 22 7,i 23 9 21 22,e 24 0 2 23,h 25 2 24,x 8 (.allocr 2),x 8 (.stro 2 8 (.t 25))] (.seq (s [m 26 5,h 27 2 8,c 28 218 [.t 26,.t 27],w 29 28,m 30 29,z 31 30
 (.mov (.t 6)),z 32 30 (.load 2 true (.t 8)),z 33 30 (.call false 218 [.t 31,.t 32]),x 34 (.pick (.t 30) (.k (.val (.bool true))) (.t 33))] (.cond 34 (s [b 4 true] .ret) .skip)) (.reg [m 35 6,h 36 2 8,x 37 (.bslice 2 [] 1 true [(0,
 (.t 36))]),x 38 (.append 2 24 (.t 35) (.t 37)),m 6 38])))) (.reg [m 18 7,q 19 .add 18 1,m 7 19])))))) (s [b 4 false] .ret))))),[.t 4]⟩
theorem i152 : IsFun Tryz.prog 152 g152 := ⟨Tryz.f152, _, [], Tryz.func152, by kernel_rfl, rfl, by kernel_rfl, by kernel_rfl, rfl⟩
def g153 : GFun := ⟨⟨53,[2,3]⟩,(s [a 2 2 0,a 3 6 1,b 4 false] (.seq (s [k 5 0] (.block 0 (.loop (.seq (s [m 7 5,f 8 4 3,l 9 8,n 10 9,o 11 .lss 7 10] (.cond 11 .skip (.exit 0))) (.seq (.block 1 (s [f 16 4 3,m 18 5,h 14 2 2,h 15 6 3,l 17 16,
 i 19 9 17 18,e 20 2 7 19,h 21 7 20,x 22 (.call true 219 [.t 14,.t 15,.t 21]),w 23 22] (.cond 23 (s [b 4 true] .ret) .skip))) (.reg [m 12 5,q 13 .add 12 1,m 5 13])))))) (.seq (s [k 6 0] (.block 2 (.loop (.seq (s [m 24 6,f 25 5 3,l 26 25,
 n 27 26,o 28 .lss 24 27] (.cond 28 .skip (.exit 2))) (.seq (.block 3 (s [f 33 5 3,m 35 6,h 31 2 2,h 32 6 3,l 34 33,i 36 16 34 35,e 37 2 7 36,h 38 7 37,x 39 (.call true 219 [.t 31,.t 32,.t 38]),w 40 39,m 41 40,z 44 41 (.faddr 5 1 false
 (.t 3)),z 46 41 (.mov (.t 6)),z 42 41 (.load 2 true (.t 2)),z 43 41 (.load 6 true (.t 3)),z 45 41 (.load 1 false (.t 44)),z 47 41 (.iaddr 16 (.t 45) (.t 46)),z 48 41 (.faddr 9 7 true (.t 47)),z 49 41 (.load 7 true (.t 48)),z 50 41
 (.call true 219 [.t 42,.t 43,.t 49]),z 51 41 (.not (.t 50)),x 52 (.pick (.t 41) (.k (.val (.bool true))) (.t 51))] (.cond 52 (s [b 4 true] .ret) .skip))) (.reg [m 29 6,q 30 .add 29 1,m 6 30])))))) (s [b 4 false] .ret)))),[.t 4]⟩
theorem i153 : IsFun Tryz.prog 153 g153 := ⟨Tryz.f153, _, [], Tryz.func153, by kernel_rfl, rfl, by kernel_rfl, by kernel_rfl, rfl⟩
def g154 : GFun := ⟨⟨44,[3,4,5]⟩,(s [a 3 2 0,a 4 6 1,a 5 7 2,k 6 0] (s [f 11 1 5,l 12 11,c 13 220 [.t 12],m 10 13,x 14 (.ext (.t 10) 0),x 15 (.ext (.t 10) 1),x 16 (.ext (.t 10) 2),m 7 14,m 8 15,m 9 16] (.seq (s [f 17 6 5,l 18 17,n 19 18,
 q 20 .neq 19 2,m 21 20,z 24 21 (.faddr 6 1 false (.t 5)),z 29 21 (.mov (.t 7)),z 22 21 (.load 2 true (.t 3)),z 23 21 (.load 6 true (.t 4)),z 25 21 (.load 1 false (.t 24)),z 26 21 (.iaddr 7 (.t 25) (.k (.val (.int .i64 0)))),z 27 21
 (.load 7 true (.t 26)),z 28 21 (.call true 88 [.t 22,.t 23,.t 27]),z 30 21 (.bin .neq (.t 28) (.t 29)),x 31 (.pick (.t 21) (.k (.val (.bool true))) (.t 30)),m 32 31,z 35 32 (.faddr 6 1 false (.t 5)),z 40 32 (.mov (.t 8)),z 33 32
 (.load 2 true (.t 3)),z 34 32 (.load 6 true (.t 4)),z 36 32 (.load 1 false (.t 35)),z 37 32 (.iaddr 7 (.t 36) (.k (.val (.int .i64 1)))),z 38 32 (.load 7 true (.t 37)),z 39 32 (.call true 88 [.t 33,.t 34,.t 38]),z 41 32 (.bin .neq
 (.t 39) (.t 40)),x 42 (.pick (.t 32) (.k (.val (.bool true))) (.t 41))] (.cond 42 (s [k 6 0] .ret) .skip)) (s [m 43 9,m 6 43] .ret)))),[.t 6]⟩
theorem i154 : IsFun Tryz.prog 154 g154 := ⟨Tryz.f154, _, [], Tryz.func154, by kernel_rfl, rfl, by kernel_rfl, by kernel_rfl, rfl⟩
def g155 : GFun := ⟨⟨39,[3,4,5]⟩,(s [a 3 2 0,a 4 6 1,a 5 7 2,k 6 0] (.seq (s [f 8 6 5,l 9 8,n 10 9,q 11 .neq 10 3,m 12 11,z 15 12 (.faddr 6 1 false (.t 5)),z 13 12 (.load 2 true (.t 3)),z 14 12 (.load 6 true (.t 4)),z 16 12 (.load 1 false
 (.t 15)),z 17 12 (.iaddr 7 (.t 16) (.k (.val (.int .i64 0)))),z 18 12 (.load 7 true (.t 17)),z 19 12 (.call true 88 [.t 13,.t 14,.t 18]),z 20 12 (.bin .neq (.t 19) (.k (.val (.int .i64 3)))),x 21 (.pick (.t 12) (.k (.val (.bool true)))
 (.t 20))] (.cond 21 (s [k 6 0] .ret) .skip)) (s [f 24 6 5,h 22 2 3,h 23 6 4,l 25 24,x 26 (.iaddr 7 (.t 25) (.k (.val (.int .i64 1)))),h 27 7 26,x 28 (.call true 88 [.t 22,.t 23,.t 27]),m 7 28] (.seq (s [m 29 7,f 32 6 5,h 30 2 3,h 31 6 4,
 l 33 32,x 34 (.iaddr 7 (.t 33) (.k (.val (.int .i64 2)))),h 35 7 34,x 36 (.call true 88 [.t 30,.t 31,.t 35]),o 37 .neq 29 36] (.cond 37 (s [k 6 0] .ret) .skip)) (s [m 38 7,m 6 38] .ret))))),[.t 6]⟩
theorem i155 : IsFun Tryz.prog 155 g155 := ⟨Tryz.f155, _, [], Tryz.func155, by kernel_rfl, rfl, by kernel_rfl, by kernel_rfl, rfl⟩
def g156 : GFun := ⟨⟨10,[1,2]⟩,(s [a 1 2 0,x 2 (.allocr 2)] (s [f 3 0 1,x 4 (.loadr 1 false (.t 3)),f 6 1 1,x 7 (.loadr 1 false (.t 6)),x 5 (.bslice 4 [] 0 true []),x 8 (.append 4 40 (.t 5) (.t 7)),x 9 (.build [(.val (.string
 (ByteArray.mk #[]))),(.val (.slice none 0 0))] [(0,(1,(.t 4))),(1,(1,(.t 8)))]),x 2 (.stro 2 2 (.t 9))] .ret)),[(.c 2 2 true)]⟩
theorem i156 : IsFun Tryz.prog 156 g156 := ⟨Tryz.f156, _, [], Tryz.func156, by kernel_rfl, rfl, by kernel_rfl, by kernel_rfl, rfl⟩
def g157 : GFun := ⟨⟨22,[2]⟩,(s [a 2 2 0,k 4 0] (.seq (s [k 5 0] (.block 0 (.loop (.seq (s [m 6 5,f 7 0 2,l 8 7,n 9 8,o 10 .lss 6 9] (.cond 10 .skip (.exit 0))) (.seq (.block 1 (s [f 13 0 2,l 14 13,m 15 5,i 16 2 14 15,f 17 0 16,l 18 17,
 m 19 1,o 20 .eql 18 19] (.cond 20 (s [m 21 5,m 4 21] .ret) .skip))) (.reg [m 11 5,q 12 .add 11 1,m 5 12])))))) (s [k 4 (-1)] .ret))),[.t 4]⟩
theorem i157 : IsFun Tryz.prog 157 g157 := ⟨Tryz.f157, _, [], Tryz.func157, by kernel_rfl, rfl, by kernel_rfl, by kernel_rfl, rfl⟩
def g158 : GFun := ⟨⟨50,[1]⟩,(s [a 1 2 0,x 2 (.mov (.k (.val (.slice none 0 0))))] (s [f 7 0 1,l 8 7,n 9 8,x 10 (.mkslice 1 8 (.val (.int .i64 0)) (.t 9) (.t 9)),m 3 10] (.seq (s [k 4 1] (.block 0 (.loop (.seq (s [m 11 4,f 12 0 1,l 13 12,
 n 14 13,o 15 .leq 11 14] (.cond 15 .skip (.exit 0))) (.seq (.block 1 (s [x 18 (.bslice 1 [] 0 false []),m 19 3,x 20 (.append 1 8 (.t 18) (.t 19)),m 5 20] (.seq (s [k 6 0] (.block 2 (.loop (.seq (s [m 21 6,f 22 0 1,l 23 22,n 24 23,
 o 25 .lss 21 24] (.cond 25 .skip (.exit 2))) (.seq (.block 3 (s [m 28 3,m 29 6,i 30 1 28 29,l 31 30,q 32 .eql 31 0,m 33 32,y 35 33 (.faddr 0 1 false (.t 1)),y 37 33 (.mov (.t 6)),y 41 33 (.mov (.t 3)),y 34 33 (.load 2 true (.t 1)),
 y 36 33 (.load 1 false (.t 35)),y 38 33 (.iaddr 2 (.t 36) (.t 37)),y 39 33 (.faddr 0 1 false (.t 38)),y 40 33 (.load 1 false (.t 39)),y 42 33 (.call true 221 [.t 34,.t 40,.t 41]),x 43 (.pick (.t 33) (.t 42) (.k (.val (.bool false))))]
 (.cond 43 (.reg [m 44 5,m 45 6,m 46 4,i 47 1 44 45,(.mk none none (.store 1 (.t 47) (.t 46)))]) .skip))) (.reg [m 26 6,q 27 .add 26 1,m 6 27])))))) (.reg [m 48 5,m 3 48])))) (.reg [m 16 4,q 17 .add 16 1,m 4 17])))))) (s [m 49 3,
 m 2 49] .ret)))),[.t 2]⟩
theorem i158 : IsFun Tryz.prog 158 g158 := ⟨Tryz.f158, _, [], Tryz.func158, by kernel_rfl, rfl, by kernel_rfl, by kernel_rfl, rfl⟩
def g159 : GFun := ⟨⟨34,[1,4]⟩,(s [a 1 2 0,b 2 false] (.seq (s [f 5 1 1,l 6 5,n 7 6,k 8 0] (.block 0 (.loop (s [o 9 .lss 8 7] (.seq (.cond 9 .skip (.exit 0)) (.seq (.block 1 (s [m 10 8,i 11 4 6 8,h 12 4 11,x 4 (.allocr 4),m 3 10,x 4
 (.stro 4 4 (.t 12))] (s [h 13 4 4,c 14 222 [.t 13],w 15 14,m 16 15,z 17 16 (.faddr 1 1 false (.t 1)),z 18 16 (.load 1 false (.t 17)),z 19 16 (.mov (.t 3)),z 20 16 (.slc 4 (.t 18) none (some (.t 19))),z 21 16 (.mkfn 223 [.t 4]),z 22 16
 (.call false 95 [.t 20,.t 21]),x 23 (.pick (.t 16) (.k (.val (.bool true))) (.t 22))] (.cond 23 (s [b 2 false] .ret) .skip)))) (.reg [q 24 .add 8 1,m 8 24]))))))) (s [f 25 0 1,l 26 25,c 27 224 [.t 26],m 28 27,y 29 28 (.faddr 1 1 false
 (.t 1)),y 30 28 (.load 1 false (.t 29)),y 31 28 (.len (.t 30)),y 32 28 (.bin .leq (.t 31) (.k (.val (.int .i64 4)))),x 33 (.pick (.t 28) (.t 32) (.k (.val (.bool false)))),m 2 33] .ret))),[.t 2]⟩
theorem i159 : IsFun Tryz.prog 159 g159 := ⟨Tryz.f159, _, [], Tryz.func159, by kernel_rfl, rfl, by kernel_rfl, by kernel_rfl, rfl⟩
def g160 : GFun := ⟨⟨9,[2]⟩,(s [a 2 2 0,b 3 false] (s [f 4 0 2,l 5 4,f 6 0 1,l 7 6,o 8 .eql 5 7,m 3 8] .ret)),[.t 3]⟩
theorem i160 : IsFun Tryz.prog 160 g160 := ⟨Tryz.f160, _, [], Tryz.func160, by kernel_rfl, rfl, by kernel_rfl, by kernel_rfl, rfl⟩
def g161 : GFun := ⟨⟨104,[1,7,9]⟩,(s [a 1 6 0,b 2 false] (s [f 10 2 1,l 11 10,n 12 11,m 3 12] (.seq (s [f 13 0 1,l 14 13,c 15 224 [.t 14],w 16 15,m 17 16,z 18 17 (.faddr 1 1 false (.t 1)),z 19 17 (.load 1 false (.t 18)),z 20 17
 (.call false 224 [.t 19]),z 21 17 (.not (.t 20)),x 22 (.pick (.t 17) (.k (.val (.bool true))) (.t 21)),m 23 22,z 24 23 (.mov (.t 3)),z 25 23 (.bin .gtr (.t 24) (.k (.val (.int .i64 3)))),x 26 (.pick (.t 23) (.k (.val (.bool true)))
 (.t 25)),m 27 26,z 28 27 (.faddr 5 1 false (.t 1)),z 29 27 (.load 1 false (.t 28)),z 30 27 (.len (.t 29)),z 31 27 (.bin .gtr (.t 30) (.k (.val (.int .i64 2)))),x 32 (.pick (.t 27) (.k (.val (.bool true))) (.t 31))] (.cond 32
 (s [b 2 false] .ret) .skip)) (.seq (s [f 33 2 1,l 34 33,n 35 34,k 36 0] (.block 0 (.loop (s [o 37 .lss 36 35] (.seq (.cond 37 .skip (.exit 0)) (.seq (.block 1 (s [i 38 1 34 36,l 39 38,m 5 39] (s [m 40 5,c 41 224 [.t 40],w 42 41]
 (.cond 42 (s [b 2 false] .ret) .skip)))) (.reg [q 43 .add 36 1,m 36 43]))))))) (.seq (s [f 44 4 1,l 45 44,n 46 45,k 47 0] (.block 2 (.loop (s [o 48 .lss 47 46] (.seq (.cond 48 .skip (.exit 2)) (.seq (.block 3 (s [i 49 9 45 47,h 50 9 49,
 x 7 (.allocr 9),x 7 (.stro 9 7 (.t 50))] (s [e 51 2 7 7,h 52 7 51,m 53 3,c 54 225 [.t 52,.t 53],w 55 54,m 56 55,z 57 56 (.faddr 0 2 true (.t 7)),z 58 56 (.faddr 1 1 false (.t 57)),z 59 56 (.load 1 false (.t 58)),z 60 56
 (.call false 224 [.t 59]),z 61 56 (.not (.t 60)),x 62 (.pick (.t 56) (.k (.val (.bool true))) (.t 61)),m 63 62,z 64 63 (.faddr 0 2 true (.t 7)),z 65 63 (.faddr 0 1 false (.t 64)),z 66 63 (.load 1 false (.t 65)),z 67 63 (.mov (.t 3)),
 z 68 63 (.call false 73 [.t 66,(.k (.val (.int .i64 0))),.t 67]),z 69 63 (.not (.t 68)),x 70 (.pick (.t 63) (.k (.val (.bool true))) (.t 69))] (.cond 70 (s [b 2 false] .ret) .skip)))) (.reg [q 71 .add 47 1,m 47 71]))))))) (.seq
 (s [f 72 5 1,l 73 72,n 74 73,k 75 0] (.block 4 (.loop (s [o 76 .lss 75 74] (.seq (.cond 76 .skip (.exit 4)) (.seq (.block 5 (s [i 77 16 73 75,h 78 16 77,x 9 (.allocr 16),x 9 (.stro 16 9 (.t 78))] (s [e 79 2 7 9,h 80 7 79,m 81 3,
 c 82 225 [.t 80,.t 81],w 83 82,m 84 83,z 85 84 (.faddr 9 7 true (.t 9)),z 86 84 (.load 7 true (.t 85)),z 87 84 (.mov (.t 3)),z 88 84 (.call false 225 [.t 86,.t 87]),z 89 84 (.not (.t 88)),x 90 (.pick (.t 84) (.k (.val (.bool true)))
 (.t 89)),m 91 90,z 92 91 (.faddr 0 1 false (.t 9)),z 93 91 (.load 1 false (.t 92)),z 94 91 (.call false 224 [.t 93]),z 95 91 (.not (.t 94)),x 96 (.pick (.t 91) (.k (.val (.bool true))) (.t 95)),m 97 96,z 98 97 (.faddr 1 1 false (.t 9)),
 z 99 97 (.load 1 false (.t 98)),z 100 97 (.call false 224 [.t 99]),z 101 97 (.not (.t 100)),x 102 (.pick (.t 97) (.k (.val (.bool true))) (.t 101))] (.cond 102 (s [b 2 false] .ret) .skip)))) (.reg [q 103 .add 75 1,m 75 103])))))))
 (s [b 2 true] .ret))))))),[.t 2]⟩
theorem i161 : IsFun Tryz.prog 161 g161 := ⟨Tryz.f161, _, [], Tryz.func161, by kernel_rfl, rfl, by kernel_rfl, by kernel_rfl, rfl⟩
def g162 : GFun := ⟨⟨9,[2]⟩,(s [a 2 6 0,b 3 false] (s [f 4 0 2,l 5 4,f 6 0 1,l 7 6,o 8 .eql 5 7,m 3 8] .ret)),[.t 3]⟩
theorem i162 : IsFun Tryz.prog 162 g162 := ⟨Tryz.f162, _, [], Tryz.func162, by kernel_rfl, rfl, by kernel_rfl, by kernel_rfl, rfl⟩
def g163 : GFun := ⟨⟨19,[]⟩,(s [k 4 0] (.seq (s [m 6 0,n 7 6,k 8 0] (.block 0 (.loop (s [o 9 .lss 8 7] (.seq (.cond 9 .skip (.exit 0)) (.seq (.block 1 (s [m 10 8,m 5 10] (s [m 11 1,m 12 0,m 13 5,i 14 4 12 13,h 15 4 14,x 16 (.callv false
 (.t 11) [.t 15])] (.cond 16 (s [m 17 5,m 4 17] .ret) .skip)))) (.reg [q 18 .add 8 1,m 8 18]))))))) (s [k 4 (-1)] .ret))),[.t 4]⟩
theorem i163 : IsFun Tryz.prog 163 g163 := ⟨Tryz.f163, _, [], Tryz.func163, by kernel_rfl, rfl, by kernel_rfl, by kernel_rfl, rfl⟩
def g164 : GFun := ⟨⟨22,[2]⟩,(s [a 2 6 0,x 4 (.mov (.k (.val (.string (ByteArray.mk #[])))))] (.seq (.block 0 (s [m 6 1,q 7 .eql 6 0,m 5 7] (.cond 5 (s [f 8 1 2,l 9 8,m 4 9] .ret) (s [m 11 1,f 12 2 2,l 13 12,n 14 13,c 15 73 [.t 11,(.k
 (.val (.int .i64 1))),.t 14],m 10 15] (.cond 10 (s [f 16 2 2,l 17 16,m 18 1,q 19 .sub 18 1,i 20 1 17 19,l 21 20,m 4 21] .ret) .skip))))) (s [x 4 (.mov (.k (.val (.string (ByteArray.mk #[])))))] .ret))),[.t 4]⟩
theorem i164 : IsFun Tryz.prog 164 g164 := ⟨Tryz.f164, _, [], Tryz.func164, by kernel_rfl, rfl, by kernel_rfl, by kernel_rfl, rfl⟩
def g165 : GFun := ⟨⟨9,[]⟩,(s [b 4 false] (s [m 5 0,m 6 1,c 7 226 [.t 5,.t 6],q 8 .geq 7 0,m 4 8] .ret)),[.t 4]⟩
theorem i165 : IsFun Tryz.prog 165 g165 := ⟨Tryz.f165, _, [], Tryz.func165, by kernel_rfl, rfl, by kernel_rfl, by kernel_rfl, rfl⟩
def g166 : GFun := ⟨⟨51,[2,3,8,11]⟩,(s [a 2 2 0,a 3 6 1,x 4 (.mov (.k (.val (.slice none 0 0))))] (s [x 12 (.bslice 2 [] 0 true []),m 5 12] (.seq (s [f 13 2 3,l 14 13,n 15 14,q 16 .add 15 1,k 17 0] (.block 0 (.loop (s [o 18 .lss 17 16]
 (.seq (.cond 18 .skip (.exit 0)) (.seq (.block 1 (s [m 19 17,m 6 19] (s [k 7 1] (.seq (s [m 20 6,q 21 .eql 20 0] (.cond 21 (.reg [k 7 2]) .skip)) (s [m 25 6,x 8 (.allocr 2),h 23 2 2,h 24 6 3,x 26 (.call true 164 [.t 24,.t 25]),x 27
 (.call true 103 [.t 23,.t 26]),m 22 27,x 28 (.ext (.t 22) 0),x 29 (.ext (.t 22) 1),x 8 (.stro 2 8 (.t 28)),m 9 29] (s [f 30 1 8,l 31 30,n 32 31,k 33 0] (.block 2 (.loop (s [o 34 .lss 33 32] (.seq (.cond 34 .skip (.exit 2)) (.seq
 (.block 3 (s [i 35 4 31 33,h 36 4 35,x 11 (.allocr 4),x 11 (.stro 4 11 (.t 36))] (s [f 37 2 11,l 38 37,m 39 7,o 40 .eql 38 39] (.cond 40 (.reg [m 41 5,m 42 6,f 43 0 11,l 44 43,x 45 (.build [(.val (.int .i64 0)),(.val (.string
 (ByteArray.mk #[])))] [(0,(1,(.t 42))),(1,(1,(.t 44)))]),x 46 (.bslice 2 [] 1 true [(0,(.t 45))]),x 47 (.append 2 24 (.t 41) (.t 46)),m 5 47]) .skip)))) (.reg [q 48 .add 33 1,m 33 48])))))))))))) (.reg [q 49 .add 17 1,m 17 49])))))))
 (s [m 50 5,m 4 50] .ret)))),[.t 4]⟩
theorem i166 : IsFun Tryz.prog 166 g166 := ⟨Tryz.f166, _, [], Tryz.func166, by kernel_rfl, rfl, by kernel_rfl, by kernel_rfl, rfl⟩
def g167 : GFun := ⟨⟨9,[2]⟩,(s [a 2 2 0,b 3 false] (s [f 4 4 1,l 5 4,x 6 (.mkfn 169 [.t 2]),c 7 168 [.t 5,.t 6],w 8 7,m 3 8] .ret)),[.t 3]⟩
theorem i167 : IsFun Tryz.prog 167 g167 := ⟨Tryz.f167, _, [], Tryz.func167, by kernel_rfl, rfl, by kernel_rfl, by kernel_rfl, rfl⟩
def g168 : GFun := ⟨⟨9,[]⟩,(s [b 4 false] (s [m 5 0,m 6 1,c 7 227 [.t 5,.t 6],q 8 .geq 7 0,m 4 8] .ret)),[.t 4]⟩
theorem i168 : IsFun Tryz.prog 168 g168 := ⟨Tryz.f168, _, [], Tryz.func168, by kernel_rfl, rfl, by kernel_rfl, by kernel_rfl, rfl⟩
def g169 : GFun := ⟨⟨8,[2]⟩,(s [a 2 9 0,b 3 false] (s [e 4 0 2 2,h 5 2 4,h 6 2 1,x 7 (.aeq false [1,2] (.t 5) (.t 6)),m 3 7] .ret)),[.t 3]⟩
theorem i169 : IsFun Tryz.prog 169 g169 := ⟨Tryz.f169, _, [], Tryz.func169, by kernel_rfl, rfl, by kernel_rfl, by kernel_rfl, rfl⟩
def g170 : GFun := ⟨⟨9,[3]⟩,(s [a 3 2 1,b 4 false] (s [m 5 0,h 6 2 3,c 7 228 [.t 5,.t 6],q 8 .geq 7 0,m 4 8] .ret)),[.t 4]⟩
theorem i170 : IsFun Tryz.prog 170 g170 := ⟨Tryz.f170, _, [], Tryz.func170, by kernel_rfl, rfl, by kernel_rfl, by kernel_rfl, rfl⟩
def g171 : GFun := ⟨⟨9,[2]⟩,(s [a 2 9 0,b 3 false] (s [e 4 0 2 2,h 5 2 4,e 6 0 2 1,h 7 2 6,x 8 (.aeq false [1,2] (.t 5) (.t 7)),m 3 8] .ret)),[.t 3]⟩
theorem i171 : IsFun Tryz.prog 171 g171 := ⟨Tryz.f171, _, [], Tryz.func171, by kernel_rfl, rfl, by kernel_rfl, by kernel_rfl, rfl⟩
def g172 : GFun := ⟨⟨9,[3]⟩,(s [a 3 7 0,b 4 false] (s [h 5 7 3,c 6 139 [.t 5],x 7 (.mkfn 173 [.t 1,.t 2]),c 8 165 [.t 6,.t 7],m 4 8] .ret)),[.t 4]⟩
theorem i172 : IsFun Tryz.prog 172 g172 := ⟨Tryz.f172, _, [], Tryz.func172, by kernel_rfl, rfl, by kernel_rfl, by kernel_rfl, rfl⟩
def g173 : GFun := ⟨⟨10,[3]⟩,(s [a 3 2 0,b 4 false] (s [h 5 2 1,h 6 6 2,h 7 2 3,c 8 174 [.t 5,.t 6,.t 7],w 9 8,m 4 9] .ret)),[.t 4]⟩
theorem i173 : IsFun Tryz.prog 173 g173 := ⟨Tryz.f173, _, [], Tryz.func173, by kernel_rfl, rfl, by kernel_rfl, by kernel_rfl, rfl⟩
def g174 : GFun := ⟨⟨31,[3,4,5,7]⟩,(s [a 3 2 0,a 4 6 1,a 5 2 2,b 6 false] (s [h 10 2 3,h 11 6 4,h 12 2 5,c 13 101 [.t 10,.t 11,.t 12],m 9 13,x 14 (.ext (.t 9) 0),x 15 (.ext (.t 9) 1),x 7 (.allocr 4),x 7 (.stro 4 7 (.t 14)),m 8 15] (.seq
 (s [f 16 0 5,l 17 16,q 18 .eql 17 0] (.cond 18 (s [m 19 8,m 20 19,y 21 20 (.faddr 2 1 false (.t 7)),y 22 20 (.load 1 false (.t 21)),y 23 20 (.bin .eql (.t 22) (.k (.val (.int .i64 1)))),x 24 (.pick (.t 20) (.t 23) (.k (.val
 (.bool false)))),m 6 24] .ret) .skip)) (s [m 25 8,m 26 25,y 27 26 (.faddr 2 1 false (.t 7)),y 28 26 (.load 1 false (.t 27)),y 29 26 (.bin .eql (.t 28) (.k (.val (.int .i64 2)))),x 30 (.pick (.t 26) (.t 29) (.k (.val (.bool false)))),
 m 6 30] .ret)))),[.t 6]⟩
theorem i174 : IsFun Tryz.prog 174 g174 := ⟨Tryz.f174, _, [], Tryz.func174, by kernel_rfl, rfl, by kernel_rfl, by kernel_rfl, rfl⟩
def g175 : GFun := ⟨⟨23,[]⟩,(s [k 2 0,k 3 0,k 4 0] (.seq (s [m 5 0] (.block 0 (.seq (s [q 7 .eql 5 1,m 6 7] (.cond 6 .skip (s [q 8 .eql 5 2,m 6 8] (.cond 6 .skip (s [q 9 .eql 5 3,m 6 9] (.cond 6 .skip (s [q 10 .eql 5 4,m 6 10]
 (.cond 6 .skip (.reg [q 11 .eql 5 5,m 6 11]))))))))) (.cond 6 (s [k 2 1,k 3 1,k 4 1] .ret) (.seq (s [q 13 .eql 5 6,m 12 13] (.cond 12 .skip (s [q 14 .eql 5 7,m 12 14] (.cond 12 .skip (.reg [q 15 .eql 5 8,m 12 15]))))) (.cond 12 (s [k 2 2,
 k 3 2,k 4 2] .ret) (.seq (s [q 17 .eql 5 9,m 16 17] (.cond 16 .skip (.reg [q 18 .eql 5 10,m 16 18]))) (.cond 16 (s [k 2 1,k 3 1,k 4 3] .ret) (s [q 20 .eql 5 11,m 19 20] (.cond 19 (s [k 2 2,k 3 1,k 4 3] .ret) (s [q 22 .eql 5 12,m 21 22]
 (.cond 21 (s [k 2 2,k 3 1,k 4 2] .ret) .skip)))))))))))) (s [k 2 0,k 3 0,k 4 0] .ret))),[.t 2,.t 3,.t 4]⟩
theorem i175 : IsFun Tryz.prog 175 g175 := ⟨Tryz.f175, _, [], Tryz.func175, by kernel_rfl, rfl, by kernel_rfl, by kernel_rfl, rfl⟩
def g176 : GFun := ⟨⟨19,[]⟩,(s [k 4 0] (.seq (s [m 6 0,n 7 6,k 8 0] (.block 0 (.loop (s [o 9 .lss 8 7] (.seq (.cond 9 .skip (.exit 0)) (.seq (.block 1 (s [m 10 8,m 5 10] (s [m 11 1,m 12 0,m 13 5,i 14 6 12 13,h 15 6 14,x 16 (.callv false
 (.t 11) [.t 15])] (.cond 16 (s [m 17 5,m 4 17] .ret) .skip)))) (.reg [q 18 .add 8 1,m 8 18]))))))) (s [k 4 (-1)] .ret))),[.t 4]⟩
theorem i176 : IsFun Tryz.prog 176 g176 := ⟨Tryz.f176, _, [], Tryz.func176, by kernel_rfl, rfl, by kernel_rfl, by kernel_rfl, rfl⟩
def g177 : GFun := ⟨⟨19,[]⟩,(s [k 4 0] (.seq (s [m 6 0,n 7 6,k 8 0] (.block 0 (.loop (s [o 9 .lss 8 7] (.seq (.cond 9 .skip (.exit 0)) (.seq (.block 1 (s [m 10 8,m 5 10] (s [m 11 1,m 12 0,m 13 5,i 14 7 12 13,h 15 7 14,x 16 (.callv false
 (.t 11) [.t 15])] (.cond 16 (s [m 17 5,m 4 17] .ret) .skip)))) (.reg [q 18 .add 8 1,m 8 18]))))))) (s [k 4 (-1)] .ret))),[.t 4]⟩
theorem i177 : IsFun Tryz.prog 177 g177 := ⟨Tryz.f177, _, [], Tryz.func177, by kernel_rfl, rfl, by kernel_rfl, by kernel_rfl, rfl⟩
def g178 : GFun := ⟨⟨15,[2,3]⟩,(s [a 2 7 0,a 3 1 1,b 4 false] (s [l 5 3,h 6 7 2,x 7 (.callv false (.t 5) [.t 6]),m 8 7,y 9 8 (.faddr 6 1 false (.t 2)),y 10 8 (.load 1 false (.t 9)),y 11 8 (.mkfn 229 [.t 3]),y 12 8 (.call false 109 [.t 10,
 .t 11]),y 13 8 (.not (.t 12)),x 14 (.pick (.t 8) (.t 13) (.k (.val (.bool false)))),m 4 14] .ret)),[.t 4]⟩
theorem i178 : IsFun Tryz.prog 178 g178 := ⟨Tryz.f178, _, [], Tryz.func178, by kernel_rfl, rfl, by kernel_rfl, by kernel_rfl, rfl⟩
def g179 : GFun := ⟨⟨6,[1]⟩,(s [a 1 7 0,b 2 false] (s [f 3 0 1,l 4 3,q 5 .neq 4 8,m 2 5] .ret)),[.t 2]⟩
theorem i179 : IsFun Tryz.prog 179 g179 := ⟨Tryz.f179, _, [], Tryz.func179, by kernel_rfl, rfl, by kernel_rfl, by kernel_rfl, rfl⟩
def g180 : GFun := ⟨⟨19,[]⟩,(s [k 4 0] (.seq (s [m 6 0,n 7 6,k 8 0] (.block 0 (.loop (s [o 9 .lss 8 7] (.seq (.cond 9 .skip (.exit 0)) (.seq (.block 1 (s [m 10 8,m 5 10] (s [m 11 1,m 12 0,m 13 5,i 14 2 12 13,h 15 2 14,x 16 (.callv false
 (.t 11) [.t 15])] (.cond 16 (s [m 17 5,m 4 17] .ret) .skip)))) (.reg [q 18 .add 8 1,m 8 18]))))))) (s [k 4 (-1)] .ret))),[.t 4]⟩
theorem i180 : IsFun Tryz.prog 180 g180 := ⟨Tryz.f180, _, [], Tryz.func180, by kernel_rfl, rfl, by kernel_rfl, by kernel_rfl, rfl⟩
def g181 : GFun := ⟨⟨43,[1]⟩,(s [a 1 1 0,b 2 false] (s [x 5 (.bslice 1 [] 0 false []),m 3 5] (.seq (s [k 4 0] (.block 0 (.loop (.seq (s [m 6 4,f 7 0 1,l 8 7,n 9 8,o 10 .lss 6 9] (.cond 10 .skip (.exit 0))) (.seq (.block 1 (.seq
 (s [f 13 0 1,l 14 13,m 15 4,i 16 6 14 15,f 17 0 16,l 18 17,c 19 85 [.t 18,(.k (.val (.int .i64 1))),(.k (.val (.int .i64 999)))],w 20 19,m 21 20,z 22 21 (.mov (.t 3)),z 23 21 (.faddr 0 1 false (.t 1)),z 24 21 (.load 1 false (.t 23)),
 z 25 21 (.mov (.t 4)),z 26 21 (.iaddr 6 (.t 24) (.t 25)),z 27 21 (.faddr 0 1 false (.t 26)),z 28 21 (.load 1 false (.t 27)),z 29 21 (.call false 130 [.t 22,.t 28]),x 30 (.pick (.t 21) (.k (.val (.bool true))) (.t 29))] (.cond 30
 (s [b 2 false] .ret) .skip)) (.reg [m 31 3,f 32 0 1,l 33 32,m 34 4,i 35 6 33 34,f 36 0 35,l 37 36,x 38 (.bslice 1 [] 1 false [(0,(.t 37))]),x 39 (.append 1 8 (.t 31) (.t 38)),m 3 39]))) (.reg [m 11 4,q 12 .add 11 1,m 4 12]))))))
 (s [m 40 3,n 41 40,c 42 85 [.t 41,(.k (.val (.int .i64 1))),(.k (.val (.int .i64 16)))],m 2 42] .ret)))),[.t 2]⟩
theorem i181 : IsFun Tryz.prog 181 g181 := ⟨Tryz.f181, _, [], Tryz.func181, by kernel_rfl, rfl, by kernel_rfl, by kernel_rfl, rfl⟩
def g182 : GFun := ⟨⟨109,[6,7,13,14]⟩,(s [a 6 2 0,a 7 1 1,k 12 0] (.seq (s [m 18 2,f 19 0 7,l 20 19,n 21 20,o 22 .geq 18 21] (.cond 22 (s [k 12 (-1)] .ret) .skip)) (s [f 23 0 7,l 24 23,m 25 2,i 26 6 24 25,h 27 6 26,x 13 (.allocr 6),x 13
 (.stro 6 13 (.t 27))] (s [h 29 2 6,f 30 4 13,l 31 30,c 32 183 [.t 29,.t 31],m 28 32,x 33 (.ext (.t 28) 0),x 34 (.ext (.t 28) 1),x 14 (.allocr 6),x 14 (.stro 6 14 (.t 33)),m 15 34] (.seq (s [m 35 15,w 36 35,m 37 36,z 38 37
 (.faddr 1 1 false (.t 14)),z 39 37 (.load 1 false (.t 38)),z 40 37 (.mov (.t 5)),z 41 37 (.bin .neq (.t 39) (.t 40)),x 42 (.pick (.t 37) (.k (.val (.bool true))) (.t 41)),m 43 42,z 44 43 (.faddr 1 1 false (.t 13)),z 45 43 (.load 1 false
 (.t 44)),z 46 43 (.mov (.t 3)),z 47 43 (.bin .neq (.t 45) (.t 46)),x 48 (.pick (.t 43) (.k (.val (.bool true))) (.t 47)),m 49 48,z 50 49 (.faddr 2 1 false (.t 13)),z 51 49 (.load 1 false (.t 50)),z 52 49 (.mov (.t 4)),z 53 49 (.bin .neq
 (.t 51) (.t 52)),x 54 (.pick (.t 49) (.k (.val (.bool true))) (.t 53)),m 55 54,z 56 55 (.faddr 5 1 false (.t 13)),z 57 55 (.load 1 false (.t 56)),z 58 55 (.len (.t 57)),z 59 55 (.faddr 2 1 false (.t 14)),z 60 55 (.load 1 false (.t 59)),
 z 61 55 (.len (.t 60)),z 62 55 (.bin .neq (.t 58) (.t 61)),x 63 (.pick (.t 55) (.k (.val (.bool true))) (.t 62))] (.cond 63 (s [k 12 (-1)] .ret) .skip)) (.seq (s [f 64 3 13,l 65 64,c 66 230 [.t 65,(.k (.val (.int .i64 1)))],w 67 66,
 m 68 67,z 69 68 (.faddr 3 1 false (.t 14)),z 70 68 (.load 1 false (.t 69)),z 71 68 (.not (.t 70)),z 72 68 (.mov (.t 71)),y 73 72 (.faddr 3 1 false (.t 13)),y 74 72 (.load 1 false (.t 73)),y 75 72 (.bin .neq (.t 74) (.k (.val
 (.int .i64 0)))),z 76 68 (.pick (.t 72) (.t 75) (.k (.val (.bool false)))),x 77 (.pick (.t 68) (.k (.val (.bool true))) (.t 76))] (.cond 77 (s [k 12 (-1)] .ret) .skip)) (s [m 78 2,q 79 .add 78 1,m 16 79] (.seq (s [k 17 0] (.block 0
 (.loop (.seq (s [m 80 17,f 81 2 14,l 82 81,n 83 82,o 84 .lss 80 83] (.cond 84 .skip (.exit 0))) (.seq (.block 1 (.seq (s [f 87 5 13,l 88 87,m 89 17,i 90 1 88 89,l 91 90,m 92 16,o 93 .neq 91 92] (.cond 93 (s [k 12 (-1)] .ret) .skip))
 (s [m 96 16,m 97 2,m 98 17,q 99 .add 98 1,f 100 2 14,m 102 17,h 94 2 6,h 95 1 7,l 101 100,i 103 1 101 102,l 104 103,x 105 (.call true 182 [.t 94,.t 95,.t 96,.t 97,.t 99,.t 104]),m 16 105] (s [m 106 16,q 107 .lss 106 0] (.cond 107
 (s [k 12 (-1)] .ret) .skip))))) (.reg [m 85 17,q 86 .add 85 1,m 17 86])))))) (s [m 108 16,m 12 108] .ret))))))))),[.t 12]⟩
theorem i182 : IsFun Tryz.prog 182 g182 := ⟨Tryz.f182, _, [], Tryz.func182, by kernel_rfl, rfl, by kernel_rfl, by kernel_rfl, rfl⟩
def g183 : GFun := ⟨⟨29,[2,4]⟩,(s [a 2 2 0,x 4 (.allocr 6),b 5 false] (.seq (s [k 6 0] (.block 0 (.loop (.seq (s [m 7 6,f 8 1 2,l 9 8,n 10 9,o 11 .lss 7 10] (.cond 11 .skip (.exit 0))) (.seq (.block 1 (s [f 14 1 2,l 15 14,m 16 6,
 i 17 6 15 16,f 18 0 17,l 19 18,m 20 1,o 21 .eql 19 20] (.cond 21 (s [f 22 1 2,l 23 22,m 24 6,i 25 6 23 24,h 26 6 25,c 27 231 [.t 26],x 4 (.stro 6 4 (.t 27)),b 5 true] .ret) .skip))) (.reg [m 12 6,q 13 .add 12 1,m 6 13])))))) (s [x 28
 (.build [(.val (.string (ByteArray.mk #[]))),(.val (.string (ByteArray.mk #[]))),(.val (.slice none 0 0)),(.val (.bool false)),(.val (.slice none 0 0)),(.val (.slice none 0 0))] []),x 4 (.stro 6 4 (.t 28)),b 5 false] .ret))),
 [(.c 4 6 true),.t 5]⟩
theorem i183 : IsFun Tryz.prog 183 g183 := ⟨Tryz.f183, _, [], Tryz.func183, by kernel_rfl, rfl, by kernel_rfl, by kernel_rfl, rfl⟩
def g184 : GFun := ⟨⟨34,[3,4,5,6,8]⟩,(s [a 3 2 0,a 4 1 1,a 5 2 2,x 6 (.allocr 4),b 7 false] (.seq (s [h 10 1 4,f 11 0 5,l 12 11,c 13 185 [.t 10,.t 12],q 14 .lss 13 0] (.cond 14 (s [x 15 (.build [(.val (.string (ByteArray.mk #[]))),(.val
 (.int .i64 0)),(.val (.int .i64 0)),(.val (.bool false))] []),x 6 (.stro 4 6 (.t 15)),b 7 false] .ret) .skip)) (s [f 21 0 5,x 8 (.allocr 2),h 17 2 3,h 18 2 3,h 19 1 4,h 20 1 4,l 22 21,x 23 (.call true 185 [.t 20,.t 22]),x 24
 (.call true 115 [.t 18,.t 19,.t 23]),x 25 (.call true 91 [.t 17,.t 24]),m 16 25,x 26 (.ext (.t 16) 0),x 27 (.ext (.t 16) 1),x 8 (.stro 2 8 (.t 26)),m 9 27] (s [h 28 2 8,f 29 1 5,l 30 29,c 31 92 [.t 28,.t 30],x 32 (.ext (.t 31) 0),x 33
 (.ext (.t 31) 1),x 6 (.stro 4 6 (.t 32)),m 7 33] .ret)))),[(.c 6 4 true),.t 7]⟩
theorem i184 : IsFun Tryz.prog 184 g184 := ⟨Tryz.f184, _, [], Tryz.func184, by kernel_rfl, rfl, by kernel_rfl, by kernel_rfl, rfl⟩
def g185 : GFun := ⟨⟨22,[2]⟩,(s [a 2 1 0,k 4 0] (.seq (s [k 5 0] (.block 0 (.loop (.seq (s [m 6 5,f 7 0 2,l 8 7,n 9 8,o 10 .lss 6 9] (.cond 10 .skip (.exit 0))) (.seq (.block 1 (s [f 13 0 2,l 14 13,m 15 5,i 16 6 14 15,f 17 0 16,l 18 17,
 m 19 1,o 20 .eql 18 19] (.cond 20 (s [m 21 5,m 4 21] .ret) .skip))) (.reg [m 11 5,q 12 .add 11 1,m 5 12])))))) (s [k 4 (-1)] .ret))),[.t 4]⟩
theorem i185 : IsFun Tryz.prog 185 g185 := ⟨Tryz.f185, _, [], Tryz.func185, by kernel_rfl, rfl, by kernel_rfl, by kernel_rfl, rfl⟩
def g186 : GFun := ⟨⟨30,[2,3,4]⟩,(s [a 2 6 0,a 3 2 1,x 4 (.allocr 7),b 5 false] (.seq (s [k 6 0] (.block 0 (.loop (.seq (s [m 7 6,f 8 4 2,l 9 8,n 10 9,o 11 .lss 7 10] (.cond 11 .skip (.exit 0))) (.seq (.block 1 (s [f 14 4 2,m 16 6,l 15 14,
 i 17 9 15 16,e 18 0 2 17,h 19 2 18,h 20 2 3,x 21 (.aeq false [1,2] (.t 19) (.t 20))] (.cond 21 (s [f 22 4 2,l 23 22,m 24 6,i 25 9 23 24,e 26 2 7 25,h 27 7 26,c 28 232 [.t 27],x 4 (.stro 7 4 (.t 28)),b 5 true] .ret) .skip))) (.reg [m 12 6,
 q 13 .add 12 1,m 6 13])))))) (s [x 29 (.build [(.val (.int .i64 0)),(.val (.int .i64 0)),(.val (.int .i64 0)),(.val (.int .i64 0)),(.val (.string (ByteArray.mk #[]))),(.val (.string (ByteArray.mk #[]))),(.val (.slice none 0 0))] []),x 4
 (.stro 7 4 (.t 29)),b 5 false] .ret))),[(.c 4 7 true),.t 5]⟩
theorem i186 : IsFun Tryz.prog 186 g186 := ⟨Tryz.f186, _, [], Tryz.func186, by kernel_rfl, rfl, by kernel_rfl, by kernel_rfl, rfl⟩
def g187 : GFun := ⟨⟨15,[1]⟩,(s [a 1 7 0,b 2 false] (s [h 3 7 1,c 4 233 [.t 3,(.k (.val (.int .i64 24)))],q 5 .geq 4 0,m 6 5,y 7 6 (.load 7 true (.t 1)),y 8 6 (.call false 234 [.t 7]),y 9 6 (.bin .leq (.t 8) (.k (.val (.int .i64 6)))),
 x 10 (.pick (.t 6) (.t 9) (.k (.val (.bool false)))),m 11 10,y 12 11 (.load 7 true (.t 1)),y 13 11 (.call false 235 [.t 12]),x 14 (.pick (.t 11) (.t 13) (.k (.val (.bool false)))),m 2 14] .ret)),[.t 2]⟩
theorem i187 : IsFun Tryz.prog 187 g187 := ⟨Tryz.f187, _, [], Tryz.func187, by kernel_rfl, rfl, by kernel_rfl, by kernel_rfl, rfl⟩
def g188 : GFun := ⟨⟨88,[4]⟩,(s [a 4 7 0,k 8 0] (.seq (s [f 9 0 4,l 10 9] (.block 0 (s [q 12 .eql 10 1,m 11 12] (.cond 11 (s [f 13 1 4,l 14 13,m 8 14] .ret) (s [q 16 .eql 10 2,m 15 16] (.cond 15 (s [m 17 2,m 8 17] .ret) (s [q 19 .eql 10 3,
 m 18 19] (.cond 18 (s [m 20 1,f 21 2 4,l 22 21,f 23 5 4,l 24 23,x 25 (.build [(.val (.int .i64 0)),(.val (.string (ByteArray.mk #[])))] [(0,(1,(.t 22))),(1,(1,(.t 24)))]),c 26 236 [.t 20,.t 25],m 8 26] .ret) (s [q 28 .eql 10 4,m 27 28]
 (.cond 27 (s [f 29 1 4,f 31 6 4,m 35 1,m 36 2,m 37 3,f 39 6 4,m 43 1,m 44 2,m 45 3,l 30 29,l 32 31,x 33 (.iaddr 7 (.t 32) (.k (.val (.int .i64 0)))),h 34 7 33,x 38 (.call true 188 [.t 34,.t 35,.t 36,.t 37]),l 40 39,x 41 (.iaddr 7 (.t 40)
 (.k (.val (.int .i64 1)))),h 42 7 41,x 46 (.call true 188 [.t 42,.t 43,.t 44,.t 45]),x 47 (.call true 237 [.t 30,.t 38,.t 46]),m 8 47] .ret) (s [q 49 .eql 10 5,m 48 49] (.cond 48 (.seq (s [f 50 6 4,l 51 50,x 52 (.iaddr 7 (.t 51) (.k
 (.val (.int .i64 0)))),h 53 7 52,m 54 1,m 55 2,m 56 3,c 57 188 [.t 53,.t 54,.t 55,.t 56],q 58 .neq 57 0] (.cond 58 (s [f 59 6 4,l 60 59,x 61 (.iaddr 7 (.t 60) (.k (.val (.int .i64 1)))),h 62 7 61,m 63 1,m 64 2,m 65 3,c 66 188 [.t 62,.t 63,
 .t 64,.t 65],m 8 66] .ret) .skip)) (s [f 67 6 4,l 68 67,x 69 (.iaddr 7 (.t 68) (.k (.val (.int .i64 2)))),h 70 7 69,m 71 1,m 72 2,m 73 3,c 74 188 [.t 70,.t 71,.t 72,.t 73],m 8 74] .ret)) (s [q 76 .eql 10 6,m 75 76] (.cond 75 (s [f 77 2 4,
 l 78 77,m 79 3,n 80 79,q 81 .sub 80 1,c 82 85 [.t 78,(.k (.val (.int .i64 0))),.t 81]] (.cond 82 (s [m 83 3,f 84 2 4,l 85 84,i 86 1 83 85,l 87 86,m 8 87] .ret) .skip)) .skip)))))))))))))) (s [k 8 0] .ret))),[.t 8]⟩
theorem i188 : IsFun Tryz.prog 188 g188 := ⟨Tryz.f188, _, [], Tryz.func188, by kernel_rfl, rfl, by kernel_rfl, by kernel_rfl, rfl⟩
def g189 : GFun := ⟨⟨19,[]⟩,(s [k 4 0] (.seq (s [m 6 0,n 7 6,k 8 0] (.block 0 (.loop (s [o 9 .lss 8 7] (.seq (.cond 9 .skip (.exit 0)) (.seq (.block 1 (s [m 10 8,m 5 10] (s [m 11 1,m 12 0,m 13 5,i 14 2 12 13,h 15 2 14,x 16 (.callv false
 (.t 11) [.t 15])] (.cond 16 (s [m 17 5,m 4 17] .ret) .skip)))) (.reg [q 18 .add 8 1,m 8 18]))))))) (s [k 4 (-1)] .ret))),[.t 4]⟩
theorem i189 : IsFun Tryz.prog 189 g189 := ⟨Tryz.f189, _, [], Tryz.func189, by kernel_rfl, rfl, by kernel_rfl, by kernel_rfl, rfl⟩
def g190 : GFun := ⟨⟨18,[4,5]⟩,(s [a 4 7 0,a 5 1 1,k 8 0] (.seq (s [h 9 7 4,c 10 238 [.t 9],w 11 10] (.cond 11 (s [k 8 0] .ret) .skip)) (s [x 12 (.mkfn 239 [.t 5]),m 13 2,m 14 3,x 15 (.build [(.val .nilFunc),(.val .nilFunc),(.val
 (.int .i64 0)),(.val (.slice none 0 0))] [(0,(1,(.t 12))),(1,(1,(.k (.clo 241 [])))),(2,(1,(.t 13))),(3,(1,(.t 14)))]),h 16 7 4,c 17 242 [.t 15,.t 16],m 8 17] .ret))),[.t 8]⟩
theorem i190 : IsFun Tryz.prog 190 g190 := ⟨Tryz.f190, _, [], Tryz.func190, by kernel_rfl, rfl, by kernel_rfl, by kernel_rfl, rfl⟩
def g191 : GFun := ⟨⟨98,[4,5,13,16]⟩,(s [a 4 2 0,a 5 1 1,x 8 (.mov (.k (.val (.slice none 0 0))))] (s [h 19 2 4,h 20 1 5,c 21 74 [.t 19,.t 20],x 22 (.bslice 3 [] 0 true []),m 9 21,m 10 22] (.seq (s [h 23 1 5,m 24 2,c 25 201 [.t 23,.t 24],
 w 26 25,m 27 26,z 28 27 (.mov (.t 3)),z 29 27 (.len (.t 28)),z 30 27 (.mov (.t 9)),z 31 27 (.len (.t 30)),z 32 27 (.bin .neq (.t 29) (.t 31)),x 33 (.pick (.t 27) (.k (.val (.bool true))) (.t 32))] (.cond 33 (s [m 34 10,
 m 8 34] .ret) .skip)) (.seq (s [m 35 2,x 36 (.bslice 1 [] 1 false [(0,(.t 35))]),f 37 0 5,l 38 37,m 39 2,i 40 6 38 39,f 41 5 40,l 42 41,x 43 (.append 1 8 (.t 36) (.t 42)),n 44 43,k 45 0] (.block 0 (.loop (s [o 46 .lss 45 44] (.seq
 (.cond 46 .skip (.exit 0)) (.seq (.block 1 (s [m 47 45,i 48 1 43 45,l 49 48,m 11 47,m 12 49] (s [m 54 12,x 13 (.allocr 2),h 51 2 4,h 52 2 4,h 53 1 5,x 55 (.call true 137 [.t 52,.t 53,.t 54]),x 56 (.call true 103 [.t 51,.t 55]),m 50 56,
 x 57 (.ext (.t 50) 0),x 58 (.ext (.t 50) 1),x 13 (.stro 2 13 (.t 57)),m 14 58] (s [f 59 1 13,l 60 59,n 61 60,k 62 0] (.block 2 (.loop (s [o 63 .lss 62 61] (.seq (.cond 63 .skip (.exit 2)) (.seq (.block 3 (s [i 64 4 60 62,h 65 4 64,x 16
 (.allocr 4),x 16 (.stro 4 16 (.t 65))] (s [k 17 0] (.seq (s [h 66 1 5,m 67 12,c 68 201 [.t 66,.t 67]] (.cond 68 (s [m 69 9,f 70 0 5,m 72 12,f 76 0 16,l 71 70,i 73 6 71 72,f 74 0 73,l 75 74,l 77 76,x 78 (.build [(.val (.int .i64 0)),(.val
 (.string (ByteArray.mk #[])))] [(0,(1,(.t 75))),(1,(1,(.t 77)))]),x 79 (.call true 76 [.t 69,.t 78]),m 18 79] (s [m 80 18,q 81 .geq 80 0] (.cond 81 (.reg [m 82 3,m 83 18,i 84 1 82 83,l 85 84,m 17 85]) .skip))) .skip)) (.reg [m 86 10,
 m 87 11,f 88 0 16,l 89 88,x 90 (.build [(.val (.int .i64 0)),(.val (.string (ByteArray.mk #[])))] [(0,(1,(.t 87))),(1,(1,(.t 89)))]),m 91 17,x 92 (.build [(.val (.int .i64 0)),(.val (.string (ByteArray.mk #[]))),(.val (.int .i64 0))] [(0,
 (2,(.t 90))),(2,(1,(.t 91)))]),x 93 (.bslice 3 [] 1 true [(0,(.t 92))]),x 94 (.append 3 32 (.t 86) (.t 93)),m 10 94]))))) (.reg [q 95 .add 62 1,m 62 95])))))))))) (.reg [q 96 .add 45 1,m 45 96]))))))) (s [m 97 10,m 8 97] .ret))))),[.t 8]⟩
theorem i191 : IsFun Tryz.prog 191 g191 := ⟨Tryz.f191, _, [], Tryz.func191, by kernel_rfl, rfl, by kernel_rfl, by kernel_rfl, rfl⟩
def g192 : GFun := ⟨⟨42,[2]⟩,(s [a 2 1 0,x 4 (.mov (.k (.val (.slice none 0 0))))] (s [x 8 (.bslice 1 [] 0 false []),m 5 8] (.seq (s [h 9 1 2,m 10 1,c 11 201 [.t 9,.t 10],w 12 11] (.cond 12 (s [m 13 5,m 4 13] .ret) .skip)) (.seq (s [m 14 1,
 x 15 (.bslice 1 [] 1 false [(0,(.t 14))]),f 16 0 2,l 17 16,m 18 1,i 19 6 17 18,f 20 5 19,l 21 20,x 22 (.append 1 8 (.t 15) (.t 21)),n 23 22,k 24 0] (.block 0 (.loop (s [o 25 .lss 24 23] (.seq (.cond 25 .skip (.exit 0)) (.seq (.block 1
 (s [i 26 1 22 24,l 27 26,m 7 27] (s [h 28 1 2,m 29 7,c 30 201 [.t 28,.t 29]] (.cond 30 (.reg [m 31 5,f 32 0 2,l 33 32,m 34 7,i 35 6 33 34,f 36 0 35,l 37 36,x 38 (.bslice 1 [] 1 false [(0,(.t 37))]),x 39 (.append 1 8 (.t 31) (.t 38)),
 m 5 39]) .skip)))) (.reg [q 40 .add 24 1,m 24 40]))))))) (s [m 41 5,m 4 41] .ret))))),[.t 4]⟩
theorem i192 : IsFun Tryz.prog 192 g192 := ⟨Tryz.f192, _, [], Tryz.func192, by kernel_rfl, rfl, by kernel_rfl, by kernel_rfl, rfl⟩
def g193 : GFun := ⟨⟨13,[2]⟩,(s [a 2 4 0,k 4 0] (s [m 5 1,f 6 0 2,l 7 6,x 8 (.slen (.t 7)),o 9 .sub 5 8,m 1 9] (.seq (s [m 10 1,q 11 .lss 10 0] (.cond 11 (s [k 4 (-1)] .ret) .skip)) (s [m 12 1,m 4 12] .ret)))),[.t 4]⟩
theorem i193 : IsFun Tryz.prog 193 g193 := ⟨Tryz.f193, _, [], Tryz.func193, by kernel_rfl, rfl, by kernel_rfl, by kernel_rfl, rfl⟩
def g194 : GFun := ⟨⟨18,[2]⟩,(s [a 2 9 0,k 4 0] (s [e 5 0 2 2,h 6 2 5,m 7 1,c 8 243 [.t 6,.t 7],m 1 8] (.seq (s [m 9 1,q 10 .lss 9 0] (.cond 10 (s [k 4 (-1)] .ret) .skip)) (s [e 11 2 7 2,h 12 7 11,m 13 1,c 14 244 [.t 12,.t 13],m 1 14]
 (.seq (s [m 15 1,q 16 .lss 15 0] (.cond 16 (s [k 4 (-1)] .ret) .skip)) (s [m 17 1,m 4 17] .ret)))))),[.t 4]⟩
theorem i194 : IsFun Tryz.prog 194 g194 := ⟨Tryz.f194, _, [], Tryz.func194, by kernel_rfl, rfl, by kernel_rfl, by kernel_rfl, rfl⟩
def g195 : GFun := ⟨⟨32,[2]⟩,(s [a 2 16 0,k 4 0] (s [m 5 1,f 6 0 2,l 7 6,x 8 (.slen (.t 7)),o 9 .sub 5 8,m 1 9] (.seq (s [m 10 1,q 11 .lss 10 0] (.cond 11 (s [k 4 (-1)] .ret) .skip)) (s [m 12 1,f 13 1 2,l 14 13,x 15 (.slen (.t 14)),
 o 16 .sub 12 15,m 1 16] (.seq (s [m 17 1,q 18 .lss 17 0] (.cond 18 (s [k 4 (-1)] .ret) .skip)) (s [e 19 2 7 2,h 20 7 19,m 21 1,c 22 244 [.t 20,.t 21],m 1 22] (.seq (s [m 23 1,q 24 .lss 23 0] (.cond 24 (s [k 4 (-1)] .ret) .skip))
 (s [e 25 9 7 2,h 26 7 25,m 27 1,c 28 244 [.t 26,.t 27],m 1 28] (.seq (s [m 29 1,q 30 .lss 29 0] (.cond 30 (s [k 4 (-1)] .ret) .skip)) (s [m 31 1,m 4 31] .ret)))))))))),[.t 4]⟩
theorem i195 : IsFun Tryz.prog 195 g195 := ⟨Tryz.f195, _, [], Tryz.func195, by kernel_rfl, rfl, by kernel_rfl, by kernel_rfl, rfl⟩
def g196 : GFun := ⟨⟨31,[2]⟩,(s [a 2 7 0,x 4 (.mov (.k (.val (.slice none 0 0))))] (.seq (s [f 6 0 2,l 7 6,q 8 .eql 7 3] (.cond 8 (.reg [m 9 1,f 10 2 2,l 11 10,f 12 5 2,l 13 12,x 14 (.build [(.val (.int .i64 0)),(.val (.string
 (ByteArray.mk #[])))] [(0,(1,(.t 11))),(1,(1,(.t 13)))]),c 15 245 [.t 9,.t 14],m 1 15]) .skip)) (.seq (s [k 5 0] (.block 0 (.loop (.seq (s [m 16 5,f 17 6 2,l 18 17,n 19 18,o 20 .lss 16 19] (.cond 20 .skip (.exit 0))) (.seq (.block 1
 (.reg [f 23 6 2,l 24 23,m 25 5,i 26 7 24 25,h 27 7 26,m 28 1,c 29 196 [.t 27,.t 28],m 1 29])) (.reg [m 21 5,q 22 .add 21 1,m 5 22])))))) (s [m 30 1,m 4 30] .ret)))),[.t 4]⟩
theorem i196 : IsFun Tryz.prog 196 g196 := ⟨Tryz.f196, _, [], Tryz.func196, by kernel_rfl, rfl, by kernel_rfl, by kernel_rfl, rfl⟩
def g197 : GFun := ⟨⟨17,[1,2]⟩,(s [a 1 4 0,x 2 (.allocr 4)] (s [x 3 (.alloc 4 (.agg [(.val (.string (ByteArray.mk #[]))),(.val (.int .i64 0)),(.val (.int .i64 0)),(.val (.bool false))]))] (s [f 4 0 1,l 5 4,f 6 0 3,(.mk none none (.store 1
 (.t 6) (.t 5)))] (s [f 7 1 1,l 8 7,f 9 1 3,(.mk none none (.store 1 (.t 9) (.t 8)))] (s [f 10 2 1,l 11 10,f 12 2 3,(.mk none none (.store 1 (.t 12) (.t 11)))] (s [f 13 3 1,l 14 13,f 15 3 3,(.mk none none (.store 1 (.t 15) (.t 14)))]
 (s [h 16 4 3,x 2 (.stro 4 2 (.t 16))] .ret))))))),[(.c 2 4 true)]⟩
theorem i197 : IsFun Tryz.prog 197 g197 := ⟨Tryz.f197, _, [], Tryz.func197, by kernel_rfl, rfl, by kernel_rfl, by kernel_rfl, rfl⟩
def g198 : GFun := ⟨⟨13,[1,2]⟩,(s [a 1 9 0,x 2 (.allocr 9)] (s [x 3 (.alloc 9 (.agg [(.val (.int .i64 0)),(.val (.string (ByteArray.mk #[]))),(.val (.int .i64 0)),(.val (.int .i64 0)),(.val (.int .i64 0)),(.val (.int .i64 0)),(.val
 (.string (ByteArray.mk #[]))),(.val (.string (ByteArray.mk #[]))),(.val (.slice none 0 0))]))] (s [e 4 0 2 1,h 5 2 4,c 6 246 [.t 5],e 7 0 2 3,(.mk none none (.store 2 (.t 7) (.t 6)))] (s [e 8 2 7 1,h 9 7 8,c 10 247 [.t 9],e 11 2 7 3,
 (.mk none none (.store 7 (.t 11) (.t 10)))] (s [h 12 9 3,x 2 (.stro 9 2 (.t 12))] .ret))))),[(.c 2 9 true)]⟩
theorem i198 : IsFun Tryz.prog 198 g198 := ⟨Tryz.f198, _, [], Tryz.func198, by kernel_rfl, rfl, by kernel_rfl, by kernel_rfl, rfl⟩
def g199 : GFun := ⟨⟨19,[1,2]⟩,(s [a 1 16 0,x 2 (.allocr 16)] (s [x 3 (.alloc 16 (.agg [(.val (.string (ByteArray.mk #[]))),(.val (.string (ByteArray.mk #[]))),(.val (.int .i64 0)),(.val (.int .i64 0)),(.val (.int .i64 0)),(.val
 (.int .i64 0)),(.val (.string (ByteArray.mk #[]))),(.val (.string (ByteArray.mk #[]))),(.val (.slice none 0 0)),(.val (.int .i64 0)),(.val (.int .i64 0)),(.val (.int .i64 0)),(.val (.int .i64 0)),(.val (.string (ByteArray.mk #[]))),(.val
 (.string (ByteArray.mk #[]))),(.val (.slice none 0 0))]))] (s [f 4 0 1,l 5 4,f 6 0 3,(.mk none none (.store 1 (.t 6) (.t 5)))] (s [f 7 1 1,l 8 7,f 9 1 3,(.mk none none (.store 1 (.t 9) (.t 8)))] (s [e 10 2 7 1,h 11 7 10,c 12 247 [.t 11],
 e 13 2 7 3,(.mk none none (.store 7 (.t 13) (.t 12)))] (s [e 14 9 7 1,h 15 7 14,c 16 247 [.t 15],e 17 9 7 3,(.mk none none (.store 7 (.t 17) (.t 16)))] (s [h 18 16 3,x 2 (.stro 16 2 (.t 18))] .ret))))))),[(.c 2 16 true)]⟩
theorem i199 : IsFun Tryz.prog 199 g199 := ⟨Tryz.f199, _, [], Tryz.func199, by kernel_rfl, rfl, by kernel_rfl, by kernel_rfl, rfl⟩
def g200 : GFun := ⟨⟨43,[3,4,8]⟩,(s [a 3 2 0,a 4 1 1,b 6 false] (.seq (s [f 9 0 4,l 10 9,n 11 10,c 12 73 [.t 11,(.k (.val (.int .i64 1))),(.k (.val (.int .i64 16)))],w 13 12] (.cond 13 (s [b 6 false] .ret) .skip)) (.seq (s [f 14 0 4,
 l 15 14,n 16 15,k 17 0] (.block 0 (.loop (s [o 18 .lss 17 16] (.seq (.cond 18 .skip (.exit 0)) (.seq (.block 1 (s [m 19 17,i 20 6 15 17,h 21 6 20,x 8 (.allocr 6),m 7 19,x 8 (.stro 6 8 (.t 21))] (s [f 22 0 8,l 23 22,c 24 73 [.t 23,(.k
 (.val (.int .i64 1))),(.k (.val (.int .i64 999)))],w 25 24,m 26 25,z 27 26 (.faddr 0 1 false (.t 4)),z 28 26 (.load 1 false (.t 27)),z 29 26 (.mov (.t 7)),z 30 26 (.slc 6 (.t 28) none (some (.t 29))),z 31 26 (.mkfn 249 [.t 8]),z 32 26
 (.call false 248 [.t 30,.t 31]),x 33 (.pick (.t 26) (.k (.val (.bool true))) (.t 32))] (.cond 33 (s [b 6 false] .ret) .skip)))) (.reg [q 34 .add 17 1,m 17 34]))))))) (s [m 37 2,f 39 0 4,h 35 2 3,h 36 1 4,x 38 (.call true 250 [.t 35,.t 36,
 (.k (.val (.int .i64 0))),(.k (.val (.int .i64 (-1)))),(.k (.val (.int .i64 0))),.t 37]),l 40 39,n 41 40,o 42 .eql 38 41,m 6 42] .ret)))),[.t 6]⟩
theorem i200 : IsFun Tryz.prog 200 g200 := ⟨Tryz.f200, _, [], Tryz.func200, by kernel_rfl, rfl, by kernel_rfl, by kernel_rfl, rfl⟩
def g201 : GFun := ⟨⟨11,[2]⟩,(s [a 2 1 0,b 4 false] (s [m 5 1,f 6 0 2,l 7 6,n 8 7,q 9 .sub 8 1,c 10 73 [.t 5,(.k (.val (.int .i64 0))),.t 9],m 4 10] .ret)),[.t 4]⟩
theorem i201 : IsFun Tryz.prog 201 g201 := ⟨Tryz.f201, _, [], Tryz.func201, by kernel_rfl, rfl, by kernel_rfl, by kernel_rfl, rfl⟩
def g202 : GFun := ⟨⟨22,[2,4,7]⟩,(s [a 2 2 0,x 4 (.allocr 6),b 5 false] (.seq (s [f 8 1 2,l 9 8,n 10 9,k 11 0] (.block 0 (.loop (s [o 12 .lss 11 10] (.seq (.cond 12 .skip (.exit 0)) (.seq (.block 1 (s [i 13 6 9 11,h 14 6 13,x 7 (.allocr 6),
 x 7 (.stro 6 7 (.t 14))] (s [f 15 0 7,l 16 15,m 17 1,o 18 .eql 16 17] (.cond 18 (s [h 19 6 7,x 4 (.stro 6 4 (.t 19)),b 5 true] .ret) .skip)))) (.reg [q 20 .add 11 1,m 11 20]))))))) (s [x 21 (.build [(.val (.string (ByteArray.mk #[]))),
 (.val (.string (ByteArray.mk #[]))),(.val (.slice none 0 0)),(.val (.bool false)),(.val (.slice none 0 0)),(.val (.slice none 0 0))] []),x 4 (.stro 6 4 (.t 21)),b 5 false] .ret))),[(.c 4 6 true),.t 5]⟩
theorem i202 : IsFun Tryz.prog 202 g202 := ⟨Tryz.f202, _, [], Tryz.func202, by kernel_rfl, rfl, by kernel_rfl, by kernel_rfl, rfl⟩
def g203 : GFun := ⟨⟨33,[3,4,5,6,9]⟩,(s [a 3 2 0,a 4 1 1,a 5 2 2,x 6 (.allocr 4),b 7 false] (s [h 11 1 4,f 12 0 5,l 13 12,c 14 204 [.t 11,.t 13],m 8 14] (.seq (s [m 15 8,q 16 .lss 15 0] (.cond 16 (s [x 17 (.build [(.val (.string
 (ByteArray.mk #[]))),(.val (.int .i64 0)),(.val (.int .i64 0)),(.val (.bool false))] []),x 6 (.stro 4 6 (.t 17)),b 7 false] .ret) .skip)) (s [m 22 8,x 9 (.allocr 2),h 19 2 3,h 20 2 3,h 21 1 4,x 23 (.call true 137 [.t 20,.t 21,.t 22]),
 x 24 (.call true 103 [.t 19,.t 23]),m 18 24,x 25 (.ext (.t 18) 0),x 26 (.ext (.t 18) 1),x 9 (.stro 2 9 (.t 25)),m 10 26] (s [h 27 2 9,f 28 1 5,l 29 28,c 30 104 [.t 27,.t 29],x 31 (.ext (.t 30) 0),x 32 (.ext (.t 30) 1),x 6 (.stro 4 6
 (.t 31)),m 7 32] .ret))))),[(.c 6 4 true),.t 7]⟩
theorem i203 : IsFun Tryz.prog 203 g203 := ⟨Tryz.f203, _, [], Tryz.func203, by kernel_rfl, rfl, by kernel_rfl, by kernel_rfl, rfl⟩
def g204 : GFun := ⟨⟨9,[2,3]⟩,(s [a 2 1 0,a 3 1 1,k 4 0] (s [f 5 0 2,l 6 5,x 7 (.mkfn 252 [.t 3]),c 8 251 [.t 6,.t 7],m 4 8] .ret)),[.t 4]⟩
theorem i204 : IsFun Tryz.prog 204 g204 := ⟨Tryz.f204, _, [], Tryz.func204, by kernel_rfl, rfl, by kernel_rfl, by kernel_rfl, rfl⟩
def g205 : GFun := ⟨⟨24,[2,3,4,7]⟩,(s [a 2 6 0,a 3 2 1,x 4 (.allocr 7),b 5 false] (.seq (s [f 8 4 2,l 9 8,n 10 9,k 11 0] (.block 0 (.loop (s [o 12 .lss 11 10] (.seq (.cond 12 .skip (.exit 0)) (.seq (.block 1 (s [i 13 9 9 11,h 14 9 13,x 7
 (.allocr 9),x 7 (.stro 9 7 (.t 14))] (s [e 15 0 2 7,h 16 2 15,h 17 2 3,x 18 (.aeq false [1,2] (.t 16) (.t 17))] (.cond 18 (s [e 19 2 7 7,h 20 7 19,c 21 253 [.t 20],x 4 (.stro 7 4 (.t 21)),b 5 true] .ret) .skip)))) (.reg [q 22 .add 11 1,
 m 11 22]))))))) (s [x 23 (.build [(.val (.int .i64 0)),(.val (.int .i64 0)),(.val (.int .i64 0)),(.val (.int .i64 0)),(.val (.string (ByteArray.mk #[]))),(.val (.string (ByteArray.mk #[]))),(.val (.slice none 0 0))] []),x 4 (.stro 7 4
 (.t 23)),b 5 false] .ret))),[(.c 4 7 true),.t 5]⟩
theorem i205 : IsFun Tryz.prog 205 g205 := ⟨Tryz.f205, _, [], Tryz.func205, by kernel_rfl, rfl, by kernel_rfl, by kernel_rfl, rfl⟩
def g206 : GFun := ⟨⟨15,[2]⟩,(s [a 2 7 0,b 3 false] (.seq (s [f 4 0 2,l 5 4,q 6 .eql 5 3] (.cond 6 (.reg [l 7 1,f 8 2 2,l 9 8,f 10 5 2,l 11 10,x 12 (.build [(.val (.int .i64 0)),(.val (.string (ByteArray.mk #[])))] [(0,(1,(.t 9))),(1,(1,
 (.t 11)))]),x 13 (.bslice 2 [] 1 true [(0,(.t 12))]),x 14 (.append 2 24 (.t 7) (.t 13)),(.mk none none (.store 1 (.t 1) (.t 14)))]) .skip)) (s [b 3 true] .ret))),[.t 3]⟩
theorem i206 : IsFun Tryz.prog 206 g206 := ⟨Tryz.f206, _, [], Tryz.func206, by kernel_rfl, rfl, by kernel_rfl, by kernel_rfl, rfl⟩
def g209 : GFun := ⟨⟨61,[]⟩,(s [x 2 (.mov (.k (.val (.slice none 0 0))))] (.seq (s [m 6 0,n 7 6,q 8 .lss 7 2] (.cond 8 (s [m 9 0,m 2 9] .ret) .skip)) (.seq (s [k 3 1] (.block 0 (.loop (.seq (s [m 10 3,m 11 0,n 12 11,o 13 .lss 10 12]
 (.cond 13 .skip (.exit 0))) (.seq (.block 1 (s [m 16 0,m 17 3,i 18 2 16 17,m 20 0,m 21 3,q 22 .sub 21 1,i 23 2 20 22,h 19 2 18,h 24 2 23,x 25 (.aeq false [1,2] (.t 19) (.t 24))] (.cond 25 (s [m 26 0,m 27 3,x 28 (.slc 2 (.t 26) (some
 (.t 27)) none),m 4 28] (.seq (s [k 5 1] (.block 2 (.loop (.seq (s [m 29 5,m 30 4,n 31 30,o 32 .lss 29 31] (.cond 32 .skip (.exit 2))) (.seq (.block 3 (s [m 35 4,m 36 5,i 37 2 35 36,m 39 4,m 40 5,q 41 .sub 40 1,i 42 2 39 41,h 38 2 37,
 h 43 2 42,x 44 (.aeq true [1,2] (.t 38) (.t 43))] (.cond 44 (s [m 45 0,m 46 3,m 47 4,m 48 5,i 49 2 47 48,h 50 2 49,i 51 2 45 46,(.mk none none (.store 2 (.t 51) (.t 50)))] (.reg [m 52 3,q 53 .add 52 1,m 3 53])) .skip))) (.reg [m 33 5,
 q 34 .add 33 1,m 5 34])))))) (s [m 54 0,m 55 3,x 56 (.slc 2 (.t 54) (some (.t 55)) none),(.mk none none (.clr 2 (.t 56)))] (s [m 57 0,m 58 3,x 59 (.slc 2 (.t 57) none (some (.t 58))),m 2 59] .ret)))) .skip))) (.reg [m 14 3,q 15 .add 14 1,
 m 3 15])))))) (s [m 60 0,m 2 60] .ret)))),[.t 2]⟩
theorem i209 : IsFun Tryz.prog 209 g209 := ⟨Tryz.f209, _, [], Tryz.func209, by kernel_rfl, rfl, by kernel_rfl, by kernel_rfl, rfl⟩
def g210 : GFun := ⟨⟨25,[2,3]⟩,(s [a 2 4 0,a 3 4 1,b 4 false] (.seq (s [f 5 0 2,l 6 5,f 7 0 3,l 8 7,o 9 .neq 6 8] (.cond 9 (s [b 4 false] .ret) .skip)) (.seq (s [f 10 1 2,l 11 10,f 12 1 3,l 13 12,o 14 .neq 11 13] (.cond 14
 (s [b 4 false] .ret) .skip)) (.seq (s [f 15 2 2,l 16 15,f 17 2 3,l 18 17,o 19 .neq 16 18] (.cond 19 (s [b 4 false] .ret) .skip)) (.seq (s [f 20 3 2,l 21 20,f 22 3 3,l 23 22,x 24 (.beq true (.t 21) (.t 23))] (.cond 24
 (s [b 4 false] .ret) .skip)) (s [b 4 true] .ret)))))),[.t 4]⟩
theorem i210 : IsFun Tryz.prog 210 g210 := ⟨Tryz.f210, _, [], Tryz.func210, by kernel_rfl, rfl, by kernel_rfl, by kernel_rfl, rfl⟩
def g211 : GFun := ⟨⟨17,[2,3]⟩,(s [a 2 9 0,a 3 9 1,b 4 false] (.seq (s [e 5 0 2 2,h 6 2 5,e 7 0 2 3,h 8 2 7,c 9 259 [.t 6,.t 8],w 10 9] (.cond 10 (s [b 4 false] .ret) .skip)) (.seq (s [e 11 2 7 2,h 12 7 11,e 13 2 7 3,h 14 7 13,
 c 15 260 [.t 12,.t 14],w 16 15] (.cond 16 (s [b 4 false] .ret) .skip)) (s [b 4 true] .ret)))),[.t 4]⟩
theorem i211 : IsFun Tryz.prog 211 g211 := ⟨Tryz.f211, _, [], Tryz.func211, by kernel_rfl, rfl, by kernel_rfl, by kernel_rfl, rfl⟩
def g212 : GFun := ⟨⟨27,[2,3]⟩,(s [a 2 16 0,a 3 16 1,b 4 false] (.seq (s [f 5 0 2,l 6 5,f 7 0 3,l 8 7,o 9 .neq 6 8] (.cond 9 (s [b 4 false] .ret) .skip)) (.seq (s [f 10 1 2,l 11 10,f 12 1 3,l 13 12,o 14 .neq 11 13] (.cond 14
 (s [b 4 false] .ret) .skip)) (.seq (s [e 15 2 7 2,h 16 7 15,e 17 2 7 3,h 18 7 17,c 19 260 [.t 16,.t 18],w 20 19] (.cond 20 (s [b 4 false] .ret) .skip)) (.seq (s [e 21 9 7 2,h 22 7 21,e 23 9 7 3,h 24 7 23,c 25 260 [.t 22,.t 24],w 26 25]
 (.cond 26 (s [b 4 false] .ret) .skip)) (s [b 4 true] .ret)))))),[.t 4]⟩
theorem i212 : IsFun Tryz.prog 212 g212 := ⟨Tryz.f212, _, [], Tryz.func212, by kernel_rfl, rfl, by kernel_rfl, by kernel_rfl, rfl⟩
def g213 : GFun := ⟨⟨39,[1]⟩,(s [a 1 4 0,b 2 false] (.seq (s [f 3 0 1,l 4 3,c 5 214 [.t 4],w 6 5,m 7 6,z 8 7 (.faddr 1 1 false (.t 1)),z 9 7 (.load 1 false (.t 8)),z 10 7 (.call false 85 [.t 9,(.k (.val (.int .i64 1))),(.k (.val
 (.int .i64 4)))]),z 11 7 (.not (.t 10)),x 12 (.pick (.t 7) (.k (.val (.bool true))) (.t 11)),m 13 12,z 14 13 (.faddr 2 1 false (.t 1)),z 15 13 (.load 1 false (.t 14)),z 16 13 (.call false 85 [.t 15,(.k (.val (.int .i64 1))),(.k (.val
 (.int .i64 3)))]),z 17 13 (.not (.t 16)),x 18 (.pick (.t 13) (.k (.val (.bool true))) (.t 17))] (.cond 18 (s [b 2 false] .ret) .skip)) (.seq (s [f 19 2 1,l 20 19,q 21 .eql 20 3,m 22 21,y 23 22 (.faddr 1 1 false (.t 1)),y 24 22
 (.load 1 false (.t 23)),y 25 22 (.bin .neq (.t 24) (.k (.val (.int .i64 2)))),y 26 22 (.mov (.t 25)),z 27 26 (.faddr 3 1 false (.t 1)),z 28 26 (.load 1 false (.t 27)),y 29 22 (.pick (.t 26) (.k (.val (.bool true))) (.t 28)),x 30 (.pick
 (.t 22) (.t 29) (.k (.val (.bool false))))] (.cond 30 (s [b 2 false] .ret) .skip)) (s [f 31 3 1,l 32 31,w 33 32,m 34 33,z 35 34 (.faddr 1 1 false (.t 1)),z 36 34 (.load 1 false (.t 35)),z 37 34 (.bin .eql (.t 36) (.k (.val
 (.int .i64 2)))),x 38 (.pick (.t 34) (.k (.val (.bool true))) (.t 37)),m 2 38] .ret)))),[.t 2]⟩
theorem i213 : IsFun Tryz.prog 213 g213 := ⟨Tryz.f213, _, [], Tryz.func213, by kernel_rfl, rfl, by kernel_rfl, by kernel_rfl, rfl⟩
def g214 : GFun := ⟨⟨15,[]⟩,(s [b 2 false] (s [m 3 0,c 4 261 [.t 3],m 5 4,y 6 5 (.mov (.t 0)),y 7 5 (.slen (.t 6)),y 8 5 (.bin .leq (.t 7) (.k (.val (.int .i64 8)))),x 9 (.pick (.t 5) (.t 8) (.k (.val (.bool false)))),m 10 9,y 11 10 (.mov
 (.t 0)),y 12 10 (.call false 262 [.t 11]),y 13 10 (.not (.t 12)),x 14 (.pick (.t 10) (.t 13) (.k (.val (.bool false)))),m 2 14] .ret)),[.t 2]⟩
theorem i214 : IsFun Tryz.prog 214 g214 := ⟨Tryz.f214, _, [], Tryz.func214, by kernel_rfl, rfl, by kernel_rfl, by kernel_rfl, rfl⟩
def g215 : GFun := ⟨⟨18,[]⟩,(s [b 2 false] (.seq (s [k 3 0] (.block 0 (.loop (.seq (s [m 4 3,m 5 0,n 6 5,o 7 .lss 4 6] (.cond 7 .skip (.exit 0))) (.seq (.block 1 (s [m 10 0,m 11 3,x 12 (.slc 1 (.t 10) none (some (.t 11))),m 13 0,m 14 3,
 i 15 1 13 14,l 16 15,x 17 (.call true 148 [.t 12,.t 16])] (.cond 17 (s [b 2 false] .ret) .skip))) (.reg [m 8 3,q 9 .add 8 1,m 3 9])))))) (s [b 2 true] .ret))),[.t 2]⟩
theorem i215 : IsFun Tryz.prog 215 g215 := ⟨Tryz.f215, _, [], Tryz.func215, by kernel_rfl, rfl, by kernel_rfl, by kernel_rfl, rfl⟩
def g216 : GFun := ⟨⟨12,[2]⟩,(s [a 2 7 0,b 4 false] (s [h 5 7 2,c 6 187 [.t 5],m 7 6,y 8 7 (.load 7 true (.t 2)),y 9 7 (.mov (.t 1)),y 10 7 (.call false 263 [.t 8,.t 9]),x 11 (.pick (.t 7) (.t 10) (.k (.val (.bool false)))),m 4 11] .ret)),
 [.t 4]⟩
theorem i216 : IsFun Tryz.prog 216 g216 := ⟨Tryz.f216, _, [], Tryz.func216, by kernel_rfl, rfl, by kernel_rfl, by kernel_rfl, rfl⟩
def g217 : GFun := ⟨⟨56,[2,3,7]⟩,(s [a 2 2 0,a 3 6 1,x 4 (.mov (.k (.val (.slice none 0 0))))] (s [x 11 (.bslice 2 [] 0 true []),m 5 11] (.seq (s [k 6 0] (.block 0 (.loop (.seq (s [m 12 6,f 13 2 3,l 14 13,n 15 14,o 16 .leq 12 15]
 (.cond 16 .skip (.exit 0))) (.seq (.block 1 (s [m 22 6,x 7 (.allocr 2),h 20 2 2,h 21 6 3,x 23 (.call true 90 [.t 21,.t 22]),x 24 (.call true 91 [.t 20,.t 23]),m 19 24,x 25 (.ext (.t 19) 0),x 26 (.ext (.t 19) 1),x 7 (.stro 2 7 (.t 25)),
 m 8 26] (s [k 9 1] (.seq (s [m 27 6,q 28 .eql 27 0] (.cond 28 (.reg [k 9 2]) .skip)) (s [k 10 0] (.block 2 (.loop (.seq (s [m 29 10,f 30 1 7,l 31 30,n 32 31,o 33 .lss 29 32] (.cond 33 .skip (.exit 2))) (.seq (.block 3 (s [f 36 1 7,l 37 36,
 m 38 10,i 39 4 37 38,f 40 2 39,l 41 40,m 42 9,o 43 .eql 41 42] (.cond 43 (.reg [m 44 5,m 45 6,f 46 1 7,l 47 46,m 48 10,i 49 4 47 48,f 50 0 49,l 51 50,x 52 (.build [(.val (.int .i64 0)),(.val (.string (ByteArray.mk #[])))] [(0,(1,(.t 45))),
 (1,(1,(.t 51)))]),x 53 (.bslice 2 [] 1 true [(0,(.t 52))]),x 54 (.append 2 24 (.t 44) (.t 53)),m 5 54]) .skip))) (.reg [m 34 10,q 35 .add 34 1,m 10 35])))))))))) (.reg [m 17 6,q 18 .add 17 1,m 6 18])))))) (s [m 55 5,m 4 55] .ret)))),
 [.t 4]⟩
theorem i217 : IsFun Tryz.prog 217 g217 := ⟨Tryz.f217, _, [], Tryz.func217, by kernel_rfl, rfl, by kernel_rfl, by kernel_rfl, rfl⟩
def g218 : GFun := ⟨⟨18,[3]⟩,(s [a 3 2 1,b 4 false] (.seq (s [k 5 0] (.block 0 (.loop (.seq (s [m 6 5,m 7 0,n 8 7,o 9 .lss 6 8] (.cond 9 .skip (.exit 0))) (.seq (.block 1 (s [m 12 0,m 13 5,i 14 2 12 13,h 15 2 14,h 16 2 3,x 17
 (.aeq false [1,2] (.t 15) (.t 16))] (.cond 17 (s [b 4 true] .ret) .skip))) (.reg [m 10 5,q 11 .add 10 1,m 5 11])))))) (s [b 4 false] .ret))),[.t 4]⟩
theorem i218 : IsFun Tryz.prog 218 g218 := ⟨Tryz.f218, _, [], Tryz.func218, by kernel_rfl, rfl, by kernel_rfl, by kernel_rfl, rfl⟩
def g219 : GFun := ⟨⟨25,[3,4,5]⟩,(s [a 3 2 0,a 4 6 1,a 5 7 2,b 6 false] (s [h 9 7 5,c 10 128 [.t 9],m 7 10] (.seq (s [k 8 0] (.block 0 (.loop (.seq (s [m 11 8,m 12 7,n 13 12,o 14 .lss 11 13] (.cond 14 .skip (.exit 0))) (.seq (.block 1
 (s [m 19 7,m 20 8,i 21 2 19 20,h 17 2 3,h 18 6 4,h 22 2 21,x 23 (.call true 264 [.t 17,.t 18,.t 22]),w 24 23] (.cond 24 (s [b 6 false] .ret) .skip))) (.reg [m 15 8,q 16 .add 15 1,m 8 16])))))) (s [b 6 true] .ret)))),[.t 6]⟩
theorem i219 : IsFun Tryz.prog 219 g219 := ⟨Tryz.f219, _, [], Tryz.func219, by kernel_rfl, rfl, by kernel_rfl, by kernel_rfl, rfl⟩
def g220 : GFun := ⟨⟨24,[]⟩,(s [k 2 0,k 3 0,k 4 0] (.seq (.block 0 (s [m 6 0,c 7 85 [.t 6,(.k (.val (.int .i64 1))),(.k (.val (.int .i64 5)))],m 5 7] (.cond 5 (s [k 2 1,k 3 1,k 4 1] .ret) (s [m 9 0,c 10 85 [.t 9,(.k (.val (.int .i64 6))),
 (.k (.val (.int .i64 8)))],m 8 10] (.cond 8 (s [k 2 2,k 3 2,k 4 2] .ret) (s [m 12 0,q 13 .eql 12 9,m 14 13,z 15 14 (.mov (.t 0)),z 16 14 (.bin .eql (.t 15) (.k (.val (.int .i64 10)))),x 17 (.pick (.t 14) (.k (.val (.bool true))) (.t 16)),
 m 11 17] (.cond 11 (s [k 2 1,k 3 1,k 4 3] .ret) (s [m 19 0,q 20 .eql 19 11,m 18 20] (.cond 18 (s [k 2 2,k 3 1,k 4 3] .ret) (s [m 22 0,q 23 .eql 22 12,m 21 23] (.cond 21 (s [k 2 2,k 3 1,k 4 2] .ret) .skip))))))))))) (s [k 2 0,k 3 0,
 k 4 0] .ret))),[.t 2,.t 3,.t 4]⟩
theorem i220 : IsFun Tryz.prog 220 g220 := ⟨Tryz.f220, _, [], Tryz.func220, by kernel_rfl, rfl, by kernel_rfl, by kernel_rfl, rfl⟩
def g221 : GFun := ⟨⟨56,[3,8]⟩,(s [a 3 2 0,b 6 false] (.seq (s [k 7 0] (.block 0 (.loop (.seq (s [m 12 7,f 13 1 3,l 14 13,n 15 14,o 16 .lss 12 15] (.cond 16 .skip (.exit 0))) (.seq (.block 1 (s [f 19 1 3,l 20 19,m 21 7,i 22 6 20 21,
 h 23 6 22,x 8 (.allocr 6),x 8 (.stro 6 8 (.t 23))] (s [f 24 1 8,l 25 24,m 26 1,o 27 .eql 25 26,m 9 27] (.seq (s [k 10 0] (.block 2 (.loop (.seq (s [m 28 10,f 29 2 8,l 30 29,n 31 30,o 32 .lss 28 31] (.cond 32 .skip (.exit 2))) (.seq
 (.block 3 (s [f 36 2 8,m 38 10,h 35 2 3,l 37 36,i 39 1 37 38,l 40 39,x 41 (.call true 157 [.t 35,.t 40]),m 11 41] (.reg [m 42 9,m 43 42,y 44 43 (.mov (.t 11)),y 45 43 (.bin .geq (.t 44) (.k (.val (.int .i64 0)))),x 46 (.pick (.t 43)
 (.t 45) (.k (.val (.bool false)))),m 47 46,y 48 47 (.mov (.t 2)),y 49 47 (.mov (.t 11)),y 50 47 (.call false 66 [.t 49,(.k (.val (.int .i64 0)))]),y 51 47 (.iaddr 1 (.t 48) (.t 50)),y 52 47 (.load 1 false (.t 51)),y 53 47 (.bin .gtr
 (.t 52) (.k (.val (.int .i64 0)))),x 54 (.pick (.t 47) (.t 53) (.k (.val (.bool false)))),m 9 54]))) (.reg [m 33 10,q 34 .add 33 1,m 10 34])))))) (s [m 55 9] (.cond 55 (s [b 6 true] .ret) .skip)))))) (.reg [m 17 7,q 18 .add 17 1,
 m 7 18])))))) (s [b 6 false] .ret))),[.t 6]⟩
theorem i221 : IsFun Tryz.prog 221 g221 := ⟨Tryz.f221, _, [], Tryz.func221, by kernel_rfl, rfl, by kernel_rfl, by kernel_rfl, rfl⟩
def g222 : GFun := ⟨⟨40,[1]⟩,(s [a 1 4 0,b 2 false] (.seq (.block 0 (s [f 4 0 1,l 5 4,c 6 224 [.t 5],w 7 6,m 8 7,z 9 8 (.faddr 1 1 false (.t 1)),z 10 8 (.load 1 false (.t 9)),z 11 8 (.call false 265 [.t 10]),z 12 8 (.not (.t 11)),x 13
 (.pick (.t 8) (.k (.val (.bool true))) (.t 12)),m 14 13,z 15 14 (.faddr 2 1 false (.t 1)),z 16 14 (.load 1 false (.t 15)),z 17 14 (.call false 73 [.t 16,(.k (.val (.int .i64 1))),(.k (.val (.int .i64 3)))]),z 18 14 (.not (.t 17)),x 19
 (.pick (.t 14) (.k (.val (.bool true))) (.t 18)),m 3 19] (.cond 3 (s [b 2 false] .ret) (s [f 21 2 1,l 22 21,q 23 .eql 22 3,m 20 23] (.cond 20 (s [f 24 1 1,l 25 24,q 26 .eql 25 2,m 27 26,y 28 27 (.faddr 3 1 false (.t 1)),y 29 27
 (.load 1 false (.t 28)),y 30 27 (.not (.t 29)),x 31 (.pick (.t 27) (.t 30) (.k (.val (.bool false)))),m 2 31] .ret) .skip))))) (s [f 32 3 1,l 33 32,w 34 33,m 35 34,z 36 35 (.faddr 1 1 false (.t 1)),z 37 35 (.load 1 false (.t 36)),z 38 35
 (.bin .eql (.t 37) (.k (.val (.int .i64 2)))),x 39 (.pick (.t 35) (.k (.val (.bool true))) (.t 38)),m 2 39] .ret))),[.t 2]⟩
theorem i222 : IsFun Tryz.prog 222 g222 := ⟨Tryz.f222, _, [], Tryz.func222, by kernel_rfl, rfl, by kernel_rfl, by kernel_rfl, rfl⟩
def g223 : GFun := ⟨⟨9,[2]⟩,(s [a 2 4 0,b 3 false] (s [f 4 0 2,l 5 4,f 6 0 1,l 7 6,o 8 .eql 5 7,m 3 8] .ret)),[.t 3]⟩
theorem i223 : IsFun Tryz.prog 223 g223 := ⟨Tryz.f223, _, [], Tryz.func223, by kernel_rfl, rfl, by kernel_rfl, by kernel_rfl, rfl⟩
def g224 : GFun := ⟨⟨35,[]⟩,(s [b 2 false] (.seq (s [m 4 0,x 5 (.slen (.t 4)),k 6 0] (.block 0 (.loop (s [o 7 .lss 6 5] (.seq (.cond 7 .skip (.exit 0)) (.seq (.block 1 (s [m 8 6,m 3 8] (s [m 9 0,m 10 3,x 11 (.idx (.t 9) (.t 10)),
 c 12 266 [.t 11],w 13 12,m 14 13,y 15 14 (.mov (.t 0)),y 16 14 (.mov (.t 3)),y 17 14 (.idx (.t 15) (.t 16)),y 18 14 (.call false 267 [.t 17]),y 19 14 (.not (.t 18)),x 20 (.pick (.t 14) (.t 19) (.k (.val (.bool false))))] (.cond 20
 (s [b 2 false] .ret) .skip)))) (.reg [q 21 .add 6 1,m 6 21]))))))) (s [m 22 0,x 23 (.slen (.t 22)),c 24 73 [.t 23,(.k (.val (.int .i64 1))),(.k (.val (.int .i64 8)))],m 25 24,y 26 25 (.mov (.t 0)),y 27 25 (.idx (.t 26) (.k (.val
 (.int .i64 0)))),y 28 25 (.call false 266 [.t 27]),x 29 (.pick (.t 25) (.t 28) (.k (.val (.bool false)))),m 30 29,y 31 30 (.mov (.t 0)),y 32 30 (.call false 268 [.t 31]),y 33 30 (.not (.t 32)),x 34 (.pick (.t 30) (.t 33) (.k (.val
 (.bool false)))),m 2 34] .ret))),[.t 2]⟩
theorem i224 : IsFun Tryz.prog 224 g224 := ⟨Tryz.f224, _, [], Tryz.func224, by kernel_rfl, rfl, by kernel_rfl, by kernel_rfl, rfl⟩
def g225 : GFun := ⟨⟨12,[2,3]⟩,(s [a 2 7 0,a 3 1 1,b 4 false] (s [h 5 7 2,c 6 238 [.t 5],m 7 6,y 8 7 (.load 7 true (.t 2)),y 9 7 (.mkfn 269 [.t 3]),y 10 7 (.call false 178 [.t 8,.t 9]),x 11 (.pick (.t 7) (.t 10) (.k (.val (.bool false)))),
 m 4 11] .ret)),[.t 4]⟩
theorem i225 : IsFun Tryz.prog 225 g225 := ⟨Tryz.f225, _, [], Tryz.func225, by kernel_rfl, rfl, by kernel_rfl, by kernel_rfl, rfl⟩
def g226 : GFun := ⟨⟨19,[]⟩,(s [k 4 0] (.seq (s [m 6 0,n 7 6,k 8 0] (.block 0 (.loop (s [o 9 .lss 8 7] (.seq (.cond 9 .skip (.exit 0)) (.seq (.block 1 (s [m 10 8,m 5 10] (s [m 11 1,m 12 0,m 13 5,i 14 2 12 13,h 15 2 14,x 16 (.callv false
 (.t 11) [.t 15])] (.cond 16 (s [m 17 5,m 4 17] .ret) .skip)))) (.reg [q 18 .add 8 1,m 8 18]))))))) (s [k 4 (-1)] .ret))),[.t 4]⟩
theorem i226 : IsFun Tryz.prog 226 g226 := ⟨Tryz.f226, _, [], Tryz.func226, by kernel_rfl, rfl, by kernel_rfl, by kernel_rfl, rfl⟩
def g227 : GFun := ⟨⟨19,[]⟩,(s [k 4 0] (.seq (s [m 6 0,n 7 6,k 8 0] (.block 0 (.loop (s [o 9 .lss 8 7] (.seq (.cond 9 .skip (.exit 0)) (.seq (.block 1 (s [m 10 8,m 5 10] (s [m 11 1,m 12 0,m 13 5,i 14 9 12 13,h 15 9 14,x 16 (.callv false
 (.t 11) [.t 15])] (.cond 16 (s [m 17 5,m 4 17] .ret) .skip)))) (.reg [q 18 .add 8 1,m 8 18]))))))) (s [k 4 (-1)] .ret))),[.t 4]⟩
theorem i227 : IsFun Tryz.prog 227 g227 := ⟨Tryz.f227, _, [], Tryz.func227, by kernel_rfl, rfl, by kernel_rfl, by kernel_rfl, rfl⟩
def g228 : GFun := ⟨⟨19,[3]⟩,(s [a 3 2 1,k 4 0] (.seq (s [m 6 0,n 7 6,k 8 0] (.block 0 (.loop (s [o 9 .lss 8 7] (.seq (.cond 9 .skip (.exit 0)) (.seq (.block 1 (s [m 10 8,m 5 10] (s [m 12 0,m 13 5,i 14 2 12 13,h 11 2 3,h 15 2 14,x 16
 (.aeq false [1,2] (.t 11) (.t 15))] (.cond 16 (s [m 17 5,m 4 17] .ret) .skip)))) (.reg [q 18 .add 8 1,m 8 18]))))))) (s [k 4 (-1)] .ret))),[.t 4]⟩
theorem i228 : IsFun Tryz.prog 228 g228 := ⟨Tryz.f228, _, [], Tryz.func228, by kernel_rfl, rfl, by kernel_rfl, by kernel_rfl, rfl⟩
def g229 : GFun := ⟨⟨8,[2]⟩,(s [a 2 7 0,b 3 false] (s [h 4 7 2,l 5 1,c 6 178 [.t 4,.t 5],w 7 6,m 3 7] .ret)),[.t 3]⟩
theorem i229 : IsFun Tryz.prog 229 g229 := ⟨Tryz.f229, _, [], Tryz.func229, by kernel_rfl, rfl, by kernel_rfl, by kernel_rfl, rfl⟩
def g230 : GFun := ⟨⟨14,[]⟩,(s [b 4 false] (s [m 5 1,c 6 85 [.t 5,(.k (.val (.int .i64 1))),(.k (.val (.int .i64 4)))],m 7 6,y 8 7 (.mov (.t 0)),y 9 7 (.mov (.t 1)),y 10 7 (.call false 270 [.t 8,.t 9]),y 11 7 (.mov (.t 0)),y 12 7
 (.bin .eql (.t 10) (.t 11)),x 13 (.pick (.t 7) (.t 12) (.k (.val (.bool false)))),m 4 13] .ret)),[.t 4]⟩
theorem i230 : IsFun Tryz.prog 230 g230 := ⟨Tryz.f230, _, [], Tryz.func230, by kernel_rfl, rfl, by kernel_rfl, by kernel_rfl, rfl⟩
def g231 : GFun := ⟨⟨73,[1,2,6,1000003]⟩,(s [a 1 6 0,x 2 (.allocr 6)] (s [f 7 0 1,x 8 (.loadr 1 false (.t 7)),f 9 1 1,x 10 (.loadr 1 false (.t 9)),f 11 3 1,x 12 (.loadr 1 false (.t 11)),f 14 2 1,x 15 (.loadr 1 false (.t 14)),x 3
 (.allocr 6),x 13 (.bslice 1 [] 0 false []),x 16 (.append 1 16 (.t 13) (.t 15)),x 17 (.build [(.val (.string (ByteArray.mk #[]))),(.val (.string (ByteArray.mk #[]))),(.val (.slice none 0 0)),(.val (.bool false)),(.val (.slice none 0 0)),
 (.val (.slice none 0 0))] [(0,(1,(.t 8))),(1,(1,(.t 10))),(3,(1,(.t 12))),(2,(1,(.t 16)))]),x 3 (.strb 6 3 (.t 17))] (.seq (s [k 4 0] (.block 0 (.loop (.seq (s [m 18 4,f 19 4 1,l 20 19,n 21 20,o 22 .lss 18 21] (.cond 22 .skip (.exit 0)))
 (.seq (.block 1 (.reg [f 25 4 3,f 27 4 1,m 29 4,f 33 4 1,m 35 4,l 26 25,l 28 27,i 30 9 28 29,e 31 0 2 30,h 32 2 31,l 34 33,i 36 9 34 35,e 37 2 7 36,h 38 7 37,x 39 (.call true 232 [.t 38]),x 40 (.build [(.val (.int .i64 0)),(.val (.string
 (ByteArray.mk #[]))),(.val (.int .i64 0)),(.val (.int .i64 0)),(.val (.int .i64 0)),(.val (.int .i64 0)),(.val (.string (ByteArray.mk #[]))),(.val (.string (ByteArray.mk #[]))),(.val (.slice none 0 0))] [(0,(2,(.t 32))),(2,(7,(.t 39)))]),
 x 41 (.bslice 9 [] 1 true [(0,(.t 40))]),x 42 (.append 9 112 (.t 26) (.t 41)),f 43 4 3,(.mk none none (.store 1 (.t 43) (.t 42)))])) (.reg [m 23 4,q 24 .add 23 1,m 4 24])))))) (.seq (s [k 5 0] (.block 2 (.loop (.seq (s [m 44 5,f 45 5 1,
 l 46 45,n 47 46,o 48 .lss 44 47] (.cond 48 .skip (.exit 2))) (.seq (.block 3 (s [f 51 5 1,l 52 51,m 53 5,i 54 16 52 53,h 55 16 54,x 6 (.allocr 16),x 6 (.stro 16 6 (.t 55))] (.reg [f 56 5 3,f 58 0 6,f 60 1 6,e 62 2 7 6,e 65 9 7 6,l 57 56,
 l 59 58,l 61 60,h 63 7 62,x 64 (.call true 232 [.t 63]),h 66 7 65,x 67 (.call true 232 [.t 66]),x 68 (.build [(.val (.string (ByteArray.mk #[]))),(.val (.string (ByteArray.mk #[]))),(.val (.int .i64 0)),(.val (.int .i64 0)),(.val
 (.int .i64 0)),(.val (.int .i64 0)),(.val (.string (ByteArray.mk #[]))),(.val (.string (ByteArray.mk #[]))),(.val (.slice none 0 0)),(.val (.int .i64 0)),(.val (.int .i64 0)),(.val (.int .i64 0)),(.val (.int .i64 0)),(.val (.string
 (ByteArray.mk #[]))),(.val (.string (ByteArray.mk #[]))),(.val (.slice none 0 0))] [(0,(1,(.t 59))),(1,(1,(.t 61))),(2,(7,(.t 64))),(9,(7,(.t 67)))]),x 69 (.bslice 16 [] 1 true [(0,(.t 68))]),x 70 (.append 16 208 (.t 57) (.t 69)),f 71 5 3,
 (.mk none none (.store 1 (.t 71) (.t 70)))]))) (.reg [m 49 5,q 50 .add 49 1,m 5 50])))))) (s [h 72 6 3,x 2 (.stro 6 2 (.t 72))] .ret))))),[(.c 2 6 true)]⟩
theorem i231 : IsFun Tryz.prog 231 g231 := ⟨Tryz.f231, _, [], Tryz.func231, by kernel_rfl, rfl, by kernel_rfl, by kernel_rfl, rfl⟩
def g232 : GFun := ⟨⟨25,[2]⟩,(s [x 1 (.box 7 (.t 0)),x 2 (.allocr 7)] (s [x 5 (.bslice 7 [] 0 true []),m 3 5] (.seq (s [k 4 0] (.block 0 (.loop (.seq (s [m 6 4,f 7 6 1,l 8 7,n 9 8,o 10 .lss 6 9] (.cond 10 .skip (.exit 0))) (.seq (.block 1
 (.reg [m 13 3,f 14 6 1,l 15 14,m 16 4,i 17 7 15 16,h 18 7 17,c 19 232 [.t 18],x 20 (.bslice 7 [] 1 true [(0,(.t 19))]),x 21 (.append 7 88 (.t 13) (.t 20)),m 3 21])) (.reg [m 11 4,q 12 .add 11 1,m 4 12])))))) (s [m 22 3,f 23 6 1,
 (.mk none none (.store 1 (.t 23) (.t 22)))] (s [h 24 7 1,x 2 (.stro 7 2 (.t 24))] .ret))))),[(.c 2 7 true)]⟩
theorem i232 : IsFun Tryz.prog 232 g232 := ⟨Tryz.f232, _, [], Tryz.func232, by kernel_rfl, rfl, by kernel_rfl, by kernel_rfl, rfl⟩
def g233 : GFun := ⟨⟨27,[2]⟩,(s [a 2 7 0,k 4 0] (s [m 6 1,q 7 .sub 6 1,m 1 7] (.seq (s [k 5 0] (.block 0 (.loop (.seq (s [m 8 5,f 9 6 2,l 10 9,n 11 10,o 12 .lss 8 11,m 13 12,y 14 13 (.mov (.t 1)),y 15 13 (.bin .geq (.t 14) (.k (.val
 (.int .i64 0)))),x 16 (.pick (.t 13) (.t 15) (.k (.val (.bool false))))] (.cond 16 .skip (.exit 0))) (.seq (.block 1 (.reg [f 19 6 2,l 20 19,m 21 5,i 22 7 20 21,h 23 7 22,m 24 1,c 25 233 [.t 23,.t 24],m 1 25])) (.reg [m 17 5,
 q 18 .add 17 1,m 5 18])))))) (s [m 26 1,m 4 26] .ret)))),[.t 4]⟩
theorem i233 : IsFun Tryz.prog 233 g233 := ⟨Tryz.f233, _, [], Tryz.func233, by kernel_rfl, rfl, by kernel_rfl, by kernel_rfl, rfl⟩
def g234 : GFun := ⟨⟨22,[1]⟩,(s [a 1 7 0,k 2 0] (s [k 3 0] (.seq (s [k 4 0] (.block 0 (.loop (.seq (s [m 5 4,f 6 6 1,l 7 6,n 8 7,o 9 .lss 5 8] (.cond 9 .skip (.exit 0))) (.seq (.block 1 (.reg [m 12 3,f 13 6 1,l 14 13,m 15 4,i 16 7 14 15,
 h 17 7 16,c 18 234 [.t 17],c 19 66 [.t 12,.t 18],m 3 19])) (.reg [m 10 4,q 11 .add 10 1,m 4 11])))))) (s [m 20 3,q 21 .add 20 1,m 2 21] .ret)))),[.t 2]⟩
theorem i234 : IsFun Tryz.prog 234 g234 := ⟨Tryz.f234, _, [], Tryz.func234, by kernel_rfl, rfl, by kernel_rfl, by kernel_rfl, rfl⟩
def g235 : GFun := ⟨⟨20,[1]⟩,(s [a 1 7 0,b 2 false] (.seq (s [k 3 0] (.block 0 (.loop (.seq (s [m 4 3,f 5 6 1,l 6 5,n 7 6,o 8 .lss 4 7] (.cond 8 .skip (.exit 0))) (.seq (.block 1 (s [f 11 6 1,l 12 11,m 13 3,i 14 7 12 13,h 15 7 14,
 c 16 235 [.t 15],w 17 16] (.cond 17 (s [b 2 false] .ret) .skip))) (.reg [m 9 3,q 10 .add 9 1,m 3 10])))))) (s [h 18 7 1,c 19 271 [.t 18],m 2 19] .ret))),[.t 2]⟩
theorem i235 : IsFun Tryz.prog 235 g235 := ⟨Tryz.f235, _, [], Tryz.func235, by kernel_rfl, rfl, by kernel_rfl, by kernel_rfl, rfl⟩
def g236 : GFun := ⟨⟨24,[3]⟩,(s [a 3 2 1,k 4 0] (.seq (s [k 5 0] (.block 0 (.loop (.seq (s [m 6 5,m 7 0,n 8 7,o 9 .lss 6 8] (.cond 9 .skip (.exit 0))) (.seq (.block 1 (s [m 12 0,m 13 5,i 14 3 12 13,e 15 0 2 14,h 16 2 15,h 17 2 3,x 18
 (.aeq false [1,2] (.t 16) (.t 17))] (.cond 18 (s [m 19 0,m 20 5,i 21 3 19 20,f 22 2 21,l 23 22,m 4 23] .ret) .skip))) (.reg [m 10 5,q 11 .add 10 1,m 5 11])))))) (s [k 4 0] .ret))),[.t 4]⟩
theorem i236 : IsFun Tryz.prog 236 g236 := ⟨Tryz.f236, _, [], Tryz.func236, by kernel_rfl, rfl, by kernel_rfl, by kernel_rfl, rfl⟩
def g237 : GFun := ⟨⟨102,[]⟩,(s [k 6 0] (s [m 11 0,c 12 220 [.t 11],m 10 12,x 13 (.ext (.t 10) 0),x 14 (.ext (.t 10) 1),x 15 (.ext (.t 10) 2),m 7 13,m 8 14,m 9 15] (s [m 16 1,m 17 7,c 18 270 [.t 16,.t 17],m 1 18] (s [m 19 2,m 20 8,
 c 21 270 [.t 19,.t 20],m 2 21] (.seq (s [m 22 0] (.block 0 (s [q 24 .eql 22 1,m 23 24] (.cond 23 (s [m 25 1,m 26 2,o 27 .add 25 26,c 28 272 [.t 27],m 6 28] .ret) (s [q 30 .eql 22 2,m 29 30] (.cond 29 (s [m 31 1,m 32 2,o 33 .sub 31 32,
 c 34 272 [.t 33],m 6 34] .ret) (s [q 36 .eql 22 3,m 35 36] (.cond 35 (s [m 37 1,m 38 2,o 39 .mul 37 38,c 40 272 [.t 39],m 6 40] .ret) (s [q 42 .eql 22 4,m 41 42] (.cond 41 (s [m 43 1,m 44 2,c 45 66 [.t 43,.t 44],m 6 45] .ret)
 (s [q 47 .eql 22 5,m 46 47] (.cond 46 (s [m 48 1,m 49 2,c 50 273 [.t 48,.t 49],m 6 50] .ret) (s [q 52 .eql 22 6,m 51 52] (.cond 51 (s [m 53 1,m 54 2,o 55 .or 53 54,m 6 55] .ret) (s [q 57 .eql 22 7,m 56 57] (.cond 56 (s [m 58 1,m 59 2,
 o 60 .and 58 59,m 6 60] .ret) (s [q 62 .eql 22 8,m 61 62] (.cond 61 (s [m 63 1,m 64 2,o 65 .andNot 63 64,m 6 65] .ret) (s [q 67 .eql 22 9,m 66 67] (.cond 66 (s [m 68 1,m 69 2,o 70 .lss 68 69,c 71 274 [.t 70],m 6 71] .ret)
 (s [q 73 .eql 22 10,m 72 73] (.cond 72 (s [m 74 1,m 75 2,o 76 .eql 74 75,c 77 274 [.t 76],m 6 77] .ret) (s [q 79 .eql 22 11,m 78 79] (.cond 78 (s [m 80 2,c 81 85 [.t 80,(.k (.val (.int .i64 0))),(.k (.val (.int .i64 11)))],m 82 81,
 y 83 82 (.mov (.t 1)),y 84 82 (.mov (.t 2)),y 85 82 (.call false 66 [.t 84,(.k (.val (.int .i64 0)))]),y 86 82 (.conv .u64 (.t 85)),y 87 82 (.bin .shr (.t 83) (.t 86)),y 88 82 (.bin .and (.t 87) (.k (.val (.int .i64 1)))),y 89 82
 (.bin .eql (.t 88) (.k (.val (.int .i64 1)))),x 90 (.pick (.t 82) (.t 89) (.k (.val (.bool false)))),c 91 274 [.t 90],m 6 91] .ret) (s [q 93 .eql 22 12,m 92 93] (.cond 92 (.seq (s [m 94 2,c 95 85 [.t 94,(.k (.val (.int .i64 0))),(.k
 (.val (.int .i64 11)))]] (.cond 95 (s [m 96 1,m 97 2,x 98 (.conv .u64 (.t 97)),x 99 (.bin .shl (.k (.val (.int .i64 1))) (.t 98)),o 100 .or 96 99,m 6 100] .ret) .skip)) (s [m 101 1,m 6 101] .ret)) .skip))))))))))))))))))))))))))
 (s [k 6 0] .ret)))))),[.t 6]⟩
theorem i237 : IsFun Tryz.prog 237 g237 := ⟨Tryz.f237, _, [], Tryz.func237, by kernel_rfl, rfl, by kernel_rfl, by kernel_rfl, rfl⟩
def g238 : GFun := ⟨⟨15,[1]⟩,(s [a 1 7 0,b 2 false] (s [h 3 7 1,c 4 275 [.t 3],q 5 .leq 4 24,m 6 5,y 7 6 (.load 7 true (.t 1)),y 8 6 (.call false 276 [.t 7]),y 9 6 (.bin .leq (.t 8) (.k (.val (.int .i64 6)))),x 10 (.pick (.t 6) (.t 9) (.k
 (.val (.bool false)))),m 11 10,y 12 11 (.load 7 true (.t 1)),y 13 11 (.call false 178 [.t 12,(.k (.clo 277 []))]),x 14 (.pick (.t 11) (.t 13) (.k (.val (.bool false)))),m 2 14] .ret)),[.t 2]⟩
theorem i238 : IsFun Tryz.prog 238 g238 := ⟨Tryz.f238, _, [], Tryz.func238, by kernel_rfl, rfl, by kernel_rfl, by kernel_rfl, rfl⟩
def g239 : GFun := ⟨⟨7,[2]⟩,(s [a 2 2 0,k 3 0] (s [l 4 1,h 5 2 2,c 6 240 [.t 4,.t 5],m 3 6] .ret)),[.t 3]⟩
theorem i239 : IsFun Tryz.prog 239 g239 := ⟨Tryz.f239, _, [], Tryz.func239, by kernel_rfl, rfl, by kernel_rfl, by kernel_rfl, rfl⟩
def g240 : GFun := ⟨⟨20,[3,6]⟩,(s [a 3 2 1,k 4 0] (.seq (s [m 7 0,n 8 7,k 9 0] (.block 0 (.loop (s [o 10 .lss 9 8] (.seq (.cond 10 .skip (.exit 0)) (.seq (.block 1 (s [i 11 3 7 9,h 12 3 11,x 6 (.allocr 3),x 6 (.stro 3 6 (.t 12))]
 (s [e 13 0 2 6,h 14 2 13,h 15 2 3,x 16 (.aeq false [1,2] (.t 14) (.t 15))] (.cond 16 (s [f 17 2 6,l 18 17,m 4 18] .ret) .skip)))) (.reg [q 19 .add 9 1,m 9 19]))))))) (s [k 4 0] .ret))),[.t 4]⟩
theorem i240 : IsFun Tryz.prog 240 g240 := ⟨Tryz.f240, _, [], Tryz.func240, by kernel_rfl, rfl, by kernel_rfl, by kernel_rfl, rfl⟩
def g241 : GFun := ⟨⟨5,[3]⟩,(s [a 3 7 1,k 4 0] (s [k 4 0] .ret)),[.t 4]⟩
theorem i241 : IsFun Tryz.prog 241 g241 := ⟨Tryz.f241, _, [], Tryz.func241, by kernel_rfl, rfl, by kernel_rfl, by kernel_rfl, rfl⟩
def g242 : GFun := ⟨⟨91,[2,3]⟩,(s [a 2 4 0,a 3 7 1,k 4 0] (.seq (s [f 6 0 3,l 7 6] (.block 0 (s [q 9 .eql 7 1,m 8 9] (.cond 8 (s [f 10 1 3,l 11 10,m 4 11] .ret) (s [q 13 .eql 7 2,m 12 13] (.cond 12 (s [f 14 2 2,l 15 14,m 4 15] .ret)
 (s [q 17 .eql 7 3,m 16 17] (.cond 16 (s [f 18 0 2,l 19 18,f 20 2 3,l 21 20,f 22 5 3,l 23 22,x 24 (.build [(.val (.int .i64 0)),(.val (.string (ByteArray.mk #[])))] [(0,(1,(.t 21))),(1,(1,(.t 23)))]),x 25 (.callv false (.t 19) [.t 24]),
 m 4 25] .ret) (s [q 27 .eql 7 4,m 26 27] (.cond 26 (s [f 29 6 3,h 28 4 2,l 30 29,x 31 (.iaddr 7 (.t 30) (.k (.val (.int .i64 0)))),h 32 7 31,x 33 (.call true 242 [.t 28,.t 32]),m 5 33] (s [f 34 1 3,m 36 5,f 38 6 3,l 35 34,h 37 4 2,l 39 38,
 x 40 (.iaddr 7 (.t 39) (.k (.val (.int .i64 1)))),h 41 7 40,x 42 (.call true 242 [.t 37,.t 41]),x 43 (.call true 278 [.t 35,.t 36,.t 42]),m 4 43] .ret)) (s [q 45 .eql 7 5,m 44 45] (.cond 44 (.seq (s [f 47 6 3,h 46 4 2,l 48 47,x 49
 (.iaddr 7 (.t 48) (.k (.val (.int .i64 0)))),h 50 7 49,x 51 (.call true 242 [.t 46,.t 50]),q 52 .neq 51 0] (.cond 52 (s [f 54 6 3,h 53 4 2,l 55 54,x 56 (.iaddr 7 (.t 55) (.k (.val (.int .i64 1)))),h 57 7 56,x 58 (.call true 242 [.t 53,
 .t 57]),m 4 58] .ret) .skip)) (s [f 60 6 3,h 59 4 2,l 61 60,x 62 (.iaddr 7 (.t 61) (.k (.val (.int .i64 2)))),h 63 7 62,x 64 (.call true 242 [.t 59,.t 63]),m 4 64] .ret)) (s [q 66 .eql 7 6,m 65 66] (.cond 65 (s [f 67 2 3,l 68 67,f 69 3 2,
 l 70 69,n 71 70,o 72 .lss 68 71] (.cond 72 (s [f 73 3 2,l 74 73,f 75 2 3,l 76 75,i 77 1 74 76,l 78 77,m 4 78] .ret) .skip)) (s [q 80 .eql 7 8,m 79 80] (.cond 79 (s [f 81 1 2,f 84 6 3,l 82 81,h 83 4 2,l 85 84,x 86 (.iaddr 7 (.t 85) (.k
 (.val (.int .i64 0)))),h 87 7 86,x 88 (.call true 242 [.t 83,.t 87]),h 89 7 3,x 90 (.callv true (.t 82) [.t 88,.t 89]),m 4 90] .ret) .skip)))))))))))))))) (s [k 4 0] .ret))),[.t 4]⟩
theorem i242 : IsFun Tryz.prog 242 g242 := ⟨Tryz.f242, _, [], Tryz.func242, by kernel_rfl, rfl, by kernel_rfl, by kernel_rfl, rfl⟩
def g243 : GFun := ⟨⟨13,[2]⟩,(s [a 2 2 0,k 4 0] (s [m 5 1,f 6 1 2,l 7 6,x 8 (.slen (.t 7)),o 9 .sub 5 8,m 1 9] (.seq (s [m 10 1,q 11 .lss 10 0] (.cond 11 (s [k 4 (-1)] .ret) .skip)) (s [m 12 1,m 4 12] .ret)))),[.t 4]⟩
theorem i243 : IsFun Tryz.prog 243 g243 := ⟨Tryz.f243, _, [], Tryz.func243, by kernel_rfl, rfl, by kernel_rfl, by kernel_rfl, rfl⟩
def g244 : GFun := ⟨⟨26,[2]⟩,(s [a 2 7 0,k 4 0] (s [m 5 1,f 6 4 2,l 7 6,x 8 (.slen (.t 7)),o 9 .sub 5 8,m 1 9] (.seq (s [m 10 1,q 11 .lss 10 0] (.cond 11 (s [k 4 (-1)] .ret) .skip)) (s [m 12 1,f 13 5 2,l 14 13,x 15 (.slen (.t 14)),
 o 16 .sub 12 15,m 1 16] (.seq (s [m 17 1,q 18 .lss 17 0] (.cond 18 (s [k 4 (-1)] .ret) .skip)) (s [f 19 6 2,l 20 19,m 21 1,c 22 279 [.t 20,.t 21],m 1 22] (.seq (s [m 23 1,q 24 .lss 23 0] (.cond 24 (s [k 4 (-1)] .ret) .skip)) (s [m 25 1,
 m 4 25] .ret)))))))),[.t 4]⟩
theorem i244 : IsFun Tryz.prog 244 g244 := ⟨Tryz.f244, _, [], Tryz.func244, by kernel_rfl, rfl, by kernel_rfl, by kernel_rfl, rfl⟩
def g245 : GFun := ⟨⟨48,[3]⟩,(s [a 3 2 1,x 4 (.mov (.k (.val (.slice none 0 0))))] (s [k 5 0] (.seq (.block 0 (.loop (.seq (s [m 7 5,m 8 0,n 9 8,o 10 .lss 7 9,m 11 10,y 12 11 (.mov (.t 0)),y 13 11 (.mov (.t 5)),y 14 11 (.iaddr 2 (.t 12)
 (.t 13)),y 15 11 (.load 2 true (.t 14)),y 16 11 (.load 2 true (.t 3)),y 17 11 (.call true 280 [.t 15,.t 16]),x 18 (.pick (.t 11) (.t 17) (.k (.val (.bool false))))] (.cond 18 .skip (.exit 0))) (.block 1 (.reg [m 19 5,q 20 .add 19 1,
 m 5 20]))))) (.seq (s [m 21 5,m 22 0,n 23 22,o 24 .lss 21 23,m 25 24,y 26 25 (.mov (.t 0)),y 27 25 (.mov (.t 5)),y 28 25 (.iaddr 2 (.t 26) (.t 27)),y 29 25 (.load 2 true (.t 28)),y 30 25 (.load 2 true (.t 3)),y 31 25 (.aeq false [1,2]
 (.t 29) (.t 30)),x 32 (.pick (.t 25) (.t 31) (.k (.val (.bool false))))] (.cond 32 (s [m 33 0,m 4 33] .ret) .skip)) (s [x 34 (.bslice 2 [] 0 true []),m 35 0,m 36 5,x 37 (.slc 2 (.t 35) none (some (.t 36))),x 38 (.append 2 24 (.t 34)
 (.t 37)),m 6 38] (s [m 39 6,h 40 2 3,x 41 (.bslice 2 [] 1 true [(0,(.t 40))]),x 42 (.append 2 24 (.t 39) (.t 41)),m 6 42] (s [m 43 6,m 44 0,m 45 5,x 46 (.slc 2 (.t 44) (some (.t 45)) none),x 47 (.append 2 24 (.t 43) (.t 46)),
 m 4 47] .ret))))))),[.t 4]⟩
theorem i245 : IsFun Tryz.prog 245 g245 := ⟨Tryz.f245, _, [], Tryz.func245, by kernel_rfl, rfl, by kernel_rfl, by kernel_rfl, rfl⟩
def g246 : GFun := ⟨⟨11,[1,2]⟩,(s [a 1 2 0,x 2 (.allocr 2)] (s [x 3 (.alloc 2 (.agg [(.val (.int .i64 0)),(.val (.string (ByteArray.mk #[])))]))] (s [f 4 0 1,l 5 4,f 6 0 3,(.mk none none (.store 1 (.t 6) (.t 5)))] (s [f 7 1 1,l 8 7,f 9 1 3,
 (.mk none none (.store 1 (.t 9) (.t 8)))] (s [h 10 2 3,x 2 (.stro 2 2 (.t 10))] .ret))))),[(.c 2 2 true)]⟩
theorem i246 : IsFun Tryz.prog 246 g246 := ⟨Tryz.f246, _, [], Tryz.func246, by kernel_rfl, rfl, by kernel_rfl, by kernel_rfl, rfl⟩
def g247 : GFun := ⟨⟨27,[1,2]⟩,(s [a 1 7 0,x 2 (.allocr 7)] (s [x 3 (.alloc 7 (.agg [(.val (.int .i64 0)),(.val (.int .i64 0)),(.val (.int .i64 0)),(.val (.int .i64 0)),(.val (.string (ByteArray.mk #[]))),(.val (.string
 (ByteArray.mk #[]))),(.val (.slice none 0 0))]))] (s [f 4 0 1,l 5 4,f 6 0 3,(.mk none none (.store 1 (.t 6) (.t 5)))] (s [f 7 1 1,l 8 7,f 9 1 3,(.mk none none (.store 1 (.t 9) (.t 8)))] (s [f 10 2 1,l 11 10,f 12 2 3,(.mk none none
 (.store 1 (.t 12) (.t 11)))] (s [f 13 3 1,l 14 13,f 15 3 3,(.mk none none (.store 1 (.t 15) (.t 14)))] (s [f 16 4 1,l 17 16,f 18 4 3,(.mk none none (.store 1 (.t 18) (.t 17)))] (s [f 19 5 1,l 20 19,f 21 5 3,(.mk none none (.store 1
 (.t 21) (.t 20)))] (s [f 22 6 1,l 23 22,c 24 281 [.t 23],f 25 6 3,(.mk none none (.store 1 (.t 25) (.t 24)))] (s [h 26 7 3,x 2 (.stro 7 2 (.t 26))] .ret)))))))))),[(.c 2 7 true)]⟩
theorem i247 : IsFun Tryz.prog 247 g247 := ⟨Tryz.f247, _, [], Tryz.func247, by kernel_rfl, rfl, by kernel_rfl, by kernel_rfl, rfl⟩
def g248 : GFun := ⟨⟨9,[]⟩,(s [b 4 false] (s [m 5 0,m 6 1,c 7 251 [.t 5,.t 6],q 8 .geq 7 0,m 4 8] .ret)),[.t 4]⟩
theorem i248 : IsFun Tryz.prog 248 g248 := ⟨Tryz.f248, _, [], Tryz.func248, by kernel_rfl, rfl, by kernel_rfl, by kernel_rfl, rfl⟩
def g249 : GFun := ⟨⟨9,[2]⟩,(s [a 2 6 0,b 3 false] (s [f 4 0 2,l 5 4,f 6 0 1,l 7 6,o 8 .eql 5 7,m 3 8] .ret)),[.t 3]⟩
theorem i249 : IsFun Tryz.prog 249 g249 := ⟨Tryz.f249, _, [], Tryz.func249, by kernel_rfl, rfl, by kernel_rfl, by kernel_rfl, rfl⟩
def g250 : GFun := ⟨⟨110,[6,7,13,14]⟩,(s [a 6 2 0,a 7 1 1,k 12 0] (.seq (s [m 19 2,f 20 0 7,l 21 20,n 22 21,o 23 .geq 19 22] (.cond 23 (s [k 12 (-1)] .ret) .skip)) (s [f 24 0 7,l 25 24,m 26 2,i 27 6 25 26,h 28 6 27,x 13 (.allocr 6),x 13
 (.stro 6 13 (.t 28))] (s [h 30 2 6,f 31 4 13,l 32 31,c 33 202 [.t 30,.t 32],m 29 33,x 34 (.ext (.t 29) 0),x 35 (.ext (.t 29) 1),x 14 (.allocr 6),x 14 (.stro 6 14 (.t 34)),m 15 35] (.seq (s [m 36 15,w 37 36,m 38 37,z 39 38
 (.faddr 1 1 false (.t 14)),z 40 38 (.load 1 false (.t 39)),z 41 38 (.mov (.t 5)),z 42 38 (.bin .neq (.t 40) (.t 41)),x 43 (.pick (.t 38) (.k (.val (.bool true))) (.t 42)),m 44 43,z 45 44 (.faddr 1 1 false (.t 13)),z 46 44 (.load 1 false
 (.t 45)),z 47 44 (.mov (.t 3)),z 48 44 (.bin .neq (.t 46) (.t 47)),x 49 (.pick (.t 44) (.k (.val (.bool true))) (.t 48)),m 50 49,z 51 50 (.faddr 2 1 false (.t 13)),z 52 50 (.load 1 false (.t 51)),z 53 50 (.mov (.t 4)),z 54 50 (.bin .neq
 (.t 52) (.t 53)),x 55 (.pick (.t 50) (.k (.val (.bool true))) (.t 54)),m 56 55,z 57 56 (.faddr 5 1 false (.t 13)),z 58 56 (.load 1 false (.t 57)),z 59 56 (.len (.t 58)),z 60 56 (.faddr 2 1 false (.t 14)),z 61 56 (.load 1 false (.t 60)),
 z 62 56 (.len (.t 61)),z 63 56 (.bin .neq (.t 59) (.t 62)),x 64 (.pick (.t 56) (.k (.val (.bool true))) (.t 63)),m 65 64,z 66 65 (.faddr 3 1 false (.t 13)),z 67 65 (.load 1 false (.t 66)),z 68 65 (.call false 73 [.t 67,(.k (.val
 (.int .i64 (-1000000)))),(.k (.val (.int .i64 1000000)))]),z 69 65 (.not (.t 68)),x 70 (.pick (.t 65) (.k (.val (.bool true))) (.t 69)),m 71 70,z 72 71 (.faddr 3 1 false (.t 14)),z 73 71 (.load 1 false (.t 72)),z 74 71 (.not (.t 73)),
 z 75 71 (.mov (.t 74)),y 76 75 (.faddr 3 1 false (.t 13)),y 77 75 (.load 1 false (.t 76)),y 78 75 (.bin .neq (.t 77) (.k (.val (.int .i64 0)))),z 79 71 (.pick (.t 75) (.t 78) (.k (.val (.bool false)))),x 80 (.pick (.t 71) (.k (.val
 (.bool true))) (.t 79))] (.cond 80 (s [k 12 (-1)] .ret) .skip)) (s [m 81 2,q 82 .add 81 1,m 16 82] (.seq (s [f 83 5 13,l 84 83,n 85 84,k 86 0] (.block 0 (.loop (s [o 87 .lss 86 85] (.seq (.cond 87 .skip (.exit 0)) (.seq (.block 1
 (s [m 88 86,i 89 1 84 86,l 90 89,m 17 88,m 18 90] (.seq (s [m 91 18,m 92 16,o 93 .neq 91 92] (.cond 93 (s [k 12 (-1)] .ret) .skip)) (s [m 96 16,m 97 2,m 98 17,q 99 .add 98 1,f 100 2 14,m 102 17,h 94 2 6,h 95 1 7,l 101 100,i 103 1 101 102,
 l 104 103,x 105 (.call true 250 [.t 94,.t 95,.t 96,.t 97,.t 99,.t 104]),m 16 105] (s [m 106 16,q 107 .lss 106 0] (.cond 107 (s [k 12 (-1)] .ret) .skip)))))) (.reg [q 108 .add 86 1,m 86 108]))))))) (s [m 109 16,m 12 109] .ret)))))))),
 [.t 12]⟩
theorem i250 : IsFun Tryz.prog 250 g250 := ⟨Tryz.f250, _, [], Tryz.func250, by kernel_rfl, rfl, by kernel_rfl, by kernel_rfl, rfl⟩
def g251 : GFun := ⟨⟨19,[]⟩,(s [k 4 0] (.seq (s [m 6 0,n 7 6,k 8 0] (.block 0 (.loop (s [o 9 .lss 8 7] (.seq (.cond 9 .skip (.exit 0)) (.seq (.block 1 (s [m 10 8,m 5 10] (s [m 11 1,m 12 0,m 13 5,i 14 6 12 13,h 15 6 14,x 16 (.callv false
 (.t 11) [.t 15])] (.cond 16 (s [m 17 5,m 4 17] .ret) .skip)))) (.reg [q 18 .add 8 1,m 8 18]))))))) (s [k 4 (-1)] .ret))),[.t 4]⟩
theorem i251 : IsFun Tryz.prog 251 g251 := ⟨Tryz.f251, _, [], Tryz.func251, by kernel_rfl, rfl, by kernel_rfl, by kernel_rfl, rfl⟩
def g252 : GFun := ⟨⟨8,[2]⟩,(s [a 2 6 0,b 3 false] (s [f 4 0 2,l 5 4,l 6 1,o 7 .eql 5 6,m 3 7] .ret)),[.t 3]⟩
theorem i252 : IsFun Tryz.prog 252 g252 := ⟨Tryz.f252, _, [], Tryz.func252, by kernel_rfl, rfl, by kernel_rfl, by kernel_rfl, rfl⟩
def g253 : GFun := ⟨⟨22,[2,5]⟩,(s [x 1 (.box 7 (.t 0)),x 2 (.allocr 7)] (s [x 3 (.mov (.k (.val (.slice none 0 0))))] (.seq (s [f 6 6 1,l 7 6,n 8 7,k 9 0] (.block 0 (.loop (s [o 10 .lss 9 8] (.seq (.cond 10 .skip (.exit 0)) (.seq
 (.block 1 (s [i 11 7 7 9,h 12 7 11,x 5 (.allocr 7),x 5 (.stro 7 5 (.t 12))] (.reg [m 13 3,h 14 7 5,c 15 253 [.t 14],x 16 (.bslice 7 [] 1 true [(0,(.t 15))]),x 17 (.append 7 88 (.t 13) (.t 16)),m 3 17]))) (.reg [q 18 .add 9 1,
 m 9 18]))))))) (s [m 19 3,f 20 6 1,(.mk none none (.store 1 (.t 20) (.t 19)))] (s [h 21 7 1,x 2 (.stro 7 2 (.t 21))] .ret))))),[(.c 2 7 true)]⟩
theorem i253 : IsFun Tryz.prog 253 g253 := ⟨Tryz.f253, _, [], Tryz.func253, by kernel_rfl, rfl, by kernel_rfl, by kernel_rfl, rfl⟩
def g259 : GFun := ⟨⟨15,[2,3]⟩,(s [a 2 2 0,a 3 2 1,b 4 false] (.seq (s [f 5 0 2,l 6 5,f 7 0 3,l 8 7,o 9 .neq 6 8] (.cond 9 (s [b 4 false] .ret) .skip)) (.seq (s [f 10 1 2,l 11 10,f 12 1 3,l 13 12,o 14 .neq 11 13] (.cond 14
 (s [b 4 false] .ret) .skip)) (s [b 4 true] .ret)))),[.t 4]⟩
theorem i259 : IsFun Tryz.prog 259 g259 := ⟨Tryz.f259, _, [], Tryz.func259, by kernel_rfl, rfl, by kernel_rfl, by kernel_rfl, rfl⟩
def g260 : GFun := ⟨⟨41,[2,3]⟩,(s [a 2 7 0,a 3 7 1,b 4 false] (.seq (s [f 5 0 2,l 6 5,f 7 0 3,l 8 7,o 9 .neq 6 8] (.cond 9 (s [b 4 false] .ret) .skip)) (.seq (s [f 10 1 2,l 11 10,f 12 1 3,l 13 12,o 14 .neq 11 13] (.cond 14
 (s [b 4 false] .ret) .skip)) (.seq (s [f 15 2 2,l 16 15,f 17 2 3,l 18 17,o 19 .neq 16 18] (.cond 19 (s [b 4 false] .ret) .skip)) (.seq (s [f 20 3 2,l 21 20,f 22 3 3,l 23 22,o 24 .neq 21 23] (.cond 24 (s [b 4 false] .ret) .skip)) (.seq
 (s [f 25 4 2,l 26 25,f 27 4 3,l 28 27,o 29 .neq 26 28] (.cond 29 (s [b 4 false] .ret) .skip)) (.seq (s [f 30 5 2,l 31 30,f 32 5 3,l 33 32,o 34 .neq 31 33] (.cond 34 (s [b 4 false] .ret) .skip)) (.seq (s [f 35 6 2,l 36 35,f 37 6 3,l 38 37,
 c 39 294 [.t 36,.t 38],w 40 39] (.cond 40 (s [b 4 false] .ret) .skip)) (s [b 4 true] .ret))))))))),[.t 4]⟩
theorem i260 : IsFun Tryz.prog 260 g260 := ⟨Tryz.f260, _, [], Tryz.func260, by kernel_rfl, rfl, by kernel_rfl, by kernel_rfl, rfl⟩
def g261 : GFun := ⟨⟨45,[]⟩,(s [b 2 false] (.seq (s [k 3 0] (.block 0 (.loop (.seq (s [m 6 3,m 7 0,x 8 (.slen (.t 7)),o 9 .lss 6 8] (.cond 9 .skip (.exit 0))) (.seq (.block 1 (s [m 12 0,m 13 3,x 14 (.idx (.t 12) (.t 13)),x 15 (.bin .geq
 (.t 14) (.k (.val (.int .u8 97)))),m 16 15,y 17 16 (.mov (.t 0)),y 18 16 (.mov (.t 3)),y 19 16 (.idx (.t 17) (.t 18)),y 20 16 (.bin .leq (.t 19) (.k (.val (.int .u8 122)))),x 21 (.pick (.t 16) (.t 20) (.k (.val (.bool false)))),m 4 21]
 (s [m 22 0,m 23 3,x 24 (.idx (.t 22) (.t 23)),x 25 (.bin .geq (.t 24) (.k (.val (.int .u8 48)))),m 26 25,y 27 26 (.mov (.t 0)),y 28 26 (.mov (.t 3)),y 29 26 (.idx (.t 27) (.t 28)),y 30 26 (.bin .leq (.t 29) (.k (.val (.int .u8 57)))),
 x 31 (.pick (.t 26) (.t 30) (.k (.val (.bool false)))),m 5 31] (s [m 32 4,w 33 32,m 34 33,y 35 34 (.mov (.t 3)),y 36 34 (.bin .eql (.t 35) (.k (.val (.int .i64 0)))),y 37 34 (.mov (.t 36)),z 38 37 (.mov (.t 5)),z 39 37 (.not (.t 38)),
 y 40 34 (.pick (.t 37) (.k (.val (.bool true))) (.t 39)),x 41 (.pick (.t 34) (.t 40) (.k (.val (.bool false))))] (.cond 41 (s [b 2 false] .ret) .skip))))) (.reg [m 10 3,q 11 .add 10 1,m 3 11])))))) (s [m 42 0,x 43 (.slen (.t 42)),
 q 44 .gtr 43 0,m 2 44] .ret))),[.t 2]⟩
theorem i261 : IsFun Tryz.prog 261 g261 := ⟨Tryz.f261, _, [], Tryz.func261, by kernel_rfl, rfl, by kernel_rfl, by kernel_rfl, rfl⟩
def g262 : GFun := ⟨⟨6,[]⟩,(s [b 2 false] (s [c 3 295 [],m 4 0,c 5 148 [.t 3,.t 4],m 2 5] .ret)),[.t 2]⟩
theorem i262 : IsFun Tryz.prog 262 g262 := ⟨Tryz.f262, _, [], Tryz.func262, by kernel_rfl, rfl, by kernel_rfl, by kernel_rfl, rfl⟩
def g263 : GFun := ⟨⟨25,[2]⟩,(s [a 2 7 0,b 4 false] (.seq (s [k 5 0] (.block 0 (.loop (.seq (s [m 6 5,f 7 6 2,l 8 7,n 9 8,o 10 .lss 6 9] (.cond 10 .skip (.exit 0))) (.seq (.block 1 (s [f 13 6 2,l 14 13,m 15 5,i 16 7 14 15,h 17 7 16,m 18 1,
 c 19 263 [.t 17,.t 18],w 20 19] (.cond 20 (s [b 4 false] .ret) .skip))) (.reg [m 11 5,q 12 .add 11 1,m 5 12])))))) (s [f 21 2 2,l 22 21,m 23 1,o 24 .leq 22 23,m 4 24] .ret))),[.t 4]⟩
theorem i263 : IsFun Tryz.prog 263 g263 := ⟨Tryz.f263, _, [], Tryz.func263, by kernel_rfl, rfl, by kernel_rfl, by kernel_rfl, rfl⟩
def g264 : GFun := ⟨⟨49,[3,4,5,7,9]⟩,(s [a 3 2 0,a 4 6 1,a 5 2 2,b 6 false] (.seq (s [f 11 0 5,l 12 11,f 13 2 4,l 14 13,n 15 14,c 16 85 [.t 12,(.k (.val (.int .i64 0))),.t 15],w 17 16] (.cond 17 (s [b 6 false] .ret) .skip)) (s [f 21 0 5,
 x 7 (.allocr 2),h 19 2 3,h 20 6 4,l 22 21,x 23 (.call true 90 [.t 20,.t 22]),x 24 (.call true 91 [.t 19,.t 23]),m 18 24,x 25 (.ext (.t 18) 0),x 26 (.ext (.t 18) 1),x 7 (.stro 2 7 (.t 25)),m 8 26] (s [h 28 2 7,f 29 1 5,l 30 29,
 c 31 92 [.t 28,.t 30],m 27 31,x 32 (.ext (.t 27) 0),x 33 (.ext (.t 27) 1),x 9 (.allocr 4),x 9 (.stro 4 9 (.t 32)),m 10 33] (.seq (s [f 34 0 5,l 35 34,q 36 .eql 35 0] (.cond 36 (s [m 37 10,m 38 37,y 39 38 (.faddr 2 1 false (.t 9)),y 40 38
 (.load 1 false (.t 39)),y 41 38 (.bin .eql (.t 40) (.k (.val (.int .i64 1)))),x 42 (.pick (.t 38) (.t 41) (.k (.val (.bool false)))),m 6 42] .ret) .skip)) (s [m 43 10,m 44 43,y 45 44 (.faddr 2 1 false (.t 9)),y 46 44 (.load 1 false
 (.t 45)),y 47 44 (.bin .eql (.t 46) (.k (.val (.int .i64 2)))),x 48 (.pick (.t 44) (.t 47) (.k (.val (.bool false)))),m 6 48] .ret)))))),[.t 6]⟩
theorem i264 : IsFun Tryz.prog 264 g264 := ⟨Tryz.f264, _, [], Tryz.func264, by kernel_rfl, rfl, by kernel_rfl, by kernel_rfl, rfl⟩
def g265 : GFun := ⟨⟨5,[]⟩,(s [b 2 false] (s [m 3 0,c 4 73 [.t 3,(.k (.val (.int .i64 1))),(.k (.val (.int .i64 4)))],m 2 4] .ret)),[.t 2]⟩
theorem i265 : IsFun Tryz.prog 265 g265 := ⟨Tryz.f265, _, [], Tryz.func265, by kernel_rfl, rfl, by kernel_rfl, by kernel_rfl, rfl⟩
def g266 : GFun := ⟨⟨9,[]⟩,(s [b 2 false] (s [m 3 0,x 4 (.bin .geq (.t 3) (.k (.val (.int .u8 97)))),m 5 4,y 6 5 (.mov (.t 0)),y 7 5 (.bin .leq (.t 6) (.k (.val (.int .u8 122)))),x 8 (.pick (.t 5) (.t 7) (.k (.val (.bool false)))),
 m 2 8] .ret)),[.t 2]⟩
theorem i266 : IsFun Tryz.prog 266 g266 := ⟨Tryz.f266, _, [], Tryz.func266, by kernel_rfl, rfl, by kernel_rfl, by kernel_rfl, rfl⟩
def g267 : GFun := ⟨⟨9,[]⟩,(s [b 2 false] (s [m 3 0,x 4 (.bin .geq (.t 3) (.k (.val (.int .u8 48)))),m 5 4,y 6 5 (.mov (.t 0)),y 7 5 (.bin .leq (.t 6) (.k (.val (.int .u8 57)))),x 8 (.pick (.t 5) (.t 7) (.k (.val (.bool false)))),
 m 2 8] .ret)),[.t 2]⟩
theorem i267 : IsFun Tryz.prog 267 g267 := ⟨Tryz.f267, _, [], Tryz.func267, by kernel_rfl, rfl, by kernel_rfl, by kernel_rfl, rfl⟩
def g268 : GFun := ⟨⟨18,[]⟩,(s [b 2 false] (.seq (s [m 3 0] (.block 0 (.seq (s [x 5 (.bin .eql (.t 3) (.k (.val (.string (ByteArray.mk #[105,102]))))),m 4 5] (.cond 4 .skip (s [x 6 (.bin .eql (.t 3) (.k (.val (.string (ByteArray.mk #[116,
 104,101,110]))))),m 4 6] (.cond 4 .skip (s [x 7 (.bin .eql (.t 3) (.k (.val (.string (ByteArray.mk #[101,108,115,101]))))),m 4 7] (.cond 4 .skip (s [x 8 (.bin .eql (.t 3) (.k (.val (.string (ByteArray.mk #[116,114,117,101]))))),m 4 8]
 (.cond 4 .skip (s [x 9 (.bin .eql (.t 3) (.k (.val (.string (ByteArray.mk #[102,97,108,115,101]))))),m 4 9] (.cond 4 .skip (s [x 10 (.bin .eql (.t 3) (.k (.val (.string (ByteArray.mk #[108,105,116]))))),m 4 10] (.cond 4 .skip (s [x 11
 (.bin .eql (.t 3) (.k (.val (.string (ByteArray.mk #[110,111,110,101]))))),m 4 11] (.cond 4 .skip (s [x 12 (.bin .eql (.t 3) (.k (.val (.string (ByteArray.mk #[115,101,108,102]))))),m 4 12] (.cond 4 .skip (s [x 13 (.bin .eql (.t 3) (.k
 (.val (.string (ByteArray.mk #[111,102]))))),m 4 13] (.cond 4 .skip (s [x 14 (.bin .eql (.t 3) (.k (.val (.string (ByteArray.mk #[109,97,120]))))),m 4 14] (.cond 4 .skip (s [x 15 (.bin .eql (.t 3) (.k (.val (.string (ByteArray.mk #[109,
 105,110]))))),m 4 15] (.cond 4 .skip (s [x 16 (.bin .eql (.t 3) (.k (.val (.string (ByteArray.mk #[119,105,116,104]))))),m 4 16] (.cond 4 .skip (.reg [x 17 (.bin .eql (.t 3) (.k (.val (.string (ByteArray.mk #[104,97,115]))))),
 m 4 17]))))))))))))))))))))))))) (.cond 4 (s [b 2 true] .ret) .skip)))) (s [b 2 false] .ret))),[.t 2]⟩
theorem i268 : IsFun Tryz.prog 268 g268 := ⟨Tryz.f268, _, [], Tryz.func268, by kernel_rfl, rfl, by kernel_rfl, by kernel_rfl, rfl⟩
def g269 : GFun := ⟨⟨8,[2]⟩,(s [a 2 7 0,b 3 false] (s [f 4 2 2,l 5 4,l 6 1,o 7 .leq 5 6,m 3 7] .ret)),[.t 3]⟩
theorem i269 : IsFun Tryz.prog 269 g269 := ⟨Tryz.f269, _, [], Tryz.func269, by kernel_rfl, rfl, by kernel_rfl, by kernel_rfl, rfl⟩
def g270 : GFun := ⟨⟨24,[]⟩,(s [k 4 0] (.seq (s [m 5 1] (.block 0 (s [q 7 .eql 5 1,m 6 7] (.cond 6 (s [m 8 0,c 9 272 [.t 8],m 4 9] .ret) (s [q 11 .eql 5 2,m 10 11] (.cond 10 (s [m 12 0,q 13 .and 12 4095,m 4 13] .ret) (s [q 15 .eql 5 3,
 m 14 15] (.cond 14 (s [m 16 0,q 17 .neq 16 0,c 18 274 [.t 17],m 4 18] .ret) (s [q 20 .eql 5 4,m 19 20] (.cond 19 (s [m 21 0,c 22 85 [.t 21,(.k (.val (.int .i64 0))),(.k (.val (.int .i64 999)))]] (.cond 22 (s [m 23 0,
 m 4 23] .ret) .skip)) .skip)))))))))) (s [k 4 0] .ret))),[.t 4]⟩
theorem i270 : IsFun Tryz.prog 270 g270 := ⟨Tryz.f270, _, [], Tryz.func270, by kernel_rfl, rfl, by kernel_rfl, by kernel_rfl, rfl⟩
def g271 : GFun := ⟨⟨61,[1]⟩,(s [a 1 7 0,b 2 false] (.seq (s [f 3 0 1,l 4 3,c 5 85 [.t 4,(.k (.val (.int .i64 1))),(.k (.val (.int .i64 8)))],w 6 5,m 7 6,z 8 7 (.load 7 true (.t 1)),z 9 7 (.call false 296 [.t 8]),z 10 7 (.not (.t 9)),x 11
 (.pick (.t 7) (.k (.val (.bool true))) (.t 10))] (.cond 11 (s [b 2 false] .ret) .skip)) (.seq (s [f 12 0 1,l 13 12] (.block 0 (s [q 15 .eql 13 1,m 14 15] (.cond 14 (s [f 16 3 1,l 17 16,c 18 85 [.t 17,(.k (.val (.int .i64 1))),(.k (.val
 (.int .i64 3)))],m 19 18,y 20 19 (.faddr 1 1 false (.t 1)),y 21 19 (.load 1 false (.t 20)),y 22 19 (.faddr 3 1 false (.t 1)),y 23 19 (.load 1 false (.t 22)),y 24 19 (.call false 230 [.t 21,.t 23]),x 25 (.pick (.t 19) (.t 24) (.k (.val
 (.bool false)))),m 26 25,y 27 26 (.faddr 1 1 false (.t 1)),y 28 26 (.load 1 false (.t 27)),y 29 26 (.bin .geq (.t 28) (.k (.val (.int .i64 0)))),x 30 (.pick (.t 26) (.t 29) (.k (.val (.bool false)))),m 2 30] .ret) (s [q 32 .eql 13 3,
 m 31 32] (.cond 31 (s [f 33 2 1,l 34 33,c 35 85 [.t 34,(.k (.val (.int .i64 0))),(.k (.val (.int .i64 3)))],m 36 35,y 37 36 (.faddr 5 1 false (.t 1)),y 38 36 (.load 1 false (.t 37)),y 39 36 (.call false 214 [.t 38]),x 40 (.pick (.t 36)
 (.t 39) (.k (.val (.bool false)))),m 2 40] .ret) (s [q 42 .eql 13 6,m 41 42] (.cond 41 (s [f 43 2 1,l 44 43,c 45 85 [.t 44,(.k (.val (.int .i64 0))),(.k (.val (.int .i64 3)))],m 2 45] .ret) (s [q 47 .eql 13 4,m 46 47] (.cond 46
 (s [f 48 1 1,l 49 48,c 50 85 [.t 49,(.k (.val (.int .i64 1))),(.k (.val (.int .i64 12)))],m 2 50] .ret) (s [q 52 .eql 13 8,m 51 52] (.cond 51 (s [f 53 4 1,l 54 53,c 55 214 [.t 54],m 56 55,y 57 56 (.faddr 5 1 false (.t 1)),y 58 56
 (.load 1 false (.t 57)),y 59 56 (.call false 214 [.t 58]),x 60 (.pick (.t 56) (.t 59) (.k (.val (.bool false)))),m 2 60] .ret) .skip)))))))))))) (s [b 2 true] .ret)))),[.t 2]⟩
theorem i271 : IsFun Tryz.prog 271 g271 := ⟨Tryz.f271, _, [], Tryz.func271, by kernel_rfl, rfl, by kernel_rfl, by kernel_rfl, rfl⟩
def g272 : GFun := ⟨⟨6,[]⟩,(s [k 2 0] (s [m 3 0,c 4 273 [(.k (.val (.int .i64 1000000))),.t 3],c 5 66 [(.k (.val (.int .i64 (-1000000)))),.t 4],m 2 5] .ret)),[.t 2]⟩
theorem i272 : IsFun Tryz.prog 272 g272 := ⟨Tryz.f272, _, [], Tryz.func272, by kernel_rfl, rfl, by kernel_rfl, by kernel_rfl, rfl⟩
def g273 : GFun := ⟨⟨10,[]⟩,(s [k 4 0] (.seq (s [m 5 0,m 6 1,o 7 .lss 5 6] (.cond 7 (s [m 8 0,m 4 8] .ret) .skip)) (s [m 9 1,m 4 9] .ret))),[.t 4]⟩
theorem i273 : IsFun Tryz.prog 273 g273 := ⟨Tryz.f273, _, [], Tryz.func273, by kernel_rfl, rfl, by kernel_rfl, by kernel_rfl, rfl⟩
def g274 : GFun := ⟨⟨4,[]⟩,(s [k 2 0] (.seq (s [m 3 0] (.cond 3 (s [k 2 1] .ret) .skip)) (s [k 2 0] .ret))),[.t 2]⟩
theorem i274 : IsFun Tryz.prog 274 g274 := ⟨Tryz.f274, _, [], Tryz.func274, by kernel_rfl, rfl, by kernel_rfl, by kernel_rfl, rfl⟩
def g275 : GFun := ⟨⟨19,[1,5]⟩,(s [a 1 7 0,k 2 0] (s [k 3 1] (.seq (s [f 6 6 1,l 7 6,n 8 7,k 9 0] (.block 0 (.loop (s [o 10 .lss 9 8] (.seq (.cond 10 .skip (.exit 0)) (.seq (.block 1 (s [i 11 7 7 9,h 12 7 11,x 5 (.allocr 7),x 5 (.stro 7 5
 (.t 12))] (.reg [m 13 3,h 14 7 5,c 15 275 [.t 14],o 16 .add 13 15,m 3 16]))) (.reg [q 17 .add 9 1,m 9 17]))))))) (s [m 18 3,m 2 18] .ret)))),[.t 2]⟩
theorem i275 : IsFun Tryz.prog 275 g275 := ⟨Tryz.f275, _, [], Tryz.func275, by kernel_rfl, rfl, by kernel_rfl, by kernel_rfl, rfl⟩
def g276 : GFun := ⟨⟨20,[1,5]⟩,(s [a 1 7 0,k 2 0] (s [k 3 0] (.seq (s [f 6 6 1,l 7 6,n 8 7,k 9 0] (.block 0 (.loop (s [o 10 .lss 9 8] (.seq (.cond 10 .skip (.exit 0)) (.seq (.block 1 (s [i 11 7 7 9,h 12 7 11,x 5 (.allocr 7),x 5 (.stro 7 5
 (.t 12))] (.reg [m 13 3,h 14 7 5,c 15 276 [.t 14],x 16 (.mx (.t 13) (.t 15)),m 3 16]))) (.reg [q 17 .add 9 1,m 9 17]))))))) (s [m 18 3,q 19 .add 18 1,m 2 19] .ret)))),[.t 2]⟩
theorem i276 : IsFun Tryz.prog 276 g276 := ⟨Tryz.f276, _, [], Tryz.func276, by kernel_rfl, rfl, by kernel_rfl, by kernel_rfl, rfl⟩
def g277 : GFun := ⟨⟨100,[1]⟩,(s [a 1 7 0,b 2 false] (s [f 5 0 1,l 6 5,f 7 6 1,l 8 7,x 9 (.build [(.val (.int .i64 0)),(.val (.int .i64 0)),(.val (.int .i64 0)),(.val (.int .i64 0)),(.val (.string (ByteArray.mk #[]))),(.val (.string
 (ByteArray.mk #[]))),(.val (.slice none 0 0))] [(0,(1,(.t 6))),(6,(1,(.t 8)))]),x 3 (.alloc 7 (.agg [(.val (.int .i64 0)),(.val (.int .i64 0)),(.val (.int .i64 0)),(.val (.int .i64 0)),(.val (.string (ByteArray.mk #[]))),(.val (.string
 (ByteArray.mk #[]))),(.val (.slice none 0 0))])),(.mk none none (.store 7 (.t 3) (.t 9)))] (s [k 4 0] (.seq (s [f 10 0 1,l 11 10] (.block 0 (s [q 13 .eql 11 1,m 12 13] (.cond 12 (s [f 14 1 1,x 15 (.loadr 1 false (.t 14)),f 16 3 1,x 17
 (.loadr 1 false (.t 16)),f 18 1 3,(.mk none none (.store 1 (.t 18) (.t 15))),f 19 3 3,(.mk none none (.store 1 (.t 19) (.t 17)))] (s [f 20 3 1,l 21 20,q 22 .eql 21 4,m 23 22,z 24 23 (.faddr 1 1 false (.t 1)),z 25 23 (.load 1 false
 (.t 24)),z 26 23 (.faddr 3 1 false (.t 1)),z 27 23 (.load 1 false (.t 26)),z 28 23 (.call false 297 [.t 25,.t 27]),z 29 23 (.not (.t 28)),x 30 (.pick (.t 23) (.k (.val (.bool true))) (.t 29)),m 31 30,z 32 31 (.faddr 1 1 false (.t 1)),
 z 33 31 (.load 1 false (.t 32)),z 34 31 (.bin .lss (.t 33) (.k (.val (.int .i64 0)))),x 35 (.pick (.t 31) (.k (.val (.bool true))) (.t 34))] (.cond 35 (s [b 2 false] .ret) .skip))) (s [q 37 .eql 11 3,m 36 37] (.cond 36 (s [f 38 2 1,x 39
 (.loadr 1 false (.t 38)),f 40 5 1,x 41 (.loadr 1 false (.t 40)),f 42 2 3,(.mk none none (.store 1 (.t 42) (.t 39))),f 43 5 3,(.mk none none (.store 1 (.t 43) (.t 41)))] (s [f 44 5 1,l 45 44,c 46 224 [.t 45],w 47 46] (.cond 47
 (s [b 2 false] .ret) .skip))) (s [q 49 .eql 11 4,m 48 49] (.cond 48 (s [f 50 1 1,l 51 50,f 52 1 3,(.mk none none (.store 1 (.t 52) (.t 51))),k 4 2] (s [f 53 1 1,l 54 53,c 55 73 [.t 54,(.k (.val (.int .i64 1))),(.k (.val (.int .i64 12)))],
 w 56 55] (.cond 56 (s [b 2 false] .ret) .skip))) (s [q 58 .eql 11 5,m 57 58] (.cond 57 (.reg [k 4 3]) (s [q 60 .eql 11 6,m 59 60] (.cond 59 (.reg [f 61 2 1,l 62 61,f 63 2 3,(.mk none none (.store 1 (.t 63) (.t 62)))]) (s [q 65 .eql 11 8,
 m 64 65] (.cond 64 (s [f 66 4 1,x 67 (.loadr 1 false (.t 66)),f 68 5 1,x 69 (.loadr 1 false (.t 68)),f 70 4 3,(.mk none none (.store 1 (.t 70) (.t 67))),f 71 5 3,(.mk none none (.store 1 (.t 71) (.t 69))),k 4 1] (s [f 72 4 1,l 73 72,
 c 74 224 [.t 73],w 75 74,m 76 75,z 77 76 (.faddr 5 1 false (.t 1)),z 78 76 (.load 1 false (.t 77)),z 79 76 (.call false 224 [.t 78]),z 80 76 (.not (.t 79)),x 81 (.pick (.t 76) (.k (.val (.bool true))) (.t 80))] (.cond 81
 (s [b 2 false] .ret) .skip))) (.seq (s [q 83 .eql 11 2,m 82 83] (.cond 82 .skip (.reg [q 84 .eql 11 7,m 82 84]))) (.cond 82 .skip (s [b 2 false] .ret))))))))))))))))) (s [f 85 6 1,l 86 85,n 87 86,m 88 4,o 89 .eql 87 88,m 90 89,y 91 90
 (.faddr 2 1 false (.t 1)),y 92 90 (.load 1 false (.t 91)),y 93 90 (.call false 73 [.t 92,(.k (.val (.int .i64 0))),(.k (.val (.int .i64 3)))]),x 94 (.pick (.t 90) (.t 93) (.k (.val (.bool false)))),m 95 94,y 96 95 (.load 7 true (.t 1)),
 y 97 95 (.load 7 true (.t 3)),y 98 95 (.call false 298 [.t 96,.t 97]),x 99 (.pick (.t 95) (.t 98) (.k (.val (.bool false)))),m 2 99] .ret))))),[.t 2]⟩
theorem i277 : IsFun Tryz.prog 277 g277 := ⟨Tryz.f277, _, [], Tryz.func277, by kernel_rfl, rfl, by kernel_rfl, by kernel_rfl, rfl⟩
def g278 : GFun := ⟨⟨101,[]⟩,(s [k 6 0] (s [m 11 0,c 12 175 [.t 11],m 10 12,x 13 (.ext (.t 10) 0),x 14 (.ext (.t 10) 1),x 15 (.ext (.t 10) 2),m 7 13,m 8 14,m 9 15] (s [m 16 1,m 17 7,c 18 299 [.t 16,.t 17],m 19 2,m 20 8,c 21 299 [.t 19,
 .t 20],m 1 18,m 2 21] (.seq (s [m 22 0] (.block 0 (s [q 24 .eql 22 1,m 23 24] (.cond 23 (s [m 25 1,m 26 2,o 27 .add 25 26,c 28 300 [.t 27],m 6 28] .ret) (s [q 30 .eql 22 2,m 29 30] (.cond 29 (s [m 31 1,m 32 2,o 33 .sub 31 32,
 c 34 300 [.t 33],m 6 34] .ret) (s [q 36 .eql 22 3,m 35 36] (.cond 35 (s [m 37 1,m 38 2,o 39 .mul 37 38,c 40 300 [.t 39],m 6 40] .ret) (s [q 42 .eql 22 4,m 41 42] (.cond 41 (s [m 43 1,m 44 2,x 45 (.mx (.t 43) (.t 44)),m 6 45] .ret)
 (s [q 47 .eql 22 5,m 46 47] (.cond 46 (s [m 48 1,m 49 2,x 50 (.mn (.t 48) (.t 49)),m 6 50] .ret) (s [q 52 .eql 22 6,m 51 52] (.cond 51 (s [m 53 1,m 54 2,o 55 .or 53 54,m 6 55] .ret) (s [q 57 .eql 22 7,m 56 57] (.cond 56 (s [m 58 1,m 59 2,
 o 60 .and 58 59,m 6 60] .ret) (s [q 62 .eql 22 8,m 61 62] (.cond 61 (s [m 63 1,m 64 2,o 65 .andNot 63 64,m 6 65] .ret) (s [q 67 .eql 22 9,m 66 67] (.cond 66 (s [m 68 1,m 69 2,o 70 .lss 68 69,c 71 301 [.t 70],m 6 71] .ret)
 (s [q 73 .eql 22 10,m 72 73] (.cond 72 (s [m 74 1,m 75 2,o 76 .eql 74 75,c 77 301 [.t 76],m 6 77] .ret) (s [q 79 .eql 22 11,m 78 79] (.cond 78 (s [m 80 2,c 81 73 [.t 80,(.k (.val (.int .i64 0))),(.k (.val (.int .i64 11)))],m 82 81,
 y 83 82 (.mov (.t 1)),y 84 82 (.mov (.t 2)),y 85 82 (.conv .u64 (.t 84)),y 86 82 (.bin .shr (.t 83) (.t 85)),y 87 82 (.bin .and (.t 86) (.k (.val (.int .i64 1)))),y 88 82 (.bin .eql (.t 87) (.k (.val (.int .i64 1)))),x 89 (.pick (.t 82)
 (.t 88) (.k (.val (.bool false)))),c 90 301 [.t 89],m 6 90] .ret) (s [q 92 .eql 22 12,m 91 92] (.cond 91 (.seq (s [m 93 2,c 94 73 [.t 93,(.k (.val (.int .i64 0))),(.k (.val (.int .i64 11)))]] (.cond 94 (s [m 95 1,m 96 2,x 97 (.conv .u64
 (.t 96)),x 98 (.bin .shl (.k (.val (.int .i64 1))) (.t 97)),o 99 .or 95 98,m 6 99] .ret) .skip)) (s [m 100 1,m 6 100] .ret)) .skip)))))))))))))))))))))))))) (s [k 6 0] .ret))))),[.t 6]⟩
theorem i278 : IsFun Tryz.prog 278 g278 := ⟨Tryz.f278, _, [], Tryz.func278, by kernel_rfl, rfl, by kernel_rfl, by kernel_rfl, rfl⟩
def g279 : GFun := ⟨⟨27,[]⟩,(s [k 4 0] (s [m 6 1,m 7 0,n 8 7,o 9 .sub 6 8,m 1 9] (.seq (s [m 10 1,q 11 .lss 10 0] (.cond 11 (s [k 4 (-1)] .ret) .skip)) (.seq (s [k 5 0] (.block 0 (.loop (.seq (s [m 12 5,m 13 0,n 14 13,o 15 .lss 12 14]
 (.cond 15 .skip (.exit 0))) (.seq (.block 1 (s [m 18 0,m 19 5,i 20 7 18 19,h 21 7 20,m 22 1,c 23 244 [.t 21,.t 22],m 1 23] (s [m 24 1,q 25 .lss 24 0] (.cond 25 (s [k 4 (-1)] .ret) .skip)))) (.reg [m 16 5,q 17 .add 16 1,m 5 17]))))))
 (s [m 26 1,m 4 26] .ret))))),[.t 4]⟩
theorem i279 : IsFun Tryz.prog 279 g279 := ⟨Tryz.f279, _, [], Tryz.func279, by kernel_rfl, rfl, by kernel_rfl, by kernel_rfl, rfl⟩
def g280 : GFun := ⟨⟨24,[2,3]⟩,(s [a 2 2 0,a 3 2 1,b 4 false] (s [f 5 0 2,l 6 5,f 7 0 3,l 8 7,o 9 .lss 6 8,m 10 9,z 11 10 (.faddr 0 1 false (.t 2)),z 12 10 (.load 1 false (.t 11)),z 13 10 (.faddr 0 1 false (.t 3)),z 14 10 (.load 1 false
 (.t 13)),z 15 10 (.bin .eql (.t 12) (.t 14)),z 16 10 (.mov (.t 15)),y 17 16 (.faddr 1 1 false (.t 2)),y 18 16 (.load 1 false (.t 17)),y 19 16 (.faddr 1 1 false (.t 3)),y 20 16 (.load 1 false (.t 19)),y 21 16 (.bin .lss (.t 18) (.t 20)),
 z 22 10 (.pick (.t 16) (.t 21) (.k (.val (.bool false)))),x 23 (.pick (.t 10) (.k (.val (.bool true))) (.t 22)),m 4 23] .ret)),[.t 4]⟩
theorem i280 : IsFun Tryz.prog 280 g280 := ⟨Tryz.f280, _, [], Tryz.func280, by kernel_rfl, rfl, by kernel_rfl, by kernel_rfl, rfl⟩
def g281 : GFun := ⟨⟨23,[]⟩,(s [x 2 (.mov (.k (.val (.slice none 0 0))))] (s [m 5 0,n 6 5,x 7 (.mkslice 7 88 (.agg [(.val (.int .i64 0)),(.val (.int .i64 0)),(.val (.int .i64 0)),(.val (.int .i64 0)),(.val (.string (ByteArray.mk #[]))),
 (.val (.string (ByteArray.mk #[]))),(.val (.slice none 0 0))]) (.t 6) (.t 6)),m 3 7] (.seq (s [k 4 0] (.block 0 (.loop (.seq (s [m 8 4,m 9 0,n 10 9,o 11 .lss 8 10] (.cond 11 .skip (.exit 0))) (.seq (.block 1 (.reg [m 14 3,m 15 4,m 16 0,
 m 17 4,i 18 7 16 17,h 19 7 18,c 20 247 [.t 19],i 21 7 14 15,(.mk none none (.store 7 (.t 21) (.t 20)))])) (.reg [m 12 4,q 13 .add 12 1,m 4 13])))))) (s [m 22 3,m 2 22] .ret)))),[.t 2]⟩
theorem i281 : IsFun Tryz.prog 281 g281 := ⟨Tryz.f281, _, [], Tryz.func281, by kernel_rfl, rfl, by kernel_rfl, by kernel_rfl, rfl⟩
def g294 : GFun := ⟨⟨27,[]⟩,(s [b 4 false] (.seq (s [m 6 0,n 7 6,m 8 1,n 9 8,o 10 .neq 7 9] (.cond 10 (s [b 4 false] .ret) .skip)) (.seq (s [k 5 0] (.block 0 (.loop (.seq (s [m 11 5,m 12 0,n 13 12,o 14 .lss 11 13] (.cond 14 .skip
 (.exit 0))) (.seq (.block 1 (s [m 17 0,m 18 5,i 19 7 17 18,m 21 1,m 22 5,i 23 7 21 22,h 20 7 19,h 24 7 23,x 25 (.call true 260 [.t 20,.t 24]),w 26 25] (.cond 26 (s [b 4 false] .ret) .skip))) (.reg [m 15 5,q 16 .add 15 1,m 5 16]))))))
 (s [b 4 true] .ret)))),[.t 4]⟩
theorem i294 : IsFun Tryz.prog 294 g294 := ⟨Tryz.f294, _, [], Tryz.func294, by kernel_rfl, rfl, by kernel_rfl, by kernel_rfl, rfl⟩
def g295 : GFun := ⟨⟨2,[]⟩,(s [x 0 (.mov (.k (.val (.slice none 0 0))))] (s [x 1 (.bslice 1 [] 13 false [(0,(.k (.val (.string (ByteArray.mk #[105,102]))))),(1,(.k (.val (.string (ByteArray.mk #[116,104,101,110]))))),(2,(.k (.val (.string
 (ByteArray.mk #[101,108,115,101]))))),(3,(.k (.val (.string (ByteArray.mk #[116,114,117,101]))))),(4,(.k (.val (.string (ByteArray.mk #[102,97,108,115,101]))))),(5,(.k (.val (.string (ByteArray.mk #[108,105,116]))))),(6,(.k (.val
 (.string (ByteArray.mk #[110,111,110,101]))))),(7,(.k (.val (.string (ByteArray.mk #[115,101,108,102]))))),(8,(.k (.val (.string (ByteArray.mk #[111,102]))))),(9,(.k (.val (.string (ByteArray.mk #[109,97,120]))))),(10,(.k (.val (.string
 (ByteArray.mk #[109,105,110]))))),(11,(.k (.val (.string (ByteArray.mk #[119,105,116,104]))))),(12,(.k (.val (.string (ByteArray.mk #[104,97,115])))))]),m 0 1] .ret)),[.t 0]⟩
theorem i295 : IsFun Tryz.prog 295 g295 := ⟨Tryz.f295, _, [], Tryz.func295, by kernel_rfl, rfl, by kernel_rfl, by kernel_rfl, rfl⟩
def g296 : GFun := ⟨⟨86,[1]⟩,(s [a 1 7 0,b 2 false] (s [k 3 0] (.seq (s [f 7 0 1,l 8 7] (.block 0 (s [q 10 .eql 8 4,m 9 10] (.cond 9 (.reg [k 3 2]) (s [q 12 .eql 8 5,m 11 12] (.cond 11 (.reg [k 3 3]) (s [q 14 .eql 8 8,m 13 14] (.cond 13
 (.reg [k 3 1]) .skip)))))))) (.seq (s [f 15 6 1,l 16 15,n 17 16,m 18 3,o 19 .neq 17 18] (.cond 19 (s [b 2 false] .ret) .skip)) (s [f 20 0 1,l 21 20,q 22 .eql 21 3,m 23 22,z 24 23 (.faddr 0 1 false (.t 1)),z 25 23 (.load 1 false (.t 24)),
 z 26 23 (.bin .eql (.t 25) (.k (.val (.int .i64 6)))),x 27 (.pick (.t 23) (.k (.val (.bool true))) (.t 26)),m 4 27] (s [f 28 0 1,l 29 28,q 30 .eql 29 3,m 31 30,z 32 31 (.faddr 0 1 false (.t 1)),z 33 31 (.load 1 false (.t 32)),z 34 31
 (.bin .eql (.t 33) (.k (.val (.int .i64 8)))),x 35 (.pick (.t 31) (.k (.val (.bool true))) (.t 34)),m 5 35] (s [f 36 0 1,l 37 36,q 38 .eql 37 1,m 39 38,z 40 39 (.faddr 0 1 false (.t 1)),z 41 39 (.load 1 false (.t 40)),z 42 39 (.bin .eql
 (.t 41) (.k (.val (.int .i64 4)))),x 43 (.pick (.t 39) (.k (.val (.bool true))) (.t 42)),m 6 43] (s [m 44 4,m 45 44,z 46 45 (.faddr 2 1 false (.t 1)),z 47 45 (.load 1 false (.t 46)),z 48 45 (.bin .eql (.t 47) (.k (.val (.int .i64 0)))),
 x 49 (.pick (.t 45) (.k (.val (.bool true))) (.t 48)),m 50 49,y 51 50 (.mov (.t 5)),y 52 50 (.mov (.t 51)),z 53 52 (.faddr 5 1 false (.t 1)),z 54 52 (.load 1 false (.t 53)),z 55 52 (.bin .eql (.t 54) (.k (.val (.string
 (ByteArray.mk #[]))))),y 56 50 (.pick (.t 52) (.k (.val (.bool true))) (.t 55)),x 57 (.pick (.t 50) (.t 56) (.k (.val (.bool false)))),m 58 57,y 59 58 (.mov (.t 6)),y 60 58 (.mov (.t 59)),z 61 60 (.faddr 1 1 false (.t 1)),z 62 60
 (.load 1 false (.t 61)),z 63 60 (.bin .eql (.t 62) (.k (.val (.int .i64 0)))),y 64 58 (.pick (.t 60) (.k (.val (.bool true))) (.t 63)),x 65 (.pick (.t 58) (.t 64) (.k (.val (.bool false)))),m 66 65,y 67 66 (.faddr 0 1 false (.t 1)),
 y 68 66 (.load 1 false (.t 67)),y 69 66 (.bin .eql (.t 68) (.k (.val (.int .i64 1)))),y 70 66 (.mov (.t 69)),z 71 70 (.faddr 3 1 false (.t 1)),z 72 70 (.load 1 false (.t 71)),z 73 70 (.bin .eql (.t 72) (.k (.val (.int .i64 0)))),y 74 66
 (.pick (.t 70) (.k (.val (.bool true))) (.t 73)),x 75 (.pick (.t 66) (.t 74) (.k (.val (.bool false)))),m 76 75,y 77 76 (.faddr 0 1 false (.t 1)),y 78 76 (.load 1 false (.t 77)),y 79 76 (.bin .eql (.t 78) (.k (.val (.int .i64 8)))),
 y 80 76 (.mov (.t 79)),z 81 80 (.faddr 4 1 false (.t 1)),z 82 80 (.load 1 false (.t 81)),z 83 80 (.bin .eql (.t 82) (.k (.val (.string (ByteArray.mk #[]))))),y 84 76 (.pick (.t 80) (.k (.val (.bool true))) (.t 83)),x 85 (.pick (.t 76)
 (.t 84) (.k (.val (.bool false)))),m 2 85] .ret)))))))),[.t 2]⟩
theorem i296 : IsFun Tryz.prog 296 g296 := ⟨Tryz.f296, _, [], Tryz.func296, by kernel_rfl, rfl, by kernel_rfl, by kernel_rfl, rfl⟩
def g297 : GFun := ⟨⟨14,[]⟩,(s [b 4 false] (s [m 5 1,c 6 265 [.t 5],m 7 6,y 8 7 (.mov (.t 0)),y 9 7 (.mov (.t 1)),y 10 7 (.call false 299 [.t 8,.t 9]),y 11 7 (.mov (.t 0)),y 12 7 (.bin .eql (.t 10) (.t 11)),x 13 (.pick (.t 7) (.t 12) (.k
 (.val (.bool false)))),m 4 13] .ret)),[.t 4]⟩
theorem i297 : IsFun Tryz.prog 297 g297 := ⟨Tryz.f297, _, [], Tryz.func297, by kernel_rfl, rfl, by kernel_rfl, by kernel_rfl, rfl⟩
def g298 : GFun := ⟨⟨45,[2,3]⟩,(s [a 2 7 0,a 3 7 1,b 4 false] (s [f 5 0 2,l 6 5,f 7 0 3,l 8 7,o 9 .eql 6 8,m 10 9,y 11 10 (.faddr 1 1 false (.t 2)),y 12 10 (.load 1 false (.t 11)),y 13 10 (.faddr 1 1 false (.t 3)),y 14 10 (.load 1 false
 (.t 13)),y 15 10 (.bin .eql (.t 12) (.t 14)),x 16 (.pick (.t 10) (.t 15) (.k (.val (.bool false)))),m 17 16,y 18 17 (.faddr 2 1 false (.t 2)),y 19 17 (.load 1 false (.t 18)),y 20 17 (.faddr 2 1 false (.t 3)),y 21 17 (.load 1 false
 (.t 20)),y 22 17 (.bin .eql (.t 19) (.t 21)),x 23 (.pick (.t 17) (.t 22) (.k (.val (.bool false)))),m 24 23,y 25 24 (.faddr 3 1 false (.t 2)),y 26 24 (.load 1 false (.t 25)),y 27 24 (.faddr 3 1 false (.t 3)),y 28 24 (.load 1 false
 (.t 27)),y 29 24 (.bin .eql (.t 26) (.t 28)),x 30 (.pick (.t 24) (.t 29) (.k (.val (.bool false)))),m 31 30,y 32 31 (.faddr 4 1 false (.t 2)),y 33 31 (.load 1 false (.t 32)),y 34 31 (.faddr 4 1 false (.t 3)),y 35 31 (.load 1 false
 (.t 34)),y 36 31 (.bin .eql (.t 33) (.t 35)),x 37 (.pick (.t 31) (.t 36) (.k (.val (.bool false)))),m 38 37,y 39 38 (.faddr 5 1 false (.t 2)),y 40 38 (.load 1 false (.t 39)),y 41 38 (.faddr 5 1 false (.t 3)),y 42 38 (.load 1 false
 (.t 41)),y 43 38 (.bin .eql (.t 40) (.t 42)),x 44 (.pick (.t 38) (.t 43) (.k (.val (.bool false)))),m 4 44] .ret)),[.t 4]⟩
theorem i298 : IsFun Tryz.prog 298 g298 := ⟨Tryz.f298, _, [], Tryz.func298, by kernel_rfl, rfl, by kernel_rfl, by kernel_rfl, rfl⟩
def g299 : GFun := ⟨⟨29,[]⟩,(s [k 4 0] (.seq (.block 0 (s [m 6 1,q 7 .eql 6 1,m 5 7] (.cond 5 (s [m 8 0,c 9 300 [.t 8],m 4 9] .ret) (s [m 11 1,q 12 .eql 11 2,m 10 12] (.cond 10 (s [m 13 0,q 14 .and 13 4095,m 4 14] .ret) (s [m 16 1,
 q 17 .eql 16 3,m 15 17] (.cond 15 (s [m 18 0,q 19 .neq 18 0,c 20 301 [.t 19],m 4 20] .ret) (s [m 22 1,q 23 .eql 22 4,m 24 23,y 25 24 (.mov (.t 0)),y 26 24 (.call false 73 [.t 25,(.k (.val (.int .i64 0))),(.k (.val (.int .i64 999)))]),
 x 27 (.pick (.t 24) (.t 26) (.k (.val (.bool false)))),m 21 27] (.cond 21 (s [m 28 0,m 4 28] .ret) .skip))))))))) (s [k 4 0] .ret))),[.t 4]⟩
theorem i299 : IsFun Tryz.prog 299 g299 := ⟨Tryz.f299, _, [], Tryz.func299, by kernel_rfl, rfl, by kernel_rfl, by kernel_rfl, rfl⟩
def g300 : GFun := ⟨⟨6,[]⟩,(s [k 2 0] (s [m 3 0,x 4 (.mn (.t 3) (.k (.val (.int .i64 1000000)))),x 5 (.mx (.t 4) (.k (.val (.int .i64 (-1000000))))),m 2 5] .ret)),[.t 2]⟩
theorem i300 : IsFun Tryz.prog 300 g300 := ⟨Tryz.f300, _, [], Tryz.func300, by kernel_rfl, rfl, by kernel_rfl, by kernel_rfl, rfl⟩
def g301 : GFun := ⟨⟨4,[]⟩,(s [k 2 0] (.seq (s [m 3 0] (.cond 3 (s [k 2 1] .ret) .skip)) (s [k 2 0] .ret))),[.t 2]⟩
theorem i301 : IsFun Tryz.prog 301 g301 := ⟨Tryz.f301, _, [], Tryz.func301, by kernel_rfl, rfl, by kernel_rfl, by kernel_rfl, rfl⟩
end Go.Proofs.YtbdmpkidcpblaaaGreat
namespace Go.Proofs.YtbdmpkidcpblaaaGreat
open Go.Gh
open Nat (reduceEqDiff reduceLeDiff reduceAdd reduceLT)
open Int (reduceNe)
set_option maxRecDepth 20000
set_option linter.unusedSimpArgs false
set_option linter.unusedVariables false
theorem mxd : Tryz.prog.follows .mixedOrders = true := Checked.mixed Tryz.checked
theorem w127 (xs : List Int) (left : Int) (h0 : 0 ≤ left) (h1 : left ≤ 1048576) : Pure Tryz.prog 127 [IS xs, I left] (· = I (szv left xs.length)) := by
  refine GCalls.lenA fun hl => ?_
  have hl := hl.1.1
  simp only [List.length_map, maxL] at hl
  refine gstart mxd i127 rfl (by simp) ?_; refine X0 ?_
  (refine R0 ?_; with_reducible repeat' first | exact trivial | intro h | refine aO ?_ | refine eO ?_ | apply And.intro) <;> (congr 2; simp only [szv]; omega)
theorem w62 (x : Nod) (left : Int) (h0 : 0 ≤ left) (h1 : left ≤ 1048576) (hx : x.rule.size ≤ maxLen) : Pure Tryz.prog 62 [Nd x, I left] (· = I (szv left (wNd x))) := by
  simp only [maxLen, size_chars] at hx
  refine gstart mxd i62 rfl (by simp) ?_; refine X0 ?_
  (refine R0 ?_; with_reducible repeat' first | exact trivial | intro h | refine aO ?_ | refine eO ?_ | apply And.intro)
  · congr 2; simp only [szv, wNd]; omega
  refine callS.eq (w127 _ _ (by omega) (by omega)) ?_
  (refine R0 ?_; with_reducible repeat' first | exact trivial | intro h | refine aO ?_ | refine eO ?_ | apply And.intro) <;> (congr 2; simp only [szv, wNd] at *; omega)
theorem w29 (xs : List Nod) (left : Int) (h0 : 0 ≤ left) (h1 : left ≤ 1048576) (hx : ∀ x ∈ xs, x.rule.size ≤ maxLen) : Pure Tryz.prog 29 [NdS xs, I left] (· = I (szv left (wtS wNd xs))) :=
  szS mxd wNd i29 (fun _ => rfl) (fun _ => rfl) xs left h0 h1 fun x hm l a b => w62 x l a b (hx x hm)
theorem w8 (t : List Nod) (left : Int) (h0 : 0 ≤ left) (h1 : left ≤ 1048576) (hx : ∀ x ∈ t, x.rule.size ≤ maxLen) : Pure Tryz.prog 8 [Tr t, I left] (· = I (szv left (wtS wNd t))) := by
  refine gstart mxd i8 rfl (by simp) ?_; refine X0 ?_
  refine callS.eq (w29 _ _ (by omega) (by omega) hx) ?_
  (refine R0 ?_; with_reducible repeat' first | exact trivial | intro h | refine aO ?_ | refine eO ?_ | apply And.intro) <;> (congr 2; simp only [szv] at *; omega)
theorem o25 (xs : List Int) (hx : xs.length ≤ 1048576) (H : GH) : GCalls Tryz.prog 25 [IS xs] H (fun g H' => ∃ r, g = .own r 1 0 xs.length ∧ H' = (r, 1, xs.map I) :: H) := by
  refine gstart mxd i25 rfl (by simp) ?_; refine X0 ?_
  refine ⟨by omega, by omega, by omega, by omega, fun r hr => ?_⟩
  refine wloop mxd (ι := { i : Nat // i ≤ xs.length }) (fun i => [(0, IS xs), (3, .own r 1 0 xs.length), (4, I i.1)]) (fun i => (r, 1, (xs.take i.1 ++ List.replicate (xs.length - i.1) 0).map I) :: H) (fun i => xs.length - i.1) ⟨0, by simp⟩ (by simp [E2]) (by simp) ?_
  rintro ⟨i, hi⟩
  (refine R0 ?_; with_reducible repeat' first | exact trivial | intro h | refine aO ?_ | refine eO ?_ | apply And.intro)
  · refine ⟨by simp; omega, nx ⟨i + 1, by omega⟩ (by simp; omega) (by simp [E2]) ?_⟩
    have e := fill_set xs id 0 i (by omega)
    simp only [List.map_id, id_eq] at e
    rw [← e]
  · have : i = xs.length := by omega
    subst this
    exact ⟨r, rfl, by simp⟩
theorem w25 (xs : List Int) (hx : xs.length ≤ 1048576) : Pure Tryz.prog 25 [IS xs] (· = IS xs) := by
  refine (o25 xs hx []).fr ?_
  rintro g H' ⟨r, rfl, rfl⟩
  exact ⟨_, _, FR.freeze hget_new (.all hget_new (by simp) (by simp [view])), rfl⟩
theorem w69 (x : Nod) (hx : x.kids.length ≤ 1048576) : Pure Tryz.prog 69 [Nd x] (· = Nd x) := by
  refine gstart mxd i69 rfl (by simp) ?_; refine X0 ?_
  intro r hr
  refine callS.eq (w25 _ hx) ?_
  (refine R0 ?_; with_reducible repeat' first | exact trivial | intro h | refine aO ?_ | refine eO ?_ | apply And.intro)
theorem w34 (xs : List Nod) (hl : xs.length ≤ 1048576) (hx : ∀ x ∈ xs, x.kids.length ≤ 1048576) : Pure Tryz.prog 34 [NdS xs] (· = NdS xs) :=
  freezeS (fun _ => rfl) fun H => toSo mxd i34 (fun _ => rfl) (fun _ => rfl) (fun _ => rfl) (fun _ => rfl) xs hl (by decide) (fun x hm => w69 x (hx x hm)) H
theorem w11 (t : List Nod) (hl : t.length ≤ 1048576) (hx : ∀ x ∈ t, x.kids.length ≤ 1048576) : Pure Tryz.prog 11 [Tr t] (· = Tr t) := by
  refine gstart mxd i11 rfl (by simp) ?_; refine X0 ?_
  intro r hr
  refine callS.eq (w34 _ hl hx) ?_
  (refine R0 ?_; with_reducible repeat' first | exact trivial | intro h | refine aO ?_ | refine eO ?_ | apply And.intro)
theorem w13 (xs ys : List Int) : Pure Tryz.prog 13 [IS xs, IS ys] (· = B (decide (xs = ys))) := by
  refine GCalls.lenA fun hl => ?_
  have hl := hl.1.1
  simp only [List.length_map, maxL] at hl
  refine gstart mxd i13 rfl (by simp) ?_; refine X0 ?_
  (refine R0 ?_; with_reducible repeat' first | exact trivial | intro h | refine aO ?_ | refine eO ?_ | apply And.intro)
  rotate_left
  · simp; rintro rfl; exact h rfl
  refine wloop mxd (ι := { i : Nat // i ≤ xs.length ∧ xs.take i = ys.take i }) (fun i => [(0, IS xs), (1, IS ys), (5, I i.1)]) (fun _ => []) (fun i => xs.length - i.1) ⟨0, by simp⟩ (by simp [E2]) rfl ?_
  rintro ⟨i, hi, hp⟩
  (refine R0 ?_; with_reducible repeat' first | exact trivial | intro h | refine aO ?_ | refine eO ?_ | apply And.intro)
  · exact nx ⟨i + 1, by omega, take_eq_step hp (by omega) (by omega) h⟩ (by simp; omega) (by simp [E2]) rfl
  · simp; rintro rfl; simp at h
  · have : i = xs.length := by omega
    subst this
    rw [List.take_of_length_le (by omega), List.take_of_length_le (by omega)] at hp
    simp [hp]
theorem w79 (x y : Nod) : Pure Tryz.prog 79 [Nd x, Nd y] (· = B (decide (x = y))) := by
  refine gstart mxd i79 rfl (by simp) ?_; refine X0 ?_
  (refine R0 ?_; with_reducible repeat' first | exact trivial | intro h | refine aO ?_ | refine eO ?_ | apply And.intro)
  all_goals first
    | (simp [Nod.ext_iff, *]; done)
    | skip
  refine callS.eq (w13 _ _) ?_
  (refine R0 ?_; with_reducible repeat' first | exact trivial | intro h | refine aO ?_ | refine eO ?_ | apply And.intro) <;> simp [Nod.ext_iff, *]
theorem w40 (xs ys : List Nod) : Pure Tryz.prog 40 [NdS xs, NdS ys] (· = B (decide (xs = ys))) :=
  eqS mxd i40 (fun _ => rfl) (fun _ => rfl) xs ys fun x _ y _ => w79 x y
theorem w15 (t u : List Nod) : Pure Tryz.prog 15 [Tr t, Tr u] (· = B (decide (t = u))) := by
  refine gstart mxd i15 rfl (by simp) ?_; refine X0 ?_
  refine callS.eq (w40 _ _) ?_
  (refine R0 ?_; with_reducible repeat' first | exact trivial | intro h | refine aO ?_ | refine eO ?_ | apply And.intro) <;> simp [*]
theorem w85 (x lo hi : Int) : Pure Tryz.prog 85 [I x, I lo, I hi] (· = B (decide (lo ≤ x ∧ x ≤ hi))) := by
  refine gstart mxd i85 rfl (by simp) ?_; refine X0 ?_
  (refine R0 ?_; with_reducible repeat' first | exact trivial | intro h | refine aO ?_ | refine eO ?_ | apply And.intro) <;> simp [*]
theorem w73 (x lo hi : Int) : Pure Tryz.prog 73 [I x, I lo, I hi] (· = B (decide (lo ≤ x ∧ x ≤ hi))) := by
  refine gstart mxd i73 rfl (by simp) ?_; refine X0 ?_
  (refine R0 ?_; with_reducible repeat' first | exact trivial | intro h | refine aO ?_ | refine eO ?_ | apply And.intro) <;> simp [*]
theorem w185 (t : List Nod) (id : Int) : Pure Tryz.prog 185 [Tr t, I id] (· = I (ixOf (fun y => decide (y.id = id)) t)) := by
  refine GCalls.lenA fun hl => ?_
  obtain ⟨hlen, _⟩ := lenTr hl.1
  refine gstart mxd i185 rfl (by simp) ?_; refine X0 ?_
  refine wloop mxd (ι := { i : Nat // i ≤ t.length ∧ ∀ y ∈ t.take i, decide (y.id = id) = false }) (fun i => [(2, .rop 1 (Tr t)), (1, I id), (5, I i.1)]) (fun _ => []) (fun i => t.length - i.1) ⟨0, by simp⟩ (by simp [E2]) rfl ?_
  rintro ⟨i, hi, hn⟩
  (refine R0 ?_; with_reducible repeat' first | exact trivial | intro h | refine aO ?_ | refine eO ?_ | apply And.intro)
  · rw [ixOf_hit (by assumption) (by simp [h]) hn]
  · exact nx ⟨i + 1, by omega, take_step (by assumption) (by simp [h]) hn⟩ (by simp; omega) (by simp [E2]) rfl
  · have : i = t.length := by omega
    subst this
    rw [List.take_of_length_le (Nat.le_refl _)] at hn
    rw [ixOf_none hn]
theorem w252 (x : Nod) (id : Int) : Pure Tryz.prog 252 [Nd x, .rop 1 (I id)] (· = B (decide (x.id = id))) := by
  refine gstart mxd i252 rfl (by simp) ?_; refine X0 ?_
  try (refine R0 ?_; with_reducible repeat' first | exact trivial | intro h | refine aO ?_ | refine eO ?_ | apply And.intro)
theorem w251 (t : List Nod) (f : Nat) (cs : List GV) (p : Nod → Bool) (hp : ∀ x ∈ t, Pure Tryz.prog f (Nd x :: cs) (· = B (p x))) :
    Pure Tryz.prog 251 [NdS t, .clo f cs] (· = I (ixOf p t)) := by
  refine GCalls.lenA fun hl => ?_
  have hlen := hl.1.1
  simp only [List.length_map, maxL] at hlen
  refine gstart mxd i251 rfl (by simp) ?_; refine X0 ?_
  refine wloop mxd (ι := { i : Nat // i ≤ t.length ∧ ∀ y ∈ t.take i, p y = false }) (fun i => [(0, NdS t), (1, .clo f cs), (7, I t.length), (8, I i.1)]) (fun _ => []) (fun i => t.length - i.1) ⟨0, by simp⟩ (by simp [E2]) rfl ?_
  rintro ⟨i, hi, hn⟩
  (refine R0 ?_; with_reducible repeat' first | exact trivial | intro h | refine aO ?_ | refine eO ?_ | apply And.intro)
  · refine callS.eq (hp t[i] (List.getElem_mem _)) ?_
    (refine R0 ?_; with_reducible repeat' first | exact trivial | intro h | refine aO ?_ | refine eO ?_ | apply And.intro)
    · rw [ixOf_hit (by assumption) h hn]
    · exact nx ⟨i + 1, by omega, take_step (by assumption) h hn⟩ (by simp; omega) (by simp [E2]) rfl
  · have : i = t.length := by omega
    subst this
    rw [List.take_of_length_le (Nat.le_refl _)] at hn
    rw [ixOf_none hn]
theorem w204 (t : List Nod) (id : Int) : Pure Tryz.prog 204 [Tr t, I id] (· = I (ixOf (fun y => decide (y.id = id)) t)) := by
  refine gstart mxd i204 rfl (by simp) ?_; refine X0 ?_
  refine callS.eq (w251 t _ _ _ fun x _ => w252 x id) ?_
  (refine R0 ?_; with_reducible repeat' first | exact trivial | intro h | refine aO ?_ | refine eO ?_ | apply And.intro)
theorem w243 (x : Int × ByteArray) (left : Int) (h0 : 0 ≤ left) (h1 : left ≤ 1048576) (hx : x.2.size ≤ maxLen) : Pure Tryz.prog 243 [Occ x, I left] (· = I (szv left (wOcc x))) := by
  simp only [maxLen, size_chars] at hx
  refine gstart mxd i243 rfl (by simp) ?_; refine X0 ?_
  (refine R0 ?_; with_reducible repeat' first | exact trivial | intro h | refine aO ?_ | refine eO ?_ | apply And.intro) <;> (congr 2; simp only [szv, wOcc]; omega)
theorem w246 (x : Int × ByteArray) : Pure Tryz.prog 246 [Occ x] (· = Occ x) := by
  refine gstart mxd i246 rfl (by simp) ?_; refine X0 ?_
  (refine R0 ?_; with_reducible repeat' first | exact trivial | intro h | refine aO ?_ | refine eO ?_ | apply And.intro)
theorem w259 (x y : Int × ByteArray) : Pure Tryz.prog 259 [Occ x, Occ y] (· = B (decide (x = y))) := by
  refine gstart mxd i259 rfl (by simp) ?_; refine X0 ?_
  (refine R0 ?_; with_reducible repeat' first | exact trivial | intro h | refine aO ?_ | refine eO ?_ | apply And.intro) <;> simp [Prod.ext_iff, *]
theorem w236 (xs : List Slo) (o : Int × ByteArray) : Pure Tryz.prog 236 [SltS xs, Occ o] (· = I (slotValue xs o)) := by
  refine GCalls.lenA fun hl => ?_
  have hlen := hl.1.1
  simp only [List.length_map, maxL] at hlen
  refine gstart mxd i236 rfl (by simp) ?_; refine X0 ?_
  refine wloop mxd (ι := { i : Nat // i ≤ xs.length ∧ ∀ y ∈ xs.take i, atOcc o y = false }) (fun i => [(0, SltS xs), (3, .rop 2 (Occ o)), (5, I i.1)]) (fun _ => []) (fun i => xs.length - i.1) ⟨0, by simp⟩ (by simp [E2]) rfl ?_
  rintro ⟨i, hi, hn⟩
  (refine R0 ?_; with_reducible repeat' first | exact trivial | intro h | refine aO ?_ | refine eO ?_ | apply And.intro)
  · simp only [slotValue]
    rw [find_hit (p := atOcc o) (by assumption) (by simp [atOcc, *]) hn]
    rfl
  · exact nx ⟨i + 1, by omega, take_step (by assumption) (by simp [atOcc, *]) hn⟩ (by simp; omega) (by simp [E2]) rfl
  · exact nx ⟨i + 1, by omega, take_step (by assumption) (by simp [atOcc, *]) hn⟩ (by simp; omega) (by simp [E2]) rfl
  · have : i = xs.length := by omega
    subst this
    rw [List.take_of_length_le (Nat.le_refl _)] at hn
    simp only [slotValue]
    rw [find_none hn]
    rfl
theorem w240 (xs : List Slo) (o : Int × ByteArray) : Pure Tryz.prog 240 [SltS xs, Occ o] (· = I (slotValue xs o)) := by
  refine GCalls.lenA fun hl => ?_
  have hlen := hl.1.1
  simp only [List.length_map, maxL] at hlen
  refine gstart mxd i240 rfl (by simp) ?_; refine X0 ?_
  refine wloop mxd (ι := { i : Nat // i ≤ xs.length ∧ ∀ y ∈ xs.take i, atOcc o y = false }) (fun i => [(7, SltS xs), (8, I xs.length), (3, .rop 2 (Occ o)), (9, I i.1)]) (fun _ => []) (fun i => xs.length - i.1) ⟨0, by simp⟩ (by simp [E2]) rfl ?_
  rintro ⟨i, hi, hn⟩
  (refine R0 ?_; with_reducible repeat' first | exact trivial | intro h | refine aO ?_ | refine eO ?_ | apply And.intro)
  · simp only [slotValue]
    rw [find_hit (p := atOcc o) (by assumption) (by simp [atOcc, *]) hn]
    rfl
  · exact nx ⟨i + 1, by omega, take_step (by assumption) (by simp [atOcc, *]) hn⟩ (by simp; omega) (by simp [E2]) rfl
  · exact nx ⟨i + 1, by omega, take_step (by assumption) (by simp [atOcc, *]) hn⟩ (by simp; omega) (by simp [E2]) rfl
  · have : i = xs.length := by omega
    subst this
    rw [List.take_of_length_le (Nat.le_refl _)] at hn
    simp only [slotValue]
    rw [find_none hn]
    rfl
theorem w244 : ∀ (e : Exp), okE e → ∀ left : Int, 0 ≤ left → left ≤ 1048576 → Pure Tryz.prog 244 [Ex e, I left] (· = I (szv left (wEx e))) := by
  refine Exp.indA fun e ih ho left h0 h1 => ?_
  obtain ⟨hs, hm, ha⟩ := okE_eq.1 ho
  simp only [maxLen, size_chars] at hs hm
  rw [Ex_eq]
  refine gstart mxd i244 rfl (by simp) ?_; refine X0 ?_
  (refine R0 ?_; with_reducible repeat' first | exact trivial | intro h | refine aO ?_ | refine eO ?_ | apply And.intro)
  · congr 2; rw [wEx_eq]; simp only [szv]; omega
  · congr 2; rw [wEx_eq]; simp only [szv]; omega
  refine callS.eq (szS mxd wEx i279 isAgg_Ex geR_Ex e.args _ (by omega) (by omega) fun a ham l a0 a1 => ih a ham (ha a ham) l a0 a1) ?_
  (refine R0 ?_; with_reducible repeat' first | exact trivial | intro h | refine aO ?_ | refine eO ?_ | apply And.intro) <;> (congr 2; rw [wEx_eq]; simp only [szv] at *; omega)
theorem w247 : ∀ (e : Exp), wEx e ≤ 1048576 → Pure Tryz.prog 247 [Ex e] (· = Ex e) := by
  refine Exp.indA fun e ih hw => ?_
  obtain ⟨hl, ha⟩ := args_small hw
  rw [Ex_eq]
  refine gstart mxd i247 rfl (by simp) ?_; refine X0 ?_
  intro r hr
  refine callS.eq (freezeS view_Ex fun H => toSo mxd i281 isAgg_Ex geR_Ex gsize_Ex stor_Ex e.args hl (by decide) (fun a ham => ih a ham (ha a ham)) H) ?_
  (refine R0 ?_; with_reducible repeat' first | exact trivial | intro h | refine aO ?_ | refine eO ?_ | apply And.intro)
theorem w260 : ∀ (x y : Exp), Pure Tryz.prog 260 [Ex x, Ex y] (· = B (decide (x = y))) := by
  refine Exp.indA fun x ih y => ?_
  rw [Ex_eq, Ex_eq y]
  refine gstart mxd i260 rfl (by simp) ?_; refine X0 ?_
  (refine R0 ?_; with_reducible repeat' first | exact trivial | intro h | refine aO ?_ | refine eO ?_ | apply And.intro)
  all_goals first
    | (simp [Exp.ext_iff, *]; done)
    | skip
  refine callS.eq (eqS mxd i294 isAgg_Ex geR_Ex x.args y.args fun a ha b _ => ih a ha b) ?_
  (refine R0 ?_; with_reducible repeat' first | exact trivial | intro h | refine aO ?_ | refine eO ?_ | apply And.intro) <;> simp [Exp.ext_iff, *]
theorem w124 (xs : List ByteArray) (left : Int) (h0 : 0 ≤ left) (h1 : left ≤ 1048576) (hx : ∀ x ∈ xs, x.size ≤ maxLen) : Pure Tryz.prog 124 [TS xs, I left] (· = I (szv left (wtS wT xs))) := by
  refine GCalls.lenA fun hl => ?_
  have hlen := hl.1.1
  simp only [List.length_map, maxL] at hlen
  refine gstart mxd i124 rfl (by simp) ?_; refine X0 ?_
  (refine R0 ?_; with_reducible repeat' first | exact trivial | intro h | refine aO ?_ | refine eO ?_ | apply And.intro)
  · congr 2; simp only [szv, wtS]; omega
  refine wloop mxd (ι := { i : Nat // i ≤ xs.length ∧ ((xs.length + psum wT xs i : Nat) : Int) ≤ left }) (fun i => [(0, TS xs), (1, I (left - ((xs.length + psum wT xs i.1 : Nat) : Int))), (5, I i.1)]) (fun _ => []) (fun i => xs.length - i.1) ⟨0, by simp [psum_zero]; omega⟩ (by simp [E2, psum_zero]) rfl ?_
  rintro ⟨i, hi, hp⟩
  simp (maxSteps := 9^7) only [↓ S2, S2, vIte, ↓reduceIte, reduceNe, reduceEqDiff, reduceCtorEq, reduceLeDiff, reduceAdd, reduceLT]
  rcases Nat.lt_or_ge i xs.length with h | h
  · have e1 := psum_succ wT xs i h
    have e2 := psum_le wT xs (i + 1)
    have e3 := hx _ (List.getElem_mem h)
    have hz := size_chars xs[i]
    simp only [maxLen, size_chars] at e3
    simp only [wT] at e1
    (refine R0 ?_; with_reducible repeat' first | exact trivial | intro h | refine aO ?_ | refine eO ?_ | apply And.intro)
    · congr 2; simp only [szv, wtS] at *; omega
    · exact nx ⟨i + 1, by omega, by omega⟩ (by simp; omega) (by simp [E2]; omega) rfl
    all_goals (exfalso; omega)
  · (refine R0 ?_; with_reducible repeat' first | exact trivial | intro h | refine aO ?_ | refine eO ?_ | apply And.intro)
    all_goals first | (exfalso; omega) | skip
    have : i = xs.length := by omega
    subst this
    rw [psum_all] at *
    congr 2; simp only [szv, wtS]; omega
theorem w132 (xs : List ByteArray) (hx : xs.length ≤ 1048576) : Pure Tryz.prog 132 [TS xs] (· = TS xs) := by
  refine Pure.bor ?_
  refine gstart mxd i132 rfl (by simp) ?_; refine X0 ?_
  refine ⟨by omega, by omega, by omega, by omega, fun r hr => ?_⟩
  refine wloop mxd (ι := { i : Nat // i ≤ xs.length }) (fun i => [(0, TS xs), (3, .own r 1 0 xs.length), (4, I i.1)]) (fun i => [(r, 1, (xs.take i.1).map T ++ List.replicate (xs.length - i.1) (T noS))]) (fun i => xs.length - i.1) ⟨0, by simp⟩ (by simp [E2]) (by simp [noS]) ?_
  rintro ⟨i, hi⟩
  (refine R0 ?_; with_reducible repeat' first | exact trivial | intro h | refine aO ?_ | refine eO ?_ | apply And.intro)
  · refine ⟨by simp; omega, nx ⟨i + 1, by omega⟩ (by simp; omega) (by simp [E2]) ?_⟩
    rw [fill_set xs T (T noS) i h]
  · have : i = xs.length := by omega
    subst this
    exact Bor.allM (fun _ => rfl) (by simp [hget]) rfl
theorem w143 (xs ys : List ByteArray) : Pure Tryz.prog 143 [TS xs, TS ys] (· = B (decide (xs = ys))) := by
  refine GCalls.lenA fun hl => ?_
  have hl := hl.1.1
  simp only [List.length_map, maxL] at hl
  refine gstart mxd i143 rfl (by simp) ?_; refine X0 ?_
  (refine R0 ?_; with_reducible repeat' first | exact trivial | intro h | refine aO ?_ | refine eO ?_ | apply And.intro)
  rotate_left
  · simp; rintro rfl; exact h rfl
  refine wloop mxd (ι := { i : Nat // i ≤ xs.length ∧ xs.take i = ys.take i }) (fun i => [(0, TS xs), (1, TS ys), (5, I i.1)]) (fun _ => []) (fun i => xs.length - i.1) ⟨0, by simp⟩ (by simp [E2]) rfl ?_
  rintro ⟨i, hi, hp⟩
  (refine R0 ?_; with_reducible repeat' first | exact trivial | intro h | refine aO ?_ | refine eO ?_ | apply And.intro)
  · exact nx ⟨i + 1, by omega, take_eq_step hp (by omega) (by omega) h⟩ (by simp; omega) (by simp [E2]) rfl
  · simp; rintro rfl; simp at h
  · have : i = xs.length := by omega
    subst this
    rw [List.take_of_length_le (by omega), List.take_of_length_le (by omega)] at hp
    simp [hp]
theorem w193 (x : Att) (left : Int) (h0 : 0 ≤ left) (h1 : left ≤ 1048576) (hx : okAt x) : Pure Tryz.prog 193 [At x, I left] (· = I (szv left (wAt x))) := by
  simp only [okAt, maxLen, size_chars] at hx
  refine gstart mxd i193 rfl (by simp) ?_; refine X0 ?_
  (refine R0 ?_; with_reducible repeat' first | exact trivial | intro h | refine aO ?_ | refine eO ?_ | apply And.intro) <;> (congr 2; simp only [szv, wAt]; omega)
theorem w60 (x : Sym) (left : Int) (h0 : 0 ≤ left) (h1 : left ≤ 1048576) (hx : okSy x) : Pure Tryz.prog 60 [Sy x, I left] (· = I (szv left (wSy x))) := by
  obtain ⟨ho, hx⟩ := hx
  simp only [maxLen, size_chars] at ho
  refine gstart mxd i60 rfl (by simp) ?_; refine X0 ?_
  (refine R0 ?_; with_reducible repeat' first | exact trivial | intro h | refine aO ?_ | refine eO ?_ | apply And.intro)
  · congr 2; simp only [szv, wSy]; omega
  refine callS.eq (szS mxd wAt i123 (fun _ => rfl) (fun _ => rfl) x.atts _ (by omega) (by omega) fun a hm l c d => w193 a l c d (hx a hm)) ?_
  (refine R0 ?_; with_reducible repeat' first | exact trivial | intro h | refine aO ?_ | refine eO ?_ | apply And.intro) <;> (congr 2; simp only [szv, wSy] at *; omega)
theorem w194 (x : Eqn) (left : Int) (h0 : 0 ≤ left) (h1 : left ≤ 1048576) (hx : okEq x) : Pure Tryz.prog 194 [Qn x, I left] (· = I (szv left (wEq x))) := by
  have hz := size_chars x.name
  refine gstart mxd i194 rfl (by simp) ?_; refine X0 ?_
  refine callS.eq (w243 (x.pos, x.name) _ (by omega) (by omega) hx.1) ?_
  (refine R1 @XE ?_; with_reducible repeat' first | exact trivial | intro h | refine aO ?_ | refine eO ?_ | apply And.intro)
  · congr 2; simp only [szv, wEq, wOcc] at *; omega
  have e := szv_nn h
  rw [szv_pos e]
  simp only [wOcc] at e ⊢
  refine callS.eq (w244 x.expr hx.2 _ (by omega) (by omega)) ?_
  (refine R0 ?_; with_reducible repeat' first | exact trivial | intro h | refine aO ?_ | refine eO ?_ | apply And.intro) <;> (congr 2; simp only [szv, wEq, wOcc] at *; omega)
theorem w195 (x : Con) (left : Int) (h0 : 0 ≤ left) (h1 : left ≤ 1048576) (hx : okCo x) : Pure Tryz.prog 195 [Co x, I left] (· = I (szv left (wCo x))) := by
  obtain ⟨ho, hp, hg, hv⟩ := hx
  simp only [maxLen, size_chars] at ho hp
  refine gstart mxd i195 rfl (by simp) ?_; refine X0 ?_
  (refine R1 @XE ?_; with_reducible repeat' first | exact trivial | intro h | refine aO ?_ | refine eO ?_ | apply And.intro)
  · congr 2; simp only [szv, wCo]; omega
  · congr 2; simp only [szv, wCo]; omega
  refine callS.eq (w244 x.goal hg _ (by omega) (by omega)) ?_
  (refine R1 @XE ?_; with_reducible repeat' first | exact trivial | intro h | refine aO ?_ | refine eO ?_ | apply And.intro)
  · congr 2; simp only [szv, wCo] at *; omega
  have e := szv_nn h
  rw [szv_pos e]
  refine callS.eq (w244 x.value hv _ (by omega) (by omega)) ?_
  (refine R0 ?_; with_reducible repeat' first | exact trivial | intro h | refine aO ?_ | refine eO ?_ | apply And.intro) <;> (congr 2; simp only [szv, wCo] at *; omega)
theorem w61 (x : Rul) (left : Int) (h0 : 0 ≤ left) (h1 : left ≤ 1048576) (hx : okRu x) : Pure Tryz.prog 61 [Ru x, I left] (· = I (szv left (wRu x))) := by
  obtain ⟨ho, hp, hr, hq, hc⟩ := hx
  simp only [maxLen, size_chars] at ho hp
  refine gstart mxd i61 rfl (by simp) ?_; refine X0 ?_
  (refine R0 ?_; with_reducible repeat' first | exact trivial | intro h | refine aO ?_ | refine eO ?_ | apply And.intro)
  · congr 2; simp only [szv, wRu]; omega
  · congr 2; simp only [szv, wRu]; omega
  refine callS.eq (w124 x.right _ (by omega) (by omega) hr) ?_
  (refine R0 ?_; with_reducible repeat' first | exact trivial | intro h | refine aO ?_ | refine eO ?_ | apply And.intro)
  · congr 2; simp only [szv, wRu] at *; omega
  have e := szv_nn h
  rw [szv_pos e]
  refine callS.eq (szS mxd wEq i125 (fun _ => rfl) (fun _ => rfl) x.eqs _ (by omega) (by omega) fun a hm l c d => w194 a l c d (hq a hm)) ?_
  (refine R0 ?_; with_reducible repeat' first | exact trivial | intro h | refine aO ?_ | refine eO ?_ | apply And.intro)
  · congr 2; simp only [szv, wRu] at *; omega
  have e2 := szv_nn h
  rw [szv_pos e2]
  refine callS.eq (szS mxd wCo i126 (fun _ => rfl) (fun _ => rfl) x.cons _ (by omega) (by omega) fun a hm l c d => w195 a l c d (hc a hm)) ?_
  (refine R0 ?_; with_reducible repeat' first | exact trivial | intro h | refine aO ?_ | refine eO ?_ | apply And.intro) <;> (congr 2; simp only [szv, wRu] at *; omega)
theorem w7 (g : Gram) (left : Int) (h0 : 0 ≤ left) (h1 : left ≤ 1048576) (hx : okGr g) : Pure Tryz.prog 7 [Gr g, I left] (· = I (szv left (wGr g))) := by
  refine gstart mxd i7 rfl (by simp) ?_; refine X0 ?_
  refine callS.eq (szS mxd wSy i27 (fun _ => rfl) (fun _ => rfl) g.syms _ (by omega) (by omega) fun a hm l c d => w60 a l c d (hx.1 a hm)) ?_
  (refine R0 ?_; with_reducible repeat' first | exact trivial | intro h | refine aO ?_ | refine eO ?_ | apply And.intro)
  · congr 2; simp only [szv, wGr] at *; omega
  have e := szv_nn h
  rw [szv_pos e]
  refine callS.eq (szS mxd wRu i28 (fun _ => rfl) (fun _ => rfl) g.rules _ (by omega) (by omega) fun a hm l c d => w61 a l c d (hx.2 a hm)) ?_
  (refine R0 ?_; with_reducible repeat' first | exact trivial | intro h | refine aO ?_ | refine eO ?_ | apply And.intro) <;> (congr 2; simp only [szv, wGr] at *; omega)
theorem w197 (x : Att) : Pure Tryz.prog 197 [At x] (· = At x) := by
  refine gstart mxd i197 rfl (by simp) ?_; refine X0 ?_
  (refine R0 ?_; with_reducible repeat' first | exact trivial | intro h | refine aO ?_ | refine eO ?_ | apply And.intro)
theorem w131 (xs : List Att) (hl : xs.length ≤ 1048576) : Pure Tryz.prog 131 [AtS xs] (· = AtS xs) :=
  freezeS (fun _ => rfl) fun H => toSo mxd i131 (fun _ => rfl) (fun _ => rfl) (fun _ => rfl) (fun _ => rfl) xs hl (by decide) (fun x hm => w197 x) H
theorem w67 (x : Sym) (hx : smSy x) : Pure Tryz.prog 67 [Sy x] (· = Sy x) := by
  refine gstart mxd i67 rfl (by simp) ?_; refine X0 ?_
  intro r hr
  refine callS.eq (w131 _ hx) ?_
  (refine R0 ?_; with_reducible repeat' first | exact trivial | intro h | refine aO ?_ | refine eO ?_ | apply And.intro)
theorem w198 (x : Eqn) (hx : smEq x) : Pure Tryz.prog 198 [Qn x] (· = Qn x) := by
  refine gstart mxd i198 rfl (by simp) ?_; refine X0 ?_
  intro r hr
  refine callS.eq (w246 (x.pos, x.name)) ?_
  simp (maxSteps := 9^7) only [↓ S2, S2, vIte, ↓reduceIte, reduceNe, reduceEqDiff, reduceCtorEq, reduceLeDiff, reduceAdd, reduceLT, XE]
  refine callS.eq (w247 x.expr hx) ?_
  (refine R1 @XE ?_; with_reducible repeat' first | exact trivial | intro h | refine aO ?_ | refine eO ?_ | apply And.intro)
theorem w199 (x : Con) (hx : smCo x) : Pure Tryz.prog 199 [Co x] (· = Co x) := by
  refine gstart mxd i199 rfl (by simp) ?_; refine X0 ?_
  intro r hr
  try simp (maxSteps := 9^7) only [↓ S2, S2, vIte, ↓reduceIte, reduceNe, reduceEqDiff, reduceCtorEq, reduceLeDiff, reduceAdd, reduceLT, XE]
  refine callS.eq (w247 x.goal hx.1) ?_
  simp (maxSteps := 9^7) only [↓ S2, S2, vIte, ↓reduceIte, reduceNe, reduceEqDiff, reduceCtorEq, reduceLeDiff, reduceAdd, reduceLT, XE]
  refine callS.eq (w247 x.value hx.2) ?_
  (refine R1 @XE ?_; with_reducible repeat' first | exact trivial | intro h | refine aO ?_ | refine eO ?_ | apply And.intro)
theorem w68 (x : Rul) (hx : smRu x) : Pure Tryz.prog 68 [Ru x] (· = Ru x) := by
  obtain ⟨h1, h2, h3, h4, h5⟩ := hx
  refine gstart mxd i68 rfl (by simp) ?_; refine X0 ?_
  intro r hr
  refine callS.eq (w132 _ h1) ?_
  simp (maxSteps := 9^7) only [↓ S2, S2, vIte, ↓reduceIte, reduceNe, reduceEqDiff, reduceCtorEq, reduceLeDiff, reduceAdd, reduceLT]
  refine callS.eq (freezeS (fun _ => rfl) fun H => toSo mxd i133 (fun _ => rfl) (fun _ => rfl) (fun _ => rfl) (fun _ => rfl) x.eqs h2 (by decide) (fun x hm => w198 x (h4 x hm)) H) ?_
  simp (maxSteps := 9^7) only [↓ S2, S2, vIte, ↓reduceIte, reduceNe, reduceEqDiff, reduceCtorEq, reduceLeDiff, reduceAdd, reduceLT]
  refine callS.eq (freezeS (fun _ => rfl) fun H => toSo mxd i134 (fun _ => rfl) (fun _ => rfl) (fun _ => rfl) (fun _ => rfl) x.cons h3 (by decide) (fun x hm => w199 x (h5 x hm)) H) ?_
  (refine R0 ?_; with_reducible repeat' first | exact trivial | intro h | refine aO ?_ | refine eO ?_ | apply And.intro)
theorem w10 (g : Gram) (hx : smGr g) : Pure Tryz.prog 10 [Gr g] (· = Gr g) := by
  obtain ⟨h1, h2, h3, h4⟩ := hx
  refine gstart mxd i10 rfl (by simp) ?_; refine X0 ?_
  intro r hr
  refine callS.eq (freezeS (fun _ => rfl) fun H => toSo mxd i32 (fun _ => rfl) (fun _ => rfl) (fun _ => rfl) (fun _ => rfl) g.syms h1 (by decide) (fun x hm => w67 x (h3 x hm)) H) ?_
  simp (maxSteps := 9^7) only [↓ S2, S2, vIte, ↓reduceIte, reduceNe, reduceEqDiff, reduceCtorEq, reduceLeDiff, reduceAdd, reduceLT]
  refine callS.eq (freezeS (fun _ => rfl) fun H => toSo mxd i33 (fun _ => rfl) (fun _ => rfl) (fun _ => rfl) (fun _ => rfl) g.rules h2 (by decide) (fun x hm => w68 x (h4 x hm)) H) ?_
  (refine R0 ?_; with_reducible repeat' first | exact trivial | intro h | refine aO ?_ | refine eO ?_ | apply And.intro)
theorem w210 (x y : Att) : Pure Tryz.prog 210 [At x, At y] (· = B (decide (x = y))) := by
  refine gstart mxd i210 rfl (by simp) ?_; refine X0 ?_
  (refine R0 ?_; with_reducible repeat' first | exact trivial | intro h | refine aO ?_ | refine eO ?_ | apply And.intro) <;> simp_all [Att.ext_iff]
theorem w77 (x y : Sym) : Pure Tryz.prog 77 [Sy x, Sy y] (· = B (decide (x = y))) := by
  refine gstart mxd i77 rfl (by simp) ?_; refine X0 ?_
  (refine R0 ?_; with_reducible repeat' first | exact trivial | intro h | refine aO ?_ | refine eO ?_ | apply And.intro)
  rotate_left
  · simp_all [Sym.ext_iff]
  refine callS.eq (eqS mxd i142 (fun _ => rfl) (fun _ => rfl) x.atts y.atts fun a _ b _ => w210 a b) ?_
  (refine R0 ?_; with_reducible repeat' first | exact trivial | intro h | refine aO ?_ | refine eO ?_ | apply And.intro) <;> simp_all [Sym.ext_iff]
theorem w211 (x y : Eqn) : Pure Tryz.prog 211 [Qn x, Qn y] (· = B (decide (x = y))) := by
  refine gstart mxd i211 rfl (by simp) ?_; refine X0 ?_
  refine callS.eq (w259 (x.pos, x.name) (y.pos, y.name)) ?_
  (refine R1 @XE ?_; with_reducible repeat' first | exact trivial | intro h | refine aO ?_ | refine eO ?_ | apply And.intro)
  rotate_left
  · simp_all [Eqn.ext_iff, Prod.ext_iff]
  refine callS.eq (w260 x.expr y.expr) ?_
  (refine R0 ?_; with_reducible repeat' first | exact trivial | intro h | refine aO ?_ | refine eO ?_ | apply And.intro) <;> simp_all [Eqn.ext_iff, Prod.ext_iff]
theorem w212 (x y : Con) : Pure Tryz.prog 212 [Co x, Co y] (· = B (decide (x = y))) := by
  refine gstart mxd i212 rfl (by simp) ?_; refine X0 ?_
  (refine R1 @XE ?_; with_reducible repeat' first | exact trivial | intro h | refine aO ?_ | refine eO ?_ | apply And.intro)
  all_goals first
    | (simp [Con.ext_iff, *]; done)
    | skip
  refine callS.eq (w260 x.goal y.goal) ?_
  (refine R1 @XE ?_; with_reducible repeat' first | exact trivial | intro h | refine aO ?_ | refine eO ?_ | apply And.intro)
  rotate_left
  · simp_all [Con.ext_iff]
  refine callS.eq (w260 x.value y.value) ?_
  (refine R0 ?_; with_reducible repeat' first | exact trivial | intro h | refine aO ?_ | refine eO ?_ | apply And.intro) <;> simp_all [Con.ext_iff]
theorem w78 (x y : Rul) : Pure Tryz.prog 78 [Ru x, Ru y] (· = B (decide (x = y))) := by
  refine gstart mxd i78 rfl (by simp) ?_; refine X0 ?_
  (refine R0 ?_; with_reducible repeat' first | exact trivial | intro h | refine aO ?_ | refine eO ?_ | apply And.intro)
  all_goals first
    | (simp [Rul.ext_iff, *]; done)
    | skip
  refine callS.eq (w143 x.right y.right) ?_
  (refine R0 ?_; with_reducible repeat' first | exact trivial | intro h | refine aO ?_ | refine eO ?_ | apply And.intro)
  all_goals first
    | (simp [Rul.ext_iff, *]; done)
    | (simp_all [Rul.ext_iff]; done)
    | skip
  refine callS.eq (eqS mxd i144 (fun _ => rfl) (fun _ => rfl) x.eqs y.eqs fun a _ b _ => w211 a b) ?_
  (refine R0 ?_; with_reducible repeat' first | exact trivial | intro h | refine aO ?_ | refine eO ?_ | apply And.intro)
  rotate_left
  · simp_all [Rul.ext_iff]
  refine callS.eq (eqS mxd i145 (fun _ => rfl) (fun _ => rfl) x.cons y.cons fun a _ b _ => w212 a b) ?_
  (refine R0 ?_; with_reducible repeat' first | exact trivial | intro h | refine aO ?_ | refine eO ?_ | apply And.intro) <;> simp_all [Rul.ext_iff]
theorem w14 (x y : Gram) : Pure Tryz.prog 14 [Gr x, Gr y] (· = B (decide (x = y))) := by
  refine gstart mxd i14 rfl (by simp) ?_; refine X0 ?_
  refine callS.eq (eqS mxd i38 (fun _ => rfl) (fun _ => rfl) x.syms y.syms fun a _ b _ => w77 a b) ?_
  (refine R0 ?_; with_reducible repeat' first | exact trivial | intro h | refine aO ?_ | refine eO ?_ | apply And.intro)
  rotate_left
  · simp_all [Gram.ext_iff]
  refine callS.eq (eqS mxd i39 (fun _ => rfl) (fun _ => rfl) x.rules y.rules fun a _ b _ => w78 a b) ?_
  (refine R0 ?_; with_reducible repeat' first | exact trivial | intro h | refine aO ?_ | refine eO ?_ | apply And.intro) <;> simp_all [Gram.ext_iff]
theorem w201 (t : List Nod) (i : Int) : Pure Tryz.prog 201 [Tr t, I i] (· = B (decide (0 ≤ i ∧ i < t.length))) := by
  refine GCalls.lenA fun hl => ?_
  obtain ⟨hlen, _⟩ := lenTr hl.1
  refine gstart mxd i201 rfl (by simp) ?_; refine X0 ?_
  refine callS.eq (w73 _ _ _) ?_
  (refine R0 ?_; with_reducible repeat' first | exact trivial | intro h | refine aO ?_ | refine eO ?_ | apply And.intro)
  exact bEq (by omega)
theorem w66 (x y : Int) : Pure Tryz.prog 66 [I x, I y] (· = I (max x y)) := by
  refine gstart mxd i66 rfl (by simp) ?_; refine X0 ?_
  (refine R0 ?_; with_reducible repeat' first | exact trivial | intro h | refine aO ?_ | refine eO ?_ | apply And.intro) <;> simp <;> omega
theorem w300 (n : Int) : Pure Tryz.prog 300 [I n] (· = I (satV n)) := by
  refine gstart mxd i300 rfl (by simp) ?_; refine X0 ?_
  (refine R0 ?_; with_reducible repeat' first | exact trivial | intro h | refine aO ?_ | refine eO ?_ | apply And.intro) <;> (congr 2; simp only [satV]; omega)
theorem w301 (b : Bool) : Pure Tryz.prog 301 [B b] (· = I (trV b)) := by
  refine gstart mxd i301 rfl (by simp) ?_; refine X0 ?_
  (refine R0 ?_; with_reducible repeat' first | exact trivial | intro h | refine aO ?_ | refine eO ?_ | apply And.intro) <;> simp_all [trV]
theorem w274 (b : Bool) : Pure Tryz.prog 274 [B b] (· = I (trV b)) := by
  refine gstart mxd i274 rfl (by simp) ?_; refine X0 ?_
  (refine R0 ?_; with_reducible repeat' first | exact trivial | intro h | refine aO ?_ | refine eO ?_ | apply And.intro) <;> simp_all [trV]
theorem w273 (a b : Int) : Pure Tryz.prog 273 [I a, I b] (· = I (min a b)) := by
  refine gstart mxd i273 rfl (by simp) ?_; refine X0 ?_
  (refine R0 ?_; with_reducible repeat' first | exact trivial | intro h | refine aO ?_ | refine eO ?_ | apply And.intro) <;> (congr 2; omega)
theorem w272 (n : Int) : Pure Tryz.prog 272 [I n] (· = I (satV n)) := by
  refine gstart mxd i272 rfl (by simp) ?_; refine X0 ?_
  refine callS.eq (w273 _ _) ?_
  (refine R0 ?_; with_reducible repeat' first | exact trivial | intro h | refine aO ?_ | refine eO ?_ | apply And.intro)
  refine callS.eq (w66 _ _) ?_
  (refine R0 ?_; with_reducible repeat' first | exact trivial | intro h | refine aO ?_ | refine eO ?_ | apply And.intro) <;> rfl
theorem w299 (v k : Int) : Pure Tryz.prog 299 [I v, I k] (· = I (coV v k)) := by
  refine gstart mxd i299 rfl (by simp) ?_; refine X0 ?_
  (refine R0 ?_; with_reducible repeat' first | exact trivial | intro h | refine aO ?_ | refine eO ?_ | apply And.intro)
  · refine callS.eq (w300 _) ?_
    (refine R0 ?_; with_reducible repeat' first | exact trivial | intro h | refine aO ?_ | refine eO ?_ | apply And.intro) <;> simp_all [coV]
  · simp_all [coV]
  · refine callS.eq (w301 _) ?_
    (refine R0 ?_; with_reducible repeat' first | exact trivial | intro h | refine aO ?_ | refine eO ?_ | apply And.intro) <;> simp_all [coV]
  · refine callS.eq (w73 _ _ _) ?_
    (refine R0 ?_; with_reducible repeat' first | exact trivial | intro h | refine aO ?_ | refine eO ?_ | apply And.intro) <;> simp_all [coV] <;> (intros; omega)
  · simp_all [coV]
theorem w270 (v k : Int) : Pure Tryz.prog 270 [I v, I k] (· = I (coV v k)) := by
  refine gstart mxd i270 rfl (by simp) ?_; refine X0 ?_
  (refine R0 ?_; with_reducible repeat' first | exact trivial | intro h | refine aO ?_ | refine eO ?_ | apply And.intro)
  · refine callS.eq (w272 _) ?_
    (refine R0 ?_; with_reducible repeat' first | exact trivial | intro h | refine aO ?_ | refine eO ?_ | apply And.intro) <;> simp_all [coV]
  · simp_all [coV]
  · refine callS.eq (w274 _) ?_
    (refine R0 ?_; with_reducible repeat' first | exact trivial | intro h | refine aO ?_ | refine eO ?_ | apply And.intro) <;> simp_all [coV]
  · refine callS.eq (w85 _ _ _) ?_
    (refine R0 ?_; with_reducible repeat' first | exact trivial | intro h | refine aO ?_ | refine eO ?_ | apply And.intro) <;> simp_all [coV] <;> (intros; omega)
  · simp_all [coV]
theorem w175 (op : Int) : Pure Tryz.prog 175 [I op] (· = opG op) := by
  refine gstart mxd i175 rfl (by simp) ?_; refine X0 ?_
  (refine R0 ?_; with_reducible repeat' first | exact trivial | intro h | refine aO ?_ | refine eO ?_ | apply And.intro)
  all_goals first | (subst op; rfl) | (rw [opG0 (by omega)])
theorem w220 (op : Int) : Pure Tryz.prog 220 [I op] (· = opG op) := by
  refine gstart mxd i220 rfl (by simp) ?_; refine X0 ?_
  refine callS.eq (w85 _ _ _) ?_
  (refine R0 ?_; with_reducible repeat' first | exact trivial | intro h | refine aO ?_ | refine eO ?_ | apply And.intro)
  · simp only [opG, opT, if_pos h]
  refine callS.eq (w85 _ _ _) ?_
  (refine R0 ?_; with_reducible repeat' first | exact trivial | intro h | refine aO ?_ | refine eO ?_ | apply And.intro)
  all_goals first | (simp only [opG, opT]; rw [if_neg (by assumption), if_pos (by assumption)]; done) | (subst op; rfl) | (rw [opG0 (by omega)]; done) | (simp_all [opG, opT]; done) | skip
theorem w265 (k : Int) : Pure Tryz.prog 265 [I k] (· = B (decide (1 ≤ k ∧ k ≤ 4))) := by
  refine gstart mxd i265 rfl (by simp) ?_; refine X0 ?_
  refine callS.eq (w73 _ _ _) ?_
  (refine R0 ?_; with_reducible repeat' first | exact trivial | intro h | refine aO ?_ | refine eO ?_ | apply And.intro)
theorem w297 (v k : Int) : Pure Tryz.prog 297 [I v, I k] (· = B (okV v k)) := by
  refine gstart mxd i297 rfl (by simp) ?_; refine X0 ?_
  refine callS.eq (w265 _) ?_
  (refine R0 ?_; with_reducible repeat' first | exact trivial | intro h | refine aO ?_ | refine eO ?_ | apply And.intro)
  · refine callS.eq (w299 _ _) ?_
    (refine R0 ?_; with_reducible repeat' first | exact trivial | intro h | refine aO ?_ | refine eO ?_ | apply And.intro) <;> simp_all [okV]
  · simp_all [okV] <;> (intros; omega)
theorem w230 (v k : Int) : Pure Tryz.prog 230 [I v, I k] (· = B (okV v k)) := by
  refine gstart mxd i230 rfl (by simp) ?_; refine X0 ?_
  refine callS.eq (w85 _ _ _) ?_
  (refine R0 ?_; with_reducible repeat' first | exact trivial | intro h | refine aO ?_ | refine eO ?_ | apply And.intro)
  · refine callS.eq (w270 _ _) ?_
    (refine R0 ?_; with_reducible repeat' first | exact trivial | intro h | refine aO ?_ | refine eO ?_ | apply And.intro) <;> simp_all [okV]
  · simp_all [okV] <;> (intros; omega)
theorem w278 (op a b : Int) : Pure Tryz.prog 278 [I op, I a, I b] (· = I (apV op a b)) := by
  refine gstart mxd i278 rfl (by simp) ?_; refine X0 ?_
  refine callS.eq (w175 _) ?_
  (refine R0 ?_; with_reducible repeat' first | exact trivial | intro h | refine aO ?_ | refine eO ?_ | apply And.intro)
  refine callS.eq (w299 _ _) ?_
  (refine R0 ?_; with_reducible repeat' first | exact trivial | intro h | refine aO ?_ | refine eO ?_ | apply And.intro)
  refine callS.eq (w299 _ _) ?_
  simp only [apV]
  generalize coV a (opT op).1 = a
  generalize coV b (opT op).2.1 = b
  (refine R0 ?_; with_reducible repeat' first | exact trivial | intro h | refine aO ?_ | refine eO ?_ | apply And.intro)
  all_goals first
    | (simp_all [apW]; done)
    | (subst op; congr 2; show _ = max a b; omega)
    | (subst op; congr 2; show _ = min a b; omega)
    | (refine callS.eq (w300 _) ?_; (refine R0 ?_; with_reducible repeat' first | exact trivial | intro h | refine aO ?_ | refine eO ?_ | apply And.intro); simp_all [apW]; done)
    | (refine callS.eq (w301 _) ?_; (refine R0 ?_; with_reducible repeat' first | exact trivial | intro h | refine aO ?_ | refine eO ?_ | apply And.intro); simp_all [apW]; done)
    | skip
  all_goals refine callS.eq (w73 _ _ _) ?_
  all_goals (refine R0 ?_; with_reducible repeat' first | exact trivial | intro h | refine aO ?_ | refine eO ?_ | apply And.intro)
  all_goals (try rw [wrapU b (by omega) (by omega)])
  all_goals first
    | (exact h.1)
    | omega
    | (refine callS.eq (w301 _) ?_; (refine R0 ?_; with_reducible repeat' first | exact trivial | intro h | refine aO ?_ | refine eO ?_ | apply And.intro); simp_all [apW, trV]; done)
    | ((refine R0 ?_; with_reducible repeat' first | exact trivial | intro h | refine aO ?_ | refine eO ?_ | apply And.intro); simp_all [apW, trV]; done)
    | (simp_all [apW, trV]; done)
    | skip
  · (refine callS.eq (w301 _) ?_; (refine R0 ?_; with_reducible repeat' first | exact trivial | intro h | refine aO ?_ | refine eO ?_ | apply And.intro); rw [apW11 h]; rfl)
  · (rw [apW12 h])
theorem w237 (op a b : Int) : Pure Tryz.prog 237 [I op, I a, I b] (· = I (apV op a b)) := by
  refine gstart mxd i237 rfl (by simp) ?_; refine X0 ?_
  refine callS.eq (w220 _) ?_
  (refine R0 ?_; with_reducible repeat' first | exact trivial | intro h | refine aO ?_ | refine eO ?_ | apply And.intro)
  refine callS.eq (w270 _ _) ?_
  (refine R0 ?_; with_reducible repeat' first | exact trivial | intro h | refine aO ?_ | refine eO ?_ | apply And.intro)
  refine callS.eq (w270 _ _) ?_
  simp only [apV]
  generalize coV a (opT op).1 = a
  generalize coV b (opT op).2.1 = b
  (refine R0 ?_; with_reducible repeat' first | exact trivial | intro h | refine aO ?_ | refine eO ?_ | apply And.intro)
  all_goals first
    | (simp_all [apW]; done)
    | (subst op; congr 2; show _ = max a b; omega)
    | (subst op; congr 2; show _ = min a b; omega)
    | (refine callS.eq (w272 _) ?_; (refine R0 ?_; with_reducible repeat' first | exact trivial | intro h | refine aO ?_ | refine eO ?_ | apply And.intro); simp_all [apW]; done)
    | (refine callS.eq (w274 _) ?_; (refine R0 ?_; with_reducible repeat' first | exact trivial | intro h | refine aO ?_ | refine eO ?_ | apply And.intro); simp_all [apW]; done)
    | (refine callS.eq (w66 _ _) ?_; (refine R0 ?_; with_reducible repeat' first | exact trivial | intro h | refine aO ?_ | refine eO ?_ | apply And.intro); simp_all [apW]; done)
    | (refine callS.eq (w273 _ _) ?_; (refine R0 ?_; with_reducible repeat' first | exact trivial | intro h | refine aO ?_ | refine eO ?_ | apply And.intro); simp_all [apW]; done)
    | skip
  all_goals refine callS.eq (w85 _ _ _) ?_
  all_goals (refine R0 ?_; with_reducible repeat' first | exact trivial | intro h | refine aO ?_ | refine eO ?_ | apply And.intro)
  all_goals try (refine callS.eq (w66 _ _) ?_; rw [show max b 0 = b by omega]; (refine R0 ?_; with_reducible repeat' first | exact trivial | intro h | refine aO ?_ | refine eO ?_ | apply And.intro))
  all_goals (try rw [wrapU b (by omega) (by omega)])
  all_goals first
    | (exact h.1)
    | omega
    | (refine callS.eq (w274 _) ?_; (refine R0 ?_; with_reducible repeat' first | exact trivial | intro h | refine aO ?_ | refine eO ?_ | apply And.intro); simp_all [apW, trV]; done)
    | ((refine R0 ?_; with_reducible repeat' first | exact trivial | intro h | refine aO ?_ | refine eO ?_ | apply And.intro); simp_all [apW, trV]; done)
    | (simp_all [apW, trV]; done)
    | skip
  · (refine callS.eq (w274 _) ?_; (refine R0 ?_; with_reducible repeat' first | exact trivial | intro h | refine aO ?_ | refine eO ?_ | apply And.intro); rw [apW11 h]; rfl)
  · (rw [apW12 h])
theorem w275 : ∀ (e : Exp), wEx e ≤ 1048576 → Pure Tryz.prog 275 [Ex e] (· = I (cntE e)) := by
  refine Exp.indA fun e ih hw => ?_
  obtain ⟨hl, ha⟩ := args_small hw
  have hc := cntE_le e
  have he := cntE_eq e
  rw [Ex_eq]
  refine gstart mxd i275 rfl (by simp) ?_; refine X0 ?_
  refine wloop mxd (ι := { i : Nat // i ≤ e.args.length }) (fun i => [(3, I ((1 + ((e.args.take i.1).map cntE).sum : Nat) : Int)), (7, ExS e.args), (8, I e.args.length), (9, I i.1)]) (fun i => []) (fun i => e.args.length - i.1) ⟨0, by simp⟩ (by simp [E2, mxL]) (by simp) ?_
  rintro ⟨i, hi⟩
  have h1 := sumT_le cntE e.args i
  have h3 := sumT_le cntE e.args (i + 1)
  ((try refine qI ?_); (repeat ((first | with_reducible refine qU ?_ | simp only [brGen]); try simp (maxSteps := 9^7) only [↓ S2, S2, vIte, ↓reduceIte, reduceNe, reduceEqDiff, reduceCtorEq, reduceLeDiff, reduceAdd, reduceLT, isAgg_Ex, geR_Ex, gsize_Ex, stor_Ex])); (try simp +contextual (disch := omega) only [Z2, isAgg_Ex, geR_Ex, gsize_Ex, stor_Ex]); (with_reducible repeat' (first | intro h | refine And.intro (by omega) ?_ | refine exP (by omega) ?_ | apply And.intro)))
  · have h2 := sumT cntE e.args i (by omega)
    refine callS.eq (ih _ (List.getElem_mem _) (ha _ (List.getElem_mem _))) ?_
    (refine R0 ?_; with_reducible repeat' first | exact trivial | intro h | refine aO ?_ | refine eO ?_ | apply And.intro)
    refine nx ⟨i + 1, by omega⟩ (by simp; omega) ?_ (by simp)
    simp [E2, h2, -List.map_take]
    try (first | omega | (split <;> omega))
  · have : i = e.args.length := by omega
    subst this
    simp [he]
theorem w276 : ∀ (e : Exp), wEx e ≤ 1048576 → Pure Tryz.prog 276 [Ex e] (· = I (dpE e)) := by
  refine Exp.indA fun e ih hw => ?_
  obtain ⟨hl, ha⟩ := args_small hw
  have hc := cntE_le e
  have he := cntE_eq e
  have hd := dpE_eq e
  have hq := sumL_le (l := e.args) fun a _ => dpE_le a
  rw [Ex_eq]
  refine gstart mxd i276 rfl (by simp) ?_; refine X0 ?_
  refine wloop mxd (ι := { i : Nat // i ≤ e.args.length }) (fun i => [(3, I (mxL ((e.args.take i.1).map dpE))), (7, ExS e.args), (8, I e.args.length), (9, I i.1)]) (fun i => []) (fun i => e.args.length - i.1) ⟨0, by simp⟩ (by simp [E2, mxL]) (by simp) ?_
  rintro ⟨i, hi⟩
  have h1 := mxT_le dpE e.args i
  ((try refine qI ?_); (repeat ((first | with_reducible refine qU ?_ | simp only [brGen]); try simp (maxSteps := 9^7) only [↓ S2, S2, vIte, ↓reduceIte, reduceNe, reduceEqDiff, reduceCtorEq, reduceLeDiff, reduceAdd, reduceLT, isAgg_Ex, geR_Ex, gsize_Ex, stor_Ex])); (try simp +contextual (disch := omega) only [Z2, isAgg_Ex, geR_Ex, gsize_Ex, stor_Ex]); (with_reducible repeat' (first | intro h | refine And.intro (by omega) ?_ | refine exP (by omega) ?_ | apply And.intro)))
  · have h2 := mxT dpE e.args i (by omega)
    refine callS.eq (ih _ (List.getElem_mem _) (ha _ (List.getElem_mem _))) ?_
    (refine R0 ?_; with_reducible repeat' first | exact trivial | intro h | refine aO ?_ | refine eO ?_ | apply And.intro)
    refine nx ⟨i + 1, by omega⟩ (by simp; omega) ?_ (by simp)
    simp [E2, h2, -List.map_take]
    try (first | omega | (split <;> omega))
  · have : i = e.args.length := by omega
    subst this
    simp [hd]
    try omega
theorem w234 : ∀ (e : Exp), wEx e ≤ 1048576 → Pure Tryz.prog 234 [Ex e] (· = I (dpE e)) := by
  refine Exp.indA fun e ih hw => ?_
  obtain ⟨hl, ha⟩ := args_small hw
  have hc := cntE_le e
  have he := cntE_eq e
  have hd := dpE_eq e
  have hq := sumL_le (l := e.args) fun a _ => dpE_le a
  rw [Ex_eq]
  refine gstart mxd i234 rfl (by simp) ?_; refine X0 ?_
  refine wloop mxd (ι := { i : Nat // i ≤ e.args.length }) (fun i => [(1, .rop 7 (.agg [I e.kind, I e.n, I e.pos, I e.type, T e.sym, T e.name, ExS e.args])), (3, I (mxL ((e.args.take i.1).map dpE))), (4, I i.1)]) (fun i => []) (fun i => e.args.length - i.1) ⟨0, by simp⟩ (by simp [E2, mxL]) (by simp) ?_
  rintro ⟨i, hi⟩
  have h1 := mxT_le dpE e.args i
  ((try refine qI ?_); (repeat ((first | with_reducible refine qU ?_ | simp only [brGen]); try simp (maxSteps := 9^7) only [↓ S2, S2, vIte, ↓reduceIte, reduceNe, reduceEqDiff, reduceCtorEq, reduceLeDiff, reduceAdd, reduceLT, isAgg_Ex, geR_Ex, gsize_Ex, stor_Ex])); (try simp +contextual (disch := omega) only [Z2, isAgg_Ex, geR_Ex, gsize_Ex, stor_Ex]); (with_reducible repeat' (first | intro h | refine And.intro (by omega) ?_ | refine exP (by omega) ?_ | apply And.intro)))
  · have h2 := mxT dpE e.args i (by omega)
    refine callS.eq (ih _ (List.getElem_mem _) (ha _ (List.getElem_mem _))) ?_
    (refine R0 ?_; with_reducible repeat' first | exact trivial | intro h | refine aO ?_ | refine eO ?_ | apply And.intro)
    refine callS.eq (w66 _ _) ?_
    (refine R0 ?_; with_reducible repeat' first | exact trivial | intro h | refine aO ?_ | refine eO ?_ | apply And.intro)
    refine nx ⟨i + 1, by omega⟩ (by simp; omega) ?_ (by simp)
    simp [E2, h2, -List.map_take]
    try (first | omega | (split <;> omega))
  · have : i = e.args.length := by omega
    subst this
    simp [hd]
    try omega
theorem w233 : ∀ (e : Exp), wEx e ≤ 1048576 → ∀ left : Int, 0 ≤ left → left ≤ 1048576 → Pure Tryz.prog 233 [Ex e, I left] (· = I (max (left - cntE e) (-1))) := by
  refine Exp.indA fun e ih hw left l0 l1 => ?_
  obtain ⟨hl, ha⟩ := args_small hw
  have hc := cntE_le e
  have he := cntE_eq e
  rw [Ex_eq]
  refine gstart mxd i233 rfl (by simp) ?_; refine X0 ?_
  simp +contextual (disch := omega) only [Z2]
  refine wloop mxd (ι := { i : Nat // i ≤ e.args.length }) (fun i => [(2, .rop 7 (.agg [I e.kind, I e.n, I e.pos, I e.type, T e.sym, T e.name, ExS e.args])), (1, I (max (left - 1 - ((e.args.take i.1).map cntE).sum) (-1))), (5, I i.1)]) (fun i => []) (fun i => e.args.length - i.1) ⟨0, by simp⟩ (by simp [E2]; try omega) (by simp) ?_
  rintro ⟨i, hi⟩
  have h1 := sumT_le cntE e.args i
  generalize hs : ((e.args.take i).map cntE).sum = s at *
  ((try refine qI ?_); (repeat ((first | with_reducible refine qU ?_ | simp only [brGen]); try simp (maxSteps := 9^7) only [↓ S2, S2, vIte, ↓reduceIte, reduceNe, reduceEqDiff, reduceCtorEq, reduceLeDiff, reduceAdd, reduceLT, isAgg_Ex, geR_Ex, gsize_Ex, stor_Ex])); (try simp +contextual (disch := omega) only [Z2, isAgg_Ex, geR_Ex, gsize_Ex, stor_Ex]); (with_reducible repeat' (first | intro h | refine And.intro (by omega) ?_ | refine exP (by omega) ?_ | apply And.intro)))
  · have h2 := sumT cntE e.args i (by omega)
    refine callS.eq (ih _ (List.getElem_mem _) (ha _ (List.getElem_mem _)) _ (by omega) (by omega)) ?_
    (refine R0 ?_; with_reducible repeat' first | exact trivial | intro h | refine aO ?_ | refine eO ?_ | apply And.intro)
    refine nx ⟨i + 1, by omega⟩ (by simp; omega) ?_ (by simp)
    simp [E2, h2, hs, -List.map_take]
    try omega
  all_goals first | (congr 2; omega) | (rw [List.take_of_length_le (by omega)] at hs; congr 2; omega)
theorem w156 (x : Sym) (hx : smSy x) : Pure Tryz.prog 156 [Sy x] (· = Sy x) := by
  unfold smSy at hx
  refine Pure.bor ?_
  refine gstart mxd i156 rfl (by simp) ?_; refine X0 ?_
  (refine R0 ?_; with_reducible repeat' first | exact trivial | intro h | refine aO ?_ | refine eO ?_ | apply And.intro)
  exact .agg (.cons .refl (.cons (Bor.allM (fun _ => rfl) hget_new rfl) .nil))
theorem w91 (g : Gram) (s : ByteArray) (hg : smGr g) : Pure Tryz.prog 91 [Gr g, T s] (· = .tup [Sy (fSym g.syms s), B (hSym g.syms s)]) := by
  refine Pure.bor ?_
  have hlen := hg.1
  refine gstart mxd i91 rfl (by simp) ?_; refine X0 ?_
  refine wloop mxd (ι := { i : Nat // i ≤ g.syms.length ∧ ∀ y ∈ g.syms.take i, decide (y.name = s) = false }) (fun i => [(1, T s), (2, .rop 2 (Gr g)), (4, .raw 2), (6, I i.1)]) (fun _ => []) (fun i => g.syms.length - i.1) ⟨0, by simp⟩ (by simp [E2]) rfl ?_
  rintro ⟨i, hi, hn⟩
  (refine R0 ?_; with_reducible repeat' first | exact trivial | intro h | refine aO ?_ | refine eO ?_ | apply And.intro)
  · subst h
    refine callS.eq (w156 g.syms[i] (hg.2.2.1 _ (List.getElem_mem _))) ?_
    (refine R0 ?_; with_reducible repeat' first | exact trivial | intro h | refine aO ?_ | refine eO ?_ | apply And.intro)
    have e := find_hit (p := fun x : Sym => decide (x.name = g.syms[i].name)) (xs := g.syms) (i := i) (by assumption) (by simp) hn
    simp only [fSym, hSym, e]
    exact .refl
  · exact nx ⟨i + 1, by omega, take_step (by assumption) (by simp [*]) hn⟩ (by simp; omega) (by simp [E2]) rfl
  · have : i = g.syms.length := by omega
    subst this
    rw [List.take_of_length_le (Nat.le_refl _)] at hn
    have e := find_none hn
    simp only [fSym, hSym, e]
    exact .tup (.cons (.agg (.cons .refl (.cons .nil .nil))) (.cons .refl .nil))
theorem w92 (g : Sym) (s : ByteArray) (hg : smSy g) : Pure Tryz.prog 92 [Sy g, T s] (· = .tup [At (fAtt g.atts s), B (hAtt g.atts s)]) := by
  unfold smSy at hg
  refine gstart mxd i92 rfl (by simp) ?_; refine X0 ?_
  refine wloop mxd (ι := { i : Nat // i ≤ g.atts.length ∧ ∀ y ∈ g.atts.take i, decide (y.name = s) = false }) (fun i => [(1, T s), (2, .rop 2 (Sy g)), (4, .raw 4), (6, I i.1)]) (fun _ => []) (fun i => g.atts.length - i.1) ⟨0, by simp⟩ (by simp [E2]) rfl ?_
  rintro ⟨i, hi, hn⟩
  (refine R0 ?_; with_reducible repeat' first | exact trivial | intro h | refine aO ?_ | refine eO ?_ | apply And.intro)
  · subst h
    have e := find_hit (p := fun x : Att => decide (x.name = g.atts[i].name)) (xs := g.atts) (i := i) (by assumption) (by simp) hn
    simp only [fAtt, hAtt, e]
    rfl
  · exact nx ⟨i + 1, by omega, take_step (by assumption) (by simp [*]) hn⟩ (by simp; omega) (by simp [E2]) rfl
  · have : i = g.atts.length := by omega
    subst this
    rw [List.take_of_length_le (Nat.le_refl _)] at hn
    have e := find_none hn
    simp only [fAtt, hAtt, e]
    rfl
theorem w103 (g : Gram) (s : ByteArray) (hg : smGr g) : Pure Tryz.prog 103 [Gr g, T s] (· = .tup [Sy (fSym g.syms s), B (hSym g.syms s)]) := by
  refine Pure.bor ?_
  have hlen := hg.1
  refine gstart mxd i103 rfl (by simp) ?_; refine X0 ?_
  refine wloop mxd (ι := { i : Nat // i ≤ g.syms.length ∧ ∀ y ∈ g.syms.take i, decide (y.name = s) = false }) (fun i => [(1, T s), (4, .raw 2), (9, SyS g.syms), (10, I g.syms.length), (11, I i.1)]) (fun _ => []) (fun i => g.syms.length - i.1) ⟨0, by simp⟩ (by simp [E2]) rfl ?_
  rintro ⟨i, hi, hn⟩
  (refine R0 ?_; with_reducible repeat' first | exact trivial | intro h | refine aO ?_ | refine eO ?_ | apply And.intro)
  · subst h
    have e := find_hit (p := fun x : Sym => decide (x.name = g.syms[i].name)) (xs := g.syms) (i := i) (by assumption) (by simp) hn
    simp only [fSym, hSym, e]
    exact .refl
  · exact nx ⟨i + 1, by omega, take_step (by assumption) (by simp [*]) hn⟩ (by simp; omega) (by simp [E2]) rfl
  · have : i = g.syms.length := by omega
    subst this
    rw [List.take_of_length_le (Nat.le_refl _)] at hn
    have e := find_none hn
    simp only [fSym, hSym, e]
    exact .tup (.cons (.agg (.cons .refl (.cons .nil .nil))) (.cons .refl .nil))
theorem w104 (g : Sym) (s : ByteArray) (hg : smSy g) : Pure Tryz.prog 104 [Sy g, T s] (· = .tup [At (fAtt g.atts s), B (hAtt g.atts s)]) := by
  unfold smSy at hg
  refine gstart mxd i104 rfl (by simp) ?_; refine X0 ?_
  refine wloop mxd (ι := { i : Nat // i ≤ g.atts.length ∧ ∀ y ∈ g.atts.take i, decide (y.name = s) = false }) (fun i => [(1, T s), (4, .raw 4), (9, AtS g.atts), (10, I g.atts.length), (11, I i.1)]) (fun _ => []) (fun i => g.atts.length - i.1) ⟨0, by simp⟩ (by simp [E2]) rfl ?_
  rintro ⟨i, hi, hn⟩
  (refine R0 ?_; with_reducible repeat' first | exact trivial | intro h | refine aO ?_ | refine eO ?_ | apply And.intro)
  · subst h
    have e := find_hit (p := fun x : Att => decide (x.name = g.atts[i].name)) (xs := g.atts) (i := i) (by assumption) (by simp) hn
    simp only [fAtt, hAtt, e]
    rfl
  · exact nx ⟨i + 1, by omega, take_step (by assumption) (by simp [*]) hn⟩ (by simp; omega) (by simp [E2]) rfl
  · have : i = g.atts.length := by omega
    subst this
    rw [List.take_of_length_le (Nat.le_refl _)] at hn
    have e := find_none hn
    simp only [fAtt, hAtt, e]
    rfl
theorem w232 : ∀ (e : Exp), wEx e ≤ 1048576 → Pure Tryz.prog 232 [Ex e] (· = Ex e) := by
  refine Exp.indA fun e ih hw => ?_
  obtain ⟨hl, ha⟩ := args_small hw
  refine Pure.bor ?_
  refine gstart mxd i232 rfl (by simp) ?_; refine X0 ?_
  (refine R1 @XE ?_; with_reducible repeat' first | exact trivial | intro h | refine aO ?_ | refine eO ?_ | apply And.intro)
  rename_i r hr q
  have h0 := neH_of h
  (replace h0 := h0; simp only [VN] at h0)
  refine ploop mxd (ι := { x : Nat × Nat // x.2 ≤ e.args.length }) (fun x => [(1, .ptr r 7 0 0), (2, .raw 7), (3, .own x.1.1 7 0 x.1.2), (4, I x.1.2)]) (fun x => [(x.1.1, 7, (e.args.take x.1.2).map Ex), (r, 7, [Ex e])]) (fun x => e.args.length - x.1.2) ⟨(q, 0), by simp⟩ (by simp [E2]) (by simp [subH, hget, names, h0]) ?_
  rintro ⟨⟨q, i⟩, hi⟩ hn
  dsimp only at hi hn ⊢
  (replace hn := hn; simp only [VN] at hn)
  ((try refine qI ?_); (repeat ((first | with_reducible refine qU ?_ | simp only [brGen]); try simp (maxSteps := 9^7) only [↓ S2, S2, vIte, ↓reduceIte, reduceNe, reduceEqDiff, reduceCtorEq, reduceLeDiff, reduceAdd, reduceLT, XE, hget_c, hset_c, hdel_c, hn, t_ldf])); (try simp +contextual (disch := omega) only [Z2, XE, hget_c, hset_c, hdel_c, hn, t_ldf]); (with_reducible repeat' (first | intro h | refine And.intro (by omega) ?_ | refine exP (by omega) ?_ | apply And.intro)))
  · refine callS.eq (ih _ (List.getElem_mem _) (ha _ (List.getElem_mem _))) ?_
    ((try refine qI ?_); (repeat ((first | with_reducible refine qU ?_ | simp only [brGen]); try simp (maxSteps := 9^7) only [↓ S2, S2, vIte, ↓reduceIte, reduceNe, reduceEqDiff, reduceCtorEq, reduceLeDiff, reduceAdd, reduceLT, XE, hget_c, hset_c, hdel_c, hn, t_ldf])); (try simp +contextual (disch := omega) only [Z2, XE, hget_c, hset_c, hdel_c, hn, t_ldf]); (with_reducible repeat' (first | intro h | refine And.intro (by omega) ?_ | refine exP (by omega) ?_ | apply And.intro)))
    rename_i q2
    have h2 := neH_of h
    (replace h2 := h2; simp only [VN] at h2)
    ((try refine qI ?_); (repeat ((first | with_reducible refine qU ?_ | simp only [brGen]); try simp (maxSteps := 9^7) only [↓ S2, S2, vIte, ↓reduceIte, reduceNe, reduceEqDiff, reduceCtorEq, reduceLeDiff, reduceAdd, reduceLT, XE, hget_c, hset_c, hdel_c, hn, h2, t_ldf])); (try simp +contextual (disch := omega) only [Z2, XE, hget_c, hset_c, hdel_c, hn, h2, t_ldf]); (with_reducible repeat' (first | intro h | refine And.intro (by omega) ?_ | refine exP (by omega) ?_ | apply And.intro)))
    · simp; omega
    rename_i q3
    have h3 := neH_of h
    (replace h3 := h3; simp only [VN] at h3)
    rw [takeApp Ex e.args i (by assumption)]
    exact px ⟨(q3, i + 1), by omega⟩ (by simp; omega) (by simp [E2]) (by simp [subH, hget, names, h3])
  · rw [Ex_eq e]
    refine .agg (.cons .refl (.cons .refl (.cons .refl (.cons .refl (.cons .refl (.cons .refl (.cons ?_ .nil)))))))
    have : i = e.args.length := by omega
    subst this
    rw [List.take_length]
    exact Bor.allM view_Ex hget_new rfl
theorem w90 (r : Rul) (p : Int) (hr : smRu r) : Pure Tryz.prog 90 [Ru r, I p] (· = T (symAt r p)) := by
  have hl := hr.1
  refine gstart mxd i90 rfl (by simp) ?_; refine X0 ?_
  (refine R0 ?_; with_reducible repeat' first | exact trivial | intro h | refine aO ?_ | refine eO ?_ | apply And.intro)
  · simp [symAt, h]
  refine callS.eq (w85 _ _ _) ?_
  (refine R0 ?_; with_reducible repeat' first | exact trivial | intro h | refine aO ?_ | refine eO ?_ | apply And.intro)
  · simp only [symAt, if_neg (show ¬ p = 0 from by assumption), if_pos h, getD_lt (show (p - 1).toNat < r.right.length by omega)]
  · simp only [symAt, if_neg (show ¬ p = 0 from by assumption), if_neg h]; rfl
theorem w164 (r : Rul) (p : Int) (hr : smRu r) : Pure Tryz.prog 164 [Ru r, I p] (· = T (symAt r p)) := by
  have hl := hr.1
  refine gstart mxd i164 rfl (by simp) ?_; refine X0 ?_
  (refine R0 ?_; with_reducible repeat' first | exact trivial | intro h | refine aO ?_ | refine eO ?_ | apply And.intro)
  · simp [symAt, h]
  refine callS.eq (w73 _ _ _) ?_
  (refine R0 ?_; with_reducible repeat' first | exact trivial | intro h | refine aO ?_ | refine eO ?_ | apply And.intro)
  · simp only [symAt, if_neg (show ¬ p = 0 from by assumption), if_pos h, getD_lt (show (p - 1).toNat < r.right.length by omega)]
  · simp only [symAt, if_neg (show ¬ p = 0 from by assumption), if_neg h]; rfl
theorem w202 (g : Gram) (s : ByteArray) (hg : smGr g) : Pure Tryz.prog 202 [Gr g, T s] (· = .tup [Ru (fRul g.rules s), B (hRul g.rules s)]) := by
  refine Pure.bor ?_
  have hlen := hg.2.1
  refine gstart mxd i202 rfl (by simp) ?_; refine X0 ?_
  refine wloop mxd (ι := { i : Nat // i ≤ g.rules.length ∧ ∀ y ∈ g.rules.take i, decide (y.name = s) = false }) (fun i => [(1, T s), (4, .raw 6), (9, RuS g.rules), (10, I g.rules.length), (11, I i.1)]) (fun _ => []) (fun i => g.rules.length - i.1) ⟨0, by simp⟩ (by simp [E2]) rfl ?_
  rintro ⟨i, hi, hn⟩
  (refine R0 ?_; with_reducible repeat' first | exact trivial | intro h | refine aO ?_ | refine eO ?_ | apply And.intro)
  · subst h
    have e := find_hit (p := fun x : Rul => decide (x.name = g.rules[i].name)) (xs := g.rules) (i := i) (by assumption) (by simp) hn
    simp only [fRul, hRul, e]
    exact .refl
  · exact nx ⟨i + 1, by omega, take_step (by assumption) (by simp [*]) hn⟩ (by simp; omega) (by simp [E2]) rfl
  · have : i = g.rules.length := by omega
    subst this
    rw [List.take_of_length_le (Nat.le_refl _)] at hn
    have e := find_none hn
    simp only [fRul, hRul, e]
    exact .tup (.cons (.agg (.cons .refl (.cons .refl (.cons .nil (.cons .refl (.cons .nil (.cons .nil .nil))))))) (.cons .refl .nil))
theorem w231 (e : Rul) (hr : smRu e) : Pure Tryz.prog 231 [Ru e] (· = Ru e) := by
  obtain ⟨h1, h2, h3, h4, h5⟩ := hr
  refine Pure.bor ?_
  refine gstart mxd i231 rfl (by simp) ?_; refine X0 ?_
  (refine R1 @XE ?_; with_reducible repeat' first | exact trivial | intro h | refine aO ?_ | refine eO ?_ | apply And.intro)
  rename_i ra _ rr _ r0
  have h0 := neH_of h
  (replace h0 := h0; simp only [VN] at h0)
  obtain ⟨v, ho, hv⟩ := vfresh [r0, rr]
  refine ploopF mxd (ι := { x : Nat × Nat // x.2 ≤ e.eqs.length }) (fun x => [(1, .rop 6 (Ru e)), (2, .raw 6), (3, .ptr r0 6 0 0), (4, I x.1.2)])
    (fun x => [(x.1.1, 9, (e.eqs.take x.1.2).map Qn), (r0, 6, [.agg [T e.name, T e.left, .own rr 1 0 e.right.length, B e.lit, .own x.1.1 9 0 x.1.2, .val (.slice none 0 0)]]), (rr, 1, e.right.map T)])
    (fun x => e.eqs.length - x.1.2) ⟨(v, 0), by simp⟩ (FE.virtF (i := 0) (j := 4) (sz1 := 9) hget_new rfl rfl ho hv) (by simp [E2]) ?_ ?_
  · simp only [List.mem_cons, List.not_mem_nil, or_false, not_or] at hv
    simp [subH, hget, hset, names, h0, hv]
  rintro ⟨⟨q, i⟩, hi⟩ hn
  dsimp only at hi hn ⊢
  (replace hn := hn; simp only [VN] at hn)
  ((try refine qI ?_); (repeat ((first | with_reducible refine qU ?_ | simp only [brGen]); try simp (maxSteps := 9^7) only [↓ S2, S2, vIte, ↓reduceIte, reduceNe, reduceEqDiff, reduceCtorEq, reduceLeDiff, reduceAdd, reduceLT, XE, hget_c, hset_c, hdel_c, hn, t_ldf])); (try simp +contextual (disch := omega) only [Z2, XE, hget_c, hset_c, hdel_c, hn, t_ldf]); (with_reducible repeat' (first | intro h | refine And.intro (by omega) ?_ | refine exP (by omega) ?_ | apply And.intro)))
  · refine callS.eq (w232 _ (h4 _ (List.getElem_mem _))) ?_
    ((try refine qI ?_); (repeat ((first | with_reducible refine qU ?_ | simp only [brGen]); try simp (maxSteps := 9^7) only [↓ S2, S2, vIte, ↓reduceIte, reduceNe, reduceEqDiff, reduceCtorEq, reduceLeDiff, reduceAdd, reduceLT, XE, hget_c, hset_c, hdel_c, hn, t_ldf])); (try simp +contextual (disch := omega) only [Z2, XE, hget_c, hset_c, hdel_c, hn, t_ldf]); (with_reducible repeat' (first | intro h | refine And.intro (by omega) ?_ | refine exP (by omega) ?_ | apply And.intro)))
    rename_i q2
    have h2 := neH_of h
    (replace h2 := h2; simp only [VN] at h2)
    ((try refine qI ?_); (repeat ((first | with_reducible refine qU ?_ | simp only [brGen]); try simp (maxSteps := 9^7) only [↓ S2, S2, vIte, ↓reduceIte, reduceNe, reduceEqDiff, reduceCtorEq, reduceLeDiff, reduceAdd, reduceLT, XE, hget_c, hset_c, hdel_c, hn, h2, t_ldf])); (try simp +contextual (disch := omega) only [Z2, XE, hget_c, hset_c, hdel_c, hn, h2, t_ldf]); (with_reducible repeat' (first | intro h | refine And.intro (by omega) ?_ | refine exP (by omega) ?_ | apply And.intro)))
    · simp; omega
    rename_i q3
    have h3 := neH_of h
    (replace h3 := h3; simp only [VN] at h3)
    ((try refine qI ?_); (repeat ((first | with_reducible refine qU ?_ | simp only [brGen]); try simp (maxSteps := 9^7) only [↓ S2, S2, vIte, ↓reduceIte, reduceNe, reduceEqDiff, reduceCtorEq, reduceLeDiff, reduceAdd, reduceLT, XE, hget_c, hset_c, hdel_c, hn, h2, h3, t_ldf])); (try simp +contextual (disch := omega) only [Z2, XE, hget_c, hset_c, hdel_c, hn, h2, h3, t_ldf]); (with_reducible repeat' (first | intro h | refine And.intro (by omega) ?_ | refine exP (by omega) ?_ | apply And.intro)))
    rw [takeApp Qn e.eqs i (by assumption)]
    exact px ⟨(q3, i + 1), by omega⟩ (by simp; omega) (by simp [E2]) (by simp [subH, hget, names, h3])
  · have : i = e.eqs.length := by omega
    subst this
    rw [List.take_length]
    obtain ⟨v, ho, hv⟩ := vfresh [q, r0, rr]
    refine ploopF mxd (ι := { x : Nat × Nat // x.2 ≤ e.cons.length }) (fun x => [(1, .rop 6 (Ru e)), (2, .raw 6), (3, .ptr r0 6 0 0), (5, I x.1.2)])
      (fun x => [(x.1.1, 16, (e.cons.take x.1.2).map Co), (q, 9, e.eqs.map Qn), (r0, 6, [.agg [T e.name, T e.left, .own rr 1 0 e.right.length, B e.lit, .own q 9 0 e.eqs.length, .own x.1.1 16 0 x.1.2]]), (rr, 1, e.right.map T)])
      (fun x => e.cons.length - x.1.2) ⟨(v, 0), by simp⟩ (FE.virtF (r := r0) (i := 0) (j := 5) (sz1 := 16) (by simp [hget, hn]; exact ⟨rfl, rfl⟩) rfl rfl ho hv) (by simp [E2]) ?_ ?_
    · simp only [List.mem_cons, List.not_mem_nil, or_false, not_or] at hv
      simp [subH, hget, hset, names, hn, hv]
    rintro ⟨⟨p, i⟩, hi⟩ hn
    dsimp only at hi hn ⊢
    (replace hn := hn; simp only [VN] at hn)
    ((try refine qI ?_); (repeat ((first | with_reducible refine qU ?_ | simp only [brGen]); try simp (maxSteps := 9^7) only [↓ S2, S2, vIte, ↓reduceIte, reduceNe, reduceEqDiff, reduceCtorEq, reduceLeDiff, reduceAdd, reduceLT, XE, hget_c, hset_c, hdel_c, hn, t_ldf])); (try simp +contextual (disch := omega) only [Z2, XE, hget_c, hset_c, hdel_c, hn, t_ldf]); (with_reducible repeat' (first | intro h | refine And.intro (by omega) ?_ | refine exP (by omega) ?_ | apply And.intro)))
    · refine callS.eq (w232 _ (h5 _ (List.getElem_mem _)).1) ?_
      ((try refine qI ?_); (repeat ((first | with_reducible refine qU ?_ | simp only [brGen]); try simp (maxSteps := 9^7) only [↓ S2, S2, vIte, ↓reduceIte, reduceNe, reduceEqDiff, reduceCtorEq, reduceLeDiff, reduceAdd, reduceLT, XE, hget_c, hset_c, hdel_c, hn, t_ldf])); (try simp +contextual (disch := omega) only [Z2, XE, hget_c, hset_c, hdel_c, hn, t_ldf]); (with_reducible repeat' (first | intro h | refine And.intro (by omega) ?_ | refine exP (by omega) ?_ | apply And.intro)))
      refine callS.eq (w232 _ (h5 _ (List.getElem_mem _)).2) ?_
      ((try refine qI ?_); (repeat ((first | with_reducible refine qU ?_ | simp only [brGen]); try simp (maxSteps := 9^7) only [↓ S2, S2, vIte, ↓reduceIte, reduceNe, reduceEqDiff, reduceCtorEq, reduceLeDiff, reduceAdd, reduceLT, XE, hget_c, hset_c, hdel_c, hn, t_ldf])); (try simp +contextual (disch := omega) only [Z2, XE, hget_c, hset_c, hdel_c, hn, t_ldf]); (with_reducible repeat' (first | intro h | refine And.intro (by omega) ?_ | refine exP (by omega) ?_ | apply And.intro)))
      rename_i q2
      have h2 := neH_of h
      (replace h2 := h2; simp only [VN] at h2)
      ((try refine qI ?_); (repeat ((first | with_reducible refine qU ?_ | simp only [brGen]); try simp (maxSteps := 9^7) only [↓ S2, S2, vIte, ↓reduceIte, reduceNe, reduceEqDiff, reduceCtorEq, reduceLeDiff, reduceAdd, reduceLT, XE, hget_c, hset_c, hdel_c, hn, h2, t_ldf])); (try simp +contextual (disch := omega) only [Z2, XE, hget_c, hset_c, hdel_c, hn, h2, t_ldf]); (with_reducible repeat' (first | intro h | refine And.intro (by omega) ?_ | refine exP (by omega) ?_ | apply And.intro)))
      · simp; omega
      rename_i q3
      have h3 := neH_of h
      (replace h3 := h3; simp only [VN] at h3)
      ((try refine qI ?_); (repeat ((first | with_reducible refine qU ?_ | simp only [brGen]); try simp (maxSteps := 9^7) only [↓ S2, S2, vIte, ↓reduceIte, reduceNe, reduceEqDiff, reduceCtorEq, reduceLeDiff, reduceAdd, reduceLT, XE, hget_c, hset_c, hdel_c, hn, h2, h3, t_ldf])); (try simp +contextual (disch := omega) only [Z2, XE, hget_c, hset_c, hdel_c, hn, h2, h3, t_ldf]); (with_reducible repeat' (first | intro h | refine And.intro (by omega) ?_ | refine exP (by omega) ?_ | apply And.intro)))
      rw [takeApp Co e.cons i (by assumption)]
      exact px ⟨(q3, i + 1), by omega⟩ (by simp; omega) (by simp [E2]) (by simp [subH, hget, names, h3])
    · have : i = e.cons.length := by omega
      subst this
      rw [List.take_length]
      exact .agg (.cons .refl (.cons .refl (.cons (Bor.allM (fun _ => rfl) (by simp [hget, hn]) rfl) (.cons .refl (.cons (Bor.allM (fun _ => rfl) (by simp [hget, hn]) rfl) (.cons (Bor.allM (fun _ => rfl) (by simp [hget, hn]) rfl) .nil))))))
theorem w183 (g : Gram) (s : ByteArray) (hg : smGr g) : Pure Tryz.prog 183 [Gr g, T s] (· = .tup [Ru (fRul g.rules s), B (hRul g.rules s)]) := by
  refine Pure.bor ?_
  have hlen := hg.2.1
  refine gstart mxd i183 rfl (by simp) ?_; refine X0 ?_
  refine wloop mxd (ι := { i : Nat // i ≤ g.rules.length ∧ ∀ y ∈ g.rules.take i, decide (y.name = s) = false }) (fun i => [(1, T s), (2, .rop 2 (Gr g)), (4, .raw 6), (6, I i.1)]) (fun _ => []) (fun i => g.rules.length - i.1) ⟨0, by simp⟩ (by simp [E2]) rfl ?_
  rintro ⟨i, hi, hn⟩
  (refine R0 ?_; with_reducible repeat' first | exact trivial | intro h | refine aO ?_ | refine eO ?_ | apply And.intro)
  · subst h
    refine callS.eq (w231 g.rules[i] (hg.2.2.2 _ (List.getElem_mem _))) ?_
    (refine R0 ?_; with_reducible repeat' first | exact trivial | intro h | refine aO ?_ | refine eO ?_ | apply And.intro)
    have e := find_hit (p := fun x : Rul => decide (x.name = g.rules[i].name)) (xs := g.rules) (i := i) (by assumption) (by simp) hn
    simp only [fRul, hRul, e]
    exact .refl
  · exact nx ⟨i + 1, by omega, take_step (by assumption) (by simp [*]) hn⟩ (by simp; omega) (by simp [E2]) rfl
  · have : i = g.rules.length := by omega
    subst this
    rw [List.take_of_length_le (Nat.le_refl _)] at hn
    have e := find_none hn
    simp only [fRul, hRul, e]
    exact .tup (.cons (.agg (.cons .refl (.cons .refl (.cons .nil (.cons .refl (.cons .nil (.cons .nil .nil))))))) (.cons .refl .nil))
theorem w115 (g : Gram) (t : List Nod) (i : Int) (hg : smGr g) : Pure Tryz.prog 115 [Gr g, Tr t, I i] (· = T (symN g t i)) := by
  refine GCalls.lenA fun hl => ?_
  obtain ⟨hlen, _⟩ := lenTr hl.2.1
  refine gstart mxd i115 rfl (by simp) ?_; refine X0 ?_
  by_cases h : 0 ≤ i ∧ i < t.length
  · obtain ⟨i, rfl⟩ : ∃ k : Nat, i = k := ⟨i.toNat, by omega⟩
    have hi : i < t.length := by omega
    rw [symN_in hi]
    (repeat' (first | (with_reducible refine callS.eq (w85 _ _ _) ?_) | (with_reducible refine callS.eq (w183 _ _ hg) ?_) | simp (maxSteps := 9^7) only [↓ S2, S2, vIte, ↓reduceIte, reduceNe, reduceEqDiff, reduceCtorEq, reduceLeDiff, reduceAdd, reduceLT] | simp only [brGen] | simp +contextual (disch := omega) only [Z2] | with_reducible first | intro h | refine And.intro (by omega) ?_ | refine exP (by omega) ?_ | apply And.intro))
    all_goals first | rfl | (exfalso; omega)
  · rw [symN_out h]
    (repeat' (first | (with_reducible refine callS.eq (w85 _ _ _) ?_) | (with_reducible refine callS.eq (w183 _ _ hg) ?_) | simp (maxSteps := 9^7) only [↓ S2, S2, vIte, ↓reduceIte, reduceNe, reduceEqDiff, reduceCtorEq, reduceLeDiff, reduceAdd, reduceLT] | simp only [brGen] | simp +contextual (disch := omega) only [Z2] | with_reducible first | intro h | refine And.intro (by omega) ?_ | refine exP (by omega) ?_ | apply And.intro))
    all_goals first | rfl | (exfalso; omega)
theorem w137 (g : Gram) (t : List Nod) (i : Int) (hg : smGr g) : Pure Tryz.prog 137 [Gr g, Tr t, I i] (· = T (symN g t i)) := by
  refine GCalls.lenA fun hl => ?_
  obtain ⟨hlen, _⟩ := lenTr hl.2.1
  refine gstart mxd i137 rfl (by simp) ?_; refine X0 ?_
  by_cases h : 0 ≤ i ∧ i < t.length
  · obtain ⟨i, rfl⟩ : ∃ k : Nat, i = k := ⟨i.toNat, by omega⟩
    have hi : i < t.length := by omega
    rw [symN_in hi]
    (repeat' (first | (with_reducible refine callS.eq (w201 _ _) ?_) | (with_reducible refine callS.eq (w202 _ _ hg) ?_) | simp (maxSteps := 9^7) only [↓ S2, S2, vIte, ↓reduceIte, reduceNe, reduceEqDiff, reduceCtorEq, reduceLeDiff, reduceAdd, reduceLT] | simp only [brGen] | simp +contextual (disch := omega) only [Z2] | with_reducible first | intro h | refine And.intro (by omega) ?_ | refine exP (by omega) ?_ | apply And.intro))
    all_goals first | rfl | (exfalso; omega)
  · rw [symN_out h]
    (repeat' (first | (with_reducible refine callS.eq (w201 _ _) ?_) | (with_reducible refine callS.eq (w202 _ _ hg) ?_) | simp (maxSteps := 9^7) only [↓ S2, S2, vIte, ↓reduceIte, reduceNe, reduceEqDiff, reduceCtorEq, reduceLeDiff, reduceAdd, reduceLT] | simp only [brGen] | simp +contextual (disch := omega) only [Z2] | with_reducible first | intro h | refine And.intro (by omega) ?_ | refine exP (by omega) ?_ | apply And.intro))
    all_goals first | rfl | (exfalso; omega)
theorem w101 (g : Gram) (r : Rul) (o : Int × ByteArray) (hg : smGr g) (hr : smRu r) : Pure Tryz.prog 101 [Gr g, Ru r, Occ o] (· = .tup [At (attAt g r o.1 o.2), B (hasAt g r o.1 o.2)]) := by
  have hl := hr.1
  refine gstart mxd i101 rfl (by simp) ?_; refine X0 ?_
  (repeat' (first | (with_reducible refine callS.eq (w73 _ _ _) ?_) | (with_reducible refine callS.eq (w164 r _ hr) ?_) | (with_reducible refine callS.eq (w103 _ _ hg) ?_) | (with_reducible refine callS.eq (w104 _ _ (smSy_f hg _)) ?_) | simp (maxSteps := 9^7) only [↓ S2, S2, vIte, ↓reduceIte, reduceNe, reduceEqDiff, reduceCtorEq, reduceLeDiff, reduceAdd, reduceLT] | simp only [brGen] | simp +contextual (disch := omega) only [Z2] | with_reducible first | intro h | refine And.intro (by omega) ?_ | refine exP (by omega) ?_ | apply And.intro))
  all_goals simp only [attAt, hasAt]
  · rw [if_pos (by assumption), if_pos (by assumption)]
  · rw [if_neg (by assumption), if_neg (by assumption)]; rfl
theorem w89 (g : Gram) (s n : ByteArray) (hg : smGr g) : Pure Tryz.prog 89 [Gr g, T s, T n] (· = I (fAtt (fSym g.syms s).atts n).type) := by
  refine gstart mxd i89 rfl (by simp) ?_; refine X0 ?_
  (repeat' (first | (with_reducible refine callS.eq (w91 _ _ hg) ?_) | (with_reducible refine callS.eq (w92 _ _ (smSy_f hg _)) ?_) | simp (maxSteps := 9^7) only [↓ S2, S2, vIte, ↓reduceIte, reduceNe, reduceEqDiff, reduceCtorEq, reduceLeDiff, reduceAdd, reduceLT] | simp only [brGen] | simp +contextual (disch := omega) only [Z2] | with_reducible first | intro h | refine And.intro (by omega) ?_ | refine exP (by omega) ?_ | apply And.intro))
  all_goals rw [fAtt_no (by assumption)]; rfl
theorem w203 (g : Gram) (t : List Nod) (x : Int × ByteArray) (hg : smGr g) : Pure Tryz.prog 203 [Gr g, Tr t, Ins x] (· = .tup [At (attN g t x.1 x.2), B (hasN g t x.1 x.2)]) := by
  refine gstart mxd i203 rfl (by simp) ?_; refine X0 ?_
  (repeat' (first | (with_reducible refine callS.eq (w204 _ _) ?_) | (with_reducible refine callS.eq (w137 _ _ _ hg) ?_) | (with_reducible refine callS.eq (w103 _ _ hg) ?_) | (with_reducible refine callS.eq (w104 _ _ (smSy_f hg _)) ?_) | simp (maxSteps := 9^7) only [↓ S2, S2, vIte, ↓reduceIte, reduceNe, reduceEqDiff, reduceCtorEq, reduceLeDiff, reduceAdd, reduceLT] | simp only [brGen] | simp +contextual (disch := omega) only [Z2] | with_reducible first | intro h | refine And.intro (by omega) ?_ | refine exP (by omega) ?_ | apply And.intro))
  all_goals simp only [attN, hasN]
  · rw [if_neg (by omega), if_neg (by omega)]; rfl
  · rw [if_pos (by omega), if_pos (by omega)]
theorem w184 (g : Gram) (t : List Nod) (x : Int × ByteArray) (hg : smGr g) : Pure Tryz.prog 184 [Gr g, Tr t, Ins x] (· = .tup [At (attN g t x.1 x.2), B (hasN g t x.1 x.2)]) := by
  refine gstart mxd i184 rfl (by simp) ?_; refine X0 ?_
  (repeat' (first | (with_reducible refine callS.eq (w185 _ _) ?_) | (with_reducible refine callS.eq (w115 _ _ _ hg) ?_) | (with_reducible refine callS.eq (w91 _ _ hg) ?_) | (with_reducible refine callS.eq (w92 _ _ (smSy_f hg _)) ?_) | simp (maxSteps := 9^7) only [↓ S2, S2, vIte, ↓reduceIte, reduceNe, reduceEqDiff, reduceCtorEq, reduceLeDiff, reduceAdd, reduceLT] | simp only [brGen] | simp +contextual (disch := omega) only [Z2] | with_reducible first | intro h | refine And.intro (by omega) ?_ | refine exP (by omega) ?_ | apply And.intro))
  all_goals simp only [attN, hasN]
  · rw [if_neg (by omega), if_neg (by omega)]; rfl
  · rw [if_pos (by omega), if_pos (by omega)]
end Go.Proofs.YtbdmpkidcpblaaaGreat
namespace Go.Proofs.YtbdmpkidcpblaaaGreat
open Go.Gh
open Nat (reduceEqDiff reduceLeDiff reduceAdd reduceLT)
open Int (reduceNe)
set_option maxRecDepth 20000
set_option linter.unusedSimpArgs false
set_option linter.unusedVariables false
end Go.Proofs.YtbdmpkidcpblaaaGreat
namespace Go.Proofs.YtbdmpkidcpblaaaGreat
open Go.Gh
open Nat (reduceEqDiff reduceLeDiff reduceAdd reduceLT)
open Int (reduceNe)
set_option maxRecDepth 20000
set_option linter.unusedSimpArgs false
set_option linter.unusedVariables false
end Go.Proofs.YtbdmpkidcpblaaaGreat
namespace Go.Proofs.YtbdmpkidcpblaaaGreat
open Go.Gh
open Nat (reduceEqDiff reduceLeDiff reduceAdd reduceLT)
open Int (reduceNe)
set_option maxRecDepth 20000
set_option linter.unusedSimpArgs false
set_option linter.unusedVariables false
end Go.Proofs.YtbdmpkidcpblaaaGreat
namespace Go.Proofs.YtbdmpkidcpblaaaGreat
open Go.Gh
open Nat (reduceEqDiff reduceLeDiff reduceAdd reduceLT)
open Int (reduceNe)
set_option maxRecDepth 20000
set_option linter.unusedSimpArgs false
set_option linter.unusedVariables false
end Go.Proofs.YtbdmpkidcpblaaaGreat
