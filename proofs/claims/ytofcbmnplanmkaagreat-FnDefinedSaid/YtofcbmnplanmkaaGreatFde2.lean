/- The law FnDefined returns true whatever the input, and the input reads behind the call as before. No condition. -/
import Derived.Test.YtofcbmnplanmkaaGreatFde1
import Derived.Test.YtofcbmnplanmkaaGreatRows
import Derived.Test.YtofcbmnplanmkaaGreatChecked
import Derived.KernelRfl
set_option maxHeartbeats 40000000
set_option linter.unusedSimpArgs false
set_option linter.unusedVariables false
namespace Go.Proofs.YtofcbmnplanmkaaGreat
open Go.Gh Go.Gh.Z
abbrev iF:=IsFun Tryz.prog
abbrev Pu:=Pure Tryz.prog
abbrev Gc:=GCalls Tryz.prog
def g5:GFun:=⟨⟨132,[3,4,5,6,8,10,13]⟩,(s [b 2 false] (.seq (s [m 15 0,c 16 6 [.t 15]] (.cond 16 (s [b 2 true] .ret) .skip)) (s [m 18 0,c 19 22 [.t 18],m 17 19,v 20 17 0,v 21 17 1,v 22 17 2,u 3 2,u 4 1,u 5 2,t 3 2 20,t 4 1 21,t 5 2 22]
 (s [h 24 2 3,h 25 1 4,h 26 2 5,c 27 23 [.t 24,.t 25,.t 26],m 23 27,v 28 23 0,v 29 23 1,u 6 8,t 6 8 28,m 7 29] (s [h 31 2 3,h 32 1 4,h 33 2 5,c 34 24 [.t 31,.t 32,.t 33],m 30 34,v 35 30 0,v 36 30 1,u 8 8,t 8 8 35,m 9 36] (.seq (s [m 37 7,
 m 38 9,x 39 (.beq true (.t 37) (.t 38)),m 40 39,z 41 40 (p 1 0 6),z 43 40 (p 1 0 8),z 42 40 (r 1 41),z 44 40 (r 1 43),z 45 40 (.bin .neq (.t 42) (.t 44)),x 46 (.pick (.t 40) (.k (.val (.bool true))) (.t 45)),m 47 46,z 48 47
 (.faddr 1 7 true (.t 6)),z 50 47 (.faddr 1 7 true (.t 8)),z 49 47 (j 7 48),z 51 47 (j 7 50),z 52 47 (.call true 25 [.t 49,.t 51]),z 53 47 (.not (.t 52)),x 54 (.pick (.t 47) (.k (.val (.bool true))) (.t 53)),m 55 54,z 56 55 (j 2 3),
 z 57 55 (j 1 4),z 58 55 (j 2 5),z 59 55 (.call true 27 [.t 56,.t 57,.t 58]),z 60 55 (j 2 3),z 61 55 (j 1 4),z 62 55 (j 2 5),z 63 55 (.call true 28 [.t 60,.t 61,.t 62]),z 64 55 (.call true 26 [.t 59,.t 63]),z 65 55 (.not (.t 64)),x 66
 (.pick (.t 55) (.k (.val (.bool true))) (.t 65))] (.cond 66 (s [b 2 false] .ret) .skip)) (s [h 68 2 3,h 69 1 4,h 70 2 5,c 71 29 [.t 68,.t 69,.t 70],m 67 71,v 72 67 0,v 73 67 1,u 10 4,t 10 4 72,m 11 73] (.seq (s [h 74 2 3,c 75 30 [.t 74],
 m 76 75,y 77 76 (j 2 3),y 78 76 (j 1 4),y 79 76 (.call false 31 [.t 77,.t 78]),x 80 (.pick (.t 76) (.t 79) (.k (.val (.bool false)))),m 81 80,y 82 81 (.mov (.t 7)),y 83 81 (.mov (.t 11)),y 84 81 (.mov (.t 83)),y 85 84 (p 1 2 10),y 86 84
 (r 1 85),y 87 84 (.bin .neq (.t 86) (.k (.val (.int .i64 3)))),y 88 81 (.pick (.t 84) (.t 87) (.k (.val (.bool false)))),y 89 81 (.beq true (.t 82) (.t 88)),x 90 (.pick (.t 81) (.t 89) (.k (.val (.bool false))))] (.cond 90
 (s [b 2 false] .ret) .skip)) (.seq (s [m 91 7,w 92 91] (.cond 92 (s [b 2 true] .ret) .skip)) (s [h 93 1 4,f 94 0 5,l 95 94,c 96 32 [.t 93,.t 95],m 12 96] (.seq (s [f 97 2 10,l 98 97,q 99 .eql 98 2] (.cond 99 (s [h 101 2 3,h 102 1 4,
 f 103 0 6,l 104 103,f 105 1 5,l 106 105,x 107 (.build [(.val (.int .i64 0)),(.val (.string (ByteArray.mk #[])))] [(1,(1,(.t 106)))]),c 108 33 [.t 101,.t 102,.t 104,.t 107],m 100 108,v 109 100 0,v 110 100 1,u 13 2,t 13 2 109,m 14 110]
 (s [f 111 0 6,l 112 111,m 113 12,o 114 .eql 112 113,m 115 114,y 116 115 (.mov (.t 14)),x 117 (.pick (.t 115) (.t 116) (.k (.val (.bool false)))),m 118 117,y 119 118 (j 2 13),y 120 118 (j 2 5),y 121 118 (.aeq false [1,2] (.t 119) (.t 120)),
 x 122 (.pick (.t 118) (.t 121) (.k (.val (.bool false)))),m 2 122] .ret)) .skip)) (s [f 123 0 6,f 125 0 4,m 127 12,l 124 123,l 126 125,i 128 6 126 127,f 129 1 128,l 130 129,o 131 .eql 124 130,m 2 131] .ret)))))))))))),[.t 2]⟩
theorem i5:iF 5 g5:=jF Tryz.func5
def g6:GFun:=⟨⟨6,[]⟩,(s [b 2 false] (s [m 3 0,n 4 3,q 5 .gtr 4 1048576,m 2 5] .ret)),[.t 2]⟩
theorem i6:iF 6 g6:=jF Tryz.func6
def g13:GFun:=⟨⟨59,[2,3,7]⟩,(s [a 2 2 0,a 3 1 1,x 4 (.mov (.k (.val (.slice none 0 0))))] (s [x 10 (.bslice 2 [] 0 true []),m 5 10] (.seq (s [h 11 2 2,h 12 1 3,h 13 2 2,h 14 1 3,x 15 (.call true 44 [.t 13,.t 14,(.k (.val
 (.int .i64 0)))]),x 16 (.call true 43 [.t 11,.t 12,.t 15]),w 17 16] (.cond 17 (s [m 18 5,m 4 18] .ret) .skip)) (.seq (s [k 6 0] (B 0 (.seq (s [m 19 6,f 20 0 3,l 21 20,n 22 21,o 23 .lss 19 22] (.cond 23 .skip (.exit 0))) (.seq (.block 1
 (s [m 30 6,u 7 2,h 27 2 2,h 28 2 2,h 29 1 3,x 31 (.call true 44 [.t 28,.t 29,.t 30]),x 32 (.call true 45 [.t 27,.t 31]),m 26 32,v 33 26 0,v 34 26 1,t 7 2 33,m 8 34] (s [k 9 0] (B 2 (.seq (s [m 35 9,f 36 1 7,l 37 36,n 38 37,
 o 39 .lss 35 38] (.cond 39 .skip (.exit 2))) (.seq (.block 3 (.reg [m 42 5,f 43 0 3,m 45 6,f 49 1 7,m 51 9,l 44 43,i 46 6 44 45,f 47 0 46,l 48 47,l 50 49,i 52 4 50 51,f 53 0 52,l 54 53,x 55 (.build [(.val (.int .i64 0)),(.val (.string
 (ByteArray.mk #[])))] [(0,(1,(.t 48))),(1,(1,(.t 54)))]),x 56 (.bslice 2 [] 1 true [(0,(.t 55))]),x 57 (.append 2 24 (.t 42) (.t 56)),m 5 57])) (.reg [m 40 9,q 41 .add 40 1,m 9 41]))))))) (.reg [m 24 6,q 25 .add 24 1,m 6 25])))))
 (s [m 58 5,m 4 58] .ret))))),[.t 4]⟩
theorem i13:iF 13 g13:=jF Tryz.func13
def g22:GFun:=⟨⟨10,[2,3,4]⟩,(s [u 2 2,u 3 1,u 4 2] (s [m 5 0,c 6 53 [.t 5],v 7 6 0,v 8 6 1,v 9 6 2,t 2 2 7,t 3 1 8,t 4 2 9] .ret)),[(.c 2 2 true),(.c 3 1 true),(.c 4 2 true)]⟩
theorem i22:iF 22 g22:=jF Tryz.func22
def g23:GFun:=⟨⟨81,[3,4,5,6,8,12,14]⟩,(s [a 3 2 0,a 4 1 1,a 5 2 2,u 6 8,b 7 false] (s [h 16 2 3,h 17 1 4,h 18 2 5,c 19 54 [.t 16,.t 17,.t 18],m 15 19,v 20 15 0,v 21 15 1,u 8 4,t 8 4 20,m 9 21] (.seq (s [m 22 9,w 23 22,m 24 23,z 25 24
 (p 1 2 8),z 26 24 (r 1 25),z 27 24 (.bin .eql (.t 26) (.k (.val (.int .i64 3)))),x 28 (.pick (.t 24) (.k (.val (.bool true))) (.t 27))] (.cond 28 (s [x 29 (.build [(.val (.int .i64 0)),(.val (.int .i64 0)),(.val (.int .i64 0)),(.val
 (.int .i64 0)),(.val (.int .i64 0)),(.val (.string (ByteArray.mk #[]))),(.val (.string (ByteArray.mk #[]))),(.val (.slice none 0 0))] []),t 6 8 29,b 7 false] .ret) .skip)) (s [f 31 0 5,f 34 1 5,h 30 1 4,l 32 31,x 33 (.call true 55 [.t 30,
 .t 32]),l 35 34,x 36 (.build [(.val (.int .i64 0)),(.val (.string (ByteArray.mk #[])))] [(1,(1,(.t 35)))]),x 11 (.alloc 2 (.agg [(.val (.int .i64 0)),(.val (.string (ByteArray.mk #[])))])),m 10 33,(.mk none none (.store 2 (.t 11)
 (.t 36)))] (.seq (s [f 37 2 8,l 38 37,q 39 .eql 38 1] (.cond 39 (.reg [f 40 0 4,m 42 10,f 46 0 4,m 48 10,l 41 40,i 43 6 41 42,f 44 1 43,l 45 44,m 10 45,l 47 46,i 49 6 47 48,f 50 2 49,l 51 50,f 52 0 11,(.mk none none (.store 1 (.t 52)
 (.t 51)))]) .skip)) (.seq (s [h 53 1 4,m 54 10,c 55 56 [.t 53,.t 54],w 56 55] (.cond 56 (s [x 57 (.build [(.val (.int .i64 0)),(.val (.int .i64 0)),(.val (.int .i64 0)),(.val (.int .i64 0)),(.val (.int .i64 0)),(.val (.string
 (ByteArray.mk #[]))),(.val (.string (ByteArray.mk #[]))),(.val (.slice none 0 0))] []),t 6 8 57,b 7 false] .ret) .skip)) (s [f 60 0 4,m 62 10,u 12 6,h 59 2 3,l 61 60,i 63 6 61 62,f 64 4 63,l 65 64,x 66 (.call true 57 [.t 59,.t 65]),
 m 58 66,v 67 58 0,v 68 58 1,t 12 6 67,m 13 68] (s [h 70 6 12,h 71 2 11,c 72 58 [.t 70,.t 71],m 69 72,v 73 69 0,v 74 69 1,u 14 7,t 14 7 73,m 9 74] (.seq (s [m 75 9,w 76 75] (.cond 76 (s [x 77 (.build [(.val (.int .i64 0)),(.val
 (.int .i64 0)),(.val (.int .i64 0)),(.val (.int .i64 0)),(.val (.int .i64 0)),(.val (.string (ByteArray.mk #[]))),(.val (.string (ByteArray.mk #[]))),(.val (.slice none 0 0))] []),t 6 8 77,b 7 false] .ret) .skip)) (s [m 78 10,h 79 7 14,
 x 80 (.build [(.val (.int .i64 0)),(.val (.int .i64 0)),(.val (.int .i64 0)),(.val (.int .i64 0)),(.val (.int .i64 0)),(.val (.string (ByteArray.mk #[]))),(.val (.string (ByteArray.mk #[]))),(.val (.slice none 0 0))] [(0,(1,(.t 78))),(1,
 (7,(.t 79)))]),t 6 8 80,b 7 true] .ret)))))))))),[(.c 6 8 true),.t 7]⟩
theorem i23:iF 23 g23:=jF Tryz.func23
def g24:GFun:=⟨⟨86,[3,4,5,6,8,13,15]⟩,(s [a 3 2 0,a 4 1 1,a 5 2 2,u 6 8,b 7 false] (s [h 18 2 3,h 19 1 4,h 20 2 5,c 21 29 [.t 18,.t 19,.t 20],m 17 21,v 22 17 0,v 23 17 1,u 8 4,t 8 4 22,m 9 23] (s [h 24 1 4,f 25 0 5,l 26 25,
 c 27 32 [.t 24,.t 26],m 10 27] (.seq (s [m 28 9,w 29 28,m 30 29,z 31 30 (p 1 2 8),z 32 30 (r 1 31),z 33 30 (.bin .eql (.t 32) (.k (.val (.int .i64 3)))),x 34 (.pick (.t 30) (.k (.val (.bool true))) (.t 33))] (.cond 34 (s [x 35
 (.build [(.val (.int .i64 0)),(.val (.int .i64 0)),(.val (.int .i64 0)),(.val (.int .i64 0)),(.val (.int .i64 0)),(.val (.string (ByteArray.mk #[]))),(.val (.string (ByteArray.mk #[]))),(.val (.slice none 0 0))] []),t 6 8 35,
 b 7 false] .ret) .skip)) (s [m 36 10,m 11 36] (s [k 12 0] (.seq (s [f 37 2 8,l 38 37,q 39 .eql 38 1] (.cond 39 (s [f 40 0 4,l 41 40,m 42 10,i 43 6 41 42,f 44 1 43,l 45 44,m 11 45] (.reg [f 46 0 4,l 47 46,m 48 10,i 49 6 47 48,f 50 2 49,
 l 51 50,m 12 51])) .skip)) (.seq (s [m 52 11,f 53 0 4,l 54 53,n 55 54,q 56 .sub 55 1,c 57 51 [.t 52,(.k (.val (.int .i64 0))),.t 56],w 58 57] (.cond 58 (s [x 59 (.build [(.val (.int .i64 0)),(.val (.int .i64 0)),(.val (.int .i64 0)),
 (.val (.int .i64 0)),(.val (.int .i64 0)),(.val (.string (ByteArray.mk #[]))),(.val (.string (ByteArray.mk #[]))),(.val (.slice none 0 0))] []),t 6 8 59,b 7 false] .ret) .skip)) (s [f 62 0 4,m 64 11,u 13 6,h 61 2 3,l 63 62,i 65 6 63 64,
 f 66 4 65,l 67 66,x 68 (.call true 59 [.t 61,.t 67]),m 60 68,v 69 60 0,v 70 60 1,t 13 6 69,m 14 70] (s [h 72 6 13,m 73 12,f 74 1 5,l 75 74,x 76 (.build [(.val (.int .i64 0)),(.val (.string (ByteArray.mk #[])))] [(0,(1,(.t 73))),(1,(1,
 (.t 75)))]),c 77 60 [.t 72,.t 76],m 71 77,v 78 71 0,v 79 71 1,u 15 7,t 15 7 78,m 16 79] (.seq (s [m 80 16,w 81 80] (.cond 81 (s [x 82 (.build [(.val (.int .i64 0)),(.val (.int .i64 0)),(.val (.int .i64 0)),(.val (.int .i64 0)),(.val
 (.int .i64 0)),(.val (.string (ByteArray.mk #[]))),(.val (.string (ByteArray.mk #[]))),(.val (.slice none 0 0))] []),t 6 8 82,b 7 false] .ret) .skip)) (s [m 83 11,h 84 7 15,x 85 (.build [(.val (.int .i64 0)),(.val (.int .i64 0)),(.val
 (.int .i64 0)),(.val (.int .i64 0)),(.val (.int .i64 0)),(.val (.string (ByteArray.mk #[]))),(.val (.string (ByteArray.mk #[]))),(.val (.slice none 0 0))] [(0,(1,(.t 83))),(1,(7,(.t 84)))]),t 6 8 85,b 7 true] .ret)))))))))))),
 [(.c 6 8 true),.t 7]⟩
theorem i24:iF 24 g24:=jF Tryz.func24
def g25:GFun:=⟨⟨74,[2,3]⟩,(s [a 2 7 0,a 3 7 1,b 4 false] (.seq (s [f 6 0 2,l 7 6,f 8 0 3,l 9 8,o 10 .neq 7 9,m 11 10,z 12 11 (p 1 1 2),z 13 11 (r 1 12),z 14 11 (p 1 1 3),z 15 11 (r 1 14),z 16 11 (.bin .neq (.t 13) (.t 15)),x 17 (.pick
 (.t 11) (.k (.val (.bool true))) (.t 16)),m 18 17,z 19 18 (p 1 2 2),z 20 18 (r 1 19),z 21 18 (p 1 2 3),z 22 18 (r 1 21),z 23 18 (.bin .neq (.t 20) (.t 22)),x 24 (.pick (.t 18) (.k (.val (.bool true))) (.t 23)),m 25 24,z 26 25 (p 1 3 2),
 z 27 25 (r 1 26),z 28 25 (p 1 3 3),z 29 25 (r 1 28),z 30 25 (.bin .neq (.t 27) (.t 29)),x 31 (.pick (.t 25) (.k (.val (.bool true))) (.t 30)),m 32 31,z 33 32 (p 1 4 2),z 34 32 (r 1 33),z 35 32 (p 1 4 3),z 36 32 (r 1 35),z 37 32
 (.bin .neq (.t 34) (.t 36)),x 38 (.pick (.t 32) (.k (.val (.bool true))) (.t 37)),m 39 38,z 40 39 (p 1 5 2),z 41 39 (r 1 40),z 42 39 (p 1 5 3),z 43 39 (r 1 42),z 44 39 (.bin .neq (.t 41) (.t 43)),x 45 (.pick (.t 39) (.k (.val
 (.bool true))) (.t 44)),m 46 45,z 47 46 (p 1 6 2),z 48 46 (r 1 47),z 49 46 (.len (.t 48)),z 50 46 (p 1 6 3),z 51 46 (r 1 50),z 52 46 (.len (.t 51)),z 53 46 (.bin .neq (.t 49) (.t 52)),x 54 (.pick (.t 46) (.k (.val (.bool true)))
 (.t 53))] (.cond 54 (s [b 4 false] .ret) .skip)) (.seq (s [k 5 0] (B 0 (.seq (s [m 55 5,f 56 6 2,l 57 56,n 58 57,o 59 .lss 55 58] (.cond 59 .skip (.exit 0))) (.seq (.block 1 (s [f 62 6 2,m 64 5,f 67 6 3,m 69 5,l 63 62,i 65 7 63 64,
 h 66 7 65,l 68 67,i 70 7 68 69,h 71 7 70,x 72 (.call true 25 [.t 66,.t 71]),w 73 72] (.cond 73 (s [b 4 false] .ret) .skip))) (.reg [m 60 5,q 61 .add 60 1,m 5 61]))))) (s [b 4 true] .ret)))),[.t 4]⟩
theorem i25:iF 25 g25:=jF Tryz.func25
def g26:GFun:=⟨⟨26,[]⟩,(s [b 4 false] (.seq (s [m 6 0,n 7 6,m 8 1,n 9 8,o 10 .neq 7 9] (.cond 10 (s [b 4 false] .ret) .skip)) (.seq (s [k 5 0] (B 0 (.seq (s [m 11 5,m 12 0,n 13 12,o 14 .lss 11 13] (.cond 14 .skip (.exit 0))) (.seq
 (.block 1 (s [m 17 0,m 18 5,i 19 2 17 18,m 21 1,m 22 5,i 23 2 21 22,h 20 2 19,h 24 2 23,x 25 (.aeq true [1,2] (.t 20) (.t 24))] (.cond 25 (s [b 4 false] .ret) .skip))) (.reg [m 15 5,q 16 .add 15 1,m 5 16]))))) (s [b 4 true] .ret)))),
 [.t 4]⟩
theorem i26:iF 26 g26:=jF Tryz.func26
def g27:GFun:=⟨⟨49,[3,4,5,8,11,12]⟩,(s [a 3 2 0,a 4 1 1,a 5 2 2,x 6 (.mov (.k (.val (.slice none 0 0))))] (s [x 14 (.bslice 2 [] 0 true []),m 7 14] (s [h 16 2 3,h 17 1 4,h 18 2 5,c 19 23 [.t 16,.t 17,.t 18],m 15 19,v 20 15 0,v 21 15 1,
 u 8 8,t 8 8 20,m 9 21] (.seq (s [m 22 9,w 23 22] (.cond 23 (s [m 24 7,m 6 24] .ret) .skip)) (.seq (s [e 25 1 7 8,h 26 7 25,c 27 61 [.t 26],n 28 27,k 29 0] (B 0 (s [o 30 .lss 29 28] (C 30 0 (.seq (.block 1 (s [i 31 2 27 29,h 32 2 31,u 11 2,
 t 11 2 32] (s [h 34 2 3,h 35 1 4,f 36 0 8,l 37 36,h 38 2 11,c 39 33 [.t 34,.t 35,.t 37,.t 38],m 33 39,v 40 33 0,v 41 33 1,u 12 2,t 12 2 40,m 13 41] (s [m 42 13] (.cond 42 (.reg [m 43 7,h 44 2 12,x 45 (.bslice 2 [] 1 true [(0,(.t 44))]),
 x 46 (.append 2 24 (.t 43) (.t 45)),m 7 46]) .skip))))) (.reg [q 47 .add 29 1,m 29 47])))))) (s [m 48 7,m 6 48] .ret)))))),[.t 6]⟩
theorem i27:iF 27 g27:=jF Tryz.func27
def g28:GFun:=⟨⟨52,[3,4,5,8,12]⟩,(s [a 3 2 0,a 4 1 1,a 5 2 2,x 6 (.mov (.k (.val (.slice none 0 0))))] (s [x 14 (.bslice 2 [] 0 true []),m 7 14] (s [h 16 2 3,h 17 1 4,h 18 2 5,c 19 24 [.t 16,.t 17,.t 18],m 15 19,v 20 15 0,v 21 15 1,
 u 8 8,t 8 8 20,m 9 21] (.seq (s [m 22 9,w 23 22] (.cond 23 (s [m 24 7,m 6 24] .ret) .skip)) (s [e 25 1 7 8,h 26 7 25,c 27 62 [.t 26],m 10 27] (.seq (s [k 11 0] (B 0 (.seq (s [m 28 11,m 29 10,n 30 29,o 31 .lss 28 30] (.cond 31 .skip
 (.exit 0))) (.seq (.block 1 (s [f 37 0 8,m 39 10,m 40 11,i 41 2 39 40,u 12 2,h 35 2 3,h 36 1 4,l 38 37,h 42 2 41,x 43 (.call true 63 [.t 35,.t 36,.t 38,.t 42]),m 34 43,v 44 34 0,v 45 34 1,t 12 2 44,m 13 45] (s [m 46 13] (.cond 46
 (.reg [m 47 7,h 48 2 12,x 49 (.bslice 2 [] 1 true [(0,(.t 48))]),x 50 (.append 2 24 (.t 47) (.t 49)),m 7 50]) .skip)))) (.reg [m 32 11,q 33 .add 32 1,m 11 33]))))) (s [m 51 7,m 6 51] .ret))))))),[.t 6]⟩
theorem i28:iF 28 g28:=jF Tryz.func28
def g29:GFun:=⟨⟨34,[3,4,5,6,8]⟩,(s [a 3 2 0,a 4 1 1,a 5 2 2,u 6 4,b 7 false] (.seq (s [h 10 1 4,f 11 0 5,l 12 11,c 13 32 [.t 10,.t 12],q 14 .lss 13 0] (.cond 14 (s [x 15 (.build [(.val (.string (ByteArray.mk #[]))),(.val (.int .i64 0)),
 (.val (.int .i64 0)),(.val (.bool false))] []),t 6 4 15,b 7 false] .ret) .skip)) (s [f 21 0 5,u 8 2,h 17 2 3,h 18 2 3,h 19 1 4,h 20 1 4,l 22 21,x 23 (.call true 32 [.t 20,.t 22]),x 24 (.call true 44 [.t 18,.t 19,.t 23]),x 25
 (.call true 45 [.t 17,.t 24]),m 16 25,v 26 16 0,v 27 16 1,t 8 2 26,m 9 27] (s [h 28 2 8,f 29 1 5,l 30 29,c 31 64 [.t 28,.t 30],v 32 31 0,v 33 31 1,t 6 4 32,m 7 33] .ret)))),[(.c 6 4 true),.t 7]⟩
theorem i29:iF 29 g29:=jF Tryz.func29
def g30:GFun:=⟨⟨12,[1]⟩,(s [a 1 2 0,b 2 false] (s [h 6 2 1,c 7 65 [.t 6],m 5 7,v 8 5 0,v 9 5 1,m 3 8,m 4 9] (s [m 10 3,q 11 .eql 10 0,m 2 11] .ret))),[.t 2]⟩
theorem i30:iF 30 g30:=jF Tryz.func30
def g31:GFun:=⟨⟨10,[2,3]⟩,(s [a 2 2 0,a 3 1 1,b 4 false] (s [h 5 2 2,h 6 1 3,h 7 2 2,x 8 (.call true 66 [.t 7]),x 9 (.call true 43 [.t 5,.t 6,.t 8]),m 4 9] .ret)),[.t 4]⟩
theorem i31:iF 31 g31:=jF Tryz.func31
def g32:GFun:=⟨⟨22,[2]⟩,(s [a 2 1 0,k 4 0] (.seq (s [k 5 0] (B 0 (.seq (s [m 6 5,f 7 0 2,l 8 7,n 9 8,o 10 .lss 6 9] (.cond 10 .skip (.exit 0))) (.seq (.block 1 (s [f 13 0 2,l 14 13,m 15 5,i 16 6 14 15,f 17 0 16,l 18 17,m 19 1,
 o 20 .eql 18 19] (.cond 20 (s [m 21 5,m 4 21] .ret) .skip))) (.reg [m 11 5,q 12 .add 11 1,m 5 12]))))) (s [k 4 (-1)] .ret))),[.t 4]⟩
theorem i32:iF 32 g32:=jF Tryz.func32
def g33:GFun:=⟨⟨55,[4,5,7,8]⟩,(s [a 4 2 0,a 5 1 1,a 7 2 3,u 8 2,b 9 false] (.seq (s [h 10 1 5,m 11 2,c 12 56 [.t 10,.t 11],w 13 12] (.cond 13 (s [x 14 (.build [(.val (.int .i64 0)),(.val (.string (ByteArray.mk #[])))] []),t 8 2 14,
 b 9 false] .ret) .skip)) (.seq (s [f 15 0 7,l 16 15,q 17 .neq 16 0] (.cond 17 (.seq (s [f 18 0 7,f 20 0 5,m 22 2,l 19 18,l 21 20,i 23 6 21 22,f 24 5 23,l 25 24,n 26 25,x 27 (.call true 48 [.t 19,(.k (.val (.int .i64 1))),.t 26]),w 28 27]
 (.cond 28 (s [x 29 (.build [(.val (.int .i64 0)),(.val (.string (ByteArray.mk #[])))] []),t 8 2 29,b 9 false] .ret) .skip)) (.reg [f 30 0 5,m 32 2,f 36 0 7,l 31 30,i 33 6 31 32,f 34 5 33,l 35 34,l 37 36,q 38 .sub 37 1,i 39 1 35 38,l 40 39,
 m 2 40])) .skip)) (.seq (s [h 41 1 5,m 42 2,c 43 56 [.t 41,.t 42],w 44 43] (.cond 44 (s [x 45 (.build [(.val (.int .i64 0)),(.val (.string (ByteArray.mk #[])))] []),t 8 2 45,b 9 false] .ret) .skip)) (s [f 46 0 5,m 48 2,f 52 1 7,l 47 46,
 i 49 6 47 48,f 50 0 49,l 51 50,l 53 52,x 54 (.build [(.val (.int .i64 0)),(.val (.string (ByteArray.mk #[])))] [(0,(1,(.t 51))),(1,(1,(.t 53)))]),t 8 2 54,b 9 true] .ret))))),[(.c 8 2 true),.t 9]⟩
theorem i33:iF 33 g33:=jF Tryz.func33
def g34:GFun:=⟨⟨16,[2,3,5]⟩,(s [u 2 2,u 3 1] (s [m 6 0,c 7 49 [.t 6],m 4 7] (s [m 8 4,m 9 4,c 10 68 [.t 9,(.k (.val (.int .i64 2)))],c 11 67 [.t 8,.t 10],u 5 2,t 5 2 11] (s [m 13 4,h 12 2 5,h 14 2 5,x 15 (.calla 69 [.t 13,.t 14]),
 t 2 2 12,t 3 1 15] .ret)))),[(.c 2 2 true),(.c 3 1 true)]⟩
theorem i34:iF 34 g34:=jF Tryz.func34 [(3,144)]
def g43:GFun:=⟨⟨19,[3,4]⟩,(s [a 3 2 0,a 4 1 1,b 6 false] (s [h 7 1 4,x 8 (.call true 80 [.t 7]),m 9 8,y 12 9 (.mov (.t 2)),y 14 9 (p 1 0 4),y 10 9 (j 2 3),y 11 9 (j 1 4),y 13 9 (.call true 81 [.t 10,.t 11,(.k (.val (.int .i64 0))),(.k
 (.val (.int .i64 (-1)))),(.k (.val (.int .i64 0))),.t 12]),y 15 9 (r 1 14),y 16 9 (.len (.t 15)),y 17 9 (.bin .eql (.t 13) (.t 16)),x 18 (.pick (.t 9) (.t 17) (.k (.val (.bool false)))),m 6 18] .ret)),[.t 6]⟩
theorem i43:iF 43 g43:=jF Tryz.func43
def g44:GFun:=⟨⟨29,[3,4,7]⟩,(s [a 3 2 0,a 4 1 1,x 6 (.mov (.k (.val (.string (ByteArray.mk #[])))))] (.seq (s [m 9 2,f 10 0 4,l 11 10,n 12 11,q 13 .sub 12 1,c 14 51 [.t 9,(.k (.val (.int .i64 0))),.t 13],w 15 14] (.cond 15 (s [x 6
 (.mov (.k (.val (.string (ByteArray.mk #[])))))] .ret) .skip)) (s [f 18 0 4,m 20 2,u 7 6,h 17 2 3,l 19 18,i 21 6 19 20,f 22 4 21,l 23 22,x 24 (.call true 59 [.t 17,.t 23]),m 16 24,v 25 16 0,v 26 16 1,t 7 6 25,m 8 26] (s [f 27 1 7,l 28 27,
 m 6 28] .ret)))),[.t 6]⟩
theorem i44:iF 44 g44:=jF Tryz.func44
def g45:GFun:=⟨⟨29,[2,4]⟩,(s [a 2 2 0,u 4 2,b 5 false] (.seq (s [k 6 0] (B 0 (.seq (s [m 7 6,f 8 0 2,l 9 8,n 10 9,o 11 .lss 7 10] (.cond 11 .skip (.exit 0))) (.seq (.block 1 (s [f 14 0 2,l 15 14,m 16 6,i 17 2 15 16,f 18 0 17,l 19 18,
 m 20 1,o 21 .eql 19 20] (.cond 21 (s [f 22 0 2,l 23 22,m 24 6,i 25 2 23 24,h 26 2 25,c 27 82 [.t 26],t 4 2 27,b 5 true] .ret) .skip))) (.reg [m 12 6,q 13 .add 12 1,m 6 13]))))) (s [x 28 (.build [(.val (.string (ByteArray.mk #[]))),(.val
 (.slice none 0 0))] []),t 4 2 28,b 5 false] .ret))),[(.c 4 2 true),.t 5]⟩
theorem i45:iF 45 g45:=jF Tryz.func45
def g48:GFun:=⟨⟨15,[]⟩,(s [b 6 false] (s [m 7 0,m 8 1,o 9 .geq 7 8,m 10 9,y 11 10 (.mov (.t 0)),y 12 10 (.mov (.t 2)),y 13 10 (.bin .leq (.t 11) (.t 12)),x 14 (.pick (.t 10) (.t 13) (.k (.val (.bool false)))),m 6 14] .ret)),[.t 6]⟩
theorem i48:iF 48 g48:=jF Tryz.func48
def g49:GFun:=⟨⟨32,[]⟩,(s [x 2 (.mov (.k (.val (.pointer none))))] (s [m 5 0,n 6 5,x 7 (.bin .add (.k (.val (.int .i64 26583))) (.t 6)),m 3 7] (.seq (s [k 4 0] (B 0 (.seq (s [m 8 4,m 9 0,n 10 9,o 11 .lss 8 10,m 12 11,y 13 12 (.mov
 (.t 4)),y 14 12 (.bin .lss (.t 13) (.k (.val (.int .i64 4000)))),x 15 (.pick (.t 12) (.t 14) (.k (.val (.bool false))))] (.cond 15 .skip (.exit 0))) (.seq (.block 1 (.reg [m 18 3,q 19 .mul 18 131,m 20 0,m 21 4,i 22 1 20 21,l 23 22,x 24
 (.conv .i64 (.t 23)),o 25 .add 19 24,q 26 .add 25 7,q 27 .and 26 1073741823,m 3 27])) (.reg [m 16 4,q 17 .add 16 1,m 4 17]))))) (s [m 28 0,m 29 3,x 30 (.build [(.val (.slice none 0 0)),(.val (.int .i64 0)),(.val (.int .i64 0))] [(0,(1,
 (.t 28))),(2,(1,(.t 29)))]),x 31 (.box 3 (.t 30)),m 2 31] .ret)))),[.t 2]⟩
theorem i49:iF 49 g49:=jF Tryz.func49
def g50:GFun:=⟨⟨37,[]⟩,(s [k 4 0] (.seq (s [m 9 1,q 10 .leq 9 0] (.cond 10 (s [k 4 0] .ret) .skip)) (.seq (s [m 11 1,q 12 .leq 11 256] (.cond 12 (s [m 13 0,c 14 84 [.t 13],m 15 1,o 16 .rem 14 15,m 4 16] .ret) .skip)) (s [m 17 0,
 c 18 84 [.t 17],m 5 18] (s [m 19 0,c 20 84 [.t 19],m 6 20] (s [m 21 0,c 22 84 [.t 21],m 7 22] (s [m 23 0,c 24 84 [.t 23],m 8 24] (s [m 25 5,q 26 .mul 25 16777216,m 27 6,q 28 .mul 27 65536,o 29 .add 26 28,m 30 7,q 31 .mul 30 256,
 o 32 .add 29 31,m 33 8,o 34 .add 32 33,m 35 1,o 36 .rem 34 35,m 4 36] .ret)))))))),[.t 4]⟩
theorem i50:iF 50 g50:=jF Tryz.func50
def g51:GFun:=⟨⟨15,[]⟩,(s [b 6 false] (s [m 7 0,m 8 1,o 9 .geq 7 8,m 10 9,y 11 10 (.mov (.t 0)),y 12 10 (.mov (.t 2)),y 13 10 (.bin .leq (.t 11) (.t 12)),x 14 (.pick (.t 10) (.t 13) (.k (.val (.bool false)))),m 6 14] .ret)),[.t 6]⟩
theorem i51:iF 51 g51:=jF Tryz.func51
def g53:GFun:=⟨⟨19,[2,3,4,5,6]⟩,(s [u 2 2,u 3 1,u 4 2] (s [m 8 0,c 9 34 [.t 8],m 7 9,v 10 7 0,v 11 7 1,u 5 2,u 6 1,t 5 2 10,t 6 1 11] (s [m 14 0,h 12 2 5,h 13 1 6,h 16 2 5,h 17 1 6,x 15 (.calla 49 [.t 14]),x 18 (.calla 86 [.t 15,.t 16,
 .t 17]),t 2 2 12,t 3 1 13,t 4 2 18] .ret))),[(.c 2 2 true),(.c 3 1 true),(.c 4 2 true)]⟩
theorem i53:iF 53 g53:=jF Tryz.func53 [(2,8336)]
def g54:GFun:=⟨⟨33,[3,4,5,6,9]⟩,(s [a 3 2 0,a 4 1 1,a 5 2 2,u 6 4,b 7 false] (s [h 11 1 4,f 12 0 5,l 13 12,c 14 55 [.t 11,.t 13],m 8 14] (.seq (s [m 15 8,q 16 .lss 15 0] (.cond 16 (s [x 17 (.build [(.val (.string (ByteArray.mk #[]))),
 (.val (.int .i64 0)),(.val (.int .i64 0)),(.val (.bool false))] []),t 6 4 17,b 7 false] .ret) .skip)) (s [m 22 8,u 9 2,h 19 2 3,h 20 2 3,h 21 1 4,x 23 (.call true 78 [.t 20,.t 21,.t 22]),x 24 (.call true 77 [.t 19,.t 23]),m 18 24,
 v 25 18 0,v 26 18 1,t 9 2 25,m 10 26] (s [h 27 2 9,f 28 1 5,l 29 28,c 30 87 [.t 27,.t 29],v 31 30 0,v 32 30 1,t 6 4 31,m 7 32] .ret))))),[(.c 6 4 true),.t 7]⟩
theorem i54:iF 54 g54:=jF Tryz.func54
def g55:GFun:=⟨⟨9,[2,3]⟩,(s [a 2 1 0,a 3 1 1,k 4 0] (s [f 5 0 2,l 6 5,x 7 (.mkfn 89 [.t 3]),c 8 88 [.t 6,.t 7],m 4 8] .ret)),[.t 4]⟩
theorem i55:iF 55 g55:=jF Tryz.func55
def g56:GFun:=⟨⟨11,[2]⟩,(s [a 2 1 0,b 4 false] (s [m 5 1,f 6 0 2,l 7 6,n 8 7,q 9 .sub 8 1,c 10 48 [.t 5,(.k (.val (.int .i64 0))),.t 9],m 4 10] .ret)),[.t 4]⟩
theorem i56:iF 56 g56:=jF Tryz.func56
def g57:GFun:=⟨⟨22,[2,4,7]⟩,(s [a 2 2 0,u 4 6,b 5 false] (.seq (s [f 8 1 2,l 9 8,n 10 9,k 11 0] (B 0 (s [o 12 .lss 11 10] (C 12 0 (.seq (.block 1 (s [i 13 6 9 11,h 14 6 13,u 7 6,t 7 6 14] (s [f 15 0 7,l 16 15,m 17 1,o 18 .eql 16 17]
 (.cond 18 (s [h 19 6 7,t 4 6 19,b 5 true] .ret) .skip)))) (.reg [q 20 .add 11 1,m 11 20])))))) (s [x 21 (.build [(.val (.string (ByteArray.mk #[]))),(.val (.string (ByteArray.mk #[]))),(.val (.slice none 0 0)),(.val (.bool false)),(.val
 (.slice none 0 0)),(.val (.slice none 0 0))] []),t 4 6 21,b 5 false] .ret))),[(.c 4 6 true),.t 5]⟩
theorem i57:iF 57 g57:=jF Tryz.func57
def g58:GFun:=⟨⟨24,[2,3,4,7]⟩,(s [a 2 6 0,a 3 2 1,u 4 7,b 5 false] (.seq (s [f 8 4 2,l 9 8,n 10 9,k 11 0] (B 0 (s [o 12 .lss 11 10] (C 12 0 (.seq (.block 1 (s [i 13 9 9 11,h 14 9 13,u 7 9,t 7 9 14] (s [e 15 0 2 7,h 16 2 15,h 17 2 3,
 x 18 (.aeq false [1,2] (.t 16) (.t 17))] (.cond 18 (s [e 19 2 7 7,h 20 7 19,c 21 90 [.t 20],t 4 7 21,b 5 true] .ret) .skip)))) (.reg [q 22 .add 11 1,m 11 22])))))) (s [x 23 (.build [(.val (.int .i64 0)),(.val (.int .i64 0)),(.val
 (.int .i64 0)),(.val (.int .i64 0)),(.val (.string (ByteArray.mk #[]))),(.val (.string (ByteArray.mk #[]))),(.val (.slice none 0 0))] []),t 4 7 23,b 5 false] .ret))),[(.c 4 7 true),.t 5]⟩
theorem i58:iF 58 g58:=jF Tryz.func58
def g59:GFun:=⟨⟨29,[2,4]⟩,(s [a 2 2 0,u 4 6,b 5 false] (.seq (s [k 6 0] (B 0 (.seq (s [m 7 6,f 8 1 2,l 9 8,n 10 9,o 11 .lss 7 10] (.cond 11 .skip (.exit 0))) (.seq (.block 1 (s [f 14 1 2,l 15 14,m 16 6,i 17 6 15 16,f 18 0 17,l 19 18,
 m 20 1,o 21 .eql 19 20] (.cond 21 (s [f 22 1 2,l 23 22,m 24 6,i 25 6 23 24,h 26 6 25,c 27 91 [.t 26],t 4 6 27,b 5 true] .ret) .skip))) (.reg [m 12 6,q 13 .add 12 1,m 6 13]))))) (s [x 28 (.build [(.val (.string (ByteArray.mk #[]))),(.val
 (.string (ByteArray.mk #[]))),(.val (.slice none 0 0)),(.val (.bool false)),(.val (.slice none 0 0)),(.val (.slice none 0 0))] []),t 4 6 28,b 5 false] .ret))),[(.c 4 6 true),.t 5]⟩
theorem i59:iF 59 g59:=jF Tryz.func59
def g60:GFun:=⟨⟨30,[2,3,4]⟩,(s [a 2 6 0,a 3 2 1,u 4 7,b 5 false] (.seq (s [k 6 0] (B 0 (.seq (s [m 7 6,f 8 4 2,l 9 8,n 10 9,o 11 .lss 7 10] (.cond 11 .skip (.exit 0))) (.seq (.block 1 (s [f 14 4 2,m 16 6,l 15 14,i 17 9 15 16,
 e 18 0 2 17,h 19 2 18,h 20 2 3,x 21 (.aeq false [1,2] (.t 19) (.t 20))] (.cond 21 (s [f 22 4 2,l 23 22,m 24 6,i 25 9 23 24,e 26 2 7 25,h 27 7 26,c 28 92 [.t 27],t 4 7 28,b 5 true] .ret) .skip))) (.reg [m 12 6,q 13 .add 12 1,m 6 13])))))
 (s [x 29 (.build [(.val (.int .i64 0)),(.val (.int .i64 0)),(.val (.int .i64 0)),(.val (.int .i64 0)),(.val (.string (ByteArray.mk #[]))),(.val (.string (ByteArray.mk #[]))),(.val (.slice none 0 0))] []),t 4 7 29,b 5 false] .ret))),
 [(.c 4 7 true),.t 5]⟩
theorem i60:iF 60 g60:=jF Tryz.func60
def g61:GFun:=⟨⟨12,[1]⟩,(s [a 1 7 0,x 2 (.mov (.k (.val (.slice none 0 0))))] (s [x 4 (.bslice 2 [] 0 true []),x 3 (.alloc 1 (.val (.slice none 0 0))),(.mk none none (.store 1 (.t 3) (.t 4)))] (s [h 5 7 1,x 6 (.mkfn 94 [.t 3]),
 c 7 93 [.t 5,.t 6]] (s [l 8 3,x 9 (.call false 95 [.t 8,(.k (.clo 96 []))])] (s [l 10 3,c 11 97 [.t 10],m 2 11] .ret))))),[.t 2]⟩
theorem i61:iF 61 g61:=jF Tryz.func61
def g62:GFun:=⟨⟨6,[1]⟩,(s [a 1 7 0,x 2 (.mov (.k (.val (.slice none 0 0))))] (s [h 3 7 1,x 4 (.bslice 2 [] 0 true []),c 5 98 [.t 3,.t 4],m 2 5] .ret)),[.t 2]⟩
theorem i62:iF 62 g62:=jF Tryz.func62
def g63:GFun:=⟨⟨62,[4,5,7,8]⟩,(s [a 4 2 0,a 5 1 1,a 7 2 3,u 8 2,b 9 false] (.seq (s [m 10 2,f 11 0 5,l 12 11,n 13 12,q 14 .sub 13 1,x 15 (.call true 51 [.t 10,(.k (.val (.int .i64 0))),.t 14]),w 16 15,m 17 16,z 18 17 (p 1 0 7),z 20 17
 (p 1 0 5),z 22 17 (.mov (.t 2)),z 19 17 (r 1 18),z 21 17 (r 1 20),z 23 17 (.iaddr 6 (.t 21) (.t 22)),z 24 17 (p 1 5 23),z 25 17 (r 1 24),z 26 17 (.len (.t 25)),z 27 17 (.call true 51 [.t 19,(.k (.val (.int .i64 0))),.t 26]),z 28 17 (.not
 (.t 27)),x 29 (.pick (.t 17) (.k (.val (.bool true))) (.t 28))] (.cond 29 (s [x 30 (.build [(.val (.int .i64 0)),(.val (.string (ByteArray.mk #[])))] []),t 8 2 30,b 9 false] .ret) .skip)) (.seq (s [f 31 0 7,l 32 31,q 33 .gtr 32 0]
 (.cond 33 (.reg [f 34 0 5,m 36 2,f 40 0 7,l 35 34,i 37 6 35 36,f 38 5 37,l 39 38,l 41 40,q 42 .sub 41 1,i 43 1 39 42,l 44 43,m 2 44]) .skip)) (.seq (s [m 45 2,f 46 0 5,l 47 46,n 48 47,q 49 .sub 48 1,c 50 51 [.t 45,(.k (.val
 (.int .i64 0))),.t 49],w 51 50] (.cond 51 (s [x 52 (.build [(.val (.int .i64 0)),(.val (.string (ByteArray.mk #[])))] []),t 8 2 52,b 9 false] .ret) .skip)) (s [f 53 0 5,m 55 2,f 59 1 7,l 54 53,i 56 6 54 55,f 57 0 56,l 58 57,l 60 59,x 61
 (.build [(.val (.int .i64 0)),(.val (.string (ByteArray.mk #[])))] [(0,(1,(.t 58))),(1,(1,(.t 60)))]),t 8 2 61,b 9 true] .ret))))),[(.c 8 2 true),.t 9]⟩
theorem i63:iF 63 g63:=jF Tryz.func63
def g64:GFun:=⟨⟨28,[2,4]⟩,(s [a 2 2 0,u 4 4,b 5 false] (.seq (s [k 6 0] (B 0 (.seq (s [m 7 6,f 8 1 2,l 9 8,n 10 9,o 11 .lss 7 10] (.cond 11 .skip (.exit 0))) (.seq (.block 1 (s [f 14 1 2,l 15 14,m 16 6,i 17 4 15 16,f 18 0 17,l 19 18,
 m 20 1,o 21 .eql 19 20] (.cond 21 (s [f 22 1 2,l 23 22,m 24 6,i 25 4 23 24,h 26 4 25,t 4 4 26,b 5 true] .ret) .skip))) (.reg [m 12 6,q 13 .add 12 1,m 6 13]))))) (s [x 27 (.build [(.val (.string (ByteArray.mk #[]))),(.val (.int .i64 0)),
 (.val (.int .i64 0)),(.val (.bool false))] []),t 4 4 27,b 5 false] .ret))),[(.c 4 4 true),.t 5]⟩
theorem i64:iF 64 g64:=jF Tryz.func64
def g65:GFun:=⟨⟨50,[1]⟩,(s [a 1 2 0,k 2 0,k 3 0] (s [h 9 2 1,c 10 99 [.t 9],m 8 10,v 11 8 0,v 12 8 1,m 4 11,m 5 12] (.seq (s [m 13 4,q 14 .neq 13 0] (.cond 14 (s [m 15 4,m 16 5,m 2 15,m 3 16] .ret) .skip)) (.seq (s [k 6 0] (B 0 (.seq
 (s [m 17 6,f 18 1 1,l 19 18,n 20 19,o 21 .lss 17 20] (.cond 21 .skip (.exit 0))) (.seq (.block 1 (s [f 25 1 1,m 27 6,h 24 2 1,l 26 25,i 28 6 26 27,h 29 6 28,x 30 (.call true 100 [.t 24,.t 29]),w 31 30] (.cond 31 (s [m 32 6,k 2 7,
 m 3 32] .ret) .skip))) (.reg [m 22 6,q 23 .add 22 1,m 6 23]))))) (.seq (s [k 7 0] (B 2 (.seq (s [m 33 7,f 34 0 1,l 35 34,n 36 35,o 37 .lss 33 36] (.cond 37 .skip (.exit 2))) (.seq (.block 3 (s [f 41 0 1,m 43 7,h 40 2 1,l 42 41,
 i 44 2 42 43,f 45 0 44,l 46 45,x 47 (.call true 101 [.t 40,.t 46]),w 48 47] (.cond 48 (s [m 49 7,k 2 8,m 3 49] .ret) .skip))) (.reg [m 38 7,q 39 .add 38 1,m 7 39]))))) (s [k 2 0,k 3 0] .ret)))))),[.t 2,.t 3]⟩
theorem i65:iF 65 g65:=jF Tryz.func65
def g66:GFun:=⟨⟨12,[1]⟩,(s [a 1 2 0,x 2 (.mov (.k (.val (.string (ByteArray.mk #[])))))] (.seq (s [f 3 0 1,l 4 3,n 5 4,q 6 .eql 5 0] (.cond 6 (s [x 2 (.mov (.k (.val (.string (ByteArray.mk #[])))))] .ret) .skip)) (s [f 7 0 1,l 8 7,x 9
 (.iaddr 2 (.t 8) (.k (.val (.int .i64 0)))),f 10 0 9,l 11 10,m 2 11] .ret))),[.t 2]⟩
theorem i66:iF 66 g66:=jF Tryz.func66
def g67:GFun:=⟨⟨154,[4,1000012,3000020]⟩,(s [u 4 2] (s [x 16 (.build [(.val (.slice none 0 0)),(.val (.slice none 0 0))] []),x 5 (.alloc 2 (.agg [(.val (.slice none 0 0)),(.val (.slice none 0 0))])),(.mk none none (.store 2 (.t 5)
 (.t 16)))] (s [m 17 0,c 18 50 [.t 17,(.k (.val (.int .i64 3)))],x 19 (.bin .add (.k (.val (.int .i64 1))) (.t 18)),m 6 19] (s [x 20 (.bslro 1 [] 3 false [(0,(.k (.val (.string (ByteArray.mk #[115]))))),(1,(.k (.val (.string
 (ByteArray.mk #[116]))))),(2,(.k (.val (.string (ByteArray.mk #[117])))))]),m 21 6,x 22 (.slc 1 (.t 20) none (some (.t 21))),m 7 22] (.seq (s [k 8 0] (B 0 (.seq (s [m 23 8,m 24 6,o 25 .lss 23 24] (.cond 25 .skip (.exit 0))) (.seq
 (.block 1 (.reg [f 28 0 5,m 30 0,m 31 7,m 32 8,i 33 1 31 32,m 35 8,q 36 .eql 35 0,m 37 1,l 29 28,l 34 33,x 38 (.calla 102 [.t 30,.t 34,.t 36,.t 37]),x 39 (.bslice 2 [] 1 true [(0,(.t 38))]),x 40 (.append 2 40 (.t 29) (.t 39)),f 41 0 5,
 (.mk none none (.store 1 (.t 41) (.t 40)))])) (.reg [m 26 8,q 27 .add 26 1,m 8 27]))))) (.seq (s [k 9 0] (B 2 (.seq (s [m 42 9,m 43 6,o 44 .lss 42 43] (.cond 44 .skip (.exit 2))) (.seq (.block 3 (s [f 47 1 5,m 49 7,m 50 9,i 51 1 49 50,
 m 54 7,m 55 9,i 56 1 54 55,m 58 0,l 48 47,l 52 51,x 53 (.bin .add (.k (.val (.string (ByteArray.mk #[108,101,97,102])))) (.t 52)),l 57 56,x 59 (.calla 68 [.t 58,(.k (.val (.int .i64 3)))]),w 60 59,x 61 (.build [(.val (.string
 (ByteArray.mk #[]))),(.val (.string (ByteArray.mk #[]))),(.val (.slice none 0 0)),(.val (.bool false)),(.val (.slice none 0 0)),(.val (.slice none 0 0))] [(0,(1,(.t 53))),(1,(1,(.t 57))),(3,(1,(.t 60)))]),x 62 (.bslice 6 [] 1 true [(0,
 (.t 61))]),x 63 (.append 6 112 (.t 48) (.t 62)),f 64 1 5,(.mk none none (.store 1 (.t 64) (.t 63)))] (s [m 65 0,c 66 50 [.t 65,(.k (.val (.int .i64 2)))],x 67 (.bin .add (.k (.val (.int .i64 1))) (.t 66)),m 10 67] (s [k 11 0] (B 4 (.seq
 (s [m 68 11,m 69 10,o 70 .lss 68 69] (.cond 70 .skip (.exit 4))) (.seq (.block 5 (s [m 73 7,m 74 9,i 75 1 73 74,m 78 11,m 81 7,m 82 9,i 83 1 81 82,m 85 0,u 12 6,l 76 75,x 77 (.bin .add (.k (.val (.string (ByteArray.mk #[112])))) (.t 76)),
 x 79 (.call true 103 [.t 78]),o 80 .add 77 79,l 84 83,x 86 (.calla 68 [.t 85,(.k (.val (.int .i64 4)))]),x 87 (.build [(.val (.string (ByteArray.mk #[]))),(.val (.string (ByteArray.mk #[]))),(.val (.slice none 0 0)),(.val (.bool false)),
 (.val (.slice none 0 0)),(.val (.slice none 0 0))] [(0,(1,(.t 80))),(1,(1,(.t 84))),(3,(1,(.t 86)))]),x 12 (.strb 6 12 (.t 87))] (s [m 88 0,c 89 50 [.t 88,(.k (.val (.int .i64 3)))],x 90 (.bin .add (.k (.val (.int .i64 1))) (.t 89)),
 m 13 90] (.seq (s [k 14 0] (B 6 (.seq (s [m 91 14,m 92 13,o 93 .lss 91 92] (.cond 93 .skip (.exit 6))) (.seq (.block 7 (.reg [f 96 2 12,m 98 0,m 99 7,l 97 96,x 100 (.calla 104 [.t 98,.t 99]),x 101 (.bslice 1 [] 1 false [(0,(.t 100))]),
 x 102 (.append 1 16 (.t 97) (.t 101)),f 103 2 12,(.mk none none (.store 1 (.t 103) (.t 102)))])) (.reg [m 94 14,q 95 .add 94 1,m 14 95]))))) (.reg [f 104 1 5,l 105 104,h 106 6 12,x 107 (.bslice 6 [] 1 true [(0,(.t 106))]),x 108
 (.append 6 112 (.t 105) (.t 107)),f 109 1 5,(.mk none none (.store 1 (.t 109) (.t 108)))]))))) (.reg [m 71 11,q 72 .add 71 1,m 11 72])))))))) (.reg [m 45 9,q 46 .add 45 1,m 9 46]))))) (.seq (s [f 110 1 5,l 111 110,n 112 111,
 q 113 .gtr 112 8] (.cond 113 (.reg [f 114 1 5,l 115 114,x 116 (.slc 6 (.t 115) none (some (.k (.val (.int .i64 8))))),f 117 1 5,(.mk none none (.store 1 (.t 117) (.t 116)))]) .skip)) (.seq (s [k 15 0] (B 8 (.seq (s [m 118 15,f 119 1 5,
 l 120 119,n 121 120,o 122 .lss 118 121] (.cond 122 .skip (.exit 8))) (.seq (.block 9 (s [f 125 1 5,m 127 15,m 128 0,f 130 1 5,m 132 15,m 135 1,w 136 135,l 126 125,h 129 2 5,l 131 130,i 133 6 131 132,h 134 6 133,x 137 (.calla 105 [.t 128,
 .t 129,.t 134,.t 136]),i 138 6 126 127,(.mk none none (.store 6 (.t 138) (.t 137)))] (s [m 139 1,w 140 139] (.cond 140 (.reg [f 141 1 5,m 143 15,m 144 0,f 146 1 5,m 148 15,l 142 141,h 145 2 5,l 147 146,i 149 6 147 148,h 150 6 149,x 151
 (.calla 106 [.t 144,.t 145,.t 150]),i 152 6 142 143,(.mk none none (.store 6 (.t 152) (.t 151)))]) .skip)))) (.reg [m 123 15,q 124 .add 123 1,m 15 124]))))) (s [h 153 2 5,t 4 2 153] .ret))))))))),[(.c 4 2 true)]⟩
theorem i67:iF 67 g67:=jF Tryz.func67 [(7,2097168),(11,33554448),(16,134217744),(21,528),(28,33554448),(30,2097168)]
def g68:GFun:=⟨⟨9,[]⟩,(s [b 4 false] (s [m 5 0,m 6 1,c 7 50 [.t 5,.t 6],q 8 .eql 7 0,m 4 8] .ret)),[.t 4]⟩
theorem i68:iF 68 g68:=jF Tryz.func68
def g69:GFun:=⟨⟨97,[3,4,3000028,3000038,3000058,4074005,5065005]⟩,(s [a 3 2 1,u 4 1] (s [m 7 0,h 8 2 3,c 9 107 [.t 7,.t 8],x 5 (.alloc 1 (.agg [(.val (.slice none 0 0))])),(.mk none none (.store 1 (.t 5) (.t 9)))] (s [m 10 0,f 11 0 5,
 l 12 11,n 13 12,c 14 50 [.t 10,.t 13],m 6 14] (.seq (s [m 15 0,c 16 50 [.t 15,(.k (.val (.int .i64 14)))]] (.block 0 (s [q 18 .eql 16 0,m 17 18] (.cond 17 (.reg [f 19 0 5,m 21 6,m 22 0,f 23 0 5,l 20 19,l 24 23,x 25 (.iaddr 6 (.t 24) (.k
 (.val (.int .i64 0)))),f 26 0 25,l 27 26,x 28 (.bslro 1 [] 4 false [(0,(.k (.val (.int .i64 0)))),(1,(.k (.val (.int .i64 1)))),(2,(.k (.val (.int .i64 1000)))),(3,(.t 27))]),x 29 (.calla 108 [.t 22,.t 28]),i 30 6 20 21,f 31 0 30,
 (.mk none none (.store 1 (.t 31) (.t 29)))]) (s [q 33 .eql 16 1,m 32 33] (.cond 32 (.reg [f 34 0 5,m 36 6,m 37 0,x 38 (.bslro 1 [] 2 false [(0,(.k (.val (.int .i64 1000001)))),(1,(.k (.val (.int .i64 5))))]),l 35 34,x 39
 (.calla 108 [.t 37,.t 38]),i 40 6 35 36,f 41 3 40,(.mk none none (.store 1 (.t 41) (.t 39)))]) (s [q 43 .eql 16 2,m 42 43] (.cond 42 (.reg [f 44 0 5,m 46 6,m 47 0,l 45 44,x 48 (.calla 50 [.t 47,(.k (.val (.int .i64 5)))]),q 49 .sub 48 1,
 i 50 6 45 46,f 51 1 50,(.mk none none (.store 1 (.t 51) (.t 49)))]) (s [q 53 .eql 16 3,m 52 53] (.cond 52 (.reg [f 54 0 5,m 56 6,m 57 0,x 58 (.bslro 1 [] 4 false [(0,(.k (.val (.string (ByteArray.mk #[108,101,97,102,115]))))),(1,(.k
 (.val (.string (ByteArray.mk #[112,115,48]))))),(2,(.k (.val (.string (ByteArray.mk #[108,101,97,102,116]))))),(3,(.k (.val (.string (ByteArray.mk #[122,122])))))]),l 55 54,x 59 (.calla 104 [.t 57,.t 58]),i 60 6 55 56,f 61 4 60,
 (.mk none none (.store 1 (.t 61) (.t 59)))]) (s [q 63 .eql 16 4,m 62 63] (.cond 62 (.reg [f 64 0 5,m 66 6,f 67 0 5,m 69 6,x 65 (.ldx 1 false 64 5),l 68 67,i 70 6 68 69,f 71 5 70,l 72 71,x 73 (.bslice 1 [] 1 false [(0,(.k (.val
 (.int .i64 1))))]),x 74 (.appx [5] 1 8 (.t 72) (.t 73)),i 75 6 65 66,f 76 5 75,(.mk none none (.store 1 (.t 76) (.t 74)))]) (s [q 78 .eql 16 5,m 77 78] (.cond 77 (.reg [f 79 0 5,f 81 0 5,m 83 6,l 80 79,l 82 81,i 84 6 82 83,h 85 6 84,x 86
 (.bslice 6 [] 1 true [(0,(.t 85))]),x 87 (.append 6 72 (.t 80) (.t 86)),f 88 0 5,(.mk none none (.store 1 (.t 88) (.t 87)))]) (s [q 90 .eql 16 6,m 89 90] (.cond 89 (.reg [f 91 0 5,l 92 91,m 93 6,i 94 6 92 93,f 95 2 94,(.mk none none
 (.store 1 (.t 95) (.k (.val (.int .i64 1)))))]) .skip)))))))))))))))) (s [h 96 1 5,t 4 1 96] .ret))))),[(.c 4 1 true)]⟩
theorem i69:iF 69 g69:=jF Tryz.func69 [(5,2097168),(7,2064),(9,528),(11,2064)]
def g77:GFun:=⟨⟨22,[2,4,7]⟩,(s [a 2 2 0,u 4 2,b 5 false] (.seq (s [f 8 0 2,l 9 8,n 10 9,k 11 0] (B 0 (s [o 12 .lss 11 10] (C 12 0 (.seq (.block 1 (s [i 13 2 9 11,h 14 2 13,u 7 2,t 7 2 14] (s [f 15 0 7,l 16 15,m 17 1,o 18 .eql 16 17]
 (.cond 18 (s [h 19 2 7,t 4 2 19,b 5 true] .ret) .skip)))) (.reg [q 20 .add 11 1,m 11 20])))))) (s [x 21 (.build [(.val (.string (ByteArray.mk #[]))),(.val (.slice none 0 0))] []),t 4 2 21,b 5 false] .ret))),[(.c 4 2 true),.t 5]⟩
theorem i77:iF 77 g77:=jF Tryz.func77
def g78:GFun:=⟨⟨26,[3,4,7]⟩,(s [a 3 2 0,a 4 1 1,x 6 (.mov (.k (.val (.string (ByteArray.mk #[])))))] (.seq (s [h 9 1 4,m 10 2,c 11 56 [.t 9,.t 10],w 12 11] (.cond 12 (s [x 6 (.mov (.k (.val (.string
 (ByteArray.mk #[])))))] .ret) .skip)) (s [f 15 0 4,m 17 2,u 7 6,h 14 2 3,l 16 15,i 18 6 16 17,f 19 4 18,l 20 19,x 21 (.call true 57 [.t 14,.t 20]),m 13 21,v 22 13 0,v 23 13 1,t 7 6 22,m 8 23] (s [f 24 1 7,l 25 24,m 6 25] .ret)))),[.t 6]⟩
theorem i78:iF 78 g78:=jF Tryz.func78
def g80:GFun:=⟨⟨43,[1]⟩,(s [a 1 1 0,b 2 false] (s [x 5 (.bslice 1 [] 0 false []),m 3 5] (.seq (s [k 4 0] (B 0 (.seq (s [m 6 4,f 7 0 1,l 8 7,n 9 8,o 10 .lss 6 9] (.cond 10 .skip (.exit 0))) (.seq (.block 1 (.seq (s [f 13 0 1,l 14 13,
 m 15 4,i 16 6 14 15,f 17 0 16,l 18 17,c 19 51 [.t 18,(.k (.val (.int .i64 1))),(.k (.val (.int .i64 999)))],w 20 19,m 21 20,z 22 21 (.mov (.t 3)),z 23 21 (p 1 0 1),z 24 21 (r 1 23),z 25 21 (.mov (.t 4)),z 26 21 (.iaddr 6 (.t 24) (.t 25)),
 z 27 21 (p 1 0 26),z 28 21 (r 1 27),z 29 21 (.call false 85 [.t 22,.t 28]),x 30 (.pick (.t 21) (.k (.val (.bool true))) (.t 29))] (.cond 30 (s [b 2 false] .ret) .skip)) (.reg [m 31 3,f 32 0 1,l 33 32,m 34 4,i 35 6 33 34,f 36 0 35,l 37 36,
 x 38 (.bslice 1 [] 1 false [(0,(.t 37))]),x 39 (.append 1 8 (.t 31) (.t 38)),m 3 39]))) (.reg [m 11 4,q 12 .add 11 1,m 4 12]))))) (s [m 40 3,n 41 40,c 42 51 [.t 41,(.k (.val (.int .i64 1))),(.k (.val (.int .i64 16)))],m 2 42] .ret)))),
 [.t 2]⟩
theorem i80:iF 80 g80:=jF Tryz.func80
def g81:GFun:=⟨⟨109,[6,7,13,14]⟩,(s [a 6 2 0,a 7 1 1,k 12 0] (.seq (s [m 18 2,f 19 0 7,l 20 19,n 21 20,o 22 .geq 18 21] (.cond 22 (s [k 12 (-1)] .ret) .skip)) (s [f 23 0 7,l 24 23,m 25 2,i 26 6 24 25,h 27 6 26,u 13 6,t 13 6 27]
 (s [h 29 2 6,f 30 4 13,l 31 30,c 32 59 [.t 29,.t 31],m 28 32,v 33 28 0,v 34 28 1,u 14 6,t 14 6 33,m 15 34] (.seq (s [m 35 15,w 36 35,m 37 36,z 38 37 (p 1 1 14),z 39 37 (r 1 38),z 40 37 (.mov (.t 5)),z 41 37 (.bin .neq (.t 39) (.t 40)),
 x 42 (.pick (.t 37) (.k (.val (.bool true))) (.t 41)),m 43 42,z 44 43 (p 1 1 13),z 45 43 (r 1 44),z 46 43 (.mov (.t 3)),z 47 43 (.bin .neq (.t 45) (.t 46)),x 48 (.pick (.t 43) (.k (.val (.bool true))) (.t 47)),m 49 48,z 50 49 (p 1 2 13),
 z 51 49 (r 1 50),z 52 49 (.mov (.t 4)),z 53 49 (.bin .neq (.t 51) (.t 52)),x 54 (.pick (.t 49) (.k (.val (.bool true))) (.t 53)),m 55 54,z 56 55 (p 1 5 13),z 57 55 (r 1 56),z 58 55 (.len (.t 57)),z 59 55 (p 1 2 14),z 60 55 (r 1 59),
 z 61 55 (.len (.t 60)),z 62 55 (.bin .neq (.t 58) (.t 61)),x 63 (.pick (.t 55) (.k (.val (.bool true))) (.t 62))] (.cond 63 (s [k 12 (-1)] .ret) .skip)) (.seq (s [f 64 3 13,l 65 64,c 66 110 [.t 65,(.k (.val (.int .i64 1)))],w 67 66,
 m 68 67,z 69 68 (p 1 3 14),z 70 68 (r 1 69),z 71 68 (.not (.t 70)),z 72 68 (.mov (.t 71)),y 73 72 (p 1 3 13),y 74 72 (r 1 73),y 75 72 (.bin .neq (.t 74) (.k (.val (.int .i64 0)))),z 76 68 (.pick (.t 72) (.t 75) (.k (.val (.bool false)))),
 x 77 (.pick (.t 68) (.k (.val (.bool true))) (.t 76))] (.cond 77 (s [k 12 (-1)] .ret) .skip)) (s [m 78 2,q 79 .add 78 1,m 16 79] (.seq (s [k 17 0] (B 0 (.seq (s [m 80 17,f 81 2 14,l 82 81,n 83 82,o 84 .lss 80 83] (.cond 84 .skip
 (.exit 0))) (.seq (.block 1 (.seq (s [f 87 5 13,l 88 87,m 89 17,i 90 1 88 89,l 91 90,m 92 16,o 93 .neq 91 92] (.cond 93 (s [k 12 (-1)] .ret) .skip)) (s [m 96 16,m 97 2,m 98 17,q 99 .add 98 1,f 100 2 14,m 102 17,h 94 2 6,h 95 1 7,l 101 100,
 i 103 1 101 102,l 104 103,x 105 (.call true 81 [.t 94,.t 95,.t 96,.t 97,.t 99,.t 104]),m 16 105] (s [m 106 16,q 107 .lss 106 0] (.cond 107 (s [k 12 (-1)] .ret) .skip))))) (.reg [m 85 17,q 86 .add 85 1,m 17 86]))))) (s [m 108 16,
 m 12 108] .ret))))))))),[.t 12]⟩
theorem i81:iF 81 g81:=jF Tryz.func81
def g82:GFun:=⟨⟨10,[1,2]⟩,(s [a 1 2 0,u 2 2] (s [f 3 0 1,x 4 (.loadr 1 false (.t 3)),f 6 1 1,x 7 (.loadr 1 false (.t 6)),x 5 (.bslice 4 [] 0 true []),x 8 (.append 4 40 (.t 5) (.t 7)),x 9 (.build [(.val (.string (ByteArray.mk #[]))),
 (.val (.slice none 0 0))] [(0,(1,(.t 4))),(1,(1,(.t 8)))]),t 2 2 9] .ret)),[(.c 2 2 true)]⟩
theorem i82:iF 82 g82:=jF Tryz.func82
def g83:GFun:=⟨⟨10,[]⟩,(s [k 4 0] (.seq (s [m 5 0,m 6 1,o 7 .gtr 5 6] (.cond 7 (s [m 8 0,m 4 8] .ret) .skip)) (s [m 9 1,m 4 9] .ret))),[.t 4]⟩
theorem i83:iF 83 g83:=jF Tryz.func83
def g84:GFun:=⟨⟨58,[]⟩,(s [k 2 0] (s [m 4 0,m 5 0,x 6 (.nck (.t 5)),f 7 2 6,l 8 7,q 9 .mul 8 6364136223846793005,q 10 .add 9 1442695040888963407,x 11 (.nck (.t 4)),f 12 2 11,(.mk none none (.store 1 (.t 12) (.t 10)))] (s [m 13 0,x 14
 (.nck (.t 13)),f 15 2 14,m 18 0,x 19 (.nck (.t 18)),f 20 2 19,l 16 15,x 17 (.bin .shr (.t 16) (.k (.val (.int .u64 33)))),l 21 20,x 22 (.bin .shr (.t 21) (.k (.val (.int .u64 45)))),o 23 .xor 17 22,q 24 .and 23 255,m 3 24] (.seq
 (s [m 25 0,x 26 (.nck (.t 25)),f 27 1 26,m 29 0,x 30 (.nck (.t 29)),f 31 0 30,l 28 27,l 32 31,n 33 32,o 34 .lss 28 33] (.cond 34 (s [m 35 3,m 36 0,x 37 (.nck (.t 36)),f 38 0 37,m 40 0,x 41 (.nck (.t 40)),f 42 1 41,l 39 38,l 43 42,
 i 44 1 39 43,l 45 44,x 46 (.conv .i64 (.t 45)),o 47 .add 35 46,q 48 .and 47 255,m 3 48] (.reg [m 49 0,m 50 0,x 51 (.nck (.t 50)),f 52 1 51,l 53 52,q 54 .add 53 1,x 55 (.nck (.t 49)),f 56 1 55,(.mk none none (.store 1 (.t 56)
 (.t 54)))])) .skip)) (s [m 57 3,m 2 57] .ret))))),[.t 2]⟩
theorem i84:iF 84 g84:=jF Tryz.func84
def g85:GFun:=⟨⟨18,[]⟩,(s [b 4 false] (.seq (s [k 5 0] (B 0 (.seq (s [m 6 5,m 7 0,n 8 7,o 9 .lss 6 8] (.cond 9 .skip (.exit 0))) (.seq (.block 1 (s [m 12 0,m 13 5,i 14 1 12 13,l 15 14,m 16 1,o 17 .eql 15 16] (.cond 17
 (s [b 4 true] .ret) .skip))) (.reg [m 10 5,q 11 .add 10 1,m 5 11]))))) (s [b 4 false] .ret))),[.t 4]⟩
theorem i85:iF 85 g85:=jF Tryz.func85
def g86:GFun:=⟨⟨31,[4,5,6,3000021]⟩,(s [a 4 2 1,a 5 1 2,u 6 2] (s [h 8 2 4,h 9 1 5,c 10 13 [.t 8,.t 9],m 7 10] (.seq (s [m 11 7,n 12 11,q 13 .eql 12 0,m 14 13,z 15 14 (.mov (.t 0)),z 16 14 (.call false 68 [.t 15,(.k (.val
 (.int .i64 10)))]),x 17 (.pick (.t 14) (.k (.val (.bool true))) (.t 16))] (.cond 17 (s [m 18 0,c 19 50 [.t 18,(.k (.val (.int .i64 20)))],m 20 0,x 21 (.bslro 1 [] 3 false [(0,(.k (.val (.string (ByteArray.mk #[97]))))),(1,(.k (.val
 (.string (ByteArray.mk #[98]))))),(2,(.k (.val (.string (ByteArray.mk #[122])))))]),c 22 104 [.t 20,.t 21],x 23 (.build [(.val (.int .i64 0)),(.val (.string (ByteArray.mk #[])))] [(0,(1,(.t 19))),(1,(1,(.t 22)))]),t 6 2 23] .ret) .skip))
 (s [m 24 7,m 25 0,m 26 7,n 27 26,c 28 50 [.t 25,.t 27],i 29 2 24 28,h 30 2 29,t 6 2 30] .ret)))),[(.c 6 2 true)]⟩
theorem i86:iF 86 g86:=jF Tryz.func86
def g87:GFun:=⟨⟨22,[2,4,7]⟩,(s [a 2 2 0,u 4 4,b 5 false] (.seq (s [f 8 1 2,l 9 8,n 10 9,k 11 0] (B 0 (s [o 12 .lss 11 10] (C 12 0 (.seq (.block 1 (s [i 13 4 9 11,h 14 4 13,u 7 4,t 7 4 14] (s [f 15 0 7,l 16 15,m 17 1,o 18 .eql 16 17]
 (.cond 18 (s [h 19 4 7,t 4 4 19,b 5 true] .ret) .skip)))) (.reg [q 20 .add 11 1,m 11 20])))))) (s [x 21 (.build [(.val (.string (ByteArray.mk #[]))),(.val (.int .i64 0)),(.val (.int .i64 0)),(.val (.bool false))] []),t 4 4 21,
 b 5 false] .ret))),[(.c 4 4 true),.t 5]⟩
theorem i87:iF 87 g87:=jF Tryz.func87
def g88:GFun:=⟨⟨19,[]⟩,(s [k 4 0] (.seq (s [m 6 0,n 7 6,k 8 0] (B 0 (s [o 9 .lss 8 7] (C 9 0 (.seq (.block 1 (s [m 10 8,m 5 10] (s [m 11 1,m 12 0,m 13 5,i 14 6 12 13,h 15 6 14,x 16 (.callv false (.t 11) [.t 15])] (.cond 16 (s [m 17 5,
 m 4 17] .ret) .skip)))) (.reg [q 18 .add 8 1,m 8 18])))))) (s [k 4 (-1)] .ret))),[.t 4]⟩
theorem i88:iF 88 g88:=jF Tryz.func88
def g89:GFun:=⟨⟨8,[2]⟩,(s [a 2 6 0,b 3 false] (s [f 4 0 2,l 5 4,l 6 1,o 7 .eql 5 6,m 3 7] .ret)),[.t 3]⟩
theorem i89:iF 89 g89:=jF Tryz.func89
def g90:GFun:=⟨⟨22,[2,5]⟩,(s [x 1 (.box 7 (.t 0)),u 2 7] (s [x 3 (.mov (.k (.val (.slice none 0 0))))] (.seq (s [f 6 6 1,l 7 6,n 8 7,k 9 0] (B 0 (s [o 10 .lss 9 8] (C 10 0 (.seq (.block 1 (s [i 11 7 7 9,h 12 7 11,u 5 7,t 5 7 12]
 (.reg [m 13 3,h 14 7 5,c 15 90 [.t 14],x 16 (.bslice 7 [] 1 true [(0,(.t 15))]),x 17 (.append 7 88 (.t 13) (.t 16)),m 3 17]))) (.reg [q 18 .add 9 1,m 9 18])))))) (s [m 19 3,f 20 6 1,(.mk none none (.store 1 (.t 20) (.t 19)))] (s [h 21 7 1,
 t 2 7 21] .ret))))),[(.c 2 7 true)]⟩
theorem i90:iF 90 g90:=jF Tryz.func90
def g91:GFun:=⟨⟨73,[1,2,6,1000003]⟩,(s [a 1 6 0,u 2 6] (s [f 7 0 1,x 8 (.loadr 1 false (.t 7)),f 9 1 1,x 10 (.loadr 1 false (.t 9)),f 11 3 1,x 12 (.loadr 1 false (.t 11)),f 14 2 1,x 15 (.loadr 1 false (.t 14)),u 3 6,x 13
 (.bslice 1 [] 0 false []),x 16 (.append 1 16 (.t 13) (.t 15)),x 17 (.build [(.val (.string (ByteArray.mk #[]))),(.val (.string (ByteArray.mk #[]))),(.val (.slice none 0 0)),(.val (.bool false)),(.val (.slice none 0 0)),(.val
 (.slice none 0 0))] [(0,(1,(.t 8))),(1,(1,(.t 10))),(3,(1,(.t 12))),(2,(1,(.t 16)))]),x 3 (.strb 6 3 (.t 17))] (.seq (s [k 4 0] (B 0 (.seq (s [m 18 4,f 19 4 1,l 20 19,n 21 20,o 22 .lss 18 21] (.cond 22 .skip (.exit 0))) (.seq (.block 1
 (.reg [f 25 4 3,f 27 4 1,m 29 4,f 33 4 1,m 35 4,l 26 25,l 28 27,i 30 9 28 29,e 31 0 2 30,h 32 2 31,l 34 33,i 36 9 34 35,e 37 2 7 36,h 38 7 37,x 39 (.call true 92 [.t 38]),x 40 (.build [(.val (.int .i64 0)),(.val (.string
 (ByteArray.mk #[]))),(.val (.int .i64 0)),(.val (.int .i64 0)),(.val (.int .i64 0)),(.val (.int .i64 0)),(.val (.string (ByteArray.mk #[]))),(.val (.string (ByteArray.mk #[]))),(.val (.slice none 0 0))] [(0,(2,(.t 32))),(2,(7,(.t 39)))]),
 x 41 (.bslice 9 [] 1 true [(0,(.t 40))]),x 42 (.append 9 112 (.t 26) (.t 41)),f 43 4 3,(.mk none none (.store 1 (.t 43) (.t 42)))])) (.reg [m 23 4,q 24 .add 23 1,m 4 24]))))) (.seq (s [k 5 0] (B 2 (.seq (s [m 44 5,f 45 5 1,l 46 45,n 47 46,
 o 48 .lss 44 47] (.cond 48 .skip (.exit 2))) (.seq (.block 3 (s [f 51 5 1,l 52 51,m 53 5,i 54 16 52 53,h 55 16 54,u 6 16,t 6 16 55] (.reg [f 56 5 3,f 58 0 6,f 60 1 6,e 62 2 7 6,e 65 9 7 6,l 57 56,l 59 58,l 61 60,h 63 7 62,x 64
 (.call true 92 [.t 63]),h 66 7 65,x 67 (.call true 92 [.t 66]),x 68 (.build [(.val (.string (ByteArray.mk #[]))),(.val (.string (ByteArray.mk #[]))),(.val (.int .i64 0)),(.val (.int .i64 0)),(.val (.int .i64 0)),(.val (.int .i64 0)),
 (.val (.string (ByteArray.mk #[]))),(.val (.string (ByteArray.mk #[]))),(.val (.slice none 0 0)),(.val (.int .i64 0)),(.val (.int .i64 0)),(.val (.int .i64 0)),(.val (.int .i64 0)),(.val (.string (ByteArray.mk #[]))),(.val (.string
 (ByteArray.mk #[]))),(.val (.slice none 0 0))] [(0,(1,(.t 59))),(1,(1,(.t 61))),(2,(7,(.t 64))),(9,(7,(.t 67)))]),x 69 (.bslice 16 [] 1 true [(0,(.t 68))]),x 70 (.append 16 208 (.t 57) (.t 69)),f 71 5 3,(.mk none none (.store 1 (.t 71)
 (.t 70)))]))) (.reg [m 49 5,q 50 .add 49 1,m 5 50]))))) (s [h 72 6 3,t 2 6 72] .ret))))),[(.c 2 6 true)]⟩
theorem i91:iF 91 g91:=jF Tryz.func91
def g92:GFun:=⟨⟨25,[2]⟩,(s [x 1 (.box 7 (.t 0)),u 2 7] (s [x 5 (.bslice 7 [] 0 true []),m 3 5] (.seq (s [k 4 0] (B 0 (.seq (s [m 6 4,f 7 6 1,l 8 7,n 9 8,o 10 .lss 6 9] (.cond 10 .skip (.exit 0))) (.seq (.block 1 (.reg [m 13 3,f 14 6 1,
 l 15 14,m 16 4,i 17 7 15 16,h 18 7 17,c 19 92 [.t 18],x 20 (.bslice 7 [] 1 true [(0,(.t 19))]),x 21 (.append 7 88 (.t 13) (.t 20)),m 3 21])) (.reg [m 11 4,q 12 .add 11 1,m 4 12]))))) (s [m 22 3,f 23 6 1,(.mk none none (.store 1 (.t 23)
 (.t 22)))] (s [h 24 7 1,t 2 7 24] .ret))))),[(.c 2 7 true)]⟩
theorem i92:iF 92 g92:=jF Tryz.func92
def g93:GFun:=⟨⟨15,[2,3]⟩,(s [a 2 7 0,a 3 1 1,b 4 false] (s [l 5 3,h 6 7 2,x 7 (.callv false (.t 5) [.t 6]),m 8 7,y 9 8 (p 1 6 2),y 10 8 (r 1 9),y 11 8 (.mkfn 112 [.t 3]),y 12 8 (.call false 111 [.t 10,.t 11]),y 13 8 (.not (.t 12)),
 x 14 (.pick (.t 8) (.t 13) (.k (.val (.bool false)))),m 4 14] .ret)),[.t 4]⟩
theorem i93:iF 93 g93:=jF Tryz.func93
def g94:GFun:=⟨⟨15,[2]⟩,(s [a 2 7 0,b 3 false] (.seq (s [f 4 0 2,l 5 4,q 6 .eql 5 3] (.cond 6 (.reg [l 7 1,f 8 2 2,l 9 8,f 10 5 2,l 11 10,x 12 (.build [(.val (.int .i64 0)),(.val (.string (ByteArray.mk #[])))] [(0,(1,(.t 9))),(1,(1,
 (.t 11)))]),x 13 (.bslice 2 [] 1 true [(0,(.t 12))]),x 14 (.append 2 24 (.t 7) (.t 13)),(.mk none none (.store 1 (.t 1) (.t 14)))]) .skip)) (s [b 3 true] .ret))),[.t 3]⟩
theorem i94:iF 94 g94:=jF Tryz.func94
def g97:GFun:=⟨⟨61,[]⟩,(s [x 2 (.mov (.k (.val (.slice none 0 0))))] (.seq (s [m 6 0,n 7 6,q 8 .lss 7 2] (.cond 8 (s [m 9 0,m 2 9] .ret) .skip)) (.seq (s [k 3 1] (B 0 (.seq (s [m 10 3,m 11 0,n 12 11,o 13 .lss 10 12] (.cond 13 .skip
 (.exit 0))) (.seq (.block 1 (s [m 16 0,m 17 3,i 18 2 16 17,m 20 0,m 21 3,q 22 .sub 21 1,i 23 2 20 22,h 19 2 18,h 24 2 23,x 25 (.aeq false [1,2] (.t 19) (.t 24))] (.cond 25 (s [m 26 0,m 27 3,x 28 (.slc 2 (.t 26) (some (.t 27)) none),
 m 4 28] (.seq (s [k 5 1] (B 2 (.seq (s [m 29 5,m 30 4,n 31 30,o 32 .lss 29 31] (.cond 32 .skip (.exit 2))) (.seq (.block 3 (s [m 35 4,m 36 5,i 37 2 35 36,m 39 4,m 40 5,q 41 .sub 40 1,i 42 2 39 41,h 38 2 37,h 43 2 42,x 44 (.aeq true [1,2]
 (.t 38) (.t 43))] (.cond 44 (s [m 45 0,m 46 3,m 47 4,m 48 5,i 49 2 47 48,h 50 2 49,i 51 2 45 46,(.mk none none (.store 2 (.t 51) (.t 50)))] (.reg [m 52 3,q 53 .add 52 1,m 3 53])) .skip))) (.reg [m 33 5,q 34 .add 33 1,m 5 34])))))
 (s [m 54 0,m 55 3,x 56 (.slc 2 (.t 54) (some (.t 55)) none),(.mk none none (.clr 2 (.t 56)))] (s [m 57 0,m 58 3,x 59 (.slc 2 (.t 57) none (some (.t 58))),m 2 59] .ret)))) .skip))) (.reg [m 14 3,q 15 .add 14 1,m 3 15]))))) (s [m 60 0,
 m 2 60] .ret)))),[.t 2]⟩
theorem i97:iF 97 g97:=jF Tryz.func97
def g98:GFun:=⟨⟨31,[2]⟩,(s [a 2 7 0,x 4 (.mov (.k (.val (.slice none 0 0))))] (.seq (s [f 6 0 2,l 7 6,q 8 .eql 7 3] (.cond 8 (.reg [m 9 1,f 10 2 2,l 11 10,f 12 5 2,l 13 12,x 14 (.build [(.val (.int .i64 0)),(.val (.string
 (ByteArray.mk #[])))] [(0,(1,(.t 11))),(1,(1,(.t 13)))]),c 15 118 [.t 9,.t 14],m 1 15]) .skip)) (.seq (s [k 5 0] (B 0 (.seq (s [m 16 5,f 17 6 2,l 18 17,n 19 18,o 20 .lss 16 19] (.cond 20 .skip (.exit 0))) (.seq (.block 1 (.reg [f 23 6 2,
 l 24 23,m 25 5,i 26 7 24 25,h 27 7 26,m 28 1,c 29 98 [.t 27,.t 28],m 1 29])) (.reg [m 21 5,q 22 .add 21 1,m 5 22]))))) (s [m 30 1,m 4 30] .ret)))),[.t 4]⟩
theorem i98:iF 98 g98:=jF Tryz.func98
def g99:GFun:=⟨⟨66,[1]⟩,(s [a 1 2 0,k 2 0,k 3 0] (.seq (s [f 8 0 1,l 9 8,n 10 9,c 11 51 [.t 10,(.k (.val (.int .i64 1))),(.k (.val (.int .i64 4)))],w 12 11,m 13 12,z 14 13 (p 1 1 1),z 15 13 (r 1 14),z 16 13 (.len (.t 15)),z 17 13
 (.call false 51 [.t 16,(.k (.val (.int .i64 1))),(.k (.val (.int .i64 8)))]),z 18 13 (.not (.t 17)),x 19 (.pick (.t 13) (.k (.val (.bool true))) (.t 18))] (.cond 19 (s [k 2 1,k 3 0] .ret) .skip)) (s [h 20 2 1,c 21 119 [.t 20],m 4 21]
 (.seq (s [m 22 4,q 23 .geq 22 0] (.cond 23 (s [m 24 4,k 2 1,m 3 24] .ret) .skip)) (.seq (s [k 5 0] (B 0 (.seq (s [m 25 5,f 26 0 1,l 27 26,x 28 (.iaddr 2 (.t 27) (.k (.val (.int .i64 0)))),f 29 1 28,l 30 29,n 31 30,o 32 .lss 25 31]
 (.cond 32 .skip (.exit 0))) (.seq (.block 1 (s [f 35 0 1,l 36 35,x 37 (.iaddr 2 (.t 36) (.k (.val (.int .i64 0)))),f 38 1 37,l 39 38,m 40 5,i 41 4 39 40,f 42 2 41,l 43 42,q 44 .eql 43 1] (.cond 44 (s [k 2 2,k 3 0] .ret) .skip)))
 (.reg [m 33 5,q 34 .add 33 1,m 5 34]))))) (.seq (s [k 6 3] (B 2 (.seq (s [m 45 6,q 46 .leq 45 6] (.cond 46 .skip (.exit 2))) (.seq (.block 3 (s [k 7 0] (B 4 (.seq (s [m 49 7,f 50 1 1,l 51 50,n 52 51,o 53 .lss 49 52] (.cond 53 .skip
 (.exit 4))) (.seq (.block 5 (s [f 57 1 1,m 59 7,m 62 6,h 56 2 1,l 58 57,i 60 6 58 59,h 61 6 60,x 63 (.call true 120 [.t 56,.t 61,.t 62])] (.cond 63 (s [m 64 6,m 65 7,m 2 64,m 3 65] .ret) .skip))) (.reg [m 54 7,q 55 .add 54 1,
 m 7 55])))))) (.reg [m 47 6,q 48 .add 47 1,m 6 48]))))) (s [k 2 0,k 3 0] .ret))))))),[.t 2,.t 3]⟩
theorem i99:iF 99 g99:=jF Tryz.func99
def g100:GFun:=⟨⟨90,[2,3,6,8,9,11]⟩,(s [a 2 2 0,a 3 6 1,b 4 false] (.seq (s [k 5 0] (B 0 (.seq (s [m 13 5,f 14 4 3,l 15 14,n 16 15,o 17 .lss 13 16] (.cond 17 .skip (.exit 0))) (.seq (.block 1 (s [f 20 4 3,l 21 20,m 22 5,i 23 9 21 22,
 h 24 9 23,u 6 9,t 6 9 24] (s [e 27 2 7 6,e 32 0 2 6,f 33 0 32,e 36 0 2 6,f 37 1 36,h 25 2 2,h 26 6 3,h 28 7 27,x 29 (.call true 121 [.t 25,.t 26,.t 28]),h 30 2 2,h 31 6 3,l 34 33,x 35 (.call true 123 [.t 31,.t 34]),l 38 37,x 39
 (.call true 122 [.t 30,.t 35,.t 38]),o 40 .neq 29 39] (.cond 40 (s [b 4 false] .ret) .skip)))) (.reg [m 18 5,q 19 .add 18 1,m 5 19]))))) (.seq (s [k 7 0] (B 2 (.seq (s [m 41 7,f 42 5 3,l 43 42,n 44 43,o 45 .lss 41 44] (.cond 45 .skip
 (.exit 2))) (.seq (.block 3 (s [f 48 5 3,l 49 48,m 50 7,i 51 16 49 50,h 52 16 51,u 8 16,t 8 16 52] (s [h 54 2 2,f 55 0 8,l 56 55,c 57 45 [.t 54,.t 56],m 53 57,v 58 53 0,v 59 53 1,u 9 2,t 9 2 58,m 10 59] (s [h 61 2 9,f 62 1 8,l 63 62,
 c 64 64 [.t 61,.t 63],m 60 64,v 65 60 0,v 66 60 1,u 11 4,t 11 4 65,m 12 66] (s [m 67 12,w 68 67,m 69 68,z 70 69 (p 1 2 11),z 71 69 (r 1 70),z 72 69 (.bin .neq (.t 71) (.k (.val (.int .i64 3)))),x 73 (.pick (.t 69) (.k (.val
 (.bool true))) (.t 72)),m 74 73,z 75 74 (j 2 2),z 76 74 (j 6 3),z 77 74 (.faddr 2 7 true (.t 8)),z 78 74 (j 7 77),z 79 74 (.call false 121 [.t 75,.t 76,.t 78]),z 80 74 (.bin .neq (.t 79) (.k (.val (.int .i64 4)))),x 81 (.pick (.t 74) (.k
 (.val (.bool true))) (.t 80)),m 82 81,z 83 82 (j 2 2),z 84 82 (j 6 3),z 85 82 (.faddr 9 7 true (.t 8)),z 86 82 (j 7 85),z 87 82 (.call false 121 [.t 83,.t 84,.t 86]),z 88 82 (.bin .neq (.t 87) (.k (.val (.int .i64 2)))),x 89 (.pick
 (.t 82) (.k (.val (.bool true))) (.t 88))] (.cond 89 (s [b 4 false] .ret) .skip)))))) (.reg [m 46 7,q 47 .add 46 1,m 7 47]))))) (s [b 4 true] .ret)))),[.t 4]⟩
theorem i100:iF 100 g100:=jF Tryz.func100
def g101:GFun:=⟨⟨9,[2]⟩,(s [a 2 2 0,b 4 false] (s [h 5 2 2,m 6 1,c 7 124 [.t 5,.t 6],q 8 .gtr 7 0,m 4 8] .ret)),[.t 4]⟩
theorem i101:iF 101 g101:=jF Tryz.func101
def g102:GFun:=⟨⟨65,[8,1000012,3000023,3000028,3000031,3000036]⟩,(s [u 8 2] (s [m 13 1,x 14 (.build [(.val (.string (ByteArray.mk #[]))),(.val (.slice none 0 0))] [(0,(1,(.t 13)))]),x 9 (.alloc 2 (.agg [(.val (.string
 (ByteArray.mk #[]))),(.val (.slice none 0 0))])),(.mk none none (.store 2 (.t 9) (.t 14)))] (s [m 15 0,c 16 50 [.t 15,(.k (.val (.int .i64 4)))],x 17 (.bin .add (.k (.val (.int .i64 1))) (.t 16)),m 10 17] (.seq (s [k 11 0] (B 0 (.seq
 (s [m 18 11,m 19 10,o 20 .lss 18 19] (.cond 20 .skip (.exit 0))) (.seq (.block 1 (s [x 23 (.bslro 1 [] 4 false [(0,(.k (.val (.string (ByteArray.mk #[97]))))),(1,(.k (.val (.string (ByteArray.mk #[98]))))),(2,(.k (.val (.string
 (ByteArray.mk #[99]))))),(3,(.k (.val (.string (ByteArray.mk #[100])))))]),m 24 11,i 25 1 23 24,m 27 0,x 28 (.bslro 1 [] 6 false [(0,(.k (.val (.int .i64 1)))),(1,(.k (.val (.int .i64 1)))),(2,(.k (.val (.int .i64 2)))),(3,(.k (.val
 (.int .i64 2)))),(4,(.k (.val (.int .i64 3)))),(5,(.k (.val (.int .i64 4))))]),m 30 0,x 31 (.bslro 1 [] 6 false [(0,(.k (.val (.int .i64 1)))),(1,(.k (.val (.int .i64 2)))),(2,(.k (.val (.int .i64 2)))),(3,(.k (.val (.int .i64 1)))),(4,
 (.k (.val (.int .i64 2)))),(5,(.k (.val (.int .i64 3))))]),u 12 4,l 26 25,x 29 (.calla 108 [.t 27,.t 28]),x 32 (.calla 108 [.t 30,.t 31]),x 33 (.build [(.val (.string (ByteArray.mk #[]))),(.val (.int .i64 0)),(.val (.int .i64 0)),(.val
 (.bool false))] [(0,(1,(.t 26))),(1,(1,(.t 29))),(2,(1,(.t 32)))]),x 12 (.strb 4 12 (.t 33))] (.seq (s [m 34 3] (.cond 34 (.reg [m 35 0,x 36 (.bslro 1 [] 4 false [(0,(.k (.val (.int .i64 1)))),(1,(.k (.val (.int .i64 1)))),(2,(.k (.val
 (.int .i64 2)))),(3,(.k (.val (.int .i64 3))))]),c 37 108 [.t 35,.t 36],f 38 1 12,(.mk none none (.store 1 (.t 38) (.t 37)))]) .skip)) (.seq (s [m 39 2,m 40 39,y 41 40 (p 1 2 12),y 42 40 (r 1 41),y 43 40 (.bin .eql (.t 42) (.k (.val
 (.int .i64 1)))),x 44 (.pick (.t 40) (.t 43) (.k (.val (.bool false)))),m 45 44,z 46 45 (.mov (.t 3)),z 47 45 (.mov (.t 46)),y 48 47 (p 1 2 12),y 49 47 (r 1 48),y 50 47 (.bin .eql (.t 49) (.k (.val (.int .i64 3)))),z 51 45 (.pick (.t 47)
 (.t 50) (.k (.val (.bool false)))),x 52 (.pick (.t 45) (.k (.val (.bool true))) (.t 51))] (.cond 52 (.reg [f 53 2 12,(.mk none none (.store 1 (.t 53) (.k (.val (.int .i64 2)))))]) .skip)) (.seq (s [f 54 2 12,l 55 54,q 56 .eql 55 3]
 (.cond 56 (.reg [f 57 1 12,(.mk none none (.store 1 (.t 57) (.k (.val (.int .i64 2)))))]) .skip)) (.reg [f 58 1 9,l 59 58,h 60 4 12,x 61 (.bslice 4 [] 1 true [(0,(.t 60))]),x 62 (.append 4 40 (.t 59) (.t 61)),f 63 1 9,(.mk none none
 (.store 1 (.t 63) (.t 62)))])))))) (.reg [m 21 11,q 22 .add 21 1,m 11 22]))))) (s [h 64 2 9,t 8 2 64] .ret))))),[(.c 8 2 true)]⟩
theorem i102:iF 102 g102:=jF Tryz.func102 [(6,532496)]
def g103:GFun:=⟨⟨31,[]⟩,(s [x 2 (.mov (.k (.val (.string (ByteArray.mk #[])))))] (.seq (s [m 6 0,q 7 .eql 6 0] (.cond 7 (s [x 2 (.mov (.k (.val (.string (ByteArray.mk #[48])))))] .ret) .skip)) (s [m 8 0,q 9 .lss 8 0,m 3 9] (s [x 4
 (.mov (.k (.val (.string (ByteArray.mk #[])))))] (.seq (B 0 (.seq (s [m 10 0,q 11 .neq 10 0] (.cond 11 .skip (.exit 0))) (.block 1 (s [m 12 0,q 13 .rem 12 10,m 5 13] (.seq (s [m 14 5,q 15 .lss 14 0] (.cond 15 (.reg [m 16 5,x 17
 (.bin .sub (.k (.val (.int .i64 0))) (.t 16)),m 5 17]) .skip)) (s [m 18 5,x 19 (.bin .add (.k (.val (.int .i64 48))) (.t 18)),x 20 (.conv .u8 (.t 19)),x 21 (.bslice 1 [] 1 false [(0,(.t 20))]),x 22 (.b2s (.t 21)),m 23 4,o 24 .add 22 23,
 m 4 24] (.reg [m 25 0,q 26 .quo 25 10,m 0 26]))))))) (.seq (s [m 27 3] (.cond 27 (s [m 28 4,x 29 (.bin .add (.k (.val (.string (ByteArray.mk #[45])))) (.t 28)),m 2 29] .ret) .skip)) (s [m 30 4,m 2 30] .ret))))))),[.t 2]⟩
theorem i103:iF 103 g103:=jF Tryz.func103
def g104:GFun:=⟨⟨12,[]⟩,(s [x 4 (.mov (.k (.val (.string (ByteArray.mk #[])))))] (s [m 5 1,m 6 0,m 7 1,n 8 7,c 9 50 [.t 6,.t 8],i 10 1 5 9,l 11 10,m 4 11] .ret)),[.t 4]⟩
theorem i104:iF 104 g104:=jF Tryz.func104
def g105:GFun:=⟨⟨77,[5,8,11,13,1000015,3000063]⟩,(s [a 5 2 1,x 6 (.box 6 (.t 2)),u 8 6] (s [h 16 2 5,h 17 6 6,c 18 125 [.t 16,.t 17],m 9 18] (.seq (s [k 10 0] (B 0 (.seq (s [m 19 10,m 20 9,n 21 20,o 22 .lss 19 21] (.cond 22 .skip
 (.exit 0))) (.seq (.block 1 (s [m 28 9,m 29 10,i 30 2 28 29,f 31 0 30,u 11 2,h 26 2 5,h 27 6 6,l 32 31,x 33 (.call true 123 [.t 27,.t 32]),x 34 (.call true 45 [.t 26,.t 33]),m 25 34,v 35 25 0,v 36 25 1,t 11 2 35,m 12 36] (s [m 39 9,
 m 40 10,i 41 2 39 40,f 42 1 41,u 13 4,h 38 2 11,l 43 42,x 44 (.call true 64 [.t 38,.t 43]),m 37 44,v 45 37 0,v 46 37 1,t 13 4 45,m 14 46] (s [m 47 0,f 50 1 13,m 52 0,m 55 3,u 15 7,h 48 2 5,h 49 6 6,l 51 50,x 53 (.calla 50 [.t 52,(.k
 (.val (.int .i64 3)))]),x 54 (.bin .add (.k (.val (.int .i64 1))) (.t 53)),x 56 (.calla 126 [.t 47,.t 48,.t 49,.t 51,.t 54,.t 55]),x 15 (.strb 7 15 (.t 56))] (.seq (s [h 57 7 15,c 58 127 [.t 57],w 59 58] (.cond 59 (.reg [m 60 0,f 61 1 13,
 l 62 61,x 63 (.bslro 2 [] 0 true []),c 64 128 [.t 60,.t 62,.t 63],x 15 (.strb 7 15 (.t 64))]) .skip)) (.reg [f 65 4 6,m 67 9,m 68 10,i 69 2 67 68,l 66 65,h 70 2 69,h 71 7 15,x 72 (.build [(.val (.int .i64 0)),(.val (.string
 (ByteArray.mk #[]))),(.val (.int .i64 0)),(.val (.int .i64 0)),(.val (.int .i64 0)),(.val (.int .i64 0)),(.val (.string (ByteArray.mk #[]))),(.val (.string (ByteArray.mk #[]))),(.val (.slice none 0 0))] [(0,(2,(.t 70))),(2,(7,(.t 71)))]),
 x 73 (.bslice 9 [] 1 true [(0,(.t 72))]),x 74 (.append 9 112 (.t 66) (.t 73)),f 75 4 6,(.mk none none (.store 1 (.t 75) (.t 74)))])))))) (.reg [m 23 10,q 24 .add 23 1,m 10 24]))))) (s [h 76 6 6,t 8 6 76] .ret)))),[(.c 8 6 true)]⟩
theorem i105:iF 105 g105:=jF Tryz.func105 [(7,532496)]
def g106:GFun:=⟨⟨76,[4,6,9]⟩,(s [a 4 2 1,x 5 (.box 6 (.t 2)),u 6 6] (.seq (s [k 7 0] (B 0 (.seq (s [m 10 7,f 11 0 4,l 12 11,n 13 12,o 14 .lss 10 13] (.cond 14 .skip (.exit 0))) (.seq (.block 1 (s [k 8 0] (B 2 (.seq (s [m 17 8,f 18 0 4,
 l 19 18,m 20 7,i 21 2 19 20,f 22 1 21,l 23 22,n 24 23,o 25 .lss 17 24] (.cond 25 .skip (.exit 2))) (.seq (.block 3 (s [f 28 0 4,l 29 28,m 30 7,i 31 2 29 30,f 32 1 31,l 33 32,m 34 8,i 35 4 33 34,h 36 4 35,u 9 4,t 9 4 36] (s [f 37 2 9,
 l 38 37,q 39 .eql 38 3,m 40 39,y 41 40 (p 1 5 5),y 42 40 (r 1 41),y 43 40 (.len (.t 42)),y 44 40 (.bin .lss (.t 43) (.k (.val (.int .i64 2)))),x 45 (.pick (.t 40) (.t 44) (.k (.val (.bool false)))),m 46 45,y 47 46 (.mov (.t 0)),y 48 46
 (.call false 68 [.t 47,(.k (.val (.int .i64 3)))]),y 49 46 (.not (.t 48)),x 50 (.pick (.t 46) (.t 49) (.k (.val (.bool false))))] (.cond 50 (.reg [f 51 5 5,f 53 0 4,m 55 7,f 59 0 9,m 61 0,m 66 0,l 52 51,l 54 53,i 56 2 54 55,f 57 0 56,
 l 58 57,l 60 59,h 62 2 4,h 63 6 5,x 64 (.call true 129 [.t 62,.t 63,(.k (.val (.int .i64 4)))]),h 67 2 4,h 68 6 5,x 65 (.calla 128 [.t 61,(.k (.val (.int .i64 4))),.t 64]),x 69 (.call true 129 [.t 67,.t 68,(.k (.val (.int .i64 2)))]),
 x 70 (.calla 128 [.t 66,(.k (.val (.int .i64 2))),.t 69]),x 71 (.build [(.val (.string (ByteArray.mk #[]))),(.val (.string (ByteArray.mk #[]))),(.val (.int .i64 0)),(.val (.int .i64 0)),(.val (.int .i64 0)),(.val (.int .i64 0)),(.val
 (.string (ByteArray.mk #[]))),(.val (.string (ByteArray.mk #[]))),(.val (.slice none 0 0)),(.val (.int .i64 0)),(.val (.int .i64 0)),(.val (.int .i64 0)),(.val (.int .i64 0)),(.val (.string (ByteArray.mk #[]))),(.val (.string
 (ByteArray.mk #[]))),(.val (.slice none 0 0))] [(0,(1,(.t 58))),(1,(1,(.t 60))),(2,(7,(.t 65))),(9,(7,(.t 70)))]),x 72 (.bslice 16 [] 1 true [(0,(.t 71))]),x 73 (.append 16 208 (.t 52) (.t 72)),f 74 5 5,(.mk none none (.store 1 (.t 74)
 (.t 73)))]) .skip)))) (.reg [m 26 8,q 27 .add 26 1,m 8 27])))))) (.reg [m 15 7,q 16 .add 15 1,m 7 16]))))) (s [h 75 6 5,t 6 6 75] .ret))),[(.c 6 6 true)]⟩
theorem i106:iF 106 g106:=jF Tryz.func106 [(9,550292684816)]
def g107:GFun:=⟨⟨53,[3,4,1000005]⟩,(s [a 3 2 1,u 4 1] (s [m 7 0,m 11 0,m 14 0,u 5 1,h 8 2 3,h 9 2 3,x 10 (.call true 66 [.t 9]),x 12 (.calla 50 [.t 11,(.k (.val (.int .i64 12)))]),x 13 (.bin .add (.k (.val (.int .i64 6))) (.t 12)),
 x 15 (.calla 50 [.t 14,(.k (.val (.int .i64 3)))]),q 16 .mul 15 10,x 17 (.bin .add (.k (.val (.int .i64 1))) (.t 16)),x 18 (.calla 130 [.t 7,.t 8,.t 10,.t 13,.t 17]),x 5 (.strb 1 5 (.t 18))] (.seq (s [f 19 0 5,l 20 19,n 21 20,
 q 22 .gtr 21 16] (.cond 22 (.reg [m 23 0,h 24 2 3,h 25 2 3,x 26 (.call true 66 [.t 25]),x 27 (.calla 130 [.t 23,.t 24,.t 26,(.k (.val (.int .i64 1))),(.k (.val (.int .i64 1)))]),x 5 (.strb 1 5 (.t 27))]) .skip)) (.seq (s [m 28 0,
 c 29 68 [.t 28,(.k (.val (.int .i64 3)))]] (.cond 29 (s [k 6 0] (B 0 (.seq (s [m 30 6,f 31 0 5,l 32 31,n 33 32,o 34 .lss 30 33] (.cond 34 .skip (.exit 0))) (.seq (.block 1 (.reg [f 37 0 5,m 39 6,f 40 0 5,m 42 6,l 38 37,l 41 40,
 i 43 6 41 42,f 44 0 43,l 45 44,q 46 .mul 45 7,q 47 .add 46 3,q 48 .rem 47 97,q 49 .add 48 1,i 50 6 38 39,f 51 0 50,(.mk none none (.store 1 (.t 51) (.t 49)))])) (.reg [m 35 6,q 36 .add 35 1,m 6 36]))))) .skip)) (s [h 52 1 5,
 t 4 1 52] .ret))))),[(.c 4 1 true)]⟩
theorem i107:iF 107 g107:=jF Tryz.func107 [(1,8521744),(3,528)]
def g108:GFun:=⟨⟨12,[]⟩,(s [k 4 0] (s [m 5 1,m 6 0,m 7 1,n 8 7,c 9 50 [.t 6,.t 8],i 10 1 5 9,l 11 10,m 4 11] .ret)),[.t 4]⟩
theorem i108:iF 108 g108:=jF Tryz.func108
def g110:GFun:=⟨⟨14,[]⟩,(s [b 4 false] (s [m 5 1,c 6 51 [.t 5,(.k (.val (.int .i64 1))),(.k (.val (.int .i64 4)))],m 7 6,y 8 7 (.mov (.t 0)),y 9 7 (.mov (.t 1)),y 10 7 (.call false 134 [.t 8,.t 9]),y 11 7 (.mov (.t 0)),y 12 7
 (.bin .eql (.t 10) (.t 11)),x 13 (.pick (.t 7) (.t 12) (.k (.val (.bool false)))),m 4 13] .ret)),[.t 4]⟩
theorem i110:iF 110 g110:=jF Tryz.func110
def g111:GFun:=⟨⟨9,[]⟩,(s [b 4 false] (s [m 5 0,m 6 1,c 7 135 [.t 5,.t 6],q 8 .geq 7 0,m 4 8] .ret)),[.t 4]⟩
theorem i111:iF 111 g111:=jF Tryz.func111
def g112:GFun:=⟨⟨8,[2]⟩,(s [a 2 7 0,b 3 false] (s [h 4 7 2,l 5 1,c 6 93 [.t 4,.t 5],w 7 6,m 3 7] .ret)),[.t 3]⟩
theorem i112:iF 112 g112:=jF Tryz.func112
def g118:GFun:=⟨⟨48,[3]⟩,(s [a 3 2 1,x 4 (.mov (.k (.val (.slice none 0 0))))] (s [k 5 0] (.seq (B 0 (.seq (s [m 7 5,m 8 0,n 9 8,o 10 .lss 7 9,m 11 10,y 12 11 (.mov (.t 0)),y 13 11 (.mov (.t 5)),y 14 11 (.iaddr 2 (.t 12) (.t 13)),
 y 15 11 (j 2 14),y 16 11 (j 2 3),y 17 11 (.call true 148 [.t 15,.t 16]),x 18 (.pick (.t 11) (.t 17) (.k (.val (.bool false))))] (.cond 18 .skip (.exit 0))) (.block 1 (.reg [m 19 5,q 20 .add 19 1,m 5 20])))) (.seq (s [m 21 5,m 22 0,n 23 22,
 o 24 .lss 21 23,m 25 24,y 26 25 (.mov (.t 0)),y 27 25 (.mov (.t 5)),y 28 25 (.iaddr 2 (.t 26) (.t 27)),y 29 25 (j 2 28),y 30 25 (j 2 3),y 31 25 (.aeq false [1,2] (.t 29) (.t 30)),x 32 (.pick (.t 25) (.t 31) (.k (.val (.bool false))))]
 (.cond 32 (s [m 33 0,m 4 33] .ret) .skip)) (s [x 34 (.bslice 2 [] 0 true []),m 35 0,m 36 5,x 37 (.slc 2 (.t 35) none (some (.t 36))),x 38 (.append 2 24 (.t 34) (.t 37)),m 6 38] (s [m 39 6,h 40 2 3,x 41 (.bslice 2 [] 1 true [(0,(.t 40))]),
 x 42 (.append 2 24 (.t 39) (.t 41)),m 6 42] (s [m 43 6,m 44 0,m 45 5,x 46 (.slc 2 (.t 44) (some (.t 45)) none),x 47 (.append 2 24 (.t 43) (.t 46)),m 4 47] .ret))))))),[.t 4]⟩
theorem i118:iF 118 g118:=jF Tryz.func118
def g119:GFun:=⟨⟨76,[1]⟩,(s [a 1 2 0,k 2 0] (s [x 6 (.bslice 1 [] 0 false []),m 3 6] (.seq (s [k 4 0] (B 0 (.seq (s [m 7 4,f 8 0 1,l 9 8,n 10 9,o 11 .lss 7 10] (.cond 11 .skip (.exit 0))) (.seq (.block 1 (.seq (s [f 14 0 1,l 15 14,
 m 16 4,i 17 2 15 16,h 18 2 17,c 19 149 [.t 18],w 20 19,m 21 20,z 22 21 (.mov (.t 3)),z 23 21 (p 1 0 1),z 24 21 (r 1 23),z 25 21 (.mov (.t 4)),z 26 21 (.iaddr 2 (.t 24) (.t 25)),z 27 21 (p 1 0 26),z 28 21 (r 1 27),z 29 21
 (.call false 150 [.t 22,.t 28]),x 30 (.pick (.t 21) (.k (.val (.bool true))) (.t 29))] (.cond 30 (s [m 31 4,m 2 31] .ret) .skip)) (.reg [m 32 3,f 33 0 1,l 34 33,m 35 4,i 36 2 34 35,f 37 0 36,l 38 37,x 39 (.bslice 1 [] 1 false [(0,
 (.t 38))]),x 40 (.append 1 16 (.t 32) (.t 39)),m 3 40]))) (.reg [m 12 4,q 13 .add 12 1,m 4 13]))))) (s [x 41 (.bslice 1 [] 0 false []),m 3 41] (.seq (s [k 5 0] (B 2 (.seq (s [m 42 5,f 43 1 1,l 44 43,n 45 44,o 46 .lss 42 45]
 (.cond 46 .skip (.exit 2))) (.seq (.block 3 (.seq (s [f 49 1 1,l 50 49,m 51 5,i 52 6 50 51,h 53 6 52,c 54 151 [.t 53],w 55 54,m 56 55,z 57 56 (.mov (.t 3)),z 58 56 (p 1 1 1),z 59 56 (r 1 58),z 60 56 (.mov (.t 5)),z 61 56 (.iaddr 6
 (.t 59) (.t 60)),z 62 56 (p 1 0 61),z 63 56 (r 1 62),z 64 56 (.call false 150 [.t 57,.t 63]),x 65 (.pick (.t 56) (.k (.val (.bool true))) (.t 64))] (.cond 65 (s [m 66 5,m 2 66] .ret) .skip)) (.reg [m 67 3,f 68 1 1,l 69 68,m 70 5,
 i 71 6 69 70,f 72 0 71,l 73 72,x 74 (.bslice 1 [] 1 false [(0,(.t 73))]),x 75 (.append 1 16 (.t 67) (.t 74)),m 3 75]))) (.reg [m 47 5,q 48 .add 47 1,m 5 48]))))) (s [k 2 (-1)] .ret)))))),[.t 2]⟩
theorem i119:iF 119 g119:=jF Tryz.func119
def g120:GFun:=⟨⟨27,[3,4]⟩,(s [a 3 2 0,a 4 6 1,b 6 false] (.seq (s [m 7 2] (.block 0 (s [q 9 .eql 7 3,m 8 9] (.cond 8 (s [h 10 2 3,h 11 6 4,c 12 152 [.t 10,.t 11],w 13 12,m 6 13] .ret) (s [q 15 .eql 7 4,m 14 15] (.cond 14 (s [h 16 2 3,
 h 17 6 4,c 18 153 [.t 16,.t 17],m 6 18] .ret) (s [q 20 .eql 7 5,m 19 20] (.cond 19 (s [h 21 2 3,h 22 6 4,c 23 154 [.t 21,.t 22],m 6 23] .ret) .skip)))))))) (s [h 24 2 3,h 25 6 4,c 26 155 [.t 24,.t 25],m 6 26] .ret))),[.t 6]⟩
theorem i120:iF 120 g120:=jF Tryz.func120
def g121:GFun:=⟨⟨77,[3,4,5]⟩,(s [a 3 2 0,a 4 6 1,a 5 7 2,k 6 0] (.seq (s [f 7 0 5,l 8 7] (.block 0 (s [q 10 .eql 8 1,m 9 10] (.cond 9 (s [f 11 3 5,l 12 11,m 6 12] .ret) (s [q 14 .eql 8 2,m 13 14] (.cond 13 (s [f 15 3 4,l 16 15]
 (.cond 16 (s [k 6 1] .ret) .skip)) (s [q 18 .eql 8 3,m 17 18] (.cond 17 (s [f 19 2 5,l 20 19,f 21 2 4,l 22 21,n 23 22,c 24 51 [.t 20,(.k (.val (.int .i64 0))),.t 23]] (.cond 24 (s [f 27 2 5,f 30 5 5,h 25 2 3,h 26 6 4,l 28 27,x 29
 (.call true 123 [.t 26,.t 28]),l 31 30,x 32 (.call true 122 [.t 25,.t 29,.t 31]),m 6 32] .ret) .skip)) (s [q 34 .eql 8 4,m 33 34] (.cond 33 (s [h 35 2 3,h 36 6 4,h 37 7 5,c 38 156 [.t 35,.t 36,.t 37],m 6 38] .ret) (s [q 40 .eql 8 5,
 m 39 40] (.cond 39 (s [h 41 2 3,h 42 6 4,h 43 7 5,c 44 157 [.t 41,.t 42,.t 43],m 6 44] .ret) (s [q 46 .eql 8 6,m 45 46] (.cond 45 (s [f 47 2 5,l 48 47,f 49 2 4,l 50 49,n 51 50,c 52 51 [.t 48,(.k (.val (.int .i64 0))),.t 51]] (.cond 52
 (s [k 6 4] .ret) .skip)) (s [q 54 .eql 8 7,m 53 54] (.cond 53 (s [k 6 4] .ret) (s [q 56 .eql 8 8,m 55 56] (.cond 55 (s [f 57 6 5,l 58 57,n 59 58,q 60 .eql 59 1,m 61 60,y 64 61 (p 1 6 5),y 62 61 (j 2 3),y 63 61 (j 6 4),y 65 61 (r 1 64),
 y 66 61 (.iaddr 7 (.t 65) (.k (.val (.int .i64 0)))),y 67 61 (j 7 66),y 68 61 (.call true 121 [.t 62,.t 63,.t 67]),y 69 61 (.bin .eql (.t 68) (.k (.val (.int .i64 4)))),x 70 (.pick (.t 61) (.t 69) (.k (.val (.bool false))))] (.cond 70
 (s [h 71 2 3,f 72 4 5,l 73 72,f 74 5 5,l 75 74,c 76 122 [.t 71,.t 73,.t 75],m 6 76] .ret) .skip)) .skip)))))))))))))))))) (s [k 6 0] .ret))),[.t 6]⟩
theorem i121:iF 121 g121:=jF Tryz.func121
def g122:GFun:=⟨⟨27,[3,7,9]⟩,(s [a 3 2 0,k 6 0] (s [h 12 2 3,m 13 1,c 14 45 [.t 12,.t 13],m 11 14,v 15 11 0,v 16 11 1,u 7 2,t 7 2 15,m 8 16] (s [h 18 2 7,m 19 2,c 20 64 [.t 18,.t 19],m 17 20,v 21 17 0,v 22 17 1,u 9 4,t 9 4 21,m 10 22]
 (.seq (s [m 23 10,w 24 23] (.cond 24 (s [k 6 0] .ret) .skip)) (s [f 25 1 9,l 26 25,m 6 26] .ret))))),[.t 6]⟩
theorem i122:iF 122 g122:=jF Tryz.func122
def g123:GFun:=⟨⟨21,[2]⟩,(s [a 2 6 0,x 4 (.mov (.k (.val (.string (ByteArray.mk #[])))))] (.seq (s [m 5 1,q 6 .eql 5 0] (.cond 6 (s [f 7 1 2,l 8 7,m 4 8] .ret) .skip)) (.seq (s [m 9 1,f 10 2 2,l 11 10,n 12 11,c 13 51 [.t 9,(.k (.val
 (.int .i64 1))),.t 12],w 14 13] (.cond 14 (s [x 4 (.mov (.k (.val (.string (ByteArray.mk #[])))))] .ret) .skip)) (s [f 15 2 2,l 16 15,m 17 1,q 18 .sub 17 1,i 19 1 16 18,l 20 19,m 4 20] .ret)))),[.t 4]⟩
theorem i123:iF 123 g123:=jF Tryz.func123
def g124:GFun:=⟨⟨16,[2]⟩,(s [a 2 2 0,k 4 0] (s [h 6 2 2,m 7 1,c 8 158 [.t 6,.t 7],m 5 8] (.seq (s [m 9 5,q 10 .lss 9 0] (.cond 10 (s [k 4 0] .ret) .skip)) (s [h 11 2 2,c 12 159 [.t 11],m 13 5,i 14 1 12 13,l 15 14,m 4 15] .ret)))),
 [.t 4]⟩
theorem i124:iF 124 g124:=jF Tryz.func124
def g125:GFun:=⟨⟨56,[2,3,7]⟩,(s [a 2 2 0,a 3 6 1,x 4 (.mov (.k (.val (.slice none 0 0))))] (s [x 11 (.bslice 2 [] 0 true []),m 5 11] (.seq (s [k 6 0] (B 0 (.seq (s [m 12 6,f 13 2 3,l 14 13,n 15 14,o 16 .leq 12 15] (.cond 16 .skip
 (.exit 0))) (.seq (.block 1 (s [m 22 6,u 7 2,h 20 2 2,h 21 6 3,x 23 (.call true 123 [.t 21,.t 22]),x 24 (.call true 45 [.t 20,.t 23]),m 19 24,v 25 19 0,v 26 19 1,t 7 2 25,m 8 26] (s [k 9 1] (.seq (s [m 27 6,q 28 .eql 27 0] (.cond 28
 (.reg [k 9 2]) .skip)) (s [k 10 0] (B 2 (.seq (s [m 29 10,f 30 1 7,l 31 30,n 32 31,o 33 .lss 29 32] (.cond 33 .skip (.exit 2))) (.seq (.block 3 (s [f 36 1 7,l 37 36,m 38 10,i 39 4 37 38,f 40 2 39,l 41 40,m 42 9,o 43 .eql 41 42] (.cond 43
 (.reg [m 44 5,m 45 6,f 46 1 7,l 47 46,m 48 10,i 49 4 47 48,f 50 0 49,l 51 50,x 52 (.build [(.val (.int .i64 0)),(.val (.string (ByteArray.mk #[])))] [(0,(1,(.t 45))),(1,(1,(.t 51)))]),x 53 (.bslice 2 [] 1 true [(0,(.t 52))]),x 54
 (.append 2 24 (.t 44) (.t 53)),m 5 54]) .skip))) (.reg [m 34 10,q 35 .add 34 1,m 10 35]))))))))) (.reg [m 17 6,q 18 .add 17 1,m 6 18]))))) (s [m 55 5,m 4 55] .ret)))),[.t 4]⟩
theorem i125:iF 125 g125:=jF Tryz.func125
def g126:GFun:=⟨⟨155,[7,8,12,13,14,3000124,3000129,3000110]⟩,(s [a 7 2 1,a 8 6 2,u 12 7] (.seq (s [m 19 4,q 20 .lss 19 2,m 21 20,z 22 21 (.mov (.t 0)),z 23 21 (.call false 68 [.t 22,(.k (.val (.int .i64 3)))]),x 24 (.pick (.t 21) (.k
 (.val (.bool true))) (.t 23))] (.cond 24 (.seq (s [m 25 3,q 26 .eql 25 1,m 27 26,y 28 27 (p 1 3 8),y 29 27 (r 1 28),x 30 (.pick (.t 27) (.t 29) (.k (.val (.bool false)))),m 31 30,y 32 31 (.mov (.t 0)),y 33 31 (.call false 68 [.t 32,(.k
 (.val (.int .i64 3)))]),x 34 (.pick (.t 31) (.t 33) (.k (.val (.bool false))))] (.cond 34 (s [x 35 (.build [(.val (.int .i64 0)),(.val (.int .i64 0)),(.val (.int .i64 0)),(.val (.int .i64 0)),(.val (.string (ByteArray.mk #[]))),(.val
 (.string (ByteArray.mk #[]))),(.val (.slice none 0 0))] [(0,(1,(.k (.val (.int .i64 2)))))]),t 12 7 35] .ret) .skip)) (s [m 36 0,m 37 3,h 38 2 7,h 39 6 8,m 40 3,c 41 129 [.t 38,.t 39,.t 40],c 42 128 [.t 36,.t 37,.t 41],
 t 12 7 42] .ret)) .skip)) (.seq (s [m 43 5,m 44 43,y 45 44 (.mov (.t 0)),y 46 44 (.call false 68 [.t 45,(.k (.val (.int .i64 4)))]),x 47 (.pick (.t 44) (.t 46) (.k (.val (.bool false))))] (.cond 47 (s [f 48 0 7,m 50 0,f 51 0 7,u 13 2,
 l 49 48,l 52 51,n 53 52,x 54 (.calla 50 [.t 50,.t 53]),i 55 2 49 54,h 56 2 55,t 13 2 56] (s [f 57 1 13,m 59 0,f 60 1 13,u 14 4,l 58 57,l 61 60,n 62 61,x 63 (.calla 50 [.t 59,.t 62]),i 64 4 58 63,h 65 4 64,t 14 4 65] (s [f 66 1 14,l 67 66,
 m 68 3,o 69 .eql 67 68] (.cond 69 (s [f 70 0 13,f 72 0 14,m 74 0,l 71 70,l 73 72,h 75 2 7,h 76 6 8,x 77 (.call true 129 [.t 75,.t 76,(.k (.val (.int .i64 4)))]),x 78 (.calla 128 [.t 74,(.k (.val (.int .i64 4))),.t 77]),x 79
 (.bslice 7 [] 1 true [(0,(.t 78))]),x 80 (.build [(.val (.int .i64 0)),(.val (.int .i64 0)),(.val (.int .i64 0)),(.val (.int .i64 0)),(.val (.string (ByteArray.mk #[]))),(.val (.string (ByteArray.mk #[]))),(.val (.slice none 0 0))] [(0,(1,
 (.k (.val (.int .i64 8))))),(4,(1,(.t 71))),(5,(1,(.t 73))),(6,(1,(.t 79)))]),t 12 7 80] .ret) .skip)))) .skip)) (.seq (s [m 81 0,c 82 68 [.t 81,(.k (.val (.int .i64 6)))]] (.cond 82 (s [m 83 0,m 86 4,q 87 .sub 86 1,m 88 5,m 90 0,m 93 3,
 m 94 4,q 95 .sub 94 1,m 96 5,m 98 0,m 101 3,m 102 4,q 103 .sub 102 1,m 104 5,h 84 2 7,h 85 6 8,h 91 2 7,h 92 6 8,h 99 2 7,h 100 6 8,x 89 (.calla 126 [.t 83,.t 84,.t 85,(.k (.val (.int .i64 3))),.t 87,.t 88]),x 97 (.calla 126 [.t 90,.t 91,
 .t 92,.t 93,.t 95,.t 96]),x 105 (.calla 126 [.t 98,.t 99,.t 100,.t 101,.t 103,.t 104]),x 106 (.bslice 7 [] 3 true [(0,(.t 89)),(1,(.t 97)),(2,(.t 105))]),x 107 (.build [(.val (.int .i64 0)),(.val (.int .i64 0)),(.val (.int .i64 0)),(.val
 (.int .i64 0)),(.val (.string (ByteArray.mk #[]))),(.val (.string (ByteArray.mk #[]))),(.val (.slice none 0 0))] [(0,(1,(.k (.val (.int .i64 5))))),(6,(1,(.t 106)))]),t 12 7 107] .ret) .skip)) (s [k 15 0] (.seq (s [m 108 3] (.block 0
 (s [q 113 .eql 108 4,m 112 113] (.cond 112 (s [m 114 0,m 115 3,h 116 2 7,h 117 6 8,m 118 3,c 119 129 [.t 116,.t 117,.t 118],c 120 128 [.t 114,.t 115,.t 119],t 12 7 120] .ret) (s [q 122 .eql 108 1,m 121 122] (.cond 121 (.reg [m 123 0,
 x 124 (.bslro 1 [] 6 false [(0,(.k (.val (.int .i64 1)))),(1,(.k (.val (.int .i64 1)))),(2,(.k (.val (.int .i64 2)))),(3,(.k (.val (.int .i64 3)))),(4,(.k (.val (.int .i64 4)))),(5,(.k (.val (.int .i64 5))))]),c 125 108 [.t 123,.t 124],
 m 15 125]) (s [q 127 .eql 108 2,m 126 127] (.cond 126 (.reg [m 128 0,x 129 (.bslro 1 [] 5 false [(0,(.k (.val (.int .i64 6)))),(1,(.k (.val (.int .i64 6)))),(2,(.k (.val (.int .i64 7)))),(3,(.k (.val (.int .i64 8)))),(4,(.k (.val
 (.int .i64 12))))]),c 130 108 [.t 128,.t 129],m 15 130]) (.reg [m 109 0,x 110 (.bslro 1 [] 3 false [(0,(.k (.val (.int .i64 9)))),(1,(.k (.val (.int .i64 10)))),(2,(.k (.val (.int .i64 11))))]),c 111 108 [.t 109,.t 110],
 m 15 111]))))))))) (s [m 132 15,c 133 160 [.t 132],m 131 133,v 134 131 0,v 135 131 1,v 136 131 2,m 16 134,m 17 135,m 18 136] (s [m 137 15,m 138 0,m 141 16,m 142 4,q 143 .sub 142 1,m 144 5,m 146 0,m 149 17,m 150 4,q 151 .sub 150 1,m 152 5,
 h 139 2 7,h 140 6 8,h 147 2 7,h 148 6 8,x 145 (.calla 126 [.t 138,.t 139,.t 140,.t 141,.t 143,.t 144]),x 153 (.calla 126 [.t 146,.t 147,.t 148,.t 149,.t 151,.t 152]),x 154 (.calla 161 [.t 137,.t 145,.t 153]),t 12 7 154] .ret)))))))),
 [(.c 12 7 true)]⟩
theorem i126:iF 126 g126:=jF Tryz.func126 [(6,8208),(7,8208),(9,131088),(11,35184908967952),(22,42949804048)]
def g127:GFun:=⟨⟨15,[1]⟩,(s [a 1 7 0,b 2 false] (s [h 3 7 1,c 4 162 [.t 3,(.k (.val (.int .i64 24)))],q 5 .geq 4 0,m 6 5,y 7 6 (j 7 1),y 8 6 (.call false 163 [.t 7]),y 9 6 (.bin .leq (.t 8) (.k (.val (.int .i64 6)))),x 10 (.pick
 (.t 6) (.t 9) (.k (.val (.bool false)))),m 11 10,y 12 11 (j 7 1),y 13 11 (.call false 164 [.t 12]),x 14 (.pick (.t 11) (.t 13) (.k (.val (.bool false)))),m 2 14] .ret)),[.t 2]⟩
theorem i127:iF 127 g127:=jF Tryz.func127
def g128:GFun:=⟨⟨52,[6,7]⟩,(s [u 6 7] (.seq (s [m 8 2,n 9 8,q 10 .gtr 9 0,m 11 10,y 12 11 (.mov (.t 0)),y 13 11 (.call false 68 [.t 12,(.k (.val (.int .i64 4)))]),y 14 11 (.not (.t 13)),x 15 (.pick (.t 11) (.t 14) (.k (.val
 (.bool false))))] (.cond 15 (s [m 16 2,m 17 0,m 18 2,n 19 18,c 20 50 [.t 17,.t 19],i 21 2 16 20,h 22 2 21,u 7 2,t 7 2 22] (s [f 23 0 7,l 24 23,f 25 1 7,l 26 25,x 27 (.build [(.val (.int .i64 0)),(.val (.int .i64 0)),(.val (.int .i64 0)),
 (.val (.int .i64 0)),(.val (.string (ByteArray.mk #[]))),(.val (.string (ByteArray.mk #[]))),(.val (.slice none 0 0))] [(0,(1,(.k (.val (.int .i64 3))))),(2,(1,(.t 24))),(5,(1,(.t 26)))]),t 6 7 27] .ret)) .skip)) (.seq (s [m 28 1]
 (.block 0 (s [q 30 .eql 28 4,m 29 30] (.cond 29 (.seq (s [m 31 0,c 32 68 [.t 31,(.k (.val (.int .i64 3)))]] (.cond 32 (s [x 33 (.build [(.val (.int .i64 0)),(.val (.int .i64 0)),(.val (.int .i64 0)),(.val (.int .i64 0)),(.val (.string
 (ByteArray.mk #[]))),(.val (.string (ByteArray.mk #[]))),(.val (.slice none 0 0))] [(0,(1,(.k (.val (.int .i64 7)))))]),t 6 7 33] .ret) .skip)) (s [x 34 (.build [(.val (.int .i64 0)),(.val (.int .i64 0)),(.val (.int .i64 0)),(.val
 (.int .i64 0)),(.val (.string (ByteArray.mk #[]))),(.val (.string (ByteArray.mk #[]))),(.val (.slice none 0 0))] [(0,(1,(.k (.val (.int .i64 6)))))]),t 6 7 34] .ret)) (s [q 36 .eql 28 3,m 35 36] (.cond 35 (s [m 37 0,c 38 50 [.t 37,(.k
 (.val (.int .i64 2)))],m 39 1,c 40 165 [.t 38,.t 39],t 6 7 40] .ret) (s [q 42 .eql 28 2,m 41 42] (.cond 41 (s [m 43 0,c 44 50 [.t 43,(.k (.val (.int .i64 12)))],x 45 (.conv .u64 (.t 44)),x 46 (.bin .shl (.k (.val (.int .i64 1))) (.t 45)),
 m 47 1,c 48 165 [.t 46,.t 47],t 6 7 48] .ret) .skip)))))))) (s [m 49 0,c 50 50 [.t 49,(.k (.val (.int .i64 9)))],c 51 165 [.t 50,(.k (.val (.int .i64 1)))],t 6 7 51] .ret)))),[(.c 6 7 true)]⟩
theorem i128:iF 128 g128:=jF Tryz.func128
def g129:GFun:=⟨⟨73,[3,4,9,12]⟩,(s [a 3 2 0,a 4 6 1,x 6 (.mov (.k (.val (.slice none 0 0))))] (s [x 14 (.bslice 2 [] 0 true []),m 7 14] (.seq (s [k 8 0] (B 0 (.seq (s [m 15 8,f 16 2 4,l 17 16,n 18 17,o 19 .leq 15 18] (.cond 19 .skip
 (.exit 0))) (.seq (.block 1 (s [m 25 8,u 9 2,h 23 2 3,h 24 6 4,x 26 (.call true 123 [.t 24,.t 25]),x 27 (.call true 45 [.t 23,.t 26]),m 22 27,v 28 22 0,v 29 22 1,t 9 2 28,m 10 29] (s [k 11 0] (B 2 (.seq (s [m 30 11,f 31 1 9,l 32 31,
 n 33 32,o 34 .lss 30 33] (.cond 34 .skip (.exit 2))) (.seq (.block 3 (s [f 37 1 9,l 38 37,m 39 11,i 40 4 38 39,h 41 4 40,u 12 4,t 12 4 41] (s [m 42 8,q 43 .eql 42 0,m 44 43,y 45 44 (p 1 2 12),y 46 44 (r 1 45),y 47 44 (.bin .eql (.t 46)
 (.k (.val (.int .i64 1)))),x 48 (.pick (.t 44) (.t 47) (.k (.val (.bool false)))),m 49 48,z 50 49 (.mov (.t 8)),z 51 49 (.bin .gtr (.t 50) (.k (.val (.int .i64 0)))),z 52 49 (.mov (.t 51)),y 53 52 (p 1 2 12),y 54 52 (r 1 53),y 55 52
 (.bin .eql (.t 54) (.k (.val (.int .i64 2)))),z 56 49 (.pick (.t 52) (.t 55) (.k (.val (.bool false)))),x 57 (.pick (.t 49) (.k (.val (.bool true))) (.t 56)),m 13 57] (s [f 58 1 12,l 59 58,m 60 2,o 61 .eql 59 60,m 62 61,y 63 62 (.mov
 (.t 13)),x 64 (.pick (.t 62) (.t 63) (.k (.val (.bool false))))] (.cond 64 (.reg [m 65 7,m 66 8,f 67 0 12,l 68 67,x 69 (.build [(.val (.int .i64 0)),(.val (.string (ByteArray.mk #[])))] [(0,(1,(.t 66))),(1,(1,(.t 68)))]),x 70
 (.bslice 2 [] 1 true [(0,(.t 69))]),x 71 (.append 2 24 (.t 65) (.t 70)),m 7 71]) .skip))))) (.reg [m 35 11,q 36 .add 35 1,m 11 36]))))))) (.reg [m 20 8,q 21 .add 20 1,m 8 21]))))) (s [m 72 7,m 6 72] .ret)))),[.t 6]⟩
theorem i129:iF 129 g129:=jF Tryz.func129
def g130:GFun:=⟨⟨70,[6,10,11,16]⟩,(s [a 6 2 1,u 10 1] (s [m 17 0,h 18 2 6,m 19 2,m 20 3,c 21 166 [.t 17,.t 18,.t 19,.t 20],u 11 6,t 11 6 21] (s [m 22 4,f 23 0 11,l 24 23,x 25 (.build [(.val (.int .i64 0)),(.val (.int .i64 0)),(.val
 (.int .i64 0)),(.val (.int .i64 0)),(.val (.string (ByteArray.mk #[]))),(.val (.slice none 0 0))] [(0,(1,(.t 22))),(4,(1,(.t 24)))]),x 12 (.alloc 6 (.agg [(.val (.int .i64 0)),(.val (.int .i64 0)),(.val (.int .i64 0)),(.val (.int .i64 0)),
 (.val (.string (ByteArray.mk #[]))),(.val (.slice none 0 0))])),(.mk none none (.store 6 (.t 12) (.t 25)))] (.seq (s [f 26 3 11,l 27 26] (.cond 27 (.reg [m 28 0,c 29 50 [.t 28,(.k (.val (.int .i64 9)))],q 30 .sub 29 2,f 31 3 12,
 (.mk none none (.store 1 (.t 31) (.t 30)))]) .skip)) (s [m 32 4,q 33 .add 32 1,m 13 33] (s [x 34 (.bslice 1 [] 0 true []),m 14 34] (.seq (s [k 15 0] (B 0 (.seq (s [m 35 15,f 36 2 11,l 37 36,n 38 37,o 39 .lss 35 38] (.cond 39 .skip
 (.exit 0))) (.seq (.block 1 (s [m 42 0,f 44 2 11,m 46 15,m 49 3,f 50 2 11,m 56 13,u 16 1,h 43 2 6,l 45 44,i 47 1 45 46,l 48 47,l 51 50,n 52 51,x 53 (.call true 83 [(.k (.val (.int .i64 1))),.t 52]),o 54 .quo 49 53,q 55 .sub 54 1,x 57
 (.calla 130 [.t 42,.t 43,.t 48,.t 55,.t 56]),t 16 1 57] (s [m 58 13,f 59 0 16,l 60 59,n 61 60,o 62 .add 58 61,m 13 62] (.reg [m 63 14,h 64 1 16,x 65 (.bslice 1 [] 1 true [(0,(.t 64))]),x 66 (.append 1 24 (.t 63) (.t 65)),m 14 66]))))
 (.reg [m 40 15,q 41 .add 40 1,m 15 41]))))) (s [h 67 6 12,m 68 14,c 69 167 [.t 67,.t 68],t 10 1 69] .ret)))))))),[(.c 10 1 true)]⟩
theorem i130:iF 130 g130:=jF Tryz.func130 [(10,2147483664)]
def g134:GFun:=⟨⟨24,[]⟩,(s [k 4 0] (.seq (s [m 5 1] (.block 0 (s [q 7 .eql 5 1,m 6 7] (.cond 6 (s [m 8 0,c 9 168 [.t 8],m 4 9] .ret) (s [q 11 .eql 5 2,m 10 11] (.cond 10 (s [m 12 0,q 13 .and 12 4095,m 4 13] .ret) (s [q 15 .eql 5 3,
 m 14 15] (.cond 14 (s [m 16 0,q 17 .neq 16 0,c 18 169 [.t 17],m 4 18] .ret) (s [q 20 .eql 5 4,m 19 20] (.cond 19 (s [m 21 0,c 22 51 [.t 21,(.k (.val (.int .i64 0))),(.k (.val (.int .i64 999)))]] (.cond 22 (s [m 23 0,
 m 4 23] .ret) .skip)) .skip)))))))))) (s [k 4 0] .ret))),[.t 4]⟩
theorem i134:iF 134 g134:=jF Tryz.func134
def g135:GFun:=⟨⟨19,[]⟩,(s [k 4 0] (.seq (s [m 6 0,n 7 6,k 8 0] (B 0 (s [o 9 .lss 8 7] (C 9 0 (.seq (.block 1 (s [m 10 8,m 5 10] (s [m 11 1,m 12 0,m 13 5,i 14 7 12 13,h 15 7 14,x 16 (.callv false (.t 11) [.t 15])] (.cond 16 (s [m 17 5,
 m 4 17] .ret) .skip)))) (.reg [q 18 .add 8 1,m 8 18])))))) (s [k 4 (-1)] .ret))),[.t 4]⟩
theorem i135:iF 135 g135:=jF Tryz.func135
def g148:GFun:=⟨⟨24,[2,3]⟩,(s [a 2 2 0,a 3 2 1,b 4 false] (s [f 5 0 2,l 6 5,f 7 0 3,l 8 7,o 9 .lss 6 8,m 10 9,z 11 10 (p 1 0 2),z 12 10 (r 1 11),z 13 10 (p 1 0 3),z 14 10 (r 1 13),z 15 10 (.bin .eql (.t 12) (.t 14)),z 16 10 (.mov
 (.t 15)),y 17 16 (p 1 1 2),y 18 16 (r 1 17),y 19 16 (p 1 1 3),y 20 16 (r 1 19),y 21 16 (.bin .lss (.t 18) (.t 20)),z 22 10 (.pick (.t 16) (.t 21) (.k (.val (.bool false)))),x 23 (.pick (.t 10) (.k (.val (.bool true))) (.t 22)),
 m 4 23] .ret)),[.t 4]⟩
theorem i148:iF 148 g148:=jF Tryz.func148
def g149:GFun:=⟨⟨41,[1]⟩,(s [a 1 2 0,b 2 false] (s [x 5 (.bslice 1 [] 0 false []),m 3 5] (.seq (s [k 4 0] (B 0 (.seq (s [m 6 4,f 7 1 1,l 8 7,n 9 8,o 10 .lss 6 9] (.cond 10 .skip (.exit 0))) (.seq (.block 1 (.seq (s [f 13 1 1,l 14 13,
 m 15 4,i 16 4 14 15,h 17 4 16,c 18 175 [.t 17],w 19 18] (.cond 19 (s [b 2 false] .ret) .skip)) (.reg [m 20 3,f 21 1 1,l 22 21,m 23 4,i 24 4 22 23,f 25 0 24,l 26 25,x 27 (.bslice 1 [] 1 false [(0,(.t 26))]),x 28 (.append 1 16 (.t 20)
 (.t 27)),m 3 28]))) (.reg [m 11 4,q 12 .add 11 1,m 4 12]))))) (s [f 29 0 1,l 30 29,c 31 176 [.t 30],m 32 31,y 33 32 (.mov (.t 3)),y 34 32 (.len (.t 33)),y 35 32 (.bin .leq (.t 34) (.k (.val (.int .i64 4)))),x 36 (.pick (.t 32) (.t 35)
 (.k (.val (.bool false)))),m 37 36,y 38 37 (.mov (.t 3)),y 39 37 (.call false 177 [.t 38]),x 40 (.pick (.t 37) (.t 39) (.k (.val (.bool false)))),m 2 40] .ret)))),[.t 2]⟩
theorem i149:iF 149 g149:=jF Tryz.func149
def g150:GFun:=⟨⟨18,[]⟩,(s [b 4 false] (.seq (s [k 5 0] (B 0 (.seq (s [m 6 5,m 7 0,n 8 7,o 9 .lss 6 8] (.cond 9 .skip (.exit 0))) (.seq (.block 1 (s [m 12 0,m 13 5,i 14 1 12 13,l 15 14,m 16 1,o 17 .eql 15 16] (.cond 17
 (s [b 4 true] .ret) .skip))) (.reg [m 10 5,q 11 .add 10 1,m 5 11]))))) (s [b 4 false] .ret))),[.t 4]⟩
theorem i150:iF 150 g150:=jF Tryz.func150
def g151:GFun:=⟨⟨112,[1,6,8]⟩,(s [a 1 6 0,b 2 false] (s [f 9 2 1,l 10 9,n 11 10,m 3 11] (.seq (s [f 12 0 1,l 13 12,c 14 176 [.t 13],w 15 14,m 16 15,z 17 16 (p 1 1 1),z 18 16 (r 1 17),z 19 16 (.call false 176 [.t 18]),z 20 16 (.not
 (.t 19)),x 21 (.pick (.t 16) (.k (.val (.bool true))) (.t 20)),m 22 21,z 23 22 (.mov (.t 3)),z 24 22 (.bin .gtr (.t 23) (.k (.val (.int .i64 3)))),x 25 (.pick (.t 22) (.k (.val (.bool true))) (.t 24)),m 26 25,z 27 26 (p 1 5 1),z 28 26
 (r 1 27),z 29 26 (.len (.t 28)),z 30 26 (.bin .gtr (.t 29) (.k (.val (.int .i64 2)))),x 31 (.pick (.t 26) (.k (.val (.bool true))) (.t 30))] (.cond 31 (s [b 2 false] .ret) .skip)) (.seq (s [k 4 0] (B 0 (.seq (s [m 32 4,m 33 3,
 o 34 .lss 32 33] (.cond 34 .skip (.exit 0))) (.seq (.block 1 (s [f 37 2 1,l 38 37,m 39 4,i 40 1 38 39,l 41 40,c 42 176 [.t 41],w 43 42] (.cond 43 (s [b 2 false] .ret) .skip))) (.reg [m 35 4,q 36 .add 35 1,m 4 36]))))) (.seq (s [k 5 0]
 (B 2 (.seq (s [m 44 5,f 45 4 1,l 46 45,n 47 46,o 48 .lss 44 47] (.cond 48 .skip (.exit 2))) (.seq (.block 3 (s [f 51 4 1,l 52 51,m 53 5,i 54 9 52 53,h 55 9 54,u 6 9,t 6 9 55] (s [e 56 0 2 6,f 57 1 56,l 58 57,c 59 176 [.t 58],w 60 59,
 m 61 60,z 62 61 (.faddr 0 2 true (.t 6)),z 63 61 (p 1 0 62),z 64 61 (r 1 63),z 65 61 (.mov (.t 3)),z 66 61 (.call false 51 [.t 64,(.k (.val (.int .i64 0))),.t 65]),z 67 61 (.not (.t 66)),x 68 (.pick (.t 61) (.k (.val (.bool true)))
 (.t 67)),m 69 68,z 70 69 (.faddr 2 7 true (.t 6)),z 71 69 (j 7 70),z 72 69 (.mov (.t 3)),z 73 69 (.call false 178 [.t 71,.t 72]),z 74 69 (.not (.t 73)),x 75 (.pick (.t 69) (.k (.val (.bool true))) (.t 74))] (.cond 75
 (s [b 2 false] .ret) .skip)))) (.reg [m 49 5,q 50 .add 49 1,m 5 50]))))) (.seq (s [k 7 0] (B 4 (.seq (s [m 76 7,f 77 5 1,l 78 77,n 79 78,o 80 .lss 76 79] (.cond 80 .skip (.exit 4))) (.seq (.block 5 (s [f 83 5 1,l 84 83,m 85 7,
 i 86 16 84 85,h 87 16 86,u 8 16,t 8 16 87] (s [f 88 0 8,l 89 88,c 90 176 [.t 89],w 91 90,m 92 91,z 93 92 (p 1 1 8),z 94 92 (r 1 93),z 95 92 (.call false 176 [.t 94]),z 96 92 (.not (.t 95)),x 97 (.pick (.t 92) (.k (.val (.bool true)))
 (.t 96)),m 98 97,z 99 98 (.faddr 2 7 true (.t 8)),z 100 98 (j 7 99),z 101 98 (.mov (.t 3)),z 102 98 (.call false 178 [.t 100,.t 101]),z 103 98 (.not (.t 102)),x 104 (.pick (.t 98) (.k (.val (.bool true))) (.t 103)),m 105 104,z 106 105
 (.faddr 9 7 true (.t 8)),z 107 105 (j 7 106),z 108 105 (.mov (.t 3)),z 109 105 (.call false 178 [.t 107,.t 108]),z 110 105 (.not (.t 109)),x 111 (.pick (.t 105) (.k (.val (.bool true))) (.t 110))] (.cond 111
 (s [b 2 false] .ret) .skip)))) (.reg [m 81 7,q 82 .add 81 1,m 7 82]))))) (s [b 2 true] .ret))))))),[.t 2]⟩
theorem i151:iF 151 g151:=jF Tryz.func151
def g152:GFun:=⟨⟨25,[2,3,6]⟩,(s [a 2 2 0,a 3 6 1,b 4 false] (.seq (s [k 5 0] (B 0 (.seq (s [m 8 5,f 9 2 3,l 10 9,n 11 10,o 12 .leq 8 11] (.cond 12 .skip (.exit 0))) (.seq (.block 1 (s [m 18 5,u 6 2,h 16 2 2,h 17 6 3,x 19
 (.call true 123 [.t 17,.t 18]),x 20 (.call true 45 [.t 16,.t 19]),m 15 20,v 21 15 0,v 22 15 1,t 6 2 21,m 7 22] (s [m 23 7,w 24 23] (.cond 24 (s [b 4 false] .ret) .skip)))) (.reg [m 13 5,q 14 .add 13 1,m 5 14]))))) (s [b 4 true] .ret))),
 [.t 4]⟩
theorem i152:iF 152 g152:=jF Tryz.func152
def g153:GFun:=⟨⟨29,[2,3,7]⟩,(s [a 2 2 0,a 3 6 1,b 4 false] (s [h 9 2 2,h 10 6 3,c 11 125 [.t 9,.t 10],m 5 11] (.seq (s [k 6 0] (B 0 (.seq (s [m 12 6,m 13 5,n 14 13,o 15 .lss 12 14] (.cond 15 .skip (.exit 0))) (.seq (.block 1
 (s [m 20 5,m 21 6,i 22 2 20 21,u 7 7,h 19 6 3,h 23 2 22,x 24 (.call true 60 [.t 19,.t 23]),m 18 24,v 25 18 0,v 26 18 1,t 7 7 25,m 8 26] (s [m 27 8,w 28 27] (.cond 28 (s [b 4 true] .ret) .skip)))) (.reg [m 16 6,q 17 .add 16 1,m 6 17])))))
 (s [b 4 false] .ret)))),[.t 4]⟩
theorem i153:iF 153 g153:=jF Tryz.func153
def g154:GFun:=⟨⟨39,[2,3,8]⟩,(s [a 2 2 0,a 3 6 1,b 4 false] (s [h 9 2 2,h 10 6 3,c 11 125 [.t 9,.t 10],m 5 11] (s [x 12 (.bslice 2 [] 0 true []),m 6 12] (.seq (s [k 7 0] (B 0 (.seq (s [m 13 7,f 14 4 3,l 15 14,n 16 15,o 17 .lss 13 16]
 (.cond 17 .skip (.exit 0))) (.seq (.block 1 (s [f 20 4 3,l 21 20,m 22 7,i 23 9 21 22,e 24 0 2 23,h 25 2 24,u 8 2,t 8 2 25] (.seq (s [m 26 5,h 27 2 8,c 28 179 [.t 26,.t 27],w 29 28,m 30 29,z 31 30 (.mov (.t 6)),z 32 30 (j 2 8),z 33 30
 (.call false 179 [.t 31,.t 32]),x 34 (.pick (.t 30) (.k (.val (.bool true))) (.t 33))] (.cond 34 (s [b 4 true] .ret) .skip)) (.reg [m 35 6,h 36 2 8,x 37 (.bslice 2 [] 1 true [(0,(.t 36))]),x 38 (.append 2 24 (.t 35) (.t 37)),m 6 38]))))
 (.reg [m 18 7,q 19 .add 18 1,m 7 19]))))) (s [b 4 false] .ret))))),[.t 4]⟩
theorem i154:iF 154 g154:=jF Tryz.func154
def g155:GFun:=⟨⟨53,[2,3]⟩,(s [a 2 2 0,a 3 6 1,b 4 false] (.seq (s [k 5 0] (B 0 (.seq (s [m 7 5,f 8 4 3,l 9 8,n 10 9,o 11 .lss 7 10] (.cond 11 .skip (.exit 0))) (.seq (.block 1 (s [f 16 4 3,m 18 5,h 14 2 2,h 15 6 3,l 17 16,i 19 9 17 18,
 e 20 2 7 19,h 21 7 20,x 22 (.call true 180 [.t 14,.t 15,.t 21]),w 23 22] (.cond 23 (s [b 4 true] .ret) .skip))) (.reg [m 12 5,q 13 .add 12 1,m 5 13]))))) (.seq (s [k 6 0] (B 2 (.seq (s [m 24 6,f 25 5 3,l 26 25,n 27 26,o 28 .lss 24 27]
 (.cond 28 .skip (.exit 2))) (.seq (.block 3 (s [f 33 5 3,m 35 6,h 31 2 2,h 32 6 3,l 34 33,i 36 16 34 35,e 37 2 7 36,h 38 7 37,x 39 (.call true 180 [.t 31,.t 32,.t 38]),w 40 39,m 41 40,z 44 41 (p 1 5 3),z 46 41 (.mov (.t 6)),z 42 41
 (j 2 2),z 43 41 (j 6 3),z 45 41 (r 1 44),z 47 41 (.iaddr 16 (.t 45) (.t 46)),z 48 41 (.faddr 9 7 true (.t 47)),z 49 41 (j 7 48),z 50 41 (.call true 180 [.t 42,.t 43,.t 49]),z 51 41 (.not (.t 50)),x 52 (.pick (.t 41) (.k (.val
 (.bool true))) (.t 51))] (.cond 52 (s [b 4 true] .ret) .skip))) (.reg [m 29 6,q 30 .add 29 1,m 6 30]))))) (s [b 4 false] .ret)))),[.t 4]⟩
theorem i155:iF 155 g155:=jF Tryz.func155
def g156:GFun:=⟨⟨44,[3,4,5]⟩,(s [a 3 2 0,a 4 6 1,a 5 7 2,k 6 0] (s [f 11 1 5,l 12 11,c 13 160 [.t 12],m 10 13,v 14 10 0,v 15 10 1,v 16 10 2,m 7 14,m 8 15,m 9 16] (.seq (s [f 17 6 5,l 18 17,n 19 18,q 20 .neq 19 2,m 21 20,z 24 21
 (p 1 6 5),z 29 21 (.mov (.t 7)),z 22 21 (j 2 3),z 23 21 (j 6 4),z 25 21 (r 1 24),z 26 21 (.iaddr 7 (.t 25) (.k (.val (.int .i64 0)))),z 27 21 (j 7 26),z 28 21 (.call true 121 [.t 22,.t 23,.t 27]),z 30 21 (.bin .neq (.t 28) (.t 29)),x 31
 (.pick (.t 21) (.k (.val (.bool true))) (.t 30)),m 32 31,z 35 32 (p 1 6 5),z 40 32 (.mov (.t 8)),z 33 32 (j 2 3),z 34 32 (j 6 4),z 36 32 (r 1 35),z 37 32 (.iaddr 7 (.t 36) (.k (.val (.int .i64 1)))),z 38 32 (j 7 37),z 39 32
 (.call true 121 [.t 33,.t 34,.t 38]),z 41 32 (.bin .neq (.t 39) (.t 40)),x 42 (.pick (.t 32) (.k (.val (.bool true))) (.t 41))] (.cond 42 (s [k 6 0] .ret) .skip)) (s [m 43 9,m 6 43] .ret)))),[.t 6]⟩
theorem i156:iF 156 g156:=jF Tryz.func156
def g157:GFun:=⟨⟨39,[3,4,5]⟩,(s [a 3 2 0,a 4 6 1,a 5 7 2,k 6 0] (.seq (s [f 8 6 5,l 9 8,n 10 9,q 11 .neq 10 3,m 12 11,z 15 12 (p 1 6 5),z 13 12 (j 2 3),z 14 12 (j 6 4),z 16 12 (r 1 15),z 17 12 (.iaddr 7 (.t 16) (.k (.val
 (.int .i64 0)))),z 18 12 (j 7 17),z 19 12 (.call true 121 [.t 13,.t 14,.t 18]),z 20 12 (.bin .neq (.t 19) (.k (.val (.int .i64 3)))),x 21 (.pick (.t 12) (.k (.val (.bool true))) (.t 20))] (.cond 21 (s [k 6 0] .ret) .skip)) (s [f 24 6 5,
 h 22 2 3,h 23 6 4,l 25 24,x 26 (.iaddr 7 (.t 25) (.k (.val (.int .i64 1)))),h 27 7 26,x 28 (.call true 121 [.t 22,.t 23,.t 27]),m 7 28] (.seq (s [m 29 7,f 32 6 5,h 30 2 3,h 31 6 4,l 33 32,x 34 (.iaddr 7 (.t 33) (.k (.val (.int .i64 2)))),
 h 35 7 34,x 36 (.call true 121 [.t 30,.t 31,.t 35]),o 37 .neq 29 36] (.cond 37 (s [k 6 0] .ret) .skip)) (s [m 38 7,m 6 38] .ret))))),[.t 6]⟩
theorem i157:iF 157 g157:=jF Tryz.func157
def g158:GFun:=⟨⟨22,[2]⟩,(s [a 2 2 0,k 4 0] (.seq (s [k 5 0] (B 0 (.seq (s [m 6 5,f 7 0 2,l 8 7,n 9 8,o 10 .lss 6 9] (.cond 10 .skip (.exit 0))) (.seq (.block 1 (s [f 13 0 2,l 14 13,m 15 5,i 16 2 14 15,f 17 0 16,l 18 17,m 19 1,
 o 20 .eql 18 19] (.cond 20 (s [m 21 5,m 4 21] .ret) .skip))) (.reg [m 11 5,q 12 .add 11 1,m 5 12]))))) (s [k 4 (-1)] .ret))),[.t 4]⟩
theorem i158:iF 158 g158:=jF Tryz.func158
def g159:GFun:=⟨⟨50,[1]⟩,(s [a 1 2 0,x 2 (.mov (.k (.val (.slice none 0 0))))] (s [f 7 0 1,l 8 7,n 9 8,x 10 (.mkslice 1 8 (.val (.int .i64 0)) (.t 9) (.t 9)),m 3 10] (.seq (s [k 4 1] (B 0 (.seq (s [m 11 4,f 12 0 1,l 13 12,n 14 13,
 o 15 .leq 11 14] (.cond 15 .skip (.exit 0))) (.seq (.block 1 (s [x 18 (.bslice 1 [] 0 false []),m 19 3,x 20 (.append 1 8 (.t 18) (.t 19)),m 5 20] (.seq (s [k 6 0] (B 2 (.seq (s [m 21 6,f 22 0 1,l 23 22,n 24 23,o 25 .lss 21 24]
 (.cond 25 .skip (.exit 2))) (.seq (.block 3 (s [m 28 3,m 29 6,i 30 1 28 29,l 31 30,q 32 .eql 31 0,m 33 32,y 35 33 (p 1 0 1),y 37 33 (.mov (.t 6)),y 41 33 (.mov (.t 3)),y 34 33 (j 2 1),y 36 33 (r 1 35),y 38 33 (.iaddr 2 (.t 36) (.t 37)),
 y 39 33 (p 1 0 38),y 40 33 (r 1 39),y 42 33 (.call true 181 [.t 34,.t 40,.t 41]),x 43 (.pick (.t 33) (.t 42) (.k (.val (.bool false))))] (.cond 43 (.reg [m 44 5,m 45 6,m 46 4,i 47 1 44 45,(.mk none none (.store 1 (.t 47)
 (.t 46)))]) .skip))) (.reg [m 26 6,q 27 .add 26 1,m 6 27]))))) (.reg [m 48 5,m 3 48])))) (.reg [m 16 4,q 17 .add 16 1,m 4 17]))))) (s [m 49 3,m 2 49] .ret)))),[.t 2]⟩
theorem i159:iF 159 g159:=jF Tryz.func159
def g160:GFun:=⟨⟨24,[]⟩,(s [k 2 0,k 3 0,k 4 0] (.seq (.block 0 (s [m 6 0,c 7 51 [.t 6,(.k (.val (.int .i64 1))),(.k (.val (.int .i64 5)))],m 5 7] (.cond 5 (s [k 2 1,k 3 1,k 4 1] .ret) (s [m 9 0,c 10 51 [.t 9,(.k (.val (.int .i64 6))),
 (.k (.val (.int .i64 8)))],m 8 10] (.cond 8 (s [k 2 2,k 3 2,k 4 2] .ret) (s [m 12 0,q 13 .eql 12 9,m 14 13,z 15 14 (.mov (.t 0)),z 16 14 (.bin .eql (.t 15) (.k (.val (.int .i64 10)))),x 17 (.pick (.t 14) (.k (.val (.bool true))) (.t 16)),
 m 11 17] (.cond 11 (s [k 2 1,k 3 1,k 4 3] .ret) (s [m 19 0,q 20 .eql 19 11,m 18 20] (.cond 18 (s [k 2 2,k 3 1,k 4 3] .ret) (s [m 22 0,q 23 .eql 22 12,m 21 23] (.cond 21 (s [k 2 2,k 3 1,k 4 2] .ret) .skip))))))))))) (s [k 2 0,k 3 0,
 k 4 0] .ret))),[.t 2,.t 3,.t 4]⟩
theorem i160:iF 160 g160:=jF Tryz.func160
def g161:GFun:=⟨⟨12,[4,5,6]⟩,(s [a 4 7 1,a 5 7 2,u 6 7] (s [m 7 0,h 8 7 4,h 9 7 5,x 10 (.bslice 7 [] 2 true [(0,(.t 8)),(1,(.t 9))]),x 11 (.build [(.val (.int .i64 0)),(.val (.int .i64 0)),(.val (.int .i64 0)),(.val (.int .i64 0)),
 (.val (.string (ByteArray.mk #[]))),(.val (.string (ByteArray.mk #[]))),(.val (.slice none 0 0))] [(0,(1,(.k (.val (.int .i64 4))))),(1,(1,(.t 7))),(6,(1,(.t 10)))]),t 6 7 11] .ret)),[(.c 6 7 true)]⟩
theorem i161:iF 161 g161:=jF Tryz.func161
def g162:GFun:=⟨⟨27,[2]⟩,(s [a 2 7 0,k 4 0] (s [m 6 1,q 7 .sub 6 1,m 1 7] (.seq (s [k 5 0] (B 0 (.seq (s [m 8 5,f 9 6 2,l 10 9,n 11 10,o 12 .lss 8 11,m 13 12,y 14 13 (.mov (.t 1)),y 15 13 (.bin .geq (.t 14) (.k (.val (.int .i64 0)))),
 x 16 (.pick (.t 13) (.t 15) (.k (.val (.bool false))))] (.cond 16 .skip (.exit 0))) (.seq (.block 1 (.reg [f 19 6 2,l 20 19,m 21 5,i 22 7 20 21,h 23 7 22,m 24 1,c 25 162 [.t 23,.t 24],m 1 25])) (.reg [m 17 5,q 18 .add 17 1,m 5 18])))))
 (s [m 26 1,m 4 26] .ret)))),[.t 4]⟩
theorem i162:iF 162 g162:=jF Tryz.func162
def g163:GFun:=⟨⟨22,[1]⟩,(s [a 1 7 0,k 2 0] (s [k 3 0] (.seq (s [k 4 0] (B 0 (.seq (s [m 5 4,f 6 6 1,l 7 6,n 8 7,o 9 .lss 5 8] (.cond 9 .skip (.exit 0))) (.seq (.block 1 (.reg [m 12 3,f 13 6 1,l 14 13,m 15 4,i 16 7 14 15,h 17 7 16,
 c 18 163 [.t 17],c 19 83 [.t 12,.t 18],m 3 19])) (.reg [m 10 4,q 11 .add 10 1,m 4 11]))))) (s [m 20 3,q 21 .add 20 1,m 2 21] .ret)))),[.t 2]⟩
theorem i163:iF 163 g163:=jF Tryz.func163
def g164:GFun:=⟨⟨20,[1]⟩,(s [a 1 7 0,b 2 false] (.seq (s [k 3 0] (B 0 (.seq (s [m 4 3,f 5 6 1,l 6 5,n 7 6,o 8 .lss 4 7] (.cond 8 .skip (.exit 0))) (.seq (.block 1 (s [f 11 6 1,l 12 11,m 13 3,i 14 7 12 13,h 15 7 14,c 16 164 [.t 15],
 w 17 16] (.cond 17 (s [b 2 false] .ret) .skip))) (.reg [m 9 3,q 10 .add 9 1,m 3 10]))))) (s [h 18 7 1,c 19 182 [.t 18],m 2 19] .ret))),[.t 2]⟩
theorem i164:iF 164 g164:=jF Tryz.func164
def g165:GFun:=⟨⟨8,[4]⟩,(s [u 4 7] (s [m 5 0,m 6 1,x 7 (.build [(.val (.int .i64 0)),(.val (.int .i64 0)),(.val (.int .i64 0)),(.val (.int .i64 0)),(.val (.string (ByteArray.mk #[]))),(.val (.string (ByteArray.mk #[]))),(.val
 (.slice none 0 0))] [(0,(1,(.k (.val (.int .i64 1))))),(1,(1,(.t 5))),(3,(1,(.t 6)))]),t 4 7 7] .ret)),[(.c 4 7 true)]⟩
theorem i165:iF 165 g165:=jF Tryz.func165
def g166:GFun:=⟨⟨101,[5,8,13,17]⟩,(s [a 5 2 1,u 8 6] (s [h 19 2 5,m 20 2,c 21 183 [.t 19,.t 20],m 9 21] (s [x 22 (.build [(.val (.string (ByteArray.mk #[]))),(.val (.string (ByteArray.mk #[]))),(.val (.slice none 0 0)),(.val
 (.bool false)),(.val (.slice none 0 0)),(.val (.slice none 0 0))] []),x 10 (.alloc 6 (.agg [(.val (.string (ByteArray.mk #[]))),(.val (.string (ByteArray.mk #[]))),(.val (.slice none 0 0)),(.val (.bool false)),(.val (.slice none 0 0)),
 (.val (.slice none 0 0))])),(.mk none none (.store 6 (.t 10) (.t 22)))] (s [h 23 2 5,c 24 159 [.t 23],m 11 24] (.seq (s [k 12 0] (B 0 (.seq (s [m 25 12,m 26 9,n 27 26,o 28 .lss 25 27] (.cond 28 .skip (.exit 0))) (.seq (.block 1 (s [m 33 9,
 m 34 12,i 35 1 33 34,u 13 6,h 32 2 5,l 36 35,x 37 (.call true 59 [.t 32,.t 36]),m 31 37,v 38 31 0,v 39 31 1,t 13 6 38,m 14 39] (s [b 15 true] (.seq (s [k 16 0] (B 2 (.seq (s [m 40 16,f 41 2 13,l 42 41,n 43 42,o 44 .lss 40 43]
 (.cond 44 .skip (.exit 2))) (.seq (.block 3 (.reg [m 47 15,m 48 47,y 49 48 (.mov (.t 11)),y 51 48 (p 1 2 13),y 53 48 (.mov (.t 16)),y 60 48 (.mov (.t 11)),y 62 48 (.mov (.t 2)),y 50 48 (j 2 5),y 52 48 (r 1 51),y 54 48 (.iaddr 1 (.t 52)
 (.t 53)),y 55 48 (r 1 54),y 56 48 (.call true 158 [.t 50,.t 55]),y 57 48 (.call true 83 [(.k (.val (.int .i64 0))),.t 56]),y 58 48 (.iaddr 1 (.t 49) (.t 57)),y 59 48 (r 1 58),y 61 48 (j 2 5),y 63 48 (.call true 158 [.t 61,.t 62]),y 64 48
 (.call true 83 [(.k (.val (.int .i64 0))),.t 63]),y 65 48 (.iaddr 1 (.t 60) (.t 64)),y 66 48 (r 1 65),y 67 48 (.bin .lss (.t 59) (.t 66)),x 68 (.pick (.t 48) (.t 67) (.k (.val (.bool false)))),m 15 68])) (.reg [m 45 16,q 46 .add 45 1,
 m 16 46]))))) (s [m 69 15,m 70 69,y 71 70 (p 1 0 10),y 72 70 (r 1 71),y 73 70 (.bin .eql (.t 72) (.k (.val (.string (ByteArray.mk #[]))))),x 74 (.pick (.t 70) (.t 73) (.k (.val (.bool false))))] (.cond 74 (.reg [h 75 6 13,(.mk none none
 (.store 6 (.t 10) (.t 75)))]) .skip)))))) (.reg [m 29 12,q 30 .add 29 1,m 12 30]))))) (.seq (s [m 76 9,n 77 76,q 78 .eql 77 0,m 79 78,z 80 79 (.mov (.t 3)),z 81 79 (.bin .lss (.t 80) (.k (.val (.int .i64 5)))),x 82 (.pick (.t 79) (.k
 (.val (.bool true))) (.t 81)),m 83 82,z 84 83 (.mov (.t 0)),z 85 83 (.call false 68 [.t 84,(.k (.val (.int .i64 4)))]),x 86 (.pick (.t 83) (.k (.val (.bool true))) (.t 85))] (.cond 86 (s [h 87 6 10,t 8 6 87] .ret) .skip)) (s [m 90 9,
 m 91 0,m 92 9,n 93 92,u 17 6,h 89 2 5,x 94 (.calla 50 [.t 91,.t 93]),i 95 1 90 94,l 96 95,x 97 (.call true 59 [.t 89,.t 96]),m 88 97,v 98 88 0,v 99 88 1,t 17 6 98,m 18 99] (s [h 100 6 17,t 8 6 100] .ret)))))))),[(.c 8 6 true)]⟩
theorem i166:iF 166 g166:=jF Tryz.func166 [(17,2064)]
def g167:GFun:=⟨⟨96,[4,4037005,5029005]⟩,(s [x 2 (.box 6 (.t 0)),u 4 1] (s [f 12 1 2,(.mk none none (.store 1 (.t 12) (.k (.val (.int .i64 (-1))))))] (s [f 13 2 2,(.mk none none (.store 1 (.t 13) (.k (.val (.int .i64 0)))))] (s [x 14
 (.bslice 1 [] 0 false []),f 15 5 2,(.mk none none (.store 1 (.t 15) (.t 14)))] (s [h 16 6 2,x 17 (.bslice 6 [] 1 true [(0,(.t 16))]),x 18 (.build [(.val (.slice none 0 0))] [(0,(1,(.t 17)))]),x 5 (.alloc 1 (.agg [(.val
 (.slice none 0 0))])),(.mk none none (.store 1 (.t 5) (.t 18)))] (.seq (s [k 6 0] (B 0 (.seq (s [m 19 6,m 20 1,n 21 20,o 22 .lss 19 21] (.cond 22 .skip (.exit 0))) (.seq (.block 1 (s [f 25 0 5,l 26 25,n 27 26,m 7 27] (s [f 28 0 5,f 30 0 5,
 m 35 7,x 29 (.ldx 1 false 28 5),l 31 30,x 32 (.iaddr 6 (.t 31) (.k (.val (.int .i64 0)))),f 33 5 32,l 34 33,x 36 (.bslice 1 [] 1 false [(0,(.t 35))]),x 37 (.appx [5] 1 8 (.t 34) (.t 36)),x 38 (.iaddr 6 (.t 29) (.k (.val (.int .i64 0)))),
 f 39 5 38,(.mk none none (.store 1 (.t 39) (.t 37)))] (s [k 8 0] (B 2 (.seq (s [m 40 8,m 41 1,m 42 6,i 43 1 41 42,f 44 0 43,l 45 44,n 46 45,o 47 .lss 40 46] (.cond 47 .skip (.exit 2))) (.seq (.block 3 (s [m 50 1,m 51 6,i 52 1 50 51,
 f 53 0 52,l 54 53,m 55 8,i 56 6 54 55,h 57 6 56,x 9 (.alloc 6 (.agg [(.val (.int .i64 0)),(.val (.int .i64 0)),(.val (.int .i64 0)),(.val (.int .i64 0)),(.val (.string (ByteArray.mk #[]))),(.val (.slice none 0 0))])),(.mk none none
 (.store 6 (.t 9) (.t 57)))] (s [f 58 1 9,l 59 58,m 60 7,o 61 .add 59 60,f 62 1 9,(.mk none none (.store 1 (.t 62) (.t 61)))] (.seq (s [m 63 8,q 64 .eql 63 0] (.cond 64 (s [f 65 1 9,(.mk none none (.store 1 (.t 65) (.k (.val
 (.int .i64 0)))))] (.reg [m 66 6,q 67 .add 66 1,f 68 2 9,(.mk none none (.store 1 (.t 68) (.t 67)))])) .skip)) (s [x 69 (.bslice 1 [] 0 false []),m 10 69] (.seq (s [k 11 0] (B 4 (.seq (s [m 70 11,f 71 5 9,l 72 71,n 73 72,o 74 .lss 70 73]
 (.cond 74 .skip (.exit 4))) (.seq (.block 5 (.reg [m 77 10,f 78 5 9,l 79 78,m 80 11,i 81 1 79 80,l 82 81,m 83 7,o 84 .add 82 83,x 85 (.bslice 1 [] 1 false [(0,(.t 84))]),x 86 (.append 1 8 (.t 77) (.t 85)),m 10 86])) (.reg [m 75 11,
 q 76 .add 75 1,m 11 76]))))) (s [m 87 10,f 88 5 9,(.mk none none (.store 1 (.t 88) (.t 87)))] (.reg [f 89 0 5,l 90 89,h 91 6 9,x 92 (.bslice 6 [] 1 true [(0,(.t 91))]),x 93 (.append 6 72 (.t 90) (.t 92)),f 94 0 5,(.mk none none (.store 1
 (.t 94) (.t 93)))])))))))) (.reg [m 48 8,q 49 .add 48 1,m 8 49])))))))) (.reg [m 23 6,q 24 .add 23 1,m 6 24]))))) (s [h 95 1 5,t 4 1 95] .ret))))))),[(.c 4 1 true)]⟩
theorem i167:iF 167 g167:=jF Tryz.func167
def g168:GFun:=⟨⟨6,[]⟩,(s [k 2 0] (s [m 3 0,c 4 184 [(.k (.val (.int .i64 1000000))),.t 3],c 5 83 [(.k (.val (.int .i64 (-1000000)))),.t 4],m 2 5] .ret)),[.t 2]⟩
theorem i168:iF 168 g168:=jF Tryz.func168
def g169:GFun:=⟨⟨4,[]⟩,(s [k 2 0] (.seq (s [m 3 0] (.cond 3 (s [k 2 1] .ret) .skip)) (s [k 2 0] .ret))),[.t 2]⟩
theorem i169:iF 169 g169:=jF Tryz.func169
def g175:GFun:=⟨⟨39,[1]⟩,(s [a 1 4 0,b 2 false] (.seq (s [f 3 0 1,l 4 3,c 5 176 [.t 4],w 6 5,m 7 6,z 8 7 (p 1 1 1),z 9 7 (r 1 8),z 10 7 (.call false 51 [.t 9,(.k (.val (.int .i64 1))),(.k (.val (.int .i64 4)))]),z 11 7 (.not (.t 10)),
 x 12 (.pick (.t 7) (.k (.val (.bool true))) (.t 11)),m 13 12,z 14 13 (p 1 2 1),z 15 13 (r 1 14),z 16 13 (.call false 51 [.t 15,(.k (.val (.int .i64 1))),(.k (.val (.int .i64 3)))]),z 17 13 (.not (.t 16)),x 18 (.pick (.t 13) (.k (.val
 (.bool true))) (.t 17))] (.cond 18 (s [b 2 false] .ret) .skip)) (.seq (s [f 19 2 1,l 20 19,q 21 .eql 20 3,m 22 21,y 23 22 (p 1 1 1),y 24 22 (r 1 23),y 25 22 (.bin .neq (.t 24) (.k (.val (.int .i64 2)))),y 26 22 (.mov (.t 25)),z 27 26
 (p 1 3 1),z 28 26 (r 1 27),y 29 22 (.pick (.t 26) (.k (.val (.bool true))) (.t 28)),x 30 (.pick (.t 22) (.t 29) (.k (.val (.bool false))))] (.cond 30 (s [b 2 false] .ret) .skip)) (s [f 31 3 1,l 32 31,w 33 32,m 34 33,z 35 34 (p 1 1 1),
 z 36 34 (r 1 35),z 37 34 (.bin .eql (.t 36) (.k (.val (.int .i64 2)))),x 38 (.pick (.t 34) (.k (.val (.bool true))) (.t 37)),m 2 38] .ret)))),[.t 2]⟩
theorem i175:iF 175 g175:=jF Tryz.func175
def g176:GFun:=⟨⟨15,[]⟩,(s [b 2 false] (s [m 3 0,c 4 186 [.t 3],m 5 4,y 6 5 (.mov (.t 0)),y 7 5 (.slen (.t 6)),y 8 5 (.bin .leq (.t 7) (.k (.val (.int .i64 8)))),x 9 (.pick (.t 5) (.t 8) (.k (.val (.bool false)))),m 10 9,y 11 10 (.mov
 (.t 0)),y 12 10 (.call false 187 [.t 11]),y 13 10 (.not (.t 12)),x 14 (.pick (.t 10) (.t 13) (.k (.val (.bool false)))),m 2 14] .ret)),[.t 2]⟩
theorem i176:iF 176 g176:=jF Tryz.func176
def g177:GFun:=⟨⟨18,[]⟩,(s [b 2 false] (.seq (s [k 3 0] (B 0 (.seq (s [m 4 3,m 5 0,n 6 5,o 7 .lss 4 6] (.cond 7 .skip (.exit 0))) (.seq (.block 1 (s [m 10 0,m 11 3,x 12 (.slc 1 (.t 10) none (some (.t 11))),m 13 0,m 14 3,i 15 1 13 14,
 l 16 15,x 17 (.call true 150 [.t 12,.t 16])] (.cond 17 (s [b 2 false] .ret) .skip))) (.reg [m 8 3,q 9 .add 8 1,m 3 9]))))) (s [b 2 true] .ret))),[.t 2]⟩
theorem i177:iF 177 g177:=jF Tryz.func177
def g178:GFun:=⟨⟨12,[2]⟩,(s [a 2 7 0,b 4 false] (s [h 5 7 2,c 6 127 [.t 5],m 7 6,y 8 7 (j 7 2),y 9 7 (.mov (.t 1)),y 10 7 (.call false 188 [.t 8,.t 9]),x 11 (.pick (.t 7) (.t 10) (.k (.val (.bool false)))),m 4 11] .ret)),[.t 4]⟩
theorem i178:iF 178 g178:=jF Tryz.func178
def g179:GFun:=⟨⟨18,[3]⟩,(s [a 3 2 1,b 4 false] (.seq (s [k 5 0] (B 0 (.seq (s [m 6 5,m 7 0,n 8 7,o 9 .lss 6 8] (.cond 9 .skip (.exit 0))) (.seq (.block 1 (s [m 12 0,m 13 5,i 14 2 12 13,h 15 2 14,h 16 2 3,x 17 (.aeq false [1,2]
 (.t 15) (.t 16))] (.cond 17 (s [b 4 true] .ret) .skip))) (.reg [m 10 5,q 11 .add 10 1,m 5 11]))))) (s [b 4 false] .ret))),[.t 4]⟩
theorem i179:iF 179 g179:=jF Tryz.func179
def g180:GFun:=⟨⟨25,[3,4,5]⟩,(s [a 3 2 0,a 4 6 1,a 5 7 2,b 6 false] (s [h 9 7 5,c 10 62 [.t 9],m 7 10] (.seq (s [k 8 0] (B 0 (.seq (s [m 11 8,m 12 7,n 13 12,o 14 .lss 11 13] (.cond 14 .skip (.exit 0))) (.seq (.block 1 (s [m 19 7,m 20 8,
 i 21 2 19 20,h 17 2 3,h 18 6 4,h 22 2 21,x 23 (.call true 189 [.t 17,.t 18,.t 22]),w 24 23] (.cond 24 (s [b 6 false] .ret) .skip))) (.reg [m 15 8,q 16 .add 15 1,m 8 16]))))) (s [b 6 true] .ret)))),[.t 6]⟩
theorem i180:iF 180 g180:=jF Tryz.func180
def g181:GFun:=⟨⟨56,[3,8]⟩,(s [a 3 2 0,b 6 false] (.seq (s [k 7 0] (B 0 (.seq (s [m 12 7,f 13 1 3,l 14 13,n 15 14,o 16 .lss 12 15] (.cond 16 .skip (.exit 0))) (.seq (.block 1 (s [f 19 1 3,l 20 19,m 21 7,i 22 6 20 21,h 23 6 22,u 8 6,
 t 8 6 23] (s [f 24 1 8,l 25 24,m 26 1,o 27 .eql 25 26,m 9 27] (.seq (s [k 10 0] (B 2 (.seq (s [m 28 10,f 29 2 8,l 30 29,n 31 30,o 32 .lss 28 31] (.cond 32 .skip (.exit 2))) (.seq (.block 3 (s [f 36 2 8,m 38 10,h 35 2 3,l 37 36,
 i 39 1 37 38,l 40 39,x 41 (.call true 158 [.t 35,.t 40]),m 11 41] (.reg [m 42 9,m 43 42,y 44 43 (.mov (.t 11)),y 45 43 (.bin .geq (.t 44) (.k (.val (.int .i64 0)))),x 46 (.pick (.t 43) (.t 45) (.k (.val (.bool false)))),m 47 46,y 48 47
 (.mov (.t 2)),y 49 47 (.mov (.t 11)),y 50 47 (.call false 83 [.t 49,(.k (.val (.int .i64 0)))]),y 51 47 (.iaddr 1 (.t 48) (.t 50)),y 52 47 (r 1 51),y 53 47 (.bin .gtr (.t 52) (.k (.val (.int .i64 0)))),x 54 (.pick (.t 47) (.t 53) (.k
 (.val (.bool false)))),m 9 54]))) (.reg [m 33 10,q 34 .add 33 1,m 10 34]))))) (s [m 55 9] (.cond 55 (s [b 6 true] .ret) .skip)))))) (.reg [m 17 7,q 18 .add 17 1,m 7 18]))))) (s [b 6 false] .ret))),[.t 6]⟩
theorem i181:iF 181 g181:=jF Tryz.func181
def g182:GFun:=⟨⟨61,[1]⟩,(s [a 1 7 0,b 2 false] (.seq (s [f 3 0 1,l 4 3,c 5 51 [.t 4,(.k (.val (.int .i64 1))),(.k (.val (.int .i64 8)))],w 6 5,m 7 6,z 8 7 (j 7 1),z 9 7 (.call false 190 [.t 8]),z 10 7 (.not (.t 9)),x 11 (.pick (.t 7)
 (.k (.val (.bool true))) (.t 10))] (.cond 11 (s [b 2 false] .ret) .skip)) (.seq (s [f 12 0 1,l 13 12] (.block 0 (s [q 15 .eql 13 1,m 14 15] (.cond 14 (s [f 16 3 1,l 17 16,c 18 51 [.t 17,(.k (.val (.int .i64 1))),(.k (.val (.int .i64 3)))],
 m 19 18,y 20 19 (p 1 1 1),y 21 19 (r 1 20),y 22 19 (p 1 3 1),y 23 19 (r 1 22),y 24 19 (.call false 110 [.t 21,.t 23]),x 25 (.pick (.t 19) (.t 24) (.k (.val (.bool false)))),m 26 25,y 27 26 (p 1 1 1),y 28 26 (r 1 27),y 29 26 (.bin .geq
 (.t 28) (.k (.val (.int .i64 0)))),x 30 (.pick (.t 26) (.t 29) (.k (.val (.bool false)))),m 2 30] .ret) (s [q 32 .eql 13 3,m 31 32] (.cond 31 (s [f 33 2 1,l 34 33,c 35 51 [.t 34,(.k (.val (.int .i64 0))),(.k (.val (.int .i64 3)))],m 36 35,
 y 37 36 (p 1 5 1),y 38 36 (r 1 37),y 39 36 (.call false 176 [.t 38]),x 40 (.pick (.t 36) (.t 39) (.k (.val (.bool false)))),m 2 40] .ret) (s [q 42 .eql 13 6,m 41 42] (.cond 41 (s [f 43 2 1,l 44 43,c 45 51 [.t 44,(.k (.val (.int .i64 0))),
 (.k (.val (.int .i64 3)))],m 2 45] .ret) (s [q 47 .eql 13 4,m 46 47] (.cond 46 (s [f 48 1 1,l 49 48,c 50 51 [.t 49,(.k (.val (.int .i64 1))),(.k (.val (.int .i64 12)))],m 2 50] .ret) (s [q 52 .eql 13 8,m 51 52] (.cond 51 (s [f 53 4 1,
 l 54 53,c 55 176 [.t 54],m 56 55,y 57 56 (p 1 5 1),y 58 56 (r 1 57),y 59 56 (.call false 176 [.t 58]),x 60 (.pick (.t 56) (.t 59) (.k (.val (.bool false)))),m 2 60] .ret) .skip)))))))))))) (s [b 2 true] .ret)))),[.t 2]⟩
theorem i182:iF 182 g182:=jF Tryz.func182
def g183:GFun:=⟨⟨33,[2]⟩,(s [a 2 2 0,x 4 (.mov (.k (.val (.slice none 0 0))))] (s [x 7 (.bslice 1 [] 0 false []),m 5 7] (.seq (s [k 6 0] (B 0 (.seq (s [m 8 6,f 9 1 2,l 10 9,n 11 10,o 12 .lss 8 11] (.cond 12 .skip (.exit 0))) (.seq
 (.block 1 (s [f 15 1 2,l 16 15,m 17 6,i 18 6 16 17,f 19 1 18,l 20 19,m 21 1,o 22 .eql 20 21] (.cond 22 (.reg [m 23 5,f 24 1 2,l 25 24,m 26 6,i 27 6 25 26,f 28 0 27,l 29 28,x 30 (.bslice 1 [] 1 false [(0,(.t 29))]),x 31 (.append 1 16
 (.t 23) (.t 30)),m 5 31]) .skip))) (.reg [m 13 6,q 14 .add 13 1,m 6 14]))))) (s [m 32 5,m 4 32] .ret)))),[.t 4]⟩
theorem i183:iF 183 g183:=jF Tryz.func183
def g184:GFun:=⟨⟨10,[]⟩,(s [k 4 0] (.seq (s [m 5 0,m 6 1,o 7 .lss 5 6] (.cond 7 (s [m 8 0,m 4 8] .ret) .skip)) (s [m 9 1,m 4 9] .ret))),[.t 4]⟩
theorem i184:iF 184 g184:=jF Tryz.func184
def g186:GFun:=⟨⟨45,[]⟩,(s [b 2 false] (.seq (s [k 3 0] (B 0 (.seq (s [m 6 3,m 7 0,x 8 (.slen (.t 7)),o 9 .lss 6 8] (.cond 9 .skip (.exit 0))) (.seq (.block 1 (s [m 12 0,m 13 3,x 14 (.idx (.t 12) (.t 13)),x 15 (.bin .geq (.t 14) (.k
 (.val (.int .u8 97)))),m 16 15,y 17 16 (.mov (.t 0)),y 18 16 (.mov (.t 3)),y 19 16 (.idx (.t 17) (.t 18)),y 20 16 (.bin .leq (.t 19) (.k (.val (.int .u8 122)))),x 21 (.pick (.t 16) (.t 20) (.k (.val (.bool false)))),m 4 21] (s [m 22 0,
 m 23 3,x 24 (.idx (.t 22) (.t 23)),x 25 (.bin .geq (.t 24) (.k (.val (.int .u8 48)))),m 26 25,y 27 26 (.mov (.t 0)),y 28 26 (.mov (.t 3)),y 29 26 (.idx (.t 27) (.t 28)),y 30 26 (.bin .leq (.t 29) (.k (.val (.int .u8 57)))),x 31 (.pick
 (.t 26) (.t 30) (.k (.val (.bool false)))),m 5 31] (s [m 32 4,w 33 32,m 34 33,y 35 34 (.mov (.t 3)),y 36 34 (.bin .eql (.t 35) (.k (.val (.int .i64 0)))),y 37 34 (.mov (.t 36)),z 38 37 (.mov (.t 5)),z 39 37 (.not (.t 38)),y 40 34 (.pick
 (.t 37) (.k (.val (.bool true))) (.t 39)),x 41 (.pick (.t 34) (.t 40) (.k (.val (.bool false))))] (.cond 41 (s [b 2 false] .ret) .skip))))) (.reg [m 10 3,q 11 .add 10 1,m 3 11]))))) (s [m 42 0,x 43 (.slen (.t 42)),q 44 .gtr 43 0,
 m 2 44] .ret))),[.t 2]⟩
theorem i186:iF 186 g186:=jF Tryz.func186
def g187:GFun:=⟨⟨6,[]⟩,(s [b 2 false] (s [c 3 191 [],m 4 0,c 5 150 [.t 3,.t 4],m 2 5] .ret)),[.t 2]⟩
theorem i187:iF 187 g187:=jF Tryz.func187
def g188:GFun:=⟨⟨25,[2]⟩,(s [a 2 7 0,b 4 false] (.seq (s [k 5 0] (B 0 (.seq (s [m 6 5,f 7 6 2,l 8 7,n 9 8,o 10 .lss 6 9] (.cond 10 .skip (.exit 0))) (.seq (.block 1 (s [f 13 6 2,l 14 13,m 15 5,i 16 7 14 15,h 17 7 16,m 18 1,
 c 19 188 [.t 17,.t 18],w 20 19] (.cond 20 (s [b 4 false] .ret) .skip))) (.reg [m 11 5,q 12 .add 11 1,m 5 12]))))) (s [f 21 2 2,l 22 21,m 23 1,o 24 .leq 22 23,m 4 24] .ret))),[.t 4]⟩
theorem i188:iF 188 g188:=jF Tryz.func188
def g189:GFun:=⟨⟨49,[3,4,5,7,9]⟩,(s [a 3 2 0,a 4 6 1,a 5 2 2,b 6 false] (.seq (s [f 11 0 5,l 12 11,f 13 2 4,l 14 13,n 15 14,c 16 51 [.t 12,(.k (.val (.int .i64 0))),.t 15],w 17 16] (.cond 17 (s [b 6 false] .ret) .skip)) (s [f 21 0 5,
 u 7 2,h 19 2 3,h 20 6 4,l 22 21,x 23 (.call true 123 [.t 20,.t 22]),x 24 (.call true 45 [.t 19,.t 23]),m 18 24,v 25 18 0,v 26 18 1,t 7 2 25,m 8 26] (s [h 28 2 7,f 29 1 5,l 30 29,c 31 64 [.t 28,.t 30],m 27 31,v 32 27 0,v 33 27 1,u 9 4,
 t 9 4 32,m 10 33] (.seq (s [f 34 0 5,l 35 34,q 36 .eql 35 0] (.cond 36 (s [m 37 10,m 38 37,y 39 38 (p 1 2 9),y 40 38 (r 1 39),y 41 38 (.bin .eql (.t 40) (.k (.val (.int .i64 1)))),x 42 (.pick (.t 38) (.t 41) (.k (.val (.bool false)))),
 m 6 42] .ret) .skip)) (s [m 43 10,m 44 43,y 45 44 (p 1 2 9),y 46 44 (r 1 45),y 47 44 (.bin .eql (.t 46) (.k (.val (.int .i64 2)))),x 48 (.pick (.t 44) (.t 47) (.k (.val (.bool false)))),m 6 48] .ret)))))),[.t 6]⟩
theorem i189:iF 189 g189:=jF Tryz.func189
def g190:GFun:=⟨⟨86,[1]⟩,(s [a 1 7 0,b 2 false] (s [k 3 0] (.seq (s [f 7 0 1,l 8 7] (.block 0 (s [q 10 .eql 8 4,m 9 10] (.cond 9 (.reg [k 3 2]) (s [q 12 .eql 8 5,m 11 12] (.cond 11 (.reg [k 3 3]) (s [q 14 .eql 8 8,m 13 14] (.cond 13
 (.reg [k 3 1]) .skip)))))))) (.seq (s [f 15 6 1,l 16 15,n 17 16,m 18 3,o 19 .neq 17 18] (.cond 19 (s [b 2 false] .ret) .skip)) (s [f 20 0 1,l 21 20,q 22 .eql 21 3,m 23 22,z 24 23 (p 1 0 1),z 25 23 (r 1 24),z 26 23 (.bin .eql (.t 25) (.k
 (.val (.int .i64 6)))),x 27 (.pick (.t 23) (.k (.val (.bool true))) (.t 26)),m 4 27] (s [f 28 0 1,l 29 28,q 30 .eql 29 3,m 31 30,z 32 31 (p 1 0 1),z 33 31 (r 1 32),z 34 31 (.bin .eql (.t 33) (.k (.val (.int .i64 8)))),x 35 (.pick (.t 31)
 (.k (.val (.bool true))) (.t 34)),m 5 35] (s [f 36 0 1,l 37 36,q 38 .eql 37 1,m 39 38,z 40 39 (p 1 0 1),z 41 39 (r 1 40),z 42 39 (.bin .eql (.t 41) (.k (.val (.int .i64 4)))),x 43 (.pick (.t 39) (.k (.val (.bool true))) (.t 42)),m 6 43]
 (s [m 44 4,m 45 44,z 46 45 (p 1 2 1),z 47 45 (r 1 46),z 48 45 (.bin .eql (.t 47) (.k (.val (.int .i64 0)))),x 49 (.pick (.t 45) (.k (.val (.bool true))) (.t 48)),m 50 49,y 51 50 (.mov (.t 5)),y 52 50 (.mov (.t 51)),z 53 52 (p 1 5 1),
 z 54 52 (r 1 53),z 55 52 (.bin .eql (.t 54) (.k (.val (.string (ByteArray.mk #[]))))),y 56 50 (.pick (.t 52) (.k (.val (.bool true))) (.t 55)),x 57 (.pick (.t 50) (.t 56) (.k (.val (.bool false)))),m 58 57,y 59 58 (.mov (.t 6)),y 60 58
 (.mov (.t 59)),z 61 60 (p 1 1 1),z 62 60 (r 1 61),z 63 60 (.bin .eql (.t 62) (.k (.val (.int .i64 0)))),y 64 58 (.pick (.t 60) (.k (.val (.bool true))) (.t 63)),x 65 (.pick (.t 58) (.t 64) (.k (.val (.bool false)))),m 66 65,y 67 66
 (p 1 0 1),y 68 66 (r 1 67),y 69 66 (.bin .eql (.t 68) (.k (.val (.int .i64 1)))),y 70 66 (.mov (.t 69)),z 71 70 (p 1 3 1),z 72 70 (r 1 71),z 73 70 (.bin .eql (.t 72) (.k (.val (.int .i64 0)))),y 74 66 (.pick (.t 70) (.k (.val
 (.bool true))) (.t 73)),x 75 (.pick (.t 66) (.t 74) (.k (.val (.bool false)))),m 76 75,y 77 76 (p 1 0 1),y 78 76 (r 1 77),y 79 76 (.bin .eql (.t 78) (.k (.val (.int .i64 8)))),y 80 76 (.mov (.t 79)),z 81 80 (p 1 4 1),z 82 80 (r 1 81),
 z 83 80 (.bin .eql (.t 82) (.k (.val (.string (ByteArray.mk #[]))))),y 84 76 (.pick (.t 80) (.k (.val (.bool true))) (.t 83)),x 85 (.pick (.t 76) (.t 84) (.k (.val (.bool false)))),m 2 85] .ret)))))))),[.t 2]⟩
theorem i190:iF 190 g190:=jF Tryz.func190
def g191:GFun:=⟨⟨2,[]⟩,(s [x 0 (.mov (.k (.val (.slice none 0 0))))] (s [x 1 (.bslice 1 [] 13 false [(0,(.k (.val (.string (ByteArray.mk #[105,102]))))),(1,(.k (.val (.string (ByteArray.mk #[116,104,101,110]))))),(2,(.k (.val (.string
 (ByteArray.mk #[101,108,115,101]))))),(3,(.k (.val (.string (ByteArray.mk #[116,114,117,101]))))),(4,(.k (.val (.string (ByteArray.mk #[102,97,108,115,101]))))),(5,(.k (.val (.string (ByteArray.mk #[108,105,116]))))),(6,(.k (.val
 (.string (ByteArray.mk #[110,111,110,101]))))),(7,(.k (.val (.string (ByteArray.mk #[115,101,108,102]))))),(8,(.k (.val (.string (ByteArray.mk #[111,102]))))),(9,(.k (.val (.string (ByteArray.mk #[109,97,120]))))),(10,(.k (.val (.string
 (ByteArray.mk #[109,105,110]))))),(11,(.k (.val (.string (ByteArray.mk #[119,105,116,104]))))),(12,(.k (.val (.string (ByteArray.mk #[104,97,115])))))]),m 0 1] .ret)),[.t 0]⟩
theorem i191:iF 191 g191:=jF Tryz.func191
end Go.Proofs.YtofcbmnplanmkaaGreat
namespace Go.Proofs.YtofcbmnplanmkaaGreat
open Go.Gh
open Nat (reduceEqDiff reduceLeDiff reduceAdd reduceLT)
open Int (reduceNe)
set_option maxRecDepth 20000
set_option linter.unusedSimpArgs false
set_option linter.unusedVariables false
theorem mxd:Tryz.prog.follows .mixedOrders = true:=Checked.mixed Tryz.checked
end Go.Proofs.YtofcbmnplanmkaaGreat
namespace Go.Proofs.YtofcbmnplanmkaaGreat
open Go.Gh
open Nat (reduceEqDiff reduceLeDiff reduceAdd reduceLT)
open Int (reduceNe)
set_option maxRecDepth 20000
set_option linter.unusedSimpArgs false
set_option linter.unusedVariables false
end Go.Proofs.YtofcbmnplanmkaaGreat
namespace Go.Proofs.YtofcbmnplanmkaaGreat
open Go.Gh
open Nat (reduceEqDiff reduceLeDiff reduceAdd reduceLT)
open Int (reduceNe)
set_option maxRecDepth 20000
set_option linter.unusedSimpArgs false
set_option linter.unusedVariables false
end Go.Proofs.YtofcbmnplanmkaaGreat
namespace Go.Proofs.YtofcbmnplanmkaaGreat
open Go.Gh
open Nat (reduceEqDiff reduceLeDiff reduceAdd reduceLT)
open Int (reduceNe)
set_option maxRecDepth 20000
set_option linter.unusedSimpArgs false
set_option linter.unusedVariables false
theorem w51 (x lo hi:Int):Pu 51 [I x,I lo,I hi] (· = B (decide (lo≤x∧x≤hi))):=by
 refine ZW mxd i51 rfl (by simp) ?_;refine X0 ?_
 (refine R0 ?_;with_reducible repeat' first|exact trivial|intro h|refine aO ?_|refine eO ?_|apply jO)<;>simp [*]
theorem w48 (x lo hi:Int):Pu 48 [I x,I lo,I hi] (· = B (decide (lo≤x∧x≤hi))):=by
 refine ZW mxd i48 rfl (by simp) ?_;refine X0 ?_
 (refine R0 ?_;with_reducible repeat' first|exact trivial|intro h|refine aO ?_|refine eO ?_|apply jO)<;>simp [*]
theorem w32 (t:List Nod) (id:Int):Pu 32 [Tr t,I id] (· = I (Zu (fun y=>decide (y.id=id)) t)):=by
 refine GCalls.lenA fun hl=> ?_
 obtain ⟨hlen,_⟩:=lenTr hl.1
 refine ZW mxd i32 rfl (by simp) ?_;refine X0 ?_
 refine Zz mxd (ι:={ i:Nat // i≤t.length∧∀y∈t.take i,decide (y.id=id)=false }) (fun i=>[(2,.rop 1 (Tr t)),(1,I id),(5,I i.1)]) (fun _ => []) (fun i=>t.length-i.1) ⟨0,by simp⟩ (by simp [E2]) rfl ?_
 rintro ⟨i,hi,hn⟩
 (refine R0 ?_;with_reducible repeat' first|exact trivial|intro h|refine aO ?_|refine eO ?_|apply jO)
 ·rw [ixOf_hit (by assumption) (by simp [h]) hn]
 ·exact nx ⟨i+1,by omega,Y5 (by assumption) (by simp [h]) hn⟩ (by simp;omega) (by simp [E2]) rfl
 ·have:i=t.length:=by omega
  subst this
  rw [tL (Nat.le_refl _)] at hn
  rw [ixOf_none hn]
theorem w89 (x:Nod) (id:Int):Pu 89 [Nd x,.rop 1 (I id)] (· = B (decide (x.id=id))):=by
 refine ZW mxd i89 rfl (by simp) ?_;refine X0 ?_
 try (refine R0 ?_;with_reducible repeat' first|exact trivial|intro h|refine aO ?_|refine eO ?_|apply jO)
theorem w88 (t:List Nod) (f:Nat) (cs:List GV) (p:Nod→Bool) (hp:∀x∈t,Pu f (Nd x::cs) (· = B (p x))) :
 Pu 88 [NdS t,.clo f cs] (· = I (Zu p t)):=by
 refine GCalls.lenA fun hl=> ?_
 have hlen:=hl.1.1
 simp only [List.length_map,Zh] at hlen
 refine ZW mxd i88 rfl (by simp) ?_;refine X0 ?_
 refine Zz mxd (ι:={ i:Nat // i≤t.length∧∀y∈t.take i,p y=false }) (fun i=>[(0,NdS t),(1,.clo f cs),(7,I t.length),(8,I i.1)]) (fun _ => []) (fun i=>t.length-i.1) ⟨0,by simp⟩ (by simp [E2]) rfl ?_
 rintro ⟨i,hi,hn⟩
 (refine R0 ?_;with_reducible repeat' first|exact trivial|intro h|refine aO ?_|refine eO ?_|apply jO)
 ·refine callS.eq (hp t[i] (gM _)) ?_
  (refine R0 ?_;with_reducible repeat' first|exact trivial|intro h|refine aO ?_|refine eO ?_|apply jO)
  ·rw [ixOf_hit (by assumption) h hn]
  ·exact nx ⟨i+1,by omega,Y5 (by assumption) h hn⟩ (by simp;omega) (by simp [E2]) rfl
 ·have:i=t.length:=by omega
  subst this
  rw [tL (Nat.le_refl _)] at hn
  rw [ixOf_none hn]
theorem w55 (t:List Nod) (id:Int):Pu 55 [Tr t,I id] (· = I (Zu (fun y=>decide (y.id=id)) t)):=by
 refine ZW mxd i55 rfl (by simp) ?_;refine X0 ?_
 refine callS.eq (w88 t _ _ _ fun x _ => w89 x id) ?_
 (refine R0 ?_;with_reducible repeat' first|exact trivial|intro h|refine aO ?_|refine eO ?_|apply jO)
theorem w82 (x:Sym) (hx:smSy x):Pu 82 [Sy x] (· = Sy x):=by
 unfold smSy at hx
 refine Pure.bor ?_
 refine ZW mxd i82 rfl (by simp) ?_;refine X0 ?_
 (refine R0 ?_;with_reducible repeat' first|exact trivial|intro h|refine aO ?_|refine eO ?_|apply jO)
 exact .agg (.cons .refl (.cons (Bor.allM (fun _ => rfl) ZX rfl) .nil))
theorem w45 (g:Gram) (s:ByteArray) (hg:Zw g):Pu 45 [Gr g,T s] (· = .tup [Sy (Zv g.syms s),B (hSym g.syms s)]):=by
 refine Pure.bor ?_
 have hlen:=hg.1
 refine ZW mxd i45 rfl (by simp) ?_;refine X0 ?_
 refine Zz mxd (ι:={ i:Nat // i≤g.syms.length∧∀y∈g.syms.take i,decide (y.name=s)=false }) (fun i=>[(1,T s),(2,.rop 2 (Gr g)),(4,.raw 2),(6,I i.1)]) (fun _ => []) (fun i=>g.syms.length-i.1) ⟨0,by simp⟩ (by simp [E2]) rfl ?_
 rintro ⟨i,hi,hn⟩
 (refine R0 ?_;with_reducible repeat' first|exact trivial|intro h|refine aO ?_|refine eO ?_|apply jO)
 ·subst h
  refine callS.eq (w82 g.syms[i] (hg.2.2.1 _ (gM _))) ?_
  (refine R0 ?_;with_reducible repeat' first|exact trivial|intro h|refine aO ?_|refine eO ?_|apply jO)
  have e:=Yy (p:=fun x:Sym=>decide (x.name=g.syms[i].name)) (xs:=g.syms) (i:=i) (by assumption) (by simp) hn
  simp only [Zv,hSym,e]
  exact .refl
 ·exact nx ⟨i+1,by omega,Y5 (by assumption) (by simp [*]) hn⟩ (by simp;omega) (by simp [E2]) rfl
 ·have:i=g.syms.length:=by omega
  subst this
  rw [tL (Nat.le_refl _)] at hn
  have e:=YC hn
  simp only [Zv,hSym,e]
  exact .tup (.cons (.agg (.cons .refl (.cons .nil .nil))) (.cons .refl .nil))
theorem w64 (g:Sym) (s:ByteArray) (hg:smSy g):Pu 64 [Sy g,T s] (· = .tup [At (fAtt g.atts s),B (hAtt g.atts s)]):=by
 unfold smSy at hg
 refine ZW mxd i64 rfl (by simp) ?_;refine X0 ?_
 refine Zz mxd (ι:={ i:Nat // i≤g.atts.length∧∀y∈g.atts.take i,decide (y.name=s)=false }) (fun i=>[(1,T s),(2,.rop 2 (Sy g)),(4,.raw 4),(6,I i.1)]) (fun _ => []) (fun i=>g.atts.length-i.1) ⟨0,by simp⟩ (by simp [E2]) rfl ?_
 rintro ⟨i,hi,hn⟩
 (refine R0 ?_;with_reducible repeat' first|exact trivial|intro h|refine aO ?_|refine eO ?_|apply jO)
 ·subst h
  have e:=Yy (p:=fun x:Att=>decide (x.name=g.atts[i].name)) (xs:=g.atts) (i:=i) (by assumption) (by simp) hn
  simp only [fAtt,hAtt,e]
  rfl
 ·exact nx ⟨i+1,by omega,Y5 (by assumption) (by simp [*]) hn⟩ (by simp;omega) (by simp [E2]) rfl
 ·have:i=g.atts.length:=by omega
  subst this
  rw [tL (Nat.le_refl _)] at hn
  have e:=YC hn
  simp only [fAtt,hAtt,e]
  rfl
theorem w77 (g:Gram) (s:ByteArray) (hg:Zw g):Pu 77 [Gr g,T s] (· = .tup [Sy (Zv g.syms s),B (hSym g.syms s)]):=by
 refine Pure.bor ?_
 have hlen:=hg.1
 refine ZW mxd i77 rfl (by simp) ?_;refine X0 ?_
 refine Zz mxd (ι:={ i:Nat // i≤g.syms.length∧∀y∈g.syms.take i,decide (y.name=s)=false }) (fun i=>[(1,T s),(4,.raw 2),(9,SyS g.syms),(10,I g.syms.length),(11,I i.1)]) (fun _ => []) (fun i=>g.syms.length-i.1) ⟨0,by simp⟩ (by simp [E2]) rfl ?_
 rintro ⟨i,hi,hn⟩
 (refine R0 ?_;with_reducible repeat' first|exact trivial|intro h|refine aO ?_|refine eO ?_|apply jO)
 ·subst h
  have e:=Yy (p:=fun x:Sym=>decide (x.name=g.syms[i].name)) (xs:=g.syms) (i:=i) (by assumption) (by simp) hn
  simp only [Zv,hSym,e]
  exact .refl
 ·exact nx ⟨i+1,by omega,Y5 (by assumption) (by simp [*]) hn⟩ (by simp;omega) (by simp [E2]) rfl
 ·have:i=g.syms.length:=by omega
  subst this
  rw [tL (Nat.le_refl _)] at hn
  have e:=YC hn
  simp only [Zv,hSym,e]
  exact .tup (.cons (.agg (.cons .refl (.cons .nil .nil))) (.cons .refl .nil))
theorem w87 (g:Sym) (s:ByteArray) (hg:smSy g):Pu 87 [Sy g,T s] (· = .tup [At (fAtt g.atts s),B (hAtt g.atts s)]):=by
 unfold smSy at hg
 refine ZW mxd i87 rfl (by simp) ?_;refine X0 ?_
 refine Zz mxd (ι:={ i:Nat // i≤g.atts.length∧∀y∈g.atts.take i,decide (y.name=s)=false }) (fun i=>[(1,T s),(4,.raw 4),(9,AtS g.atts),(10,I g.atts.length),(11,I i.1)]) (fun _ => []) (fun i=>g.atts.length-i.1) ⟨0,by simp⟩ (by simp [E2]) rfl ?_
 rintro ⟨i,hi,hn⟩
 (refine R0 ?_;with_reducible repeat' first|exact trivial|intro h|refine aO ?_|refine eO ?_|apply jO)
 ·subst h
  have e:=Yy (p:=fun x:Att=>decide (x.name=g.atts[i].name)) (xs:=g.atts) (i:=i) (by assumption) (by simp) hn
  simp only [fAtt,hAtt,e]
  rfl
 ·exact nx ⟨i+1,by omega,Y5 (by assumption) (by simp [*]) hn⟩ (by simp;omega) (by simp [E2]) rfl
 ·have:i=g.atts.length:=by omega
  subst this
  rw [tL (Nat.le_refl _)] at hn
  have e:=YC hn
  simp only [fAtt,hAtt,e]
  rfl
theorem w92:∀(e:Exp),wEx e≤1048576→Pu 92 [Ex e] (· = Ex e):=by
 refine Exp.indA fun e ih hw=> ?_
 obtain ⟨hl,ha⟩:=YK hw
 refine Pure.bor ?_
 refine ZW mxd i92 rfl (by simp) ?_;refine X0 ?_
 (refine R1 @XE ?_;with_reducible repeat' first|exact trivial|intro h|refine aO ?_|refine eO ?_|apply jO)
 rename_i r hr q
 have h0:=Z0 h
 (replace h0:=h0;simp only [VN] at h0)
 refine ploop mxd (ι:={ x:Nat×Nat // x.2≤e.args.length }) (fun x=>[(1,.ptr r 7 0 0),(2,.raw 7),(3,.own x.1.1 7 0 x.1.2),(4,I x.1.2)]) (fun x=>[(x.1.1,7,(e.args.take x.1.2).map Ex),(r,7,[Ex e])]) (fun x=>e.args.length-x.1.2) ⟨(q,0),by simp⟩ (by simp [E2]) (by simp [subH,ZU,names,h0]) ?_
 rintro ⟨⟨q,i⟩,hi⟩ hn
 dsimp only at hi hn ⊢
 (replace hn:=hn;simp only [VN] at hn)
 (refine R1 (jO @XE (jO @Z9 (jO @Z8 (jO @Z7 (jO hn @t_ldf))))) ?_;with_reducible repeat' first|exact trivial|intro h|refine aO ?_|refine eO ?_|apply jO)
 ·refine callS.eq (ih _ (gM _) (ha _ (gM _))) ?_
  (refine R1 (jO @XE (jO @Z9 (jO @Z8 (jO @Z7 (jO hn @t_ldf))))) ?_;with_reducible repeat' first|exact trivial|intro h|refine aO ?_|refine eO ?_|apply jO)
  rename_i q2
  have h2:=Z0 h
  (replace h2:=h2;simp only [VN] at h2)
  (refine R1 (jO @XE (jO @Z9 (jO @Z8 (jO @Z7 (jO hn (jO h2 @t_ldf)))))) ?_;with_reducible repeat' first|exact trivial|intro h|refine aO ?_|refine eO ?_|apply jO)
  ·simp;omega
  rename_i q3
  have h3:=Z0 h
  (replace h3:=h3;simp only [VN] at h3)
  rw [takeApp Ex e.args i (by assumption)]
  exact px ⟨(q3,i+1),by omega⟩ (by simp;omega) (by simp [E2]) (by simp [subH,ZU,names,h3])
 ·rw [Y7 e]
  refine .agg (.cons .refl (.cons .refl (.cons .refl (.cons .refl (.cons .refl (.cons .refl (.cons ?_ .nil)))))))
  have:i=e.args.length:=by omega
  subst this
  rw [List.take_length]
  exact Bor.allM view_Ex ZX rfl
theorem w123 (r:Rul) (p:Int) (hr:YY r):Pu 123 [Ru r,I p] (· = T (Zp r p)):=by
 have hl:=hr.1
 refine ZW mxd i123 rfl (by simp) ?_;refine X0 ?_
 (refine R0 ?_;with_reducible repeat' first|exact trivial|intro h|refine aO ?_|refine eO ?_|apply jO)
 ·simp [Zp,h]
 refine callS.eq (w51 _ _ _) ?_
 (refine R0 ?_;with_reducible repeat' first|exact trivial|intro h|refine aO ?_|refine eO ?_|apply jO)
 ·simp only [Zp,if_neg (show ¬p=0 from by assumption),if_pos h,ZJ (show (p-1).toNat < r.right.length by omega)]
 ·simp only [Zp,if_neg (show ¬p=0 from by assumption),if_neg h];rfl
theorem w57 (g:Gram) (s:ByteArray) (hg:Zw g):Pu 57 [Gr g,T s] (· = .tup [Ru (Zy g.rules s),B (hRul g.rules s)]):=by
 refine Pure.bor ?_
 have hlen:=hg.2.1
 refine ZW mxd i57 rfl (by simp) ?_;refine X0 ?_
 refine Zz mxd (ι:={ i:Nat // i≤g.rules.length∧∀y∈g.rules.take i,decide (y.name=s)=false }) (fun i=>[(1,T s),(4,.raw 6),(9,RuS g.rules),(10,I g.rules.length),(11,I i.1)]) (fun _ => []) (fun i=>g.rules.length-i.1) ⟨0,by simp⟩ (by simp [E2]) rfl ?_
 rintro ⟨i,hi,hn⟩
 (refine R0 ?_;with_reducible repeat' first|exact trivial|intro h|refine aO ?_|refine eO ?_|apply jO)
 ·subst h
  have e:=Yy (p:=fun x:Rul=>decide (x.name=g.rules[i].name)) (xs:=g.rules) (i:=i) (by assumption) (by simp) hn
  simp only [Zy,hRul,e]
  exact .refl
 ·exact nx ⟨i+1,by omega,Y5 (by assumption) (by simp [*]) hn⟩ (by simp;omega) (by simp [E2]) rfl
 ·have:i=g.rules.length:=by omega
  subst this
  rw [tL (Nat.le_refl _)] at hn
  have e:=YC hn
  simp only [Zy,hRul,e]
  exact .tup (.cons (.agg (.cons .refl (.cons .refl (.cons .nil (.cons .refl (.cons .nil (.cons .nil .nil))))))) (.cons .refl .nil))
theorem w56 (t:List Nod) (i:Int):Pu 56 [Tr t,I i] (· = B (decide (0≤i∧i<t.length))):=by
 refine GCalls.lenA fun hl=> ?_
 obtain ⟨hlen,_⟩:=lenTr hl.1
 refine ZW mxd i56 rfl (by simp) ?_;refine X0 ?_
 refine callS.eq (w48 _ _ _) ?_
 (refine R0 ?_;with_reducible repeat' first|exact trivial|intro h|refine aO ?_|refine eO ?_|apply jO)
 exact bEq (by omega)
theorem w83 (x y:Int):Pu 83 [I x,I y] (· = I (max x y)):=by
 refine ZW mxd i83 rfl (by simp) ?_;refine X0 ?_
 (refine R0 ?_;with_reducible repeat' first|exact trivial|intro h|refine aO ?_|refine eO ?_|apply jO)<;>simp<;>omega
theorem w91 (e:Rul) (hr:YY e):Pu 91 [Ru e] (· = Ru e):=by
 obtain ⟨h1,h2,h3,h4,h5⟩:=hr
 refine Pure.bor ?_
 refine ZW mxd i91 rfl (by simp) ?_;refine X0 ?_
 (refine R1 @XE ?_;with_reducible repeat' first|exact trivial|intro h|refine aO ?_|refine eO ?_|apply jO)
 rename_i ra _ rr _ r0
 have h0:=Z0 h
 (replace h0:=h0;simp only [VN] at h0)
 obtain ⟨v,ho,hv⟩:=vfresh [r0,rr]
 refine ploopF mxd (ι:={ x:Nat×Nat // x.2≤e.eqs.length }) (fun x=>[(1,.rop 6 (Ru e)),(2,.raw 6),(3,.ptr r0 6 0 0),(4,I x.1.2)])
  (fun x=>[(x.1.1,9,(e.eqs.take x.1.2).map Qn),(r0,6,[.agg [T e.name,T e.left,.own rr 1 0 e.right.length,B e.lit,.own x.1.1 9 0 x.1.2,.val (.slice none 0 0)]]),(rr,1,e.right.map T)])
  (fun x=>e.eqs.length-x.1.2) ⟨(v,0),by simp⟩ (FE.virtF (i:=0) (j:=4) (sz1:=9) ZX rfl rfl ho hv) (by simp [E2]) ?_ ?_
 ·simp only [List.mem_cons,List.not_mem_nil,or_false,not_or] at hv
  simp [subH,ZU,ZE,names,h0,hv]
 rintro ⟨⟨q,i⟩,hi⟩ hn
 dsimp only at hi hn ⊢
 (replace hn:=hn;simp only [VN] at hn)
 (refine R1 (jO @XE (jO @Z9 (jO @Z8 (jO @Z7 (jO hn @t_ldf))))) ?_;with_reducible repeat' first|exact trivial|intro h|refine aO ?_|refine eO ?_|apply jO)
 ·refine callS.eq (w92 _ (h4 _ (gM _))) ?_
  (refine R1 (jO @XE (jO @Z9 (jO @Z8 (jO @Z7 (jO hn @t_ldf))))) ?_;with_reducible repeat' first|exact trivial|intro h|refine aO ?_|refine eO ?_|apply jO)
  rename_i q2
  have h2:=Z0 h
  (replace h2:=h2;simp only [VN] at h2)
  (refine R1 (jO @XE (jO @Z9 (jO @Z8 (jO @Z7 (jO hn (jO h2 @t_ldf)))))) ?_;with_reducible repeat' first|exact trivial|intro h|refine aO ?_|refine eO ?_|apply jO)
  ·simp;omega
  rename_i q3
  have h3:=Z0 h
  (replace h3:=h3;simp only [VN] at h3)
  (refine R1 (jO @XE (jO @Z9 (jO @Z8 (jO @Z7 (jO hn (jO h2 (jO h3 @t_ldf))))))) ?_;with_reducible repeat' first|exact trivial|intro h|refine aO ?_|refine eO ?_|apply jO)
  rw [takeApp Qn e.eqs i (by assumption)]
  exact px ⟨(q3,i+1),by omega⟩ (by simp;omega) (by simp [E2]) (by simp [subH,ZU,names,h3])
 ·have:i=e.eqs.length:=by omega
  subst this
  rw [List.take_length]
  obtain ⟨v,ho,hv⟩:=vfresh [q,r0,rr]
  refine ploopF mxd (ι:={ x:Nat×Nat // x.2≤e.cons.length }) (fun x=>[(1,.rop 6 (Ru e)),(2,.raw 6),(3,.ptr r0 6 0 0),(5,I x.1.2)])
   (fun x=>[(x.1.1,16,(e.cons.take x.1.2).map Co),(q,9,e.eqs.map Qn),(r0,6,[.agg [T e.name,T e.left,.own rr 1 0 e.right.length,B e.lit,.own q 9 0 e.eqs.length,.own x.1.1 16 0 x.1.2]]),(rr,1,e.right.map T)])
   (fun x=>e.cons.length-x.1.2) ⟨(v,0),by simp⟩ (FE.virtF (r:=r0) (i:=0) (j:=5) (sz1:=16) (by simp [ZU,hn];exact ⟨rfl,rfl⟩) rfl rfl ho hv) (by simp [E2]) ?_ ?_
  ·simp only [List.mem_cons,List.not_mem_nil,or_false,not_or] at hv
   simp [subH,ZU,ZE,names,hn,hv]
  rintro ⟨⟨p,i⟩,hi⟩ hn
  dsimp only at hi hn ⊢
  (replace hn:=hn;simp only [VN] at hn)
  (refine R1 (jO @XE (jO @Z9 (jO @Z8 (jO @Z7 (jO hn @t_ldf))))) ?_;with_reducible repeat' first|exact trivial|intro h|refine aO ?_|refine eO ?_|apply jO)
  ·refine callS.eq (w92 _ (h5 _ (gM _)).1) ?_
   (refine R1 (jO @XE (jO @Z9 (jO @Z8 (jO @Z7 (jO hn @t_ldf))))) ?_;with_reducible repeat' first|exact trivial|intro h|refine aO ?_|refine eO ?_|apply jO)
   refine callS.eq (w92 _ (h5 _ (gM _)).2) ?_
   (refine R1 (jO @XE (jO @Z9 (jO @Z8 (jO @Z7 (jO hn @t_ldf))))) ?_;with_reducible repeat' first|exact trivial|intro h|refine aO ?_|refine eO ?_|apply jO)
   rename_i q2
   have h2:=Z0 h
   (replace h2:=h2;simp only [VN] at h2)
   (refine R1 (jO @XE (jO @Z9 (jO @Z8 (jO @Z7 (jO hn (jO h2 @t_ldf)))))) ?_;with_reducible repeat' first|exact trivial|intro h|refine aO ?_|refine eO ?_|apply jO)
   ·simp;omega
   rename_i q3
   have h3:=Z0 h
   (replace h3:=h3;simp only [VN] at h3)
   (refine R1 (jO @XE (jO @Z9 (jO @Z8 (jO @Z7 (jO hn (jO h2 (jO h3 @t_ldf))))))) ?_;with_reducible repeat' first|exact trivial|intro h|refine aO ?_|refine eO ?_|apply jO)
   rw [takeApp Co e.cons i (by assumption)]
   exact px ⟨(q3,i+1),by omega⟩ (by simp;omega) (by simp [E2]) (by simp [subH,ZU,names,h3])
  ·have:i=e.cons.length:=by omega
   subst this
   rw [List.take_length]
   exact .agg (.cons .refl (.cons .refl (.cons (Bor.allM (fun _ => rfl) (by simp [ZU,hn]) rfl) (.cons .refl (.cons (Bor.allM (fun _ => rfl) (by simp [ZU,hn]) rfl) (.cons (Bor.allM (fun _ => rfl) (by simp [ZU,hn]) rfl) .nil))))))
theorem w59 (g:Gram) (s:ByteArray) (hg:Zw g):Pu 59 [Gr g,T s] (· = .tup [Ru (Zy g.rules s),B (hRul g.rules s)]):=by
 refine Pure.bor ?_
 have hlen:=hg.2.1
 refine ZW mxd i59 rfl (by simp) ?_;refine X0 ?_
 refine Zz mxd (ι:={ i:Nat // i≤g.rules.length∧∀y∈g.rules.take i,decide (y.name=s)=false }) (fun i=>[(1,T s),(2,.rop 2 (Gr g)),(4,.raw 6),(6,I i.1)]) (fun _ => []) (fun i=>g.rules.length-i.1) ⟨0,by simp⟩ (by simp [E2]) rfl ?_
 rintro ⟨i,hi,hn⟩
 (refine R0 ?_;with_reducible repeat' first|exact trivial|intro h|refine aO ?_|refine eO ?_|apply jO)
 ·subst h
  refine callS.eq (w91 g.rules[i] (hg.2.2.2 _ (gM _))) ?_
  (refine R0 ?_;with_reducible repeat' first|exact trivial|intro h|refine aO ?_|refine eO ?_|apply jO)
  have e:=Yy (p:=fun x:Rul=>decide (x.name=g.rules[i].name)) (xs:=g.rules) (i:=i) (by assumption) (by simp) hn
  simp only [Zy,hRul,e]
  exact .refl
 ·exact nx ⟨i+1,by omega,Y5 (by assumption) (by simp [*]) hn⟩ (by simp;omega) (by simp [E2]) rfl
 ·have:i=g.rules.length:=by omega
  subst this
  rw [tL (Nat.le_refl _)] at hn
  have e:=YC hn
  simp only [Zy,hRul,e]
  exact .tup (.cons (.agg (.cons .refl (.cons .refl (.cons .nil (.cons .refl (.cons .nil (.cons .nil .nil))))))) (.cons .refl .nil))
theorem w44 (g:Gram) (t:List Nod) (i:Int) (hg:Zw g):Pu 44 [Gr g,Tr t,I i] (· = T (symN g t i)):=by
 refine GCalls.lenA fun hl=> ?_
 obtain ⟨hlen,_⟩:=lenTr hl.2.1
 refine ZW mxd i44 rfl (by simp) ?_;refine X0 ?_
 by_cases h:0≤i∧i<t.length
 ·obtain ⟨i,rfl⟩:∃k:Nat,i=k:=⟨i.toNat,by omega⟩
  have hi:i<t.length:=by omega
  rw [symN_in hi]
  (with_reducible repeat' first|refine callS.eq (w51 _ _ _) ?_|refine callS.eq (w59 _ _ hg) ?_|exact trivial|refine aO ?_|refine eO ?_|apply jO|refine K0 ?_|intro h)
  all_goals first|rfl|(exfalso;omega)
 ·rw [symN_out h]
  (with_reducible repeat' first|refine callS.eq (w51 _ _ _) ?_|refine callS.eq (w59 _ _ hg) ?_|exact trivial|refine aO ?_|refine eO ?_|apply jO|refine K0 ?_|intro h)
  all_goals first|rfl|(exfalso;omega)
theorem w78 (g:Gram) (t:List Nod) (i:Int) (hg:Zw g):Pu 78 [Gr g,Tr t,I i] (· = T (symN g t i)):=by
 refine GCalls.lenA fun hl=> ?_
 obtain ⟨hlen,_⟩:=lenTr hl.2.1
 refine ZW mxd i78 rfl (by simp) ?_;refine X0 ?_
 by_cases h:0≤i∧i<t.length
 ·obtain ⟨i,rfl⟩:∃k:Nat,i=k:=⟨i.toNat,by omega⟩
  have hi:i<t.length:=by omega
  rw [symN_in hi]
  (with_reducible repeat' first|refine callS.eq (w56 _ _) ?_|refine callS.eq (w57 _ _ hg) ?_|exact trivial|refine aO ?_|refine eO ?_|apply jO|refine K0 ?_|intro h)
  all_goals first|rfl|(exfalso;omega)
 ·rw [symN_out h]
  (with_reducible repeat' first|refine callS.eq (w56 _ _) ?_|refine callS.eq (w57 _ _ hg) ?_|exact trivial|refine aO ?_|refine eO ?_|apply jO|refine K0 ?_|intro h)
  all_goals first|rfl|(exfalso;omega)
theorem w122 (g:Gram) (s n:ByteArray) (hg:Zw g):Pu 122 [Gr g,T s,T n] (· = I (fAtt (Zv g.syms s).atts n).type):=by
 refine ZW mxd i122 rfl (by simp) ?_;refine X0 ?_
 (with_reducible repeat' first|refine callS.eq (w45 _ _ hg) ?_|refine callS.eq (w64 _ _ (smSy_f hg _)) ?_|exact trivial|refine aO ?_|refine eO ?_|apply jO|refine K0 ?_|intro h)
 all_goals rw [fAtt_no (by assumption)];rfl
theorem w54 (g:Gram) (t:List Nod) (x:Int×ByteArray) (hg:Zw g):Pu 54 [Gr g,Tr t,Ins x] (· = .tup [At (attN g t x.1 x.2),B (hasN g t x.1 x.2)]):=by
 refine ZW mxd i54 rfl (by simp) ?_;refine X0 ?_
 (with_reducible repeat' first|refine callS.eq (w55 _ _) ?_|refine callS.eq (w78 _ _ _ hg) ?_|refine callS.eq (w77 _ _ hg) ?_|refine callS.eq (w87 _ _ (smSy_f hg _)) ?_|exact trivial|refine aO ?_|refine eO ?_|apply jO|refine K0 ?_|intro h)
 all_goals simp only [attN,hasN]
 ·rw [if_neg (by omega),if_neg (by omega)];rfl
 ·rw [if_pos (by omega),if_pos (by omega)]
theorem w29 (g:Gram) (t:List Nod) (x:Int×ByteArray) (hg:Zw g):Pu 29 [Gr g,Tr t,Ins x] (· = .tup [At (attN g t x.1 x.2),B (hasN g t x.1 x.2)]):=by
 refine ZW mxd i29 rfl (by simp) ?_;refine X0 ?_
 (with_reducible repeat' first|refine callS.eq (w32 _ _) ?_|refine callS.eq (w44 _ _ _ hg) ?_|refine callS.eq (w45 _ _ hg) ?_|refine callS.eq (w64 _ _ (smSy_f hg _)) ?_|exact trivial|refine aO ?_|refine eO ?_|apply jO|refine K0 ?_|intro h)
 all_goals simp only [attN,hasN]
 ·rw [if_neg (by omega),if_neg (by omega)];rfl
 ·rw [if_pos (by omega),if_pos (by omega)]
theorem w33 (g:Gram) (t:List Nod) (i:Int) (o:Int×ByteArray) (ht:∀x∈t,x.kids.length≤1048576):Pu 33 [Gr g,Tr t,I i,Occ o] (· = .tup [Ins (Y6 t i o).1,B (Y6 t i o).2]):=by
 refine GCalls.lenA fun hl=> ?_
 obtain ⟨hlen,_⟩:=lenTr hl.2.1
 refine ZW mxd i33 rfl (by simp) ?_;refine X0 ?_
 by_cases h:0≤i∧i<t.length
 ·obtain ⟨i,rfl⟩:∃k:Nat,i=k:=⟨i.toNat,by omega⟩
  have hi:i<t.length:=by omega
  have hk:=ht _ (gM hi)
  (with_reducible repeat' first|refine callS.eq (w56 _ _) ?_|refine callS.eq (w48 _ _ _) ?_|exact trivial|refine aO ?_|refine eO ?_|apply jO|refine K0 ?_|intro h)
  all_goals try exact oF
  all_goals first
   | (rw [inst0 hi (by omega)];done)
   | (rw [inst1 hi (by omega) (by omega) (by omega) (by omega)];done)
   | (rw [inst2 hi (by omega) (by omega) (by omega)];rfl)
   | (rw [inst3 hi (by omega)];rfl)
 ·(with_reducible repeat' first|refine callS.eq (w56 _ _) ?_|refine callS.eq (w48 _ _ _) ?_|exact trivial|refine aO ?_|refine eO ?_|apply jO|refine K0 ?_|intro h)
  all_goals try exact oF
  rw [inst4 (by omega)]
  rfl
theorem w63 (g:Gram) (t:List Nod) (i:Int) (o:Int×ByteArray) (ht:∀x∈t,x.kids.length≤1048576):Pu 63 [Gr g,Tr t,I i,Occ o] (· = .tup [Ins (Y6 t i o).1,B (Y6 t i o).2]):=by
 refine GCalls.lenA fun hl=> ?_
 obtain ⟨hlen,_⟩:=lenTr hl.2.1
 refine ZW mxd i63 rfl (by simp) ?_;refine X0 ?_
 by_cases h:0≤i∧i<t.length
 ·obtain ⟨i,rfl⟩:∃k:Nat,i=k:=⟨i.toNat,by omega⟩
  have hi:i<t.length:=by omega
  have hk:=ht _ (gM hi)
  (with_reducible repeat' first|refine callS.eq (w51 _ _ _) ?_|exact trivial|refine aO ?_|refine eO ?_|apply jO|refine K0 ?_|intro h)
  all_goals try exact oF
  all_goals first
   | (rw [inst0 hi (by omega)];done)
   | (rw [inst1 hi (by omega) (by omega) (by omega) (by omega)];done)
   | (rw [inst2 hi (by omega) (by omega) (by omega)];rfl)
   | (rw [inst3 hi (by omega)];rfl)
 ·(with_reducible repeat' first|refine callS.eq (w51 _ _ _) ?_|exact trivial|refine aO ?_|refine eO ?_|apply jO|refine K0 ?_|intro h)
  all_goals try exact oF
  rw [inst4 (by omega)]
  rfl
end Go.Proofs.YtofcbmnplanmkaaGreat
namespace Go.Proofs.YtofcbmnplanmkaaGreat
open Go.Gh
open Nat (reduceEqDiff reduceLeDiff reduceAdd reduceLT)
open Int (reduceNe)
set_option maxRecDepth 20000
set_option linter.unusedSimpArgs false
set_option linter.unusedVariables false
theorem w169 (b:Bool):Pu 169 [B b] (· = I (trV b)):=by
 refine ZW mxd i169 rfl (by simp) ?_;refine X0 ?_
 (refine R0 ?_;with_reducible repeat' first|exact trivial|intro h|refine aO ?_|refine eO ?_|apply jO)<;>simp_all [trV]
theorem w184 (a b:Int):Pu 184 [I a,I b] (· = I (min a b)):=by
 refine ZW mxd i184 rfl (by simp) ?_;refine X0 ?_
 (refine R0 ?_;with_reducible repeat' first|exact trivial|intro h|refine aO ?_|refine eO ?_|apply jO)<;>(congr 2;omega)
theorem w168 (n:Int):Pu 168 [I n] (· = I (satV n)):=by
 refine ZW mxd i168 rfl (by simp) ?_;refine X0 ?_
 refine callS.eq (w184 _ _) ?_
 (refine R0 ?_;with_reducible repeat' first|exact trivial|intro h|refine aO ?_|refine eO ?_|apply jO)
 refine callS.eq (w83 _ _) ?_
 (refine R0 ?_;with_reducible repeat' first|exact trivial|intro h|refine aO ?_|refine eO ?_|apply jO)<;>rfl
theorem w134 (v k:Int):Pu 134 [I v,I k] (· = I (coV v k)):=by
 refine ZW mxd i134 rfl (by simp) ?_;refine X0 ?_
 (refine R0 ?_;with_reducible repeat' first|exact trivial|intro h|refine aO ?_|refine eO ?_|apply jO)
 ·refine callS.eq (w168 _) ?_
  (refine R0 ?_;with_reducible repeat' first|exact trivial|intro h|refine aO ?_|refine eO ?_|apply jO)<;>simp_all [coV]
 ·simp_all [coV]
 ·refine callS.eq (w169 _) ?_
  (refine R0 ?_;with_reducible repeat' first|exact trivial|intro h|refine aO ?_|refine eO ?_|apply jO)<;>simp_all [coV]
 ·refine callS.eq (w51 _ _ _) ?_
  (refine R0 ?_;with_reducible repeat' first|exact trivial|intro h|refine aO ?_|refine eO ?_|apply jO)<;>simp_all [coV]<;>(intros;omega)
 ·simp_all [coV]
theorem w160 (op:Int):Pu 160 [I op] (· = opG op):=by
 refine ZW mxd i160 rfl (by simp) ?_;refine X0 ?_
 refine callS.eq (w51 _ _ _) ?_
 (refine R0 ?_;with_reducible repeat' first|exact trivial|intro h|refine aO ?_|refine eO ?_|apply jO)
 ·simp only [opG,opT,if_pos h]
 refine callS.eq (w51 _ _ _) ?_
 (refine R0 ?_;with_reducible repeat' first|exact trivial|intro h|refine aO ?_|refine eO ?_|apply jO)
 all_goals first|(simp only [opG,opT];rw [if_neg (by assumption),if_pos (by assumption)];done)|(subst op;rfl)|(rw [opG0 (by omega)];done)|(simp_all [opG,opT];done)|skip
theorem w110 (v k:Int):Pu 110 [I v,I k] (· = B (okV v k)):=by
 refine ZW mxd i110 rfl (by simp) ?_;refine X0 ?_
 refine callS.eq (w51 _ _ _) ?_
 (refine R0 ?_;with_reducible repeat' first|exact trivial|intro h|refine aO ?_|refine eO ?_|apply jO)
 ·refine callS.eq (w134 _ _) ?_
  (refine R0 ?_;with_reducible repeat' first|exact trivial|intro h|refine aO ?_|refine eO ?_|apply jO)<;>simp_all [okV]
 ·simp_all [okV]<;>(intros;omega)
theorem w81 (g:Gram) (t:List Nod) (hg:Zw g) (hl:t.length≤1048576) (hk:∀x∈t,x.kids.length≤1048576):∀(f i:Nat) (p q:Int) (s:ByteArray),t.length≤i+f→Pu 81 [Gr g,Tr t,I i,I p,I q,T s] (· = I (Ze g t f i p q s)):=by
 intro f
 induction f with
 | zero=>
  intro i p q s hf
  refine ZW mxd i81 rfl (by simp) ?_;refine X0 ?_
  (refine R0 ?_;with_reducible repeat' first|exact trivial|intro h|refine aO ?_|refine eO ?_|apply jO)
  all_goals first|rfl|(exfalso;omega)
 | succ f ih=>
  intro i p q s hf
  refine ZW mxd i81 rfl (by simp) ?_;refine X0 ?_
  by_cases hi:i<t.length
  rotate_left
  ·rw [walkE_out (by omega)]
   (refine R0 ?_;with_reducible repeat' first|exact trivial|intro h|refine aO ?_|refine eO ?_|apply jO)
   all_goals first|rfl|(exfalso;omega)
  have hw:Ze g t (f+1) i p q s=if fitV g t[i] p q s then YT (Ze g t f) i t[i].kids (Zy g.rules t[i].rule).right 0 (i+1) else -1:=by simp only [Ze,if_pos hi,ZJ hi]
  have hkk:=hk _ (gM hi)
  have hr:=smRu_f hg t[i].rule
  have hrr:=hr.1
  rw [hw]
  by_cases hv:fitV g t[i] p q s=true
  ·rw [if_pos hv]
   obtain ⟨h1,h2,h3,h4,h5,h6,h7⟩:=fitV_iff.1 hv
   subst h2 h3 h4
   clear hw hv
   have hR:∃R,Zy g.rules t[i].rule = R:=⟨_,rfl⟩
   obtain ⟨R,hR⟩:=hR
   rw [hR] at hr hrr h5 h7 ⊢
   have main:∀(Q:Exit→Env→GH→Prop),True:=fun _ => trivial
   rcases h7 with h7|h7
   ·(with_reducible repeat' first|refine callS.eq (w59 _ _ hg) ?_|refine callS.eq (w110 _ _) ?_|exact trivial|refine aO ?_|refine eO ?_|apply jO|refine K1 (jO h1 (jO h5 (jO okV1 (jO (eq_true h6) (jO h7 hR))))) ?_|intro h)
    all_goals try exact oF
    have hVV:∃V,YT (Ze g t f) i t[i].kids R.right 0 (i+1)=V:=⟨_,rfl⟩
    obtain ⟨V,hVV⟩:=hVV
    rw [hVV]
    refine Zz mxd (ι:={ x:Nat×Int // x.1≤R.right.length∧(i:Int)<x.2∧x.2≤t.length∧YT (Ze g t f) i (t[i].kids.drop x.1) (R.right.drop x.1) x.1 x.2=V }) (fun x=>[(2,I i),(6,.rop 2 (Gr g)),(7,.rop 1 (Tr t)),(13,.rop 6 (Nd t[i])),(14,.rop 6 (Ru R)),(16,I x.1.2),(17,I x.1.1)]) (fun _ => []) (fun x=>R.right.length-x.1.1) ⟨(0,i+1),by simp,by simp;omega,by simp;omega,by simpa using hVV⟩ (by simp [E2,h7]) rfl ?_
    rintro ⟨⟨k,a⟩,hk1,ha1,ha2,hV⟩
    dsimp only at hk1 ha1 ha2 hV ⊢
    rcases nL k R.right.length with hlt|hge
    ·rw [kidsW_step (by omega) hlt] at hV
     by_cases hc:t[i].kids[k]=a
     ·rw [if_neg (by simpa using hc)] at hV
      obtain ⟨m,rfl⟩:∃m:Nat,a=m:=⟨a.toNat,by omega⟩
      have hm:=walkE_ge (g:=g) (t:=t) f m i ((k:Int)+1) R.right[k]
      simp only [Int.toNat_natCast] at hV
      (with_reducible repeat' first|refine callS.eq (ih m _ _ _ (by omega)) ?_|exact trivial|refine aO ?_|refine eO ?_|apply jO|refine K1 (jO h5 hc) ?_|intro h)
      all_goals try exact oF
      ·rw [if_pos (by assumption)] at hV;rw [←hV]
      ·rw [if_neg (by assumption)] at hV
       exact nx ⟨(k+1,Ze g t f m i ((k:Int)+1) R.right[k]),by omega,by dsimp only;omega,by dsimp only;omega,hV⟩ (by simp;omega) (by simp [E2]) rfl
     ·rw [if_pos (by simpa using hc)] at hV
      (with_reducible repeat' first|refine callS.eq (ih _ _ _ _ (by omega)) ?_|exact trivial|refine aO ?_|refine eO ?_|apply jO|refine K1 (jO h5 hc) ?_|intro h)
      all_goals first|(rw [←hV];done)|(exfalso;omega)
    ·rw [kidsW_end (by omega)] at hV
     (refine R0 ?_;with_reducible repeat' first|exact trivial|intro h|refine aO ?_|refine eO ?_|apply jO)
     all_goals first|(rw [←hV];done)|(exfalso;omega)
   ·(with_reducible repeat' first|refine callS.eq (w59 _ _ hg) ?_|refine callS.eq (w110 _ _) ?_|exact trivial|refine aO ?_|refine eO ?_|apply jO|refine K1 (jO h1 (jO h5 (jO okV1 (jO (eq_true h6) (jO h7.1 (jO (eq_true h7.2) hR)))))) ?_|intro h)
    all_goals try exact oF
    have hVV:∃V,YT (Ze g t f) i t[i].kids R.right 0 (i+1)=V:=⟨_,rfl⟩
    obtain ⟨V,hVV⟩:=hVV
    rw [hVV]
    refine Zz mxd (ι:={ x:Nat×Int // x.1≤R.right.length∧(i:Int)<x.2∧x.2≤t.length∧YT (Ze g t f) i (t[i].kids.drop x.1) (R.right.drop x.1) x.1 x.2=V }) (fun x=>[(2,I i),(6,.rop 2 (Gr g)),(7,.rop 1 (Tr t)),(13,.rop 6 (Nd t[i])),(14,.rop 6 (Ru R)),(16,I x.1.2),(17,I x.1.1)]) (fun _ => []) (fun x=>R.right.length-x.1.1) ⟨(0,i+1),by simp,by simp;omega,by simp;omega,by simpa using hVV⟩ (by simp [E2,h7]) rfl ?_
    rintro ⟨⟨k,a⟩,hk1,ha1,ha2,hV⟩
    dsimp only at hk1 ha1 ha2 hV ⊢
    rcases nL k R.right.length with hlt|hge
    ·rw [kidsW_step (by omega) hlt] at hV
     by_cases hc:t[i].kids[k]=a
     ·rw [if_neg (by simpa using hc)] at hV
      obtain ⟨m,rfl⟩:∃m:Nat,a=m:=⟨a.toNat,by omega⟩
      have hm:=walkE_ge (g:=g) (t:=t) f m i ((k:Int)+1) R.right[k]
      simp only [Int.toNat_natCast] at hV
      (with_reducible repeat' first|refine callS.eq (ih m _ _ _ (by omega)) ?_|exact trivial|refine aO ?_|refine eO ?_|apply jO|refine K1 (jO h5 hc) ?_|intro h)
      all_goals try exact oF
      ·rw [if_pos (by assumption)] at hV;rw [←hV]
      ·rw [if_neg (by assumption)] at hV
       exact nx ⟨(k+1,Ze g t f m i ((k:Int)+1) R.right[k]),by omega,by dsimp only;omega,by dsimp only;omega,hV⟩ (by simp;omega) (by simp [E2]) rfl
     ·rw [if_pos (by simpa using hc)] at hV
      (with_reducible repeat' first|refine callS.eq (ih _ _ _ _ (by omega)) ?_|exact trivial|refine aO ?_|refine eO ?_|apply jO|refine K1 (jO h5 hc) ?_|intro h)
      all_goals first|(rw [←hV];done)|(exfalso;omega)
    ·rw [kidsW_end (by omega)] at hV
     (refine R0 ?_;with_reducible repeat' first|exact trivial|intro h|refine aO ?_|refine eO ?_|apply jO)
     all_goals first|(rw [←hV];done)|(exfalso;omega)
  ·rw [if_neg hv]
   rw [fitV_iff] at hv
   (with_reducible repeat' first|refine callS.eq (w59 _ _ hg) ?_|refine callS.eq (w110 _ _) ?_|exact trivial|refine aO ?_|refine eO ?_|apply jO|refine K0 ?_|intro h)
   all_goals try rfl
   all_goals (exfalso;apply hv;simp_all only [okV1,decide_eq_true_eq,decide_eq_false_iff_not,true_and,and_true,or_true,true_or,not_true_eq_false,not_false_eq_true];done)
theorem w85 (l:List Int) (x:Int):Pu 85 [IS l,I x] (· = B (hasI l x)):=by
 refine GCalls.lenA fun hl=> ?_
 have hlen:=hl.1.1
 simp only [List.length_map,Zh] at hlen
 refine ZW mxd i85 rfl (by simp) ?_;refine X0 ?_
 refine Zz mxd (ι:={ i:Nat // i≤l.length∧∀y∈l.take i,decide (y=x)=false }) (fun i=>[(0,IS l),(1,I x),(5,I i.1)]) (fun _ => []) (fun i=>l.length-i.1) ⟨0,by simp⟩ (by simp [E2]) rfl ?_
 rintro ⟨i,hi,hn⟩
 (refine R0 ?_;with_reducible repeat' first|exact trivial|intro h|refine aO ?_|refine eO ?_|apply jO)
 ·rw [hasI_hit (by assumption) h]
 ·exact nx ⟨i+1,by omega,Y5 (by assumption) (by simpa using h) hn⟩ (by simp;omega) (by simp [E2]) rfl
 ·have:i=l.length:=by omega
  subst this
  rw [tL (Nat.le_refl _)] at hn
  rw [hasI_none hn]
theorem w80 (t:List Nod) (hl:t.length≤1048576):Pu 80 [Tr t] (· = B (idsV t&&decide (1≤t.length∧t.length≤16))):=by
 refine Pure.bor ?_
 refine ZW mxd i80 rfl (by simp) ?_;refine X0 ?_
 (refine R0 ?_;with_reducible repeat' first|exact trivial|intro h|refine aO ?_|refine eO ?_|apply jO)
 rename_i r
 refine ploop mxd (ι:={ x:Nat×Nat // x.2≤t.length∧∀j,j<x.2→gid t j=true }) (fun x=>[(1,.rop 1 (Tr t)),(3,.own x.1.1 1 0 x.1.2),(4,I x.1.2)]) (fun x=>[(x.1.1,1,((t.take x.1.2).map (·.id)).map I)]) (fun x=>t.length-x.1.2) ⟨(r,0),by simp⟩ (by simp [E2]) (by simp [subH,ZU,names]) ?_
 rintro ⟨⟨r,i⟩,hi,hn⟩ -
 dsimp only at hi hn ⊢
 rcases nL i t.length with hlt|hge
 ·(with_reducible repeat' first|refine callS.eq (w51 _ _ _) ?_|exact trivial|refine aO ?_|refine eO ?_|apply jO|refine K0 ?_|intro h)
  all_goals try exact oF
  ·refine callS.borA (w85 ((t.take i).map (·.id)) t[i].id) (.cons (bor_IS ZX (by simp;omega)) (.cons .refl .nil)) rfl ?_
   (refine R0 ?_;with_reducible repeat' first|exact trivial|intro h|refine aO ?_|refine eO ?_|apply jO)
   ·rw [hasI_map] at h
    rw [idsV_bad hlt (gid_f2 hlt h)]
    exact .refl
   ·rename_i q2
    have h2:=Z0 h
    (replace h2:=h2;simp only [VN] at h2)
    (refine R1 (jO @Z9 (jO @Z8 (jO @Z7 (jO h2 @t_ldf)))) ?_;with_reducible repeat' first|exact trivial|intro h|refine aO ?_|refine eO ?_|apply jO)
    ·simp;omega
    rename_i hh _ _ _ q3
    have h3:=Z0 h
    (replace h3:=h3;simp only [VN] at h3)
    rw [takeApp2 I (·.id) t i hlt]
    refine px ⟨(q3,i+1),by omega,fun j hj=> ?_⟩ (by simp;omega) (by simp [E2]) (by simp [subH,ZU,names,h3])
    rcases nL j i with hji|hji
    ·exact hn j hji
    ·have:j=i:=by omega
     subst this
     exact gid_t hlt (by assumption) (by rw [←hasI_map];assumption)
  ·rw [idsV_bad hlt (gid_f1 hlt (by assumption))]
   exact .refl
 ·have:i=t.length:=by omega
  subst this
  (with_reducible repeat' first|refine callS.eq (w51 _ _ _) ?_|exact trivial|refine aO ?_|refine eO ?_|apply jO|refine K0 ?_|intro h)
  have e:B (decide (1≤(t.length:Int)∧(t.length:Int)≤16))=B (idsV t&&decide (1≤t.length∧t.length≤16)):=by rw [idsV_ok hn,Bool.true_and];exact bEq (by omega)
  rw [←e]
  exact .refl
theorem w43 (g:Gram) (t:List Nod) (s:ByteArray) (hg:Zw g) (hl:t.length≤1048576) (hk:∀x∈t,x.kids.length≤1048576):Pu 43 [Gr g,Tr t,T s] (· = B (treeOf g t s)):=by
 have hw:=w81 g t hg hl hk t.length 0 (-1) 0 s (by omega)
 simp only [Int.natCast_zero] at hw
 refine ZW mxd i43 rfl (by simp) ?_;refine X0 ?_
 (with_reducible repeat' first|refine callS.eq (w80 t hl) ?_|refine callS.eq (hw) ?_|exact trivial|refine aO ?_|refine eO ?_|apply jO|refine K0 ?_|intro h)
 all_goals first|(simp_all [treeOf];done)|(simp_all [treeOf];intros;omega)
theorem w66 (g:Gram) (hg:Zw g):Pu 66 [Gr g] (· = T (startS g)):=by
 have hl:=hg.1
 refine ZW mxd i66 rfl (by simp) ?_;refine X0 ?_
 (refine R0 ?_;with_reducible repeat' first|exact trivial|intro h|refine aO ?_|refine eO ?_|apply jO)
 ·simp only [startS];rw [if_neg (by omega)];rfl
 ·simp only [startS,Int.reduceToNat];rw [if_pos (by omega),ZJ (by omega)]
theorem w31 (g:Gram) (t:List Nod) (hg:Zw g) (hl:t.length≤1048576) (hk:∀x∈t,x.kids.length≤1048576):Pu 31 [Gr g,Tr t] (· = B (treeOf g t (startS g))):=by
 refine ZW mxd i31 rfl (by simp) ?_;refine X0 ?_
 (with_reducible repeat' first|refine callS.eq (w66 g hg) ?_|refine callS.eq (w43 g t _ hg hl hk) ?_|exact trivial|refine aO ?_|refine eO ?_|apply jO|refine K0 ?_|intro h)
end Go.Proofs.YtofcbmnplanmkaaGreat
