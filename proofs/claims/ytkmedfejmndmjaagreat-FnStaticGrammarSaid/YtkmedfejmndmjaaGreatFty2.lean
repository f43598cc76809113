/- The law returns true whatever the input, and the input reads behind the call as before. No condition. -/
import Derived.Test.YtkmedfejmndmjaaGreatFty1
import Derived.Test.YtkmedfejmndmjaaGreatRows
import Derived.Test.YtkmedfejmndmjaaGreatChecked
import Derived.KernelRfl
set_option maxHeartbeats 40000000
set_option maxRecDepth 20000
set_option linter.unusedSimpArgs false
set_option linter.unusedVariables false
namespace Go.Proofs.YtkmedfejmndmjaaGreat
open Go.Gh Go.Gh.Z
abbrev iF:=IsFun Tryz.prog
abbrev Pu:=Pure Tryz.prog
abbrev Gc:=GCalls Tryz.prog
def g3:GFun:=⟨⟨103,[3,9,11,13]⟩,(s [b 2 false] (S (s [m 15 0,c 16 6 [.t 15]] (D 16 (s [b 2 true] R) F)) (s [m 17 0,c 18 7 [.t 17],u 3 2,t 3 2 18] (s [h 20 2 3,c 21 8 [.t 20],m 19 21,v 22 19 0,v 23 19 1,m 4 22,m 5 23] (s [h 25 2 3,
 c 26 9 [.t 25],m 24 26,v 27 24 0,v 28 24 1,m 6 27,m 7 28] (S (s [m 29 4,m 30 6,o 31 .neq 29 30,m 32 31,N 33 32 5,N 34 32 7,z 35 32 (.bin .neq (.t 33) (.t 34)),O 36 32 35] (D 36 (s [b 2 false] R) F)) (S (s [k 8 0] (B 0 (S (s [m 37 8,
 f 38 1 3,l 39 38,n 40 39,o 41 .lss 37 40,m 42 41,M 43 42 4,I 44 42 43 0,A 45 42 44] (D 45 F (.exit 0))) (S (.block 1 (s [f 48 1 3,l 49 48,m 50 8,i 51 6 49 50,h 52 6 51,u 9 6,t 9 6 52] (S (s [k 10 0] (B 2 (S (s [m 53 10,f 54 4 9,l 55 54,
 n 56 55,o 57 .lss 53 56] (D 57 F (.exit 2))) (S (.block 3 (s [f 63 4 9,m 65 10,u 11 2,h 61 2 3,h 62 6 9,l 64 63,i 66 9 64 65,e 67 0 2 66,f 68 0 67,l 69 68,G 70 11 [.t 62,.t 69],G 71 10 [.t 61,.t 70],m 60 71,v 72 60 0,v 73 60 1,t 11 2 72,
 m 12 73] (s [f 76 4 9,m 78 10,u 13 4,h 75 2 11,l 77 76,i 79 9 77 78,e 80 0 2 79,f 81 1 80,l 82 81,G 83 12 [.t 75,.t 82],m 74 83,v 84 74 0,v 85 74 1,t 13 4 84,m 14 85] (s [f 88 4 9,m 90 10,f 95 1 13,h 86 2 3,h 87 6 9,l 89 88,i 91 9 89 90,
 e 92 2 7 91,h 93 7 92,G 94 13 [.t 86,.t 87,.t 93],l 96 95,o 97 .neq 94 96] (D 97 (s [b 2 false] R) F))))) (.reg [m 58 10,q 59 .add 58 1,m 10 59]))))) (s [h 98 2 3,f 99 1 9,l 100 99,c 101 14 [.t 98,.t 100],w 102 101] (D 102
 (s [b 2 false] R) F))))) (.reg [m 46 8,q 47 .add 46 1,m 8 47]))))) (s [b 2 true] R)))))))),[.t 2]⟩
theorem i3:iF 3 g3:=jF Tryz.func3
def g4:GFun:=⟨⟨63,[3]⟩,(s [b 2 false] (S (s [m 7 0,c 8 6 [.t 7]] (D 8 (s [b 2 true] R) F)) (s [m 9 0,c 10 15 [.t 9],u 3 2,t 3 2 10] (s [h 11 2 3,c 12 16 [.t 11],m 4 12] (S (s [m 13 4,h 14 2 3,c 15 17 [.t 14],x 16 (.beq true (.t 13)
 (.t 15))] (D 16 (s [b 2 false] R) F)) (S (s [k 5 0] (B 0 (S (s [m 17 5,f 18 1 3,l 19 18,n 20 19,o 21 .lss 17 20,m 22 21,M 23 22 4,A 24 22 23] (D 24 F (.exit 0))) (S (.block 1 (S (s [f 27 1 3,l 28 27,m 29 5,i 30 6 28 29,f 31 5 30,l 32 31,
 n 33 32,q 34 .gtr 33 0] (D 34 (s [b 2 false] R) F)) (s [k 6 0] (B 2 (S (s [m 35 6,f 36 1 3,l 37 36,m 38 5,i 39 6 37 38,f 40 4 39,l 41 40,n 42 41,o 43 .lss 35 42] (D 43 F (.exit 2))) (S (.block 3 (s [f 46 1 3,l 47 46,m 48 5,i 49 6 47 48,
 f 50 4 49,l 51 50,m 52 6,i 53 9 51 52,e 54 2 7 53,h 55 7 54,c 56 18 [.t 55]] (D 56 (s [b 2 false] R) F))) (.reg [m 44 6,q 45 .add 44 1,m 6 45]))))))) (.reg [m 25 5,q 26 .add 25 1,m 5 26]))))) (s [m 57 4,w 58 57,m 59 58,z 60 59 (j 2 3),
 z 61 59 (.call false 19 [.t 60]),O 62 59 61,m 2 62] R))))))),[.t 2]⟩
theorem i4:iF 4 g4:=jF Tryz.func4
def g6:GFun:=⟨⟨6,[]⟩,(s [b 2 false] (s [m 3 0,n 4 3,q 5 .gtr 4 1048576,m 2 5] R)),[.t 2]⟩
theorem i6:iF 6 g6:=jF Tryz.func6
def g7:GFun:=⟨⟨40,[2]⟩,(s [u 2 2] (s [m 7 0,c 8 34 [.t 7],m 3 8] (s [m 9 3,c 10 35 [.t 9],x 4 (.alloc 2 (.agg [(.val (.slice none 0 0)),(.val (.slice none 0 0))])),(.mk none none (.store 2 (.t 4) (.t 10)))] (S (s [m 11 3,c 12 36 [.t 11,
 K 6]] (D 12 (s [E 13 6 true,m 5 13] (S (s [k 6 0] (B 0 (S (s [m 14 6,f 15 1 4,l 16 15,n 17 16,o 18 .lss 14 17] (D 18 F (.exit 0))) (S (.block 1 (s [f 21 1 4,l 22 21,m 23 6,i 24 6 22 23,f 25 2 24,l 26 25,n 27 26,q 28 .gtr 27 0] (D 28
 (.reg [m 29 5,f 30 1 4,l 31 30,m 32 6,i 33 6 31 32,h 34 6 33,x 35 (.bslice 6 [] 1 true [(0,(.t 34))]),Q 36 6 112 29 35,m 5 36]) F))) (.reg [m 19 6,q 20 .add 19 1,m 6 20]))))) (.reg [m 37 5,f 38 1 4,(.mk none none (.store 1 (.t 38)
 (.t 37)))]))) F)) (s [h 39 2 4,t 2 2 39] R))))),[(.c 2 2 true)]⟩
theorem i7:iF 7 g7:=jF Tryz.func7
def g8:GFun:=⟨⟨44,[1,7]⟩,(s [a 1 2 0,k 2 0,k 3 0] (S (s [h 11 2 1,c 12 37 [.t 11],m 10 12,v 13 10 0,v 14 10 1,m 4 13,m 5 14] (s [m 15 4,q 16 .neq 15 0] (D 16 (s [m 17 4,m 18 5,m 2 17,m 3 18] R) F))) (S (s [f 19 1 1,l 20 19,n 21 20,
 k 22 0] (B 0 (s [o 23 .lss 22 21] (C 23 0 (S (.block 1 (s [m 24 22,i 25 6 20 22,h 26 6 25,u 7 6,m 6 24,t 7 6 26] (s [h 27 2 1,h 28 6 7,c 29 38 [.t 27,.t 28]] (D 29 (s [m 30 6,k 2 7,m 3 30] R) F)))) (.reg [q 31 .add 22 1,m 22 31])))))) (S
 (s [h 32 2 1,c 33 39 [.t 32],n 34 33,k 35 0] (B 2 (s [o 36 .lss 35 34] (C 36 2 (S (.block 3 (s [m 37 35,i 38 1 33 35,l 39 38,m 8 37,m 9 39] (s [m 40 9,q 41 .eql 40 0] (D 41 (s [m 42 8,k 2 8,m 3 42] R) F)))) (.reg [q 43 .add 35 1,
 m 35 43])))))) (s [k 2 0,k 3 0] R))))),[.t 2,.t 3]⟩
theorem i8:iF 8 g8:=jF Tryz.func8
def g9:GFun:=⟨⟨50,[1]⟩,(s [a 1 2 0,k 2 0,k 3 0] (s [h 9 2 1,c 10 40 [.t 9],m 8 10,v 11 8 0,v 12 8 1,m 4 11,m 5 12] (S (s [m 13 4,q 14 .neq 13 0] (D 14 (s [m 15 4,m 16 5,m 2 15,m 3 16] R) F)) (S (s [k 6 0] (B 0 (S (s [m 17 6,f 18 1 1,
 l 19 18,n 20 19,o 21 .lss 17 20] (D 21 F (.exit 0))) (S (.block 1 (s [f 25 1 1,m 27 6,h 24 2 1,l 26 25,i 28 6 26 27,h 29 6 28,G 30 41 [.t 24,.t 29],w 31 30] (D 31 (s [m 32 6,k 2 7,m 3 32] R) F))) (.reg [m 22 6,q 23 .add 22 1,m 6 23])))))
 (S (s [k 7 0] (B 2 (S (s [m 33 7,f 34 0 1,l 35 34,n 36 35,o 37 .lss 33 36] (D 37 F (.exit 2))) (S (.block 3 (s [f 41 0 1,m 43 7,h 40 2 1,l 42 41,i 44 2 42 43,f 45 0 44,l 46 45,G 47 42 [.t 40,.t 46],w 48 47] (D 48 (s [m 49 7,k 2 8,
 m 3 49] R) F))) (.reg [m 38 7,q 39 .add 38 1,m 7 39]))))) (s [k 2 0,k 3 0] R)))))),[.t 2,.t 3]⟩
theorem i9:iF 9 g9:=jF Tryz.func9
def g10:GFun:=⟨⟨29,[2,4]⟩,(s [a 2 2 0,u 4 2,b 5 false] (S (s [k 6 0] (B 0 (S (s [m 7 6,f 8 0 2,l 9 8,n 10 9,o 11 .lss 7 10] (D 11 F (.exit 0))) (S (.block 1 (s [f 14 0 2,l 15 14,m 16 6,i 17 2 15 16,f 18 0 17,l 19 18,m 20 1,
 o 21 .eql 19 20] (D 21 (s [f 22 0 2,l 23 22,m 24 6,i 25 2 23 24,h 26 2 25,c 27 43 [.t 26],t 4 2 27,b 5 true] R) F))) (.reg [m 12 6,q 13 .add 12 1,m 6 13]))))) (s [x 28 (.build [(.val (.string (ByteArray.mk #[]))),(.val
 (.slice none 0 0))] []),t 4 2 28,b 5 false] R))),[(.c 4 2 true),.t 5]⟩
theorem i10:iF 10 g10:=jF Tryz.func10
def g11:GFun:=⟨⟨21,[2]⟩,(s [a 2 6 0,x 4 (.mov (.k (.val (.string (ByteArray.mk #[])))))] (S (s [m 5 1,q 6 .eql 5 0] (D 6 (s [f 7 1 2,l 8 7,m 4 8] R) F)) (S (s [m 9 1,f 10 2 2,l 11 10,n 12 11,c 13 44 [.t 9,K 1,.t 12],w 14 13] (D 14
 (s [x 4 (.mov (.k (.val (.string (ByteArray.mk #[])))))] R) F)) (s [f 15 2 2,l 16 15,m 17 1,q 18 .sub 17 1,i 19 1 16 18,l 20 19,m 4 20] R)))),[.t 4]⟩
theorem i11:iF 11 g11:=jF Tryz.func11
def g12:GFun:=⟨⟨28,[2,4]⟩,(s [a 2 2 0,u 4 4,b 5 false] (S (s [k 6 0] (B 0 (S (s [m 7 6,f 8 1 2,l 9 8,n 10 9,o 11 .lss 7 10] (D 11 F (.exit 0))) (S (.block 1 (s [f 14 1 2,l 15 14,m 16 6,i 17 4 15 16,f 18 0 17,l 19 18,m 20 1,
 o 21 .eql 19 20] (D 21 (s [f 22 1 2,l 23 22,m 24 6,i 25 4 23 24,h 26 4 25,t 4 4 26,b 5 true] R) F))) (.reg [m 12 6,q 13 .add 12 1,m 6 13]))))) (s [x 27 (.build [(.val (.string (ByteArray.mk #[]))),(.val (.int .i64 0)),(.val (.int .i64 0)),
 (.val (.bool false))] []),t 4 4 27,b 5 false] R))),[(.c 4 4 true),.t 5]⟩
theorem i12:iF 12 g12:=jF Tryz.func12
def g13:GFun:=⟨⟨166,[3,4,5,9,10,15,17]⟩,(s [a 3 2 0,a 4 6 1,a 5 7 2,k 6 0] (s [E 19 1 false,m 7 19] (S (s [f 20 6 5,l 21 20,n 22 21,k 23 0] (B 0 (s [o 24 .lss 23 22] (C 24 0 (S (.block 1 (s [i 25 7 21 23,h 26 7 25,u 9 7,t 9 7 26]
 (.reg [m 27 7,h 28 2 3,h 29 6 4,h 30 7 9,c 31 13 [.t 28,.t 29,.t 30],x 32 (.bslice 1 [] 1 false [(0,(.t 31))]),Q 33 1 8 27 32,m 7 33]))) (.reg [q 34 .add 23 1,m 23 34])))))) (S (.block 2 (s [f 36 0 5,l 37 36,q 38 .eql 37 1,m 35 38] (D 35
 (s [f 39 3 5,l 40 39,m 6 40] R) (s [f 42 0 5,l 43 42,q 44 .eql 43 2,m 45 44,y 46 45 (p 1 3 4),y 47 45 (r 1 46),A 48 45 47,m 41 48] (D 41 (s [k 6 1] R) (s [f 50 0 5,l 51 50,q 52 .eql 51 3,m 49 52] (D 49 (s [h 54 2 3,h 55 6 4,f 56 2 5,
 l 57 56,f 58 5 5,l 59 58,x 60 (.build [(.val (.int .i64 0)),(.val (.string (ByteArray.mk #[])))] [(0,(1,(.t 57))),(1,(1,(.t 59)))]),c 61 45 [.t 54,.t 55,.t 60],m 53 61,v 62 53 0,v 63 53 1,u 10 4,t 10 4 62,m 11 63] (s [f 64 1 10,l 65 64,
 m 6 65] R)) (s [f 67 0 5,l 68 67,q 69 .eql 68 4,m 70 69,M 71 70 7,y 72 70 (.len (.t 71)),I 73 70 72 2,A 74 70 73,m 66 74] (D 66 (s [f 76 1 5,l 77 76,c 78 46 [.t 77],m 75 78,v 79 75 0,v 80 75 1,v 81 75 2,m 12 79,m 13 80,m 14 81] (s [m 82 7,
 x 83 (.iaddr 1 (.t 82) (K 0)),l 84 83,m 85 12,o 86 .eql 84 85,m 87 86,M 88 87 7,y 89 87 (.iaddr 1 (.t 88) (K 1)),y 90 87 (r 1 89),M 91 87 13,y 92 87 (.bin .eql (.t 90) (.t 91)),A 93 87 92] (D 93 (s [m 94 14,m 6 94] R) F))) (s [f 96 0 5,
 l 97 96,q 98 .eql 97 5,m 99 98,M 100 99 7,y 101 99 (.len (.t 100)),I 102 99 101 3,A 103 99 102,m 95 103] (D 95 (s [m 104 7,x 105 (.iaddr 1 (.t 104) (K 0)),l 106 105,q 107 .eql 106 3,m 108 107,M 109 108 7,y 110 108 (.iaddr 1 (.t 109)
 (K 1)),M 112 108 7,y 113 108 (.iaddr 1 (.t 112) (K 2)),y 111 108 (r 1 110),y 114 108 (r 1 113),y 115 108 (.bin .eql (.t 111) (.t 114)),A 116 108 115] (D 116 (s [m 117 7,x 118 (.iaddr 1 (.t 117) (K 1)),l 119 118,m 6 119] R) F)) (S
 (s [f 121 0 5,l 122 121,q 123 .eql 122 6,m 124 123,y 125 124 (p 1 2 5),y 126 124 (r 1 125),y 127 124 (p 1 2 4),y 128 124 (r 1 127),y 129 124 (.len (.t 128)),y 130 124 (.call false 47 [.t 126,K 0,.t 129]),A 131 124 130,m 120 131] (D 120 F
 (.reg [f 132 0 5,l 133 132,q 134 .eql 133 7,m 120 134]))) (D 120 (s [k 6 4] R) (s [f 136 0 5,l 137 136,q 138 .eql 137 8,m 139 138,M 140 139 7,y 141 139 (.len (.t 140)),I 142 139 141 1,A 143 139 142,m 144 143,M 145 144 7,y 146 144
 (.iaddr 1 (.t 145) (K 0)),y 147 144 (r 1 146),I 148 144 147 4,A 149 144 148,m 135 149] (D 135 (s [h 151 2 3,f 152 4 5,l 153 152,c 154 48 [.t 151,.t 153],m 150 154,v 155 150 0,v 156 150 1,u 15 2,t 15 2 155,m 16 156] (s [h 158 2 15,
 f 159 5 5,l 160 159,c 161 49 [.t 158,.t 160],m 157 161,v 162 157 0,v 163 157 1,u 17 4,t 17 4 162,m 18 163] (s [f 164 1 17,l 165 164,m 6 165] R))) F))))))))))))))) (s [k 6 0] R))))),[.t 6]⟩
theorem i13:iF 13 g13:=jF Tryz.func13
def g14:GFun:=⟨⟨9,[2]⟩,(s [a 2 2 0,b 4 false] (s [h 5 2 2,m 6 1,c 7 50 [.t 5,.t 6],q 8 .gtr 7 0,m 4 8] R)),[.t 4]⟩
theorem i14:iF 14 g14:=jF Tryz.func14
def g15:GFun:=⟨⟨6,[2]⟩,(s [u 2 2] (s [m 3 0,c 4 34 [.t 3],c 5 35 [.t 4],t 2 2 5] R)),[(.c 2 2 true)]⟩
theorem i15:iF 15 g15:=jF Tryz.func15
def g16:GFun:=⟨⟨20,[1]⟩,(s [a 1 2 0,b 2 false] (s [h 3 2 1,c 4 51 [.t 3],m 5 4,y 6 5 (j 2 1),y 7 5 (.call false 52 [.t 6]),y 8 5 (.not (.t 7)),A 9 5 8,m 10 9,y 11 10 (j 2 1),y 12 10 (.call false 53 [.t 11,(.k (.clo 54 []))]),y 13 10
 (.not (.t 12)),A 14 10 13,m 15 14,y 16 15 (j 2 1),y 17 15 (.call false 53 [.t 16,(.k (.clo 55 []))]),y 18 15 (.not (.t 17)),A 19 15 18,m 2 19] R)),[.t 2]⟩
theorem i16:iF 16 g16:=jF Tryz.func16
def g17:GFun:=⟨⟨56,[1,5]⟩,(s [a 1 2 0,b 2 false] (S (s [k 3 0] (B 0 (S (s [m 7 3,f 8 0 1,l 9 8,n 10 9,o 11 .lss 7 10] (D 11 F (.exit 0))) (S (.block 1 (s [k 4 0] (B 2 (S (s [m 14 4,f 15 0 1,l 16 15,m 17 3,i 18 2 16 17,f 19 1 18,l 20 19,
 n 21 20,o 22 .lss 14 21] (D 22 F (.exit 2))) (S (.block 3 (s [f 25 0 1,l 26 25,m 27 3,i 28 2 26 27,f 29 1 28,l 30 29,m 31 4,i 32 4 30 31,h 33 4 32,u 5 4,t 5 4 33] (s [f 34 3 5,l 35 34,m 36 35,z 37 36 (p 1 2 5),z 38 36 (r 1 37),
 J 39 36 38 3,O 40 36 39] (D 40 (s [b 2 false] R) F)))) (.reg [m 23 4,q 24 .add 23 1,m 4 24])))))) (.reg [m 12 3,q 13 .add 12 1,m 3 13]))))) (S (s [k 6 0] (B 4 (S (s [m 41 6,f 42 1 1,l 43 42,n 44 43,o 45 .lss 41 44] (D 45 F (.exit 4))) (S
 (.block 5 (s [f 48 1 1,l 49 48,m 50 6,i 51 6 49 50,h 52 6 51,c 53 56 [.t 52]] (D 53 (s [b 2 false] R) F))) (.reg [m 46 6,q 47 .add 46 1,m 6 47]))))) (s [h 54 2 1,c 55 57 [.t 54],m 2 55] R)))),[.t 2]⟩
theorem i17:iF 17 g17:=jF Tryz.func17
def g18:GFun:=⟨⟨20,[1]⟩,(s [a 1 7 0,b 2 false] (S (s [k 3 0] (B 0 (S (s [m 4 3,f 5 6 1,l 6 5,n 7 6,o 8 .lss 4 7] (D 8 F (.exit 0))) (S (.block 1 (s [f 11 6 1,l 12 11,m 13 3,i 14 7 12 13,h 15 7 14,c 16 18 [.t 15]] (D 16
 (s [b 2 true] R) F))) (.reg [m 9 3,q 10 .add 9 1,m 3 10]))))) (s [f 17 0 1,l 18 17,q 19 .eql 18 8,m 2 19] R))),[.t 2]⟩
theorem i18:iF 18 g18:=jF Tryz.func18
def g19:GFun:=⟨⟨12,[1]⟩,(s [a 1 2 0,b 2 false] (s [h 6 2 1,c 7 9 [.t 6],m 5 7,v 8 5 0,v 9 5 1,m 3 8,m 4 9] (s [m 10 3,q 11 .eql 10 0,m 2 11] R))),[.t 2]⟩
theorem i19:iF 19 g19:=jF Tryz.func19
def g27:GFun:=⟨⟨14,[]⟩,(s [b 4 false] (s [m 5 1,c 6 44 [.t 5,K 1,K 4],m 7 6,M 8 7 0,M 9 7 1,y 10 7 (.call false 69 [.t 8,.t 9]),M 11 7 0,y 12 7 (.bin .eql (.t 10) (.t 11)),A 13 7 12,m 4 13] R)),[.t 4]⟩
theorem i27:iF 27 g27:=jF Tryz.func27
def g34:GFun:=⟨⟨32,[]⟩,(s [x 2 (.mov (.k (.val (.pointer none))))] (s [m 5 0,n 6 5,x 7 (.bin .add (K 26583) (.t 6)),m 3 7] (S (s [k 4 0] (B 0 (S (s [m 8 4,m 9 0,n 10 9,o 11 .lss 8 10,m 12 11,M 13 12 4,y 14 12 (.bin .lss (.t 13)
 (K 4000)),A 15 12 14] (D 15 F (.exit 0))) (S (.block 1 (.reg [m 18 3,q 19 .mul 18 131,m 20 0,m 21 4,i 22 1 20 21,l 23 22,x 24 (.conv .i64 (.t 23)),o 25 .add 19 24,q 26 .add 25 7,q 27 .and 26 1073741823,m 3 27])) (.reg [m 16 4,
 q 17 .add 16 1,m 4 17]))))) (s [m 28 0,m 29 3,x 30 (.build [(.val (.slice none 0 0)),(.val (.int .i64 0)),(.val (.int .i64 0))] [(0,(1,(.t 28))),(2,(1,(.t 29)))]),x 31 (.box 3 (.t 30)),m 2 31] R)))),[.t 2]⟩
theorem i34:iF 34 g34:=jF Tryz.func34
def g35:GFun:=⟨⟨127,[2,3000102,4093003,5076003]⟩,(s [u 2 2] (s [m 5 0,m 6 0,c 7 36 [.t 6,K 2],c 8 74 [.t 5,.t 7],x 3 (.alloc 2 (.agg [(.val (.slice none 0 0)),(.val (.slice none 0 0))])),(.mk none none (.store 2 (.t 3) (.t 8)))]
 (s [m 9 0,f 10 1 3,l 11 10,n 12 11,c 13 75 [.t 9,.t 12],m 4 13] (S (s [m 14 0,c 15 75 [.t 14,K 14]] (.block 0 (s [q 17 .eql 15 0,m 16 17] (D 16 (.reg [f 18 1 3,m 20 4,m 21 0,l 19 18,x 22 (.calla 76 [.t 21]),i 23 6 19 20,(.mk none none
 (.store 6 (.t 23) (.t 22)))]) (s [q 25 .eql 15 1,m 24 25] (D 24 (.reg [f 26 0 3,m 28 0,l 27 26,x 29 (.calla 77 [.t 28]),x 30 (.iaddr 2 (.t 27) (K 0)),(.mk none none (.store 2 (.t 30) (.t 29)))]) (s [q 32 .eql 15 2,m 31 32] (D 31
 (.reg [f 33 1 3,m 35 4,f 36 1 3,l 34 33,l 37 36,x 38 (.iaddr 6 (.t 37) (K 0)),f 39 0 38,l 40 39,i 41 6 34 35,f 42 0 41,(.mk none none (.store 1 (.t 42) (.t 40)))]) (s [q 44 .eql 15 3,m 43 44] (D 43 (s [f 45 1 3,l 46 45,m 47 4,i 48 6 46 47,
 f 49 4 48,l 50 49,n 51 50,q 52 .gtr 51 0] (D 52 (.reg [f 53 1 3,m 55 4,f 56 1 3,m 58 4,l 54 53,l 57 56,i 59 6 57 58,f 60 4 59,l 61 60,x 62 (.slc 9 (.t 61) (some (K 1)) none),i 63 6 54 55,f 64 4 63,(.mk none none (.store 1 (.t 64)
 (.t 62)))]) F)) (s [q 66 .eql 15 4,m 65 66] (D 65 (s [f 67 1 3,l 68 67,m 69 4,i 70 6 68 69,f 71 4 70,l 72 71,n 73 72,q 74 .gtr 73 0] (D 74 (.reg [f 75 1 3,m 77 4,f 78 1 3,m 80 4,f 84 1 3,m 86 4,x 76 (.ldx 1 false 75 3),l 79 78,
 i 81 6 79 80,f 82 4 81,l 83 82,l 85 84,i 87 6 85 86,f 88 4 87,l 89 88,x 90 (.iaddr 9 (.t 89) (K 0)),h 91 9 90,x 92 (.bslice 9 [] 1 true [(0,(.t 91))]),x 93 (.appx [3] 9 112 (.t 83) (.t 92)),i 94 6 76 77,f 95 4 94,(.mk none none (.store 1
 (.t 95) (.t 93)))]) F)) (s [q 97 .eql 15 5,m 96 97] (D 96 (.reg [f 98 1 3,m 100 4,m 101 0,x 102 (.bslro 1 [] 2 false [(0,(.k (.val (.string (ByteArray.mk #[115]))))),(1,(.k (.val (.string (ByteArray.mk #[122])))))]),l 99 98,x 103
 (.calla 78 [.t 101,.t 102]),i 104 6 99 100,f 105 1 104,(.mk none none (.store 1 (.t 105) (.t 103)))]) (s [q 107 .eql 15 6,m 106 107] (D 106 (s [f 108 1 3,l 109 108,m 110 4,i 111 6 109 110,f 112 4 111,l 113 112,n 114 113,q 115 .gtr 114 0]
 (D 115 (.reg [f 116 1 3,m 118 4,m 122 0,l 117 116,i 119 6 117 118,f 120 4 119,l 121 120,x 123 (.calla 79 [.t 122]),x 124 (.iaddr 9 (.t 121) (K 0)),e 125 2 7 124,(.mk none none (.store 7 (.t 125) (.t 123)))]) F)) F))))))))))))))))
 (s [h 126 2 3,t 2 2 126] R))))),[(.c 2 2 true)]⟩
theorem i35:iF 35 g35:=jF Tryz.func35 [(5,528),(7,144),(17,2064),(20,32784)]
def g36:GFun:=⟨⟨9,[]⟩,(s [b 4 false] (s [m 5 0,m 6 1,c 7 75 [.t 5,.t 6],q 8 .eql 7 0,m 4 8] R)),[.t 4]⟩
theorem i36:iF 36 g36:=jF Tryz.func36
def g37:GFun:=⟨⟨67,[1,7]⟩,(s [a 1 2 0,k 2 0,k 3 0] (S (s [f 9 0 1,l 10 9,n 11 10,c 12 47 [.t 11,K 1,K 4],w 13 12,m 14 13,z 15 14 (p 1 1 1),z 16 14 (r 1 15),z 17 14 (.len (.t 16)),z 18 14 (.call false 47 [.t 17,K 1,K 8]),z 19 14 (.not
 (.t 18)),O 20 14 19] (D 20 (s [k 2 1,k 3 0] R) F)) (S (s [h 21 2 1,c 22 80 [.t 21],m 4 22] (s [m 23 4,q 24 .geq 23 0] (D 24 (s [m 25 4,k 2 1,m 3 25] R) F))) (S (s [f 26 0 1,l 27 26,x 28 (.iaddr 2 (.t 27) (K 0)),f 29 1 28,l 30 29,x 31
 (.call false 81 [.t 30,(.k (.clo 82 []))])] (D 31 (s [k 2 2,k 3 0] R) F)) (S (s [k 5 3] (B 0 (S (s [m 32 5,q 33 .leq 32 6] (D 33 F (.exit 0))) (S (.block 1 (s [f 36 1 1,l 37 36,n 38 37,k 39 0] (B 2 (s [o 40 .lss 39 38] (C 40 2 (S
 (.block 3 (s [m 41 39,i 42 6 37 39,h 43 6 42,u 7 6,m 6 41,t 7 6 43] (s [b 8 false] (S (s [m 44 5] (.block 4 (s [q 49 .eql 44 3,m 48 49] (D 48 (.reg [h 50 2 1,h 51 6 7,c 52 83 [.t 50,.t 51],m 8 52]) (s [q 54 .eql 44 4,m 53 54] (D 53
 (.reg [h 55 2 1,h 56 6 7,c 57 84 [.t 55,.t 56],m 8 57]) (s [q 59 .eql 44 5,m 58 59] (D 58 (.reg [h 60 2 1,h 61 6 7,c 62 85 [.t 60,.t 61],m 8 62]) (.reg [h 45 2 1,h 46 6 7,c 47 86 [.t 45,.t 46],m 8 47]))))))))) (s [m 63 8] (D 63 (s [m 64 5,
 m 65 6,m 2 64,m 3 65] R) F)))))) (.reg [q 66 .add 39 1,m 39 66]))))))) (.reg [m 34 5,q 35 .add 34 1,m 5 35]))))) (s [k 2 0,k 3 0] R)))))),[.t 2,.t 3]⟩
theorem i37:iF 37 g37:=jF Tryz.func37
def g38:GFun:=⟨⟨80,[2,3,6,7,10,11,13]⟩,(s [a 2 2 0,a 3 6 1,b 4 false] (S (s [f 15 4 3,l 16 15,n 17 16,k 18 0] (B 0 (s [o 19 .lss 18 17] (C 19 0 (S (.block 1 (s [i 20 9 16 18,h 21 9 20,u 6 9,t 6 9 21] (s [h 23 2 2,h 24 6 3,e 25 0 2 6,
 h 26 2 25,c 27 45 [.t 23,.t 24,.t 26],m 22 27,v 28 22 0,v 29 22 1,u 7 4,t 7 4 28,m 8 29] (s [e 32 2 7 6,f 35 1 7,h 30 2 2,h 31 6 3,h 33 7 32,G 34 13 [.t 30,.t 31,.t 33],l 36 35,o 37 .neq 34 36] (D 37 (s [b 4 true] R) F)))))
 (.reg [q 38 .add 18 1,m 18 38])))))) (S (s [f 39 5 3,l 40 39,n 41 40,k 42 0] (B 2 (s [o 43 .lss 42 41] (C 43 2 (S (.block 3 (s [i 44 16 40 42,h 45 16 44,u 10 16,t 10 16 45] (s [h 47 2 2,f 48 0 10,l 49 48,c 50 48 [.t 47,.t 49],m 46 50,
 v 51 46 0,v 52 46 1,u 11 2,t 11 2 51,m 12 52] (s [h 54 2 11,f 55 1 10,l 56 55,c 57 49 [.t 54,.t 56],m 53 57,v 58 53 0,v 59 53 1,u 13 4,t 13 4 58,m 14 59] (s [h 60 2 2,h 61 6 3,e 62 2 7 10,h 63 7 62,c 64 13 [.t 60,.t 61,.t 63],
 q 65 .neq 64 4,m 66 65,z 67 66 (j 2 2),z 68 66 (j 6 3),z 69 66 (.faddr 9 7 true (.t 10)),z 70 66 (j 7 69),z 71 66 (.call false 13 [.t 67,.t 68,.t 70]),z 72 66 (.bin .neq (.t 71) (K 2)),O 73 66 72,m 74 73,z 75 74 (p 1 2 13),z 76 74
 (r 1 75),z 77 74 (.bin .neq (.t 76) (K 3)),O 78 74 77] (D 78 (s [b 4 true] R) F)))))) (.reg [q 79 .add 42 1,m 42 79])))))) (s [b 4 false] R)))),[.t 4]⟩
theorem i38:iF 38 g38:=jF Tryz.func38
def g39:GFun:=⟨⟨81,[1,8,10]⟩,(s [a 1 2 0,Z 2] (s [f 14 0 1,l 15 14,n 16 15,x 17 (.mkslice 1 8 (.val (.int .i64 0)) (.t 16) (.t 16)),x 3 (.alloc 1 (.val (.slice none 0 0))),(.mk none none (.store 1 (.t 3) (.t 17)))] (s [x 18
 (.mkfn 87 [.t 1,.t 3]),m 4 18] (S (s [k 5 1] (B 0 (S (s [m 19 5,f 20 0 1,l 21 20,n 22 21,o 23 .leq 19 22] (D 23 F (.exit 0))) (S (.block 1 (s [l 26 3,n 27 26,x 28 (.mkslice 1 8 (.val (.int .i64 0)) (.t 27) (.t 27)),m 6 28] (s [m 29 6,
 l 30 3,x 31 (.copy 1 (.t 29) (.t 30))] (S (s [f 32 0 1,l 33 32,n 34 33,k 35 0] (B 2 (s [o 36 .lss 35 34] (C 36 2 (S (.block 3 (s [m 37 35,i 38 2 33 35,h 39 2 38,u 8 2,m 7 37,t 8 2 39] (S (s [l 40 3,m 41 7,i 42 1 40 41,l 43 42,
 q 44 .gtr 43 0] (D 44 (.exit 3) F)) (s [f 45 1 1,l 46 45,n 47 46,k 48 0] (B 4 (s [o 49 .lss 48 47] (C 49 4 (S (.block 5 (s [i 50 6 46 48,h 51 6 50,u 10 6,t 10 6 51] (s [f 52 1 10,l 53 52,f 54 0 8,l 55 54,o 56 .eql 53 55,m 11 56] (S
 (s [f 57 2 10,l 58 57,n 59 58,k 60 0] (B 6 (s [o 61 .lss 60 59] (C 61 6 (S (.block 7 (s [i 62 1 58 60,l 63 62,m 13 63] (.reg [m 64 11,m 65 64,M 66 65 4,M 67 65 13,y 68 65 (.callv false (.t 66) [.t 67]),y 69 65 (.bin .gtr (.t 68) (K 0)),
 A 70 65 69,m 11 70]))) (.reg [q 71 .add 60 1,m 60 71])))))) (s [m 72 11] (D 72 (.reg [m 73 6,m 74 7,m 75 5,i 76 1 73 74,(.mk none none (.store 1 (.t 76) (.t 75)))]) F)))))) (.reg [q 77 .add 48 1,m 48 77]))))))))) (.reg [q 78 .add 35 1,
 m 35 78])))))) (.reg [m 79 6,(.mk none none (.store 1 (.t 3) (.t 79)))]))))) (.reg [m 24 5,q 25 .add 24 1,m 5 25]))))) (s [l 80 3,m 2 80] R))))),[.t 2]⟩
theorem i39:iF 39 g39:=jF Tryz.func39
def g40:GFun:=⟨⟨66,[1]⟩,(s [a 1 2 0,k 2 0,k 3 0] (S (s [f 8 0 1,l 9 8,n 10 9,c 11 44 [.t 10,K 1,K 4],w 12 11,m 13 12,z 14 13 (p 1 1 1),z 15 13 (r 1 14),z 16 13 (.len (.t 15)),z 17 13 (.call false 44 [.t 16,K 1,K 8]),z 18 13 (.not
 (.t 17)),O 19 13 18] (D 19 (s [k 2 1,k 3 0] R) F)) (s [h 20 2 1,c 21 88 [.t 20],m 4 21] (S (s [m 22 4,q 23 .geq 22 0] (D 23 (s [m 24 4,k 2 1,m 3 24] R) F)) (S (s [k 5 0] (B 0 (S (s [m 25 5,f 26 0 1,l 27 26,x 28 (.iaddr 2 (.t 27) (K 0)),
 f 29 1 28,l 30 29,n 31 30,o 32 .lss 25 31] (D 32 F (.exit 0))) (S (.block 1 (s [f 35 0 1,l 36 35,x 37 (.iaddr 2 (.t 36) (K 0)),f 38 1 37,l 39 38,m 40 5,i 41 4 39 40,f 42 2 41,l 43 42,q 44 .eql 43 1] (D 44 (s [k 2 2,k 3 0] R) F)))
 (.reg [m 33 5,q 34 .add 33 1,m 5 34]))))) (S (s [k 6 3] (B 2 (S (s [m 45 6,q 46 .leq 45 6] (D 46 F (.exit 2))) (S (.block 3 (s [k 7 0] (B 4 (S (s [m 49 7,f 50 1 1,l 51 50,n 52 51,o 53 .lss 49 52] (D 53 F (.exit 4))) (S (.block 5
 (s [f 57 1 1,m 59 7,m 62 6,h 56 2 1,l 58 57,i 60 6 58 59,h 61 6 60,G 63 89 [.t 56,.t 61,.t 62]] (D 63 (s [m 64 6,m 65 7,m 2 64,m 3 65] R) F))) (.reg [m 54 7,q 55 .add 54 1,m 7 55])))))) (.reg [m 47 6,q 48 .add 47 1,m 6 48]))))) (s [k 2 0,
 k 3 0] R))))))),[.t 2,.t 3]⟩
theorem i40:iF 40 g40:=jF Tryz.func40
def g41:GFun:=⟨⟨90,[2,3,6,8,9,11]⟩,(s [a 2 2 0,a 3 6 1,b 4 false] (S (s [k 5 0] (B 0 (S (s [m 13 5,f 14 4 3,l 15 14,n 16 15,o 17 .lss 13 16] (D 17 F (.exit 0))) (S (.block 1 (s [f 20 4 3,l 21 20,m 22 5,i 23 9 21 22,h 24 9 23,u 6 9,
 t 6 9 24] (s [e 27 2 7 6,e 32 0 2 6,f 33 0 32,e 36 0 2 6,f 37 1 36,h 25 2 2,h 26 6 3,h 28 7 27,G 29 90 [.t 25,.t 26,.t 28],h 30 2 2,h 31 6 3,l 34 33,G 35 11 [.t 31,.t 34],l 38 37,G 39 91 [.t 30,.t 35,.t 38],o 40 .neq 29 39] (D 40
 (s [b 4 false] R) F)))) (.reg [m 18 5,q 19 .add 18 1,m 5 19]))))) (S (s [k 7 0] (B 2 (S (s [m 41 7,f 42 5 3,l 43 42,n 44 43,o 45 .lss 41 44] (D 45 F (.exit 2))) (S (.block 3 (s [f 48 5 3,l 49 48,m 50 7,i 51 16 49 50,h 52 16 51,u 8 16,
 t 8 16 52] (s [h 54 2 2,f 55 0 8,l 56 55,c 57 10 [.t 54,.t 56],m 53 57,v 58 53 0,v 59 53 1,u 9 2,t 9 2 58,m 10 59] (s [h 61 2 9,f 62 1 8,l 63 62,c 64 12 [.t 61,.t 63],m 60 64,v 65 60 0,v 66 60 1,u 11 4,t 11 4 65,m 12 66] (s [m 67 12,
 w 68 67,m 69 68,z 70 69 (p 1 2 11),z 71 69 (r 1 70),z 72 69 (.bin .neq (.t 71) (K 3)),O 73 69 72,m 74 73,z 75 74 (j 2 2),z 76 74 (j 6 3),z 77 74 (.faddr 2 7 true (.t 8)),z 78 74 (j 7 77),z 79 74 (.call false 90 [.t 75,.t 76,.t 78]),
 z 80 74 (.bin .neq (.t 79) (K 4)),O 81 74 80,m 82 81,z 83 82 (j 2 2),z 84 82 (j 6 3),z 85 82 (.faddr 9 7 true (.t 8)),z 86 82 (j 7 85),z 87 82 (.call false 90 [.t 83,.t 84,.t 86]),z 88 82 (.bin .neq (.t 87) (K 2)),O 89 82 88] (D 89
 (s [b 4 false] R) F)))))) (.reg [m 46 7,q 47 .add 46 1,m 7 47]))))) (s [b 4 true] R)))),[.t 4]⟩
theorem i41:iF 41 g41:=jF Tryz.func41
def g42:GFun:=⟨⟨9,[2]⟩,(s [a 2 2 0,b 4 false] (s [h 5 2 2,m 6 1,c 7 92 [.t 5,.t 6],q 8 .gtr 7 0,m 4 8] R)),[.t 4]⟩
theorem i42:iF 42 g42:=jF Tryz.func42
def g43:GFun:=⟨⟨10,[1,2]⟩,(s [a 1 2 0,u 2 2] (s [f 3 0 1,x 4 (.loadr 1 false (.t 3)),f 6 1 1,x 7 (.loadr 1 false (.t 6)),E 5 4 true,Q 8 4 40 5 7,x 9 (.build [(.val (.string (ByteArray.mk #[]))),(.val (.slice none 0 0))] [(0,(1,(.t 4))),
 (1,(1,(.t 8)))]),t 2 2 9] R)),[(.c 2 2 true)]⟩
theorem i43:iF 43 g43:=jF Tryz.func43
def g44:GFun:=⟨⟨15,[]⟩,(s [b 6 false] (s [m 7 0,m 8 1,o 9 .geq 7 8,m 10 9,M 11 10 0,M 12 10 2,y 13 10 (.bin .leq (.t 11) (.t 12)),A 14 10 13,m 6 14] R)),[.t 6]⟩
theorem i44:iF 44 g44:=jF Tryz.func44
def g45:GFun:=⟨⟨33,[3,4,5,6,8]⟩,(s [a 3 2 0,a 4 6 1,a 5 2 2,u 6 4,b 7 false] (S (s [f 10 0 5,l 11 10,f 12 2 4,l 13 12,n 14 13,c 15 47 [.t 11,K 0,.t 14],w 16 15] (D 16 (s [x 17 (.build [(.val (.string (ByteArray.mk #[]))),(.val
 (.int .i64 0)),(.val (.int .i64 0)),(.val (.bool false))] []),t 6 4 17,b 7 false] R) F)) (s [f 21 0 5,u 8 2,h 19 2 3,h 20 6 4,l 22 21,G 23 93 [.t 20,.t 22],G 24 48 [.t 19,.t 23],m 18 24,v 25 18 0,v 26 18 1,t 8 2 25,m 9 26] (s [h 27 2 8,
 f 28 1 5,l 29 28,c 30 49 [.t 27,.t 29],v 31 30 0,v 32 30 1,t 6 4 31,m 7 32] R)))),[(.c 6 4 true),.t 7]⟩
theorem i45:iF 45 g45:=jF Tryz.func45
def g46:GFun:=⟨⟨23,[]⟩,(s [k 2 0,k 3 0,k 4 0] (S (s [m 5 0] (.block 0 (S (s [q 7 .eql 5 1,m 6 7] (D 6 F (s [q 8 .eql 5 2,m 6 8] (D 6 F (s [q 9 .eql 5 3,m 6 9] (D 6 F (s [q 10 .eql 5 4,m 6 10] (D 6 F (.reg [q 11 .eql 5 5,
 m 6 11]))))))))) (D 6 (s [k 2 1,k 3 1,k 4 1] R) (S (s [q 13 .eql 5 6,m 12 13] (D 12 F (s [q 14 .eql 5 7,m 12 14] (D 12 F (.reg [q 15 .eql 5 8,m 12 15]))))) (D 12 (s [k 2 2,k 3 2,k 4 2] R) (S (s [q 17 .eql 5 9,m 16 17] (D 16 F
 (.reg [q 18 .eql 5 10,m 16 18]))) (D 16 (s [k 2 1,k 3 1,k 4 3] R) (s [q 20 .eql 5 11,m 19 20] (D 19 (s [k 2 2,k 3 1,k 4 3] R) (s [q 22 .eql 5 12,m 21 22] (D 21 (s [k 2 2,k 3 1,k 4 2] R) F)))))))))))) (s [k 2 0,k 3 0,k 4 0] R))),[.t 2,.t 3,
 .t 4]⟩
theorem i46:iF 46 g46:=jF Tryz.func46
def g47:GFun:=⟨⟨15,[]⟩,(s [b 6 false] (s [m 7 0,m 8 1,o 9 .geq 7 8,m 10 9,M 11 10 0,M 12 10 2,y 13 10 (.bin .leq (.t 11) (.t 12)),A 14 10 13,m 6 14] R)),[.t 6]⟩
theorem i47:iF 47 g47:=jF Tryz.func47
def g48:GFun:=⟨⟨22,[2,4,7]⟩,(s [a 2 2 0,u 4 2,b 5 false] (S (s [f 8 0 2,l 9 8,n 10 9,k 11 0] (B 0 (s [o 12 .lss 11 10] (C 12 0 (S (.block 1 (s [i 13 2 9 11,h 14 2 13,u 7 2,t 7 2 14] (s [f 15 0 7,l 16 15,m 17 1,o 18 .eql 16 17] (D 18
 (s [h 19 2 7,t 4 2 19,b 5 true] R) F)))) (.reg [q 20 .add 11 1,m 11 20])))))) (s [x 21 (.build [(.val (.string (ByteArray.mk #[]))),(.val (.slice none 0 0))] []),t 4 2 21,b 5 false] R))),[(.c 4 2 true),.t 5]⟩
theorem i48:iF 48 g48:=jF Tryz.func48
def g49:GFun:=⟨⟨22,[2,4,7]⟩,(s [a 2 2 0,u 4 4,b 5 false] (S (s [f 8 1 2,l 9 8,n 10 9,k 11 0] (B 0 (s [o 12 .lss 11 10] (C 12 0 (S (.block 1 (s [i 13 4 9 11,h 14 4 13,u 7 4,t 7 4 14] (s [f 15 0 7,l 16 15,m 17 1,o 18 .eql 16 17] (D 18
 (s [h 19 4 7,t 4 4 19,b 5 true] R) F)))) (.reg [q 20 .add 11 1,m 11 20])))))) (s [x 21 (.build [(.val (.string (ByteArray.mk #[]))),(.val (.int .i64 0)),(.val (.int .i64 0)),(.val (.bool false))] []),t 4 4 21,b 5 false] R))),
 [(.c 4 4 true),.t 5]⟩
theorem i49:iF 49 g49:=jF Tryz.func49
def g50:GFun:=⟨⟨25,[2,6]⟩,(s [a 2 2 0,k 4 0] (S (s [f 7 0 2,l 8 7,n 9 8,k 10 0] (B 0 (s [o 11 .lss 10 9] (C 11 0 (S (.block 1 (s [m 12 10,i 13 2 8 10,h 14 2 13,u 6 2,m 5 12,t 6 2 14] (s [f 15 0 6,l 16 15,m 17 1,o 18 .eql 16 17] (D 18
 (s [h 19 2 2,c 20 39 [.t 19],m 21 5,i 22 1 20 21,l 23 22,m 4 23] R) F)))) (.reg [q 24 .add 10 1,m 10 24])))))) (s [k 4 0] R))),[.t 4]⟩
theorem i50:iF 50 g50:=jF Tryz.func50
def g51:GFun:=⟨⟨12,[1]⟩,(s [a 1 2 0,b 2 false] (s [h 6 2 1,c 7 8 [.t 6],m 5 7,v 8 5 0,v 9 5 1,m 3 8,m 4 9] (s [m 10 3,q 11 .eql 10 0,m 2 11] R))),[.t 2]⟩
theorem i51:iF 51 g51:=jF Tryz.func51
def g52:GFun:=⟨⟨6,[1]⟩,(s [a 1 2 0,b 2 false] (s [f 3 1 1,l 4 3,x 5 (.call false 94 [.t 4,(.k (.clo 95 []))]),m 2 5] R)),[.t 2]⟩
theorem i52:iF 52 g52:=jF Tryz.func52
def g53:GFun:=⟨⟨9,[2,3]⟩,(s [a 2 2 0,a 3 1 1,b 4 false] (s [f 5 0 2,l 6 5,x 7 (.mkfn 100 [.t 3]),c 8 99 [.t 6,.t 7],m 4 8] R)),[.t 4]⟩
theorem i53:iF 53 g53:=jF Tryz.func53
def g54:GFun:=⟨⟨6,[1]⟩,(s [a 1 4 0,b 2 false] (s [f 3 2 1,l 4 3,q 5 .eql 4 3,m 2 5] R)),[.t 2]⟩
theorem i54:iF 54 g54:=jF Tryz.func54
def g55:GFun:=⟨⟨5,[1]⟩,(s [a 1 4 0,b 2 false] (s [f 3 3 1,l 4 3,m 2 4] R)),[.t 2]⟩
theorem i55:iF 55 g55:=jF Tryz.func55
def g56:GFun:=⟨⟨18,[1]⟩,(s [a 1 6 0,b 2 false] (S (s [k 3 0] (B 0 (S (s [m 4 3,f 5 4 1,l 6 5,n 7 6,o 8 .lss 4 7] (D 8 F (.exit 0))) (S (.block 1 (s [f 11 4 1,l 12 11,m 13 3,i 14 9 12 13,e 15 2 7 14,h 16 7 15,c 17 18 [.t 16]] (D 17
 (s [b 2 true] R) F))) (.reg [m 9 3,q 10 .add 9 1,m 3 10]))))) (s [b 2 false] R))),[.t 2]⟩
theorem i56:iF 56 g56:=jF Tryz.func56
def g57:GFun:=⟨⟨12,[1]⟩,(s [a 1 2 0,b 2 false] (s [h 6 2 1,c 7 9 [.t 6],m 5 7,v 8 5 0,v 9 5 1,m 3 8,m 4 9] (s [m 10 3,q 11 .eql 10 0,m 2 11] R))),[.t 2]⟩
theorem i57:iF 57 g57:=jF Tryz.func57
def g69:GFun:=⟨⟨24,[]⟩,(s [k 4 0] (S (s [m 5 1] (.block 0 (s [q 7 .eql 5 1,m 6 7] (D 6 (s [m 8 0,c 9 116 [.t 8],m 4 9] R) (s [q 11 .eql 5 2,m 10 11] (D 10 (s [m 12 0,q 13 .and 12 4095,m 4 13] R) (s [q 15 .eql 5 3,m 14 15] (D 14
 (s [m 16 0,q 17 .neq 16 0,c 18 117 [.t 17],m 4 18] R) (s [q 20 .eql 5 4,m 19 20] (D 19 (s [m 21 0,c 22 44 [.t 21,K 0,K 999]] (D 22 (s [m 23 0,m 4 23] R) F)) F)))))))))) (s [k 4 0] R))),[.t 4]⟩
theorem i69:iF 69 g69:=jF Tryz.func69
def g74:GFun:=⟨⟨154,[4,1000012,3000020]⟩,(s [u 4 2] (s [x 16 (.build [(.val (.slice none 0 0)),(.val (.slice none 0 0))] []),x 5 (.alloc 2 (.agg [(.val (.slice none 0 0)),(.val (.slice none 0 0))])),(.mk none none (.store 2 (.t 5)
 (.t 16)))] (s [m 17 0,c 18 75 [.t 17,K 3],x 19 (.bin .add (K 1) (.t 18)),m 6 19] (s [x 20 (.bslro 1 [] 3 false [(0,(.k (.val (.string (ByteArray.mk #[115]))))),(1,(.k (.val (.string (ByteArray.mk #[116]))))),(2,(.k (.val (.string
 (ByteArray.mk #[117])))))]),m 21 6,x 22 (.slc 1 (.t 20) none (some (.t 21))),m 7 22] (S (s [k 8 0] (B 0 (S (s [m 23 8,m 24 6,o 25 .lss 23 24] (D 25 F (.exit 0))) (S (.block 1 (.reg [f 28 0 5,m 30 0,m 31 7,m 32 8,i 33 1 31 32,m 35 8,
 q 36 .eql 35 0,m 37 1,l 29 28,l 34 33,x 38 (.calla 120 [.t 30,.t 34,.t 36,.t 37]),x 39 (.bslice 2 [] 1 true [(0,(.t 38))]),Q 40 2 40 29 39,f 41 0 5,(.mk none none (.store 1 (.t 41) (.t 40)))])) (.reg [m 26 8,q 27 .add 26 1,m 8 27])))))
 (S (s [k 9 0] (B 2 (S (s [m 42 9,m 43 6,o 44 .lss 42 43] (D 44 F (.exit 2))) (S (.block 3 (s [f 47 1 5,m 49 7,m 50 9,i 51 1 49 50,m 54 7,m 55 9,i 56 1 54 55,m 58 0,l 48 47,l 52 51,x 53 (.bin .add (.k (.val (.string (ByteArray.mk #[108,101,
 97,102])))) (.t 52)),l 57 56,x 59 (.calla 36 [.t 58,K 3]),w 60 59,x 61 (.build [(.val (.string (ByteArray.mk #[]))),(.val (.string (ByteArray.mk #[]))),(.val (.slice none 0 0)),(.val (.bool false)),(.val (.slice none 0 0)),(.val
 (.slice none 0 0))] [(0,(1,(.t 53))),(1,(1,(.t 57))),(3,(1,(.t 60)))]),x 62 (.bslice 6 [] 1 true [(0,(.t 61))]),Q 63 6 112 48 62,f 64 1 5,(.mk none none (.store 1 (.t 64) (.t 63)))] (s [m 65 0,c 66 75 [.t 65,K 2],x 67 (.bin .add (K 1)
 (.t 66)),m 10 67] (s [k 11 0] (B 4 (S (s [m 68 11,m 69 10,o 70 .lss 68 69] (D 70 F (.exit 4))) (S (.block 5 (s [m 73 7,m 74 9,i 75 1 73 74,m 78 11,m 81 7,m 82 9,i 83 1 81 82,m 85 0,u 12 6,l 76 75,x 77 (.bin .add (.k (.val (.string
 (ByteArray.mk #[112])))) (.t 76)),G 79 121 [.t 78],o 80 .add 77 79,l 84 83,x 86 (.calla 36 [.t 85,K 4]),x 87 (.build [(.val (.string (ByteArray.mk #[]))),(.val (.string (ByteArray.mk #[]))),(.val (.slice none 0 0)),(.val (.bool false)),
 (.val (.slice none 0 0)),(.val (.slice none 0 0))] [(0,(1,(.t 80))),(1,(1,(.t 84))),(3,(1,(.t 86)))]),x 12 (.strb 6 12 (.t 87))] (s [m 88 0,c 89 75 [.t 88,K 3],x 90 (.bin .add (K 1) (.t 89)),m 13 90] (S (s [k 14 0] (B 6 (S (s [m 91 14,
 m 92 13,o 93 .lss 91 92] (D 93 F (.exit 6))) (S (.block 7 (.reg [f 96 2 12,m 98 0,m 99 7,l 97 96,x 100 (.calla 78 [.t 98,.t 99]),x 101 (.bslice 1 [] 1 false [(0,(.t 100))]),Q 102 1 16 97 101,f 103 2 12,(.mk none none (.store 1 (.t 103)
 (.t 102)))])) (.reg [m 94 14,q 95 .add 94 1,m 14 95]))))) (.reg [f 104 1 5,l 105 104,h 106 6 12,x 107 (.bslice 6 [] 1 true [(0,(.t 106))]),Q 108 6 112 105 107,f 109 1 5,(.mk none none (.store 1 (.t 109) (.t 108)))]))))) (.reg [m 71 11,
 q 72 .add 71 1,m 11 72])))))))) (.reg [m 45 9,q 46 .add 45 1,m 9 46]))))) (S (s [f 110 1 5,l 111 110,n 112 111,q 113 .gtr 112 8] (D 113 (.reg [f 114 1 5,l 115 114,x 116 (.slc 6 (.t 115) none (some (K 8))),f 117 1 5,(.mk none none
 (.store 1 (.t 117) (.t 116)))]) F)) (S (s [k 15 0] (B 8 (S (s [m 118 15,f 119 1 5,l 120 119,n 121 120,o 122 .lss 118 121] (D 122 F (.exit 8))) (S (.block 9 (s [f 125 1 5,m 127 15,m 128 0,f 130 1 5,m 132 15,m 135 1,w 136 135,l 126 125,
 h 129 2 5,l 131 130,i 133 6 131 132,h 134 6 133,x 137 (.calla 122 [.t 128,.t 129,.t 134,.t 136]),i 138 6 126 127,(.mk none none (.store 6 (.t 138) (.t 137)))] (s [m 139 1,w 140 139] (D 140 (.reg [f 141 1 5,m 143 15,m 144 0,f 146 1 5,
 m 148 15,l 142 141,h 145 2 5,l 147 146,i 149 6 147 148,h 150 6 149,x 151 (.calla 123 [.t 144,.t 145,.t 150]),i 152 6 142 143,(.mk none none (.store 6 (.t 152) (.t 151)))]) F)))) (.reg [m 123 15,q 124 .add 123 1,m 15 124])))))
 (s [h 153 2 5,t 4 2 153] R))))))))),[(.c 4 2 true)]⟩
theorem i74:iF 74 g74:=jF Tryz.func74 [(7,2097168),(11,33554448),(16,134217744),(21,528),(28,33554448),(30,2097168)]
def g75:GFun:=⟨⟨37,[]⟩,(s [k 4 0] (S (s [m 9 1,q 10 .leq 9 0] (D 10 (s [k 4 0] R) F)) (S (s [m 11 1,q 12 .leq 11 256] (D 12 (s [m 13 0,c 14 124 [.t 13],m 15 1,o 16 .rem 14 15,m 4 16] R) F)) (s [m 17 0,c 18 124 [.t 17],m 5 18]
 (s [m 19 0,c 20 124 [.t 19],m 6 20] (s [m 21 0,c 22 124 [.t 21],m 7 22] (s [m 23 0,c 24 124 [.t 23],m 8 24] (s [m 25 5,q 26 .mul 25 16777216,m 27 6,q 28 .mul 27 65536,o 29 .add 26 28,m 30 7,q 31 .mul 30 256,o 32 .add 29 31,m 33 8,
 o 34 .add 32 33,m 35 1,o 36 .rem 34 35,m 4 36] R)))))))),[.t 4]⟩
theorem i75:iF 75 g75:=jF Tryz.func75
def g76:GFun:=⟨⟨51,[2,3000011]⟩,(s [u 2 6] (s [m 4 0,c 5 125 [.t 4],x 3 (.alloc 6 (.agg [(.val (.string (ByteArray.mk #[]))),(.val (.string (ByteArray.mk #[]))),(.val (.slice none 0 0)),(.val (.bool false)),(.val (.slice none 0 0)),
 (.val (.slice none 0 0))])),(.mk none none (.store 6 (.t 3) (.t 5)))] (S (s [m 6 0,c 7 75 [.t 6,K 12]] (.block 0 (s [q 9 .eql 7 0,m 8 9] (D 8 (.reg [m 10 0,x 11 (.bslro 1 [] 3 false [(0,(.k (.val (.string (ByteArray.mk #[105,102]))))),(1,
 (.k (.val (.string (ByteArray.mk #[]))))),(2,(.k (.val (.string (ByteArray.mk #[111,102])))))]),c 12 78 [.t 10,.t 11],f 13 0 3,(.mk none none (.store 1 (.t 13) (.t 12)))]) (s [q 15 .eql 7 1,m 14 15] (D 14 (.reg [f 16 2 3,l 17 16,x 18
 (.bslice 1 [] 2 false [(0,(.k (.val (.string (ByteArray.mk #[115]))))),(1,(.k (.val (.string (ByteArray.mk #[115])))))]),Q 19 1 16 17 18,f 20 2 3,(.mk none none (.store 1 (.t 20) (.t 19)))]) (s [q 22 .eql 7 2,m 21 22] (D 21
 (.reg [f 23 4 3,m 25 0,m 29 0,l 24 23,x 26 (.calla 75 [.t 25,K 5]),q 27 .sub 26 1,x 28 (.build [(.val (.int .i64 0)),(.val (.string (ByteArray.mk #[])))] [(0,(1,(.t 27))),(1,(1,(.k (.val (.string (ByteArray.mk #[97]))))))]),x 30
 (.calla 126 [.t 29]),x 31 (.build [(.val (.int .i64 0)),(.val (.string (ByteArray.mk #[]))),(.val (.int .i64 0)),(.val (.int .i64 0)),(.val (.int .i64 0)),(.val (.int .i64 0)),(.val (.string (ByteArray.mk #[]))),(.val (.string
 (ByteArray.mk #[]))),(.val (.slice none 0 0))] [(0,(2,(.t 28))),(2,(7,(.t 30)))]),x 32 (.bslice 9 [] 1 true [(0,(.t 31))]),Q 33 9 112 24 32,f 34 4 3,(.mk none none (.store 1 (.t 34) (.t 33)))]) (s [q 36 .eql 7 3,m 35 36] (D 35
 (.reg [f 37 1 3,(.mk none none (.store 1 (.t 37) (.k (.val (.string (ByteArray.mk #[109,97,120]))))))]) (s [q 39 .eql 7 4,m 38 39] (D 38 (.reg [f 40 2 3,m 42 0,f 43 2 3,l 41 40,l 44 43,n 45 44,q 46 .add 45 1,x 47 (.calla 75 [.t 42,.t 46]),
 x 48 (.slc 1 (.t 41) none (some (.t 47))),f 49 2 3,(.mk none none (.store 1 (.t 49) (.t 48)))]) F)))))))))))) (s [h 50 6 3,t 2 6 50] R)))),[(.c 2 6 true)]⟩
theorem i76:iF 76 g76:=jF Tryz.func76 [(8,32912),(12,32784)]
def g77:GFun:=⟨⟨61,[2,3000006,3000038,3000050]⟩,(s [u 2 2] (s [m 4 0,m 5 0,x 6 (.bslro 1 [] 4 false [(0,(.k (.val (.string (ByteArray.mk #[115]))))),(1,(.k (.val (.string (ByteArray.mk #[116]))))),(2,(.k (.val (.string
 (ByteArray.mk #[105,102]))))),(3,(.k (.val (.string (ByteArray.mk #[108,105,115,116,49])))))]),c 7 78 [.t 5,.t 6],c 8 120 [.t 4,.t 7,(.k (.val (.bool false))),(.k (.val (.bool false)))],x 3 (.alloc 2 (.agg [(.val (.string
 (ByteArray.mk #[]))),(.val (.slice none 0 0))])),(.mk none none (.store 2 (.t 3) (.t 8)))] (S (s [m 9 0,c 10 75 [.t 9,K 10]] (.block 0 (s [q 12 .eql 10 0,m 11 12] (D 11 (.reg [f 13 1 3,l 14 13,x 15 (.iaddr 4 (.t 14) (K 0)),f 16 3 15,
 (.mk none none (.store 1 (.t 16) (.k (.val (.bool true)))))]) (s [q 18 .eql 10 1,m 17 18] (D 17 (.reg [f 19 1 3,m 21 0,l 20 19,x 22 (.calla 75 [.t 21,K 5]),x 23 (.iaddr 4 (.t 20) (K 0)),f 24 2 23,(.mk none none (.store 1 (.t 24)
 (.t 22)))]) (s [q 26 .eql 10 2,m 25 26] (D 25 (.reg [f 27 1 3,m 29 0,l 28 27,x 30 (.calla 75 [.t 29,K 6]),x 31 (.iaddr 4 (.t 28) (K 0)),f 32 1 31,(.mk none none (.store 1 (.t 32) (.t 30)))]) (s [q 34 .eql 10 3,m 33 34] (D 33
 (.reg [f 35 1 3,m 37 0,x 38 (.bslro 1 [] 3 false [(0,(.k (.val (.string (ByteArray.mk #[98]))))),(1,(.k (.val (.string (ByteArray.mk #[111,102]))))),(2,(.k (.val (.string (ByteArray.mk #[])))))]),l 36 35,x 39 (.calla 78 [.t 37,.t 38]),
 x 40 (.iaddr 4 (.t 36) (K 0)),f 41 0 40,(.mk none none (.store 1 (.t 41) (.t 39)))]) (s [q 43 .eql 10 4,m 42 43] (D 42 (B 1 (S (s [f 44 1 3,l 45 44,n 46 45,q 47 .lss 46 5] (D 47 F (.exit 1))) (.block 2 (.reg [f 48 1 3,x 50
 (.bslro 1 [] 5 false [(0,(.k (.val (.string (ByteArray.mk #[101]))))),(1,(.k (.val (.string (ByteArray.mk #[102]))))),(2,(.k (.val (.string (ByteArray.mk #[103]))))),(3,(.k (.val (.string (ByteArray.mk #[104]))))),(4,(.k (.val (.string
 (ByteArray.mk #[105])))))]),f 51 1 3,l 49 48,l 52 51,n 53 52,i 54 1 50 53,l 55 54,x 56 (.build [(.val (.string (ByteArray.mk #[]))),(.val (.int .i64 0)),(.val (.int .i64 0)),(.val (.bool false))] [(0,(1,(.t 55))),(1,(1,(K 1))),(2,(1,
 (K 2)))]),x 57 (.bslice 4 [] 1 true [(0,(.t 56))]),Q 58 4 40 49 57,f 59 1 3,(.mk none none (.store 1 (.t 59) (.t 58)))])))) F)))))))))))) (s [h 60 2 3,t 2 2 60] R)))),[(.c 2 2 true)]⟩
theorem i77:iF 77 g77:=jF Tryz.func77 [(6,144),(8,144),(10,528)]
def g78:GFun:=⟨⟨12,[]⟩,(s [x 4 (.mov (.k (.val (.string (ByteArray.mk #[])))))] (s [m 5 1,m 6 0,m 7 1,n 8 7,c 9 75 [.t 6,.t 8],i 10 1 5 9,l 11 10,m 4 11] R)),[.t 4]⟩
theorem i78:iF 78 g78:=jF Tryz.func78
def g79:GFun:=⟨⟨14,[2,3]⟩,(s [u 2 7] (s [m 4 0,m 5 0,c 6 75 [.t 5,K 5],x 7 (.bin .add (K 1) (.t 6)),c 8 127 [.t 4,.t 7],u 3 7,t 3 7 8] (S (s [h 9 7 3,c 10 128 [.t 9],w 11 10] (D 11 (s [x 12 (.build [(.val (.int .i64 0)),(.val
 (.int .i64 0)),(.val (.int .i64 0)),(.val (.int .i64 0)),(.val (.string (ByteArray.mk #[]))),(.val (.string (ByteArray.mk #[]))),(.val (.slice none 0 0))] [(0,(1,(K 2)))]),t 2 7 12] R) F)) (s [h 13 7 3,t 2 7 13] R)))),[(.c 2 7 true)]⟩
theorem i79:iF 79 g79:=jF Tryz.func79
def g80:GFun:=⟨⟨49,[1,4,6]⟩,(s [a 1 2 0,k 2 0] (S (s [f 7 0 1,l 8 7,n 9 8,k 10 0] (B 0 (s [o 11 .lss 10 9] (C 11 0 (S (.block 1 (s [m 12 10,i 13 2 8 10,h 14 2 13,u 4 2,m 3 12,t 4 2 14] (s [h 15 2 4,c 16 129 [.t 15],w 17 16,m 18 17,
 z 19 18 (p 1 0 1),z 20 18 (r 1 19),N 21 18 3,z 22 18 (.slc 2 (.t 20) none (some (.t 21))),z 23 18 (.mkfn 130 [.t 4]),z 24 18 (.call false 99 [.t 22,.t 23]),O 25 18 24] (D 25 (s [m 26 3,m 2 26] R) F)))) (.reg [q 27 .add 10 1,
 m 10 27])))))) (S (s [f 28 1 1,l 29 28,n 30 29,k 31 0] (B 2 (s [o 32 .lss 31 30] (C 32 2 (S (.block 3 (s [m 33 31,i 34 6 29 31,h 35 6 34,u 6 6,m 5 33,t 6 6 35] (s [h 36 6 6,c 37 131 [.t 36],w 38 37,m 39 38,z 40 39 (p 1 1 1),z 41 39
 (r 1 40),N 42 39 5,z 43 39 (.slc 6 (.t 41) none (some (.t 42))),z 44 39 (.mkfn 132 [.t 6]),z 45 39 (.call false 94 [.t 43,.t 44]),O 46 39 45] (D 46 (s [m 47 5,m 2 47] R) F)))) (.reg [q 48 .add 31 1,m 31 48])))))) (s [k 2 (-1)] R)))),
 [.t 2]⟩
theorem i80:iF 80 g80:=jF Tryz.func80
def g81:GFun:=⟨⟨9,[]⟩,(s [b 4 false] (s [m 5 0,m 6 1,c 7 133 [.t 5,.t 6],q 8 .geq 7 0,m 4 8] R)),[.t 4]⟩
theorem i81:iF 81 g81:=jF Tryz.func81
def g82:GFun:=⟨⟨6,[1]⟩,(s [a 1 4 0,b 2 false] (s [f 3 2 1,l 4 3,q 5 .eql 4 1,m 2 5] R)),[.t 2]⟩
theorem i82:iF 82 g82:=jF Tryz.func82
def g83:GFun:=⟨⟨26,[2,3,6]⟩,(s [a 2 2 0,a 3 6 1,b 4 false] (S (s [f 8 2 3,l 9 8,n 10 9,q 11 .add 10 1,k 12 0] (B 0 (s [o 13 .lss 12 11] (C 13 0 (S (.block 1 (s [m 14 12,m 5 14] (s [m 18 5,u 6 2,h 16 2 2,h 17 6 3,G 19 93 [.t 17,.t 18],
 G 20 48 [.t 16,.t 19],m 15 20,v 21 15 0,v 22 15 1,t 6 2 21,m 7 22] (s [m 23 7,w 24 23] (D 24 (s [b 4 true] R) F))))) (.reg [q 25 .add 12 1,m 12 25])))))) (s [b 4 false] R))),[.t 4]⟩
theorem i83:iF 83 g83:=jF Tryz.func83
def g84:GFun:=⟨⟨10,[2,3]⟩,(s [a 2 2 0,a 3 6 1,b 4 false] (s [h 5 2 2,h 6 6 3,c 7 135 [.t 5,.t 6],x 8 (.mkfn 136 [.t 3]),c 9 134 [.t 7,.t 8],m 4 9] R)),[.t 4]⟩
theorem i84:iF 84 g84:=jF Tryz.func84
def g85:GFun:=⟨⟨33,[2,3,7]⟩,(s [a 2 2 0,a 3 6 1,b 4 false] (s [h 8 2 2,h 9 6 3,c 10 135 [.t 8,.t 9],m 5 10] (S (s [f 11 4 3,l 12 11,n 13 12,k 14 0] (B 0 (s [o 15 .lss 14 13] (C 15 0 (S (.block 1 (s [m 16 14,i 17 9 12 14,h 18 9 17,u 7 9,
 m 6 16,t 7 9 18] (s [m 19 5,e 20 0 2 7,h 21 2 20,c 22 139 [.t 19,.t 21],w 23 22,m 24 23,z 25 24 (p 1 4 3),z 26 24 (r 1 25),N 27 24 6,z 28 24 (.slc 9 (.t 26) none (some (.t 27))),z 29 24 (.mkfn 140 [.t 7]),z 30 24 (.call false 137 [.t 28,
 .t 29]),O 31 24 30] (D 31 (s [b 4 true] R) F)))) (.reg [q 32 .add 14 1,m 14 32])))))) (s [b 4 false] R)))),[.t 4]⟩
theorem i85:iF 85 g85:=jF Tryz.func85
def g86:GFun:=⟨⟨9,[2,3]⟩,(s [a 2 2 0,a 3 6 1,b 4 false] (s [h 5 6 3,c 6 97 [.t 5],x 7 (.mkfn 141 [.t 2,.t 3]),c 8 96 [.t 6,.t 7],m 4 8] R)),[.t 4]⟩
theorem i86:iF 86 g86:=jF Tryz.func86
def g87:GFun:=⟨⟨24,[6]⟩,(s [k 4 0] (S (s [f 7 0 1,l 8 7,n 9 8,k 10 0] (B 0 (s [o 11 .lss 10 9] (C 11 0 (S (.block 1 (s [m 12 10,i 13 2 8 10,h 14 2 13,u 6 2,m 5 12,t 6 2 14] (s [f 15 0 6,l 16 15,m 17 0,o 18 .eql 16 17] (D 18 (s [l 19 2,
 m 20 5,i 21 1 19 20,l 22 21,m 4 22] R) F)))) (.reg [q 23 .add 10 1,m 10 23])))))) (s [k 4 0] R))),[.t 4]⟩
theorem i87:iF 87 g87:=jF Tryz.func87
def g88:GFun:=⟨⟨76,[1]⟩,(s [a 1 2 0,k 2 0] (s [E 6 1 false,m 3 6] (S (s [k 4 0] (B 0 (S (s [m 7 4,f 8 0 1,l 9 8,n 10 9,o 11 .lss 7 10] (D 11 F (.exit 0))) (S (.block 1 (S (s [f 14 0 1,l 15 14,m 16 4,i 17 2 15 16,h 18 2 17,
 c 19 145 [.t 18],w 20 19,m 21 20,N 22 21 3,z 23 21 (p 1 0 1),z 24 21 (r 1 23),N 25 21 4,z 26 21 (.iaddr 2 (.t 24) (.t 25)),z 27 21 (p 1 0 26),z 28 21 (r 1 27),z 29 21 (.call false 146 [.t 22,.t 28]),O 30 21 29] (D 30 (s [m 31 4,
 m 2 31] R) F)) (.reg [m 32 3,f 33 0 1,l 34 33,m 35 4,i 36 2 34 35,f 37 0 36,l 38 37,x 39 (.bslice 1 [] 1 false [(0,(.t 38))]),Q 40 1 16 32 39,m 3 40]))) (.reg [m 12 4,q 13 .add 12 1,m 4 13]))))) (s [E 41 1 false,m 3 41] (S (s [k 5 0]
 (B 2 (S (s [m 42 5,f 43 1 1,l 44 43,n 45 44,o 46 .lss 42 45] (D 46 F (.exit 2))) (S (.block 3 (S (s [f 49 1 1,l 50 49,m 51 5,i 52 6 50 51,h 53 6 52,c 54 147 [.t 53],w 55 54,m 56 55,N 57 56 3,z 58 56 (p 1 1 1),z 59 56 (r 1 58),N 60 56 5,
 z 61 56 (.iaddr 6 (.t 59) (.t 60)),z 62 56 (p 1 0 61),z 63 56 (r 1 62),z 64 56 (.call false 146 [.t 57,.t 63]),O 65 56 64] (D 65 (s [m 66 5,m 2 66] R) F)) (.reg [m 67 3,f 68 1 1,l 69 68,m 70 5,i 71 6 69 70,f 72 0 71,l 73 72,x 74
 (.bslice 1 [] 1 false [(0,(.t 73))]),Q 75 1 16 67 74,m 3 75]))) (.reg [m 47 5,q 48 .add 47 1,m 5 48]))))) (s [k 2 (-1)] R)))))),[.t 2]⟩
theorem i88:iF 88 g88:=jF Tryz.func88
def g89:GFun:=⟨⟨27,[3,4]⟩,(s [a 3 2 0,a 4 6 1,b 6 false] (S (s [m 7 2] (.block 0 (s [q 9 .eql 7 3,m 8 9] (D 8 (s [h 10 2 3,h 11 6 4,c 12 148 [.t 10,.t 11],w 13 12,m 6 13] R) (s [q 15 .eql 7 4,m 14 15] (D 14 (s [h 16 2 3,h 17 6 4,
 c 18 149 [.t 16,.t 17],m 6 18] R) (s [q 20 .eql 7 5,m 19 20] (D 19 (s [h 21 2 3,h 22 6 4,c 23 150 [.t 21,.t 22],m 6 23] R) F)))))))) (s [h 24 2 3,h 25 6 4,c 26 151 [.t 24,.t 25],m 6 26] R))),[.t 6]⟩
theorem i89:iF 89 g89:=jF Tryz.func89
def g90:GFun:=⟨⟨77,[3,4,5]⟩,(s [a 3 2 0,a 4 6 1,a 5 7 2,k 6 0] (S (s [f 7 0 5,l 8 7] (.block 0 (s [q 10 .eql 8 1,m 9 10] (D 9 (s [f 11 3 5,l 12 11,m 6 12] R) (s [q 14 .eql 8 2,m 13 14] (D 13 (s [f 15 3 4,l 16 15] (D 16
 (s [k 6 1] R) F)) (s [q 18 .eql 8 3,m 17 18] (D 17 (s [f 19 2 5,l 20 19,f 21 2 4,l 22 21,n 23 22,c 24 44 [.t 20,K 0,.t 23]] (D 24 (s [f 27 2 5,f 30 5 5,h 25 2 3,h 26 6 4,l 28 27,G 29 11 [.t 26,.t 28],l 31 30,G 32 91 [.t 25,.t 29,.t 31],
 m 6 32] R) F)) (s [q 34 .eql 8 4,m 33 34] (D 33 (s [h 35 2 3,h 36 6 4,h 37 7 5,c 38 152 [.t 35,.t 36,.t 37],m 6 38] R) (s [q 40 .eql 8 5,m 39 40] (D 39 (s [h 41 2 3,h 42 6 4,h 43 7 5,c 44 153 [.t 41,.t 42,.t 43],m 6 44] R)
 (s [q 46 .eql 8 6,m 45 46] (D 45 (s [f 47 2 5,l 48 47,f 49 2 4,l 50 49,n 51 50,c 52 44 [.t 48,K 0,.t 51]] (D 52 (s [k 6 4] R) F)) (s [q 54 .eql 8 7,m 53 54] (D 53 (s [k 6 4] R) (s [q 56 .eql 8 8,m 55 56] (D 55 (s [f 57 6 5,l 58 57,n 59 58,
 q 60 .eql 59 1,m 61 60,y 64 61 (p 1 6 5),y 62 61 (j 2 3),y 63 61 (j 6 4),y 65 61 (r 1 64),y 66 61 (.iaddr 7 (.t 65) (K 0)),y 67 61 (j 7 66),y 68 61 (.call true 90 [.t 62,.t 63,.t 67]),I 69 61 68 4,A 70 61 69] (D 70 (s [h 71 2 3,f 72 4 5,
 l 73 72,f 74 5 5,l 75 74,c 76 91 [.t 71,.t 73,.t 75],m 6 76] R) F)) F)))))))))))))))))) (s [k 6 0] R))),[.t 6]⟩
theorem i90:iF 90 g90:=jF Tryz.func90
def g91:GFun:=⟨⟨27,[3,7,9]⟩,(s [a 3 2 0,k 6 0] (s [h 12 2 3,m 13 1,c 14 10 [.t 12,.t 13],m 11 14,v 15 11 0,v 16 11 1,u 7 2,t 7 2 15,m 8 16] (s [h 18 2 7,m 19 2,c 20 12 [.t 18,.t 19],m 17 20,v 21 17 0,v 22 17 1,u 9 4,t 9 4 21,m 10 22]
 (S (s [m 23 10,w 24 23] (D 24 (s [k 6 0] R) F)) (s [f 25 1 9,l 26 25,m 6 26] R))))),[.t 6]⟩
theorem i91:iF 91 g91:=jF Tryz.func91
def g92:GFun:=⟨⟨16,[2]⟩,(s [a 2 2 0,k 4 0] (s [h 6 2 2,m 7 1,c 8 154 [.t 6,.t 7],m 5 8] (S (s [m 9 5,q 10 .lss 9 0] (D 10 (s [k 4 0] R) F)) (s [h 11 2 2,c 12 155 [.t 11],m 13 5,i 14 1 12 13,l 15 14,m 4 15] R)))),[.t 4]⟩
theorem i92:iF 92 g92:=jF Tryz.func92
def g93:GFun:=⟨⟨22,[2]⟩,(s [a 2 6 0,x 4 (.mov (.k (.val (.string (ByteArray.mk #[])))))] (S (.block 0 (s [m 6 1,q 7 .eql 6 0,m 5 7] (D 5 (s [f 8 1 2,l 9 8,m 4 9] R) (s [m 11 1,f 12 2 2,l 13 12,n 14 13,c 15 47 [.t 11,K 1,.t 14],
 m 10 15] (D 10 (s [f 16 2 2,l 17 16,m 18 1,q 19 .sub 18 1,i 20 1 17 19,l 21 20,m 4 21] R) F))))) (s [x 4 (.mov (.k (.val (.string (ByteArray.mk #[])))))] R))),[.t 4]⟩
theorem i93:iF 93 g93:=jF Tryz.func93
def g94:GFun:=⟨⟨9,[]⟩,(s [b 4 false] (s [m 5 0,m 6 1,c 7 156 [.t 5,.t 6],q 8 .geq 7 0,m 4 8] R)),[.t 4]⟩
theorem i94:iF 94 g94:=jF Tryz.func94
def g95:GFun:=⟨⟨6,[1]⟩,(s [a 1 6 0,b 2 false] (s [h 3 6 1,c 4 97 [.t 3],x 5 (.call false 96 [.t 4,(.k (.clo 98 []))]),m 2 5] R)),[.t 2]⟩
theorem i95:iF 95 g95:=jF Tryz.func95
def g96:GFun:=⟨⟨9,[]⟩,(s [b 4 false] (s [m 5 0,m 6 1,c 7 157 [.t 5,.t 6],q 8 .geq 7 0,m 4 8] R)),[.t 4]⟩
theorem i96:iF 96 g96:=jF Tryz.func96
def g97:GFun:=⟨⟨38,[1,5,7]⟩,(s [a 1 6 0,Z 2] (s [E 8 7 true,m 3 8] (S (s [f 9 4 1,l 10 9,n 11 10,k 12 0] (B 0 (s [o 13 .lss 12 11] (C 13 0 (S (.block 1 (s [i 14 9 10 12,h 15 9 14,u 5 9,t 5 9 15] (.reg [m 16 3,e 17 2 7 5,h 18 7 17,x 19
 (.bslice 7 [] 1 true [(0,(.t 18))]),Q 20 7 88 16 19,m 3 20]))) (.reg [q 21 .add 12 1,m 12 21])))))) (S (s [f 22 5 1,l 23 22,n 24 23,k 25 0] (B 2 (s [o 26 .lss 25 24] (C 26 2 (S (.block 3 (s [i 27 16 23 25,h 28 16 27,u 7 16,t 7 16 28]
 (.reg [m 29 3,e 30 2 7 7,h 31 7 30,e 32 9 7 7,h 33 7 32,x 34 (.bslice 7 [] 2 true [(0,(.t 31)),(1,(.t 33))]),Q 35 7 88 29 34,m 3 35]))) (.reg [q 36 .add 25 1,m 25 36])))))) (s [m 37 3,m 2 37] R))))),[.t 2]⟩
theorem i97:iF 97 g97:=jF Tryz.func97
def g98:GFun:=⟨⟨6,[1]⟩,(s [a 1 7 0,b 2 false] (s [h 3 7 1,x 4 (.call false 158 [.t 3,(.k (.clo 159 []))]),w 5 4,m 2 5] R)),[.t 2]⟩
theorem i98:iF 98 g98:=jF Tryz.func98
def g99:GFun:=⟨⟨9,[]⟩,(s [b 4 false] (s [m 5 0,m 6 1,c 7 160 [.t 5,.t 6],q 8 .geq 7 0,m 4 8] R)),[.t 4]⟩
theorem i99:iF 99 g99:=jF Tryz.func99
def g100:GFun:=⟨⟨8,[2]⟩,(s [a 2 2 0,b 3 false] (s [f 4 1 2,l 5 4,l 6 1,c 7 81 [.t 5,.t 6],m 3 7] R)),[.t 3]⟩
theorem i100:iF 100 g100:=jF Tryz.func100
def g115:GFun:=⟨⟨10,[]⟩,(s [k 4 0] (S (s [m 5 0,m 6 1,o 7 .gtr 5 6] (D 7 (s [m 8 0,m 4 8] R) F)) (s [m 9 1,m 4 9] R))),[.t 4]⟩
theorem i115:iF 115 g115:=jF Tryz.func115
def g116:GFun:=⟨⟨6,[]⟩,(s [k 2 0] (s [m 3 0,c 4 185 [K 1000000,.t 3],c 5 115 [K (-1000000),.t 4],m 2 5] R)),[.t 2]⟩
theorem i116:iF 116 g116:=jF Tryz.func116
def g117:GFun:=⟨⟨4,[]⟩,(s [k 2 0] (S (s [m 3 0] (D 3 (s [k 2 1] R) F)) (s [k 2 0] R))),[.t 2]⟩
theorem i117:iF 117 g117:=jF Tryz.func117
def g120:GFun:=⟨⟨65,[8,1000012,3000023,3000028,3000031,3000036]⟩,(s [u 8 2] (s [m 13 1,x 14 (.build [(.val (.string (ByteArray.mk #[]))),(.val (.slice none 0 0))] [(0,(1,(.t 13)))]),x 9 (.alloc 2 (.agg [(.val (.string
 (ByteArray.mk #[]))),(.val (.slice none 0 0))])),(.mk none none (.store 2 (.t 9) (.t 14)))] (s [m 15 0,c 16 75 [.t 15,K 4],x 17 (.bin .add (K 1) (.t 16)),m 10 17] (S (s [k 11 0] (B 0 (S (s [m 18 11,m 19 10,o 20 .lss 18 19] (D 20 F
 (.exit 0))) (S (.block 1 (s [x 23 (.bslro 1 [] 4 false [(0,(.k (.val (.string (ByteArray.mk #[97]))))),(1,(.k (.val (.string (ByteArray.mk #[98]))))),(2,(.k (.val (.string (ByteArray.mk #[99]))))),(3,(.k (.val (.string
 (ByteArray.mk #[100])))))]),m 24 11,i 25 1 23 24,m 27 0,x 28 (.bslro 1 [] 6 false [(0,(K 1)),(1,(K 1)),(2,(K 2)),(3,(K 2)),(4,(K 3)),(5,(K 4))]),m 30 0,x 31 (.bslro 1 [] 6 false [(0,(K 1)),(1,(K 2)),(2,(K 2)),(3,(K 1)),(4,(K 2)),(5,
 (K 3))]),u 12 4,l 26 25,x 29 (.calla 163 [.t 27,.t 28]),x 32 (.calla 163 [.t 30,.t 31]),x 33 (.build [(.val (.string (ByteArray.mk #[]))),(.val (.int .i64 0)),(.val (.int .i64 0)),(.val (.bool false))] [(0,(1,(.t 26))),(1,(1,(.t 29))),(2,
 (1,(.t 32)))]),x 12 (.strb 4 12 (.t 33))] (S (s [m 34 3] (D 34 (.reg [m 35 0,x 36 (.bslro 1 [] 4 false [(0,(K 1)),(1,(K 1)),(2,(K 2)),(3,(K 3))]),c 37 163 [.t 35,.t 36],f 38 1 12,(.mk none none (.store 1 (.t 38) (.t 37)))]) F)) (S
 (s [m 39 2,m 40 39,y 41 40 (p 1 2 12),y 42 40 (r 1 41),I 43 40 42 1,A 44 40 43,m 45 44,N 46 45 3,N 47 45 46,y 48 47 (p 1 2 12),y 49 47 (r 1 48),I 50 47 49 3,z 51 45 (.pick (.t 47) (.t 50) (.k (.val (.bool false)))),O 52 45 51] (D 52
 (.reg [f 53 2 12,(.mk none none (.store 1 (.t 53) (K 2)))]) F)) (S (s [f 54 2 12,l 55 54,q 56 .eql 55 3] (D 56 (.reg [f 57 1 12,(.mk none none (.store 1 (.t 57) (K 2)))]) F)) (.reg [f 58 1 9,l 59 58,h 60 4 12,x 61 (.bslice 4 [] 1 true [(0,
 (.t 60))]),Q 62 4 40 59 61,f 63 1 9,(.mk none none (.store 1 (.t 63) (.t 62)))])))))) (.reg [m 21 11,q 22 .add 21 1,m 11 22]))))) (s [h 64 2 9,t 8 2 64] R))))),[(.c 8 2 true)]⟩
theorem i120:iF 120 g120:=jF Tryz.func120 [(6,532496)]
def g121:GFun:=⟨⟨31,[]⟩,(s [x 2 (.mov (.k (.val (.string (ByteArray.mk #[])))))] (S (s [m 6 0,q 7 .eql 6 0] (D 7 (s [x 2 (.mov (.k (.val (.string (ByteArray.mk #[48])))))] R) F)) (s [m 8 0,q 9 .lss 8 0,m 3 9] (s [x 4 (.mov (.k (.val
 (.string (ByteArray.mk #[])))))] (S (B 0 (S (s [m 10 0,q 11 .neq 10 0] (D 11 F (.exit 0))) (.block 1 (s [m 12 0,q 13 .rem 12 10,m 5 13] (S (s [m 14 5,q 15 .lss 14 0] (D 15 (.reg [m 16 5,x 17 (.bin .sub (K 0) (.t 16)),m 5 17]) F))
 (s [m 18 5,x 19 (.bin .add (K 48) (.t 18)),x 20 (.conv .u8 (.t 19)),x 21 (.bslice 1 [] 1 false [(0,(.t 20))]),x 22 (.b2s (.t 21)),m 23 4,o 24 .add 22 23,m 4 24] (.reg [m 25 0,q 26 .quo 25 10,m 0 26]))))))) (S (s [m 27 3] (D 27 (s [m 28 4,
 x 29 (.bin .add (.k (.val (.string (ByteArray.mk #[45])))) (.t 28)),m 2 29] R) F)) (s [m 30 4,m 2 30] R))))))),[.t 2]⟩
theorem i121:iF 121 g121:=jF Tryz.func121
def g122:GFun:=⟨⟨77,[5,8,11,13,1000015,3000063]⟩,(s [a 5 2 1,x 6 (.box 6 (.t 2)),u 8 6] (s [h 16 2 5,h 17 6 6,c 18 186 [.t 16,.t 17],m 9 18] (S (s [k 10 0] (B 0 (S (s [m 19 10,m 20 9,n 21 20,o 22 .lss 19 21] (D 22 F (.exit 0))) (S
 (.block 1 (s [m 28 9,m 29 10,i 30 2 28 29,f 31 0 30,u 11 2,h 26 2 5,h 27 6 6,l 32 31,G 33 11 [.t 27,.t 32],G 34 10 [.t 26,.t 33],m 25 34,v 35 25 0,v 36 25 1,t 11 2 35,m 12 36] (s [m 39 9,m 40 10,i 41 2 39 40,f 42 1 41,u 13 4,h 38 2 11,
 l 43 42,G 44 12 [.t 38,.t 43],m 37 44,v 45 37 0,v 46 37 1,t 13 4 45,m 14 46] (s [m 47 0,f 50 1 13,m 52 0,m 55 3,u 15 7,h 48 2 5,h 49 6 6,l 51 50,x 53 (.calla 75 [.t 52,K 3]),x 54 (.bin .add (K 1) (.t 53)),x 56 (.calla 187 [.t 47,.t 48,
 .t 49,.t 51,.t 54,.t 55]),x 15 (.strb 7 15 (.t 56))] (S (s [h 57 7 15,c 58 128 [.t 57],w 59 58] (D 59 (.reg [m 60 0,f 61 1 13,l 62 61,x 63 (.bslro 2 [] 0 true []),c 64 188 [.t 60,.t 62,.t 63],x 15 (.strb 7 15 (.t 64))]) F))
 (.reg [f 65 4 6,m 67 9,m 68 10,i 69 2 67 68,l 66 65,h 70 2 69,h 71 7 15,x 72 (.build [(.val (.int .i64 0)),(.val (.string (ByteArray.mk #[]))),(.val (.int .i64 0)),(.val (.int .i64 0)),(.val (.int .i64 0)),(.val (.int .i64 0)),(.val
 (.string (ByteArray.mk #[]))),(.val (.string (ByteArray.mk #[]))),(.val (.slice none 0 0))] [(0,(2,(.t 70))),(2,(7,(.t 71)))]),x 73 (.bslice 9 [] 1 true [(0,(.t 72))]),Q 74 9 112 66 73,f 75 4 6,(.mk none none (.store 1 (.t 75)
 (.t 74)))])))))) (.reg [m 23 10,q 24 .add 23 1,m 10 24]))))) (s [h 76 6 6,t 8 6 76] R)))),[(.c 8 6 true)]⟩
theorem i122:iF 122 g122:=jF Tryz.func122 [(7,532496)]
def g123:GFun:=⟨⟨76,[4,6,9]⟩,(s [a 4 2 1,x 5 (.box 6 (.t 2)),u 6 6] (S (s [k 7 0] (B 0 (S (s [m 10 7,f 11 0 4,l 12 11,n 13 12,o 14 .lss 10 13] (D 14 F (.exit 0))) (S (.block 1 (s [k 8 0] (B 2 (S (s [m 17 8,f 18 0 4,l 19 18,m 20 7,
 i 21 2 19 20,f 22 1 21,l 23 22,n 24 23,o 25 .lss 17 24] (D 25 F (.exit 2))) (S (.block 3 (s [f 28 0 4,l 29 28,m 30 7,i 31 2 29 30,f 32 1 31,l 33 32,m 34 8,i 35 4 33 34,h 36 4 35,u 9 4,t 9 4 36] (s [f 37 2 9,l 38 37,q 39 .eql 38 3,m 40 39,
 y 41 40 (p 1 5 5),y 42 40 (r 1 41),y 43 40 (.len (.t 42)),y 44 40 (.bin .lss (.t 43) (K 2)),A 45 40 44,m 46 45,M 47 46 0,y 48 46 (.call false 36 [.t 47,K 3]),y 49 46 (.not (.t 48)),A 50 46 49] (D 50 (.reg [f 51 5 5,f 53 0 4,m 55 7,
 f 59 0 9,m 61 0,m 66 0,l 52 51,l 54 53,i 56 2 54 55,f 57 0 56,l 58 57,l 60 59,h 62 2 4,h 63 6 5,G 64 189 [.t 62,.t 63,K 4],h 67 2 4,h 68 6 5,x 65 (.calla 188 [.t 61,K 4,.t 64]),G 69 189 [.t 67,.t 68,K 2],x 70 (.calla 188 [.t 66,K 2,
 .t 69]),x 71 (.build [(.val (.string (ByteArray.mk #[]))),(.val (.string (ByteArray.mk #[]))),(.val (.int .i64 0)),(.val (.int .i64 0)),(.val (.int .i64 0)),(.val (.int .i64 0)),(.val (.string (ByteArray.mk #[]))),(.val (.string
 (ByteArray.mk #[]))),(.val (.slice none 0 0)),(.val (.int .i64 0)),(.val (.int .i64 0)),(.val (.int .i64 0)),(.val (.int .i64 0)),(.val (.string (ByteArray.mk #[]))),(.val (.string (ByteArray.mk #[]))),(.val (.slice none 0 0))] [(0,(1,
 (.t 58))),(1,(1,(.t 60))),(2,(7,(.t 65))),(9,(7,(.t 70)))]),x 72 (.bslice 16 [] 1 true [(0,(.t 71))]),Q 73 16 208 52 72,f 74 5 5,(.mk none none (.store 1 (.t 74) (.t 73)))]) F)))) (.reg [m 26 8,q 27 .add 26 1,m 8 27])))))) (.reg [m 15 7,
 q 16 .add 15 1,m 7 16]))))) (s [h 75 6 5,t 6 6 75] R))),[(.c 6 6 true)]⟩
theorem i123:iF 123 g123:=jF Tryz.func123 [(9,550292684816)]
def g124:GFun:=⟨⟨58,[]⟩,(s [k 2 0] (s [m 4 0,m 5 0,x 6 (.nck (.t 5)),f 7 2 6,l 8 7,q 9 .mul 8 6364136223846793005,q 10 .add 9 1442695040888963407,x 11 (.nck (.t 4)),f 12 2 11,(.mk none none (.store 1 (.t 12) (.t 10)))] (s [m 13 0,x 14
 (.nck (.t 13)),f 15 2 14,m 18 0,x 19 (.nck (.t 18)),f 20 2 19,l 16 15,x 17 (.bin .shr (.t 16) (.k (.val (.int .u64 33)))),l 21 20,x 22 (.bin .shr (.t 21) (.k (.val (.int .u64 45)))),o 23 .xor 17 22,q 24 .and 23 255,m 3 24] (S (s [m 25 0,
 x 26 (.nck (.t 25)),f 27 1 26,m 29 0,x 30 (.nck (.t 29)),f 31 0 30,l 28 27,l 32 31,n 33 32,o 34 .lss 28 33] (D 34 (s [m 35 3,m 36 0,x 37 (.nck (.t 36)),f 38 0 37,m 40 0,x 41 (.nck (.t 40)),f 42 1 41,l 39 38,l 43 42,i 44 1 39 43,l 45 44,
 x 46 (.conv .i64 (.t 45)),o 47 .add 35 46,q 48 .and 47 255,m 3 48] (.reg [m 49 0,m 50 0,x 51 (.nck (.t 50)),f 52 1 51,l 53 52,q 54 .add 53 1,x 55 (.nck (.t 49)),f 56 1 55,(.mk none none (.store 1 (.t 56) (.t 54)))])) F)) (s [m 57 3,
 m 2 57] R))))),[.t 2]⟩
theorem i124:iF 124 g124:=jF Tryz.func124
def g125:GFun:=⟨⟨75,[2,8,3000010,3000013,3000028]⟩,(s [u 2 6] (s [m 9 0,x 10 (.bslro 1 [] 3 false [(0,(.k (.val (.string (ByteArray.mk #[112]))))),(1,(.k (.val (.string (ByteArray.mk #[113]))))),(2,(.k (.val (.string
 (ByteArray.mk #[108,101,97,102])))))]),c 11 78 [.t 9,.t 10],m 12 0,x 13 (.bslro 1 [] 2 false [(0,(.k (.val (.string (ByteArray.mk #[115]))))),(1,(.k (.val (.string (ByteArray.mk #[116])))))]),c 14 78 [.t 12,.t 13],m 15 0,c 16 36 [.t 15,
 K 2],x 17 (.build [(.val (.string (ByteArray.mk #[]))),(.val (.string (ByteArray.mk #[]))),(.val (.slice none 0 0)),(.val (.bool false)),(.val (.slice none 0 0)),(.val (.slice none 0 0))] [(0,(1,(.t 11))),(1,(1,(.t 14))),(3,(1,(.t 16)))]),
 x 3 (.alloc 6 (.agg [(.val (.string (ByteArray.mk #[]))),(.val (.string (ByteArray.mk #[]))),(.val (.slice none 0 0)),(.val (.bool false)),(.val (.slice none 0 0)),(.val (.slice none 0 0))])),(.mk none none (.store 6 (.t 3) (.t 17)))]
 (s [m 18 0,c 19 75 [.t 18,K 4],m 4 19] (S (s [k 5 0] (B 0 (S (s [m 20 5,m 21 4,o 22 .lss 20 21] (D 22 F (.exit 0))) (S (.block 1 (.reg [f 25 2 3,m 27 0,x 28 (.bslro 1 [] 3 false [(0,(.k (.val (.string (ByteArray.mk #[115]))))),(1,(.k
 (.val (.string (ByteArray.mk #[116]))))),(2,(.k (.val (.string (ByteArray.mk #[117])))))]),l 26 25,x 29 (.calla 78 [.t 27,.t 28]),x 30 (.bslice 1 [] 1 false [(0,(.t 29))]),Q 31 1 16 26 30,f 32 2 3,(.mk none none (.store 1 (.t 32)
 (.t 31)))])) (.reg [m 23 5,q 24 .add 23 1,m 5 24]))))) (s [m 33 0,c 34 75 [.t 33,K 4],m 6 34] (S (s [k 7 0] (B 2 (S (s [m 35 7,m 36 6,o 37 .lss 35 36] (D 37 F (.exit 2))) (S (.block 3 (s [m 40 0,m 41 0,c 42 75 [.t 41,K 3],x 43 (.bin .add
 (K 1) (.t 42)),c 44 127 [.t 40,.t 43],u 8 7,t 8 7 44] (s [h 45 7 8,m 46 4,c 47 190 [.t 45,.t 46]] (D 47 (.reg [f 48 4 3,m 50 0,m 51 4,q 52 .add 51 1,m 54 0,l 49 48,h 57 7 8,x 53 (.calla 75 [.t 50,.t 52]),x 55 (.calla 191 [.t 54]),x 56
 (.build [(.val (.int .i64 0)),(.val (.string (ByteArray.mk #[])))] [(0,(1,(.t 53))),(1,(1,(.t 55)))]),x 58 (.build [(.val (.int .i64 0)),(.val (.string (ByteArray.mk #[]))),(.val (.int .i64 0)),(.val (.int .i64 0)),(.val (.int .i64 0)),
 (.val (.int .i64 0)),(.val (.string (ByteArray.mk #[]))),(.val (.string (ByteArray.mk #[]))),(.val (.slice none 0 0))] [(0,(2,(.t 56))),(2,(7,(.t 57)))]),x 59 (.bslice 9 [] 1 true [(0,(.t 58))]),Q 60 9 112 49 59,f 61 4 3,(.mk none none
 (.store 1 (.t 61) (.t 60)))]) F)))) (.reg [m 38 7,q 39 .add 38 1,m 7 39]))))) (S (s [m 62 0,c 63 36 [.t 62,K 4]] (D 63 (.reg [f 64 5 3,x 66 (.build [(.val (.int .i64 0)),(.val (.int .i64 0)),(.val (.int .i64 0)),(.val (.int .i64 0)),
 (.val (.string (ByteArray.mk #[]))),(.val (.string (ByteArray.mk #[]))),(.val (.slice none 0 0))] [(0,(1,(K 6)))]),m 67 0,l 65 64,x 68 (.calla 75 [.t 67,K 4096]),G 69 192 [.t 68,K 2],x 70 (.build [(.val (.string (ByteArray.mk #[]))),
 (.val (.string (ByteArray.mk #[]))),(.val (.int .i64 0)),(.val (.int .i64 0)),(.val (.int .i64 0)),(.val (.int .i64 0)),(.val (.string (ByteArray.mk #[]))),(.val (.string (ByteArray.mk #[]))),(.val (.slice none 0 0)),(.val (.int .i64 0)),
 (.val (.int .i64 0)),(.val (.int .i64 0)),(.val (.int .i64 0)),(.val (.string (ByteArray.mk #[]))),(.val (.string (ByteArray.mk #[]))),(.val (.slice none 0 0))] [(0,(1,(.k (.val (.string (ByteArray.mk #[115])))))),(1,(1,(.k (.val
 (.string (ByteArray.mk #[99])))))),(2,(7,(.t 66))),(9,(7,(.t 69)))]),x 71 (.bslice 16 [] 1 true [(0,(.t 70))]),Q 72 16 208 65 71,f 73 5 3,(.mk none none (.store 1 (.t 73) (.t 72)))]) F)) (s [h 74 6 3,t 2 6 74] R)))))))),[(.c 2 6 true)]⟩
theorem i125:iF 125 g125:=jF Tryz.func125 [(6,528),(13,34832),(15,528)]
def g126:GFun:=⟨⟨50,[2,3000025,3000031,3000037]⟩,(s [u 2 7] (s [m 5 0,c 6 79 [.t 5],x 3 (.alloc 7 (.agg [(.val (.int .i64 0)),(.val (.int .i64 0)),(.val (.int .i64 0)),(.val (.int .i64 0)),(.val (.string (ByteArray.mk #[]))),(.val
 (.string (ByteArray.mk #[]))),(.val (.slice none 0 0))])),(.mk none none (.store 7 (.t 3) (.t 6)))] (S (s [m 7 0,c 8 75 [.t 7,K 14]] (.block 0 (s [q 10 .eql 8 0,m 9 10] (D 9 (.reg [m 11 0,c 12 75 [.t 11,K 11],f 13 0 3,(.mk none none
 (.store 1 (.t 13) (.t 12)))]) (s [q 15 .eql 8 1,m 14 15] (D 14 (.reg [f 16 6 3,l 17 16,x 18 (.build [(.val (.int .i64 0)),(.val (.int .i64 0)),(.val (.int .i64 0)),(.val (.int .i64 0)),(.val (.string (ByteArray.mk #[]))),(.val (.string
 (ByteArray.mk #[]))),(.val (.slice none 0 0))] [(0,(1,(K 7)))]),x 19 (.bslice 7 [] 1 true [(0,(.t 18))]),Q 20 7 88 17 19,f 21 6 3,(.mk none none (.store 1 (.t 21) (.t 20)))]) (s [q 23 .eql 8 2,m 22 23] (D 22 (.reg [m 24 0,x 25
 (.bslro 1 [] 4 false [(0,(K (-1))),(1,(K 13)),(2,(K 4096)),(3,(K 1000001))]),c 26 163 [.t 24,.t 25],f 27 1 3,(.mk none none (.store 1 (.t 27) (.t 26)))]) (s [q 29 .eql 8 3,m 28 29] (D 28 (.reg [m 30 0,x 31 (.bslro 1 [] 3 false [(0,(K
 (-1))),(1,(K 4)),(2,(K 1))]),c 32 163 [.t 30,.t 31],f 33 2 3,(.mk none none (.store 1 (.t 33) (.t 32)))]) (s [q 35 .eql 8 4,m 34 35] (D 34 (.reg [m 36 0,x 37 (.bslro 1 [] 3 false [(0,(.k (.val (.string (ByteArray.mk #[105,102]))))),(1,
 (.k (.val (.string (ByteArray.mk #[]))))),(2,(.k (.val (.string (ByteArray.mk #[120])))))]),c 38 78 [.t 36,.t 37],f 39 5 3,(.mk none none (.store 1 (.t 39) (.t 38)))]) (s [q 41 .eql 8 5,m 40 41] (D 40 (s [k 4 0] (B 1 (S (s [m 42 4,
 q 43 .lss 42 5] (D 43 F (.exit 1))) (S (.block 2 (.reg [h 46 7 3,x 47 (.build [(.val (.int .i64 0)),(.val (.int .i64 0)),(.val (.int .i64 0)),(.val (.int .i64 0)),(.val (.string (ByteArray.mk #[]))),(.val (.string (ByteArray.mk #[]))),
 (.val (.slice none 0 0))] [(0,(1,(K 2)))]),c 48 193 [K 1,.t 46,.t 47],(.mk none none (.store 7 (.t 3) (.t 48)))])) (.reg [m 44 4,q 45 .add 44 1,m 4 45]))))) F)))))))))))))) (s [h 49 7 3,t 2 7 49] R)))),[(.c 2 7 true)]⟩
theorem i126:iF 126 g126:=jF Tryz.func126
def g127:GFun:=⟨⟨73,[4,3000028,3000051]⟩,(s [u 4 7] (S (s [m 5 1,q 6 .lss 5 2,m 7 6,N 8 7 0,z 9 7 (.call false 36 [.t 8,K 4]),O 10 7 9] (D 10 (S (s [m 11 0,c 12 36 [.t 11,K 5]] (D 12 (s [x 13 (.build [(.val (.int .i64 0)),(.val
 (.int .i64 0)),(.val (.int .i64 0)),(.val (.int .i64 0)),(.val (.string (ByteArray.mk #[]))),(.val (.string (ByteArray.mk #[]))),(.val (.slice none 0 0))] [(0,(1,(K 2)))]),t 4 7 13] R) F)) (S (s [m 14 0,c 15 36 [.t 14,K 6]] (D 15
 (s [m 16 0,c 17 75 [.t 16,K 4],x 18 (.build [(.val (.int .i64 0)),(.val (.int .i64 0)),(.val (.int .i64 0)),(.val (.int .i64 0)),(.val (.string (ByteArray.mk #[]))),(.val (.string (ByteArray.mk #[]))),(.val (.slice none 0 0))] [(0,(1,
 (K 6))),(2,(1,(.t 17)))]),t 4 7 18] R) F)) (s [m 19 0,m 20 0,c 21 75 [.t 20,K 4],x 22 (.bin .add (K 1) (.t 21)),m 23 0,c 24 75 [.t 23,K 4],m 25 0,c 26 191 [.t 25],x 27 (.build [(.val (.int .i64 0)),(.val (.string (ByteArray.mk #[])))] [(0,
 (1,(.t 24))),(1,(1,(.t 26)))]),x 28 (.bslro 2 [] 1 true [(0,(.t 27))]),c 29 188 [.t 19,.t 22,.t 28],t 4 7 29] R))) F)) (S (s [m 30 0,c 31 75 [.t 30,K 5]] (.block 0 (s [q 33 .eql 31 0,m 32 33] (D 32 (s [m 34 0,m 35 1,q 36 .sub 35 1,
 c 37 127 [.t 34,.t 36],m 38 0,m 39 1,q 40 .sub 39 1,c 41 127 [.t 38,.t 40],m 42 0,m 43 1,q 44 .sub 43 1,c 45 127 [.t 42,.t 44],x 46 (.bslice 7 [] 3 true [(0,(.t 37)),(1,(.t 41)),(2,(.t 45))]),x 47 (.build [(.val (.int .i64 0)),(.val
 (.int .i64 0)),(.val (.int .i64 0)),(.val (.int .i64 0)),(.val (.string (ByteArray.mk #[]))),(.val (.string (ByteArray.mk #[]))),(.val (.slice none 0 0))] [(0,(1,(K 5))),(6,(1,(.t 46)))]),t 4 7 47] R) (s [q 49 .eql 31 1,m 48 49] (D 48
 (s [m 50 0,x 51 (.bslro 1 [] 2 false [(0,(.k (.val (.string (ByteArray.mk #[115]))))),(1,(.k (.val (.string (ByteArray.mk #[116])))))]),c 52 78 [.t 50,.t 51],m 53 0,c 54 191 [.t 53],m 55 0,m 56 1,q 57 .sub 56 1,c 58 127 [.t 55,.t 57],
 x 59 (.bslice 7 [] 1 true [(0,(.t 58))]),x 60 (.build [(.val (.int .i64 0)),(.val (.int .i64 0)),(.val (.int .i64 0)),(.val (.int .i64 0)),(.val (.string (ByteArray.mk #[]))),(.val (.string (ByteArray.mk #[]))),(.val
 (.slice none 0 0))] [(0,(1,(K 8))),(4,(1,(.t 52))),(5,(1,(.t 54))),(6,(1,(.t 59)))]),t 4 7 60] R) F)))))) (s [m 61 0,c 62 75 [.t 61,K 12],x 63 (.bin .add (K 1) (.t 62)),m 64 0,m 65 1,q 66 .sub 65 1,c 67 127 [.t 64,.t 66],m 68 0,m 69 1,
 q 70 .sub 69 1,c 71 127 [.t 68,.t 70],c 72 193 [.t 63,.t 67,.t 71],t 4 7 72] R)))),[(.c 4 7 true)]⟩
theorem i127:iF 127 g127:=jF Tryz.func127
def g128:GFun:=⟨⟨15,[1]⟩,(s [a 1 7 0,b 2 false] (s [h 3 7 1,c 4 194 [.t 3,K 24],q 5 .geq 4 0,m 6 5,y 7 6 (j 7 1),y 8 6 (.call false 195 [.t 7]),y 9 6 (.bin .leq (.t 8) (K 6)),A 10 6 9,m 11 10,y 12 11 (j 7 1),y 13 11
 (.call false 196 [.t 12]),A 14 11 13,m 2 14] R)),[.t 2]⟩
theorem i128:iF 128 g128:=jF Tryz.func128
def g129:GFun:=⟨⟨34,[1,4]⟩,(s [a 1 2 0,b 2 false] (S (s [f 5 1 1,l 6 5,n 7 6,k 8 0] (B 0 (s [o 9 .lss 8 7] (C 9 0 (S (.block 1 (s [m 10 8,i 11 4 6 8,h 12 4 11,u 4 4,m 3 10,t 4 4 12] (s [h 13 4 4,c 14 197 [.t 13],w 15 14,m 16 15,
 z 17 16 (p 1 1 1),z 18 16 (r 1 17),N 19 16 3,z 20 16 (.slc 4 (.t 18) none (some (.t 19))),z 21 16 (.mkfn 198 [.t 4]),z 22 16 (.call false 81 [.t 20,.t 21]),O 23 16 22] (D 23 (s [b 2 false] R) F)))) (.reg [q 24 .add 8 1,m 8 24]))))))
 (s [f 25 0 1,l 26 25,c 27 199 [.t 26],m 28 27,y 29 28 (p 1 1 1),y 30 28 (r 1 29),y 31 28 (.len (.t 30)),y 32 28 (.bin .leq (.t 31) (K 4)),A 33 28 32,m 2 33] R))),[.t 2]⟩
theorem i129:iF 129 g129:=jF Tryz.func129
def g130:GFun:=⟨⟨9,[2]⟩,(s [a 2 2 0,b 3 false] (s [f 4 0 2,l 5 4,f 6 0 1,l 7 6,o 8 .eql 5 7,m 3 8] R)),[.t 3]⟩
theorem i130:iF 130 g130:=jF Tryz.func130
def g131:GFun:=⟨⟨104,[1,7,9]⟩,(s [a 1 6 0,b 2 false] (s [f 10 2 1,l 11 10,n 12 11,m 3 12] (S (s [f 13 0 1,l 14 13,c 15 199 [.t 14],w 16 15,m 17 16,z 18 17 (p 1 1 1),z 19 17 (r 1 18),z 20 17 (.call false 199 [.t 19]),z 21 17 (.not
 (.t 20)),O 22 17 21,m 23 22,N 24 23 3,z 25 23 (.bin .gtr (.t 24) (K 3)),O 26 23 25,m 27 26,z 28 27 (p 1 5 1),z 29 27 (r 1 28),z 30 27 (.len (.t 29)),z 31 27 (.bin .gtr (.t 30) (K 2)),O 32 27 31] (D 32 (s [b 2 false] R) F)) (S (s [f 33 2 1,
 l 34 33,n 35 34,k 36 0] (B 0 (s [o 37 .lss 36 35] (C 37 0 (S (.block 1 (s [i 38 1 34 36,l 39 38,m 5 39] (s [m 40 5,c 41 199 [.t 40],w 42 41] (D 42 (s [b 2 false] R) F)))) (.reg [q 43 .add 36 1,m 36 43])))))) (S (s [f 44 4 1,l 45 44,
 n 46 45,k 47 0] (B 2 (s [o 48 .lss 47 46] (C 48 2 (S (.block 3 (s [i 49 9 45 47,h 50 9 49,u 7 9,t 7 9 50] (s [e 51 2 7 7,h 52 7 51,m 53 3,c 54 200 [.t 52,.t 53],w 55 54,m 56 55,z 57 56 (.faddr 0 2 true (.t 7)),z 58 56 (p 1 1 57),z 59 56
 (r 1 58),z 60 56 (.call false 199 [.t 59]),z 61 56 (.not (.t 60)),O 62 56 61,m 63 62,z 64 63 (.faddr 0 2 true (.t 7)),z 65 63 (p 1 0 64),z 66 63 (r 1 65),N 67 63 3,z 68 63 (.call false 47 [.t 66,K 0,.t 67]),z 69 63 (.not (.t 68)),
 O 70 63 69] (D 70 (s [b 2 false] R) F)))) (.reg [q 71 .add 47 1,m 47 71])))))) (S (s [f 72 5 1,l 73 72,n 74 73,k 75 0] (B 4 (s [o 76 .lss 75 74] (C 76 4 (S (.block 5 (s [i 77 16 73 75,h 78 16 77,u 9 16,t 9 16 78] (s [e 79 2 7 9,h 80 7 79,
 m 81 3,c 82 200 [.t 80,.t 81],w 83 82,m 84 83,z 85 84 (.faddr 9 7 true (.t 9)),z 86 84 (j 7 85),N 87 84 3,z 88 84 (.call false 200 [.t 86,.t 87]),z 89 84 (.not (.t 88)),O 90 84 89,m 91 90,z 92 91 (p 1 0 9),z 93 91 (r 1 92),z 94 91
 (.call false 199 [.t 93]),z 95 91 (.not (.t 94)),O 96 91 95,m 97 96,z 98 97 (p 1 1 9),z 99 97 (r 1 98),z 100 97 (.call false 199 [.t 99]),z 101 97 (.not (.t 100)),O 102 97 101] (D 102 (s [b 2 false] R) F)))) (.reg [q 103 .add 75 1,
 m 75 103])))))) (s [b 2 true] R))))))),[.t 2]⟩
theorem i131:iF 131 g131:=jF Tryz.func131
def g132:GFun:=⟨⟨9,[2]⟩,(s [a 2 6 0,b 3 false] (s [f 4 0 2,l 5 4,f 6 0 1,l 7 6,o 8 .eql 5 7,m 3 8] R)),[.t 3]⟩
theorem i132:iF 132 g132:=jF Tryz.func132
def g133:GFun:=⟨⟨19,[]⟩,(s [k 4 0] (S (s [m 6 0,n 7 6,k 8 0] (B 0 (s [o 9 .lss 8 7] (C 9 0 (S (.block 1 (s [m 10 8,m 5 10] (s [m 11 1,m 12 0,m 13 5,i 14 4 12 13,h 15 4 14,x 16 (.callv false (.t 11) [.t 15])] (D 16 (s [m 17 5,
 m 4 17] R) F)))) (.reg [q 18 .add 8 1,m 8 18])))))) (s [k 4 (-1)] R))),[.t 4]⟩
theorem i133:iF 133 g133:=jF Tryz.func133
def g134:GFun:=⟨⟨9,[]⟩,(s [b 4 false] (s [m 5 0,m 6 1,c 7 201 [.t 5,.t 6],q 8 .geq 7 0,m 4 8] R)),[.t 4]⟩
theorem i134:iF 134 g134:=jF Tryz.func134
def g135:GFun:=⟨⟨51,[2,3,8,11]⟩,(s [a 2 2 0,a 3 6 1,Z 4] (s [E 12 2 true,m 5 12] (S (s [f 13 2 3,l 14 13,n 15 14,q 16 .add 15 1,k 17 0] (B 0 (s [o 18 .lss 17 16] (C 18 0 (S (.block 1 (s [m 19 17,m 6 19] (s [k 7 1] (S (s [m 20 6,
 q 21 .eql 20 0] (D 21 (.reg [k 7 2]) F)) (s [m 25 6,u 8 2,h 23 2 2,h 24 6 3,G 26 93 [.t 24,.t 25],G 27 48 [.t 23,.t 26],m 22 27,v 28 22 0,v 29 22 1,t 8 2 28,m 9 29] (s [f 30 1 8,l 31 30,n 32 31,k 33 0] (B 2 (s [o 34 .lss 33 32] (C 34 2
 (S (.block 3 (s [i 35 4 31 33,h 36 4 35,u 11 4,t 11 4 36] (s [f 37 2 11,l 38 37,m 39 7,o 40 .eql 38 39] (D 40 (.reg [m 41 5,m 42 6,f 43 0 11,l 44 43,x 45 (.build [(.val (.int .i64 0)),(.val (.string (ByteArray.mk #[])))] [(0,(1,(.t 42))),
 (1,(1,(.t 44)))]),x 46 (.bslice 2 [] 1 true [(0,(.t 45))]),Q 47 2 24 41 46,m 5 47]) F)))) (.reg [q 48 .add 33 1,m 33 48]))))))))))) (.reg [q 49 .add 17 1,m 17 49])))))) (s [m 50 5,m 4 50] R)))),[.t 4]⟩
theorem i135:iF 135 g135:=jF Tryz.func135
def g136:GFun:=⟨⟨9,[2]⟩,(s [a 2 2 0,b 3 false] (s [f 4 4 1,l 5 4,x 6 (.mkfn 138 [.t 2]),c 7 137 [.t 5,.t 6],w 8 7,m 3 8] R)),[.t 3]⟩
theorem i136:iF 136 g136:=jF Tryz.func136
def g137:GFun:=⟨⟨9,[]⟩,(s [b 4 false] (s [m 5 0,m 6 1,c 7 202 [.t 5,.t 6],q 8 .geq 7 0,m 4 8] R)),[.t 4]⟩
theorem i137:iF 137 g137:=jF Tryz.func137
def g138:GFun:=⟨⟨8,[2]⟩,(s [a 2 9 0,b 3 false] (s [e 4 0 2 2,h 5 2 4,h 6 2 1,x 7 (.aeq false [1,2] (.t 5) (.t 6)),m 3 7] R)),[.t 3]⟩
theorem i138:iF 138 g138:=jF Tryz.func138
def g139:GFun:=⟨⟨9,[3]⟩,(s [a 3 2 1,b 4 false] (s [m 5 0,h 6 2 3,c 7 203 [.t 5,.t 6],q 8 .geq 7 0,m 4 8] R)),[.t 4]⟩
theorem i139:iF 139 g139:=jF Tryz.func139
def g140:GFun:=⟨⟨9,[2]⟩,(s [a 2 9 0,b 3 false] (s [e 4 0 2 2,h 5 2 4,e 6 0 2 1,h 7 2 6,x 8 (.aeq false [1,2] (.t 5) (.t 7)),m 3 8] R)),[.t 3]⟩
theorem i140:iF 140 g140:=jF Tryz.func140
def g141:GFun:=⟨⟨9,[3]⟩,(s [a 3 7 0,b 4 false] (s [h 5 7 3,c 6 142 [.t 5],x 7 (.mkfn 143 [.t 1,.t 2]),c 8 134 [.t 6,.t 7],m 4 8] R)),[.t 4]⟩
theorem i141:iF 141 g141:=jF Tryz.func141
def g142:GFun:=⟨⟨12,[1]⟩,(s [a 1 7 0,Z 2] (s [E 4 2 true,x 3 (.alloc 1 (.val (.slice none 0 0))),(.mk none none (.store 1 (.t 3) (.t 4)))] (s [h 5 7 1,x 6 (.mkfn 204 [.t 3]),c 7 158 [.t 5,.t 6]] (s [l 8 3,x 9 (.call false 205 [.t 8,
 (.k (.clo 206 []))])] (s [l 10 3,c 11 207 [.t 10],m 2 11] R))))),[.t 2]⟩
theorem i142:iF 142 g142:=jF Tryz.func142
def g143:GFun:=⟨⟨10,[3]⟩,(s [a 3 2 0,b 4 false] (s [h 5 2 1,h 6 6 2,h 7 2 3,c 8 144 [.t 5,.t 6,.t 7],w 9 8,m 4 9] R)),[.t 4]⟩
theorem i143:iF 143 g143:=jF Tryz.func143
def g144:GFun:=⟨⟨31,[3,4,5,7]⟩,(s [a 3 2 0,a 4 6 1,a 5 2 2,b 6 false] (s [h 10 2 3,h 11 6 4,h 12 2 5,c 13 45 [.t 10,.t 11,.t 12],m 9 13,v 14 9 0,v 15 9 1,u 7 4,t 7 4 14,m 8 15] (S (s [f 16 0 5,l 17 16,q 18 .eql 17 0] (D 18 (s [m 19 8,
 m 20 19,y 21 20 (p 1 2 7),y 22 20 (r 1 21),I 23 20 22 1,A 24 20 23,m 6 24] R) F)) (s [m 25 8,m 26 25,y 27 26 (p 1 2 7),y 28 26 (r 1 27),I 29 26 28 2,A 30 26 29,m 6 30] R)))),[.t 6]⟩
theorem i144:iF 144 g144:=jF Tryz.func144
def g145:GFun:=⟨⟨41,[1]⟩,(s [a 1 2 0,b 2 false] (s [E 5 1 false,m 3 5] (S (s [k 4 0] (B 0 (S (s [m 6 4,f 7 1 1,l 8 7,n 9 8,o 10 .lss 6 9] (D 10 F (.exit 0))) (S (.block 1 (S (s [f 13 1 1,l 14 13,m 15 4,i 16 4 14 15,h 17 4 16,
 c 18 208 [.t 17],w 19 18] (D 19 (s [b 2 false] R) F)) (.reg [m 20 3,f 21 1 1,l 22 21,m 23 4,i 24 4 22 23,f 25 0 24,l 26 25,x 27 (.bslice 1 [] 1 false [(0,(.t 26))]),Q 28 1 16 20 27,m 3 28]))) (.reg [m 11 4,q 12 .add 11 1,m 4 12])))))
 (s [f 29 0 1,l 30 29,c 31 209 [.t 30],m 32 31,M 33 32 3,y 34 32 (.len (.t 33)),y 35 32 (.bin .leq (.t 34) (K 4)),A 36 32 35,m 37 36,M 38 37 3,y 39 37 (.call false 210 [.t 38]),A 40 37 39,m 2 40] R)))),[.t 2]⟩
theorem i145:iF 145 g145:=jF Tryz.func145
def g146:GFun:=⟨⟨18,[]⟩,(s [b 4 false] (S (s [k 5 0] (B 0 (S (s [m 6 5,m 7 0,n 8 7,o 9 .lss 6 8] (D 9 F (.exit 0))) (S (.block 1 (s [m 12 0,m 13 5,i 14 1 12 13,l 15 14,m 16 1,o 17 .eql 15 16] (D 17 (s [b 4 true] R) F))) (.reg [m 10 5,
 q 11 .add 10 1,m 5 11]))))) (s [b 4 false] R))),[.t 4]⟩
theorem i146:iF 146 g146:=jF Tryz.func146
def g147:GFun:=⟨⟨112,[1,6,8]⟩,(s [a 1 6 0,b 2 false] (s [f 9 2 1,l 10 9,n 11 10,m 3 11] (S (s [f 12 0 1,l 13 12,c 14 209 [.t 13],w 15 14,m 16 15,z 17 16 (p 1 1 1),z 18 16 (r 1 17),z 19 16 (.call false 209 [.t 18]),z 20 16 (.not
 (.t 19)),O 21 16 20,m 22 21,N 23 22 3,z 24 22 (.bin .gtr (.t 23) (K 3)),O 25 22 24,m 26 25,z 27 26 (p 1 5 1),z 28 26 (r 1 27),z 29 26 (.len (.t 28)),z 30 26 (.bin .gtr (.t 29) (K 2)),O 31 26 30] (D 31 (s [b 2 false] R) F)) (S (s [k 4 0]
 (B 0 (S (s [m 32 4,m 33 3,o 34 .lss 32 33] (D 34 F (.exit 0))) (S (.block 1 (s [f 37 2 1,l 38 37,m 39 4,i 40 1 38 39,l 41 40,c 42 209 [.t 41],w 43 42] (D 43 (s [b 2 false] R) F))) (.reg [m 35 4,q 36 .add 35 1,m 4 36]))))) (S (s [k 5 0]
 (B 2 (S (s [m 44 5,f 45 4 1,l 46 45,n 47 46,o 48 .lss 44 47] (D 48 F (.exit 2))) (S (.block 3 (s [f 51 4 1,l 52 51,m 53 5,i 54 9 52 53,h 55 9 54,u 6 9,t 6 9 55] (s [e 56 0 2 6,f 57 1 56,l 58 57,c 59 209 [.t 58],w 60 59,m 61 60,z 62 61
 (.faddr 0 2 true (.t 6)),z 63 61 (p 1 0 62),z 64 61 (r 1 63),N 65 61 3,z 66 61 (.call false 44 [.t 64,K 0,.t 65]),z 67 61 (.not (.t 66)),O 68 61 67,m 69 68,z 70 69 (.faddr 2 7 true (.t 6)),z 71 69 (j 7 70),N 72 69 3,z 73 69
 (.call false 190 [.t 71,.t 72]),z 74 69 (.not (.t 73)),O 75 69 74] (D 75 (s [b 2 false] R) F)))) (.reg [m 49 5,q 50 .add 49 1,m 5 50]))))) (S (s [k 7 0] (B 4 (S (s [m 76 7,f 77 5 1,l 78 77,n 79 78,o 80 .lss 76 79] (D 80 F (.exit 4))) (S
 (.block 5 (s [f 83 5 1,l 84 83,m 85 7,i 86 16 84 85,h 87 16 86,u 8 16,t 8 16 87] (s [f 88 0 8,l 89 88,c 90 209 [.t 89],w 91 90,m 92 91,z 93 92 (p 1 1 8),z 94 92 (r 1 93),z 95 92 (.call false 209 [.t 94]),z 96 92 (.not (.t 95)),O 97 92 96,
 m 98 97,z 99 98 (.faddr 2 7 true (.t 8)),z 100 98 (j 7 99),N 101 98 3,z 102 98 (.call false 190 [.t 100,.t 101]),z 103 98 (.not (.t 102)),O 104 98 103,m 105 104,z 106 105 (.faddr 9 7 true (.t 8)),z 107 105 (j 7 106),N 108 105 3,z 109 105
 (.call false 190 [.t 107,.t 108]),z 110 105 (.not (.t 109)),O 111 105 110] (D 111 (s [b 2 false] R) F)))) (.reg [m 81 7,q 82 .add 81 1,m 7 82]))))) (s [b 2 true] R))))))),[.t 2]⟩
theorem i147:iF 147 g147:=jF Tryz.func147
def g148:GFun:=⟨⟨25,[2,3,6]⟩,(s [a 2 2 0,a 3 6 1,b 4 false] (S (s [k 5 0] (B 0 (S (s [m 8 5,f 9 2 3,l 10 9,n 11 10,o 12 .leq 8 11] (D 12 F (.exit 0))) (S (.block 1 (s [m 18 5,u 6 2,h 16 2 2,h 17 6 3,G 19 11 [.t 17,.t 18],G 20 10 [.t 16,
 .t 19],m 15 20,v 21 15 0,v 22 15 1,t 6 2 21,m 7 22] (s [m 23 7,w 24 23] (D 24 (s [b 4 false] R) F)))) (.reg [m 13 5,q 14 .add 13 1,m 5 14]))))) (s [b 4 true] R))),[.t 4]⟩
theorem i148:iF 148 g148:=jF Tryz.func148
def g149:GFun:=⟨⟨29,[2,3,7]⟩,(s [a 2 2 0,a 3 6 1,b 4 false] (s [h 9 2 2,h 10 6 3,c 11 186 [.t 9,.t 10],m 5 11] (S (s [k 6 0] (B 0 (S (s [m 12 6,m 13 5,n 14 13,o 15 .lss 12 14] (D 15 F (.exit 0))) (S (.block 1 (s [m 20 5,m 21 6,
 i 22 2 20 21,u 7 7,h 19 6 3,h 23 2 22,G 24 211 [.t 19,.t 23],m 18 24,v 25 18 0,v 26 18 1,t 7 7 25,m 8 26] (s [m 27 8,w 28 27] (D 28 (s [b 4 true] R) F)))) (.reg [m 16 6,q 17 .add 16 1,m 6 17]))))) (s [b 4 false] R)))),[.t 4]⟩
theorem i149:iF 149 g149:=jF Tryz.func149
def g150:GFun:=⟨⟨39,[2,3,8]⟩,(s [a 2 2 0,a 3 6 1,b 4 false] (s [h 9 2 2,h 10 6 3,c 11 186 [.t 9,.t 10],m 5 11] (s [E 12 2 true,m 6 12] (S (s [k 7 0] (B 0 (S (s [m 13 7,f 14 4 3,l 15 14,n 16 15,o 17 .lss 13 16] (D 17 F (.exit 0))) (S
 (.block 1 (s [f 20 4 3,l 21 20,m 22 7,i 23 9 21 22,e 24 0 2 23,h 25 2 24,u 8 2,t 8 2 25] (S (s [m 26 5,h 27 2 8,c 28 212 [.t 26,.t 27],w 29 28,m 30 29,N 31 30 6,z 32 30 (j 2 8),z 33 30 (.call false 212 [.t 31,.t 32]),O 34 30 33] (D 34
 (s [b 4 true] R) F)) (.reg [m 35 6,h 36 2 8,x 37 (.bslice 2 [] 1 true [(0,(.t 36))]),Q 38 2 24 35 37,m 6 38])))) (.reg [m 18 7,q 19 .add 18 1,m 7 19]))))) (s [b 4 false] R))))),[.t 4]⟩
theorem i150:iF 150 g150:=jF Tryz.func150
def g151:GFun:=⟨⟨53,[2,3]⟩,(s [a 2 2 0,a 3 6 1,b 4 false] (S (s [k 5 0] (B 0 (S (s [m 7 5,f 8 4 3,l 9 8,n 10 9,o 11 .lss 7 10] (D 11 F (.exit 0))) (S (.block 1 (s [f 16 4 3,m 18 5,h 14 2 2,h 15 6 3,l 17 16,i 19 9 17 18,e 20 2 7 19,
 h 21 7 20,G 22 213 [.t 14,.t 15,.t 21],w 23 22] (D 23 (s [b 4 true] R) F))) (.reg [m 12 5,q 13 .add 12 1,m 5 13]))))) (S (s [k 6 0] (B 2 (S (s [m 24 6,f 25 5 3,l 26 25,n 27 26,o 28 .lss 24 27] (D 28 F (.exit 2))) (S (.block 3 (s [f 33 5 3,
 m 35 6,h 31 2 2,h 32 6 3,l 34 33,i 36 16 34 35,e 37 2 7 36,h 38 7 37,G 39 213 [.t 31,.t 32,.t 38],w 40 39,m 41 40,z 44 41 (p 1 5 3),N 46 41 6,z 42 41 (j 2 2),z 43 41 (j 6 3),z 45 41 (r 1 44),z 47 41 (.iaddr 16 (.t 45) (.t 46)),z 48 41
 (.faddr 9 7 true (.t 47)),z 49 41 (j 7 48),z 50 41 (.call true 213 [.t 42,.t 43,.t 49]),z 51 41 (.not (.t 50)),O 52 41 51] (D 52 (s [b 4 true] R) F))) (.reg [m 29 6,q 30 .add 29 1,m 6 30]))))) (s [b 4 false] R)))),[.t 4]⟩
theorem i151:iF 151 g151:=jF Tryz.func151
def g152:GFun:=⟨⟨44,[3,4,5]⟩,(s [a 3 2 0,a 4 6 1,a 5 7 2,k 6 0] (s [f 11 1 5,l 12 11,c 13 214 [.t 12],m 10 13,v 14 10 0,v 15 10 1,v 16 10 2,m 7 14,m 8 15,m 9 16] (S (s [f 17 6 5,l 18 17,n 19 18,q 20 .neq 19 2,m 21 20,z 24 21 (p 1 6 5),
 N 29 21 7,z 22 21 (j 2 3),z 23 21 (j 6 4),z 25 21 (r 1 24),z 26 21 (.iaddr 7 (.t 25) (K 0)),z 27 21 (j 7 26),z 28 21 (.call true 90 [.t 22,.t 23,.t 27]),z 30 21 (.bin .neq (.t 28) (.t 29)),O 31 21 30,m 32 31,z 35 32 (p 1 6 5),N 40 32 8,
 z 33 32 (j 2 3),z 34 32 (j 6 4),z 36 32 (r 1 35),z 37 32 (.iaddr 7 (.t 36) (K 1)),z 38 32 (j 7 37),z 39 32 (.call true 90 [.t 33,.t 34,.t 38]),z 41 32 (.bin .neq (.t 39) (.t 40)),O 42 32 41] (D 42 (s [k 6 0] R) F)) (s [m 43 9,
 m 6 43] R)))),[.t 6]⟩
theorem i152:iF 152 g152:=jF Tryz.func152
def g153:GFun:=⟨⟨39,[3,4,5]⟩,(s [a 3 2 0,a 4 6 1,a 5 7 2,k 6 0] (S (s [f 8 6 5,l 9 8,n 10 9,q 11 .neq 10 3,m 12 11,z 15 12 (p 1 6 5),z 13 12 (j 2 3),z 14 12 (j 6 4),z 16 12 (r 1 15),z 17 12 (.iaddr 7 (.t 16) (K 0)),z 18 12 (j 7 17),
 z 19 12 (.call true 90 [.t 13,.t 14,.t 18]),z 20 12 (.bin .neq (.t 19) (K 3)),O 21 12 20] (D 21 (s [k 6 0] R) F)) (s [f 24 6 5,h 22 2 3,h 23 6 4,l 25 24,x 26 (.iaddr 7 (.t 25) (K 1)),h 27 7 26,G 28 90 [.t 22,.t 23,.t 27],m 7 28] (S
 (s [m 29 7,f 32 6 5,h 30 2 3,h 31 6 4,l 33 32,x 34 (.iaddr 7 (.t 33) (K 2)),h 35 7 34,G 36 90 [.t 30,.t 31,.t 35],o 37 .neq 29 36] (D 37 (s [k 6 0] R) F)) (s [m 38 7,m 6 38] R))))),[.t 6]⟩
theorem i153:iF 153 g153:=jF Tryz.func153
def g154:GFun:=⟨⟨22,[2]⟩,(s [a 2 2 0,k 4 0] (S (s [k 5 0] (B 0 (S (s [m 6 5,f 7 0 2,l 8 7,n 9 8,o 10 .lss 6 9] (D 10 F (.exit 0))) (S (.block 1 (s [f 13 0 2,l 14 13,m 15 5,i 16 2 14 15,f 17 0 16,l 18 17,m 19 1,o 20 .eql 18 19] (D 20
 (s [m 21 5,m 4 21] R) F))) (.reg [m 11 5,q 12 .add 11 1,m 5 12]))))) (s [k 4 (-1)] R))),[.t 4]⟩
theorem i154:iF 154 g154:=jF Tryz.func154
def g155:GFun:=⟨⟨50,[1]⟩,(s [a 1 2 0,Z 2] (s [f 7 0 1,l 8 7,n 9 8,x 10 (.mkslice 1 8 (.val (.int .i64 0)) (.t 9) (.t 9)),m 3 10] (S (s [k 4 1] (B 0 (S (s [m 11 4,f 12 0 1,l 13 12,n 14 13,o 15 .leq 11 14] (D 15 F (.exit 0))) (S
 (.block 1 (s [E 18 1 false,m 19 3,Q 20 1 8 18 19,m 5 20] (S (s [k 6 0] (B 2 (S (s [m 21 6,f 22 0 1,l 23 22,n 24 23,o 25 .lss 21 24] (D 25 F (.exit 2))) (S (.block 3 (s [m 28 3,m 29 6,i 30 1 28 29,l 31 30,q 32 .eql 31 0,m 33 32,y 35 33
 (p 1 0 1),M 37 33 6,M 41 33 3,y 34 33 (j 2 1),y 36 33 (r 1 35),y 38 33 (.iaddr 2 (.t 36) (.t 37)),y 39 33 (p 1 0 38),y 40 33 (r 1 39),y 42 33 (.call true 215 [.t 34,.t 40,.t 41]),A 43 33 42] (D 43 (.reg [m 44 5,m 45 6,m 46 4,i 47 1 44 45,
 (.mk none none (.store 1 (.t 47) (.t 46)))]) F))) (.reg [m 26 6,q 27 .add 26 1,m 6 27]))))) (.reg [m 48 5,m 3 48])))) (.reg [m 16 4,q 17 .add 16 1,m 4 17]))))) (s [m 49 3,m 2 49] R)))),[.t 2]⟩
theorem i155:iF 155 g155:=jF Tryz.func155
def g156:GFun:=⟨⟨19,[]⟩,(s [k 4 0] (S (s [m 6 0,n 7 6,k 8 0] (B 0 (s [o 9 .lss 8 7] (C 9 0 (S (.block 1 (s [m 10 8,m 5 10] (s [m 11 1,m 12 0,m 13 5,i 14 6 12 13,h 15 6 14,x 16 (.callv false (.t 11) [.t 15])] (D 16 (s [m 17 5,
 m 4 17] R) F)))) (.reg [q 18 .add 8 1,m 8 18])))))) (s [k 4 (-1)] R))),[.t 4]⟩
theorem i156:iF 156 g156:=jF Tryz.func156
def g157:GFun:=⟨⟨19,[]⟩,(s [k 4 0] (S (s [m 6 0,n 7 6,k 8 0] (B 0 (s [o 9 .lss 8 7] (C 9 0 (S (.block 1 (s [m 10 8,m 5 10] (s [m 11 1,m 12 0,m 13 5,i 14 7 12 13,h 15 7 14,x 16 (.callv false (.t 11) [.t 15])] (D 16 (s [m 17 5,
 m 4 17] R) F)))) (.reg [q 18 .add 8 1,m 8 18])))))) (s [k 4 (-1)] R))),[.t 4]⟩
theorem i157:iF 157 g157:=jF Tryz.func157
def g158:GFun:=⟨⟨15,[2,3]⟩,(s [a 2 7 0,a 3 1 1,b 4 false] (s [l 5 3,h 6 7 2,x 7 (.callv false (.t 5) [.t 6]),m 8 7,y 9 8 (p 1 6 2),y 10 8 (r 1 9),y 11 8 (.mkfn 216 [.t 3]),y 12 8 (.call false 96 [.t 10,.t 11]),y 13 8 (.not (.t 12)),
 A 14 8 13,m 4 14] R)),[.t 4]⟩
theorem i158:iF 158 g158:=jF Tryz.func158
def g159:GFun:=⟨⟨6,[1]⟩,(s [a 1 7 0,b 2 false] (s [f 3 0 1,l 4 3,q 5 .neq 4 8,m 2 5] R)),[.t 2]⟩
theorem i159:iF 159 g159:=jF Tryz.func159
def g160:GFun:=⟨⟨19,[]⟩,(s [k 4 0] (S (s [m 6 0,n 7 6,k 8 0] (B 0 (s [o 9 .lss 8 7] (C 9 0 (S (.block 1 (s [m 10 8,m 5 10] (s [m 11 1,m 12 0,m 13 5,i 14 2 12 13,h 15 2 14,x 16 (.callv false (.t 11) [.t 15])] (D 16 (s [m 17 5,
 m 4 17] R) F)))) (.reg [q 18 .add 8 1,m 8 18])))))) (s [k 4 (-1)] R))),[.t 4]⟩
theorem i160:iF 160 g160:=jF Tryz.func160
def g163:GFun:=⟨⟨12,[]⟩,(s [k 4 0] (s [m 5 1,m 6 0,m 7 1,n 8 7,c 9 75 [.t 6,.t 8],i 10 1 5 9,l 11 10,m 4 11] R)),[.t 4]⟩
theorem i163:iF 163 g163:=jF Tryz.func163
def g176:GFun:=⟨⟨15,[1]⟩,(s [a 1 7 0,b 2 false] (s [h 3 7 1,c 4 223 [.t 3],q 5 .leq 4 24,m 6 5,y 7 6 (j 7 1),y 8 6 (.call false 224 [.t 7]),y 9 6 (.bin .leq (.t 8) (K 6)),A 10 6 9,m 11 10,y 12 11 (j 7 1),y 13 11 (.call false 158 [.t 12,
 (.k (.clo 225 []))]),A 14 11 13,m 2 14] R)),[.t 2]⟩
theorem i176:iF 176 g176:=jF Tryz.func176
def g181:GFun:=⟨⟨25,[2]⟩,(s [x 1 (.box 7 (.t 0)),u 2 7] (s [E 5 7 true,m 3 5] (S (s [k 4 0] (B 0 (S (s [m 6 4,f 7 6 1,l 8 7,n 9 8,o 10 .lss 6 9] (D 10 F (.exit 0))) (S (.block 1 (.reg [m 13 3,f 14 6 1,l 15 14,m 16 4,i 17 7 15 16,
 h 18 7 17,c 19 181 [.t 18],x 20 (.bslice 7 [] 1 true [(0,(.t 19))]),Q 21 7 88 13 20,m 3 21])) (.reg [m 11 4,q 12 .add 11 1,m 4 12]))))) (s [m 22 3,f 23 6 1,(.mk none none (.store 1 (.t 23) (.t 22)))] (s [h 24 7 1,t 2 7 24] R))))),
 [(.c 2 7 true)]⟩
theorem i181:iF 181 g181:=jF Tryz.func181
def g183:GFun:=⟨⟨6,[1]⟩,(s [a 1 7 0,Z 2] (s [h 3 7 1,E 4 2 true,c 5 227 [.t 3,.t 4],m 2 5] R)),[.t 2]⟩
theorem i183:iF 183 g183:=jF Tryz.func183
def g185:GFun:=⟨⟨10,[]⟩,(s [k 4 0] (S (s [m 5 0,m 6 1,o 7 .lss 5 6] (D 7 (s [m 8 0,m 4 8] R) F)) (s [m 9 1,m 4 9] R))),[.t 4]⟩
theorem i185:iF 185 g185:=jF Tryz.func185
def g186:GFun:=⟨⟨56,[2,3,7]⟩,(s [a 2 2 0,a 3 6 1,Z 4] (s [E 11 2 true,m 5 11] (S (s [k 6 0] (B 0 (S (s [m 12 6,f 13 2 3,l 14 13,n 15 14,o 16 .leq 12 15] (D 16 F (.exit 0))) (S (.block 1 (s [m 22 6,u 7 2,h 20 2 2,h 21 6 3,G 23 11 [.t 21,
 .t 22],G 24 10 [.t 20,.t 23],m 19 24,v 25 19 0,v 26 19 1,t 7 2 25,m 8 26] (s [k 9 1] (S (s [m 27 6,q 28 .eql 27 0] (D 28 (.reg [k 9 2]) F)) (s [k 10 0] (B 2 (S (s [m 29 10,f 30 1 7,l 31 30,n 32 31,o 33 .lss 29 32] (D 33 F (.exit 2))) (S
 (.block 3 (s [f 36 1 7,l 37 36,m 38 10,i 39 4 37 38,f 40 2 39,l 41 40,m 42 9,o 43 .eql 41 42] (D 43 (.reg [m 44 5,m 45 6,f 46 1 7,l 47 46,m 48 10,i 49 4 47 48,f 50 0 49,l 51 50,x 52 (.build [(.val (.int .i64 0)),(.val (.string
 (ByteArray.mk #[])))] [(0,(1,(.t 45))),(1,(1,(.t 51)))]),x 53 (.bslice 2 [] 1 true [(0,(.t 52))]),Q 54 2 24 44 53,m 5 54]) F))) (.reg [m 34 10,q 35 .add 34 1,m 10 35]))))))))) (.reg [m 17 6,q 18 .add 17 1,m 6 18]))))) (s [m 55 5,
 m 4 55] R)))),[.t 4]⟩
theorem i186:iF 186 g186:=jF Tryz.func186
def g187:GFun:=⟨⟨155,[7,8,12,13,14,3000124,3000129,3000110]⟩,(s [a 7 2 1,a 8 6 2,u 12 7] (S (s [m 19 4,q 20 .lss 19 2,m 21 20,N 22 21 0,z 23 21 (.call false 36 [.t 22,K 3]),O 24 21 23] (D 24 (S (s [m 25 3,q 26 .eql 25 1,m 27 26,
 y 28 27 (p 1 3 8),y 29 27 (r 1 28),A 30 27 29,m 31 30,M 32 31 0,y 33 31 (.call false 36 [.t 32,K 3]),A 34 31 33] (D 34 (s [x 35 (.build [(.val (.int .i64 0)),(.val (.int .i64 0)),(.val (.int .i64 0)),(.val (.int .i64 0)),(.val (.string
 (ByteArray.mk #[]))),(.val (.string (ByteArray.mk #[]))),(.val (.slice none 0 0))] [(0,(1,(K 2)))]),t 12 7 35] R) F)) (s [m 36 0,m 37 3,h 38 2 7,h 39 6 8,m 40 3,c 41 189 [.t 38,.t 39,.t 40],c 42 188 [.t 36,.t 37,.t 41],t 12 7 42] R)) F))
 (S (s [m 43 5,m 44 43,M 45 44 0,y 46 44 (.call false 36 [.t 45,K 4]),A 47 44 46] (D 47 (s [f 48 0 7,m 50 0,f 51 0 7,u 13 2,l 49 48,l 52 51,n 53 52,x 54 (.calla 75 [.t 50,.t 53]),i 55 2 49 54,h 56 2 55,t 13 2 56] (s [f 57 1 13,m 59 0,
 f 60 1 13,u 14 4,l 58 57,l 61 60,n 62 61,x 63 (.calla 75 [.t 59,.t 62]),i 64 4 58 63,h 65 4 64,t 14 4 65] (s [f 66 1 14,l 67 66,m 68 3,o 69 .eql 67 68] (D 69 (s [f 70 0 13,f 72 0 14,m 74 0,l 71 70,l 73 72,h 75 2 7,h 76 6 8,G 77 189 [.t 75,
 .t 76,K 4],x 78 (.calla 188 [.t 74,K 4,.t 77]),x 79 (.bslice 7 [] 1 true [(0,(.t 78))]),x 80 (.build [(.val (.int .i64 0)),(.val (.int .i64 0)),(.val (.int .i64 0)),(.val (.int .i64 0)),(.val (.string (ByteArray.mk #[]))),(.val (.string
 (ByteArray.mk #[]))),(.val (.slice none 0 0))] [(0,(1,(K 8))),(4,(1,(.t 71))),(5,(1,(.t 73))),(6,(1,(.t 79)))]),t 12 7 80] R) F)))) F)) (S (s [m 81 0,c 82 36 [.t 81,K 6]] (D 82 (s [m 83 0,m 86 4,q 87 .sub 86 1,m 88 5,m 90 0,m 93 3,m 94 4,
 q 95 .sub 94 1,m 96 5,m 98 0,m 101 3,m 102 4,q 103 .sub 102 1,m 104 5,h 84 2 7,h 85 6 8,h 91 2 7,h 92 6 8,h 99 2 7,h 100 6 8,x 89 (.calla 187 [.t 83,.t 84,.t 85,K 3,.t 87,.t 88]),x 97 (.calla 187 [.t 90,.t 91,.t 92,.t 93,.t 95,.t 96]),
 x 105 (.calla 187 [.t 98,.t 99,.t 100,.t 101,.t 103,.t 104]),x 106 (.bslice 7 [] 3 true [(0,(.t 89)),(1,(.t 97)),(2,(.t 105))]),x 107 (.build [(.val (.int .i64 0)),(.val (.int .i64 0)),(.val (.int .i64 0)),(.val (.int .i64 0)),(.val
 (.string (ByteArray.mk #[]))),(.val (.string (ByteArray.mk #[]))),(.val (.slice none 0 0))] [(0,(1,(K 5))),(6,(1,(.t 106)))]),t 12 7 107] R) F)) (s [k 15 0] (S (s [m 108 3] (.block 0 (s [q 113 .eql 108 4,m 112 113] (D 112 (s [m 114 0,
 m 115 3,h 116 2 7,h 117 6 8,m 118 3,c 119 189 [.t 116,.t 117,.t 118],c 120 188 [.t 114,.t 115,.t 119],t 12 7 120] R) (s [q 122 .eql 108 1,m 121 122] (D 121 (.reg [m 123 0,x 124 (.bslro 1 [] 6 false [(0,(K 1)),(1,(K 1)),(2,(K 2)),(3,(K 3)),
 (4,(K 4)),(5,(K 5))]),c 125 163 [.t 123,.t 124],m 15 125]) (s [q 127 .eql 108 2,m 126 127] (D 126 (.reg [m 128 0,x 129 (.bslro 1 [] 5 false [(0,(K 6)),(1,(K 6)),(2,(K 7)),(3,(K 8)),(4,(K 12))]),c 130 163 [.t 128,.t 129],m 15 130])
 (.reg [m 109 0,x 110 (.bslro 1 [] 3 false [(0,(K 9)),(1,(K 10)),(2,(K 11))]),c 111 163 [.t 109,.t 110],m 15 111]))))))))) (s [m 132 15,c 133 214 [.t 132],m 131 133,v 134 131 0,v 135 131 1,v 136 131 2,m 16 134,m 17 135,m 18 136]
 (s [m 137 15,m 138 0,m 141 16,m 142 4,q 143 .sub 142 1,m 144 5,m 146 0,m 149 17,m 150 4,q 151 .sub 150 1,m 152 5,h 139 2 7,h 140 6 8,h 147 2 7,h 148 6 8,x 145 (.calla 187 [.t 138,.t 139,.t 140,.t 141,.t 143,.t 144]),x 153
 (.calla 187 [.t 146,.t 147,.t 148,.t 149,.t 151,.t 152]),x 154 (.calla 193 [.t 137,.t 145,.t 153]),t 12 7 154] R)))))))),[(.c 12 7 true)]⟩
theorem i187:iF 187 g187:=jF Tryz.func187 [(6,8208),(7,8208),(9,131088),(11,35184908967952),(22,42949804048)]
def g188:GFun:=⟨⟨52,[6,7]⟩,(s [u 6 7] (S (s [m 8 2,n 9 8,q 10 .gtr 9 0,m 11 10,M 12 11 0,y 13 11 (.call false 36 [.t 12,K 4]),y 14 11 (.not (.t 13)),A 15 11 14] (D 15 (s [m 16 2,m 17 0,m 18 2,n 19 18,c 20 75 [.t 17,.t 19],i 21 2 16 20,
 h 22 2 21,u 7 2,t 7 2 22] (s [f 23 0 7,l 24 23,f 25 1 7,l 26 25,x 27 (.build [(.val (.int .i64 0)),(.val (.int .i64 0)),(.val (.int .i64 0)),(.val (.int .i64 0)),(.val (.string (ByteArray.mk #[]))),(.val (.string (ByteArray.mk #[]))),
 (.val (.slice none 0 0))] [(0,(1,(K 3))),(2,(1,(.t 24))),(5,(1,(.t 26)))]),t 6 7 27] R)) F)) (S (s [m 28 1] (.block 0 (s [q 30 .eql 28 4,m 29 30] (D 29 (S (s [m 31 0,c 32 36 [.t 31,K 3]] (D 32 (s [x 33 (.build [(.val (.int .i64 0)),(.val
 (.int .i64 0)),(.val (.int .i64 0)),(.val (.int .i64 0)),(.val (.string (ByteArray.mk #[]))),(.val (.string (ByteArray.mk #[]))),(.val (.slice none 0 0))] [(0,(1,(K 7)))]),t 6 7 33] R) F)) (s [x 34 (.build [(.val (.int .i64 0)),(.val
 (.int .i64 0)),(.val (.int .i64 0)),(.val (.int .i64 0)),(.val (.string (ByteArray.mk #[]))),(.val (.string (ByteArray.mk #[]))),(.val (.slice none 0 0))] [(0,(1,(K 6)))]),t 6 7 34] R)) (s [q 36 .eql 28 3,m 35 36] (D 35 (s [m 37 0,
 c 38 75 [.t 37,K 2],m 39 1,c 40 192 [.t 38,.t 39],t 6 7 40] R) (s [q 42 .eql 28 2,m 41 42] (D 41 (s [m 43 0,c 44 75 [.t 43,K 12],x 45 (.conv .u64 (.t 44)),x 46 (.bin .shl (K 1) (.t 45)),m 47 1,c 48 192 [.t 46,.t 47],
 t 6 7 48] R) F)))))))) (s [m 49 0,c 50 75 [.t 49,K 9],c 51 192 [.t 50,K 1],t 6 7 51] R)))),[(.c 6 7 true)]⟩
theorem i188:iF 188 g188:=jF Tryz.func188
def g189:GFun:=⟨⟨73,[3,4,9,12]⟩,(s [a 3 2 0,a 4 6 1,Z 6] (s [E 14 2 true,m 7 14] (S (s [k 8 0] (B 0 (S (s [m 15 8,f 16 2 4,l 17 16,n 18 17,o 19 .leq 15 18] (D 19 F (.exit 0))) (S (.block 1 (s [m 25 8,u 9 2,h 23 2 3,h 24 6 4,
 G 26 11 [.t 24,.t 25],G 27 10 [.t 23,.t 26],m 22 27,v 28 22 0,v 29 22 1,t 9 2 28,m 10 29] (s [k 11 0] (B 2 (S (s [m 30 11,f 31 1 9,l 32 31,n 33 32,o 34 .lss 30 33] (D 34 F (.exit 2))) (S (.block 3 (s [f 37 1 9,l 38 37,m 39 11,i 40 4 38 39,
 h 41 4 40,u 12 4,t 12 4 41] (s [m 42 8,q 43 .eql 42 0,m 44 43,y 45 44 (p 1 2 12),y 46 44 (r 1 45),I 47 44 46 1,A 48 44 47,m 49 48,N 50 49 8,z 51 49 (.bin .gtr (.t 50) (K 0)),N 52 49 51,y 53 52 (p 1 2 12),y 54 52 (r 1 53),I 55 52 54 2,
 z 56 49 (.pick (.t 52) (.t 55) (.k (.val (.bool false)))),O 57 49 56,m 13 57] (s [f 58 1 12,l 59 58,m 60 2,o 61 .eql 59 60,m 62 61,M 63 62 13,A 64 62 63] (D 64 (.reg [m 65 7,m 66 8,f 67 0 12,l 68 67,x 69 (.build [(.val (.int .i64 0)),
 (.val (.string (ByteArray.mk #[])))] [(0,(1,(.t 66))),(1,(1,(.t 68)))]),x 70 (.bslice 2 [] 1 true [(0,(.t 69))]),Q 71 2 24 65 70,m 7 71]) F))))) (.reg [m 35 11,q 36 .add 35 1,m 11 36]))))))) (.reg [m 20 8,q 21 .add 20 1,m 8 21])))))
 (s [m 72 7,m 6 72] R)))),[.t 6]⟩
theorem i189:iF 189 g189:=jF Tryz.func189
def g190:GFun:=⟨⟨12,[2]⟩,(s [a 2 7 0,b 4 false] (s [h 5 7 2,c 6 128 [.t 5],m 7 6,y 8 7 (j 7 2),M 9 7 1,y 10 7 (.call false 228 [.t 8,.t 9]),A 11 7 10,m 4 11] R)),[.t 4]⟩
theorem i190:iF 190 g190:=jF Tryz.func190
def g191:GFun:=⟨⟨6,[3000004]⟩,(s [x 2 (.mov (.k (.val (.string (ByteArray.mk #[])))))] (s [m 3 0,x 4 (.bslro 1 [] 8 false [(0,(.k (.val (.string (ByteArray.mk #[97]))))),(1,(.k (.val (.string (ByteArray.mk #[98]))))),(2,(.k (.val
 (.string (ByteArray.mk #[99]))))),(3,(.k (.val (.string (ByteArray.mk #[100]))))),(4,(.k (.val (.string (ByteArray.mk #[120]))))),(5,(.k (.val (.string (ByteArray.mk #[121]))))),(6,(.k (.val (.string (ByteArray.mk #[116]))))),(7,(.k
 (.val (.string (ByteArray.mk #[117])))))]),c 5 78 [.t 3,.t 4],m 2 5] R)),[.t 2]⟩
theorem i191:iF 191 g191:=jF Tryz.func191
def g192:GFun:=⟨⟨8,[4]⟩,(s [u 4 7] (s [m 5 0,m 6 1,x 7 (.build [(.val (.int .i64 0)),(.val (.int .i64 0)),(.val (.int .i64 0)),(.val (.int .i64 0)),(.val (.string (ByteArray.mk #[]))),(.val (.string (ByteArray.mk #[]))),(.val
 (.slice none 0 0))] [(0,(1,(K 1))),(1,(1,(.t 5))),(3,(1,(.t 6)))]),t 4 7 7] R)),[(.c 4 7 true)]⟩
theorem i192:iF 192 g192:=jF Tryz.func192
def g193:GFun:=⟨⟨12,[4,5,6]⟩,(s [a 4 7 1,a 5 7 2,u 6 7] (s [m 7 0,h 8 7 4,h 9 7 5,x 10 (.bslice 7 [] 2 true [(0,(.t 8)),(1,(.t 9))]),x 11 (.build [(.val (.int .i64 0)),(.val (.int .i64 0)),(.val (.int .i64 0)),(.val (.int .i64 0)),
 (.val (.string (ByteArray.mk #[]))),(.val (.string (ByteArray.mk #[]))),(.val (.slice none 0 0))] [(0,(1,(K 4))),(1,(1,(.t 7))),(6,(1,(.t 10)))]),t 6 7 11] R)),[(.c 6 7 true)]⟩
theorem i193:iF 193 g193:=jF Tryz.func193
def g194:GFun:=⟨⟨27,[2]⟩,(s [a 2 7 0,k 4 0] (s [m 6 1,q 7 .sub 6 1,m 1 7] (S (s [k 5 0] (B 0 (S (s [m 8 5,f 9 6 2,l 10 9,n 11 10,o 12 .lss 8 11,m 13 12,M 14 13 1,y 15 13 (.bin .geq (.t 14) (K 0)),A 16 13 15] (D 16 F (.exit 0))) (S
 (.block 1 (.reg [f 19 6 2,l 20 19,m 21 5,i 22 7 20 21,h 23 7 22,m 24 1,c 25 194 [.t 23,.t 24],m 1 25])) (.reg [m 17 5,q 18 .add 17 1,m 5 18]))))) (s [m 26 1,m 4 26] R)))),[.t 4]⟩
theorem i194:iF 194 g194:=jF Tryz.func194
def g195:GFun:=⟨⟨22,[1]⟩,(s [a 1 7 0,k 2 0] (s [k 3 0] (S (s [k 4 0] (B 0 (S (s [m 5 4,f 6 6 1,l 7 6,n 8 7,o 9 .lss 5 8] (D 9 F (.exit 0))) (S (.block 1 (.reg [m 12 3,f 13 6 1,l 14 13,m 15 4,i 16 7 14 15,h 17 7 16,c 18 195 [.t 17],
 c 19 115 [.t 12,.t 18],m 3 19])) (.reg [m 10 4,q 11 .add 10 1,m 4 11]))))) (s [m 20 3,q 21 .add 20 1,m 2 21] R)))),[.t 2]⟩
theorem i195:iF 195 g195:=jF Tryz.func195
def g196:GFun:=⟨⟨20,[1]⟩,(s [a 1 7 0,b 2 false] (S (s [k 3 0] (B 0 (S (s [m 4 3,f 5 6 1,l 6 5,n 7 6,o 8 .lss 4 7] (D 8 F (.exit 0))) (S (.block 1 (s [f 11 6 1,l 12 11,m 13 3,i 14 7 12 13,h 15 7 14,c 16 196 [.t 15],w 17 16] (D 17
 (s [b 2 false] R) F))) (.reg [m 9 3,q 10 .add 9 1,m 3 10]))))) (s [h 18 7 1,c 19 229 [.t 18],m 2 19] R))),[.t 2]⟩
theorem i196:iF 196 g196:=jF Tryz.func196
def g197:GFun:=⟨⟨40,[1]⟩,(s [a 1 4 0,b 2 false] (S (.block 0 (s [f 4 0 1,l 5 4,c 6 199 [.t 5],w 7 6,m 8 7,z 9 8 (p 1 1 1),z 10 8 (r 1 9),z 11 8 (.call false 230 [.t 10]),z 12 8 (.not (.t 11)),O 13 8 12,m 14 13,z 15 14 (p 1 2 1),
 z 16 14 (r 1 15),z 17 14 (.call false 47 [.t 16,K 1,K 3]),z 18 14 (.not (.t 17)),O 19 14 18,m 3 19] (D 3 (s [b 2 false] R) (s [f 21 2 1,l 22 21,q 23 .eql 22 3,m 20 23] (D 20 (s [f 24 1 1,l 25 24,q 26 .eql 25 2,m 27 26,y 28 27 (p 1 3 1),
 y 29 27 (r 1 28),y 30 27 (.not (.t 29)),A 31 27 30,m 2 31] R) F))))) (s [f 32 3 1,l 33 32,w 34 33,m 35 34,z 36 35 (p 1 1 1),z 37 35 (r 1 36),J 38 35 37 2,O 39 35 38,m 2 39] R))),[.t 2]⟩
theorem i197:iF 197 g197:=jF Tryz.func197
def g198:GFun:=⟨⟨9,[2]⟩,(s [a 2 4 0,b 3 false] (s [f 4 0 2,l 5 4,f 6 0 1,l 7 6,o 8 .eql 5 7,m 3 8] R)),[.t 3]⟩
theorem i198:iF 198 g198:=jF Tryz.func198
def g199:GFun:=⟨⟨35,[]⟩,(s [b 2 false] (S (s [m 4 0,x 5 (.slen (.t 4)),k 6 0] (B 0 (s [o 7 .lss 6 5] (C 7 0 (S (.block 1 (s [m 8 6,m 3 8] (s [m 9 0,m 10 3,x 11 (.idx (.t 9) (.t 10)),c 12 231 [.t 11],w 13 12,m 14 13,M 15 14 0,M 16 14 3,
 y 17 14 (.idx (.t 15) (.t 16)),y 18 14 (.call false 232 [.t 17]),y 19 14 (.not (.t 18)),A 20 14 19] (D 20 (s [b 2 false] R) F)))) (.reg [q 21 .add 6 1,m 6 21])))))) (s [m 22 0,x 23 (.slen (.t 22)),c 24 47 [.t 23,K 1,K 8],m 25 24,M 26 25 0,
 y 27 25 (.idx (.t 26) (K 0)),y 28 25 (.call false 231 [.t 27]),A 29 25 28,m 30 29,M 31 30 0,y 32 30 (.call false 233 [.t 31]),y 33 30 (.not (.t 32)),A 34 30 33,m 2 34] R))),[.t 2]⟩
theorem i199:iF 199 g199:=jF Tryz.func199
def g200:GFun:=⟨⟨12,[2,3]⟩,(s [a 2 7 0,a 3 1 1,b 4 false] (s [h 5 7 2,c 6 176 [.t 5],m 7 6,y 8 7 (j 7 2),y 9 7 (.mkfn 234 [.t 3]),y 10 7 (.call false 158 [.t 8,.t 9]),A 11 7 10,m 4 11] R)),[.t 4]⟩
theorem i200:iF 200 g200:=jF Tryz.func200
def g201:GFun:=⟨⟨19,[]⟩,(s [k 4 0] (S (s [m 6 0,n 7 6,k 8 0] (B 0 (s [o 9 .lss 8 7] (C 9 0 (S (.block 1 (s [m 10 8,m 5 10] (s [m 11 1,m 12 0,m 13 5,i 14 2 12 13,h 15 2 14,x 16 (.callv false (.t 11) [.t 15])] (D 16 (s [m 17 5,
 m 4 17] R) F)))) (.reg [q 18 .add 8 1,m 8 18])))))) (s [k 4 (-1)] R))),[.t 4]⟩
theorem i201:iF 201 g201:=jF Tryz.func201
def g202:GFun:=⟨⟨19,[]⟩,(s [k 4 0] (S (s [m 6 0,n 7 6,k 8 0] (B 0 (s [o 9 .lss 8 7] (C 9 0 (S (.block 1 (s [m 10 8,m 5 10] (s [m 11 1,m 12 0,m 13 5,i 14 9 12 13,h 15 9 14,x 16 (.callv false (.t 11) [.t 15])] (D 16 (s [m 17 5,
 m 4 17] R) F)))) (.reg [q 18 .add 8 1,m 8 18])))))) (s [k 4 (-1)] R))),[.t 4]⟩
theorem i202:iF 202 g202:=jF Tryz.func202
def g203:GFun:=⟨⟨19,[3]⟩,(s [a 3 2 1,k 4 0] (S (s [m 6 0,n 7 6,k 8 0] (B 0 (s [o 9 .lss 8 7] (C 9 0 (S (.block 1 (s [m 10 8,m 5 10] (s [m 12 0,m 13 5,i 14 2 12 13,h 11 2 3,h 15 2 14,x 16 (.aeq false [1,2] (.t 11) (.t 15))] (D 16
 (s [m 17 5,m 4 17] R) F)))) (.reg [q 18 .add 8 1,m 8 18])))))) (s [k 4 (-1)] R))),[.t 4]⟩
theorem i203:iF 203 g203:=jF Tryz.func203
def g204:GFun:=⟨⟨15,[2]⟩,(s [a 2 7 0,b 3 false] (S (s [f 4 0 2,l 5 4,q 6 .eql 5 3] (D 6 (.reg [l 7 1,f 8 2 2,l 9 8,f 10 5 2,l 11 10,x 12 (.build [(.val (.int .i64 0)),(.val (.string (ByteArray.mk #[])))] [(0,(1,(.t 9))),(1,(1,
 (.t 11)))]),x 13 (.bslice 2 [] 1 true [(0,(.t 12))]),Q 14 2 24 7 13,(.mk none none (.store 1 (.t 1) (.t 14)))]) F)) (s [b 3 true] R))),[.t 3]⟩
theorem i204:iF 204 g204:=jF Tryz.func204
def g207:GFun:=⟨⟨61,[]⟩,(s [Z 2] (S (s [m 6 0,n 7 6,q 8 .lss 7 2] (D 8 (s [m 9 0,m 2 9] R) F)) (S (s [k 3 1] (B 0 (S (s [m 10 3,m 11 0,n 12 11,o 13 .lss 10 12] (D 13 F (.exit 0))) (S (.block 1 (s [m 16 0,m 17 3,i 18 2 16 17,m 20 0,
 m 21 3,q 22 .sub 21 1,i 23 2 20 22,h 19 2 18,h 24 2 23,x 25 (.aeq false [1,2] (.t 19) (.t 24))] (D 25 (s [m 26 0,m 27 3,x 28 (.slc 2 (.t 26) (some (.t 27)) none),m 4 28] (S (s [k 5 1] (B 2 (S (s [m 29 5,m 30 4,n 31 30,o 32 .lss 29 31]
 (D 32 F (.exit 2))) (S (.block 3 (s [m 35 4,m 36 5,i 37 2 35 36,m 39 4,m 40 5,q 41 .sub 40 1,i 42 2 39 41,h 38 2 37,h 43 2 42,x 44 (.aeq true [1,2] (.t 38) (.t 43))] (D 44 (s [m 45 0,m 46 3,m 47 4,m 48 5,i 49 2 47 48,h 50 2 49,
 i 51 2 45 46,(.mk none none (.store 2 (.t 51) (.t 50)))] (.reg [m 52 3,q 53 .add 52 1,m 3 53])) F))) (.reg [m 33 5,q 34 .add 33 1,m 5 34]))))) (s [m 54 0,m 55 3,x 56 (.slc 2 (.t 54) (some (.t 55)) none),(.mk none none (.clr 2 (.t 56)))]
 (s [m 57 0,m 58 3,x 59 (.slc 2 (.t 57) none (some (.t 58))),m 2 59] R)))) F))) (.reg [m 14 3,q 15 .add 14 1,m 3 15]))))) (s [m 60 0,m 2 60] R)))),[.t 2]⟩
theorem i207:iF 207 g207:=jF Tryz.func207
def g208:GFun:=⟨⟨39,[1]⟩,(s [a 1 4 0,b 2 false] (S (s [f 3 0 1,l 4 3,c 5 209 [.t 4],w 6 5,m 7 6,z 8 7 (p 1 1 1),z 9 7 (r 1 8),z 10 7 (.call false 44 [.t 9,K 1,K 4]),z 11 7 (.not (.t 10)),O 12 7 11,m 13 12,z 14 13 (p 1 2 1),z 15 13
 (r 1 14),z 16 13 (.call false 44 [.t 15,K 1,K 3]),z 17 13 (.not (.t 16)),O 18 13 17] (D 18 (s [b 2 false] R) F)) (S (s [f 19 2 1,l 20 19,q 21 .eql 20 3,m 22 21,y 23 22 (p 1 1 1),y 24 22 (r 1 23),y 25 22 (.bin .neq (.t 24) (K 2)),
 M 26 22 25,z 27 26 (p 1 3 1),z 28 26 (r 1 27),y 29 22 (.pick (.t 26) (.k (.val (.bool true))) (.t 28)),A 30 22 29] (D 30 (s [b 2 false] R) F)) (s [f 31 3 1,l 32 31,w 33 32,m 34 33,z 35 34 (p 1 1 1),z 36 34 (r 1 35),J 37 34 36 2,O 38 34 37,
 m 2 38] R)))),[.t 2]⟩
theorem i208:iF 208 g208:=jF Tryz.func208
def g209:GFun:=⟨⟨15,[]⟩,(s [b 2 false] (s [m 3 0,c 4 240 [.t 3],m 5 4,M 6 5 0,y 7 5 (.slen (.t 6)),y 8 5 (.bin .leq (.t 7) (K 8)),A 9 5 8,m 10 9,M 11 10 0,y 12 10 (.call false 241 [.t 11]),y 13 10 (.not (.t 12)),A 14 10 13,m 2 14] R)),
 [.t 2]⟩
theorem i209:iF 209 g209:=jF Tryz.func209
def g210:GFun:=⟨⟨18,[]⟩,(s [b 2 false] (S (s [k 3 0] (B 0 (S (s [m 4 3,m 5 0,n 6 5,o 7 .lss 4 6] (D 7 F (.exit 0))) (S (.block 1 (s [m 10 0,m 11 3,x 12 (.slc 1 (.t 10) none (some (.t 11))),m 13 0,m 14 3,i 15 1 13 14,l 16 15,
 G 17 146 [.t 12,.t 16]] (D 17 (s [b 2 false] R) F))) (.reg [m 8 3,q 9 .add 8 1,m 3 9]))))) (s [b 2 true] R))),[.t 2]⟩
theorem i210:iF 210 g210:=jF Tryz.func210
def g211:GFun:=⟨⟨30,[2,3,4]⟩,(s [a 2 6 0,a 3 2 1,u 4 7,b 5 false] (S (s [k 6 0] (B 0 (S (s [m 7 6,f 8 4 2,l 9 8,n 10 9,o 11 .lss 7 10] (D 11 F (.exit 0))) (S (.block 1 (s [f 14 4 2,m 16 6,l 15 14,i 17 9 15 16,e 18 0 2 17,h 19 2 18,
 h 20 2 3,x 21 (.aeq false [1,2] (.t 19) (.t 20))] (D 21 (s [f 22 4 2,l 23 22,m 24 6,i 25 9 23 24,e 26 2 7 25,h 27 7 26,c 28 181 [.t 27],t 4 7 28,b 5 true] R) F))) (.reg [m 12 6,q 13 .add 12 1,m 6 13]))))) (s [x 29 (.build [(.val
 (.int .i64 0)),(.val (.int .i64 0)),(.val (.int .i64 0)),(.val (.int .i64 0)),(.val (.string (ByteArray.mk #[]))),(.val (.string (ByteArray.mk #[]))),(.val (.slice none 0 0))] []),t 4 7 29,b 5 false] R))),[(.c 4 7 true),.t 5]⟩
theorem i211:iF 211 g211:=jF Tryz.func211
def g212:GFun:=⟨⟨18,[3]⟩,(s [a 3 2 1,b 4 false] (S (s [k 5 0] (B 0 (S (s [m 6 5,m 7 0,n 8 7,o 9 .lss 6 8] (D 9 F (.exit 0))) (S (.block 1 (s [m 12 0,m 13 5,i 14 2 12 13,h 15 2 14,h 16 2 3,x 17 (.aeq false [1,2] (.t 15) (.t 16))] (D 17
 (s [b 4 true] R) F))) (.reg [m 10 5,q 11 .add 10 1,m 5 11]))))) (s [b 4 false] R))),[.t 4]⟩
theorem i212:iF 212 g212:=jF Tryz.func212
def g213:GFun:=⟨⟨25,[3,4,5]⟩,(s [a 3 2 0,a 4 6 1,a 5 7 2,b 6 false] (s [h 9 7 5,c 10 183 [.t 9],m 7 10] (S (s [k 8 0] (B 0 (S (s [m 11 8,m 12 7,n 13 12,o 14 .lss 11 13] (D 14 F (.exit 0))) (S (.block 1 (s [m 19 7,m 20 8,i 21 2 19 20,
 h 17 2 3,h 18 6 4,h 22 2 21,G 23 242 [.t 17,.t 18,.t 22],w 24 23] (D 24 (s [b 6 false] R) F))) (.reg [m 15 8,q 16 .add 15 1,m 8 16]))))) (s [b 6 true] R)))),[.t 6]⟩
theorem i213:iF 213 g213:=jF Tryz.func213
def g214:GFun:=⟨⟨24,[]⟩,(s [k 2 0,k 3 0,k 4 0] (S (.block 0 (s [m 6 0,c 7 44 [.t 6,K 1,K 5],m 5 7] (D 5 (s [k 2 1,k 3 1,k 4 1] R) (s [m 9 0,c 10 44 [.t 9,K 6,K 8],m 8 10] (D 8 (s [k 2 2,k 3 2,k 4 2] R) (s [m 12 0,q 13 .eql 12 9,m 14 13,
 N 15 14 0,J 16 14 15 10,O 17 14 16,m 11 17] (D 11 (s [k 2 1,k 3 1,k 4 3] R) (s [m 19 0,q 20 .eql 19 11,m 18 20] (D 18 (s [k 2 2,k 3 1,k 4 3] R) (s [m 22 0,q 23 .eql 22 12,m 21 23] (D 21 (s [k 2 2,k 3 1,k 4 2] R) F))))))))))) (s [k 2 0,
 k 3 0,k 4 0] R))),[.t 2,.t 3,.t 4]⟩
theorem i214:iF 214 g214:=jF Tryz.func214
def g215:GFun:=⟨⟨56,[3,8]⟩,(s [a 3 2 0,b 6 false] (S (s [k 7 0] (B 0 (S (s [m 12 7,f 13 1 3,l 14 13,n 15 14,o 16 .lss 12 15] (D 16 F (.exit 0))) (S (.block 1 (s [f 19 1 3,l 20 19,m 21 7,i 22 6 20 21,h 23 6 22,u 8 6,t 8 6 23]
 (s [f 24 1 8,l 25 24,m 26 1,o 27 .eql 25 26,m 9 27] (S (s [k 10 0] (B 2 (S (s [m 28 10,f 29 2 8,l 30 29,n 31 30,o 32 .lss 28 31] (D 32 F (.exit 2))) (S (.block 3 (s [f 36 2 8,m 38 10,h 35 2 3,l 37 36,i 39 1 37 38,l 40 39,G 41 154 [.t 35,
 .t 40],m 11 41] (.reg [m 42 9,m 43 42,M 44 43 11,y 45 43 (.bin .geq (.t 44) (K 0)),A 46 43 45,m 47 46,M 48 47 2,M 49 47 11,y 50 47 (.call false 115 [.t 49,K 0]),y 51 47 (.iaddr 1 (.t 48) (.t 50)),y 52 47 (r 1 51),y 53 47 (.bin .gtr
 (.t 52) (K 0)),A 54 47 53,m 9 54]))) (.reg [m 33 10,q 34 .add 33 1,m 10 34]))))) (s [m 55 9] (D 55 (s [b 6 true] R) F)))))) (.reg [m 17 7,q 18 .add 17 1,m 7 18]))))) (s [b 6 false] R))),[.t 6]⟩
theorem i215:iF 215 g215:=jF Tryz.func215
def g216:GFun:=⟨⟨8,[2]⟩,(s [a 2 7 0,b 3 false] (s [h 4 7 2,l 5 1,c 6 158 [.t 4,.t 5],w 7 6,m 3 7] R)),[.t 3]⟩
theorem i216:iF 216 g216:=jF Tryz.func216
def g223:GFun:=⟨⟨19,[1,5]⟩,(s [a 1 7 0,k 2 0] (s [k 3 1] (S (s [f 6 6 1,l 7 6,n 8 7,k 9 0] (B 0 (s [o 10 .lss 9 8] (C 10 0 (S (.block 1 (s [i 11 7 7 9,h 12 7 11,u 5 7,t 5 7 12] (.reg [m 13 3,h 14 7 5,c 15 223 [.t 14],o 16 .add 13 15,
 m 3 16]))) (.reg [q 17 .add 9 1,m 9 17])))))) (s [m 18 3,m 2 18] R)))),[.t 2]⟩
theorem i223:iF 223 g223:=jF Tryz.func223
def g224:GFun:=⟨⟨20,[1,5]⟩,(s [a 1 7 0,k 2 0] (s [k 3 0] (S (s [f 6 6 1,l 7 6,n 8 7,k 9 0] (B 0 (s [o 10 .lss 9 8] (C 10 0 (S (.block 1 (s [i 11 7 7 9,h 12 7 11,u 5 7,t 5 7 12] (.reg [m 13 3,h 14 7 5,c 15 224 [.t 14],x 16 (.mx (.t 13)
 (.t 15)),m 3 16]))) (.reg [q 17 .add 9 1,m 9 17])))))) (s [m 18 3,q 19 .add 18 1,m 2 19] R)))),[.t 2]⟩
theorem i224:iF 224 g224:=jF Tryz.func224
def g225:GFun:=⟨⟨100,[1]⟩,(s [a 1 7 0,b 2 false] (s [f 5 0 1,l 6 5,f 7 6 1,l 8 7,x 9 (.build [(.val (.int .i64 0)),(.val (.int .i64 0)),(.val (.int .i64 0)),(.val (.int .i64 0)),(.val (.string (ByteArray.mk #[]))),(.val (.string
 (ByteArray.mk #[]))),(.val (.slice none 0 0))] [(0,(1,(.t 6))),(6,(1,(.t 8)))]),x 3 (.alloc 7 (.agg [(.val (.int .i64 0)),(.val (.int .i64 0)),(.val (.int .i64 0)),(.val (.int .i64 0)),(.val (.string (ByteArray.mk #[]))),(.val (.string
 (ByteArray.mk #[]))),(.val (.slice none 0 0))])),(.mk none none (.store 7 (.t 3) (.t 9)))] (s [k 4 0] (S (s [f 10 0 1,l 11 10] (.block 0 (s [q 13 .eql 11 1,m 12 13] (D 12 (s [f 14 1 1,x 15 (.loadr 1 false (.t 14)),f 16 3 1,x 17
 (.loadr 1 false (.t 16)),f 18 1 3,(.mk none none (.store 1 (.t 18) (.t 15))),f 19 3 3,(.mk none none (.store 1 (.t 19) (.t 17)))] (s [f 20 3 1,l 21 20,q 22 .eql 21 4,m 23 22,z 24 23 (p 1 1 1),z 25 23 (r 1 24),z 26 23 (p 1 3 1),z 27 23
 (r 1 26),z 28 23 (.call false 244 [.t 25,.t 27]),z 29 23 (.not (.t 28)),O 30 23 29,m 31 30,z 32 31 (p 1 1 1),z 33 31 (r 1 32),z 34 31 (.bin .lss (.t 33) (K 0)),O 35 31 34] (D 35 (s [b 2 false] R) F))) (s [q 37 .eql 11 3,m 36 37] (D 36
 (s [f 38 2 1,x 39 (.loadr 1 false (.t 38)),f 40 5 1,x 41 (.loadr 1 false (.t 40)),f 42 2 3,(.mk none none (.store 1 (.t 42) (.t 39))),f 43 5 3,(.mk none none (.store 1 (.t 43) (.t 41)))] (s [f 44 5 1,l 45 44,c 46 199 [.t 45],w 47 46]
 (D 47 (s [b 2 false] R) F))) (s [q 49 .eql 11 4,m 48 49] (D 48 (s [f 50 1 1,l 51 50,f 52 1 3,(.mk none none (.store 1 (.t 52) (.t 51))),k 4 2] (s [f 53 1 1,l 54 53,c 55 47 [.t 54,K 1,K 12],w 56 55] (D 56 (s [b 2 false] R) F)))
 (s [q 58 .eql 11 5,m 57 58] (D 57 (.reg [k 4 3]) (s [q 60 .eql 11 6,m 59 60] (D 59 (.reg [f 61 2 1,l 62 61,f 63 2 3,(.mk none none (.store 1 (.t 63) (.t 62)))]) (s [q 65 .eql 11 8,m 64 65] (D 64 (s [f 66 4 1,x 67 (.loadr 1 false (.t 66)),
 f 68 5 1,x 69 (.loadr 1 false (.t 68)),f 70 4 3,(.mk none none (.store 1 (.t 70) (.t 67))),f 71 5 3,(.mk none none (.store 1 (.t 71) (.t 69))),k 4 1] (s [f 72 4 1,l 73 72,c 74 199 [.t 73],w 75 74,m 76 75,z 77 76 (p 1 5 1),z 78 76 (r 1 77),
 z 79 76 (.call false 199 [.t 78]),z 80 76 (.not (.t 79)),O 81 76 80] (D 81 (s [b 2 false] R) F))) (S (s [q 83 .eql 11 2,m 82 83] (D 82 F (.reg [q 84 .eql 11 7,m 82 84]))) (D 82 F (s [b 2 false] R))))))))))))))))) (s [f 85 6 1,l 86 85,
 n 87 86,m 88 4,o 89 .eql 87 88,m 90 89,y 91 90 (p 1 2 1),y 92 90 (r 1 91),y 93 90 (.call false 47 [.t 92,K 0,K 3]),A 94 90 93,m 95 94,y 96 95 (j 7 1),y 97 95 (j 7 3),y 98 95 (.call false 245 [.t 96,.t 97]),A 99 95 98,m 2 99] R))))),[.t 2]⟩
theorem i225:iF 225 g225:=jF Tryz.func225
def g227:GFun:=⟨⟨31,[2]⟩,(s [a 2 7 0,Z 4] (S (s [f 6 0 2,l 7 6,q 8 .eql 7 3] (D 8 (.reg [m 9 1,f 10 2 2,l 11 10,f 12 5 2,l 13 12,x 14 (.build [(.val (.int .i64 0)),(.val (.string (ByteArray.mk #[])))] [(0,(1,(.t 11))),(1,(1,(.t 13)))]),
 c 15 249 [.t 9,.t 14],m 1 15]) F)) (S (s [k 5 0] (B 0 (S (s [m 16 5,f 17 6 2,l 18 17,n 19 18,o 20 .lss 16 19] (D 20 F (.exit 0))) (S (.block 1 (.reg [f 23 6 2,l 24 23,m 25 5,i 26 7 24 25,h 27 7 26,m 28 1,c 29 227 [.t 27,.t 28],m 1 29]))
 (.reg [m 21 5,q 22 .add 21 1,m 5 22]))))) (s [m 30 1,m 4 30] R)))),[.t 4]⟩
theorem i227:iF 227 g227:=jF Tryz.func227
def g228:GFun:=⟨⟨25,[2]⟩,(s [a 2 7 0,b 4 false] (S (s [k 5 0] (B 0 (S (s [m 6 5,f 7 6 2,l 8 7,n 9 8,o 10 .lss 6 9] (D 10 F (.exit 0))) (S (.block 1 (s [f 13 6 2,l 14 13,m 15 5,i 16 7 14 15,h 17 7 16,m 18 1,c 19 228 [.t 17,.t 18],
 w 20 19] (D 20 (s [b 4 false] R) F))) (.reg [m 11 5,q 12 .add 11 1,m 5 12]))))) (s [f 21 2 2,l 22 21,m 23 1,o 24 .leq 22 23,m 4 24] R))),[.t 4]⟩
theorem i228:iF 228 g228:=jF Tryz.func228
def g229:GFun:=⟨⟨61,[1]⟩,(s [a 1 7 0,b 2 false] (S (s [f 3 0 1,l 4 3,c 5 44 [.t 4,K 1,K 8],w 6 5,m 7 6,z 8 7 (j 7 1),z 9 7 (.call false 250 [.t 8]),z 10 7 (.not (.t 9)),O 11 7 10] (D 11 (s [b 2 false] R) F)) (S (s [f 12 0 1,l 13 12]
 (.block 0 (s [q 15 .eql 13 1,m 14 15] (D 14 (s [f 16 3 1,l 17 16,c 18 44 [.t 17,K 1,K 3],m 19 18,y 20 19 (p 1 1 1),y 21 19 (r 1 20),y 22 19 (p 1 3 1),y 23 19 (r 1 22),y 24 19 (.call false 27 [.t 21,.t 23]),A 25 19 24,m 26 25,y 27 26
 (p 1 1 1),y 28 26 (r 1 27),y 29 26 (.bin .geq (.t 28) (K 0)),A 30 26 29,m 2 30] R) (s [q 32 .eql 13 3,m 31 32] (D 31 (s [f 33 2 1,l 34 33,c 35 44 [.t 34,K 0,K 3],m 36 35,y 37 36 (p 1 5 1),y 38 36 (r 1 37),y 39 36 (.call false 209 [.t 38]),
 A 40 36 39,m 2 40] R) (s [q 42 .eql 13 6,m 41 42] (D 41 (s [f 43 2 1,l 44 43,c 45 44 [.t 44,K 0,K 3],m 2 45] R) (s [q 47 .eql 13 4,m 46 47] (D 46 (s [f 48 1 1,l 49 48,c 50 44 [.t 49,K 1,K 12],m 2 50] R) (s [q 52 .eql 13 8,m 51 52] (D 51
 (s [f 53 4 1,l 54 53,c 55 209 [.t 54],m 56 55,y 57 56 (p 1 5 1),y 58 56 (r 1 57),y 59 56 (.call false 209 [.t 58]),A 60 56 59,m 2 60] R) F)))))))))))) (s [b 2 true] R)))),[.t 2]⟩
theorem i229:iF 229 g229:=jF Tryz.func229
def g230:GFun:=⟨⟨5,[]⟩,(s [b 2 false] (s [m 3 0,c 4 47 [.t 3,K 1,K 4],m 2 4] R)),[.t 2]⟩
theorem i230:iF 230 g230:=jF Tryz.func230
def g231:GFun:=⟨⟨9,[]⟩,(s [b 2 false] (s [m 3 0,x 4 (.bin .geq (.t 3) (.k (.val (.int .u8 97)))),m 5 4,M 6 5 0,y 7 5 (.bin .leq (.t 6) (.k (.val (.int .u8 122)))),A 8 5 7,m 2 8] R)),[.t 2]⟩
theorem i231:iF 231 g231:=jF Tryz.func231
def g232:GFun:=⟨⟨9,[]⟩,(s [b 2 false] (s [m 3 0,x 4 (.bin .geq (.t 3) (.k (.val (.int .u8 48)))),m 5 4,M 6 5 0,y 7 5 (.bin .leq (.t 6) (.k (.val (.int .u8 57)))),A 8 5 7,m 2 8] R)),[.t 2]⟩
theorem i232:iF 232 g232:=jF Tryz.func232
def g233:GFun:=⟨⟨18,[]⟩,(s [b 2 false] (S (s [m 3 0] (.block 0 (S (s [x 5 (.bin .eql (.t 3) (.k (.val (.string (ByteArray.mk #[105,102]))))),m 4 5] (D 4 F (s [x 6 (.bin .eql (.t 3) (.k (.val (.string (ByteArray.mk #[116,104,101,
 110]))))),m 4 6] (D 4 F (s [x 7 (.bin .eql (.t 3) (.k (.val (.string (ByteArray.mk #[101,108,115,101]))))),m 4 7] (D 4 F (s [x 8 (.bin .eql (.t 3) (.k (.val (.string (ByteArray.mk #[116,114,117,101]))))),m 4 8] (D 4 F (s [x 9 (.bin .eql
 (.t 3) (.k (.val (.string (ByteArray.mk #[102,97,108,115,101]))))),m 4 9] (D 4 F (s [x 10 (.bin .eql (.t 3) (.k (.val (.string (ByteArray.mk #[108,105,116]))))),m 4 10] (D 4 F (s [x 11 (.bin .eql (.t 3) (.k (.val (.string
 (ByteArray.mk #[110,111,110,101]))))),m 4 11] (D 4 F (s [x 12 (.bin .eql (.t 3) (.k (.val (.string (ByteArray.mk #[115,101,108,102]))))),m 4 12] (D 4 F (s [x 13 (.bin .eql (.t 3) (.k (.val (.string (ByteArray.mk #[111,102]))))),m 4 13]
 (D 4 F (s [x 14 (.bin .eql (.t 3) (.k (.val (.string (ByteArray.mk #[109,97,120]))))),m 4 14] (D 4 F (s [x 15 (.bin .eql (.t 3) (.k (.val (.string (ByteArray.mk #[109,105,110]))))),m 4 15] (D 4 F (s [x 16 (.bin .eql (.t 3) (.k (.val
 (.string (ByteArray.mk #[119,105,116,104]))))),m 4 16] (D 4 F (.reg [x 17 (.bin .eql (.t 3) (.k (.val (.string (ByteArray.mk #[104,97,115]))))),m 4 17]))))))))))))))))))))))))) (D 4 (s [b 2 true] R) F)))) (s [b 2 false] R))),[.t 2]⟩
theorem i233:iF 233 g233:=jF Tryz.func233
def g234:GFun:=⟨⟨8,[2]⟩,(s [a 2 7 0,b 3 false] (s [f 4 2 2,l 5 4,l 6 1,o 7 .leq 5 6,m 3 7] R)),[.t 3]⟩
theorem i234:iF 234 g234:=jF Tryz.func234
def g240:GFun:=⟨⟨45,[]⟩,(s [b 2 false] (S (s [k 3 0] (B 0 (S (s [m 6 3,m 7 0,x 8 (.slen (.t 7)),o 9 .lss 6 8] (D 9 F (.exit 0))) (S (.block 1 (s [m 12 0,m 13 3,x 14 (.idx (.t 12) (.t 13)),x 15 (.bin .geq (.t 14) (.k (.val
 (.int .u8 97)))),m 16 15,M 17 16 0,M 18 16 3,y 19 16 (.idx (.t 17) (.t 18)),y 20 16 (.bin .leq (.t 19) (.k (.val (.int .u8 122)))),A 21 16 20,m 4 21] (s [m 22 0,m 23 3,x 24 (.idx (.t 22) (.t 23)),x 25 (.bin .geq (.t 24) (.k (.val
 (.int .u8 48)))),m 26 25,M 27 26 0,M 28 26 3,y 29 26 (.idx (.t 27) (.t 28)),y 30 26 (.bin .leq (.t 29) (.k (.val (.int .u8 57)))),A 31 26 30,m 5 31] (s [m 32 4,w 33 32,m 34 33,M 35 34 3,I 36 34 35 0,M 37 34 36,N 38 37 5,z 39 37 (.not
 (.t 38)),y 40 34 (.pick (.t 37) (.k (.val (.bool true))) (.t 39)),A 41 34 40] (D 41 (s [b 2 false] R) F))))) (.reg [m 10 3,q 11 .add 10 1,m 3 11]))))) (s [m 42 0,x 43 (.slen (.t 42)),q 44 .gtr 43 0,m 2 44] R))),[.t 2]⟩
theorem i240:iF 240 g240:=jF Tryz.func240
def g241:GFun:=⟨⟨6,[]⟩,(s [b 2 false] (s [c 3 263 [],m 4 0,c 5 146 [.t 3,.t 4],m 2 5] R)),[.t 2]⟩
theorem i241:iF 241 g241:=jF Tryz.func241
def g242:GFun:=⟨⟨49,[3,4,5,7,9]⟩,(s [a 3 2 0,a 4 6 1,a 5 2 2,b 6 false] (S (s [f 11 0 5,l 12 11,f 13 2 4,l 14 13,n 15 14,c 16 44 [.t 12,K 0,.t 15],w 17 16] (D 17 (s [b 6 false] R) F)) (s [f 21 0 5,u 7 2,h 19 2 3,h 20 6 4,l 22 21,
 G 23 11 [.t 20,.t 22],G 24 10 [.t 19,.t 23],m 18 24,v 25 18 0,v 26 18 1,t 7 2 25,m 8 26] (s [h 28 2 7,f 29 1 5,l 30 29,c 31 12 [.t 28,.t 30],m 27 31,v 32 27 0,v 33 27 1,u 9 4,t 9 4 32,m 10 33] (S (s [f 34 0 5,l 35 34,q 36 .eql 35 0]
 (D 36 (s [m 37 10,m 38 37,y 39 38 (p 1 2 9),y 40 38 (r 1 39),I 41 38 40 1,A 42 38 41,m 6 42] R) F)) (s [m 43 10,m 44 43,y 45 44 (p 1 2 9),y 46 44 (r 1 45),I 47 44 46 2,A 48 44 47,m 6 48] R)))))),[.t 6]⟩
theorem i242:iF 242 g242:=jF Tryz.func242
def g244:GFun:=⟨⟨14,[]⟩,(s [b 4 false] (s [m 5 1,c 6 230 [.t 5],m 7 6,M 8 7 0,M 9 7 1,y 10 7 (.call false 246 [.t 8,.t 9]),M 11 7 0,y 12 7 (.bin .eql (.t 10) (.t 11)),A 13 7 12,m 4 13] R)),[.t 4]⟩
theorem i244:iF 244 g244:=jF Tryz.func244
def g245:GFun:=⟨⟨45,[2,3]⟩,(s [a 2 7 0,a 3 7 1,b 4 false] (s [f 5 0 2,l 6 5,f 7 0 3,l 8 7,o 9 .eql 6 8,m 10 9,y 11 10 (p 1 1 2),y 12 10 (r 1 11),y 13 10 (p 1 1 3),y 14 10 (r 1 13),y 15 10 (.bin .eql (.t 12) (.t 14)),A 16 10 15,m 17 16,
 y 18 17 (p 1 2 2),y 19 17 (r 1 18),y 20 17 (p 1 2 3),y 21 17 (r 1 20),y 22 17 (.bin .eql (.t 19) (.t 21)),A 23 17 22,m 24 23,y 25 24 (p 1 3 2),y 26 24 (r 1 25),y 27 24 (p 1 3 3),y 28 24 (r 1 27),y 29 24 (.bin .eql (.t 26) (.t 28)),
 A 30 24 29,m 31 30,y 32 31 (p 1 4 2),y 33 31 (r 1 32),y 34 31 (p 1 4 3),y 35 31 (r 1 34),y 36 31 (.bin .eql (.t 33) (.t 35)),A 37 31 36,m 38 37,y 39 38 (p 1 5 2),y 40 38 (r 1 39),y 41 38 (p 1 5 3),y 42 38 (r 1 41),y 43 38 (.bin .eql
 (.t 40) (.t 42)),A 44 38 43,m 4 44] R)),[.t 4]⟩
theorem i245:iF 245 g245:=jF Tryz.func245
def g246:GFun:=⟨⟨29,[]⟩,(s [k 4 0] (S (.block 0 (s [m 6 1,q 7 .eql 6 1,m 5 7] (D 5 (s [m 8 0,c 9 247 [.t 8],m 4 9] R) (s [m 11 1,q 12 .eql 11 2,m 10 12] (D 10 (s [m 13 0,q 14 .and 13 4095,m 4 14] R) (s [m 16 1,q 17 .eql 16 3,m 15 17]
 (D 15 (s [m 18 0,q 19 .neq 18 0,c 20 248 [.t 19],m 4 20] R) (s [m 22 1,q 23 .eql 22 4,m 24 23,M 25 24 0,y 26 24 (.call false 47 [.t 25,K 0,K 999]),A 27 24 26,m 21 27] (D 21 (s [m 28 0,m 4 28] R) F))))))))) (s [k 4 0] R))),[.t 4]⟩
theorem i246:iF 246 g246:=jF Tryz.func246
def g247:GFun:=⟨⟨6,[]⟩,(s [k 2 0] (s [m 3 0,x 4 (.mn (.t 3) (K 1000000)),x 5 (.mx (.t 4) (K (-1000000))),m 2 5] R)),[.t 2]⟩
theorem i247:iF 247 g247:=jF Tryz.func247
def g248:GFun:=⟨⟨4,[]⟩,(s [k 2 0] (S (s [m 3 0] (D 3 (s [k 2 1] R) F)) (s [k 2 0] R))),[.t 2]⟩
theorem i248:iF 248 g248:=jF Tryz.func248
def g249:GFun:=⟨⟨48,[3]⟩,(s [a 3 2 1,Z 4] (s [k 5 0] (S (B 0 (S (s [m 7 5,m 8 0,n 9 8,o 10 .lss 7 9,m 11 10,M 12 11 0,M 13 11 5,y 14 11 (.iaddr 2 (.t 12) (.t 13)),y 15 11 (j 2 14),y 16 11 (j 2 3),y 17 11 (.call true 264 [.t 15,.t 16]),
 A 18 11 17] (D 18 F (.exit 0))) (.block 1 (.reg [m 19 5,q 20 .add 19 1,m 5 20])))) (S (s [m 21 5,m 22 0,n 23 22,o 24 .lss 21 23,m 25 24,M 26 25 0,M 27 25 5,y 28 25 (.iaddr 2 (.t 26) (.t 27)),y 29 25 (j 2 28),y 30 25 (j 2 3),y 31 25
 (.aeq false [1,2] (.t 29) (.t 30)),A 32 25 31] (D 32 (s [m 33 0,m 4 33] R) F)) (s [E 34 2 true,m 35 0,m 36 5,x 37 (.slc 2 (.t 35) none (some (.t 36))),Q 38 2 24 34 37,m 6 38] (s [m 39 6,h 40 2 3,x 41 (.bslice 2 [] 1 true [(0,(.t 40))]),
 Q 42 2 24 39 41,m 6 42] (s [m 43 6,m 44 0,m 45 5,x 46 (.slc 2 (.t 44) (some (.t 45)) none),Q 47 2 24 43 46,m 4 47] R))))))),[.t 4]⟩
theorem i249:iF 249 g249:=jF Tryz.func249
def g250:GFun:=⟨⟨86,[1]⟩,(s [a 1 7 0,b 2 false] (s [k 3 0] (S (s [f 7 0 1,l 8 7] (.block 0 (s [q 10 .eql 8 4,m 9 10] (D 9 (.reg [k 3 2]) (s [q 12 .eql 8 5,m 11 12] (D 11 (.reg [k 3 3]) (s [q 14 .eql 8 8,m 13 14] (D 13
 (.reg [k 3 1]) F)))))))) (S (s [f 15 6 1,l 16 15,n 17 16,m 18 3,o 19 .neq 17 18] (D 19 (s [b 2 false] R) F)) (s [f 20 0 1,l 21 20,q 22 .eql 21 3,m 23 22,z 24 23 (p 1 0 1),z 25 23 (r 1 24),J 26 23 25 6,O 27 23 26,m 4 27] (s [f 28 0 1,
 l 29 28,q 30 .eql 29 3,m 31 30,z 32 31 (p 1 0 1),z 33 31 (r 1 32),J 34 31 33 8,O 35 31 34,m 5 35] (s [f 36 0 1,l 37 36,q 38 .eql 37 1,m 39 38,z 40 39 (p 1 0 1),z 41 39 (r 1 40),J 42 39 41 4,O 43 39 42,m 6 43] (s [m 44 4,m 45 44,z 46 45
 (p 1 2 1),z 47 45 (r 1 46),J 48 45 47 0,O 49 45 48,m 50 49,M 51 50 5,M 52 50 51,z 53 52 (p 1 5 1),z 54 52 (r 1 53),z 55 52 (.bin .eql (.t 54) (.k (.val (.string (ByteArray.mk #[]))))),y 56 50 (.pick (.t 52) (.k (.val (.bool true)))
 (.t 55)),A 57 50 56,m 58 57,M 59 58 6,M 60 58 59,z 61 60 (p 1 1 1),z 62 60 (r 1 61),J 63 60 62 0,y 64 58 (.pick (.t 60) (.k (.val (.bool true))) (.t 63)),A 65 58 64,m 66 65,y 67 66 (p 1 0 1),y 68 66 (r 1 67),I 69 66 68 1,M 70 66 69,
 z 71 70 (p 1 3 1),z 72 70 (r 1 71),J 73 70 72 0,y 74 66 (.pick (.t 70) (.k (.val (.bool true))) (.t 73)),A 75 66 74,m 76 75,y 77 76 (p 1 0 1),y 78 76 (r 1 77),I 79 76 78 8,M 80 76 79,z 81 80 (p 1 4 1),z 82 80 (r 1 81),z 83 80 (.bin .eql
 (.t 82) (.k (.val (.string (ByteArray.mk #[]))))),y 84 76 (.pick (.t 80) (.k (.val (.bool true))) (.t 83)),A 85 76 84,m 2 85] R)))))))),[.t 2]⟩
theorem i250:iF 250 g250:=jF Tryz.func250
def g263:GFun:=⟨⟨2,[]⟩,(s [Z 0] (s [x 1 (.bslice 1 [] 13 false [(0,(.k (.val (.string (ByteArray.mk #[105,102]))))),(1,(.k (.val (.string (ByteArray.mk #[116,104,101,110]))))),(2,(.k (.val (.string (ByteArray.mk #[101,108,115,101]))))),
 (3,(.k (.val (.string (ByteArray.mk #[116,114,117,101]))))),(4,(.k (.val (.string (ByteArray.mk #[102,97,108,115,101]))))),(5,(.k (.val (.string (ByteArray.mk #[108,105,116]))))),(6,(.k (.val (.string (ByteArray.mk #[110,111,110,101]))))),
 (7,(.k (.val (.string (ByteArray.mk #[115,101,108,102]))))),(8,(.k (.val (.string (ByteArray.mk #[111,102]))))),(9,(.k (.val (.string (ByteArray.mk #[109,97,120]))))),(10,(.k (.val (.string (ByteArray.mk #[109,105,110]))))),(11,(.k (.val
 (.string (ByteArray.mk #[119,105,116,104]))))),(12,(.k (.val (.string (ByteArray.mk #[104,97,115])))))]),m 0 1] R)),[.t 0]⟩
theorem i263:iF 263 g263:=jF Tryz.func263
def g264:GFun:=⟨⟨24,[2,3]⟩,(s [a 2 2 0,a 3 2 1,b 4 false] (s [f 5 0 2,l 6 5,f 7 0 3,l 8 7,o 9 .lss 6 8,m 10 9,z 11 10 (p 1 0 2),z 12 10 (r 1 11),z 13 10 (p 1 0 3),z 14 10 (r 1 13),z 15 10 (.bin .eql (.t 12) (.t 14)),N 16 10 15,y 17 16
 (p 1 1 2),y 18 16 (r 1 17),y 19 16 (p 1 1 3),y 20 16 (r 1 19),y 21 16 (.bin .lss (.t 18) (.t 20)),z 22 10 (.pick (.t 16) (.t 21) (.k (.val (.bool false)))),O 23 10 22,m 4 23] R)),[.t 4]⟩
theorem i264:iF 264 g264:=jF Tryz.func264
end Go.Proofs.YtkmedfejmndmjaaGreat
namespace Go.Proofs.YtkmedfejmndmjaaGreat
open Go.Gh
open Nat (reduceEqDiff reduceLeDiff reduceAdd reduceLT)
open Int (reduceNe)
theorem mxd:Tryz.prog.follows .mixedOrders = true:=Checked.mixed Tryz.checked
theorem w44 (x lo hi:Int):Pu 44 [I x,I lo,I hi] (· = B (decide (lo≤x∧x≤hi))):=by
 refine ZY mxd i44 rfl (by simp) ?_;refine X0 ?_
 (refine R0 ?_;with_reducible repeat' first|exact trivial|intro h|refine aO ?_|refine eO ?_|apply jO)<;>simp[*]
theorem w47 (x lo hi:Int):Pu 47 [I x,I lo,I hi] (· = B (decide (lo≤x∧x≤hi))):=by
 refine ZY mxd i47 rfl (by simp) ?_;refine X0 ?_
 (refine R0 ?_;with_reducible repeat' first|exact trivial|intro h|refine aO ?_|refine eO ?_|apply jO)<;>simp[*]
end Go.Proofs.YtkmedfejmndmjaaGreat
namespace Go.Proofs.YtkmedfejmndmjaaGreat
open Go.Gh
open Nat (reduceEqDiff reduceLeDiff reduceAdd reduceLT)
open Int (reduceNe)
end Go.Proofs.YtkmedfejmndmjaaGreat
namespace Go.Proofs.YtkmedfejmndmjaaGreat
open Go.Gh
open Nat (reduceEqDiff reduceLeDiff reduceAdd reduceLT)
open Int (reduceNe)
end Go.Proofs.YtkmedfejmndmjaaGreat
namespace Go.Proofs.YtkmedfejmndmjaaGreat
open Go.Gh
open Nat (reduceEqDiff reduceLeDiff reduceAdd reduceLT)
open Int (reduceNe)
theorem w115 (x y:Int):Pu 115 [I x,I y] (· = I (max x y)):=by
 refine ZY mxd i115 rfl (by simp) ?_;refine X0 ?_
 (refine R0 ?_;with_reducible repeat' first|exact trivial|intro h|refine aO ?_|refine eO ?_|apply jO)<;>simp<;>omega
theorem w247 (n:Int):Pu 247 [I n] (· = I (satV n)):=by
 refine ZY mxd i247 rfl (by simp) ?_;refine X0 ?_
 (refine R0 ?_;with_reducible repeat' first|exact trivial|intro h|refine aO ?_|refine eO ?_|apply jO)<;>(congr 2;simp only[satV];omega)
theorem w248 (b:Bool):Pu 248 [B b] (· = I (trV b)):=by
 refine ZY mxd i248 rfl (by simp) ?_;refine X0 ?_
 (refine R0 ?_;with_reducible repeat' first|exact trivial|intro h|refine aO ?_|refine eO ?_|apply jO)<;>simp_all [trV]
theorem w117 (b:Bool):Pu 117 [B b] (· = I (trV b)):=by
 refine ZY mxd i117 rfl (by simp) ?_;refine X0 ?_
 (refine R0 ?_;with_reducible repeat' first|exact trivial|intro h|refine aO ?_|refine eO ?_|apply jO)<;>simp_all [trV]
theorem w185 (a b:Int):Pu 185 [I a,I b] (· = I (min a b)):=by
 refine ZY mxd i185 rfl (by simp) ?_;refine X0 ?_
 (refine R0 ?_;with_reducible repeat' first|exact trivial|intro h|refine aO ?_|refine eO ?_|apply jO)<;>(congr 2;omega)
theorem w116 (n:Int):Pu 116 [I n] (· = I (satV n)):=by
 refine ZY mxd i116 rfl (by simp) ?_;refine X0 ?_
 refine callS.eq (w185 _ _) ?_
 (refine R0 ?_;with_reducible repeat' first|exact trivial|intro h|refine aO ?_|refine eO ?_|apply jO)
 refine callS.eq (w115 _ _) ?_
 (refine R0 ?_;with_reducible repeat' first|exact trivial|intro h|refine aO ?_|refine eO ?_|apply jO)<;>rfl
theorem w246 (v k:Int):Pu 246 [I v,I k] (· = I (coV v k)):=by
 refine ZY mxd i246 rfl (by simp) ?_;refine X0 ?_
 (refine R0 ?_;with_reducible repeat' first|exact trivial|intro h|refine aO ?_|refine eO ?_|apply jO)
 ·refine callS.eq (w247 _) ?_
  (refine R0 ?_;with_reducible repeat' first|exact trivial|intro h|refine aO ?_|refine eO ?_|apply jO)<;>simp_all [coV]
 ·simp_all [coV]
 ·refine callS.eq (w248 _) ?_
  (refine R0 ?_;with_reducible repeat' first|exact trivial|intro h|refine aO ?_|refine eO ?_|apply jO)<;>simp_all [coV]
 ·refine callS.eq (w47 _ _ _) ?_
  (refine R0 ?_;with_reducible repeat' first|exact trivial|intro h|refine aO ?_|refine eO ?_|apply jO)<;>simp_all [coV]<;>(intros;omega)
 ·simp_all [coV]
theorem w69 (v k:Int):Pu 69 [I v,I k] (· = I (coV v k)):=by
 refine ZY mxd i69 rfl (by simp) ?_;refine X0 ?_
 (refine R0 ?_;with_reducible repeat' first|exact trivial|intro h|refine aO ?_|refine eO ?_|apply jO)
 ·refine callS.eq (w116 _) ?_
  (refine R0 ?_;with_reducible repeat' first|exact trivial|intro h|refine aO ?_|refine eO ?_|apply jO)<;>simp_all [coV]
 ·simp_all [coV]
 ·refine callS.eq (w117 _) ?_
  (refine R0 ?_;with_reducible repeat' first|exact trivial|intro h|refine aO ?_|refine eO ?_|apply jO)<;>simp_all [coV]
 ·refine callS.eq (w44 _ _ _) ?_
  (refine R0 ?_;with_reducible repeat' first|exact trivial|intro h|refine aO ?_|refine eO ?_|apply jO)<;>simp_all [coV]<;>(intros;omega)
 ·simp_all [coV]
theorem w46 (op:Int):Pu 46 [I op] (· = opG op):=by
 refine ZY mxd i46 rfl (by simp) ?_;refine X0 ?_
 (refine R0 ?_;with_reducible repeat' first|exact trivial|intro h|refine aO ?_|refine eO ?_|apply jO)
 all_goals first|(subst op;rfl)|(rw[opG0 (by omega)])
theorem w214 (op:Int):Pu 214 [I op] (· = opG op):=by
 refine ZY mxd i214 rfl (by simp) ?_;refine X0 ?_
 refine callS.eq (w44 _ _ _) ?_
 (refine R0 ?_;with_reducible repeat' first|exact trivial|intro h|refine aO ?_|refine eO ?_|apply jO)
 ·simp only[opG,opT,if_pos h]
 refine callS.eq (w44 _ _ _) ?_
 (refine R0 ?_;with_reducible repeat' first|exact trivial|intro h|refine aO ?_|refine eO ?_|apply jO)
 all_goals first|(simp only[opG,opT];rw[if_neg (by assumption),if_pos (by assumption)];done)|(subst op;rfl)|(rw[opG0 (by omega)];done)|(simp_all [opG,opT];done)|skip
theorem w230 (k:Int):Pu 230 [I k] (· = B (decide (1≤k∧k≤4))):=by
 refine ZY mxd i230 rfl (by simp) ?_;refine X0 ?_
 refine callS.eq (w47 _ _ _) ?_
 (refine R0 ?_;with_reducible repeat' first|exact trivial|intro h|refine aO ?_|refine eO ?_|apply jO)
theorem w244 (v k:Int):Pu 244 [I v,I k] (· = B (okV v k)):=by
 refine ZY mxd i244 rfl (by simp) ?_;refine X0 ?_
 refine callS.eq (w230 _) ?_
 (refine R0 ?_;with_reducible repeat' first|exact trivial|intro h|refine aO ?_|refine eO ?_|apply jO)
 ·refine callS.eq (w246 _ _) ?_
  (refine R0 ?_;with_reducible repeat' first|exact trivial|intro h|refine aO ?_|refine eO ?_|apply jO)<;>simp_all [okV]
 ·simp_all [okV]<;>(intros;omega)
theorem w27 (v k:Int):Pu 27 [I v,I k] (· = B (okV v k)):=by
 refine ZY mxd i27 rfl (by simp) ?_;refine X0 ?_
 refine callS.eq (w44 _ _ _) ?_
 (refine R0 ?_;with_reducible repeat' first|exact trivial|intro h|refine aO ?_|refine eO ?_|apply jO)
 ·refine callS.eq (w69 _ _) ?_
  (refine R0 ?_;with_reducible repeat' first|exact trivial|intro h|refine aO ?_|refine eO ?_|apply jO)<;>simp_all [okV]
 ·simp_all [okV]<;>(intros;omega)
end Go.Proofs.YtkmedfejmndmjaaGreat
namespace Go.Proofs.YtkmedfejmndmjaaGreat
open Go.Gh
open Nat (reduceEqDiff reduceLeDiff reduceAdd reduceLT)
open Int (reduceNe)
theorem w223:∀(e:Exp),wEx e≤1048576→Pu 223 [Ex e] (· = I (cntE e)):=by
 refine Exp.indA fun e ih hw=> ?_
 obtain ⟨hl,ha⟩:=Za hw
 have hc:=cntE_le e
 have he:=cntE_eq e
 rw[Y6]
 refine ZY mxd i223 rfl (by simp) ?_;refine X0 ?_
 refine ZF mxd (ι:={ i:Nat // i≤e.args.length }) (fun i=>[(3,I ((1+((e.args.take i.1).map cntE).sum : Nat):Int)),(7,ExS e.args),(8,I e.args.length),(9,I i.1)]) (fun i=>[]) (fun i=>e.args.length-i.1) ⟨0,by simp⟩ (by simp[E2,mxL]) (by simp) ?_
 rintro ⟨i,hi⟩
 have h1:=sumT_le cntE e.args i
 have h3:=sumT_le cntE e.args (i+1)
 (refine R1 (jO @Y2 (jO @YJ (jO @Y3 @YS))) ?_;with_reducible repeat' first|exact trivial|intro h|refine aO ?_|refine eO ?_|apply jO)
 ·have h2:=sumT cntE e.args i (by omega)
  refine callS.eq (ih _ (gM _) (ha _ (gM _))) ?_
  (refine R0 ?_;with_reducible repeat' first|exact trivial|intro h|refine aO ?_|refine eO ?_|apply jO)
  refine nx ⟨i+1,by omega⟩ (by simp;omega) ?_ (by simp)
  simp[E2,h2, -List.map_take]
  try (first|omega|(split<;>omega))
 ·have:i=e.args.length:=by omega
  subst this
  simp[he]
theorem w224:∀(e:Exp),wEx e≤1048576→Pu 224 [Ex e] (· = I (dpE e)):=by
 refine Exp.indA fun e ih hw=> ?_
 obtain ⟨hl,ha⟩:=Za hw
 have hc:=cntE_le e
 have he:=cntE_eq e
 have hd:=dpE_eq e
 have hq:=sumL_le (l:=e.args) fun a _ => dpE_le a
 rw[Y6]
 refine ZY mxd i224 rfl (by simp) ?_;refine X0 ?_
 refine ZF mxd (ι:={ i:Nat // i≤e.args.length }) (fun i=>[(3,I (mxL ((e.args.take i.1).map dpE))),(7,ExS e.args),(8,I e.args.length),(9,I i.1)]) (fun i=>[]) (fun i=>e.args.length-i.1) ⟨0,by simp⟩ (by simp[E2,mxL]) (by simp) ?_
 rintro ⟨i,hi⟩
 have h1:=mxT_le dpE e.args i
 (refine R1 (jO @Y2 (jO @YJ (jO @Y3 @YS))) ?_;with_reducible repeat' first|exact trivial|intro h|refine aO ?_|refine eO ?_|apply jO)
 ·have h2:=mxT dpE e.args i (by omega)
  refine callS.eq (ih _ (gM _) (ha _ (gM _))) ?_
  (refine R0 ?_;with_reducible repeat' first|exact trivial|intro h|refine aO ?_|refine eO ?_|apply jO)
  refine nx ⟨i+1,by omega⟩ (by simp;omega) ?_ (by simp)
  simp[E2,h2, -List.map_take]
  try (first|omega|(split<;>omega))
 ·have:i=e.args.length:=by omega
  subst this
  simp[hd]
  try omega
theorem w195:∀(e:Exp),wEx e≤1048576→Pu 195 [Ex e] (· = I (dpE e)):=by
 refine Exp.indA fun e ih hw=> ?_
 obtain ⟨hl,ha⟩:=Za hw
 have hc:=cntE_le e
 have he:=cntE_eq e
 have hd:=dpE_eq e
 have hq:=sumL_le (l:=e.args) fun a _ => dpE_le a
 rw[Y6]
 refine ZY mxd i195 rfl (by simp) ?_;refine X0 ?_
 refine ZF mxd (ι:={ i:Nat // i≤e.args.length }) (fun i=>[(1,.rop 7 (.agg [I e.kind,I e.n,I e.pos,I e.type,T e.sym,T e.name,ExS e.args])),(3,I (mxL ((e.args.take i.1).map dpE))),(4,I i.1)]) (fun i=>[]) (fun i=>e.args.length-i.1) ⟨0,by simp⟩ (by simp[E2,mxL]) (by simp) ?_
 rintro ⟨i,hi⟩
 have h1:=mxT_le dpE e.args i
 (refine R1 (jO @Y2 (jO @YJ (jO @Y3 @YS))) ?_;with_reducible repeat' first|exact trivial|intro h|refine aO ?_|refine eO ?_|apply jO)
 ·have h2:=mxT dpE e.args i (by omega)
  refine callS.eq (ih _ (gM _) (ha _ (gM _))) ?_
  (refine R0 ?_;with_reducible repeat' first|exact trivial|intro h|refine aO ?_|refine eO ?_|apply jO)
  refine callS.eq (w115 _ _) ?_
  (refine R0 ?_;with_reducible repeat' first|exact trivial|intro h|refine aO ?_|refine eO ?_|apply jO)
  refine nx ⟨i+1,by omega⟩ (by simp;omega) ?_ (by simp)
  simp[E2,h2, -List.map_take]
  try (first|omega|(split<;>omega))
 ·have:i=e.args.length:=by omega
  subst this
  simp[hd]
  try omega
theorem w194:∀(e:Exp),wEx e≤1048576→∀left:Int,0≤left→left≤1048576→Pu 194 [Ex e,I left] (· = I (max (left-cntE e) (-1))):=by
 refine Exp.indA fun e ih hw left l0 l1=> ?_
 obtain ⟨hl,ha⟩:=Za hw
 have hc:=cntE_le e
 have he:=cntE_eq e
 rw[Y6]
 refine ZY mxd i194 rfl (by simp) ?_;refine X0 ?_
 simp +contextual (disch:=omega) only[Z2]
 refine ZF mxd (ι:={ i:Nat // i≤e.args.length }) (fun i=>[(2,.rop 7 (.agg [I e.kind,I e.n,I e.pos,I e.type,T e.sym,T e.name,ExS e.args])),(1,I (max (left-1-((e.args.take i.1).map cntE).sum) (-1))),(5,I i.1)]) (fun i=>[]) (fun i=>e.args.length-i.1) ⟨0,by simp⟩ (by simp[E2];try omega) (by simp) ?_
 rintro ⟨i,hi⟩
 have h1:=sumT_le cntE e.args i
 generalize hs:((e.args.take i).map cntE).sum = s at *
 (refine R1 (jO @Y2 (jO @YJ (jO @Y3 @YS))) ?_;with_reducible repeat' first|exact trivial|intro h|refine aO ?_|refine eO ?_|apply jO)
 ·have h2:=sumT cntE e.args i (by omega)
  refine callS.eq (ih _ (gM _) (ha _ (gM _)) _ (by omega) (by omega)) ?_
  (refine R0 ?_;with_reducible repeat' first|exact trivial|intro h|refine aO ?_|refine eO ?_|apply jO)
  refine nx ⟨i+1,by omega⟩ (by simp;omega) ?_ (by simp)
  simp[E2,h2,hs, -List.map_take]
  try omega
 all_goals first|(congr 2;omega)|(rw[tL (by omega)] at hs;congr 2;omega)
theorem w43 (x:Sym) (hx:smSy x):Pu 43 [Sy x] (· = Sy x):=by
 unfold smSy at hx
 refine Pure.bor ?_
 refine ZY mxd i43 rfl (by simp) ?_;refine X0 ?_
 (refine R0 ?_;with_reducible repeat' first|exact trivial|intro h|refine aO ?_|refine eO ?_|apply jO)
 exact .agg (.cons .refl (.cons (Bor.allM (fun _ => rfl) Z4 rfl) .nil))
theorem w10 (g:Gram) (s:ByteArray) (hg:Zw g):Pu 10 [Gr g,T s] (· = .tup [Sy (Zq g.syms s),B (hSym g.syms s)]):=by
 refine Pure.bor ?_
 have hlen:=hg.1
 refine ZY mxd i10 rfl (by simp) ?_;refine X0 ?_
 refine ZF mxd (ι:={ i:Nat // i≤g.syms.length∧∀y∈g.syms.take i,decide (y.name=s)=false }) (fun i=>[(1,T s),(2,.rop 2 (Gr g)),(4,.raw 2),(6,I i.1)]) (fun _ => []) (fun i=>g.syms.length-i.1) ⟨0,by simp⟩ (by simp[E2]) rfl ?_
 rintro ⟨i,hi,hn⟩
 (refine R0 ?_;with_reducible repeat' first|exact trivial|intro h|refine aO ?_|refine eO ?_|apply jO)
 ·subst h
  refine callS.eq (w43 g.syms[i] (hg.2.2.1 _ (gM _))) ?_
  (refine R0 ?_;with_reducible repeat' first|exact trivial|intro h|refine aO ?_|refine eO ?_|apply jO)
  have e:=find_hit (p:=fun x:Sym=>decide (x.name=g.syms[i].name)) (xs:=g.syms) (i:=i) (by assumption) (by simp) hn
  simp only[Zq,hSym,e]
  exact .refl
 ·exact nx ⟨i+1,by omega,Zg (by assumption) (by simp[*]) hn⟩ (by simp;omega) (by simp[E2]) rfl
 ·have:i=g.syms.length:=by omega
  subst this
  rw[tL (Nat.le_refl _)] at hn
  have e:=find_none hn
  simp only[Zq,hSym,e]
  exact .tup (.cons (.agg (.cons .refl (.cons .nil .nil))) (.cons .refl .nil))
theorem w12 (g:Sym) (s:ByteArray) (hg:smSy g):Pu 12 [Sy g,T s] (· = .tup [At (fAtt g.atts s),B (hAtt g.atts s)]):=by
 unfold smSy at hg
 refine ZY mxd i12 rfl (by simp) ?_;refine X0 ?_
 refine ZF mxd (ι:={ i:Nat // i≤g.atts.length∧∀y∈g.atts.take i,decide (y.name=s)=false }) (fun i=>[(1,T s),(2,.rop 2 (Sy g)),(4,.raw 4),(6,I i.1)]) (fun _ => []) (fun i=>g.atts.length-i.1) ⟨0,by simp⟩ (by simp[E2]) rfl ?_
 rintro ⟨i,hi,hn⟩
 (refine R0 ?_;with_reducible repeat' first|exact trivial|intro h|refine aO ?_|refine eO ?_|apply jO)
 ·subst h
  have e:=find_hit (p:=fun x:Att=>decide (x.name=g.atts[i].name)) (xs:=g.atts) (i:=i) (by assumption) (by simp) hn
  simp only[fAtt,hAtt,e]
  rfl
 ·exact nx ⟨i+1,by omega,Zg (by assumption) (by simp[*]) hn⟩ (by simp;omega) (by simp[E2]) rfl
 ·have:i=g.atts.length:=by omega
  subst this
  rw[tL (Nat.le_refl _)] at hn
  have e:=find_none hn
  simp only[fAtt,hAtt,e]
  rfl
theorem w48 (g:Gram) (s:ByteArray) (hg:Zw g):Pu 48 [Gr g,T s] (· = .tup [Sy (Zq g.syms s),B (hSym g.syms s)]):=by
 refine Pure.bor ?_
 have hlen:=hg.1
 refine ZY mxd i48 rfl (by simp) ?_;refine X0 ?_
 refine ZF mxd (ι:={ i:Nat // i≤g.syms.length∧∀y∈g.syms.take i,decide (y.name=s)=false }) (fun i=>[(1,T s),(4,.raw 2),(9,SyS g.syms),(10,I g.syms.length),(11,I i.1)]) (fun _ => []) (fun i=>g.syms.length-i.1) ⟨0,by simp⟩ (by simp[E2]) rfl ?_
 rintro ⟨i,hi,hn⟩
 (refine R0 ?_;with_reducible repeat' first|exact trivial|intro h|refine aO ?_|refine eO ?_|apply jO)
 ·subst h
  have e:=find_hit (p:=fun x:Sym=>decide (x.name=g.syms[i].name)) (xs:=g.syms) (i:=i) (by assumption) (by simp) hn
  simp only[Zq,hSym,e]
  exact .refl
 ·exact nx ⟨i+1,by omega,Zg (by assumption) (by simp[*]) hn⟩ (by simp;omega) (by simp[E2]) rfl
 ·have:i=g.syms.length:=by omega
  subst this
  rw[tL (Nat.le_refl _)] at hn
  have e:=find_none hn
  simp only[Zq,hSym,e]
  exact .tup (.cons (.agg (.cons .refl (.cons .nil .nil))) (.cons .refl .nil))
theorem w49 (g:Sym) (s:ByteArray) (hg:smSy g):Pu 49 [Sy g,T s] (· = .tup [At (fAtt g.atts s),B (hAtt g.atts s)]):=by
 unfold smSy at hg
 refine ZY mxd i49 rfl (by simp) ?_;refine X0 ?_
 refine ZF mxd (ι:={ i:Nat // i≤g.atts.length∧∀y∈g.atts.take i,decide (y.name=s)=false }) (fun i=>[(1,T s),(4,.raw 4),(9,AtS g.atts),(10,I g.atts.length),(11,I i.1)]) (fun _ => []) (fun i=>g.atts.length-i.1) ⟨0,by simp⟩ (by simp[E2]) rfl ?_
 rintro ⟨i,hi,hn⟩
 (refine R0 ?_;with_reducible repeat' first|exact trivial|intro h|refine aO ?_|refine eO ?_|apply jO)
 ·subst h
  have e:=find_hit (p:=fun x:Att=>decide (x.name=g.atts[i].name)) (xs:=g.atts) (i:=i) (by assumption) (by simp) hn
  simp only[fAtt,hAtt,e]
  rfl
 ·exact nx ⟨i+1,by omega,Zg (by assumption) (by simp[*]) hn⟩ (by simp;omega) (by simp[E2]) rfl
 ·have:i=g.atts.length:=by omega
  subst this
  rw[tL (Nat.le_refl _)] at hn
  have e:=find_none hn
  simp only[fAtt,hAtt,e]
  rfl
theorem w181:∀(e:Exp),wEx e≤1048576→Pu 181 [Ex e] (· = Ex e):=by
 refine Exp.indA fun e ih hw=> ?_
 obtain ⟨hl,ha⟩:=Za hw
 refine Pure.bor ?_
 refine ZY mxd i181 rfl (by simp) ?_;refine X0 ?_
 (refine R1 @XE ?_;with_reducible repeat' first|exact trivial|intro h|refine aO ?_|refine eO ?_|apply jO)
 rename_i r hr q
 have h0:=ZX h
 (replace h0:=h0;simp only[VN] at h0)
 refine Y1 mxd (ι:={ x:Nat×Nat // x.2≤e.args.length }) (fun x=>[(1,.ptr r 7 0 0),(2,.raw 7),(3,.own x.1.1 7 0 x.1.2),(4,I x.1.2)]) (fun x=>[(x.1.1,7,(e.args.take x.1.2).map Ex),(r,7,[Ex e])]) (fun x=>e.args.length-x.1.2) ⟨(q,0),by simp⟩ (by simp[E2]) (by simp[subH,ZU,names,h0]) ?_
 rintro ⟨⟨q,i⟩,hi⟩ hn
 dsimp only at hi hn ⊢
 (replace hn:=hn;simp only[VN] at hn)
 (refine R1 (jO @XE (jO @Z9 (jO @Z7 (jO @Z6 (jO hn @t_ldf))))) ?_;with_reducible repeat' first|exact trivial|intro h|refine aO ?_|refine eO ?_|apply jO)
 ·refine callS.eq (ih _ (gM _) (ha _ (gM _))) ?_
  (refine R1 (jO @XE (jO @Z9 (jO @Z7 (jO @Z6 (jO hn @t_ldf))))) ?_;with_reducible repeat' first|exact trivial|intro h|refine aO ?_|refine eO ?_|apply jO)
  rename_i q2
  have h2:=ZX h
  (replace h2:=h2;simp only[VN] at h2)
  (refine R1 (jO @XE (jO @Z9 (jO @Z7 (jO @Z6 (jO hn (jO h2 @t_ldf)))))) ?_;with_reducible repeat' first|exact trivial|intro h|refine aO ?_|refine eO ?_|apply jO)
  ·simp;omega
  rename_i q3
  have h3:=ZX h
  (replace h3:=h3;simp only[VN] at h3)
  rw[takeApp Ex e.args i (by assumption)]
  exact px ⟨(q3,i+1),by omega⟩ (by simp;omega) (by simp[E2]) (by simp[subH,ZU,names,h3])
 ·rw[Y6 e]
  refine .agg (.cons .refl (.cons .refl (.cons .refl (.cons .refl (.cons .refl (.cons .refl (.cons ?_ .nil)))))))
  have:i=e.args.length:=by omega
  subst this
  rw[List.take_length]
  exact Bor.allM view_Ex Z4 rfl
theorem w11 (r:Rul) (p:Int) (hr:Zk r):Pu 11 [Ru r,I p] (· = T (Zz r p)):=by
 have hl:=hr.1
 refine ZY mxd i11 rfl (by simp) ?_;refine X0 ?_
 (refine R0 ?_;with_reducible repeat' first|exact trivial|intro h|refine aO ?_|refine eO ?_|apply jO)
 ·simp[Zz,h]
 refine callS.eq (w44 _ _ _) ?_
 (refine R0 ?_;with_reducible repeat' first|exact trivial|intro h|refine aO ?_|refine eO ?_|apply jO)
 ·simp only[Zz,if_neg (show ¬p=0 from by assumption),if_pos h,Z1 (show (p-1).toNat < r.right.length by omega)]
 ·simp only[Zz,if_neg (show ¬p=0 from by assumption),if_neg h];rfl
theorem w93 (r:Rul) (p:Int) (hr:Zk r):Pu 93 [Ru r,I p] (· = T (Zz r p)):=by
 have hl:=hr.1
 refine ZY mxd i93 rfl (by simp) ?_;refine X0 ?_
 (refine R0 ?_;with_reducible repeat' first|exact trivial|intro h|refine aO ?_|refine eO ?_|apply jO)
 ·simp[Zz,h]
 refine callS.eq (w47 _ _ _) ?_
 (refine R0 ?_;with_reducible repeat' first|exact trivial|intro h|refine aO ?_|refine eO ?_|apply jO)
 ·simp only[Zz,if_neg (show ¬p=0 from by assumption),if_pos h,Z1 (show (p-1).toNat < r.right.length by omega)]
 ·simp only[Zz,if_neg (show ¬p=0 from by assumption),if_neg h];rfl
end Go.Proofs.YtkmedfejmndmjaaGreat
