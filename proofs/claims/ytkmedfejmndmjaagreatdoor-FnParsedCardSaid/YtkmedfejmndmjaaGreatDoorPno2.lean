/- The tied card of the law holds. No condition. -/
import Derived.Test.YtkmedfejmndmjaaGreatDoorPno1
import Derived.Test.YtkmedfejmndmjaaGreatDoorRows
import Derived.Test.YtkmedfejmndmjaaGreatDoorChecked
import Derived.KernelRfl
import Derived.Test.YtkmedfejmndmjaaGreatDoorCards
import Derived.Test.YtkmedfejmndmjaaGreatDoorTie
set_option maxHeartbeats 40000000
set_option maxRecDepth 20000
set_option linter.unusedSimpArgs false
set_option linter.unusedVariables false
namespace Go.Proofs.YtkmedfejmndmjaaGreatDoor
open Go.Gh Go.Gh.Z
abbrev iF:=IsFun Tryz.prog
abbrev Pu:=Pure Tryz.prog
abbrev Gc:=GCalls Tryz.prog
def g3:GFun:=⟨⟨52,[3,5]⟩,(s [b 2 false] (S (s [m 9 0,c 10 8 [.t 9]] (D 10 (s [b 2 true] R) F)) (s [m 11 0,c 12 9 [.t 11],u 3 7,t 3 7 12] (s [h 13 7 3,c 14 10 [.t 13],m 4 14] (S (s [m 15 4,h 16 7 3,c 17 11 [.t 16],o 18 .neq 15 17,
 m 19 18,N 20 19 4,z 21 19 (.bin .neq (.t 20) (.k (.val (.string (ByteArray.mk #[]))))),z 22 19 (j 7 3),z 23 19 (.call false 12 [.t 22]),z 24 19 (.beq true (.t 21) (.t 23)),O 25 19 24] (D 25 (s [b 2 false] R) F)) (s [m 27 4,c 28 13 [.t 27],
 m 26 28,v 29 26 0,v 30 26 1,u 5 7,t 5 7 29,m 6 30] (s [m 32 4,c 33 14 [.t 32],m 31 33,v 34 31 0,v 35 31 1,m 7 34,m 8 35] (S (s [m 36 4,x 37 (.bin .eql (.t 36) (.k (.val (.string (ByteArray.mk #[]))))),m 38 37,N 39 38 7,z 40 38 (.len
 (.t 39)),J 41 38 40 0,O 42 38 41] (D 42 (s [m 43 6,q 44 .geq 43 0,m 2 44] R) F)) (s [m 45 6,q 46 .eql 45 (-1),m 47 46,y 48 47 (j 7 5),y 49 47 (j 7 3),y 50 47 (.call false 15 [.t 48,.t 49]),A 51 47 50,m 2 51] R))))))))),[.t 2]⟩
theorem i3:iF 3 g3:=jF Tryz.func3
def g5:GFun:=⟨⟨71,[4,6,8]⟩,(s [b 2 false] (S (s [m 10 0,c 11 8 [.t 10]] (D 11 (s [b 2 true] R) F)) (s [m 12 0,c 13 20 [.t 12],m 3 13] (s [m 15 3,c 16 13 [.t 15],m 14 16,v 17 14 0,v 18 14 1,u 4 7,t 4 7 17,m 5 18] (s [m 20 3,
 c 21 16 [.t 20],m 19 21,v 22 19 0,v 23 19 1,u 6 7,t 6 7 22,m 7 23] (S (s [m 24 5,m 25 7,o 26 .neq 24 25,m 27 26,z 28 27 (j 7 4),z 29 27 (j 7 6),z 30 27 (.call false 21 [.t 28,.t 29]),z 31 27 (.not (.t 30)),O 32 27 31] (D 32
 (s [b 2 false] R) F)) (S (s [m 33 5,q 34 .geq 33 0] (D 34 (s [m 35 5,m 36 3,x 37 (.slen (.t 36)),o 38 .leq 35 37,m 39 38,y 40 39 (p 1 0 4),y 41 39 (r 1 40),I 42 39 41 0,A 43 39 42,m 44 43,y 45 44 (p 1 6 4),y 46 44 (r 1 45),y 47 44 (.len
 (.t 46)),I 48 44 47 0,A 49 44 48,m 2 49] R) F)) (s [m 51 3,x 52 (.bin .add (.t 51) (.k (.val (.string (ByteArray.mk #[32,41]))))),c 53 13 [.t 52],m 50 53,v 54 50 0,v 55 50 1,u 8 7,t 8 7 54,m 9 55] (s [m 56 9,m 57 3,x 58 (.slen (.t 57)),
 q 59 .add 58 1,o 60 .eql 56 59,m 61 60,N 62 61 3,z 63 61 (.slen (.t 62)),z 64 61 (.bin .add (.t 63) (K 2)),z 65 61 (.bin .gtr (.t 64) (K 160)),N 66 61 65,M 67 66 9,I 68 66 67 160,z 69 61 (.pick (.t 66) (.t 68) (.k (.val (.bool false)))),
 O 70 61 69,m 2 70] R))))))))),[.t 2]⟩
theorem i5:iF 5 g5:=jF Tryz.func5
def g6:GFun:=⟨⟨28,[]⟩,(s [b 2 false] (S (s [m 7 0,x 8 (.slen (.t 7)),q 9 .gtr 8 1048576] (D 9 (s [b 2 true] R) F)) (s [m 11 0,c 12 22 [.t 11],m 10 12,v 13 10 0,v 14 10 1,m 3 13,m 4 14] (s [m 16 0,c 17 23 [.t 16],m 15 17,v 18 15 0,
 v 19 15 1,m 5 18,m 6 19] (S (s [m 20 5,m 21 3,o 22 .neq 20 21,m 23 22,N 24 23 6,N 25 23 4,z 26 23 (.beq true (.t 24) (.t 25)),O 27 23 26] (D 27 (s [b 2 false] R) F)) (s [b 2 true] R)))))),[.t 2]⟩
theorem i6:iF 6 g6:=jF Tryz.func6
def g7:GFun:=⟨⟨84,[8,10,12]⟩,(s [b 2 false] (S (s [m 16 0,c 17 8 [.t 16]] (D 17 (s [b 2 true] R) F)) (s [m 18 0,c 19 24 [.t 18],m 3 19] (s [m 21 3,c 22 23 [.t 21],m 20 22,v 23 20 0,v 24 20 1,m 4 23,m 5 24] (s [m 26 3,c 27 22 [.t 26],
 m 25 27,v 28 25 0,v 29 25 1,m 6 28,m 7 29] (S (s [m 30 5,m 31 7,x 32 (.beq true (.t 30) (.t 31)),m 33 32,N 34 33 4,N 35 33 6,z 36 33 (.bin .neq (.t 34) (.t 35)),O 37 33 36] (D 37 (s [b 2 false] R) F)) (S (s [m 38 5,w 39 38,m 40 39,
 N 41 40 4,z 42 40 (.slen (.t 41)),z 43 40 (.bin .gtr (.t 42) (K 160)),O 44 40 43] (D 44 (s [m 46 3,c 47 13 [.t 46],m 45 47,v 48 45 0,v 49 45 1,u 8 7,t 8 7 48,m 9 49] (s [m 50 9,q 51 .lss 50 0,m 52 5,x 53 (.beq false (.t 51) (.t 52)),
 m 2 53] R)) F)) (s [m 55 3,c 56 13 [.t 55],m 54 56,v 57 54 0,v 58 54 1,u 10 7,t 10 7 57,m 11 58] (s [m 60 4,c 61 13 [.t 60],m 59 61,v 62 59 0,v 63 59 1,u 12 7,t 12 7 62,m 13 63] (s [m 65 4,c 66 23 [.t 65],m 64 66,v 67 64 0,v 68 64 1,
 m 14 67,m 15 68] (s [m 69 13,q 70 .eql 69 (-1),m 71 70,y 72 71 (j 7 12),y 73 71 (j 7 10),y 74 71 (.call false 15 [.t 72,.t 73]),A 75 71 74,m 76 75,M 77 76 15,A 78 76 77,m 79 78,M 80 79 14,M 81 79 4,y 82 79 (.bin .eql (.t 80) (.t 81)),
 A 83 79 82,m 2 83] R))))))))))),[.t 2]⟩
theorem i7:iF 7 g7:=jF Tryz.func7
def g8:GFun:=⟨⟨6,[]⟩,(s [b 2 false] (s [m 3 0,n 4 3,q 5 .gtr 4 1048576,m 2 5] R)),[.t 2]⟩
theorem i8:iF 8 g8:=jF Tryz.func8
def g9:GFun:=⟨⟨6,[2]⟩,(s [u 2 7] (s [m 3 0,c 4 26 [.t 3],c 5 25 [.t 4],t 2 7 5] R)),[(.c 2 7 true)]⟩
theorem i9:iF 9 g9:=jF Tryz.func9
def g10:GFun:=⟨⟨8,[1]⟩,(s [a 1 7 0,x 2 (.mov (.k (.val (.string (ByteArray.mk #[])))))] (S (s [h 3 7 1,c 4 27 [.t 3],w 5 4] (D 5 (s [x 2 (.mov (.k (.val (.string (ByteArray.mk #[])))))] R) F)) (s [h 6 7 1,c 7 28 [.t 6],m 2 7] R))),
 [.t 2]⟩
theorem i10:iF 10 g10:=jF Tryz.func10
def g11:GFun:=⟨⟨8,[1]⟩,(s [a 1 7 0,x 2 (.mov (.k (.val (.string (ByteArray.mk #[])))))] (S (s [h 3 7 1,c 4 12 [.t 3],w 5 4] (D 5 (s [x 2 (.mov (.k (.val (.string (ByteArray.mk #[])))))] R) F)) (s [h 6 7 1,c 7 29 [.t 6],m 2 7] R))),
 [.t 2]⟩
theorem i11:iF 11 g11:=jF Tryz.func11
def g12:GFun:=⟨⟨15,[1]⟩,(s [a 1 7 0,b 2 false] (s [h 3 7 1,c 4 30 [.t 3,K 24],q 5 .geq 4 0,m 6 5,y 7 6 (j 7 1),y 8 6 (.call false 31 [.t 7]),y 9 6 (.bin .leq (.t 8) (K 6)),A 10 6 9,m 11 10,y 12 11 (j 7 1),y 13 11
 (.call false 32 [.t 12]),A 14 11 13,m 2 14] R)),[.t 2]⟩
theorem i12:iF 12 g12:=jF Tryz.func12
def g13:GFun:=⟨⟨77,[2,7]⟩,(s [u 2 7,k 3 0] (s [m 9 0,c 10 33 [.t 9],m 8 10,v 11 8 0,v 12 8 1,m 4 11,m 5 12] (S (s [m 13 5,q 14 .geq 13 0] (D 14 (s [x 15 (.build [(.val (.int .i64 0)),(.val (.int .i64 0)),(.val (.int .i64 0)),(.val
 (.int .i64 0)),(.val (.string (ByteArray.mk #[]))),(.val (.string (ByteArray.mk #[]))),(.val (.slice none 0 0))] []),m 16 5,t 2 7 15,m 3 16] R) F)) (s [m 17 4,x 18 (.build [(.val (.slice none 0 0)),(.val (.int .i64 0)),(.val
 (.bool false))] [(0,(1,(.t 17)))]),x 19 (.box 3 (.t 18)),m 6 19] (s [m 20 6,c 21 34 [.t 20],u 7 7,t 7 7 21] (S (.block 0 (s [m 23 6,x 24 (.nck (.t 23)),f 25 2 24,l 26 25,m 27 26,N 28 27 6,z 29 27 (.nck (.t 28)),z 30 27 (p 1 1 29),z 31 27
 (r 1 30),N 32 27 4,z 33 27 (.len (.t 32)),z 34 27 (.bin .lss (.t 31) (.t 33)),O 35 27 34,m 36 35,M 37 36 6,y 38 36 (.nck (.t 37)),y 39 36 (p 1 1 38),y 40 36 (r 1 39),M 41 36 4,y 42 36 (.len (.t 41)),y 43 36 (.bin .eql (.t 40) (.t 42)),
 A 44 36 43,m 22 44] (D 22 (s [x 45 (.build [(.val (.int .i64 0)),(.val (.int .i64 0)),(.val (.int .i64 0)),(.val (.int .i64 0)),(.val (.string (ByteArray.mk #[]))),(.val (.string (ByteArray.mk #[]))),(.val (.slice none 0 0))] []),m 46 0,
 x 47 (.slen (.t 46)),t 2 7 45,m 3 47] R) (s [m 49 6,x 50 (.nck (.t 49)),f 51 2 50,l 52 51,m 53 52,N 54 53 6,z 55 53 (.nck (.t 54)),z 56 53 (p 1 1 55),z 57 53 (r 1 56),N 58 53 4,z 59 53 (.len (.t 58)),z 60 53 (.bin .lss (.t 57) (.t 59)),
 O 61 53 60,m 48 61] (D 48 (s [x 62 (.build [(.val (.int .i64 0)),(.val (.int .i64 0)),(.val (.int .i64 0)),(.val (.int .i64 0)),(.val (.string (ByteArray.mk #[]))),(.val (.string (ByteArray.mk #[]))),(.val (.slice none 0 0))] []),m 63 4,
 m 64 6,x 65 (.nck (.t 64)),f 66 1 65,t 2 7 62,l 67 66,i 68 4 63 67,f 69 2 68,l 70 69,m 3 70] R) (s [h 72 7 7,c 73 27 [.t 72],w 74 73,m 71 74] (D 71 (s [x 75 (.build [(.val (.int .i64 0)),(.val (.int .i64 0)),(.val (.int .i64 0)),(.val
 (.int .i64 0)),(.val (.string (ByteArray.mk #[]))),(.val (.string (ByteArray.mk #[]))),(.val (.slice none 0 0))] []),t 2 7 75,k 3 0] R) F))))))) (s [h 76 7 7,t 2 7 76,k 3 (-1)] R))))))),[(.c 2 7 true),.t 3]⟩
theorem i13:iF 13 g13:=jF Tryz.func13
def g14:GFun:=⟨⟨46,[6]⟩,(s [Z 2,k 3 0] (S (s [m 8 0,x 9 (.slen (.t 8)),q 10 .gtr 9 160] (D 10 (s [E 11 4 true,m 2 11,k 3 160] R) F)) (s [E 12 4 true,m 4 12] (s [k 5 0] (S (B 0 (S (s [m 13 5,m 14 0,x 15 (.slen (.t 14)),o 16 .lss 13 15]
 (D 16 F (.exit 0))) (.block 1 (S (s [m 17 0,m 18 5,x 19 (.idx (.t 17) (.t 18)),x 20 (.bin .eql (.t 19) (.k (.val (.int .u8 32))))] (D 20 (s [m 21 5,q 22 .add 21 1,m 5 22] (.exit 1)) F)) (s [m 24 0,m 25 5,c 26 35 [.t 24,.t 25],m 23 26,
 v 27 23 0,v 28 23 1,u 6 4,t 6 4 27,m 7 28] (S (s [m 29 7,q 30 .eql 29 0,m 31 30,N 32 31 4,z 33 31 (.len (.t 32)),J 34 31 33 80,O 35 31 34] (D 35 (s [E 36 4 true,m 37 5,m 2 36,m 3 37] R) F)) (s [m 38 4,h 39 4 6,x 40
 (.bslice 4 [] 1 true [(0,(.t 39))]),Q 41 4 40 38 40,m 4 41] (.reg [m 42 5,m 43 7,o 44 .add 42 43,m 5 44])))))))) (s [m 45 4,m 2 45,k 3 (-1)] R)))))),[.t 2,.t 3]⟩
theorem i14:iF 14 g14:=jF Tryz.func14
def g15:GFun:=⟨⟨15,[2,3]⟩,(s [a 2 7 0,a 3 7 1,b 4 false] (s [h 5 7 2,h 6 7 3,c 7 36 [.t 5,.t 6],m 8 7,y 9 8 (p 1 6 2),y 10 8 (r 1 9),y 11 8 (p 1 6 3),y 12 8 (r 1 11),y 13 8 (.call false 37 [.t 10,.t 12,(.k (.clo 15 []))]),A 14 8 13,
 m 4 14] R)),[.t 4]⟩
theorem i15:iF 15 g15:=jF Tryz.func15
def g16:GFun:=⟨⟨55,[2,7]⟩,(s [u 2 7,k 3 0] (s [m 9 0,c 10 14 [.t 9],m 8 10,v 11 8 0,v 12 8 1,m 4 11,m 5 12] (S (s [m 13 5,q 14 .geq 13 0] (D 14 (s [x 15 (.build [(.val (.int .i64 0)),(.val (.int .i64 0)),(.val (.int .i64 0)),(.val
 (.int .i64 0)),(.val (.string (ByteArray.mk #[]))),(.val (.string (ByteArray.mk #[]))),(.val (.slice none 0 0))] []),m 16 5,t 2 7 15,m 3 16] R) F)) (s [m 17 4,m 18 0,x 19 (.slen (.t 18)),x 20 (.build [(.val (.slice none 0 0)),(.val
 (.int .i64 0)),(.val (.int .i64 0)),(.val (.int .i64 0))] [(0,(1,(.t 17))),(2,(1,(.t 19))),(3,(1,(K (-1))))]),x 21 (.box 4 (.t 20)),m 6 21] (s [m 22 6,c 23 38 [.t 22],u 7 7,t 7 7 23] (S (s [m 24 6,x 25 (.nck (.t 24)),f 26 3 25,l 27 26,
 q 28 .lss 27 0,m 29 28,M 30 29 6,y 31 29 (.nck (.t 30)),y 32 29 (p 1 1 31),y 33 29 (r 1 32),M 34 29 4,y 35 29 (.len (.t 34)),y 36 29 (.bin .lss (.t 33) (.t 35)),A 37 29 36] (D 37 (.reg [m 38 6,c 39 39 [.t 38]]) F)) (S (s [m 40 6,x 41
 (.nck (.t 40)),f 42 3 41,l 43 42,q 44 .geq 43 0] (D 44 (s [x 45 (.build [(.val (.int .i64 0)),(.val (.int .i64 0)),(.val (.int .i64 0)),(.val (.int .i64 0)),(.val (.string (ByteArray.mk #[]))),(.val (.string (ByteArray.mk #[]))),(.val
 (.slice none 0 0))] []),m 46 6,x 47 (.nck (.t 46)),f 48 3 47,t 2 7 45,l 49 48,m 3 49] R) F)) (S (s [h 50 7 7,c 51 12 [.t 50],w 52 51] (D 52 (s [x 53 (.build [(.val (.int .i64 0)),(.val (.int .i64 0)),(.val (.int .i64 0)),(.val
 (.int .i64 0)),(.val (.string (ByteArray.mk #[]))),(.val (.string (ByteArray.mk #[]))),(.val (.slice none 0 0))] []),t 2 7 53,k 3 0] R) F)) (s [h 54 7 7,t 2 7 54,k 3 (-1)] R))))))))),[(.c 2 7 true),.t 3]⟩
theorem i16:iF 16 g16:=jF Tryz.func16
def g20:GFun:=⟨⟨6,[]⟩,(s [x 2 (.mov (.k (.val (.string (ByteArray.mk #[])))))] (s [m 3 0,c 4 26 [.t 3],c 5 43 [.t 4],m 2 5] R)),[.t 2]⟩
theorem i20:iF 20 g20:=jF Tryz.func20
def g21:GFun:=⟨⟨74,[2,3]⟩,(s [a 2 7 0,a 3 7 1,b 4 false] (S (s [f 6 0 2,l 7 6,f 8 0 3,l 9 8,o 10 .neq 7 9,m 11 10,z 12 11 (p 1 1 2),z 13 11 (r 1 12),z 14 11 (p 1 1 3),z 15 11 (r 1 14),z 16 11 (.bin .neq (.t 13) (.t 15)),O 17 11 16,
 m 18 17,z 19 18 (p 1 2 2),z 20 18 (r 1 19),z 21 18 (p 1 2 3),z 22 18 (r 1 21),z 23 18 (.bin .neq (.t 20) (.t 22)),O 24 18 23,m 25 24,z 26 25 (p 1 3 2),z 27 25 (r 1 26),z 28 25 (p 1 3 3),z 29 25 (r 1 28),z 30 25 (.bin .neq (.t 27) (.t 29)),
 O 31 25 30,m 32 31,z 33 32 (p 1 4 2),z 34 32 (r 1 33),z 35 32 (p 1 4 3),z 36 32 (r 1 35),z 37 32 (.bin .neq (.t 34) (.t 36)),O 38 32 37,m 39 38,z 40 39 (p 1 5 2),z 41 39 (r 1 40),z 42 39 (p 1 5 3),z 43 39 (r 1 42),z 44 39 (.bin .neq
 (.t 41) (.t 43)),O 45 39 44,m 46 45,z 47 46 (p 1 6 2),z 48 46 (r 1 47),z 49 46 (.len (.t 48)),z 50 46 (p 1 6 3),z 51 46 (r 1 50),z 52 46 (.len (.t 51)),z 53 46 (.bin .neq (.t 49) (.t 52)),O 54 46 53] (D 54 (s [b 4 false] R) F)) (S
 (s [k 5 0] (B 0 (S (s [m 55 5,f 56 6 2,l 57 56,n 58 57,o 59 .lss 55 58] (D 59 F (.exit 0))) (S (.block 1 (s [f 62 6 2,m 64 5,f 67 6 3,m 69 5,l 63 62,i 65 7 63 64,h 66 7 65,l 68 67,i 70 7 68 69,h 71 7 70,G 72 21 [.t 66,.t 71],w 73 72]
 (D 73 (s [b 4 false] R) F))) (.reg [m 60 5,q 61 .add 60 1,m 5 61]))))) (s [b 4 true] R)))),[.t 4]⟩
theorem i21:iF 21 g21:=jF Tryz.func21
def g22:GFun:=⟨⟨15,[4]⟩,(s [x 2 (.mov (.k (.val (.string (ByteArray.mk #[]))))),b 3 false] (s [m 7 0,c 8 16 [.t 7],m 6 8,v 9 6 0,v 10 6 1,u 4 7,t 4 7 9,m 5 10] (S (s [m 11 5,q 12 .geq 11 0] (D 12 (s [x 2 (.mov (.k (.val (.string
 (ByteArray.mk #[]))))),b 3 false] R) F)) (s [h 13 7 4,c 14 11 [.t 13],m 2 14,b 3 true] R)))),[.t 2,.t 3]⟩
theorem i22:iF 22 g22:=jF Tryz.func22
def g23:GFun:=⟨⟨15,[4]⟩,(s [x 2 (.mov (.k (.val (.string (ByteArray.mk #[]))))),b 3 false] (s [m 7 0,c 8 13 [.t 7],m 6 8,v 9 6 0,v 10 6 1,u 4 7,t 4 7 9,m 5 10] (S (s [m 11 5,q 12 .geq 11 0] (D 12 (s [x 2 (.mov (.k (.val (.string
 (ByteArray.mk #[]))))),b 3 false] R) F)) (s [h 13 7 4,c 14 10 [.t 13],m 2 14,b 3 true] R)))),[.t 2,.t 3]⟩
theorem i23:iF 23 g23:=jF Tryz.func23
def g24:GFun:=⟨⟨6,[]⟩,(s [x 2 (.mov (.k (.val (.string (ByteArray.mk #[])))))] (s [m 3 0,c 4 26 [.t 3],c 5 43 [.t 4],m 2 5] R)),[.t 2]⟩
theorem i24:iF 24 g24:=jF Tryz.func24
def g25:GFun:=⟨⟨50,[2,3000025,3000031,3000037]⟩,(s [u 2 7] (s [m 5 0,c 6 44 [.t 5],x 3 (.alloc 7 (.agg [(.val (.int .i64 0)),(.val (.int .i64 0)),(.val (.int .i64 0)),(.val (.int .i64 0)),(.val (.string (ByteArray.mk #[]))),(.val
 (.string (ByteArray.mk #[]))),(.val (.slice none 0 0))])),(.mk none none (.store 7 (.t 3) (.t 6)))] (S (s [m 7 0,c 8 45 [.t 7,K 14]] (.block 0 (s [q 10 .eql 8 0,m 9 10] (D 9 (.reg [m 11 0,c 12 45 [.t 11,K 11],f 13 0 3,(.mk none none
 (.store 1 (.t 13) (.t 12)))]) (s [q 15 .eql 8 1,m 14 15] (D 14 (.reg [f 16 6 3,l 17 16,x 18 (.build [(.val (.int .i64 0)),(.val (.int .i64 0)),(.val (.int .i64 0)),(.val (.int .i64 0)),(.val (.string (ByteArray.mk #[]))),(.val (.string
 (ByteArray.mk #[]))),(.val (.slice none 0 0))] [(0,(1,(K 7)))]),x 19 (.bslice 7 [] 1 true [(0,(.t 18))]),Q 20 7 88 17 19,f 21 6 3,(.mk none none (.store 1 (.t 21) (.t 20)))]) (s [q 23 .eql 8 2,m 22 23] (D 22 (.reg [m 24 0,x 25
 (.bslro 1 [] 4 false [(0,(K (-1))),(1,(K 13)),(2,(K 4096)),(3,(K 1000001))]),c 26 46 [.t 24,.t 25],f 27 1 3,(.mk none none (.store 1 (.t 27) (.t 26)))]) (s [q 29 .eql 8 3,m 28 29] (D 28 (.reg [m 30 0,x 31 (.bslro 1 [] 3 false [(0,(K
 (-1))),(1,(K 4)),(2,(K 1))]),c 32 46 [.t 30,.t 31],f 33 2 3,(.mk none none (.store 1 (.t 33) (.t 32)))]) (s [q 35 .eql 8 4,m 34 35] (D 34 (.reg [m 36 0,x 37 (.bslro 1 [] 3 false [(0,(.k (.val (.string (ByteArray.mk #[105,102]))))),(1,(.k
 (.val (.string (ByteArray.mk #[]))))),(2,(.k (.val (.string (ByteArray.mk #[120])))))]),c 38 47 [.t 36,.t 37],f 39 5 3,(.mk none none (.store 1 (.t 39) (.t 38)))]) (s [q 41 .eql 8 5,m 40 41] (D 40 (s [k 4 0] (B 1 (S (s [m 42 4,
 q 43 .lss 42 5] (D 43 F (.exit 1))) (S (.block 2 (.reg [h 46 7 3,x 47 (.build [(.val (.int .i64 0)),(.val (.int .i64 0)),(.val (.int .i64 0)),(.val (.int .i64 0)),(.val (.string (ByteArray.mk #[]))),(.val (.string (ByteArray.mk #[]))),
 (.val (.slice none 0 0))] [(0,(1,(K 2)))]),c 48 48 [K 1,.t 46,.t 47],(.mk none none (.store 7 (.t 3) (.t 48)))])) (.reg [m 44 4,q 45 .add 44 1,m 4 45]))))) F)))))))))))))) (s [h 49 7 3,t 2 7 49] R)))),[(.c 2 7 true)]⟩
theorem i25:iF 25 g25:=jF Tryz.func25
def g26:GFun:=⟨⟨32,[]⟩,(s [x 2 (.mov (.k (.val (.pointer none))))] (s [m 5 0,n 6 5,x 7 (.bin .add (K 26583) (.t 6)),m 3 7] (S (s [k 4 0] (B 0 (S (s [m 8 4,m 9 0,n 10 9,o 11 .lss 8 10,m 12 11,M 13 12 4,y 14 12 (.bin .lss (.t 13)
 (K 4000)),A 15 12 14] (D 15 F (.exit 0))) (S (.block 1 (.reg [m 18 3,q 19 .mul 18 131,m 20 0,m 21 4,i 22 1 20 21,l 23 22,x 24 (.conv .i64 (.t 23)),o 25 .add 19 24,q 26 .add 25 7,q 27 .and 26 1073741823,m 3 27])) (.reg [m 16 4,
 q 17 .add 16 1,m 4 17]))))) (s [m 28 0,m 29 3,x 30 (.build [(.val (.slice none 0 0)),(.val (.int .i64 0)),(.val (.int .i64 0))] [(0,(1,(.t 28))),(2,(1,(.t 29)))]),x 31 (.box 3 (.t 30)),m 2 31] R)))),[.t 2]⟩
theorem i26:iF 26 g26:=jF Tryz.func26
def g27:GFun:=⟨⟨15,[1]⟩,(s [a 1 7 0,b 2 false] (s [h 3 7 1,c 4 49 [.t 3],q 5 .leq 4 24,m 6 5,y 7 6 (j 7 1),y 8 6 (.call false 50 [.t 7]),y 9 6 (.bin .leq (.t 8) (K 6)),A 10 6 9,m 11 10,y 12 11 (j 7 1),y 13 11 (.call false 51 [.t 12,
 (.k (.clo 52 []))]),A 14 11 13,m 2 14] R)),[.t 2]⟩
theorem i27:iF 27 g27:=jF Tryz.func27
def g28:GFun:=⟨⟨72,[1]⟩,(s [a 1 7 0,x 2 (.mov (.k (.val (.string (ByteArray.mk #[])))))] (S (s [f 3 0 1,l 4 3] (.block 0 (s [q 6 .eql 4 1,m 5 6] (D 5 (s [f 7 1 1,l 8 7,f 9 3 1,l 10 9,c 11 53 [.t 8,.t 10],m 2 11] R) (s [q 13 .eql 4 2,
 m 12 13] (D 12 (s [x 2 (.mov (.k (.val (.string (ByteArray.mk #[108,105,116])))))] R) (s [q 15 .eql 4 3,m 14 15] (D 14 (s [f 16 2 1,f 21 5 1,l 17 16,G 18 54 [.t 17],x 19 (.bin .add (.k (.val (.string (ByteArray.mk #[36])))) (.t 18)),x 20
 (.bin .add (.t 19) (.k (.val (.string (ByteArray.mk #[46]))))),l 22 21,o 23 .add 20 22,m 2 23] R) (s [q 25 .eql 4 5,m 24 25] (D 24 (s [f 26 6 1,f 33 6 1,f 40 6 1,l 27 26,x 28 (.iaddr 7 (.t 27) (K 0)),h 29 7 28,G 30 28 [.t 29],x 31
 (.bin .add (.k (.val (.string (ByteArray.mk #[105,102,32])))) (.t 30)),x 32 (.bin .add (.t 31) (.k (.val (.string (ByteArray.mk #[32,116,104,101,110,32]))))),l 34 33,x 35 (.iaddr 7 (.t 34) (K 1)),h 36 7 35,G 37 28 [.t 36],o 38 .add 32 37,
 x 39 (.bin .add (.t 38) (.k (.val (.string (ByteArray.mk #[32,101,108,115,101,32]))))),l 41 40,x 42 (.iaddr 7 (.t 41) (K 2)),h 43 7 42,G 44 28 [.t 43],o 45 .add 39 44,m 2 45] R) (s [q 47 .eql 4 6,m 46 47] (D 46 (s [f 48 2 1,l 49 48,
 c 50 54 [.t 49],x 51 (.bin .add (.k (.val (.string (ByteArray.mk #[115,101,108,102,40])))) (.t 50)),x 52 (.bin .add (.t 51) (.k (.val (.string (ByteArray.mk #[41]))))),m 2 52] R) (s [q 54 .eql 4 7,m 53 54] (D 53 (s [x 2 (.mov (.k (.val
 (.string (ByteArray.mk #[110,111,110,101])))))] R) (s [q 56 .eql 4 8,m 55 56] (D 55 (s [f 57 4 1,f 60 5 1,f 64 6 1,l 58 57,x 59 (.bin .add (.t 58) (.k (.val (.string (ByteArray.mk #[46]))))),l 61 60,o 62 .add 59 61,x 63 (.bin .add
 (.t 62) (.k (.val (.string (ByteArray.mk #[32,111,102,32]))))),l 65 64,x 66 (.iaddr 7 (.t 65) (K 0)),h 67 7 66,G 68 55 [.t 67,K 4],o 69 .add 63 68,m 2 69] R) F)))))))))))))))) (s [h 70 7 1,c 71 56 [.t 70],m 2 71] R))),[.t 2]⟩
theorem i28:iF 28 g28:=jF Tryz.func28
def g29:GFun:=⟨⟨72,[1]⟩,(s [a 1 7 0,x 2 (.mov (.k (.val (.string (ByteArray.mk #[])))))] (S (s [f 3 0 1,l 4 3] (.block 0 (s [q 6 .eql 4 1,m 5 6] (D 5 (s [f 7 1 1,l 8 7,f 9 3 1,l 10 9,c 11 57 [.t 8,.t 10],m 2 11] R) (s [q 13 .eql 4 2,
 m 12 13] (D 12 (s [x 2 (.mov (.k (.val (.string (ByteArray.mk #[108,105,116])))))] R) (s [q 15 .eql 4 3,m 14 15] (D 14 (s [f 16 2 1,f 21 5 1,l 17 16,G 18 58 [.t 17],x 19 (.bin .add (.k (.val (.string (ByteArray.mk #[36])))) (.t 18)),x 20
 (.bin .add (.t 19) (.k (.val (.string (ByteArray.mk #[46]))))),l 22 21,o 23 .add 20 22,m 2 23] R) (s [q 25 .eql 4 5,m 24 25] (D 24 (s [f 26 6 1,f 33 6 1,f 40 6 1,l 27 26,x 28 (.iaddr 7 (.t 27) (K 0)),h 29 7 28,G 30 29 [.t 29],x 31
 (.bin .add (.k (.val (.string (ByteArray.mk #[105,102,32])))) (.t 30)),x 32 (.bin .add (.t 31) (.k (.val (.string (ByteArray.mk #[32,116,104,101,110,32]))))),l 34 33,x 35 (.iaddr 7 (.t 34) (K 1)),h 36 7 35,G 37 29 [.t 36],o 38 .add 32 37,
 x 39 (.bin .add (.t 38) (.k (.val (.string (ByteArray.mk #[32,101,108,115,101,32]))))),l 41 40,x 42 (.iaddr 7 (.t 41) (K 2)),h 43 7 42,G 44 29 [.t 43],o 45 .add 39 44,m 2 45] R) (s [q 47 .eql 4 6,m 46 47] (D 46 (s [f 48 2 1,l 49 48,
 c 50 58 [.t 49],x 51 (.bin .add (.k (.val (.string (ByteArray.mk #[115,101,108,102,40])))) (.t 50)),x 52 (.bin .add (.t 51) (.k (.val (.string (ByteArray.mk #[41]))))),m 2 52] R) (s [q 54 .eql 4 7,m 53 54] (D 53 (s [x 2 (.mov (.k (.val
 (.string (ByteArray.mk #[110,111,110,101])))))] R) (s [q 56 .eql 4 8,m 55 56] (D 55 (s [f 57 4 1,f 60 5 1,f 64 6 1,l 58 57,x 59 (.bin .add (.t 58) (.k (.val (.string (ByteArray.mk #[46]))))),l 61 60,o 62 .add 59 61,x 63 (.bin .add
 (.t 62) (.k (.val (.string (ByteArray.mk #[32,111,102,32]))))),l 65 64,x 66 (.iaddr 7 (.t 65) (K 0)),h 67 7 66,G 68 59 [.t 67,K 4],o 69 .add 63 68,m 2 69] R) F)))))))))))))))) (s [h 70 7 1,c 71 60 [.t 70],m 2 71] R))),[.t 2]⟩
theorem i29:iF 29 g29:=jF Tryz.func29
def g30:GFun:=⟨⟨27,[2]⟩,(s [a 2 7 0,k 4 0] (s [m 6 1,q 7 .sub 6 1,m 1 7] (S (s [k 5 0] (B 0 (S (s [m 8 5,f 9 6 2,l 10 9,n 11 10,o 12 .lss 8 11,m 13 12,M 14 13 1,y 15 13 (.bin .geq (.t 14) (K 0)),A 16 13 15] (D 16 F (.exit 0))) (S
 (.block 1 (.reg [f 19 6 2,l 20 19,m 21 5,i 22 7 20 21,h 23 7 22,m 24 1,c 25 30 [.t 23,.t 24],m 1 25])) (.reg [m 17 5,q 18 .add 17 1,m 5 18]))))) (s [m 26 1,m 4 26] R)))),[.t 4]⟩
theorem i30:iF 30 g30:=jF Tryz.func30
def g31:GFun:=⟨⟨22,[1]⟩,(s [a 1 7 0,k 2 0] (s [k 3 0] (S (s [k 4 0] (B 0 (S (s [m 5 4,f 6 6 1,l 7 6,n 8 7,o 9 .lss 5 8] (D 9 F (.exit 0))) (S (.block 1 (.reg [m 12 3,f 13 6 1,l 14 13,m 15 4,i 16 7 14 15,h 17 7 16,c 18 31 [.t 17],
 c 19 61 [.t 12,.t 18],m 3 19])) (.reg [m 10 4,q 11 .add 10 1,m 4 11]))))) (s [m 20 3,q 21 .add 20 1,m 2 21] R)))),[.t 2]⟩
theorem i31:iF 31 g31:=jF Tryz.func31
def g32:GFun:=⟨⟨20,[1]⟩,(s [a 1 7 0,b 2 false] (S (s [k 3 0] (B 0 (S (s [m 4 3,f 5 6 1,l 6 5,n 7 6,o 8 .lss 4 7] (D 8 F (.exit 0))) (S (.block 1 (s [f 11 6 1,l 12 11,m 13 3,i 14 7 12 13,h 15 7 14,c 16 32 [.t 15],w 17 16] (D 17
 (s [b 2 false] R) F))) (.reg [m 9 3,q 10 .add 9 1,m 3 10]))))) (s [h 18 7 1,c 19 62 [.t 18],m 2 19] R))),[.t 2]⟩
theorem i32:iF 32 g32:=jF Tryz.func32
def g33:GFun:=⟨⟨44,[6]⟩,(s [Z 2,k 3 0] (S (s [m 8 0,x 9 (.slen (.t 8)),q 10 .gtr 9 160] (D 10 (s [Z 2,k 3 160] R) F)) (s [E 11 4 true,m 4 11] (S (s [k 5 0] (B 0 (S (s [m 12 5,m 13 0,x 14 (.slen (.t 13)),o 15 .lss 12 14] (D 15 F
 (.exit 0))) (.block 1 (S (s [m 16 0,m 17 5,x 18 (.idx (.t 16) (.t 17)),x 19 (.bin .eql (.t 18) (.k (.val (.int .u8 32))))] (D 19 (s [m 20 5,q 21 .add 20 1,m 5 21] (.exit 1)) F)) (s [m 23 0,m 24 5,c 25 63 [.t 23,.t 24],m 22 25,v 26 22 0,
 v 27 22 1,u 6 4,t 6 4 26,m 7 27] (S (s [m 28 7,q 29 .eql 28 0,m 30 29,N 31 30 4,z 32 30 (.len (.t 31)),J 33 30 32 80,O 34 30 33] (D 34 (s [m 35 5,Z 2,m 3 35] R) F)) (.reg [m 36 4,h 37 4 6,x 38 (.bslice 4 [] 1 true [(0,(.t 37))]),
 Q 39 4 40 36 38,m 40 5,m 41 7,o 42 .add 40 41,m 4 39,m 5 42])))))))) (s [m 43 4,m 2 43,k 3 (-1)] R))))),[.t 2,.t 3]⟩
theorem i33:iF 33 g33:=jF Tryz.func33
def g34:GFun:=⟨⟨37,[2,3,4,5,6]⟩,(s [u 2 7] (S (s [m 8 0,x 9 (.call false 64 [.t 8,(.k (.val (.string (ByteArray.mk #[105,102]))))])] (D 9 (s [m 10 0,c 11 34 [.t 10],u 3 7,t 3 7 11] (s [m 12 0,x 13 (.call false 65 [.t 12,(.k (.val
 (.string (ByteArray.mk #[116,104,101,110]))))])] (s [m 14 0,c 15 34 [.t 14],u 4 7,t 4 7 15] (s [m 16 0,x 17 (.call false 65 [.t 16,(.k (.val (.string (ByteArray.mk #[101,108,115,101]))))])] (s [m 18 0,c 19 34 [.t 18],u 5 7,t 5 7 19]
 (s [h 20 7 3,h 21 7 4,h 22 7 5,x 23 (.bslice 7 [] 3 true [(0,(.t 20)),(1,(.t 21)),(2,(.t 22))]),x 24 (.build [(.val (.int .i64 0)),(.val (.int .i64 0)),(.val (.int .i64 0)),(.val (.int .i64 0)),(.val (.string (ByteArray.mk #[]))),(.val
 (.string (ByteArray.mk #[]))),(.val (.slice none 0 0))] [(0,(1,(K 5))),(6,(1,(.t 23)))]),t 2 7 24] R)))))) F)) (s [m 25 0,c 26 66 [.t 25,K 2],u 6 7,t 6 7 26] (S (s [m 27 0,c 28 67 [.t 27,K 1],m 7 28] (s [m 29 7,q 30 .neq 29 0] (D 30
 (s [m 31 7,x 32 (.loadr 7 true (.t 6)),m 33 0,c 34 66 [.t 33,K 2],c 35 68 [.t 31,.t 32,.t 34],t 2 7 35] R) F))) (s [h 36 7 6,t 2 7 36] R))))),[(.c 2 7 true)]⟩
theorem i34:iF 34 g34:=jF Tryz.func34 [(11,3)]
def g35:GFun:=⟨⟨97,[4]⟩,(s [u 4 4,k 5 0] (s [m 10 1,x 11 (.build [(.val (.int .i64 0)),(.val (.int .i64 0)),(.val (.int .i64 0)),(.val (.string (ByteArray.mk #[])))] [(2,(1,(.t 10)))]),x 6 (.alloc 4 (.agg [(.val (.int .i64 0)),(.val
 (.int .i64 0)),(.val (.int .i64 0)),(.val (.string (ByteArray.mk #[])))])),(.mk none none (.store 4 (.t 6) (.t 11)))] (s [m 12 1,m 7 12] (S (.block 0 (s [m 25 0,m 26 1,x 27 (.idx (.t 25) (.t 26)),c 28 69 [.t 27],m 24 28] (D 24 (S (B 1 (S
 (s [m 29 7,m 30 0,x 31 (.slen (.t 30)),o 32 .lss 29 31,m 33 32,M 34 33 0,M 35 33 7,y 36 33 (.idx (.t 34) (.t 35)),y 37 33 (.call false 69 [.t 36]),M 38 33 37,N 39 38 0,N 40 38 7,z 41 38 (.idx (.t 39) (.t 40)),z 42 38
 (.call false 70 [.t 41]),y 43 33 (.pick (.t 38) (.k (.val (.bool true))) (.t 42)),A 44 33 43] (D 44 F (.exit 1))) (.block 2 (.reg [m 45 7,q 46 .add 45 1,m 7 46])))) (s [f 47 0 6,(.mk none none (.store 1 (.t 47) (K 1)))] (s [m 48 0,m 49 1,
 m 50 7,x 51 (.sslc (.t 48) (some (.t 49)) (some (.t 50))),f 52 3 6,(.mk none none (.store 1 (.t 52) (.t 51)))] (s [m 53 7,m 54 1,o 55 .sub 53 54,q 56 .gtr 55 8] (D 56 (s [h 57 4 6,t 4 4 57,k 5 0] R) F))))) (s [m 59 0,m 60 1,x 61 (.idx
 (.t 59) (.t 60)),c 62 70 [.t 61],m 58 62] (D 58 (S (B 3 (S (s [m 63 7,m 64 0,x 65 (.slen (.t 64)),o 66 .lss 63 65,m 67 66,M 68 67 0,M 69 67 7,y 70 67 (.idx (.t 68) (.t 69)),y 71 67 (.call false 70 [.t 70]),A 72 67 71] (D 72 F (.exit 3)))
 (.block 4 (.reg [m 73 7,q 74 .add 73 1,m 7 74])))) (s [m 76 0,m 77 1,m 78 7,x 79 (.sslc (.t 76) (some (.t 77)) (some (.t 78))),c 80 71 [.t 79],m 75 80,v 81 75 0,v 82 75 1,m 8 81,m 9 82] (s [f 83 0 6,(.mk none none (.store 1 (.t 83)
 (K 2)))] (s [m 84 8,f 85 1 6,(.mk none none (.store 1 (.t 85) (.t 84)))] (s [m 86 9,w 87 86,m 88 87,N 89 88 8,z 90 88 (.bin .gtr (.t 89) (K 1000000)),O 91 88 90] (D 91 (s [h 92 4 6,t 4 4 92,k 5 0] R) F)))))) (s [m 13 1,m 14 0,m 15 1,
 c 16 72 [.t 14,.t 15],o 17 .add 13 16,m 7 17] (s [f 18 0 6,(.mk none none (.store 1 (.t 18) (K 3)))] (.reg [m 19 0,m 20 1,m 21 7,x 22 (.sslc (.t 19) (some (.t 20)) (some (.t 21))),f 23 3 6,(.mk none none (.store 1 (.t 23)
 (.t 22)))])))))))) (s [h 93 4 6,m 94 7,m 95 1,o 96 .sub 94 95,t 4 4 93,m 5 96] R))))),[(.c 4 4 true),.t 5]⟩
theorem i35:iF 35 g35:=jF Tryz.func35
def g36:GFun:=⟨⟨45,[2,3]⟩,(s [a 2 7 0,a 3 7 1,b 4 false] (s [f 5 0 2,l 6 5,f 7 0 3,l 8 7,o 9 .eql 6 8,m 10 9,y 11 10 (p 1 1 2),y 12 10 (r 1 11),y 13 10 (p 1 1 3),y 14 10 (r 1 13),y 15 10 (.bin .eql (.t 12) (.t 14)),A 16 10 15,m 17 16,
 y 18 17 (p 1 2 2),y 19 17 (r 1 18),y 20 17 (p 1 2 3),y 21 17 (r 1 20),y 22 17 (.bin .eql (.t 19) (.t 21)),A 23 17 22,m 24 23,y 25 24 (p 1 3 2),y 26 24 (r 1 25),y 27 24 (p 1 3 3),y 28 24 (r 1 27),y 29 24 (.bin .eql (.t 26) (.t 28)),
 A 30 24 29,m 31 30,y 32 31 (p 1 4 2),y 33 31 (r 1 32),y 34 31 (p 1 4 3),y 35 31 (r 1 34),y 36 31 (.bin .eql (.t 33) (.t 35)),A 37 31 36,m 38 37,y 39 38 (p 1 5 2),y 40 38 (r 1 39),y 41 38 (p 1 5 3),y 42 38 (r 1 41),y 43 38 (.bin .eql
 (.t 40) (.t 42)),A 44 38 43,m 4 44] R)),[.t 4]⟩
theorem i36:iF 36 g36:=jF Tryz.func36
def g37:GFun:=⟨⟨32,[8,9]⟩,(s [b 6 false] (S (s [m 10 0,n 11 10,m 12 1,n 13 12,o 14 .neq 11 13] (D 14 (s [b 6 false] R) F)) (S (s [m 15 0,n 16 15,k 17 0] (B 0 (s [o 18 .lss 17 16] (C 18 0 (S (.block 1 (s [m 19 17,i 20 7 15 17,h 21 7 20,
 u 8 7,m 7 19,t 8 7 21] (s [m 22 1,m 23 7,i 24 7 22 23,h 25 7 24,u 9 7,t 9 7 25] (s [m 26 2,h 27 7 8,h 28 7 9,x 29 (.callv false (.t 26) [.t 27,.t 28]),w 30 29] (D 30 (s [b 6 false] R) F))))) (.reg [q 31 .add 17 1,m 17 31]))))))
 (s [b 6 true] R)))),[.t 6]⟩
theorem i37:iF 37 g37:=jF Tryz.func37
def g38:GFun:=⟨⟨32,[2,3,4]⟩,(s [u 2 7] (S (s [m 5 0,x 6 (.call false 73 [.t 5,(.k (.val (.string (ByteArray.mk #[105,102]))))]),w 7 6] (D 7 (s [m 8 0,c 9 74 [.t 8,K 1],t 2 7 9] R) F)) (s [m 10 0,m 11 0,x 12 (.nck (.t 11)),f 13 1 12,
 l 14 13,q 15 .add 14 1,x 16 (.nck (.t 10)),f 17 1 16,(.mk none none (.store 1 (.t 17) (.t 15)))] (s [m 18 0,c 19 38 [.t 18],u 3 7,t 3 7 19] (s [m 20 0,x 21 (.call false 75 [.t 20,(.k (.val (.string (ByteArray.mk #[116,104,101,110]))))])]
 (s [m 22 0,c 23 38 [.t 22],u 4 7,t 4 7 23] (s [m 24 0,x 25 (.call false 75 [.t 24,(.k (.val (.string (ByteArray.mk #[101,108,115,101]))))])] (s [x 26 (.loadr 7 true (.t 3)),x 27 (.loadr 7 true (.t 4)),m 28 0,c 29 38 [.t 28],x 30
 (.bslice 7 [] 3 true [(0,(.t 26)),(1,(.t 27)),(2,(.t 29))]),x 31 (.build [(.val (.int .i64 0)),(.val (.int .i64 0)),(.val (.int .i64 0)),(.val (.int .i64 0)),(.val (.string (ByteArray.mk #[]))),(.val (.string (ByteArray.mk #[]))),(.val
 (.slice none 0 0))] [(0,(1,(K 5))),(6,(1,(.t 30)))]),t 2 7 31] R)))))))),[(.c 2 7 true)]⟩
theorem i38:iF 38 g38:=jF Tryz.func38 [(8,3)]
def g39:GFun:=⟨⟨40,[2]⟩,(s [u 2 7] (S (s [m 3 0,x 4 (.nck (.t 3)),f 5 3 4,l 6 5,q 7 .lss 6 0] (D 7 (s [m 8 0,m 9 0,x 10 (.nck (.t 9)),f 11 2 10,l 12 11,x 13 (.nck (.t 8)),f 14 3 13,(.mk none none (.store 1 (.t 14) (.t 12)))] (s [m 15 0,
 x 16 (.nck (.t 15)),f 17 1 16,m 19 0,x 20 (.nck (.t 19)),f 21 0 20,l 18 17,l 22 21,n 23 22,o 24 .lss 18 23] (D 24 (.reg [m 25 0,m 26 0,x 27 (.nck (.t 26)),f 28 0 27,m 30 0,x 31 (.nck (.t 30)),f 32 1 31,l 29 28,l 33 32,i 34 4 29 33,
 f 35 2 34,l 36 35,x 37 (.nck (.t 25)),f 38 3 37,(.mk none none (.store 1 (.t 38) (.t 36)))]) F))) F)) (s [x 39 (.build [(.val (.int .i64 0)),(.val (.int .i64 0)),(.val (.int .i64 0)),(.val (.int .i64 0)),(.val (.string
 (ByteArray.mk #[]))),(.val (.string (ByteArray.mk #[]))),(.val (.slice none 0 0))] []),t 2 7 39] R))),[(.c 2 7 true)]⟩
theorem i39:iF 39 g39:=jF Tryz.func39
def g43:GFun:=⟨⟨21,[3000013,3000018]⟩,(s [x 2 (.mov (.k (.val (.string (ByteArray.mk #[])))))] (s [m 4 0,c 5 44 [.t 4],c 6 11 [.t 5],m 3 6] (S (s [m 7 0,c 8 45 [.t 7,K 5]] (.block 0 (s [q 10 .eql 8 0,m 9 10] (D 9 (s [m 11 0,m 12 3,
 x 13 (.bslro 1 [] 10 false [(0,(.k (.val (.string (ByteArray.mk #[32]))))),(1,(.k (.val (.string (ByteArray.mk #[40]))))),(2,(.k (.val (.string (ByteArray.mk #[41]))))),(3,(.k (.val (.string (ByteArray.mk #[44]))))),(4,(.k (.val (.string
 (ByteArray.mk #[32,43,32]))))),(5,(.k (.val (.string (ByteArray.mk #[32,111,102,32]))))),(6,(.k (.val (.string (ByteArray.mk #[36]))))),(7,(.k (.val (.string (ByteArray.mk #[120]))))),(8,(.k (.val (.string (ByteArray.mk #[46]))))),(9,(.k
 (.val (.string (ByteArray.mk #[125])))))]),c 14 77 [.t 11,.t 12,.t 13],m 2 14] R) (s [q 16 .eql 8 1,m 15 16] (D 15 (s [m 17 0,x 18 (.bslro 1 [] 19 false [(0,(.k (.val (.string (ByteArray.mk #[]))))),(1,(.k (.val (.string
 (ByteArray.mk #[49,32,43,32,50,32,42,32,51]))))),(2,(.k (.val (.string (ByteArray.mk #[40,49,32,43,32,50,41,32,42,32,51]))))),(3,(.k (.val (.string (ByteArray.mk #[49,32,60,32,50,32,60,32,51]))))),(4,(.k (.val (.string (ByteArray.mk #[36,
 48,46,97,32,45,32,36,49,46,98,32,45,32,108,105,116]))))),(5,(.k (.val (.string (ByteArray.mk #[36,52,46,97]))))),(6,(.k (.val (.string (ByteArray.mk #[123,51,32,49,125]))))),(7,(.k (.val (.string (ByteArray.mk #[123,125]))))),(8,(.k
 (.val (.string (ByteArray.mk #[123,48,32,49,49,125]))))),(9,(.k (.val (.string (ByteArray.mk #[123,49,50,125]))))),(10,(.k (.val (.string (ByteArray.mk #[109,97,120,40,49,44,32,50,41]))))),(11,(.k (.val (.string (ByteArray.mk #[109,97,120,
 40,49,41]))))),(12,(.k (.val (.string (ByteArray.mk #[115,46,97,32,111,102,32,115,101,108,102,40,48,41]))))),(13,(.k (.val (.string (ByteArray.mk #[115,46,97,32,111,102,32,40,110,111,110,101,41]))))),(14,(.k (.val (.string
 (ByteArray.mk #[105,102,32,116,114,117,101,32,116,104,101,110,32,49,32,101,108,115,101,32,50]))))),(15,(.k (.val (.string (ByteArray.mk #[115,101,108,102,40,48]))))),(16,(.k (.val (.string (ByteArray.mk #[120]))))),(17,(.k (.val (.string
 (ByteArray.mk #[116,114,117,101,32,102,97,108,115,101]))))),(18,(.k (.val (.string (ByteArray.mk #[119,105,116,104,40,123,49,125,44,32,50,41,32,124,32,123,51,125])))))]),c 19 47 [.t 17,.t 18],m 2 19] R) F)))))) (s [m 20 3,m 2 20] R)))),
 [.t 2]⟩
theorem i43:iF 43 g43:=jF Tryz.func43
def g44:GFun:=⟨⟨14,[2,3]⟩,(s [u 2 7] (s [m 4 0,m 5 0,c 6 45 [.t 5,K 5],x 7 (.bin .add (K 1) (.t 6)),c 8 78 [.t 4,.t 7],u 3 7,t 3 7 8] (S (s [h 9 7 3,c 10 12 [.t 9],w 11 10] (D 11 (s [x 12 (.build [(.val (.int .i64 0)),(.val
 (.int .i64 0)),(.val (.int .i64 0)),(.val (.int .i64 0)),(.val (.string (ByteArray.mk #[]))),(.val (.string (ByteArray.mk #[]))),(.val (.slice none 0 0))] [(0,(1,(K 2)))]),t 2 7 12] R) F)) (s [h 13 7 3,t 2 7 13] R)))),[(.c 2 7 true)]⟩
theorem i44:iF 44 g44:=jF Tryz.func44
def g45:GFun:=⟨⟨37,[]⟩,(s [k 4 0] (S (s [m 9 1,q 10 .leq 9 0] (D 10 (s [k 4 0] R) F)) (S (s [m 11 1,q 12 .leq 11 256] (D 12 (s [m 13 0,c 14 79 [.t 13],m 15 1,o 16 .rem 14 15,m 4 16] R) F)) (s [m 17 0,c 18 79 [.t 17],m 5 18] (s [m 19 0,
 c 20 79 [.t 19],m 6 20] (s [m 21 0,c 22 79 [.t 21],m 7 22] (s [m 23 0,c 24 79 [.t 23],m 8 24] (s [m 25 5,q 26 .mul 25 16777216,m 27 6,q 28 .mul 27 65536,o 29 .add 26 28,m 30 7,q 31 .mul 30 256,o 32 .add 29 31,m 33 8,o 34 .add 32 33,m 35 1,
 o 36 .rem 34 35,m 4 36] R)))))))),[.t 4]⟩
theorem i45:iF 45 g45:=jF Tryz.func45
def g46:GFun:=⟨⟨12,[]⟩,(s [k 4 0] (s [m 5 1,m 6 0,m 7 1,n 8 7,c 9 45 [.t 6,.t 8],i 10 1 5 9,l 11 10,m 4 11] R)),[.t 4]⟩
theorem i46:iF 46 g46:=jF Tryz.func46
def g47:GFun:=⟨⟨12,[]⟩,(s [x 4 (.mov (.k (.val (.string (ByteArray.mk #[])))))] (s [m 5 1,m 6 0,m 7 1,n 8 7,c 9 45 [.t 6,.t 8],i 10 1 5 9,l 11 10,m 4 11] R)),[.t 4]⟩
theorem i47:iF 47 g47:=jF Tryz.func47
def g48:GFun:=⟨⟨12,[4,5,6]⟩,(s [a 4 7 1,a 5 7 2,u 6 7] (s [m 7 0,h 8 7 4,h 9 7 5,x 10 (.bslice 7 [] 2 true [(0,(.t 8)),(1,(.t 9))]),x 11 (.build [(.val (.int .i64 0)),(.val (.int .i64 0)),(.val (.int .i64 0)),(.val (.int .i64 0)),
 (.val (.string (ByteArray.mk #[]))),(.val (.string (ByteArray.mk #[]))),(.val (.slice none 0 0))] [(0,(1,(K 4))),(1,(1,(.t 7))),(6,(1,(.t 10)))]),t 6 7 11] R)),[(.c 6 7 true)]⟩
theorem i48:iF 48 g48:=jF Tryz.func48
def g49:GFun:=⟨⟨19,[1,5]⟩,(s [a 1 7 0,k 2 0] (s [k 3 1] (S (s [f 6 6 1,l 7 6,n 8 7,k 9 0] (B 0 (s [o 10 .lss 9 8] (C 10 0 (S (.block 1 (s [i 11 7 7 9,h 12 7 11,u 5 7,t 5 7 12] (.reg [m 13 3,h 14 7 5,c 15 49 [.t 14],o 16 .add 13 15,
 m 3 16]))) (.reg [q 17 .add 9 1,m 9 17])))))) (s [m 18 3,m 2 18] R)))),[.t 2]⟩
theorem i49:iF 49 g49:=jF Tryz.func49
def g50:GFun:=⟨⟨20,[1,5]⟩,(s [a 1 7 0,k 2 0] (s [k 3 0] (S (s [f 6 6 1,l 7 6,n 8 7,k 9 0] (B 0 (s [o 10 .lss 9 8] (C 10 0 (S (.block 1 (s [i 11 7 7 9,h 12 7 11,u 5 7,t 5 7 12] (.reg [m 13 3,h 14 7 5,c 15 50 [.t 14],x 16 (.mx (.t 13)
 (.t 15)),m 3 16]))) (.reg [q 17 .add 9 1,m 9 17])))))) (s [m 18 3,q 19 .add 18 1,m 2 19] R)))),[.t 2]⟩
theorem i50:iF 50 g50:=jF Tryz.func50
def g51:GFun:=⟨⟨15,[2,3]⟩,(s [a 2 7 0,a 3 1 1,b 4 false] (s [l 5 3,h 6 7 2,x 7 (.callv false (.t 5) [.t 6]),m 8 7,y 9 8 (p 1 6 2),y 10 8 (r 1 9),y 11 8 (.mkfn 81 [.t 3]),y 12 8 (.call false 80 [.t 10,.t 11]),y 13 8 (.not (.t 12)),
 A 14 8 13,m 4 14] R)),[.t 4]⟩
theorem i51:iF 51 g51:=jF Tryz.func51
def g52:GFun:=⟨⟨100,[1]⟩,(s [a 1 7 0,b 2 false] (s [f 5 0 1,l 6 5,f 7 6 1,l 8 7,x 9 (.build [(.val (.int .i64 0)),(.val (.int .i64 0)),(.val (.int .i64 0)),(.val (.int .i64 0)),(.val (.string (ByteArray.mk #[]))),(.val (.string
 (ByteArray.mk #[]))),(.val (.slice none 0 0))] [(0,(1,(.t 6))),(6,(1,(.t 8)))]),x 3 (.alloc 7 (.agg [(.val (.int .i64 0)),(.val (.int .i64 0)),(.val (.int .i64 0)),(.val (.int .i64 0)),(.val (.string (ByteArray.mk #[]))),(.val (.string
 (ByteArray.mk #[]))),(.val (.slice none 0 0))])),(.mk none none (.store 7 (.t 3) (.t 9)))] (s [k 4 0] (S (s [f 10 0 1,l 11 10] (.block 0 (s [q 13 .eql 11 1,m 12 13] (D 12 (s [f 14 1 1,x 15 (.loadr 1 false (.t 14)),f 16 3 1,x 17
 (.loadr 1 false (.t 16)),f 18 1 3,(.mk none none (.store 1 (.t 18) (.t 15))),f 19 3 3,(.mk none none (.store 1 (.t 19) (.t 17)))] (s [f 20 3 1,l 21 20,q 22 .eql 21 4,m 23 22,z 24 23 (p 1 1 1),z 25 23 (r 1 24),z 26 23 (p 1 3 1),z 27 23
 (r 1 26),z 28 23 (.call false 82 [.t 25,.t 27]),z 29 23 (.not (.t 28)),O 30 23 29,m 31 30,z 32 31 (p 1 1 1),z 33 31 (r 1 32),z 34 31 (.bin .lss (.t 33) (K 0)),O 35 31 34] (D 35 (s [b 2 false] R) F))) (s [q 37 .eql 11 3,m 36 37] (D 36
 (s [f 38 2 1,x 39 (.loadr 1 false (.t 38)),f 40 5 1,x 41 (.loadr 1 false (.t 40)),f 42 2 3,(.mk none none (.store 1 (.t 42) (.t 39))),f 43 5 3,(.mk none none (.store 1 (.t 43) (.t 41)))] (s [f 44 5 1,l 45 44,c 46 83 [.t 45],w 47 46]
 (D 47 (s [b 2 false] R) F))) (s [q 49 .eql 11 4,m 48 49] (D 48 (s [f 50 1 1,l 51 50,f 52 1 3,(.mk none none (.store 1 (.t 52) (.t 51))),k 4 2] (s [f 53 1 1,l 54 53,c 55 84 [.t 54,K 1,K 12],w 56 55] (D 56 (s [b 2 false] R) F)))
 (s [q 58 .eql 11 5,m 57 58] (D 57 (.reg [k 4 3]) (s [q 60 .eql 11 6,m 59 60] (D 59 (.reg [f 61 2 1,l 62 61,f 63 2 3,(.mk none none (.store 1 (.t 63) (.t 62)))]) (s [q 65 .eql 11 8,m 64 65] (D 64 (s [f 66 4 1,x 67 (.loadr 1 false (.t 66)),
 f 68 5 1,x 69 (.loadr 1 false (.t 68)),f 70 4 3,(.mk none none (.store 1 (.t 70) (.t 67))),f 71 5 3,(.mk none none (.store 1 (.t 71) (.t 69))),k 4 1] (s [f 72 4 1,l 73 72,c 74 83 [.t 73],w 75 74,m 76 75,z 77 76 (p 1 5 1),z 78 76 (r 1 77),
 z 79 76 (.call false 83 [.t 78]),z 80 76 (.not (.t 79)),O 81 76 80] (D 81 (s [b 2 false] R) F))) (S (s [q 83 .eql 11 2,m 82 83] (D 82 F (.reg [q 84 .eql 11 7,m 82 84]))) (D 82 F (s [b 2 false] R))))))))))))))))) (s [f 85 6 1,l 86 85,
 n 87 86,m 88 4,o 89 .eql 87 88,m 90 89,y 91 90 (p 1 2 1),y 92 90 (r 1 91),y 93 90 (.call false 84 [.t 92,K 0,K 3]),A 94 90 93,m 95 94,y 96 95 (j 7 1),y 97 95 (j 7 3),y 98 95 (.call false 36 [.t 96,.t 97]),A 99 95 98,m 2 99] R))))),[.t 2]⟩
theorem i52:iF 52 g52:=jF Tryz.func52
def g53:GFun:=⟨⟨60,[]⟩,(s [x 4 (.mov (.k (.val (.string (ByteArray.mk #[])))))] (S (.block 0 (s [m 8 0,m 9 1,c 10 82 [.t 8,.t 9],w 11 10,m 7 11] (D 7 (s [x 4 (.mov (.k (.val (.string (ByteArray.mk #[])))))] R) (s [m 13 1,q 14 .eql 13 1,
 m 12 14] (D 12 (s [m 15 0,c 16 54 [.t 15],m 4 16] R) (s [m 18 1,q 19 .eql 18 3,m 20 19,M 21 20 0,I 22 20 21 1,A 23 20 22,m 17 23] (D 17 (s [x 4 (.mov (.k (.val (.string (ByteArray.mk #[116,114,117,101])))))] R) (s [m 25 1,q 26 .eql 25 3,
 m 24 26] (D 24 (s [x 4 (.mov (.k (.val (.string (ByteArray.mk #[102,97,108,115,101])))))] R) (s [m 28 1,q 29 .eql 28 4,m 30 29,M 31 30 0,I 32 30 31 0,A 33 30 32,m 27 33] (D 27 (s [x 4 (.mov (.k (.val (.string (ByteArray.mk #[110,111,110,
 101])))))] R) (s [m 35 1,q 36 .eql 35 4,m 34 36] (D 34 (s [m 37 0,c 38 54 [.t 37],x 39 (.bin .add (.k (.val (.string (ByteArray.mk #[35])))) (.t 38)),m 4 39] R) F))))))))))))) (s [E 40 1 false,m 5 40] (S (s [k 41 0] (B 1
 (s [q 42 .lss 41 12] (C 42 1 (S (.block 2 (s [m 43 41,m 6 43] (s [m 44 0,m 45 6,x 46 (.conv .u64 (.t 45)),o 47 .shr 44 46,q 48 .and 47 1,q 49 .eql 48 1] (D 49 (.reg [m 50 5,m 51 6,c 52 54 [.t 51],x 53 (.bslice 1 [] 1 false [(0,(.t 52))]),
 Q 54 1 16 50 53,m 5 54]) F)))) (.reg [q 55 .add 41 1,m 41 55])))))) (s [m 56 5,x 57 (.call false 85 [.t 56,(.k (.val (.string (ByteArray.mk #[32]))))]),x 58 (.bin .add (.k (.val (.string (ByteArray.mk #[123])))) (.t 57)),x 59 (.bin .add
 (.t 58) (.k (.val (.string (ByteArray.mk #[125]))))),m 4 59] R))))),[.t 4]⟩
theorem i53:iF 53 g53:=jF Tryz.func53
def g54:GFun:=⟨⟨5,[]⟩,(s [x 2 (.mov (.k (.val (.string (ByteArray.mk #[])))))] (s [m 3 0,c 4 86 [.t 3],m 2 4] R)),[.t 2]⟩
theorem i54:iF 54 g54:=jF Tryz.func54
def g55:GFun:=⟨⟨15,[2]⟩,(s [a 2 7 0,x 4 (.mov (.k (.val (.string (ByteArray.mk #[])))))] (S (s [h 5 7 2,c 6 87 [.t 5],m 7 1,o 8 .lss 6 7] (D 8 (s [h 9 7 2,c 10 28 [.t 9],x 11 (.bin .add (.k (.val (.string (ByteArray.mk #[40]))))
 (.t 10)),x 12 (.bin .add (.t 11) (.k (.val (.string (ByteArray.mk #[41]))))),m 4 12] R) F)) (s [h 13 7 2,c 14 28 [.t 13],m 4 14] R))),[.t 4]⟩
theorem i55:iF 55 g55:=jF Tryz.func55
def g56:GFun:=⟨⟨59,[1,3,4]⟩,(s [a 1 7 0,x 2 (.mov (.k (.val (.string (ByteArray.mk #[])))))] (s [f 6 6 1,f 10 6 1,u 3 7,u 4 7,l 7 6,x 8 (.iaddr 7 (.t 7) (K 0)),h 9 7 8,t 3 7 9,l 11 10,x 12 (.iaddr 7 (.t 11) (K 1)),h 13 7 12,t 4 7 13]
 (s [f 14 1 1,l 15 14,c 16 88 [.t 15],m 5 16] (s [m 17 5] (.block 0 (s [q 33 .eql 17 1,m 32 33] (D 32 (s [f 37 1 1,h 34 7 3,G 35 55 [.t 34,K 2],x 36 (.bin .add (.t 35) (.k (.val (.string (ByteArray.mk #[32]))))),l 38 37,G 39 89 [.t 38],
 o 40 .add 36 39,x 41 (.bin .add (.t 40) (.k (.val (.string (ByteArray.mk #[32]))))),h 42 7 4,G 43 55 [.t 42,K 2],o 44 .add 41 43,m 2 44] R) (s [q 46 .eql 17 4,m 45 46] (D 45 (s [f 47 1 1,l 48 47,G 49 89 [.t 48],x 50 (.bin .add (.t 49)
 (.k (.val (.string (ByteArray.mk #[40]))))),h 51 7 3,G 52 28 [.t 51],o 53 .add 50 52,x 54 (.bin .add (.t 53) (.k (.val (.string (ByteArray.mk #[44,32]))))),h 55 7 4,G 56 28 [.t 55],o 57 .add 54 56,x 58 (.bin .add (.t 57) (.k (.val
 (.string (ByteArray.mk #[41]))))),m 2 58] R) (s [m 19 5,f 22 1 1,m 28 5,q 29 .add 28 1,h 18 7 3,G 20 55 [.t 18,.t 19],x 21 (.bin .add (.t 20) (.k (.val (.string (ByteArray.mk #[32]))))),l 23 22,G 24 89 [.t 23],o 25 .add 21 24,x 26
 (.bin .add (.t 25) (.k (.val (.string (ByteArray.mk #[32]))))),h 27 7 4,G 30 55 [.t 27,.t 29],o 31 .add 26 30,m 2 31] R)))))))))),[.t 2]⟩
theorem i56:iF 56 g56:=jF Tryz.func56
def g57:GFun:=⟨⟨47,[]⟩,(s [x 4 (.mov (.k (.val (.string (ByteArray.mk #[])))))] (S (s [m 7 0,m 8 1,c 9 90 [.t 7,.t 8],w 10 9] (D 10 (s [x 4 (.mov (.k (.val (.string (ByteArray.mk #[])))))] R) F)) (S (s [m 11 1] (.block 0
 (s [q 13 .eql 11 1,m 12 13] (D 12 (s [m 14 0,c 15 58 [.t 14],m 4 15] R) (s [q 17 .eql 11 3,m 16 17] (D 16 (S (s [m 18 0,q 19 .eql 18 1] (D 19 (s [x 4 (.mov (.k (.val (.string (ByteArray.mk #[116,114,117,101])))))] R) F)) (s [x 4 (.mov
 (.k (.val (.string (ByteArray.mk #[102,97,108,115,101])))))] R)) (s [q 21 .eql 11 4,m 20 21] (D 20 (S (s [m 22 0,q 23 .eql 22 0] (D 23 (s [x 4 (.mov (.k (.val (.string (ByteArray.mk #[110,111,110,101])))))] R) F)) (s [m 24 0,
 c 25 58 [.t 24],x 26 (.bin .add (.k (.val (.string (ByteArray.mk #[35])))) (.t 25)),m 4 26] R)) F)))))))) (s [E 27 1 false,m 5 27] (S (s [k 6 0] (B 1 (S (s [m 28 6,q 29 .leq 28 11] (D 29 F (.exit 1))) (S (.block 2 (s [m 32 0,m 33 6,x 34
 (.conv .u64 (.t 33)),o 35 .shr 32 34,q 36 .and 35 1,q 37 .eql 36 1] (D 37 (.reg [m 38 5,m 39 6,c 40 58 [.t 39],x 41 (.bslice 1 [] 1 false [(0,(.t 40))]),Q 42 1 16 38 41,m 5 42]) F))) (.reg [m 30 6,q 31 .add 30 1,m 6 31]))))) (s [m 43 5,
 x 44 (.call false 91 [.t 43,(.k (.val (.string (ByteArray.mk #[32]))))]),x 45 (.bin .add (.k (.val (.string (ByteArray.mk #[123])))) (.t 44)),x 46 (.bin .add (.t 45) (.k (.val (.string (ByteArray.mk #[125]))))),m 4 46] R)))))),[.t 4]⟩
theorem i57:iF 57 g57:=jF Tryz.func57
def g58:GFun:=⟨⟨31,[]⟩,(s [x 2 (.mov (.k (.val (.string (ByteArray.mk #[])))))] (S (s [m 6 0,q 7 .eql 6 0] (D 7 (s [x 2 (.mov (.k (.val (.string (ByteArray.mk #[48])))))] R) F)) (s [m 8 0,q 9 .lss 8 0,m 3 9] (s [x 4 (.mov (.k (.val
 (.string (ByteArray.mk #[])))))] (S (B 0 (S (s [m 10 0,q 11 .neq 10 0] (D 11 F (.exit 0))) (.block 1 (s [m 12 0,q 13 .rem 12 10,m 5 13] (S (s [m 14 5,q 15 .lss 14 0] (D 15 (.reg [m 16 5,x 17 (.bin .sub (K 0) (.t 16)),m 5 17]) F))
 (s [m 18 5,x 19 (.bin .add (K 48) (.t 18)),x 20 (.conv .u8 (.t 19)),x 21 (.bslice 1 [] 1 false [(0,(.t 20))]),x 22 (.b2s (.t 21)),m 23 4,o 24 .add 22 23,m 4 24] (.reg [m 25 0,q 26 .quo 25 10,m 0 26]))))))) (S (s [m 27 3] (D 27 (s [m 28 4,
 x 29 (.bin .add (.k (.val (.string (ByteArray.mk #[45])))) (.t 28)),m 2 29] R) F)) (s [m 30 4,m 2 30] R))))))),[.t 2]⟩
theorem i58:iF 58 g58:=jF Tryz.func58
def g59:GFun:=⟨⟨16,[2]⟩,(s [a 2 7 0,x 4 (.mov (.k (.val (.string (ByteArray.mk #[])))))] (s [h 6 7 2,c 7 29 [.t 6],m 5 7] (S (s [h 8 7 2,c 9 92 [.t 8],m 10 1,o 11 .lss 9 10] (D 11 (s [m 12 5,x 13 (.bin .add (.k (.val (.string
 (ByteArray.mk #[40])))) (.t 12)),x 14 (.bin .add (.t 13) (.k (.val (.string (ByteArray.mk #[41]))))),m 4 14] R) F)) (s [m 15 5,m 4 15] R)))),[.t 4]⟩
theorem i59:iF 59 g59:=jF Tryz.func59
def g60:GFun:=⟨⟨53,[1,3000005]⟩,(s [a 1 7 0,x 2 (.mov (.k (.val (.string (ByteArray.mk #[])))))] (s [x 5 (.bslro 1 [] 13 false [(0,(.k (.val (.string (ByteArray.mk #[]))))),(1,(.k (.val (.string (ByteArray.mk #[43]))))),(2,(.k (.val
 (.string (ByteArray.mk #[45]))))),(3,(.k (.val (.string (ByteArray.mk #[42]))))),(4,(.k (.val (.string (ByteArray.mk #[109,97,120]))))),(5,(.k (.val (.string (ByteArray.mk #[109,105,110]))))),(6,(.k (.val (.string
 (ByteArray.mk #[124]))))),(7,(.k (.val (.string (ByteArray.mk #[38]))))),(8,(.k (.val (.string (ByteArray.mk #[92]))))),(9,(.k (.val (.string (ByteArray.mk #[60]))))),(10,(.k (.val (.string (ByteArray.mk #[61,61]))))),(11,(.k (.val
 (.string (ByteArray.mk #[104,97,115]))))),(12,(.k (.val (.string (ByteArray.mk #[119,105,116,104])))))]),m 3 5] (s [h 6 7 1,c 7 92 [.t 6],m 4 7] (S (s [m 8 4,q 9 .eql 8 4] (D 9 (s [m 10 3,f 11 1 1,f 16 6 1,f 23 6 1,l 12 11,i 13 1 10 12,
 l 14 13,x 15 (.bin .add (.t 14) (.k (.val (.string (ByteArray.mk #[40]))))),l 17 16,x 18 (.iaddr 7 (.t 17) (K 0)),h 19 7 18,G 20 29 [.t 19],o 21 .add 15 20,x 22 (.bin .add (.t 21) (.k (.val (.string (ByteArray.mk #[44,32]))))),l 24 23,
 x 25 (.iaddr 7 (.t 24) (K 1)),h 26 7 25,G 27 29 [.t 26],o 28 .add 22 27,x 29 (.bin .add (.t 28) (.k (.val (.string (ByteArray.mk #[41]))))),m 2 29] R) F)) (s [f 30 6 1,m 34 4,m 38 3,f 39 1 1,f 45 6 1,m 49 4,q 50 .add 49 1,l 31 30,x 32
 (.iaddr 7 (.t 31) (K 0)),h 33 7 32,G 35 61 [.t 34,K 2],G 36 59 [.t 33,.t 35],x 37 (.bin .add (.t 36) (.k (.val (.string (ByteArray.mk #[32]))))),l 40 39,i 41 1 38 40,l 42 41,o 43 .add 37 42,x 44 (.bin .add (.t 43) (.k (.val (.string
 (ByteArray.mk #[32]))))),l 46 45,x 47 (.iaddr 7 (.t 46) (K 1)),h 48 7 47,G 51 59 [.t 48,.t 50],o 52 .add 44 51,m 2 52] R))))),[.t 2]⟩
theorem i60:iF 60 g60:=jF Tryz.func60
def g61:GFun:=⟨⟨10,[]⟩,(s [k 4 0] (S (s [m 5 0,m 6 1,o 7 .gtr 5 6] (D 7 (s [m 8 0,m 4 8] R) F)) (s [m 9 1,m 4 9] R))),[.t 4]⟩
theorem i61:iF 61 g61:=jF Tryz.func61
def g62:GFun:=⟨⟨61,[1]⟩,(s [a 1 7 0,b 2 false] (S (s [f 3 0 1,l 4 3,c 5 93 [.t 4,K 1,K 8],w 6 5,m 7 6,z 8 7 (j 7 1),z 9 7 (.call false 94 [.t 8]),z 10 7 (.not (.t 9)),O 11 7 10] (D 11 (s [b 2 false] R) F)) (S (s [f 12 0 1,l 13 12]
 (.block 0 (s [q 15 .eql 13 1,m 14 15] (D 14 (s [f 16 3 1,l 17 16,c 18 93 [.t 17,K 1,K 3],m 19 18,y 20 19 (p 1 1 1),y 21 19 (r 1 20),y 22 19 (p 1 3 1),y 23 19 (r 1 22),y 24 19 (.call false 90 [.t 21,.t 23]),A 25 19 24,m 26 25,y 27 26
 (p 1 1 1),y 28 26 (r 1 27),y 29 26 (.bin .geq (.t 28) (K 0)),A 30 26 29,m 2 30] R) (s [q 32 .eql 13 3,m 31 32] (D 31 (s [f 33 2 1,l 34 33,c 35 93 [.t 34,K 0,K 3],m 36 35,y 37 36 (p 1 5 1),y 38 36 (r 1 37),y 39 36 (.call false 95 [.t 38]),
 A 40 36 39,m 2 40] R) (s [q 42 .eql 13 6,m 41 42] (D 41 (s [f 43 2 1,l 44 43,c 45 93 [.t 44,K 0,K 3],m 2 45] R) (s [q 47 .eql 13 4,m 46 47] (D 46 (s [f 48 1 1,l 49 48,c 50 93 [.t 49,K 1,K 12],m 2 50] R) (s [q 52 .eql 13 8,m 51 52] (D 51
 (s [f 53 4 1,l 54 53,c 55 95 [.t 54],m 56 55,y 57 56 (p 1 5 1),y 58 56 (r 1 57),y 59 56 (.call false 95 [.t 58]),A 60 56 59,m 2 60] R) F)))))))))))) (s [b 2 true] R)))),[.t 2]⟩
theorem i62:iF 62 g62:=jF Tryz.func62
def g63:GFun:=⟨⟨100,[4]⟩,(s [u 4 4,k 5 0] (s [m 10 1,m 6 10] (S (s [m 11 0,m 12 1,x 13 (.idx (.t 11) (.t 12)),m 7 13] (.block 0 (s [m 15 7,c 16 96 [.t 15],m 14 16] (D 14 (S (B 1 (S (s [m 17 6,m 18 0,x 19 (.slen (.t 18)),o 20 .lss 17 19,
 m 21 20,M 22 21 0,M 23 21 6,y 24 21 (.idx (.t 22) (.t 23)),y 25 21 (.call false 96 [.t 24]),M 26 21 25,N 27 26 0,N 28 26 6,z 29 26 (.idx (.t 27) (.t 28)),z 30 26 (.call false 97 [.t 29]),y 31 21 (.pick (.t 26) (.k (.val (.bool true)))
 (.t 30)),A 32 21 31] (D 32 F (.exit 1))) (.block 2 (.reg [m 33 6,q 34 .add 33 1,m 6 34])))) (S (s [m 35 6,m 36 1,o 37 .sub 35 36,q 38 .gtr 37 8] (D 38 (s [x 39 (.build [(.val (.int .i64 0)),(.val (.int .i64 0)),(.val (.int .i64 0)),(.val
 (.string (ByteArray.mk #[])))] []),t 4 4 39,k 5 0] R) F)) (s [m 40 0,m 41 1,m 42 6,x 43 (.sslc (.t 40) (some (.t 41)) (some (.t 42))),m 44 1,x 45 (.build [(.val (.int .i64 0)),(.val (.int .i64 0)),(.val (.int .i64 0)),(.val (.string
 (ByteArray.mk #[])))] [(0,(1,(K 1))),(3,(1,(.t 43))),(2,(1,(.t 44)))]),m 46 6,m 47 1,o 48 .sub 46 47,t 4 4 45,m 5 48] R))) (s [m 50 7,c 51 97 [.t 50],m 49 51] (D 49 (S (B 3 (S (s [m 52 6,m 53 0,x 54 (.slen (.t 53)),o 55 .lss 52 54,m 56 55,
 M 57 56 0,M 58 56 6,y 59 56 (.idx (.t 57) (.t 58)),y 60 56 (.call false 97 [.t 59]),A 61 56 60] (D 61 F (.exit 3))) (.block 4 (.reg [m 62 6,q 63 .add 62 1,m 6 63])))) (s [m 65 0,m 66 1,m 67 6,x 68 (.sslc (.t 65) (some (.t 66)) (some
 (.t 67))),c 69 98 [.t 68,K 0,K 1000000],m 64 69,v 70 64 0,v 71 64 1,m 8 70,m 9 71] (S (s [m 72 9,w 73 72] (D 73 (s [x 74 (.build [(.val (.int .i64 0)),(.val (.int .i64 0)),(.val (.int .i64 0)),(.val (.string (ByteArray.mk #[])))] []),
 t 4 4 74,k 5 0] R) F)) (s [m 75 8,m 76 1,x 77 (.build [(.val (.int .i64 0)),(.val (.int .i64 0)),(.val (.int .i64 0)),(.val (.string (ByteArray.mk #[])))] [(0,(1,(K 2))),(1,(1,(.t 75))),(2,(1,(.t 76)))]),m 78 6,m 79 1,o 80 .sub 78 79,
 t 4 4 77,m 5 80] R)))) (s [m 82 0,m 83 1,x 84 (.sslc (.t 82) (some (.t 83)) none),x 85 (.call false 99 [.t 84,(.k (.val (.string (ByteArray.mk #[61,61]))))]),m 81 85] (D 81 (s [m 86 1,x 87 (.build [(.val (.int .i64 0)),(.val
 (.int .i64 0)),(.val (.int .i64 0)),(.val (.string (ByteArray.mk #[])))] [(0,(1,(K 3))),(3,(1,(.k (.val (.string (ByteArray.mk #[61,61])))))),(2,(1,(.t 86)))]),t 4 4 87,k 5 2] R) (s [m 89 7,x 90 (.call false 100 [(.k (.val (.string
 (ByteArray.mk #[40,41,123,125,44,46,36,43,45,42,60,124,38,92])))),.t 89]),q 91 .geq 90 0,m 88 91] (D 88 (s [m 92 0,m 93 1,m 94 1,q 95 .add 94 1,x 96 (.sslc (.t 92) (some (.t 93)) (some (.t 95))),m 97 1,x 98 (.build [(.val (.int .i64 0)),
 (.val (.int .i64 0)),(.val (.int .i64 0)),(.val (.string (ByteArray.mk #[])))] [(0,(1,(K 3))),(3,(1,(.t 96))),(2,(1,(.t 97)))]),t 4 4 98,k 5 1] R) F)))))))))) (s [x 99 (.build [(.val (.int .i64 0)),(.val (.int .i64 0)),(.val
 (.int .i64 0)),(.val (.string (ByteArray.mk #[])))] []),t 4 4 99,k 5 0] R)))),[(.c 4 4 true),.t 5]⟩
theorem i63:iF 63 g63:=jF Tryz.func63
def g64:GFun:=⟨⟨16,[]⟩,(s [b 4 false] (S (s [m 5 0,m 6 1,c 7 101 [.t 5,.t 6],w 8 7] (D 8 (s [b 4 false] R) F)) (s [m 9 0,x 10 (.nck (.t 9)),f 11 1 10,l 12 11,q 13 .add 12 1,x 14 (.nck (.t 9)),f 15 1 14,(.mk none none (.store 1 (.t 15)
 (.t 13)))] (s [b 4 true] R)))),[.t 4]⟩
theorem i64:iF 64 g64:=jF Tryz.func64
def g65:GFun:=⟨⟨11,[]⟩,(s [m 4 0,m 5 1,c 6 64 [.t 4,.t 5],w 7 6] (D 7 (.reg [m 8 0,x 9 (.nck (.t 8)),f 10 2 9,(.mk none none (.store 1 (.t 10) (.k (.val (.bool true)))))]) F)),[]⟩
theorem i65:iF 65 g65:=jF Tryz.func65
def g66:GFun:=⟨⟨31,[4,6028005]⟩,(s [u 4 7] (S (s [m 7 1,q 8 .eql 7 4] (D 8 (s [m 9 0,c 10 102 [.t 9],t 4 7 10] R) F)) (s [m 11 0,m 12 1,q 13 .add 12 1,c 14 66 [.t 11,.t 13],x 5 (.alloc 7 (.agg [(.val (.int .i64 0)),(.val (.int .i64 0)),
 (.val (.int .i64 0)),(.val (.int .i64 0)),(.val (.string (ByteArray.mk #[]))),(.val (.string (ByteArray.mk #[]))),(.val (.slice none 0 0))])),(.mk none none (.store 7 (.t 5) (.t 14)))] (S (s [m 15 0,m 16 1,c 17 67 [.t 15,.t 16],m 6 17]
 (B 0 (S (s [m 18 6,q 19 .neq 18 0] (D 19 F (.exit 0))) (S (.block 1 (.reg [m 23 6,m 25 0,m 26 1,q 27 .add 26 1,h 24 7 5,x 28 (.callk [5] 66 [.t 25,.t 27]),c 29 68 [.t 23,.t 24,.t 28],(.mk none none (.store 7 (.t 5) (.t 29)))]))
 (.reg [m 20 0,m 21 1,c 22 67 [.t 20,.t 21],m 6 22]))))) (s [h 30 7 5,t 4 7 30] R))))),[(.c 4 7 true)]⟩
theorem i66:iF 66 g66:=jF Tryz.func66 [(7,4)]
def g67:GFun:=⟨⟨44,[]⟩,(s [k 4 0] (S (s [m 6 0,x 7 (.nck (.t 6)),f 8 2 7,l 9 8,m 10 9,N 11 10 0,z 12 10 (.nck (.t 11)),z 13 10 (p 1 1 12),N 15 10 0,z 16 10 (.nck (.t 15)),z 17 10 (p 1 0 16),z 14 10 (r 1 13),z 18 10 (r 1 17),z 19 10
 (.len (.t 18)),z 20 10 (.bin .geq (.t 14) (.t 19)),O 21 10 20] (D 21 (s [k 4 0] R) F)) (s [m 22 0,x 23 (.nck (.t 22)),f 24 0 23,m 26 0,x 27 (.nck (.t 26)),f 28 1 27,m 32 1,l 25 24,l 29 28,i 30 4 25 29,h 31 4 30,G 33 103 [.t 31,.t 32],
 m 5 33] (S (s [m 34 5,q 35 .neq 34 0] (D 35 (.reg [m 36 0,x 37 (.nck (.t 36)),f 38 1 37,l 39 38,q 40 .add 39 1,x 41 (.nck (.t 36)),f 42 1 41,(.mk none none (.store 1 (.t 42) (.t 40)))]) F)) (s [m 43 5,m 4 43] R))))),[.t 4]⟩
theorem i67:iF 67 g67:=jF Tryz.func67
def g68:GFun:=⟨⟨12,[4,5,6]⟩,(s [a 4 7 1,a 5 7 2,u 6 7] (s [m 7 0,h 8 7 4,h 9 7 5,x 10 (.bslice 7 [] 2 true [(0,(.t 8)),(1,(.t 9))]),x 11 (.build [(.val (.int .i64 0)),(.val (.int .i64 0)),(.val (.int .i64 0)),(.val (.int .i64 0)),
 (.val (.string (ByteArray.mk #[]))),(.val (.string (ByteArray.mk #[]))),(.val (.slice none 0 0))] [(0,(1,(K 4))),(1,(1,(.t 7))),(6,(1,(.t 10)))]),t 6 7 11] R)),[(.c 6 7 true)]⟩
theorem i68:iF 68 g68:=jF Tryz.func68
def g69:GFun:=⟨⟨9,[]⟩,(s [b 2 false] (s [m 3 0,x 4 (.bin .geq (.t 3) (.k (.val (.int .u8 97)))),m 5 4,M 6 5 0,y 7 5 (.bin .leq (.t 6) (.k (.val (.int .u8 122)))),A 8 5 7,m 2 8] R)),[.t 2]⟩
theorem i69:iF 69 g69:=jF Tryz.func69
def g70:GFun:=⟨⟨9,[]⟩,(s [b 2 false] (s [m 3 0,x 4 (.bin .geq (.t 3) (.k (.val (.int .u8 48)))),m 5 4,M 6 5 0,y 7 5 (.bin .leq (.t 6) (.k (.val (.int .u8 57)))),A 8 5 7,m 2 8] R)),[.t 2]⟩
theorem i70:iF 70 g70:=jF Tryz.func70
def g71:GFun:=⟨⟨8,[]⟩,(s [k 2 0,b 3 false] (s [m 4 0,c 5 104 [.t 4,K 12],v 6 5 0,v 7 5 1,m 2 6,m 3 7] R)),[.t 2,.t 3]⟩
theorem i71:iF 71 g71:=jF Tryz.func71
def g72:GFun:=⟨⟨37,[]⟩,(s [k 4 0] (S (s [m 5 0,m 6 1,x 7 (.idx (.t 5) (.t 6))] (.block 0 (S (s [x 9 (.bin .eql (.t 7) (.k (.val (.int .u8 40)))),m 8 9] (D 8 F (s [x 10 (.bin .eql (.t 7) (.k (.val (.int .u8 41)))),m 8 10] (D 8 F
 (s [x 11 (.bin .eql (.t 7) (.k (.val (.int .u8 123)))),m 8 11] (D 8 F (s [x 12 (.bin .eql (.t 7) (.k (.val (.int .u8 125)))),m 8 12] (D 8 F (s [x 13 (.bin .eql (.t 7) (.k (.val (.int .u8 44)))),m 8 13] (D 8 F (s [x 14 (.bin .eql (.t 7)
 (.k (.val (.int .u8 46)))),m 8 14] (D 8 F (s [x 15 (.bin .eql (.t 7) (.k (.val (.int .u8 36)))),m 8 15] (D 8 F (s [x 16 (.bin .eql (.t 7) (.k (.val (.int .u8 43)))),m 8 16] (D 8 F (s [x 17 (.bin .eql (.t 7) (.k (.val (.int .u8 45)))),
 m 8 17] (D 8 F (s [x 18 (.bin .eql (.t 7) (.k (.val (.int .u8 42)))),m 8 18] (D 8 F (s [x 19 (.bin .eql (.t 7) (.k (.val (.int .u8 60)))),m 8 19] (D 8 F (s [x 20 (.bin .eql (.t 7) (.k (.val (.int .u8 124)))),m 8 20] (D 8 F (s [x 21
 (.bin .eql (.t 7) (.k (.val (.int .u8 38)))),m 8 21] (D 8 F (.reg [x 22 (.bin .eql (.t 7) (.k (.val (.int .u8 92)))),m 8 22]))))))))))))))))))))))))))) (D 8 (s [k 4 1] R) (s [x 24 (.bin .eql (.t 7) (.k (.val (.int .u8 61)))),m 23 24]
 (D 23 (s [m 25 1,q 26 .add 25 1,m 27 0,x 28 (.slen (.t 27)),o 29 .lss 26 28,m 30 29,M 31 30 0,M 32 30 1,y 33 30 (.bin .add (.t 32) (K 1)),y 34 30 (.idx (.t 31) (.t 33)),y 35 30 (.bin .eql (.t 34) (.k (.val (.int .u8 61)))),A 36 30 35]
 (D 36 (s [k 4 2] R) F)) F)))))) (s [k 4 0] R))),[.t 4]⟩
theorem i72:iF 72 g72:=jF Tryz.func72
def g73:GFun:=⟨⟨36,[]⟩,(s [b 4 false] (s [m 5 0,x 6 (.nck (.t 5)),f 7 3 6,l 8 7,q 9 .lss 8 0,m 10 9,M 11 10 0,y 12 10 (.nck (.t 11)),y 13 10 (p 1 1 12),M 15 10 0,y 16 10 (.nck (.t 15)),y 17 10 (p 1 0 16),y 14 10 (r 1 13),y 18 10
 (r 1 17),y 19 10 (.len (.t 18)),y 20 10 (.bin .lss (.t 14) (.t 19)),A 21 10 20,m 22 21,M 23 22 0,y 24 22 (.nck (.t 23)),y 25 22 (p 1 0 24),M 27 22 0,y 28 22 (.nck (.t 27)),y 29 22 (p 1 1 28),M 33 22 1,y 26 22 (r 1 25),y 30 22 (r 1 29),
 y 31 22 (.iaddr 4 (.t 26) (.t 30)),y 32 22 (j 4 31),y 34 22 (.call true 105 [.t 32,.t 33]),A 35 22 34,m 4 35] R)),[.t 4]⟩
theorem i73:iF 73 g73:=jF Tryz.func73
def g74:GFun:=⟨⟨39,[4,6034005]⟩,(s [u 4 7] (S (s [m 7 1,q 8 .gtr 7 3] (D 8 (s [m 9 0,c 10 106 [.t 9],t 4 7 10] R) F)) (s [m 11 0,m 12 1,q 13 .add 12 1,c 14 74 [.t 11,.t 13],x 5 (.alloc 7 (.agg [(.val (.int .i64 0)),(.val (.int .i64 0)),
 (.val (.int .i64 0)),(.val (.int .i64 0)),(.val (.string (ByteArray.mk #[]))),(.val (.string (ByteArray.mk #[]))),(.val (.slice none 0 0))])),(.mk none none (.store 7 (.t 5) (.t 14)))] (B 0 (.block 1 (s [m 15 0,m 16 1,c 17 107 [.t 15,
 .t 16],m 6 17] (S (s [m 18 6,q 19 .eql 18 0] (D 19 (s [h 20 7 5,t 4 7 20] R) F)) (s [m 21 0,m 22 0,x 23 (.nck (.t 22)),f 24 1 23,l 25 24,q 26 .add 25 1,x 27 (.nck (.t 21)),f 28 1 27,(.mk none none (.store 1 (.t 28) (.t 26)))] (s [m 29 6,
 m 31 0,m 32 1,q 33 .add 32 1,h 30 7 5,x 34 (.callk [5] 74 [.t 31,.t 33]),c 35 48 [.t 29,.t 30,.t 34],(.mk none none (.store 7 (.t 5) (.t 35)))] (s [m 36 1,q 37 .eql 36 1] (D 37 (s [h 38 7 5,t 4 7 38] R) F))))))))))),[(.c 4 7 true)]⟩
theorem i74:iF 74 g74:=jF Tryz.func74 [(8,4)]
def g75:GFun:=⟨⟨18,[]⟩,(S (s [m 4 0,m 5 1,c 6 73 [.t 4,.t 5],w 7 6] (D 7 (s [m 8 0,c 9 39 [.t 8]] R) F)) (.reg [m 10 0,m 11 0,x 12 (.nck (.t 11)),f 13 1 12,l 14 13,q 15 .add 14 1,x 16 (.nck (.t 10)),f 17 1 16,(.mk none none (.store 1
 (.t 17) (.t 15)))])),[]⟩
theorem i75:iF 75 g75:=jF Tryz.func75
def g77:GFun:=⟨⟨34,[]⟩,(s [x 6 (.mov (.k (.val (.string (ByteArray.mk #[])))))] (s [m 8 0,m 9 1,x 10 (.slen (.t 9)),q 11 .add 10 1,c 12 45 [.t 8,.t 11],m 7 12] (S (s [m 13 0,c 14 45 [.t 13,K 6]] (.block 0 (s [q 16 .eql 14 0,m 15 16]
 (D 15 (s [m 17 1,m 18 7,x 19 (.sslc (.t 17) none (some (.t 18))),m 20 0,m 21 2,m 24 1,m 25 7,x 26 (.sslc (.t 24) (some (.t 25)) none),x 22 (.calla 47 [.t 20,.t 21]),o 23 .add 19 22,o 27 .add 23 26,m 6 27] R) (s [q 29 .eql 14 1,m 28 29]
 (D 28 (s [m 30 1,m 31 7,x 32 (.sslc (.t 30) none (some (.t 31))),m 6 32] R) F)))))) (s [m 33 1,m 6 33] R)))),[.t 6]⟩
theorem i77:iF 77 g77:=jF Tryz.func77 [(4,2064)]
def g78:GFun:=⟨⟨73,[4,3000028,3000051]⟩,(s [u 4 7] (S (s [m 5 1,q 6 .lss 5 2,m 7 6,N 8 7 0,z 9 7 (.call false 108 [.t 8,K 4]),O 10 7 9] (D 10 (S (s [m 11 0,c 12 108 [.t 11,K 5]] (D 12 (s [x 13 (.build [(.val (.int .i64 0)),(.val
 (.int .i64 0)),(.val (.int .i64 0)),(.val (.int .i64 0)),(.val (.string (ByteArray.mk #[]))),(.val (.string (ByteArray.mk #[]))),(.val (.slice none 0 0))] [(0,(1,(K 2)))]),t 4 7 13] R) F)) (S (s [m 14 0,c 15 108 [.t 14,K 6]] (D 15
 (s [m 16 0,c 17 45 [.t 16,K 4],x 18 (.build [(.val (.int .i64 0)),(.val (.int .i64 0)),(.val (.int .i64 0)),(.val (.int .i64 0)),(.val (.string (ByteArray.mk #[]))),(.val (.string (ByteArray.mk #[]))),(.val (.slice none 0 0))] [(0,(1,
 (K 6))),(2,(1,(.t 17)))]),t 4 7 18] R) F)) (s [m 19 0,m 20 0,c 21 45 [.t 20,K 4],x 22 (.bin .add (K 1) (.t 21)),m 23 0,c 24 45 [.t 23,K 4],m 25 0,c 26 110 [.t 25],x 27 (.build [(.val (.int .i64 0)),(.val (.string (ByteArray.mk #[])))] [(0,
 (1,(.t 24))),(1,(1,(.t 26)))]),x 28 (.bslro 2 [] 1 true [(0,(.t 27))]),c 29 109 [.t 19,.t 22,.t 28],t 4 7 29] R))) F)) (S (s [m 30 0,c 31 45 [.t 30,K 5]] (.block 0 (s [q 33 .eql 31 0,m 32 33] (D 32 (s [m 34 0,m 35 1,q 36 .sub 35 1,
 c 37 78 [.t 34,.t 36],m 38 0,m 39 1,q 40 .sub 39 1,c 41 78 [.t 38,.t 40],m 42 0,m 43 1,q 44 .sub 43 1,c 45 78 [.t 42,.t 44],x 46 (.bslice 7 [] 3 true [(0,(.t 37)),(1,(.t 41)),(2,(.t 45))]),x 47 (.build [(.val (.int .i64 0)),(.val
 (.int .i64 0)),(.val (.int .i64 0)),(.val (.int .i64 0)),(.val (.string (ByteArray.mk #[]))),(.val (.string (ByteArray.mk #[]))),(.val (.slice none 0 0))] [(0,(1,(K 5))),(6,(1,(.t 46)))]),t 4 7 47] R) (s [q 49 .eql 31 1,m 48 49] (D 48
 (s [m 50 0,x 51 (.bslro 1 [] 2 false [(0,(.k (.val (.string (ByteArray.mk #[115]))))),(1,(.k (.val (.string (ByteArray.mk #[116])))))]),c 52 47 [.t 50,.t 51],m 53 0,c 54 110 [.t 53],m 55 0,m 56 1,q 57 .sub 56 1,c 58 78 [.t 55,.t 57],x 59
 (.bslice 7 [] 1 true [(0,(.t 58))]),x 60 (.build [(.val (.int .i64 0)),(.val (.int .i64 0)),(.val (.int .i64 0)),(.val (.int .i64 0)),(.val (.string (ByteArray.mk #[]))),(.val (.string (ByteArray.mk #[]))),(.val (.slice none 0 0))] [(0,(1,
 (K 8))),(4,(1,(.t 52))),(5,(1,(.t 54))),(6,(1,(.t 59)))]),t 4 7 60] R) F)))))) (s [m 61 0,c 62 45 [.t 61,K 12],x 63 (.bin .add (K 1) (.t 62)),m 64 0,m 65 1,q 66 .sub 65 1,c 67 78 [.t 64,.t 66],m 68 0,m 69 1,q 70 .sub 69 1,c 71 78 [.t 68,
 .t 70],c 72 48 [.t 63,.t 67,.t 71],t 4 7 72] R)))),[(.c 4 7 true)]⟩
theorem i78:iF 78 g78:=jF Tryz.func78
def g79:GFun:=⟨⟨58,[]⟩,(s [k 2 0] (s [m 4 0,m 5 0,x 6 (.nck (.t 5)),f 7 2 6,l 8 7,q 9 .mul 8 6364136223846793005,q 10 .add 9 1442695040888963407,x 11 (.nck (.t 4)),f 12 2 11,(.mk none none (.store 1 (.t 12) (.t 10)))] (s [m 13 0,x 14
 (.nck (.t 13)),f 15 2 14,m 18 0,x 19 (.nck (.t 18)),f 20 2 19,l 16 15,x 17 (.bin .shr (.t 16) (.k (.val (.int .u64 33)))),l 21 20,x 22 (.bin .shr (.t 21) (.k (.val (.int .u64 45)))),o 23 .xor 17 22,q 24 .and 23 255,m 3 24] (S (s [m 25 0,
 x 26 (.nck (.t 25)),f 27 1 26,m 29 0,x 30 (.nck (.t 29)),f 31 0 30,l 28 27,l 32 31,n 33 32,o 34 .lss 28 33] (D 34 (s [m 35 3,m 36 0,x 37 (.nck (.t 36)),f 38 0 37,m 40 0,x 41 (.nck (.t 40)),f 42 1 41,l 39 38,l 43 42,i 44 1 39 43,l 45 44,
 x 46 (.conv .i64 (.t 45)),o 47 .add 35 46,q 48 .and 47 255,m 3 48] (.reg [m 49 0,m 50 0,x 51 (.nck (.t 50)),f 52 1 51,l 53 52,q 54 .add 53 1,x 55 (.nck (.t 49)),f 56 1 55,(.mk none none (.store 1 (.t 56) (.t 54)))])) F)) (s [m 57 3,
 m 2 57] R))))),[.t 2]⟩
theorem i79:iF 79 g79:=jF Tryz.func79
def g80:GFun:=⟨⟨9,[]⟩,(s [b 4 false] (s [m 5 0,m 6 1,c 7 111 [.t 5,.t 6],q 8 .geq 7 0,m 4 8] R)),[.t 4]⟩
theorem i80:iF 80 g80:=jF Tryz.func80
def g81:GFun:=⟨⟨8,[2]⟩,(s [a 2 7 0,b 3 false] (s [h 4 7 2,l 5 1,c 6 51 [.t 4,.t 5],w 7 6,m 3 7] R)),[.t 3]⟩
theorem i81:iF 81 g81:=jF Tryz.func81
def g82:GFun:=⟨⟨14,[]⟩,(s [b 4 false] (s [m 5 1,c 6 112 [.t 5],m 7 6,M 8 7 0,M 9 7 1,y 10 7 (.call false 113 [.t 8,.t 9]),M 11 7 0,y 12 7 (.bin .eql (.t 10) (.t 11)),A 13 7 12,m 4 13] R)),[.t 4]⟩
theorem i82:iF 82 g82:=jF Tryz.func82
def g83:GFun:=⟨⟨35,[]⟩,(s [b 2 false] (S (s [m 4 0,x 5 (.slen (.t 4)),k 6 0] (B 0 (s [o 7 .lss 6 5] (C 7 0 (S (.block 1 (s [m 8 6,m 3 8] (s [m 9 0,m 10 3,x 11 (.idx (.t 9) (.t 10)),c 12 96 [.t 11],w 13 12,m 14 13,M 15 14 0,M 16 14 3,
 y 17 14 (.idx (.t 15) (.t 16)),y 18 14 (.call false 97 [.t 17]),y 19 14 (.not (.t 18)),A 20 14 19] (D 20 (s [b 2 false] R) F)))) (.reg [q 21 .add 6 1,m 6 21])))))) (s [m 22 0,x 23 (.slen (.t 22)),c 24 84 [.t 23,K 1,K 8],m 25 24,M 26 25 0,
 y 27 25 (.idx (.t 26) (K 0)),y 28 25 (.call false 96 [.t 27]),A 29 25 28,m 30 29,M 31 30 0,y 32 30 (.call false 114 [.t 31]),y 33 30 (.not (.t 32)),A 34 30 33,m 2 34] R))),[.t 2]⟩
theorem i83:iF 83 g83:=jF Tryz.func83
def g84:GFun:=⟨⟨15,[]⟩,(s [b 6 false] (s [m 7 0,m 8 1,o 9 .geq 7 8,m 10 9,M 11 10 0,M 12 10 2,y 13 10 (.bin .leq (.t 11) (.t 12)),A 14 10 13,m 6 14] R)),[.t 6]⟩
theorem i84:iF 84 g84:=jF Tryz.func84
def g85:GFun:=⟨⟨8,[]⟩,(s [x 4 (.mov (.k (.val (.string (ByteArray.mk #[])))))] (s [m 5 0,m 6 1,c 7 115 [.t 5,.t 6],m 4 7] R)),[.t 4]⟩
theorem i85:iF 85 g85:=jF Tryz.func85
def g87:GFun:=⟨⟨12,[1]⟩,(s [a 1 7 0,k 2 0] (S (s [f 3 0 1,l 4 3] (.block 0 (s [q 6 .eql 4 5,m 5 6] (D 5 (s [k 2 0] R) (s [q 8 .eql 4 4,m 7 8] (D 7 (s [f 9 1 1,l 10 9,c 11 88 [.t 10],m 2 11] R) F)))))) (s [k 2 4] R))),[.t 2]⟩
theorem i87:iF 87 g87:=jF Tryz.func87
def g88:GFun:=⟨⟨15,[]⟩,(s [k 2 0] (S (s [m 3 0] (.block 0 (S (s [q 5 .eql 3 9,m 4 5] (D 4 F (.reg [q 6 .eql 3 10,m 4 6]))) (D 4 (s [k 2 1] R) (S (s [q 8 .eql 3 1,m 7 8] (D 7 F (s [q 9 .eql 3 2,m 7 9] (D 7 F (s [q 10 .eql 3 6,m 7 10]
 (D 7 F (.reg [q 11 .eql 3 8,m 7 11]))))))) (D 7 (s [k 2 2] R) (S (s [q 13 .eql 3 3,m 12 13] (D 12 F (.reg [q 14 .eql 3 7,m 12 14]))) (D 12 (s [k 2 3] R) F)))))))) (s [k 2 4] R))),[.t 2]⟩
theorem i88:iF 88 g88:=jF Tryz.func88
def g89:GFun:=⟨⟨10,[]⟩,(s [x 2 (.mov (.k (.val (.string (ByteArray.mk #[])))))] (S (s [m 3 0,c 4 84 [.t 3,K 1,K 12],w 5 4] (D 5 (s [x 2 (.mov (.k (.val (.string (ByteArray.mk #[])))))] R) F)) (s [x 6 (.build [(.val (.string
 (ByteArray.mk #[]))),(.val (.string (ByteArray.mk #[]))),(.val (.string (ByteArray.mk #[]))),(.val (.string (ByteArray.mk #[]))),(.val (.string (ByteArray.mk #[]))),(.val (.string (ByteArray.mk #[]))),(.val (.string (ByteArray.mk #[]))),
 (.val (.string (ByteArray.mk #[]))),(.val (.string (ByteArray.mk #[]))),(.val (.string (ByteArray.mk #[]))),(.val (.string (ByteArray.mk #[]))),(.val (.string (ByteArray.mk #[])))] [(0,(1,(.k (.val (.string (ByteArray.mk #[43])))))),(1,(1,
 (.k (.val (.string (ByteArray.mk #[45])))))),(2,(1,(.k (.val (.string (ByteArray.mk #[42])))))),(3,(1,(.k (.val (.string (ByteArray.mk #[109,97,120])))))),(4,(1,(.k (.val (.string (ByteArray.mk #[109,105,110])))))),(5,(1,(.k (.val
 (.string (ByteArray.mk #[124])))))),(6,(1,(.k (.val (.string (ByteArray.mk #[38])))))),(7,(1,(.k (.val (.string (ByteArray.mk #[92])))))),(8,(1,(.k (.val (.string (ByteArray.mk #[60])))))),(9,(1,(.k (.val (.string (ByteArray.mk #[61,
 61])))))),(10,(1,(.k (.val (.string (ByteArray.mk #[104,97,115])))))),(11,(1,(.k (.val (.string (ByteArray.mk #[119,105,116,104]))))))]),m 7 0,q 8 .sub 7 1,x 9 (.aidx 12 (.t 6) (.t 8)),m 2 9] R))),[.t 2]⟩
theorem i89:iF 89 g89:=jF Tryz.func89
def g90:GFun:=⟨⟨14,[]⟩,(s [b 4 false] (s [m 5 1,c 6 93 [.t 5,K 1,K 4],m 7 6,M 8 7 0,M 9 7 1,y 10 7 (.call false 117 [.t 8,.t 9]),M 11 7 0,y 12 7 (.bin .eql (.t 10) (.t 11)),A 13 7 12,m 4 13] R)),[.t 4]⟩
theorem i90:iF 90 g90:=jF Tryz.func90
def g91:GFun:=⟨⟨27,[]⟩,(s [x 4 (.mov (.k (.val (.string (ByteArray.mk #[])))))] (s [E 7 1 false,m 5 7] (S (s [k 6 0] (B 0 (S (s [m 8 6,m 9 0,n 10 9,o 11 .lss 8 10] (D 11 F (.exit 0))) (S (.block 1 (S (s [m 14 6,q 15 .gtr 14 0] (D 15
 (.reg [m 16 5,m 17 1,Q 18 1 1 16 17,m 5 18]) F)) (.reg [m 19 5,m 20 0,m 21 6,i 22 1 20 21,l 23 22,Q 24 1 1 19 23,m 5 24]))) (.reg [m 12 6,q 13 .add 12 1,m 6 13]))))) (s [m 25 5,x 26 (.b2s (.t 25)),m 4 26] R)))),[.t 4]⟩
theorem i91:iF 91 g91:=jF Tryz.func91
def g92:GFun:=⟨⟨22,[1]⟩,(s [a 1 7 0,k 2 0] (S (s [f 3 0 1,l 4 3] (.block 0 (s [q 6 .eql 4 5,m 5 6] (D 5 (s [k 2 0] R) (s [q 8 .eql 4 4,m 7 8] (D 7 (s [f 9 1 1,l 10 9] (.block 1 (S (s [q 12 .eql 10 9,m 11 12] (D 11 F
 (.reg [q 13 .eql 10 10,m 11 13]))) (D 11 (s [k 2 1] R) (S (s [q 15 .eql 10 1,m 14 15] (D 14 F (s [q 16 .eql 10 2,m 14 16] (D 14 F (s [q 17 .eql 10 6,m 14 17] (D 14 F (.reg [q 18 .eql 10 8,m 14 18]))))))) (D 14 (s [k 2 2] R) (S
 (s [q 20 .eql 10 3,m 19 20] (D 19 F (.reg [q 21 .eql 10 7,m 19 21]))) (D 19 (s [k 2 3] R) F)))))))) F)))))) (s [k 2 4] R))),[.t 2]⟩
theorem i92:iF 92 g92:=jF Tryz.func92
def g93:GFun:=⟨⟨15,[]⟩,(s [b 6 false] (s [m 7 0,m 8 1,o 9 .geq 7 8,m 10 9,M 11 10 0,M 12 10 2,y 13 10 (.bin .leq (.t 11) (.t 12)),A 14 10 13,m 6 14] R)),[.t 6]⟩
theorem i93:iF 93 g93:=jF Tryz.func93
def g94:GFun:=⟨⟨86,[1]⟩,(s [a 1 7 0,b 2 false] (s [k 3 0] (S (s [f 7 0 1,l 8 7] (.block 0 (s [q 10 .eql 8 4,m 9 10] (D 9 (.reg [k 3 2]) (s [q 12 .eql 8 5,m 11 12] (D 11 (.reg [k 3 3]) (s [q 14 .eql 8 8,m 13 14] (D 13
 (.reg [k 3 1]) F)))))))) (S (s [f 15 6 1,l 16 15,n 17 16,m 18 3,o 19 .neq 17 18] (D 19 (s [b 2 false] R) F)) (s [f 20 0 1,l 21 20,q 22 .eql 21 3,m 23 22,z 24 23 (p 1 0 1),z 25 23 (r 1 24),J 26 23 25 6,O 27 23 26,m 4 27] (s [f 28 0 1,
 l 29 28,q 30 .eql 29 3,m 31 30,z 32 31 (p 1 0 1),z 33 31 (r 1 32),J 34 31 33 8,O 35 31 34,m 5 35] (s [f 36 0 1,l 37 36,q 38 .eql 37 1,m 39 38,z 40 39 (p 1 0 1),z 41 39 (r 1 40),J 42 39 41 4,O 43 39 42,m 6 43] (s [m 44 4,m 45 44,z 46 45
 (p 1 2 1),z 47 45 (r 1 46),J 48 45 47 0,O 49 45 48,m 50 49,M 51 50 5,M 52 50 51,z 53 52 (p 1 5 1),z 54 52 (r 1 53),z 55 52 (.bin .eql (.t 54) (.k (.val (.string (ByteArray.mk #[]))))),y 56 50 (.pick (.t 52) (.k (.val (.bool true)))
 (.t 55)),A 57 50 56,m 58 57,M 59 58 6,M 60 58 59,z 61 60 (p 1 1 1),z 62 60 (r 1 61),J 63 60 62 0,y 64 58 (.pick (.t 60) (.k (.val (.bool true))) (.t 63)),A 65 58 64,m 66 65,y 67 66 (p 1 0 1),y 68 66 (r 1 67),I 69 66 68 1,M 70 66 69,
 z 71 70 (p 1 3 1),z 72 70 (r 1 71),J 73 70 72 0,y 74 66 (.pick (.t 70) (.k (.val (.bool true))) (.t 73)),A 75 66 74,m 76 75,y 77 76 (p 1 0 1),y 78 76 (r 1 77),I 79 76 78 8,M 80 76 79,z 81 80 (p 1 4 1),z 82 80 (r 1 81),z 83 80 (.bin .eql
 (.t 82) (.k (.val (.string (ByteArray.mk #[]))))),y 84 76 (.pick (.t 80) (.k (.val (.bool true))) (.t 83)),A 85 76 84,m 2 85] R)))))))),[.t 2]⟩
theorem i94:iF 94 g94:=jF Tryz.func94
def g95:GFun:=⟨⟨15,[]⟩,(s [b 2 false] (s [m 3 0,c 4 118 [.t 3],m 5 4,M 6 5 0,y 7 5 (.slen (.t 6)),y 8 5 (.bin .leq (.t 7) (K 8)),A 9 5 8,m 10 9,M 11 10 0,y 12 10 (.call false 119 [.t 11]),y 13 10 (.not (.t 12)),A 14 10 13,m 2 14] R)),
 [.t 2]⟩
theorem i95:iF 95 g95:=jF Tryz.func95
def g96:GFun:=⟨⟨9,[]⟩,(s [b 2 false] (s [m 3 0,x 4 (.bin .geq (.t 3) (.k (.val (.int .u8 97)))),m 5 4,M 6 5 0,y 7 5 (.bin .leq (.t 6) (.k (.val (.int .u8 122)))),A 8 5 7,m 2 8] R)),[.t 2]⟩
theorem i96:iF 96 g96:=jF Tryz.func96
def g97:GFun:=⟨⟨9,[]⟩,(s [b 2 false] (s [m 3 0,x 4 (.bin .geq (.t 3) (.k (.val (.int .u8 48)))),m 5 4,M 6 5 0,y 7 5 (.bin .leq (.t 6) (.k (.val (.int .u8 57)))),A 8 5 7,m 2 8] R)),[.t 2]⟩
theorem i97:iF 97 g97:=jF Tryz.func97
def g98:GFun:=⟨⟨31,[]⟩,(s [k 6 0,b 7 false] (s [m 11 0,c 12 120 [.t 11],m 10 12,v 13 10 0,v 14 10 1,m 8 13,m 9 14] (S (s [m 15 9,x 16 (.ifnil true (.t 15)),m 17 16,N 18 17 8,N 19 17 1,N 20 17 2,z 21 17 (.call false 84 [.t 18,.t 19,
 .t 20]),z 22 17 (.not (.t 21)),O 23 17 22,m 24 23,N 25 24 8,z 26 24 (.call false 54 [.t 25]),N 27 24 0,z 28 24 (.bin .neq (.t 26) (.t 27)),O 29 24 28] (D 29 (s [k 6 0,b 7 false] R) F)) (s [m 30 8,m 6 30,b 7 true] R)))),[.t 6,.t 7]⟩
theorem i98:iF 98 g98:=jF Tryz.func98
def g99:GFun:=⟨⟨8,[]⟩,(s [b 4 false] (s [m 5 0,m 6 1,c 7 121 [.t 5,.t 6],m 4 7] R)),[.t 4]⟩
theorem i99:iF 99 g99:=jF Tryz.func99
def g101:GFun:=⟨⟨36,[]⟩,(s [b 4 false] (s [m 5 0,x 6 (.nck (.t 5)),f 7 2 6,l 8 7,w 9 8,m 10 9,M 11 10 0,y 12 10 (.nck (.t 11)),y 13 10 (p 1 1 12),M 15 10 0,y 16 10 (.nck (.t 15)),y 17 10 (p 1 0 16),y 14 10 (r 1 13),y 18 10 (r 1 17),
 y 19 10 (.len (.t 18)),y 20 10 (.bin .lss (.t 14) (.t 19)),A 21 10 20,m 22 21,M 23 22 0,y 24 22 (.nck (.t 23)),y 25 22 (p 1 0 24),M 27 22 0,y 28 22 (.nck (.t 27)),y 29 22 (p 1 1 28),M 33 22 1,y 26 22 (r 1 25),y 30 22 (r 1 29),y 31 22
 (.iaddr 4 (.t 26) (.t 30)),y 32 22 (j 4 31),y 34 22 (.call true 123 [.t 32,.t 33]),A 35 22 34,m 4 35] R)),[.t 4]⟩
theorem i101:iF 101 g101:=jF Tryz.func101
def g102:GFun:=⟨⟨146,[2,3,6,7,8]⟩,(s [u 2 7] (S (s [m 11 0,x 12 (.nck (.t 11)),f 13 2 12,l 14 13,m 15 14,N 16 15 0,z 17 15 (.nck (.t 16)),z 18 15 (p 1 1 17),N 20 15 0,z 21 15 (.nck (.t 20)),z 22 15 (p 1 0 21),z 19 15 (r 1 18),z 23 15
 (r 1 22),z 24 15 (.len (.t 23)),z 25 15 (.bin .geq (.t 19) (.t 24)),O 26 15 25] (D 26 (s [m 27 0,x 28 (.nck (.t 27)),f 29 2 28,(.mk none none (.store 1 (.t 29) (.k (.val (.bool true)))))] (s [x 30 (.build [(.val (.int .i64 0)),(.val
 (.int .i64 0)),(.val (.int .i64 0)),(.val (.int .i64 0)),(.val (.string (ByteArray.mk #[]))),(.val (.string (ByteArray.mk #[]))),(.val (.slice none 0 0))] []),t 2 7 30] R)) F)) (s [m 31 0,x 32 (.nck (.t 31)),f 33 0 32,m 35 0,x 36 (.nck
 (.t 35)),f 37 1 36,u 3 4,l 34 33,l 38 37,i 39 4 34 38,h 40 4 39,t 3 4 40] (S (.block 0 (s [f 42 0 3,l 43 42,q 44 .eql 43 2,m 41 44] (D 41 (s [m 45 0,c 46 125 [.t 45,K 0,K 1000000],c 47 124 [.t 46,K 1],t 2 7 47] R) (s [m 49 0,x 50
 (.call false 64 [.t 49,(.k (.val (.string (ByteArray.mk #[123]))))]),m 48 50] (D 48 (s [m 51 0,c 52 126 [.t 51],t 2 7 52] R) (s [m 54 0,x 55 (.call false 64 [.t 54,(.k (.val (.string (ByteArray.mk #[116,114,117,101]))))]),m 53 55] (D 53
 (s [c 56 124 [K 1,K 3],t 2 7 56] R) (s [m 58 0,x 59 (.call false 64 [.t 58,(.k (.val (.string (ByteArray.mk #[102,97,108,115,101]))))]),m 57 59] (D 57 (s [c 60 124 [K 0,K 3],t 2 7 60] R) (s [m 62 0,x 63 (.call false 64 [.t 62,(.k (.val
 (.string (ByteArray.mk #[108,105,116]))))]),m 61 63] (D 61 (s [x 64 (.build [(.val (.int .i64 0)),(.val (.int .i64 0)),(.val (.int .i64 0)),(.val (.int .i64 0)),(.val (.string (ByteArray.mk #[]))),(.val (.string (ByteArray.mk #[]))),
 (.val (.slice none 0 0))] [(0,(1,(K 2)))]),t 2 7 64] R) (s [m 66 0,x 67 (.call false 64 [.t 66,(.k (.val (.string (ByteArray.mk #[110,111,110,101]))))]),m 65 67] (D 65 (s [x 68 (.build [(.val (.int .i64 0)),(.val (.int .i64 0)),(.val
 (.int .i64 0)),(.val (.int .i64 0)),(.val (.string (ByteArray.mk #[]))),(.val (.string (ByteArray.mk #[]))),(.val (.slice none 0 0))] [(0,(1,(K 7)))]),t 2 7 68] R) (s [m 70 0,x 71 (.call false 64 [.t 70,(.k (.val (.string
 (ByteArray.mk #[36]))))]),m 69 71] (D 69 (s [m 72 0,c 73 125 [.t 72,K 0,K 3],m 4 73] (s [m 74 0,x 75 (.call false 65 [.t 74,(.k (.val (.string (ByteArray.mk #[46]))))])] (s [m 76 4,m 77 0,c 78 127 [.t 77],x 79 (.build [(.val
 (.int .i64 0)),(.val (.int .i64 0)),(.val (.int .i64 0)),(.val (.int .i64 0)),(.val (.string (ByteArray.mk #[]))),(.val (.string (ByteArray.mk #[]))),(.val (.slice none 0 0))] [(0,(1,(K 3))),(2,(1,(.t 76))),(5,(1,(.t 78)))]),
 t 2 7 79] R))) (s [m 81 0,x 82 (.call false 64 [.t 81,(.k (.val (.string (ByteArray.mk #[115,101,108,102]))))]),m 80 82] (D 80 (s [m 83 0,x 84 (.call false 65 [.t 83,(.k (.val (.string (ByteArray.mk #[40]))))])] (s [m 85 0,c 86 125 [.t 85,
 K 0,K 3],m 5 86] (s [m 87 0,x 88 (.call false 65 [.t 87,(.k (.val (.string (ByteArray.mk #[41]))))])] (s [m 89 5,x 90 (.build [(.val (.int .i64 0)),(.val (.int .i64 0)),(.val (.int .i64 0)),(.val (.int .i64 0)),(.val (.string
 (ByteArray.mk #[]))),(.val (.string (ByteArray.mk #[]))),(.val (.slice none 0 0))] [(0,(1,(K 6))),(2,(1,(.t 89)))]),t 2 7 90] R)))) (s [m 92 0,x 93 (.call false 64 [.t 92,(.k (.val (.string (ByteArray.mk #[40]))))]),m 91 93] (D 91
 (s [m 94 0,c 95 34 [.t 94],u 6 7,t 6 7 95] (s [m 96 0,x 97 (.call false 65 [.t 96,(.k (.val (.string (ByteArray.mk #[41]))))])] (s [h 98 7 6,t 2 7 98] R))) (s [f 100 0 3,l 101 100,q 102 .eql 101 1,m 103 102,y 104 103 (p 1 3 3),y 105 103
 (r 1 104),y 106 103 (.call false 128 [.t 105]),y 107 103 (.bin .neq (.t 106) (K 0)),A 108 103 107,m 99 108] (D 99 (s [m 109 0,x 110 (.nck (.t 109)),f 111 1 110,l 112 111,q 113 .add 112 1,x 114 (.nck (.t 109)),f 115 1 114,(.mk none none
 (.store 1 (.t 115) (.t 113)))] (s [m 116 0,x 117 (.call false 65 [.t 116,(.k (.val (.string (ByteArray.mk #[40]))))])] (s [m 118 0,c 119 34 [.t 118],u 7 7,t 7 7 119] (s [m 120 0,x 121 (.call false 65 [.t 120,(.k (.val (.string
 (ByteArray.mk #[44]))))])] (s [m 122 0,c 123 34 [.t 122],u 8 7,t 8 7 123] (s [m 124 0,x 125 (.call false 65 [.t 124,(.k (.val (.string (ByteArray.mk #[41]))))])] (s [f 126 3 3,x 127 (.loadr 1 false (.t 126)),x 129 (.loadr 7 true (.t 7)),
 x 130 (.loadr 7 true (.t 8)),c 128 128 [.t 127],c 131 68 [.t 128,.t 129,.t 130],t 2 7 131] R))))))) F))))))))))))))))))))) (s [m 132 0,c 133 127 [.t 132],m 9 133] (s [m 134 0,x 135 (.call false 65 [.t 134,(.k (.val (.string
 (ByteArray.mk #[46]))))])] (s [m 136 0,c 137 127 [.t 136],m 10 137] (s [m 138 0,x 139 (.call false 65 [.t 138,(.k (.val (.string (ByteArray.mk #[111,102]))))])] (s [m 140 9,m 141 10,m 142 0,c 143 102 [.t 142],x 144
 (.bslice 7 [] 1 true [(0,(.t 143))]),x 145 (.build [(.val (.int .i64 0)),(.val (.int .i64 0)),(.val (.int .i64 0)),(.val (.int .i64 0)),(.val (.string (ByteArray.mk #[]))),(.val (.string (ByteArray.mk #[]))),(.val (.slice none 0 0))] [(0,
 (1,(K 8))),(4,(1,(.t 140))),(5,(1,(.t 141))),(6,(1,(.t 144)))]),t 2 7 145] R))))))))),[(.c 2 7 true)]⟩
theorem i102:iF 102 g102:=jF Tryz.func102 [(37,3)]
def g103:GFun:=⟨⟨36,[2]⟩,(s [a 2 4 0,k 4 0] (S (s [f 6 0 2,l 7 6,q 8 .neq 7 3] (D 8 (s [k 4 0] R) F)) (s [k 5 0] (S (s [f 9 3 2,l 10 9] (.block 0 (s [x 12 (.bin .eql (.t 10) (.k (.val (.string (ByteArray.mk #[60]))))),m 11 12] (D 11
 (.reg [k 5 9]) (s [x 14 (.bin .eql (.t 10) (.k (.val (.string (ByteArray.mk #[61,61]))))),m 13 14] (D 13 (.reg [k 5 10]) (s [x 16 (.bin .eql (.t 10) (.k (.val (.string (ByteArray.mk #[43]))))),m 15 16] (D 15 (.reg [k 5 1]) (s [x 18
 (.bin .eql (.t 10) (.k (.val (.string (ByteArray.mk #[45]))))),m 17 18] (D 17 (.reg [k 5 2]) (s [x 20 (.bin .eql (.t 10) (.k (.val (.string (ByteArray.mk #[124]))))),m 19 20] (D 19 (.reg [k 5 6]) (s [x 22 (.bin .eql (.t 10) (.k (.val
 (.string (ByteArray.mk #[92]))))),m 21 22] (D 21 (.reg [k 5 8]) (s [x 24 (.bin .eql (.t 10) (.k (.val (.string (ByteArray.mk #[42]))))),m 23 24] (D 23 (.reg [k 5 3]) (s [x 26 (.bin .eql (.t 10) (.k (.val (.string (ByteArray.mk #[38]))))),
 m 25 26] (D 25 (.reg [k 5 7]) F)))))))))))))))))) (S (s [m 27 5,q 28 .eql 27 0,m 29 28,N 30 29 5,z 31 29 (.call false 88 [.t 30]),N 32 29 1,z 33 29 (.bin .neq (.t 31) (.t 32)),O 34 29 33] (D 34 (s [k 4 0] R) F)) (s [m 35 5,m 4 35] R)))))),
 [.t 4]⟩
theorem i103:iF 103 g103:=jF Tryz.func103
def g104:GFun:=⟨⟨63,[]⟩,(s [k 4 0,b 5 false] (s [m 10 0,x 11 (.slen (.t 10)),q 12 .gtr 11 0,m 13 12,M 14 13 0,y 15 13 (.idx (.t 14) (K 0)),y 16 13 (.bin .eql (.t 15) (.k (.val (.int .u8 45)))),A 17 13 16,m 6 17] (s [m 18 0,m 7 18] (S
 (s [m 19 6] (D 19 (.reg [m 20 0,x 21 (.sslc (.t 20) (some (K 1)) none),m 7 21]) F)) (S (s [m 22 7,x 23 (.slen (.t 22)),q 24 .lss 23 1,m 25 24,N 26 25 7,z 27 25 (.slen (.t 26)),N 28 25 1,z 29 25 (.bin .gtr (.t 27) (.t 28)),O 30 25 29]
 (D 30 (s [k 4 0,b 5 false] R) F)) (s [k 8 0] (S (s [k 9 0] (B 0 (S (s [m 31 9,m 32 7,x 33 (.slen (.t 32)),o 34 .lss 31 33] (D 34 F (.exit 0))) (S (.block 1 (S (s [m 37 7,m 38 9,x 39 (.idx (.t 37) (.t 38)),x 40 (.bin .lss (.t 39) (.k
 (.val (.int .u8 48)))),m 41 40,N 42 41 7,N 43 41 9,z 44 41 (.idx (.t 42) (.t 43)),z 45 41 (.bin .gtr (.t 44) (.k (.val (.int .u8 57)))),O 46 41 45] (D 46 (s [k 4 0,b 5 false] R) F)) (.reg [m 47 8,x 48 (.bin .mul (K 10) (.t 47)),m 49 7,
 m 50 9,x 51 (.idx (.t 49) (.t 50)),x 52 (.bin .sub (.t 51) (.k (.val (.int .u8 48)))),x 53 (.conv .i64 (.t 52)),o 54 .add 48 53,m 8 54]))) (.reg [m 35 9,q 36 .add 35 1,m 9 36]))))) (S (s [m 55 6] (D 55 (.reg [m 56 8,x 57 (.bin .sub (K 0)
 (.t 56)),m 8 57]) F)) (S (s [m 58 8,c 59 58 [.t 58],m 60 0,o 61 .neq 59 60] (D 61 (s [k 4 0,b 5 false] R) F)) (s [m 62 8,m 4 62,b 5 true] R)))))))))),[.t 4,.t 5]⟩
theorem i104:iF 104 g104:=jF Tryz.func104
def g105:GFun:=⟨⟨19,[2]⟩,(s [a 2 4 0,b 4 false] (s [f 5 0 2,l 6 5,q 7 .eql 6 1,m 8 7,z 9 8 (p 1 0 2),z 10 8 (r 1 9),J 11 8 10 3,O 12 8 11,m 13 12,y 14 13 (p 1 3 2),y 15 13 (r 1 14),M 16 13 1,y 17 13 (.bin .eql (.t 15) (.t 16)),
 A 18 13 17,m 4 18] R)),[.t 4]⟩
theorem i105:iF 105 g105:=jF Tryz.func105
def g106:GFun:=⟨⟨128,[2,3,4]⟩,(s [u 2 7] (S (s [m 5 0,x 6 (.nck (.t 5)),f 7 3 6,l 8 7,q 9 .geq 8 0,m 10 9,N 11 10 0,z 12 10 (.nck (.t 11)),z 13 10 (p 1 1 12),N 15 10 0,z 16 10 (.nck (.t 15)),z 17 10 (p 1 0 16),z 14 10 (r 1 13),z 18 10
 (r 1 17),z 19 10 (.len (.t 18)),z 20 10 (.bin .geq (.t 14) (.t 19)),O 21 10 20] (D 21 (s [m 22 0,c 23 39 [.t 22],t 2 7 23] R) F)) (s [m 24 0,x 25 (.nck (.t 24)),f 26 0 25,m 28 0,x 29 (.nck (.t 28)),f 30 1 29,u 3 4,l 27 26,l 31 30,
 i 32 4 27 31,h 33 4 32,t 3 4 33] (S (.block 0 (s [f 35 0 3,l 36 35,q 37 .eql 36 2,m 34 37] (D 34 (s [m 38 0,f 39 1 3,l 40 39,c 41 130 [.t 40,K 1],c 42 129 [.t 38,.t 41],t 2 7 42] R) (s [h 44 4 3,x 45 (.call false 105 [.t 44,(.k (.val
 (.string (ByteArray.mk #[123]))))]),m 43 45] (D 43 (s [m 46 0,c 47 131 [.t 46],t 2 7 47] R) (s [h 49 4 3,x 50 (.call false 105 [.t 49,(.k (.val (.string (ByteArray.mk #[116,114,117,101]))))]),m 51 50,z 52 51 (j 4 3),z 53 51
 (.call false 105 [.t 52,(.k (.val (.string (ByteArray.mk #[102,97,108,115,101]))))]),O 54 51 53,m 48 54] (D 48 (s [m 55 0,f 56 3 3,l 57 56,x 58 (.bin .eql (.t 57) (.k (.val (.string (ByteArray.mk #[116,114,117,101]))))),c 59 132 [.t 58],
 c 60 130 [.t 59,K 3],c 61 129 [.t 55,.t 60],t 2 7 61] R) (s [h 63 4 3,x 64 (.call false 105 [.t 63,(.k (.val (.string (ByteArray.mk #[108,105,116]))))]),m 62 64] (D 62 (s [m 65 0,x 66 (.build [(.val (.int .i64 0)),(.val (.int .i64 0)),
 (.val (.int .i64 0)),(.val (.int .i64 0)),(.val (.string (ByteArray.mk #[]))),(.val (.string (ByteArray.mk #[]))),(.val (.slice none 0 0))] [(0,(1,(K 2)))]),c 67 129 [.t 65,.t 66],t 2 7 67] R) (s [h 69 4 3,x 70 (.call false 105 [.t 69,
 (.k (.val (.string (ByteArray.mk #[110,111,110,101]))))]),m 68 70] (D 68 (s [m 71 0,x 72 (.build [(.val (.int .i64 0)),(.val (.int .i64 0)),(.val (.int .i64 0)),(.val (.int .i64 0)),(.val (.string (ByteArray.mk #[]))),(.val (.string
 (ByteArray.mk #[]))),(.val (.slice none 0 0))] [(0,(1,(K 7)))]),c 73 129 [.t 71,.t 72],t 2 7 73] R) (s [h 75 4 3,x 76 (.call false 105 [.t 75,(.k (.val (.string (ByteArray.mk #[36]))))]),m 74 76] (D 74 (s [m 77 0,c 78 133 [.t 77],
 t 2 7 78] R) (s [h 80 4 3,x 81 (.call false 105 [.t 80,(.k (.val (.string (ByteArray.mk #[115,101,108,102]))))]),m 79 81] (D 79 (s [m 82 0,c 83 134 [.t 82],t 2 7 83] R) (s [h 85 4 3,x 86 (.call false 105 [.t 85,(.k (.val (.string
 (ByteArray.mk #[40]))))]),m 84 86] (D 84 (s [m 87 0,m 88 0,x 89 (.nck (.t 88)),f 90 1 89,l 91 90,q 92 .add 91 1,x 93 (.nck (.t 87)),f 94 1 93,(.mk none none (.store 1 (.t 94) (.t 92)))] (s [m 95 0,c 96 38 [.t 95],u 4 7,t 4 7 96]
 (s [m 97 0,x 98 (.call false 75 [.t 97,(.k (.val (.string (ByteArray.mk #[41]))))])] (s [h 99 7 4,t 2 7 99] R)))) (s [f 101 0 3,l 102 101,q 103 .eql 102 1,m 104 103,y 105 104 (p 1 3 3),y 106 104 (r 1 105),y 107 104
 (.call false 135 [.t 106]),y 108 104 (.bin .gtr (.t 107) (K 0)),A 109 104 108,m 100 109] (D 100 (s [m 110 0,f 111 3 3,l 112 111,c 113 135 [.t 112],c 114 136 [.t 110,.t 113],t 2 7 114] R) (s [f 116 0 3,l 117 116,q 118 .eql 117 1,m 119 118,
 y 120 119 (p 1 3 3),y 121 119 (r 1 120),y 122 119 (.call false 95 [.t 121]),A 123 119 122,m 115 123] (D 115 (s [m 124 0,c 125 137 [.t 124],t 2 7 125] R) F))))))))))))))))))))) (s [m 126 0,c 127 39 [.t 126],t 2 7 127] R))))),
 [(.c 2 7 true)]⟩
theorem i106:iF 106 g106:=jF Tryz.func106
def g107:GFun:=⟨⟨40,[3000008,3000009,3000010,3000011,3000016,3000017,3000018,3000019]⟩,(s [k 4 0] (s [x 8 (.bslro 1 [] 2 false [(0,(.k (.val (.string (ByteArray.mk #[60]))))),(1,(.k (.val (.string (ByteArray.mk #[61,61])))))]),x 9
 (.bslro 1 [] 4 false [(0,(.k (.val (.string (ByteArray.mk #[43]))))),(1,(.k (.val (.string (ByteArray.mk #[45]))))),(2,(.k (.val (.string (ByteArray.mk #[124]))))),(3,(.k (.val (.string (ByteArray.mk #[92])))))]),x 10
 (.bslro 1 [] 2 false [(0,(.k (.val (.string (ByteArray.mk #[42]))))),(1,(.k (.val (.string (ByteArray.mk #[38])))))]),x 11 (.bslro 1 [] 3 false [(0,(.t 8)),(1,(.t 9)),(2,(.t 10))]),m 12 1,q 13 .sub 12 1,i 14 1 11 13,l 15 14,m 5 15]
 (s [x 16 (.bslro 1 [] 2 false [(0,(K 9)),(1,(K 10))]),x 17 (.bslro 1 [] 4 false [(0,(K 1)),(1,(K 2)),(2,(K 6)),(3,(K 8))]),x 18 (.bslro 1 [] 2 false [(0,(K 3)),(1,(K 7))]),x 19 (.bslro 1 [] 3 false [(0,(.t 16)),(1,(.t 17)),(2,(.t 18))]),
 m 20 1,q 21 .sub 20 1,i 22 1 19 21,l 23 22,m 6 23] (S (s [k 7 0] (B 0 (S (s [m 24 7,m 25 5,n 26 25,o 27 .lss 24 26] (D 27 F (.exit 0))) (S (.block 1 (s [m 30 0,m 31 5,m 32 7,i 33 1 31 32,l 34 33,c 35 73 [.t 30,.t 34]] (D 35 (s [m 36 6,
 m 37 7,i 38 1 36 37,l 39 38,m 4 39] R) F))) (.reg [m 28 7,q 29 .add 28 1,m 7 29]))))) (s [k 4 0] R))))),[.t 4]⟩
theorem i107:iF 107 g107:=jF Tryz.func107
def g108:GFun:=⟨⟨9,[]⟩,(s [b 4 false] (s [m 5 0,m 6 1,c 7 45 [.t 5,.t 6],q 8 .eql 7 0,m 4 8] R)),[.t 4]⟩
theorem i108:iF 108 g108:=jF Tryz.func108
def g109:GFun:=⟨⟨52,[6,7]⟩,(s [u 6 7] (S (s [m 8 2,n 9 8,q 10 .gtr 9 0,m 11 10,M 12 11 0,y 13 11 (.call false 108 [.t 12,K 4]),y 14 11 (.not (.t 13)),A 15 11 14] (D 15 (s [m 16 2,m 17 0,m 18 2,n 19 18,c 20 45 [.t 17,.t 19],i 21 2 16 20,
 h 22 2 21,u 7 2,t 7 2 22] (s [f 23 0 7,l 24 23,f 25 1 7,l 26 25,x 27 (.build [(.val (.int .i64 0)),(.val (.int .i64 0)),(.val (.int .i64 0)),(.val (.int .i64 0)),(.val (.string (ByteArray.mk #[]))),(.val (.string (ByteArray.mk #[]))),
 (.val (.slice none 0 0))] [(0,(1,(K 3))),(2,(1,(.t 24))),(5,(1,(.t 26)))]),t 6 7 27] R)) F)) (S (s [m 28 1] (.block 0 (s [q 30 .eql 28 4,m 29 30] (D 29 (S (s [m 31 0,c 32 108 [.t 31,K 3]] (D 32 (s [x 33 (.build [(.val (.int .i64 0)),
 (.val (.int .i64 0)),(.val (.int .i64 0)),(.val (.int .i64 0)),(.val (.string (ByteArray.mk #[]))),(.val (.string (ByteArray.mk #[]))),(.val (.slice none 0 0))] [(0,(1,(K 7)))]),t 6 7 33] R) F)) (s [x 34 (.build [(.val (.int .i64 0)),
 (.val (.int .i64 0)),(.val (.int .i64 0)),(.val (.int .i64 0)),(.val (.string (ByteArray.mk #[]))),(.val (.string (ByteArray.mk #[]))),(.val (.slice none 0 0))] [(0,(1,(K 6)))]),t 6 7 34] R)) (s [q 36 .eql 28 3,m 35 36] (D 35 (s [m 37 0,
 c 38 45 [.t 37,K 2],m 39 1,c 40 130 [.t 38,.t 39],t 6 7 40] R) (s [q 42 .eql 28 2,m 41 42] (D 41 (s [m 43 0,c 44 45 [.t 43,K 12],x 45 (.conv .u64 (.t 44)),x 46 (.bin .shl (K 1) (.t 45)),m 47 1,c 48 130 [.t 46,.t 47],
 t 6 7 48] R) F)))))))) (s [m 49 0,c 50 45 [.t 49,K 9],c 51 130 [.t 50,K 1],t 6 7 51] R)))),[(.c 6 7 true)]⟩
theorem i109:iF 109 g109:=jF Tryz.func109
def g110:GFun:=⟨⟨6,[3000004]⟩,(s [x 2 (.mov (.k (.val (.string (ByteArray.mk #[])))))] (s [m 3 0,x 4 (.bslro 1 [] 8 false [(0,(.k (.val (.string (ByteArray.mk #[97]))))),(1,(.k (.val (.string (ByteArray.mk #[98]))))),(2,(.k (.val
 (.string (ByteArray.mk #[99]))))),(3,(.k (.val (.string (ByteArray.mk #[100]))))),(4,(.k (.val (.string (ByteArray.mk #[120]))))),(5,(.k (.val (.string (ByteArray.mk #[121]))))),(6,(.k (.val (.string (ByteArray.mk #[116]))))),(7,(.k
 (.val (.string (ByteArray.mk #[117])))))]),c 5 47 [.t 3,.t 4],m 2 5] R)),[.t 2]⟩
theorem i110:iF 110 g110:=jF Tryz.func110
def g111:GFun:=⟨⟨19,[]⟩,(s [k 4 0] (S (s [m 6 0,n 7 6,k 8 0] (B 0 (s [o 9 .lss 8 7] (C 9 0 (S (.block 1 (s [m 10 8,m 5 10] (s [m 11 1,m 12 0,m 13 5,i 14 7 12 13,h 15 7 14,x 16 (.callv false (.t 11) [.t 15])] (D 16 (s [m 17 5,
 m 4 17] R) F)))) (.reg [q 18 .add 8 1,m 8 18])))))) (s [k 4 (-1)] R))),[.t 4]⟩
theorem i111:iF 111 g111:=jF Tryz.func111
def g112:GFun:=⟨⟨5,[]⟩,(s [b 2 false] (s [m 3 0,c 4 84 [.t 3,K 1,K 4],m 2 4] R)),[.t 2]⟩
theorem i112:iF 112 g112:=jF Tryz.func112
def g113:GFun:=⟨⟨29,[]⟩,(s [k 4 0] (S (.block 0 (s [m 6 1,q 7 .eql 6 1,m 5 7] (D 5 (s [m 8 0,c 9 138 [.t 8],m 4 9] R) (s [m 11 1,q 12 .eql 11 2,m 10 12] (D 10 (s [m 13 0,q 14 .and 13 4095,m 4 14] R) (s [m 16 1,q 17 .eql 16 3,m 15 17]
 (D 15 (s [m 18 0,q 19 .neq 18 0,c 20 139 [.t 19],m 4 20] R) (s [m 22 1,q 23 .eql 22 4,m 24 23,M 25 24 0,y 26 24 (.call false 84 [.t 25,K 0,K 999]),A 27 24 26,m 21 27] (D 21 (s [m 28 0,m 4 28] R) F))))))))) (s [k 4 0] R))),[.t 4]⟩
theorem i113:iF 113 g113:=jF Tryz.func113
def g114:GFun:=⟨⟨18,[]⟩,(s [b 2 false] (S (s [m 3 0] (.block 0 (S (s [x 5 (.bin .eql (.t 3) (.k (.val (.string (ByteArray.mk #[105,102]))))),m 4 5] (D 4 F (s [x 6 (.bin .eql (.t 3) (.k (.val (.string (ByteArray.mk #[116,104,101,
 110]))))),m 4 6] (D 4 F (s [x 7 (.bin .eql (.t 3) (.k (.val (.string (ByteArray.mk #[101,108,115,101]))))),m 4 7] (D 4 F (s [x 8 (.bin .eql (.t 3) (.k (.val (.string (ByteArray.mk #[116,114,117,101]))))),m 4 8] (D 4 F (s [x 9 (.bin .eql
 (.t 3) (.k (.val (.string (ByteArray.mk #[102,97,108,115,101]))))),m 4 9] (D 4 F (s [x 10 (.bin .eql (.t 3) (.k (.val (.string (ByteArray.mk #[108,105,116]))))),m 4 10] (D 4 F (s [x 11 (.bin .eql (.t 3) (.k (.val (.string
 (ByteArray.mk #[110,111,110,101]))))),m 4 11] (D 4 F (s [x 12 (.bin .eql (.t 3) (.k (.val (.string (ByteArray.mk #[115,101,108,102]))))),m 4 12] (D 4 F (s [x 13 (.bin .eql (.t 3) (.k (.val (.string (ByteArray.mk #[111,102]))))),m 4 13]
 (D 4 F (s [x 14 (.bin .eql (.t 3) (.k (.val (.string (ByteArray.mk #[109,97,120]))))),m 4 14] (D 4 F (s [x 15 (.bin .eql (.t 3) (.k (.val (.string (ByteArray.mk #[109,105,110]))))),m 4 15] (D 4 F (s [x 16 (.bin .eql (.t 3) (.k (.val
 (.string (ByteArray.mk #[119,105,116,104]))))),m 4 16] (D 4 F (.reg [x 17 (.bin .eql (.t 3) (.k (.val (.string (ByteArray.mk #[104,97,115]))))),m 4 17]))))))))))))))))))))))))) (D 4 (s [b 2 true] R) F)))) (s [b 2 false] R))),[.t 2]⟩
theorem i114:iF 114 g114:=jF Tryz.func114
def g117:GFun:=⟨⟨24,[]⟩,(s [k 4 0] (S (s [m 5 1] (.block 0 (s [q 7 .eql 5 1,m 6 7] (D 6 (s [m 8 0,c 9 144 [.t 8],m 4 9] R) (s [q 11 .eql 5 2,m 10 11] (D 10 (s [m 12 0,q 13 .and 12 4095,m 4 13] R) (s [q 15 .eql 5 3,m 14 15] (D 14
 (s [m 16 0,q 17 .neq 16 0,c 18 132 [.t 17],m 4 18] R) (s [q 20 .eql 5 4,m 19 20] (D 19 (s [m 21 0,c 22 93 [.t 21,K 0,K 999]] (D 22 (s [m 23 0,m 4 23] R) F)) F)))))))))) (s [k 4 0] R))),[.t 4]⟩
theorem i117:iF 117 g117:=jF Tryz.func117
def g118:GFun:=⟨⟨45,[]⟩,(s [b 2 false] (S (s [k 3 0] (B 0 (S (s [m 6 3,m 7 0,x 8 (.slen (.t 7)),o 9 .lss 6 8] (D 9 F (.exit 0))) (S (.block 1 (s [m 12 0,m 13 3,x 14 (.idx (.t 12) (.t 13)),x 15 (.bin .geq (.t 14) (.k (.val
 (.int .u8 97)))),m 16 15,M 17 16 0,M 18 16 3,y 19 16 (.idx (.t 17) (.t 18)),y 20 16 (.bin .leq (.t 19) (.k (.val (.int .u8 122)))),A 21 16 20,m 4 21] (s [m 22 0,m 23 3,x 24 (.idx (.t 22) (.t 23)),x 25 (.bin .geq (.t 24) (.k (.val
 (.int .u8 48)))),m 26 25,M 27 26 0,M 28 26 3,y 29 26 (.idx (.t 27) (.t 28)),y 30 26 (.bin .leq (.t 29) (.k (.val (.int .u8 57)))),A 31 26 30,m 5 31] (s [m 32 4,w 33 32,m 34 33,M 35 34 3,I 36 34 35 0,M 37 34 36,N 38 37 5,z 39 37 (.not
 (.t 38)),y 40 34 (.pick (.t 37) (.k (.val (.bool true))) (.t 39)),A 41 34 40] (D 41 (s [b 2 false] R) F))))) (.reg [m 10 3,q 11 .add 10 1,m 3 11]))))) (s [m 42 0,x 43 (.slen (.t 42)),q 44 .gtr 43 0,m 2 44] R))),[.t 2]⟩
theorem i118:iF 118 g118:=jF Tryz.func118
def g119:GFun:=⟨⟨6,[]⟩,(s [b 2 false] (s [c 3 146 [],m 4 0,c 5 145 [.t 3,.t 4],m 2 5] R)),[.t 2]⟩
theorem i119:iF 119 g119:=jF Tryz.func119
def g121:GFun:=⟨⟨18,[]⟩,(s [b 4 false] (s [m 5 0,x 6 (.slen (.t 5)),m 7 1,x 8 (.slen (.t 7)),o 9 .geq 6 8,m 10 9,M 11 10 0,M 12 10 1,y 13 10 (.slen (.t 12)),y 14 10 (.sslc (.t 11) none (some (.t 13))),M 15 10 1,y 16 10 (.bin .eql
 (.t 14) (.t 15)),A 17 10 16,m 4 17] R)),[.t 4]⟩
theorem i121:iF 121 g121:=jF Tryz.func121
def g123:GFun:=⟨⟨19,[2]⟩,(s [a 2 4 0,b 4 false] (s [f 5 0 2,l 6 5,q 7 .eql 6 1,m 8 7,z 9 8 (p 1 0 2),z 10 8 (r 1 9),J 11 8 10 3,O 12 8 11,m 13 12,y 14 13 (p 1 3 2),y 15 13 (r 1 14),M 16 13 1,y 17 13 (.bin .eql (.t 15) (.t 16)),
 A 18 13 17,m 4 18] R)),[.t 4]⟩
theorem i123:iF 123 g123:=jF Tryz.func123
def g124:GFun:=⟨⟨8,[4]⟩,(s [u 4 7] (s [m 5 0,m 6 1,x 7 (.build [(.val (.int .i64 0)),(.val (.int .i64 0)),(.val (.int .i64 0)),(.val (.int .i64 0)),(.val (.string (ByteArray.mk #[]))),(.val (.string (ByteArray.mk #[]))),(.val
 (.slice none 0 0))] [(0,(1,(K 1))),(1,(1,(.t 5))),(3,(1,(.t 6)))]),t 4 7 7] R)),[(.c 4 7 true)]⟩
theorem i124:iF 124 g124:=jF Tryz.func124
def g125:GFun:=⟨⟨76,[]⟩,(s [k 6 0] (S (s [m 7 0,x 8 (.nck (.t 7)),f 9 2 8,l 10 9,m 11 10,N 12 11 0,z 13 11 (.nck (.t 12)),z 14 11 (p 1 1 13),N 16 11 0,z 17 11 (.nck (.t 16)),z 18 11 (p 1 0 17),z 15 11 (r 1 14),z 19 11 (r 1 18),z 20 11
 (.len (.t 19)),z 21 11 (.bin .geq (.t 15) (.t 20)),O 22 11 21,m 23 22,N 24 23 0,z 25 23 (.nck (.t 24)),z 26 23 (p 1 0 25),N 28 23 0,z 29 23 (.nck (.t 28)),z 30 23 (p 1 1 29),z 27 23 (r 1 26),z 31 23 (r 1 30),z 32 23 (.iaddr 4 (.t 27)
 (.t 31)),z 33 23 (p 1 0 32),z 34 23 (r 1 33),z 35 23 (.bin .neq (.t 34) (K 2)),O 36 23 35,m 37 36,N 38 37 0,z 39 37 (.nck (.t 38)),z 40 37 (p 1 0 39),N 42 37 0,z 43 37 (.nck (.t 42)),z 44 37 (p 1 1 43),N 49 37 1,N 50 37 2,z 41 37 (r 1 40),
 z 45 37 (r 1 44),z 46 37 (.iaddr 4 (.t 41) (.t 45)),z 47 37 (p 1 1 46),z 48 37 (r 1 47),z 51 37 (.call true 84 [.t 48,.t 49,.t 50]),z 52 37 (.not (.t 51)),O 53 37 52] (D 53 (s [m 54 0,x 55 (.nck (.t 54)),f 56 2 55,(.mk none none
 (.store 1 (.t 56) (.k (.val (.bool true)))))] (s [k 6 0] R)) F)) (s [m 57 0,x 58 (.nck (.t 57)),f 59 1 58,l 60 59,q 61 .add 60 1,x 62 (.nck (.t 57)),f 63 1 62,(.mk none none (.store 1 (.t 63) (.t 61)))] (s [m 64 0,x 65 (.nck (.t 64)),
 f 66 0 65,m 68 0,x 69 (.nck (.t 68)),f 70 1 69,l 67 66,l 71 70,q 72 .sub 71 1,i 73 4 67 72,f 74 1 73,l 75 74,m 6 75] R)))),[.t 6]⟩
theorem i125:iF 125 g125:=jF Tryz.func125
def g126:GFun:=⟨⟨35,[2]⟩,(s [u 2 7] (s [k 3 0,k 4 0] (S (B 0 (S (s [m 6 0,x 7 (.nck (.t 6)),f 8 2 7,l 9 8,w 10 9,m 11 10,M 12 11 0,y 13 11 (.call false 101 [.t 12,(.k (.val (.string (ByteArray.mk #[125]))))]),y 14 11 (.not (.t 13)),
 A 15 11 14] (D 15 F (.exit 0))) (.block 1 (s [m 16 0,m 17 4,c 18 125 [.t 16,.t 17,K 11],m 5 18] (s [m 19 0,x 20 (.nck (.t 19)),f 21 2 20,l 22 21,w 23 22] (D 23 (.reg [m 24 3,m 25 5,x 26 (.conv .u64 (.t 25)),x 27 (.bin .shl (K 1) (.t 26)),
 o 28 .or 24 27,m 29 5,q 30 .add 29 1,m 3 28,m 4 30]) F)))))) (s [m 31 0,x 32 (.call false 65 [.t 31,(.k (.val (.string (ByteArray.mk #[125]))))])] (s [m 33 3,c 34 124 [.t 33,K 2],t 2 7 34] R))))),[(.c 2 7 true)]⟩
theorem i126:iF 126 g126:=jF Tryz.func126
def g127:GFun:=⟨⟨70,[]⟩,(s [x 2 (.mov (.k (.val (.string (ByteArray.mk #[])))))] (S (s [m 3 0,x 4 (.nck (.t 3)),f 5 2 4,l 6 5,m 7 6,N 8 7 0,z 9 7 (.nck (.t 8)),z 10 7 (p 1 1 9),N 12 7 0,z 13 7 (.nck (.t 12)),z 14 7 (p 1 0 13),z 11 7
 (r 1 10),z 15 7 (r 1 14),z 16 7 (.len (.t 15)),z 17 7 (.bin .geq (.t 11) (.t 16)),O 18 7 17,m 19 18,N 20 19 0,z 21 19 (.nck (.t 20)),z 22 19 (p 1 0 21),N 24 19 0,z 25 19 (.nck (.t 24)),z 26 19 (p 1 1 25),z 23 19 (r 1 22),z 27 19 (r 1 26),
 z 28 19 (.iaddr 4 (.t 23) (.t 27)),z 29 19 (p 1 0 28),z 30 19 (r 1 29),z 31 19 (.bin .neq (.t 30) (K 1)),O 32 19 31,m 33 32,N 34 33 0,z 35 33 (.nck (.t 34)),z 36 33 (p 1 0 35),N 38 33 0,z 39 33 (.nck (.t 38)),z 40 33 (p 1 1 39),z 37 33
 (r 1 36),z 41 33 (r 1 40),z 42 33 (.iaddr 4 (.t 37) (.t 41)),z 43 33 (p 1 3 42),z 44 33 (r 1 43),z 45 33 (.call true 83 [.t 44]),z 46 33 (.not (.t 45)),O 47 33 46] (D 47 (s [m 48 0,x 49 (.nck (.t 48)),f 50 2 49,(.mk none none (.store 1
 (.t 50) (.k (.val (.bool true)))))] (s [x 2 (.mov (.k (.val (.string (ByteArray.mk #[])))))] R)) F)) (s [m 51 0,x 52 (.nck (.t 51)),f 53 1 52,l 54 53,q 55 .add 54 1,x 56 (.nck (.t 51)),f 57 1 56,(.mk none none (.store 1 (.t 57)
 (.t 55)))] (s [m 58 0,x 59 (.nck (.t 58)),f 60 0 59,m 62 0,x 63 (.nck (.t 62)),f 64 1 63,l 61 60,l 65 64,q 66 .sub 65 1,i 67 4 61 66,f 68 3 67,l 69 68,m 2 69] R)))),[.t 2]⟩
theorem i127:iF 127 g127:=jF Tryz.func127
def g128:GFun:=⟨⟨12,[]⟩,(s [k 2 0] (S (s [m 3 0] (.block 0 (s [x 5 (.bin .eql (.t 3) (.k (.val (.string (ByteArray.mk #[109,97,120]))))),m 4 5] (D 4 (s [k 2 4] R) (s [x 7 (.bin .eql (.t 3) (.k (.val (.string (ByteArray.mk #[109,105,
 110]))))),m 6 7] (D 6 (s [k 2 5] R) (s [x 9 (.bin .eql (.t 3) (.k (.val (.string (ByteArray.mk #[104,97,115]))))),m 8 9] (D 8 (s [k 2 11] R) (s [x 11 (.bin .eql (.t 3) (.k (.val (.string (ByteArray.mk #[119,105,116,104]))))),m 10 11]
 (D 10 (s [k 2 12] R) F)))))))))) (s [k 2 0] R))),[.t 2]⟩
theorem i128:iF 128 g128:=jF Tryz.func128
def g129:GFun:=⟨⟨14,[3,4]⟩,(s [a 3 7 1,u 4 7] (s [m 5 0,m 6 0,x 7 (.nck (.t 6)),f 8 1 7,l 9 8,q 10 .add 9 1,x 11 (.nck (.t 5)),f 12 1 11,(.mk none none (.store 1 (.t 12) (.t 10)))] (s [h 13 7 3,t 4 7 13] R))),[(.c 4 7 true)]⟩
theorem i129:iF 129 g129:=jF Tryz.func129
def g130:GFun:=⟨⟨8,[4]⟩,(s [u 4 7] (s [m 5 0,m 6 1,x 7 (.build [(.val (.int .i64 0)),(.val (.int .i64 0)),(.val (.int .i64 0)),(.val (.int .i64 0)),(.val (.string (ByteArray.mk #[]))),(.val (.string (ByteArray.mk #[]))),(.val
 (.slice none 0 0))] [(0,(1,(K 1))),(1,(1,(.t 5))),(3,(1,(.t 6)))]),t 4 7 7] R)),[(.c 4 7 true)]⟩
theorem i130:iF 130 g130:=jF Tryz.func130
def g131:GFun:=⟨⟨38,[2]⟩,(s [u 2 7] (s [m 6 0,m 7 0,x 8 (.nck (.t 7)),f 9 1 8,l 10 9,q 11 .add 10 1,x 12 (.nck (.t 6)),f 13 1 12,(.mk none none (.store 1 (.t 13) (.t 11)))] (s [k 3 0] (s [k 4 0] (S (B 0 (S (s [m 14 0,x 15 (.nck
 (.t 14)),f 16 3 15,l 17 16,q 18 .lss 17 0,m 19 18,M 20 19 0,y 21 19 (.call false 73 [.t 20,(.k (.val (.string (ByteArray.mk #[125]))))]),y 22 19 (.not (.t 21)),A 23 19 22] (D 23 F (.exit 0))) (.block 1 (s [m 24 0,m 25 3,c 26 150 [.t 24,
 .t 25,K 11],m 5 26] (s [m 27 4,m 28 5,x 29 (.conv .u64 (.t 28)),x 30 (.bin .shl (K 1) (.t 29)),o 31 .or 27 30,m 4 31] (.reg [m 32 5,q 33 .add 32 1,m 3 33])))))) (s [m 34 0,x 35 (.call false 75 [.t 34,(.k (.val (.string
 (ByteArray.mk #[125]))))])] (s [m 36 4,c 37 130 [.t 36,K 2],t 2 7 37] R))))))),[(.c 2 7 true)]⟩
theorem i131:iF 131 g131:=jF Tryz.func131
def g132:GFun:=⟨⟨4,[]⟩,(s [k 2 0] (S (s [m 3 0] (D 3 (s [k 2 1] R) F)) (s [k 2 0] R))),[.t 2]⟩
theorem i132:iF 132 g132:=jF Tryz.func132
def g133:GFun:=⟨⟨20,[2]⟩,(s [u 2 7] (s [m 4 0,m 5 0,x 6 (.nck (.t 5)),f 7 1 6,l 8 7,q 9 .add 8 1,x 10 (.nck (.t 4)),f 11 1 10,(.mk none none (.store 1 (.t 11) (.t 9)))] (s [m 12 0,c 13 150 [.t 12,K 0,K 3],m 3 13] (s [m 14 0,x 15
 (.call false 75 [.t 14,(.k (.val (.string (ByteArray.mk #[46]))))])] (s [m 16 3,m 17 0,c 18 151 [.t 17],x 19 (.build [(.val (.int .i64 0)),(.val (.int .i64 0)),(.val (.int .i64 0)),(.val (.int .i64 0)),(.val (.string (ByteArray.mk #[]))),
 (.val (.string (ByteArray.mk #[]))),(.val (.slice none 0 0))] [(0,(1,(K 3))),(2,(1,(.t 16))),(5,(1,(.t 18)))]),t 2 7 19] R))))),[(.c 2 7 true)]⟩
theorem i133:iF 133 g133:=jF Tryz.func133
def g134:GFun:=⟨⟨20,[2]⟩,(s [u 2 7] (s [m 4 0,m 5 0,x 6 (.nck (.t 5)),f 7 1 6,l 8 7,q 9 .add 8 1,x 10 (.nck (.t 4)),f 11 1 10,(.mk none none (.store 1 (.t 11) (.t 9)))] (s [m 12 0,x 13 (.call false 75 [.t 12,(.k (.val (.string
 (ByteArray.mk #[40]))))])] (s [m 14 0,c 15 150 [.t 14,K 0,K 3],m 3 15] (s [m 16 0,x 17 (.call false 75 [.t 16,(.k (.val (.string (ByteArray.mk #[41]))))])] (s [m 18 3,x 19 (.build [(.val (.int .i64 0)),(.val (.int .i64 0)),(.val
 (.int .i64 0)),(.val (.int .i64 0)),(.val (.string (ByteArray.mk #[]))),(.val (.string (ByteArray.mk #[]))),(.val (.slice none 0 0))] [(0,(1,(K 6))),(2,(1,(.t 18)))]),t 2 7 19] R)))))),[(.c 2 7 true)]⟩
theorem i134:iF 134 g134:=jF Tryz.func134
def g135:GFun:=⟨⟨12,[]⟩,(s [k 2 0] (S (s [m 3 0] (.block 0 (s [x 5 (.bin .eql (.t 3) (.k (.val (.string (ByteArray.mk #[109,97,120]))))),m 4 5] (D 4 (s [k 2 4] R) (s [x 7 (.bin .eql (.t 3) (.k (.val (.string (ByteArray.mk #[109,105,
 110]))))),m 6 7] (D 6 (s [k 2 5] R) (s [x 9 (.bin .eql (.t 3) (.k (.val (.string (ByteArray.mk #[104,97,115]))))),m 8 9] (D 8 (s [k 2 11] R) (s [x 11 (.bin .eql (.t 3) (.k (.val (.string (ByteArray.mk #[119,105,116,104]))))),m 10 11]
 (D 10 (s [k 2 12] R) F)))))))))) (s [k 2 0] R))),[.t 2]⟩
theorem i135:iF 135 g135:=jF Tryz.func135
def g136:GFun:=⟨⟨29,[4,5,6]⟩,(s [u 4 7] (s [m 7 0,m 8 0,x 9 (.nck (.t 8)),f 10 1 9,l 11 10,q 12 .add 11 1,x 13 (.nck (.t 7)),f 14 1 13,(.mk none none (.store 1 (.t 14) (.t 12)))] (s [m 15 0,x 16 (.call false 75 [.t 15,(.k (.val
 (.string (ByteArray.mk #[40]))))])] (s [m 17 0,c 18 38 [.t 17],u 5 7,t 5 7 18] (s [m 19 0,x 20 (.call false 75 [.t 19,(.k (.val (.string (ByteArray.mk #[44]))))])] (s [m 21 0,c 22 38 [.t 21],u 6 7,t 6 7 22] (s [m 23 0,x 24
 (.call false 75 [.t 23,(.k (.val (.string (ByteArray.mk #[41]))))])] (s [m 25 1,h 26 7 5,h 27 7 6,c 28 48 [.t 25,.t 26,.t 27],t 4 7 28] R)))))))),[(.c 4 7 true)]⟩
theorem i136:iF 136 g136:=jF Tryz.func136
def g137:GFun:=⟨⟨19,[2]⟩,(s [u 2 7] (s [m 5 0,c 6 151 [.t 5],m 3 6] (s [m 7 0,x 8 (.call false 75 [.t 7,(.k (.val (.string (ByteArray.mk #[46]))))])] (s [m 9 0,c 10 151 [.t 9],m 4 10] (s [m 11 0,x 12 (.call false 75 [.t 11,(.k (.val
 (.string (ByteArray.mk #[111,102]))))])] (s [m 13 3,m 14 4,m 15 0,c 16 106 [.t 15],x 17 (.bslice 7 [] 1 true [(0,(.t 16))]),x 18 (.build [(.val (.int .i64 0)),(.val (.int .i64 0)),(.val (.int .i64 0)),(.val (.int .i64 0)),(.val (.string
 (ByteArray.mk #[]))),(.val (.string (ByteArray.mk #[]))),(.val (.slice none 0 0))] [(0,(1,(K 8))),(4,(1,(.t 13))),(5,(1,(.t 14))),(6,(1,(.t 17)))]),t 2 7 18] R)))))),[(.c 2 7 true)]⟩
theorem i137:iF 137 g137:=jF Tryz.func137
def g138:GFun:=⟨⟨6,[]⟩,(s [k 2 0] (s [m 3 0,x 4 (.mn (.t 3) (K 1000000)),x 5 (.mx (.t 4) (K (-1000000))),m 2 5] R)),[.t 2]⟩
theorem i138:iF 138 g138:=jF Tryz.func138
def g139:GFun:=⟨⟨4,[]⟩,(s [k 2 0] (S (s [m 3 0] (D 3 (s [k 2 1] R) F)) (s [k 2 0] R))),[.t 2]⟩
theorem i139:iF 139 g139:=jF Tryz.func139
def g144:GFun:=⟨⟨6,[]⟩,(s [k 2 0] (s [m 3 0,c 4 158 [K 1000000,.t 3],c 5 61 [K (-1000000),.t 4],m 2 5] R)),[.t 2]⟩
theorem i144:iF 144 g144:=jF Tryz.func144
def g145:GFun:=⟨⟨18,[]⟩,(s [b 4 false] (S (s [k 5 0] (B 0 (S (s [m 6 5,m 7 0,n 8 7,o 9 .lss 6 8] (D 9 F (.exit 0))) (S (.block 1 (s [m 12 0,m 13 5,i 14 1 12 13,l 15 14,m 16 1,o 17 .eql 15 16] (D 17 (s [b 4 true] R) F))) (.reg [m 10 5,
 q 11 .add 10 1,m 5 11]))))) (s [b 4 false] R))),[.t 4]⟩
theorem i145:iF 145 g145:=jF Tryz.func145
def g146:GFun:=⟨⟨2,[]⟩,(s [Z 0] (s [x 1 (.bslice 1 [] 13 false [(0,(.k (.val (.string (ByteArray.mk #[105,102]))))),(1,(.k (.val (.string (ByteArray.mk #[116,104,101,110]))))),(2,(.k (.val (.string (ByteArray.mk #[101,108,115,101]))))),
 (3,(.k (.val (.string (ByteArray.mk #[116,114,117,101]))))),(4,(.k (.val (.string (ByteArray.mk #[102,97,108,115,101]))))),(5,(.k (.val (.string (ByteArray.mk #[108,105,116]))))),(6,(.k (.val (.string (ByteArray.mk #[110,111,110,101]))))),
 (7,(.k (.val (.string (ByteArray.mk #[115,101,108,102]))))),(8,(.k (.val (.string (ByteArray.mk #[111,102]))))),(9,(.k (.val (.string (ByteArray.mk #[109,97,120]))))),(10,(.k (.val (.string (ByteArray.mk #[109,105,110]))))),(11,(.k (.val
 (.string (ByteArray.mk #[119,105,116,104]))))),(12,(.k (.val (.string (ByteArray.mk #[104,97,115])))))]),m 0 1] R)),[.t 0]⟩
theorem i146:iF 146 g146:=jF Tryz.func146
def g150:GFun:=⟨⟨77,[]⟩,(s [k 6 0] (S (s [m 7 0,x 8 (.nck (.t 7)),f 9 3 8,l 10 9,q 11 .geq 10 0,m 12 11,N 13 12 0,z 14 12 (.nck (.t 13)),z 15 12 (p 1 1 14),N 17 12 0,z 18 12 (.nck (.t 17)),z 19 12 (p 1 0 18),z 16 12 (r 1 15),z 20 12
 (r 1 19),z 21 12 (.len (.t 20)),z 22 12 (.bin .geq (.t 16) (.t 21)),O 23 12 22,m 24 23,N 25 24 0,z 26 24 (.nck (.t 25)),z 27 24 (p 1 0 26),N 29 24 0,z 30 24 (.nck (.t 29)),z 31 24 (p 1 1 30),z 28 24 (r 1 27),z 32 24 (r 1 31),z 33 24
 (.iaddr 4 (.t 28) (.t 32)),z 34 24 (p 1 0 33),z 35 24 (r 1 34),z 36 24 (.bin .neq (.t 35) (K 2)),O 37 24 36,m 38 37,N 39 38 0,z 40 38 (.nck (.t 39)),z 41 38 (p 1 0 40),N 43 38 0,z 44 38 (.nck (.t 43)),z 45 38 (p 1 1 44),N 50 38 1,
 N 51 38 2,z 42 38 (r 1 41),z 46 38 (r 1 45),z 47 38 (.iaddr 4 (.t 42) (.t 46)),z 48 38 (p 1 1 47),z 49 38 (r 1 48),z 52 38 (.call true 93 [.t 49,.t 50,.t 51]),z 53 38 (.not (.t 52)),O 54 38 53] (D 54 (s [m 55 0,c 56 39 [.t 55]]
 (s [k 6 0] R)) F)) (s [m 57 0,m 58 0,x 59 (.nck (.t 58)),f 60 1 59,l 61 60,q 62 .add 61 1,x 63 (.nck (.t 57)),f 64 1 63,(.mk none none (.store 1 (.t 64) (.t 62)))] (s [m 65 0,x 66 (.nck (.t 65)),f 67 0 66,m 69 0,x 70 (.nck (.t 69)),
 f 71 1 70,l 68 67,l 72 71,q 73 .sub 72 1,i 74 4 68 73,f 75 1 74,l 76 75,m 6 76] R)))),[.t 6]⟩
theorem i150:iF 150 g150:=jF Tryz.func150
def g151:GFun:=⟨⟨71,[]⟩,(s [x 2 (.mov (.k (.val (.string (ByteArray.mk #[])))))] (S (s [m 3 0,x 4 (.nck (.t 3)),f 5 3 4,l 6 5,q 7 .geq 6 0,m 8 7,N 9 8 0,z 10 8 (.nck (.t 9)),z 11 8 (p 1 1 10),N 13 8 0,z 14 8 (.nck (.t 13)),z 15 8
 (p 1 0 14),z 12 8 (r 1 11),z 16 8 (r 1 15),z 17 8 (.len (.t 16)),z 18 8 (.bin .geq (.t 12) (.t 17)),O 19 8 18,m 20 19,N 21 20 0,z 22 20 (.nck (.t 21)),z 23 20 (p 1 0 22),N 25 20 0,z 26 20 (.nck (.t 25)),z 27 20 (p 1 1 26),z 24 20 (r 1 23),
 z 28 20 (r 1 27),z 29 20 (.iaddr 4 (.t 24) (.t 28)),z 30 20 (p 1 0 29),z 31 20 (r 1 30),z 32 20 (.bin .neq (.t 31) (K 1)),O 33 20 32,m 34 33,N 35 34 0,z 36 34 (.nck (.t 35)),z 37 34 (p 1 0 36),N 39 34 0,z 40 34 (.nck (.t 39)),z 41 34
 (p 1 1 40),z 38 34 (r 1 37),z 42 34 (r 1 41),z 43 34 (.iaddr 4 (.t 38) (.t 42)),z 44 34 (p 1 3 43),z 45 34 (r 1 44),z 46 34 (.call true 95 [.t 45]),z 47 34 (.not (.t 46)),O 48 34 47] (D 48 (s [m 49 0,c 50 39 [.t 49]] (s [x 2 (.mov (.k
 (.val (.string (ByteArray.mk #[])))))] R)) F)) (s [m 51 0,m 52 0,x 53 (.nck (.t 52)),f 54 1 53,l 55 54,q 56 .add 55 1,x 57 (.nck (.t 51)),f 58 1 57,(.mk none none (.store 1 (.t 58) (.t 56)))] (s [m 59 0,x 60 (.nck (.t 59)),f 61 0 60,
 m 63 0,x 64 (.nck (.t 63)),f 65 1 64,l 62 61,l 66 65,q 67 .sub 66 1,i 68 4 62 67,f 69 3 68,l 70 69,m 2 70] R)))),[.t 2]⟩
theorem i151:iF 151 g151:=jF Tryz.func151
def g158:GFun:=⟨⟨10,[]⟩,(s [k 4 0] (S (s [m 5 0,m 6 1,o 7 .lss 5 6] (D 7 (s [m 8 0,m 4 8] R) F)) (s [m 9 1,m 4 9] R))),[.t 4]⟩
theorem i158:iF 158 g158:=jF Tryz.func158
end Go.Proofs.YtkmedfejmndmjaaGreatDoor
namespace Go.Proofs.YtkmedfejmndmjaaGreatDoor
open Go.Gh
open Nat (reduceEqDiff reduceLeDiff reduceAdd reduceLT)
open Int (reduceNe)
theorem mxd:Tryz.prog.follows .mixedOrders = true:=Checked.mixed Tryz.checked
theorem w93 (x lo hi:Int):Pu 93 [I x,I lo,I hi] (· = B (decide (lo≤x∧x≤hi))):=by
 refine Z6 mxd i93 rfl (by simp) ?_;simp (maxSteps:=9^7) only[↓ S2,S2,Z7,↓reduceIte,reduceNe,reduceEqDiff,reduceCtorEq,reduceLeDiff,reduceAdd,reduceLT]
 ((try refine qI ?_);(repeat ((first|with_reducible refine qU ?_ | simp only[Z9]);try simp (maxSteps:=9^7) only[↓ S2,S2,Z7,↓reduceIte,reduceNe,reduceEqDiff,reduceCtorEq,reduceLeDiff,reduceAdd,reduceLT]));(try simp +contextual (disch:=omega) only[Z2]);(with_reducible repeat' (first|intro h|refine And.intro (by omega) ?_ | refine exP (by omega) ?_ | apply And.intro)))<;>simp[*]
theorem w84 (x lo hi:Int):Pu 84 [I x,I lo,I hi] (· = B (decide (lo≤x∧x≤hi))):=by
 refine Z6 mxd i84 rfl (by simp) ?_;simp (maxSteps:=9^7) only[↓ S2,S2,Z7,↓reduceIte,reduceNe,reduceEqDiff,reduceCtorEq,reduceLeDiff,reduceAdd,reduceLT]
 ((try refine qI ?_);(repeat ((first|with_reducible refine qU ?_ | simp only[Z9]);try simp (maxSteps:=9^7) only[↓ S2,S2,Z7,↓reduceIte,reduceNe,reduceEqDiff,reduceCtorEq,reduceLeDiff,reduceAdd,reduceLT]));(try simp +contextual (disch:=omega) only[Z2]);(with_reducible repeat' (first|intro h|refine And.intro (by omega) ?_ | refine exP (by omega) ?_ | apply And.intro)))<;>simp[*]
theorem w61 (x y:Int):Pu 61 [I x,I y] (· = I (max x y)):=by
 refine Z6 mxd i61 rfl (by simp) ?_;simp (maxSteps:=9^7) only[↓ S2,S2,Z7,↓reduceIte,reduceNe,reduceEqDiff,reduceCtorEq,reduceLeDiff,reduceAdd,reduceLT]
 ((try refine qI ?_);(repeat ((first|with_reducible refine qU ?_ | simp only[Z9]);try simp (maxSteps:=9^7) only[↓ S2,S2,Z7,↓reduceIte,reduceNe,reduceEqDiff,reduceCtorEq,reduceLeDiff,reduceAdd,reduceLT]));(try simp +contextual (disch:=omega) only[Z2]);(with_reducible repeat' (first|intro h|refine And.intro (by omega) ?_ | refine exP (by omega) ?_ | apply And.intro)))<;>simp<;>omega
end Go.Proofs.YtkmedfejmndmjaaGreatDoor
namespace Go.Proofs.YtkmedfejmndmjaaGreatDoor
open Go.Gh
open Nat (reduceEqDiff reduceLeDiff reduceAdd reduceLT)
open Int (reduceNe)
theorem w138 (n:Int):Pu 138 [I n] (· = I (satV n)):=by
 refine Z6 mxd i138 rfl (by simp) ?_;simp (maxSteps:=9^7) only[↓ S2,S2,Z7,↓reduceIte,reduceNe,reduceEqDiff,reduceCtorEq,reduceLeDiff,reduceAdd,reduceLT]
 ((try refine qI ?_);(repeat ((first|with_reducible refine qU ?_ | simp only[Z9]);try simp (maxSteps:=9^7) only[↓ S2,S2,Z7,↓reduceIte,reduceNe,reduceEqDiff,reduceCtorEq,reduceLeDiff,reduceAdd,reduceLT]));(try simp +contextual (disch:=omega) only[Z2]);(with_reducible repeat' (first|intro h|refine And.intro (by omega) ?_ | refine exP (by omega) ?_ | apply And.intro)))<;>(congr 2;simp only[satV];omega)
theorem w139 (b:Bool):Pu 139 [B b] (· = I (trV b)):=by
 refine Z6 mxd i139 rfl (by simp) ?_;simp (maxSteps:=9^7) only[↓ S2,S2,Z7,↓reduceIte,reduceNe,reduceEqDiff,reduceCtorEq,reduceLeDiff,reduceAdd,reduceLT]
 ((try refine qI ?_);(repeat ((first|with_reducible refine qU ?_ | simp only[Z9]);try simp (maxSteps:=9^7) only[↓ S2,S2,Z7,↓reduceIte,reduceNe,reduceEqDiff,reduceCtorEq,reduceLeDiff,reduceAdd,reduceLT]));(try simp +contextual (disch:=omega) only[Z2]);(with_reducible repeat' (first|intro h|refine And.intro (by omega) ?_ | refine exP (by omega) ?_ | apply And.intro)))<;>simp_all [trV]
theorem w132 (b:Bool):Pu 132 [B b] (· = I (trV b)):=by
 refine Z6 mxd i132 rfl (by simp) ?_;simp (maxSteps:=9^7) only[↓ S2,S2,Z7,↓reduceIte,reduceNe,reduceEqDiff,reduceCtorEq,reduceLeDiff,reduceAdd,reduceLT]
 ((try refine qI ?_);(repeat ((first|with_reducible refine qU ?_ | simp only[Z9]);try simp (maxSteps:=9^7) only[↓ S2,S2,Z7,↓reduceIte,reduceNe,reduceEqDiff,reduceCtorEq,reduceLeDiff,reduceAdd,reduceLT]));(try simp +contextual (disch:=omega) only[Z2]);(with_reducible repeat' (first|intro h|refine And.intro (by omega) ?_ | refine exP (by omega) ?_ | apply And.intro)))<;>simp_all [trV]
theorem w158 (a b:Int):Pu 158 [I a,I b] (· = I (min a b)):=by
 refine Z6 mxd i158 rfl (by simp) ?_;simp (maxSteps:=9^7) only[↓ S2,S2,Z7,↓reduceIte,reduceNe,reduceEqDiff,reduceCtorEq,reduceLeDiff,reduceAdd,reduceLT]
 ((try refine qI ?_);(repeat ((first|with_reducible refine qU ?_ | simp only[Z9]);try simp (maxSteps:=9^7) only[↓ S2,S2,Z7,↓reduceIte,reduceNe,reduceEqDiff,reduceCtorEq,reduceLeDiff,reduceAdd,reduceLT]));(try simp +contextual (disch:=omega) only[Z2]);(with_reducible repeat' (first|intro h|refine And.intro (by omega) ?_ | refine exP (by omega) ?_ | apply And.intro)))<;>(congr 2;omega)
theorem w144 (n:Int):Pu 144 [I n] (· = I (satV n)):=by
 refine Z6 mxd i144 rfl (by simp) ?_;simp (maxSteps:=9^7) only[↓ S2,S2,Z7,↓reduceIte,reduceNe,reduceEqDiff,reduceCtorEq,reduceLeDiff,reduceAdd,reduceLT]
 refine callS.eq (w158 _ _) ?_
 ((try refine qI ?_);(repeat ((first|with_reducible refine qU ?_ | simp only[Z9]);try simp (maxSteps:=9^7) only[↓ S2,S2,Z7,↓reduceIte,reduceNe,reduceEqDiff,reduceCtorEq,reduceLeDiff,reduceAdd,reduceLT]));(try simp +contextual (disch:=omega) only[Z2]);(with_reducible repeat' (first|intro h|refine And.intro (by omega) ?_ | refine exP (by omega) ?_ | apply And.intro)))
 refine callS.eq (w61 _ _) ?_
 ((try refine qI ?_);(repeat ((first|with_reducible refine qU ?_ | simp only[Z9]);try simp (maxSteps:=9^7) only[↓ S2,S2,Z7,↓reduceIte,reduceNe,reduceEqDiff,reduceCtorEq,reduceLeDiff,reduceAdd,reduceLT]));(try simp +contextual (disch:=omega) only[Z2]);(with_reducible repeat' (first|intro h|refine And.intro (by omega) ?_ | refine exP (by omega) ?_ | apply And.intro)))<;>rfl
theorem w113 (v k:Int):Pu 113 [I v,I k] (· = I (coV v k)):=by
 refine Z6 mxd i113 rfl (by simp) ?_;simp (maxSteps:=9^7) only[↓ S2,S2,Z7,↓reduceIte,reduceNe,reduceEqDiff,reduceCtorEq,reduceLeDiff,reduceAdd,reduceLT]
 ((try refine qI ?_);(repeat ((first|with_reducible refine qU ?_ | simp only[Z9]);try simp (maxSteps:=9^7) only[↓ S2,S2,Z7,↓reduceIte,reduceNe,reduceEqDiff,reduceCtorEq,reduceLeDiff,reduceAdd,reduceLT]));(try simp +contextual (disch:=omega) only[Z2]);(with_reducible repeat' (first|intro h|refine And.intro (by omega) ?_ | refine exP (by omega) ?_ | apply And.intro)))
 ·refine callS.eq (w138 _) ?_
  ((try refine qI ?_);(repeat ((first|with_reducible refine qU ?_ | simp only[Z9]);try simp (maxSteps:=9^7) only[↓ S2,S2,Z7,↓reduceIte,reduceNe,reduceEqDiff,reduceCtorEq,reduceLeDiff,reduceAdd,reduceLT]));(try simp +contextual (disch:=omega) only[Z2]);(with_reducible repeat' (first|intro h|refine And.intro (by omega) ?_ | refine exP (by omega) ?_ | apply And.intro)))<;>simp_all [coV]
 ·simp_all [coV]
 ·refine callS.eq (w139 _) ?_
  ((try refine qI ?_);(repeat ((first|with_reducible refine qU ?_ | simp only[Z9]);try simp (maxSteps:=9^7) only[↓ S2,S2,Z7,↓reduceIte,reduceNe,reduceEqDiff,reduceCtorEq,reduceLeDiff,reduceAdd,reduceLT]));(try simp +contextual (disch:=omega) only[Z2]);(with_reducible repeat' (first|intro h|refine And.intro (by omega) ?_ | refine exP (by omega) ?_ | apply And.intro)))<;>simp_all [coV]
 ·refine callS.eq (w84 _ _ _) ?_
  ((try refine qI ?_);(repeat ((first|with_reducible refine qU ?_ | simp only[Z9]);try simp (maxSteps:=9^7) only[↓ S2,S2,Z7,↓reduceIte,reduceNe,reduceEqDiff,reduceCtorEq,reduceLeDiff,reduceAdd,reduceLT]));(try simp +contextual (disch:=omega) only[Z2]);(with_reducible repeat' (first|intro h|refine And.intro (by omega) ?_ | refine exP (by omega) ?_ | apply And.intro)))<;>simp_all [coV]<;>(intros;omega)
 ·simp_all [coV]
theorem w117 (v k:Int):Pu 117 [I v,I k] (· = I (coV v k)):=by
 refine Z6 mxd i117 rfl (by simp) ?_;simp (maxSteps:=9^7) only[↓ S2,S2,Z7,↓reduceIte,reduceNe,reduceEqDiff,reduceCtorEq,reduceLeDiff,reduceAdd,reduceLT]
 ((try refine qI ?_);(repeat ((first|with_reducible refine qU ?_ | simp only[Z9]);try simp (maxSteps:=9^7) only[↓ S2,S2,Z7,↓reduceIte,reduceNe,reduceEqDiff,reduceCtorEq,reduceLeDiff,reduceAdd,reduceLT]));(try simp +contextual (disch:=omega) only[Z2]);(with_reducible repeat' (first|intro h|refine And.intro (by omega) ?_ | refine exP (by omega) ?_ | apply And.intro)))
 ·refine callS.eq (w144 _) ?_
  ((try refine qI ?_);(repeat ((first|with_reducible refine qU ?_ | simp only[Z9]);try simp (maxSteps:=9^7) only[↓ S2,S2,Z7,↓reduceIte,reduceNe,reduceEqDiff,reduceCtorEq,reduceLeDiff,reduceAdd,reduceLT]));(try simp +contextual (disch:=omega) only[Z2]);(with_reducible repeat' (first|intro h|refine And.intro (by omega) ?_ | refine exP (by omega) ?_ | apply And.intro)))<;>simp_all [coV]
 ·simp_all [coV]
 ·refine callS.eq (w132 _) ?_
  ((try refine qI ?_);(repeat ((first|with_reducible refine qU ?_ | simp only[Z9]);try simp (maxSteps:=9^7) only[↓ S2,S2,Z7,↓reduceIte,reduceNe,reduceEqDiff,reduceCtorEq,reduceLeDiff,reduceAdd,reduceLT]));(try simp +contextual (disch:=omega) only[Z2]);(with_reducible repeat' (first|intro h|refine And.intro (by omega) ?_ | refine exP (by omega) ?_ | apply And.intro)))<;>simp_all [coV]
 ·refine callS.eq (w93 _ _ _) ?_
  ((try refine qI ?_);(repeat ((first|with_reducible refine qU ?_ | simp only[Z9]);try simp (maxSteps:=9^7) only[↓ S2,S2,Z7,↓reduceIte,reduceNe,reduceEqDiff,reduceCtorEq,reduceLeDiff,reduceAdd,reduceLT]));(try simp +contextual (disch:=omega) only[Z2]);(with_reducible repeat' (first|intro h|refine And.intro (by omega) ?_ | refine exP (by omega) ?_ | apply And.intro)))<;>simp_all [coV]<;>(intros;omega)
 ·simp_all [coV]
theorem w112 (k:Int):Pu 112 [I k] (· = B (decide (1≤k∧k≤4))):=by
 refine Z6 mxd i112 rfl (by simp) ?_;simp (maxSteps:=9^7) only[↓ S2,S2,Z7,↓reduceIte,reduceNe,reduceEqDiff,reduceCtorEq,reduceLeDiff,reduceAdd,reduceLT]
 refine callS.eq (w84 _ _ _) ?_
 ((try refine qI ?_);(repeat ((first|with_reducible refine qU ?_ | simp only[Z9]);try simp (maxSteps:=9^7) only[↓ S2,S2,Z7,↓reduceIte,reduceNe,reduceEqDiff,reduceCtorEq,reduceLeDiff,reduceAdd,reduceLT]));(try simp +contextual (disch:=omega) only[Z2]);(with_reducible repeat' (first|intro h|refine And.intro (by omega) ?_ | refine exP (by omega) ?_ | apply And.intro)))
theorem w82 (v k:Int):Pu 82 [I v,I k] (· = B (okV v k)):=by
 refine Z6 mxd i82 rfl (by simp) ?_;simp (maxSteps:=9^7) only[↓ S2,S2,Z7,↓reduceIte,reduceNe,reduceEqDiff,reduceCtorEq,reduceLeDiff,reduceAdd,reduceLT]
 refine callS.eq (w112 _) ?_
 ((try refine qI ?_);(repeat ((first|with_reducible refine qU ?_ | simp only[Z9]);try simp (maxSteps:=9^7) only[↓ S2,S2,Z7,↓reduceIte,reduceNe,reduceEqDiff,reduceCtorEq,reduceLeDiff,reduceAdd,reduceLT]));(try simp +contextual (disch:=omega) only[Z2]);(with_reducible repeat' (first|intro h|refine And.intro (by omega) ?_ | refine exP (by omega) ?_ | apply And.intro)))
 ·refine callS.eq (w113 _ _) ?_
  ((try refine qI ?_);(repeat ((first|with_reducible refine qU ?_ | simp only[Z9]);try simp (maxSteps:=9^7) only[↓ S2,S2,Z7,↓reduceIte,reduceNe,reduceEqDiff,reduceCtorEq,reduceLeDiff,reduceAdd,reduceLT]));(try simp +contextual (disch:=omega) only[Z2]);(with_reducible repeat' (first|intro h|refine And.intro (by omega) ?_ | refine exP (by omega) ?_ | apply And.intro)))<;>simp_all [okV]
 ·simp_all [okV]<;>(intros;omega)
theorem w90 (v k:Int):Pu 90 [I v,I k] (· = B (okV v k)):=by
 refine Z6 mxd i90 rfl (by simp) ?_;simp (maxSteps:=9^7) only[↓ S2,S2,Z7,↓reduceIte,reduceNe,reduceEqDiff,reduceCtorEq,reduceLeDiff,reduceAdd,reduceLT]
 refine callS.eq (w93 _ _ _) ?_
 ((try refine qI ?_);(repeat ((first|with_reducible refine qU ?_ | simp only[Z9]);try simp (maxSteps:=9^7) only[↓ S2,S2,Z7,↓reduceIte,reduceNe,reduceEqDiff,reduceCtorEq,reduceLeDiff,reduceAdd,reduceLT]));(try simp +contextual (disch:=omega) only[Z2]);(with_reducible repeat' (first|intro h|refine And.intro (by omega) ?_ | refine exP (by omega) ?_ | apply And.intro)))
 ·refine callS.eq (w117 _ _) ?_
  ((try refine qI ?_);(repeat ((first|with_reducible refine qU ?_ | simp only[Z9]);try simp (maxSteps:=9^7) only[↓ S2,S2,Z7,↓reduceIte,reduceNe,reduceEqDiff,reduceCtorEq,reduceLeDiff,reduceAdd,reduceLT]));(try simp +contextual (disch:=omega) only[Z2]);(with_reducible repeat' (first|intro h|refine And.intro (by omega) ?_ | refine exP (by omega) ?_ | apply And.intro)))<;>simp_all [okV]
 ·simp_all [okV]<;>(intros;omega)
end Go.Proofs.YtkmedfejmndmjaaGreatDoor
namespace Go.Proofs.YtkmedfejmndmjaaGreatDoor
open Go.Gh
open Nat (reduceEqDiff reduceLeDiff reduceAdd reduceLT)
open Int (reduceNe)
theorem w49:∀(e:Exp),wEx e≤1048576→Pu 49 [Ex e] (· = I (Zo e)):=by
 refine Exp.indA fun e ih hw=> ?_
 obtain ⟨hl,ha⟩:=Yf hw
 have hc:=cntE_le e
 have he:=Y4 e
 rw[ZC]
 refine Z6 mxd i49 rfl (by simp) ?_;simp (maxSteps:=9^7) only[↓ S2,S2,Z7,↓reduceIte,reduceNe,reduceEqDiff,reduceCtorEq,reduceLeDiff,reduceAdd,reduceLT]
 refine Yt mxd (ι:={ i:Nat // i≤e.args.length }) (fun i=>[(3,I ((1+((e.args.take i.1).map Zo).sum : Nat):Int)),(7,ExS e.args),(8,I e.args.length),(9,I i.1)]) (fun i=>[]) (fun i=>e.args.length-i.1) ⟨0,by simp⟩ (by simp[E2,mxL]) (by simp) ?_
 rintro ⟨i,hi⟩
 have h1:=sumT_le Zo e.args i
 have h3:=sumT_le Zo e.args (i+1)
 ((try refine qI ?_);(repeat ((first|with_reducible refine qU ?_ | simp only[Z9]);try simp (maxSteps:=9^7) only[↓ S2,S2,Z7,↓reduceIte,reduceNe,reduceEqDiff,reduceCtorEq,reduceLeDiff,reduceAdd,reduceLT,YB,XY,YC,Yj]));(try simp +contextual (disch:=omega) only[Z2,YB,XY,YC,Yj]);(with_reducible repeat' (first|intro h|refine And.intro (by omega) ?_ | refine exP (by omega) ?_ | apply And.intro)))
 ·have h2:=sumT Zo e.args i (by omega)
  refine callS.eq (ih _ (gM _) (ha _ (gM _))) ?_
  ((try refine qI ?_);(repeat ((first|with_reducible refine qU ?_ | simp only[Z9]);try simp (maxSteps:=9^7) only[↓ S2,S2,Z7,↓reduceIte,reduceNe,reduceEqDiff,reduceCtorEq,reduceLeDiff,reduceAdd,reduceLT]));(try simp +contextual (disch:=omega) only[Z2]);(with_reducible repeat' (first|intro h|refine And.intro (by omega) ?_ | refine exP (by omega) ?_ | apply And.intro)))
  refine nx ⟨i+1,by omega⟩ (by simp;omega) ?_ (by simp)
  simp[E2,h2, -List.map_take]
  try (first|omega|(split<;>omega))
 ·have:i=e.args.length:=by omega
  subst this
  simp[he]
theorem w50:∀(e:Exp),wEx e≤1048576→Pu 50 [Ex e] (· = I (dpE e)):=by
 refine Exp.indA fun e ih hw=> ?_
 obtain ⟨hl,ha⟩:=Yf hw
 have hc:=cntE_le e
 have he:=Y4 e
 have hd:=dpE_eq e
 have hq:=sumL_le (l:=e.args) fun a _ => dpE_le a
 rw[ZC]
 refine Z6 mxd i50 rfl (by simp) ?_;simp (maxSteps:=9^7) only[↓ S2,S2,Z7,↓reduceIte,reduceNe,reduceEqDiff,reduceCtorEq,reduceLeDiff,reduceAdd,reduceLT]
 refine Yt mxd (ι:={ i:Nat // i≤e.args.length }) (fun i=>[(3,I (mxL ((e.args.take i.1).map dpE))),(7,ExS e.args),(8,I e.args.length),(9,I i.1)]) (fun i=>[]) (fun i=>e.args.length-i.1) ⟨0,by simp⟩ (by simp[E2,mxL]) (by simp) ?_
 rintro ⟨i,hi⟩
 have h1:=mxT_le dpE e.args i
 ((try refine qI ?_);(repeat ((first|with_reducible refine qU ?_ | simp only[Z9]);try simp (maxSteps:=9^7) only[↓ S2,S2,Z7,↓reduceIte,reduceNe,reduceEqDiff,reduceCtorEq,reduceLeDiff,reduceAdd,reduceLT,YB,XY,YC,Yj]));(try simp +contextual (disch:=omega) only[Z2,YB,XY,YC,Yj]);(with_reducible repeat' (first|intro h|refine And.intro (by omega) ?_ | refine exP (by omega) ?_ | apply And.intro)))
 ·have h2:=mxT dpE e.args i (by omega)
  refine callS.eq (ih _ (gM _) (ha _ (gM _))) ?_
  ((try refine qI ?_);(repeat ((first|with_reducible refine qU ?_ | simp only[Z9]);try simp (maxSteps:=9^7) only[↓ S2,S2,Z7,↓reduceIte,reduceNe,reduceEqDiff,reduceCtorEq,reduceLeDiff,reduceAdd,reduceLT]));(try simp +contextual (disch:=omega) only[Z2]);(with_reducible repeat' (first|intro h|refine And.intro (by omega) ?_ | refine exP (by omega) ?_ | apply And.intro)))
  refine nx ⟨i+1,by omega⟩ (by simp;omega) ?_ (by simp)
  simp[E2,h2, -List.map_take]
  try (first|omega|(split<;>omega))
 ·have:i=e.args.length:=by omega
  subst this
  simp[hd]
  try omega
theorem w31:∀(e:Exp),wEx e≤1048576→Pu 31 [Ex e] (· = I (dpE e)):=by
 refine Exp.indA fun e ih hw=> ?_
 obtain ⟨hl,ha⟩:=Yf hw
 have hc:=cntE_le e
 have he:=Y4 e
 have hd:=dpE_eq e
 have hq:=sumL_le (l:=e.args) fun a _ => dpE_le a
 rw[ZC]
 refine Z6 mxd i31 rfl (by simp) ?_;simp (maxSteps:=9^7) only[↓ S2,S2,Z7,↓reduceIte,reduceNe,reduceEqDiff,reduceCtorEq,reduceLeDiff,reduceAdd,reduceLT]
 refine Yt mxd (ι:={ i:Nat // i≤e.args.length }) (fun i=>[(1,.rop 7 (.agg [I e.kind,I e.n,I e.pos,I e.type,T e.sym,T e.name,ExS e.args])),(3,I (mxL ((e.args.take i.1).map dpE))),(4,I i.1)]) (fun i=>[]) (fun i=>e.args.length-i.1) ⟨0,by simp⟩ (by simp[E2,mxL]) (by simp) ?_
 rintro ⟨i,hi⟩
 have h1:=mxT_le dpE e.args i
 ((try refine qI ?_);(repeat ((first|with_reducible refine qU ?_ | simp only[Z9]);try simp (maxSteps:=9^7) only[↓ S2,S2,Z7,↓reduceIte,reduceNe,reduceEqDiff,reduceCtorEq,reduceLeDiff,reduceAdd,reduceLT,YB,XY,YC,Yj]));(try simp +contextual (disch:=omega) only[Z2,YB,XY,YC,Yj]);(with_reducible repeat' (first|intro h|refine And.intro (by omega) ?_ | refine exP (by omega) ?_ | apply And.intro)))
 ·have h2:=mxT dpE e.args i (by omega)
  refine callS.eq (ih _ (gM _) (ha _ (gM _))) ?_
  ((try refine qI ?_);(repeat ((first|with_reducible refine qU ?_ | simp only[Z9]);try simp (maxSteps:=9^7) only[↓ S2,S2,Z7,↓reduceIte,reduceNe,reduceEqDiff,reduceCtorEq,reduceLeDiff,reduceAdd,reduceLT]));(try simp +contextual (disch:=omega) only[Z2]);(with_reducible repeat' (first|intro h|refine And.intro (by omega) ?_ | refine exP (by omega) ?_ | apply And.intro)))
  refine callS.eq (w61 _ _) ?_
  ((try refine qI ?_);(repeat ((first|with_reducible refine qU ?_ | simp only[Z9]);try simp (maxSteps:=9^7) only[↓ S2,S2,Z7,↓reduceIte,reduceNe,reduceEqDiff,reduceCtorEq,reduceLeDiff,reduceAdd,reduceLT]));(try simp +contextual (disch:=omega) only[Z2]);(with_reducible repeat' (first|intro h|refine And.intro (by omega) ?_ | refine exP (by omega) ?_ | apply And.intro)))
  refine nx ⟨i+1,by omega⟩ (by simp;omega) ?_ (by simp)
  simp[E2,h2, -List.map_take]
  try (first|omega|(split<;>omega))
 ·have:i=e.args.length:=by omega
  subst this
  simp[hd]
  try omega
theorem w30:∀(e:Exp),wEx e≤1048576→∀left:Int,0≤left→left≤1048576→Pu 30 [Ex e,I left] (· = I (max (left-Zo e) (-1))):=by
 refine Exp.indA fun e ih hw left l0 l1=> ?_
 obtain ⟨hl,ha⟩:=Yf hw
 have hc:=cntE_le e
 have he:=Y4 e
 rw[ZC]
 refine Z6 mxd i30 rfl (by simp) ?_;simp (maxSteps:=9^7) only[↓ S2,S2,Z7,↓reduceIte,reduceNe,reduceEqDiff,reduceCtorEq,reduceLeDiff,reduceAdd,reduceLT]
 simp +contextual (disch:=omega) only[Z2]
 refine Yt mxd (ι:={ i:Nat // i≤e.args.length }) (fun i=>[(2,.rop 7 (.agg [I e.kind,I e.n,I e.pos,I e.type,T e.sym,T e.name,ExS e.args])),(1,I (max (left-1-((e.args.take i.1).map Zo).sum) (-1))),(5,I i.1)]) (fun i=>[]) (fun i=>e.args.length-i.1) ⟨0,by simp⟩ (by simp[E2];try omega) (by simp) ?_
 rintro ⟨i,hi⟩
 have h1:=sumT_le Zo e.args i
 generalize hs:((e.args.take i).map Zo).sum = s at *
 ((try refine qI ?_);(repeat ((first|with_reducible refine qU ?_ | simp only[Z9]);try simp (maxSteps:=9^7) only[↓ S2,S2,Z7,↓reduceIte,reduceNe,reduceEqDiff,reduceCtorEq,reduceLeDiff,reduceAdd,reduceLT,YB,XY,YC,Yj]));(try simp +contextual (disch:=omega) only[Z2,YB,XY,YC,Yj]);(with_reducible repeat' (first|intro h|refine And.intro (by omega) ?_ | refine exP (by omega) ?_ | apply And.intro)))
 ·have h2:=sumT Zo e.args i (by omega)
  refine callS.eq (ih _ (gM _) (ha _ (gM _)) _ (by omega) (by omega)) ?_
  ((try refine qI ?_);(repeat ((first|with_reducible refine qU ?_ | simp only[Z9]);try simp (maxSteps:=9^7) only[↓ S2,S2,Z7,↓reduceIte,reduceNe,reduceEqDiff,reduceCtorEq,reduceLeDiff,reduceAdd,reduceLT]));(try simp +contextual (disch:=omega) only[Z2]);(with_reducible repeat' (first|intro h|refine And.intro (by omega) ?_ | refine exP (by omega) ?_ | apply And.intro)))
  refine nx ⟨i+1,by omega⟩ (by simp;omega) ?_ (by simp)
  simp[E2,h2,hs, -List.map_take]
  try omega
 all_goals first|(congr 2;omega)|(rw[tL (by omega)] at hs;congr 2;omega)
theorem w111 (t:List Exp) (f:Nat) (cs:List GV) (p:Exp→Bool) (hp:∀x∈t,Pu f (Ex x::cs) (· = B (p x))) :
 Pu 111 [ExS t,.clo f cs] (· = I (ixOf p t)):=by
 refine GCalls.lenA fun hl=> ?_
 have hlen:=hl.1.1
 simp only[List.length_map,YW] at hlen
 refine Z6 mxd i111 rfl (by simp) ?_;simp (maxSteps:=9^7) only[↓ S2,S2,Z7,↓reduceIte,reduceNe,reduceEqDiff,reduceCtorEq,reduceLeDiff,reduceAdd,reduceLT]
 refine Yt mxd (ι:={ i:Nat // i≤t.length∧∀y∈t.take i,p y=false }) (fun i=>[(0,ExS t),(1,.clo f cs),(7,I t.length),(8,I i.1)]) (fun _ => []) (fun i=>t.length-i.1) ⟨0,by simp⟩ (by simp[E2]) rfl ?_
 rintro ⟨i,hi,hn⟩
 ((try refine qI ?_);(repeat ((first|with_reducible refine qU ?_ | simp only[Z9]);try simp (maxSteps:=9^7) only[↓ S2,S2,Z7,↓reduceIte,reduceNe,reduceEqDiff,reduceCtorEq,reduceLeDiff,reduceAdd,reduceLT,YB,XY,YC,Yj]));(try simp +contextual (disch:=omega) only[Z2,YB,XY,YC,Yj]);(with_reducible repeat' (first|intro h|refine And.intro (by omega) ?_ | refine exP (by omega) ?_ | apply And.intro)))
 ·refine callS.eq (hp t[i] (gM _)) ?_
  ((try refine qI ?_);(repeat ((first|with_reducible refine qU ?_ | simp only[Z9]);try simp (maxSteps:=9^7) only[↓ S2,S2,Z7,↓reduceIte,reduceNe,reduceEqDiff,reduceCtorEq,reduceLeDiff,reduceAdd,reduceLT]));(try simp +contextual (disch:=omega) only[Z2]);(with_reducible repeat' (first|intro h|refine And.intro (by omega) ?_ | refine exP (by omega) ?_ | apply And.intro)))
  ·rw[ixOf_hit (by assumption) h hn]
  ·exact nx ⟨i+1,by omega,take_step (by assumption) h hn⟩ (by simp;omega) (by simp[E2]) rfl
 ·have:i=t.length:=by omega
  subst this
  rw[tL (Nat.le_refl _)] at hn
  rw[ixOf_none hn]
theorem w80 (t:List Exp) (f:Nat) (cs:List GV) (p:Exp→Bool) (hp:∀x∈t,Pu f (Ex x::cs) (· = B (p x))) :
 Pu 80 [ExS t,.clo f cs] (· = B (t.any p)):=by
 refine Z6 mxd i80 rfl (by simp) ?_;simp (maxSteps:=9^7) only[↓ S2,S2,Z7,↓reduceIte,reduceNe,reduceEqDiff,reduceCtorEq,reduceLeDiff,reduceAdd,reduceLT]
 refine callS.eq (w111 t f cs p hp) ?_
 ((try refine qI ?_);(repeat ((first|with_reducible refine qU ?_ | simp only[Z9]);try simp (maxSteps:=9^7) only[↓ S2,S2,Z7,↓reduceIte,reduceNe,reduceEqDiff,reduceCtorEq,reduceLeDiff,reduceAdd,reduceLT]));(try simp +contextual (disch:=omega) only[Z2]);(with_reducible repeat' (first|intro h|refine And.intro (by omega) ?_ | refine exP (by omega) ?_ | apply And.intro)))
 rw[←any_ix]
theorem w51 (f:Nat) (cs:List GV) (p:Exp→Bool) (ok:Exp→Prop) (hok:∀e,ok e→∀a∈e.args,ok a) (hp:∀x,ok x→Pu f (Ex x::cs) (· = B (p x))) :
 ∀e,ok e→Pu 51 [Ex e,.clo f cs] (· = B (allE p e)):=by
 refine Exp.indA fun e ih he=> ?_
 have hq:=hp e he
 rw[ZC] at hq ⊢
 refine Z6 mxd i51 rfl (by simp) ?_;simp (maxSteps:=9^7) only[↓ S2,S2,Z7,↓reduceIte,reduceNe,reduceEqDiff,reduceCtorEq,reduceLeDiff,reduceAdd,reduceLT]
 refine ⟨rfl,callS.eq hq ?_⟩
 ((try refine qI ?_);(repeat ((first|with_reducible refine qU ?_ | simp only[Z9]);try simp (maxSteps:=9^7) only[↓ S2,S2,Z7,↓reduceIte,reduceNe,reduceEqDiff,reduceCtorEq,reduceLeDiff,reduceAdd,reduceLT]));(try simp +contextual (disch:=omega) only[Z2]);(with_reducible repeat' (first|intro h|refine And.intro (by omega) ?_ | refine exP (by omega) ?_ | apply And.intro)))
 ·refine callS.eq (w80 e.args _ _ (fun a=> !allE p a) fun a ha=> ?_) ?_
  ·refine Z6 mxd i81 rfl (by simp) ?_;simp (maxSteps:=9^7) only[↓ S2,S2,Z7,↓reduceIte,reduceNe,reduceEqDiff,reduceCtorEq,reduceLeDiff,reduceAdd,reduceLT]
   ((try refine qI ?_);(repeat ((first|with_reducible refine qU ?_ | simp only[Z9]);try simp (maxSteps:=9^7) only[↓ S2,S2,Z7,↓reduceIte,reduceNe,reduceEqDiff,reduceCtorEq,reduceLeDiff,reduceAdd,reduceLT,YB,XY,YC,Yj]));(try simp +contextual (disch:=omega) only[Z2,YB,XY,YC,Yj]);(with_reducible repeat' (first|intro h|refine And.intro (by omega) ?_ | refine exP (by omega) ?_ | apply And.intro)))
   refine callS.eq (ih a ha (hok e he a ha)) ?_
   ((try refine qI ?_);(repeat ((first|with_reducible refine qU ?_ | simp only[Z9]);try simp (maxSteps:=9^7) only[↓ S2,S2,Z7,↓reduceIte,reduceNe,reduceEqDiff,reduceCtorEq,reduceLeDiff,reduceAdd,reduceLT]));(try simp +contextual (disch:=omega) only[Z2]);(with_reducible repeat' (first|intro h|refine And.intro (by omega) ?_ | refine exP (by omega) ?_ | apply And.intro)))
  ·((try refine qI ?_);(repeat ((first|with_reducible refine qU ?_ | simp only[Z9]);try simp (maxSteps:=9^7) only[↓ S2,S2,Z7,↓reduceIte,reduceNe,reduceEqDiff,reduceCtorEq,reduceLeDiff,reduceAdd,reduceLT]));(try simp +contextual (disch:=omega) only[Z2]);(with_reducible repeat' (first|intro h|refine And.intro (by omega) ?_ | refine exP (by omega) ?_ | apply And.intro)))
   rw[allE_eq]
   simp_all [any_not]
 ·rw[allE_eq]
  simp_all
theorem w96 (c:UInt8):Pu 96 [.val (.int .u8 c.toNat)] (· = B (Ze c)):=by
 refine Z6 mxd i96 rfl (by simp) ?_;simp (maxSteps:=9^7) only[↓ S2,S2,Z7,↓reduceIte,reduceNe,reduceEqDiff,reduceCtorEq,reduceLeDiff,reduceAdd,reduceLT]
 ((try refine qI ?_);(repeat ((first|with_reducible refine qU ?_ | simp only[Z9]);try simp (maxSteps:=9^7) only[↓ S2,S2,Z7,↓reduceIte,reduceNe,reduceEqDiff,reduceCtorEq,reduceLeDiff,reduceAdd,reduceLT]));(try simp +contextual (disch:=omega) only[Z2]);(with_reducible repeat' (first|intro h|refine And.intro (by omega) ?_ | refine exP (by omega) ?_ | apply And.intro)))<;>simp_all [Ze]<;>(intros;omega)
theorem w97 (c:UInt8):Pu 97 [.val (.int .u8 c.toNat)] (· = B (ZI c)):=by
 refine Z6 mxd i97 rfl (by simp) ?_;simp (maxSteps:=9^7) only[↓ S2,S2,Z7,↓reduceIte,reduceNe,reduceEqDiff,reduceCtorEq,reduceLeDiff,reduceAdd,reduceLT]
 ((try refine qI ?_);(repeat ((first|with_reducible refine qU ?_ | simp only[Z9]);try simp (maxSteps:=9^7) only[↓ S2,S2,Z7,↓reduceIte,reduceNe,reduceEqDiff,reduceCtorEq,reduceLeDiff,reduceAdd,reduceLT]));(try simp +contextual (disch:=omega) only[Z2]);(with_reducible repeat' (first|intro h|refine And.intro (by omega) ?_ | refine exP (by omega) ?_ | apply And.intro)))<;>simp_all [ZI]<;>(intros;omega)
theorem w146:Pu 146 [] (· = .sl 1 (kwS.map T)):=by
 have o:Gc 146 [] [] (fun g H'=>∃r,g = .own r 1 0 13∧H'=[(r,1,kwS.map T)]):=by
  refine Z6 mxd i146 rfl (by simp) ?_;simp (maxSteps:=9^7) only[↓ S2,S2,Z7,↓reduceIte,reduceNe,reduceEqDiff,reduceCtorEq,reduceLeDiff,reduceAdd,reduceLT]
  intro r hr
  exact ⟨r,rfl,rfl⟩
 refine o.fr ?_
 rintro g H' ⟨r,rfl,rfl⟩
 exact ⟨_,_,FR.freeze Z4 (.all Z4 (by simp[kwS]) (by simp[view,kwS])),rfl⟩
theorem w145 (l:List ByteArray) (s:ByteArray):Pu 145 [.sl 1 (l.map T),T s] (· = B (hasS l s)):=by
 refine GCalls.lenA fun hl=> ?_
 have hlen:=hl.1.1
 simp only[List.length_map,YW] at hlen
 refine Z6 mxd i145 rfl (by simp) ?_;simp (maxSteps:=9^7) only[↓ S2,S2,Z7,↓reduceIte,reduceNe,reduceEqDiff,reduceCtorEq,reduceLeDiff,reduceAdd,reduceLT]
 refine Yt mxd (ι:={ i:Nat // i≤l.length∧∀y∈l.take i,decide (y=s)=false }) (fun i=>[(0,.sl 1 (l.map T)),(1,T s),(5,I i.1)]) (fun _ => []) (fun i=>l.length-i.1) ⟨0,by simp⟩ (by simp[E2]) rfl ?_
 rintro ⟨i,hi,hn⟩
 ((try refine qI ?_);(repeat ((first|with_reducible refine qU ?_ | simp only[Z9]);try simp (maxSteps:=9^7) only[↓ S2,S2,Z7,↓reduceIte,reduceNe,reduceEqDiff,reduceCtorEq,reduceLeDiff,reduceAdd,reduceLT]));(try simp +contextual (disch:=omega) only[Z2]);(with_reducible repeat' (first|intro h|refine And.intro (by omega) ?_ | refine exP (by omega) ?_ | apply And.intro)))
 ·rw[hasS_hit (by assumption) h]
 ·exact nx ⟨i+1,by omega,take_step (by assumption) (by simpa using h) hn⟩ (by simp;omega) (by simp[E2]) rfl
 ·have:i=l.length:=by omega
  subst this
  rw[tL (Nat.le_refl _)] at hn
  rw[hasS_none hn]
theorem w114 (s:ByteArray):Pu 114 [T s] (· = B (resV s)):=by
 refine Z6 mxd i114 rfl (by simp) ?_;simp (maxSteps:=9^7) only[↓ S2,S2,Z7,↓reduceIte,reduceNe,reduceEqDiff,reduceCtorEq,reduceLeDiff,reduceAdd,reduceLT]
 ((try refine qI ?_);(repeat ((first|with_reducible refine qU ?_ | simp only[Z9]);try simp (maxSteps:=9^7) only[↓ S2,S2,Z7,↓reduceIte,reduceNe,reduceEqDiff,reduceCtorEq,reduceLeDiff,reduceAdd,reduceLT]));(try simp +contextual (disch:=omega) only[Z2]);(with_reducible repeat' (first|intro h|refine And.intro (by omega) ?_ | refine exP (by omega) ?_ | apply And.intro)))
 all_goals first|(simp_all [resV,hasS,kwS,show ∀x,(x=s)=(s=x) from fun x=>propext eq_comm];done)|skip
theorem w119 (s:ByteArray):Pu 119 [T s] (· = B (resV s)):=by
 refine Z6 mxd i119 rfl (by simp) ?_;simp (maxSteps:=9^7) only[↓ S2,S2,Z7,↓reduceIte,reduceNe,reduceEqDiff,reduceCtorEq,reduceLeDiff,reduceAdd,reduceLT]
 refine callS.eq w146 ?_
 ((try refine qI ?_);(repeat ((first|with_reducible refine qU ?_ | simp only[Z9]);try simp (maxSteps:=9^7) only[↓ S2,S2,Z7,↓reduceIte,reduceNe,reduceEqDiff,reduceCtorEq,reduceLeDiff,reduceAdd,reduceLT]));(try simp +contextual (disch:=omega) only[Z2]);(with_reducible repeat' (first|intro h|refine And.intro (by omega) ?_ | refine exP (by omega) ?_ | apply And.intro)))
 refine callS.eq (w145 _ _) ?_
 ((try refine qI ?_);(repeat ((first|with_reducible refine qU ?_ | simp only[Z9]);try simp (maxSteps:=9^7) only[↓ S2,S2,Z7,↓reduceIte,reduceNe,reduceEqDiff,reduceCtorEq,reduceLeDiff,reduceAdd,reduceLT]));(try simp +contextual (disch:=omega) only[Z2]);(with_reducible repeat' (first|intro h|refine And.intro (by omega) ?_ | refine exP (by omega) ?_ | apply And.intro)))
 rfl
theorem w118 (s : ByteArray) (hs : s.size ≤ maxLen) : Pu 118 [T s] (· = B (shp (Z8 s))) := by
  simp only [maxLen, Zu] at hs
  refine Z6 mxd i118 rfl (by simp) ?_; simp (maxSteps := 9^7) only [↓ S2, S2, Z7, ↓reduceIte, reduceNe, reduceEqDiff, reduceCtorEq, reduceLeDiff, reduceAdd, reduceLT]
  refine Yt mxd (ι := { i : Nat // i ≤ (Z8 s).length ∧ ∀ (j : Nat) (h : j < (Z8 s).length), j < i → Ze (Z8 s)[j] = true ∨ (j ≠ 0 ∧ ZI (Z8 s)[j] = true) }) (fun i => [(0, T s), (3, I i.1)]) (fun _ => []) (fun i => (Z8 s).length - i.1) ⟨0, by simp⟩ (by simp [E2]) rfl ?_
  rintro ⟨i, hi, hn⟩
  ((try refine qI ?_); (repeat ((first | with_reducible refine qU ?_ | simp only [Z9]); try simp (maxSteps := 9^7) only [↓ S2, S2, Z7, ↓reduceIte, reduceNe, reduceEqDiff, reduceCtorEq, reduceLeDiff, reduceAdd, reduceLT])); (try simp +contextual (disch := omega) only [Z2]); (with_reducible repeat' (first | intro h | refine And.intro (by omega) ?_ | refine exP (by omega) ?_ | apply And.intro)))
  all_goals first
    | (rw [shp_bad (i := i) (by assumption) (by simp only [Ze, ZI, Bool.and_eq_true, decide_eq_true_eq]; omega)]; done)
    | (have hlt : i < (Z8 s).length := by omega
       have hg : Ze (Z8 s)[i] = true ∨ (i ≠ 0 ∧ ZI (Z8 s)[i] = true) := by
         simp only [Ze, ZI, Bool.and_eq_true, decide_eq_true_eq]
         omega
       exact nx ⟨i + 1, by omega, shp_step hlt hn hg⟩ (by simp; omega) (by simp [E2]) rfl)
    | (have : i = (Z8 s).length := by omega
       subst this
       rw [shp_end hn]
       simp; done)
    | skip
  all_goals have hlt : i < (Z8 s).length := by omega
  all_goals have hg : Ze (Z8 s)[i] = true ∨ (i ≠ 0 ∧ ZI (Z8 s)[i] = true) := by (simp only [Ze, ZI, Bool.and_eq_true, decide_eq_true_eq]; omega)
  all_goals refine nx ⟨i + 1, by omega, shp_step hlt hn hg⟩ ?_ ?_ rfl
  all_goals first | (simp only; omega) | exact (by simp [E2]) | skip
theorem w95 (s:ByteArray) (hs:s.size≤maxLen):Pu 95 [T s] (· = B (YV s)):=by
 have hs':=hs
 simp only[maxLen,Zu] at hs'
 refine Z6 mxd i95 rfl (by simp) ?_;simp (maxSteps:=9^7) only[↓ S2,S2,Z7,↓reduceIte,reduceNe,reduceEqDiff,reduceCtorEq,reduceLeDiff,reduceAdd,reduceLT]
 refine callS.eq (w118 s hs) ?_
 ((try refine qI ?_);(repeat ((first|with_reducible refine qU ?_ | simp only[Z9]);try simp (maxSteps:=9^7) only[↓ S2,S2,Z7,↓reduceIte,reduceNe,reduceEqDiff,reduceCtorEq,reduceLeDiff,reduceAdd,reduceLT]));(try simp +contextual (disch:=omega) only[Z2]);(with_reducible repeat' (first|intro h|refine And.intro (by omega) ?_ | refine exP (by omega) ?_ | apply And.intro)))
 all_goals try (refine callS.eq (w119 _) ?_;((try refine qI ?_);(repeat ((first|with_reducible refine qU ?_ | simp only[Z9]);try simp (maxSteps:=9^7) only[↓ S2,S2,Z7,↓reduceIte,reduceNe,reduceEqDiff,reduceCtorEq,reduceLeDiff,reduceAdd,reduceLT]));(try simp +contextual (disch:=omega) only[Z2]);(with_reducible repeat' (first|intro h|refine And.intro (by omega) ?_ | refine exP (by omega) ?_ | apply And.intro))))
 all_goals simp_all [YV]
 all_goals try (intros;omega)
theorem w83 (s : ByteArray) (hs : s.size ≤ maxLen) : Pu 83 [T s] (· = B (YV s)) := by
  simp only [maxLen, Zu] at hs
  refine Z6 mxd i83 rfl (by simp) ?_; simp (maxSteps := 9^7) only [↓ S2, S2, Z7, ↓reduceIte, reduceNe, reduceEqDiff, reduceCtorEq, reduceLeDiff, reduceAdd, reduceLT]
  refine Yt mxd (ι := { i : Nat // i ≤ (Z8 s).length ∧ ∀ (j : Nat) (h : j < (Z8 s).length), j < i → Ze (Z8 s)[j] = true ∨ ZI (Z8 s)[j] = true }) (fun i => [(0, T s), (5, I (Z8 s).length), (6, I i.1)]) (fun _ => []) (fun i => (Z8 s).length - i.1) ⟨0, by simp⟩ (by simp [E2]) rfl ?_
  rintro ⟨i, hi, hn⟩
  rcases nL i (Z8 s).length with hlt | hge
  · have hnx : Ze (Z8 s)[i] = true ∨ ZI (Z8 s)[i] = true → ∀ (j : Nat) (h : j < (Z8 s).length), j < i + 1 → Ze (Z8 s)[j] = true ∨ ZI (Z8 s)[j] = true := fun hg j hj hji => by
      by_cases e : j = i
      · subst e; exact hg
      · exact hn j hj (by omega)
    (repeat' (first | (with_reducible refine callS.eq (w96 _) ?_) | (with_reducible refine callS.eq (w97 _) ?_) | simp (maxSteps := 9^7) only [↓ S2, S2, Z7, ↓reduceIte, reduceNe, reduceEqDiff, reduceCtorEq, reduceLeDiff, reduceAdd, reduceLT] | simp only [Z9] | simp +contextual (disch := omega) only [Z2] | with_reducible first | intro h | refine And.intro (by omega) ?_ | refine exP (by omega) ?_ | apply And.intro))
    all_goals try exact oF
    · exact nx ⟨i + 1, by omega, hnx (.inl h)⟩ (by show (Z8 s).length - (i + 1) < (Z8 s).length - i; omega) (by simp [E2]) rfl
    · exact nx ⟨i + 1, by omega, hnx (.inr h)⟩ (by show (Z8 s).length - (i + 1) < (Z8 s).length - i; omega) (by simp [E2]) rfl
    · rw [XP, shp_no hlt (by assumption) (by assumption)]; rfl
  · have : i = (Z8 s).length := by omega
    subst this
    (repeat' (first | (with_reducible refine callS.eq (w84 _ _ _) ?_) | (with_reducible refine callS.eq (w96 _) ?_) | (with_reducible refine callS.eq (w114 _) ?_) | simp (maxSteps := 9^7) only [↓ S2, S2, Z7, ↓reduceIte, reduceNe, reduceEqDiff, reduceCtorEq, reduceLeDiff, reduceAdd, reduceLT] | simp only [Z9] | simp +contextual (disch := omega) only [Z2] | with_reducible first | intro h | refine And.intro (by omega) ?_ | refine exP (by omega) ?_ | apply And.intro))
    all_goals try exact oF
    all_goals first
      | (rw [XP, shp_yes (by omega) (by assumption) (fun j h => hn j h h), decide_eq_true (by omega)]; rfl)
      | (rw [XP, shp_no0 (by omega) (by assumption)]; rfl)
      | (rw [XP, decide_eq_false (show ¬ (Z8 s).length ≤ 8 by omega), Bool.and_false]; rfl)
      | (rcases Nat.eq_zero_or_pos (Z8 s).length with h0 | h0
         · rw [XP, List.eq_nil_of_length_eq_zero h0]; rfl
         · rw [XP, decide_eq_false (show ¬ (Z8 s).length ≤ 8 by omega), Bool.and_false]; rfl)
theorem w36 (e:Exp) (k n p t:Int) (s m:ByteArray) (a:List Exp):Pu 36 [Ex e,.agg [I k,I n,I p,I t,T s,T m,ExS a]] (· = B (decide (e.kind=k)&&(decide (e.n=n)&&(decide (e.pos=p)&&(decide (e.type=t)&&(decide (e.sym=s)&&decide (e.name=m))))))):=by
 refine Z6 mxd i36 rfl (by simp) ?_;simp (maxSteps:=9^7) only[↓ S2,S2,Z7,↓reduceIte,reduceNe,reduceEqDiff,reduceCtorEq,reduceLeDiff,reduceAdd,reduceLT]
 (repeat' (first|(with_reducible refine callS.eq (w84 _ _ _) ?_)|simp (maxSteps:=9^7) only[↓ S2,S2,Z7,↓reduceIte,reduceNe,reduceEqDiff,reduceCtorEq,reduceLeDiff,reduceAdd,reduceLT,XE]|simp only[Z9]|simp +contextual (disch:=omega) only[Z2]|with_reducible first|intro h|refine And.intro (by omega) ?_ | refine exP (by omega) ?_ | apply And.intro))
 all_goals (simp_all;done)
end Go.Proofs.YtkmedfejmndmjaaGreatDoor
