/- The laws FnEdits, FnEdited and FnSwapped return true whatever the input, and the input reads behind the call as before. No condition. -/
import Derived.Test.YtknbnefbgpnkgaaGreatFed1
import Derived.KernelRfl
import Derived.Test.YtknbnefbgpnkgaaGreatRows
import Derived.Test.YtknbnefbgpnkgaaGreatChecked
set_option maxHeartbeats 40000000
set_option maxRecDepth 20000
set_option linter.unusedSimpArgs false
set_option linter.unusedVariables false
namespace Go.Gh
@[irreducible] def MkQ (p:Prop):Prop:=p
theorem qI {p:Prop} (h:MkQ p):p:=by unfold MkQ at h;exact h
theorem qU {p:Prop} (h:p):MkQ p:=by unfold MkQ;exact h
theorem VQ:type_of% (jO @Z9 (jO @Z7 (jO @Z8 (jO @neN (jO @Z5 (jO @Z1 @ZL)))))):=(jO @Z9 (jO @Z7 (jO @Z8 (jO @neN (jO @Z5 (jO @Z1 @ZL))))))
theorem VN:type_of% (jO @Z4 (jO @Z0 (jO @Z5 (jO @Z1 (jO @and_true @true_and))))):=(jO @Z4 (jO @Z0 (jO @Z5 (jO @Z1 (jO @and_true @true_and)))))
open Nat (reduceEqDiff reduceLeDiff reduceAdd reduceLT)
open Int (reduceNe)
theorem aO {a b:Prop} (k:b) (h:a:=by omega):a∧b:=jO h k
theorem eO {a:Prop} {b:a→Prop} (h:a:=by omega) (k:b h):∃h,b h:=Exists.intro h k
theorem V0 {p q:Prop} (k:q) (h:q→p:=by intro k;first|(replace k:=qU k;(try simp (maxSteps:=9^7) +contextual only[↓ S2,S2,↓reduceIte,reduceNe,reduceEqDiff,reduceCtorEq,reduceLeDiff,reduceAdd,reduceLT,VQ]);(repeat (simp only[ZP];try simp (maxSteps:=9^7) +contextual only[↓ S2,S2,↓reduceIte,reduceNe,reduceEqDiff,reduceCtorEq,reduceLeDiff,reduceAdd,reduceLT,VQ]));(try simp +contextual (disch:=omega) only[Z2]);(with_reducible repeat' first|refine aO ?_ | refine eO ?_);exact qI k)|(have _ : True:=k;(try simp (maxSteps:=9^7) +contextual only[↓ S2,S2,↓reduceIte,reduceNe,reduceEqDiff,reduceCtorEq,reduceLeDiff,reduceAdd,reduceLT,VQ]);(repeat (simp only[ZP];try simp (maxSteps:=9^7) +contextual only[↓ S2,S2,↓reduceIte,reduceNe,reduceEqDiff,reduceCtorEq,reduceLeDiff,reduceAdd,reduceLT,VQ]));(try simp +contextual (disch:=omega) only[Z2]);done)):p:=h k
theorem V1 {p q f:Prop} (a:f) (k:q) (h:f→q→p:=by intro a k;first|(replace k:=qU k;(try simp (maxSteps:=9^7) +contextual only[↓ S2,S2,↓reduceIte,reduceNe,reduceEqDiff,reduceCtorEq,reduceLeDiff,reduceAdd,reduceLT,VQ,a]);(repeat (simp only[ZP];try simp (maxSteps:=9^7) +contextual only[↓ S2,S2,↓reduceIte,reduceNe,reduceEqDiff,reduceCtorEq,reduceLeDiff,reduceAdd,reduceLT,VQ,a]));(try simp +contextual (disch:=omega) only[Z2,a]);(try clear a);(with_reducible repeat' first|refine aO ?_ | refine eO ?_);first|exact qI k|(revert a;exact qI k))|(have _ : True:=k;(try simp (maxSteps:=9^7) +contextual only[↓ S2,S2,↓reduceIte,reduceNe,reduceEqDiff,reduceCtorEq,reduceLeDiff,reduceAdd,reduceLT,VQ,a]);(repeat (simp only[ZP];try simp (maxSteps:=9^7) +contextual only[↓ S2,S2,↓reduceIte,reduceNe,reduceEqDiff,reduceCtorEq,reduceLeDiff,reduceAdd,reduceLT,VQ,a]));(try simp +contextual (disch:=omega) only[Z2,a]);done)):p:=h a k
theorem V2 {p q f:Prop} (a:f) (k:q) (h:f→q→p:=by intro a k;first|(replace k:=qU k;(try simp (maxSteps:=9^7) +contextual only[↓ S2,S2,↓reduceIte,reduceNe,reduceEqDiff,reduceCtorEq,reduceLeDiff,reduceAdd,reduceLT,VQ,Int.reduceEq,Int.reduceLT,Int.reduceLE,Int.reduceToNat,a]);(repeat (simp only[ZP];try simp (maxSteps:=9^7) +contextual only[↓ S2,S2,↓reduceIte,reduceNe,reduceEqDiff,reduceCtorEq,reduceLeDiff,reduceAdd,reduceLT,VQ,Int.reduceEq,Int.reduceLT,Int.reduceLE,Int.reduceToNat,a]));(try simp +contextual (disch:=omega) only[Z2,a]);(try clear a);(with_reducible repeat' first|refine aO ?_ | refine eO ?_);first|exact qI k|(revert a;exact qI k))|(have _ : True:=k;(try simp (maxSteps:=9^7) +contextual only[↓ S2,S2,↓reduceIte,reduceNe,reduceEqDiff,reduceCtorEq,reduceLeDiff,reduceAdd,reduceLT,VQ,Int.reduceEq,Int.reduceLT,Int.reduceLE,Int.reduceToNat,a]);(repeat (simp only[ZP];try simp (maxSteps:=9^7) +contextual only[↓ S2,S2,↓reduceIte,reduceNe,reduceEqDiff,reduceCtorEq,reduceLeDiff,reduceAdd,reduceLT,VQ,Int.reduceEq,Int.reduceLT,Int.reduceLE,Int.reduceToNat,a]));(try simp +contextual (disch:=omega) only[Z2,a]);done)):p:=h a k
theorem R0 {p q:Prop} (k:q) (h:q→p:=by intro k;first|(replace k:=qU k;(try simp (maxSteps:=9^7) only[↓ S2,S2,ZL,↓reduceIte,reduceNe,reduceEqDiff,reduceCtorEq,reduceLeDiff,reduceAdd,reduceLT]);(repeat (simp only[ZP];try simp (maxSteps:=9^7) only[↓ S2,S2,ZL,↓reduceIte,reduceNe,reduceEqDiff,reduceCtorEq,reduceLeDiff,reduceAdd,reduceLT]));(try simp +contextual (disch:=omega) only[Z2]);(with_reducible repeat' first|refine aO ?_ | refine eO ?_);exact qI k)|(have _ : True:=k;(try simp (maxSteps:=9^7) only[↓ S2,S2,ZL,↓reduceIte,reduceNe,reduceEqDiff,reduceCtorEq,reduceLeDiff,reduceAdd,reduceLT]);(repeat (simp only[ZP];try simp (maxSteps:=9^7) only[↓ S2,S2,ZL,↓reduceIte,reduceNe,reduceEqDiff,reduceCtorEq,reduceLeDiff,reduceAdd,reduceLT]));(try simp +contextual (disch:=omega) only[Z2]);done)):p:=h k
theorem R1 {p q f:Prop} (a:f) (k:q) (h:f→q→p:=by intro a k;first|(replace k:=qU k;(try simp (maxSteps:=9^7) only[↓ S2,S2,ZL,↓reduceIte,reduceNe,reduceEqDiff,reduceCtorEq,reduceLeDiff,reduceAdd,reduceLT,a]);(repeat (simp only[ZP];try simp (maxSteps:=9^7) only[↓ S2,S2,ZL,↓reduceIte,reduceNe,reduceEqDiff,reduceCtorEq,reduceLeDiff,reduceAdd,reduceLT,a]));(try simp +contextual (disch:=omega) only[Z2,a]);(try clear a);(with_reducible repeat' first|refine aO ?_ | refine eO ?_);first|exact qI k|(revert a;exact qI k))|(have _ : True:=k;(try simp (maxSteps:=9^7) only[↓ S2,S2,ZL,↓reduceIte,reduceNe,reduceEqDiff,reduceCtorEq,reduceLeDiff,reduceAdd,reduceLT,a]);(repeat (simp only[ZP];try simp (maxSteps:=9^7) only[↓ S2,S2,ZL,↓reduceIte,reduceNe,reduceEqDiff,reduceCtorEq,reduceLeDiff,reduceAdd,reduceLT,a]));(try simp +contextual (disch:=omega) only[Z2,a]);done)):p:=h a k
theorem X0 {p q:Prop} (k:q) (h:q→p:=by intro k;first|(replace k:=qU k;(try simp (maxSteps:=9^7) only[↓ S2,S2,ZL,↓reduceIte,reduceNe,reduceEqDiff,reduceCtorEq,reduceLeDiff,reduceAdd,reduceLT]);(with_reducible repeat' first|refine aO ?_ | refine eO ?_);exact qI k)|(have _ : True:=k;(try simp (maxSteps:=9^7) only[↓ S2,S2,ZL,↓reduceIte,reduceNe,reduceEqDiff,reduceCtorEq,reduceLeDiff,reduceAdd,reduceLT]);done)):p:=h k
theorem K0 {p q:Prop} (k:q) (h:q→p:=by intro k;first|(simp (maxSteps:=9^7) only[↓ S2,S2,ZL,↓reduceIte,reduceNe,reduceEqDiff,reduceCtorEq,reduceLeDiff,reduceAdd,reduceLT];exact k)|(simp only[ZP];exact k)|(simp +contextual (disch:=omega) only[Z2];exact k)|(have _ : True:=k;simp (maxSteps:=9^7) only[↓ S2,S2,ZL,↓reduceIte,reduceNe,reduceEqDiff,reduceCtorEq,reduceLeDiff,reduceAdd,reduceLT];done)|(have _ : True:=k;simp only[ZP];done)|(have _ : True:=k;simp +contextual (disch:=omega) only[Z2];done)):p:=h k
theorem K1 {p q f:Prop} (a:f) (k:q) (h:f→q→p:=by intro a k;first|(simp (maxSteps:=9^7) only[↓ S2,S2,ZL,↓reduceIte,reduceNe,reduceEqDiff,reduceCtorEq,reduceLeDiff,reduceAdd,reduceLT,a];first|exact k|(revert a;exact k))|(simp only[ZP];first|exact k|(revert a;exact k))|(simp +contextual (disch:=omega) only[Z2];first|exact k|(revert a;exact k))|(have _ : True:=k;simp (maxSteps:=9^7) only[↓ S2,S2,ZL,↓reduceIte,reduceNe,reduceEqDiff,reduceCtorEq,reduceLeDiff,reduceAdd,reduceLT,a];done)|(have _ : True:=k;simp only[ZP];done)|(have _ : True:=k;simp +contextual (disch:=omega) only[Z2];done)):p:=h a k
theorem oF {p:Prop} (h:False:=by omega):p:=h.elim
theorem nL (a b:Nat):a<b∨a≥b:=Nat.lt_or_ge a b
theorem gM {α:Type} {l:List α} {n:Nat} (h:n<l.length):l[n]∈l:=List.getElem_mem h
theorem tL {α:Type} {l:List α} {i:Nat} (h:l.length≤i):l.take i=l:=List.take_of_length_le h
theorem bC (b:Bool):b=false∨b=true:=(Bool.eq_false_or_eq_true b).symm
theorem hgO {r q:Nat} (h:r≠q) (x:Nat×List GV) (H:GH):ZU ((r,x)::H) q=ZU H q:=YL h
theorem hsO {r q:Nat} (h:r≠q) (s:Nat) (e f:List GV) (H:GH):ZG ((r,s,e)::H) q f=(r,s,e)::ZG H q f:=hset_old h
theorem hdO {r q:Nat} (h:r≠q) (x:Nat×List GV) (H:GH):Zj ((r,x)::H) q=(r,x)::Zj H q:=YE h
end Go.Gh
namespace Go.Gh.Z
abbrev x (d:Nat) (o:GOp):GI:=⟨some d,none,o⟩
abbrev y (d g:Nat) (o:GOp):GI:=⟨some d,some (g,true),o⟩
abbrev z (d g:Nat) (o:GOp):GI:=⟨some d,some (g,false),o⟩
abbrev m (d a:Nat):GI:=⟨some d,none,.mov (.t a)⟩
abbrev k (d:Nat) (n:Int):GI:=⟨some d,none,.mov (.k (.val (.int .i64 n)))⟩
abbrev b (d:Nat) (n:Bool):GI:=⟨some d,none,.mov (.k (.val (.bool n)))⟩
abbrev l (d a:Nat):GI:=⟨some d,none,.load 1 false (.t a)⟩
abbrev h (d n a:Nat):GI:=⟨some d,none,.load n true (.t a)⟩
abbrev f (d o a:Nat):GI:=⟨some d,none,.faddr o 1 false (.t a)⟩
abbrev e (d o n a:Nat):GI:=⟨some d,none,.faddr o n true (.t a)⟩
abbrev i (d n a c:Nat):GI:=⟨some d,none,.iaddr n (.t a) (.t c)⟩
abbrev c (d f:Nat) (a:List GE):GI:=⟨some d,none,.call false f a⟩
abbrev o (d:Nat) (p:BinOp) (a b:Nat):GI:=⟨some d,none,.bin p (.t a) (.t b)⟩
abbrev q (d:Nat) (p:BinOp) (a:Nat) (n:Int):GI:=⟨some d,none,.bin p (.t a) (.k (.val (.int .i64 n)))⟩
abbrev n (d a:Nat):GI:=⟨some d,none,.len (.t a)⟩
abbrev w (d a:Nat):GI:=⟨some d,none,.not (.t a)⟩
abbrev a (d n r:Nat):GI:=⟨some d,none,.boxro n (.t r)⟩
abbrev t (d n r:Nat):GI:=⟨some d,none,.stro n d (.t r)⟩
abbrev u (d n:Nat):GI:=⟨some d,none,.allocr n⟩
abbrev v (d r j:Nat):GI:=⟨some d,none,.ext (.t r) j⟩
abbrev p (n o a:Nat):GOp:= .faddr o n false (.t a)
abbrev r (n a:Nat):GOp:= .load n false (.t a)
abbrev j (n a:Nat):GOp:= .load n true (.t a)
abbrev C (c e:Nat) (x:GC):GC:= .seq (.cond c .skip (.exit e)) x
abbrev B (n:Nat) (x:GC):GC:= .block n (.loop x)
abbrev s (a:List GI) (b:GC):GC:= .seq (.reg a) b
end Go.Gh.Z
namespace Go.Gh
theorem jF {P:Program} {f:Nat} {fn:Func} {F:GFun} {c:Code} (h:P.funcs[f]? = some fn) (md:List (Nat×Nat):=[]) (h0:fn.body=some c:=by rfl) (h1:(fn.name == "runtime.NumGoroutine")=false:=by kernel_rfl) (h2:compC P F.cf md c=some F.gc:=by kernel_rfl) (h3:Yy P fn.results.toList=some F.gr:=by kernel_rfl) (h4:fn.ntmps=F.cf.N:=by rfl):IsFun P f F:=⟨fn,c,md,h,h1,h0,h2,h3,h4⟩
end Go.Gh
namespace Go.Proofs.YtknbnefbgpnkgaaGreat
open Go.Gh Go.Gh.Z
abbrev iF:=IsFun Tryz.prog
abbrev Pu:=Pure Tryz.prog
abbrev Gc:=GCalls Tryz.prog
def g4:GFun:=⟨⟨121,[3,4,5,6,8]⟩,(s [b 2 false] (.seq (s [m 14 0,c 15 8 [.t 14]] (.cond 15 (s [b 2 true] .ret) .skip)) (s [m 17 0,c 18 15 [.t 17],m 16 18,v 19 16 0,v 20 16 1,v 21 16 2,u 3 2,u 4 1,u 5 5,t 3 2 19,t 4 1 20,t 5 5 21]
 (s [h 23 2 3,h 24 1 4,h 25 5 5,c 26 16 [.t 23,.t 24,.t 25],m 22 26,v 27 22 0,v 28 22 1,u 6 1,t 6 1 27,m 7 28] (s [h 30 2 3,h 31 1 4,h 32 5 5,c 33 17 [.t 30,.t 31,.t 32],m 29 33,v 34 29 0,v 35 29 1,u 8 1,t 8 1 34,m 9 35] (.seq (s [m 36 7,
 m 37 9,o 38 .neq 36 37,m 39 38,z 40 39 (j 1 6),z 41 39 (j 1 8),z 42 39 (.call false 18 [.t 40,.t 41]),z 43 39 (.not (.t 42)),x 44 (.pick (.t 39) (.k (.val (.bool true))) (.t 43))] (.cond 44 (s [b 2 false] .ret) .skip)) (.seq (s [m 45 7,
 q 46 .neq 45 0] (.cond 46 (s [h 47 1 6,h 48 1 4,c 49 18 [.t 47,.t 48],m 2 49] .ret) .skip)) (.seq (s [h 50 2 3,h 51 1 6,c 52 19 [.t 50,.t 51],w 53 52] (.cond 53 (s [b 2 false] .ret) .skip)) (s [h 54 1 4,f 55 1 5,l 56 55,c 57 20 [.t 54,
 .t 56],m 10 57] (.seq (s [k 11 0] (B 0 (.seq (s [m 58 11,f 59 0 4,l 60 59,n 61 60,o 62 .lss 58 61] (.cond 62 .skip (.exit 0))) (.seq (.block 1 (s [f 66 0 4,m 68 11,h 65 1 6,l 67 66,i 69 6 67 68,f 70 0 69,l 71 70,x 72 (.call true 20 [.t 65,
 .t 71]),m 12 72] (s [m 73 11,m 74 10,o 75 .geq 73 74,m 76 75,y 77 76 (.mov (.t 11)),y 78 76 (.mov (.t 10)),y 79 76 (j 1 4),y 80 76 (.mov (.t 10)),y 81 76 (.call false 21 [.t 79,.t 80]),y 82 76 (.bin .add (.t 78) (.t 81)),y 83 76
 (.bin .lss (.t 77) (.t 82)),x 84 (.pick (.t 76) (.t 83) (.k (.val (.bool false)))),m 13 84] (s [m 85 13,w 86 85,m 87 86,y 88 87 (.mov (.t 12)),y 89 87 (.bin .lss (.t 88) (.k (.val (.int .i64 0)))),y 90 87 (.mov (.t 89)),z 91 90 (p 1 0 6),
 z 93 90 (.mov (.t 12)),z 97 90 (p 1 0 4),z 99 90 (.mov (.t 11)),z 92 90 (r 1 91),z 94 90 (.iaddr 6 (.t 92) (.t 93)),z 95 90 (p 1 3 94),z 96 90 (r 1 95),z 98 90 (r 1 97),z 100 90 (.iaddr 6 (.t 98) (.t 99)),z 101 90 (p 1 3 100),z 102 90
 (r 1 101),z 103 90 (.bin .neq (.t 96) (.t 102)),y 104 87 (.pick (.t 90) (.k (.val (.bool true))) (.t 103)),y 105 87 (.mov (.t 104)),z 106 105 (p 1 0 6),z 108 105 (.mov (.t 12)),z 112 105 (p 1 0 4),z 114 105 (.mov (.t 11)),z 107 105
 (r 1 106),z 109 105 (.iaddr 6 (.t 107) (.t 108)),z 110 105 (p 1 4 109),z 111 105 (r 1 110),z 113 105 (r 1 112),z 115 105 (.iaddr 6 (.t 113) (.t 114)),z 116 105 (p 1 4 115),z 117 105 (r 1 116),z 118 105 (.bin .neq (.t 111) (.t 117)),
 y 119 87 (.pick (.t 105) (.k (.val (.bool true))) (.t 118)),x 120 (.pick (.t 87) (.t 119) (.k (.val (.bool false))))] (.cond 120 (s [b 2 false] .ret) .skip))))) (.reg [m 63 11,q 64 .add 63 1,m 11 64]))))) (s [b 2 true] .ret))))))))))),
 [.t 2]⟩
theorem i4:iF 4 g4:=jF Tryz.func4
def g5:GFun:=⟨⟨73,[3,4,6,8,10]⟩,(s [b 2 false] (.seq (s [m 12 0,c 13 8 [.t 12]] (.cond 13 (s [b 2 true] .ret) .skip)) (s [m 15 0,c 16 15 [.t 15],m 14 16,v 17 14 0,v 18 14 1,v 19 14 2,u 3 2,u 4 1,x 5 (.alloc 5 (.agg [(.val
 (.int .i64 0)),(.val (.int .i64 0)),(.val (.int .i64 0)),(.val (.int .i64 0)),(.val (.slice none 0 0))])),t 3 2 17,t 4 1 18,(.mk none none (.store 5 (.t 5) (.t 19)))] (s [f 20 0 5,(.mk none none (.store 1 (.t 20) (.k (.val
 (.int .i64 3)))))] (.seq (s [f 21 0 4,l 22 21,n 23 22,q 24 .gtr 23 0] (.cond 24 (.reg [f 25 0 4,m 27 0,f 29 0 4,l 26 25,x 28 (.call true 22 [.t 27,(.k (.val (.int .i64 1)))]),l 30 29,n 31 30,o 32 .rem 28 31,i 33 6 26 32,f 34 0 33,l 35 34,
 f 36 2 5,(.mk none none (.store 1 (.t 36) (.t 35)))]) .skip)) (s [h 38 2 3,h 39 1 4,h 40 5 5,c 41 16 [.t 38,.t 39,.t 40],m 37 41,v 42 37 0,v 43 37 1,u 6 1,t 6 1 42,m 7 43] (s [h 45 2 3,h 46 1 4,h 47 5 5,c 48 17 [.t 45,.t 46,.t 47],m 44 48,
 v 49 44 0,v 50 44 1,u 8 1,t 8 1 49,m 9 50] (.seq (s [m 51 7,m 52 9,o 53 .neq 51 52] (.cond 53 (s [b 2 false] .ret) .skip)) (.seq (s [m 54 7,q 55 .neq 54 0] (.cond 55 (s [h 56 1 6,h 57 1 4,c 58 18 [.t 56,.t 57],m 2 58] .ret) .skip))
 (s [h 60 2 3,h 61 1 6,h 62 5 5,c 63 16 [.t 60,.t 61,.t 62],m 59 63,v 64 59 0,v 65 59 1,u 10 1,t 10 1 64,m 11 65] (s [m 66 11,q 67 .eql 66 0,m 68 67,y 69 68 (j 1 10),y 70 68 (j 1 4),y 71 68 (.call false 18 [.t 69,.t 70]),x 72 (.pick
 (.t 68) (.t 71) (.k (.val (.bool false)))),m 2 72] .ret))))))))))),[.t 2]⟩
theorem i5:iF 5 g5:=jF Tryz.func5
def g6:GFun:=⟨⟨83,[3,4,6,8,11,13]⟩,(s [b 2 false] (.seq (s [m 15 0,c 16 8 [.t 15]] (.cond 16 (s [b 2 true] .ret) .skip)) (s [m 18 0,c 19 23 [.t 18],m 17 19,v 20 17 0,v 21 17 1,v 22 17 2,u 3 2,u 4 1,t 3 2 20,t 4 1 21,m 5 22]
 (s [h 24 2 3,h 25 1 4,m 26 5,c 27 24 [.t 24,.t 25,.t 26],m 23 27,v 28 23 0,v 29 23 1,u 6 1,t 6 1 28,m 7 29] (s [h 31 2 3,h 32 1 4,m 33 5,c 34 25 [.t 31,.t 32,.t 33],m 30 34,v 35 30 0,v 36 30 1,u 8 1,t 8 1 35,m 9 36] (.seq (s [h 37 1 6,
 h 38 1 8,c 39 18 [.t 37,.t 38],w 40 39,m 41 40,z 42 41 (.mov (.t 7)),z 43 41 (.mov (.t 9)),z 44 41 (.call false 12 [.t 42,.t 43]),z 45 41 (.not (.t 44)),x 46 (.pick (.t 41) (.k (.val (.bool true))) (.t 45))] (.cond 46
 (s [b 2 false] .ret) .skip)) (s [m 47 0,c 48 22 [.t 47,(.k (.val (.int .i64 2)))],m 49 5,n 50 49,q 51 .add 50 1,o 52 .rem 48 51,m 10 52] (s [m 56 5,m 57 10,x 58 (.slc 5 (.t 56) none (some (.t 57))),u 11 1,h 54 2 3,h 55 1 4,x 59
 (.call true 24 [.t 54,.t 55,.t 58]),m 53 59,v 60 53 0,v 61 53 1,t 11 1 60,m 12 61] (s [m 65 5,m 66 10,x 67 (.slc 5 (.t 65) (some (.t 66)) none),u 13 1,h 63 2 3,h 64 1 11,x 68 (.call true 24 [.t 63,.t 64,.t 67]),m 62 68,v 69 62 0,v 70 62 1,
 t 13 1 69,m 14 70] (s [h 71 1 13,h 72 1 6,c 73 18 [.t 71,.t 72],m 74 73,y 75 74 (.bslice 1 [] 0 false []),y 76 74 (.mov (.t 12)),y 77 74 (.append 1 8 (.t 75) (.t 76)),y 78 74 (.mov (.t 14)),y 79 74 (.append 1 8 (.t 77) (.t 78)),y 80 74
 (.mov (.t 7)),y 81 74 (.call false 12 [.t 79,.t 80]),x 82 (.pick (.t 74) (.t 81) (.k (.val (.bool false)))),m 2 82] .ret)))))))))),[.t 2]⟩
theorem i6:iF 6 g6:=jF Tryz.func6
def g8:GFun:=⟨⟨6,[]⟩,(s [b 2 false] (s [m 3 0,n 4 3,q 5 .gtr 4 1048576,m 2 5] .ret)),[.t 2]⟩
theorem i8:iF 8 g8:=jF Tryz.func8
def g12:GFun:=⟨⟨26,[]⟩,(s [b 4 false] (.seq (s [m 6 0,n 7 6,m 8 1,n 9 8,o 10 .neq 7 9] (.cond 10 (s [b 4 false] .ret) .skip)) (.seq (s [k 5 0] (B 0 (.seq (s [m 11 5,m 12 0,n 13 12,o 14 .lss 11 13] (.cond 14 .skip (.exit 0))) (.seq
 (.block 1 (s [m 17 0,m 18 5,i 19 1 17 18,m 21 1,m 22 5,i 23 1 21 22,l 20 19,l 24 23,o 25 .neq 20 24] (.cond 25 (s [b 4 false] .ret) .skip))) (.reg [m 15 5,q 16 .add 15 1,m 5 16]))))) (s [b 4 true] .ret)))),[.t 4]⟩
theorem i12:iF 12 g12:=jF Tryz.func12
def g15:GFun:=⟨⟨30,[2,3,4,6,8]⟩,(s [u 2 2,u 3 1,u 4 5] (s [m 9 0,c 10 39 [.t 9],m 5 10] (s [m 11 5,m 12 5,c 13 41 [.t 12,(.k (.val (.int .i64 2)))],c 14 51 [.t 11,.t 13],u 6 2,t 6 2 14] (s [m 15 5,h 16 2 6,c 17 52 [.t 15,.t 16],x 7
 (.alloc 1 (.agg [(.val (.slice none 0 0))])),(.mk none none (.store 1 (.t 7) (.t 17)))] (s [m 18 5,h 19 2 6,h 20 1 7,c 21 53 [.t 18,.t 19,.t 20],u 8 5,t 8 5 21] (.seq (s [m 22 5,c 23 41 [.t 22,(.k (.val (.int .i64 16)))]] (.cond 23
 (.reg [m 24 5,h 25 2 6,c 26 54 [.t 24,.t 25],(.mk none none (.store 1 (.t 7) (.t 26)))]) .skip)) (s [h 27 2 6,t 2 2 27,h 28 1 7,t 3 1 28,h 29 5 8,t 4 5 29] .ret))))))),[(.c 2 2 true),(.c 3 1 true),(.c 4 5 true)]⟩
theorem i15:iF 15 g15:=jF Tryz.func15
def g16:GFun:=⟨⟨103,[3,4,5,6,10,11]⟩,(s [a 3 2 0,a 4 1 1,a 5 5 2,u 6 1,k 7 0] (.seq (s [h 13 2 3,c 14 55 [.t 13],w 15 14,m 16 15,z 17 16 (j 2 3),z 18 16 (j 1 4),z 19 16 (.call false 56 [.t 17,.t 18]),z 20 16 (.not (.t 19)),x 21 (.pick
 (.t 16) (.k (.val (.bool true))) (.t 20)),m 22 21,z 23 22 (p 1 0 5),z 24 22 (r 1 23),z 25 22 (.call false 57 [.t 24,(.k (.val (.int .i64 1))),(.k (.val (.int .i64 3)))]),z 26 22 (.not (.t 25)),x 27 (.pick (.t 22) (.k (.val (.bool true)))
 (.t 26))] (.cond 27 (s [h 28 1 4,c 29 58 [.t 28],t 6 1 29,k 7 1] .ret) .skip)) (s [f 31 1 5,f 35 2 5,h 30 1 4,l 32 31,x 33 (.call true 59 [.t 30,.t 32]),h 34 1 4,l 36 35,x 37 (.call true 59 [.t 34,.t 36]),m 8 33,m 9 37] (.seq (s [m 38 8,
 q 39 .lss 38 0,m 40 39,z 41 40 (p 1 0 5),z 42 40 (r 1 41),z 43 40 (.bin .eql (.t 42) (.k (.val (.int .i64 3)))),z 44 40 (.mov (.t 43)),y 45 44 (.mov (.t 9)),y 46 44 (.bin .lss (.t 45) (.k (.val (.int .i64 0)))),z 47 40 (.pick (.t 44)
 (.t 46) (.k (.val (.bool false)))),x 48 (.pick (.t 40) (.k (.val (.bool true))) (.t 47))] (.cond 48 (s [h 49 1 4,c 50 58 [.t 49],t 6 1 50,k 7 2] .ret) .skip)) (.seq (s [f 51 0 5,l 52 51] (.block 0 (s [q 54 .eql 52 2,m 53 54] (.cond 53
 (s [h 55 2 3,h 56 1 4,m 57 8,e 58 4 1 5,h 59 1 58,c 60 60 [.t 55,.t 56,.t 57,.t 59],v 61 60 0,v 62 60 1,t 6 1 61,m 7 62] .ret) (s [q 64 .eql 52 3,m 63 64] (.cond 63 (s [h 65 2 3,h 66 1 4,m 67 8,m 68 9,c 69 61 [.t 65,.t 66,.t 67,.t 68],
 v 70 69 0,v 71 69 1,t 6 1 70,m 7 71] .ret) .skip)))))) (s [h 72 1 4,c 73 58 [.t 72],u 10 1,t 10 1 73] (.seq (s [f 76 0 4,m 78 8,u 11 6,h 75 2 3,l 77 76,i 79 6 77 78,f 80 4 79,l 81 80,x 82 (.call true 62 [.t 75,.t 81]),m 74 82,v 83 74 0,
 v 84 74 1,t 11 6 83,m 12 84] (s [f 85 3 11,l 86 85,w 87 86,m 88 87,z 89 88 (p 1 3 5),z 90 88 (r 1 89),z 91 88 (.call false 57 [.t 90,(.k (.val (.int .i64 (-1000000)))),(.k (.val (.int .i64 1000000)))]),z 92 88 (.not (.t 91)),x 93 (.pick
 (.t 88) (.k (.val (.bool true))) (.t 92))] (.cond 93 (s [h 94 1 10,t 6 1 94,k 7 7] .ret) .skip))) (s [f 95 0 10,l 96 95,m 97 8,f 98 3 5,l 99 98,i 100 6 96 97,f 101 3 100,(.mk none none (.store 1 (.t 101) (.t 99)))] (s [h 102 1 10,
 t 6 1 102,k 7 0] .ret))))))))),[(.c 6 1 true),.t 7]⟩
theorem i16:iF 16 g16:=jF Tryz.func16
def g17:GFun:=⟨⟨75,[3,4,5,6]⟩,(s [a 3 2 0,a 4 1 1,a 5 5 2,u 6 1,k 7 0] (.seq (s [h 10 2 3,c 11 63 [.t 10],w 12 11,m 13 12,z 14 13 (j 2 3),z 15 13 (j 1 4),z 16 13 (.call false 19 [.t 14,.t 15]),z 17 13 (.not (.t 16)),x 18 (.pick
 (.t 13) (.k (.val (.bool true))) (.t 17)),m 19 18,z 20 19 (p 1 0 5),z 21 19 (r 1 20),z 22 19 (.call false 64 [.t 21,(.k (.val (.int .i64 1))),(.k (.val (.int .i64 3)))]),z 23 19 (.not (.t 22)),x 24 (.pick (.t 19) (.k (.val (.bool true)))
 (.t 23))] (.cond 24 (s [h 25 1 4,c 26 65 [.t 25],t 6 1 26,k 7 1] .ret) .skip)) (s [h 27 1 4,f 28 1 5,l 29 28,c 30 20 [.t 27,.t 29],m 8 30] (s [h 31 1 4,f 32 2 5,l 33 32,c 34 20 [.t 31,.t 33],m 9 34] (.seq (s [m 35 8,q 36 .lss 35 0,m 37 36,
 z 38 37 (p 1 0 5),z 39 37 (r 1 38),z 40 37 (.bin .eql (.t 39) (.k (.val (.int .i64 3)))),z 41 37 (.mov (.t 40)),y 42 41 (.mov (.t 9)),y 43 41 (.bin .lss (.t 42) (.k (.val (.int .i64 0)))),z 44 37 (.pick (.t 41) (.t 43) (.k (.val
 (.bool false)))),x 45 (.pick (.t 37) (.k (.val (.bool true))) (.t 44))] (.cond 45 (s [h 46 1 4,c 47 65 [.t 46],t 6 1 47,k 7 2] .ret) .skip)) (.seq (s [f 48 0 5,l 49 48] (.block 0 (s [q 51 .eql 49 1,m 50 51] (.cond 50 (s [h 52 2 3,h 53 1 4,
 m 54 8,h 55 5 5,c 56 66 [.t 52,.t 53,.t 54,.t 55],v 57 56 0,v 58 56 1,t 6 1 57,m 7 58] .ret) (s [q 60 .eql 49 2,m 59 60] (.cond 59 (s [h 61 2 3,h 62 1 4,m 63 8,h 64 5 5,c 65 67 [.t 61,.t 62,.t 63,.t 64],v 66 65 0,v 67 65 1,t 6 1 66,
 m 7 67] .ret) .skip)))))) (s [h 68 2 3,h 69 1 4,m 70 8,m 71 9,c 72 68 [.t 68,.t 69,.t 70,.t 71],v 73 72 0,v 74 72 1,t 6 1 73,m 7 74] .ret))))))),[(.c 6 1 true),.t 7]⟩
theorem i17:iF 17 g17:=jF Tryz.func17
def g18:GFun:=⟨⟨8,[2,3]⟩,(s [a 2 1 0,a 3 1 1,b 4 false] (s [h 5 1 2,h 6 1 3,c 7 69 [.t 5,.t 6,(.k (.val (.bool true)))],m 4 7] .ret)),[.t 4]⟩
theorem i18:iF 18 g18:=jF Tryz.func18
def g19:GFun:=⟨⟨10,[2,3]⟩,(s [a 2 2 0,a 3 1 1,b 4 false] (s [h 5 2 2,h 6 1 3,h 7 2 2,x 8 (.call true 70 [.t 7]),x 9 (.call true 29 [.t 5,.t 6,.t 8]),m 4 9] .ret)),[.t 4]⟩
theorem i19:iF 19 g19:=jF Tryz.func19
def g20:GFun:=⟨⟨22,[2]⟩,(s [a 2 1 0,k 4 0] (.seq (s [k 5 0] (B 0 (.seq (s [m 6 5,f 7 0 2,l 8 7,n 9 8,o 10 .lss 6 9] (.cond 10 .skip (.exit 0))) (.seq (.block 1 (s [f 13 0 2,l 14 13,m 15 5,i 16 6 14 15,f 17 0 16,l 18 17,m 19 1,
 o 20 .eql 18 19] (.cond 20 (s [m 21 5,m 4 21] .ret) .skip))) (.reg [m 11 5,q 12 .add 11 1,m 5 12]))))) (s [k 4 (-1)] .ret))),[.t 4]⟩
theorem i20:iF 20 g20:=jF Tryz.func20
def g21:GFun:=⟨⟨35,[2]⟩,(s [a 2 1 0,k 4 0] (.seq (s [m 6 1,f 7 0 2,l 8 7,n 9 8,q 10 .sub 9 1,c 11 64 [.t 6,(.k (.val (.int .i64 0))),.t 10],w 12 11] (.cond 12 (s [k 4 0] .ret) .skip)) (s [m 13 1,q 14 .add 13 1,m 5 14] (.seq (B 0 (.seq
 (s [m 15 5,f 16 0 2,l 17 16,n 18 17,o 19 .lss 15 18,m 20 19,y 21 20 (p 1 0 2),y 22 20 (r 1 21),y 23 20 (.mov (.t 5)),y 24 20 (.iaddr 6 (.t 22) (.t 23)),y 25 20 (p 1 1 24),y 26 20 (r 1 25),y 27 20 (.mov (.t 1)),y 28 20 (.bin .geq (.t 26)
 (.t 27)),x 29 (.pick (.t 20) (.t 28) (.k (.val (.bool false))))] (.cond 29 .skip (.exit 0))) (.block 1 (.reg [m 30 5,q 31 .add 30 1,m 5 31])))) (s [m 32 5,m 33 1,o 34 .sub 32 33,m 4 34] .ret))))),[.t 4]⟩
theorem i21:iF 21 g21:=jF Tryz.func21
def g22:GFun:=⟨⟨20,[]⟩,(s [k 4 0] (.seq (s [m 5 1,m 6 0,n 7 6,o 8 .lss 5 7] (.cond 8 (s [m 9 0,m 10 1,i 11 1 9 10,l 12 11,x 13 (.conv .i64 (.t 12)),m 4 13] .ret) .skip)) (s [m 14 1,q 15 .mul 14 7,m 16 0,n 17 16,o 18 .add 15 17,
 q 19 .rem 18 256,m 4 19] .ret))),[.t 4]⟩
theorem i22:iF 22 g22:=jF Tryz.func22
def g23:GFun:=⟨⟨23,[2,3,6,7]⟩,(s [u 2 2,u 3 1,x 4 (.mov (.k (.val (.slice none 0 0))))] (s [m 8 0,c 9 39 [.t 8],m 5 9] (s [m 10 5,m 11 5,c 12 41 [.t 11,(.k (.val (.int .i64 2)))],c 13 51 [.t 10,.t 12],u 6 2,t 6 2 13] (s [m 14 5,
 h 15 2 6,c 16 52 [.t 14,.t 15],u 7 1,t 7 1 16] (s [m 19 5,h 17 2 6,h 18 1 7,h 20 2 6,h 21 1 7,x 22 (.calla 71 [.t 19,.t 20,.t 21,(.k (.val (.int .i64 4)))]),t 2 2 17,t 3 1 18,m 4 22] .ret))))),[(.c 2 2 true),(.c 3 1 true),.t 4]⟩
theorem i23:iF 23 g23:=jF Tryz.func23 [(4,2064)]
def g24:GFun:=⟨⟨38,[3,4,6,11,12]⟩,(s [a 3 2 0,a 4 1 1,u 6 1,x 7 (.mov (.k (.val (.slice none 0 0))))] (s [h 14 1 4,c 15 58 [.t 14],x 16 (.bslice 1 [] 0 false []),x 8 (.alloc 1 (.agg [(.val (.slice none 0 0))])),(.mk none none
 (.store 1 (.t 8) (.t 15))),m 9 16] (.seq (s [m 17 2,n 18 17,k 19 0] (B 0 (s [o 20 .lss 19 18] (C 20 0 (.seq (.block 1 (s [i 21 5 17 19,h 22 5 21,u 11 5,t 11 5 22] (s [h 24 2 3,h 25 1 8,h 26 5 11,c 27 16 [.t 24,.t 25,.t 26],m 23 27,
 v 28 23 0,v 29 23 1,u 12 1,t 12 1 28,m 13 29] (.reg [x 30 (.loadr 1 true (.t 12)),m 31 9,m 32 13,x 33 (.bslice 1 [] 1 false [(0,(.t 32))]),x 34 (.append 1 8 (.t 31) (.t 33)),(.mk none none (.store 1 (.t 8) (.t 30))),m 9 34]))))
 (.reg [q 35 .add 19 1,m 19 35])))))) (s [h 36 1 8,m 37 9,t 6 1 36,m 7 37] .ret)))),[(.c 6 1 true),.t 7]⟩
theorem i24:iF 24 g24:=jF Tryz.func24
def g25:GFun:=⟨⟨39,[3,4,6,11]⟩,(s [a 3 2 0,a 4 1 1,u 6 1,x 7 (.mov (.k (.val (.slice none 0 0))))] (s [h 13 1 4,c 14 65 [.t 13],x 8 (.alloc 1 (.agg [(.val (.slice none 0 0))])),(.mk none none (.store 1 (.t 8) (.t 14)))] (s [x 15
 (.bslice 1 [] 0 false []),m 9 15] (.seq (s [k 10 0] (B 0 (.seq (s [m 16 10,m 17 2,n 18 17,o 19 .lss 16 18] (.cond 19 .skip (.exit 0))) (.seq (.block 1 (s [m 25 2,m 26 10,i 27 5 25 26,u 11 1,h 23 2 3,h 24 1 8,h 28 5 27,x 29
 (.calla 17 [.t 23,.t 24,.t 28]),m 22 29,v 30 22 0,v 31 22 1,t 11 1 30,m 12 31] (s [h 32 1 11,(.mk none none (.store 1 (.t 8) (.t 32)))] (.reg [m 33 9,m 34 12,x 35 (.bslice 1 [] 1 false [(0,(.t 34))]),x 36 (.append 1 8 (.t 33) (.t 35)),
 m 9 36])))) (.reg [m 20 10,q 21 .add 20 1,m 10 21]))))) (s [h 37 1 8,m 38 9,t 6 1 37,m 7 38] .ret))))),[(.c 6 1 true),.t 7]⟩
theorem i25:iF 25 g25:=jF Tryz.func25 [(6,8208)]
def g29:GFun:=⟨⟨19,[3,4]⟩,(s [a 3 2 0,a 4 1 1,b 6 false] (s [h 7 1 4,x 8 (.call true 74 [.t 7]),m 9 8,y 12 9 (.mov (.t 2)),y 14 9 (p 1 0 4),y 10 9 (j 2 3),y 11 9 (j 1 4),y 13 9 (.call true 75 [.t 10,.t 11,(.k (.val (.int .i64 0))),(.k
 (.val (.int .i64 (-1)))),(.k (.val (.int .i64 0))),.t 12]),y 15 9 (r 1 14),y 16 9 (.len (.t 15)),y 17 9 (.bin .eql (.t 13) (.t 16)),x 18 (.pick (.t 9) (.t 17) (.k (.val (.bool false)))),m 6 18] .ret)),[.t 6]⟩
theorem i29:iF 29 g29:=jF Tryz.func29
def g30:GFun:=⟨⟨29,[3,4,7]⟩,(s [a 3 2 0,a 4 1 1,x 6 (.mov (.k (.val (.string (ByteArray.mk #[])))))] (.seq (s [m 9 2,f 10 0 4,l 11 10,n 12 11,q 13 .sub 12 1,c 14 64 [.t 9,(.k (.val (.int .i64 0))),.t 13],w 15 14] (.cond 15 (s [x 6
 (.mov (.k (.val (.string (ByteArray.mk #[])))))] .ret) .skip)) (s [f 18 0 4,m 20 2,u 7 6,h 17 2 3,l 19 18,i 21 6 19 20,f 22 4 21,l 23 22,x 24 (.call true 76 [.t 17,.t 23]),m 16 24,v 25 16 0,v 26 16 1,t 7 6 25,m 8 26] (s [f 27 1 7,l 28 27,
 m 6 28] .ret)))),[.t 6]⟩
theorem i30:iF 30 g30:=jF Tryz.func30
def g33:GFun:=⟨⟨14,[]⟩,(s [b 4 false] (s [m 5 1,c 6 64 [.t 5,(.k (.val (.int .i64 1))),(.k (.val (.int .i64 4)))],m 7 6,y 8 7 (.mov (.t 0)),y 9 7 (.mov (.t 1)),y 10 7 (.call false 80 [.t 8,.t 9]),y 11 7 (.mov (.t 0)),y 12 7 (.bin .eql
 (.t 10) (.t 11)),x 13 (.pick (.t 7) (.t 12) (.k (.val (.bool false)))),m 4 13] .ret)),[.t 4]⟩
theorem i33:iF 33 g33:=jF Tryz.func33
def g39:GFun:=⟨⟨32,[]⟩,(s [x 2 (.mov (.k (.val (.pointer none))))] (s [m 5 0,n 6 5,x 7 (.bin .add (.k (.val (.int .i64 26583))) (.t 6)),m 3 7] (.seq (s [k 4 0] (B 0 (.seq (s [m 8 4,m 9 0,n 10 9,o 11 .lss 8 10,m 12 11,y 13 12 (.mov
 (.t 4)),y 14 12 (.bin .lss (.t 13) (.k (.val (.int .i64 4000)))),x 15 (.pick (.t 12) (.t 14) (.k (.val (.bool false))))] (.cond 15 .skip (.exit 0))) (.seq (.block 1 (.reg [m 18 3,q 19 .mul 18 131,m 20 0,m 21 4,i 22 1 20 21,l 23 22,x 24
 (.conv .i64 (.t 23)),o 25 .add 19 24,q 26 .add 25 7,q 27 .and 26 1073741823,m 3 27])) (.reg [m 16 4,q 17 .add 16 1,m 4 17]))))) (s [m 28 0,m 29 3,x 30 (.build [(.val (.slice none 0 0)),(.val (.int .i64 0)),(.val (.int .i64 0))] [(0,(1,
 (.t 28))),(2,(1,(.t 29)))]),x 31 (.box 3 (.t 30)),m 2 31] .ret)))),[.t 2]⟩
theorem i39:iF 39 g39:=jF Tryz.func39
def g41:GFun:=⟨⟨9,[]⟩,(s [b 4 false] (s [m 5 0,m 6 1,c 7 42 [.t 5,.t 6],q 8 .eql 7 0,m 4 8] .ret)),[.t 4]⟩
theorem i41:iF 41 g41:=jF Tryz.func41
def g42:GFun:=⟨⟨37,[]⟩,(s [k 4 0] (.seq (s [m 9 1,q 10 .leq 9 0] (.cond 10 (s [k 4 0] .ret) .skip)) (.seq (s [m 11 1,q 12 .leq 11 256] (.cond 12 (s [m 13 0,c 14 86 [.t 13],m 15 1,o 16 .rem 14 15,m 4 16] .ret) .skip)) (s [m 17 0,
 c 18 86 [.t 17],m 5 18] (s [m 19 0,c 20 86 [.t 19],m 6 20] (s [m 21 0,c 22 86 [.t 21],m 7 22] (s [m 23 0,c 24 86 [.t 23],m 8 24] (s [m 25 5,q 26 .mul 25 16777216,m 27 6,q 28 .mul 27 65536,o 29 .add 26 28,m 30 7,q 31 .mul 30 256,
 o 32 .add 29 31,m 33 8,o 34 .add 32 33,m 35 1,o 36 .rem 34 35,m 4 36] .ret)))))))),[.t 4]⟩
theorem i42:iF 42 g42:=jF Tryz.func42
def g51:GFun:=⟨⟨154,[4,1000012,3000020]⟩,(s [u 4 2] (s [x 16 (.build [(.val (.slice none 0 0)),(.val (.slice none 0 0))] []),x 5 (.alloc 2 (.agg [(.val (.slice none 0 0)),(.val (.slice none 0 0))])),(.mk none none (.store 2 (.t 5)
 (.t 16)))] (s [m 17 0,c 18 42 [.t 17,(.k (.val (.int .i64 3)))],x 19 (.bin .add (.k (.val (.int .i64 1))) (.t 18)),m 6 19] (s [x 20 (.bslro 1 [] 3 false [(0,(.k (.val (.string (ByteArray.mk #[115]))))),(1,(.k (.val (.string
 (ByteArray.mk #[116]))))),(2,(.k (.val (.string (ByteArray.mk #[117])))))]),m 21 6,x 22 (.slc 1 (.t 20) none (some (.t 21))),m 7 22] (.seq (s [k 8 0] (B 0 (.seq (s [m 23 8,m 24 6,o 25 .lss 23 24] (.cond 25 .skip (.exit 0))) (.seq
 (.block 1 (.reg [f 28 0 5,m 30 0,m 31 7,m 32 8,i 33 1 31 32,m 35 8,q 36 .eql 35 0,m 37 1,l 29 28,l 34 33,x 38 (.calla 104 [.t 30,.t 34,.t 36,.t 37]),x 39 (.bslice 2 [] 1 true [(0,(.t 38))]),x 40 (.append 2 40 (.t 29) (.t 39)),f 41 0 5,
 (.mk none none (.store 1 (.t 41) (.t 40)))])) (.reg [m 26 8,q 27 .add 26 1,m 8 27]))))) (.seq (s [k 9 0] (B 2 (.seq (s [m 42 9,m 43 6,o 44 .lss 42 43] (.cond 44 .skip (.exit 2))) (.seq (.block 3 (s [f 47 1 5,m 49 7,m 50 9,i 51 1 49 50,
 m 54 7,m 55 9,i 56 1 54 55,m 58 0,l 48 47,l 52 51,x 53 (.bin .add (.k (.val (.string (ByteArray.mk #[108,101,97,102])))) (.t 52)),l 57 56,x 59 (.calla 41 [.t 58,(.k (.val (.int .i64 3)))]),w 60 59,x 61 (.build [(.val (.string
 (ByteArray.mk #[]))),(.val (.string (ByteArray.mk #[]))),(.val (.slice none 0 0)),(.val (.bool false)),(.val (.slice none 0 0)),(.val (.slice none 0 0))] [(0,(1,(.t 53))),(1,(1,(.t 57))),(3,(1,(.t 60)))]),x 62 (.bslice 6 [] 1 true [(0,
 (.t 61))]),x 63 (.append 6 112 (.t 48) (.t 62)),f 64 1 5,(.mk none none (.store 1 (.t 64) (.t 63)))] (s [m 65 0,c 66 42 [.t 65,(.k (.val (.int .i64 2)))],x 67 (.bin .add (.k (.val (.int .i64 1))) (.t 66)),m 10 67] (s [k 11 0] (B 4 (.seq
 (s [m 68 11,m 69 10,o 70 .lss 68 69] (.cond 70 .skip (.exit 4))) (.seq (.block 5 (s [m 73 7,m 74 9,i 75 1 73 74,m 78 11,m 81 7,m 82 9,i 83 1 81 82,m 85 0,u 12 6,l 76 75,x 77 (.bin .add (.k (.val (.string (ByteArray.mk #[112])))) (.t 76)),
 x 79 (.call true 105 [.t 78]),o 80 .add 77 79,l 84 83,x 86 (.calla 41 [.t 85,(.k (.val (.int .i64 4)))]),x 87 (.build [(.val (.string (ByteArray.mk #[]))),(.val (.string (ByteArray.mk #[]))),(.val (.slice none 0 0)),(.val (.bool false)),
 (.val (.slice none 0 0)),(.val (.slice none 0 0))] [(0,(1,(.t 80))),(1,(1,(.t 84))),(3,(1,(.t 86)))]),x 12 (.strb 6 12 (.t 87))] (s [m 88 0,c 89 42 [.t 88,(.k (.val (.int .i64 3)))],x 90 (.bin .add (.k (.val (.int .i64 1))) (.t 89)),
 m 13 90] (.seq (s [k 14 0] (B 6 (.seq (s [m 91 14,m 92 13,o 93 .lss 91 92] (.cond 93 .skip (.exit 6))) (.seq (.block 7 (.reg [f 96 2 12,m 98 0,m 99 7,l 97 96,x 100 (.calla 106 [.t 98,.t 99]),x 101 (.bslice 1 [] 1 false [(0,(.t 100))]),
 x 102 (.append 1 16 (.t 97) (.t 101)),f 103 2 12,(.mk none none (.store 1 (.t 103) (.t 102)))])) (.reg [m 94 14,q 95 .add 94 1,m 14 95]))))) (.reg [f 104 1 5,l 105 104,h 106 6 12,x 107 (.bslice 6 [] 1 true [(0,(.t 106))]),x 108
 (.append 6 112 (.t 105) (.t 107)),f 109 1 5,(.mk none none (.store 1 (.t 109) (.t 108)))]))))) (.reg [m 71 11,q 72 .add 71 1,m 11 72])))))))) (.reg [m 45 9,q 46 .add 45 1,m 9 46]))))) (.seq (s [f 110 1 5,l 111 110,n 112 111,
 q 113 .gtr 112 8] (.cond 113 (.reg [f 114 1 5,l 115 114,x 116 (.slc 6 (.t 115) none (some (.k (.val (.int .i64 8))))),f 117 1 5,(.mk none none (.store 1 (.t 117) (.t 116)))]) .skip)) (.seq (s [k 15 0] (B 8 (.seq (s [m 118 15,f 119 1 5,
 l 120 119,n 121 120,o 122 .lss 118 121] (.cond 122 .skip (.exit 8))) (.seq (.block 9 (s [f 125 1 5,m 127 15,m 128 0,f 130 1 5,m 132 15,m 135 1,w 136 135,l 126 125,h 129 2 5,l 131 130,i 133 6 131 132,h 134 6 133,x 137 (.calla 107 [.t 128,
 .t 129,.t 134,.t 136]),i 138 6 126 127,(.mk none none (.store 6 (.t 138) (.t 137)))] (s [m 139 1,w 140 139] (.cond 140 (.reg [f 141 1 5,m 143 15,m 144 0,f 146 1 5,m 148 15,l 142 141,h 145 2 5,l 147 146,i 149 6 147 148,h 150 6 149,x 151
 (.calla 108 [.t 144,.t 145,.t 150]),i 152 6 142 143,(.mk none none (.store 6 (.t 152) (.t 151)))]) .skip)))) (.reg [m 123 15,q 124 .add 123 1,m 15 124]))))) (s [h 153 2 5,t 4 2 153] .ret))))))))),[(.c 4 2 true)]⟩
theorem i51:iF 51 g51:=jF Tryz.func51 [(7,2097168),(11,33554448),(16,134217744),(21,528),(28,33554448),(30,2097168)]
def g52:GFun:=⟨⟨53,[3,4,1000005]⟩,(s [a 3 2 1,u 4 1] (s [m 7 0,m 11 0,m 14 0,u 5 1,h 8 2 3,h 9 2 3,x 10 (.call true 70 [.t 9]),x 12 (.calla 42 [.t 11,(.k (.val (.int .i64 12)))]),x 13 (.bin .add (.k (.val (.int .i64 6))) (.t 12)),x 15
 (.calla 42 [.t 14,(.k (.val (.int .i64 3)))]),q 16 .mul 15 10,x 17 (.bin .add (.k (.val (.int .i64 1))) (.t 16)),x 18 (.calla 109 [.t 7,.t 8,.t 10,.t 13,.t 17]),x 5 (.strb 1 5 (.t 18))] (.seq (s [f 19 0 5,l 20 19,n 21 20,q 22 .gtr 21 16]
 (.cond 22 (.reg [m 23 0,h 24 2 3,h 25 2 3,x 26 (.call true 70 [.t 25]),x 27 (.calla 109 [.t 23,.t 24,.t 26,(.k (.val (.int .i64 1))),(.k (.val (.int .i64 1)))]),x 5 (.strb 1 5 (.t 27))]) .skip)) (.seq (s [m 28 0,c 29 41 [.t 28,(.k (.val
 (.int .i64 3)))]] (.cond 29 (s [k 6 0] (B 0 (.seq (s [m 30 6,f 31 0 5,l 32 31,n 33 32,o 34 .lss 30 33] (.cond 34 .skip (.exit 0))) (.seq (.block 1 (.reg [f 37 0 5,m 39 6,f 40 0 5,m 42 6,l 38 37,l 41 40,i 43 6 41 42,f 44 0 43,l 45 44,
 q 46 .mul 45 7,q 47 .add 46 3,q 48 .rem 47 97,q 49 .add 48 1,i 50 6 38 39,f 51 0 50,(.mk none none (.store 1 (.t 51) (.t 49)))])) (.reg [m 35 6,q 36 .add 35 1,m 6 36]))))) .skip)) (s [h 52 1 5,t 4 1 52] .ret))))),[(.c 4 1 true)]⟩
theorem i52:iF 52 g52:=jF Tryz.func52 [(1,8521744),(3,528)]
def g53:GFun:=⟨⟨180,[4,5,6,10,13]⟩,(s [a 4 2 1,a 5 1 2,u 6 5] (s [m 15 0,c 16 42 [.t 15,(.k (.val (.int .i64 3)))],x 17 (.bin .add (.k (.val (.int .i64 1))) (.t 16)),m 18 0,c 19 42 [.t 18,(.k (.val (.int .i64 12)))],q 20 .sub 19 3,
 x 21 (.build [(.val (.int .i64 0)),(.val (.int .i64 0)),(.val (.int .i64 0)),(.val (.int .i64 0)),(.val (.slice none 0 0))] [(0,(1,(.t 17))),(3,(1,(.t 20)))]),x 7 (.alloc 5 (.agg [(.val (.int .i64 0)),(.val (.int .i64 0)),(.val
 (.int .i64 0)),(.val (.int .i64 0)),(.val (.slice none 0 0))])),(.mk none none (.store 5 (.t 7) (.t 21)))] (s [m 22 0,f 23 0 5,l 24 23,n 25 24,c 26 42 [.t 22,.t 25],m 8 26] (s [f 27 0 5,l 28 27,m 29 8,i 30 6 28 29,f 31 0 30,l 32 31,
 f 33 1 7,(.mk none none (.store 1 (.t 33) (.t 32)))] (.seq (s [f 34 0 7,l 35 34] (.block 0 (s [q 37 .eql 35 1,m 36 37] (.cond 36 (.seq (s [k 9 0] (B 1 (.seq (s [m 38 9,f 39 0 5,l 40 39,n 41 40,o 42 .lss 38 41] (.cond 42 .skip (.exit 1)))
 (.seq (.block 2 (s [f 47 0 5,m 49 8,m 50 9,o 51 .add 49 50,f 52 0 5,u 10 6,h 46 2 4,l 48 47,l 53 52,n 54 53,o 55 .rem 51 54,i 56 6 48 55,f 57 4 56,l 58 57,x 59 (.call true 76 [.t 46,.t 58]),m 45 59,v 60 45 0,v 61 45 1,t 10 6 60,m 11 61]
 (s [f 62 3 10,l 63 62,m 64 63,y 65 64 (.mov (.t 0)),y 66 64 (.call false 41 [.t 65,(.k (.val (.int .i64 12)))]),y 67 64 (.not (.t 66)),x 68 (.pick (.t 64) (.t 67) (.k (.val (.bool false))))] (.cond 68 (s [f 69 0 5,m 71 8,m 72 9,
 o 73 .add 71 72,f 74 0 5,l 70 69,l 75 74,n 76 75,o 77 .rem 73 76,i 78 6 70 77,f 79 0 78,l 80 79,f 81 1 7,(.mk none none (.store 1 (.t 81) (.t 80)))] (.exit 1)) .skip)))) (.reg [m 43 9,q 44 .add 43 1,m 9 44]))))) (s [m 82 0,c 83 41 [.t 82,
 (.k (.val (.int .i64 20)))]] (.cond 83 (.reg [f 84 3 7,(.mk none none (.store 1 (.t 84) (.k (.val (.int .i64 1000001)))))]) .skip))) (s [q 86 .eql 35 2,m 85 86] (.cond 85 (s [f 87 3 7,(.mk none none (.store 1 (.t 87) (.k (.val
 (.int .i64 0)))))] (s [m 88 0,m 92 8,m 94 0,m 97 0,h 89 2 4,h 90 2 4,h 91 1 5,x 93 (.call true 30 [.t 90,.t 91,.t 92]),x 95 (.calla 42 [.t 94,(.k (.val (.int .i64 6)))]),x 96 (.bin .add (.k (.val (.int .i64 4))) (.t 95)),x 98
 (.calla 42 [.t 97,(.k (.val (.int .i64 9)))]),q 99 .mul 98 20,x 100 (.bin .add (.k (.val (.int .i64 100))) (.t 99)),x 101 (.calla 109 [.t 88,.t 89,.t 93,.t 96,.t 100]),e 102 4 1 7,(.mk none none (.store 1 (.t 102) (.t 101)))] (s [m 103 0,
 c 104 41 [.t 103,(.k (.val (.int .i64 12)))]] (.cond 104 (.reg [m 105 0,f 109 0 5,h 106 2 4,h 107 2 4,x 108 (.call true 70 [.t 107]),l 110 109,x 111 (.iaddr 6 (.t 110) (.k (.val (.int .i64 0)))),f 112 0 111,l 113 112,x 114
 (.calla 109 [.t 105,.t 106,.t 108,(.k (.val (.int .i64 3))),.t 113]),e 115 4 1 7,(.mk none none (.store 1 (.t 115) (.t 114)))]) .skip)))) (s [q 117 .eql 35 3,m 116 117] (.cond 116 (s [f 118 3 7,(.mk none none (.store 1 (.t 118) (.k (.val
 (.int .i64 0)))))] (s [f 119 0 5,m 121 0,f 122 0 5,l 120 119,l 123 122,n 124 123,x 125 (.calla 42 [.t 121,.t 124]),i 126 6 120 125,f 127 0 126,l 128 127,f 129 2 7,(.mk none none (.store 1 (.t 129) (.t 128)))] (s [k 12 0] (B 3 (.seq
 (s [m 130 12,f 131 0 5,l 132 131,n 133 132,o 134 .lss 130 133] (.cond 134 .skip (.exit 3))) (.seq (.block 4 (s [m 140 8,m 141 8,m 142 12,o 143 .add 141 142,f 144 0 5,u 13 1,h 138 2 4,h 139 1 5,l 145 144,n 146 145,o 147 .rem 143 146,x 148
 (.call true 68 [.t 138,.t 139,.t 140,.t 147]),m 137 148,v 149 137 0,v 150 137 1,t 13 1 149,m 14 150] (s [m 151 14,q 152 .eql 151 0,m 153 152,y 154 153 (.mov (.t 0)),y 155 153 (.call false 41 [.t 154,(.k (.val (.int .i64 6)))]),y 156 153
 (.not (.t 155)),x 157 (.pick (.t 153) (.t 156) (.k (.val (.bool false))))] (.cond 157 (s [f 158 0 5,m 160 8,m 161 12,o 162 .add 160 161,f 163 0 5,l 159 158,l 164 163,n 165 164,o 166 .rem 162 165,i 167 6 159 166,f 168 0 167,l 169 168,
 f 170 2 7,(.mk none none (.store 1 (.t 170) (.t 169)))] (.exit 3)) .skip)))) (.reg [m 135 12,q 136 .add 135 1,m 12 136]))))))) .skip)))))))) (.seq (s [m 171 0,c 172 41 [.t 171,(.k (.val (.int .i64 24)))]] (.cond 172 (.reg [f 173 1 7,
 (.mk none none (.store 1 (.t 173) (.k (.val (.int .i64 500)))))]) .skip)) (.seq (s [m 174 0,c 175 41 [.t 174,(.k (.val (.int .i64 24)))]] (.cond 175 (.reg [m 176 0,c 177 42 [.t 176,(.k (.val (.int .i64 6)))],f 178 0 7,(.mk none none
 (.store 1 (.t 178) (.t 177)))]) .skip)) (s [h 179 5 7,t 6 5 179] .ret)))))))),[(.c 6 5 true)]⟩
theorem i53:iF 53 g53:=jF Tryz.func53 [(16,136347664),(18,524304),(21,8208)]
def g54:GFun:=⟨⟨97,[3,4,3000028,3000038,3000058,4074005,5065005]⟩,(s [a 3 2 1,u 4 1] (s [m 7 0,h 8 2 3,c 9 52 [.t 7,.t 8],x 5 (.alloc 1 (.agg [(.val (.slice none 0 0))])),(.mk none none (.store 1 (.t 5) (.t 9)))] (s [m 10 0,f 11 0 5,
 l 12 11,n 13 12,c 14 42 [.t 10,.t 13],m 6 14] (.seq (s [m 15 0,c 16 42 [.t 15,(.k (.val (.int .i64 14)))]] (.block 0 (s [q 18 .eql 16 0,m 17 18] (.cond 17 (.reg [f 19 0 5,m 21 6,m 22 0,f 23 0 5,l 20 19,l 24 23,x 25 (.iaddr 6 (.t 24) (.k
 (.val (.int .i64 0)))),f 26 0 25,l 27 26,x 28 (.bslro 1 [] 4 false [(0,(.k (.val (.int .i64 0)))),(1,(.k (.val (.int .i64 1)))),(2,(.k (.val (.int .i64 1000)))),(3,(.t 27))]),x 29 (.calla 110 [.t 22,.t 28]),i 30 6 20 21,f 31 0 30,
 (.mk none none (.store 1 (.t 31) (.t 29)))]) (s [q 33 .eql 16 1,m 32 33] (.cond 32 (.reg [f 34 0 5,m 36 6,m 37 0,x 38 (.bslro 1 [] 2 false [(0,(.k (.val (.int .i64 1000001)))),(1,(.k (.val (.int .i64 5))))]),l 35 34,x 39
 (.calla 110 [.t 37,.t 38]),i 40 6 35 36,f 41 3 40,(.mk none none (.store 1 (.t 41) (.t 39)))]) (s [q 43 .eql 16 2,m 42 43] (.cond 42 (.reg [f 44 0 5,m 46 6,m 47 0,l 45 44,x 48 (.calla 42 [.t 47,(.k (.val (.int .i64 5)))]),q 49 .sub 48 1,
 i 50 6 45 46,f 51 1 50,(.mk none none (.store 1 (.t 51) (.t 49)))]) (s [q 53 .eql 16 3,m 52 53] (.cond 52 (.reg [f 54 0 5,m 56 6,m 57 0,x 58 (.bslro 1 [] 4 false [(0,(.k (.val (.string (ByteArray.mk #[108,101,97,102,115]))))),(1,(.k
 (.val (.string (ByteArray.mk #[112,115,48]))))),(2,(.k (.val (.string (ByteArray.mk #[108,101,97,102,116]))))),(3,(.k (.val (.string (ByteArray.mk #[122,122])))))]),l 55 54,x 59 (.calla 106 [.t 57,.t 58]),i 60 6 55 56,f 61 4 60,
 (.mk none none (.store 1 (.t 61) (.t 59)))]) (s [q 63 .eql 16 4,m 62 63] (.cond 62 (.reg [f 64 0 5,m 66 6,f 67 0 5,m 69 6,x 65 (.ldx 1 false 64 5),l 68 67,i 70 6 68 69,f 71 5 70,l 72 71,x 73 (.bslice 1 [] 1 false [(0,(.k (.val
 (.int .i64 1))))]),x 74 (.appx [5] 1 8 (.t 72) (.t 73)),i 75 6 65 66,f 76 5 75,(.mk none none (.store 1 (.t 76) (.t 74)))]) (s [q 78 .eql 16 5,m 77 78] (.cond 77 (.reg [f 79 0 5,f 81 0 5,m 83 6,l 80 79,l 82 81,i 84 6 82 83,h 85 6 84,x 86
 (.bslice 6 [] 1 true [(0,(.t 85))]),x 87 (.append 6 72 (.t 80) (.t 86)),f 88 0 5,(.mk none none (.store 1 (.t 88) (.t 87)))]) (s [q 90 .eql 16 6,m 89 90] (.cond 89 (.reg [f 91 0 5,l 92 91,m 93 6,i 94 6 92 93,f 95 2 94,(.mk none none
 (.store 1 (.t 95) (.k (.val (.int .i64 1)))))]) .skip)))))))))))))))) (s [h 96 1 5,t 4 1 96] .ret))))),[(.c 4 1 true)]⟩
theorem i54:iF 54 g54:=jF Tryz.func54 [(5,2097168),(7,2064),(9,528),(11,2064)]
def g55:GFun:=⟨⟨12,[1]⟩,(s [a 1 2 0,b 2 false] (s [h 6 2 1,c 7 111 [.t 6],m 5 7,v 8 5 0,v 9 5 1,m 3 8,m 4 9] (s [m 10 3,q 11 .eql 10 0,m 2 11] .ret))),[.t 2]⟩
theorem i55:iF 55 g55:=jF Tryz.func55
def g56:GFun:=⟨⟨19,[2,3]⟩,(s [a 2 2 0,a 3 1 1,b 4 false] (s [x 5 (.mov (.k (.val (.string (ByteArray.mk #[])))))] (.seq (s [f 6 0 2,l 7 6,n 8 7,q 9 .gtr 8 0] (.cond 9 (.reg [f 10 0 2,l 11 10,x 12 (.iaddr 2 (.t 11) (.k (.val
 (.int .i64 0)))),f 13 0 12,l 14 13,m 5 14]) .skip)) (s [h 15 2 2,h 16 1 3,m 17 5,c 18 96 [.t 15,.t 16,.t 17],m 4 18] .ret)))),[.t 4]⟩
theorem i56:iF 56 g56:=jF Tryz.func56
def g57:GFun:=⟨⟨15,[]⟩,(s [b 6 false] (s [m 7 0,m 8 1,o 9 .geq 7 8,m 10 9,y 11 10 (.mov (.t 0)),y 12 10 (.mov (.t 2)),y 13 10 (.bin .leq (.t 11) (.t 12)),x 14 (.pick (.t 10) (.t 13) (.k (.val (.bool false)))),m 6 14] .ret)),[.t 6]⟩
theorem i57:iF 57 g57:=jF Tryz.func57
def g58:GFun:=⟨⟨26,[1,2]⟩,(s [a 1 1 0,u 2 1] (s [x 6 (.build [(.val (.slice none 0 0))] []),x 3 (.alloc 1 (.agg [(.val (.slice none 0 0))])),(.mk none none (.store 1 (.t 3) (.t 6)))] (.seq (s [f 7 0 1,l 8 7,n 9 8,k 10 0] (B 0
 (s [o 11 .lss 10 9] (C 11 0 (.seq (.block 1 (s [i 12 6 8 10,h 13 6 12,x 5 (.alloc 6 (.agg [(.val (.int .i64 0)),(.val (.int .i64 0)),(.val (.int .i64 0)),(.val (.int .i64 0)),(.val (.string (ByteArray.mk #[]))),(.val (.slice none 0 0))])),
 (.mk none none (.store 6 (.t 5) (.t 13)))] (s [f 14 5 5,l 15 14,c 16 112 [.t 15],f 17 5 5,(.mk none none (.store 1 (.t 17) (.t 16)))] (.reg [f 18 0 3,l 19 18,h 20 6 5,x 21 (.bslice 6 [] 1 true [(0,(.t 20))]),x 22 (.append 6 72 (.t 19)
 (.t 21)),f 23 0 3,(.mk none none (.store 1 (.t 23) (.t 22)))])))) (.reg [q 24 .add 10 1,m 10 24])))))) (s [h 25 1 3,t 2 1 25] .ret)))),[(.c 2 1 true)]⟩
theorem i58:iF 58 g58:=jF Tryz.func58
def g59:GFun:=⟨⟨9,[2,3]⟩,(s [a 2 1 0,a 3 1 1,k 4 0] (s [f 5 0 2,l 6 5,x 7 (.mkfn 114 [.t 3]),c 8 113 [.t 6,.t 7],m 4 8] .ret)),[.t 4]⟩
theorem i59:iF 59 g59:=jF Tryz.func59
def g60:GFun:=⟨⟨68,[4,5,7,8,12]⟩,(s [a 4 2 0,a 5 1 1,a 7 1 3,u 8 1,k 9 0] (.seq (s [m 17 2,h 13 2 4,h 14 1 7,h 15 2 4,h 16 1 5,x 18 (.call true 83 [.t 15,.t 16,.t 17]),x 19 (.call true 96 [.t 13,.t 14,.t 18]),w 20 19] (.cond 20
 (s [h 21 1 5,c 22 58 [.t 21],t 8 1 22,k 9 3] .ret) .skip)) (s [h 23 1 5,m 24 2,c 25 115 [.t 23,.t 24],m 10 25] (.seq (s [f 26 0 5,l 27 26,n 28 27,k 29 0] (B 0 (s [o 30 .lss 29 28] (C 30 0 (.seq (.block 1 (s [m 31 29,i 32 6 27 29,h 33 6 32,
 u 12 6,m 11 31,t 12 6 33] (s [m 34 11,m 35 2,m 36 2,m 37 10,o 38 .add 36 37,q 39 .sub 38 1,c 40 57 [.t 34,.t 35,.t 39],w 41 40,m 42 41,y 43 42 (j 1 7),y 44 42 (p 1 0 12),y 45 42 (r 1 44),y 46 42 (.call false 59 [.t 43,.t 45]),y 47 42
 (.bin .geq (.t 46) (.k (.val (.int .i64 0)))),x 48 (.pick (.t 42) (.t 47) (.k (.val (.bool false))))] (.cond 48 (s [h 49 1 5,c 50 58 [.t 49],t 8 1 50,k 9 4] .ret) .skip)))) (.reg [q 51 .add 29 1,m 29 51])))))) (.seq (s [f 52 0 5,l 53 52,
 n 54 53,m 55 10,o 56 .sub 54 55,f 57 0 7,l 58 57,n 59 58,o 60 .add 56 59,q 61 .gtr 60 16] (.cond 61 (s [h 62 1 5,c 63 58 [.t 62],t 8 1 63,k 9 5] .ret) .skip)) (s [h 64 1 5,m 65 2,h 66 1 7,c 67 116 [.t 64,.t 65,.t 66],t 8 1 67,
 k 9 0] .ret)))))),[(.c 8 1 true),.t 9]⟩
theorem i60:iF 60 g60:=jF Tryz.func60
def g61:GFun:=⟨⟨53,[4,5,8,10,11]⟩,(s [a 4 2 0,a 5 1 1,u 8 1,k 9 0] (s [m 12 2,m 13 3,x 14 (.mn (.t 12) (.t 13)),m 15 2,m 16 3,x 17 (.mx (.t 15) (.t 16)),m 2 14,m 3 17] (.seq (.block 0 (s [m 19 3,m 20 2,h 21 1 5,m 22 2,c 23 115 [.t 21,
 .t 22],o 24 .add 20 23,o 25 .lss 19 24,m 18 25] (.cond 18 (s [h 26 1 5,c 27 58 [.t 26],t 8 1 27,k 9 6] .ret) (s [m 31 2,m 35 3,h 29 2 4,h 30 1 5,x 32 (.call true 83 [.t 29,.t 30,.t 31]),h 33 2 4,h 34 1 5,x 36 (.call true 83 [.t 33,.t 34,
 .t 35]),o 37 .neq 32 36,m 28 37] (.cond 28 (s [h 38 1 5,c 39 58 [.t 38],t 8 1 39,k 9 3] .ret) .skip))))) (s [m 41 2,m 44 3,u 10 1,u 11 1,h 40 1 5,x 42 (.call true 117 [.t 40,.t 41]),h 43 1 5,x 45 (.call true 117 [.t 43,.t 44]),t 10 1 42,
 t 11 1 45] (s [m 47 3,m 50 2,h 46 1 5,h 48 1 10,x 49 (.call true 116 [.t 46,.t 47,.t 48]),h 51 1 11,x 52 (.calla 116 [.t 49,.t 50,.t 51]),t 8 1 52,k 9 0] .ret))))),[(.c 8 1 true),.t 9]⟩
theorem i61:iF 61 g61:=jF Tryz.func61 [(7,8208)]
def g62:GFun:=⟨⟨22,[2,4,7]⟩,(s [a 2 2 0,u 4 6,b 5 false] (.seq (s [f 8 1 2,l 9 8,n 10 9,k 11 0] (B 0 (s [o 12 .lss 11 10] (C 12 0 (.seq (.block 1 (s [i 13 6 9 11,h 14 6 13,u 7 6,t 7 6 14] (s [f 15 0 7,l 16 15,m 17 1,o 18 .eql 16 17]
 (.cond 18 (s [h 19 6 7,t 4 6 19,b 5 true] .ret) .skip)))) (.reg [q 20 .add 11 1,m 11 20])))))) (s [x 21 (.build [(.val (.string (ByteArray.mk #[]))),(.val (.string (ByteArray.mk #[]))),(.val (.slice none 0 0)),(.val (.bool false)),(.val
 (.slice none 0 0)),(.val (.slice none 0 0))] []),t 4 6 21,b 5 false] .ret))),[(.c 4 6 true),.t 5]⟩
theorem i62:iF 62 g62:=jF Tryz.func62
def g63:GFun:=⟨⟨12,[1]⟩,(s [a 1 2 0,b 2 false] (s [h 6 2 1,c 7 118 [.t 6],m 5 7,v 8 5 0,v 9 5 1,m 3 8,m 4 9] (s [m 10 3,q 11 .eql 10 0,m 2 11] .ret))),[.t 2]⟩
theorem i63:iF 63 g63:=jF Tryz.func63
def g64:GFun:=⟨⟨15,[]⟩,(s [b 6 false] (s [m 7 0,m 8 1,o 9 .geq 7 8,m 10 9,y 11 10 (.mov (.t 0)),y 12 10 (.mov (.t 2)),y 13 10 (.bin .leq (.t 11) (.t 12)),x 14 (.pick (.t 10) (.t 13) (.k (.val (.bool false)))),m 6 14] .ret)),[.t 6]⟩
theorem i64:iF 64 g64:=jF Tryz.func64
def g65:GFun:=⟨⟨31,[1,2]⟩,(s [a 1 1 0,u 2 1] (s [x 6 (.build [(.val (.slice none 0 0))] []),x 3 (.alloc 1 (.agg [(.val (.slice none 0 0))])),(.mk none none (.store 1 (.t 3) (.t 6)))] (.seq (s [k 4 0] (B 0 (.seq (s [m 7 4,f 8 0 1,l 9 8,
 n 10 9,o 11 .lss 7 10] (.cond 11 .skip (.exit 0))) (.seq (.block 1 (s [f 14 0 1,l 15 14,m 16 4,i 17 6 15 16,h 18 6 17,x 5 (.alloc 6 (.agg [(.val (.int .i64 0)),(.val (.int .i64 0)),(.val (.int .i64 0)),(.val (.int .i64 0)),(.val (.string
 (ByteArray.mk #[]))),(.val (.slice none 0 0))])),(.mk none none (.store 6 (.t 5) (.t 18)))] (s [x 19 (.bslice 1 [] 0 false []),f 20 5 5,l 21 20,x 22 (.append 1 8 (.t 19) (.t 21)),f 23 5 5,(.mk none none (.store 1 (.t 23) (.t 22)))]
 (.reg [f 24 0 3,l 25 24,h 26 6 5,x 27 (.bslice 6 [] 1 true [(0,(.t 26))]),x 28 (.append 6 72 (.t 25) (.t 27)),f 29 0 3,(.mk none none (.store 1 (.t 29) (.t 28)))])))) (.reg [m 12 4,q 13 .add 12 1,m 4 13]))))) (s [h 30 1 3,
 t 2 1 30] .ret)))),[(.c 2 1 true)]⟩
theorem i65:iF 65 g65:=jF Tryz.func65
def g66:GFun:=⟨⟨44,[4,5,7,8,10,12]⟩,(s [a 4 2 0,a 5 1 1,a 7 5 3,u 8 1,k 9 0] (s [f 15 0 5,m 17 2,u 10 6,h 14 2 4,l 16 15,i 18 6 16 17,f 19 4 18,l 20 19,x 21 (.call true 76 [.t 14,.t 20]),m 13 21,v 22 13 0,v 23 13 1,t 10 6 22,m 11 23]
 (s [h 24 1 5,c 25 65 [.t 24],u 12 1,t 12 1 25] (.seq (s [f 26 3 10,l 27 26,w 28 27,m 29 28,z 30 29 (p 1 3 7),z 31 29 (r 1 30),z 32 29 (.call false 33 [.t 31,(.k (.val (.int .i64 1)))]),z 33 29 (.not (.t 32)),x 34 (.pick (.t 29) (.k (.val
 (.bool true))) (.t 33))] (.cond 34 (s [h 35 1 12,t 8 1 35,k 9 7] .ret) .skip)) (s [f 36 0 12,l 37 36,m 38 2,f 39 3 7,l 40 39,i 41 6 37 38,f 42 3 41,(.mk none none (.store 1 (.t 42) (.t 40)))] (s [h 43 1 12,t 8 1 43,k 9 0] .ret)))))),
 [(.c 8 1 true),.t 9]⟩
theorem i66:iF 66 g66:=jF Tryz.func66
def g67:GFun:=⟨⟨73,[4,5,7,8]⟩,(s [a 4 2 0,a 5 1 1,a 7 5 3,u 8 1,k 9 0] (s [h 12 1 5,m 13 2,c 14 21 [.t 12,.t 13],m 10 14] (.seq (s [e 16 4 1 7,m 20 2,h 15 2 4,h 17 1 16,h 18 2 4,h 19 1 5,x 21 (.call true 30 [.t 18,.t 19,.t 20]),x 22
 (.call true 29 [.t 15,.t 17,.t 21]),w 23 22] (.cond 23 (s [h 24 1 5,c 25 65 [.t 24],t 8 1 25,k 9 3] .ret) .skip)) (.seq (s [k 11 0] (B 0 (.seq (s [m 26 11,f 27 0 5,l 28 27,n 29 28,o 30 .lss 26 29] (.cond 30 .skip (.exit 0))) (.seq
 (.block 1 (s [m 33 11,m 34 2,m 35 2,m 36 10,o 37 .add 35 36,q 38 .sub 37 1,x 39 (.call true 64 [.t 33,.t 34,.t 38]),w 40 39,m 41 40,y 42 41 (.faddr 4 1 true (.t 7)),y 44 41 (p 1 0 5),y 46 41 (.mov (.t 11)),y 43 41 (j 1 42),y 45 41
 (r 1 44),y 47 41 (.iaddr 6 (.t 45) (.t 46)),y 48 41 (p 1 0 47),y 49 41 (r 1 48),y 50 41 (.call true 20 [.t 43,.t 49]),y 51 41 (.bin .geq (.t 50) (.k (.val (.int .i64 0)))),x 52 (.pick (.t 41) (.t 51) (.k (.val (.bool false))))] (.cond 52
 (s [h 53 1 5,c 54 65 [.t 53],t 8 1 54,k 9 4] .ret) .skip))) (.reg [m 31 11,q 32 .add 31 1,m 11 32]))))) (.seq (s [f 55 0 5,l 56 55,n 57 56,m 58 10,o 59 .sub 57 58,e 60 4 1 7,f 61 0 60,l 62 61,n 63 62,o 64 .add 59 63,q 65 .gtr 64 16]
 (.cond 65 (s [h 66 1 5,c 67 65 [.t 66],t 8 1 67,k 9 5] .ret) .skip)) (s [h 68 1 5,m 69 2,e 70 4 1 7,h 71 1 70,c 72 119 [.t 68,.t 69,.t 71],t 8 1 72,k 9 0] .ret)))))),[(.c 8 1 true),.t 9]⟩
theorem i67:iF 67 g67:=jF Tryz.func67
def g68:GFun:=⟨⟨51,[4,5,8,12]⟩,(s [a 4 2 0,a 5 1 1,u 8 1,k 9 0] (s [m 13 2,m 14 3,c 15 120 [.t 13,.t 14],m 10 15] (s [m 16 2,m 17 3,c 18 121 [.t 16,.t 17],m 11 18] (.seq (s [m 19 11,m 20 10,h 21 1 5,m 22 10,c 23 21 [.t 21,.t 22],
 o 24 .add 20 23,o 25 .lss 19 24] (.cond 25 (s [h 26 1 5,c 27 65 [.t 26],t 8 1 27,k 9 6] .ret) .skip)) (.seq (s [m 30 10,m 34 11,h 28 2 4,h 29 1 5,x 31 (.call true 30 [.t 28,.t 29,.t 30]),h 32 2 4,h 33 1 5,x 35 (.call true 30 [.t 32,.t 33,
 .t 34]),o 36 .neq 31 35] (.cond 36 (s [h 37 1 5,c 38 65 [.t 37],t 8 1 38,k 9 3] .ret) .skip)) (s [m 40 11,m 42 10,u 12 1,h 39 1 5,h 41 1 5,x 43 (.call true 122 [.t 41,.t 42]),x 44 (.call true 119 [.t 39,.t 40,.t 43]),t 12 1 44]
 (s [m 46 10,m 48 11,h 45 1 12,h 47 1 5,x 49 (.call true 122 [.t 47,.t 48]),x 50 (.calla 119 [.t 45,.t 46,.t 49]),t 8 1 50,k 9 0] .ret))))))),[(.c 8 1 true),.t 9]⟩
theorem i68:iF 68 g68:=jF Tryz.func68 [(8,2064)]
def g69:GFun:=⟨⟨78,[3,4,8,9]⟩,(s [a 3 1 0,a 4 1 1,b 6 false] (.seq (s [f 10 0 3,l 11 10,n 12 11,f 13 0 4,l 14 13,n 15 14,o 16 .neq 12 15] (.cond 16 (s [b 6 false] .ret) .skip)) (.seq (s [k 7 0] (B 0 (.seq (s [m 17 7,f 18 0 3,l 19 18,
 n 20 19,o 21 .lss 17 20] (.cond 21 .skip (.exit 0))) (.seq (.block 1 (s [f 24 0 3,l 25 24,m 26 7,i 27 6 25 26,h 28 6 27,u 8 6,t 8 6 28] (s [f 29 0 4,l 30 29,m 31 7,i 32 6 30 31,h 33 6 32,u 9 6,t 9 6 33] (s [m 34 2,m 35 34,y 36 35
 (p 1 0 8),y 37 35 (r 1 36),y 38 35 (p 1 0 9),y 39 35 (r 1 38),y 40 35 (.bin .neq (.t 37) (.t 39)),x 41 (.pick (.t 35) (.t 40) (.k (.val (.bool false)))),m 42 41,z 43 42 (p 1 1 8),z 44 42 (r 1 43),z 45 42 (p 1 1 9),z 46 42 (r 1 45),
 z 47 42 (.bin .neq (.t 44) (.t 46)),x 48 (.pick (.t 42) (.k (.val (.bool true))) (.t 47)),m 49 48,z 50 49 (p 1 2 8),z 51 49 (r 1 50),z 52 49 (p 1 2 9),z 53 49 (r 1 52),z 54 49 (.bin .neq (.t 51) (.t 53)),x 55 (.pick (.t 49) (.k (.val
 (.bool true))) (.t 54)),m 56 55,z 57 56 (p 1 3 8),z 58 56 (r 1 57),z 59 56 (p 1 3 9),z 60 56 (r 1 59),z 61 56 (.bin .neq (.t 58) (.t 60)),x 62 (.pick (.t 56) (.k (.val (.bool true))) (.t 61)),m 63 62,z 64 63 (p 1 4 8),z 65 63 (r 1 64),
 z 66 63 (p 1 4 9),z 67 63 (r 1 66),z 68 63 (.bin .neq (.t 65) (.t 67)),x 69 (.pick (.t 63) (.k (.val (.bool true))) (.t 68)),m 70 69,z 71 70 (p 1 5 8),z 72 70 (r 1 71),z 73 70 (p 1 5 9),z 74 70 (r 1 73),z 75 70 (.call false 123 [.t 72,
 .t 74]),z 76 70 (.not (.t 75)),x 77 (.pick (.t 70) (.k (.val (.bool true))) (.t 76))] (.cond 77 (s [b 6 false] .ret) .skip))))) (.reg [m 22 7,q 23 .add 22 1,m 7 23]))))) (s [b 6 true] .ret)))),[.t 6]⟩
theorem i69:iF 69 g69:=jF Tryz.func69
def g70:GFun:=⟨⟨12,[1]⟩,(s [a 1 2 0,x 2 (.mov (.k (.val (.string (ByteArray.mk #[])))))] (.seq (s [f 3 0 1,l 4 3,n 5 4,q 6 .eql 5 0] (.cond 6 (s [x 2 (.mov (.k (.val (.string (ByteArray.mk #[])))))] .ret) .skip)) (s [f 7 0 1,l 8 7,x 9
 (.iaddr 2 (.t 8) (.k (.val (.int .i64 0)))),f 10 0 9,l 11 10,m 2 11] .ret))),[.t 2]⟩
theorem i70:iF 70 g70:=jF Tryz.func70
def g71:GFun:=⟨⟨39,[5,12]⟩,(s [a 5 2 1,x 6 (.box 1 (.t 2)),x 8 (.mov (.k (.val (.slice none 0 0))))] (s [x 13 (.bslice 5 [] 0 true []),m 9 13] (s [m 14 0,m 15 3,q 16 .add 15 1,c 17 42 [.t 14,.t 16],m 10 17] (.seq (s [k 11 0] (B 0
 (.seq (s [m 18 11,m 19 10,o 20 .lss 18 19] (.cond 20 .skip (.exit 0))) (.seq (.block 1 (s [m 23 0,h 24 2 5,h 25 1 6,c 26 53 [.t 23,.t 24,.t 25],u 12 5,t 12 5 26] (s [m 27 9,h 28 5 12,x 29 (.bslice 5 [] 1 true [(0,(.t 28))]),x 30
 (.append 5 56 (.t 27) (.t 29)),m 9 30] (.reg [h 32 2 5,h 33 1 6,h 34 5 12,c 35 17 [.t 32,.t 33,.t 34],m 31 35,v 36 31 0,v 37 31 1,(.mk none none (.store 1 (.t 6) (.t 36)))])))) (.reg [m 21 11,q 22 .add 21 1,m 11 22]))))) (s [m 38 9,
 m 8 38] .ret))))),[.t 8]⟩
theorem i71:iF 71 g71:=jF Tryz.func71
def g72:GFun:=⟨⟨29,[2,4]⟩,(s [a 2 2 0,u 4 2,b 5 false] (.seq (s [k 6 0] (B 0 (.seq (s [m 7 6,f 8 0 2,l 9 8,n 10 9,o 11 .lss 7 10] (.cond 11 .skip (.exit 0))) (.seq (.block 1 (s [f 14 0 2,l 15 14,m 16 6,i 17 2 15 16,f 18 0 17,l 19 18,
 m 20 1,o 21 .eql 19 20] (.cond 21 (s [f 22 0 2,l 23 22,m 24 6,i 25 2 23 24,h 26 2 25,c 27 124 [.t 26],t 4 2 27,b 5 true] .ret) .skip))) (.reg [m 12 6,q 13 .add 12 1,m 6 13]))))) (s [x 28 (.build [(.val (.string (ByteArray.mk #[]))),(.val
 (.slice none 0 0))] []),t 4 2 28,b 5 false] .ret))),[(.c 4 2 true),.t 5]⟩
theorem i72:iF 72 g72:=jF Tryz.func72
def g74:GFun:=⟨⟨43,[1]⟩,(s [a 1 1 0,b 2 false] (s [x 5 (.bslice 1 [] 0 false []),m 3 5] (.seq (s [k 4 0] (B 0 (.seq (s [m 6 4,f 7 0 1,l 8 7,n 9 8,o 10 .lss 6 9] (.cond 10 .skip (.exit 0))) (.seq (.block 1 (.seq (s [f 13 0 1,l 14 13,
 m 15 4,i 16 6 14 15,f 17 0 16,l 18 17,c 19 64 [.t 18,(.k (.val (.int .i64 1))),(.k (.val (.int .i64 999)))],w 20 19,m 21 20,z 22 21 (.mov (.t 3)),z 23 21 (p 1 0 1),z 24 21 (r 1 23),z 25 21 (.mov (.t 4)),z 26 21 (.iaddr 6 (.t 24) (.t 25)),
 z 27 21 (p 1 0 26),z 28 21 (r 1 27),z 29 21 (.call false 126 [.t 22,.t 28]),x 30 (.pick (.t 21) (.k (.val (.bool true))) (.t 29))] (.cond 30 (s [b 2 false] .ret) .skip)) (.reg [m 31 3,f 32 0 1,l 33 32,m 34 4,i 35 6 33 34,f 36 0 35,l 37 36,
 x 38 (.bslice 1 [] 1 false [(0,(.t 37))]),x 39 (.append 1 8 (.t 31) (.t 38)),m 3 39]))) (.reg [m 11 4,q 12 .add 11 1,m 4 12]))))) (s [m 40 3,n 41 40,c 42 64 [.t 41,(.k (.val (.int .i64 1))),(.k (.val (.int .i64 16)))],m 2 42] .ret)))),
 [.t 2]⟩
theorem i74:iF 74 g74:=jF Tryz.func74
def g75:GFun:=⟨⟨109,[6,7,13,14]⟩,(s [a 6 2 0,a 7 1 1,k 12 0] (.seq (s [m 18 2,f 19 0 7,l 20 19,n 21 20,o 22 .geq 18 21] (.cond 22 (s [k 12 (-1)] .ret) .skip)) (s [f 23 0 7,l 24 23,m 25 2,i 26 6 24 25,h 27 6 26,u 13 6,t 13 6 27]
 (s [h 29 2 6,f 30 4 13,l 31 30,c 32 76 [.t 29,.t 31],m 28 32,v 33 28 0,v 34 28 1,u 14 6,t 14 6 33,m 15 34] (.seq (s [m 35 15,w 36 35,m 37 36,z 38 37 (p 1 1 14),z 39 37 (r 1 38),z 40 37 (.mov (.t 5)),z 41 37 (.bin .neq (.t 39) (.t 40)),
 x 42 (.pick (.t 37) (.k (.val (.bool true))) (.t 41)),m 43 42,z 44 43 (p 1 1 13),z 45 43 (r 1 44),z 46 43 (.mov (.t 3)),z 47 43 (.bin .neq (.t 45) (.t 46)),x 48 (.pick (.t 43) (.k (.val (.bool true))) (.t 47)),m 49 48,z 50 49 (p 1 2 13),
 z 51 49 (r 1 50),z 52 49 (.mov (.t 4)),z 53 49 (.bin .neq (.t 51) (.t 52)),x 54 (.pick (.t 49) (.k (.val (.bool true))) (.t 53)),m 55 54,z 56 55 (p 1 5 13),z 57 55 (r 1 56),z 58 55 (.len (.t 57)),z 59 55 (p 1 2 14),z 60 55 (r 1 59),
 z 61 55 (.len (.t 60)),z 62 55 (.bin .neq (.t 58) (.t 61)),x 63 (.pick (.t 55) (.k (.val (.bool true))) (.t 62))] (.cond 63 (s [k 12 (-1)] .ret) .skip)) (.seq (s [f 64 3 13,l 65 64,c 66 33 [.t 65,(.k (.val (.int .i64 1)))],w 67 66,m 68 67,
 z 69 68 (p 1 3 14),z 70 68 (r 1 69),z 71 68 (.not (.t 70)),z 72 68 (.mov (.t 71)),y 73 72 (p 1 3 13),y 74 72 (r 1 73),y 75 72 (.bin .neq (.t 74) (.k (.val (.int .i64 0)))),z 76 68 (.pick (.t 72) (.t 75) (.k (.val (.bool false)))),x 77
 (.pick (.t 68) (.k (.val (.bool true))) (.t 76))] (.cond 77 (s [k 12 (-1)] .ret) .skip)) (s [m 78 2,q 79 .add 78 1,m 16 79] (.seq (s [k 17 0] (B 0 (.seq (s [m 80 17,f 81 2 14,l 82 81,n 83 82,o 84 .lss 80 83] (.cond 84 .skip (.exit 0)))
 (.seq (.block 1 (.seq (s [f 87 5 13,l 88 87,m 89 17,i 90 1 88 89,l 91 90,m 92 16,o 93 .neq 91 92] (.cond 93 (s [k 12 (-1)] .ret) .skip)) (s [m 96 16,m 97 2,m 98 17,q 99 .add 98 1,f 100 2 14,m 102 17,h 94 2 6,h 95 1 7,l 101 100,
 i 103 1 101 102,l 104 103,x 105 (.call true 75 [.t 94,.t 95,.t 96,.t 97,.t 99,.t 104]),m 16 105] (s [m 106 16,q 107 .lss 106 0] (.cond 107 (s [k 12 (-1)] .ret) .skip))))) (.reg [m 85 17,q 86 .add 85 1,m 17 86]))))) (s [m 108 16,
 m 12 108] .ret))))))))),[.t 12]⟩
theorem i75:iF 75 g75:=jF Tryz.func75
def g76:GFun:=⟨⟨29,[2,4]⟩,(s [a 2 2 0,u 4 6,b 5 false] (.seq (s [k 6 0] (B 0 (.seq (s [m 7 6,f 8 1 2,l 9 8,n 10 9,o 11 .lss 7 10] (.cond 11 .skip (.exit 0))) (.seq (.block 1 (s [f 14 1 2,l 15 14,m 16 6,i 17 6 15 16,f 18 0 17,l 19 18,
 m 20 1,o 21 .eql 19 20] (.cond 21 (s [f 22 1 2,l 23 22,m 24 6,i 25 6 23 24,h 26 6 25,c 27 127 [.t 26],t 4 6 27,b 5 true] .ret) .skip))) (.reg [m 12 6,q 13 .add 12 1,m 6 13]))))) (s [x 28 (.build [(.val (.string (ByteArray.mk #[]))),(.val
 (.string (ByteArray.mk #[]))),(.val (.slice none 0 0)),(.val (.bool false)),(.val (.slice none 0 0)),(.val (.slice none 0 0))] []),t 4 6 28,b 5 false] .ret))),[(.c 4 6 true),.t 5]⟩
theorem i76:iF 76 g76:=jF Tryz.func76
def g79:GFun:=⟨⟨28,[2,4]⟩,(s [a 2 2 0,u 4 4,b 5 false] (.seq (s [k 6 0] (B 0 (.seq (s [m 7 6,f 8 1 2,l 9 8,n 10 9,o 11 .lss 7 10] (.cond 11 .skip (.exit 0))) (.seq (.block 1 (s [f 14 1 2,l 15 14,m 16 6,i 17 4 15 16,f 18 0 17,l 19 18,
 m 20 1,o 21 .eql 19 20] (.cond 21 (s [f 22 1 2,l 23 22,m 24 6,i 25 4 23 24,h 26 4 25,t 4 4 26,b 5 true] .ret) .skip))) (.reg [m 12 6,q 13 .add 12 1,m 6 13]))))) (s [x 27 (.build [(.val (.string (ByteArray.mk #[]))),(.val (.int .i64 0)),
 (.val (.int .i64 0)),(.val (.bool false))] []),t 4 4 27,b 5 false] .ret))),[(.c 4 4 true),.t 5]⟩
theorem i79:iF 79 g79:=jF Tryz.func79
def g80:GFun:=⟨⟨24,[]⟩,(s [k 4 0] (.seq (s [m 5 1] (.block 0 (s [q 7 .eql 5 1,m 6 7] (.cond 6 (s [m 8 0,c 9 130 [.t 8],m 4 9] .ret) (s [q 11 .eql 5 2,m 10 11] (.cond 10 (s [m 12 0,q 13 .and 12 4095,m 4 13] .ret) (s [q 15 .eql 5 3,
 m 14 15] (.cond 14 (s [m 16 0,q 17 .neq 16 0,c 18 131 [.t 17],m 4 18] .ret) (s [q 20 .eql 5 4,m 19 20] (.cond 19 (s [m 21 0,c 22 64 [.t 21,(.k (.val (.int .i64 0))),(.k (.val (.int .i64 999)))]] (.cond 22 (s [m 23 0,
 m 4 23] .ret) .skip)) .skip)))))))))) (s [k 4 0] .ret))),[.t 4]⟩
theorem i80:iF 80 g80:=jF Tryz.func80
def g81:GFun:=⟨⟨11,[2]⟩,(s [a 2 1 0,b 4 false] (s [m 5 1,f 6 0 2,l 7 6,n 8 7,q 9 .sub 8 1,c 10 57 [.t 5,(.k (.val (.int .i64 0))),.t 9],m 4 10] .ret)),[.t 4]⟩
theorem i81:iF 81 g81:=jF Tryz.func81
def g82:GFun:=⟨⟨22,[2,4,7]⟩,(s [a 2 2 0,u 4 2,b 5 false] (.seq (s [f 8 0 2,l 9 8,n 10 9,k 11 0] (B 0 (s [o 12 .lss 11 10] (C 12 0 (.seq (.block 1 (s [i 13 2 9 11,h 14 2 13,u 7 2,t 7 2 14] (s [f 15 0 7,l 16 15,m 17 1,o 18 .eql 16 17]
 (.cond 18 (s [h 19 2 7,t 4 2 19,b 5 true] .ret) .skip)))) (.reg [q 20 .add 11 1,m 11 20])))))) (s [x 21 (.build [(.val (.string (ByteArray.mk #[]))),(.val (.slice none 0 0))] []),t 4 2 21,b 5 false] .ret))),[(.c 4 2 true),.t 5]⟩
theorem i82:iF 82 g82:=jF Tryz.func82
def g83:GFun:=⟨⟨26,[3,4,7]⟩,(s [a 3 2 0,a 4 1 1,x 6 (.mov (.k (.val (.string (ByteArray.mk #[])))))] (.seq (s [h 9 1 4,m 10 2,c 11 81 [.t 9,.t 10],w 12 11] (.cond 12 (s [x 6 (.mov (.k (.val (.string
 (ByteArray.mk #[])))))] .ret) .skip)) (s [f 15 0 4,m 17 2,u 7 6,h 14 2 3,l 16 15,i 18 6 16 17,f 19 4 18,l 20 19,x 21 (.call true 62 [.t 14,.t 20]),m 13 21,v 22 13 0,v 23 13 1,t 7 6 22,m 8 23] (s [f 24 1 7,l 25 24,m 6 25] .ret)))),[.t 6]⟩
theorem i83:iF 83 g83:=jF Tryz.func83
def g86:GFun:=⟨⟨58,[]⟩,(s [k 2 0] (s [m 4 0,m 5 0,x 6 (.nck (.t 5)),f 7 2 6,l 8 7,q 9 .mul 8 6364136223846793005,q 10 .add 9 1442695040888963407,x 11 (.nck (.t 4)),f 12 2 11,(.mk none none (.store 1 (.t 12) (.t 10)))] (s [m 13 0,x 14
 (.nck (.t 13)),f 15 2 14,m 18 0,x 19 (.nck (.t 18)),f 20 2 19,l 16 15,x 17 (.bin .shr (.t 16) (.k (.val (.int .u64 33)))),l 21 20,x 22 (.bin .shr (.t 21) (.k (.val (.int .u64 45)))),o 23 .xor 17 22,q 24 .and 23 255,m 3 24] (.seq
 (s [m 25 0,x 26 (.nck (.t 25)),f 27 1 26,m 29 0,x 30 (.nck (.t 29)),f 31 0 30,l 28 27,l 32 31,n 33 32,o 34 .lss 28 33] (.cond 34 (s [m 35 3,m 36 0,x 37 (.nck (.t 36)),f 38 0 37,m 40 0,x 41 (.nck (.t 40)),f 42 1 41,l 39 38,l 43 42,
 i 44 1 39 43,l 45 44,x 46 (.conv .i64 (.t 45)),o 47 .add 35 46,q 48 .and 47 255,m 3 48] (.reg [m 49 0,m 50 0,x 51 (.nck (.t 50)),f 52 1 51,l 53 52,q 54 .add 53 1,x 55 (.nck (.t 49)),f 56 1 55,(.mk none none (.store 1 (.t 56)
 (.t 54)))])) .skip)) (s [m 57 3,m 2 57] .ret))))),[.t 2]⟩
theorem i86:iF 86 g86:=jF Tryz.func86
def g96:GFun:=⟨⟨43,[3,4,8]⟩,(s [a 3 2 0,a 4 1 1,b 6 false] (.seq (s [f 9 0 4,l 10 9,n 11 10,c 12 57 [.t 11,(.k (.val (.int .i64 1))),(.k (.val (.int .i64 16)))],w 13 12] (.cond 13 (s [b 6 false] .ret) .skip)) (.seq (s [f 14 0 4,l 15 14,
 n 16 15,k 17 0] (B 0 (s [o 18 .lss 17 16] (C 18 0 (.seq (.block 1 (s [m 19 17,i 20 6 15 17,h 21 6 20,u 8 6,m 7 19,t 8 6 21] (s [f 22 0 8,l 23 22,c 24 57 [.t 23,(.k (.val (.int .i64 1))),(.k (.val (.int .i64 999)))],w 25 24,m 26 25,
 z 27 26 (p 1 0 4),z 28 26 (r 1 27),z 29 26 (.mov (.t 7)),z 30 26 (.slc 6 (.t 28) none (some (.t 29))),z 31 26 (.mkfn 147 [.t 8]),z 32 26 (.call false 146 [.t 30,.t 31]),x 33 (.pick (.t 26) (.k (.val (.bool true))) (.t 32))] (.cond 33
 (s [b 6 false] .ret) .skip)))) (.reg [q 34 .add 17 1,m 17 34])))))) (s [m 37 2,f 39 0 4,h 35 2 3,h 36 1 4,x 38 (.call true 148 [.t 35,.t 36,(.k (.val (.int .i64 0))),(.k (.val (.int .i64 (-1)))),(.k (.val (.int .i64 0))),.t 37]),l 40 39,
 n 41 40,o 42 .eql 38 41,m 6 42] .ret)))),[.t 6]⟩
theorem i96:iF 96 g96:=jF Tryz.func96
def g104:GFun:=⟨⟨65,[8,1000012,3000023,3000028,3000031,3000036]⟩,(s [u 8 2] (s [m 13 1,x 14 (.build [(.val (.string (ByteArray.mk #[]))),(.val (.slice none 0 0))] [(0,(1,(.t 13)))]),x 9 (.alloc 2 (.agg [(.val (.string
 (ByteArray.mk #[]))),(.val (.slice none 0 0))])),(.mk none none (.store 2 (.t 9) (.t 14)))] (s [m 15 0,c 16 42 [.t 15,(.k (.val (.int .i64 4)))],x 17 (.bin .add (.k (.val (.int .i64 1))) (.t 16)),m 10 17] (.seq (s [k 11 0] (B 0 (.seq
 (s [m 18 11,m 19 10,o 20 .lss 18 19] (.cond 20 .skip (.exit 0))) (.seq (.block 1 (s [x 23 (.bslro 1 [] 4 false [(0,(.k (.val (.string (ByteArray.mk #[97]))))),(1,(.k (.val (.string (ByteArray.mk #[98]))))),(2,(.k (.val (.string
 (ByteArray.mk #[99]))))),(3,(.k (.val (.string (ByteArray.mk #[100])))))]),m 24 11,i 25 1 23 24,m 27 0,x 28 (.bslro 1 [] 6 false [(0,(.k (.val (.int .i64 1)))),(1,(.k (.val (.int .i64 1)))),(2,(.k (.val (.int .i64 2)))),(3,(.k (.val
 (.int .i64 2)))),(4,(.k (.val (.int .i64 3)))),(5,(.k (.val (.int .i64 4))))]),m 30 0,x 31 (.bslro 1 [] 6 false [(0,(.k (.val (.int .i64 1)))),(1,(.k (.val (.int .i64 2)))),(2,(.k (.val (.int .i64 2)))),(3,(.k (.val (.int .i64 1)))),(4,
 (.k (.val (.int .i64 2)))),(5,(.k (.val (.int .i64 3))))]),u 12 4,l 26 25,x 29 (.calla 110 [.t 27,.t 28]),x 32 (.calla 110 [.t 30,.t 31]),x 33 (.build [(.val (.string (ByteArray.mk #[]))),(.val (.int .i64 0)),(.val (.int .i64 0)),(.val
 (.bool false))] [(0,(1,(.t 26))),(1,(1,(.t 29))),(2,(1,(.t 32)))]),x 12 (.strb 4 12 (.t 33))] (.seq (s [m 34 3] (.cond 34 (.reg [m 35 0,x 36 (.bslro 1 [] 4 false [(0,(.k (.val (.int .i64 1)))),(1,(.k (.val (.int .i64 1)))),(2,(.k (.val
 (.int .i64 2)))),(3,(.k (.val (.int .i64 3))))]),c 37 110 [.t 35,.t 36],f 38 1 12,(.mk none none (.store 1 (.t 38) (.t 37)))]) .skip)) (.seq (s [m 39 2,m 40 39,y 41 40 (p 1 2 12),y 42 40 (r 1 41),y 43 40 (.bin .eql (.t 42) (.k (.val
 (.int .i64 1)))),x 44 (.pick (.t 40) (.t 43) (.k (.val (.bool false)))),m 45 44,z 46 45 (.mov (.t 3)),z 47 45 (.mov (.t 46)),y 48 47 (p 1 2 12),y 49 47 (r 1 48),y 50 47 (.bin .eql (.t 49) (.k (.val (.int .i64 3)))),z 51 45 (.pick (.t 47)
 (.t 50) (.k (.val (.bool false)))),x 52 (.pick (.t 45) (.k (.val (.bool true))) (.t 51))] (.cond 52 (.reg [f 53 2 12,(.mk none none (.store 1 (.t 53) (.k (.val (.int .i64 2)))))]) .skip)) (.seq (s [f 54 2 12,l 55 54,q 56 .eql 55 3]
 (.cond 56 (.reg [f 57 1 12,(.mk none none (.store 1 (.t 57) (.k (.val (.int .i64 2)))))]) .skip)) (.reg [f 58 1 9,l 59 58,h 60 4 12,x 61 (.bslice 4 [] 1 true [(0,(.t 60))]),x 62 (.append 4 40 (.t 59) (.t 61)),f 63 1 9,(.mk none none
 (.store 1 (.t 63) (.t 62)))])))))) (.reg [m 21 11,q 22 .add 21 1,m 11 22]))))) (s [h 64 2 9,t 8 2 64] .ret))))),[(.c 8 2 true)]⟩
theorem i104:iF 104 g104:=jF Tryz.func104 [(6,532496)]
def g105:GFun:=⟨⟨31,[]⟩,(s [x 2 (.mov (.k (.val (.string (ByteArray.mk #[])))))] (.seq (s [m 6 0,q 7 .eql 6 0] (.cond 7 (s [x 2 (.mov (.k (.val (.string (ByteArray.mk #[48])))))] .ret) .skip)) (s [m 8 0,q 9 .lss 8 0,m 3 9] (s [x 4
 (.mov (.k (.val (.string (ByteArray.mk #[])))))] (.seq (B 0 (.seq (s [m 10 0,q 11 .neq 10 0] (.cond 11 .skip (.exit 0))) (.block 1 (s [m 12 0,q 13 .rem 12 10,m 5 13] (.seq (s [m 14 5,q 15 .lss 14 0] (.cond 15 (.reg [m 16 5,x 17
 (.bin .sub (.k (.val (.int .i64 0))) (.t 16)),m 5 17]) .skip)) (s [m 18 5,x 19 (.bin .add (.k (.val (.int .i64 48))) (.t 18)),x 20 (.conv .u8 (.t 19)),x 21 (.bslice 1 [] 1 false [(0,(.t 20))]),x 22 (.b2s (.t 21)),m 23 4,o 24 .add 22 23,
 m 4 24] (.reg [m 25 0,q 26 .quo 25 10,m 0 26]))))))) (.seq (s [m 27 3] (.cond 27 (s [m 28 4,x 29 (.bin .add (.k (.val (.string (ByteArray.mk #[45])))) (.t 28)),m 2 29] .ret) .skip)) (s [m 30 4,m 2 30] .ret))))))),[.t 2]⟩
theorem i105:iF 105 g105:=jF Tryz.func105
def g106:GFun:=⟨⟨12,[]⟩,(s [x 4 (.mov (.k (.val (.string (ByteArray.mk #[])))))] (s [m 5 1,m 6 0,m 7 1,n 8 7,c 9 42 [.t 6,.t 8],i 10 1 5 9,l 11 10,m 4 11] .ret)),[.t 4]⟩
theorem i106:iF 106 g106:=jF Tryz.func106
def g107:GFun:=⟨⟨77,[5,8,11,13,1000015,3000063]⟩,(s [a 5 2 1,x 6 (.box 6 (.t 2)),u 8 6] (s [h 16 2 5,h 17 6 6,c 18 161 [.t 16,.t 17],m 9 18] (.seq (s [k 10 0] (B 0 (.seq (s [m 19 10,m 20 9,n 21 20,o 22 .lss 19 21] (.cond 22 .skip
 (.exit 0))) (.seq (.block 1 (s [m 28 9,m 29 10,i 30 2 28 29,f 31 0 30,u 11 2,h 26 2 5,h 27 6 6,l 32 31,x 33 (.call true 162 [.t 27,.t 32]),x 34 (.call true 72 [.t 26,.t 33]),m 25 34,v 35 25 0,v 36 25 1,t 11 2 35,m 12 36] (s [m 39 9,
 m 40 10,i 41 2 39 40,f 42 1 41,u 13 4,h 38 2 11,l 43 42,x 44 (.call true 79 [.t 38,.t 43]),m 37 44,v 45 37 0,v 46 37 1,t 13 4 45,m 14 46] (s [m 47 0,f 50 1 13,m 52 0,m 55 3,u 15 7,h 48 2 5,h 49 6 6,l 51 50,x 53 (.calla 42 [.t 52,(.k
 (.val (.int .i64 3)))]),x 54 (.bin .add (.k (.val (.int .i64 1))) (.t 53)),x 56 (.calla 163 [.t 47,.t 48,.t 49,.t 51,.t 54,.t 55]),x 15 (.strb 7 15 (.t 56))] (.seq (s [h 57 7 15,c 58 158 [.t 57],w 59 58] (.cond 59 (.reg [m 60 0,f 61 1 13,
 l 62 61,x 63 (.bslro 2 [] 0 true []),c 64 164 [.t 60,.t 62,.t 63],x 15 (.strb 7 15 (.t 64))]) .skip)) (.reg [f 65 4 6,m 67 9,m 68 10,i 69 2 67 68,l 66 65,h 70 2 69,h 71 7 15,x 72 (.build [(.val (.int .i64 0)),(.val (.string
 (ByteArray.mk #[]))),(.val (.int .i64 0)),(.val (.int .i64 0)),(.val (.int .i64 0)),(.val (.int .i64 0)),(.val (.string (ByteArray.mk #[]))),(.val (.string (ByteArray.mk #[]))),(.val (.slice none 0 0))] [(0,(2,(.t 70))),(2,(7,(.t 71)))]),
 x 73 (.bslice 9 [] 1 true [(0,(.t 72))]),x 74 (.append 9 112 (.t 66) (.t 73)),f 75 4 6,(.mk none none (.store 1 (.t 75) (.t 74)))])))))) (.reg [m 23 10,q 24 .add 23 1,m 10 24]))))) (s [h 76 6 6,t 8 6 76] .ret)))),[(.c 8 6 true)]⟩
theorem i107:iF 107 g107:=jF Tryz.func107 [(7,532496)]
def g108:GFun:=⟨⟨76,[4,6,9]⟩,(s [a 4 2 1,x 5 (.box 6 (.t 2)),u 6 6] (.seq (s [k 7 0] (B 0 (.seq (s [m 10 7,f 11 0 4,l 12 11,n 13 12,o 14 .lss 10 13] (.cond 14 .skip (.exit 0))) (.seq (.block 1 (s [k 8 0] (B 2 (.seq (s [m 17 8,f 18 0 4,
 l 19 18,m 20 7,i 21 2 19 20,f 22 1 21,l 23 22,n 24 23,o 25 .lss 17 24] (.cond 25 .skip (.exit 2))) (.seq (.block 3 (s [f 28 0 4,l 29 28,m 30 7,i 31 2 29 30,f 32 1 31,l 33 32,m 34 8,i 35 4 33 34,h 36 4 35,u 9 4,t 9 4 36] (s [f 37 2 9,
 l 38 37,q 39 .eql 38 3,m 40 39,y 41 40 (p 1 5 5),y 42 40 (r 1 41),y 43 40 (.len (.t 42)),y 44 40 (.bin .lss (.t 43) (.k (.val (.int .i64 2)))),x 45 (.pick (.t 40) (.t 44) (.k (.val (.bool false)))),m 46 45,y 47 46 (.mov (.t 0)),y 48 46
 (.call false 41 [.t 47,(.k (.val (.int .i64 3)))]),y 49 46 (.not (.t 48)),x 50 (.pick (.t 46) (.t 49) (.k (.val (.bool false))))] (.cond 50 (.reg [f 51 5 5,f 53 0 4,m 55 7,f 59 0 9,m 61 0,m 66 0,l 52 51,l 54 53,i 56 2 54 55,f 57 0 56,
 l 58 57,l 60 59,h 62 2 4,h 63 6 5,x 64 (.call true 165 [.t 62,.t 63,(.k (.val (.int .i64 4)))]),h 67 2 4,h 68 6 5,x 65 (.calla 164 [.t 61,(.k (.val (.int .i64 4))),.t 64]),x 69 (.call true 165 [.t 67,.t 68,(.k (.val (.int .i64 2)))]),
 x 70 (.calla 164 [.t 66,(.k (.val (.int .i64 2))),.t 69]),x 71 (.build [(.val (.string (ByteArray.mk #[]))),(.val (.string (ByteArray.mk #[]))),(.val (.int .i64 0)),(.val (.int .i64 0)),(.val (.int .i64 0)),(.val (.int .i64 0)),(.val
 (.string (ByteArray.mk #[]))),(.val (.string (ByteArray.mk #[]))),(.val (.slice none 0 0)),(.val (.int .i64 0)),(.val (.int .i64 0)),(.val (.int .i64 0)),(.val (.int .i64 0)),(.val (.string (ByteArray.mk #[]))),(.val (.string
 (ByteArray.mk #[]))),(.val (.slice none 0 0))] [(0,(1,(.t 58))),(1,(1,(.t 60))),(2,(7,(.t 65))),(9,(7,(.t 70)))]),x 72 (.bslice 16 [] 1 true [(0,(.t 71))]),x 73 (.append 16 208 (.t 52) (.t 72)),f 74 5 5,(.mk none none (.store 1 (.t 74)
 (.t 73)))]) .skip)))) (.reg [m 26 8,q 27 .add 26 1,m 8 27])))))) (.reg [m 15 7,q 16 .add 15 1,m 7 16]))))) (s [h 75 6 5,t 6 6 75] .ret))),[(.c 6 6 true)]⟩
theorem i108:iF 108 g108:=jF Tryz.func108 [(9,550292684816)]
def g109:GFun:=⟨⟨70,[6,10,11,16]⟩,(s [a 6 2 1,u 10 1] (s [m 17 0,h 18 2 6,m 19 2,m 20 3,c 21 166 [.t 17,.t 18,.t 19,.t 20],u 11 6,t 11 6 21] (s [m 22 4,f 23 0 11,l 24 23,x 25 (.build [(.val (.int .i64 0)),(.val (.int .i64 0)),(.val
 (.int .i64 0)),(.val (.int .i64 0)),(.val (.string (ByteArray.mk #[]))),(.val (.slice none 0 0))] [(0,(1,(.t 22))),(4,(1,(.t 24)))]),x 12 (.alloc 6 (.agg [(.val (.int .i64 0)),(.val (.int .i64 0)),(.val (.int .i64 0)),(.val (.int .i64 0)),
 (.val (.string (ByteArray.mk #[]))),(.val (.slice none 0 0))])),(.mk none none (.store 6 (.t 12) (.t 25)))] (.seq (s [f 26 3 11,l 27 26] (.cond 27 (.reg [m 28 0,c 29 42 [.t 28,(.k (.val (.int .i64 9)))],q 30 .sub 29 2,f 31 3 12,
 (.mk none none (.store 1 (.t 31) (.t 30)))]) .skip)) (s [m 32 4,q 33 .add 32 1,m 13 33] (s [x 34 (.bslice 1 [] 0 true []),m 14 34] (.seq (s [k 15 0] (B 0 (.seq (s [m 35 15,f 36 2 11,l 37 36,n 38 37,o 39 .lss 35 38] (.cond 39 .skip
 (.exit 0))) (.seq (.block 1 (s [m 42 0,f 44 2 11,m 46 15,m 49 3,f 50 2 11,m 56 13,u 16 1,h 43 2 6,l 45 44,i 47 1 45 46,l 48 47,l 51 50,n 52 51,x 53 (.call true 121 [(.k (.val (.int .i64 1))),.t 52]),o 54 .quo 49 53,q 55 .sub 54 1,x 57
 (.calla 109 [.t 42,.t 43,.t 48,.t 55,.t 56]),t 16 1 57] (s [m 58 13,f 59 0 16,l 60 59,n 61 60,o 62 .add 58 61,m 13 62] (.reg [m 63 14,h 64 1 16,x 65 (.bslice 1 [] 1 true [(0,(.t 64))]),x 66 (.append 1 24 (.t 63) (.t 65)),m 14 66]))))
 (.reg [m 40 15,q 41 .add 40 1,m 15 41]))))) (s [h 67 6 12,m 68 14,c 69 167 [.t 67,.t 68],t 10 1 69] .ret)))))))),[(.c 10 1 true)]⟩
theorem i109:iF 109 g109:=jF Tryz.func109 [(10,2147483664)]
def g110:GFun:=⟨⟨12,[]⟩,(s [k 4 0] (s [m 5 1,m 6 0,m 7 1,n 8 7,c 9 42 [.t 6,.t 8],i 10 1 5 9,l 11 10,m 4 11] .ret)),[.t 4]⟩
theorem i110:iF 110 g110:=jF Tryz.func110
def g111:GFun:=⟨⟨44,[1,7]⟩,(s [a 1 2 0,k 2 0,k 3 0] (.seq (s [h 11 2 1,c 12 168 [.t 11],m 10 12,v 13 10 0,v 14 10 1,m 4 13,m 5 14] (s [m 15 4,q 16 .neq 15 0] (.cond 16 (s [m 17 4,m 18 5,m 2 17,m 3 18] .ret) .skip))) (.seq (s [f 19 1 1,
 l 20 19,n 21 20,k 22 0] (B 0 (s [o 23 .lss 22 21] (C 23 0 (.seq (.block 1 (s [m 24 22,i 25 6 20 22,h 26 6 25,u 7 6,m 6 24,t 7 6 26] (s [h 27 2 1,h 28 6 7,c 29 169 [.t 27,.t 28]] (.cond 29 (s [m 30 6,k 2 7,m 3 30] .ret) .skip))))
 (.reg [q 31 .add 22 1,m 22 31])))))) (.seq (s [h 32 2 1,c 33 170 [.t 32],n 34 33,k 35 0] (B 2 (s [o 36 .lss 35 34] (C 36 2 (.seq (.block 3 (s [m 37 35,i 38 1 33 35,l 39 38,m 8 37,m 9 39] (s [m 40 9,q 41 .eql 40 0] (.cond 41 (s [m 42 8,
 k 2 8,m 3 42] .ret) .skip)))) (.reg [q 43 .add 35 1,m 35 43])))))) (s [k 2 0,k 3 0] .ret))))),[.t 2,.t 3]⟩
theorem i111:iF 111 g111:=jF Tryz.func111
def g112:GFun:=⟨⟨8,[]⟩,(s [x 2 (.mov (.k (.val (.slice none 0 0))))] (.seq (s [m 3 0,x 4 (.isnil false (.t 3))] (.cond 4 (s [x 2 (.mov (.k (.val (.slice none 0 0))))] .ret) .skip)) (s [x 5 (.bslice 1 [] 0 false []),m 6 0,x 7
 (.append 1 8 (.t 5) (.t 6)),m 2 7] .ret))),[.t 2]⟩
theorem i112:iF 112 g112:=jF Tryz.func112
def g113:GFun:=⟨⟨19,[]⟩,(s [k 4 0] (.seq (s [m 6 0,n 7 6,k 8 0] (B 0 (s [o 9 .lss 8 7] (C 9 0 (.seq (.block 1 (s [m 10 8,m 5 10] (s [m 11 1,m 12 0,m 13 5,i 14 6 12 13,h 15 6 14,x 16 (.callv false (.t 11) [.t 15])] (.cond 16 (s [m 17 5,
 m 4 17] .ret) .skip)))) (.reg [q 18 .add 8 1,m 8 18])))))) (s [k 4 (-1)] .ret))),[.t 4]⟩
theorem i113:iF 113 g113:=jF Tryz.func113
def g114:GFun:=⟨⟨8,[2]⟩,(s [a 2 6 0,b 3 false] (s [f 4 0 2,l 5 4,l 6 1,o 7 .eql 5 6,m 3 7] .ret)),[.t 3]⟩
theorem i114:iF 114 g114:=jF Tryz.func114
def g115:GFun:=⟨⟨32,[2]⟩,(s [a 2 1 0,k 4 0] (.seq (s [h 6 1 2,m 7 1,c 8 81 [.t 6,.t 7],w 9 8] (.cond 9 (s [k 4 0] .ret) .skip)) (s [m 10 1,q 11 .add 10 1,m 5 11] (.seq (B 0 (.seq (s [m 12 5,f 13 0 2,l 14 13,n 15 14,o 16 .lss 12 15,
 m 17 16,y 18 17 (p 1 0 2),y 19 17 (r 1 18),y 20 17 (.mov (.t 5)),y 21 17 (.iaddr 6 (.t 19) (.t 20)),y 22 17 (p 1 1 21),y 23 17 (r 1 22),y 24 17 (.mov (.t 1)),y 25 17 (.bin .geq (.t 23) (.t 24)),x 26 (.pick (.t 17) (.t 25) (.k (.val
 (.bool false))))] (.cond 26 .skip (.exit 0))) (.block 1 (.reg [m 27 5,q 28 .add 27 1,m 5 28])))) (s [m 29 5,m 30 1,o 31 .sub 29 30,m 4 31] .ret))))),[.t 4]⟩
theorem i115:iF 115 g115:=jF Tryz.func115
def g116:GFun:=⟨⟨133,[3,4,5,6,7,8]⟩,(s [a 3 1 0,a 4 1 1,a 5 1 2,u 6 1] (.seq (s [h 18 1 3,l 19 4,c 20 81 [.t 18,.t 19],w 21 20,m 22 21,z 23 22 (p 1 0 5),z 24 22 (r 1 23),z 25 22 (.len (.t 24)),z 26 22 (.bin .eql (.t 25) (.k (.val
 (.int .i64 0)))),x 27 (.pick (.t 22) (.k (.val (.bool true))) (.t 26))] (.cond 27 (s [h 28 1 3,c 29 58 [.t 28],t 6 1 29] .ret) .skip)) (s [f 33 0 5,u 7 1,u 8 1,h 30 1 3,l 31 4,x 32 (.call true 115 [.t 30,.t 31]),t 7 1 32,l 34 33,n 35 34,
 t 8 1 35] (s [x 36 (.mkfn 171 [.t 4,.t 7,.t 8]),m 9 36] (s [x 37 (.build [(.val (.slice none 0 0))] []),x 10 (.alloc 1 (.agg [(.val (.slice none 0 0))])),(.mk none none (.store 1 (.t 10) (.t 37)))] (.seq (s [f 38 0 3,l 39 38,n 40 39,
 k 41 0] (B 0 (s [o 42 .lss 41 40] (C 42 0 (.seq (.block 1 (s [m 43 41,i 44 6 39 41,h 45 6 44,x 12 (.alloc 6 (.agg [(.val (.int .i64 0)),(.val (.int .i64 0)),(.val (.int .i64 0)),(.val (.int .i64 0)),(.val (.string (ByteArray.mk #[]))),
 (.val (.slice none 0 0))])),m 11 43,(.mk none none (.store 6 (.t 12) (.t 45)))] (.seq (s [m 46 11,l 47 4,o 48 .eql 46 47] (.cond 48 (s [h 49 1 5,c 50 58 [.t 49],x 51 (.field 0 1 false (.t 50)),n 52 51,k 53 0] (B 2 (s [o 54 .lss 53 52]
 (C 54 2 (.seq (.block 3 (s [m 55 53,i 56 6 51 53,h 57 6 56,x 14 (.alloc 6 (.agg [(.val (.int .i64 0)),(.val (.int .i64 0)),(.val (.int .i64 0)),(.val (.int .i64 0)),(.val (.string (ByteArray.mk #[]))),(.val (.slice none 0 0))])),m 13 55,
 (.mk none none (.store 6 (.t 14) (.t 57)))] (s [f 58 1 14,l 59 58,l 60 4,o 61 .add 59 60,f 62 1 14,(.mk none none (.store 1 (.t 62) (.t 61)))] (.seq (s [m 63 13,q 64 .eql 63 0] (.cond 64 (.reg [f 65 1 12,x 66 (.loadr 1 false (.t 65)),
 f 67 2 12,x 68 (.loadr 1 false (.t 67)),f 69 1 14,(.mk none none (.store 1 (.t 69) (.t 66))),f 70 2 14,(.mk none none (.store 1 (.t 70) (.t 68)))]) .skip)) (.seq (s [f 71 5 14,l 72 71,n 73 72,k 74 0] (B 4 (s [o 75 .lss 74 73] (C 75 4
 (.seq (.block 5 (s [m 76 74,m 15 76] (.reg [f 77 5 14,m 79 15,l 78 77,i 80 1 78 79,l 81 80,l 82 4,o 83 .add 81 82,i 84 1 78 79,(.mk none none (.store 1 (.t 84) (.t 83)))]))) (.reg [q 85 .add 74 1,m 74 85])))))) (.reg [f 86 0 10,l 87 86,
 h 88 6 14,x 89 (.bslice 6 [] 1 true [(0,(.t 88))]),x 90 (.append 6 72 (.t 87) (.t 89)),f 91 0 10,(.mk none none (.store 1 (.t 91) (.t 90)))])))))) (.reg [q 92 .add 53 1,m 53 92])))))) .skip)) (.seq (s [m 93 11,l 94 4,l 95 4,l 96 7,
 o 97 .add 95 96,q 98 .sub 97 1,c 99 57 [.t 93,.t 94,.t 98]] (.cond 99 (.exit 1) .skip)) (s [m 100 9,f 101 1 12,f 104 5 12,l 102 101,x 103 (.callv true (.t 100) [.t 102]),l 105 104,f 107 1 12,x 106 (.calla 112 [.t 105]),(.mk none none
 (.store 1 (.t 107) (.t 103))),f 108 5 12,(.mk none none (.store 1 (.t 108) (.t 106)))] (.seq (s [f 109 5 12,l 110 109,n 111 110,k 112 0] (B 6 (s [o 113 .lss 112 111] (C 113 6 (.seq (.block 7 (s [m 114 112,i 115 1 110 112,l 116 115,
 m 16 114,m 17 116] (.reg [f 117 5 12,m 119 16,m 120 9,m 121 17,l 118 117,x 122 (.callv true (.t 120) [.t 121]),i 123 1 118 119,(.mk none none (.store 1 (.t 123) (.t 122)))]))) (.reg [q 124 .add 112 1,m 112 124])))))) (.reg [f 125 0 10,
 l 126 125,h 127 6 12,x 128 (.bslice 6 [] 1 true [(0,(.t 127))]),x 129 (.append 6 72 (.t 126) (.t 128)),f 130 0 10,(.mk none none (.store 1 (.t 130) (.t 129)))]))))))) (.reg [q 131 .add 41 1,m 41 131])))))) (s [h 132 1 10,
 t 6 1 132] .ret))))))),[(.c 6 1 true)]⟩
theorem i116:iF 116 g116:=jF Tryz.func116 [(24,8208)]
def g117:GFun:=⟨⟨59,[2,4]⟩,(s [a 2 1 0,u 4 1] (s [x 9 (.build [(.val (.slice none 0 0))] []),x 5 (.alloc 1 (.agg [(.val (.slice none 0 0))])),(.mk none none (.store 1 (.t 5) (.t 9)))] (.seq (s [h 10 1 2,m 11 1,c 12 115 [.t 10,.t 11],
 k 13 0] (B 0 (s [o 14 .lss 13 12] (C 14 0 (.seq (.block 1 (s [m 15 13,m 6 15] (s [f 16 0 2,l 17 16,m 18 1,m 19 6,o 20 .add 18 19,i 21 6 17 20,h 22 6 21,x 7 (.alloc 6 (.agg [(.val (.int .i64 0)),(.val (.int .i64 0)),(.val (.int .i64 0)),
 (.val (.int .i64 0)),(.val (.string (ByteArray.mk #[]))),(.val (.slice none 0 0))])),(.mk none none (.store 6 (.t 7) (.t 22)))] (s [f 23 1 7,m 25 1,f 27 5 7,l 24 23,o 26 .sub 24 25,l 28 27,f 30 1 7,x 29 (.calla 112 [.t 28]),
 (.mk none none (.store 1 (.t 30) (.t 26))),f 31 5 7,(.mk none none (.store 1 (.t 31) (.t 29)))] (.seq (s [f 32 5 7,l 33 32,n 34 33,k 35 0] (B 2 (s [o 36 .lss 35 34] (C 36 2 (.seq (.block 3 (s [m 37 35,m 8 37] (.reg [f 38 5 7,l 39 38,
 m 40 8,i 41 1 39 40,l 42 41,m 43 1,o 44 .sub 42 43,i 45 1 39 40,(.mk none none (.store 1 (.t 45) (.t 44)))]))) (.reg [q 46 .add 35 1,m 35 46])))))) (.seq (s [m 47 6,q 48 .eql 47 0] (.cond 48 (.reg [f 49 1 7,(.mk none none (.store 1
 (.t 49) (.k (.val (.int .i64 (-1)))))),f 50 2 7,(.mk none none (.store 1 (.t 50) (.k (.val (.int .i64 0)))))]) .skip)) (.reg [f 51 0 5,l 52 51,h 53 6 7,x 54 (.bslice 6 [] 1 true [(0,(.t 53))]),x 55 (.append 6 72 (.t 52) (.t 54)),f 56 0 5,
 (.mk none none (.store 1 (.t 56) (.t 55)))]))))))) (.reg [q 57 .add 13 1,m 13 57])))))) (s [h 58 1 5,t 4 1 58] .ret)))),[(.c 4 1 true)]⟩
theorem i117:iF 117 g117:=jF Tryz.func117 [(6,8208)]
def g118:GFun:=⟨⟨50,[1]⟩,(s [a 1 2 0,k 2 0,k 3 0] (s [h 9 2 1,c 10 172 [.t 9],m 8 10,v 11 8 0,v 12 8 1,m 4 11,m 5 12] (.seq (s [m 13 4,q 14 .neq 13 0] (.cond 14 (s [m 15 4,m 16 5,m 2 15,m 3 16] .ret) .skip)) (.seq (s [k 6 0] (B 0
 (.seq (s [m 17 6,f 18 1 1,l 19 18,n 20 19,o 21 .lss 17 20] (.cond 21 .skip (.exit 0))) (.seq (.block 1 (s [f 25 1 1,m 27 6,h 24 2 1,l 26 25,i 28 6 26 27,h 29 6 28,x 30 (.call true 173 [.t 24,.t 29]),w 31 30] (.cond 31 (s [m 32 6,k 2 7,
 m 3 32] .ret) .skip))) (.reg [m 22 6,q 23 .add 22 1,m 6 23]))))) (.seq (s [k 7 0] (B 2 (.seq (s [m 33 7,f 34 0 1,l 35 34,n 36 35,o 37 .lss 33 36] (.cond 37 .skip (.exit 2))) (.seq (.block 3 (s [f 41 0 1,m 43 7,h 40 2 1,l 42 41,
 i 44 2 42 43,f 45 0 44,l 46 45,x 47 (.call true 174 [.t 40,.t 46]),w 48 47] (.cond 48 (s [m 49 7,k 2 8,m 3 49] .ret) .skip))) (.reg [m 38 7,q 39 .add 38 1,m 7 39]))))) (s [k 2 0,k 3 0] .ret)))))),[.t 2,.t 3]⟩
theorem i118:iF 118 g118:=jF Tryz.func118
def g119:GFun:=⟨⟨115,[3,5,6]⟩,(s [a 3 1 0,a 5 1 2,u 6 1] (s [h 14 1 3,m 15 1,c 16 21 [.t 14,.t 15],m 7 16] (.seq (s [m 17 7,q 18 .eql 17 0,m 19 18,z 20 19 (p 1 0 5),z 21 19 (r 1 20),z 22 19 (.len (.t 21)),z 23 19 (.bin .eql (.t 22)
 (.k (.val (.int .i64 0)))),x 24 (.pick (.t 19) (.k (.val (.bool true))) (.t 23))] (.cond 24 (s [h 25 1 3,c 26 65 [.t 25],t 6 1 26] .ret) .skip)) (s [x 27 (.build [(.val (.slice none 0 0))] []),x 8 (.alloc 1 (.agg [(.val
 (.slice none 0 0))])),(.mk none none (.store 1 (.t 8) (.t 27)))] (s [f 28 0 5,l 29 28,n 30 29,m 31 7,o 32 .sub 30 31,m 9 32] (.seq (s [k 10 0] (B 0 (.seq (s [m 33 10,m 34 1,o 35 .lss 33 34] (.cond 35 .skip (.exit 0))) (.seq (.block 1
 (.reg [f 38 0 8,f 40 0 3,m 42 10,m 45 1,m 46 7,o 47 .add 45 46,m 48 9,l 39 38,l 41 40,i 43 6 41 42,h 44 6 43,x 49 (.calla 175 [.t 44,.t 47,.t 48]),x 50 (.bslice 6 [] 1 true [(0,(.t 49))]),x 51 (.append 6 72 (.t 39) (.t 50)),f 52 0 8,
 (.mk none none (.store 1 (.t 52) (.t 51)))])) (.reg [m 36 10,q 37 .add 36 1,m 10 37]))))) (.seq (s [k 11 0] (B 2 (.seq (s [m 53 11,f 54 0 5,l 55 54,n 56 55,o 57 .lss 53 56] (.cond 57 .skip (.exit 2))) (.seq (.block 3 (s [f 60 0 5,l 61 60,
 m 62 11,i 63 6 61 62,h 64 6 63,m 65 1,c 66 176 [.t 64,.t 65],x 12 (.alloc 6 (.agg [(.val (.int .i64 0)),(.val (.int .i64 0)),(.val (.int .i64 0)),(.val (.int .i64 0)),(.val (.string (ByteArray.mk #[]))),(.val (.slice none 0 0))])),
 (.mk none none (.store 6 (.t 12) (.t 66)))] (.seq (s [m 67 11,q 68 .eql 67 0] (.cond 68 (s [f 69 0 3,l 70 69,m 71 1,i 72 6 70 71,f 73 1 72,l 74 73,f 75 1 12,(.mk none none (.store 1 (.t 75) (.t 74)))] (.reg [f 76 0 3,l 77 76,m 78 1,
 i 79 6 77 78,f 80 2 79,l 81 80,f 82 2 12,(.mk none none (.store 1 (.t 82) (.t 81)))])) .skip)) (.reg [f 83 0 8,l 84 83,h 85 6 12,x 86 (.bslice 6 [] 1 true [(0,(.t 85))]),x 87 (.append 6 72 (.t 84) (.t 86)),f 88 0 8,(.mk none none
 (.store 1 (.t 88) (.t 87)))])))) (.reg [m 58 11,q 59 .add 58 1,m 11 59]))))) (.seq (s [m 89 1,m 90 7,o 91 .add 89 90,m 13 91] (B 4 (.seq (s [m 92 13,f 93 0 3,l 94 93,n 95 94,o 96 .lss 92 95] (.cond 96 .skip (.exit 4))) (.seq (.block 5
 (.reg [f 99 0 8,f 101 0 3,m 103 13,m 106 1,m 107 7,o 108 .add 106 107,m 109 9,l 100 99,l 102 101,i 104 6 102 103,h 105 6 104,x 110 (.calla 175 [.t 105,.t 108,.t 109]),x 111 (.bslice 6 [] 1 true [(0,(.t 110))]),x 112 (.append 6 72
 (.t 100) (.t 111)),f 113 0 8,(.mk none none (.store 1 (.t 113) (.t 112)))])) (.reg [m 97 13,q 98 .add 97 1,m 13 98]))))) (s [h 114 1 8,t 6 1 114] .ret))))))))),[(.c 6 1 true)]⟩
theorem i119:iF 119 g119:=jF Tryz.func119 [(9,8388624),(21,8388624)]
def g120:GFun:=⟨⟨10,[]⟩,(s [k 4 0] (.seq (s [m 5 0,m 6 1,o 7 .lss 5 6] (.cond 7 (s [m 8 0,m 4 8] .ret) .skip)) (s [m 9 1,m 4 9] .ret))),[.t 4]⟩
theorem i120:iF 120 g120:=jF Tryz.func120
def g121:GFun:=⟨⟨10,[]⟩,(s [k 4 0] (.seq (s [m 5 0,m 6 1,o 7 .gtr 5 6] (.cond 7 (s [m 8 0,m 4 8] .ret) .skip)) (s [m 9 1,m 4 9] .ret))),[.t 4]⟩
theorem i121:iF 121 g121:=jF Tryz.func121
def g122:GFun:=⟨⟨39,[2,4]⟩,(s [a 2 1 0,u 4 1] (s [x 9 (.build [(.val (.slice none 0 0))] []),x 5 (.alloc 1 (.agg [(.val (.slice none 0 0))])),(.mk none none (.store 1 (.t 5) (.t 9)))] (s [h 10 1 2,m 11 1,c 12 21 [.t 10,.t 11],m 6 12]
 (.seq (s [k 7 0] (B 0 (.seq (s [m 13 7,m 14 6,o 15 .lss 13 14] (.cond 15 .skip (.exit 0))) (.seq (.block 1 (s [f 18 0 2,l 19 18,m 20 1,m 21 7,o 22 .add 20 21,i 23 6 19 22,h 24 6 23,m 25 1,x 26 (.bin .sub (.k (.val (.int .i64 0))) (.t 25)),
 c 27 176 [.t 24,.t 26],x 8 (.alloc 6 (.agg [(.val (.int .i64 0)),(.val (.int .i64 0)),(.val (.int .i64 0)),(.val (.int .i64 0)),(.val (.string (ByteArray.mk #[]))),(.val (.slice none 0 0))])),(.mk none none (.store 6 (.t 8) (.t 27)))]
 (.seq (s [m 28 7,q 29 .eql 28 0] (.cond 29 (s [f 30 1 8,(.mk none none (.store 1 (.t 30) (.k (.val (.int .i64 (-1))))))] (.reg [f 31 2 8,(.mk none none (.store 1 (.t 31) (.k (.val (.int .i64 0)))))])) .skip)) (.reg [f 32 0 5,l 33 32,
 h 34 6 8,x 35 (.bslice 6 [] 1 true [(0,(.t 34))]),x 36 (.append 6 72 (.t 33) (.t 35)),f 37 0 5,(.mk none none (.store 1 (.t 37) (.t 36)))])))) (.reg [m 16 7,q 17 .add 16 1,m 7 17]))))) (s [h 38 1 5,t 4 1 38] .ret))))),[(.c 4 1 true)]⟩
theorem i122:iF 122 g122:=jF Tryz.func122
def g123:GFun:=⟨⟨26,[]⟩,(s [b 4 false] (.seq (s [m 6 0,n 7 6,m 8 1,n 9 8,o 10 .neq 7 9] (.cond 10 (s [b 4 false] .ret) .skip)) (.seq (s [k 5 0] (B 0 (.seq (s [m 11 5,m 12 0,n 13 12,o 14 .lss 11 13] (.cond 14 .skip (.exit 0))) (.seq
 (.block 1 (s [m 17 0,m 18 5,i 19 1 17 18,m 21 1,m 22 5,i 23 1 21 22,l 20 19,l 24 23,o 25 .neq 20 24] (.cond 25 (s [b 4 false] .ret) .skip))) (.reg [m 15 5,q 16 .add 15 1,m 5 16]))))) (s [b 4 true] .ret)))),[.t 4]⟩
theorem i123:iF 123 g123:=jF Tryz.func123
def g124:GFun:=⟨⟨10,[1,2]⟩,(s [a 1 2 0,u 2 2] (s [f 3 0 1,x 4 (.loadr 1 false (.t 3)),f 6 1 1,x 7 (.loadr 1 false (.t 6)),x 5 (.bslice 4 [] 0 true []),x 8 (.append 4 40 (.t 5) (.t 7)),x 9 (.build [(.val (.string (ByteArray.mk #[]))),
 (.val (.slice none 0 0))] [(0,(1,(.t 4))),(1,(1,(.t 8)))]),t 2 2 9] .ret)),[(.c 2 2 true)]⟩
theorem i124:iF 124 g124:=jF Tryz.func124
def g126:GFun:=⟨⟨18,[]⟩,(s [b 4 false] (.seq (s [k 5 0] (B 0 (.seq (s [m 6 5,m 7 0,n 8 7,o 9 .lss 6 8] (.cond 9 .skip (.exit 0))) (.seq (.block 1 (s [m 12 0,m 13 5,i 14 1 12 13,l 15 14,m 16 1,o 17 .eql 15 16] (.cond 17
 (s [b 4 true] .ret) .skip))) (.reg [m 10 5,q 11 .add 10 1,m 5 11]))))) (s [b 4 false] .ret))),[.t 4]⟩
theorem i126:iF 126 g126:=jF Tryz.func126
def g127:GFun:=⟨⟨73,[1,2,6,1000003]⟩,(s [a 1 6 0,u 2 6] (s [f 7 0 1,x 8 (.loadr 1 false (.t 7)),f 9 1 1,x 10 (.loadr 1 false (.t 9)),f 11 3 1,x 12 (.loadr 1 false (.t 11)),f 14 2 1,x 15 (.loadr 1 false (.t 14)),u 3 6,x 13
 (.bslice 1 [] 0 false []),x 16 (.append 1 16 (.t 13) (.t 15)),x 17 (.build [(.val (.string (ByteArray.mk #[]))),(.val (.string (ByteArray.mk #[]))),(.val (.slice none 0 0)),(.val (.bool false)),(.val (.slice none 0 0)),(.val
 (.slice none 0 0))] [(0,(1,(.t 8))),(1,(1,(.t 10))),(3,(1,(.t 12))),(2,(1,(.t 16)))]),x 3 (.strb 6 3 (.t 17))] (.seq (s [k 4 0] (B 0 (.seq (s [m 18 4,f 19 4 1,l 20 19,n 21 20,o 22 .lss 18 21] (.cond 22 .skip (.exit 0))) (.seq (.block 1
 (.reg [f 25 4 3,f 27 4 1,m 29 4,f 33 4 1,m 35 4,l 26 25,l 28 27,i 30 9 28 29,e 31 0 2 30,h 32 2 31,l 34 33,i 36 9 34 35,e 37 2 7 36,h 38 7 37,x 39 (.call true 177 [.t 38]),x 40 (.build [(.val (.int .i64 0)),(.val (.string
 (ByteArray.mk #[]))),(.val (.int .i64 0)),(.val (.int .i64 0)),(.val (.int .i64 0)),(.val (.int .i64 0)),(.val (.string (ByteArray.mk #[]))),(.val (.string (ByteArray.mk #[]))),(.val (.slice none 0 0))] [(0,(2,(.t 32))),(2,(7,(.t 39)))]),
 x 41 (.bslice 9 [] 1 true [(0,(.t 40))]),x 42 (.append 9 112 (.t 26) (.t 41)),f 43 4 3,(.mk none none (.store 1 (.t 43) (.t 42)))])) (.reg [m 23 4,q 24 .add 23 1,m 4 24]))))) (.seq (s [k 5 0] (B 2 (.seq (s [m 44 5,f 45 5 1,l 46 45,n 47 46,
 o 48 .lss 44 47] (.cond 48 .skip (.exit 2))) (.seq (.block 3 (s [f 51 5 1,l 52 51,m 53 5,i 54 16 52 53,h 55 16 54,u 6 16,t 6 16 55] (.reg [f 56 5 3,f 58 0 6,f 60 1 6,e 62 2 7 6,e 65 9 7 6,l 57 56,l 59 58,l 61 60,h 63 7 62,x 64
 (.call true 177 [.t 63]),h 66 7 65,x 67 (.call true 177 [.t 66]),x 68 (.build [(.val (.string (ByteArray.mk #[]))),(.val (.string (ByteArray.mk #[]))),(.val (.int .i64 0)),(.val (.int .i64 0)),(.val (.int .i64 0)),(.val (.int .i64 0)),
 (.val (.string (ByteArray.mk #[]))),(.val (.string (ByteArray.mk #[]))),(.val (.slice none 0 0)),(.val (.int .i64 0)),(.val (.int .i64 0)),(.val (.int .i64 0)),(.val (.int .i64 0)),(.val (.string (ByteArray.mk #[]))),(.val (.string
 (ByteArray.mk #[]))),(.val (.slice none 0 0))] [(0,(1,(.t 59))),(1,(1,(.t 61))),(2,(7,(.t 64))),(9,(7,(.t 67)))]),x 69 (.bslice 16 [] 1 true [(0,(.t 68))]),x 70 (.append 16 208 (.t 57) (.t 69)),f 71 5 3,(.mk none none (.store 1 (.t 71)
 (.t 70)))]))) (.reg [m 49 5,q 50 .add 49 1,m 5 50]))))) (s [h 72 6 3,t 2 6 72] .ret))))),[(.c 2 6 true)]⟩
theorem i127:iF 127 g127:=jF Tryz.func127
def g130:GFun:=⟨⟨6,[]⟩,(s [k 2 0] (s [m 3 0,c 4 120 [(.k (.val (.int .i64 1000000))),.t 3],c 5 121 [(.k (.val (.int .i64 (-1000000)))),.t 4],m 2 5] .ret)),[.t 2]⟩
theorem i130:iF 130 g130:=jF Tryz.func130
def g131:GFun:=⟨⟨4,[]⟩,(s [k 2 0] (.seq (s [m 3 0] (.cond 3 (s [k 2 1] .ret) .skip)) (s [k 2 0] .ret))),[.t 2]⟩
theorem i131:iF 131 g131:=jF Tryz.func131
def g138:GFun:=⟨⟨9,[]⟩,(s [b 4 false] (s [m 5 0,m 6 1,c 7 182 [.t 5,.t 6],q 8 .geq 7 0,m 4 8] .ret)),[.t 4]⟩
theorem i138:iF 138 g138:=jF Tryz.func138
def g140:GFun:=⟨⟨9,[]⟩,(s [b 4 false] (s [m 5 0,m 6 1,c 7 183 [.t 5,.t 6],q 8 .geq 7 0,m 4 8] .ret)),[.t 4]⟩
theorem i140:iF 140 g140:=jF Tryz.func140
def g141:GFun:=⟨⟨38,[1,5,7]⟩,(s [a 1 6 0,x 2 (.mov (.k (.val (.slice none 0 0))))] (s [x 8 (.bslice 7 [] 0 true []),m 3 8] (.seq (s [f 9 4 1,l 10 9,n 11 10,k 12 0] (B 0 (s [o 13 .lss 12 11] (C 13 0 (.seq (.block 1 (s [i 14 9 10 12,
 h 15 9 14,u 5 9,t 5 9 15] (.reg [m 16 3,e 17 2 7 5,h 18 7 17,x 19 (.bslice 7 [] 1 true [(0,(.t 18))]),x 20 (.append 7 88 (.t 16) (.t 19)),m 3 20]))) (.reg [q 21 .add 12 1,m 12 21])))))) (.seq (s [f 22 5 1,l 23 22,n 24 23,k 25 0] (B 2
 (s [o 26 .lss 25 24] (C 26 2 (.seq (.block 3 (s [i 27 16 23 25,h 28 16 27,u 7 16,t 7 16 28] (.reg [m 29 3,e 30 2 7 7,h 31 7 30,e 32 9 7 7,h 33 7 32,x 34 (.bslice 7 [] 2 true [(0,(.t 31)),(1,(.t 33))]),x 35 (.append 7 88 (.t 29) (.t 34)),
 m 3 35]))) (.reg [q 36 .add 25 1,m 25 36])))))) (s [m 37 3,m 2 37] .ret))))),[.t 2]⟩
theorem i141:iF 141 g141:=jF Tryz.func141
def g143:GFun:=⟨⟨9,[]⟩,(s [b 4 false] (s [m 5 0,m 6 1,c 7 186 [.t 5,.t 6],q 8 .geq 7 0,m 4 8] .ret)),[.t 4]⟩
theorem i143:iF 143 g143:=jF Tryz.func143
def g145:GFun:=⟨⟨9,[]⟩,(s [b 4 false] (s [m 5 0,m 6 1,c 7 187 [.t 5,.t 6],q 8 .geq 7 0,m 4 8] .ret)),[.t 4]⟩
theorem i145:iF 145 g145:=jF Tryz.func145
def g146:GFun:=⟨⟨9,[]⟩,(s [b 4 false] (s [m 5 0,m 6 1,c 7 113 [.t 5,.t 6],q 8 .geq 7 0,m 4 8] .ret)),[.t 4]⟩
theorem i146:iF 146 g146:=jF Tryz.func146
def g147:GFun:=⟨⟨9,[2]⟩,(s [a 2 6 0,b 3 false] (s [f 4 0 2,l 5 4,f 6 0 1,l 7 6,o 8 .eql 5 7,m 3 8] .ret)),[.t 3]⟩
theorem i147:iF 147 g147:=jF Tryz.func147
def g148:GFun:=⟨⟨110,[6,7,13,14]⟩,(s [a 6 2 0,a 7 1 1,k 12 0] (.seq (s [m 19 2,f 20 0 7,l 21 20,n 22 21,o 23 .geq 19 22] (.cond 23 (s [k 12 (-1)] .ret) .skip)) (s [f 24 0 7,l 25 24,m 26 2,i 27 6 25 26,h 28 6 27,u 13 6,t 13 6 28]
 (s [h 30 2 6,f 31 4 13,l 32 31,c 33 62 [.t 30,.t 32],m 29 33,v 34 29 0,v 35 29 1,u 14 6,t 14 6 34,m 15 35] (.seq (s [m 36 15,w 37 36,m 38 37,z 39 38 (p 1 1 14),z 40 38 (r 1 39),z 41 38 (.mov (.t 5)),z 42 38 (.bin .neq (.t 40) (.t 41)),
 x 43 (.pick (.t 38) (.k (.val (.bool true))) (.t 42)),m 44 43,z 45 44 (p 1 1 13),z 46 44 (r 1 45),z 47 44 (.mov (.t 3)),z 48 44 (.bin .neq (.t 46) (.t 47)),x 49 (.pick (.t 44) (.k (.val (.bool true))) (.t 48)),m 50 49,z 51 50 (p 1 2 13),
 z 52 50 (r 1 51),z 53 50 (.mov (.t 4)),z 54 50 (.bin .neq (.t 52) (.t 53)),x 55 (.pick (.t 50) (.k (.val (.bool true))) (.t 54)),m 56 55,z 57 56 (p 1 5 13),z 58 56 (r 1 57),z 59 56 (.len (.t 58)),z 60 56 (p 1 2 14),z 61 56 (r 1 60),
 z 62 56 (.len (.t 61)),z 63 56 (.bin .neq (.t 59) (.t 62)),x 64 (.pick (.t 56) (.k (.val (.bool true))) (.t 63)),m 65 64,z 66 65 (p 1 3 13),z 67 65 (r 1 66),z 68 65 (.call false 57 [.t 67,(.k (.val (.int .i64 (-1000000)))),(.k (.val
 (.int .i64 1000000)))]),z 69 65 (.not (.t 68)),x 70 (.pick (.t 65) (.k (.val (.bool true))) (.t 69)),m 71 70,z 72 71 (p 1 3 14),z 73 71 (r 1 72),z 74 71 (.not (.t 73)),z 75 71 (.mov (.t 74)),y 76 75 (p 1 3 13),y 77 75 (r 1 76),y 78 75
 (.bin .neq (.t 77) (.k (.val (.int .i64 0)))),z 79 71 (.pick (.t 75) (.t 78) (.k (.val (.bool false)))),x 80 (.pick (.t 71) (.k (.val (.bool true))) (.t 79))] (.cond 80 (s [k 12 (-1)] .ret) .skip)) (s [m 81 2,q 82 .add 81 1,m 16 82]
 (.seq (s [f 83 5 13,l 84 83,n 85 84,k 86 0] (B 0 (s [o 87 .lss 86 85] (C 87 0 (.seq (.block 1 (s [m 88 86,i 89 1 84 86,l 90 89,m 17 88,m 18 90] (.seq (s [m 91 18,m 92 16,o 93 .neq 91 92] (.cond 93 (s [k 12 (-1)] .ret) .skip)) (s [m 96 16,
 m 97 2,m 98 17,q 99 .add 98 1,f 100 2 14,m 102 17,h 94 2 6,h 95 1 7,l 101 100,i 103 1 101 102,l 104 103,x 105 (.call true 148 [.t 94,.t 95,.t 96,.t 97,.t 99,.t 104]),m 16 105] (s [m 106 16,q 107 .lss 106 0] (.cond 107 (s [k 12
 (-1)] .ret) .skip)))))) (.reg [q 108 .add 86 1,m 86 108])))))) (s [m 109 16,m 12 109] .ret)))))))),[.t 12]⟩
theorem i148:iF 148 g148:=jF Tryz.func148
def g151:GFun:=⟨⟨15,[1]⟩,(s [a 1 7 0,b 2 false] (s [h 3 7 1,c 4 190 [.t 3],q 5 .leq 4 24,m 6 5,y 7 6 (j 7 1),y 8 6 (.call false 191 [.t 7]),y 9 6 (.bin .leq (.t 8) (.k (.val (.int .i64 6)))),x 10 (.pick (.t 6) (.t 9) (.k (.val
 (.bool false)))),m 11 10,y 12 11 (j 7 1),y 13 11 (.call false 184 [.t 12,(.k (.clo 192 []))]),x 14 (.pick (.t 11) (.t 13) (.k (.val (.bool false)))),m 2 14] .ret)),[.t 2]⟩
theorem i151:iF 151 g151:=jF Tryz.func151
def g157:GFun:=⟨⟨30,[2,3,4]⟩,(s [a 2 6 0,a 3 2 1,u 4 7,b 5 false] (.seq (s [k 6 0] (B 0 (.seq (s [m 7 6,f 8 4 2,l 9 8,n 10 9,o 11 .lss 7 10] (.cond 11 .skip (.exit 0))) (.seq (.block 1 (s [f 14 4 2,m 16 6,l 15 14,i 17 9 15 16,
 e 18 0 2 17,h 19 2 18,h 20 2 3,x 21 (.aeq false [1,2] (.t 19) (.t 20))] (.cond 21 (s [f 22 4 2,l 23 22,m 24 6,i 25 9 23 24,e 26 2 7 25,h 27 7 26,c 28 177 [.t 27],t 4 7 28,b 5 true] .ret) .skip))) (.reg [m 12 6,q 13 .add 12 1,m 6 13])))))
 (s [x 29 (.build [(.val (.int .i64 0)),(.val (.int .i64 0)),(.val (.int .i64 0)),(.val (.int .i64 0)),(.val (.string (ByteArray.mk #[]))),(.val (.string (ByteArray.mk #[]))),(.val (.slice none 0 0))] []),t 4 7 29,b 5 false] .ret))),
 [(.c 4 7 true),.t 5]⟩
theorem i157:iF 157 g157:=jF Tryz.func157
def g158:GFun:=⟨⟨15,[1]⟩,(s [a 1 7 0,b 2 false] (s [h 3 7 1,c 4 194 [.t 3,(.k (.val (.int .i64 24)))],q 5 .geq 4 0,m 6 5,y 7 6 (j 7 1),y 8 6 (.call false 195 [.t 7]),y 9 6 (.bin .leq (.t 8) (.k (.val (.int .i64 6)))),x 10 (.pick
 (.t 6) (.t 9) (.k (.val (.bool false)))),m 11 10,y 12 11 (j 7 1),y 13 11 (.call false 196 [.t 12]),x 14 (.pick (.t 11) (.t 13) (.k (.val (.bool false)))),m 2 14] .ret)),[.t 2]⟩
theorem i158:iF 158 g158:=jF Tryz.func158
def g161:GFun:=⟨⟨56,[2,3,7]⟩,(s [a 2 2 0,a 3 6 1,x 4 (.mov (.k (.val (.slice none 0 0))))] (s [x 11 (.bslice 2 [] 0 true []),m 5 11] (.seq (s [k 6 0] (B 0 (.seq (s [m 12 6,f 13 2 3,l 14 13,n 15 14,o 16 .leq 12 15] (.cond 16 .skip
 (.exit 0))) (.seq (.block 1 (s [m 22 6,u 7 2,h 20 2 2,h 21 6 3,x 23 (.call true 162 [.t 21,.t 22]),x 24 (.call true 72 [.t 20,.t 23]),m 19 24,v 25 19 0,v 26 19 1,t 7 2 25,m 8 26] (s [k 9 1] (.seq (s [m 27 6,q 28 .eql 27 0] (.cond 28
 (.reg [k 9 2]) .skip)) (s [k 10 0] (B 2 (.seq (s [m 29 10,f 30 1 7,l 31 30,n 32 31,o 33 .lss 29 32] (.cond 33 .skip (.exit 2))) (.seq (.block 3 (s [f 36 1 7,l 37 36,m 38 10,i 39 4 37 38,f 40 2 39,l 41 40,m 42 9,o 43 .eql 41 42] (.cond 43
 (.reg [m 44 5,m 45 6,f 46 1 7,l 47 46,m 48 10,i 49 4 47 48,f 50 0 49,l 51 50,x 52 (.build [(.val (.int .i64 0)),(.val (.string (ByteArray.mk #[])))] [(0,(1,(.t 45))),(1,(1,(.t 51)))]),x 53 (.bslice 2 [] 1 true [(0,(.t 52))]),x 54
 (.append 2 24 (.t 44) (.t 53)),m 5 54]) .skip))) (.reg [m 34 10,q 35 .add 34 1,m 10 35]))))))))) (.reg [m 17 6,q 18 .add 17 1,m 6 18]))))) (s [m 55 5,m 4 55] .ret)))),[.t 4]⟩
theorem i161:iF 161 g161:=jF Tryz.func161
def g162:GFun:=⟨⟨21,[2]⟩,(s [a 2 6 0,x 4 (.mov (.k (.val (.string (ByteArray.mk #[])))))] (.seq (s [m 5 1,q 6 .eql 5 0] (.cond 6 (s [f 7 1 2,l 8 7,m 4 8] .ret) .skip)) (.seq (s [m 9 1,f 10 2 2,l 11 10,n 12 11,c 13 64 [.t 9,(.k (.val
 (.int .i64 1))),.t 12],w 14 13] (.cond 14 (s [x 4 (.mov (.k (.val (.string (ByteArray.mk #[])))))] .ret) .skip)) (s [f 15 2 2,l 16 15,m 17 1,q 18 .sub 17 1,i 19 1 16 18,l 20 19,m 4 20] .ret)))),[.t 4]⟩
theorem i162:iF 162 g162:=jF Tryz.func162
def g163:GFun:=⟨⟨155,[7,8,12,13,14,3000124,3000129,3000110]⟩,(s [a 7 2 1,a 8 6 2,u 12 7] (.seq (s [m 19 4,q 20 .lss 19 2,m 21 20,z 22 21 (.mov (.t 0)),z 23 21 (.call false 41 [.t 22,(.k (.val (.int .i64 3)))]),x 24 (.pick (.t 21) (.k
 (.val (.bool true))) (.t 23))] (.cond 24 (.seq (s [m 25 3,q 26 .eql 25 1,m 27 26,y 28 27 (p 1 3 8),y 29 27 (r 1 28),x 30 (.pick (.t 27) (.t 29) (.k (.val (.bool false)))),m 31 30,y 32 31 (.mov (.t 0)),y 33 31 (.call false 41 [.t 32,(.k
 (.val (.int .i64 3)))]),x 34 (.pick (.t 31) (.t 33) (.k (.val (.bool false))))] (.cond 34 (s [x 35 (.build [(.val (.int .i64 0)),(.val (.int .i64 0)),(.val (.int .i64 0)),(.val (.int .i64 0)),(.val (.string (ByteArray.mk #[]))),(.val
 (.string (ByteArray.mk #[]))),(.val (.slice none 0 0))] [(0,(1,(.k (.val (.int .i64 2)))))]),t 12 7 35] .ret) .skip)) (s [m 36 0,m 37 3,h 38 2 7,h 39 6 8,m 40 3,c 41 165 [.t 38,.t 39,.t 40],c 42 164 [.t 36,.t 37,.t 41],
 t 12 7 42] .ret)) .skip)) (.seq (s [m 43 5,m 44 43,y 45 44 (.mov (.t 0)),y 46 44 (.call false 41 [.t 45,(.k (.val (.int .i64 4)))]),x 47 (.pick (.t 44) (.t 46) (.k (.val (.bool false))))] (.cond 47 (s [f 48 0 7,m 50 0,f 51 0 7,u 13 2,
 l 49 48,l 52 51,n 53 52,x 54 (.calla 42 [.t 50,.t 53]),i 55 2 49 54,h 56 2 55,t 13 2 56] (s [f 57 1 13,m 59 0,f 60 1 13,u 14 4,l 58 57,l 61 60,n 62 61,x 63 (.calla 42 [.t 59,.t 62]),i 64 4 58 63,h 65 4 64,t 14 4 65] (s [f 66 1 14,l 67 66,
 m 68 3,o 69 .eql 67 68] (.cond 69 (s [f 70 0 13,f 72 0 14,m 74 0,l 71 70,l 73 72,h 75 2 7,h 76 6 8,x 77 (.call true 165 [.t 75,.t 76,(.k (.val (.int .i64 4)))]),x 78 (.calla 164 [.t 74,(.k (.val (.int .i64 4))),.t 77]),x 79
 (.bslice 7 [] 1 true [(0,(.t 78))]),x 80 (.build [(.val (.int .i64 0)),(.val (.int .i64 0)),(.val (.int .i64 0)),(.val (.int .i64 0)),(.val (.string (ByteArray.mk #[]))),(.val (.string (ByteArray.mk #[]))),(.val (.slice none 0 0))] [(0,(1,
 (.k (.val (.int .i64 8))))),(4,(1,(.t 71))),(5,(1,(.t 73))),(6,(1,(.t 79)))]),t 12 7 80] .ret) .skip)))) .skip)) (.seq (s [m 81 0,c 82 41 [.t 81,(.k (.val (.int .i64 6)))]] (.cond 82 (s [m 83 0,m 86 4,q 87 .sub 86 1,m 88 5,m 90 0,m 93 3,
 m 94 4,q 95 .sub 94 1,m 96 5,m 98 0,m 101 3,m 102 4,q 103 .sub 102 1,m 104 5,h 84 2 7,h 85 6 8,h 91 2 7,h 92 6 8,h 99 2 7,h 100 6 8,x 89 (.calla 163 [.t 83,.t 84,.t 85,(.k (.val (.int .i64 3))),.t 87,.t 88]),x 97 (.calla 163 [.t 90,.t 91,
 .t 92,.t 93,.t 95,.t 96]),x 105 (.calla 163 [.t 98,.t 99,.t 100,.t 101,.t 103,.t 104]),x 106 (.bslice 7 [] 3 true [(0,(.t 89)),(1,(.t 97)),(2,(.t 105))]),x 107 (.build [(.val (.int .i64 0)),(.val (.int .i64 0)),(.val (.int .i64 0)),(.val
 (.int .i64 0)),(.val (.string (ByteArray.mk #[]))),(.val (.string (ByteArray.mk #[]))),(.val (.slice none 0 0))] [(0,(1,(.k (.val (.int .i64 5))))),(6,(1,(.t 106)))]),t 12 7 107] .ret) .skip)) (s [k 15 0] (.seq (s [m 108 3] (.block 0
 (s [q 113 .eql 108 4,m 112 113] (.cond 112 (s [m 114 0,m 115 3,h 116 2 7,h 117 6 8,m 118 3,c 119 165 [.t 116,.t 117,.t 118],c 120 164 [.t 114,.t 115,.t 119],t 12 7 120] .ret) (s [q 122 .eql 108 1,m 121 122] (.cond 121 (.reg [m 123 0,
 x 124 (.bslro 1 [] 6 false [(0,(.k (.val (.int .i64 1)))),(1,(.k (.val (.int .i64 1)))),(2,(.k (.val (.int .i64 2)))),(3,(.k (.val (.int .i64 3)))),(4,(.k (.val (.int .i64 4)))),(5,(.k (.val (.int .i64 5))))]),c 125 110 [.t 123,.t 124],
 m 15 125]) (s [q 127 .eql 108 2,m 126 127] (.cond 126 (.reg [m 128 0,x 129 (.bslro 1 [] 5 false [(0,(.k (.val (.int .i64 6)))),(1,(.k (.val (.int .i64 6)))),(2,(.k (.val (.int .i64 7)))),(3,(.k (.val (.int .i64 8)))),(4,(.k (.val
 (.int .i64 12))))]),c 130 110 [.t 128,.t 129],m 15 130]) (.reg [m 109 0,x 110 (.bslro 1 [] 3 false [(0,(.k (.val (.int .i64 9)))),(1,(.k (.val (.int .i64 10)))),(2,(.k (.val (.int .i64 11))))]),c 111 110 [.t 109,.t 110],
 m 15 111]))))))))) (s [m 132 15,c 133 199 [.t 132],m 131 133,v 134 131 0,v 135 131 1,v 136 131 2,m 16 134,m 17 135,m 18 136] (s [m 137 15,m 138 0,m 141 16,m 142 4,q 143 .sub 142 1,m 144 5,m 146 0,m 149 17,m 150 4,q 151 .sub 150 1,m 152 5,
 h 139 2 7,h 140 6 8,h 147 2 7,h 148 6 8,x 145 (.calla 163 [.t 138,.t 139,.t 140,.t 141,.t 143,.t 144]),x 153 (.calla 163 [.t 146,.t 147,.t 148,.t 149,.t 151,.t 152]),x 154 (.calla 200 [.t 137,.t 145,.t 153]),t 12 7 154] .ret)))))))),
 [(.c 12 7 true)]⟩
theorem i163:iF 163 g163:=jF Tryz.func163 [(6,8208),(7,8208),(9,131088),(11,35184908967952),(22,42949804048)]
def g164:GFun:=⟨⟨52,[6,7]⟩,(s [u 6 7] (.seq (s [m 8 2,n 9 8,q 10 .gtr 9 0,m 11 10,y 12 11 (.mov (.t 0)),y 13 11 (.call false 41 [.t 12,(.k (.val (.int .i64 4)))]),y 14 11 (.not (.t 13)),x 15 (.pick (.t 11) (.t 14) (.k (.val
 (.bool false))))] (.cond 15 (s [m 16 2,m 17 0,m 18 2,n 19 18,c 20 42 [.t 17,.t 19],i 21 2 16 20,h 22 2 21,u 7 2,t 7 2 22] (s [f 23 0 7,l 24 23,f 25 1 7,l 26 25,x 27 (.build [(.val (.int .i64 0)),(.val (.int .i64 0)),(.val (.int .i64 0)),
 (.val (.int .i64 0)),(.val (.string (ByteArray.mk #[]))),(.val (.string (ByteArray.mk #[]))),(.val (.slice none 0 0))] [(0,(1,(.k (.val (.int .i64 3))))),(2,(1,(.t 24))),(5,(1,(.t 26)))]),t 6 7 27] .ret)) .skip)) (.seq (s [m 28 1]
 (.block 0 (s [q 30 .eql 28 4,m 29 30] (.cond 29 (.seq (s [m 31 0,c 32 41 [.t 31,(.k (.val (.int .i64 3)))]] (.cond 32 (s [x 33 (.build [(.val (.int .i64 0)),(.val (.int .i64 0)),(.val (.int .i64 0)),(.val (.int .i64 0)),(.val (.string
 (ByteArray.mk #[]))),(.val (.string (ByteArray.mk #[]))),(.val (.slice none 0 0))] [(0,(1,(.k (.val (.int .i64 7)))))]),t 6 7 33] .ret) .skip)) (s [x 34 (.build [(.val (.int .i64 0)),(.val (.int .i64 0)),(.val (.int .i64 0)),(.val
 (.int .i64 0)),(.val (.string (ByteArray.mk #[]))),(.val (.string (ByteArray.mk #[]))),(.val (.slice none 0 0))] [(0,(1,(.k (.val (.int .i64 6)))))]),t 6 7 34] .ret)) (s [q 36 .eql 28 3,m 35 36] (.cond 35 (s [m 37 0,c 38 42 [.t 37,(.k
 (.val (.int .i64 2)))],m 39 1,c 40 201 [.t 38,.t 39],t 6 7 40] .ret) (s [q 42 .eql 28 2,m 41 42] (.cond 41 (s [m 43 0,c 44 42 [.t 43,(.k (.val (.int .i64 12)))],x 45 (.conv .u64 (.t 44)),x 46 (.bin .shl (.k (.val (.int .i64 1))) (.t 45)),
 m 47 1,c 48 201 [.t 46,.t 47],t 6 7 48] .ret) .skip)))))))) (s [m 49 0,c 50 42 [.t 49,(.k (.val (.int .i64 9)))],c 51 201 [.t 50,(.k (.val (.int .i64 1)))],t 6 7 51] .ret)))),[(.c 6 7 true)]⟩
theorem i164:iF 164 g164:=jF Tryz.func164
def g165:GFun:=⟨⟨73,[3,4,9,12]⟩,(s [a 3 2 0,a 4 6 1,x 6 (.mov (.k (.val (.slice none 0 0))))] (s [x 14 (.bslice 2 [] 0 true []),m 7 14] (.seq (s [k 8 0] (B 0 (.seq (s [m 15 8,f 16 2 4,l 17 16,n 18 17,o 19 .leq 15 18] (.cond 19 .skip
 (.exit 0))) (.seq (.block 1 (s [m 25 8,u 9 2,h 23 2 3,h 24 6 4,x 26 (.call true 162 [.t 24,.t 25]),x 27 (.call true 72 [.t 23,.t 26]),m 22 27,v 28 22 0,v 29 22 1,t 9 2 28,m 10 29] (s [k 11 0] (B 2 (.seq (s [m 30 11,f 31 1 9,l 32 31,
 n 33 32,o 34 .lss 30 33] (.cond 34 .skip (.exit 2))) (.seq (.block 3 (s [f 37 1 9,l 38 37,m 39 11,i 40 4 38 39,h 41 4 40,u 12 4,t 12 4 41] (s [m 42 8,q 43 .eql 42 0,m 44 43,y 45 44 (p 1 2 12),y 46 44 (r 1 45),y 47 44 (.bin .eql (.t 46)
 (.k (.val (.int .i64 1)))),x 48 (.pick (.t 44) (.t 47) (.k (.val (.bool false)))),m 49 48,z 50 49 (.mov (.t 8)),z 51 49 (.bin .gtr (.t 50) (.k (.val (.int .i64 0)))),z 52 49 (.mov (.t 51)),y 53 52 (p 1 2 12),y 54 52 (r 1 53),y 55 52
 (.bin .eql (.t 54) (.k (.val (.int .i64 2)))),z 56 49 (.pick (.t 52) (.t 55) (.k (.val (.bool false)))),x 57 (.pick (.t 49) (.k (.val (.bool true))) (.t 56)),m 13 57] (s [f 58 1 12,l 59 58,m 60 2,o 61 .eql 59 60,m 62 61,y 63 62 (.mov
 (.t 13)),x 64 (.pick (.t 62) (.t 63) (.k (.val (.bool false))))] (.cond 64 (.reg [m 65 7,m 66 8,f 67 0 12,l 68 67,x 69 (.build [(.val (.int .i64 0)),(.val (.string (ByteArray.mk #[])))] [(0,(1,(.t 66))),(1,(1,(.t 68)))]),x 70
 (.bslice 2 [] 1 true [(0,(.t 69))]),x 71 (.append 2 24 (.t 65) (.t 70)),m 7 71]) .skip))))) (.reg [m 35 11,q 36 .add 35 1,m 11 36]))))))) (.reg [m 20 8,q 21 .add 20 1,m 8 21]))))) (s [m 72 7,m 6 72] .ret)))),[.t 6]⟩
theorem i165:iF 165 g165:=jF Tryz.func165
def g166:GFun:=⟨⟨101,[5,8,13,17]⟩,(s [a 5 2 1,u 8 6] (s [h 19 2 5,m 20 2,c 21 202 [.t 19,.t 20],m 9 21] (s [x 22 (.build [(.val (.string (ByteArray.mk #[]))),(.val (.string (ByteArray.mk #[]))),(.val (.slice none 0 0)),(.val
 (.bool false)),(.val (.slice none 0 0)),(.val (.slice none 0 0))] []),x 10 (.alloc 6 (.agg [(.val (.string (ByteArray.mk #[]))),(.val (.string (ByteArray.mk #[]))),(.val (.slice none 0 0)),(.val (.bool false)),(.val (.slice none 0 0)),
 (.val (.slice none 0 0))])),(.mk none none (.store 6 (.t 10) (.t 22)))] (s [h 23 2 5,c 24 203 [.t 23],m 11 24] (.seq (s [k 12 0] (B 0 (.seq (s [m 25 12,m 26 9,n 27 26,o 28 .lss 25 27] (.cond 28 .skip (.exit 0))) (.seq (.block 1 (s [m 33 9,
 m 34 12,i 35 1 33 34,u 13 6,h 32 2 5,l 36 35,x 37 (.call true 76 [.t 32,.t 36]),m 31 37,v 38 31 0,v 39 31 1,t 13 6 38,m 14 39] (s [b 15 true] (.seq (s [k 16 0] (B 2 (.seq (s [m 40 16,f 41 2 13,l 42 41,n 43 42,o 44 .lss 40 43]
 (.cond 44 .skip (.exit 2))) (.seq (.block 3 (.reg [m 47 15,m 48 47,y 49 48 (.mov (.t 11)),y 51 48 (p 1 2 13),y 53 48 (.mov (.t 16)),y 60 48 (.mov (.t 11)),y 62 48 (.mov (.t 2)),y 50 48 (j 2 5),y 52 48 (r 1 51),y 54 48 (.iaddr 1 (.t 52)
 (.t 53)),y 55 48 (r 1 54),y 56 48 (.call true 204 [.t 50,.t 55]),y 57 48 (.call true 121 [(.k (.val (.int .i64 0))),.t 56]),y 58 48 (.iaddr 1 (.t 49) (.t 57)),y 59 48 (r 1 58),y 61 48 (j 2 5),y 63 48 (.call true 204 [.t 61,.t 62]),
 y 64 48 (.call true 121 [(.k (.val (.int .i64 0))),.t 63]),y 65 48 (.iaddr 1 (.t 60) (.t 64)),y 66 48 (r 1 65),y 67 48 (.bin .lss (.t 59) (.t 66)),x 68 (.pick (.t 48) (.t 67) (.k (.val (.bool false)))),m 15 68])) (.reg [m 45 16,
 q 46 .add 45 1,m 16 46]))))) (s [m 69 15,m 70 69,y 71 70 (p 1 0 10),y 72 70 (r 1 71),y 73 70 (.bin .eql (.t 72) (.k (.val (.string (ByteArray.mk #[]))))),x 74 (.pick (.t 70) (.t 73) (.k (.val (.bool false))))] (.cond 74 (.reg [h 75 6 13,
 (.mk none none (.store 6 (.t 10) (.t 75)))]) .skip)))))) (.reg [m 29 12,q 30 .add 29 1,m 12 30]))))) (.seq (s [m 76 9,n 77 76,q 78 .eql 77 0,m 79 78,z 80 79 (.mov (.t 3)),z 81 79 (.bin .lss (.t 80) (.k (.val (.int .i64 5)))),x 82 (.pick
 (.t 79) (.k (.val (.bool true))) (.t 81)),m 83 82,z 84 83 (.mov (.t 0)),z 85 83 (.call false 41 [.t 84,(.k (.val (.int .i64 4)))]),x 86 (.pick (.t 83) (.k (.val (.bool true))) (.t 85))] (.cond 86 (s [h 87 6 10,t 8 6 87] .ret) .skip))
 (s [m 90 9,m 91 0,m 92 9,n 93 92,u 17 6,h 89 2 5,x 94 (.calla 42 [.t 91,.t 93]),i 95 1 90 94,l 96 95,x 97 (.call true 76 [.t 89,.t 96]),m 88 97,v 98 88 0,v 99 88 1,t 17 6 98,m 18 99] (s [h 100 6 17,t 8 6 100] .ret)))))))),[(.c 8 6 true)]⟩
theorem i166:iF 166 g166:=jF Tryz.func166 [(17,2064)]
def g167:GFun:=⟨⟨96,[4,4037005,5029005]⟩,(s [x 2 (.box 6 (.t 0)),u 4 1] (s [f 12 1 2,(.mk none none (.store 1 (.t 12) (.k (.val (.int .i64 (-1))))))] (s [f 13 2 2,(.mk none none (.store 1 (.t 13) (.k (.val (.int .i64 0)))))] (s [x 14
 (.bslice 1 [] 0 false []),f 15 5 2,(.mk none none (.store 1 (.t 15) (.t 14)))] (s [h 16 6 2,x 17 (.bslice 6 [] 1 true [(0,(.t 16))]),x 18 (.build [(.val (.slice none 0 0))] [(0,(1,(.t 17)))]),x 5 (.alloc 1 (.agg [(.val
 (.slice none 0 0))])),(.mk none none (.store 1 (.t 5) (.t 18)))] (.seq (s [k 6 0] (B 0 (.seq (s [m 19 6,m 20 1,n 21 20,o 22 .lss 19 21] (.cond 22 .skip (.exit 0))) (.seq (.block 1 (s [f 25 0 5,l 26 25,n 27 26,m 7 27] (s [f 28 0 5,f 30 0 5,
 m 35 7,x 29 (.ldx 1 false 28 5),l 31 30,x 32 (.iaddr 6 (.t 31) (.k (.val (.int .i64 0)))),f 33 5 32,l 34 33,x 36 (.bslice 1 [] 1 false [(0,(.t 35))]),x 37 (.appx [5] 1 8 (.t 34) (.t 36)),x 38 (.iaddr 6 (.t 29) (.k (.val (.int .i64 0)))),
 f 39 5 38,(.mk none none (.store 1 (.t 39) (.t 37)))] (s [k 8 0] (B 2 (.seq (s [m 40 8,m 41 1,m 42 6,i 43 1 41 42,f 44 0 43,l 45 44,n 46 45,o 47 .lss 40 46] (.cond 47 .skip (.exit 2))) (.seq (.block 3 (s [m 50 1,m 51 6,i 52 1 50 51,
 f 53 0 52,l 54 53,m 55 8,i 56 6 54 55,h 57 6 56,x 9 (.alloc 6 (.agg [(.val (.int .i64 0)),(.val (.int .i64 0)),(.val (.int .i64 0)),(.val (.int .i64 0)),(.val (.string (ByteArray.mk #[]))),(.val (.slice none 0 0))])),(.mk none none
 (.store 6 (.t 9) (.t 57)))] (s [f 58 1 9,l 59 58,m 60 7,o 61 .add 59 60,f 62 1 9,(.mk none none (.store 1 (.t 62) (.t 61)))] (.seq (s [m 63 8,q 64 .eql 63 0] (.cond 64 (s [f 65 1 9,(.mk none none (.store 1 (.t 65) (.k (.val
 (.int .i64 0)))))] (.reg [m 66 6,q 67 .add 66 1,f 68 2 9,(.mk none none (.store 1 (.t 68) (.t 67)))])) .skip)) (s [x 69 (.bslice 1 [] 0 false []),m 10 69] (.seq (s [k 11 0] (B 4 (.seq (s [m 70 11,f 71 5 9,l 72 71,n 73 72,o 74 .lss 70 73]
 (.cond 74 .skip (.exit 4))) (.seq (.block 5 (.reg [m 77 10,f 78 5 9,l 79 78,m 80 11,i 81 1 79 80,l 82 81,m 83 7,o 84 .add 82 83,x 85 (.bslice 1 [] 1 false [(0,(.t 84))]),x 86 (.append 1 8 (.t 77) (.t 85)),m 10 86])) (.reg [m 75 11,
 q 76 .add 75 1,m 11 76]))))) (s [m 87 10,f 88 5 9,(.mk none none (.store 1 (.t 88) (.t 87)))] (.reg [f 89 0 5,l 90 89,h 91 6 9,x 92 (.bslice 6 [] 1 true [(0,(.t 91))]),x 93 (.append 6 72 (.t 90) (.t 92)),f 94 0 5,(.mk none none (.store 1
 (.t 94) (.t 93)))])))))))) (.reg [m 48 8,q 49 .add 48 1,m 8 49])))))))) (.reg [m 23 6,q 24 .add 23 1,m 6 24]))))) (s [h 95 1 5,t 4 1 95] .ret))))))),[(.c 4 1 true)]⟩
theorem i167:iF 167 g167:=jF Tryz.func167
def g168:GFun:=⟨⟨67,[1,7]⟩,(s [a 1 2 0,k 2 0,k 3 0] (.seq (s [f 9 0 1,l 10 9,n 11 10,c 12 57 [.t 11,(.k (.val (.int .i64 1))),(.k (.val (.int .i64 4)))],w 13 12,m 14 13,z 15 14 (p 1 1 1),z 16 14 (r 1 15),z 17 14 (.len (.t 16)),z 18 14
 (.call false 57 [.t 17,(.k (.val (.int .i64 1))),(.k (.val (.int .i64 8)))]),z 19 14 (.not (.t 18)),x 20 (.pick (.t 14) (.k (.val (.bool true))) (.t 19))] (.cond 20 (s [k 2 1,k 3 0] .ret) .skip)) (.seq (s [h 21 2 1,c 22 205 [.t 21],
 m 4 22] (s [m 23 4,q 24 .geq 23 0] (.cond 24 (s [m 25 4,k 2 1,m 3 25] .ret) .skip))) (.seq (s [f 26 0 1,l 27 26,x 28 (.iaddr 2 (.t 27) (.k (.val (.int .i64 0)))),f 29 1 28,l 30 29,x 31 (.call false 145 [.t 30,(.k (.clo 206 []))])]
 (.cond 31 (s [k 2 2,k 3 0] .ret) .skip)) (.seq (s [k 5 3] (B 0 (.seq (s [m 32 5,q 33 .leq 32 6] (.cond 33 .skip (.exit 0))) (.seq (.block 1 (s [f 36 1 1,l 37 36,n 38 37,k 39 0] (B 2 (s [o 40 .lss 39 38] (C 40 2 (.seq (.block 3 (s [m 41 39,
 i 42 6 37 39,h 43 6 42,u 7 6,m 6 41,t 7 6 43] (s [b 8 false] (.seq (s [m 44 5] (.block 4 (s [q 49 .eql 44 3,m 48 49] (.cond 48 (.reg [h 50 2 1,h 51 6 7,c 52 207 [.t 50,.t 51],m 8 52]) (s [q 54 .eql 44 4,m 53 54] (.cond 53 (.reg [h 55 2 1,
 h 56 6 7,c 57 208 [.t 55,.t 56],m 8 57]) (s [q 59 .eql 44 5,m 58 59] (.cond 58 (.reg [h 60 2 1,h 61 6 7,c 62 209 [.t 60,.t 61],m 8 62]) (.reg [h 45 2 1,h 46 6 7,c 47 210 [.t 45,.t 46],m 8 47]))))))))) (s [m 63 8] (.cond 63 (s [m 64 5,
 m 65 6,m 2 64,m 3 65] .ret) .skip)))))) (.reg [q 66 .add 39 1,m 39 66]))))))) (.reg [m 34 5,q 35 .add 34 1,m 5 35]))))) (s [k 2 0,k 3 0] .ret)))))),[.t 2,.t 3]⟩
theorem i168:iF 168 g168:=jF Tryz.func168
def g169:GFun:=⟨⟨80,[2,3,6,7,10,11,13]⟩,(s [a 2 2 0,a 3 6 1,b 4 false] (.seq (s [f 15 4 3,l 16 15,n 17 16,k 18 0] (B 0 (s [o 19 .lss 18 17] (C 19 0 (.seq (.block 1 (s [i 20 9 16 18,h 21 9 20,u 6 9,t 6 9 21] (s [h 23 2 2,h 24 6 3,
 e 25 0 2 6,h 26 2 25,c 27 211 [.t 23,.t 24,.t 26],m 22 27,v 28 22 0,v 29 22 1,u 7 4,t 7 4 28,m 8 29] (s [e 32 2 7 6,f 35 1 7,h 30 2 2,h 31 6 3,h 33 7 32,x 34 (.call true 212 [.t 30,.t 31,.t 33]),l 36 35,o 37 .neq 34 36] (.cond 37
 (s [b 4 true] .ret) .skip))))) (.reg [q 38 .add 18 1,m 18 38])))))) (.seq (s [f 39 5 3,l 40 39,n 41 40,k 42 0] (B 2 (s [o 43 .lss 42 41] (C 43 2 (.seq (.block 3 (s [i 44 16 40 42,h 45 16 44,u 10 16,t 10 16 45] (s [h 47 2 2,f 48 0 10,
 l 49 48,c 50 82 [.t 47,.t 49],m 46 50,v 51 46 0,v 52 46 1,u 11 2,t 11 2 51,m 12 52] (s [h 54 2 11,f 55 1 10,l 56 55,c 57 188 [.t 54,.t 56],m 53 57,v 58 53 0,v 59 53 1,u 13 4,t 13 4 58,m 14 59] (s [h 60 2 2,h 61 6 3,e 62 2 7 10,h 63 7 62,
 c 64 212 [.t 60,.t 61,.t 63],q 65 .neq 64 4,m 66 65,z 67 66 (j 2 2),z 68 66 (j 6 3),z 69 66 (.faddr 9 7 true (.t 10)),z 70 66 (j 7 69),z 71 66 (.call false 212 [.t 67,.t 68,.t 70]),z 72 66 (.bin .neq (.t 71) (.k (.val (.int .i64 2)))),
 x 73 (.pick (.t 66) (.k (.val (.bool true))) (.t 72)),m 74 73,z 75 74 (p 1 2 13),z 76 74 (r 1 75),z 77 74 (.bin .neq (.t 76) (.k (.val (.int .i64 3)))),x 78 (.pick (.t 74) (.k (.val (.bool true))) (.t 77))] (.cond 78
 (s [b 4 true] .ret) .skip)))))) (.reg [q 79 .add 42 1,m 42 79])))))) (s [b 4 false] .ret)))),[.t 4]⟩
theorem i169:iF 169 g169:=jF Tryz.func169
def g170:GFun:=⟨⟨81,[1,8,10]⟩,(s [a 1 2 0,x 2 (.mov (.k (.val (.slice none 0 0))))] (s [f 14 0 1,l 15 14,n 16 15,x 17 (.mkslice 1 8 (.val (.int .i64 0)) (.t 16) (.t 16)),x 3 (.alloc 1 (.val (.slice none 0 0))),(.mk none none (.store 1
 (.t 3) (.t 17)))] (s [x 18 (.mkfn 213 [.t 1,.t 3]),m 4 18] (.seq (s [k 5 1] (B 0 (.seq (s [m 19 5,f 20 0 1,l 21 20,n 22 21,o 23 .leq 19 22] (.cond 23 .skip (.exit 0))) (.seq (.block 1 (s [l 26 3,n 27 26,x 28 (.mkslice 1 8 (.val
 (.int .i64 0)) (.t 27) (.t 27)),m 6 28] (s [m 29 6,l 30 3,x 31 (.copy 1 (.t 29) (.t 30))] (.seq (s [f 32 0 1,l 33 32,n 34 33,k 35 0] (B 2 (s [o 36 .lss 35 34] (C 36 2 (.seq (.block 3 (s [m 37 35,i 38 2 33 35,h 39 2 38,u 8 2,m 7 37,
 t 8 2 39] (.seq (s [l 40 3,m 41 7,i 42 1 40 41,l 43 42,q 44 .gtr 43 0] (.cond 44 (.exit 3) .skip)) (s [f 45 1 1,l 46 45,n 47 46,k 48 0] (B 4 (s [o 49 .lss 48 47] (C 49 4 (.seq (.block 5 (s [i 50 6 46 48,h 51 6 50,u 10 6,t 10 6 51]
 (s [f 52 1 10,l 53 52,f 54 0 8,l 55 54,o 56 .eql 53 55,m 11 56] (.seq (s [f 57 2 10,l 58 57,n 59 58,k 60 0] (B 6 (s [o 61 .lss 60 59] (C 61 6 (.seq (.block 7 (s [i 62 1 58 60,l 63 62,m 13 63] (.reg [m 64 11,m 65 64,y 66 65 (.mov (.t 4)),
 y 67 65 (.mov (.t 13)),y 68 65 (.callv false (.t 66) [.t 67]),y 69 65 (.bin .gtr (.t 68) (.k (.val (.int .i64 0)))),x 70 (.pick (.t 65) (.t 69) (.k (.val (.bool false)))),m 11 70]))) (.reg [q 71 .add 60 1,m 60 71])))))) (s [m 72 11]
 (.cond 72 (.reg [m 73 6,m 74 7,m 75 5,i 76 1 73 74,(.mk none none (.store 1 (.t 76) (.t 75)))]) .skip)))))) (.reg [q 77 .add 48 1,m 48 77]))))))))) (.reg [q 78 .add 35 1,m 35 78])))))) (.reg [m 79 6,(.mk none none (.store 1 (.t 3)
 (.t 79)))]))))) (.reg [m 24 5,q 25 .add 24 1,m 5 25]))))) (s [l 80 3,m 2 80] .ret))))),[.t 2]⟩
theorem i170:iF 170 g170:=jF Tryz.func170
def g171:GFun:=⟨⟨17,[]⟩,(s [k 5 0] (.seq (s [m 6 0,l 7 1,l 8 2,o 9 .add 7 8,o 10 .geq 6 9] (.cond 10 (s [m 11 0,l 12 2,o 13 .sub 11 12,l 14 3,o 15 .add 13 14,m 5 15] .ret) .skip)) (s [m 16 0,m 5 16] .ret))),[.t 5]⟩
theorem i171:iF 171 g171:=jF Tryz.func171
def g172:GFun:=⟨⟨66,[1]⟩,(s [a 1 2 0,k 2 0,k 3 0] (.seq (s [f 8 0 1,l 9 8,n 10 9,c 11 64 [.t 10,(.k (.val (.int .i64 1))),(.k (.val (.int .i64 4)))],w 12 11,m 13 12,z 14 13 (p 1 1 1),z 15 13 (r 1 14),z 16 13 (.len (.t 15)),z 17 13
 (.call false 64 [.t 16,(.k (.val (.int .i64 1))),(.k (.val (.int .i64 8)))]),z 18 13 (.not (.t 17)),x 19 (.pick (.t 13) (.k (.val (.bool true))) (.t 18))] (.cond 19 (s [k 2 1,k 3 0] .ret) .skip)) (s [h 20 2 1,c 21 214 [.t 20],m 4 21]
 (.seq (s [m 22 4,q 23 .geq 22 0] (.cond 23 (s [m 24 4,k 2 1,m 3 24] .ret) .skip)) (.seq (s [k 5 0] (B 0 (.seq (s [m 25 5,f 26 0 1,l 27 26,x 28 (.iaddr 2 (.t 27) (.k (.val (.int .i64 0)))),f 29 1 28,l 30 29,n 31 30,o 32 .lss 25 31]
 (.cond 32 .skip (.exit 0))) (.seq (.block 1 (s [f 35 0 1,l 36 35,x 37 (.iaddr 2 (.t 36) (.k (.val (.int .i64 0)))),f 38 1 37,l 39 38,m 40 5,i 41 4 39 40,f 42 2 41,l 43 42,q 44 .eql 43 1] (.cond 44 (s [k 2 2,k 3 0] .ret) .skip)))
 (.reg [m 33 5,q 34 .add 33 1,m 5 34]))))) (.seq (s [k 6 3] (B 2 (.seq (s [m 45 6,q 46 .leq 45 6] (.cond 46 .skip (.exit 2))) (.seq (.block 3 (s [k 7 0] (B 4 (.seq (s [m 49 7,f 50 1 1,l 51 50,n 52 51,o 53 .lss 49 52] (.cond 53 .skip
 (.exit 4))) (.seq (.block 5 (s [f 57 1 1,m 59 7,m 62 6,h 56 2 1,l 58 57,i 60 6 58 59,h 61 6 60,x 63 (.call true 215 [.t 56,.t 61,.t 62])] (.cond 63 (s [m 64 6,m 65 7,m 2 64,m 3 65] .ret) .skip))) (.reg [m 54 7,q 55 .add 54 1,
 m 7 55])))))) (.reg [m 47 6,q 48 .add 47 1,m 6 48]))))) (s [k 2 0,k 3 0] .ret))))))),[.t 2,.t 3]⟩
theorem i172:iF 172 g172:=jF Tryz.func172
def g173:GFun:=⟨⟨90,[2,3,6,8,9,11]⟩,(s [a 2 2 0,a 3 6 1,b 4 false] (.seq (s [k 5 0] (B 0 (.seq (s [m 13 5,f 14 4 3,l 15 14,n 16 15,o 17 .lss 13 16] (.cond 17 .skip (.exit 0))) (.seq (.block 1 (s [f 20 4 3,l 21 20,m 22 5,i 23 9 21 22,
 h 24 9 23,u 6 9,t 6 9 24] (s [e 27 2 7 6,e 32 0 2 6,f 33 0 32,e 36 0 2 6,f 37 1 36,h 25 2 2,h 26 6 3,h 28 7 27,x 29 (.call true 216 [.t 25,.t 26,.t 28]),h 30 2 2,h 31 6 3,l 34 33,x 35 (.call true 162 [.t 31,.t 34]),l 38 37,x 39
 (.call true 217 [.t 30,.t 35,.t 38]),o 40 .neq 29 39] (.cond 40 (s [b 4 false] .ret) .skip)))) (.reg [m 18 5,q 19 .add 18 1,m 5 19]))))) (.seq (s [k 7 0] (B 2 (.seq (s [m 41 7,f 42 5 3,l 43 42,n 44 43,o 45 .lss 41 44] (.cond 45 .skip
 (.exit 2))) (.seq (.block 3 (s [f 48 5 3,l 49 48,m 50 7,i 51 16 49 50,h 52 16 51,u 8 16,t 8 16 52] (s [h 54 2 2,f 55 0 8,l 56 55,c 57 72 [.t 54,.t 56],m 53 57,v 58 53 0,v 59 53 1,u 9 2,t 9 2 58,m 10 59] (s [h 61 2 9,f 62 1 8,l 63 62,
 c 64 79 [.t 61,.t 63],m 60 64,v 65 60 0,v 66 60 1,u 11 4,t 11 4 65,m 12 66] (s [m 67 12,w 68 67,m 69 68,z 70 69 (p 1 2 11),z 71 69 (r 1 70),z 72 69 (.bin .neq (.t 71) (.k (.val (.int .i64 3)))),x 73 (.pick (.t 69) (.k (.val
 (.bool true))) (.t 72)),m 74 73,z 75 74 (j 2 2),z 76 74 (j 6 3),z 77 74 (.faddr 2 7 true (.t 8)),z 78 74 (j 7 77),z 79 74 (.call false 216 [.t 75,.t 76,.t 78]),z 80 74 (.bin .neq (.t 79) (.k (.val (.int .i64 4)))),x 81 (.pick (.t 74) (.k
 (.val (.bool true))) (.t 80)),m 82 81,z 83 82 (j 2 2),z 84 82 (j 6 3),z 85 82 (.faddr 9 7 true (.t 8)),z 86 82 (j 7 85),z 87 82 (.call false 216 [.t 83,.t 84,.t 86]),z 88 82 (.bin .neq (.t 87) (.k (.val (.int .i64 2)))),x 89 (.pick
 (.t 82) (.k (.val (.bool true))) (.t 88))] (.cond 89 (s [b 4 false] .ret) .skip)))))) (.reg [m 46 7,q 47 .add 46 1,m 7 47]))))) (s [b 4 true] .ret)))),[.t 4]⟩
theorem i173:iF 173 g173:=jF Tryz.func173
def g174:GFun:=⟨⟨9,[2]⟩,(s [a 2 2 0,b 4 false] (s [h 5 2 2,m 6 1,c 7 218 [.t 5,.t 6],q 8 .gtr 7 0,m 4 8] .ret)),[.t 4]⟩
theorem i174:iF 174 g174:=jF Tryz.func174
def g175:GFun:=⟨⟨37,[6]⟩,(s [x 3 (.box 6 (.t 0)),u 6 6] (s [x 9 (.bslice 1 [] 0 false []),m 7 9] (.seq (s [k 8 0] (B 0 (.seq (s [m 10 8,f 11 5 3,l 12 11,n 13 12,o 14 .lss 10 13] (.cond 14 .skip (.exit 0))) (.seq (.block 1 (.reg [m 17 7,
 f 18 5 3,l 19 18,m 20 8,i 21 1 19 20,l 22 21,m 23 1,m 24 2,c 25 219 [.t 22,.t 23,.t 24],x 26 (.bslice 1 [] 1 false [(0,(.t 25))]),x 27 (.append 1 8 (.t 17) (.t 26)),m 7 27])) (.reg [m 15 8,q 16 .add 15 1,m 8 16]))))) (s [m 28 7,f 29 5 3,
 (.mk none none (.store 1 (.t 29) (.t 28)))] (s [f 30 1 3,l 31 30,m 32 1,m 33 2,c 34 219 [.t 31,.t 32,.t 33],f 35 1 3,(.mk none none (.store 1 (.t 35) (.t 34)))] (s [h 36 6 3,t 6 6 36] .ret)))))),[(.c 6 6 true)]⟩
theorem i175:iF 175 g175:=jF Tryz.func175
def g176:GFun:=⟨⟨33,[4]⟩,(s [x 2 (.box 6 (.t 0)),u 4 6] (s [x 7 (.bslice 1 [] 0 false []),m 5 7] (.seq (s [k 6 0] (B 0 (.seq (s [m 8 6,f 9 5 2,l 10 9,n 11 10,o 12 .lss 8 11] (.cond 12 .skip (.exit 0))) (.seq (.block 1 (.reg [m 15 5,
 f 16 5 2,l 17 16,m 18 6,i 19 1 17 18,l 20 19,m 21 1,o 22 .add 20 21,x 23 (.bslice 1 [] 1 false [(0,(.t 22))]),x 24 (.append 1 8 (.t 15) (.t 23)),m 5 24])) (.reg [m 13 6,q 14 .add 13 1,m 6 14]))))) (s [m 25 5,f 26 5 2,(.mk none none
 (.store 1 (.t 26) (.t 25)))] (s [f 27 1 2,l 28 27,m 29 1,o 30 .add 28 29,f 31 1 2,(.mk none none (.store 1 (.t 31) (.t 30)))] (s [h 32 6 2,t 4 6 32] .ret)))))),[(.c 4 6 true)]⟩
theorem i176:iF 176 g176:=jF Tryz.func176
def g177:GFun:=⟨⟨25,[2]⟩,(s [x 1 (.box 7 (.t 0)),u 2 7] (s [x 5 (.bslice 7 [] 0 true []),m 3 5] (.seq (s [k 4 0] (B 0 (.seq (s [m 6 4,f 7 6 1,l 8 7,n 9 8,o 10 .lss 6 9] (.cond 10 .skip (.exit 0))) (.seq (.block 1 (.reg [m 13 3,f 14 6 1,
 l 15 14,m 16 4,i 17 7 15 16,h 18 7 17,c 19 177 [.t 18],x 20 (.bslice 7 [] 1 true [(0,(.t 19))]),x 21 (.append 7 88 (.t 13) (.t 20)),m 3 21])) (.reg [m 11 4,q 12 .add 11 1,m 4 12]))))) (s [m 22 3,f 23 6 1,(.mk none none (.store 1 (.t 23)
 (.t 22)))] (s [h 24 7 1,t 2 7 24] .ret))))),[(.c 2 7 true)]⟩
theorem i177:iF 177 g177:=jF Tryz.func177
def g178:GFun:=⟨⟨6,[1]⟩,(s [a 1 7 0,x 2 (.mov (.k (.val (.slice none 0 0))))] (s [h 3 7 1,x 4 (.bslice 2 [] 0 true []),c 5 220 [.t 3,.t 4],m 2 5] .ret)),[.t 2]⟩
theorem i178:iF 178 g178:=jF Tryz.func178
def g180:GFun:=⟨⟨12,[1]⟩,(s [a 1 7 0,x 2 (.mov (.k (.val (.slice none 0 0))))] (s [x 4 (.bslice 2 [] 0 true []),x 3 (.alloc 1 (.val (.slice none 0 0))),(.mk none none (.store 1 (.t 3) (.t 4)))] (s [h 5 7 1,x 6 (.mkfn 221 [.t 3]),
 c 7 184 [.t 5,.t 6]] (s [l 8 3,x 9 (.call false 222 [.t 8,(.k (.clo 223 []))])] (s [l 10 3,c 11 224 [.t 10],m 2 11] .ret))))),[.t 2]⟩
theorem i180:iF 180 g180:=jF Tryz.func180
def g182:GFun:=⟨⟨19,[]⟩,(s [k 4 0] (.seq (s [m 6 0,n 7 6,k 8 0] (B 0 (s [o 9 .lss 8 7] (C 9 0 (.seq (.block 1 (s [m 10 8,m 5 10] (s [m 11 1,m 12 0,m 13 5,i 14 6 12 13,h 15 6 14,x 16 (.callv false (.t 11) [.t 15])] (.cond 16 (s [m 17 5,
 m 4 17] .ret) .skip)))) (.reg [q 18 .add 8 1,m 8 18])))))) (s [k 4 (-1)] .ret))),[.t 4]⟩
theorem i182:iF 182 g182:=jF Tryz.func182
def g183:GFun:=⟨⟨19,[]⟩,(s [k 4 0] (.seq (s [m 6 0,n 7 6,k 8 0] (B 0 (s [o 9 .lss 8 7] (C 9 0 (.seq (.block 1 (s [m 10 8,m 5 10] (s [m 11 1,m 12 0,m 13 5,i 14 7 12 13,h 15 7 14,x 16 (.callv false (.t 11) [.t 15])] (.cond 16 (s [m 17 5,
 m 4 17] .ret) .skip)))) (.reg [q 18 .add 8 1,m 8 18])))))) (s [k 4 (-1)] .ret))),[.t 4]⟩
theorem i183:iF 183 g183:=jF Tryz.func183
def g184:GFun:=⟨⟨15,[2,3]⟩,(s [a 2 7 0,a 3 1 1,b 4 false] (s [l 5 3,h 6 7 2,x 7 (.callv false (.t 5) [.t 6]),m 8 7,y 9 8 (p 1 6 2),y 10 8 (r 1 9),y 11 8 (.mkfn 225 [.t 3]),y 12 8 (.call false 140 [.t 10,.t 11]),y 13 8 (.not (.t 12)),
 x 14 (.pick (.t 8) (.t 13) (.k (.val (.bool false)))),m 4 14] .ret)),[.t 4]⟩
theorem i184:iF 184 g184:=jF Tryz.func184
def g186:GFun:=⟨⟨19,[]⟩,(s [k 4 0] (.seq (s [m 6 0,n 7 6,k 8 0] (B 0 (s [o 9 .lss 8 7] (C 9 0 (.seq (.block 1 (s [m 10 8,m 5 10] (s [m 11 1,m 12 0,m 13 5,i 14 2 12 13,h 15 2 14,x 16 (.callv false (.t 11) [.t 15])] (.cond 16 (s [m 17 5,
 m 4 17] .ret) .skip)))) (.reg [q 18 .add 8 1,m 8 18])))))) (s [k 4 (-1)] .ret))),[.t 4]⟩
theorem i186:iF 186 g186:=jF Tryz.func186
def g187:GFun:=⟨⟨19,[]⟩,(s [k 4 0] (.seq (s [m 6 0,n 7 6,k 8 0] (B 0 (s [o 9 .lss 8 7] (C 9 0 (.seq (.block 1 (s [m 10 8,m 5 10] (s [m 11 1,m 12 0,m 13 5,i 14 4 12 13,h 15 4 14,x 16 (.callv false (.t 11) [.t 15])] (.cond 16 (s [m 17 5,
 m 4 17] .ret) .skip)))) (.reg [q 18 .add 8 1,m 8 18])))))) (s [k 4 (-1)] .ret))),[.t 4]⟩
theorem i187:iF 187 g187:=jF Tryz.func187
def g188:GFun:=⟨⟨22,[2,4,7]⟩,(s [a 2 2 0,u 4 4,b 5 false] (.seq (s [f 8 1 2,l 9 8,n 10 9,k 11 0] (B 0 (s [o 12 .lss 11 10] (C 12 0 (.seq (.block 1 (s [i 13 4 9 11,h 14 4 13,u 7 4,t 7 4 14] (s [f 15 0 7,l 16 15,m 17 1,o 18 .eql 16 17]
 (.cond 18 (s [h 19 4 7,t 4 4 19,b 5 true] .ret) .skip)))) (.reg [q 20 .add 11 1,m 11 20])))))) (s [x 21 (.build [(.val (.string (ByteArray.mk #[]))),(.val (.int .i64 0)),(.val (.int .i64 0)),(.val (.bool false))] []),t 4 4 21,
 b 5 false] .ret))),[(.c 4 4 true),.t 5]⟩
theorem i188:iF 188 g188:=jF Tryz.func188
def g190:GFun:=⟨⟨19,[1,5]⟩,(s [a 1 7 0,k 2 0] (s [k 3 1] (.seq (s [f 6 6 1,l 7 6,n 8 7,k 9 0] (B 0 (s [o 10 .lss 9 8] (C 10 0 (.seq (.block 1 (s [i 11 7 7 9,h 12 7 11,u 5 7,t 5 7 12] (.reg [m 13 3,h 14 7 5,c 15 190 [.t 14],
 o 16 .add 13 15,m 3 16]))) (.reg [q 17 .add 9 1,m 9 17])))))) (s [m 18 3,m 2 18] .ret)))),[.t 2]⟩
theorem i190:iF 190 g190:=jF Tryz.func190
def g191:GFun:=⟨⟨20,[1,5]⟩,(s [a 1 7 0,k 2 0] (s [k 3 0] (.seq (s [f 6 6 1,l 7 6,n 8 7,k 9 0] (B 0 (s [o 10 .lss 9 8] (C 10 0 (.seq (.block 1 (s [i 11 7 7 9,h 12 7 11,u 5 7,t 5 7 12] (.reg [m 13 3,h 14 7 5,c 15 191 [.t 14],x 16 (.mx
 (.t 13) (.t 15)),m 3 16]))) (.reg [q 17 .add 9 1,m 9 17])))))) (s [m 18 3,q 19 .add 18 1,m 2 19] .ret)))),[.t 2]⟩
theorem i191:iF 191 g191:=jF Tryz.func191
def g192:GFun:=⟨⟨100,[1]⟩,(s [a 1 7 0,b 2 false] (s [f 5 0 1,l 6 5,f 7 6 1,l 8 7,x 9 (.build [(.val (.int .i64 0)),(.val (.int .i64 0)),(.val (.int .i64 0)),(.val (.int .i64 0)),(.val (.string (ByteArray.mk #[]))),(.val (.string
 (ByteArray.mk #[]))),(.val (.slice none 0 0))] [(0,(1,(.t 6))),(6,(1,(.t 8)))]),x 3 (.alloc 7 (.agg [(.val (.int .i64 0)),(.val (.int .i64 0)),(.val (.int .i64 0)),(.val (.int .i64 0)),(.val (.string (ByteArray.mk #[]))),(.val (.string
 (ByteArray.mk #[]))),(.val (.slice none 0 0))])),(.mk none none (.store 7 (.t 3) (.t 9)))] (s [k 4 0] (.seq (s [f 10 0 1,l 11 10] (.block 0 (s [q 13 .eql 11 1,m 12 13] (.cond 12 (s [f 14 1 1,x 15 (.loadr 1 false (.t 14)),f 16 3 1,x 17
 (.loadr 1 false (.t 16)),f 18 1 3,(.mk none none (.store 1 (.t 18) (.t 15))),f 19 3 3,(.mk none none (.store 1 (.t 19) (.t 17)))] (s [f 20 3 1,l 21 20,q 22 .eql 21 4,m 23 22,z 24 23 (p 1 1 1),z 25 23 (r 1 24),z 26 23 (p 1 3 1),z 27 23
 (r 1 26),z 28 23 (.call false 226 [.t 25,.t 27]),z 29 23 (.not (.t 28)),x 30 (.pick (.t 23) (.k (.val (.bool true))) (.t 29)),m 31 30,z 32 31 (p 1 1 1),z 33 31 (r 1 32),z 34 31 (.bin .lss (.t 33) (.k (.val (.int .i64 0)))),x 35 (.pick
 (.t 31) (.k (.val (.bool true))) (.t 34))] (.cond 35 (s [b 2 false] .ret) .skip))) (s [q 37 .eql 11 3,m 36 37] (.cond 36 (s [f 38 2 1,x 39 (.loadr 1 false (.t 38)),f 40 5 1,x 41 (.loadr 1 false (.t 40)),f 42 2 3,(.mk none none (.store 1
 (.t 42) (.t 39))),f 43 5 3,(.mk none none (.store 1 (.t 43) (.t 41)))] (s [f 44 5 1,l 45 44,c 46 227 [.t 45],w 47 46] (.cond 47 (s [b 2 false] .ret) .skip))) (s [q 49 .eql 11 4,m 48 49] (.cond 48 (s [f 50 1 1,l 51 50,f 52 1 3,
 (.mk none none (.store 1 (.t 52) (.t 51))),k 4 2] (s [f 53 1 1,l 54 53,c 55 57 [.t 54,(.k (.val (.int .i64 1))),(.k (.val (.int .i64 12)))],w 56 55] (.cond 56 (s [b 2 false] .ret) .skip))) (s [q 58 .eql 11 5,m 57 58] (.cond 57
 (.reg [k 4 3]) (s [q 60 .eql 11 6,m 59 60] (.cond 59 (.reg [f 61 2 1,l 62 61,f 63 2 3,(.mk none none (.store 1 (.t 63) (.t 62)))]) (s [q 65 .eql 11 8,m 64 65] (.cond 64 (s [f 66 4 1,x 67 (.loadr 1 false (.t 66)),f 68 5 1,x 69
 (.loadr 1 false (.t 68)),f 70 4 3,(.mk none none (.store 1 (.t 70) (.t 67))),f 71 5 3,(.mk none none (.store 1 (.t 71) (.t 69))),k 4 1] (s [f 72 4 1,l 73 72,c 74 227 [.t 73],w 75 74,m 76 75,z 77 76 (p 1 5 1),z 78 76 (r 1 77),z 79 76
 (.call false 227 [.t 78]),z 80 76 (.not (.t 79)),x 81 (.pick (.t 76) (.k (.val (.bool true))) (.t 80))] (.cond 81 (s [b 2 false] .ret) .skip))) (.seq (s [q 83 .eql 11 2,m 82 83] (.cond 82 .skip (.reg [q 84 .eql 11 7,m 82 84])))
 (.cond 82 .skip (s [b 2 false] .ret))))))))))))))))) (s [f 85 6 1,l 86 85,n 87 86,m 88 4,o 89 .eql 87 88,m 90 89,y 91 90 (p 1 2 1),y 92 90 (r 1 91),y 93 90 (.call false 57 [.t 92,(.k (.val (.int .i64 0))),(.k (.val (.int .i64 3)))]),x 94
 (.pick (.t 90) (.t 93) (.k (.val (.bool false)))),m 95 94,y 96 95 (j 7 1),y 97 95 (j 7 3),y 98 95 (.call false 228 [.t 96,.t 97]),x 99 (.pick (.t 95) (.t 98) (.k (.val (.bool false)))),m 2 99] .ret))))),[.t 2]⟩
theorem i192:iF 192 g192:=jF Tryz.func192
def g194:GFun:=⟨⟨27,[2]⟩,(s [a 2 7 0,k 4 0] (s [m 6 1,q 7 .sub 6 1,m 1 7] (.seq (s [k 5 0] (B 0 (.seq (s [m 8 5,f 9 6 2,l 10 9,n 11 10,o 12 .lss 8 11,m 13 12,y 14 13 (.mov (.t 1)),y 15 13 (.bin .geq (.t 14) (.k (.val (.int .i64 0)))),
 x 16 (.pick (.t 13) (.t 15) (.k (.val (.bool false))))] (.cond 16 .skip (.exit 0))) (.seq (.block 1 (.reg [f 19 6 2,l 20 19,m 21 5,i 22 7 20 21,h 23 7 22,m 24 1,c 25 194 [.t 23,.t 24],m 1 25])) (.reg [m 17 5,q 18 .add 17 1,m 5 18])))))
 (s [m 26 1,m 4 26] .ret)))),[.t 4]⟩
theorem i194:iF 194 g194:=jF Tryz.func194
def g195:GFun:=⟨⟨22,[1]⟩,(s [a 1 7 0,k 2 0] (s [k 3 0] (.seq (s [k 4 0] (B 0 (.seq (s [m 5 4,f 6 6 1,l 7 6,n 8 7,o 9 .lss 5 8] (.cond 9 .skip (.exit 0))) (.seq (.block 1 (.reg [m 12 3,f 13 6 1,l 14 13,m 15 4,i 16 7 14 15,h 17 7 16,
 c 18 195 [.t 17],c 19 121 [.t 12,.t 18],m 3 19])) (.reg [m 10 4,q 11 .add 10 1,m 4 11]))))) (s [m 20 3,q 21 .add 20 1,m 2 21] .ret)))),[.t 2]⟩
theorem i195:iF 195 g195:=jF Tryz.func195
def g196:GFun:=⟨⟨20,[1]⟩,(s [a 1 7 0,b 2 false] (.seq (s [k 3 0] (B 0 (.seq (s [m 4 3,f 5 6 1,l 6 5,n 7 6,o 8 .lss 4 7] (.cond 8 .skip (.exit 0))) (.seq (.block 1 (s [f 11 6 1,l 12 11,m 13 3,i 14 7 12 13,h 15 7 14,c 16 196 [.t 15],
 w 17 16] (.cond 17 (s [b 2 false] .ret) .skip))) (.reg [m 9 3,q 10 .add 9 1,m 3 10]))))) (s [h 18 7 1,c 19 233 [.t 18],m 2 19] .ret))),[.t 2]⟩
theorem i196:iF 196 g196:=jF Tryz.func196
def g199:GFun:=⟨⟨24,[]⟩,(s [k 2 0,k 3 0,k 4 0] (.seq (.block 0 (s [m 6 0,c 7 64 [.t 6,(.k (.val (.int .i64 1))),(.k (.val (.int .i64 5)))],m 5 7] (.cond 5 (s [k 2 1,k 3 1,k 4 1] .ret) (s [m 9 0,c 10 64 [.t 9,(.k (.val (.int .i64 6))),
 (.k (.val (.int .i64 8)))],m 8 10] (.cond 8 (s [k 2 2,k 3 2,k 4 2] .ret) (s [m 12 0,q 13 .eql 12 9,m 14 13,z 15 14 (.mov (.t 0)),z 16 14 (.bin .eql (.t 15) (.k (.val (.int .i64 10)))),x 17 (.pick (.t 14) (.k (.val (.bool true))) (.t 16)),
 m 11 17] (.cond 11 (s [k 2 1,k 3 1,k 4 3] .ret) (s [m 19 0,q 20 .eql 19 11,m 18 20] (.cond 18 (s [k 2 2,k 3 1,k 4 3] .ret) (s [m 22 0,q 23 .eql 22 12,m 21 23] (.cond 21 (s [k 2 2,k 3 1,k 4 2] .ret) .skip))))))))))) (s [k 2 0,k 3 0,
 k 4 0] .ret))),[.t 2,.t 3,.t 4]⟩
theorem i199:iF 199 g199:=jF Tryz.func199
def g200:GFun:=⟨⟨12,[4,5,6]⟩,(s [a 4 7 1,a 5 7 2,u 6 7] (s [m 7 0,h 8 7 4,h 9 7 5,x 10 (.bslice 7 [] 2 true [(0,(.t 8)),(1,(.t 9))]),x 11 (.build [(.val (.int .i64 0)),(.val (.int .i64 0)),(.val (.int .i64 0)),(.val (.int .i64 0)),
 (.val (.string (ByteArray.mk #[]))),(.val (.string (ByteArray.mk #[]))),(.val (.slice none 0 0))] [(0,(1,(.k (.val (.int .i64 4))))),(1,(1,(.t 7))),(6,(1,(.t 10)))]),t 6 7 11] .ret)),[(.c 6 7 true)]⟩
theorem i200:iF 200 g200:=jF Tryz.func200
def g201:GFun:=⟨⟨8,[4]⟩,(s [u 4 7] (s [m 5 0,m 6 1,x 7 (.build [(.val (.int .i64 0)),(.val (.int .i64 0)),(.val (.int .i64 0)),(.val (.int .i64 0)),(.val (.string (ByteArray.mk #[]))),(.val (.string (ByteArray.mk #[]))),(.val
 (.slice none 0 0))] [(0,(1,(.k (.val (.int .i64 1))))),(1,(1,(.t 5))),(3,(1,(.t 6)))]),t 4 7 7] .ret)),[(.c 4 7 true)]⟩
theorem i201:iF 201 g201:=jF Tryz.func201
def g202:GFun:=⟨⟨33,[2]⟩,(s [a 2 2 0,x 4 (.mov (.k (.val (.slice none 0 0))))] (s [x 7 (.bslice 1 [] 0 false []),m 5 7] (.seq (s [k 6 0] (B 0 (.seq (s [m 8 6,f 9 1 2,l 10 9,n 11 10,o 12 .lss 8 11] (.cond 12 .skip (.exit 0))) (.seq
 (.block 1 (s [f 15 1 2,l 16 15,m 17 6,i 18 6 16 17,f 19 1 18,l 20 19,m 21 1,o 22 .eql 20 21] (.cond 22 (.reg [m 23 5,f 24 1 2,l 25 24,m 26 6,i 27 6 25 26,f 28 0 27,l 29 28,x 30 (.bslice 1 [] 1 false [(0,(.t 29))]),x 31 (.append 1 16
 (.t 23) (.t 30)),m 5 31]) .skip))) (.reg [m 13 6,q 14 .add 13 1,m 6 14]))))) (s [m 32 5,m 4 32] .ret)))),[.t 4]⟩
theorem i202:iF 202 g202:=jF Tryz.func202
def g203:GFun:=⟨⟨50,[1]⟩,(s [a 1 2 0,x 2 (.mov (.k (.val (.slice none 0 0))))] (s [f 7 0 1,l 8 7,n 9 8,x 10 (.mkslice 1 8 (.val (.int .i64 0)) (.t 9) (.t 9)),m 3 10] (.seq (s [k 4 1] (B 0 (.seq (s [m 11 4,f 12 0 1,l 13 12,n 14 13,
 o 15 .leq 11 14] (.cond 15 .skip (.exit 0))) (.seq (.block 1 (s [x 18 (.bslice 1 [] 0 false []),m 19 3,x 20 (.append 1 8 (.t 18) (.t 19)),m 5 20] (.seq (s [k 6 0] (B 2 (.seq (s [m 21 6,f 22 0 1,l 23 22,n 24 23,o 25 .lss 21 24]
 (.cond 25 .skip (.exit 2))) (.seq (.block 3 (s [m 28 3,m 29 6,i 30 1 28 29,l 31 30,q 32 .eql 31 0,m 33 32,y 35 33 (p 1 0 1),y 37 33 (.mov (.t 6)),y 41 33 (.mov (.t 3)),y 34 33 (j 2 1),y 36 33 (r 1 35),y 38 33 (.iaddr 2 (.t 36) (.t 37)),
 y 39 33 (p 1 0 38),y 40 33 (r 1 39),y 42 33 (.call true 234 [.t 34,.t 40,.t 41]),x 43 (.pick (.t 33) (.t 42) (.k (.val (.bool false))))] (.cond 43 (.reg [m 44 5,m 45 6,m 46 4,i 47 1 44 45,(.mk none none (.store 1 (.t 47)
 (.t 46)))]) .skip))) (.reg [m 26 6,q 27 .add 26 1,m 6 27]))))) (.reg [m 48 5,m 3 48])))) (.reg [m 16 4,q 17 .add 16 1,m 4 17]))))) (s [m 49 3,m 2 49] .ret)))),[.t 2]⟩
theorem i203:iF 203 g203:=jF Tryz.func203
def g204:GFun:=⟨⟨22,[2]⟩,(s [a 2 2 0,k 4 0] (.seq (s [k 5 0] (B 0 (.seq (s [m 6 5,f 7 0 2,l 8 7,n 9 8,o 10 .lss 6 9] (.cond 10 .skip (.exit 0))) (.seq (.block 1 (s [f 13 0 2,l 14 13,m 15 5,i 16 2 14 15,f 17 0 16,l 18 17,m 19 1,
 o 20 .eql 18 19] (.cond 20 (s [m 21 5,m 4 21] .ret) .skip))) (.reg [m 11 5,q 12 .add 11 1,m 5 12]))))) (s [k 4 (-1)] .ret))),[.t 4]⟩
theorem i204:iF 204 g204:=jF Tryz.func204
def g205:GFun:=⟨⟨49,[1,4,6]⟩,(s [a 1 2 0,k 2 0] (.seq (s [f 7 0 1,l 8 7,n 9 8,k 10 0] (B 0 (s [o 11 .lss 10 9] (C 11 0 (.seq (.block 1 (s [m 12 10,i 13 2 8 10,h 14 2 13,u 4 2,m 3 12,t 4 2 14] (s [h 15 2 4,c 16 235 [.t 15],w 17 16,
 m 18 17,z 19 18 (p 1 0 1),z 20 18 (r 1 19),z 21 18 (.mov (.t 3)),z 22 18 (.slc 2 (.t 20) none (some (.t 21))),z 23 18 (.mkfn 236 [.t 4]),z 24 18 (.call false 143 [.t 22,.t 23]),x 25 (.pick (.t 18) (.k (.val (.bool true))) (.t 24))]
 (.cond 25 (s [m 26 3,m 2 26] .ret) .skip)))) (.reg [q 27 .add 10 1,m 10 27])))))) (.seq (s [f 28 1 1,l 29 28,n 30 29,k 31 0] (B 2 (s [o 32 .lss 31 30] (C 32 2 (.seq (.block 3 (s [m 33 31,i 34 6 29 31,h 35 6 34,u 6 6,m 5 33,t 6 6 35]
 (s [h 36 6 6,c 37 237 [.t 36],w 38 37,m 39 38,z 40 39 (p 1 1 1),z 41 39 (r 1 40),z 42 39 (.mov (.t 5)),z 43 39 (.slc 6 (.t 41) none (some (.t 42))),z 44 39 (.mkfn 238 [.t 6]),z 45 39 (.call false 138 [.t 43,.t 44]),x 46 (.pick (.t 39)
 (.k (.val (.bool true))) (.t 45))] (.cond 46 (s [m 47 5,m 2 47] .ret) .skip)))) (.reg [q 48 .add 31 1,m 31 48])))))) (s [k 2 (-1)] .ret)))),[.t 2]⟩
theorem i205:iF 205 g205:=jF Tryz.func205
def g206:GFun:=⟨⟨6,[1]⟩,(s [a 1 4 0,b 2 false] (s [f 3 2 1,l 4 3,q 5 .eql 4 1,m 2 5] .ret)),[.t 2]⟩
theorem i206:iF 206 g206:=jF Tryz.func206
def g207:GFun:=⟨⟨26,[2,3,6]⟩,(s [a 2 2 0,a 3 6 1,b 4 false] (.seq (s [f 8 2 3,l 9 8,n 10 9,q 11 .add 10 1,k 12 0] (B 0 (s [o 13 .lss 12 11] (C 13 0 (.seq (.block 1 (s [m 14 12,m 5 14] (s [m 18 5,u 6 2,h 16 2 2,h 17 6 3,x 19
 (.call true 239 [.t 17,.t 18]),x 20 (.call true 82 [.t 16,.t 19]),m 15 20,v 21 15 0,v 22 15 1,t 6 2 21,m 7 22] (s [m 23 7,w 24 23] (.cond 24 (s [b 4 true] .ret) .skip))))) (.reg [q 25 .add 12 1,m 12 25])))))) (s [b 4 false] .ret))),[.t 4]⟩
theorem i207:iF 207 g207:=jF Tryz.func207
def g208:GFun:=⟨⟨10,[2,3]⟩,(s [a 2 2 0,a 3 6 1,b 4 false] (s [h 5 2 2,h 6 6 3,c 7 241 [.t 5,.t 6],x 8 (.mkfn 242 [.t 3]),c 9 240 [.t 7,.t 8],m 4 9] .ret)),[.t 4]⟩
theorem i208:iF 208 g208:=jF Tryz.func208
def g209:GFun:=⟨⟨33,[2,3,7]⟩,(s [a 2 2 0,a 3 6 1,b 4 false] (s [h 8 2 2,h 9 6 3,c 10 241 [.t 8,.t 9],m 5 10] (.seq (s [f 11 4 3,l 12 11,n 13 12,k 14 0] (B 0 (s [o 15 .lss 14 13] (C 15 0 (.seq (.block 1 (s [m 16 14,i 17 9 12 14,
 h 18 9 17,u 7 9,m 6 16,t 7 9 18] (s [m 19 5,e 20 0 2 7,h 21 2 20,c 22 245 [.t 19,.t 21],w 23 22,m 24 23,z 25 24 (p 1 4 3),z 26 24 (r 1 25),z 27 24 (.mov (.t 6)),z 28 24 (.slc 9 (.t 26) none (some (.t 27))),z 29 24 (.mkfn 246 [.t 7]),
 z 30 24 (.call false 243 [.t 28,.t 29]),x 31 (.pick (.t 24) (.k (.val (.bool true))) (.t 30))] (.cond 31 (s [b 4 true] .ret) .skip)))) (.reg [q 32 .add 14 1,m 14 32])))))) (s [b 4 false] .ret)))),[.t 4]⟩
theorem i209:iF 209 g209:=jF Tryz.func209
def g210:GFun:=⟨⟨9,[2,3]⟩,(s [a 2 2 0,a 3 6 1,b 4 false] (s [h 5 6 3,c 6 141 [.t 5],x 7 (.mkfn 247 [.t 2,.t 3]),c 8 140 [.t 6,.t 7],m 4 8] .ret)),[.t 4]⟩
theorem i210:iF 210 g210:=jF Tryz.func210
def g211:GFun:=⟨⟨33,[3,4,5,6,8]⟩,(s [a 3 2 0,a 4 6 1,a 5 2 2,u 6 4,b 7 false] (.seq (s [f 10 0 5,l 11 10,f 12 2 4,l 13 12,n 14 13,c 15 57 [.t 11,(.k (.val (.int .i64 0))),.t 14],w 16 15] (.cond 16 (s [x 17 (.build [(.val (.string
 (ByteArray.mk #[]))),(.val (.int .i64 0)),(.val (.int .i64 0)),(.val (.bool false))] []),t 6 4 17,b 7 false] .ret) .skip)) (s [f 21 0 5,u 8 2,h 19 2 3,h 20 6 4,l 22 21,x 23 (.call true 239 [.t 20,.t 22]),x 24 (.call true 82 [.t 19,.t 23]),
 m 18 24,v 25 18 0,v 26 18 1,t 8 2 25,m 9 26] (s [h 27 2 8,f 28 1 5,l 29 28,c 30 188 [.t 27,.t 29],v 31 30 0,v 32 30 1,t 6 4 31,m 7 32] .ret)))),[(.c 6 4 true),.t 7]⟩
theorem i211:iF 211 g211:=jF Tryz.func211
def g212:GFun:=⟨⟨166,[3,4,5,9,10,15,17]⟩,(s [a 3 2 0,a 4 6 1,a 5 7 2,k 6 0] (s [x 19 (.bslice 1 [] 0 false []),m 7 19] (.seq (s [f 20 6 5,l 21 20,n 22 21,k 23 0] (B 0 (s [o 24 .lss 23 22] (C 24 0 (.seq (.block 1 (s [i 25 7 21 23,
 h 26 7 25,u 9 7,t 9 7 26] (.reg [m 27 7,h 28 2 3,h 29 6 4,h 30 7 9,c 31 212 [.t 28,.t 29,.t 30],x 32 (.bslice 1 [] 1 false [(0,(.t 31))]),x 33 (.append 1 8 (.t 27) (.t 32)),m 7 33]))) (.reg [q 34 .add 23 1,m 23 34])))))) (.seq (.block 2
 (s [f 36 0 5,l 37 36,q 38 .eql 37 1,m 35 38] (.cond 35 (s [f 39 3 5,l 40 39,m 6 40] .ret) (s [f 42 0 5,l 43 42,q 44 .eql 43 2,m 45 44,y 46 45 (p 1 3 4),y 47 45 (r 1 46),x 48 (.pick (.t 45) (.t 47) (.k (.val (.bool false)))),m 41 48]
 (.cond 41 (s [k 6 1] .ret) (s [f 50 0 5,l 51 50,q 52 .eql 51 3,m 49 52] (.cond 49 (s [h 54 2 3,h 55 6 4,f 56 2 5,l 57 56,f 58 5 5,l 59 58,x 60 (.build [(.val (.int .i64 0)),(.val (.string (ByteArray.mk #[])))] [(0,(1,(.t 57))),(1,(1,
 (.t 59)))]),c 61 211 [.t 54,.t 55,.t 60],m 53 61,v 62 53 0,v 63 53 1,u 10 4,t 10 4 62,m 11 63] (s [f 64 1 10,l 65 64,m 6 65] .ret)) (s [f 67 0 5,l 68 67,q 69 .eql 68 4,m 70 69,y 71 70 (.mov (.t 7)),y 72 70 (.len (.t 71)),y 73 70
 (.bin .eql (.t 72) (.k (.val (.int .i64 2)))),x 74 (.pick (.t 70) (.t 73) (.k (.val (.bool false)))),m 66 74] (.cond 66 (s [f 76 1 5,l 77 76,c 78 229 [.t 77],m 75 78,v 79 75 0,v 80 75 1,v 81 75 2,m 12 79,m 13 80,m 14 81] (s [m 82 7,x 83
 (.iaddr 1 (.t 82) (.k (.val (.int .i64 0)))),l 84 83,m 85 12,o 86 .eql 84 85,m 87 86,y 88 87 (.mov (.t 7)),y 89 87 (.iaddr 1 (.t 88) (.k (.val (.int .i64 1)))),y 90 87 (r 1 89),y 91 87 (.mov (.t 13)),y 92 87 (.bin .eql (.t 90) (.t 91)),
 x 93 (.pick (.t 87) (.t 92) (.k (.val (.bool false))))] (.cond 93 (s [m 94 14,m 6 94] .ret) .skip))) (s [f 96 0 5,l 97 96,q 98 .eql 97 5,m 99 98,y 100 99 (.mov (.t 7)),y 101 99 (.len (.t 100)),y 102 99 (.bin .eql (.t 101) (.k (.val
 (.int .i64 3)))),x 103 (.pick (.t 99) (.t 102) (.k (.val (.bool false)))),m 95 103] (.cond 95 (s [m 104 7,x 105 (.iaddr 1 (.t 104) (.k (.val (.int .i64 0)))),l 106 105,q 107 .eql 106 3,m 108 107,y 109 108 (.mov (.t 7)),y 110 108
 (.iaddr 1 (.t 109) (.k (.val (.int .i64 1)))),y 112 108 (.mov (.t 7)),y 113 108 (.iaddr 1 (.t 112) (.k (.val (.int .i64 2)))),y 111 108 (r 1 110),y 114 108 (r 1 113),y 115 108 (.bin .eql (.t 111) (.t 114)),x 116 (.pick (.t 108) (.t 115)
 (.k (.val (.bool false))))] (.cond 116 (s [m 117 7,x 118 (.iaddr 1 (.t 117) (.k (.val (.int .i64 1)))),l 119 118,m 6 119] .ret) .skip)) (.seq (s [f 121 0 5,l 122 121,q 123 .eql 122 6,m 124 123,y 125 124 (p 1 2 5),y 126 124 (r 1 125),
 y 127 124 (p 1 2 4),y 128 124 (r 1 127),y 129 124 (.len (.t 128)),y 130 124 (.call false 57 [.t 126,(.k (.val (.int .i64 0))),.t 129]),x 131 (.pick (.t 124) (.t 130) (.k (.val (.bool false)))),m 120 131] (.cond 120 .skip (.reg [f 132 0 5,
 l 133 132,q 134 .eql 133 7,m 120 134]))) (.cond 120 (s [k 6 4] .ret) (s [f 136 0 5,l 137 136,q 138 .eql 137 8,m 139 138,y 140 139 (.mov (.t 7)),y 141 139 (.len (.t 140)),y 142 139 (.bin .eql (.t 141) (.k (.val (.int .i64 1)))),x 143
 (.pick (.t 139) (.t 142) (.k (.val (.bool false)))),m 144 143,y 145 144 (.mov (.t 7)),y 146 144 (.iaddr 1 (.t 145) (.k (.val (.int .i64 0)))),y 147 144 (r 1 146),y 148 144 (.bin .eql (.t 147) (.k (.val (.int .i64 4)))),x 149 (.pick
 (.t 144) (.t 148) (.k (.val (.bool false)))),m 135 149] (.cond 135 (s [h 151 2 3,f 152 4 5,l 153 152,c 154 82 [.t 151,.t 153],m 150 154,v 155 150 0,v 156 150 1,u 15 2,t 15 2 155,m 16 156] (s [h 158 2 15,f 159 5 5,l 160 159,
 c 161 188 [.t 158,.t 160],m 157 161,v 162 157 0,v 163 157 1,u 17 4,t 17 4 162,m 18 163] (s [f 164 1 17,l 165 164,m 6 165] .ret))) .skip))))))))))))))) (s [k 6 0] .ret))))),[.t 6]⟩
theorem i212:iF 212 g212:=jF Tryz.func212
def g213:GFun:=⟨⟨24,[6]⟩,(s [k 4 0] (.seq (s [f 7 0 1,l 8 7,n 9 8,k 10 0] (B 0 (s [o 11 .lss 10 9] (C 11 0 (.seq (.block 1 (s [m 12 10,i 13 2 8 10,h 14 2 13,u 6 2,m 5 12,t 6 2 14] (s [f 15 0 6,l 16 15,m 17 0,o 18 .eql 16 17] (.cond 18
 (s [l 19 2,m 20 5,i 21 1 19 20,l 22 21,m 4 22] .ret) .skip)))) (.reg [q 23 .add 10 1,m 10 23])))))) (s [k 4 0] .ret))),[.t 4]⟩
theorem i213:iF 213 g213:=jF Tryz.func213
def g214:GFun:=⟨⟨76,[1]⟩,(s [a 1 2 0,k 2 0] (s [x 6 (.bslice 1 [] 0 false []),m 3 6] (.seq (s [k 4 0] (B 0 (.seq (s [m 7 4,f 8 0 1,l 9 8,n 10 9,o 11 .lss 7 10] (.cond 11 .skip (.exit 0))) (.seq (.block 1 (.seq (s [f 14 0 1,l 15 14,
 m 16 4,i 17 2 15 16,h 18 2 17,c 19 250 [.t 18],w 20 19,m 21 20,z 22 21 (.mov (.t 3)),z 23 21 (p 1 0 1),z 24 21 (r 1 23),z 25 21 (.mov (.t 4)),z 26 21 (.iaddr 2 (.t 24) (.t 25)),z 27 21 (p 1 0 26),z 28 21 (r 1 27),z 29 21
 (.call false 251 [.t 22,.t 28]),x 30 (.pick (.t 21) (.k (.val (.bool true))) (.t 29))] (.cond 30 (s [m 31 4,m 2 31] .ret) .skip)) (.reg [m 32 3,f 33 0 1,l 34 33,m 35 4,i 36 2 34 35,f 37 0 36,l 38 37,x 39 (.bslice 1 [] 1 false [(0,
 (.t 38))]),x 40 (.append 1 16 (.t 32) (.t 39)),m 3 40]))) (.reg [m 12 4,q 13 .add 12 1,m 4 13]))))) (s [x 41 (.bslice 1 [] 0 false []),m 3 41] (.seq (s [k 5 0] (B 2 (.seq (s [m 42 5,f 43 1 1,l 44 43,n 45 44,o 46 .lss 42 45]
 (.cond 46 .skip (.exit 2))) (.seq (.block 3 (.seq (s [f 49 1 1,l 50 49,m 51 5,i 52 6 50 51,h 53 6 52,c 54 252 [.t 53],w 55 54,m 56 55,z 57 56 (.mov (.t 3)),z 58 56 (p 1 1 1),z 59 56 (r 1 58),z 60 56 (.mov (.t 5)),z 61 56 (.iaddr 6
 (.t 59) (.t 60)),z 62 56 (p 1 0 61),z 63 56 (r 1 62),z 64 56 (.call false 251 [.t 57,.t 63]),x 65 (.pick (.t 56) (.k (.val (.bool true))) (.t 64))] (.cond 65 (s [m 66 5,m 2 66] .ret) .skip)) (.reg [m 67 3,f 68 1 1,l 69 68,m 70 5,
 i 71 6 69 70,f 72 0 71,l 73 72,x 74 (.bslice 1 [] 1 false [(0,(.t 73))]),x 75 (.append 1 16 (.t 67) (.t 74)),m 3 75]))) (.reg [m 47 5,q 48 .add 47 1,m 5 48]))))) (s [k 2 (-1)] .ret)))))),[.t 2]⟩
theorem i214:iF 214 g214:=jF Tryz.func214
def g215:GFun:=⟨⟨27,[3,4]⟩,(s [a 3 2 0,a 4 6 1,b 6 false] (.seq (s [m 7 2] (.block 0 (s [q 9 .eql 7 3,m 8 9] (.cond 8 (s [h 10 2 3,h 11 6 4,c 12 253 [.t 10,.t 11],w 13 12,m 6 13] .ret) (s [q 15 .eql 7 4,m 14 15] (.cond 14 (s [h 16 2 3,
 h 17 6 4,c 18 254 [.t 16,.t 17],m 6 18] .ret) (s [q 20 .eql 7 5,m 19 20] (.cond 19 (s [h 21 2 3,h 22 6 4,c 23 255 [.t 21,.t 22],m 6 23] .ret) .skip)))))))) (s [h 24 2 3,h 25 6 4,c 26 256 [.t 24,.t 25],m 6 26] .ret))),[.t 6]⟩
theorem i215:iF 215 g215:=jF Tryz.func215
def g216:GFun:=⟨⟨77,[3,4,5]⟩,(s [a 3 2 0,a 4 6 1,a 5 7 2,k 6 0] (.seq (s [f 7 0 5,l 8 7] (.block 0 (s [q 10 .eql 8 1,m 9 10] (.cond 9 (s [f 11 3 5,l 12 11,m 6 12] .ret) (s [q 14 .eql 8 2,m 13 14] (.cond 13 (s [f 15 3 4,l 16 15]
 (.cond 16 (s [k 6 1] .ret) .skip)) (s [q 18 .eql 8 3,m 17 18] (.cond 17 (s [f 19 2 5,l 20 19,f 21 2 4,l 22 21,n 23 22,c 24 64 [.t 20,(.k (.val (.int .i64 0))),.t 23]] (.cond 24 (s [f 27 2 5,f 30 5 5,h 25 2 3,h 26 6 4,l 28 27,x 29
 (.call true 162 [.t 26,.t 28]),l 31 30,x 32 (.call true 217 [.t 25,.t 29,.t 31]),m 6 32] .ret) .skip)) (s [q 34 .eql 8 4,m 33 34] (.cond 33 (s [h 35 2 3,h 36 6 4,h 37 7 5,c 38 257 [.t 35,.t 36,.t 37],m 6 38] .ret) (s [q 40 .eql 8 5,
 m 39 40] (.cond 39 (s [h 41 2 3,h 42 6 4,h 43 7 5,c 44 258 [.t 41,.t 42,.t 43],m 6 44] .ret) (s [q 46 .eql 8 6,m 45 46] (.cond 45 (s [f 47 2 5,l 48 47,f 49 2 4,l 50 49,n 51 50,c 52 64 [.t 48,(.k (.val (.int .i64 0))),.t 51]] (.cond 52
 (s [k 6 4] .ret) .skip)) (s [q 54 .eql 8 7,m 53 54] (.cond 53 (s [k 6 4] .ret) (s [q 56 .eql 8 8,m 55 56] (.cond 55 (s [f 57 6 5,l 58 57,n 59 58,q 60 .eql 59 1,m 61 60,y 64 61 (p 1 6 5),y 62 61 (j 2 3),y 63 61 (j 6 4),y 65 61 (r 1 64),
 y 66 61 (.iaddr 7 (.t 65) (.k (.val (.int .i64 0)))),y 67 61 (j 7 66),y 68 61 (.call true 216 [.t 62,.t 63,.t 67]),y 69 61 (.bin .eql (.t 68) (.k (.val (.int .i64 4)))),x 70 (.pick (.t 61) (.t 69) (.k (.val (.bool false))))] (.cond 70
 (s [h 71 2 3,f 72 4 5,l 73 72,f 74 5 5,l 75 74,c 76 217 [.t 71,.t 73,.t 75],m 6 76] .ret) .skip)) .skip)))))))))))))))))) (s [k 6 0] .ret))),[.t 6]⟩
theorem i216:iF 216 g216:=jF Tryz.func216
def g217:GFun:=⟨⟨27,[3,7,9]⟩,(s [a 3 2 0,k 6 0] (s [h 12 2 3,m 13 1,c 14 72 [.t 12,.t 13],m 11 14,v 15 11 0,v 16 11 1,u 7 2,t 7 2 15,m 8 16] (s [h 18 2 7,m 19 2,c 20 79 [.t 18,.t 19],m 17 20,v 21 17 0,v 22 17 1,u 9 4,t 9 4 21,m 10 22]
 (.seq (s [m 23 10,w 24 23] (.cond 24 (s [k 6 0] .ret) .skip)) (s [f 25 1 9,l 26 25,m 6 26] .ret))))),[.t 6]⟩
theorem i217:iF 217 g217:=jF Tryz.func217
def g218:GFun:=⟨⟨16,[2]⟩,(s [a 2 2 0,k 4 0] (s [h 6 2 2,m 7 1,c 8 204 [.t 6,.t 7],m 5 8] (.seq (s [m 9 5,q 10 .lss 9 0] (.cond 10 (s [k 4 0] .ret) .skip)) (s [h 11 2 2,c 12 203 [.t 11],m 13 5,i 14 1 12 13,l 15 14,m 4 15] .ret)))),
 [.t 4]⟩
theorem i218:iF 218 g218:=jF Tryz.func218
def g219:GFun:=⟨⟨14,[]⟩,(s [k 6 0] (.seq (s [m 7 0,m 8 1,o 9 .geq 7 8] (.cond 9 (s [m 10 0,m 11 2,o 12 .add 10 11,m 6 12] .ret) .skip)) (s [m 13 0,m 6 13] .ret))),[.t 6]⟩
theorem i219:iF 219 g219:=jF Tryz.func219
def g220:GFun:=⟨⟨31,[2]⟩,(s [a 2 7 0,x 4 (.mov (.k (.val (.slice none 0 0))))] (.seq (s [f 6 0 2,l 7 6,q 8 .eql 7 3] (.cond 8 (.reg [m 9 1,f 10 2 2,l 11 10,f 12 5 2,l 13 12,x 14 (.build [(.val (.int .i64 0)),(.val (.string
 (ByteArray.mk #[])))] [(0,(1,(.t 11))),(1,(1,(.t 13)))]),c 15 259 [.t 9,.t 14],m 1 15]) .skip)) (.seq (s [k 5 0] (B 0 (.seq (s [m 16 5,f 17 6 2,l 18 17,n 19 18,o 20 .lss 16 19] (.cond 20 .skip (.exit 0))) (.seq (.block 1 (.reg [f 23 6 2,
 l 24 23,m 25 5,i 26 7 24 25,h 27 7 26,m 28 1,c 29 220 [.t 27,.t 28],m 1 29])) (.reg [m 21 5,q 22 .add 21 1,m 5 22]))))) (s [m 30 1,m 4 30] .ret)))),[.t 4]⟩
theorem i220:iF 220 g220:=jF Tryz.func220
def g221:GFun:=⟨⟨15,[2]⟩,(s [a 2 7 0,b 3 false] (.seq (s [f 4 0 2,l 5 4,q 6 .eql 5 3] (.cond 6 (.reg [l 7 1,f 8 2 2,l 9 8,f 10 5 2,l 11 10,x 12 (.build [(.val (.int .i64 0)),(.val (.string (ByteArray.mk #[])))] [(0,(1,(.t 9))),(1,(1,
 (.t 11)))]),x 13 (.bslice 2 [] 1 true [(0,(.t 12))]),x 14 (.append 2 24 (.t 7) (.t 13)),(.mk none none (.store 1 (.t 1) (.t 14)))]) .skip)) (s [b 3 true] .ret))),[.t 3]⟩
theorem i221:iF 221 g221:=jF Tryz.func221
def g224:GFun:=⟨⟨61,[]⟩,(s [x 2 (.mov (.k (.val (.slice none 0 0))))] (.seq (s [m 6 0,n 7 6,q 8 .lss 7 2] (.cond 8 (s [m 9 0,m 2 9] .ret) .skip)) (.seq (s [k 3 1] (B 0 (.seq (s [m 10 3,m 11 0,n 12 11,o 13 .lss 10 12] (.cond 13 .skip
 (.exit 0))) (.seq (.block 1 (s [m 16 0,m 17 3,i 18 2 16 17,m 20 0,m 21 3,q 22 .sub 21 1,i 23 2 20 22,h 19 2 18,h 24 2 23,x 25 (.aeq false [1,2] (.t 19) (.t 24))] (.cond 25 (s [m 26 0,m 27 3,x 28 (.slc 2 (.t 26) (some (.t 27)) none),
 m 4 28] (.seq (s [k 5 1] (B 2 (.seq (s [m 29 5,m 30 4,n 31 30,o 32 .lss 29 31] (.cond 32 .skip (.exit 2))) (.seq (.block 3 (s [m 35 4,m 36 5,i 37 2 35 36,m 39 4,m 40 5,q 41 .sub 40 1,i 42 2 39 41,h 38 2 37,h 43 2 42,x 44 (.aeq true [1,2]
 (.t 38) (.t 43))] (.cond 44 (s [m 45 0,m 46 3,m 47 4,m 48 5,i 49 2 47 48,h 50 2 49,i 51 2 45 46,(.mk none none (.store 2 (.t 51) (.t 50)))] (.reg [m 52 3,q 53 .add 52 1,m 3 53])) .skip))) (.reg [m 33 5,q 34 .add 33 1,m 5 34])))))
 (s [m 54 0,m 55 3,x 56 (.slc 2 (.t 54) (some (.t 55)) none),(.mk none none (.clr 2 (.t 56)))] (s [m 57 0,m 58 3,x 59 (.slc 2 (.t 57) none (some (.t 58))),m 2 59] .ret)))) .skip))) (.reg [m 14 3,q 15 .add 14 1,m 3 15]))))) (s [m 60 0,
 m 2 60] .ret)))),[.t 2]⟩
theorem i224:iF 224 g224:=jF Tryz.func224
def g225:GFun:=⟨⟨8,[2]⟩,(s [a 2 7 0,b 3 false] (s [h 4 7 2,l 5 1,c 6 184 [.t 4,.t 5],w 7 6,m 3 7] .ret)),[.t 3]⟩
theorem i225:iF 225 g225:=jF Tryz.func225
def g226:GFun:=⟨⟨14,[]⟩,(s [b 4 false] (s [m 5 1,c 6 265 [.t 5],m 7 6,y 8 7 (.mov (.t 0)),y 9 7 (.mov (.t 1)),y 10 7 (.call false 230 [.t 8,.t 9]),y 11 7 (.mov (.t 0)),y 12 7 (.bin .eql (.t 10) (.t 11)),x 13 (.pick (.t 7) (.t 12) (.k
 (.val (.bool false)))),m 4 13] .ret)),[.t 4]⟩
theorem i226:iF 226 g226:=jF Tryz.func226
def g227:GFun:=⟨⟨35,[]⟩,(s [b 2 false] (.seq (s [m 4 0,x 5 (.slen (.t 4)),k 6 0] (B 0 (s [o 7 .lss 6 5] (C 7 0 (.seq (.block 1 (s [m 8 6,m 3 8] (s [m 9 0,m 10 3,x 11 (.idx (.t 9) (.t 10)),c 12 266 [.t 11],w 13 12,m 14 13,y 15 14 (.mov
 (.t 0)),y 16 14 (.mov (.t 3)),y 17 14 (.idx (.t 15) (.t 16)),y 18 14 (.call false 267 [.t 17]),y 19 14 (.not (.t 18)),x 20 (.pick (.t 14) (.t 19) (.k (.val (.bool false))))] (.cond 20 (s [b 2 false] .ret) .skip)))) (.reg [q 21 .add 6 1,
 m 6 21])))))) (s [m 22 0,x 23 (.slen (.t 22)),c 24 57 [.t 23,(.k (.val (.int .i64 1))),(.k (.val (.int .i64 8)))],m 25 24,y 26 25 (.mov (.t 0)),y 27 25 (.idx (.t 26) (.k (.val (.int .i64 0)))),y 28 25 (.call false 266 [.t 27]),x 29
 (.pick (.t 25) (.t 28) (.k (.val (.bool false)))),m 30 29,y 31 30 (.mov (.t 0)),y 32 30 (.call false 268 [.t 31]),y 33 30 (.not (.t 32)),x 34 (.pick (.t 30) (.t 33) (.k (.val (.bool false)))),m 2 34] .ret))),[.t 2]⟩
theorem i227:iF 227 g227:=jF Tryz.func227
def g228:GFun:=⟨⟨45,[2,3]⟩,(s [a 2 7 0,a 3 7 1,b 4 false] (s [f 5 0 2,l 6 5,f 7 0 3,l 8 7,o 9 .eql 6 8,m 10 9,y 11 10 (p 1 1 2),y 12 10 (r 1 11),y 13 10 (p 1 1 3),y 14 10 (r 1 13),y 15 10 (.bin .eql (.t 12) (.t 14)),x 16 (.pick
 (.t 10) (.t 15) (.k (.val (.bool false)))),m 17 16,y 18 17 (p 1 2 2),y 19 17 (r 1 18),y 20 17 (p 1 2 3),y 21 17 (r 1 20),y 22 17 (.bin .eql (.t 19) (.t 21)),x 23 (.pick (.t 17) (.t 22) (.k (.val (.bool false)))),m 24 23,y 25 24 (p 1 3 2),
 y 26 24 (r 1 25),y 27 24 (p 1 3 3),y 28 24 (r 1 27),y 29 24 (.bin .eql (.t 26) (.t 28)),x 30 (.pick (.t 24) (.t 29) (.k (.val (.bool false)))),m 31 30,y 32 31 (p 1 4 2),y 33 31 (r 1 32),y 34 31 (p 1 4 3),y 35 31 (r 1 34),y 36 31
 (.bin .eql (.t 33) (.t 35)),x 37 (.pick (.t 31) (.t 36) (.k (.val (.bool false)))),m 38 37,y 39 38 (p 1 5 2),y 40 38 (r 1 39),y 41 38 (p 1 5 3),y 42 38 (r 1 41),y 43 38 (.bin .eql (.t 40) (.t 42)),x 44 (.pick (.t 38) (.t 43) (.k (.val
 (.bool false)))),m 4 44] .ret)),[.t 4]⟩
theorem i228:iF 228 g228:=jF Tryz.func228
def g229:GFun:=⟨⟨23,[]⟩,(s [k 2 0,k 3 0,k 4 0] (.seq (s [m 5 0] (.block 0 (.seq (s [q 7 .eql 5 1,m 6 7] (.cond 6 .skip (s [q 8 .eql 5 2,m 6 8] (.cond 6 .skip (s [q 9 .eql 5 3,m 6 9] (.cond 6 .skip (s [q 10 .eql 5 4,m 6 10]
 (.cond 6 .skip (.reg [q 11 .eql 5 5,m 6 11]))))))))) (.cond 6 (s [k 2 1,k 3 1,k 4 1] .ret) (.seq (s [q 13 .eql 5 6,m 12 13] (.cond 12 .skip (s [q 14 .eql 5 7,m 12 14] (.cond 12 .skip (.reg [q 15 .eql 5 8,m 12 15]))))) (.cond 12 (s [k 2 2,
 k 3 2,k 4 2] .ret) (.seq (s [q 17 .eql 5 9,m 16 17] (.cond 16 .skip (.reg [q 18 .eql 5 10,m 16 18]))) (.cond 16 (s [k 2 1,k 3 1,k 4 3] .ret) (s [q 20 .eql 5 11,m 19 20] (.cond 19 (s [k 2 2,k 3 1,k 4 3] .ret) (s [q 22 .eql 5 12,m 21 22]
 (.cond 21 (s [k 2 2,k 3 1,k 4 2] .ret) .skip)))))))))))) (s [k 2 0,k 3 0,k 4 0] .ret))),[.t 2,.t 3,.t 4]⟩
theorem i229:iF 229 g229:=jF Tryz.func229
def g230:GFun:=⟨⟨29,[]⟩,(s [k 4 0] (.seq (.block 0 (s [m 6 1,q 7 .eql 6 1,m 5 7] (.cond 5 (s [m 8 0,c 9 231 [.t 8],m 4 9] .ret) (s [m 11 1,q 12 .eql 11 2,m 10 12] (.cond 10 (s [m 13 0,q 14 .and 13 4095,m 4 14] .ret) (s [m 16 1,
 q 17 .eql 16 3,m 15 17] (.cond 15 (s [m 18 0,q 19 .neq 18 0,c 20 232 [.t 19],m 4 20] .ret) (s [m 22 1,q 23 .eql 22 4,m 24 23,y 25 24 (.mov (.t 0)),y 26 24 (.call false 57 [.t 25,(.k (.val (.int .i64 0))),(.k (.val (.int .i64 999)))]),
 x 27 (.pick (.t 24) (.t 26) (.k (.val (.bool false)))),m 21 27] (.cond 21 (s [m 28 0,m 4 28] .ret) .skip))))))))) (s [k 4 0] .ret))),[.t 4]⟩
theorem i230:iF 230 g230:=jF Tryz.func230
def g231:GFun:=⟨⟨6,[]⟩,(s [k 2 0] (s [m 3 0,x 4 (.mn (.t 3) (.k (.val (.int .i64 1000000)))),x 5 (.mx (.t 4) (.k (.val (.int .i64 (-1000000))))),m 2 5] .ret)),[.t 2]⟩
theorem i231:iF 231 g231:=jF Tryz.func231
def g232:GFun:=⟨⟨4,[]⟩,(s [k 2 0] (.seq (s [m 3 0] (.cond 3 (s [k 2 1] .ret) .skip)) (s [k 2 0] .ret))),[.t 2]⟩
theorem i232:iF 232 g232:=jF Tryz.func232
def g233:GFun:=⟨⟨61,[1]⟩,(s [a 1 7 0,b 2 false] (.seq (s [f 3 0 1,l 4 3,c 5 64 [.t 4,(.k (.val (.int .i64 1))),(.k (.val (.int .i64 8)))],w 6 5,m 7 6,z 8 7 (j 7 1),z 9 7 (.call false 269 [.t 8]),z 10 7 (.not (.t 9)),x 11 (.pick (.t 7)
 (.k (.val (.bool true))) (.t 10))] (.cond 11 (s [b 2 false] .ret) .skip)) (.seq (s [f 12 0 1,l 13 12] (.block 0 (s [q 15 .eql 13 1,m 14 15] (.cond 14 (s [f 16 3 1,l 17 16,c 18 64 [.t 17,(.k (.val (.int .i64 1))),(.k (.val (.int .i64 3)))],
 m 19 18,y 20 19 (p 1 1 1),y 21 19 (r 1 20),y 22 19 (p 1 3 1),y 23 19 (r 1 22),y 24 19 (.call false 33 [.t 21,.t 23]),x 25 (.pick (.t 19) (.t 24) (.k (.val (.bool false)))),m 26 25,y 27 26 (p 1 1 1),y 28 26 (r 1 27),y 29 26 (.bin .geq
 (.t 28) (.k (.val (.int .i64 0)))),x 30 (.pick (.t 26) (.t 29) (.k (.val (.bool false)))),m 2 30] .ret) (s [q 32 .eql 13 3,m 31 32] (.cond 31 (s [f 33 2 1,l 34 33,c 35 64 [.t 34,(.k (.val (.int .i64 0))),(.k (.val (.int .i64 3)))],m 36 35,
 y 37 36 (p 1 5 1),y 38 36 (r 1 37),y 39 36 (.call false 270 [.t 38]),x 40 (.pick (.t 36) (.t 39) (.k (.val (.bool false)))),m 2 40] .ret) (s [q 42 .eql 13 6,m 41 42] (.cond 41 (s [f 43 2 1,l 44 43,c 45 64 [.t 44,(.k (.val (.int .i64 0))),
 (.k (.val (.int .i64 3)))],m 2 45] .ret) (s [q 47 .eql 13 4,m 46 47] (.cond 46 (s [f 48 1 1,l 49 48,c 50 64 [.t 49,(.k (.val (.int .i64 1))),(.k (.val (.int .i64 12)))],m 2 50] .ret) (s [q 52 .eql 13 8,m 51 52] (.cond 51 (s [f 53 4 1,
 l 54 53,c 55 270 [.t 54],m 56 55,y 57 56 (p 1 5 1),y 58 56 (r 1 57),y 59 56 (.call false 270 [.t 58]),x 60 (.pick (.t 56) (.t 59) (.k (.val (.bool false)))),m 2 60] .ret) .skip)))))))))))) (s [b 2 true] .ret)))),[.t 2]⟩
theorem i233:iF 233 g233:=jF Tryz.func233
def g234:GFun:=⟨⟨56,[3,8]⟩,(s [a 3 2 0,b 6 false] (.seq (s [k 7 0] (B 0 (.seq (s [m 12 7,f 13 1 3,l 14 13,n 15 14,o 16 .lss 12 15] (.cond 16 .skip (.exit 0))) (.seq (.block 1 (s [f 19 1 3,l 20 19,m 21 7,i 22 6 20 21,h 23 6 22,u 8 6,
 t 8 6 23] (s [f 24 1 8,l 25 24,m 26 1,o 27 .eql 25 26,m 9 27] (.seq (s [k 10 0] (B 2 (.seq (s [m 28 10,f 29 2 8,l 30 29,n 31 30,o 32 .lss 28 31] (.cond 32 .skip (.exit 2))) (.seq (.block 3 (s [f 36 2 8,m 38 10,h 35 2 3,l 37 36,
 i 39 1 37 38,l 40 39,x 41 (.call true 204 [.t 35,.t 40]),m 11 41] (.reg [m 42 9,m 43 42,y 44 43 (.mov (.t 11)),y 45 43 (.bin .geq (.t 44) (.k (.val (.int .i64 0)))),x 46 (.pick (.t 43) (.t 45) (.k (.val (.bool false)))),m 47 46,y 48 47
 (.mov (.t 2)),y 49 47 (.mov (.t 11)),y 50 47 (.call false 121 [.t 49,(.k (.val (.int .i64 0)))]),y 51 47 (.iaddr 1 (.t 48) (.t 50)),y 52 47 (r 1 51),y 53 47 (.bin .gtr (.t 52) (.k (.val (.int .i64 0)))),x 54 (.pick (.t 47) (.t 53) (.k
 (.val (.bool false)))),m 9 54]))) (.reg [m 33 10,q 34 .add 33 1,m 10 34]))))) (s [m 55 9] (.cond 55 (s [b 6 true] .ret) .skip)))))) (.reg [m 17 7,q 18 .add 17 1,m 7 18]))))) (s [b 6 false] .ret))),[.t 6]⟩
theorem i234:iF 234 g234:=jF Tryz.func234
def g235:GFun:=⟨⟨34,[1,4]⟩,(s [a 1 2 0,b 2 false] (.seq (s [f 5 1 1,l 6 5,n 7 6,k 8 0] (B 0 (s [o 9 .lss 8 7] (C 9 0 (.seq (.block 1 (s [m 10 8,i 11 4 6 8,h 12 4 11,u 4 4,m 3 10,t 4 4 12] (s [h 13 4 4,c 14 271 [.t 13],w 15 14,m 16 15,
 z 17 16 (p 1 1 1),z 18 16 (r 1 17),z 19 16 (.mov (.t 3)),z 20 16 (.slc 4 (.t 18) none (some (.t 19))),z 21 16 (.mkfn 272 [.t 4]),z 22 16 (.call false 145 [.t 20,.t 21]),x 23 (.pick (.t 16) (.k (.val (.bool true))) (.t 22))] (.cond 23
 (s [b 2 false] .ret) .skip)))) (.reg [q 24 .add 8 1,m 8 24])))))) (s [f 25 0 1,l 26 25,c 27 227 [.t 26],m 28 27,y 29 28 (p 1 1 1),y 30 28 (r 1 29),y 31 28 (.len (.t 30)),y 32 28 (.bin .leq (.t 31) (.k (.val (.int .i64 4)))),x 33 (.pick
 (.t 28) (.t 32) (.k (.val (.bool false)))),m 2 33] .ret))),[.t 2]⟩
theorem i235:iF 235 g235:=jF Tryz.func235
def g236:GFun:=⟨⟨9,[2]⟩,(s [a 2 2 0,b 3 false] (s [f 4 0 2,l 5 4,f 6 0 1,l 7 6,o 8 .eql 5 7,m 3 8] .ret)),[.t 3]⟩
theorem i236:iF 236 g236:=jF Tryz.func236
def g237:GFun:=⟨⟨104,[1,7,9]⟩,(s [a 1 6 0,b 2 false] (s [f 10 2 1,l 11 10,n 12 11,m 3 12] (.seq (s [f 13 0 1,l 14 13,c 15 227 [.t 14],w 16 15,m 17 16,z 18 17 (p 1 1 1),z 19 17 (r 1 18),z 20 17 (.call false 227 [.t 19]),z 21 17 (.not
 (.t 20)),x 22 (.pick (.t 17) (.k (.val (.bool true))) (.t 21)),m 23 22,z 24 23 (.mov (.t 3)),z 25 23 (.bin .gtr (.t 24) (.k (.val (.int .i64 3)))),x 26 (.pick (.t 23) (.k (.val (.bool true))) (.t 25)),m 27 26,z 28 27 (p 1 5 1),z 29 27
 (r 1 28),z 30 27 (.len (.t 29)),z 31 27 (.bin .gtr (.t 30) (.k (.val (.int .i64 2)))),x 32 (.pick (.t 27) (.k (.val (.bool true))) (.t 31))] (.cond 32 (s [b 2 false] .ret) .skip)) (.seq (s [f 33 2 1,l 34 33,n 35 34,k 36 0] (B 0
 (s [o 37 .lss 36 35] (C 37 0 (.seq (.block 1 (s [i 38 1 34 36,l 39 38,m 5 39] (s [m 40 5,c 41 227 [.t 40],w 42 41] (.cond 42 (s [b 2 false] .ret) .skip)))) (.reg [q 43 .add 36 1,m 36 43])))))) (.seq (s [f 44 4 1,l 45 44,n 46 45,k 47 0]
 (B 2 (s [o 48 .lss 47 46] (C 48 2 (.seq (.block 3 (s [i 49 9 45 47,h 50 9 49,u 7 9,t 7 9 50] (s [e 51 2 7 7,h 52 7 51,m 53 3,c 54 273 [.t 52,.t 53],w 55 54,m 56 55,z 57 56 (.faddr 0 2 true (.t 7)),z 58 56 (p 1 1 57),z 59 56 (r 1 58),
 z 60 56 (.call false 227 [.t 59]),z 61 56 (.not (.t 60)),x 62 (.pick (.t 56) (.k (.val (.bool true))) (.t 61)),m 63 62,z 64 63 (.faddr 0 2 true (.t 7)),z 65 63 (p 1 0 64),z 66 63 (r 1 65),z 67 63 (.mov (.t 3)),z 68 63
 (.call false 57 [.t 66,(.k (.val (.int .i64 0))),.t 67]),z 69 63 (.not (.t 68)),x 70 (.pick (.t 63) (.k (.val (.bool true))) (.t 69))] (.cond 70 (s [b 2 false] .ret) .skip)))) (.reg [q 71 .add 47 1,m 47 71])))))) (.seq (s [f 72 5 1,
 l 73 72,n 74 73,k 75 0] (B 4 (s [o 76 .lss 75 74] (C 76 4 (.seq (.block 5 (s [i 77 16 73 75,h 78 16 77,u 9 16,t 9 16 78] (s [e 79 2 7 9,h 80 7 79,m 81 3,c 82 273 [.t 80,.t 81],w 83 82,m 84 83,z 85 84 (.faddr 9 7 true (.t 9)),z 86 84
 (j 7 85),z 87 84 (.mov (.t 3)),z 88 84 (.call false 273 [.t 86,.t 87]),z 89 84 (.not (.t 88)),x 90 (.pick (.t 84) (.k (.val (.bool true))) (.t 89)),m 91 90,z 92 91 (p 1 0 9),z 93 91 (r 1 92),z 94 91 (.call false 227 [.t 93]),z 95 91
 (.not (.t 94)),x 96 (.pick (.t 91) (.k (.val (.bool true))) (.t 95)),m 97 96,z 98 97 (p 1 1 9),z 99 97 (r 1 98),z 100 97 (.call false 227 [.t 99]),z 101 97 (.not (.t 100)),x 102 (.pick (.t 97) (.k (.val (.bool true))) (.t 101))]
 (.cond 102 (s [b 2 false] .ret) .skip)))) (.reg [q 103 .add 75 1,m 75 103])))))) (s [b 2 true] .ret))))))),[.t 2]⟩
theorem i237:iF 237 g237:=jF Tryz.func237
def g238:GFun:=⟨⟨9,[2]⟩,(s [a 2 6 0,b 3 false] (s [f 4 0 2,l 5 4,f 6 0 1,l 7 6,o 8 .eql 5 7,m 3 8] .ret)),[.t 3]⟩
theorem i238:iF 238 g238:=jF Tryz.func238
def g239:GFun:=⟨⟨22,[2]⟩,(s [a 2 6 0,x 4 (.mov (.k (.val (.string (ByteArray.mk #[])))))] (.seq (.block 0 (s [m 6 1,q 7 .eql 6 0,m 5 7] (.cond 5 (s [f 8 1 2,l 9 8,m 4 9] .ret) (s [m 11 1,f 12 2 2,l 13 12,n 14 13,c 15 57 [.t 11,(.k
 (.val (.int .i64 1))),.t 14],m 10 15] (.cond 10 (s [f 16 2 2,l 17 16,m 18 1,q 19 .sub 18 1,i 20 1 17 19,l 21 20,m 4 21] .ret) .skip))))) (s [x 4 (.mov (.k (.val (.string (ByteArray.mk #[])))))] .ret))),[.t 4]⟩
theorem i239:iF 239 g239:=jF Tryz.func239
def g240:GFun:=⟨⟨9,[]⟩,(s [b 4 false] (s [m 5 0,m 6 1,c 7 274 [.t 5,.t 6],q 8 .geq 7 0,m 4 8] .ret)),[.t 4]⟩
theorem i240:iF 240 g240:=jF Tryz.func240
def g241:GFun:=⟨⟨51,[2,3,8,11]⟩,(s [a 2 2 0,a 3 6 1,x 4 (.mov (.k (.val (.slice none 0 0))))] (s [x 12 (.bslice 2 [] 0 true []),m 5 12] (.seq (s [f 13 2 3,l 14 13,n 15 14,q 16 .add 15 1,k 17 0] (B 0 (s [o 18 .lss 17 16] (C 18 0 (.seq
 (.block 1 (s [m 19 17,m 6 19] (s [k 7 1] (.seq (s [m 20 6,q 21 .eql 20 0] (.cond 21 (.reg [k 7 2]) .skip)) (s [m 25 6,u 8 2,h 23 2 2,h 24 6 3,x 26 (.call true 239 [.t 24,.t 25]),x 27 (.call true 82 [.t 23,.t 26]),m 22 27,v 28 22 0,
 v 29 22 1,t 8 2 28,m 9 29] (s [f 30 1 8,l 31 30,n 32 31,k 33 0] (B 2 (s [o 34 .lss 33 32] (C 34 2 (.seq (.block 3 (s [i 35 4 31 33,h 36 4 35,u 11 4,t 11 4 36] (s [f 37 2 11,l 38 37,m 39 7,o 40 .eql 38 39] (.cond 40 (.reg [m 41 5,m 42 6,
 f 43 0 11,l 44 43,x 45 (.build [(.val (.int .i64 0)),(.val (.string (ByteArray.mk #[])))] [(0,(1,(.t 42))),(1,(1,(.t 44)))]),x 46 (.bslice 2 [] 1 true [(0,(.t 45))]),x 47 (.append 2 24 (.t 41) (.t 46)),m 5 47]) .skip))))
 (.reg [q 48 .add 33 1,m 33 48]))))))))))) (.reg [q 49 .add 17 1,m 17 49])))))) (s [m 50 5,m 4 50] .ret)))),[.t 4]⟩
theorem i241:iF 241 g241:=jF Tryz.func241
def g242:GFun:=⟨⟨9,[2]⟩,(s [a 2 2 0,b 3 false] (s [f 4 4 1,l 5 4,x 6 (.mkfn 244 [.t 2]),c 7 243 [.t 5,.t 6],w 8 7,m 3 8] .ret)),[.t 3]⟩
theorem i242:iF 242 g242:=jF Tryz.func242
def g243:GFun:=⟨⟨9,[]⟩,(s [b 4 false] (s [m 5 0,m 6 1,c 7 275 [.t 5,.t 6],q 8 .geq 7 0,m 4 8] .ret)),[.t 4]⟩
theorem i243:iF 243 g243:=jF Tryz.func243
def g244:GFun:=⟨⟨8,[2]⟩,(s [a 2 9 0,b 3 false] (s [e 4 0 2 2,h 5 2 4,h 6 2 1,x 7 (.aeq false [1,2] (.t 5) (.t 6)),m 3 7] .ret)),[.t 3]⟩
theorem i244:iF 244 g244:=jF Tryz.func244
def g245:GFun:=⟨⟨9,[3]⟩,(s [a 3 2 1,b 4 false] (s [m 5 0,h 6 2 3,c 7 276 [.t 5,.t 6],q 8 .geq 7 0,m 4 8] .ret)),[.t 4]⟩
theorem i245:iF 245 g245:=jF Tryz.func245
def g246:GFun:=⟨⟨9,[2]⟩,(s [a 2 9 0,b 3 false] (s [e 4 0 2 2,h 5 2 4,e 6 0 2 1,h 7 2 6,x 8 (.aeq false [1,2] (.t 5) (.t 7)),m 3 8] .ret)),[.t 3]⟩
theorem i246:iF 246 g246:=jF Tryz.func246
def g247:GFun:=⟨⟨9,[3]⟩,(s [a 3 7 0,b 4 false] (s [h 5 7 3,c 6 180 [.t 5],x 7 (.mkfn 248 [.t 1,.t 2]),c 8 240 [.t 6,.t 7],m 4 8] .ret)),[.t 4]⟩
theorem i247:iF 247 g247:=jF Tryz.func247
def g248:GFun:=⟨⟨10,[3]⟩,(s [a 3 2 0,b 4 false] (s [h 5 2 1,h 6 6 2,h 7 2 3,c 8 249 [.t 5,.t 6,.t 7],w 9 8,m 4 9] .ret)),[.t 4]⟩
theorem i248:iF 248 g248:=jF Tryz.func248
def g249:GFun:=⟨⟨31,[3,4,5,7]⟩,(s [a 3 2 0,a 4 6 1,a 5 2 2,b 6 false] (s [h 10 2 3,h 11 6 4,h 12 2 5,c 13 211 [.t 10,.t 11,.t 12],m 9 13,v 14 9 0,v 15 9 1,u 7 4,t 7 4 14,m 8 15] (.seq (s [f 16 0 5,l 17 16,q 18 .eql 17 0] (.cond 18
 (s [m 19 8,m 20 19,y 21 20 (p 1 2 7),y 22 20 (r 1 21),y 23 20 (.bin .eql (.t 22) (.k (.val (.int .i64 1)))),x 24 (.pick (.t 20) (.t 23) (.k (.val (.bool false)))),m 6 24] .ret) .skip)) (s [m 25 8,m 26 25,y 27 26 (p 1 2 7),y 28 26 (r 1 27),
 y 29 26 (.bin .eql (.t 28) (.k (.val (.int .i64 2)))),x 30 (.pick (.t 26) (.t 29) (.k (.val (.bool false)))),m 6 30] .ret)))),[.t 6]⟩
theorem i249:iF 249 g249:=jF Tryz.func249
def g250:GFun:=⟨⟨41,[1]⟩,(s [a 1 2 0,b 2 false] (s [x 5 (.bslice 1 [] 0 false []),m 3 5] (.seq (s [k 4 0] (B 0 (.seq (s [m 6 4,f 7 1 1,l 8 7,n 9 8,o 10 .lss 6 9] (.cond 10 .skip (.exit 0))) (.seq (.block 1 (.seq (s [f 13 1 1,l 14 13,
 m 15 4,i 16 4 14 15,h 17 4 16,c 18 277 [.t 17],w 19 18] (.cond 19 (s [b 2 false] .ret) .skip)) (.reg [m 20 3,f 21 1 1,l 22 21,m 23 4,i 24 4 22 23,f 25 0 24,l 26 25,x 27 (.bslice 1 [] 1 false [(0,(.t 26))]),x 28 (.append 1 16 (.t 20)
 (.t 27)),m 3 28]))) (.reg [m 11 4,q 12 .add 11 1,m 4 12]))))) (s [f 29 0 1,l 30 29,c 31 270 [.t 30],m 32 31,y 33 32 (.mov (.t 3)),y 34 32 (.len (.t 33)),y 35 32 (.bin .leq (.t 34) (.k (.val (.int .i64 4)))),x 36 (.pick (.t 32) (.t 35)
 (.k (.val (.bool false)))),m 37 36,y 38 37 (.mov (.t 3)),y 39 37 (.call false 278 [.t 38]),x 40 (.pick (.t 37) (.t 39) (.k (.val (.bool false)))),m 2 40] .ret)))),[.t 2]⟩
theorem i250:iF 250 g250:=jF Tryz.func250
def g251:GFun:=⟨⟨18,[]⟩,(s [b 4 false] (.seq (s [k 5 0] (B 0 (.seq (s [m 6 5,m 7 0,n 8 7,o 9 .lss 6 8] (.cond 9 .skip (.exit 0))) (.seq (.block 1 (s [m 12 0,m 13 5,i 14 1 12 13,l 15 14,m 16 1,o 17 .eql 15 16] (.cond 17
 (s [b 4 true] .ret) .skip))) (.reg [m 10 5,q 11 .add 10 1,m 5 11]))))) (s [b 4 false] .ret))),[.t 4]⟩
theorem i251:iF 251 g251:=jF Tryz.func251
def g252:GFun:=⟨⟨112,[1,6,8]⟩,(s [a 1 6 0,b 2 false] (s [f 9 2 1,l 10 9,n 11 10,m 3 11] (.seq (s [f 12 0 1,l 13 12,c 14 270 [.t 13],w 15 14,m 16 15,z 17 16 (p 1 1 1),z 18 16 (r 1 17),z 19 16 (.call false 270 [.t 18]),z 20 16 (.not
 (.t 19)),x 21 (.pick (.t 16) (.k (.val (.bool true))) (.t 20)),m 22 21,z 23 22 (.mov (.t 3)),z 24 22 (.bin .gtr (.t 23) (.k (.val (.int .i64 3)))),x 25 (.pick (.t 22) (.k (.val (.bool true))) (.t 24)),m 26 25,z 27 26 (p 1 5 1),z 28 26
 (r 1 27),z 29 26 (.len (.t 28)),z 30 26 (.bin .gtr (.t 29) (.k (.val (.int .i64 2)))),x 31 (.pick (.t 26) (.k (.val (.bool true))) (.t 30))] (.cond 31 (s [b 2 false] .ret) .skip)) (.seq (s [k 4 0] (B 0 (.seq (s [m 32 4,m 33 3,
 o 34 .lss 32 33] (.cond 34 .skip (.exit 0))) (.seq (.block 1 (s [f 37 2 1,l 38 37,m 39 4,i 40 1 38 39,l 41 40,c 42 270 [.t 41],w 43 42] (.cond 43 (s [b 2 false] .ret) .skip))) (.reg [m 35 4,q 36 .add 35 1,m 4 36]))))) (.seq (s [k 5 0]
 (B 2 (.seq (s [m 44 5,f 45 4 1,l 46 45,n 47 46,o 48 .lss 44 47] (.cond 48 .skip (.exit 2))) (.seq (.block 3 (s [f 51 4 1,l 52 51,m 53 5,i 54 9 52 53,h 55 9 54,u 6 9,t 6 9 55] (s [e 56 0 2 6,f 57 1 56,l 58 57,c 59 270 [.t 58],w 60 59,
 m 61 60,z 62 61 (.faddr 0 2 true (.t 6)),z 63 61 (p 1 0 62),z 64 61 (r 1 63),z 65 61 (.mov (.t 3)),z 66 61 (.call false 64 [.t 64,(.k (.val (.int .i64 0))),.t 65]),z 67 61 (.not (.t 66)),x 68 (.pick (.t 61) (.k (.val (.bool true)))
 (.t 67)),m 69 68,z 70 69 (.faddr 2 7 true (.t 6)),z 71 69 (j 7 70),z 72 69 (.mov (.t 3)),z 73 69 (.call false 279 [.t 71,.t 72]),z 74 69 (.not (.t 73)),x 75 (.pick (.t 69) (.k (.val (.bool true))) (.t 74))] (.cond 75
 (s [b 2 false] .ret) .skip)))) (.reg [m 49 5,q 50 .add 49 1,m 5 50]))))) (.seq (s [k 7 0] (B 4 (.seq (s [m 76 7,f 77 5 1,l 78 77,n 79 78,o 80 .lss 76 79] (.cond 80 .skip (.exit 4))) (.seq (.block 5 (s [f 83 5 1,l 84 83,m 85 7,
 i 86 16 84 85,h 87 16 86,u 8 16,t 8 16 87] (s [f 88 0 8,l 89 88,c 90 270 [.t 89],w 91 90,m 92 91,z 93 92 (p 1 1 8),z 94 92 (r 1 93),z 95 92 (.call false 270 [.t 94]),z 96 92 (.not (.t 95)),x 97 (.pick (.t 92) (.k (.val (.bool true)))
 (.t 96)),m 98 97,z 99 98 (.faddr 2 7 true (.t 8)),z 100 98 (j 7 99),z 101 98 (.mov (.t 3)),z 102 98 (.call false 279 [.t 100,.t 101]),z 103 98 (.not (.t 102)),x 104 (.pick (.t 98) (.k (.val (.bool true))) (.t 103)),m 105 104,z 106 105
 (.faddr 9 7 true (.t 8)),z 107 105 (j 7 106),z 108 105 (.mov (.t 3)),z 109 105 (.call false 279 [.t 107,.t 108]),z 110 105 (.not (.t 109)),x 111 (.pick (.t 105) (.k (.val (.bool true))) (.t 110))] (.cond 111
 (s [b 2 false] .ret) .skip)))) (.reg [m 81 7,q 82 .add 81 1,m 7 82]))))) (s [b 2 true] .ret))))))),[.t 2]⟩
theorem i252:iF 252 g252:=jF Tryz.func252
def g253:GFun:=⟨⟨25,[2,3,6]⟩,(s [a 2 2 0,a 3 6 1,b 4 false] (.seq (s [k 5 0] (B 0 (.seq (s [m 8 5,f 9 2 3,l 10 9,n 11 10,o 12 .leq 8 11] (.cond 12 .skip (.exit 0))) (.seq (.block 1 (s [m 18 5,u 6 2,h 16 2 2,h 17 6 3,x 19
 (.call true 162 [.t 17,.t 18]),x 20 (.call true 72 [.t 16,.t 19]),m 15 20,v 21 15 0,v 22 15 1,t 6 2 21,m 7 22] (s [m 23 7,w 24 23] (.cond 24 (s [b 4 false] .ret) .skip)))) (.reg [m 13 5,q 14 .add 13 1,m 5 14]))))) (s [b 4 true] .ret))),
 [.t 4]⟩
theorem i253:iF 253 g253:=jF Tryz.func253
def g254:GFun:=⟨⟨29,[2,3,7]⟩,(s [a 2 2 0,a 3 6 1,b 4 false] (s [h 9 2 2,h 10 6 3,c 11 161 [.t 9,.t 10],m 5 11] (.seq (s [k 6 0] (B 0 (.seq (s [m 12 6,m 13 5,n 14 13,o 15 .lss 12 14] (.cond 15 .skip (.exit 0))) (.seq (.block 1
 (s [m 20 5,m 21 6,i 22 2 20 21,u 7 7,h 19 6 3,h 23 2 22,x 24 (.call true 157 [.t 19,.t 23]),m 18 24,v 25 18 0,v 26 18 1,t 7 7 25,m 8 26] (s [m 27 8,w 28 27] (.cond 28 (s [b 4 true] .ret) .skip)))) (.reg [m 16 6,q 17 .add 16 1,
 m 6 17]))))) (s [b 4 false] .ret)))),[.t 4]⟩
theorem i254:iF 254 g254:=jF Tryz.func254
def g255:GFun:=⟨⟨39,[2,3,8]⟩,(s [a 2 2 0,a 3 6 1,b 4 false] (s [h 9 2 2,h 10 6 3,c 11 161 [.t 9,.t 10],m 5 11] (s [x 12 (.bslice 2 [] 0 true []),m 6 12] (.seq (s [k 7 0] (B 0 (.seq (s [m 13 7,f 14 4 3,l 15 14,n 16 15,o 17 .lss 13 16]
 (.cond 17 .skip (.exit 0))) (.seq (.block 1 (s [f 20 4 3,l 21 20,m 22 7,i 23 9 21 22,e 24 0 2 23,h 25 2 24,u 8 2,t 8 2 25] (.seq (s [m 26 5,h 27 2 8,c 28 280 [.t 26,.t 27],w 29 28,m 30 29,z 31 30 (.mov (.t 6)),z 32 30 (j 2 8),z 33 30
 (.call false 280 [.t 31,.t 32]),x 34 (.pick (.t 30) (.k (.val (.bool true))) (.t 33))] (.cond 34 (s [b 4 true] .ret) .skip)) (.reg [m 35 6,h 36 2 8,x 37 (.bslice 2 [] 1 true [(0,(.t 36))]),x 38 (.append 2 24 (.t 35) (.t 37)),m 6 38]))))
 (.reg [m 18 7,q 19 .add 18 1,m 7 19]))))) (s [b 4 false] .ret))))),[.t 4]⟩
theorem i255:iF 255 g255:=jF Tryz.func255
def g256:GFun:=⟨⟨53,[2,3]⟩,(s [a 2 2 0,a 3 6 1,b 4 false] (.seq (s [k 5 0] (B 0 (.seq (s [m 7 5,f 8 4 3,l 9 8,n 10 9,o 11 .lss 7 10] (.cond 11 .skip (.exit 0))) (.seq (.block 1 (s [f 16 4 3,m 18 5,h 14 2 2,h 15 6 3,l 17 16,i 19 9 17 18,
 e 20 2 7 19,h 21 7 20,x 22 (.call true 281 [.t 14,.t 15,.t 21]),w 23 22] (.cond 23 (s [b 4 true] .ret) .skip))) (.reg [m 12 5,q 13 .add 12 1,m 5 13]))))) (.seq (s [k 6 0] (B 2 (.seq (s [m 24 6,f 25 5 3,l 26 25,n 27 26,o 28 .lss 24 27]
 (.cond 28 .skip (.exit 2))) (.seq (.block 3 (s [f 33 5 3,m 35 6,h 31 2 2,h 32 6 3,l 34 33,i 36 16 34 35,e 37 2 7 36,h 38 7 37,x 39 (.call true 281 [.t 31,.t 32,.t 38]),w 40 39,m 41 40,z 44 41 (p 1 5 3),z 46 41 (.mov (.t 6)),z 42 41
 (j 2 2),z 43 41 (j 6 3),z 45 41 (r 1 44),z 47 41 (.iaddr 16 (.t 45) (.t 46)),z 48 41 (.faddr 9 7 true (.t 47)),z 49 41 (j 7 48),z 50 41 (.call true 281 [.t 42,.t 43,.t 49]),z 51 41 (.not (.t 50)),x 52 (.pick (.t 41) (.k (.val
 (.bool true))) (.t 51))] (.cond 52 (s [b 4 true] .ret) .skip))) (.reg [m 29 6,q 30 .add 29 1,m 6 30]))))) (s [b 4 false] .ret)))),[.t 4]⟩
theorem i256:iF 256 g256:=jF Tryz.func256
def g257:GFun:=⟨⟨44,[3,4,5]⟩,(s [a 3 2 0,a 4 6 1,a 5 7 2,k 6 0] (s [f 11 1 5,l 12 11,c 13 199 [.t 12],m 10 13,v 14 10 0,v 15 10 1,v 16 10 2,m 7 14,m 8 15,m 9 16] (.seq (s [f 17 6 5,l 18 17,n 19 18,q 20 .neq 19 2,m 21 20,z 24 21
 (p 1 6 5),z 29 21 (.mov (.t 7)),z 22 21 (j 2 3),z 23 21 (j 6 4),z 25 21 (r 1 24),z 26 21 (.iaddr 7 (.t 25) (.k (.val (.int .i64 0)))),z 27 21 (j 7 26),z 28 21 (.call true 216 [.t 22,.t 23,.t 27]),z 30 21 (.bin .neq (.t 28) (.t 29)),x 31
 (.pick (.t 21) (.k (.val (.bool true))) (.t 30)),m 32 31,z 35 32 (p 1 6 5),z 40 32 (.mov (.t 8)),z 33 32 (j 2 3),z 34 32 (j 6 4),z 36 32 (r 1 35),z 37 32 (.iaddr 7 (.t 36) (.k (.val (.int .i64 1)))),z 38 32 (j 7 37),z 39 32
 (.call true 216 [.t 33,.t 34,.t 38]),z 41 32 (.bin .neq (.t 39) (.t 40)),x 42 (.pick (.t 32) (.k (.val (.bool true))) (.t 41))] (.cond 42 (s [k 6 0] .ret) .skip)) (s [m 43 9,m 6 43] .ret)))),[.t 6]⟩
theorem i257:iF 257 g257:=jF Tryz.func257
def g258:GFun:=⟨⟨39,[3,4,5]⟩,(s [a 3 2 0,a 4 6 1,a 5 7 2,k 6 0] (.seq (s [f 8 6 5,l 9 8,n 10 9,q 11 .neq 10 3,m 12 11,z 15 12 (p 1 6 5),z 13 12 (j 2 3),z 14 12 (j 6 4),z 16 12 (r 1 15),z 17 12 (.iaddr 7 (.t 16) (.k (.val
 (.int .i64 0)))),z 18 12 (j 7 17),z 19 12 (.call true 216 [.t 13,.t 14,.t 18]),z 20 12 (.bin .neq (.t 19) (.k (.val (.int .i64 3)))),x 21 (.pick (.t 12) (.k (.val (.bool true))) (.t 20))] (.cond 21 (s [k 6 0] .ret) .skip)) (s [f 24 6 5,
 h 22 2 3,h 23 6 4,l 25 24,x 26 (.iaddr 7 (.t 25) (.k (.val (.int .i64 1)))),h 27 7 26,x 28 (.call true 216 [.t 22,.t 23,.t 27]),m 7 28] (.seq (s [m 29 7,f 32 6 5,h 30 2 3,h 31 6 4,l 33 32,x 34 (.iaddr 7 (.t 33) (.k (.val (.int .i64 2)))),
 h 35 7 34,x 36 (.call true 216 [.t 30,.t 31,.t 35]),o 37 .neq 29 36] (.cond 37 (s [k 6 0] .ret) .skip)) (s [m 38 7,m 6 38] .ret))))),[.t 6]⟩
theorem i258:iF 258 g258:=jF Tryz.func258
def g259:GFun:=⟨⟨48,[3]⟩,(s [a 3 2 1,x 4 (.mov (.k (.val (.slice none 0 0))))] (s [k 5 0] (.seq (B 0 (.seq (s [m 7 5,m 8 0,n 9 8,o 10 .lss 7 9,m 11 10,y 12 11 (.mov (.t 0)),y 13 11 (.mov (.t 5)),y 14 11 (.iaddr 2 (.t 12) (.t 13)),
 y 15 11 (j 2 14),y 16 11 (j 2 3),y 17 11 (.call true 282 [.t 15,.t 16]),x 18 (.pick (.t 11) (.t 17) (.k (.val (.bool false))))] (.cond 18 .skip (.exit 0))) (.block 1 (.reg [m 19 5,q 20 .add 19 1,m 5 20])))) (.seq (s [m 21 5,m 22 0,n 23 22,
 o 24 .lss 21 23,m 25 24,y 26 25 (.mov (.t 0)),y 27 25 (.mov (.t 5)),y 28 25 (.iaddr 2 (.t 26) (.t 27)),y 29 25 (j 2 28),y 30 25 (j 2 3),y 31 25 (.aeq false [1,2] (.t 29) (.t 30)),x 32 (.pick (.t 25) (.t 31) (.k (.val (.bool false))))]
 (.cond 32 (s [m 33 0,m 4 33] .ret) .skip)) (s [x 34 (.bslice 2 [] 0 true []),m 35 0,m 36 5,x 37 (.slc 2 (.t 35) none (some (.t 36))),x 38 (.append 2 24 (.t 34) (.t 37)),m 6 38] (s [m 39 6,h 40 2 3,x 41 (.bslice 2 [] 1 true [(0,(.t 40))]),
 x 42 (.append 2 24 (.t 39) (.t 41)),m 6 42] (s [m 43 6,m 44 0,m 45 5,x 46 (.slc 2 (.t 44) (some (.t 45)) none),x 47 (.append 2 24 (.t 43) (.t 46)),m 4 47] .ret))))))),[.t 4]⟩
theorem i259:iF 259 g259:=jF Tryz.func259
def g265:GFun:=⟨⟨5,[]⟩,(s [b 2 false] (s [m 3 0,c 4 57 [.t 3,(.k (.val (.int .i64 1))),(.k (.val (.int .i64 4)))],m 2 4] .ret)),[.t 2]⟩
theorem i265:iF 265 g265:=jF Tryz.func265
def g266:GFun:=⟨⟨9,[]⟩,(s [b 2 false] (s [m 3 0,x 4 (.bin .geq (.t 3) (.k (.val (.int .u8 97)))),m 5 4,y 6 5 (.mov (.t 0)),y 7 5 (.bin .leq (.t 6) (.k (.val (.int .u8 122)))),x 8 (.pick (.t 5) (.t 7) (.k (.val (.bool false)))),
 m 2 8] .ret)),[.t 2]⟩
theorem i266:iF 266 g266:=jF Tryz.func266
def g267:GFun:=⟨⟨9,[]⟩,(s [b 2 false] (s [m 3 0,x 4 (.bin .geq (.t 3) (.k (.val (.int .u8 48)))),m 5 4,y 6 5 (.mov (.t 0)),y 7 5 (.bin .leq (.t 6) (.k (.val (.int .u8 57)))),x 8 (.pick (.t 5) (.t 7) (.k (.val (.bool false)))),
 m 2 8] .ret)),[.t 2]⟩
theorem i267:iF 267 g267:=jF Tryz.func267
def g268:GFun:=⟨⟨18,[]⟩,(s [b 2 false] (.seq (s [m 3 0] (.block 0 (.seq (s [x 5 (.bin .eql (.t 3) (.k (.val (.string (ByteArray.mk #[105,102]))))),m 4 5] (.cond 4 .skip (s [x 6 (.bin .eql (.t 3) (.k (.val (.string (ByteArray.mk #[116,
 104,101,110]))))),m 4 6] (.cond 4 .skip (s [x 7 (.bin .eql (.t 3) (.k (.val (.string (ByteArray.mk #[101,108,115,101]))))),m 4 7] (.cond 4 .skip (s [x 8 (.bin .eql (.t 3) (.k (.val (.string (ByteArray.mk #[116,114,117,101]))))),m 4 8]
 (.cond 4 .skip (s [x 9 (.bin .eql (.t 3) (.k (.val (.string (ByteArray.mk #[102,97,108,115,101]))))),m 4 9] (.cond 4 .skip (s [x 10 (.bin .eql (.t 3) (.k (.val (.string (ByteArray.mk #[108,105,116]))))),m 4 10] (.cond 4 .skip (s [x 11
 (.bin .eql (.t 3) (.k (.val (.string (ByteArray.mk #[110,111,110,101]))))),m 4 11] (.cond 4 .skip (s [x 12 (.bin .eql (.t 3) (.k (.val (.string (ByteArray.mk #[115,101,108,102]))))),m 4 12] (.cond 4 .skip (s [x 13 (.bin .eql (.t 3) (.k
 (.val (.string (ByteArray.mk #[111,102]))))),m 4 13] (.cond 4 .skip (s [x 14 (.bin .eql (.t 3) (.k (.val (.string (ByteArray.mk #[109,97,120]))))),m 4 14] (.cond 4 .skip (s [x 15 (.bin .eql (.t 3) (.k (.val (.string (ByteArray.mk #[109,
 105,110]))))),m 4 15] (.cond 4 .skip (s [x 16 (.bin .eql (.t 3) (.k (.val (.string (ByteArray.mk #[119,105,116,104]))))),m 4 16] (.cond 4 .skip (.reg [x 17 (.bin .eql (.t 3) (.k (.val (.string (ByteArray.mk #[104,97,115]))))),
 m 4 17]))))))))))))))))))))))))) (.cond 4 (s [b 2 true] .ret) .skip)))) (s [b 2 false] .ret))),[.t 2]⟩
theorem i268:iF 268 g268:=jF Tryz.func268
def g269:GFun:=⟨⟨86,[1]⟩,(s [a 1 7 0,b 2 false] (s [k 3 0] (.seq (s [f 7 0 1,l 8 7] (.block 0 (s [q 10 .eql 8 4,m 9 10] (.cond 9 (.reg [k 3 2]) (s [q 12 .eql 8 5,m 11 12] (.cond 11 (.reg [k 3 3]) (s [q 14 .eql 8 8,m 13 14] (.cond 13
 (.reg [k 3 1]) .skip)))))))) (.seq (s [f 15 6 1,l 16 15,n 17 16,m 18 3,o 19 .neq 17 18] (.cond 19 (s [b 2 false] .ret) .skip)) (s [f 20 0 1,l 21 20,q 22 .eql 21 3,m 23 22,z 24 23 (p 1 0 1),z 25 23 (r 1 24),z 26 23 (.bin .eql (.t 25) (.k
 (.val (.int .i64 6)))),x 27 (.pick (.t 23) (.k (.val (.bool true))) (.t 26)),m 4 27] (s [f 28 0 1,l 29 28,q 30 .eql 29 3,m 31 30,z 32 31 (p 1 0 1),z 33 31 (r 1 32),z 34 31 (.bin .eql (.t 33) (.k (.val (.int .i64 8)))),x 35 (.pick (.t 31)
 (.k (.val (.bool true))) (.t 34)),m 5 35] (s [f 36 0 1,l 37 36,q 38 .eql 37 1,m 39 38,z 40 39 (p 1 0 1),z 41 39 (r 1 40),z 42 39 (.bin .eql (.t 41) (.k (.val (.int .i64 4)))),x 43 (.pick (.t 39) (.k (.val (.bool true))) (.t 42)),m 6 43]
 (s [m 44 4,m 45 44,z 46 45 (p 1 2 1),z 47 45 (r 1 46),z 48 45 (.bin .eql (.t 47) (.k (.val (.int .i64 0)))),x 49 (.pick (.t 45) (.k (.val (.bool true))) (.t 48)),m 50 49,y 51 50 (.mov (.t 5)),y 52 50 (.mov (.t 51)),z 53 52 (p 1 5 1),
 z 54 52 (r 1 53),z 55 52 (.bin .eql (.t 54) (.k (.val (.string (ByteArray.mk #[]))))),y 56 50 (.pick (.t 52) (.k (.val (.bool true))) (.t 55)),x 57 (.pick (.t 50) (.t 56) (.k (.val (.bool false)))),m 58 57,y 59 58 (.mov (.t 6)),y 60 58
 (.mov (.t 59)),z 61 60 (p 1 1 1),z 62 60 (r 1 61),z 63 60 (.bin .eql (.t 62) (.k (.val (.int .i64 0)))),y 64 58 (.pick (.t 60) (.k (.val (.bool true))) (.t 63)),x 65 (.pick (.t 58) (.t 64) (.k (.val (.bool false)))),m 66 65,y 67 66
 (p 1 0 1),y 68 66 (r 1 67),y 69 66 (.bin .eql (.t 68) (.k (.val (.int .i64 1)))),y 70 66 (.mov (.t 69)),z 71 70 (p 1 3 1),z 72 70 (r 1 71),z 73 70 (.bin .eql (.t 72) (.k (.val (.int .i64 0)))),y 74 66 (.pick (.t 70) (.k (.val
 (.bool true))) (.t 73)),x 75 (.pick (.t 66) (.t 74) (.k (.val (.bool false)))),m 76 75,y 77 76 (p 1 0 1),y 78 76 (r 1 77),y 79 76 (.bin .eql (.t 78) (.k (.val (.int .i64 8)))),y 80 76 (.mov (.t 79)),z 81 80 (p 1 4 1),z 82 80 (r 1 81),
 z 83 80 (.bin .eql (.t 82) (.k (.val (.string (ByteArray.mk #[]))))),y 84 76 (.pick (.t 80) (.k (.val (.bool true))) (.t 83)),x 85 (.pick (.t 76) (.t 84) (.k (.val (.bool false)))),m 2 85] .ret)))))))),[.t 2]⟩
theorem i269:iF 269 g269:=jF Tryz.func269
def g270:GFun:=⟨⟨15,[]⟩,(s [b 2 false] (s [m 3 0,c 4 295 [.t 3],m 5 4,y 6 5 (.mov (.t 0)),y 7 5 (.slen (.t 6)),y 8 5 (.bin .leq (.t 7) (.k (.val (.int .i64 8)))),x 9 (.pick (.t 5) (.t 8) (.k (.val (.bool false)))),m 10 9,y 11 10 (.mov
 (.t 0)),y 12 10 (.call false 296 [.t 11]),y 13 10 (.not (.t 12)),x 14 (.pick (.t 10) (.t 13) (.k (.val (.bool false)))),m 2 14] .ret)),[.t 2]⟩
theorem i270:iF 270 g270:=jF Tryz.func270
def g271:GFun:=⟨⟨40,[1]⟩,(s [a 1 4 0,b 2 false] (.seq (.block 0 (s [f 4 0 1,l 5 4,c 6 227 [.t 5],w 7 6,m 8 7,z 9 8 (p 1 1 1),z 10 8 (r 1 9),z 11 8 (.call false 265 [.t 10]),z 12 8 (.not (.t 11)),x 13 (.pick (.t 8) (.k (.val
 (.bool true))) (.t 12)),m 14 13,z 15 14 (p 1 2 1),z 16 14 (r 1 15),z 17 14 (.call false 57 [.t 16,(.k (.val (.int .i64 1))),(.k (.val (.int .i64 3)))]),z 18 14 (.not (.t 17)),x 19 (.pick (.t 14) (.k (.val (.bool true))) (.t 18)),m 3 19]
 (.cond 3 (s [b 2 false] .ret) (s [f 21 2 1,l 22 21,q 23 .eql 22 3,m 20 23] (.cond 20 (s [f 24 1 1,l 25 24,q 26 .eql 25 2,m 27 26,y 28 27 (p 1 3 1),y 29 27 (r 1 28),y 30 27 (.not (.t 29)),x 31 (.pick (.t 27) (.t 30) (.k (.val
 (.bool false)))),m 2 31] .ret) .skip))))) (s [f 32 3 1,l 33 32,w 34 33,m 35 34,z 36 35 (p 1 1 1),z 37 35 (r 1 36),z 38 35 (.bin .eql (.t 37) (.k (.val (.int .i64 2)))),x 39 (.pick (.t 35) (.k (.val (.bool true))) (.t 38)),m 2 39] .ret))),
 [.t 2]⟩
theorem i271:iF 271 g271:=jF Tryz.func271
def g272:GFun:=⟨⟨9,[2]⟩,(s [a 2 4 0,b 3 false] (s [f 4 0 2,l 5 4,f 6 0 1,l 7 6,o 8 .eql 5 7,m 3 8] .ret)),[.t 3]⟩
theorem i272:iF 272 g272:=jF Tryz.func272
def g273:GFun:=⟨⟨12,[2,3]⟩,(s [a 2 7 0,a 3 1 1,b 4 false] (s [h 5 7 2,c 6 151 [.t 5],m 7 6,y 8 7 (j 7 2),y 9 7 (.mkfn 297 [.t 3]),y 10 7 (.call false 184 [.t 8,.t 9]),x 11 (.pick (.t 7) (.t 10) (.k (.val (.bool false)))),m 4 11] .ret)),
 [.t 4]⟩
theorem i273:iF 273 g273:=jF Tryz.func273
def g274:GFun:=⟨⟨19,[]⟩,(s [k 4 0] (.seq (s [m 6 0,n 7 6,k 8 0] (B 0 (s [o 9 .lss 8 7] (C 9 0 (.seq (.block 1 (s [m 10 8,m 5 10] (s [m 11 1,m 12 0,m 13 5,i 14 2 12 13,h 15 2 14,x 16 (.callv false (.t 11) [.t 15])] (.cond 16 (s [m 17 5,
 m 4 17] .ret) .skip)))) (.reg [q 18 .add 8 1,m 8 18])))))) (s [k 4 (-1)] .ret))),[.t 4]⟩
theorem i274:iF 274 g274:=jF Tryz.func274
def g275:GFun:=⟨⟨19,[]⟩,(s [k 4 0] (.seq (s [m 6 0,n 7 6,k 8 0] (B 0 (s [o 9 .lss 8 7] (C 9 0 (.seq (.block 1 (s [m 10 8,m 5 10] (s [m 11 1,m 12 0,m 13 5,i 14 9 12 13,h 15 9 14,x 16 (.callv false (.t 11) [.t 15])] (.cond 16 (s [m 17 5,
 m 4 17] .ret) .skip)))) (.reg [q 18 .add 8 1,m 8 18])))))) (s [k 4 (-1)] .ret))),[.t 4]⟩
theorem i275:iF 275 g275:=jF Tryz.func275
def g276:GFun:=⟨⟨19,[3]⟩,(s [a 3 2 1,k 4 0] (.seq (s [m 6 0,n 7 6,k 8 0] (B 0 (s [o 9 .lss 8 7] (C 9 0 (.seq (.block 1 (s [m 10 8,m 5 10] (s [m 12 0,m 13 5,i 14 2 12 13,h 11 2 3,h 15 2 14,x 16 (.aeq false [1,2] (.t 11) (.t 15))]
 (.cond 16 (s [m 17 5,m 4 17] .ret) .skip)))) (.reg [q 18 .add 8 1,m 8 18])))))) (s [k 4 (-1)] .ret))),[.t 4]⟩
theorem i276:iF 276 g276:=jF Tryz.func276
def g277:GFun:=⟨⟨39,[1]⟩,(s [a 1 4 0,b 2 false] (.seq (s [f 3 0 1,l 4 3,c 5 270 [.t 4],w 6 5,m 7 6,z 8 7 (p 1 1 1),z 9 7 (r 1 8),z 10 7 (.call false 64 [.t 9,(.k (.val (.int .i64 1))),(.k (.val (.int .i64 4)))]),z 11 7 (.not (.t 10)),
 x 12 (.pick (.t 7) (.k (.val (.bool true))) (.t 11)),m 13 12,z 14 13 (p 1 2 1),z 15 13 (r 1 14),z 16 13 (.call false 64 [.t 15,(.k (.val (.int .i64 1))),(.k (.val (.int .i64 3)))]),z 17 13 (.not (.t 16)),x 18 (.pick (.t 13) (.k (.val
 (.bool true))) (.t 17))] (.cond 18 (s [b 2 false] .ret) .skip)) (.seq (s [f 19 2 1,l 20 19,q 21 .eql 20 3,m 22 21,y 23 22 (p 1 1 1),y 24 22 (r 1 23),y 25 22 (.bin .neq (.t 24) (.k (.val (.int .i64 2)))),y 26 22 (.mov (.t 25)),z 27 26
 (p 1 3 1),z 28 26 (r 1 27),y 29 22 (.pick (.t 26) (.k (.val (.bool true))) (.t 28)),x 30 (.pick (.t 22) (.t 29) (.k (.val (.bool false))))] (.cond 30 (s [b 2 false] .ret) .skip)) (s [f 31 3 1,l 32 31,w 33 32,m 34 33,z 35 34 (p 1 1 1),
 z 36 34 (r 1 35),z 37 34 (.bin .eql (.t 36) (.k (.val (.int .i64 2)))),x 38 (.pick (.t 34) (.k (.val (.bool true))) (.t 37)),m 2 38] .ret)))),[.t 2]⟩
theorem i277:iF 277 g277:=jF Tryz.func277
def g278:GFun:=⟨⟨18,[]⟩,(s [b 2 false] (.seq (s [k 3 0] (B 0 (.seq (s [m 4 3,m 5 0,n 6 5,o 7 .lss 4 6] (.cond 7 .skip (.exit 0))) (.seq (.block 1 (s [m 10 0,m 11 3,x 12 (.slc 1 (.t 10) none (some (.t 11))),m 13 0,m 14 3,i 15 1 13 14,
 l 16 15,x 17 (.call true 251 [.t 12,.t 16])] (.cond 17 (s [b 2 false] .ret) .skip))) (.reg [m 8 3,q 9 .add 8 1,m 3 9]))))) (s [b 2 true] .ret))),[.t 2]⟩
theorem i278:iF 278 g278:=jF Tryz.func278
def g279:GFun:=⟨⟨12,[2]⟩,(s [a 2 7 0,b 4 false] (s [h 5 7 2,c 6 158 [.t 5],m 7 6,y 8 7 (j 7 2),y 9 7 (.mov (.t 1)),y 10 7 (.call false 298 [.t 8,.t 9]),x 11 (.pick (.t 7) (.t 10) (.k (.val (.bool false)))),m 4 11] .ret)),[.t 4]⟩
theorem i279:iF 279 g279:=jF Tryz.func279
def g280:GFun:=⟨⟨18,[3]⟩,(s [a 3 2 1,b 4 false] (.seq (s [k 5 0] (B 0 (.seq (s [m 6 5,m 7 0,n 8 7,o 9 .lss 6 8] (.cond 9 .skip (.exit 0))) (.seq (.block 1 (s [m 12 0,m 13 5,i 14 2 12 13,h 15 2 14,h 16 2 3,x 17 (.aeq false [1,2]
 (.t 15) (.t 16))] (.cond 17 (s [b 4 true] .ret) .skip))) (.reg [m 10 5,q 11 .add 10 1,m 5 11]))))) (s [b 4 false] .ret))),[.t 4]⟩
theorem i280:iF 280 g280:=jF Tryz.func280
def g281:GFun:=⟨⟨25,[3,4,5]⟩,(s [a 3 2 0,a 4 6 1,a 5 7 2,b 6 false] (s [h 9 7 5,c 10 178 [.t 9],m 7 10] (.seq (s [k 8 0] (B 0 (.seq (s [m 11 8,m 12 7,n 13 12,o 14 .lss 11 13] (.cond 14 .skip (.exit 0))) (.seq (.block 1 (s [m 19 7,
 m 20 8,i 21 2 19 20,h 17 2 3,h 18 6 4,h 22 2 21,x 23 (.call true 299 [.t 17,.t 18,.t 22]),w 24 23] (.cond 24 (s [b 6 false] .ret) .skip))) (.reg [m 15 8,q 16 .add 15 1,m 8 16]))))) (s [b 6 true] .ret)))),[.t 6]⟩
theorem i281:iF 281 g281:=jF Tryz.func281
def g282:GFun:=⟨⟨24,[2,3]⟩,(s [a 2 2 0,a 3 2 1,b 4 false] (s [f 5 0 2,l 6 5,f 7 0 3,l 8 7,o 9 .lss 6 8,m 10 9,z 11 10 (p 1 0 2),z 12 10 (r 1 11),z 13 10 (p 1 0 3),z 14 10 (r 1 13),z 15 10 (.bin .eql (.t 12) (.t 14)),z 16 10 (.mov
 (.t 15)),y 17 16 (p 1 1 2),y 18 16 (r 1 17),y 19 16 (p 1 1 3),y 20 16 (r 1 19),y 21 16 (.bin .lss (.t 18) (.t 20)),z 22 10 (.pick (.t 16) (.t 21) (.k (.val (.bool false)))),x 23 (.pick (.t 10) (.k (.val (.bool true))) (.t 22)),
 m 4 23] .ret)),[.t 4]⟩
theorem i282:iF 282 g282:=jF Tryz.func282
def g295:GFun:=⟨⟨45,[]⟩,(s [b 2 false] (.seq (s [k 3 0] (B 0 (.seq (s [m 6 3,m 7 0,x 8 (.slen (.t 7)),o 9 .lss 6 8] (.cond 9 .skip (.exit 0))) (.seq (.block 1 (s [m 12 0,m 13 3,x 14 (.idx (.t 12) (.t 13)),x 15 (.bin .geq (.t 14) (.k
 (.val (.int .u8 97)))),m 16 15,y 17 16 (.mov (.t 0)),y 18 16 (.mov (.t 3)),y 19 16 (.idx (.t 17) (.t 18)),y 20 16 (.bin .leq (.t 19) (.k (.val (.int .u8 122)))),x 21 (.pick (.t 16) (.t 20) (.k (.val (.bool false)))),m 4 21] (s [m 22 0,
 m 23 3,x 24 (.idx (.t 22) (.t 23)),x 25 (.bin .geq (.t 24) (.k (.val (.int .u8 48)))),m 26 25,y 27 26 (.mov (.t 0)),y 28 26 (.mov (.t 3)),y 29 26 (.idx (.t 27) (.t 28)),y 30 26 (.bin .leq (.t 29) (.k (.val (.int .u8 57)))),x 31 (.pick
 (.t 26) (.t 30) (.k (.val (.bool false)))),m 5 31] (s [m 32 4,w 33 32,m 34 33,y 35 34 (.mov (.t 3)),y 36 34 (.bin .eql (.t 35) (.k (.val (.int .i64 0)))),y 37 34 (.mov (.t 36)),z 38 37 (.mov (.t 5)),z 39 37 (.not (.t 38)),y 40 34 (.pick
 (.t 37) (.k (.val (.bool true))) (.t 39)),x 41 (.pick (.t 34) (.t 40) (.k (.val (.bool false))))] (.cond 41 (s [b 2 false] .ret) .skip))))) (.reg [m 10 3,q 11 .add 10 1,m 3 11]))))) (s [m 42 0,x 43 (.slen (.t 42)),q 44 .gtr 43 0,
 m 2 44] .ret))),[.t 2]⟩
theorem i295:iF 295 g295:=jF Tryz.func295
def g296:GFun:=⟨⟨6,[]⟩,(s [b 2 false] (s [c 3 305 [],m 4 0,c 5 251 [.t 3,.t 4],m 2 5] .ret)),[.t 2]⟩
theorem i296:iF 296 g296:=jF Tryz.func296
def g297:GFun:=⟨⟨8,[2]⟩,(s [a 2 7 0,b 3 false] (s [f 4 2 2,l 5 4,l 6 1,o 7 .leq 5 6,m 3 7] .ret)),[.t 3]⟩
theorem i297:iF 297 g297:=jF Tryz.func297
def g298:GFun:=⟨⟨25,[2]⟩,(s [a 2 7 0,b 4 false] (.seq (s [k 5 0] (B 0 (.seq (s [m 6 5,f 7 6 2,l 8 7,n 9 8,o 10 .lss 6 9] (.cond 10 .skip (.exit 0))) (.seq (.block 1 (s [f 13 6 2,l 14 13,m 15 5,i 16 7 14 15,h 17 7 16,m 18 1,
 c 19 298 [.t 17,.t 18],w 20 19] (.cond 20 (s [b 4 false] .ret) .skip))) (.reg [m 11 5,q 12 .add 11 1,m 5 12]))))) (s [f 21 2 2,l 22 21,m 23 1,o 24 .leq 22 23,m 4 24] .ret))),[.t 4]⟩
theorem i298:iF 298 g298:=jF Tryz.func298
def g299:GFun:=⟨⟨49,[3,4,5,7,9]⟩,(s [a 3 2 0,a 4 6 1,a 5 2 2,b 6 false] (.seq (s [f 11 0 5,l 12 11,f 13 2 4,l 14 13,n 15 14,c 16 64 [.t 12,(.k (.val (.int .i64 0))),.t 15],w 17 16] (.cond 17 (s [b 6 false] .ret) .skip)) (s [f 21 0 5,
 u 7 2,h 19 2 3,h 20 6 4,l 22 21,x 23 (.call true 162 [.t 20,.t 22]),x 24 (.call true 72 [.t 19,.t 23]),m 18 24,v 25 18 0,v 26 18 1,t 7 2 25,m 8 26] (s [h 28 2 7,f 29 1 5,l 30 29,c 31 79 [.t 28,.t 30],m 27 31,v 32 27 0,v 33 27 1,u 9 4,
 t 9 4 32,m 10 33] (.seq (s [f 34 0 5,l 35 34,q 36 .eql 35 0] (.cond 36 (s [m 37 10,m 38 37,y 39 38 (p 1 2 9),y 40 38 (r 1 39),y 41 38 (.bin .eql (.t 40) (.k (.val (.int .i64 1)))),x 42 (.pick (.t 38) (.t 41) (.k (.val (.bool false)))),
 m 6 42] .ret) .skip)) (s [m 43 10,m 44 43,y 45 44 (p 1 2 9),y 46 44 (r 1 45),y 47 44 (.bin .eql (.t 46) (.k (.val (.int .i64 2)))),x 48 (.pick (.t 44) (.t 47) (.k (.val (.bool false)))),m 6 48] .ret)))))),[.t 6]⟩
theorem i299:iF 299 g299:=jF Tryz.func299
def g305:GFun:=⟨⟨2,[]⟩,(s [x 0 (.mov (.k (.val (.slice none 0 0))))] (s [x 1 (.bslice 1 [] 13 false [(0,(.k (.val (.string (ByteArray.mk #[105,102]))))),(1,(.k (.val (.string (ByteArray.mk #[116,104,101,110]))))),(2,(.k (.val (.string
 (ByteArray.mk #[101,108,115,101]))))),(3,(.k (.val (.string (ByteArray.mk #[116,114,117,101]))))),(4,(.k (.val (.string (ByteArray.mk #[102,97,108,115,101]))))),(5,(.k (.val (.string (ByteArray.mk #[108,105,116]))))),(6,(.k (.val
 (.string (ByteArray.mk #[110,111,110,101]))))),(7,(.k (.val (.string (ByteArray.mk #[115,101,108,102]))))),(8,(.k (.val (.string (ByteArray.mk #[111,102]))))),(9,(.k (.val (.string (ByteArray.mk #[109,97,120]))))),(10,(.k (.val (.string
 (ByteArray.mk #[109,105,110]))))),(11,(.k (.val (.string (ByteArray.mk #[119,105,116,104]))))),(12,(.k (.val (.string (ByteArray.mk #[104,97,115])))))]),m 0 1] .ret)),[.t 0]⟩
theorem i305:iF 305 g305:=jF Tryz.func305
end Go.Proofs.YtknbnefbgpnkgaaGreat
namespace Go.Proofs.YtknbnefbgpnkgaaGreat
open Go.Gh
open Nat (reduceEqDiff reduceLeDiff reduceAdd reduceLT)
open Int (reduceNe)
theorem mxd:Tryz.prog.follows .mixedOrders = true:=Checked.mixed Tryz.checked
theorem w64 (x lo hi:Int):Pu 64 [I x,I lo,I hi] (· = B (decide (lo≤x∧x≤hi))):=by
 refine ZZ mxd i64 rfl (by simp) ?_;refine X0 ?_
 (refine R0 ?_;with_reducible repeat' intro h)<;>simp[*]
theorem w57 (x lo hi:Int):Pu 57 [I x,I lo,I hi] (· = B (decide (lo≤x∧x≤hi))):=by
 refine ZZ mxd i57 rfl (by simp) ?_;refine X0 ?_
 (refine R0 ?_;with_reducible repeat' intro h)<;>simp[*]
theorem w20 (t:List Nod) (id:Int):Pu 20 [Tr t,I id] (· = I (Zg (fun y=>decide (y.id=id)) t)):=by
 refine GCalls.lenA fun hl=> ?_
 obtain ⟨hlen,_⟩:=lenTr hl.1
 refine ZZ mxd i20 rfl (by simp) ?_;refine X0 ?_
 refine ZK mxd (ι:={ i:Nat // i≤t.length∧∀y∈t.take i,decide (y.id=id)=false }) (fun i=>[(2,.rop 1 (Tr t)),(1,I id),(5,I i.1)]) (fun _ => []) (fun i=>t.length-i.1) ⟨0,by simp⟩ (by simp[E2]) rfl ?_
 rintro ⟨i,hi,hn⟩
 (refine R0 ?_;with_reducible repeat' first|intro h|apply jO)
 ·rw[Yx (by assumption) (by simp[h]) hn]
 ·exact nx ⟨i+1,oT,Zi (by assumption) (by simp[h]) hn⟩ (by simp;omega) (by simp[E2]) rfl
 ·have:i=t.length:=by omega
  subst this
  rw[tL (Nat.le_refl _)] at hn
  rw[Yz hn]
theorem w114 (x:Nod) (id:Int):Pu 114 [Nd x,.rop 1 (I id)] (· = B (decide (x.id=id))):=by
 refine ZZ mxd i114 rfl (by simp) ?_;refine X0 ?_
 try (refine R0 ?_;with_reducible repeat' exact trivial)
theorem w113 (t:List Nod) (f:Nat) (cs:List GV) (p:Nod→Bool) (hp:∀x∈t,Pu f (Nd x::cs) (· = B (p x))) :
 Pu 113 [NdS t,.clo f cs] (· = I (Zg p t)):=by
 refine GCalls.lenA fun hl=> ?_
 have hlen:=hl.1.1
 simp only[List.length_map,Zh] at hlen
 refine ZZ mxd i113 rfl (by simp) ?_;refine X0 ?_
 refine ZK mxd (ι:={ i:Nat // i≤t.length∧∀y∈t.take i,p y=false }) (fun i=>[(0,NdS t),(1,.clo f cs),(7,I t.length),(8,I i.1)]) (fun _ => []) (fun i=>t.length-i.1) ⟨0,by simp⟩ (by simp[E2]) rfl ?_
 rintro ⟨i,hi,hn⟩
 (refine R0 ?_;with_reducible repeat' first|intro h|apply jO)
 ·refine callS.eq (hp t[i] (gM _)) ?_
  (refine R0 ?_;with_reducible repeat' first|intro h|apply jO)
  ·rw[Yx (by assumption) h hn]
  ·exact nx ⟨i+1,oT,Zi (by assumption) h hn⟩ (by simp;omega) (by simp[E2]) rfl
 ·have:i=t.length:=by omega
  subst this
  rw[tL (Nat.le_refl _)] at hn
  rw[Yz hn]
theorem w59 (t:List Nod) (id:Int):Pu 59 [Tr t,I id] (· = I (Zg (fun y=>decide (y.id=id)) t)):=by
 refine ZZ mxd i59 rfl (by simp) ?_;refine X0 ?_
 refine callS.eq (w113 t _ _ _ fun x _ => w114 x id) ?_
 (refine R0 ?_;with_reducible repeat' exact trivial)
end Go.Proofs.YtknbnefbgpnkgaaGreat
namespace Go.Proofs.YtknbnefbgpnkgaaGreat
open Go.Gh
open Nat (reduceEqDiff reduceLeDiff reduceAdd reduceLT)
open Int (reduceNe)
end Go.Proofs.YtknbnefbgpnkgaaGreat
namespace Go.Proofs.YtknbnefbgpnkgaaGreat
open Go.Gh
open Nat (reduceEqDiff reduceLeDiff reduceAdd reduceLT)
open Int (reduceNe)
end Go.Proofs.YtknbnefbgpnkgaaGreat
namespace Go.Proofs.YtknbnefbgpnkgaaGreat
open Go.Gh
open Nat (reduceEqDiff reduceLeDiff reduceAdd reduceLT)
open Int (reduceNe)
theorem w21 (t:List Nod) (i:Int):Pu 21 [Tr t,I i] (· = I (Y6 t i)):=by
 refine GCalls.lenA fun hl=> ?_
 obtain ⟨hlen,_⟩:=lenTr hl.1
 refine ZZ mxd i21 rfl (by simp) ?_;refine X0 ?_
 refine callS.eq (w64 _ _ _) ?_
 (refine R0 ?_;with_reducible repeat' first|intro h|apply jO)
 rotate_left
 ·simp[Y6];omega
 obtain ⟨i,rfl⟩:∃k:Nat,i=k:=⟨i.toNat,oT⟩
 have hi:i<t.length:=by omega
 have hs:Y6 t i=ZC t i:=by simp[Y6,hi]
 refine ZK mxd (ι:={ k:Nat // i<k∧k≤t.length∧∀j (h:j<t.length),i<j→j<k→(i:Int)≤t[j].parent }) (fun k=>[(2,.rop 1 (Tr t)),(1,I i),(5,I k.1)]) (fun _ => []) (fun k=>t.length-k.1) ⟨i+1,oT,oT,fun j h h1 h2=>by omega⟩ (by simp[E2]) rfl ?_
 rintro ⟨k,hk,hkl,ha⟩
 (refine R0 ?_;with_reducible repeat' first|intro h|apply jO)
 ·refine nx ⟨k+1,oT,oT,fun j hj h1 h2=> ?_⟩ (by simp;omega) (by simp[E2]) rfl
  rcases nL j k with h3|h3
  ·exact ha j hj h1 h3
  ·have:j=k:=by omega
   subst this;exact h
 ·rw[hs,subLen_eq hk hkl ha (fun _ => h)]
  congr 2;omega
 ·rw[hs,subLen_eq hk hkl ha (fun h'=>absurd h' h)]
  congr 2;omega
theorem w81 (t:List Nod) (i:Int):Pu 81 [Tr t,I i] (· = B (decide (0≤i∧i<t.length))):=by
 refine GCalls.lenA fun hl=> ?_
 obtain ⟨hlen,_⟩:=lenTr hl.1
 refine ZZ mxd i81 rfl (by simp) ?_;refine X0 ?_
 refine callS.eq (w57 _ _ _) ?_
 (refine R0 ?_)
 exact bEq oT
theorem w115 (t:List Nod) (i:Int):Pu 115 [Tr t,I i] (· = I (Y6 t i)):=by
 refine GCalls.lenA fun hl=> ?_
 obtain ⟨hlen,_⟩:=lenTr hl.1
 refine ZZ mxd i115 rfl (by simp) ?_;refine X0 ?_
 refine callS.eq (w81 _ _) ?_
 (refine R0 ?_;with_reducible repeat' first|intro h|apply jO)
 rotate_left
 ·simp[Y6];omega
 obtain ⟨i,rfl⟩:∃k:Nat,i=k:=⟨i.toNat,oT⟩
 have hi:i<t.length:=by omega
 have hs:Y6 t i=ZC t i:=by simp[Y6,hi]
 refine ZK mxd (ι:={ k:Nat // i<k∧k≤t.length∧∀j (h:j<t.length),i<j→j<k→(i:Int)≤t[j].parent }) (fun k=>[(2,.rop 1 (Tr t)),(1,I i),(5,I k.1)]) (fun _ => []) (fun k=>t.length-k.1) ⟨i+1,oT,oT,fun j h h1 h2=>by omega⟩ (by simp[E2]) rfl ?_
 rintro ⟨k,hk,hkl,ha⟩
 (refine R0 ?_;with_reducible repeat' first|intro h|apply jO)
 ·refine nx ⟨k+1,oT,oT,fun j hj h1 h2=> ?_⟩ (by simp;omega) (by simp[E2]) rfl
  rcases nL j k with h3|h3
  ·exact ha j hj h1 h3
  ·have:j=k:=by omega
   subst this;exact h
 ·rw[hs,subLen_eq hk hkl ha (fun _ => h)]
  congr 2;omega
 ·rw[hs,subLen_eq hk hkl ha (fun h'=>absurd h' h)]
  congr 2;omega
theorem w121 (x y:Int):Pu 121 [I x,I y] (· = I (max x y)):=by
 refine ZZ mxd i121 rfl (by simp) ?_;refine X0 ?_
 (refine R0 ?_;with_reducible repeat' first|intro h|apply jO)<;>simp<;>omega
theorem w231 (n:Int):Pu 231 [I n] (· = I (satV n)):=by
 refine ZZ mxd i231 rfl (by simp) ?_;refine X0 ?_
 (refine R0 ?_)<;>(congr 2;simp only[satV];omega)
theorem w232 (b:Bool):Pu 232 [B b] (· = I (trV b)):=by
 refine ZZ mxd i232 rfl (by simp) ?_;refine X0 ?_
 (refine R0 ?_;with_reducible repeat' first|intro h|apply jO)<;>simp_all [trV]
theorem w131 (b:Bool):Pu 131 [B b] (· = I (trV b)):=by
 refine ZZ mxd i131 rfl (by simp) ?_;refine X0 ?_
 (refine R0 ?_;with_reducible repeat' first|intro h|apply jO)<;>simp_all [trV]
theorem w120 (a b:Int):Pu 120 [I a,I b] (· = I (min a b)):=by
 refine ZZ mxd i120 rfl (by simp) ?_;refine X0 ?_
 (refine R0 ?_;with_reducible repeat' first|intro h|apply jO)<;>(congr 2;omega)
theorem w130 (n:Int):Pu 130 [I n] (· = I (satV n)):=by
 refine ZZ mxd i130 rfl (by simp) ?_;refine X0 ?_
 refine callS.eq (w120 _ _) ?_
 (refine R0 ?_)
 refine callS.eq (w121 _ _) ?_
 (refine R0 ?_)<;>rfl
theorem w230 (v k:Int):Pu 230 [I v,I k] (· = I (coV v k)):=by
 refine ZZ mxd i230 rfl (by simp) ?_;refine X0 ?_
 (refine R0 ?_;with_reducible repeat' first|intro h|apply jO)
 ·refine callS.eq (w231 _) ?_
  (refine R0 ?_)<;>simp_all [coV]
 ·simp_all [coV]
 ·refine callS.eq (w232 _) ?_
  (refine R0 ?_)<;>simp_all [coV]
 ·refine callS.eq (w57 _ _ _) ?_
  (refine R0 ?_;with_reducible repeat' first|intro h|apply jO)<;>simp_all [coV]<;>(intros;omega)
 ·simp_all [coV]
theorem w80 (v k:Int):Pu 80 [I v,I k] (· = I (coV v k)):=by
 refine ZZ mxd i80 rfl (by simp) ?_;refine X0 ?_
 (refine R0 ?_;with_reducible repeat' first|intro h|apply jO)
 ·refine callS.eq (w130 _) ?_
  (refine R0 ?_)<;>simp_all [coV]
 ·simp_all [coV]
 ·refine callS.eq (w131 _) ?_
  (refine R0 ?_)<;>simp_all [coV]
 ·refine callS.eq (w64 _ _ _) ?_
  (refine R0 ?_;with_reducible repeat' first|intro h|apply jO)<;>simp_all [coV]<;>(intros;omega)
 ·simp_all [coV]
theorem w229 (op:Int):Pu 229 [I op] (· = opG op):=by
 refine ZZ mxd i229 rfl (by simp) ?_;refine X0 ?_
 (refine R0 ?_;with_reducible repeat' first|intro h|apply jO)
 all_goals first|(subst op;rfl)|(rw[opG0 oT])
theorem w199 (op:Int):Pu 199 [I op] (· = opG op):=by
 refine ZZ mxd i199 rfl (by simp) ?_;refine X0 ?_
 refine callS.eq (w64 _ _ _) ?_
 (refine R0 ?_;with_reducible repeat' first|intro h|apply jO)
 ·simp only[opG,opT,if_pos h]
 refine callS.eq (w64 _ _ _) ?_
 (refine R0 ?_;with_reducible repeat' first|intro h|apply jO)
 all_goals first|(simp only[opG,opT];rw[if_neg (by assumption),if_pos (by assumption)];done)|(subst op;rfl)|(rw[opG0 oT];done)|(simp_all [opG,opT];done)|skip
theorem w265 (k:Int):Pu 265 [I k] (· = B (decide (1≤k∧k≤4))):=by
 refine ZZ mxd i265 rfl (by simp) ?_;refine X0 ?_
 refine callS.eq (w57 _ _ _) ?_
 (refine R0 ?_;with_reducible repeat' exact trivial)
theorem w226 (v k:Int):Pu 226 [I v,I k] (· = B (okV v k)):=by
 refine ZZ mxd i226 rfl (by simp) ?_;refine X0 ?_
 refine callS.eq (w265 _) ?_
 (refine R0 ?_;with_reducible repeat' first|intro h|apply jO)
 ·refine callS.eq (w230 _ _) ?_
  (refine R0 ?_)<;>simp_all [okV]
 ·simp_all [okV]<;>(intros;omega)
theorem w33 (v k:Int):Pu 33 [I v,I k] (· = B (okV v k)):=by
 refine ZZ mxd i33 rfl (by simp) ?_;refine X0 ?_
 refine callS.eq (w64 _ _ _) ?_
 (refine R0 ?_;with_reducible repeat' first|intro h|apply jO)
 ·refine callS.eq (w80 _ _) ?_
  (refine R0 ?_)<;>simp_all [okV]
 ·simp_all [okV]<;>(intros;omega)
end Go.Proofs.YtknbnefbgpnkgaaGreat
namespace Go.Proofs.YtknbnefbgpnkgaaGreat
open Go.Gh
open Nat (reduceEqDiff reduceLeDiff reduceAdd reduceLT)
open Int (reduceNe)
theorem w190:∀(e:Exp),wEx e≤1048576→Pu 190 [Ex e] (· = I (cntE e)):=by
 refine Exp.indA fun e ih hw=> ?_
 obtain ⟨hl,ha⟩:=YO hw
 have hc:=cntE_le e
 have he:=cntE_eq e
 rw[YQ]
 refine ZZ mxd i190 rfl (by simp) ?_;refine X0 ?_
 refine ZK mxd (ι:={ i:Nat // i≤e.args.length }) (fun i=>[(3,I ((1+((e.args.take i.1).map cntE).sum : Nat):Int)),(7,ExS e.args),(8,I e.args.length),(9,I i.1)]) (fun i=>[]) (fun i=>e.args.length-i.1) ⟨0,by simp⟩ (by simp[E2,mxL]) (by simp) ?_
 rintro ⟨i,hi⟩
 have h1:=sumT_le cntE e.args i
 have h3:=sumT_le cntE e.args (i+1)
 (refine R1 (jO @X5 (jO @geR_Ex (jO @X6 @stor_Ex))) ?_;with_reducible repeat' first|intro h|apply jO)
 ·have h2:=sumT cntE e.args i oT
  refine callS.eq (ih _ (gM _) (ha _ (gM _))) ?_
  (refine R0 ?_)
  refine nx ⟨i+1,oT⟩ (by simp;omega) ?_ (by simp)
  simp[E2,h2, -List.map_take]
  try (first|omega|(split<;>omega))
 ·have:i=e.args.length:=by omega
  subst this
  simp[he]
theorem w191:∀(e:Exp),wEx e≤1048576→Pu 191 [Ex e] (· = I (dpE e)):=by
 refine Exp.indA fun e ih hw=> ?_
 obtain ⟨hl,ha⟩:=YO hw
 have hc:=cntE_le e
 have he:=cntE_eq e
 have hd:=dpE_eq e
 have hq:=sumL_le (l:=e.args) fun a _ => dpE_le a
 rw[YQ]
 refine ZZ mxd i191 rfl (by simp) ?_;refine X0 ?_
 refine ZK mxd (ι:={ i:Nat // i≤e.args.length }) (fun i=>[(3,I (mxL ((e.args.take i.1).map dpE))),(7,ExS e.args),(8,I e.args.length),(9,I i.1)]) (fun i=>[]) (fun i=>e.args.length-i.1) ⟨0,by simp⟩ (by simp[E2,mxL]) (by simp) ?_
 rintro ⟨i,hi⟩
 have h1:=mxT_le dpE e.args i
 (refine R1 (jO @X5 (jO @geR_Ex (jO @X6 @stor_Ex))) ?_;with_reducible repeat' first|intro h|apply jO)
 ·have h2:=mxT dpE e.args i oT
  refine callS.eq (ih _ (gM _) (ha _ (gM _))) ?_
  (refine R0 ?_)
  refine nx ⟨i+1,oT⟩ (by simp;omega) ?_ (by simp)
  simp[E2,h2, -List.map_take]
  try (first|omega|(split<;>omega))
 ·have:i=e.args.length:=by omega
  subst this
  simp[hd]
  try omega
theorem w195:∀(e:Exp),wEx e≤1048576→Pu 195 [Ex e] (· = I (dpE e)):=by
 refine Exp.indA fun e ih hw=> ?_
 obtain ⟨hl,ha⟩:=YO hw
 have hc:=cntE_le e
 have he:=cntE_eq e
 have hd:=dpE_eq e
 have hq:=sumL_le (l:=e.args) fun a _ => dpE_le a
 rw[YQ]
 refine ZZ mxd i195 rfl (by simp) ?_;refine X0 ?_
 refine ZK mxd (ι:={ i:Nat // i≤e.args.length }) (fun i=>[(1,.rop 7 (.agg [I e.kind,I e.n,I e.pos,I e.type,T e.sym,T e.name,ExS e.args])),(3,I (mxL ((e.args.take i.1).map dpE))),(4,I i.1)]) (fun i=>[]) (fun i=>e.args.length-i.1) ⟨0,by simp⟩ (by simp[E2,mxL]) (by simp) ?_
 rintro ⟨i,hi⟩
 have h1:=mxT_le dpE e.args i
 (refine R1 (jO @X5 (jO @geR_Ex (jO @X6 @stor_Ex))) ?_;with_reducible repeat' first|intro h|apply jO)
 ·have h2:=mxT dpE e.args i oT
  refine callS.eq (ih _ (gM _) (ha _ (gM _))) ?_
  (refine R0 ?_)
  refine callS.eq (w121 _ _) ?_
  (refine R0 ?_)
  refine nx ⟨i+1,oT⟩ (by simp;omega) ?_ (by simp)
  simp[E2,h2, -List.map_take]
  try (first|omega|(split<;>omega))
 ·have:i=e.args.length:=by omega
  subst this
  simp[hd]
  try omega
theorem w194:∀(e:Exp),wEx e≤1048576→∀left:Int,0≤left→left≤1048576→Pu 194 [Ex e,I left] (· = I (max (left-cntE e) (-1))):=by
 refine Exp.indA fun e ih hw left l0 l1=> ?_
 obtain ⟨hl,ha⟩:=YO hw
 have hc:=cntE_le e
 have he:=cntE_eq e
 rw[YQ]
 refine ZZ mxd i194 rfl (by simp) ?_;refine X0 ?_
 simp +contextual (disch:=omega) only[Z2]
 refine ZK mxd (ι:={ i:Nat // i≤e.args.length }) (fun i=>[(2,.rop 7 (.agg [I e.kind,I e.n,I e.pos,I e.type,T e.sym,T e.name,ExS e.args])),(1,I (max (left-1-((e.args.take i.1).map cntE).sum) (-1))),(5,I i.1)]) (fun i=>[]) (fun i=>e.args.length-i.1) ⟨0,by simp⟩ (by simp[E2];try omega) (by simp) ?_
 rintro ⟨i,hi⟩
 have h1:=sumT_le cntE e.args i
 generalize hs:((e.args.take i).map cntE).sum = s at *
 (refine R1 (jO @X5 (jO @geR_Ex (jO @X6 @stor_Ex))) ?_;with_reducible repeat' first|intro h|apply jO)
 ·have h2:=sumT cntE e.args i oT
  refine callS.eq (ih _ (gM _) (ha _ (gM _)) _ oT oT) ?_
  (refine R0 ?_)
  refine nx ⟨i+1,oT⟩ (by simp;omega) ?_ (by simp)
  simp[E2,h2,hs, -List.map_take]
  try omega
 all_goals first|(congr 2;omega)|(rw[tL oT] at hs;congr 2;omega)
theorem w124 (x:Sym) (hx:smSy x):Pu 124 [Sy x] (· = Sy x):=by
 unfold smSy at hx
 refine Pure.bor ?_
 refine ZZ mxd i124 rfl (by simp) ?_;refine X0 ?_
 (refine R0 ?_;with_reducible repeat' first|intro h|refine aO ?_)
 exact .agg (.cons .refl (.cons (Bor.allM (fun _ => rfl) ZX rfl) .nil))
theorem w72 (g:Gram) (s:ByteArray) (hg:ZA g):Pu 72 [Gr g,T s] (· = .tup [Sy (Ze g.syms s),B (hSym g.syms s)]):=by
 refine Pure.bor ?_
 have hlen:=hg.1
 refine ZZ mxd i72 rfl (by simp) ?_;refine X0 ?_
 refine ZK mxd (ι:={ i:Nat // i≤g.syms.length∧∀y∈g.syms.take i,decide (y.name=s)=false }) (fun i=>[(1,T s),(2,.rop 2 (Gr g)),(4,.raw 2),(6,I i.1)]) (fun _ => []) (fun i=>g.syms.length-i.1) ⟨0,by simp⟩ (by simp[E2]) rfl ?_
 rintro ⟨i,hi,hn⟩
 (refine R0 ?_;with_reducible repeat' first|intro h|apply jO)
 ·subst h
  refine callS.eq (w124 g.syms[i] (hg.2.2.1 _ (gM _))) ?_
  (refine R0 ?_)
  have e:=X7 (p:=fun x:Sym=>decide (x.name=g.syms[i].name)) (xs:=g.syms) (i:=i) (by assumption) (by simp) hn
  simp only[Ze,hSym,e]
  exact .refl
 ·exact nx ⟨i+1,oT,Zi (by assumption) (by simp[*]) hn⟩ (by simp;omega) (by simp[E2]) rfl
 ·have:i=g.syms.length:=by omega
  subst this
  rw[tL (Nat.le_refl _)] at hn
  have e:=X8 hn
  simp only[Ze,hSym,e]
  exact .tup (.cons (.agg (.cons .refl (.cons .nil .nil))) (.cons .refl .nil))
theorem w79 (g:Sym) (s:ByteArray) (hg:smSy g):Pu 79 [Sy g,T s] (· = .tup [At (fAtt g.atts s),B (hAtt g.atts s)]):=by
 unfold smSy at hg
 refine ZZ mxd i79 rfl (by simp) ?_;refine X0 ?_
 refine ZK mxd (ι:={ i:Nat // i≤g.atts.length∧∀y∈g.atts.take i,decide (y.name=s)=false }) (fun i=>[(1,T s),(2,.rop 2 (Sy g)),(4,.raw 4),(6,I i.1)]) (fun _ => []) (fun i=>g.atts.length-i.1) ⟨0,by simp⟩ (by simp[E2]) rfl ?_
 rintro ⟨i,hi,hn⟩
 (refine R0 ?_;with_reducible repeat' first|intro h|apply jO)
 ·subst h
  have e:=X7 (p:=fun x:Att=>decide (x.name=g.atts[i].name)) (xs:=g.atts) (i:=i) (by assumption) (by simp) hn
  simp only[fAtt,hAtt,e]
  rfl
 ·exact nx ⟨i+1,oT,Zi (by assumption) (by simp[*]) hn⟩ (by simp;omega) (by simp[E2]) rfl
 ·have:i=g.atts.length:=by omega
  subst this
  rw[tL (Nat.le_refl _)] at hn
  have e:=X8 hn
  simp only[fAtt,hAtt,e]
  rfl
theorem w82 (g:Gram) (s:ByteArray) (hg:ZA g):Pu 82 [Gr g,T s] (· = .tup [Sy (Ze g.syms s),B (hSym g.syms s)]):=by
 refine Pure.bor ?_
 have hlen:=hg.1
 refine ZZ mxd i82 rfl (by simp) ?_;refine X0 ?_
 refine ZK mxd (ι:={ i:Nat // i≤g.syms.length∧∀y∈g.syms.take i,decide (y.name=s)=false }) (fun i=>[(1,T s),(4,.raw 2),(9,SyS g.syms),(10,I g.syms.length),(11,I i.1)]) (fun _ => []) (fun i=>g.syms.length-i.1) ⟨0,by simp⟩ (by simp[E2]) rfl ?_
 rintro ⟨i,hi,hn⟩
 (refine R0 ?_;with_reducible repeat' first|intro h|apply jO)
 ·subst h
  have e:=X7 (p:=fun x:Sym=>decide (x.name=g.syms[i].name)) (xs:=g.syms) (i:=i) (by assumption) (by simp) hn
  simp only[Ze,hSym,e]
  exact .refl
 ·exact nx ⟨i+1,oT,Zi (by assumption) (by simp[*]) hn⟩ (by simp;omega) (by simp[E2]) rfl
 ·have:i=g.syms.length:=by omega
  subst this
  rw[tL (Nat.le_refl _)] at hn
  have e:=X8 hn
  simp only[Ze,hSym,e]
  exact .tup (.cons (.agg (.cons .refl (.cons .nil .nil))) (.cons .refl .nil))
theorem w188 (g:Sym) (s:ByteArray) (hg:smSy g):Pu 188 [Sy g,T s] (· = .tup [At (fAtt g.atts s),B (hAtt g.atts s)]):=by
 unfold smSy at hg
 refine ZZ mxd i188 rfl (by simp) ?_;refine X0 ?_
 refine ZK mxd (ι:={ i:Nat // i≤g.atts.length∧∀y∈g.atts.take i,decide (y.name=s)=false }) (fun i=>[(1,T s),(4,.raw 4),(9,AtS g.atts),(10,I g.atts.length),(11,I i.1)]) (fun _ => []) (fun i=>g.atts.length-i.1) ⟨0,by simp⟩ (by simp[E2]) rfl ?_
 rintro ⟨i,hi,hn⟩
 (refine R0 ?_;with_reducible repeat' first|intro h|apply jO)
 ·subst h
  have e:=X7 (p:=fun x:Att=>decide (x.name=g.atts[i].name)) (xs:=g.atts) (i:=i) (by assumption) (by simp) hn
  simp only[fAtt,hAtt,e]
  rfl
 ·exact nx ⟨i+1,oT,Zi (by assumption) (by simp[*]) hn⟩ (by simp;omega) (by simp[E2]) rfl
 ·have:i=g.atts.length:=by omega
  subst this
  rw[tL (Nat.le_refl _)] at hn
  have e:=X8 hn
  simp only[fAtt,hAtt,e]
  rfl
theorem w177:∀(e:Exp),wEx e≤1048576→Pu 177 [Ex e] (· = Ex e):=by
 refine Exp.indA fun e ih hw=> ?_
 obtain ⟨hl,ha⟩:=YO hw
 refine Pure.bor ?_
 refine ZZ mxd i177 rfl (by simp) ?_;refine X0 ?_
 (refine R1 @XE ?_;with_reducible repeat' intro h)
 rename_i r hr q
 have h0:=Z6 h
 (replace h0:=h0;simp only[VN] at h0)
 refine YS mxd (ι:={ x:Nat×Nat // x.2≤e.args.length }) (fun x=>[(1,.ptr r 7 0 0),(2,.raw 7),(3,.own x.1.1 7 0 x.1.2),(4,I x.1.2)]) (fun x=>[(x.1.1,7,(e.args.take x.1.2).map Ex),(r,7,[Ex e])]) (fun x=>e.args.length-x.1.2) ⟨(q,0),by simp⟩ (by simp[E2]) (by simp[subH,ZU,names,h0]) ?_
 rintro ⟨⟨q,i⟩,hi⟩ hn
 dsimp only at hi hn ⊢
 (replace hn:=hn;simp only[VN] at hn)
 (refine R1 (jO @XE (jO @Z9 (jO @Z7 (jO @Z8 (jO hn @t_ldf))))) ?_;with_reducible repeat' first|intro h|apply jO)
 ·refine callS.eq (ih _ (gM _) (ha _ (gM _))) ?_
  (refine R1 (jO @XE (jO @Z9 (jO @Z7 (jO @Z8 (jO hn @t_ldf))))) ?_;with_reducible repeat' intro h)
  rename_i q2
  have h2:=Z6 h
  (replace h2:=h2;simp only[VN] at h2)
  (refine R1 (jO @XE (jO @Z9 (jO @Z7 (jO @Z8 (jO hn (jO h2 @t_ldf)))))) ?_;with_reducible repeat' first|intro h|refine aO ?_|apply jO)
  ·simp;omega
  rename_i q3
  have h3:=Z6 h
  (replace h3:=h3;simp only[VN] at h3)
  rw[takeApp Ex e.args i (by assumption)]
  exact px ⟨(q3,i+1),oT⟩ (by simp;omega) (by simp[E2]) (by simp[subH,ZU,names,h3])
 ·rw[YQ e]
  refine .agg (.cons .refl (.cons .refl (.cons .refl (.cons .refl (.cons .refl (.cons .refl (.cons ?_ .nil)))))))
  have:i=e.args.length:=by omega
  subst this
  rw[List.take_length]
  exact Bor.allM view_Ex ZX rfl
theorem w162 (r:Rul) (p:Int) (hr:Y8 r):Pu 162 [Ru r,I p] (· = T (Zu r p)):=by
 have hl:=hr.1
 refine ZZ mxd i162 rfl (by simp) ?_;refine X0 ?_
 (refine R0 ?_;with_reducible repeat' first|intro h|apply jO)
 ·simp[Zu,h]
 refine callS.eq (w64 _ _ _) ?_
 (refine R0 ?_;with_reducible repeat' first|intro h|refine aO ?_|apply jO)
 ·simp only[Zu,if_neg (show ¬p=0 from by assumption),if_pos h,Z3 (show (p-1).toNat < r.right.length by omega)]
 ·simp only[Zu,if_neg (show ¬p=0 from by assumption),if_neg h];rfl
theorem w239 (r:Rul) (p:Int) (hr:Y8 r):Pu 239 [Ru r,I p] (· = T (Zu r p)):=by
 have hl:=hr.1
 refine ZZ mxd i239 rfl (by simp) ?_;refine X0 ?_
 (refine R0 ?_;with_reducible repeat' first|intro h|apply jO)
 ·simp[Zu,h]
 refine callS.eq (w57 _ _ _) ?_
 (refine R0 ?_;with_reducible repeat' first|intro h|refine aO ?_|apply jO)
 ·simp only[Zu,if_neg (show ¬p=0 from by assumption),if_pos h,Z3 (show (p-1).toNat < r.right.length by omega)]
 ·simp only[Zu,if_neg (show ¬p=0 from by assumption),if_neg h];rfl
theorem w62 (g:Gram) (s:ByteArray) (hg:ZA g):Pu 62 [Gr g,T s] (· = .tup [Ru (Zl g.rules s),B (hRul g.rules s)]):=by
 refine Pure.bor ?_
 have hlen:=hg.2.1
 refine ZZ mxd i62 rfl (by simp) ?_;refine X0 ?_
 refine ZK mxd (ι:={ i:Nat // i≤g.rules.length∧∀y∈g.rules.take i,decide (y.name=s)=false }) (fun i=>[(1,T s),(4,.raw 6),(9,RuS g.rules),(10,I g.rules.length),(11,I i.1)]) (fun _ => []) (fun i=>g.rules.length-i.1) ⟨0,by simp⟩ (by simp[E2]) rfl ?_
 rintro ⟨i,hi,hn⟩
 (refine R0 ?_;with_reducible repeat' first|intro h|apply jO)
 ·subst h
  have e:=X7 (p:=fun x:Rul=>decide (x.name=g.rules[i].name)) (xs:=g.rules) (i:=i) (by assumption) (by simp) hn
  simp only[Zl,hRul,e]
  exact .refl
 ·exact nx ⟨i+1,oT,Zi (by assumption) (by simp[*]) hn⟩ (by simp;omega) (by simp[E2]) rfl
 ·have:i=g.rules.length:=by omega
  subst this
  rw[tL (Nat.le_refl _)] at hn
  have e:=X8 hn
  simp only[Zl,hRul,e]
  exact .tup (.cons (.agg (.cons .refl (.cons .refl (.cons .nil (.cons .refl (.cons .nil (.cons .nil .nil))))))) (.cons .refl .nil))
theorem w127 (e:Rul) (hr:Y8 e):Pu 127 [Ru e] (· = Ru e):=by
 obtain ⟨h1,h2,h3,h4,h5⟩:=hr
 refine Pure.bor ?_
 refine ZZ mxd i127 rfl (by simp) ?_;refine X0 ?_
 (refine R1 @XE ?_;with_reducible repeat' first|intro h|refine aO ?_)
 rename_i ra _ rr _ r0
 have h0:=Z6 h
 (replace h0:=h0;simp only[VN] at h0)
 obtain ⟨v,ho,hv⟩:=vfresh [r0,rr]
 refine ploopF mxd (ι:={ x:Nat×Nat // x.2≤e.eqs.length }) (fun x=>[(1,.rop 6 (Ru e)),(2,.raw 6),(3,.ptr r0 6 0 0),(4,I x.1.2)])
  (fun x=>[(x.1.1,9,(e.eqs.take x.1.2).map Qn),(r0,6,[.agg [T e.name,T e.left,.own rr 1 0 e.right.length,B e.lit,.own x.1.1 9 0 x.1.2,.val (.slice none 0 0)]]),(rr,1,e.right.map T)])
  (fun x=>e.eqs.length-x.1.2) ⟨(v,0),by simp⟩ (FE.virtF (i:=0) (j:=4) (sz1:=9) ZX rfl rfl ho hv) (by simp[E2]) ?_ ?_
 ·simp only[List.mem_cons,List.not_mem_nil,or_false,not_or] at hv
  simp[subH,ZU,ZG,names,h0,hv]
 rintro ⟨⟨q,i⟩,hi⟩ hn
 dsimp only at hi hn ⊢
 (replace hn:=hn;simp only[VN] at hn)
 (refine R1 (jO @XE (jO @Z9 (jO @Z7 (jO @Z8 (jO hn @t_ldf))))) ?_;with_reducible repeat' first|intro h|apply jO)
 ·refine callS.eq (w177 _ (h4 _ (gM _))) ?_
  (refine R1 (jO @XE (jO @Z9 (jO @Z7 (jO @Z8 (jO hn @t_ldf))))) ?_;with_reducible repeat' intro h)
  rename_i q2
  have h2:=Z6 h
  (replace h2:=h2;simp only[VN] at h2)
  (refine R1 (jO @XE (jO @Z9 (jO @Z7 (jO @Z8 (jO hn (jO h2 @t_ldf)))))) ?_;with_reducible repeat' first|intro h|refine aO ?_|apply jO)
  ·simp;omega
  rename_i q3
  have h3:=Z6 h
  (replace h3:=h3;simp only[VN] at h3)
  (refine R1 (jO @XE (jO @Z9 (jO @Z7 (jO @Z8 (jO hn (jO h2 (jO h3 @t_ldf))))))) ?_)
  rw[takeApp Qn e.eqs i (by assumption)]
  exact px ⟨(q3,i+1),oT⟩ (by simp;omega) (by simp[E2]) (by simp[subH,ZU,names,h3])
 ·have:i=e.eqs.length:=by omega
  subst this
  rw[List.take_length]
  obtain ⟨v,ho,hv⟩:=vfresh [q,r0,rr]
  refine ploopF mxd (ι:={ x:Nat×Nat // x.2≤e.cons.length }) (fun x=>[(1,.rop 6 (Ru e)),(2,.raw 6),(3,.ptr r0 6 0 0),(5,I x.1.2)])
   (fun x=>[(x.1.1,16,(e.cons.take x.1.2).map Co),(q,9,e.eqs.map Qn),(r0,6,[.agg [T e.name,T e.left,.own rr 1 0 e.right.length,B e.lit,.own q 9 0 e.eqs.length,.own x.1.1 16 0 x.1.2]]),(rr,1,e.right.map T)])
   (fun x=>e.cons.length-x.1.2) ⟨(v,0),by simp⟩ (FE.virtF (r:=r0) (i:=0) (j:=5) (sz1:=16) (by simp[ZU,hn];exact ⟨rfl,rfl⟩) rfl rfl ho hv) (by simp[E2]) ?_ ?_
  ·simp only[List.mem_cons,List.not_mem_nil,or_false,not_or] at hv
   simp[subH,ZU,ZG,names,hn,hv]
  rintro ⟨⟨p,i⟩,hi⟩ hn
  dsimp only at hi hn ⊢
  (replace hn:=hn;simp only[VN] at hn)
  (refine R1 (jO @XE (jO @Z9 (jO @Z7 (jO @Z8 (jO hn @t_ldf))))) ?_;with_reducible repeat' first|intro h|apply jO)
  ·refine callS.eq (w177 _ (h5 _ (gM _)).1) ?_
   (refine R1 (jO @XE (jO @Z9 (jO @Z7 (jO @Z8 (jO hn @t_ldf))))) ?_)
   refine callS.eq (w177 _ (h5 _ (gM _)).2) ?_
   (refine R1 (jO @XE (jO @Z9 (jO @Z7 (jO @Z8 (jO hn @t_ldf))))) ?_;with_reducible repeat' intro h)
   rename_i q2
   have h2:=Z6 h
   (replace h2:=h2;simp only[VN] at h2)
   (refine R1 (jO @XE (jO @Z9 (jO @Z7 (jO @Z8 (jO hn (jO h2 @t_ldf)))))) ?_;with_reducible repeat' first|intro h|refine aO ?_|apply jO)
   ·simp;omega
   rename_i q3
   have h3:=Z6 h
   (replace h3:=h3;simp only[VN] at h3)
   (refine R1 (jO @XE (jO @Z9 (jO @Z7 (jO @Z8 (jO hn (jO h2 (jO h3 @t_ldf))))))) ?_)
   rw[takeApp Co e.cons i (by assumption)]
   exact px ⟨(q3,i+1),oT⟩ (by simp;omega) (by simp[E2]) (by simp[subH,ZU,names,h3])
  ·have:i=e.cons.length:=by omega
   subst this
   rw[List.take_length]
   exact .agg (.cons .refl (.cons .refl (.cons (Bor.allM (fun _ => rfl) (by simp[ZU,hn]) rfl) (.cons .refl (.cons (Bor.allM (fun _ => rfl) (by simp[ZU,hn]) rfl) (.cons (Bor.allM (fun _ => rfl) (by simp[ZU,hn]) rfl) .nil))))))
theorem w76 (g:Gram) (s:ByteArray) (hg:ZA g):Pu 76 [Gr g,T s] (· = .tup [Ru (Zl g.rules s),B (hRul g.rules s)]):=by
 refine Pure.bor ?_
 have hlen:=hg.2.1
 refine ZZ mxd i76 rfl (by simp) ?_;refine X0 ?_
 refine ZK mxd (ι:={ i:Nat // i≤g.rules.length∧∀y∈g.rules.take i,decide (y.name=s)=false }) (fun i=>[(1,T s),(2,.rop 2 (Gr g)),(4,.raw 6),(6,I i.1)]) (fun _ => []) (fun i=>g.rules.length-i.1) ⟨0,by simp⟩ (by simp[E2]) rfl ?_
 rintro ⟨i,hi,hn⟩
 (refine R0 ?_;with_reducible repeat' first|intro h|apply jO)
 ·subst h
  refine callS.eq (w127 g.rules[i] (hg.2.2.2 _ (gM _))) ?_
  (refine R0 ?_)
  have e:=X7 (p:=fun x:Rul=>decide (x.name=g.rules[i].name)) (xs:=g.rules) (i:=i) (by assumption) (by simp) hn
  simp only[Zl,hRul,e]
  exact .refl
 ·exact nx ⟨i+1,oT,Zi (by assumption) (by simp[*]) hn⟩ (by simp;omega) (by simp[E2]) rfl
 ·have:i=g.rules.length:=by omega
  subst this
  rw[tL (Nat.le_refl _)] at hn
  have e:=X8 hn
  simp only[Zl,hRul,e]
  exact .tup (.cons (.agg (.cons .refl (.cons .refl (.cons .nil (.cons .refl (.cons .nil (.cons .nil .nil))))))) (.cons .refl .nil))
theorem w30 (g:Gram) (t:List Nod) (i:Int) (hg:ZA g):Pu 30 [Gr g,Tr t,I i] (· = T (symN g t i)):=by
 refine GCalls.lenA fun hl=> ?_
 obtain ⟨hlen,_⟩:=lenTr hl.2.1
 refine ZZ mxd i30 rfl (by simp) ?_;refine X0 ?_
 by_cases h:0≤i∧i<t.length
 ·obtain ⟨i,rfl⟩:∃k:Nat,i=k:=⟨i.toNat,oT⟩
  have hi:i<t.length:=by omega
  rw[symN_in hi]
  (with_reducible repeat' first|refine callS.eq (w64 _ _ _) ?_|refine callS.eq (w76 _ _ hg) ?_|exact trivial|refine aO ?_|refine eO ?_|apply jO|refine K0 ?_|intro h)
  all_goals first|rfl|(exfalso;omega)
 ·rw[symN_out h]
  (with_reducible repeat' first|refine callS.eq (w64 _ _ _) ?_|refine callS.eq (w76 _ _ hg) ?_|exact trivial|refine aO ?_|refine eO ?_|apply jO|refine K0 ?_|intro h)
  all_goals first|rfl|(exfalso;omega)
theorem w83 (g:Gram) (t:List Nod) (i:Int) (hg:ZA g):Pu 83 [Gr g,Tr t,I i] (· = T (symN g t i)):=by
 refine GCalls.lenA fun hl=> ?_
 obtain ⟨hlen,_⟩:=lenTr hl.2.1
 refine ZZ mxd i83 rfl (by simp) ?_;refine X0 ?_
 by_cases h:0≤i∧i<t.length
 ·obtain ⟨i,rfl⟩:∃k:Nat,i=k:=⟨i.toNat,oT⟩
  have hi:i<t.length:=by omega
  rw[symN_in hi]
  (with_reducible repeat' first|refine callS.eq (w81 _ _) ?_|refine callS.eq (w62 _ _ hg) ?_|exact trivial|refine aO ?_|refine eO ?_|apply jO|refine K0 ?_|intro h)
  all_goals first|rfl|(exfalso;omega)
 ·rw[symN_out h]
  (with_reducible repeat' first|refine callS.eq (w81 _ _) ?_|refine callS.eq (w62 _ _ hg) ?_|exact trivial|refine aO ?_|refine eO ?_|apply jO|refine K0 ?_|intro h)
  all_goals first|rfl|(exfalso;omega)
theorem w211 (g:Gram) (r:Rul) (o:Int×ByteArray) (hg:ZA g) (hr:Y8 r):Pu 211 [Gr g,Ru r,Occ o] (· = .tup [At (Zp g r o.1 o.2),B (hasAt g r o.1 o.2)]):=by
 have hl:=hr.1
 refine ZZ mxd i211 rfl (by simp) ?_;refine X0 ?_
 (with_reducible repeat' first|refine callS.eq (w57 _ _ _) ?_|refine callS.eq (w239 r _ hr) ?_|refine callS.eq (w82 _ _ hg) ?_|refine callS.eq (w188 _ _ (Yd hg _)) ?_|exact trivial|refine aO ?_|refine eO ?_|apply jO|refine K0 ?_|intro h)
 all_goals simp only[Zp,hasAt]
 ·rw[if_pos (by assumption),if_pos (by assumption)]
 ·rw[if_neg (by assumption),if_neg (by assumption)];rfl
theorem w217 (g:Gram) (s n:ByteArray) (hg:ZA g):Pu 217 [Gr g,T s,T n] (· = I (fAtt (Ze g.syms s).atts n).type):=by
 refine ZZ mxd i217 rfl (by simp) ?_;refine X0 ?_
 (with_reducible repeat' first|refine callS.eq (w72 _ _ hg) ?_|refine callS.eq (w79 _ _ (Yd hg _)) ?_|exact trivial|refine aO ?_|refine eO ?_|apply jO|refine K0 ?_|intro h)
 all_goals rw[fAtt_no (by assumption)];rfl
end Go.Proofs.YtknbnefbgpnkgaaGreat
namespace Go.Proofs.YtknbnefbgpnkgaaGreat
open Go.Gh
open Nat (reduceEqDiff reduceLeDiff reduceAdd reduceLT)
open Int (reduceNe)
end Go.Proofs.YtknbnefbgpnkgaaGreat
namespace Go.Proofs.YtknbnefbgpnkgaaGreat
open Go.Gh
open Nat (reduceEqDiff reduceLeDiff reduceAdd reduceLT)
open Int (reduceNe)
theorem w123 (xs ys:List Int):Pu 123 [IS xs,IS ys] (· = B (decide (xs=ys))):=by
 refine GCalls.lenA fun hl=> ?_
 have hl:=hl.1.1
 simp only[List.length_map,Zh] at hl
 refine ZZ mxd i123 rfl (by simp) ?_;refine X0 ?_
 (refine R0 ?_;with_reducible repeat' first|intro h|apply jO)
 rotate_left
 ·simp;rintro rfl;exact h rfl
 refine ZK mxd (ι:={ i:Nat // i≤xs.length∧xs.take i=ys.take i }) (fun i=>[(0,IS xs),(1,IS ys),(5,I i.1)]) (fun _ => []) (fun i=>xs.length-i.1) ⟨0,by simp⟩ (by simp[E2]) rfl ?_
 rintro ⟨i,hi,hp⟩
 (refine R0 ?_;with_reducible repeat' first|intro h|apply jO)
 ·exact nx ⟨i+1,oT,take_eq_step hp oT oT h⟩ (by simp;omega) (by simp[E2]) rfl
 ·simp;rintro rfl;simp at h
 ·have:i=xs.length:=by omega
  subst this
  rw[tL oT,tL oT] at hp
  simp[hp]
theorem w69 (xs ys : List Nod) (b : Bool) : Pu 69 [Tr xs, Tr ys, B b] (· = B (all2 (sameNd b) xs ys)) := by
  refine GCalls.lenA fun hl => ?_
  obtain ⟨hlen, _⟩ := lenTr hl.1
  refine ZZ mxd i69 rfl (by simp) ?_; refine X0 ?_
  (refine R0 ?_; with_reducible repeat' first|intro h|apply jO)
  rotate_left
  · rw [all2_len h]
  refine ZK mxd (ι := { i : Nat // i ≤ xs.length ∧ ∀ j (h1 : j < xs.length) (h2 : j < ys.length), j < i → sameNd b xs[j] ys[j] = true }) (fun i => [(3, .rop 1 (Tr xs)), (4, .rop 1 (Tr ys)), (2, B b), (7, I i.1)]) (fun _ => []) (fun i => xs.length - i.1) ⟨0, by simp⟩ (by simp [E2, h]) rfl ?_
  rintro ⟨i, hi, hn⟩
  cases b
  all_goals
    (refine R0 ?_; with_reducible repeat' first|intro h|apply jO)
    all_goals first
      | (rw [all2_no (i := i) oT oT (by simp [sameNd, *])]; done)
      | (rw [all2_yes oT fun j h1 h2 => hn j h1 h2 oT]; done)
      | (refine callS.eq (w123 _ _) ?_
         (refine R0 ?_; with_reducible repeat' first|intro h|apply jO)
         · exact nx ⟨i + 1, oT, all2_step (h1 := by omega) (h2 := by omega) (by simp [sameNd, *]) hn⟩ (by simp; omega) (by simp [E2]) rfl
         · rw [all2_no (i := i) oT oT (by simp [sameNd, *])])
theorem w18 (t u:List Nod):Pu 18 [Tr t,Tr u] (· = B (all2 (sameNd true) t u)):=by
 refine ZZ mxd i18 rfl (by simp) ?_;refine X0 ?_
 refine callS.eq (w69 t u true) ?_
 (refine R0 ?_;with_reducible repeat' exact trivial)
end Go.Proofs.YtknbnefbgpnkgaaGreat
