/- The laws FnStatic and FnStaticTypes return true whatever the input, and the input reads behind the call as before. No condition. -/
import Derived.Test.YtknbnefbgpnkgaaGreatFst1
import Derived.KernelRfl
import Derived.Test.YtknbnefbgpnkgaaGreatRows
import Derived.Test.YtknbnefbgpnkgaaGreatChecked
set_option maxHeartbeats 40000000
set_option maxRecDepth 20000
set_option linter.unusedSimpArgs false
set_option linter.unusedVariables false
namespace Go.Gh
@[irreducible] def MkQ (p:Prop):Prop:=p
theorem qI {p:Prop} (h:MkQ p):p:=by unfold MkQ at h;exact h
theorem qU {p:Prop} (h:p):MkQ p:=by unfold MkQ;exact h
theorem VQ:type_of% (jO @Z9 (jO @Z8 (jO @Z7 (jO @neN (jO @Z3 (jO @ZY @ZH)))))):=(jO @Z9 (jO @Z8 (jO @Z7 (jO @neN (jO @Z3 (jO @ZY @ZH))))))
theorem VN:type_of% (jO @Z0 (jO @ZX (jO @Z3 (jO @ZY (jO @and_true @true_and))))):=(jO @Z0 (jO @ZX (jO @Z3 (jO @ZY (jO @and_true @true_and)))))
open Nat (reduceEqDiff reduceLeDiff reduceAdd reduceLT)
open Int (reduceNe)
theorem aO {a b:Prop} (k:b) (h:a:=by omega):a∧b:=jO h k
theorem eO {a:Prop} {b:a→Prop} (h:a:=by omega) (k:b h):∃h,b h:=Exists.intro h k
theorem V0 {p q:Prop} (k:q) (h:q→p:=by intro k;first|(replace k:=qU k;(try simp (maxSteps:=9^7) +contextual only[↓ S2,S2,↓reduceIte,reduceNe,reduceEqDiff,reduceCtorEq,reduceLeDiff,reduceAdd,reduceLT,VQ]);(repeat (simp only[ZP];try simp (maxSteps:=9^7) +contextual only[↓ S2,S2,↓reduceIte,reduceNe,reduceEqDiff,reduceCtorEq,reduceLeDiff,reduceAdd,reduceLT,VQ]));(try simp +contextual (disch:=omega) only[Z2]);(with_reducible repeat' first|refine aO ?_ | refine eO ?_);exact qI k)|(have _ : True:=k;(try simp (maxSteps:=9^7) +contextual only[↓ S2,S2,↓reduceIte,reduceNe,reduceEqDiff,reduceCtorEq,reduceLeDiff,reduceAdd,reduceLT,VQ]);(repeat (simp only[ZP];try simp (maxSteps:=9^7) +contextual only[↓ S2,S2,↓reduceIte,reduceNe,reduceEqDiff,reduceCtorEq,reduceLeDiff,reduceAdd,reduceLT,VQ]));(try simp +contextual (disch:=omega) only[Z2]);done)):p:=h k
theorem V1 {p q f:Prop} (a:f) (k:q) (h:f→q→p:=by intro a k;first|(replace k:=qU k;(try simp (maxSteps:=9^7) +contextual only[↓ S2,S2,↓reduceIte,reduceNe,reduceEqDiff,reduceCtorEq,reduceLeDiff,reduceAdd,reduceLT,VQ,a]);(repeat (simp only[ZP];try simp (maxSteps:=9^7) +contextual only[↓ S2,S2,↓reduceIte,reduceNe,reduceEqDiff,reduceCtorEq,reduceLeDiff,reduceAdd,reduceLT,VQ,a]));(try simp +contextual (disch:=omega) only[Z2,a]);(try clear a);(with_reducible repeat' first|refine aO ?_ | refine eO ?_);first|exact qI k|(revert a;exact qI k))|(have _ : True:=k;(try simp (maxSteps:=9^7) +contextual only[↓ S2,S2,↓reduceIte,reduceNe,reduceEqDiff,reduceCtorEq,reduceLeDiff,reduceAdd,reduceLT,VQ,a]);(repeat (simp only[ZP];try simp (maxSteps:=9^7) +contextual only[↓ S2,S2,↓reduceIte,reduceNe,reduceEqDiff,reduceCtorEq,reduceLeDiff,reduceAdd,reduceLT,VQ,a]));(try simp +contextual (disch:=omega) only[Z2,a]);done)):p:=h a k
theorem V2 {p q f:Prop} (a:f) (k:q) (h:f→q→p:=by intro a k;first|(replace k:=qU k;(try simp (maxSteps:=9^7) +contextual only[↓ S2,S2,↓reduceIte,reduceNe,reduceEqDiff,reduceCtorEq,reduceLeDiff,reduceAdd,reduceLT,VQ,Int.reduceEq,Int.reduceLT,Int.reduceLE,Int.reduceToNat,a]);(repeat (simp only[ZP];try simp (maxSteps:=9^7) +contextual only[↓ S2,S2,↓reduceIte,reduceNe,reduceEqDiff,reduceCtorEq,reduceLeDiff,reduceAdd,reduceLT,VQ,Int.reduceEq,Int.reduceLT,Int.reduceLE,Int.reduceToNat,a]));(try simp +contextual (disch:=omega) only[Z2,a]);(try clear a);(with_reducible repeat' first|refine aO ?_ | refine eO ?_);first|exact qI k|(revert a;exact qI k))|(have _ : True:=k;(try simp (maxSteps:=9^7) +contextual only[↓ S2,S2,↓reduceIte,reduceNe,reduceEqDiff,reduceCtorEq,reduceLeDiff,reduceAdd,reduceLT,VQ,Int.reduceEq,Int.reduceLT,Int.reduceLE,Int.reduceToNat,a]);(repeat (simp only[ZP];try simp (maxSteps:=9^7) +contextual only[↓ S2,S2,↓reduceIte,reduceNe,reduceEqDiff,reduceCtorEq,reduceLeDiff,reduceAdd,reduceLT,VQ,Int.reduceEq,Int.reduceLT,Int.reduceLE,Int.reduceToNat,a]));(try simp +contextual (disch:=omega) only[Z2,a]);done)):p:=h a k
theorem R0 {p q:Prop} (k:q) (h:q→p:=by intro k;first|(replace k:=qU k;(try simp (maxSteps:=9^7) only[↓ S2,S2,ZH,↓reduceIte,reduceNe,reduceEqDiff,reduceCtorEq,reduceLeDiff,reduceAdd,reduceLT]);(repeat (simp only[ZP];try simp (maxSteps:=9^7) only[↓ S2,S2,ZH,↓reduceIte,reduceNe,reduceEqDiff,reduceCtorEq,reduceLeDiff,reduceAdd,reduceLT]));(try simp +contextual (disch:=omega) only[Z2]);(with_reducible repeat' first|refine aO ?_ | refine eO ?_);exact qI k)|(have _ : True:=k;(try simp (maxSteps:=9^7) only[↓ S2,S2,ZH,↓reduceIte,reduceNe,reduceEqDiff,reduceCtorEq,reduceLeDiff,reduceAdd,reduceLT]);(repeat (simp only[ZP];try simp (maxSteps:=9^7) only[↓ S2,S2,ZH,↓reduceIte,reduceNe,reduceEqDiff,reduceCtorEq,reduceLeDiff,reduceAdd,reduceLT]));(try simp +contextual (disch:=omega) only[Z2]);done)):p:=h k
theorem R1 {p q f:Prop} (a:f) (k:q) (h:f→q→p:=by intro a k;first|(replace k:=qU k;(try simp (maxSteps:=9^7) only[↓ S2,S2,ZH,↓reduceIte,reduceNe,reduceEqDiff,reduceCtorEq,reduceLeDiff,reduceAdd,reduceLT,a]);(repeat (simp only[ZP];try simp (maxSteps:=9^7) only[↓ S2,S2,ZH,↓reduceIte,reduceNe,reduceEqDiff,reduceCtorEq,reduceLeDiff,reduceAdd,reduceLT,a]));(try simp +contextual (disch:=omega) only[Z2,a]);(try clear a);(with_reducible repeat' first|refine aO ?_ | refine eO ?_);first|exact qI k|(revert a;exact qI k))|(have _ : True:=k;(try simp (maxSteps:=9^7) only[↓ S2,S2,ZH,↓reduceIte,reduceNe,reduceEqDiff,reduceCtorEq,reduceLeDiff,reduceAdd,reduceLT,a]);(repeat (simp only[ZP];try simp (maxSteps:=9^7) only[↓ S2,S2,ZH,↓reduceIte,reduceNe,reduceEqDiff,reduceCtorEq,reduceLeDiff,reduceAdd,reduceLT,a]));(try simp +contextual (disch:=omega) only[Z2,a]);done)):p:=h a k
theorem X0 {p q:Prop} (k:q) (h:q→p:=by intro k;first|(replace k:=qU k;(try simp (maxSteps:=9^7) only[↓ S2,S2,ZH,↓reduceIte,reduceNe,reduceEqDiff,reduceCtorEq,reduceLeDiff,reduceAdd,reduceLT]);(with_reducible repeat' first|refine aO ?_ | refine eO ?_);exact qI k)|(have _ : True:=k;(try simp (maxSteps:=9^7) only[↓ S2,S2,ZH,↓reduceIte,reduceNe,reduceEqDiff,reduceCtorEq,reduceLeDiff,reduceAdd,reduceLT]);done)):p:=h k
theorem K0 {p q:Prop} (k:q) (h:q→p:=by intro k;first|(simp (maxSteps:=9^7) only[↓ S2,S2,ZH,↓reduceIte,reduceNe,reduceEqDiff,reduceCtorEq,reduceLeDiff,reduceAdd,reduceLT];exact k)|(simp only[ZP];exact k)|(simp +contextual (disch:=omega) only[Z2];exact k)|(have _ : True:=k;simp (maxSteps:=9^7) only[↓ S2,S2,ZH,↓reduceIte,reduceNe,reduceEqDiff,reduceCtorEq,reduceLeDiff,reduceAdd,reduceLT];done)|(have _ : True:=k;simp only[ZP];done)|(have _ : True:=k;simp +contextual (disch:=omega) only[Z2];done)):p:=h k
theorem K1 {p q f:Prop} (a:f) (k:q) (h:f→q→p:=by intro a k;first|(simp (maxSteps:=9^7) only[↓ S2,S2,ZH,↓reduceIte,reduceNe,reduceEqDiff,reduceCtorEq,reduceLeDiff,reduceAdd,reduceLT,a];first|exact k|(revert a;exact k))|(simp only[ZP];first|exact k|(revert a;exact k))|(simp +contextual (disch:=omega) only[Z2];first|exact k|(revert a;exact k))|(have _ : True:=k;simp (maxSteps:=9^7) only[↓ S2,S2,ZH,↓reduceIte,reduceNe,reduceEqDiff,reduceCtorEq,reduceLeDiff,reduceAdd,reduceLT,a];done)|(have _ : True:=k;simp only[ZP];done)|(have _ : True:=k;simp +contextual (disch:=omega) only[Z2];done)):p:=h a k
theorem oF {p:Prop} (h:False:=by omega):p:=h.elim
theorem nL (a b:Nat):a<b∨a≥b:=Nat.lt_or_ge a b
theorem gM {α:Type} {l:List α} {n:Nat} (h:n<l.length):l[n]∈l:=List.getElem_mem h
theorem tL {α:Type} {l:List α} {i:Nat} (h:l.length≤i):l.take i=l:=List.take_of_length_le h
theorem bC (b:Bool):b=false∨b=true:=(Bool.eq_false_or_eq_true b).symm
theorem hgO {r q:Nat} (h:r≠q) (x:Nat×List GV) (H:GH):ZV ((r,x)::H) q=ZV H q:=hget_old h
theorem hdO {r q:Nat} (h:r≠q) (x:Nat×List GV) (H:GH):Zc ((r,x)::H) q=(r,x)::Zc H q:=hdel_old h
end Go.Gh
namespace Go.Gh.Z
abbrev x (d:Nat) (o:GOp):GI:=⟨some d,none,o⟩
abbrev y (d g:Nat) (o:GOp):GI:=⟨some d,some (g,true),o⟩
abbrev z (d g:Nat) (o:GOp):GI:=⟨some d,some (g,false),o⟩
abbrev m (d a:Nat):GI:=⟨some d,none,.mov (.t a)⟩
abbrev k (d:Nat) (n:Int):GI:=⟨some d,none,.mov (.k (.val (.int .i64 n)))⟩
abbrev b (d:Nat) (n:Bool):GI:=⟨some d,none,.mov (.k (.val (.bool n)))⟩
abbrev l (d a:Nat):GI:=⟨some d,none,.load 1 false (.t a)⟩
abbrev h (d n a:Nat):GI:=⟨some d,none,.load n true (.t a)⟩
abbrev f (d o a:Nat):GI:=⟨some d,none,.faddr o 1 false (.t a)⟩
abbrev e (d o n a:Nat):GI:=⟨some d,none,.faddr o n true (.t a)⟩
abbrev i (d n a c:Nat):GI:=⟨some d,none,.iaddr n (.t a) (.t c)⟩
abbrev c (d f:Nat) (a:List GE):GI:=⟨some d,none,.call false f a⟩
abbrev o (d:Nat) (p:BinOp) (a b:Nat):GI:=⟨some d,none,.bin p (.t a) (.t b)⟩
abbrev q (d:Nat) (p:BinOp) (a:Nat) (n:Int):GI:=⟨some d,none,.bin p (.t a) (.k (.val (.int .i64 n)))⟩
abbrev n (d a:Nat):GI:=⟨some d,none,.len (.t a)⟩
abbrev w (d a:Nat):GI:=⟨some d,none,.not (.t a)⟩
abbrev a (d n r:Nat):GI:=⟨some d,none,.boxro n (.t r)⟩
abbrev t (d n r:Nat):GI:=⟨some d,none,.stro n d (.t r)⟩
abbrev u (d n:Nat):GI:=⟨some d,none,.allocr n⟩
abbrev v (d r j:Nat):GI:=⟨some d,none,.ext (.t r) j⟩
abbrev p (n o a:Nat):GOp:= .faddr o n false (.t a)
abbrev r (n a:Nat):GOp:= .load n false (.t a)
abbrev j (n a:Nat):GOp:= .load n true (.t a)
abbrev C (c e:Nat) (x:GC):GC:= .seq (.cond c .skip (.exit e)) x
abbrev B (n:Nat) (x:GC):GC:= .block n (.loop x)
abbrev s (a:List GI) (b:GC):GC:= .seq (.reg a) b
end Go.Gh.Z
namespace Go.Gh
theorem jF {P:Program} {f:Nat} {fn:Func} {F:GFun} {c:Code} (h:P.funcs[f]? = some fn) (md:List (Nat×Nat):=[]) (h0:fn.body=some c:=by rfl) (h1:(fn.name == "runtime.NumGoroutine")=false:=by kernel_rfl) (h2:compC P F.cf md c=some F.gc:=by kernel_rfl) (h3:Yn P fn.results.toList=some F.gr:=by kernel_rfl) (h4:fn.ntmps=F.cf.N:=by rfl):IsFun P f F:=⟨fn,c,md,h,h1,h0,h2,h3,h4⟩
end Go.Gh
namespace Go.Proofs.YtknbnefbgpnkgaaGreat
open Go.Gh Go.Gh.Z
abbrev iF:=IsFun Tryz.prog
abbrev Pu:=Pure Tryz.prog
abbrev Gc:=GCalls Tryz.prog
def g3:GFun:=⟨⟨68,[3,4]⟩,(s [b 2 false] (.seq (s [m 11 0,c 12 8 [.t 11]] (.cond 12 (s [b 2 true] .ret) .skip)) (s [m 14 0,c 15 9 [.t 14],m 13 15,v 16 13 0,v 17 13 1,v 18 13 2,u 3 2,u 4 1,t 3 2 16,t 4 1 17,m 5 18] (s [h 20 2 3,h 21 1 4,
 c 22 10 [.t 20,.t 21],m 19 22,v 23 19 0,v 24 19 1,m 6 23,m 7 24] (s [h 26 2 3,h 27 1 4,c 28 11 [.t 26,.t 27],m 25 28,v 29 25 0,v 30 25 1,m 8 29,m 9 30] (.seq (s [m 31 7,m 32 9,x 33 (.beq true (.t 31) (.t 32)),m 34 33,z 35 34 (.mov (.t 6)),
 z 36 34 (.mov (.t 8)),z 37 34 (.call false 12 [.t 35,.t 36]),z 38 34 (.not (.t 37)),x 39 (.pick (.t 34) (.k (.val (.bool true))) (.t 38))] (.cond 39 (s [b 2 false] .ret) .skip)) (s [h 40 2 3,h 41 1 4,m 42 5,c 43 13 [.t 40,.t 41,.t 42],
 m 10 43] (.seq (s [m 44 10,h 45 2 3,h 46 1 4,m 47 5,c 48 14 [.t 45,.t 46,.t 47],x 49 (.beq true (.t 44) (.t 48))] (.cond 49 (s [b 2 false] .ret) .skip)) (.seq (s [m 50 7,w 51 50,m 52 51,z 53 52 (.mov (.t 6)),z 54 52 (.len (.t 53)),
 z 55 52 (.bin .eql (.t 54) (.k (.val (.int .i64 0)))),x 56 (.pick (.t 52) (.k (.val (.bool true))) (.t 55))] (.cond 56 (s [b 2 true] .ret) .skip)) (s [h 57 2 3,h 58 1 4,m 59 6,c 60 13 [.t 57,.t 58,.t 59],m 61 60,y 62 61 (.mov (.t 10)),
 y 63 61 (.mov (.t 5)),y 64 61 (.mov (.t 6)),y 65 61 (.call false 12 [.t 63,.t 64]),y 66 61 (.beq false (.t 62) (.t 65)),x 67 (.pick (.t 61) (.t 66) (.k (.val (.bool false)))),m 2 67] .ret)))))))))),[.t 2]⟩
theorem i3:iF 3 g3:=jF Tryz.func3
def g8:GFun:=⟨⟨6,[]⟩,(s [b 2 false] (s [m 3 0,n 4 3,q 5 .gtr 4 1048576,m 2 5] .ret)),[.t 2]⟩
theorem i8:iF 8 g8:=jF Tryz.func8
def g9:GFun:=⟨⟨46,[2,3,6,7]⟩,(s [u 2 2,u 3 1,x 4 (.mov (.k (.val (.slice none 0 0))))] (s [m 11 0,c 12 39 [.t 11],m 5 12] (s [m 14 5,c 15 40 [.t 14],m 13 15,v 16 13 0,v 17 13 1,u 6 2,u 7 1,t 6 2 16,t 7 1 17] (s [h 19 2 6,h 20 1 7,
 c 21 11 [.t 19,.t 20],m 18 21,v 22 18 0,v 23 18 1,m 8 22,m 9 23] (.seq (s [m 24 8,n 25 24,q 26 .gtr 25 0,m 27 26,y 28 27 (.mov (.t 5)),y 29 27 (.call false 41 [.t 28,(.k (.val (.int .i64 3)))]),x 30 (.pick (.t 27) (.t 29) (.k (.val
 (.bool false))))] (.cond 30 (s [m 31 5,m 32 8,n 33 32,c 34 42 [.t 31,.t 33],m 10 34] (.reg [m 35 8,m 36 10,m 37 8,m 38 10,i 39 1 37 38,l 40 39,q 41 .add 40 1,i 42 1 35 36,(.mk none none (.store 1 (.t 42) (.t 41)))])) .skip)) (s [m 45 8,
 h 43 2 6,t 2 2 43,h 44 1 7,t 3 1 44,m 4 45] .ret)))))),[(.c 2 2 true),(.c 3 1 true),.t 4]⟩
theorem i9:iF 9 g9:=jF Tryz.func9
def g10:GFun:=⟨⟨56,[2,3]⟩,(s [a 2 2 0,a 3 1 1,x 4 (.mov (.k (.val (.slice none 0 0)))),b 5 false] (s [h 13 2 2,h 14 1 3,c 15 43 [.t 13,.t 14],m 12 15,v 16 12 0,v 17 12 1,m 6 16,m 7 17] (.seq (s [m 18 7,w 19 18,m 20 19,z 21 20 (j 2 2),
 z 22 20 (.call false 44 [.t 21]),z 23 20 (.not (.t 22)),x 24 (.pick (.t 20) (.k (.val (.bool true))) (.t 23)),m 25 24,z 26 25 (j 2 2),z 27 25 (j 1 3),z 28 25 (.call false 45 [.t 26,.t 27]),z 29 25 (.not (.t 28)),x 30 (.pick (.t 25) (.k
 (.val (.bool true))) (.t 29))] (.cond 30 (s [x 4 (.mov (.k (.val (.slice none 0 0)))),b 5 false] .ret) .skip)) (s [h 31 2 2,h 32 1 3,c 33 46 [.t 31,.t 32],m 8 33] (s [m 34 8,n 35 34,x 36 (.mkslice 1 8 (.val (.int .i64 0)) (.t 35) (.t 35)),
 m 9 36] (.seq (s [m 37 6,n 38 37,k 39 0] (B 0 (s [o 40 .lss 39 38] (C 40 0 (.seq (.block 1 (s [i 41 1 37 39,l 42 41,m 11 42] (.reg [m 43 9,m 44 11,m 47 8,m 48 11,i 49 2 47 48,m 51 9,h 45 2 2,h 46 1 3,h 50 2 49,x 52 (.call true 47 [.t 45,
 .t 46,.t 50,.t 51]),i 53 1 43 44,(.mk none none (.store 1 (.t 53) (.t 52)))]))) (.reg [q 54 .add 39 1,m 39 54])))))) (s [m 55 9,m 4 55,b 5 true] .ret))))))),[.t 4,.t 5]⟩
theorem i10:iF 10 g10:=jF Tryz.func10
def g11:GFun:=⟨⟨70,[2,3]⟩,(s [a 2 2 0,a 3 1 1,x 4 (.mov (.k (.val (.slice none 0 0)))),b 5 false] (s [h 11 2 2,h 12 1 3,c 13 27 [.t 11,.t 12],m 6 13] (s [h 15 2 2,h 16 1 3,c 17 48 [.t 15,.t 16],m 14 17,v 18 14 0,v 19 14 1,m 7 18,
 m 8 19] (.seq (s [h 20 2 2,x 21 (.call true 28 [.t 20]),w 22 21,m 23 22,z 24 23 (.mov (.t 6)),z 25 23 (.len (.t 24)),z 26 23 (.bin .eql (.t 25) (.k (.val (.int .i64 0)))),z 27 23 (.mov (.t 26)),y 28 27 (j 2 2),y 29 27 (j 1 3),y 30 27
 (j 2 2),y 31 27 (j 1 3),y 32 27 (.call true 30 [.t 30,.t 31,(.k (.val (.int .i64 0)))]),y 33 27 (.call true 29 [.t 28,.t 29,.t 32]),y 34 27 (.not (.t 33)),z 35 23 (.pick (.t 27) (.t 34) (.k (.val (.bool false)))),x 36 (.pick (.t 23) (.k
 (.val (.bool true))) (.t 35)),m 37 36,z 38 37 (.mov (.t 8)),z 39 37 (.not (.t 38)),x 40 (.pick (.t 37) (.k (.val (.bool true))) (.t 39))] (.cond 40 (s [x 41 (.bslice 1 [] 0 false []),m 4 41,b 5 false] .ret) .skip)) (s [m 42 6,n 43 42,
 x 44 (.mkslice 1 8 (.val (.int .i64 0)) (.t 43) (.t 43)),m 9 44] (.seq (s [k 10 0] (B 0 (.seq (s [m 45 10,m 46 7,n 47 46,o 48 .lss 45 47] (.cond 48 .skip (.exit 0))) (.seq (.block 1 (.reg [m 51 9,m 52 7,m 53 10,i 54 1 52 53,m 58 6,m 59 7,
 m 60 10,i 61 1 59 60,m 65 6,m 66 9,l 55 54,h 56 2 2,h 57 1 3,l 62 61,i 63 2 58 62,h 64 2 63,x 67 (.call true 49 [.t 56,.t 57,.t 64,.t 65,.t 66]),i 68 1 51 55,(.mk none none (.store 1 (.t 68) (.t 67)))])) (.reg [m 49 10,q 50 .add 49 1,
 m 10 50]))))) (s [m 69 9,m 4 69,b 5 true] .ret))))))),[.t 4,.t 5]⟩
theorem i11:iF 11 g11:=jF Tryz.func11
def g12:GFun:=⟨⟨26,[]⟩,(s [b 4 false] (.seq (s [m 6 0,n 7 6,m 8 1,n 9 8,o 10 .neq 7 9] (.cond 10 (s [b 4 false] .ret) .skip)) (.seq (s [k 5 0] (B 0 (.seq (s [m 11 5,m 12 0,n 13 12,o 14 .lss 11 13] (.cond 14 .skip (.exit 0))) (.seq
 (.block 1 (s [m 17 0,m 18 5,i 19 1 17 18,m 21 1,m 22 5,i 23 1 21 22,l 20 19,l 24 23,o 25 .neq 20 24] (.cond 25 (s [b 4 false] .ret) .skip))) (.reg [m 15 5,q 16 .add 15 1,m 5 16]))))) (s [b 4 true] .ret)))),[.t 4]⟩
theorem i12:iF 12 g12:=jF Tryz.func12
def g13:GFun:=⟨⟨15,[3,4]⟩,(s [a 3 2 0,a 4 1 1,b 6 false] (s [h 7 2 3,c 8 44 [.t 7],m 9 8,y 10 9 (j 2 3),y 11 9 (j 1 4),y 12 9 (.mov (.t 2)),y 13 9 (.call false 50 [.t 10,.t 11,.t 12]),x 14 (.pick (.t 9) (.t 13) (.k (.val
 (.bool false)))),m 6 14] .ret)),[.t 6]⟩
theorem i13:iF 13 g13:=jF Tryz.func13
def g14:GFun:=⟨⟨47,[3,4]⟩,(s [a 3 2 0,a 4 1 1,b 6 false] (s [h 9 2 3,h 10 1 4,c 11 27 [.t 9,.t 10],m 7 11] (.seq (s [h 12 2 3,c 13 28 [.t 12],w 14 13,m 15 14,z 16 15 (.mov (.t 7)),z 17 15 (.len (.t 16)),z 18 15 (.bin .eql (.t 17) (.k
 (.val (.int .i64 0)))),x 19 (.pick (.t 15) (.k (.val (.bool true))) (.t 18)),m 20 19,z 21 20 (.mov (.t 7)),z 22 20 (.len (.t 21)),z 23 20 (.mov (.t 2)),z 24 20 (.len (.t 23)),z 25 20 (.bin .neq (.t 22) (.t 24)),x 26 (.pick (.t 20) (.k
 (.val (.bool true))) (.t 25))] (.cond 26 (s [b 6 false] .ret) .skip)) (.seq (s [k 8 0] (B 0 (.seq (s [m 27 8,m 28 7,n 29 28,o 30 .lss 27 29] (.cond 30 .skip (.exit 0))) (.seq (.block 1 (s [m 33 2,m 34 8,i 35 1 33 34,m 39 7,m 40 8,
 i 41 2 39 40,m 43 7,m 44 2,l 36 35,h 37 2 3,h 38 1 4,h 42 2 41,x 45 (.call true 49 [.t 37,.t 38,.t 42,.t 43,.t 44]),o 46 .neq 36 45] (.cond 46 (s [b 6 false] .ret) .skip))) (.reg [m 31 8,q 32 .add 31 1,m 8 32]))))) (s [b 6 true] .ret))))),
 [.t 6]⟩
theorem i14:iF 14 g14:=jF Tryz.func14
def g20:GFun:=⟨⟨22,[2]⟩,(s [a 2 1 0,k 4 0] (.seq (s [k 5 0] (B 0 (.seq (s [m 6 5,f 7 0 2,l 8 7,n 9 8,o 10 .lss 6 9] (.cond 10 .skip (.exit 0))) (.seq (.block 1 (s [f 13 0 2,l 14 13,m 15 5,i 16 6 14 15,f 17 0 16,l 18 17,m 19 1,
 o 20 .eql 18 19] (.cond 20 (s [m 21 5,m 4 21] .ret) .skip))) (.reg [m 11 5,q 12 .add 11 1,m 5 12]))))) (s [k 4 (-1)] .ret))),[.t 4]⟩
theorem i20:iF 20 g20:=jF Tryz.func20
def g27:GFun:=⟨⟨59,[2,3,7]⟩,(s [a 2 2 0,a 3 1 1,x 4 (.mov (.k (.val (.slice none 0 0))))] (s [x 10 (.bslice 2 [] 0 true []),m 5 10] (.seq (s [h 11 2 2,h 12 1 3,h 13 2 2,h 14 1 3,x 15 (.call true 30 [.t 13,.t 14,(.k (.val
 (.int .i64 0)))]),x 16 (.call true 29 [.t 11,.t 12,.t 15]),w 17 16] (.cond 17 (s [m 18 5,m 4 18] .ret) .skip)) (.seq (s [k 6 0] (B 0 (.seq (s [m 19 6,f 20 0 3,l 21 20,n 22 21,o 23 .lss 19 22] (.cond 23 .skip (.exit 0))) (.seq (.block 1
 (s [m 30 6,u 7 2,h 27 2 2,h 28 2 2,h 29 1 3,x 31 (.call true 30 [.t 28,.t 29,.t 30]),x 32 (.call true 72 [.t 27,.t 31]),m 26 32,v 33 26 0,v 34 26 1,t 7 2 33,m 8 34] (s [k 9 0] (B 2 (.seq (s [m 35 9,f 36 1 7,l 37 36,n 38 37,
 o 39 .lss 35 38] (.cond 39 .skip (.exit 2))) (.seq (.block 3 (.reg [m 42 5,f 43 0 3,m 45 6,f 49 1 7,m 51 9,l 44 43,i 46 6 44 45,f 47 0 46,l 48 47,l 50 49,i 52 4 50 51,f 53 0 52,l 54 53,x 55 (.build [(.val (.int .i64 0)),(.val (.string
 (ByteArray.mk #[])))] [(0,(1,(.t 48))),(1,(1,(.t 54)))]),x 56 (.bslice 2 [] 1 true [(0,(.t 55))]),x 57 (.append 2 24 (.t 42) (.t 56)),m 5 57])) (.reg [m 40 9,q 41 .add 40 1,m 9 41]))))))) (.reg [m 24 6,q 25 .add 24 1,m 6 25])))))
 (s [m 58 5,m 4 58] .ret))))),[.t 4]⟩
theorem i27:iF 27 g27:=jF Tryz.func27
def g28:GFun:=⟨⟨56,[1,5]⟩,(s [a 1 2 0,b 2 false] (.seq (s [k 3 0] (B 0 (.seq (s [m 7 3,f 8 0 1,l 9 8,n 10 9,o 11 .lss 7 10] (.cond 11 .skip (.exit 0))) (.seq (.block 1 (s [k 4 0] (B 2 (.seq (s [m 14 4,f 15 0 1,l 16 15,m 17 3,
 i 18 2 16 17,f 19 1 18,l 20 19,n 21 20,o 22 .lss 14 21] (.cond 22 .skip (.exit 2))) (.seq (.block 3 (s [f 25 0 1,l 26 25,m 27 3,i 28 2 26 27,f 29 1 28,l 30 29,m 31 4,i 32 4 30 31,h 33 4 32,u 5 4,t 5 4 33] (s [f 34 3 5,l 35 34,m 36 35,
 z 37 36 (p 1 2 5),z 38 36 (r 1 37),z 39 36 (.bin .eql (.t 38) (.k (.val (.int .i64 3)))),x 40 (.pick (.t 36) (.k (.val (.bool true))) (.t 39))] (.cond 40 (s [b 2 false] .ret) .skip)))) (.reg [m 23 4,q 24 .add 23 1,m 4 24]))))))
 (.reg [m 12 3,q 13 .add 12 1,m 3 13]))))) (.seq (s [k 6 0] (B 4 (.seq (s [m 41 6,f 42 1 1,l 43 42,n 44 43,o 45 .lss 41 44] (.cond 45 .skip (.exit 4))) (.seq (.block 5 (s [f 48 1 1,l 49 48,m 50 6,i 51 6 49 50,h 52 6 51,c 53 73 [.t 52]]
 (.cond 53 (s [b 2 false] .ret) .skip))) (.reg [m 46 6,q 47 .add 46 1,m 6 47]))))) (s [h 54 2 1,c 55 63 [.t 54],m 2 55] .ret)))),[.t 2]⟩
theorem i28:iF 28 g28:=jF Tryz.func28
def g29:GFun:=⟨⟨19,[3,4]⟩,(s [a 3 2 0,a 4 1 1,b 6 false] (s [h 7 1 4,x 8 (.call true 74 [.t 7]),m 9 8,y 12 9 (.mov (.t 2)),y 14 9 (p 1 0 4),y 10 9 (j 2 3),y 11 9 (j 1 4),y 13 9 (.call true 75 [.t 10,.t 11,(.k (.val (.int .i64 0))),(.k
 (.val (.int .i64 (-1)))),(.k (.val (.int .i64 0))),.t 12]),y 15 9 (r 1 14),y 16 9 (.len (.t 15)),y 17 9 (.bin .eql (.t 13) (.t 16)),x 18 (.pick (.t 9) (.t 17) (.k (.val (.bool false)))),m 6 18] .ret)),[.t 6]⟩
theorem i29:iF 29 g29:=jF Tryz.func29
def g30:GFun:=⟨⟨29,[3,4,7]⟩,(s [a 3 2 0,a 4 1 1,x 6 (.mov (.k (.val (.string (ByteArray.mk #[])))))] (.seq (s [m 9 2,f 10 0 4,l 11 10,n 12 11,q 13 .sub 12 1,c 14 64 [.t 9,(.k (.val (.int .i64 0))),.t 13],w 15 14] (.cond 15 (s [x 6
 (.mov (.k (.val (.string (ByteArray.mk #[])))))] .ret) .skip)) (s [f 18 0 4,m 20 2,u 7 6,h 17 2 3,l 19 18,i 21 6 19 20,f 22 4 21,l 23 22,x 24 (.call true 76 [.t 17,.t 23]),m 16 24,v 25 16 0,v 26 16 1,t 7 6 25,m 8 26] (s [f 27 1 7,l 28 27,
 m 6 28] .ret)))),[.t 6]⟩
theorem i30:iF 30 g30:=jF Tryz.func30
def g32:GFun:=⟨⟨34,[3,4,5,6,8]⟩,(s [a 3 2 0,a 4 1 1,a 5 2 2,u 6 4,b 7 false] (.seq (s [h 10 1 4,f 11 0 5,l 12 11,c 13 20 [.t 10,.t 12],q 14 .lss 13 0] (.cond 14 (s [x 15 (.build [(.val (.string (ByteArray.mk #[]))),(.val (.int .i64 0)),
 (.val (.int .i64 0)),(.val (.bool false))] []),t 6 4 15,b 7 false] .ret) .skip)) (s [f 21 0 5,u 8 2,h 17 2 3,h 18 2 3,h 19 1 4,h 20 1 4,l 22 21,x 23 (.call true 20 [.t 20,.t 22]),x 24 (.call true 30 [.t 18,.t 19,.t 23]),x 25
 (.call true 72 [.t 17,.t 24]),m 16 25,v 26 16 0,v 27 16 1,t 8 2 26,m 9 27] (s [h 28 2 8,f 29 1 5,l 30 29,c 31 79 [.t 28,.t 30],v 32 31 0,v 33 31 1,t 6 4 32,m 7 33] .ret)))),[(.c 6 4 true),.t 7]⟩
theorem i32:iF 32 g32:=jF Tryz.func32
def g33:GFun:=⟨⟨14,[]⟩,(s [b 4 false] (s [m 5 1,c 6 64 [.t 5,(.k (.val (.int .i64 1))),(.k (.val (.int .i64 4)))],m 7 6,y 8 7 (.mov (.t 0)),y 9 7 (.mov (.t 1)),y 10 7 (.call false 80 [.t 8,.t 9]),y 11 7 (.mov (.t 0)),y 12 7 (.bin .eql
 (.t 10) (.t 11)),x 13 (.pick (.t 7) (.t 12) (.k (.val (.bool false)))),m 4 13] .ret)),[.t 4]⟩
theorem i33:iF 33 g33:=jF Tryz.func33
def g34:GFun:=⟨⟨98,[4,5,13,16]⟩,(s [a 4 2 0,a 5 1 1,x 8 (.mov (.k (.val (.slice none 0 0))))] (s [h 19 2 4,h 20 1 5,c 21 46 [.t 19,.t 20],x 22 (.bslice 3 [] 0 true []),m 9 21,m 10 22] (.seq (s [h 23 1 5,m 24 2,c 25 81 [.t 23,.t 24],
 w 26 25,m 27 26,z 28 27 (.mov (.t 3)),z 29 27 (.len (.t 28)),z 30 27 (.mov (.t 9)),z 31 27 (.len (.t 30)),z 32 27 (.bin .neq (.t 29) (.t 31)),x 33 (.pick (.t 27) (.k (.val (.bool true))) (.t 32))] (.cond 33 (s [m 34 10,
 m 8 34] .ret) .skip)) (.seq (s [m 35 2,x 36 (.bslice 1 [] 1 false [(0,(.t 35))]),f 37 0 5,l 38 37,m 39 2,i 40 6 38 39,f 41 5 40,l 42 41,x 43 (.append 1 8 (.t 36) (.t 42)),n 44 43,k 45 0] (B 0 (s [o 46 .lss 45 44] (C 46 0 (.seq (.block 1
 (s [m 47 45,i 48 1 43 45,l 49 48,m 11 47,m 12 49] (s [m 54 12,u 13 2,h 51 2 4,h 52 2 4,h 53 1 5,x 55 (.call true 83 [.t 52,.t 53,.t 54]),x 56 (.call true 82 [.t 51,.t 55]),m 50 56,v 57 50 0,v 58 50 1,t 13 2 57,m 14 58] (s [f 59 1 13,
 l 60 59,n 61 60,k 62 0] (B 2 (s [o 63 .lss 62 61] (C 63 2 (.seq (.block 3 (s [i 64 4 60 62,h 65 4 64,u 16 4,t 16 4 65] (s [k 17 0] (.seq (s [h 66 1 5,m 67 12,c 68 81 [.t 66,.t 67]] (.cond 68 (s [m 69 9,f 70 0 5,m 72 12,f 76 0 16,l 71 70,
 i 73 6 71 72,f 74 0 73,l 75 74,l 77 76,x 78 (.build [(.val (.int .i64 0)),(.val (.string (ByteArray.mk #[])))] [(0,(1,(.t 75))),(1,(1,(.t 77)))]),x 79 (.call true 84 [.t 69,.t 78]),m 18 79] (s [m 80 18,q 81 .geq 80 0] (.cond 81
 (.reg [m 82 3,m 83 18,i 84 1 82 83,l 85 84,m 17 85]) .skip))) .skip)) (.reg [m 86 10,m 87 11,f 88 0 16,l 89 88,x 90 (.build [(.val (.int .i64 0)),(.val (.string (ByteArray.mk #[])))] [(0,(1,(.t 87))),(1,(1,(.t 89)))]),m 91 17,x 92
 (.build [(.val (.int .i64 0)),(.val (.string (ByteArray.mk #[]))),(.val (.int .i64 0))] [(0,(2,(.t 90))),(2,(1,(.t 91)))]),x 93 (.bslice 3 [] 1 true [(0,(.t 92))]),x 94 (.append 3 32 (.t 86) (.t 93)),m 10 94]))))) (.reg [q 95 .add 62 1,
 m 62 95]))))))))) (.reg [q 96 .add 45 1,m 45 96])))))) (s [m 97 10,m 8 97] .ret))))),[.t 8]⟩
theorem i34:iF 34 g34:=jF Tryz.func34
def g35:GFun:=⟨⟨42,[2]⟩,(s [a 2 1 0,x 4 (.mov (.k (.val (.slice none 0 0))))] (s [x 8 (.bslice 1 [] 0 false []),m 5 8] (.seq (s [h 9 1 2,m 10 1,c 11 81 [.t 9,.t 10],w 12 11] (.cond 12 (s [m 13 5,m 4 13] .ret) .skip)) (.seq (s [m 14 1,
 x 15 (.bslice 1 [] 1 false [(0,(.t 14))]),f 16 0 2,l 17 16,m 18 1,i 19 6 17 18,f 20 5 19,l 21 20,x 22 (.append 1 8 (.t 15) (.t 21)),n 23 22,k 24 0] (B 0 (s [o 25 .lss 24 23] (C 25 0 (.seq (.block 1 (s [i 26 1 22 24,l 27 26,m 7 27]
 (s [h 28 1 2,m 29 7,c 30 81 [.t 28,.t 29]] (.cond 30 (.reg [m 31 5,f 32 0 2,l 33 32,m 34 7,i 35 6 33 34,f 36 0 35,l 37 36,x 38 (.bslice 1 [] 1 false [(0,(.t 37))]),x 39 (.append 1 8 (.t 31) (.t 38)),m 5 39]) .skip))))
 (.reg [q 40 .add 24 1,m 24 40])))))) (s [m 41 5,m 4 41] .ret))))),[.t 4]⟩
theorem i35:iF 35 g35:=jF Tryz.func35
def g36:GFun:=⟨⟨62,[2]⟩,(s [a 2 1 0,x 4 (.mov (.k (.val (.slice none 0 0))))] (s [x 8 (.bslice 1 [] 0 false []),m 5 8] (.seq (s [m 9 1,f 10 0 2,l 11 10,n 12 11,q 13 .sub 12 1,c 14 64 [.t 9,(.k (.val (.int .i64 0))),.t 13],w 15 14]
 (.cond 15 (s [m 16 5,m 4 16] .ret) .skip)) (s [m 17 5,f 18 0 2,l 19 18,m 20 1,i 21 6 19 20,f 22 0 21,l 23 22,x 24 (.bslice 1 [] 1 false [(0,(.t 23))]),x 25 (.append 1 8 (.t 17) (.t 24)),m 5 25] (.seq (s [k 6 0] (B 0 (.seq (s [m 26 6,
 f 27 0 2,l 28 27,m 29 1,i 30 6 28 29,f 31 5 30,l 32 31,n 33 32,o 34 .lss 26 33] (.cond 34 .skip (.exit 0))) (.seq (.block 1 (s [f 37 0 2,l 38 37,m 39 1,i 40 6 38 39,f 41 5 40,l 42 41,m 43 6,i 44 1 42 43,l 45 44,m 7 45] (s [m 46 7,f 47 0 2,
 l 48 47,n 49 48,q 50 .sub 49 1,c 51 64 [.t 46,(.k (.val (.int .i64 0))),.t 50]] (.cond 51 (.reg [m 52 5,f 53 0 2,l 54 53,m 55 7,i 56 6 54 55,f 57 0 56,l 58 57,x 59 (.bslice 1 [] 1 false [(0,(.t 58))]),x 60 (.append 1 8 (.t 52) (.t 59)),
 m 5 60]) .skip)))) (.reg [m 35 6,q 36 .add 35 1,m 6 36]))))) (s [m 61 5,m 4 61] .ret)))))),[.t 4]⟩
theorem i36:iF 36 g36:=jF Tryz.func36
def g38:GFun:=⟨⟨19,[3]⟩,(s [a 3 2 1,k 4 0] (.seq (s [k 5 0] (B 0 (.seq (s [m 6 5,m 7 0,n 8 7,o 9 .lss 6 8] (.cond 9 .skip (.exit 0))) (.seq (.block 1 (s [m 12 0,m 13 5,i 14 2 12 13,h 15 2 14,h 16 2 3,x 17 (.aeq false [1,2] (.t 15)
 (.t 16))] (.cond 17 (s [m 18 5,m 4 18] .ret) .skip))) (.reg [m 10 5,q 11 .add 10 1,m 5 11]))))) (s [k 4 (-1)] .ret))),[.t 4]⟩
theorem i38:iF 38 g38:=jF Tryz.func38
def g39:GFun:=⟨⟨32,[]⟩,(s [x 2 (.mov (.k (.val (.pointer none))))] (s [m 5 0,n 6 5,x 7 (.bin .add (.k (.val (.int .i64 26583))) (.t 6)),m 3 7] (.seq (s [k 4 0] (B 0 (.seq (s [m 8 4,m 9 0,n 10 9,o 11 .lss 8 10,m 12 11,y 13 12 (.mov
 (.t 4)),y 14 12 (.bin .lss (.t 13) (.k (.val (.int .i64 4000)))),x 15 (.pick (.t 12) (.t 14) (.k (.val (.bool false))))] (.cond 15 .skip (.exit 0))) (.seq (.block 1 (.reg [m 18 3,q 19 .mul 18 131,m 20 0,m 21 4,i 22 1 20 21,l 23 22,x 24
 (.conv .i64 (.t 23)),o 25 .add 19 24,q 26 .add 25 7,q 27 .and 26 1073741823,m 3 27])) (.reg [m 16 4,q 17 .add 16 1,m 4 17]))))) (s [m 28 0,m 29 3,x 30 (.build [(.val (.slice none 0 0)),(.val (.int .i64 0)),(.val (.int .i64 0))] [(0,(1,
 (.t 28))),(2,(1,(.t 29)))]),x 31 (.box 3 (.t 30)),m 2 31] .ret)))),[.t 2]⟩
theorem i39:iF 39 g39:=jF Tryz.func39
def g40:GFun:=⟨⟨21,[2,3,4]⟩,(s [u 2 2,u 3 1] (s [m 6 0,m 7 0,c 8 41 [.t 7,(.k (.val (.int .i64 12)))],w 9 8,c 10 51 [.t 6,.t 9],u 4 2,t 4 2 10] (s [m 11 0,h 12 2 4,c 13 52 [.t 11,.t 12],x 5 (.alloc 1 (.agg [(.val (.slice none 0 0))])),
 (.mk none none (.store 1 (.t 5) (.t 13)))] (.seq (s [m 14 0,c 15 41 [.t 14,(.k (.val (.int .i64 16)))]] (.cond 15 (.reg [m 16 0,h 17 2 4,c 18 54 [.t 16,.t 17],(.mk none none (.store 1 (.t 5) (.t 18)))]) .skip)) (s [h 19 2 4,t 2 2 19,
 h 20 1 5,t 3 1 20] .ret))))),[(.c 2 2 true),(.c 3 1 true)]⟩
theorem i40:iF 40 g40:=jF Tryz.func40
def g41:GFun:=⟨⟨9,[]⟩,(s [b 4 false] (s [m 5 0,m 6 1,c 7 42 [.t 5,.t 6],q 8 .eql 7 0,m 4 8] .ret)),[.t 4]⟩
theorem i41:iF 41 g41:=jF Tryz.func41
def g42:GFun:=⟨⟨37,[]⟩,(s [k 4 0] (.seq (s [m 9 1,q 10 .leq 9 0] (.cond 10 (s [k 4 0] .ret) .skip)) (.seq (s [m 11 1,q 12 .leq 11 256] (.cond 12 (s [m 13 0,c 14 86 [.t 13],m 15 1,o 16 .rem 14 15,m 4 16] .ret) .skip)) (s [m 17 0,
 c 18 86 [.t 17],m 5 18] (s [m 19 0,c 20 86 [.t 19],m 6 20] (s [m 21 0,c 22 86 [.t 21],m 7 22] (s [m 23 0,c 24 86 [.t 23],m 8 24] (s [m 25 5,q 26 .mul 25 16777216,m 27 6,q 28 .mul 27 65536,o 29 .add 26 28,m 30 7,q 31 .mul 30 256,
 o 32 .add 29 31,m 33 8,o 34 .add 32 33,m 35 1,o 36 .rem 34 35,m 4 36] .ret)))))))),[.t 4]⟩
theorem i42:iF 42 g42:=jF Tryz.func42
def g43:GFun:=⟨⟨47,[2,3]⟩,(s [a 2 2 0,a 3 1 1,x 4 (.mov (.k (.val (.slice none 0 0)))),b 5 false] (s [h 11 2 2,h 12 1 3,c 13 88 [.t 11,.t 12],c 14 87 [.t 13],x 15 (.bslice 1 [] 0 false []),x 7 (.alloc 1 (.val (.slice none 0 0))),m 6 14,
 (.mk none none (.store 1 (.t 7) (.t 15)))] (.seq (B 0 (.seq (s [l 16 7,n 17 16,m 18 6,n 19 18,o 20 .lss 17 19] (.cond 20 .skip (.exit 0))) (.block 1 (s [k 8 (-1)] (.seq (s [m 21 6,n 22 21,k 23 0] (B 2 (s [o 24 .lss 23 22] (C 24 2 (.seq
 (.block 3 (s [m 25 23,i 26 1 21 23,l 27 26,m 9 25,m 10 27] (s [l 28 7,m 29 9,c 30 89 [.t 28,.t 29],w 31 30,m 32 31,y 33 32 (.mov (.t 10)),y 34 32 (.mkfn 91 [.t 7]),y 35 32 (.call false 90 [.t 33,.t 34]),y 36 32 (.not (.t 35)),x 37 (.pick
 (.t 32) (.t 36) (.k (.val (.bool false))))] (.cond 37 (s [m 38 9,m 8 38] (.exit 2)) .skip)))) (.reg [q 39 .add 23 1,m 23 39])))))) (.seq (s [m 40 8,q 41 .lss 40 0] (.cond 41 (s [x 4 (.mov (.k (.val (.slice none 0 0)))),
 b 5 false] .ret) .skip)) (.reg [l 42 7,m 43 8,x 44 (.bslice 1 [] 1 false [(0,(.t 43))]),x 45 (.append 1 8 (.t 42) (.t 44)),(.mk none none (.store 1 (.t 7) (.t 45)))]))))))) (s [l 46 7,m 4 46,b 5 true] .ret)))),[.t 4,.t 5]⟩
theorem i43:iF 43 g43:=jF Tryz.func43
def g44:GFun:=⟨⟨20,[1]⟩,(s [a 1 2 0,b 2 false] (s [h 3 2 1,c 4 55 [.t 3],m 5 4,y 6 5 (j 2 1),y 7 5 (.call false 92 [.t 6]),y 8 5 (.not (.t 7)),x 9 (.pick (.t 5) (.t 8) (.k (.val (.bool false)))),m 10 9,y 11 10 (j 2 1),y 12 10
 (.call false 93 [.t 11,(.k (.clo 94 []))]),y 13 10 (.not (.t 12)),x 14 (.pick (.t 10) (.t 13) (.k (.val (.bool false)))),m 15 14,y 16 15 (j 2 1),y 17 15 (.call false 93 [.t 16,(.k (.clo 95 []))]),y 18 15 (.not (.t 17)),x 19 (.pick
 (.t 15) (.t 18) (.k (.val (.bool false)))),m 2 19] .ret)),[.t 2]⟩
theorem i44:iF 44 g44:=jF Tryz.func44
def g45:GFun:=⟨⟨11,[2,3]⟩,(s [a 2 2 0,a 3 1 1,b 4 false] (s [h 5 2 2,h 6 1 3,h 7 2 2,h 8 1 3,x 9 (.call true 83 [.t 7,.t 8,(.k (.val (.int .i64 0)))]),x 10 (.call true 96 [.t 5,.t 6,.t 9]),m 4 10] .ret)),[.t 4]⟩
theorem i45:iF 45 g45:=jF Tryz.func45
def g46:GFun:=⟨⟨53,[2,3,7,8,11]⟩,(s [a 2 2 0,a 3 1 1,x 4 (.mov (.k (.val (.slice none 0 0))))] (s [x 12 (.bslice 2 [] 0 true []),m 5 12] (.seq (s [h 13 2 2,h 14 1 3,c 15 45 [.t 13,.t 14],w 16 15] (.cond 16 (s [m 17 5,
 m 4 17] .ret) .skip)) (.seq (s [f 18 0 3,l 19 18,n 20 19,k 21 0] (B 0 (s [o 22 .lss 21 20] (C 22 0 (.seq (.block 1 (s [m 23 21,i 24 6 19 21,h 25 6 24,u 7 6,m 6 23,t 7 6 25] (s [m 30 6,u 8 2,h 27 2 2,h 28 2 2,h 29 1 3,x 31
 (.call true 83 [.t 28,.t 29,.t 30]),x 32 (.call true 82 [.t 27,.t 31]),m 26 32,v 33 26 0,v 34 26 1,t 8 2 33,m 9 34] (s [f 35 1 8,l 36 35,n 37 36,k 38 0] (B 2 (s [o 39 .lss 38 37] (C 39 2 (.seq (.block 3 (s [i 40 4 36 38,h 41 4 40,u 11 4,
 t 11 4 41] (.reg [m 42 5,f 43 0 7,l 44 43,f 45 0 11,l 46 45,x 47 (.build [(.val (.int .i64 0)),(.val (.string (ByteArray.mk #[])))] [(0,(1,(.t 44))),(1,(1,(.t 46)))]),x 48 (.bslice 2 [] 1 true [(0,(.t 47))]),x 49 (.append 2 24 (.t 42)
 (.t 48)),m 5 49]))) (.reg [q 50 .add 38 1,m 38 50]))))))))) (.reg [q 51 .add 21 1,m 21 51])))))) (s [m 52 5,m 4 52] .ret))))),[.t 4]⟩
theorem i46:iF 46 g46:=jF Tryz.func46
def g47:GFun:=⟨⟨40,[4,5,6,9]⟩,(s [a 4 2 0,a 5 1 1,a 6 2 2,k 8 0] (s [h 12 2 4,h 13 1 5,h 14 2 6,c 15 97 [.t 12,.t 13,.t 14],m 11 15,v 16 11 0,v 17 11 1,u 9 8,t 9 8 16,m 10 17] (.seq (s [m 18 10,w 19 18] (.cond 19
 (s [k 8 0] .ret) .skip)) (s [e 20 1 7 9,f 24 0 9,m 26 3,f 28 0 5,f 30 0 9,f 36 0 9,h 21 7 20,h 22 2 4,h 23 1 5,l 25 24,x 27 (.call true 34 [.t 22,.t 23,.t 25,.t 26]),l 29 28,l 31 30,i 32 6 29 31,f 33 3 32,l 34 33,h 35 1 5,l 37 36,x 38
 (.call true 35 [.t 35,.t 37]),x 39 (.call true 98 [.t 21,.t 27,.t 34,.t 38]),m 8 39] .ret)))),[.t 8]⟩
theorem i47:iF 47 g47:=jF Tryz.func47
def g48:GFun:=⟨⟨12,[2,3]⟩,(s [a 2 2 0,a 3 1 1,x 4 (.mov (.k (.val (.slice none 0 0)))),b 5 false] (s [h 6 2 2,h 7 1 3,c 8 77 [.t 6,.t 7],c 9 99 [.t 8],v 10 9 0,v 11 9 1,m 4 10,m 5 11] .ret)),[.t 4,.t 5]⟩
theorem i48:iF 48 g48:=jF Tryz.func48
def g49:GFun:=⟨⟨43,[5,6,7,11]⟩,(s [a 5 2 0,a 6 1 1,a 7 2 2,k 10 0] (s [h 14 2 5,h 15 1 6,h 16 2 7,c 17 100 [.t 14,.t 15,.t 16],m 13 17,v 18 13 0,v 19 13 1,u 11 8,t 11 8 18,m 12 19] (.seq (s [m 20 12,w 21 20] (.cond 21
 (s [k 10 0] .ret) .skip)) (s [e 22 1 7 11,f 26 0 11,m 28 3,m 29 4,f 31 0 6,f 33 0 11,f 39 0 11,h 23 7 22,h 24 2 5,h 25 1 6,l 27 26,x 30 (.call true 85 [.t 24,.t 25,.t 27,.t 28,.t 29]),l 32 31,l 34 33,i 35 6 32 34,f 36 3 35,l 37 36,
 h 38 1 6,l 40 39,x 41 (.call true 36 [.t 38,.t 40]),x 42 (.call true 101 [.t 23,.t 30,.t 37,.t 41]),m 10 42] .ret)))),[.t 10]⟩
theorem i49:iF 49 g49:=jF Tryz.func49
def g50:GFun:=⟨⟨27,[3,4,5,7]⟩,(s [a 3 2 0,a 4 1 1,a 5 1 2,b 6 false] (s [h 8 2 3,h 9 1 4,c 10 46 [.t 8,.t 9],u 7 1,t 7 1 10] (s [l 11 7,n 12 11,q 13 .gtr 12 0,m 14 13,y 15 14 (r 1 5),y 16 14 (.len (.t 15)),y 17 14 (r 1 7),y 18 14
 (.len (.t 17)),y 19 14 (.bin .eql (.t 16) (.t 18)),x 20 (.pick (.t 14) (.t 19) (.k (.val (.bool false)))),m 21 20,y 22 21 (r 1 7),y 23 21 (.mkfn 103 [.t 5,.t 7,.t 3,.t 4]),y 24 21 (.call false 102 [.t 22,.t 23]),y 25 21 (.not (.t 24)),
 x 26 (.pick (.t 21) (.t 25) (.k (.val (.bool false)))),m 6 26] .ret))),[.t 6]⟩
theorem i50:iF 50 g50:=jF Tryz.func50
def g51:GFun:=⟨⟨154,[4,1000012,3000020]⟩,(s [u 4 2] (s [x 16 (.build [(.val (.slice none 0 0)),(.val (.slice none 0 0))] []),x 5 (.alloc 2 (.agg [(.val (.slice none 0 0)),(.val (.slice none 0 0))])),(.mk none none (.store 2 (.t 5)
 (.t 16)))] (s [m 17 0,c 18 42 [.t 17,(.k (.val (.int .i64 3)))],x 19 (.bin .add (.k (.val (.int .i64 1))) (.t 18)),m 6 19] (s [x 20 (.bslro 1 [] 3 false [(0,(.k (.val (.string (ByteArray.mk #[115]))))),(1,(.k (.val (.string
 (ByteArray.mk #[116]))))),(2,(.k (.val (.string (ByteArray.mk #[117])))))]),m 21 6,x 22 (.slc 1 (.t 20) none (some (.t 21))),m 7 22] (.seq (s [k 8 0] (B 0 (.seq (s [m 23 8,m 24 6,o 25 .lss 23 24] (.cond 25 .skip (.exit 0))) (.seq
 (.block 1 (.reg [f 28 0 5,m 30 0,m 31 7,m 32 8,i 33 1 31 32,m 35 8,q 36 .eql 35 0,m 37 1,l 29 28,l 34 33,x 38 (.calla 104 [.t 30,.t 34,.t 36,.t 37]),x 39 (.bslice 2 [] 1 true [(0,(.t 38))]),x 40 (.append 2 40 (.t 29) (.t 39)),f 41 0 5,
 (.mk none none (.store 1 (.t 41) (.t 40)))])) (.reg [m 26 8,q 27 .add 26 1,m 8 27]))))) (.seq (s [k 9 0] (B 2 (.seq (s [m 42 9,m 43 6,o 44 .lss 42 43] (.cond 44 .skip (.exit 2))) (.seq (.block 3 (s [f 47 1 5,m 49 7,m 50 9,i 51 1 49 50,
 m 54 7,m 55 9,i 56 1 54 55,m 58 0,l 48 47,l 52 51,x 53 (.bin .add (.k (.val (.string (ByteArray.mk #[108,101,97,102])))) (.t 52)),l 57 56,x 59 (.calla 41 [.t 58,(.k (.val (.int .i64 3)))]),w 60 59,x 61 (.build [(.val (.string
 (ByteArray.mk #[]))),(.val (.string (ByteArray.mk #[]))),(.val (.slice none 0 0)),(.val (.bool false)),(.val (.slice none 0 0)),(.val (.slice none 0 0))] [(0,(1,(.t 53))),(1,(1,(.t 57))),(3,(1,(.t 60)))]),x 62 (.bslice 6 [] 1 true [(0,
 (.t 61))]),x 63 (.append 6 112 (.t 48) (.t 62)),f 64 1 5,(.mk none none (.store 1 (.t 64) (.t 63)))] (s [m 65 0,c 66 42 [.t 65,(.k (.val (.int .i64 2)))],x 67 (.bin .add (.k (.val (.int .i64 1))) (.t 66)),m 10 67] (s [k 11 0] (B 4 (.seq
 (s [m 68 11,m 69 10,o 70 .lss 68 69] (.cond 70 .skip (.exit 4))) (.seq (.block 5 (s [m 73 7,m 74 9,i 75 1 73 74,m 78 11,m 81 7,m 82 9,i 83 1 81 82,m 85 0,u 12 6,l 76 75,x 77 (.bin .add (.k (.val (.string (ByteArray.mk #[112])))) (.t 76)),
 x 79 (.call true 105 [.t 78]),o 80 .add 77 79,l 84 83,x 86 (.calla 41 [.t 85,(.k (.val (.int .i64 4)))]),x 87 (.build [(.val (.string (ByteArray.mk #[]))),(.val (.string (ByteArray.mk #[]))),(.val (.slice none 0 0)),(.val (.bool false)),
 (.val (.slice none 0 0)),(.val (.slice none 0 0))] [(0,(1,(.t 80))),(1,(1,(.t 84))),(3,(1,(.t 86)))]),x 12 (.strb 6 12 (.t 87))] (s [m 88 0,c 89 42 [.t 88,(.k (.val (.int .i64 3)))],x 90 (.bin .add (.k (.val (.int .i64 1))) (.t 89)),
 m 13 90] (.seq (s [k 14 0] (B 6 (.seq (s [m 91 14,m 92 13,o 93 .lss 91 92] (.cond 93 .skip (.exit 6))) (.seq (.block 7 (.reg [f 96 2 12,m 98 0,m 99 7,l 97 96,x 100 (.calla 106 [.t 98,.t 99]),x 101 (.bslice 1 [] 1 false [(0,(.t 100))]),
 x 102 (.append 1 16 (.t 97) (.t 101)),f 103 2 12,(.mk none none (.store 1 (.t 103) (.t 102)))])) (.reg [m 94 14,q 95 .add 94 1,m 14 95]))))) (.reg [f 104 1 5,l 105 104,h 106 6 12,x 107 (.bslice 6 [] 1 true [(0,(.t 106))]),x 108
 (.append 6 112 (.t 105) (.t 107)),f 109 1 5,(.mk none none (.store 1 (.t 109) (.t 108)))]))))) (.reg [m 71 11,q 72 .add 71 1,m 11 72])))))))) (.reg [m 45 9,q 46 .add 45 1,m 9 46]))))) (.seq (s [f 110 1 5,l 111 110,n 112 111,
 q 113 .gtr 112 8] (.cond 113 (.reg [f 114 1 5,l 115 114,x 116 (.slc 6 (.t 115) none (some (.k (.val (.int .i64 8))))),f 117 1 5,(.mk none none (.store 1 (.t 117) (.t 116)))]) .skip)) (.seq (s [k 15 0] (B 8 (.seq (s [m 118 15,f 119 1 5,
 l 120 119,n 121 120,o 122 .lss 118 121] (.cond 122 .skip (.exit 8))) (.seq (.block 9 (s [f 125 1 5,m 127 15,m 128 0,f 130 1 5,m 132 15,m 135 1,w 136 135,l 126 125,h 129 2 5,l 131 130,i 133 6 131 132,h 134 6 133,x 137 (.calla 107 [.t 128,
 .t 129,.t 134,.t 136]),i 138 6 126 127,(.mk none none (.store 6 (.t 138) (.t 137)))] (s [m 139 1,w 140 139] (.cond 140 (.reg [f 141 1 5,m 143 15,m 144 0,f 146 1 5,m 148 15,l 142 141,h 145 2 5,l 147 146,i 149 6 147 148,h 150 6 149,x 151
 (.calla 108 [.t 144,.t 145,.t 150]),i 152 6 142 143,(.mk none none (.store 6 (.t 152) (.t 151)))]) .skip)))) (.reg [m 123 15,q 124 .add 123 1,m 15 124]))))) (s [h 153 2 5,t 4 2 153] .ret))))))))),[(.c 4 2 true)]⟩
theorem i51:iF 51 g51:=jF Tryz.func51 [(7,2097168),(11,33554448),(16,134217744),(21,528),(28,33554448),(30,2097168)]
def g52:GFun:=⟨⟨53,[3,4,1000005]⟩,(s [a 3 2 1,u 4 1] (s [m 7 0,m 11 0,m 14 0,u 5 1,h 8 2 3,h 9 2 3,x 10 (.call true 70 [.t 9]),x 12 (.calla 42 [.t 11,(.k (.val (.int .i64 12)))]),x 13 (.bin .add (.k (.val (.int .i64 6))) (.t 12)),x 15
 (.calla 42 [.t 14,(.k (.val (.int .i64 3)))]),q 16 .mul 15 10,x 17 (.bin .add (.k (.val (.int .i64 1))) (.t 16)),x 18 (.calla 109 [.t 7,.t 8,.t 10,.t 13,.t 17]),x 5 (.strb 1 5 (.t 18))] (.seq (s [f 19 0 5,l 20 19,n 21 20,q 22 .gtr 21 16]
 (.cond 22 (.reg [m 23 0,h 24 2 3,h 25 2 3,x 26 (.call true 70 [.t 25]),x 27 (.calla 109 [.t 23,.t 24,.t 26,(.k (.val (.int .i64 1))),(.k (.val (.int .i64 1)))]),x 5 (.strb 1 5 (.t 27))]) .skip)) (.seq (s [m 28 0,c 29 41 [.t 28,(.k (.val
 (.int .i64 3)))]] (.cond 29 (s [k 6 0] (B 0 (.seq (s [m 30 6,f 31 0 5,l 32 31,n 33 32,o 34 .lss 30 33] (.cond 34 .skip (.exit 0))) (.seq (.block 1 (.reg [f 37 0 5,m 39 6,f 40 0 5,m 42 6,l 38 37,l 41 40,i 43 6 41 42,f 44 0 43,l 45 44,
 q 46 .mul 45 7,q 47 .add 46 3,q 48 .rem 47 97,q 49 .add 48 1,i 50 6 38 39,f 51 0 50,(.mk none none (.store 1 (.t 51) (.t 49)))])) (.reg [m 35 6,q 36 .add 35 1,m 6 36]))))) .skip)) (s [h 52 1 5,t 4 1 52] .ret))))),[(.c 4 1 true)]⟩
theorem i52:iF 52 g52:=jF Tryz.func52 [(1,8521744),(3,528)]
def g54:GFun:=⟨⟨97,[3,4,3000028,3000038,3000058,4074005,5065005]⟩,(s [a 3 2 1,u 4 1] (s [m 7 0,h 8 2 3,c 9 52 [.t 7,.t 8],x 5 (.alloc 1 (.agg [(.val (.slice none 0 0))])),(.mk none none (.store 1 (.t 5) (.t 9)))] (s [m 10 0,f 11 0 5,
 l 12 11,n 13 12,c 14 42 [.t 10,.t 13],m 6 14] (.seq (s [m 15 0,c 16 42 [.t 15,(.k (.val (.int .i64 14)))]] (.block 0 (s [q 18 .eql 16 0,m 17 18] (.cond 17 (.reg [f 19 0 5,m 21 6,m 22 0,f 23 0 5,l 20 19,l 24 23,x 25 (.iaddr 6 (.t 24) (.k
 (.val (.int .i64 0)))),f 26 0 25,l 27 26,x 28 (.bslro 1 [] 4 false [(0,(.k (.val (.int .i64 0)))),(1,(.k (.val (.int .i64 1)))),(2,(.k (.val (.int .i64 1000)))),(3,(.t 27))]),x 29 (.calla 110 [.t 22,.t 28]),i 30 6 20 21,f 31 0 30,
 (.mk none none (.store 1 (.t 31) (.t 29)))]) (s [q 33 .eql 16 1,m 32 33] (.cond 32 (.reg [f 34 0 5,m 36 6,m 37 0,x 38 (.bslro 1 [] 2 false [(0,(.k (.val (.int .i64 1000001)))),(1,(.k (.val (.int .i64 5))))]),l 35 34,x 39
 (.calla 110 [.t 37,.t 38]),i 40 6 35 36,f 41 3 40,(.mk none none (.store 1 (.t 41) (.t 39)))]) (s [q 43 .eql 16 2,m 42 43] (.cond 42 (.reg [f 44 0 5,m 46 6,m 47 0,l 45 44,x 48 (.calla 42 [.t 47,(.k (.val (.int .i64 5)))]),q 49 .sub 48 1,
 i 50 6 45 46,f 51 1 50,(.mk none none (.store 1 (.t 51) (.t 49)))]) (s [q 53 .eql 16 3,m 52 53] (.cond 52 (.reg [f 54 0 5,m 56 6,m 57 0,x 58 (.bslro 1 [] 4 false [(0,(.k (.val (.string (ByteArray.mk #[108,101,97,102,115]))))),(1,(.k
 (.val (.string (ByteArray.mk #[112,115,48]))))),(2,(.k (.val (.string (ByteArray.mk #[108,101,97,102,116]))))),(3,(.k (.val (.string (ByteArray.mk #[122,122])))))]),l 55 54,x 59 (.calla 106 [.t 57,.t 58]),i 60 6 55 56,f 61 4 60,
 (.mk none none (.store 1 (.t 61) (.t 59)))]) (s [q 63 .eql 16 4,m 62 63] (.cond 62 (.reg [f 64 0 5,m 66 6,f 67 0 5,m 69 6,x 65 (.ldx 1 false 64 5),l 68 67,i 70 6 68 69,f 71 5 70,l 72 71,x 73 (.bslice 1 [] 1 false [(0,(.k (.val
 (.int .i64 1))))]),x 74 (.appx [5] 1 8 (.t 72) (.t 73)),i 75 6 65 66,f 76 5 75,(.mk none none (.store 1 (.t 76) (.t 74)))]) (s [q 78 .eql 16 5,m 77 78] (.cond 77 (.reg [f 79 0 5,f 81 0 5,m 83 6,l 80 79,l 82 81,i 84 6 82 83,h 85 6 84,x 86
 (.bslice 6 [] 1 true [(0,(.t 85))]),x 87 (.append 6 72 (.t 80) (.t 86)),f 88 0 5,(.mk none none (.store 1 (.t 88) (.t 87)))]) (s [q 90 .eql 16 6,m 89 90] (.cond 89 (.reg [f 91 0 5,l 92 91,m 93 6,i 94 6 92 93,f 95 2 94,(.mk none none
 (.store 1 (.t 95) (.k (.val (.int .i64 1)))))]) .skip)))))))))))))))) (s [h 96 1 5,t 4 1 96] .ret))))),[(.c 4 1 true)]⟩
theorem i54:iF 54 g54:=jF Tryz.func54 [(5,2097168),(7,2064),(9,528),(11,2064)]
def g55:GFun:=⟨⟨12,[1]⟩,(s [a 1 2 0,b 2 false] (s [h 6 2 1,c 7 111 [.t 6],m 5 7,v 8 5 0,v 9 5 1,m 3 8,m 4 9] (s [m 10 3,q 11 .eql 10 0,m 2 11] .ret))),[.t 2]⟩
theorem i55:iF 55 g55:=jF Tryz.func55
def g57:GFun:=⟨⟨15,[]⟩,(s [b 6 false] (s [m 7 0,m 8 1,o 9 .geq 7 8,m 10 9,y 11 10 (.mov (.t 0)),y 12 10 (.mov (.t 2)),y 13 10 (.bin .leq (.t 11) (.t 12)),x 14 (.pick (.t 10) (.t 13) (.k (.val (.bool false)))),m 6 14] .ret)),[.t 6]⟩
theorem i57:iF 57 g57:=jF Tryz.func57
def g59:GFun:=⟨⟨9,[2,3]⟩,(s [a 2 1 0,a 3 1 1,k 4 0] (s [f 5 0 2,l 6 5,x 7 (.mkfn 114 [.t 3]),c 8 113 [.t 6,.t 7],m 4 8] .ret)),[.t 4]⟩
theorem i59:iF 59 g59:=jF Tryz.func59
def g62:GFun:=⟨⟨22,[2,4,7]⟩,(s [a 2 2 0,u 4 6,b 5 false] (.seq (s [f 8 1 2,l 9 8,n 10 9,k 11 0] (B 0 (s [o 12 .lss 11 10] (C 12 0 (.seq (.block 1 (s [i 13 6 9 11,h 14 6 13,u 7 6,t 7 6 14] (s [f 15 0 7,l 16 15,m 17 1,o 18 .eql 16 17]
 (.cond 18 (s [h 19 6 7,t 4 6 19,b 5 true] .ret) .skip)))) (.reg [q 20 .add 11 1,m 11 20])))))) (s [x 21 (.build [(.val (.string (ByteArray.mk #[]))),(.val (.string (ByteArray.mk #[]))),(.val (.slice none 0 0)),(.val (.bool false)),(.val
 (.slice none 0 0)),(.val (.slice none 0 0))] []),t 4 6 21,b 5 false] .ret))),[(.c 4 6 true),.t 5]⟩
theorem i62:iF 62 g62:=jF Tryz.func62
def g63:GFun:=⟨⟨12,[1]⟩,(s [a 1 2 0,b 2 false] (s [h 6 2 1,c 7 118 [.t 6],m 5 7,v 8 5 0,v 9 5 1,m 3 8,m 4 9] (s [m 10 3,q 11 .eql 10 0,m 2 11] .ret))),[.t 2]⟩
theorem i63:iF 63 g63:=jF Tryz.func63
def g64:GFun:=⟨⟨15,[]⟩,(s [b 6 false] (s [m 7 0,m 8 1,o 9 .geq 7 8,m 10 9,y 11 10 (.mov (.t 0)),y 12 10 (.mov (.t 2)),y 13 10 (.bin .leq (.t 11) (.t 12)),x 14 (.pick (.t 10) (.t 13) (.k (.val (.bool false)))),m 6 14] .ret)),[.t 6]⟩
theorem i64:iF 64 g64:=jF Tryz.func64
def g70:GFun:=⟨⟨12,[1]⟩,(s [a 1 2 0,x 2 (.mov (.k (.val (.string (ByteArray.mk #[])))))] (.seq (s [f 3 0 1,l 4 3,n 5 4,q 6 .eql 5 0] (.cond 6 (s [x 2 (.mov (.k (.val (.string (ByteArray.mk #[])))))] .ret) .skip)) (s [f 7 0 1,l 8 7,x 9
 (.iaddr 2 (.t 8) (.k (.val (.int .i64 0)))),f 10 0 9,l 11 10,m 2 11] .ret))),[.t 2]⟩
theorem i70:iF 70 g70:=jF Tryz.func70
def g72:GFun:=⟨⟨29,[2,4]⟩,(s [a 2 2 0,u 4 2,b 5 false] (.seq (s [k 6 0] (B 0 (.seq (s [m 7 6,f 8 0 2,l 9 8,n 10 9,o 11 .lss 7 10] (.cond 11 .skip (.exit 0))) (.seq (.block 1 (s [f 14 0 2,l 15 14,m 16 6,i 17 2 15 16,f 18 0 17,l 19 18,
 m 20 1,o 21 .eql 19 20] (.cond 21 (s [f 22 0 2,l 23 22,m 24 6,i 25 2 23 24,h 26 2 25,c 27 124 [.t 26],t 4 2 27,b 5 true] .ret) .skip))) (.reg [m 12 6,q 13 .add 12 1,m 6 13]))))) (s [x 28 (.build [(.val (.string (ByteArray.mk #[]))),(.val
 (.slice none 0 0))] []),t 4 2 28,b 5 false] .ret))),[(.c 4 2 true),.t 5]⟩
theorem i72:iF 72 g72:=jF Tryz.func72
def g73:GFun:=⟨⟨18,[1]⟩,(s [a 1 6 0,b 2 false] (.seq (s [k 3 0] (B 0 (.seq (s [m 4 3,f 5 4 1,l 6 5,n 7 6,o 8 .lss 4 7] (.cond 8 .skip (.exit 0))) (.seq (.block 1 (s [f 11 4 1,l 12 11,m 13 3,i 14 9 12 13,e 15 2 7 14,h 16 7 15,
 c 17 125 [.t 16]] (.cond 17 (s [b 2 true] .ret) .skip))) (.reg [m 9 3,q 10 .add 9 1,m 3 10]))))) (s [b 2 false] .ret))),[.t 2]⟩
theorem i73:iF 73 g73:=jF Tryz.func73
def g74:GFun:=⟨⟨43,[1]⟩,(s [a 1 1 0,b 2 false] (s [x 5 (.bslice 1 [] 0 false []),m 3 5] (.seq (s [k 4 0] (B 0 (.seq (s [m 6 4,f 7 0 1,l 8 7,n 9 8,o 10 .lss 6 9] (.cond 10 .skip (.exit 0))) (.seq (.block 1 (.seq (s [f 13 0 1,l 14 13,
 m 15 4,i 16 6 14 15,f 17 0 16,l 18 17,c 19 64 [.t 18,(.k (.val (.int .i64 1))),(.k (.val (.int .i64 999)))],w 20 19,m 21 20,z 22 21 (.mov (.t 3)),z 23 21 (p 1 0 1),z 24 21 (r 1 23),z 25 21 (.mov (.t 4)),z 26 21 (.iaddr 6 (.t 24) (.t 25)),
 z 27 21 (p 1 0 26),z 28 21 (r 1 27),z 29 21 (.call false 126 [.t 22,.t 28]),x 30 (.pick (.t 21) (.k (.val (.bool true))) (.t 29))] (.cond 30 (s [b 2 false] .ret) .skip)) (.reg [m 31 3,f 32 0 1,l 33 32,m 34 4,i 35 6 33 34,f 36 0 35,l 37 36,
 x 38 (.bslice 1 [] 1 false [(0,(.t 37))]),x 39 (.append 1 8 (.t 31) (.t 38)),m 3 39]))) (.reg [m 11 4,q 12 .add 11 1,m 4 12]))))) (s [m 40 3,n 41 40,c 42 64 [.t 41,(.k (.val (.int .i64 1))),(.k (.val (.int .i64 16)))],m 2 42] .ret)))),
 [.t 2]⟩
theorem i74:iF 74 g74:=jF Tryz.func74
def g75:GFun:=⟨⟨109,[6,7,13,14]⟩,(s [a 6 2 0,a 7 1 1,k 12 0] (.seq (s [m 18 2,f 19 0 7,l 20 19,n 21 20,o 22 .geq 18 21] (.cond 22 (s [k 12 (-1)] .ret) .skip)) (s [f 23 0 7,l 24 23,m 25 2,i 26 6 24 25,h 27 6 26,u 13 6,t 13 6 27]
 (s [h 29 2 6,f 30 4 13,l 31 30,c 32 76 [.t 29,.t 31],m 28 32,v 33 28 0,v 34 28 1,u 14 6,t 14 6 33,m 15 34] (.seq (s [m 35 15,w 36 35,m 37 36,z 38 37 (p 1 1 14),z 39 37 (r 1 38),z 40 37 (.mov (.t 5)),z 41 37 (.bin .neq (.t 39) (.t 40)),
 x 42 (.pick (.t 37) (.k (.val (.bool true))) (.t 41)),m 43 42,z 44 43 (p 1 1 13),z 45 43 (r 1 44),z 46 43 (.mov (.t 3)),z 47 43 (.bin .neq (.t 45) (.t 46)),x 48 (.pick (.t 43) (.k (.val (.bool true))) (.t 47)),m 49 48,z 50 49 (p 1 2 13),
 z 51 49 (r 1 50),z 52 49 (.mov (.t 4)),z 53 49 (.bin .neq (.t 51) (.t 52)),x 54 (.pick (.t 49) (.k (.val (.bool true))) (.t 53)),m 55 54,z 56 55 (p 1 5 13),z 57 55 (r 1 56),z 58 55 (.len (.t 57)),z 59 55 (p 1 2 14),z 60 55 (r 1 59),
 z 61 55 (.len (.t 60)),z 62 55 (.bin .neq (.t 58) (.t 61)),x 63 (.pick (.t 55) (.k (.val (.bool true))) (.t 62))] (.cond 63 (s [k 12 (-1)] .ret) .skip)) (.seq (s [f 64 3 13,l 65 64,c 66 33 [.t 65,(.k (.val (.int .i64 1)))],w 67 66,m 68 67,
 z 69 68 (p 1 3 14),z 70 68 (r 1 69),z 71 68 (.not (.t 70)),z 72 68 (.mov (.t 71)),y 73 72 (p 1 3 13),y 74 72 (r 1 73),y 75 72 (.bin .neq (.t 74) (.k (.val (.int .i64 0)))),z 76 68 (.pick (.t 72) (.t 75) (.k (.val (.bool false)))),x 77
 (.pick (.t 68) (.k (.val (.bool true))) (.t 76))] (.cond 77 (s [k 12 (-1)] .ret) .skip)) (s [m 78 2,q 79 .add 78 1,m 16 79] (.seq (s [k 17 0] (B 0 (.seq (s [m 80 17,f 81 2 14,l 82 81,n 83 82,o 84 .lss 80 83] (.cond 84 .skip (.exit 0)))
 (.seq (.block 1 (.seq (s [f 87 5 13,l 88 87,m 89 17,i 90 1 88 89,l 91 90,m 92 16,o 93 .neq 91 92] (.cond 93 (s [k 12 (-1)] .ret) .skip)) (s [m 96 16,m 97 2,m 98 17,q 99 .add 98 1,f 100 2 14,m 102 17,h 94 2 6,h 95 1 7,l 101 100,
 i 103 1 101 102,l 104 103,x 105 (.call true 75 [.t 94,.t 95,.t 96,.t 97,.t 99,.t 104]),m 16 105] (s [m 106 16,q 107 .lss 106 0] (.cond 107 (s [k 12 (-1)] .ret) .skip))))) (.reg [m 85 17,q 86 .add 85 1,m 17 86]))))) (s [m 108 16,
 m 12 108] .ret))))))))),[.t 12]⟩
theorem i75:iF 75 g75:=jF Tryz.func75
def g76:GFun:=⟨⟨29,[2,4]⟩,(s [a 2 2 0,u 4 6,b 5 false] (.seq (s [k 6 0] (B 0 (.seq (s [m 7 6,f 8 1 2,l 9 8,n 10 9,o 11 .lss 7 10] (.cond 11 .skip (.exit 0))) (.seq (.block 1 (s [f 14 1 2,l 15 14,m 16 6,i 17 6 15 16,f 18 0 17,l 19 18,
 m 20 1,o 21 .eql 19 20] (.cond 21 (s [f 22 1 2,l 23 22,m 24 6,i 25 6 23 24,h 26 6 25,c 27 127 [.t 26],t 4 6 27,b 5 true] .ret) .skip))) (.reg [m 12 6,q 13 .add 12 1,m 6 13]))))) (s [x 28 (.build [(.val (.string (ByteArray.mk #[]))),(.val
 (.string (ByteArray.mk #[]))),(.val (.slice none 0 0)),(.val (.bool false)),(.val (.slice none 0 0)),(.val (.slice none 0 0))] []),t 4 6 28,b 5 false] .ret))),[(.c 4 6 true),.t 5]⟩
theorem i76:iF 76 g76:=jF Tryz.func76
def g77:GFun:=⟨⟨49,[2,3]⟩,(s [a 2 2 0,a 3 1 1,x 4 (.mov (.k (.val (.slice none 0 0))))] (s [h 11 2 2,h 12 1 3,c 13 27 [.t 11,.t 12],m 5 13] (s [x 14 (.bslice 1 [] 0 false []),m 6 14] (.seq (s [k 7 0] (B 0 (.seq (s [m 15 7,m 16 5,
 n 17 16,o 18 .lss 15 17] (.cond 18 .skip (.exit 0))) (.seq (.block 1 (s [m 23 5,m 24 7,i 25 2 23 24,h 21 2 2,h 22 1 3,h 26 2 25,x 27 (.call true 128 [.t 21,.t 22,.t 26]),m 8 27] (s [x 28 (.bslice 1 [] 0 false []),m 9 28] (.seq
 (s [k 10 0] (B 2 (.seq (s [m 29 10,m 30 8,n 31 30,o 32 .lss 29 31] (.cond 32 .skip (.exit 2))) (.seq (.block 3 (.reg [m 35 9,m 36 5,m 37 8,m 38 10,i 39 2 37 38,h 40 2 39,c 41 38 [.t 36,.t 40],x 42 (.bslice 1 [] 1 false [(0,(.t 41))]),
 x 43 (.append 1 8 (.t 35) (.t 42)),m 9 43])) (.reg [m 33 10,q 34 .add 33 1,m 10 34]))))) (.reg [m 44 6,m 45 9,x 46 (.bslice 1 [] 1 false [(0,(.t 45))]),x 47 (.append 1 24 (.t 44) (.t 46)),m 6 47]))))) (.reg [m 19 7,q 20 .add 19 1,
 m 7 20]))))) (s [m 48 6,m 4 48] .ret))))),[.t 4]⟩
theorem i77:iF 77 g77:=jF Tryz.func77
def g79:GFun:=⟨⟨28,[2,4]⟩,(s [a 2 2 0,u 4 4,b 5 false] (.seq (s [k 6 0] (B 0 (.seq (s [m 7 6,f 8 1 2,l 9 8,n 10 9,o 11 .lss 7 10] (.cond 11 .skip (.exit 0))) (.seq (.block 1 (s [f 14 1 2,l 15 14,m 16 6,i 17 4 15 16,f 18 0 17,l 19 18,
 m 20 1,o 21 .eql 19 20] (.cond 21 (s [f 22 1 2,l 23 22,m 24 6,i 25 4 23 24,h 26 4 25,t 4 4 26,b 5 true] .ret) .skip))) (.reg [m 12 6,q 13 .add 12 1,m 6 13]))))) (s [x 27 (.build [(.val (.string (ByteArray.mk #[]))),(.val (.int .i64 0)),
 (.val (.int .i64 0)),(.val (.bool false))] []),t 4 4 27,b 5 false] .ret))),[(.c 4 4 true),.t 5]⟩
theorem i79:iF 79 g79:=jF Tryz.func79
def g80:GFun:=⟨⟨24,[]⟩,(s [k 4 0] (.seq (s [m 5 1] (.block 0 (s [q 7 .eql 5 1,m 6 7] (.cond 6 (s [m 8 0,c 9 130 [.t 8],m 4 9] .ret) (s [q 11 .eql 5 2,m 10 11] (.cond 10 (s [m 12 0,q 13 .and 12 4095,m 4 13] .ret) (s [q 15 .eql 5 3,
 m 14 15] (.cond 14 (s [m 16 0,q 17 .neq 16 0,c 18 131 [.t 17],m 4 18] .ret) (s [q 20 .eql 5 4,m 19 20] (.cond 19 (s [m 21 0,c 22 64 [.t 21,(.k (.val (.int .i64 0))),(.k (.val (.int .i64 999)))]] (.cond 22 (s [m 23 0,
 m 4 23] .ret) .skip)) .skip)))))))))) (s [k 4 0] .ret))),[.t 4]⟩
theorem i80:iF 80 g80:=jF Tryz.func80
def g81:GFun:=⟨⟨11,[2]⟩,(s [a 2 1 0,b 4 false] (s [m 5 1,f 6 0 2,l 7 6,n 8 7,q 9 .sub 8 1,c 10 57 [.t 5,(.k (.val (.int .i64 0))),.t 9],m 4 10] .ret)),[.t 4]⟩
theorem i81:iF 81 g81:=jF Tryz.func81
def g82:GFun:=⟨⟨22,[2,4,7]⟩,(s [a 2 2 0,u 4 2,b 5 false] (.seq (s [f 8 0 2,l 9 8,n 10 9,k 11 0] (B 0 (s [o 12 .lss 11 10] (C 12 0 (.seq (.block 1 (s [i 13 2 9 11,h 14 2 13,u 7 2,t 7 2 14] (s [f 15 0 7,l 16 15,m 17 1,o 18 .eql 16 17]
 (.cond 18 (s [h 19 2 7,t 4 2 19,b 5 true] .ret) .skip)))) (.reg [q 20 .add 11 1,m 11 20])))))) (s [x 21 (.build [(.val (.string (ByteArray.mk #[]))),(.val (.slice none 0 0))] []),t 4 2 21,b 5 false] .ret))),[(.c 4 2 true),.t 5]⟩
theorem i82:iF 82 g82:=jF Tryz.func82
def g83:GFun:=⟨⟨26,[3,4,7]⟩,(s [a 3 2 0,a 4 1 1,x 6 (.mov (.k (.val (.string (ByteArray.mk #[])))))] (.seq (s [h 9 1 4,m 10 2,c 11 81 [.t 9,.t 10],w 12 11] (.cond 12 (s [x 6 (.mov (.k (.val (.string
 (ByteArray.mk #[])))))] .ret) .skip)) (s [f 15 0 4,m 17 2,u 7 6,h 14 2 3,l 16 15,i 18 6 16 17,f 19 4 18,l 20 19,x 21 (.call true 62 [.t 14,.t 20]),m 13 21,v 22 13 0,v 23 13 1,t 7 6 22,m 8 23] (s [f 24 1 7,l 25 24,m 6 25] .ret)))),[.t 6]⟩
theorem i83:iF 83 g83:=jF Tryz.func83
def g84:GFun:=⟨⟨8,[3]⟩,(s [a 3 2 1,k 4 0] (s [m 5 0,h 6 2 3,c 7 132 [.t 5,.t 6],m 4 7] .ret)),[.t 4]⟩
theorem i84:iF 84 g84:=jF Tryz.func84
def g85:GFun:=⟨⟨91,[5,6,14]⟩,(s [a 5 2 0,a 6 1 1,x 10 (.mov (.k (.val (.slice none 0 0))))] (s [x 18 (.bslice 3 [] 0 true []),m 11 18] (.seq (s [k 12 0] (B 0 (.seq (s [m 19 12,f 20 0 6,l 21 20,m 22 2,i 23 6 21 22,f 24 5 23,l 25 24,
 n 26 25,o 27 .leq 19 26] (.cond 27 .skip (.exit 0))) (.seq (.block 1 (s [m 30 2,m 13 30] (.seq (s [m 31 12,q 32 .gtr 31 0] (.cond 32 (.reg [f 33 0 6,l 34 33,m 35 2,i 36 6 34 35,f 37 5 36,l 38 37,m 39 12,q 40 .sub 39 1,i 41 1 38 40,l 42 41,
 m 13 42]) .skip)) (s [m 47 13,u 14 2,h 44 2 5,h 45 2 5,h 46 1 6,x 48 (.call true 30 [.t 45,.t 46,.t 47]),x 49 (.call true 72 [.t 44,.t 48]),m 43 49,v 50 43 0,v 51 43 1,t 14 2 50,m 15 51] (s [k 16 0] (B 2 (.seq (s [m 52 16,f 53 1 14,
 l 54 53,n 55 54,o 56 .lss 52 55] (.cond 56 .skip (.exit 2))) (.seq (.block 3 (s [m 59 3,f 60 0 6,m 62 13,f 66 1 14,m 68 16,l 61 60,i 63 6 61 62,f 64 0 63,l 65 64,l 67 66,i 69 4 67 68,f 70 0 69,l 71 70,x 72 (.build [(.val (.int .i64 0)),
 (.val (.string (ByteArray.mk #[])))] [(0,(1,(.t 65))),(1,(1,(.t 71)))]),x 73 (.call true 38 [.t 59,.t 72]),m 17 73] (.reg [m 74 11,m 75 12,f 76 1 14,m 78 16,m 83 4,m 84 17,i 85 1 83 84,l 77 76,i 79 4 77 78,f 80 0 79,l 81 80,x 82
 (.build [(.val (.int .i64 0)),(.val (.string (ByteArray.mk #[])))] [(0,(1,(.t 75))),(1,(1,(.t 81)))]),l 86 85,x 87 (.build [(.val (.int .i64 0)),(.val (.string (ByteArray.mk #[]))),(.val (.int .i64 0))] [(0,(2,(.t 82))),(2,(1,(.t 86)))]),
 x 88 (.bslice 3 [] 1 true [(0,(.t 87))]),x 89 (.append 3 32 (.t 74) (.t 88)),m 11 89]))) (.reg [m 57 16,q 58 .add 57 1,m 16 58]))))))))) (.reg [m 28 12,q 29 .add 28 1,m 12 29]))))) (s [m 90 11,m 10 90] .ret)))),[.t 10]⟩
theorem i85:iF 85 g85:=jF Tryz.func85
def g86:GFun:=⟨⟨58,[]⟩,(s [k 2 0] (s [m 4 0,m 5 0,x 6 (.nck (.t 5)),f 7 2 6,l 8 7,q 9 .mul 8 6364136223846793005,q 10 .add 9 1442695040888963407,x 11 (.nck (.t 4)),f 12 2 11,(.mk none none (.store 1 (.t 12) (.t 10)))] (s [m 13 0,x 14
 (.nck (.t 13)),f 15 2 14,m 18 0,x 19 (.nck (.t 18)),f 20 2 19,l 16 15,x 17 (.bin .shr (.t 16) (.k (.val (.int .u64 33)))),l 21 20,x 22 (.bin .shr (.t 21) (.k (.val (.int .u64 45)))),o 23 .xor 17 22,q 24 .and 23 255,m 3 24] (.seq
 (s [m 25 0,x 26 (.nck (.t 25)),f 27 1 26,m 29 0,x 30 (.nck (.t 29)),f 31 0 30,l 28 27,l 32 31,n 33 32,o 34 .lss 28 33] (.cond 34 (s [m 35 3,m 36 0,x 37 (.nck (.t 36)),f 38 0 37,m 40 0,x 41 (.nck (.t 40)),f 42 1 41,l 39 38,l 43 42,
 i 44 1 39 43,l 45 44,x 46 (.conv .i64 (.t 45)),o 47 .add 35 46,q 48 .and 47 255,m 3 48] (.reg [m 49 0,m 50 0,x 51 (.nck (.t 50)),f 52 1 51,l 53 52,q 54 .add 53 1,x 55 (.nck (.t 49)),f 56 1 55,(.mk none none (.store 1 (.t 56)
 (.t 54)))])) .skip)) (s [m 57 3,m 2 57] .ret))))),[.t 2]⟩
theorem i86:iF 86 g86:=jF Tryz.func86
def g87:GFun:=⟨⟨22,[1]⟩,(s [a 1 1 0,x 2 (.mov (.k (.val (.slice none 0 0))))] (s [x 6 (.bslice 1 [] 0 false []),m 3 6] (.seq (s [l 7 1,n 8 7,k 9 0] (B 0 (s [o 10 .lss 9 8] (C 10 0 (.seq (.block 1 (s [i 11 1 7 9,l 12 11,m 5 12]
 (.reg [m 13 3,m 14 5,c 15 112 [.t 14],x 16 (.mkfn 134 [.t 1]),c 17 133 [.t 15,.t 16],x 18 (.bslice 1 [] 1 false [(0,(.t 17))]),x 19 (.append 1 24 (.t 13) (.t 18)),m 3 19]))) (.reg [q 20 .add 9 1,m 9 20])))))) (s [m 21 3,m 2 21] .ret)))),
 [.t 2]⟩
theorem i87:iF 87 g87:=jF Tryz.func87
def g88:GFun:=⟨⟨45,[2,3,8,11]⟩,(s [a 2 2 0,a 3 1 1,x 4 (.mov (.k (.val (.slice none 0 0))))] (s [h 12 2 2,h 13 1 3,c 14 46 [.t 12,.t 13],x 15 (.bslice 1 [] 0 false []),m 5 14,m 6 15] (.seq (s [m 16 5,n 17 16,k 18 0] (B 0
 (s [o 19 .lss 18 17] (C 19 0 (.seq (.block 1 (s [i 20 2 16 18,h 21 2 20,u 8 2,t 8 2 21] (s [x 22 (.bslice 1 [] 0 false []),m 9 22] (.seq (s [h 23 2 2,h 24 1 3,h 25 2 8,c 26 135 [.t 23,.t 24,.t 25],n 27 26,k 28 0] (B 2
 (s [o 29 .lss 28 27] (C 29 2 (.seq (.block 3 (s [i 30 2 26 28,h 31 2 30,u 11 2,t 11 2 31] (.reg [m 32 9,m 33 5,h 34 2 11,c 35 84 [.t 33,.t 34],x 36 (.bslice 1 [] 1 false [(0,(.t 35))]),x 37 (.append 1 8 (.t 32) (.t 36)),m 9 37])))
 (.reg [q 38 .add 28 1,m 28 38])))))) (.reg [m 39 6,m 40 9,x 41 (.bslice 1 [] 1 false [(0,(.t 40))]),x 42 (.append 1 24 (.t 39) (.t 41)),m 6 42]))))) (.reg [q 43 .add 18 1,m 18 43])))))) (s [m 44 6,m 4 44] .ret)))),[.t 4]⟩
theorem i88:iF 88 g88:=jF Tryz.func88
def g89:GFun:=⟨⟨9,[]⟩,(s [b 4 false] (s [m 5 0,m 6 1,c 7 136 [.t 5,.t 6],q 8 .geq 7 0,m 4 8] .ret)),[.t 4]⟩
theorem i89:iF 89 g89:=jF Tryz.func89
def g90:GFun:=⟨⟨9,[]⟩,(s [b 4 false] (s [m 5 0,m 6 1,c 7 137 [.t 5,.t 6],q 8 .geq 7 0,m 4 8] .ret)),[.t 4]⟩
theorem i90:iF 90 g90:=jF Tryz.func90
def g91:GFun:=⟨⟨8,[]⟩,(s [b 3 false] (s [l 4 1,m 5 0,c 6 89 [.t 4,.t 5],w 7 6,m 3 7] .ret)),[.t 3]⟩
theorem i91:iF 91 g91:=jF Tryz.func91
def g92:GFun:=⟨⟨6,[1]⟩,(s [a 1 2 0,b 2 false] (s [f 3 1 1,l 4 3,x 5 (.call false 138 [.t 4,(.k (.clo 139 []))]),m 2 5] .ret)),[.t 2]⟩
theorem i92:iF 92 g92:=jF Tryz.func92
def g93:GFun:=⟨⟨9,[2,3]⟩,(s [a 2 2 0,a 3 1 1,b 4 false] (s [f 5 0 2,l 6 5,x 7 (.mkfn 144 [.t 3]),c 8 143 [.t 6,.t 7],m 4 8] .ret)),[.t 4]⟩
theorem i93:iF 93 g93:=jF Tryz.func93
def g94:GFun:=⟨⟨6,[1]⟩,(s [a 1 4 0,b 2 false] (s [f 3 2 1,l 4 3,q 5 .eql 4 3,m 2 5] .ret)),[.t 2]⟩
theorem i94:iF 94 g94:=jF Tryz.func94
def g95:GFun:=⟨⟨5,[1]⟩,(s [a 1 4 0,b 2 false] (s [f 3 3 1,l 4 3,m 2 4] .ret)),[.t 2]⟩
theorem i95:iF 95 g95:=jF Tryz.func95
def g96:GFun:=⟨⟨43,[3,4,8]⟩,(s [a 3 2 0,a 4 1 1,b 6 false] (.seq (s [f 9 0 4,l 10 9,n 11 10,c 12 57 [.t 11,(.k (.val (.int .i64 1))),(.k (.val (.int .i64 16)))],w 13 12] (.cond 13 (s [b 6 false] .ret) .skip)) (.seq (s [f 14 0 4,l 15 14,
 n 16 15,k 17 0] (B 0 (s [o 18 .lss 17 16] (C 18 0 (.seq (.block 1 (s [m 19 17,i 20 6 15 17,h 21 6 20,u 8 6,m 7 19,t 8 6 21] (s [f 22 0 8,l 23 22,c 24 57 [.t 23,(.k (.val (.int .i64 1))),(.k (.val (.int .i64 999)))],w 25 24,m 26 25,
 z 27 26 (p 1 0 4),z 28 26 (r 1 27),z 29 26 (.mov (.t 7)),z 30 26 (.slc 6 (.t 28) none (some (.t 29))),z 31 26 (.mkfn 147 [.t 8]),z 32 26 (.call false 146 [.t 30,.t 31]),x 33 (.pick (.t 26) (.k (.val (.bool true))) (.t 32))] (.cond 33
 (s [b 6 false] .ret) .skip)))) (.reg [q 34 .add 17 1,m 17 34])))))) (s [m 37 2,f 39 0 4,h 35 2 3,h 36 1 4,x 38 (.call true 148 [.t 35,.t 36,(.k (.val (.int .i64 0))),(.k (.val (.int .i64 (-1)))),(.k (.val (.int .i64 0))),.t 37]),l 40 39,
 n 41 40,o 42 .eql 38 41,m 6 42] .ret)))),[.t 6]⟩
theorem i96:iF 96 g96:=jF Tryz.func96
def g97:GFun:=⟨⟨81,[3,4,5,6,8,12,14]⟩,(s [a 3 2 0,a 4 1 1,a 5 2 2,u 6 8,b 7 false] (s [h 16 2 3,h 17 1 4,h 18 2 5,c 19 149 [.t 16,.t 17,.t 18],m 15 19,v 20 15 0,v 21 15 1,u 8 4,t 8 4 20,m 9 21] (.seq (s [m 22 9,w 23 22,m 24 23,z 25 24
 (p 1 2 8),z 26 24 (r 1 25),z 27 24 (.bin .eql (.t 26) (.k (.val (.int .i64 3)))),x 28 (.pick (.t 24) (.k (.val (.bool true))) (.t 27))] (.cond 28 (s [x 29 (.build [(.val (.int .i64 0)),(.val (.int .i64 0)),(.val (.int .i64 0)),(.val
 (.int .i64 0)),(.val (.int .i64 0)),(.val (.string (ByteArray.mk #[]))),(.val (.string (ByteArray.mk #[]))),(.val (.slice none 0 0))] []),t 6 8 29,b 7 false] .ret) .skip)) (s [f 31 0 5,f 34 1 5,h 30 1 4,l 32 31,x 33 (.call true 59 [.t 30,
 .t 32]),l 35 34,x 36 (.build [(.val (.int .i64 0)),(.val (.string (ByteArray.mk #[])))] [(1,(1,(.t 35)))]),x 11 (.alloc 2 (.agg [(.val (.int .i64 0)),(.val (.string (ByteArray.mk #[])))])),m 10 33,(.mk none none (.store 2 (.t 11)
 (.t 36)))] (.seq (s [f 37 2 8,l 38 37,q 39 .eql 38 1] (.cond 39 (.reg [f 40 0 4,m 42 10,f 46 0 4,m 48 10,l 41 40,i 43 6 41 42,f 44 1 43,l 45 44,m 10 45,l 47 46,i 49 6 47 48,f 50 2 49,l 51 50,f 52 0 11,(.mk none none (.store 1 (.t 52)
 (.t 51)))]) .skip)) (.seq (s [h 53 1 4,m 54 10,c 55 81 [.t 53,.t 54],w 56 55] (.cond 56 (s [x 57 (.build [(.val (.int .i64 0)),(.val (.int .i64 0)),(.val (.int .i64 0)),(.val (.int .i64 0)),(.val (.int .i64 0)),(.val (.string
 (ByteArray.mk #[]))),(.val (.string (ByteArray.mk #[]))),(.val (.slice none 0 0))] []),t 6 8 57,b 7 false] .ret) .skip)) (s [f 60 0 4,m 62 10,u 12 6,h 59 2 3,l 61 60,i 63 6 61 62,f 64 4 63,l 65 64,x 66 (.call true 62 [.t 59,.t 65]),
 m 58 66,v 67 58 0,v 68 58 1,t 12 6 67,m 13 68] (s [h 70 6 12,h 71 2 11,c 72 150 [.t 70,.t 71],m 69 72,v 73 69 0,v 74 69 1,u 14 7,t 14 7 73,m 9 74] (.seq (s [m 75 9,w 76 75] (.cond 76 (s [x 77 (.build [(.val (.int .i64 0)),(.val
 (.int .i64 0)),(.val (.int .i64 0)),(.val (.int .i64 0)),(.val (.int .i64 0)),(.val (.string (ByteArray.mk #[]))),(.val (.string (ByteArray.mk #[]))),(.val (.slice none 0 0))] []),t 6 8 77,b 7 false] .ret) .skip)) (s [m 78 10,h 79 7 14,
 x 80 (.build [(.val (.int .i64 0)),(.val (.int .i64 0)),(.val (.int .i64 0)),(.val (.int .i64 0)),(.val (.int .i64 0)),(.val (.string (ByteArray.mk #[]))),(.val (.string (ByteArray.mk #[]))),(.val (.slice none 0 0))] [(0,(1,(.t 78))),(1,
 (7,(.t 79)))]),t 6 8 80,b 7 true] .ret)))))))))),[(.c 6 8 true),.t 7]⟩
theorem i97:iF 97 g97:=jF Tryz.func97
def g98:GFun:=⟨⟨18,[4,5]⟩,(s [a 4 7 0,a 5 1 1,k 8 0] (.seq (s [h 9 7 4,c 10 151 [.t 9],w 11 10] (.cond 11 (s [k 8 0] .ret) .skip)) (s [x 12 (.mkfn 152 [.t 5]),m 13 2,m 14 3,x 15 (.build [(.val .nilFunc),(.val .nilFunc),(.val
 (.int .i64 0)),(.val (.slice none 0 0))] [(0,(1,(.t 12))),(1,(1,(.k (.clo 154 [])))),(2,(1,(.t 13))),(3,(1,(.t 14)))]),h 16 7 4,c 17 155 [.t 15,.t 16],m 8 17] .ret))),[.t 8]⟩
theorem i98:iF 98 g98:=jF Tryz.func98
def g99:GFun:=⟨⟨49,[]⟩,(s [x 2 (.mov (.k (.val (.slice none 0 0)))),b 3 false] (s [x 8 (.bslice 1 [] 0 false []),m 4 8] (s [m 9 0,n 10 9,x 11 (.mkslice 1 1 (.val (.bool false)) (.t 10) (.t 10)),m 5 11] (.seq (B 0 (.seq (s [m 12 4,
 n 13 12,m 14 0,n 15 14,o 16 .lss 13 15] (.cond 16 .skip (.exit 0))) (.block 1 (s [k 6 (-1)] (.seq (s [m 17 0,n 18 17,q 19 .sub 18 1,m 7 19] (B 2 (.seq (s [m 20 7,q 21 .geq 20 0] (.cond 21 .skip (.exit 2))) (.seq (.block 3 (s [m 24 5,
 m 25 7,i 26 1 24 25,l 27 26,w 28 27,m 29 28,y 30 29 (.mov (.t 5)),y 31 29 (.mov (.t 0)),y 32 29 (.mov (.t 7)),y 33 29 (.iaddr 1 (.t 31) (.t 32)),y 34 29 (r 1 33),y 35 29 (.call false 156 [.t 30,.t 34]),x 36 (.pick (.t 29) (.t 35) (.k
 (.val (.bool false))))] (.cond 36 (.reg [m 37 7,m 6 37]) .skip))) (.reg [m 22 7,q 23 .sub 22 1,m 7 23]))))) (.seq (s [m 38 6,q 39 .lss 38 0] (.cond 39 (s [x 40 (.bslice 1 [] 0 false []),m 2 40,b 3 false] .ret) .skip)) (s [m 41 5,m 42 6,
 i 43 1 41 42,(.mk none none (.store 1 (.t 43) (.k (.val (.bool true)))))] (.reg [m 44 4,m 45 6,x 46 (.bslice 1 [] 1 false [(0,(.t 45))]),x 47 (.append 1 8 (.t 44) (.t 46)),m 4 47])))))))) (s [m 48 4,m 2 48,b 3 true] .ret))))),[.t 2,.t 3]⟩
theorem i99:iF 99 g99:=jF Tryz.func99
def g100:GFun:=⟨⟨86,[3,4,5,6,8,13,15]⟩,(s [a 3 2 0,a 4 1 1,a 5 2 2,u 6 8,b 7 false] (s [h 18 2 3,h 19 1 4,h 20 2 5,c 21 32 [.t 18,.t 19,.t 20],m 17 21,v 22 17 0,v 23 17 1,u 8 4,t 8 4 22,m 9 23] (s [h 24 1 4,f 25 0 5,l 26 25,
 c 27 20 [.t 24,.t 26],m 10 27] (.seq (s [m 28 9,w 29 28,m 30 29,z 31 30 (p 1 2 8),z 32 30 (r 1 31),z 33 30 (.bin .eql (.t 32) (.k (.val (.int .i64 3)))),x 34 (.pick (.t 30) (.k (.val (.bool true))) (.t 33))] (.cond 34 (s [x 35
 (.build [(.val (.int .i64 0)),(.val (.int .i64 0)),(.val (.int .i64 0)),(.val (.int .i64 0)),(.val (.int .i64 0)),(.val (.string (ByteArray.mk #[]))),(.val (.string (ByteArray.mk #[]))),(.val (.slice none 0 0))] []),t 6 8 35,
 b 7 false] .ret) .skip)) (s [m 36 10,m 11 36] (s [k 12 0] (.seq (s [f 37 2 8,l 38 37,q 39 .eql 38 1] (.cond 39 (s [f 40 0 4,l 41 40,m 42 10,i 43 6 41 42,f 44 1 43,l 45 44,m 11 45] (.reg [f 46 0 4,l 47 46,m 48 10,i 49 6 47 48,f 50 2 49,
 l 51 50,m 12 51])) .skip)) (.seq (s [m 52 11,f 53 0 4,l 54 53,n 55 54,q 56 .sub 55 1,c 57 64 [.t 52,(.k (.val (.int .i64 0))),.t 56],w 58 57] (.cond 58 (s [x 59 (.build [(.val (.int .i64 0)),(.val (.int .i64 0)),(.val (.int .i64 0)),
 (.val (.int .i64 0)),(.val (.int .i64 0)),(.val (.string (ByteArray.mk #[]))),(.val (.string (ByteArray.mk #[]))),(.val (.slice none 0 0))] []),t 6 8 59,b 7 false] .ret) .skip)) (s [f 62 0 4,m 64 11,u 13 6,h 61 2 3,l 63 62,i 65 6 63 64,
 f 66 4 65,l 67 66,x 68 (.call true 76 [.t 61,.t 67]),m 60 68,v 69 60 0,v 70 60 1,t 13 6 69,m 14 70] (s [h 72 6 13,m 73 12,f 74 1 5,l 75 74,x 76 (.build [(.val (.int .i64 0)),(.val (.string (ByteArray.mk #[])))] [(0,(1,(.t 73))),(1,(1,
 (.t 75)))]),c 77 157 [.t 72,.t 76],m 71 77,v 78 71 0,v 79 71 1,u 15 7,t 15 7 78,m 16 79] (.seq (s [m 80 16,w 81 80] (.cond 81 (s [x 82 (.build [(.val (.int .i64 0)),(.val (.int .i64 0)),(.val (.int .i64 0)),(.val (.int .i64 0)),(.val
 (.int .i64 0)),(.val (.string (ByteArray.mk #[]))),(.val (.string (ByteArray.mk #[]))),(.val (.slice none 0 0))] []),t 6 8 82,b 7 false] .ret) .skip)) (s [m 83 11,h 84 7 15,x 85 (.build [(.val (.int .i64 0)),(.val (.int .i64 0)),(.val
 (.int .i64 0)),(.val (.int .i64 0)),(.val (.int .i64 0)),(.val (.string (ByteArray.mk #[]))),(.val (.string (ByteArray.mk #[]))),(.val (.slice none 0 0))] [(0,(1,(.t 83))),(1,(7,(.t 84)))]),t 6 8 85,b 7 true] .ret)))))))))))),
 [(.c 6 8 true),.t 7]⟩
theorem i100:iF 100 g100:=jF Tryz.func100
def g101:GFun:=⟨⟨17,[4]⟩,(s [a 4 7 0,k 8 0] (.seq (s [h 9 7 4,c 10 158 [.t 9],w 11 10] (.cond 11 (s [k 8 0] .ret) .skip)) (s [h 12 7 4,m 13 1,m 14 2,m 15 3,c 16 159 [.t 12,.t 13,.t 14,.t 15],m 8 16] .ret))),[.t 8]⟩
theorem i101:iF 101 g101:=jF Tryz.func101
def g102:GFun:=⟨⟨9,[]⟩,(s [b 4 false] (s [m 5 0,m 6 1,c 7 160 [.t 5,.t 6],q 8 .geq 7 0,m 4 8] .ret)),[.t 4]⟩
theorem i102:iF 102 g102:=jF Tryz.func102
def g103:GFun:=⟨⟨19,[5]⟩,(s [a 5 2 0,b 6 false] (s [l 7 1,l 8 2,h 9 2 5,x 10 (.call true 84 [.t 8,.t 9]),i 11 1 7 10,l 12 11,h 13 2 3,h 14 1 4,h 15 2 5,l 16 1,x 17 (.call true 47 [.t 13,.t 14,.t 15,.t 16]),o 18 .neq 12 17,
 m 6 18] .ret)),[.t 6]⟩
theorem i103:iF 103 g103:=jF Tryz.func103
def g104:GFun:=⟨⟨65,[8,1000012,3000023,3000028,3000031,3000036]⟩,(s [u 8 2] (s [m 13 1,x 14 (.build [(.val (.string (ByteArray.mk #[]))),(.val (.slice none 0 0))] [(0,(1,(.t 13)))]),x 9 (.alloc 2 (.agg [(.val (.string
 (ByteArray.mk #[]))),(.val (.slice none 0 0))])),(.mk none none (.store 2 (.t 9) (.t 14)))] (s [m 15 0,c 16 42 [.t 15,(.k (.val (.int .i64 4)))],x 17 (.bin .add (.k (.val (.int .i64 1))) (.t 16)),m 10 17] (.seq (s [k 11 0] (B 0 (.seq
 (s [m 18 11,m 19 10,o 20 .lss 18 19] (.cond 20 .skip (.exit 0))) (.seq (.block 1 (s [x 23 (.bslro 1 [] 4 false [(0,(.k (.val (.string (ByteArray.mk #[97]))))),(1,(.k (.val (.string (ByteArray.mk #[98]))))),(2,(.k (.val (.string
 (ByteArray.mk #[99]))))),(3,(.k (.val (.string (ByteArray.mk #[100])))))]),m 24 11,i 25 1 23 24,m 27 0,x 28 (.bslro 1 [] 6 false [(0,(.k (.val (.int .i64 1)))),(1,(.k (.val (.int .i64 1)))),(2,(.k (.val (.int .i64 2)))),(3,(.k (.val
 (.int .i64 2)))),(4,(.k (.val (.int .i64 3)))),(5,(.k (.val (.int .i64 4))))]),m 30 0,x 31 (.bslro 1 [] 6 false [(0,(.k (.val (.int .i64 1)))),(1,(.k (.val (.int .i64 2)))),(2,(.k (.val (.int .i64 2)))),(3,(.k (.val (.int .i64 1)))),(4,
 (.k (.val (.int .i64 2)))),(5,(.k (.val (.int .i64 3))))]),u 12 4,l 26 25,x 29 (.calla 110 [.t 27,.t 28]),x 32 (.calla 110 [.t 30,.t 31]),x 33 (.build [(.val (.string (ByteArray.mk #[]))),(.val (.int .i64 0)),(.val (.int .i64 0)),(.val
 (.bool false))] [(0,(1,(.t 26))),(1,(1,(.t 29))),(2,(1,(.t 32)))]),x 12 (.strb 4 12 (.t 33))] (.seq (s [m 34 3] (.cond 34 (.reg [m 35 0,x 36 (.bslro 1 [] 4 false [(0,(.k (.val (.int .i64 1)))),(1,(.k (.val (.int .i64 1)))),(2,(.k (.val
 (.int .i64 2)))),(3,(.k (.val (.int .i64 3))))]),c 37 110 [.t 35,.t 36],f 38 1 12,(.mk none none (.store 1 (.t 38) (.t 37)))]) .skip)) (.seq (s [m 39 2,m 40 39,y 41 40 (p 1 2 12),y 42 40 (r 1 41),y 43 40 (.bin .eql (.t 42) (.k (.val
 (.int .i64 1)))),x 44 (.pick (.t 40) (.t 43) (.k (.val (.bool false)))),m 45 44,z 46 45 (.mov (.t 3)),z 47 45 (.mov (.t 46)),y 48 47 (p 1 2 12),y 49 47 (r 1 48),y 50 47 (.bin .eql (.t 49) (.k (.val (.int .i64 3)))),z 51 45 (.pick (.t 47)
 (.t 50) (.k (.val (.bool false)))),x 52 (.pick (.t 45) (.k (.val (.bool true))) (.t 51))] (.cond 52 (.reg [f 53 2 12,(.mk none none (.store 1 (.t 53) (.k (.val (.int .i64 2)))))]) .skip)) (.seq (s [f 54 2 12,l 55 54,q 56 .eql 55 3]
 (.cond 56 (.reg [f 57 1 12,(.mk none none (.store 1 (.t 57) (.k (.val (.int .i64 2)))))]) .skip)) (.reg [f 58 1 9,l 59 58,h 60 4 12,x 61 (.bslice 4 [] 1 true [(0,(.t 60))]),x 62 (.append 4 40 (.t 59) (.t 61)),f 63 1 9,(.mk none none
 (.store 1 (.t 63) (.t 62)))])))))) (.reg [m 21 11,q 22 .add 21 1,m 11 22]))))) (s [h 64 2 9,t 8 2 64] .ret))))),[(.c 8 2 true)]⟩
theorem i104:iF 104 g104:=jF Tryz.func104 [(6,532496)]
def g105:GFun:=⟨⟨31,[]⟩,(s [x 2 (.mov (.k (.val (.string (ByteArray.mk #[])))))] (.seq (s [m 6 0,q 7 .eql 6 0] (.cond 7 (s [x 2 (.mov (.k (.val (.string (ByteArray.mk #[48])))))] .ret) .skip)) (s [m 8 0,q 9 .lss 8 0,m 3 9] (s [x 4
 (.mov (.k (.val (.string (ByteArray.mk #[])))))] (.seq (B 0 (.seq (s [m 10 0,q 11 .neq 10 0] (.cond 11 .skip (.exit 0))) (.block 1 (s [m 12 0,q 13 .rem 12 10,m 5 13] (.seq (s [m 14 5,q 15 .lss 14 0] (.cond 15 (.reg [m 16 5,x 17
 (.bin .sub (.k (.val (.int .i64 0))) (.t 16)),m 5 17]) .skip)) (s [m 18 5,x 19 (.bin .add (.k (.val (.int .i64 48))) (.t 18)),x 20 (.conv .u8 (.t 19)),x 21 (.bslice 1 [] 1 false [(0,(.t 20))]),x 22 (.b2s (.t 21)),m 23 4,o 24 .add 22 23,
 m 4 24] (.reg [m 25 0,q 26 .quo 25 10,m 0 26]))))))) (.seq (s [m 27 3] (.cond 27 (s [m 28 4,x 29 (.bin .add (.k (.val (.string (ByteArray.mk #[45])))) (.t 28)),m 2 29] .ret) .skip)) (s [m 30 4,m 2 30] .ret))))))),[.t 2]⟩
theorem i105:iF 105 g105:=jF Tryz.func105
def g106:GFun:=⟨⟨12,[]⟩,(s [x 4 (.mov (.k (.val (.string (ByteArray.mk #[])))))] (s [m 5 1,m 6 0,m 7 1,n 8 7,c 9 42 [.t 6,.t 8],i 10 1 5 9,l 11 10,m 4 11] .ret)),[.t 4]⟩
theorem i106:iF 106 g106:=jF Tryz.func106
def g107:GFun:=⟨⟨77,[5,8,11,13,1000015,3000063]⟩,(s [a 5 2 1,x 6 (.box 6 (.t 2)),u 8 6] (s [h 16 2 5,h 17 6 6,c 18 161 [.t 16,.t 17],m 9 18] (.seq (s [k 10 0] (B 0 (.seq (s [m 19 10,m 20 9,n 21 20,o 22 .lss 19 21] (.cond 22 .skip
 (.exit 0))) (.seq (.block 1 (s [m 28 9,m 29 10,i 30 2 28 29,f 31 0 30,u 11 2,h 26 2 5,h 27 6 6,l 32 31,x 33 (.call true 162 [.t 27,.t 32]),x 34 (.call true 72 [.t 26,.t 33]),m 25 34,v 35 25 0,v 36 25 1,t 11 2 35,m 12 36] (s [m 39 9,
 m 40 10,i 41 2 39 40,f 42 1 41,u 13 4,h 38 2 11,l 43 42,x 44 (.call true 79 [.t 38,.t 43]),m 37 44,v 45 37 0,v 46 37 1,t 13 4 45,m 14 46] (s [m 47 0,f 50 1 13,m 52 0,m 55 3,u 15 7,h 48 2 5,h 49 6 6,l 51 50,x 53 (.calla 42 [.t 52,(.k
 (.val (.int .i64 3)))]),x 54 (.bin .add (.k (.val (.int .i64 1))) (.t 53)),x 56 (.calla 163 [.t 47,.t 48,.t 49,.t 51,.t 54,.t 55]),x 15 (.strb 7 15 (.t 56))] (.seq (s [h 57 7 15,c 58 158 [.t 57],w 59 58] (.cond 59 (.reg [m 60 0,f 61 1 13,
 l 62 61,x 63 (.bslro 2 [] 0 true []),c 64 164 [.t 60,.t 62,.t 63],x 15 (.strb 7 15 (.t 64))]) .skip)) (.reg [f 65 4 6,m 67 9,m 68 10,i 69 2 67 68,l 66 65,h 70 2 69,h 71 7 15,x 72 (.build [(.val (.int .i64 0)),(.val (.string
 (ByteArray.mk #[]))),(.val (.int .i64 0)),(.val (.int .i64 0)),(.val (.int .i64 0)),(.val (.int .i64 0)),(.val (.string (ByteArray.mk #[]))),(.val (.string (ByteArray.mk #[]))),(.val (.slice none 0 0))] [(0,(2,(.t 70))),(2,(7,(.t 71)))]),
 x 73 (.bslice 9 [] 1 true [(0,(.t 72))]),x 74 (.append 9 112 (.t 66) (.t 73)),f 75 4 6,(.mk none none (.store 1 (.t 75) (.t 74)))])))))) (.reg [m 23 10,q 24 .add 23 1,m 10 24]))))) (s [h 76 6 6,t 8 6 76] .ret)))),[(.c 8 6 true)]⟩
theorem i107:iF 107 g107:=jF Tryz.func107 [(7,532496)]
def g108:GFun:=⟨⟨76,[4,6,9]⟩,(s [a 4 2 1,x 5 (.box 6 (.t 2)),u 6 6] (.seq (s [k 7 0] (B 0 (.seq (s [m 10 7,f 11 0 4,l 12 11,n 13 12,o 14 .lss 10 13] (.cond 14 .skip (.exit 0))) (.seq (.block 1 (s [k 8 0] (B 2 (.seq (s [m 17 8,f 18 0 4,
 l 19 18,m 20 7,i 21 2 19 20,f 22 1 21,l 23 22,n 24 23,o 25 .lss 17 24] (.cond 25 .skip (.exit 2))) (.seq (.block 3 (s [f 28 0 4,l 29 28,m 30 7,i 31 2 29 30,f 32 1 31,l 33 32,m 34 8,i 35 4 33 34,h 36 4 35,u 9 4,t 9 4 36] (s [f 37 2 9,
 l 38 37,q 39 .eql 38 3,m 40 39,y 41 40 (p 1 5 5),y 42 40 (r 1 41),y 43 40 (.len (.t 42)),y 44 40 (.bin .lss (.t 43) (.k (.val (.int .i64 2)))),x 45 (.pick (.t 40) (.t 44) (.k (.val (.bool false)))),m 46 45,y 47 46 (.mov (.t 0)),y 48 46
 (.call false 41 [.t 47,(.k (.val (.int .i64 3)))]),y 49 46 (.not (.t 48)),x 50 (.pick (.t 46) (.t 49) (.k (.val (.bool false))))] (.cond 50 (.reg [f 51 5 5,f 53 0 4,m 55 7,f 59 0 9,m 61 0,m 66 0,l 52 51,l 54 53,i 56 2 54 55,f 57 0 56,
 l 58 57,l 60 59,h 62 2 4,h 63 6 5,x 64 (.call true 165 [.t 62,.t 63,(.k (.val (.int .i64 4)))]),h 67 2 4,h 68 6 5,x 65 (.calla 164 [.t 61,(.k (.val (.int .i64 4))),.t 64]),x 69 (.call true 165 [.t 67,.t 68,(.k (.val (.int .i64 2)))]),
 x 70 (.calla 164 [.t 66,(.k (.val (.int .i64 2))),.t 69]),x 71 (.build [(.val (.string (ByteArray.mk #[]))),(.val (.string (ByteArray.mk #[]))),(.val (.int .i64 0)),(.val (.int .i64 0)),(.val (.int .i64 0)),(.val (.int .i64 0)),(.val
 (.string (ByteArray.mk #[]))),(.val (.string (ByteArray.mk #[]))),(.val (.slice none 0 0)),(.val (.int .i64 0)),(.val (.int .i64 0)),(.val (.int .i64 0)),(.val (.int .i64 0)),(.val (.string (ByteArray.mk #[]))),(.val (.string
 (ByteArray.mk #[]))),(.val (.slice none 0 0))] [(0,(1,(.t 58))),(1,(1,(.t 60))),(2,(7,(.t 65))),(9,(7,(.t 70)))]),x 72 (.bslice 16 [] 1 true [(0,(.t 71))]),x 73 (.append 16 208 (.t 52) (.t 72)),f 74 5 5,(.mk none none (.store 1 (.t 74)
 (.t 73)))]) .skip)))) (.reg [m 26 8,q 27 .add 26 1,m 8 27])))))) (.reg [m 15 7,q 16 .add 15 1,m 7 16]))))) (s [h 75 6 5,t 6 6 75] .ret))),[(.c 6 6 true)]⟩
theorem i108:iF 108 g108:=jF Tryz.func108 [(9,550292684816)]
def g109:GFun:=⟨⟨70,[6,10,11,16]⟩,(s [a 6 2 1,u 10 1] (s [m 17 0,h 18 2 6,m 19 2,m 20 3,c 21 166 [.t 17,.t 18,.t 19,.t 20],u 11 6,t 11 6 21] (s [m 22 4,f 23 0 11,l 24 23,x 25 (.build [(.val (.int .i64 0)),(.val (.int .i64 0)),(.val
 (.int .i64 0)),(.val (.int .i64 0)),(.val (.string (ByteArray.mk #[]))),(.val (.slice none 0 0))] [(0,(1,(.t 22))),(4,(1,(.t 24)))]),x 12 (.alloc 6 (.agg [(.val (.int .i64 0)),(.val (.int .i64 0)),(.val (.int .i64 0)),(.val (.int .i64 0)),
 (.val (.string (ByteArray.mk #[]))),(.val (.slice none 0 0))])),(.mk none none (.store 6 (.t 12) (.t 25)))] (.seq (s [f 26 3 11,l 27 26] (.cond 27 (.reg [m 28 0,c 29 42 [.t 28,(.k (.val (.int .i64 9)))],q 30 .sub 29 2,f 31 3 12,
 (.mk none none (.store 1 (.t 31) (.t 30)))]) .skip)) (s [m 32 4,q 33 .add 32 1,m 13 33] (s [x 34 (.bslice 1 [] 0 true []),m 14 34] (.seq (s [k 15 0] (B 0 (.seq (s [m 35 15,f 36 2 11,l 37 36,n 38 37,o 39 .lss 35 38] (.cond 39 .skip
 (.exit 0))) (.seq (.block 1 (s [m 42 0,f 44 2 11,m 46 15,m 49 3,f 50 2 11,m 56 13,u 16 1,h 43 2 6,l 45 44,i 47 1 45 46,l 48 47,l 51 50,n 52 51,x 53 (.call true 121 [(.k (.val (.int .i64 1))),.t 52]),o 54 .quo 49 53,q 55 .sub 54 1,x 57
 (.calla 109 [.t 42,.t 43,.t 48,.t 55,.t 56]),t 16 1 57] (s [m 58 13,f 59 0 16,l 60 59,n 61 60,o 62 .add 58 61,m 13 62] (.reg [m 63 14,h 64 1 16,x 65 (.bslice 1 [] 1 true [(0,(.t 64))]),x 66 (.append 1 24 (.t 63) (.t 65)),m 14 66]))))
 (.reg [m 40 15,q 41 .add 40 1,m 15 41]))))) (s [h 67 6 12,m 68 14,c 69 167 [.t 67,.t 68],t 10 1 69] .ret)))))))),[(.c 10 1 true)]⟩
theorem i109:iF 109 g109:=jF Tryz.func109 [(10,2147483664)]
def g110:GFun:=⟨⟨12,[]⟩,(s [k 4 0] (s [m 5 1,m 6 0,m 7 1,n 8 7,c 9 42 [.t 6,.t 8],i 10 1 5 9,l 11 10,m 4 11] .ret)),[.t 4]⟩
theorem i110:iF 110 g110:=jF Tryz.func110
def g111:GFun:=⟨⟨44,[1,7]⟩,(s [a 1 2 0,k 2 0,k 3 0] (.seq (s [h 11 2 1,c 12 168 [.t 11],m 10 12,v 13 10 0,v 14 10 1,m 4 13,m 5 14] (s [m 15 4,q 16 .neq 15 0] (.cond 16 (s [m 17 4,m 18 5,m 2 17,m 3 18] .ret) .skip))) (.seq (s [f 19 1 1,
 l 20 19,n 21 20,k 22 0] (B 0 (s [o 23 .lss 22 21] (C 23 0 (.seq (.block 1 (s [m 24 22,i 25 6 20 22,h 26 6 25,u 7 6,m 6 24,t 7 6 26] (s [h 27 2 1,h 28 6 7,c 29 169 [.t 27,.t 28]] (.cond 29 (s [m 30 6,k 2 7,m 3 30] .ret) .skip))))
 (.reg [q 31 .add 22 1,m 22 31])))))) (.seq (s [h 32 2 1,c 33 170 [.t 32],n 34 33,k 35 0] (B 2 (s [o 36 .lss 35 34] (C 36 2 (.seq (.block 3 (s [m 37 35,i 38 1 33 35,l 39 38,m 8 37,m 9 39] (s [m 40 9,q 41 .eql 40 0] (.cond 41 (s [m 42 8,
 k 2 8,m 3 42] .ret) .skip)))) (.reg [q 43 .add 35 1,m 35 43])))))) (s [k 2 0,k 3 0] .ret))))),[.t 2,.t 3]⟩
theorem i111:iF 111 g111:=jF Tryz.func111
def g112:GFun:=⟨⟨8,[]⟩,(s [x 2 (.mov (.k (.val (.slice none 0 0))))] (.seq (s [m 3 0,x 4 (.isnil false (.t 3))] (.cond 4 (s [x 2 (.mov (.k (.val (.slice none 0 0))))] .ret) .skip)) (s [x 5 (.bslice 1 [] 0 false []),m 6 0,x 7
 (.append 1 8 (.t 5) (.t 6)),m 2 7] .ret))),[.t 2]⟩
theorem i112:iF 112 g112:=jF Tryz.func112
def g113:GFun:=⟨⟨19,[]⟩,(s [k 4 0] (.seq (s [m 6 0,n 7 6,k 8 0] (B 0 (s [o 9 .lss 8 7] (C 9 0 (.seq (.block 1 (s [m 10 8,m 5 10] (s [m 11 1,m 12 0,m 13 5,i 14 6 12 13,h 15 6 14,x 16 (.callv false (.t 11) [.t 15])] (.cond 16 (s [m 17 5,
 m 4 17] .ret) .skip)))) (.reg [q 18 .add 8 1,m 8 18])))))) (s [k 4 (-1)] .ret))),[.t 4]⟩
theorem i113:iF 113 g113:=jF Tryz.func113
def g114:GFun:=⟨⟨8,[2]⟩,(s [a 2 6 0,b 3 false] (s [f 4 0 2,l 5 4,l 6 1,o 7 .eql 5 6,m 3 7] .ret)),[.t 3]⟩
theorem i114:iF 114 g114:=jF Tryz.func114
def g118:GFun:=⟨⟨50,[1]⟩,(s [a 1 2 0,k 2 0,k 3 0] (s [h 9 2 1,c 10 172 [.t 9],m 8 10,v 11 8 0,v 12 8 1,m 4 11,m 5 12] (.seq (s [m 13 4,q 14 .neq 13 0] (.cond 14 (s [m 15 4,m 16 5,m 2 15,m 3 16] .ret) .skip)) (.seq (s [k 6 0] (B 0
 (.seq (s [m 17 6,f 18 1 1,l 19 18,n 20 19,o 21 .lss 17 20] (.cond 21 .skip (.exit 0))) (.seq (.block 1 (s [f 25 1 1,m 27 6,h 24 2 1,l 26 25,i 28 6 26 27,h 29 6 28,x 30 (.call true 173 [.t 24,.t 29]),w 31 30] (.cond 31 (s [m 32 6,k 2 7,
 m 3 32] .ret) .skip))) (.reg [m 22 6,q 23 .add 22 1,m 6 23]))))) (.seq (s [k 7 0] (B 2 (.seq (s [m 33 7,f 34 0 1,l 35 34,n 36 35,o 37 .lss 33 36] (.cond 37 .skip (.exit 2))) (.seq (.block 3 (s [f 41 0 1,m 43 7,h 40 2 1,l 42 41,
 i 44 2 42 43,f 45 0 44,l 46 45,x 47 (.call true 174 [.t 40,.t 46]),w 48 47] (.cond 48 (s [m 49 7,k 2 8,m 3 49] .ret) .skip))) (.reg [m 38 7,q 39 .add 38 1,m 7 39]))))) (s [k 2 0,k 3 0] .ret)))))),[.t 2,.t 3]⟩
theorem i118:iF 118 g118:=jF Tryz.func118
def g120:GFun:=⟨⟨10,[]⟩,(s [k 4 0] (.seq (s [m 5 0,m 6 1,o 7 .lss 5 6] (.cond 7 (s [m 8 0,m 4 8] .ret) .skip)) (s [m 9 1,m 4 9] .ret))),[.t 4]⟩
theorem i120:iF 120 g120:=jF Tryz.func120
def g121:GFun:=⟨⟨10,[]⟩,(s [k 4 0] (.seq (s [m 5 0,m 6 1,o 7 .gtr 5 6] (.cond 7 (s [m 8 0,m 4 8] .ret) .skip)) (s [m 9 1,m 4 9] .ret))),[.t 4]⟩
theorem i121:iF 121 g121:=jF Tryz.func121
def g124:GFun:=⟨⟨10,[1,2]⟩,(s [a 1 2 0,u 2 2] (s [f 3 0 1,x 4 (.loadr 1 false (.t 3)),f 6 1 1,x 7 (.loadr 1 false (.t 6)),x 5 (.bslice 4 [] 0 true []),x 8 (.append 4 40 (.t 5) (.t 7)),x 9 (.build [(.val (.string (ByteArray.mk #[]))),
 (.val (.slice none 0 0))] [(0,(1,(.t 4))),(1,(1,(.t 8)))]),t 2 2 9] .ret)),[(.c 2 2 true)]⟩
theorem i124:iF 124 g124:=jF Tryz.func124
def g125:GFun:=⟨⟨20,[1]⟩,(s [a 1 7 0,b 2 false] (.seq (s [k 3 0] (B 0 (.seq (s [m 4 3,f 5 6 1,l 6 5,n 7 6,o 8 .lss 4 7] (.cond 8 .skip (.exit 0))) (.seq (.block 1 (s [f 11 6 1,l 12 11,m 13 3,i 14 7 12 13,h 15 7 14,c 16 125 [.t 15]]
 (.cond 16 (s [b 2 true] .ret) .skip))) (.reg [m 9 3,q 10 .add 9 1,m 3 10]))))) (s [f 17 0 1,l 18 17,q 19 .eql 18 8,m 2 19] .ret))),[.t 2]⟩
theorem i125:iF 125 g125:=jF Tryz.func125
def g126:GFun:=⟨⟨18,[]⟩,(s [b 4 false] (.seq (s [k 5 0] (B 0 (.seq (s [m 6 5,m 7 0,n 8 7,o 9 .lss 6 8] (.cond 9 .skip (.exit 0))) (.seq (.block 1 (s [m 12 0,m 13 5,i 14 1 12 13,l 15 14,m 16 1,o 17 .eql 15 16] (.cond 17
 (s [b 4 true] .ret) .skip))) (.reg [m 10 5,q 11 .add 10 1,m 5 11]))))) (s [b 4 false] .ret))),[.t 4]⟩
theorem i126:iF 126 g126:=jF Tryz.func126
def g127:GFun:=⟨⟨73,[1,2,6,1000003]⟩,(s [a 1 6 0,u 2 6] (s [f 7 0 1,x 8 (.loadr 1 false (.t 7)),f 9 1 1,x 10 (.loadr 1 false (.t 9)),f 11 3 1,x 12 (.loadr 1 false (.t 11)),f 14 2 1,x 15 (.loadr 1 false (.t 14)),u 3 6,x 13
 (.bslice 1 [] 0 false []),x 16 (.append 1 16 (.t 13) (.t 15)),x 17 (.build [(.val (.string (ByteArray.mk #[]))),(.val (.string (ByteArray.mk #[]))),(.val (.slice none 0 0)),(.val (.bool false)),(.val (.slice none 0 0)),(.val
 (.slice none 0 0))] [(0,(1,(.t 8))),(1,(1,(.t 10))),(3,(1,(.t 12))),(2,(1,(.t 16)))]),x 3 (.strb 6 3 (.t 17))] (.seq (s [k 4 0] (B 0 (.seq (s [m 18 4,f 19 4 1,l 20 19,n 21 20,o 22 .lss 18 21] (.cond 22 .skip (.exit 0))) (.seq (.block 1
 (.reg [f 25 4 3,f 27 4 1,m 29 4,f 33 4 1,m 35 4,l 26 25,l 28 27,i 30 9 28 29,e 31 0 2 30,h 32 2 31,l 34 33,i 36 9 34 35,e 37 2 7 36,h 38 7 37,x 39 (.call true 177 [.t 38]),x 40 (.build [(.val (.int .i64 0)),(.val (.string
 (ByteArray.mk #[]))),(.val (.int .i64 0)),(.val (.int .i64 0)),(.val (.int .i64 0)),(.val (.int .i64 0)),(.val (.string (ByteArray.mk #[]))),(.val (.string (ByteArray.mk #[]))),(.val (.slice none 0 0))] [(0,(2,(.t 32))),(2,(7,(.t 39)))]),
 x 41 (.bslice 9 [] 1 true [(0,(.t 40))]),x 42 (.append 9 112 (.t 26) (.t 41)),f 43 4 3,(.mk none none (.store 1 (.t 43) (.t 42)))])) (.reg [m 23 4,q 24 .add 23 1,m 4 24]))))) (.seq (s [k 5 0] (B 2 (.seq (s [m 44 5,f 45 5 1,l 46 45,n 47 46,
 o 48 .lss 44 47] (.cond 48 .skip (.exit 2))) (.seq (.block 3 (s [f 51 5 1,l 52 51,m 53 5,i 54 16 52 53,h 55 16 54,u 6 16,t 6 16 55] (.reg [f 56 5 3,f 58 0 6,f 60 1 6,e 62 2 7 6,e 65 9 7 6,l 57 56,l 59 58,l 61 60,h 63 7 62,x 64
 (.call true 177 [.t 63]),h 66 7 65,x 67 (.call true 177 [.t 66]),x 68 (.build [(.val (.string (ByteArray.mk #[]))),(.val (.string (ByteArray.mk #[]))),(.val (.int .i64 0)),(.val (.int .i64 0)),(.val (.int .i64 0)),(.val (.int .i64 0)),
 (.val (.string (ByteArray.mk #[]))),(.val (.string (ByteArray.mk #[]))),(.val (.slice none 0 0)),(.val (.int .i64 0)),(.val (.int .i64 0)),(.val (.int .i64 0)),(.val (.int .i64 0)),(.val (.string (ByteArray.mk #[]))),(.val (.string
 (ByteArray.mk #[]))),(.val (.slice none 0 0))] [(0,(1,(.t 59))),(1,(1,(.t 61))),(2,(7,(.t 64))),(9,(7,(.t 67)))]),x 69 (.bslice 16 [] 1 true [(0,(.t 68))]),x 70 (.append 16 208 (.t 57) (.t 69)),f 71 5 3,(.mk none none (.store 1 (.t 71)
 (.t 70)))]))) (.reg [m 49 5,q 50 .add 49 1,m 5 50]))))) (s [h 72 6 3,t 2 6 72] .ret))))),[(.c 2 6 true)]⟩
theorem i127:iF 127 g127:=jF Tryz.func127
def g128:GFun:=⟨⟨52,[3,4,5,8,12]⟩,(s [a 3 2 0,a 4 1 1,a 5 2 2,x 6 (.mov (.k (.val (.slice none 0 0))))] (s [x 14 (.bslice 2 [] 0 true []),m 7 14] (s [h 16 2 3,h 17 1 4,h 18 2 5,c 19 100 [.t 16,.t 17,.t 18],m 15 19,v 20 15 0,v 21 15 1,
 u 8 8,t 8 8 20,m 9 21] (.seq (s [m 22 9,w 23 22] (.cond 23 (s [m 24 7,m 6 24] .ret) .skip)) (s [e 25 1 7 8,h 26 7 25,c 27 178 [.t 26],m 10 27] (.seq (s [k 11 0] (B 0 (.seq (s [m 28 11,m 29 10,n 30 29,o 31 .lss 28 30] (.cond 31 .skip
 (.exit 0))) (.seq (.block 1 (s [f 37 0 8,m 39 10,m 40 11,i 41 2 39 40,u 12 2,h 35 2 3,h 36 1 4,l 38 37,h 42 2 41,x 43 (.call true 179 [.t 35,.t 36,.t 38,.t 42]),m 34 43,v 44 34 0,v 45 34 1,t 12 2 44,m 13 45] (s [m 46 13] (.cond 46
 (.reg [m 47 7,h 48 2 12,x 49 (.bslice 2 [] 1 true [(0,(.t 48))]),x 50 (.append 2 24 (.t 47) (.t 49)),m 7 50]) .skip)))) (.reg [m 32 11,q 33 .add 32 1,m 11 33]))))) (s [m 51 7,m 6 51] .ret))))))),[.t 6]⟩
theorem i128:iF 128 g128:=jF Tryz.func128
def g130:GFun:=⟨⟨6,[]⟩,(s [k 2 0] (s [m 3 0,c 4 120 [(.k (.val (.int .i64 1000000))),.t 3],c 5 121 [(.k (.val (.int .i64 (-1000000)))),.t 4],m 2 5] .ret)),[.t 2]⟩
theorem i130:iF 130 g130:=jF Tryz.func130
def g131:GFun:=⟨⟨4,[]⟩,(s [k 2 0] (.seq (s [m 3 0] (.cond 3 (s [k 2 1] .ret) .skip)) (s [k 2 0] .ret))),[.t 2]⟩
theorem i131:iF 131 g131:=jF Tryz.func131
def g132:GFun:=⟨⟨19,[3]⟩,(s [a 3 2 1,k 4 0] (.seq (s [m 6 0,n 7 6,k 8 0] (B 0 (s [o 9 .lss 8 7] (C 9 0 (.seq (.block 1 (s [m 10 8,m 5 10] (s [m 12 0,m 13 5,i 14 2 12 13,h 11 2 3,h 15 2 14,x 16 (.aeq false [1,2] (.t 11) (.t 15))]
 (.cond 16 (s [m 17 5,m 4 17] .ret) .skip)))) (.reg [q 18 .add 8 1,m 8 18])))))) (s [k 4 (-1)] .ret))),[.t 4]⟩
theorem i132:iF 132 g132:=jF Tryz.func132
def g133:GFun:=⟨⟨42,[]⟩,(s [x 4 (.mov (.k (.val (.slice none 0 0))))] (s [m 8 0,m 9 1,c 10 137 [.t 8,.t 9],m 5 10] (.seq (s [m 11 5,q 12 .eql 11 (-1)] (.cond 12 (s [m 13 0,m 4 13] .ret) .skip)) (.seq (s [m 14 5,q 15 .add 14 1,m 6 15]
 (B 0 (.seq (s [m 16 6,m 17 0,n 18 17,o 19 .lss 16 18] (.cond 19 .skip (.exit 0))) (.seq (.block 1 (s [m 22 0,m 23 6,i 24 1 22 23,l 25 24,m 7 25] (s [m 26 1,m 27 7,x 28 (.callv false (.t 26) [.t 27]),w 29 28] (.cond 29 (s [m 30 0,m 31 5,
 m 32 7,i 33 1 30 31,(.mk none none (.store 1 (.t 33) (.t 32)))] (.reg [m 34 5,q 35 .add 34 1,m 5 35])) .skip)))) (.reg [m 20 6,q 21 .add 20 1,m 6 21]))))) (s [m 36 0,m 37 5,x 38 (.slc 1 (.t 36) (some (.t 37)) none),(.mk none none (.clr 1
 (.t 38)))] (s [m 39 0,m 40 5,x 41 (.slc 1 (.t 39) none (some (.t 40))),m 4 41] .ret)))))),[.t 4]⟩
theorem i133:iF 133 g133:=jF Tryz.func133
def g134:GFun:=⟨⟨10,[]⟩,(s [b 3 false] (s [m 4 0,l 5 1,n 6 5,q 7 .sub 6 1,c 8 57 [.t 4,(.k (.val (.int .i64 0))),.t 7],w 9 8,m 3 9] .ret)),[.t 3]⟩
theorem i134:iF 134 g134:=jF Tryz.func134
def g135:GFun:=⟨⟨49,[3,4,5,8,11,12]⟩,(s [a 3 2 0,a 4 1 1,a 5 2 2,x 6 (.mov (.k (.val (.slice none 0 0))))] (s [x 14 (.bslice 2 [] 0 true []),m 7 14] (s [h 16 2 3,h 17 1 4,h 18 2 5,c 19 97 [.t 16,.t 17,.t 18],m 15 19,v 20 15 0,v 21 15 1,
 u 8 8,t 8 8 20,m 9 21] (.seq (s [m 22 9,w 23 22] (.cond 23 (s [m 24 7,m 6 24] .ret) .skip)) (.seq (s [e 25 1 7 8,h 26 7 25,c 27 180 [.t 26],n 28 27,k 29 0] (B 0 (s [o 30 .lss 29 28] (C 30 0 (.seq (.block 1 (s [i 31 2 27 29,h 32 2 31,
 u 11 2,t 11 2 32] (s [h 34 2 3,h 35 1 4,f 36 0 8,l 37 36,h 38 2 11,c 39 181 [.t 34,.t 35,.t 37,.t 38],m 33 39,v 40 33 0,v 41 33 1,u 12 2,t 12 2 40,m 13 41] (s [m 42 13] (.cond 42 (.reg [m 43 7,h 44 2 12,x 45 (.bslice 2 [] 1 true [(0,
 (.t 44))]),x 46 (.append 2 24 (.t 43) (.t 45)),m 7 46]) .skip))))) (.reg [q 47 .add 29 1,m 29 47])))))) (s [m 48 7,m 6 48] .ret)))))),[.t 6]⟩
theorem i135:iF 135 g135:=jF Tryz.func135
def g136:GFun:=⟨⟨19,[]⟩,(s [k 4 0] (.seq (s [m 6 0,n 7 6,k 8 0] (B 0 (s [o 9 .lss 8 7] (C 9 0 (.seq (.block 1 (s [m 10 8,m 5 10] (s [m 11 1,m 12 0,m 13 5,i 14 1 12 13,l 15 14,o 16 .eql 11 15] (.cond 16 (s [m 17 5,
 m 4 17] .ret) .skip)))) (.reg [q 18 .add 8 1,m 8 18])))))) (s [k 4 (-1)] .ret))),[.t 4]⟩
theorem i136:iF 136 g136:=jF Tryz.func136
def g137:GFun:=⟨⟨19,[]⟩,(s [k 4 0] (.seq (s [m 6 0,n 7 6,k 8 0] (B 0 (s [o 9 .lss 8 7] (C 9 0 (.seq (.block 1 (s [m 10 8,m 5 10] (s [m 11 1,m 12 0,m 13 5,i 14 1 12 13,l 15 14,x 16 (.callv false (.t 11) [.t 15])] (.cond 16 (s [m 17 5,
 m 4 17] .ret) .skip)))) (.reg [q 18 .add 8 1,m 8 18])))))) (s [k 4 (-1)] .ret))),[.t 4]⟩
theorem i137:iF 137 g137:=jF Tryz.func137
def g138:GFun:=⟨⟨9,[]⟩,(s [b 4 false] (s [m 5 0,m 6 1,c 7 182 [.t 5,.t 6],q 8 .geq 7 0,m 4 8] .ret)),[.t 4]⟩
theorem i138:iF 138 g138:=jF Tryz.func138
def g139:GFun:=⟨⟨6,[1]⟩,(s [a 1 6 0,b 2 false] (s [h 3 6 1,c 4 141 [.t 3],x 5 (.call false 140 [.t 4,(.k (.clo 142 []))]),m 2 5] .ret)),[.t 2]⟩
theorem i139:iF 139 g139:=jF Tryz.func139
def g140:GFun:=⟨⟨9,[]⟩,(s [b 4 false] (s [m 5 0,m 6 1,c 7 183 [.t 5,.t 6],q 8 .geq 7 0,m 4 8] .ret)),[.t 4]⟩
theorem i140:iF 140 g140:=jF Tryz.func140
def g141:GFun:=⟨⟨38,[1,5,7]⟩,(s [a 1 6 0,x 2 (.mov (.k (.val (.slice none 0 0))))] (s [x 8 (.bslice 7 [] 0 true []),m 3 8] (.seq (s [f 9 4 1,l 10 9,n 11 10,k 12 0] (B 0 (s [o 13 .lss 12 11] (C 13 0 (.seq (.block 1 (s [i 14 9 10 12,
 h 15 9 14,u 5 9,t 5 9 15] (.reg [m 16 3,e 17 2 7 5,h 18 7 17,x 19 (.bslice 7 [] 1 true [(0,(.t 18))]),x 20 (.append 7 88 (.t 16) (.t 19)),m 3 20]))) (.reg [q 21 .add 12 1,m 12 21])))))) (.seq (s [f 22 5 1,l 23 22,n 24 23,k 25 0] (B 2
 (s [o 26 .lss 25 24] (C 26 2 (.seq (.block 3 (s [i 27 16 23 25,h 28 16 27,u 7 16,t 7 16 28] (.reg [m 29 3,e 30 2 7 7,h 31 7 30,e 32 9 7 7,h 33 7 32,x 34 (.bslice 7 [] 2 true [(0,(.t 31)),(1,(.t 33))]),x 35 (.append 7 88 (.t 29) (.t 34)),
 m 3 35]))) (.reg [q 36 .add 25 1,m 25 36])))))) (s [m 37 3,m 2 37] .ret))))),[.t 2]⟩
theorem i141:iF 141 g141:=jF Tryz.func141
def g142:GFun:=⟨⟨6,[1]⟩,(s [a 1 7 0,b 2 false] (s [h 3 7 1,x 4 (.call false 184 [.t 3,(.k (.clo 185 []))]),w 5 4,m 2 5] .ret)),[.t 2]⟩
theorem i142:iF 142 g142:=jF Tryz.func142
def g143:GFun:=⟨⟨9,[]⟩,(s [b 4 false] (s [m 5 0,m 6 1,c 7 186 [.t 5,.t 6],q 8 .geq 7 0,m 4 8] .ret)),[.t 4]⟩
theorem i143:iF 143 g143:=jF Tryz.func143
def g144:GFun:=⟨⟨8,[2]⟩,(s [a 2 2 0,b 3 false] (s [f 4 1 2,l 5 4,l 6 1,c 7 145 [.t 5,.t 6],m 3 7] .ret)),[.t 3]⟩
theorem i144:iF 144 g144:=jF Tryz.func144
def g145:GFun:=⟨⟨9,[]⟩,(s [b 4 false] (s [m 5 0,m 6 1,c 7 187 [.t 5,.t 6],q 8 .geq 7 0,m 4 8] .ret)),[.t 4]⟩
theorem i145:iF 145 g145:=jF Tryz.func145
def g146:GFun:=⟨⟨9,[]⟩,(s [b 4 false] (s [m 5 0,m 6 1,c 7 113 [.t 5,.t 6],q 8 .geq 7 0,m 4 8] .ret)),[.t 4]⟩
theorem i146:iF 146 g146:=jF Tryz.func146
def g147:GFun:=⟨⟨9,[2]⟩,(s [a 2 6 0,b 3 false] (s [f 4 0 2,l 5 4,f 6 0 1,l 7 6,o 8 .eql 5 7,m 3 8] .ret)),[.t 3]⟩
theorem i147:iF 147 g147:=jF Tryz.func147
def g148:GFun:=⟨⟨110,[6,7,13,14]⟩,(s [a 6 2 0,a 7 1 1,k 12 0] (.seq (s [m 19 2,f 20 0 7,l 21 20,n 22 21,o 23 .geq 19 22] (.cond 23 (s [k 12 (-1)] .ret) .skip)) (s [f 24 0 7,l 25 24,m 26 2,i 27 6 25 26,h 28 6 27,u 13 6,t 13 6 28]
 (s [h 30 2 6,f 31 4 13,l 32 31,c 33 62 [.t 30,.t 32],m 29 33,v 34 29 0,v 35 29 1,u 14 6,t 14 6 34,m 15 35] (.seq (s [m 36 15,w 37 36,m 38 37,z 39 38 (p 1 1 14),z 40 38 (r 1 39),z 41 38 (.mov (.t 5)),z 42 38 (.bin .neq (.t 40) (.t 41)),
 x 43 (.pick (.t 38) (.k (.val (.bool true))) (.t 42)),m 44 43,z 45 44 (p 1 1 13),z 46 44 (r 1 45),z 47 44 (.mov (.t 3)),z 48 44 (.bin .neq (.t 46) (.t 47)),x 49 (.pick (.t 44) (.k (.val (.bool true))) (.t 48)),m 50 49,z 51 50 (p 1 2 13),
 z 52 50 (r 1 51),z 53 50 (.mov (.t 4)),z 54 50 (.bin .neq (.t 52) (.t 53)),x 55 (.pick (.t 50) (.k (.val (.bool true))) (.t 54)),m 56 55,z 57 56 (p 1 5 13),z 58 56 (r 1 57),z 59 56 (.len (.t 58)),z 60 56 (p 1 2 14),z 61 56 (r 1 60),
 z 62 56 (.len (.t 61)),z 63 56 (.bin .neq (.t 59) (.t 62)),x 64 (.pick (.t 56) (.k (.val (.bool true))) (.t 63)),m 65 64,z 66 65 (p 1 3 13),z 67 65 (r 1 66),z 68 65 (.call false 57 [.t 67,(.k (.val (.int .i64 (-1000000)))),(.k (.val
 (.int .i64 1000000)))]),z 69 65 (.not (.t 68)),x 70 (.pick (.t 65) (.k (.val (.bool true))) (.t 69)),m 71 70,z 72 71 (p 1 3 14),z 73 71 (r 1 72),z 74 71 (.not (.t 73)),z 75 71 (.mov (.t 74)),y 76 75 (p 1 3 13),y 77 75 (r 1 76),y 78 75
 (.bin .neq (.t 77) (.k (.val (.int .i64 0)))),z 79 71 (.pick (.t 75) (.t 78) (.k (.val (.bool false)))),x 80 (.pick (.t 71) (.k (.val (.bool true))) (.t 79))] (.cond 80 (s [k 12 (-1)] .ret) .skip)) (s [m 81 2,q 82 .add 81 1,m 16 82]
 (.seq (s [f 83 5 13,l 84 83,n 85 84,k 86 0] (B 0 (s [o 87 .lss 86 85] (C 87 0 (.seq (.block 1 (s [m 88 86,i 89 1 84 86,l 90 89,m 17 88,m 18 90] (.seq (s [m 91 18,m 92 16,o 93 .neq 91 92] (.cond 93 (s [k 12 (-1)] .ret) .skip)) (s [m 96 16,
 m 97 2,m 98 17,q 99 .add 98 1,f 100 2 14,m 102 17,h 94 2 6,h 95 1 7,l 101 100,i 103 1 101 102,l 104 103,x 105 (.call true 148 [.t 94,.t 95,.t 96,.t 97,.t 99,.t 104]),m 16 105] (s [m 106 16,q 107 .lss 106 0] (.cond 107 (s [k 12
 (-1)] .ret) .skip)))))) (.reg [q 108 .add 86 1,m 86 108])))))) (s [m 109 16,m 12 109] .ret)))))))),[.t 12]⟩
theorem i148:iF 148 g148:=jF Tryz.func148
def g149:GFun:=⟨⟨33,[3,4,5,6,9]⟩,(s [a 3 2 0,a 4 1 1,a 5 2 2,u 6 4,b 7 false] (s [h 11 1 4,f 12 0 5,l 13 12,c 14 59 [.t 11,.t 13],m 8 14] (.seq (s [m 15 8,q 16 .lss 15 0] (.cond 16 (s [x 17 (.build [(.val (.string (ByteArray.mk #[]))),
 (.val (.int .i64 0)),(.val (.int .i64 0)),(.val (.bool false))] []),t 6 4 17,b 7 false] .ret) .skip)) (s [m 22 8,u 9 2,h 19 2 3,h 20 2 3,h 21 1 4,x 23 (.call true 83 [.t 20,.t 21,.t 22]),x 24 (.call true 82 [.t 19,.t 23]),m 18 24,
 v 25 18 0,v 26 18 1,t 9 2 25,m 10 26] (s [h 27 2 9,f 28 1 5,l 29 28,c 30 188 [.t 27,.t 29],v 31 30 0,v 32 30 1,t 6 4 31,m 7 32] .ret))))),[(.c 6 4 true),.t 7]⟩
theorem i149:iF 149 g149:=jF Tryz.func149
def g150:GFun:=⟨⟨24,[2,3,4,7]⟩,(s [a 2 6 0,a 3 2 1,u 4 7,b 5 false] (.seq (s [f 8 4 2,l 9 8,n 10 9,k 11 0] (B 0 (s [o 12 .lss 11 10] (C 12 0 (.seq (.block 1 (s [i 13 9 9 11,h 14 9 13,u 7 9,t 7 9 14] (s [e 15 0 2 7,h 16 2 15,h 17 2 3,
 x 18 (.aeq false [1,2] (.t 16) (.t 17))] (.cond 18 (s [e 19 2 7 7,h 20 7 19,c 21 189 [.t 20],t 4 7 21,b 5 true] .ret) .skip)))) (.reg [q 22 .add 11 1,m 11 22])))))) (s [x 23 (.build [(.val (.int .i64 0)),(.val (.int .i64 0)),(.val
 (.int .i64 0)),(.val (.int .i64 0)),(.val (.string (ByteArray.mk #[]))),(.val (.string (ByteArray.mk #[]))),(.val (.slice none 0 0))] []),t 4 7 23,b 5 false] .ret))),[(.c 4 7 true),.t 5]⟩
theorem i150:iF 150 g150:=jF Tryz.func150
def g151:GFun:=⟨⟨15,[1]⟩,(s [a 1 7 0,b 2 false] (s [h 3 7 1,c 4 190 [.t 3],q 5 .leq 4 24,m 6 5,y 7 6 (j 7 1),y 8 6 (.call false 191 [.t 7]),y 9 6 (.bin .leq (.t 8) (.k (.val (.int .i64 6)))),x 10 (.pick (.t 6) (.t 9) (.k (.val
 (.bool false)))),m 11 10,y 12 11 (j 7 1),y 13 11 (.call false 184 [.t 12,(.k (.clo 192 []))]),x 14 (.pick (.t 11) (.t 13) (.k (.val (.bool false)))),m 2 14] .ret)),[.t 2]⟩
theorem i151:iF 151 g151:=jF Tryz.func151
def g152:GFun:=⟨⟨7,[2]⟩,(s [a 2 2 0,k 3 0] (s [l 4 1,h 5 2 2,c 6 153 [.t 4,.t 5],m 3 6] .ret)),[.t 3]⟩
theorem i152:iF 152 g152:=jF Tryz.func152
def g153:GFun:=⟨⟨20,[3,6]⟩,(s [a 3 2 1,k 4 0] (.seq (s [m 7 0,n 8 7,k 9 0] (B 0 (s [o 10 .lss 9 8] (C 10 0 (.seq (.block 1 (s [i 11 3 7 9,h 12 3 11,u 6 3,t 6 3 12] (s [e 13 0 2 6,h 14 2 13,h 15 2 3,x 16 (.aeq false [1,2] (.t 14)
 (.t 15))] (.cond 16 (s [f 17 2 6,l 18 17,m 4 18] .ret) .skip)))) (.reg [q 19 .add 9 1,m 9 19])))))) (s [k 4 0] .ret))),[.t 4]⟩
theorem i153:iF 153 g153:=jF Tryz.func153
def g154:GFun:=⟨⟨5,[3]⟩,(s [a 3 7 1,k 4 0] (s [k 4 0] .ret)),[.t 4]⟩
theorem i154:iF 154 g154:=jF Tryz.func154
def g155:GFun:=⟨⟨91,[2,3]⟩,(s [a 2 4 0,a 3 7 1,k 4 0] (.seq (s [f 6 0 3,l 7 6] (.block 0 (s [q 9 .eql 7 1,m 8 9] (.cond 8 (s [f 10 1 3,l 11 10,m 4 11] .ret) (s [q 13 .eql 7 2,m 12 13] (.cond 12 (s [f 14 2 2,l 15 14,m 4 15] .ret)
 (s [q 17 .eql 7 3,m 16 17] (.cond 16 (s [f 18 0 2,l 19 18,f 20 2 3,l 21 20,f 22 5 3,l 23 22,x 24 (.build [(.val (.int .i64 0)),(.val (.string (ByteArray.mk #[])))] [(0,(1,(.t 21))),(1,(1,(.t 23)))]),x 25 (.callv false (.t 19) [.t 24]),
 m 4 25] .ret) (s [q 27 .eql 7 4,m 26 27] (.cond 26 (s [f 29 6 3,h 28 4 2,l 30 29,x 31 (.iaddr 7 (.t 30) (.k (.val (.int .i64 0)))),h 32 7 31,x 33 (.call true 155 [.t 28,.t 32]),m 5 33] (s [f 34 1 3,m 36 5,f 38 6 3,l 35 34,h 37 4 2,l 39 38,
 x 40 (.iaddr 7 (.t 39) (.k (.val (.int .i64 1)))),h 41 7 40,x 42 (.call true 155 [.t 37,.t 41]),x 43 (.call true 193 [.t 35,.t 36,.t 42]),m 4 43] .ret)) (s [q 45 .eql 7 5,m 44 45] (.cond 44 (.seq (s [f 47 6 3,h 46 4 2,l 48 47,x 49
 (.iaddr 7 (.t 48) (.k (.val (.int .i64 0)))),h 50 7 49,x 51 (.call true 155 [.t 46,.t 50]),q 52 .neq 51 0] (.cond 52 (s [f 54 6 3,h 53 4 2,l 55 54,x 56 (.iaddr 7 (.t 55) (.k (.val (.int .i64 1)))),h 57 7 56,x 58 (.call true 155 [.t 53,
 .t 57]),m 4 58] .ret) .skip)) (s [f 60 6 3,h 59 4 2,l 61 60,x 62 (.iaddr 7 (.t 61) (.k (.val (.int .i64 2)))),h 63 7 62,x 64 (.call true 155 [.t 59,.t 63]),m 4 64] .ret)) (s [q 66 .eql 7 6,m 65 66] (.cond 65 (s [f 67 2 3,l 68 67,f 69 3 2,
 l 70 69,n 71 70,o 72 .lss 68 71] (.cond 72 (s [f 73 3 2,l 74 73,f 75 2 3,l 76 75,i 77 1 74 76,l 78 77,m 4 78] .ret) .skip)) (s [q 80 .eql 7 8,m 79 80] (.cond 79 (s [f 81 1 2,f 84 6 3,l 82 81,h 83 4 2,l 85 84,x 86 (.iaddr 7 (.t 85) (.k
 (.val (.int .i64 0)))),h 87 7 86,x 88 (.call true 155 [.t 83,.t 87]),h 89 7 3,x 90 (.callv true (.t 82) [.t 88,.t 89]),m 4 90] .ret) .skip)))))))))))))))) (s [k 4 0] .ret))),[.t 4]⟩
theorem i155:iF 155 g155:=jF Tryz.func155
def g156:GFun:=⟨⟨27,[]⟩,(s [b 4 false] (.seq (s [k 5 0] (B 0 (.seq (s [m 6 5,m 7 1,n 8 7,o 9 .lss 6 8] (.cond 9 .skip (.exit 0))) (.seq (.block 1 (s [m 12 1,m 13 5,i 14 1 12 13,l 15 14,q 16 .geq 15 0,m 17 16,y 18 17 (.mov (.t 0)),
 y 19 17 (.mov (.t 1)),y 20 17 (.mov (.t 5)),y 21 17 (.iaddr 1 (.t 19) (.t 20)),y 22 17 (r 1 21),y 23 17 (.iaddr 1 (.t 18) (.t 22)),y 24 17 (r 1 23),y 25 17 (.not (.t 24)),x 26 (.pick (.t 17) (.t 25) (.k (.val (.bool false))))] (.cond 26
 (s [b 4 false] .ret) .skip))) (.reg [m 10 5,q 11 .add 10 1,m 5 11]))))) (s [b 4 true] .ret))),[.t 4]⟩
theorem i156:iF 156 g156:=jF Tryz.func156
def g157:GFun:=⟨⟨30,[2,3,4]⟩,(s [a 2 6 0,a 3 2 1,u 4 7,b 5 false] (.seq (s [k 6 0] (B 0 (.seq (s [m 7 6,f 8 4 2,l 9 8,n 10 9,o 11 .lss 7 10] (.cond 11 .skip (.exit 0))) (.seq (.block 1 (s [f 14 4 2,m 16 6,l 15 14,i 17 9 15 16,
 e 18 0 2 17,h 19 2 18,h 20 2 3,x 21 (.aeq false [1,2] (.t 19) (.t 20))] (.cond 21 (s [f 22 4 2,l 23 22,m 24 6,i 25 9 23 24,e 26 2 7 25,h 27 7 26,c 28 177 [.t 27],t 4 7 28,b 5 true] .ret) .skip))) (.reg [m 12 6,q 13 .add 12 1,m 6 13])))))
 (s [x 29 (.build [(.val (.int .i64 0)),(.val (.int .i64 0)),(.val (.int .i64 0)),(.val (.int .i64 0)),(.val (.string (ByteArray.mk #[]))),(.val (.string (ByteArray.mk #[]))),(.val (.slice none 0 0))] []),t 4 7 29,b 5 false] .ret))),
 [(.c 4 7 true),.t 5]⟩
theorem i157:iF 157 g157:=jF Tryz.func157
def g158:GFun:=⟨⟨15,[1]⟩,(s [a 1 7 0,b 2 false] (s [h 3 7 1,c 4 194 [.t 3,(.k (.val (.int .i64 24)))],q 5 .geq 4 0,m 6 5,y 7 6 (j 7 1),y 8 6 (.call false 195 [.t 7]),y 9 6 (.bin .leq (.t 8) (.k (.val (.int .i64 6)))),x 10 (.pick
 (.t 6) (.t 9) (.k (.val (.bool false)))),m 11 10,y 12 11 (j 7 1),y 13 11 (.call false 196 [.t 12]),x 14 (.pick (.t 11) (.t 13) (.k (.val (.bool false)))),m 2 14] .ret)),[.t 2]⟩
theorem i158:iF 158 g158:=jF Tryz.func158
def g159:GFun:=⟨⟨88,[4]⟩,(s [a 4 7 0,k 8 0] (.seq (s [f 9 0 4,l 10 9] (.block 0 (s [q 12 .eql 10 1,m 11 12] (.cond 11 (s [f 13 1 4,l 14 13,m 8 14] .ret) (s [q 16 .eql 10 2,m 15 16] (.cond 15 (s [m 17 2,m 8 17] .ret) (s [q 19 .eql 10 3,
 m 18 19] (.cond 18 (s [m 20 1,f 21 2 4,l 22 21,f 23 5 4,l 24 23,x 25 (.build [(.val (.int .i64 0)),(.val (.string (ByteArray.mk #[])))] [(0,(1,(.t 22))),(1,(1,(.t 24)))]),c 26 197 [.t 20,.t 25],m 8 26] .ret) (s [q 28 .eql 10 4,m 27 28]
 (.cond 27 (s [f 29 1 4,f 31 6 4,m 35 1,m 36 2,m 37 3,f 39 6 4,m 43 1,m 44 2,m 45 3,l 30 29,l 32 31,x 33 (.iaddr 7 (.t 32) (.k (.val (.int .i64 0)))),h 34 7 33,x 38 (.call true 159 [.t 34,.t 35,.t 36,.t 37]),l 40 39,x 41 (.iaddr 7 (.t 40)
 (.k (.val (.int .i64 1)))),h 42 7 41,x 46 (.call true 159 [.t 42,.t 43,.t 44,.t 45]),x 47 (.call true 198 [.t 30,.t 38,.t 46]),m 8 47] .ret) (s [q 49 .eql 10 5,m 48 49] (.cond 48 (.seq (s [f 50 6 4,l 51 50,x 52 (.iaddr 7 (.t 51) (.k
 (.val (.int .i64 0)))),h 53 7 52,m 54 1,m 55 2,m 56 3,c 57 159 [.t 53,.t 54,.t 55,.t 56],q 58 .neq 57 0] (.cond 58 (s [f 59 6 4,l 60 59,x 61 (.iaddr 7 (.t 60) (.k (.val (.int .i64 1)))),h 62 7 61,m 63 1,m 64 2,m 65 3,c 66 159 [.t 62,.t 63,
 .t 64,.t 65],m 8 66] .ret) .skip)) (s [f 67 6 4,l 68 67,x 69 (.iaddr 7 (.t 68) (.k (.val (.int .i64 2)))),h 70 7 69,m 71 1,m 72 2,m 73 3,c 74 159 [.t 70,.t 71,.t 72,.t 73],m 8 74] .ret)) (s [q 76 .eql 10 6,m 75 76] (.cond 75 (s [f 77 2 4,
 l 78 77,m 79 3,n 80 79,q 81 .sub 80 1,c 82 64 [.t 78,(.k (.val (.int .i64 0))),.t 81]] (.cond 82 (s [m 83 3,f 84 2 4,l 85 84,i 86 1 83 85,l 87 86,m 8 87] .ret) .skip)) .skip)))))))))))))) (s [k 8 0] .ret))),[.t 8]⟩
theorem i159:iF 159 g159:=jF Tryz.func159
def g160:GFun:=⟨⟨19,[]⟩,(s [k 4 0] (.seq (s [m 6 0,n 7 6,k 8 0] (B 0 (s [o 9 .lss 8 7] (C 9 0 (.seq (.block 1 (s [m 10 8,m 5 10] (s [m 11 1,m 12 0,m 13 5,i 14 2 12 13,h 15 2 14,x 16 (.callv false (.t 11) [.t 15])] (.cond 16 (s [m 17 5,
 m 4 17] .ret) .skip)))) (.reg [q 18 .add 8 1,m 8 18])))))) (s [k 4 (-1)] .ret))),[.t 4]⟩
theorem i160:iF 160 g160:=jF Tryz.func160
def g161:GFun:=⟨⟨56,[2,3,7]⟩,(s [a 2 2 0,a 3 6 1,x 4 (.mov (.k (.val (.slice none 0 0))))] (s [x 11 (.bslice 2 [] 0 true []),m 5 11] (.seq (s [k 6 0] (B 0 (.seq (s [m 12 6,f 13 2 3,l 14 13,n 15 14,o 16 .leq 12 15] (.cond 16 .skip
 (.exit 0))) (.seq (.block 1 (s [m 22 6,u 7 2,h 20 2 2,h 21 6 3,x 23 (.call true 162 [.t 21,.t 22]),x 24 (.call true 72 [.t 20,.t 23]),m 19 24,v 25 19 0,v 26 19 1,t 7 2 25,m 8 26] (s [k 9 1] (.seq (s [m 27 6,q 28 .eql 27 0] (.cond 28
 (.reg [k 9 2]) .skip)) (s [k 10 0] (B 2 (.seq (s [m 29 10,f 30 1 7,l 31 30,n 32 31,o 33 .lss 29 32] (.cond 33 .skip (.exit 2))) (.seq (.block 3 (s [f 36 1 7,l 37 36,m 38 10,i 39 4 37 38,f 40 2 39,l 41 40,m 42 9,o 43 .eql 41 42] (.cond 43
 (.reg [m 44 5,m 45 6,f 46 1 7,l 47 46,m 48 10,i 49 4 47 48,f 50 0 49,l 51 50,x 52 (.build [(.val (.int .i64 0)),(.val (.string (ByteArray.mk #[])))] [(0,(1,(.t 45))),(1,(1,(.t 51)))]),x 53 (.bslice 2 [] 1 true [(0,(.t 52))]),x 54
 (.append 2 24 (.t 44) (.t 53)),m 5 54]) .skip))) (.reg [m 34 10,q 35 .add 34 1,m 10 35]))))))))) (.reg [m 17 6,q 18 .add 17 1,m 6 18]))))) (s [m 55 5,m 4 55] .ret)))),[.t 4]⟩
theorem i161:iF 161 g161:=jF Tryz.func161
def g162:GFun:=⟨⟨21,[2]⟩,(s [a 2 6 0,x 4 (.mov (.k (.val (.string (ByteArray.mk #[])))))] (.seq (s [m 5 1,q 6 .eql 5 0] (.cond 6 (s [f 7 1 2,l 8 7,m 4 8] .ret) .skip)) (.seq (s [m 9 1,f 10 2 2,l 11 10,n 12 11,c 13 64 [.t 9,(.k (.val
 (.int .i64 1))),.t 12],w 14 13] (.cond 14 (s [x 4 (.mov (.k (.val (.string (ByteArray.mk #[])))))] .ret) .skip)) (s [f 15 2 2,l 16 15,m 17 1,q 18 .sub 17 1,i 19 1 16 18,l 20 19,m 4 20] .ret)))),[.t 4]⟩
theorem i162:iF 162 g162:=jF Tryz.func162
def g163:GFun:=⟨⟨155,[7,8,12,13,14,3000124,3000129,3000110]⟩,(s [a 7 2 1,a 8 6 2,u 12 7] (.seq (s [m 19 4,q 20 .lss 19 2,m 21 20,z 22 21 (.mov (.t 0)),z 23 21 (.call false 41 [.t 22,(.k (.val (.int .i64 3)))]),x 24 (.pick (.t 21) (.k
 (.val (.bool true))) (.t 23))] (.cond 24 (.seq (s [m 25 3,q 26 .eql 25 1,m 27 26,y 28 27 (p 1 3 8),y 29 27 (r 1 28),x 30 (.pick (.t 27) (.t 29) (.k (.val (.bool false)))),m 31 30,y 32 31 (.mov (.t 0)),y 33 31 (.call false 41 [.t 32,(.k
 (.val (.int .i64 3)))]),x 34 (.pick (.t 31) (.t 33) (.k (.val (.bool false))))] (.cond 34 (s [x 35 (.build [(.val (.int .i64 0)),(.val (.int .i64 0)),(.val (.int .i64 0)),(.val (.int .i64 0)),(.val (.string (ByteArray.mk #[]))),(.val
 (.string (ByteArray.mk #[]))),(.val (.slice none 0 0))] [(0,(1,(.k (.val (.int .i64 2)))))]),t 12 7 35] .ret) .skip)) (s [m 36 0,m 37 3,h 38 2 7,h 39 6 8,m 40 3,c 41 165 [.t 38,.t 39,.t 40],c 42 164 [.t 36,.t 37,.t 41],
 t 12 7 42] .ret)) .skip)) (.seq (s [m 43 5,m 44 43,y 45 44 (.mov (.t 0)),y 46 44 (.call false 41 [.t 45,(.k (.val (.int .i64 4)))]),x 47 (.pick (.t 44) (.t 46) (.k (.val (.bool false))))] (.cond 47 (s [f 48 0 7,m 50 0,f 51 0 7,u 13 2,
 l 49 48,l 52 51,n 53 52,x 54 (.calla 42 [.t 50,.t 53]),i 55 2 49 54,h 56 2 55,t 13 2 56] (s [f 57 1 13,m 59 0,f 60 1 13,u 14 4,l 58 57,l 61 60,n 62 61,x 63 (.calla 42 [.t 59,.t 62]),i 64 4 58 63,h 65 4 64,t 14 4 65] (s [f 66 1 14,l 67 66,
 m 68 3,o 69 .eql 67 68] (.cond 69 (s [f 70 0 13,f 72 0 14,m 74 0,l 71 70,l 73 72,h 75 2 7,h 76 6 8,x 77 (.call true 165 [.t 75,.t 76,(.k (.val (.int .i64 4)))]),x 78 (.calla 164 [.t 74,(.k (.val (.int .i64 4))),.t 77]),x 79
 (.bslice 7 [] 1 true [(0,(.t 78))]),x 80 (.build [(.val (.int .i64 0)),(.val (.int .i64 0)),(.val (.int .i64 0)),(.val (.int .i64 0)),(.val (.string (ByteArray.mk #[]))),(.val (.string (ByteArray.mk #[]))),(.val (.slice none 0 0))] [(0,(1,
 (.k (.val (.int .i64 8))))),(4,(1,(.t 71))),(5,(1,(.t 73))),(6,(1,(.t 79)))]),t 12 7 80] .ret) .skip)))) .skip)) (.seq (s [m 81 0,c 82 41 [.t 81,(.k (.val (.int .i64 6)))]] (.cond 82 (s [m 83 0,m 86 4,q 87 .sub 86 1,m 88 5,m 90 0,m 93 3,
 m 94 4,q 95 .sub 94 1,m 96 5,m 98 0,m 101 3,m 102 4,q 103 .sub 102 1,m 104 5,h 84 2 7,h 85 6 8,h 91 2 7,h 92 6 8,h 99 2 7,h 100 6 8,x 89 (.calla 163 [.t 83,.t 84,.t 85,(.k (.val (.int .i64 3))),.t 87,.t 88]),x 97 (.calla 163 [.t 90,.t 91,
 .t 92,.t 93,.t 95,.t 96]),x 105 (.calla 163 [.t 98,.t 99,.t 100,.t 101,.t 103,.t 104]),x 106 (.bslice 7 [] 3 true [(0,(.t 89)),(1,(.t 97)),(2,(.t 105))]),x 107 (.build [(.val (.int .i64 0)),(.val (.int .i64 0)),(.val (.int .i64 0)),(.val
 (.int .i64 0)),(.val (.string (ByteArray.mk #[]))),(.val (.string (ByteArray.mk #[]))),(.val (.slice none 0 0))] [(0,(1,(.k (.val (.int .i64 5))))),(6,(1,(.t 106)))]),t 12 7 107] .ret) .skip)) (s [k 15 0] (.seq (s [m 108 3] (.block 0
 (s [q 113 .eql 108 4,m 112 113] (.cond 112 (s [m 114 0,m 115 3,h 116 2 7,h 117 6 8,m 118 3,c 119 165 [.t 116,.t 117,.t 118],c 120 164 [.t 114,.t 115,.t 119],t 12 7 120] .ret) (s [q 122 .eql 108 1,m 121 122] (.cond 121 (.reg [m 123 0,
 x 124 (.bslro 1 [] 6 false [(0,(.k (.val (.int .i64 1)))),(1,(.k (.val (.int .i64 1)))),(2,(.k (.val (.int .i64 2)))),(3,(.k (.val (.int .i64 3)))),(4,(.k (.val (.int .i64 4)))),(5,(.k (.val (.int .i64 5))))]),c 125 110 [.t 123,.t 124],
 m 15 125]) (s [q 127 .eql 108 2,m 126 127] (.cond 126 (.reg [m 128 0,x 129 (.bslro 1 [] 5 false [(0,(.k (.val (.int .i64 6)))),(1,(.k (.val (.int .i64 6)))),(2,(.k (.val (.int .i64 7)))),(3,(.k (.val (.int .i64 8)))),(4,(.k (.val
 (.int .i64 12))))]),c 130 110 [.t 128,.t 129],m 15 130]) (.reg [m 109 0,x 110 (.bslro 1 [] 3 false [(0,(.k (.val (.int .i64 9)))),(1,(.k (.val (.int .i64 10)))),(2,(.k (.val (.int .i64 11))))]),c 111 110 [.t 109,.t 110],
 m 15 111]))))))))) (s [m 132 15,c 133 199 [.t 132],m 131 133,v 134 131 0,v 135 131 1,v 136 131 2,m 16 134,m 17 135,m 18 136] (s [m 137 15,m 138 0,m 141 16,m 142 4,q 143 .sub 142 1,m 144 5,m 146 0,m 149 17,m 150 4,q 151 .sub 150 1,m 152 5,
 h 139 2 7,h 140 6 8,h 147 2 7,h 148 6 8,x 145 (.calla 163 [.t 138,.t 139,.t 140,.t 141,.t 143,.t 144]),x 153 (.calla 163 [.t 146,.t 147,.t 148,.t 149,.t 151,.t 152]),x 154 (.calla 200 [.t 137,.t 145,.t 153]),t 12 7 154] .ret)))))))),
 [(.c 12 7 true)]⟩
theorem i163:iF 163 g163:=jF Tryz.func163 [(6,8208),(7,8208),(9,131088),(11,35184908967952),(22,42949804048)]
def g164:GFun:=⟨⟨52,[6,7]⟩,(s [u 6 7] (.seq (s [m 8 2,n 9 8,q 10 .gtr 9 0,m 11 10,y 12 11 (.mov (.t 0)),y 13 11 (.call false 41 [.t 12,(.k (.val (.int .i64 4)))]),y 14 11 (.not (.t 13)),x 15 (.pick (.t 11) (.t 14) (.k (.val
 (.bool false))))] (.cond 15 (s [m 16 2,m 17 0,m 18 2,n 19 18,c 20 42 [.t 17,.t 19],i 21 2 16 20,h 22 2 21,u 7 2,t 7 2 22] (s [f 23 0 7,l 24 23,f 25 1 7,l 26 25,x 27 (.build [(.val (.int .i64 0)),(.val (.int .i64 0)),(.val (.int .i64 0)),
 (.val (.int .i64 0)),(.val (.string (ByteArray.mk #[]))),(.val (.string (ByteArray.mk #[]))),(.val (.slice none 0 0))] [(0,(1,(.k (.val (.int .i64 3))))),(2,(1,(.t 24))),(5,(1,(.t 26)))]),t 6 7 27] .ret)) .skip)) (.seq (s [m 28 1]
 (.block 0 (s [q 30 .eql 28 4,m 29 30] (.cond 29 (.seq (s [m 31 0,c 32 41 [.t 31,(.k (.val (.int .i64 3)))]] (.cond 32 (s [x 33 (.build [(.val (.int .i64 0)),(.val (.int .i64 0)),(.val (.int .i64 0)),(.val (.int .i64 0)),(.val (.string
 (ByteArray.mk #[]))),(.val (.string (ByteArray.mk #[]))),(.val (.slice none 0 0))] [(0,(1,(.k (.val (.int .i64 7)))))]),t 6 7 33] .ret) .skip)) (s [x 34 (.build [(.val (.int .i64 0)),(.val (.int .i64 0)),(.val (.int .i64 0)),(.val
 (.int .i64 0)),(.val (.string (ByteArray.mk #[]))),(.val (.string (ByteArray.mk #[]))),(.val (.slice none 0 0))] [(0,(1,(.k (.val (.int .i64 6)))))]),t 6 7 34] .ret)) (s [q 36 .eql 28 3,m 35 36] (.cond 35 (s [m 37 0,c 38 42 [.t 37,(.k
 (.val (.int .i64 2)))],m 39 1,c 40 201 [.t 38,.t 39],t 6 7 40] .ret) (s [q 42 .eql 28 2,m 41 42] (.cond 41 (s [m 43 0,c 44 42 [.t 43,(.k (.val (.int .i64 12)))],x 45 (.conv .u64 (.t 44)),x 46 (.bin .shl (.k (.val (.int .i64 1))) (.t 45)),
 m 47 1,c 48 201 [.t 46,.t 47],t 6 7 48] .ret) .skip)))))))) (s [m 49 0,c 50 42 [.t 49,(.k (.val (.int .i64 9)))],c 51 201 [.t 50,(.k (.val (.int .i64 1)))],t 6 7 51] .ret)))),[(.c 6 7 true)]⟩
theorem i164:iF 164 g164:=jF Tryz.func164
def g165:GFun:=⟨⟨73,[3,4,9,12]⟩,(s [a 3 2 0,a 4 6 1,x 6 (.mov (.k (.val (.slice none 0 0))))] (s [x 14 (.bslice 2 [] 0 true []),m 7 14] (.seq (s [k 8 0] (B 0 (.seq (s [m 15 8,f 16 2 4,l 17 16,n 18 17,o 19 .leq 15 18] (.cond 19 .skip
 (.exit 0))) (.seq (.block 1 (s [m 25 8,u 9 2,h 23 2 3,h 24 6 4,x 26 (.call true 162 [.t 24,.t 25]),x 27 (.call true 72 [.t 23,.t 26]),m 22 27,v 28 22 0,v 29 22 1,t 9 2 28,m 10 29] (s [k 11 0] (B 2 (.seq (s [m 30 11,f 31 1 9,l 32 31,
 n 33 32,o 34 .lss 30 33] (.cond 34 .skip (.exit 2))) (.seq (.block 3 (s [f 37 1 9,l 38 37,m 39 11,i 40 4 38 39,h 41 4 40,u 12 4,t 12 4 41] (s [m 42 8,q 43 .eql 42 0,m 44 43,y 45 44 (p 1 2 12),y 46 44 (r 1 45),y 47 44 (.bin .eql (.t 46)
 (.k (.val (.int .i64 1)))),x 48 (.pick (.t 44) (.t 47) (.k (.val (.bool false)))),m 49 48,z 50 49 (.mov (.t 8)),z 51 49 (.bin .gtr (.t 50) (.k (.val (.int .i64 0)))),z 52 49 (.mov (.t 51)),y 53 52 (p 1 2 12),y 54 52 (r 1 53),y 55 52
 (.bin .eql (.t 54) (.k (.val (.int .i64 2)))),z 56 49 (.pick (.t 52) (.t 55) (.k (.val (.bool false)))),x 57 (.pick (.t 49) (.k (.val (.bool true))) (.t 56)),m 13 57] (s [f 58 1 12,l 59 58,m 60 2,o 61 .eql 59 60,m 62 61,y 63 62 (.mov
 (.t 13)),x 64 (.pick (.t 62) (.t 63) (.k (.val (.bool false))))] (.cond 64 (.reg [m 65 7,m 66 8,f 67 0 12,l 68 67,x 69 (.build [(.val (.int .i64 0)),(.val (.string (ByteArray.mk #[])))] [(0,(1,(.t 66))),(1,(1,(.t 68)))]),x 70
 (.bslice 2 [] 1 true [(0,(.t 69))]),x 71 (.append 2 24 (.t 65) (.t 70)),m 7 71]) .skip))))) (.reg [m 35 11,q 36 .add 35 1,m 11 36]))))))) (.reg [m 20 8,q 21 .add 20 1,m 8 21]))))) (s [m 72 7,m 6 72] .ret)))),[.t 6]⟩
theorem i165:iF 165 g165:=jF Tryz.func165
def g166:GFun:=⟨⟨101,[5,8,13,17]⟩,(s [a 5 2 1,u 8 6] (s [h 19 2 5,m 20 2,c 21 202 [.t 19,.t 20],m 9 21] (s [x 22 (.build [(.val (.string (ByteArray.mk #[]))),(.val (.string (ByteArray.mk #[]))),(.val (.slice none 0 0)),(.val
 (.bool false)),(.val (.slice none 0 0)),(.val (.slice none 0 0))] []),x 10 (.alloc 6 (.agg [(.val (.string (ByteArray.mk #[]))),(.val (.string (ByteArray.mk #[]))),(.val (.slice none 0 0)),(.val (.bool false)),(.val (.slice none 0 0)),
 (.val (.slice none 0 0))])),(.mk none none (.store 6 (.t 10) (.t 22)))] (s [h 23 2 5,c 24 203 [.t 23],m 11 24] (.seq (s [k 12 0] (B 0 (.seq (s [m 25 12,m 26 9,n 27 26,o 28 .lss 25 27] (.cond 28 .skip (.exit 0))) (.seq (.block 1 (s [m 33 9,
 m 34 12,i 35 1 33 34,u 13 6,h 32 2 5,l 36 35,x 37 (.call true 76 [.t 32,.t 36]),m 31 37,v 38 31 0,v 39 31 1,t 13 6 38,m 14 39] (s [b 15 true] (.seq (s [k 16 0] (B 2 (.seq (s [m 40 16,f 41 2 13,l 42 41,n 43 42,o 44 .lss 40 43]
 (.cond 44 .skip (.exit 2))) (.seq (.block 3 (.reg [m 47 15,m 48 47,y 49 48 (.mov (.t 11)),y 51 48 (p 1 2 13),y 53 48 (.mov (.t 16)),y 60 48 (.mov (.t 11)),y 62 48 (.mov (.t 2)),y 50 48 (j 2 5),y 52 48 (r 1 51),y 54 48 (.iaddr 1 (.t 52)
 (.t 53)),y 55 48 (r 1 54),y 56 48 (.call true 204 [.t 50,.t 55]),y 57 48 (.call true 121 [(.k (.val (.int .i64 0))),.t 56]),y 58 48 (.iaddr 1 (.t 49) (.t 57)),y 59 48 (r 1 58),y 61 48 (j 2 5),y 63 48 (.call true 204 [.t 61,.t 62]),
 y 64 48 (.call true 121 [(.k (.val (.int .i64 0))),.t 63]),y 65 48 (.iaddr 1 (.t 60) (.t 64)),y 66 48 (r 1 65),y 67 48 (.bin .lss (.t 59) (.t 66)),x 68 (.pick (.t 48) (.t 67) (.k (.val (.bool false)))),m 15 68])) (.reg [m 45 16,
 q 46 .add 45 1,m 16 46]))))) (s [m 69 15,m 70 69,y 71 70 (p 1 0 10),y 72 70 (r 1 71),y 73 70 (.bin .eql (.t 72) (.k (.val (.string (ByteArray.mk #[]))))),x 74 (.pick (.t 70) (.t 73) (.k (.val (.bool false))))] (.cond 74 (.reg [h 75 6 13,
 (.mk none none (.store 6 (.t 10) (.t 75)))]) .skip)))))) (.reg [m 29 12,q 30 .add 29 1,m 12 30]))))) (.seq (s [m 76 9,n 77 76,q 78 .eql 77 0,m 79 78,z 80 79 (.mov (.t 3)),z 81 79 (.bin .lss (.t 80) (.k (.val (.int .i64 5)))),x 82 (.pick
 (.t 79) (.k (.val (.bool true))) (.t 81)),m 83 82,z 84 83 (.mov (.t 0)),z 85 83 (.call false 41 [.t 84,(.k (.val (.int .i64 4)))]),x 86 (.pick (.t 83) (.k (.val (.bool true))) (.t 85))] (.cond 86 (s [h 87 6 10,t 8 6 87] .ret) .skip))
 (s [m 90 9,m 91 0,m 92 9,n 93 92,u 17 6,h 89 2 5,x 94 (.calla 42 [.t 91,.t 93]),i 95 1 90 94,l 96 95,x 97 (.call true 76 [.t 89,.t 96]),m 88 97,v 98 88 0,v 99 88 1,t 17 6 98,m 18 99] (s [h 100 6 17,t 8 6 100] .ret)))))))),[(.c 8 6 true)]⟩
theorem i166:iF 166 g166:=jF Tryz.func166 [(17,2064)]
def g167:GFun:=⟨⟨96,[4,4037005,5029005]⟩,(s [x 2 (.box 6 (.t 0)),u 4 1] (s [f 12 1 2,(.mk none none (.store 1 (.t 12) (.k (.val (.int .i64 (-1))))))] (s [f 13 2 2,(.mk none none (.store 1 (.t 13) (.k (.val (.int .i64 0)))))] (s [x 14
 (.bslice 1 [] 0 false []),f 15 5 2,(.mk none none (.store 1 (.t 15) (.t 14)))] (s [h 16 6 2,x 17 (.bslice 6 [] 1 true [(0,(.t 16))]),x 18 (.build [(.val (.slice none 0 0))] [(0,(1,(.t 17)))]),x 5 (.alloc 1 (.agg [(.val
 (.slice none 0 0))])),(.mk none none (.store 1 (.t 5) (.t 18)))] (.seq (s [k 6 0] (B 0 (.seq (s [m 19 6,m 20 1,n 21 20,o 22 .lss 19 21] (.cond 22 .skip (.exit 0))) (.seq (.block 1 (s [f 25 0 5,l 26 25,n 27 26,m 7 27] (s [f 28 0 5,f 30 0 5,
 m 35 7,x 29 (.ldx 1 false 28 5),l 31 30,x 32 (.iaddr 6 (.t 31) (.k (.val (.int .i64 0)))),f 33 5 32,l 34 33,x 36 (.bslice 1 [] 1 false [(0,(.t 35))]),x 37 (.appx [5] 1 8 (.t 34) (.t 36)),x 38 (.iaddr 6 (.t 29) (.k (.val (.int .i64 0)))),
 f 39 5 38,(.mk none none (.store 1 (.t 39) (.t 37)))] (s [k 8 0] (B 2 (.seq (s [m 40 8,m 41 1,m 42 6,i 43 1 41 42,f 44 0 43,l 45 44,n 46 45,o 47 .lss 40 46] (.cond 47 .skip (.exit 2))) (.seq (.block 3 (s [m 50 1,m 51 6,i 52 1 50 51,
 f 53 0 52,l 54 53,m 55 8,i 56 6 54 55,h 57 6 56,x 9 (.alloc 6 (.agg [(.val (.int .i64 0)),(.val (.int .i64 0)),(.val (.int .i64 0)),(.val (.int .i64 0)),(.val (.string (ByteArray.mk #[]))),(.val (.slice none 0 0))])),(.mk none none
 (.store 6 (.t 9) (.t 57)))] (s [f 58 1 9,l 59 58,m 60 7,o 61 .add 59 60,f 62 1 9,(.mk none none (.store 1 (.t 62) (.t 61)))] (.seq (s [m 63 8,q 64 .eql 63 0] (.cond 64 (s [f 65 1 9,(.mk none none (.store 1 (.t 65) (.k (.val
 (.int .i64 0)))))] (.reg [m 66 6,q 67 .add 66 1,f 68 2 9,(.mk none none (.store 1 (.t 68) (.t 67)))])) .skip)) (s [x 69 (.bslice 1 [] 0 false []),m 10 69] (.seq (s [k 11 0] (B 4 (.seq (s [m 70 11,f 71 5 9,l 72 71,n 73 72,o 74 .lss 70 73]
 (.cond 74 .skip (.exit 4))) (.seq (.block 5 (.reg [m 77 10,f 78 5 9,l 79 78,m 80 11,i 81 1 79 80,l 82 81,m 83 7,o 84 .add 82 83,x 85 (.bslice 1 [] 1 false [(0,(.t 84))]),x 86 (.append 1 8 (.t 77) (.t 85)),m 10 86])) (.reg [m 75 11,
 q 76 .add 75 1,m 11 76]))))) (s [m 87 10,f 88 5 9,(.mk none none (.store 1 (.t 88) (.t 87)))] (.reg [f 89 0 5,l 90 89,h 91 6 9,x 92 (.bslice 6 [] 1 true [(0,(.t 91))]),x 93 (.append 6 72 (.t 90) (.t 92)),f 94 0 5,(.mk none none (.store 1
 (.t 94) (.t 93)))])))))))) (.reg [m 48 8,q 49 .add 48 1,m 8 49])))))))) (.reg [m 23 6,q 24 .add 23 1,m 6 24]))))) (s [h 95 1 5,t 4 1 95] .ret))))))),[(.c 4 1 true)]⟩
theorem i167:iF 167 g167:=jF Tryz.func167
def g168:GFun:=⟨⟨67,[1,7]⟩,(s [a 1 2 0,k 2 0,k 3 0] (.seq (s [f 9 0 1,l 10 9,n 11 10,c 12 57 [.t 11,(.k (.val (.int .i64 1))),(.k (.val (.int .i64 4)))],w 13 12,m 14 13,z 15 14 (p 1 1 1),z 16 14 (r 1 15),z 17 14 (.len (.t 16)),z 18 14
 (.call false 57 [.t 17,(.k (.val (.int .i64 1))),(.k (.val (.int .i64 8)))]),z 19 14 (.not (.t 18)),x 20 (.pick (.t 14) (.k (.val (.bool true))) (.t 19))] (.cond 20 (s [k 2 1,k 3 0] .ret) .skip)) (.seq (s [h 21 2 1,c 22 205 [.t 21],
 m 4 22] (s [m 23 4,q 24 .geq 23 0] (.cond 24 (s [m 25 4,k 2 1,m 3 25] .ret) .skip))) (.seq (s [f 26 0 1,l 27 26,x 28 (.iaddr 2 (.t 27) (.k (.val (.int .i64 0)))),f 29 1 28,l 30 29,x 31 (.call false 145 [.t 30,(.k (.clo 206 []))])]
 (.cond 31 (s [k 2 2,k 3 0] .ret) .skip)) (.seq (s [k 5 3] (B 0 (.seq (s [m 32 5,q 33 .leq 32 6] (.cond 33 .skip (.exit 0))) (.seq (.block 1 (s [f 36 1 1,l 37 36,n 38 37,k 39 0] (B 2 (s [o 40 .lss 39 38] (C 40 2 (.seq (.block 3 (s [m 41 39,
 i 42 6 37 39,h 43 6 42,u 7 6,m 6 41,t 7 6 43] (s [b 8 false] (.seq (s [m 44 5] (.block 4 (s [q 49 .eql 44 3,m 48 49] (.cond 48 (.reg [h 50 2 1,h 51 6 7,c 52 207 [.t 50,.t 51],m 8 52]) (s [q 54 .eql 44 4,m 53 54] (.cond 53 (.reg [h 55 2 1,
 h 56 6 7,c 57 208 [.t 55,.t 56],m 8 57]) (s [q 59 .eql 44 5,m 58 59] (.cond 58 (.reg [h 60 2 1,h 61 6 7,c 62 209 [.t 60,.t 61],m 8 62]) (.reg [h 45 2 1,h 46 6 7,c 47 210 [.t 45,.t 46],m 8 47]))))))))) (s [m 63 8] (.cond 63 (s [m 64 5,
 m 65 6,m 2 64,m 3 65] .ret) .skip)))))) (.reg [q 66 .add 39 1,m 39 66]))))))) (.reg [m 34 5,q 35 .add 34 1,m 5 35]))))) (s [k 2 0,k 3 0] .ret)))))),[.t 2,.t 3]⟩
theorem i168:iF 168 g168:=jF Tryz.func168
def g169:GFun:=⟨⟨80,[2,3,6,7,10,11,13]⟩,(s [a 2 2 0,a 3 6 1,b 4 false] (.seq (s [f 15 4 3,l 16 15,n 17 16,k 18 0] (B 0 (s [o 19 .lss 18 17] (C 19 0 (.seq (.block 1 (s [i 20 9 16 18,h 21 9 20,u 6 9,t 6 9 21] (s [h 23 2 2,h 24 6 3,
 e 25 0 2 6,h 26 2 25,c 27 211 [.t 23,.t 24,.t 26],m 22 27,v 28 22 0,v 29 22 1,u 7 4,t 7 4 28,m 8 29] (s [e 32 2 7 6,f 35 1 7,h 30 2 2,h 31 6 3,h 33 7 32,x 34 (.call true 212 [.t 30,.t 31,.t 33]),l 36 35,o 37 .neq 34 36] (.cond 37
 (s [b 4 true] .ret) .skip))))) (.reg [q 38 .add 18 1,m 18 38])))))) (.seq (s [f 39 5 3,l 40 39,n 41 40,k 42 0] (B 2 (s [o 43 .lss 42 41] (C 43 2 (.seq (.block 3 (s [i 44 16 40 42,h 45 16 44,u 10 16,t 10 16 45] (s [h 47 2 2,f 48 0 10,
 l 49 48,c 50 82 [.t 47,.t 49],m 46 50,v 51 46 0,v 52 46 1,u 11 2,t 11 2 51,m 12 52] (s [h 54 2 11,f 55 1 10,l 56 55,c 57 188 [.t 54,.t 56],m 53 57,v 58 53 0,v 59 53 1,u 13 4,t 13 4 58,m 14 59] (s [h 60 2 2,h 61 6 3,e 62 2 7 10,h 63 7 62,
 c 64 212 [.t 60,.t 61,.t 63],q 65 .neq 64 4,m 66 65,z 67 66 (j 2 2),z 68 66 (j 6 3),z 69 66 (.faddr 9 7 true (.t 10)),z 70 66 (j 7 69),z 71 66 (.call false 212 [.t 67,.t 68,.t 70]),z 72 66 (.bin .neq (.t 71) (.k (.val (.int .i64 2)))),
 x 73 (.pick (.t 66) (.k (.val (.bool true))) (.t 72)),m 74 73,z 75 74 (p 1 2 13),z 76 74 (r 1 75),z 77 74 (.bin .neq (.t 76) (.k (.val (.int .i64 3)))),x 78 (.pick (.t 74) (.k (.val (.bool true))) (.t 77))] (.cond 78
 (s [b 4 true] .ret) .skip)))))) (.reg [q 79 .add 42 1,m 42 79])))))) (s [b 4 false] .ret)))),[.t 4]⟩
theorem i169:iF 169 g169:=jF Tryz.func169
def g170:GFun:=⟨⟨81,[1,8,10]⟩,(s [a 1 2 0,x 2 (.mov (.k (.val (.slice none 0 0))))] (s [f 14 0 1,l 15 14,n 16 15,x 17 (.mkslice 1 8 (.val (.int .i64 0)) (.t 16) (.t 16)),x 3 (.alloc 1 (.val (.slice none 0 0))),(.mk none none (.store 1
 (.t 3) (.t 17)))] (s [x 18 (.mkfn 213 [.t 1,.t 3]),m 4 18] (.seq (s [k 5 1] (B 0 (.seq (s [m 19 5,f 20 0 1,l 21 20,n 22 21,o 23 .leq 19 22] (.cond 23 .skip (.exit 0))) (.seq (.block 1 (s [l 26 3,n 27 26,x 28 (.mkslice 1 8 (.val
 (.int .i64 0)) (.t 27) (.t 27)),m 6 28] (s [m 29 6,l 30 3,x 31 (.copy 1 (.t 29) (.t 30))] (.seq (s [f 32 0 1,l 33 32,n 34 33,k 35 0] (B 2 (s [o 36 .lss 35 34] (C 36 2 (.seq (.block 3 (s [m 37 35,i 38 2 33 35,h 39 2 38,u 8 2,m 7 37,
 t 8 2 39] (.seq (s [l 40 3,m 41 7,i 42 1 40 41,l 43 42,q 44 .gtr 43 0] (.cond 44 (.exit 3) .skip)) (s [f 45 1 1,l 46 45,n 47 46,k 48 0] (B 4 (s [o 49 .lss 48 47] (C 49 4 (.seq (.block 5 (s [i 50 6 46 48,h 51 6 50,u 10 6,t 10 6 51]
 (s [f 52 1 10,l 53 52,f 54 0 8,l 55 54,o 56 .eql 53 55,m 11 56] (.seq (s [f 57 2 10,l 58 57,n 59 58,k 60 0] (B 6 (s [o 61 .lss 60 59] (C 61 6 (.seq (.block 7 (s [i 62 1 58 60,l 63 62,m 13 63] (.reg [m 64 11,m 65 64,y 66 65 (.mov (.t 4)),
 y 67 65 (.mov (.t 13)),y 68 65 (.callv false (.t 66) [.t 67]),y 69 65 (.bin .gtr (.t 68) (.k (.val (.int .i64 0)))),x 70 (.pick (.t 65) (.t 69) (.k (.val (.bool false)))),m 11 70]))) (.reg [q 71 .add 60 1,m 60 71])))))) (s [m 72 11]
 (.cond 72 (.reg [m 73 6,m 74 7,m 75 5,i 76 1 73 74,(.mk none none (.store 1 (.t 76) (.t 75)))]) .skip)))))) (.reg [q 77 .add 48 1,m 48 77]))))))))) (.reg [q 78 .add 35 1,m 35 78])))))) (.reg [m 79 6,(.mk none none (.store 1 (.t 3)
 (.t 79)))]))))) (.reg [m 24 5,q 25 .add 24 1,m 5 25]))))) (s [l 80 3,m 2 80] .ret))))),[.t 2]⟩
theorem i170:iF 170 g170:=jF Tryz.func170
def g172:GFun:=⟨⟨66,[1]⟩,(s [a 1 2 0,k 2 0,k 3 0] (.seq (s [f 8 0 1,l 9 8,n 10 9,c 11 64 [.t 10,(.k (.val (.int .i64 1))),(.k (.val (.int .i64 4)))],w 12 11,m 13 12,z 14 13 (p 1 1 1),z 15 13 (r 1 14),z 16 13 (.len (.t 15)),z 17 13
 (.call false 64 [.t 16,(.k (.val (.int .i64 1))),(.k (.val (.int .i64 8)))]),z 18 13 (.not (.t 17)),x 19 (.pick (.t 13) (.k (.val (.bool true))) (.t 18))] (.cond 19 (s [k 2 1,k 3 0] .ret) .skip)) (s [h 20 2 1,c 21 214 [.t 20],m 4 21]
 (.seq (s [m 22 4,q 23 .geq 22 0] (.cond 23 (s [m 24 4,k 2 1,m 3 24] .ret) .skip)) (.seq (s [k 5 0] (B 0 (.seq (s [m 25 5,f 26 0 1,l 27 26,x 28 (.iaddr 2 (.t 27) (.k (.val (.int .i64 0)))),f 29 1 28,l 30 29,n 31 30,o 32 .lss 25 31]
 (.cond 32 .skip (.exit 0))) (.seq (.block 1 (s [f 35 0 1,l 36 35,x 37 (.iaddr 2 (.t 36) (.k (.val (.int .i64 0)))),f 38 1 37,l 39 38,m 40 5,i 41 4 39 40,f 42 2 41,l 43 42,q 44 .eql 43 1] (.cond 44 (s [k 2 2,k 3 0] .ret) .skip)))
 (.reg [m 33 5,q 34 .add 33 1,m 5 34]))))) (.seq (s [k 6 3] (B 2 (.seq (s [m 45 6,q 46 .leq 45 6] (.cond 46 .skip (.exit 2))) (.seq (.block 3 (s [k 7 0] (B 4 (.seq (s [m 49 7,f 50 1 1,l 51 50,n 52 51,o 53 .lss 49 52] (.cond 53 .skip
 (.exit 4))) (.seq (.block 5 (s [f 57 1 1,m 59 7,m 62 6,h 56 2 1,l 58 57,i 60 6 58 59,h 61 6 60,x 63 (.call true 215 [.t 56,.t 61,.t 62])] (.cond 63 (s [m 64 6,m 65 7,m 2 64,m 3 65] .ret) .skip))) (.reg [m 54 7,q 55 .add 54 1,
 m 7 55])))))) (.reg [m 47 6,q 48 .add 47 1,m 6 48]))))) (s [k 2 0,k 3 0] .ret))))))),[.t 2,.t 3]⟩
theorem i172:iF 172 g172:=jF Tryz.func172
def g173:GFun:=⟨⟨90,[2,3,6,8,9,11]⟩,(s [a 2 2 0,a 3 6 1,b 4 false] (.seq (s [k 5 0] (B 0 (.seq (s [m 13 5,f 14 4 3,l 15 14,n 16 15,o 17 .lss 13 16] (.cond 17 .skip (.exit 0))) (.seq (.block 1 (s [f 20 4 3,l 21 20,m 22 5,i 23 9 21 22,
 h 24 9 23,u 6 9,t 6 9 24] (s [e 27 2 7 6,e 32 0 2 6,f 33 0 32,e 36 0 2 6,f 37 1 36,h 25 2 2,h 26 6 3,h 28 7 27,x 29 (.call true 216 [.t 25,.t 26,.t 28]),h 30 2 2,h 31 6 3,l 34 33,x 35 (.call true 162 [.t 31,.t 34]),l 38 37,x 39
 (.call true 217 [.t 30,.t 35,.t 38]),o 40 .neq 29 39] (.cond 40 (s [b 4 false] .ret) .skip)))) (.reg [m 18 5,q 19 .add 18 1,m 5 19]))))) (.seq (s [k 7 0] (B 2 (.seq (s [m 41 7,f 42 5 3,l 43 42,n 44 43,o 45 .lss 41 44] (.cond 45 .skip
 (.exit 2))) (.seq (.block 3 (s [f 48 5 3,l 49 48,m 50 7,i 51 16 49 50,h 52 16 51,u 8 16,t 8 16 52] (s [h 54 2 2,f 55 0 8,l 56 55,c 57 72 [.t 54,.t 56],m 53 57,v 58 53 0,v 59 53 1,u 9 2,t 9 2 58,m 10 59] (s [h 61 2 9,f 62 1 8,l 63 62,
 c 64 79 [.t 61,.t 63],m 60 64,v 65 60 0,v 66 60 1,u 11 4,t 11 4 65,m 12 66] (s [m 67 12,w 68 67,m 69 68,z 70 69 (p 1 2 11),z 71 69 (r 1 70),z 72 69 (.bin .neq (.t 71) (.k (.val (.int .i64 3)))),x 73 (.pick (.t 69) (.k (.val
 (.bool true))) (.t 72)),m 74 73,z 75 74 (j 2 2),z 76 74 (j 6 3),z 77 74 (.faddr 2 7 true (.t 8)),z 78 74 (j 7 77),z 79 74 (.call false 216 [.t 75,.t 76,.t 78]),z 80 74 (.bin .neq (.t 79) (.k (.val (.int .i64 4)))),x 81 (.pick (.t 74) (.k
 (.val (.bool true))) (.t 80)),m 82 81,z 83 82 (j 2 2),z 84 82 (j 6 3),z 85 82 (.faddr 9 7 true (.t 8)),z 86 82 (j 7 85),z 87 82 (.call false 216 [.t 83,.t 84,.t 86]),z 88 82 (.bin .neq (.t 87) (.k (.val (.int .i64 2)))),x 89 (.pick
 (.t 82) (.k (.val (.bool true))) (.t 88))] (.cond 89 (s [b 4 false] .ret) .skip)))))) (.reg [m 46 7,q 47 .add 46 1,m 7 47]))))) (s [b 4 true] .ret)))),[.t 4]⟩
theorem i173:iF 173 g173:=jF Tryz.func173
def g174:GFun:=⟨⟨9,[2]⟩,(s [a 2 2 0,b 4 false] (s [h 5 2 2,m 6 1,c 7 218 [.t 5,.t 6],q 8 .gtr 7 0,m 4 8] .ret)),[.t 4]⟩
theorem i174:iF 174 g174:=jF Tryz.func174
def g177:GFun:=⟨⟨25,[2]⟩,(s [x 1 (.box 7 (.t 0)),u 2 7] (s [x 5 (.bslice 7 [] 0 true []),m 3 5] (.seq (s [k 4 0] (B 0 (.seq (s [m 6 4,f 7 6 1,l 8 7,n 9 8,o 10 .lss 6 9] (.cond 10 .skip (.exit 0))) (.seq (.block 1 (.reg [m 13 3,f 14 6 1,
 l 15 14,m 16 4,i 17 7 15 16,h 18 7 17,c 19 177 [.t 18],x 20 (.bslice 7 [] 1 true [(0,(.t 19))]),x 21 (.append 7 88 (.t 13) (.t 20)),m 3 21])) (.reg [m 11 4,q 12 .add 11 1,m 4 12]))))) (s [m 22 3,f 23 6 1,(.mk none none (.store 1 (.t 23)
 (.t 22)))] (s [h 24 7 1,t 2 7 24] .ret))))),[(.c 2 7 true)]⟩
theorem i177:iF 177 g177:=jF Tryz.func177
def g178:GFun:=⟨⟨6,[1]⟩,(s [a 1 7 0,x 2 (.mov (.k (.val (.slice none 0 0))))] (s [h 3 7 1,x 4 (.bslice 2 [] 0 true []),c 5 220 [.t 3,.t 4],m 2 5] .ret)),[.t 2]⟩
theorem i178:iF 178 g178:=jF Tryz.func178
def g179:GFun:=⟨⟨62,[4,5,7,8]⟩,(s [a 4 2 0,a 5 1 1,a 7 2 3,u 8 2,b 9 false] (.seq (s [m 10 2,f 11 0 5,l 12 11,n 13 12,q 14 .sub 13 1,x 15 (.call true 64 [.t 10,(.k (.val (.int .i64 0))),.t 14]),w 16 15,m 17 16,z 18 17 (p 1 0 7),
 z 20 17 (p 1 0 5),z 22 17 (.mov (.t 2)),z 19 17 (r 1 18),z 21 17 (r 1 20),z 23 17 (.iaddr 6 (.t 21) (.t 22)),z 24 17 (p 1 5 23),z 25 17 (r 1 24),z 26 17 (.len (.t 25)),z 27 17 (.call true 64 [.t 19,(.k (.val (.int .i64 0))),.t 26]),
 z 28 17 (.not (.t 27)),x 29 (.pick (.t 17) (.k (.val (.bool true))) (.t 28))] (.cond 29 (s [x 30 (.build [(.val (.int .i64 0)),(.val (.string (ByteArray.mk #[])))] []),t 8 2 30,b 9 false] .ret) .skip)) (.seq (s [f 31 0 7,l 32 31,
 q 33 .gtr 32 0] (.cond 33 (.reg [f 34 0 5,m 36 2,f 40 0 7,l 35 34,i 37 6 35 36,f 38 5 37,l 39 38,l 41 40,q 42 .sub 41 1,i 43 1 39 42,l 44 43,m 2 44]) .skip)) (.seq (s [m 45 2,f 46 0 5,l 47 46,n 48 47,q 49 .sub 48 1,c 50 64 [.t 45,(.k
 (.val (.int .i64 0))),.t 49],w 51 50] (.cond 51 (s [x 52 (.build [(.val (.int .i64 0)),(.val (.string (ByteArray.mk #[])))] []),t 8 2 52,b 9 false] .ret) .skip)) (s [f 53 0 5,m 55 2,f 59 1 7,l 54 53,i 56 6 54 55,f 57 0 56,l 58 57,l 60 59,
 x 61 (.build [(.val (.int .i64 0)),(.val (.string (ByteArray.mk #[])))] [(0,(1,(.t 58))),(1,(1,(.t 60)))]),t 8 2 61,b 9 true] .ret))))),[(.c 8 2 true),.t 9]⟩
theorem i179:iF 179 g179:=jF Tryz.func179
def g180:GFun:=⟨⟨12,[1]⟩,(s [a 1 7 0,x 2 (.mov (.k (.val (.slice none 0 0))))] (s [x 4 (.bslice 2 [] 0 true []),x 3 (.alloc 1 (.val (.slice none 0 0))),(.mk none none (.store 1 (.t 3) (.t 4)))] (s [h 5 7 1,x 6 (.mkfn 221 [.t 3]),
 c 7 184 [.t 5,.t 6]] (s [l 8 3,x 9 (.call false 222 [.t 8,(.k (.clo 223 []))])] (s [l 10 3,c 11 224 [.t 10],m 2 11] .ret))))),[.t 2]⟩
theorem i180:iF 180 g180:=jF Tryz.func180
def g181:GFun:=⟨⟨55,[4,5,7,8]⟩,(s [a 4 2 0,a 5 1 1,a 7 2 3,u 8 2,b 9 false] (.seq (s [h 10 1 5,m 11 2,c 12 81 [.t 10,.t 11],w 13 12] (.cond 13 (s [x 14 (.build [(.val (.int .i64 0)),(.val (.string (ByteArray.mk #[])))] []),t 8 2 14,
 b 9 false] .ret) .skip)) (.seq (s [f 15 0 7,l 16 15,q 17 .neq 16 0] (.cond 17 (.seq (s [f 18 0 7,f 20 0 5,m 22 2,l 19 18,l 21 20,i 23 6 21 22,f 24 5 23,l 25 24,n 26 25,x 27 (.call true 57 [.t 19,(.k (.val (.int .i64 1))),.t 26]),w 28 27]
 (.cond 28 (s [x 29 (.build [(.val (.int .i64 0)),(.val (.string (ByteArray.mk #[])))] []),t 8 2 29,b 9 false] .ret) .skip)) (.reg [f 30 0 5,m 32 2,f 36 0 7,l 31 30,i 33 6 31 32,f 34 5 33,l 35 34,l 37 36,q 38 .sub 37 1,i 39 1 35 38,l 40 39,
 m 2 40])) .skip)) (.seq (s [h 41 1 5,m 42 2,c 43 81 [.t 41,.t 42],w 44 43] (.cond 44 (s [x 45 (.build [(.val (.int .i64 0)),(.val (.string (ByteArray.mk #[])))] []),t 8 2 45,b 9 false] .ret) .skip)) (s [f 46 0 5,m 48 2,f 52 1 7,l 47 46,
 i 49 6 47 48,f 50 0 49,l 51 50,l 53 52,x 54 (.build [(.val (.int .i64 0)),(.val (.string (ByteArray.mk #[])))] [(0,(1,(.t 51))),(1,(1,(.t 53)))]),t 8 2 54,b 9 true] .ret))))),[(.c 8 2 true),.t 9]⟩
theorem i181:iF 181 g181:=jF Tryz.func181
def g182:GFun:=⟨⟨19,[]⟩,(s [k 4 0] (.seq (s [m 6 0,n 7 6,k 8 0] (B 0 (s [o 9 .lss 8 7] (C 9 0 (.seq (.block 1 (s [m 10 8,m 5 10] (s [m 11 1,m 12 0,m 13 5,i 14 6 12 13,h 15 6 14,x 16 (.callv false (.t 11) [.t 15])] (.cond 16 (s [m 17 5,
 m 4 17] .ret) .skip)))) (.reg [q 18 .add 8 1,m 8 18])))))) (s [k 4 (-1)] .ret))),[.t 4]⟩
theorem i182:iF 182 g182:=jF Tryz.func182
def g183:GFun:=⟨⟨19,[]⟩,(s [k 4 0] (.seq (s [m 6 0,n 7 6,k 8 0] (B 0 (s [o 9 .lss 8 7] (C 9 0 (.seq (.block 1 (s [m 10 8,m 5 10] (s [m 11 1,m 12 0,m 13 5,i 14 7 12 13,h 15 7 14,x 16 (.callv false (.t 11) [.t 15])] (.cond 16 (s [m 17 5,
 m 4 17] .ret) .skip)))) (.reg [q 18 .add 8 1,m 8 18])))))) (s [k 4 (-1)] .ret))),[.t 4]⟩
theorem i183:iF 183 g183:=jF Tryz.func183
def g184:GFun:=⟨⟨15,[2,3]⟩,(s [a 2 7 0,a 3 1 1,b 4 false] (s [l 5 3,h 6 7 2,x 7 (.callv false (.t 5) [.t 6]),m 8 7,y 9 8 (p 1 6 2),y 10 8 (r 1 9),y 11 8 (.mkfn 225 [.t 3]),y 12 8 (.call false 140 [.t 10,.t 11]),y 13 8 (.not (.t 12)),
 x 14 (.pick (.t 8) (.t 13) (.k (.val (.bool false)))),m 4 14] .ret)),[.t 4]⟩
theorem i184:iF 184 g184:=jF Tryz.func184
def g185:GFun:=⟨⟨6,[1]⟩,(s [a 1 7 0,b 2 false] (s [f 3 0 1,l 4 3,q 5 .neq 4 8,m 2 5] .ret)),[.t 2]⟩
theorem i185:iF 185 g185:=jF Tryz.func185
def g186:GFun:=⟨⟨19,[]⟩,(s [k 4 0] (.seq (s [m 6 0,n 7 6,k 8 0] (B 0 (s [o 9 .lss 8 7] (C 9 0 (.seq (.block 1 (s [m 10 8,m 5 10] (s [m 11 1,m 12 0,m 13 5,i 14 2 12 13,h 15 2 14,x 16 (.callv false (.t 11) [.t 15])] (.cond 16 (s [m 17 5,
 m 4 17] .ret) .skip)))) (.reg [q 18 .add 8 1,m 8 18])))))) (s [k 4 (-1)] .ret))),[.t 4]⟩
theorem i186:iF 186 g186:=jF Tryz.func186
def g187:GFun:=⟨⟨19,[]⟩,(s [k 4 0] (.seq (s [m 6 0,n 7 6,k 8 0] (B 0 (s [o 9 .lss 8 7] (C 9 0 (.seq (.block 1 (s [m 10 8,m 5 10] (s [m 11 1,m 12 0,m 13 5,i 14 4 12 13,h 15 4 14,x 16 (.callv false (.t 11) [.t 15])] (.cond 16 (s [m 17 5,
 m 4 17] .ret) .skip)))) (.reg [q 18 .add 8 1,m 8 18])))))) (s [k 4 (-1)] .ret))),[.t 4]⟩
theorem i187:iF 187 g187:=jF Tryz.func187
def g188:GFun:=⟨⟨22,[2,4,7]⟩,(s [a 2 2 0,u 4 4,b 5 false] (.seq (s [f 8 1 2,l 9 8,n 10 9,k 11 0] (B 0 (s [o 12 .lss 11 10] (C 12 0 (.seq (.block 1 (s [i 13 4 9 11,h 14 4 13,u 7 4,t 7 4 14] (s [f 15 0 7,l 16 15,m 17 1,o 18 .eql 16 17]
 (.cond 18 (s [h 19 4 7,t 4 4 19,b 5 true] .ret) .skip)))) (.reg [q 20 .add 11 1,m 11 20])))))) (s [x 21 (.build [(.val (.string (ByteArray.mk #[]))),(.val (.int .i64 0)),(.val (.int .i64 0)),(.val (.bool false))] []),t 4 4 21,
 b 5 false] .ret))),[(.c 4 4 true),.t 5]⟩
theorem i188:iF 188 g188:=jF Tryz.func188
def g189:GFun:=⟨⟨22,[2,5]⟩,(s [x 1 (.box 7 (.t 0)),u 2 7] (s [x 3 (.mov (.k (.val (.slice none 0 0))))] (.seq (s [f 6 6 1,l 7 6,n 8 7,k 9 0] (B 0 (s [o 10 .lss 9 8] (C 10 0 (.seq (.block 1 (s [i 11 7 7 9,h 12 7 11,u 5 7,t 5 7 12]
 (.reg [m 13 3,h 14 7 5,c 15 189 [.t 14],x 16 (.bslice 7 [] 1 true [(0,(.t 15))]),x 17 (.append 7 88 (.t 13) (.t 16)),m 3 17]))) (.reg [q 18 .add 9 1,m 9 18])))))) (s [m 19 3,f 20 6 1,(.mk none none (.store 1 (.t 20) (.t 19)))]
 (s [h 21 7 1,t 2 7 21] .ret))))),[(.c 2 7 true)]⟩
theorem i189:iF 189 g189:=jF Tryz.func189
def g190:GFun:=⟨⟨19,[1,5]⟩,(s [a 1 7 0,k 2 0] (s [k 3 1] (.seq (s [f 6 6 1,l 7 6,n 8 7,k 9 0] (B 0 (s [o 10 .lss 9 8] (C 10 0 (.seq (.block 1 (s [i 11 7 7 9,h 12 7 11,u 5 7,t 5 7 12] (.reg [m 13 3,h 14 7 5,c 15 190 [.t 14],
 o 16 .add 13 15,m 3 16]))) (.reg [q 17 .add 9 1,m 9 17])))))) (s [m 18 3,m 2 18] .ret)))),[.t 2]⟩
theorem i190:iF 190 g190:=jF Tryz.func190
def g191:GFun:=⟨⟨20,[1,5]⟩,(s [a 1 7 0,k 2 0] (s [k 3 0] (.seq (s [f 6 6 1,l 7 6,n 8 7,k 9 0] (B 0 (s [o 10 .lss 9 8] (C 10 0 (.seq (.block 1 (s [i 11 7 7 9,h 12 7 11,u 5 7,t 5 7 12] (.reg [m 13 3,h 14 7 5,c 15 191 [.t 14],x 16 (.mx
 (.t 13) (.t 15)),m 3 16]))) (.reg [q 17 .add 9 1,m 9 17])))))) (s [m 18 3,q 19 .add 18 1,m 2 19] .ret)))),[.t 2]⟩
theorem i191:iF 191 g191:=jF Tryz.func191
def g192:GFun:=⟨⟨100,[1]⟩,(s [a 1 7 0,b 2 false] (s [f 5 0 1,l 6 5,f 7 6 1,l 8 7,x 9 (.build [(.val (.int .i64 0)),(.val (.int .i64 0)),(.val (.int .i64 0)),(.val (.int .i64 0)),(.val (.string (ByteArray.mk #[]))),(.val (.string
 (ByteArray.mk #[]))),(.val (.slice none 0 0))] [(0,(1,(.t 6))),(6,(1,(.t 8)))]),x 3 (.alloc 7 (.agg [(.val (.int .i64 0)),(.val (.int .i64 0)),(.val (.int .i64 0)),(.val (.int .i64 0)),(.val (.string (ByteArray.mk #[]))),(.val (.string
 (ByteArray.mk #[]))),(.val (.slice none 0 0))])),(.mk none none (.store 7 (.t 3) (.t 9)))] (s [k 4 0] (.seq (s [f 10 0 1,l 11 10] (.block 0 (s [q 13 .eql 11 1,m 12 13] (.cond 12 (s [f 14 1 1,x 15 (.loadr 1 false (.t 14)),f 16 3 1,x 17
 (.loadr 1 false (.t 16)),f 18 1 3,(.mk none none (.store 1 (.t 18) (.t 15))),f 19 3 3,(.mk none none (.store 1 (.t 19) (.t 17)))] (s [f 20 3 1,l 21 20,q 22 .eql 21 4,m 23 22,z 24 23 (p 1 1 1),z 25 23 (r 1 24),z 26 23 (p 1 3 1),z 27 23
 (r 1 26),z 28 23 (.call false 226 [.t 25,.t 27]),z 29 23 (.not (.t 28)),x 30 (.pick (.t 23) (.k (.val (.bool true))) (.t 29)),m 31 30,z 32 31 (p 1 1 1),z 33 31 (r 1 32),z 34 31 (.bin .lss (.t 33) (.k (.val (.int .i64 0)))),x 35 (.pick
 (.t 31) (.k (.val (.bool true))) (.t 34))] (.cond 35 (s [b 2 false] .ret) .skip))) (s [q 37 .eql 11 3,m 36 37] (.cond 36 (s [f 38 2 1,x 39 (.loadr 1 false (.t 38)),f 40 5 1,x 41 (.loadr 1 false (.t 40)),f 42 2 3,(.mk none none (.store 1
 (.t 42) (.t 39))),f 43 5 3,(.mk none none (.store 1 (.t 43) (.t 41)))] (s [f 44 5 1,l 45 44,c 46 227 [.t 45],w 47 46] (.cond 47 (s [b 2 false] .ret) .skip))) (s [q 49 .eql 11 4,m 48 49] (.cond 48 (s [f 50 1 1,l 51 50,f 52 1 3,
 (.mk none none (.store 1 (.t 52) (.t 51))),k 4 2] (s [f 53 1 1,l 54 53,c 55 57 [.t 54,(.k (.val (.int .i64 1))),(.k (.val (.int .i64 12)))],w 56 55] (.cond 56 (s [b 2 false] .ret) .skip))) (s [q 58 .eql 11 5,m 57 58] (.cond 57
 (.reg [k 4 3]) (s [q 60 .eql 11 6,m 59 60] (.cond 59 (.reg [f 61 2 1,l 62 61,f 63 2 3,(.mk none none (.store 1 (.t 63) (.t 62)))]) (s [q 65 .eql 11 8,m 64 65] (.cond 64 (s [f 66 4 1,x 67 (.loadr 1 false (.t 66)),f 68 5 1,x 69
 (.loadr 1 false (.t 68)),f 70 4 3,(.mk none none (.store 1 (.t 70) (.t 67))),f 71 5 3,(.mk none none (.store 1 (.t 71) (.t 69))),k 4 1] (s [f 72 4 1,l 73 72,c 74 227 [.t 73],w 75 74,m 76 75,z 77 76 (p 1 5 1),z 78 76 (r 1 77),z 79 76
 (.call false 227 [.t 78]),z 80 76 (.not (.t 79)),x 81 (.pick (.t 76) (.k (.val (.bool true))) (.t 80))] (.cond 81 (s [b 2 false] .ret) .skip))) (.seq (s [q 83 .eql 11 2,m 82 83] (.cond 82 .skip (.reg [q 84 .eql 11 7,m 82 84])))
 (.cond 82 .skip (s [b 2 false] .ret))))))))))))))))) (s [f 85 6 1,l 86 85,n 87 86,m 88 4,o 89 .eql 87 88,m 90 89,y 91 90 (p 1 2 1),y 92 90 (r 1 91),y 93 90 (.call false 57 [.t 92,(.k (.val (.int .i64 0))),(.k (.val (.int .i64 3)))]),x 94
 (.pick (.t 90) (.t 93) (.k (.val (.bool false)))),m 95 94,y 96 95 (j 7 1),y 97 95 (j 7 3),y 98 95 (.call false 228 [.t 96,.t 97]),x 99 (.pick (.t 95) (.t 98) (.k (.val (.bool false)))),m 2 99] .ret))))),[.t 2]⟩
theorem i192:iF 192 g192:=jF Tryz.func192
def g193:GFun:=⟨⟨101,[]⟩,(s [k 6 0] (s [m 11 0,c 12 229 [.t 11],m 10 12,v 13 10 0,v 14 10 1,v 15 10 2,m 7 13,m 8 14,m 9 15] (s [m 16 1,m 17 7,c 18 230 [.t 16,.t 17],m 19 2,m 20 8,c 21 230 [.t 19,.t 20],m 1 18,m 2 21] (.seq (s [m 22 0]
 (.block 0 (s [q 24 .eql 22 1,m 23 24] (.cond 23 (s [m 25 1,m 26 2,o 27 .add 25 26,c 28 231 [.t 27],m 6 28] .ret) (s [q 30 .eql 22 2,m 29 30] (.cond 29 (s [m 31 1,m 32 2,o 33 .sub 31 32,c 34 231 [.t 33],m 6 34] .ret) (s [q 36 .eql 22 3,
 m 35 36] (.cond 35 (s [m 37 1,m 38 2,o 39 .mul 37 38,c 40 231 [.t 39],m 6 40] .ret) (s [q 42 .eql 22 4,m 41 42] (.cond 41 (s [m 43 1,m 44 2,x 45 (.mx (.t 43) (.t 44)),m 6 45] .ret) (s [q 47 .eql 22 5,m 46 47] (.cond 46 (s [m 48 1,m 49 2,
 x 50 (.mn (.t 48) (.t 49)),m 6 50] .ret) (s [q 52 .eql 22 6,m 51 52] (.cond 51 (s [m 53 1,m 54 2,o 55 .or 53 54,m 6 55] .ret) (s [q 57 .eql 22 7,m 56 57] (.cond 56 (s [m 58 1,m 59 2,o 60 .and 58 59,m 6 60] .ret) (s [q 62 .eql 22 8,
 m 61 62] (.cond 61 (s [m 63 1,m 64 2,o 65 .andNot 63 64,m 6 65] .ret) (s [q 67 .eql 22 9,m 66 67] (.cond 66 (s [m 68 1,m 69 2,o 70 .lss 68 69,c 71 232 [.t 70],m 6 71] .ret) (s [q 73 .eql 22 10,m 72 73] (.cond 72 (s [m 74 1,m 75 2,
 o 76 .eql 74 75,c 77 232 [.t 76],m 6 77] .ret) (s [q 79 .eql 22 11,m 78 79] (.cond 78 (s [m 80 2,c 81 57 [.t 80,(.k (.val (.int .i64 0))),(.k (.val (.int .i64 11)))],m 82 81,y 83 82 (.mov (.t 1)),y 84 82 (.mov (.t 2)),y 85 82 (.conv .u64
 (.t 84)),y 86 82 (.bin .shr (.t 83) (.t 85)),y 87 82 (.bin .and (.t 86) (.k (.val (.int .i64 1)))),y 88 82 (.bin .eql (.t 87) (.k (.val (.int .i64 1)))),x 89 (.pick (.t 82) (.t 88) (.k (.val (.bool false)))),c 90 232 [.t 89],
 m 6 90] .ret) (s [q 92 .eql 22 12,m 91 92] (.cond 91 (.seq (s [m 93 2,c 94 57 [.t 93,(.k (.val (.int .i64 0))),(.k (.val (.int .i64 11)))]] (.cond 94 (s [m 95 1,m 96 2,x 97 (.conv .u64 (.t 96)),x 98 (.bin .shl (.k (.val (.int .i64 1)))
 (.t 97)),o 99 .or 95 98,m 6 99] .ret) .skip)) (s [m 100 1,m 6 100] .ret)) .skip)))))))))))))))))))))))))) (s [k 6 0] .ret))))),[.t 6]⟩
theorem i193:iF 193 g193:=jF Tryz.func193
def g194:GFun:=⟨⟨27,[2]⟩,(s [a 2 7 0,k 4 0] (s [m 6 1,q 7 .sub 6 1,m 1 7] (.seq (s [k 5 0] (B 0 (.seq (s [m 8 5,f 9 6 2,l 10 9,n 11 10,o 12 .lss 8 11,m 13 12,y 14 13 (.mov (.t 1)),y 15 13 (.bin .geq (.t 14) (.k (.val (.int .i64 0)))),
 x 16 (.pick (.t 13) (.t 15) (.k (.val (.bool false))))] (.cond 16 .skip (.exit 0))) (.seq (.block 1 (.reg [f 19 6 2,l 20 19,m 21 5,i 22 7 20 21,h 23 7 22,m 24 1,c 25 194 [.t 23,.t 24],m 1 25])) (.reg [m 17 5,q 18 .add 17 1,m 5 18])))))
 (s [m 26 1,m 4 26] .ret)))),[.t 4]⟩
theorem i194:iF 194 g194:=jF Tryz.func194
def g195:GFun:=⟨⟨22,[1]⟩,(s [a 1 7 0,k 2 0] (s [k 3 0] (.seq (s [k 4 0] (B 0 (.seq (s [m 5 4,f 6 6 1,l 7 6,n 8 7,o 9 .lss 5 8] (.cond 9 .skip (.exit 0))) (.seq (.block 1 (.reg [m 12 3,f 13 6 1,l 14 13,m 15 4,i 16 7 14 15,h 17 7 16,
 c 18 195 [.t 17],c 19 121 [.t 12,.t 18],m 3 19])) (.reg [m 10 4,q 11 .add 10 1,m 4 11]))))) (s [m 20 3,q 21 .add 20 1,m 2 21] .ret)))),[.t 2]⟩
theorem i195:iF 195 g195:=jF Tryz.func195
def g196:GFun:=⟨⟨20,[1]⟩,(s [a 1 7 0,b 2 false] (.seq (s [k 3 0] (B 0 (.seq (s [m 4 3,f 5 6 1,l 6 5,n 7 6,o 8 .lss 4 7] (.cond 8 .skip (.exit 0))) (.seq (.block 1 (s [f 11 6 1,l 12 11,m 13 3,i 14 7 12 13,h 15 7 14,c 16 196 [.t 15],
 w 17 16] (.cond 17 (s [b 2 false] .ret) .skip))) (.reg [m 9 3,q 10 .add 9 1,m 3 10]))))) (s [h 18 7 1,c 19 233 [.t 18],m 2 19] .ret))),[.t 2]⟩
theorem i196:iF 196 g196:=jF Tryz.func196
def g197:GFun:=⟨⟨24,[3]⟩,(s [a 3 2 1,k 4 0] (.seq (s [k 5 0] (B 0 (.seq (s [m 6 5,m 7 0,n 8 7,o 9 .lss 6 8] (.cond 9 .skip (.exit 0))) (.seq (.block 1 (s [m 12 0,m 13 5,i 14 3 12 13,e 15 0 2 14,h 16 2 15,h 17 2 3,x 18 (.aeq false [1,
 2] (.t 16) (.t 17))] (.cond 18 (s [m 19 0,m 20 5,i 21 3 19 20,f 22 2 21,l 23 22,m 4 23] .ret) .skip))) (.reg [m 10 5,q 11 .add 10 1,m 5 11]))))) (s [k 4 0] .ret))),[.t 4]⟩
theorem i197:iF 197 g197:=jF Tryz.func197
def g198:GFun:=⟨⟨102,[]⟩,(s [k 6 0] (s [m 11 0,c 12 199 [.t 11],m 10 12,v 13 10 0,v 14 10 1,v 15 10 2,m 7 13,m 8 14,m 9 15] (s [m 16 1,m 17 7,c 18 80 [.t 16,.t 17],m 1 18] (s [m 19 2,m 20 8,c 21 80 [.t 19,.t 20],m 2 21] (.seq
 (s [m 22 0] (.block 0 (s [q 24 .eql 22 1,m 23 24] (.cond 23 (s [m 25 1,m 26 2,o 27 .add 25 26,c 28 130 [.t 27],m 6 28] .ret) (s [q 30 .eql 22 2,m 29 30] (.cond 29 (s [m 31 1,m 32 2,o 33 .sub 31 32,c 34 130 [.t 33],m 6 34] .ret)
 (s [q 36 .eql 22 3,m 35 36] (.cond 35 (s [m 37 1,m 38 2,o 39 .mul 37 38,c 40 130 [.t 39],m 6 40] .ret) (s [q 42 .eql 22 4,m 41 42] (.cond 41 (s [m 43 1,m 44 2,c 45 121 [.t 43,.t 44],m 6 45] .ret) (s [q 47 .eql 22 5,m 46 47] (.cond 46
 (s [m 48 1,m 49 2,c 50 120 [.t 48,.t 49],m 6 50] .ret) (s [q 52 .eql 22 6,m 51 52] (.cond 51 (s [m 53 1,m 54 2,o 55 .or 53 54,m 6 55] .ret) (s [q 57 .eql 22 7,m 56 57] (.cond 56 (s [m 58 1,m 59 2,o 60 .and 58 59,m 6 60] .ret)
 (s [q 62 .eql 22 8,m 61 62] (.cond 61 (s [m 63 1,m 64 2,o 65 .andNot 63 64,m 6 65] .ret) (s [q 67 .eql 22 9,m 66 67] (.cond 66 (s [m 68 1,m 69 2,o 70 .lss 68 69,c 71 131 [.t 70],m 6 71] .ret) (s [q 73 .eql 22 10,m 72 73] (.cond 72
 (s [m 74 1,m 75 2,o 76 .eql 74 75,c 77 131 [.t 76],m 6 77] .ret) (s [q 79 .eql 22 11,m 78 79] (.cond 78 (s [m 80 2,c 81 64 [.t 80,(.k (.val (.int .i64 0))),(.k (.val (.int .i64 11)))],m 82 81,y 83 82 (.mov (.t 1)),y 84 82 (.mov (.t 2)),
 y 85 82 (.call false 121 [.t 84,(.k (.val (.int .i64 0)))]),y 86 82 (.conv .u64 (.t 85)),y 87 82 (.bin .shr (.t 83) (.t 86)),y 88 82 (.bin .and (.t 87) (.k (.val (.int .i64 1)))),y 89 82 (.bin .eql (.t 88) (.k (.val (.int .i64 1)))),x 90
 (.pick (.t 82) (.t 89) (.k (.val (.bool false)))),c 91 131 [.t 90],m 6 91] .ret) (s [q 93 .eql 22 12,m 92 93] (.cond 92 (.seq (s [m 94 2,c 95 64 [.t 94,(.k (.val (.int .i64 0))),(.k (.val (.int .i64 11)))]] (.cond 95 (s [m 96 1,m 97 2,
 x 98 (.conv .u64 (.t 97)),x 99 (.bin .shl (.k (.val (.int .i64 1))) (.t 98)),o 100 .or 96 99,m 6 100] .ret) .skip)) (s [m 101 1,m 6 101] .ret)) .skip)))))))))))))))))))))))))) (s [k 6 0] .ret)))))),[.t 6]⟩
theorem i198:iF 198 g198:=jF Tryz.func198
def g199:GFun:=⟨⟨24,[]⟩,(s [k 2 0,k 3 0,k 4 0] (.seq (.block 0 (s [m 6 0,c 7 64 [.t 6,(.k (.val (.int .i64 1))),(.k (.val (.int .i64 5)))],m 5 7] (.cond 5 (s [k 2 1,k 3 1,k 4 1] .ret) (s [m 9 0,c 10 64 [.t 9,(.k (.val (.int .i64 6))),
 (.k (.val (.int .i64 8)))],m 8 10] (.cond 8 (s [k 2 2,k 3 2,k 4 2] .ret) (s [m 12 0,q 13 .eql 12 9,m 14 13,z 15 14 (.mov (.t 0)),z 16 14 (.bin .eql (.t 15) (.k (.val (.int .i64 10)))),x 17 (.pick (.t 14) (.k (.val (.bool true))) (.t 16)),
 m 11 17] (.cond 11 (s [k 2 1,k 3 1,k 4 3] .ret) (s [m 19 0,q 20 .eql 19 11,m 18 20] (.cond 18 (s [k 2 2,k 3 1,k 4 3] .ret) (s [m 22 0,q 23 .eql 22 12,m 21 23] (.cond 21 (s [k 2 2,k 3 1,k 4 2] .ret) .skip))))))))))) (s [k 2 0,k 3 0,
 k 4 0] .ret))),[.t 2,.t 3,.t 4]⟩
theorem i199:iF 199 g199:=jF Tryz.func199
def g200:GFun:=⟨⟨12,[4,5,6]⟩,(s [a 4 7 1,a 5 7 2,u 6 7] (s [m 7 0,h 8 7 4,h 9 7 5,x 10 (.bslice 7 [] 2 true [(0,(.t 8)),(1,(.t 9))]),x 11 (.build [(.val (.int .i64 0)),(.val (.int .i64 0)),(.val (.int .i64 0)),(.val (.int .i64 0)),
 (.val (.string (ByteArray.mk #[]))),(.val (.string (ByteArray.mk #[]))),(.val (.slice none 0 0))] [(0,(1,(.k (.val (.int .i64 4))))),(1,(1,(.t 7))),(6,(1,(.t 10)))]),t 6 7 11] .ret)),[(.c 6 7 true)]⟩
theorem i200:iF 200 g200:=jF Tryz.func200
def g201:GFun:=⟨⟨8,[4]⟩,(s [u 4 7] (s [m 5 0,m 6 1,x 7 (.build [(.val (.int .i64 0)),(.val (.int .i64 0)),(.val (.int .i64 0)),(.val (.int .i64 0)),(.val (.string (ByteArray.mk #[]))),(.val (.string (ByteArray.mk #[]))),(.val
 (.slice none 0 0))] [(0,(1,(.k (.val (.int .i64 1))))),(1,(1,(.t 5))),(3,(1,(.t 6)))]),t 4 7 7] .ret)),[(.c 4 7 true)]⟩
theorem i201:iF 201 g201:=jF Tryz.func201
def g202:GFun:=⟨⟨33,[2]⟩,(s [a 2 2 0,x 4 (.mov (.k (.val (.slice none 0 0))))] (s [x 7 (.bslice 1 [] 0 false []),m 5 7] (.seq (s [k 6 0] (B 0 (.seq (s [m 8 6,f 9 1 2,l 10 9,n 11 10,o 12 .lss 8 11] (.cond 12 .skip (.exit 0))) (.seq
 (.block 1 (s [f 15 1 2,l 16 15,m 17 6,i 18 6 16 17,f 19 1 18,l 20 19,m 21 1,o 22 .eql 20 21] (.cond 22 (.reg [m 23 5,f 24 1 2,l 25 24,m 26 6,i 27 6 25 26,f 28 0 27,l 29 28,x 30 (.bslice 1 [] 1 false [(0,(.t 29))]),x 31 (.append 1 16
 (.t 23) (.t 30)),m 5 31]) .skip))) (.reg [m 13 6,q 14 .add 13 1,m 6 14]))))) (s [m 32 5,m 4 32] .ret)))),[.t 4]⟩
theorem i202:iF 202 g202:=jF Tryz.func202
def g203:GFun:=⟨⟨50,[1]⟩,(s [a 1 2 0,x 2 (.mov (.k (.val (.slice none 0 0))))] (s [f 7 0 1,l 8 7,n 9 8,x 10 (.mkslice 1 8 (.val (.int .i64 0)) (.t 9) (.t 9)),m 3 10] (.seq (s [k 4 1] (B 0 (.seq (s [m 11 4,f 12 0 1,l 13 12,n 14 13,
 o 15 .leq 11 14] (.cond 15 .skip (.exit 0))) (.seq (.block 1 (s [x 18 (.bslice 1 [] 0 false []),m 19 3,x 20 (.append 1 8 (.t 18) (.t 19)),m 5 20] (.seq (s [k 6 0] (B 2 (.seq (s [m 21 6,f 22 0 1,l 23 22,n 24 23,o 25 .lss 21 24]
 (.cond 25 .skip (.exit 2))) (.seq (.block 3 (s [m 28 3,m 29 6,i 30 1 28 29,l 31 30,q 32 .eql 31 0,m 33 32,y 35 33 (p 1 0 1),y 37 33 (.mov (.t 6)),y 41 33 (.mov (.t 3)),y 34 33 (j 2 1),y 36 33 (r 1 35),y 38 33 (.iaddr 2 (.t 36) (.t 37)),
 y 39 33 (p 1 0 38),y 40 33 (r 1 39),y 42 33 (.call true 234 [.t 34,.t 40,.t 41]),x 43 (.pick (.t 33) (.t 42) (.k (.val (.bool false))))] (.cond 43 (.reg [m 44 5,m 45 6,m 46 4,i 47 1 44 45,(.mk none none (.store 1 (.t 47)
 (.t 46)))]) .skip))) (.reg [m 26 6,q 27 .add 26 1,m 6 27]))))) (.reg [m 48 5,m 3 48])))) (.reg [m 16 4,q 17 .add 16 1,m 4 17]))))) (s [m 49 3,m 2 49] .ret)))),[.t 2]⟩
theorem i203:iF 203 g203:=jF Tryz.func203
def g204:GFun:=⟨⟨22,[2]⟩,(s [a 2 2 0,k 4 0] (.seq (s [k 5 0] (B 0 (.seq (s [m 6 5,f 7 0 2,l 8 7,n 9 8,o 10 .lss 6 9] (.cond 10 .skip (.exit 0))) (.seq (.block 1 (s [f 13 0 2,l 14 13,m 15 5,i 16 2 14 15,f 17 0 16,l 18 17,m 19 1,
 o 20 .eql 18 19] (.cond 20 (s [m 21 5,m 4 21] .ret) .skip))) (.reg [m 11 5,q 12 .add 11 1,m 5 12]))))) (s [k 4 (-1)] .ret))),[.t 4]⟩
theorem i204:iF 204 g204:=jF Tryz.func204
def g205:GFun:=⟨⟨49,[1,4,6]⟩,(s [a 1 2 0,k 2 0] (.seq (s [f 7 0 1,l 8 7,n 9 8,k 10 0] (B 0 (s [o 11 .lss 10 9] (C 11 0 (.seq (.block 1 (s [m 12 10,i 13 2 8 10,h 14 2 13,u 4 2,m 3 12,t 4 2 14] (s [h 15 2 4,c 16 235 [.t 15],w 17 16,
 m 18 17,z 19 18 (p 1 0 1),z 20 18 (r 1 19),z 21 18 (.mov (.t 3)),z 22 18 (.slc 2 (.t 20) none (some (.t 21))),z 23 18 (.mkfn 236 [.t 4]),z 24 18 (.call false 143 [.t 22,.t 23]),x 25 (.pick (.t 18) (.k (.val (.bool true))) (.t 24))]
 (.cond 25 (s [m 26 3,m 2 26] .ret) .skip)))) (.reg [q 27 .add 10 1,m 10 27])))))) (.seq (s [f 28 1 1,l 29 28,n 30 29,k 31 0] (B 2 (s [o 32 .lss 31 30] (C 32 2 (.seq (.block 3 (s [m 33 31,i 34 6 29 31,h 35 6 34,u 6 6,m 5 33,t 6 6 35]
 (s [h 36 6 6,c 37 237 [.t 36],w 38 37,m 39 38,z 40 39 (p 1 1 1),z 41 39 (r 1 40),z 42 39 (.mov (.t 5)),z 43 39 (.slc 6 (.t 41) none (some (.t 42))),z 44 39 (.mkfn 238 [.t 6]),z 45 39 (.call false 138 [.t 43,.t 44]),x 46 (.pick (.t 39)
 (.k (.val (.bool true))) (.t 45))] (.cond 46 (s [m 47 5,m 2 47] .ret) .skip)))) (.reg [q 48 .add 31 1,m 31 48])))))) (s [k 2 (-1)] .ret)))),[.t 2]⟩
theorem i205:iF 205 g205:=jF Tryz.func205
def g206:GFun:=⟨⟨6,[1]⟩,(s [a 1 4 0,b 2 false] (s [f 3 2 1,l 4 3,q 5 .eql 4 1,m 2 5] .ret)),[.t 2]⟩
theorem i206:iF 206 g206:=jF Tryz.func206
def g207:GFun:=⟨⟨26,[2,3,6]⟩,(s [a 2 2 0,a 3 6 1,b 4 false] (.seq (s [f 8 2 3,l 9 8,n 10 9,q 11 .add 10 1,k 12 0] (B 0 (s [o 13 .lss 12 11] (C 13 0 (.seq (.block 1 (s [m 14 12,m 5 14] (s [m 18 5,u 6 2,h 16 2 2,h 17 6 3,x 19
 (.call true 239 [.t 17,.t 18]),x 20 (.call true 82 [.t 16,.t 19]),m 15 20,v 21 15 0,v 22 15 1,t 6 2 21,m 7 22] (s [m 23 7,w 24 23] (.cond 24 (s [b 4 true] .ret) .skip))))) (.reg [q 25 .add 12 1,m 12 25])))))) (s [b 4 false] .ret))),[.t 4]⟩
theorem i207:iF 207 g207:=jF Tryz.func207
def g208:GFun:=⟨⟨10,[2,3]⟩,(s [a 2 2 0,a 3 6 1,b 4 false] (s [h 5 2 2,h 6 6 3,c 7 241 [.t 5,.t 6],x 8 (.mkfn 242 [.t 3]),c 9 240 [.t 7,.t 8],m 4 9] .ret)),[.t 4]⟩
theorem i208:iF 208 g208:=jF Tryz.func208
def g209:GFun:=⟨⟨33,[2,3,7]⟩,(s [a 2 2 0,a 3 6 1,b 4 false] (s [h 8 2 2,h 9 6 3,c 10 241 [.t 8,.t 9],m 5 10] (.seq (s [f 11 4 3,l 12 11,n 13 12,k 14 0] (B 0 (s [o 15 .lss 14 13] (C 15 0 (.seq (.block 1 (s [m 16 14,i 17 9 12 14,
 h 18 9 17,u 7 9,m 6 16,t 7 9 18] (s [m 19 5,e 20 0 2 7,h 21 2 20,c 22 245 [.t 19,.t 21],w 23 22,m 24 23,z 25 24 (p 1 4 3),z 26 24 (r 1 25),z 27 24 (.mov (.t 6)),z 28 24 (.slc 9 (.t 26) none (some (.t 27))),z 29 24 (.mkfn 246 [.t 7]),
 z 30 24 (.call false 243 [.t 28,.t 29]),x 31 (.pick (.t 24) (.k (.val (.bool true))) (.t 30))] (.cond 31 (s [b 4 true] .ret) .skip)))) (.reg [q 32 .add 14 1,m 14 32])))))) (s [b 4 false] .ret)))),[.t 4]⟩
theorem i209:iF 209 g209:=jF Tryz.func209
def g210:GFun:=⟨⟨9,[2,3]⟩,(s [a 2 2 0,a 3 6 1,b 4 false] (s [h 5 6 3,c 6 141 [.t 5],x 7 (.mkfn 247 [.t 2,.t 3]),c 8 140 [.t 6,.t 7],m 4 8] .ret)),[.t 4]⟩
theorem i210:iF 210 g210:=jF Tryz.func210
def g211:GFun:=⟨⟨33,[3,4,5,6,8]⟩,(s [a 3 2 0,a 4 6 1,a 5 2 2,u 6 4,b 7 false] (.seq (s [f 10 0 5,l 11 10,f 12 2 4,l 13 12,n 14 13,c 15 57 [.t 11,(.k (.val (.int .i64 0))),.t 14],w 16 15] (.cond 16 (s [x 17 (.build [(.val (.string
 (ByteArray.mk #[]))),(.val (.int .i64 0)),(.val (.int .i64 0)),(.val (.bool false))] []),t 6 4 17,b 7 false] .ret) .skip)) (s [f 21 0 5,u 8 2,h 19 2 3,h 20 6 4,l 22 21,x 23 (.call true 239 [.t 20,.t 22]),x 24 (.call true 82 [.t 19,.t 23]),
 m 18 24,v 25 18 0,v 26 18 1,t 8 2 25,m 9 26] (s [h 27 2 8,f 28 1 5,l 29 28,c 30 188 [.t 27,.t 29],v 31 30 0,v 32 30 1,t 6 4 31,m 7 32] .ret)))),[(.c 6 4 true),.t 7]⟩
theorem i211:iF 211 g211:=jF Tryz.func211
def g212:GFun:=⟨⟨166,[3,4,5,9,10,15,17]⟩,(s [a 3 2 0,a 4 6 1,a 5 7 2,k 6 0] (s [x 19 (.bslice 1 [] 0 false []),m 7 19] (.seq (s [f 20 6 5,l 21 20,n 22 21,k 23 0] (B 0 (s [o 24 .lss 23 22] (C 24 0 (.seq (.block 1 (s [i 25 7 21 23,
 h 26 7 25,u 9 7,t 9 7 26] (.reg [m 27 7,h 28 2 3,h 29 6 4,h 30 7 9,c 31 212 [.t 28,.t 29,.t 30],x 32 (.bslice 1 [] 1 false [(0,(.t 31))]),x 33 (.append 1 8 (.t 27) (.t 32)),m 7 33]))) (.reg [q 34 .add 23 1,m 23 34])))))) (.seq (.block 2
 (s [f 36 0 5,l 37 36,q 38 .eql 37 1,m 35 38] (.cond 35 (s [f 39 3 5,l 40 39,m 6 40] .ret) (s [f 42 0 5,l 43 42,q 44 .eql 43 2,m 45 44,y 46 45 (p 1 3 4),y 47 45 (r 1 46),x 48 (.pick (.t 45) (.t 47) (.k (.val (.bool false)))),m 41 48]
 (.cond 41 (s [k 6 1] .ret) (s [f 50 0 5,l 51 50,q 52 .eql 51 3,m 49 52] (.cond 49 (s [h 54 2 3,h 55 6 4,f 56 2 5,l 57 56,f 58 5 5,l 59 58,x 60 (.build [(.val (.int .i64 0)),(.val (.string (ByteArray.mk #[])))] [(0,(1,(.t 57))),(1,(1,
 (.t 59)))]),c 61 211 [.t 54,.t 55,.t 60],m 53 61,v 62 53 0,v 63 53 1,u 10 4,t 10 4 62,m 11 63] (s [f 64 1 10,l 65 64,m 6 65] .ret)) (s [f 67 0 5,l 68 67,q 69 .eql 68 4,m 70 69,y 71 70 (.mov (.t 7)),y 72 70 (.len (.t 71)),y 73 70
 (.bin .eql (.t 72) (.k (.val (.int .i64 2)))),x 74 (.pick (.t 70) (.t 73) (.k (.val (.bool false)))),m 66 74] (.cond 66 (s [f 76 1 5,l 77 76,c 78 229 [.t 77],m 75 78,v 79 75 0,v 80 75 1,v 81 75 2,m 12 79,m 13 80,m 14 81] (s [m 82 7,x 83
 (.iaddr 1 (.t 82) (.k (.val (.int .i64 0)))),l 84 83,m 85 12,o 86 .eql 84 85,m 87 86,y 88 87 (.mov (.t 7)),y 89 87 (.iaddr 1 (.t 88) (.k (.val (.int .i64 1)))),y 90 87 (r 1 89),y 91 87 (.mov (.t 13)),y 92 87 (.bin .eql (.t 90) (.t 91)),
 x 93 (.pick (.t 87) (.t 92) (.k (.val (.bool false))))] (.cond 93 (s [m 94 14,m 6 94] .ret) .skip))) (s [f 96 0 5,l 97 96,q 98 .eql 97 5,m 99 98,y 100 99 (.mov (.t 7)),y 101 99 (.len (.t 100)),y 102 99 (.bin .eql (.t 101) (.k (.val
 (.int .i64 3)))),x 103 (.pick (.t 99) (.t 102) (.k (.val (.bool false)))),m 95 103] (.cond 95 (s [m 104 7,x 105 (.iaddr 1 (.t 104) (.k (.val (.int .i64 0)))),l 106 105,q 107 .eql 106 3,m 108 107,y 109 108 (.mov (.t 7)),y 110 108
 (.iaddr 1 (.t 109) (.k (.val (.int .i64 1)))),y 112 108 (.mov (.t 7)),y 113 108 (.iaddr 1 (.t 112) (.k (.val (.int .i64 2)))),y 111 108 (r 1 110),y 114 108 (r 1 113),y 115 108 (.bin .eql (.t 111) (.t 114)),x 116 (.pick (.t 108) (.t 115)
 (.k (.val (.bool false))))] (.cond 116 (s [m 117 7,x 118 (.iaddr 1 (.t 117) (.k (.val (.int .i64 1)))),l 119 118,m 6 119] .ret) .skip)) (.seq (s [f 121 0 5,l 122 121,q 123 .eql 122 6,m 124 123,y 125 124 (p 1 2 5),y 126 124 (r 1 125),
 y 127 124 (p 1 2 4),y 128 124 (r 1 127),y 129 124 (.len (.t 128)),y 130 124 (.call false 57 [.t 126,(.k (.val (.int .i64 0))),.t 129]),x 131 (.pick (.t 124) (.t 130) (.k (.val (.bool false)))),m 120 131] (.cond 120 .skip (.reg [f 132 0 5,
 l 133 132,q 134 .eql 133 7,m 120 134]))) (.cond 120 (s [k 6 4] .ret) (s [f 136 0 5,l 137 136,q 138 .eql 137 8,m 139 138,y 140 139 (.mov (.t 7)),y 141 139 (.len (.t 140)),y 142 139 (.bin .eql (.t 141) (.k (.val (.int .i64 1)))),x 143
 (.pick (.t 139) (.t 142) (.k (.val (.bool false)))),m 144 143,y 145 144 (.mov (.t 7)),y 146 144 (.iaddr 1 (.t 145) (.k (.val (.int .i64 0)))),y 147 144 (r 1 146),y 148 144 (.bin .eql (.t 147) (.k (.val (.int .i64 4)))),x 149 (.pick
 (.t 144) (.t 148) (.k (.val (.bool false)))),m 135 149] (.cond 135 (s [h 151 2 3,f 152 4 5,l 153 152,c 154 82 [.t 151,.t 153],m 150 154,v 155 150 0,v 156 150 1,u 15 2,t 15 2 155,m 16 156] (s [h 158 2 15,f 159 5 5,l 160 159,
 c 161 188 [.t 158,.t 160],m 157 161,v 162 157 0,v 163 157 1,u 17 4,t 17 4 162,m 18 163] (s [f 164 1 17,l 165 164,m 6 165] .ret))) .skip))))))))))))))) (s [k 6 0] .ret))))),[.t 6]⟩
theorem i212:iF 212 g212:=jF Tryz.func212
def g213:GFun:=⟨⟨24,[6]⟩,(s [k 4 0] (.seq (s [f 7 0 1,l 8 7,n 9 8,k 10 0] (B 0 (s [o 11 .lss 10 9] (C 11 0 (.seq (.block 1 (s [m 12 10,i 13 2 8 10,h 14 2 13,u 6 2,m 5 12,t 6 2 14] (s [f 15 0 6,l 16 15,m 17 0,o 18 .eql 16 17] (.cond 18
 (s [l 19 2,m 20 5,i 21 1 19 20,l 22 21,m 4 22] .ret) .skip)))) (.reg [q 23 .add 10 1,m 10 23])))))) (s [k 4 0] .ret))),[.t 4]⟩
theorem i213:iF 213 g213:=jF Tryz.func213
def g214:GFun:=⟨⟨76,[1]⟩,(s [a 1 2 0,k 2 0] (s [x 6 (.bslice 1 [] 0 false []),m 3 6] (.seq (s [k 4 0] (B 0 (.seq (s [m 7 4,f 8 0 1,l 9 8,n 10 9,o 11 .lss 7 10] (.cond 11 .skip (.exit 0))) (.seq (.block 1 (.seq (s [f 14 0 1,l 15 14,
 m 16 4,i 17 2 15 16,h 18 2 17,c 19 250 [.t 18],w 20 19,m 21 20,z 22 21 (.mov (.t 3)),z 23 21 (p 1 0 1),z 24 21 (r 1 23),z 25 21 (.mov (.t 4)),z 26 21 (.iaddr 2 (.t 24) (.t 25)),z 27 21 (p 1 0 26),z 28 21 (r 1 27),z 29 21
 (.call false 251 [.t 22,.t 28]),x 30 (.pick (.t 21) (.k (.val (.bool true))) (.t 29))] (.cond 30 (s [m 31 4,m 2 31] .ret) .skip)) (.reg [m 32 3,f 33 0 1,l 34 33,m 35 4,i 36 2 34 35,f 37 0 36,l 38 37,x 39 (.bslice 1 [] 1 false [(0,
 (.t 38))]),x 40 (.append 1 16 (.t 32) (.t 39)),m 3 40]))) (.reg [m 12 4,q 13 .add 12 1,m 4 13]))))) (s [x 41 (.bslice 1 [] 0 false []),m 3 41] (.seq (s [k 5 0] (B 2 (.seq (s [m 42 5,f 43 1 1,l 44 43,n 45 44,o 46 .lss 42 45]
 (.cond 46 .skip (.exit 2))) (.seq (.block 3 (.seq (s [f 49 1 1,l 50 49,m 51 5,i 52 6 50 51,h 53 6 52,c 54 252 [.t 53],w 55 54,m 56 55,z 57 56 (.mov (.t 3)),z 58 56 (p 1 1 1),z 59 56 (r 1 58),z 60 56 (.mov (.t 5)),z 61 56 (.iaddr 6
 (.t 59) (.t 60)),z 62 56 (p 1 0 61),z 63 56 (r 1 62),z 64 56 (.call false 251 [.t 57,.t 63]),x 65 (.pick (.t 56) (.k (.val (.bool true))) (.t 64))] (.cond 65 (s [m 66 5,m 2 66] .ret) .skip)) (.reg [m 67 3,f 68 1 1,l 69 68,m 70 5,
 i 71 6 69 70,f 72 0 71,l 73 72,x 74 (.bslice 1 [] 1 false [(0,(.t 73))]),x 75 (.append 1 16 (.t 67) (.t 74)),m 3 75]))) (.reg [m 47 5,q 48 .add 47 1,m 5 48]))))) (s [k 2 (-1)] .ret)))))),[.t 2]⟩
theorem i214:iF 214 g214:=jF Tryz.func214
def g215:GFun:=⟨⟨27,[3,4]⟩,(s [a 3 2 0,a 4 6 1,b 6 false] (.seq (s [m 7 2] (.block 0 (s [q 9 .eql 7 3,m 8 9] (.cond 8 (s [h 10 2 3,h 11 6 4,c 12 253 [.t 10,.t 11],w 13 12,m 6 13] .ret) (s [q 15 .eql 7 4,m 14 15] (.cond 14 (s [h 16 2 3,
 h 17 6 4,c 18 254 [.t 16,.t 17],m 6 18] .ret) (s [q 20 .eql 7 5,m 19 20] (.cond 19 (s [h 21 2 3,h 22 6 4,c 23 255 [.t 21,.t 22],m 6 23] .ret) .skip)))))))) (s [h 24 2 3,h 25 6 4,c 26 256 [.t 24,.t 25],m 6 26] .ret))),[.t 6]⟩
theorem i215:iF 215 g215:=jF Tryz.func215
def g216:GFun:=⟨⟨77,[3,4,5]⟩,(s [a 3 2 0,a 4 6 1,a 5 7 2,k 6 0] (.seq (s [f 7 0 5,l 8 7] (.block 0 (s [q 10 .eql 8 1,m 9 10] (.cond 9 (s [f 11 3 5,l 12 11,m 6 12] .ret) (s [q 14 .eql 8 2,m 13 14] (.cond 13 (s [f 15 3 4,l 16 15]
 (.cond 16 (s [k 6 1] .ret) .skip)) (s [q 18 .eql 8 3,m 17 18] (.cond 17 (s [f 19 2 5,l 20 19,f 21 2 4,l 22 21,n 23 22,c 24 64 [.t 20,(.k (.val (.int .i64 0))),.t 23]] (.cond 24 (s [f 27 2 5,f 30 5 5,h 25 2 3,h 26 6 4,l 28 27,x 29
 (.call true 162 [.t 26,.t 28]),l 31 30,x 32 (.call true 217 [.t 25,.t 29,.t 31]),m 6 32] .ret) .skip)) (s [q 34 .eql 8 4,m 33 34] (.cond 33 (s [h 35 2 3,h 36 6 4,h 37 7 5,c 38 257 [.t 35,.t 36,.t 37],m 6 38] .ret) (s [q 40 .eql 8 5,
 m 39 40] (.cond 39 (s [h 41 2 3,h 42 6 4,h 43 7 5,c 44 258 [.t 41,.t 42,.t 43],m 6 44] .ret) (s [q 46 .eql 8 6,m 45 46] (.cond 45 (s [f 47 2 5,l 48 47,f 49 2 4,l 50 49,n 51 50,c 52 64 [.t 48,(.k (.val (.int .i64 0))),.t 51]] (.cond 52
 (s [k 6 4] .ret) .skip)) (s [q 54 .eql 8 7,m 53 54] (.cond 53 (s [k 6 4] .ret) (s [q 56 .eql 8 8,m 55 56] (.cond 55 (s [f 57 6 5,l 58 57,n 59 58,q 60 .eql 59 1,m 61 60,y 64 61 (p 1 6 5),y 62 61 (j 2 3),y 63 61 (j 6 4),y 65 61 (r 1 64),
 y 66 61 (.iaddr 7 (.t 65) (.k (.val (.int .i64 0)))),y 67 61 (j 7 66),y 68 61 (.call true 216 [.t 62,.t 63,.t 67]),y 69 61 (.bin .eql (.t 68) (.k (.val (.int .i64 4)))),x 70 (.pick (.t 61) (.t 69) (.k (.val (.bool false))))] (.cond 70
 (s [h 71 2 3,f 72 4 5,l 73 72,f 74 5 5,l 75 74,c 76 217 [.t 71,.t 73,.t 75],m 6 76] .ret) .skip)) .skip)))))))))))))))))) (s [k 6 0] .ret))),[.t 6]⟩
theorem i216:iF 216 g216:=jF Tryz.func216
def g217:GFun:=⟨⟨27,[3,7,9]⟩,(s [a 3 2 0,k 6 0] (s [h 12 2 3,m 13 1,c 14 72 [.t 12,.t 13],m 11 14,v 15 11 0,v 16 11 1,u 7 2,t 7 2 15,m 8 16] (s [h 18 2 7,m 19 2,c 20 79 [.t 18,.t 19],m 17 20,v 21 17 0,v 22 17 1,u 9 4,t 9 4 21,m 10 22]
 (.seq (s [m 23 10,w 24 23] (.cond 24 (s [k 6 0] .ret) .skip)) (s [f 25 1 9,l 26 25,m 6 26] .ret))))),[.t 6]⟩
theorem i217:iF 217 g217:=jF Tryz.func217
def g218:GFun:=⟨⟨16,[2]⟩,(s [a 2 2 0,k 4 0] (s [h 6 2 2,m 7 1,c 8 204 [.t 6,.t 7],m 5 8] (.seq (s [m 9 5,q 10 .lss 9 0] (.cond 10 (s [k 4 0] .ret) .skip)) (s [h 11 2 2,c 12 203 [.t 11],m 13 5,i 14 1 12 13,l 15 14,m 4 15] .ret)))),
 [.t 4]⟩
theorem i218:iF 218 g218:=jF Tryz.func218
def g220:GFun:=⟨⟨31,[2]⟩,(s [a 2 7 0,x 4 (.mov (.k (.val (.slice none 0 0))))] (.seq (s [f 6 0 2,l 7 6,q 8 .eql 7 3] (.cond 8 (.reg [m 9 1,f 10 2 2,l 11 10,f 12 5 2,l 13 12,x 14 (.build [(.val (.int .i64 0)),(.val (.string
 (ByteArray.mk #[])))] [(0,(1,(.t 11))),(1,(1,(.t 13)))]),c 15 259 [.t 9,.t 14],m 1 15]) .skip)) (.seq (s [k 5 0] (B 0 (.seq (s [m 16 5,f 17 6 2,l 18 17,n 19 18,o 20 .lss 16 19] (.cond 20 .skip (.exit 0))) (.seq (.block 1 (.reg [f 23 6 2,
 l 24 23,m 25 5,i 26 7 24 25,h 27 7 26,m 28 1,c 29 220 [.t 27,.t 28],m 1 29])) (.reg [m 21 5,q 22 .add 21 1,m 5 22]))))) (s [m 30 1,m 4 30] .ret)))),[.t 4]⟩
theorem i220:iF 220 g220:=jF Tryz.func220
def g221:GFun:=⟨⟨15,[2]⟩,(s [a 2 7 0,b 3 false] (.seq (s [f 4 0 2,l 5 4,q 6 .eql 5 3] (.cond 6 (.reg [l 7 1,f 8 2 2,l 9 8,f 10 5 2,l 11 10,x 12 (.build [(.val (.int .i64 0)),(.val (.string (ByteArray.mk #[])))] [(0,(1,(.t 9))),(1,(1,
 (.t 11)))]),x 13 (.bslice 2 [] 1 true [(0,(.t 12))]),x 14 (.append 2 24 (.t 7) (.t 13)),(.mk none none (.store 1 (.t 1) (.t 14)))]) .skip)) (s [b 3 true] .ret))),[.t 3]⟩
theorem i221:iF 221 g221:=jF Tryz.func221
def g224:GFun:=⟨⟨61,[]⟩,(s [x 2 (.mov (.k (.val (.slice none 0 0))))] (.seq (s [m 6 0,n 7 6,q 8 .lss 7 2] (.cond 8 (s [m 9 0,m 2 9] .ret) .skip)) (.seq (s [k 3 1] (B 0 (.seq (s [m 10 3,m 11 0,n 12 11,o 13 .lss 10 12] (.cond 13 .skip
 (.exit 0))) (.seq (.block 1 (s [m 16 0,m 17 3,i 18 2 16 17,m 20 0,m 21 3,q 22 .sub 21 1,i 23 2 20 22,h 19 2 18,h 24 2 23,x 25 (.aeq false [1,2] (.t 19) (.t 24))] (.cond 25 (s [m 26 0,m 27 3,x 28 (.slc 2 (.t 26) (some (.t 27)) none),
 m 4 28] (.seq (s [k 5 1] (B 2 (.seq (s [m 29 5,m 30 4,n 31 30,o 32 .lss 29 31] (.cond 32 .skip (.exit 2))) (.seq (.block 3 (s [m 35 4,m 36 5,i 37 2 35 36,m 39 4,m 40 5,q 41 .sub 40 1,i 42 2 39 41,h 38 2 37,h 43 2 42,x 44 (.aeq true [1,2]
 (.t 38) (.t 43))] (.cond 44 (s [m 45 0,m 46 3,m 47 4,m 48 5,i 49 2 47 48,h 50 2 49,i 51 2 45 46,(.mk none none (.store 2 (.t 51) (.t 50)))] (.reg [m 52 3,q 53 .add 52 1,m 3 53])) .skip))) (.reg [m 33 5,q 34 .add 33 1,m 5 34])))))
 (s [m 54 0,m 55 3,x 56 (.slc 2 (.t 54) (some (.t 55)) none),(.mk none none (.clr 2 (.t 56)))] (s [m 57 0,m 58 3,x 59 (.slc 2 (.t 57) none (some (.t 58))),m 2 59] .ret)))) .skip))) (.reg [m 14 3,q 15 .add 14 1,m 3 15]))))) (s [m 60 0,
 m 2 60] .ret)))),[.t 2]⟩
theorem i224:iF 224 g224:=jF Tryz.func224
def g225:GFun:=⟨⟨8,[2]⟩,(s [a 2 7 0,b 3 false] (s [h 4 7 2,l 5 1,c 6 184 [.t 4,.t 5],w 7 6,m 3 7] .ret)),[.t 3]⟩
theorem i225:iF 225 g225:=jF Tryz.func225
def g226:GFun:=⟨⟨14,[]⟩,(s [b 4 false] (s [m 5 1,c 6 265 [.t 5],m 7 6,y 8 7 (.mov (.t 0)),y 9 7 (.mov (.t 1)),y 10 7 (.call false 230 [.t 8,.t 9]),y 11 7 (.mov (.t 0)),y 12 7 (.bin .eql (.t 10) (.t 11)),x 13 (.pick (.t 7) (.t 12) (.k
 (.val (.bool false)))),m 4 13] .ret)),[.t 4]⟩
theorem i226:iF 226 g226:=jF Tryz.func226
def g227:GFun:=⟨⟨35,[]⟩,(s [b 2 false] (.seq (s [m 4 0,x 5 (.slen (.t 4)),k 6 0] (B 0 (s [o 7 .lss 6 5] (C 7 0 (.seq (.block 1 (s [m 8 6,m 3 8] (s [m 9 0,m 10 3,x 11 (.idx (.t 9) (.t 10)),c 12 266 [.t 11],w 13 12,m 14 13,y 15 14 (.mov
 (.t 0)),y 16 14 (.mov (.t 3)),y 17 14 (.idx (.t 15) (.t 16)),y 18 14 (.call false 267 [.t 17]),y 19 14 (.not (.t 18)),x 20 (.pick (.t 14) (.t 19) (.k (.val (.bool false))))] (.cond 20 (s [b 2 false] .ret) .skip)))) (.reg [q 21 .add 6 1,
 m 6 21])))))) (s [m 22 0,x 23 (.slen (.t 22)),c 24 57 [.t 23,(.k (.val (.int .i64 1))),(.k (.val (.int .i64 8)))],m 25 24,y 26 25 (.mov (.t 0)),y 27 25 (.idx (.t 26) (.k (.val (.int .i64 0)))),y 28 25 (.call false 266 [.t 27]),x 29
 (.pick (.t 25) (.t 28) (.k (.val (.bool false)))),m 30 29,y 31 30 (.mov (.t 0)),y 32 30 (.call false 268 [.t 31]),y 33 30 (.not (.t 32)),x 34 (.pick (.t 30) (.t 33) (.k (.val (.bool false)))),m 2 34] .ret))),[.t 2]⟩
theorem i227:iF 227 g227:=jF Tryz.func227
def g228:GFun:=⟨⟨45,[2,3]⟩,(s [a 2 7 0,a 3 7 1,b 4 false] (s [f 5 0 2,l 6 5,f 7 0 3,l 8 7,o 9 .eql 6 8,m 10 9,y 11 10 (p 1 1 2),y 12 10 (r 1 11),y 13 10 (p 1 1 3),y 14 10 (r 1 13),y 15 10 (.bin .eql (.t 12) (.t 14)),x 16 (.pick
 (.t 10) (.t 15) (.k (.val (.bool false)))),m 17 16,y 18 17 (p 1 2 2),y 19 17 (r 1 18),y 20 17 (p 1 2 3),y 21 17 (r 1 20),y 22 17 (.bin .eql (.t 19) (.t 21)),x 23 (.pick (.t 17) (.t 22) (.k (.val (.bool false)))),m 24 23,y 25 24 (p 1 3 2),
 y 26 24 (r 1 25),y 27 24 (p 1 3 3),y 28 24 (r 1 27),y 29 24 (.bin .eql (.t 26) (.t 28)),x 30 (.pick (.t 24) (.t 29) (.k (.val (.bool false)))),m 31 30,y 32 31 (p 1 4 2),y 33 31 (r 1 32),y 34 31 (p 1 4 3),y 35 31 (r 1 34),y 36 31
 (.bin .eql (.t 33) (.t 35)),x 37 (.pick (.t 31) (.t 36) (.k (.val (.bool false)))),m 38 37,y 39 38 (p 1 5 2),y 40 38 (r 1 39),y 41 38 (p 1 5 3),y 42 38 (r 1 41),y 43 38 (.bin .eql (.t 40) (.t 42)),x 44 (.pick (.t 38) (.t 43) (.k (.val
 (.bool false)))),m 4 44] .ret)),[.t 4]⟩
theorem i228:iF 228 g228:=jF Tryz.func228
def g229:GFun:=⟨⟨23,[]⟩,(s [k 2 0,k 3 0,k 4 0] (.seq (s [m 5 0] (.block 0 (.seq (s [q 7 .eql 5 1,m 6 7] (.cond 6 .skip (s [q 8 .eql 5 2,m 6 8] (.cond 6 .skip (s [q 9 .eql 5 3,m 6 9] (.cond 6 .skip (s [q 10 .eql 5 4,m 6 10]
 (.cond 6 .skip (.reg [q 11 .eql 5 5,m 6 11]))))))))) (.cond 6 (s [k 2 1,k 3 1,k 4 1] .ret) (.seq (s [q 13 .eql 5 6,m 12 13] (.cond 12 .skip (s [q 14 .eql 5 7,m 12 14] (.cond 12 .skip (.reg [q 15 .eql 5 8,m 12 15]))))) (.cond 12 (s [k 2 2,
 k 3 2,k 4 2] .ret) (.seq (s [q 17 .eql 5 9,m 16 17] (.cond 16 .skip (.reg [q 18 .eql 5 10,m 16 18]))) (.cond 16 (s [k 2 1,k 3 1,k 4 3] .ret) (s [q 20 .eql 5 11,m 19 20] (.cond 19 (s [k 2 2,k 3 1,k 4 3] .ret) (s [q 22 .eql 5 12,m 21 22]
 (.cond 21 (s [k 2 2,k 3 1,k 4 2] .ret) .skip)))))))))))) (s [k 2 0,k 3 0,k 4 0] .ret))),[.t 2,.t 3,.t 4]⟩
theorem i229:iF 229 g229:=jF Tryz.func229
def g230:GFun:=⟨⟨29,[]⟩,(s [k 4 0] (.seq (.block 0 (s [m 6 1,q 7 .eql 6 1,m 5 7] (.cond 5 (s [m 8 0,c 9 231 [.t 8],m 4 9] .ret) (s [m 11 1,q 12 .eql 11 2,m 10 12] (.cond 10 (s [m 13 0,q 14 .and 13 4095,m 4 14] .ret) (s [m 16 1,
 q 17 .eql 16 3,m 15 17] (.cond 15 (s [m 18 0,q 19 .neq 18 0,c 20 232 [.t 19],m 4 20] .ret) (s [m 22 1,q 23 .eql 22 4,m 24 23,y 25 24 (.mov (.t 0)),y 26 24 (.call false 57 [.t 25,(.k (.val (.int .i64 0))),(.k (.val (.int .i64 999)))]),
 x 27 (.pick (.t 24) (.t 26) (.k (.val (.bool false)))),m 21 27] (.cond 21 (s [m 28 0,m 4 28] .ret) .skip))))))))) (s [k 4 0] .ret))),[.t 4]⟩
theorem i230:iF 230 g230:=jF Tryz.func230
def g231:GFun:=⟨⟨6,[]⟩,(s [k 2 0] (s [m 3 0,x 4 (.mn (.t 3) (.k (.val (.int .i64 1000000)))),x 5 (.mx (.t 4) (.k (.val (.int .i64 (-1000000))))),m 2 5] .ret)),[.t 2]⟩
theorem i231:iF 231 g231:=jF Tryz.func231
def g232:GFun:=⟨⟨4,[]⟩,(s [k 2 0] (.seq (s [m 3 0] (.cond 3 (s [k 2 1] .ret) .skip)) (s [k 2 0] .ret))),[.t 2]⟩
theorem i232:iF 232 g232:=jF Tryz.func232
def g233:GFun:=⟨⟨61,[1]⟩,(s [a 1 7 0,b 2 false] (.seq (s [f 3 0 1,l 4 3,c 5 64 [.t 4,(.k (.val (.int .i64 1))),(.k (.val (.int .i64 8)))],w 6 5,m 7 6,z 8 7 (j 7 1),z 9 7 (.call false 269 [.t 8]),z 10 7 (.not (.t 9)),x 11 (.pick (.t 7)
 (.k (.val (.bool true))) (.t 10))] (.cond 11 (s [b 2 false] .ret) .skip)) (.seq (s [f 12 0 1,l 13 12] (.block 0 (s [q 15 .eql 13 1,m 14 15] (.cond 14 (s [f 16 3 1,l 17 16,c 18 64 [.t 17,(.k (.val (.int .i64 1))),(.k (.val (.int .i64 3)))],
 m 19 18,y 20 19 (p 1 1 1),y 21 19 (r 1 20),y 22 19 (p 1 3 1),y 23 19 (r 1 22),y 24 19 (.call false 33 [.t 21,.t 23]),x 25 (.pick (.t 19) (.t 24) (.k (.val (.bool false)))),m 26 25,y 27 26 (p 1 1 1),y 28 26 (r 1 27),y 29 26 (.bin .geq
 (.t 28) (.k (.val (.int .i64 0)))),x 30 (.pick (.t 26) (.t 29) (.k (.val (.bool false)))),m 2 30] .ret) (s [q 32 .eql 13 3,m 31 32] (.cond 31 (s [f 33 2 1,l 34 33,c 35 64 [.t 34,(.k (.val (.int .i64 0))),(.k (.val (.int .i64 3)))],m 36 35,
 y 37 36 (p 1 5 1),y 38 36 (r 1 37),y 39 36 (.call false 270 [.t 38]),x 40 (.pick (.t 36) (.t 39) (.k (.val (.bool false)))),m 2 40] .ret) (s [q 42 .eql 13 6,m 41 42] (.cond 41 (s [f 43 2 1,l 44 43,c 45 64 [.t 44,(.k (.val (.int .i64 0))),
 (.k (.val (.int .i64 3)))],m 2 45] .ret) (s [q 47 .eql 13 4,m 46 47] (.cond 46 (s [f 48 1 1,l 49 48,c 50 64 [.t 49,(.k (.val (.int .i64 1))),(.k (.val (.int .i64 12)))],m 2 50] .ret) (s [q 52 .eql 13 8,m 51 52] (.cond 51 (s [f 53 4 1,
 l 54 53,c 55 270 [.t 54],m 56 55,y 57 56 (p 1 5 1),y 58 56 (r 1 57),y 59 56 (.call false 270 [.t 58]),x 60 (.pick (.t 56) (.t 59) (.k (.val (.bool false)))),m 2 60] .ret) .skip)))))))))))) (s [b 2 true] .ret)))),[.t 2]⟩
theorem i233:iF 233 g233:=jF Tryz.func233
def g234:GFun:=⟨⟨56,[3,8]⟩,(s [a 3 2 0,b 6 false] (.seq (s [k 7 0] (B 0 (.seq (s [m 12 7,f 13 1 3,l 14 13,n 15 14,o 16 .lss 12 15] (.cond 16 .skip (.exit 0))) (.seq (.block 1 (s [f 19 1 3,l 20 19,m 21 7,i 22 6 20 21,h 23 6 22,u 8 6,
 t 8 6 23] (s [f 24 1 8,l 25 24,m 26 1,o 27 .eql 25 26,m 9 27] (.seq (s [k 10 0] (B 2 (.seq (s [m 28 10,f 29 2 8,l 30 29,n 31 30,o 32 .lss 28 31] (.cond 32 .skip (.exit 2))) (.seq (.block 3 (s [f 36 2 8,m 38 10,h 35 2 3,l 37 36,
 i 39 1 37 38,l 40 39,x 41 (.call true 204 [.t 35,.t 40]),m 11 41] (.reg [m 42 9,m 43 42,y 44 43 (.mov (.t 11)),y 45 43 (.bin .geq (.t 44) (.k (.val (.int .i64 0)))),x 46 (.pick (.t 43) (.t 45) (.k (.val (.bool false)))),m 47 46,y 48 47
 (.mov (.t 2)),y 49 47 (.mov (.t 11)),y 50 47 (.call false 121 [.t 49,(.k (.val (.int .i64 0)))]),y 51 47 (.iaddr 1 (.t 48) (.t 50)),y 52 47 (r 1 51),y 53 47 (.bin .gtr (.t 52) (.k (.val (.int .i64 0)))),x 54 (.pick (.t 47) (.t 53) (.k
 (.val (.bool false)))),m 9 54]))) (.reg [m 33 10,q 34 .add 33 1,m 10 34]))))) (s [m 55 9] (.cond 55 (s [b 6 true] .ret) .skip)))))) (.reg [m 17 7,q 18 .add 17 1,m 7 18]))))) (s [b 6 false] .ret))),[.t 6]⟩
theorem i234:iF 234 g234:=jF Tryz.func234
def g235:GFun:=⟨⟨34,[1,4]⟩,(s [a 1 2 0,b 2 false] (.seq (s [f 5 1 1,l 6 5,n 7 6,k 8 0] (B 0 (s [o 9 .lss 8 7] (C 9 0 (.seq (.block 1 (s [m 10 8,i 11 4 6 8,h 12 4 11,u 4 4,m 3 10,t 4 4 12] (s [h 13 4 4,c 14 271 [.t 13],w 15 14,m 16 15,
 z 17 16 (p 1 1 1),z 18 16 (r 1 17),z 19 16 (.mov (.t 3)),z 20 16 (.slc 4 (.t 18) none (some (.t 19))),z 21 16 (.mkfn 272 [.t 4]),z 22 16 (.call false 145 [.t 20,.t 21]),x 23 (.pick (.t 16) (.k (.val (.bool true))) (.t 22))] (.cond 23
 (s [b 2 false] .ret) .skip)))) (.reg [q 24 .add 8 1,m 8 24])))))) (s [f 25 0 1,l 26 25,c 27 227 [.t 26],m 28 27,y 29 28 (p 1 1 1),y 30 28 (r 1 29),y 31 28 (.len (.t 30)),y 32 28 (.bin .leq (.t 31) (.k (.val (.int .i64 4)))),x 33 (.pick
 (.t 28) (.t 32) (.k (.val (.bool false)))),m 2 33] .ret))),[.t 2]⟩
theorem i235:iF 235 g235:=jF Tryz.func235
def g236:GFun:=⟨⟨9,[2]⟩,(s [a 2 2 0,b 3 false] (s [f 4 0 2,l 5 4,f 6 0 1,l 7 6,o 8 .eql 5 7,m 3 8] .ret)),[.t 3]⟩
theorem i236:iF 236 g236:=jF Tryz.func236
def g237:GFun:=⟨⟨104,[1,7,9]⟩,(s [a 1 6 0,b 2 false] (s [f 10 2 1,l 11 10,n 12 11,m 3 12] (.seq (s [f 13 0 1,l 14 13,c 15 227 [.t 14],w 16 15,m 17 16,z 18 17 (p 1 1 1),z 19 17 (r 1 18),z 20 17 (.call false 227 [.t 19]),z 21 17 (.not
 (.t 20)),x 22 (.pick (.t 17) (.k (.val (.bool true))) (.t 21)),m 23 22,z 24 23 (.mov (.t 3)),z 25 23 (.bin .gtr (.t 24) (.k (.val (.int .i64 3)))),x 26 (.pick (.t 23) (.k (.val (.bool true))) (.t 25)),m 27 26,z 28 27 (p 1 5 1),z 29 27
 (r 1 28),z 30 27 (.len (.t 29)),z 31 27 (.bin .gtr (.t 30) (.k (.val (.int .i64 2)))),x 32 (.pick (.t 27) (.k (.val (.bool true))) (.t 31))] (.cond 32 (s [b 2 false] .ret) .skip)) (.seq (s [f 33 2 1,l 34 33,n 35 34,k 36 0] (B 0
 (s [o 37 .lss 36 35] (C 37 0 (.seq (.block 1 (s [i 38 1 34 36,l 39 38,m 5 39] (s [m 40 5,c 41 227 [.t 40],w 42 41] (.cond 42 (s [b 2 false] .ret) .skip)))) (.reg [q 43 .add 36 1,m 36 43])))))) (.seq (s [f 44 4 1,l 45 44,n 46 45,k 47 0]
 (B 2 (s [o 48 .lss 47 46] (C 48 2 (.seq (.block 3 (s [i 49 9 45 47,h 50 9 49,u 7 9,t 7 9 50] (s [e 51 2 7 7,h 52 7 51,m 53 3,c 54 273 [.t 52,.t 53],w 55 54,m 56 55,z 57 56 (.faddr 0 2 true (.t 7)),z 58 56 (p 1 1 57),z 59 56 (r 1 58),
 z 60 56 (.call false 227 [.t 59]),z 61 56 (.not (.t 60)),x 62 (.pick (.t 56) (.k (.val (.bool true))) (.t 61)),m 63 62,z 64 63 (.faddr 0 2 true (.t 7)),z 65 63 (p 1 0 64),z 66 63 (r 1 65),z 67 63 (.mov (.t 3)),z 68 63
 (.call false 57 [.t 66,(.k (.val (.int .i64 0))),.t 67]),z 69 63 (.not (.t 68)),x 70 (.pick (.t 63) (.k (.val (.bool true))) (.t 69))] (.cond 70 (s [b 2 false] .ret) .skip)))) (.reg [q 71 .add 47 1,m 47 71])))))) (.seq (s [f 72 5 1,
 l 73 72,n 74 73,k 75 0] (B 4 (s [o 76 .lss 75 74] (C 76 4 (.seq (.block 5 (s [i 77 16 73 75,h 78 16 77,u 9 16,t 9 16 78] (s [e 79 2 7 9,h 80 7 79,m 81 3,c 82 273 [.t 80,.t 81],w 83 82,m 84 83,z 85 84 (.faddr 9 7 true (.t 9)),z 86 84
 (j 7 85),z 87 84 (.mov (.t 3)),z 88 84 (.call false 273 [.t 86,.t 87]),z 89 84 (.not (.t 88)),x 90 (.pick (.t 84) (.k (.val (.bool true))) (.t 89)),m 91 90,z 92 91 (p 1 0 9),z 93 91 (r 1 92),z 94 91 (.call false 227 [.t 93]),z 95 91
 (.not (.t 94)),x 96 (.pick (.t 91) (.k (.val (.bool true))) (.t 95)),m 97 96,z 98 97 (p 1 1 9),z 99 97 (r 1 98),z 100 97 (.call false 227 [.t 99]),z 101 97 (.not (.t 100)),x 102 (.pick (.t 97) (.k (.val (.bool true))) (.t 101))]
 (.cond 102 (s [b 2 false] .ret) .skip)))) (.reg [q 103 .add 75 1,m 75 103])))))) (s [b 2 true] .ret))))))),[.t 2]⟩
theorem i237:iF 237 g237:=jF Tryz.func237
def g238:GFun:=⟨⟨9,[2]⟩,(s [a 2 6 0,b 3 false] (s [f 4 0 2,l 5 4,f 6 0 1,l 7 6,o 8 .eql 5 7,m 3 8] .ret)),[.t 3]⟩
theorem i238:iF 238 g238:=jF Tryz.func238
def g239:GFun:=⟨⟨22,[2]⟩,(s [a 2 6 0,x 4 (.mov (.k (.val (.string (ByteArray.mk #[])))))] (.seq (.block 0 (s [m 6 1,q 7 .eql 6 0,m 5 7] (.cond 5 (s [f 8 1 2,l 9 8,m 4 9] .ret) (s [m 11 1,f 12 2 2,l 13 12,n 14 13,c 15 57 [.t 11,(.k
 (.val (.int .i64 1))),.t 14],m 10 15] (.cond 10 (s [f 16 2 2,l 17 16,m 18 1,q 19 .sub 18 1,i 20 1 17 19,l 21 20,m 4 21] .ret) .skip))))) (s [x 4 (.mov (.k (.val (.string (ByteArray.mk #[])))))] .ret))),[.t 4]⟩
theorem i239:iF 239 g239:=jF Tryz.func239
def g240:GFun:=⟨⟨9,[]⟩,(s [b 4 false] (s [m 5 0,m 6 1,c 7 274 [.t 5,.t 6],q 8 .geq 7 0,m 4 8] .ret)),[.t 4]⟩
theorem i240:iF 240 g240:=jF Tryz.func240
def g241:GFun:=⟨⟨51,[2,3,8,11]⟩,(s [a 2 2 0,a 3 6 1,x 4 (.mov (.k (.val (.slice none 0 0))))] (s [x 12 (.bslice 2 [] 0 true []),m 5 12] (.seq (s [f 13 2 3,l 14 13,n 15 14,q 16 .add 15 1,k 17 0] (B 0 (s [o 18 .lss 17 16] (C 18 0 (.seq
 (.block 1 (s [m 19 17,m 6 19] (s [k 7 1] (.seq (s [m 20 6,q 21 .eql 20 0] (.cond 21 (.reg [k 7 2]) .skip)) (s [m 25 6,u 8 2,h 23 2 2,h 24 6 3,x 26 (.call true 239 [.t 24,.t 25]),x 27 (.call true 82 [.t 23,.t 26]),m 22 27,v 28 22 0,
 v 29 22 1,t 8 2 28,m 9 29] (s [f 30 1 8,l 31 30,n 32 31,k 33 0] (B 2 (s [o 34 .lss 33 32] (C 34 2 (.seq (.block 3 (s [i 35 4 31 33,h 36 4 35,u 11 4,t 11 4 36] (s [f 37 2 11,l 38 37,m 39 7,o 40 .eql 38 39] (.cond 40 (.reg [m 41 5,m 42 6,
 f 43 0 11,l 44 43,x 45 (.build [(.val (.int .i64 0)),(.val (.string (ByteArray.mk #[])))] [(0,(1,(.t 42))),(1,(1,(.t 44)))]),x 46 (.bslice 2 [] 1 true [(0,(.t 45))]),x 47 (.append 2 24 (.t 41) (.t 46)),m 5 47]) .skip))))
 (.reg [q 48 .add 33 1,m 33 48]))))))))))) (.reg [q 49 .add 17 1,m 17 49])))))) (s [m 50 5,m 4 50] .ret)))),[.t 4]⟩
theorem i241:iF 241 g241:=jF Tryz.func241
def g242:GFun:=⟨⟨9,[2]⟩,(s [a 2 2 0,b 3 false] (s [f 4 4 1,l 5 4,x 6 (.mkfn 244 [.t 2]),c 7 243 [.t 5,.t 6],w 8 7,m 3 8] .ret)),[.t 3]⟩
theorem i242:iF 242 g242:=jF Tryz.func242
def g243:GFun:=⟨⟨9,[]⟩,(s [b 4 false] (s [m 5 0,m 6 1,c 7 275 [.t 5,.t 6],q 8 .geq 7 0,m 4 8] .ret)),[.t 4]⟩
theorem i243:iF 243 g243:=jF Tryz.func243
def g244:GFun:=⟨⟨8,[2]⟩,(s [a 2 9 0,b 3 false] (s [e 4 0 2 2,h 5 2 4,h 6 2 1,x 7 (.aeq false [1,2] (.t 5) (.t 6)),m 3 7] .ret)),[.t 3]⟩
theorem i244:iF 244 g244:=jF Tryz.func244
def g245:GFun:=⟨⟨9,[3]⟩,(s [a 3 2 1,b 4 false] (s [m 5 0,h 6 2 3,c 7 276 [.t 5,.t 6],q 8 .geq 7 0,m 4 8] .ret)),[.t 4]⟩
theorem i245:iF 245 g245:=jF Tryz.func245
def g246:GFun:=⟨⟨9,[2]⟩,(s [a 2 9 0,b 3 false] (s [e 4 0 2 2,h 5 2 4,e 6 0 2 1,h 7 2 6,x 8 (.aeq false [1,2] (.t 5) (.t 7)),m 3 8] .ret)),[.t 3]⟩
theorem i246:iF 246 g246:=jF Tryz.func246
def g247:GFun:=⟨⟨9,[3]⟩,(s [a 3 7 0,b 4 false] (s [h 5 7 3,c 6 180 [.t 5],x 7 (.mkfn 248 [.t 1,.t 2]),c 8 240 [.t 6,.t 7],m 4 8] .ret)),[.t 4]⟩
theorem i247:iF 247 g247:=jF Tryz.func247
def g248:GFun:=⟨⟨10,[3]⟩,(s [a 3 2 0,b 4 false] (s [h 5 2 1,h 6 6 2,h 7 2 3,c 8 249 [.t 5,.t 6,.t 7],w 9 8,m 4 9] .ret)),[.t 4]⟩
theorem i248:iF 248 g248:=jF Tryz.func248
def g249:GFun:=⟨⟨31,[3,4,5,7]⟩,(s [a 3 2 0,a 4 6 1,a 5 2 2,b 6 false] (s [h 10 2 3,h 11 6 4,h 12 2 5,c 13 211 [.t 10,.t 11,.t 12],m 9 13,v 14 9 0,v 15 9 1,u 7 4,t 7 4 14,m 8 15] (.seq (s [f 16 0 5,l 17 16,q 18 .eql 17 0] (.cond 18
 (s [m 19 8,m 20 19,y 21 20 (p 1 2 7),y 22 20 (r 1 21),y 23 20 (.bin .eql (.t 22) (.k (.val (.int .i64 1)))),x 24 (.pick (.t 20) (.t 23) (.k (.val (.bool false)))),m 6 24] .ret) .skip)) (s [m 25 8,m 26 25,y 27 26 (p 1 2 7),y 28 26 (r 1 27),
 y 29 26 (.bin .eql (.t 28) (.k (.val (.int .i64 2)))),x 30 (.pick (.t 26) (.t 29) (.k (.val (.bool false)))),m 6 30] .ret)))),[.t 6]⟩
theorem i249:iF 249 g249:=jF Tryz.func249
def g250:GFun:=⟨⟨41,[1]⟩,(s [a 1 2 0,b 2 false] (s [x 5 (.bslice 1 [] 0 false []),m 3 5] (.seq (s [k 4 0] (B 0 (.seq (s [m 6 4,f 7 1 1,l 8 7,n 9 8,o 10 .lss 6 9] (.cond 10 .skip (.exit 0))) (.seq (.block 1 (.seq (s [f 13 1 1,l 14 13,
 m 15 4,i 16 4 14 15,h 17 4 16,c 18 277 [.t 17],w 19 18] (.cond 19 (s [b 2 false] .ret) .skip)) (.reg [m 20 3,f 21 1 1,l 22 21,m 23 4,i 24 4 22 23,f 25 0 24,l 26 25,x 27 (.bslice 1 [] 1 false [(0,(.t 26))]),x 28 (.append 1 16 (.t 20)
 (.t 27)),m 3 28]))) (.reg [m 11 4,q 12 .add 11 1,m 4 12]))))) (s [f 29 0 1,l 30 29,c 31 270 [.t 30],m 32 31,y 33 32 (.mov (.t 3)),y 34 32 (.len (.t 33)),y 35 32 (.bin .leq (.t 34) (.k (.val (.int .i64 4)))),x 36 (.pick (.t 32) (.t 35)
 (.k (.val (.bool false)))),m 37 36,y 38 37 (.mov (.t 3)),y 39 37 (.call false 278 [.t 38]),x 40 (.pick (.t 37) (.t 39) (.k (.val (.bool false)))),m 2 40] .ret)))),[.t 2]⟩
theorem i250:iF 250 g250:=jF Tryz.func250
def g251:GFun:=⟨⟨18,[]⟩,(s [b 4 false] (.seq (s [k 5 0] (B 0 (.seq (s [m 6 5,m 7 0,n 8 7,o 9 .lss 6 8] (.cond 9 .skip (.exit 0))) (.seq (.block 1 (s [m 12 0,m 13 5,i 14 1 12 13,l 15 14,m 16 1,o 17 .eql 15 16] (.cond 17
 (s [b 4 true] .ret) .skip))) (.reg [m 10 5,q 11 .add 10 1,m 5 11]))))) (s [b 4 false] .ret))),[.t 4]⟩
theorem i251:iF 251 g251:=jF Tryz.func251
def g252:GFun:=⟨⟨112,[1,6,8]⟩,(s [a 1 6 0,b 2 false] (s [f 9 2 1,l 10 9,n 11 10,m 3 11] (.seq (s [f 12 0 1,l 13 12,c 14 270 [.t 13],w 15 14,m 16 15,z 17 16 (p 1 1 1),z 18 16 (r 1 17),z 19 16 (.call false 270 [.t 18]),z 20 16 (.not
 (.t 19)),x 21 (.pick (.t 16) (.k (.val (.bool true))) (.t 20)),m 22 21,z 23 22 (.mov (.t 3)),z 24 22 (.bin .gtr (.t 23) (.k (.val (.int .i64 3)))),x 25 (.pick (.t 22) (.k (.val (.bool true))) (.t 24)),m 26 25,z 27 26 (p 1 5 1),z 28 26
 (r 1 27),z 29 26 (.len (.t 28)),z 30 26 (.bin .gtr (.t 29) (.k (.val (.int .i64 2)))),x 31 (.pick (.t 26) (.k (.val (.bool true))) (.t 30))] (.cond 31 (s [b 2 false] .ret) .skip)) (.seq (s [k 4 0] (B 0 (.seq (s [m 32 4,m 33 3,
 o 34 .lss 32 33] (.cond 34 .skip (.exit 0))) (.seq (.block 1 (s [f 37 2 1,l 38 37,m 39 4,i 40 1 38 39,l 41 40,c 42 270 [.t 41],w 43 42] (.cond 43 (s [b 2 false] .ret) .skip))) (.reg [m 35 4,q 36 .add 35 1,m 4 36]))))) (.seq (s [k 5 0]
 (B 2 (.seq (s [m 44 5,f 45 4 1,l 46 45,n 47 46,o 48 .lss 44 47] (.cond 48 .skip (.exit 2))) (.seq (.block 3 (s [f 51 4 1,l 52 51,m 53 5,i 54 9 52 53,h 55 9 54,u 6 9,t 6 9 55] (s [e 56 0 2 6,f 57 1 56,l 58 57,c 59 270 [.t 58],w 60 59,
 m 61 60,z 62 61 (.faddr 0 2 true (.t 6)),z 63 61 (p 1 0 62),z 64 61 (r 1 63),z 65 61 (.mov (.t 3)),z 66 61 (.call false 64 [.t 64,(.k (.val (.int .i64 0))),.t 65]),z 67 61 (.not (.t 66)),x 68 (.pick (.t 61) (.k (.val (.bool true)))
 (.t 67)),m 69 68,z 70 69 (.faddr 2 7 true (.t 6)),z 71 69 (j 7 70),z 72 69 (.mov (.t 3)),z 73 69 (.call false 279 [.t 71,.t 72]),z 74 69 (.not (.t 73)),x 75 (.pick (.t 69) (.k (.val (.bool true))) (.t 74))] (.cond 75
 (s [b 2 false] .ret) .skip)))) (.reg [m 49 5,q 50 .add 49 1,m 5 50]))))) (.seq (s [k 7 0] (B 4 (.seq (s [m 76 7,f 77 5 1,l 78 77,n 79 78,o 80 .lss 76 79] (.cond 80 .skip (.exit 4))) (.seq (.block 5 (s [f 83 5 1,l 84 83,m 85 7,
 i 86 16 84 85,h 87 16 86,u 8 16,t 8 16 87] (s [f 88 0 8,l 89 88,c 90 270 [.t 89],w 91 90,m 92 91,z 93 92 (p 1 1 8),z 94 92 (r 1 93),z 95 92 (.call false 270 [.t 94]),z 96 92 (.not (.t 95)),x 97 (.pick (.t 92) (.k (.val (.bool true)))
 (.t 96)),m 98 97,z 99 98 (.faddr 2 7 true (.t 8)),z 100 98 (j 7 99),z 101 98 (.mov (.t 3)),z 102 98 (.call false 279 [.t 100,.t 101]),z 103 98 (.not (.t 102)),x 104 (.pick (.t 98) (.k (.val (.bool true))) (.t 103)),m 105 104,z 106 105
 (.faddr 9 7 true (.t 8)),z 107 105 (j 7 106),z 108 105 (.mov (.t 3)),z 109 105 (.call false 279 [.t 107,.t 108]),z 110 105 (.not (.t 109)),x 111 (.pick (.t 105) (.k (.val (.bool true))) (.t 110))] (.cond 111
 (s [b 2 false] .ret) .skip)))) (.reg [m 81 7,q 82 .add 81 1,m 7 82]))))) (s [b 2 true] .ret))))))),[.t 2]⟩
theorem i252:iF 252 g252:=jF Tryz.func252
def g253:GFun:=⟨⟨25,[2,3,6]⟩,(s [a 2 2 0,a 3 6 1,b 4 false] (.seq (s [k 5 0] (B 0 (.seq (s [m 8 5,f 9 2 3,l 10 9,n 11 10,o 12 .leq 8 11] (.cond 12 .skip (.exit 0))) (.seq (.block 1 (s [m 18 5,u 6 2,h 16 2 2,h 17 6 3,x 19
 (.call true 162 [.t 17,.t 18]),x 20 (.call true 72 [.t 16,.t 19]),m 15 20,v 21 15 0,v 22 15 1,t 6 2 21,m 7 22] (s [m 23 7,w 24 23] (.cond 24 (s [b 4 false] .ret) .skip)))) (.reg [m 13 5,q 14 .add 13 1,m 5 14]))))) (s [b 4 true] .ret))),
 [.t 4]⟩
theorem i253:iF 253 g253:=jF Tryz.func253
def g254:GFun:=⟨⟨29,[2,3,7]⟩,(s [a 2 2 0,a 3 6 1,b 4 false] (s [h 9 2 2,h 10 6 3,c 11 161 [.t 9,.t 10],m 5 11] (.seq (s [k 6 0] (B 0 (.seq (s [m 12 6,m 13 5,n 14 13,o 15 .lss 12 14] (.cond 15 .skip (.exit 0))) (.seq (.block 1
 (s [m 20 5,m 21 6,i 22 2 20 21,u 7 7,h 19 6 3,h 23 2 22,x 24 (.call true 157 [.t 19,.t 23]),m 18 24,v 25 18 0,v 26 18 1,t 7 7 25,m 8 26] (s [m 27 8,w 28 27] (.cond 28 (s [b 4 true] .ret) .skip)))) (.reg [m 16 6,q 17 .add 16 1,
 m 6 17]))))) (s [b 4 false] .ret)))),[.t 4]⟩
theorem i254:iF 254 g254:=jF Tryz.func254
def g255:GFun:=⟨⟨39,[2,3,8]⟩,(s [a 2 2 0,a 3 6 1,b 4 false] (s [h 9 2 2,h 10 6 3,c 11 161 [.t 9,.t 10],m 5 11] (s [x 12 (.bslice 2 [] 0 true []),m 6 12] (.seq (s [k 7 0] (B 0 (.seq (s [m 13 7,f 14 4 3,l 15 14,n 16 15,o 17 .lss 13 16]
 (.cond 17 .skip (.exit 0))) (.seq (.block 1 (s [f 20 4 3,l 21 20,m 22 7,i 23 9 21 22,e 24 0 2 23,h 25 2 24,u 8 2,t 8 2 25] (.seq (s [m 26 5,h 27 2 8,c 28 280 [.t 26,.t 27],w 29 28,m 30 29,z 31 30 (.mov (.t 6)),z 32 30 (j 2 8),z 33 30
 (.call false 280 [.t 31,.t 32]),x 34 (.pick (.t 30) (.k (.val (.bool true))) (.t 33))] (.cond 34 (s [b 4 true] .ret) .skip)) (.reg [m 35 6,h 36 2 8,x 37 (.bslice 2 [] 1 true [(0,(.t 36))]),x 38 (.append 2 24 (.t 35) (.t 37)),m 6 38]))))
 (.reg [m 18 7,q 19 .add 18 1,m 7 19]))))) (s [b 4 false] .ret))))),[.t 4]⟩
theorem i255:iF 255 g255:=jF Tryz.func255
def g256:GFun:=⟨⟨53,[2,3]⟩,(s [a 2 2 0,a 3 6 1,b 4 false] (.seq (s [k 5 0] (B 0 (.seq (s [m 7 5,f 8 4 3,l 9 8,n 10 9,o 11 .lss 7 10] (.cond 11 .skip (.exit 0))) (.seq (.block 1 (s [f 16 4 3,m 18 5,h 14 2 2,h 15 6 3,l 17 16,i 19 9 17 18,
 e 20 2 7 19,h 21 7 20,x 22 (.call true 281 [.t 14,.t 15,.t 21]),w 23 22] (.cond 23 (s [b 4 true] .ret) .skip))) (.reg [m 12 5,q 13 .add 12 1,m 5 13]))))) (.seq (s [k 6 0] (B 2 (.seq (s [m 24 6,f 25 5 3,l 26 25,n 27 26,o 28 .lss 24 27]
 (.cond 28 .skip (.exit 2))) (.seq (.block 3 (s [f 33 5 3,m 35 6,h 31 2 2,h 32 6 3,l 34 33,i 36 16 34 35,e 37 2 7 36,h 38 7 37,x 39 (.call true 281 [.t 31,.t 32,.t 38]),w 40 39,m 41 40,z 44 41 (p 1 5 3),z 46 41 (.mov (.t 6)),z 42 41
 (j 2 2),z 43 41 (j 6 3),z 45 41 (r 1 44),z 47 41 (.iaddr 16 (.t 45) (.t 46)),z 48 41 (.faddr 9 7 true (.t 47)),z 49 41 (j 7 48),z 50 41 (.call true 281 [.t 42,.t 43,.t 49]),z 51 41 (.not (.t 50)),x 52 (.pick (.t 41) (.k (.val
 (.bool true))) (.t 51))] (.cond 52 (s [b 4 true] .ret) .skip))) (.reg [m 29 6,q 30 .add 29 1,m 6 30]))))) (s [b 4 false] .ret)))),[.t 4]⟩
theorem i256:iF 256 g256:=jF Tryz.func256
def g257:GFun:=⟨⟨44,[3,4,5]⟩,(s [a 3 2 0,a 4 6 1,a 5 7 2,k 6 0] (s [f 11 1 5,l 12 11,c 13 199 [.t 12],m 10 13,v 14 10 0,v 15 10 1,v 16 10 2,m 7 14,m 8 15,m 9 16] (.seq (s [f 17 6 5,l 18 17,n 19 18,q 20 .neq 19 2,m 21 20,z 24 21
 (p 1 6 5),z 29 21 (.mov (.t 7)),z 22 21 (j 2 3),z 23 21 (j 6 4),z 25 21 (r 1 24),z 26 21 (.iaddr 7 (.t 25) (.k (.val (.int .i64 0)))),z 27 21 (j 7 26),z 28 21 (.call true 216 [.t 22,.t 23,.t 27]),z 30 21 (.bin .neq (.t 28) (.t 29)),x 31
 (.pick (.t 21) (.k (.val (.bool true))) (.t 30)),m 32 31,z 35 32 (p 1 6 5),z 40 32 (.mov (.t 8)),z 33 32 (j 2 3),z 34 32 (j 6 4),z 36 32 (r 1 35),z 37 32 (.iaddr 7 (.t 36) (.k (.val (.int .i64 1)))),z 38 32 (j 7 37),z 39 32
 (.call true 216 [.t 33,.t 34,.t 38]),z 41 32 (.bin .neq (.t 39) (.t 40)),x 42 (.pick (.t 32) (.k (.val (.bool true))) (.t 41))] (.cond 42 (s [k 6 0] .ret) .skip)) (s [m 43 9,m 6 43] .ret)))),[.t 6]⟩
theorem i257:iF 257 g257:=jF Tryz.func257
def g258:GFun:=⟨⟨39,[3,4,5]⟩,(s [a 3 2 0,a 4 6 1,a 5 7 2,k 6 0] (.seq (s [f 8 6 5,l 9 8,n 10 9,q 11 .neq 10 3,m 12 11,z 15 12 (p 1 6 5),z 13 12 (j 2 3),z 14 12 (j 6 4),z 16 12 (r 1 15),z 17 12 (.iaddr 7 (.t 16) (.k (.val
 (.int .i64 0)))),z 18 12 (j 7 17),z 19 12 (.call true 216 [.t 13,.t 14,.t 18]),z 20 12 (.bin .neq (.t 19) (.k (.val (.int .i64 3)))),x 21 (.pick (.t 12) (.k (.val (.bool true))) (.t 20))] (.cond 21 (s [k 6 0] .ret) .skip)) (s [f 24 6 5,
 h 22 2 3,h 23 6 4,l 25 24,x 26 (.iaddr 7 (.t 25) (.k (.val (.int .i64 1)))),h 27 7 26,x 28 (.call true 216 [.t 22,.t 23,.t 27]),m 7 28] (.seq (s [m 29 7,f 32 6 5,h 30 2 3,h 31 6 4,l 33 32,x 34 (.iaddr 7 (.t 33) (.k (.val (.int .i64 2)))),
 h 35 7 34,x 36 (.call true 216 [.t 30,.t 31,.t 35]),o 37 .neq 29 36] (.cond 37 (s [k 6 0] .ret) .skip)) (s [m 38 7,m 6 38] .ret))))),[.t 6]⟩
theorem i258:iF 258 g258:=jF Tryz.func258
def g259:GFun:=⟨⟨48,[3]⟩,(s [a 3 2 1,x 4 (.mov (.k (.val (.slice none 0 0))))] (s [k 5 0] (.seq (B 0 (.seq (s [m 7 5,m 8 0,n 9 8,o 10 .lss 7 9,m 11 10,y 12 11 (.mov (.t 0)),y 13 11 (.mov (.t 5)),y 14 11 (.iaddr 2 (.t 12) (.t 13)),
 y 15 11 (j 2 14),y 16 11 (j 2 3),y 17 11 (.call true 282 [.t 15,.t 16]),x 18 (.pick (.t 11) (.t 17) (.k (.val (.bool false))))] (.cond 18 .skip (.exit 0))) (.block 1 (.reg [m 19 5,q 20 .add 19 1,m 5 20])))) (.seq (s [m 21 5,m 22 0,n 23 22,
 o 24 .lss 21 23,m 25 24,y 26 25 (.mov (.t 0)),y 27 25 (.mov (.t 5)),y 28 25 (.iaddr 2 (.t 26) (.t 27)),y 29 25 (j 2 28),y 30 25 (j 2 3),y 31 25 (.aeq false [1,2] (.t 29) (.t 30)),x 32 (.pick (.t 25) (.t 31) (.k (.val (.bool false))))]
 (.cond 32 (s [m 33 0,m 4 33] .ret) .skip)) (s [x 34 (.bslice 2 [] 0 true []),m 35 0,m 36 5,x 37 (.slc 2 (.t 35) none (some (.t 36))),x 38 (.append 2 24 (.t 34) (.t 37)),m 6 38] (s [m 39 6,h 40 2 3,x 41 (.bslice 2 [] 1 true [(0,(.t 40))]),
 x 42 (.append 2 24 (.t 39) (.t 41)),m 6 42] (s [m 43 6,m 44 0,m 45 5,x 46 (.slc 2 (.t 44) (some (.t 45)) none),x 47 (.append 2 24 (.t 43) (.t 46)),m 4 47] .ret))))))),[.t 4]⟩
theorem i259:iF 259 g259:=jF Tryz.func259
def g265:GFun:=⟨⟨5,[]⟩,(s [b 2 false] (s [m 3 0,c 4 57 [.t 3,(.k (.val (.int .i64 1))),(.k (.val (.int .i64 4)))],m 2 4] .ret)),[.t 2]⟩
theorem i265:iF 265 g265:=jF Tryz.func265
def g266:GFun:=⟨⟨9,[]⟩,(s [b 2 false] (s [m 3 0,x 4 (.bin .geq (.t 3) (.k (.val (.int .u8 97)))),m 5 4,y 6 5 (.mov (.t 0)),y 7 5 (.bin .leq (.t 6) (.k (.val (.int .u8 122)))),x 8 (.pick (.t 5) (.t 7) (.k (.val (.bool false)))),
 m 2 8] .ret)),[.t 2]⟩
theorem i266:iF 266 g266:=jF Tryz.func266
def g267:GFun:=⟨⟨9,[]⟩,(s [b 2 false] (s [m 3 0,x 4 (.bin .geq (.t 3) (.k (.val (.int .u8 48)))),m 5 4,y 6 5 (.mov (.t 0)),y 7 5 (.bin .leq (.t 6) (.k (.val (.int .u8 57)))),x 8 (.pick (.t 5) (.t 7) (.k (.val (.bool false)))),
 m 2 8] .ret)),[.t 2]⟩
theorem i267:iF 267 g267:=jF Tryz.func267
def g268:GFun:=⟨⟨18,[]⟩,(s [b 2 false] (.seq (s [m 3 0] (.block 0 (.seq (s [x 5 (.bin .eql (.t 3) (.k (.val (.string (ByteArray.mk #[105,102]))))),m 4 5] (.cond 4 .skip (s [x 6 (.bin .eql (.t 3) (.k (.val (.string (ByteArray.mk #[116,
 104,101,110]))))),m 4 6] (.cond 4 .skip (s [x 7 (.bin .eql (.t 3) (.k (.val (.string (ByteArray.mk #[101,108,115,101]))))),m 4 7] (.cond 4 .skip (s [x 8 (.bin .eql (.t 3) (.k (.val (.string (ByteArray.mk #[116,114,117,101]))))),m 4 8]
 (.cond 4 .skip (s [x 9 (.bin .eql (.t 3) (.k (.val (.string (ByteArray.mk #[102,97,108,115,101]))))),m 4 9] (.cond 4 .skip (s [x 10 (.bin .eql (.t 3) (.k (.val (.string (ByteArray.mk #[108,105,116]))))),m 4 10] (.cond 4 .skip (s [x 11
 (.bin .eql (.t 3) (.k (.val (.string (ByteArray.mk #[110,111,110,101]))))),m 4 11] (.cond 4 .skip (s [x 12 (.bin .eql (.t 3) (.k (.val (.string (ByteArray.mk #[115,101,108,102]))))),m 4 12] (.cond 4 .skip (s [x 13 (.bin .eql (.t 3) (.k
 (.val (.string (ByteArray.mk #[111,102]))))),m 4 13] (.cond 4 .skip (s [x 14 (.bin .eql (.t 3) (.k (.val (.string (ByteArray.mk #[109,97,120]))))),m 4 14] (.cond 4 .skip (s [x 15 (.bin .eql (.t 3) (.k (.val (.string (ByteArray.mk #[109,
 105,110]))))),m 4 15] (.cond 4 .skip (s [x 16 (.bin .eql (.t 3) (.k (.val (.string (ByteArray.mk #[119,105,116,104]))))),m 4 16] (.cond 4 .skip (.reg [x 17 (.bin .eql (.t 3) (.k (.val (.string (ByteArray.mk #[104,97,115]))))),
 m 4 17]))))))))))))))))))))))))) (.cond 4 (s [b 2 true] .ret) .skip)))) (s [b 2 false] .ret))),[.t 2]⟩
theorem i268:iF 268 g268:=jF Tryz.func268
def g269:GFun:=⟨⟨86,[1]⟩,(s [a 1 7 0,b 2 false] (s [k 3 0] (.seq (s [f 7 0 1,l 8 7] (.block 0 (s [q 10 .eql 8 4,m 9 10] (.cond 9 (.reg [k 3 2]) (s [q 12 .eql 8 5,m 11 12] (.cond 11 (.reg [k 3 3]) (s [q 14 .eql 8 8,m 13 14] (.cond 13
 (.reg [k 3 1]) .skip)))))))) (.seq (s [f 15 6 1,l 16 15,n 17 16,m 18 3,o 19 .neq 17 18] (.cond 19 (s [b 2 false] .ret) .skip)) (s [f 20 0 1,l 21 20,q 22 .eql 21 3,m 23 22,z 24 23 (p 1 0 1),z 25 23 (r 1 24),z 26 23 (.bin .eql (.t 25) (.k
 (.val (.int .i64 6)))),x 27 (.pick (.t 23) (.k (.val (.bool true))) (.t 26)),m 4 27] (s [f 28 0 1,l 29 28,q 30 .eql 29 3,m 31 30,z 32 31 (p 1 0 1),z 33 31 (r 1 32),z 34 31 (.bin .eql (.t 33) (.k (.val (.int .i64 8)))),x 35 (.pick (.t 31)
 (.k (.val (.bool true))) (.t 34)),m 5 35] (s [f 36 0 1,l 37 36,q 38 .eql 37 1,m 39 38,z 40 39 (p 1 0 1),z 41 39 (r 1 40),z 42 39 (.bin .eql (.t 41) (.k (.val (.int .i64 4)))),x 43 (.pick (.t 39) (.k (.val (.bool true))) (.t 42)),m 6 43]
 (s [m 44 4,m 45 44,z 46 45 (p 1 2 1),z 47 45 (r 1 46),z 48 45 (.bin .eql (.t 47) (.k (.val (.int .i64 0)))),x 49 (.pick (.t 45) (.k (.val (.bool true))) (.t 48)),m 50 49,y 51 50 (.mov (.t 5)),y 52 50 (.mov (.t 51)),z 53 52 (p 1 5 1),
 z 54 52 (r 1 53),z 55 52 (.bin .eql (.t 54) (.k (.val (.string (ByteArray.mk #[]))))),y 56 50 (.pick (.t 52) (.k (.val (.bool true))) (.t 55)),x 57 (.pick (.t 50) (.t 56) (.k (.val (.bool false)))),m 58 57,y 59 58 (.mov (.t 6)),y 60 58
 (.mov (.t 59)),z 61 60 (p 1 1 1),z 62 60 (r 1 61),z 63 60 (.bin .eql (.t 62) (.k (.val (.int .i64 0)))),y 64 58 (.pick (.t 60) (.k (.val (.bool true))) (.t 63)),x 65 (.pick (.t 58) (.t 64) (.k (.val (.bool false)))),m 66 65,y 67 66
 (p 1 0 1),y 68 66 (r 1 67),y 69 66 (.bin .eql (.t 68) (.k (.val (.int .i64 1)))),y 70 66 (.mov (.t 69)),z 71 70 (p 1 3 1),z 72 70 (r 1 71),z 73 70 (.bin .eql (.t 72) (.k (.val (.int .i64 0)))),y 74 66 (.pick (.t 70) (.k (.val
 (.bool true))) (.t 73)),x 75 (.pick (.t 66) (.t 74) (.k (.val (.bool false)))),m 76 75,y 77 76 (p 1 0 1),y 78 76 (r 1 77),y 79 76 (.bin .eql (.t 78) (.k (.val (.int .i64 8)))),y 80 76 (.mov (.t 79)),z 81 80 (p 1 4 1),z 82 80 (r 1 81),
 z 83 80 (.bin .eql (.t 82) (.k (.val (.string (ByteArray.mk #[]))))),y 84 76 (.pick (.t 80) (.k (.val (.bool true))) (.t 83)),x 85 (.pick (.t 76) (.t 84) (.k (.val (.bool false)))),m 2 85] .ret)))))))),[.t 2]⟩
theorem i269:iF 269 g269:=jF Tryz.func269
def g270:GFun:=⟨⟨15,[]⟩,(s [b 2 false] (s [m 3 0,c 4 295 [.t 3],m 5 4,y 6 5 (.mov (.t 0)),y 7 5 (.slen (.t 6)),y 8 5 (.bin .leq (.t 7) (.k (.val (.int .i64 8)))),x 9 (.pick (.t 5) (.t 8) (.k (.val (.bool false)))),m 10 9,y 11 10 (.mov
 (.t 0)),y 12 10 (.call false 296 [.t 11]),y 13 10 (.not (.t 12)),x 14 (.pick (.t 10) (.t 13) (.k (.val (.bool false)))),m 2 14] .ret)),[.t 2]⟩
theorem i270:iF 270 g270:=jF Tryz.func270
def g271:GFun:=⟨⟨40,[1]⟩,(s [a 1 4 0,b 2 false] (.seq (.block 0 (s [f 4 0 1,l 5 4,c 6 227 [.t 5],w 7 6,m 8 7,z 9 8 (p 1 1 1),z 10 8 (r 1 9),z 11 8 (.call false 265 [.t 10]),z 12 8 (.not (.t 11)),x 13 (.pick (.t 8) (.k (.val
 (.bool true))) (.t 12)),m 14 13,z 15 14 (p 1 2 1),z 16 14 (r 1 15),z 17 14 (.call false 57 [.t 16,(.k (.val (.int .i64 1))),(.k (.val (.int .i64 3)))]),z 18 14 (.not (.t 17)),x 19 (.pick (.t 14) (.k (.val (.bool true))) (.t 18)),m 3 19]
 (.cond 3 (s [b 2 false] .ret) (s [f 21 2 1,l 22 21,q 23 .eql 22 3,m 20 23] (.cond 20 (s [f 24 1 1,l 25 24,q 26 .eql 25 2,m 27 26,y 28 27 (p 1 3 1),y 29 27 (r 1 28),y 30 27 (.not (.t 29)),x 31 (.pick (.t 27) (.t 30) (.k (.val
 (.bool false)))),m 2 31] .ret) .skip))))) (s [f 32 3 1,l 33 32,w 34 33,m 35 34,z 36 35 (p 1 1 1),z 37 35 (r 1 36),z 38 35 (.bin .eql (.t 37) (.k (.val (.int .i64 2)))),x 39 (.pick (.t 35) (.k (.val (.bool true))) (.t 38)),m 2 39] .ret))),
 [.t 2]⟩
theorem i271:iF 271 g271:=jF Tryz.func271
def g272:GFun:=⟨⟨9,[2]⟩,(s [a 2 4 0,b 3 false] (s [f 4 0 2,l 5 4,f 6 0 1,l 7 6,o 8 .eql 5 7,m 3 8] .ret)),[.t 3]⟩
theorem i272:iF 272 g272:=jF Tryz.func272
def g273:GFun:=⟨⟨12,[2,3]⟩,(s [a 2 7 0,a 3 1 1,b 4 false] (s [h 5 7 2,c 6 151 [.t 5],m 7 6,y 8 7 (j 7 2),y 9 7 (.mkfn 297 [.t 3]),y 10 7 (.call false 184 [.t 8,.t 9]),x 11 (.pick (.t 7) (.t 10) (.k (.val (.bool false)))),m 4 11] .ret)),
 [.t 4]⟩
theorem i273:iF 273 g273:=jF Tryz.func273
def g274:GFun:=⟨⟨19,[]⟩,(s [k 4 0] (.seq (s [m 6 0,n 7 6,k 8 0] (B 0 (s [o 9 .lss 8 7] (C 9 0 (.seq (.block 1 (s [m 10 8,m 5 10] (s [m 11 1,m 12 0,m 13 5,i 14 2 12 13,h 15 2 14,x 16 (.callv false (.t 11) [.t 15])] (.cond 16 (s [m 17 5,
 m 4 17] .ret) .skip)))) (.reg [q 18 .add 8 1,m 8 18])))))) (s [k 4 (-1)] .ret))),[.t 4]⟩
theorem i274:iF 274 g274:=jF Tryz.func274
def g275:GFun:=⟨⟨19,[]⟩,(s [k 4 0] (.seq (s [m 6 0,n 7 6,k 8 0] (B 0 (s [o 9 .lss 8 7] (C 9 0 (.seq (.block 1 (s [m 10 8,m 5 10] (s [m 11 1,m 12 0,m 13 5,i 14 9 12 13,h 15 9 14,x 16 (.callv false (.t 11) [.t 15])] (.cond 16 (s [m 17 5,
 m 4 17] .ret) .skip)))) (.reg [q 18 .add 8 1,m 8 18])))))) (s [k 4 (-1)] .ret))),[.t 4]⟩
theorem i275:iF 275 g275:=jF Tryz.func275
def g276:GFun:=⟨⟨19,[3]⟩,(s [a 3 2 1,k 4 0] (.seq (s [m 6 0,n 7 6,k 8 0] (B 0 (s [o 9 .lss 8 7] (C 9 0 (.seq (.block 1 (s [m 10 8,m 5 10] (s [m 12 0,m 13 5,i 14 2 12 13,h 11 2 3,h 15 2 14,x 16 (.aeq false [1,2] (.t 11) (.t 15))]
 (.cond 16 (s [m 17 5,m 4 17] .ret) .skip)))) (.reg [q 18 .add 8 1,m 8 18])))))) (s [k 4 (-1)] .ret))),[.t 4]⟩
theorem i276:iF 276 g276:=jF Tryz.func276
def g277:GFun:=⟨⟨39,[1]⟩,(s [a 1 4 0,b 2 false] (.seq (s [f 3 0 1,l 4 3,c 5 270 [.t 4],w 6 5,m 7 6,z 8 7 (p 1 1 1),z 9 7 (r 1 8),z 10 7 (.call false 64 [.t 9,(.k (.val (.int .i64 1))),(.k (.val (.int .i64 4)))]),z 11 7 (.not (.t 10)),
 x 12 (.pick (.t 7) (.k (.val (.bool true))) (.t 11)),m 13 12,z 14 13 (p 1 2 1),z 15 13 (r 1 14),z 16 13 (.call false 64 [.t 15,(.k (.val (.int .i64 1))),(.k (.val (.int .i64 3)))]),z 17 13 (.not (.t 16)),x 18 (.pick (.t 13) (.k (.val
 (.bool true))) (.t 17))] (.cond 18 (s [b 2 false] .ret) .skip)) (.seq (s [f 19 2 1,l 20 19,q 21 .eql 20 3,m 22 21,y 23 22 (p 1 1 1),y 24 22 (r 1 23),y 25 22 (.bin .neq (.t 24) (.k (.val (.int .i64 2)))),y 26 22 (.mov (.t 25)),z 27 26
 (p 1 3 1),z 28 26 (r 1 27),y 29 22 (.pick (.t 26) (.k (.val (.bool true))) (.t 28)),x 30 (.pick (.t 22) (.t 29) (.k (.val (.bool false))))] (.cond 30 (s [b 2 false] .ret) .skip)) (s [f 31 3 1,l 32 31,w 33 32,m 34 33,z 35 34 (p 1 1 1),
 z 36 34 (r 1 35),z 37 34 (.bin .eql (.t 36) (.k (.val (.int .i64 2)))),x 38 (.pick (.t 34) (.k (.val (.bool true))) (.t 37)),m 2 38] .ret)))),[.t 2]⟩
theorem i277:iF 277 g277:=jF Tryz.func277
def g278:GFun:=⟨⟨18,[]⟩,(s [b 2 false] (.seq (s [k 3 0] (B 0 (.seq (s [m 4 3,m 5 0,n 6 5,o 7 .lss 4 6] (.cond 7 .skip (.exit 0))) (.seq (.block 1 (s [m 10 0,m 11 3,x 12 (.slc 1 (.t 10) none (some (.t 11))),m 13 0,m 14 3,i 15 1 13 14,
 l 16 15,x 17 (.call true 251 [.t 12,.t 16])] (.cond 17 (s [b 2 false] .ret) .skip))) (.reg [m 8 3,q 9 .add 8 1,m 3 9]))))) (s [b 2 true] .ret))),[.t 2]⟩
theorem i278:iF 278 g278:=jF Tryz.func278
def g279:GFun:=⟨⟨12,[2]⟩,(s [a 2 7 0,b 4 false] (s [h 5 7 2,c 6 158 [.t 5],m 7 6,y 8 7 (j 7 2),y 9 7 (.mov (.t 1)),y 10 7 (.call false 298 [.t 8,.t 9]),x 11 (.pick (.t 7) (.t 10) (.k (.val (.bool false)))),m 4 11] .ret)),[.t 4]⟩
theorem i279:iF 279 g279:=jF Tryz.func279
def g280:GFun:=⟨⟨18,[3]⟩,(s [a 3 2 1,b 4 false] (.seq (s [k 5 0] (B 0 (.seq (s [m 6 5,m 7 0,n 8 7,o 9 .lss 6 8] (.cond 9 .skip (.exit 0))) (.seq (.block 1 (s [m 12 0,m 13 5,i 14 2 12 13,h 15 2 14,h 16 2 3,x 17 (.aeq false [1,2]
 (.t 15) (.t 16))] (.cond 17 (s [b 4 true] .ret) .skip))) (.reg [m 10 5,q 11 .add 10 1,m 5 11]))))) (s [b 4 false] .ret))),[.t 4]⟩
theorem i280:iF 280 g280:=jF Tryz.func280
def g281:GFun:=⟨⟨25,[3,4,5]⟩,(s [a 3 2 0,a 4 6 1,a 5 7 2,b 6 false] (s [h 9 7 5,c 10 178 [.t 9],m 7 10] (.seq (s [k 8 0] (B 0 (.seq (s [m 11 8,m 12 7,n 13 12,o 14 .lss 11 13] (.cond 14 .skip (.exit 0))) (.seq (.block 1 (s [m 19 7,
 m 20 8,i 21 2 19 20,h 17 2 3,h 18 6 4,h 22 2 21,x 23 (.call true 299 [.t 17,.t 18,.t 22]),w 24 23] (.cond 24 (s [b 6 false] .ret) .skip))) (.reg [m 15 8,q 16 .add 15 1,m 8 16]))))) (s [b 6 true] .ret)))),[.t 6]⟩
theorem i281:iF 281 g281:=jF Tryz.func281
def g282:GFun:=⟨⟨24,[2,3]⟩,(s [a 2 2 0,a 3 2 1,b 4 false] (s [f 5 0 2,l 6 5,f 7 0 3,l 8 7,o 9 .lss 6 8,m 10 9,z 11 10 (p 1 0 2),z 12 10 (r 1 11),z 13 10 (p 1 0 3),z 14 10 (r 1 13),z 15 10 (.bin .eql (.t 12) (.t 14)),z 16 10 (.mov
 (.t 15)),y 17 16 (p 1 1 2),y 18 16 (r 1 17),y 19 16 (p 1 1 3),y 20 16 (r 1 19),y 21 16 (.bin .lss (.t 18) (.t 20)),z 22 10 (.pick (.t 16) (.t 21) (.k (.val (.bool false)))),x 23 (.pick (.t 10) (.k (.val (.bool true))) (.t 22)),
 m 4 23] .ret)),[.t 4]⟩
theorem i282:iF 282 g282:=jF Tryz.func282
def g295:GFun:=⟨⟨45,[]⟩,(s [b 2 false] (.seq (s [k 3 0] (B 0 (.seq (s [m 6 3,m 7 0,x 8 (.slen (.t 7)),o 9 .lss 6 8] (.cond 9 .skip (.exit 0))) (.seq (.block 1 (s [m 12 0,m 13 3,x 14 (.idx (.t 12) (.t 13)),x 15 (.bin .geq (.t 14) (.k
 (.val (.int .u8 97)))),m 16 15,y 17 16 (.mov (.t 0)),y 18 16 (.mov (.t 3)),y 19 16 (.idx (.t 17) (.t 18)),y 20 16 (.bin .leq (.t 19) (.k (.val (.int .u8 122)))),x 21 (.pick (.t 16) (.t 20) (.k (.val (.bool false)))),m 4 21] (s [m 22 0,
 m 23 3,x 24 (.idx (.t 22) (.t 23)),x 25 (.bin .geq (.t 24) (.k (.val (.int .u8 48)))),m 26 25,y 27 26 (.mov (.t 0)),y 28 26 (.mov (.t 3)),y 29 26 (.idx (.t 27) (.t 28)),y 30 26 (.bin .leq (.t 29) (.k (.val (.int .u8 57)))),x 31 (.pick
 (.t 26) (.t 30) (.k (.val (.bool false)))),m 5 31] (s [m 32 4,w 33 32,m 34 33,y 35 34 (.mov (.t 3)),y 36 34 (.bin .eql (.t 35) (.k (.val (.int .i64 0)))),y 37 34 (.mov (.t 36)),z 38 37 (.mov (.t 5)),z 39 37 (.not (.t 38)),y 40 34 (.pick
 (.t 37) (.k (.val (.bool true))) (.t 39)),x 41 (.pick (.t 34) (.t 40) (.k (.val (.bool false))))] (.cond 41 (s [b 2 false] .ret) .skip))))) (.reg [m 10 3,q 11 .add 10 1,m 3 11]))))) (s [m 42 0,x 43 (.slen (.t 42)),q 44 .gtr 43 0,
 m 2 44] .ret))),[.t 2]⟩
theorem i295:iF 295 g295:=jF Tryz.func295
def g296:GFun:=⟨⟨6,[]⟩,(s [b 2 false] (s [c 3 305 [],m 4 0,c 5 251 [.t 3,.t 4],m 2 5] .ret)),[.t 2]⟩
theorem i296:iF 296 g296:=jF Tryz.func296
def g297:GFun:=⟨⟨8,[2]⟩,(s [a 2 7 0,b 3 false] (s [f 4 2 2,l 5 4,l 6 1,o 7 .leq 5 6,m 3 7] .ret)),[.t 3]⟩
theorem i297:iF 297 g297:=jF Tryz.func297
def g298:GFun:=⟨⟨25,[2]⟩,(s [a 2 7 0,b 4 false] (.seq (s [k 5 0] (B 0 (.seq (s [m 6 5,f 7 6 2,l 8 7,n 9 8,o 10 .lss 6 9] (.cond 10 .skip (.exit 0))) (.seq (.block 1 (s [f 13 6 2,l 14 13,m 15 5,i 16 7 14 15,h 17 7 16,m 18 1,
 c 19 298 [.t 17,.t 18],w 20 19] (.cond 20 (s [b 4 false] .ret) .skip))) (.reg [m 11 5,q 12 .add 11 1,m 5 12]))))) (s [f 21 2 2,l 22 21,m 23 1,o 24 .leq 22 23,m 4 24] .ret))),[.t 4]⟩
theorem i298:iF 298 g298:=jF Tryz.func298
def g299:GFun:=⟨⟨49,[3,4,5,7,9]⟩,(s [a 3 2 0,a 4 6 1,a 5 2 2,b 6 false] (.seq (s [f 11 0 5,l 12 11,f 13 2 4,l 14 13,n 15 14,c 16 64 [.t 12,(.k (.val (.int .i64 0))),.t 15],w 17 16] (.cond 17 (s [b 6 false] .ret) .skip)) (s [f 21 0 5,
 u 7 2,h 19 2 3,h 20 6 4,l 22 21,x 23 (.call true 162 [.t 20,.t 22]),x 24 (.call true 72 [.t 19,.t 23]),m 18 24,v 25 18 0,v 26 18 1,t 7 2 25,m 8 26] (s [h 28 2 7,f 29 1 5,l 30 29,c 31 79 [.t 28,.t 30],m 27 31,v 32 27 0,v 33 27 1,u 9 4,
 t 9 4 32,m 10 33] (.seq (s [f 34 0 5,l 35 34,q 36 .eql 35 0] (.cond 36 (s [m 37 10,m 38 37,y 39 38 (p 1 2 9),y 40 38 (r 1 39),y 41 38 (.bin .eql (.t 40) (.k (.val (.int .i64 1)))),x 42 (.pick (.t 38) (.t 41) (.k (.val (.bool false)))),
 m 6 42] .ret) .skip)) (s [m 43 10,m 44 43,y 45 44 (p 1 2 9),y 46 44 (r 1 45),y 47 44 (.bin .eql (.t 46) (.k (.val (.int .i64 2)))),x 48 (.pick (.t 44) (.t 47) (.k (.val (.bool false)))),m 6 48] .ret)))))),[.t 6]⟩
theorem i299:iF 299 g299:=jF Tryz.func299
def g305:GFun:=⟨⟨2,[]⟩,(s [x 0 (.mov (.k (.val (.slice none 0 0))))] (s [x 1 (.bslice 1 [] 13 false [(0,(.k (.val (.string (ByteArray.mk #[105,102]))))),(1,(.k (.val (.string (ByteArray.mk #[116,104,101,110]))))),(2,(.k (.val (.string
 (ByteArray.mk #[101,108,115,101]))))),(3,(.k (.val (.string (ByteArray.mk #[116,114,117,101]))))),(4,(.k (.val (.string (ByteArray.mk #[102,97,108,115,101]))))),(5,(.k (.val (.string (ByteArray.mk #[108,105,116]))))),(6,(.k (.val
 (.string (ByteArray.mk #[110,111,110,101]))))),(7,(.k (.val (.string (ByteArray.mk #[115,101,108,102]))))),(8,(.k (.val (.string (ByteArray.mk #[111,102]))))),(9,(.k (.val (.string (ByteArray.mk #[109,97,120]))))),(10,(.k (.val (.string
 (ByteArray.mk #[109,105,110]))))),(11,(.k (.val (.string (ByteArray.mk #[119,105,116,104]))))),(12,(.k (.val (.string (ByteArray.mk #[104,97,115])))))]),m 0 1] .ret)),[.t 0]⟩
theorem i305:iF 305 g305:=jF Tryz.func305
end Go.Proofs.YtknbnefbgpnkgaaGreat
namespace Go.Proofs.YtknbnefbgpnkgaaGreat
open Go.Gh
open Nat (reduceEqDiff reduceLeDiff reduceAdd reduceLT)
open Int (reduceNe)
theorem mxd:Tryz.prog.follows .mixedOrders = true:=Checked.mixed Tryz.checked
theorem w64 (x lo hi:Int):Pu 64 [I x,I lo,I hi] (· = B (decide (lo≤x∧x≤hi))):=by
 refine Z5 mxd i64 rfl (by simp) ?_;refine X0 ?_
 (refine R0 ?_;with_reducible repeat' intro h)<;>simp[*]
theorem w57 (x lo hi:Int):Pu 57 [I x,I lo,I hi] (· = B (decide (lo≤x∧x≤hi))):=by
 refine Z5 mxd i57 rfl (by simp) ?_;refine X0 ?_
 (refine R0 ?_;with_reducible repeat' intro h)<;>simp[*]
theorem w20 (t:List Nod) (id:Int):Pu 20 [Tr t,I id] (· = I (Zu (fun y=>decide (y.id=id)) t)):=by
 refine GCalls.lenA fun hl=> ?_
 obtain ⟨hlen,_⟩:=lenTr hl.1
 refine Z5 mxd i20 rfl (by simp) ?_;refine X0 ?_
 refine ZL mxd (ι:={ i:Nat // i≤t.length∧∀y∈t.take i,decide (y.id=id)=false }) (fun i=>[(2,.rop 1 (Tr t)),(1,I id),(5,I i.1)]) (fun _ => []) (fun i=>t.length-i.1) ⟨0,by simp⟩ (by simp[E2]) rfl ?_
 rintro ⟨i,hi,hn⟩
 (refine R0 ?_;with_reducible repeat' first|intro h|apply jO)
 ·rw[YT (by assumption) (by simp[h]) hn]
 ·exact nx ⟨i+1,oT,ZA (by assumption) (by simp[h]) hn⟩ (by simp;omega) (by simp[E2]) rfl
 ·have:i=t.length:=by omega
  subst this
  rw[tL (Nat.le_refl _)] at hn
  rw[YV hn]
theorem w114 (x:Nod) (id:Int):Pu 114 [Nd x,.rop 1 (I id)] (· = B (decide (x.id=id))):=by
 refine Z5 mxd i114 rfl (by simp) ?_;refine X0 ?_
 try (refine R0 ?_;with_reducible repeat' exact trivial)
theorem w113 (t:List Nod) (f:Nat) (cs:List GV) (p:Nod→Bool) (hp:∀x∈t,Pu f (Nd x::cs) (· = B (p x))) :
 Pu 113 [NdS t,.clo f cs] (· = I (Zu p t)):=by
 refine GCalls.lenA fun hl=> ?_
 have hlen:=hl.1.1
 simp only[List.length_map,Zn] at hlen
 refine Z5 mxd i113 rfl (by simp) ?_;refine X0 ?_
 refine ZL mxd (ι:={ i:Nat // i≤t.length∧∀y∈t.take i,p y=false }) (fun i=>[(0,NdS t),(1,.clo f cs),(7,I t.length),(8,I i.1)]) (fun _ => []) (fun i=>t.length-i.1) ⟨0,by simp⟩ (by simp[E2]) rfl ?_
 rintro ⟨i,hi,hn⟩
 (refine R0 ?_;with_reducible repeat' first|intro h|apply jO)
 ·refine callS.eq (hp t[i] (gM _)) ?_
  (refine R0 ?_;with_reducible repeat' first|intro h|apply jO)
  ·rw[YT (by assumption) h hn]
  ·exact nx ⟨i+1,oT,ZA (by assumption) h hn⟩ (by simp;omega) (by simp[E2]) rfl
 ·have:i=t.length:=by omega
  subst this
  rw[tL (Nat.le_refl _)] at hn
  rw[YV hn]
theorem w59 (t:List Nod) (id:Int):Pu 59 [Tr t,I id] (· = I (Zu (fun y=>decide (y.id=id)) t)):=by
 refine Z5 mxd i59 rfl (by simp) ?_;refine X0 ?_
 refine callS.eq (w113 t _ _ _ fun x _ => w114 x id) ?_
 (refine R0 ?_;with_reducible repeat' exact trivial)
theorem w197 (xs:List Slo) (o:Int×ByteArray):Pu 197 [SltS xs,Occ o] (· = I (YJ xs o)):=by
 refine GCalls.lenA fun hl=> ?_
 have hlen:=hl.1.1
 simp only[List.length_map,Zn] at hlen
 refine Z5 mxd i197 rfl (by simp) ?_;refine X0 ?_
 refine ZL mxd (ι:={ i:Nat // i≤xs.length∧∀y∈xs.take i,atOcc o y=false }) (fun i=>[(0,SltS xs),(3,.rop 2 (Occ o)),(5,I i.1)]) (fun _ => []) (fun i=>xs.length-i.1) ⟨0,by simp⟩ (by simp[E2]) rfl ?_
 rintro ⟨i,hi,hn⟩
 (refine R0 ?_;with_reducible repeat' first|intro h|apply jO)
 ·simp only[YJ]
  rw[Ym (p:=atOcc o) (by assumption) (by simp[atOcc, *]) hn]
  rfl
 ·exact nx ⟨i+1,oT,ZA (by assumption) (by simp[atOcc, *]) hn⟩ (by simp;omega) (by simp[E2]) rfl
 ·exact nx ⟨i+1,oT,ZA (by assumption) (by simp[atOcc, *]) hn⟩ (by simp;omega) (by simp[E2]) rfl
 ·have:i=xs.length:=by omega
  subst this
  rw[tL (Nat.le_refl _)] at hn
  simp only[YJ]
  rw[Yo hn]
  rfl
theorem w153 (xs:List Slo) (o:Int×ByteArray):Pu 153 [SltS xs,Occ o] (· = I (YJ xs o)):=by
 refine GCalls.lenA fun hl=> ?_
 have hlen:=hl.1.1
 simp only[List.length_map,Zn] at hlen
 refine Z5 mxd i153 rfl (by simp) ?_;refine X0 ?_
 refine ZL mxd (ι:={ i:Nat // i≤xs.length∧∀y∈xs.take i,atOcc o y=false }) (fun i=>[(7,SltS xs),(8,I xs.length),(3,.rop 2 (Occ o)),(9,I i.1)]) (fun _ => []) (fun i=>xs.length-i.1) ⟨0,by simp⟩ (by simp[E2]) rfl ?_
 rintro ⟨i,hi,hn⟩
 (refine R0 ?_;with_reducible repeat' first|intro h|apply jO)
 ·simp only[YJ]
  rw[Ym (p:=atOcc o) (by assumption) (by simp[atOcc, *]) hn]
  rfl
 ·exact nx ⟨i+1,oT,ZA (by assumption) (by simp[atOcc, *]) hn⟩ (by simp;omega) (by simp[E2]) rfl
 ·exact nx ⟨i+1,oT,ZA (by assumption) (by simp[atOcc, *]) hn⟩ (by simp;omega) (by simp[E2]) rfl
 ·have:i=xs.length:=by omega
  subst this
  rw[tL (Nat.le_refl _)] at hn
  simp only[YJ]
  rw[Yo hn]
  rfl
end Go.Proofs.YtknbnefbgpnkgaaGreat
namespace Go.Proofs.YtknbnefbgpnkgaaGreat
open Go.Gh
open Nat (reduceEqDiff reduceLeDiff reduceAdd reduceLT)
open Int (reduceNe)
end Go.Proofs.YtknbnefbgpnkgaaGreat
namespace Go.Proofs.YtknbnefbgpnkgaaGreat
open Go.Gh
open Nat (reduceEqDiff reduceLeDiff reduceAdd reduceLT)
open Int (reduceNe)
theorem w81 (t:List Nod) (i:Int):Pu 81 [Tr t,I i] (· = B (decide (0≤i∧i<t.length))):=by
 refine GCalls.lenA fun hl=> ?_
 obtain ⟨hlen,_⟩:=lenTr hl.1
 refine Z5 mxd i81 rfl (by simp) ?_;refine X0 ?_
 refine callS.eq (w57 _ _ _) ?_
 (refine R0 ?_)
 exact bEq oT
theorem w121 (x y:Int):Pu 121 [I x,I y] (· = I (max x y)):=by
 refine Z5 mxd i121 rfl (by simp) ?_;refine X0 ?_
 (refine R0 ?_;with_reducible repeat' first|intro h|apply jO)<;>simp<;>omega
theorem w231 (n:Int):Pu 231 [I n] (· = I (satV n)):=by
 refine Z5 mxd i231 rfl (by simp) ?_;refine X0 ?_
 (refine R0 ?_)<;>(congr 2;simp only[satV];omega)
theorem w232 (b:Bool):Pu 232 [B b] (· = I (trV b)):=by
 refine Z5 mxd i232 rfl (by simp) ?_;refine X0 ?_
 (refine R0 ?_;with_reducible repeat' first|intro h|apply jO)<;>simp_all [trV]
theorem w131 (b:Bool):Pu 131 [B b] (· = I (trV b)):=by
 refine Z5 mxd i131 rfl (by simp) ?_;refine X0 ?_
 (refine R0 ?_;with_reducible repeat' first|intro h|apply jO)<;>simp_all [trV]
theorem w120 (a b:Int):Pu 120 [I a,I b] (· = I (min a b)):=by
 refine Z5 mxd i120 rfl (by simp) ?_;refine X0 ?_
 (refine R0 ?_;with_reducible repeat' first|intro h|apply jO)<;>(congr 2;omega)
theorem w130 (n:Int):Pu 130 [I n] (· = I (satV n)):=by
 refine Z5 mxd i130 rfl (by simp) ?_;refine X0 ?_
 refine callS.eq (w120 _ _) ?_
 (refine R0 ?_)
 refine callS.eq (w121 _ _) ?_
 (refine R0 ?_)<;>rfl
theorem w230 (v k:Int):Pu 230 [I v,I k] (· = I (coV v k)):=by
 refine Z5 mxd i230 rfl (by simp) ?_;refine X0 ?_
 (refine R0 ?_;with_reducible repeat' first|intro h|apply jO)
 ·refine callS.eq (w231 _) ?_
  (refine R0 ?_)<;>simp_all [coV]
 ·simp_all [coV]
 ·refine callS.eq (w232 _) ?_
  (refine R0 ?_)<;>simp_all [coV]
 ·refine callS.eq (w57 _ _ _) ?_
  (refine R0 ?_;with_reducible repeat' first|intro h|apply jO)<;>simp_all [coV]<;>(intros;omega)
 ·simp_all [coV]
theorem w80 (v k:Int):Pu 80 [I v,I k] (· = I (coV v k)):=by
 refine Z5 mxd i80 rfl (by simp) ?_;refine X0 ?_
 (refine R0 ?_;with_reducible repeat' first|intro h|apply jO)
 ·refine callS.eq (w130 _) ?_
  (refine R0 ?_)<;>simp_all [coV]
 ·simp_all [coV]
 ·refine callS.eq (w131 _) ?_
  (refine R0 ?_)<;>simp_all [coV]
 ·refine callS.eq (w64 _ _ _) ?_
  (refine R0 ?_;with_reducible repeat' first|intro h|apply jO)<;>simp_all [coV]<;>(intros;omega)
 ·simp_all [coV]
theorem w229 (op:Int):Pu 229 [I op] (· = opG op):=by
 refine Z5 mxd i229 rfl (by simp) ?_;refine X0 ?_
 (refine R0 ?_;with_reducible repeat' first|intro h|apply jO)
 all_goals first|(subst op;rfl)|(rw[opG0 oT])
theorem w199 (op:Int):Pu 199 [I op] (· = opG op):=by
 refine Z5 mxd i199 rfl (by simp) ?_;refine X0 ?_
 refine callS.eq (w64 _ _ _) ?_
 (refine R0 ?_;with_reducible repeat' first|intro h|apply jO)
 ·simp only[opG,opT,if_pos h]
 refine callS.eq (w64 _ _ _) ?_
 (refine R0 ?_;with_reducible repeat' first|intro h|apply jO)
 all_goals first|(simp only[opG,opT];rw[if_neg (by assumption),if_pos (by assumption)];done)|(subst op;rfl)|(rw[opG0 oT];done)|(simp_all [opG,opT];done)|skip
theorem w265 (k:Int):Pu 265 [I k] (· = B (decide (1≤k∧k≤4))):=by
 refine Z5 mxd i265 rfl (by simp) ?_;refine X0 ?_
 refine callS.eq (w57 _ _ _) ?_
 (refine R0 ?_;with_reducible repeat' exact trivial)
theorem w226 (v k:Int):Pu 226 [I v,I k] (· = B (okV v k)):=by
 refine Z5 mxd i226 rfl (by simp) ?_;refine X0 ?_
 refine callS.eq (w265 _) ?_
 (refine R0 ?_;with_reducible repeat' first|intro h|apply jO)
 ·refine callS.eq (w230 _ _) ?_
  (refine R0 ?_)<;>simp_all [okV]
 ·simp_all [okV]<;>(intros;omega)
theorem w33 (v k:Int):Pu 33 [I v,I k] (· = B (okV v k)):=by
 refine Z5 mxd i33 rfl (by simp) ?_;refine X0 ?_
 refine callS.eq (w64 _ _ _) ?_
 (refine R0 ?_;with_reducible repeat' first|intro h|apply jO)
 ·refine callS.eq (w80 _ _) ?_
  (refine R0 ?_)<;>simp_all [okV]
 ·simp_all [okV]<;>(intros;omega)
theorem w193 (op a b:Int):Pu 193 [I op,I a,I b] (· = I (apV op a b)):=by
 refine Z5 mxd i193 rfl (by simp) ?_;refine X0 ?_
 refine callS.eq (w229 _) ?_
 (refine R0 ?_)
 refine callS.eq (w230 _ _) ?_
 (refine R0 ?_)
 refine callS.eq (w230 _ _) ?_
 simp only[apV]
 generalize coV a (opT op).1 = a
 generalize coV b (opT op).2.1 = b
 (refine R0 ?_;with_reducible repeat' first|intro h|apply jO)
 all_goals first
  | (simp_all [apW];done)
  | (subst op;congr 2;show _ = max a b;omega)
  | (subst op;congr 2;show _ = min a b;omega)
  | (refine callS.eq (w231 _) ?_;(refine R0 ?_);simp_all [apW];done)
  | (refine callS.eq (w232 _) ?_;(refine R0 ?_);simp_all [apW];done)
  | skip
 all_goals refine callS.eq (w57 _ _ _) ?_
 all_goals (refine R0 ?_;with_reducible repeat' first|intro h|apply jO)
 all_goals (try rw[wrapU b oT oT])
 all_goals first
  | (exact h.1)
  | omega
  | (refine callS.eq (w232 _) ?_;(refine R0 ?_);simp_all [apW,trV];done)
  | ((refine R0 ?_);simp_all [apW,trV];done)
  | (simp_all [apW,trV];done)
  | skip
 ·(refine callS.eq (w232 _) ?_;(refine R0 ?_);rw[apW11 h];rfl)
 ·(rw[apW12 h])
theorem w198 (op a b:Int):Pu 198 [I op,I a,I b] (· = I (apV op a b)):=by
 refine Z5 mxd i198 rfl (by simp) ?_;refine X0 ?_
 refine callS.eq (w199 _) ?_
 (refine R0 ?_)
 refine callS.eq (w80 _ _) ?_
 (refine R0 ?_)
 refine callS.eq (w80 _ _) ?_
 simp only[apV]
 generalize coV a (opT op).1 = a
 generalize coV b (opT op).2.1 = b
 (refine R0 ?_;with_reducible repeat' first|intro h|apply jO)
 all_goals first
  | (simp_all [apW];done)
  | (subst op;congr 2;show _ = max a b;omega)
  | (subst op;congr 2;show _ = min a b;omega)
  | (refine callS.eq (w130 _) ?_;(refine R0 ?_);simp_all [apW];done)
  | (refine callS.eq (w131 _) ?_;(refine R0 ?_);simp_all [apW];done)
  | (refine callS.eq (w121 _ _) ?_;(refine R0 ?_);simp_all [apW];done)
  | (refine callS.eq (w120 _ _) ?_;(refine R0 ?_);simp_all [apW];done)
  | skip
 all_goals refine callS.eq (w64 _ _ _) ?_
 all_goals (refine R0 ?_;with_reducible repeat' first|intro h|apply jO)
 all_goals try (refine callS.eq (w121 _ _) ?_;rw[show max b 0=b by omega];(refine R0 ?_;with_reducible repeat' apply jO))
 all_goals (try rw[wrapU b oT oT])
 all_goals first
  | (exact h.1)
  | omega
  | (refine callS.eq (w131 _) ?_;(refine R0 ?_);simp_all [apW,trV];done)
  | ((refine R0 ?_);simp_all [apW,trV];done)
  | (simp_all [apW,trV];done)
  | skip
 ·(refine callS.eq (w131 _) ?_;(refine R0 ?_);rw[apW11 h];rfl)
 ·(rw[apW12 h])
theorem w190:∀(e:Exp),wEx e≤1048576→Pu 190 [Ex e] (· = I (cntE e)):=by
 refine Exp.indA fun e ih hw=> ?_
 obtain ⟨hl,ha⟩:=YS hw
 have hc:=cntE_le e
 have he:=cntE_eq e
 rw[Y6]
 refine Z5 mxd i190 rfl (by simp) ?_;refine X0 ?_
 refine ZL mxd (ι:={ i:Nat // i≤e.args.length }) (fun i=>[(3,I ((1+((e.args.take i.1).map cntE).sum : Nat):Int)),(7,ExS e.args),(8,I e.args.length),(9,I i.1)]) (fun i=>[]) (fun i=>e.args.length-i.1) ⟨0,by simp⟩ (by simp[E2,mxL]) (by simp) ?_
 rintro ⟨i,hi⟩
 have h1:=sumT_le cntE e.args i
 have h3:=sumT_le cntE e.args (i+1)
 (refine R1 (jO @XS (jO @geR_Ex (jO @XV @stor_Ex))) ?_;with_reducible repeat' first|intro h|apply jO)
 ·have h2:=sumT cntE e.args i oT
  refine callS.eq (ih _ (gM _) (ha _ (gM _))) ?_
  (refine R0 ?_)
  refine nx ⟨i+1,oT⟩ (by simp;omega) ?_ (by simp)
  simp[E2,h2, -List.map_take]
  try (first|omega|(split<;>omega))
 ·have:i=e.args.length:=by omega
  subst this
  simp[he]
theorem w191:∀(e:Exp),wEx e≤1048576→Pu 191 [Ex e] (· = I (dpE e)):=by
 refine Exp.indA fun e ih hw=> ?_
 obtain ⟨hl,ha⟩:=YS hw
 have hc:=cntE_le e
 have he:=cntE_eq e
 have hd:=dpE_eq e
 have hq:=sumL_le (l:=e.args) fun a _ => dpE_le a
 rw[Y6]
 refine Z5 mxd i191 rfl (by simp) ?_;refine X0 ?_
 refine ZL mxd (ι:={ i:Nat // i≤e.args.length }) (fun i=>[(3,I (mxL ((e.args.take i.1).map dpE))),(7,ExS e.args),(8,I e.args.length),(9,I i.1)]) (fun i=>[]) (fun i=>e.args.length-i.1) ⟨0,by simp⟩ (by simp[E2,mxL]) (by simp) ?_
 rintro ⟨i,hi⟩
 have h1:=mxT_le dpE e.args i
 (refine R1 (jO @XS (jO @geR_Ex (jO @XV @stor_Ex))) ?_;with_reducible repeat' first|intro h|apply jO)
 ·have h2:=mxT dpE e.args i oT
  refine callS.eq (ih _ (gM _) (ha _ (gM _))) ?_
  (refine R0 ?_)
  refine nx ⟨i+1,oT⟩ (by simp;omega) ?_ (by simp)
  simp[E2,h2, -List.map_take]
  try (first|omega|(split<;>omega))
 ·have:i=e.args.length:=by omega
  subst this
  simp[hd]
  try omega
theorem w195:∀(e:Exp),wEx e≤1048576→Pu 195 [Ex e] (· = I (dpE e)):=by
 refine Exp.indA fun e ih hw=> ?_
 obtain ⟨hl,ha⟩:=YS hw
 have hc:=cntE_le e
 have he:=cntE_eq e
 have hd:=dpE_eq e
 have hq:=sumL_le (l:=e.args) fun a _ => dpE_le a
 rw[Y6]
 refine Z5 mxd i195 rfl (by simp) ?_;refine X0 ?_
 refine ZL mxd (ι:={ i:Nat // i≤e.args.length }) (fun i=>[(1,.rop 7 (.agg [I e.kind,I e.n,I e.pos,I e.type,T e.sym,T e.name,ExS e.args])),(3,I (mxL ((e.args.take i.1).map dpE))),(4,I i.1)]) (fun i=>[]) (fun i=>e.args.length-i.1) ⟨0,by simp⟩ (by simp[E2,mxL]) (by simp) ?_
 rintro ⟨i,hi⟩
 have h1:=mxT_le dpE e.args i
 (refine R1 (jO @XS (jO @geR_Ex (jO @XV @stor_Ex))) ?_;with_reducible repeat' first|intro h|apply jO)
 ·have h2:=mxT dpE e.args i oT
  refine callS.eq (ih _ (gM _) (ha _ (gM _))) ?_
  (refine R0 ?_)
  refine callS.eq (w121 _ _) ?_
  (refine R0 ?_)
  refine nx ⟨i+1,oT⟩ (by simp;omega) ?_ (by simp)
  simp[E2,h2, -List.map_take]
  try (first|omega|(split<;>omega))
 ·have:i=e.args.length:=by omega
  subst this
  simp[hd]
  try omega
theorem w194:∀(e:Exp),wEx e≤1048576→∀left:Int,0≤left→left≤1048576→Pu 194 [Ex e,I left] (· = I (max (left-cntE e) (-1))):=by
 refine Exp.indA fun e ih hw left l0 l1=> ?_
 obtain ⟨hl,ha⟩:=YS hw
 have hc:=cntE_le e
 have he:=cntE_eq e
 rw[Y6]
 refine Z5 mxd i194 rfl (by simp) ?_;refine X0 ?_
 simp +contextual (disch:=omega) only[Z2]
 refine ZL mxd (ι:={ i:Nat // i≤e.args.length }) (fun i=>[(2,.rop 7 (.agg [I e.kind,I e.n,I e.pos,I e.type,T e.sym,T e.name,ExS e.args])),(1,I (max (left-1-((e.args.take i.1).map cntE).sum) (-1))),(5,I i.1)]) (fun i=>[]) (fun i=>e.args.length-i.1) ⟨0,by simp⟩ (by simp[E2];try omega) (by simp) ?_
 rintro ⟨i,hi⟩
 have h1:=sumT_le cntE e.args i
 generalize hs:((e.args.take i).map cntE).sum = s at *
 (refine R1 (jO @XS (jO @geR_Ex (jO @XV @stor_Ex))) ?_;with_reducible repeat' first|intro h|apply jO)
 ·have h2:=sumT cntE e.args i oT
  refine callS.eq (ih _ (gM _) (ha _ (gM _)) _ oT oT) ?_
  (refine R0 ?_)
  refine nx ⟨i+1,oT⟩ (by simp;omega) ?_ (by simp)
  simp[E2,h2,hs, -List.map_take]
  try omega
 all_goals first|(congr 2;omega)|(rw[tL oT] at hs;congr 2;omega)
theorem w124 (x:Sym) (hx:Yw x):Pu 124 [Sy x] (· = Sy x):=by
 unfold Yw at hx
 refine Pure.bor ?_
 refine Z5 mxd i124 rfl (by simp) ?_;refine X0 ?_
 (refine R0 ?_;with_reducible repeat' first|intro h|refine aO ?_)
 exact .agg (.cons .refl (.cons (Bor.allM (fun _ => rfl) ZZ rfl) .nil))
theorem w72 (g:Gram) (s:ByteArray) (hg:ZI g):Pu 72 [Gr g,T s] (· = .tup [Sy (Zz g.syms s),B (hSym g.syms s)]):=by
 refine Pure.bor ?_
 have hlen:=hg.1
 refine Z5 mxd i72 rfl (by simp) ?_;refine X0 ?_
 refine ZL mxd (ι:={ i:Nat // i≤g.syms.length∧∀y∈g.syms.take i,decide (y.name=s)=false }) (fun i=>[(1,T s),(2,.rop 2 (Gr g)),(4,.raw 2),(6,I i.1)]) (fun _ => []) (fun i=>g.syms.length-i.1) ⟨0,by simp⟩ (by simp[E2]) rfl ?_
 rintro ⟨i,hi,hn⟩
 (refine R0 ?_;with_reducible repeat' first|intro h|apply jO)
 ·subst h
  refine callS.eq (w124 g.syms[i] (hg.2.2.1 _ (gM _))) ?_
  (refine R0 ?_)
  have e:=Ym (p:=fun x:Sym=>decide (x.name=g.syms[i].name)) (xs:=g.syms) (i:=i) (by assumption) (by simp) hn
  simp only[Zz,hSym,e]
  exact .refl
 ·exact nx ⟨i+1,oT,ZA (by assumption) (by simp[*]) hn⟩ (by simp;omega) (by simp[E2]) rfl
 ·have:i=g.syms.length:=by omega
  subst this
  rw[tL (Nat.le_refl _)] at hn
  have e:=Yo hn
  simp only[Zz,hSym,e]
  exact .tup (.cons (.agg (.cons .refl (.cons .nil .nil))) (.cons .refl .nil))
theorem w79 (g:Sym) (s:ByteArray) (hg:Yw g):Pu 79 [Sy g,T s] (· = .tup [At (fAtt g.atts s),B (hAtt g.atts s)]):=by
 unfold Yw at hg
 refine Z5 mxd i79 rfl (by simp) ?_;refine X0 ?_
 refine ZL mxd (ι:={ i:Nat // i≤g.atts.length∧∀y∈g.atts.take i,decide (y.name=s)=false }) (fun i=>[(1,T s),(2,.rop 2 (Sy g)),(4,.raw 4),(6,I i.1)]) (fun _ => []) (fun i=>g.atts.length-i.1) ⟨0,by simp⟩ (by simp[E2]) rfl ?_
 rintro ⟨i,hi,hn⟩
 (refine R0 ?_;with_reducible repeat' first|intro h|apply jO)
 ·subst h
  have e:=Ym (p:=fun x:Att=>decide (x.name=g.atts[i].name)) (xs:=g.atts) (i:=i) (by assumption) (by simp) hn
  simp only[fAtt,hAtt,e]
  rfl
 ·exact nx ⟨i+1,oT,ZA (by assumption) (by simp[*]) hn⟩ (by simp;omega) (by simp[E2]) rfl
 ·have:i=g.atts.length:=by omega
  subst this
  rw[tL (Nat.le_refl _)] at hn
  have e:=Yo hn
  simp only[fAtt,hAtt,e]
  rfl
theorem w82 (g:Gram) (s:ByteArray) (hg:ZI g):Pu 82 [Gr g,T s] (· = .tup [Sy (Zz g.syms s),B (hSym g.syms s)]):=by
 refine Pure.bor ?_
 have hlen:=hg.1
 refine Z5 mxd i82 rfl (by simp) ?_;refine X0 ?_
 refine ZL mxd (ι:={ i:Nat // i≤g.syms.length∧∀y∈g.syms.take i,decide (y.name=s)=false }) (fun i=>[(1,T s),(4,.raw 2),(9,SyS g.syms),(10,I g.syms.length),(11,I i.1)]) (fun _ => []) (fun i=>g.syms.length-i.1) ⟨0,by simp⟩ (by simp[E2]) rfl ?_
 rintro ⟨i,hi,hn⟩
 (refine R0 ?_;with_reducible repeat' first|intro h|apply jO)
 ·subst h
  have e:=Ym (p:=fun x:Sym=>decide (x.name=g.syms[i].name)) (xs:=g.syms) (i:=i) (by assumption) (by simp) hn
  simp only[Zz,hSym,e]
  exact .refl
 ·exact nx ⟨i+1,oT,ZA (by assumption) (by simp[*]) hn⟩ (by simp;omega) (by simp[E2]) rfl
 ·have:i=g.syms.length:=by omega
  subst this
  rw[tL (Nat.le_refl _)] at hn
  have e:=Yo hn
  simp only[Zz,hSym,e]
  exact .tup (.cons (.agg (.cons .refl (.cons .nil .nil))) (.cons .refl .nil))
theorem w188 (g:Sym) (s:ByteArray) (hg:Yw g):Pu 188 [Sy g,T s] (· = .tup [At (fAtt g.atts s),B (hAtt g.atts s)]):=by
 unfold Yw at hg
 refine Z5 mxd i188 rfl (by simp) ?_;refine X0 ?_
 refine ZL mxd (ι:={ i:Nat // i≤g.atts.length∧∀y∈g.atts.take i,decide (y.name=s)=false }) (fun i=>[(1,T s),(4,.raw 4),(9,AtS g.atts),(10,I g.atts.length),(11,I i.1)]) (fun _ => []) (fun i=>g.atts.length-i.1) ⟨0,by simp⟩ (by simp[E2]) rfl ?_
 rintro ⟨i,hi,hn⟩
 (refine R0 ?_;with_reducible repeat' first|intro h|apply jO)
 ·subst h
  have e:=Ym (p:=fun x:Att=>decide (x.name=g.atts[i].name)) (xs:=g.atts) (i:=i) (by assumption) (by simp) hn
  simp only[fAtt,hAtt,e]
  rfl
 ·exact nx ⟨i+1,oT,ZA (by assumption) (by simp[*]) hn⟩ (by simp;omega) (by simp[E2]) rfl
 ·have:i=g.atts.length:=by omega
  subst this
  rw[tL (Nat.le_refl _)] at hn
  have e:=Yo hn
  simp only[fAtt,hAtt,e]
  rfl
theorem w177:∀(e:Exp),wEx e≤1048576→Pu 177 [Ex e] (· = Ex e):=by
 refine Exp.indA fun e ih hw=> ?_
 obtain ⟨hl,ha⟩:=YS hw
 refine Pure.bor ?_
 refine Z5 mxd i177 rfl (by simp) ?_;refine X0 ?_
 (refine R1 @XE ?_;with_reducible repeat' intro h)
 rename_i r hr q
 have h0:=Z4 h
 (replace h0:=h0;simp only[VN] at h0)
 refine Y2 mxd (ι:={ x:Nat×Nat // x.2≤e.args.length }) (fun x=>[(1,.ptr r 7 0 0),(2,.raw 7),(3,.own x.1.1 7 0 x.1.2),(4,I x.1.2)]) (fun x=>[(x.1.1,7,(e.args.take x.1.2).map Ex),(r,7,[Ex e])]) (fun x=>e.args.length-x.1.2) ⟨(q,0),by simp⟩ (by simp[E2]) (by simp[subH,ZV,names,h0]) ?_
 rintro ⟨⟨q,i⟩,hi⟩ hn
 dsimp only at hi hn ⊢
 (replace hn:=hn;simp only[VN] at hn)
 (refine R1 (jO @XE (jO @Z9 (jO @Z8 (jO @Z7 (jO hn @t_ldf))))) ?_;with_reducible repeat' first|intro h|apply jO)
 ·refine callS.eq (ih _ (gM _) (ha _ (gM _))) ?_
  (refine R1 (jO @XE (jO @Z9 (jO @Z8 (jO @Z7 (jO hn @t_ldf))))) ?_;with_reducible repeat' intro h)
  rename_i q2
  have h2:=Z4 h
  (replace h2:=h2;simp only[VN] at h2)
  (refine R1 (jO @XE (jO @Z9 (jO @Z8 (jO @Z7 (jO hn (jO h2 @t_ldf)))))) ?_;with_reducible repeat' first|intro h|refine aO ?_|apply jO)
  ·simp;omega
  rename_i q3
  have h3:=Z4 h
  (replace h3:=h3;simp only[VN] at h3)
  rw[takeApp Ex e.args i (by assumption)]
  exact px ⟨(q3,i+1),oT⟩ (by simp;omega) (by simp[E2]) (by simp[subH,ZV,names,h3])
 ·rw[Y6 e]
  refine .agg (.cons .refl (.cons .refl (.cons .refl (.cons .refl (.cons .refl (.cons .refl (.cons ?_ .nil)))))))
  have:i=e.args.length:=by omega
  subst this
  rw[List.take_length]
  exact Bor.allM view_Ex ZZ rfl
theorem w162 (r:Rul) (p:Int) (hr:Zb r):Pu 162 [Ru r,I p] (· = T (Zp r p)):=by
 have hl:=hr.1
 refine Z5 mxd i162 rfl (by simp) ?_;refine X0 ?_
 (refine R0 ?_;with_reducible repeat' first|intro h|apply jO)
 ·simp[Zp,h]
 refine callS.eq (w64 _ _ _) ?_
 (refine R0 ?_;with_reducible repeat' first|intro h|refine aO ?_|apply jO)
 ·simp only[Zp,if_neg (show ¬p=0 from by assumption),if_pos h,Z6 (show (p-1).toNat < r.right.length by omega)]
 ·simp only[Zp,if_neg (show ¬p=0 from by assumption),if_neg h];rfl
theorem w239 (r:Rul) (p:Int) (hr:Zb r):Pu 239 [Ru r,I p] (· = T (Zp r p)):=by
 have hl:=hr.1
 refine Z5 mxd i239 rfl (by simp) ?_;refine X0 ?_
 (refine R0 ?_;with_reducible repeat' first|intro h|apply jO)
 ·simp[Zp,h]
 refine callS.eq (w57 _ _ _) ?_
 (refine R0 ?_;with_reducible repeat' first|intro h|refine aO ?_|apply jO)
 ·simp only[Zp,if_neg (show ¬p=0 from by assumption),if_pos h,Z6 (show (p-1).toNat < r.right.length by omega)]
 ·simp only[Zp,if_neg (show ¬p=0 from by assumption),if_neg h];rfl
theorem w62 (g:Gram) (s:ByteArray) (hg:ZI g):Pu 62 [Gr g,T s] (· = .tup [Ru (Zd g.rules s),B (hRul g.rules s)]):=by
 refine Pure.bor ?_
 have hlen:=hg.2.1
 refine Z5 mxd i62 rfl (by simp) ?_;refine X0 ?_
 refine ZL mxd (ι:={ i:Nat // i≤g.rules.length∧∀y∈g.rules.take i,decide (y.name=s)=false }) (fun i=>[(1,T s),(4,.raw 6),(9,RuS g.rules),(10,I g.rules.length),(11,I i.1)]) (fun _ => []) (fun i=>g.rules.length-i.1) ⟨0,by simp⟩ (by simp[E2]) rfl ?_
 rintro ⟨i,hi,hn⟩
 (refine R0 ?_;with_reducible repeat' first|intro h|apply jO)
 ·subst h
  have e:=Ym (p:=fun x:Rul=>decide (x.name=g.rules[i].name)) (xs:=g.rules) (i:=i) (by assumption) (by simp) hn
  simp only[Zd,hRul,e]
  exact .refl
 ·exact nx ⟨i+1,oT,ZA (by assumption) (by simp[*]) hn⟩ (by simp;omega) (by simp[E2]) rfl
 ·have:i=g.rules.length:=by omega
  subst this
  rw[tL (Nat.le_refl _)] at hn
  have e:=Yo hn
  simp only[Zd,hRul,e]
  exact .tup (.cons (.agg (.cons .refl (.cons .refl (.cons .nil (.cons .refl (.cons .nil (.cons .nil .nil))))))) (.cons .refl .nil))
theorem w127 (e:Rul) (hr:Zb e):Pu 127 [Ru e] (· = Ru e):=by
 obtain ⟨h1,h2,h3,h4,h5⟩:=hr
 refine Pure.bor ?_
 refine Z5 mxd i127 rfl (by simp) ?_;refine X0 ?_
 (refine R1 @XE ?_;with_reducible repeat' first|intro h|refine aO ?_)
 rename_i ra _ rr _ r0
 have h0:=Z4 h
 (replace h0:=h0;simp only[VN] at h0)
 obtain ⟨v,ho,hv⟩:=vfresh [r0,rr]
 refine ploopF mxd (ι:={ x:Nat×Nat // x.2≤e.eqs.length }) (fun x=>[(1,.rop 6 (Ru e)),(2,.raw 6),(3,.ptr r0 6 0 0),(4,I x.1.2)])
  (fun x=>[(x.1.1,9,(e.eqs.take x.1.2).map Qn),(r0,6,[.agg [T e.name,T e.left,.own rr 1 0 e.right.length,B e.lit,.own x.1.1 9 0 x.1.2,.val (.slice none 0 0)]]),(rr,1,e.right.map T)])
  (fun x=>e.eqs.length-x.1.2) ⟨(v,0),by simp⟩ (FE.virtF (i:=0) (j:=4) (sz1:=9) ZZ rfl rfl ho hv) (by simp[E2]) ?_ ?_
 ·simp only[List.mem_cons,List.not_mem_nil,or_false,not_or] at hv
  simp[subH,ZV,ZE,names,h0,hv]
 rintro ⟨⟨q,i⟩,hi⟩ hn
 dsimp only at hi hn ⊢
 (replace hn:=hn;simp only[VN] at hn)
 (refine R1 (jO @XE (jO @Z9 (jO @Z8 (jO @Z7 (jO hn @t_ldf))))) ?_;with_reducible repeat' first|intro h|apply jO)
 ·refine callS.eq (w177 _ (h4 _ (gM _))) ?_
  (refine R1 (jO @XE (jO @Z9 (jO @Z8 (jO @Z7 (jO hn @t_ldf))))) ?_;with_reducible repeat' intro h)
  rename_i q2
  have h2:=Z4 h
  (replace h2:=h2;simp only[VN] at h2)
  (refine R1 (jO @XE (jO @Z9 (jO @Z8 (jO @Z7 (jO hn (jO h2 @t_ldf)))))) ?_;with_reducible repeat' first|intro h|refine aO ?_|apply jO)
  ·simp;omega
  rename_i q3
  have h3:=Z4 h
  (replace h3:=h3;simp only[VN] at h3)
  (refine R1 (jO @XE (jO @Z9 (jO @Z8 (jO @Z7 (jO hn (jO h2 (jO h3 @t_ldf))))))) ?_)
  rw[takeApp Qn e.eqs i (by assumption)]
  exact px ⟨(q3,i+1),oT⟩ (by simp;omega) (by simp[E2]) (by simp[subH,ZV,names,h3])
 ·have:i=e.eqs.length:=by omega
  subst this
  rw[List.take_length]
  obtain ⟨v,ho,hv⟩:=vfresh [q,r0,rr]
  refine ploopF mxd (ι:={ x:Nat×Nat // x.2≤e.cons.length }) (fun x=>[(1,.rop 6 (Ru e)),(2,.raw 6),(3,.ptr r0 6 0 0),(5,I x.1.2)])
   (fun x=>[(x.1.1,16,(e.cons.take x.1.2).map Co),(q,9,e.eqs.map Qn),(r0,6,[.agg [T e.name,T e.left,.own rr 1 0 e.right.length,B e.lit,.own q 9 0 e.eqs.length,.own x.1.1 16 0 x.1.2]]),(rr,1,e.right.map T)])
   (fun x=>e.cons.length-x.1.2) ⟨(v,0),by simp⟩ (FE.virtF (r:=r0) (i:=0) (j:=5) (sz1:=16) (by simp[ZV,hn];exact ⟨rfl,rfl⟩) rfl rfl ho hv) (by simp[E2]) ?_ ?_
  ·simp only[List.mem_cons,List.not_mem_nil,or_false,not_or] at hv
   simp[subH,ZV,ZE,names,hn,hv]
  rintro ⟨⟨p,i⟩,hi⟩ hn
  dsimp only at hi hn ⊢
  (replace hn:=hn;simp only[VN] at hn)
  (refine R1 (jO @XE (jO @Z9 (jO @Z8 (jO @Z7 (jO hn @t_ldf))))) ?_;with_reducible repeat' first|intro h|apply jO)
  ·refine callS.eq (w177 _ (h5 _ (gM _)).1) ?_
   (refine R1 (jO @XE (jO @Z9 (jO @Z8 (jO @Z7 (jO hn @t_ldf))))) ?_)
   refine callS.eq (w177 _ (h5 _ (gM _)).2) ?_
   (refine R1 (jO @XE (jO @Z9 (jO @Z8 (jO @Z7 (jO hn @t_ldf))))) ?_;with_reducible repeat' intro h)
   rename_i q2
   have h2:=Z4 h
   (replace h2:=h2;simp only[VN] at h2)
   (refine R1 (jO @XE (jO @Z9 (jO @Z8 (jO @Z7 (jO hn (jO h2 @t_ldf)))))) ?_;with_reducible repeat' first|intro h|refine aO ?_|apply jO)
   ·simp;omega
   rename_i q3
   have h3:=Z4 h
   (replace h3:=h3;simp only[VN] at h3)
   (refine R1 (jO @XE (jO @Z9 (jO @Z8 (jO @Z7 (jO hn (jO h2 (jO h3 @t_ldf))))))) ?_)
   rw[takeApp Co e.cons i (by assumption)]
   exact px ⟨(q3,i+1),oT⟩ (by simp;omega) (by simp[E2]) (by simp[subH,ZV,names,h3])
  ·have:i=e.cons.length:=by omega
   subst this
   rw[List.take_length]
   exact .agg (.cons .refl (.cons .refl (.cons (Bor.allM (fun _ => rfl) (by simp[ZV,hn]) rfl) (.cons .refl (.cons (Bor.allM (fun _ => rfl) (by simp[ZV,hn]) rfl) (.cons (Bor.allM (fun _ => rfl) (by simp[ZV,hn]) rfl) .nil))))))
theorem w76 (g:Gram) (s:ByteArray) (hg:ZI g):Pu 76 [Gr g,T s] (· = .tup [Ru (Zd g.rules s),B (hRul g.rules s)]):=by
 refine Pure.bor ?_
 have hlen:=hg.2.1
 refine Z5 mxd i76 rfl (by simp) ?_;refine X0 ?_
 refine ZL mxd (ι:={ i:Nat // i≤g.rules.length∧∀y∈g.rules.take i,decide (y.name=s)=false }) (fun i=>[(1,T s),(2,.rop 2 (Gr g)),(4,.raw 6),(6,I i.1)]) (fun _ => []) (fun i=>g.rules.length-i.1) ⟨0,by simp⟩ (by simp[E2]) rfl ?_
 rintro ⟨i,hi,hn⟩
 (refine R0 ?_;with_reducible repeat' first|intro h|apply jO)
 ·subst h
  refine callS.eq (w127 g.rules[i] (hg.2.2.2 _ (gM _))) ?_
  (refine R0 ?_)
  have e:=Ym (p:=fun x:Rul=>decide (x.name=g.rules[i].name)) (xs:=g.rules) (i:=i) (by assumption) (by simp) hn
  simp only[Zd,hRul,e]
  exact .refl
 ·exact nx ⟨i+1,oT,ZA (by assumption) (by simp[*]) hn⟩ (by simp;omega) (by simp[E2]) rfl
 ·have:i=g.rules.length:=by omega
  subst this
  rw[tL (Nat.le_refl _)] at hn
  have e:=Yo hn
  simp only[Zd,hRul,e]
  exact .tup (.cons (.agg (.cons .refl (.cons .refl (.cons .nil (.cons .refl (.cons .nil (.cons .nil .nil))))))) (.cons .refl .nil))
theorem w30 (g:Gram) (t:List Nod) (i:Int) (hg:ZI g):Pu 30 [Gr g,Tr t,I i] (· = T (Zi g t i)):=by
 refine GCalls.lenA fun hl=> ?_
 obtain ⟨hlen,_⟩:=lenTr hl.2.1
 refine Z5 mxd i30 rfl (by simp) ?_;refine X0 ?_
 by_cases h:0≤i∧i<t.length
 ·obtain ⟨i,rfl⟩:∃k:Nat,i=k:=⟨i.toNat,oT⟩
  have hi:i<t.length:=by omega
  rw[symN_in hi]
  (with_reducible repeat' first|refine callS.eq (w64 _ _ _) ?_|refine callS.eq (w76 _ _ hg) ?_|exact trivial|refine aO ?_|refine eO ?_|apply jO|refine K0 ?_|intro h)
  all_goals first|rfl|(exfalso;omega)
 ·rw[symN_out h]
  (with_reducible repeat' first|refine callS.eq (w64 _ _ _) ?_|refine callS.eq (w76 _ _ hg) ?_|exact trivial|refine aO ?_|refine eO ?_|apply jO|refine K0 ?_|intro h)
  all_goals first|rfl|(exfalso;omega)
theorem w83 (g:Gram) (t:List Nod) (i:Int) (hg:ZI g):Pu 83 [Gr g,Tr t,I i] (· = T (Zi g t i)):=by
 refine GCalls.lenA fun hl=> ?_
 obtain ⟨hlen,_⟩:=lenTr hl.2.1
 refine Z5 mxd i83 rfl (by simp) ?_;refine X0 ?_
 by_cases h:0≤i∧i<t.length
 ·obtain ⟨i,rfl⟩:∃k:Nat,i=k:=⟨i.toNat,oT⟩
  have hi:i<t.length:=by omega
  rw[symN_in hi]
  (with_reducible repeat' first|refine callS.eq (w81 _ _) ?_|refine callS.eq (w62 _ _ hg) ?_|exact trivial|refine aO ?_|refine eO ?_|apply jO|refine K0 ?_|intro h)
  all_goals first|rfl|(exfalso;omega)
 ·rw[symN_out h]
  (with_reducible repeat' first|refine callS.eq (w81 _ _) ?_|refine callS.eq (w62 _ _ hg) ?_|exact trivial|refine aO ?_|refine eO ?_|apply jO|refine K0 ?_|intro h)
  all_goals first|rfl|(exfalso;omega)
theorem w211 (g:Gram) (r:Rul) (o:Int×ByteArray) (hg:ZI g) (hr:Zb r):Pu 211 [Gr g,Ru r,Occ o] (· = .tup [At (Zl g r o.1 o.2),B (hasAt g r o.1 o.2)]):=by
 have hl:=hr.1
 refine Z5 mxd i211 rfl (by simp) ?_;refine X0 ?_
 (with_reducible repeat' first|refine callS.eq (w57 _ _ _) ?_|refine callS.eq (w239 r _ hr) ?_|refine callS.eq (w82 _ _ hg) ?_|refine callS.eq (w188 _ _ (YQ hg _)) ?_|exact trivial|refine aO ?_|refine eO ?_|apply jO|refine K0 ?_|intro h)
 all_goals simp only[Zl,hasAt]
 ·rw[if_pos (by assumption),if_pos (by assumption)]
 ·rw[if_neg (by assumption),if_neg (by assumption)];rfl
theorem w217 (g:Gram) (s n:ByteArray) (hg:ZI g):Pu 217 [Gr g,T s,T n] (· = I (fAtt (Zz g.syms s).atts n).type):=by
 refine Z5 mxd i217 rfl (by simp) ?_;refine X0 ?_
 (with_reducible repeat' first|refine callS.eq (w72 _ _ hg) ?_|refine callS.eq (w79 _ _ (YQ hg _)) ?_|exact trivial|refine aO ?_|refine eO ?_|apply jO|refine K0 ?_|intro h)
 all_goals rw[fAtt_no (by assumption)];rfl
theorem w149 (g:Gram) (t:List Nod) (x:Int×ByteArray) (hg:ZI g):Pu 149 [Gr g,Tr t,Ins x] (· = .tup [At (attN g t x.1 x.2),B (hasN g t x.1 x.2)]):=by
 refine Z5 mxd i149 rfl (by simp) ?_;refine X0 ?_
 (with_reducible repeat' first|refine callS.eq (w59 _ _) ?_|refine callS.eq (w83 _ _ _ hg) ?_|refine callS.eq (w82 _ _ hg) ?_|refine callS.eq (w188 _ _ (YQ hg _)) ?_|exact trivial|refine aO ?_|refine eO ?_|apply jO|refine K0 ?_|intro h)
 all_goals simp only[attN,hasN]
 ·rw[if_neg oT,if_neg oT];rfl
 ·rw[if_pos oT,if_pos oT]
theorem w32 (g:Gram) (t:List Nod) (x:Int×ByteArray) (hg:ZI g):Pu 32 [Gr g,Tr t,Ins x] (· = .tup [At (attN g t x.1 x.2),B (hasN g t x.1 x.2)]):=by
 refine Z5 mxd i32 rfl (by simp) ?_;refine X0 ?_
 (with_reducible repeat' first|refine callS.eq (w20 _ _) ?_|refine callS.eq (w30 _ _ _ hg) ?_|refine callS.eq (w72 _ _ hg) ?_|refine callS.eq (w79 _ _ (YQ hg _)) ?_|exact trivial|refine aO ?_|refine eO ?_|apply jO|refine K0 ?_|intro h)
 all_goals simp only[attN,hasN]
 ·rw[if_neg oT,if_neg oT];rfl
 ·rw[if_pos oT,if_pos oT]
theorem w181 (g:Gram) (t:List Nod) (i:Int) (o:Int×ByteArray) (ht:∀x∈t,x.kids.length≤1048576):Pu 181 [Gr g,Tr t,I i,Occ o] (· = .tup [Ins (YR t i o).1,B (YR t i o).2]):=by
 refine GCalls.lenA fun hl=> ?_
 obtain ⟨hlen,_⟩:=lenTr hl.2.1
 refine Z5 mxd i181 rfl (by simp) ?_;refine X0 ?_
 by_cases h:0≤i∧i<t.length
 ·obtain ⟨i,rfl⟩:∃k:Nat,i=k:=⟨i.toNat,oT⟩
  have hi:i<t.length:=by omega
  have hk:=ht _ (gM hi)
  (with_reducible repeat' first|refine callS.eq (w81 _ _) ?_|refine callS.eq (w57 _ _ _) ?_|exact trivial|refine aO ?_|refine eO ?_|apply jO|refine K0 ?_|intro h)
  all_goals try exact oF
  all_goals first
   | (rw[inst0 hi oT];done)
   | (rw[inst1 hi oT oT oT oT];done)
   | (rw[inst2 hi oT oT oT];rfl)
   | (rw[inst3 hi oT];rfl)
 ·(with_reducible repeat' first|refine callS.eq (w81 _ _) ?_|refine callS.eq (w57 _ _ _) ?_|exact trivial|refine aO ?_|refine eO ?_|apply jO|refine K0 ?_|intro h)
  all_goals try exact oF
  rw[inst4 oT]
  rfl
theorem w179 (g:Gram) (t:List Nod) (i:Int) (o:Int×ByteArray) (ht:∀x∈t,x.kids.length≤1048576):Pu 179 [Gr g,Tr t,I i,Occ o] (· = .tup [Ins (YR t i o).1,B (YR t i o).2]):=by
 refine GCalls.lenA fun hl=> ?_
 obtain ⟨hlen,_⟩:=lenTr hl.2.1
 refine Z5 mxd i179 rfl (by simp) ?_;refine X0 ?_
 by_cases h:0≤i∧i<t.length
 ·obtain ⟨i,rfl⟩:∃k:Nat,i=k:=⟨i.toNat,oT⟩
  have hi:i<t.length:=by omega
  have hk:=ht _ (gM hi)
  (with_reducible repeat' first|refine callS.eq (w64 _ _ _) ?_|exact trivial|refine aO ?_|refine eO ?_|apply jO|refine K0 ?_|intro h)
  all_goals try exact oF
  all_goals first
   | (rw[inst0 hi oT];done)
   | (rw[inst1 hi oT oT oT oT];done)
   | (rw[inst2 hi oT oT oT];rfl)
   | (rw[inst3 hi oT];rfl)
 ·(with_reducible repeat' first|refine callS.eq (w64 _ _ _) ?_|exact trivial|refine aO ?_|refine eO ?_|apply jO|refine K0 ?_|intro h)
  all_goals try exact oF
  rw[inst4 oT]
  rfl
end Go.Proofs.YtknbnefbgpnkgaaGreat
namespace Go.Proofs.YtknbnefbgpnkgaaGreat
open Go.Gh
open Nat (reduceEqDiff reduceLeDiff reduceAdd reduceLT)
open Int (reduceNe)
end Go.Proofs.YtknbnefbgpnkgaaGreat
