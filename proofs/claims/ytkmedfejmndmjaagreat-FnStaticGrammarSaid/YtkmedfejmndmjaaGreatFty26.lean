/- The law returns true whatever the input, and the input reads behind the call as before. No condition. -/
import Derived.Test.YtkmedfejmndmjaaGreatFty20
set_option maxHeartbeats 40000000
set_option maxRecDepth 20000
set_option linter.unusedSimpArgs false
set_option linter.unusedVariables false
namespace Go.Proofs.YtkmedfejmndmjaaGreat
open Go.Gh
open Nat (reduceEqDiff reduceLeDiff reduceAdd reduceLT)
open Int (reduceNe)
theorem w77:Dv Tryz.prog 77 [] (fun v=>∃y,shSy y∧v=Sy y):=by
 refine Dv.of fun rc H=> ?_
 refine ZY mxd i77 rfl (by simp) ?_;simp (maxSteps:=9^7) only[↓ S2,S2,Z5,↓reduceIte,reduceNe,reduceEqDiff,reduceCtorEq,reduceLeDiff,reduceAdd,reduceLT]
 (((try refine qI ?_);(repeat ((first|with_reducible refine qU ?_ | simp only[Z8]);try simp (maxSteps:=9^7) only[↓ S2,S2,Z5,↓reduceIte,reduceNe,reduceEqDiff,reduceCtorEq,reduceLeDiff,reduceAdd,reduceLT,Z9,Z7,Z6]));(try simp +contextual (disch:=omega) only[Z2,Z9,Z7,Z6]);(with_reducible repeat' (first|intro h|refine And.intro (by omega) ?_ | refine exP (by omega) ?_ | apply And.intro)));(repeat' (have h:=ZX h;simp only[ZZ,ZV,Z0,ZW,and_true,true_and] at h;((try refine qI ?_);(repeat ((first|with_reducible refine qU ?_ | simp only[Z8]);try simp (maxSteps:=9^7) only[↓ S2,S2,Z5,↓reduceIte,reduceNe,reduceEqDiff,reduceCtorEq,reduceLeDiff,reduceAdd,reduceLT,Z9,Z7,Z6,h]));(try simp +contextual (disch:=omega) only[Z2,Z9,Z7,Z6,h]);(with_reducible repeat' (first|intro h|refine And.intro (by omega) ?_ | refine exP (by omega) ?_ | apply And.intro))))))
 refine callS.dv (w78 _ rfl (by simp)) Z4 ?_
 intro _ hg;obtain ⟨nm,hnm,rfl⟩:=Ze rfl hg;clear hg
 (((try refine qI ?_);(repeat ((first|with_reducible refine qU ?_ | simp only[Z8]);try simp (maxSteps:=9^7) only[↓ S2,S2,Z5,↓reduceIte,reduceNe,reduceEqDiff,reduceCtorEq,reduceLeDiff,reduceAdd,reduceLT,Z9,Z7,Z6]));(try simp +contextual (disch:=omega) only[Z2,Z9,Z7,Z6]);(with_reducible repeat' (first|intro h|refine And.intro (by omega) ?_ | refine exP (by omega) ?_ | apply And.intro)));(repeat' (have h:=ZX h;simp only[ZZ,ZV,Z0,ZW,and_true,true_and] at h;((try refine qI ?_);(repeat ((first|with_reducible refine qU ?_ | simp only[Z8]);try simp (maxSteps:=9^7) only[↓ S2,S2,Z5,↓reduceIte,reduceNe,reduceEqDiff,reduceCtorEq,reduceLeDiff,reduceAdd,reduceLT,Z9,Z7,Z6,h]));(try simp +contextual (disch:=omega) only[Z2,Z9,Z7,Z6,h]);(with_reducible repeat' (first|intro h|refine And.intro (by omega) ?_ | refine exP (by omega) ?_ | apply And.intro))))))
 refine callS.dc (o120 nm hnm false false) Z4 ?_
 rintro _ _ ⟨l,r,hd,rfl,rfl⟩ hn
 have h4:=ZX hn
 simp only[List.cons_append,List.nil_append] at h4
 (replace h4:=h4;simp only[VN] at h4)
 obtain ⟨hd1,hd2,hd3⟩:1≤l.length∧l.length≤4∧∀a∈l,shT a.name:=⟨hd.2.1,hd.2.2.1,(drS_sh hd).2.2.2⟩
 obtain ⟨a,l,rfl⟩:∃a t,l=a::t:=by
  cases l with
  | nil=>exact absurd hd1 (by simp)
  | cons a t=>exact ⟨a,t,rfl⟩
 rw[List.length_cons] at hd2
 have ha:=hd3 a (by simp)
 have hl:=fun x (h:x∈l)=>hd3 x (by simp[h])
 clear hd hd1 hd3
 (((try refine qI ?_);(repeat ((first|with_reducible refine qU ?_ | simp only[Z8]);try simp (maxSteps:=9^7) only[↓ S2,S2,Z5,↓reduceIte,reduceNe,reduceEqDiff,reduceCtorEq,reduceLeDiff,reduceAdd,reduceLT,Z9,Z7,Z6,h4,List.map_cons,List.length_cons]));(try simp +contextual (disch:=omega) only[Z2,Z9,Z7,Z6,h4,List.map_cons,List.length_cons]);(with_reducible repeat' (first|intro h|refine And.intro (by omega) ?_ | refine exP (by omega) ?_ | apply And.intro)));(repeat' (have h:=ZX h;simp only[ZZ,ZV,Z0,ZW,and_true,true_and] at h;((try refine qI ?_);(repeat ((first|with_reducible refine qU ?_ | simp only[Z8]);try simp (maxSteps:=9^7) only[↓ S2,S2,Z5,↓reduceIte,reduceNe,reduceEqDiff,reduceCtorEq,reduceLeDiff,reduceAdd,reduceLT,Z9,Z7,Z6,h4,List.map_cons,List.length_cons,h]));(try simp +contextual (disch:=omega) only[Z2,Z9,Z7,Z6,h4,List.map_cons,List.length_cons,h]);(with_reducible repeat' (first|intro h|refine And.intro (by omega) ?_ | refine exP (by omega) ?_ | apply And.intro))))))
 rename_i q _
 have h6:=h
 refine callS.dv (Y8 10 (by omega)) (by simp only[Z9, *,if_true,if_false]) ?_
 rintro _ ⟨k,hk,rfl⟩
 have fin:∀(b:Att),shT b.name→∀(Y:GV),∃G T L,(∃y,shSy y∧G=Sy y)∧Bor L (.agg [Go.Gh.T nm,.own r 4 0 (l.length+1)]) G∧(q,2,[Y])::(r,4,At b::l.map At)::(rc,3,[GV.cur])::H=T++H∧subH T (L++[(rc,3,[.cur])]):=by
  intro b hb Y
  have hall:∀x∈b::l,shT x.name:=by
   intro x hx
   rcases List.mem_cons.1 hx with rfl|hx
   ·exact hb
   ·exact hl x hx
  have hlen:(b::l).length ≤ 5:=by rw[List.length_cons];omega
  exact ⟨_,[_,_,_],[(r,4,At b::l.map At)],⟨⟨nm,b::l⟩,⟨hnm,by simp,hlen,hall⟩,rfl⟩,.agg (.cons .refl (.cons (Bor.allM (f:=At) (l:=b::l) (fun _ => rfl) Z4 rfl) .nil)),rfl,by simp[subH,ZU,names, *]⟩
 (((try refine qI ?_);(repeat ((first|with_reducible refine qU ?_ | simp only[Z8]);try simp (maxSteps:=9^7) only[↓ S2,S2,Z5,↓reduceIte,reduceNe,reduceEqDiff,reduceCtorEq,reduceLeDiff,reduceAdd,reduceLT,Z9,Z7,Z6,h4,h6,List.map_cons,List.length_cons,Int.toNat_zero,List.getElem_cons_zero,List.set_cons_zero]));(try simp +contextual (disch:=omega) only[Z2,Z9,Z7,Z6,h4,h6,List.map_cons,List.length_cons,Int.toNat_zero,List.getElem_cons_zero,List.set_cons_zero]);(with_reducible repeat' (first|intro h|refine And.intro (by omega) ?_ | refine exP (by omega) ?_ | apply And.intro)));(repeat' (have h:=ZX h;simp only[ZZ,ZV,Z0,ZW,and_true,true_and] at h;((try refine qI ?_);(repeat ((first|with_reducible refine qU ?_ | simp only[Z8]);try simp (maxSteps:=9^7) only[↓ S2,S2,Z5,↓reduceIte,reduceNe,reduceEqDiff,reduceCtorEq,reduceLeDiff,reduceAdd,reduceLT,Z9,Z7,Z6,h4,h6,List.map_cons,List.length_cons,Int.toNat_zero,List.getElem_cons_zero,List.set_cons_zero,h]));(try simp +contextual (disch:=omega) only[Z2,Z9,Z7,Z6,h4,h6,List.map_cons,List.length_cons,Int.toNat_zero,List.getElem_cons_zero,List.set_cons_zero,h]);(with_reducible repeat' (first|intro h|refine And.intro (by omega) ?_ | refine exP (by omega) ?_ | apply And.intro))))))
 ·(((try refine qI ?_);(repeat ((first|with_reducible refine qU ?_ | simp only[Z8]);try simp (maxSteps:=9^7) only[↓ S2,S2,Z5,↓reduceIte,reduceNe,reduceEqDiff,reduceCtorEq,reduceLeDiff,reduceAdd,reduceLT,Z9,Z7,Z6,h4,h6,Int.toNat_zero,List.getElem_cons_zero,List.set_cons_zero]));(try simp +contextual (disch:=omega) only[Z2,Z9,Z7,Z6,h4,h6,Int.toNat_zero,List.getElem_cons_zero,List.set_cons_zero]);(with_reducible repeat' (first|intro h|refine And.intro (by omega) ?_ | refine exP (by omega) ?_ | apply And.intro)));(repeat' (have h:=ZX h;simp only[ZZ,ZV,Z0,ZW,and_true,true_and] at h;((try refine qI ?_);(repeat ((first|with_reducible refine qU ?_ | simp only[Z8]);try simp (maxSteps:=9^7) only[↓ S2,S2,Z5,↓reduceIte,reduceNe,reduceEqDiff,reduceCtorEq,reduceLeDiff,reduceAdd,reduceLT,Z9,Z7,Z6,h4,h6,Int.toNat_zero,List.getElem_cons_zero,List.set_cons_zero,h]));(try simp +contextual (disch:=omega) only[Z2,Z9,Z7,Z6,h4,h6,Int.toNat_zero,List.getElem_cons_zero,List.set_cons_zero,h]);(with_reducible repeat' (first|intro h|refine And.intro (by omega) ?_ | refine exP (by omega) ?_ | apply And.intro))))))
  exact fin ⟨a.name,a.type,a.mode,true⟩ ha _
 ·refine callA.dv (Y8 5 (by omega)) (by simp only[Z9, *,if_true,if_false]) ?_
  rintro _ ⟨m,_,rfl⟩
  (((try refine qI ?_);(repeat ((first|with_reducible refine qU ?_ | simp only[Z8]);try simp (maxSteps:=9^7) only[↓ S2,S2,Z5,↓reduceIte,reduceNe,reduceEqDiff,reduceCtorEq,reduceLeDiff,reduceAdd,reduceLT,Z9,Z7,Z6,h4,h6,Int.toNat_zero,List.getElem_cons_zero,List.set_cons_zero]));(try simp +contextual (disch:=omega) only[Z2,Z9,Z7,Z6,h4,h6,Int.toNat_zero,List.getElem_cons_zero,List.set_cons_zero]);(with_reducible repeat' (first|intro h|refine And.intro (by omega) ?_ | refine exP (by omega) ?_ | apply And.intro)));(repeat' (have h:=ZX h;simp only[ZZ,ZV,Z0,ZW,and_true,true_and] at h;((try refine qI ?_);(repeat ((first|with_reducible refine qU ?_ | simp only[Z8]);try simp (maxSteps:=9^7) only[↓ S2,S2,Z5,↓reduceIte,reduceNe,reduceEqDiff,reduceCtorEq,reduceLeDiff,reduceAdd,reduceLT,Z9,Z7,Z6,h4,h6,Int.toNat_zero,List.getElem_cons_zero,List.set_cons_zero,h]));(try simp +contextual (disch:=omega) only[Z2,Z9,Z7,Z6,h4,h6,Int.toNat_zero,List.getElem_cons_zero,List.set_cons_zero,h]);(with_reducible repeat' (first|intro h|refine And.intro (by omega) ?_ | refine exP (by omega) ?_ | apply And.intro))))))
  exact fin ⟨a.name,a.type,m,a.circ⟩ ha _
 ·refine callA.dv (Y8 6 (by omega)) (by simp only[Z9, *,if_true,if_false]) ?_
  rintro _ ⟨m,_,rfl⟩
  (((try refine qI ?_);(repeat ((first|with_reducible refine qU ?_ | simp only[Z8]);try simp (maxSteps:=9^7) only[↓ S2,S2,Z5,↓reduceIte,reduceNe,reduceEqDiff,reduceCtorEq,reduceLeDiff,reduceAdd,reduceLT,Z9,Z7,Z6,h4,h6,Int.toNat_zero,List.getElem_cons_zero,List.set_cons_zero]));(try simp +contextual (disch:=omega) only[Z2,Z9,Z7,Z6,h4,h6,Int.toNat_zero,List.getElem_cons_zero,List.set_cons_zero]);(with_reducible repeat' (first|intro h|refine And.intro (by omega) ?_ | refine exP (by omega) ?_ | apply And.intro)));(repeat' (have h:=ZX h;simp only[ZZ,ZV,Z0,ZW,and_true,true_and] at h;((try refine qI ?_);(repeat ((first|with_reducible refine qU ?_ | simp only[Z8]);try simp (maxSteps:=9^7) only[↓ S2,S2,Z5,↓reduceIte,reduceNe,reduceEqDiff,reduceCtorEq,reduceLeDiff,reduceAdd,reduceLT,Z9,Z7,Z6,h4,h6,Int.toNat_zero,List.getElem_cons_zero,List.set_cons_zero,h]));(try simp +contextual (disch:=omega) only[Z2,Z9,Z7,Z6,h4,h6,Int.toNat_zero,List.getElem_cons_zero,List.set_cons_zero,h]);(with_reducible repeat' (first|intro h|refine And.intro (by omega) ?_ | refine exP (by omega) ?_ | apply And.intro))))))
  exact fin ⟨a.name,m,a.mode,a.circ⟩ ha _
 ·refine callA.dv (w78 _ rfl (by simp)) (by simp only[Z9, *,if_true,if_false]) ?_
  intro _ hg;obtain ⟨n2,hn2,rfl⟩:=Ze rfl hg;clear hg
  (((try refine qI ?_);(repeat ((first|with_reducible refine qU ?_ | simp only[Z8]);try simp (maxSteps:=9^7) only[↓ S2,S2,Z5,↓reduceIte,reduceNe,reduceEqDiff,reduceCtorEq,reduceLeDiff,reduceAdd,reduceLT,Z9,Z7,Z6,h4,h6,Int.toNat_zero,List.getElem_cons_zero,List.set_cons_zero]));(try simp +contextual (disch:=omega) only[Z2,Z9,Z7,Z6,h4,h6,Int.toNat_zero,List.getElem_cons_zero,List.set_cons_zero]);(with_reducible repeat' (first|intro h|refine And.intro (by omega) ?_ | refine exP (by omega) ?_ | apply And.intro)));(repeat' (have h:=ZX h;simp only[ZZ,ZV,Z0,ZW,and_true,true_and] at h;((try refine qI ?_);(repeat ((first|with_reducible refine qU ?_ | simp only[Z8]);try simp (maxSteps:=9^7) only[↓ S2,S2,Z5,↓reduceIte,reduceNe,reduceEqDiff,reduceCtorEq,reduceLeDiff,reduceAdd,reduceLT,Z9,Z7,Z6,h4,h6,Int.toNat_zero,List.getElem_cons_zero,List.set_cons_zero,h]));(try simp +contextual (disch:=omega) only[Z2,Z9,Z7,Z6,h4,h6,Int.toNat_zero,List.getElem_cons_zero,List.set_cons_zero,h]);(with_reducible repeat' (first|intro h|refine And.intro (by omega) ?_ | refine exP (by omega) ?_ | apply And.intro))))))
  exact fin ⟨n2,a.type,a.mode,a.circ⟩ hn2 _
 ·refine Yw mxd (ι:={ x:Nat×List Att // 1≤x.2.length∧x.2.length≤5∧∀b∈x.2,shT b.name }) (fun x=>[(0,.ptr rc 3 0 0),(2,.raw 2),(3,.ptr q 2 0 0)]) (fun x=>(x.1.1,4,x.1.2.map At)::(q,2,[.agg [T nm,.own x.1.1 4 0 x.1.2.length]])::(rc,3,[.cur])::H) (fun x=>5-x.1.2.length) ⟨(r,a::l),by simp,by rw[List.length_cons];omega,fun x hx=>(List.mem_cons.1 hx).elim (fun e=>e▸ha) (hl x)⟩ (FE.perm (H:=[_,_,_]) (L:=[(r,_),(q,_),(rc,_)]) (by repeat' (first|exact trivial|(refine And.intro (by simp only[Z9, *,if_true,if_false];try rfl) (And.intro (by simp[ZT,ZS, *]) ?_))))) (by simp[E2]) (by simp[ZD]) ?_
  rintro ⟨⟨r1,L⟩,hL1,hL2,hL3⟩ hn2
  dsimp only at hL1 hL2 hL3 hn2 ⊢
  have h5:=ZX hn2
  (replace h5:=h5;simp only[VN] at h5)
  refine Zp mxd ?_
  rcases nL L.length 5 with hlt|hge
  ·have hA:∃s:ByteArray,shT s∧∀hx,[T ⟨#[101]⟩,T ⟨#[102]⟩,T ⟨#[103]⟩,T ⟨#[104]⟩,T ⟨#[105]⟩][L.length]'hx = T s:=by
    have:L.length=1∨L.length=2∨L.length=3∨L.length=4:=by omega
    rcases this with e|e|e|e
    ·exact ⟨⟨#[102]⟩,by decide,fun hx=>by simp only[e];rfl⟩
    ·exact ⟨⟨#[103]⟩,by decide,fun hx=>by simp only[e];rfl⟩
    ·exact ⟨⟨#[104]⟩,by decide,fun hx=>by simp only[e];rfl⟩
    ·exact ⟨⟨#[105]⟩,by decide,fun hx=>by simp only[e];rfl⟩
   obtain ⟨s,hs,hA⟩:=hA
   (((try refine qI ?_);(repeat ((first|with_reducible refine qU ?_ | simp only[Z8]);try simp (maxSteps:=9^7) only[↓ S2,S2,Z5,↓reduceIte,reduceNe,reduceEqDiff,reduceCtorEq,reduceLeDiff,reduceAdd,reduceLT,Z9,Z7,Z6,h5,hA]));(try simp +contextual (disch:=omega) only[Z2,Z9,Z7,Z6,h5,hA]);(with_reducible repeat' (first|intro h|refine And.intro (by omega) ?_ | refine exP (by omega) ?_ | apply And.intro)));(repeat' (have h:=ZX h;simp only[ZZ,ZV,Z0,ZW,and_true,true_and] at h;((try refine qI ?_);(repeat ((first|with_reducible refine qU ?_ | simp only[Z8]);try simp (maxSteps:=9^7) only[↓ S2,S2,Z5,↓reduceIte,reduceNe,reduceEqDiff,reduceCtorEq,reduceLeDiff,reduceAdd,reduceLT,Z9,Z7,Z6,h5,hA,h]));(try simp +contextual (disch:=omega) only[Z2,Z9,Z7,Z6,h5,hA,h]);(with_reducible repeat' (first|intro h|refine And.intro (by omega) ?_ | refine exP (by omega) ?_ | apply And.intro))))))
   (((try refine qI ?_);(repeat ((first|with_reducible refine qU ?_ | simp only[Z8]);try simp (maxSteps:=9^7) only[↓ S2,S2,Z5,↓reduceIte,reduceNe,reduceEqDiff,reduceCtorEq,reduceLeDiff,reduceAdd,reduceLT,Z9,Z7,Z6,h5,hA,List.length_append,List.length_singleton,List.length_map,List.length_take,ZO]));(try simp +contextual (disch:=omega) only[Z2,Z9,Z7,Z6,h5,hA,List.length_append,List.length_singleton,List.length_map,List.length_take,ZO]);(with_reducible repeat' (first|intro h|refine And.intro (by omega) ?_ | refine exP (by omega) ?_ | apply And.intro)));(repeat' (have h:=ZX h;simp only[ZZ,ZV,Z0,ZW,and_true,true_and] at h;((try refine qI ?_);(repeat ((first|with_reducible refine qU ?_ | simp only[Z8]);try simp (maxSteps:=9^7) only[↓ S2,S2,Z5,↓reduceIte,reduceNe,reduceEqDiff,reduceCtorEq,reduceLeDiff,reduceAdd,reduceLT,Z9,Z7,Z6,h5,hA,List.length_append,List.length_singleton,List.length_map,List.length_take,ZO,h]));(try simp +contextual (disch:=omega) only[Z2,Z9,Z7,Z6,h5,hA,List.length_append,List.length_singleton,List.length_map,List.length_take,ZO,h]);(with_reducible repeat' (first|intro h|refine And.intro (by omega) ?_ | refine exP (by omega) ?_ | apply And.intro))))))
   all_goals try exact oF
   rename_i r3 _ _ r4 _
   rw[tL (by simp)]
   have hF:r4≠q∧r4≠rc∧r3≠q∧r3≠rc∧r3≠r4∧q≠rc:=by simp only[names, *,ne_eq,not_false_eq_true,and_self]
   obtain ⟨f1,f2,f3,f4,f5,f6⟩:=hF
   exact nxF ⟨(r4,L++[⟨s,1,2,false⟩]),by simp,by rw[List.length_append,List.length_singleton];omega,fun b hb=>(List.mem_append.1 hb).elim (hL3 b) (fun e=>by rw[List.mem_singleton.1 e];exact hs)⟩ (by simp only[List.length_append,List.length_singleton];omega) (FE.perm (H:=[_,_,_,_]) (L:=[(r4,_),(q,_),(rc,_)]) (by repeat' (first|exact trivial|(refine And.intro (by simp only[Z9, *,if_true,if_false];try rfl) (And.intro (by simp[ZT,ZS, *]) ?_))))) (by simp[E2]) (by simp)
  ·(((try refine qI ?_);(repeat ((first|with_reducible refine qU ?_ | simp only[Z8]);try simp (maxSteps:=9^7) only[↓ S2,S2,Z5,↓reduceIte,reduceNe,reduceEqDiff,reduceCtorEq,reduceLeDiff,reduceAdd,reduceLT,Z9,Z7,Z6,h5]));(try simp +contextual (disch:=omega) only[Z2,Z9,Z7,Z6,h5]);(with_reducible repeat' (first|intro h|refine And.intro (by omega) ?_ | refine exP (by omega) ?_ | apply And.intro)));(repeat' (have h:=ZX h;simp only[ZZ,ZV,Z0,ZW,and_true,true_and] at h;((try refine qI ?_);(repeat ((first|with_reducible refine qU ?_ | simp only[Z8]);try simp (maxSteps:=9^7) only[↓ S2,S2,Z5,↓reduceIte,reduceNe,reduceEqDiff,reduceCtorEq,reduceLeDiff,reduceAdd,reduceLT,Z9,Z7,Z6,h5,h]));(try simp +contextual (disch:=omega) only[Z2,Z9,Z7,Z6,h5,h]);(with_reducible repeat' (first|intro h|refine And.intro (by omega) ?_ | refine exP (by omega) ?_ | apply And.intro))))))
   all_goals try exact oF
   exact ⟨_,[_,_,_],[(r1,4,L.map At)],⟨⟨nm,L⟩,⟨hnm,hL1,hL2,hL3⟩,rfl⟩,.agg (.cons .refl (.cons (Bor.allM (f:=At) (l:=L) (fun _ => rfl) Z4 rfl) .nil)),rfl,(by repeat' (first|exact trivial|(refine And.intro (by simp only[Z9, *,if_true,if_false];try rfl) (And.intro (by simp[ZT,ZS, *]) ?_))))⟩
 ·exact fin a ha _
end Go.Proofs.YtkmedfejmndmjaaGreat
