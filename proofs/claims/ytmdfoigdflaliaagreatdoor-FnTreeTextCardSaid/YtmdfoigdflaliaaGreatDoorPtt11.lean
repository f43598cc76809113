/- The tied card of the law holds. No condition. -/
import Derived.Test.YtmdfoigdflaliaaGreatDoorPtt9
import Derived.Test.YtmdfoigdflaliaaGreatDoorPtt10
set_option maxHeartbeats 40000000
set_option maxRecDepth 20000
set_option linter.unusedSimpArgs false
set_option linter.unusedVariables false
namespace Go.Proofs.YtmdfoigdflaliaaGreatDoor
open Go.Gh
open Nat (reduceEqDiff reduceLeDiff reduceAdd reduceLT)
open Int (reduceNe)
theorem nms_taken {n0:Nat} (h:n0<3):∃ns:List ByteArray,GV.sl 1 (List.drop (Int.toNat 0) (List.take ((n0+1:Nat):Int).toNat [T (ByteArray.mk #[115]),T (ByteArray.mk #[116]),T (ByteArray.mk #[117])]))=TS ns∧ns.length=n0+1∧(∀s∈ns,s.size=1)∧∀s∈ns,stu s:=by
 have:n0=0∨n0=1∨n0=2:=by omega
 rcases this with rfl|rfl|rfl
 ·exact ⟨[ByteArray.mk #[115]],rfl,rfl,by decide,by simp[stu]⟩
 ·exact ⟨[ByteArray.mk #[115],ByteArray.mk #[116]],rfl,rfl,by decide,by simp[stu]⟩
 ·exact ⟨[ByteArray.mk #[115],ByteArray.mk #[116],ByteArray.mk #[117]],rfl,rfl,by decide,by simp[stu]⟩
theorem l1PickN (ns:List ByteArray) (h:0<ns.length):Dv Tryz.prog 49 [TS ns] (fun g=>∃s,s∈ns∧g=T s):=
 (w49 (ns.map T) (by simp[noAg,nraw];exact fun _ _ => rfl) (by simpa using h)).mono fun g H1 ⟨h1,h2⟩=>by
  obtain ⟨s,hs,rfl⟩:=List.mem_map.1 h1
  exact ⟨⟨s,hs,rfl⟩,h2⟩
theorem wn27 (plain:Bool):Dv Tryz.prog 27 [B plain] (fun v=>∃g,drV g∧v=Gr g):=by
 refine Dv.of fun rc H=> ?_
 refine ZN mxd i27 rfl (by simp) ?_;simp (maxSteps:=9^7) only[↓ S2,S2,ZT,↓reduceIte,reduceNe,reduceEqDiff,reduceCtorEq,reduceLeDiff,reduceAdd,reduceLT]
 (((try refine qI ?_);(repeat ((first|with_reducible refine qU ?_ | simp only[Z5]);try simp (maxSteps:=9^7) only[↓ S2,S2,ZT,↓reduceIte,reduceNe,reduceEqDiff,reduceCtorEq,reduceLeDiff,reduceAdd,reduceLT,Z9,Z8,Z7]));(try simp +contextual (disch:=omega) only[Z2,Z9,Z8,Z7]);(with_reducible repeat' (first|intro h|refine And.intro (by omega) ?_ | refine exP (by omega) ?_ | apply And.intro)));(repeat' (have h:=Z0 h;simp only[Z1,ZY,Z3,ZZ,and_true,true_and] at h;((try refine qI ?_);(repeat ((first|with_reducible refine qU ?_ | simp only[Z5]);try simp (maxSteps:=9^7) only[↓ S2,S2,ZT,↓reduceIte,reduceNe,reduceEqDiff,reduceCtorEq,reduceLeDiff,reduceAdd,reduceLT,Z9,Z8,Z7,h]));(try simp +contextual (disch:=omega) only[Z2,Z9,Z8,Z7,h]);(with_reducible repeat' (first|intro h|refine And.intro (by omega) ?_ | refine exP (by omega) ?_ | apply And.intro))))))
 rename_i rg _
 refine callS.dv (wz47 3 (by omega)) (by simp only[Z9,h,if_true,if_false]) ?_
 rintro _ ⟨n0,hn0,rfl⟩
 have e0:(1:Int)+(n0:Int)=((n0+1:Nat):Int):=by omega
 (((try refine qI ?_);(repeat ((first|with_reducible refine qU ?_ | simp only[Z5]);try simp (maxSteps:=9^7) only[↓ S2,S2,ZT,↓reduceIte,reduceNe,reduceEqDiff,reduceCtorEq,reduceLeDiff,reduceAdd,reduceLT,Z9,Z8,Z7,h,e0]));(try simp +contextual (disch:=omega) only[Z2,Z9,Z8,Z7,h,e0]);(with_reducible repeat' (first|intro h|refine And.intro (by omega) ?_ | refine exP (by omega) ?_ | apply And.intro)));(repeat' (have h:=Z0 h;simp only[Z1,ZY,Z3,ZZ,and_true,true_and] at h;((try refine qI ?_);(repeat ((first|with_reducible refine qU ?_ | simp only[Z5]);try simp (maxSteps:=9^7) only[↓ S2,S2,ZT,↓reduceIte,reduceNe,reduceEqDiff,reduceCtorEq,reduceLeDiff,reduceAdd,reduceLT,Z9,Z8,Z7,h,e0,h]));(try simp +contextual (disch:=omega) only[Z2,Z9,Z8,Z7,h,e0,h]);(with_reducible repeat' (first|intro h|refine And.intro (by omega) ?_ | refine exP (by omega) ?_ | apply And.intro))))))
 obtain ⟨ns,h7,hl7,hs7,hv7⟩:=nms_taken (n0:=n0) (by omega)
 rw[h7]
 clear h7 e0
 have hn3:n0+1≤3:=by omega
 have hn1:1≤n0+1:=by omega
 clear hn0
 generalize n0+1=n at *
 have hsh:∀i (h:i<ns.length),shT ns[i]:=fun i h=>by have:=hs7 _ (gM h);unfold shT;omega
 obtain ⟨v,hv,hvn⟩:=vfresh (names ((rg,2,[.agg [ZE,ZE]])::(rc,3,[.cur])::H))
 refine Zd mxd (ι:={ x:(Nat×List Sym)×Nat // x.2≤n∧x.1.2.length≤x.2∧x.2≤x.1.2.length∧∀s∈x.1.2,drS s }) (fun x=>[(0,.ptr rc 3 0 0),(1,B plain),(4,.raw 2),(5,.ptr rg 2 0 0),(6,I n),(7,TS ns),(8,I x.1.2)]) (fun x=>(x.1.1.1,2,x.1.1.2.map Sy)::(rg,2,[.agg [.own x.1.1.1 2 0 x.1.1.2.length,ZE]])::(rc,3,[.cur])::H) (fun x=>n-x.1.2) ⟨((v,[]),0),by simp⟩ (FE.virtF (sz:=2) (sz1:=2) (i:=0) (j:=0) (es:=[.agg [ZE,ZE]]) (gs:=[ZE,ZE]) ZX rfl rfl hv hvn) (by simp[E2]) (by simp[ZI]) ?_
 rintro ⟨⟨⟨q,l⟩,i⟩,hi,hl1,hl2,hd⟩ hn2
 dsimp only at hi hl1 hl2 hd hn2 ⊢
 have h4:=Z0 hn2
 (replace h4:=h4;simp only[VN] at h4)
 refine ZD mxd ?_
 rcases nL i n with hlt|hge
 ·have hlt':i<ns.length:=by omega
  (((try refine qI ?_);(repeat ((first|with_reducible refine qU ?_ | simp only[Z5]);try simp (maxSteps:=9^7) only[↓ S2,S2,ZT,↓reduceIte,reduceNe,reduceEqDiff,reduceCtorEq,reduceLeDiff,reduceAdd,reduceLT,Z9,Z8,Z7,h4]));(try simp +contextual (disch:=omega) only[Z2,Z9,Z8,Z7,h4]);(with_reducible repeat' (first|intro h|refine And.intro (by omega) ?_ | refine exP (by omega) ?_ | apply And.intro)));(repeat' (have h:=Z0 h;simp only[Z1,ZY,Z3,ZZ,and_true,true_and] at h;((try refine qI ?_);(repeat ((first|with_reducible refine qU ?_ | simp only[Z5]);try simp (maxSteps:=9^7) only[↓ S2,S2,ZT,↓reduceIte,reduceNe,reduceEqDiff,reduceCtorEq,reduceLeDiff,reduceAdd,reduceLT,Z9,Z8,Z7,h4,h]));(try simp +contextual (disch:=omega) only[Z2,Z9,Z8,Z7,h4,h]);(with_reducible repeat' (first|intro h|refine And.intro (by omega) ?_ | refine exP (by omega) ?_ | apply And.intro))))))
  all_goals try exact oF
  refine callA.dv (w48 ns[i] (hsh _ _) _ plain) (by simp only[Z9,h4,if_true,if_false]) ?_
  rintro _ ⟨y,hy,rfl⟩
  (((try refine qI ?_);(repeat ((first|with_reducible refine qU ?_ | simp only[Z5]);try simp (maxSteps:=9^7) only[↓ S2,S2,ZT,↓reduceIte,reduceNe,reduceEqDiff,reduceCtorEq,reduceLeDiff,reduceAdd,reduceLT,Z9,Z8,Z7,h4,List.length_append,List.length_singleton,List.length_map,List.length_take,ZM]));(try simp +contextual (disch:=omega) only[Z2,Z9,Z8,Z7,h4,List.length_append,List.length_singleton,List.length_map,List.length_take,ZM]);(with_reducible repeat' (first|intro h|refine And.intro (by omega) ?_ | refine exP (by omega) ?_ | apply And.intro)));(repeat' (have h:=Z0 h;simp only[Z1,ZY,Z3,ZZ,and_true,true_and] at h;((try refine qI ?_);(repeat ((first|with_reducible refine qU ?_ | simp only[Z5]);try simp (maxSteps:=9^7) only[↓ S2,S2,ZT,↓reduceIte,reduceNe,reduceEqDiff,reduceCtorEq,reduceLeDiff,reduceAdd,reduceLT,Z9,Z8,Z7,h4,List.length_append,List.length_singleton,List.length_map,List.length_take,ZM,h]));(try simp +contextual (disch:=omega) only[Z2,Z9,Z8,Z7,h4,List.length_append,List.length_singleton,List.length_map,List.length_take,ZM,h]);(with_reducible repeat' (first|intro h|refine And.intro (by omega) ?_ | refine exP (by omega) ?_ | apply And.intro))))))
  all_goals try exact oF
  rename_i r3 _ _ r4 _
  rw[tL (by simp)]
  exact nxF ⟨((r4,l++[y]),i+1),by dsimp only;omega,by simp;omega,by simp;omega,fun y hy=>(List.mem_append.1 hy).elim (hd y) fun h=>by
   rw[List.mem_singleton] at h;subst h;assumption⟩ (by dsimp only;omega) (FE.perm (H:=[_,_,_,_]) (L:=[(r4,_),(rg,_),(rc,_)]) (by repeat' (first|exact trivial|(refine And.intro (by simp only[Z9, *,if_true,if_false];try rfl) (And.intro (by simp[ZR,ZP, *]) ?_))))) (by simp[E2]) (by simp)
 ·have hll:l.length=n:=by omega
  have hls:∀s∈l,shSy s:=fun s hs=>drS_sh (hd s hs)
  have hsm:smGr ⟨l,[]⟩:=⟨by show l.length ≤ _;omega,by simp,fun s hs=>shSy_sm (hls s hs),by simp⟩
  have hru:=fun (X:GV) (r:Rul) (h1:smRu r) (h2:r.right.length≤3) (b:Bool)=>o50 X ⟨l,[]⟩ r hsm hls (show 1≤l.length by omega) h1 h2 b
  have hpu:=fun (X Y:GV) (r:Rul) (h1:smRu r) (h2:r.right.length≤3) (h3:clean Y=true)=>o51 X Y ⟨l,[]⟩ r hsm hls h1 h2 h3
  obtain ⟨v2,hv2,hvn2⟩:=vfresh (names ((rg,2,[.agg [SyS l,ZE]])::(rc,3,[.cur])::H))
  (((try refine qI ?_);(repeat ((first|with_reducible refine qU ?_ | simp only[Z5]);try simp (maxSteps:=9^7) only[↓ S2,S2,ZT,↓reduceIte,reduceNe,reduceEqDiff,reduceCtorEq,reduceLeDiff,reduceAdd,reduceLT,Z9,Z8,Z7,h4]));(try simp +contextual (disch:=omega) only[Z2,Z9,Z8,Z7,h4]);(with_reducible repeat' (first|intro h|refine And.intro (by omega) ?_ | refine exP (by omega) ?_ | apply And.intro)));(repeat' (have h:=Z0 h;simp only[Z1,ZY,Z3,ZZ,and_true,true_and] at h;((try refine qI ?_);(repeat ((first|with_reducible refine qU ?_ | simp only[Z5]);try simp (maxSteps:=9^7) only[↓ S2,S2,ZT,↓reduceIte,reduceNe,reduceEqDiff,reduceCtorEq,reduceLeDiff,reduceAdd,reduceLT,Z9,Z8,Z7,h4,h]));(try simp +contextual (disch:=omega) only[Z2,Z9,Z8,Z7,h4,h]);(with_reducible repeat' (first|intro h|refine And.intro (by omega) ?_ | refine exP (by omega) ?_ | apply And.intro))))))
  all_goals try exact oF
  refine Zd mxd (ι:={ x:(Nat×List Rul)×Nat // x.2≤n∧x.1.2.length≤3 * x.2∧x.2≤x.1.2.length∧∀r∈x.1.2,shN r }) (fun x=>[(0,.ptr rc 3 0 0),(1,B plain),(4,.raw 2),(5,.ptr rg 2 0 0),(6,I n),(7,TS ns),(9,I x.1.2)]) (fun x=>(x.1.1.1,6,x.1.1.2.map Ru0)::(rg,2,[.agg [SyS l,.own x.1.1.1 6 0 x.1.1.2.length]])::(rc,3,[.cur])::H) (fun x=>n-x.1.2) ⟨((v2,[]),0),by simp⟩ (FE.trans (FE.symF (by simp[*]) rfl) (FE.virtF (sz:=2) (sz1:=6) (i:=0) (j:=1) (es:=[.agg [SyS l,ZE]]) (gs:=[SyS l,ZE]) ZX rfl rfl hv2 hvn2)) (by simp[E2]) (by simp[ZI]) ?_
  clear h h4 hn2 hvn2 hv2 hv hvn
  rintro ⟨⟨⟨q2,L⟩,i⟩,hi,hL1,hL2,hL⟩ hn2
  dsimp only at hi hL1 hL2 hL hn2 ⊢
  have h4:=Z0 hn2
  (replace h4:=h4;simp only[VN] at h4)
  refine ZD mxd ?_
  rcases nL i n with hlt|hge
  ·have hlt':i<ns.length:=by omega
   have hc:(Z6 ns[i]).length = 1:=by rw[YB];exact hs7 _ (gM _)
   have hsi:=hsh i hlt'
   obtain ⟨nm,hnm,hnms,hnmv⟩:=mkS_nm (leaf_nm (hv7 _ (gM hlt')))
   have hnmt:shT nm:=by unfold shT;rw[hnms,List.length_append,hc];exact Nat.le_of_ble_eq_true rfl
   (((try refine qI ?_);(repeat ((first|with_reducible refine qU ?_ | simp only[Z5]);try simp (maxSteps:=9^7) only[↓ S2,S2,ZT,↓reduceIte,reduceNe,reduceEqDiff,reduceCtorEq,reduceLeDiff,reduceAdd,reduceLT,Z9,Z8,Z7,h4]));(try simp +contextual (disch:=omega) only[Z2,Z9,Z8,Z7,h4]);(with_reducible repeat' (first|intro h|refine And.intro (by omega) ?_ | refine exP (by omega) ?_ | apply And.intro)));(repeat' (have h:=Z0 h;simp only[Z1,ZY,Z3,ZZ,and_true,true_and] at h;((try refine qI ?_);(repeat ((first|with_reducible refine qU ?_ | simp only[Z5]);try simp (maxSteps:=9^7) only[↓ S2,S2,ZT,↓reduceIte,reduceNe,reduceEqDiff,reduceCtorEq,reduceLeDiff,reduceAdd,reduceLT,Z9,Z8,Z7,h4,h]));(try simp +contextual (disch:=omega) only[Z2,Z9,Z8,Z7,h4,h]);(with_reducible repeat' (first|intro h|refine And.intro (by omega) ?_ | refine exP (by omega) ?_ | apply And.intro))))))
   all_goals try exact oF
   ·rw[hc];exact Nat.le_of_ble_eq_true rfl
   rw[hnm]
   refine callA.dv (w32 3) (by simp only[Z9,h4,if_true,if_false]) ?_
   rintro _ ⟨b,rfl⟩
   (((try refine qI ?_);(repeat ((first|with_reducible refine qU ?_ | simp only[Z5]);try simp (maxSteps:=9^7) only[↓ S2,S2,ZT,↓reduceIte,reduceNe,reduceEqDiff,reduceCtorEq,reduceLeDiff,reduceAdd,reduceLT,Z9,Z8,Z7,h4,List.length_append,List.length_singleton,List.length_map,List.length_take,ZM]));(try simp +contextual (disch:=omega) only[Z2,Z9,Z8,Z7,h4,List.length_append,List.length_singleton,List.length_map,List.length_take,ZM]);(with_reducible repeat' (first|intro h|refine And.intro (by omega) ?_ | refine exP (by omega) ?_ | apply And.intro)));(repeat' (have h:=Z0 h;simp only[Z1,ZY,Z3,ZZ,and_true,true_and] at h;((try refine qI ?_);(repeat ((first|with_reducible refine qU ?_ | simp only[Z5]);try simp (maxSteps:=9^7) only[↓ S2,S2,ZT,↓reduceIte,reduceNe,reduceEqDiff,reduceCtorEq,reduceLeDiff,reduceAdd,reduceLT,Z9,Z8,Z7,h4,List.length_append,List.length_singleton,List.length_map,List.length_take,ZM,h]));(try simp +contextual (disch:=omega) only[Z2,Z9,Z8,Z7,h4,List.length_append,List.length_singleton,List.length_map,List.length_take,ZM,h]);(with_reducible repeat' (first|intro h|refine And.intro (by omega) ?_ | refine exP (by omega) ?_ | apply And.intro))))))
   all_goals try exact oF
   rename_i r3 _ _ r4 _
   refine callS.dv (wz47 2 (by omega)) (by simp only[Z9,h4,h,if_true,if_false]) ?_
   rintro _ ⟨m0,hm0,rfl⟩
   have e0:(1:Int)+(m0:Int)=((m0+1:Nat):Int):=by omega
   (((try refine qI ?_);(repeat ((first|with_reducible refine qU ?_ | simp only[Z5]);try simp (maxSteps:=9^7) only[↓ S2,S2,ZT,↓reduceIte,reduceNe,reduceEqDiff,reduceCtorEq,reduceLeDiff,reduceAdd,reduceLT,Z9,Z8,Z7,h4,h,e0]));(try simp +contextual (disch:=omega) only[Z2,Z9,Z8,Z7,h4,h,e0]);(with_reducible repeat' (first|intro h|refine And.intro (by omega) ?_ | refine exP (by omega) ?_ | apply And.intro)));(repeat' (have h:=Z0 h;simp only[Z1,ZY,Z3,ZZ,and_true,true_and] at h;((try refine qI ?_);(repeat ((first|with_reducible refine qU ?_ | simp only[Z5]);try simp (maxSteps:=9^7) only[↓ S2,S2,ZT,↓reduceIte,reduceNe,reduceEqDiff,reduceCtorEq,reduceLeDiff,reduceAdd,reduceLT,Z9,Z8,Z7,h4,h,e0,h]));(try simp +contextual (disch:=omega) only[Z2,Z9,Z8,Z7,h4,h,e0,h]);(with_reducible repeat' (first|intro h|refine And.intro (by omega) ?_ | refine exP (by omega) ?_ | apply And.intro))))))
   rw[tL (by simp)]
   refine Zd mxd (ι:={ x:(Nat×List Rul)×Nat // x.2≤m0+1∧x.1.2.length≤L.length+1+x.2∧L.length+1≤x.1.2.length∧∀r∈x.1.2,shN r }) (fun x=>[(0,.ptr rc 3 0 0),(1,B plain),(4,.raw 2),(5,.ptr rg 2 0 0),(6,I n),(7,TS ns),(9,I i),(10,I ((m0+1:Nat):Int)),(11,I x.1.2)]) (fun x=>(x.1.1.1,6,x.1.1.2.map Ru0)::(rg,2,[.agg [SyS l,.own x.1.1.1 6 0 x.1.1.2.length]])::(rc,3,[.cur])::H) (fun x=>m0+1-x.1.2) ⟨((r4,L++[⟨nm,ns[i],[],!b,[],[]⟩]),0),by dsimp only;omega,by simp,by simp,fun y hy=>(List.mem_append.1 hy).elim (hL y) fun h=>by
    rw[List.mem_singleton] at h;subst h;exact ⟨⟨hnmt,hsi,by simp,by simp⟩,hnmv⟩⟩ (FE.trans (FE.perm (H:=[_,_,_,_]) (L:=[(r4,_),(rg,_),(rc,_)]) (by repeat' (first|exact trivial|(refine And.intro (by simp only[Z9, *,if_true,if_false];try rfl) (And.intro (by simp[ZR,ZP, *]) ?_))))) FE.leaf) (by simp[E2]) (by simp) ?_
   rintro ⟨⟨⟨q4,L2⟩,k⟩,hk,hM1,hM2,hM⟩ hn5
   dsimp only at hk hM1 hM2 hM hn5 ⊢
   have h5:=Z0 hn5
   (replace h5:=h5;simp only[VN] at h5)
   refine ZD mxd ?_
   rcases nL k (m0+1) with hlt2|hge2
   ·have hk2:k<2:=by omega
    obtain ⟨n5,e5,l5,c5⟩:=mkS_ch (Z6 (ByteArray.mk #[112])++Z6 ns[i])
    have l5':(Z6 n5).length = 2:=by rw[YB,l5,List.length_append,hc];rfl
    obtain ⟨n6,e6,l6,v6⟩:=mkS_nm (p_nm (hv7 _ (gM hlt')) c5 hk2)
    have hn6:shT n6:=by unfold shT;rw[l6,List.length_append,l5'];show 2+1≤16;omega
    (((try refine qI ?_);(repeat ((first|with_reducible refine qU ?_ | simp only[Z5]);try simp (maxSteps:=9^7) only[↓ S2,S2,ZT,↓reduceIte,reduceNe,reduceEqDiff,reduceCtorEq,reduceLeDiff,reduceAdd,reduceLT,Z9,Z8,Z7,h5]));(try simp +contextual (disch:=omega) only[Z2,Z9,Z8,Z7,h5]);(with_reducible repeat' (first|intro h|refine And.intro (by omega) ?_ | refine exP (by omega) ?_ | apply And.intro)));(repeat' (have h:=Z0 h;simp only[Z1,ZY,Z3,ZZ,and_true,true_and] at h;((try refine qI ?_);(repeat ((first|with_reducible refine qU ?_ | simp only[Z5]);try simp (maxSteps:=9^7) only[↓ S2,S2,ZT,↓reduceIte,reduceNe,reduceEqDiff,reduceCtorEq,reduceLeDiff,reduceAdd,reduceLT,Z9,Z8,Z7,h5,h]));(try simp +contextual (disch:=omega) only[Z2,Z9,Z8,Z7,h5,h]);(with_reducible repeat' (first|intro h|refine And.intro (by omega) ?_ | refine exP (by omega) ?_ | apply And.intro))))))
    all_goals try exact oF
    ·rw[hc];exact Nat.le_of_ble_eq_true rfl
    rw[e5]
    refine callS.eq (v45 k hk2) ?_
    (((try refine qI ?_);(repeat ((first|with_reducible refine qU ?_ | simp only[Z5]);try simp (maxSteps:=9^7) only[↓ S2,S2,ZT,↓reduceIte,reduceNe,reduceEqDiff,reduceCtorEq,reduceLeDiff,reduceAdd,reduceLT,Z9,Z8,Z7,h5]));(try simp +contextual (disch:=omega) only[Z2,Z9,Z8,Z7,h5]);(with_reducible repeat' (first|intro h|refine And.intro (by omega) ?_ | refine exP (by omega) ?_ | apply And.intro)));(repeat' (have h:=Z0 h;simp only[Z1,ZY,Z3,ZZ,and_true,true_and] at h;((try refine qI ?_);(repeat ((first|with_reducible refine qU ?_ | simp only[Z5]);try simp (maxSteps:=9^7) only[↓ S2,S2,ZT,↓reduceIte,reduceNe,reduceEqDiff,reduceCtorEq,reduceLeDiff,reduceAdd,reduceLT,Z9,Z8,Z7,h5,h]));(try simp +contextual (disch:=omega) only[Z2,Z9,Z8,Z7,h5,h]);(with_reducible repeat' (first|intro h|refine And.intro (by omega) ?_ | refine exP (by omega) ?_ | apply And.intro))))))
    all_goals try exact oF
    ·rw[l5'];show 2+1 ≤ _;omega
    rw[e6]
    refine callA.dv (w32 4) (by simp only[Z9,h5,if_true,if_false]) ?_
    rintro _ ⟨b2,rfl⟩
    (((try refine qI ?_);(repeat ((first|with_reducible refine qU ?_ | simp only[Z5]);try simp (maxSteps:=9^7) only[↓ S2,S2,ZT,↓reduceIte,reduceNe,reduceEqDiff,reduceCtorEq,reduceLeDiff,reduceAdd,reduceLT,Z9,Z8,Z7,h5]));(try simp +contextual (disch:=omega) only[Z2,Z9,Z8,Z7,h5]);(with_reducible repeat' (first|intro h|refine And.intro (by omega) ?_ | refine exP (by omega) ?_ | apply And.intro)));(repeat' (have h:=Z0 h;simp only[Z1,ZY,Z3,ZZ,and_true,true_and] at h;((try refine qI ?_);(repeat ((first|with_reducible refine qU ?_ | simp only[Z5]);try simp (maxSteps:=9^7) only[↓ S2,S2,ZT,↓reduceIte,reduceNe,reduceEqDiff,reduceCtorEq,reduceLeDiff,reduceAdd,reduceLT,Z9,Z8,Z7,h5,h]));(try simp +contextual (disch:=omega) only[Z2,Z9,Z8,Z7,h5,h]);(with_reducible repeat' (first|intro h|refine And.intro (by omega) ?_ | refine exP (by omega) ?_ | apply And.intro))))))
    rename_i r12 _
    have h6:=h
    refine callS.dv (wz47 3 (by omega)) (by simp only[Z9,h5,h6,if_true,if_false]) ?_
    rintro _ ⟨d0,hd0,rfl⟩
    have e1:(1:Int)+(d0:Int)=((d0+1:Nat):Int):=by omega
    obtain ⟨v3,hv3,hvn3⟩:=vfresh (names ((r12,6,[.agg [T n6,T ns[i],ZE,B b2,ZE,ZE]])::(q4,6,L2.map Ru0)::(rg,2,[.agg [SyS l,.own q4 6 0 L2.length]])::(rc,3,[.cur])::H))
    (((try refine qI ?_);(repeat ((first|with_reducible refine qU ?_ | simp only[Z5]);try simp (maxSteps:=9^7) only[↓ S2,S2,ZT,↓reduceIte,reduceNe,reduceEqDiff,reduceCtorEq,reduceLeDiff,reduceAdd,reduceLT,Z9,Z8,Z7,h5,h6,e1]));(try simp +contextual (disch:=omega) only[Z2,Z9,Z8,Z7,h5,h6,e1]);(with_reducible repeat' (first|intro h|refine And.intro (by omega) ?_ | refine exP (by omega) ?_ | apply And.intro)));(repeat' (have h:=Z0 h;simp only[Z1,ZY,Z3,ZZ,and_true,true_and] at h;((try refine qI ?_);(repeat ((first|with_reducible refine qU ?_ | simp only[Z5]);try simp (maxSteps:=9^7) only[↓ S2,S2,ZT,↓reduceIte,reduceNe,reduceEqDiff,reduceCtorEq,reduceLeDiff,reduceAdd,reduceLT,Z9,Z8,Z7,h5,h6,e1,h]));(try simp +contextual (disch:=omega) only[Z2,Z9,Z8,Z7,h5,h6,e1,h]);(with_reducible repeat' (first|intro h|refine And.intro (by omega) ?_ | refine exP (by omega) ?_ | apply And.intro))))))
    refine Zd mxd (ι:={ x:(Nat×List ByteArray)×Nat // x.2≤d0+1∧x.1.2.length≤x.2∧∀s∈x.1.2,shT s }) (fun x=>[(0,.ptr rc 3 0 0),(1,B plain),(4,.raw 2),(5,.ptr rg 2 0 0),(6,I n),(7,TS ns),(9,I i),(10,I ((m0+1:Nat):Int)),(11,I k),(12,.ptr r12 6 0 0),(13,I ((d0+1:Nat):Int)),(14,I x.1.2)]) (fun x=>(x.1.1.1,1,x.1.1.2.map T)::(r12,6,[.agg [T n6,T ns[i],.own x.1.1.1 1 0 x.1.1.2.length,B b2,ZE,ZE]])::(q4,6,L2.map Ru0)::(rg,2,[.agg [SyS l,.own q4 6 0 L2.length]])::(rc,3,[.cur])::H) (fun x=>d0+1-x.1.2) ⟨((v3,[]),0),by simp⟩ (FE.virtF (sz:=6) (sz1:=1) (i:=0) (j:=2) (es:=[.agg [T n6,T ns[i],ZE,B b2,ZE,ZE]]) (gs:=[T n6,T ns[i],ZE,B b2,ZE,ZE]) ZX rfl rfl hv3 hvn3) (by simp[E2]) (by simp[ZI]) ?_
    clear hv3 hvn3
    rintro ⟨⟨⟨q7,rs⟩,j⟩,hj,hrs1,hrs⟩ hn7
    dsimp only at hj hrs1 hrs hn7 ⊢
    have h7:=Z0 hn7
    (replace h7:=h7;simp only[VN] at h7)
    refine ZD mxd ?_
    rcases nL j (d0+1) with hlt3|hge3
    ·(((try refine qI ?_);(repeat ((first|with_reducible refine qU ?_ | simp only[Z5]);try simp (maxSteps:=9^7) only[↓ S2,S2,ZT,↓reduceIte,reduceNe,reduceEqDiff,reduceCtorEq,reduceLeDiff,reduceAdd,reduceLT,Z9,Z8,Z7,h7]));(try simp +contextual (disch:=omega) only[Z2,Z9,Z8,Z7,h7]);(with_reducible repeat' (first|intro h|refine And.intro (by omega) ?_ | refine exP (by omega) ?_ | apply And.intro)));(repeat' (have h:=Z0 h;simp only[Z1,ZY,Z3,ZZ,and_true,true_and] at h;((try refine qI ?_);(repeat ((first|with_reducible refine qU ?_ | simp only[Z5]);try simp (maxSteps:=9^7) only[↓ S2,S2,ZT,↓reduceIte,reduceNe,reduceEqDiff,reduceCtorEq,reduceLeDiff,reduceAdd,reduceLT,Z9,Z8,Z7,h7,h]));(try simp +contextual (disch:=omega) only[Z2,Z9,Z8,Z7,h7,h]);(with_reducible repeat' (first|intro h|refine And.intro (by omega) ?_ | refine exP (by omega) ?_ | apply And.intro))))))
     all_goals try exact oF
     refine callA.dv (l1PickN ns (by omega)) (by simp only[Z9,h7,if_true,if_false]) ?_
     rintro _ ⟨s,hs,rfl⟩
     have hst:shT s:=by obtain ⟨z,hz,rfl⟩:=List.mem_iff_getElem.1 hs;exact hsh z hz
     (((try refine qI ?_);(repeat ((first|with_reducible refine qU ?_ | simp only[Z5]);try simp (maxSteps:=9^7) only[↓ S2,S2,ZT,↓reduceIte,reduceNe,reduceEqDiff,reduceCtorEq,reduceLeDiff,reduceAdd,reduceLT,Z9,Z8,Z7,h7,List.length_append,List.length_singleton,List.length_map,List.length_take,ZM]));(try simp +contextual (disch:=omega) only[Z2,Z9,Z8,Z7,h7,List.length_append,List.length_singleton,List.length_map,List.length_take,ZM]);(with_reducible repeat' (first|intro h|refine And.intro (by omega) ?_ | refine exP (by omega) ?_ | apply And.intro)));(repeat' (have h:=Z0 h;simp only[Z1,ZY,Z3,ZZ,and_true,true_and] at h;((try refine qI ?_);(repeat ((first|with_reducible refine qU ?_ | simp only[Z5]);try simp (maxSteps:=9^7) only[↓ S2,S2,ZT,↓reduceIte,reduceNe,reduceEqDiff,reduceCtorEq,reduceLeDiff,reduceAdd,reduceLT,Z9,Z8,Z7,h7,List.length_append,List.length_singleton,List.length_map,List.length_take,ZM,h]));(try simp +contextual (disch:=omega) only[Z2,Z9,Z8,Z7,h7,List.length_append,List.length_singleton,List.length_map,List.length_take,ZM,h]);(with_reducible repeat' (first|intro h|refine And.intro (by omega) ?_ | refine exP (by omega) ?_ | apply And.intro))))))
     all_goals try exact oF
     rename_i r8 _ _ r9 _
     rw[tL (by simp)]
     exact nxF ⟨((r9,rs++[s]),j+1),by dsimp only;omega,by simp;omega,fun y hy=>(List.mem_append.1 hy).elim (hrs y) fun h=>by
      rw[List.mem_singleton] at h;subst h;exact hst⟩ (by dsimp only;omega) (FE.perm (H:=[_,_,_,_,_,_]) (L:=[(r9,_),(r12,_),(q4,_),(rg,_),(rc,_)]) (by repeat' (first|exact trivial|(refine And.intro (by simp only[Z9, *,if_true,if_false];try rfl) (And.intro (by simp[ZR,ZP, *]) ?_))))) (by simp[E2]) (by simp)
    ·(((try refine qI ?_);(repeat ((first|with_reducible refine qU ?_ | simp only[Z5]);try simp (maxSteps:=9^7) only[↓ S2,S2,ZT,↓reduceIte,reduceNe,reduceEqDiff,reduceCtorEq,reduceLeDiff,reduceAdd,reduceLT,Z9,Z8,Z7,h7,List.length_append,List.length_singleton,List.length_map,List.length_take,ZM]));(try simp +contextual (disch:=omega) only[Z2,Z9,Z8,Z7,h7,List.length_append,List.length_singleton,List.length_map,List.length_take,ZM]);(with_reducible repeat' (first|intro h|refine And.intro (by omega) ?_ | refine exP (by omega) ?_ | apply And.intro)));(repeat' (have h:=Z0 h;simp only[Z1,ZY,Z3,ZZ,and_true,true_and] at h;((try refine qI ?_);(repeat ((first|with_reducible refine qU ?_ | simp only[Z5]);try simp (maxSteps:=9^7) only[↓ S2,S2,ZT,↓reduceIte,reduceNe,reduceEqDiff,reduceCtorEq,reduceLeDiff,reduceAdd,reduceLT,Z9,Z8,Z7,h7,List.length_append,List.length_singleton,List.length_map,List.length_take,ZM,h]));(try simp +contextual (disch:=omega) only[Z2,Z9,Z8,Z7,h7,List.length_append,List.length_singleton,List.length_map,List.length_take,ZM,h]);(with_reducible repeat' (first|intro h|refine And.intro (by omega) ?_ | refine exP (by omega) ?_ | apply And.intro))))))
     all_goals try exact oF
     rename_i r8 _ _ r9 _
     rw[tL (by simp)]
     exact nxF ⟨((r9,L2++[⟨n6,ns[i],rs,b2,[],[]⟩]),k+1),by dsimp only;omega,by simp;omega,by simp;omega,fun y hy=>(List.mem_append.1 hy).elim (hM y) fun h=>by
      rw[List.mem_singleton] at h;subst h;exact ⟨⟨hn6,hsi,by show rs.length≤3;omega,hrs⟩,v6⟩⟩ (by dsimp only;omega) (FE.trans (FE.perm (H:=[_,_,_,_,_,_]) (L:=[(r9,_),(q7,_),(rg,_),(rc,_)]) (by repeat' (first|exact trivial|(refine And.intro (by simp only[Z9, *,if_true,if_false];try rfl) (And.intro (by simp[ZR,ZP, *]) ?_))))) (FE.ruF (by simp[*]) rfl)) (by simp[E2]) (by simp)
   ·(((try refine qI ?_);(repeat ((first|with_reducible refine qU ?_ | simp only[Z5]);try simp (maxSteps:=9^7) only[↓ S2,S2,ZT,↓reduceIte,reduceNe,reduceEqDiff,reduceCtorEq,reduceLeDiff,reduceAdd,reduceLT,Z9,Z8,Z7,h5]));(try simp +contextual (disch:=omega) only[Z2,Z9,Z8,Z7,h5]);(with_reducible repeat' (first|intro h|refine And.intro (by omega) ?_ | refine exP (by omega) ?_ | apply And.intro)));(repeat' (have h:=Z0 h;simp only[Z1,ZY,Z3,ZZ,and_true,true_and] at h;((try refine qI ?_);(repeat ((first|with_reducible refine qU ?_ | simp only[Z5]);try simp (maxSteps:=9^7) only[↓ S2,S2,ZT,↓reduceIte,reduceNe,reduceEqDiff,reduceCtorEq,reduceLeDiff,reduceAdd,reduceLT,Z9,Z8,Z7,h5,h]));(try simp +contextual (disch:=omega) only[Z2,Z9,Z8,Z7,h5,h]);(with_reducible repeat' (first|intro h|refine And.intro (by omega) ?_ | refine exP (by omega) ?_ | apply And.intro))))))
    all_goals try exact oF
    exact nx ⟨((q4,L2),i+1),by dsimp only;omega,by dsimp only;omega,by dsimp only;omega,hM⟩ (by dsimp only;omega) (by simp[E2]) rfl
  ·have hLn:1≤L.length:=by omega
   (((try refine qI ?_);(repeat ((first|with_reducible refine qU ?_ | simp only[Z5]);try simp (maxSteps:=9^7) only[↓ S2,S2,ZT,↓reduceIte,reduceNe,reduceEqDiff,reduceCtorEq,reduceLeDiff,reduceAdd,reduceLT,Z9,Z8,Z7,h4,Int.toNat_zero,Int.reduceSub,Int.reduceToNat]));(try simp +contextual (disch:=omega) only[Z2,Z9,Z8,Z7,h4,Int.toNat_zero,Int.reduceSub,Int.reduceToNat]);(with_reducible repeat' (first|intro h|refine And.intro (by omega) ?_ | refine exP (by omega) ?_ | apply And.intro)));(repeat' (have h:=Z0 h;simp only[Z1,ZY,Z3,ZZ,and_true,true_and] at h;((try refine qI ?_);(repeat ((first|with_reducible refine qU ?_ | simp only[Z5]);try simp (maxSteps:=9^7) only[↓ S2,S2,ZT,↓reduceIte,reduceNe,reduceEqDiff,reduceCtorEq,reduceLeDiff,reduceAdd,reduceLT,Z9,Z8,Z7,h4,Int.toNat_zero,Int.reduceSub,Int.reduceToNat,h]));(try simp +contextual (disch:=omega) only[Z2,Z9,Z8,Z7,h4,Int.toNat_zero,Int.reduceSub,Int.reduceToNat,h]);(with_reducible repeat' (first|intro h|refine And.intro (by omega) ?_ | refine exP (by omega) ?_ | apply And.intro))))))
   all_goals try exact oF
   ·refine Zd mxd (ι:={ x:List Rul×Nat // x.2≤8∧x.1.length=x.2∧∀r∈x.1,(shRu r∧r.right.length≤3)∧ZA r.name=true }) (fun x=>[(0,.ptr rc 3 0 0),(1,B plain),(4,.raw 2),(5,.ptr rg 2 0 0),(15,I x.1.2)]) (fun x=>(q2,6,x.1.1.map Ru++(L.drop x.1.2).map Ru0)::(rg,2,[.agg [SyS l,.own q2 6 0 8]])::(rc,3,[.cur])::H) (fun x=>8-x.1.2) ⟨([],0),by simp⟩ FE.refl (by simp[E2]) (by simp) ?_
    rintro ⟨⟨D,j⟩,hj,hD1,hD⟩ hn5
    dsimp only at hj hD1 hD hn5 ⊢
    have h5:=Z0 hn5
    (replace h5:=h5;simp only[VN] at h5)
    refine ZD mxd ?_
    rcases nL j 8 with hlt2|hge2
    ·have hjl:j<L.length:=by omega
     obtain ⟨es,hes,hel,heg,hev,hest⟩:=rul_mid (D:=D) hD1 hjl
     rw[hes]
     clear hes
     have hrn:=(hL _ (gM hjl)).2
     have hr:=(hL _ (gM hjl)).1
     (((try refine qI ?_);(repeat ((first|with_reducible refine qU ?_ | simp only[Z5]);try simp (maxSteps:=9^7) only[↓ S2,S2,ZT,↓reduceIte,reduceNe,reduceEqDiff,reduceCtorEq,reduceLeDiff,reduceAdd,reduceLT,Z9,Z8,Z7,h5,heg]));(try simp +contextual (disch:=omega) only[Z2,Z9,Z8,Z7,h5,heg]);(with_reducible repeat' (first|intro h|refine And.intro (by omega) ?_ | refine exP (by omega) ?_ | apply And.intro)));(repeat' (have h:=Z0 h;simp only[Z1,ZY,Z3,ZZ,and_true,true_and] at h;((try refine qI ?_);(repeat ((first|with_reducible refine qU ?_ | simp only[Z5]);try simp (maxSteps:=9^7) only[↓ S2,S2,ZT,↓reduceIte,reduceNe,reduceEqDiff,reduceCtorEq,reduceLeDiff,reduceAdd,reduceLT,Z9,Z8,Z7,h5,heg,h]));(try simp +contextual (disch:=omega) only[Z2,Z9,Z8,Z7,h5,heg,h]);(with_reducible repeat' (first|intro h|refine And.intro (by omega) ?_ | refine exP (by omega) ?_ | apply And.intro))))))
     all_goals try exact oF
     refine callA.dc (hru _ { L[j] with eqs:=[],cons:=[] } (shR0_sm hr) hr.2.2.1 (!plain)) (by simp only[Z9,h5,if_true,if_false]) ?_
     rintro _ _ ⟨qs,q9,hqs,rfl,rfl⟩ hn9
     have h9:=Z0 hn9
     simp only[List.cons_append,List.nil_append] at h9
     (replace h9:=h9;simp only[VN] at h9)
     cases plain
     ·(((try refine qI ?_);(repeat ((first|with_reducible refine qU ?_ | simp only[Z5]);try simp (maxSteps:=9^7) only[↓ S2,S2,ZT,↓reduceIte,reduceNe,reduceEqDiff,reduceCtorEq,reduceLeDiff,reduceAdd,reduceLT,Z9,Z8,Z7,h9,heg,Bool.not_false,Bool.not_true,List.getElem_set_self,List.set_set,List.length_set]));(try simp +contextual (disch:=omega) only[Z2,Z9,Z8,Z7,h9,heg,Bool.not_false,Bool.not_true,List.getElem_set_self,List.set_set,List.length_set]);(with_reducible repeat' (first|intro h|refine And.intro (by omega) ?_ | refine exP (by omega) ?_ | apply And.intro)));(repeat' (have h:=Z0 h;simp only[Z1,ZY,Z3,ZZ,and_true,true_and] at h;((try refine qI ?_);(repeat ((first|with_reducible refine qU ?_ | simp only[Z5]);try simp (maxSteps:=9^7) only[↓ S2,S2,ZT,↓reduceIte,reduceNe,reduceEqDiff,reduceCtorEq,reduceLeDiff,reduceAdd,reduceLT,Z9,Z8,Z7,h9,heg,Bool.not_false,Bool.not_true,List.getElem_set_self,List.set_set,List.length_set,h]));(try simp +contextual (disch:=omega) only[Z2,Z9,Z8,Z7,h9,heg,Bool.not_false,Bool.not_true,List.getElem_set_self,List.set_set,List.length_set,h]);(with_reducible repeat' (first|intro h|refine And.intro (by omega) ?_ | refine exP (by omega) ?_ | apply And.intro))))))
      all_goals try exact oF
      refine callA.dc (hpu _ (.own q9 9 0 qs.length) { L[j] with eqs:=[],cons:=[] } (shR0_sm hr) hr.2.2.1 rfl) (by simp only[Z9,h9,if_true,if_false]) ?_
      rintro _ _ ⟨cs,q10,hcs,rfl,rfl⟩ hn10
      have h10:=Z0 hn10
      simp only[List.cons_append,List.nil_append] at h10
      (replace h10:=h10;simp only[VN] at h10)
      (((try refine qI ?_);(repeat ((first|with_reducible refine qU ?_ | simp only[Z5]);try simp (maxSteps:=9^7) only[↓ S2,S2,ZT,↓reduceIte,reduceNe,reduceEqDiff,reduceCtorEq,reduceLeDiff,reduceAdd,reduceLT,Z9,Z8,Z7,h10,heg,Bool.not_false,Bool.not_true,List.getElem_set_self,List.set_set,List.length_set]));(try simp +contextual (disch:=omega) only[Z2,Z9,Z8,Z7,h10,heg,Bool.not_false,Bool.not_true,List.getElem_set_self,List.set_set,List.length_set]);(with_reducible repeat' (first|intro h|refine And.intro (by omega) ?_ | refine exP (by omega) ?_ | apply And.intro)));(repeat' (have h:=Z0 h;simp only[Z1,ZY,Z3,ZZ,and_true,true_and] at h;((try refine qI ?_);(repeat ((first|with_reducible refine qU ?_ | simp only[Z5]);try simp (maxSteps:=9^7) only[↓ S2,S2,ZT,↓reduceIte,reduceNe,reduceEqDiff,reduceCtorEq,reduceLeDiff,reduceAdd,reduceLT,Z9,Z8,Z7,h10,heg,Bool.not_false,Bool.not_true,List.getElem_set_self,List.set_set,List.length_set,h]));(try simp +contextual (disch:=omega) only[Z2,Z9,Z8,Z7,h10,heg,Bool.not_false,Bool.not_true,List.getElem_set_self,List.set_set,List.length_set,h]);(with_reducible repeat' (first|intro h|refine And.intro (by omega) ?_ | refine exP (by omega) ?_ | apply And.intro))))))
      all_goals try exact oF
      exact nxF ⟨(D++[{ L[j] with eqs:=qs,cons:=cs }],j+1),by dsimp only;omega,by simp;omega,fun y hy=>(List.mem_append.1 hy).elim (hD y) fun h=>by
       rw[List.mem_singleton] at h;subst h;exact ⟨shRu_of hr hqs.1 hqs.2 hcs.1 hcs.2,hrn⟩⟩ (by dsimp only;omega) (FE.ruP (r:=L[j]) (by simp[*]) (by simp[*]) (by simp[*]) (by omega) hev rfl rfl) (by simp[E2]) (by rw[hest])
     ·(((try refine qI ?_);(repeat ((first|with_reducible refine qU ?_ | simp only[Z5]);try simp (maxSteps:=9^7) only[↓ S2,S2,ZT,↓reduceIte,reduceNe,reduceEqDiff,reduceCtorEq,reduceLeDiff,reduceAdd,reduceLT,Z9,Z8,Z7,h9,heg,Bool.not_false,Bool.not_true,List.getElem_set_self,List.set_set,List.length_set]));(try simp +contextual (disch:=omega) only[Z2,Z9,Z8,Z7,h9,heg,Bool.not_false,Bool.not_true,List.getElem_set_self,List.set_set,List.length_set]);(with_reducible repeat' (first|intro h|refine And.intro (by omega) ?_ | refine exP (by omega) ?_ | apply And.intro)));(repeat' (have h:=Z0 h;simp only[Z1,ZY,Z3,ZZ,and_true,true_and] at h;((try refine qI ?_);(repeat ((first|with_reducible refine qU ?_ | simp only[Z5]);try simp (maxSteps:=9^7) only[↓ S2,S2,ZT,↓reduceIte,reduceNe,reduceEqDiff,reduceCtorEq,reduceLeDiff,reduceAdd,reduceLT,Z9,Z8,Z7,h9,heg,Bool.not_false,Bool.not_true,List.getElem_set_self,List.set_set,List.length_set,h]));(try simp +contextual (disch:=omega) only[Z2,Z9,Z8,Z7,h9,heg,Bool.not_false,Bool.not_true,List.getElem_set_self,List.set_set,List.length_set,h]);(with_reducible repeat' (first|intro h|refine And.intro (by omega) ?_ | refine exP (by omega) ?_ | apply And.intro))))))
      all_goals try exact oF
      exact nxF ⟨(D++[{ L[j] with eqs:=qs,cons:=[] }],j+1),by dsimp only;omega,by simp;omega,fun y hy=>(List.mem_append.1 hy).elim (hD y) fun h=>by
       rw[List.mem_singleton] at h;subst h;exact ⟨shRu_of hr hqs.1 hqs.2 (by simp) (by simp),hrn⟩⟩ (by dsimp only;omega) (FE.ruQ (r:=L[j]) (by simp[*]) (by omega) hev rfl) (by simp[E2]) (by rw[hest])
    ·(((try refine qI ?_);(repeat ((first|with_reducible refine qU ?_ | simp only[Z5]);try simp (maxSteps:=9^7) only[↓ S2,S2,ZT,↓reduceIte,reduceNe,reduceEqDiff,reduceCtorEq,reduceLeDiff,reduceAdd,reduceLT,Z9,Z8,Z7,h5]));(try simp +contextual (disch:=omega) only[Z2,Z9,Z8,Z7,h5]);(with_reducible repeat' (first|intro h|refine And.intro (by omega) ?_ | refine exP (by omega) ?_ | apply And.intro)));(repeat' (have h:=Z0 h;simp only[Z1,ZY,Z3,ZZ,and_true,true_and] at h;((try refine qI ?_);(repeat ((first|with_reducible refine qU ?_ | simp only[Z5]);try simp (maxSteps:=9^7) only[↓ S2,S2,ZT,↓reduceIte,reduceNe,reduceEqDiff,reduceCtorEq,reduceLeDiff,reduceAdd,reduceLT,Z9,Z8,Z7,h5,h]));(try simp +contextual (disch:=omega) only[Z2,Z9,Z8,Z7,h5,h]);(with_reducible repeat' (first|intro h|refine And.intro (by omega) ?_ | refine exP (by omega) ?_ | apply And.intro))))))
     all_goals try exact oF
     have hDn:D.length=8:=by omega
     exact ⟨_,[_,_,_],[(q2,6,_)],⟨⟨l,D⟩,⟨drG_of (by omega) (by omega) hd (by omega) (by omega) (fun r h=>(hD r h).1),fun r h=>(hD r h).2⟩,rfl⟩,bor_rul hDn,rfl,(by repeat' (first|exact trivial|(refine And.intro (by simp only[Z9, *,if_true,if_false];try rfl) (And.intro (by simp[ZR,ZP, *]) ?_))))⟩
   ·refine Zd mxd (ι:={ x:List Rul×Nat // x.2≤L.length∧x.1.length=x.2∧∀r∈x.1,(shRu r∧r.right.length≤3)∧ZA r.name=true }) (fun x=>[(0,.ptr rc 3 0 0),(1,B plain),(4,.raw 2),(5,.ptr rg 2 0 0),(15,I x.1.2)]) (fun x=>(q2,6,x.1.1.map Ru++(L.drop x.1.2).map Ru0)::(rg,2,[.agg [SyS l,.own q2 6 0 L.length]])::(rc,3,[.cur])::H) (fun x=>L.length-x.1.2) ⟨([],0),by simp⟩ FE.refl (by simp[E2]) (by simp) ?_
    rintro ⟨⟨D,j⟩,hj,hD1,hD⟩ hn5
    dsimp only at hj hD1 hD hn5 ⊢
    have h5:=Z0 hn5
    (replace h5:=h5;simp only[VN] at h5)
    refine ZD mxd ?_
    rcases nL j L.length with hlt2|hge2
    ·have hjl:j<L.length:=by omega
     obtain ⟨es,hes,hel,heg,hev,hest⟩:=rul_mid (D:=D) hD1 hjl
     rw[hes]
     clear hes
     have hrn:=(hL _ (gM hjl)).2
     have hr:=(hL _ (gM hjl)).1
     (((try refine qI ?_);(repeat ((first|with_reducible refine qU ?_ | simp only[Z5]);try simp (maxSteps:=9^7) only[↓ S2,S2,ZT,↓reduceIte,reduceNe,reduceEqDiff,reduceCtorEq,reduceLeDiff,reduceAdd,reduceLT,Z9,Z8,Z7,h5,heg]));(try simp +contextual (disch:=omega) only[Z2,Z9,Z8,Z7,h5,heg]);(with_reducible repeat' (first|intro h|refine And.intro (by omega) ?_ | refine exP (by omega) ?_ | apply And.intro)));(repeat' (have h:=Z0 h;simp only[Z1,ZY,Z3,ZZ,and_true,true_and] at h;((try refine qI ?_);(repeat ((first|with_reducible refine qU ?_ | simp only[Z5]);try simp (maxSteps:=9^7) only[↓ S2,S2,ZT,↓reduceIte,reduceNe,reduceEqDiff,reduceCtorEq,reduceLeDiff,reduceAdd,reduceLT,Z9,Z8,Z7,h5,heg,h]));(try simp +contextual (disch:=omega) only[Z2,Z9,Z8,Z7,h5,heg,h]);(with_reducible repeat' (first|intro h|refine And.intro (by omega) ?_ | refine exP (by omega) ?_ | apply And.intro))))))
     all_goals try exact oF
     refine callA.dc (hru _ { L[j] with eqs:=[],cons:=[] } (shR0_sm hr) hr.2.2.1 (!plain)) (by simp only[Z9,h5,if_true,if_false]) ?_
     rintro _ _ ⟨qs,q9,hqs,rfl,rfl⟩ hn9
     have h9:=Z0 hn9
     simp only[List.cons_append,List.nil_append] at h9
     (replace h9:=h9;simp only[VN] at h9)
     cases plain
     ·(((try refine qI ?_);(repeat ((first|with_reducible refine qU ?_ | simp only[Z5]);try simp (maxSteps:=9^7) only[↓ S2,S2,ZT,↓reduceIte,reduceNe,reduceEqDiff,reduceCtorEq,reduceLeDiff,reduceAdd,reduceLT,Z9,Z8,Z7,h9,heg,Bool.not_false,Bool.not_true,List.getElem_set_self,List.set_set,List.length_set]));(try simp +contextual (disch:=omega) only[Z2,Z9,Z8,Z7,h9,heg,Bool.not_false,Bool.not_true,List.getElem_set_self,List.set_set,List.length_set]);(with_reducible repeat' (first|intro h|refine And.intro (by omega) ?_ | refine exP (by omega) ?_ | apply And.intro)));(repeat' (have h:=Z0 h;simp only[Z1,ZY,Z3,ZZ,and_true,true_and] at h;((try refine qI ?_);(repeat ((first|with_reducible refine qU ?_ | simp only[Z5]);try simp (maxSteps:=9^7) only[↓ S2,S2,ZT,↓reduceIte,reduceNe,reduceEqDiff,reduceCtorEq,reduceLeDiff,reduceAdd,reduceLT,Z9,Z8,Z7,h9,heg,Bool.not_false,Bool.not_true,List.getElem_set_self,List.set_set,List.length_set,h]));(try simp +contextual (disch:=omega) only[Z2,Z9,Z8,Z7,h9,heg,Bool.not_false,Bool.not_true,List.getElem_set_self,List.set_set,List.length_set,h]);(with_reducible repeat' (first|intro h|refine And.intro (by omega) ?_ | refine exP (by omega) ?_ | apply And.intro))))))
      all_goals try exact oF
      refine callA.dc (hpu _ (.own q9 9 0 qs.length) { L[j] with eqs:=[],cons:=[] } (shR0_sm hr) hr.2.2.1 rfl) (by simp only[Z9,h9,if_true,if_false]) ?_
      rintro _ _ ⟨cs,q10,hcs,rfl,rfl⟩ hn10
      have h10:=Z0 hn10
      simp only[List.cons_append,List.nil_append] at h10
      (replace h10:=h10;simp only[VN] at h10)
      (((try refine qI ?_);(repeat ((first|with_reducible refine qU ?_ | simp only[Z5]);try simp (maxSteps:=9^7) only[↓ S2,S2,ZT,↓reduceIte,reduceNe,reduceEqDiff,reduceCtorEq,reduceLeDiff,reduceAdd,reduceLT,Z9,Z8,Z7,h10,heg,Bool.not_false,Bool.not_true,List.getElem_set_self,List.set_set,List.length_set]));(try simp +contextual (disch:=omega) only[Z2,Z9,Z8,Z7,h10,heg,Bool.not_false,Bool.not_true,List.getElem_set_self,List.set_set,List.length_set]);(with_reducible repeat' (first|intro h|refine And.intro (by omega) ?_ | refine exP (by omega) ?_ | apply And.intro)));(repeat' (have h:=Z0 h;simp only[Z1,ZY,Z3,ZZ,and_true,true_and] at h;((try refine qI ?_);(repeat ((first|with_reducible refine qU ?_ | simp only[Z5]);try simp (maxSteps:=9^7) only[↓ S2,S2,ZT,↓reduceIte,reduceNe,reduceEqDiff,reduceCtorEq,reduceLeDiff,reduceAdd,reduceLT,Z9,Z8,Z7,h10,heg,Bool.not_false,Bool.not_true,List.getElem_set_self,List.set_set,List.length_set,h]));(try simp +contextual (disch:=omega) only[Z2,Z9,Z8,Z7,h10,heg,Bool.not_false,Bool.not_true,List.getElem_set_self,List.set_set,List.length_set,h]);(with_reducible repeat' (first|intro h|refine And.intro (by omega) ?_ | refine exP (by omega) ?_ | apply And.intro))))))
      all_goals try exact oF
      exact nxF ⟨(D++[{ L[j] with eqs:=qs,cons:=cs }],j+1),by dsimp only;omega,by simp;omega,fun y hy=>(List.mem_append.1 hy).elim (hD y) fun h=>by
       rw[List.mem_singleton] at h;subst h;exact ⟨shRu_of hr hqs.1 hqs.2 hcs.1 hcs.2,hrn⟩⟩ (by dsimp only;omega) (FE.ruP (r:=L[j]) (by simp[*]) (by simp[*]) (by simp[*]) (by omega) hev rfl rfl) (by simp[E2]) (by rw[hest])
     ·(((try refine qI ?_);(repeat ((first|with_reducible refine qU ?_ | simp only[Z5]);try simp (maxSteps:=9^7) only[↓ S2,S2,ZT,↓reduceIte,reduceNe,reduceEqDiff,reduceCtorEq,reduceLeDiff,reduceAdd,reduceLT,Z9,Z8,Z7,h9,heg,Bool.not_false,Bool.not_true,List.getElem_set_self,List.set_set,List.length_set]));(try simp +contextual (disch:=omega) only[Z2,Z9,Z8,Z7,h9,heg,Bool.not_false,Bool.not_true,List.getElem_set_self,List.set_set,List.length_set]);(with_reducible repeat' (first|intro h|refine And.intro (by omega) ?_ | refine exP (by omega) ?_ | apply And.intro)));(repeat' (have h:=Z0 h;simp only[Z1,ZY,Z3,ZZ,and_true,true_and] at h;((try refine qI ?_);(repeat ((first|with_reducible refine qU ?_ | simp only[Z5]);try simp (maxSteps:=9^7) only[↓ S2,S2,ZT,↓reduceIte,reduceNe,reduceEqDiff,reduceCtorEq,reduceLeDiff,reduceAdd,reduceLT,Z9,Z8,Z7,h9,heg,Bool.not_false,Bool.not_true,List.getElem_set_self,List.set_set,List.length_set,h]));(try simp +contextual (disch:=omega) only[Z2,Z9,Z8,Z7,h9,heg,Bool.not_false,Bool.not_true,List.getElem_set_self,List.set_set,List.length_set,h]);(with_reducible repeat' (first|intro h|refine And.intro (by omega) ?_ | refine exP (by omega) ?_ | apply And.intro))))))
      all_goals try exact oF
      exact nxF ⟨(D++[{ L[j] with eqs:=qs,cons:=[] }],j+1),by dsimp only;omega,by simp;omega,fun y hy=>(List.mem_append.1 hy).elim (hD y) fun h=>by
       rw[List.mem_singleton] at h;subst h;exact ⟨shRu_of hr hqs.1 hqs.2 (by simp) (by simp),hrn⟩⟩ (by dsimp only;omega) (FE.ruQ (r:=L[j]) (by simp[*]) (by omega) hev rfl) (by simp[E2]) (by rw[hest])
    ·(((try refine qI ?_);(repeat ((first|with_reducible refine qU ?_ | simp only[Z5]);try simp (maxSteps:=9^7) only[↓ S2,S2,ZT,↓reduceIte,reduceNe,reduceEqDiff,reduceCtorEq,reduceLeDiff,reduceAdd,reduceLT,Z9,Z8,Z7,h5]));(try simp +contextual (disch:=omega) only[Z2,Z9,Z8,Z7,h5]);(with_reducible repeat' (first|intro h|refine And.intro (by omega) ?_ | refine exP (by omega) ?_ | apply And.intro)));(repeat' (have h:=Z0 h;simp only[Z1,ZY,Z3,ZZ,and_true,true_and] at h;((try refine qI ?_);(repeat ((first|with_reducible refine qU ?_ | simp only[Z5]);try simp (maxSteps:=9^7) only[↓ S2,S2,ZT,↓reduceIte,reduceNe,reduceEqDiff,reduceCtorEq,reduceLeDiff,reduceAdd,reduceLT,Z9,Z8,Z7,h5,h]));(try simp +contextual (disch:=omega) only[Z2,Z9,Z8,Z7,h5,h]);(with_reducible repeat' (first|intro h|refine And.intro (by omega) ?_ | refine exP (by omega) ?_ | apply And.intro))))))
     all_goals try exact oF
     have hDn:D.length=L.length:=by omega
     exact ⟨_,[_,_,_],[(q2,6,_)],⟨⟨l,D⟩,⟨drG_of (by omega) (by omega) hd (by omega) (by omega) (fun r h=>(hD r h).1),fun r h=>(hD r h).2⟩,rfl⟩,bor_rul hDn,rfl,(by repeat' (first|exact trivial|(refine And.intro (by simp only[Z9, *,if_true,if_false];try rfl) (And.intro (by simp[ZR,ZP, *]) ?_))))⟩
theorem o56 (root:Nod) (Y:GV) (ks:List (List Nod)) (hk3:ks.length≤3) (hkn:∀t∈ks,t.length≤100000∧∀x∈t,drN x) (hr:shT root.rule) (H:GH) :
 Gc 56 [.agg [I root.id,I root.parent,I root.place,I root.lit,T root.rule,Y],.sl 1 (ks.map Tr)] H (fun v H'=>∃H1,(∃(r:Nat) (t:List Nod),(∀x∈t,drN x)∧t.length=1+(ks.map (·.length)).sum ∧ v = .agg [.own r 6 0 t.length]∧H1=[(r,6,t.map NdO)])∧H'=H1++H):=by
 have h0:Gc 56 [.agg [I root.id,I root.parent,I root.place,I root.lit,T root.rule,Y],.sl 1 (ks.map Tr)] H (fun v H'=>∃(r rb ro:Nat) (t:List Nod) (u1 u2:List GV),(∀x∈t,drN x)∧t.length=1+(ks.map (·.length)).sum ∧ v = .agg [.own r 6 0 t.length]∧(¬r=rb∧¬r=ro)∧H'=(r,6,t.map NdO)::(ro,1,u2)::(rb,6,u1)::H):=by
  refine ZN mxd i56 rfl (by simp) ?_;refine X0 ?_
  (refine V0 ?_;with_reducible repeat' intro h)
  rename_i rb _ rk _ rn _ ro
  refine Zd mxd (ι:={ x:((Nat×Nod)×List Nod)×Nat // x.2≤ks.length∧x.1.1.2.kids.length≤x.2∧shT x.1.1.2.rule∧(∀y∈x.1.2,drN y)∧((ks.take x.2).map (·.length)).sum = x.1.2.length }) (fun x=>[(1,.sl 1 (ks.map Tr)),(4,.raw 1),(5,.ptr ro 1 0 0),(6,I x.1.2)]) (fun x=>(x.1.1.1.1,6,(x.1.1.1.2::x.1.1.2).map NdO)::(ro,1,[.own x.1.1.1.1 6 0 (x.1.1.2.length+1)])::(rb,6,[.agg [I root.id,I (-1),I 0,I root.lit,T root.rule,.own rk 1 0 0]])::H) (fun x=>ks.length-x.1.2) ⟨(((rn,{ root with parent:= -1,place:=0,kids:=[] }),[]),0),by simp[hr]⟩ (FE.trans (FE.perm (H:=[_,_,_,_]) (L:=[(rn,_),(rk,_),(ro,_),(rb,_)]) (by repeat' (first|exact trivial|(refine And.intro (by simp only[Z9, *,if_true,if_false];try rfl) (And.intro (by simp[ZR,ZP, *]) ?_))))) (FE.trans (FE.closeL2 (L:=[]) (j:=5) (by simp[*]) rfl rfl) (FE.unagg (r:=ro) (sz:=1) (g:= .own rn 6 0 1) (by simp[ZW, *])))) (by simp[E2]) ?_ ?_
  ·simp[ZI, *]
  rintro ⟨⟨⟨⟨q,rt⟩,rest⟩,k⟩,hk,hkl,hrt,hrest,hsum⟩ hn2
  dsimp only at hk hkl hrt hrest hsum hn2 ⊢
  have h4:=Z0 hn2
  (replace h4:=h4;simp only[VN] at h4)
  rcases nL k ks.length with hlt|hge
  ·refine GW.opn (r:=q) (es:=(rt::rest).map NdO) (sz:=6) (i:=0) (j:=5) (gs:=[I rt.id,I rt.parent,I rt.place,I rt.lit,T rt.rule,.osl 1 (rt.kids.map I)]) ZX rfl rfl fun r1 hn1=> ?_
   simp only[YR,List.map_cons,List.set_cons_zero] at hn1 ⊢
   have h5:=Z0 hn1
   (replace h5:=h5;simp only[VN] at h5)
   refine ZD mxd ?_
   (((try refine qI ?_);(repeat ((first|with_reducible refine qU ?_ | simp only[Z5]);try simp (maxSteps:=9^7) only[↓ S2,S2,ZT,↓reduceIte,reduceNe,reduceEqDiff,reduceCtorEq,reduceLeDiff,reduceAdd,reduceLT,Z9,Z8,Z7,h4,h5,Int.toNat_zero,List.getElem_cons_zero,List.length_cons,List.length_map,List.set_cons_zero,List.length_append,List.length_singleton,not_false_eq_true,ZM]));(try simp +contextual (disch:=omega) only[Z2,Z9,Z8,Z7,h4,h5,Int.toNat_zero,List.getElem_cons_zero,List.length_cons,List.length_map,List.set_cons_zero,List.length_append,List.length_singleton,not_false_eq_true,ZM]);(with_reducible repeat' (first|intro h|refine And.intro (by omega) ?_ | refine exP (by omega) ?_ | apply And.intro)));(repeat' (have h:=Z0 h;simp only[Z1,ZY,Z3,ZZ,and_true,true_and] at h;((try refine qI ?_);(repeat ((first|with_reducible refine qU ?_ | simp only[Z5]);try simp (maxSteps:=9^7) only[↓ S2,S2,ZT,↓reduceIte,reduceNe,reduceEqDiff,reduceCtorEq,reduceLeDiff,reduceAdd,reduceLT,Z9,Z8,Z7,h4,h5,Int.toNat_zero,List.getElem_cons_zero,List.length_cons,List.length_map,List.set_cons_zero,List.length_append,List.length_singleton,not_false_eq_true,ZM,h]));(try simp +contextual (disch:=omega) only[Z2,Z9,Z8,Z7,h4,h5,Int.toNat_zero,List.getElem_cons_zero,List.length_cons,List.length_map,List.set_cons_zero,List.length_append,List.length_singleton,not_false_eq_true,ZM,h]);(with_reducible repeat' (first|intro h|refine And.intro (by omega) ?_ | refine exP (by omega) ?_ | apply And.intro))))))
   all_goals try exact oF
   rename_i rs _ h6 ra _
   have h7:=h
   have htk:=hkn _ (gM hlt)
   have hb:rest.length≤300000:=by
    have e1:=sum_bnd (c:=100000) (ks.take k) fun t ht=>(hkn t (List.mem_of_mem_take ht)).1
    have e2:(ks.take k).length ≤ 3:=by simp;omega
    have:=Nat.mul_le_mul_right 100000 e2
    omega
   refine Zd mxd (ι:={ x:(Nat×List Nod)×Nat // x.2≤ks[k].length ∧ (∀y∈x.1.2,drN y)∧rest.length+x.2=x.1.2.length }) (fun x=>[(1,.sl 1 (ks.map Tr)),(4,.raw 1),(5,.ptr ro 1 0 0),(6,I k),(7,I ((rest.length+1:Nat):Int)),(8,I x.1.2)]) (fun x=>(x.1.1.1,6,({ rt with kids:=rt.kids++[((rest.length+1:Nat):Int)] }::x.1.1.2).map NdO)::(ro,1,[.own x.1.1.1 6 0 (x.1.1.2.length+1)])::(rb,6,[.agg [I root.id,I (-1),I 0,I root.lit,T root.rule,.own rk 1 0 0]])::H) (fun x=>ks[k].length - x.1.2) ⟨((q,rest),0),by simp;exact hrest⟩ (FE.trans (FE.perm (H:=[_,_,_,_,_]) (L:=[(ra,_),(q,_),(ro,_),(rb,_)]) (by repeat' (first|exact trivial|(refine And.intro (by simp only[Z9, *,if_true,if_false];try rfl) (And.intro (by simp[ZR,ZP, *]) ?_))))) (FE.close2 (L:=NdO rt::rest.map NdO) (i:=0) (j:=5) (by simp[*]) (by simp) rfl (by rw[List.length_append,List.length_take,List.length_map,List.length_singleton];omega))) (by simp[E2]) (by rw[tL (by simp)];simp) ?_
   rintro ⟨⟨⟨q2,rs2⟩,i⟩,hi,hrs2,hsum2⟩ hn3
   dsimp only at hi hrs2 hsum2 hn3 ⊢
   have h8:=Z0 hn3
   (replace h8:=h8;simp only[VN] at h8)
   refine ZD mxd ?_
   rcases nL i ks[k].length with hlt2|hge2
   ·have hxr:=htk.2 _ (gM hlt2)
    have hi0:((i:Int)=0)=(i=0):=by simp
    ((refine R1 (jO @Z9 (jO @Z8 (jO @Z7 (jO h8 hi0)))) ?_;with_reducible repeat' first|intro h|apply jO);(repeat' (have h:=Z0 h;simp only[Z1,ZY,Z3,ZZ,and_true,true_and] at h;(refine R1 (jO @Z9 (jO @Z8 (jO @Z7 (jO h8 (jO hi0 h))))) ?_))))
    all_goals try exact oF
    ·rename_i r9 _ h9 rl _
     have h10:=h
     refine Zd mxd (ι:={ x:(Nat×List Int)×Nat // x.2≤ks[k][0].kids.length ∧ x.1.2.length≤x.2 }) (fun x=>[(1,.sl 1 (ks.map Tr)),(4,.raw 1),(5,.ptr ro 1 0 0),(6,I k),(7,I ((rest.length+1:Nat):Int)),(8,I 0),(9,.ptr r9 6 0 0),(10,.own x.1.1.1 1 0 x.1.1.2.length),(11,I x.1.2)]) (fun x=>(x.1.1.1,1,x.1.1.2.map I)::(r9,6,[.agg [I ks[k][0].id,I 0,I ((k:Int)+1),I ks[k][0].lit,T ks[k][0].rule,IS ks[k][0].kids]])::(q2,6,({ rt with kids:=rt.kids++[((rest.length+1:Nat):Int)] }::rs2).map NdO)::(ro,1,[.own q2 6 0 (rs2.length+1)])::(rb,6,[.agg [I root.id,I (-1),I 0,I root.lit,T root.rule,.own rk 1 0 0]])::H) (fun x=>ks[k][0].kids.length - x.1.2) ⟨((rl,[]),0),by simp⟩ FE.refl (by simp[E2]) (by simp) ?_
     rintro ⟨⟨⟨q3,l⟩,j⟩,hj,hlj⟩ hn4
     dsimp only at hj hlj hn4 ⊢
     have h11:=Z0 hn4
     (replace h11:=h11;simp only[VN] at h11)
     have hx3:ks[k][0].kids.length ≤ 3:=(htk.2 _ (gM (by omega))).1
     have hxr3:shT ks[k][0].rule := (htk.2 _ (gM (by omega))).2
     refine ZD mxd ?_
     rcases nL j ks[k][0].kids.length with hlt3|hge3
     ·((refine R1 (jO @Z9 (jO @Z8 (jO @Z7 (jO h11 (jO @List.length_append.{0} (jO @List.length_singleton.{0} (jO @List.length_map.{0,0} (jO @List.length_take.{0} (jO @ZM @not_false_eq_true))))))))) ?_;with_reducible repeat' first|intro h|apply jO);(repeat' (have h:=Z0 h;simp only[Z1,ZY,Z3,ZZ,and_true,true_and] at h;(refine R1 (jO @Z9 (jO @Z8 (jO @Z7 (jO h11 (jO @List.length_append.{0} (jO @List.length_singleton.{0} (jO @List.length_map.{0,0} (jO @List.length_take.{0} (jO @ZM (jO @not_false_eq_true h)))))))))) ?_;with_reducible repeat' intro h))))
      all_goals try exact oF
      rename_i ra3 _ h12 rl3 _
      generalize IntKind.i64.wrap (ks[k][0].kids[j]+((rest.length+1:Nat):Int))=w at *
      rw[tL (by simp)]
      exact nxF ⟨((rl3,l++[w]),j+1),by dsimp only;omega,by simp;omega⟩ (by dsimp only;omega) (FE.perm (H:=[_,_,_,_,_,_]) (L:=[(rl3,_),(r9,_),(q2,_),(ro,_),(rb,_)]) (by repeat' (first|exact trivial|(refine And.intro (by simp only[Z9, *,if_true,if_false];try rfl) (And.intro (by simp[ZR,ZP, *]) ?_))))) (by simp[E2]) (by simp)
     ·((refine R1 (jO @Z9 (jO @Z8 (jO @Z7 (jO h11 (jO @List.length_append.{0} (jO @List.length_singleton.{0} (jO @List.length_map.{0,0} (jO @List.length_take.{0} (jO @ZM @not_false_eq_true))))))))) ?_;with_reducible repeat' intro h);(repeat' (have h:=Z0 h;simp only[Z1,ZY,Z3,ZZ,and_true,true_and] at h;(refine R1 (jO @Z9 (jO @Z8 (jO @Z7 (jO h11 (jO @List.length_append.{0} (jO @List.length_singleton.{0} (jO @List.length_map.{0,0} (jO @List.length_take.{0} (jO @ZM (jO @not_false_eq_true h)))))))))) ?_;with_reducible repeat' intro h))))
      all_goals try exact oF
      rename_i ra3 _ h12 rl3 _
      rw[tL (by simp)]
      exact nxF ⟨((rl3,rs2++[⟨ks[k][0].id,0,((k:Int)+1),ks[k][0].lit,ks[k][0].rule,l⟩]),0+1),by dsimp only;omega,fun y hy=>(List.mem_append.1 hy).elim (hrs2 y) fun h=>by
       rw[List.mem_singleton] at h;subst h;exact ⟨by show l.length≤3;omega,hxr3⟩,by simp;omega⟩ (by dsimp only;omega) (FE.trans (FE.perm (H:=[_,_,_,_,_,_]) (L:=[(rl3,_),(q3,_),(ro,_),(rb,_)]) (by repeat' (first|exact trivial|(refine And.intro (by simp only[Z9, *,if_true,if_false];try rfl) (And.intro (by simp[ZR,ZP, *]) ?_))))) (FE.closeL2 (L:=NdO { rt with kids:=rt.kids++[((rest.length+1:Nat):Int)] }::rs2.map NdO) (j:=5) (by simp[*]) rfl (by simp))) (by simp[E2]) (by simp)
    ·rename_i r9 _ h9 rl _
     have h10:=h
     refine Zd mxd (ι:={ x:(Nat×List Int)×Nat // x.2≤ks[k][i].kids.length ∧ x.1.2.length≤x.2 }) (fun x=>[(1,.sl 1 (ks.map Tr)),(4,.raw 1),(5,.ptr ro 1 0 0),(6,I k),(7,I ((rest.length+1:Nat):Int)),(8,I i),(9,.ptr r9 6 0 0),(10,.own x.1.1.1 1 0 x.1.1.2.length),(11,I x.1.2)]) (fun x=>(x.1.1.1,1,x.1.1.2.map I)::(r9,6,[.agg [I ks[k][i].id,I (IntKind.i64.wrap (ks[k][i].parent + ((rest.length+1:Nat):Int))),I ks[k][i].place,I ks[k][i].lit,T ks[k][i].rule,IS ks[k][i].kids]])::(q2,6,({ rt with kids:=rt.kids++[((rest.length+1:Nat):Int)] }::rs2).map NdO)::(ro,1,[.own q2 6 0 (rs2.length+1)])::(rb,6,[.agg [I root.id,I (-1),I 0,I root.lit,T root.rule,.own rk 1 0 0]])::H) (fun x=>ks[k][i].kids.length - x.1.2) ⟨((rl,[]),0),by simp⟩ FE.refl (by simp[E2]) (by simp) ?_
     rintro ⟨⟨⟨q3,l⟩,j⟩,hj,hlj⟩ hn4
     dsimp only at hj hlj hn4 ⊢
     have h11:=Z0 hn4
     (replace h11:=h11;simp only[VN] at h11)
     have hx3:ks[k][i].kids.length ≤ 3:=(htk.2 _ (gM (by omega))).1
     have hxr3:shT ks[k][i].rule := (htk.2 _ (gM (by omega))).2
     refine ZD mxd ?_
     rcases nL j ks[k][i].kids.length with hlt3|hge3
     ·((refine R1 (jO @Z9 (jO @Z8 (jO @Z7 (jO h11 (jO @List.length_append.{0} (jO @List.length_singleton.{0} (jO @List.length_map.{0,0} (jO @List.length_take.{0} (jO @ZM @not_false_eq_true))))))))) ?_;with_reducible repeat' first|intro h|apply jO);(repeat' (have h:=Z0 h;simp only[Z1,ZY,Z3,ZZ,and_true,true_and] at h;(refine R1 (jO @Z9 (jO @Z8 (jO @Z7 (jO h11 (jO @List.length_append.{0} (jO @List.length_singleton.{0} (jO @List.length_map.{0,0} (jO @List.length_take.{0} (jO @ZM (jO @not_false_eq_true h)))))))))) ?_;with_reducible repeat' intro h))))
      all_goals try exact oF
      rename_i ra3 _ h12 rl3 _
      generalize IntKind.i64.wrap (ks[k][i].kids[j]+((rest.length+1:Nat):Int))=w at *
      rw[tL (by simp)]
      exact nxF ⟨((rl3,l++[w]),j+1),by dsimp only;omega,by simp;omega⟩ (by dsimp only;omega) (FE.perm (H:=[_,_,_,_,_,_]) (L:=[(rl3,_),(r9,_),(q2,_),(ro,_),(rb,_)]) (by repeat' (first|exact trivial|(refine And.intro (by simp only[Z9, *,if_true,if_false];try rfl) (And.intro (by simp[ZR,ZP, *]) ?_))))) (by simp[E2]) (by simp)
     ·((refine R1 (jO @Z9 (jO @Z8 (jO @Z7 (jO h11 (jO @List.length_append.{0} (jO @List.length_singleton.{0} (jO @List.length_map.{0,0} (jO @List.length_take.{0} (jO @ZM @not_false_eq_true))))))))) ?_;with_reducible repeat' intro h);(repeat' (have h:=Z0 h;simp only[Z1,ZY,Z3,ZZ,and_true,true_and] at h;(refine R1 (jO @Z9 (jO @Z8 (jO @Z7 (jO h11 (jO @List.length_append.{0} (jO @List.length_singleton.{0} (jO @List.length_map.{0,0} (jO @List.length_take.{0} (jO @ZM (jO @not_false_eq_true h)))))))))) ?_;with_reducible repeat' intro h))))
      all_goals try exact oF
      rename_i ra3 _ h12 rl3 _
      rw[tL (by simp)]
      exact nxF ⟨((rl3,rs2++[⟨ks[k][i].id,(IntKind.i64.wrap (ks[k][i].parent + ((rest.length+1:Nat):Int))),ks[k][i].place,ks[k][i].lit,ks[k][i].rule,l⟩]),i+1),by dsimp only;omega,fun y hy=>(List.mem_append.1 hy).elim (hrs2 y) fun h=>by
       rw[List.mem_singleton] at h;subst h;exact ⟨by show l.length≤3;omega,hxr3⟩,by simp;omega⟩ (by dsimp only;omega) (FE.trans (FE.perm (H:=[_,_,_,_,_,_]) (L:=[(rl3,_),(q3,_),(ro,_),(rb,_)]) (by repeat' (first|exact trivial|(refine And.intro (by simp only[Z9, *,if_true,if_false];try rfl) (And.intro (by simp[ZR,ZP, *]) ?_))))) (FE.closeL2 (L:=NdO { rt with kids:=rt.kids++[((rest.length+1:Nat):Int)] }::rs2.map NdO) (j:=5) (by simp[*]) rfl (by simp))) (by simp[E2]) (by simp)
   ·obtain rfl:i=ks[k].length := by omega
    ((refine R1 (jO @Z9 (jO @Z8 (jO @Z7 h8))) ?_;with_reducible repeat' intro h);(repeat' (have h:=Z0 h;simp only[Z1,ZY,Z3,ZZ,and_true,true_and] at h;(refine R1 (jO @Z9 (jO @Z8 (jO @Z7 (jO h8 h)))) ?_;with_reducible repeat' first|exact trivial|intro h|refine aO ?_|refine eO ?_|apply jO))))
    all_goals try exact oF
    exact nx ⟨(((q2,{ rt with kids:=rt.kids++[((rest.length+1:Nat):Int)] }),rs2),k+1),by dsimp only;omega,by simp;omega,hrt,hrs2,by dsimp only;rw[sum_take hlt];omega⟩ (by dsimp only;omega) (by simp[E2]) rfl
  ·obtain rfl:k=ks.length:=by omega
   refine ZD mxd ?_
   ((refine R1 (jO @Z9 (jO @Z8 (jO @Z7 h4))) ?_;with_reducible repeat' intro h);(repeat' (have h:=Z0 h;simp only[Z1,ZY,Z3,ZZ,and_true,true_and] at h;(refine R1 (jO @Z9 (jO @Z8 (jO @Z7 (jO h4 h)))) ?_;with_reducible repeat' first|exact trivial|intro h|refine aO ?_|refine eO ?_|apply jO))))
   refine ⟨q,rb,ro,rt::rest,_,_,fun x hx=> ?_,?_,rfl,by simp[*],rfl⟩
   ·rcases List.mem_cons.1 hx with rfl|hx
    ·exact ⟨by omega,hrt⟩
    ·exact hrest x hx
   ·rw[List.length_cons,←hsum,List.take_length];omega
 refine h0.fr ?_
 rintro v H' ⟨r,rb,ro,t,u1,u2,h1,h2,rfl,h3,rfl⟩
 exact ⟨_,_,FR.perm (H:=[_,_,_]) (L:=[(r,6,t.map NdO)]) (by simp[subH,ZW,names]),[(r,6,t.map NdO)],⟨r,t,h1,h2,rfl,rfl⟩,rfl⟩
end Go.Proofs.YtmdfoigdflaliaaGreatDoor
