/- The law returns true whatever the input, and the input reads behind the call as before. No condition. -/
import Derived.Test.YtkmedfejmndmjaaGreatFty23
import Derived.Test.YtkmedfejmndmjaaGreatFty24
set_option maxHeartbeats 40000000
set_option maxRecDepth 20000
set_option linter.unusedSimpArgs false
set_option linter.unusedVariables false
namespace Go.Proofs.YtkmedfejmndmjaaGreat
open Go.Gh
open Nat (reduceEqDiff reduceLeDiff reduceAdd reduceLT)
open Int (reduceNe)
theorem nms_take {n0:Nat} (h:n0<3):∃ns:List ByteArray,GV.sl 1 (List.drop (Int.toNat 0) (List.take ((n0+1:Nat):Int).toNat [T (ByteArray.mk #[115]),T (ByteArray.mk #[116]),T (ByteArray.mk #[117])]))=TS ns∧ns.length=n0+1∧∀s∈ns,s.size=1:=by
 have:n0=0∨n0=1∨n0=2:=by omega
 rcases this with rfl|rfl|rfl
 ·exact ⟨[ByteArray.mk #[115]],rfl,rfl,by decide⟩
 ·exact ⟨[ByteArray.mk #[115],ByteArray.mk #[116]],rfl,rfl,by decide⟩
 ·exact ⟨[ByteArray.mk #[115],ByteArray.mk #[116],ByteArray.mk #[117]],rfl,rfl,by decide⟩
theorem l1PickN (ns:List ByteArray) (h:0<ns.length):Dv Tryz.prog 78 [TS ns] (fun g=>∃s,s∈ns∧g=T s):=
 (w78 (ns.map T) (by simp[noAg,nraw];exact fun _ _ => rfl) (by simpa using h)).mono fun g H1 ⟨h1,h2⟩=>by
  obtain ⟨s,hs,rfl⟩:=List.mem_map.1 h1
  exact ⟨⟨s,hs,rfl⟩,h2⟩
theorem z74 (plain:Bool):Dc Tryz.prog 74 [B plain] (OwG):=by
 refine Dc.of fun rc H=> ?_
 refine ZY mxd i74 rfl (by simp) ?_;simp (maxSteps:=9^7) only[↓ S2,S2,Z5,↓reduceIte,reduceNe,reduceEqDiff,reduceCtorEq,reduceLeDiff,reduceAdd,reduceLT]
 (((try refine qI ?_);(repeat ((first|with_reducible refine qU ?_ | simp only[Z8]);try simp (maxSteps:=9^7) only[↓ S2,S2,Z5,↓reduceIte,reduceNe,reduceEqDiff,reduceCtorEq,reduceLeDiff,reduceAdd,reduceLT,Z9,Z7,Z6]));(try simp +contextual (disch:=omega) only[Z2,Z9,Z7,Z6]);(with_reducible repeat' (first|intro h|refine And.intro (by omega) ?_ | refine exP (by omega) ?_ | apply And.intro)));(repeat' (have h:=ZX h;simp only[ZZ,ZV,Z0,ZW,and_true,true_and] at h;((try refine qI ?_);(repeat ((first|with_reducible refine qU ?_ | simp only[Z8]);try simp (maxSteps:=9^7) only[↓ S2,S2,Z5,↓reduceIte,reduceNe,reduceEqDiff,reduceCtorEq,reduceLeDiff,reduceAdd,reduceLT,Z9,Z7,Z6,h]));(try simp +contextual (disch:=omega) only[Z2,Z9,Z7,Z6,h]);(with_reducible repeat' (first|intro h|refine And.intro (by omega) ?_ | refine exP (by omega) ?_ | apply And.intro))))))
 rename_i rg _
 refine callS.dv (Y8 3 (by omega)) (by simp only[Z9,h,if_true,if_false]) ?_
 rintro _ ⟨n0,hn0,rfl⟩
 have e0:(1:Int)+(n0:Int)=((n0+1:Nat):Int):=by omega
 (((try refine qI ?_);(repeat ((first|with_reducible refine qU ?_ | simp only[Z8]);try simp (maxSteps:=9^7) only[↓ S2,S2,Z5,↓reduceIte,reduceNe,reduceEqDiff,reduceCtorEq,reduceLeDiff,reduceAdd,reduceLT,Z9,Z7,Z6,h,e0]));(try simp +contextual (disch:=omega) only[Z2,Z9,Z7,Z6,h,e0]);(with_reducible repeat' (first|intro h|refine And.intro (by omega) ?_ | refine exP (by omega) ?_ | apply And.intro)));(repeat' (have h:=ZX h;simp only[ZZ,ZV,Z0,ZW,and_true,true_and] at h;((try refine qI ?_);(repeat ((first|with_reducible refine qU ?_ | simp only[Z8]);try simp (maxSteps:=9^7) only[↓ S2,S2,Z5,↓reduceIte,reduceNe,reduceEqDiff,reduceCtorEq,reduceLeDiff,reduceAdd,reduceLT,Z9,Z7,Z6,h,e0,h]));(try simp +contextual (disch:=omega) only[Z2,Z9,Z7,Z6,h,e0,h]);(with_reducible repeat' (first|intro h|refine And.intro (by omega) ?_ | refine exP (by omega) ?_ | apply And.intro))))))
 obtain ⟨ns,h7,hl7,hs7⟩:=nms_take (n0:=n0) (by omega)
 rw[h7]
 clear h7 e0
 have hn3:n0+1≤3:=by omega
 have hn1:1≤n0+1:=by omega
 clear hn0
 generalize n0+1=n at *
 have hsh:∀i (h:i<ns.length),shT ns[i]:=fun i h=>by have:=hs7 _ (gM h);unfold shT;omega
 obtain ⟨v,hv,hvn⟩:=vfresh (names ((rg,2,[.agg [Zy,Zy]])::(rc,3,[.cur])::H))
 refine Yw mxd (ι:={ x:(Nat×List Sym)×Nat // x.2≤n∧x.1.2.length≤x.2∧x.2≤x.1.2.length∧∀s∈x.1.2,drS s }) (fun x=>[(0,.ptr rc 3 0 0),(1,B plain),(4,.raw 2),(5,.ptr rg 2 0 0),(6,I n),(7,TS ns),(8,I x.1.2)]) (fun x=>(x.1.1.1,2,x.1.1.2.map Sy)::(rg,2,[.agg [.own x.1.1.1 2 0 x.1.1.2.length,Zy]])::(rc,3,[.cur])::H) (fun x=>n-x.1.2) ⟨((v,[]),0),by simp⟩ (FE.virtF (sz:=2) (sz1:=2) (i:=0) (j:=0) (es:=[.agg [Zy,Zy]]) (gs:=[Zy,Zy]) Z4 rfl rfl hv hvn) (by simp[E2]) (by simp[ZD]) ?_
 rintro ⟨⟨⟨q,l⟩,i⟩,hi,hl1,hl2,hd⟩ hn2
 dsimp only at hi hl1 hl2 hd hn2 ⊢
 have h4:=ZX hn2
 (replace h4:=h4;simp only[VN] at h4)
 refine Zp mxd ?_
 rcases nL i n with hlt|hge
 ·have hlt':i<ns.length:=by omega
  (((try refine qI ?_);(repeat ((first|with_reducible refine qU ?_ | simp only[Z8]);try simp (maxSteps:=9^7) only[↓ S2,S2,Z5,↓reduceIte,reduceNe,reduceEqDiff,reduceCtorEq,reduceLeDiff,reduceAdd,reduceLT,Z9,Z7,Z6,h4]));(try simp +contextual (disch:=omega) only[Z2,Z9,Z7,Z6,h4]);(with_reducible repeat' (first|intro h|refine And.intro (by omega) ?_ | refine exP (by omega) ?_ | apply And.intro)));(repeat' (have h:=ZX h;simp only[ZZ,ZV,Z0,ZW,and_true,true_and] at h;((try refine qI ?_);(repeat ((first|with_reducible refine qU ?_ | simp only[Z8]);try simp (maxSteps:=9^7) only[↓ S2,S2,Z5,↓reduceIte,reduceNe,reduceEqDiff,reduceCtorEq,reduceLeDiff,reduceAdd,reduceLT,Z9,Z7,Z6,h4,h]));(try simp +contextual (disch:=omega) only[Z2,Z9,Z7,Z6,h4,h]);(with_reducible repeat' (first|intro h|refine And.intro (by omega) ?_ | refine exP (by omega) ?_ | apply And.intro))))))
  all_goals try exact oF
  refine callA.dv (w120 ns[i] (hsh _ _) _ plain) (by simp only[Z9,h4,if_true,if_false]) ?_
  rintro _ ⟨y,hy,rfl⟩
  (((try refine qI ?_);(repeat ((first|with_reducible refine qU ?_ | simp only[Z8]);try simp (maxSteps:=9^7) only[↓ S2,S2,Z5,↓reduceIte,reduceNe,reduceEqDiff,reduceCtorEq,reduceLeDiff,reduceAdd,reduceLT,Z9,Z7,Z6,h4,List.length_append,List.length_singleton,List.length_map,List.length_take,ZO]));(try simp +contextual (disch:=omega) only[Z2,Z9,Z7,Z6,h4,List.length_append,List.length_singleton,List.length_map,List.length_take,ZO]);(with_reducible repeat' (first|intro h|refine And.intro (by omega) ?_ | refine exP (by omega) ?_ | apply And.intro)));(repeat' (have h:=ZX h;simp only[ZZ,ZV,Z0,ZW,and_true,true_and] at h;((try refine qI ?_);(repeat ((first|with_reducible refine qU ?_ | simp only[Z8]);try simp (maxSteps:=9^7) only[↓ S2,S2,Z5,↓reduceIte,reduceNe,reduceEqDiff,reduceCtorEq,reduceLeDiff,reduceAdd,reduceLT,Z9,Z7,Z6,h4,List.length_append,List.length_singleton,List.length_map,List.length_take,ZO,h]));(try simp +contextual (disch:=omega) only[Z2,Z9,Z7,Z6,h4,List.length_append,List.length_singleton,List.length_map,List.length_take,ZO,h]);(with_reducible repeat' (first|intro h|refine And.intro (by omega) ?_ | refine exP (by omega) ?_ | apply And.intro))))))
  all_goals try exact oF
  rename_i r3 _ _ r4 _
  rw[tL (by simp)]
  exact nxF ⟨((r4,l++[y]),i+1),by dsimp only;omega,by simp;omega,by simp;omega,fun y hy=>(List.mem_append.1 hy).elim (hd y) fun h=>by
   rw[List.mem_singleton] at h;subst h;assumption⟩ (by dsimp only;omega) (FE.perm (H:=[_,_,_,_]) (L:=[(r4,_),(rg,_),(rc,_)]) (by repeat' (first|exact trivial|(refine And.intro (by simp only[Z9, *,if_true,if_false];try rfl) (And.intro (by simp[ZT,ZS, *]) ?_))))) (by simp[E2]) (by simp)
 ·have hll:l.length=n:=by omega
  have hls:∀s∈l,shSy s:=fun s hs=>drS_sh (hd s hs)
  have hsm:Zw ⟨l,[]⟩:=⟨by show l.length ≤ _;omega,by simp,fun s hs=>shSy_sm (hls s hs),by simp⟩
  have hru:∀(X:GV) (r:Rul) (h1:Zk r) (h2:r.right.length≤3) (b:Bool),DcR Tryz.prog (q,2,l.map Sy) 122 [.agg [.own q 2 0 n,X],RuX r (.val (.slice none 0 0)) (.val (.slice none 0 0)),B b] (fun v H1=>∃(qs:List Eqn) (q:Nat),(qs.length≤64∧∀x∈qs,shT x.name∧shEx x.expr)∧v=RuX r (.own q 9 0 qs.length) (.val (.slice none 0 0))∧H1=[(q,9,qs.map Qn)]):=fun X r h1 h2 b=>by
   rw[←hll]
   exact z122 q X ⟨l,[]⟩ r hsm hls (show 1≤l.length by omega) h1 h2 b
  have hpu:∀(X Y:GV) (r:Rul) (h1:Zk r) (h2:r.right.length≤3) (h3:clean Y=true),DcR Tryz.prog (q,2,l.map Sy) 123 [.agg [.own q 2 0 n,X],RuX r Y (.val (.slice none 0 0))] (fun v H1=>∃(cs:List Con) (q:Nat),(cs.length≤2∧∀c∈cs,shCo c)∧v=RuX r Y (.own q 16 0 cs.length)∧H1=[(q,16,cs.map Co)]):=fun X Y r h1 h2 h3=>by
   rw[←hll]
   exact z123 q X Y ⟨l,[]⟩ r hsm hls h1 h2 h3
  obtain ⟨v2,hv2,hvn2⟩:=vfresh (names ((rg,2,[.agg [.own q 2 0 n,Zy]])::(rc,3,[.cur])::(q,2,l.map Sy)::H))
  (((try refine qI ?_);(repeat ((first|with_reducible refine qU ?_ | simp only[Z8]);try simp (maxSteps:=9^7) only[↓ S2,S2,Z5,↓reduceIte,reduceNe,reduceEqDiff,reduceCtorEq,reduceLeDiff,reduceAdd,reduceLT,Z9,Z7,Z6,h4]));(try simp +contextual (disch:=omega) only[Z2,Z9,Z7,Z6,h4]);(with_reducible repeat' (first|intro h|refine And.intro (by omega) ?_ | refine exP (by omega) ?_ | apply And.intro)));(repeat' (have h:=ZX h;simp only[ZZ,ZV,Z0,ZW,and_true,true_and] at h;((try refine qI ?_);(repeat ((first|with_reducible refine qU ?_ | simp only[Z8]);try simp (maxSteps:=9^7) only[↓ S2,S2,Z5,↓reduceIte,reduceNe,reduceEqDiff,reduceCtorEq,reduceLeDiff,reduceAdd,reduceLT,Z9,Z7,Z6,h4,h]));(try simp +contextual (disch:=omega) only[Z2,Z9,Z7,Z6,h4,h]);(with_reducible repeat' (first|intro h|refine And.intro (by omega) ?_ | refine exP (by omega) ?_ | apply And.intro))))))
  all_goals try exact oF
  refine Yw mxd (ι:={ x:(Nat×List Rul)×Nat // x.2≤n∧x.1.2.length≤3 * x.2∧x.2≤x.1.2.length∧∀r∈x.1.2,shR0 r }) (fun x=>[(0,.ptr rc 3 0 0),(1,B plain),(4,.raw 2),(5,.ptr rg 2 0 0),(6,I n),(7,TS ns),(9,I x.1.2)]) (fun x=>(x.1.1.1,6,x.1.1.2.map Ru0)::(rg,2,[.agg [.own q 2 0 n,.own x.1.1.1 6 0 x.1.1.2.length]])::(rc,3,[.cur])::(q,2,l.map Sy)::H) (fun x=>n-x.1.2) ⟨((v2,[]),0),by simp⟩ (FE.trans (FE.perm (H:=[_,_,_]) (L:=[(rg,_),(rc,_),(q,_)]) (by repeat' (first|exact trivial|(refine And.intro (by simp only[Z9, *,if_true,if_false];try rfl) (And.intro (by simp[ZT,ZS, *]) ?_))))) (FE.virtF (sz:=2) (sz1:=6) (i:=0) (j:=1) (es:=[.agg [.own q 2 0 l.length,Zy]]) (gs:=[.own q 2 0 l.length,Zy]) Z4 rfl rfl hv2 hvn2)) (by simp[E2]) (by simp[ZD,hll]) ?_
  clear h h4 hn2 hvn2 hv2 hv hvn
  rintro ⟨⟨⟨q2,L⟩,i⟩,hi,hL1,hL2,hL⟩ hn2
  dsimp only at hi hL1 hL2 hL hn2 ⊢
  have h4:=ZX hn2
  (replace h4:=h4;simp only[VN] at h4)
  refine Zp mxd ?_
  rcases nL i n with hlt|hge
  ·have hlt':i<ns.length:=by omega
   have hc:(ZP ns[i]).length = 1:=by rw[YI];exact hs7 _ (gM _)
   have hsi:=hsh i hlt'
   obtain ⟨nm,hnm,hnms⟩:=mkS_size (ZP (ByteArray.mk #[108,101,97,102])++ZP ns[i])
   have hnmt:shT nm:=by unfold shT;rw[hnms,List.length_append,hc];exact Nat.le_of_ble_eq_true rfl
   (((try refine qI ?_);(repeat ((first|with_reducible refine qU ?_ | simp only[Z8]);try simp (maxSteps:=9^7) only[↓ S2,S2,Z5,↓reduceIte,reduceNe,reduceEqDiff,reduceCtorEq,reduceLeDiff,reduceAdd,reduceLT,Z9,Z7,Z6,h4]));(try simp +contextual (disch:=omega) only[Z2,Z9,Z7,Z6,h4]);(with_reducible repeat' (first|intro h|refine And.intro (by omega) ?_ | refine exP (by omega) ?_ | apply And.intro)));(repeat' (have h:=ZX h;simp only[ZZ,ZV,Z0,ZW,and_true,true_and] at h;((try refine qI ?_);(repeat ((first|with_reducible refine qU ?_ | simp only[Z8]);try simp (maxSteps:=9^7) only[↓ S2,S2,Z5,↓reduceIte,reduceNe,reduceEqDiff,reduceCtorEq,reduceLeDiff,reduceAdd,reduceLT,Z9,Z7,Z6,h4,h]));(try simp +contextual (disch:=omega) only[Z2,Z9,Z7,Z6,h4,h]);(with_reducible repeat' (first|intro h|refine And.intro (by omega) ?_ | refine exP (by omega) ?_ | apply And.intro))))))
   all_goals try exact oF
   ·rw[hc];exact Nat.le_of_ble_eq_true rfl
   rw[hnm]
   refine callA.dv (w36 3) (by simp only[Z9,h4,if_true,if_false]) ?_
   rintro _ ⟨b,rfl⟩
   (((try refine qI ?_);(repeat ((first|with_reducible refine qU ?_ | simp only[Z8]);try simp (maxSteps:=9^7) only[↓ S2,S2,Z5,↓reduceIte,reduceNe,reduceEqDiff,reduceCtorEq,reduceLeDiff,reduceAdd,reduceLT,Z9,Z7,Z6,h4,List.length_append,List.length_singleton,List.length_map,List.length_take,ZO]));(try simp +contextual (disch:=omega) only[Z2,Z9,Z7,Z6,h4,List.length_append,List.length_singleton,List.length_map,List.length_take,ZO]);(with_reducible repeat' (first|intro h|refine And.intro (by omega) ?_ | refine exP (by omega) ?_ | apply And.intro)));(repeat' (have h:=ZX h;simp only[ZZ,ZV,Z0,ZW,and_true,true_and] at h;((try refine qI ?_);(repeat ((first|with_reducible refine qU ?_ | simp only[Z8]);try simp (maxSteps:=9^7) only[↓ S2,S2,Z5,↓reduceIte,reduceNe,reduceEqDiff,reduceCtorEq,reduceLeDiff,reduceAdd,reduceLT,Z9,Z7,Z6,h4,List.length_append,List.length_singleton,List.length_map,List.length_take,ZO,h]));(try simp +contextual (disch:=omega) only[Z2,Z9,Z7,Z6,h4,List.length_append,List.length_singleton,List.length_map,List.length_take,ZO,h]);(with_reducible repeat' (first|intro h|refine And.intro (by omega) ?_ | refine exP (by omega) ?_ | apply And.intro))))))
   all_goals try exact oF
   rename_i r3 _ _ r4 _
   refine callS.dv (Y8 2 (by omega)) (by simp only[Z9,h4,h,if_true,if_false]) ?_
   rintro _ ⟨m0,hm0,rfl⟩
   have e0:(1:Int)+(m0:Int)=((m0+1:Nat):Int):=by omega
   (((try refine qI ?_);(repeat ((first|with_reducible refine qU ?_ | simp only[Z8]);try simp (maxSteps:=9^7) only[↓ S2,S2,Z5,↓reduceIte,reduceNe,reduceEqDiff,reduceCtorEq,reduceLeDiff,reduceAdd,reduceLT,Z9,Z7,Z6,h4,h,e0]));(try simp +contextual (disch:=omega) only[Z2,Z9,Z7,Z6,h4,h,e0]);(with_reducible repeat' (first|intro h|refine And.intro (by omega) ?_ | refine exP (by omega) ?_ | apply And.intro)));(repeat' (have h:=ZX h;simp only[ZZ,ZV,Z0,ZW,and_true,true_and] at h;((try refine qI ?_);(repeat ((first|with_reducible refine qU ?_ | simp only[Z8]);try simp (maxSteps:=9^7) only[↓ S2,S2,Z5,↓reduceIte,reduceNe,reduceEqDiff,reduceCtorEq,reduceLeDiff,reduceAdd,reduceLT,Z9,Z7,Z6,h4,h,e0,h]));(try simp +contextual (disch:=omega) only[Z2,Z9,Z7,Z6,h4,h,e0,h]);(with_reducible repeat' (first|intro h|refine And.intro (by omega) ?_ | refine exP (by omega) ?_ | apply And.intro))))))
   rw[tL (by simp)]
   refine Yw mxd (ι:={ x:(Nat×List Rul)×Nat // x.2≤m0+1∧x.1.2.length≤L.length+1+x.2∧L.length+1≤x.1.2.length∧∀r∈x.1.2,shR0 r }) (fun x=>[(0,.ptr rc 3 0 0),(1,B plain),(4,.raw 2),(5,.ptr rg 2 0 0),(6,I n),(7,TS ns),(9,I i),(10,I ((m0+1:Nat):Int)),(11,I x.1.2)]) (fun x=>(x.1.1.1,6,x.1.1.2.map Ru0)::(rg,2,[.agg [.own q 2 0 n,.own x.1.1.1 6 0 x.1.1.2.length]])::(rc,3,[.cur])::(q,2,l.map Sy)::H) (fun x=>m0+1-x.1.2) ⟨((r4,L++[⟨nm,ns[i],[],!b,[],[]⟩]),0),by dsimp only;omega,by simp,by simp,fun y hy=>(List.mem_append.1 hy).elim (hL y) fun h=>by
    rw[List.mem_singleton] at h;subst h;exact ⟨hnmt,hsi,by simp,by simp⟩⟩ (FE.trans (FE.perm (H:=[_,_,_,_]) (L:=[(r4,_),(rg,_),(rc,_)]) (by repeat' (first|exact trivial|(refine And.intro (by simp only[Z9, *,if_true,if_false];try rfl) (And.intro (by simp[ZT,ZS, *]) ?_))))) FE.leaf) (by simp[E2]) (by simp) ?_
   rintro ⟨⟨⟨q4,L2⟩,k⟩,hk,hM1,hM2,hM⟩ hn5
   dsimp only at hk hM1 hM2 hM hn5 ⊢
   have h5:=ZX hn5
   (replace h5:=h5;simp only[VN] at h5)
   refine Zp mxd ?_
   rcases nL k (m0+1) with hlt2|hge2
   ·have hk2:k<2:=by omega
    obtain ⟨n5,e5,l5⟩:=mkS_size (ZP (ByteArray.mk #[112])++ZP ns[i])
    have l5':(ZP n5).length = 2:=by rw[YI,l5,List.length_append,hc];rfl
    obtain ⟨n6,e6,l6⟩:=mkS_size (ZP n5++ZP (ByteArray.mk #[UInt8.ofNat (48+k)]))
    have hn6:shT n6:=by unfold shT;rw[l6,List.length_append,l5'];show 2+1≤16;omega
    (((try refine qI ?_);(repeat ((first|with_reducible refine qU ?_ | simp only[Z8]);try simp (maxSteps:=9^7) only[↓ S2,S2,Z5,↓reduceIte,reduceNe,reduceEqDiff,reduceCtorEq,reduceLeDiff,reduceAdd,reduceLT,Z9,Z7,Z6,h5]));(try simp +contextual (disch:=omega) only[Z2,Z9,Z7,Z6,h5]);(with_reducible repeat' (first|intro h|refine And.intro (by omega) ?_ | refine exP (by omega) ?_ | apply And.intro)));(repeat' (have h:=ZX h;simp only[ZZ,ZV,Z0,ZW,and_true,true_and] at h;((try refine qI ?_);(repeat ((first|with_reducible refine qU ?_ | simp only[Z8]);try simp (maxSteps:=9^7) only[↓ S2,S2,Z5,↓reduceIte,reduceNe,reduceEqDiff,reduceCtorEq,reduceLeDiff,reduceAdd,reduceLT,Z9,Z7,Z6,h5,h]));(try simp +contextual (disch:=omega) only[Z2,Z9,Z7,Z6,h5,h]);(with_reducible repeat' (first|intro h|refine And.intro (by omega) ?_ | refine exP (by omega) ?_ | apply And.intro))))))
    all_goals try exact oF
    ·rw[hc];exact Nat.le_of_ble_eq_true rfl
    rw[e5]
    refine callS.eq (v121 k hk2) ?_
    (((try refine qI ?_);(repeat ((first|with_reducible refine qU ?_ | simp only[Z8]);try simp (maxSteps:=9^7) only[↓ S2,S2,Z5,↓reduceIte,reduceNe,reduceEqDiff,reduceCtorEq,reduceLeDiff,reduceAdd,reduceLT,Z9,Z7,Z6,h5]));(try simp +contextual (disch:=omega) only[Z2,Z9,Z7,Z6,h5]);(with_reducible repeat' (first|intro h|refine And.intro (by omega) ?_ | refine exP (by omega) ?_ | apply And.intro)));(repeat' (have h:=ZX h;simp only[ZZ,ZV,Z0,ZW,and_true,true_and] at h;((try refine qI ?_);(repeat ((first|with_reducible refine qU ?_ | simp only[Z8]);try simp (maxSteps:=9^7) only[↓ S2,S2,Z5,↓reduceIte,reduceNe,reduceEqDiff,reduceCtorEq,reduceLeDiff,reduceAdd,reduceLT,Z9,Z7,Z6,h5,h]));(try simp +contextual (disch:=omega) only[Z2,Z9,Z7,Z6,h5,h]);(with_reducible repeat' (first|intro h|refine And.intro (by omega) ?_ | refine exP (by omega) ?_ | apply And.intro))))))
    all_goals try exact oF
    ·rw[l5'];show 2+1 ≤ _;omega
    rw[e6]
    refine callA.dv (w36 4) (by simp only[Z9,h5,if_true,if_false]) ?_
    rintro _ ⟨b2,rfl⟩
    (((try refine qI ?_);(repeat ((first|with_reducible refine qU ?_ | simp only[Z8]);try simp (maxSteps:=9^7) only[↓ S2,S2,Z5,↓reduceIte,reduceNe,reduceEqDiff,reduceCtorEq,reduceLeDiff,reduceAdd,reduceLT,Z9,Z7,Z6,h5]));(try simp +contextual (disch:=omega) only[Z2,Z9,Z7,Z6,h5]);(with_reducible repeat' (first|intro h|refine And.intro (by omega) ?_ | refine exP (by omega) ?_ | apply And.intro)));(repeat' (have h:=ZX h;simp only[ZZ,ZV,Z0,ZW,and_true,true_and] at h;((try refine qI ?_);(repeat ((first|with_reducible refine qU ?_ | simp only[Z8]);try simp (maxSteps:=9^7) only[↓ S2,S2,Z5,↓reduceIte,reduceNe,reduceEqDiff,reduceCtorEq,reduceLeDiff,reduceAdd,reduceLT,Z9,Z7,Z6,h5,h]));(try simp +contextual (disch:=omega) only[Z2,Z9,Z7,Z6,h5,h]);(with_reducible repeat' (first|intro h|refine And.intro (by omega) ?_ | refine exP (by omega) ?_ | apply And.intro))))))
    rename_i r12 _
    have h6:=h
    refine callS.dv (Y8 3 (by omega)) (by simp only[Z9,h5,h6,if_true,if_false]) ?_
    rintro _ ⟨d0,hd0,rfl⟩
    have e1:(1:Int)+(d0:Int)=((d0+1:Nat):Int):=by omega
    obtain ⟨v3,hv3,hvn3⟩:=vfresh (names ((r12,6,[.agg [T n6,T ns[i],Zy,B b2,Zy,Zy]])::(q4,6,L2.map Ru0)::(rg,2,[.agg [.own q 2 0 n,.own q4 6 0 L2.length]])::(rc,3,[.cur])::(q,2,l.map Sy)::H))
    (((try refine qI ?_);(repeat ((first|with_reducible refine qU ?_ | simp only[Z8]);try simp (maxSteps:=9^7) only[↓ S2,S2,Z5,↓reduceIte,reduceNe,reduceEqDiff,reduceCtorEq,reduceLeDiff,reduceAdd,reduceLT,Z9,Z7,Z6,h5,h6,e1]));(try simp +contextual (disch:=omega) only[Z2,Z9,Z7,Z6,h5,h6,e1]);(with_reducible repeat' (first|intro h|refine And.intro (by omega) ?_ | refine exP (by omega) ?_ | apply And.intro)));(repeat' (have h:=ZX h;simp only[ZZ,ZV,Z0,ZW,and_true,true_and] at h;((try refine qI ?_);(repeat ((first|with_reducible refine qU ?_ | simp only[Z8]);try simp (maxSteps:=9^7) only[↓ S2,S2,Z5,↓reduceIte,reduceNe,reduceEqDiff,reduceCtorEq,reduceLeDiff,reduceAdd,reduceLT,Z9,Z7,Z6,h5,h6,e1,h]));(try simp +contextual (disch:=omega) only[Z2,Z9,Z7,Z6,h5,h6,e1,h]);(with_reducible repeat' (first|intro h|refine And.intro (by omega) ?_ | refine exP (by omega) ?_ | apply And.intro))))))
    refine Yw mxd (ι:={ x:(Nat×List ByteArray)×Nat // x.2≤d0+1∧x.1.2.length≤x.2∧∀s∈x.1.2,shT s }) (fun x=>[(0,.ptr rc 3 0 0),(1,B plain),(4,.raw 2),(5,.ptr rg 2 0 0),(6,I n),(7,TS ns),(9,I i),(10,I ((m0+1:Nat):Int)),(11,I k),(12,.ptr r12 6 0 0),(13,I ((d0+1:Nat):Int)),(14,I x.1.2)]) (fun x=>(x.1.1.1,1,x.1.1.2.map T)::(r12,6,[.agg [T n6,T ns[i],.own x.1.1.1 1 0 x.1.1.2.length,B b2,Zy,Zy]])::(q4,6,L2.map Ru0)::(rg,2,[.agg [.own q 2 0 n,.own q4 6 0 L2.length]])::(rc,3,[.cur])::(q,2,l.map Sy)::H) (fun x=>d0+1-x.1.2) ⟨((v3,[]),0),by simp⟩ (FE.virtF (sz:=6) (sz1:=1) (i:=0) (j:=2) (es:=[.agg [T n6,T ns[i],Zy,B b2,Zy,Zy]]) (gs:=[T n6,T ns[i],Zy,B b2,Zy,Zy]) Z4 rfl rfl hv3 hvn3) (by simp[E2]) (by simp[ZD]) ?_
    clear hv3 hvn3
    rintro ⟨⟨⟨q7,rs⟩,j⟩,hj,hrs1,hrs⟩ hn7
    dsimp only at hj hrs1 hrs hn7 ⊢
    have h7:=ZX hn7
    (replace h7:=h7;simp only[VN] at h7)
    refine Zp mxd ?_
    rcases nL j (d0+1) with hlt3|hge3
    ·(((try refine qI ?_);(repeat ((first|with_reducible refine qU ?_ | simp only[Z8]);try simp (maxSteps:=9^7) only[↓ S2,S2,Z5,↓reduceIte,reduceNe,reduceEqDiff,reduceCtorEq,reduceLeDiff,reduceAdd,reduceLT,Z9,Z7,Z6,h7]));(try simp +contextual (disch:=omega) only[Z2,Z9,Z7,Z6,h7]);(with_reducible repeat' (first|intro h|refine And.intro (by omega) ?_ | refine exP (by omega) ?_ | apply And.intro)));(repeat' (have h:=ZX h;simp only[ZZ,ZV,Z0,ZW,and_true,true_and] at h;((try refine qI ?_);(repeat ((first|with_reducible refine qU ?_ | simp only[Z8]);try simp (maxSteps:=9^7) only[↓ S2,S2,Z5,↓reduceIte,reduceNe,reduceEqDiff,reduceCtorEq,reduceLeDiff,reduceAdd,reduceLT,Z9,Z7,Z6,h7,h]));(try simp +contextual (disch:=omega) only[Z2,Z9,Z7,Z6,h7,h]);(with_reducible repeat' (first|intro h|refine And.intro (by omega) ?_ | refine exP (by omega) ?_ | apply And.intro))))))
     all_goals try exact oF
     refine callA.dv (l1PickN ns (by omega)) (by simp only[Z9,h7,if_true,if_false]) ?_
     rintro _ ⟨s,hs,rfl⟩
     have hst:shT s:=by obtain ⟨z,hz,rfl⟩:=List.mem_iff_getElem.1 hs;exact hsh z hz
     (((try refine qI ?_);(repeat ((first|with_reducible refine qU ?_ | simp only[Z8]);try simp (maxSteps:=9^7) only[↓ S2,S2,Z5,↓reduceIte,reduceNe,reduceEqDiff,reduceCtorEq,reduceLeDiff,reduceAdd,reduceLT,Z9,Z7,Z6,h7,List.length_append,List.length_singleton,List.length_map,List.length_take,ZO]));(try simp +contextual (disch:=omega) only[Z2,Z9,Z7,Z6,h7,List.length_append,List.length_singleton,List.length_map,List.length_take,ZO]);(with_reducible repeat' (first|intro h|refine And.intro (by omega) ?_ | refine exP (by omega) ?_ | apply And.intro)));(repeat' (have h:=ZX h;simp only[ZZ,ZV,Z0,ZW,and_true,true_and] at h;((try refine qI ?_);(repeat ((first|with_reducible refine qU ?_ | simp only[Z8]);try simp (maxSteps:=9^7) only[↓ S2,S2,Z5,↓reduceIte,reduceNe,reduceEqDiff,reduceCtorEq,reduceLeDiff,reduceAdd,reduceLT,Z9,Z7,Z6,h7,List.length_append,List.length_singleton,List.length_map,List.length_take,ZO,h]));(try simp +contextual (disch:=omega) only[Z2,Z9,Z7,Z6,h7,List.length_append,List.length_singleton,List.length_map,List.length_take,ZO,h]);(with_reducible repeat' (first|intro h|refine And.intro (by omega) ?_ | refine exP (by omega) ?_ | apply And.intro))))))
     all_goals try exact oF
     rename_i r8 _ _ r9 _
     rw[tL (by simp)]
     exact nxF ⟨((r9,rs++[s]),j+1),by dsimp only;omega,by simp;omega,fun y hy=>(List.mem_append.1 hy).elim (hrs y) fun h=>by
      rw[List.mem_singleton] at h;subst h;exact hst⟩ (by dsimp only;omega) (FE.perm (H:=[_,_,_,_,_,_]) (L:=[(r9,_),(r12,_),(q4,_),(rg,_),(rc,_)]) (by repeat' (first|exact trivial|(refine And.intro (by simp only[Z9, *,if_true,if_false];try rfl) (And.intro (by simp[ZT,ZS, *]) ?_))))) (by simp[E2]) (by simp)
    ·(((try refine qI ?_);(repeat ((first|with_reducible refine qU ?_ | simp only[Z8]);try simp (maxSteps:=9^7) only[↓ S2,S2,Z5,↓reduceIte,reduceNe,reduceEqDiff,reduceCtorEq,reduceLeDiff,reduceAdd,reduceLT,Z9,Z7,Z6,h7,List.length_append,List.length_singleton,List.length_map,List.length_take,ZO]));(try simp +contextual (disch:=omega) only[Z2,Z9,Z7,Z6,h7,List.length_append,List.length_singleton,List.length_map,List.length_take,ZO]);(with_reducible repeat' (first|intro h|refine And.intro (by omega) ?_ | refine exP (by omega) ?_ | apply And.intro)));(repeat' (have h:=ZX h;simp only[ZZ,ZV,Z0,ZW,and_true,true_and] at h;((try refine qI ?_);(repeat ((first|with_reducible refine qU ?_ | simp only[Z8]);try simp (maxSteps:=9^7) only[↓ S2,S2,Z5,↓reduceIte,reduceNe,reduceEqDiff,reduceCtorEq,reduceLeDiff,reduceAdd,reduceLT,Z9,Z7,Z6,h7,List.length_append,List.length_singleton,List.length_map,List.length_take,ZO,h]));(try simp +contextual (disch:=omega) only[Z2,Z9,Z7,Z6,h7,List.length_append,List.length_singleton,List.length_map,List.length_take,ZO,h]);(with_reducible repeat' (first|intro h|refine And.intro (by omega) ?_ | refine exP (by omega) ?_ | apply And.intro))))))
     all_goals try exact oF
     rename_i r8 _ _ r9 _
     rw[tL (by simp)]
     exact nxF ⟨((r9,L2++[⟨n6,ns[i],rs,b2,[],[]⟩]),k+1),by dsimp only;omega,by simp;omega,by simp;omega,fun y hy=>(List.mem_append.1 hy).elim (hM y) fun h=>by
      rw[List.mem_singleton] at h;subst h;exact ⟨hn6,hsi,by show rs.length≤3;omega,hrs⟩⟩ (by dsimp only;omega) (FE.trans (FE.perm (H:=[_,_,_,_,_,_]) (L:=[(r9,_),(q7,_),(rg,_),(rc,_)]) (by repeat' (first|exact trivial|(refine And.intro (by simp only[Z9, *,if_true,if_false];try rfl) (And.intro (by simp[ZT,ZS, *]) ?_))))) (FE.ruF (by simp[*]) rfl)) (by simp[E2]) (by simp)
   ·(((try refine qI ?_);(repeat ((first|with_reducible refine qU ?_ | simp only[Z8]);try simp (maxSteps:=9^7) only[↓ S2,S2,Z5,↓reduceIte,reduceNe,reduceEqDiff,reduceCtorEq,reduceLeDiff,reduceAdd,reduceLT,Z9,Z7,Z6,h5]));(try simp +contextual (disch:=omega) only[Z2,Z9,Z7,Z6,h5]);(with_reducible repeat' (first|intro h|refine And.intro (by omega) ?_ | refine exP (by omega) ?_ | apply And.intro)));(repeat' (have h:=ZX h;simp only[ZZ,ZV,Z0,ZW,and_true,true_and] at h;((try refine qI ?_);(repeat ((first|with_reducible refine qU ?_ | simp only[Z8]);try simp (maxSteps:=9^7) only[↓ S2,S2,Z5,↓reduceIte,reduceNe,reduceEqDiff,reduceCtorEq,reduceLeDiff,reduceAdd,reduceLT,Z9,Z7,Z6,h5,h]));(try simp +contextual (disch:=omega) only[Z2,Z9,Z7,Z6,h5,h]);(with_reducible repeat' (first|intro h|refine And.intro (by omega) ?_ | refine exP (by omega) ?_ | apply And.intro))))))
    all_goals try exact oF
    exact nx ⟨((q4,L2),i+1),by dsimp only;omega,by dsimp only;omega,by dsimp only;omega,hM⟩ (by dsimp only;omega) (by simp[E2]) rfl
  ·have hLn:1≤L.length:=by omega
   (((try refine qI ?_);(repeat ((first|with_reducible refine qU ?_ | simp only[Z8]);try simp (maxSteps:=9^7) only[↓ S2,S2,Z5,↓reduceIte,reduceNe,reduceEqDiff,reduceCtorEq,reduceLeDiff,reduceAdd,reduceLT,Z9,Z7,Z6,h4,Int.toNat_zero,Int.reduceSub,Int.reduceToNat]));(try simp +contextual (disch:=omega) only[Z2,Z9,Z7,Z6,h4,Int.toNat_zero,Int.reduceSub,Int.reduceToNat]);(with_reducible repeat' (first|intro h|refine And.intro (by omega) ?_ | refine exP (by omega) ?_ | apply And.intro)));(repeat' (have h:=ZX h;simp only[ZZ,ZV,Z0,ZW,and_true,true_and] at h;((try refine qI ?_);(repeat ((first|with_reducible refine qU ?_ | simp only[Z8]);try simp (maxSteps:=9^7) only[↓ S2,S2,Z5,↓reduceIte,reduceNe,reduceEqDiff,reduceCtorEq,reduceLeDiff,reduceAdd,reduceLT,Z9,Z7,Z6,h4,Int.toNat_zero,Int.reduceSub,Int.reduceToNat,h]));(try simp +contextual (disch:=omega) only[Z2,Z9,Z7,Z6,h4,Int.toNat_zero,Int.reduceSub,Int.reduceToNat,h]);(with_reducible repeat' (first|intro h|refine And.intro (by omega) ?_ | refine exP (by omega) ?_ | apply And.intro))))))
   all_goals try exact oF
   ·refine Yw mxd (ι:={ x:List Rul×Nat // x.2≤8∧x.1.length=x.2∧∀r∈x.1,shRu r∧r.right.length≤3 }) (fun x=>[(0,.ptr rc 3 0 0),(1,B plain),(4,.raw 2),(5,.ptr rg 2 0 0),(15,I x.1.2)]) (fun x=>(q2,6,x.1.1.map RuE++(L.drop x.1.2).map Ru0)::(rg,2,[.agg [.own q 2 0 n,.own q2 6 0 8]])::(rc,3,[.cur])::(q,2,l.map Sy)::H) (fun x=>8-x.1.2) ⟨([],0),by simp⟩ FE.refl (by simp[E2]) (by simp) ?_
    rintro ⟨⟨D,j⟩,hj,hD1,hD⟩ hn5
    dsimp only at hj hD1 hD hn5 ⊢
    have h5:=ZX hn5
    (replace h5:=h5;simp only[VN] at h5)
    refine Zp mxd ?_
    rcases nL j 8 with hlt2|hge2
    ·have hjl:j<L.length:=by omega
     obtain ⟨es,hes,hel,heg,hest⟩:=rul_midE (D:=D) hD1 hjl
     rw[hes]
     clear hes
     have hr:=hL _ (gM hjl)
     (((try refine qI ?_);(repeat ((first|with_reducible refine qU ?_ | simp only[Z8]);try simp (maxSteps:=9^7) only[↓ S2,S2,Z5,↓reduceIte,reduceNe,reduceEqDiff,reduceCtorEq,reduceLeDiff,reduceAdd,reduceLT,Z9,Z7,Z6,h5,heg]));(try simp +contextual (disch:=omega) only[Z2,Z9,Z7,Z6,h5,heg]);(with_reducible repeat' (first|intro h|refine And.intro (by omega) ?_ | refine exP (by omega) ?_ | apply And.intro)));(repeat' (have h:=ZX h;simp only[ZZ,ZV,Z0,ZW,and_true,true_and] at h;((try refine qI ?_);(repeat ((first|with_reducible refine qU ?_ | simp only[Z8]);try simp (maxSteps:=9^7) only[↓ S2,S2,Z5,↓reduceIte,reduceNe,reduceEqDiff,reduceCtorEq,reduceLeDiff,reduceAdd,reduceLT,Z9,Z7,Z6,h5,heg,h]));(try simp +contextual (disch:=omega) only[Z2,Z9,Z7,Z6,h5,heg,h]);(with_reducible repeat' (first|intro h|refine And.intro (by omega) ?_ | refine exP (by omega) ?_ | apply And.intro))))))
     all_goals try exact oF
     refine callA.dcR (hru _ { L[j] with eqs:=[],cons:=[] } (shR0_sm hr) hr.2.2.1 (!plain)) (by simp only[Z9,h5,if_true,if_false]) (by simp only[Z9,h5,if_true,if_false]) (by simp) ?_
     rintro _ _ ⟨qs,q9,hqs,rfl,rfl⟩ hn9
     have h9:=ZX hn9
     simp only[List.cons_append,List.nil_append] at h9
     (replace h9:=h9;simp only[VN] at h9)
     cases plain
     ·(((try refine qI ?_);(repeat ((first|with_reducible refine qU ?_ | simp only[Z8]);try simp (maxSteps:=9^7) only[↓ S2,S2,Z5,↓reduceIte,reduceNe,reduceEqDiff,reduceCtorEq,reduceLeDiff,reduceAdd,reduceLT,Z9,Z7,Z6,h9,heg,Bool.not_false,Bool.not_true,List.getElem_set_self,List.set_set,List.length_set]));(try simp +contextual (disch:=omega) only[Z2,Z9,Z7,Z6,h9,heg,Bool.not_false,Bool.not_true,List.getElem_set_self,List.set_set,List.length_set]);(with_reducible repeat' (first|intro h|refine And.intro (by omega) ?_ | refine exP (by omega) ?_ | apply And.intro)));(repeat' (have h:=ZX h;simp only[ZZ,ZV,Z0,ZW,and_true,true_and] at h;((try refine qI ?_);(repeat ((first|with_reducible refine qU ?_ | simp only[Z8]);try simp (maxSteps:=9^7) only[↓ S2,S2,Z5,↓reduceIte,reduceNe,reduceEqDiff,reduceCtorEq,reduceLeDiff,reduceAdd,reduceLT,Z9,Z7,Z6,h9,heg,Bool.not_false,Bool.not_true,List.getElem_set_self,List.set_set,List.length_set,h]));(try simp +contextual (disch:=omega) only[Z2,Z9,Z7,Z6,h9,heg,Bool.not_false,Bool.not_true,List.getElem_set_self,List.set_set,List.length_set,h]);(with_reducible repeat' (first|intro h|refine And.intro (by omega) ?_ | refine exP (by omega) ?_ | apply And.intro))))))
      all_goals try exact oF
      refine callA.dcR (hpu _ (.own q9 9 0 qs.length) { L[j] with eqs:=[],cons:=[] } (shR0_sm hr) hr.2.2.1 rfl) (by simp only[Z9,h9,if_true,if_false]) (by simp only[Z9,h9,if_true,if_false]) (by simp) ?_
      rintro _ _ ⟨cs,q10,hcs,rfl,rfl⟩ hn10
      have h10:=ZX hn10
      simp only[List.cons_append,List.nil_append] at h10
      (replace h10:=h10;simp only[VN] at h10)
      (((try refine qI ?_);(repeat ((first|with_reducible refine qU ?_ | simp only[Z8]);try simp (maxSteps:=9^7) only[↓ S2,S2,Z5,↓reduceIte,reduceNe,reduceEqDiff,reduceCtorEq,reduceLeDiff,reduceAdd,reduceLT,Z9,Z7,Z6,h10,heg,Bool.not_false,Bool.not_true,List.getElem_set_self,List.set_set,List.length_set]));(try simp +contextual (disch:=omega) only[Z2,Z9,Z7,Z6,h10,heg,Bool.not_false,Bool.not_true,List.getElem_set_self,List.set_set,List.length_set]);(with_reducible repeat' (first|intro h|refine And.intro (by omega) ?_ | refine exP (by omega) ?_ | apply And.intro)));(repeat' (have h:=ZX h;simp only[ZZ,ZV,Z0,ZW,and_true,true_and] at h;((try refine qI ?_);(repeat ((first|with_reducible refine qU ?_ | simp only[Z8]);try simp (maxSteps:=9^7) only[↓ S2,S2,Z5,↓reduceIte,reduceNe,reduceEqDiff,reduceCtorEq,reduceLeDiff,reduceAdd,reduceLT,Z9,Z7,Z6,h10,heg,Bool.not_false,Bool.not_true,List.getElem_set_self,List.set_set,List.length_set,h]));(try simp +contextual (disch:=omega) only[Z2,Z9,Z7,Z6,h10,heg,Bool.not_false,Bool.not_true,List.getElem_set_self,List.set_set,List.length_set,h]);(with_reducible repeat' (first|intro h|refine And.intro (by omega) ?_ | refine exP (by omega) ?_ | apply And.intro))))))
      all_goals try exact oF
      exact nxF ⟨(D++[{ L[j] with eqs:=qs,cons:=cs }],j+1),by dsimp only;omega,by simp;omega,fun y hy=>(List.mem_append.1 hy).elim (hD y) fun h=>by
       rw[List.mem_singleton] at h;subst h;exact shRu_of hr hqs.1 hqs.2 hcs.1 hcs.2⟩ (by dsimp only;omega) (FE.ruPE (r:=L[j]) (by simp[*]) (by simp[*]) (by simp[*]) (by omega) rfl rfl) (by simp[E2]) (by rw[hest])
     ·(((try refine qI ?_);(repeat ((first|with_reducible refine qU ?_ | simp only[Z8]);try simp (maxSteps:=9^7) only[↓ S2,S2,Z5,↓reduceIte,reduceNe,reduceEqDiff,reduceCtorEq,reduceLeDiff,reduceAdd,reduceLT,Z9,Z7,Z6,h9,heg,Bool.not_false,Bool.not_true,List.getElem_set_self,List.set_set,List.length_set]));(try simp +contextual (disch:=omega) only[Z2,Z9,Z7,Z6,h9,heg,Bool.not_false,Bool.not_true,List.getElem_set_self,List.set_set,List.length_set]);(with_reducible repeat' (first|intro h|refine And.intro (by omega) ?_ | refine exP (by omega) ?_ | apply And.intro)));(repeat' (have h:=ZX h;simp only[ZZ,ZV,Z0,ZW,and_true,true_and] at h;((try refine qI ?_);(repeat ((first|with_reducible refine qU ?_ | simp only[Z8]);try simp (maxSteps:=9^7) only[↓ S2,S2,Z5,↓reduceIte,reduceNe,reduceEqDiff,reduceCtorEq,reduceLeDiff,reduceAdd,reduceLT,Z9,Z7,Z6,h9,heg,Bool.not_false,Bool.not_true,List.getElem_set_self,List.set_set,List.length_set,h]));(try simp +contextual (disch:=omega) only[Z2,Z9,Z7,Z6,h9,heg,Bool.not_false,Bool.not_true,List.getElem_set_self,List.set_set,List.length_set,h]);(with_reducible repeat' (first|intro h|refine And.intro (by omega) ?_ | refine exP (by omega) ?_ | apply And.intro))))))
      all_goals try exact oF
      exact nxF ⟨(D++[{ L[j] with eqs:=qs,cons:=[] }],j+1),by dsimp only;omega,by simp;omega,fun y hy=>(List.mem_append.1 hy).elim (hD y) fun h=>by
       rw[List.mem_singleton] at h;subst h;exact shRu_of hr hqs.1 hqs.2 (by simp) (by simp)⟩ (by dsimp only;omega) (FE.ruQE (r:=L[j]) (by simp[*]) (by omega) rfl) (by simp[E2]) (by rw[hest])
    ·(((try refine qI ?_);(repeat ((first|with_reducible refine qU ?_ | simp only[Z8]);try simp (maxSteps:=9^7) only[↓ S2,S2,Z5,↓reduceIte,reduceNe,reduceEqDiff,reduceCtorEq,reduceLeDiff,reduceAdd,reduceLT,Z9,Z7,Z6,h5]));(try simp +contextual (disch:=omega) only[Z2,Z9,Z7,Z6,h5]);(with_reducible repeat' (first|intro h|refine And.intro (by omega) ?_ | refine exP (by omega) ?_ | apply And.intro)));(repeat' (have h:=ZX h;simp only[ZZ,ZV,Z0,ZW,and_true,true_and] at h;((try refine qI ?_);(repeat ((first|with_reducible refine qU ?_ | simp only[Z8]);try simp (maxSteps:=9^7) only[↓ S2,S2,Z5,↓reduceIte,reduceNe,reduceEqDiff,reduceCtorEq,reduceLeDiff,reduceAdd,reduceLT,Z9,Z7,Z6,h5,h]));(try simp +contextual (disch:=omega) only[Z2,Z9,Z7,Z6,h5,h]);(with_reducible repeat' (first|intro h|refine And.intro (by omega) ?_ | refine exP (by omega) ?_ | apply And.intro))))))
     all_goals try exact oF
     have hDn:D.length=8:=by omega
     exact ⟨_,[(q2,6,_),(q,2,_)],[_,_,_,_],[],⟨l,D,_,q,q2,drG_of (by omega) (by omega) hd (by omega) (by omega) hD,by rw[hDn,hll],rfl⟩,.refl,rfl,(by repeat' (first|exact trivial|(refine And.intro (by simp only[Z9, *,if_true,if_false];try rfl) (And.intro (by simp[ZT,ZS, *]) ?_))))⟩
   ·refine Yw mxd (ι:={ x:List Rul×Nat // x.2≤L.length∧x.1.length=x.2∧∀r∈x.1,shRu r∧r.right.length≤3 }) (fun x=>[(0,.ptr rc 3 0 0),(1,B plain),(4,.raw 2),(5,.ptr rg 2 0 0),(15,I x.1.2)]) (fun x=>(q2,6,x.1.1.map RuE++(L.drop x.1.2).map Ru0)::(rg,2,[.agg [.own q 2 0 n,.own q2 6 0 L.length]])::(rc,3,[.cur])::(q,2,l.map Sy)::H) (fun x=>L.length-x.1.2) ⟨([],0),by simp⟩ FE.refl (by simp[E2]) (by simp) ?_
    rintro ⟨⟨D,j⟩,hj,hD1,hD⟩ hn5
    dsimp only at hj hD1 hD hn5 ⊢
    have h5:=ZX hn5
    (replace h5:=h5;simp only[VN] at h5)
    refine Zp mxd ?_
    rcases nL j L.length with hlt2|hge2
    ·have hjl:j<L.length:=by omega
     obtain ⟨es,hes,hel,heg,hest⟩:=rul_midE (D:=D) hD1 hjl
     rw[hes]
     clear hes
     have hr:=hL _ (gM hjl)
     (((try refine qI ?_);(repeat ((first|with_reducible refine qU ?_ | simp only[Z8]);try simp (maxSteps:=9^7) only[↓ S2,S2,Z5,↓reduceIte,reduceNe,reduceEqDiff,reduceCtorEq,reduceLeDiff,reduceAdd,reduceLT,Z9,Z7,Z6,h5,heg]));(try simp +contextual (disch:=omega) only[Z2,Z9,Z7,Z6,h5,heg]);(with_reducible repeat' (first|intro h|refine And.intro (by omega) ?_ | refine exP (by omega) ?_ | apply And.intro)));(repeat' (have h:=ZX h;simp only[ZZ,ZV,Z0,ZW,and_true,true_and] at h;((try refine qI ?_);(repeat ((first|with_reducible refine qU ?_ | simp only[Z8]);try simp (maxSteps:=9^7) only[↓ S2,S2,Z5,↓reduceIte,reduceNe,reduceEqDiff,reduceCtorEq,reduceLeDiff,reduceAdd,reduceLT,Z9,Z7,Z6,h5,heg,h]));(try simp +contextual (disch:=omega) only[Z2,Z9,Z7,Z6,h5,heg,h]);(with_reducible repeat' (first|intro h|refine And.intro (by omega) ?_ | refine exP (by omega) ?_ | apply And.intro))))))
     all_goals try exact oF
     refine callA.dcR (hru _ { L[j] with eqs:=[],cons:=[] } (shR0_sm hr) hr.2.2.1 (!plain)) (by simp only[Z9,h5,if_true,if_false]) (by simp only[Z9,h5,if_true,if_false]) (by simp) ?_
     rintro _ _ ⟨qs,q9,hqs,rfl,rfl⟩ hn9
     have h9:=ZX hn9
     simp only[List.cons_append,List.nil_append] at h9
     (replace h9:=h9;simp only[VN] at h9)
     cases plain
     ·(((try refine qI ?_);(repeat ((first|with_reducible refine qU ?_ | simp only[Z8]);try simp (maxSteps:=9^7) only[↓ S2,S2,Z5,↓reduceIte,reduceNe,reduceEqDiff,reduceCtorEq,reduceLeDiff,reduceAdd,reduceLT,Z9,Z7,Z6,h9,heg,Bool.not_false,Bool.not_true,List.getElem_set_self,List.set_set,List.length_set]));(try simp +contextual (disch:=omega) only[Z2,Z9,Z7,Z6,h9,heg,Bool.not_false,Bool.not_true,List.getElem_set_self,List.set_set,List.length_set]);(with_reducible repeat' (first|intro h|refine And.intro (by omega) ?_ | refine exP (by omega) ?_ | apply And.intro)));(repeat' (have h:=ZX h;simp only[ZZ,ZV,Z0,ZW,and_true,true_and] at h;((try refine qI ?_);(repeat ((first|with_reducible refine qU ?_ | simp only[Z8]);try simp (maxSteps:=9^7) only[↓ S2,S2,Z5,↓reduceIte,reduceNe,reduceEqDiff,reduceCtorEq,reduceLeDiff,reduceAdd,reduceLT,Z9,Z7,Z6,h9,heg,Bool.not_false,Bool.not_true,List.getElem_set_self,List.set_set,List.length_set,h]));(try simp +contextual (disch:=omega) only[Z2,Z9,Z7,Z6,h9,heg,Bool.not_false,Bool.not_true,List.getElem_set_self,List.set_set,List.length_set,h]);(with_reducible repeat' (first|intro h|refine And.intro (by omega) ?_ | refine exP (by omega) ?_ | apply And.intro))))))
      all_goals try exact oF
      refine callA.dcR (hpu _ (.own q9 9 0 qs.length) { L[j] with eqs:=[],cons:=[] } (shR0_sm hr) hr.2.2.1 rfl) (by simp only[Z9,h9,if_true,if_false]) (by simp only[Z9,h9,if_true,if_false]) (by simp) ?_
      rintro _ _ ⟨cs,q10,hcs,rfl,rfl⟩ hn10
      have h10:=ZX hn10
      simp only[List.cons_append,List.nil_append] at h10
      (replace h10:=h10;simp only[VN] at h10)
      (((try refine qI ?_);(repeat ((first|with_reducible refine qU ?_ | simp only[Z8]);try simp (maxSteps:=9^7) only[↓ S2,S2,Z5,↓reduceIte,reduceNe,reduceEqDiff,reduceCtorEq,reduceLeDiff,reduceAdd,reduceLT,Z9,Z7,Z6,h10,heg,Bool.not_false,Bool.not_true,List.getElem_set_self,List.set_set,List.length_set]));(try simp +contextual (disch:=omega) only[Z2,Z9,Z7,Z6,h10,heg,Bool.not_false,Bool.not_true,List.getElem_set_self,List.set_set,List.length_set]);(with_reducible repeat' (first|intro h|refine And.intro (by omega) ?_ | refine exP (by omega) ?_ | apply And.intro)));(repeat' (have h:=ZX h;simp only[ZZ,ZV,Z0,ZW,and_true,true_and] at h;((try refine qI ?_);(repeat ((first|with_reducible refine qU ?_ | simp only[Z8]);try simp (maxSteps:=9^7) only[↓ S2,S2,Z5,↓reduceIte,reduceNe,reduceEqDiff,reduceCtorEq,reduceLeDiff,reduceAdd,reduceLT,Z9,Z7,Z6,h10,heg,Bool.not_false,Bool.not_true,List.getElem_set_self,List.set_set,List.length_set,h]));(try simp +contextual (disch:=omega) only[Z2,Z9,Z7,Z6,h10,heg,Bool.not_false,Bool.not_true,List.getElem_set_self,List.set_set,List.length_set,h]);(with_reducible repeat' (first|intro h|refine And.intro (by omega) ?_ | refine exP (by omega) ?_ | apply And.intro))))))
      all_goals try exact oF
      exact nxF ⟨(D++[{ L[j] with eqs:=qs,cons:=cs }],j+1),by dsimp only;omega,by simp;omega,fun y hy=>(List.mem_append.1 hy).elim (hD y) fun h=>by
       rw[List.mem_singleton] at h;subst h;exact shRu_of hr hqs.1 hqs.2 hcs.1 hcs.2⟩ (by dsimp only;omega) (FE.ruPE (r:=L[j]) (by simp[*]) (by simp[*]) (by simp[*]) (by omega) rfl rfl) (by simp[E2]) (by rw[hest])
     ·(((try refine qI ?_);(repeat ((first|with_reducible refine qU ?_ | simp only[Z8]);try simp (maxSteps:=9^7) only[↓ S2,S2,Z5,↓reduceIte,reduceNe,reduceEqDiff,reduceCtorEq,reduceLeDiff,reduceAdd,reduceLT,Z9,Z7,Z6,h9,heg,Bool.not_false,Bool.not_true,List.getElem_set_self,List.set_set,List.length_set]));(try simp +contextual (disch:=omega) only[Z2,Z9,Z7,Z6,h9,heg,Bool.not_false,Bool.not_true,List.getElem_set_self,List.set_set,List.length_set]);(with_reducible repeat' (first|intro h|refine And.intro (by omega) ?_ | refine exP (by omega) ?_ | apply And.intro)));(repeat' (have h:=ZX h;simp only[ZZ,ZV,Z0,ZW,and_true,true_and] at h;((try refine qI ?_);(repeat ((first|with_reducible refine qU ?_ | simp only[Z8]);try simp (maxSteps:=9^7) only[↓ S2,S2,Z5,↓reduceIte,reduceNe,reduceEqDiff,reduceCtorEq,reduceLeDiff,reduceAdd,reduceLT,Z9,Z7,Z6,h9,heg,Bool.not_false,Bool.not_true,List.getElem_set_self,List.set_set,List.length_set,h]));(try simp +contextual (disch:=omega) only[Z2,Z9,Z7,Z6,h9,heg,Bool.not_false,Bool.not_true,List.getElem_set_self,List.set_set,List.length_set,h]);(with_reducible repeat' (first|intro h|refine And.intro (by omega) ?_ | refine exP (by omega) ?_ | apply And.intro))))))
      all_goals try exact oF
      exact nxF ⟨(D++[{ L[j] with eqs:=qs,cons:=[] }],j+1),by dsimp only;omega,by simp;omega,fun y hy=>(List.mem_append.1 hy).elim (hD y) fun h=>by
       rw[List.mem_singleton] at h;subst h;exact shRu_of hr hqs.1 hqs.2 (by simp) (by simp)⟩ (by dsimp only;omega) (FE.ruQE (r:=L[j]) (by simp[*]) (by omega) rfl) (by simp[E2]) (by rw[hest])
    ·(((try refine qI ?_);(repeat ((first|with_reducible refine qU ?_ | simp only[Z8]);try simp (maxSteps:=9^7) only[↓ S2,S2,Z5,↓reduceIte,reduceNe,reduceEqDiff,reduceCtorEq,reduceLeDiff,reduceAdd,reduceLT,Z9,Z7,Z6,h5]));(try simp +contextual (disch:=omega) only[Z2,Z9,Z7,Z6,h5]);(with_reducible repeat' (first|intro h|refine And.intro (by omega) ?_ | refine exP (by omega) ?_ | apply And.intro)));(repeat' (have h:=ZX h;simp only[ZZ,ZV,Z0,ZW,and_true,true_and] at h;((try refine qI ?_);(repeat ((first|with_reducible refine qU ?_ | simp only[Z8]);try simp (maxSteps:=9^7) only[↓ S2,S2,Z5,↓reduceIte,reduceNe,reduceEqDiff,reduceCtorEq,reduceLeDiff,reduceAdd,reduceLT,Z9,Z7,Z6,h5,h]));(try simp +contextual (disch:=omega) only[Z2,Z9,Z7,Z6,h5,h]);(with_reducible repeat' (first|intro h|refine And.intro (by omega) ?_ | refine exP (by omega) ?_ | apply And.intro))))))
     all_goals try exact oF
     have hDn:D.length=L.length:=by omega
     exact ⟨_,[(q2,6,_),(q,2,_)],[_,_,_,_],[],⟨l,D,_,q,q2,drG_of (by omega) (by omega) hd (by omega) (by omega) hD,by rw[hDn,hll],rfl⟩,.refl,rfl,(by repeat' (first|exact trivial|(refine And.intro (by simp only[Z9, *,if_true,if_false];try rfl) (And.intro (by simp[ZT,ZS, *]) ?_))))⟩
end Go.Proofs.YtkmedfejmndmjaaGreat
