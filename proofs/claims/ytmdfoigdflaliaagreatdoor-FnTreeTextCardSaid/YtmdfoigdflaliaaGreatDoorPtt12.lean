/- The tied card of the law holds. No condition. -/
import Derived.Test.YtmdfoigdflaliaaGreatDoorPtt5
import Derived.Test.YtmdfoigdflaliaaGreatDoorPtt7
set_option maxHeartbeats 40000000
set_option maxRecDepth 20000
set_option linter.unusedSimpArgs false
set_option linter.unusedVariables false
namespace Go.Proofs.YtmdfoigdflaliaaGreatDoor
open Go.Gh
open Nat (reduceEqDiff reduceLeDiff reduceAdd reduceLT)
open Int (reduceNe)
theorem oe56 (root:Nod) (Y:GV) (ks:List (List Nod)) (hk3:ks.length≤3) (hkn:∀t∈ks,t.length≤100000∧∀x∈t,x.kids.length≤1048576) (H:GH) :
 Gc 56 [.agg [I root.id,I root.parent,I root.place,I root.lit,T root.rule,Y],.sl 1 (ks.map Tr)] H (fun v H'=>∃H1,(∃(r:Nat),v = .agg [.own r 6 0 ((jnL ks ks.length).length + 1)]∧H1=[(r,6,({ root with parent:= -1,place:=0,kids:=jnK ks ks.length }::jnL ks ks.length).map NdO)])∧H'=H1++H):=by
 have h0:Gc 56 [.agg [I root.id,I root.parent,I root.place,I root.lit,T root.rule,Y],.sl 1 (ks.map Tr)] H (fun v H'=>∃(r rb ro:Nat) (u1 u2:List GV),v = .agg [.own r 6 0 ((jnL ks ks.length).length + 1)]∧(¬r=rb∧¬r=ro)∧H'=(r,6,({ root with parent:= -1,place:=0,kids:=jnK ks ks.length }::jnL ks ks.length).map NdO)::(ro,1,u2)::(rb,6,u1)::H):=by
  refine ZN mxd i56 rfl (by simp) ?_;simp (maxSteps:=9^7) only[↓ S2,S2,ZT,↓reduceIte,reduceNe,reduceEqDiff,reduceCtorEq,reduceLeDiff,reduceAdd,reduceLT]
  ((try refine qI ?_);(repeat ((first|with_reducible refine qU ?_ | simp only[Z5]);try simp (maxSteps:=9^7) +contextual only[↓ S2,S2,↓reduceIte,reduceNe,reduceEqDiff,reduceCtorEq,reduceLeDiff,reduceAdd,reduceLT,VQ,]));(try simp +contextual (disch:=omega) only[Z2,]);(with_reducible repeat' (first|intro h|refine And.intro (by omega) ?_ | refine exP (by omega) ?_ | apply And.intro)))
  rename_i rb _ rk _ rn _ ro
  refine Zd mxd (ι:={ x:((Nat×Nod)×List Nod)×Nat // x.2≤ks.length∧x.1.1.2={ root with parent:= -1,place:=0,kids:=jnK ks x.2 }∧x.1.2=jnL ks x.2 }) (fun x=>[(1,.sl 1 (ks.map Tr)),(4,.raw 1),(5,.ptr ro 1 0 0),(6,I x.1.2)]) (fun x=>(x.1.1.1.1,6,(x.1.1.1.2::x.1.1.2).map NdO)::(ro,1,[.own x.1.1.1.1 6 0 (x.1.1.2.length+1)])::(rb,6,[.agg [I root.id,I (-1),I 0,I root.lit,T root.rule,.own rk 1 0 0]])::H) (fun x=>ks.length-x.1.2) ⟨(((rn,{ root with parent:= -1,place:=0,kids:=[] }),[]),0),by simp[jnK,jnL]⟩ (FE.trans (FE.perm (H:=[_,_,_,_]) (L:=[(rn,_),(rk,_),(ro,_),(rb,_)]) (by repeat' (first|exact trivial|(refine And.intro (by simp only[Z9, *,if_true,if_false];try rfl) (And.intro (by simp[ZR,ZP, *]) ?_))))) (FE.trans (FE.closeL2 (L:=[]) (j:=5) (by simp[*]) rfl rfl) (FE.unagg (r:=ro) (sz:=1) (g:= .own rn 6 0 1) (by simp[ZW, *])))) (by simp[E2]) ?_ ?_
  ·simp[ZI, *]
  rintro ⟨⟨⟨⟨q,rt⟩,rest⟩,k⟩,hk,hrt,hrest⟩ hn2
  dsimp only at hk hrt hrest hn2 ⊢
  have hkl:rt.kids.length=k:=by rw[hrt];exact jnK_len ks k
  change id (_ = _) at hrt;change id (_ = _) at hrest
  have h4:=Z0 hn2
  (replace h4:=h4;simp only[VN] at h4)
  rcases nL k ks.length with hlt|hge
  ·refine GW.opn (r:=q) (es:=(rt::rest).map NdO) (sz:=6) (i:=0) (j:=5) (gs:=[I rt.id,I rt.parent,I rt.place,I rt.lit,T rt.rule,.osl 1 (rt.kids.map I)]) ZX rfl rfl fun r1 hn1=> ?_
   simp only[YR,List.map_cons,List.set_cons_zero] at hn1 ⊢
   have h5:=Z0 hn1
   (replace h5:=h5;simp only[VN] at h5)
   refine ZD mxd ?_
   (((try refine qI ?_);(repeat ((first|with_reducible refine qU ?_ | simp only[Z5]);try simp (maxSteps:=9^7) only[↓ S2,S2,ZT,↓reduceIte,reduceNe,reduceEqDiff,reduceCtorEq,reduceLeDiff,reduceAdd,reduceLT,Z9,Z8,Z7,h4,h5,Int.toNat_zero,List.getElem_cons_zero,List.length_cons,List.length_map,List.set_cons_zero,List.length_append,List.length_singleton,not_false_eq_true,ZM]));(try simp +contextual (disch:=omega) only[Z2,Z9,Z8,Z7,h4,h5,Int.toNat_zero,List.getElem_cons_zero,List.length_cons,List.length_map,List.set_cons_zero,List.length_append,List.length_singleton,not_false_eq_true,ZM]);(with_reducible repeat' (first|intro h|refine And.intro (by omega) ?_ | refine exP (by omega) ?_ | apply And.intro)));(repeat' (have h:=Z0 h;simp only[Z1,ZY,Z3,ZZ,and_true,true_and] at h;((try refine qI ?_);(repeat ((first|with_reducible refine qU ?_ | simp only[Z5]);try simp (maxSteps:=9^7) only[↓ S2,S2,ZT,↓reduceIte,reduceNe,reduceEqDiff,reduceCtorEq,reduceLeDiff,reduceAdd,reduceLT,Z9,Z8,Z7,h4,h5,Int.toNat_zero,List.getElem_cons_zero,List.length_cons,List.length_map,List.set_cons_zero,List.length_append,List.length_singleton,not_false_eq_true,ZM,h]));(try simp +contextual (disch:=omega) only[Z2,Z9,Z8,Z7,h4,h5,Int.toNat_zero,List.getElem_cons_zero,List.length_cons,List.length_map,List.set_cons_zero,List.length_append,List.length_singleton,not_false_eq_true,ZM,h]);(with_reducible repeat' (first|intro h|refine And.intro (by omega) ?_ | refine exP (by omega) ?_ | apply And.intro))))))
   all_goals try exact oF
   rename_i rs _ h6 ra _
   have h7:=h
   have htk:=hkn _ (gM hlt)
   have hb:rest.length≤300000:=by
    have e1:=jnL_len (ks:=ks) (fun t ht=>(hkn t ht).1) k
    rw[show rest = _ from hrest]
    have:=Nat.mul_le_mul_right 100000 (show k≤3 by omega)
    omega
   refine Zd mxd (ι:={ x:(Nat×List Nod)×Nat // x.2≤ks[k].length ∧ x.1.2=rest++(jvT (rest.length+1) k ks[k]).take x.2∧rest.length+x.2=x.1.2.length }) (fun x=>[(1,.sl 1 (ks.map Tr)),(4,.raw 1),(5,.ptr ro 1 0 0),(6,I k),(7,I ((rest.length+1:Nat):Int)),(8,I x.1.2)]) (fun x=>(x.1.1.1,6,({ rt with kids:=rt.kids++[((rest.length+1:Nat):Int)] }::x.1.1.2).map NdO)::(ro,1,[.own x.1.1.1 6 0 (x.1.1.2.length+1)])::(rb,6,[.agg [I root.id,I (-1),I 0,I root.lit,T root.rule,.own rk 1 0 0]])::H) (fun x=>ks[k].length - x.1.2) ⟨((q,rest),0),by simp⟩ (FE.trans (FE.perm (H:=[_,_,_,_,_]) (L:=[(ra,_),(q,_),(ro,_),(rb,_)]) (by repeat' (first|exact trivial|(refine And.intro (by simp only[Z9, *,if_true,if_false];try rfl) (And.intro (by simp[ZR,ZP, *]) ?_))))) (FE.close2 (L:=NdO rt::rest.map NdO) (i:=0) (j:=5) (by simp[*]) (by simp) rfl (by rw[List.length_append,List.length_take,List.length_map,List.length_singleton];omega))) (by simp[E2]) (by rw[tL (by rw[List.length_map];omega)];simp) ?_
   rintro ⟨⟨⟨q2,rs2⟩,i⟩,hi,hrs2,hsum2⟩ hn3
   dsimp only at hi hrs2 hsum2 hn3 ⊢
   change id (_ = _) at hrs2
   have h8:=Z0 hn3
   (replace h8:=h8;simp only[VN] at h8)
   refine ZD mxd ?_
   rcases nL i ks[k].length with hlt2|hge2
   ·have hxr:=htk.2 _ (gM hlt2)
    have hi0:((i:Int)=0)=(i=0):=by simp
    (((try refine qI ?_);(repeat ((first|with_reducible refine qU ?_ | simp only[Z5]);try simp (maxSteps:=9^7) only[↓ S2,S2,ZT,↓reduceIte,reduceNe,reduceEqDiff,reduceCtorEq,reduceLeDiff,reduceAdd,reduceLT,Z9,Z8,Z7,h8,hi0]));(try simp +contextual (disch:=omega) only[Z2,Z9,Z8,Z7,h8,hi0]);(with_reducible repeat' (first|intro h|refine And.intro (by omega) ?_ | refine exP (by omega) ?_ | apply And.intro)));(repeat' (have h:=Z0 h;simp only[Z1,ZY,Z3,ZZ,and_true,true_and] at h;((try refine qI ?_);(repeat ((first|with_reducible refine qU ?_ | simp only[Z5]);try simp (maxSteps:=9^7) only[↓ S2,S2,ZT,↓reduceIte,reduceNe,reduceEqDiff,reduceCtorEq,reduceLeDiff,reduceAdd,reduceLT,Z9,Z8,Z7,h8,hi0,h]));(try simp +contextual (disch:=omega) only[Z2,Z9,Z8,Z7,h8,hi0,h]);(with_reducible repeat' (first|intro h|refine And.intro (by omega) ?_ | refine exP (by omega) ?_ | apply And.intro))))))
    all_goals try exact oF
    ·rename_i r9 _ h9 rl _
     have h10:=h
     refine Zd mxd (ι:={ x:(Nat×List Int)×Nat // x.2≤ks[k][0].kids.length ∧ x.1.2=(ks[k][0].kids.take x.2).map fun c=>IntKind.i64.wrap (c+((rest.length+1:Nat):Int)) }) (fun x=>[(1,.sl 1 (ks.map Tr)),(4,.raw 1),(5,.ptr ro 1 0 0),(6,I k),(7,I ((rest.length+1:Nat):Int)),(8,I 0),(9,.ptr r9 6 0 0),(10,.own x.1.1.1 1 0 x.1.1.2.length),(11,I x.1.2)]) (fun x=>(x.1.1.1,1,x.1.1.2.map I)::(r9,6,[.agg [I ks[k][0].id,I 0,I ((k:Int)+1),I ks[k][0].lit,T ks[k][0].rule,IS ks[k][0].kids]])::(q2,6,({ rt with kids:=rt.kids++[((rest.length+1:Nat):Int)] }::rs2).map NdO)::(ro,1,[.own q2 6 0 (rs2.length+1)])::(rb,6,[.agg [I root.id,I (-1),I 0,I root.lit,T root.rule,.own rk 1 0 0]])::H) (fun x=>ks[k][0].kids.length - x.1.2) ⟨((rl,[]),0),by simp⟩ FE.refl (by simp[E2]) (by simp) ?_
     rintro ⟨⟨⟨q3,l⟩,j⟩,hj,hlj⟩ hn4
     dsimp only at hj hlj hn4 ⊢
     have h11:=Z0 hn4
     (replace h11:=h11;simp only[VN] at h11)
     have hx3:ks[k][0].kids.length ≤ 1048576:=htk.2 _ (gM (by omega))
     have hll:l.length=j:=by rw[hlj,List.length_map,List.length_take];omega
     change id (_ = _) at hlj
     refine ZD mxd ?_
     rcases nL j ks[k][0].kids.length with hlt3|hge3
     ·(((try refine qI ?_);(repeat ((first|with_reducible refine qU ?_ | simp only[Z5]);try simp (maxSteps:=9^7) only[↓ S2,S2,ZT,↓reduceIte,reduceNe,reduceEqDiff,reduceCtorEq,reduceLeDiff,reduceAdd,reduceLT,Z9,Z8,Z7,h11,List.length_append,List.length_singleton,List.length_map,List.length_take,ZM,not_false_eq_true]));(try simp +contextual (disch:=omega) only[Z2,Z9,Z8,Z7,h11,List.length_append,List.length_singleton,List.length_map,List.length_take,ZM,not_false_eq_true]);(with_reducible repeat' (first|intro h|refine And.intro (by omega) ?_ | refine exP (by omega) ?_ | apply And.intro)));(repeat' (have h:=Z0 h;simp only[Z1,ZY,Z3,ZZ,and_true,true_and] at h;((try refine qI ?_);(repeat ((first|with_reducible refine qU ?_ | simp only[Z5]);try simp (maxSteps:=9^7) only[↓ S2,S2,ZT,↓reduceIte,reduceNe,reduceEqDiff,reduceCtorEq,reduceLeDiff,reduceAdd,reduceLT,Z9,Z8,Z7,h11,List.length_append,List.length_singleton,List.length_map,List.length_take,ZM,not_false_eq_true,h]));(try simp +contextual (disch:=omega) only[Z2,Z9,Z8,Z7,h11,List.length_append,List.length_singleton,List.length_map,List.length_take,ZM,not_false_eq_true,h]);(with_reducible repeat' (first|intro h|refine And.intro (by omega) ?_ | refine exP (by omega) ?_ | apply And.intro))))))
      all_goals try exact oF
      rename_i ra3 _ h12 rl3 _
      rw[List.take_of_length_le (l:=l.map I) (by simp)]
      exact nxF ⟨((rl3,l++[IntKind.i64.wrap (ks[k][0].kids[j]+((rest.length+1:Nat):Int))]),j+1),by dsimp only;omega,by dsimp only;rw[show l = _ from hlj,List.take_succ_eq_append_getElem hlt3,List.map_append];rfl⟩ (by dsimp only;omega) (FE.perm (H:=[_,_,_,_,_,_]) (L:=[(rl3,_),(r9,_),(q2,_),(ro,_),(rb,_)]) (by repeat' (first|exact trivial|(refine And.intro (by simp only[Z9, *,if_true,if_false];try rfl) (And.intro (by simp[ZR,ZP, *]) ?_))))) (by simp[E2]) (by simp)
     ·(((try refine qI ?_);(repeat ((first|with_reducible refine qU ?_ | simp only[Z5]);try simp (maxSteps:=9^7) only[↓ S2,S2,ZT,↓reduceIte,reduceNe,reduceEqDiff,reduceCtorEq,reduceLeDiff,reduceAdd,reduceLT,Z9,Z8,Z7,h11,List.length_append,List.length_singleton,List.length_map,List.length_take,ZM,not_false_eq_true]));(try simp +contextual (disch:=omega) only[Z2,Z9,Z8,Z7,h11,List.length_append,List.length_singleton,List.length_map,List.length_take,ZM,not_false_eq_true]);(with_reducible repeat' (first|intro h|refine And.intro (by omega) ?_ | refine exP (by omega) ?_ | apply And.intro)));(repeat' (have h:=Z0 h;simp only[Z1,ZY,Z3,ZZ,and_true,true_and] at h;((try refine qI ?_);(repeat ((first|with_reducible refine qU ?_ | simp only[Z5]);try simp (maxSteps:=9^7) only[↓ S2,S2,ZT,↓reduceIte,reduceNe,reduceEqDiff,reduceCtorEq,reduceLeDiff,reduceAdd,reduceLT,Z9,Z8,Z7,h11,List.length_append,List.length_singleton,List.length_map,List.length_take,ZM,not_false_eq_true,h]));(try simp +contextual (disch:=omega) only[Z2,Z9,Z8,Z7,h11,List.length_append,List.length_singleton,List.length_map,List.length_take,ZM,not_false_eq_true,h]);(with_reducible repeat' (first|intro h|refine And.intro (by omega) ?_ | refine exP (by omega) ?_ | apply And.intro))))))
      all_goals try exact oF
      rename_i ra3 _ h12 rl3 _
      rw[List.take_of_length_le (l:=rs2.map NdO) (by simp)]
      exact nxF ⟨((rl3,rs2++[⟨ks[k][0].id,0,((k:Int)+1),ks[k][0].lit,ks[k][0].rule,l⟩]),0+1),by dsimp only;omega,by dsimp only;rw[show rs2 = _ from hrs2,jvT_step (by omega),List.append_assoc,(show l = _ from hlj),List.take_of_length_le (l:=ks[k][0].kids) (by omega)];simp[jvN, *],by simp;omega⟩ (by dsimp only;omega) (FE.trans (FE.perm (H:=[_,_,_,_,_,_]) (L:=[(rl3,_),(q3,_),(ro,_),(rb,_)]) (by repeat' (first|exact trivial|(refine And.intro (by simp only[Z9, *,if_true,if_false];try rfl) (And.intro (by simp[ZR,ZP, *]) ?_))))) (FE.closeL2 (L:=NdO { rt with kids:=rt.kids++[((rest.length+1:Nat):Int)] }::rs2.map NdO) (j:=5) (by simp[*]) rfl (by simp[hll]))) (by simp[E2]) (by simp[hll])
    ·rename_i r9 _ h9 rl _
     have h10:=h
     refine Zd mxd (ι:={ x:(Nat×List Int)×Nat // x.2≤ks[k][i].kids.length ∧ x.1.2=(ks[k][i].kids.take x.2).map fun c=>IntKind.i64.wrap (c+((rest.length+1:Nat):Int)) }) (fun x=>[(1,.sl 1 (ks.map Tr)),(4,.raw 1),(5,.ptr ro 1 0 0),(6,I k),(7,I ((rest.length+1:Nat):Int)),(8,I i),(9,.ptr r9 6 0 0),(10,.own x.1.1.1 1 0 x.1.1.2.length),(11,I x.1.2)]) (fun x=>(x.1.1.1,1,x.1.1.2.map I)::(r9,6,[.agg [I ks[k][i].id,I (IntKind.i64.wrap (ks[k][i].parent + ((rest.length+1:Nat):Int))),I ks[k][i].place,I ks[k][i].lit,T ks[k][i].rule,IS ks[k][i].kids]])::(q2,6,({ rt with kids:=rt.kids++[((rest.length+1:Nat):Int)] }::rs2).map NdO)::(ro,1,[.own q2 6 0 (rs2.length+1)])::(rb,6,[.agg [I root.id,I (-1),I 0,I root.lit,T root.rule,.own rk 1 0 0]])::H) (fun x=>ks[k][i].kids.length - x.1.2) ⟨((rl,[]),0),by simp⟩ FE.refl (by simp[E2]) (by simp) ?_
     rintro ⟨⟨⟨q3,l⟩,j⟩,hj,hlj⟩ hn4
     dsimp only at hj hlj hn4 ⊢
     have h11:=Z0 hn4
     (replace h11:=h11;simp only[VN] at h11)
     have hx3:ks[k][i].kids.length ≤ 1048576:=htk.2 _ (gM (by omega))
     have hll:l.length=j:=by rw[hlj,List.length_map,List.length_take];omega
     change id (_ = _) at hlj
     refine ZD mxd ?_
     rcases nL j ks[k][i].kids.length with hlt3|hge3
     ·(((try refine qI ?_);(repeat ((first|with_reducible refine qU ?_ | simp only[Z5]);try simp (maxSteps:=9^7) only[↓ S2,S2,ZT,↓reduceIte,reduceNe,reduceEqDiff,reduceCtorEq,reduceLeDiff,reduceAdd,reduceLT,Z9,Z8,Z7,h11,List.length_append,List.length_singleton,List.length_map,List.length_take,ZM,not_false_eq_true]));(try simp +contextual (disch:=omega) only[Z2,Z9,Z8,Z7,h11,List.length_append,List.length_singleton,List.length_map,List.length_take,ZM,not_false_eq_true]);(with_reducible repeat' (first|intro h|refine And.intro (by omega) ?_ | refine exP (by omega) ?_ | apply And.intro)));(repeat' (have h:=Z0 h;simp only[Z1,ZY,Z3,ZZ,and_true,true_and] at h;((try refine qI ?_);(repeat ((first|with_reducible refine qU ?_ | simp only[Z5]);try simp (maxSteps:=9^7) only[↓ S2,S2,ZT,↓reduceIte,reduceNe,reduceEqDiff,reduceCtorEq,reduceLeDiff,reduceAdd,reduceLT,Z9,Z8,Z7,h11,List.length_append,List.length_singleton,List.length_map,List.length_take,ZM,not_false_eq_true,h]));(try simp +contextual (disch:=omega) only[Z2,Z9,Z8,Z7,h11,List.length_append,List.length_singleton,List.length_map,List.length_take,ZM,not_false_eq_true,h]);(with_reducible repeat' (first|intro h|refine And.intro (by omega) ?_ | refine exP (by omega) ?_ | apply And.intro))))))
      all_goals try exact oF
      rename_i ra3 _ h12 rl3 _
      rw[List.take_of_length_le (l:=l.map I) (by simp)]
      exact nxF ⟨((rl3,l++[IntKind.i64.wrap (ks[k][i].kids[j]+((rest.length+1:Nat):Int))]),j+1),by dsimp only;omega,by dsimp only;rw[show l = _ from hlj,List.take_succ_eq_append_getElem hlt3,List.map_append];rfl⟩ (by dsimp only;omega) (FE.perm (H:=[_,_,_,_,_,_]) (L:=[(rl3,_),(r9,_),(q2,_),(ro,_),(rb,_)]) (by repeat' (first|exact trivial|(refine And.intro (by simp only[Z9, *,if_true,if_false];try rfl) (And.intro (by simp[ZR,ZP, *]) ?_))))) (by simp[E2]) (by simp)
     ·(((try refine qI ?_);(repeat ((first|with_reducible refine qU ?_ | simp only[Z5]);try simp (maxSteps:=9^7) only[↓ S2,S2,ZT,↓reduceIte,reduceNe,reduceEqDiff,reduceCtorEq,reduceLeDiff,reduceAdd,reduceLT,Z9,Z8,Z7,h11,List.length_append,List.length_singleton,List.length_map,List.length_take,ZM,not_false_eq_true]));(try simp +contextual (disch:=omega) only[Z2,Z9,Z8,Z7,h11,List.length_append,List.length_singleton,List.length_map,List.length_take,ZM,not_false_eq_true]);(with_reducible repeat' (first|intro h|refine And.intro (by omega) ?_ | refine exP (by omega) ?_ | apply And.intro)));(repeat' (have h:=Z0 h;simp only[Z1,ZY,Z3,ZZ,and_true,true_and] at h;((try refine qI ?_);(repeat ((first|with_reducible refine qU ?_ | simp only[Z5]);try simp (maxSteps:=9^7) only[↓ S2,S2,ZT,↓reduceIte,reduceNe,reduceEqDiff,reduceCtorEq,reduceLeDiff,reduceAdd,reduceLT,Z9,Z8,Z7,h11,List.length_append,List.length_singleton,List.length_map,List.length_take,ZM,not_false_eq_true,h]));(try simp +contextual (disch:=omega) only[Z2,Z9,Z8,Z7,h11,List.length_append,List.length_singleton,List.length_map,List.length_take,ZM,not_false_eq_true,h]);(with_reducible repeat' (first|intro h|refine And.intro (by omega) ?_ | refine exP (by omega) ?_ | apply And.intro))))))
      all_goals try exact oF
      rename_i ra3 _ h12 rl3 _
      rw[List.take_of_length_le (l:=rs2.map NdO) (by simp)]
      exact nxF ⟨((rl3,rs2++[⟨ks[k][i].id,(IntKind.i64.wrap (ks[k][i].parent + ((rest.length+1:Nat):Int))),ks[k][i].place,ks[k][i].lit,ks[k][i].rule,l⟩]),i+1),by dsimp only;omega,by dsimp only;rw[show rs2 = _ from hrs2,jvT_step (by omega),List.append_assoc,(show l = _ from hlj),List.take_of_length_le (l:=ks[k][i].kids) (by omega)];simp[jvN, *],by simp;omega⟩ (by dsimp only;omega) (FE.trans (FE.perm (H:=[_,_,_,_,_,_]) (L:=[(rl3,_),(q3,_),(ro,_),(rb,_)]) (by repeat' (first|exact trivial|(refine And.intro (by simp only[Z9, *,if_true,if_false];try rfl) (And.intro (by simp[ZR,ZP, *]) ?_))))) (FE.closeL2 (L:=NdO { rt with kids:=rt.kids++[((rest.length+1:Nat):Int)] }::rs2.map NdO) (j:=5) (by simp[*]) rfl (by simp[hll]))) (by simp[E2]) (by simp[hll])
   ·obtain rfl:i=ks[k].length := by omega
    (((try refine qI ?_);(repeat ((first|with_reducible refine qU ?_ | simp only[Z5]);try simp (maxSteps:=9^7) only[↓ S2,S2,ZT,↓reduceIte,reduceNe,reduceEqDiff,reduceCtorEq,reduceLeDiff,reduceAdd,reduceLT,Z9,Z8,Z7,h8]));(try simp +contextual (disch:=omega) only[Z2,Z9,Z8,Z7,h8]);(with_reducible repeat' (first|intro h|refine And.intro (by omega) ?_ | refine exP (by omega) ?_ | apply And.intro)));(repeat' (have h:=Z0 h;simp only[Z1,ZY,Z3,ZZ,and_true,true_and] at h;((try refine qI ?_);(repeat ((first|with_reducible refine qU ?_ | simp only[Z5]);try simp (maxSteps:=9^7) only[↓ S2,S2,ZT,↓reduceIte,reduceNe,reduceEqDiff,reduceCtorEq,reduceLeDiff,reduceAdd,reduceLT,Z9,Z8,Z7,h8,h]));(try simp +contextual (disch:=omega) only[Z2,Z9,Z8,Z7,h8,h]);(with_reducible repeat' (first|intro h|refine And.intro (by omega) ?_ | refine exP (by omega) ?_ | apply And.intro))))))
    all_goals try exact oF
    exact nx ⟨(((q2,{ rt with kids:=rt.kids++[((rest.length+1:Nat):Int)] }),rs2),k+1),by dsimp only;omega,by dsimp only;rw[show rt = _ from hrt];simp only[jnK,show rest = _ from hrest],by dsimp only;rw[jnL_succ hlt,show rs2 = _ from hrs2,←show rest = _ from hrest,tL (by rw[jvT_len];omega)]⟩ (by dsimp only;omega) (by simp[E2]) rfl
  ·obtain rfl:k=ks.length:=by omega
   refine ZD mxd ?_
   (((try refine qI ?_);(repeat ((first|with_reducible refine qU ?_ | simp only[Z5]);try simp (maxSteps:=9^7) only[↓ S2,S2,ZT,↓reduceIte,reduceNe,reduceEqDiff,reduceCtorEq,reduceLeDiff,reduceAdd,reduceLT,Z9,Z8,Z7,h4]));(try simp +contextual (disch:=omega) only[Z2,Z9,Z8,Z7,h4]);(with_reducible repeat' (first|intro h|refine And.intro (by omega) ?_ | refine exP (by omega) ?_ | apply And.intro)));(repeat' (have h:=Z0 h;simp only[Z1,ZY,Z3,ZZ,and_true,true_and] at h;((try refine qI ?_);(repeat ((first|with_reducible refine qU ?_ | simp only[Z5]);try simp (maxSteps:=9^7) only[↓ S2,S2,ZT,↓reduceIte,reduceNe,reduceEqDiff,reduceCtorEq,reduceLeDiff,reduceAdd,reduceLT,Z9,Z8,Z7,h4,h]));(try simp +contextual (disch:=omega) only[Z2,Z9,Z8,Z7,h4,h]);(with_reducible repeat' (first|intro h|refine And.intro (by omega) ?_ | refine exP (by omega) ?_ | apply And.intro))))))
   change rt = _ at hrt;change rest = _ at hrest;subst hrt hrest
   exact ⟨q,rb,ro,_,_,rfl,by simp[*],rfl⟩
 refine h0.fr ?_
 rintro v H' ⟨r,rb,ro,u1,u2,rfl,h3,rfl⟩
 exact ⟨_,_,FR.perm (H:=[_,_,_]) (L:=[(r,6,_)]) (by simp[subH,ZW,names]),_,⟨r,rfl,rfl⟩,rfl⟩
theorem w98 (g:Gram) (s:ByteArray) (hg:smGr g):Pu 98 [Gr g,T s] (· = TS (rulO g s)):=by
 refine Pure.bor ?_
 have hg2:=hg.2.1
 refine ZN mxd i98 rfl (by simp) ?_;refine X0 ?_
 (refine V0 ?_;with_reducible repeat' first|exact trivial|intro h|refine aO ?_|refine eO ?_|apply jO)
 rename_i r0
 refine ploop mxd (ι:={ x:Nat×Nat // x.2≤g.rules.length }) (fun x=>[(1,T s),(2,.rop 2 (Gr g)),(5,.own x.1.1 1 0 (rulP g s x.1.2).length),(6,I x.1.2)]) (fun x=>[(x.1.1,1,(rulP g s x.1.2).map T)]) (fun x=>g.rules.length-x.1.2) ⟨(r0,0),by simp⟩ (by simp[E2,rulP]) (by simp[subH,ZW,names,rulP]) ?_
 rintro ⟨⟨q,k⟩,hk⟩ hn
 dsimp only at hk hn ⊢
 have hl:=rulP_len g s k
 rcases nL k g.rules.length with hlt|hge
 ·have e:=rulP_s (s:=s) hlt
  by_cases hs:g.rules[k].left = s
  ·have hs':=eq_true hs
   rw[if_pos hs] at e
   (refine V1 (jO hs' (jO @decide_true (jO @List.length_append.{0} (jO @List.length_singleton.{0} (jO @List.length_map.{0,0} (jO @List.length_take.{0} @ZM)))))) ?_;with_reducible repeat' first|exact trivial|intro h|refine aO ?_|refine eO ?_|apply jO)
   all_goals try exact oF
   rename_i q2 _ q3
   refine px ⟨(q3,k+1),by omega⟩ (by simp<;>omega) (by simp[E2,e]) ?_
   show subH _ [(q3,1,(rulP g s (k+1)).map T)]
   rw[e,List.map_append,tL (by simp)]
   exact (by repeat' (first|exact trivial|(refine And.intro (by simp only[Z9, *,if_true,if_false];try rfl) (And.intro (by simp[ZR,ZP, *]) ?_))))
  ·have hs':=eq_false hs
   rw[if_neg hs,List.append_nil] at e
   (refine V1 (jO hs' @decide_false) ?_;with_reducible repeat' first|exact trivial|intro h|refine aO ?_|refine eO ?_|apply jO)
   all_goals try exact oF
   refine px ⟨(q,k+1),by omega⟩ (by simp<;>omega) (by simp[E2,e]) ?_
   show subH _ [(q,1,(rulP g s (k+1)).map T)]
   rw[e]
   exact (by repeat' (first|exact trivial|(refine And.intro (by simp only[Z9, *,if_true,if_false];try rfl) (And.intro (by simp[ZR,ZP, *]) ?_))))
 ·obtain rfl:k=g.rules.length:=by omega
  rw[rulP_end]
  (refine V0 ?_;with_reducible repeat' first|exact trivial|intro h|refine aO ?_|refine eO ?_|apply jO)
  all_goals try exact oF
  exact Bor.allM (fun _ => rfl) ZX rfl
theorem w79 (g:Gram) (s:ByteArray) (room:Int) (hg:drG g):Dv Tryz.prog 79 [Gr g,T s,I room] (fun v=>∃r,okR g s room r∧v=Ru r):=by
 refine Dv.of fun rc H=> ?_
 have hsm:=drG_sm hg
 have hsl:=drG_len hg
 have hg8:=hg.2.2.1
 have hR:∀n∈rulO g s,ZH g.rules n∈g.rules:=fun n hn=>rulO_mem hn
 have hol:(rulO g s).length ≤ 8:=by
  have:=rulP_len g s g.rules.length
  rw[rulP_end] at this;omega
 have hro:=w98 g s hsm
 have hfr:=fun n=>w44 g n hsm
 generalize rulO g s=L at *
 have hat:∀c,Pu 100 [Gr g,T c] (· = I (ixOf (fun y:Sym=>decide (y.name=c)) g.syms)):=fun c=>w100 g c hsm
 have hmx:∀c,Pu 25 [I 0,I (ixOf (fun y:Sym=>decide (y.name=c)) g.syms)] (· = I (atS g c)):=fun c=>by
  have:=w25 0 (ixOf (fun y:Sym=>decide (y.name=c)) g.syms)
  have e:((atS g c:Nat):Int)=max 0 (ixOf (fun y:Sym=>decide (y.name=c)) g.syms):=by unfold atS;omega
  rw[e];exact this
 obtain ⟨hh,hht,hlt,hval⟩:∃hh:List Int,Pu 99 [Gr g] (· = IS hh)∧(∀c,atS g c<hh.length)∧∀c (h:atS g c<hh.length),hh[atS g c]=hAt g c:=⟨hgts g,w99 g hsm (by omega),fun c=>atS_lt hsl.1 c,fun c _ => hAt_eq hsl.1 c⟩
 refine ZN mxd i79 rfl (by simp) ?_;refine X0 ?_
 ((refine R1 (jO @Z9 (jO @Z8 @Z7)) ?_;with_reducible repeat' first|exact trivial|intro h|refine aO ?_|refine eO ?_|apply jO);(repeat' (have h:=Z0 h;simp only[Z1,ZY,Z3,ZZ,and_true,true_and] at h;(refine R1 (jO @Z9 (jO @Z8 (jO @Z7 h))) ?_;with_reducible repeat' first|exact trivial|intro h|refine aO ?_|refine eO ?_|apply jO))))
 refine callS.eq hro ?_
 ((refine R1 (jO @Z9 (jO @Z8 @Z7)) ?_;with_reducible repeat' first|exact trivial|intro h|refine aO ?_|refine eO ?_|apply jO);(repeat' (have h:=Z0 h;simp only[Z1,ZY,Z3,ZZ,and_true,true_and] at h;(refine R1 (jO @Z9 (jO @Z8 (jO @Z7 h))) ?_;with_reducible repeat' first|exact trivial|intro h|refine aO ?_|refine eO ?_|apply jO))))
 rename_i rb _
 refine callS.eq hht ?_
 ((refine R1 (jO @Z9 (jO @Z8 (jO @Z7 h))) ?_;with_reducible repeat' first|exact trivial|intro h|refine aO ?_|refine eO ?_|apply jO);(repeat' (have h:=Z0 h;simp only[Z1,ZY,Z3,ZZ,and_true,true_and] at h;(refine R1 (jO @Z9 (jO @Z8 (jO @Z7 (jO h h)))) ?_;with_reducible repeat' first|exact trivial|intro h|refine aO ?_|refine eO ?_|apply jO))))
 refine Zd mxd (ι:={ x:Rul×Nat // x.2≤L.length∧(x.1=rulZ∨x.1∈g.rules∧lowR g s x.1) }) (fun x=>[(0,.ptr rc 3 0 0),(2,T s),(3,I room),(5,.rop 2 (Gr g)),(8,.raw 6),(9,TS L),(10,.ptr rb 6 0 0),(11,IS hh),(12,I x.1.2)]) (fun x=>(rb,6,[Ru x.1.1])::(rc,3,[.cur])::H) (fun x=>L.length-x.1.2) ⟨(rulZ,0),by simp⟩ FE.rulz (by simp[E2]) rfl ?_
 rintro ⟨⟨b,i⟩,hi,hb⟩ hn2
 dsimp only at hi hb hn2 ⊢
 have h4:=Z0 hn2
 (replace h4:=h4;simp only[VN] at h4)
 refine ZD mxd ?_
 rcases nL i L.length with hli|hge
 ·((refine R1 (jO @Z9 (jO @Z8 (jO @Z7 h4))) ?_;with_reducible repeat' first|exact trivial|intro h|refine aO ?_|refine eO ?_|apply jO);(repeat' (have h:=Z0 h;simp only[Z1,ZY,Z3,ZZ,and_true,true_and] at h;(refine R1 (jO @Z9 (jO @Z8 (jO @Z7 (jO h4 h)))) ?_;with_reducible repeat' first|exact trivial|intro h|refine aO ?_|refine eO ?_|apply jO))))
  all_goals try exact oF
  refine callS.eq (hfr _) ?_
  have hrr:=hR _ (gM hli)
  generalize ZH g.rules L[i]=r at *
  have hr3:r.right.length≤3:=hg.2.2.2 r hrr
  ((refine R1 (jO @Z9 (jO @Z8 (jO @Z7 h4))) ?_;with_reducible repeat' first|exact trivial|intro h|refine aO ?_|refine eO ?_|apply jO);(repeat' (have h:=Z0 h;simp only[Z1,ZY,Z3,ZZ,and_true,true_and] at h;(refine R1 (jO @Z9 (jO @Z8 (jO @Z7 (jO h4 h)))) ?_;with_reducible repeat' first|exact trivial|intro h|refine aO ?_|refine eO ?_|apply jO))))
  refine Y5 mxd (ι:={ x:Bool×Nat // x.2≤r.right.length∧(x.1=true→∀c∈r.right.take x.2,hAt g c<hAt g s) }) (fun x=>[(0,.ptr rc 3 0 0),(2,T s),(3,I room),(5,.rop 2 (Gr g)),(8,.raw 6),(9,TS L),(10,.ptr rb 6 0 0),(11,IS hh),(12,I i),(13,.rop 6 (Ru r)),(15,B x.1.1),(16,I x.1.2)]) (fun _ => (rb,6,[Ru b])::(rc,3,[.cur])::H) (fun x=>r.right.length-x.1.2) ⟨(true,0),by simp⟩ (by simp[E2]) rfl ?_
  rintro ⟨⟨lo,k⟩,hk,hlo⟩
  dsimp only at hk hlo ⊢
  rcases nL k r.right.length with hlk|hgk
  ·have k1:=hlt r.right[k]
   have k2:=hlt s
   have hstep:hAt g r.right[k]<hAt g s→(∀c∈r.right.take k,hAt g c<hAt g s)→∀c∈r.right.take (k+1),hAt g c<hAt g s:=fun e1 e2 c hc=>by
    rw[List.take_add_one,List.getElem?_eq_getElem hlk] at hc
    rcases List.mem_append.1 hc with h|h
    ·exact e2 c h
    ·simp at h;rw[h];exact e1
   cases lo
   ·(((try refine qI ?_);(repeat ((first|with_reducible refine qU ?_ | simp only[Z5]);try simp (maxSteps:=9^7) only[↓ S2,S2,ZT,↓reduceIte,reduceNe,reduceEqDiff,reduceCtorEq,reduceLeDiff,reduceAdd,reduceLT,Z9,Z8,Z7,h4,Bool.false_eq_true]));(try simp +contextual (disch:=omega) only[Z2,Z9,Z8,Z7,h4,Bool.false_eq_true]);(with_reducible repeat' (first|intro h|refine And.intro (by omega) ?_ | refine exP (by omega) ?_ | apply And.intro)));(repeat' (have h:=Z0 h;simp only[Z1,ZY,Z3,ZZ,and_true,true_and] at h;((try refine qI ?_);(repeat ((first|with_reducible refine qU ?_ | simp only[Z5]);try simp (maxSteps:=9^7) only[↓ S2,S2,ZT,↓reduceIte,reduceNe,reduceEqDiff,reduceCtorEq,reduceLeDiff,reduceAdd,reduceLT,Z9,Z8,Z7,h4,Bool.false_eq_true,h]));(try simp +contextual (disch:=omega) only[Z2,Z9,Z8,Z7,h4,Bool.false_eq_true,h]);(with_reducible repeat' (first|intro h|refine And.intro (by omega) ?_ | refine exP (by omega) ?_ | apply And.intro))))))
    all_goals try exact oF
    exact nx ⟨(false,k+1),by dsimp only;omega,by simp⟩ (by dsimp only;omega) (by simp[E2]) rfl
   ·((refine R1 (jO @Z9 (jO @Z8 (jO @Z7 h4))) ?_;with_reducible repeat' first|exact trivial|intro h|refine aO ?_|refine eO ?_|apply jO);(repeat' (have h:=Z0 h;simp only[Z1,ZY,Z3,ZZ,and_true,true_and] at h;(refine R1 (jO @Z9 (jO @Z8 (jO @Z7 (jO h4 h)))) ?_;with_reducible repeat' first|exact trivial|intro h|refine aO ?_|refine eO ?_|apply jO))))
    all_goals try exact oF
    refine callS.eq (hat _) ?_
    ((refine R1 (jO @Z9 (jO @Z8 (jO @Z7 h4))) ?_;with_reducible repeat' first|exact trivial|intro h|refine aO ?_|refine eO ?_|apply jO);(repeat' (have h:=Z0 h;simp only[Z1,ZY,Z3,ZZ,and_true,true_and] at h;(refine R1 (jO @Z9 (jO @Z8 (jO @Z7 (jO h4 h)))) ?_;with_reducible repeat' first|exact trivial|intro h|refine aO ?_|refine eO ?_|apply jO))))
    refine callS.eq (hmx _) ?_
    ((refine R1 (jO @Z9 (jO @Z8 (jO @Z7 (jO h4 hval)))) ?_;with_reducible repeat' first|exact trivial|intro h|refine aO ?_|refine eO ?_|apply jO);(repeat' (have h:=Z0 h;simp only[Z1,ZY,Z3,ZZ,and_true,true_and] at h;(refine R1 (jO @Z9 (jO @Z8 (jO @Z7 (jO h4 (jO hval h))))) ?_;with_reducible repeat' first|exact trivial|intro h|refine aO ?_|refine eO ?_|apply jO))))
    all_goals try exact oF
    refine callS.eq (hat _) ?_
    ((refine R1 (jO @Z9 (jO @Z8 (jO @Z7 (jO h4 hval)))) ?_;with_reducible repeat' first|exact trivial|intro h|refine aO ?_|refine eO ?_|apply jO);(repeat' (have h:=Z0 h;simp only[Z1,ZY,Z3,ZZ,and_true,true_and] at h;(refine R1 (jO @Z9 (jO @Z8 (jO @Z7 (jO h4 (jO hval h))))) ?_;with_reducible repeat' first|exact trivial|intro h|refine aO ?_|refine eO ?_|apply jO))))
    refine callS.eq (hmx _) ?_
    ((refine R1 (jO @Z9 (jO @Z8 (jO @Z7 (jO h4 hval)))) ?_;with_reducible repeat' first|exact trivial|intro h|refine aO ?_|refine eO ?_|apply jO);(repeat' (have h:=Z0 h;simp only[Z1,ZY,Z3,ZZ,and_true,true_and] at h;(refine R1 (jO @Z9 (jO @Z8 (jO @Z7 (jO h4 (jO hval h))))) ?_;with_reducible repeat' first|exact trivial|intro h|refine aO ?_|refine eO ?_|apply jO))))
    all_goals try exact oF
    exact nx ⟨(decide (hAt g r.right[k]<hAt g s),k+1),by dsimp only;omega,fun e=>hstep (of_decide_eq_true e) (hlo rfl)⟩ (by dsimp only;omega) (by simp[E2]) rfl
  ·((refine R1 (jO @Z9 (jO @Z8 (jO @Z7 h4))) ?_;with_reducible repeat' first|exact trivial|intro h|refine aO ?_|refine eO ?_|apply jO);(repeat' (have h:=Z0 h;simp only[Z1,ZY,Z3,ZZ,and_true,true_and] at h;(refine R1 (jO @Z9 (jO @Z8 (jO @Z7 (jO h4 h)))) ?_;with_reducible repeat' first|exact trivial|intro h|refine aO ?_|refine eO ?_|apply jO))))
   all_goals try exact oF
   all_goals first
    | exact nx ⟨(r,i+1),by dsimp only;omega,.inr ⟨hrr,fun c hc=>hlo (by first|rfl|assumption) c (by rw[tL (by omega)];exact hc)⟩⟩ (by dsimp only;omega) (by simp[E2]) rfl
    | exact nx ⟨(b,i+1),by dsimp only;omega,hb⟩ (by dsimp only;omega) (by simp[E2]) rfl
 ·have hbo:okR g s room b:=⟨hb.imp id (·.1),fun _ => hb.imp id (·.2)⟩
  have finb:∃G T L,(∃r,okR g s room r∧G=Ru r)∧Bor L (.agg [Gh.T b.name,Gh.T b.left,TS b.right,B b.lit,QnS b.eqs,CoS b.cons]) G∧(rb,6,[Ru b])::(rc,3,[GV.cur])::H=T++H∧subH T (L++[(rc,3,[GV.cur])]):=
   ⟨_,[_,_],[],⟨b,hbo,rfl⟩,.refl,rfl,(by repeat' (first|exact trivial|(refine And.intro (by simp only[Z9, *,if_true,if_false];try rfl) (And.intro (by simp[ZR,ZP, *]) ?_))))⟩
  ((refine R1 (jO @Z9 (jO @Z8 (jO @Z7 h4))) ?_;with_reducible repeat' first|exact trivial|intro h|refine aO ?_|refine eO ?_|apply jO);(repeat' (have h:=Z0 h;simp only[Z1,ZY,Z3,ZZ,and_true,true_and] at h;(refine R1 (jO @Z9 (jO @Z8 (jO @Z7 (jO h4 h)))) ?_;with_reducible repeat' first|exact trivial|intro h|refine aO ?_|refine eO ?_|apply jO))))
  all_goals try exact oF
  ·exact finb
  ·exact finb
  refine callS.dv (w32 4) (by simp only[Z9,h4,if_true,if_false]) ?_
  rintro _ ⟨b2,rfl⟩
  cases b2
  ·((refine R1 (jO @Z9 (jO @Z8 (jO @Z7 h4))) ?_;with_reducible repeat' first|exact trivial|intro h|refine aO ?_|refine eO ?_|apply jO);(repeat' (have h:=Z0 h;simp only[Z1,ZY,Z3,ZZ,and_true,true_and] at h;(refine R1 (jO @Z9 (jO @Z8 (jO @Z7 (jO h4 h)))) ?_;with_reducible repeat' first|exact trivial|intro h|refine aO ?_|refine eO ?_|apply jO))))
   all_goals try exact oF
   refine callA.dv (wz47 L.length (by omega)) (by simp only[Z9,h4,if_true,if_false]) ?_
   rintro _ ⟨z,hz,rfl⟩
   ((refine R1 (jO @Z9 (jO @Z8 (jO @Z7 h4))) ?_;with_reducible repeat' first|exact trivial|intro h|refine aO ?_|refine eO ?_|apply jO);(repeat' (have h:=Z0 h;simp only[Z1,ZY,Z3,ZZ,and_true,true_and] at h;(refine R1 (jO @Z9 (jO @Z8 (jO @Z7 (jO h4 h)))) ?_;with_reducible repeat' first|exact trivial|intro h|refine aO ?_|refine eO ?_|apply jO))))
   all_goals try exact oF
   refine callS.eq (hfr _) ?_
   ((refine R1 (jO @Z9 (jO @Z8 (jO @Z7 h4))) ?_;with_reducible repeat' first|exact trivial|intro h|refine aO ?_|refine eO ?_|apply jO);(repeat' (have h:=Z0 h;simp only[Z1,ZY,Z3,ZZ,and_true,true_and] at h;(refine R1 (jO @Z9 (jO @Z8 (jO @Z7 (jO h4 h)))) ?_;with_reducible repeat' first|exact trivial|intro h|refine aO ?_|refine eO ?_|apply jO))))
   all_goals try exact oF
   exact ⟨_,[_,_],[],⟨_,⟨.inr (hR _ (gM _)),fun _ => by omega⟩,rfl⟩,.refl,rfl,(by repeat' (first|exact trivial|(refine And.intro (by simp only[Z9, *,if_true,if_false];try rfl) (And.intro (by simp[ZR,ZP, *]) ?_))))⟩
  ·((refine R1 (jO @Z9 (jO @Z8 (jO @Z7 h4))) ?_;with_reducible repeat' first|exact trivial|intro h|refine aO ?_|refine eO ?_|apply jO);(repeat' (have h:=Z0 h;simp only[Z1,ZY,Z3,ZZ,and_true,true_and] at h;(refine R1 (jO @Z9 (jO @Z8 (jO @Z7 (jO h4 h)))) ?_;with_reducible repeat' first|exact trivial|intro h|refine aO ?_|refine eO ?_|apply jO))))
   all_goals try exact oF
   exact finb
end Go.Proofs.YtmdfoigdflaliaaGreatDoor
