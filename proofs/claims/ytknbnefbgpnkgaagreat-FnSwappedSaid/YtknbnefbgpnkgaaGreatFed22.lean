/- The laws FnEdits, FnEdited and FnSwapped return true whatever the input, and the input reads behind the call as before. No condition. -/
import Derived.Test.YtknbnefbgpnkgaaGreatFed21
set_option maxHeartbeats 40000000
set_option maxRecDepth 20000
set_option linter.unusedSimpArgs false
set_option linter.unusedVariables false
namespace Go.Proofs.YtknbnefbgpnkgaaGreat
open Go.Gh
open Nat (reduceEqDiff reduceLeDiff reduceAdd reduceLT)
open Int (reduceNe)
theorem w171 (k i:Int) (n b:Nat) (hi:0≤i) (hi2:i≤1048576) (hn:n≤1048576):Pu 171 [I k,.rop 1 (I i),.rop 1 (I n),.rop 1 (I b)] (· = I (shK (i+n) (b-n) k)):=by
 refine ZZ mxd i171 rfl (by simp) ?_;refine X0 ?_
 (refine R0 ?_;with_reducible repeat' first|intro h|apply jO)
 all_goals try exact oF
 ·rw[shK,if_pos oT,wrap_w]
  exact congrArg (fun z=>I (IntKind.i64.wrap z)) oT
 ·rw[shK,if_neg oT]
theorem o116 (t:List Nod) (i:Int) (sub:List Nod) (hl:t.length≤1048576) (hx:∀x∈t,x.kids.length≤1048576) (hsl:sub.length≤1048576) (hsx:∀x∈sub,x.kids.length≤1048576) (H:GH):Gc 116 [Tr t,I i,Tr sub] H (fun g H'=>∃H1,(∃r,g = .agg [.own r 6 0 (YV t i sub).length]∧H1=[(r,6,(YV t i sub).map NdO)])∧H'=H1++H):=by
 have h0:Gc 116 [Tr t,I i,Tr sub] H (fun g H'=>∃r,g = .agg [.own r 6 0 (YV t i sub).length]∧(H'=(r,6,(YV t i sub).map NdO)::H∨∃r0 e,r≠r0∧H'=(r,6,(YV t i sub).map NdO)::(r0,1,e)::H)):=by
  refine ZZ mxd i116 rfl (by simp) ?_;refine X0 ?_
  refine callS.eq (w81 t i) ?_
  by_cases hc:0≤i∧i<t.length∧sub≠[]
  ·obtain ⟨i,rfl⟩:∃k:Nat,i=k:=⟨i.toNat,oT⟩
   have hi:i<t.length:=by omega
   have hi0:(0:Int)≤i∧(i:Int)<t.length:=by omega
   have hle:=Yr hi
   have hpos:=subLen_pos (t:=t) (i:=i)
   have hsn:0<sub.length:=List.length_pos_iff.2 hc.2.2
   have hs0:¬((sub.length:Int)=0):=by omega
   obtain ⟨F,hF⟩:∃F,outN (i+ZC t i) (sub.length-ZC t i)=F:=⟨_,rfl⟩
   have hre:YV t i sub=repP t i (ZC t i) sub F t[i] t.length:=by
    rw[repP_end hpos hle]
    simp only[YV,if_pos hc,hF,Int.toNat_natCast]
    rw[Z3 hi]
   rw[hre]
   clear hre
   (refine V1 (jO hi0 hs0) ?_)
   refine callS.eq (w115 t i) ?_
   rw[YB hi]
   generalize hnn:ZC t i=n at *
   (refine V1 (jO hi0 hs0) ?_;with_reducible repeat' intro h)
   rename_i r0
   have hpl:=repP_len t i n sub F t[i]
   refine Y5 mxd (ι:={ y:Nat×Nat // y.2≤t.length }) (fun y=>[(3,.rop 1 (Tr t)),(4,.rop 1 (I i)),(5,.rop 1 (Tr sub)),(6,.raw 1),(7,.rop 1 (I n)),(8,.rop 1 (I sub.length)),(9,.clo 171 [.rop 1 (I i),.rop 1 (I n),.rop 1 (I sub.length)]),(10,.ptr r0 1 0 0),(39,NdS t),(40,I t.length),(41,I y.1.2)]) (fun y=>(y.1.1,6,(repP t i n sub F t[i] y.1.2).map NdO)::(r0,1,[.own y.1.1 6 0 (repP t i n sub F t[i] y.1.2).length])::H) (fun y=>t.length-y.1.2) ⟨(YA ((r0,1,[.agg [.val (.slice none 0 0)]])::H),0),by simp⟩ (FE.virtU1 (sz1:=6) (Yp _) (Yq _)) (by simp[E2]) rfl ?_
   rintro ⟨⟨q,k⟩,hk⟩ hn
   dsimp only at hk hn ⊢
   refine ZB mxd ?_
   replace hn:=Z6 hn
   (replace hn:=hn;simp only[VN] at hn)
   rcases nL k t.length with hlt|hge
   ·have hxk:=hx _ (gM hlt)
    rcases (show (k<i∨i+n≤k)∨k=i∨(i<k∧k<i+n) by omega) with hkk|hkk|hkk
    ·have h1:¬((k:Int)=i):=by omega
     have h2:¬((i:Int)≤k∧(k:Int)≤i+n-1):=by omega
     have hstep:repP t i n sub F t[i] (k+1)=repP t i n sub F t[i] k++[F t[k]]:=hkk.elim (fun h=>repP_lo h hlt) (fun h=>repP_hi hpos h hlt)
     have hpk:=hpl k
     (refine V1 (jO hn (jO h1 (jO @List.length_append.{0} (jO @List.length_singleton.{0} (jO @List.length_map.{0,0} (jO @List.length_take.{0} @ZQ)))))) ?_;with_reducible repeat' first|intro h|apply jO)
     all_goals try exact oF
     refine callS.eq (w57 _ _ _) ?_
     (refine V1 (jO hn (jO h1 (jO h2 (jO @List.length_append.{0} (jO @List.length_singleton.{0} (jO @List.length_map.{0,0} (jO @List.length_take.{0} @ZQ))))))) ?_)
     all_goals try exact oF
     rename_i rn
     have hrn:=(show (¬rn=q∧¬q=rn∧¬rn=r0∧¬r0=rn∧neA rn H) from h.1)
     refine callS.eq (w171 _ i n sub.length oT oT oT) ?_
     (refine V1 (jO hn (jO hrn (jO h1 (jO h2 (jO @List.length_append.{0} (jO @List.length_singleton.{0} (jO @List.length_map.{0,0} (jO @List.length_take.{0} @ZQ)))))))) ?_)
     refine callA.of (o112 _ hxk _) (by rintro g H' ⟨H1,_,rfl⟩;exact ⟨H1,rfl⟩) ?_
     rintro g H' ⟨H1,⟨rc,rfl,rfl⟩,rfl⟩ hnc
     replace hnc:=Z6 hnc
     simp only[List.cons_append,List.nil_append] at hnc ⊢
     (replace hnc:=hnc;simp only[VN] at hnc)
     (refine V1 (jO hn (jO hnc (jO @List.length_append.{0} (jO @List.length_singleton.{0} (jO @List.length_map.{0,0} (jO @List.length_take.{0} @ZQ)))))) ?_;with_reducible repeat' first|exact trivial|intro h|refine aO ?_|refine eO ?_|apply jO)
     obtain ⟨G,hG⟩:∃G,shK (i+n) (sub.length-n)=G:=⟨_,rfl⟩
     refine ZK mxd (ι:={ c:Nat // c≤t[k].kids.length }) (fun c=>[(3,.rop 1 (Tr t)),(4,.rop 1 (I i)),(5,.rop 1 (Tr sub)),(6,.raw 1),(7,.rop 1 (I n)),(8,.rop 1 (I sub.length)),(9,.clo 171 [.rop 1 (I i),.rop 1 (I n),.rop 1 (I sub.length)]),(10,.ptr r0 1 0 0),(39,NdS t),(40,I t.length),(41,I k),(12,.ptr rn 6 0 0),(110,.own rc 1 0 t[k].kids.length),(111,I t[k].kids.length),(112,I c.1)])
      (fun c=>(rc,1,((t[k].kids.take c.1).map G++t[k].kids.drop c.1).map I)::(rn,6,[.agg [I t[k].id,I (G t[k].parent),I t[k].place,I t[k].lit,T t[k].rule,.own rc 1 0 t[k].kids.length]])::(q,6,(repP t i n sub F t[i] k).map NdO)::(r0,1,[.own q 6 0 (repP t i n sub F t[i] k).length])::H) (fun c=>t[k].kids.length - c.1) ⟨0,oT⟩ (by simp[E2]) (by simp[hG]) ?_
     rintro ⟨c,hc⟩
     have hml:((t[k].kids.take c).map G++t[k].kids.drop c).length = t[k].kids.length := mapm_len
     rcases nL c t[k].kids.length with hcl|hcl
     ·have hmg:=mapm_get (f:=G) hcl oT
      have hms:=mapm_set (f:=G) hcl
      ((try refine qI ?_);(repeat ((first|with_reducible refine qU ?_ | simp only[ZP]);try simp (maxSteps:=9^7) +contextual only[↓ S2,S2,↓reduceIte,reduceNe,reduceEqDiff,reduceCtorEq,reduceLeDiff,reduceAdd,reduceLT,VQ,hn,hnc,hml,List.getElem_map,List.length_append,List.length_singleton,List.length_map,List.length_take,ZQ]));(try simp +contextual (disch:=omega) only[Z2,hn,hnc,hml,List.getElem_map,List.length_append,List.length_singleton,List.length_map,List.length_take,ZQ]);(with_reducible repeat' (first|intro h|refine jO oT ?_ | refine exP oT ?_ | apply jO)))
      all_goals try exact oF
      refine callS.eq (w171 _ i n sub.length oT oT oT) ?_
      ((try refine qI ?_);(repeat ((first|with_reducible refine qU ?_ | simp only[ZP]);try simp (maxSteps:=9^7) +contextual only[↓ S2,S2,↓reduceIte,reduceNe,reduceEqDiff,reduceCtorEq,reduceLeDiff,reduceAdd,reduceLT,VQ,hn,hnc,hml,List.getElem_map,List.length_append,List.length_singleton,List.length_map,List.length_take,ZQ]));(try simp +contextual (disch:=omega) only[Z2,hn,hnc,hml,List.getElem_map,List.length_append,List.length_singleton,List.length_map,List.length_take,ZQ]);(with_reducible repeat' (first|intro h|refine jO oT ?_ | refine exP oT ?_ | apply jO)))
      all_goals try exact oF
      refine nx ⟨c+1,oT⟩ (by simp;omega) (by simp[E2]) ?_
      simp only[hmg,←List.map_set,hG]
      exact congrArg (fun l=>(rc,1,List.map I l) :: _) hms
     ·obtain rfl:c=t[k].kids.length := by omega
      (refine V1 (jO hn (jO hnc (jO hml (jO @List.length_append.{0} (jO @List.length_singleton.{0} (jO @List.length_map.{0,0} (jO @List.length_take.{0} @ZQ))))))) ?_;with_reducible repeat' first|exact trivial|intro h|refine aO ?_|refine eO ?_|apply jO)
      all_goals try exact oF
      rename_i r3 _ r4
      refine nxF ⟨(r4,k+1),oT⟩ (by simp;omega) (FE.trans (FE.perm (H:=[_,_,_,_,_]) (L:=[(r4,_),(rc,_),(r0,_)]) (by repeat' (first|exact trivial|(refine jO (by simp only[Z9, *,if_true,if_false];try rfl) (jO (by simp[ZW,ZV, *]) ?_))))) (FE.closeL2 (j:=5) (by simp[*]) rfl (by simp))) (by simp[E2,hstep]) ?_
      dsimp only
      rw[List.take_of_length_le (l:=List.map NdO _) (by simp),List.take_length,List.drop_length,List.append_nil,hstep,List.map_append,List.length_append,←hF,←hG]
      rfl
    ·obtain rfl:i=k:=hkk.symm
     clear hkk
     (refine V1 (jO hn (jO @List.length_append.{0} (jO @List.length_singleton.{0} (jO @List.length_map.{0,0} (jO @List.length_take.{0} (jO @List.length_drop.{0} (jO @List.length_cons.{0} @ZQ))))))) ?_;with_reducible repeat' first|intro h|apply jO)
     all_goals try exact oF
     rename_i rn
     refine callS.of (o58 sub hsl hsx _) ?_
     rintro g H' ⟨rs,rfl,rfl⟩ hns
     replace hns:=Z6 hns
     (replace hns:=hns;simp only[VN] at hns)
     (refine V1 (jO hn (jO hns (jO @List.length_append.{0} (jO @List.length_singleton.{0} (jO @List.length_map.{0,0} (jO @List.length_take.{0} (jO @List.length_drop.{0} (jO @List.length_cons.{0} @ZQ)))))))) ?_)
     have hptl:(putT sub t[i] i).length = sub.length:=putT_len _ _ _
     have hpk:=hpl i
     generalize hP:repP t i n sub F t[i] i=P at *
     generalize hPT:putT sub t[i] i=PT at *
     refine Y5 mxd (ι:={ y:Nat×List GV // y.2.length≤sub.length }) (fun y=>[(3,.rop 1 (Tr t)),(4,.rop 1 (I i)),(5,.rop 1 (Tr sub)),(6,.raw 1),(7,.rop 1 (I n)),(8,.rop 1 (I sub.length)),(9,.clo 171 [.rop 1 (I i),.rop 1 (I n),.rop 1 (I sub.length)]),(10,.ptr r0 1 0 0),(39,NdS t),(40,I t.length),(41,I i),(11,I i),(12,.rop 6 (Nd t[i])),(51,.own rs 6 0 sub.length),(52,I sub.length),(53,I y.1.2.length)])
      (fun y=>(y.1.1,6,(P++PT.take y.1.2.length).map NdO)::(r0,1,[.own y.1.1 6 0 (P.length+y.1.2.length)])::(rs,6,y.1.2++(sub.drop y.1.2.length).map NdO)::H) (fun y=>sub.length-y.1.2.length) ⟨(q,[]),by simp⟩ (FE.trans (FE.perm (H:=[_,_,_,_]) (L:=[(rn,_),(q,_),(r0,_),(rs,_)]) (by repeat' (first|exact trivial|(refine jO (by simp only[Z9, *,if_true,if_false];try rfl) (jO (by simp[ZW,ZV, *]) ?_))))) (FE.ropV1 12 rfl rfl)) (by simp[E2,eset,view,Zc]) (by simp) ?_
     rintro ⟨⟨q2,st⟩,hst⟩ hn2
     dsimp only at hst hn2 ⊢
     replace hn2:=Z6 hn2
     (replace hn2:=hn2;simp only[VN] at hn2)
     rcases nL st.length sub.length with hm|hm
     ·have hxs:=hsx _ (gM hm)
      rw[List.drop_eq_getElem_cons hm,List.map_cons]
      refine GW.opn (r:=rs) (i:=st.length) (j:=5) (sz:=6) (sz1:=1) (es:=st++NdO sub[st.length]::(sub.drop (st.length+1)).map NdO) (gs:=[I sub[st.length].id,I sub[st.length].parent,I sub[st.length].place,I sub[st.length].lit,T sub[st.length].rule,.osl 1 (sub[st.length].kids.map I)]) (ks:=sub[st.length].kids.map I) (by simp[Z9,hn2]) (by simp) rfl fun r1 hn1=> ?_
      replace hn1:=Z6 hn1
      (replace hn1:=hn1;simp only[VN] at hn1)
      refine ZB mxd ?_
      simp only[Z7,hn2,if_true,if_false,set_mid,List.set,List.length_map]
      have hm0:st.length=0∨¬st.length=0:=by omega
      have hm1:(st.length:Int)=0↔st.length=0:=by omega
      obtain ⟨x,hxe⟩:∃x,sub[st.length]=x:=⟨_,rfl⟩
      simp only[hxe] at hxs hn1 ⊢
      have hput:PT.take (st.length+1)=PT.take st.length++[putK sub t[i] i st.length]:=by rw[←hPT];exact (putT_take hm).symm
      have hgd:sub.getD st.length ndZ=x:=by rw[Z3 hm];exact hxe
      have hpt:(PT.take st.length).length = st.length:=by simp;omega
      obtain ⟨G,hG⟩:∃G,(fun y:Int=>IntKind.i64.wrap (y+i))=G:=⟨_,rfl⟩
      have hGx:∀y,IntKind.i64.wrap (y+i)=G y:=fun y=>congrFun hG y
      rcases hm0 with hm0|hm0
      all_goals try (obtain rfl:=List.length_eq_zero_iff.1 hm0;simp only[List.nil_append,List.length_nil] at *)
      all_goals
       ((try refine qI ?_);(repeat ((first|with_reducible refine qU ?_ | simp only[ZP]);try simp (maxSteps:=9^7) +contextual only[↓ S2,S2,↓reduceIte,reduceNe,reduceEqDiff,reduceCtorEq,reduceLeDiff,reduceAdd,reduceLT,VQ,hn2,hn1,get_mid,hm0,hm1,List.nil_append,List.getElem_cons_zero,List.length_nil,hGx,List.length_append,List.length_singleton,List.length_map,List.length_take,List.length_drop,List.length_cons,ZQ]));(try simp +contextual (disch:=omega) only[Z2,hn2,hn1,get_mid,hm0,hm1,List.nil_append,List.getElem_cons_zero,List.length_nil,hGx,List.length_append,List.length_singleton,List.length_map,List.length_take,List.length_drop,List.length_cons,ZQ]);(with_reducible repeat' (first|intro h|refine jO oT ?_ | refine exP oT ?_ | apply jO)))
      all_goals try exact oF
      ·rename_i ro
       refine wloopN mxd (ι:={ c:Nat // c≤x.kids.length }) (fun c=>[(3,.rop 1 (Tr t)),(4,.rop 1 (I i)),(5,.rop 1 (Tr sub)),(6,.raw 1),(7,.rop 1 (I n)),(8,.rop 1 (I sub.length)),(9,.clo 171 [.rop 1 (I i),.rop 1 (I n),.rop 1 (I sub.length)]),(10,.ptr r0 1 0 0),(39,NdS t),(40,I t.length),(41,I i),(11,I i),(12,.rop 6 (Nd t[i])),(51,.own rs 6 0 sub.length),(52,I sub.length),(53,I ((0:Nat):Nat)),(14,.ptr ro 6 0 0),(72,.own r1 1 0 x.kids.length),(73,I x.kids.length),(74,I c.1)])
        (fun c=>(ro,6,[.agg [I x.id,I t[i].parent,I t[i].place,I x.lit,T x.rule,.own r1 1 0 x.kids.length]])::(r1,1,((x.kids.take c.1).map G++x.kids.drop c.1).map I)::(q2,6,P.map NdO)::(r0,1,[.own q2 6 0 P.length])::(rs,6,.agg [I x.id,I x.parent,I x.place,I x.lit,T x.rule,.own r1 1 0 x.kids.length]::(sub.drop (0+1)).map NdO)::H) (fun c=>x.kids.length-c.1) ⟨0,oT⟩ (by simp[E2]) (by simp) ?_
       rintro ⟨c,hc⟩ hn3
       dsimp only at hn3
       replace hn3:=Z6 hn3
       (replace hn3:=hn3;simp only[VN] at hn3)
       have hml:((x.kids.take c).map G++x.kids.drop c).length = x.kids.length:=mapm_len
       rcases nL c x.kids.length with hcl|hcl
       ·have hmg:=mapm_get (f:=G) hcl oT
        have hms:=mapm_set (f:=G) hcl
        ((try refine qI ?_);(repeat ((first|with_reducible refine qU ?_ | simp only[ZP]);try simp (maxSteps:=9^7) +contextual only[↓ S2,S2,↓reduceIte,reduceNe,reduceEqDiff,reduceCtorEq,reduceLeDiff,reduceAdd,reduceLT,VQ,hn3,hml,hGx,List.getElem_map,List.length_append,List.length_singleton,List.length_map,List.length_take,List.length_drop,List.length_cons,ZQ]));(try simp +contextual (disch:=omega) only[Z2,hn3,hml,hGx,List.getElem_map,List.length_append,List.length_singleton,List.length_map,List.length_take,List.length_drop,List.length_cons,ZQ]);(with_reducible repeat' (first|intro h|refine jO oT ?_ | refine exP oT ?_ | apply jO)))
        all_goals try exact oF
        refine nx ⟨c+1,oT⟩ (by simp;omega) (by simp[E2]) ?_
        simp only[hmg,←List.map_set]
        exact congrArg (fun l=>(ro,6,_)::(r1,1,List.map I l) :: _) hms
       ·obtain rfl:c=x.kids.length:=by omega
        (refine V1 (jO hn3 (jO hml (jO @List.length_append.{0} (jO @List.length_singleton.{0} (jO @List.length_map.{0,0} (jO @List.length_take.{0} (jO @List.length_drop.{0} (jO @List.length_cons.{0} @ZQ)))))))) ?_;with_reducible repeat' first|intro h|refine aO ?_)
        all_goals try exact oF
        rename_i r3 _ r4
        refine nxF ⟨(r4,[.agg [I x.id,I x.parent,I x.place,I x.lit,T x.rule,.own r1 1 0 x.kids.length]]),by simp;omega⟩ (by simp;omega) (FE.trans (FE.perm (H:=[_,_,_,_,_,_]) (L:=[(r4,_),(r1,_),(r0,_),(rs,_)]) (by repeat' (first|exact trivial|(refine jO (by simp only[Z9, *,if_true,if_false];try rfl) (jO (by simp[ZW,ZV, *]) ?_))))) (FE.closeL2 (j:=5) (by simp[*]) rfl (by simp))) (by simp[E2]) ?_
        have hput1:PT.take 1=[putK sub t[i] i 0]:=by simpa using hput
        have hgd0:sub.getD 0 ndZ=x:=hgd
        dsimp only
        rw[List.take_of_length_le (l:=List.map NdO _) (by simp),List.take_length,List.drop_length,List.append_nil]
        simp only[List.length_singleton,hput1,List.map_append,List.map_cons,List.map_nil,putK,if_true,hgd0]
        subst hG
        rfl
      ·rename_i ro
       refine wloopN mxd (ι:={ c:Nat // c≤x.kids.length }) (fun c=>[(3,.rop 1 (Tr t)),(4,.rop 1 (I i)),(5,.rop 1 (Tr sub)),(6,.raw 1),(7,.rop 1 (I n)),(8,.rop 1 (I sub.length)),(9,.clo 171 [.rop 1 (I i),.rop 1 (I n),.rop 1 (I sub.length)]),(10,.ptr r0 1 0 0),(39,NdS t),(40,I t.length),(41,I i),(11,I i),(12,.rop 6 (Nd t[i])),(51,.own rs 6 0 sub.length),(52,I sub.length),(53,I (st.length:Nat)),(14,.ptr ro 6 0 0),(72,.own r1 1 0 x.kids.length),(73,I x.kids.length),(74,I c.1)])
        (fun c=>(ro,6,[.agg [I x.id,I (G x.parent),I x.place,I x.lit,T x.rule,.own r1 1 0 x.kids.length]])::(r1,1,((x.kids.take c.1).map G++x.kids.drop c.1).map I)::(q2,6,(P++PT.take st.length).map NdO)::(r0,1,[.own q2 6 0 (P.length+st.length)])::(rs,6,st ++ .agg [I x.id,I x.parent,I x.place,I x.lit,T x.rule,.own r1 1 0 x.kids.length]::(sub.drop (st.length+1)).map NdO)::H) (fun c=>x.kids.length-c.1) ⟨0,oT⟩ (by simp[E2]) (by simp) ?_
       rintro ⟨c,hc⟩ hn3
       dsimp only at hn3
       replace hn3:=Z6 hn3
       (replace hn3:=hn3;simp only[VN] at hn3)
       have hml:((x.kids.take c).map G++x.kids.drop c).length = x.kids.length:=mapm_len
       rcases nL c x.kids.length with hcl|hcl
       ·have hmg:=mapm_get (f:=G) hcl oT
        have hms:=mapm_set (f:=G) hcl
        ((try refine qI ?_);(repeat ((first|with_reducible refine qU ?_ | simp only[ZP]);try simp (maxSteps:=9^7) +contextual only[↓ S2,S2,↓reduceIte,reduceNe,reduceEqDiff,reduceCtorEq,reduceLeDiff,reduceAdd,reduceLT,VQ,hn3,hml,hGx,List.getElem_map,List.length_append,List.length_singleton,List.length_map,List.length_take,List.length_drop,List.length_cons,ZQ]));(try simp +contextual (disch:=omega) only[Z2,hn3,hml,hGx,List.getElem_map,List.length_append,List.length_singleton,List.length_map,List.length_take,List.length_drop,List.length_cons,ZQ]);(with_reducible repeat' (first|intro h|refine jO oT ?_ | refine exP oT ?_ | apply jO)))
        all_goals try exact oF
        refine nx ⟨c+1,oT⟩ (by simp;omega) (by simp[E2]) ?_
        simp only[hmg,←List.map_set]
        exact congrArg (fun l=>(ro,6,_)::(r1,1,List.map I l) :: _) hms
       ·obtain rfl:c=x.kids.length:=by omega
        (refine V1 (jO hn3 (jO hml (jO @List.length_append.{0} (jO @List.length_singleton.{0} (jO @List.length_map.{0,0} (jO @List.length_take.{0} (jO @List.length_drop.{0} (jO @List.length_cons.{0} @ZQ)))))))) ?_;with_reducible repeat' first|intro h|refine aO ?_)
        all_goals try exact oF
        rename_i r3 _ r4
        refine nxF ⟨(r4,st++[.agg [I x.id,I x.parent,I x.place,I x.lit,T x.rule,.own r1 1 0 x.kids.length]]),by simp;omega⟩ (by simp;omega) (FE.trans (FE.perm (H:=[_,_,_,_,_,_]) (L:=[(r4,_),(r1,_),(r0,_),(rs,_)]) (by repeat' (first|exact trivial|(refine jO (by simp only[Z9, *,if_true,if_false];try rfl) (jO (by simp[ZW,ZV, *]) ?_))))) (FE.closeL2 (j:=5) (by simp[*]) rfl (by simp))) (by simp[E2]) ?_
        dsimp only
        rw[List.take_of_length_le (l:=List.map NdO _) (by simp;omega),List.take_length,List.drop_length,List.append_nil]
        simp only[List.length_append,List.length_singleton,hput,List.map_append,List.map_cons,List.map_nil,putK,if_neg hm0,hgd,List.append_assoc,List.cons_append,List.nil_append]
        subst hG
        rfl
     ·have hki:st.length=sub.length:=by omega
      refine ZB mxd ?_
      (refine V1 (jO hn2 (jO hki (jO @List.length_append.{0} (jO @List.length_singleton.{0} (jO @List.length_map.{0,0} (jO @List.length_take.{0} (jO @List.length_drop.{0} (jO @List.length_cons.{0} @ZQ)))))))) ?_;with_reducible repeat' intro h)
      all_goals try exact oF
      refine callS.eq (w57 _ _ _) ?_
      have h2:((i:Int)≤i∧(i:Int)≤i+n-1):=by omega
      (refine V1 (jO hn2 (jO h2 (jO @List.length_append.{0} (jO @List.length_singleton.{0} (jO @List.length_map.{0,0} (jO @List.length_take.{0} (jO @List.length_drop.{0} (jO @List.length_cons.{0} @ZQ)))))))) ?_)
      all_goals try exact oF
      refine nxF ⟨(q2,i+1),oT⟩ (by simp;omega) (FE.perm (H:=[_,_,_]) (L:=[(q2,_),(r0,_)]) (by repeat' (first|exact trivial|(refine jO (by simp only[Z9, *,if_true,if_false];try rfl) (jO (by simp[ZW,ZV, *]) ?_))))) ?_ ?_
      ·have hat:repP t i n sub F t[i] (i+1)=P++PT:=by rw[repP_at hpos,hP,hPT]
       simp[E2,hat,hptl,hki]
      ·have hat:repP t i n sub F t[i] (i+1)=P++PT:=by rw[repP_at hpos,hP,hPT]
       dsimp only
       rw[hat,List.take_of_length_le (l:=PT) oT,List.length_append,hptl]
       rfl
    ·have h1:¬((k:Int)=i):=by omega
     have h2:((i:Int)≤k∧(k:Int)≤i+n-1):=by omega
     (refine V1 (jO hn (jO h1 (jO @List.length_append.{0} (jO @List.length_singleton.{0} (jO @List.length_map.{0,0} (jO @List.length_take.{0} @ZQ)))))) ?_;with_reducible repeat' first|intro h|apply jO)
     all_goals try exact oF
     refine callS.eq (w57 _ _ _) ?_
     (refine V1 (jO hn (jO h1 (jO h2 (jO @List.length_append.{0} (jO @List.length_singleton.{0} (jO @List.length_map.{0,0} (jO @List.length_take.{0} @ZQ))))))) ?_)
     all_goals try exact oF
     rename_i rn
     refine nxF ⟨(q,k+1),oT⟩ (by simp;omega) (FE.drop (r:=rn) ZX) (by simp[E2,repP_in hkk.1 hkk.2]) ?_
     rw[YW,repP_in hkk.1 hkk.2]
   ·obtain rfl:k=t.length:=by omega
    (refine V1 (jO hn (jO @List.length_append.{0} (jO @List.length_singleton.{0} (jO @List.length_map.{0,0} (jO @List.length_take.{0} @ZQ))))) ?_;with_reducible repeat' intro h)
    all_goals try exact oF
    exact ⟨q,rfl,.inr ⟨r0,_,hn.1.1,rfl⟩⟩
  ·have hre:YV t i sub=t:=by simp only[YV,if_neg hc]
   rw[hre]
   rcases Classical.em (0≤i∧i<(t.length:Int)) with h0|h0
   ·have h1:(sub.length:Int)=0:=by
     have:sub=[]:=Classical.byContradiction fun h'=>hc ⟨h0.1,h0.2,h'⟩
     simp[this]
    (refine V1 (jO h0 h1) ?_)
    refine callS.of (o58 t hl hx _) ?_
    rintro g H' ⟨r,rfl,rfl⟩ -
    (refine V1 h0 ?_)
    exact ⟨r,rfl,.inl rfl⟩
   ·(refine V1 h0 ?_)
    refine callS.of (o58 t hl hx _) ?_
    rintro g H' ⟨r,rfl,rfl⟩ -
    (refine V1 h0 ?_)
    exact ⟨r,rfl,.inl rfl⟩
 refine h0.fr ?_
 rintro g H' ⟨r,rfl,rfl|⟨r0,e,hne,rfl⟩⟩
 ·exact ⟨_,_,FR.refl _ _,_,⟨r,rfl,rfl⟩,rfl⟩
 ·exact ⟨_,_,FR.drop (r:=r0) (by rw[YL hne,ZX]),_,⟨r,rfl,rfl⟩,by rw[YE hne,YW];rfl⟩
theorem q119 (t:List Nod) (i:Int) (sub:List Nod) (hl:t.length≤1048576) (hx:∀x∈t,x.kids.length≤1048576) (hsl:sub.length≤1048576) (hsx:∀x∈sub,x.kids.length≤1048576):Pu 119 [Tr t,I i,Tr sub] (· = Tr (YV t i sub)):=
 Pure.bor ((o119 t i sub hl hx hsl hsx []).mono fun g H' ⟨r,h1,h2⟩=>by
  subst h1;subst h2
  exact bor_Tr ZX rfl)
theorem q116 (t:List Nod) (i:Int) (sub:List Nod) (hl:t.length≤1048576) (hx:∀x∈t,x.kids.length≤1048576) (hsl:sub.length≤1048576) (hsx:∀x∈sub,x.kids.length≤1048576):Pu 116 [Tr t,I i,Tr sub] (· = Tr (YV t i sub)):=
 Pure.bor ((o116 t i sub hl hx hsl hsx []).mono fun g H' ⟨H1,⟨r,h1,h2⟩,h3⟩=>by
  subst h1;subst h2;subst h3
  exact bor_Tr ZX rfl)
end Go.Proofs.YtknbnefbgpnkgaaGreat
