/- The tied card of the law holds. No condition. -/
import Derived.Test.YtmdfoigdflaliabGreatDoorPpg15
import Derived.Test.YtmdfoigdflaliabGreatDoorPpg17
set_option maxHeartbeats 40000000
set_option maxRecDepth 20000
set_option linter.unusedSimpArgs false
set_option linter.unusedVariables false
namespace Go.Proofs.YtmdfoigdflaliabGreatDoor
open Go.Gh
open Nat (reduceEqDiff reduceLeDiff reduceAdd reduceLT)
open Int (reduceNe)
open Go.Lib
theorem w4 (s:ByteArray) (hs:(Z9 s).length ≤ 1048576):Pu 4 [T s] (· = .tup [Gr ((YR PY ZA (Z9 s)).getD ⟨[],[]⟩),B (YR PY ZA (Z9 s)).isSome]):=by
 refine Pure.bor ?_
 have hsp:=w9 s 10 hs
 have hlen:=Xz (b:=10) (Z9 s)
 have hln:=lnS_spl _ (Z9 s) (Nat.le_refl _)
 have hmem:∀w∈spl 10 (Z9 s),w.length≤1048576:=fun w hw=>Nat.le_trans (XS hw) hs
 have hend:=fun ys rs=>gr_end (s:=Z9 s) (ys:=ys) (rs:=rs)
 obtain ⟨z1,z2⟩:=grS_sz hs
 have hfm:=w13 _ z1 z2
 unfold YR
 generalize grS PY ZA (Z9 s)=g at *
 clear z1 z2
 generalize spl 10 (Z9 s)=L at *
 have hLl:(L.map bA).length = L.length:=List.length_map ..
 refine Z8 mxd i4 rfl (by simp) ?_;refine X0 ?_
 (refine V0 ?_)
 refine callS.eq hsp ?_
 (refine V1 @List.length_map.{0,0} ?_;with_reducible repeat' intro h)
 rename_i rg
 obtain ⟨v,hv,hvn⟩:=Yu (names ((rg,2,[GV.agg [ZI,ZI]])::[]))
 obtain ⟨v3,hv3,hvn3⟩:=Yu (names ((rg,2,[GV.agg [ZI,ZI]])::(v,2,[])::[]))
 refine YE mxd (ι:={ x:Nat×Nat×Nat×List Sym×List Rul // grP L x.2.2.1 x.2.2.2.1 x.2.2.2.2 }) (fun x=>[(0,T s),(2,.raw 2),(3,B false),(4,TS (L.map bA)),(5,.ptr rg 2 0 0),(6,I x.1.2.2.1)]) (fun x=>(x.1.1,2,x.1.2.2.2.1.map Sy)::(x.1.2.1,6,x.1.2.2.2.2.map Ru)::(rg,2,[.agg [.own x.1.1 2 0 x.1.2.2.2.1.length,.own x.1.2.1 6 0 x.1.2.2.2.2.length]])::[]) (fun x=>L.length-x.1.2.2.1) ⟨(v,v3,0,[],[]),gr_0 L⟩ (FE.virt2 (s1:=2) (s2:=6) (gs:=[ZI,ZI]) 0 1 rfl hv hvn rfl hv3 hvn3) (by simp[E2]) (by simp) ?_
 clear hv hvn hv3 hvn3
 rintro ⟨⟨q1,q2,i,ys,rs⟩,hP⟩ hn
 dsimp only at hP hn ⊢
 have h7:=Zj hn
 (replace h7:=h7;simp only[VN] at h7)
 obtain ⟨hl1,hl2⟩:=gr_len hP
 have hiL:=hP.1
 refine Zt mxd ?_
 rcases nL i L.length with hlt|hge
 ·have hx:=hmem _ (gM hlt)
  have q1s:=w10 (bA L[i]) ⟨#[115,121,109,98,111,108,32]⟩
  have q2s:=w10 (bA L[i]) ⟨#[114,117,108,101,32]⟩
  rw[chA] at q1s q2s
  change Gh.Pure _ _ _ (· = B (isSy L[i])) at q1s
  change Gh.Pure _ _ _ (· = B (isRu L[i])) at q2s
  cases hy:isSy L[i] with
  | true=>
   rw[hy] at q1s
   rw[sy_ru hy] at q2s
   have hq:=w11 (bA L[i]) (by rw[chA];exact hx)
   rw[chA] at hq
   have hP2:=gr_sy hP hlt hy
   change Gh.Pure _ _ _ (· = .tup [Sy (yS L[i]),B (PY L[i]).isSome]) at hq
   generalize yS L[i]=y at *
   generalize (PY L[i]).isSome = b at *
   (refine V1 (jO h7 (jO hlt @List.length_map.{0,0})) ?_;with_reducible repeat' intro h)
   all_goals try exact oF
   refine callS.eq q1s ?_
   (refine V1 (jO h7 (jO hlt @List.length_map.{0,0})) ?_;with_reducible repeat' intro h)
   all_goals try exact oF
   refine callS.eq hq ?_
   (refine V1 (jO h7 (jO @List.length_append.{0} (jO @List.length_singleton.{0} (jO @List.length_map.{0,0} (jO hlt @maxLv))))) ?_;with_reducible repeat' first|intro h|refine aO ?_)
   all_goals try exact oF
   rename_i r1 _ r2
   refine callS.eq q2s ?_
   (refine V0 ?_)
   exact nxF ⟨(r2,q2,i+1,ys++[y],rs),hP2⟩ (by dsimp only;omega) (FE.perm (H:=[_,_,_,_]) (L:=[(r2,_),(q2,_),(rg,_)]) (by repeat' (first|exact trivial|(refine jO (by simp only[Zy, *,if_true,if_false];try rfl) (jO (by simp[Zd,Y5, *]) ?_))))) (by simp[E2]) (by simp[List.take_of_length_le])
  | false=>
   rw[hy] at q1s
   cases hr:isRu L[i] with
   | false=>
    rw[hr] at q2s
    have hP2:=gr_no hP hlt hy hr
    (refine V1 (jO h7 (jO hlt @List.length_map.{0,0})) ?_;with_reducible repeat' intro h)
    all_goals try exact oF
    refine callS.eq q1s ?_
    (refine V1 (jO h7 (jO hlt @List.length_map.{0,0})) ?_;with_reducible repeat' intro h)
    all_goals try exact oF
    refine callS.eq q2s ?_
    (refine V0 ?_)
    exact nxF ⟨(q1,q2,i+1,ys,rs),hP2⟩ (by dsimp only;omega) FE.refl (by simp[E2]) rfl
   | true=>
    rw[hr] at q2s
    have hP2:=gr_ru hP hlt hy hr
    have hla:=lnS_at hlt
    have hru:=st_len hr
    simp only[ruP,List.length_cons,List.length_nil] at hru
    (refine V1 (jO h7 (jO hlt @List.length_map.{0,0})) ?_;with_reducible repeat' intro h)
    all_goals try exact oF
    refine callS.eq q1s ?_
    (refine V1 (jO h7 (jO hlt @List.length_map.{0,0})) ?_;with_reducible repeat' intro h)
    all_goals try exact oF
    refine callS.eq q2s ?_
    (refine V0 ?_)
    refine YE mxd (ι:={ k:Nat // runP Ys L i k }) (fun k=>[(0,T s),(2,.raw 2),(3,B false),(4,TS (L.map bA)),(5,.ptr rg 2 0 0),(6,I i),(9,I k.1)]) (fun k=>(q1,2,ys.map Sy)::(q2,6,rs.map Ru)::(rg,2,[.agg [.own q1 2 0 ys.length,.own q2 6 0 rs.length]])::[]) (fun k=>L.length-k.1) ⟨i+1,run_0 hlt⟩ FE.refl (by simp[E2]) rfl ?_
    rintro ⟨k,hK⟩ hn2
    dsimp only at hK hn2 ⊢
    have hk1:=hK.1
    have hk2:=hK.2.1
    refine Zt mxd ?_
    rcases nL k L.length with hkl|hkg
    ·have q3:=w10 (bA L[k]) ⟨#[101,113,32]⟩
     have q4:=w10 (bA L[k]) ⟨#[112,117,116,32]⟩
     rw[chA] at q3 q4
     change Gh.Pure _ _ _ (· = B (stS [101,113,32] L[k])) at q3
     change Gh.Pure _ _ _ (· = B (stS puP L[k])) at q4
     cases h3:stS [101,113,32] L[k] with
     | true=>
      rw[h3] at q3
      have hb:Ys L[k]=true:=by unfold Ys;rw[h3];rfl
      (refine V1 (jO h7 (jO hkl @List.length_map.{0,0})) ?_;with_reducible repeat' intro h)
      all_goals try exact oF
      refine callS.eq q3 ?_
      (refine V1 (jO h7 hkl) ?_)
      exact nx ⟨k+1,run_step hK hkl hb⟩ (by dsimp only;omega) (by simp[E2]) rfl
     | false=>
      rw[h3] at q3
      cases h4:stS puP L[k] with
      | true=>
       rw[h4] at q4
       have hb:Ys L[k]=true:=by unfold Ys;rw[h3,h4];rfl
       (refine V1 (jO h7 (jO hkl @List.length_map.{0,0})) ?_;with_reducible repeat' intro h)
       all_goals try exact oF
       refine callS.eq q3 ?_
       (refine V1 (jO h7 (jO hkl @List.length_map.{0,0})) ?_;with_reducible repeat' intro h)
       all_goals try exact oF
       refine callS.eq q4 ?_
       (refine V1 (jO h7 hkl) ?_)
       exact nx ⟨k+1,run_step hK hkl hb⟩ (by dsimp only;omega) (by simp[E2]) rfl
      | false=>
       rw[h4] at q4
       have hb:Ys L[k]=false:=by unfold Ys;rw[h3,h4];rfl
       obtain ⟨e1,_⟩:=run_end hlt hK fun _ => hb
       have hsl:(((L.map bA).map T).take k).drop i=((L[i]::(L.drop (i+1)).takeWhile Ys).map bA).map T:=by rw[←List.map_take,←List.map_take,←List.map_drop,←List.map_drop,e1]
       have hq:=w12 ((L[i]::(L.drop (i+1)).takeWhile Ys).map bA) (by rw[List.length_map,←e1,List.length_drop,List.length_take];omega) (fun l hl=>by
        obtain ⟨x,hx,rfl⟩:=List.mem_map.1 hl
        rw[chA]
        rw[←e1] at hx
        exact hmem x (List.mem_of_mem_take (List.mem_of_mem_drop hx)))
       rw[map_chA] at hq
       change Gh.Pure _ _ _ (· = .tup [Ru (rS (L[i]::(L.drop (i+1)).takeWhile Ys)),B _]) at hq
       generalize rS (L[i]::(L.drop (i+1)).takeWhile Ys)=R at *
       generalize L[i]::(L.drop (i+1)).takeWhile Ys=ls at *
       generalize (ZA ls).isSome = b at *
       (refine V1 (jO h7 (jO hkl @List.length_map.{0,0})) ?_;with_reducible repeat' intro h)
       all_goals try exact oF
       refine callS.eq q3 ?_
       (refine V1 (jO h7 (jO hkl @List.length_map.{0,0})) ?_;with_reducible repeat' intro h)
       all_goals try exact oF
       refine callS.eq q4 ?_
       (refine V1 (jO h7 (jO hkl (jO hsl @List.length_map.{0,0}))) ?_)
       refine callS.eq hq ?_
       (refine V1 (jO h7 (jO @List.length_append.{0} (jO @List.length_singleton.{0} (jO @List.length_map.{0,0} @maxLv)))) ?_;with_reducible repeat' first|intro h|refine aO ?_)
       all_goals try exact oF
       rename_i r1 _ r2
       exact nxF ⟨(q1,r2,i+1,ys,rs++[R]),hP2⟩ (by dsimp only;omega) (FE.perm (H:=[_,_,_,_]) (L:=[(q1,_),(r2,_),(rg,_)]) (by repeat' (first|exact trivial|(refine jO (by simp only[Zy, *,if_true,if_false];try rfl) (jO (by simp[Zd,Y5, *]) ?_))))) (by simp[E2]) (by simp[List.take_of_length_le])
    ·obtain rfl:k=L.length:=by omega
     obtain ⟨e1,_⟩:=run_end hlt hK (fun h=>absurd h (Nat.lt_irrefl _))
     have hsl:(((L.map bA).map T).take L.length).drop i=((L[i]::(L.drop (i+1)).takeWhile Ys).map bA).map T:=by rw[←List.map_take,←List.map_take,←List.map_drop,←List.map_drop,e1]
     have hq:=w12 ((L[i]::(L.drop (i+1)).takeWhile Ys).map bA) (by rw[List.length_map,←e1,List.length_drop,List.length_take];omega) (fun l hl=>by
      obtain ⟨x,hx,rfl⟩:=List.mem_map.1 hl
      rw[chA]
      rw[←e1] at hx
      exact hmem x (List.mem_of_mem_take (List.mem_of_mem_drop hx)))
     rw[map_chA] at hq
     change Gh.Pure _ _ _ (· = .tup [Ru (rS (L[i]::(L.drop (i+1)).takeWhile Ys)),B _]) at hq
     generalize rS (L[i]::(L.drop (i+1)).takeWhile Ys)=R at *
     generalize L[i]::(L.drop (i+1)).takeWhile Ys=ls at *
     generalize (ZA ls).isSome = b at *
     have e3:((L.length:Int)<L.length)=False:=eq_false oT
     (refine V1 (jO h7 (jO e3 (jO hsl @List.length_map.{0,0}))) ?_)
     all_goals try exact oF
     refine callS.eq hq ?_
     (refine V1 (jO h7 (jO @List.length_append.{0} (jO @List.length_singleton.{0} (jO @List.length_map.{0,0} @maxLv)))) ?_;with_reducible repeat' first|intro h|refine aO ?_)
     all_goals try exact oF
     rename_i r1 _ r2
     exact nxF ⟨(q1,r2,i+1,ys,rs++[R]),hP2⟩ (by dsimp only;omega) (FE.perm (H:=[_,_,_,_]) (L:=[(q1,_),(r2,_),(rg,_)]) (by repeat' (first|exact trivial|(refine jO (by simp only[Zy, *,if_true,if_false];try rfl) (jO (by simp[Zd,Y5, *]) ?_))))) (by simp[E2]) (by simp[List.take_of_length_le])
 ·obtain rfl:i=L.length:=by omega
  have hg:=hend ys rs hP
  have hb:∀Z:GH,Z7 Z q1=some (2,ys.map Sy)→Z7 Z q2=some (6,rs.map Ru)→Bor Z (.agg [.own q1 2 0 ys.length,.own q2 6 0 rs.length]) (Gr g):=fun Z k1 k2=>by
   rw[←hg]
   exact .agg (.cons (Bor.allM view_Sy k1 rfl) (.cons (Bor.allM view_Ru k2 rfl) .nil))
  have hz:∀H,Bor H (.agg [ZI,ZI]) (Gr ⟨[],[]⟩):=fun H=> .agg (.cons .nil (.cons .nil .nil))
  by_cases h0:Z9 s=[]
  ·have e0:(s=(⟨#[]⟩:ByteArray))=True:=eq_true (bA_eq.1 h0)
   rw[if_neg fun h=>h.1 h0]
   (refine V1 (jO h7 (jO e0 @List.length_map.{0,0})) ?_;with_reducible repeat' intro h)
   all_goals try exact oF
   exact .tup (.cons (hz _) (.cons .refl .nil))
  ·have e0:(s=(⟨#[]⟩:ByteArray))=False:=eq_false fun h=>h0 (by rw[h])
   by_cases hf:fmtG g=Z9 s
   ·have e5:((⟨(fmtG g).toArray⟩:ByteArray)=s)=True:=eq_true (congrArg bA hf)
    rw[if_pos ⟨h0,hf⟩]
    (refine V1 (jO h7 (jO e0 @List.length_map.{0,0})) ?_;with_reducible repeat' intro h)
    all_goals try exact oF
    refine callS.borA hfm (.cons (hb _ (by simp only[Zy,h7,if_true,if_false]) (by simp only[Zy,h7,if_true,if_false])) .nil) rfl ?_
    (refine V1 (jO h7 e5) ?_)
    exact .tup (.cons (hb _ (by simp only[Zy,h7,if_true,if_false]) (by simp only[Zy,h7,if_true,if_false])) (.cons .refl .nil))
   ·have e5:((⟨(fmtG g).toArray⟩:ByteArray)=s)=False:=eq_false fun h=>hf (congrArg Z9 h)
    rw[if_neg fun h=>hf h.2]
    (refine V1 (jO h7 (jO e0 @List.length_map.{0,0})) ?_;with_reducible repeat' intro h)
    all_goals try exact oF
    refine callS.borA hfm (.cons (hb _ (by simp only[Zy,h7,if_true,if_false]) (by simp only[Zy,h7,if_true,if_false])) .nil) rfl ?_
    (refine V1 (jO h7 e5) ?_;with_reducible repeat' intro h)
    exact .tup (.cons (hz _) (.cons .refl .nil))
theorem Tryz.rdSy (s:ByteArray) (hs:(Z9 s).length ≤ 1048576) (H:GH) (hT:∀x∈Tryz.tbG,x∈H) (Q:GV→GH→Prop)
 (hF:∀X,PY (Z9 s)=none→Q (.tup [.agg [T noS,ZI],B false]) (X++H))
 (hS:∀(S:Sym) (q rr:Nat) (z:List GV) (X:GH),PY (Z9 s)=some S→¬q=rr→Q (.tup [.agg [T S.name,.own q 4 0 S.atts.length],B true]) ((q,4,S.atts.map At)::(rr,2,z)::H)) :
 Gc 17 [T s] H Q:=by
 refine GCalls.nd fun hn0=> ?_
 have hWm:=hT _ Tryz.tbGW
 have hYm:=hT _ Tryz.tbGY
 have hW:Z7 H 3=some (1000010,[]):=Xx hn0 hWm
 have hY:Z7 H 7=some (1000011,[]):=Xx hn0 hYm
 have kW:∀r,neA r H→(r=3)=False:=fun r h=>eq_false (neA_mem h hWm)
 have kY:∀r,neA r H→(r=7)=False:=fun r h=>eq_false (neA_mem h hYm)
 have hTF:∀x∈Tryz.tb,x∈H:=fun x h=>hT x (Tryz.tbGF x h)
 obtain ⟨hw1,hw2,hmem⟩:=spN_len (Z9 s) 32 7 oT
 have hsp:=p37 s ⟨#[32]⟩ 7 hs (by decide) oT oT
 change PureT _ _ _ _ (· = TS ((sp7 (Z9 s)).map bA)) at hsp
 change (sp7 (Z9 s)).length ≤ 7 at hw1
 change ∀w∈sp7 (Z9 s),w.length≤(Z9 s).length at hmem
 have hmem:∀w∈sp7 (Z9 s),w.length≤1048576:=fun w hw=>Nat.le_trans (hmem w hw) hs
 rw[←PY_same] at hF hS
 unfold parY at hF hS
 generalize sp7 (Z9 s)=W at *
 clear hw2
 by_cases h2:W.length<2
 ·have e0:((W.length:Int)<2)=True:=eq_true oT
  rw[if_pos h2] at hF
  refine Z8 mxd i17 rfl (by simp) ?_;refine X0 ?_
  (refine V0 ?_)
  refine callS.eqT hsp Tryz.tbH hTF ?_
  (refine V1 (jO e0 @List.length_map.{0,0}) ?_)
  exact hF [] rfl
 ·have e0:((W.length:Int)<2)=False:=eq_false oT
  rw[if_neg h2] at hF hS
  have g1:W.getD 1 []=W[1]:=by rw[List.getD_eq_getElem?_getD,List.getElem?_eq_getElem oT];rfl
  rw[g1] at hF hS
  have hn1:=hmem W[1] (gM _)
  have hx:(⟨W[1].toArray⟩:ByteArray)=bA W[1]:=rfl
  rw[hx] at hF hS
  have hD:∀w∈W.drop 2,w.length≤1048576:=fun w hw=>hmem w (List.mem_of_mem_drop hw)
  have hDl:(W.drop 2).length ≤ 5:=by rw[List.length_drop];omega
  have hok:okSy ⟨bA W[1],(W.drop 2).map (rAI sp3)⟩:=⟨bA_sz hn1,fun a ha=>by obtain ⟨x,hx,rfl⟩:=List.mem_map.1 ha;exact rAI_sz (hD x hx)⟩
  have hsm:smSy ⟨bA W[1],(W.drop 2).map (rAI sp3)⟩:=by
   show ((W.drop 2).map (rAI sp3)).length ≤ 1048576
   rw[List.length_map];omega
  have hfm:=p39 _ hok hsm
  have htd:(((W.map bA).map T).take W.length).drop 2=((W.drop 2).map bA).map T:=by rw[tL (by simp),←List.map_drop,←List.map_drop]
  have hdl:(W.drop 2).length = W.length-2:=List.length_drop
  clear hx hok hsm g1
  generalize hw1':bA W[1]=w1 at *
  generalize W.drop 2=D at *
  have eL:(W.length:Int)-2=D.length:=by omega
  refine Z8 mxd i17 rfl (by simp) ?_;refine X0 ?_
  (refine V0 ?_)
  refine callS.eqT hsp Tryz.tbH hTF ?_
  (refine V2 (jO e0 (jO hw1' (jO htd @List.length_map.{0,0}))) ?_;with_reducible repeat' first|intro h|refine aO ?_)
  all_goals try exact oF
  rename_i rr
  obtain ⟨v,hv,hvn⟩:=Yu (names ((rr,2,[GV.agg [T w1,ZI]])::H))
  refine YE mxd (ι:={ x:Nat×Nat // x.2≤D.length }) (fun x=>[(0,T s),(2,.raw 2),(3,B false),(5,.ptr rr 2 0 0),(23,TS (D.map bA)),(24,I D.length),(25,I x.1.2)]) (fun x=>(x.1.1,4,((D.take x.1.2).map (rAI sp3)).map At)::(rr,2,[.agg [T w1,.own x.1.1 4 0 x.1.2]])::H) (fun x=>D.length-x.1.2) ⟨(v,0),by simp⟩ (FE.virtF (sz:=2) (sz1:=4) (i:=0) (j:=1) (es:=[.agg [T w1,ZI]]) (gs:=[T w1,ZI]) Z4 rfl rfl hv hvn) (by simp[E2]) (by simp[Z3]) ?_
  clear hv hvn h
  rintro ⟨⟨q,i⟩,hi⟩ hn
  dsimp only at hi hn ⊢
  have h7:=Zj hn
  have h8:neA q H∧neA rr H:=⟨h7.1.2.2,h7.2.1⟩
  (replace h7:=h7;simp only[VN] at h7)
  refine Zt mxd ?_
  have hll:((D.take i).map (rAI sp3)).length = i:=by rw[List.length_map,List.length_take];omega
  rcases nL i D.length with hlt|hge
  ·have hdi:=hD _ (gM hlt)
   have hq:=o37 (bA D[i]) ⟨#[58]⟩ 3 (by rw[chA];exact hdi) (by decide) oT oT (H:=(q,4,((D.take i).map (rAI sp3)).map At)::(rr,2,[GV.agg [T w1,.own q 4 0 i]])::H) (fun x h=>List.mem_cons_of_mem _ (List.mem_cons_of_mem _ (hTF x h)))
   rw[chA] at hq
   change GCalls _ _ _ _ (fun g H'=>∃r,g = .own r 1 0 (sp3 D[i]).length ∧ H'=(r,1,((sp3 D[i]).map bA).map T) :: _) at hq
   obtain ⟨l1,l2,l3⟩:=spN_len D[i] 58 3 oT
   change (sp3 D[i]).length ≤ 3 at l1
   change 1≤(sp3 D[i]).length at l2
   change ∀w∈sp3 D[i],w.length≤D[i].length at l3
   obtain ⟨a,b,c,t,e1,e2,e3,e4,e5⟩:=pad3 l2
   have hrA:=rAI_3 e2 e3 e4
   obtain ⟨la,lb,lc⟩:=e5 fun w hw=>Nat.le_trans (l3 w hw) hdi
   have hpp:((sp3 D[i]).map bA).map T++[T ⟨#[]⟩,T ⟨#[]⟩]=T (bA a)::T (bA b)::T (bA c)::(t.map bA).map T:=by
    have:=congrArg (fun l:List (List UInt8)=>(l.map bA).map T) e1
    simpa using this
   have hst:(D.take (i+1)).map (rAI sp3)=(D.take i).map (rAI sp3)++[rAI sp3 D[i]]:=by
    rw[List.take_succ_eq_append_getElem hlt,List.map_append];rfl
   have qc:=w14 (bA c) 33 (by rw[chA];exact lc)
   rw[chA] at qc
   change Gh.Pure _ _ _ (· = .tup [T (bA (uncV c)),B (circV c)]) at qc
   have qm:=w38 (YC 1000010) (bA b)
   have qt:=w38 (YC 1000011) (bA (uncV c))
   obtain ⟨b1,b2⟩:=ixB_bd (YC 1000010) (bA b)
   obtain ⟨b3,b4⟩:=ixB_bd (YC 1000011) (bA (uncV c))
   have t1:(YC 1000010).length = 3:=rfl
   have t2:(YC 1000011).length = 4:=rfl
   rw[hrA] at hst
   generalize ixB (YC 1000010) (bA b)=X1 at *
   generalize ixB (YC 1000011) (bA (uncV c))=X2 at *
   generalize (D.take i).map (rAI sp3)=Z at *
   generalize sp3 D[i]=P at *
   clear l3 e5 e1 hrA hD
   (refine V1 (jO h7 (jO hlt @List.length_map.{0,0})) ?_;with_reducible repeat' intro h)
   all_goals try exact oF
   refine callS.of hq ?_
   rintro _ _ ⟨r5,rfl,rfl⟩ hn5
   have h9:=Zj hn5
   have h10:neA r5 H:=h9.1.2.2.2.2
   (replace h9:=h9;simp only[VN] at h9)
   have htk:(((P.map bA).map T).take P.length)=(P.map bA).map T:=tL (by simp)
   (refine V2 (jO h7 (jO h9 (jO htk (jO hpp (jO @soT_T2 (jO @List.getElem_cons_succ.{0} @List.length_map.{0,0})))))) ?_;with_reducible repeat' first|intro h|refine aO ?_)
   all_goals try exact oF
   rename_i r6 h11 r7
   have hH:∀{k:Nat} {v:Nat×List GV},(∀r,neA r H→(r=k)=False)→Z7 H k=some v→Z7 ((r7,1,T (bA a)::T (bA b)::T (bA c)::(t.map bA).map T)::(r6,1,[T ⟨#[]⟩,T ⟨#[]⟩])::(q,4,Z.map At)::(rr,2,[GV.agg [T w1,.own q 4 0 i]])::H) k=some v:=fun k1 k2=>by
    simp only[Zy,k1 _ h.1.2.2.2.2.2.2,k1 _ h11.1.2.2.2.2.2.2,k1 _ h8.1,k1 _ h8.2,if_false]
    exact k2
   have hW':=hH kW hW
   have hY':=hH kY hY
   refine callS.eq qc ?_
   (refine V2 (jO h7 (jO h9 @List.getElem_cons_succ.{0})) ?_)
   all_goals try exact oF
   refine gsl_of (g:=0) (sz:=1000010) hW' (by decide) rfl ?_
   (refine V2 (jO h7 (jO h9 @List.getElem_cons_succ.{0})) ?_)
   all_goals try exact oF
   refine callS.eq qm ?_
   (refine V1 (jO h7 h9) ?_)
   all_goals try exact oF
   refine gsl_of (g:=1) (sz:=1000011) hY' (by decide) rfl ?_
   (refine V1 (jO h7 h9) ?_)
   all_goals try exact oF
   refine callS.eq qt ?_
   (refine V1 (jO h7 (jO h9 (jO h (jO h11 (jO @List.length_append.{0} (jO @List.length_singleton.{0} (jO @List.length_map.{0,0} @maxLv))))))) ?_;with_reducible repeat' first|intro h|refine aO ?_)
   all_goals try exact oF
   rename_i r8 _ r9
   exact nxF ⟨(r9,i+1),hlt⟩ (by dsimp only;omega) (FE.perm (H:=[_,_,_,_,_]) (L:=[(r9,_),(rr,_)]) (by repeat' (first|exact trivial|(refine jO (by simp only[Zy, *,if_true,if_false];try rfl) (jO (by simp[Zd,Y5, *]) ?_))))) (by simp[E2]) (by simp[hst,List.take_of_length_le,hll])
  ·obtain rfl:i=D.length:=by omega
   rw[List.take_length] at hll hn ⊢
   have hb:∀Z:GH,Z7 Z q=some (4,(D.map (rAI sp3)).map At)→Bor Z (.agg [T w1,.own q 4 0 D.length]) (Sy ⟨w1,D.map (rAI sp3)⟩):=fun Z k=> .agg (.cons .refl (.cons (Bor.seen (f:=At) (fun a=>by simp[view,Zn]) k hll) .nil))
   have e1:((D.length:Int)<D.length)=False:=eq_false oT
   have hlen:D.length=(D.map (rAI sp3)).length := hll.symm
   generalize D.map (rAI sp3)=Z at *
   (refine V1 (jO h7 (jO e1 @List.length_map.{0,0})) ?_)
   all_goals try exact oF
   refine callS.borT hfm Tryz.tbGH (fun x h=>List.mem_cons_of_mem _ (List.mem_cons_of_mem _ (hT x h))) (.cons (hb _ Z4) .nil) rfl ?_
   by_cases hf:fmtY ⟨w1,Z⟩=Z9 s
   ·have e5:((⟨(fmtY ⟨w1,Z⟩).toArray⟩:ByteArray)=s)=True:=eq_true (congrArg bA hf)
    rw[if_pos hf] at hS
    (refine V1 (jO h7 e5) ?_)
    have e:=hS _ q rr [GV.agg [T w1,.own q 4 0 D.length]] [] rfl (by simp only[h7,not_false_eq_true])
    dsimp only at e
    rw[hll] at e
    exact e
   ·have e5:((⟨(fmtY ⟨w1,Z⟩).toArray⟩:ByteArray)=s)=False:=eq_false fun h=>hf (congrArg Z9 h)
    rw[if_neg hf] at hF
    (refine V1 (jO h7 e5) ?_;with_reducible repeat' intro h)
    exact hF [_,_] rfl
theorem o17 (s:ByteArray) (hs:(Z9 s).length ≤ 1048576) (H:GH) (hT:∀x∈Tryz.tbG,x∈H):Gc 17 [T s] H (AnsY (PY (Z9 s)) H):=by
 refine GCalls.fr (R:=fun g H'=>(∃X,PY (Z9 s)=none∧g = .tup [.agg [T noS,ZI],B false]∧H'=X++H)∨∃(S:Sym) (q rr:Nat) (z:List GV),PY (Z9 s)=some S∧¬q=rr∧g = .tup [.agg [T S.name,.own q 4 0 S.atts.length],B true]∧H'=(q,4,S.atts.map At)::(rr,2,z)::H) ?_ ?_
 ·exact Tryz.rdSy s hs H hT _ (fun X h=> .inl ⟨X,h,rfl,rfl⟩) (fun S q rr z _ h hn=> .inr ⟨S,q,rr,z,h,hn,rfl,rfl⟩)
 ·rintro g H' (⟨X,h1,rfl,rfl⟩|⟨S,q,rr,z,h1,hn,rfl,rfl⟩)
  ·obtain ⟨q1,hf⟩:=FR.nilSy (B false) H
   rw[h1]
   exact ⟨_,_,FR.trans (FR.perm (H:=X) (L:=[]) (by simp[subH,names])) hf,_,⟨q1,rfl,rfl⟩,rfl⟩
  ·rw[h1]
   exact ⟨_,_,FR.perm (H:=[_,_]) (L:=[(q,4,S.atts.map At)]) (by simp[subH,Z7,names]),_,⟨q,rfl,rfl⟩,rfl⟩
end Go.Proofs.YtmdfoigdflaliabGreatDoor
