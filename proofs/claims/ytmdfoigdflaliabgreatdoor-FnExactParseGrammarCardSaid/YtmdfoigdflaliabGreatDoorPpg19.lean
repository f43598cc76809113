/- The tied card of the law holds. No condition. -/
import Derived.Test.YtmdfoigdflaliabGreatDoorPpg18
set_option maxHeartbeats 40000000
set_option maxRecDepth 20000
set_option linter.unusedSimpArgs false
set_option linter.unusedVariables false
namespace Go.Proofs.YtmdfoigdflaliabGreatDoor
open Go.Gh
open Nat (reduceEqDiff reduceLeDiff reduceAdd reduceLT)
open Int (reduceNe)
open Go.Lib
theorem p15 (s:ByteArray) (b:UInt8) (hs:(Z9 s).length ≤ 1048576):PureT Tryz.prog Tryz.tb 15 [T s,T ⟨#[b]⟩] (· = TS ((spl b (Z9 s)).map bA)):=
 PureT.bor ((o15 s b hs (fun _ h=>h)).mono fun g H' ⟨r,h1,h2⟩=>by
  subst h1 h2
  exact Bor.seen (f:=T) (fun a=>by simp[view,Zn]) Z4 (by rw[List.length_map]))
theorem Tryz.rdGr (s:ByteArray) (hs:(Z9 s).length ≤ 1048576) (H:GH) (hT:∀x∈Tryz.tbG,x∈H) (Q:GV→GH→Prop)
 (hF:∀X,YR PY ZA (Z9 s)=none→Q (.tup [.agg [ZI,ZI],B false]) (X++H))
 (hS:∀(G:Gram) (q1 q2 rr:Nat) (z:List GV),YR PY ZA (Z9 s)=some G→(¬q1=q2∧¬q1=rr∧¬q2=rr)→Q (.tup [.agg [.own q1 2 0 G.syms.length,.own q2 6 0 G.rules.length],B true]) ((q2,6,G.rules.map RuO)::(q1,2,G.syms.map SyO)::(rr,2,z)::H)) :
 Gc 5 [T s] H Q:=by
 have hTF:∀x∈Tryz.tb,x∈H:=fun x h=>hT x (Tryz.tbGF x h)
 have hcs:=w14 s 10 hs
 rw[←parG_same] at hF hS
 by_cases hl:(Z9 s).getLast? = some 10
 ·rw[if_pos hl,decide_eq_true hl] at hcs
  have hlp:0<(Z9 s).length := List.length_pos_iff.2 fun e=>by rw[e] at hl;cases hl
  have hdl:(Z9 s).dropLast.length = (Z9 s).length - 1:=List.length_dropLast
  have hsp:=p15 (bA (Z9 s).dropLast) 10 (by rw[chA];omega)
  rw[chA] at hsp
  have hmem:∀w∈spl 10 (Z9 s).dropLast,w.length≤1048576:=fun w hw=>by have:=XS hw;omega
  have hLl:=Xz (b:=10) (Z9 s).dropLast
  have hln:=lnS_spl _ (Z9 s).dropLast (Nat.le_refl _)
  have hP1:syI PY (spl 10 (Z9 s).dropLast) []=none→parGI PY ZA (Z9 s)=none:=fun h=>by
   unfold parGI;rw[if_pos hl,h]
  have hP2:∀ys M,syI PY (spl 10 (Z9 s).dropLast) []=some (ys,M)→ruI ZA M.length M []=none→parGI PY ZA (Z9 s)=none:=fun ys M h h2=>by
   unfold parGI;rw[if_pos hl,h];dsimp only;rw[h2]
  have hP3:∀ys M rs,syI PY (spl 10 (Z9 s).dropLast) []=some (ys,M)→ruI ZA M.length M []=some rs→parGI PY ZA (Z9 s)=if fmtG ⟨ys,rs⟩=Z9 s then some ⟨ys,rs⟩ else none:=fun ys M rs h h2=>by
   unfold parGI;rw[if_pos hl,h];dsimp only;rw[h2]
  have hL:(spl 10 (Z9 s).dropLast).length ≤ 1048576:=by omega
  have hln2:lnS (spl 10 (Z9 s).dropLast)≤1048576:=by omega
  have hQ0:syQ (spl 10 (Z9 s).dropLast) (spl 10 (Z9 s).dropLast) []:=⟨sy_0 _,hmem,by simp⟩
  generalize parGI PY ZA (Z9 s)=PP at *
  generalize spl 10 (Z9 s).dropLast = L at *
  clear hln hLl hmem
  generalize bA (Z9 s).dropLast = u at *
  refine gstartG i5 rfl (by simp) ?_
  refine gwpS mxd ?_
  (refine V0 ?_)
  refine gwpS mxd ?_
  (refine V0 ?_)
  refine callS.eq hcs ?_
  (refine V0 ?_)
  refine gwpS mxd ?_
  (refine V0 ?_)
  refine gwpS mxd ?_
  (refine V0 ?_)
  refine callS.eqT hsp Tryz.tbH hTF ?_
  (refine V0 ?_;with_reducible repeat' intro h)
  rename_i rg
  obtain ⟨v,hv,hvn⟩:=Yu (names ((rg,2,[GV.agg [ZI,ZI]])::H))
  obtain ⟨v3,hv3,hvn3⟩:=Yu (names ((rg,2,[GV.agg [ZI,ZI]])::(v,2,[])::H))
  have n3:neA v3 H:=by simp only[names,List.map_cons,List.mem_cons,not_or] at hvn3;exact neA_of hvn3.2.2
  refine GW.cut mxd (fun env' H'=>∃ys M q1,syI PY L []=some (ys,M)∧syQ L M ys∧subE env' [(0,T s),(2,.raw 2),(3,B false),(6,.ptr rg 2 0 0),(7,TS (M.map bA))]∧H'=(q1,2,ys.map SyO)::(v3,6,[])::(rg,2,[.agg [.own q1 2 0 ys.length,.own v3 6 0 0]])::H) ?_ ?_
  ·refine Zt mxd ?_
   refine YE mxd (ι:={ x:(Nat×List (List UInt8))×List Sym // syQ L x.1.2 x.2 }) (fun x=>[(0,T s),(2,.raw 2),(3,B false),(6,.ptr rg 2 0 0),(7,TS (x.1.1.2.map bA))]) (fun x=>(x.1.1.1,2,x.1.2.map SyO)::(v3,6,[])::(rg,2,[.agg [.own x.1.1.1 2 0 x.1.2.length,.own v3 6 0 0]])::H) (fun x=>x.1.1.2.length) ⟨((v,L),[]),hQ0⟩ (FE.virt2 (s1:=2) (s2:=6) (gs:=[ZI,ZI]) 0 1 rfl hv hvn rfl hv3 hvn3) (by simp[E2]) (by simp) ?_
   rintro ⟨⟨⟨q1,M⟩,ys⟩,hP⟩ hn
   dsimp only at hP hn ⊢
   have h7:=Zj hn
   (replace h7:=h7;simp only[VN] at h7)
   refine Zt mxd ?_
   cases M with
   | nil=>
    (refine V1 h7 ?_;with_reducible repeat' intro h)
    all_goals try exact oF
    exact ⟨ys,[],q1,sy_nil hP.1,hP,(by simp[E2]),rfl⟩
   | cons l t=>
    have hx:=hP.2.1 l (by simp)
    have hyl:ys.length≤1048576:=by have:=hP.1.2.1;simp only[List.length_cons] at this;omega
    have hp1:=w16 (bA l) ⟨#[115,121,109,98,111,108,32]⟩ (by rw[chA];exact hx) (by decide)
    rw[hasPr_pre,chA] at hp1
    change Gh.Pure _ _ _ (· = B (symP.isPrefixOf l)) at hp1
    have e0:((0:Int)<((t.length+1:Nat):Int))=True:=eq_true oT
    cases hpx:symP.isPrefixOf l with
    | false=>
     rw[hpx] at hp1
     (refine V2 (jO h7 (jO e0 (jO @gt_iff_lt.{0} @List.length_map.{0,0}))) ?_)
     all_goals try exact oF
     refine callS.eq hp1 ?_
     (refine V1 h7 ?_)
     exact ⟨ys,l::t,q1,sy_stop hP.1 hpx,hP,(by simp[E2]),rfl⟩
    | true=>
     rw[hpx] at hp1
     have hq:=o17 (bA l) (by rw[chA];exact hx) ((q1,2,ys.map SyO)::(v3,6,[])::(rg,2,[.agg [.own q1 2 0 ys.length,.own v3 6 0 0]])::H) (fun x h=>List.mem_cons_of_mem _ (List.mem_cons_of_mem _ (List.mem_cons_of_mem _ (hT x h))))
     rw[chA] at hq
     (refine V2 (jO h7 (jO e0 (jO @gt_iff_lt.{0} @List.length_map.{0,0}))) ?_)
     all_goals try exact oF
     refine callS.eq hp1 ?_
     (refine V2 (jO h7 (jO e0 @List.length_map.{0,0})) ?_)
     all_goals try exact oF
     refine callS.of hq ?_
     rintro _ _ ⟨_,⟨q,rfl,rfl⟩,rfl⟩ hn2
     simp only[List.cons_append,List.nil_append] at hn2 ⊢
     have h8:=Zj hn2
     (replace h8:=h8;simp only[VN] at h8)
     cases hpy:PY l with
     | none=>
      simp only[hpy,Option.getD_none,Option.isSome_none] at hn2 ⊢
      (refine V1 (jO h7 h8) ?_;with_reducible repeat' intro h)
      exact hF [_,_,_,_,_] (hP1 (sy_none hP.1 hpx hpy))
     | some S=>
      simp only[hpy,Option.getD_some,Option.isSome_some] at hn2 ⊢
      (refine V2 (jO h7 (jO h8 (jO @List.length_append.{0} (jO @List.length_singleton.{0} (jO @List.length_map.{0,0} @maxLv))))) ?_;with_reducible repeat' first|intro h|refine aO ?_)
      all_goals try exact oF
      rename_i r8 _ r1 _ r2
      exact nxF ⟨((r2,t),ys++[S]),syQ_yes hP hpx hpy⟩ (by simp) (FE.trans (FE.perm (H:=[_,_,_,_,_,_]) (L:=[(r2,_),(q,_),(v3,_),(rg,_)]) (by repeat' (first|exact trivial|(refine jO (by simp only[Zy, *,if_true,if_false];try rfl) (jO (by simp[Zd,Y5, *]) ?_))))) (FE.closeL2 (j:=1) (by simp[*]) rfl (by simp))) (by simp[E2,List.take_of_length_le]) (by simp[List.take_of_length_le])
  ·rintro env1 _ ⟨ys,M,q1,hsy,hPy,he1,rfl⟩
   refine GW.ent (FE.of he1) ?_
   clear hcs hP1 hQ0 hv hv3 hvn hvn3 he1
   have hP2:=hP2 ys M hsy
   have hP3:=fun rs=>hP3 ys M rs hsy
   have hML:M.length≤1048576:=by have:=hPy.1.2.1;omega
   have hyl:ys.length≤1048576:=by have:=hPy.1.2.1;omega
   refine GW.cut mxd (fun env' H'=>∃rs q2,ruR M [] rs∧neH ((q2,6,[])::(q1,2,[])::(rg,2,[])::H)∧subE env' [(0,T s),(2,.raw 2),(3,B false),(6,.ptr rg 2 0 0)]∧H'=(q2,6,rs.map RuO)::(q1,2,ys.map SyO)::(rg,2,[.agg [.own q1 2 0 ys.length,.own q2 6 0 rs.length]])::H) ?_ ?_
   ·refine Zt mxd ?_
    refine YE mxd (ι:={ x:(Nat×List (List UInt8))×List Rul // ruR M x.1.2 x.2 }) (fun x=>[(0,T s),(2,.raw 2),(3,B false),(6,.ptr rg 2 0 0),(7,TS (x.1.1.2.map bA))]) (fun x=>(x.1.1.1,6,x.1.2.map RuO)::(q1,2,ys.map SyO)::(rg,2,[.agg [.own q1 2 0 ys.length,.own x.1.1.1 6 0 x.1.2.length]])::H) (fun x=>x.1.1.2.length) ⟨((v3,M),[]),⟨ru_0 M,hPy.2.1,by simp⟩⟩ FE.swap (by simp[E2]) (by simp) ?_
    rintro ⟨⟨⟨q2,N⟩,rs⟩,hP⟩ hn
    dsimp only at hP hn ⊢
    have h70:=Zj hn
    have h7:=h70
    (replace h7:=h7;simp only[VN] at h7)
    have hrl:rs.length+N.length≤M.length:=hP.1.2.1
    rcases Nat.eq_zero_or_pos N.length with hz|hz
    ·have e0:((0:Int)<(N.length:Int))=False:=eq_false oT
     refine Zt mxd ?_
     (refine V1 (jO h7 (jO e0 (jO @gt_iff_lt.{0} @List.length_map.{0,0}))) ?_)
     all_goals try exact oF
     exact ⟨rs,q2,(List.length_eq_zero_iff.1 hz)▸hP,h70,(by simp[E2]),rfl⟩
    ·obtain ⟨l,t,hN⟩:=List.exists_cons_of_length_pos hz
     have hPc:ruR M (l::t) rs:=hN▸hP
     obtain ⟨hz1,hz2⟩:=ruR_ls hPc hML
     have hyes:=fun r=>ruR_yes (r:=r) hPc hML
     have hno:=ru_none hPc.1
     have hmm:=hP.2.1
     have hrend:∀k,runP nRu N 0 k→(∀h:k<N.length,nRu N[k]=false)→N.take k=l::t.takeWhile nRu∧N.drop k=t.dropWhile nRu:=fun k hk he=>by
      have:=run_end hz hk he
      subst hN
      simpa using this
     have hr0:runP nRu N 0 1:=run_0 hz
     have e0:((0:Int)<(N.length:Int))=True:=eq_true oT
     refine gwpS mxd ?_
     (refine V1 (jO h7 (jO e0 (jO @gt_iff_lt.{0} @List.length_map.{0,0}))) ?_)
     all_goals try exact oF
     refine GW.block (gwpS mxd ?_)
     (refine V1 h7 ?_)
     have hx:=fun k (h:k<N.length)=>hmm _ (gM h)
     refine GW.cut mxd (fun env' H'=>∃k,k≤N.length∧N.take k=l::t.takeWhile nRu∧N.drop k=t.dropWhile nRu∧subE env' [(0,T s),(2,.raw 2),(3,B false),(6,.ptr rg 2 0 0),(7,TS (N.map bA)),(10,I k)]∧H'=(q2,6,rs.map RuO)::(q1,2,ys.map SyO)::(rg,2,[.agg [.own q1 2 0 ys.length,.own q2 6 0 rs.length]])::H) ?_ ?_
     ·refine YE mxd (ι:={ k:Nat // runP nRu N 0 k }) (fun k=>[(0,T s),(2,.raw 2),(3,B false),(6,.ptr rg 2 0 0),(7,TS (N.map bA)),(10,I k.1)]) (fun k=>(q2,6,rs.map RuO)::(q1,2,ys.map SyO)::(rg,2,[.agg [.own q1 2 0 ys.length,.own q2 6 0 rs.length]])::H) (fun k=>N.length-k.1) ⟨1,hr0⟩ FE.refl (by simp[E2]) rfl ?_
      rintro ⟨k,hK⟩ hn2
      dsimp only at hK hn2 ⊢
      have hk1:=hK.1
      have hk2:=hK.2.1
      refine Zt mxd ?_
      rcases nL k N.length with hkl|hkg
      ·have e1:((k:Int)<(N.length:Int))=True:=eq_true oT
       have hp1:=w16 (bA N[k]) ⟨#[114,117,108,101,32]⟩ (by rw[chA];exact hx k hkl) (by decide)
       rw[hasPr_pre,chA] at hp1
       change Gh.Pure _ _ _ (· = B (ruP.isPrefixOf N[k])) at hp1
       cases hpx:ruP.isPrefixOf N[k] with
       | false=>
        rw[hpx] at hp1
        (refine V1 (jO h7 (jO e1 (jO hkl @List.length_map.{0,0}))) ?_;with_reducible repeat' intro h)
        all_goals try exact oF
        refine callS.eq hp1 ?_
        (refine V1 h7 ?_)
        exact nx ⟨k+1,run_step hK hkl (by unfold nRu;rw[hpx];rfl)⟩ (by dsimp only;omega) (by simp[E2]) rfl
       | true=>
        rw[hpx] at hp1
        obtain ⟨r1,r2⟩:=hrend k hK fun h=>by unfold nRu;rw[hpx];rfl
        (refine V1 (jO h7 (jO e1 (jO hkl @List.length_map.{0,0}))) ?_;with_reducible repeat' intro h)
        all_goals try exact oF
        refine callS.eq hp1 ?_
        (refine V1 h7 ?_)
        exact ⟨k,hk2,r1,r2,(by simp[E2])⟩
      ·obtain ⟨r1,r2⟩:=hrend k hK fun h=>absurd h oT
       have e1:((k:Int)<(N.length:Int))=False:=eq_false oT
       (refine V1 (jO h7 (jO e1 @List.length_map.{0,0})) ?_)
       all_goals try exact oF
       exact ⟨k,hk2,r1,r2,(by simp[E2])⟩
     ·rintro env2 _ ⟨k,hk,r1,r2,he2,rfl⟩
      refine GW.ent (FE.of he2) ?_
      have hs1:((N.map bA).map T).take k=((l::t.takeWhile nRu).map bA).map T:=by rw[←List.map_take,←List.map_take,r1]
      have hs2:(((N.map bA).map T).take N.length).drop k=((t.dropWhile nRu).map bA).map T:=by rw[tL (by simp),←List.map_drop,←List.map_drop,r2]
      have hdl:(t.dropWhile nRu).length = N.length-k:=by rw[←r2,List.length_drop]
      have hkl:k=(l::t.takeWhile nRu).length := by rw[←r1,List.length_take];omega
      have hdz:(t.dropWhile nRu).length < N.length:=by rw[hdl];simp only[List.length_cons] at hkl;omega
      have hq:=o18 ((l::t.takeWhile nRu).map bA) (by rw[List.length_map];exact hz1) (fun x hx=>by
       obtain ⟨y,hy,rfl⟩:=List.mem_map.1 hx
       rw[chA];exact hz2 y hy) ((q2,6,rs.map RuO)::(q1,2,ys.map SyO)::(rg,2,[.agg [.own q1 2 0 ys.length,.own q2 6 0 rs.length]])::H) (fun x h=>List.mem_cons_of_mem _ (List.mem_cons_of_mem _ (List.mem_cons_of_mem _ (hTF x h))))
      rw[map_chA,parI_same] at hq
      generalize l::t.takeWhile nRu=ls at *
      generalize t.dropWhile nRu=N2 at *
      have hrl2:rs.length≤1048576:=by omega
      refine Zt mxd ?_
      (refine V2 (jO h7 (jO hs1 (jO hs2 (jO hdl (jO @List.drop_zero.{0} @List.length_map.{0,0}))))) ?_)
      all_goals try exact oF
      refine callS.of hq ?_
      rintro _ _ ⟨_,⟨p1,p2,p3,rfl,rfl⟩,rfl⟩ hn3
      simp only[List.cons_append,List.nil_append] at hn3 ⊢
      have h8:=Zj hn3
      (replace h8:=h8;simp only[VN] at h8)
      cases hpr:ZA ls with
      | none=>
       simp only[hpr,Option.getD_none,Option.isSome_none] at hn3 ⊢
       (refine V1 (jO h7 h8) ?_;with_reducible repeat' intro h)
       exact hF [_,_,_,_,_,_,_] (hP2 (hno hpr))
      | some R=>
       simp only[hpr,Option.getD_some,Option.isSome_some] at hn3 ⊢
       (refine V2 (jO h7 (jO h8 (jO hs2 (jO hdl (jO @List.length_append.{0} (jO @List.length_singleton.{0} (jO @List.length_map.{0,0} @maxLv))))))) ?_;with_reducible repeat' first|intro h|refine aO ?_)
       all_goals try exact oF
       rename_i r11 _ r1 _ r2
       exact nxF ⟨((r2,N2),rs++[R]),hyes R hpr⟩ (by dsimp only;omega) (FE.trans (FE.perm (H:=[_,_,_,_,_,_,_,_]) (L:=[(r2,_),(p3,_),(p2,_),(p1,_),(q1,_),(rg,_)]) (by repeat' (first|exact trivial|(refine jO (by simp only[Zy, *,if_true,if_false];try rfl) (jO (by simp[Zd,Y5, *]) ?_))))) (FE.trans (FE.closeL2 (j:=5) (by simp[*]) rfl (by simp)) (FE.trans (FE.closeL2 (j:=4) (by simp[*]) rfl (by simp)) (FE.closeL2 (j:=2) (by simp[*]) rfl (by simp))))) (by simp[E2,hdl]) (by simp[List.take_of_length_le])
   ·rintro env2 _ ⟨rs,q2,hPr,hne,he2,rfl⟩
    refine GW.ent (FE.of he2) ?_
    have h7:=hne
    (replace h7:=h7;simp only[VN] at h7)
    obtain ⟨ok1,ok2⟩:=gr_ok hPy hPr hL
    have hgl:=gT_len hPy.1 hPr.1
    have hfm:=p19 ⟨ys,rs⟩ ok1 ok2 (fun _ => by rw[hgl];omega)
    have hP3:=hP3 rs (ru_nil hPr.1)
    have hb:∀Z:GH,Z7 Z q1=some (2,ys.map SyO)→Z7 Z q2=some (6,rs.map RuO)→Bor Z (.agg [.own q1 2 0 ys.length,.own q2 6 0 rs.length]) (Gr ⟨ys,rs⟩):=fun Z k1 k2=>bor_Gr (g:=⟨ys,rs⟩) k1 k2 rfl rfl
    refine Zt mxd ?_
    (refine V1 h7 ?_)
    all_goals try exact oF
    refine callS.borT hfm Tryz.tbGH (fun x h=>List.mem_cons_of_mem _ (List.mem_cons_of_mem _ (List.mem_cons_of_mem _ (hT x h)))) (.cons (hb _ (by simp only[Zy,h7,if_true,if_false]) (by simp only[Zy,h7,if_true,if_false])) .nil) rfl ?_
    by_cases hf:fmtG ⟨ys,rs⟩=Z9 s
    ·have e5:((⟨(fmtG ⟨ys,rs⟩).toArray⟩:ByteArray)=s)=True:=eq_true (congrArg bA hf)
     rw[if_pos hf] at hP3
     (refine V1 (jO h7 e5) ?_)
     exact hS ⟨ys,rs⟩ q1 q2 rg _ hP3 (by simp[h7])
    ·have e5:((⟨(fmtG ⟨ys,rs⟩).toArray⟩:ByteArray)=s)=False:=eq_false fun h=>hf (congrArg Z9 h)
     rw[if_neg hf] at hP3
     (refine V1 (jO h7 e5) ?_;with_reducible repeat' intro h)
     exact hF [_,_,_] hP3
 ·rw[if_neg hl,decide_eq_false hl] at hcs
  have hP:parGI PY ZA (Z9 s)=none:=by unfold parGI;rw[if_neg hl]
  refine Z8 mxd i5 rfl (by simp) ?_;refine X0 ?_
  (refine V0 ?_)
  refine callS.eq hcs ?_
  (refine V0 ?_)
  exact hF [] hP
theorem o5 (s:ByteArray) (hs:(Z9 s).length ≤ 1048576) (H:GH) (hT:∀x∈Tryz.tbG,x∈H):Gc 5 [T s] H (AnsG (YR PY ZA (Z9 s)) H):=by
 refine GCalls.fr (R:=fun g H'=>(∃X,YR PY ZA (Z9 s)=none∧g = .tup [.agg [ZI,ZI],B false]∧H'=X++H)∨∃(G:Gram) (q1 q2 rr:Nat) (z:List GV),YR PY ZA (Z9 s)=some G∧(¬q1=q2∧¬q1=rr∧¬q2=rr)∧g = .tup [.agg [.own q1 2 0 G.syms.length,.own q2 6 0 G.rules.length],B true]∧H'=(q2,6,G.rules.map RuO)::(q1,2,G.syms.map SyO)::(rr,2,z)::H) ?_ ?_
 ·exact Tryz.rdGr s hs H hT _ (fun X h=> .inl ⟨X,h,rfl,rfl⟩) (fun G q1 q2 rr z h hn=> .inr ⟨G,q1,q2,rr,z,h,hn,rfl,rfl⟩)
 ·rintro g H' (⟨X,h1,rfl,rfl⟩|⟨G,q1,q2,rr,z,h1,⟨n1,n2,n3⟩,rfl,rfl⟩)
  ·obtain ⟨q1,q2,hf⟩:=FR.nilGr (B false) H
   rw[h1]
   exact ⟨_,_,FR.trans (FR.perm (H:=X) (L:=[]) (by simp[subH,names])) hf,_,⟨q1,q2,rfl,rfl⟩,rfl⟩
  ·rw[h1]
   have n4:¬q2=q1:=fun e=>n1 e.symm
   exact ⟨_,_,FR.perm (H:=[_,_,_]) (L:=[(q1,2,G.syms.map SyO),(q2,6,G.rules.map RuO)]) (by simp[subH,Z7,names,n1,n4]),_,⟨q1,q2,rfl,rfl⟩,rfl⟩
theorem p5 (s:ByteArray) (hs:(Z9 s).length ≤ 1048576):PureT Tryz.prog Tryz.tbG 5 [T s] (· = .tup [Gr ((YR PY ZA (Z9 s)).getD grZ),B (YR PY ZA (Z9 s)).isSome]):=by
 refine PureT.bor ((o5 s hs _ fun _ h=>h).ndR.mono fun g H' ⟨⟨H1,⟨q1,q2,h1,h2⟩,h3⟩,hn⟩=> ?_)
 subst h1 h2 h3
 have h8:=Zj hn
 simp only[List.cons_append,List.nil_append] at h8 ⊢
 (replace h8:=h8;simp only[VN] at h8)
 exact .tup (.cons (bor_Gr (g:=(YR PY ZA (Z9 s)).getD grZ) Z4 (by simp only[Zy,h8,if_true,if_false];rfl) rfl rfl) (.cons .refl .nil))
theorem p3 (s:ByteArray) (hs0:s.size≤maxLen):PureT Tryz.prog Tryz.tbG 3 [T s] (· = B true):=by
 refine (?_ : GCalls _ _ _ _ _)
 refine GCalls.mono (R:=fun g _ => g=B true) ?_ fun _ _ h=>h
 have hsz:(Z9 s).length = s.size:=(ZD s).symm
 by_cases hw:(Z9 s).length ≤ 1048576
 ·have e0:((1048576:Int)<(Z9 s).length)=False:=eq_false oT
  obtain ⟨⟨z1,z2⟩,hmk,_⟩:=parGS_zs hw
  have qS:=w4 s hw
  have qJ:=fun H0 h=>o5 s hw H0 h
  unfold AnsG at qJ
  change Gh.Pure _ _ _ (· = .tup [Gr ((YR PY ZA (Z9 s)).getD grZ),_]) at qS
  change ∀H0:GH,(∀x∈Tryz.tbG,x∈H0)→GCalls _ _ _ H0 (fun g H'=>∃H1,(∃qs qr,g = .tup [.agg [.own qs 2 0 ((YR PY ZA (Z9 s)).getD grZ).syms.length,.own qr 6 0 ((YR PY ZA (Z9 s)).getD grZ).rules.length],B (YR PY ZA (Z9 s)).isSome]∧H1=[(qs,2,((YR PY ZA (Z9 s)).getD grZ).syms.map SyO),(qr,6,((YR PY ZA (Z9 s)).getD grZ).rules.map RuO)])∧H'=H1++H0) at qJ
  generalize (YR PY ZA (Z9 s)).getD grZ=G at *
  generalize (YR PY ZA (Z9 s)).isSome = b at *
  have qE:=w6 G G
  rw[decide_eq_true rfl] at qE
  refine Z8 mxd i3 rfl (by simp) ?_;refine X0 ?_
  (refine V1 (jO e0 @gt_iff_lt.{0}) ?_;with_reducible repeat' first|exact trivial|intro h|refine aO ?_|refine eO ?_|apply jO)
  refine callS.eq qS ?_
  (refine V0 ?_;with_reducible repeat' first|exact trivial|intro h|refine aO ?_|refine eO ?_|apply jO)
  refine callS.of (qJ _ fun _ h=>h) ?_
  rintro _ _ ⟨_,⟨q1,q2,rfl,rfl⟩,rfl⟩ hn2
  have h8:=Zj hn2
  simp only[List.cons_append,List.nil_append] at h8 ⊢
  (replace h8:=h8;simp only[VN] at h8)
  have hb:∀Z:GH,Bor ((q1,2,G.syms.map SyO)::(q2,6,G.rules.map RuO)::Z) (.agg [.own q1 2 0 G.syms.length,.own q2 6 0 G.rules.length]) (Gr G):=fun Z=>
   bor_Gr Z4 (by simp only[Zy,h8,if_true,if_false]) rfl rfl
  (refine V1 h8 ?_;with_reducible repeat' first|exact trivial|intro h|refine aO ?_|refine eO ?_|apply jO)
  refine callS.borA qE (.cons (hb _) (.cons .refl .nil)) rfl ?_
  (refine V1 h8 ?_;with_reducible repeat' first|exact trivial|intro h|refine aO ?_|refine eO ?_|apply jO)
  refine callS.of (w7 q1 q2 _ _ 1 G _ (by simp only[ne_eq,h8,not_false_eq_true]) Z4 (by simp only[Zy,h8,if_true,if_false]) rfl rfl oT oT) ?_
  rintro _ _ ⟨rfl,rfl⟩ -
  simp only[hset_c,h8,if_true,if_false]
  have l1:(smk Zb mkSym G.syms 1).length = G.syms.length:=ZP _ _ _ _
  have l2:(smk wR mkR G.rules (1+smw Zb G.syms)).length = G.rules.length:=ZP _ _ _ _
  have qH:=w8 1 G oT hmk
  generalize smk Zb mkSym G.syms 1=M1 at *
  generalize smk wR mkR G.rules (1+smw Zb G.syms)=M2 at *
  have hm:∀Z:GH,Z7 Z q1=some (2,M1.map SyO)→Z7 Z q2=some (6,M2.map RuO)→Bor Z (.agg [.own q1 2 0 G.syms.length,.own q2 6 0 G.rules.length]) (Gr ⟨M1,M2⟩):=fun Z k1 k2=>bor_Gr (g:=⟨M1,M2⟩) k1 k2 l1 l2
  generalize hK:(1:Int)+smw Zb G.syms+smw wR G.rules=K at *
  have e4:(K<0)=False:=eq_false oT
  (refine V1 h8 ?_;with_reducible repeat' first|exact trivial|intro h|refine aO ?_|refine eO ?_|apply jO)
  refine callS.borA qH (.cons (hm _ Z4 (by simp only[Zy,h8,if_true,if_false])) (.cons .refl .nil)) rfl ?_
  (refine V1 (jO h8 e4) ?_;with_reducible repeat' first|exact trivial|intro h|refine aO ?_|refine eO ?_|apply jO)
  refine callS.of (qJ _ fun x hx=>List.mem_cons_of_mem _ (List.mem_cons_of_mem _ hx)) ?_
  rintro _ _ ⟨_,⟨p1,p2,rfl,rfl⟩,rfl⟩ hn3
  have h9:=Zj hn3
  simp only[List.cons_append,List.nil_append] at h9 ⊢
  (replace h9:=h9;simp only[VN] at h9)
  have hb2:∀Z:GH,Bor ((p1,2,G.syms.map SyO)::(p2,6,G.rules.map RuO)::Z) (.agg [.own p1 2 0 G.syms.length,.own p2 6 0 G.rules.length]) (Gr G):=fun Z=>
   bor_Gr Z4 (by simp only[Zy,h9,if_true,if_false]) rfl rfl
  (refine V1 h9 ?_;with_reducible repeat' first|exact trivial|intro h|refine aO ?_|refine eO ?_|apply jO)
  refine callS.borA qE (.cons (hb2 _) (.cons .refl .nil)) rfl ?_
  (refine V1 h9 ?_;with_reducible repeat' first|exact trivial|intro h|refine aO ?_|refine eO ?_|apply jO)
  refine callS.borA qH (.cons (hm _ (by simp only[Zy,h9,if_true,if_false]) (by simp only[Zy,h9,if_true,if_false])) (.cons .refl .nil)) rfl ?_
  (refine V1 (jO h9 e4) ?_;with_reducible repeat' first|exact trivial|intro h|refine aO ?_|refine eO ?_|apply jO)
 ·have e0:((1048576:Int)<(Z9 s).length)=True:=eq_true oT
  refine Z8 mxd i3 rfl (by simp) ?_;refine X0 ?_
  (refine V1 (jO e0 @gt_iff_lt.{0}) ?_;with_reducible repeat' first|exact trivial|intro h|refine aO ?_|refine eO ?_|apply jO)
end Go.Proofs.YtmdfoigdflaliabGreatDoor
