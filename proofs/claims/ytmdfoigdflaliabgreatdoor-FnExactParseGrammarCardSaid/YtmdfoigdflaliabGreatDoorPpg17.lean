/- The tied card of the law holds. No condition. -/
import Derived.Test.YtmdfoigdflaliabGreatDoorPpg14
import Derived.Test.YtmdfoigdflaliabGreatDoorPpg16
set_option maxHeartbeats 40000000
set_option maxRecDepth 20000
set_option linter.unusedSimpArgs false
set_option linter.unusedVariables false
namespace Go.Proofs.YtmdfoigdflaliabGreatDoor
open Go.Gh
open Nat (reduceEqDiff reduceLeDiff reduceAdd reduceLT)
open Int (reduceNe)
open Go.Lib
theorem w58:Pu 58 [] (· = TS modB):=by
 refine Pure.bor ?_
 refine Z8 mxd i58 rfl (by simp) ?_;refine X0 ?_
 (refine V0 ?_;with_reducible repeat' intro h)
 exact Bor.seen (f:=T) (l:=modB) (fun a=>by simp[view,Zn]) Z4 rfl
theorem w59:Pu 59 [] (· = TS typB):=by
 refine Pure.bor ?_
 refine Z8 mxd i59 rfl (by simp) ?_;refine X0 ?_
 (refine V0 ?_;with_reducible repeat' intro h)
 exact Bor.seen (f:=T) (l:=typB) (fun a=>by simp[view,Zn]) Z4 rfl
theorem w27 (s:Sym) (hs:okSy s) (hm:smSy s):Pu 27 [Sy s] (· = .val (mkS (fmtY s))):=by
 have hval:=w60 s hs hm
 cases hv:YX s with
 | false=>
  rw[hv] at hval
  rw[fmtY_no hv]
  refine Z8 mxd i27 rfl (by simp) ?_;refine X0 ?_
  (refine V0 ?_)
  refine callS.eq hval ?_
  (refine V0 ?_;with_reducible repeat' exact trivial)
 | true=>
  rw[hv] at hval
  rw[fmtY_eq hv,←symW_end]
  obtain ⟨hat,hnm,hl4⟩:=sym_parts hv
  have hn8:=Yw hnm
  have h0:=symW_zero s
  have hst:=fun i (h:i<s.atts.length)=>symW_succ (s:=s) h
  have hwl:=symW_len hv
  generalize symW s=W at *
  refine Z8 mxd i27 rfl (by simp) ?_;refine X0 ?_
  (refine V0 ?_)
  refine callS.eq hval ?_
  (refine V1 @chA ?_)
  all_goals try exact oF
  all_goals try (simp only[List.length_append,List.length_cons,List.length_nil];omega)
  refine Zu mxd (ι:={ i:Nat // i≤s.atts.length }) (fun i=>[(1,.rop 2 (Sy s)),(3,.val (mkS (W i.1))),(4,I i.1)]) (fun _ => []) (fun i=>s.atts.length-i.1) ⟨0,oT⟩ (by simp[E2,←h0]) rfl ?_
  rintro ⟨i,hi⟩
  dsimp only
  have hb:=hwl i
  rcases nL i s.atts.length with hlt|hge
  ·have hx:=hat _ (gM hlt)
   have hs2:=hst i hlt
   obtain ⟨m1,m2⟩:=mod_at hx
   obtain ⟨t1,t2⟩:=typ_at hx
   obtain ⟨p1,p2,p3⟩:=Yh hx
   have w1:=(wrd_len (s.atts[i].mode - 1).toNat).1
   have w2:=(wrd_len (s.atts[i].type - 1).toNat).2
   have w3:=Yw p1
   have hmL:modB.length=4:=rfl
   have htL:typB.length=5:=rfl
   unfold attT at hs2
   obtain ⟨a,ha⟩:∃a,s.atts[i]=a:=⟨_,rfl⟩
   rw[ha] at hs2 p2 p3 w1 w2 w3
   simp only[ha] at m1 m2 t1 t2
   obtain ⟨M,hM⟩:∃M,modB[a.mode.toNat]=M:=⟨_,rfl⟩
   obtain ⟨N,hN⟩:∃N,typB[a.type.toNat]=N:=⟨_,rfl⟩
   rw[hM] at m2
   rw[hN] at t2
   rw[←m2] at hs2 w1
   rw[←t2] at hs2 w2
   cases hc:a.circ with
   | false=>
    rw[hc] at hs2
    simp only[Bool.false_eq_true,if_false,List.append_nil] at hs2
    (refine V1 (jO hlt (jO ha (jO hc @chA))) ?_;with_reducible repeat' apply jO)
    all_goals try exact oF
    all_goals try (simp only[List.length_append,List.length_cons,List.length_nil];omega)
    refine callS.eq w58 ?_
    (refine V1 (jO ha (jO hc (jO @chA hM))) ?_;with_reducible repeat' apply jO)
    all_goals try exact oF
    all_goals try (simp only[List.length_append,List.length_cons,List.length_nil];omega)
    refine callS.eq w59 ?_
    (refine V1 (jO ha (jO hc (jO @chA hN))) ?_;with_reducible repeat' apply jO)
    all_goals try exact oF
    all_goals try (simp only[List.length_append,List.length_cons,List.length_nil];omega)
    exact nx ⟨i+1,hlt⟩ (by dsimp only;omega) (by simp[E2,hs2]) rfl
   | true=>
    rw[hc] at hs2
    simp only[if_true] at hs2
    (refine V1 (jO hlt (jO ha (jO hc @chA))) ?_;with_reducible repeat' apply jO)
    all_goals try exact oF
    all_goals try (simp only[List.length_append,List.length_cons,List.length_nil];omega)
    refine callS.eq w58 ?_
    (refine V1 (jO ha (jO hc (jO @chA hM))) ?_;with_reducible repeat' apply jO)
    all_goals try exact oF
    all_goals try (simp only[List.length_append,List.length_cons,List.length_nil];omega)
    refine callS.eq w59 ?_
    (refine V1 (jO ha (jO hc (jO @chA hN))) ?_;with_reducible repeat' apply jO)
    all_goals try exact oF
    all_goals try (simp only[List.length_append,List.length_cons,List.length_nil];omega)
    exact nx ⟨i+1,hlt⟩ (by dsimp only;omega) (by simp[E2,hs2]) rfl
  ·obtain rfl:i=s.atts.length:=by omega
   (refine V0 ?_;with_reducible repeat' first|intro h|refine aO ?_)
   all_goals try exact oF
theorem w26 (s:ByteArray) (hs:(Z9 s).length ≤ 1048576):Pu 26 [T s] (· = At (rAS (Z9 s))):=by
 have hsp:=w9 s 58 hs
 by_cases h3:(spl 58 (Z9 s)).length = 3
 ·obtain ⟨a,b,c,e⟩:=three h3
  have hc:c.length≤1048576:=Nat.le_trans (XS (b:=58) (l:=Z9 s) (by rw[e];simp)) hs
  rw[rAS_3 e]
  rw[e] at hsp
  have q1:=w57 modB (bA b)
  have q2:=w57 typB (bA (uncV c))
  clear h3 e
  rcases Nat.eq_zero_or_pos c.length with hz|hz
  ·obtain ⟨u1,u2⟩:=unc_no hz
   rw[u1] at q2
   rw[u1,u2]
   have e0:((0:Int)<c.length)=False:=eq_false oT
   refine Z8 mxd i26 rfl (by simp) ?_;refine X0 ?_
   (refine V0 ?_;with_reducible repeat' intro h)
   refine callS.eq hsp ?_
   (refine V2 @List.getElem_cons_succ.{0} ?_;with_reducible repeat' first|intro h|apply jO)
   refine callS.eq w58 ?_
   (refine V2 @List.getElem_cons_succ.{0} ?_)
   refine callS.eq q1 ?_
   (refine V2 (jO @chA (jO e0 (jO @gt_iff_lt.{0} @List.getElem_cons_succ.{0}))) ?_)
   refine callS.eq w59 ?_
   (refine V0 ?_)
   refine callS.eq q2 ?_
   (refine V0 ?_;with_reducible repeat' exact trivial)
   all_goals try exact oF
  ·have e0:((0:Int)<c.length)=True:=eq_true oT
   have e1:((c.length:Int)-1).toNat = c.length-1:=by omega
   by_cases hb:c[c.length-1]=33
   ·obtain ⟨u1,u2⟩:=unc_hit hz hb
    rw[u1] at q2
    rw[u1,u2]
    have e2:((c[c.length-1].toNat : Int)=33)=True:=eq_true (by rw[hb];rfl)
    refine Z8 mxd i26 rfl (by simp) ?_;refine X0 ?_
    (refine V0 ?_;with_reducible repeat' intro h)
    refine callS.eq hsp ?_
    (refine V2 @List.getElem_cons_succ.{0} ?_;with_reducible repeat' first|intro h|apply jO)
    refine callS.eq w58 ?_
    (refine V2 @List.getElem_cons_succ.{0} ?_)
    refine callS.eq q1 ?_
    (refine V2 (jO @chA (jO e0 (jO e1 (jO e2 (jO @gt_iff_lt.{0} @List.getElem_cons_succ.{0}))))) ?_)
    all_goals try exact oF
    refine callS.eq w59 ?_
    (refine V0 ?_)
    refine callS.eq q2 ?_
    (refine V0 ?_;with_reducible repeat' exact trivial)
   ·obtain ⟨u1,u2⟩:=unc_miss hz hb
    rw[u1] at q2
    rw[u1,u2]
    have e2:((c[c.length-1].toNat : Int)=33)=False:=eq_false fun h=>hb (UInt8.toNat_inj.1 (by show _ = 33;omega))
    refine Z8 mxd i26 rfl (by simp) ?_;refine X0 ?_
    (refine V0 ?_;with_reducible repeat' intro h)
    refine callS.eq hsp ?_
    (refine V2 @List.getElem_cons_succ.{0} ?_;with_reducible repeat' first|intro h|apply jO)
    refine callS.eq w58 ?_
    (refine V2 @List.getElem_cons_succ.{0} ?_)
    refine callS.eq q1 ?_
    (refine V2 (jO @chA (jO e0 (jO e1 (jO e2 (jO @gt_iff_lt.{0} @List.getElem_cons_succ.{0}))))) ?_;with_reducible repeat' intro h)
    all_goals try exact oF
    refine callS.eq w59 ?_
    (refine V0 ?_)
    refine callS.eq q2 ?_
    (refine V0 ?_;with_reducible repeat' exact trivial)
 ·rw[rAS_n h3]
  have e0:(((spl 58 (Z9 s)).length : Int)=3)=False:=eq_false oT
  refine Z8 mxd i26 rfl (by simp) ?_;refine X0 ?_
  (refine V0 ?_;with_reducible repeat' intro h)
  refine callS.eq hsp ?_
  (refine V1 (jO e0 @List.length_map.{0,0}) ?_)
  all_goals rfl
theorem w11 (s:ByteArray) (hs:(Z9 s).length ≤ 1048576):Pu 11 [T s] (· = .tup [Sy ((PY (Z9 s)).getD symZ),B (PY (Z9 s)).isSome]):=by
 refine Pure.bor ?_
 have hsp:=w9 s 32 hs
 have hlen:=Xz (b:=32) (Z9 s)
 have hmem:∀w∈spl 32 (Z9 s),w.length≤1048576:=fun w hw=>Nat.le_trans (XS hw) hs
 unfold PY parY
 generalize spl 32 (Z9 s)=W at *
 by_cases h2:W.length<2
 ·have e0:((W.length:Int)<2)=True:=eq_true oT
  rw[if_pos h2]
  refine Z8 mxd i11 rfl (by simp) ?_;refine X0 ?_
  (refine V0 ?_)
  refine callS.eq hsp ?_
  (refine V1 (jO e0 @List.length_map.{0,0}) ?_)
  exact .tup (.cons bor_syZ (.cons .refl .nil))
 ·have e0:((W.length:Int)<2)=False:=eq_false oT
  rw[if_neg h2]
  have g1:W.getD 1 []=W[1]:=by rw[List.getD_eq_getElem?_getD,List.getElem?_eq_getElem oT];rfl
  rw[g1]
  have hn1:=hmem W[1] (gM _)
  have hx:(⟨W[1].toArray⟩:ByteArray)=bA W[1]:=rfl
  rw[hx]
  have hok:okSy ⟨bA W[1],(W.drop 2).map rAS⟩:=⟨bA_sz hn1,fun a ha=>by obtain ⟨x,hx,rfl⟩:=List.mem_map.1 ha;exact rAS_sz (hmem x (List.mem_of_mem_drop hx))⟩
  have hsm:smSy ⟨bA W[1],(W.drop 2).map rAS⟩:=by
   show ((W.drop 2).map rAS).length ≤ 1048576
   rw[List.length_map,List.length_drop];omega
  have hfm:=w27 _ hok hsm
  clear hx hok hsm
  generalize hw1:bA W[1]=w1 at *
  refine Z8 mxd i11 rfl (by simp) ?_;refine X0 ?_
  (refine V0 ?_)
  refine callS.eq hsp ?_
  (refine V2 (jO e0 (jO hw1 @List.length_map.{0,0})) ?_;with_reducible repeat' intro h)
  all_goals try exact oF
  rename_i rr
  obtain ⟨v,hv,hvn⟩:=Yu (names ((rr,2,[GV.agg [T w1,ZI]])::[]))
  refine YE mxd (ι:={ x:Nat×Nat // x.2+2≤W.length }) (fun x=>[(0,T s),(2,.raw 2),(3,B false),(4,TS (W.map bA)),(5,.ptr rr 2 0 0),(6,I ((x.1.2+2:Nat):Int))]) (fun x=>(x.1.1,4,(((W.take (x.1.2+2)).drop 2).map rAS).map At)::(rr,2,[.agg [T w1,.own x.1.1 4 0 x.1.2]])::[]) (fun x=>W.length-x.1.2) ⟨(v,0),by dsimp only;omega⟩ (FE.virtF (sz:=2) (sz1:=4) (i:=0) (j:=1) (es:=[.agg [T w1,ZI]]) (gs:=[T w1,ZI]) Z4 rfl rfl hv hvn) (by simp[E2]) (by simp[Z3]) ?_
  clear hv hvn
  rintro ⟨⟨q,i⟩,hi⟩ hn
  dsimp only at hi hn ⊢
  have h7:=Zj hn
  (replace h7:=h7;simp only[VN] at h7)
  refine Zt mxd ?_
  have hll:(((W.take (i+2)).drop 2).map rAS).length = i:=by rw[List.length_map,List.length_drop,List.length_take];omega
  rcases nL (i+2) W.length with hlt|hge
  ·have hq:=w26 (bA W[i+2]) (by rw[chA];exact hmem _ (gM _))
   rw[chA] at hq
   have hst:((W.take (i+1+2)).drop 2).map rAS=((W.take (i+2)).drop 2).map rAS++[rAS W[i+2]]:=by
    rw[show i+1+2=(i+2)+1 by omega,List.take_succ_eq_append_getElem hlt,List.drop_append_of_le_length (by rw[List.length_take];omega),List.map_append];rfl
   generalize ((W.take (i+2)).drop 2).map rAS=Z at *
   have e1:(((i+2:Nat):Int)<W.length)=True:=eq_true oT
   (refine V1 (jO h7 (jO e1 @List.length_map.{0,0})) ?_)
   all_goals try exact oF
   refine callS.eq hq ?_
   (refine V1 (jO h7 (jO @List.length_append.{0} (jO @List.length_singleton.{0} (jO @List.length_map.{0,0} @maxLv)))) ?_;with_reducible repeat' first|intro h|refine aO ?_)
   all_goals try exact oF
   rename_i r1 _ r2
   exact nxF ⟨(r2,i+1),by dsimp only;omega⟩ (by dsimp only;omega) (FE.perm (H:=[_,_,_]) (L:=[(r2,_),(rr,_)]) (by repeat' (first|exact trivial|(refine jO (by simp only[Zy, *,if_true,if_false];try rfl) (jO (by simp[Zd,Y5, *]) ?_))))) (by simp[E2];omega) (by simp[hst,List.take_of_length_le,hll])
  ·have hi2:i+2=W.length:=by omega
   have e1:(((i+2:Nat):Int)<W.length)=False:=eq_false oT
   have hend:(W.take (i+2)).drop 2=W.drop 2:=by rw[hi2,List.take_length]
   rw[hend] at hll hn ⊢
   have hb:∀Z:GH,Z7 Z q=some (4,((W.drop 2).map rAS).map At)→Bor Z (.agg [T w1,.own q 4 0 i]) (Sy ⟨w1,(W.drop 2).map rAS⟩):=fun Z k=> .agg (.cons .refl (.cons (Bor.seen (f:=At) (fun a=>by simp[view,Zn]) k hll) .nil))
   generalize (W.drop 2).map rAS=Z at *
   (refine V1 (jO h7 (jO e1 @List.length_map.{0,0})) ?_)
   all_goals try exact oF
   refine callS.borA hfm (.cons (hb _ (by simp only[Zy,h7,if_true,if_false])) .nil) rfl ?_
   by_cases hf:fmtY ⟨w1,Z⟩=Z9 s
   ·have e5:((⟨(fmtY ⟨w1,Z⟩).toArray⟩:ByteArray)=s)=True:=eq_true (congrArg bA hf)
    rw[if_pos hf]
    (refine V1 (jO h7 e5) ?_)
    exact .tup (.cons (hb _ (by simp only[Zy,h7,if_true,if_false])) (.cons .refl .nil))
   ·have e5:((⟨(fmtY ⟨w1,Z⟩).toArray⟩:ByteArray)=s)=False:=eq_false fun h=>hf (congrArg Z9 h)
    rw[if_neg hf]
    (refine V1 (jO h7 e5) ?_;with_reducible repeat' intro h)
    exact .tup (.cons bor_syZ (.cons .refl .nil))
theorem w10 (s w:ByteArray):Pu 10 [T s,T w] (· = B (stS (Z9 w) (Z9 s))):=by
 by_cases h:(Z9 w).length < (Z9 s).length
 ·have e0:(((Z9 w).length : Int)<(Z9 s).length)=True:=eq_true oT
  have e1:decide ((⟨((Z9 s).take (Z9 w).length).toArray⟩:ByteArray)=w)=stS (Z9 w) (Z9 s):=by
   unfold stS
   rw[decide_eq_true h,Bool.true_and,Bool.eq_iff_iff,decide_eq_true_eq,List.isPrefixOf_iff_prefix,List.prefix_iff_eq_take]
   constructor
   ·intro e
    exact ((chA _).symm.trans (congrArg Z9 e)).symm
   ·intro e
    exact (bA_eq.1 e).symm
  rw[←e1]
  refine Z8 mxd i10 rfl (by simp) ?_;refine X0 ?_
  (refine V2 (jO e0 (jO @gt_iff_lt.{0} @List.drop_zero.{0})) ?_)
  all_goals try omega
 ·have e0:(((Z9 w).length : Int)<(Z9 s).length)=False:=eq_false oT
  have e1:stS (Z9 w) (Z9 s)=false:=by unfold stS;rw[decide_eq_false h,Bool.false_and]
  rw[e1]
  refine Z8 mxd i10 rfl (by simp) ?_;refine X0 ?_
  (refine V1 (jO e0 @gt_iff_lt.{0}) ?_;with_reducible repeat' exact trivial)
abbrev Tryz.tbG:GH:=tabG 7 5 6 2 0 1
theorem Tryz.tbGH:tabH Tryz.tbG:=tabH_G (by decide)
theorem Tryz.tbGF:∀x∈Tryz.tb,x∈Tryz.tbG:=tabG_F _ _ _ _ _ _
theorem Tryz.tbGW:(3,1000010,[])∈Tryz.tbG:=by simp[tabG]
theorem Tryz.tbGY:(7,1000011,[])∈Tryz.tbG:=by simp[tabG]
theorem p39 (s:Sym) (hs:okSy s) (hm:smSy s):PureT Tryz.prog Tryz.tbG 39 [Sy s] (· = .val (mkS (fmtY s))):=by
 refine (?_ : GCalls _ _ _ _ _)
 refine GCalls.mono (R:=fun g _ => g = .val (mkS (fmtY s))) ?_ fun _ _ h=>h
 have hW:Z7 Tryz.tbG 3=some (1000010,[]):=Xx Tryz.tbGH.1 Tryz.tbGW
 have hY:Z7 Tryz.tbG 7=some (1000011,[]):=Xx Tryz.tbGH.1 Tryz.tbGY
 generalize Tryz.tbG=H at *
 have hval:=w70 s hs hm
 cases hv:YX s with
 | false=>
  rw[hv] at hval
  rw[fmtY_no hv]
  refine Z8 mxd i39 rfl (by simp) ?_;refine X0 ?_
  (refine V0 ?_)
  refine callS.eq hval ?_
  (refine V0 ?_;with_reducible repeat' exact trivial)
 | true=>
  rw[hv] at hval
  rw[fmtY_eq hv,←symW_end]
  obtain ⟨hat,hnm,hl4⟩:=sym_parts hv
  have hn8:=Yw hnm
  have h0:=symW_zero s
  have hst:=fun i (h:i<s.atts.length)=>symW_succ (s:=s) h
  have hwl:=symW_len hv
  generalize symW s=W at *
  refine Z8 mxd i39 rfl (by simp) ?_;refine X0 ?_
  (refine V0 ?_)
  refine callS.eq hval ?_
  (refine V1 @chA ?_)
  all_goals try exact oF
  all_goals try (simp only[List.length_append,List.length_cons,List.length_nil];omega)
  refine Zu mxd (ι:={ i:Nat // i≤s.atts.length }) (fun i=>[(1,.rop 2 (Sy s)),(3,.val (mkS (W i.1))),(13,AtS s.atts),(14,I s.atts.length),(15,I i.1)]) (fun _ => H) (fun i=>s.atts.length-i.1) ⟨0,oT⟩ (by simp[E2,←h0]) rfl ?_
  rintro ⟨i,hi⟩
  dsimp only
  have hb:=hwl i
  rcases nL i s.atts.length with hlt|hge
  ·have hx:=hat _ (gM hlt)
   have hs2:=hst i hlt
   obtain ⟨M,m1,m2⟩:=modI_at hx
   obtain ⟨N,t1,t2⟩:=typI_at hx
   obtain ⟨p1,p2,p3⟩:=Yh hx
   have w1:=(wrd_len (s.atts[i].mode - 1).toNat).1
   have w2:=(wrd_len (s.atts[i].type - 1).toNat).2
   have w3:=Yw p1
   unfold attT at hs2
   rw[←m2,←t2] at hs2
   rw[←m2] at w1
   rw[←t2] at w2
   obtain ⟨a,ha⟩:∃a,s.atts[i]=a:=⟨_,rfl⟩
   rw[ha] at hs2 p2 p3 w3 m1 t1
   cases hc:a.circ with
   | false=>
    rw[hc] at hs2
    simp only[Bool.false_eq_true,if_false,List.append_nil] at hs2
    (refine V1 (jO hlt (jO ha (jO hc @chA))) ?_)
    all_goals try exact oF
    all_goals try (simp only[List.length_append,List.length_cons,List.length_nil];omega)
    refine gix_of hW oT oT oT m1 ?_
    (refine V1 (jO ha (jO hc @chA)) ?_;with_reducible repeat' apply jO)
    all_goals try exact oF
    all_goals try (simp only[List.length_append,List.length_cons,List.length_nil];omega)
    refine gix_of hY oT oT oT t1 ?_
    (refine V1 (jO ha (jO hc @chA)) ?_;with_reducible repeat' apply jO)
    all_goals try exact oF
    all_goals try (simp only[List.length_append,List.length_cons,List.length_nil];omega)
    exact nx ⟨i+1,hlt⟩ (by dsimp only;omega) (by simp[E2,hs2]) rfl
   | true=>
    rw[hc] at hs2
    simp only[if_true] at hs2
    (refine V1 (jO hlt (jO ha (jO hc @chA))) ?_)
    all_goals try exact oF
    all_goals try (simp only[List.length_append,List.length_cons,List.length_nil];omega)
    refine gix_of hW oT oT oT m1 ?_
    (refine V1 (jO ha (jO hc @chA)) ?_;with_reducible repeat' apply jO)
    all_goals try exact oF
    all_goals try (simp only[List.length_append,List.length_cons,List.length_nil];omega)
    refine gix_of hY oT oT oT t1 ?_
    (refine V1 (jO ha (jO hc @chA)) ?_;with_reducible repeat' apply jO)
    all_goals try exact oF
    all_goals try (simp only[List.length_append,List.length_cons,List.length_nil];omega)
    exact nx ⟨i+1,hlt⟩ (by dsimp only;omega) (by simp[E2,hs2]) rfl
  ·obtain rfl:i=s.atts.length:=by omega
   (refine V0 ?_;with_reducible repeat' first|intro h|refine aO ?_)
   all_goals try exact oF
theorem w13 (g:Gram) (hs:okGr g) (hm:smGr g):Pu 13 [Gr g] (· = .val (mkS (fmtG g))):=by
 have hyv:=fun i (h:i<g.syms.length)=>w27 g.syms[i] (hs.1 _ (gM h)) (hm.2.2.1 _ (gM h))
 have hrv:=fun i (h:i<g.rules.length)=>w32 g.rules[i] (hs.2 _ (gM h)) (hm.2.2.2 _ (gM h))
 have hm1:=hm.1
 have hm2:=hm.2.1
 refine Z8 mxd i13 rfl (by simp) ?_;refine X0 ?_
 (refine V0 ?_)
 refine Zu mxd (ι:={ i:Nat // i≤g.syms.length∧∀j (h:j<g.syms.length),j<i→YX g.syms[j]=true }) (fun i=>[(1,.rop 2 (Gr g)),(3,.val (mkS (gW1 g i.1))),(4,I i.1)]) (fun _ => []) (fun i=>g.syms.length-i.1) ⟨0,oT,fun j h1 h2=>by omega⟩ (by simp[E2,gW1]) rfl ?_
 rintro ⟨i,hi,hv⟩
 dsimp only
 have hb:=gW1_len hi hv
 rcases nL i g.syms.length with hlt|hge
 ·have hq:=hyv i hlt
  cases hsv:YX g.syms[i] with
  | false=>
   rw[fmtY_no hsv] at hq
   have hno:fmtG g=[]:=fmtG_no fun h=>by have:=h.1 _ (gM hlt);rw[hsv] at this;cases this
   rw[hno]
   (refine V1 hlt ?_;with_reducible repeat' intro h)
   refine callS.eq hq ?_
   (refine V0 ?_;with_reducible repeat' exact trivial)
  | true=>
   rw[fmtY_eq hsv] at hq
   have hfl:=symT_len hsv
   have e0:((⟨(YQ g.syms[i]).toArray⟩:ByteArray)=⟨#[]⟩)=False:=eq_false fun h=>symT_ne g.syms[i] (congrArg Z9 h)
   have e1:(YQ g.syms[i]=Z9 ⟨#[]⟩)=False:=eq_false fun h=>symT_ne g.syms[i] h
   have hst:=gW1_succ hlt
   (refine V1 hlt ?_;with_reducible repeat' intro h)
   refine callS.eq hq ?_
   (refine V1 (jO e0 (jO e1 @chA)) ?_;with_reducible repeat' apply jO)
   all_goals try exact oF
   all_goals try (simp only[List.length_append,List.length_cons,List.length_nil];omega)
   exact nx ⟨i+1,hlt,fun j h1 h2=>by
    by_cases hj:j=i
    ·subst hj;exact hsv
    ·exact hv j h1 oT⟩ (by dsimp only;omega) (by simp[E2,hst]) rfl
 ·obtain rfl:i=g.syms.length:=by omega
  have hvs:∀s∈g.syms,YX s=true:=fun s h=>by obtain ⟨j,hj,rfl⟩:=List.mem_iff_getElem.1 h;exact hv j hj hj
  rw[gW2_zero]
  (refine V0 ?_;with_reducible repeat' intro h)
  refine Zu mxd (ι:={ i:Nat // i≤g.rules.length∧∀j (h:j<g.rules.length),j<i→Zw g.rules[j]=true }) (fun i=>[(1,.rop 2 (Gr g)),(3,.val (mkS (gW2 g i.1))),(6,I i.1)]) (fun _ => []) (fun i=>g.rules.length-i.1) ⟨0,oT,fun j h1 h2=>by omega⟩ (by simp[E2]) rfl ?_
  clear hb hv hi
  rintro ⟨i,hi,hv⟩
  dsimp only
  have hb:=gW2_len hm hvs hi hv
  rcases nL i g.rules.length with hlt|hge
  ·have hq:=hrv i hlt
   cases hsv:Zw g.rules[i] with
   | false=>
    have hf:Za g.rules[i]=[]:=by unfold Za;rw[hsv];rfl
    rw[hf] at hq
    have hno:fmtG g=[]:=fmtG_no fun h=>by have:=h.2 _ (gM hlt);rw[hsv] at this;cases this
    rw[hno]
    (refine V1 hlt ?_;with_reducible repeat' intro h)
    refine callS.eq hq ?_
    (refine V0 ?_;with_reducible repeat' exact trivial)
   | true=>
    rw[rLn_fmt hsv] at hq
    have hst:=gW2_succ hlt
    have hjl:=rJoin_len hsv (hm.2.2.2 _ (gM hlt))
    have hfl:=fmtR_len g.rules[i]
    rw[rLn_fmt hsv] at hfl
    obtain ⟨_,k2,k3,_⟩:=hm.2.2.2 _ (gM hlt)
    have hpos:0<(rLn g.rules[i]).length := by simp[rLn]
    have hJ:=wj33 ((rLn g.rules[i]).map bA) ⟨#[10]⟩ (by rw[List.length_map];omega) (by rw[map_chA,show Z9 ⟨#[10]⟩=[10] from rfl];omega)
    rw[map_chA,show Z9 ⟨#[10]⟩=[10] from rfl] at hJ
    generalize rLn g.rules[i]=L at *
    generalize Zx [10] L=J at *
    have e0:((L.length:Int)=0)=False:=eq_false oT
    (refine V1 hlt ?_;with_reducible repeat' intro h)
    refine callS.eq hq ?_
    (refine V1 (jO e0 @List.length_map.{0,0}) ?_)
    refine callS.eq hJ ?_
    (refine V1 @chA ?_;with_reducible repeat' apply jO)
    all_goals try exact oF
    all_goals try (simp only[List.length_append,List.length_cons,List.length_nil];omega)
    exact nx ⟨i+1,hlt,fun j h1 h2=>by
     by_cases hj:j=i
     ·subst hj;exact hsv
     ·exact hv j h1 oT⟩ (by dsimp only;omega) (by simp[E2,hst]) rfl
  ·obtain rfl:i=g.rules.length:=by omega
   have hvr:∀r∈g.rules,Zw r=true:=fun r h=>by obtain ⟨j,hj,rfl⟩:=List.mem_iff_getElem.1 h;exact hv j hj hj
   rw[gW2_end,fmtG_yes ⟨hvs,hvr⟩]
   (refine V0 ?_;with_reducible repeat' intro h)
   all_goals try exact oF
theorem p19 (g:Gram) (hs:okGr g) (hm:smGr g) (hL:vG g→(gT g).length ≤ 70000000000000):PureT Tryz.prog Tryz.tbG 19 [Gr g] (· = .val (mkS (fmtG g))):=by
 refine (?_ : GCalls _ _ _ _ _)
 refine GCalls.mono (R:=fun x _ => x = .val (mkS (fmtG g))) ?_ fun _ _ h=>h
 have hT:∀x∈Tryz.tbG,x∈Tryz.tbG:=fun _ h=>h
 have hT0:∀x∈tab10 7,x∈Tryz.tbG:=fun x h=>Tryz.tbGF x (Tryz.tb10 x h)
 have hnd:=Tryz.tbGH.1
 generalize hH:Tryz.tbG=H at hT0 hnd ⊢
 have hT1:∀x∈Tryz.tbG,x∈H:=fun x h=>hH▸h
 clear hT hH
 have hyv:=fun i (h:i<g.syms.length)=>p39 g.syms[i] (hs.1 _ (gM h)) (hm.2.2.1 _ (gM h))
 have hrv:=fun i (h:i<g.rules.length)=>p44 g.rules[i] (hs.2 _ (gM h)) (hm.2.2.2 _ (gM h))
 have hm1:=hm.1
 have hm2:=hm.2.1
 refine Z8 mxd i19 rfl (by simp) ?_;refine X0 ?_
 (refine V0 ?_;with_reducible repeat' intro h)
 rename_i r0
 refine YE mxd (ι:={ x:Nat×Nat // x.2≤g.syms.length∧∀j (h:j<g.syms.length),j<x.2→YX g.syms[j]=true }) (fun x=>[(1,.rop 2 (Gr g)),(3,.own x.1.1 1 0 x.1.2),(12,SyS g.syms),(13,I g.syms.length),(14,I x.1.2)]) (fun x=>(x.1.1,1,((gK1 g x.1.2).map bA).map T)::H) (fun x=>g.syms.length-x.1.2) ⟨(r0,0),by simp⟩ FE.refl (by simp[E2]) (by simp[gK1]) ?_
 rintro ⟨⟨q,i⟩,hi,hv⟩ hn
 dsimp only at hi hv hn ⊢
 have h7:=Zj hn
 (replace h7:=h7;simp only[VN] at h7)
 have hK:=gK1_len hi
 refine Zt mxd ?_
 rcases nL i g.syms.length with hlt|hge
 ·have hq:=hyv i hlt
  cases hsv:YX g.syms[i] with
  | false=>
   rw[fmtY_no hsv] at hq
   have hno:fmtG g=[]:=fmtG_no fun h=>by have:=h.1 _ (gM hlt);rw[hsv] at this;cases this
   rw[hno]
   (refine V1 (jO h7 hlt) ?_;with_reducible repeat' intro h)
   refine callS.eqT hq Tryz.tbGH (fun x h=>List.mem_cons_of_mem _ (hT1 x h)) ?_
   (refine V0 ?_;with_reducible repeat' exact trivial)
  | true=>
   rw[fmtY_eq hsv] at hq
   have e0:((⟨(YQ g.syms[i]).toArray⟩:ByteArray)=⟨#[]⟩)=False:=eq_false fun h=>symT_ne g.syms[i] (congrArg Z9 h)
   have hst:=gK1_succ hlt
   generalize gK1 g i=Z at *
   (refine V1 (jO h7 hlt) ?_;with_reducible repeat' intro h)
   refine callS.eqT hq Tryz.tbGH (fun x h=>List.mem_cons_of_mem _ (hT1 x h)) ?_
   (refine V1 (jO h7 (jO e0 @List.length_map.{0,0})) ?_;with_reducible repeat' first|intro h|refine aO ?_)
   all_goals try exact oF
   rename_i r1 _ r2
   exact nxF ⟨(r2,i+1),hlt,fun j h1 h2=>by
    by_cases hj:j=i
    ·subst hj;exact hsv
    ·exact hv j h1 oT⟩ (by dsimp only;omega) (FE.perm (H:=[_,_]) (L:=[(r2,_)]) (by repeat' (first|exact trivial|(refine jO (by simp only[Zy, *,if_true,if_false];try rfl) (jO (by simp[Zd,Y5, *]) ?_))))) (by simp[E2]) (by simp[hst,List.take_of_length_le,hK])
 ·obtain rfl:i=g.syms.length:=by omega
  have hvs:∀s∈g.syms,YX s=true:=fun s h=>by obtain ⟨j,hj,rfl⟩:=List.mem_iff_getElem.1 h;exact hv j hj hj
  rw[gK2_zero] at hK hn ⊢
  (refine V1 h7 ?_;with_reducible repeat' intro h)
  refine YE mxd (ι:={ x:Nat×Nat // x.2≤g.rules.length∧∀j (h:j<g.rules.length),j<x.2→Zw g.rules[j]=true }) (fun x=>[(1,.rop 2 (Gr g)),(3,.own x.1.1 1 0 (gK2 g x.1.2).length),(28,RuS g.rules),(29,I g.rules.length),(30,I x.1.2)]) (fun x=>(x.1.1,1,((gK2 g x.1.2).map bA).map T)::H) (fun x=>g.rules.length-x.1.2) ⟨(q,0),by simp⟩ FE.refl (by simp[E2,hK]) (by simp) ?_
  clear hn h7 hv hi
  rintro ⟨⟨q,i⟩,hi,hv⟩ hn
  dsimp only at hi hv hn ⊢
  have h7:=Zj hn
  (replace h7:=h7;simp only[VN] at h7)
  refine Zt mxd ?_
  have hK2:(gK2 g i).length ≤ 1048576+i * 2097153:=by
   have:=gLn_take hm hi hv
   simp only[gK2,List.length_append,List.length_map];omega
  rcases nL i g.rules.length with hlt|hge
  ·have hq:=hrv i hlt
   cases hsv:Zw g.rules[i] with
   | false=>
    have hf:Za g.rules[i]=[]:=by unfold Za;rw[hsv];rfl
    rw[hf] at hq
    have hno:fmtG g=[]:=fmtG_no fun h=>by have:=h.2 _ (gM hlt);rw[hsv] at this;cases this
    rw[hno]
    (refine V1 (jO h7 hlt) ?_;with_reducible repeat' intro h)
    refine callS.eqT hq (Zp 7) (fun x h=>List.mem_cons_of_mem _ (hT0 x h)) ?_
    (refine V0 ?_;with_reducible repeat' exact trivial)
   | true=>
    rw[rLn_fmt hsv] at hq
    have hst:=gK2_succ hlt
    have hfl:=fmtR_len g.rules[i]
    rw[rLn_fmt hsv] at hfl
    obtain ⟨_,k2,k3,_⟩:=hm.2.2.2 _ (gM hlt)
    have hpos:0<(rLn g.rules[i]).length := by simp[rLn]
    generalize rLn g.rules[i]=L at *
    generalize gK2 g i=Z at *
    have e0:((L.length:Int)=0)=False:=eq_false oT
    (refine V1 (jO h7 hlt) ?_;with_reducible repeat' intro h)
    refine callS.eqT hq (Zp 7) (fun x h=>List.mem_cons_of_mem _ (hT0 x h)) ?_
    (refine V1 (jO h7 (jO e0 @List.length_map.{0,0})) ?_;with_reducible repeat' intro h)
    all_goals try exact oF
    all_goals (
     rename_i r2
     exact nxF ⟨(r2,i+1),hlt,fun j h1 h2=>by
      by_cases hj:j=i
      ·subst hj;exact hsv
      ·exact hv j h1 oT⟩ (by dsimp only;omega) FE.refl (by simp[E2,hst]) (by simp[hst,List.take_of_length_le]))
  ·obtain rfl:i=g.rules.length:=by omega
   have hvr:∀r∈g.rules,Zw r=true:=fun r h=>by obtain ⟨j,hj,rfl⟩:=List.mem_iff_getElem.1 h;exact hv j hj hj
   have hvg:vG g:=⟨hvs,hvr⟩
   have hL:=hL hvg
   rw[fmtG_yes hvg]
   have h1:= @gT_join g
   have h2:= @gT_nil g
   rw[gK2_end] at hK2 hn ⊢
   by_cases hz:gLn g=[]
   ·rw[h2 hz,hz]
    (refine V1 h7 ?_;with_reducible repeat' intro h)
    all_goals try exact oF
   ·have hgt:=h1 hz
    have hpos:0<(gLn g).length := List.length_pos_iff.2 hz
    have hJl:(Zx [10] (gLn g)).length ≤ 70000000000000:=by rw[←hgt] at hL;simp only[List.length_append,List.length_cons,List.length_nil] at hL;omega
    have hJ:=w45 ((gLn g).map bA) ⟨#[10]⟩ (by rw[List.length_map];omega) (by rw[map_chA,show Z9 ⟨#[10]⟩=[10] from rfl];omega)
    rw[map_chA,show Z9 ⟨#[10]⟩=[10] from rfl] at hJ
    rw[←hgt]
    generalize gLn g=L at *
    generalize Zx [10] L=J at *
    have e0:((L.length:Int)=0)=False:=eq_false oT
    (refine V1 (jO h7 (jO e0 @List.length_map.{0,0})) ?_;with_reducible repeat' intro h)
    refine callS.borA hJ (.cons (Bor.seen (f:=T) (fun a=>by simp[view,Zn]) Z4 (by rw[List.length_map])) (.cons .refl .nil)) rfl ?_
    (refine V1 (jO h7 @chA) ?_)
    all_goals try exact oF
    all_goals try omega
    all_goals try (simp only[List.length_append,List.length_cons,List.length_nil];omega)
end Go.Proofs.YtmdfoigdflaliabGreatDoor
