/- The tied card of the law holds. No condition. -/
import Derived.Test.YtcegkonjphbfaaaGreatDoorPpr4
set_option maxHeartbeats 40000000
set_option maxRecDepth 20000
set_option linter.unusedSimpArgs false
set_option linter.unusedVariables false
namespace Go.Proofs.YtcegkonjphbfaaaGreatDoor
open Go.Gh
open Nat (reduceEqDiff reduceLeDiff reduceAdd reduceLT)
open Int (reduceNe)
open Go.Shelf Go.RowKit Go.Lib Go.Sort
abbrev Tryz.tb:GH:=tabF 1 4 5 0
theorem Tryz.tbH:tabH Tryz.tb:=tabH_F (by decide)
theorem Tryz.tb10:∀x∈tab10 1,x∈Tryz.tb:=tabF_10 _ _ _ _
theorem Tryz.tbE:∀x∈tabE 1 5,x∈Tryz.tb:=tabF_E _ _ _ _
theorem Tryz.tbM {w:World} {D:Nat→Prop} (h:HM w D Tryz.tb []):∃m:Int,w.cell? ⟨0,0,none⟩=some (.int .i64 m):=HM.isM h Tryz.tbH.1 (by simp[tabF])
theorem p67 (s sep:ByteArray) (hs:(Z9 s).length ≤ 1048576):PureT Tryz.prog Tryz.tb 67 [T s,T sep] (· = .tup [.val (mkS (cut (Z9 s) (Z9 sep)).1),.val (mkS (cut (Z9 s) (Z9 sep)).2.1),B (cut (Z9 s) (Z9 sep)).2.2]):=by
 have eg:∀args w,(callFunc 67 args).run Tryz.prog w = .ok (.enter 67 args) w:=enters_of Tryz.func67 (by kernel_rfl) rfl
 refine lib_ok (fun w D vs hm hn hml=> ?_) (tabF_ok _ _ _ _) eg
 obtain rfl:=ml2 hml
 obtain ⟨m,hm⟩:=Tryz.tbM hm
 refine (Any.strings_Cut Tryz.cutL s sep m w (cut_le4 hs) hm).mono ?_
 rintro e w' ⟨rfl,n,rfl⟩
 exact ⟨_,_,rfl,rfl,fun D'=>MV.tup3 _ _ _,below_drew n⟩
theorem Tryz.i9:(Tryz.prog.info? 9).map (fun i=>(i.zero,i.size,i.bytes))=some (some (.string ByteArray.empty),1,16):=by kernel_rfl
theorem o26 (s sep:ByteArray) (n:Nat) (hs:(Z9 s).length ≤ 1048576) (h1:1≤(Z9 sep).length) (hn:1≤n) (hn2:n≤1048576) {H:GH} (hT:∀x∈Tryz.tb,x∈H) :
 Gc 26 [T s,T sep,I n] H (fun g H'=>∃r,g = .own r 1 0 (splitN (Z9 s) (Z9 sep) n).length ∧ H'=(r,1,((splitN (Z9 s) (Z9 sep) n).map bA).map T)::H):=by
 have eg:∀args w,(callFunc 26 args).run Tryz.prog w = .ok (.enter 26 args) w:=enters_of Tryz.func26 (by kernel_rfl) rfl
 have he:splitB sep 0 (min n (s.size+1)-1) s=(splitN (Z9 s) (Z9 sep) n).map bA:=by rw[splitB_pieces,ZE];rfl
 have hlen:=splitB_length_le sep 0 (min n (s.size+1)-1) s
 rw[he,List.length_map] at hlen
 refine (lib_own Tryz.tbH (sz:=1) (R:=fun es=>es=((splitN (Z9 s) (Z9 sep) n).map bA).map T) (fun w D vs hm hn' hml=> ?_) eg hT).mono fun g H' ⟨r,es,h1,h2,h3⟩=> ?_
 ·obtain rfl:=ml3 hml
  obtain ⟨m,hm⟩:=Tryz.tbM hm
  refine (Any.strings_SplitN Tryz.spNL Tryz.i9 s sep n m w (cut_le4 hs) hm (by rw[ZE];exact h1) hn (by omega)).mono ?_
  rintro e w' ⟨rfl,rfl⟩
  rw[he]
  refine ⟨((splitN (Z9 s) (Z9 sep) n).map bA).map T,_,_,min n (s.size+1),by rw[List.length_map,List.length_map,List.length_map],rfl,rfl,?_,?_,?_,?_⟩
  ·rw[List.length_map,List.length_map];omega
  ·rw[List.length_map,List.length_map];unfold Y9;omega
  ·rw[cellsOf_size (by rw[List.length_map];omega)];omega
  ·have e2:(cellsOf ((splitN (Z9 s) (Z9 sep) n).map bA) (min n (s.size+1))).toList.take ((((splitN (Z9 s) (Z9 sep) n).map bA).map T).length * 1)=((splitN (Z9 s) (Z9 sep) n).map bA).map Value.string:=by
    unfold cellsOf
    rw[List.toList_toArray,Nat.mul_one,List.take_append_of_le_length (by simp),tL (by simp)]
   rw[e2]
   exact mf_str _
 ·subst h1
  exact ⟨r,by rw[h2,List.length_map,List.length_map],h3⟩
theorem w68 (s p:ByteArray):Pu 68 [T s,T p] (· = .val (mkS (Ze (Z9 p) (Z9 s)))):=by
 have eg:∀args w,(callFunc 68 args).run Tryz.prog w = .ok (.enter 68 args) w:=enters_of Tryz.func68 (by kernel_rfl) rfl
 refine lib_ok (T:=[]) (fun w D vs hm hn hml=> ?_) (by simp) eg
 obtain rfl:=ml2 hml
 refine (Any.strings_TrimPrefix Tryz.trmL s p w).mono ?_
 rintro e w' ⟨rfl,rfl⟩
 rw[trim_eq]
 exact ⟨_,_,rfl,rfl,fun D'=>MV.val_mk _,Below.refl _ _⟩
theorem ax147 (s:ByteArray) (hs:(Z9 s).length ≤ 1048576):PureT Tryz.prog Tryz.tb 147 [T s] (atoX (Z9 s)):=by
 have eg:∀args w,(callFunc 147 args).run Tryz.prog w = .ok (.enter 147 args) w:=enters_of Tryz.func147 (by kernel_rfl) rfl
 have hsz:s.size≤1048576:=by rw[ZE];exact hs
 refine lib_ok (fun w D vs hm hn hml=> ?_) (tabF_ok _ _ _ _) eg
 obtain rfl:=ml1 hml
 cases hA:atoiAll (Z9 s) with
 | ok v=>
  refine (Any.strconv_Atoi_ok Tryz.atoiL s (by omega) _ hA w).mono ?_
  rintro e w' ⟨rfl,hw⟩
  refine ⟨_,.tup [I v,.val .nilIface],rfl,.inl ⟨v,hA,rfl⟩,fun D'=>MV.tup2 _ _,?_⟩
  rcases hw with rfl|⟨t,rfl⟩
  ·exact Below.refl _ _
  ·exact Lib.bytesWorld_below _ _ _
 | range=>
  obtain ⟨te,pe,hc⟩:=HM.isE (m:=5) hm hn (by simp[tabF])
  refine (Any.strconv_Atoi_range Tryz.atoiL s (by omega) hA _ w hc (.inr ⟨te,pe,rfl⟩)).mono ?_
  rintro e w' ⟨M,rfl,_,_,hb⟩
  exact ⟨_,.tup [I _,.val (.iface _ _)],rfl,.inr ⟨fun v h=>(by rw[hA] at h;cases h),_,_,_,rfl⟩,fun D'=>MV.tup2 _ _,hb⟩
 | _ =>
  obtain ⟨te,pe,hc⟩:=HM.isE (m:=4) hm hn (by simp[tabF])
  refine (Any.strconv_Atoi_syntax Tryz.atoiL s (by omega) hA _ w hc (.inr ⟨te,pe,rfl⟩)).mono ?_
  rintro e w' ⟨M,rfl,_,_,hb⟩
  exact ⟨_,.tup [I _,.val (.iface _ _)],rfl,.inr ⟨fun v h=>(by rw[hA] at h;cases h),_,_,_,rfl⟩,fun D'=>MV.tup2 _ _,hb⟩
theorem Tryz.gp10:Tryz.prog.globalNamed "internal/strconv.uint64pow10" = some 1:=by kernel_rfl
theorem p61 (n:Int) (h0 : -9223372036854775808≤n) (h1:n≤9223372036854775807):PureT Tryz.prog (tab10 1) 61 [I n] (· = .val (mkS (itoa n))):=by
 have eg:∀args w,(callFunc 61 args).run Tryz.prog w = .ok (.enter 61 args) w:=enters_of Tryz.func61 (by kernel_rfl) rfl
 refine itoa_ok (args:=fun n=> #[.int .i64 n]) (n:=n) Tryz.gp10 ?_ (fun w ht=>Any.strconv_Itoa Tryz.itoaL n h0 h1 w ht) eg
 intro w D vs h
 simp only[ML,MV] at h
 obtain ⟨v,vs',F1,F2,rfl,_,⟨rfl,_⟩,rfl,_⟩:=h
 rfl
theorem p24 (n:Int) (h0 : -9223372036854775808≤n) (h1:n≤9223372036854775807):PureT Tryz.prog (tab10 1) 24 [I n] (· = .val (mkS (itoa n))):=by
 refine Z8 mxd i24 rfl (by simp) ?_;refine X0 ?_
 (refine V0 ?_)
 refine callS.eqT (p61 n h0 h1) (Zq 1) (fun _ h=>h) ?_
 (refine V0 ?_;with_reducible repeat' exact trivial)
theorem w33 (n:Int) (h0 : -9223372036854775808≤n) (h1:n≤9223372036854775807):Pu 33 [I n] (· = .val (mkS (itoa n))):=by
 refine Pure.bor ?_
 by_cases hn:n=0
 ·subst hn
  rw[itoa_0]
  refine Z8 mxd i33 rfl (by simp) ?_;refine X0 ?_
  (refine V0 ?_)
  exact .refl
 have hn':=eq_false hn
 rw[itoa_dgs hn]
 have hlen:=dgs_len (u:=n.natAbs) (by omega)
 refine Z8 mxd i33 rfl (by simp) ?_;refine X0 ?_
 (refine V1 (jO hn' @decide_false) ?_;with_reducible repeat' intro h)
 refine ploop mxd (ι:={ x:Int×List UInt8 // x.1.natAbs≤n.natAbs∧dgs x.1.natAbs++x.2=dgs n.natAbs }) (fun x=>[(0,I x.1.1),(3,B (decide (n<0))),(4,.val (mkS x.1.2))]) (fun _ => []) (fun x=>x.1.1.natAbs) ⟨(n,[]),by simp⟩ (by simp[E2]) (by simp[subH]) ?_
 rintro ⟨⟨m,out⟩,hm,ho⟩ -
 dsimp only at hm ho ⊢
 by_cases hm0:m=0
 ·have hm0':=eq_true hm0
  subst hm0
  have ho':out=dgs n.natAbs:=by rw[←ho];simp[dgs]
  subst ho'
  by_cases hneg:n<0
  ·have hneg':=eq_true hneg
   (refine V1 (jO hneg' @decide_true) ?_;with_reducible repeat' apply jO)
   all_goals try exact oF
   all_goals first|exact .refl | (simp;omega)
  ·have hneg':=eq_false hneg
   (refine V1 (jO hneg' @decide_false) ?_)
   all_goals try exact oF
   exact .refl
 ·have hm0':=eq_false hm0
  have hs:=dgs_step (u:=m.natAbs) (by omega) out
  have hol:out.length≤19:=by have:=congrArg List.length ho;simp at this;omega
  have h3:=tmod10 m
  have h4:=tdiv10 m
  by_cases hd:m.tmod 10<0
  ·have hd':=eq_true hd
   have e1:0-m.tmod 10=((m.natAbs % 10:Nat):Int):=by rw[if_pos hd] at h3;exact h3
   have e2:=digB _ (mod_lt10 m.natAbs)
   (refine V1 (jO hm0' (jO hd' (jO @decide_false @decide_true))) ?_;with_reducible repeat' first|intro h|apply jO)
   all_goals try exact oF
   ·simp;omega
   ·rw[e1,e2]
    refine px ⟨(m.tdiv 10,UInt8.ofNat (48+m.natAbs % 10)::out),by dsimp only;omega,by dsimp only;rw[h4,←hs,ho]⟩ (by dsimp only;omega) (by simp[E2]<;>rfl) (by simp[subH])
  ·have hd':=eq_false hd
   have e1:m.tmod 10=((m.natAbs % 10:Nat):Int):=by rw[if_neg hd] at h3;exact h3
   have e2:=digB _ (mod_lt10 m.natAbs)
   (refine V1 (jO hm0' (jO hd' (jO @decide_false @decide_true))) ?_;with_reducible repeat' first|intro h|apply jO)
   all_goals try exact oF
   ·simp;omega
   ·rw[e1,e2]
    refine px ⟨(m.tdiv 10,UInt8.ofNat (48+m.natAbs % 10)::out),by dsimp only;omega,by dsimp only;rw[h4,←hs,ho]⟩ (by dsimp only;omega) (by simp[E2]<;>rfl) (by simp[subH])
end Go.Proofs.YtcegkonjphbfaaaGreatDoor
