/- The tied card of the law holds. No condition. -/
import Derived.Test.YtcegkonjphbfaaaGreatDoorPpr15
set_option maxHeartbeats 40000000
set_option maxRecDepth 20000
set_option linter.unusedSimpArgs false
set_option linter.unusedVariables false
namespace Go.Proofs.YtcegkonjphbfaaaGreatDoor
open Go.Gh
open Nat (reduceEqDiff reduceLeDiff reduceAdd reduceLT)
open Int (reduceNe)
open Go.ChangeShapes Go.WideShapes Go.ChangeAt Go.RowKit Go.Lib
theorem Tryz.own:ownKnob Tryz.prog.godebug=none:=by kernel_rfl
theorem Tryz.laidOut:laidOutB Tryz.prog=true:=by kernel_rfl
theorem Tryz.mapsRowed:mapsRowed Tryz.prog=true:=by kernel_rfl
theorem Tryz.tp10:(Tryz.prog.globals[1]?).map (·.type)=some 171:=by kernel_rfl
theorem Tryz.gpR:Tryz.prog.globalNamed "strconv.ErrRange" = some 5:=by kernel_rfl
theorem Tryz.tpR:(Tryz.prog.globals[5]?).map (·.type)=some 144:=by kernel_rfl
theorem Tryz.gpS:Tryz.prog.globalNamed "strconv.ErrSyntax" = some 4:=by kernel_rfl
theorem Tryz.tpS:(Tryz.prog.globals[4]?).map (·.type)=some 144:=by kernel_rfl
theorem Tryz.shM {W:World} (h:W.ShapedOpen Tryz.prog):∃m,W.cell? ⟨0,0,none⟩=some (.int .i64 m):=
 Go.Proofs.cell_of_shapedOpen_int (P:=Tryz.prog) (g:=0) (t:=3) (zero:= #[.int .i64 0]) h (of_decide_eq_true (by kernel_rfl)) (by kernel_rfl) rfl (by kernel_rfl) (by kernel_rfl) Tryz.underlying3
abbrev Tryz.laid7:List (String×DataW Unit):=[("math/bits.deBruijn32tab",Rows.laid_math_bits_deBruijn32tab),("math/bits.deBruijn64tab",Rows.laid_math_bits_deBruijn64tab),("internal/strconv.uint64pow10",Rows.laid_internal_strconv_uint64pow10),("unicode/utf8.acceptRanges",Rows.laid_unicode_utf8_acceptRanges),("strconv.ErrRange",Rows.laid_strconv_ErrRange),("strconv.ErrSyntax",Rows.laid_strconv_ErrSyntax),("unicode/utf8.first",Rows.laid_unicode_utf8_first)]
set_option maxRecDepth 100000 in
theorem Tryz.door7 (os:Os) (args:Array Value):laidMetH Tryz.prog Tryz.laid7 ((World.laidAll Tryz.prog os Tryz.laid7).forCall (fun _ _ => 0) ⟨#[],args,[]⟩).memory := by
 rw[MakeChecks.laidMetH_plain _ _ _ (by kernel_rfl)]
 exact laidMet_laidAll _ (by kernel_rfl) (by kernel_rfl)
set_option maxRecDepth 100000 in
theorem Tryz.of_laid7 {W:World} (h:laidMetH Tryz.prog Tryz.laid7 W):TabIs Tryz.prog W "internal/strconv.uint64pow10" .u64 pow10Tab∧(∃u v,W.var? Tryz.prog "strconv.ErrRange" = some #[.iface u v])∧∃u v,W.var? Tryz.prog "strconv.ErrSyntax" = some #[.iface u v]:=by
 rw[MakeChecks.laidMetH_plain _ _ _ (by kernel_rfl)] at h
 obtain ⟨ps,⟨g0,t0,cs0,f0,p0,q0,hg0,ht0,hv0,hd0,⟨g1,t1,cs1,f1,p1,q1,hg1,ht1,hv1,hd1,⟨g2,t2,cs2,f2,p2,q2,hg2,ht2,hv2,hd2,⟨g3,t3,cs3,f3,p3,q3,hg3,ht3,hv3,hd3,⟨g4,t4,cs4,f4,p4,q4,hg4,ht4,hv4,hd4,⟨g5,t5,cs5,f5,p5,q5,hg5,ht5,hv5,hd5,_,_⟩,_⟩,_⟩,_⟩,_⟩,_⟩,_,_⟩:=h
 obtain rfl:=Option.some.inj (Tryz.gp10.symm.trans hg2)
 obtain rfl:=Option.some.inj (Tryz.tp10.symm.trans ht2)
 obtain rfl:=Option.some.inj (Tryz.gpR.symm.trans hg4)
 obtain rfl:=Option.some.inj (Tryz.tpR.symm.trans ht4)
 obtain rfl:=Option.some.inj (Tryz.gpS.symm.trans hg5)
 obtain rfl:=Option.some.inj (Tryz.tpS.symm.trans ht5)
 have e:(Rows.laid_internal_strconv_uint64pow10:DataW Unit)=tabData .u64 pow10Tab:=by rfl
 rw[e] at hd2
 obtain ⟨u,v,hc⟩:=ifcTrod ⟨_,Tryz.underlying144⟩ hd4
 obtain ⟨u2,v2,hc2⟩:=ifcTrod ⟨_,Tryz.underlying144⟩ hd5
 refine ⟨?_,⟨u,v,?_⟩,u2,v2,?_⟩
 ·unfold TabIs
  rw[hv2,←cells_of_tab Tryz.underlying171 Tryz.underlying155 (by kernel_rfl) (by kernel_rfl) hd2]
 ·rw[hv4,←hc]
 ·rw[hv5,←hc2]
theorem Tryz.hm7 {W:World} (h:laidMetH Tryz.prog Tryz.laid7 W) (hs:W.ShapedOpen Tryz.prog):HM W (Yr W) Tryz.tb []:=HM.tabF Tryz.gp10 (Tryz.of_laid7 h).1 Tryz.gpS (Tryz.of_laid7 h).2.2 Tryz.gpR (Tryz.of_laid7 h).2.1 (Tryz.shM hs)
end Go.Proofs.YtcegkonjphbfaaaGreatDoor
