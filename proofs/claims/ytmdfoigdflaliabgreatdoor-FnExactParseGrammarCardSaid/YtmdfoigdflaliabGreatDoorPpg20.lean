/- The tied card of the law holds. No condition. -/
import Derived.Test.YtmdfoigdflaliabGreatDoorPpg19
set_option maxHeartbeats 40000000
set_option maxRecDepth 100000
namespace Go.Proofs.YtmdfoigdflaliabGreatDoor
open Go.Gh
open Go.ChangeShapes Go.WideShapes Go.ChangeAt Go.RowKit Go.Lib
theorem Tryz.own:ownKnob Tryz.prog.godebug=none:=by kernel_rfl
theorem Tryz.laidOut:laidOutB Tryz.prog=true:=by kernel_rfl
theorem Tryz.mapsRowed:mapsRowed Tryz.prog=true:=by kernel_rfl
theorem Tryz.tp10:(Tryz.prog.globals[7]?).map (·.type)=some 213:=by kernel_rfl
theorem Tryz.gpR:Tryz.prog.globalNamed "strconv.ErrRange" = some 6:=by kernel_rfl
theorem Tryz.tpR:(Tryz.prog.globals[6]?).map (·.type)=some 137:=by kernel_rfl
theorem Tryz.gpS:Tryz.prog.globalNamed "strconv.ErrSyntax" = some 5:=by kernel_rfl
theorem Tryz.tpS:(Tryz.prog.globals[5]?).map (·.type)=some 137:=by kernel_rfl
theorem Tryz.shM {W:World} (h:W.ShapedOpen Tryz.prog):∃m,W.cell? ⟨2,0,none⟩=some (.int .i64 m):=
 Go.Proofs.cell_of_shapedOpen_int (P:=Tryz.prog) (g:=2) (t:=3) (zero:= #[.int .i64 0]) h (of_decide_eq_true (by kernel_rfl)) (by kernel_rfl) rfl (by kernel_rfl) (by kernel_rfl) Tryz.underlying3
theorem Tryz.gpW:Tryz.prog.globalNamed "loop.example/g00512/impl.modeWords" = some 0:=by kernel_rfl
theorem Tryz.tpW:(Tryz.prog.globals[0]?).map (·.type)=some 75:=by kernel_rfl
theorem Tryz.gpY:Tryz.prog.globalNamed "loop.example/g00512/impl.typeWords" = some 1:=by kernel_rfl
theorem Tryz.tpY:(Tryz.prog.globals[1]?).map (·.type)=some 76:=by kernel_rfl
theorem Tryz.rdW:Tryz.prog.readableRec 75=true∧75<Tryz.prog.types.size:=⟨by kernel_rfl,of_decide_eq_true (by kernel_rfl)⟩
theorem Tryz.rdY:Tryz.prog.readableRec 76=true∧76<Tryz.prog.types.size:=⟨by kernel_rfl,of_decide_eq_true (by kernel_rfl)⟩
theorem Tryz.rdWY:∀n∈["loop.example/g00512/impl.modeWords", "loop.example/g00512/impl.typeWords"],∀g t,Tryz.prog.globalNamed n=some g→(Tryz.prog.globals[g]?).map (·.type)=some t→Tryz.prog.readableRec t=true∧t<Tryz.prog.types.size:=fun n hn g t h1 h2=>by
 simp only[List.mem_cons,List.not_mem_nil,or_false] at hn
 rcases hn with rfl|rfl
 ·obtain rfl:=Option.some.inj (Tryz.gpW.symm.trans h1)
  obtain rfl:=Option.some.inj (Tryz.tpW.symm.trans h2)
  exact Tryz.rdW
 ·obtain rfl:=Option.some.inj (Tryz.gpY.symm.trans h1)
  obtain rfl:=Option.some.inj (Tryz.tpY.symm.trans h2)
  exact Tryz.rdY
abbrev Tryz.laid9:List (String×DataW Unit):=[("math/bits.deBruijn32tab",Rows.laid_math_bits_deBruijn32tab),("math/bits.deBruijn64tab",Rows.laid_math_bits_deBruijn64tab),("internal/strconv.uint64pow10",Rows.laid_internal_strconv_uint64pow10),("unicode/utf8.acceptRanges",Rows.laid_unicode_utf8_acceptRanges),("strconv.ErrRange",Rows.laid_strconv_ErrRange),("strconv.ErrSyntax",Rows.laid_strconv_ErrSyntax),("loop.example/g00512/impl.modeWords",Rows.laid_loop_example_g00512_impl_modeWords),("loop.example/g00512/impl.typeWords",Rows.laid_loop_example_g00512_impl_typeWords),("unicode/utf8.first",Rows.laid_unicode_utf8_first)]
theorem Tryz.door9 (os:Os) (args:Array Value):laidMetH Tryz.prog Tryz.laid9 ((World.laidAll Tryz.prog os Tryz.laid9).forCall (fun _ _ => 0) ⟨#[],args,[]⟩).memory := by
 rw[MakeChecks.laidMetH_plain _ _ _ (by kernel_rfl)]
 exact laidMet_laidAll _ (by kernel_rfl) (by kernel_rfl)
theorem Tryz.hm9 {W:World} (h:laidMetH Tryz.prog Tryz.laid9 W) (hs:W.ShapedOpen Tryz.prog):HM W (Yt W) Tryz.tbG []:=by
 rw[MakeChecks.laidMetH_plain _ _ _ (by kernel_rfl)] at h
 obtain ⟨ps,⟨g0,t0,cs0,f0,p0,q0,hg0,ht0,hv0,hd0,⟨g1,t1,cs1,f1,p1,q1,hg1,ht1,hv1,hd1,⟨g2,t2,cs2,f2,p2,q2,hg2,ht2,hv2,hd2,⟨g3,t3,cs3,f3,p3,q3,hg3,ht3,hv3,hd3,⟨g4,t4,cs4,f4,p4,q4,hg4,ht4,hv4,hd4,⟨g5,t5,cs5,f5,p5,q5,hg5,ht5,hv5,hd5,⟨g6,t6,cs6,f6,p6,q6,hg6,ht6,hv6,hd6,⟨g7,t7,cs7,f7,p7,q7,hg7,ht7,hv7,hd7,_,_⟩,_⟩,_⟩,_⟩,_⟩,_⟩,_⟩,_⟩,_,_⟩:=h
 obtain rfl:=Option.some.inj (Tryz.gp10.symm.trans hg2)
 obtain rfl:=Option.some.inj (Tryz.tp10.symm.trans ht2)
 obtain rfl:=Option.some.inj (Tryz.gpR.symm.trans hg4)
 obtain rfl:=Option.some.inj (Tryz.tpR.symm.trans ht4)
 obtain rfl:=Option.some.inj (Tryz.gpS.symm.trans hg5)
 obtain rfl:=Option.some.inj (Tryz.tpS.symm.trans ht5)
 obtain rfl:=Option.some.inj (Tryz.gpW.symm.trans hg6)
 obtain rfl:=Option.some.inj (Tryz.tpW.symm.trans ht6)
 obtain rfl:=Option.some.inj (Tryz.gpY.symm.trans hg7)
 obtain rfl:=Option.some.inj (Tryz.tpY.symm.trans ht7)
 have e:(Rows.laid_internal_strconv_uint64pow10:DataW Unit)=tabData .u64 pow10Tab:=by rfl
 rw[e] at hd2
 have eW:(Rows.laid_loop_example_g00512_impl_modeWords:DataW Unit) = .agg ((YC 1000010).map fun z=> .lit (.string z.data.toList)):=by rfl
 rw[eW] at hd6
 have eY:(Rows.laid_loop_example_g00512_impl_typeWords:DataW Unit) = .agg ((YC 1000011).map fun z=> .lit (.string z.data.toList)):=by rfl
 rw[eY] at hd7
 obtain ⟨u,v,hc⟩:=ifcTrod ⟨_,Tryz.underlying137⟩ hd4
 obtain ⟨u2,v2,hc2⟩:=ifcTrod ⟨_,Tryz.underlying137⟩ hd5
 refine HM.tabG Tryz.gp10 ?_ Tryz.gpS ⟨u2,v2,?_⟩ Tryz.gpR ⟨u,v,?_⟩ (Tryz.shM hs) Tryz.gpW ?_ Tryz.gpY ?_
 ·unfold TabIs
  rw[hv2,←cells_of_tab Tryz.underlying213 Tryz.underlying200 (by kernel_rfl) (by kernel_rfl) hd2]
 ·rw[hv5,←hc2]
 ·rw[hv4,←hc]
 ·rw[hv6,←cells_of_strs Tryz.underlying75 Tryz.underlying9 (by kernel_rfl) (by kernel_rfl) hd6]
 ·rw[hv7,←cells_of_strs Tryz.underlying76 Tryz.underlying9 (by kernel_rfl) (by kernel_rfl) hd7]
end Go.Proofs.YtmdfoigdflaliabGreatDoor
