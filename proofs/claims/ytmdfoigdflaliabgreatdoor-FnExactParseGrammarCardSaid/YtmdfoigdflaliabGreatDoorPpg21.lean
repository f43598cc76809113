/- The tied card of the law holds. No condition. -/
import Derived.Test.YtmdfoigdflaliabGreatDoorPpg20
set_option maxHeartbeats 40000000
set_option maxRecDepth 100000
namespace Go.Proofs.YtmdfoigdflaliabGreatDoor
open Go.Gh
open Go.ChangeShapes Go.WideShapes Go.ChangeAt Go.RowKit Go.Lib
theorem l3 (os:Os) (started:os.Started) (H:Type) (enc:TypeId×Value→H) :
 ReturnsInHanded {} Tryz.checked os 3 .any (fun w args=>(Rows.fnExactParseGrammarSpec.pre enc Tryz.prog Tryz.f3 [] false w args∧laidMetH Tryz.prog Tryz.laid9 w)∧sizedMet enc Tryz.prog Tryz.f3 (OpenSpec.ofChange Rows.fnExactParseGrammarSpec) false w args) (Rows.fnExactParseGrammarSpec.post enc Tryz.prog Tryz.f3 false true false false):=by
 refine returnsInHanded_of_change_sx (C:=Tryz.checked) (X:=fun w _ => laidMetH Tryz.prog Tryz.laid9 w) (fun _ _ _ hh h=>h.of_heap hh) Tryz.own started (by kernel_rfl) Tryz.func3
  (ChangeSpec.witness_shaped (enc:=enc) (C:=Tryz.checked) (os:=os) (X:=fun w _ => laidMetH Tryz.prog Tryz.laid9 w) false (World.laidAll Tryz.prog os Tryz.laid9) #[.string (ByteArray.mk #[])] 8 (World.laidAll_os _ _ _) (World.shaped_of_ZipB (by kernel_rfl) (by kernel_rfl)) (by kernel_rfl) (by kernel_rfl) (by kernel_rfl) (Tryz.door9 os _)) ?_
 intro W base args ds gs before hval0 hW _ _ hL hSh
 have hval:∀(j:Nat) t v,Tryz.f3.params[j]? = some t→args[j]? = some v→Value.okWide Tryz.prog W .any base t v:=hval0
 have hW':=hW
 obtain ⟨p,q,hA0,hV,rfl,hfz,hnd⟩:=hW
 have hA:DataW.TrodAll enc Tryz.prog W 0 (fun _ => true) true Tryz.f3.params.toList args.toList ds p:=hA0
 rw[Tryz.params3] at hA hval
 obtain ⟨v0,d0,rfl,rfl,h0⟩:=trodAll_one hA
 obtain ⟨x0,x1,x2,x3,x4,x5,y0,y1,y2,y3,y4,y5,rfl,_⟩:=trodVars_two hV
 obtain ⟨g0,m0,e0⟩:=lift_val (P:=Tryz.prog) 8 (by kernel_rfl) (hval 0 _ v0 rfl rfl) h0
 obtain ⟨s,rfl,hs⟩:=t_T e0
 clear hA0 hval0
 have hlt:=hW'.lt
 refine ((p3 s hs).out i3 (W:=W) (args:=[v0]) (.cons0 m0 .nil0) (Tryz.hm9 hL hSh) Tryz.tbGH.1).mono fun e W' ⟨v,g,D,he,hg,hm,hb⟩=> ?_
 subst he;subst hg
 have hv:=MV.val_inv hm
 subst hv
 exact ⟨_,rfl,post_of_below (pa:=p) (pv:=q) hW' (fun _ _ _ => trodAll_mk1 (shut_bool Tryz.underlying4 _)) (fun sp hsp=>trodAll_mk1 (WideElems.Trod_stays Tryz.laidOut (by kernel_rfl) (of_decide_eq_true (by kernel_rfl)) h0 (fun x hx=>hb.same (hlt x (by simp[hx]))) (fun x hx=>hsp x (by simp[hx])))) (fun sp hsp=>trodVars_stays Tryz.laidOut hb Tryz.rdWY hV (fun x hx=>hlt x (by simp[hx])) (fun x hx=>hsp x (by simp[hx]))) rfl
  hb (ok_one (by kernel_rfl) rfl (okWide_bool_mk Tryz.underlying4 _))⟩
theorem ja3:(Rows.fnExactParseGrammarRow.inPlace == Tryz.prog.inPlace 3)=true:=by kernel_rfl
theorem jb3:(Rows.fnExactParseGrammarRow.unfollowed == Tryz.prog.unfollowed 3)=true:=by kernel_rfl
theorem jc3:(Rows.fnExactParseGrammarRow.recurses == Tryz.prog.recurses 3)=true:=by kernel_rfl
theorem jd3:(Rows.fnExactParseGrammarRow.named == Tryz.prog.varsNamed 3)=true:=by kernel_rfl
theorem j3:joinedFacts Tryz.prog 3 Tryz.f3 Rows.fnExactParseGrammarSpec Rows.fnExactParseGrammarRow=true:=by
 unfold joinedFacts
 rw[ja3,jb3,jc3,jd3,Tryz.laidOut,Tryz.mapsRowed]
 kernel_rfl
theorem h3:Rows.FnExactParseGrammarSaid:=
 OpenClaim.holds_of_wide 3 Tryz.f3 rfl rfl rfl rfl rfl rfl rfl ⟨rfl,rfl,rfl,rfl,rfl⟩ rfl rfl rfl rfl rfl (by kernel_rfl) Tryz.func3 j3
  (of_decide_eq_true (by kernel_rfl)) (by unfold Func.isWrapper;first|(rw[if_pos (by decide +kernel)];kernel_rfl)|(rw[if_neg (by decide +kernel)];exact ⟨rfl,rfl⟩))
  (fun os started H enc _ => l3 os started H enc)
end Go.Proofs.YtmdfoigdflaliabGreatDoor
namespace Go.Proofs.YtmdfoigdflaliabGreatDoor
open Go
theorem ka3:Rows.fnExactParseGrammarRow.wfByText (OpenSpec.ofChange Rows.fnExactParseGrammarSpec)=true:=by kernel_rfl
theorem kb3:Tryz.prog.mainIs=some (true, "97fa5116862618522e86c79ce13c5defcd13479b58f54257f202a695f4636929".toList):=by kernel_rfl
theorem kc3:true=Tryz.prog.looks []:=by kernel_rfl
theorem kd3:false=Rows.fnExactParseGrammarRow.goesBy Tryz.prog:=goesBy_none rfl (by kernel_rfl)
theorem k3:Rows.FnExactParseGrammarCardSaid:=
 Claim7.holds_tied_plain_at .later [] [.data,.data,.data,.data,.sentinel,.sentinel,.widerDeep,.widerDeep,.pinned] true (true, "97fa5116862618522e86c79ce13c5defcd13479b58f54257f202a695f4636929") true
  h3 (fun _ h=>by cases h) ka3 (fun _ h=>by cases h) fnExactParseGrammar_row_tie rfl ⟨rfl,rfl⟩ kb3 rfl
  (fun f fn hf hfn=>by
   obtain rfl:f=3:=Option.some.inj ((show Tryz.prog.funcNamed "loop.example/g00512/laws.FnExactParseGrammar" = some 3 by kernel_rfl).symm.trans hf) |>.symm
   obtain rfl:fn=Tryz.f3:=(Option.some.inj (Tryz.func3.symm.trans hfn)).symm
   exact ⟨kc3,fun j t ht=>by
    rw[Tryz.params3] at ht
    have hm:t∈[9]:=by simpa using Array.mem_of_getElem? ht
    have hall:([9].all fun u=> !Tryz.prog.wantsStandIn u)=true:=by kernel_rfl
    exact (show Tryz.prog.wantsStandIn t=false by simpa using List.all_eq_true.1 hall t hm)⟩)
  kd3
end Go.Proofs.YtmdfoigdflaliabGreatDoor
