/- The tied card of the law holds. No condition. -/
import Derived.Test.YtdlmjpfgpjkebaaGreatDoorPpr16
set_option maxHeartbeats 40000000
set_option maxRecDepth 20000
set_option linter.unusedSimpArgs false
set_option linter.unusedVariables false
namespace Go.Proofs.YtdlmjpfgpjkebaaGreatDoor
open Go.Gh
open Nat (reduceEqDiff reduceLeDiff reduceAdd reduceLT)
open Int (reduceNe)
open Go.ChangeShapes Go.WideShapes Go.ChangeAt Go.RowKit Go.Lib
set_option maxRecDepth 100000 in
theorem l5 (os:Os) (started:os.Started) (H:Type) (enc:TypeId×Value→H) :
 ReturnsInHanded {} Tryz.checked os 5 .any (fun w args=>(Rows.fnExactParseRuleSpec.pre enc Tryz.prog Tryz.f5 [] false w args∧laidMetH Tryz.prog Tryz.laid7 w)∧sizedMet enc Tryz.prog Tryz.f5 (OpenSpec.ofChange Rows.fnExactParseRuleSpec) false w args) (Rows.fnExactParseRuleSpec.post enc Tryz.prog Tryz.f5 false true false false):=by
 refine returnsInHanded_of_change_sx (C:=Tryz.checked) (X:=fun w _ => laidMetH Tryz.prog Tryz.laid7 w) (fun _ _ _ hh h=>h.of_heap hh) Tryz.own started (by kernel_rfl) Tryz.func5
  (ChangeSpec.witness_shaped (enc:=enc) (C:=Tryz.checked) (os:=os) (X:=fun w _ => laidMetH Tryz.prog Tryz.laid7 w) false (World.laidAll Tryz.prog os Tryz.laid7) #[.slice none 0 0] 8 (World.laidAll_os _ _ _) (World.shaped_of_ZipB (by kernel_rfl) (by kernel_rfl)) (by kernel_rfl) (by kernel_rfl) (by kernel_rfl) (Tryz.door7 os _)) ?_
 intro W base args ds gs before hval0 hW _ _ hL hSh
 have hval:∀(j:Nat) t v,Tryz.f5.params[j]? = some t→args[j]? = some v→Value.okWide Tryz.prog W .any base t v:=hval0
 have hW':=hW
 obtain ⟨p,q,hA0,hV,rfl,hfz,hnd⟩:=hW
 have hA:DataW.TrodAll enc Tryz.prog W 0 (fun _ => true) true Tryz.f5.params.toList args.toList ds p:=hA0
 rw[Tryz.params5] at hA hval
 obtain ⟨v0,d0,rfl,rfl,h0⟩:=trodAll_one hA
 obtain ⟨rfl,rfl⟩:=trodVars_none hV
 obtain ⟨g0,m0,e0⟩:=lift_val (P:=Tryz.prog) 8 (by kernel_rfl) (hval 0 _ v0 rfl rfl) h0
 obtain ⟨ls,rfl,hls⟩:=t_TS e0
 clear hA0 hval0
 simp only[List.append_nil] at hW'
 have hlt:=hW'.lt
 refine ((p5 ls hls).out i5 (W:=W) (args:=[v0]) (.cons0 m0 .nil0) (Tryz.hm7 hL hSh) Tryz.tbH.1).mono fun e W' ⟨v,g,D,he,hg,hm,hb⟩=> ?_
 subst he;subst hg
 have hv:=MV.val_inv hm
 subst hv
 exact ⟨_,rfl,post_of_below (pa:=p) (pv:=[]) hW' (fun _ _ _ => trodAll_mk1 (shut_bool Tryz.underlying4 _)) (fun sp hsp=>trodAll_mk1 (WideElems.Trod_stays Tryz.laidOut (by kernel_rfl) (of_decide_eq_true (by kernel_rfl)) h0 (fun x hx=>hb.same (hlt x (by simp[hx]))) (fun x hx=>hsp x (by simp[hx])))) (fun _ _ => rfl) (by simp)
  hb (ok_one (by kernel_rfl) rfl (okWide_bool_mk Tryz.underlying4 _))⟩
set_option maxRecDepth 100000 in
theorem ja5:(Rows.fnExactParseRuleRow.inPlace == Tryz.prog.inPlace 5)=true:=by kernel_rfl
set_option maxRecDepth 100000 in
theorem jb5:(Rows.fnExactParseRuleRow.unfollowed == Tryz.prog.unfollowed 5)=true:=by kernel_rfl
set_option maxRecDepth 100000 in
theorem jc5:(Rows.fnExactParseRuleRow.recurses == Tryz.prog.recurses 5)=true:=by kernel_rfl
set_option maxRecDepth 100000 in
theorem jd5:(Rows.fnExactParseRuleRow.named == Tryz.prog.varsNamed 5)=true:=by kernel_rfl
set_option maxRecDepth 100000 in
theorem j5:joinedFacts Tryz.prog 5 Tryz.f5 Rows.fnExactParseRuleSpec Rows.fnExactParseRuleRow=true:=by
 unfold joinedFacts
 rw[ja5,jb5,jc5,jd5,Tryz.laidOut,Tryz.mapsRowed]
 kernel_rfl
theorem h5:Rows.FnExactParseRuleSaid:=
 OpenClaim.holds_of_wide 5 Tryz.f5 rfl rfl rfl rfl rfl rfl rfl ⟨rfl,rfl,rfl,rfl,rfl⟩ rfl rfl rfl rfl rfl (by kernel_rfl) Tryz.func5 j5
  (of_decide_eq_true (by kernel_rfl)) (by unfold Func.isWrapper;first|(rw[if_pos (by decide +kernel)];kernel_rfl)|(rw[if_neg (by decide +kernel)];exact ⟨rfl,rfl⟩))
  (fun os started H enc _ => l5 os started H enc)
end Go.Proofs.YtdlmjpfgpjkebaaGreatDoor
namespace Go.Proofs.YtdlmjpfgpjkebaaGreatDoor
open Go
set_option maxRecDepth 100000 in
theorem ka5:Rows.fnExactParseRuleRow.wfByText (OpenSpec.ofChange Rows.fnExactParseRuleSpec)=true:=by kernel_rfl
theorem kb5:Tryz.prog.mainIs=some (true, "6f26caedd0119418a670373fb0e5f5ab1b1c7d6ac86d1a47ea2f02890c2d3b96".toList):=by kernel_rfl
theorem kc5:true=Tryz.prog.looks []:=by kernel_rfl
theorem kd5:false=Rows.fnExactParseRuleRow.goesBy Tryz.prog:=goesBy_none rfl (by kernel_rfl)
theorem k5:Rows.FnExactParseRuleCardSaid:=
 Claim7.holds_tied_plain_at .later [] [.data,.data,.data,.data,.sentinel,.sentinel,.pinned] true (true, "6f26caedd0119418a670373fb0e5f5ab1b1c7d6ac86d1a47ea2f02890c2d3b96") true
  h5 (fun _ h=>by cases h) ka5 (fun _ h=>by cases h) fnExactParseRule_row_tie rfl ⟨rfl,rfl⟩ kb5 rfl
  (fun f fn hf hfn=>by
   obtain rfl:f=5:=Option.some.inj ((show Tryz.prog.funcNamed "loop.example/g00512/laws.FnExactParseRule" = some 5 by kernel_rfl).symm.trans hf) |>.symm
   obtain rfl:fn=Tryz.f5:=(Option.some.inj (Tryz.func5.symm.trans hfn)).symm
   exact ⟨kc5,fun j t ht=>by
    rw[Tryz.params5] at ht
    have hm:t∈[43]:=by simpa using Array.mem_of_getElem? ht
    have hall:([43].all fun u=> !Tryz.prog.wantsStandIn u)=true:=by kernel_rfl
    exact (show Tryz.prog.wantsStandIn t=false by simpa using List.all_eq_true.1 hall t hm)⟩)
  kd5
end Go.Proofs.YtdlmjpfgpjkebaaGreatDoor
