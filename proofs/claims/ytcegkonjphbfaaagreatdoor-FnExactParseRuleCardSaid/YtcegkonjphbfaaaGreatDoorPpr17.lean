/- The tied card of the law holds. No condition. -/
import Derived.Test.YtcegkonjphbfaaaGreatDoorPpr16
set_option maxHeartbeats 40000000
set_option maxRecDepth 20000
set_option linter.unusedSimpArgs false
set_option linter.unusedVariables false
namespace Go.Proofs.YtcegkonjphbfaaaGreatDoor
open Go.Gh
open Nat (reduceEqDiff reduceLeDiff reduceAdd reduceLT)
open Int (reduceNe)
open Go.ChangeShapes Go.WideShapes Go.ChangeAt Go.RowKit Go.Lib
set_option maxRecDepth 100000 in
theorem l4 (os:Os) (started:os.Started) (H:Type) (enc:TypeId×Value→H) :
 ReturnsInHanded {} Tryz.checked os 4 .any (fun w args=>(Rows.fnExactParseRuleSpec.pre enc Tryz.prog Tryz.f4 [] false w args∧laidMetH Tryz.prog Tryz.laid7 w)∧sizedMet enc Tryz.prog Tryz.f4 (OpenSpec.ofChange Rows.fnExactParseRuleSpec) false w args) (Rows.fnExactParseRuleSpec.post enc Tryz.prog Tryz.f4 false true false false):=by
 refine returnsInHanded_of_change_sx (C:=Tryz.checked) (X:=fun w _ => laidMetH Tryz.prog Tryz.laid7 w) (fun _ _ _ hh h=>h.of_heap hh) Tryz.own started (by kernel_rfl) Tryz.func4
  (ChangeSpec.witness_shaped (enc:=enc) (C:=Tryz.checked) (os:=os) (X:=fun w _ => laidMetH Tryz.prog Tryz.laid7 w) false (World.laidAll Tryz.prog os Tryz.laid7) #[.slice none 0 0] 8 (World.laidAll_os _ _ _) (World.shaped_of_ZipB (by kernel_rfl) (by kernel_rfl)) (by kernel_rfl) (by kernel_rfl) (by kernel_rfl) (Tryz.door7 os _)) ?_
 intro W base args ds gs before hval0 hW _ _ hL hSh
 have hval:∀(j:Nat) t v,Tryz.f4.params[j]? = some t→args[j]? = some v→Value.okWide Tryz.prog W .any base t v:=hval0
 have hW':=hW
 obtain ⟨p,q,hA0,hV,rfl,hfz,hnd⟩:=hW
 have hA:DataW.TrodAll enc Tryz.prog W 0 (fun _ => true) true Tryz.f4.params.toList args.toList ds p:=hA0
 rw[Tryz.params4] at hA hval
 obtain ⟨v0,d0,rfl,rfl,h0⟩:=trodAll_one hA
 obtain ⟨rfl,rfl⟩:=trodVars_none hV
 obtain ⟨g0,m0,e0⟩:=lift_val (P:=Tryz.prog) 8 (by kernel_rfl) (hval 0 _ v0 rfl rfl) h0
 obtain ⟨ls,rfl,hls⟩:=t_TS e0
 clear hA0 hval0
 simp only[List.append_nil] at hW'
 have hlt:=hW'.lt
 refine ((p4 ls hls).out i4 (W:=W) (args:=[v0]) (.cons0 m0 .nil0) (Tryz.hm7 hL hSh) Tryz.tbH.1).mono fun e W' ⟨v,g,D,he,hg,hm,hb⟩=> ?_
 subst he;subst hg
 have hv:=MV.val_inv hm
 subst hv
 exact ⟨_,rfl,post_of_below (pa:=p) (pv:=[]) hW' (fun _ _ _ => trodAll_mk1 (shut_bool Tryz.underlying4 _)) (fun sp hsp=>trodAll_mk1 (WideElems.Trod_stays Tryz.laidOut (by kernel_rfl) (of_decide_eq_true (by kernel_rfl)) h0 (fun x hx=>hb.same (hlt x (by simp[hx]))) (fun x hx=>hsp x (by simp[hx])))) (fun _ _ => rfl) (by simp)
  hb (ok_one (by kernel_rfl) rfl (okWide_bool_mk Tryz.underlying4 _))⟩
set_option maxRecDepth 100000 in
theorem ja4:(Rows.fnExactParseRuleRow.inPlace == Tryz.prog.inPlace 4)=true:=by kernel_rfl
set_option maxRecDepth 100000 in
theorem jb4:(Rows.fnExactParseRuleRow.unfollowed == Tryz.prog.unfollowed 4)=true:=by kernel_rfl
set_option maxRecDepth 100000 in
theorem jc4:(Rows.fnExactParseRuleRow.recurses == Tryz.prog.recurses 4)=true:=by kernel_rfl
set_option maxRecDepth 100000 in
theorem jd4:(Rows.fnExactParseRuleRow.named == Tryz.prog.varsNamed 4)=true:=by kernel_rfl
set_option maxRecDepth 100000 in
theorem j4:joinedFacts Tryz.prog 4 Tryz.f4 Rows.fnExactParseRuleSpec Rows.fnExactParseRuleRow=true:=by
 unfold joinedFacts
 rw[ja4,jb4,jc4,jd4,Tryz.laidOut,Tryz.mapsRowed]
 kernel_rfl
theorem h4:Rows.FnExactParseRuleSaid:=
 OpenClaim.holds_of_wide 4 Tryz.f4 rfl rfl rfl rfl rfl rfl rfl ⟨rfl,rfl,rfl,rfl,rfl⟩ rfl rfl rfl rfl rfl (by kernel_rfl) Tryz.func4 j4
  (of_decide_eq_true (by kernel_rfl)) (by unfold Func.isWrapper;first|(rw[if_pos (by decide +kernel)];kernel_rfl)|(rw[if_neg (by decide +kernel)];exact ⟨rfl,rfl⟩))
  (fun os started H enc _ => l4 os started H enc)
end Go.Proofs.YtcegkonjphbfaaaGreatDoor
namespace Go.Proofs.YtcegkonjphbfaaaGreatDoor
open Go
set_option maxRecDepth 100000 in
theorem ka4:Rows.fnExactParseRuleRow.wfByText (OpenSpec.ofChange Rows.fnExactParseRuleSpec)=true:=by kernel_rfl
theorem kb4:Tryz.prog.mainIs=some (true, "bc8e9a3875b5c151c39d3e0d44995010b132a4f0b13d8956d7e3e670d95eb376".toList):=by kernel_rfl
theorem kc4:true=Tryz.prog.looks []:=by kernel_rfl
theorem kd4:false=Rows.fnExactParseRuleRow.goesBy Tryz.prog:=goesBy_none rfl (by kernel_rfl)
theorem k4:Rows.FnExactParseRuleCardSaid:=
 Claim7.holds_tied_plain_at .later [] [.data,.data,.data,.data,.sentinel,.sentinel,.pinned] true (true, "bc8e9a3875b5c151c39d3e0d44995010b132a4f0b13d8956d7e3e670d95eb376") true
  h4 (fun _ h=>by cases h) ka4 (fun _ h=>by cases h) fnExactParseRule_row_tie rfl ⟨rfl,rfl⟩ kb4 rfl
  (fun f fn hf hfn=>by
   obtain rfl:f=4:=Option.some.inj ((show Tryz.prog.funcNamed "loop.example/g00512/laws.FnExactParseRule" = some 4 by kernel_rfl).symm.trans hf) |>.symm
   obtain rfl:fn=Tryz.f4:=(Option.some.inj (Tryz.func4.symm.trans hfn)).symm
   exact ⟨kc4,fun j t ht=>by
    rw[Tryz.params4] at ht
    have hm:t∈[24]:=by simpa using Array.mem_of_getElem? ht
    have hall:([24].all fun u=> !Tryz.prog.wantsStandIn u)=true:=by kernel_rfl
    exact (show Tryz.prog.wantsStandIn t=false by simpa using List.all_eq_true.1 hall t hm)⟩)
  kd4
end Go.Proofs.YtcegkonjphbfaaaGreatDoor
