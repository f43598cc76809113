/- The law FnDefined returns true whatever the input, and the input reads behind the call as before. No condition. -/
import Derived.Test.YtofcbmnplanmkaaGreatFde2
set_option maxHeartbeats 40000000
set_option linter.unusedSimpArgs false
set_option linter.unusedVariables false
namespace Go.Proofs.YtofcbmnplanmkaaGreat
open Go.Gh
open Nat (reduceEqDiff reduceLeDiff reduceAdd reduceLT)
open Int (reduceNe)
set_option maxRecDepth 20000
set_option linter.unusedSimpArgs false
set_option linter.unusedVariables false
open Go.Shelf
def Tryz.sortO_ren:Go.Shelf.Ren:=⟨fun|6=>95|15=>114|14=>113|28=>144|29=>145|20=>136|21=>137|22=>138|23=>139|24=>140|25=>141|26=>142|27=>143|46=>170|47=>171|48=>172|49=>173|50=>174|57=>185|n=>n,fun|22=>101|24=>71|25=>132|3=>3|39=>144|0=>0|53=>175|55=>177|4=>4|46=>168|45=>167|50=>172|5=>5|9=>9|66=>195|70=>199|76=>208|77=>104|n=>n,fun|n=>n⟩
theorem Tryz.sortO:Go.Proofs.SlLaysF0.n6 Tryz.prog Tryz.sortO_ren:={
 mixed:=by kernel_rfl
 f6:=⟨Tryz.f95.name,by decide,Tryz.func95.trans (congrArg some (by kernel_rfl))⟩
 f14:=⟨Tryz.f113.name,by decide,Tryz.func113.trans (congrArg some (by kernel_rfl))⟩
 f15:=Tryz.func114.trans (congrArg some (by kernel_rfl))
 f20:=⟨Tryz.f136.name,by decide,Tryz.func136.trans (congrArg some (by kernel_rfl))⟩
 f21:=⟨Tryz.f137.name,by decide,Tryz.func137.trans (congrArg some (by kernel_rfl))⟩
 f22:=⟨Tryz.f138.name,by decide,Tryz.func138.trans (congrArg some (by kernel_rfl))⟩
 f23:=⟨Tryz.f139.name,by decide,Tryz.func139.trans (congrArg some (by kernel_rfl))⟩
 f24:=⟨Tryz.f140.name,by decide,Tryz.func140.trans (congrArg some (by kernel_rfl))⟩
 f25:=⟨Tryz.f141.name,by decide,Tryz.func141.trans (congrArg some (by kernel_rfl))⟩
 f26:=⟨Tryz.f142.name,by decide,Tryz.func142.trans (congrArg some (by kernel_rfl))⟩
 f27:=⟨Tryz.f143.name,by decide,Tryz.func143.trans (congrArg some (by kernel_rfl))⟩
 f28:=Tryz.func144.trans (congrArg some (by kernel_rfl))
 f29:=Tryz.func145.trans (congrArg some (by kernel_rfl))
 f46:=⟨Tryz.f170.name,by decide,Tryz.func170.trans (congrArg some (by kernel_rfl))⟩
 f47:=Tryz.func171.trans (congrArg some (by kernel_rfl))
 f48:=Tryz.func172.trans (congrArg some (by kernel_rfl))
 f49:=⟨Tryz.f173.name,by decide,Tryz.func173.trans (congrArg some (by kernel_rfl))⟩
 f50:=⟨Tryz.f174.name,by decide,Tryz.func174.trans (congrArg some (by kernel_rfl))⟩
 f57:=⟨Tryz.f185.name,by decide,Tryz.func185.trans (congrArg some (by kernel_rfl))⟩
 t0:=Tryz.underlying0
 a0:=Tryz.isAgg0
 z0:=Tryz.sizeOf0
 v0:=Tryz.zeroValue0
 t3:=Tryz.underlying3
 a3:=Tryz.isAgg3
 z3:=Tryz.sizeOf3
 v3:=Tryz.zeroValue3
 t4:=Tryz.underlying4
 a4:=Tryz.isAgg4
 z4:=Tryz.sizeOf4
 v4:=Tryz.zeroValue4
 t5:=Tryz.underlying5
 a5:=Tryz.isAgg5
 z5:=Tryz.sizeOf5
 v5:=Tryz.zeroValue5
 t9:=Tryz.underlying9
 a9:=Tryz.isAgg9
 z9:=Tryz.sizeOf9
 v9:=Tryz.zeroValue9
 t22:=Tryz.underlying101
 a22:=Tryz.isAgg101
 z22:=Tryz.sizeOf101
 v22:=Tryz.zeroValue101
 t25:=Tryz.underlying132
 a25:=Tryz.isAgg132
 z25:=Tryz.sizeOf132
 v25:=Tryz.zeroValue132
 t39:=Tryz.underlying144
 a39:=Tryz.isAgg144
 z39:=Tryz.sizeOf144
 v39:=Tryz.zeroValue144
 t45:=Tryz.underlying167
 a45:=Tryz.isAgg167
 z45:=Tryz.sizeOf167
 v45:=Tryz.zeroValue167
 t46:=Tryz.underlying168
 a46:=Tryz.isAgg168
 z46:=Tryz.sizeOf168
 v46:=Tryz.zeroValue168
 t50:=Tryz.underlying172
 a50:=Tryz.isAgg172
 z50:=Tryz.sizeOf172
 v50:=Tryz.zeroValue172
 t53:=Tryz.underlying175
 a53:=Tryz.isAgg175
 z53:=Tryz.sizeOf175
 v53:=Tryz.zeroValue175
 t55:=Tryz.underlying177
 a55:=Tryz.isAgg177
 z55:=Tryz.sizeOf177
 v55:=Tryz.zeroValue177
 t66:=Tryz.underlying195
 a66:=Tryz.isAgg195
 z66:=Tryz.sizeOf195
 v66:=Tryz.zeroValue195
 t70:=Tryz.underlying199
 a70:=Tryz.isAgg199
 z70:=Tryz.sizeOf199
 v70:=Tryz.zeroValue199
 t76:=Tryz.underlying208
 a76:=Tryz.isAgg208
 z76:=Tryz.sizeOf208
 v76:=Tryz.zeroValue208
 t77:=Tryz.underlying104
 a77:=Tryz.isAgg104
 z77:=Tryz.sizeOf104
 v77:=Tryz.zeroValue104 }
end Go.Proofs.YtofcbmnplanmkaaGreat
namespace Go.Proofs.YtofcbmnplanmkaaGreat
open Go.Gh
open Nat (reduceEqDiff reduceLeDiff reduceAdd reduceLT)
open Int (reduceNe)
set_option maxRecDepth 20000
set_option linter.unusedSimpArgs false
set_option linter.unusedVariables false
open Go.Shelf Go.RowKit Go.Lib Go.Sort
theorem Tryz.nanI (x:Int) (w:World):Calls Tryz.prog 146 #[.int .i64 x] w fun e w'=>e = .returned (.bool false)∧w'=w:=by
 go_enter Tryz.func146,Tryz.ntmps146
 go_wp2
 go_ret
 exact ⟨by simp,rfl⟩
theorem Tryz.nanS (x:ByteArray) (w:World):Calls Tryz.prog 147 #[.string x] w fun e w'=>e = .returned (.bool false)∧w'=w:=by
 go_enter Tryz.func147,Tryz.ntmps147
 go_wp2
 go_ret
 exact ⟨by simp,rfl⟩
theorem Tryz.cmpI (x y:Int) (w:World):Calls Tryz.prog 116 #[.int .i64 x,.int .i64 y] w fun e w'=>e = .returned (.int .i64 (if x<y then -1 else if y<x then 1 else 0))∧w'=w:=by
 go_enter Tryz.func116,Tryz.ntmps116
 go_wp2_with (go_at_call 146;refine (Tryz.nanI _ _).mono ?_;rintro e w' ⟨rfl,hw⟩;rw [hw])
 all_goals (go_ret;refine ⟨?_,rfl⟩;(repeat' split)<;>first|rfl|(exfalso;omega))
theorem Tryz.cmpS (x y:ByteArray) (w:World):Calls Tryz.prog 117 #[.string x,.string y] w fun e w'=>e = .returned (.int .i64 (if ltN x y=true then -1 else if ltN y x=true then 1 else 0))∧w'=w:=by
 go_enter Tryz.func117,Tryz.ntmps117
 go_wp2_with (go_at_call 147;refine (Tryz.nanS _ _).mono ?_;rintro e w' ⟨rfl,hw⟩;rw [hw])
 all_goals (go_ret;refine ⟨?_,rfl⟩)
 all_goals simp only [Lib.toList_data] at *
 all_goals simp_all [ltN,ltS_or,ByteArray.ext_iff,Lib.toList_data]
 ·exfalso
  rename_i h1 h2
  exact h2 (congrArg ByteArray.data (ltN_tri (a:=x) (b:=y) h1 (by assumption)))
 ·exfalso
  rename_i h2 h3
  have e:x=y:=ByteArray.ext h3
  subst e
  simp_all
theorem Tryz.or2 (x y:Int) (b cap:Nat) (w:World) (hc:2≤cap) (h0:w.cell? ⟨b,0,none⟩=some (.int .i64 x)) (h1:w.cell? ⟨b,1,none⟩=some (.int .i64 y)):Calls Tryz.prog 115 #[.slice (some ⟨b,0,none⟩) 2 cap] w fun e w'=>e = .returned (.int .i64 (if x≠0 then x else y))∧w'=w:=by
 go_enter Tryz.func115,Tryz.ntmps115
 go_wp2
 refine wp_loop_rounds 3 ?_
 rw [rounds_succ]
 go_wp2
 ·go_ret;first|exact ⟨rfl,rfl⟩|(exfalso;simp_all;done)
 ·go_ret;first|exact ⟨rfl,rfl⟩|(exfalso;simp_all;done)
 ·rw [rounds_succ]
  go_wp2
  ·go_ret;first|exact ⟨rfl,rfl⟩|(exfalso;simp_all;done)
  ·go_ret;first|exact ⟨rfl,rfl⟩|(exfalso;simp_all;done)
  ·rw [rounds_succ]
   go_wp2
   all_goals go_ret
   all_goals (try subst_vars)
   all_goals first|exact ⟨rfl,rfl⟩|(exfalso;simp_all;done)|(refine ⟨?_,rfl⟩;have hy:y=0:=(by simp_all);subst hy;rfl)
theorem Tryz.closure96 (x y:Oc) (W:World):Calls Tryz.prog 96 #[.agg #[.int .i64 x.1,.string x.2],.agg #[.int .i64 y.1,.string y.2]] W fun e w'=>e = .returned (.int .i64 (cfO x y))∧∃q os',w'=grow (W.drewN q) os':=by
 have hi:=fun W'=>Tryz.cmpI x.1 y.1 W'
 have hs:=fun W'=>Tryz.cmpS x.2 y.2 W'
 unfold cfO
 generalize (if x.1<y.1 then (-1:Int) else if y.1<x.1 then 1 else 0)=a at hi ⊢
 generalize (if ltN x.2 y.2=true then (-1:Int) else if ltN y.2 x.2=true then 1 else 0)=b at hs ⊢
 have ho:=fun bb cap W' h1 h2 h3=>Tryz.or2 a b bb cap W' h1 h2 h3
 generalize (if a≠0 then a else b)=r at ho ⊢
 go_enter Tryz.func96,Tryz.ntmps96
 go_wp2
 obtain ⟨W2,hW2⟩:∃W2,W2=(W.alloc (.cells #[.int .i64 x.1,.string x.2] 71)).alloc (.cells #[.int .i64 y.1,.string y.2] 71):=⟨_,rfl⟩
 have c1:W2.cell? ⟨W.heap.size,0,none⟩=some (.int .i64 x.1):=by rw [hW2,cellB _ _ _ _ (by rw [sizeA];omega)];exact cellA _ _ _ 0
 have c2:W2.cell? ⟨W.heap.size,1,none⟩=some (.string x.2):=by rw [hW2,cellB _ _ _ _ (by rw [sizeA];omega)];exact cellA _ _ _ 1
 have c3:W2.cell? ⟨W.heap.size+1,0,none⟩=some (.int .i64 y.1):=by rw [hW2,←sizeA W (.cells #[.int .i64 x.1,.string x.2] 71)];exact cellA _ _ _ 0
 have c4:W2.cell? ⟨W.heap.size+1,1,none⟩=some (.string y.2):=by rw [hW2,←sizeA W (.cells #[.int .i64 x.1,.string x.2] 71)];exact cellA _ _ _ 1
 have c5:grow W #[.cells #[.int .i64 x.1,.string x.2] 71,.cells #[.int .i64 y.1,.string y.2] 71]=W2:=by rw [hW2,alloc_eq_grow,alloc_eq_grow,grow_grow];rfl
 rw [←hW2]
 clear hW2
 go_region_held3 (fun w'=>w'.cell? ⟨W.heap.size,0,none⟩=some (.int .i64 x.1)∧w'.cell? ⟨W.heap.size,1,none⟩=some (.string x.2)∧w'.cell? ⟨W.heap.size+1,0,none⟩=some (.int .i64 y.1)∧w'.cell? ⟨W.heap.size+1,1,none⟩=some (.string y.2)) (go_keep) (first|(go_at_call 116;refine (hi _).mono ?_;rintro e w' ⟨rfl,rfl⟩)|(go_at_call 117;refine (hs _).mono ?_;rintro e w' ⟨rfl,rfl⟩)|(go_at_call 115;refine (ho _ 2 _ (Nat.le_refl _) (cell1a _ _ _ _) (cell1b _ _ _ _)).mono ?_;rintro e w' ⟨rfl,rfl⟩))
 go_wp2
 go_ret
 refine ⟨rfl,1,#[.cells #[.int .i64 x.1,.string x.2] 71,.cells #[.int .i64 y.1,.string y.2] 71,.cells #[.int .i64 a,.int .i64 b] 3],?_⟩
 rw [←c5,alloc_eq_grow,grow_grow]
 rfl
theorem Tryz.sortC (w:World) (b cap:Nat) (d:Array Oc) (hH:HoldsK Za 2 w b 0 d) (hb:b<w.heap.size) (hs:d.size<4611686018427387904) :
 Calls Tryz.prog 95 #[.slice (some ⟨b,0,none⟩) d.size cap,.func (.func 96) #[] #[]] w fun e w'=>e = .returned (.tuple #[])∧∃n os,w'=sortWorldK Za 2 w b 0 n (srO d.toList).toArray os:=by
 have eg:∀args w,(callFunc 96 args).run Tryz.prog w = .ok (.enter 96 args) w:=enters_of Tryz.func96 (by kernel_rfl) rfl
 have h:=AnyQ.slices_SortFunc_total Tryz.sortO 2 Tryz.isAgg71 Tryz.sizeOf71 Za encO_len encO_one cfO (by rw [cfO_eq];exact ltO_swo) 96 #[] b 0 cap d w eg (fun _ _ _ _ x y=>Tryz.closure96 x y _) hH hb hs (by rw [cfO_eq];exact fun x y=>ltO_tri)
 rw [cfO_eq] at h
 exact h
theorem Tryz.sortN (p:Option Addr) (cap:Nat) (fv:Value) (w:World):Calls Tryz.prog 95 #[.slice p 0 cap,fv] w fun e w'=>e = .returned (.tuple #[])∧w'=w:=
 AnyF.slices_SortFunc_none { Tryz.sortO with } p cap fv w
set_option maxRecDepth 100000 in
theorem o95 {r n:Nat} {l:List Oc} {H:GH} (hr:ZU H r=some (2,l.map Occ)) (hn:l.length=n) (hb:n<4611686018427387904) :
 Gc 95 [.own r 2 0 n,.clo 96 []] H (fun v H'=>v=uG∧H'=ZE H r ((srO l).map Occ)):=by
 have eg:∀args w,(callFunc 95 args).run Tryz.prog w = .ok (.enter 95 args) w:=enters_of Tryz.func95 (by kernel_rfl) rfl
 exact sort_ok (P:=Tryz.prog) (fs:=95) (g:=96) Tryz.sortC Tryz.sortN eg hr hn hb
end Go.Proofs.YtofcbmnplanmkaaGreat
