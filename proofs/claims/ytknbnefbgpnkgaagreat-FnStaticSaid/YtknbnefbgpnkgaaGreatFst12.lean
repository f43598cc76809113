/- The laws FnStatic and FnStaticTypes return true whatever the input, and the input reads behind the call as before. No condition. -/
import Derived.Test.YtknbnefbgpnkgaaGreatFst2
set_option maxHeartbeats 40000000
set_option maxRecDepth 20000
set_option linter.unusedSimpArgs false
set_option linter.unusedVariables false
namespace Go.Proofs.YtknbnefbgpnkgaaGreat
open Go.Gh
open Nat (reduceEqDiff reduceLeDiff reduceAdd reduceLT)
open Int (reduceNe)
open Go.Shelf
def Tryz.sortO_ren:Go.Shelf.Ren:=⟨fun|6=>222|15=>261|14=>260|28=>291|29=>292|20=>283|21=>284|22=>285|23=>286|24=>287|25=>288|26=>289|27=>290|46=>300|47=>301|48=>302|49=>303|50=>304|57=>306|n=>n,fun|22=>182|24=>74|25=>223|3=>3|39=>160|0=>0|53=>257|55=>259|4=>4|46=>250|45=>249|50=>254|5=>5|9=>9|66=>260|70=>264|76=>267|77=>145|n=>n,fun|n=>n⟩
theorem Tryz.sortO:Go.Proofs.SlLaysF0.n6 Tryz.prog Tryz.sortO_ren:={
 mixed:=by kernel_rfl
 f6:=⟨Tryz.f222.name,by decide,Tryz.func222.trans (congrArg some (by kernel_rfl))⟩
 f14:=⟨Tryz.f260.name,by decide,Tryz.func260.trans (congrArg some (by kernel_rfl))⟩
 f15:=Tryz.func261.trans (congrArg some (by kernel_rfl))
 f20:=⟨Tryz.f283.name,by decide,Tryz.func283.trans (congrArg some (by kernel_rfl))⟩
 f21:=⟨Tryz.f284.name,by decide,Tryz.func284.trans (congrArg some (by kernel_rfl))⟩
 f22:=⟨Tryz.f285.name,by decide,Tryz.func285.trans (congrArg some (by kernel_rfl))⟩
 f23:=⟨Tryz.f286.name,by decide,Tryz.func286.trans (congrArg some (by kernel_rfl))⟩
 f24:=⟨Tryz.f287.name,by decide,Tryz.func287.trans (congrArg some (by kernel_rfl))⟩
 f25:=⟨Tryz.f288.name,by decide,Tryz.func288.trans (congrArg some (by kernel_rfl))⟩
 f26:=⟨Tryz.f289.name,by decide,Tryz.func289.trans (congrArg some (by kernel_rfl))⟩
 f27:=⟨Tryz.f290.name,by decide,Tryz.func290.trans (congrArg some (by kernel_rfl))⟩
 f28:=Tryz.func291.trans (congrArg some (by kernel_rfl))
 f29:=Tryz.func292.trans (congrArg some (by kernel_rfl))
 f46:=⟨Tryz.f300.name,by decide,Tryz.func300.trans (congrArg some (by kernel_rfl))⟩
 f47:=Tryz.func301.trans (congrArg some (by kernel_rfl))
 f48:=Tryz.func302.trans (congrArg some (by kernel_rfl))
 f49:=⟨Tryz.f303.name,by decide,Tryz.func303.trans (congrArg some (by kernel_rfl))⟩
 f50:=⟨Tryz.f304.name,by decide,Tryz.func304.trans (congrArg some (by kernel_rfl))⟩
 f57:=⟨Tryz.f306.name,by decide,Tryz.func306.trans (congrArg some (by kernel_rfl))⟩
 t0:=Tryz.underlying0
 a0:=Tryz.isAgg0
 z0:=Tryz.sizeOf0
 v0:=Tryz.zeroValue0
 t3:=Tryz.underlying3
 a3:=Tryz.isAgg3
 z3:=Tryz.sizeOf3
 v3:=Tryz.zeroValue3
 t4:=Tryz.underlying4
 a4:=Tryz.isAgg4
 z4:=Tryz.sizeOf4
 v4:=Tryz.zeroValue4
 t5:=Tryz.underlying5
 a5:=Tryz.isAgg5
 z5:=Tryz.sizeOf5
 v5:=Tryz.zeroValue5
 t9:=Tryz.underlying9
 a9:=Tryz.isAgg9
 z9:=Tryz.sizeOf9
 v9:=Tryz.zeroValue9
 t22:=Tryz.underlying182
 a22:=Tryz.isAgg182
 z22:=Tryz.sizeOf182
 v22:=Tryz.zeroValue182
 t25:=Tryz.underlying223
 a25:=Tryz.isAgg223
 z25:=Tryz.sizeOf223
 v25:=Tryz.zeroValue223
 t39:=Tryz.underlying160
 a39:=Tryz.isAgg160
 z39:=Tryz.sizeOf160
 v39:=Tryz.zeroValue160
 t45:=Tryz.underlying249
 a45:=Tryz.isAgg249
 z45:=Tryz.sizeOf249
 v45:=Tryz.zeroValue249
 t46:=Tryz.underlying250
 a46:=Tryz.isAgg250
 z46:=Tryz.sizeOf250
 v46:=Tryz.zeroValue250
 t50:=Tryz.underlying254
 a50:=Tryz.isAgg254
 z50:=Tryz.sizeOf254
 v50:=Tryz.zeroValue254
 t53:=Tryz.underlying257
 a53:=Tryz.isAgg257
 z53:=Tryz.sizeOf257
 v53:=Tryz.zeroValue257
 t55:=Tryz.underlying259
 a55:=Tryz.isAgg259
 z55:=Tryz.sizeOf259
 v55:=Tryz.zeroValue259
 t66:=Tryz.underlying260
 a66:=Tryz.isAgg260
 z66:=Tryz.sizeOf260
 v66:=Tryz.zeroValue260
 t70:=Tryz.underlying264
 a70:=Tryz.isAgg264
 z70:=Tryz.sizeOf264
 v70:=Tryz.zeroValue264
 t76:=Tryz.underlying267
 a76:=Tryz.isAgg267
 z76:=Tryz.sizeOf267
 v76:=Tryz.zeroValue267
 t77:=Tryz.underlying145
 a77:=Tryz.isAgg145
 z77:=Tryz.sizeOf145
 v77:=Tryz.zeroValue145 }
end Go.Proofs.YtknbnefbgpnkgaaGreat
namespace Go.Proofs.YtknbnefbgpnkgaaGreat
open Go.Gh
open Nat (reduceEqDiff reduceLeDiff reduceAdd reduceLT)
open Int (reduceNe)
open Go.Shelf Go.RowKit Go.Lib Go.Sort
theorem Tryz.nanI (x:Int) (w:World):Calls Tryz.prog 293 #[.int .i64 x] w fun e w'=>e = .returned (.bool false)∧w'=w:=by
 go_enter Tryz.func293,Tryz.ntmps293
 go_wp2
 go_ret
 exact ⟨by simp,rfl⟩
theorem Tryz.nanS (x:ByteArray) (w:World):Calls Tryz.prog 294 #[.string x] w fun e w'=>e = .returned (.bool false)∧w'=w:=by
 go_enter Tryz.func294,Tryz.ntmps294
 go_wp2
 go_ret
 exact ⟨by simp,rfl⟩
theorem Tryz.cmpI (x y:Int) (w:World):Calls Tryz.prog 263 #[.int .i64 x,.int .i64 y] w fun e w'=>e = .returned (.int .i64 (if x<y then -1 else if y<x then 1 else 0))∧w'=w:=by
 go_enter Tryz.func263,Tryz.ntmps263
 go_wp2_with (go_at_call 293;refine (Tryz.nanI _ _).mono ?_;rintro e w' ⟨rfl,hw⟩;rw[hw])
 all_goals (go_ret;refine ⟨?_,rfl⟩;(repeat' split)<;>first|rfl|(exfalso;omega))
theorem Tryz.cmpS (x y:ByteArray) (w:World):Calls Tryz.prog 264 #[.string x,.string y] w fun e w'=>e = .returned (.int .i64 (if ltN x y=true then -1 else if ltN y x=true then 1 else 0))∧w'=w:=by
 go_enter Tryz.func264,Tryz.ntmps264
 go_wp2_with (go_at_call 294;refine (Tryz.nanS _ _).mono ?_;rintro e w' ⟨rfl,hw⟩;rw[hw])
 all_goals (go_ret;refine ⟨?_,rfl⟩)
 all_goals simp only[Lib.toList_data] at *
 all_goals simp_all [ltN,ltS_or,ByteArray.ext_iff,Lib.toList_data]
 ·exfalso
  rename_i h1 h2
  exact h2 (congrArg ByteArray.data (ltN_tri (a:=x) (b:=y) h1 (by assumption)))
 ·exfalso
  rename_i h2 h3
  have e:x=y:=ByteArray.ext h3
  subst e
  simp_all
theorem Tryz.or2 (x y:Int) (b cap:Nat) (w:World) (hc:2≤cap) (h0:w.cell? ⟨b,0,none⟩=some (.int .i64 x)) (h1:w.cell? ⟨b,1,none⟩=some (.int .i64 y)):Calls Tryz.prog 262 #[.slice (some ⟨b,0,none⟩) 2 cap] w fun e w'=>e = .returned (.int .i64 (if x≠0 then x else y))∧w'=w:=by
 go_enter Tryz.func262,Tryz.ntmps262
 go_wp2
 refine wp_loop_rounds 3 ?_
 rw[rounds_succ]
 go_wp2
 ·go_ret;first|exact ⟨rfl,rfl⟩|(exfalso;simp_all;done)
 ·go_ret;first|exact ⟨rfl,rfl⟩|(exfalso;simp_all;done)
 ·rw[rounds_succ]
  go_wp2
  ·go_ret;first|exact ⟨rfl,rfl⟩|(exfalso;simp_all;done)
  ·go_ret;first|exact ⟨rfl,rfl⟩|(exfalso;simp_all;done)
  ·rw[rounds_succ]
   go_wp2
   all_goals go_ret
   all_goals (try subst_vars)
   all_goals first|exact ⟨rfl,rfl⟩|(exfalso;simp_all;done)|(refine ⟨?_,rfl⟩;have hy:y=0:=(by simp_all);subst hy;rfl)
theorem Tryz.closure223 (x y:Oc) (W:World):Calls Tryz.prog 223 #[.agg #[.int .i64 x.1,.string x.2],.agg #[.int .i64 y.1,.string y.2]] W fun e w'=>e = .returned (.int .i64 (cfO x y))∧∃q os',w'=grow (W.drewN q) os':=by
 have hi:=fun W'=>Tryz.cmpI x.1 y.1 W'
 have hs:=fun W'=>Tryz.cmpS x.2 y.2 W'
 unfold cfO
 generalize (if x.1<y.1 then (-1:Int) else if y.1<x.1 then 1 else 0)=a at hi ⊢
 generalize (if ltN x.2 y.2=true then (-1:Int) else if ltN y.2 x.2=true then 1 else 0)=b at hs ⊢
 have ho:=fun bb cap W' h1 h2 h3=>Tryz.or2 a b bb cap W' h1 h2 h3
 generalize (if a≠0 then a else b)=r at ho ⊢
 go_enter Tryz.func223,Tryz.ntmps223
 go_wp2
 obtain ⟨W2,hW2⟩:∃W2,W2=(W.alloc (.cells #[.int .i64 x.1,.string x.2] 74)).alloc (.cells #[.int .i64 y.1,.string y.2] 74):=⟨_,rfl⟩
 have c1:W2.cell? ⟨W.heap.size,0,none⟩=some (.int .i64 x.1):=by rw[hW2,cellB _ _ _ _ (by rw[sizeA];omega)];exact cellA _ _ _ 0
 have c2:W2.cell? ⟨W.heap.size,1,none⟩=some (.string x.2):=by rw[hW2,cellB _ _ _ _ (by rw[sizeA];omega)];exact cellA _ _ _ 1
 have c3:W2.cell? ⟨W.heap.size+1,0,none⟩=some (.int .i64 y.1):=by rw[hW2,←sizeA W (.cells #[.int .i64 x.1,.string x.2] 74)];exact cellA _ _ _ 0
 have c4:W2.cell? ⟨W.heap.size+1,1,none⟩=some (.string y.2):=by rw[hW2,←sizeA W (.cells #[.int .i64 x.1,.string x.2] 74)];exact cellA _ _ _ 1
 have c5:grow W #[.cells #[.int .i64 x.1,.string x.2] 74,.cells #[.int .i64 y.1,.string y.2] 74]=W2:=by rw[hW2,alloc_eq_grow,alloc_eq_grow,grow_grow];rfl
 rw[←hW2]
 clear hW2
 go_region_held3 (fun w'=>w'.cell? ⟨W.heap.size,0,none⟩=some (.int .i64 x.1)∧w'.cell? ⟨W.heap.size,1,none⟩=some (.string x.2)∧w'.cell? ⟨W.heap.size+1,0,none⟩=some (.int .i64 y.1)∧w'.cell? ⟨W.heap.size+1,1,none⟩=some (.string y.2)) (go_keep) (first|(go_at_call 263;refine (hi _).mono ?_;rintro e w' ⟨rfl,rfl⟩)|(go_at_call 264;refine (hs _).mono ?_;rintro e w' ⟨rfl,rfl⟩)|(go_at_call 262;refine (ho _ 2 _ (Nat.le_refl _) (cell1a _ _ _ _) (cell1b _ _ _ _)).mono ?_;rintro e w' ⟨rfl,rfl⟩))
 go_wp2
 go_ret
 refine ⟨rfl,1,#[.cells #[.int .i64 x.1,.string x.2] 74,.cells #[.int .i64 y.1,.string y.2] 74,.cells #[.int .i64 a,.int .i64 b] 3],?_⟩
 rw[←c5,alloc_eq_grow,grow_grow]
 rfl
theorem Tryz.sortC (w:World) (b cap:Nat) (d:Array Oc) (hH:HoldsK YX 2 w b 0 d) (hb:b<w.heap.size) (hs:d.size<4611686018427387904) :
 Calls Tryz.prog 222 #[.slice (some ⟨b,0,none⟩) d.size cap,.func (.func 223) #[] #[]] w fun e w'=>e = .returned (.tuple #[])∧∃n os,w'=sortWorldK YX 2 w b 0 n (srO d.toList).toArray os:=by
 have eg:∀args w,(callFunc 223 args).run Tryz.prog w = .ok (.enter 223 args) w:=enters_of Tryz.func223 (by kernel_rfl) rfl
 have h:=AnyQ.slices_SortFunc_total Tryz.sortO 2 Tryz.isAgg74 Tryz.sizeOf74 YX encO_len encO_one cfO (by rw[cfO_eq];exact ltO_swo) 223 #[] b 0 cap d w eg (fun _ _ _ _ x y=>Tryz.closure223 x y _) hH hb hs (by rw[cfO_eq];exact fun x y=>ltO_tri)
 rw[cfO_eq] at h
 exact h
theorem Tryz.sortN (p:Option Addr) (cap:Nat) (fv:Value) (w:World):Calls Tryz.prog 222 #[.slice p 0 cap,fv] w fun e w'=>e = .returned (.tuple #[])∧w'=w:=
 AnyF.slices_SortFunc_none { Tryz.sortO with } p cap fv w
set_option maxRecDepth 100000 in
theorem o222 {r n:Nat} {l:List Oc} {H:GH} (hr:ZV H r=some (2,l.map Occ)) (hn:l.length=n) (hb:n<4611686018427387904) :
 Gc 222 [.own r 2 0 n,.clo 223 []] H (fun v H'=>v=uG∧H'=ZE H r ((srO l).map Occ)):=by
 have eg:∀args w,(callFunc 222 args).run Tryz.prog w = .ok (.enter 222 args) w:=enters_of Tryz.func222 (by kernel_rfl) rfl
 exact sort_ok (P:=Tryz.prog) (fs:=222) (g:=223) Tryz.sortC Tryz.sortN eg hr hn hb
end Go.Proofs.YtknbnefbgpnkgaaGreat
