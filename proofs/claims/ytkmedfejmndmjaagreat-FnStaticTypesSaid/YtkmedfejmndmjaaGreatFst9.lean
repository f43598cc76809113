/- The law FnStaticTypes returns true whatever the input, and the input reads behind the call as before. No condition. -/
import Derived.Test.YtkmedfejmndmjaaGreatFst2
set_option maxHeartbeats 40000000
set_option maxRecDepth 20000
set_option linter.unusedSimpArgs false
set_option linter.unusedVariables false
namespace Go.Proofs.YtkmedfejmndmjaaGreat
open Go.Gh
open Nat (reduceEqDiff reduceLeDiff reduceAdd reduceLT)
open Int (reduceNe)
open Go.Shelf
def Tryz.sortO_ren:Go.Shelf.Ren:=⟨fun|6=>205|15=>236|14=>235|28=>259|29=>260|20=>251|21=>252|22=>253|23=>254|24=>255|25=>256|26=>257|27=>258|46=>265|47=>266|48=>267|49=>268|50=>269|57=>270|n=>n,fun|22=>154|24=>43|25=>201|3=>3|39=>190|0=>0|53=>229|55=>231|4=>4|46=>222|45=>221|50=>226|5=>5|9=>9|66=>234|70=>238|76=>240|77=>29|n=>n,fun|n=>n⟩
theorem Tryz.sortO:Go.Proofs.SlLaysF0.n6 Tryz.prog Tryz.sortO_ren:={
 mixed:=by kernel_rfl
 f6:=⟨Tryz.f205.name,by decide,Tryz.func205.trans (congrArg some (by kernel_rfl))⟩
 f14:=⟨Tryz.f235.name,by decide,Tryz.func235.trans (congrArg some (by kernel_rfl))⟩
 f15:=Tryz.func236.trans (congrArg some (by kernel_rfl))
 f20:=⟨Tryz.f251.name,by decide,Tryz.func251.trans (congrArg some (by kernel_rfl))⟩
 f21:=⟨Tryz.f252.name,by decide,Tryz.func252.trans (congrArg some (by kernel_rfl))⟩
 f22:=⟨Tryz.f253.name,by decide,Tryz.func253.trans (congrArg some (by kernel_rfl))⟩
 f23:=⟨Tryz.f254.name,by decide,Tryz.func254.trans (congrArg some (by kernel_rfl))⟩
 f24:=⟨Tryz.f255.name,by decide,Tryz.func255.trans (congrArg some (by kernel_rfl))⟩
 f25:=⟨Tryz.f256.name,by decide,Tryz.func256.trans (congrArg some (by kernel_rfl))⟩
 f26:=⟨Tryz.f257.name,by decide,Tryz.func257.trans (congrArg some (by kernel_rfl))⟩
 f27:=⟨Tryz.f258.name,by decide,Tryz.func258.trans (congrArg some (by kernel_rfl))⟩
 f28:=Tryz.func259.trans (congrArg some (by kernel_rfl))
 f29:=Tryz.func260.trans (congrArg some (by kernel_rfl))
 f46:=⟨Tryz.f265.name,by decide,Tryz.func265.trans (congrArg some (by kernel_rfl))⟩
 f47:=Tryz.func266.trans (congrArg some (by kernel_rfl))
 f48:=Tryz.func267.trans (congrArg some (by kernel_rfl))
 f49:=⟨Tryz.f268.name,by decide,Tryz.func268.trans (congrArg some (by kernel_rfl))⟩
 f50:=⟨Tryz.f269.name,by decide,Tryz.func269.trans (congrArg some (by kernel_rfl))⟩
 f57:=⟨Tryz.f270.name,by decide,Tryz.func270.trans (congrArg some (by kernel_rfl))⟩
 t0:=Tryz.underlying0
 a0:=Tryz.isAgg0
 z0:=Tryz.sizeOf0
 v0:=Tryz.zeroValue0
 t3:=Tryz.underlying3
 a3:=Tryz.isAgg3
 z3:=Tryz.sizeOf3
 v3:=Tryz.zeroValue3
 t4:=Tryz.underlying4
 a4:=Tryz.isAgg4
 z4:=Tryz.sizeOf4
 v4:=Tryz.zeroValue4
 t5:=Tryz.underlying5
 a5:=Tryz.isAgg5
 z5:=Tryz.sizeOf5
 v5:=Tryz.zeroValue5
 t9:=Tryz.underlying9
 a9:=Tryz.isAgg9
 z9:=Tryz.sizeOf9
 v9:=Tryz.zeroValue9
 t22:=Tryz.underlying154
 a22:=Tryz.isAgg154
 z22:=Tryz.sizeOf154
 v22:=Tryz.zeroValue154
 t25:=Tryz.underlying201
 a25:=Tryz.isAgg201
 z25:=Tryz.sizeOf201
 v25:=Tryz.zeroValue201
 t39:=Tryz.underlying190
 a39:=Tryz.isAgg190
 z39:=Tryz.sizeOf190
 v39:=Tryz.zeroValue190
 t45:=Tryz.underlying221
 a45:=Tryz.isAgg221
 z45:=Tryz.sizeOf221
 v45:=Tryz.zeroValue221
 t46:=Tryz.underlying222
 a46:=Tryz.isAgg222
 z46:=Tryz.sizeOf222
 v46:=Tryz.zeroValue222
 t50:=Tryz.underlying226
 a50:=Tryz.isAgg226
 z50:=Tryz.sizeOf226
 v50:=Tryz.zeroValue226
 t53:=Tryz.underlying229
 a53:=Tryz.isAgg229
 z53:=Tryz.sizeOf229
 v53:=Tryz.zeroValue229
 t55:=Tryz.underlying231
 a55:=Tryz.isAgg231
 z55:=Tryz.sizeOf231
 v55:=Tryz.zeroValue231
 t66:=Tryz.underlying234
 a66:=Tryz.isAgg234
 z66:=Tryz.sizeOf234
 v66:=Tryz.zeroValue234
 t70:=Tryz.underlying238
 a70:=Tryz.isAgg238
 z70:=Tryz.sizeOf238
 v70:=Tryz.zeroValue238
 t76:=Tryz.underlying240
 a76:=Tryz.isAgg240
 z76:=Tryz.sizeOf240
 v76:=Tryz.zeroValue240
 t77:=Tryz.underlying29
 a77:=Tryz.isAgg29
 z77:=Tryz.sizeOf29
 v77:=Tryz.zeroValue29 }
end Go.Proofs.YtkmedfejmndmjaaGreat
namespace Go.Proofs.YtkmedfejmndmjaaGreat
open Go.Gh
open Nat (reduceEqDiff reduceLeDiff reduceAdd reduceLT)
open Int (reduceNe)
open Go.Shelf Go.RowKit Go.Lib Go.Sort
theorem Tryz.nanI (x:Int) (w:World):Calls Tryz.prog 261 #[.int .i64 x] w fun e w'=>e = .returned (.bool false)∧w'=w:=by
 go_enter Tryz.func261,Tryz.ntmps261
 go_wp2
 go_ret
 exact ⟨by simp,rfl⟩
theorem Tryz.nanS (x:ByteArray) (w:World):Calls Tryz.prog 262 #[.string x] w fun e w'=>e = .returned (.bool false)∧w'=w:=by
 go_enter Tryz.func262,Tryz.ntmps262
 go_wp2
 go_ret
 exact ⟨by simp,rfl⟩
theorem Tryz.cmpI (x y:Int) (w:World):Calls Tryz.prog 238 #[.int .i64 x,.int .i64 y] w fun e w'=>e = .returned (.int .i64 (if x<y then -1 else if y<x then 1 else 0))∧w'=w:=by
 go_enter Tryz.func238,Tryz.ntmps238
 go_wp2_with (go_at_call 261;refine (Tryz.nanI _ _).mono ?_;rintro e w' ⟨rfl,hw⟩;rw[hw])
 all_goals (go_ret;refine ⟨?_,rfl⟩;(repeat' split)<;>first|rfl|(exfalso;omega))
theorem Tryz.cmpS (x y:ByteArray) (w:World):Calls Tryz.prog 239 #[.string x,.string y] w fun e w'=>e = .returned (.int .i64 (if ltN x y=true then -1 else if ltN y x=true then 1 else 0))∧w'=w:=by
 go_enter Tryz.func239,Tryz.ntmps239
 go_wp2_with (go_at_call 262;refine (Tryz.nanS _ _).mono ?_;rintro e w' ⟨rfl,hw⟩;rw[hw])
 all_goals (go_ret;refine ⟨?_,rfl⟩)
 all_goals simp only[Lib.toList_data] at *
 all_goals simp_all [ltN,ltS_or,ByteArray.ext_iff,Lib.toList_data]
 ·exfalso
  rename_i h1 h2
  exact h2 (congrArg ByteArray.data (ltN_tri (a:=x) (b:=y) h1 (by assumption)))
 ·exfalso
  rename_i h2 h3
  have e:x=y:=ByteArray.ext h3
  subst e
  simp_all
theorem Tryz.or2 (x y:Int) (b cap:Nat) (w:World) (hc:2≤cap) (h0:w.cell? ⟨b,0,none⟩=some (.int .i64 x)) (h1:w.cell? ⟨b,1,none⟩=some (.int .i64 y)):Calls Tryz.prog 237 #[.slice (some ⟨b,0,none⟩) 2 cap] w fun e w'=>e = .returned (.int .i64 (if x≠0 then x else y))∧w'=w:=by
 go_enter Tryz.func237,Tryz.ntmps237
 go_wp2
 refine wp_loop_rounds 3 ?_
 rw[rounds_succ]
 go_wp2
 ·go_ret;first|exact ⟨rfl,rfl⟩|(exfalso;simp_all;done)
 ·go_ret;first|exact ⟨rfl,rfl⟩|(exfalso;simp_all;done)
 ·rw[rounds_succ]
  go_wp2
  ·go_ret;first|exact ⟨rfl,rfl⟩|(exfalso;simp_all;done)
  ·go_ret;first|exact ⟨rfl,rfl⟩|(exfalso;simp_all;done)
  ·rw[rounds_succ]
   go_wp2
   all_goals go_ret
   all_goals (try subst_vars)
   all_goals first|exact ⟨rfl,rfl⟩|(exfalso;simp_all;done)|(refine ⟨?_,rfl⟩;have hy:y=0:=(by simp_all);subst hy;rfl)
theorem Tryz.closure206 (x y:Oc) (W:World):Calls Tryz.prog 206 #[.agg #[.int .i64 x.1,.string x.2],.agg #[.int .i64 y.1,.string y.2]] W fun e w'=>e = .returned (.int .i64 (cfO x y))∧∃q os',w'=grow (W.drewN q) os':=by
 have hi:=fun W'=>Tryz.cmpI x.1 y.1 W'
 have hs:=fun W'=>Tryz.cmpS x.2 y.2 W'
 unfold cfO
 generalize (if x.1<y.1 then (-1:Int) else if y.1<x.1 then 1 else 0)=a at hi ⊢
 generalize (if ltN x.2 y.2=true then (-1:Int) else if ltN y.2 x.2=true then 1 else 0)=b at hs ⊢
 have ho:=fun bb cap W' h1 h2 h3=>Tryz.or2 a b bb cap W' h1 h2 h3
 generalize (if a≠0 then a else b)=r at ho ⊢
 go_enter Tryz.func206,Tryz.ntmps206
 go_wp2
 obtain ⟨W2,hW2⟩:∃W2,W2=(W.alloc (.cells #[.int .i64 x.1,.string x.2] 43)).alloc (.cells #[.int .i64 y.1,.string y.2] 43):=⟨_,rfl⟩
 have c1:W2.cell? ⟨W.heap.size,0,none⟩=some (.int .i64 x.1):=by rw[hW2,cellB _ _ _ _ (by rw[sizeA];omega)];exact cellA _ _ _ 0
 have c2:W2.cell? ⟨W.heap.size,1,none⟩=some (.string x.2):=by rw[hW2,cellB _ _ _ _ (by rw[sizeA];omega)];exact cellA _ _ _ 1
 have c3:W2.cell? ⟨W.heap.size+1,0,none⟩=some (.int .i64 y.1):=by rw[hW2,←sizeA W (.cells #[.int .i64 x.1,.string x.2] 43)];exact cellA _ _ _ 0
 have c4:W2.cell? ⟨W.heap.size+1,1,none⟩=some (.string y.2):=by rw[hW2,←sizeA W (.cells #[.int .i64 x.1,.string x.2] 43)];exact cellA _ _ _ 1
 have c5:grow W #[.cells #[.int .i64 x.1,.string x.2] 43,.cells #[.int .i64 y.1,.string y.2] 43]=W2:=by rw[hW2,alloc_eq_grow,alloc_eq_grow,grow_grow];rfl
 rw[←hW2]
 clear hW2
 go_region_held3 (fun w'=>w'.cell? ⟨W.heap.size,0,none⟩=some (.int .i64 x.1)∧w'.cell? ⟨W.heap.size,1,none⟩=some (.string x.2)∧w'.cell? ⟨W.heap.size+1,0,none⟩=some (.int .i64 y.1)∧w'.cell? ⟨W.heap.size+1,1,none⟩=some (.string y.2)) (go_keep) (first|(go_at_call 238;refine (hi _).mono ?_;rintro e w' ⟨rfl,rfl⟩)|(go_at_call 239;refine (hs _).mono ?_;rintro e w' ⟨rfl,rfl⟩)|(go_at_call 237;refine (ho _ 2 _ (Nat.le_refl _) (cell1a _ _ _ _) (cell1b _ _ _ _)).mono ?_;rintro e w' ⟨rfl,rfl⟩))
 go_wp2
 go_ret
 refine ⟨rfl,1,#[.cells #[.int .i64 x.1,.string x.2] 43,.cells #[.int .i64 y.1,.string y.2] 43,.cells #[.int .i64 a,.int .i64 b] 3],?_⟩
 rw[←c5,alloc_eq_grow,grow_grow]
 rfl
theorem Tryz.sortC (w:World) (b cap:Nat) (d:Array Oc) (hH:HoldsK YW 2 w b 0 d) (hb:b<w.heap.size) (hs:d.size<4611686018427387904) :
 Calls Tryz.prog 205 #[.slice (some ⟨b,0,none⟩) d.size cap,.func (.func 206) #[] #[]] w fun e w'=>e = .returned (.tuple #[])∧∃n os,w'=sortWorldK YW 2 w b 0 n (srO d.toList).toArray os:=by
 have eg:∀args w,(callFunc 206 args).run Tryz.prog w = .ok (.enter 206 args) w:=enters_of Tryz.func206 (by kernel_rfl) rfl
 have h:=AnyQ.slices_SortFunc_total Tryz.sortO 2 Tryz.isAgg43 Tryz.sizeOf43 YW encO_len encO_one cfO (by rw[cfO_eq];exact ltO_swo) 206 #[] b 0 cap d w eg (fun _ _ _ _ x y=>Tryz.closure206 x y _) hH hb hs (by rw[cfO_eq];exact fun x y=>ltO_tri)
 rw[cfO_eq] at h
 exact h
theorem Tryz.sortN (p:Option Addr) (cap:Nat) (fv:Value) (w:World):Calls Tryz.prog 205 #[.slice p 0 cap,fv] w fun e w'=>e = .returned (.tuple #[])∧w'=w:=
 AnyF.slices_SortFunc_none { Tryz.sortO with } p cap fv w
set_option maxRecDepth 100000 in
theorem o205 {r n:Nat} {l:List Oc} {H:GH} (hr:ZV H r=some (2,l.map Occ)) (hn:l.length=n) (hb:n<4611686018427387904) :
 Gc 205 [.own r 2 0 n,.clo 206 []] H (fun v H'=>v=uG∧H'=ZC H r ((srO l).map Occ)):=by
 have eg:∀args w,(callFunc 205 args).run Tryz.prog w = .ok (.enter 205 args) w:=enters_of Tryz.func205 (by kernel_rfl) rfl
 exact sort_ok (P:=Tryz.prog) (fs:=205) (g:=206) Tryz.sortC Tryz.sortN eg hr hn hb
end Go.Proofs.YtkmedfejmndmjaaGreat
