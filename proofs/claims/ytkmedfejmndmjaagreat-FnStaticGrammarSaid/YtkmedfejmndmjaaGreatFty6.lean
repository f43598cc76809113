/- The law returns true whatever the input, and the input reads behind the call as before. No condition. -/
import Derived.Test.YtkmedfejmndmjaaGreatFty2
set_option maxHeartbeats 40000000
set_option maxRecDepth 20000
set_option linter.unusedSimpArgs false
set_option linter.unusedVariables false
namespace Go.Proofs.YtkmedfejmndmjaaGreat
open Go.Gh
open Nat (reduceEqDiff reduceLeDiff reduceAdd reduceLT)
open Int (reduceNe)
open Go.Shelf
def Tryz.sortO_ren:Go.Shelf.Ren:=⟨fun|6=>205|15=>236|14=>235|28=>259|29=>260|20=>251|21=>252|22=>253|23=>254|24=>255|25=>256|26=>257|27=>258|46=>265|47=>266|48=>267|49=>268|50=>269|57=>270|n=>n,fun|22=>154|24=>43|25=>201|3=>3|39=>190|0=>0|53=>229|55=>231|4=>4|46=>222|45=>221|50=>226|5=>5|9=>9|66=>234|70=>238|76=>240|77=>29|n=>n,fun|n=>n⟩
theorem Tryz.sortO:Go.Proofs.SlLaysF0.n6 Tryz.prog Tryz.sortO_ren:={
 mixed:=by kernel_rfl
 f6:=⟨Tryz.f205.name,by decide,Tryz.func205.trans (congrArg some (by kernel_rfl))⟩
 f14:=⟨Tryz.f235.name,by decide,Tryz.func235.trans (congrArg some (by kernel_rfl))⟩
 f15:=Tryz.func236.trans (congrArg some (by kernel_rfl))
 f20:=⟨Tryz.f251.name,by decide,Tryz.func251.trans (congrArg some (by kernel_rfl))⟩
 f21:=⟨Tryz.f252.name,by decide,Tryz.func252.trans (congrArg some (by kernel_rfl))⟩
 f22:=⟨Tryz.f253.name,by decide,Tryz.func253.trans (congrArg some (by kernel_rfl))⟩
 f23:=⟨Tryz.f254.name,by decide,Tryz.func254.trans (congrArg some (by kernel_rfl))⟩
 f24:=⟨Tryz.f255.name,by decide,Tryz.func255.trans (congrArg some (by kernel_rfl))⟩
 f25:=⟨Tryz.f256.name,by decide,Tryz.func256.trans (congrArg some (by kernel_rfl))⟩
 f26:=⟨Tryz.f257.name,by decide,Tryz.func257.trans (congrArg some (by kernel_rfl))⟩
 f27:=⟨Tryz.f258.name,by decide,Tryz.func258.trans (congrArg some (by kernel_rfl))⟩
 f28:=Tryz.func259.trans (congrArg some (by kernel_rfl))
 f29:=Tryz.func260.trans (congrArg some (by kernel_rfl))
 f46:=⟨Tryz.f265.name,by decide,Tryz.func265.trans (congrArg some (by kernel_rfl))⟩
 f47:=Tryz.func266.trans (congrArg some (by kernel_rfl))
 f48:=Tryz.func267.trans (congrArg some (by kernel_rfl))
 f49:=⟨Tryz.f268.name,by decide,Tryz.func268.trans (congrArg some (by kernel_rfl))⟩
 f50:=⟨Tryz.f269.name,by decide,Tryz.func269.trans (congrArg some (by kernel_rfl))⟩
 f57:=⟨Tryz.f270.name,by decide,Tryz.func270.trans (congrArg some (by kernel_rfl))⟩
 t0:=Tryz.underlying0
 a0:=Tryz.isAgg0
 z0:=Tryz.sizeOf0
 v0:=Tryz.zeroValue0
 t3:=Tryz.underlying3
 a3:=Tryz.isAgg3
 z3:=Tryz.sizeOf3
 v3:=Tryz.zeroValue3
 t4:=Tryz.underlying4
 a4:=Tryz.isAgg4
 z4:=Tryz.sizeOf4
 v4:=Tryz.zeroValue4
 t5:=Tryz.underlying5
 a5:=Tryz.isAgg5
 z5:=Tryz.sizeOf5
 v5:=Tryz.zeroValue5
 t9:=Tryz.underlying9
 a9:=Tryz.isAgg9
 z9:=Tryz.sizeOf9
 v9:=Tryz.zeroValue9
 t22:=Tryz.underlying154
 a22:=Tryz.isAgg154
 z22:=Tryz.sizeOf154
 v22:=Tryz.zeroValue154
 t25:=Tryz.underlying201
 a25:=Tryz.isAgg201
 z25:=Tryz.sizeOf201
 v25:=Tryz.zeroValue201
 t39:=Tryz.underlying190
 a39:=Tryz.isAgg190
 z39:=Tryz.sizeOf190
 v39:=Tryz.zeroValue190
 t45:=Tryz.underlying221
 a45:=Tryz.isAgg221
 z45:=Tryz.sizeOf221
 v45:=Tryz.zeroValue221
 t46:=Tryz.underlying222
 a46:=Tryz.isAgg222
 z46:=Tryz.sizeOf222
 v46:=Tryz.zeroValue222
 t50:=Tryz.underlying226
 a50:=Tryz.isAgg226
 z50:=Tryz.sizeOf226
 v50:=Tryz.zeroValue226
 t53:=Tryz.underlying229
 a53:=Tryz.isAgg229
 z53:=Tryz.sizeOf229
 v53:=Tryz.zeroValue229
 t55:=Tryz.underlying231
 a55:=Tryz.isAgg231
 z55:=Tryz.sizeOf231
 v55:=Tryz.zeroValue231
 t66:=Tryz.underlying234
 a66:=Tryz.isAgg234
 z66:=Tryz.sizeOf234
 v66:=Tryz.zeroValue234
 t70:=Tryz.underlying238
 a70:=Tryz.isAgg238
 z70:=Tryz.sizeOf238
 v70:=Tryz.zeroValue238
 t76:=Tryz.underlying240
 a76:=Tryz.isAgg240
 z76:=Tryz.sizeOf240
 v76:=Tryz.zeroValue240
 t77:=Tryz.underlying29
 a77:=Tryz.isAgg29
 z77:=Tryz.sizeOf29
 v77:=Tryz.zeroValue29 }
end Go.Proofs.YtkmedfejmndmjaaGreat
namespace Go.Proofs.YtkmedfejmndmjaaGreat
open Go.Gh
open Nat (reduceEqDiff reduceLeDiff reduceAdd reduceLT)
open Int (reduceNe)
open Go.Shelf Go.RowKit Go.Lib Go.Sort
theorem Tryz.nanI (x:Int) (w:World):Calls Tryz.prog 261 #[.int .i64 x] w fun e w'=>e = .returned (.bool false)∧w'=w:=by
 go_enter Tryz.func261,Tryz.ntmps261
 go_wp2
 go_ret
 exact ⟨by simp,rfl⟩
theorem Tryz.nanS (x:ByteArray) (w:World):Calls Tryz.prog 262 #[.string x] w fun e w'=>e = .returned (.bool false)∧w'=w:=by
 go_enter Tryz.func262,Tryz.ntmps262
 go_wp2
 go_ret
 exact ⟨by simp,rfl⟩
theorem Tryz.cmpI (x y:Int) (w:World):Calls Tryz.prog 238 #[.int .i64 x,.int .i64 y] w fun e w'=>e = .returned (.int .i64 (if x<y then -1 else if y<x then 1 else 0))∧w'=w:=by
 go_enter Tryz.func238,Tryz.ntmps238
 go_wp2_with (go_at_call 261;refine (Tryz.nanI _ _).mono ?_;rintro e w' ⟨rfl,hw⟩;rw[hw])
 all_goals (go_ret;refine ⟨?_,rfl⟩;(repeat' split)<;>first|rfl|(exfalso;omega))
theorem Tryz.cmpS (x y:ByteArray) (w:World):Calls Tryz.prog 239 #[.string x,.string y] w fun e w'=>e = .returned (.int .i64 (if ltN x y=true then -1 else if ltN y x=true then 1 else 0))∧w'=w:=by
 go_enter Tryz.func239,Tryz.ntmps239
 go_wp2_with (go_at_call 262;refine (Tryz.nanS _ _).mono ?_;rintro e w' ⟨rfl,hw⟩;rw[hw])
 all_goals (go_ret;refine ⟨?_,rfl⟩)
 all_goals simp only[Lib.toList_data] at *
 all_goals simp_all [ltN,ltS_or,ByteArray.ext_iff,Lib.toList_data]
 ·exfalso
  rename_i h1 h2
  exact h2 (congrArg ByteArray.data (ltN_tri (a:=x) (b:=y) h1 (by assumption)))
 ·exfalso
  rename_i h2 h3
  have e:x=y:=ByteArray.ext h3
  subst e
  simp_all
theorem Tryz.or2 (x y:Int) (b cap:Nat) (w:World) (hc:2≤cap) (h0:w.cell? ⟨b,0,none⟩=some (.int .i64 x)) (h1:w.cell? ⟨b,1,none⟩=some (.int .i64 y)):Calls Tryz.prog 237 #[.slice (some ⟨b,0,none⟩) 2 cap] w fun e w'=>e = .returned (.int .i64 (if x≠0 then x else y))∧w'=w:=by
 go_enter Tryz.func237,Tryz.ntmps237
 go_wp2
 refine wp_loop_rounds 3 ?_
 rw[rounds_succ]
 go_wp2
 ·go_ret;first|exact ⟨rfl,rfl⟩|(exfalso;simp_all;done)
 ·go_ret;first|exact ⟨rfl,rfl⟩|(exfalso;simp_all;done)
 ·rw[rounds_succ]
  go_wp2
  ·go_ret;first|exact ⟨rfl,rfl⟩|(exfalso;simp_all;done)
  ·go_ret;first|exact ⟨rfl,rfl⟩|(exfalso;simp_all;done)
  ·rw[rounds_succ]
   go_wp2
   all_goals go_ret
   all_goals (try subst_vars)
   all_goals first|exact ⟨rfl,rfl⟩|(exfalso;simp_all;done)|(refine ⟨?_,rfl⟩;have hy:y=0:=(by simp_all);subst hy;rfl)
theorem Tryz.closure206 (x y:Oc) (W:World):Calls Tryz.prog 206 #[.agg #[.int .i64 x.1,.string x.2],.agg #[.int .i64 y.1,.string y.2]] W fun e w'=>e = .returned (.int .i64 (cfO x y))∧∃q os',w'=grow (W.drewN q) os':=by
 have hi:=fun W'=>Tryz.cmpI x.1 y.1 W'
 have hs:=fun W'=>Tryz.cmpS x.2 y.2 W'
 unfold cfO
 generalize (if x.1<y.1 then (-1:Int) else if y.1<x.1 then 1 else 0)=a at hi ⊢
 generalize (if ltN x.2 y.2=true then (-1:Int) else if ltN y.2 x.2=true then 1 else 0)=b at hs ⊢
 have ho:=fun bb cap W' h1 h2 h3=>Tryz.or2 a b bb cap W' h1 h2 h3
 generalize (if a≠0 then a else b)=r at ho ⊢
 go_enter Tryz.func206,Tryz.ntmps206
 go_wp2
 obtain ⟨W2,hW2⟩:∃W2,W2=(W.alloc (.cells #[.int .i64 x.1,.string x.2] 43)).alloc (.cells #[.int .i64 y.1,.string y.2] 43):=⟨_,rfl⟩
 have c1:W2.cell? ⟨W.heap.size,0,none⟩=some (.int .i64 x.1):=by rw[hW2,cellB _ _ _ _ (by rw[sizeA];omega)];exact cellA _ _ _ 0
 have c2:W2.cell? ⟨W.heap.size,1,none⟩=some (.string x.2):=by rw[hW2,cellB _ _ _ _ (by rw[sizeA];omega)];exact cellA _ _ _ 1
 have c3:W2.cell? ⟨W.heap.size+1,0,none⟩=some (.int .i64 y.1):=by rw[hW2,←sizeA W (.cells #[.int .i64 x.1,.string x.2] 43)];exact cellA _ _ _ 0
 have c4:W2.cell? ⟨W.heap.size+1,1,none⟩=some (.string y.2):=by rw[hW2,←sizeA W (.cells #[.int .i64 x.1,.string x.2] 43)];exact cellA _ _ _ 1
 have c5:grow W #[.cells #[.int .i64 x.1,.string x.2] 43,.cells #[.int .i64 y.1,.string y.2] 43]=W2:=by rw[hW2,alloc_eq_grow,alloc_eq_grow,grow_grow];rfl
 rw[←hW2]
 clear hW2
 go_region_held3 (fun w'=>w'.cell? ⟨W.heap.size,0,none⟩=some (.int .i64 x.1)∧w'.cell? ⟨W.heap.size,1,none⟩=some (.string x.2)∧w'.cell? ⟨W.heap.size+1,0,none⟩=some (.int .i64 y.1)∧w'.cell? ⟨W.heap.size+1,1,none⟩=some (.string y.2)) (go_keep) (first|(go_at_call 238;refine (hi _).mono ?_;rintro e w' ⟨rfl,rfl⟩)|(go_at_call 239;refine (hs _).mono ?_;rintro e w' ⟨rfl,rfl⟩)|(go_at_call 237;refine (ho _ 2 _ (Nat.le_refl _) (cell1a _ _ _ _) (cell1b _ _ _ _)).mono ?_;rintro e w' ⟨rfl,rfl⟩))
 go_wp2
 go_ret
 refine ⟨rfl,1,#[.cells #[.int .i64 x.1,.string x.2] 43,.cells #[.int .i64 y.1,.string y.2] 43,.cells #[.int .i64 a,.int .i64 b] 3],?_⟩
 rw[←c5,alloc_eq_grow,grow_grow]
 rfl
theorem Tryz.sortC (w:World) (b cap:Nat) (d:Array Oc) (hH:HoldsK Zc 2 w b 0 d) (hb:b<w.heap.size) (hs:d.size<4611686018427387904) :
 Calls Tryz.prog 205 #[.slice (some ⟨b,0,none⟩) d.size cap,.func (.func 206) #[] #[]] w fun e w'=>e = .returned (.tuple #[])∧∃n os,w'=sortWorldK Zc 2 w b 0 n (srO d.toList).toArray os:=by
 have eg:∀args w,(callFunc 206 args).run Tryz.prog w = .ok (.enter 206 args) w:=enters_of Tryz.func206 (by kernel_rfl) rfl
 have h:=AnyQ.slices_SortFunc_total Tryz.sortO 2 Tryz.isAgg43 Tryz.sizeOf43 Zc encO_len encO_one cfO (by rw[cfO_eq];exact ltO_swo) 206 #[] b 0 cap d w eg (fun _ _ _ _ x y=>Tryz.closure206 x y _) hH hb hs (by rw[cfO_eq];exact fun x y=>ltO_tri)
 rw[cfO_eq] at h
 exact h
theorem Tryz.sortN (p:Option Addr) (cap:Nat) (fv:Value) (w:World):Calls Tryz.prog 205 #[.slice p 0 cap,fv] w fun e w'=>e = .returned (.tuple #[])∧w'=w:=
 AnyF.slices_SortFunc_none { Tryz.sortO with } p cap fv w
set_option maxRecDepth 100000 in
theorem o205 {r n:Nat} {l:List Oc} {H:GH} (hr:ZU H r=some (2,l.map Occ)) (hn:l.length=n) (hb:n<4611686018427387904) :
 Gc 205 [.own r 2 0 n,.clo 206 []] H (fun v H'=>v=uG∧H'=ZD H r ((srO l).map Occ)):=by
 have eg:∀args w,(callFunc 205 args).run Tryz.prog w = .ok (.enter 205 args) w:=enters_of Tryz.func205 (by kernel_rfl) rfl
 exact sort_ok (P:=Tryz.prog) (fs:=205) (g:=206) Tryz.sortC Tryz.sortN eg hr hn hb
end Go.Proofs.YtkmedfejmndmjaaGreat
namespace Go.Proofs.YtkmedfejmndmjaaGreat
open Go.Gh
open Nat (reduceEqDiff reduceLeDiff reduceAdd reduceLT)
open Int (reduceNe)
theorem o204 (e : Exp) (l : List Oc) (hl : l.length ≤ 4194304) (rb q : Nat) (T : GH) : Gc 204 [Ex e, .ptr rb 1 0 0] ((q, 2, l.map Occ) :: (rb, 1, [.own q 2 0 l.length]) :: T)
    (fun v H' => ∃ q', v = B true ∧ H' = (q', 2, (l ++ occ1 e).map Occ) :: (rb, 1, [.own q' 2 0 (l ++ occ1 e).length]) :: T) := by
  refine GCalls.nd fun hn => ?_
  replace hn := ZX hn
  (replace hn := hn; simp only [VN] at hn)
  by_cases hk : e.kind = 3
  · have h0 : Gc 204 [Ex e, .ptr rb 1 0 0] ((q, 2, l.map Occ) :: (rb, 1, [.own q 2 0 l.length]) :: T)
        (fun v H' => ∃ q' r1 u, ¬ q' = r1 ∧ ¬ q' = rb ∧ ¬ r1 = rb ∧ v = B true ∧ H' = (q', 2, (l ++ occ1 e).map Occ) :: (r1, 2, u) :: (rb, 1, [.own q' 2 0 (l ++ occ1 e).length]) :: T) := by
      refine ZY mxd i204 rfl (by simp) ?_; refine X0 ?_
      (refine V1 (jO @XE (jO hk (jO hn (jO @List.length_map.{0,0} @ZO)))) ?_; with_reducible repeat' first|exact trivial|intro h|refine aO ?_|refine eO ?_|apply jO)
      rename_i r1 _ r2
      have e1 : occ1 e = [(e.pos, e.name)] := by simp [occ1, hk]
      refine ⟨r2, r1, [Occ (e.pos, e.name)], by simp [*], by simp [*], by simp [*], ?_⟩
      rw [e1, tL (by simp), List.map_append, List.length_append]
      rfl
    refine h0.fr ?_
    rintro v H' ⟨q', r1, u, n1, n2, n3, rfl, rfl⟩
    exact ⟨_, _, FR.perm (H := [_, _, _]) (L := [(q', 2, (l ++ occ1 e).map Occ), (rb, 1, [.own q' 2 0 (l ++ occ1 e).length])]) (by simp [subH, ZU, names, *]), q', rfl, rfl⟩
  · have e1 : occ1 e = [] := by simp [occ1, hk]
    rw [e1, List.append_nil]
    refine ZY mxd i204 rfl (by simp) ?_; refine X0 ?_
    (refine V1 (jO @XE (jO hk hn)) ?_; with_reducible repeat' first|exact trivial|intro h|refine aO ?_|refine eO ?_|apply jO)
    exact ⟨q, rfl⟩
theorem o157 (t:List Exp) (f:Nat) (cs:List GV) (n0 rb:Nat) (T:GH) (hb:n0+(Zj t).length ≤ 4194304)
 (hp:∀a∈t,∀(l:List Oc) (q:Nat),l.length+(occE a).length ≤ 4194304→Gc f (Ex a::cs) ((q,2,l.map Occ)::(rb,1,[.own q 2 0 l.length])::T) (fun v H'=>∃q',v=B false∧H'=(q',2,(l++occE a).map Occ)::(rb,1,[.own q' 2 0 (l++occE a).length])::T))
 (l:List Oc) (q:Nat) (hl:l.length=n0) :
 Gc 157 [ExS t,.clo f cs] ((q,2,l.map Occ)::(rb,1,[.own q 2 0 l.length])::T) (fun v H'=>∃q',v=I (-1)∧H'=(q',2,(l++Zj t).map Occ)::(rb,1,[.own q' 2 0 (l++Zj t).length])::T):=by
 refine GCalls.lenA fun hlen=> ?_
 have hlen:=hlen.1.1
 simp only[List.length_map,Zi] at hlen
 refine ZY mxd i157 rfl (by simp) ?_;refine X0 ?_
 (refine V0 ?_;with_reducible repeat' first|exact trivial|intro h|refine aO ?_|refine eO ?_|apply jO)
 refine wloopN mxd (ι:={ y:Nat×Nat // y.2≤t.length }) (fun y=>[(0,ExS t),(1,.clo f cs),(7,I t.length),(8,I y.1.2)]) (fun y=>(y.1.1,2,(l++Zj (t.take y.1.2)).map Occ)::(rb,1,[.own y.1.1 2 0 (l++Zj (t.take y.1.2)).length])::T) (fun y=>t.length-y.1.2) ⟨(q,0),by simp⟩ (by simp[E2]) (by simp[Zj]) ?_
 rintro ⟨⟨q,i⟩,hi⟩ hn
 dsimp only at hi hn ⊢
 replace hn:=ZX hn
 (replace hn:=hn;simp only[VN] at hn)
 rcases nL i t.length with h|h
 ·have e1:=occEL_step h
  have e2:(Zj (t.take (i+1))).length ≤ (Zj t).length := by
   have e3:t=t.take (i+1)++t.drop (i+1):=(List.take_append_drop _ _).symm
   have e4:Zj t=Zj (t.take (i+1))++Zj (t.drop (i+1)):=by
    conv=>lhs;rw[e3]
    exact occEL_app _ _
   rw[e4,List.length_append];omega
  have e5:(Zj (t.take (i+1))).length = (Zj (t.take i)).length + (occE t[i]).length := by rw[e1,List.length_append]
  (refine V1 (jO hn (jO @Y2 (jO @YJ (jO @Y3 @YS)))) ?_;with_reducible repeat' first|exact trivial|intro h|refine aO ?_|refine eO ?_|apply jO)
  all_goals try exact oF
  refine callS.of (hp t[i] (gM _) _ q (by rw[List.length_append];omega)) ?_
  rintro v H' ⟨q',rfl,rfl⟩ hn2
  rw[List.append_assoc,←e1] at hn2 ⊢
  (refine V1 hn ?_;with_reducible repeat' first|exact trivial|intro h|refine aO ?_|refine eO ?_|apply jO)
  exact nx ⟨(q',i+1),by omega⟩ (by simp;omega) (by simp[E2]) rfl
 ·obtain rfl:i=t.length:=by omega
  (refine V1 hn ?_;with_reducible repeat' first|exact trivial|intro h|refine aO ?_|refine eO ?_|apply jO)
  all_goals try exact oF
  rw[List.take_length]
  exact ⟨q,rfl⟩
theorem o96 (t:List Exp) (f:Nat) (cs:List GV) (n0 rb:Nat) (T:GH) (hb:n0+(Zj t).length ≤ 4194304)
 (hp:∀a∈t,∀(l:List Oc) (q:Nat),l.length+(occE a).length ≤ 4194304→Gc f (Ex a::cs) ((q,2,l.map Occ)::(rb,1,[.own q 2 0 l.length])::T) (fun v H'=>∃q',v=B false∧H'=(q',2,(l++occE a).map Occ)::(rb,1,[.own q' 2 0 (l++occE a).length])::T))
 (l:List Oc) (q:Nat) (hl:l.length=n0) :
 Gc 96 [ExS t,.clo f cs] ((q,2,l.map Occ)::(rb,1,[.own q 2 0 l.length])::T) (fun v H'=>∃q',v=B false∧H'=(q',2,(l++Zj t).map Occ)::(rb,1,[.own q' 2 0 (l++Zj t).length])::T):=by
 refine ZY mxd i96 rfl (by simp) ?_;refine X0 ?_
 (refine V0 ?_;with_reducible repeat' first|exact trivial|intro h|refine aO ?_|refine eO ?_|apply jO)
 refine callS.of (o157 t f cs n0 rb T hb hp l q hl) ?_
 rintro v H' ⟨q',rfl,rfl⟩ hn2
 (refine V0 ?_;with_reducible repeat' first|exact trivial|intro h|refine aO ?_|refine eO ?_|apply jO)
 exact ⟨q',by simp⟩
theorem o158 (rb:Nat) (T:GH):∀(e:Exp) (l:List Oc) (q:Nat),l.length+(occE e).length ≤ 4194304 →
 Gc 158 [Ex e,.clo 204 [.ptr rb 1 0 0]] ((q,2,l.map Occ)::(rb,1,[.own q 2 0 l.length])::T) (fun v H'=>∃q',v=B true∧H'=(q',2,(l++occE e).map Occ)::(rb,1,[.own q' 2 0 (l++occE e).length])::T):=by
 refine Exp.indA fun e ih l q hb=> ?_
 have e0:=occE_eq e
 have e1:(occE e).length = (occ1 e).length + (Zj e.args).length := by rw[e0,List.length_append]
 refine ZY mxd i158 rfl (by simp) ?_;refine X0 ?_
 ((try refine qI ?_);(repeat ((first|with_reducible refine qU ?_ | simp only[Z8]);try simp (maxSteps:=9^7) +contextual only[↓ S2,S2,↓reduceIte,reduceNe,reduceEqDiff,reduceCtorEq,reduceLeDiff,reduceAdd,reduceLT,VQ,XE,gs_clo]));(try simp +contextual (disch:=omega) only[Z2,XE,gs_clo]);(with_reducible repeat' (first|intro h|refine And.intro (by omega) ?_ | refine exP (by omega) ?_ | apply And.intro)))
 refine callS.of (o204 e l (by omega) rb q T) ?_
 rintro v H' ⟨q',rfl,rfl⟩ hn
 replace hn:=ZX hn
 (replace hn:=hn;simp only[VN] at hn)
 (refine V1 (jO hn @XE) ?_;with_reducible repeat' first|exact trivial|intro h|refine aO ?_|refine eO ?_|apply jO)
 refine callS.of (o96 e.args 216 _ (l++occ1 e).length rb T (by rw[List.length_append];omega) (fun a ha l q hb=> ?_) (l++occ1 e) q' rfl) ?_
 ·refine ZY mxd i216 rfl (by simp) ?_;refine X0 ?_
  (refine V1 @XE ?_;with_reducible repeat' first|exact trivial|intro h|refine aO ?_|refine eO ?_|apply jO)
  refine callS.of (ih a ha l q hb) ?_
  rintro v H' ⟨q',rfl,rfl⟩ hn
  (refine V0 ?_;with_reducible repeat' first|exact trivial|intro h|refine aO ?_|refine eO ?_|apply jO)
  exact ⟨q',rfl⟩
 ·rintro v H' ⟨q2,rfl,rfl⟩ hn
  (refine V0 ?_;with_reducible repeat' first|exact trivial|intro h|refine aO ?_|refine eO ?_|apply jO)
  rw[e0,List.append_assoc]
  exact ⟨q2,rfl⟩
end Go.Proofs.YtkmedfejmndmjaaGreat
