/- The tied card of the law holds. No condition. -/
import Derived.Test.YtmdfoigdflaliabGreatDoorPpg1
import Derived.Lib.LaidTab
import Derived.Shelf.Strings.Cut
import Derived.Shelf.Strings.Split
import Derived.Shelf.Strings.Prefix
import Derived.Lib.AtoiAllCases
import Derived.HandedShaped
import Derived.Shelf.Vars
import Derived.Lay
import Derived.KernelRfl
set_option maxHeartbeats 40000000
set_option maxRecDepth 20000
set_option linter.unusedSimpArgs false
set_option linter.unusedVariables false

namespace Go.Gh
open Lib
variable {ts:List Tok}
def BdA {α:Type} (ts:List Tok) (i:Nat) (P:PR α):Prop:=i≤ts.length→i≤P.at∧P.at≤ts.length
theorem BdA.bind {α β:Type} {i:Nat} {P:PR α} {f:α→Nat→PR β} (h:BdA ts i P) (hf:∀a j,BdA ts j (f a j)):BdA ts i (P.bind f):=by
 intro hi
 cases P with
 | bad k=>exact h hi
 | ok b k=>
  obtain ⟨h1,h2⟩:=h hi
  obtain ⟨h3,h4⟩:=hf b k h2
  exact ⟨Nat.le_trans h1 h3,h4⟩
theorem BdA.ite {α:Type} {i:Nat} {c:Prop} [Decidable c] {a b:PR α} (h1:c→BdA ts i a) (h2:¬c→BdA ts i b):BdA ts i (if c then a else b):=by
 by_cases h:c
 ·rw[if_pos h];exact h1 h
 ·rw[if_neg h];exact h2 h
theorem BdA.ok {α:Type} {i:Nat} (a:α):BdA ts i (PR.ok a i):=fun h=>⟨Nat.le_refl _,h⟩
theorem BdA.next {α:Type} {i:Nat} (a:α) (h:i<ts.length):BdA ts i (PR.ok a (i+1)):=fun _ => ⟨Nat.le_succ _,h⟩
theorem BdA.bad {α:Type} {i:Nat}:BdA ts i (PR.bad i:PR α):=fun h=>⟨Nat.le_refl _,h⟩
theorem BdA.skip {α:Type} {i:Nat} {P:PR α} (h:i<ts.length) (hP:BdA ts (i+1) P):BdA ts i P:=fun _ => by
 obtain ⟨h1,h2⟩:=hP h
 exact ⟨oT,h2⟩
theorem ZF (i:Nat) (w:ByteArray):BdA ts i (ZY ts i w):=by
 unfold ZY;split
 ·rename_i h;exact .next _ (sees_lt h)
 ·exact .bad
theorem ba_num (i:Nat) (lo hi:Int):BdA ts i (Zo ts i lo hi):=by
 unfold Zo;split
 ·rename_i h;exact .next _ h.1
 ·exact .bad
theorem XT (i:Nat):BdA ts i (ZM ts i):=by
 unfold ZM;split
 ·rename_i h;exact .next _ h.1
 ·exact .bad
theorem ba_set:∀(f i:Nat) (l s:Int),BdA ts i (YD ts f i l s)
 | 0,i,l,s=> .bad
 | f+1,i,l,s=>by
  simp only[YD]
  split
  ·rename_i h;exact .next _ (sees_lt h)
  ·exact (ba_num i l 11).bind fun _ j=>ba_set f j _ _
theorem ba_row {X:Nat→PR Exp} (hX:∀i,BdA ts i (X i)) (lv:Nat):∀(f:Nat) (e:Exp) (i:Nat),BdA ts i (YF ts X lv f e i)
 | 0,e,i=> .bad
 | f+1,e,i=>by
  simp only[YF]
  split
  ·exact .ok _
  ·rename_i h
   refine .skip (op_lt h) ((hX _).bind fun b j=> ?_)
   split
   ·exact .ok _
   ·exact ba_row hX lv f _ _
theorem ba_lv {X:Nat→PR Exp} (hX:∀i,BdA ts i (X i)) (lv i:Nat):BdA ts i (lvP ts X lv i):=(hX i).bind fun e j=>ba_row hX lv _ _ _
theorem ba_atom {E A:Nat→PR Exp} (hE:∀i,BdA ts i (E i)) (hA:∀i,BdA ts i (A i)) (i:Nat):BdA ts i (YY ts E A i):=by
 unfold YY
 dsimp only
 refine BdA.ite (fun _ => .bad) fun hi=> ?_
 have hi:i<ts.length:=Decidable.not_not.1 hi
 refine BdA.ite (fun _ => ?_) (fun _ => ?_)
 ·exact .next _ hi
 refine BdA.ite (fun _ => ?_) (fun _ => ?_)
 ·exact .skip hi ((ba_set _ _ _ _).bind fun _ _ => .ok _)
 refine BdA.ite (fun _ => ?_) (fun _ => ?_)
 ·exact .next _ hi
 refine BdA.ite (fun _ => ?_) (fun _ => ?_)
 ·exact .next _ hi
 refine BdA.ite (fun _ => ?_) (fun _ => ?_)
 ·exact .next _ hi
 refine BdA.ite (fun _ => ?_) (fun _ => ?_)
 ·exact .next _ hi
 refine BdA.ite (fun _ => ?_) (fun _ => ?_)
 ·exact .skip hi ((ba_num _ _ _).bind fun _ _ => (ZF _ _).bind fun _ _ => (XT _).bind fun _ _ => .ok _)
 refine BdA.ite (fun _ => ?_) (fun _ => ?_)
 ·exact .skip hi ((ZF _ _).bind fun _ _ => (ba_num _ _ _).bind fun _ _ => (ZF _ _).bind fun _ _ => .ok _)
 refine BdA.ite (fun _ => ?_) (fun _ => ?_)
 ·exact .skip hi ((hE _).bind fun _ _ => (ZF _ _).bind fun _ _ => .ok _)
 refine BdA.ite (fun _ => ?_) (fun _ => ?_)
 ·exact .skip hi ((ZF _ _).bind fun _ _ => (hE _).bind fun _ _ => (ZF _ _).bind fun _ _ => (hE _).bind fun _ _ => (ZF _ _).bind fun _ _ => .ok _)
 ·exact (XT _).bind fun _ _ => (ZF _ _).bind fun _ _ => (XT _).bind fun _ _ => (ZF _ _).bind fun _ _ => (hA _).bind fun _ _ => .ok _
theorem ba_expr {E A:Nat→PR Exp} (hE:∀i,BdA ts i (E i)) (hA:∀i,BdA ts i (A i)) (i:Nat):BdA ts i (X5 ts E A i):=by
 unfold X5
 split
 ·rename_i h
  exact .skip (sees_lt h) ((hE _).bind fun _ _ => (ZF _ _).bind fun _ _ => (hE _).bind fun _ _ => (ZF _ _).bind fun _ _ => (hE _).bind fun _ _ => .ok _)
 ·exact ba_lv (fun i=>ba_lv (fun i=>ba_lv hA 3 i) 2 i) 1 i
mutual
theorem ba_E:∀(f i:Nat),BdA ts i (pE ts f i)
 | 0,i=> .bad
 | f+1,i=>ba_expr (fun i=>ba_E f i) (fun i=>ba_A f i) i
theorem ba_A:∀(f i:Nat),BdA ts i (pA ts f i)
 | 0,i=> .bad
 | f+1,i=>ba_atom (fun i=>ba_E f i) (fun i=>ba_A f i) i
end
theorem Zq {α:Type} {b:Bool} {F:Nat→PR α} {i:Nat} (hF:BdA ts i (F i)) (hi:i≤ts.length):(frm b F i).at ≤ ts.length:=by
 cases b with
 | true=>exact hi
 | false=>exact (hF hi).2
end Go.Gh
namespace Go.Gh
open Lib
variable {ts:List Tok}
theorem bc {α β:Type} {i:Nat} (hi:i≤ts.length) {P Q:PR α} (hP:BdA ts i P) (h:P=Q) {f g:α→Nat→PR β} (hf:∀a j,i≤j→j≤ts.length→f a j=g a j):P.bind f=Q.bind g:=by
 subst h
 cases P with
 | bad k=>rfl
 | ok a k=>exact hf a k (hP hi).1 (hP hi).2
theorem row_congr {X X':Nat→PR Exp} (hb:∀i,BdA ts i (X i)) (lv:Nat):∀(F:Nat) (e:Exp) (i:Nat),i≤ts.length→(∀j,i<j→j≤ts.length→X j=X' j)→YF ts X lv F e i=YF ts X' lv F e i
 | 0,e,i,_,_ => rfl
 | F+1,e,i,hi,h=>by
  simp only[YF]
  split
  ·rfl
  ·rename_i ho
   have hlt:=op_lt ho
   refine bc (i:=i+1) hlt (hb _) (h _ oT hlt) fun b j h1 h2=> ?_
   split
   ·rfl
   ·exact row_congr hb lv F _ j h2 fun q hq hq2=>h q oT hq2
theorem lv_congr {X X':Nat→PR Exp} (hb:∀i,BdA ts i (X i)) (lv i:Nat) (hi:i≤ts.length) (h:∀j,i≤j→j≤ts.length→X j=X' j):lvP ts X lv i=lvP ts X' lv i:=
 bc hi (hb i) (h i (Nat.le_refl _) hi) fun e j h1 h2=>row_congr hb lv _ e j h2 fun q hq hq2=>h q oT hq2
theorem atom_congr {E E' A A':Nat→PR Exp} (hE:∀i,BdA ts i (E i)) (hA:∀i,BdA ts i (A i)) (i:Nat) (hi:i≤ts.length) (h1:∀j,i<j→j≤ts.length→E j=E' j) (h2:∀j,i<j→j≤ts.length→A j=A' j):YY ts E A i=YY ts E' A' i:=by
 by_cases hlt:i<ts.length
 ·unfold YY
  dsimp only
  rw[if_neg (not_not_intro hlt),if_neg (not_not_intro hlt)]
  have hi1:i+1≤ts.length:=hlt
  have e1:(E (i+1)).bind (fun e j=>(ZY ts j wRP).bind fun _ j=>PR.ok e j)=(E' (i+1)).bind (fun e j=>(ZY ts j wRP).bind fun _ j=>PR.ok e j):=bc hi1 (hE _) (h1 _ oT hi1) fun _ _ _ _ => rfl
  have e2:((ZY ts (i+1) wLP).bind fun _ j=>(E j).bind fun a j=>(ZY ts j Yi).bind fun _ j=>(E j).bind fun b j=>(ZY ts j wRP).bind fun _ j=>PR.ok (opE (funO (ts.getD i YW).text) a b) j)=((ZY ts (i+1) wLP).bind fun _ j=>(E' j).bind fun a j=>(ZY ts j Yi).bind fun _ j=>(E' j).bind fun b j=>(ZY ts j wRP).bind fun _ j=>PR.ok (opE (funO (ts.getD i YW).text) a b) j):=
   bc hi1 (ZF _ _) rfl fun _ j q1 q2=>bc q2 (hE _) (h1 _ oT q2) fun a k q3 q4=>bc q4 (ZF _ _) rfl fun _ m q5 q6=>bc q6 (hE _) (h1 _ oT q6) fun _ _ _ _ => rfl
  have e3:((ZM ts i).bind fun s j=>(ZY ts j Y3).bind fun _ j=>(ZM ts j).bind fun n j=>(ZY ts j wOf).bind fun _ j=>(A j).bind fun e j=>PR.ok (Exp.mk 8 0 0 0 s n [e]) j)=((ZM ts i).bind fun s j=>(ZY ts j Y3).bind fun _ j=>(ZM ts j).bind fun n j=>(ZY ts j wOf).bind fun _ j=>(A' j).bind fun e j=>PR.ok (Exp.mk 8 0 0 0 s n [e]) j):=by
   cases hn:ZM ts i with
   | bad k=>rfl
   | ok s k=>
    have hk:=name_nx hn
    subst hk
    show (ZY ts (i+1) Y3).bind _ = (ZY ts (i+1) Y3).bind _
    exact bc hi1 (ZF _ _) rfl fun _ j q1 q2=>bc q2 (XT _) rfl fun _ k q3 q4=>bc q4 (ZF _ _) rfl fun _ m q5 q6=>bc q6 (hA _) (h2 _ oT q6) fun _ _ _ _ => rfl
  rw[e1,e2,e3]
 ·unfold YY
  dsimp only
  rw[if_pos hlt,if_pos hlt]
theorem expr_congr {E E' A A':Nat→PR Exp} (hE:∀i,BdA ts i (E i)) (hA:∀i,BdA ts i (A i)) (i:Nat) (hi:i≤ts.length) (h1:∀j,i<j→j≤ts.length→E j=E' j) (h2:∀j,i≤j→j≤ts.length→A j=A' j):X5 ts E A i=X5 ts E' A' i:=by
 unfold X5
 split
 ·rename_i hs
  have hi1:i+1≤ts.length:=sees_lt hs
  exact bc hi1 (hE _) (h1 _ oT hi1) fun a j q1 q2=>bc q2 (ZF _ _) rfl fun _ k q3 q4=>bc q4 (hE _) (h1 _ oT q4) fun b m q5 q6=>bc q6 (ZF _ _) rfl fun _ n q7 q8=>bc q8 (hE _) (h1 _ oT q8) fun _ _ _ _ => rfl
 ·refine lv_congr (fun i=>ba_lv (fun i=>ba_lv hA 3 i) 2 i) 1 i hi fun j a b=>lv_congr (fun i=>ba_lv hA 3 i) 2 j b fun k c d=>lv_congr hA 3 k d fun m e f=>h2 m oT f
mutual
theorem fuel_E:∀(f f' i:Nat),i≤ts.length→2 * (ts.length-i)+2≤f→2 * (ts.length-i)+2≤f'→pE ts f i=pE ts f' i
 | 0,f',i,_,h,_ => by omega
 | f+1,0,i,_,_,h=>by omega
 | f+1,f'+1,i,hi,h,h'=>expr_congr (ba_E f) (ba_A f) i hi (fun j a b=>fuel_E f f' j b oT oT) (fun j a b=>fuel_A f f' j b oT oT)
theorem fuel_A:∀(f f' i:Nat),i≤ts.length→2 * (ts.length-i)+1≤f→2 * (ts.length-i)+1≤f'→pA ts f i=pA ts f' i
 | 0,f',i,_,h,_ => by omega
 | f+1,0,i,_,_,h=>by omega
 | f+1,f'+1,i,hi,h,h'=>by
  by_cases hlt:i<ts.length
  ·exact atom_congr (ba_E f) (ba_A f) i hi (fun j a b=>fuel_E f f' j b oT oT) (fun j a b=>fuel_A f f' j b oT oT)
  ·show YY ts (pE ts f) (pA ts f) i=YY ts (pE ts f') (pA ts f') i
   unfold YY
   dsimp only
   rw[if_pos hlt,if_pos hlt]
end
def rE (ts:List Tok) (i:Nat):PR Exp:=pE ts (2 * ts.length+4) i
def rA (ts:List Tok) (i:Nat):PR Exp:=pA ts (2 * ts.length+4) i
theorem XV (i:Nat):BdA ts i (rE ts i):=ba_E _ i
theorem rA_bd (i:Nat):BdA ts i (rA ts i):=ba_A _ i
theorem rE_eq {i:Nat} (hi:i≤ts.length):rE ts i=X5 ts (rE ts) (rA ts) i:=
 expr_congr (ba_E _) (ba_A _) i hi (fun j a b=>fuel_E _ _ j b oT oT) (fun j a b=>fuel_A _ _ j b oT oT)
theorem rA_eq {i:Nat} (hi:i≤ts.length):rA ts i=YY ts (rE ts) (rA ts) i:=
 atom_congr (ba_E _) (ba_A _) i hi (fun j a b=>fuel_E _ _ j b oT oT) (fun j a b=>fuel_A _ _ j b oT oT)
end Go.Gh
namespace Go.Gh
variable {ts:List Tok}
theorem sees_isW {i:Nat} (h:i<ts.length) (w:ByteArray):isW (ts.getD i YW) w=sees ts i w:=by unfold sees;rw[decide_eq_true h,Bool.true_and]
def okNs (ts:List Tok):Prop:=∀t∈ts,t.kind=2→0≤t.num∧t.num≤1000000
def EN (S:Nat→Bool→GV) (P:PR Exp) (rp:Nat) (H:GH) (g:GV) (H':GH):Prop:=
 ∃e,e.args=[]∧g=ExN e∧H'=Z3 H rp [S P.at P.err]∧∀a j,P = .ok a j→e=a
def E1 (S:Nat→Bool→GV) (P:PR Exp) (rp:Nat) (H:GH) (g:GV) (H':GH):Prop:=
 ∃s m a r q,q≠r∧g=EO q (.mk 8 0 0 0 s m [a])∧H'=(q,7,[EO r a])::(r,7,a.args.map ExO)::Z3 H rp [S P.at P.err]∧∀x j,P = .ok x j→(.mk 8 0 0 0 s m [a])=x
def E3 (S:Nat→Bool→GV) (P:PR Exp) (rp:Nat) (H:GH) (g:GV) (H':GH):Prop:=
 ∃a b c ra rb rc q,q≠ra∧q≠rb∧q≠rc∧rc≠ra∧rc≠rb∧rb≠ra∧g=EO q (.mk 5 0 0 0 noS noS [a,b,c])∧H'=(q,7,[EO ra a,EO rb b,EO rc c])::(rc,7,c.args.map ExO)::(rb,7,b.args.map ExO)::(ra,7,a.args.map ExO)::Z3 H rp [S P.at P.err]∧∀x j,P = .ok x j→(.mk 5 0 0 0 noS noS [a,b,c])=x
theorem closeO {g:GV} {q r:Nat} {pre suf:List GV} {a:Exp} {U:GH} (hne:q≠r) (hr:Z7 U r=some (7,a.args.map ExO)):FR g ((q,7,pre++EO r a::suf)::U) g ((q,7,pre++ExO a::suf)::ZK U r):=by
 have h:=FR.close (g:=g) (H:=(q,7,pre++EO r a::suf)::U) (r:=q) (r1:=r) (sz:=7) (sz1:=7) (i:=pre.length) (j:=6) (n:=a.args.length) (es:=pre++EO r a::suf) (gs:=[I a.kind,I a.n,I a.pos,I a.type,T a.sym,T a.name,.own r 7 0 a.args.length]) (ks:=a.args.map ExO) hne Z4 (by simp) rfl (by rw[Z1 hne];exact hr) (by simp)
 rw[Zf] at h
 have e1:(pre++EO r a::suf).set pre.length (.agg ([I a.kind,I a.n,I a.pos,I a.type,T a.sym,T a.name,.own r 7 0 a.args.length].set 6 (.osl 7 (a.args.map ExO))))=pre++ExO a::suf:=by
  rw[ExO_eq]
  simp
 rw[e1] at h
 have e2:ZK ((q,7,pre++ExO a::suf)::U) r=(q,7,pre++ExO a::suf)::ZK U r:=by simp[ZK,hne]
 rw[e2] at h
 exact h
theorem EP.of {P:Program} {f:FuncId} {gs:List GV} {H:GH} {S:Nat→Bool→GV} {R:PR Exp} {rp:Nat} (h:GCalls P f gs H (fun g H'=>EP S R rp H g H'∨EN S R rp H g H'∨E1 S R rp H g H'∨E3 S R rp H g H')):GCalls P f gs H (EP S R rp H):=by
 refine h.fr ?_
 rintro g H' (h|⟨e,he,rfl,rfl,hx⟩|⟨s,m,a,r,q,hqr,rfl,rfl,hx⟩|⟨a,b,c,ra,rb,rc,q,h1,h2,h3,h4,h5,h6,rfl,rfl,hx⟩)
 ·exact ⟨g,H',FR.refl _ _,h⟩
 ·obtain ⟨r,hf⟩:=FR.nilE he (Z3 H rp [S R.at R.err])
  exact ⟨_,_,hf,e,r,rfl,rfl,hx⟩
 ·have c1:=closeO (g:=EO q (.mk 8 0 0 0 s m [a])) (pre:=[]) (suf:=[]) (U:=(r,7,a.args.map ExO)::Z3 H rp [S R.at R.err]) hqr Z4
  rw[show ZK ((r,7,a.args.map ExO)::Z3 H rp [S R.at R.err]) r=Z3 H rp [S R.at R.err] by simp[ZK]] at c1
  exact ⟨_,_,c1,_,q,rfl,rfl,hx⟩
 ·have c1:=closeO (g:=EO q (.mk 5 0 0 0 noS noS [a,b,c])) (pre:=[EO ra a,EO rb b]) (suf:=[]) (U:=(rc,7,c.args.map ExO)::(rb,7,b.args.map ExO)::(ra,7,a.args.map ExO)::Z3 H rp [S R.at R.err]) h3 Z4
  rw[show ZK ((rc,7,c.args.map ExO)::(rb,7,b.args.map ExO)::(ra,7,a.args.map ExO)::Z3 H rp [S R.at R.err]) rc=(rb,7,b.args.map ExO)::(ra,7,a.args.map ExO)::Z3 H rp [S R.at R.err] by simp[ZK]] at c1
  have c2:=closeO (g:=EO q (.mk 5 0 0 0 noS noS [a,b,c])) (pre:=[EO ra a]) (suf:=[ExO c]) (U:=(rb,7,b.args.map ExO)::(ra,7,a.args.map ExO)::Z3 H rp [S R.at R.err]) h2 Z4
  rw[show ZK ((rb,7,b.args.map ExO)::(ra,7,a.args.map ExO)::Z3 H rp [S R.at R.err]) rb=(ra,7,a.args.map ExO)::Z3 H rp [S R.at R.err] by simp[ZK]] at c2
  have c3:=closeO (g:=EO q (.mk 5 0 0 0 noS noS [a,b,c])) (pre:=[]) (suf:=[ExO b,ExO c]) (U:=(ra,7,a.args.map ExO)::Z3 H rp [S R.at R.err]) h1 Z4
  rw[show ZK ((ra,7,a.args.map ExO)::Z3 H rp [S R.at R.err]) ra=Z3 H rp [S R.at R.err] by simp[ZK]] at c3
  exact ⟨_,_,FR.trans c1 (FR.trans c2 c3),_,q,rfl,rfl,hx⟩
end Go.Gh
namespace Go.Gh
open Lib
theorem Yo {α β:Type} (P:PR α) (F:Nat→PR β):frm P.err F P.at=P.bind fun _ => F:=by cases P<;>rfl
theorem bind_as {α β γ:Type} (P:PR α) (f:α→Nat→PR β) (g:β→Nat→PR γ):(P.bind f).bind g=P.bind fun a j=>(f a j).bind g:=by cases P<;>rfl
def StP {α β:Type} (P:PR α) (Q:PR β):Prop:=P.at=Q.at∧P.err=Q.err
theorem StP.bind {α β γ:Type} (P:PR α) {f:α→Nat→PR β} {f':α→Nat→PR γ} (h:∀a j,StP (f a j) (f' a j)):StP (P.bind f) (P.bind f'):=by
 cases P with
 | bad k=>exact ⟨rfl,rfl⟩
 | ok a k=>exact h a k
theorem StP.last {α β:Type} (P:PR α) (f:α→β):StP P (P.bind fun a j=> .ok (f a) j):=by cases P<;>exact ⟨rfl,rfl⟩
theorem XP {ts:List Tok} {α:Type} {b:Bool} {F:Nat→PR α} {i:Nat} (hF:BdA ts i (F i)) (hi:i≤ts.length):i≤(frm b F i).at := by
 cases b with
 | true=>exact Nat.le_refl _
 | false=>exact (hF hi).1
end Go.Gh
namespace Go.Gh
open Lib
theorem spanL_take (p:UInt8→Bool):∀(l:List UInt8),∀c∈l.take (Zs p l),p c=true
 | [],c,h=>by simp at h
 | d::l,c,h=>by
  simp only[Zs] at h
  split at h
  ·rename_i hd
   rw[List.take_succ_cons,List.mem_cons] at h
   rcases h with rfl|h
   ·exact hd
   ·exact spanL_take p l c h
  ·simp at h
theorem valD_nn:∀(w:List UInt8) (n:Int),0≤n→(∀c∈w,ZH c=true)→0≤w.foldl (fun n c=>10 * n+((c.toNat:Int)-48)) n
 | [],n,h,_ => h
 | c::w,n,h,hd=>by
  have hc:=hd c (by simp)
  have h48:48≤c.toNat:=by
   simp only[ZH,Bool.and_eq_true,decide_eq_true_eq] at hc
   first|exact hc.1|omega
  exact valD_nn w _ (show 0≤10 * n+((c.toNat:Int)-48) by omega) fun x hx=>hd x (by simp[hx])
def okTk (t:Tok):Prop:=(t.kind=1→shp (Z9 t.text)=true)∧(Z9 t.text).length ≤ 8∧(t.kind=2→0≤t.num∧t.num≤1000000)
theorem tokN_ok {l:List UInt8} {k:Nat} (h:(Y0 l k).2 ≠ 0):okTk (Y0 l k).1 := by
 unfold Y0 at h ⊢
 split at h
 ·rename_i hk
  split at h
  ·rename_i hl
   split at h
   ·rename_i h8
    rw[dif_pos hk,if_pos hl,if_pos h8]
    refine ⟨fun _ => ?_,?_,fun h=>(by cases h)⟩
    ·show shp ((l.drop k).take (Zs YM (l.drop k)))=true
     rw[Xu hk (by unfold YM;rw[hl];rfl),List.drop_eq_getElem_cons hk,List.take_succ_cons]
     simp only[shp,hl,Bool.true_and,List.all_eq_true]
     intro c hc
     exact spanL_take YM _ c hc
    ·show ((l.drop k).take (Zs YM (l.drop k))).length ≤ 8
     rw[List.length_take]
     omega
   ·exact absurd rfl h
  ·rename_i hl
   split at h
   ·rename_i hd
    cases hn:numT ((l.drop k).take (Zs ZH (l.drop k))) with
    | none=>rw[hn] at h;exact absurd rfl h
    | some n=>
     rw[dif_pos hk,if_neg hl,if_pos hd]
     simp only[hn]
     refine ⟨fun h=>(by cases h),(by show (0:Nat)≤8;decide),fun _ => ⟨?_,(numT_some hn).2⟩⟩
     unfold numT at hn
     split at hn
     ·cases hn
      exact valD_nn _ 0 (by decide) (spanL_take ZH _)
     ·cases hn
   ·rename_i hd
    split at h
    ·rename_i hs
     rw[dif_pos hk,if_neg hl,if_neg hd,if_pos hs]
     exact ⟨fun h=>(by cases h),by show 1≤8;decide,fun h=>(by cases h)⟩
    ·rename_i hs
     split at h
     ·rename_i he
      rw[dif_pos hk,if_neg hl,if_neg hd,if_neg hs,if_pos he]
      exact ⟨fun h=>(by cases h),by show 2≤8;decide,fun h=>(by cases h)⟩
     ·exact absurd rfl h
 ·exact absurd rfl h
theorem tokL_all {l:List UInt8} {Q:Tok→Prop} (hQ:∀k,(Y0 l k).2 ≠ 0→Q (Y0 l k).1):∀(f k:Nat) (out:List Tok),(∀t∈out,Q t)→∀t∈(Yx l f k out).1,Q t
 | 0,k,out,h=>by simp[Yx]
 | f+1,k,out,h=>by
  simp only[Yx]
  split
  ·split
   ·exact tokL_all hQ f _ _ h
   ·split
    ·simp
    ·rename_i h1
     refine tokL_all hQ f _ _ fun t ht=> ?_
     rcases List.mem_append.1 ht with ht|ht
     ·exact h t ht
     ·rw[List.mem_singleton] at ht
      subst ht
      exact hQ k (fun e=>h1 (.inl e))
  ·exact h
theorem tokz_ok (l:List UInt8):∀t∈(Zi l).1,okTk t:=by
 unfold Zi
 split
 ·simp
 ·exact tokL_all (fun k h=>tokN_ok h) _ _ _ (by simp)
theorem tokz_okTs (l:List UInt8):okTs (Zi l).1 := fun t ht=>⟨(tokz_ok l t ht).1,(tokz_ok l t ht).2.1⟩
theorem tokz_okNs (l:List UInt8):okNs (Zi l).1 := fun t ht=>(tokz_ok l t ht).2.2
end Go.Gh
namespace Go.Gh
open Lib
variable {ts:List Tok}
def offT (ts:List Tok) (n:Int) (i:Nat):Int:=if i<ts.length then (ts.getD i YW).at' else n
def bdO (ts:List Tok) (n:Int) (i:Nat) (b:Bool):Int:=if b=true then offT ts n i else -1
theorem bdO_t (n:Int) (i:Nat):bdO ts n i true=offT ts n i:=rfl
theorem YS (n:Int) (i:Nat):bdO ts n i false = -1:=rfl
theorem Yq:((-1:Int)<0)=True:=eq_true (by decide)
theorem Yr:(0≤(-1:Int))=False:=eq_false (by decide)
theorem offT_lt {n:Int} {i:Nat} (h:i<ts.length):offT ts n i=ts[i].at' := by unfold offT;rw[if_pos h,Zc h]
theorem offT_ge {n:Int} {i:Nat} (h:ts.length≤i):offT ts n i=n:=by unfold offT;rw[if_neg oT]
abbrev SpG (ts:List Tok) (n:Int) (i:Nat) (b:Bool):GV:= .agg [TkS ts,I i,I n,I (bdO ts n i b)]
structure OkR (ts:List Tok) (n:Int):Prop where
 len:ts.length≤80
 txt:okTs ts
 num:okNs ts
 off:∀t∈ts,0≤t.at'
 fin:0≤n
theorem OkR.nn {n:Int} (h:OkR ts n) (i:Nat):0≤offT ts n i:=by
 unfold offT
 split
 ·rename_i hi
  rw[Zc hi]
  exact h.off _ (List.getElem_mem hi)
 ·exact h.fin
theorem OkR.ng {n:Int} (h:OkR ts n) (i:Nat):(offT ts n i<0)=False:=eq_false (by have:=h.nn i;omega)
theorem OkR.ge {n:Int} (h:OkR ts n) (i:Nat):(0≤offT ts n i)=True:=eq_true (h.nn i)
theorem okR_tokz (l:List UInt8):OkR (Zi l).1 l.length:=⟨tokz_len l,tokz_okTs l,tokz_okNs l,fun t h=>(tokz_at l t h).1,oT⟩
end Go.Gh
namespace Go.Gh
open Lib
variable {ts:List Tok}
def SzP (P:Nat→PR Exp):Prop:=∀i e j,P i = .ok e j→okE e∧wEx e+17 * i≤17 * j
theorem sz_name (ht:okTs ts) {i j:Nat} {s:ByteArray} (h:ZM ts i = .ok s j):s.size≤maxLen∧(Z9 s).length ≤ 8∧j=i+1:=by
 have hj:=name_nx h
 unfold ZM at h
 split at h
 ·rename_i hc
  cases h
  have:=(ht (ts.getD i YW) (by rw[Zc hc.1];exact List.getElem_mem hc.1)).2
  refine ⟨?_,this,rfl⟩
  rw[ZD]
  exact Nat.le_trans this (by decide)
 ·cases h
theorem sz_noS:noS.size≤maxLen∧(Z9 noS).length = 0:=⟨by decide,rfl⟩
theorem sz_op (o:Int) {a b:Exp} (ha:okE a) (hb:okE b):okE (opE o a b)∧wEx (opE o a b)=2+wEx a+wEx b:=by
 refine ⟨⟨sz_noS.1,sz_noS.1,ha,hb,trivial⟩,?_⟩
 show (Z9 noS).length + (Z9 noS).length + (2+(wEx a+(wEx b+0))) = _
 rw[sz_noS.2]
 omega
theorem YB (k n p t:Int):okE (.mk k n p t noS noS [])∧wEx (.mk k n p t noS noS [])=0:=⟨⟨sz_noS.1,sz_noS.1,trivial⟩,rfl⟩
theorem sz_row {X:Nat→PR Exp} {lv:Nat} (hX:SzP X):∀(F:Nat) (e:Exp) (i i0:Nat) (r:Exp) (j:Nat),okE e→wEx e+17 * i0≤17 * i→YF ts X lv F e i = .ok r j→okE r∧wEx r+17 * i0≤17 * j
 | 0,e,i,i0,r,j,_,_,h=>by cases h
 | F+1,e,i,i0,r,j,ho,hi,h=>by
  simp only[YF] at h
  split at h
  ·cases h;exact ⟨ho,hi⟩
  ·obtain ⟨b,k,e1,e2⟩:=ZW h
   obtain ⟨b1,b2⟩:=hX _ _ _ e1
   obtain ⟨c1,c2⟩:=sz_op (Go.Gh.opAt ts i lv) ho b1
   split at e2
   ·cases e2;exact ⟨c1,oT⟩
   ·exact sz_row hX F _ _ i0 r j c1 oT e2
theorem sz_lv {X:Nat→PR Exp} {lv:Nat} (hX:SzP X):SzP (lvP ts X lv):=by
 intro i e j h
 unfold lvP at h
 obtain ⟨a,k,e1,e2⟩:=ZW h
 obtain ⟨a1,a2⟩:=hX _ _ _ e1
 exact sz_row hX _ a k i e j a1 a2 e2
theorem sz_set:∀(F i:Nat) (l s:Int) (r:Int) (j:Nat),YD ts F i l s = .ok r j→i≤j
 | 0,i,l,s,r,j,h=>by cases h
 | F+1,i,l,s,r,j,h=>by
  simp only[YD] at h
  split at h
  ·cases h;omega
  ·obtain ⟨n,k,e1,e2⟩:=ZW h
   have h1:=(num_nx e1).1
   have:=sz_set F _ _ _ r j e2
   omega
theorem sz_atom (ht:okTs ts) {E A:Nat→PR Exp} (hE:SzP E) (hA:SzP A):SzP (YY ts E A):=by
 intro i e j h
 unfold YY at h
 dsimp only at h
 rcases ite_c h with ⟨hc,h⟩|⟨hc,h⟩
 ·cases h
 rcases ite_c h with ⟨hc,h⟩|⟨hc,h⟩
 ·cases h;exact ⟨(YB _ _ _ _).1,by have:=(YB 1 (ts.getD i YW).num 0 1).2;unfold conE;omega⟩
 rcases ite_c h with ⟨hc,h⟩|⟨hc,h⟩
 ·obtain ⟨s,k,e1,e2⟩:=ZW h
  cases e2
  have:=sz_set _ _ _ _ _ _ e1
  exact ⟨(YB _ _ _ _).1,by have:=(YB 1 s 0 2).2;unfold conE;omega⟩
 rcases ite_c h with ⟨hc,h⟩|⟨hc,h⟩
 ·cases h;exact ⟨(YB _ _ _ _).1,by have:=(YB 1 1 0 3).2;unfold conE;omega⟩
 rcases ite_c h with ⟨hc,h⟩|⟨hc,h⟩
 ·cases h;exact ⟨(YB _ _ _ _).1,by have:=(YB 1 0 0 3).2;unfold conE;omega⟩
 rcases ite_c h with ⟨hc,h⟩|⟨hc,h⟩
 ·cases h;exact ⟨(YB _ _ _ _).1,by have:=(YB 2 0 0 0).2;omega⟩
 rcases ite_c h with ⟨hc,h⟩|⟨hc,h⟩
 ·cases h;exact ⟨(YB _ _ _ _).1,by have:=(YB 7 0 0 0).2;omega⟩
 rcases ite_c h with ⟨hc,h⟩|⟨hc,h⟩
 ·obtain ⟨p,k,e1,h⟩:=ZW h
  obtain ⟨_,k2,e2,h⟩:=ZW h
  obtain ⟨m,k3,e3,h⟩:=ZW h
  have:=(num_nx e1).1
  have:=Xy e2
  obtain ⟨m1,m2,m3⟩:=sz_name ht e3
  cases h
  refine ⟨⟨sz_noS.1,m1,trivial⟩,?_⟩
  show (Z9 noS).length + (Z9 m).length + (0+0)+17 * i≤17 * j
  rw[sz_noS.2]
  omega
 rcases ite_c h with ⟨hc,h⟩|⟨hc,h⟩
 ·obtain ⟨_,k,e1,h⟩:=ZW h
  obtain ⟨p,k2,e2,h⟩:=ZW h
  obtain ⟨_,k3,e3,h⟩:=ZW h
  have:=(num_nx e2).1
  have:=Xy e1
  have:=Xy e3
  cases h
  exact ⟨(YB _ _ _ _).1,by have:=(YB 6 0 p 0).2;omega⟩
 rcases ite_c h with ⟨hc,h⟩|⟨hc,h⟩
 ·obtain ⟨x,k,e1,h⟩:=ZW h
  obtain ⟨_,k2,e2,h⟩:=ZW h
  obtain ⟨h1,h2⟩:=hE _ _ _ e1
  have:=Xy e2
  cases h
  exact ⟨h1,oT⟩
 rcases ite_c h with ⟨hc,h⟩|⟨hc,h⟩
 ·obtain ⟨_,k,e1,h⟩:=ZW h
  obtain ⟨a,k2,e2,h⟩:=ZW h
  obtain ⟨_,k3,e3,h⟩:=ZW h
  obtain ⟨b,k4,e4,h⟩:=ZW h
  obtain ⟨_,k5,e5,h⟩:=ZW h
  obtain ⟨a1,a2⟩:=hE _ _ _ e2
  obtain ⟨b1,b2⟩:=hE _ _ _ e4
  have:=Xy e1
  have:=Xy e3
  have:=Xy e5
  cases h
  obtain ⟨c1,c2⟩:=sz_op (funO (ts.getD i YW).text) a1 b1
  exact ⟨c1,oT⟩
 ·obtain ⟨s,k,e1,h⟩:=ZW h
  obtain ⟨_,k2,e2,h⟩:=ZW h
  obtain ⟨m,k3,e3,h⟩:=ZW h
  obtain ⟨_,k4,e4,h⟩:=ZW h
  obtain ⟨a,k5,e5,h⟩:=ZW h
  obtain ⟨s1,s2,s3⟩:=sz_name ht e1
  have:=Xy e2
  obtain ⟨m1,m2,m3⟩:=sz_name ht e3
  have:=Xy e4
  obtain ⟨a1,a2⟩:=hA _ _ _ e5
  cases h
  refine ⟨⟨s1,m1,a1,trivial⟩,?_⟩
  show (Z9 s).length + (Z9 m).length + (1+(wEx a+0))+17 * i≤17 * j
  omega
theorem sz_expr {E A:Nat→PR Exp} (hE:SzP E) (hA:SzP A):SzP (X5 ts E A):=by
 intro i e j h
 unfold X5 at h
 split at h
 ·obtain ⟨a,k,e1,h⟩:=ZW h
  obtain ⟨_,k2,e2,h⟩:=ZW h
  obtain ⟨b,k3,e3,h⟩:=ZW h
  obtain ⟨_,k4,e4,h⟩:=ZW h
  obtain ⟨c,k5,e5,h⟩:=ZW h
  obtain ⟨a1,a2⟩:=hE _ _ _ e1
  obtain ⟨b1,b2⟩:=hE _ _ _ e3
  obtain ⟨c1,c2⟩:=hE _ _ _ e5
  have:=Xy e2
  have:=Xy e4
  cases h
  refine ⟨⟨sz_noS.1,sz_noS.1,a1,b1,c1,trivial⟩,?_⟩
  show (Z9 noS).length + (Z9 noS).length + (3+(wEx a+(wEx b+(wEx c+0))))+17 * i≤17 * j
  rw[sz_noS.2]
  omega
 ·exact sz_lv (sz_lv (sz_lv hA)) i e j h
mutual
theorem sz_E (ht:okTs ts):∀f:Nat,SzP (pE ts f)
 | 0=>fun i e j h=>by cases h
 | f+1=>sz_expr (sz_E ht f) (sz_A ht f)
theorem sz_A (ht:okTs ts):∀f:Nat,SzP (pA ts f)
 | 0=>fun i e j h=>by cases h
 | f+1=>sz_atom ht (sz_E ht f) (sz_A ht f)
end
theorem rE_sz (ht:okTs ts) (hl:ts.length≤80) {e:Exp} {j:Nat} (h:rE ts 0 = .ok e j):okE e∧wEx e≤1048576:=by
 have hb:=(XV (ts:=ts) 0 (Nat.zero_le _)).2
 rw[h] at hb
 have hb:j≤ts.length:=hb
 obtain ⟨h1,h2⟩:=sz_E ht _ 0 e j h
 exact ⟨h1,oT⟩
end Go.Gh
namespace Go.Gh
open Lib
theorem FR.nilT {e:Exp} (he:e.args=[]) (v:GV) (H:GH):∃r,FR (.tup [ExN e,v]) H (.tup [EO r e,v]) ((r,7,e.args.map ExO)::H):=by
 obtain ⟨r,ho,hq⟩:=Yu (names H)
 refine ⟨r,?_⟩
 have hl:e.args.length=0:=by rw[he];rfl
 show FR (.tup [ExN e,v]) H (.tup [.agg [I e.kind,I e.n,I e.pos,I e.type,T e.sym,T e.name,.own r 7 0 e.args.length],v]) ((r,7,e.args.map ExO)::H)
 rw[hl,he]
 exact FR.trans (FR.addv ho hq) (FR.sub (.tup (.cons (.agg (.cons .refl (.cons .refl (.cons .refl (.cons .refl (.cons .refl (.cons .refl (.cons .virt .nil)))))))) (.cons .refl .nil))))
abbrev zE:Exp:= .mk 0 0 0 0 noS noS []
def AnsS (a:Exp×Int) (H:GH) (g:GV) (H':GH):Prop:=
 (∃r q x,g = .tup [EO r a.1,I a.2]∧H'=(r,7,a.1.args.map ExO)::(q,x)::H)∨(∃X,a.1=zE∧g = .tup [ExN zE,I a.2]∧H'=X++H)
def AnsO (a:Exp×Int) (H:GH) (g:GV) (H':GH):Prop:=∃H1,(∃r,g = .tup [EO r a.1,I a.2]∧H1=[(r,7,a.1.args.map ExO)])∧H'=H1++H
theorem AnsS.own {P:Program} {f:FuncId} {gs:List GV} {H:GH} {a:Exp×Int} (h:GCalls P f gs H (AnsS a H)):GCalls P f gs H (AnsO a H):=by
 refine h.fr ?_
 rintro g H' (⟨r,q,x,rfl,rfl⟩|⟨X,hz,rfl,rfl⟩)
 ·exact ⟨_,_,FR.perm (H:=[(r,7,a.1.args.map ExO),(q,x)]) (L:=[(r,7,a.1.args.map ExO)]) (by simp[subH,Z7,names]),_,⟨r,rfl,rfl⟩,rfl⟩
 ·obtain ⟨r,hf⟩:=FR.nilT (e:=zE) rfl (I a.2) H
  refine ⟨_,_,FR.trans (FR.perm (H:=X) (L:=[]) (by simp[subH,names])) hf,_,⟨r,?_,rfl⟩,?_⟩
  ·rw[hz]
  ·rw[hz];rfl
theorem bor_EO {H:GH} {r:Nat} {e:Exp} (hr:Z7 H r=some (7,e.args.map ExO)):Bor H (EO r e) (Ex e):=by
 rw[Zz]
 exact .agg (.cons .refl (.cons .refl (.cons .refl (.cons .refl (.cons .refl (.cons .refl (.cons (Bor.seen view_ExO hr (by simp)) .nil)))))))
theorem AnsO.bor {a:Exp×Int} {H:GH} {g:GV} {H':GH} (h:AnsO a H g H'):Bor H' g (.tup [Ex a.1,I a.2]):=by
 obtain ⟨H1,⟨r,rfl,rfl⟩,rfl⟩:=h
 exact .tup (.cons (bor_EO Z4) (.cons .refl .nil))
theorem parV_bad {l:List UInt8} (h:0≤(Zi l).2):ZB l=(zE,(Zi l).2):=by unfold ZB;rw[if_pos h]
theorem parV_rd {l : List UInt8} (h : ¬ 0 ≤ (Zi l).2) : ZB l = match rE (Zi l).1 0 with
      | .bad i => (zE, offT (Zi l).1 l.length i)
      | .ok e i => if i < (Zi l).1.length then (zE, offT (Zi l).1 l.length i) else if Zh e = true then (e, -1) else (zE, 0) := by
  unfold ZB
  rw [if_neg h]
  rfl
theorem parV_sz (l:List UInt8):okE (ZB l).1 ∧ wEx (ZB l).1 ≤ 1048576:=by
 have hz:okE zE∧wEx zE≤1048576:=⟨(YB 0 0 0 0).1,by rw[(YB 0 0 0 0).2];omega⟩
 have hK:=okR_tokz l
 by_cases h:0≤(Zi l).2
 ·rw[parV_bad h];exact hz
 ·rw[parV_rd h]
  cases hP:rE (Zi l).1 0 with
  | bad i=>exact hz
  | ok e i=>
   dsimp only
   split
   ·exact hz
   ·split
    ·exact rE_sz hK.txt hK.len hP
    ·exact hz
end Go.Gh
namespace Go.Gh
abbrev RuX (r:Rul) (Y Z:GV):GV:= .agg [T r.name,T r.left,TS r.right,B r.lit,Y,Z]
end Go.Gh
namespace Go.Gh
end Go.Gh
namespace Go.Gh
end Go.Gh
namespace Go.Gh
def hAt (g:Gram) (s:ByteArray):Int:=(hgts g).getD (max 0 (ixOf (fun y:Sym=>decide (y.name=s)) g.syms)).toNat 0
def drN (x:Nod):Prop:=x.kids.length≤3∧shT x.rule
end Go.Gh
namespace Go.Gh
end Go.Gh
namespace Go.Gh
abbrev ZI:GV:= .val (.slice none 0 0)
abbrev Ru0 (r:Rul):GV:=RuX r ZI ZI
theorem view_Co (c:Con):view (Co c)=Co c:=by
 have:∀l:List Exp,(l.map Ex).map view=l.map Ex:=fun l=>by rw[List.map_map];exact List.map_congr_left fun a _ => view_Ex a
 simp[view,Zn,YZ,this]
theorem view_Qn (c:Eqn):view (Qn c)=Qn c:=by
 have:∀l:List Exp,(l.map Ex).map view=l.map Ex:=fun l=>by rw[List.map_map];exact List.map_congr_left fun a _ => view_Ex a
 simp[view,Zn,YZ,this]
theorem Xt {α:Type} {f:α→GV} (h:∀a,view (f a)=f a) (l:List α):(l.map f).map view=l.map f:=by
 rw[List.map_map];exact List.map_congr_left fun a _ => h a
theorem view_Sy (s:Sym):view (Sy s)=Sy s:=by
 have:=Xt (f:=At) (fun a=>rfl) s.atts
 simp[view,Zn,YZ,this]
theorem view_Ru (r:Rul):view (Ru r)=Ru r:=by
 have h1:=Xt (f:=T) (fun a=>rfl) r.right
 have h2:=Xt view_Qn r.eqs
 have h3:=Xt view_Co r.cons
 simp only[view,Zn,YZ,h1,h2,h3]
theorem FE.leaf {env:Env} {q:Nat} {L:List Rul} {a b:ByteArray} {c:Bool} {H:GH}:FE env ((q,6,L.map Ru0++[.agg [T a,T b,ZI,B c,ZI,ZI]])::H) env ((q,6,(L++[(⟨a,b,[],c,[],[]⟩:Rul)]).map Ru0)::H):=by
 have:=FE.exch (env:=env) (H:=(q,6,L.map Ru0++[.agg [T a,T b,ZI,B c,ZI,ZI]])::H) (r:=q) (sz:=6) (i:=L.length) (es:=L.map Ru0++[.agg [T a,T b,ZI,B c,ZI,ZI]]) (e:= .agg [T a,T b,ZI,B c,ZI,ZI]) (e':=Ru0 (⟨a,b,[],c,[],[]⟩:Rul)) (by simp[Z7]) (by simp)
  fun w D v F hm=>MV.fld (j:=2) (g':= .sl 1 []) rfl MV.nil_sl v F hm
 have e:(L.map Ru0++[GV.agg [T a,T b,ZI,B c,ZI,ZI]]).set L.length (Ru0 (⟨a,b,[],c,[],[]⟩:Rul))=(L++[(⟨a,b,[],c,[],[]⟩:Rul)]).map Ru0:=by
  rw[List.set_append_right _ _ (by simp)];simp
 rw[e] at this
 simpa[Z3] using this
theorem viewL_set {es:List GV} {i:Nat} {x y:GV} (h:es.map view=es) (hx:view x=y):Zn (es.set i x)=es.set i y:=by
 rw[YZ,List.map_set,h,hx]
theorem FE.ruQ {env:Env} {q q1 n:Nat} {es:List GV} {i:Nat} {r:Rul} {qs:List Eqn} {H:GH} (hne:q1≠q) (hi:i<es.length) (hes:es.map view=es) (hn:qs.length=n) :
 FE env ((q1,9,qs.map Qn)::(q,6,es.set i (RuX r (.own q1 9 0 n) ZI))::H) env ((q,6,es.set i (Ru { r with eqs:=qs,cons:=[] }))::H):=by
 refine FE.trans (FE.close2 (L:=es) (i:=i) (j:=4) hne hi rfl (by simpa using hn)) (FE.trans (FE.frzV (viewL_set hes (y:=RuX r (QnS qs) ZI) ?_)) ?_)
 ·have h1:=Xt (f:=T) (fun a=>rfl) r.right
  have h2:=Xt view_Qn qs
  simp only[List.set,view,YZ,List.map_cons,List.map_nil,h1,h2]
 ·have:=FE.exch (env:=env) (H:=(q,6,es.set i (RuX r (QnS qs) ZI))::H) (r:=q) (sz:=6) (i:=i) (es:=es.set i (RuX r (QnS qs) ZI)) (e:=RuX r (QnS qs) ZI) (e':=Ru { r with eqs:=qs,cons:=[] }) (by simp[Z7]) (by simp[hi])
   fun w D v F hm=>MV.fld (j:=5) (g':= .sl 16 []) rfl MV.nil_sl v F hm
  rw[List.set_set] at this
  simpa[Z3] using this
theorem FE.ruP {env:Env} {q q1 q2 n m:Nat} {es:List GV} {i:Nat} {r:Rul} {qs:List Eqn} {cs:List Con} {H:GH} (hne:q1≠q) (hne2:q2≠q) (hne3:q2≠q1) (hi:i<es.length) (hes:es.map view=es) (hn:qs.length=n) (hm:cs.length=m) :
 FE env ((q2,16,cs.map Co)::(q1,9,qs.map Qn)::(q,6,es.set i (RuX r (.own q1 9 0 n) (.own q2 16 0 m)))::H) env ((q,6,es.set i (Ru { r with eqs:=qs,cons:=cs }))::H):=by
 refine FE.trans (FE.perm (H:=[_,_,_]) (L:=[(q1,9,qs.map Qn),(q,6,es.set i (RuX r (.own q1 9 0 n) (.own q2 16 0 m))),(q2,16,cs.map Co)]) (by simp[subH,Z7,names,hne,hne2,hne3,Ne.symm hne,Ne.symm hne2,Ne.symm hne3])) ?_
 refine FE.trans (FE.close2 (L:=es) (i:=i) (j:=4) hne hi rfl (by simpa using hn)) ?_
 refine FE.trans (FE.perm (H:=[_,_]) (L:=[(q2,16,cs.map Co),(q,6,es.set i (.agg [T r.name,T r.left,TS r.right,B r.lit,.osl 9 (qs.map Qn),.own q2 16 0 m]))]) (by simp[subH,Z7,names,hne,hne2,hne3,Ne.symm hne,Ne.symm hne2,Ne.symm hne3])) ?_
 refine FE.trans (FE.close2 (L:=es) (i:=i) (j:=5) hne2 hi rfl (by simpa using hm)) (FE.frzV (viewL_set hes ?_))
 have h1:=Xt (f:=T) (fun a=>rfl) r.right
 have h2:=Xt view_Qn qs
 have h3:=Xt view_Co cs
 simp only[List.set,view,YZ,List.map_cons,List.map_nil,h1,h2,h3]
def goodT (b:Nat) (t:List Nod):Prop:=(∀x∈t,drN x)∧1≤t.length∧t.length≤b
theorem goodT.mono {a b:Nat} {t:List Nod} (h:goodT a t) (hab:a≤b):goodT b t:=⟨h.1,h.2.1,Nat.le_trans h.2.2 hab⟩
end Go.Gh
namespace Go.Gh
section
variable {P:Program} {cf:Cfg}
theorem gstartG {f:FuncId} {F:GFun} (hF:IsFun P f F) {cf:Cfg} {gc:GC} {gr:List GR} (hf:F=⟨cf,gc,gr⟩) {gs:List GV} {H:GH} {R:GV→GH→Prop} (hlen:gs.length≤cf.N)
 (h:GW P cf gc (GEndS gr R) (envOf gs 0) H):GCalls P f gs H R:=GCalls.start hF hf hlen (GW.mono (fun _ _ _ h=>h.ok) h)
theorem gwpS (mxd:P.follows .mixedOrders = true) {x y:GC} {Q:Exit→Env→GH→Prop} {env:Env} {H:GH} (h:gwp P cf x (thenG (GW P cf y Q) Q) env H):GW P cf (.seq x y) Q env H:=GW.seq (Zt mxd h)
end
end Go.Gh
namespace Go.Gh
end Go.Gh
namespace Go.Gh
end Go.Gh
namespace Go.Gh
end Go.Gh
namespace Go.Gh
end Go.Gh
namespace Go.Gh
end Go.Gh
namespace Go.Gh
end Go.Gh
namespace Go.Gh
end Go.Gh
namespace Go.Gh
def Wk (T:List (List Int)) (goal:Nat):Nat→Nat→Prop
 | 0,_ => False
 | 1,i=>(goal:Int)∈T.getD i []
 | d+2,i=>∃k:Nat,k<T.length∧(k:Int)∈T.getD i []∧Wk T goal (d+1) k
def Rch (T:List (List Int)) (i j:Nat):Prop:=∃d,Wk T j d i
theorem Wk_trans {T:List (List Int)} {l j e:Nat} (hj:j<T.length) (h2:Wk T l (e+1) j):∀d i,Wk T j d i→Wk T l (d+e+1) i
 | 0,_,h=>h.elim
 | 1,i,h=>by
  rw[show 1+e+1=e+2 by omega]
  exact ⟨j,hj,h,h2⟩
 | d+2,i,⟨k,hk,h3,h4⟩=>by
  have:=Wk_trans hj h2 (d+1) k h4
  rw[show d+2+e+1=(d+e+1)+2 by omega]
  exact ⟨k,hk,h3,by rw[show d+e+1+1=d+1+e+1 by omega];exact this⟩
theorem Rch.trans {T:List (List Int)} {i j l:Nat} (hj:j<T.length) (h1:Rch T i j) (h2:Rch T j l):Rch T i l:=by
 obtain ⟨d,h1⟩:=h1
 obtain ⟨e,h2⟩:=h2
 cases e with
 | zero=>exact h2.elim
 | succ e=>exact ⟨_,Wk_trans hj h2 d i h1⟩
theorem Rch.one {T:List (List Int)} {i j:Nat} (h:(j:Int)∈T.getD i []):Rch T i j:=⟨1,h⟩
end Go.Gh
namespace Go.Gh
end Go.Gh
namespace Go.Gh
end Go.Gh
namespace Go.Gh
end Go.Gh
namespace Go.Gh
end Go.Gh
namespace Go.Gh
end Go.Gh
namespace Go.Gh
abbrev Ky:=Int×ByteArray×Int
namespace Fo
def keys:Fo→List Ky
 | nil=>[]
 | cons i r l ks rest=>(i,r,l)::(ks.keys++rest.keys)
end Fo
namespace Fo
def Yl (v:Int):Fo→Fo
 | nil=>nil
 | cons i r _ ks rest=>cons i r v ks rest
end Fo
open Fo
end Go.Gh
namespace Go.Gh
theorem bv_nat (n:Nat) (h:n≤4095):(BitVec.ofInt 64 (n:Int)).toNat = n:=by
 rw[BitVec.toNat_ofInt]
 omega
theorem wr_nat (n:Nat) (h:n≤4095):IntKind.i64.wrap (n:Int)=n:=wrap64 oT oT
theorem andI_id {v:Int} (h0:0≤v) (h1:v≤4095):andI .i64 v 4095=v:=by
 obtain ⟨n,rfl⟩:=Int.eq_ofNat_of_zero_le h0
 have h2:(BitVec.ofInt 64 (n:Int) &&& BitVec.ofInt 64 ((4095:Nat):Int)).toNat = n:=by
  rw[BitVec.toNat_and,bv_nat n oT,bv_nat 4095 oT,show (4095:Nat)=2 ^ 12-1 by decide,Nat.and_two_pow_sub_one_eq_mod]
  omega
 show IntKind.i64.wrap ((BitVec.ofInt 64 (n:Int) &&& BitVec.ofInt 64 ((4095:Nat):Int)).toNat : Int)=n
 rw[h2,wr_nat n oT]
theorem and_rng (n:Int):0≤andI .i64 n 4095∧andI .i64 n 4095≤4095:=andI_le (a:=n) (m:=4095) (by decide)
theorem ok1 {v:Int}:okV v 1=true↔(-1000000≤v∧v≤1000000):=by rw[okV1];simp
theorem ok2 {v:Int}:okV v 2=true↔(0≤v∧v≤4095):=by
 have e:coV v 2=andI .i64 v 4095:=rfl
 simp only[okV,e,Bool.and_eq_true,decide_eq_true_eq]
 constructor
 ·rintro ⟨_,h⟩
  rw[←h];exact and_rng v
 ·intro h;exact ⟨oT,andI_id h.1 h.2⟩
end Go.Gh
namespace Go.Gh
end Go.Gh
namespace Go.Gh
theorem HM.perm {w:World} {D:Nat→Prop} {H L:GH} (p:H.Perm L):∀{Ω:List Nat},HM w D H Ω→∃Ω',HM w D L Ω'∧Ω'.Perm Ω:=by
 induction p with
 | nil=>exact fun h=>⟨_,h,.refl _⟩
 | cons x _ ih=>
  obtain ⟨r,sz,es⟩:=x
  rintro Ω ⟨F1,F2,rfl,h1,h2⟩
  obtain ⟨Ω',h3,h4⟩:=ih h2
  exact ⟨F1++Ω',⟨F1,Ω',rfl,h1,h3⟩,h4.append_left _⟩
 | swap x y l=>
  obtain ⟨r,sz,es⟩:=x
  obtain ⟨r',sz',es'⟩:=y
  rintro Ω ⟨F1,F2,rfl,h1,F3,F4,rfl,h2,h3⟩
  exact ⟨F3++(F1++F4),⟨F3,_,rfl,h2,F1,F4,rfl,h1,h3⟩,by rw[←List.append_assoc,←List.append_assoc];exact (List.perm_append_comm).append_right _⟩
 | trans _ _ ih1 ih2=>
  intro Ω h
  obtain ⟨Ω1,h1,p1⟩:=ih1 h
  obtain ⟨Ω2,h2,p2⟩:=ih2 h1
  exact ⟨Ω2,h2,p2.trans p1⟩
theorem St.perm {w:World} {D:Nat→Prop} {H L:GH} (p:H.Perm L) {Ω:List Nat} (h:St w D H Ω):∃Ω',St w D L Ω'∧Ω'.Perm Ω:=by
 obtain ⟨Ω',h1,h2⟩:=h.hm.perm p
 exact ⟨Ω',⟨h1,h2.nodup_iff.2 h.nd,((p.map _).nodup_iff).1 h.nn,fun b hb=>h.dj b (h2.mem_iff.1 hb),h.ds⟩,h2⟩
theorem GCalls.perm {P:Program} {f:FuncId} {gs:List GV} {H L:GH} {R R':GV→GH→Prop} (p:L.Perm H) (h:GCalls P f gs H R) (hr:∀g H',R g H'→∃L',R' g L'∧H'.Perm L'):GCalls P f gs L R':=by
 intro w D Ω args hst hargs
 obtain ⟨Ω',h1,h2⟩:=hst.perm p
 refine Yld.mono (fun v w' ⟨g,H',D',Ω'',k1,k2,k3,k4⟩=> ?_) (h w D Ω' args h1 hargs)
 obtain ⟨L',q1,q2⟩:=hr g H' k1
 obtain ⟨Ω3,m1,m2⟩:=k3.perm q2
 exact ⟨g,L',D',Ω3,q1,k2,m1,
  ⟨k4.d0,fun b hb hD=>(k4.dn b hb hD).imp id (fun h=>h2.mem_iff.1 h),fun b hb hl=>h2.mem_iff.1 (k4.on b (m2.mem_iff.1 hb) hl),k4.kp.mono fun b _ hb hb'=>hb (h2.mem_iff.1 hb'),k4.os,k4.tape,k4.output⟩⟩
def inH (T:GH) (H:GH):Prop:=∀x∈T,Z7 H x.1=some x.2
theorem inH.nil (H:GH):inH [] H:=fun _ h=>by cases h
theorem inH.cons {x:Nat×Nat×List GV} {T H:GH} (h:Z7 H x.1=some x.2) (hT:inH T H):inH (x::T) H:=fun y hy=>by
 rcases List.mem_cons.1 hy with rfl|hy
 ·exact h
 ·exact hT y hy
theorem inH.split:∀{T H:GH},(names T).Nodup → inH T H→∃H0,H.Perm (T++H0)
 | [],H,_,_ => ⟨H,.refl _⟩
 | (r,x)::T,H,hn,h=>by
  obtain ⟨A,B,rfl,hA⟩:=hget_split (h (r,x) (by simp))
  have hn':=List.nodup_cons.1 hn
  have hT:inH T (A++B):=fun y hy=>by
   have h1:=h y (by simp[hy])
   have hne:y.1≠r:=fun e=>hn'.1 (by rw[←e];exact List.mem_map.2 ⟨y,hy,rfl⟩)
   have:∀(A:GH),Z7 (A++(r,x)::B) y.1=Z7 (A++B) y.1:=by
    intro A
    induction A with
    | nil=>
     show Z7 ((r,x)::B) y.1=Z7 B y.1
     exact Z1 (Ne.symm hne)
    | cons a A ih=>
     obtain ⟨q,z⟩:=a
     simp only[List.cons_append,Z7]
     rw[ih]
   rw[←this A]
   exact h1
  obtain ⟨H0,h0⟩:=inH.split hn'.2 hT
  exact ⟨H0,(List.perm_middle).trans (h0.cons _)⟩
def GCX (P:Program) (T:GH) (f:FuncId) (gs:List GV) (R:GV→GH→Prop):Prop:=
 ∀H,GCalls P f gs (T++H) (fun g H'=>∃H1,R g H1∧H'=H1++(T++H))
theorem GCX.at {P:Program} {T:GH} {f:FuncId} {gs:List GV} {R:GV→GH→Prop} (h:GCX P T f gs R) (hn:(names T).Nodup) {H:GH} (hT:inH T H) :
 GCalls P f gs H (fun g H'=>∃H1,R g H1∧H'=H1++H):=by
 obtain ⟨H0,h0⟩:=hT.split hn
 refine (h H0).perm h0 ?_
 rintro g H' ⟨H1,h1,rfl⟩
 exact ⟨H1++H,⟨H1,h1,rfl⟩,h0.symm.append_left _⟩
theorem GCX.mono {P:Program} {T:GH} {f:FuncId} {gs:List GV} {R R':GV→GH→Prop} (h:GCX P T f gs R) (hr:∀g H1,R g H1→R' g H1):GCX P T f gs R':=
 fun H=>(h H).mono fun g H' ⟨H1,h1,h2⟩=>⟨H1,hr g H1 h1,h2⟩
theorem GCX.of {P:Program} {x:Nat×Nat×List GV} {f:FuncId} {gs:List GV} {R:GV→GH→Prop}
 (h:∀H,GCalls P f gs (x::H) (fun g H'=>∃G H1 T L,R G H1∧Bor L g G∧H'=T++H∧subH T (L++(H1++[x])))):GCX P [x] f gs R:=
 fun H=>(h H).fr fun g H' ⟨G,H1,T,L,h1,h2,h3,h4⟩=>by
  subst h3
  refine ⟨G,H1++([x]++H),FR.trans (FR.perm h4) ?_,H1,h1,rfl⟩
  rw[List.append_assoc,List.append_assoc]
  exact FR.front h2
theorem GCX.of2 {P:Program} {x y:Nat×Nat×List GV} {f:FuncId} {gs:List GV} {R:GV→GH→Prop}
 (h:∀H,x.1≠y.1→GCalls P f gs (x::y::H) (fun g H'=>∃G H1 T L,R G H1∧Bor L g G∧H'=T++H∧subH T (L++(H1++[x,y])))):GCX P [x,y] f gs R:=fun H=>by
 have h1:∀hne:x.1≠y.1,GCalls P f gs ([x,y]++H) (fun g H'=>∃H1,R g H1∧H'=H1++([x,y]++H)):=fun hne=>(h H hne).fr fun g H' ⟨G,H1,T,L,h1,h2,h3,h4⟩=>by
  subst h3
  refine ⟨G,H1++([x,y]++H),FR.trans (FR.perm h4) ?_,H1,h1,rfl⟩
  rw[List.append_assoc,List.append_assoc]
  exact FR.front h2
 intro w D Ω args hst hargs
 exact h1 (by have:=hst.nn;simp[names] at this;exact this.1.1) w D Ω args hst hargs
abbrev PuR (P:Program) (x:Nat×Nat×List GV) (f:FuncId) (gs:List GV) (G:GV):Prop:=GCX P [x] f gs (fun g H1=>g=G∧H1=[])
theorem PuR.of {P:Program} {x:Nat×Nat×List GV} {f:FuncId} {gs:List GV} {G:GV}
 (h:∀H,GCalls P f gs (x::H) (fun g H'=>∃T L,Bor L g G∧H'=T++H∧subH T (L++[x]))):PuR P x f gs G:=
 GCX.of fun H=>(h H).mono fun g H' ⟨T,L,h2,h3,h4⟩=>⟨G,[],T,L,⟨rfl,rfl⟩,h2,h3,h4⟩
theorem PuR.min {P:Program} {x:Nat×Nat×List GV} {f:FuncId} {gs:List GV} {G:GV} (h:GCalls P f gs [x] (fun g H'=>g=G∧H'=[x])):PuR P x f gs G:=
 fun H=>(GCalls.frame1 (H1:=H) h).perm (by exact List.perm_append_comm) fun g H' ⟨h1,h2⟩=>⟨[x]++H,⟨[],⟨h1,rfl⟩,rfl⟩,by rw[h2];exact List.perm_append_comm⟩
def DcR (P:Program) (y:Nat×Nat×List GV) (f:FuncId) (gs:List GV) (R:GV→GH→Prop):Prop:=∀rc,GCX P [(rc,3,[.cur]),y] f (.ptr rc 3 0 0::gs) R
abbrev DvR (P:Program) (y:Nat×Nat×List GV) (f:FuncId) (gs:List GV) (R:GV→Prop):Prop:=DcR P y f gs (fun g H1=>R g∧H1=[])
theorem DcR.of {P:Program} {y:Nat×Nat×List GV} {f:FuncId} {gs:List GV} {R:GV→GH→Prop}
 (h:∀rc H,rc≠y.1→GCalls P f (.ptr rc 3 0 0::gs) ((rc,3,[.cur])::y::H) (fun g H'=>∃G H1 T L,R G H1∧Bor L g G∧H'=T++H∧subH T (L++(H1++[(rc,3,[.cur]),y])))):DcR P y f gs R:=
 fun rc=>GCX.of2 fun H hne=>h rc H hne
theorem DvR.of {P:Program} {y:Nat×Nat×List GV} {f:FuncId} {gs:List GV} {R:GV→Prop}
 (h:∀rc H,rc≠y.1→GCalls P f (.ptr rc 3 0 0::gs) ((rc,3,[.cur])::y::H) (fun g H'=>∃G T L,R G∧Bor L g G∧H'=T++H∧subH T (L++[(rc,3,[.cur]),y]))):DvR P y f gs R:=
 DcR.of fun rc H hne=>(h rc H hne).mono fun g H' ⟨G,T,L,h1,h2,h3,h4⟩=>⟨G,[],T,L,⟨h1,rfl⟩,h2,h3,h4⟩
theorem DcR.at {P:Program} {y:Nat×Nat×List GV} {f:FuncId} {gs:List GV} {R:GV→GH→Prop} (h:DcR P y f gs R) {rc:Nat} {H:GH} (hr:Z7 H rc=some (3,[.cur])) (hy:Z7 H y.1=some y.2) (h3:y.2.1≠3) :
 GCalls P f (.ptr rc 3 0 0::gs) H (fun g H'=>∃H1,R g H1∧H'=H1++H):=
 (h rc).at (by
  have:rc≠y.1:=fun e=>by rw[←e,hr] at hy;exact h3 (by rw[←Option.some.inj hy])
  simp[names,this]) (.cons hr (.cons hy (.nil _)))
end Go.Gh
namespace Go.Gh
end Go.Gh
namespace Go.Gh
theorem soT_T2 (a b:ByteArray):soT (some (1,[.val (.string a),.val (.string b)])) 1 1 0 2=some [.val (.string a),.val (.string b)]:=by simp[soT,Yf,clean]
theorem FE.virt1 {env:Env} {H:GH} {r r1 sz sz1:Nat} {gs:List GV} (j:Nat) (hg:gs[j]? = some (.val (.slice none 0 0))) (ho:r1 % 4=1) (hn:r1∉names ((r,sz,[.agg gs])::H)) :
 FE env ((r,sz,[.agg gs])::H) env ((r1,sz1,[])::(r,sz,[.agg (gs.set j (.own r1 sz1 0 0))])::H):=by
 have:=FE.virtF (env:=env) (sz1:=sz1) (i:=0) (j:=j) Z4 rfl hg ho hn
 simpa[Z3] using this
theorem FE.virt2 {env:Env} {H:GH} {r r1 r2 sz s1 s2:Nat} {gs:List GV} (j1 j2:Nat) (hg:gs[j1]? = some (.val (.slice none 0 0))) (ho:r1 % 4=1) (hn:r1∉names ((r,sz,[.agg gs])::H))
 (hg2:(gs.set j1 (.own r1 s1 0 0))[j2]? = some (.val (.slice none 0 0))) (ho2:r2 % 4=1) (hn2:r2∉names ((r,sz,[.agg gs])::(r1,s1,[])::H)) :
 FE env ((r,sz,[.agg gs])::H) env ((r1,s1,[])::(r2,s2,[])::(r,sz,[.agg ((gs.set j1 (.own r1 s1 0 0)).set j2 (.own r2 s2 0 0))])::H):=by
 refine FE.trans (FE.virt1 (sz1:=s1) j1 hg ho hn) (FE.trans FE.swap (FE.trans (FE.virt1 (sz1:=s2) j2 hg2 ho2 (by simpa[names] using hn2)) ?_))
 exact FE.perm (H:=[_,_,_]) (L:=[(r1,s1,[]),(r2,s2,[]),_]) (by
  have h1:¬r1=r:=by simp[names] at hn;exact hn.1
  have h2:¬r2=r∧¬r2=r1:=by simp[names] at hn2;exact ⟨hn2.1,hn2.2.1⟩
  have h3:¬r1=r2:=fun h=>h2.2 h.symm
  have h4:¬r=r1:=fun h=>h1 h.symm
  have h5:¬r=r2:=fun h=>h2.1 h.symm
  simp[subH,Z7,names,h1,h2.1,h2.2,h3,h4,h5])
end Go.Gh
namespace Go.Gh
open Lib
abbrev bA (l:List UInt8):ByteArray:=⟨l.toArray⟩
theorem map_chA (ls:List (List UInt8)):(ls.map bA).map Z9=ls:=by
 rw[List.map_map]
 exact (List.map_congr_left fun l _ => chA l).trans (List.map_id ls)
theorem map_eta (xs:List ByteArray):(xs.map Z9).map bA=xs:=by
 rw[List.map_map]
 exact (List.map_congr_left fun l _ => chars_eta l).trans (List.map_id xs)
theorem slice_drop (l:List UInt8) (i n:Nat):(l.take (i+n)).drop i=(l.drop i).take n:=by
 rw[List.drop_take,Nat.add_sub_cancel_left]
theorem occA_eq {l p:List UInt8} {i:Nat} (h:i+p.length≤l.length):occAt l p i=decide ((l.take (i+p.length)).drop i=p):=by
 rw[occAt_iff_take _ _ _ h,slice_drop,Bool.eq_iff_iff]
 simp
theorem occA_no {l p:List UInt8} {i:Nat} (hp:p≠[]) (h:l.length<i+p.length):occAt l p i=false:=by
 rw[Bool.eq_false_iff]
 intro ho
 rcases occAt_room ho with h1|h1
 ·omega
 ·exact hp h1
theorem cut_hit {l p:List UInt8} {i:Nat} (hi:i+p.length≤l.length) (h:∀j,j<i→occAt l p j=false) (he:occAt l p i=true):cut l p=(l.take i,l.drop (i+p.length),true):=by
 unfold cut
 rw[index_first oT he h,if_pos oT,Int.toNat_natCast]
theorem cut_miss {l p:List UInt8} (h:∀j,j≤l.length→occAt l p j=false):cut l p=(l,[],false):=by
 unfold cut
 rw[index_none h]
 rfl
theorem XM (l p:List UInt8):(cut l p).1.length ≤ l.length∧(cut l p).2.1.length ≤ l.length:=by
 unfold cut
 split
 ·simp only[List.length_take,List.length_drop];omega
 ·simp
def spP (b:UInt8) (l:List UInt8) (i k:Nat) (out:List (List UInt8)):Prop:=
 (i≤l.length∧k≤i∧b∉(l.take i).drop k∧spl b l=out++spl b (l.drop k))∨(i=l.length+1∧out=spl b l)
theorem sp_init (b:UInt8) (l:List UInt8):spP b l 0 0 []:= .inl ⟨Nat.zero_le _,Nat.le_refl _,by simp,by simp⟩
theorem sp_le {b:UInt8} {l:List UInt8} {i k:Nat} {out:List (List UInt8)} (h:spP b l i k out):out.length≤l.length+1∧i≤l.length+1:=by
 have hl:=Xz (b:=b) l
 rcases h with ⟨h1,_,_,h4⟩|⟨h1,h2⟩
 ·have:=congrArg List.length h4
  rw[List.length_append] at this
  omega
 ·subst h2;omega
theorem sp_no {b:UInt8} {l:List UInt8} {i k:Nat} {out:List (List UInt8)} (h:spP b l i k out) (hi:i<l.length) (hb:l[i]≠b):spP b l (i+1) k out:=by
 rcases h with ⟨h1,h2,h3,h4⟩|⟨h1,_⟩
 ·refine .inl ⟨hi,oT,?_,h4⟩
  rw[List.take_succ_eq_append_getElem hi,List.drop_append_of_le_length (by rw[List.length_take];omega),List.mem_append]
  rintro (h5|h5)
  ·exact h3 h5
  ·exact hb (List.mem_singleton.1 h5).symm
 ·omega
theorem sp_piece {b:UInt8} {l:List UInt8} {i k:Nat} (h1:i≤l.length) (h2:k≤i):l.drop k=(l.take i).drop k++l.drop i:=by
 rw[←List.drop_append_of_le_length (by rw[List.length_take];omega),List.take_append_drop]
theorem sp_yes {b:UInt8} {l:List UInt8} {i k:Nat} {out:List (List UInt8)} (h:spP b l i k out) (hi:i<l.length) (hb:l[i]=b):k≤i∧spP b l (i+1) (i+1) (out++[(l.take i).drop k]):=by
 rcases h with ⟨h1,h2,h3,h4⟩|⟨h1,_⟩
 ·refine ⟨h2,.inl ⟨hi,Nat.le_refl _,by simp,?_⟩⟩
  rw[h4,sp_piece (b:=b) h1 h2,List.drop_eq_getElem_cons hi,hb,XZ h3]
  simp
 ·omega
theorem sp_end {b:UInt8} {l:List UInt8} {k:Nat} {out:List (List UInt8)} (h:spP b l l.length k out):k≤l.length∧spP b l (l.length+1) (l.length+1) (out++[(l.take l.length).drop k]):=by
 rcases h with ⟨h1,h2,h3,h4⟩|⟨h1,_⟩
 ·refine ⟨h2,.inr ⟨rfl,?_⟩⟩
  rw[h4,List.take_length]
  rw[List.take_length] at h3
  rw[spl_one h3]
 ·omega
theorem sp_out {b:UInt8} {l:List UInt8} {k:Nat} {out:List (List UInt8)} (h:spP b l (l.length+1) k out):out=spl b l:=by
 rcases h with ⟨h1,_⟩|⟨_,h1⟩
 ·omega
 ·exact h1
theorem XS {b:UInt8}:∀{l w:List UInt8},w∈spl b l→w.length≤l.length
 | [],w,h=>by simp only[spl,List.mem_singleton] at h;subst h;exact Nat.le_refl _
 | c::l,w,h=>by
  simp only[spl] at h
  split at h
  ·rcases List.mem_cons.1 h with rfl|h
   ·simp
   ·have:=XS h;simp only[List.length_cons];omega
  ·split at h
   ·rename_i h2;exact absurd h2 (spl_ne b l)
   ·rename_i x xs h2
    rcases List.mem_cons.1 h with rfl|h
    ·have:=XS (b:=b) (l:=l) (w:=x) (by rw[h2];exact List.mem_cons_self)
     simp only[List.length_cons];omega
    ·have:=XS (b:=b) (l:=l) (w:=w) (by rw[h2];exact List.mem_cons_of_mem _ h)
     simp only[List.length_cons];omega
theorem join_mono (sep : List UInt8) {l : List (List UInt8)} : ∀ {i j : Nat}, i ≤ j → j ≤ l.length → (Zx sep (l.take i)).length ≤ (Zx sep (l.take j)).length := by
  intro i j hij hj
  induction j with
  | zero => obtain rfl : i = 0 := by omega
            exact Nat.le_refl _
  | succ j ih =>
    rcases Nat.lt_or_ge j i with h | h
    · obtain rfl : i = j + 1 := by omega
      exact Nat.le_refl _
    · have := ih h oT
      rw [join_take sep (show j < l.length by omega)]
      split
      · rename_i h0
        subst h0
        obtain rfl : i = 0 := by omega
        simp [join_nil]
      · simp only [List.length_append]; omega
theorem jn_join:∀ws:List (List UInt8),Zx [32] ws=jn ws
 | []=>rfl
 | w::ws=>by simp[Zx,Lib.join_cons,joinTail,jn,List.flatMap]
theorem jn_drop:∀(k:Nat) (ws:List (List UInt8)),(jn (ws.drop k)).length ≤ (jn ws).length
 | 0,ws=>by simp
 | k+1,[]=>by simp
 | k+1,[w]=>by simp[jn]
 | k+1,w::x::ws=>by
  have:=jn_drop k (x::ws)
  rw[List.drop_succ_cons]
  refine Nat.le_trans this ?_
  simp only[jn,List.flatMap_cons,List.length_append,List.length_cons]
  omega
def hdP (D:List (List UInt8)) (k:Nat) (right:List (List UInt8)) (lit:Bool):Prop:=
 (k<D.length∧right=D.take k∧lit=false)∨(k=D.length∧right=(if D.getLast?=some litW then D.dropLast else D)∧lit=decide (D.getLast?=some litW))
theorem hd_init (D:List (List UInt8)):hdP D 0 [] false:=by
 cases D with
 | nil=>exact .inr ⟨rfl,by simp,by simp⟩
 | cons w D=>exact .inl ⟨by simp,by simp,rfl⟩
theorem hd_lit {D:List (List UInt8)} {k:Nat} {right:List (List UInt8)} {lit:Bool} (h:hdP D k right lit) (hk:k<D.length) (h1:D[k]=litW) (h2:k+1=D.length):hdP D (k+1) right true:=by
 rcases h with ⟨_,h3,_⟩|⟨h3,_⟩
 ·have hl:D.getLast?=some litW:=by rw[List.getLast?_eq_getElem?,←h2,Nat.add_sub_cancel,List.getElem?_eq_getElem hk,h1]
  refine .inr ⟨h2,?_,?_⟩
  ·rw[if_pos hl,h3,List.dropLast_eq_take,←h2,Nat.add_sub_cancel]
  ·rw[decide_eq_true hl]
 ·omega
theorem hd_word {D:List (List UInt8)} {k:Nat} {right:List (List UInt8)} {lit:Bool} (h:hdP D k right lit) (hk:k<D.length) (h1:¬(D[k]=litW∧k+1=D.length)):hdP D (k+1) (right++[D[k]]) lit:=by
 rcases h with ⟨_,h3,h4⟩|⟨h3,_⟩
 ·have e:right++[D[k]]=D.take (k+1):=by rw[h3,List.take_succ_eq_append_getElem hk]
  rcases Nat.lt_or_ge (k+1) D.length with h5|h5
  ·exact .inl ⟨h5,e,h4⟩
  ·have h6:k+1=D.length:=by omega
   have hl:¬D.getLast?=some litW:=by
    rw[List.getLast?_eq_getElem?,←h6,Nat.add_sub_cancel,List.getElem?_eq_getElem hk]
    intro he
    exact h1 ⟨Option.some.inj he,h6⟩
   refine .inr ⟨h6,?_,?_⟩
   ·rw[if_neg hl,e,h6,List.take_length]
   ·rw[decide_eq_false hl,h4]
 ·omega
theorem hd_out {D:List (List UInt8)} {right:List (List UInt8)} {lit:Bool} (h:hdP D D.length right lit):right=(if D.getLast?=some litW then D.dropLast else D)∧lit=decide (D.getLast?=some litW):=by
 rcases h with ⟨h,_⟩|⟨_,h⟩
 ·omega
 ·exact h
theorem hd_le {D:List (List UInt8)} {k:Nat} {right:List (List UInt8)} {lit:Bool} (h:hdP D k right lit):right.length≤D.length∧k≤D.length:=by
 rcases h with ⟨h1,h2,_⟩|⟨h1,h2,_⟩
 ·rw[h2,List.length_take];omega
 ·rw[h2]
  split
  ·rw[List.length_dropLast];omega
  ·omega
theorem fil_step {α β:Type} {p:α→Bool} {f:α→β} {l:List α} {i:Nat} (h:i<l.length):((l.take (i+1)).filter p).map f=((l.take i).filter p).map f++if p l[i]=true then [f l[i]] else []:=by
 rw[List.take_succ_eq_append_getElem h,List.filter_append,List.map_append]
 congr 1
 simp only[List.filter_cons,List.filter_nil]
 split<;>simp_all
theorem okE_names {e:Exp} (h:okE e):e.name.size≤maxLen:=by
 cases e
 simp only[okE] at h
 exact h.2.1
theorem rqS_sz (l:List UInt8) (h:l.length≤1048576):okEq (rqS l)∧smEq (rqS l):=by
 have h2:=parV_sz (cut l dfT).2.1
 have h1:=parV_sz ((cut l dfT).1.drop 3)
 unfold rqS
 split
 ·refine ⟨⟨?_,h2.1⟩,h2.2⟩
  exact (okE_names h1.1)
 ·exact ⟨⟨by show noS.size≤maxLen;decide,h2.1⟩,h2.2⟩
theorem bA_sz {l:List UInt8} (h:l.length≤1048576):(bA l).size ≤ maxLen:=by
 have:(bA l).size = l.length:=by rw[ZD,chA]
 rw[this]
 simp only[maxLen]
 omega
theorem hd_mem {α:Type} {l:List (List α)} {n:Nat} (h:∀w∈l,w.length≤n):(l.headD []).length ≤ n∧(l.getLastD []).length ≤ n∧∀k,(l.getD k []).length ≤ n:=by
 refine ⟨?_,?_,fun k=> ?_⟩
 ·cases l with
  | nil=>simp
  | cons w l=>exact h w (by simp)
 ·rw[List.getLastD_eq_getLast?]
  cases h2:l.getLast? with
  | none=>simp
  | some w=>exact h w (List.mem_of_getLast? h2)
 ·rw[List.getD_eq_getElem?_getD]
  cases h2:l[k]? with
  | none=>simp
  | some w=>exact h w (List.mem_of_getElem? h2)
theorem rcS_sz (l:List UInt8) (h:l.length≤1048576):okCo (rcS l)∧smCo (rcS l):=by
 have hc:=XM l dfT
 have hz:okE expZ∧wEx expZ≤1048576:=⟨(YB 0 0 0 0).1,by rw[show expZ = .mk 0 0 0 0 noS noS [] from rfl,(YB 0 0 0 0).2];omega⟩
 have hn:noS.size≤maxLen:=by decide
 unfold rcS
 split
 ·exact ⟨⟨hn,hn,hz.1,hz.1⟩,hz.2,hz.2⟩
 ·have h1:∀w∈spl 32 (cut l dfT).1,w.length≤1048576:=fun w hw=>Nat.le_trans (XS hw) oT
  have h2:∀w∈spl 46 ((spl 32 (cut l dfT).1).getD 1 []),w.length≤1048576:=fun w hw=>Nat.le_trans (XS hw) ((hd_mem h1).2.2 1)
  have p1:=parV_sz (jn ((spl 32 (cut l dfT).1).drop 3))
  have p2:=parV_sz (cut l dfT).2.1
  exact ⟨⟨bA_sz (hd_mem h2).1,bA_sz (hd_mem h2).2.1,p1.1,p2.1⟩,p1.2,p2.2⟩
theorem lit_mem {D:List (List UInt8)}:∀w∈(if D.getLast?=some litW then D.dropLast else D),w∈D:=fun w hw=>by
 split at hw
 ·exact List.dropLast_subset D hw
 ·exact hw
theorem rhS_sz (l:List UInt8) (h:l.length≤1048576):(rhS l).name.size ≤ maxLen∧(rhS l).left.size ≤ maxLen∧(∀s∈(rhS l).right,s.size≤maxLen)∧(rhS l).right.length ≤ 1048576:=by
 have hn:noS.size≤maxLen:=by decide
 have h1:∀w∈spl 32 l,w.length≤1048576:=fun w hw=>Nat.le_trans (XS hw) oT
 have h2:=Xz (b:=32) l
 unfold rhS
 split
 ·refine ⟨hn,hn,?_,?_⟩
  ·intro s hs
   cases hs
  ·show (0:Nat) ≤ _
   omega
 ·refine ⟨bA_sz ((hd_mem h1).2.2 1),bA_sz ((hd_mem h1).2.2 2),?_,?_⟩
  ·intro s hs
   obtain ⟨w,hw,rfl⟩:=List.mem_map.1 hs
   exact bA_sz (h1 w (List.mem_of_mem_drop (lit_mem w hw)))
  ·rw[List.length_map]
   split
   ·rw[List.length_dropLast,List.length_drop];omega
   ·rw[List.length_drop];omega
theorem bor_coZ {H:GH}:Bor H (.agg [T noS,T noS,I 0,I 0,I 0,I 0,T noS,T noS,.val (.slice none 0 0),I 0,I 0,I 0,I 0,T noS,T noS,.val (.slice none 0 0)]) (Co ⟨noS,noS,expZ,expZ⟩):=
 .agg (.cons .refl (.cons .refl (.cons .refl (.cons .refl (.cons .refl (.cons .refl (.cons .refl (.cons .refl (.cons .nil (.cons .refl (.cons .refl (.cons .refl (.cons .refl (.cons .refl (.cons .refl (.cons .nil .nil))))))))))))))))
theorem bor_ruZ {H:GH}:Bor H (.agg [T noS,T noS,.val (.slice none 0 0),B false,.val (.slice none 0 0),.val (.slice none 0 0)]) (Ru rulZ):=
 .agg (.cons .refl (.cons .refl (.cons .nil (.cons .refl (.cons .nil (.cons .nil .nil))))))
theorem rul_names {r:Rul} (h:Zw r=true):(Z9 r.name).length ≤ 8∧(Z9 r.left).length ≤ 8∧∀s∈r.right,(Z9 s).length ≤ 8:=by
 simp only[Zw,Bool.and_eq_true,List.all_eq_true,decide_eq_true_eq] at h
 exact ⟨Yw h.1,Yw h.2.1,fun s hs=>Yw (h.2.2.2.2.1 s hs)⟩
def hdW (r:Rul) (i:Nat):List UInt8:=[114,117,108,101,32]++Z9 r.name++[32]++Z9 r.left++[32,58]++((r.right.take i).map Z9).flatMap (32 :: ·)
theorem hdW_zero (r:Rul):[114,117,108,101,32]++Z9 r.name++[32]++Z9 r.left++[32,58]=hdW r 0:=by simp[hdW]
theorem hdW_succ {r:Rul} {i:Nat} (h:i<r.right.length):hdW r (i+1)=hdW r i++[32]++Z9 r.right[i]:=by
 unfold hdW
 rw[List.take_succ_eq_append_getElem h,List.map_append,List.flatMap_append]
 simp only[List.map_cons,List.map_nil,List.flatMap_cons,List.flatMap_nil,List.append_nil,List.append_assoc,List.singleton_append]
theorem hdW_len {r:Rul} (h:Zw r=true) (i:Nat):(hdW r i).length ≤ 60:=by
 obtain ⟨h1,h2,h3⟩:=rul_names h
 have h4:=(XD h).1
 have h5:∀(l:List ByteArray),(∀s∈l,(Z9 s).length ≤ 8)→((l.map Z9).flatMap (32 :: ·)).length ≤ 9 * l.length:=by
  intro l
  induction l with
  | nil=>intro _;simp
  | cons x l ih=>
   intro hl
   have a1:=hl x (by simp)
   have a2:=ih fun s hs=>hl s (by simp[hs])
   simp only[List.map_cons,List.flatMap_cons,List.length_append,List.length_cons] at a2 ⊢
   omega
 have h6:=h5 (r.right.take i) fun s hs=>h3 s (List.mem_of_mem_take hs)
 have h7:(r.right.take i).length ≤ 3:=by rw[List.length_take];omega
 simp only[hdW,List.length_append,List.length_cons,List.length_nil]
 omega
theorem hdW_end (r:Rul):hdT r=hdW r r.right.length++if r.lit then [32,108,105,116] else []:=by
 have e:∀(a b:List UInt8) (R:List (List UInt8)),[114,117,108,101]++([a,b,[58]]++R).flatMap (32 :: ·)=[114,117,108,101,32]++a++[32]++b++[32,58]++R.flatMap (32 :: ·):=fun a b R=>by
  rw[List.flatMap_append]
  simp
 unfold hdT hdW
 rw[List.take_length,e,List.flatMap_append,←List.append_assoc]
 congr 1
 rcases r.lit with _ | _ <;> rfl
theorem eqT_as (q:Eqn):[101,113,32,36]++itoa q.pos++[46]++Z9 q.name++[32,58,61,32]++ZZ q.expr=eqT q:=by simp[eqT]
theorem vE_len {e:Exp} (h:Zh e=true):(ZZ e).length ≤ 2880:=by
 have h1:=XR e (X8 h)
 simp only[Zh,Bool.and_eq_true,decide_eq_true_eq] at h
 omega
theorem vE_cnt {e:Exp} (h:Zh e=true):Zl e≤1000:=by
 simp only[Zh,Bool.and_eq_true,decide_eq_true_eq] at h
 omega
theorem rdS_sz {h:List UInt8} {t:List (List UInt8)} (hh:h.length≤1048576) (ht:t.length≤1048576) (hl:∀l∈t,l.length≤1048576):okRu (rdS h t)∧smRu (rdS h t):=by
 obtain ⟨h1,h2,h3,h4⟩:=rhS_sz h hh
 have e1:∀q∈(rdS h t).eqs,okEq q∧smEq q:=fun q hq=>by
  obtain ⟨l,hl2,rfl⟩:=List.mem_map.1 hq
  exact rqS_sz l (hl l (List.mem_filter.1 hl2).1)
 have e2:∀c∈(rdS h t).cons,okCo c∧smCo c:=fun c hc=>by
  obtain ⟨l,hl2,rfl⟩:=List.mem_map.1 hc
  exact rcS_sz l (hl l (List.mem_filter.1 hl2).1)
 have l1:(rdS h t).eqs.length ≤ 1048576:=by
  show ((t.filter isEq).map rqS).length ≤ _
  rw[List.length_map]
  exact Nat.le_trans (List.length_filter_le _ _) ht
 have l2:(rdS h t).cons.length ≤ 1048576:=by
  show ((t.filter fun l=> !isEq l).map rcS).length ≤ _
  rw[List.length_map]
  exact Nat.le_trans (List.length_filter_le _ _) ht
 exact ⟨⟨h1,h2,h3,fun q hq=>(e1 q hq).1,fun c hc=>(e2 c hc).1⟩,h4,l1,l2,fun q hq=>(e1 q hq).2,fun c hc=>(e2 c hc).2⟩
abbrev RuN (x:Rul):GV:= .agg [T x.name,T x.left,TS x.right,B x.lit,ZI,ZI]
theorem bor_ruN {H:GH}:Bor H (.agg [T noS,T noS,ZI,B false,ZI,ZI]) (RuN rulZ):=
 .agg (.cons .refl (.cons .refl (.cons .nil (.cons .refl (.cons .refl (.cons .refl .nil))))))
theorem bA_inj {X:List (List UInt8)} {ls:List ByteArray}:X.map bA=ls↔X=ls.map Z9:=by
 constructor
 ·rintro rfl;rw[map_chA]
 ·rintro rfl;rw[map_eta]
def eqsS (t:List (List UInt8)) (i:Nat):List Eqn:=((t.take i).filter isEq).map rqS
def consS (t:List (List UInt8)) (i:Nat):List Con:=((t.take i).filter fun l=> !isEq l).map rcS
theorem eqsS_eq {t:List (List UInt8)} {i:Nat} (h:i<t.length) (he:isEq t[i]=true):eqsS t (i+1)=eqsS t i++[rqS t[i]]∧consS t (i+1)=consS t i:=by
 unfold eqsS consS
 rw[fil_step h,fil_step h,he]
 simp
theorem eqsS_co {t:List (List UInt8)} {i:Nat} (h:i<t.length) (he:isEq t[i]=false):eqsS t (i+1)=eqsS t i∧consS t (i+1)=consS t i++[rcS t[i]]:=by
 unfold eqsS consS
 rw[fil_step h,fil_step h,he]
 simp
theorem eqsS_len (t:List (List UInt8)) (i:Nat):(eqsS t i).length ≤ t.length∧(consS t i).length ≤ t.length:=by
 unfold eqsS consS
 rw[List.length_map,List.length_map]
 exact ⟨Nat.le_trans (List.length_filter_le _ _) (by rw[List.length_take];omega),Nat.le_trans (List.length_filter_le _ _) (by rw[List.length_take];omega)⟩
theorem rdS_end (h:List UInt8) (t:List (List UInt8)):rdS h t={ rhS h with eqs:=eqsS t t.length,cons:=consS t t.length }:=by
 unfold eqsS consS rdS
 rw[List.take_length]
end Go.Gh
namespace Go.Gh
open Lib
theorem HM.tabE {P:Program} {W:World} {n m:Nat} {s s2:String} (hg:P.globalNamed s=some n) (h:TabIs P W s .u64 pow10Tab) (hg2:P.globalNamed s2=some m) (h2:∃u v,W.var? P s2=some #[.iface u v]):HM W (Yt W) (tabE n m) []:=by
 obtain ⟨F1,F2,hF,h1,h3⟩:=HM.tab10 hg h
 refine ⟨[],[],rfl,?_,[],[],rfl,.inr ⟨⟨oT,fun _ _ => ?_⟩,rfl,rfl⟩,rfl⟩
 ·obtain ⟨rfl,rfl⟩:=List.append_eq_nil_iff.1 hF.symm
  exact h1
 ·have e:(4 * m+3) / 4=m:=by omega
  obtain ⟨u,v,h2⟩:=h2
  simp only[World.var?,hg2,Option.bind_some] at h2
  unfold TB
  rw[e]
  split at h2
  case h_2=>cases h2
  rename_i c T fz hb
  simp only[Option.some.injEq] at h2
  refine ⟨lt_of_heap hb,c,T,fz,hb,?_⟩
  rw[h2]
  simp only[tabP]
  rw[if_neg (by decide),if_neg (by decide),if_neg (by decide)]
  exact ⟨u,v,rfl⟩
theorem ifcTrod {H:Type} {enc:TypeId×Value→H} {P:Program} {w:World} {base:Nat} {sp:Nat→Bool} {fuel:Nat} {t:TypeId} {cs:List Value} {n:String} {d:DataW H} {p:List MemPlace}
 (ht:∃x,P.underlying t=some (.interface x)) (h:DataW.trod enc P w base sp false fuel t cs=some (.iface n d,p)):∃u v,cs=[.iface u v]:=by
 obtain ⟨x,ht⟩:=ht
 cases fuel with
 | zero=>simp[DataW.trod] at h
 | succ fuel=>
  simp only[DataW.trod,ht] at h
  split at h<;>first|exact ⟨_,_,rfl⟩|cases h|(exfalso;simp_all;done)|skip
  all_goals trace_state
end Go.Gh
namespace Go.Gh
open Lib Go.RowKit
def tabF (a b c d:Nat):GH:=[(4 * a+3,1000000,[]),(4 * b+3,1000001,[]),(4 * c+3,1000001,[]),(4 * d+3,1000002,[])]
theorem tabF_ok (a b c d:Nat):∀x∈tabF a b c d,x.2.2=[]∧x.1 % 4=3:=fun x hx=>by
 simp only[tabF,List.mem_cons,List.not_mem_nil,or_false] at hx
 rcases hx with rfl|rfl|rfl|rfl<;>exact ⟨rfl,by dsimp only;omega⟩
theorem tabH_F {a b c d:Nat} (h:[a,b,c,d].Nodup):tabH (tabF a b c d):=⟨by
 simp only[List.nodup_cons,List.mem_cons,List.not_mem_nil,or_false,not_or,List.nodup_nil,not_false_eq_true,and_true] at h
 simp[tabF,names];omega,fun x hx=>by
 simp only[tabF,List.mem_cons,List.not_mem_nil,or_false] at hx
 rcases hx with rfl|rfl|rfl|rfl<;>exact ⟨by dsimp only;omega,by dsimp only;omega,rfl⟩⟩
theorem tabF_10 (a b c d:Nat):∀x∈tab10 a,x∈tabF a b c d:=fun x hx=>by simp only[tab10,List.mem_singleton] at hx;subst hx;simp[tabF]
theorem tabF_E (a b c d:Nat):∀x∈tabE a c,x∈tabF a b c d:=fun x hx=>by
 simp only[tabE,List.mem_cons,List.not_mem_nil,or_false] at hx
 rcases hx with rfl|rfl<;>simp[tabF]
theorem HM.isM {w:World} {D:Nat→Prop} {m:Nat} {H:GH} {Ω:List Nat} (h:HM w D H Ω) (hn:(names H).Nodup) (hm:(4 * m+3,1000002,[])∈H):∃n:Int,w.cell? ⟨m,0,none⟩=some (.int .i64 n):=by
 obtain ⟨F,hF,_⟩:=h.mem (Xx hn hm)
 have e:(4 * m+3) / 4=m:=by omega
 rcases hF with ⟨b,c,T,fz,F',k1,_⟩|hF
 ·dsimp only at k1;omega
 ·obtain ⟨_,c,T,fz,h1,h2⟩:=hF.1.2 (by dsimp only;omega) (by dsimp only;omega)
  dsimp only at h1 h2
  rw[e] at h1
  unfold tabP at h2
  rw[if_neg oT,if_pos rfl] at h2
  obtain ⟨n,h2⟩:=h2
  refine ⟨n,?_⟩
  unfold World.cell?
  rw[h1]
  exact h2
theorem MV.tup3 {w:World} {D:Nat→Prop} (a b c:Value):MV w D (.tup [.val a,.val b,.val c]) (.tuple #[a,b,c]) []:=by
 simp only[MV]
 exact ⟨[a,b,c],rfl,by simp only[ML,MV];exact ⟨a,[b,c],[],[],rfl,rfl,⟨rfl,rfl⟩,b,[c],[],[],rfl,rfl,⟨rfl,rfl⟩,c,[],[],[],rfl,rfl,⟨rfl,rfl⟩,rfl,rfl⟩⟩
theorem below_drew {w:World} (n:Nat):Below w.heap.size w (w.drewN n):=⟨rfl,rfl,rfl,Nat.le_refl _,fun _ _ => rfl⟩
theorem ml2 {w:World} {D:Nat→Prop} {a b:Value} {vs:List Value} (h:ML w D [.val a,.val b] vs []):vs=[a,b]:=by
 simp only[ML,MV] at h
 obtain ⟨v,vs',F1,F2,rfl,_,⟨rfl,_⟩,v2,vs2,F3,F4,rfl,_,⟨rfl,_⟩,rfl,_⟩:=h
 rfl
theorem ml3 {w:World} {D:Nat→Prop} {a b c:Value} {vs:List Value} (h:ML w D [.val a,.val b,.val c] vs []):vs=[a,b,c]:=by
 simp only[ML,MV] at h
 obtain ⟨v,vs',F1,F2,rfl,_,⟨rfl,_⟩,v2,vs2,F3,F4,rfl,_,⟨rfl,_⟩,v3,vs3,F5,F6,rfl,_,⟨rfl,_⟩,rfl,_⟩:=h
 rfl
theorem ml1 {w:World} {D:Nat→Prop} {a:Value} {vs:List Value} (h:ML w D [.val a] vs []):vs=[a]:=by
 simp only[ML,MV] at h
 obtain ⟨v,vs',F1,F2,rfl,_,⟨rfl,_⟩,rfl,_⟩:=h
 rfl
theorem lib_own {P:Program} {T:GH} (hT:tabH T) {f:Nat} {gs:List GV} {sz:Nat} {R:List GV→Prop}
 (hc:∀(w:World) (D:Nat→Prop) (vs:List Value),HM w D T []→(names T).Nodup → ML w D gs vs []→Calls P f vs.toArray w fun e w'=>∃es cells ty cap,e = .returned (.slice (some ⟨w.heap.size,0,none⟩) es.length cap)∧w'=w.alloc (.cells cells ty)∧R es ∧
  es.length≤cap∧es.length≤Y1∧cap * sz≤cells.size∧MF w D sz es (cells.toList.take (es.length * sz)) [])
 (eg:∀args w,(callFunc f args).run P w = .ok (.enter f args) w) {H:GH} (hs:∀x∈T,x∈H):GCalls P f gs H (fun g H'=>∃r es,R es∧g = .own r sz 0 es.length∧H'=(r,sz,es)::H):=by
 intro w D Ω vs hst hargs
 rw[eg]
 show Calls P f _ w _
 refine (hc w D vs (HM.tabs hst.hm hst.nn hT.2 hs) hT.1 hargs).mono ?_
 rintro e w' ⟨es,cells,ty,cap,rfl,rfl,hR,hcap,hmx,hsz,hmf⟩
 have h1:es.length * sz≤cells.size:=Nat.le_trans (Nat.mul_le_mul_right _ hcap) hsz
 obtain ⟨c1,c2⟩:=hst.allocOwn cells ty sz es h1 hmx hmf
 refine ⟨_,rfl,_,_,D,_,⟨_,es,hR,rfl,rfl⟩,?_,c1,c2⟩
 simp only[MV]
 exact ⟨trivial,.inl ⟨w.heap.size,cap,_,ty,(0,0),rfl,by simp,hcap,hp_new w _,by rw[Nat.zero_add];exact hsz⟩⟩
theorem mf_str {w:World} {D:Nat→Prop}:∀(xs:List ByteArray),MF w D 1 (xs.map T) (xs.map Value.string) []
 | []=>by simp[MF]
 | x::xs=>by
  simp only[List.map_cons,MF]
  refine ⟨.string x,xs.map Value.string,[],[],rfl,rfl,?_,rfl,by simp[MV],mf_str xs⟩
  intro y hy
  have:y = .string x:=by simpa[Value.cells] using hy
  subst this
  rfl
theorem cut_le4 {s:ByteArray} (h:(Z9 s).length ≤ 1048576):s.size<4294967281:=by rw[ZD];omega
theorem hasPr_pre (s p:List UInt8):hasPr s p=p.isPrefixOf s:=by
 unfold hasPr
 by_cases h:p.length≤s.length
 ·rw[decide_eq_true h,Bool.true_and,Bool.eq_iff_iff,decide_eq_true_eq,List.isPrefixOf_iff_prefix,List.prefix_iff_eq_take]
  exact eq_comm
 ·rw[decide_eq_false h,Bool.false_and]
  symm
  rw[Bool.eq_false_iff]
  intro h2
  exact h (List.isPrefixOf_iff_prefix.1 h2).length_le
theorem trim_eq (s p:List UInt8):Lib.trimPrefix s p=Y6 p s:=by
 unfold Lib.trimPrefix Lib.hasPrefix Y6
 rfl
theorem trim_len (p l:List UInt8):(Y6 p l).length ≤ l.length:=by
 unfold Y6
 split
 ·rw[List.length_drop];omega
 ·omega
theorem splitB_pieces {sep s:ByteArray} {save k:Nat}:(splitB sep save k s)=(splitK (Z9 sep) save k (Z9 s)).map bA:=by
 rw[←splitB_data,List.map_map]
 exact ((List.map_congr_left fun x _ => chars_eta x).trans (List.map_id _)).symm
theorem splitK_mem {sep:List UInt8}:∀{k:Nat} {s w:List UInt8},w∈splitK sep 0 k s→w.length≤s.length
 | 0,s,w,h=>by simp only[splitK,List.mem_singleton] at h;subst h;exact Nat.le_refl _
 | k+1,s,w,h=>by
  simp only[splitK] at h
  split at h
  ·rw[List.mem_singleton] at h;subst h;exact Nat.le_refl _
  ·rcases List.mem_cons.1 h with rfl|h
   ·rw[List.length_take];omega
   ·have:=splitK_mem h
    rw[List.length_drop] at this;omega
theorem splitK_len {sep:List UInt8}:∀(k:Nat) (s:List UInt8),(splitK sep 0 k s).length ≤ k+1∧1≤(splitK sep 0 k s).length
 | 0,s=>by simp[splitK]
 | k+1,s=>by
  simp only[splitK]
  split
  ·simp
  ·have:=splitK_len (sep:=sep) k (s.drop ((index s sep).toNat + sep.length))
   simp only[List.length_cons];omega
theorem atoi_itoa {n:Int} (h0 : -1000000000000≤n) (h1:n≤1000000000000):atoiAll (itoa n) = .ok n:=by
 by_cases h:n<0
 ·have e:itoa n=45::decDigits n.natAbs:=by
   unfold itoa
   rw[if_pos h]
  have hd:=dec_dig n.natAbs
  have hp:=(parse_digs (decDigits n.natAbs) 0 hd.1 (by decide)).1
  have ev:(decDigits n.natAbs).foldl (fun n c=>10 * n+((c.toNat:Int)-48)) ((0:Nat):Int)=(n.natAbs:Int):=valD_dec n.natAbs
  rw[ev] at hp
  obtain ⟨u,hu,hv⟩:=hp oT
  rw[e,atoiAll_minus]
  unfold parseMag
  rw[if_neg hd.2,hu]
  simp only[signed]
  rw[if_neg oT]
  congr 1
  omega
 ·rw[XO oT]
  have hd:=dec_dig n.toNat
  have hv:=valD_dec n.toNat
  have:=(atoi_digs hd.1 hd.2).1 (by rw[hv];omega)
  rw[this,hv]
  congr 1
  omega
theorem rdN_ok {lo hi v:Int} {l:List UInt8} (h0 : -1000000000000≤lo) (h1:hi≤1000000000000) (h:atoiAll l = .ok v):rdN lo hi l=if (lo≤v∧v≤hi)∧itoa v=l then (v,true) else (0,false):=by
 split
 ·rename_i h2
  rw[←h2.2]
  exact rdN_itoa h2.1.1 h2.1.2
 ·rename_i h2
  refine rdN_no fun n h3 h4 h5=>h2 ?_
  have:=atoi_itoa (n:=n) oT oT
  rw[h5,h] at this
  cases this
  exact ⟨⟨h3,h4⟩,h5⟩
theorem rdN_bad {lo hi:Int} {l:List UInt8} (h0 : -1000000000000≤lo) (h1:hi≤1000000000000) (h:∀v,atoiAll l ≠ .ok v):rdN lo hi l=(0,false):=
 rdN_no fun n h3 h4 h5=>h n (by rw[←h5];exact atoi_itoa oT oT)
def atoX (l:List UInt8) (g:GV):Prop:=(∃v:Int,atoiAll l = .ok v∧g = .tup [I v,.val .nilIface])∨((∀v,atoiAll l ≠ .ok v)∧∃n t p,g = .tup [I n,.val (.iface t p)])
end Go.Gh
namespace Go.Gh
open Lib
theorem callS.lendT {P:Program} {f:FuncId} {gs gs':List GV} {R:GV→GH→Prop} {H T:GH} {K:Env→GH→Prop} {is:List GI} {env:Env} {d:Option Nat} (h:∀H0,(∀x∈T,x∈H0)→GCalls P f gs' H0 (fun g H'=>∃H1,R g H1∧H'=H1++H0)) (hT:tabH T) (hs:∀x∈T,x∈H) (hb:BorL H gs gs')
 (hR:∀g H1,R g H1→noD g=true∧noDH H1=true) (hk:∀g H1,R g H1→(names (H1++H)).Nodup → Z6 P is K (gput env d g) (H1++H)):callS P false f (some gs) d is K env H:=
 callS.of (GCalls.lendO (h _ (odd_mem (fun x hx=>(hT.2 x hx).1) hs)) hb hR) fun g H' ⟨H1,h1,h2⟩ hn=>by subst h2;exact hk g H1 h1 hn
theorem FR.nilRu (v:GV) (H:GH):∃q1 q2 q3,FR (.tup [.agg [T noS,T noS,ZI,B false,ZI,ZI],v]) H (.tup [.agg [T noS,T noS,.own q1 1 0 0,B false,.own q2 9 0 0,.own q3 16 0 0],v]) ((q2,9,[])::(q3,16,[])::(q1,1,[])::H):=by
 obtain ⟨q1,o1,h1⟩:=Yu (names H)
 obtain ⟨q3,o3,h3⟩:=Yu (names ((q1,1,[])::H))
 obtain ⟨q2,o2,h2⟩:=Yu (names ((q3,16,[])::(q1,1,[])::H))
 refine ⟨q1,q2,q3,?_⟩
 refine FR.trans (FR.addv (sz:=1) o1 h1) (FR.trans (FR.addv (sz:=16) o3 h3) (FR.trans (FR.addv (sz:=9) o2 h2) (FR.sub (.tup (.cons (.agg (.cons .refl (.cons .refl (.cons .virt (.cons .refl (.cons .virt (.cons .virt .nil))))))) (.cons .refl .nil))))))
def AnsR (a:Option Rul) (H:GH) (g:GV) (H':GH):Prop:=∃H1,(∃q1 q2 q3,g = .tup [.agg [T (a.getD rulZ).name,T (a.getD rulZ).left,.own q1 1 0 (a.getD rulZ).right.length,B (a.getD rulZ).lit,.own q2 9 0 (a.getD rulZ).eqs.length,.own q3 16 0 (a.getD rulZ).cons.length],B a.isSome] ∧
 H1=[(q2,9,(a.getD rulZ).eqs.map QnO),(q3,16,(a.getD rulZ).cons.map CoO),(q1,1,(a.getD rulZ).right.map T)])∧H'=H1++H
theorem rqI_sz (l:List UInt8) (h:l.length≤1048576):okEq (rqI nmN l).1 ∧ smEq (rqI nmN l).1 := by
 have h1:=trim_len eqP l
 have h2:=XM (Y6 eqP l) dfT
 have h3:=XM (cut (Y6 eqP l) dfT).1 [46]
 have h4:=parV_sz (cut (Y6 eqP l) dfT).2.1
 exact ⟨⟨bA_sz (l:=(cut (cut (Y6 eqP l) dfT).1 [46]).2.1) oT,h4.1⟩,h4.2⟩
theorem rcI_sz (l:List UInt8) (h:l.length≤1048576):okCo (rcI l).1 ∧ smCo (rcI l).1 := by
 have h1:=trim_len puP l
 have h2:=XM (Y6 puP l) dfT
 have h3:=XM (cut (Y6 puP l) dfT).1 ofP'
 have h4:=XM (cut (cut (Y6 puP l) dfT).1 ofP').1 [46]
 have h5:=parV_sz (cut (cut (Y6 puP l) dfT).1 ofP').2.1
 have h6:=parV_sz (cut (Y6 puP l) dfT).2.1
 exact ⟨⟨bA_sz (l:=(cut (cut (cut (Y6 puP l) dfT).1 ofP').1 [46]).1) oT,bA_sz (l:=(cut (cut (cut (Y6 puP l) dfT).1 ofP').1 [46]).2.1) oT,h5.1,h6.1⟩,h5.2,h6.2⟩
theorem hdI_sz {ws:List (List UInt8)} {a:List Eqn} {b:List Con} (h1:∀w∈ws,w.length≤1048576) (h2:ws.length≤1048576) (ha:a.length≤1048576) (hb:b.length≤1048576) (qa:∀q∈a,okEq q∧smEq q) (qb:∀c∈b,okCo c∧smCo c):okRu (hdI ws a b)∧smRu (hdI ws a b):=by
 refine ⟨⟨bA_sz ((hd_mem h1).2.2 1),bA_sz ((hd_mem h1).2.2 2),?_,fun q hq=>(qa q hq).1,fun c hc=>(qb c hc).1⟩,?_,ha,hb,fun q hq=>(qa q hq).2,fun c hc=>(qb c hc).2⟩
 ·intro s hs
  obtain ⟨w,hw,rfl⟩:=List.mem_map.1 hs
  exact bA_sz (h1 w (List.mem_of_mem_drop (lit_mem w hw)))
 ·show ((if (ws.drop 4).getLast? = some litW then (ws.drop 4).dropLast else ws.drop 4).map _).length ≤ _
  rw[List.length_map]
  split
  ·rw[List.length_dropLast,List.length_drop];omega
  ·rw[List.length_drop];omega
theorem pu_eq {l:List UInt8} (h:puP.isPrefixOf l=true):eqP.isPrefixOf l=false:=by
 rw[Bool.eq_false_iff]
 intro h2
 obtain ⟨a,rfl⟩:=List.isPrefixOf_iff_prefix.1 h
 simp[eqP,puP,List.isPrefixOf] at h2
theorem rdI_pu {nm:List UInt8→Int×Bool} {l:List UInt8} {t:List (List UInt8)} {a:List Eqn} {b:List Con} (h:puP.isPrefixOf l=true):rdI nm (l::t) a b=if (rcI l).2 = true then rdI nm t a (b++[(rcI l).1]) else none:=by
 have h2:=pu_eq h
 simp only[rdI,h,h2]
 simp
theorem rdI_eqP {nm:List UInt8→Int×Bool} {l:List UInt8} {t:List (List UInt8)} {a:List Eqn} {b:List Con} (h:puP.isPrefixOf l=false) (h2:eqP.isPrefixOf l=true):rdI nm (l::t) a b=if (rqI nm l).2 = true then rdI nm t (a++[(rqI nm l).1]) b else none:=by
 simp only[rdI,h,h2]
 simp
theorem rdI_no {nm:List UInt8→Int×Bool} {l:List UInt8} {t:List (List UInt8)} {a:List Eqn} {b:List Con} (h:puP.isPrefixOf l=false) (h2:eqP.isPrefixOf l=false):rdI nm (l::t) a b=none:=by
 simp only[rdI,h,h2]
 simp
def rdP (tl:List (List UInt8)) (i:Nat) (a:List Eqn) (b:List Con):Prop:=a.length≤i∧b.length≤i∧i≤tl.length∧rdI nmN tl [] []=rdI nmN (tl.drop i) a b∧(∀q∈a,okEq q∧smEq q)∧∀c∈b,okCo c∧smCo c
theorem rdP_init (tl:List (List UInt8)):rdP tl 0 [] []:=⟨by simp,by simp,oT,by simp,by simp,by simp⟩
theorem rdP_co {tl:List (List UInt8)} {i:Nat} {a:List Eqn} {b:List Con} (h:rdP tl i a b) (hi:i<tl.length) (hl:tl[i].length ≤ 1048576) (h1:puP.isPrefixOf tl[i]=true) (h2:(rcI tl[i]).2 = true):rdP tl (i+1) a (b++[(rcI tl[i]).1]):=by
 obtain ⟨k1,k2,k3,k4,k5,k6⟩:=h
 refine ⟨oT,by simp;omega,hi,?_,k5,fun c hc=> ?_⟩
 ·rw[k4,List.drop_eq_getElem_cons hi,rdI_pu h1,if_pos h2]
 ·rcases List.mem_append.1 hc with hc|hc
  ·exact k6 c hc
  ·rw[List.mem_singleton.1 hc];exact rcI_sz _ hl
theorem rdP_qn {tl:List (List UInt8)} {i:Nat} {a:List Eqn} {b:List Con} (h:rdP tl i a b) (hi:i<tl.length) (hl:tl[i].length ≤ 1048576) (h0:puP.isPrefixOf tl[i]=false) (h1:eqP.isPrefixOf tl[i]=true) (h2:(rqI nmN tl[i]).2 = true):rdP tl (i+1) (a++[(rqI nmN tl[i]).1]) b:=by
 obtain ⟨k1,k2,k3,k4,k5,k6⟩:=h
 refine ⟨by simp;omega,oT,hi,?_,fun c hc=> ?_,k6⟩
 ·rw[k4,List.drop_eq_getElem_cons hi,rdI_eqP h0 h1,if_pos h2]
 ·rcases List.mem_append.1 hc with hc|hc
  ·exact k5 c hc
  ·rw[List.mem_singleton.1 hc];exact rqI_sz _ hl
theorem rdP_no {tl:List (List UInt8)} {i:Nat} {a:List Eqn} {b:List Con} (h:rdP tl i a b) (hi:i<tl.length) (hn:(puP.isPrefixOf tl[i]=true∧(rcI tl[i]).2 = false)∨(puP.isPrefixOf tl[i]=false∧(eqP.isPrefixOf tl[i]=false∨(rqI nmN tl[i]).2 = false))):rdI nmN tl [] []=none:=by
 obtain ⟨k1,k2,k3,k4,k5,k6⟩:=h
 rw[k4,List.drop_eq_getElem_cons hi]
 rcases hn with ⟨h1,h2⟩|⟨h1,h2⟩
 ·rw[rdI_pu h1,h2];rfl
 ·cases h3:eqP.isPrefixOf tl[i] with
  | false=>exact rdI_no h1 h3
  | true=>
   rw[rdI_eqP h1 h3]
   rcases h2 with h2|h2
   ·rw[h3] at h2;cases h2
   ·rw[h2];rfl
theorem rdP_end {tl:List (List UInt8)} {a:List Eqn} {b:List Con} (h:rdP tl tl.length a b):rdI nmN tl [] []=some (a,b):=by
 rw[h.2.2.2.1,List.drop_length]
 rfl
def sp9 (l:List UInt8):List (List UInt8):=splitN l [32] 9
theorem sp9_ok:∀l,(spl 32 l).length ≤ 8→sp9 l=spl 32 l:=fun l h=>splitN_spl oT oT
theorem sp9_len (l:List UInt8):(sp9 l).length ≤ 9∧∀w∈sp9 l,w.length≤l.length:=
 ⟨by have:=(splitK_len (sep:=[32]) (min 9 (l.length+1)-1) l).1;unfold sp9 splitN;omega,fun w hw=>splitK_mem hw⟩
theorem parI_same (ls:List (List UInt8)):parI sp9 nmN ls=ZA ls:=par_same nmN_ok sp9_ok ls
theorem perm3 {α:Type} (a b c:α) (Z:List α):(a::b::c::Z).Perm (c::b::a::Z):=
 (List.Perm.swap b a (c::Z)).trans ((List.Perm.cons b (List.Perm.swap c a Z)).trans (List.Perm.swap c b (a::Z)))
theorem FE.virt2p {env:Env} {H:GH} {r q r1 r2:Nat} {nm lf:ByteArray} {A:GV} {lit:Bool} {y:Nat×List GV} (ho:r1 % 4=1) (hn:r1∉names ((r,6,[GV.agg [T nm,T lf,A,B lit,ZI,ZI]])::(q,y)::H)) (ho2:r2 % 4=1)
 (hn2:r2∉names ((r,6,[GV.agg [T nm,T lf,A,B lit,.own r1 9 0 0,ZI]])::(r1,9,[])::(q,y)::H)) (hq:¬q=r) :
 FE env ((q,y)::(r,6,[.agg [T nm,T lf,A,B lit,ZI,ZI]])::H) env ((r1,9,[])::(r,6,[.agg [T nm,T lf,A,B lit,.own r1 9 0 0,.own r2 16 0 0]])::(r2,16,[])::(q,y)::H):=by
 have h1:¬r1=r∧¬r1=q:=by simp[names] at hn;exact ⟨hn.1,hn.2.1⟩
 have h2:¬r2=r∧¬r2=r1∧¬r2=q:=by simp[names] at hn2;exact ⟨hn2.1,hn2.2.1,hn2.2.2.1⟩
 have k1:¬r=r1:=fun h=>h1.1 h.symm
 have k2:¬q=r1:=fun h=>h1.2 h.symm
 have k3:¬r=r2:=fun h=>h2.1 h.symm
 have k4:¬r1=r2:=fun h=>h2.2.1 h.symm
 have k5:¬q=r2:=fun h=>h2.2.2 h.symm
 have k6:¬r=q:=fun h=>hq h.symm
 refine FE.trans FE.swap (FE.trans (FE.virt2 (s1:=9) (s2:=16) (gs:=[T nm,T lf,A,B lit,ZI,ZI]) 4 5 rfl ho hn rfl ho2 hn2) ?_)
 exact FE.perm (H:=[_,_,_,_]) (L:=[(r1,9,[]),(r,6,_),(r2,16,[]),(q,y)]) (by simp[subH,Z7,names,h1.1,h1.2,h2.1,h2.2.1,h2.2.2,k1,k2,k3,k4,k5,k6,hq])
theorem GW.cut {P:Program} {cf:Cfg} (mxd:P.follows .mixedOrders = true) {x y:GC} {Q:Exit→Env→GH→Prop} {env:Env} {H:GH} (M:Env→GH→Prop) (h1:gwp P cf x (thenG M Q) env H) (h2:∀env' H',M env' H'→GW P cf y Q env' H'):GW P cf (.seq x y) Q env H:=
 GW.seq (GW.mono (fun ex e H' hq=>by
  cases ex<;>simp only[thenG] at hq ⊢
  all_goals first
   | exact hq
   | exact h2 _ _ hq) (Zt mxd h1))
theorem smw_bd {α:Type} {w:α→Nat} {c:Nat}:∀{l:List α},(∀a∈l,w a≤c)→smw w l≤l.length * c
 | [],_ => by simp[smw]
 | a::l,h=>by
  have h1:=h a (by simp)
  have h2:=smw_bd (w:=w) (c:=c) (l:=l) fun b hb=>h b (by simp[hb])
  simp only[smw,List.length_cons,Nat.succ_mul]
  omega
theorem ctE_sm {e:Exp} (h:wEx e≤1048576):ctE e≤7000000:=by
 have:=ctE_le e
 omega
theorem parS_sm {ls:List (List UInt8)} (h:ls.length≤1048576) (hl:∀l∈ls,l.length≤1048576):smRu ((ZA ls).getD rulZ):=by
 have hz:smRu rulZ:=⟨by decide,by decide,by decide,(fun q hq=>by cases hq),(fun q hq=>by cases hq)⟩
 cases ls with
 | nil=>exact hz
 | cons a t=>
  simp only[ZA]
  split
  ·exact (rdS_sz (hl a (by simp)) (by simp at h;omega) fun l hl2=>hl l (by simp[hl2])).2
  ·exact hz
theorem GCalls.ndR {P:Program} {f:FuncId} {gs:List GV} {H:GH} {R:GV→GH→Prop} (h:GCalls P f gs H R):GCalls P f gs H (fun g H'=>R g H'∧(names H').Nodup):=fun w D Ω args hst hargs=>
 Yld.mono (fun v w' ⟨g,H',D',Ω',k1,k2,k3,k4⟩=>⟨g,H',D',Ω',⟨k1,k3.nn⟩,k2,k3,k4⟩) (h w D Ω args hst hargs)
end Go.Gh
namespace Go
variable {H:Type} {enc:TypeId×Value→H}
theorem returnsInHanded_of_change_sx {a:Assume} {C:Checked} {os:Os} {f:FuncId} {fn:Func} {s:ChangeSpec} {conds:List PathCond} {apart fresh handsOn again:Bool} {X:World→Array Value→Prop}
 (hX:∀(w w':World) (args:Array Value),w.heap=w'.heap→X w args→X w' args)
 (own:ownKnob C.prog.godebug=none) (started:os.Started) (noInit:C.prog.inits.idxOf? f=none) (hfn:C.prog.funcs[f]? = some fn)
 (witness:∃(w:World) (tape:Tape) (i:Input),w.os=os∧(w.forCall tape i).Shaped C.prog∧i.vars=[]∧Input.okWide C.prog (w.forCall tape i) .any w.heap.size f i ∧
  ((s.pre enc C.prog fn conds apart (w.forCall tape i).memory i.args∧X (w.forCall tape i).memory i.args)∧sizedMet enc C.prog fn (OpenSpec.ofChange s) apart (w.forCall tape i).memory i.args)∧a.holds C.prog (lone (Frame.enter C.prog f i.args .normal) [] (w.forCall tape i)))
 (contract:∀(W:World) (base:Nat) (args:Array Value) (ds gs:List (DataW H)) (before:List MemPlace),
  (∀(j:Nat) t v,fn.params[j]? = some t→args[j]? = some v→Value.okWide C.prog W .any base t v) →
  DataW.Whole enc C.prog fn.params.toList s.vars apart W args.toList ds gs before →
  conds.all (PathCond.test C.prog ⟨fn.params.toList,ds,s.plain.varTypes C.prog,gs⟩)=true →
  (DataW.weightsEach C.prog (fn.params.toList++s.plain.varTypes C.prog) (ds++gs)).all (· ≤ reachBytes)=true→X W args →
  W.ShapedOpen C.prog →
  Calls C.prog f args W fun e W'=>∃v,e = .returned v∧s.post enc C.prog fn apart fresh handsOn again W args v W') :
 ReturnsInHanded a C os f .any (fun w args=>(s.pre enc C.prog fn conds apart w args∧X w args)∧sizedMet enc C.prog fn (OpenSpec.ofChange s) apart w args) (s.post enc C.prog fn apart fresh handsOn again):=by
 refine returnsInHanded_of_calls own started noInit witness ?_
 intro w tape i _ hsh _ hok hpre hholds
 obtain ⟨_,_,_,fn',hfn',_,_,_,_,hval⟩:=hok
 have e:fn'=fn:=Option.some.inj (hfn'.symm.trans hfn)
 subst e
 obtain ⟨⟨⟨ds,gs,before,hw,hc⟩,hx⟩,hz⟩:=hpre
 have hw':=DataW.Whole.of_heap (w':=w.forCall tape i) (by rfl) hw
 refine (contract (w.forCall tape i) w.heap.size i.args ds gs before hval hw' hc (hz.weights hw) (hX _ _ _ (by rfl) hx) hsh).mono fun e W' ⟨v,he,hp⟩=> ?_
 subst he
 exact ChangeSpec.post_blind hp
theorem goesBy_none {c:OpenClaim} {P:Program} (hs:c.start = .entering) (h:P.funcs.any Func.goes=false):false=c.goesBy P:=by
 have h1:∀g:Nat,(P.funcs[g]?).any Func.goes=false:=fun g=>by
  cases e:P.funcs[g]? with
  | none=>rfl
  | some f=>
   have hm:f∈P.funcs:=Array.mem_of_getElem? e
   have h2:¬(∃x∈P.funcs,Func.goes x=true):=fun hx=>by
    obtain ⟨i,hi,e⟩:=Array.mem_iff_getElem.1 hx.choose_spec.1
    exact absurd (Array.any_eq_true.2 ⟨i,hi,by rw[e];exact hx.choose_spec.2⟩) (by rw[h];exact Bool.false_ne_true)
   cases hg:Func.goes f with
   | false=>simp[hg]
   | true=>exact absurd ⟨f,hm,hg⟩ h2
 unfold OpenClaim.goesBy Program.goesAt Program.goesFrom
 rw[hs]
 cases P.funcNamed c.func with
 | none=>rfl
 | some f=>
  simp only[Option.any_some,Bool.or_false,Program.goes,h1,h,Bool.and_false,Bool.false_eq,List.any_eq_false,Bool.or_eq_false_iff]
  simp
end Go
namespace Go.Gh
open Lib
theorem HM.of_tabs {W:World}:∀{H:GH},(∀x∈H,x.2.2=[]∧x.1 % 4=3∧TB W (Yt W) x.1 x.2.1)→HM W (Yt W) H []
 | [],_ => rfl
 | (r,sz,es)::H,h=>by
  obtain ⟨h1,h2,h3⟩:=h (r,sz,es) (by simp)
  dsimp only at h1 h2 h3
  subst h1
  exact ⟨[],[],rfl,.inr ⟨⟨oT,fun _ _ => h3⟩,rfl,rfl⟩,HM.of_tabs fun x hx=>h x (by simp[hx])⟩
theorem TB.of_var {P:Program} {W:World} {n sz:Nat} {s:String} {cs:Array Value} (hg:P.globalNamed s=some n) (h:W.var? P s=some cs) (hp:tabP sz cs):TB W (Yt W) (4 * n+3) sz:=by
 have e:(4 * n+3) / 4=n:=by omega
 simp only[World.var?,hg,Option.bind_some] at h
 unfold TB
 rw[e]
 split at h
 case h_2=>cases h
 rename_i c T fz hb
 simp only[Option.some.injEq] at h
 subst h
 exact ⟨lt_of_heap hb,_,T,fz,hb,hp⟩
theorem TB.p10 {P:Program} {W:World} {n:Nat} {s:String} (hg:P.globalNamed s=some n) (h:TabIs P W s .u64 pow10Tab):TB W (Yt W) (4 * n+3) 1000000:=by
 refine TB.of_var hg h ?_
 simp only[tabP,if_true,pow10Tab,List.map_map]
 rfl
theorem TB.ifc {P:Program} {W:World} {n:Nat} {s:String} (hg:P.globalNamed s=some n) (h:∃u v,W.var? P s=some #[.iface u v]):TB W (Yt W) (4 * n+3) 1000001:=by
 obtain ⟨u,v,h⟩:=h
 refine TB.of_var hg h ?_
 simp only[tabP]
 rw[if_neg (by decide),if_neg (by decide),if_neg (by decide)]
 exact ⟨u,v,rfl⟩
theorem TB.num {W:World} {n:Nat} (h:∃m,W.cell? ⟨n,0,none⟩=some (.int .i64 m)):TB W (Yt W) (4 * n+3) 1000002:=by
 obtain ⟨m,h⟩:=h
 have e:(4 * n+3) / 4=n:=by omega
 unfold World.cell? at h
 unfold TB
 rw[e]
 split at h
 case h_1 c T fz hb=>
  refine ⟨lt_of_heap hb,c,T,fz,hb,?_⟩
  unfold tabP
  rw[if_neg (by decide),if_pos rfl]
  exact ⟨m,h⟩
 all_goals first|(cases h;done)|(exfalso;simp_all;done)
theorem HM.tabF {P:Program} {W:World} {a b c d:Nat} {s1 s2 s3:String} (h1:P.globalNamed s1=some a) (k1:TabIs P W s1 .u64 pow10Tab) (h2:P.globalNamed s2=some b) (k2:∃u v,W.var? P s2=some #[.iface u v])
 (h3:P.globalNamed s3=some c) (k3:∃u v,W.var? P s3=some #[.iface u v]) (k4:∃m,W.cell? ⟨d,0,none⟩=some (.int .i64 m)):HM W (Yt W) (tabF a b c d) []:=
 HM.of_tabs fun x hx=>by
  simp only[Go.Gh.tabF,List.mem_cons,List.not_mem_nil,or_false] at hx
  rcases hx with rfl|rfl|rfl|rfl
  ·exact ⟨rfl,by dsimp only;omega,TB.p10 h1 k1⟩
  ·exact ⟨rfl,by dsimp only;omega,TB.ifc h2 k2⟩
  ·exact ⟨rfl,by dsimp only;omega,TB.ifc h3 k3⟩
  ·exact ⟨rfl,by dsimp only;omega,TB.num k4⟩
end Go.Gh
namespace Go.Gh
open Go.Lib
end Go.Gh
namespace Go.Gh
theorem fmtR_len (r:Rul):(Za r).length ≤ 1+r.eqs.length+r.cons.length:=by
 unfold Za
 split
 ·simp only[List.length_cons,List.length_append,List.length_map];omega
 ·simp
theorem fmtR_ch {r:Rul}:∀x∈Za r,x.length≤10000:=by
 intro x hx
 unfold Za at hx
 split at hx
 case isFalse=>cases hx
 rename_i h
 obtain ⟨p1,p2,p3⟩:=XD h
 have hr:=h
 simp only[Zw,Bool.and_eq_true,decide_eq_true_eq,List.all_eq_true] at hr
 rcases List.mem_cons.1 hx with rfl|hx
 ·have h1:=YH hr.1
  have h2:=YH hr.2.1
  have h3:∀(l:List (List UInt8)) (k:Nat),(∀x∈l,x.length≤8)→l.length≤k→(l.flatMap (32 :: ·)).length ≤ 9 * k:=by
   intro l
   induction l with
   | nil=>intro k _ _;simp
   | cons a l ih=>
    intro k hl hk
    cases k with
    | zero=>simp at hk
    | succ k=>
     have:=ih k (fun x hx=>hl x (by simp[hx])) (by simpa using hk)
     have:=hl a (by simp)
     simp only[List.flatMap_cons,List.length_append,List.length_cons]
     omega
  have h4:=h3 ([Z9 r.name,Z9 r.left,[58]]++(r.right.map Z9++if r.lit then [[108,105,116]] else [])) 7 (by
   intro x hx
   simp only[List.mem_append,List.mem_cons,List.not_mem_nil,or_false,List.mem_map] at hx
   rcases hx with (rfl|rfl|rfl)|⟨y,hy,rfl⟩|hx
   ·exact h1
   ·exact h2
   ·simp
   ·exact YH (hr.2.2.2.2.1 y hy)
   ·split at hx
    ·rw[List.mem_singleton.1 hx];simp
    ·cases hx) (by
   simp only[List.length_append,List.length_cons,List.length_nil,List.length_map]
   split<;>simp<;>omega)
  simp only[hdT,List.length_append,List.length_cons,List.length_nil] at h4 ⊢
  omega
 ·rcases List.mem_append.1 hx with hx|hx
  ·obtain ⟨q,hq,rfl⟩:=List.mem_map.1 hx
   obtain ⟨v1,v2,v3,v4⟩:=p2 q hq
   have h1:=YH v2
   have h2:=vE_len v1
   have h3:=YV v3 oT
   simp only[eqT,List.length_append,List.length_cons,List.length_nil]
   omega
  ·obtain ⟨c,hc,rfl⟩:=List.mem_map.1 hx
   obtain ⟨v1,v2,v3,v4⟩:=p3 c hc
   have h1:=YH v3
   have h2:=YH v4
   have h3:=vE_len v1
   have h4:=vE_len v2
   simp only[coT,List.length_append,List.length_cons,List.length_nil]
   omega
theorem parS_okz {ls:List (List UInt8)} (h:ls.length≤1048576) (hl:∀l∈ls,l.length≤1048576):okRu ((ZA ls).getD rulZ):=by
 have hz:okRu rulZ:=⟨by decide,by decide,(fun q hq=>by cases hq),(fun q hq=>by cases hq),(fun q hq=>by cases hq)⟩
 cases ls with
 | nil=>exact hz
 | cons a t=>
  simp only[ZA]
  split
  ·exact (rdS_sz (hl _ (by simp)) (by simp at h;omega) (fun l hl2=>hl l (by simp[hl2]))).1
  ·exact hz
end Go.Gh
namespace Go.Gh
open Go.Lib
def modB:List ByteArray:=[⟨#[]⟩,⟨#[105,110,104]⟩,⟨#[115,121,110]⟩,⟨#[99,111,108]⟩]
def typB:List ByteArray:=[⟨#[]⟩,⟨#[110,117,109]⟩,⟨#[115,101,116]⟩,⟨#[98,111,111,108]⟩,⟨#[110,111,100,101]⟩]
theorem mod_at {a:Att} (h:attV a=true):∃h1:a.mode.toNat<modB.length,Z9 modB[a.mode.toNat]=modW.getD (a.mode-1).toNat []:=by
 obtain ⟨_,_,h3⟩:=Yh h
 obtain ⟨n,t,m,c⟩:=a
 dsimp only at h3 ⊢
 rcases h3 with rfl|rfl|rfl<;>exact ⟨by decide,rfl⟩
theorem typ_at {a:Att} (h:attV a=true):∃h1:a.type.toNat<typB.length,Z9 typB[a.type.toNat]=typW.getD (a.type-1).toNat []:=by
 obtain ⟨_,h3,_⟩:=Yh h
 obtain ⟨n,t,m,c⟩:=a
 dsimp only at h3 ⊢
 rcases h3 with rfl|rfl|rfl|rfl<;>exact ⟨by decide,rfl⟩
theorem modI_at {a:Att} (h:attV a=true):∃u,(YC 1000010)[(a.mode-1).toNat]? = some u∧Z9 u=modW.getD (a.mode-1).toNat []:=by
 obtain ⟨_,_,h3⟩:=Yh h
 obtain ⟨n,t,m,c⟩:=a
 dsimp only at h3 ⊢
 rcases h3 with rfl|rfl|rfl<;>exact ⟨_,rfl,rfl⟩
theorem typI_at {a:Att} (h:attV a=true):∃u,(YC 1000011)[(a.type-1).toNat]? = some u∧Z9 u=typW.getD (a.type-1).toNat []:=by
 obtain ⟨_,h3,_⟩:=Yh h
 obtain ⟨n,t,m,c⟩:=a
 dsimp only at h3 ⊢
 rcases h3 with rfl|rfl|rfl|rfl<;>exact ⟨_,rfl,rfl⟩
theorem gix_of {H:GH} {g len sz:Nat} {n:Int} {u:ByteArray} {A:GV→Prop} (hH:Z7 H (4 * g+3)=some (sz,[])) (h0:1000010≤sz) (h1:0≤n) (h2:n<len) (hu:(YC sz)[n.toNat]? = some u) (k:A (.rop 1 (T u))):gixT (Z7 H (4 * g+3)) (some (I n)) len A:=by
 rw[hH]
 simp only[gixT]
 rw[hu]
 exact ⟨h0,h1,h2,k⟩
theorem gsl_of {H:GH} {g len sz:Nat} {A:GV→Prop} (hH:Z7 H (4 * g+3)=some (sz,[])) (h0:1000010≤sz) (h1:(YC sz).length = len) (k:A (TS (YC sz))):gslT (Z7 H (4 * g+3)) len A:=by
 rw[hH]
 exact ⟨h0,h1,k⟩
theorem wrd_len (i:Nat):(modW.getD i []).length ≤ 3∧(typW.getD i []).length ≤ 4:=by
 constructor
 ·rcases i with _ | _ | _ | i<;>simp[modW]
 ·rcases i with _ | _ | _ | _ | i<;>simp[typW]
theorem attT_len {a:Att} (h:attV a=true):(attT a).length ≤ 20:=by
 have h1:=Yw (Yh h).1
 have h2:=(wrd_len (a.mode-1).toNat).1
 have h3:=(wrd_len (a.type-1).toNat).2
 unfold attT
 simp only[List.length_append,List.length_cons]
 split<;>simp only[List.length_cons,List.length_nil]<;>omega
theorem flat8_len {c:Nat} (b:UInt8):∀{l:List (List UInt8)},(∀x∈l,x.length≤c)→(l.flatMap (b :: ·)).length ≤ l.length * (c+1)
 | [],_ => by simp
 | x::l,h=>by
  have h1:=h x (by simp)
  have h2:=flat8_len b (l:=l) fun y hy=>h y (by simp[hy])
  have e:(l.length+1) * (c+1)=l.length * (c+1)+(c+1):=Nat.succ_mul _ _
  simp only[List.flatMap_cons,List.length_append,List.length_cons]
  omega
def symW (s:Sym) (i:Nat):List UInt8:=symP++(Z9 s.name++((s.atts.take i).map attT).flatMap (32 :: ·))
theorem symW_zero (s:Sym):[115,121,109,98,111,108,32]++Z9 s.name=symW s 0:=by simp[symW,symP]
theorem symW_succ {s:Sym} {i:Nat} (h:i<s.atts.length):symW s (i+1)=symW s i++32::attT s.atts[i]:=by
 simp only[symW,List.take_succ_eq_append_getElem h,List.map_append,List.flatMap_append]
 simp
theorem symW_end (s:Sym):symW s s.atts.length=YQ s:=by
 simp[symW,YQ,symP,List.take_length]
theorem sym_parts {s:Sym} (h:YX s=true):(∀a∈s.atts,attV a=true)∧ZV s.name=true∧s.atts.length≤4:=by
 simp only[YX,Bool.and_eq_true,List.all_eq_true,decide_eq_true_eq] at h
 exact ⟨h.1.1,h.2.1,h.2.2⟩
theorem symW_len {s:Sym} (h:YX s=true) (i:Nat):(symW s i).length ≤ 200:=by
 obtain ⟨h1,h2,h3⟩:=sym_parts h
 have h4:=Yw h2
 have h5:=flat8_len 32 (c:=20) (l:=(s.atts.take i).map attT) fun x hx=>by
  obtain ⟨a,ha,rfl⟩:=List.mem_map.1 hx
  exact attT_len (h1 a (List.mem_of_mem_take ha))
 simp only[List.length_map,List.length_take] at h5
 simp only[symW,List.length_append,symP,List.length_cons,List.length_nil]
 have h6:min i s.atts.length * (20+1)≤4 * 21:=Nat.mul_le_mul oT (Nat.le_refl _)
 omega
theorem symT_len {s:Sym} (h:YX s=true):(YQ s).length ≤ 200:=by rw[←symW_end];exact symW_len h _
theorem fmtY_eq {s:Sym} (h:YX s=true):fmtY s=YQ s:=by unfold fmtY;rw[if_pos h]
theorem fmtY_no {s:Sym} (h:YX s=false):fmtY s=[]:=by unfold fmtY;rw[h];rfl
theorem symT_ne (s:Sym):YQ s≠[]:=by simp[YQ]
def ixB (l:List ByteArray) (s:ByteArray):Int:=ixOf (fun x=>decide (x=s)) l
theorem bA_eq {x:ByteArray} {w:List UInt8}:Z9 x=w↔x=bA w:=by
 constructor
 ·rintro rfl;rfl
 ·rintro rfl;exact chA w
theorem ixB_eq (l:List ByteArray) (w:List UInt8):ixW (l.map Z9) w=ixB l (bA w):=by
 unfold ixW ixB ixOf
 rw[List.findIdx?_map]
 have:((fun x:List UInt8=>decide (x=w)) ∘ Z9)=fun x:ByteArray=>decide (x=bA w):=by
  funext x
  exact decide_eq_decide.2 bA_eq
 rw[this]
theorem ixB_bd (l:List ByteArray) (s:ByteArray) : -1≤ixB l s∧ixB l s≤l.length:=by
 unfold ixB ixOf
 split
 ·rename_i i h
  have:=List.findIdx?_eq_some_iff_findIdx_eq.1 h
  omega
 ·omega
theorem three {α:Type} {l:List α} (h:l.length=3):∃a b c,l=[a,b,c]:=by
 match l,h with
 | [a,b,c],_ => exact ⟨a,b,c,rfl⟩
theorem rAS_n {w:List UInt8} (h:(spl 58 w).length ≠ 3):rAS w=attZ:=by unfold rAS;rw[if_pos h]
theorem rAS_3 {w a b c:List UInt8} (h:spl 58 w=[a,b,c]):rAS w=⟨bA a,ixB typB (bA (uncV c)),ixB modB (bA b),circV c⟩:=by
 unfold rAS
 rw[h,if_neg (by simp)]
 simp only[List.getD_cons_succ,List.getD_cons_zero]
 rw[←ixB_eq typB,←ixB_eq modB]
 rfl
theorem unc_no {l:List UInt8} (h:l.length=0):uncV l=l∧circV l=false:=by
 obtain rfl:=List.length_eq_zero_iff.1 h
 exact ⟨rfl,rfl⟩
theorem last_at {l:List UInt8} (h:0<l.length):l.getLast?=some (l[l.length-1]):=by rw[List.getLast?_eq_getElem?,List.getElem?_eq_getElem oT]
theorem unc_hit {l:List UInt8} (h:0<l.length) (e:l[l.length-1]=33):uncV l=l.take (l.length-1)∧circV l=true:=by
 have:=last_at h
 rw[e] at this
 unfold uncV circV
 rw[if_pos this,List.dropLast_eq_take]
 exact ⟨rfl,decide_eq_true this⟩
theorem unc_miss {l:List UInt8} (h:0<l.length) (e:¬l[l.length-1]=33):uncV l=l∧circV l=false:=by
 have:=last_at h
 have h2:¬l.getLast?=some 33:=fun k=>e (by rw[this] at k;exact Option.some.inj k)
 unfold uncV circV
 rw[if_neg h2]
 exact ⟨rfl,decide_eq_false h2⟩
theorem suf_one (l:List UInt8) (b:UInt8):Lib.hasSuffix l [b]=decide (l.getLast?=some b)∧Lib.trimSuffix l [b]=if l.getLast?=some b then l.dropLast else l:=by
 have h:Lib.hasSuffix l [b]=decide (l.getLast?=some b):=by
  unfold Lib.hasSuffix
  rw[Bool.eq_iff_iff,List.isSuffixOf_iff_suffix,decide_eq_true_eq]
  constructor
  ·rintro ⟨t,rfl⟩;simp
  ·intro h
   rcases List.eq_nil_or_concat l with rfl|⟨t,x,rfl⟩
   ·cases h
   ·rw[List.concat_eq_append,List.getLast?_concat] at h
    obtain rfl:=Option.some.inj h
    exact ⟨t,by simp⟩
 refine ⟨h,?_⟩
 unfold Lib.trimSuffix
 rw[h]
 simp only[decide_eq_true_eq,List.length_cons,List.length_nil,List.dropLast_eq_take]
theorem rAS_sz {w:List UInt8} (h:w.length≤1048576):okAt (rAS w):=by
 by_cases hl:(spl 58 w).length = 3
 ·have:(spl 58 w).getD 0 []∈spl 58 w:=by
   rw[List.getD_eq_getElem?_getD,List.getElem?_eq_getElem oT]
   exact List.getElem_mem _
  unfold rAS
  rw[if_neg oT]
  exact bA_sz (Nat.le_trans (XS this) h)
 ·rw[rAS_n hl]
  show noS.size≤maxLen
  decide
def sp3 (l:List UInt8):List (List UInt8):=splitN l [58] 3
theorem sp3_ok:∀l,(spl 58 l).length ≤ 3→sp3 l=spl 58 l:=fun l h=>splitN_spl oT h
theorem spN_len (l:List UInt8) (b:UInt8) (n:Nat) (hn:1≤n):(splitN l [b] n).length ≤ n∧1≤(splitN l [b] n).length ∧ ∀w∈splitN l [b] n,w.length≤l.length:=by
 have h:=splitK_len (sep:=[b]) (min n (l.length+1)-1) l
 exact ⟨by have:=h.1;unfold splitN;omega,h.2,fun w hw=>splitK_mem hw⟩
def sp7 (l:List UInt8):List (List UInt8):=splitN l [32] 7
theorem sp7_ok:∀l,(spl 32 l).length ≤ 6→sp7 l=spl 32 l:=fun l h=>splitN_spl oT oT
theorem pad3 {P:List (List UInt8)} (h:1≤P.length):∃a b c t,P++[[],[]]=a::b::c::t∧P.getD 0 []=a∧P.getD 1 []=b∧P.getD 2 []=c∧((∀w∈P,w.length≤1048576)→a.length≤1048576∧b.length≤1048576∧c.length≤1048576):=by
 match P,h with
 | [a],_ => exact ⟨a,[],[],[],rfl,rfl,rfl,rfl,fun h=>⟨h a (by simp),by simp,by simp⟩⟩
 | [a,b],_ => exact ⟨a,b,[],[[]],rfl,rfl,rfl,rfl,fun h=>⟨h a (by simp),h b (by simp),by simp⟩⟩
 | a::b::c::t,_ => exact ⟨a,b,c,t++[[],[]],rfl,rfl,rfl,rfl,fun h=>⟨h a (by simp),h b (by simp),h c (by simp)⟩⟩
theorem rAI_3 {w a b c:List UInt8} (h0:(sp3 w).getD 0 []=a) (h1:(sp3 w).getD 1 []=b) (h2:(sp3 w).getD 2 []=c):rAI sp3 w=⟨bA a,1+ixB (YC 1000011) (bA (uncV c)),1+ixB (YC 1000010) (bA b),circV c⟩:=by
 unfold rAI
 rw[h0,h1,h2,←ixB_eq (YC 1000011),←ixB_eq (YC 1000010)]
 rfl
theorem rAI_sz {w:List UInt8} (h:w.length≤1048576):okAt (rAI sp3 w):=by
 have hl:=spN_len w 58 3 oT
 have:(sp3 w).getD 0 []∈sp3 w:=by
  rw[List.getD_eq_getElem?_getD,List.getElem?_eq_getElem (by have:=hl.2.1;show 0<(splitN w [58] 3).length;omega)]
  exact List.getElem_mem _
 unfold rAI
 exact bA_sz (Nat.le_trans (hl.2.2 _ this) h)
def PY (l:List UInt8):Option Sym:=parY (spl 32) rAS l
theorem PY_some {l:List UInt8} {s:Sym}:PY l=some s↔YX s=true∧YQ s=l:=parY_some (fun _ _ => rfl) (fun _ h=>rAS_back h)
theorem PY_same (l:List UInt8):parY sp7 (rAI sp3) l=PY l:=by
 refine Option.ext fun s=> ?_
 rw[PY_some]
 exact parY_some sp7_ok (fun _ h=>rAI_back sp3_ok h)
theorem PY_sz (l:List UInt8):okSy ((PY l).getD symZ)∧smSy ((PY l).getD symZ):=by
 cases h:PY l with
 | none=>exact ⟨⟨by decide,fun a ha=>by cases ha⟩,by show 0 ≤ _;omega⟩
 | some s=>
  obtain ⟨h1,rfl⟩:=PY_some.1 h
  obtain ⟨k1,k2,k3⟩:=sym_parts h1
  have nm:∀{x:ByteArray},ZV x=true→x.size≤maxLen:=fun hx=>by
   have:=Yw hx
   rw[ZD];unfold maxLen;omega
  exact ⟨⟨nm k2,fun a ha=>nm (Yh (k1 a ha)).1⟩,by show s.atts.length ≤ _;omega⟩
theorem bor_syZ {H:GH}:Bor H (.agg [T noS,.val (.slice none 0 0)]) (Sy symZ):= .agg (.cons .refl (.cons .nil .nil))
def tabG (a b c d e f:Nat):GH:=(4 * e+3,1000010,[])::(4 * f+3,1000011,[])::tabF a b c d
theorem tabH_G {a b c d e f:Nat} (h:[a,b,c,d,e,f].Nodup):tabH (tabG a b c d e f):=⟨by
 simp only[List.nodup_cons,List.mem_cons,List.not_mem_nil,or_false,not_or,List.nodup_nil,not_false_eq_true,and_true] at h
 simp[tabG,tabF,names];omega,fun x hx=>by
 simp only[tabG,tabF,List.mem_cons,List.not_mem_nil,or_false] at hx
 rcases hx with rfl|rfl|rfl|rfl|rfl|rfl<;>exact ⟨by dsimp only;omega,by dsimp only;omega,rfl⟩⟩
theorem tabG_F (a b c d e f:Nat):∀x∈tabF a b c d,x∈tabG a b c d e f:=fun x hx=>by simp[tabG,hx]
theorem callS.borT {P:Program} {K:Env→GH→Prop} {is:List GI} {env:Env} {H T:GH} {d:Option Nat} {f:FuncId} {gs gs':List GV} {G:GV} (h:PureT P T f gs' (· = G)) (hT:tabH T) (hs:∀x∈T,x∈H) (hb:BorL H gs gs') (hD:noD G=true) (hk:Z6 P is K (gput env d G) H):callS P false f (some gs) d is K env H:=
 callS.lendT (R:=fun g H1=>g=G∧H1=[]) (fun H0 k=>(h.frame hT k).mono fun g H' ⟨e1,e2⟩=>⟨[],⟨e1,rfl⟩,e2⟩) hT hs hb (by rintro g H1 ⟨rfl,rfl⟩;exact ⟨hD,rfl⟩) (by rintro g H1 ⟨rfl,rfl⟩ _;exact hk)
theorem join_ln {ls:List (List UInt8)} (h:ls≠[]):Zx [10] ls++[10]=ls.flatMap (· ++ [10]):=by
 induction ls with
 | nil=>exact absurd rfl h
 | cons l ls ih=>
  cases ls with
  | nil=>simp[join_one]
  | cons m ms=>
   have:=ih (by simp)
   rw[List.flatMap_cons,←this]
   simp[Zx,Lib.join]
def rLn (r:Rul):List (List UInt8):=hdT r::bdT r
def gW1 (g:Gram) (i:Nat):List UInt8:=((g.syms.take i).map YQ).flatMap (· ++ [10])
def gW2 (g:Gram) (i:Nat):List UInt8:=(g.syms.map YQ).flatMap (· ++ [10])++((g.rules.take i).flatMap rLn).flatMap (· ++ [10])
theorem gW1_succ {g:Gram} {i:Nat} (h:i<g.syms.length):gW1 g (i+1)=gW1 g i++(YQ g.syms[i]++[10]):=by
 simp only[gW1,List.take_succ_eq_append_getElem h,List.map_append,List.flatMap_append]
 simp
theorem gW2_zero (g:Gram):gW1 g g.syms.length=gW2 g 0:=by simp[gW1,gW2]
theorem gW2_succ {g:Gram} {i:Nat} (h:i<g.rules.length):gW2 g (i+1)=gW2 g i++(Zx [10] (rLn g.rules[i])++[10]):=by
 rw[join_ln (by simp[rLn])]
 simp only[gW2,List.take_succ_eq_append_getElem h,List.flatMap_append]
 simp
theorem gW2_end (g:Gram):gW2 g g.rules.length=gT g:=by
 simp[gW2,gT,gLn,rLn]
 rfl
theorem gW1_len {g:Gram}:∀{i:Nat},i≤g.syms.length→(∀j (h:j<g.syms.length),j<i→YX g.syms[j]=true)→(gW1 g i).length ≤ i * 300
 | 0,_,_ => by simp[gW1]
 | i+1,h,hv=>by
  have ih:=gW1_len (g:=g) (i:=i) oT fun j h1 h2=>hv j h1 oT
  have h1:=symT_len (hv i h oT)
  rw[gW1_succ h]
  simp only[List.length_append,List.length_cons,List.length_nil]
  omega
theorem rLn_fmt {r:Rul} (h:Zw r=true):Za r=rLn r:=fmtR_eq h
theorem rJoin_len {r:Rul} (h:Zw r=true) (hs:smRu r):(Zx [10] (rLn r)).length ≤ 21000000000:=by
 have h1:=join_le [10] 10000 1 (by simp) (rLn r) (fun x hx=>fmtR_ch (r:=r) x (by rw[rLn_fmt h];exact hx))
 have h2:=fmtR_len r
 rw[rLn_fmt h] at h2
 obtain ⟨_,k2,k3,_⟩:=hs
 have h3:(rLn r).length * (10000+1)≤2097153 * 10001:=Nat.mul_le_mul oT (Nat.le_refl _)
 omega
theorem gW2_len {g:Gram} (hg:smGr g) (hs:∀s∈g.syms,YX s=true):∀{i:Nat},i≤g.rules.length→(∀j (h:j<g.rules.length),j<i→Zw g.rules[j]=true)→(gW2 g i).length ≤ 314572800+i * 22000000000
 | 0,_,_ => by
  have h:=gW1_len (g:=g) (i:=g.syms.length) (Nat.le_refl _) fun j h _ => hs _ (List.getElem_mem h)
  rw[gW2_zero] at h
  have:=hg.1
  omega
 | i+1,h,hv=>by
  have ih:=gW2_len hg hs (i:=i) oT fun j h1 h2=>hv j h1 oT
  have h1:=rJoin_len (hv i h oT) (hg.2.2.2 _ (List.getElem_mem h))
  rw[gW2_succ h]
  simp only[List.length_append,List.length_cons,List.length_nil]
  omega
theorem gLn_take {g:Gram} (hg:smGr g):∀{i:Nat},i≤g.rules.length→(∀j (h:j<g.rules.length),j<i→Zw g.rules[j]=true)→((g.rules.take i).flatMap rLn).length ≤ i * 2097153
 | 0,_,_ => by simp
 | i+1,h,hv=>by
  have ih:=gLn_take hg (i:=i) oT fun j h1 h2=>hv j h1 oT
  have h2:=fmtR_len g.rules[i]
  rw[rLn_fmt (hv i h oT)] at h2
  obtain ⟨_,k2,k3,_⟩:=hg.2.2.2 _ (List.getElem_mem h)
  rw[List.take_succ_eq_append_getElem h,List.flatMap_append,List.length_append]
  simp only[List.flatMap_cons,List.flatMap_nil,List.append_nil]
  omega
def gK1 (g:Gram) (i:Nat):List (List UInt8):=(g.syms.take i).map YQ
def gK2 (g:Gram) (i:Nat):List (List UInt8):=g.syms.map YQ++(g.rules.take i).flatMap rLn
theorem gK1_succ {g:Gram} {i:Nat} (h:i<g.syms.length):gK1 g (i+1)=gK1 g i++[YQ g.syms[i]]:=by
 unfold gK1
 rw[List.take_succ_eq_append_getElem h,List.map_append];rfl
theorem gK1_len {g:Gram} {i:Nat} (h:i≤g.syms.length):(gK1 g i).length = i:=by simp[gK1];omega
theorem gK2_zero (g:Gram):gK1 g g.syms.length=gK2 g 0:=by simp[gK1,gK2]
theorem gK2_succ {g:Gram} {i:Nat} (h:i<g.rules.length):gK2 g (i+1)=gK2 g i++rLn g.rules[i]:=by
 unfold gK2
 rw[List.take_succ_eq_append_getElem h,List.flatMap_append,←List.append_assoc];simp
theorem gK2_end (g:Gram):gK2 g g.rules.length=gLn g:=by
 simp[gK2,gLn,rLn]
 rfl
theorem gT_join {g:Gram} (h:gLn g≠[]):Zx [10] (gLn g)++[10]=gT g:=join_ln h
theorem gT_nil {g:Gram} (h:gLn g=[]):gT g=[]:=by unfold gT;rw[h];rfl
theorem fmtG_no {g:Gram} (h:¬vG g):fmtG g=[]:=by unfold fmtG;rw[if_neg h]
theorem fmtG_yes {g:Gram} (h:vG g):fmtG g=gT g:=by unfold fmtG;rw[if_pos h]
end Go.Gh
namespace Go.Gh
open Go.Lib
section
variable {α:Type} {p:α→Bool} {L:List α} {i k:Nat}
def runP (p:α→Bool) (L:List α) (i k:Nat):Prop:=i+1≤k∧k≤L.length∧∀j (h:j<L.length),i+1≤j→j<k→p L[j]=true
theorem run_0 (h:i<L.length):runP p L i (i+1):=⟨Nat.le_refl _,h,fun j _ h1 h2=>by omega⟩
theorem run_step (h:runP p L i k) (hk:k<L.length) (e:p L[k]=true):runP p L i (k+1):=by
 refine ⟨by have:=h.1;omega,hk,fun j h1 h2 h3=> ?_⟩
 by_cases hj:j=k
 ·subst hj;exact e
 ·exact h.2.2 j h1 h2 oT
theorem run_end (hi:i<L.length) (h:runP p L i k) (he:∀hk:k<L.length,p L[k]=false):(L.take k).drop i=L[i]::(L.drop (i+1)).takeWhile p∧L.drop k=(L.drop (i+1)).dropWhile p:=by
 obtain ⟨h1,h2,h3⟩:=h
 have e1:L.drop (i+1)=(L.take k).drop (i+1)++L.drop k:=by
  conv=>lhs;rw[←List.take_append_drop k L]
  rw[List.drop_append_of_le_length (by rw[List.length_take];omega)]
 have ht:=tw_all (p:=p) (a:=(L.take k).drop (i+1)) (b:=L.drop k) (fun x hx=>by
  obtain ⟨j,hj,rfl⟩:=List.mem_iff_getElem.1 hx
  simp only[List.length_drop,List.length_take] at hj
  rw[List.getElem_drop,List.getElem_take]
  exact h3 _ oT oT oT) (fun y t e=>by
  have hk:k<L.length:=by
   have:=congrArg List.length e
   simp only[List.length_drop,List.length_cons] at this
   omega
  rw[List.drop_eq_getElem_cons hk] at e
  rw[←(List.cons.inj e).1]
  exact he hk)
 rw[e1,ht.1,ht.2]
 refine ⟨?_,rfl⟩
 have hik:i<(L.take k).length := by rw[List.length_take];omega
 rw[List.drop_eq_getElem_cons hik,List.getElem_take]
end
def lnS (L:List (List UInt8)):Nat:=(L.flatMap (· ++ [10])).length
theorem lnS_cons (l:List UInt8) (L:List (List UInt8)):lnS (l::L)=l.length+1+lnS L:=by simp[lnS];omega
theorem lnS_app (a b:List (List UInt8)):lnS (a++b)=lnS a+lnS b:=by simp[lnS]
theorem lnS_spl:∀(n:Nat) (l:List UInt8),l.length≤n→lnS (spl 10 l)=l.length+1
 | 0,l,h=>by
  obtain rfl:=List.length_eq_zero_iff.1 (Nat.le_zero.1 h)
  rfl
 | n+1,l,h=>by
  rcases spl_dec (b:=10) l with ⟨_,e⟩|⟨w,t,_,rfl,e⟩
  ·rw[e];simp[lnS]
  ·simp only[List.length_append,List.length_cons] at h ⊢
   rw[e,lnS_cons,lnS_spl n t oT]
   omega
theorem fil_cnt {p:List UInt8→Bool} (hp:∀l,p l=true→1≤l.length):∀L:List (List UInt8),2 * (L.filter p).length ≤ lnS L
 | []=>by simp
 | l::L=>by
  have ih:=fil_cnt hp L
  rw[lnS_cons,List.filter_cons]
  split
  ·rename_i h
   have:=hp l h
   simp only[List.length_cons];omega
  ·omega
theorem lnS_ge:∀L:List (List UInt8),L.length≤lnS L
 | []=>Nat.zero_le _
 | l::L=>by have:=lnS_ge L;rw[lnS_cons,List.length_cons];omega
theorem lnS_at:∀{L:List (List UInt8)} {i:Nat} (h:i<L.length),L.length+L[i].length ≤ lnS L
 | l::L,0,h=>by have:=lnS_ge L;rw[lnS_cons];simp only[List.length_cons,List.getElem_cons_zero];omega
 | l::L,i+1,h=>by
  have:=lnS_at (L:=L) (i:=i) (by simpa using h)
  rw[lnS_cons];simp only[List.length_cons,List.getElem_cons_succ];omega
theorem st_len {w l:List UInt8} (h:stS w l=true):w.length+1≤l.length:=by
 simp only[stS,Bool.and_eq_true,decide_eq_true_eq] at h
 exact h.1
theorem rulL_cnt (PR:List (List UInt8)→Option Rul):∀L:List (List UInt8),(rulL PR L).length ≤ (L.filter isRu).length
 | []=>by simp[rulL]
 | l::L=>by
  have ih:=rulL_cnt PR L
  rw[rulL,List.filter_cons]
  split
  ·simp only[List.length_cons];omega
  ·exact ih
theorem rulL_mem {PR:List (List UInt8)→Option Rul} {Q:Rul→Prop}:∀{L:List (List UInt8)},L.length≤1048577→(∀l∈L,l.length≤1048576)→(∀ls,ls.length≤1048576→(∀l∈ls,l.length≤1048576)→Q ((PR ls).getD rulZ))→lnS L≤1048577→∀r∈rulL PR L,Q r
 | [],_,_,_,_,r,h=>by cases h
 | l::L,h1,h2,h3,h4,r,h=>by
  rw[lnS_cons] at h4
  simp only[List.length_cons] at h1
  rw[rulL] at h
  split at h
  ·rename_i hr
   rcases List.mem_cons.1 h with rfl|h
   ·refine h3 _ ?_ ?_
    ·have hl:=(List.takeWhile_sublist Ys (l:=L)).length_le
     have h5:=st_len hr
     have h6:L.length≤lnS L:=by
      clear h1 h2 h3 h4 h hl
      induction L with
      | nil=>simp
      | cons a L ih=>rw[lnS_cons];simp only[List.length_cons];omega
     simp only[List.length_cons];omega
    ·intro x hx
     rcases List.mem_cons.1 hx with rfl|hx
     ·exact h2 _ (by simp)
     ·exact h2 x (by simp[(List.takeWhile_sublist Ys).subset hx])
   ·exact rulL_mem (L:=L) oT (fun x hx=>h2 x (by simp[hx])) h3 oT r h
  ·exact rulL_mem (L:=L) oT (fun x hx=>h2 x (by simp[hx])) h3 oT r h
theorem grS_sz {s:List UInt8} (hs:s.length≤1048576):okGr (grS PY ZA s)∧smGr (grS PY ZA s):=by
 have h1:=lnS_spl _ s (Nat.le_refl _)
 have h2:=fil_cnt (p:=isSy) (fun l h=>by have:=st_len h;omega) (spl 10 s)
 have h3:=fil_cnt (p:=isRu) (fun l h=>by have:=st_len h;omega) (spl 10 s)
 have h4:=rulL_cnt ZA (spl 10 s)
 have h5:=Xz (b:=10) s
 have hl:∀l∈spl 10 s,l.length≤1048576:=fun l h=>Nat.le_trans (XS h) hs
 have hy:∀y∈(grS PY ZA s).syms,okSy y∧smSy y:=fun y h=>by
  obtain ⟨l,_,rfl⟩:=List.mem_map.1 h
  exact PY_sz l
 have hr:∀r∈(grS PY ZA s).rules,okRu r∧smRu r:=fun r h=>
  rulL_mem (PR:=ZA) (L:=spl 10 s) (Q:=fun r=>okRu r∧smRu r) oT hl (fun ls k1 k2=>⟨parS_okz k1 k2,parS_sm k1 k2⟩) oT r h
 have e1:(grS PY ZA s).syms.length = ((spl 10 s).filter isSy).length := List.length_map ..
 have e2:(grS PY ZA s).rules.length = (rulL ZA (spl 10 s)).length := rfl
 exact ⟨⟨fun y h=>(hy y h).1,fun r h=>(hr r h).1⟩,⟨oT,oT,fun y h=>(hy y h).2,fun r h=>(hr r h).2⟩⟩
def yS (l:List UInt8):Sym:=(PY l).getD symZ
def rS (ls:List (List UInt8)):Rul:=(ZA ls).getD rulZ
def grP (L:List (List UInt8)) (i:Nat) (ys:List Sym) (rs:List Rul):Prop:=i≤L.length∧ys++((L.drop i).filter isSy).map yS=(L.filter isSy).map yS∧rs++rulL ZA (L.drop i)=rulL ZA L
theorem gr_0 (L:List (List UInt8)):grP L 0 [] []:=⟨Nat.zero_le _,by simp,by simp⟩
theorem gr_len {L:List (List UInt8)} {i:Nat} {ys:List Sym} {rs:List Rul} (h:grP L i ys rs):ys.length≤L.length∧rs.length≤L.length:=by
 obtain ⟨_,h2,h3⟩:=h
 have k1:=congrArg List.length h2
 have k2:=congrArg List.length h3
 have k3:=rulL_cnt ZA L
 have k4:=List.length_filter_le isSy L
 have k5:=List.length_filter_le isRu L
 simp only[List.length_append,List.length_map] at k1 k2
 omega
theorem sy_ru {l:List UInt8} (h:isSy l=true):isRu l=false:=by
 simp only[isSy,stS,Bool.and_eq_true] at h
 have h1:=List.isPrefixOf_iff_prefix.1 h.2
 obtain ⟨t,rfl⟩:=h1
 simp[isRu,stS,ruP,symP,List.isPrefixOf]
theorem gr_sy {L:List (List UInt8)} {i:Nat} {ys:List Sym} {rs:List Rul} (h:grP L i ys rs) (hi:i<L.length) (e:isSy L[i]=true):grP L (i+1) (ys++[yS L[i]]) rs:=by
 obtain ⟨h1,h2,h3⟩:=h
 rw[List.drop_eq_getElem_cons hi] at h2 h3
 rw[List.filter_cons,if_pos e] at h2
 rw[rulL,sy_ru e] at h3
 exact ⟨hi,by rw[List.append_assoc];exact h2,h3⟩
theorem gr_ru {L:List (List UInt8)} {i:Nat} {ys:List Sym} {rs:List Rul} (h:grP L i ys rs) (hi:i<L.length) (e0:isSy L[i]=false) (e:isRu L[i]=true):grP L (i+1) ys (rs++[rS (L[i]::(L.drop (i+1)).takeWhile Ys)]):=by
 obtain ⟨h1,h2,h3⟩:=h
 rw[List.drop_eq_getElem_cons hi] at h2 h3
 rw[List.filter_cons,if_neg (by rw[e0];exact Bool.false_ne_true)] at h2
 rw[rulL,if_pos e] at h3
 exact ⟨hi,h2,by rw[List.append_assoc];exact h3⟩
theorem gr_no {L:List (List UInt8)} {i:Nat} {ys:List Sym} {rs:List Rul} (h:grP L i ys rs) (hi:i<L.length) (e0:isSy L[i]=false) (e:isRu L[i]=false):grP L (i+1) ys rs:=by
 obtain ⟨h1,h2,h3⟩:=h
 rw[List.drop_eq_getElem_cons hi] at h2 h3
 rw[List.filter_cons,if_neg (by rw[e0];exact Bool.false_ne_true)] at h2
 rw[rulL,e,if_neg Bool.false_ne_true] at h3
 exact ⟨hi,h2,h3⟩
theorem gr_end {s:List UInt8} {ys:List Sym} {rs:List Rul} (h:grP (spl 10 s) (spl 10 s).length ys rs):(⟨ys,rs⟩:Gram)=grS PY ZA s:=by
 obtain ⟨_,h2,h3⟩:=h
 rw[List.drop_length] at h2 h3
 have e1:ys=((spl 10 s).filter isSy).map yS:=by rw[←h2];simp
 have e2:rs=rulL ZA (spl 10 s):=by rw[←h3];simp[rulL]
 rw[e1,e2]
 rfl
def syP (L M:List (List UInt8)) (ys:List Sym):Prop:=syI PY L []=syI PY M ys∧ys.length+M.length≤L.length∧((ys.map YQ).flatMap (· ++ [10])).length + lnS M=lnS L
theorem sy_0 (L:List (List UInt8)):syP L L []:=⟨rfl,by simp,by simp⟩
theorem sy_yes {L t:List (List UInt8)} {l:List UInt8} {ys:List Sym} {s:Sym} (h:syP L (l::t) ys) (e:symP.isPrefixOf l=true) (k:PY l=some s):syP L t (ys++[s]):=by
 obtain ⟨h1,h2,h3⟩:=h
 have hl:=(PY_some.1 k).2
 rw[syI,if_pos e,k] at h1
 refine ⟨h1,by simp only[List.length_append,List.length_cons,List.length_nil] at h2 ⊢;omega,?_⟩
 rw[lnS_cons] at h3
 simp only[List.map_append,List.flatMap_append,List.length_append,List.map_cons,List.map_nil,List.flatMap_cons,List.flatMap_nil,List.length_cons,List.length_nil,hl]
 omega
theorem sy_none {L t:List (List UInt8)} {l:List UInt8} {ys:List Sym} (h:syP L (l::t) ys) (e:symP.isPrefixOf l=true) (k:PY l=none):syI PY L []=none:=by
 rw[h.1,syI,if_pos e,k]
theorem sy_stop {L t:List (List UInt8)} {l:List UInt8} {ys:List Sym} (h:syP L (l::t) ys) (e:symP.isPrefixOf l=false):syI PY L []=some (ys,l::t):=by
 rw[h.1,syI,e]
 rfl
theorem sy_nil {L:List (List UInt8)} {ys:List Sym} (h:syP L [] ys):syI PY L []=some (ys,[]):=by
 rw[h.1];rfl
def nRu (l:List UInt8):Bool:= !ruP.isPrefixOf l
def ruQ (L M:List (List UInt8)) (rs:List Rul):Prop:=(∃n,M.length≤n∧ruI ZA L.length L []=ruI ZA n M rs)∧rs.length+M.length≤L.length∧((rs.flatMap rLn).flatMap (· ++ [10])).length + lnS M=lnS L
theorem ru_0 (L:List (List UInt8)):ruQ L L []:=⟨⟨_,Nat.le_refl _,rfl⟩,by simp,by simp⟩
theorem ru_none {L t:List (List UInt8)} {l:List UInt8} {rs:List Rul} (h:ruQ L (l::t) rs) (k:ZA (l::t.takeWhile nRu)=none):ruI ZA L.length L []=none:=by
 obtain ⟨⟨n,hn,h1⟩,_⟩:=h
 obtain ⟨n,rfl⟩:∃m,n=m+1:=⟨n-1,by simp only[List.length_cons] at hn;omega⟩
 rw[h1,ruI]
 rw[show (fun x=> !ruP.isPrefixOf x)=nRu from rfl,k]
theorem ru_yes {L t:List (List UInt8)} {l:List UInt8} {rs:List Rul} {r:Rul} (h:ruQ L (l::t) rs) (k:ZA (l::t.takeWhile nRu)=some r) (hf:Zw r=true∧Za r=l::t.takeWhile nRu):ruQ L (t.dropWhile nRu) (rs++[r]):=by
 obtain ⟨⟨n,hn,h1⟩,h2,h3⟩:=h
 simp only[List.length_cons] at hn h2
 obtain ⟨n,rfl⟩:∃m,n=m+1:=⟨n-1,oT⟩
 rw[ruI,show (fun x=> !ruP.isPrefixOf x)=nRu from rfl,k] at h1
 have hd:=(List.dropWhile_sublist nRu (l:=t)).length_le
 refine ⟨⟨n,oT,h1⟩,by simp only[List.length_append,List.length_cons,List.length_nil];omega,?_⟩
 have e:lnS (l::t)=lnS (l::t.takeWhile nRu)+lnS (t.dropWhile nRu):=by
  rw[←lnS_app,List.cons_append,List.takeWhile_append_dropWhile]
 rw[e] at h3
 have e2:([r].flatMap rLn).flatMap (· ++ [10])=(l::t.takeWhile nRu).flatMap (· ++ [10]):=by
  rw[←hf.2,rLn_fmt hf.1];simp
 rw[List.flatMap_append,List.flatMap_append,List.length_append,e2]
 unfold lnS at h3 ⊢
 omega
theorem ru_nil {L:List (List UInt8)} {rs:List Rul} (h:ruQ L [] rs):ruI ZA L.length L []=some rs:=by
 obtain ⟨⟨n,_,h1⟩,_⟩:=h
 rw[h1]
 cases n<;>rfl
theorem gT_len {L M:List (List UInt8)} {ys:List Sym} {rs:List Rul} (h1:syP L M ys) (h2:ruQ M [] rs):(gT ⟨ys,rs⟩).length = lnS L:=by
 obtain ⟨_,_,h3⟩:=h1
 obtain ⟨_,_,h4⟩:=h2
 have h5:lnS ([]:List (List UInt8))=0:=rfl
 have e:gT ⟨ys,rs⟩=(ys.map YQ).flatMap (· ++ [10])++(rs.flatMap rLn).flatMap (· ++ [10]):=by
  simp[gT,gLn]
  rfl
 rw[e,List.length_append]
 omega
theorem PR_some {ls:List (List UInt8)} {r:Rul}:ZA ls=some r↔Zw r=true∧rdR r∧Za r=ls:=parS_some
theorem parG_same (s:List UInt8):parGI PY ZA s=YR PY ZA s:=by
 refine Option.ext fun g=> ?_
 rw[parGI_some (fun _ _ => PY_some) (fun _ _ => PR_some),parGS_some (fun _ _ => PY_some) (fun _ _ => PR_some)]
theorem neA_mem:∀{H:GH} {r k:Nat} {x:Nat×List GV},neA r H→(k,x)∈H→¬r=k
 | (q,y)::H,r,k,x,h,hm=>by
  rcases List.mem_cons.1 hm with e|hm
  ·rw[(Prod.mk.inj e).1];exact h.1
  ·exact neA_mem h.2.2 hm
def AnsY (a:Option Sym) (H:GH) (g:GV) (H':GH):Prop:=∃H1,(∃q,g = .tup [.agg [T (a.getD symZ).name,.own q 4 0 (a.getD symZ).atts.length],B a.isSome]∧H1=[(q,4,(a.getD symZ).atts.map At)])∧H'=H1++H
theorem FR.nilSy (v:GV) (H:GH):∃q,FR (.tup [.agg [T noS,ZI],v]) H (.tup [.agg [T noS,.own q 4 0 0],v]) ((q,4,[])::H):=by
 obtain ⟨q1,o1,h1⟩:=Yu (names H)
 exact ⟨q1,FR.trans (FR.addv (sz:=4) o1 h1) (FR.sub (.tup (.cons (.agg (.cons .refl (.cons .virt .nil))) (.cons .refl .nil))))⟩
def AnsG (a:Option Gram) (H:GH) (g:GV) (H':GH):Prop:=∃H1,(∃qs qr,g = .tup [.agg [.own qs 2 0 (a.getD ⟨[],[]⟩).syms.length,.own qr 6 0 (a.getD ⟨[],[]⟩).rules.length],B a.isSome]∧H1=[(qs,2,(a.getD ⟨[],[]⟩).syms.map SyO),(qr,6,(a.getD ⟨[],[]⟩).rules.map RuO)])∧H'=H1++H
theorem FR.nilGr (v:GV) (H:GH):∃q1 q2,FR (.tup [.agg [ZI,ZI],v]) H (.tup [.agg [.own q1 2 0 0,.own q2 6 0 0],v]) ((q1,2,[])::(q2,6,[])::H):=by
 obtain ⟨q2,o2,h2⟩:=Yu (names H)
 obtain ⟨q1,o1,h1⟩:=Yu (names ((q2,6,[])::H))
 exact ⟨q1,q2,FR.trans (FR.addv (sz:=6) o2 h2) (FR.trans (FR.addv (sz:=2) o1 h1) (FR.sub (.tup (.cons (.agg (.cons .virt (.cons .virt .nil))) (.cons .refl .nil)))))⟩
def syQ (L M:List (List UInt8)) (ys:List Sym):Prop:=syP L M ys∧(∀l∈M,l.length≤1048576)∧∀y∈ys,okSy y∧smSy y
theorem syQ_yes {L t:List (List UInt8)} {l:List UInt8} {ys:List Sym} {s:Sym} (h:syQ L (l::t) ys) (e:symP.isPrefixOf l=true) (k:PY l=some s):syQ L t (ys++[s]):=by
 refine ⟨sy_yes h.1 e k,fun x hx=>h.2.1 x (by simp[hx]),fun y hy=> ?_⟩
 rcases List.mem_append.1 hy with hy|hy
 ·exact h.2.2 y hy
 ·rw[List.mem_singleton] at hy
  have:=PY_sz l
  rw[k] at this
  subst hy;exact this
def ruR (L M:List (List UInt8)) (rs:List Rul):Prop:=ruQ L M rs∧(∀l∈M,l.length≤1048576)∧∀r∈rs,okRu r∧smRu r
theorem ruR_ls {L t:List (List UInt8)} {l:List UInt8} {rs:List Rul} (h:ruR L (l::t) rs) (hL:L.length≤1048576):(l::t.takeWhile nRu).length ≤ 1048576∧∀x∈l::t.takeWhile nRu,x.length≤1048576:=by
 have h1:=h.1.2.1
 have h2:=(List.takeWhile_sublist nRu (l:=t)).length_le
 simp only[List.length_cons] at h1 ⊢
 refine ⟨oT,fun x hx=>h.2.1 x ?_⟩
 rcases List.mem_cons.1 hx with rfl|hx
 ·simp
 ·simp[(List.takeWhile_sublist nRu).subset hx]
theorem ruR_yes {L t:List (List UInt8)} {l:List UInt8} {rs:List Rul} {r:Rul} (h:ruR L (l::t) rs) (hL:L.length≤1048576) (k:ZA (l::t.takeWhile nRu)=some r):ruR L (t.dropWhile nRu) (rs++[r]):=by
 obtain ⟨h1,h2⟩:=ruR_ls h hL
 have hp:=PR_some.1 k
 refine ⟨ru_yes h.1 k ⟨hp.1,hp.2.2⟩,fun x hx=>h.2.1 x (by simp[(List.dropWhile_sublist nRu).subset hx]),fun y hy=> ?_⟩
 rcases List.mem_append.1 hy with hy|hy
 ·exact h.2.2 y hy
 ·rw[List.mem_singleton] at hy
  have e1:=parS_okz h1 h2
  have e2:=parS_sm h1 h2
  rw[k] at e1 e2
  subst hy;exact ⟨e1,e2⟩
theorem gr_ok {L M:List (List UInt8)} {ys:List Sym} {rs:List Rul} (h1:syQ L M ys) (h2:ruR M [] rs) (hL:L.length≤1048576):okGr ⟨ys,rs⟩∧smGr ⟨ys,rs⟩:=by
 have k1:=h1.1.2.1
 have k2:=h2.1.2.1
 simp only[List.length_nil,Nat.add_zero] at k2
 exact ⟨⟨fun y h=>(h1.2.2 y h).1,fun r h=>(h2.2.2 r h).1⟩,⟨by show ys.length ≤ _;omega,by show rs.length ≤ _;omega,fun y h=>(h1.2.2 y h).2,fun r h=>(h2.2.2 r h).2⟩⟩
def grZ:Gram:=⟨[],[]⟩
theorem wR_ln {r:Rul} (hv:Zw r=true) (hs:smRu r):wR r≤14000002 * (1+(r.eqs.length+r.cons.length)):=by
 have k0:=smw_wS r.right
 have k1:smw wQ r.eqs≤r.eqs.length * 7000002:=smw_bd fun q hq=>by have:=ctE_sm (hs.2.2.2.1 q hq);show 2 + _ ≤ _;omega
 have k2:smw wC r.cons≤r.cons.length * 14000002:=smw_bd fun c hc=>by
  have h:=hs.2.2.2.2 c hc
  have h1:=ctE_sm h.1
  have h2:=ctE_sm h.2
  show 2 + _ + _ ≤ _;omega
 have k3:r.right.length≤3:=by
  simp only[Zw,Bool.and_eq_true,decide_eq_true_eq] at hv
  exact hv.2.2.1
 show 3+smw wS r.right+smw wQ r.eqs+smw wC r.cons ≤ _
 omega
theorem rLn_len (r:Rul):(rLn r).length = 1+(r.eqs.length+r.cons.length):=by simp[rLn,bdT];omega
theorem smR_ln:∀{l:List Rul},(∀r∈l,Zw r=true)→(∀r∈l,smRu r)→smw wR l≤14000002 * (l.flatMap rLn).length
 | [],_,_ => by simp[smw]
 | r::l,h1,h2=>by
  have ih:=smR_ln (l:=l) (fun x hx=>h1 x (by simp[hx])) (fun x hx=>h2 x (by simp[hx]))
  have k:=wR_ln (h1 r (by simp)) (h2 r (by simp))
  have e:=rLn_len r
  simp only[smw,List.flatMap_cons,List.length_append]
  omega
theorem parGS_zs {s:List UInt8} (hs:s.length≤1048576):(okGr ((YR PY ZA s).getD grZ)∧smGr ((YR PY ZA s).getD grZ))∧(1+(smw Zb ((YR PY ZA s).getD grZ).syms : Int)+smw wR ((YR PY ZA s).getD grZ).rules < 9223372036854775807)∧(vG ((YR PY ZA s).getD grZ)→(gT ((YR PY ZA s).getD grZ)).length ≤ 1048576):=by
 cases h:YR PY ZA s with
 | none=>
  refine ⟨⟨⟨(fun x hx=>by cases hx),(fun x hx=>by cases hx)⟩,⟨by decide,by decide,(fun x hx=>by cases hx),(fun x hx=>by cases hx)⟩⟩,by simp[grZ,smw],fun _ => by decide⟩
 | some G=>
  obtain ⟨k1,k2,k3,k4⟩:=(parGS_some (fun _ _ => PY_some) (fun _ _ => PR_some)).1 h
  have hz:=grS_sz hs
  have hG:grS PY ZA s=G:=by
   unfold YR at h
   split at h
   ·exact Option.some.inj h
   ·cases h
  rw[hG] at hz
  show (okGr G∧smGr G)∧(1+(smw Zb G.syms:Int)+smw wR G.rules<9223372036854775807) ∧ _
  have e1:=smR_ln k1.2 hz.2.2.2.2
  have e2:smw Zb G.syms≤G.syms.length * 17:=smw_bd fun y hy=>by
   have h4:=(sym_parts (k1.1 y hy)).2.2
   have h5:smw wA y.atts≤y.atts.length * 4:=smw_bd fun a ha=>Nat.le_refl _
   show 1+smw wA y.atts≤17;omega
  have e3:=lnS_ge (gLn G)
  have e4:lnS (gLn G)=s.length:=by rw[←k3];rfl
  have e5:(gLn G).length = G.syms.length+(G.rules.flatMap rLn).length := by simp[gLn,rLn]
  exact ⟨hz,oT,fun _ => by show (gT G).length ≤ _;rw[k3];exact hs⟩
end Go.Gh
namespace Go.Gh
open Lib Go.RowKit
theorem cells_of_strs {H:Type} {enc:TypeId×Value→H} {P:Program} {w:World} {base:Nat} {sp:Nat→Bool} {held:Bool} {fuel:Nat} {t e:TypeId} {n:Nat} {cs:List Value} {zs:List ByteArray} {p:List MemPlace}
 (ht:P.underlying t=some (.array n e)) (he:P.underlying e=some .string) (hce:P.cellsOf e=1) (hct:P.cellsOf t=n)
 (h:DataW.trod enc P w base sp held fuel t cs=some (.agg (zs.map fun z=> .lit (.string z.data.toList)),p)):cs=zs.map Value.string:=by
 cases fuel with
 | zero=>simp[DataW.trod] at h
 | succ fuel=>
  simp only[DataW.trod,ht,hce,hct,Nat.mul_one] at h
  split at h
  ·rename_i hl
   obtain ⟨xs,hm,hx⟩:=Option.map_eq_some_iff.1 h
   have hxs:xs.map (·.1)=zs.map fun z=>(DataW.lit (.string z.data.toList):DataW H):=by
    have:=congrArg Prod.fst hx
    simpa using this
   have hxl:xs.length=n:=by simpa using mapM_length hm
   have hzl:zs.length=n:=by
    have:=congrArg List.length hxs
    simp at this
    omega
   apply List.ext_getElem?
   intro i
   by_cases hi:i<n
   ·obtain ⟨b,hb,hf⟩:=mapM_at hm i i (by simp[hi])
    obtain ⟨z,hc,rfl,_⟩:=DataW.trod_string he hf
    have h1:cs[i]? = some (.string z):=by
     have:=congrArg (·[0]?) hc
     simpa[List.getElem?_take,List.getElem?_drop] using this
    have h2:(xs.map (·.1))[i]? = some (DataW.lit (.string z.data.toList):DataW H):=by simp[hb]
    rw[hxs] at h2
    simp only[List.getElem?_map,Option.map_eq_some_iff,DataW.lit.injEq,Lit.string.injEq] at h2
    obtain ⟨z',hz',e2⟩:=h2
    have e3:z'=z:=by
     have:z'.data=z.data:=by rw[←Array.toArray_toList (xs:=z'.data),e2,Array.toArray_toList]
     cases z';cases z;simp_all
    subst e3
    simp[h1,hz']
   ·rw[List.getElem?_eq_none oT,List.getElem?_eq_none (by simp;omega)]
  ·cases h
theorem TB.wrd {P:Program} {W:World} {n k:Nat} {s:String} (hk:1000010≤k) (hg:P.globalNamed s=some n) (h:W.var? P s=some ((YC k).map Value.string).toArray):TB W (Yt W) (4 * n+3) k:=by
 refine TB.of_var hg h ?_
 simp only[tabP]
 rw[if_neg oT,if_neg oT,if_pos hk]
 trivial
theorem HM.tabG {P:Program} {W:World} {a b c d e f:Nat} {s1 s2 s3 s5 s6:String} (h1:P.globalNamed s1=some a) (k1:TabIs P W s1 .u64 pow10Tab) (h2:P.globalNamed s2=some b) (k2:∃u v,W.var? P s2=some #[.iface u v])
 (h3:P.globalNamed s3=some c) (k3:∃u v,W.var? P s3=some #[.iface u v]) (k4:∃m,W.cell? ⟨d,0,none⟩=some (.int .i64 m))
 (h5:P.globalNamed s5=some e) (k5:W.var? P s5=some ((YC 1000010).map Value.string).toArray) (h6:P.globalNamed s6=some f) (k6:W.var? P s6=some ((YC 1000011).map Value.string).toArray):HM W (Yt W) (tabG a b c d e f) []:=
 HM.of_tabs fun x hx=>by
  simp only[Go.Gh.tabG,Go.Gh.tabF,List.mem_cons,List.not_mem_nil,or_false] at hx
  rcases hx with rfl|rfl|rfl|rfl|rfl|rfl
  ·exact ⟨rfl,by dsimp only;omega,TB.wrd (by dsimp only;omega) h5 k5⟩
  ·exact ⟨rfl,by dsimp only;omega,TB.wrd (by dsimp only;omega) h6 k6⟩
  ·exact ⟨rfl,by dsimp only;omega,TB.p10 h1 k1⟩
  ·exact ⟨rfl,by dsimp only;omega,TB.ifc h2 k2⟩
  ·exact ⟨rfl,by dsimp only;omega,TB.ifc h3 k3⟩
  ·exact ⟨rfl,by dsimp only;omega,TB.num k4⟩
open Go.ChangeShapes Go.WideShapes Go.WideElems in
theorem trodVars_stays {H:Type} {enc:TypeId×Value→H} {P:Program} {W W':World} {sp':Nat→Bool} (hl:laidOutB P=true) (hb:Below W.heap.size W W'):∀{ns:List String} {gs:List (DataW H)} {q:List MemPlace},
 (∀n∈ns,∀g t,P.globalNamed n=some g→(P.globals[g]?).map (·.type)=some t→P.readableRec t=true∧t<P.types.size)→DataW.TrodVars enc P W (fun _ => true) ns gs q→(∀p∈q,p.block<W.heap.size)→(∀p∈q,sp' p.block=true)→DataW.TrodVars enc P W' sp' ns gs q
 | [],[],q,_,h,_,_ => h
 | [],_ :: _,_,_,h,_,_ => h.elim
 | _ :: _,[],_,_,h,_,_ => h.elim
 | n::ns,d::ds,ps,hr,h,hlt,hs=>by
  obtain ⟨g,t,cs,fuel,p,q,h1,h2,h3,h4,h5,rfl⟩:=h
  obtain ⟨r1,r2⟩:=hr n (by simp) g t h1 h2
  refine ⟨g,t,cs,fuel,p,q,h1,h2,?_,?_,trodVars_stays hl hb (fun m hm=>hr m (by simp[hm])) h5 (fun x hx=>hlt x (by simp[hx])) (fun x hx=>hs x (by simp[hx])),rfl⟩
  ·simp only[World.var?,h1,Option.bind_some] at h3 ⊢
   split at h3
   case h_2=>cases h3
   rename_i c T fz hb2
   rw[hb.block g (lt_of_heap hb2),hb2]
   exact h3
  ·exact DataW.trod_stays (kids_book hl r1) (book_sized r1) (fun h=>by cases h) ⟨r2,book_self t⟩ h4 (fun x hx=>hb.same (hlt x (by simp[hx]))) (fun x hx=>hs x (by simp[hx]))
end Go.Gh
namespace Go.Gh
end Go.Gh
namespace Go.Gh
@[irreducible] def MkQ (p:Prop):Prop:=p
theorem qI {p:Prop} (h:MkQ p):p:=by unfold MkQ at h;exact h
theorem qU {p:Prop} (h:p):MkQ p:=by unfold MkQ;exact h
theorem VQ:type_of% (jO @Zy (jO @hset_c (jO @hdel_c (jO @neN (jO @neA_cons (jO @neA_nil @Y4)))))):=(jO @Zy (jO @hset_c (jO @hdel_c (jO @neN (jO @neA_cons (jO @neA_nil @Y4))))))
theorem VN:type_of% (jO @neH_cons (jO @neH_nil (jO @neA_cons (jO @neA_nil (jO @and_true @true_and))))):=(jO @neH_cons (jO @neH_nil (jO @neA_cons (jO @neA_nil (jO @and_true @true_and)))))
open Nat (reduceEqDiff reduceLeDiff reduceAdd reduceLT)
open Int (reduceNe)
theorem aO {a b:Prop} (k:b) (h:a:=by omega):a∧b:=jO h k
theorem eO {a:Prop} {b:a→Prop} (h:a:=by omega) (k:b h):∃h,b h:=Exists.intro h k
theorem V0 {p q:Prop} (k:q) (h:q→p:=by intro k;first|(replace k:=qU k;(try simp (maxSteps:=9^7) +contextual only[↓ S2,S2,↓reduceIte,reduceNe,reduceEqDiff,reduceCtorEq,reduceLeDiff,reduceAdd,reduceLT,VQ]);(repeat (simp only[ZU];try simp (maxSteps:=9^7) +contextual only[↓ S2,S2,↓reduceIte,reduceNe,reduceEqDiff,reduceCtorEq,reduceLeDiff,reduceAdd,reduceLT,VQ]));(try simp +contextual (disch:=omega) only[Z2]);(with_reducible repeat' first|refine aO ?_ | refine eO ?_);exact qI k)|(have _ : True:=k;(try simp (maxSteps:=9^7) +contextual only[↓ S2,S2,↓reduceIte,reduceNe,reduceEqDiff,reduceCtorEq,reduceLeDiff,reduceAdd,reduceLT,VQ]);(repeat (simp only[ZU];try simp (maxSteps:=9^7) +contextual only[↓ S2,S2,↓reduceIte,reduceNe,reduceEqDiff,reduceCtorEq,reduceLeDiff,reduceAdd,reduceLT,VQ]));(try simp +contextual (disch:=omega) only[Z2]);done)):p:=h k
theorem V1 {p q f:Prop} (a:f) (k:q) (h:f→q→p:=by intro a k;first|(replace k:=qU k;(try simp (maxSteps:=9^7) +contextual only[↓ S2,S2,↓reduceIte,reduceNe,reduceEqDiff,reduceCtorEq,reduceLeDiff,reduceAdd,reduceLT,VQ,a]);(repeat (simp only[ZU];try simp (maxSteps:=9^7) +contextual only[↓ S2,S2,↓reduceIte,reduceNe,reduceEqDiff,reduceCtorEq,reduceLeDiff,reduceAdd,reduceLT,VQ,a]));(try simp +contextual (disch:=omega) only[Z2,a]);(try clear a);(with_reducible repeat' first|refine aO ?_ | refine eO ?_);first|exact qI k|(revert a;exact qI k))|(have _ : True:=k;(try simp (maxSteps:=9^7) +contextual only[↓ S2,S2,↓reduceIte,reduceNe,reduceEqDiff,reduceCtorEq,reduceLeDiff,reduceAdd,reduceLT,VQ,a]);(repeat (simp only[ZU];try simp (maxSteps:=9^7) +contextual only[↓ S2,S2,↓reduceIte,reduceNe,reduceEqDiff,reduceCtorEq,reduceLeDiff,reduceAdd,reduceLT,VQ,a]));(try simp +contextual (disch:=omega) only[Z2,a]);done)):p:=h a k
theorem V2 {p q f:Prop} (a:f) (k:q) (h:f→q→p:=by intro a k;first|(replace k:=qU k;(try simp (maxSteps:=9^7) +contextual only[↓ S2,S2,↓reduceIte,reduceNe,reduceEqDiff,reduceCtorEq,reduceLeDiff,reduceAdd,reduceLT,VQ,Int.reduceEq,Int.reduceLT,Int.reduceLE,Int.reduceToNat,Int.reduceSub,a]);(repeat (simp only[ZU];try simp (maxSteps:=9^7) +contextual only[↓ S2,S2,↓reduceIte,reduceNe,reduceEqDiff,reduceCtorEq,reduceLeDiff,reduceAdd,reduceLT,VQ,Int.reduceEq,Int.reduceLT,Int.reduceLE,Int.reduceToNat,Int.reduceSub,a]));(try simp +contextual (disch:=omega) only[Z2,a]);(try clear a);(with_reducible repeat' first|refine aO ?_ | refine eO ?_);first|exact qI k|(revert a;exact qI k))|(have _ : True:=k;(try simp (maxSteps:=9^7) +contextual only[↓ S2,S2,↓reduceIte,reduceNe,reduceEqDiff,reduceCtorEq,reduceLeDiff,reduceAdd,reduceLT,VQ,Int.reduceEq,Int.reduceLT,Int.reduceLE,Int.reduceToNat,Int.reduceSub,a]);(repeat (simp only[ZU];try simp (maxSteps:=9^7) +contextual only[↓ S2,S2,↓reduceIte,reduceNe,reduceEqDiff,reduceCtorEq,reduceLeDiff,reduceAdd,reduceLT,VQ,Int.reduceEq,Int.reduceLT,Int.reduceLE,Int.reduceToNat,Int.reduceSub,a]));(try simp +contextual (disch:=omega) only[Z2,a]);done)):p:=h a k
theorem R0 {p q:Prop} (k:q) (h:q→p:=by intro k;first|(replace k:=qU k;(try simp (maxSteps:=9^7) only[↓ S2,S2,Y4,↓reduceIte,reduceNe,reduceEqDiff,reduceCtorEq,reduceLeDiff,reduceAdd,reduceLT]);(repeat (simp only[ZU];try simp (maxSteps:=9^7) only[↓ S2,S2,Y4,↓reduceIte,reduceNe,reduceEqDiff,reduceCtorEq,reduceLeDiff,reduceAdd,reduceLT]));(try simp +contextual (disch:=omega) only[Z2]);(with_reducible repeat' first|refine aO ?_ | refine eO ?_);exact qI k)|(have _ : True:=k;(try simp (maxSteps:=9^7) only[↓ S2,S2,Y4,↓reduceIte,reduceNe,reduceEqDiff,reduceCtorEq,reduceLeDiff,reduceAdd,reduceLT]);(repeat (simp only[ZU];try simp (maxSteps:=9^7) only[↓ S2,S2,Y4,↓reduceIte,reduceNe,reduceEqDiff,reduceCtorEq,reduceLeDiff,reduceAdd,reduceLT]));(try simp +contextual (disch:=omega) only[Z2]);done)):p:=h k
theorem R1 {p q f:Prop} (a:f) (k:q) (h:f→q→p:=by intro a k;first|(replace k:=qU k;(try simp (maxSteps:=9^7) only[↓ S2,S2,Y4,↓reduceIte,reduceNe,reduceEqDiff,reduceCtorEq,reduceLeDiff,reduceAdd,reduceLT,a]);(repeat (simp only[ZU];try simp (maxSteps:=9^7) only[↓ S2,S2,Y4,↓reduceIte,reduceNe,reduceEqDiff,reduceCtorEq,reduceLeDiff,reduceAdd,reduceLT,a]));(try simp +contextual (disch:=omega) only[Z2,a]);(try clear a);(with_reducible repeat' first|refine aO ?_ | refine eO ?_);first|exact qI k|(revert a;exact qI k))|(have _ : True:=k;(try simp (maxSteps:=9^7) only[↓ S2,S2,Y4,↓reduceIte,reduceNe,reduceEqDiff,reduceCtorEq,reduceLeDiff,reduceAdd,reduceLT,a]);(repeat (simp only[ZU];try simp (maxSteps:=9^7) only[↓ S2,S2,Y4,↓reduceIte,reduceNe,reduceEqDiff,reduceCtorEq,reduceLeDiff,reduceAdd,reduceLT,a]));(try simp +contextual (disch:=omega) only[Z2,a]);done)):p:=h a k
theorem X0 {p q:Prop} (k:q) (h:q→p:=by intro k;first|(replace k:=qU k;(try simp (maxSteps:=9^7) only[↓ S2,S2,Y4,↓reduceIte,reduceNe,reduceEqDiff,reduceCtorEq,reduceLeDiff,reduceAdd,reduceLT]);(with_reducible repeat' first|refine aO ?_ | refine eO ?_);exact qI k)|(have _ : True:=k;(try simp (maxSteps:=9^7) only[↓ S2,S2,Y4,↓reduceIte,reduceNe,reduceEqDiff,reduceCtorEq,reduceLeDiff,reduceAdd,reduceLT]);done)):p:=h k
theorem K1 {p q f:Prop} (a:f) (k:q) (h:f→q→p:=by intro a k;first|(simp (maxSteps:=9^7) only[↓ S2,S2,Y4,↓reduceIte,reduceNe,reduceEqDiff,reduceCtorEq,reduceLeDiff,reduceAdd,reduceLT,a];first|exact k|(revert a;exact k))|(simp only[ZU];first|exact k|(revert a;exact k))|(simp +contextual (disch:=omega) only[Z2];first|exact k|(revert a;exact k))|(have _ : True:=k;simp (maxSteps:=9^7) only[↓ S2,S2,Y4,↓reduceIte,reduceNe,reduceEqDiff,reduceCtorEq,reduceLeDiff,reduceAdd,reduceLT,a];done)|(have _ : True:=k;simp only[ZU];done)|(have _ : True:=k;simp +contextual (disch:=omega) only[Z2];done)):p:=h a k
theorem oF {p:Prop} (h:False:=by omega):p:=h.elim
theorem nL (a b:Nat):a<b∨a≥b:=Nat.lt_or_ge a b
theorem gM {α:Type} {l:List α} {n:Nat} (h:n<l.length):l[n]∈l:=List.getElem_mem h
theorem tL {α:Type} {l:List α} {i:Nat} (h:l.length≤i):l.take i=l:=List.take_of_length_le h
theorem bC (b:Bool):b=false∨b=true:=(Bool.eq_false_or_eq_true b).symm
theorem hgO {r q:Nat} (h:r≠q) (x:Nat×List GV) (H:GH):Z7 ((r,x)::H) q=Z7 H q:=Z1 h
theorem hsO {r q:Nat} (h:r≠q) (s:Nat) (e f:List GV) (H:GH):Z3 ((r,s,e)::H) q f=(r,s,e)::Z3 H q f:=ZQ h
theorem hgS {r s:Nat} {e:List GV} {H:GH} (h:Z7 H r=some (s,e)) (f:List GV):Z7 (Z3 H r f) r=some (s,f):=ZR h
end Go.Gh
namespace Go.Gh.Z
abbrev x (d:Nat) (o:GOp):GI:=⟨some d,none,o⟩
abbrev y (d g:Nat) (o:GOp):GI:=⟨some d,some (g,true),o⟩
abbrev z (d g:Nat) (o:GOp):GI:=⟨some d,some (g,false),o⟩
abbrev m (d a:Nat):GI:=⟨some d,none,.mov (.t a)⟩
abbrev k (d:Nat) (n:Int):GI:=⟨some d,none,.mov (.k (.val (.int .i64 n)))⟩
abbrev b (d:Nat) (n:Bool):GI:=⟨some d,none,.mov (.k (.val (.bool n)))⟩
abbrev l (d a:Nat):GI:=⟨some d,none,.load 1 false (.t a)⟩
abbrev h (d n a:Nat):GI:=⟨some d,none,.load n true (.t a)⟩
abbrev f (d o a:Nat):GI:=⟨some d,none,.faddr o 1 false (.t a)⟩
abbrev e (d o n a:Nat):GI:=⟨some d,none,.faddr o n true (.t a)⟩
abbrev i (d n a c:Nat):GI:=⟨some d,none,.iaddr n (.t a) (.t c)⟩
abbrev c (d f:Nat) (a:List GE):GI:=⟨some d,none,.call false f a⟩
abbrev o (d:Nat) (p:BinOp) (a b:Nat):GI:=⟨some d,none,.bin p (.t a) (.t b)⟩
abbrev q (d:Nat) (p:BinOp) (a:Nat) (n:Int):GI:=⟨some d,none,.bin p (.t a) (.k (.val (.int .i64 n)))⟩
abbrev n (d a:Nat):GI:=⟨some d,none,.len (.t a)⟩
abbrev w (d a:Nat):GI:=⟨some d,none,.not (.t a)⟩
abbrev a (d n r:Nat):GI:=⟨some d,none,.boxro n (.t r)⟩
abbrev t (d n r:Nat):GI:=⟨some d,none,.stro n d (.t r)⟩
abbrev u (d n:Nat):GI:=⟨some d,none,.allocr n⟩
abbrev v (d r j:Nat):GI:=⟨some d,none,.ext (.t r) j⟩
abbrev p (n o a:Nat):GOp:= .faddr o n false (.t a)
abbrev r (n a:Nat):GOp:= .load n false (.t a)
abbrev j (n a:Nat):GOp:= .load n true (.t a)
abbrev A (d a b:Nat):GI:=⟨some d,none,.pick (.t a) (.t b) (.k (.val (.bool false)))⟩
abbrev O (d a b:Nat):GI:=⟨some d,none,.pick (.t a) (.k (.val (.bool true))) (.t b)⟩
abbrev M (d g a:Nat):GI:=⟨some d,some (g,true),.mov (.t a)⟩
abbrev N (d g a:Nat):GI:=⟨some d,some (g,false),.mov (.t a)⟩
abbrev I (o p:Nat) (a:Nat) (n:Int):GI:=⟨some o,some (p,true),.bin .eql (.t a) (.k (.val (.int .i64 n)))⟩
abbrev J (o p:Nat) (a:Nat) (n:Int):GI:=⟨some o,some (p,false),.bin .eql (.t a) (.k (.val (.int .i64 n)))⟩
abbrev G (d f:Nat) (a:List GE):GI:=⟨some d,none,.call true f a⟩
abbrev Q (d n b s x:Nat):GI:=⟨some d,none,.append n b (.t s) (.t x)⟩
abbrev E (d n:Nat) (b:Bool):GI:=⟨some d,none,.bslice n [] 0 b []⟩
abbrev Z (d:Nat):GI:=⟨some d,none,.mov (.k (.val (.slice none 0 0)))⟩
abbrev K (n:Int):GE:= .k (.val (.int .i64 n))
abbrev S (a b:GC):GC:= .seq a b
abbrev D (n:Nat) (a b:GC):GC:= .cond n a b
abbrev F:GC:= .skip
abbrev R:GC:= .ret
abbrev C (c e:Nat) (x:GC):GC:= .seq (.cond c .skip (.exit e)) x
abbrev B (n:Nat) (x:GC):GC:= .block n (.loop x)
abbrev s (a:List GI) (b:GC):GC:= .seq (.reg a) b
end Go.Gh.Z
namespace Go.Gh
theorem jF {P:Program} {f:Nat} {fn:Func} {F:GFun} {c:Code} (h:P.funcs[f]? = some fn) (md:List (Nat×Nat):=[]) (h0:fn.body=some c:=by rfl) (h1:(fn.name == "runtime.NumGoroutine")=false:=by kernel_rfl) (h2:compC P F.cf md c=some F.gc:=by kernel_rfl) (h3:X6 P fn.results.toList=some F.gr:=by kernel_rfl) (h4:fn.ntmps=F.cf.N:=by rfl):IsFun P f F:=⟨fn,c,md,h,h1,h0,h2,h3,h4⟩
end Go.Gh
