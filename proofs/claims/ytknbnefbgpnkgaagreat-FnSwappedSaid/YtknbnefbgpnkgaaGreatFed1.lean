/- The laws FnEdits, FnEdited and FnSwapped return true whatever the input, and the input reads behind the call as before. No condition. -/
import Derived.Test.YtknbnefbgpnkgaaGreatLibE2
import Derived.Shelf.SlSortCmp.NoneTotal
import Derived.Laws.Cover1
import Derived.Deep.RegionHeld3
import Derived.Shelf.SlGeneric
set_option maxHeartbeats 40000000
set_option maxRecDepth 20000
set_option linter.unusedSimpArgs false
set_option linter.unusedVariables false

namespace Go.Gh
abbrev T (s:ByteArray):GV:= .val (.string s)
theorem chars_inj {s t:ByteArray}:ZR s=ZR t↔s=t:=by
 constructor
 ·intro h;obtain ⟨a⟩:=s;obtain ⟨b⟩:=t;simp only[ZR] at h;congr 1;exact Array.ext' h
 ·rintro rfl;rfl
@[ext] structure Nod where
 id:Int
 parent:Int
 place:Int
 lit:Int
 rule:ByteArray
 kids:List Int
deriving DecidableEq
abbrev Nd (x:Nod):GV:= .agg [I x.id,I x.parent,I x.place,I x.lit,T x.rule,IS x.kids]
abbrev NdS (l:List Nod):GV:= .sl 6 (l.map Nd)
@[ext] structure Slo where
 pos:Int
 name:ByteArray
 val:Int
deriving DecidableEq
abbrev Occ (x:Int×ByteArray):GV:= .agg [I x.1,T x.2]
abbrev Tr (l:List Nod):GV:= .agg [NdS l]
theorem e_nil (e:Env):subE e []=True:=(rfl)
theorem e_cons (e:Env) (j:Nat) (g:GV) (r:Env):subE e ((j,g)::r)=(ZM e j=some g∧subE e r):=(rfl)
theorem n_val (v:Value):nraw (.val v)=true:=(rfl)
theorem n_sl (sz:Nat) (es:List GV):nraw (.sl sz es)=true:=(rfl)
theorem n_agg (cs:List GV):nraw (.agg cs)=true:=(rfl)
theorem n_rop (sz:Nat) (g:GV):nraw (.rop sz g)=true:=(rfl)
theorem n_ptr (r sz i o:Nat):nraw (.ptr r sz i o)=true:=(rfl)
theorem n_own (r sz k n:Nat):nraw (.own r sz k n)=true:=(rfl)
theorem n_clo (f:Nat) (cs:List GV):nraw (.clo f cs)=true:=(rfl)
theorem n_tup (cs:List GV):nraw (.tup cs)=true:=(rfl)
theorem E2:type_of% (jO @e_nil (jO @e_cons (jO @n_val (jO @n_sl (jO @n_agg (jO @n_rop (jO @n_ptr (jO @n_own (jO @n_clo (jO @n_tup (jO @x_get @Option.some.injEq.{0}))))))))))):=
 jO @e_nil (jO @e_cons (jO @n_val (jO @n_sl (jO @n_agg (jO @n_rop (jO @n_ptr (jO @n_own (jO @n_clo (jO @n_tup (jO @x_get @Option.some.injEq.{0}))))))))))
theorem ZQ:Zh=9223372036854775807:=(rfl)
theorem Z2:type_of% (jO @Int.ofNat_lt (jO @Int.natCast_nonneg (jO @true_and (jO @u_ext (jO @exists_prop_of_true (jO @Int.natCast_zero (jO @chars_inj (jO @Int.natCast_inj (jO ZQ (jO @not_true_eq_false (jO @false_implies (jO @true_implies (jO @and_true (jO @implies_true.{0} @wrap64)))))))))))))):=
 jO @Int.ofNat_lt (jO @Int.natCast_nonneg (jO @true_and (jO @u_ext (jO @exists_prop_of_true (jO @Int.natCast_zero (jO @chars_inj (jO @Int.natCast_inj (jO ZQ (jO @not_true_eq_false (jO @false_implies (jO @true_implies (jO @and_true (jO @implies_true.{0} @wrap64)))))))))))))
theorem lenOk_map {α:Type} {f:α→GV} {l:List α} (h:LenOkL (l.map f)):∀x∈l,LenOk (f x):=fun x hx=>h.all _ (List.mem_map.2 ⟨x,hx,rfl⟩)
theorem lenTr {l:List Nod} (h:LenOk (Tr l)):l.length≤9223372036854775807∧∀x∈l,x.kids.length≤9223372036854775807:=by
 simp only[LenOk,LenOkL,List.length_map,Zh] at h
 refine ⟨h.1.1,fun x hx=> ?_⟩
 have:=lenOk_map h.1.2 x hx
 simp only[LenOk,LenOkL,List.length_map,Zh] at this
 exact this.2.2.2.2.2.1.1
end Go.Gh
namespace Go.Gh
theorem takeWhile_len {α:Type} {p:α→Bool}:∀{l:List α} {n:Nat},n≤l.length→(∀j (h:j<l.length),j<n→p l[j]=true)→(∀h:n<l.length,p l[n]=false)→(l.takeWhile p).length = n
 | [],n,h,_,_ => by simp at h;simp[h]
 | x::l,0,_,_,h2=>by
  have:=h2 (by simp)
  simp at this
  simp[this]
 | x::l,n+1,h,h1,h2=>by
  have h3:=h1 0 (by simp) oT
  simp at h3
  have h4:=takeWhile_len (p:=p) (l:=l) (n:=n) (by simpa using h) (fun j hj hn=>by have:=h1 (j+1) (by simpa using hj) oT;simpa using this) (fun hj=>by have:=h2 (by simpa using hj);simpa using this)
  simp[h3,h4]
def ZC (t:List Nod) (i:Nat):Nat:=((t.drop (i+1)).takeWhile fun x=>decide ((i:Int)≤x.parent)).length + 1
theorem subLen_eq {t:List Nod} {i k:Nat} (hik:i<k) (hk:k≤t.length) (ha:∀j (h:j<t.length),i<j→j<k→(i:Int)≤t[j].parent) (hn:∀h:k<t.length,¬(i:Int)≤t[k].parent):ZC t i=k-i:=by
 have:=takeWhile_len (p:=fun x:Nod=>decide ((i:Int)≤x.parent)) (l:=t.drop (i+1)) (n:=k-(i+1)) (by simp;omega) (fun j hj hl=>by
  simp at hj
  have:=ha (i+1+j) oT oT oT
  simpa using this) (fun h=>by
  simp at h
  have:=hn oT
  have e:i+1+(k-(i+1))=k:=by omega
  simp only[List.getElem_drop,e]
  simpa using this)
 rw[ZC,this];omega
theorem Yr {t:List Nod} {i:Nat} (h:i<t.length):i+ZC t i≤t.length:=by
 have:((t.drop (i+1)).takeWhile fun x=>decide ((i:Int)≤x.parent)).length ≤ (t.drop (i+1)).length := (List.takeWhile_sublist _).length_le
 simp at this
 rw[ZC];omega
theorem subLen_pos {t:List Nod} {i:Nat}:0<ZC t i:=by simp[ZC]
def Y6 (t:List Nod) (i:Int):Int:=if 0≤i∧i<t.length then ZC t i.toNat else 0
def kidStep (hs:List Int) (k:Nat) (m:Int) (c:Int):Int:=if (k:Int)<c∧c<k+1+hs.length then max m (hs.getD (c-k-1).toNat 0) else m
def kidMax (hs:List Int) (k:Nat) (kids:List Int):Int:=kids.foldl (kidStep hs k) 0
def hts:Nat→List Nod→List Int
 | _,[]=>[]
 | k,x::r=>(kidMax (hts (k+1) r) k x.kids+1)::hts (k+1) r
end Go.Gh
namespace Go.Gh
end Go.Gh
namespace Go.Gh
theorem sum_mem {α:Type} (f:α→Nat):∀(l:List α) (x:α),x∈l→f x≤(l.map f).sum
 | y::l,x,h=>by
  simp only[List.map_cons,List.sum_cons]
  rcases List.mem_cons.1 h with rfl|h
  ·omega
  ·have:=sum_mem f l x h;omega
theorem take_eq_step {α:Type} {xs ys:List α} {i:Nat} (hp:xs.take i=ys.take i) (h1:i<xs.length) (h2:i<ys.length) (h:xs[i]=ys[i]):xs.take (i+1)=ys.take (i+1):=by
 rw[List.take_add_one,List.take_add_one,hp,List.getElem?_eq_getElem h1,List.getElem?_eq_getElem h2,h]
theorem bEq {p q:Prop} [Decidable p] [Decidable q] (h:p↔q):B (decide p)=B (decide q):=by
 have:decide p=decide q:=by by_cases hp:p<;>simp[hp,←h]
 rw[this]
theorem exP {p:Prop} {q:p→Prop} (h:p) (hq:q h):∃h,q h:=⟨h,hq⟩
end Go.Gh
namespace Go.Gh
def all2 {α:Type} (p:α→α→Bool) (xs ys:List α):Bool:=decide (xs.length=ys.length)&&(xs.zip ys).all fun z=>p z.1 z.2
theorem all2_len {α:Type} {p:α→α→Bool} {xs ys:List α} (h:¬xs.length=ys.length):all2 p xs ys=false:=by simp[all2,h]
theorem all2_no {α:Type} {p:α→α→Bool} {xs ys:List α} {i:Nat} (h1:i<xs.length) (h2:i<ys.length) (h:p xs[i] ys[i]=false):all2 p xs ys=false:=by
 have:(xs.zip ys).all (fun z=>p z.1 z.2)=false:=by
  rw[List.all_eq_false]
  refine ⟨(xs[i],ys[i]),?_,by simpa using h⟩
  have h3:i<(xs.zip ys).length := by simp;omega
  have:=List.getElem_mem h3
  rwa [List.getElem_zip] at this
 simp[all2,this]
theorem all2_yes {α:Type} {p:α→α→Bool} {xs ys:List α} (hl:xs.length=ys.length) (h:∀j (h1:j<xs.length) (h2:j<ys.length),p xs[j] ys[j]=true):all2 p xs ys=true:=by
 simp only[all2,hl,decide_true,Bool.true_and,List.all_eq_true]
 intro z hz
 obtain ⟨j,hj,rfl⟩:=List.getElem_of_mem hz
 rw[List.getElem_zip]
 simp at hj
 exact h j oT oT
theorem all2_step {α:Type} {p:α→α→Bool} {xs ys:List α} {i:Nat} {h1:i<xs.length} {h2:i<ys.length} (h:p xs[i] ys[i]=true) (hn:∀j (h1:j<xs.length) (h2:j<ys.length),j<i→p xs[j] ys[j]=true) :
 ∀j (h1:j<xs.length) (h2:j<ys.length),j<i+1→p xs[j] ys[j]=true:=by
 intro j k1 k2 hj
 rcases Nat.lt_or_ge j i with h3|h3
 ·exact hn j k1 k2 h3
 ·have:j=i:=by omega
  subst this;exact h
def sameNd (ids:Bool) (x y:Nod):Bool:=(!ids || decide (x.id=y.id))&&decide (x.parent=y.parent)&&decide (x.place=y.place)&&decide (x.lit=y.lit)&&decide (x.rule=y.rule)&&decide (x.kids=y.kids)
theorem X7 {α:Type} {p:α→Bool}:∀{xs:List α} {i:Nat} (h:i<xs.length),p xs[i]=true→(∀a∈xs.take i,p a=false)→xs.find? p=some xs[i]
 | x::xs,0,_,hp,_ => by simp at hp;simp[hp]
 | x::xs,i+1,h,hp,hn=>by
  have h1:p x=false:=hn x (by simp)
  simp only[List.find?_cons,h1]
  simpa using X7 (p:=p) (xs:=xs) (i:=i) (by simpa using h) (by simpa using hp) (fun a ha=>hn a (by simp[ha]))
theorem X8 {α:Type} {p:α→Bool} {xs:List α} (hn:∀a∈xs,p a=false):xs.find? p=none:=by
 rw[List.find?_eq_none];intro x hx;simp[hn x hx]
end Go.Gh
namespace Go.Gh
section
variable {P:Program} {α:Type} {f:α→GV} {k kx sz:Nat} {det ag:Bool}
end
end Go.Gh
namespace Go.Gh
theorem t_one {t:Ty} {g:GV} (h:ET false [t] g):CT t g:=by
 obtain ⟨gs,k1,k2⟩:=h
 simp only[CTs] at k1
 obtain ⟨g,gs',rfl,hg,rfl⟩:=k1
 simp at k2
 rw[←k2];exact hg
end Go.Gh
namespace Go.Gh
theorem ZL (P:Program) (c:Prop) [Decidable c] (g:GV) (d:Option Nat) (is:List GI) (K:Env→GH→Prop) (env:Env) (H:GH):valS P (if c then some g else none) d is K env H=(c∧ZY P is K (gput env d g) H):=by
 by_cases h:c<;>simp[h,valS]
theorem nxF {ι:Type} {E:ι→Env} {G:ι→GH} {μ:ι→Nat} {i:ι} {e e':Env} {H H':GH} (j:ι) (hm:μ j<μ i) (hf:FE e H e' H') (h:subE e' (E j)) (hh:H'=G j):Nx E G μ i e H:=by
 subst hh
 exact ⟨j,FE.trans hf (FE.of h),hm⟩
theorem wloopN {P:Program} {cf:Cfg} (mxd:P.follows .mixedOrders = true) {ι:Type} {x:GC} {Q:Exit→Env→GH→Prop} {env:Env} {H:GH} (E:ι→Env) (G:ι→GH) (μ:ι→Nat) (i0:ι) (h0:subE env (E i0)) (hh:H=G i0)
 (round:∀i,(names (G i)).Nodup → gwp P cf x (thenG (Nx E G μ i) Q) (E i) (G i)):GW P cf (.loop x) Q env H:=by
 subst hh
 exact GW.loop E G μ i0 (FE.of h0) fun i=>GW.names fun hn=>ZB mxd (round i hn)
theorem Y5 {P:Program} {cf:Cfg} (mxd:P.follows .mixedOrders = true) {ι:Type} {x:GC} {Q:Exit→Env→GH→Prop} {env env':Env} {H H':GH} (E:ι→Env) (G:ι→GH) (μ:ι→Nat) (i0:ι) (hf:FE env H env' H') (h0:subE env' (E i0)) (hh:H'=G i0)
 (round:∀i,(names (G i)).Nodup → GW P cf x (thenG (Nx E G μ i) Q) (E i) (G i)):GW P cf (.loop x) Q env H:=by
 subst hh
 exact GW.loop E G μ i0 (FE.trans hf (FE.of h0)) fun i=>GW.names fun hn=>round i hn
abbrev NdO (x:Nod):GV:= .agg [I x.id,I x.parent,I x.place,I x.lit,T x.rule,.osl 1 (x.kids.map I)]
theorem view_NdO (t:List Nod):(t.map NdO).map view=t.map Nd:=by
 induction t with
 | nil=>rfl
 | cons x t ih=>
  simp only[List.map_cons,ih,List.cons.injEq,and_true]
  simp[view,Zc,Zr]
theorem viewL_NdO (t:List Nod):Zc (t.map NdO)=t.map Nd:=by rw[Zr,view_NdO]
theorem bor_NdO {H:GH} {r n:Nat} {t:List Nod} (hr:ZU H r=some (6,t.map NdO)) (hn:t.length=n):Bor H (.own r 6 0 n) (NdS t):=by
 have:=Bor.own (H:=H) (k:=0) (n:=n) hr (by simp[hn])
 rw[List.drop_zero,List.take_of_length_le (by simp[hn]),viewL_NdO] at this
 exact this
theorem bor_Tr {H:GH} {r n:Nat} {t:List Nod} (hr:ZU H r=some (6,t.map NdO)) (hn:t.length=n):Bor H (.agg [.own r 6 0 n]) (Tr t):= .agg (.cons (bor_NdO hr hn) .nil)
theorem bor_IS {H:GH} {r n:Nat} {l:List Int} (hr:ZU H r=some (1,l.map I)) (hn:l.length=n):Bor H (.own r 1 0 n) (IS l):= .all hr (by simp[hn]) (by simp[view])
def Zk:Int→List Nod→Int
 | k,[]=>k
 | k,x::t=>Zk (k+5+x.kids.length) t
theorem FE.close2 {env:Env} {H:GH} {r r1 sz sz1 i j n:Nat} {L gs ks:List GV} (hne:r1≠r) (hi:i<L.length) (hg:gs[j]? = some (.own r1 sz1 0 n)) (hn:ks.length=n) :
 FE env ((r1,sz1,ks)::(r,sz,L.set i (.agg gs))::H) env ((r,sz,L.set i (.agg (gs.set j (.osl sz1 ks))))::H):=by
 have:=FE.close (env:=env) (H:=(r1,sz1,ks)::(r,sz,L.set i (.agg gs))::H) (r:=r) (r1:=r1) (Ne.symm hne) (by rw[YL hne,ZX]) (List.getElem?_set_self hi) hg ZX hn
 rwa [hset_old hne,YD,YW,List.set_set] at this
theorem mkEnd_app:∀(k:Int) (t u:List Nod),Zk k (t++u)=Zk (Zk k t) u
 | _,[],_ => rfl
 | k,y::t,u=>by simp[Zk,mkEnd_app _ t u]
theorem mkEnd_le:∀(k:Int) (t:List Nod),k≤Zk k t
 | _,[]=>Int.le_refl _
 | k,x::t=>by have:=mkEnd_le (k+5+x.kids.length) t;simp only[Zk];omega
theorem mkEnd_take {k:Int} {t:List Nod} (i:Nat):Zk k (t.take i)≤Zk k t:=by
 have:=mkEnd_app k (t.take i) (t.drop i)
 rw[List.take_append_drop] at this
 rw[this];exact mkEnd_le _ _
theorem FE.swap {env:Env} {H:GH} {x y:Nat×Nat×List GV}:FE env (x::y::H) env (y::x::H):=by
 intro w0 D0 O0 N a w ⟨hdf,hsz,D,Ω,ρw,hi⟩
 obtain ⟨r1,sz1,es1⟩:=x
 obtain ⟨r2,sz2,es2⟩:=y
 obtain ⟨F1,G1,e1,h1,F2,F3,e2,h2,h3⟩:=hi.st.hm
 have hp:∀x,(F2++(F1++F3)).count x=Ω.count x:=by
  intro x;rw[e1,e2];simp only[List.count_append];omega
 have hmem:∀x∈F2++(F1++F3),x∈Ω:=fun x hx=>by
  have:=List.count_pos_iff.2 hx
  exact List.count_pos_iff.1 (by rw[←hp];exact this)
 refine ⟨hdf,hsz,D,F2++(F1++F3),ρw,hi.st' ⟨⟨F2,_,rfl,h2,F1,F3,rfl,h1,h3⟩,?_,?_,fun x hx=>hi.st.dj x (hmem x hx),hi.st.ds⟩ hmem⟩
 ·rw[List.nodup_iff_count]
  intro x
  rw[hp]
  exact List.nodup_iff_count.1 hi.st.nd x
 ·have:=hi.st.nn
  simp only[names,List.map_cons,List.nodup_cons,List.mem_cons,not_or] at this ⊢
  exact ⟨⟨fun e=>this.1.1 e.symm,this.2.1⟩,this.1.2,this.2.2⟩
theorem Ya:∀(k:Int) (t:List Nod),Zk k t=k+5 * t.length+((t.map (·.kids.length)).sum : Nat)
 | k,[]=>by simp[Zk]
 | k,x::t=>by
  have:=Ya (k+5+x.kids.length) t
  simp only[Zk,List.length_cons,List.map_cons,List.sum_cons]
  omega
theorem callS.borA {P:Program} {K:Env→GH→Prop} {is:List GI} {env:Env} {H:GH} {d:Option Nat} {det:Bool} {f:FuncId} {gs gs':List GV} {G:GV} (h:Pure P f gs' (· = G)) (hb:BorL H gs gs') (hs:scal G=true) (hk:ZY P is K (gput env d G) H):callS P det f (some gs) d is K env H:=by
 cases det
 ·exact callS.bor h hb hs hk
 ·exact ⟨G,h.borrow hb (fun _ e=>by rw[e];exact hs),hk⟩
end Go.Gh
namespace Go.Gh
inductive Exp where
 | mk (kind n pos type:Int) (sym name:ByteArray) (args:List Exp)
def Exp.kind:Exp→Int | .mk k _ _ _ _ _ _ => k
def Exp.n:Exp→Int | .mk _ n _ _ _ _ _ => n
def Exp.pos:Exp→Int | .mk _ _ p _ _ _ _ => p
def Exp.type:Exp→Int | .mk _ _ _ t _ _ _ => t
def Exp.sym:Exp→ByteArray | .mk _ _ _ _ s _ _ => s
def Exp.name:Exp→ByteArray | .mk _ _ _ _ _ m _ => m
def Exp.args:Exp→List Exp | .mk _ _ _ _ _ _ a=>a
mutual
def Ex:Exp→GV
 | .mk k n p t s m a=> .agg [I k,I n,I p,I t,T s,T m,.sl 7 (ExL a)]
def ExL:List Exp→List GV
 | []=>[]
 | e::l=>Ex e::ExL l
end
theorem ExL_eq (l:List Exp):ExL l=l.map Ex:=by
 induction l with
 | nil=>rfl
 | cons e l ih=>simp[ExL,ih]
abbrev ExS (l:List Exp):GV:= .sl 7 (l.map Ex)
theorem YQ (e:Exp):Ex e = .agg [I e.kind,I e.n,I e.pos,I e.type,T e.sym,T e.name,ExS e.args]:=by
 cases e;simp only[Ex,ExL_eq];rfl
theorem Exp.ext_iff {x y:Exp}:x=y↔x.kind=y.kind∧x.n=y.n∧x.pos=y.pos∧x.type=y.type∧x.sym=y.sym∧x.name=y.name∧x.args=y.args:=by
 cases x;cases y
 simp[Exp.kind,Exp.n,Exp.pos,Exp.type,Exp.sym,Exp.name,Exp.args]
mutual
theorem Exp.indA {p:Exp→Prop} (h:∀e,(∀a∈e.args,p a)→p e):∀e,p e
 | .mk k n q t s m a=>h _ (Exp.indL h a)
theorem Exp.indL {p:Exp→Prop} (h:∀e,(∀a∈e.args,p a)→p e):∀(l:List Exp),∀a∈l,p a
 | [],a,hm=>by cases hm
 | e::l,a,hm=>by
  have he:p e:=Exp.indA h e
  have hl:=Exp.indL h l
  rcases List.mem_cons.1 hm with rfl|hm
  ·exact he
  ·exact hl a hm
end
mutual
def wEx:Exp→Nat
 | .mk _ _ _ _ s m a=>(ZR s).length + (ZR m).length + (a.length+wExL a)
def wExL:List Exp→Nat
 | []=>0
 | e::l=>wEx e+wExL l
end
theorem wExL_eq (l:List Exp):wExL l=(l.map wEx).sum := by
 induction l with
 | nil=>rfl
 | cons e l ih=>simp[wExL,ih]
theorem wEx_eq (e:Exp):wEx e=(ZR e.sym).length + (ZR e.name).length + wtS wEx e.args:=by
 cases e;simp only[wEx,wExL_eq,wtS];rfl
mutual
def okE:Exp→Prop
 | .mk _ _ _ _ s m a=>s.size≤maxLen∧m.size≤maxLen∧okEL a
def okEL:List Exp→Prop
 | []=>True
 | e::l=>okE e∧okEL l
end
theorem okEL_eq {l:List Exp}:okEL l↔∀a∈l,okE a:=by
 induction l with
 | nil=>simp[okEL]
 | cons e l ih=>simp[okEL,ih]
theorem okE_eq {e:Exp}:okE e↔e.sym.size≤maxLen∧e.name.size≤maxLen∧∀a∈e.args,okE a:=by
 cases e;simp only[okE,okEL_eq];rfl
mutual
instance decExp:(x y:Exp)→Decidable (x=y)
 | .mk k n p t s m a,.mk k' n' p' t' s' m' a'=>
  match decExpL a a' with
  | isTrue h=>decidable_of_iff (k=k'∧n=n'∧p=p'∧t=t'∧s=s'∧m=m') (by simp[h])
  | isFalse h=>isFalse (by simp[h])
instance decExpL:(x y:List Exp)→Decidable (x=y)
 | [],[]=>isTrue rfl
 | [],_ :: _ => isFalse (by simp)
 | _ :: _,[]=>isFalse (by simp)
 | e::l,e'::l'=>match decExp e e',decExpL l l' with
  | isTrue h,isTrue h'=>isTrue (by rw[h,h'])
  | isFalse h,_ => isFalse (by simp[h])
  | _,isFalse h=>isFalse (by simp[h])
end
theorem YO {e:Exp} (h:wEx e≤1048576):e.args.length≤1048576∧∀a∈e.args,wEx a≤1048576:=by
 rw[wEx_eq] at h
 simp only[wtS] at h
 refine ⟨oT,fun a ha=> ?_⟩
 have:=sum_mem wEx e.args a ha
 omega
theorem X5 (e:Exp):isAgg (Ex e)=true:=by rw[YQ];rfl
theorem geR_Ex (e:Exp):geR (some (Ex e))=some (Ex e):=by rw[YQ];rfl
theorem X6 (e:Exp):gsize (Ex e)=7:=by rw[YQ];rfl
theorem stor_Ex (e:Exp):ZE (Ex e)=true:=by rw[YQ];rfl
theorem view_Ex (e:Exp):view (Ex e)=Ex e:=by rw[YQ];rfl
end Go.Gh
namespace Go.Gh
open Go.RowKit Go.ChangeShapes Go.WideShapes Go.Deep
end Go.Gh
namespace Go.Gh
end Go.Gh
namespace Go.Gh
def satV (n:Int):Int:=max (-1000000) (min 1000000 n)
def trV (b:Bool):Int:=if b then 1 else 0
def coV (v k:Int):Int:=if k=1 then satV v else if k=2 then andI .i64 v 4095 else if k=3 then trV (!decide (v=0)) else if k=4∧0≤v∧v≤999 then v else 0
def opT (op:Int):Int×Int×Int:=
 if 1≤op∧op≤5 then (1,1,1) else if 6≤op∧op≤8 then (2,2,2) else if op=9∨op=10 then (1,1,3) else if op=11 then (2,1,3) else if op=12 then (2,1,2) else (0,0,0)
abbrev opG (op:Int):GV:= .tup [I (opT op).1,I (opT op).2.1,I (opT op).2.2]
def okV (v k:Int):Bool:=decide (1≤k∧k≤4)&&decide (coV v k=v)
theorem opG0 {op:Int} (h:¬(1≤op∧op≤12)):opG op = .tup [I 0,I 0,I 0]:=by
 have:opT op=(0,0,0):=by
  unfold opT
  rw[if_neg oT,if_neg oT,if_neg oT,if_neg oT,if_neg oT]
 simp only[opG,this]
end Go.Gh
namespace Go.Gh
mutual
def cntE:Exp→Nat
 | .mk _ _ _ _ _ _ a=>1+cntEL a
def cntEL:List Exp→Nat
 | []=>0
 | e::l=>cntE e+cntEL l
end
theorem cntEL_eq (l:List Exp):cntEL l=(l.map cntE).sum := by
 induction l with
 | nil=>rfl
 | cons e l ih=>simp[cntEL,ih]
theorem cntE_eq (e:Exp):cntE e=1+(e.args.map cntE).sum := by
 cases e;simp only[cntE,cntEL_eq];rfl
theorem cntE_le:∀e,cntE e≤wEx e+1:=by
 refine Exp.indA fun e ih=> ?_
 rw[cntE_eq,wEx_eq]
 have:∀l:List Exp,(∀a∈l,cntE a≤wEx a+1)→(l.map cntE).sum ≤ l.length+(l.map wEx).sum := by
  intro l
  induction l with
  | nil=>intro _;simp
  | cons a l ih=>
   intro h
   have h1:=h a (by simp)
   have h2:=ih fun b hb=>h b (by simp[hb])
   simp only[List.map_cons,List.sum_cons,List.length_cons];omega
 have:=this e.args ih
 simp only[wtS];omega
theorem sumT (f:Exp→Nat) (l:List Exp) (i:Nat) (h:i<l.length):((l.take (i+1)).map f).sum = ((l.take i).map f).sum + f l[i]:=psum_succ f l i h
theorem sumT_le (f:Exp→Nat) (l:List Exp) (i:Nat):((l.take i).map f).sum ≤ (l.map f).sum := psum_le f l i
def mxL:List Nat→Nat
 | []=>0
 | a::l=>max a (mxL l)
theorem mxL_app (l m:List Nat):mxL (l++m)=max (mxL l) (mxL m):=by
 induction l with
 | nil=>simp[mxL]
 | cons a l ih=>simp only[List.cons_append,mxL,ih];omega
theorem mxL_le (l:List Nat):mxL l≤l.sum:=by
 induction l with
 | nil=>simp[mxL]
 | cons a l ih=>simp only[mxL,List.sum_cons];omega
mutual
def dpE:Exp→Nat
 | .mk _ _ _ _ _ _ a=>1+dpEL a
def dpEL:List Exp→Nat
 | []=>0
 | e::l=>max (dpE e) (dpEL l)
end
theorem dpEL_eq (l:List Exp):dpEL l=mxL (l.map dpE):=by
 induction l with
 | nil=>rfl
 | cons e l ih=>simp[dpEL,mxL,ih]
theorem dpE_eq (e:Exp):dpE e=1+mxL (e.args.map dpE):=by
 cases e;simp only[dpE,dpEL_eq];rfl
theorem sumL_le {l:List Exp} {f g:Exp→Nat} (h:∀a∈l,f a≤g a):(l.map f).sum ≤ (l.map g).sum := by
 induction l with
 | nil=>simp
 | cons a l ih=>
  have h1:=h a (by simp)
  have h2:=ih fun b hb=>h b (by simp[hb])
  simp only[List.map_cons,List.sum_cons];omega
theorem dpE_le:∀e,dpE e≤cntE e:=by
 refine Exp.indA fun e ih=> ?_
 rw[cntE_eq,dpE_eq]
 have h1:=mxL_le (e.args.map dpE)
 have h2:=sumL_le ih
 omega
theorem mxT (f:Exp→Nat) (l:List Exp) (i:Nat) (h:i<l.length):mxL ((l.take (i+1)).map f)=max (mxL ((l.take i).map f)) (f l[i]):=by
 rw[List.take_succ_eq_append_getElem h,List.map_append,mxL_app];simp[mxL]
theorem mxT_le (f:Exp→Nat) (l:List Exp) (i:Nat):mxL ((l.take i).map f)≤(l.map f).sum :=
 Nat.le_trans (mxL_le _) (sumT_le f l i)
end Go.Gh
namespace Go.Gh
mutual
def allE (p:Exp→Bool):Exp→Bool
 | .mk k n q t s m a=>p (.mk k n q t s m a)&&allEL p a
def allEL (p:Exp→Bool):List Exp→Bool
 | []=>true
 | e::l=>allE p e&&allEL p l
end
theorem allEL_eq (p:Exp→Bool) (l:List Exp):allEL p l=l.all (allE p):=by
 induction l with
 | nil=>rfl
 | cons e l ih=>simp[allEL,ih]
theorem allE_eq (p:Exp→Bool) (e:Exp):allE p e=(p e&&e.args.all (allE p)):=by
 cases e;simp only[allE,allEL_eq];rfl
theorem any_ix {α:Type} (p:α→Bool) (l:List α):decide (0≤Zg p l)=l.any p:=by
 unfold Zg
 cases h:l.findIdx? p with
 | none=>
  have:=List.findIdx?_eq_none_iff.1 h
  simp;exact this
 | some i=>
  obtain ⟨h1,h2,_⟩:=List.findIdx?_eq_some_iff_getElem.1 h
  simp
  exact ⟨l[i],List.getElem_mem h1,h2⟩
theorem any_not {α:Type} (p:α→Bool) (l:List α):(!l.any fun a=> !p a)=l.all p:=by
 induction l with
 | nil=>rfl
 | cons a l ih=>simp only[List.any_cons,List.all_cons,Bool.not_or,Bool.not_not,ih]
theorem all_take {p:Exp→Bool} {l:List Exp} {i:Nat} (h:i<l.length) (hp:p l[i]=true) (hn:∀a∈l.take i,p a=true):∀a∈l.take (i+1),p a=true:=by
 intro a ha
 rw[List.take_add_one,List.getElem?_eq_getElem h,Option.toList_some,List.mem_append] at ha
 rcases ha with ha|ha
 ·exact hn a ha
 ·simp only[List.mem_singleton] at ha;rw[ha];exact hp
end Go.Gh
namespace Go.Gh
def letV (c:UInt8):Bool:=decide (97≤(c.toNat:Int))&&decide ((c.toNat:Int)≤122)
def digV (c:UInt8):Bool:=decide (48≤(c.toNat:Int))&&decide ((c.toNat:Int)≤57)
def kwS:List ByteArray:=[⟨#[105,102]⟩,⟨#[116,104,101,110]⟩,⟨#[101,108,115,101]⟩,⟨#[116,114,117,101]⟩,⟨#[102,97,108,115,101]⟩,⟨#[108,105,116]⟩,⟨#[110,111,110,101]⟩,
 ⟨#[115,101,108,102]⟩,⟨#[111,102]⟩,⟨#[109,97,120]⟩,⟨#[109,105,110]⟩,⟨#[119,105,116,104]⟩,⟨#[104,97,115]⟩]
def hasS (l:List ByteArray) (s:ByteArray):Bool:=l.any fun x=>decide (x=s)
theorem hasS_hit {l:List ByteArray} {s:ByteArray} {i:Nat} (h:i<l.length) (e:l[i]=s):hasS l s=true:=by
 simp only[hasS,List.any_eq_true];exact ⟨l[i],List.getElem_mem h,by simp[e]⟩
theorem hasS_none {l:List ByteArray} {s:ByteArray} (h:∀x∈l,decide (x=s)=false):hasS l s=false:=by
 simp only[hasS,List.any_eq_false];intro x hx;simpa using h x hx
def resV (s:ByteArray):Bool:=hasS kwS s
def shp:List UInt8→Bool
 | []=>false
 | c::l=>letV c&&l.all fun c=>letV c||digV c
theorem shp_iff (l:List UInt8):shp l=true↔0<l.length∧∀(j:Nat) (h:j<l.length),letV l[j]=true∨(j≠0∧digV l[j]=true):=by
 cases l with
 | nil=>simp[shp]
 | cons c l=>
  simp only[shp,Bool.and_eq_true,List.all_eq_true,Bool.or_eq_true,List.length_cons]
  constructor
  ·rintro ⟨h1,h2⟩
   refine ⟨oT,fun j hj=> ?_⟩
   cases j with
   | zero=>exact .inl h1
   | succ j=>
    have:=h2 l[j] (List.getElem_mem _)
    simp only[List.getElem_cons_succ]
    rcases this with h|h
    ·exact .inl h
    ·exact .inr ⟨oT,h⟩
  ·rintro ⟨_,h⟩
   constructor
   ·have:=h 0 oT
    simpa using this
   ·intro x hx
    obtain ⟨j,hj,rfl⟩:=List.mem_iff_getElem.1 hx
    have:=h (j+1) oT
    simp only[List.getElem_cons_succ] at this
    rcases this with h|h
    ·exact .inl h
    ·exact .inr h.2
def Zs (s:ByteArray):Bool:=shp (ZR s)&&decide ((ZR s).length ≤ 8) && !resV s
end Go.Gh
namespace Go.Gh
theorem shp_bad {l:List UInt8} {i:Nat} (h:i<l.length) (h1:¬(letV l[i]=true∨(i≠0∧digV l[i]=true))):shp l=false:=by
 cases hs:shp l with
 | false=>rfl
 | true=>exact absurd (((shp_iff l).1 hs).2 i h) h1
theorem shp_step {l:List UInt8} {i:Nat} (h:i<l.length) (hn:∀(j:Nat) (h:j<l.length),j<i→letV l[j]=true∨(j≠0∧digV l[j]=true)) (hg:letV l[i]=true∨(i≠0∧digV l[i]=true)) :
 ∀(j:Nat) (h:j<l.length),j<i+1→letV l[j]=true∨(j≠0∧digV l[j]=true):=by
 intro j hj hji
 by_cases e:j=i
 ·subst e;exact hg
 ·exact hn j hj oT
theorem shp_end {l:List UInt8} (hn:∀(j:Nat) (h:j<l.length),j<l.length→letV l[j]=true∨(j≠0∧digV l[j]=true)):shp l=decide (0<l.length):=by
 by_cases h:0<l.length
 ·rw[decide_eq_true h];exact (shp_iff l).2 ⟨h,fun j hj=>hn j hj hj⟩
 ·rw[decide_eq_false h]
  cases l with
  | nil=>rfl
  | cons a l=>simp at h
end Go.Gh
namespace Go.Gh
def arity (k:Int):Nat:=if k=4 then 2 else if k=5 then 3 else if k=8 then 1 else 0
def noS:ByteArray:=⟨#[]⟩
def bareV (e:Exp):Bool:=
 decide (e.args.length=arity e.kind)&&(decide (e.kind=3∨e.kind=6)||decide (e.pos=0))&&(decide (e.kind=3∨e.kind=8)||decide (e.name=noS))&&(decide (e.kind=1∨e.kind=4)||decide (e.n=0)) &&
 (decide (e.kind=1)||decide (e.type=0))&&(decide (e.kind=8)||decide (e.sym=noS))
end Go.Gh
namespace Go.Gh
theorem nraw_Ex (e:Exp):nraw (Ex e)=true:=by rw[YQ];rfl
theorem clean_Ex (e:Exp):clean (Ex e)=true:=by rw[YQ];rfl
theorem sub_Ex0 (e:Exp):sub (Ex e) 0 1 false=some (I e.kind):=by rw[YQ];rfl
theorem sub_Ex1 (e:Exp):sub (Ex e) 1 1 false=some (I e.n):=by rw[YQ];rfl
theorem sub_Ex2 (e:Exp):sub (Ex e) 2 1 false=some (I e.pos):=by rw[YQ];rfl
theorem sub_Ex3 (e:Exp):sub (Ex e) 3 1 false=some (I e.type):=by rw[YQ];rfl
theorem sub_Ex4 (e:Exp):sub (Ex e) 4 1 false=some (T e.sym):=by rw[YQ];rfl
theorem sub_Ex5 (e:Exp):sub (Ex e) 5 1 false=some (T e.name):=by rw[YQ];rfl
theorem sub_Ex6 (e:Exp):sub (Ex e) 6 1 false=some (ExS e.args):=by rw[YQ];rfl
theorem fold_Ex (e:Exp):GV.agg [I e.kind,I e.n,I e.pos,I e.type,T e.sym,T e.name,.sl 7 (e.args.map Ex)]=Ex e:=(YQ e).symm
abbrev ExC (e:Exp):List GV:=[I e.kind,I e.n,I e.pos,I e.type,T e.sym,T e.name,ExS e.args]
theorem upd_Ex (gs:List GV) (o:Nat) (e:Exp):upd (.agg gs) o (Ex e)=if o+7≤gs.length then some (.agg (gs.take o++(ExC e++gs.drop (o+7)))) else none:=by rw[YQ];rfl
theorem upd_ExO (e:Exp) (o r sz k n:Nat):upd (Ex e) o (.own r sz k n)=if o<7 then some (.agg ((ExC e).set o (.own r sz k n))) else none:=by rw[YQ];rfl
theorem XE:type_of% (jO @X5 (jO @geR_Ex (jO @X6 (jO @stor_Ex (jO @nraw_Ex (jO @clean_Ex (jO @sub_Ex0 (jO @sub_Ex1 (jO @sub_Ex2 (jO @sub_Ex3 (jO @sub_Ex4 (jO @sub_Ex5 (jO @sub_Ex6 (jO @fold_Ex (jO @upd_ExO @upd_Ex))))))))))))))):=
 jO @X5 (jO @geR_Ex (jO @X6 (jO @stor_Ex (jO @nraw_Ex (jO @clean_Ex (jO @sub_Ex0 (jO @sub_Ex1 (jO @sub_Ex2 (jO @sub_Ex3 (jO @sub_Ex4 (jO @sub_Ex5 (jO @sub_Ex6 (jO @fold_Ex (jO @upd_ExO @upd_Ex))))))))))))))
@[ext] structure Att where
 name:ByteArray
 type:Int
 mode:Int
 circ:Bool
deriving DecidableEq
abbrev At (x:Att):GV:= .agg [T x.name,I x.type,I x.mode,B x.circ]
abbrev AtS (l:List Att):GV:= .sl 4 (l.map At)
@[ext] structure Sym where
 name:ByteArray
 atts:List Att
deriving DecidableEq
abbrev Sy (x:Sym):GV:= .agg [T x.name,AtS x.atts]
abbrev SyS (l:List Sym):GV:= .sl 2 (l.map Sy)
@[ext] structure Eqn where
 pos:Int
 name:ByteArray
 expr:Exp
deriving DecidableEq
abbrev Qn (x:Eqn):GV:= .agg [I x.pos,T x.name,I x.expr.kind,I x.expr.n,I x.expr.pos,I x.expr.type,T x.expr.sym,T x.expr.name,ExS x.expr.args]
abbrev QnS (l:List Eqn):GV:= .sl 9 (l.map Qn)
@[ext] structure Con where
 sym:ByteArray
 name:ByteArray
 goal:Exp
 value:Exp
deriving DecidableEq
abbrev Co (x:Con):GV:= .agg [T x.sym,T x.name,I x.goal.kind,I x.goal.n,I x.goal.pos,I x.goal.type,T x.goal.sym,T x.goal.name,ExS x.goal.args,I x.value.kind,I x.value.n,I x.value.pos,I x.value.type,T x.value.sym,T x.value.name,ExS x.value.args]
abbrev CoS (l:List Con):GV:= .sl 16 (l.map Co)
abbrev TS (l:List ByteArray):GV:= .sl 1 (l.map T)
@[ext] structure Rul where
 name:ByteArray
 left:ByteArray
 right:List ByteArray
 lit:Bool
 eqs:List Eqn
 cons:List Con
deriving DecidableEq
abbrev Ru (x:Rul):GV:= .agg [T x.name,T x.left,TS x.right,B x.lit,QnS x.eqs,CoS x.cons]
abbrev RuS (l:List Rul):GV:= .sl 6 (l.map Ru)
@[ext] structure Gram where
 syms:List Sym
 rules:List Rul
deriving DecidableEq
abbrev Gr (g:Gram):GV:= .agg [SyS g.syms,RuS g.rules]
def okAt (x:Att):Prop:=x.name.size≤maxLen
def okSy (x:Sym):Prop:=x.name.size≤maxLen∧∀a∈x.atts,okAt a
def okEq (x:Eqn):Prop:=x.name.size≤maxLen∧okE x.expr
def okCo (x:Con):Prop:=x.sym.size≤maxLen∧x.name.size≤maxLen∧okE x.goal∧okE x.value
def okRu (x:Rul):Prop:=x.name.size≤maxLen∧x.left.size≤maxLen∧(∀s∈x.right,s.size≤maxLen)∧(∀q∈x.eqs,okEq q)∧∀c∈x.cons,okCo c
def okGr (g:Gram):Prop:=(∀s∈g.syms,okSy s)∧∀r∈g.rules,okRu r
def smSy (x:Sym):Prop:=x.atts.length≤1048576
def smEq (x:Eqn):Prop:=wEx x.expr≤1048576
def smCo (x:Con):Prop:=wEx x.goal≤1048576∧wEx x.value≤1048576
def Y8 (x:Rul):Prop:=x.right.length≤1048576∧x.eqs.length≤1048576∧x.cons.length≤1048576∧(∀q∈x.eqs,smEq q)∧∀c∈x.cons,smCo c
def ZA (g:Gram):Prop:=g.syms.length≤1048576∧g.rules.length≤1048576∧(∀s∈g.syms,smSy s)∧∀r∈g.rules,Y8 r
theorem wtS_mem {α:Type} {wt:α→Nat} {l:List α} {n:Nat} (h:wtS wt l≤n):l.length≤n∧∀a∈l,wt a≤n:=by
 simp only[wtS] at h
 exact ⟨oT,fun a ha=>by have:=sum_mem wt l a ha;omega⟩
theorem Z3 {α:Type} {l:List α} {i:Nat} {d:α} (h:i<l.length):l.getD i d=l[i]:=by
 rw[List.getD_eq_getElem?_getD,List.getElem?_eq_getElem h];rfl
def symZ:Sym:=⟨noS,[]⟩
def attZ:Att:=⟨noS,0,0,false⟩
def rulZ:Rul:=⟨noS,noS,[],false,[],[]⟩
def Ze (l:List Sym) (n:ByteArray):Sym:=(l.find? fun s=>decide (s.name=n)).getD symZ
def hSym (l:List Sym) (n:ByteArray):Bool:=(l.find? fun s=>decide (s.name=n)).isSome
def Zl (l:List Rul) (n:ByteArray):Rul:=(l.find? fun s=>decide (s.name=n)).getD rulZ
def hRul (l:List Rul) (n:ByteArray):Bool:=(l.find? fun s=>decide (s.name=n)).isSome
def fAtt (l:List Att) (n:ByteArray):Att:=(l.find? fun s=>decide (s.name=n)).getD attZ
def hAtt (l:List Att) (n:ByteArray):Bool:=(l.find? fun s=>decide (s.name=n)).isSome
theorem fRul_mem (l:List Rul) (n:ByteArray):Zl l n∈l∨Zl l n=rulZ:=by
 unfold Zl
 cases h:l.find? fun s=>decide (s.name=n) with
 | none=>exact .inr rfl
 | some a=>exact .inl (List.mem_of_find?_eq_some h)
theorem fSym_mem (l:List Sym) (n:ByteArray):Ze l n∈l∨Ze l n=symZ:=by
 unfold Ze
 cases h:l.find? fun s=>decide (s.name=n) with
 | none=>exact .inr rfl
 | some a=>exact .inl (List.mem_of_find?_eq_some h)
theorem smRu_f {g:Gram} (h:ZA g) (n:ByteArray):Y8 (Zl g.rules n):=by
 rcases fRul_mem g.rules n with h1|h1
 ·exact h.2.2.2 _ h1
 ·rw[h1];simp[Y8,rulZ]
theorem Yd {g:Gram} (h:ZA g) (n:ByteArray):smSy (Ze g.syms n):=by
 rcases fSym_mem g.syms n with h1|h1
 ·exact h.2.2.1 _ h1
 ·rw[h1];simp[smSy,symZ]
def Zu (r:Rul) (pos:Int):ByteArray:=if pos=0 then r.left else if 1≤pos∧pos≤r.right.length then r.right.getD (pos-1).toNat noS else noS
def nodZ:Nod:=⟨0,0,0,0,noS,[]⟩
def symN (g:Gram) (t:List Nod) (i:Int):ByteArray:=if 0≤i∧i<t.length then (Zl g.rules (t.getD i.toNat nodZ).rule).left else noS
theorem symN_in {g:Gram} {t:List Nod} {i:Nat} (h:i<t.length):symN g t i=(Zl g.rules t[i].rule).left := by
 simp only[symN,Int.toNat_natCast]
 rw[if_pos oT,Z3 h]
theorem symN_out {g:Gram} {t:List Nod} {i:Int} (h:¬(0≤i∧i<t.length)):symN g t i=noS:=by simp only[symN,if_neg h]
def Zp (g:Gram) (r:Rul) (pos:Int) (name:ByteArray):Att:=if 0≤pos∧pos≤r.right.length then fAtt (Ze g.syms (Zu r pos)).atts name else attZ
def hasAt (g:Gram) (r:Rul) (pos:Int) (name:ByteArray):Bool:=if 0≤pos∧pos≤r.right.length then hAtt (Ze g.syms (Zu r pos)).atts name else false
theorem ixOf_cases {α:Type} (p:α→Bool) (xs:List α):Zg p xs = -1∨(0≤Zg p xs∧Zg p xs<xs.length):=by
 unfold Zg
 cases h:xs.findIdx? p with
 | none=>exact .inl rfl
 | some i=>
  obtain ⟨h1,_,_⟩:=List.findIdx?_eq_some_iff_getElem.1 h
  exact .inr ⟨by simp,by simpa using h1⟩
end Go.Gh
namespace Go.Gh
theorem fAtt_no {l:List Att} {n:ByteArray} (h:hAtt l n=false):fAtt l n=attZ:=by
 simp only[hAtt,fAtt] at *
 cases e:l.find? fun s=>decide (s.name=n) with
 | none=>rfl
 | some a=>rw[e] at h;simp at h
end Go.Gh
namespace Go.Gh
end Go.Gh
namespace Go.Gh
def gid (t:List Nod) (i:Nat):Bool:=decide (1≤(t.getD i nodZ).id ∧ (t.getD i nodZ).id ≤ 999) && !((t.take i).any fun y=>decide (y.id=(t.getD i nodZ).id))
def idsV (t:List Nod):Bool:=(List.range t.length).all (gid t)
theorem idsV_bad {t:List Nod} {i:Nat} (h:i<t.length) (hb:gid t i=false):idsV t=false:=by
 simp only[idsV,List.all_eq_false,List.mem_range]
 exact ⟨i,h,by simp[hb]⟩
theorem idsV_ok {t:List Nod} (h:∀j,j<t.length→gid t j=true):idsV t=true:=by
 simp only[idsV,List.all_eq_true,List.mem_range]
 exact h
def fitV (g:Gram) (x:Nod) (parent place:Int) (sym:ByteArray):Bool:=
 hRul g.rules x.rule&&decide ((Zl g.rules x.rule).left = sym)&&decide (x.parent=parent)&&decide (x.place=place)&&decide (x.kids.length=(Zl g.rules x.rule).right.length) &&
 decide (-1000000≤x.lit∧x.lit≤1000000)&&((Zl g.rules x.rule).lit || decide (x.lit=0))
def Zf (w:Nat→Int→Int→ByteArray→Int) (i:Nat):List Int→List ByteArray→Int→Int→Int
 | c::cs,s::ss,k,at'=>if c≠at' then -1 else if w at'.toNat i (k+1) s<0 then -1 else Zf w i cs ss (k+1) (w at'.toNat i (k+1) s)
 | _,_,_,at'=>at'
def Zt (g:Gram) (t:List Nod):Nat→Nat→Int→Int→ByteArray→Int
 | 0,_,_,_,_ => -1
 | f+1,i,p,q,s=>if i<t.length then
  if fitV g (t.getD i nodZ) p q s then Zf (Zt g t f) i (t.getD i nodZ).kids (Zl g.rules (t.getD i nodZ).rule).right 0 (i+1) else -1
  else -1
theorem kidsW_ge {w:Nat→Int→Int→ByteArray→Int} {n:Int} {i:Nat} (hw:∀a p q s,0≤w a p q s→(a:Int)<w a p q s∧w a p q s≤n):∀(cs:List Int) (ss:List ByteArray) (k a:Int),0≤a→a≤n →
 Zf w i cs ss k a = -1∨(a≤Zf w i cs ss k a∧Zf w i cs ss k a≤n)
 | [],_,k,a,h0,h1=>by right;simp[Zf];omega
 | _ :: _,[],k,a,h0,h1=>by right;simp[Zf];omega
 | c::cs,s::ss,k,a,h0,h1=>by
  simp only[Zf]
  split
  ·exact .inl rfl
  split
  ·exact .inl rfl
  ·rename_i h2
   have h3:=hw a.toNat i (k+1) s oT
   rcases kidsW_ge hw cs ss (k+1) (w a.toNat i (k+1) s) oT h3.2 with h|h
   ·exact .inl h
   ·exact .inr oT
theorem walkE_ge {g:Gram} {t:List Nod}:∀(f i:Nat) (p q:Int) (s:ByteArray),0≤Zt g t f i p q s→(i:Int)<Zt g t f i p q s∧Zt g t f i p q s≤t.length
 | 0,i,p,q,s,h=>by simp[Zt] at h
 | f+1,i,p,q,s,h=>by
  simp only[Zt] at h ⊢
  split at h
  ·rename_i hi
   rw[if_pos hi]
   split at h
   ·rename_i hf
    rw[if_pos hf]
    rcases kidsW_ge (w:=Zt g t f) (n:=t.length) (i:=i) (fun a p q s h=>walkE_ge f a p q s h) (t.getD i nodZ).kids (Zl g.rules (t.getD i nodZ).rule).right 0 (i+1) oT oT with h2|h2
    ·rw[h2] at h;omega
    ·omega
   ·omega
  ·omega
theorem walkE_out {g:Gram} {t:List Nod} {f i:Nat} {p q:Int} {s:ByteArray} (h:t.length≤i):Zt g t f i p q s = -1:=by
 cases f with
 | zero=>rfl
 | succ f=>simp only[Zt];rw[if_neg oT]
def Za (g:Gram) (t:List Nod) (s:ByteArray):Bool:=decide (1≤t.length∧t.length≤16)&&(idsV t&&decide (Zt g t t.length 0 (-1) 0 s=t.length))
def Yv (g:Gram):ByteArray:=if 0<g.syms.length then (g.syms.getD 0 symZ).name else noS
theorem kidsW_step {w:Nat→Int→Int→ByteArray→Int} {i k:Nat} {cs:List Int} {ss:List ByteArray} {a:Int} (h1:k<cs.length) (h2:k<ss.length) :
 Zf w i (cs.drop k) (ss.drop k) k a=if cs[k]≠a then -1 else if w a.toNat i ((k:Int)+1) ss[k]<0 then -1 else Zf w i (cs.drop (k+1)) (ss.drop (k+1)) ((k+1:Nat):Int) (w a.toNat i ((k:Int)+1) ss[k]):=by
 rw[List.drop_eq_getElem_cons h1,List.drop_eq_getElem_cons h2,Zf]
 simp only[Int.natCast_add,Int.natCast_one]
theorem kidsW_end {w:Nat→Int→Int→ByteArray→Int} {i k:Nat} {cs:List Int} {ss:List ByteArray} {a:Int} {p:Int} (h1:cs.length≤k):Zf w i (cs.drop k) (ss.drop k) p a=a:=by
 rw[List.drop_eq_nil_of_le h1];cases ss.drop k<;>rfl
theorem fitV_iff {g:Gram} {x:Nod} {p q:Int} {s:ByteArray}:fitV g x p q s=true↔hRul g.rules x.rule=true∧(Zl g.rules x.rule).left = s∧x.parent=p∧x.place=q∧x.kids.length=(Zl g.rules x.rule).right.length ∧ (-1000000≤x.lit∧x.lit≤1000000) ∧
 ((Zl g.rules x.rule).lit = true∨(Zl g.rules x.rule).lit = false∧x.lit=0):=by
 simp only[fitV,Bool.and_eq_true,decide_eq_true_eq,Bool.or_eq_true,and_assoc]
 cases (Zl g.rules x.rule).lit <;> simp
theorem okV1 (n:Int):okV n 1=decide (-1000000≤n∧n≤1000000):=by
 simp only[okV,coV,satV]
 by_cases h : -1000000≤n∧n≤1000000
 ·simp[h];omega
 ·simp[h];omega
theorem gid_f1 {t:List Nod} {i:Nat} (h:i<t.length) (hb:¬(1≤t[i].id ∧ t[i].id ≤ 999)):gid t i=false:=by
 simp only[gid,Z3 h,decide_eq_false hb,Bool.false_and]
theorem gid_f2 {t:List Nod} {i:Nat} (h:i<t.length) (hb:((t.take i).any fun y=>decide (y.id=t[i].id))=true):gid t i=false:=by
 simp only[gid,Z3 h,hb,Bool.not_true,Bool.and_false]
theorem gid_t {t:List Nod} {i:Nat} (h:i<t.length) (ha:1≤t[i].id ∧ t[i].id ≤ 999) (hb:((t.take i).any fun y=>decide (y.id=t[i].id))=false):gid t i=true:=by
 simp only[gid,Z3 h,decide_eq_true ha,hb,Bool.not_false,Bool.and_true]
def hasI (l:List Int) (x:Int):Bool:=l.any fun y=>decide (y=x)
theorem hasI_hit {l:List Int} {x:Int} {i:Nat} (h:i<l.length) (e:l[i]=x):hasI l x=true:=by
 simp only[hasI,List.any_eq_true];exact ⟨l[i],List.getElem_mem h,by simp[e]⟩
theorem hasI_none {l:List Int} {x:Int} (h:∀y∈l,decide (y=x)=false):hasI l x=false:=by
 simp only[hasI,List.any_eq_false];intro y hy;simpa using h y hy
theorem hasI_map (t:List Nod) (x:Int):hasI (t.map (·.id)) x=t.any fun y=>decide (y.id=x):=by
 simp only[hasI,List.any_map];rfl
def tyK (g:Gram) (r:Rul) (e:Exp) (ts:List Int):Int:=
 if e.kind=1 then e.type else
 if e.kind=2 then (if r.lit then 1 else 0) else
 if e.kind=3 then (Zp g r e.pos e.name).type else
 if e.kind=4 then (if ts.length=2∧ts.getD 0 0=(opT e.n).1 ∧ ts.getD 1 0=(opT e.n).2.1 then (opT e.n).2.2 else 0) else
 if e.kind=5 then (if ts.length=3∧ts.getD 0 0=3∧ts.getD 1 0=ts.getD 2 0 then ts.getD 1 0 else 0) else
 if e.kind=6 then (if 0≤e.pos∧e.pos≤r.right.length then 4 else 0) else
 if e.kind=7 then 4 else
 if e.kind=8 then (if ts.length=1∧ts.getD 0 0=4 then (fAtt (Ze g.syms e.sym).atts e.name).type else 0) else 0
mutual
def tyE (g:Gram) (r:Rul):Exp→Int
 | .mk k n p t s m a=>tyK g r (.mk k n p t s m a) (tyEL g r a)
def tyEL (g:Gram) (r:Rul):List Exp→List Int
 | []=>[]
 | e::l=>tyE g r e::tyEL g r l
end
theorem tyEL_eq (g:Gram) (r:Rul) (l:List Exp):tyEL g r l=l.map (tyE g r):=by
 induction l with
 | nil=>rfl
 | cons e l ih=>simp[tyEL,ih]
theorem tyE_eq (g:Gram) (r:Rul) (e:Exp):tyE g r e=tyK g r e (e.args.map (tyE g r)):=by
 cases e;simp only[tyE,tyEL_eq];rfl
end Go.Gh
namespace Go.Gh
theorem X4 {α β:Type} (f:β→GV) (h:α→β) (l:List α) (i:Nat) (hi:i<l.length):List.take i (List.map f (List.map h (List.take i l)))++[f (h l[i])]=List.map f (List.map h (List.take (i+1) l)):=by
 have:=takeApp (fun a=>f (h a)) l i hi
 simp only[List.map_map];exact this
theorem treeOf_bad {g:Gram} {t:List Nod} {s:ByteArray} (h:idsV t=false):Za g t s=false:=by
 simp only[Za,h,Bool.false_and,Bool.and_false]
theorem getDm {α:Type} {l:List α} {f:α→Int} {k:Nat} (h:k<l.length):(l.map f).getD k 0=f l[k]:=by
 rw[Z3 (by simpa using h),List.getElem_map]
theorem Bor.of_eq {H:GH} {g g':GV} (h:g=g'):Bor H g g':=h▸Bor.refl
end Go.Gh
namespace Go.Gh
def nodeV (e:Exp):Bool:=
 decide (1≤e.kind∧e.kind≤8)&&bareV e &&
 (if e.kind=1 then decide (1≤e.type∧e.type≤3)&&okV e.n e.type&&decide (0≤e.n) else
  if e.kind=3 then decide (0≤e.pos∧e.pos≤3)&&Zs e.name else
  if e.kind=6 then decide (0≤e.pos∧e.pos≤3) else
  if e.kind=4 then decide (1≤e.n∧e.n≤12) else
  if e.kind=8 then Zs e.sym&&Zs e.name else true)
def validE (e:Exp):Bool:=decide (cntE e≤24)&&decide (dpE e≤6)&&allE nodeV e
theorem shp_iff' (l:List UInt8):shp l=true↔0<l.length∧(∀h:0<l.length,letV l[0]=true)∧∀(j:Nat) (h:j<l.length),letV l[j]=true∨digV l[j]=true:=by
 rw[shp_iff]
 constructor
 ·rintro ⟨h1,h2⟩
  refine ⟨h1,fun h=> ?_,fun j hj=> ?_⟩
  ·rcases h2 0 h with h3|h3
   ·exact h3
   ·exact absurd rfl h3.1
  ·rcases h2 j hj with h3|h3
   ·exact .inl h3
   ·exact .inr h3.2
 ·rintro ⟨h1,h2,h3⟩
  refine ⟨h1,fun j hj=> ?_⟩
  by_cases h0:j=0
  ·subst h0;exact .inl (h2 hj)
  ·rcases h3 j hj with h4|h4
   ·exact .inl h4
   ·exact .inr ⟨h0,h4⟩
theorem shp_no {l:List UInt8} {i:Nat} (h:i<l.length) (h1:letV l[i]=false) (h2:digV l[i]=false):shp l=false:=by
 cases hs:shp l with
 | false=>rfl
 | true=>
  rcases ((shp_iff' l).1 hs).2.2 i h with h3|h3
  ·rw[h1] at h3;cases h3
  ·rw[h2] at h3;cases h3
theorem shp_no0 {l:List UInt8} (h:0<l.length) (h1:letV l[0]=false):shp l=false:=by
 cases hs:shp l with
 | false=>rfl
 | true=>
  have:=((shp_iff' l).1 hs).2.1 h
  rw[h1] at this;cases this
theorem shp_yes {l:List UInt8} (h:0<l.length) (h1:letV l[0]=true) (hn:∀(j:Nat) (h:j<l.length),letV l[j]=true∨digV l[j]=true):shp l=true:=(shp_iff' l).2 ⟨h,fun _ => h1,hn⟩
end Go.Gh
namespace Go.Gh
theorem Bor.clo {H:GH} {f:Nat} {gs gs':List GV} (h:BorL H gs gs'):Bor H (.clo f gs) (.clo f gs'):=fun w D Ω v hst hm=>by
 simp only[MV] at hm ⊢
 obtain ⟨h0,vs,h1,h2⟩:=hm
 exact ⟨h0,vs,h1,h w D Ω vs hst h2⟩
theorem Bor.rop {H:GH} {sz:Nat} {g g':GV} (h:Bor H g g'):Bor H (.rop sz g) (.rop sz g'):=fun w D Ω v hst hm=>by
 simp only[MV] at hm ⊢
 obtain ⟨h0,b,off,u,h1,h2,h3,h4,h5,h6⟩:=hm
 exact ⟨h0,b,off,u,h1,.inl h2,h3,h4,h5,h w D Ω u hst h6⟩
theorem X1 (s:ByteArray):Zs s=(shp (ZR s)&&decide ((ZR s).length ≤ 8) && !resV s):=rfl
theorem okV_rng {n t:Int} (h:okV n t=true):1≤t∧t≤4:=by
 simp only[okV,Bool.and_eq_true,decide_eq_true_eq] at h;exact h.1
theorem allE_no {p:Exp→Bool} {e:Exp} {i:Nat} (h:i<e.args.length) (hb:allE p e.args[i]=false):allE p e=false:=by
 rw[allE_eq]
 have:e.args.all (allE p)=false:=by
  rw[List.all_eq_false]
  exact ⟨e.args[i],List.getElem_mem h,by simp[hb]⟩
 rw[this,Bool.and_false]
theorem allE_yes {p:Exp→Bool} {e:Exp} (h:∀a∈e.args,allE p a=true):allE p e=p e:=by
 rw[allE_eq,List.all_eq_true.2 h,Bool.and_true]
end Go.Gh
namespace Go.Gh
theorem noS_eq:(ByteArray.mk #[])=noS:=rfl
theorem gs_clo (f:Nat) (cs:List GV):gsize (.clo f cs)=1:=rfl
end Go.Gh
namespace Go.Gh
theorem Bor.seen {α:Type} {f g:α→GV} {H:GH} {r sz n:Nat} {l:List α} (hv:∀a,view (f a)=g a) (hr:ZU H r=some (sz,l.map f)) (hl:l.length=n):Bor H (.own r sz 0 n) (.sl sz (l.map g)):=by
 have:=Bor.own (k:=0) (n:=n) hr (by simp[hl])
 rw[List.drop_zero,List.take_of_length_le (by simp[hl]),Zr,List.map_map] at this
 have e:l.map (view ∘ f)=l.map g:=List.map_congr_left fun a _ => hv a
 rwa [e] at this
section
variable {P:Program} {α:Type} {f:α→GV} {k kx sz:Nat} {ag:Bool}
end
theorem FR.perm {g:GV} {H L T:GH} (hs:subH H L):FR g (H++T) g (L++T):=by
 intro w D Ω v hv hst
 obtain ⟨Ω',h1,h2⟩:=St.sub hst hs
 exact ⟨D,Ω',hv,h1,⟨fun _ h=>h,fun _ _ h=> .inl h,fun b hb _ => h2 b hb,Kept.refl _ _,rfl,rfl,rfl⟩⟩
end Go.Gh
namespace Go.Gh
def movN (b:Int) (x:Nod):Nod:={ x with parent:=IntKind.i64.wrap (x.parent+b),kids:=x.kids.map fun k=>IntKind.i64.wrap (k+b) }
def ndZ:Nod:=⟨0,0,0,0,noS,[]⟩
def rootN (x:Nod):Nod:={ x with parent:= -1,place:=0 }
def subK (t:List Nod) (i k:Nat):Nod:=if k=0 then rootN (movN (0-(i:Int)) (t.getD (i+k) ndZ)) else movN (0-(i:Int)) (t.getD (i+k) ndZ)
def Y2 (t:List Nod) (i:Int):List Nod:=(List.range (Y6 t i).toNat).map (subK t i.toNat)
theorem subT_out {t:List Nod} {i:Int} (h:¬(0≤i∧i<t.length)):Y2 t i=[]:=by simp[Y2,Y6,h]
theorem subT_in {t:List Nod} {i:Nat} (h:i<t.length):Y2 t i=(List.range (ZC t i)).map (subK t i):=by
 have:(0:Int)≤i∧(i:Int)<t.length:=by omega
 simp[Y2,Y6,this]
theorem YB {t:List Nod} {i:Nat} (h:i<t.length):Y6 t i=ZC t i:=by
 have:(0:Int)≤i∧(i:Int)<t.length:=by omega
 simp[Y6,this]
theorem range_step {α:Type} (f:Nat→α) (k:Nat):((List.range k).map f)++[f k]=(List.range (k+1)).map f:=by
 simp[List.range_succ]
theorem FE.closeL {env:Env} {H:GH} {r r1 sz sz1 j n:Nat} {L gs ks:List GV} (hne:r≠r1) (hr:ZU H r=some (sz,L++[.agg gs])) (hg:gs[j]? = some (.own r1 sz1 0 n)) (hr1:ZU H r1=some (sz1,ks)) (hn:ks.length=n) :
 FE env H env (Zj (ZG H r (L++[.agg (gs.set j (.osl sz1 ks))])) r1):=by
 have:=FE.close (env:=env) (i:=L.length) hne hr (by simp) hg hr1 hn
 simpa using this
end Go.Gh
namespace Go.Gh
section
variable {α:Type} (w:α→Nat) (m:α→Int→α)
end
section
variable {α:Type} {f:α→α}
theorem mapm_len {l:List α} {c:Nat}:((l.take c).map f++l.drop c).length = l.length:=by simp;omega
theorem mapm_get {l:List α} {c:Nat} (h:c<l.length) (h':c<((l.take c).map f++l.drop c).length):((l.take c).map f++l.drop c)[c]=l[c]:=by
 rw[List.getElem_append_right (by simp;omega)]
 have e:c+(c-((l.take c).map f).length)=c:=by simp;omega
 simp only[List.getElem_drop,e]
theorem mapm_set {l:List α} {c:Nat} (h:c<l.length):((l.take c).map f++l.drop c).set c (f l[c])=(l.take (c+1)).map f++l.drop (c+1):=by
 rw[List.set_append_right _ _ (by simp;omega)]
 have e:c-((l.take c).map f).length = 0:=by simp;omega
 rw[e,List.drop_eq_getElem_cons h,List.set_cons_zero,List.take_add_one,List.getElem?_eq_getElem h,List.map_append,List.append_assoc]
 rfl
end
theorem St.exchC {w:World} {D:Nat→Prop} {H:GH} {Ω:List Nat} (h:St w D H Ω) {r sz i:Nat} {es:List GV} {e e':GV} (hr:ZU H r=some (sz,es)) (he:es[i]? = some e) (hx:∀v F,MV w D e v F→∃v',v'.cells=v.cells∧MV w D e' v' F):St w D (ZG H r (es.set i e')) Ω:=by
 obtain ⟨Ω1,F',Ω2,hΩ,hR,hput,_⟩:=HM.take h.hm hr
 obtain ⟨b,c,T,fz,F0,k1,k2,k3,k4,k5,k6,k7⟩:=hR.es_ne (fun e=>by rw[e] at he;simp at he)
 obtain ⟨pre,v,post,A1,Ai,A2,m1,m2,m3,m4,m5,m6,m7⟩:=MF.split sz es _ F0 i _ k7 he
 obtain ⟨v',hc,hv'⟩:=hx _ _ m6
 have hmf:=m7 w D (fun _ => True) e' v' Ai (Kept.refl _ _) (fun _ _ => trivial) (fun _ h=>h) (fun _ _ => trivial) (by rw[hc];exact m3) (by unfold okc at m4 ⊢;rw[hc];exact m4) hv'
 rw[hc,←m1,←m5] at hmf
 have hRM:RM w D r sz (es.set i e') F':= .inl ⟨b,c,T,fz,F0,k1,k2,k3,by simpa using k4,by simpa using k5,k6,by simpa using hmf⟩
 have hfin:=hput w D (fun _ => True) _ _ (Kept.refl _ _) (fun _ _ => trivial) (fun _ h=>h) (fun _ _ => trivial) hRM
 rw[←hΩ] at hfin
 exact ⟨hfin,h.nd,by rw[Y3];exact h.nn,h.dj,h.ds⟩
theorem FE.exchC {env:Env} {H:GH} {r sz i:Nat} {es:List GV} {e e':GV} (hr:ZU H r=some (sz,es)) (he:es[i]? = some e) (hx:∀w D v F,MV w D e v F→∃v',v'.cells=v.cells∧MV w D e' v' F):FE env H env (ZG H r (es.set i e')):=by
 intro w0 D0 O0 N a w ⟨hdf,hsz,D,Ω,ρw,hi⟩
 exact ⟨hdf,hsz,D,Ω,ρw,hi.st' (hi.st.exchC hr he (hx w D)) (fun _ h=>h)⟩
theorem MV.unagg {w:World} {D:Nat→Prop} {g:GV}:∀v F,MV w D (.agg [g]) v F→∃v',v'.cells=v.cells∧MV w D g v' F:=fun v F h=>by
 simp only[MV] at h
 obtain ⟨vs,rfl,h1,h2⟩:=h
 simp only[ML] at h2
 obtain ⟨u,vs',F1,F2,rfl,rfl,h3,rfl,rfl⟩:=h2
 have ho:=h1 u (by simp)
 refine ⟨u,?_,by simpa using h3⟩
 cases u<;>first|rfl|(simp[Value.oneCell'] at ho)
theorem FE.unagg {env:Env} {H:GH} {r sz:Nat} {g:GV} (hr:ZU H r=some (sz,[.agg [g]])):FE env H env (ZG H r [g]):=
 FE.exchC (i:=0) hr rfl (fun _ _ => MV.unagg)
theorem FE.virtU {env:Env} {H:GH} {r r1 sz sz1:Nat} (hr:ZU H r=some (sz,[.agg [.val (.slice none 0 0)]])) (ho:r1 % 4=1) (hn:r1∉names H) :
 FE env H env ((r1,sz1,[])::ZG H r [.own r1 sz1 0 0]):=by
 have h1:FE env H env ((r1,sz1,[])::ZG H r [.agg [.own r1 sz1 0 0]]):=FE.virtF (i:=0) (j:=0) hr rfl rfl ho hn
 have hne:r1≠r:=fun e=>hn (e▸mem_of_hget hr)
 have h2:=FE.unagg (env:=env) (H:=(r1,sz1,[])::ZG H r [.agg [.own r1 sz1 0 0]]) (r:=r) (by rw[YL hne,hget_set hr])
 rw[hset_old hne,hset_set] at h2
 exact FE.trans h1 h2
theorem mkEnd_drop (k:Int) (t:List Nod) (i:Nat):Zk k (t.drop i)≤Zk k t:=by
 have e:=Ya k t
 have e2:=Ya k (t.drop i)
 have h1:((t.drop i).map (·.kids.length)).sum ≤ (t.map (·.kids.length)).sum := by
  have:=congrArg (fun l:List Nod=>(l.map (·.kids.length)).sum) (List.take_append_drop i t)
  simp only[List.map_append,List.sum_append] at this
  omega
 have h2:(t.drop i).length ≤ t.length:=by simp
 omega
theorem mkEnd_congr {k:Int}:∀{t u:List Nod},t.map (·.kids.length)=u.map (·.kids.length)→Zk k t=Zk k u:=by
 intro t u h
 have hl:=congrArg List.length h
 simp only[List.length_map] at hl
 rw[Ya,Ya,h,hl]
theorem subT_kids (t:List Nod) (i:Nat) (h:i<t.length):(Y2 t i).map (·.kids.length)=((t.drop i).take (ZC t i)).map (·.kids.length):=by
 have hle:=Yr h
 rw[subT_in h]
 apply List.ext_getElem
 ·simp;omega
 ·intro k h1 h2
  simp only[List.length_map,List.length_range] at h1
  simp only[List.getElem_map,List.getElem_range,List.getElem_take,List.getElem_drop,subK]
  have e:t.getD (i+k) ndZ=t[i+k]:=Z3 oT
  rw[e];split<;>simp[movN,rootN]
theorem Ye (t:List Nod) (i:Int):Zk 1 (Y2 t i)≤Zk 1 t:=by
 by_cases hi:0≤i∧i<t.length
 ·obtain ⟨i,rfl⟩:∃k:Nat,i=k:=⟨i.toNat,oT⟩
  have hi':i<t.length:=by omega
  rw[mkEnd_congr (subT_kids t i hi')]
  exact Int.le_trans (mkEnd_take _) (mkEnd_drop _ _ _)
 ·rw[subT_out hi];exact mkEnd_le 1 t
end Go.Gh
namespace Go.Gh
theorem neN (r:Nat) (x:Nat×List GV) (H:GH):(names ((r,x)::H)).Nodup = (neA r H∧(names H).Nodup):=by
 apply propext
 constructor
 ·intro h
  have h2:=h
  simp only[names,List.map_cons,List.nodup_cons] at h2
  exact ⟨neA_of h2.1,h2.2⟩
 ·rintro ⟨h1,h2⟩
  simp only[names,List.map_cons,List.nodup_cons]
  refine ⟨?_,h2⟩
  clear h2
  induction H with
  | nil=>simp
  | cons y H ih=>
   obtain ⟨q,y⟩:=y
   simp only[Z5] at h1
   simp only[List.map_cons,List.mem_cons,not_or]
   exact ⟨h1.1,ih h1.2.2⟩
theorem FE.closeL2 {env:Env} {H:GH} {r r1 sz sz1 j n:Nat} {L gs ks:List GV} (hne:¬r=r1) (hg:gs[j]? = some (.own r1 sz1 0 n)) (hn:ks.length=n) :
 FE env ((r,sz,L++[.agg gs])::(r1,sz1,ks)::H) env ((r,sz,L++[.agg (gs.set j (.osl sz1 ks))])::H):=by
 have h:=FE.closeL (env:=env) (H:=(r,sz,L++[.agg gs])::(r1,sz1,ks)::H) (r:=r) (r1:=r1) hne ZX hg (by rw[YL hne,ZX]) hn
 rwa [YD,YE hne,YW] at h
theorem FE.virtU1 {env:Env} {H:GH} {r r1 sz sz1:Nat} (ho:r1 % 4=1) (hn:r1∉names ((r,sz,[.agg [.val (.slice none 0 0)]])::H)) :
 FE env ((r,sz,[.agg [.val (.slice none 0 0)]])::H) env ((r1,sz1,[])::(r,sz,[.own r1 sz1 0 0])::H):=by
 have h:=FE.virtU (env:=env) (H:=(r,sz,[.agg [.val (.slice none 0 0)]])::H) (r:=r) (r1:=r1) (sz1:=sz1) ZX ho hn
 rwa [YD] at h
theorem wrap_w (a b:Int):IntKind.i64.wrap (IntKind.i64.wrap a+b)=IntKind.i64.wrap (a+b):=by
 simp only[IntKind.wrap,IntKind.bits,IntKind.signed]
 simp
 try omega
theorem get_mid (st:List GV) (X:GV) (L:List GV) (h:st.length<(st++X::L).length):(st++X::L)[st.length]=X:=by
 simp
theorem set_mid (st:List GV) (X Y:GV) (L:List GV):(st++X::L).set st.length Y=st++Y::L:=by
 simp
theorem Bor.ptr {H:GH} {r sz:Nat} {g:GV} (hr:ZU H r=some (sz,[g])):Bor H (.ptr r sz 0 0) (.rop sz (view g)):=fun w D Ω v h hv=>by
 obtain ⟨F,hF,hFΩ⟩:=h.hm.mem hr
 simp only[MV] at hv ⊢
 obtain ⟨_,b,rfl,hb,rfl⟩:=hv
 rcases hF with ⟨b',c,T,fz,F',k1,k2,k3,k4,k5,k6,k7⟩|⟨k1,_,_⟩
 ·have:b'=b:=by omega
  subst this
  simp only[MF] at k7
  obtain ⟨u,cs',F1,F2,e1,e2,e3,rfl,e5,rfl,rfl⟩:=k7
  refine ⟨trivial,b',0,u,by simp,.inr (hFΩ _ (by simp[k6])),⟨c,T,fz,k2,fun j x hj=> ?_⟩,e3,e2,MV.view (fun _ => .inl) g u F1 (fun x hx=> .inr (hFΩ x (by simp[k6,hx]))) e5⟩
  have e1':c.toList.take (1 * sz)=u.cells.toList:=by simpa using e1
  have h2:(c.toList.take (1 * sz))[j]? = some x:=by rw[e1'];exact hj
  rw[List.getElem?_take] at h2
  split at h2
  ·simpa using h2
  ·cases h2
 ·omega
theorem FE.ropV {env:Env} {H:GH} {r sz j:Nat} {g:GV} (hj:ZM env j=some (.ptr r sz 0 0)) (hr:ZU H r=some (sz,[g])):FE env H (eset env j (.rop sz (view g))) (Zj H r):=by
 intro w0 D0 O0 N a w ⟨hdf,hsz,D,Ω,ρw,hi⟩
 obtain ⟨F,Ω',h1,h2,h3,h4⟩:=take_one hi.st hr
 refine ⟨hdf,hsz,fun b=>D b∨b∈F,Ω',ρw,fun i x hg hne=> ?_,fun i n hg=> ?_,hi.ri,fun i b hb=> ?_,h2,hi.ev.trans ⟨fun _ h=> .inl h,fun b hb hD=>hD.elim .inl fun h=> .inr (h3 b h),fun b hb _ => h4 b hb,Kept.refl _ _,rfl,rfl,rfl⟩⟩
 ·rw[YP] at hg
  split at hg
  ·rename_i e
   subst e
   simp only[Option.some.injEq] at hg
   subst hg
   obtain ⟨v,m1,m2⟩:=hi.em j _ hj (fun n e=>by cases e)
   exact ⟨v,m1,Bor.ptr (H:=[(r,sz,[g])]) ZX w D F v h1 m2⟩
  ·obtain ⟨v,m1,m2⟩:=hi.em i x hg hne
   exact ⟨v,m1,m2.more fun _ => .inl⟩
 ·rw[YP] at hg
  split at hg
  ·cases hg
  ·exact hi.rw i n hg
 ·obtain ⟨r1,r2,r3,r4⟩:=hi.rd i b hb
  exact ⟨fun hD=>hD.elim r1 fun h=>r2 (h3 b h),fun h=>r2 (h4 b h),r3,r4⟩
theorem FE.ropV1 {env:Env} {H:GH} {r sz:Nat} {g g':GV} (j:Nat) (hj:ZM env j=some (.ptr r sz 0 0)) (hv:view g=g'):FE env ((r,sz,[g])::H) (eset env j (.rop sz g')) H:=by
 subst hv
 have h:=FE.ropV (H:=(r,sz,[g])::H) hj ZX
 rwa [YW] at h
def shK (e b k:Int):Int:=if e≤k then IntKind.i64.wrap (k+b) else k
def outN (e b:Int) (x:Nod):Nod:={ x with parent:=shK e b x.parent,kids:=x.kids.map (shK e b) }
def putK (sub:List Nod) (n:Nod) (i:Int) (k:Nat):Nod:=if k=0 then { movN i (sub.getD k ndZ) with parent:=n.parent,place:=n.place } else movN i (sub.getD k ndZ)
def putT (sub:List Nod) (n:Nod) (i:Int):List Nod:=(List.range sub.length).map (putK sub n i)
def YV (t:List Nod) (i:Int) (sub:List Nod):List Nod:=
 if 0≤i∧i<t.length∧sub≠[] then
  (t.take i.toNat).map (outN (i+ZC t i.toNat) (sub.length-ZC t i.toNat))++(putT sub (t.getD i.toNat ndZ) i++(t.drop (i.toNat+ZC t i.toNat)).map (outN (i+ZC t i.toNat) (sub.length-ZC t i.toNat)))
 else t
def repP (t:List Nod) (i n:Nat) (sub:List Nod) (F:Nod→Nod) (x:Nod) (k:Nat):List Nod:=
 if k≤i then (t.take k).map F else (t.take i).map F++(putT sub x i++((t.drop (i+n)).take (k-(i+n))).map F)
theorem putT_len (sub:List Nod) (n:Nod) (i:Int):(putT sub n i).length = sub.length:=by simp[putT]
theorem repP_lo {t:List Nod} {i n:Nat} {sub:List Nod} {F:Nod→Nod} {x:Nod} {k:Nat} (h:k<i) (hk:k<t.length):repP t i n sub F x (k+1)=repP t i n sub F x k++[F t[k]]:=by
 simp only[repP,if_pos (show k+1≤i by omega),if_pos (show k≤i by omega)]
 rw[List.take_add_one,List.getElem?_eq_getElem hk,List.map_append];rfl
theorem repP_at {t:List Nod} {i n:Nat} {sub:List Nod} {F:Nod→Nod} {x:Nod} (hn:0<n):repP t i n sub F x (i+1)=repP t i n sub F x i++putT sub x i:=by
 simp only[repP,if_neg (show ¬i+1≤i by omega),if_pos (Nat.le_refl i)]
 rw[show i+1-(i+n)=0 by omega];simp
theorem repP_in {t:List Nod} {i n:Nat} {sub:List Nod} {F:Nod→Nod} {x:Nod} {k:Nat} (h:i<k) (h2:k<i+n):repP t i n sub F x (k+1)=repP t i n sub F x k:=by
 simp only[repP,if_neg (show ¬k+1≤i by omega),if_neg (show ¬k≤i by omega)]
 rw[show k+1-(i+n)=0 by omega,show k-(i+n)=0 by omega]
theorem repP_hi {t:List Nod} {i n:Nat} {sub:List Nod} {F:Nod→Nod} {x:Nod} {k:Nat} (hn:0<n) (h:i+n≤k) (hk:k<t.length):repP t i n sub F x (k+1)=repP t i n sub F x k++[F t[k]]:=by
 simp only[repP,if_neg (show ¬k+1≤i by omega),if_neg (show ¬k≤i by omega)]
 have hd:k-(i+n)<(t.drop (i+n)).length := by simp;omega
 have e:i+n+(k-(i+n))=k:=by omega
 rw[show k+1-(i+n)=k-(i+n)+1 by omega,List.take_add_one,List.getElem?_eq_getElem hd,List.map_append,List.getElem_drop]
 simp only[e,List.append_assoc]
 rfl
theorem repP_end {t:List Nod} {i n:Nat} {sub:List Nod} {F:Nod→Nod} {x:Nod} (hn:0<n) (h:i+n≤t.length):repP t i n sub F x t.length=(t.take i).map F++(putT sub x i++(t.drop (i+n)).map F):=by
 simp only[repP,if_neg (show ¬t.length≤i by omega)]
 rw[List.take_of_length_le (l:=t.drop (i+n)) (by simp)]
theorem repP_len (t:List Nod) (i n:Nat) (sub:List Nod) (F:Nod→Nod) (x:Nod) (k:Nat):(repP t i n sub F x k).length ≤ t.length+sub.length+t.length:=by
 unfold repP
 split
 ·simp;omega
 ·simp[putT_len];omega
theorem repT_len (t:List Nod) (i:Int) (sub:List Nod):(YV t i sub).length ≤ t.length+sub.length:=by
 unfold YV
 split
 ·simp[putT_len];omega
 ·omega
theorem take_snocM {α β:Type} (f:α→β) {l:List α} {k:Nat} (h:k<l.length):(l.take k).map f++[f l[k]]=(l.take (k+1)).map f:=by
 rw[List.take_add_one,List.getElem?_eq_getElem h,List.map_append];rfl
theorem putT_take {sub:List Nod} {n:Nod} {i:Int} {k:Nat} (h:k<sub.length):(putT sub n i).take k++[putK sub n i k]=(putT sub n i).take (k+1):=by
 have hl:k<(putT sub n i).length := by rw[putT_len];exact h
 rw[List.take_add_one,List.getElem?_eq_getElem hl]
 simp[putT]
theorem putT_kids (sub:List Nod) (n:Nod) (i:Int):(putT sub n i).map (·.kids.length)=sub.map (·.kids.length):=by
 apply List.ext_getElem
 ·simp[putT_len]
 ·intro k h1 h2
  have hk:k<sub.length:=by simpa using h2
  simp only[putT,List.getElem_map,List.getElem_range,putK]
  rw[Z3 hk]
  split<;>simp[movN]
theorem outN_kids (e b:Int) (l:List Nod):(l.map (outN e b)).map (·.kids.length)=l.map (·.kids.length):=by
 rw[List.map_map];exact List.map_congr_left fun x _ => by simp[outN]
theorem kids_part (t:List Nod) (i n:Nat):((t.take i).map (·.kids.length)).sum + ((t.drop (i+n)).map (·.kids.length)).sum ≤ (t.map (·.kids.length)).sum := by
 have e1:=congrArg (fun l:List Nod=>(l.map (·.kids.length)).sum) (List.take_append_drop i t)
 have e2:=congrArg (fun l:List Nod=>(l.map (·.kids.length)).sum) (List.take_append_drop n (t.drop i))
 simp only[List.map_append,List.sum_append,List.drop_drop] at e1 e2
 omega
theorem repT_kids (t:List Nod) (i:Int) (sub:List Nod):((YV t i sub).map (·.kids.length)).sum ≤ (t.map (·.kids.length)).sum + (sub.map (·.kids.length)).sum := by
 unfold YV
 split
 ·rw[List.map_append,List.map_append,outN_kids,outN_kids,putT_kids,List.sum_append,List.sum_append]
  have:=kids_part t i.toNat (ZC t i.toNat)
  omega
 ·omega
theorem Yf (t:List Nod) (i:Int) (sub:List Nod):Zk 1 (YV t i sub)≤Zk 1 t+Zk 1 sub:=by
 have h1:=repT_kids t i sub
 have h2:=repT_len t i sub
 rw[Ya,Ya,Ya]
 omega
end Go.Gh
namespace Go.Gh
end Go.Gh
namespace Go.Gh
def expZ:Exp:= .mk 0 0 0 0 noS noS []
def eqnF (r:Rul) (o:Int×ByteArray):Option Eqn:=r.eqs.find? fun q=>decide (q.pos=o.1∧q.name=o.2)
def eqnE (r:Rul) (o:Int×ByteArray):Exp:=((eqnF r o).map (·.expr)).getD expZ
end Go.Gh
namespace Go.Gh
theorem Pure.froz {P:Program} {f:FuncId} {gs gs':List GV} {R:GV→Prop} {H:GH} (h:Pure P f gs' R) (hb:BorL H gs gs'):GCalls P f gs H (fun g H'=>R g∧H'=[]):=by
 intro w D Ω args hst hargs
 have hds:∀b,(D b∨b∈Ω)→b<w.heap.size:=fun b hb=>hb.elim (hst.ds b) (HM.flt hst.hm b)
 refine Yld.mono (fun v w' ⟨g,H',D',Ω',k1,k2,k3,k4⟩=> ?_) (h w _ [] args (St.nil hds) (hb w D Ω args hst hargs))
 exact ⟨g,[],D',[],⟨k1,rfl⟩,k2,St.nil k3.ds,⟨fun b hb=>k4.d0 b (.inl hb),fun b hl hD=>(k4.dn b hl hD).elim (fun h=>h) (fun h=>by simp at h),fun b hb hl=>by simp at hb,
  k4.kp.mono fun _ _ _ => by simp,k4.os,k4.tape,k4.output⟩⟩
abbrev Oc:=Int×ByteArray
abbrev OcS (l:List Oc):GV:= .sl 2 (l.map Occ)
def ltN (a b:ByteArray):Bool:=Op.bytesLess (ZR a) (ZR b)
def ltO (a b:Oc):Bool:=decide (a.1<b.1)||(decide (a.1=b.1)&&ltN a.2 b.2)
def atO:List Oc→Oc→Nat
 | [],_ => 0
 | a::l,o=>if ltO a o=true then atO l o+1 else 0
def putO (l:List Oc) (o:Oc):List Oc:=if l[atO l o]? = some o then l else l.take (atO l o)++o::l.drop (atO l o)
mutual
def usE:Exp→List Oc→List Oc
 | .mk k _ p _ _ m a,l=>usEL a (if k=3 then putO l (p,m) else l)
def usEL:List Exp→List Oc→List Oc
 | [],l=>l
 | e::r,l=>usEL r (usE e l)
end
theorem usE_eq (e:Exp) (l:List Oc):usE e l=usEL e.args (if e.kind=3 then putO l (e.pos,e.name) else l):=by
 cases e;rfl
theorem usEL_step {al:List Exp} {i:Nat} (h:i<al.length) (l:List Oc):usEL (al.take (i+1)) l=usE al[i] (usEL (al.take i) l):=by
 have hs:∀(al:List Exp) (e:Exp) (l:List Oc),usEL (al++[e]) l=usE e (usEL al l):=by
  intro al e
  induction al with
  | nil=>intro l;rfl
  | cons a al ih=>intro l;exact ih _
 rw[List.take_add_one,List.getElem?_eq_getElem h]
 exact hs _ _ _
theorem atO_le:∀(l:List Oc) (o:Oc),atO l o≤l.length
 | [],_ => Nat.le_refl _
 | a::l,o=>by
  have:=atO_le l o
  simp only[atO,List.length_cons]
  split<;>omega
theorem atO_of:∀{l:List Oc} {o:Oc} {i:Nat},i≤l.length→(∀a∈l.take i,ltO a o=true)→(∀h:i<l.length,ltO l[i] o=false)→atO l o=i
 | [],_,i,h,_,_ => by simp at h;subst h;rfl
 | a::l,o,0,_,_,h2=>by
  have:=h2 (by simp)
  simp only[List.getElem_cons_zero] at this
  simp[atO,this]
 | a::l,o,i+1,h,h1,h2=>by
  have ha:=h1 a (by simp)
  have:=atO_of (l:=l) (o:=o) (i:=i) (by simpa using h) (fun b hb=>h1 b (by simp[hb])) (fun hi=>by have:=h2 (by simpa using hi);simpa using this)
  simp[atO,ha,this]
theorem take_all_step {α:Type} {p:α→Bool} {l:List α} {i:Nat} (h:i<l.length) (hp:p l[i]=true) (hn:∀a∈l.take i,p a=true):∀a∈l.take (i+1),p a=true:=by
 rw[List.take_add_one,List.getElem?_eq_getElem h]
 intro a ha
 rcases List.mem_append.1 ha with ha|ha
 ·exact hn a ha
 ·simp at ha;subst ha;exact hp
theorem putM {l:List Oc} {o:Oc} {i:Nat} (hi:i≤l.length):List.take (min i l.length-Int.toNat 0+1) (List.take (min i l.length-Int.toNat 0) (List.drop (Int.toNat 0) (List.take i (List.map Occ l)))++[Occ o])++List.drop i (List.take l.length (List.map Occ l))=(l.take i++o::l.drop i).map Occ:=by
 have hm:min i l.length=i:=by omega
 have h0:Int.toNat 0=0:=rfl
 have a1:List.take i (List.take i (List.map Occ l))=(l.take i).map Occ:=by rw[List.take_take,Nat.min_self,List.map_take]
 have a2:List.take l.length (List.map Occ l)=List.map Occ l:=List.take_of_length_le (by simp)
 rw[h0,hm,Nat.sub_zero,List.drop_zero,a1,a2,List.take_of_length_le (l:=(l.take i).map Occ++[Occ o]) (by simp;omega),List.map_append,List.map_cons,List.map_drop,List.append_assoc]
 rfl
theorem putN {l:List Oc} {o:Oc} {i:Nat} (hi:i≤l.length):min i l.length-Int.toNat 0+1+(min l.length l.length-i)=(l.take i++o::l.drop i).length := by
 have h0:Int.toNat 0=0:=rfl
 rw[h0];simp;omega
theorem putO_len (l:List Oc) (o:Oc):(putO l o).length ≤ l.length+1:=by
 unfold putO
 split
 ·omega
 ·have:=atO_le l o
  simp;omega
theorem wExL_step {al:List Exp} {i:Nat} (h:i<al.length):wExL (al.take (i+1))=wExL (al.take i)+wEx al[i]:=by
 rw[wExL_eq,wExL_eq,List.take_add_one,List.getElem?_eq_getElem h]
 simp only[Option.toList_some,List.map_append,List.map_cons,List.map_nil,List.sum_append,List.sum_cons,List.sum_nil,Nat.add_zero]
theorem wExL_take (al:List Exp) (i:Nat):wExL (al.take i)≤wExL al:=by
 have:=congrArg (fun l:List Exp=>(l.map wEx).sum) (List.take_append_drop i al)
 simp only[List.map_append,List.sum_append] at this
 rw[wExL_eq,wExL_eq]
 omega
theorem wEx_args (e:Exp):e.args.length+wExL e.args≤wEx e:=by
 cases e;simp only[wEx,Exp.args];omega
mutual
theorem usE_len:∀(e:Exp) (l:List Oc),(usE e l).length ≤ l.length+(1+wEx e)
 | .mk k n p t s m a,l=>by
  have h1:=usEL_len a (if k=3 then putO l (p,m) else l)
  have h2:(if k=3 then putO l (p,m) else l).length ≤ l.length+1:=by split;exact putO_len _ _;omega
  simp only[usE,wEx]
  omega
theorem usEL_len:∀(al:List Exp) (l:List Oc),(usEL al l).length ≤ l.length+(al.length+wExL al)
 | [],l=>by simp[usEL,wExL]
 | e::r,l=>by
  have h1:=usE_len e l
  have h2:=usEL_len r (usE e l)
  simp only[usEL,wExL,List.length_cons]
  omega
end
end Go.Gh
namespace Go.Gh
theorem St.frz {w:World} {D:Nat→Prop} {H:GH} {Ω:List Nat} (h:St w D H Ω) {r sz:Nat} {es:List GV} (hr:ZU H r=some (sz,es)) :
 ∃D' Ω',St w D' (ZG H r (Zc es)) Ω'∧(∀b,D b→D' b)∧(∀b,D' b→D b∨b∈Ω)∧∀b∈Ω',b∈Ω:=by
 obtain ⟨Ω1,F,Ω2,hΩ,hR,hput,_⟩:=HM.take h.hm hr
 rcases hR with ⟨b,c,T,fz,F',k1,k2,k3,k4,k5,k6,k7⟩|⟨k1,k2,k3⟩
 ·subst k6
  have hnd:=h.nd
  rw[hΩ] at hnd
  have hRM:RM w (fun x=>D x∨x∈F') r sz (Zc es) [b]:=
   .inl ⟨b,c,T,fz,[],k1,k2,k3,by simpa[Zr] using k4,by simpa[Zr] using k5,rfl,by
    have:=MF.view (D':=fun x=>D x∨x∈F') (fun _ => .inl) sz es _ F' (fun x hx=> .inr hx) k7
    simpa[Zr] using this⟩
  have hfin:=hput w (fun x=>D x∨x∈F') (fun _ => True) _ _ (Kept.refl _ _) (fun _ _ => trivial) (fun _ => .inl) (fun _ _ => trivial) hRM
  have hsub:(Ω1++([b]++Ω2)).Sublist (Ω1++((b::F')++Ω2)):=by
   refine List.Sublist.append (List.Sublist.refl _) (List.Sublist.append ?_ (List.Sublist.refl _))
   simp
  refine ⟨fun x=>D x∨x∈F',_,⟨hfin,hnd.sublist hsub,by rw[Y3];exact h.nn,?_,?_⟩,fun _ => .inl,?_,fun x hx=>by rw[hΩ];exact hsub.subset hx⟩
  ·intro x hx hD
   rcases hD with hD|hD
   ·exact h.dj x (by rw[hΩ];exact hsub.subset hx) hD
   ·have hc:=List.nodup_iff_count.1 hnd x
    have h1:=List.count_pos_iff.2 hx
    have h2:=List.count_pos_iff.2 hD
    simp only[List.count_append,List.count_cons,List.count_nil] at hc h1
    omega
  ·intro x hD
   rcases hD with hD|hD
   ·exact h.ds x hD
   ·exact HM.flt h.hm x (by rw[hΩ];simp[hD])
  ·intro x hD
   rcases hD with hD|hD
   ·exact .inl hD
   ·exact .inr (by rw[hΩ];simp[hD])
 ·subst k2 k3
  have hfin:=hput w D (fun _ => True) [] [] (Kept.refl _ _) (fun _ _ => trivial) (fun _ h=>h) (fun _ _ => trivial) (.inr ⟨k1,rfl,rfl⟩)
  refine ⟨D,Ω,⟨?_,h.nd,by rw[Y3];exact h.nn,h.dj,h.ds⟩,fun _ h=>h,fun _ => .inl,fun _ h=>h⟩
  rw[hΩ];exact hfin
theorem FE.frz {env:Env} {H:GH} {r sz:Nat} {es:List GV} (hr:ZU H r=some (sz,es)):FE env H env (ZG H r (Zc es)):=by
 intro w0 D0 O0 N a w ⟨hdf,hsz,D,Ω,ρw,hi⟩
 obtain ⟨D',Ω',h1,h2,h3,h4⟩:=hi.st.frz hr
 refine ⟨hdf,hsz,D',Ω',ρw,fun i g hg hn=> ?_,hi.rw,hi.ri,fun i b hb=> ?_,h1,hi.ev.trans ⟨h2,fun b _ hD=>h3 b hD,fun b hb _ => h4 b hb,Kept.refl _ _,rfl,rfl,rfl⟩⟩
 ·obtain ⟨v,m1,m2⟩:=hi.em i g hg hn
  exact ⟨v,m1,m2.more h2⟩
 ·obtain ⟨r1,r2,r3,r4⟩:=hi.rd i b hb
  exact ⟨fun hD=>(h3 b hD).elim r1 r2,fun h=>r2 (h4 b h),r3,r4⟩
theorem FE.frzV {env:Env} {H:GH} {r sz:Nat} {es es':List GV} (hv:Zc es=es'):FE env ((r,sz,es)::H) env ((r,sz,es')::H):=by
 subst hv
 have:=FE.frz (env:=env) (H:=(r,sz,es)::H) (r:=r) (sz:=sz) (es:=es) (by simp[ZU])
 simpa[ZG] using this
theorem MV.nil_sl {w:World} {D:Nat→Prop} {sz:Nat}:∀v F,MV w D (.val (.slice none 0 0)) v F→MV w D (.sl sz []) v F:=fun v F h=>by
 simp only[MV] at h ⊢
 exact ⟨h.2,.inl ⟨trivial,_,_,h.1⟩⟩
theorem FR.front {g g':GV} {L H:GH} (hb:Bor L g g'):FR g (L++H) g' H:=by
 intro w D Ω v hv hst
 obtain ⟨Ω1,Ω2,rfl,h1,h2⟩:=HM.parted hst.hm
 have hnd:=List.nodup_append.1 hst.nd
 have hnn:=hst.nn
 simp only[names,List.map_append] at hnn
 have hnn':=List.nodup_append.1 hnn
 have hs1:St w D L Ω1:=⟨h1,hnd.1,hnn'.1,fun b hb=>hst.dj b (by simp[hb]),hst.ds⟩
 refine ⟨fun b=>D b∨b∈Ω1,Ω2,hb w D Ω1 v hs1 hv,⟨HM.keep (S:=fun _ => True) (Kept.refl _ _) (fun _ _ => trivial) (fun _ => .inl) (fun _ _ => trivial) h2,hnd.2.1,hnn'.2.1,fun b hb hD=> ?_,fun b hD=> ?_⟩,
  ⟨fun _ => .inl,fun b _ hD=>hD.elim .inl fun h=> .inr (by simp[h]),fun b hb _ => by simp[hb],Kept.refl _ _,rfl,rfl,rfl⟩⟩
 ·rcases hD with hD|hD
  ·exact hst.dj b (by simp[hb]) hD
  ·exact hnd.2.2 b hD b hb rfl
 ·rcases hD with hD|hD
  ·exact hst.ds b hD
  ·exact HM.flt hst.hm b (by simp[hD])
abbrev Bs (bs:List UInt8):GV:= .sl 1 (bs.map fun b=> .val (.int .u8 b.toNat))
abbrev Cu (bs:List UInt8) (i h:Int):GV:= .agg [Bs bs,I i,I h]
def isC (e:GV):Prop:=∃bs i h,e=Cu bs i h∧0≤i∧i≤bs.length∧bs.length≤9223372036854775807
theorem MF.u8 {w:World} {D:Nat→Prop}:∀(bs:List UInt8),MF w D 1 (bs.map fun b=>GV.val (.int .u8 b.toNat)) (bs.map fun b=>Value.int .u8 b.toNat) []
 | []=>by simp[MF]
 | b::bs=>by
  simp only[List.map_cons,MF]
  exact ⟨.int .u8 b.toNat,_,[],[],rfl,rfl,by intro x hx;simp[Value.cells] at hx;subst hx;rfl,rfl,by simp[MV],MF.u8 bs⟩
theorem MF.u8' {w:World} {D:Nat→Prop}:∀(bs:List UInt8) (cs:List Value) (F:List Nat),MF w D 1 (bs.map fun b=>GV.val (.int .u8 b.toNat)) cs F→cs=bs.map fun b=>Value.int .u8 b.toNat
 | [],cs,F,h=>by simp only[List.map_nil,MF] at h;exact h.1
 | b::bs,cs,F,h=>by
  simp only[List.map_cons,MF] at h
  obtain ⟨v,cs',F1,F2,rfl,_,_,_,h1,h2⟩:=h
  simp only[MV] at h1
  rw[h1.1,MF.u8' bs cs' F2 h2]
  rfl
theorem MV.cur {w : World} {D : Nat → Prop} {v : Value} {F : List Nat} (h : MV w D .cur v F) : ∃ e, isC e ∧ MV w D e v F := by
  simp only [MV] at h
  obtain ⟨rfl, bs, i, n, sv, rfl, h1, h2, h3⟩ := h
  refine ⟨Cu bs i n, ⟨bs, i, n, rfl, h1, h2, by rcases h3 with ⟨rfl, _⟩ | ⟨_, _, _, _, _, h, _⟩
                                                · simp
                                                · exact h⟩, ?_⟩
  simp only [MV]
  refine ⟨[sv, .int .i64 i, .int .i64 n], rfl, ?_, ?_⟩
  · have : sv.oneCell' = true := by
      rcases h3 with ⟨_, a, cap, rfl⟩ | ⟨b, off, cap, rfl, _⟩ <;> rfl
    simp [this]
    exact ⟨rfl, rfl⟩
  · simp only [ML]
    refine ⟨sv, _, [], [], rfl, rfl, ?_, _, _, [], [], rfl, rfl, by simp [MV], _, _, [], [], rfl, rfl, by simp [MV], rfl, rfl⟩
    simp only [MV]
    refine ⟨trivial, ?_⟩
    rcases h3 with ⟨rfl, h3⟩ | ⟨b, off, cap, k1, k2, k3, k4, k5⟩
    · exact .inl ⟨rfl, h3⟩
    · exact .inr ⟨b, off, cap, _, by simpa using k1, by simpa using k2, by simpa using k3, k4, k5, MF.u8 bs⟩
theorem MV.uncur {w:World} {D:Nat→Prop} {e:GV} (he:isC e) {v:Value} {F:List Nat} (h:MV w D e v F):MV w D .cur v F:=by
 obtain ⟨bs,i,n,rfl,h1,h2,_⟩:=he
 simp only[MV,ML] at h
 obtain ⟨vs,rfl,_,v1,vs1,F1,F2,rfl,rfl,hs,v2,vs2,F3,F4,rfl,rfl,hi,v3,vs3,F5,F6,rfl,rfl,hn,rfl,rfl⟩:=h
 obtain ⟨rfl,rfl⟩:=hi
 obtain ⟨rfl,rfl⟩:=hn
 obtain ⟨rfl,hs⟩:=hs
 simp only[MV]
 refine ⟨rfl,bs,i,n,v1,rfl,h1,h2,?_⟩
 rcases hs with ⟨k1,k2⟩|⟨b,off,cap,cs,k1,k2,k3,k4,k5,k6⟩
 ·exact .inl ⟨by simpa using k1,k2⟩
 ·have:=MF.u8' bs cs [] k6
  subst this
  exact .inr ⟨b,off,cap,by simpa using k1,by simpa using k2,by simpa using k3,k4,k5⟩
theorem St.exch1 {w:World} {D:Nat→Prop} {H:GH} {Ω:List Nat} (h:St w D H Ω) {r sz i:Nat} {es:List GV} {e:GV} {p:GV→Prop} (hr:ZU H r=some (sz,es)) (he:es[i]? = some e) (hx:∀v F,MV w D e v F→∃e',p e'∧MV w D e' v F) :
 ∃e',p e'∧St w D (ZG H r (es.set i e')) Ω:=by
 obtain ⟨Ω1,F',Ω2,hΩ,hR,hput,_⟩:=HM.take h.hm hr
 obtain ⟨b,c,T,fz,F0,k1,k2,k3,k4,k5,k6,k7⟩:=hR.es_ne (fun e=>by rw[e] at he;simp at he)
 obtain ⟨pre,v,post,A1,Ai,A2,m1,m2,m3,m4,m5,m6,m7⟩:=MF.split sz es _ F0 i _ k7 he
 obtain ⟨e',hp,hx⟩:=hx _ _ m6
 have hmf:=m7 w D (fun _ => True) e' v Ai (Kept.refl _ _) (fun _ _ => trivial) (fun _ h=>h) (fun _ _ => trivial) m3 m4 hx
 rw[←m1,←m5] at hmf
 have hRM:RM w D r sz (es.set i e') F':= .inl ⟨b,c,T,fz,F0,k1,k2,k3,by simpa using k4,by simpa using k5,k6,by simpa using hmf⟩
 have hfin:=hput w D (fun _ => True) _ _ (Kept.refl _ _) (fun _ _ => trivial) (fun _ h=>h) (fun _ _ => trivial) hRM
 rw[←hΩ] at hfin
 exact ⟨e',hp,hfin,h.nd,by rw[Y3];exact h.nn,h.dj,h.ds⟩
theorem GCalls.open {P:Program} {f:FuncId} {gs:List GV} {rc:Nat} {H:GH} {R:GV→GH→Prop} (h:∀e,isC e→GCalls P f gs ((rc,3,[e])::H) R):GCalls P f gs ((rc,3,[.cur])::H) R:=by
 intro w D Ω args hst hargs
 obtain ⟨e',h1,h2⟩:=hst.exch1 (r:=rc) (i:=0) (sz:=3) (es:=[.cur]) (p:=isC) (by simp[ZU]) rfl fun v F h=>h.cur
 have e:ZG ((rc,3,[GV.cur])::H) rc ([GV.cur].set 0 e')=(rc,3,[e'])::H:=by simp[ZG]
 rw[e] at h2
 exact h e' h1 w D Ω args h2 hargs
theorem FE.uncur {env:Env} {rc:Nat} {e:GV} {H:GH} (he:isC e):FE env ((rc,3,[e])::H) env ((rc,3,[.cur])::H):=by
 have:=FE.exch (env:=env) (H:=(rc,3,[e])::H) (r:=rc) (i:=0) (e:=e) (e':= .cur) (sz:=3) (es:=[e]) (by simp[ZU]) rfl fun w D v F h=>h.uncur he
 simpa[ZG] using this
theorem FR.uncur {g:GV} {rc:Nat} {e:GV} {H:GH} (he:isC e):FR g ((rc,3,[e])::H) g ((rc,3,[.cur])::H):=by
 intro w D Ω v hv hst
 have h2:=hst.exch (r:=rc) (i:=0) (e:=e) (e':= .cur) (sz:=3) (es:=[e]) (by simp[ZU]) rfl fun v F h=>h.uncur he
 have e:ZG ((rc,3,[e])::H) rc ([e].set 0 GV.cur)=(rc,3,[.cur])::H:=by simp[ZG]
 rw[e] at h2
 exact ⟨D,Ω,hv,h2,Ev.refl _ _ _⟩
theorem hget_split {r:Nat} {x:Nat×List GV}:∀{H:GH},ZU H r=some x→∃A B,H=A++(r,x)::B∧r∉names A
 | [],h=>by simp[ZU] at h
 | (q,y)::H,h=>by
  simp only[ZU] at h
  split at h
  ·rename_i e
   subst e
   simp only[Option.some.injEq] at h
   subst h
   exact ⟨[],H,rfl,by simp[names]⟩
  ·rename_i hne
   obtain ⟨A,B,h1,h2⟩:=hget_split h
   exact ⟨(q,y)::A,B,by rw[h1];rfl,by simp only[names,List.map_cons,List.mem_cons,not_or];exact ⟨fun e=>hne e.symm,h2⟩⟩
theorem count_mid {x:Nat} (a b c:List Nat):(a++(b++c)).count x=(b++(a++c)).count x:=by
 simp only[List.count_append];omega
theorem St.mid {w:World} {D:Nat→Prop} {A B:GH} {y:Nat×Nat×List GV} {Ω:List Nat} (h:St w D (A++y::B) Ω):∃Ω',St w D (y::(A++B)) Ω'∧(∀x,x∈Ω'↔x∈Ω):=by
 obtain ⟨Ω1,Ω2,rfl,h1,h2⟩:=HM.parted h.hm
 obtain ⟨r,sz,es⟩:=y
 obtain ⟨F1,F2,rfl,h3,h4⟩:=h2
 refine ⟨F1++(Ω1++F2),⟨⟨F1,_,rfl,h3,HM.append h1 h4⟩,?_,?_,?_,h.ds⟩,fun x=>by simp only[List.mem_append];exact or_left_comm⟩
 ·have:=h.nd
  rw[List.nodup_iff_count] at this ⊢
  intro x;rw[←count_mid];exact this x
 ·have:=h.nn
  simp only[names,List.map_append,List.map_cons] at this ⊢
  rw[List.nodup_iff_count] at this ⊢
  intro x
  have:=this x
  simp only[List.count_append,List.count_cons] at this ⊢
  omega
 ·intro x hx
  exact h.dj x (by simp only[List.mem_append] at hx ⊢;exact or_left_comm.1 hx)
theorem St.mid' {w:World} {D:Nat→Prop} {A B:GH} {y:Nat×Nat×List GV} {Ω:List Nat} (h:St w D (y::(A++B)) Ω):∃Ω',St w D (A++y::B) Ω'∧(∀x,x∈Ω'↔x∈Ω):=by
 obtain ⟨r,sz,es⟩:=y
 obtain ⟨F1,F2,rfl,h3,h4⟩:=h.hm
 obtain ⟨Ω1,Ω2,rfl,h1,h2⟩:=HM.parted h4
 refine ⟨Ω1++(F1++Ω2),⟨HM.append h1 ⟨F1,_,rfl,h3,h2⟩,?_,?_,?_,h.ds⟩,fun x=>by simp only[List.mem_append];exact or_left_comm⟩
 ·have:=h.nd
  rw[List.nodup_iff_count] at this ⊢
  intro x;rw[count_mid];exact this x
 ·have:=h.nn
  simp only[names,List.map_append,List.map_cons] at this ⊢
  rw[List.nodup_iff_count] at this ⊢
  intro x
  have:=this x
  simp only[List.count_append,List.count_cons] at this ⊢
  omega
 ·intro x hx
  exact h.dj x (by simp only[List.mem_append] at hx ⊢;exact or_left_comm.1 hx)
def Dc (P:Program) (f:FuncId) (gs:List GV) (R:GV→GH→Prop):Prop:=
 ∀rc H,GCalls P f (.ptr rc 3 0 0::gs) ((rc,3,[.cur])::H) (fun g H'=>∃H1,R g H1∧H'=H1++(rc,3,[.cur])::H)
abbrev Dv (P:Program) (f:FuncId) (gs:List GV) (R:GV→Prop):Prop:=Dc P f gs (fun g H1=>R g∧H1=[])
theorem Dc.mono {P:Program} {f:FuncId} {gs:List GV} {R R':GV→GH→Prop} (h:Dc P f gs R) (hr:∀g H1,R g H1→R' g H1):Dc P f gs R':=
 fun rc H=>(h rc H).mono fun g H' ⟨H1,h1,h2⟩=>⟨H1,hr g H1 h1,h2⟩
theorem Dc.of {P:Program} {f:FuncId} {gs:List GV} {R:GV→GH→Prop}
 (h:∀rc H,GCalls P f (.ptr rc 3 0 0::gs) ((rc,3,[.cur])::H) (fun g H'=>∃G H1 T L,R G H1∧Bor L g G∧H'=T++H∧subH T (L++(H1++[(rc,3,[.cur])])))):Dc P f gs R:=
 fun rc H=>(h rc H).fr fun g H' ⟨G,H1,T,L,h1,h2,h3,h4⟩=>by
  subst h3
  refine ⟨G,H1++(rc,3,[.cur])::H,FR.trans (FR.perm h4) ?_,H1,h1,rfl⟩
  rw[List.append_assoc,List.append_assoc]
  exact FR.front h2
theorem Dv.of {P:Program} {f:FuncId} {gs:List GV} {R:GV→Prop}
 (h:∀rc H,GCalls P f (.ptr rc 3 0 0::gs) ((rc,3,[.cur])::H) (fun g H'=>∃G T L,R G∧Bor L g G∧H'=T++H∧subH T (L++[(rc,3,[.cur])]))):Dv P f gs R:=
 Dc.of fun rc H=>(h rc H).mono fun g H' ⟨G,T,L,h1,h2,h3,h4⟩=>⟨G,[],T,L,⟨h1,rfl⟩,h2,h3,h4⟩
theorem Dv.of0 {P:Program} {f:FuncId} {gs:List GV} {R:GV→Prop}
 (h:∀rc H,GCalls P f (.ptr rc 3 0 0::gs) ((rc,3,[.cur])::H) (fun g H'=>R g∧H'=(rc,3,[.cur])::H)):Dv P f gs R:=
 fun rc H=>(h rc H).mono fun g H' ⟨h1,h2⟩=>⟨[],⟨h1,rfl⟩,h2⟩
theorem Dc.at {P:Program} {f:FuncId} {gs:List GV} {R:GV→GH→Prop} (h:Dc P f gs R) {rc:Nat} {H:GH} (hr:ZU H rc=some (3,[.cur])) :
 GCalls P f (.ptr rc 3 0 0::gs) H (fun g H'=>∃H1,R g H1∧H'=H1++H):=by
 obtain ⟨A,B,rfl,hn⟩:=hget_split hr
 intro w D Ω args hst hargs
 obtain ⟨Ω',h1,h2⟩:=hst.mid
 refine Yld.mono (fun v w' ⟨g,H',D',Ω'',⟨H1,k0,k1⟩,k2,k3,k4⟩=> ?_) (h rc (A++B) w D Ω' args h1 hargs)
 subst k1
 have k3':St w' D' ((H1++[(rc,3,[.cur])])++(A++B)) Ω'':=by simpa using k3
 obtain ⟨Ω3,m1,m2⟩:∃Ω3,St w' D' (H1++(A++(rc,3,[.cur])::B)) Ω3∧∀x,x∈Ω3↔x∈Ω'':=by
  obtain ⟨Ωa,q1,q2⟩:=(show St w' D' (H1++(rc,3,[GV.cur])::(A++B)) Ω'' from k3).mid
  rw[←List.append_assoc] at q1
  obtain ⟨Ωb,q3,q4⟩:=q1.mid'
  rw[List.append_assoc] at q3
  exact ⟨Ωb,q3,fun x=>(q4 x).trans (q2 x)⟩
 exact ⟨g,_,D',Ω3,⟨H1,k0,rfl⟩,k2,m1,
  ⟨k4.d0,fun b hb hD=>(k4.dn b hb hD).imp id (h2 b).1,fun b hb hl=>(h2 b).1 (k4.on b ((m2 b).1 hb) hl),k4.kp.mono fun b _ hb hb'=>hb ((h2 b).1 hb'),k4.os,k4.tape,k4.output⟩⟩
theorem callS.dc {P:Program} {f:FuncId} {gs:List GV} {R:GV→GH→Prop} {K:Env→GH→Prop} {is:List GI} {env:Env} {H:GH} {d:Option Nat} {rc:Nat} (h:Dc P f gs R) (hr:ZU H rc=some (3,[.cur]))
 (hk:∀g H1,R g H1→(names (H1++H)).Nodup → ZY P is K (gput env d g) (H1++H)):callS P false f (some (.ptr rc 3 0 0::gs)) d is K env H:=
 callS.of (h.at hr) fun g H' ⟨H1,h1,h2⟩ hn=>by subst h2;exact hk g H1 h1 hn
theorem callS.dv {P:Program} {f:FuncId} {gs:List GV} {R:GV→Prop} {K:Env→GH→Prop} {is:List GI} {env:Env} {H:GH} {d:Option Nat} {rc:Nat} (h:Dv P f gs R) (hr:ZU H rc=some (3,[.cur]))
 (hk:∀g,R g→ZY P is K (gput env d g) H):callS P false f (some (.ptr rc 3 0 0::gs)) d is K env H:=
 callS.dc h hr fun g H1 ⟨h1,h2⟩ _ => by subst h2;exact hk g h1
theorem callA.dc {P:Program} {f:FuncId} {gs:List GV} {R:GV→GH→Prop} {K:Env→GH→Prop} {is:List GI} {env:Env} {H:GH} {d:Option Nat} {rc:Nat} (h:Dc P f gs R) (hr:ZU H rc=some (3,[.cur]))
 (hk:∀g H1,R g H1→(names (H1++H)).Nodup → ZY P is K (gput env d g) (H1++H)):callA P f (some (.ptr rc 3 0 0::gs)) d is K env H:=
 ⟨R,h.at hr,hk⟩
theorem callA.dv {P:Program} {f:FuncId} {gs:List GV} {R:GV→Prop} {K:Env→GH→Prop} {is:List GI} {env:Env} {H:GH} {d:Option Nat} {rc:Nat} (h:Dv P f gs R) (hr:ZU H rc=some (3,[.cur]))
 (hk:∀g,R g→ZY P is K (gput env d g) H):callA P f (some (.ptr rc 3 0 0::gs)) d is K env H:=
 callA.dc h hr fun g H1 ⟨h1,h2⟩ _ => by subst h2;exact hk g h1
end Go.Gh
namespace Go.Gh
theorem andI_le {a:Int} {m:Nat} (hm:m<2 ^ 62):0≤andI .i64 a m∧andI .i64 a m≤m:=by
 have h1:(BitVec.ofInt 64 a &&& BitVec.ofInt 64 (m:Int)).toNat ≤ m:=by
  rw[BitVec.toNat_and]
  refine Nat.le_trans Nat.and_le_right ?_
  rw[BitVec.toNat_ofInt]
  omega
 have h2:andI .i64 a m=(IntKind.i64).wrap (BitVec.ofInt 64 a &&& BitVec.ofInt 64 (m:Int)).toNat := rfl
 have h3:(IntKind.i64).wrap ((BitVec.ofInt 64 a &&& BitVec.ofInt 64 (m:Int)).toNat : Int)=(BitVec.ofInt 64 a &&& BitVec.ofInt 64 (m:Int)).toNat := by
  have:(((BitVec.ofInt 64 a &&& BitVec.ofInt 64 (m:Int)).toNat : Int))<4611686018427387904:=by
   have:(2:Nat) ^ 62=4611686018427387904:=by decide
   omega
  generalize ((BitVec.ofInt 64 a &&& BitVec.ofInt 64 (m:Int)).toNat)=k at *
  simp only[IntKind.wrap,IntKind.signed,IntKind.bits]
  simp
  omega
 rw[h2,h3]
 omega
theorem andI_255 (a:Int):∃k:Nat,andI .i64 a 255=k∧k<256:=by
 have h:=andI_le (a:=a) (m:=255) (by decide)
 have h':0≤andI .i64 a 255∧andI .i64 a 255≤255:=h
 exact ⟨(andI .i64 a 255).toNat,oT,oT⟩
theorem Yi (s:ByteArray):(ZR s).length = s.size:=by
 show s.data.toList.length=s.data.size
 exact Array.length_toList
theorem okE_of:∀(e:Exp),wEx e≤1048576→okE e:=by
 refine Exp.indA fun e ih h=> ?_
 rw[wEx_eq] at h
 rw[okE_eq]
 have h1:=Yi e.sym
 have h2:=Yi e.name
 have hw:wtS wEx e.args≤1048576:=by omega
 have hm:(1048576:Nat)≤maxLen:=by decide
 refine ⟨oT,oT,fun a ha=>ih a ha ?_⟩
 exact (wtS_mem hw).2 a ha
def shT (s:ByteArray):Prop:=s.size≤16
def shSy (s:Sym):Prop:=shT s.name∧1≤s.atts.length∧s.atts.length≤5∧∀a∈s.atts,shT a.name
def shSys (l:List Sym):Prop:=1≤l.length∧l.length≤3∧∀s∈l,shSy s
def shEx (e:Exp):Prop:=wEx e≤200000
def shRu (r:Rul):Prop:=shT r.name∧shT r.left∧r.right.length≤5∧(∀s∈r.right,shT s)∧r.eqs.length≤64∧(∀q∈r.eqs,shT q.name∧shEx q.expr)∧r.cons.length≤64∧∀c∈r.cons,shT c.sym∧shT c.name∧shEx c.goal∧shEx c.value
def shGr (g:Gram):Prop:=shSys g.syms∧1≤g.rules.length∧g.rules.length≤16∧∀r∈g.rules,shRu r
theorem shT_le {s:ByteArray} (h:shT s):s.size≤maxLen:=by
 have hm:(16:Nat)≤maxLen:=by decide
 unfold shT at h;omega
theorem shEx_ok {e:Exp} (h:shEx e):okE e∧wEx e≤1048576:=by
 unfold shEx at h
 exact ⟨okE_of e oT,oT⟩
theorem shSy_sm {s:Sym} (h:shSy s):smSy s:=by have:=h.2.2.1;unfold smSy;omega
theorem shSy_ok {s:Sym} (h:shSy s):okSy s:=⟨shT_le h.1,fun a ha=>shT_le (h.2.2.2 a ha)⟩
theorem shSys_sm {l:List Sym} (h:shSys l):l.length≤1048576∧∀s∈l,smSy s:=⟨by have:=h.2.1;omega,fun s hs=>shSy_sm (h.2.2 s hs)⟩
theorem shRu_sm {r:Rul} (h:shRu r):Y8 r:=by
 obtain ⟨_,_,h1,_,h2,h3,h4,h5⟩:=h
 exact ⟨oT,oT,oT,fun q hq=>(shEx_ok (h3 q hq).2).2,fun c hc=>⟨(shEx_ok (h5 c hc).2.2.1).2,(shEx_ok (h5 c hc).2.2.2).2⟩⟩
theorem shRu_ok {r:Rul} (h:shRu r):okRu r:=by
 obtain ⟨k1,k2,h1,k3,h2,h3,h4,h5⟩:=h
 exact ⟨shT_le k1,shT_le k2,fun s hs=>shT_le (k3 s hs),fun q hq=>⟨shT_le (h3 q hq).1,(shEx_ok (h3 q hq).2).1⟩,fun c hc=>⟨shT_le (h5 c hc).1,shT_le (h5 c hc).2.1,(shEx_ok (h5 c hc).2.2.1).1,(shEx_ok (h5 c hc).2.2.2).1⟩⟩
theorem shGr_sm {g:Gram} (h:shGr g):ZA g:=⟨(shSys_sm h.1).1,by have:=h.2.2.1;omega,(shSys_sm h.1).2,fun r hr=>shRu_sm (h.2.2.2 r hr)⟩
theorem shGr_ok {g:Gram} (h:shGr g):okGr g:=⟨fun s hs=>shSy_ok (h.1.2.2 s hs),fun r hr=>shRu_ok (h.2.2.2 r hr)⟩
theorem wEx_leaf {k n p t:Int} {s m:ByteArray} (hs:shT s) (hm:shT m):wEx (.mk k n p t s m [])≤32:=by
 have h1:=Yi s
 have h2:=Yi m
 unfold shT at hs hm
 simp only[wEx,wExL,List.length_nil]
 omega
def shD (d:Nat) (e:Exp):Prop:=wEx e≤40 * 4 ^ d
theorem shD_mono {a b:Nat} {e:Exp} (h:a≤b) (he:shD a e):shD b e:=by
 unfold shD at *
 have:=Nat.pow_le_pow_right (n:=4) (by decide) h
 omega
theorem shD_leaf {d:Nat} {k n p t:Int} {s m:ByteArray} (hs:shT s) (hm:shT m):shD d (.mk k n p t s m []):=by
 have:=wEx_leaf (k:=k) (n:=n) (p:=p) (t:=t) hs hm
 have h2:0<4 ^ d:=Nat.pow_pos (by decide)
 unfold shD;omega
theorem shD_node {d:Nat} {k n p t:Int} {s m:ByteArray} {l:List Exp} (hs:shT s) (hm:shT m) (hl:l.length≤3) (h:∀e∈l,shD d e):shD (d+1) (.mk k n p t s m l):=by
 have h1:=Yi s
 have h2:=Yi m
 have h3:0<4 ^ d:=Nat.pow_pos (by decide)
 have h4:∀(l:List Exp),(∀e∈l,shD d e)→wExL l≤l.length * (40 * 4 ^ d):=by
  intro l
  induction l with
  | nil=>intro _;simp[wExL]
  | cons e l ih=>
   intro h
   have:=ih fun x hx=>h x (by simp[hx])
   have h5:wEx e≤40 * 4 ^ d:=h e (by simp)
   simp only[wExL,List.length_cons]
   rw[Nat.succ_mul]
   omega
 have h5:=h4 l h
 have h6:l.length * (40 * 4 ^ d)≤3 * (40 * 4 ^ d):=Nat.mul_le_mul_right _ hl
 unfold shT at hs hm
 unfold shD
 simp only[wEx]
 rw[Nat.pow_succ]
 omega
theorem shD_ex {d:Nat} {e:Exp} (hd:d≤6) (h:shD d e):shEx e:=by
 have:=Nat.pow_le_pow_right (n:=4) (by decide) hd
 have h6:4 ^ 6=4096:=by decide
 unfold shD at h;unfold shEx;omega
def ltT:GV→Bool
 | .val (.string s)=>decide (s.size≤16)
 | _ => false
def ltI (lo hi:Int):GV→Bool
 | .val (.int .i64 n)=>decide (lo≤n∧n≤hi)
 | _ => false
theorem ltT_mem {es:List GV} (h:es.all ltT=true) {g:GV} (hg:g∈es):∃s,shT s∧g=T s:=by
 have:=List.all_eq_true.1 h g hg
 unfold ltT at this
 split at this
 ·exact ⟨_,by simpa[shT] using this,rfl⟩
 ·cases this
theorem Yo {lo hi:Int} {es:List GV} (h:es.all (ltI lo hi)=true) {g:GV} (hg:g∈es):∃n:Int,(lo≤n∧n≤hi)∧g=I n:=by
 have:=List.all_eq_true.1 h g hg
 unfold ltI at this
 split at this
 ·exact ⟨_,by simpa using this,rfl⟩
 ·cases this
def noAg (es:List GV):Bool:=es.all fun e=> !isAgg e&&nraw e
theorem notAgg {es:List GV} (h:noAg es=true) (k:Nat) (hk:k<es.length):isAgg es[k]=false:=by
 have:=List.all_eq_true.1 h _ (List.getElem_mem hk)
 simp only[Bool.and_eq_true] at this
 simpa using this.1
theorem notRaw {es:List GV} (h:noAg es=true) (k:Nat) (hk:k<es.length):geR (some es[k])=some es[k]:=by
 have:=List.all_eq_true.1 h _ (List.getElem_mem hk)
 simp only[Bool.and_eq_true] at this
 have h2:=this.2
 cases h3:es[k]<;>first|rfl|(rw[h3] at h2;simp[nraw] at h2)
abbrev ExN (e:Exp):GV:= .agg [I e.kind,I e.n,I e.pos,I e.type,T e.sym,T e.name,.val (.slice none 0 0)]
abbrev ExR (e:Exp) (r:Nat):GV:= .agg [I e.kind,I e.n,I e.pos,I e.type,T e.sym,T e.name,.own r 7 0 e.args.length]
def ExW (e:Exp) (g:GV) (H1:GH):Prop:=(e.args=[]∧g=ExN e∧H1=[])∨∃r,g=ExR e r∧H1=[(r,7,e.args.map Ex)]
theorem bor_ExN {H:GH} {e:Exp} (h:e.args=[]):Bor H (ExN e) (Ex e):=by
 rw[YQ,h]
 exact .agg (.cons .refl (.cons .refl (.cons .refl (.cons .refl (.cons .refl (.cons .refl (.cons .nil .nil)))))))
theorem bor_ExR {H:GH} {e:Exp} {r:Nat} (h:ZU H r=some (7,e.args.map Ex)):Bor H (ExR e r) (Ex e):=by
 rw[YQ]
 exact .agg (.cons .refl (.cons .refl (.cons .refl (.cons .refl (.cons .refl (.cons .refl (.cons (Bor.allM view_Ex h rfl) .nil)))))))
theorem ExW.bor {e:Exp} {g:GV} {H1:GH} (h:ExW e g H1):Bor H1 g (Ex e):=by
 rcases h with ⟨h,rfl,rfl⟩|⟨r,rfl,rfl⟩
 ·exact bor_ExN h
 ·exact bor_ExR ZX
theorem Dc.frz {P:Program} {f:FuncId} {gs:List GV} {R:GV→GH→Prop} {p:GV→Prop} (h:Dc P f gs R) (hb:∀g H1,R g H1→∃G,p G∧Bor H1 g G):Dv P f gs p:=fun rc H=>
 (h rc H).fr fun g H' ⟨H1,h1,h2⟩=>by
  subst h2
  obtain ⟨G,k1,k2⟩:=hb g H1 h1
  exact ⟨G,_,FR.front k2,[],⟨k1,rfl⟩,rfl⟩
theorem u64_nn (a:Int):0≤IntKind.u64.wrap a:=by
 simp only[IntKind.wrap,IntKind.signed,IntKind.bits]
 simp
 omega
instance (s:ByteArray):Decidable (shT s):=inferInstanceAs (Decidable (s.size≤16))
theorem bor_ExV {H:GH} {k n p t:Int} {s m:ByteArray} {r q:Nat} {l:List Exp} (h:ZU H r=some (7,l.map Ex)) (hl:l.length=q):Bor H (.agg [I k,I n,I p,I t,T s,T m,.own r 7 0 q]) (Ex (.mk k n p t s m l)):=by
 subst hl
 exact bor_ExR (e:= .mk k n p t s m l) h
theorem Dc.own {P:Program} {f:FuncId} {gs:List GV} {p:Exp→Prop} (h:Dc P f gs (fun g H1=>∃e,p e∧ExW e g H1)):Dc P f gs (fun g H1=>∃e r,p e∧g=ExR e r∧H1=[(r,7,e.args.map Ex)]):=fun rc H=>
 (h rc H).fr fun g H' ⟨H1,⟨e,h1,h2⟩,h3⟩=>by
  subst h3
  rcases h2 with ⟨h0,rfl,rfl⟩|⟨r,rfl,rfl⟩
  ·obtain ⟨v,hv,hn⟩:=vfresh (names ((rc,3,[.cur])::H))
   refine ⟨ExR e v,(v,7,[])::(rc,3,[.cur])::H,FR.trans (FR.sub ?_) (FR.addv hv hn),[(v,7,[])],⟨e,v,h1,rfl,by rw[h0];rfl⟩,rfl⟩
   have h5:e.args.length=0:=by rw[h0];rfl
   show Bor [] (ExN e) (.agg [I e.kind,I e.n,I e.pos,I e.type,T e.sym,T e.name,.own v 7 0 e.args.length])
   rw[h5]
   exact .agg (.cons .refl (.cons .refl (.cons .refl (.cons .refl (.cons .refl (.cons .refl (.cons Bor.virt .nil)))))))
  ·exact ⟨_,_,FR.refl _ _,_,⟨e,r,h1,rfl,rfl⟩,rfl⟩
theorem Bor.exch {H:GH} {r sz i:Nat} {es:List GV} {e e' g g':GV} (hr:ZU H r=some (sz,es)) (he:es[i]? = some e) (hx:∀w D v F,MV w D e v F→MV w D e' v F) (hb:Bor (ZG H r (es.set i e')) g g'):Bor H g g':=
 fun w D Ω v hst hm=>hb w D Ω v (hst.exch hr he (hx w D)) hm
theorem MV.exn {e:Exp} (h:e.args=[]):∀w D v F,MV w D (ExN e) v F→MV w D (Ex e) v F:=fun w D v F hm=>by
 have:=MV.fld (j:=6) (g':= .sl 7 []) rfl MV.nil_sl v F hm
 rw[YQ,h]
 exact this
theorem bor_ExApp {H:GH} {k n p t:Int} {s m:ByteArray} {r q:Nat} {l:List Exp} {e:Exp} (h:ZU H r=some (7,l.map Ex++[ExN e])) (he:e.args=[]) (hl:l.length+1=q):Bor H (.agg [I k,I n,I p,I t,T s,T m,.own r 7 0 q]) (Ex (.mk k n p t s m (l++[e]))):=by
 refine Bor.exch (i:=l.length) h (by simp) (MV.exn he) ?_
 have e2:(l.map Ex++[ExN e]).set l.length (Ex e)=(l++[e]).map Ex:=by
  rw[List.set_append_right _ _ (by simp)]
  simp
 rw[e2]
 refine bor_ExV ?_ (by simpa using hl)
 have:∀{H:GH} {x:Nat×List GV} {fs:List GV},ZU H r=some x→ZU (ZG H r fs) r=some (x.1,fs):=by
  intro H
  induction H with
  | nil=>intro x fs h;cases h
  | cons y H ih=>
   obtain ⟨a,b,c⟩:=y
   intro x fs h
   simp only[ZU,ZG] at h ⊢
   split at h
   ·rename_i e3
    simp only[Option.some.injEq] at h
    subst h
    simp[e3,ZU]
   ·rename_i e3
    simp only[if_neg e3,ZU]
    exact ih h
 exact this h
end Go.Gh
namespace Go.Gh
theorem ltN_eq (a b:ByteArray):ltN a b=decide (ZR a<ZR b):=Proofs.bytesLess_eq _ _
theorem ltN_irr (a:ByteArray):ltN a a=false:=by
 rw[ltN_eq];exact decide_eq_false (List.lt_irrefl _)
theorem ltN_trans {a b c:ByteArray} (h:ltN a b=true) (k:ltN b c=true):ltN a c=true:=by
 rw[ltN_eq,decide_eq_true_eq] at *;exact List.lt_trans h k
theorem ltN_tri {a b:ByteArray} (h:ltN a b=false) (k:ltN b a=false):a=b:=by
 rw[ltN_eq,decide_eq_false_iff_not] at *
 exact chars_inj.1 (List.le_antisymm (List.not_lt.1 k) (List.not_lt.1 h))
theorem ltO_iff {a b:Oc}:ltO a b=true↔a.1<b.1∨(a.1=b.1∧ltN a.2 b.2=true):=by simp[ltO]
theorem ltO_irr (a:Oc):ltO a a=false:=by simp[ltO,ltN_irr]
theorem ltO_trans {a b c:Oc} (h:ltO a b=true) (k:ltO b c=true):ltO a c=true:=by
 rw[ltO_iff] at *
 rcases h with h|⟨h1,h2⟩<;>rcases k with k|⟨k1,k2⟩
 ·exact .inl oT
 ·exact .inl oT
 ·exact .inl oT
 ·exact .inr ⟨oT,ltN_trans h2 k2⟩
theorem ltO_tri {a b:Oc} (h:ltO a b=false) (k:ltO b a=false):a=b:=by
 have h':¬(a.1<b.1∨(a.1=b.1∧ltN a.2 b.2=true)):=fun e=>by rw[ltO_iff.2 e] at h;cases h
 have k':¬(b.1<a.1∨(b.1=a.1∧ltN b.2 a.2=true)):=fun e=>by rw[ltO_iff.2 e] at k;cases k
 have e:a.1=b.1:=by omega
 refine Prod.ext e (ltN_tri ?_ ?_)
 ·cases q:ltN a.2 b.2
  ·rfl
  ·exact absurd (.inr ⟨e,q⟩) h'
 ·cases q:ltN b.2 a.2
  ·rfl
  ·exact absurd (.inr ⟨e.symm,q⟩) k'
theorem ltO_asym {a b:Oc} (h:ltO a b=true):ltO b a=false:=by
 cases q:ltO b a
 ·rfl
 ·have:=ltO_trans h q;rw[ltO_irr] at this;cases this
theorem ltO_swo:Sort.SWO ltO where
 irrefl:=ltO_irr
 trans _ _ _ := ltO_trans
 ntrans x y z h k:=by
  cases q:ltO x z
  ·rfl
  ·cases e:ltO y x
   ·rw[ltO_tri h e] at q;rw[q] at k;cases k
   ·have:=ltO_trans e q;rw[this] at k;cases k
abbrev SSO (l:List Oc):Prop:=l.Pairwise fun a b=>ltO a b=true
theorem SSO.ext:∀{l k:List Oc},SSO l→SSO k→(∀x,x∈l↔x∈k)→l=k
 | [],[],_,_,_ => rfl
 | [],b::k,_,_,h=>by have:=(h b).2 (by simp);simp at this
 | a::l,[],_,_,h=>by have:=(h a).1 (by simp);simp at this
 | a::l,b::k,h1,h2,h=>by
  rw[SSO,List.pairwise_cons] at h1 h2
  have e:a=b:=by
   rcases List.mem_cons.1 ((h a).1 (by simp)) with e|e
   ·exact e
   ·rcases List.mem_cons.1 ((h b).2 (by simp)) with e'|e'
    ·exact e'.symm
    ·have q1:=h2.1 a e
     have q2:=h1.1 b e'
     rw[ltO_asym q1] at q2;cases q2
  subst e
  congr 1
  refine SSO.ext h1.2 h2.2 fun x=>⟨fun hx=> ?_,fun hx=> ?_⟩
  ·rcases List.mem_cons.1 ((h x).1 (by simp[hx])) with e|e
   ·subst e;have:=h1.1 _ hx;rw[ltO_irr] at this;cases this
   ·exact e
  ·rcases List.mem_cons.1 ((h x).2 (by simp[hx])) with e|e
   ·subst e;have:=h2.1 _ hx;rw[ltO_irr] at this;cases this
   ·exact e
theorem putO_nil (o:Oc):putO [] o=[o]:=rfl
theorem putO_cons (a:Oc) (l:List Oc) (o:Oc):putO (a::l) o=if ltO a o=true then a::putO l o else if a=o then a::l else o::a::l:=by
 unfold putO
 by_cases h:ltO a o=true
 ·simp only[atO,if_pos h,List.getElem?_cons_succ]
  split<;>rfl
 ·simp only[atO,if_neg h,List.getElem?_cons_zero,Option.some.injEq]
  split<;>simp
theorem putO_ss (o:Oc):∀{l:List Oc},SSO l→SSO (putO l o)∧∀x,x∈putO l o↔x∈l∨x=o
 | [],_ => by rw[putO_nil];simp
 | a::l,h=>by
  rw[SSO,List.pairwise_cons] at h
  obtain ⟨i1,i2⟩:=putO_ss o h.2
  rw[putO_cons]
  by_cases h1:ltO a o=true
  ·rw[if_pos h1]
   refine ⟨List.pairwise_cons.2 ⟨fun x hx=> ?_,i1⟩,fun x=> ?_⟩
   ·rcases (i2 x).1 hx with e|e
    ·exact h.1 x e
    ·rw[e];exact h1
   ·simp only[List.mem_cons,i2 x,or_assoc]
  ·rw[if_neg h1]
   by_cases h2:a=o
   ·rw[if_pos h2]
    exact ⟨List.pairwise_cons.2 h,fun x=>⟨.inl,fun e=>e.elim id fun e=>by simp[e,h2]⟩⟩
   ·rw[if_neg h2]
    have h3:ltO o a=true:=by
     cases q:ltO o a
     ·exact absurd (ltO_tri (by simpa using h1) q) h2
     ·rfl
    refine ⟨List.pairwise_cons.2 ⟨fun x hx=> ?_,List.pairwise_cons.2 h⟩,fun x=> ?_⟩
    ·rcases List.mem_cons.1 hx with e|e
     ·rw[e];exact h3
     ·exact ltO_trans h3 (h.1 x e)
    ·simp only[List.mem_cons];constructor
     ·rintro (e|e|e);exact .inr e;exact .inl (.inl e);exact .inl (.inr e)
     ·rintro ((e|e)|e);exact .inr (.inl e);exact .inr (.inr e);exact .inl e
mutual
def occE:Exp→List Oc
 | .mk k _ p _ _ m a=>(if k=3 then [(p,m)] else [])++Y9 a
def Y9:List Exp→List Oc
 | []=>[]
 | e::r=>occE e++Y9 r
end
mutual
theorem usE_fold:∀(e:Exp) (l:List Oc),usE e l=(occE e).foldl putO l
 | .mk k _ p _ _ m a,l=>by
  simp only[usE,occE,usEL_fold a,List.foldl_append]
  split<;>rfl
theorem usEL_fold:∀(al:List Exp) (l:List Oc),usEL al l=(Y9 al).foldl putO l
 | [],l=>rfl
 | e::r,l=>by simp only[usEL,Y9,usEL_fold r,usE_fold e,List.foldl_append]
end
theorem foldO_ss:∀(os:List Oc) {l:List Oc},SSO l→SSO (os.foldl putO l)∧∀x,x∈os.foldl putO l↔x∈l∨x∈os
 | [],l,h=>by simp[h]
 | o::os,l,h=>by
  obtain ⟨h1,h2⟩:=putO_ss o h
  obtain ⟨h3,h4⟩:=foldO_ss os h1
  refine ⟨h3,fun x=> ?_⟩
  rw[List.foldl_cons,h4 x,h2 x,List.mem_cons,or_assoc]
def cpO (l:List Oc):List Oc:=l.foldl (fun acc x=>if acc.getLast?=some x then acc else acc++[x]) []
theorem cpO_snoc (l:List Oc) (x:Oc):cpO (l++[x])=if (cpO l).getLast? = some x then cpO l else cpO l++[x]:=by
 unfold cpO
 rw[List.foldl_append]
 rfl
theorem snocInd {α:Type} {p:List α→Prop} (h0:p []) (h1:∀l x,p l→p (l++[x])) (l:List α):p l:=by
 have key:∀r:List α,p r.reverse:=fun r=>by
  induction r with
  | nil=>exact h0
  | cons a r ih=>rw[List.reverse_cons];exact h1 _ _ ih
 have:=key l.reverse
 rwa [List.reverse_reverse] at this
theorem cpO_last (l:List Oc):(cpO l).getLast? = l.getLast?:=by
 refine snocInd (p:=fun l=>(cpO l).getLast? = l.getLast?) rfl (fun l x ih=> ?_) l
 rw[cpO_snoc]
 split
 ·rename_i h;rw[h];simp
 ·simp
theorem cpO_step (l:List Oc) (x:Oc):cpO (l++[x])=if l.getLast?=some x then cpO l else cpO l++[x]:=by rw[cpO_snoc,cpO_last]
theorem cpO_mem (l:List Oc):∀x,x∈cpO l↔x∈l:=by
 refine snocInd (p:=fun l=>∀x,x∈cpO l↔x∈l) (fun x=>Iff.rfl) (fun l y ih x=> ?_) l
 rw[cpO_step]
 split
 ·rename_i h
  rw[ih x,List.mem_append,List.mem_singleton]
  exact ⟨.inl,fun e=>e.elim id fun e=>by rw[e];exact List.mem_of_getLast? h⟩
 ·rw[List.mem_append,List.mem_append,ih x]
theorem cpO_ss (l:List Oc):(l.Pairwise fun a b=>ltO b a=false)→SSO (cpO l):=by
 refine snocInd (p:=fun l=>(l.Pairwise fun a b=>ltO b a=false)→SSO (cpO l)) (fun _ => List.Pairwise.nil) (fun l y ih h=> ?_) l
 rw[List.pairwise_append] at h
 obtain ⟨h1,_,h3⟩:=h
 rw[cpO_step]
 split
 ·exact ih h1
 ·rename_i hne
  refine List.pairwise_append.2 ⟨ih h1,List.pairwise_singleton _ _,fun a ha b hb=> ?_⟩
  rw[List.mem_singleton] at hb
  subst hb
  have ha':=(cpO_mem l a).1 ha
  have q:=h3 a ha' b (by simp)
  cases e:ltO a b
  ·exfalso
   have hab:=ltO_tri e q
   subst hab
   obtain ⟨z,hz⟩:∃z,l.getLast?=some z:=by
    cases hl:l.getLast? with
    | none=>rw[List.getLast?_eq_none_iff] at hl;subst hl;simp at ha'
    | some z=>exact ⟨z,rfl⟩
   rw[hz] at hne
   have hz':=List.mem_of_getLast? hz
   have q2:=h3 z hz' a (by simp)
   have q3:ltO z a=false:=by
    obtain ⟨l',rfl⟩:∃l',l=l'++[z]:=by
     rcases List.eq_nil_or_concat l with e|⟨l',b,e⟩
     ·subst e;simp at ha'
     ·refine ⟨l',?_⟩
      rw[List.concat_eq_append] at e
      subst e
      simp at hz
      rw[hz]
    rw[List.pairwise_append] at h1
    rcases List.mem_append.1 ha' with e1|e1
    ·exact h1.2.2 a e1 z (by simp)
    ·rw[List.mem_singleton] at e1;rw[e1];exact ltO_irr z
   exact hne (by rw[ltO_tri q3 q2])
  ·rfl
abbrev srO (l:List Oc):List Oc:=l.mergeSort fun x y=> !ltO y x
theorem srO_sorted (l:List Oc):(srO l).Pairwise fun a b=>ltO b a=false:=by
 have h:=List.pairwise_mergeSort (le:=fun x y:Oc=> !ltO y x)
  (fun a b c h k=>by
   simp only[Bool.not_eq_true'] at h k ⊢
   exact ltO_swo.ntrans _ _ _ k h)
  (fun a b=>by
   cases e:ltO b a
   ·simp
   ·simp[ltO_asym e]) l
 exact h.imp fun h=>by simpa using h
theorem usE_cp (e:Exp):cpO (srO (occE e))=usE e []:=by
 rw[usE_fold]
 obtain ⟨h1,h2⟩:=foldO_ss (occE e) (l:=[]) List.Pairwise.nil
 refine SSO.ext (cpO_ss _ (srO_sorted _)) h1 fun x=> ?_
 rw[cpO_mem,h2 x,(List.mergeSort_perm _ _).mem_iff]
 simp
theorem srO_len (l:List Oc):(srO l).length = l.length:=List.length_mergeSort _
mutual
theorem occE_len:∀e:Exp,(occE e).length ≤ 1+wEx e
 | .mk k n p t s m a=>by
  have h1:=occEL_len a
  simp only[occE,wEx,List.length_append]
  have h2:(if k=3 then [(p,m)] else []).length ≤ 1:=by split<;>simp
  omega
theorem occEL_len:∀al:List Exp,(Y9 al).length ≤ al.length+wExL al
 | []=>by simp[Y9]
 | e::r=>by
  have h1:=occE_len e
  have h2:=occEL_len r
  simp only[Y9,wExL,List.length_cons,List.length_append]
  omega
end
theorem cpO_len (l:List Oc):(cpO l).length ≤ l.length:=by
 refine snocInd (p:=fun l=>(cpO l).length ≤ l.length) (Nat.le_refl _) (fun l x ih=> ?_) l
 rw[cpO_step]
 split<;>simp<;>omega
theorem cpO_take {l:List Oc} {j:Nat} (h:j+1<l.length):cpO (l.take (j+2))=if l[j+1]=l[j] then cpO (l.take (j+1)) else cpO (l.take (j+1))++[l[j+1]]:=by
 have e:l.take (j+2)=l.take (j+1)++[l[j+1]]:=by rw[List.take_add_one (i:=j+1),List.getElem?_eq_getElem h];rfl
 have e2:(l.take (j+1)).getLast? = some l[j]:=by
  rw[List.take_add_one,List.getElem?_eq_getElem (by omega:j<l.length),Option.toList_some,List.getLast?_append]
  rfl
 rw[e,cpO_step,e2]
 simp only[Option.some.injEq]
 by_cases hq:l[j]=l[j+1]
 ·rw[if_pos hq,if_pos hq.symm]
 ·rw[if_neg hq,if_neg (fun e=>hq e.symm)]
end Go.Gh
namespace Go.Gh
open Go.Sort (HoldsK Holds flatK putRowK grow)
open Go.Proofs (sortWorldK)
def Y0 (o:Oc):List Value:=[.int .i64 o.1,.string o.2]
theorem encO_len (o:Oc):(Y0 o).length = 2:=rfl
theorem encO_one (o:Oc):∀v∈Y0 o,v.oneCell'=true:=by
 intro v hv
 simp only[Y0,List.mem_cons,List.not_mem_nil,or_false] at hv
 rcases hv with rfl|rfl<;>rfl
theorem MF_Occ {w:World} {D:Nat→Prop}:∀{l:List Oc} {cs:List Value} {F:List Nat},MF w D 2 (l.map Occ) cs F→cs=l.flatMap Y0∧F=[]
 | [],cs,F,h=>by simpa[MF] using h
 | o::l,cs,F,h=>by
  simp only[List.map_cons,MF] at h
  obtain ⟨v,cs',F1,F2,h1,h2,h3,h4,h5,h6⟩:=h
  obtain ⟨e1,e2⟩:=MF_Occ h6
  simp only[MV,ML] at h5
  obtain ⟨vs,rfl,_,u1,us,G1,G2,rfl,rfl,⟨rfl,rfl⟩,u2,us2,G3,G4,rfl,rfl,⟨rfl,rfl⟩,rfl,rfl⟩:=h5
  subst e1 e2 h1 h4
  exact ⟨rfl,rfl⟩
theorem Occ_MF (w:World) (D:Nat→Prop):∀l:List Oc,MF w D 2 (l.map Occ) (l.flatMap Y0) []
 | []=>by simp[MF]
 | o::l=>by
  simp only[List.map_cons,MF]
  refine ⟨.agg (Y0 o).toArray,l.flatMap Y0,[],[],rfl,rfl,?_,rfl,?_,Occ_MF w D l⟩
  ·intro x hx
   exact encO_one o x (by simpa[Value.cells] using hx)
  ·simp only[MV,ML]
   exact ⟨Y0 o,rfl,encO_one o,_,_,[],[],rfl,rfl,⟨rfl,rfl⟩,_,_,[],[],rfl,rfl,⟨rfl,rfl⟩,rfl,rfl⟩
theorem flat_len:∀l:List Oc,(l.flatMap Y0).length = l.length * 2
 | []=>rfl
 | o::l=>by simp only[List.flatMap_cons,List.length_append,flat_len l,List.length_cons,encO_len];omega
theorem flat_get:∀(l:List Oc) (t:Nat),t<l.length * 2→(l.flatMap Y0)[t]? = some ((Y0 l[t / 2]!)[t % 2]!)
 | [],t,h=>by simp at h
 | o::l,t,h=>by
  simp only[List.flatMap_cons]
  match t,h with
  | 0,_ => rfl
  | 1,_ => rfl
  | t+2,h=>
   have e1:(t+2) / 2=t / 2+1:=by omega
   have e2:(t+2) % 2=t % 2:=by omega
   rw[List.getElem?_append_right (by simp[encO_len]),e1,e2,encO_len,Nat.add_sub_cancel,flat_get l t (by simp at h;omega)]
   simp
theorem flatK_toList (l:List Oc):(flatK Y0 2 l.toArray).toList = l.flatMap Y0:=by
 refine List.ext_getElem? fun t=> ?_
 rcases Nat.lt_or_ge t (l.length * 2) with h|h
 ·rw[flat_get l t h]
  have h':t<(flatK Y0 2 l.toArray).size := by simpa using h
  rw[Array.getElem?_toList,Array.getElem?_eq_getElem h',←getElem!_pos (flatK Y0 2 l.toArray) t h',Sort.get_flatK _ _ _ _ (by simpa using h)]
  simp
 ·rw[List.getElem?_eq_none (l:=l.flatMap Y0) (by rw[flat_len];exact h),List.getElem?_eq_none (by simpa using h)]
theorem St.putO {w w':World} {D:Nat→Prop} {H:GH} {Ω:List Nat} (h:St w D H Ω) {r:Nat} {l l':List Oc} (hr:ZU H r=some (2,l.map Occ)) (hl:l'.length=l.length) (hk:Kept w w' (fun x=>r≠2 * x))
 (hos:w'.os=w.os) (htp:w'.tape=w.tape) (hou:w'.output=w.output)
 (hb:∀b c T fz,r=2 * b→w.heap[b]? = some (Obj.cells c T fz)→Thaw c fz→l.length * 2≤c.size→∃c',w'.heap[b]? = some (Obj.cells c' T fz)∧c'.size=c.size∧c'.toList.take (l.length * 2)=l'.flatMap Y0) :
 ∃Ω',St w' D (ZG H r (l'.map Occ)) Ω'∧Ev w D Ω w' D Ω':=by
 obtain ⟨Ω1,F,Ω2,hΩ,hR,hput,_⟩:=HM.take h.hm hr
 have hDr:∀b,F=[b]→r=2 * b→∀x,D x→r≠2 * x:=fun b hF e x hx e'=>by
  have:x=b:=by omega
  subst this
  exact h.dj x (by rw[hΩ,hF];simp) hx
 rcases hR with ⟨b,c,T,fz,F',k1,k2,k3,k4,k5,k6,k7⟩|⟨k1,k2,k3⟩
 ·rw[List.length_map] at k4 k5 k7
  obtain ⟨c',c1,c2,c3⟩:=hb b c T fz k1 k2 k3 k4
  obtain ⟨_,e0⟩:=MF_Occ k7
  subst e0
  subst k6 hΩ
  have hnd:=h.nd
  have hbΩ:b∈Ω1++([b]++Ω2):=by simp
  have hb1:∀x∈Ω1++Ω2,r≠2 * x:=fun x hx e=>by
   have:x=b:=by omega
   subst this
   simp only[List.nodup_append,List.nodup_cons,List.mem_append,List.mem_cons,List.cons_append] at hnd hx
   rcases hx with hx|hx
   ·exact hnd.2.2 _ hx _ (.inl rfl) rfl
   ·exact hnd.2.1.1 (by simpa using hx)
  refine ⟨Ω1++([b]++Ω2),⟨hput w' D (fun x=>r≠2 * x) _ _ hk (hDr b rfl k1) (fun _ h=>h) hb1 ?_,hnd,by rw[Y3];exact h.nn,h.dj,fun x hx=>Nat.lt_of_lt_of_le (h.ds x hx) hk.size⟩,
   ⟨fun _ h=>h,fun _ _ h=> .inl h,fun x hx _ => hx,hk.mono ?_,hos,htp,hou⟩⟩
  ·refine .inl ⟨b,c',T,fz,[],k1,c1,?_,by rw[List.length_map,hl,c2];exact k4,by rw[List.length_map,hl];exact k5,rfl,?_⟩
   ·unfold Thaw at *;rw[c2];exact k3
   ·rw[List.length_map,hl,c3];exact Occ_MF w' D l'
  ·intro x _ hx e
   have:x=b:=by omega
   subst this
   exact hx hbΩ
 ·have e0:l=[]:=by simpa using k2
  subst e0 k3 hΩ
  have e1:l'=[]:=List.eq_nil_of_length_eq_zero hl
  subst e1
  have hne:∀x:Nat,r≠2 * x:=fun x e=>by omega
  exact ⟨_,⟨hput w' D (fun x=>r≠2 * x) _ [] hk (fun x _ => hne x) (fun _ h=>h) (fun x _ => hne x) (.inr ⟨⟨k1.1,fun h4 h5=>(k1.2 h4 h5).keep hk (fun x _ => hne x) (fun _ h=>h)⟩,rfl,rfl⟩),h.nd,by rw[Y3];exact h.nn,h.dj,fun x hx=>Nat.lt_of_lt_of_le (h.ds x hx) hk.size⟩,
   ⟨fun _ h=>h,fun _ _ h=> .inl h,fun x hx _ => hx,hk.mono fun x _ _ => hne x,hos,htp,hou⟩⟩
theorem kept_sort {w:World} {b n:Nat} {dk:Array Oc} {os:Array Obj}:Kept w (sortWorldK Y0 2 w b 0 n dk os) (fun x=>x≠b):=by
 have hsz:(putRowK Y0 2 (Sort.ahead w n) b 0 dk).heap.size = w.heap.size:=by simp[putRowK,Sort.putRow,Sort.mapBlock,Sort.ahead]
 have ZU:∀x,x<w.heap.size→(sortWorldK Y0 2 w b 0 n dk os).heap[x]? = (putRowK Y0 2 (Sort.ahead w n) b 0 dk).heap[x]? := fun x hx=>by
  show ((putRowK Y0 2 (Sort.ahead w n) b 0 dk).heap ++ os)[x]? = _
  rw[Array.getElem?_append_left (by rw[hsz];exact hx)]
 refine ⟨fun x hx hne=> ?_,?_,fun x c T fz hx=> ?_⟩
 ·rw[ZU x hx]
  simp only[putRowK,Sort.putRow,Sort.mapBlock,Sort.ahead,Array.getElem?_modify]
  rw[if_neg (fun e=>hne e.symm)]
 ·show w.heap.size≤((putRowK Y0 2 (Sort.ahead w n) b 0 dk).heap ++ os).size
  rw[Array.size_append,hsz];omega
 ·rw[ZU x (Y4 hx)]
  simp only[putRowK,Sort.putRow,Sort.mapBlock,Sort.ahead,Array.getElem?_modify]
  by_cases e:b=x
  ·subst e
   simp only[if_true,hx,Option.map_some,Sort.onCells]
   exact ⟨_,_,rfl,by simp[Sort.putCells]⟩
  ·rw[if_neg e];exact ⟨c,fz,hx,rfl⟩
theorem cells_sort {w:World} {b n:Nat} {dk:List Oc} {os:Array Obj} {c:Array Value} {T:TypeId} {fz:Nat×Nat} (hx:w.heap[b]? = some (.cells c T fz)) (hs:dk.length * 2≤c.size) :
 ∃c',(sortWorldK Y0 2 w b 0 n dk.toArray os).heap[b]? = some (.cells c' T fz)∧c'.size=c.size∧c'.toList.take (dk.length * 2)=dk.flatMap Y0:=by
 have hsz:(putRowK Y0 2 (Sort.ahead w n) b 0 dk.toArray).heap.size = w.heap.size:=by simp[putRowK,Sort.putRow,Sort.mapBlock,Sort.ahead]
 have e:(sortWorldK Y0 2 w b 0 n dk.toArray os).heap[b]? = (putRowK Y0 2 (Sort.ahead w n) b 0 dk.toArray).heap[b]? := by
  show ((putRowK Y0 2 (Sort.ahead w n) b 0 dk.toArray).heap ++ os)[b]? = _
  rw[Array.getElem?_append_left (by rw[hsz];exact Y4 hx)]
 rw[e]
 simp only[putRowK,Sort.putRow,Sort.mapBlock,Sort.ahead,Array.getElem?_modify,if_true,hx,Option.map_some,Sort.onCells]
 refine ⟨_,rfl,by simp[Sort.putCells],?_⟩
 rw[←flatK_toList]
 refine List.ext_getElem? fun t=> ?_
 rcases Nat.lt_or_ge t (dk.length * 2) with h|h
 ·have h1:t<c.size:=by omega
  have h':t<(flatK Y0 2 dk.toArray).size := by simpa using h
  rw[List.getElem?_take_of_lt h,Array.getElem?_toList,Array.getElem?_toList,Array.getElem?_eq_getElem h']
  simp only[Sort.putCells,Array.getElem?_mapIdx,Array.getElem?_eq_getElem h1,Option.map_some]
  rw[if_pos ⟨Nat.zero_le _,by simpa using h⟩,Nat.sub_zero,getElem!_pos (flatK Y0 2 dk.toArray) t h']
  rfl
 ·rw[List.getElem?_eq_none (by simp;omega),List.getElem?_eq_none (by simpa using h)]
theorem sort_ok {P : Program} {fs g : Nat} (hc : ∀ (w : World) (b cap : Nat) (d : Array Oc), HoldsK Y0 2 w b 0 d → b < w.heap.size → d.size < 4611686018427387904 →
      Calls P fs #[.slice (some ⟨b, 0, none⟩) d.size cap, .func (.func g) #[] #[]] w fun e w' => e = .returned (.tuple #[]) ∧ ∃ n os, w' = sortWorldK Y0 2 w b 0 n (srO d.toList).toArray os)
    (h0 : ∀ (p : Option Addr) (cap : Nat) (fv : Value) (w : World), Calls P fs #[.slice p 0 cap, fv] w fun e w' => e = .returned (.tuple #[]) ∧ w' = w)
    (eg : ∀ args w, (callFunc fs args).run P w = .ok (.enter fs args) w)
    {r n : Nat} {l : List Oc} {H : GH} (hr : ZU H r = some (2, l.map Occ)) (hn : l.length = n) (hb : n < 4611686018427387904) :
    GCalls P fs [.own r 2 0 n, .clo g []] H (fun v H' => v = uG ∧ H' = ZG H r ((srO l).map Occ)) := by
  intro w D Ω args hst hargs
  simp only [ML] at hargs
  obtain ⟨v1, vs1, F1, F2, rfl, e1, hv1, v2, vs2, F3, F4, rfl, e2, hv2, rfl, e3⟩ := hargs
  simp only [MV, ML] at hv1 hv2
  obtain ⟨rfl, hv1⟩ := hv1
  obtain ⟨rfl, vs, rfl, rfl, _⟩ := hv2
  rw [eg]
  show Calls P fs _ w _
  by_cases hz : n = 0
  · have e0 : l = [] := List.eq_nil_of_length_eq_zero oT
    subst e0
    have hH : ZG H r ((srO []).map Occ) = H := by
      have : srO [] = [] := by simp [srO]
      rw [this]; exact hset_self hr
    have key : ∀ p cap, v1 = .slice p 0 cap → Calls P fs #[v1, .func (.func g) #[] #[]] w (fun e w'' => ∃ v, e = .returned v ∧ Post w D Ω (fun v H' => v = uG ∧ H' = ZG H r ((srO []).map Occ)) v w'') := fun p cap e => by
      subst e
      refine (h0 p cap _ w).mono ?_
      rintro e w' ⟨rfl, rfl⟩
      exact ⟨_, rfl, Post.here hst ⟨rfl, hH.symm⟩ (MV.val_mk _)⟩
    rcases hv1 with ⟨b, cap, c, T, fz, q0, hp, _⟩ | ⟨_, a, hp⟩
    · rw [hz] at hp; exact key _ _ hp
    · exact key _ _ hp
  · rcases hv1 with ⟨b, cap, c, T, fz, q0, hp, q1, q2, q3⟩ | ⟨q, _⟩
    case inr => exact absurd q hz
    rw [Nat.zero_mul] at hp
    subst hp
    obtain ⟨F, hF, hFΩ⟩ := hst.hm.mem hr
    obtain ⟨b', c', T', fz', F', k1, k2, k3, k4, k5, k6, k7⟩ := hF.es_ne (fun e => by
      have : l = [] := by simpa using e
      subst this; exact hz (by simpa using hn.symm))
    have : b' = b := by omega
    subst this
    rw [q2] at k2
    simp only [Option.some.injEq, Obj.cells.injEq] at k2
    obtain ⟨rfl, rfl, rfl⟩ := k2
    rw [List.length_map] at k4 k7
    obtain ⟨hcs, _⟩ := MF_Occ k7
    have hH : HoldsK Y0 2 w b' 0 l.toArray := by
      intro j hj
      have hj' : j < l.length * 2 := by simpa using hj
      have hjc : j < c.size := by omega
      have hx := flat_get l j hj'
      rw [← hcs, List.getElem?_take_of_lt hj', Array.getElem?_toList] at hx
      refine ⟨?_, ?_⟩
      · rw [Nat.zero_add]
        simp only [World.cell?, q2, Option.isSome_none, Bool.false_eq_true, if_false, hx, id]
        rw [Sort.get_flatK _ _ _ _ (by simpa using hj')]
        simp
      · rw [Nat.zero_add]
        simp only [World.frozen?, q2]
        exact k3 j hjc
    have hcall := hc w b' cap l.toArray hH (Y4 q2) (by simpa [hn] using hb)
    have hsz : l.toArray.size = n := by simpa using hn
    rw [hsz] at hcall
    refine hcall.mono ?_
    rintro e w' ⟨rfl, m, os, rfl⟩
    have hkp : Kept w (sortWorldK Y0 2 w b' 0 m (srO l).toArray os) (fun x => r ≠ 2 * x) := (kept_sort (b := b')).mono fun x _ hx e => hx oT
    obtain ⟨Ω', c1, c2⟩ := hst.putO (l' := srO l) hr (srO_len l) hkp rfl rfl rfl (fun b c2 T2 fz2 e1 e2 _ hs => by
      have : b = b' := by omega
      subst this
      rw [q2] at e2
      simp only [Option.some.injEq, Obj.cells.injEq] at e2
      obtain ⟨rfl, rfl, rfl⟩ := e2
      have := cells_sort (n := m) (dk := srO l) (os := os) q2 (by rw [srO_len]; exact hs)
      rwa [srO_len] at this)
    exact ⟨_, rfl, _, _, D, Ω', ⟨rfl, rfl⟩, MV.val_mk _, c1, c2⟩
open Go.Proofs (ltOf)
theorem ltS_or (x y:ByteArray):(Op.bytesLess x.data.toList y.data.toList||x.data.toList == y.data.toList) = !ltN y x:=by
 have h:=ltN_irr x
 cases e1:ltN x y
 ·cases e2:ltN y x
  ·have:=ltN_tri e1 e2
   subst this
   simp
  ·have e3:Op.bytesLess x.data.toList y.data.toList=false:=e1
   rw[e3]
   simp only[Bool.false_or,Bool.not_true,beq_eq_false_iff_ne]
   intro e4
   have:x=y:=chars_inj.1 e4
   subst this
   rw[h] at e2;cases e2
 ·have e2:ltN y x=false:=by
   cases q:ltN y x
   ·rfl
   ·have:=ltN_trans e1 q;rw[h] at this;cases this
  have e3:Op.bytesLess x.data.toList y.data.toList=true:=e1
  rw[e3,e2];rfl
theorem cellA (W:World) (cs:Array Value) (T:TypeId) (i:Nat):(W.alloc (.cells cs T)).cell? ⟨W.heap.size,i,none⟩=cs[i]? := by
 simp only[World.cell?,hp_new];rfl
theorem cellB (W:World) (o:Obj) (b i:Nat) (h:b<W.heap.size):(W.alloc o).cell? ⟨b,i,none⟩=W.cell? ⟨b,i,none⟩:=by
 simp only[World.cell?,hp_old _ _ _ h]
theorem cell1a (W:World) (v0 v1:Value) (T:TypeId):((W.alloc (.cells #[v0,v1] T)).drew).cell? ⟨W.heap.size,0,none⟩=some v0:=cellA W _ T 0
theorem cell1b (W:World) (v0 v1:Value) (T:TypeId):((W.alloc (.cells #[v0,v1] T)).drew).cell? ⟨W.heap.size,1,none⟩=some v1:=cellA W _ T 1
theorem sizeA (W:World) (o:Obj):(W.alloc o).heap.size = W.heap.size+1:=by simp
def cfO (x y:Oc):Int:=if (if x.1<y.1 then (-1:Int) else if y.1<x.1 then 1 else 0)≠0 then (if x.1<y.1 then -1 else if y.1<x.1 then 1 else 0) else if ltN x.2 y.2=true then -1 else if ltN y.2 x.2=true then 1 else 0
theorem cfO_lt (x y:Oc):ltOf cfO x y=ltO x y:=by
 unfold ltOf cfO ltO
 by_cases h1:x.1<y.1
 ·simp[h1]
 ·by_cases h2:y.1<x.1
  ·have:¬x.1=y.1:=by omega
   simp[h1,h2,this]
  ·have:x.1=y.1:=by omega
   cases e1:ltN x.2 y.2
   ·cases e2:ltN y.2 x.2<;>simp[h1,h2,this,e1,e2]
   ·simp[h1,h2,this,e1]
theorem cfO_eq:ltOf cfO=ltO:=funext fun x=>funext fun y=>cfO_lt x y
end Go.Gh
namespace Go.Gh
def YZ (n:Nat) (p:Nat→Bool):Int:=match (List.range n).find? p with
 | some i=>i
 | none=> -1
theorem firstI_hit {n i:Nat} {p:Nat→Bool} (h:i<n) (hp:p i=true) (hn:∀j,j<i→p j=false):YZ n p=i:=by
 have e:(List.range n).find? p=some i:=by
  rw[List.find?_range_eq_some]
  exact ⟨hp,by simpa using h,fun j hj=>by simp[hn j hj]⟩
 simp[YZ,e]
theorem X3 {n:Nat} {p:Nat→Bool} (hn:∀j,j<n→p j=false):YZ n p = -1:=by
 have e:(List.range n).find? p=none:=by
  rw[List.find?_eq_none]
  intro j hj
  rw[hn j (by simpa using hj)]
  simp
 simp[YZ,e]
theorem firstI_rng (n:Nat) (p:Nat→Bool):YZ n p = -1∨(0≤YZ n p∧YZ n p<n):=by
 unfold YZ
 cases e:(List.range n).find? p with
 | none=>exact .inl rfl
 | some i=>
  have:=List.mem_of_find?_eq_some e
  simp at this
  refine .inr ⟨?_,?_⟩
  ·show (0:Int)≤(i:Int)
   omega
  ·show (i:Int)<n
   omega
theorem firstI_no {n:Nat} {p:Nat→Bool} (h:YZ n p = -1) {j:Nat} (hj:j<n):p j=false:=by
 unfold YZ at h
 cases e:(List.range n).find? p with
 | none=>
  rw[List.find?_eq_none] at e
  simpa using e j (by simpa using hj)
 | some i=>
  rw[e] at h
  have h':(i:Int) = -1:=h
  omega
theorem lt_step {p:Nat→Bool} {i:Nat} {b:Bool} (h:p i=b) (hn:∀j,j<i→p j=b):∀j,j<i+1→p j=b:=fun j hj=>by
 rcases Nat.lt_succ_iff_lt_or_eq.1 hj with e|e
 ·exact hn j e
 ·rw[e];exact h
theorem rngAll_no {n i:Nat} {p:Nat→Bool} (h:i<n) (hp:p i=false):(List.range n).all p=false:=by
 rw[List.all_eq_false]
 exact ⟨i,by simpa using h,by simp[hp]⟩
theorem rngAll_yes {n:Nat} {p:Nat→Bool} (h:∀j,j<n→p j=true):(List.range n).all p=true:=by
 rw[List.all_eq_true]
 intro j hj
 exact h j (by simpa using hj)
theorem all_no {α:Type} {p:α→Bool} {l:List α} {i:Nat} (h:i<l.length) (hp:p l[i]=false):l.all p=false:=by
 rw[List.all_eq_false]
 exact ⟨l[i],List.getElem_mem h,by simp[hp]⟩
theorem any_yes {α:Type} {p:α→Bool} {l:List α} {i:Nat} (h:i<l.length) (hp:p l[i]=true):l.any p=true:=by
 rw[List.any_eq_true]
 exact ⟨l[i],List.getElem_mem h,hp⟩
theorem all_yes {α:Type} {p:α→Bool} {l:List α} (h:∀a∈l,p a=true):l.all p=true:=List.all_eq_true.2 h
theorem any_no {α:Type} {p:α→Bool} {l:List α} (h:∀a∈l,p a=false):l.any p=false:=by
 rw[List.any_eq_false]
 intro a ha
 rw[h a ha];simp
theorem Zd {α:Type} {p:α→Bool} {l:List α} {i:Nat} {b:Bool} (h:i<l.length) (hp:p l[i]=b) (hn:∀a∈l.take i,p a=b):∀a∈l.take (i+1),p a=b:=by
 intro a ha
 rw[List.take_add_one,List.getElem?_eq_getElem h,Option.toList_some,List.mem_append] at ha
 rcases ha with ha|ha
 ·exact hn a ha
 ·simp only[List.mem_singleton] at ha;rw[ha];exact hp
def attV (a:Att):Bool:=Zs a.name&&(decide (1≤a.type∧a.type≤4)&&(decide (1≤a.mode∧a.mode≤3)&&(if a.mode=3 then decide (a.type=2) && !a.circ else !a.circ || decide (a.type=2))))
def dupA (l:List Att) (i:Nat):Bool:=(l.take i).any fun o=>decide (o.name=(l.getD i attZ).name)
def symV (s:Sym):Bool:=s.atts.all attV&&((List.range s.atts.length).all fun i=> !dupA s.atts i)&&(Zs s.name&&decide (s.atts.length≤4))
def fitE (e:Exp) (n:Int):Bool:=validE e&&allE (fun x=>decide (x.pos≤n)) e
def eqnV (n:Nat) (q:Eqn):Bool:=fitE q.expr n&&(Zs q.name&&decide (0≤q.pos∧q.pos≤n))
def conV (n:Nat) (c:Con):Bool:=fitE c.goal n&&(fitE c.value n&&(Zs c.sym&&Zs c.name))
def rulV (r:Rul):Bool:=Zs r.name&&(Zs r.left&&(decide (r.right.length≤3)&&(decide (r.cons.length≤2)&&(r.right.all Zs&&(r.eqs.all (eqnV r.right.length)&&r.cons.all (conV r.right.length))))))
def symB (g:Gram) (i:Nat):Bool:= !symV (g.syms.getD i symZ)||(g.syms.take i).any fun o=>decide (o.name=(g.syms.getD i symZ).name)
def rulB (g:Gram) (i:Nat):Bool:= !rulV (g.rules.getD i rulZ)||(g.rules.take i).any fun o=>decide (o.name=(g.rules.getD i rulZ).name)
def sfI (g:Gram):Int:=if 0≤YZ g.syms.length (symB g) then YZ g.syms.length (symB g) else YZ g.rules.length (rulB g)
def reqP (g:Gram) (r:Rul) (pos:Nat):List Oc:=((Ze g.syms (Zu r pos)).atts.filter fun a=>decide (a.mode=if pos=0 then 2 else 1)).map fun a=>((pos:Int),a.name)
def Zn (g:Gram) (r:Rul):Nat→List Oc
 | 0=>[]
 | n+1=>Zn g r n++reqP g r n
def reqO (g:Gram) (r:Rul):List Oc:=Zn g r (r.right.length+1)
def mayU (g:Gram) (r:Rul) (o:Oc):Bool:=hasAt g r o.1 o.2&&decide ((Zp g r o.1 o.2).mode = if o.1=0 then 1 else 2)
def unkR (g:Gram) (r:Rul):Bool:= !((List.range (r.right.length+1)).all fun pos=>hSym g.syms (Zu r pos))
def misR (g:Gram) (r:Rul):Bool:=(reqO g r).any fun o=> !(eqnF r o).isSome
def hasO (l:List Oc) (o:Oc):Bool:=l.any fun y=>decide (y=o)
def atQ (q:Eqn):Oc:=(q.pos,q.name)
def extR (g:Gram) (r:Rul):Bool:= !((List.range r.eqs.length).all fun i=>hasO (reqO g r) ((r.eqs.map atQ).getD i (0,noS)) && !hasO ((r.eqs.map atQ).take i) ((r.eqs.map atQ).getD i (0,noS)))
def YI (g:Gram) (r:Rul) (e:Exp):Bool:=(usE e []).any fun o=> !mayU g r o
def expR (r:Rul):List Exp:=r.eqs.map (·.expr)++r.cons.flatMap fun c=>[c.goal,c.value]
def misU (g:Gram) (r:Rul):Bool:=(expR r).any (YI g r)
def brk (g:Gram) (r:Rul) (c:Nat):Bool:=if c=3 then unkR g r else if c=4 then misR g r else if c=5 then extR g r else misU g r
def brF (g:Gram) (c:Nat):Int:=YZ g.rules.length fun i=>brk g (g.rules.getD i rulZ) c
def shpC (g:Gram):Int×Int:=
 if ¬((1≤g.syms.length∧g.syms.length≤4)∧(1≤g.rules.length∧g.rules.length≤8)) then (1,0)
 else if 0≤sfI g then (1,sfI g)
 else if ((g.syms.getD 0 symZ).atts.any fun a=>decide (a.mode=1))=true then (2,0)
 else if 0≤brF g 3 then (3,brF g 3) else if 0≤brF g 4 then (4,brF g 4) else if 0≤brF g 5 then (5,brF g 5) else if 0≤brF g 6 then (6,brF g 6) else (0,0)
def misT (g:Gram) (r:Rul):Bool:=(r.eqs.any fun q=> !decide (tyE g r q.expr=(Zp g r q.pos q.name).type)) ||
 r.cons.any fun c=> !decide (tyE g r c.goal=4)||(!decide (tyE g r c.value=2) || !decide ((fAtt (Ze g.syms c.sym).atts c.name).mode = 3))
def hOf (g:Gram) (out:List Int) (n:ByteArray):Int:=if Zg (fun s:Sym=>decide (s.name=n)) g.syms<0 then 0 else out.getD (Zg (fun s:Sym=>decide (s.name=n)) g.syms).toNat 0
def rchR (g:Gram) (out:List Int) (s:ByteArray) (r:Rul):Bool:=decide (r.left=s)&&r.right.all fun c=>decide (0<hOf g out c)
def rchS (g:Gram) (out:List Int) (s:ByteArray):Bool:=g.rules.any (rchR g out s)
def hNext (g:Gram) (round:Int) (out:List Int) (i:Nat):Int:=if 0<out.getD i 0 then out.getD i 0 else if rchS g out (g.syms.getD i symZ).name then round else out.getD i 0
def hIt (g:Gram):Nat→List Int
 | 0=>List.replicate g.syms.length 0
 | k+1=>(List.range g.syms.length).map (hNext g ((k:Int)+1) (hIt g k))
def hgts (g:Gram):List Int:=hIt g g.syms.length
def minH (g:Gram) (n:ByteArray):Int:=hOf g (hgts g) n
theorem hIt_len (g:Gram):∀k,(hIt g k).length = g.syms.length
 | 0=>by simp[hIt]
 | k+1=>by simp[hIt]
theorem hIt_nn (g:Gram):∀k,∀x∈hIt g k,0≤x
 | 0,x,h=>by simp[hIt] at h;omega
 | k+1,x,h=>by
  simp only[hIt,List.mem_map,List.mem_range] at h
  obtain ⟨i,hi,rfl⟩:=h
  have hg:0≤(hIt g k).getD i 0:=by
   rw[Z3 (by rw[hIt_len];exact hi)]
   exact hIt_nn g k _ (List.getElem_mem _)
  simp only[hNext]
  split
  ·exact hg
  ·split
   ·omega
   ·exact hg
def tyF (g:Gram):Int:=YZ g.rules.length fun i=>misT g (g.rules.getD i rulZ)
def emF (g:Gram):Int:=YZ g.syms.length fun i=>decide ((hgts g).getD i 0=0)
def chkG (g:Gram):Int×Int:=
 if (shpC g).1 ≠ 0 then shpC g else if 0≤tyF g then (7,tyF g) else if 0≤emF g then (8,emF g) else (0,0)
def accG (g:Gram):Bool:=decide ((chkG g).1 = 0)
end Go.Gh
namespace Go.Gh
theorem usE_sm {e:Exp} (h:wEx e≤1048576):(usE e []).length ≤ 1048577:=by
 have h2:=usE_len e []
 simp only[List.length_nil] at h2
 omega
def ixI (L:List Oc) (y:Oc):Int:=Zg (fun z=>decide (z=y)) L
def rdyT (T:List (List Int)) (out:List Int) (i:Nat):Bool:= !hasI out i&&(T.getD i []).all fun k=>decide (k<0)||hasI out k
def dC (T:List (List Int)) (goal:Nat) (d:Nat) (out:List Int) (k:Int):Bool:=
 if d=1 then decide (k=goal) else decide (k≠goal)&&decide (0≤k)&&decide (out.getD k.toNat 0=(d:Int)-1)
def dS (T:List (List Int)) (goal:Nat) (d:Nat) (out:List Int) (i:Nat):Int:=
 if out.getD i 0≠0 then out.getD i 0 else if (T.getD i []).any (dC T goal d out) then d else 0
def dL (T:List (List Int)) (goal:Nat):Nat→List Int
 | 0=>List.replicate T.length 0
 | d+1=>(List.range T.length).map (dS T goal (d+1) (dL T goal d))
def dst (T:List (List Int)) (goal:Nat):List Int:=dL T goal T.length
end Go.Gh
namespace Go.Gh
theorem GCalls.nd {P:Program} {f:FuncId} {gs:List GV} {H:GH} {R:GV→GH→Prop} (h:(names H).Nodup → GCalls P f gs H R):GCalls P f gs H R:=
 fun w D Ω args hst hargs=>h hst.nn w D Ω args hst hargs
theorem GCalls.sub {P:Program} {f:FuncId} {gs:List GV} {H L T:GH} {R:GV→GH→Prop} (hs:subH H L) (h:GCalls P f gs (L++T) R):GCalls P f gs (H++T) R:=by
 intro w D Ω args hst hargs
 obtain ⟨Ω',h1,h2⟩:=hst.sub hs
 refine Yld.mono (fun v w' ⟨g,H',D',Ω'',k1,k2,k3,k4⟩=> ?_) (h w D Ω' args h1 hargs)
 exact ⟨g,H',D',Ω'',k1,k2,k3,⟨k4.d0,fun b hb hD=>(k4.dn b hb hD).imp id (h2 b),fun b hb hl=>h2 b (k4.on b hb hl),k4.kp.mono fun b _ hb hb'=>hb (h2 b hb'),k4.os,k4.tape,k4.output⟩⟩
theorem drop_get {α:Type} {X L:List α} {a i:Nat} (h:X.drop a=L.drop a) (ha:a≤i) (hx:i<X.length) (hl:i<L.length):X[i]=L[i]:=by
 have e:=congrArg (fun l:List α=>l[i-a]?) h
 simp only[List.getElem?_drop] at e
 rw[show a+(i-a)=i by omega,List.getElem?_eq_getElem hx,List.getElem?_eq_getElem hl] at e
 exact Option.some.inj e
theorem cpO_next {l:List Oc} {j:Nat} (h1:1≤j) (h:j<l.length):cpO (l.take (j+1))=if l[j]=l[j-1] then cpO (l.take j) else cpO (l.take j)++[l[j]]:=by
 obtain ⟨i,rfl⟩:∃i,j=i+1:=⟨j-1,oT⟩
 exact cpO_take h
theorem cpO_short {l:List Oc} (h:l.length≤1):cpO l=l:=by
 match l,h with
 | [],_ => rfl
 | [a],_ => rfl
def occ1 (e:Exp):List Oc:=if e.kind=3 then [(e.pos,e.name)] else []
theorem occE_eq (e:Exp):occE e=occ1 e++Y9 e.args:=by cases e;rfl
theorem occEL_app (al bl:List Exp):Y9 (al++bl)=Y9 al++Y9 bl:=by
 induction al with
 | nil=>simp[Y9]
 | cons a al ih=>simp only[List.cons_append,Y9,ih,List.append_assoc]
theorem occEL_step {al:List Exp} {i:Nat} (h:i<al.length):Y9 (al.take (i+1))=Y9 (al.take i)++occE al[i]:=by
 have hs:∀(al:List Exp) (e:Exp),Y9 (al++[e])=Y9 al++occE e:=by
  intro al e
  induction al with
  | nil=>simp[Y9]
  | cons a al ih=>simp only[List.cons_append,Y9,ih,List.append_assoc]
 rw[List.take_add_one,List.getElem?_eq_getElem h]
 exact hs _ _
def cpI (L:List Oc) (m j:Nat) (X:List Oc):Prop:=1≤j∧m+1+j≤L.length∧X.length=L.length∧(cpO (L.take (m+1+j))).length ≤ m+j ∧
 X.take (cpO (L.take (m+1+j))).length = cpO (L.take (m+1+j))∧X.drop (m+j)=L.drop (m+j)
theorem cpI_eq {L X:List Oc} {m j i:Nat} (h:cpI L m j X) (hl:m+1+j<L.length) (hi:i=m+j) (h1:m+1+j<X.length) (h2:i<X.length) (he:X[m+1+j]=X[i]) :
 cpI L m (j+1) X∧cpO (L.take (m+1+(j+1)))=cpO (L.take (m+1+j)):=by
 subst hi
 obtain ⟨a1,a2,a3,a4,a5,a6⟩:=h
 have q1:X[m+j]=L[m+j]'oT := drop_get a6 (Nat.le_refl _) h2 oT
 have q2:X[m+1+j]=L[m+1+j]:=drop_get a6 oT h1 hl
 have e:=cpO_next (l:=L) (j:=m+1+j) oT hl
 rw[if_pos (by rw[←q2,he,q1];congr 1;omega)] at e
 have e':cpO (L.take (m+1+(j+1)))=cpO (L.take (m+1+j)):=e
 refine ⟨⟨oT,oT,a3,by rw[e'];omega,by rw[e'];exact a5,?_⟩,e'⟩
 have:=congrArg (List.drop 1) a6
 simpa[List.drop_drop,Nat.add_assoc] using this
theorem cpI_ne {L X:List Oc} {m j i:Nat} (h:cpI L m j X) (hl:m+1+j<L.length) (hi:i=m+j) (h1:m+1+j<X.length) (h2:i<X.length) (he:X[m+1+j]≠X[i]) :
 cpI L m (j+1) (X.set (cpO (L.take (m+1+j))).length X[m+1+j])∧(cpO (L.take (m+1+(j+1)))).length = (cpO (L.take (m+1+j))).length + 1:=by
 subst hi
 obtain ⟨a1,a2,a3,a4,a5,a6⟩:=h
 have q1:X[m+j]=L[m+j]'oT := drop_get a6 (Nat.le_refl _) h2 oT
 have q2:X[m+1+j]=L[m+1+j]:=drop_get a6 oT h1 hl
 have e:=cpO_next (l:=L) (j:=m+1+j) oT hl
 have hne:¬L[m+1+j]=L[m+1+j-1]'oT := fun q=>he (by
  rw[q2,q1,q];congr 1;omega)
 rw[if_neg hne] at e
 have e':cpO (L.take (m+1+(j+1)))=cpO (L.take (m+1+j))++[L[m+1+j]]:=e
 have el:(cpO (L.take (m+1+(j+1)))).length = (cpO (L.take (m+1+j))).length + 1:=by rw[e'];simp
 refine ⟨⟨oT,oT,by simpa using a3,by rw[el];omega,?_,?_⟩,el⟩
 ·rw[el,e',List.take_add_one,List.getElem?_set_self oT,List.take_set_of_le (Nat.le_refl _),a5,q2]
  rfl
 ·rw[List.drop_set_of_lt oT]
  have:=congrArg (List.drop 1) a6
  simpa[List.drop_drop,Nat.add_assoc] using this
end Go.Gh
namespace Go.Gh
theorem bor_TS {H:GH} {r n:Nat} {l:List ByteArray} (hr:ZU H r=some (1,l.map T)) (hn:l.length=n):Bor H (.own r 1 0 n) (TS l):=Bor.allM (fun _ => rfl) hr hn
theorem bor_OcS {H:GH} {r n:Nat} {l:List Oc} (hr:ZU H r=some (2,l.map Occ)) (hn:l.length=n):Bor H (.own r 2 0 n) (OcS l):=Bor.allM (fun _ => rfl) hr hn
theorem bor_ExS {H:GH} {r n:Nat} {l:List Exp} (hr:ZU H r=some (7,l.map Ex)) (hn:l.length=n):Bor H (.own r 7 0 n) (ExS l):=Bor.allM view_Ex hr hn
theorem symV_a {s:Sym} {i:Nat} (h:i<s.atts.length) (hb:attV s.atts[i]=false):symV s=false:=by
 simp only[symV,all_no h hb,Bool.false_and]
theorem symV_d {s:Sym} {i:Nat} (h:i<s.atts.length) (hb:dupA s.atts i=true):symV s=false:=by
 simp only[symV,rngAll_no (p:=fun i=> !dupA s.atts i) h (by simp[hb]),Bool.false_and,Bool.and_false]
theorem symV_ok {s:Sym} (h1:∀a∈s.atts,attV a=true) (h2:∀j,j<s.atts.length→dupA s.atts j=false):symV s=(Zs s.name&&decide (s.atts.length≤4)):=by
 have e:=rngAll_yes (n:=s.atts.length) (p:=fun i=> !dupA s.atts i) (fun j hj=>by simp[h2 j hj])
 simp only[symV,all_yes h1,e,Bool.true_and]
def dstS (l:List ByteArray):Bool:=(List.range l.length).all fun i=> !hasS (l.take i) (l.getD i noS)
theorem dstS_no {l:List ByteArray} {i:Nat} (h:i<l.length) (hb:hasS (l.take i) l[i]=true):dstS l=false:=
 rngAll_no (p:=fun i=> !hasS (l.take i) (l.getD i noS)) h (by rw[Z3 h,hb];rfl)
theorem dstS_yes {l:List ByteArray} (h:∀j (hj:j<l.length),hasS (l.take j) l[j]=false):dstS l=true:=
 rngAll_yes (p:=fun i=> !hasS (l.take i) (l.getD i noS)) (fun j hj=>by rw[Z3 hj,h j hj];rfl)
theorem hasS_map {α:Type} (f:α→ByteArray) (l:List α) (s:ByteArray):hasS (l.map f) s=l.any fun o=>decide (f o=s):=by
 simp only[hasS,List.any_map];rfl
theorem dupA_eq {l:List Att} {i:Nat} (h:i<l.length):dupA l i=(l.take i).any fun o=>decide (o.name=l[i].name):=by
 simp only[dupA,Z3 h]
theorem dstS_atts (l:List Att):dstS (l.map (·.name))=(List.range l.length).all fun i=> !dupA l i:=by
 simp only[dstS,List.length_map]
 apply Bool.eq_iff_iff.2
 simp only[List.all_eq_true,List.mem_range]
 constructor
 ·intro h j hj
  have:=h j hj
  rw[←List.map_take,hasS_map,Z3 (by simpa using hj),List.getElem_map] at this
  rw[dupA_eq hj];exact this
 ·intro h j hj
  have:=h j hj
  rw[←List.map_take,hasS_map,Z3 (by simpa using hj),List.getElem_map]
  rw[dupA_eq hj] at this;exact this
theorem symV_spec {s:Sym} (h1:∀a∈s.atts,attV a=true):symV s=(Zs s.name&&(decide (s.atts.length≤4)&&dstS (s.atts.map (·.name)))):=by
 rw[dstS_atts]
 simp only[symV,all_yes h1,Bool.true_and]
 cases Zs s.name<;>cases (List.range s.atts.length).all fun i=> !dupA s.atts i<;>simp
theorem rulV_r {r:Rul} {i:Nat} (h:i<r.right.length) (hb:Zs r.right[i]=false):rulV r=false:=by
 simp only[rulV,all_no h hb,Bool.false_and,Bool.and_false]
theorem rulV_e {r:Rul} {i:Nat} (h:i<r.eqs.length) (hb:eqnV r.right.length r.eqs[i]=false):rulV r=false:=by
 simp only[rulV,all_no h hb,Bool.false_and,Bool.and_false]
theorem rulV_c {r:Rul} {i:Nat} (h:i<r.cons.length) (hb:conV r.right.length r.cons[i]=false):rulV r=false:=by
 simp only[rulV,all_no h hb,Bool.false_and,Bool.and_false]
theorem rulV_h {r:Rul} (h:¬(Zs r.name=true∧Zs r.left=true∧r.right.length≤3∧r.cons.length≤2)):rulV r=false:=by
 cases e:rulV r with
 | false=>rfl
 | true=>
  simp only[rulV,Bool.and_eq_true,decide_eq_true_eq] at e
  exact absurd ⟨e.1,e.2.1,e.2.2.1,e.2.2.2.1⟩ h
theorem rulV_ok {r:Rul} (h:Zs r.name=true∧Zs r.left=true∧r.right.length≤3∧r.cons.length≤2) (h1:∀s∈r.right,Zs s=true) (h2:∀q∈r.eqs,eqnV r.right.length q=true) (h3:∀c∈r.cons,conV r.right.length c=true):rulV r=true:=by
 simp only[rulV,Bool.and_eq_true,decide_eq_true_eq,List.all_eq_true]
 exact ⟨h.1,h.2.1,h.2.2.1,h.2.2.2,h1,h2,h3⟩
theorem rulV_pos {r:Rul} (h:rulV r=true):∀q∈r.eqs,0≤q.pos∧q.pos≤r.right.length:=by
 intro q hq
 simp only[rulV,Bool.and_eq_true,decide_eq_true_eq,List.all_eq_true] at h
 have:=h.2.2.2.2.2.1 q hq
 simp only[eqnV,Bool.and_eq_true,decide_eq_true_eq] at this
 exact this.2.2
theorem symB_eq {g:Gram} {i:Nat} (h:i<g.syms.length):symB g i=(!symV g.syms[i]||(g.syms.take i).any fun o=>decide (o.name=g.syms[i].name)):=by
 simp only[symB,Z3 h]
theorem rulB_eq {g:Gram} {i:Nat} (h:i<g.rules.length):rulB g i=(!rulV g.rules[i]||(g.rules.take i).any fun o=>decide (o.name=g.rules[i].name)):=by
 simp only[rulB,Z3 h]
theorem sfI_s {g:Gram} {i:Nat} (h:i<g.syms.length) (hb:symB g i=true) (hn:∀j,j<i→symB g j=false):sfI g=i:=by
 have e:=firstI_hit h hb hn
 simp only[sfI,e]
 rw[if_pos oT]
theorem sfI_r {g:Gram} {i:Nat} (hs:∀j,j<g.syms.length→symB g j=false) (h:i<g.rules.length) (hb:rulB g i=true) (hn:∀j,j<i→rulB g j=false):sfI g=i:=by
 have e:=firstI_hit h hb hn
 simp only[sfI,X3 hs,e]
 rw[if_neg oT]
theorem sfI_n {g:Gram} (hs:∀j,j<g.syms.length→symB g j=false) (hn:∀j,j<g.rules.length→rulB g j=false):sfI g = -1:=by
 simp only[sfI,X3 hs,X3 hn]
 rw[if_neg oT]
theorem sfI_no {g:Gram} (h:¬0≤sfI g):(∀j,j<g.syms.length→symB g j=false)∧∀j,j<g.rules.length→rulB g j=false:=by
 unfold sfI at h
 split at h
 ·omega
 ·rename_i h1
  have e1:YZ g.syms.length (symB g) = -1:=by rcases firstI_rng g.syms.length (symB g) with h2|h2<;>omega
  have e2:YZ g.rules.length (rulB g) = -1:=by rcases firstI_rng g.rules.length (rulB g) with h2|h2<;>omega
  exact ⟨fun j hj=>firstI_no e1 hj,fun j hj=>firstI_no e2 hj⟩
theorem hasO_hit {l:List Oc} {o:Oc} {i:Nat} (h:i<l.length) (e:l[i]=o):hasO l o=true:=
 any_yes (p:=fun y=>decide (y=o)) h (by simp[e])
theorem hasO_none {l:List Oc} {o:Oc} (h:∀y∈l,decide (y=o)=false):hasO l o=false:=any_no h
theorem reqP_take {g:Gram} {r:Rul} {pos:Nat} {m:Int} (hm:m=if pos=0 then 2 else 1) (l:List Att) {i:Nat} (h:i<l.length) :
 (((l.take (i+1)).filter fun a=>decide (a.mode=m)).map fun a=>((pos:Int),a.name))=(((l.take i).filter fun a=>decide (a.mode=m)).map fun a=>((pos:Int),a.name))++(if l[i].mode = m then [((pos:Int),l[i].name)] else []):=by
 rw[List.take_add_one,List.getElem?_eq_getElem h,List.filter_append,List.map_append]
 by_cases e:l[i].mode = m<;>simp[e]
theorem unkR_no {g:Gram} {r:Rul} {i:Nat} (h:i<r.right.length+1) (hb:hSym g.syms (Zu r i)=false):unkR g r=true:=by
 simp only[unkR,rngAll_no (p:=fun pos:Nat=>hSym g.syms (Zu r pos)) h hb,Bool.not_false]
theorem unkR_ok {g:Gram} {r:Rul} (h:∀j,j<r.right.length+1→hSym g.syms (Zu r (j:Nat))=true):unkR g r=false:=by
 simp only[unkR,rngAll_yes (p:=fun pos:Nat=>hSym g.syms (Zu r pos)) h,Bool.not_true]
theorem eqnF_any (r:Rul) (o:Oc):(eqnF r o).isSome = r.eqs.any fun q=>decide (q.pos=o.1∧q.name=o.2):=by
 unfold eqnF
 induction r.eqs with
 | nil=>rfl
 | cons q l ih=>
  simp only[List.find?_cons,List.any_cons]
  cases decide (q.pos=o.1∧q.name=o.2) with
  | true=>rfl
  | false=>rw[Bool.false_or,←ih]
theorem extR_no {g:Gram} {r:Rul} {i:Nat} (h:i<r.eqs.length) (hb:hasO (reqO g r) (atQ r.eqs[i])=false∨hasO ((r.eqs.take i).map atQ) (atQ r.eqs[i])=true):extR g r=true:=by
 have:=rngAll_no (n:=r.eqs.length) (i:=i) (p:=fun i=>hasO (reqO g r) ((r.eqs.map atQ).getD i (0,noS)) && !hasO ((r.eqs.map atQ).take i) ((r.eqs.map atQ).getD i (0,noS))) h (by
  rw[Z3 (by simpa using h),List.getElem_map,←List.map_take]
  rcases hb with hb|hb
  ·rw[hb];rfl
  ·rw[hb,Bool.not_true,Bool.and_false])
 simp only[extR,this,Bool.not_false]
theorem extR_ok {g:Gram} {r:Rul} (h:∀j (hj:j<r.eqs.length),hasO (reqO g r) (atQ r.eqs[j])=true∧hasO ((r.eqs.take j).map atQ) (atQ r.eqs[j])=false):extR g r=false:=by
 have:=rngAll_yes (n:=r.eqs.length) (p:=fun i=>hasO (reqO g r) ((r.eqs.map atQ).getD i (0,noS)) && !hasO ((r.eqs.map atQ).take i) ((r.eqs.map atQ).getD i (0,noS))) (fun i hi=>by
  rw[Z3 (by simpa using hi),List.getElem_map,←List.map_take,(h i hi).1,(h i hi).2];rfl)
 simp only[extR,this,Bool.not_true]
theorem hasO_map (l:List Eqn) (o:Oc):hasO (l.map atQ) o=l.any fun q=>decide (q.pos=o.1∧q.name=o.2):=by
 simp only[hasO,List.any_map]
 congr 1
 funext q
 simp only[Function.comp,atQ,Prod.ext_iff]
theorem reqA_len {g:Gram} (hg:ZA g) (r:Rul):∀n,(Zn g r n).length ≤ n * 1048576
 | 0=>by simp[Zn]
 | n+1=>by
  have h1:=reqA_len hg r n
  have h2:(reqP g r n).length ≤ 1048576:=by
   have h3:=List.length_filter_le (fun a:Att=>decide (a.mode=if n=0 then 2 else 1)) (Ze g.syms (Zu r n)).atts
   have h4:=Yd hg (Zu r n)
   unfold smSy at h4
   simp only[reqP,List.length_map]
   omega
  simp only[Zn,List.length_append]
  omega
theorem rulV_len {r:Rul} (h:rulV r=true):r.right.length≤3:=by
 simp only[rulV,Bool.and_eq_true,decide_eq_true_eq] at h
 exact h.2.2.1
theorem rul_ok {g:Gram} (h:¬0≤sfI g) {j:Nat} (hj:j<g.rules.length):rulV g.rules[j]=true:=by
 have:=(sfI_no h).2 j hj
 rw[rulB_eq hj,Bool.or_eq_false_iff] at this
 simpa using this.1
def cfl (l:List Con):List Exp:=l.flatMap fun c=>[c.goal,c.value]
theorem cfl_len (l:List Con):(cfl l).length = 2 * l.length:=by
 induction l with
 | nil=>rfl
 | cons a l ih=>simp only[cfl,List.flatMap_cons,List.length_append] at ih ⊢;rw[ih];simp;omega
theorem cfl_step {l:List Con} {i:Nat} (h:i<l.length):cfl (l.take (i+1))=cfl (l.take i)++[l[i].goal,l[i].value]:=by
 rw[List.take_add_one,List.getElem?_eq_getElem h,Option.toList_some]
 unfold cfl
 rw[List.flatMap_append]
 simp
theorem expR_eq (r:Rul):expR r=r.eqs.map (·.expr)++cfl r.cons:=rfl
theorem expR_sm {r:Rul} (h:Y8 r):∀e∈expR r,wEx e≤1048576:=by
 intro e he
 rw[expR_eq,List.mem_append] at he
 rcases he with he|he
 ·obtain ⟨q,hq,rfl⟩:=List.mem_map.1 he
  exact h.2.2.2.1 q hq
 ·simp only[cfl,List.mem_flatMap] at he
  obtain ⟨c,hc,he⟩:=he
  have:=h.2.2.2.2 c hc
  simp only[List.mem_cons,List.not_mem_nil,or_false] at he
  rcases he with rfl|rfl
  ·exact this.1
  ·exact this.2
theorem misU_eq (g:Gram) (r:Rul):misU g r=((r.eqs.any fun q=>YI g r q.expr)||r.cons.any fun c=>YI g r c.goal||YI g r c.value):=by
 unfold misU
 rw[expR_eq,List.any_append,List.any_map]
 congr 1
 induction r.cons with
 | nil=>rfl
 | cons a l ih=>
  have:cfl (a::l)=[a.goal,a.value]++cfl l:=rfl
  rw[this,List.any_append,ih]
  simp[Bool.or_assoc]
theorem misU_e {g:Gram} {r:Rul} {i:Nat} (h:i<r.eqs.length) (hb:YI g r r.eqs[i].expr = true):misU g r=true:=by
 rw[misU_eq,any_yes (p:=fun q:Eqn=>YI g r q.expr) h hb,Bool.true_or]
theorem misU_c {g:Gram} {r:Rul} {i:Nat} (h:i<r.cons.length) (hb:YI g r r.cons[i].goal = true∨YI g r r.cons[i].value = true):misU g r=true:=by
 rw[misU_eq,any_yes (p:=fun c:Con=>YI g r c.goal||YI g r c.value) h (by rcases hb with hb|hb<;>simp[hb]),Bool.or_true]
theorem misU_n {g:Gram} {r:Rul} (h1:∀q∈r.eqs,YI g r q.expr=false) (h2:∀c∈r.cons,(YI g r c.goal||YI g r c.value)=false):misU g r=false:=by
 rw[misU_eq,any_no (p:=fun q:Eqn=>YI g r q.expr) h1,any_no (p:=fun c:Con=>YI g r c.goal||YI g r c.value) h2];rfl
theorem misT_e {g:Gram} {r:Rul} {i:Nat} (h:i<r.eqs.length) (hb:¬tyE g r r.eqs[i].expr = (Zp g r r.eqs[i].pos r.eqs[i].name).type):misT g r=true:=by
 unfold misT
 rw[any_yes (p:=fun q:Eqn=> !decide (tyE g r q.expr=(Zp g r q.pos q.name).type)) h (by simp[hb]),Bool.true_or]
def conT (g:Gram) (r:Rul) (c:Con):Bool:= !decide (tyE g r c.goal=4)||(!decide (tyE g r c.value=2) || !decide ((fAtt (Ze g.syms c.sym).atts c.name).mode = 3))
theorem misT_c {g:Gram} {r:Rul} {i:Nat} (h:i<r.cons.length) (hb:conT g r r.cons[i]=true):misT g r=true:=by
 unfold misT
 have:=any_yes (p:=conT g r) h hb
 show (_ || r.cons.any (conT g r))=true
 rw[this,Bool.or_true]
theorem misT_n {g:Gram} {r:Rul} (h1:∀q∈r.eqs,decide (tyE g r q.expr=(Zp g r q.pos q.name).type)=true) (h2:∀c∈r.cons,conT g r c=false):misT g r=false:=by
 unfold misT
 rw[any_no (p:=fun q:Eqn=> !decide (tyE g r q.expr=(Zp g r q.pos q.name).type)) (fun q hq=>by simp only[h1 q hq];rfl)]
 have:=any_no (p:=conT g r) h2
 show (_ || r.cons.any (conT g r))=false
 rw[this];rfl
theorem brF_hit {g:Gram} {i c:Nat} (h:i<g.rules.length) (hb:brk g g.rules[i] c=true) (hn:∀j (hj:j<g.rules.length),j<i→brk g g.rules[j] c=false):brF g c=i:=
 firstI_hit h (by rw[Z3 h];exact hb) (fun j hj=>by rw[Z3 oT];exact hn j oT hj)
theorem brF_none {g:Gram} {c:Nat} (hn:∀j (hj:j<g.rules.length),brk g g.rules[j] c=false):brF g c = -1:=
 X3 (fun j hj=>by rw[Z3 oT];exact hn j oT)
def shpG (g:Gram):Prop:=((1≤g.syms.length∧g.syms.length≤4)∧(1≤g.rules.length∧g.rules.length≤8))∧¬0≤sfI g∧((g.syms.getD 0 symZ).atts.any fun a=>decide (a.mode=1))=false
theorem shpC_hit {g:Gram} (h:shpG g) {c i:Nat} (hc:3≤c) (hc6:c≤6) (hn:∀d,3≤d→d<c→brF g d = -1) (hb:brF g c=i):shpC g=((c:Int),(i:Int)):=by
 obtain ⟨h1,h2,h3⟩:=h
 simp only[shpC]
 rw[if_neg (by simp only[Decidable.not_not];exact h1),if_neg h2,if_neg (by rw[h3];simp)]
 rcases (by omega:c=3∨c=4∨c=5∨c=6) with e|e|e|e<;>subst e
 ·rw[hb,if_pos oT];rfl
 ·rw[hn 3 oT oT,hb,if_neg oT,if_pos oT];rfl
 ·rw[hn 3 oT oT,hn 4 oT oT,hb,if_neg oT,if_neg oT,if_pos oT];rfl
 ·rw[hn 3 oT oT,hn 4 oT oT,hn 5 oT oT,hb,if_neg oT,if_neg oT,if_neg oT,if_pos oT];rfl
theorem shpC_none {g:Gram} (h:shpG g) (hn:∀d,3≤d→d<7→brF g d = -1):shpC g=(0,0):=by
 obtain ⟨h1,h2,h3⟩:=h
 simp only[shpC]
 rw[if_neg (by simp only[Decidable.not_not];exact h1),if_neg h2,if_neg (by rw[h3];simp),hn 3 oT oT,hn 4 oT oT,hn 5 oT oT,hn 6 oT oT]
 rfl
theorem shpC_b1 {g:Gram} (h:¬((1≤g.syms.length∧g.syms.length≤4)∧(1≤g.rules.length∧g.rules.length≤8))):shpC g=(1,0):=by
 simp only[shpC];rw[if_pos h]
theorem shpC_b2 {g:Gram} (h1:(1≤g.syms.length∧g.syms.length≤4)∧(1≤g.rules.length∧g.rules.length≤8)) (h:0≤sfI g):shpC g=(1,sfI g):=by
 simp only[shpC];rw[if_neg (by simp only[Decidable.not_not];exact h1),if_pos h]
theorem shpC_b3 {g:Gram} (h1:(1≤g.syms.length∧g.syms.length≤4)∧(1≤g.rules.length∧g.rules.length≤8)) (h2:¬0≤sfI g) (h:((g.syms.getD 0 symZ).atts.any fun a=>decide (a.mode=1))=true):shpC g=(2,0):=by
 simp only[shpC];rw[if_neg (by simp only[Decidable.not_not];exact h1),if_neg h2,if_pos h]
theorem shpC_ok {g:Gram} (h:(shpC g).1 = 0):shpG g:=by
 unfold shpG
 by_cases h1:(1≤g.syms.length∧g.syms.length≤4)∧(1≤g.rules.length∧g.rules.length≤8)
 ·refine ⟨h1,?_⟩
  by_cases h2:0≤sfI g
  ·rw[shpC_b2 h1 h2] at h;simp at h
  ·refine ⟨h2,?_⟩
   cases h3:(g.syms.getD 0 symZ).atts.any fun a=>decide (a.mode=1) with
   | false=>rfl
   | true=>rw[shpC_b3 h1 h2 h3] at h;simp at h
 ·rw[shpC_b1 h1] at h;simp at h
theorem ix_syms {g:Gram} (hs:∀j,j<g.syms.length→symB g j=false) {i:Nat} (h:i<g.syms.length):Zg (fun s:Sym=>decide (s.name=g.syms[i].name)) g.syms=i:=by
 refine Yx h (by simp) fun a ha=> ?_
 have:=hs i h
 rw[symB_eq h,Bool.or_eq_false_iff,List.any_eq_false] at this
 simpa using this.2 a ha
theorem minH_at {g:Gram} (hs:∀j,j<g.syms.length→symB g j=false) {i:Nat} (h:i<g.syms.length):minH g g.syms[i].name = (hgts g).getD i 0:=by
 simp only[minH,hOf,ix_syms hs h]
 rw[if_neg oT]
 simp
theorem hgts_len (g:Gram):(hgts g).length = g.syms.length:=hIt_len g _
theorem hgts_nn (g:Gram):∀x∈hgts g,0≤x:=hIt_nn g _
theorem tyF_hit {g:Gram} {i:Nat} (h:i<g.rules.length) (hb:misT g g.rules[i]=true) (hn:∀j (hj:j<g.rules.length),j<i→misT g g.rules[j]=false):tyF g=i:=
 firstI_hit h (by rw[Z3 h];exact hb) (fun j hj=>by rw[Z3 oT];exact hn j oT hj)
theorem tyF_none {g:Gram} (hn:∀j (hj:j<g.rules.length),misT g g.rules[j]=false):tyF g = -1:=
 X3 (fun j hj=>by rw[Z3 oT];exact hn j oT)
theorem emF_hit {g:Gram} {i:Nat} (h:i<g.syms.length) (hb:(hgts g).getD i 0=0) (hn:∀j,j<i→¬(hgts g).getD j 0=0):emF g=i:=
 firstI_hit h (by simpa using hb) (fun j hj=>by simpa using hn j hj)
theorem emF_none {g:Gram} (hn:∀j,j<g.syms.length→¬(hgts g).getD j 0=0):emF g = -1:=
 X3 (fun j hj=>by simpa using hn j hj)
theorem chkG_1 {g:Gram} (h:(shpC g).1 ≠ 0):chkG g=shpC g:=by simp only[chkG];rw[if_pos h]
theorem chkG_2 {g:Gram} (h:(shpC g).1 = 0) {i:Nat} (h2:tyF g=i):chkG g=(7,(i:Int)):=by
 simp only[chkG];rw[if_neg (by simpa using h),h2,if_pos oT]
theorem chkG_3 {g:Gram} (h:(shpC g).1 = 0) (h1:tyF g = -1) {i:Nat} (h2:emF g=i):chkG g=(8,(i:Int)):=by
 simp only[chkG];rw[if_neg (by simpa using h),h1,h2,if_neg oT,if_pos oT]
theorem chkG_4 {g:Gram} (h:(shpC g).1 = 0) (h1:tyF g = -1) (h2:emF g = -1):chkG g=(0,0):=by
 simp only[chkG];rw[if_neg (by simpa using h),h1,h2,if_neg oT,if_neg oT]
end Go.Gh
namespace Go.Gh
def ltr:Nat→ByteArray
 | 0=>ByteArray.mk #[97]
 | 1=>ByteArray.mk #[98]
 | 2=>ByteArray.mk #[99]
 | _ => ByteArray.mk #[100]
def drA (i:Nat) (a:Att):Prop:=a.name=ltr i∧(1≤a.type∧a.type≤4)∧(1≤a.mode∧a.mode≤3)∧a.circ=false
def drL (l:List Att):Prop:=∀i (h:i<l.length),drA i l[i]
def drS (s:Sym):Prop:=shT s.name∧1≤s.atts.length∧s.atts.length≤4∧drL s.atts
theorem ltr_sh:∀i,shT (ltr i)
 | 0=>by decide
 | 1=>by decide
 | 2=>by decide
 | _ + 3=>by show shT (ByteArray.mk #[100]);decide
theorem drL_nil:drL []:=fun i h=>by simp at h
theorem drL_app {l:List Att} {a:Att} (h:drL l) (ha:drA l.length a):drL (l++[a]):=fun i hi=>by
 simp only[List.length_append,List.length_cons,List.length_nil] at hi
 rcases Nat.lt_or_ge i l.length with h1|h1
 ·rw[List.getElem_append_left h1];exact h i h1
 ·obtain rfl:i=l.length:=by omega
  simpa using ha
theorem drS_sh {s:Sym} (h:drS s):shSy s:=⟨h.1,h.2.1,by have:=h.2.2.1;omega,fun a ha=>by
 obtain ⟨i,hi,rfl⟩:=List.mem_iff_getElem.1 ha
 rw[(h.2.2.2 i hi).1]
 exact ltr_sh i⟩
theorem ltr_get (i:Nat) (h:i<([T (ByteArray.mk #[97]),T (ByteArray.mk #[98]),T (ByteArray.mk #[99]),T (ByteArray.mk #[100])]:List GV).length) :
 ([T (ByteArray.mk #[97]),T (ByteArray.mk #[98]),T (ByteArray.mk #[99]),T (ByteArray.mk #[100])]:List GV)[i]'h = T (ltr i):=by
 have:i=0∨i=1∨i=2∨i=3:=by simp at h;omega
 rcases this with rfl|rfl|rfl|rfl<;>rfl
theorem nxAtt {ι:Type} {E:ι→Env} {G:ι→GH} {μ:ι→Nat} {i:ι} {e:Env} {q:Nat} {X:List GV} {nm:ByteArray} {t m:Int} {R:GH} (h:∀a:Att,a=⟨nm,t,m,false⟩→Nx E G μ i e ((q,4,X++[At a])::R)) :
 Nx E G μ i e ((q,4,X++[.agg [T nm,I t,I m,B false]])::R):=h _ rfl
abbrev GrX (g:Gram) (X:GV):GV:= .agg [SyS g.syms,X]
abbrev RuX (r:Rul) (Y Z:GV):GV:= .agg [T r.name,T r.left,TS r.right,B r.lit,Y,Z]
def ofT (kind:Int) (pos:Nat) (a:Att):Bool:=decide (a.type=kind∧a.mode=if pos=0 then 1 else 2)
def ofP (g:Gram) (r:Rul) (kind:Int) (pos:Nat):List Oc:=((Ze g.syms (Zu r pos)).atts.filter (ofT kind pos)).map fun a=>((pos:Int),a.name)
def ofA (g:Gram) (r:Rul) (kind:Int):Nat→List Oc
 | 0=>[]
 | n+1=>ofA g r kind n++ofP g r kind n
def ofO (g:Gram) (r:Rul) (kind:Int):List Oc:=ofA g r kind (r.right.length+1)
theorem ofP_take {p:Att→Bool} {pos:Nat} (l:List Att) {i:Nat} (h:i<l.length) :
 (((l.take (i+1)).filter p).map fun a=>((pos:Int),a.name))=(((l.take i).filter p).map fun a=>((pos:Int),a.name))++(if p l[i]=true then [((pos:Int),l[i].name)] else []):=by
 rw[List.take_add_one,List.getElem?_eq_getElem h,List.filter_append,List.map_append]
 by_cases e:p l[i]=true<;>simp[e]
theorem ofA_len {g:Gram} (hg:ZA g) (r:Rul) (kind:Int):∀n,(ofA g r kind n).length ≤ n * 1048576
 | 0=>by simp[ofA]
 | n+1=>by
  have h1:=ofA_len hg r kind n
  have h2:(ofP g r kind n).length ≤ 1048576:=by
   have h3:=List.length_filter_le (ofT kind n) (Ze g.syms (Zu r n)).atts
   have h4:=Yd hg (Zu r n)
   unfold smSy at h4
   simp only[ofP,List.length_map]
   omega
  simp only[ofA,List.length_append]
  omega
theorem fSym_sh {l:List Sym} (h:∀s∈l,shSy s) (n:ByteArray):∀a∈(Ze l n).atts,shT a.name:=by
 rcases fSym_mem l n with h1|h1
 ·exact (h _ h1).2.2.2
 ·rw[h1];simp[symZ]
theorem ofA_sh {g:Gram} (h:∀s∈g.syms,shSy s) (r:Rul) (kind:Int):∀n,∀o∈ofA g r kind n,shT o.2
 | 0,o,ho=>by simp[ofA] at ho
 | n+1,o,ho=>by
  simp only[ofA,List.mem_append] at ho
  rcases ho with ho|ho
  ·exact ofA_sh h r kind n o ho
  ·simp only[ofP,List.mem_map,List.mem_filter] at ho
   obtain ⟨a,⟨ha,_⟩,rfl⟩:=ho
   exact fSym_sh h _ a ha
theorem reqA_sh {g:Gram} (h:∀s∈g.syms,shSy s) (r:Rul):∀n,∀o∈Zn g r n,shT o.2
 | 0,o,ho=>by simp[Zn] at ho
 | n+1,o,ho=>by
  simp only[Zn,List.mem_append] at ho
  rcases ho with ho|ho
  ·exact reqA_sh h r n o ho
  ·simp only[reqP,List.mem_map,List.mem_filter] at ho
   obtain ⟨a,⟨ha,_⟩,rfl⟩:=ho
   exact fSym_sh h _ a ha
theorem callA.ex {P:Program} {f:FuncId} {gs:List GV} {R:GV→GH→Prop} {K:Env→GH→Prop} {is:List GI} {env:Env} {H:GH} {d:Option Nat} (h:GCalls P f gs H (fun g H'=>∃H1,R g H1∧H'=H1++H))
 (hk:∀g H1,R g H1→(names (H1++H)).Nodup → ZY P is K (gput env d g) (H1++H)):callA P f (some gs) d is K env H:=⟨R,h,hk⟩
end Go.Gh
namespace Go.Gh
abbrev RuB (r:Rul) (b:Bool) (Y Z:GV):GV:= .agg [T r.name,T r.left,TS r.right,B b,Y,Z]
theorem ofA_lit (g:Gram) (r:Rul) (b:Bool) (kind:Int):∀n,ofA g { r with lit:=b } kind n=ofA g r kind n
 | 0=>rfl
 | n+1=>by simp only[ofA,ofA_lit g r b kind n];rfl
theorem ofO_lit (g:Gram) (r:Rul) (b:Bool) (kind:Int):ofO g { r with lit:=b } kind=ofO g r kind:=ofA_lit g r b kind _
theorem smRu_lit {r:Rul} (h:Y8 r) (b:Bool):Y8 { r with lit:=b }:=h
theorem names_nd2 {w rc:Nat} {x y:Nat×List GV} {H:GH} (h:(names ([(w,x)]++(rc,y)::H)).Nodup):¬w=rc:=fun e=>by
 subst e
 simp[names] at h
theorem fin_if {d:Nat} {a b c:Exp} {q rc:Nat} {H:GH} (ha:shD d a) (hb:shD d b) (hc:shD d c) (hne:¬q=rc) :
 ∃G T L,(∃e,shD (d+1) e∧G=Ex e)∧Bor L (.agg [I 5,I 0,I 0,I 0,Gh.T noS,Gh.T noS,.own q 7 0 3]) G∧(q,7,[Ex a,Ex b,Ex c])::(rc,3,[GV.cur])::H=T++H∧subH T (L++[(rc,3,[GV.cur])]):=
 ⟨_,[_,_],[(q,7,[Ex a,Ex b,Ex c])],⟨.mk 5 0 0 0 noS noS [a,b,c],shD_node (by decide) (by decide) (by simp) (by simp[ha,hb,hc]),rfl⟩,bor_ExV (l:=[a,b,c]) ZX rfl,rfl,by simp[subH,ZU,names,hne]⟩
end Go.Gh
namespace Go.Gh
theorem fSym_len5 {l:List Sym} (h:∀s∈l,shSy s) (n:ByteArray):(Ze l n).atts.length ≤ 5:=by
 rcases fSym_mem l n with h1|h1
 ·exact (h _ h1).2.2.1
 ·rw[h1];simp[symZ]
theorem reqA_len5 {g:Gram} (h:∀s∈g.syms,shSy s) (r:Rul):∀n,(Zn g r n).length ≤ n * 5
 | 0=>by simp[Zn]
 | n+1=>by
  have h1:=reqA_len5 h r n
  have h2:(reqP g r n).length ≤ 5:=by
   have h3:=List.length_filter_le (fun a:Att=>decide (a.mode=if n=0 then 2 else 1)) (Ze g.syms (Zu r n)).atts
   have h4:=fSym_len5 h (Zu r n)
   simp only[reqP,List.length_map]
   omega
  simp only[Zn,List.length_append]
  omega
abbrev QnN (p:Int) (m:ByteArray) (e:Exp):GV:= .agg [I p,T m,I e.kind,I e.n,I e.pos,I e.type,T e.sym,T e.name,.val (.slice none 0 0)]
theorem MV.qnn {p:Int} {m:ByteArray} {e:Exp} (h:e.args=[]):∀w D v F,MV w D (QnN p m e) v F→MV w D (Qn ⟨p,m,e⟩) v F:=fun w D v F hm=>by
 have:=MV.fld (j:=8) (g':= .sl 7 []) rfl MV.nil_sl v F hm
 show MV w D (.agg [I p,T m,I e.kind,I e.n,I e.pos,I e.type,T e.sym,T e.name,.sl 7 (e.args.map Ex)]) v F
 rw[h]
 exact this
theorem FE.qn {env:Env} {q:Nat} {L:List GV} {p:Int} {m:ByteArray} {e:Exp} {H:GH} (h:e.args=[]):FE env ((q,9,L++[QnN p m e])::H) env ((q,9,L++[Qn ⟨p,m,e⟩])::H):=by
 have:=FE.exch (env:=env) (H:=(q,9,L++[QnN p m e])::H) (r:=q) (sz:=9) (i:=L.length) (es:=L++[QnN p m e]) (e:=QnN p m e) (e':=Qn ⟨p,m,e⟩) (by simp[ZU]) (by simp) (MV.qnn h)
 simpa[ZG] using this
end Go.Gh
namespace Go.Gh
def rchP (g:Gram) (out:List Int) (s:ByteArray) (r:Rul) (k:Nat):Bool:=decide (r.left=s)&&(r.right.take k).all fun c=>decide (0<hOf g out c)
theorem rchP_step {g:Gram} {out:List Int} {s:ByteArray} {r:Rul} {k:Nat} (h:k<r.right.length):rchP g out s r (k+1)=(rchP g out s r k&&decide (0<hOf g out r.right[k])):=by
 unfold rchP
 rw[List.take_add_one,List.getElem?_eq_getElem h,Option.toList_some,List.all_append,Bool.and_assoc]
 simp
theorem rchP_end (g:Gram) (out:List Int) (s:ByteArray) (r:Rul):rchP g out s r r.right.length=rchR g out s r:=by
 unfold rchP rchR
 rw[List.take_length]
theorem hNext_eq {g:Gram} {k i:Nat} (h:i<g.syms.length):(hIt g (k+1)).getD i 0=hNext g ((k:Int)+1) (hIt g k) i:=by
 rw[Z3 (by rw[hIt_len];exact h)]
 simp[hIt]
def nxt (g:Gram) (k i:Nat) (Y:List Int):Prop:=Y.length=g.syms.length∧∀j,j<g.syms.length→Y.getD j 0=if j<i then (hIt g (k+1)).getD j 0 else (hIt g k).getD j 0
theorem nxt_0 (g:Gram) (k:Nat):nxt g k 0 (hIt g k):=⟨hIt_len g k,fun j hj=>by simp⟩
theorem nxt_n {g:Gram} {k:Nat} {Y:List Int} (h:nxt g k g.syms.length Y):Y=hIt g (k+1):=by
 refine List.ext_getElem (by rw[h.1,hIt_len]) fun j h1 h2=> ?_
 have h3:=h.1
 have:=h.2 j oT
 rw[if_pos oT,Z3 h1,Z3 h2] at this
 exact this
theorem nxt_keep {g:Gram} {k i:Nat} {Y:List Int} (h:nxt g k i Y) (hi:i<g.syms.length) (he:hNext g ((k:Int)+1) (hIt g k) i=(hIt g k).getD i 0):nxt g k (i+1) Y:=by
 refine ⟨h.1,fun j hj=> ?_⟩
 rw[h.2 j hj]
 by_cases e:j=i
 ·subst e
  rw[if_neg oT,if_pos oT,hNext_eq hi,he]
 ·by_cases e2:j<i
  ·rw[if_pos e2,if_pos oT]
  ·rw[if_neg e2,if_neg oT]
theorem nxt_set {g:Gram} {k i:Nat} {Y:List Int} {v:Int} (h:nxt g k i Y) (hi:i<g.syms.length) (he:hNext g ((k:Int)+1) (hIt g k) i=v):nxt g k (i+1) (Y.set i v):=by
 have h1:=h.1
 refine ⟨by rw[List.length_set];exact h.1,fun j hj=> ?_⟩
 rw[Z3 (by rw[List.length_set];omega),List.getElem_set]
 by_cases e:i=j
 ·subst e
  rw[if_pos rfl,if_pos oT,hNext_eq hi,he]
 ·rw[if_neg e,←Z3 (d:=0) oT,h.2 j hj]
  by_cases e2:j<i
  ·rw[if_pos e2,if_pos oT]
  ·rw[if_neg e2,if_neg oT]
theorem soT_E2 (a b:Exp):soT (some (7,[Ex a,Ex b])) 7 7 0 2=some [Ex a,Ex b]:=by
 simp[soT,YH,clean_Ex]
theorem soT_I {l:List Int} {n:Nat} (h:l.length=n):soT (some (1,l.map I)) 1 1 0 n=some (l.map I):=by
 subst h
 have hc:YH (l.map I)=true:=by
  induction l with
  | nil=>rfl
  | cons a l ih=>simp only[List.map_cons,YH,ih];rfl
 simp only[soT,List.drop_zero,List.length_map,Nat.zero_add,Nat.le_refl,true_and]
 rw[List.take_of_length_le (by simp),hc];simp
end Go.Gh
namespace Go.Gh
def drG (g:Gram):Prop:=shGr g∧(∀s∈g.syms,drS s)∧g.rules.length≤8∧∀r∈g.rules,r.right.length≤3
theorem drG_sm {g:Gram} (h:drG g):ZA g:=shGr_sm h.1
theorem drG_ok {g:Gram} (h:drG g):okGr g:=shGr_ok h.1
theorem drG_len {g:Gram} (h:drG g):1≤g.syms.length∧g.syms.length≤3:=⟨h.1.1.1,h.1.1.2.1⟩
def hAt (g:Gram) (s:ByteArray):Int:=(hgts g).getD (max 0 (Zg (fun y:Sym=>decide (y.name=s)) g.syms)).toNat 0
theorem hIt_rng (g:Gram):∀k i,0≤(hIt g k).getD i 0∧(hIt g k).getD i 0≤k
 | 0,i=>by
  simp only[hIt,List.getD_eq_getElem?_getD,List.getElem?_replicate]
  split<;>simp
 | k+1,i=>by
  rcases Nat.lt_or_ge i g.syms.length with h|h
  ·have:=hIt_rng g k i
   simp only[hIt]
   rw[Z3 (by simpa using h),List.getElem_map,List.getElem_range]
   unfold hNext
   split
   ·omega
   ·split<;>omega
  ·rw[List.getD_eq_getElem?_getD,List.getElem?_eq_none (by rw[hIt_len];exact h)]
   simp;omega
theorem hAt_rng (g:Gram) (s:ByteArray):0≤hAt g s∧hAt g s≤g.syms.length:=hIt_rng g _ _
def lowR (g:Gram) (s:ByteArray) (r:Rul):Prop:=∀c∈r.right,hAt g c<hAt g s
def lowB:Nat→Nat
 | 0=>1
 | h+1=>1+3 * lowB h
def grB (room:Int):Nat:=if room<5 then 40 else 41 * room.toNat
theorem lowB_mono {a b : Nat} (h : a ≤ b) : lowB a ≤ lowB b := by
  induction b with
  | zero => obtain rfl : a = 0 := by omega
            exact Nat.le_refl _
  | succ b ih =>
    rcases Nat.lt_or_ge a (b + 1) with h1 | h1
    · have := ih oT
      simp only [lowB]; omega
    · obtain rfl : a = b + 1 := by omega
      exact Nat.le_refl _
theorem lowB_le {h:Nat} (h3:h≤3):lowB h≤40:=lowB_mono h3
theorem grB_step {room:Int} {n:Nat} (hr:5≤room) (hn:n≤3):1+n * grB (room.tdiv (max 1 n)-1)≤grB room:=by
 have h0:n=0∨n=1∨n=2∨n=3:=by omega
 have hb:∀x:Int,(x<5∧grB x=40)∨(5≤x∧grB x=41 * x.toNat):=fun x=>by
  unfold grB;split<;>omega
 rcases hb room with h1|⟨_,h1⟩
 ·omega
 ·rw[h1]
  rcases h0 with rfl|rfl|rfl|rfl
  ·omega
  ·rcases hb (room.tdiv (max 1 (1:Nat))-1) with ⟨h2,h3⟩|⟨h2,h3⟩<;>rw[h3]<;>simp at * <;> omega
  ·have h4:room.tdiv (max 1 ((2:Nat):Int))=room / 2:=by rw[Int.tdiv_eq_ediv_of_nonneg oT];rfl
   rcases hb (room.tdiv (max 1 ((2:Nat):Int))-1) with ⟨h2,h3⟩|⟨h2,h3⟩<;>rw[h3]<;>rw[h4] at * <;> omega
  ·have h4:room.tdiv (max 1 ((3:Nat):Int))=room / 3:=by rw[Int.tdiv_eq_ediv_of_nonneg oT];rfl
   rcases hb (room.tdiv (max 1 ((3:Nat):Int))-1) with ⟨h2,h3⟩|⟨h2,h3⟩<;>rw[h3]<;>rw[h4] at * <;> omega
def drN (x:Nod):Prop:=x.kids.length≤3∧shT x.rule
theorem sum_bnd {c:Nat}:∀l:List (List Nod),(∀t∈l,t.length≤c)→(l.map (·.length)).sum ≤ l.length * c
 | [],_ => by simp
 | t::l,h=>by
  have h1:=sum_bnd l fun t ht=>h t (by simp[ht])
  have h2:=h t (by simp)
  simp only[List.map_cons,List.sum_cons,List.length_cons,Nat.succ_mul]
  omega
theorem sum_take {l:List (List Nod)} {k:Nat} (h:k<l.length):((l.take (k+1)).map (·.length)).sum = ((l.take k).map (·.length)).sum + l[k].length := by
 rw[List.take_add_one,List.getElem?_eq_getElem h,List.map_append,List.sum_append]
 rfl
end Go.Gh
namespace Go.Gh
abbrev CoN (s m:ByteArray) (e f:Exp):GV:= .agg [T s,T m,I e.kind,I e.n,I e.pos,I e.type,T e.sym,T e.name,.val (.slice none 0 0),I f.kind,I f.n,I f.pos,I f.type,T f.sym,T f.name,.val (.slice none 0 0)]
theorem MV.con {s m:ByteArray} {e f:Exp} (he:e.args=[]) (hf:f.args=[]):∀w D v F,MV w D (CoN s m e f) v F→MV w D (Co ⟨s,m,e,f⟩) v F:=fun w D v F hm=>by
 have h1:=MV.fld (j:=15) (g':= .sl 7 []) rfl MV.nil_sl v F hm
 have h2:=MV.fld (j:=8) (g':= .sl 7 []) rfl MV.nil_sl v F h1
 show MV w D (.agg [T s,T m,I e.kind,I e.n,I e.pos,I e.type,T e.sym,T e.name,.sl 7 (e.args.map Ex),I f.kind,I f.n,I f.pos,I f.type,T f.sym,T f.name,.sl 7 (f.args.map Ex)]) v F
 rw[he,hf]
 exact h2
theorem FE.con {env:Env} {q:Nat} {L:List GV} {s m:ByteArray} {e f:Exp} {H:GH} (he:e.args=[]) (hf:f.args=[]):FE env ((q,16,L++[CoN s m e f])::H) env ((q,16,L++[Co ⟨s,m,e,f⟩])::H):=by
 have:=FE.exch (env:=env) (H:=(q,16,L++[CoN s m e f])::H) (r:=q) (sz:=16) (i:=L.length) (es:=L++[CoN s m e f]) (e:=CoN s m e f) (e':=Co ⟨s,m,e,f⟩) (by simp[ZU]) (by simp) (MV.con he hf)
 simpa[ZG] using this
def shCo (c:Con):Prop:=shT c.sym∧shT c.name∧shEx c.goal∧shEx c.value
end Go.Gh
namespace Go.Gh
abbrev Zy:GV:= .val (.slice none 0 0)
abbrev Ru0 (r:Rul):GV:=RuX r Zy Zy
theorem view_Co (c:Con):view (Co c)=Co c:=by
 have:∀l:List Exp,(l.map Ex).map view=l.map Ex:=fun l=>by rw[List.map_map];exact List.map_congr_left fun a _ => view_Ex a
 simp[view,Zc,Zr,this]
theorem view_Qn (c:Eqn):view (Qn c)=Qn c:=by
 have:∀l:List Exp,(l.map Ex).map view=l.map Ex:=fun l=>by rw[List.map_map];exact List.map_congr_left fun a _ => view_Ex a
 simp[view,Zc,Zr,this]
theorem Y1 {α:Type} {f:α→GV} (h:∀a,view (f a)=f a) (l:List α):(l.map f).map view=l.map f:=by
 rw[List.map_map];exact List.map_congr_left fun a _ => h a
theorem view_Sy (s:Sym):view (Sy s)=Sy s:=by
 have:=Y1 (f:=At) (fun a=>rfl) s.atts
 simp[view,Zc,Zr,this]
theorem view_Ru0 (r:Rul):view (Ru0 r)=Ru0 r:=by
 have:=Y1 (f:=T) (fun a=>rfl) r.right
 simp[view,Zc,Zr,this]
theorem view_Ru (r:Rul):view (Ru r)=Ru r:=by
 have h1:=Y1 (f:=T) (fun a=>rfl) r.right
 have h2:=Y1 view_Qn r.eqs
 have h3:=Y1 view_Co r.cons
 simp only[view,Zc,Zr,h1,h2,h3]
theorem FE.symF {env:Env} {q rg n:Nat} {l:List Sym} {H:GH} (hne:¬rg=q) (hl:l.length=n):FE env ((q,2,l.map Sy)::(rg,2,[.agg [.own q 2 0 n,Zy]])::H) env ((rg,2,[.agg [SyS l,Zy]])::H):=by
 have h1:=FE.close (env:=env) (H:=(q,2,l.map Sy)::(rg,2,[.agg [.own q 2 0 n,Zy]])::H) (r:=rg) (r1:=q) (i:=0) (j:=0) hne (by simp[ZU,Ne.symm hne];exact ⟨rfl,rfl⟩) rfl rfl ZX (by simpa using hl)
 have e:Zj (ZG ((q,2,l.map Sy)::(rg,2,[.agg [.own q 2 0 n,Zy]])::H) rg ([GV.agg [.own q 2 0 n,Zy]].set 0 (.agg ([GV.own q 2 0 n,Zy].set 0 (.osl 2 (l.map Sy)))))) q=(rg,2,[.agg [.osl 2 (l.map Sy),Zy]])::H:=by
  simp[ZG,Zj,Ne.symm hne]
 rw[e] at h1
 refine FE.trans h1 (FE.frzV ?_)
 have:=Y1 view_Sy l
 simp only[Zc,view,Zr,this]
theorem FE.leaf {env:Env} {q:Nat} {L:List Rul} {a b:ByteArray} {c:Bool} {H:GH}:FE env ((q,6,L.map Ru0++[.agg [T a,T b,Zy,B c,Zy,Zy]])::H) env ((q,6,(L++[(⟨a,b,[],c,[],[]⟩:Rul)]).map Ru0)::H):=by
 have:=FE.exch (env:=env) (H:=(q,6,L.map Ru0++[.agg [T a,T b,Zy,B c,Zy,Zy]])::H) (r:=q) (sz:=6) (i:=L.length) (es:=L.map Ru0++[.agg [T a,T b,Zy,B c,Zy,Zy]]) (e:= .agg [T a,T b,Zy,B c,Zy,Zy]) (e':=Ru0 (⟨a,b,[],c,[],[]⟩:Rul)) (by simp[ZU]) (by simp)
  fun w D v F hm=>MV.fld (j:=2) (g':= .sl 1 []) rfl MV.nil_sl v F hm
 have e:(L.map Ru0++[GV.agg [T a,T b,Zy,B c,Zy,Zy]]).set L.length (Ru0 (⟨a,b,[],c,[],[]⟩:Rul))=(L++[(⟨a,b,[],c,[],[]⟩:Rul)]).map Ru0:=by
  rw[List.set_append_right _ _ (by simp)];simp
 rw[e] at this
 simpa[ZG] using this
theorem FE.ruF {env:Env} {q q3 n:Nat} {L:List Rul} {a b:ByteArray} {rs:List ByteArray} {c:Bool} {H:GH} (hne:¬q=q3) (hn:rs.length=n) :
 FE env ((q,6,L.map Ru0++[.agg [T a,T b,.own q3 1 0 n,B c,Zy,Zy]])::(q3,1,rs.map T)::H) env ((q,6,(L++[(⟨a,b,rs,c,[],[]⟩:Rul)]).map Ru0)::H):=by
 refine FE.trans (FE.closeL2 (L:=L.map Ru0) (j:=2) hne rfl (by simpa using hn)) (FE.frzV ?_)
 have h1:=Y1 view_Ru0 L
 have h2:=Y1 (f:=T) (fun a=>rfl) rs
 rw[Zr,List.map_append,h1,List.map_append]
 simp only[List.map_cons,List.map_nil,List.set,view,Zr,h2]
theorem viewL_set {es:List GV} {i:Nat} {x y:GV} (h:es.map view=es) (hx:view x=y):Zc (es.set i x)=es.set i y:=by
 rw[Zr,List.map_set,h,hx]
theorem FE.ruQ {env:Env} {q q1 n:Nat} {es:List GV} {i:Nat} {r:Rul} {qs:List Eqn} {H:GH} (hne:q1≠q) (hi:i<es.length) (hes:es.map view=es) (hn:qs.length=n) :
 FE env ((q1,9,qs.map Qn)::(q,6,es.set i (RuX r (.own q1 9 0 n) Zy))::H) env ((q,6,es.set i (Ru { r with eqs:=qs,cons:=[] }))::H):=by
 refine FE.trans (FE.close2 (L:=es) (i:=i) (j:=4) hne hi rfl (by simpa using hn)) (FE.trans (FE.frzV (viewL_set hes (y:=RuX r (QnS qs) Zy) ?_)) ?_)
 ·have h1:=Y1 (f:=T) (fun a=>rfl) r.right
  have h2:=Y1 view_Qn qs
  simp only[List.set,view,Zr,List.map_cons,List.map_nil,h1,h2]
 ·have:=FE.exch (env:=env) (H:=(q,6,es.set i (RuX r (QnS qs) Zy))::H) (r:=q) (sz:=6) (i:=i) (es:=es.set i (RuX r (QnS qs) Zy)) (e:=RuX r (QnS qs) Zy) (e':=Ru { r with eqs:=qs,cons:=[] }) (by simp[ZU]) (by simp[hi])
   fun w D v F hm=>MV.fld (j:=5) (g':= .sl 16 []) rfl MV.nil_sl v F hm
  rw[List.set_set] at this
  simpa[ZG] using this
theorem FE.ruP {env:Env} {q q1 q2 n m:Nat} {es:List GV} {i:Nat} {r:Rul} {qs:List Eqn} {cs:List Con} {H:GH} (hne:q1≠q) (hne2:q2≠q) (hne3:q2≠q1) (hi:i<es.length) (hes:es.map view=es) (hn:qs.length=n) (hm:cs.length=m) :
 FE env ((q2,16,cs.map Co)::(q1,9,qs.map Qn)::(q,6,es.set i (RuX r (.own q1 9 0 n) (.own q2 16 0 m)))::H) env ((q,6,es.set i (Ru { r with eqs:=qs,cons:=cs }))::H):=by
 refine FE.trans (FE.perm (H:=[_,_,_]) (L:=[(q1,9,qs.map Qn),(q,6,es.set i (RuX r (.own q1 9 0 n) (.own q2 16 0 m))),(q2,16,cs.map Co)]) (by simp[subH,ZU,names,hne,hne2,hne3,Ne.symm hne,Ne.symm hne2,Ne.symm hne3])) ?_
 refine FE.trans (FE.close2 (L:=es) (i:=i) (j:=4) hne hi rfl (by simpa using hn)) ?_
 refine FE.trans (FE.perm (H:=[_,_]) (L:=[(q2,16,cs.map Co),(q,6,es.set i (.agg [T r.name,T r.left,TS r.right,B r.lit,.osl 9 (qs.map Qn),.own q2 16 0 m]))]) (by simp[subH,ZU,names,hne,hne2,hne3,Ne.symm hne,Ne.symm hne2,Ne.symm hne3])) ?_
 refine FE.trans (FE.close2 (L:=es) (i:=i) (j:=5) hne2 hi rfl (by simpa using hm)) (FE.frzV (viewL_set hes ?_))
 have h1:=Y1 (f:=T) (fun a=>rfl) r.right
 have h2:=Y1 view_Qn qs
 have h3:=Y1 view_Co cs
 simp only[List.set,view,Zr,List.map_cons,List.map_nil,h1,h2,h3]
def shR0 (r:Rul):Prop:=shT r.name∧shT r.left∧r.right.length≤3∧∀s∈r.right,shT s
theorem shR0_sm {r:Rul} (h:shR0 r):Y8 { r with eqs:=[],cons:=[] }:=⟨by have:=h.2.2.1;show r.right.length ≤ _;omega,by simp,by simp,by simp,by simp⟩
theorem mkS_size (l:List UInt8):∃s:ByteArray,GV.val (mkS l)=T s∧s.size=l.length:=⟨⟨l.toArray⟩,rfl,by show l.toArray.size = _;simp⟩
theorem rul_mid {D L:List Rul} {j:Nat} (hD:D.length=j) (hj:j<L.length):∃es:List GV,D.map Ru++(L.drop j).map Ru0=es∧es.length=L.length∧(∀h:j<es.length,es[j]=Ru0 L[j])∧es.map view=es ∧
 ∀r:Rul,es.set j (Ru r)=(D++[r]).map Ru++(L.drop (j+1)).map Ru0:=by
 refine ⟨_,rfl,?_,?_,?_,?_⟩
 ·simp;omega
 ·intro h
  rw[List.getElem_append_right (by simp;omega)]
  simp[hD]
 ·rw[List.map_append,Y1 view_Ru,Y1 view_Ru0]
 ·intro r
  rw[List.set_append_right _ _ (by simp;omega),List.drop_eq_getElem_cons hj]
  simp only[List.map_cons,List.length_map,hD,Nat.sub_self,List.set_cons_zero,List.map_append,List.map_nil,List.append_assoc,List.singleton_append]
theorem bor_rul {q n:Nat} {l:List Sym} {D:List Rul} {X:List GV} (h:D.length=n):Bor [(q,6,D.map Ru++X)] (.agg [SyS l,.own q 6 0 n]) (Gr ⟨l,D⟩):=by
 have h1:=Bor.own (H:=[(q,6,D.map Ru++X)]) (r:=q) (sz:=6) (k:=0) (n:=n) (es:=D.map Ru++X) ZX (by simp;omega)
 have e:Zc (((D.map Ru++X).drop 0).take n)=D.map Ru:=by
  rw[List.drop_zero,List.take_append_of_le_length (by simp;omega),List.take_of_length_le (by simp;omega),Zr,Y1 view_Ru]
 rw[e] at h1
 exact .agg (.cons .refl (.cons h1 .nil))
theorem drG_of {l:List Sym} {D:List Rul} (h1:1≤l.length) (h3:l.length≤3) (hd:∀s∈l,drS s) (k1:1≤D.length) (k2:D.length≤8) (hr:∀r∈D,shRu r∧r.right.length≤3):drG ⟨l,D⟩:=
 ⟨⟨⟨h1,h3,fun s hs=>drS_sh (hd s hs)⟩,k1,by show D.length≤16;omega,fun r h=>(hr r h).1⟩,hd,k2,fun r h=>(hr r h).2⟩
theorem shRu_of {r:Rul} {qs:List Eqn} {cs:List Con} (h:shR0 r) (h1:qs.length≤64) (h2:∀q∈qs,shT q.name∧shEx q.expr) (h3:cs.length≤2) (h4:∀c∈cs,shCo c):shRu { r with eqs:=qs,cons:=cs }∧({ r with eqs:=qs,cons:=cs }:Rul).right.length ≤ 3:=
 ⟨⟨h.1,h.2.1,by have:=h.2.2.1;show r.right.length≤5;omega,h.2.2.2,h1,h2,by show cs.length≤64;omega,h4⟩,h.2.2.1⟩
def rulO (g:Gram) (s:ByteArray):List ByteArray:=(g.rules.filter fun r=>decide (r.left=s)).map (·.name)
def rulP (g:Gram) (s:ByteArray) (k:Nat):List ByteArray:=((g.rules.take k).filter fun r=>decide (r.left=s)).map (·.name)
theorem rulP_s {g:Gram} {s:ByteArray} {k:Nat} (h:k<g.rules.length):rulP g s (k+1)=rulP g s k++(if g.rules[k].left = s then [g.rules[k].name] else []):=by
 unfold rulP
 rw[List.take_add_one,List.getElem?_eq_getElem h,List.filter_append,List.map_append]
 by_cases e:g.rules[k].left = s<;>simp[e]
theorem rulP_end (g:Gram) (s:ByteArray):rulP g s g.rules.length=rulO g s:=by simp[rulP,rulO]
theorem rulP_len (g:Gram) (s:ByteArray) (k:Nat):(rulP g s k).length ≤ g.rules.length:=by
 unfold rulP
 rw[List.length_map]
 exact Nat.le_trans (List.length_filter_le _ _) (by rw[List.length_take];omega)
theorem rulO_mem {g:Gram} {s n:ByteArray} (h:n∈rulO g s):Zl g.rules n∈g.rules:=by
 unfold rulO at h
 obtain ⟨r,hr,rfl⟩:=List.mem_map.1 h
 have hr':=(List.mem_filter.1 hr).1
 unfold Zl
 cases e:g.rules.find? fun s=>decide (s.name=r.name) with
 | none=>have:=List.find?_eq_none.1 e r hr';simp at this
 | some a=>exact List.mem_of_find?_eq_some e
theorem FE.rulz {env:Env} {q:Nat} {H:GH}:FE env ((q,6,[.agg [T noS,T noS,Zy,B false,Zy,Zy]])::H) env ((q,6,[Ru rulZ])::H):=by
 have h:=FE.exch (env:=env) (H:=(q,6,[.agg [T noS,T noS,Zy,B false,Zy,Zy]])::H) (r:=q) (sz:=6) (i:=0) (es:=[.agg [T noS,T noS,Zy,B false,Zy,Zy]]) (e:= .agg [T noS,T noS,Zy,B false,Zy,Zy]) (e':=Ru rulZ) (by simp[ZU]) rfl
  fun w D v F hm=>MV.fld (j:=5) (g':= .sl 16 []) rfl MV.nil_sl v F (MV.fld (j:=4) (g':= .sl 9 []) rfl MV.nil_sl v F (MV.fld (j:=2) (g':= .sl 1 []) rfl MV.nil_sl v F hm))
 simpa[ZG] using h
def atS (g:Gram) (s:ByteArray):Nat:=(max 0 (Zg (fun y:Sym=>decide (y.name=s)) g.syms)).toNat
theorem atS_lt {g:Gram} (h:1≤g.syms.length) (s:ByteArray):atS g s<(hgts g).length := by
 rw[hgts_len]
 unfold atS
 rcases ixOf_cases (fun y:Sym=>decide (y.name=s)) g.syms with h1|h1<;>omega
theorem hAt_eq {g:Gram} (h:1≤g.syms.length) (s:ByteArray):(hgts g)[atS g s]'(atS_lt h s)=hAt g s:=by
 unfold hAt
 rw[←Z3 (atS_lt h s)]
 rfl
def okR (g:Gram) (s:ByteArray) (room:Int) (r:Rul):Prop:=(r=rulZ∨r∈g.rules)∧(room<5→r=rulZ∨lowR g s r)
def goodT (b:Nat) (t:List Nod):Prop:=(∀x∈t,drN x)∧1≤t.length∧t.length≤b
theorem view_Tr (t:List Nod):view (Tr t)=Tr t:=by
 have:∀x:Nod,view (Nd x)=Nd x:=fun x=>by
  have:=Y1 (f:=I) (fun a=>rfl) x.kids
  simp[view,Zc,Zr,this]
 have:=Y1 this t
 simp[view,Zc,Zr,this]
theorem tdiv_rng {a b:Int} (h : -100000≤a∧a≤100000) (hb:1≤b) : -100000≤a.tdiv b∧a.tdiv b≤100000:=by
 have h1:(a.tdiv b).natAbs ≤ a.natAbs:=by
  rw[Int.natAbs_tdiv];exact Nat.div_le_self _ _
 omega
theorem wrS {a:Int} (h : -200000≤a∧a≤200000):IntKind.i64.wrap a=a:=wrap64 oT oT
theorem tdiv_lo {a m:Int} (hm:1≤m):(0≤a→0≤a.tdiv m∧a.tdiv m≤a)∧(a≤0→a≤a.tdiv m∧a.tdiv m≤0):=by
 have key:∀a:Int,0≤a→0≤a.tdiv m∧a.tdiv m≤a:=fun a ha=>by
  rw[Int.tdiv_eq_ediv_of_nonneg ha]
  exact ⟨Int.ediv_nonneg ha oT,Int.ediv_le_self m ha⟩
 refine ⟨key a,fun ha=> ?_⟩
 have h:=key (-a) oT
 rw[Int.neg_tdiv] at h
 omega
theorem goodT.mono {a b:Nat} {t:List Nod} (h:goodT a t) (hab:a≤b):goodT b t:=⟨h.1,h.2.1,Nat.le_trans h.2.2 hab⟩
theorem grB_le {room:Int} (h:room≤1000):grB room≤41000:=by unfold grB;split<;>omega
theorem bor_TrO {q:Nat} {t:List Nod}:Bor [(q,6,t.map NdO)] (.agg [.own q 6 0 t.length]) (Tr t):=
 .agg (.cons (Bor.seen (f:=NdO) (g:=Nd) (fun x=>by have:=view_NdO [x];simpa using this) ZX rfl) .nil)
end Go.Gh
namespace Go.Gh
section
variable {P:Program} {cf:Cfg}
theorem gstartG {f:FuncId} {F:GFun} (hF:IsFun P f F) {cf:Cfg} {gc:GC} {gr:List GR} (hf:F=⟨cf,gc,gr⟩) {gs:List GV} {H:GH} {R:GV→GH→Prop} (hlen:gs.length≤cf.N)
 (h:GW P cf gc (GEndS gr R) (envOf gs 0) H):GCalls P f gs H R:=GCalls.start hF hf hlen (GW.mono (fun _ _ _ h=>h.ok) h)
theorem gwpS (mxd:P.follows .mixedOrders = true) {x y:GC} {Q:Exit→Env→GH→Prop} {env:Env} {H:GH} (h:gwp P cf x (thenG (GW P cf y Q) Q) env H):GW P cf (.seq x y) Q env H:=GW.seq (ZB mxd h)
theorem gwpB (mxd:P.follows .mixedOrders = true) {x:GC} {id:Nat} {Q:Exit→Env→GH→Prop} {env:Env} {H:GH} (h:gwp P cf x (blockG id Q) env H):GW P cf (.block id x) Q env H:=GW.block (ZB mxd h)
end
def bentT (t:List Nod):Prop:=(∀x∈t,x.kids.length≤4∧shT x.rule)∧1≤t.length∧t.length≤41
theorem bentT_of {t:List Nod} (h:goodT 40 t):bentT t:=⟨fun x hx=>⟨by have:=(h.1 x hx).1;omega,(h.1 x hx).2⟩,h.2.1,by have:=h.2.2;omega⟩
theorem bentT_set {t:List Nod} {x:Nod} {k:Nat} (h:goodT 40 t) (h1:x.kids.length≤4) (h2:shT x.rule):bentT (t.set k x):=
 ⟨fun y hy=>(List.mem_or_eq_of_mem_set hy).elim (fun h3=>⟨by have:=(h.1 y h3).1;omega,(h.1 y h3).2⟩) fun h3=>by subst h3;exact ⟨h1,h2⟩,by rw[List.length_set];exact h.2.1,by rw[List.length_set];have:=h.2.2;omega⟩
theorem view_Nd (x:Nod):view (Nd x)=Nd x:=by
 have:=Y1 (f:=I) (fun a=>rfl) x.kids
 simp[view,Zc,Zr,this]
theorem bor_TrN {q n:Nat} {t:List Nod} (h:t.length=n):Bor [(q,6,t.map Nd)] (.agg [.own q 6 0 n]) (Tr t):=
 .agg (.cons (Bor.allM view_Nd ZX h) .nil)
theorem bor_TrO' {q n:Nat} {t:List Nod} (h:t.length=n):Bor [(q,6,t.map NdO)] (.agg [.own q 6 0 n]) (Tr t):=by subst h;exact bor_TrO
theorem mem4 {a b c d:Int} {g:GV} (h:g∈[I a,I b,I c,I d]):∃n,g=I n:=by
 simp only[List.mem_cons,List.not_mem_nil,or_false] at h
 rcases h with rfl|rfl|rfl|rfl<;>exact ⟨_,rfl⟩
theorem borS {q k:Nat} {t:List Nod} {x:Nod}:Bor [(q,6,(t.map NdO).set k (NdO x))] (.agg [.own q 6 0 t.length]) (Tr (t.set k x)):=by
 have:=bor_TrO' (q:=q) (t:=t.set k x) (n:=t.length) (by simp)
 rwa [List.map_set] at this
theorem bentT_app {t:List Nod} {k:Nat} (h:goodT 40 t) (hk:k<t.length):bentT (t++[t[k]]):=
 ⟨fun y hy=>(List.mem_append.1 hy).elim (fun h3=>⟨by have:=(h.1 y h3).1;omega,(h.1 y h3).2⟩) fun h3=>by
  rw[List.mem_singleton] at h3;subst h3;have:=h.1 _ (List.getElem_mem hk);exact ⟨by have:=this.1;omega,this.2⟩,by simp,by have:=h.2.2;simp;omega⟩
theorem view_NdOs (t:List Nod):Zc (t.map NdO)=t.map Nd:=by rw[Zr];exact view_NdO t
end Go.Gh
namespace Go.Gh
end Go.Gh
namespace Go.Gh
end Go.Gh
namespace Go.Gh
theorem ixOf_no {α:Type} {p:α→Bool} {l:List α} (h:Zg p l = -1):∀a∈l,p a=false:=by
 unfold Zg at h
 cases e:l.findIdx? p with
 | none=>exact fun a ha=>by simpa using List.findIdx?_eq_none_iff.1 e a ha
 | some i=>
  rw[e] at h
  have h':(i:Int) = -1:=h
  omega
theorem ixOf_at {α:Type} {p:α→Bool} {l:List α} {i:Nat} (h:Zg p l=i):∃hl:i<l.length,p l[i]=true∧∀a∈l.take i,p a=false:=by
 unfold Zg at h
 cases e:l.findIdx? p with
 | none=>
  rw[e] at h
  have h':(-1:Int)=i:=h
  omega
 | some j=>
  rw[e] at h
  have h':(j:Int)=i:=h
  have:j=i:=by omega
  subst this
  obtain ⟨h1,h2,h3⟩:=List.findIdx?_eq_some_iff_getElem.1 e
  refine ⟨h1,h2,fun a ha=> ?_⟩
  obtain ⟨k,hk,rfl⟩:=List.mem_take_iff_getElem.1 ha
  simpa using h3 k oT
end Go.Gh
namespace Go.Gh
theorem kidsW_all {w:Nat→Int→Int→ByteArray→Int} {n:Int} {i:Nat} {P:Nat→Prop} (hw:∀a p q s,0≤w a p q s→(a:Int)<w a p q s∧w a p q s≤n) (hP:∀(a:Nat) p q s,0≤w a p q s→∀j:Nat,a≤j→(j:Int)<w a p q s→P j) :
 ∀(cs:List Int) (ss:List ByteArray) (k a:Int),0≤a→0≤Zf w i cs ss k a→∀j:Nat,a≤j→(j:Int)<Zf w i cs ss k a→P j
 | [],_,k,a,ha,h,j,h1,h2=>by simp only[Zf] at h2;omega
 | c::cs,[],k,a,ha,h,j,h1,h2=>by simp only[Zf] at h2;omega
 | c::cs,s::ss,k,a,ha,h,j,h1,h2=>by
  simp only[Zf] at h h2
  split at h
  ·omega
  rename_i g1
  rw[if_neg g1] at h2
  split at h
  ·omega
  rename_i g2
  rw[if_neg g2] at h2
  have h3:=hw a.toNat i (k+1) s oT
  by_cases hj:(j:Int)<w a.toNat i (k+1) s
  ·exact hP a.toNat i (k+1) s oT j oT hj
  ·exact kidsW_all hw hP cs ss (k+1) (w a.toNat i (k+1) s) oT h j oT h2
theorem YU {g:Gram} {t:List Nod} {s:ByteArray} (h:Za g t s=true):(1≤t.length∧t.length≤16)∧idsV t=true∧Zt g t t.length 0 (-1) 0 s=t.length:=by
 simpa only[Za,Bool.and_eq_true,decide_eq_true_eq] using h
theorem ids_inj {t:List Nod} (h:idsV t=true) {i j:Nat} (hi:i<t.length) (hj:j<t.length) (e:t[i].id = t[j].id):i=j:=by
 have key:∀i j:Nat,∀hi:i<t.length,∀hj:j<t.length,i<j→t[i].id ≠ t[j].id := fun i j hi hj hij e=>by
  simp only[idsV,List.all_eq_true,List.mem_range] at h
  have:=h j hj
  simp only[gid,Bool.and_eq_true,Bool.not_eq_true',List.any_eq_false] at this
  have:=this.2 t[i] (by
   rw[List.mem_take_iff_getElem]
   exact ⟨i,oT,rfl⟩)
  rw[Z3 hj] at this
  simp[e] at this
 rcases Nat.lt_trichotomy i j with h1|h1|h1
 ·exact absurd e (key i j hi hj h1)
 ·exact h1
 ·exact absurd e.symm (key j i hj hi h1)
end Go.Gh
namespace Go.Gh
theorem kidsW_len {w:Nat→Int→Int→ByteArray→Int} {i:Nat} (hw:∀a p q s,0≤w a p q s→(a:Int)<w a p q s):∀(cs:List Int) (ss:List ByteArray) (k a:Int),cs.length=ss.length→0≤a→0≤Zf w i cs ss k a→a+cs.length≤Zf w i cs ss k a
 | [],_,k,a,_,ha,h=>by simp[Zf]
 | c::cs,[],k,a,hl,_,_ => by simp at hl
 | c::cs,s::ss,k,a,hl,ha,h=>by
  simp only[Zf] at h ⊢
  split at h
  ·omega
  rename_i g1
  rw[if_neg g1]
  split at h
  ·omega
  rename_i g2
  rw[if_neg g2]
  have h3:=hw a.toNat i (k+1) s oT
  have ih:=kidsW_len hw cs ss (k+1) (w a.toNat i (k+1) s) (by simpa using hl) oT h
  simp only[List.length_cons]
  omega
theorem walkE_kl {g:Gram} {t:List Nod}:∀(f i:Nat) (p q:Int) (s:ByteArray),0≤Zt g t f i p q s→∀j:Nat,i≤j→(j:Int)<Zt g t f i p q s→(t.getD j nodZ).kids.length ≤ t.length
 | 0,i,p,q,s,h,j,h1,h2=>by simp[Zt] at h
 | f+1,i,p,q,s,h,j,h1,h2=>by
  have hge:=walkE_ge (g:=g) (t:=t) (f+1) i p q s h
  simp only[Zt] at h h2 hge
  split at h
  ·rename_i hi
   rw[if_pos hi] at h2 hge
   split at h
   ·rename_i hf
    rw[if_pos hf] at h2 hge
    have hl:=(fitV_iff.1 hf).2.2.2.2.1
    by_cases e:j=i
    ·subst e
     have:=kidsW_len (w:=Zt g t f) (fun a p q s h=>(walkE_ge f a p q s h).1) _ _ 0 ((j:Int)+1) hl oT h
     omega
    ·exact kidsW_all (w:=Zt g t f) (n:=t.length) (P:=fun j=>(t.getD j nodZ).kids.length ≤ t.length) (fun a p q s h=>walkE_ge f a p q s h) (fun a p q s h j h1 h2=>walkE_kl f a p q s h j h1 h2) _ _ 0 ((i:Int)+1) oT h j oT h2
   ·omega
  ·omega
theorem tree_kl {g:Gram} {t:List Nod} {s:ByteArray} (h:Za g t s=true) {i:Nat} (hi:i<t.length):t[i].kids.length ≤ 16:=by
 obtain ⟨h0,_,h1⟩:=YU h
 have:=walkE_kl (g:=g) (t:=t) t.length 0 (-1) 0 s oT i oT (by rw[h1];omega)
 rw[Z3 hi] at this
 omega
end Go.Gh
namespace Go.Gh
end Go.Gh
namespace Go.Gh
theorem bentT_sm {t:List Nod} (h:bentT t):t.length≤1048576∧(∀x∈t,x.kids.length≤1048576)∧∀x∈t,x.rule.size≤maxLen:=
 ⟨by have:=h.2.2;omega,fun x hx=>by have:=(h.1 x hx).1;omega,fun x hx=>shT_le (h.1 x hx).2⟩
theorem all2_refl {b:Bool} (t:List Nod):all2 (sameNd b) t t=true:=all2_yes rfl fun j h1 h2=>by simp[sameNd]
end Go.Gh
namespace Go.Gh
@[ext] structure Edi where
 kind:Int
 node:Int
 other:Int
 lit:Int
 tree:List Nod
 deriving DecidableEq
abbrev Ed (e:Edi):GV:= .agg [I e.kind,I e.node,I e.other,I e.lit,NdS e.tree]
abbrev EdS (l:List Edi):GV:= .sl 5 (l.map Ed)
def Zz (t:List Nod) (n:Int):Int:=Zg (fun y=>decide (y.id=n)) t
def setLit (t:List Nod) (i:Nat) (v:Int):List Nod:=t.set i { t.getD i nodZ with lit:=v }
def litEd (g:Gram) (t:List Nod) (i:Nat) (v:Int):List Nod×Int:=
 if (Zl g.rules (t.getD i nodZ).rule).lit = true∧(-1000000≤v∧v≤1000000) then (setLit t i v,0) else (t,7)
def outB (t u:List Nod) (i:Nat) (k:Nat):Bool:= !decide ((i:Int)≤k∧(k:Int)≤(i:Int)+ZC t i-1)&&decide (0≤Zz u (t.getD k nodZ).id)
def replT (g:Gram) (t:List Nod) (i:Nat) (u:List Nod):List Nod×Int:=
 if Za g u (symN g t i)=true then
  if (List.range t.length).any (outB t u i)=true then (t,4)
  else if 16<(t.length:Int)-ZC t i+u.length then (t,5) else (YV t i u,0)
 else (t,3)
def swT (g:Gram) (t:List Nod) (a b:Nat):List Nod×Int:=
 if (b:Int)<(a:Int)+ZC t a then (t,6)
 else if symN g t a=symN g t b then (YV (YV t b (Y2 t a)) a (Y2 t b),0) else (t,3)
def edT (g:Gram) (t:List Nod) (e:Edi):List Nod×Int:=
 if accG g=true∧Za g t (Yv g)=true∧(1≤e.kind∧e.kind≤3) then
  if Zz t e.node<0∨(e.kind=3∧Zz t e.other<0) then (t,2)
  else if e.kind=2 then replT g t (Zz t e.node).toNat e.tree
  else if e.kind=3 then swT g t (min (Zz t e.node) (Zz t e.other)).toNat (max (Zz t e.node) (Zz t e.other)).toNat
  else litEd g t (Zz t e.node).toNat e.lit
 else (t,1)
theorem mk_sm {t:List Nod} {n:Nat} (h:Zk 1 t≤n):t.length≤n∧∀x∈t,x.kids.length≤n:=by
 rw[Ya] at h
 refine ⟨oT,fun x hx=> ?_⟩
 have:=sum_mem (fun x:Nod=>x.kids.length) t x hx
 omega
theorem sum_bd {l:List Nod} {n:Nat} (h:∀x∈l,x.kids.length≤n):(l.map (·.kids.length)).sum ≤ l.length * n:=by
 induction l with
 | nil=>simp
 | cons x l ih=>
  have h1:=h x (List.mem_cons_self ..)
  have h2:=ih fun y hy=>h y (List.mem_cons_of_mem _ hy)
  simp only[List.map_cons,List.sum_cons,List.length_cons,Nat.add_mul,Nat.one_mul]
  omega
theorem tree_mk {g:Gram} {t:List Nod} {s:ByteArray} (h:Za g t s=true):Zk 1 t≤400:=by
 have h0:=(YU h).1
 have h1:=sum_bd (l:=t) (n:=16) fun x hx=>by
  obtain ⟨i,hi,rfl⟩:=List.mem_iff_getElem.1 hx
  exact tree_kl h hi
 rw[Ya]
 omega
theorem setLit_mk (t:List Nod) (i:Nat) (v:Int):Zk 1 (setLit t i v)=Zk 1 t:=by
 refine mkEnd_congr ?_
 unfold setLit
 rcases Nat.lt_or_ge i t.length with h|h
 ·rw[List.map_set,Z3 h]
  apply List.ext_getElem
  ·simp
  ·intro k h1 h2
   rw[List.getElem_set]
   split
   ·subst_vars;simp
   ·rfl
 ·rw[List.set_eq_of_length_le h]
theorem edT_mk (g:Gram) (t:List Nod) (e:Edi):Zk 1 (edT g t e).1 ≤ max (Zk 1 t) 4000:=by
 have ht:Zk 1 t≤max (Zk 1 t) 4000:=by omega
 unfold edT
 split
 ·rename_i hv
  have hm:=tree_mk hv.2.1
  split
  ·exact ht
  split
  ·unfold replT
   split
   ·rename_i hu
    have hum:=tree_mk hu
    split
    ·exact ht
    split
    ·exact ht
    ·have:=Yf t (Zz t e.node).toNat e.tree
     dsimp only
     omega
   ·exact ht
  split
  ·unfold swT
   split
   ·exact ht
   split
   ·dsimp only
    generalize (min (Zz t e.node) (Zz t e.other)).toNat = a
    generalize (max (Zz t e.node) (Zz t e.other)).toNat = b
    have h1:=Yf (YV t b (Y2 t a)) a (Y2 t b)
    have h2:=Yf t b (Y2 t a)
    have h3:=Ye t a
    have h4:=Ye t b
    omega
   ·exact ht
  ·unfold litEd
   split
   ·dsimp only;rw[setLit_mk];exact ht
   ·exact ht
 ·exact ht
theorem ixId_in {t:List Nod} {n:Int} (h:¬Zz t n<0):∃j:Nat,Zz t n=j∧j<t.length:=by
 unfold Zz at *
 rcases ixOf_cases (fun y:Nod=>decide (y.id=n)) t with h1|h1
 ·omega
 ·exact ⟨(Zg (fun y:Nod=>decide (y.id=n)) t).toNat,oT,oT⟩
end Go.Gh
namespace Go.Gh
theorem FE.edN {env e0:Env} {re:Nat} {k n o l:Int} {H:GH} (hs:subE env e0):FE env ((re,5,[.agg [I k,I n,I o,I l,Zy]])::H) e0 ((re,5,[Ed ⟨k,n,o,l,[]⟩])::H):=by
 refine FE.trans (FE.of hs) ?_
 have h:=FE.exch (env:=e0) (H:=(re,5,[.agg [I k,I n,I o,I l,Zy]])::H) (r:=re) (sz:=5) (i:=0) (es:=[.agg [I k,I n,I o,I l,Zy]]) (e:= .agg [I k,I n,I o,I l,Zy]) (e':=Ed ⟨k,n,o,l,[]⟩) (by simp[ZU]) rfl
  fun w D v F hm=>MV.fld (j:=4) (g':= .sl 6 []) rfl MV.nil_sl v F hm
 simpa[ZG] using h
theorem FE.edO {env e0:Env} {re q m:Nat} {k n o l:Int} {u:List Nod} {H:GH} (hs:subE env e0) (hne:¬re=q) (hm:u.length=m) :
 FE env ((re,5,[.agg [I k,I n,I o,I l,.own q 6 0 m]])::(q,6,u.map NdO)::H) e0 ((re,5,[Ed ⟨k,n,o,l,u⟩])::H):=by
 refine FE.trans (FE.of hs) (FE.trans (FE.closeL2 (L:=[]) (j:=4) hne rfl (by simpa using hm)) (FE.frzV ?_))
 have h1:=view_NdO u
 simp only[List.nil_append,List.set,Zc,view,Zr,List.map_cons,List.map_nil,h1]
theorem mk_goodT {t:List Nod} (h:goodT 40 t):Zk 1 t≤400:=by
 have key:∀(l:List Nod) (k:Int),(∀x∈l,x.kids.length≤3)→Zk k l≤k+8 * l.length:=by
  intro l
  induction l with
  | nil=>intro k _;simp[Zk]
  | cons x l ih=>
   intro k hx
   have h1:=hx x (by simp)
   have h2:=ih (k+5+x.kids.length) fun y hy=>hx y (by simp[hy])
   simp only[Zk,List.length_cons]
   push_cast
   omega
 have:=key t 1 fun x hx=>(h.1 x hx).1
 have:=h.2.2
 omega
def drE (e:Edi):Prop:=(∀x∈e.tree,drN x)∧e.tree.length≤800
theorem tmod_rng {a:Int} {n:Nat} (h:0≤a) (hn:0<n):∃k:Nat,k<n∧a.tmod n=k:=by
 refine ⟨(a.tmod n).toNat,?_,?_⟩
 ·have:=Int.tmod_lt_of_pos a (show (0:Int)<n by omega)
  have:=Int.tmod_nonneg (n:Int) h
  omega
 ·have:=Int.tmod_nonneg (n:Int) h
  omega
theorem edF {k n o l k' n' o' l':Int} {u:List Nod} (h:drE ⟨k,n,o,l,u⟩):∃e,drE e∧GV.agg [I k',I n',I o',I l',NdS u]=Ed e:=⟨⟨k',n',o',l',u⟩,h,rfl⟩
theorem edN' {env e0:Env} {re:Nat} {k n o l:Int} {H:GH} (hs:subE env e0):∃e,drE e∧FE env ((re,5,[.agg [I k,I n,I o,I l,Zy]])::H) e0 ((re,5,[Ed e])::H):=⟨⟨k,n,o,l,[]⟩,⟨by simp,by simp⟩,FE.edN hs⟩
theorem FE.trT {env:Env} {r q n:Nat} {t:List Nod} {H:GH} (hne:¬r=q) (hn:t.length=n):FE env ((r,1,[.agg [.own q 6 0 n]])::(q,6,t.map NdO)::H) env ((r,1,[Tr t])::H):=by
 refine FE.trans (FE.closeL2 (L:=[]) (j:=0) hne rfl (by simpa using hn)) (FE.frzV ?_)
 have h1:=view_NdO t
 simp only[List.nil_append,List.set,Zc,view,Zr,List.map_cons,List.map_nil,h1]
def at0N (bs:List UInt8) (i:Nat):Nat:=if h:i<bs.length then bs[i].toNat else (i * 7+bs.length) % 256
end Go.Gh
namespace Go.Gh
end Go.Gh
namespace Go.Gh
def ediZ:Edi:=⟨0,0,0,0,[]⟩
def Zq (g:Gram) (t:List Nod) (L:List Edi):Nat→List Nod
 | 0=>t
 | k+1=>(edT g (Zq g t L k) (L.getD k ediZ)).1
def edC (g:Gram) (t:List Nod) (L:List Edi):List Int:=(List.range L.length).map fun k=>(edT g (Zq g t L k) (L.getD k ediZ)).2
theorem Yl (g:Gram) (t:List Nod) (L:List Edi):(edC g t L).length = L.length:=by simp[edC]
theorem edC_get {g:Gram} {t:List Nod} {L:List Edi} {k:Nat} (h:k<L.length) (h':k<(edC g t L).length):(edC g t L)[k]=(edT g (Zq g t L k) L[k]).2 := by
 simp only[edC,List.getElem_map,List.getElem_range,Z3 h]
theorem edTr_s {g:Gram} {t:List Nod} {L:List Edi} {k:Nat} (h:k<L.length):Zq g t L (k+1)=(edT g (Zq g t L k) L[k]).1 := by
 simp only[Zq,Z3 h]
theorem edT_or (g:Gram) (t:List Nod) (e:Edi):(edT g t e).1 = t∨Zk 1 (edT g t e).1 ≤ 4000:=by
 unfold edT
 split
 ·rename_i hv
  have hm:=tree_mk hv.2.1
  split
  ·exact .inl rfl
  split
  ·unfold replT
   split
   ·rename_i hu
    have hum:=tree_mk hu
    split
    ·exact .inl rfl
    split
    ·exact .inl rfl
    ·right
     have:=Yf t (Zz t e.node).toNat e.tree
     dsimp only
     omega
   ·exact .inl rfl
  split
  ·unfold swT
   split
   ·exact .inl rfl
   split
   ·right
    dsimp only
    generalize (min (Zz t e.node) (Zz t e.other)).toNat = a
    generalize (max (Zz t e.node) (Zz t e.other)).toNat = b
    have h1:=Yf (YV t b (Y2 t a)) a (Y2 t b)
    have h2:=Yf t b (Y2 t a)
    have h3:=Ye t a
    have h4:=Ye t b
    omega
   ·exact .inl rfl
  ·unfold litEd
   split
   ·right;dsimp only;rw[setLit_mk];omega
   ·exact .inl rfl
 ·exact .inl rfl
theorem edTr_mk (g:Gram) (t:List Nod) (L:List Edi):∀k,Zk 1 (Zq g t L k)≤max (Zk 1 t) 4000
 | 0=>by simp only[Zq];omega
 | k+1=>by
  have:=edTr_mk g t L k
  have:=edT_mk g (Zq g t L k) (L.getD k ediZ)
  simp only[Zq]
  omega
theorem edTr_sm {g:Gram} {t:List Nod} {L:List Edi} (h:t.length≤1048576∧∀x∈t,x.kids.length≤1048576):∀k,(Zq g t L k).length ≤ 1048576∧∀x∈Zq g t L k,x.kids.length≤1048576
 | 0=>h
 | k+1=>by
  simp only[Zq]
  rcases edT_or g (Zq g t L k) (L.getD k ediZ) with h1|h1
  ·rw[h1];exact edTr_sm h k
  ·exact mk_sm (n:=1048576) oT
theorem callA.lend {P:Program} {K:Env→GH→Prop} {is:List GI} {env:Env} {H:GH} {d:Option Nat} {f:FuncId} {gs gs':List GV} {R:GV→GH→Prop} (h:∀H0,GCalls P f gs' H0 (fun g H'=>∃H1,R g H1∧H'=H1++H0)) (hb:BorL H gs gs')
 (hR:∀g H1,R g H1→noD g=true∧noDH H1=true) (hk:∀g H1,R g H1→(names (H1++H)).Nodup → ZY P is K (gput env d g) (H1++H)):callA P f (some gs) d is K env H:=
 ⟨R,GCalls.lend h hb hR,hk⟩
end Go.Gh
namespace Go.Gh
theorem edTr_take {g:Gram} {t:List Nod} {L:List Edi} {k:Nat} (hk:k≤L.length):∀m,m≤k→Zq g t (L.take k) m=Zq g t L m
 | 0,_ => rfl
 | m+1,hm=>by
  simp only[Zq]
  rw[edTr_take hk m oT,Z3 (show m<(L.take k).length by simp;omega),Z3 (show m<L.length by omega),List.getElem_take]
theorem edTr_drop {g:Gram} {t:List Nod} {L:List Edi} {k:Nat}:∀m,k+m≤L.length→Zq g (Zq g t L k) (L.drop k) m=Zq g t L (k+m)
 | 0,_ => rfl
 | m+1,hm=>by
  show (edT g (Zq g (Zq g t L k) (L.drop k) m) ((L.drop k).getD m ediZ)).1 = (edT g (Zq g t L (k+m)) (L.getD (k+m) ediZ)).1
  rw[edTr_drop m oT,Z3 (show m<(L.drop k).length by simp;omega),Z3 (show k+m<L.length by omega),List.getElem_drop]
theorem edits_law {g:Gram} {t:List Nod} {L:List Edi} {k:Nat} (hk:k≤L.length) :
 Zq g (Zq g t (L.take k) (L.take k).length) (L.drop k) (L.drop k).length = Zq g t L L.length∧edC g t (L.take k)++edC g (Zq g t (L.take k) (L.take k).length) (L.drop k)=edC g t L:=by
 have h1:(L.take k).length = k:=by simp;omega
 have h2:(L.drop k).length = L.length-k:=by simp
 rw[h1,h2,edTr_take hk k (Nat.le_refl _),edTr_drop _ oT]
 refine ⟨by rw[Nat.add_sub_cancel' hk],?_⟩
 refine List.ext_getElem (by simp only[List.length_append,Yl];omega) fun i h3 h4=> ?_
 have h5:=h4
 rw[Yl] at h5
 rw[edC_get h5]
 rcases Nat.lt_or_ge i k with h|h
 ·rw[List.getElem_append_left (by rw[Yl];omega),edC_get oT,edTr_take hk i oT,List.getElem_take]
 ·rw[List.getElem_append_right (by rw[Yl];omega)]
  simp only[Yl,h1]
  rw[edC_get oT,edTr_drop _ oT,List.getElem_drop]
  simp only[Nat.add_sub_cancel' h]
end Go.Gh
namespace Go.Gh
def smallN (n:Nat) (x:Nod):Prop:=(-1≤x.parent∧x.parent<n)∧∀c∈x.kids,0≤c∧c<n
theorem wr {a:Int} (h : -9223372036854775808≤a∧a≤9223372036854775807):IntKind.i64.wrap a=a:=wrap64 h.1 oT
end Go.Gh
namespace Go.Gh
inductive Fo where
 | nil:Fo
 | cons (id:Int) (rule:ByteArray) (lit:Int) (ks rest:Fo):Fo
namespace Fo
def sz:Fo→Nat
 | nil=>0
 | cons _ _ _ ks rest=>1+ks.sz+rest.sz
def strt:Fo→Int→List Int
 | nil,_ => []
 | cons _ _ _ ks rest,b=>b::rest.strt (b+1+ks.sz)
def flt:Fo→Int→Int→Int→List Nod
 | nil,_,_,_ => []
 | cons i r l ks rest,b,p,q=>⟨i,p,q,l,r,ks.strt (b+1)⟩::(ks.flt (b+1) b 1++rest.flt (b+1+ks.sz) p (q+1))
def one:Fo→Prop
 | cons _ _ _ _ nil=>True
 | _ => False
def app:Fo→Fo→Fo
 | nil,r=>r
 | cons i r l ks rest,s=>cons i r l ks (rest.app s)
theorem flt_len:∀(F:Fo) b p q,(F.flt b p q).length = F.sz
 | nil,_,_,_ => rfl
 | cons _ _ _ ks rest,b,p,q=>by simp[flt,sz,flt_len ks,flt_len rest];omega
theorem strt_rng:∀(F:Fo) b,∀k∈F.strt b,b≤k∧k<b+F.sz
 | nil,_,k,h=>by simp[strt] at h
 | cons _ _ _ ks rest,b,k,h=>by
  simp only[strt,List.mem_cons] at h
  simp only[sz]
  rcases h with rfl|h
  ·omega
  ·have:=strt_rng rest _ k h;omega
theorem flt_rng:∀(F:Fo) b p q,p<b→∀x∈F.flt b p q,(x.parent=p∨(b≤x.parent∧x.parent<b+F.sz))∧∀k∈x.kids,b≤k∧k<b+F.sz
 | nil,_,_,_,_,x,h=>by simp[flt] at h
 | cons i r l ks rest,b,p,q,hp,x,h=>by
  simp only[flt,List.mem_cons,List.mem_append] at h
  simp only[sz]
  rcases h with rfl|h|h
  ·exact ⟨.inl rfl,fun k hk=>by have:=strt_rng ks _ k hk;omega⟩
  ·obtain ⟨h1,h2⟩:=flt_rng ks (b+1) b 1 oT x h
   exact ⟨.inr oT,fun k hk=>by have:=h2 k hk;omega⟩
  ·obtain ⟨h1,h2⟩:=flt_rng rest (b+1+ks.sz) p (q+1) oT x h
   exact ⟨oT,fun k hk=>by have:=h2 k hk;omega⟩
def mvN (d:Int) (x:Nod):Nod:={ x with parent:=x.parent+d,kids:=x.kids.map (· + d) }
theorem strt_mv:∀(F:Fo) b d,(F.strt b).map (· + d)=F.strt (b+d)
 | nil,_,_ => rfl
 | cons _ _ _ ks rest,b,d=>by
  simp only[strt,List.map_cons,strt_mv rest]
  rw[show b+1+(ks.sz:Int)+d=b+d+1+ks.sz by omega]
theorem flt_mv:∀(F:Fo) b p q d,(F.flt b p q).map (mvN d)=F.flt (b+d) (p+d) q
 | nil,_,_,_,_ => rfl
 | cons i r l ks rest,b,p,q,d=>by
  simp only[flt,List.map_cons,List.map_append,flt_mv ks,flt_mv rest,mvN,strt_mv]
  rw[show b+1+(ks.sz:Int)+d=b+d+1+ks.sz by omega,show b+1+d=b+d+1 by omega]
def shZ (e d k:Int):Int:=if e≤k then k+d else k
def ouN (e d:Int) (x:Nod):Nod:={ x with parent:=shZ e d x.parent,kids:=x.kids.map (shZ e d) }
theorem shZ_lo {e d k:Int} (h:k<e):shZ e d k=k:=by unfold shZ;rw[if_neg oT]
theorem shZ_hi {e d k:Int} (h:e≤k):shZ e d k=k+d:=by unfold shZ;rw[if_pos h]
theorem map_lo {e d:Int}:∀{l:List Int},(∀k∈l,k<e)→l.map (shZ e d)=l
 | [],_ => rfl
 | k::l,h=>by
  rw[List.map_cons,shZ_lo (h k (List.mem_cons_self ..)),map_lo fun j hj=>h j (List.mem_cons_of_mem _ hj)]
theorem strt_sh (F:Fo) (b e d:Int) (h:e≤b):(F.strt b).map (shZ e d)=F.strt (b+d):=by
 rw[←strt_mv]
 refine List.map_congr_left fun k hk=> ?_
 have:=strt_rng F b k hk
 exact shZ_hi oT
theorem flt_sh:∀(F:Fo) (b p q e d:Int),e≤b→p<e→(F.flt b p q).map (ouN e d)=F.flt (b+d) p q
 | nil,_,_,_,_,_,_,_ => rfl
 | cons i r l ks rest,b,p,q,e,d,h1,h2=>by
  simp only[flt,List.map_cons,List.map_append,ouN]
  rw[shZ_lo h2,strt_sh ks (b+1) e d oT]
  congr 1
  ·rw[show b+1+d=b+d+1 by omega]
  ·rw[flt_sh rest _ p _ e d oT h2,show b+1+(ks.sz:Int)+d=b+d+1+ks.sz by omega]
   congr 1
   have:ks.flt (b+d+1) (b+d) 1=(ks.flt (b+1) b 1).map (mvN d):=by rw[flt_mv,show b+1+d=b+d+1 by omega]
   rw[this]
   refine List.map_congr_left fun x hx=> ?_
   obtain ⟨a1,a2⟩:=flt_rng ks (b+1) b 1 oT x hx
   simp only[ouN,mvN]
   rw[shZ_hi oT]
   congr 1
   exact List.map_congr_left fun k hk=>shZ_hi (by have:=a2 k hk;omega)
theorem flt_lo (F:Fo) (b p q e d:Int) (h0:p<b) (h1:b+F.sz≤e) (h2:p<e):(F.flt b p q).map (ouN e d)=F.flt b p q:=by
 conv=>rhs;rw[←List.map_id (F.flt b p q)]
 refine List.map_congr_left fun x hx=> ?_
 obtain ⟨a1,a2⟩:=flt_rng F b p q h0 x hx
 simp only[ouN,id]
 rw[shZ_lo oT,map_lo fun k hk=>by have:=a2 k hk;omega]
theorem app_sz:∀(F G:Fo),(F.app G).sz = F.sz+G.sz
 | nil,G=>by simp[app,sz]
 | cons i r l ks rest,G=>by simp only[app,sz,app_sz rest G];omega
theorem one_iff {F:Fo}:F.one↔∃i r l ks,F=cons i r l ks nil:=by
 constructor
 ·intro h
  match F,h with
  | cons i r l ks nil,_ => exact ⟨i,r,l,ks,rfl⟩
 ·rintro ⟨i,r,l,ks,rfl⟩;trivial
end Fo
inductive Pa where
 | here:Pa
 | down (π:Pa):Pa
 | next (π:Pa):Pa
namespace Fo
def get:Fo→Pa→Fo
 | nil,_ => nil
 | cons i r l ks _,.here => cons i r l ks nil
 | cons _ _ _ ks _,.down π=>ks.get π
 | cons _ _ _ _ rest,.next π=>rest.get π
def put:Fo→Pa→Fo→Fo
 | nil,_,_ => nil
 | cons _ _ _ _ rest,.here,S=>S.app rest
 | cons i r l ks rest,.down π,S=>cons i r l (ks.put π S) rest
 | cons i r l ks rest,.next π,S=>cons i r l ks (rest.put π S)
def pos:Fo→Pa→Nat
 | nil,_ => 0
 | cons ..,.here => 0
 | cons _ _ _ ks _,.down π=>1+ks.pos π
 | cons _ _ _ ks rest,.next π=>1+ks.sz+rest.pos π
def ok:Fo→Pa→Prop
 | nil,_ => False
 | cons ..,.here => True
 | cons _ _ _ ks _,.down π=>ks.ok π
 | cons _ _ _ _ rest,.next π=>rest.ok π
theorem find:∀(F:Fo) (i:Nat),i<F.sz→∃π,F.ok π∧F.pos π=i
 | nil,i,h=>by simp[sz] at h
 | cons a r l ks rest,i,h=>by
  simp only[sz] at h
  rcases Nat.eq_zero_or_pos i with h0|h0
  ·exact ⟨.here,trivial,by simp[pos,h0]⟩
  rcases Nat.lt_or_ge i (1+ks.sz) with h1|h1
  ·obtain ⟨π,h2,h3⟩:=find ks (i-1) oT
   exact ⟨.down π,h2,by simp only[pos];omega⟩
  ·obtain ⟨π,h2,h3⟩:=find rest (i-1-ks.sz) oT
   exact ⟨.next π,h2,by simp only[pos];omega⟩
theorem get_one:∀{F:Fo} {π:Pa},F.ok π→(F.get π).one
 | cons i r l ks rest,.here,_ => trivial
 | cons i r l ks rest,.down π,h=>get_one (F:=ks) h
 | cons i r l ks rest,.next π,h=>get_one (F:=rest) h
theorem Yk {F:Fo} (h:F.one):0<F.sz:=by
 obtain ⟨i,r,l,ks,rfl⟩:=one_iff.1 h
 simp[sz];omega
theorem Ym:∀{F:Fo} {π:Pa},F.ok π→F.pos π+(F.get π).sz ≤ F.sz
 | cons i r l ks rest,.here,_ => by simp only[pos,get,sz];omega
 | cons i r l ks rest,.down π,h=>by have:=Ym (F:=ks) h;simp only[pos,get,sz];omega
 | cons i r l ks rest,.next π,h=>by have:=Ym (F:=rest) h;simp only[pos,get,sz];omega
theorem put_sz:∀{F:Fo} {π:Pa} (S:Fo),F.ok π→(F.put π S).sz + (F.get π).sz = F.sz+S.sz
 | cons i r l ks rest,.here,S,_ => by simp only[put,get,sz,app_sz];omega
 | cons i r l ks rest,.down π,S,h=>by have:=put_sz (F:=ks) S h;simp only[put,get,sz];omega
 | cons i r l ks rest,.next π,S,h=>by have:=put_sz (F:=rest) S h;simp only[put,get,sz];omega
theorem put_get:∀{F:Fo} {π:Pa},F.ok π→F.put π (F.get π)=F
 | cons i r l ks rest,.here,_ => rfl
 | cons i r l ks rest,.down π,h=>by simp only[put,get,put_get (F:=ks) h]
 | cons i r l ks rest,.next π,h=>by simp only[put,get,put_get (F:=rest) h]
theorem put_ok:∀{F:Fo} {π:Pa} {S:Fo},F.ok π→S.one→(F.put π S).ok π
 | cons i r l ks rest,.here,S,_,hS=>by obtain ⟨_,_,_,_,rfl⟩:=one_iff.1 hS;trivial
 | cons i r l ks rest,.down π,S,h,hS=>put_ok (F:=ks) h hS
 | cons i r l ks rest,.next π,S,h,hS=>put_ok (F:=rest) h hS
theorem get_put:∀{F:Fo} {π:Pa} {S:Fo},F.ok π→S.one→(F.put π S).get π=S
 | cons i r l ks rest,.here,S,_,hS=>by obtain ⟨_,_,_,_,rfl⟩:=one_iff.1 hS;rfl
 | cons i r l ks rest,.down π,S,h,hS=>get_put (F:=ks) h hS
 | cons i r l ks rest,.next π,S,h,hS=>get_put (F:=rest) h hS
theorem put_put:∀{F:Fo} {π:Pa} {S S':Fo},F.ok π→S.one→(F.put π S).put π S'=F.put π S'
 | cons i r l ks rest,.here,S,S',_,hS=>by obtain ⟨_,_,_,_,rfl⟩:=one_iff.1 hS;rfl
 | cons i r l ks rest,.down π,S,S',h,hS=>by simp only[put,put_put (F:=ks) h hS]
 | cons i r l ks rest,.next π,S,S',h,hS=>by simp only[put,put_put (F:=rest) h hS]
end Fo
def dis:Pa→Pa→Prop
 | .here,.next _ => True
 | .down _,.next _ => True
 | .down π,.down ρ=>dis π ρ
 | .next π,.next ρ=>dis π ρ
 | _,_ => False
namespace Fo
theorem dis_of:∀{F:Fo} {π ρ:Pa},F.ok π→F.ok ρ→F.pos π+(F.get π).sz ≤ F.pos ρ→dis π ρ
 | cons i r l ks rest,.here,.here,_,_,h=>by simp only[pos,get,sz] at h;omega
 | cons i r l ks rest,.here,.down ρ,_,h2,h=>by
  have:=Ym (F:=ks) h2;have:=Yk (get_one (F:=ks) h2)
  simp only[pos,get,sz] at h;omega
 | cons i r l ks rest,.here,.next ρ,_,_,h=>trivial
 | cons i r l ks rest,.down π,.here,_,_,h=>by simp only[pos,get,sz] at h;omega
 | cons i r l ks rest,.down π,.down ρ,h1,h2,h=>by
  simp only[pos,get] at h
  exact dis_of (F:=ks) (π:=π) (ρ:=ρ) h1 h2 oT
 | cons i r l ks rest,.down π,.next ρ,_,_,h=>trivial
 | cons i r l ks rest,.next π,.here,_,_,h=>by simp only[pos,get,sz] at h;omega
 | cons i r l ks rest,.next π,.down ρ,h1,h2,h=>by
  have:=Ym (F:=ks) h2;have:=Yk (get_one (F:=ks) h2)
  simp only[pos,get,sz] at h;omega
 | cons i r l ks rest,.next π,.next ρ,h1,h2,h=>by
  simp only[pos,get] at h
  exact dis_of (F:=rest) (π:=π) (ρ:=ρ) h1 h2 oT
theorem dis_le:∀{F:Fo} {π ρ:Pa},F.ok π→F.ok ρ→dis π ρ→F.pos π+(F.get π).sz ≤ F.pos ρ
 | cons i r l ks rest,.here,.next ρ,_,_,h=>by simp only[pos,get,sz];omega
 | cons i r l ks rest,.down π,.down ρ,h1,h2,h=>by
  have:=dis_le (F:=ks) h1 h2 h
  simp only[pos,get];omega
 | cons i r l ks rest,.down π,.next ρ,h1,h2,h=>by
  have:=Ym (F:=ks) h1
  simp only[pos,get];omega
 | cons i r l ks rest,.next π,.next ρ,h1,h2,h=>by
  have:=dis_le (F:=rest) h1 h2 h
  simp only[pos,get];omega
theorem dis_1:∀{F:Fo} {π ρ:Pa} {S:Fo},F.ok π→F.ok ρ→dis π ρ→S.one→(F.put π S).ok ρ∧(F.put π S).get ρ=F.get ρ
 | cons i r l ks rest,.here,.next ρ,S,_,h2,h,hS=>by obtain ⟨_,_,_,_,rfl⟩:=one_iff.1 hS;exact ⟨h2,rfl⟩
 | cons i r l ks rest,.down π,.down ρ,S,h1,h2,h,hS=>dis_1 (F:=ks) h1 h2 h hS
 | cons i r l ks rest,.down π,.next ρ,S,h1,h2,h,hS=>⟨h2,rfl⟩
 | cons i r l ks rest,.next π,.next ρ,S,h1,h2,h,hS=>dis_1 (F:=rest) h1 h2 h hS
theorem dis_2:∀{F:Fo} {π ρ:Pa} {S:Fo},F.ok π→F.ok ρ→dis π ρ→S.one→(F.put ρ S).ok π∧(F.put ρ S).get π=F.get π∧(F.put ρ S).pos π=F.pos π
 | cons i r l ks rest,.here,.next ρ,S,_,h2,h,hS=>⟨trivial,rfl,rfl⟩
 | cons i r l ks rest,.down π,.down ρ,S,h1,h2,h,hS=>by
  obtain ⟨a,b,c⟩:=dis_2 (F:=ks) h1 h2 h hS
  exact ⟨a,b,by simp only[put,pos,c]⟩
 | cons i r l ks rest,.down π,.next ρ,S,h1,h2,h,hS=>⟨h1,rfl,rfl⟩
 | cons i r l ks rest,.next π,.next ρ,S,h1,h2,h,hS=>by
  obtain ⟨a,b,c⟩:=dis_2 (F:=rest) h1 h2 h hS
  exact ⟨a,b,by simp only[put,pos,c]⟩
theorem dis_put:∀{F:Fo} {π ρ:Pa} {S S':Fo},F.ok π→F.ok ρ→dis π ρ→S.one→(F.put π S).put ρ S'=(F.put ρ S').put π S
 | cons i r l ks rest,.here,.next ρ,S,S',_,h2,h,hS=>by obtain ⟨_,_,_,_,rfl⟩:=one_iff.1 hS;rfl
 | cons i r l ks rest,.down π,.down ρ,S,S',h1,h2,h,hS=>by simp only[put,dis_put (F:=ks) h1 h2 h hS]
 | cons i r l ks rest,.down π,.next ρ,S,S',h1,h2,h,hS=>rfl
 | cons i r l ks rest,.next π,.next ρ,S,S',h1,h2,h,hS=>by simp only[put,dis_put (F:=rest) h1 h2 h hS]
theorem strt_put:∀{F:Fo} {π:Pa} {S:Fo} (b:Int),F.ok π→S.one→(F.strt b).map (shZ (b+F.pos π+(F.get π).sz) ((S.sz:Int)-(F.get π).sz))=(F.put π S).strt b
 | cons i r l ks rest,.here,S,b,_,hS=>by
  obtain ⟨_,_,_,ks',rfl⟩:=one_iff.1 hS
  simp only[strt,put,app,pos,get,sz,List.map_cons]
  rw[shZ_lo oT,strt_sh _ _ _ _ oT]
  congr 2;omega
 | cons i r l ks rest,.down π,S,b,h,hS=>by
  have h1:=Ym (F:=ks) h;have h2:=Yk (get_one (F:=ks) h);have h3:=put_sz (F:=ks) S h
  simp only[strt,put,pos,get,List.map_cons]
  rw[shZ_lo oT,strt_sh _ _ _ _ oT]
  congr 2;omega
 | cons i r l ks rest,.next π,S,b,h,hS=>by
  have h2:=Yk (get_one (F:=rest) h)
  simp only[strt,put,pos,get,List.map_cons]
  rw[shZ_lo oT]
  have:=strt_put (F:=rest) (b+1+ks.sz) h hS
  rw[←this]
  congr 3;omega
theorem flt_at:∀{F:Fo} {π:Pa} (b p q:Int),F.ok π→p<b →
 ∃(L R:List Nod) (p' q':Int),F.flt b p q=L++((F.get π).flt (b+F.pos π) p' q'++R)∧L.length=F.pos π∧p'<b+F.pos π∧(∀x,R.head?=some x→x.parent<b+F.pos π) ∧
  ∀S:Fo,S.one→(F.put π S).flt b p q=L.map (ouN (b+F.pos π+(F.get π).sz) ((S.sz:Int)-(F.get π).sz))++(S.flt (b+F.pos π) p' q'++R.map (ouN (b+F.pos π+(F.get π).sz) ((S.sz:Int)-(F.get π).sz)))
 | cons i r l ks rest,.here,b,p,q,_,hp=>by
  refine ⟨[],rest.flt (b+1+ks.sz) p (q+1),p,q,by simp[get,flt,pos,sz],rfl,by simp only[pos];omega,?_,fun S hS=> ?_⟩
  ·intro x hx
   cases rest with
   | nil=>simp[flt] at hx
   | cons=>simp only[flt,List.head?_cons,Option.some.injEq] at hx;subst hx;simp only[pos];omega
  ·obtain ⟨i',r',l',ks',rfl⟩:=one_iff.1 hS
   simp only[pos,get,sz,put,app,flt,List.map_nil,List.nil_append,List.append_nil,List.cons_append]
   rw[flt_sh _ _ _ _ _ _ oT oT]
   simp only[Int.natCast_zero,Int.add_zero]
   congr 3;omega
 | cons i r l ks rest,.down π,b,p,q,h,hp=>by
  have h1:=Ym (F:=ks) h;have h2:=Yk (get_one (F:=ks) h)
  obtain ⟨L,R,p',q',e1,e2,e3,e4,e5⟩:=flt_at (F:=ks) (b+1) b 1 h oT
  refine ⟨⟨i,p,q,l,r,ks.strt (b+1)⟩::L,R++rest.flt (b+1+ks.sz) p (q+1),p',q',?_,by simp[pos,e2];omega,by simp only[pos];omega,?_,fun S hS=> ?_⟩
  ·simp only[flt,get,pos,e1]
   rw[show b+((1+ks.pos π:Nat):Int)=b+1+ks.pos π by omega]
   simp
  ·intro x hx
   simp only[pos]
   cases R with
   | nil=>
    cases rest with
    | nil=>simp[flt] at hx
    | cons=>simp only[flt,List.nil_append,List.head?_cons,Option.some.injEq] at hx;subst hx;dsimp only;omega
   | cons y R=>have:=e4 x (by simpa using hx);omega
  ·have h3:=put_sz (F:=ks) S h
   simp only[put,flt,get,pos,e5 S hS,List.map_cons,List.map_append]
   rw[show b+((1+ks.pos π:Nat):Int)=b+1+ks.pos π by omega,flt_sh rest _ p _ _ _ oT oT]
   have hst:=strt_put (F:=ks) (b+1) h hS
   simp only[List.cons_append,List.append_assoc]
   congr 1
   ·simp only[ouN]
    rw[hst,shZ_lo oT]
   ·congr 4;omega
 | cons i r l ks rest,.next π,b,p,q,h,hp=>by
  have h1:=Ym (F:=rest) h;have h2:=Yk (get_one (F:=rest) h)
  obtain ⟨L,R,p',q',e1,e2,e3,e4,e5⟩:=flt_at (F:=rest) (b+1+ks.sz) p (q+1) h oT
  refine ⟨⟨i,p,q,l,r,ks.strt (b+1)⟩::(ks.flt (b+1) b 1++L),R,p',q',?_,by simp[pos,e2,flt_len];omega,by simp only[pos];omega,?_,fun S hS=> ?_⟩
  ·simp only[flt,get,pos,e1]
   rw[show b+((1+ks.sz+rest.pos π:Nat):Int)=b+1+ks.sz+rest.pos π by omega]
   simp
  ·intro x hx
   have:=e4 x hx
   simp only[pos];omega
  ·simp only[put,flt,get,pos,e5 S hS,List.map_cons,List.map_append]
   rw[show b+((1+ks.sz+rest.pos π:Nat):Int)=b+1+ks.sz+rest.pos π by omega,flt_lo ks _ _ _ _ _ oT oT oT]
   simp only[List.cons_append,List.append_assoc]
   congr 1
   simp only[ouN]
   rw[shZ_lo oT,map_lo fun k hk=>by have:=strt_rng ks _ k hk;omega]
end Fo
end Go.Gh
namespace Go.Gh
def fitR (g:Gram) (r:ByteArray) (l:Int) (s:ByteArray):Prop:=hRul g.rules r=true∧(Zl g.rules r).left = s∧(-1000000≤l∧l≤1000000)∧((Zl g.rules r).lit = true∨(Zl g.rules r).lit = false∧l=0)
namespace Fo
def wf (g:Gram):Fo→List ByteArray→Prop
 | nil,[]=>True
 | cons _ r l ks rest,s::ss=>fitR g r l s∧ks.wf g (Zl g.rules r).right ∧ rest.wf g ss
 | _,_ => False
def rul:Fo→ByteArray
 | nil=>noS
 | cons _ r _ _ _ => r
theorem wf_len {g:Gram}:∀{F:Fo} {ss:List ByteArray} (b:Int),F.wf g ss→(F.strt b).length = ss.length
 | nil,[],_,_ => rfl
 | cons _ r l ks rest,s::ss,b,h=>by simp[strt,wf_len (F:=rest) _ h.2.2]
 | nil,_ :: _,_,h=>h.elim
 | cons ..,[],_,h=>h.elim
theorem wf_put {g:Gram}:∀{F:Fo} {π:Pa} {S:Fo} {ss:List ByteArray},F.wf g ss→F.ok π→S.one→S.wf g [(Zl g.rules (F.get π).rul).left]→(F.put π S).wf g ss
 | cons i r l ks rest,.here,S,s::ss,h,_,hS,hw=>by
  obtain ⟨i',r',l',ks',rfl⟩:=one_iff.1 hS
  simp only[wf,get,rul,put,app] at h hw ⊢
  exact ⟨⟨hw.1.1,hw.1.2.1.trans h.1.2.1,hw.1.2.2⟩,hw.2.1,h.2.2⟩
 | cons i r l ks rest,.down π,S,s::ss,h,ho,hS,hw=>⟨h.1,wf_put (F:=ks) h.2.1 ho hS hw,h.2.2⟩
 | cons i r l ks rest,.next π,S,s::ss,h,ho,hS,hw=>⟨h.1,h.2.1,wf_put (F:=rest) h.2.2 ho hS hw⟩
 | nil,_,_,_ :: _,h,_,_,_ => h.elim
 | cons ..,_,_,[],h,_,_,_ => h.elim
theorem wf_get {g:Gram}:∀{F:Fo} {π:Pa} {ss:List ByteArray},F.wf g ss→F.ok π→(F.get π).wf g [(Zl g.rules (F.get π).rul).left]
 | cons i r l ks rest,.here,s::ss,h,_ => by
  simp only[wf,get,rul] at h ⊢
  exact ⟨⟨h.1.1,rfl,h.1.2.2⟩,h.2.1,trivial⟩
 | cons i r l ks rest,.down π,s::ss,h,ho=>wf_get (F:=ks) h.2.1 ho
 | cons i r l ks rest,.next π,s::ss,h,ho=>wf_get (F:=rest) h.2.2 ho
 | nil,_,_ :: _,h,_ => h.elim
 | cons ..,_,[],h,_ => h.elim
theorem fit_of {g:Gram} {i p q l:Int} {r s:ByteArray} {ks:Fo} {b:Int} (h:fitR g r l s) (hk:ks.wf g (Zl g.rules r).right):fitV g ⟨i,p,q,l,r,ks.strt b⟩ p q s=true:=
 fitV_iff.2 ⟨h.1,h.2.1,rfl,rfl,wf_len b hk,h.2.2.1,h.2.2.2⟩
theorem walk_ks {g:Gram} {t:List Nod}:∀(F:Fo) (f p:Nat) (ss:List ByteArray) (k:Int) (pre post:List Nod),F.wf g ss→F.sz≤f→t=pre++(F.flt pre.length p (k+1)++post) →
 Zf (Zt g t f) p (F.strt pre.length) ss k pre.length=pre.length+F.sz
 | nil,f,p,[],k,pre,post,_,_,_ => by simp[strt,Zf,sz]
 | nil,_,_,_ :: _,_,_,_,h,_,_ => h.elim
 | cons ..,_,_,[],_,_,_,h,_,_ => h.elim
 | cons i r l ks rest,f,p,s::ss,k,pre,post,h,hf,ht=>by
  simp only[sz] at hf
  obtain ⟨f,rfl⟩:∃f',f=f'+1:=⟨f-1,oT⟩
  have hb:((pre.length:Int)+1)=((pre++[(⟨i,p,k+1,l,r,ks.strt (pre.length+1)⟩:Nod)]).length : Int):=by simp
  have h1:Zt g t (f+1) pre.length p (k+1) s=pre.length+1+ks.sz:=by
   have hg:t.getD pre.length nodZ=⟨i,p,k+1,l,r,ks.strt (pre.length+1)⟩:=by rw[ht];simp[flt]
   have hl:pre.length<t.length:=by rw[ht];simp[flt]
   simp only[Zt]
   rw[if_pos hl,hg,if_pos (fit_of h.1 h.2.1)]
   dsimp only
   rw[hb]
   refine walk_ks ks f pre.length _ 0 (pre++[⟨i,p,k+1,l,r,ks.strt (pre.length+1)⟩]) (rest.flt ((pre.length:Int)+1+ks.sz) p (k+1+1)++post) h.2.1 oT ?_
   rw[←hb,ht]
   simp[flt]
  simp only[strt,Zf,Int.toNat_natCast]
  rw[if_neg (by simp),h1,if_neg oT]
  have hb2:((pre.length:Int)+1+ks.sz)=((pre++((⟨i,p,k+1,l,r,ks.strt (pre.length+1)⟩:Nod)::ks.flt ((pre.length:Int)+1) pre.length 1)).length : Int):=by simp[flt_len];omega
  rw[hb2,walk_ks rest (f+1) p ss (k+1) (pre++(⟨i,p,k+1,l,r,ks.strt (pre.length+1)⟩::ks.flt ((pre.length:Int)+1) pre.length 1)) post h.2.2 oT (by rw[←hb2,ht];simp[flt]),←hb2]
  simp only[sz];omega
theorem fo_tree {g:Gram} {F:Fo} {s:ByteArray} (h1:F.one) (h2:F.wf g [s]) (h3:F.sz≤16) (h4:idsV (F.flt 0 (-1) 0)=true):Za g (F.flt 0 (-1) 0) s=true:=by
 obtain ⟨i,r,l,ks,rfl⟩:=one_iff.1 h1
 have hl:=flt_len (cons i r l ks nil) 0 (-1) 0
 simp only[Za,Bool.and_eq_true,decide_eq_true_eq]
 refine ⟨⟨by rw[hl];simp[sz],by rw[hl];exact h3⟩,h4,?_⟩
 have ht:(cons i r l ks nil).flt 0 (-1) 0=[⟨i, -1,0,l,r,ks.strt (0+1)⟩]++(ks.flt ((1:Nat):Int) ((0:Nat):Int) (0+1)++[]):=by simp[flt]
 have hk:=walk_ks (g:=g) (t:=(cons i r l ks nil).flt 0 (-1) 0) ks ks.sz 0 _ 0 [⟨i, -1,0,l,r,ks.strt (0+1)⟩] [] h2.2.1 (Nat.le_refl _) ht
 rw[hl]
 simp only[sz] at hl ⊢
 rw[show 1+ks.sz+0=ks.sz+1 by omega]
 simp only[Zt]
 rw[if_pos (by rw[hl];omega)]
 have hg:((cons i r l ks nil).flt 0 (-1) 0).getD 0 nodZ=⟨i, -1,0,l,r,ks.strt (0+1)⟩:=by rw[ht];simp
 rw[hg,if_pos (fit_of h2.1 h2.2.1)]
 simp only[List.length_cons,List.length_nil,Int.natCast_zero,Int.zero_add] at hk ⊢
 rw[show ((0+1:Nat):Int)=1 by rfl] at hk
 rw[hk];omega
theorem take_two {t:List Nod} {a m n:Nat}:(t.drop a).take (m+n)=(t.drop a).take m++(t.drop (a+m)).take n:=by
 rw[List.take_add,List.drop_drop]
mutual
theorem of_walk {g:Gram} {t:List Nod}:∀(f i:Nat) (p q:Int) (s:ByteArray),0≤Zt g t f i p q s →
 ∃F:Fo,F.one∧F.wf g [s]∧(i+F.sz:Int)=Zt g t f i p q s∧(t.drop i).take F.sz=F.flt i p q
 | 0,i,p,q,s,h=>by simp[Zt] at h
 | f+1,i,p,q,s,h=>by
  simp only[Zt] at h
  split at h
  case isFalse=>omega
  rename_i hi
  split at h
  case isFalse=>omega
  rename_i hf
  obtain ⟨m1,m2,m3,m4,m5,m6,m7⟩:=fitV_iff.1 hf
  obtain ⟨K,k1,k2,k3,k4⟩:=of_kids f i (t.getD i nodZ).kids (Zl g.rules (t.getD i nodZ).rule).right 0 (i+1) m5 h
  refine ⟨cons (t.getD i nodZ).id (t.getD i nodZ).rule (t.getD i nodZ).lit K nil,trivial,⟨⟨m1,m2,m6,m7⟩,k1,trivial⟩,?_,?_⟩
  ·simp only[Zt]
   rw[if_pos hi,if_pos hf]
   simp only[sz]
   rw[show ((i:Int)+1)=((i+1:Nat):Int) by omega,←k3];omega
  ·simp only[sz,flt,Nat.add_zero,List.append_nil]
   rw[take_two,List.drop_eq_getElem_cons hi]
   simp only[Nat.zero_add,List.take_succ_cons,List.take_zero,List.cons_append,List.nil_append]
   have e:(t.drop (i+1)).take K.sz=K.flt (i+1) i 1:=by
    have:=k4;simpa using this
   rw[e]
   congr 1
   rw[←Z3 (d:=nodZ) hi]
   exact Nod.ext rfl m3 m4 rfl rfl (by rw[show ((i:Int)+1)=((i+1:Nat):Int) by omega];exact k2.symm)
theorem of_kids {g:Gram} {t:List Nod}:∀(f i:Nat) (cs:List Int) (ss:List ByteArray) (k:Int) (a:Nat),cs.length=ss.length→0≤Zf (Zt g t f) i cs ss k a →
 ∃F:Fo,F.wf g ss∧F.strt a=cs∧(a+F.sz:Int)=Zf (Zt g t f) i cs ss k a∧(t.drop a).take F.sz=F.flt a i (k+1)
 | f,i,[],[],k,a,_,h=>⟨nil,trivial,rfl,by simp[Zf,sz],by simp[sz,flt]⟩
 | f,i,[],_ :: _,k,a,hl,h=>by simp at hl
 | f,i,_ :: _,[],k,a,hl,h=>by simp at hl
 | f,i,c::cs,s::ss,k,a,hl,h=>by
  simp only[Zf] at h
  split at h
  case isTrue=>omega
  rename_i hc
  have hc:c=a:=by omega
  split at h
  case isTrue=>omega
  rename_i hw
  obtain ⟨A,a1,a2,a3,a4⟩:=of_walk f a i (k+1) s (by simpa using hw)
  obtain ⟨x,r,l,ks,rfl⟩:=one_iff.1 a1
  rw[Int.toNat_natCast] at h
  rw[←a3] at h
  have he:((a:Int)+(cons x r l ks nil).sz)=((a+(cons x r l ks nil).sz : Nat):Int):=by omega
  rw[he] at h
  obtain ⟨B,b1,b2,b3,b4⟩:=of_kids f i cs ss (k+1) _ (by simpa using hl) h
  refine ⟨cons x r l ks B,⟨a2.1,a2.2.1,b1⟩,?_,?_,?_⟩
  ·simp only[strt]
   rw[hc,←b2]
   congr 2
   simp only[sz];omega
  ·simp only[Zf]
   rw[if_neg oT,Int.toNat_natCast,if_neg oT,←a3,he,←b3]
   simp only[sz];omega
  ·have e:(cons x r l ks B).sz = (cons x r l ks nil).sz + B.sz:=by simp only[sz];omega
   rw[e,take_two,a4,b4]
   simp only[flt,List.append_nil,List.cons_append]
   congr 3
   simp only[sz];omega
end
theorem tree_fo {g:Gram} {t:List Nod} {s:ByteArray} (h:Za g t s=true):∃F:Fo,F.one∧F.wf g [s]∧F.sz≤16∧t=F.flt 0 (-1) 0:=by
 obtain ⟨h1,h2,h3⟩:=YU h
 obtain ⟨F,f1,f2,f3,f4⟩:=of_walk (g:=g) (t:=t) t.length 0 (-1) 0 s oT
 have:F.sz=t.length:=by omega
 refine ⟨F,f1,f2,oT,?_⟩
 rw[this] at f4
 simpa using f4
theorem sub_len {F:Fo} {π:Pa} (h:F.ok π):ZC (F.flt 0 (-1) 0) (F.pos π)=(F.get π).sz := by
 obtain ⟨L,R,p',q',e1,e2,e3,e4,_⟩:=flt_at 0 (-1) 0 h oT
 have h1:=get_one h
 have hl:(F.flt 0 (-1) 0).length = F.pos π+((F.get π).sz + R.length):=by rw[e1];simp[e2,flt_len]
 have hp:=Yk h1
 rw[Int.zero_add] at e1 e3 e4
 rw[subLen_eq (i:=F.pos π) (k:=F.pos π+(F.get π).sz) oT oT]
 ·omega
 ·intro j hj h2 h3
  have:(F.flt 0 (-1) 0)[j]=((F.get π).flt (F.pos π) p' q')[j-F.pos π]'(by rw[flt_len];omega):=by
   have e5:(F.flt 0 (-1) 0)[j]? = ((F.get π).flt (F.pos π) p' q')[j-F.pos π]? := by
    rw[e1,List.getElem?_append_right oT,List.getElem?_append_left (by rw[flt_len];omega),e2]
   rw[List.getElem?_eq_getElem hj,List.getElem?_eq_getElem (by rw[flt_len];omega)] at e5
   exact Option.some.inj e5
  rw[this]
  obtain ⟨i,r,l,ks,e⟩:=one_iff.1 h1
  have hm:=List.getElem_mem (l:=ks.flt (F.pos π+1) (F.pos π) 1) (n:=j-F.pos π-1) (by rw[flt_len];rw[e] at h3;simp only[sz] at h3;omega)
  obtain ⟨a1,_⟩:=flt_rng ks (F.pos π+1) (F.pos π) 1 oT _ hm
  have e6:((F.get π).flt (F.pos π) p' q')[j-F.pos π]? = (ks.flt (F.pos π+1) (F.pos π) 1)[j-F.pos π-1]? := by
   rw[e]
   simp only[flt,List.append_nil]
   rw[show j-F.pos π=(j-F.pos π-1)+1 by omega,List.getElem?_cons_succ,Nat.add_sub_cancel]
  rw[List.getElem?_eq_getElem (by rw[flt_len];omega),List.getElem?_eq_getElem (by rw[flt_len];rw[e] at h3;simp only[sz] at h3;omega)] at e6
  rw[Option.some.inj e6]
  omega
 ·intro hk
  have e5:(F.flt 0 (-1) 0)[F.pos π+(F.get π).sz]? = R.head?:=by
   rw[e1,List.getElem?_append_right oT,List.getElem?_append_right (by rw[flt_len];omega),flt_len,e2,List.head?_eq_getElem?]
   congr 1;omega
  rw[List.getElem?_eq_getElem hk] at e5
  have:=e4 _ e5.symm
  omega
theorem small_of {F:Fo} (b p q:Int) (hp:p<b) (n:Nat) (h0 : -1≤p) (h1:0≤b) (h2:b+F.sz≤n):∀x∈F.flt b p q,smallN n x:=by
 intro x hx
 obtain ⟨a1,a2⟩:=flt_rng F b p q hp x hx
 exact ⟨oT,fun k hk=>by have:=a2 k hk;omega⟩
theorem ouN_eq {n:Nat} {x:Nod} {e d:Int} (hn:n≤1048576) (hd : -1048576≤d∧d≤1048576) (h:smallN n x):outN e d x=ouN e d x:=by
 obtain ⟨h1,h2⟩:=h
 have key:∀c:Int, -1≤c∧c<n→shK e d c=shZ e d c:=fun c hc=>by
  unfold shK shZ
  split
  ·exact wr oT
  ·rfl
 unfold outN ouN
 rw[key _ h1,List.map_congr_left fun c hc=>key c (by have:=h2 c hc;omega)]
theorem mvN_eq {n:Nat} {x:Nod} {d:Int} (hn:n≤1048576) (hd : -1048576≤d∧d≤1048576) (h:smallN n x):movN d x=mvN d x:=by
 obtain ⟨h1,h2⟩:=h
 unfold movN mvN
 rw[wr (a:=x.parent+d) oT,List.map_congr_left fun c hc=>wr (a:=c+d) (by have:=h2 c hc;omega)]
theorem put_flt {S:Fo} (hS:S.one) (hs:S.sz≤1000) (x:Nod) (i:Nat) (hi:i≤1000):putT (S.flt 0 (-1) 0) x i=S.flt i x.parent x.place:=by
 obtain ⟨a,r,l,ks,rfl⟩:=one_iff.1 hS
 have hlen:((cons a r l ks nil).flt 0 (-1) 0).length = 1+ks.sz:=by rw[flt_len];simp[sz]
 have hsm:=small_of (F:=cons a r l ks nil) 0 (-1) 0 oT 1000 oT oT oT
 have hmv:∀x∈(cons a r l ks nil).flt 0 (-1) 0,movN i x=mvN i x:=fun x hx=>mvN_eq (n:=1000) oT oT (hsm x hx)
 unfold putT
 refine List.ext_getElem (by simp[flt_len]) fun k h1 h2=> ?_
 have hk:k<((cons a r l ks nil).flt 0 (-1) 0).length := by simpa using h1
 simp only[List.getElem_map,List.getElem_range,putK]
 rw[Z3 hk,hmv _ (List.getElem_mem hk)]
 cases k with
 | zero=>simp[flt,mvN,strt_mv,Int.add_comm]
 | succ k=>
  rw[if_neg oT]
  simp only[flt,List.append_nil,List.getElem_cons_succ]
  have:=flt_mv ks 1 0 1 i
  have e:ks.flt ((i:Int)+1) i 1=(ks.flt (0+1) 0 1).map (mvN i):=by rw[flt_mv];congr 1<;>omega
  simp only[e,List.getElem_map]
theorem rep_flt {F S:Fo} {π:Pa} (h:F.ok π) (hS:S.one) (hF:F.sz≤1000) (hs:S.sz≤1000):YV (F.flt 0 (-1) 0) (F.pos π) (S.flt 0 (-1) 0)=(F.put π S).flt 0 (-1) 0:=by
 obtain ⟨L,R,p',q',e1,e2,e3,e4,e5⟩:=flt_at 0 (-1) 0 h oT
 have hsub:=sub_len h
 have hp:=Yk (get_one h);have hpS:=Yk hS;have hz:=Ym h
 have hl:=flt_len F 0 (-1) 0
 rw[e5 S hS]
 have hne:S.flt 0 (-1) 0≠[]:=fun e=>by have:=congrArg List.length e;rw[flt_len] at this;simp at this;omega
 rw[YV,if_pos ⟨oT,oT,hne⟩,Int.toNat_natCast,hsub,flt_len]
 have hsm:=small_of (F:=F) 0 (-1) 0 oT 1000 oT oT oT
 have hou:∀e d:Int,(-1048576≤d∧d≤1048576)→∀l:List Nod,(∀x∈l,x∈F.flt 0 (-1) 0)→l.map (outN e d)=l.map (ouN e d):=fun e d hd l hl=>List.map_congr_left fun x hx=>ouN_eq (n:=1000) oT hd (hsm x (hl x hx))
 have hx:(F.flt 0 (-1) 0).getD (F.pos π) ndZ=((F.get π).flt (0+F.pos π) p' q').getD 0 ndZ:=by
  rw[e1,List.getD_eq_getElem?_getD,List.getElem?_append_right oT,List.getElem?_append_left (by rw[flt_len];omega),e2,Nat.sub_self,←List.getD_eq_getElem?_getD]
 have ht:(F.flt 0 (-1) 0).take (F.pos π)=L:=by rw[e1,←e2,List.take_left]
 have hd:(F.flt 0 (-1) 0).drop (F.pos π+(F.get π).sz)=R:=by
  rw[←List.drop_drop]
  have:(F.flt 0 (-1) 0).drop (F.pos π)=(F.get π).flt (0+F.pos π) p' q'++R:=by rw[e1,←e2,List.drop_left]
  rw[this,List.drop_left' (flt_len ..)]
 rw[ht,hd,hx,put_flt hS hs _ _ oT]
 obtain ⟨i,r,l,ks,e⟩:=one_iff.1 (get_one h)
 have hpp:((F.get π).flt (0+F.pos π) p' q').getD 0 ndZ=⟨i,p',q',l,r,ks.strt (0+F.pos π+1)⟩:=by rw[e];simp[flt]
 rw[hpp,hou _ _ oT L (fun x hx=>by rw[e1];simp[hx]),hou _ _ oT R (fun x hx=>by rw[e1];simp[hx])]
 simp
theorem sub_flt {F:Fo} {π:Pa} (h:F.ok π) (hF:F.sz≤1000):Y2 (F.flt 0 (-1) 0) (F.pos π)=(F.get π).flt 0 (-1) 0:=by
 obtain ⟨L,R,p',q',e1,e2,e3,e4,e5⟩:=flt_at 0 (-1) 0 h oT
 have hsub:=sub_len h
 have hp:=Yk (get_one h);have hz:=Ym h
 have hl:=flt_len F 0 (-1) 0
 rw[subT_in oT,hsub]
 obtain ⟨i,r,l,ks,e⟩:=one_iff.1 (get_one h)
 have hsm:=small_of (F:=F) 0 (-1) 0 oT 1000 oT oT oT
 refine List.ext_getElem (by simp[flt_len]) fun k h1 h2=> ?_
 have hk:k<(F.get π).sz := by simpa using h1
 have hkt:F.pos π+k<(F.flt 0 (-1) 0).length := by omega
 have hx:(F.flt 0 (-1) 0)[F.pos π+k]? = ((F.get π).flt (0+F.pos π) p' q')[k]? := by
  rw[e1,List.getElem?_append_right oT,List.getElem?_append_left (by rw[flt_len];omega),e2]
  congr 1;omega
 rw[List.getElem?_eq_getElem hkt,List.getElem?_eq_getElem (by rw[flt_len];omega)] at hx
 have hx:=Option.some.inj hx
 have hmv:=mvN_eq (n:=1000) (d:=0-(F.pos π:Int)) oT oT (hsm _ (List.getElem_mem hkt))
 simp only[List.getElem_map,List.getElem_range,subK]
 rw[Z3 hkt,hmv,hx]
 have key:((F.get π).flt 0 (-1) 0)[k]? = if k=0 then some ⟨i, -1,0,l,r,ks.strt (0+1)⟩ else (ks.flt (0+1) 0 1)[k-1]? := by
  rw[e]
  cases k with
  | zero=>simp[flt]
  | succ k=>simp[flt]
 have key2:((F.get π).flt (0+F.pos π) p' q')[k]? = if k=0 then some ⟨i,p',q',l,r,ks.strt (0+F.pos π+1)⟩ else (ks.flt (0+F.pos π+1) (0+F.pos π) 1)[k-1]? := by
  rw[e]
  cases k with
  | zero=>simp[flt]
  | succ k=>simp[flt]
 rw[List.getElem?_eq_getElem h2] at key
 rw[List.getElem?_eq_getElem (by rw[flt_len];omega)] at key2
 by_cases h0:k=0
 ·rw[if_pos h0] at key key2 ⊢
  rw[Option.some.inj key,Option.some.inj key2]
  simp only[rootN,mvN,strt_mv]
  congr 2;omega
 ·rw[if_neg h0] at key key2 ⊢
  have hk1:k-1<ks.sz:=by rw[e] at hk;simp only[sz] at hk;omega
  rw[List.getElem?_eq_getElem (by rw[flt_len];omega)] at key key2
  rw[Option.some.inj key,Option.some.inj key2]
  have e7:ks.flt (0+1) 0 1=(ks.flt (0+F.pos π+1) (0+F.pos π) 1).map (mvN (0-(F.pos π:Int))):=by rw[flt_mv];congr 1<;>omega
  simp only[e7,List.getElem_map]
end Fo
end Go.Gh
namespace Go.Gh
end Go.Gh
namespace Go.Gh
abbrev Ky:=Int×ByteArray×Int
def keyN (x:Nod):Ky:=(x.id,x.rule,x.lit)
namespace Fo
def keys:Fo→List Ky
 | nil=>[]
 | cons i r l ks rest=>(i,r,l)::(ks.keys++rest.keys)
theorem flt_keys:∀(F:Fo) b p q,(F.flt b p q).map keyN=F.keys
 | nil,_,_,_ => rfl
 | cons i r l ks rest,b,p,q=>by simp[flt,keys,keyN,flt_keys ks,flt_keys rest]
theorem app_keys (P:Ky→Bool):∀(F G:Fo),(F.app G).keys.countP P=F.keys.countP P+G.keys.countP P
 | nil,G=>by simp[app,keys]
 | cons i r l ks rest,G=>by
  simp only[app,keys,List.countP_cons,List.countP_append,app_keys P rest G];omega
theorem put_keys (P:Ky→Bool):∀{F:Fo} {π:Pa} (S:Fo),F.ok π→(F.put π S).keys.countP P+(F.get π).keys.countP P=F.keys.countP P+S.keys.countP P
 | cons i r l ks rest,.here,S,_ => by
  simp only[put,get,keys,List.countP_cons,List.countP_append,app_keys,List.countP_nil];omega
 | cons i r l ks rest,.down π,S,h=>by
  have:=put_keys P (F:=ks) S h
  simp only[put,get,keys,List.countP_cons,List.countP_append];omega
 | cons i r l ks rest,.next π,S,h=>by
  have:=put_keys P (F:=rest) S h
  simp only[put,get,keys,List.countP_cons,List.countP_append];omega
end Fo
theorem ids_iff {t:List Nod}:idsV t=true↔(∀x∈t,1≤x.id∧x.id≤999)∧∀n,t.countP (fun x=>decide (x.id=n))≤1:=by
 constructor
 ·intro h
  have hg:∀i (hi:i<t.length),(1≤t[i].id ∧ t[i].id ≤ 999)∧∀y∈t.take i,¬y.id=t[i].id := fun i hi=>by
   simp only[idsV,List.all_eq_true,List.mem_range] at h
   have h1:=h i hi
   simp only[gid,Bool.and_eq_true,decide_eq_true_eq,Bool.not_eq_true',Z3 hi] at h1
   exact ⟨h1.1,fun y hy e=>by have:=List.any_eq_false.1 h1.2 y hy;simp[e] at this⟩
  refine ⟨fun x hx=> ?_,?_⟩
  ·obtain ⟨i,hi,rfl⟩:=List.mem_iff_getElem.1 hx
   exact (hg i hi).1
  ·intro n
   have key:∀k,k≤t.length→(t.take k).countP (fun x=>decide (x.id=n))≤1:=by
    intro k
    induction k with
    | zero=>simp
    | succ k ih=>
     intro hk
     have h1:=ih oT
     rw[List.take_succ_eq_append_getElem oT,List.countP_append,List.countP_singleton]
     by_cases e:t[k].id = n
     ·have:(t.take k).countP (fun x=>decide (x.id=n))=0:=by
       rw[List.countP_eq_zero]
       intro y hy
       have:=(hg k oT).2 y hy
       simpa[←e] using this
      rw[this];split<;>omega
     ·rw[if_neg (by simpa using e)];omega
   have:=key t.length (Nat.le_refl _)
   rwa [List.take_length] at this
 ·rintro ⟨h1,h2⟩
  refine idsV_ok fun i hi=> ?_
  simp only[gid,Bool.and_eq_true,decide_eq_true_eq,Bool.not_eq_true',Z3 hi]
  refine ⟨h1 _ (List.getElem_mem hi),List.any_eq_false.2 fun y hy=> ?_⟩
  intro e
  have e:y.id=t[i].id := by simpa using e
  obtain ⟨n,hn⟩:∃n,t[i].id = n:=⟨_,rfl⟩
  rw[hn] at e
  have h3:=h2 n
  have h4:t.countP (fun x=>decide (x.id=n))=(t.take i).countP (fun x=>decide (x.id=n))+(t.drop i).countP (fun x=>decide (x.id=n)):=by
   rw[←List.countP_append,List.take_append_drop]
  rw[h4,List.drop_eq_getElem_cons hi,List.countP_cons] at h3
  have h5:0<(t.take i).countP (fun x=>decide (x.id=n)):=List.countP_pos_iff.2 ⟨y,hy,by simpa using e⟩
  simp only[hn,decide_true,if_true] at h3
  omega
theorem ids_at {t:List Nod} (h:idsV t=true) {x:Nod} (hx:x∈t):∃j:Nat,Zz t x.id=j∧∃hj:j<t.length,t[j]=x:=by
 obtain ⟨i,hi,rfl⟩:=List.mem_iff_getElem.1 hx
 unfold Zz
 rcases ixOf_cases (fun y:Nod=>decide (y.id=t[i].id)) t with h1|h1
 ·have:=ixOf_no h1 _ hx
  simp at this
 ·obtain ⟨hl,hp,_⟩:=ixOf_at (p:=fun y:Nod=>decide (y.id=t[i].id)) (l:=t) (i:=(Zg (fun y:Nod=>decide (y.id=t[i].id)) t).toNat) oT
  refine ⟨_,oT,hl,?_⟩
  have hid:=of_decide_eq_true hp
  have:=ids_inj h hl hi hid
  simp only[this]
def idsK (l:List Ky):Prop:=l.countP (fun k=> !decide (1≤k.1∧k.1≤999))=0∧∀n,l.countP (fun k=>decide (k.1=n))≤1
namespace Fo
theorem ids_keys {F:Fo} (b p q:Int):idsV (F.flt b p q)=true↔idsK F.keys:=by
 rw[ids_iff]
 have hc:∀P:Ky→Bool,F.keys.countP P=(F.flt b p q).countP (fun x=>P (keyN x)):=fun P=>by rw[←flt_keys F b p q,List.countP_map];rfl
 unfold idsK
 simp only[hc]
 rw[List.countP_eq_zero]
 refine and_congr (forall_congr' fun x=>forall_congr' fun _ => ?_) Iff.rfl
 by_cases h:1≤x.id∧x.id≤999<;>simp[keyN,h]
def rid:Fo→Int
 | nil=>0
 | cons i _ _ _ _ => i
def rlit:Fo→Int
 | nil=>0
 | cons _ _ l _ _ => l
theorem at_flt {F:Fo} {π:Pa} (h:F.ok π):∃hl:F.pos π<(F.flt 0 (-1) 0).length,(F.flt 0 (-1) 0)[F.pos π].id = (F.get π).rid ∧ (F.flt 0 (-1) 0)[F.pos π].rule = (F.get π).rul ∧ (F.flt 0 (-1) 0)[F.pos π].lit = (F.get π).rlit := by
 obtain ⟨L,R,p',q',e1,e2,e3,e4,e5⟩:=flt_at 0 (-1) 0 h oT
 have hp:=Yk (get_one h);have hz:=Ym h;have hl:=flt_len F 0 (-1) 0
 obtain ⟨i,r,l,ks,e⟩:=one_iff.1 (get_one h)
 have hk:F.pos π<(F.flt 0 (-1) 0).length := by omega
 have hx:(F.flt 0 (-1) 0)[F.pos π]? = some ⟨i,p',q',l,r,ks.strt (0+F.pos π+1)⟩:=by
  rw[e1,List.getElem?_append_right oT,e2,Nat.sub_self,e]
  simp[flt]
 rw[List.getElem?_eq_getElem hk] at hx
 refine ⟨hk,?_⟩
 rw[Option.some.inj hx,e]
 exact ⟨rfl,rfl,rfl⟩
theorem sym_flt {g:Gram} {F:Fo} {π:Pa} (h:F.ok π):symN g (F.flt 0 (-1) 0) (F.pos π)=(Zl g.rules (F.get π).rul).left := by
 obtain ⟨hl,_,h2,_⟩:=at_flt h
 rw[symN_in hl,h2]
theorem out_key {F S:Fo} {π:Pa} (h:F.ok π) (hS:S.one) {k:Nat} (hk:k<(F.flt 0 (-1) 0).length) (ho:¬(F.pos π≤k∧k<F.pos π+(F.get π).sz)):keyN (F.flt 0 (-1) 0)[k]∈((F.put π S).flt 0 (-1) 0).map keyN:=by
 obtain ⟨L,R,p',q',e1,e2,e3,e4,e5⟩:=flt_at 0 (-1) 0 h oT
 have hou:∀e d:Int,∀l:List Nod,(l.map (ouN e d)).map keyN=l.map keyN:=fun e d l=>by rw[List.map_map];rfl
 rw[e5 S hS]
 simp only[List.map_append,hou]
 have hx:(F.flt 0 (-1) 0)[k]∈L∨(F.flt 0 (-1) 0)[k]∈R:=by
  have h1:(F.flt 0 (-1) 0)[k]? = some (F.flt 0 (-1) 0)[k]:=List.getElem?_eq_getElem hk
  rcases Nat.lt_or_ge k (F.pos π) with h2|h2
  ·left
   have h3:(F.flt 0 (-1) 0)[k]? = L[k]? := by rw[e1,List.getElem?_append_left oT]
   rw[h3] at h1
   exact List.mem_of_getElem? h1
  ·right
   have h3:(F.flt 0 (-1) 0)[k]? = R[k-L.length-(F.get π).sz]? := by
    rw[e1,List.getElem?_append_right oT,List.getElem?_append_right (by rw[flt_len];omega),flt_len]
   rw[h3] at h1
   exact List.mem_of_getElem? h1
 rcases hx with hx|hx
 ·exact List.mem_append_left _ (List.mem_map_of_mem hx)
 ·exact List.mem_append_right _ (List.mem_append_right _ (List.mem_map_of_mem hx))
theorem ouN_0 (e:Int) (l:List Nod):l.map (ouN e 0)=l:=by
 have h0:∀k:Int,shZ e 0 k=k:=fun k=>by unfold shZ;split<;>omega
 conv=>rhs;rw[←List.map_id l]
 refine List.map_congr_left fun x _ => ?_
 have:x.kids.map (shZ e 0)=x.kids:=by
  conv=>rhs;rw[←List.map_id x.kids]
  exact List.map_congr_left fun k _ => h0 k
 simp only[ouN,h0,this,id]
def setL (v:Int):Fo→Fo
 | nil=>nil
 | cons i r _ ks rest=>cons i r v ks rest
theorem lit_flt {F:Fo} {π:Pa} (h:F.ok π) (v:Int):setLit (F.flt 0 (-1) 0) (F.pos π) v=(F.put π ((F.get π).setL v)).flt 0 (-1) 0:=by
 obtain ⟨L,R,p',q',e1,e2,e3,e4,e5⟩:=flt_at 0 (-1) 0 h oT
 obtain ⟨i,r,l,ks,e⟩:=one_iff.1 (get_one h)
 have h1:((F.get π).setL v).one := by rw[e];trivial
 have h2:((F.get π).setL v).sz = (F.get π).sz := by rw[e];rfl
 have hp:=Yk (get_one h);have hz:=Ym h;have hl:=flt_len F 0 (-1) 0
 rw[e5 _ h1,h2,Int.sub_self,ouN_0,ouN_0]
 have hd:(F.flt 0 (-1) 0).getD (F.pos π) nodZ=⟨i,p',q',l,r,ks.strt (0+F.pos π+1)⟩:=by
  rw[e1,List.getD_eq_getElem?_getD,List.getElem?_append_right oT,e2,Nat.sub_self,e]
  simp[flt]
 unfold setLit
 rw[hd,e1,←e2,e]
 simp[flt,setL]
theorem swap_flt {g:Gram} {F:Fo} {π ρ:Pa} (h1:F.ok π) (h2:F.ok ρ) (hd:dis π ρ) (hF:F.sz≤100) :
 swT g (F.flt 0 (-1) 0) (F.pos π) (F.pos ρ)=if (Zl g.rules (F.get π).rul).left = (Zl g.rules (F.get ρ).rul).left then (((F.put ρ (F.get π)).put π (F.get ρ)).flt 0 (-1) 0,0) else (F.flt 0 (-1) 0,3):=by
 have hle:=dis_le h1 h2 hd
 have z1:=Ym h1;have z2:=Ym h2
 obtain ⟨d1,d2,d3⟩:=dis_2 (S:=F.get π) h1 h2 hd (get_one h1)
 have z3:=put_sz (F.get π) h2
 unfold swT
 rw[sub_len h1,if_neg oT,sym_flt h1,sym_flt h2,sub_flt h1 oT,sub_flt h2 oT]
 rw[rep_flt h2 (get_one h1) oT oT,←d3,rep_flt d1 (get_one h2) oT oT]
theorem swap_keys {F:Fo} {π ρ:Pa} (h1:F.ok π) (h2:F.ok ρ) (hd:dis π ρ) (P:Ky→Bool):((F.put ρ (F.get π)).put π (F.get ρ)).keys.countP P=F.keys.countP P:=by
 obtain ⟨d1,d2,d3⟩:=dis_2 (S:=F.get π) h1 h2 hd (get_one h1)
 have a:=put_keys P (F.get π) h2
 have b:=put_keys P (F.get ρ) d1
 rw[d2] at b
 omega
theorem swap_sz {F:Fo} {π ρ:Pa} (h1:F.ok π) (h2:F.ok ρ) (hd:dis π ρ):((F.put ρ (F.get π)).put π (F.get ρ)).sz = F.sz:=by
 obtain ⟨d1,d2,d3⟩:=dis_2 (S:=F.get π) h1 h2 hd (get_one h1)
 have a:=put_sz (F.get π) h2
 have b:=put_sz (F.get ρ) d1
 rw[d2] at b
 omega
theorem swap_wf {g:Gram} {F:Fo} {π ρ:Pa} {ss:List ByteArray} (hw:F.wf g ss) (h1:F.ok π) (h2:F.ok ρ) (hd:dis π ρ) (he:(Zl g.rules (F.get π).rul).left = (Zl g.rules (F.get ρ).rul).left):((F.put ρ (F.get π)).put π (F.get ρ)).wf g ss:=by
 obtain ⟨d1,d2,d3⟩:=dis_2 (S:=F.get π) h1 h2 hd (get_one h1)
 refine wf_put (wf_put hw h2 (get_one h1) ?_) d1 (get_one h2) ?_
 ·rw[←he];exact wf_get hw h1
 ·rw[d2,he];exact wf_get hw h2
theorem put_one:∀{F:Fo} {π:Pa} {S:Fo},F.one→F.ok π→S.one→(F.put π S).one
 | cons i r l ks nil,.here,S,_,_,hS=>by obtain ⟨_,_,_,_,rfl⟩:=one_iff.1 hS;trivial
 | cons i r l ks nil,.down π,S,_,_,_ => trivial
 | cons i r l ks nil,.next π,S,_,h,_ => by exact absurd h (by simp[ok])
end Fo
open Fo
theorem pos_at {F:Fo} {t:List Nod} (ht:t=F.flt 0 (-1) 0) {i:Int} (h:¬i<0) (hl:i<t.length):∃π,F.ok π∧i=F.pos π∧i.toNat=F.pos π:=by
 rw[ht,flt_len] at hl
 obtain ⟨π,h1,h2⟩:=Fo.find F i.toNat oT
 exact ⟨π,h1,oT,h2.symm⟩
theorem ixId_lt (t:List Nod) (n:Int):Zz t n<t.length:=by
 unfold Zz
 rcases ixOf_cases (fun y:Nod=>decide (y.id=n)) t with h|h<;>omega
theorem tree_one {g:Gram} {s:ByteArray} {F:Fo} (h1:F.one) (h2:F.wf g [s]) (h3:F.sz≤16) (h4:idsK F.keys):Za g (F.flt 0 (-1) 0) s=true:=fo_tree h1 h2 h3 ((ids_keys _ _ _).2 h4)
theorem key_at {t u:List Nod} (hu:idsV u=true) {x:Nod} (h:keyN x∈u.map keyN):∃j:Nat,Zz u x.id=j∧∃hj:j<u.length,u[j].lit = x.lit∧u[j].rule = x.rule:=by
 obtain ⟨y,hy,e⟩:=List.mem_map.1 h
 simp only[keyN,Prod.mk.injEq] at e
 obtain ⟨j,h1,hj,h2⟩:=ids_at hu hy
 refine ⟨j,by rw[←e.1];exact h1,hj,?_⟩
 rw[h2]
 exact ⟨e.2.2,e.2.1⟩
theorem edited_law {g:Gram} {t:List Nod} {e:Edi} (h:(edT g t e).2 = 0) :
 Za g (edT g t e).1 (Yv g)=true∧∀k (hk:k<t.length),¬(Zz t e.node≤k∧(k:Int)<Zz t e.node+ZC t (Zz t e.node).toNat) →
  ∃j:Nat,Zz (edT g t e).1 t[k].id = j∧∃hj:j<(edT g t e).1.length,(edT g t e).1[j].lit = t[k].lit ∧ (edT g t e).1[j].rule = t[k].rule := by
 have key:∀u:List Nod,Za g u (Yv g)=true→(∀k (hk:k<t.length),¬(Zz t e.node≤k∧(k:Int)<Zz t e.node+ZC t (Zz t e.node).toNat)→keyN t[k]∈u.map keyN) →
  Za g u (Yv g)=true∧∀k (hk:k<t.length),¬(Zz t e.node≤k∧(k:Int)<Zz t e.node+ZC t (Zz t e.node).toNat)→∃j:Nat,Zz u t[k].id = j∧∃hj:j<u.length,u[j].lit = t[k].lit ∧ u[j].rule = t[k].rule :=
  fun u hu hk=>⟨hu,fun k h1 h2=>key_at (t:=t) (YU hu).2.1 (hk k h1 h2)⟩
 unfold edT at *
 split at h
 case isFalse=>simp at h
 rename_i hv
 obtain ⟨hacc,htr,hkind⟩:=hv
 rw[if_pos ⟨hacc,htr,hkind⟩]
 split at h
 case isTrue=>simp at h
 rename_i hix
 rw[if_neg hix]
 have hi0:¬Zz t e.node<0:=fun h=>hix (.inl h)
 have hil:=ixId_lt t e.node
 obtain ⟨F,f1,f2,f3,f4⟩:=tree_fo htr
 have fid:idsK F.keys:=(ids_keys 0 (-1) 0).1 (by rw[←f4];exact (YU htr).2.1)
 obtain ⟨π,p1,p2,p3⟩:=pos_at f4 hi0 hil
 split at h
 ·rename_i hk2
  rw[if_pos hk2]
  unfold replT at *
  split at h
  case isFalse=>simp at h
  rename_i hu
  rw[if_pos hu]
  split at h
  case isTrue=>simp at h
  rename_i hany
  rw[if_neg hany]
  split at h
  case isTrue=>simp at h
  rename_i hsz
  rw[if_neg hsz]
  obtain ⟨U,u1,u2,u3,u4⟩:=tree_fo hu
  have uid:idsK U.keys:=(ids_keys 0 (-1) 0).1 (by rw[←u4];exact (YU hu).2.1)
  rw[p3] at hany hsz u2 ⊢
  rw[p2]
  have hsub:ZC t (F.pos π)=(F.get π).sz := by rw[f4];exact sub_len p1
  have hout:∀k (hk:k<t.length),¬(F.pos π≤k∧k<F.pos π+(F.get π).sz)→Zz e.tree t[k].id < 0:=fun k hk ho=>by
   have h1:=List.any_eq_false.1 (by simpa using hany) k (List.mem_range.2 hk)
   simp only[outB,Bool.and_eq_true,Bool.not_eq_true',decide_eq_false_iff_not,decide_eq_true_eq,Z3 hk,hsub] at h1
   by_cases h2:Zz e.tree t[k].id < 0
   ·exact h2
   ·exact absurd ⟨oT,oT⟩ h1
  have hz:=Ym p1
  have hpz:=put_sz U p1
  have hrep:YV t (F.pos π) e.tree=(F.put π U).flt 0 (-1) 0:=by rw[f4,u4];exact rep_flt p1 u1 oT oT
  simp only[hrep]
  have hul:e.tree.length=U.sz:=by rw[u4,flt_len]
  have htl:t.length=F.sz:=by rw[f4,flt_len]
  rw[p3,p2] at key
  refine key _ (tree_one (put_one f1 p1 u1) (wf_put f2 p1 u1 ?_) (by rw[hsub] at hsz;omega) ⟨?_,fun n=> ?_⟩) fun k hk ho=> ?_
  ·have:=sym_flt (g:=g) p1
   rw[←f4] at this
   rw[←this];exact u2
  ·have:=put_keys (fun k=> !decide (1≤k.1∧k.1≤999)) U p1
   have h1:=fid.1;have h2:=uid.1
   omega
  ·have hc:=put_keys (fun k=>decide (k.1=n)) U p1
   have h1:=fid.2 n;have h2:=uid.2 n
   rcases Nat.eq_zero_or_pos (U.keys.countP (fun k=>decide (k.1=n))) with h3|h3
   ·omega
   ·
     obtain ⟨L,R,p',q',e1,e2,e3,e4,e5⟩:=flt_at 0 (-1) 0 p1 oT
     have hn:∀x∈e.tree,x.id=n→¬Zz e.tree n<0:=fun x hx hxn=>by
      obtain ⟨j,hj,_⟩:=ids_at (YU hu).2.1 hx
      rw[hxn] at hj;omega
     obtain ⟨y,hy,hyn⟩:=List.countP_pos_iff.1 h3
     rw[←flt_keys U 0 (-1) 0,←u4] at hy
     obtain ⟨x,hx,rfl⟩:=List.mem_map.1 hy
     have hxn:x.id=n:=of_decide_eq_true hyn
     have hne:=hn x hx hxn
     have hno:∀k (hk:k<t.length),¬(F.pos π≤k∧k<F.pos π+(F.get π).sz)→¬t[k].id = n:=fun k hk ho e=>hne (by rw[←e];exact hout k hk ho)
     have hLc:L.countP (fun x=>decide (x.id=n))=0:=by
      rw[List.countP_eq_zero]
      intro z hz2
      obtain ⟨k,hk,rfl⟩:=List.mem_iff_getElem.1 hz2
      have hkt:k<t.length:=by omega
      have:t[k]=L[k]:=by
       have h6:t[k]? = L[k]? := by rw[f4,e1,List.getElem?_append_left hk]
       rw[List.getElem?_eq_getElem hkt,List.getElem?_eq_getElem hk] at h6
       exact Option.some.inj h6
      have:=this▸hno k hkt oT
      simpa using this
     have hRc:R.countP (fun x=>decide (x.id=n))=0:=by
      rw[List.countP_eq_zero]
      intro z hz2
      obtain ⟨k,hk,rfl⟩:=List.mem_iff_getElem.1 hz2
      have hkl:F.sz=L.length+((F.get π).sz + R.length):=by
       have:=congrArg List.length e1
       simpa[flt_len] using this
      have hkt:F.pos π+(F.get π).sz + k<t.length:=by omega
      have:t[F.pos π+(F.get π).sz + k]=R[k]:=by
       have h6:t[F.pos π+(F.get π).sz + k]? = R[k]? := by
        rw[f4,e1,List.getElem?_append_right oT,List.getElem?_append_right (by rw[flt_len];omega),flt_len]
        congr 1;omega
       rw[List.getElem?_eq_getElem hkt,List.getElem?_eq_getElem hk] at h6
       exact Option.some.inj h6
      have:=this▸hno _ hkt oT
      simpa using this
     have hFc:F.keys.countP (fun k=>decide (k.1=n))=(F.get π).keys.countP (fun k=>decide (k.1=n)):=by
      have h7:F.keys.countP (fun k=>decide (k.1=n))=(F.flt 0 (-1) 0).countP (fun x=>decide (x.id=n)):=by rw[←flt_keys F 0 (-1) 0,List.countP_map];rfl
      have h8:(F.get π).keys.countP (fun k=>decide (k.1=n))=((F.get π).flt (0+F.pos π) p' q').countP (fun x=>decide (x.id=n)):=by rw[←flt_keys (F.get π) (0+F.pos π) p' q',List.countP_map];rfl
      rw[h7,h8,e1,List.countP_append,List.countP_append,hLc,hRc]
      omega
     omega
  ·have:=out_key p1 u1 (k:=k) (by rw[flt_len];omega) (by rw[hsub] at ho;omega)
   simpa only[←f4] using this
 split at h
 ·rename_i hk2 hk3
  rw[if_neg hk2,if_pos hk3]
  have hi1:¬Zz t e.other<0:=fun h=>hix (.inr ⟨hk3,h⟩)
  obtain ⟨ρ,r1,r2,r3⟩:=pos_at f4 hi1 (ixId_lt t e.other)
  have main:∀π ρ:Pa,F.ok π→F.ok ρ→F.pos π≤F.pos ρ→(swT g t (F.pos π) (F.pos ρ)).2 = 0 →
   Za g (swT g t (F.pos π) (F.pos ρ)).1 (Yv g)=true∧∀k (hk:k<t.length),keyN t[k]∈(swT g t (F.pos π) (F.pos ρ)).1.map keyN:=by
   intro π ρ h1 h2 hle hc
   have hd:dis π ρ:=by
    refine dis_of h1 h2 ?_
    unfold swT at hc
    rw[f4,sub_len h1] at hc
    split at hc
    ·simp at hc
    ·omega
   rw[f4,swap_flt h1 h2 hd oT] at hc ⊢
   split at hc
   case isFalse=>simp at hc
   rename_i he
   rw[if_pos he]
   obtain ⟨d1,d2,d3⟩:=dis_2 (S:=F.get π) h1 h2 hd (get_one h1)
   refine ⟨tree_one (put_one (put_one f1 h2 (get_one h1)) d1 (get_one h2)) (swap_wf f2 h1 h2 hd he) (by rw[swap_sz h1 h2 hd];exact f3) ⟨by rw[swap_keys h1 h2 hd];exact fid.1,fun n=>by rw[swap_keys h1 h2 hd];exact fid.2 n⟩,fun k hk=> ?_⟩
   rw[flt_keys]
   have hm:keyN (F.flt 0 (-1) 0)[k]∈F.keys:=by rw[←flt_keys F 0 (-1) 0];exact List.mem_map_of_mem (List.getElem_mem hk)
   have h3:=swap_keys h1 h2 hd (fun y=>decide (y=keyN (F.flt 0 (-1) 0)[k]))
   have h4:0<F.keys.countP (fun y=>decide (y=keyN (F.flt 0 (-1) 0)[k])):=List.countP_pos_iff.2 ⟨_,hm,by simp⟩
   rw[←h3] at h4
   obtain ⟨y,hy,e⟩:=List.countP_pos_iff.1 h4
   have e:=of_decide_eq_true e
   rw[←e];exact hy
  rcases Nat.le_total (F.pos π) (F.pos ρ) with hle|hle
  ·have e1:(min (Zz t e.node) (Zz t e.other)).toNat = F.pos π:=by omega
   have e2:(max (Zz t e.node) (Zz t e.other)).toNat = F.pos ρ:=by omega
   rw[e1,e2] at h ⊢
   obtain ⟨a,b⟩:=main π ρ p1 r1 hle h
   exact key _ a fun k hk _ => b k hk
  ·have e1:(min (Zz t e.node) (Zz t e.other)).toNat = F.pos ρ:=by omega
   have e2:(max (Zz t e.node) (Zz t e.other)).toNat = F.pos π:=by omega
   rw[e1,e2] at h ⊢
   obtain ⟨a,b⟩:=main ρ π r1 p1 hle h
   exact key _ a fun k hk _ => b k hk
 ·rename_i hk2 hk3
  rw[if_neg hk2,if_neg hk3]
  unfold litEd at *
  split at h
  case isFalse=>simp at h
  rename_i hc
  rw[if_pos hc]
  rw[p3] at hc ⊢
  rw[p2]
  obtain ⟨i,r,l,ks,eg⟩:=one_iff.1 (get_one p1)
  obtain ⟨hl,a1,a2,a3⟩:=at_flt p1
  have hlt:setLit t (F.pos π) e.lit=(F.put π ((F.get π).setL e.lit)).flt 0 (-1) 0:=by rw[f4];exact lit_flt p1 e.lit
  have hS:((F.get π).setL e.lit).one := by rw[eg];trivial
  have hsz:((F.get π).setL e.lit).sz = (F.get π).sz := by rw[eg];rfl
  have hpz:=put_sz ((F.get π).setL e.lit) p1
  have hkc:∀Q:Int→Bool,((F.get π).setL e.lit).keys.countP (fun k=>Q k.1)=(F.get π).keys.countP (fun k=>Q k.1):=fun Q=>by rw[eg];simp[setL,keys,List.countP_cons]
  have hsub:ZC t (F.pos π)=(F.get π).sz := by rw[f4];exact sub_len p1
  simp only[hlt]
  rw[p3,p2] at key
  refine key _ (tree_one (put_one f1 p1 hS) (wf_put f2 p1 hS ?_) oT ⟨?_,fun n=> ?_⟩) fun k hk ho=> ?_
  ·have hw:=wf_get f2 p1
   rw[f4,Z3 hl,a2] at hc
   rw[eg] at hw hc ⊢
   simp only[wf,setL,rul] at hw hc ⊢
   exact ⟨⟨hw.1.1,rfl,hc.2,.inl hc.1⟩,hw.2.1,trivial⟩
  ·have h1:=put_keys (fun k=> !decide (1≤k.1∧k.1≤999)) ((F.get π).setL e.lit) p1
   have h2:=hkc fun n=> !decide (1≤n∧n≤999)
   have h3:=fid.1
   omega
  ·have h1:=put_keys (fun k=>decide (k.1=n)) ((F.get π).setL e.lit) p1
   have h2:=hkc fun m=>decide (m=n)
   have h3:=fid.2 n
   omega
  ·have:=out_key p1 hS (k:=k) (by rw[←f4];exact hk) (by rw[hsub] at ho;omega)
   simpa only[←f4] using this
theorem swapped_law {g:Gram} {t:List Nod} {e:Edi} (hk:e.kind=3) (h:(edT g t e).2 = 0):edT g (edT g t e).1 e=(t,0):=by
 have htree:=(edited_law h).1
 unfold edT at h htree ⊢
 split at h
 case isFalse=>simp at h
 rename_i hv
 rw[if_pos hv] at htree ⊢
 obtain ⟨hacc,htr,hkind⟩:=hv
 split at h
 case isTrue=>simp at h
 rename_i hix
 rw[if_neg hix] at htree ⊢
 have hk2:¬e.kind=2:=by omega
 simp only[if_neg hk2,if_pos hk] at h htree ⊢
 have hi0:¬Zz t e.node<0:=fun h=>hix (.inl h)
 have hi1:¬Zz t e.other<0:=fun h=>hix (.inr ⟨hk,h⟩)
 obtain ⟨F,f1,f2,f3,f4⟩:=tree_fo htr
 obtain ⟨π,p1,p2,p3⟩:=pos_at f4 hi0 (ixId_lt t e.node)
 obtain ⟨ρ,r1,r2,r3⟩:=pos_at f4 hi1 (ixId_lt t e.other)
 have hidn:∀{n:Int} {σ:Pa},F.ok σ→Zz t n=F.pos σ→(F.get σ).rid = n:=fun {n σ} hs e=>by
  obtain ⟨hl,a1,_⟩:=at_flt hs
  unfold Zz at e
  obtain ⟨hl2,hp,_⟩:=ixOf_at e
  have:=of_decide_eq_true hp
  rw[←a1,←this]
  simp only[f4]
 have main:∀(m n:Int) (π ρ:Pa),F.ok π→F.ok ρ→F.pos π≤F.pos ρ→Zz t m=F.pos π→Zz t n=F.pos ρ→(swT g t (F.pos π) (F.pos ρ)).2 = 0→Za g (swT g t (F.pos π) (F.pos ρ)).1 (Yv g)=true →
  ∃a b:Nat,a≤b∧Zz (swT g t (F.pos π) (F.pos ρ)).1 n=a∧Zz (swT g t (F.pos π) (F.pos ρ)).1 m=b∧swT g (swT g t (F.pos π) (F.pos ρ)).1 a b=(t,0):=by
  intro m n π ρ h1 h2 hle em en hc htr2
  have hd:dis π ρ:=by
   refine dis_of h1 h2 ?_
   unfold swT at hc
   rw[f4,sub_len h1] at hc
   split at hc
   ·simp at hc
   ·omega
  have im:=hidn h1 em
  have in':=hidn h2 en
  rw[f4,swap_flt h1 h2 hd oT] at hc htr2 ⊢
  split at hc
  case isFalse=>simp at hc
  rename_i he
  rw[if_pos he] at htr2 ⊢
  dsimp only at htr2 ⊢
  obtain ⟨d1,d2,d3⟩:=dis_2 (S:=F.get π) h1 h2 hd (get_one h1)
  have g1:((F.put ρ (F.get π)).put π (F.get ρ)).ok π:=put_ok d1 (get_one h2)
  have g2:((F.put ρ (F.get π)).put π (F.get ρ)).get π=F.get ρ:=get_put d1 (get_one h2)
  have o1:(F.put ρ (F.get π)).ok ρ:=put_ok h2 (get_one h1)
  obtain ⟨g3,g4⟩:=dis_1 (S:=F.get ρ) d1 o1 hd (get_one h2)
  have g5:((F.put ρ (F.get π)).put π (F.get ρ)).get ρ=F.get π:=by rw[g4];exact get_put h2 (get_one h1)
  have hsz:=swap_sz h1 h2 hd
  have hcomm:(F.put ρ (F.get π)).put π (F.get ρ)=(F.put π (F.get ρ)).put ρ (F.get π):=(dis_put h1 h2 hd (get_one h2)).symm
  have hback:(((F.put ρ (F.get π)).put π (F.get ρ)).put ρ (F.get ρ)).put π (F.get π)=F:=by
   obtain ⟨k1,k2⟩:=dis_1 (S:=F.get ρ) h1 h2 hd (get_one h2)
   rw[hcomm,put_put k1 (get_one h1),dis_put h1 h2 hd (get_one h2),put_get h2,put_put h1 (get_one h2),put_get h1]
  generalize hF2:(F.put ρ (F.get π)).put π (F.get ρ)=F2 at *
  have hle2:=dis_le g1 g3 hd
  have hids:=(YU htr2).2.1
  have look:∀{σ:Pa} {n:Int},F2.ok σ→(F2.get σ).rid = n→Zz (F2.flt 0 (-1) 0) n=F2.pos σ:=fun {σ n} hs e=>by
   obtain ⟨hl,a1,_⟩:=at_flt hs
   obtain ⟨j,j1,j2,j3⟩:=ids_at hids (List.getElem_mem hl)
   rw[a1,e] at j1
   have:j=F2.pos σ:=ids_inj hids j2 hl (by rw[j3])
   rw[j1,this]
  refine ⟨F2.pos π,F2.pos ρ,oT,look g1 (by rw[g2];exact in'),look g3 (by rw[g5];exact im),?_⟩
  rw[swap_flt g1 g3 hd oT,g2,g5,if_pos he.symm,hback]
 rw[if_pos ⟨hacc,htree,hkind⟩]
 rcases Nat.le_total (F.pos π) (F.pos ρ) with hle|hle
 ·have e1:(min (Zz t e.node) (Zz t e.other)).toNat = F.pos π:=by omega
  have e2:(max (Zz t e.node) (Zz t e.other)).toNat = F.pos ρ:=by omega
  rw[e1,e2] at h htree ⊢
  obtain ⟨a,b,hab,ha,hb,hr⟩:=main e.node e.other π ρ p1 r1 hle p2 r2 h htree
  rw[ha,hb,if_neg oT,show (min (b:Int) a).toNat = a by omega,show (max (b:Int) a).toNat = b by omega]
  exact hr
 ·have e1:(min (Zz t e.node) (Zz t e.other)).toNat = F.pos ρ:=by omega
  have e2:(max (Zz t e.node) (Zz t e.other)).toNat = F.pos π:=by omega
  rw[e1,e2] at h htree ⊢
  obtain ⟨a,b,hab,ha,hb,hr⟩:=main e.other e.node ρ π r1 p1 hle r2 p2 h htree
  rw[ha,hb,if_neg oT,show (min (a:Int) b).toNat = a by omega,show (max (a:Int) b).toNat = b by omega]
  exact hr
end Go.Gh
namespace Go.Gh
theorem hasI_iff {l:List Int} {x:Int}:hasI l x=true↔x∈l:=by
 unfold hasI
 rw[List.any_eq_true]
 exact ⟨fun ⟨y,h1,h2⟩=>by simp at h2;rw[←h2];exact h1,fun h=>⟨x,h,by simp⟩⟩
end Go.Gh
namespace Go.Gh
end Go.Gh
namespace Go.Gh
end Go.Gh
namespace Go.Gh
end Go.Gh
namespace Go.Gh
def Wk (T:List (List Int)) (goal:Nat):Nat→Nat→Prop
 | 0,_ => False
 | 1,i=>(goal:Int)∈T.getD i []
 | d+2,i=>∃k:Nat,k<T.length∧(k:Int)∈T.getD i []∧Wk T goal (d+1) k
def Rch (T:List (List Int)) (i j:Nat):Prop:=∃d,Wk T j d i
theorem Wk_trans {T:List (List Int)} {l j e:Nat} (hj:j<T.length) (h2:Wk T l (e+1) j):∀d i,Wk T j d i→Wk T l (d+e+1) i
 | 0,_,h=>h.elim
 | 1,i,h=>by
  rw[show 1+e+1=e+2 by omega]
  exact ⟨j,hj,h,h2⟩
 | d+2,i,⟨k,hk,h3,h4⟩=>by
  have:=Wk_trans hj h2 (d+1) k h4
  rw[show d+2+e+1=(d+e+1)+2 by omega]
  exact ⟨k,hk,h3,by rw[show d+e+1+1=d+1+e+1 by omega];exact this⟩
theorem Rch.trans {T:List (List Int)} {i j l:Nat} (hj:j<T.length) (h1:Rch T i j) (h2:Rch T j l):Rch T i l:=by
 obtain ⟨d,h1⟩:=h1
 obtain ⟨e,h2⟩:=h2
 cases e with
 | zero=>exact h2.elim
 | succ e=>exact ⟨_,Wk_trans hj h2 d i h1⟩
theorem Rch.one {T:List (List Int)} {i j:Nat} (h:(j:Int)∈T.getD i []):Rch T i j:=⟨1,h⟩
def GoodO (T:List (List Int)) (L:List Int):Prop:=L.Nodup∧∀k (h:k<L.length),(0≤L[k]∧L[k]<T.length)∧∀j∈T.getD L[k].toNat [],0≤j→j∈L.take k
theorem firstI_yes {n:Nat} {p:Nat→Bool} (h:0≤YZ n p):p (YZ n p).toNat = true:=by
 unfold YZ at h ⊢
 cases e:(List.range n).find? p with
 | none=>rw[e] at h;exact absurd h (by decide)
 | some i=>exact List.find?_some e
theorem GoodO.snoc {T:List (List Int)} {L:List Int} (h:GoodO T L) (hf:0≤YZ T.length (rdyT T L)):GoodO T (L++[YZ T.length (rdyT T L)]):=by
 have h1:=firstI_yes hf
 have h2:YZ T.length (rdyT T L)<T.length:=by
  rcases firstI_rng T.length (rdyT T L) with e|e
  ·omega
  ·exact e.2
 generalize YZ T.length (rdyT T L)=x at *
 simp only[rdyT,Bool.and_eq_true,Bool.not_eq_true',List.all_eq_true,Bool.or_eq_true,decide_eq_true_eq] at h1
 obtain ⟨h3,h4⟩:=h1
 have h5:¬x∈L:=fun hx=>by
  have:=(hasI_iff (l:=L) (x:=x)).2 hx
  rw[Int.toNat_of_nonneg hf] at h3
  rw[this] at h3;cases h3
 refine ⟨?_,fun k hk=> ?_⟩
 ·rw[List.nodup_append]
  refine ⟨h.1,by simp,fun a ha b hb e=> ?_⟩
  simp only[List.mem_singleton] at hb
  subst hb e
  exact h5 ha
 ·simp only[List.length_append,List.length_cons,List.length_nil] at hk
  rcases Nat.lt_or_ge k L.length with h6|h6
  ·rw[List.getElem_append_left h6,List.take_append_of_le_length oT]
   exact h.2 k h6
  ·obtain rfl:k=L.length:=by omega
   simp only[List.getElem_concat_length,List.take_left']
   refine ⟨⟨hf,h2⟩,fun j hj hj0=> ?_⟩
   rcases h4 j hj with h7|h7
   ·omega
   ·exact hasI_iff.1 h7
end Go.Gh
namespace Go.Gh
end Go.Gh
namespace Go.Gh
theorem hRul_mem {l:List Rul} {n:ByteArray} (h:hRul l n=true):Zl l n∈l:=by
 unfold hRul at h;unfold Zl
 cases e:l.find? fun s=>decide (s.name=n) with
 | none=>rw[e] at h;cases h
 | some r=>exact List.mem_of_find?_eq_some e
end Go.Gh
namespace Go.Gh
theorem tree_goodT {g:Gram} {t:List Nod} {s:ByteArray} (hg:drG g) (h:Za g t s=true):goodT 40 t:=by
 have hl:=(YU h).1
 refine ⟨fun x hx=> ?_,hl.1,oT⟩
 obtain ⟨F,f1,f2,f3,f4⟩:=Fo.tree_fo h
 subst f4
 obtain ⟨j,hj,rfl⟩:=List.mem_iff_getElem.1 hx
 rw[Fo.flt_len] at hj
 obtain ⟨π,p1,p2⟩:=Fo.find F j hj
 subst p2
 obtain ⟨L,R,p',q',e1,e2,e3,e4,e5⟩:=Fo.flt_at 0 (-1) 0 p1 oT
 obtain ⟨i,r,l,ks,e⟩:=Fo.one_iff.1 (Fo.get_one p1)
 have hx2:(F.flt 0 (-1) 0)[F.pos π]? = some ⟨i,p',q',l,r,ks.strt (0+F.pos π+1)⟩:=by
  rw[e1,List.getElem?_append_right oT,e2,Nat.sub_self,e]
  simp[Fo.flt]
 rw[List.getElem?_eq_getElem (by rw[Fo.flt_len];exact hj)] at hx2
 rw[Option.some.inj hx2]
 have hw:=Fo.wf_get f2 p1
 rw[e] at hw
 have hr:Zl g.rules r∈g.rules:=hRul_mem hw.1.1
 refine ⟨?_,?_⟩
 ·show (ks.strt _).length ≤ 3
  rw[Fo.wf_len _ hw.2.1]
  exact hg.2.2.2 _ hr
 ·show shT r
  have hn:(Zl g.rules r).name = r:=by
   have h0:=hw.1.1
   unfold hRul at h0;unfold Zl
   cases ef:g.rules.find? fun s=>decide (s.name=r) with
   | none=>rw[ef] at h0;cases h0
   | some z=>simpa using List.find?_some ef
  have:=(hg.1.2.2.2 _ hr).1
  rw[hn] at this
  exact this
theorem edT_same {g:Gram} {t:List Nod} {e:Edi} (h:(edT g t e).2 ≠ 0):(edT g t e).1 = t:=by
 unfold edT at *
 split at h
 ·rename_i hv
  rw[if_pos hv]
  split at h
  ·rename_i h1;rw[if_pos h1]
  rename_i h1
  rw[if_neg h1]
  split at h
  ·rename_i h2
   rw[if_pos h2]
   unfold replT at *
   split at h
   ·rename_i h3
    rw[if_pos h3]
    split at h
    ·rename_i h4;rw[if_pos h4]
    rename_i h4
    rw[if_neg h4]
    split at h
    ·rename_i h5;rw[if_pos h5]
    ·exact absurd rfl h
   ·rename_i h3;rw[if_neg h3]
  rename_i h2
  rw[if_neg h2]
  split at h
  ·rename_i h3
   rw[if_pos h3]
   unfold swT at *
   split at h
   ·rename_i h4;rw[if_pos h4]
   rename_i h4
   rw[if_neg h4]
   split at h
   ·exact absurd rfl h
   ·rename_i h5;rw[if_neg h5]
  ·rename_i h3
   rw[if_neg h3]
   unfold litEd at *
   split at h
   ·exact absurd rfl h
   ·rename_i h4;rw[if_neg h4]
 ·rename_i hv;rw[if_neg hv]
theorem edT_ix {g:Gram} {t:List Nod} {e:Edi} (h:(edT g t e).2 = 0):∃i:Nat,Zz t e.node=i∧i<t.length:=by
 refine ixId_in fun h0=> ?_
 unfold edT at h
 split at h
 ·rw[if_pos (.inl h0)] at h;simp at h
 ·simp at h
theorem edT_good {g:Gram} {t:List Nod} {e:Edi} (hg:drG g) (ht:goodT 40 t):goodT 40 (edT g t e).1 := by
 by_cases h:(edT g t e).2 = 0
 ·exact tree_goodT hg (edited_law h).1
 ·rw[edT_same h];exact ht
theorem drE_sm {e:Edi} (h:drE e):e.tree.length≤1048576∧∀x∈e.tree,x.kids.length≤1048576:=⟨by have:=h.2;omega,fun x hx=>by have:=(h.1 x hx).1;omega⟩
theorem edTr_sm2 {g:Gram} {t:List Nod} {L:List Edi} (ht:goodT 40 t) (k:Nat):(Zq g t L k).length ≤ 1048576∧∀x∈Zq g t L k,x.kids.length≤1048576:=by
 have h1:=edTr_mk g t L k
 have h2:=mk_goodT ht
 have h3:=mk_sm (t:=Zq g t L k) (n:=4000) oT
 exact ⟨oT,fun x hx=>by have:=h3.2 x hx;omega⟩
theorem goodT_sm {t:List Nod} (h:goodT 40 t):t.length≤1048576∧∀x∈t,x.kids.length≤1048576:=⟨by have:=h.2.2;omega,fun x hx=>by have:=(h.1 x hx).1;omega⟩
end Go.Gh
namespace Go.Gh
theorem t_Bytes {g:GV} (h:ET false [.sl false [.int .u8]] g):∃bs:List UInt8,g=Bs bs:=by
 have h1:=t_one h
 simp only[CT] at h1
 obtain ⟨es,rfl,_,he⟩:=h1
 obtain ⟨l,rfl,_⟩:=list_of (f:=fun b:UInt8=>GV.val (.int .u8 b.toNat)) (ok:=fun _ => True) (es:=es) fun e hm=>by
  obtain ⟨gs,k1,k2⟩:=he e hm
  simp only[CTs,CT] at k1
  obtain ⟨g,gs',rfl,⟨n,rfl,hn⟩,rfl⟩:=k1
  simp at k2
  refine ⟨UInt8.ofNat n.toNat,?_,trivial⟩
  have hr:0≤n∧n<256:=by
   simp only[Lit.wf,Bool.and_eq_true,decide_eq_true_eq] at hn
   have e1:IntKind.u8.min=0:=rfl
   have e2:IntKind.u8.max=255:=rfl
   rw[e1,e2] at hn
   omega
  rw[←k2]
  have:((UInt8.ofNat n.toNat).toNat : Int)=n:=by
   rw[UInt8.toNat_ofNat']
   omega
  rw[this]
 exact ⟨l,rfl⟩
end Go.Gh
