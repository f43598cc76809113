/- The law FnStaticTypes returns true whatever the input, and the input reads behind the call as before. No condition. -/
import Derived.Test.YtkmedfejmndmjaaGreatLibT2
import Derived.Shelf.SlSortCmp.NoneTotal
import Derived.Laws.Cover1
import Derived.Deep.RegionHeld3
import Derived.Shelf.SlGeneric
set_option maxHeartbeats 40000000
set_option maxRecDepth 20000
set_option linter.unusedSimpArgs false
set_option linter.unusedVariables false

namespace Go.Gh
abbrev T (s:ByteArray):GV:= .val (.string s)
theorem chars_inj {s t:ByteArray}:ZR s=ZR t↔s=t:=by
 constructor
 ·intro h;obtain ⟨a⟩:=s;obtain ⟨b⟩:=t;simp only[ZR] at h;congr 1;exact Array.ext' h
 ·rintro rfl;rfl
@[ext] structure Nod where
 id:Int
 parent:Int
 place:Int
 lit:Int
 rule:ByteArray
 kids:List Int
deriving DecidableEq
abbrev Nd (x:Nod):GV:= .agg [I x.id,I x.parent,I x.place,I x.lit,T x.rule,IS x.kids]
abbrev NdS (l:List Nod):GV:= .sl 6 (l.map Nd)
@[ext] structure Slo where
 pos:Int
 name:ByteArray
 val:Int
deriving DecidableEq
abbrev Occ (x:Int×ByteArray):GV:= .agg [I x.1,T x.2]
abbrev Slt (x:Slo):GV:= .agg [I x.pos,T x.name,I x.val]
abbrev SltS (l:List Slo):GV:= .sl 3 (l.map Slt)
abbrev Tr (l:List Nod):GV:= .agg [NdS l]
theorem e_nil (e:Env):subE e []=True:=(rfl)
theorem e_cons (e:Env) (j:Nat) (g:GV) (r:Env):subE e ((j,g)::r)=(ZI e j=some g∧subE e r):=(rfl)
theorem n_val (v:Value):nraw (.val v)=true:=(rfl)
theorem n_sl (sz:Nat) (es:List GV):nraw (.sl sz es)=true:=(rfl)
theorem n_agg (cs:List GV):nraw (.agg cs)=true:=(rfl)
theorem n_rop (sz:Nat) (g:GV):nraw (.rop sz g)=true:=(rfl)
theorem n_ptr (r sz i o:Nat):nraw (.ptr r sz i o)=true:=(rfl)
theorem n_own (r sz k n:Nat):nraw (.own r sz k n)=true:=(rfl)
theorem n_clo (f:Nat) (cs:List GV):nraw (.clo f cs)=true:=(rfl)
theorem n_tup (cs:List GV):nraw (.tup cs)=true:=(rfl)
theorem E2:type_of% (jO @e_nil (jO @e_cons (jO @n_val (jO @n_sl (jO @n_agg (jO @n_rop (jO @n_ptr (jO @n_own (jO @n_clo (jO @n_tup (jO @x_get @Option.some.injEq.{0}))))))))))):=
 jO @e_nil (jO @e_cons (jO @n_val (jO @n_sl (jO @n_agg (jO @n_rop (jO @n_ptr (jO @n_own (jO @n_clo (jO @n_tup (jO @x_get @Option.some.injEq.{0}))))))))))
theorem ZM:Zc=9223372036854775807:=(rfl)
theorem Z2:type_of% (jO @Int.ofNat_lt (jO @Int.natCast_nonneg (jO @true_and (jO @u_ext (jO @exists_prop_of_true (jO @Int.natCast_zero (jO @chars_inj (jO @Int.natCast_inj (jO ZM (jO @not_true_eq_false (jO @false_implies (jO @true_implies (jO @and_true (jO @implies_true.{0} @wrap64)))))))))))))):=
 jO @Int.ofNat_lt (jO @Int.natCast_nonneg (jO @true_and (jO @u_ext (jO @exists_prop_of_true (jO @Int.natCast_zero (jO @chars_inj (jO @Int.natCast_inj (jO ZM (jO @not_true_eq_false (jO @false_implies (jO @true_implies (jO @and_true (jO @implies_true.{0} @wrap64)))))))))))))
theorem lenOk_map {α:Type} {f:α→GV} {l:List α} (h:LenOkL (l.map f)):∀x∈l,LenOk (f x):=fun x hx=>h.all _ (List.mem_map.2 ⟨x,hx,rfl⟩)
theorem lenTr {l:List Nod} (h:LenOk (Tr l)):l.length≤9223372036854775807∧∀x∈l,x.kids.length≤9223372036854775807:=by
 simp only[LenOk,LenOkL,List.length_map,Zc] at h
 refine ⟨h.1.1,fun x hx=> ?_⟩
 have:=lenOk_map h.1.2 x hx
 simp only[LenOk,LenOkL,List.length_map,Zc] at this
 exact this.2.2.2.2.2.1.1
end Go.Gh
namespace Go.Gh
theorem takeWhile_len {α:Type} {p:α→Bool}:∀{l:List α} {n:Nat},n≤l.length→(∀j (h:j<l.length),j<n→p l[j]=true)→(∀h:n<l.length,p l[n]=false)→(l.takeWhile p).length = n
 | [],n,h,_,_ => by simp at h;simp[h]
 | x::l,0,_,_,h2=>by
  have:=h2 (by simp)
  simp at this
  simp[this]
 | x::l,n+1,h,h1,h2=>by
  have h3:=h1 0 (by simp) oT
  simp at h3
  have h4:=takeWhile_len (p:=p) (l:=l) (n:=n) (by simpa using h) (fun j hj hn=>by have:=h1 (j+1) (by simpa using hj) oT;simpa using this) (fun hj=>by have:=h2 (by simpa using hj);simpa using this)
  simp[h3,h4]
def subLen (t:List Nod) (i:Nat):Nat:=((t.drop (i+1)).takeWhile fun x=>decide ((i:Int)≤x.parent)).length + 1
theorem subLen_eq {t:List Nod} {i k:Nat} (hik:i<k) (hk:k≤t.length) (ha:∀j (h:j<t.length),i<j→j<k→(i:Int)≤t[j].parent) (hn:∀h:k<t.length,¬(i:Int)≤t[k].parent):subLen t i=k-i:=by
 have:=takeWhile_len (p:=fun x:Nod=>decide ((i:Int)≤x.parent)) (l:=t.drop (i+1)) (n:=k-(i+1)) (by simp;omega) (fun j hj hl=>by
  simp at hj
  have:=ha (i+1+j) oT oT oT
  simpa using this) (fun h=>by
  simp at h
  have:=hn oT
  have e:i+1+(k-(i+1))=k:=by omega
  simp only[List.getElem_drop,e]
  simpa using this)
 rw[subLen,this];omega
def kidStep (hs:List Int) (k:Nat) (m:Int) (c:Int):Int:=if (k:Int)<c∧c<k+1+hs.length then max m (hs.getD (c-k-1).toNat 0) else m
def kidMax (hs:List Int) (k:Nat) (kids:List Int):Int:=kids.foldl (kidStep hs k) 0
def hts:Nat→List Nod→List Int
 | _,[]=>[]
 | k,x::r=>(kidMax (hts (k+1) r) k x.kids+1)::hts (k+1) r
end Go.Gh
namespace Go.Gh
end Go.Gh
namespace Go.Gh
theorem sum_mem {α:Type} (f:α→Nat):∀(l:List α) (x:α),x∈l→f x≤(l.map f).sum
 | y::l,x,h=>by
  simp only[List.map_cons,List.sum_cons]
  rcases List.mem_cons.1 h with rfl|h
  ·omega
  ·have:=sum_mem f l x h;omega
end Go.Gh
namespace Go.Gh
theorem bEq {p q:Prop} [Decidable p] [Decidable q] (h:p↔q):B (decide p)=B (decide q):=by
 have:decide p=decide q:=by by_cases hp:p<;>simp[hp,←h]
 rw[this]
theorem exP {p:Prop} {q:p→Prop} (h:p) (hq:q h):∃h,q h:=⟨h,hq⟩
end Go.Gh
namespace Go.Gh
def atOcc (o:Int×ByteArray) (s:Slo):Bool:=decide (s.pos=o.1)&&decide (s.name=o.2)
def Ys (xs:List Slo) (o:Int×ByteArray):Int:=((xs.find? (atOcc o)).map (·.val)).getD 0
theorem X8 {α:Type} {p:α→Bool}:∀{xs:List α} {i:Nat} (h:i<xs.length),p xs[i]=true→(∀a∈xs.take i,p a=false)→xs.find? p=some xs[i]
 | x::xs,0,_,hp,_ => by simp at hp;simp[hp]
 | x::xs,i+1,h,hp,hn=>by
  have h1:p x=false:=hn x (by simp)
  simp only[List.find?_cons,h1]
  simpa using X8 (p:=p) (xs:=xs) (i:=i) (by simpa using h) (by simpa using hp) (fun a ha=>hn a (by simp[ha]))
theorem Yb {α:Type} {p:α→Bool} {xs:List α} (hn:∀a∈xs,p a=false):xs.find? p=none:=by
 rw[List.find?_eq_none];intro x hx;simp[hn x hx]
end Go.Gh
namespace Go.Gh
section
variable {P:Program} {α:Type} {f:α→GV} {k kx sz:Nat} {det ag:Bool}
end
end Go.Gh
namespace Go.Gh
theorem t_one {t:Ty} {g:GV} (h:ET false [t] g):CT t g:=by
 obtain ⟨gs,k1,k2⟩:=h
 simp only[CTs] at k1
 obtain ⟨g,gs',rfl,hg,rfl⟩:=k1
 simp at k2
 rw[←k2];exact hg
end Go.Gh
namespace Go.Gh
theorem ZF (P:Program) (c:Prop) [Decidable c] (g:GV) (d:Option Nat) (is:List GI) (K:Env→GH→Prop) (env:Env) (H:GH):valS P (if c then some g else none) d is K env H=(c∧Z3 P is K (gput env d g) H):=by
 by_cases h:c<;>simp[h,valS]
theorem nxF {ι:Type} {E:ι→Env} {G:ι→GH} {μ:ι→Nat} {i:ι} {e e':Env} {H H':GH} (j:ι) (hm:μ j<μ i) (hf:FE e H e' H') (h:subE e' (E j)) (hh:H'=G j):Nx E G μ i e H:=by
 subst hh
 exact ⟨j,FE.trans hf (FE.of h),hm⟩
theorem Yu {P:Program} {cf:Cfg} (mxd:P.follows .mixedOrders = true) {ι:Type} {x:GC} {Q:Exit→Env→GH→Prop} {env:Env} {H:GH} (E:ι→Env) (G:ι→GH) (μ:ι→Nat) (i0:ι) (h0:subE env (E i0)) (hh:H=G i0)
 (round:∀i,(names (G i)).Nodup → gwp P cf x (thenG (Nx E G μ i) Q) (E i) (G i)):GW P cf (.loop x) Q env H:=by
 subst hh
 exact GW.loop E G μ i0 (FE.of h0) fun i=>GW.names fun hn=>Zl mxd (round i hn)
theorem YD {P:Program} {cf:Cfg} (mxd:P.follows .mixedOrders = true) {ι:Type} {x:GC} {Q:Exit→Env→GH→Prop} {env env':Env} {H H':GH} (E:ι→Env) (G:ι→GH) (μ:ι→Nat) (i0:ι) (hf:FE env H env' H') (h0:subE env' (E i0)) (hh:H'=G i0)
 (round:∀i,(names (G i)).Nodup → GW P cf x (thenG (Nx E G μ i) Q) (E i) (G i)):GW P cf (.loop x) Q env H:=by
 subst hh
 exact GW.loop E G μ i0 (FE.trans hf (FE.of h0)) fun i=>GW.names fun hn=>round i hn
abbrev NdO (x:Nod):GV:= .agg [I x.id,I x.parent,I x.place,I x.lit,T x.rule,.osl 1 (x.kids.map I)]
theorem view_NdO (t:List Nod):(t.map NdO).map view=t.map Nd:=by
 induction t with
 | nil=>rfl
 | cons x t ih=>
  simp only[List.map_cons,ih,List.cons.injEq,and_true]
  simp[view,Y4,Ze]
theorem X6 {H:GH} {r n:Nat} {l:List Int} (hr:ZV H r=some (1,l.map I)) (hn:l.length=n):Bor H (.own r 1 0 n) (IS l):= .all hr (by simp[hn]) (by simp[view])
theorem FE.close2 {env:Env} {H:GH} {r r1 sz sz1 i j n:Nat} {L gs ks:List GV} (hne:r1≠r) (hi:i<L.length) (hg:gs[j]? = some (.own r1 sz1 0 n)) (hn:ks.length=n) :
 FE env ((r1,sz1,ks)::(r,sz,L.set i (.agg gs))::H) env ((r,sz,L.set i (.agg (gs.set j (.osl sz1 ks))))::H):=by
 have:=FE.close (env:=env) (H:=(r1,sz1,ks)::(r,sz,L.set i (.agg gs))::H) (r:=r) (r1:=r1) (Ne.symm hne) (by rw[hget_old hne,ZZ]) (List.getElem?_set_self hi) hg ZZ hn
 rwa [hset_old hne,XQ,XR,List.set_set] at this
def YS (t:List Nod) (ks:List Int):List Int:=ks.filterMap fun (k:Int)=>if 0≤k∧k<(t.length:Int) then (t[k.toNat]?).map (·.id) else none
def Zh (t:List Nod) (i:Int):List Int:=if 0≤i∧i<t.length then YS t (i::((t[i.toNat]?).map (·.kids)).getD []) else []
theorem idsAt_snoc_in {t:List Nod} {l:List Int} {k:Int} (h0:0≤k) (h:k.toNat<t.length):YS t (l++[k])=YS t l++[t[k.toNat].id]:=by
 simp only[YS,List.filterMap_append,List.filterMap_cons,List.filterMap_nil]
 rw[if_pos oT,List.getElem?_eq_getElem h]
 rfl
theorem idsAt_snoc_out {t:List Nod} {l:List Int} {k:Int} (h:¬(0≤k∧k<(t.length:Int))):YS t (l++[k])=YS t l:=by
 simp only[YS,List.filterMap_append,List.filterMap_cons,List.filterMap_nil]
 rw[if_neg h]
 simp
theorem idsAt_len (t:List Nod) (l:List Int):(YS t l).length ≤ l.length:=List.length_filterMap_le _ _
theorem nodeIds_in {t:List Nod} {i:Nat} (h:i<t.length):Zh t i=YS t ((i:Int)::t[i].kids):=by
 simp only[Zh]
 rw[if_pos oT,Int.toNat_natCast,List.getElem?_eq_getElem h]
 rfl
theorem XL {l:List Int} {x:Int} {j:Nat} (h:j<l.length):x::l.take (j+1)=(x::l.take j)++[l[j]]:=by
 rw[List.take_add_one,List.getElem?_eq_getElem h];rfl
theorem take_step' {l:List Int} {j:Nat} (h:j<l.length):l.take (j+1)=l.take j++[l[j]]:=by
 rw[List.take_add_one,List.getElem?_eq_getElem h];rfl
theorem FE.swap {env:Env} {H:GH} {x y:Nat×Nat×List GV}:FE env (x::y::H) env (y::x::H):=by
 intro w0 D0 O0 N a w ⟨hdf,hsz,D,Ω,ρw,hi⟩
 obtain ⟨r1,sz1,es1⟩:=x
 obtain ⟨r2,sz2,es2⟩:=y
 obtain ⟨F1,G1,e1,h1,F2,F3,e2,h2,h3⟩:=hi.st.hm
 have hp:∀x,(F2++(F1++F3)).count x=Ω.count x:=by
  intro x;rw[e1,e2];simp only[List.count_append];omega
 have hmem:∀x∈F2++(F1++F3),x∈Ω:=fun x hx=>by
  have:=List.count_pos_iff.2 hx
  exact List.count_pos_iff.1 (by rw[←hp];exact this)
 refine ⟨hdf,hsz,D,F2++(F1++F3),ρw,hi.st' ⟨⟨F2,_,rfl,h2,F1,F3,rfl,h1,h3⟩,?_,?_,fun x hx=>hi.st.dj x (hmem x hx),hi.st.ds⟩ hmem⟩
 ·rw[List.nodup_iff_count]
  intro x
  rw[hp]
  exact List.nodup_iff_count.1 hi.st.nd x
 ·have:=hi.st.nn
  simp only[names,List.map_cons,List.nodup_cons,List.mem_cons,not_or] at this ⊢
  exact ⟨⟨fun e=>this.1.1 e.symm,this.2.1⟩,this.1.2,this.2.2⟩
theorem callS.borA {P:Program} {K:Env→GH→Prop} {is:List GI} {env:Env} {H:GH} {d:Option Nat} {det:Bool} {f:FuncId} {gs gs':List GV} {G:GV} (h:Pure P f gs' (· = G)) (hb:BorL H gs gs') (hs:scal G=true) (hk:Z3 P is K (gput env d G) H):callS P det f (some gs) d is K env H:=by
 cases det
 ·exact callS.bor h hb hs hk
 ·exact ⟨G,h.borrow hb (fun _ e=>by rw[e];exact hs),hk⟩
end Go.Gh
namespace Go.Gh
inductive Exp where
 | mk (kind n pos type:Int) (sym name:ByteArray) (args:List Exp)
def Exp.kind:Exp→Int | .mk k _ _ _ _ _ _ => k
def Exp.n:Exp→Int | .mk _ n _ _ _ _ _ => n
def Exp.pos:Exp→Int | .mk _ _ p _ _ _ _ => p
def Exp.type:Exp→Int | .mk _ _ _ t _ _ _ => t
def Exp.sym:Exp→ByteArray | .mk _ _ _ _ s _ _ => s
def Exp.name:Exp→ByteArray | .mk _ _ _ _ _ m _ => m
def Exp.args:Exp→List Exp | .mk _ _ _ _ _ _ a=>a
mutual
def Ex:Exp→GV
 | .mk k n p t s m a=> .agg [I k,I n,I p,I t,T s,T m,.sl 7 (ExL a)]
def ExL:List Exp→List GV
 | []=>[]
 | e::l=>Ex e::ExL l
end
theorem ExL_eq (l:List Exp):ExL l=l.map Ex:=by
 induction l with
 | nil=>rfl
 | cons e l ih=>simp[ExL,ih]
abbrev ExS (l:List Exp):GV:= .sl 7 (l.map Ex)
theorem Y3 (e:Exp):Ex e = .agg [I e.kind,I e.n,I e.pos,I e.type,T e.sym,T e.name,ExS e.args]:=by
 cases e;simp only[Ex,ExL_eq];rfl
theorem Exp.ext_iff {x y:Exp}:x=y↔x.kind=y.kind∧x.n=y.n∧x.pos=y.pos∧x.type=y.type∧x.sym=y.sym∧x.name=y.name∧x.args=y.args:=by
 cases x;cases y
 simp[Exp.kind,Exp.n,Exp.pos,Exp.type,Exp.sym,Exp.name,Exp.args]
mutual
theorem Exp.indA {p:Exp→Prop} (h:∀e,(∀a∈e.args,p a)→p e):∀e,p e
 | .mk k n q t s m a=>h _ (Exp.indL h a)
theorem Exp.indL {p:Exp→Prop} (h:∀e,(∀a∈e.args,p a)→p e):∀(l:List Exp),∀a∈l,p a
 | [],a,hm=>by cases hm
 | e::l,a,hm=>by
  have he:p e:=Exp.indA h e
  have hl:=Exp.indL h l
  rcases List.mem_cons.1 hm with rfl|hm
  ·exact he
  ·exact hl a hm
end
mutual
def wEx:Exp→Nat
 | .mk _ _ _ _ s m a=>(ZR s).length + (ZR m).length + (a.length+wExL a)
def wExL:List Exp→Nat
 | []=>0
 | e::l=>wEx e+wExL l
end
theorem wExL_eq (l:List Exp):wExL l=(l.map wEx).sum := by
 induction l with
 | nil=>rfl
 | cons e l ih=>simp[wExL,ih]
theorem wEx_eq (e:Exp):wEx e=(ZR e.sym).length + (ZR e.name).length + wtS wEx e.args:=by
 cases e;simp only[wEx,wExL_eq,wtS];rfl
mutual
def okE:Exp→Prop
 | .mk _ _ _ _ s m a=>s.size≤maxLen∧m.size≤maxLen∧okEL a
def okEL:List Exp→Prop
 | []=>True
 | e::l=>okE e∧okEL l
end
theorem okEL_eq {l:List Exp}:okEL l↔∀a∈l,okE a:=by
 induction l with
 | nil=>simp[okEL]
 | cons e l ih=>simp[okEL,ih]
theorem okE_eq {e:Exp}:okE e↔e.sym.size≤maxLen∧e.name.size≤maxLen∧∀a∈e.args,okE a:=by
 cases e;simp only[okE,okEL_eq];rfl
mutual
instance decExp:(x y:Exp)→Decidable (x=y)
 | .mk k n p t s m a,.mk k' n' p' t' s' m' a'=>
  match decExpL a a' with
  | isTrue h=>decidable_of_iff (k=k'∧n=n'∧p=p'∧t=t'∧s=s'∧m=m') (by simp[h])
  | isFalse h=>isFalse (by simp[h])
instance decExpL:(x y:List Exp)→Decidable (x=y)
 | [],[]=>isTrue rfl
 | [],_ :: _ => isFalse (by simp)
 | _ :: _,[]=>isFalse (by simp)
 | e::l,e'::l'=>match decExp e e',decExpL l l' with
  | isTrue h,isTrue h'=>isTrue (by rw[h,h'])
  | isFalse h,_ => isFalse (by simp[h])
  | _,isFalse h=>isFalse (by simp[h])
end
theorem YT {e:Exp} (h:wEx e≤1048576):e.args.length≤1048576∧∀a∈e.args,wEx a≤1048576:=by
 rw[wEx_eq] at h
 simp only[wtS] at h
 refine ⟨oT,fun a ha=> ?_⟩
 have:=sum_mem wEx e.args a ha
 omega
theorem XP (e:Exp):isAgg (Ex e)=true:=by rw[Y3];rfl
theorem geR_Ex (e:Exp):geR (some (Ex e))=some (Ex e):=by rw[Y3];rfl
theorem XS (e:Exp):gsize (Ex e)=7:=by rw[Y3];rfl
theorem stor_Ex (e:Exp):ZB (Ex e)=true:=by rw[Y3];rfl
theorem view_Ex (e:Exp):view (Ex e)=Ex e:=by rw[Y3];rfl
end Go.Gh
namespace Go.Gh
open Go.RowKit Go.ChangeShapes Go.WideShapes Go.Deep
end Go.Gh
namespace Go.Gh
end Go.Gh
namespace Go.Gh
theorem wrapU (n:Int) (h:0≤n) (h2:n≤18446744073709551615):IntKind.u64.wrap n=n:=by
 simp only[IntKind.wrap,IntKind.bits,IntKind.signed]
 simp;omega
def satV (n:Int):Int:=max (-1000000) (min 1000000 n)
def trV (b:Bool):Int:=if b then 1 else 0
def coV (v k:Int):Int:=if k=1 then satV v else if k=2 then andI .i64 v 4095 else if k=3 then trV (!decide (v=0)) else if k=4∧0≤v∧v≤999 then v else 0
def opT (op:Int):Int×Int×Int:=
 if 1≤op∧op≤5 then (1,1,1) else if 6≤op∧op≤8 then (2,2,2) else if op=9∨op=10 then (1,1,3) else if op=11 then (2,1,3) else if op=12 then (2,1,2) else (0,0,0)
abbrev opG (op:Int):GV:= .tup [I (opT op).1,I (opT op).2.1,I (opT op).2.2]
def okV (v k:Int):Bool:=decide (1≤k∧k≤4)&&decide (coV v k=v)
def apW (op a b:Int):Int:=
 if op=1 then satV (IntKind.i64.wrap (a+b)) else if op=2 then satV (IntKind.i64.wrap (a-b)) else if op=3 then satV (IntKind.i64.wrap (a * b)) else
 if op=4 then max a b else if op=5 then min a b else if op=6 then orI .i64 a b else if op=7 then andI .i64 a b else if op=8 then andNotI .i64 a b else
 if op=9 then trV (decide (a<b)) else if op=10 then trV (decide (a=b)) else
 if op=11 then (if 0≤b∧b≤11 then trV (decide (andI .i64 (shrI .i64 a b) 1=1)) else 0) else
 if op=12 then (if 0≤b∧b≤11 then orI .i64 a (shlI .i64 1 b) else a) else 0
def apV (op a b:Int):Int:=apW op (coV a (opT op).1) (coV b (opT op).2.1)
theorem opG0 {op:Int} (h:¬(1≤op∧op≤12)):opG op = .tup [I 0,I 0,I 0]:=by
 have:opT op=(0,0,0):=by
  unfold opT
  rw[if_neg oT,if_neg oT,if_neg oT,if_neg oT,if_neg oT]
 simp only[opG,this]
theorem apW11 {a b:Int} (h:¬(0≤b∧b≤11)):apW 11 a b=0:=by simp only[apW,if_neg h];rfl
theorem apW12 {a b:Int} (h:¬(0≤b∧b≤11)):apW 12 a b=a:=by simp only[apW,if_neg h];rfl
end Go.Gh
namespace Go.Gh
mutual
def cntE:Exp→Nat
 | .mk _ _ _ _ _ _ a=>1+cntEL a
def cntEL:List Exp→Nat
 | []=>0
 | e::l=>cntE e+cntEL l
end
theorem cntEL_eq (l:List Exp):cntEL l=(l.map cntE).sum := by
 induction l with
 | nil=>rfl
 | cons e l ih=>simp[cntEL,ih]
theorem cntE_eq (e:Exp):cntE e=1+(e.args.map cntE).sum := by
 cases e;simp only[cntE,cntEL_eq];rfl
theorem cntE_le:∀e,cntE e≤wEx e+1:=by
 refine Exp.indA fun e ih=> ?_
 rw[cntE_eq,wEx_eq]
 have:∀l:List Exp,(∀a∈l,cntE a≤wEx a+1)→(l.map cntE).sum ≤ l.length+(l.map wEx).sum := by
  intro l
  induction l with
  | nil=>intro _;simp
  | cons a l ih=>
   intro h
   have h1:=h a (by simp)
   have h2:=ih fun b hb=>h b (by simp[hb])
   simp only[List.map_cons,List.sum_cons,List.length_cons];omega
 have:=this e.args ih
 simp only[wtS];omega
theorem sumT (f:Exp→Nat) (l:List Exp) (i:Nat) (h:i<l.length):((l.take (i+1)).map f).sum = ((l.take i).map f).sum + f l[i]:=psum_succ f l i h
theorem sumT_le (f:Exp→Nat) (l:List Exp) (i:Nat):((l.take i).map f).sum ≤ (l.map f).sum := psum_le f l i
def mxL:List Nat→Nat
 | []=>0
 | a::l=>max a (mxL l)
theorem mxL_app (l m:List Nat):mxL (l++m)=max (mxL l) (mxL m):=by
 induction l with
 | nil=>simp[mxL]
 | cons a l ih=>simp only[List.cons_append,mxL,ih];omega
theorem mxL_le (l:List Nat):mxL l≤l.sum:=by
 induction l with
 | nil=>simp[mxL]
 | cons a l ih=>simp only[mxL,List.sum_cons];omega
mutual
def dpE:Exp→Nat
 | .mk _ _ _ _ _ _ a=>1+dpEL a
def dpEL:List Exp→Nat
 | []=>0
 | e::l=>max (dpE e) (dpEL l)
end
theorem dpEL_eq (l:List Exp):dpEL l=mxL (l.map dpE):=by
 induction l with
 | nil=>rfl
 | cons e l ih=>simp[dpEL,mxL,ih]
theorem dpE_eq (e:Exp):dpE e=1+mxL (e.args.map dpE):=by
 cases e;simp only[dpE,dpEL_eq];rfl
theorem sumL_le {l:List Exp} {f g:Exp→Nat} (h:∀a∈l,f a≤g a):(l.map f).sum ≤ (l.map g).sum := by
 induction l with
 | nil=>simp
 | cons a l ih=>
  have h1:=h a (by simp)
  have h2:=ih fun b hb=>h b (by simp[hb])
  simp only[List.map_cons,List.sum_cons];omega
theorem dpE_le:∀e,dpE e≤cntE e:=by
 refine Exp.indA fun e ih=> ?_
 rw[cntE_eq,dpE_eq]
 have h1:=mxL_le (e.args.map dpE)
 have h2:=sumL_le ih
 omega
theorem mxT (f:Exp→Nat) (l:List Exp) (i:Nat) (h:i<l.length):mxL ((l.take (i+1)).map f)=max (mxL ((l.take i).map f)) (f l[i]):=by
 rw[List.take_succ_eq_append_getElem h,List.map_append,mxL_app];simp[mxL]
theorem mxT_le (f:Exp→Nat) (l:List Exp) (i:Nat):mxL ((l.take i).map f)≤(l.map f).sum :=
 Nat.le_trans (mxL_le _) (sumT_le f l i)
end Go.Gh
namespace Go.Gh
mutual
def allE (p:Exp→Bool):Exp→Bool
 | .mk k n q t s m a=>p (.mk k n q t s m a)&&allEL p a
def allEL (p:Exp→Bool):List Exp→Bool
 | []=>true
 | e::l=>allE p e&&allEL p l
end
theorem allEL_eq (p:Exp→Bool) (l:List Exp):allEL p l=l.all (allE p):=by
 induction l with
 | nil=>rfl
 | cons e l ih=>simp[allEL,ih]
theorem allE_eq (p:Exp→Bool) (e:Exp):allE p e=(p e&&e.args.all (allE p)):=by
 cases e;simp only[allE,allEL_eq];rfl
theorem any_ix {α:Type} (p:α→Bool) (l:List α):decide (0≤Zt p l)=l.any p:=by
 unfold Zt
 cases h:l.findIdx? p with
 | none=>
  have:=List.findIdx?_eq_none_iff.1 h
  simp;exact this
 | some i=>
  obtain ⟨h1,h2,_⟩:=List.findIdx?_eq_some_iff_getElem.1 h
  simp
  exact ⟨l[i],List.getElem_mem h1,h2⟩
theorem any_not {α:Type} (p:α→Bool) (l:List α):(!l.any fun a=> !p a)=l.all p:=by
 induction l with
 | nil=>rfl
 | cons a l ih=>simp only[List.any_cons,List.all_cons,Bool.not_or,Bool.not_not,ih]
theorem all_take {p:Exp→Bool} {l:List Exp} {i:Nat} (h:i<l.length) (hp:p l[i]=true) (hn:∀a∈l.take i,p a=true):∀a∈l.take (i+1),p a=true:=by
 intro a ha
 rw[List.take_add_one,List.getElem?_eq_getElem h,Option.toList_some,List.mem_append] at ha
 rcases ha with ha|ha
 ·exact hn a ha
 ·simp only[List.mem_singleton] at ha;rw[ha];exact hp
end Go.Gh
namespace Go.Gh
def letV (c:UInt8):Bool:=decide (97≤(c.toNat:Int))&&decide ((c.toNat:Int)≤122)
def digV (c:UInt8):Bool:=decide (48≤(c.toNat:Int))&&decide ((c.toNat:Int)≤57)
def kwS:List ByteArray:=[⟨#[105,102]⟩,⟨#[116,104,101,110]⟩,⟨#[101,108,115,101]⟩,⟨#[116,114,117,101]⟩,⟨#[102,97,108,115,101]⟩,⟨#[108,105,116]⟩,⟨#[110,111,110,101]⟩,
 ⟨#[115,101,108,102]⟩,⟨#[111,102]⟩,⟨#[109,97,120]⟩,⟨#[109,105,110]⟩,⟨#[119,105,116,104]⟩,⟨#[104,97,115]⟩]
def hasS (l:List ByteArray) (s:ByteArray):Bool:=l.any fun x=>decide (x=s)
theorem hasS_hit {l:List ByteArray} {s:ByteArray} {i:Nat} (h:i<l.length) (e:l[i]=s):hasS l s=true:=by
 simp only[hasS,List.any_eq_true];exact ⟨l[i],List.getElem_mem h,by simp[e]⟩
theorem hasS_none {l:List ByteArray} {s:ByteArray} (h:∀x∈l,decide (x=s)=false):hasS l s=false:=by
 simp only[hasS,List.any_eq_false];intro x hx;simpa using h x hx
def resV (s:ByteArray):Bool:=hasS kwS s
def shp:List UInt8→Bool
 | []=>false
 | c::l=>letV c&&l.all fun c=>letV c||digV c
theorem shp_iff (l:List UInt8):shp l=true↔0<l.length∧∀(j:Nat) (h:j<l.length),letV l[j]=true∨(j≠0∧digV l[j]=true):=by
 cases l with
 | nil=>simp[shp]
 | cons c l=>
  simp only[shp,Bool.and_eq_true,List.all_eq_true,Bool.or_eq_true,List.length_cons]
  constructor
  ·rintro ⟨h1,h2⟩
   refine ⟨oT,fun j hj=> ?_⟩
   cases j with
   | zero=>exact .inl h1
   | succ j=>
    have:=h2 l[j] (List.getElem_mem _)
    simp only[List.getElem_cons_succ]
    rcases this with h|h
    ·exact .inl h
    ·exact .inr ⟨oT,h⟩
  ·rintro ⟨_,h⟩
   constructor
   ·have:=h 0 oT
    simpa using this
   ·intro x hx
    obtain ⟨j,hj,rfl⟩:=List.mem_iff_getElem.1 hx
    have:=h (j+1) oT
    simp only[List.getElem_cons_succ] at this
    rcases this with h|h
    ·exact .inl h
    ·exact .inr h.2
def Zj (s:ByteArray):Bool:=shp (ZR s)&&decide ((ZR s).length ≤ 8) && !resV s
end Go.Gh
namespace Go.Gh
theorem shp_bad {l:List UInt8} {i:Nat} (h:i<l.length) (h1:¬(letV l[i]=true∨(i≠0∧digV l[i]=true))):shp l=false:=by
 cases hs:shp l with
 | false=>rfl
 | true=>exact absurd (((shp_iff l).1 hs).2 i h) h1
theorem shp_step {l:List UInt8} {i:Nat} (h:i<l.length) (hn:∀(j:Nat) (h:j<l.length),j<i→letV l[j]=true∨(j≠0∧digV l[j]=true)) (hg:letV l[i]=true∨(i≠0∧digV l[i]=true)) :
 ∀(j:Nat) (h:j<l.length),j<i+1→letV l[j]=true∨(j≠0∧digV l[j]=true):=by
 intro j hj hji
 by_cases e:j=i
 ·subst e;exact hg
 ·exact hn j hj oT
theorem shp_end {l:List UInt8} (hn:∀(j:Nat) (h:j<l.length),j<l.length→letV l[j]=true∨(j≠0∧digV l[j]=true)):shp l=decide (0<l.length):=by
 by_cases h:0<l.length
 ·rw[decide_eq_true h];exact (shp_iff l).2 ⟨h,fun j hj=>hn j hj hj⟩
 ·rw[decide_eq_false h]
  cases l with
  | nil=>rfl
  | cons a l=>simp at h
end Go.Gh
namespace Go.Gh
def arity (k:Int):Nat:=if k=4 then 2 else if k=5 then 3 else if k=8 then 1 else 0
def noS:ByteArray:=⟨#[]⟩
def bareV (e:Exp):Bool:=
 decide (e.args.length=arity e.kind)&&(decide (e.kind=3∨e.kind=6)||decide (e.pos=0))&&(decide (e.kind=3∨e.kind=8)||decide (e.name=noS))&&(decide (e.kind=1∨e.kind=4)||decide (e.n=0)) &&
 (decide (e.kind=1)||decide (e.type=0))&&(decide (e.kind=8)||decide (e.sym=noS))
end Go.Gh
namespace Go.Gh
theorem nraw_Ex (e:Exp):nraw (Ex e)=true:=by rw[Y3];rfl
theorem clean_Ex (e:Exp):clean (Ex e)=true:=by rw[Y3];rfl
theorem sub_Ex0 (e:Exp):sub (Ex e) 0 1 false=some (I e.kind):=by rw[Y3];rfl
theorem sub_Ex1 (e:Exp):sub (Ex e) 1 1 false=some (I e.n):=by rw[Y3];rfl
theorem sub_Ex2 (e:Exp):sub (Ex e) 2 1 false=some (I e.pos):=by rw[Y3];rfl
theorem sub_Ex3 (e:Exp):sub (Ex e) 3 1 false=some (I e.type):=by rw[Y3];rfl
theorem sub_Ex4 (e:Exp):sub (Ex e) 4 1 false=some (T e.sym):=by rw[Y3];rfl
theorem sub_Ex5 (e:Exp):sub (Ex e) 5 1 false=some (T e.name):=by rw[Y3];rfl
theorem sub_Ex6 (e:Exp):sub (Ex e) 6 1 false=some (ExS e.args):=by rw[Y3];rfl
theorem fold_Ex (e:Exp):GV.agg [I e.kind,I e.n,I e.pos,I e.type,T e.sym,T e.name,.sl 7 (e.args.map Ex)]=Ex e:=(Y3 e).symm
abbrev ExC (e:Exp):List GV:=[I e.kind,I e.n,I e.pos,I e.type,T e.sym,T e.name,ExS e.args]
theorem upd_Ex (gs:List GV) (o:Nat) (e:Exp):upd (.agg gs) o (Ex e)=if o+7≤gs.length then some (.agg (gs.take o++(ExC e++gs.drop (o+7)))) else none:=by rw[Y3];rfl
theorem upd_ExO (e:Exp) (o r sz k n:Nat):upd (Ex e) o (.own r sz k n)=if o<7 then some (.agg ((ExC e).set o (.own r sz k n))) else none:=by rw[Y3];rfl
theorem XE:type_of% (jO @XP (jO @geR_Ex (jO @XS (jO @stor_Ex (jO @nraw_Ex (jO @clean_Ex (jO @sub_Ex0 (jO @sub_Ex1 (jO @sub_Ex2 (jO @sub_Ex3 (jO @sub_Ex4 (jO @sub_Ex5 (jO @sub_Ex6 (jO @fold_Ex (jO @upd_ExO @upd_Ex))))))))))))))):=
 jO @XP (jO @geR_Ex (jO @XS (jO @stor_Ex (jO @nraw_Ex (jO @clean_Ex (jO @sub_Ex0 (jO @sub_Ex1 (jO @sub_Ex2 (jO @sub_Ex3 (jO @sub_Ex4 (jO @sub_Ex5 (jO @sub_Ex6 (jO @fold_Ex (jO @upd_ExO @upd_Ex))))))))))))))
@[ext] structure Att where
 name:ByteArray
 type:Int
 mode:Int
 circ:Bool
deriving DecidableEq
abbrev At (x:Att):GV:= .agg [T x.name,I x.type,I x.mode,B x.circ]
abbrev AtS (l:List Att):GV:= .sl 4 (l.map At)
@[ext] structure Sym where
 name:ByteArray
 atts:List Att
deriving DecidableEq
abbrev Sy (x:Sym):GV:= .agg [T x.name,AtS x.atts]
abbrev SyS (l:List Sym):GV:= .sl 2 (l.map Sy)
@[ext] structure Eqn where
 pos:Int
 name:ByteArray
 expr:Exp
deriving DecidableEq
abbrev Qn (x:Eqn):GV:= .agg [I x.pos,T x.name,I x.expr.kind,I x.expr.n,I x.expr.pos,I x.expr.type,T x.expr.sym,T x.expr.name,ExS x.expr.args]
abbrev QnS (l:List Eqn):GV:= .sl 9 (l.map Qn)
@[ext] structure Con where
 sym:ByteArray
 name:ByteArray
 goal:Exp
 value:Exp
deriving DecidableEq
abbrev Co (x:Con):GV:= .agg [T x.sym,T x.name,I x.goal.kind,I x.goal.n,I x.goal.pos,I x.goal.type,T x.goal.sym,T x.goal.name,ExS x.goal.args,I x.value.kind,I x.value.n,I x.value.pos,I x.value.type,T x.value.sym,T x.value.name,ExS x.value.args]
abbrev CoS (l:List Con):GV:= .sl 16 (l.map Co)
abbrev TS (l:List ByteArray):GV:= .sl 1 (l.map T)
@[ext] structure Rul where
 name:ByteArray
 left:ByteArray
 right:List ByteArray
 lit:Bool
 eqs:List Eqn
 cons:List Con
deriving DecidableEq
abbrev Ru (x:Rul):GV:= .agg [T x.name,T x.left,TS x.right,B x.lit,QnS x.eqs,CoS x.cons]
abbrev RuS (l:List Rul):GV:= .sl 6 (l.map Ru)
@[ext] structure Gram where
 syms:List Sym
 rules:List Rul
deriving DecidableEq
abbrev Gr (g:Gram):GV:= .agg [SyS g.syms,RuS g.rules]
def okAt (x:Att):Prop:=x.name.size≤maxLen
def okSy (x:Sym):Prop:=x.name.size≤maxLen∧∀a∈x.atts,okAt a
def okEq (x:Eqn):Prop:=x.name.size≤maxLen∧okE x.expr
def okCo (x:Con):Prop:=x.sym.size≤maxLen∧x.name.size≤maxLen∧okE x.goal∧okE x.value
def okRu (x:Rul):Prop:=x.name.size≤maxLen∧x.left.size≤maxLen∧(∀s∈x.right,s.size≤maxLen)∧(∀q∈x.eqs,okEq q)∧∀c∈x.cons,okCo c
def okGr (g:Gram):Prop:=(∀s∈g.syms,okSy s)∧∀r∈g.rules,okRu r
def Yy (x:Sym):Prop:=x.atts.length≤1048576
def smEq (x:Eqn):Prop:=wEx x.expr≤1048576
def smCo (x:Con):Prop:=wEx x.goal≤1048576∧wEx x.value≤1048576
def Y7 (x:Rul):Prop:=x.right.length≤1048576∧x.eqs.length≤1048576∧x.cons.length≤1048576∧(∀q∈x.eqs,smEq q)∧∀c∈x.cons,smCo c
def ZE (g:Gram):Prop:=g.syms.length≤1048576∧g.rules.length≤1048576∧(∀s∈g.syms,Yy s)∧∀r∈g.rules,Y7 r
theorem wtS_mem {α:Type} {wt:α→Nat} {l:List α} {n:Nat} (h:wtS wt l≤n):l.length≤n∧∀a∈l,wt a≤n:=by
 simp only[wtS] at h
 exact ⟨oT,fun a ha=>by have:=sum_mem wt l a ha;omega⟩
theorem Z6 {α:Type} {l:List α} {i:Nat} {d:α} (h:i<l.length):l.getD i d=l[i]:=by
 rw[List.getD_eq_getElem?_getD,List.getElem?_eq_getElem h];rfl
def symZ:Sym:=⟨noS,[]⟩
def attZ:Att:=⟨noS,0,0,false⟩
def rulZ:Rul:=⟨noS,noS,[],false,[],[]⟩
def Zy (l:List Sym) (n:ByteArray):Sym:=(l.find? fun s=>decide (s.name=n)).getD symZ
def hSym (l:List Sym) (n:ByteArray):Bool:=(l.find? fun s=>decide (s.name=n)).isSome
def Zx (l:List Rul) (n:ByteArray):Rul:=(l.find? fun s=>decide (s.name=n)).getD rulZ
def hRul (l:List Rul) (n:ByteArray):Bool:=(l.find? fun s=>decide (s.name=n)).isSome
def YE (l:List Att) (n:ByteArray):Att:=(l.find? fun s=>decide (s.name=n)).getD attZ
def hAtt (l:List Att) (n:ByteArray):Bool:=(l.find? fun s=>decide (s.name=n)).isSome
theorem fRul_mem (l:List Rul) (n:ByteArray):Zx l n∈l∨Zx l n=rulZ:=by
 unfold Zx
 cases h:l.find? fun s=>decide (s.name=n) with
 | none=>exact .inr rfl
 | some a=>exact .inl (List.mem_of_find?_eq_some h)
theorem fSym_mem (l:List Sym) (n:ByteArray):Zy l n∈l∨Zy l n=symZ:=by
 unfold Zy
 cases h:l.find? fun s=>decide (s.name=n) with
 | none=>exact .inr rfl
 | some a=>exact .inl (List.mem_of_find?_eq_some h)
theorem smRu_f {g:Gram} (h:ZE g) (n:ByteArray):Y7 (Zx g.rules n):=by
 rcases fRul_mem g.rules n with h1|h1
 ·exact h.2.2.2 _ h1
 ·rw[h1];simp[Y7,rulZ]
theorem YR {g:Gram} (h:ZE g) (n:ByteArray):Yy (Zy g.syms n):=by
 rcases fSym_mem g.syms n with h1|h1
 ·exact h.2.2.1 _ h1
 ·rw[h1];simp[Yy,symZ]
def Zw (r:Rul) (pos:Int):ByteArray:=if pos=0 then r.left else if 1≤pos∧pos≤r.right.length then r.right.getD (pos-1).toNat noS else noS
def ZK:Nod:=⟨0,0,0,0,noS,[]⟩
def Zr (g:Gram) (t:List Nod) (i:Int):ByteArray:=if 0≤i∧i<t.length then (Zx g.rules (t.getD i.toNat ZK).rule).left else noS
theorem symN_in {g:Gram} {t:List Nod} {i:Nat} (h:i<t.length):Zr g t i=(Zx g.rules t[i].rule).left := by
 simp only[Zr,Int.toNat_natCast]
 rw[if_pos oT,Z6 h]
theorem symN_out {g:Gram} {t:List Nod} {i:Int} (h:¬(0≤i∧i<t.length)):Zr g t i=noS:=by simp only[Zr,if_neg h]
def Zk (g:Gram) (r:Rul) (pos:Int) (name:ByteArray):Att:=if 0≤pos∧pos≤r.right.length then YE (Zy g.syms (Zw r pos)).atts name else attZ
def hasAt (g:Gram) (r:Rul) (pos:Int) (name:ByteArray):Bool:=if 0≤pos∧pos≤r.right.length then hAtt (Zy g.syms (Zw r pos)).atts name else false
def attN (g:Gram) (t:List Nod) (n:Int) (name:ByteArray):Att:=if 0≤Zt (fun y=>decide (y.id=n)) t then YE (Zy g.syms (Zr g t (Zt (fun y=>decide (y.id=n)) t))).atts name else attZ
def hasN (g:Gram) (t:List Nod) (n:Int) (name:ByteArray):Bool:=if 0≤Zt (fun y=>decide (y.id=n)) t then hAtt (Zy g.syms (Zr g t (Zt (fun y=>decide (y.id=n)) t))).atts name else false
theorem X1 {α:Type} (p:α→Bool) (xs:List α):Zt p xs = -1∨(0≤Zt p xs∧Zt p xs<xs.length):=by
 unfold Zt
 cases h:xs.findIdx? p with
 | none=>exact .inl rfl
 | some i=>
  obtain ⟨h1,_,_⟩:=List.findIdx?_eq_some_iff_getElem.1 h
  exact .inr ⟨by simp,by simpa using h1⟩
abbrev Ins (x:Int×ByteArray):GV:= .agg [I x.1,T x.2]
abbrev YK (l:List (Int×ByteArray)):GV:= .sl 2 (l.map Ins)
end Go.Gh
namespace Go.Gh
def nodeAt (t:List Nod) (i pos:Int):Option Int:=
 if 0≤i∧i<t.length∧0≤pos∧pos≤(t.getD i.toNat ZK).kids.length then
  let k:=if pos=0 then i else (t.getD i.toNat ZK).kids.getD (pos-1).toNat 0
  if 0≤k∧k<t.length then some k else none
 else none
def Y0 (t:List Nod) (i:Int) (o:Int×ByteArray):(Int×ByteArray)×Bool:=
 match nodeAt t i o.1 with
 | some k=>(((t.getD k.toNat ZK).id,o.2),true)
 | none=>((0,noS),false)
theorem fAtt_no {l:List Att} {n:ByteArray} (h:hAtt l n=false):YE l n=attZ:=by
 simp only[hAtt,YE] at *
 cases e:l.find? fun s=>decide (s.name=n) with
 | none=>rfl
 | some a=>rw[e] at h;simp at h
theorem inst0 {t:List Nod} {i:Nat} {o:Int×ByteArray} (hi:i<t.length) (h0:o.1=0):Y0 t i o=((t[i].id,o.2),true):=by
 simp only[Y0,nodeAt,Int.toNat_natCast,Z6 hi,h0]
 rw[if_pos oT]
 simp only[if_true]
 rw[if_pos oT]
 simp only[Int.toNat_natCast,Z6 hi]
theorem inst1 {t:List Nod} {i:Nat} {o:Int×ByteArray} (hi:i<t.length) (h1:1≤o.1) (hj:(o.1-1).toNat < t[i].kids.length) (hk:0≤t[i].kids[(o.1-1).toNat]) (hl:(t[i].kids[(o.1-1).toNat]).toNat < t.length) :
 Y0 t i o=((t[(t[i].kids[(o.1-1).toNat]).toNat].id,o.2),true):=by
 simp only[Y0,nodeAt,Int.toNat_natCast,Z6 hi]
 have e:(if o.1=0 then (i:Int) else t[i].kids.getD (o.1-1).toNat 0)=t[i].kids[(o.1-1).toNat]:=by rw[if_neg oT,Z6 hj]
 rw[if_pos oT]
 simp only[e]
 rw[if_pos oT]
 simp only[Z6 hl]
theorem inst2 {t:List Nod} {i:Nat} {o:Int×ByteArray} (hi:i<t.length) (h1:1≤o.1) (hj:(o.1-1).toNat < t[i].kids.length) (hk:¬(0≤t[i].kids[(o.1-1).toNat]∧t[i].kids[(o.1-1).toNat]<t.length)) :
 Y0 t i o=((0,noS),false):=by
 simp only[Y0,nodeAt,Int.toNat_natCast,Z6 hi]
 have e:(if o.1=0 then (i:Int) else t[i].kids.getD (o.1-1).toNat 0)=t[i].kids[(o.1-1).toNat]:=by rw[if_neg oT,Z6 hj]
 rw[if_pos oT]
 simp only[e]
 rw[if_neg oT]
theorem inst3 {t:List Nod} {i:Nat} {o:Int×ByteArray} (hi:i<t.length) (h:¬(0≤o.1∧o.1≤t[i].kids.length)):Y0 t i o=((0,noS),false):=by
 simp only[Y0,nodeAt,Int.toNat_natCast,Z6 hi]
 rw[if_neg oT]
theorem inst4 {t:List Nod} {i:Int} {o:Int×ByteArray} (h:¬(0≤i∧i<t.length)):Y0 t i o=((0,noS),false):=by
 simp only[Y0,nodeAt]
 rw[if_neg oT]
end Go.Gh
namespace Go.Gh
end Go.Gh
namespace Go.Gh
def gid (t:List Nod) (i:Nat):Bool:=decide (1≤(t.getD i ZK).id ∧ (t.getD i ZK).id ≤ 999) && !((t.take i).any fun y=>decide (y.id=(t.getD i ZK).id))
def idsV (t:List Nod):Bool:=(List.range t.length).all (gid t)
theorem idsV_bad {t:List Nod} {i:Nat} (h:i<t.length) (hb:gid t i=false):idsV t=false:=by
 simp only[idsV,List.all_eq_false,List.mem_range]
 exact ⟨i,h,by simp[hb]⟩
theorem idsV_ok {t:List Nod} (h:∀j,j<t.length→gid t j=true):idsV t=true:=by
 simp only[idsV,List.all_eq_true,List.mem_range]
 exact h
def fitV (g:Gram) (x:Nod) (parent place:Int) (sym:ByteArray):Bool:=
 hRul g.rules x.rule&&decide ((Zx g.rules x.rule).left = sym)&&decide (x.parent=parent)&&decide (x.place=place)&&decide (x.kids.length=(Zx g.rules x.rule).right.length) &&
 decide (-1000000≤x.lit∧x.lit≤1000000)&&((Zx g.rules x.rule).lit || decide (x.lit=0))
def Zu (w:Nat→Int→Int→ByteArray→Int) (i:Nat):List Int→List ByteArray→Int→Int→Int
 | c::cs,s::ss,k,at'=>if c≠at' then -1 else if w at'.toNat i (k+1) s<0 then -1 else Zu w i cs ss (k+1) (w at'.toNat i (k+1) s)
 | _,_,_,at'=>at'
def ZJ (g:Gram) (t:List Nod):Nat→Nat→Int→Int→ByteArray→Int
 | 0,_,_,_,_ => -1
 | f+1,i,p,q,s=>if i<t.length then
  if fitV g (t.getD i ZK) p q s then Zu (ZJ g t f) i (t.getD i ZK).kids (Zx g.rules (t.getD i ZK).rule).right 0 (i+1) else -1
  else -1
theorem kidsW_ge {w:Nat→Int→Int→ByteArray→Int} {n:Int} {i:Nat} (hw:∀a p q s,0≤w a p q s→(a:Int)<w a p q s∧w a p q s≤n):∀(cs:List Int) (ss:List ByteArray) (k a:Int),0≤a→a≤n →
 Zu w i cs ss k a = -1∨(a≤Zu w i cs ss k a∧Zu w i cs ss k a≤n)
 | [],_,k,a,h0,h1=>by right;simp[Zu];omega
 | _ :: _,[],k,a,h0,h1=>by right;simp[Zu];omega
 | c::cs,s::ss,k,a,h0,h1=>by
  simp only[Zu]
  split
  ·exact .inl rfl
  split
  ·exact .inl rfl
  ·rename_i h2
   have h3:=hw a.toNat i (k+1) s oT
   rcases kidsW_ge hw cs ss (k+1) (w a.toNat i (k+1) s) oT h3.2 with h|h
   ·exact .inl h
   ·exact .inr oT
theorem Yv {g:Gram} {t:List Nod}:∀(f i:Nat) (p q:Int) (s:ByteArray),0≤ZJ g t f i p q s→(i:Int)<ZJ g t f i p q s∧ZJ g t f i p q s≤t.length
 | 0,i,p,q,s,h=>by simp[ZJ] at h
 | f+1,i,p,q,s,h=>by
  simp only[ZJ] at h ⊢
  split at h
  ·rename_i hi
   rw[if_pos hi]
   split at h
   ·rename_i hf
    rw[if_pos hf]
    rcases kidsW_ge (w:=ZJ g t f) (n:=t.length) (i:=i) (fun a p q s h=>Yv f a p q s h) (t.getD i ZK).kids (Zx g.rules (t.getD i ZK).rule).right 0 (i+1) oT oT with h2|h2
    ·rw[h2] at h;omega
    ·omega
   ·omega
  ·omega
theorem walkE_out {g:Gram} {t:List Nod} {f i:Nat} {p q:Int} {s:ByteArray} (h:t.length≤i):ZJ g t f i p q s = -1:=by
 cases f with
 | zero=>rfl
 | succ f=>simp only[ZJ];rw[if_neg oT]
def Zs (g:Gram) (t:List Nod) (s:ByteArray):Bool:=decide (1≤t.length∧t.length≤16)&&(idsV t&&decide (ZJ g t t.length 0 (-1) 0 s=t.length))
def startS (g:Gram):ByteArray:=if 0<g.syms.length then (g.syms.getD 0 symZ).name else noS
theorem kidsW_step {w:Nat→Int→Int→ByteArray→Int} {i k:Nat} {cs:List Int} {ss:List ByteArray} {a:Int} (h1:k<cs.length) (h2:k<ss.length) :
 Zu w i (cs.drop k) (ss.drop k) k a=if cs[k]≠a then -1 else if w a.toNat i ((k:Int)+1) ss[k]<0 then -1 else Zu w i (cs.drop (k+1)) (ss.drop (k+1)) ((k+1:Nat):Int) (w a.toNat i ((k:Int)+1) ss[k]):=by
 rw[List.drop_eq_getElem_cons h1,List.drop_eq_getElem_cons h2,Zu]
 simp only[Int.natCast_add,Int.natCast_one]
theorem kidsW_end {w:Nat→Int→Int→ByteArray→Int} {i k:Nat} {cs:List Int} {ss:List ByteArray} {a:Int} {p:Int} (h1:cs.length≤k):Zu w i (cs.drop k) (ss.drop k) p a=a:=by
 rw[List.drop_eq_nil_of_le h1];cases ss.drop k<;>rfl
theorem Yn {g:Gram} {x:Nod} {p q:Int} {s:ByteArray}:fitV g x p q s=true↔hRul g.rules x.rule=true∧(Zx g.rules x.rule).left = s∧x.parent=p∧x.place=q∧x.kids.length=(Zx g.rules x.rule).right.length ∧ (-1000000≤x.lit∧x.lit≤1000000) ∧
 ((Zx g.rules x.rule).lit = true∨(Zx g.rules x.rule).lit = false∧x.lit=0):=by
 simp only[fitV,Bool.and_eq_true,decide_eq_true_eq,Bool.or_eq_true,and_assoc]
 cases (Zx g.rules x.rule).lit <;> simp
theorem okV1 (n:Int):okV n 1=decide (-1000000≤n∧n≤1000000):=by
 simp only[okV,coV,satV]
 by_cases h : -1000000≤n∧n≤1000000
 ·simp[h];omega
 ·simp[h];omega
theorem gid_f1 {t:List Nod} {i:Nat} (h:i<t.length) (hb:¬(1≤t[i].id ∧ t[i].id ≤ 999)):gid t i=false:=by
 simp only[gid,Z6 h,decide_eq_false hb,Bool.false_and]
theorem gid_f2 {t:List Nod} {i:Nat} (h:i<t.length) (hb:((t.take i).any fun y=>decide (y.id=t[i].id))=true):gid t i=false:=by
 simp only[gid,Z6 h,hb,Bool.not_true,Bool.and_false]
theorem gid_t {t:List Nod} {i:Nat} (h:i<t.length) (ha:1≤t[i].id ∧ t[i].id ≤ 999) (hb:((t.take i).any fun y=>decide (y.id=t[i].id))=false):gid t i=true:=by
 simp only[gid,Z6 h,decide_eq_true ha,hb,Bool.not_false,Bool.and_true]
def hasI (l:List Int) (x:Int):Bool:=l.any fun y=>decide (y=x)
theorem hasI_hit {l:List Int} {x:Int} {i:Nat} (h:i<l.length) (e:l[i]=x):hasI l x=true:=by
 simp only[hasI,List.any_eq_true];exact ⟨l[i],List.getElem_mem h,by simp[e]⟩
theorem hasI_none {l:List Int} {x:Int} (h:∀y∈l,decide (y=x)=false):hasI l x=false:=by
 simp only[hasI,List.any_eq_false];intro y hy;simpa using h y hy
theorem hasI_map (t:List Nod) (x:Int):hasI (t.map (·.id)) x=t.any fun y=>decide (y.id=x):=by
 simp only[hasI,List.any_map];rfl
def tyK (g:Gram) (r:Rul) (e:Exp) (ts:List Int):Int:=
 if e.kind=1 then e.type else
 if e.kind=2 then (if r.lit then 1 else 0) else
 if e.kind=3 then (Zk g r e.pos e.name).type else
 if e.kind=4 then (if ts.length=2∧ts.getD 0 0=(opT e.n).1 ∧ ts.getD 1 0=(opT e.n).2.1 then (opT e.n).2.2 else 0) else
 if e.kind=5 then (if ts.length=3∧ts.getD 0 0=3∧ts.getD 1 0=ts.getD 2 0 then ts.getD 1 0 else 0) else
 if e.kind=6 then (if 0≤e.pos∧e.pos≤r.right.length then 4 else 0) else
 if e.kind=7 then 4 else
 if e.kind=8 then (if ts.length=1∧ts.getD 0 0=4 then (YE (Zy g.syms e.sym).atts e.name).type else 0) else 0
mutual
def tyE (g:Gram) (r:Rul):Exp→Int
 | .mk k n p t s m a=>tyK g r (.mk k n p t s m a) (tyEL g r a)
def tyEL (g:Gram) (r:Rul):List Exp→List Int
 | []=>[]
 | e::l=>tyE g r e::tyEL g r l
end
theorem tyEL_eq (g:Gram) (r:Rul) (l:List Exp):tyEL g r l=l.map (tyE g r):=by
 induction l with
 | nil=>rfl
 | cons e l ih=>simp[tyEL,ih]
theorem tyE_eq (g:Gram) (r:Rul) (e:Exp):tyE g r e=tyK g r e (e.args.map (tyE g r)):=by
 cases e;simp only[tyE,tyEL_eq];rfl
end Go.Gh
namespace Go.Gh
theorem Yg {α β:Type} (f:β→GV) (h:α→β) (l:List α) (i:Nat) (hi:i<l.length):List.take i (List.map f (List.map h (List.take i l)))++[f (h l[i])]=List.map f (List.map h (List.take (i+1) l)):=by
 have:=takeApp (fun a=>f (h a)) l i hi
 simp only[List.map_map];exact this
theorem treeOf_bad {g:Gram} {t:List Nod} {s:ByteArray} (h:idsV t=false):Zs g t s=false:=by
 simp only[Zs,h,Bool.false_and,Bool.and_false]
theorem Ye {α:Type} {l:List α} {f:α→Int} {k:Nat} (h:k<l.length):(l.map f).getD k 0=f l[k]:=by
 rw[Z6 (by simpa using h),List.getElem_map]
theorem Bor.of_eq {H:GH} {g g':GV} (h:g=g'):Bor H g g':=h▸Bor.refl
end Go.Gh
namespace Go.Gh
def Yr (e:Exp):Bool:=
 decide (1≤e.kind∧e.kind≤8)&&bareV e &&
 (if e.kind=1 then decide (1≤e.type∧e.type≤3)&&okV e.n e.type&&decide (0≤e.n) else
  if e.kind=3 then decide (0≤e.pos∧e.pos≤3)&&Zj e.name else
  if e.kind=6 then decide (0≤e.pos∧e.pos≤3) else
  if e.kind=4 then decide (1≤e.n∧e.n≤12) else
  if e.kind=8 then Zj e.sym&&Zj e.name else true)
def validE (e:Exp):Bool:=decide (cntE e≤24)&&decide (dpE e≤6)&&allE Yr e
theorem allE_args {p:Exp→Bool} {e:Exp} (h:allE p e=true):p e=true∧∀a∈e.args,allE p a=true:=by
 rw[allE_eq,Bool.and_eq_true,List.all_eq_true] at h
 exact h
theorem nodeV_args {e:Exp} (h:Yr e=true):e.args.length=arity e.kind:=by
 simp only[Yr,bareV,Bool.and_eq_true,decide_eq_true_eq] at h
 exact h.1.2.1.1.1.1.1
theorem nodeV_pos {e:Exp} (h:Yr e=true):0≤e.pos:=by
 simp only[Yr,bareV,Bool.and_eq_true,Bool.or_eq_true,decide_eq_true_eq] at h
 obtain ⟨⟨h1,⟨⟨⟨⟨⟨h2,h3⟩,h4⟩,h5⟩,h6⟩,h7⟩⟩,h8⟩:=h
 rcases h3 with (h3|h3)|h3
 ·simp only[h3] at h8;simp at h8;exact h8.1.1
 ·simp only[h3] at h8;simp at h8;exact h8.1
 ·omega
def evK (sl:List Slo) (lit:Int) (ids:List Int) (e:Exp) (vs:List Int):Int:=
 if e.kind=1 then e.n else
 if e.kind=2 then lit else
 if e.kind=3 then Ys sl (e.pos,e.name) else
 if e.kind=4 then apV e.n (vs.getD 0 0) (vs.getD 1 0) else
 if e.kind=5 then (if vs.getD 0 0=0 then vs.getD 2 0 else vs.getD 1 0) else
 if e.kind=6 then (if e.pos<ids.length then ids.getD e.pos.toNat 0 else 0) else 0
mutual
def evE (sl:List Slo) (lit:Int) (ids:List Int):Exp→Int
 | .mk k n p t s m a=>evK sl lit ids (.mk k n p t s m a) (evEL sl lit ids a)
def evEL (sl:List Slo) (lit:Int) (ids:List Int):List Exp→List Int
 | []=>[]
 | e::l=>evE sl lit ids e::evEL sl lit ids l
end
theorem evEL_eq (sl:List Slo) (lit:Int) (ids:List Int) (l:List Exp):evEL sl lit ids l=l.map (evE sl lit ids):=by
 induction l with
 | nil=>rfl
 | cons e l ih=>simp[evEL,ih]
theorem evE_eq (sl:List Slo) (lit:Int) (ids:List Int) (e:Exp):evE sl lit ids e=evK sl lit ids e (e.args.map (evE sl lit ids)):=by
 cases e;simp only[evE,evEL_eq];rfl
theorem shp_iff' (l:List UInt8):shp l=true↔0<l.length∧(∀h:0<l.length,letV l[0]=true)∧∀(j:Nat) (h:j<l.length),letV l[j]=true∨digV l[j]=true:=by
 rw[shp_iff]
 constructor
 ·rintro ⟨h1,h2⟩
  refine ⟨h1,fun h=> ?_,fun j hj=> ?_⟩
  ·rcases h2 0 h with h3|h3
   ·exact h3
   ·exact absurd rfl h3.1
  ·rcases h2 j hj with h3|h3
   ·exact .inl h3
   ·exact .inr h3.2
 ·rintro ⟨h1,h2,h3⟩
  refine ⟨h1,fun j hj=> ?_⟩
  by_cases h0:j=0
  ·subst h0;exact .inl (h2 hj)
  ·rcases h3 j hj with h4|h4
   ·exact .inl h4
   ·exact .inr ⟨h0,h4⟩
theorem shp_no {l:List UInt8} {i:Nat} (h:i<l.length) (h1:letV l[i]=false) (h2:digV l[i]=false):shp l=false:=by
 cases hs:shp l with
 | false=>rfl
 | true=>
  rcases ((shp_iff' l).1 hs).2.2 i h with h3|h3
  ·rw[h1] at h3;cases h3
  ·rw[h2] at h3;cases h3
theorem shp_no0 {l:List UInt8} (h:0<l.length) (h1:letV l[0]=false):shp l=false:=by
 cases hs:shp l with
 | false=>rfl
 | true=>
  have:=((shp_iff' l).1 hs).2.1 h
  rw[h1] at this;cases this
theorem shp_yes {l:List UInt8} (h:0<l.length) (h1:letV l[0]=true) (hn:∀(j:Nat) (h:j<l.length),letV l[j]=true∨digV l[j]=true):shp l=true:=(shp_iff' l).2 ⟨h,fun _ => h1,hn⟩
end Go.Gh
namespace Go.Gh
theorem Bor.clo {H:GH} {f:Nat} {gs gs':List GV} (h:BorL H gs gs'):Bor H (.clo f gs) (.clo f gs'):=fun w D Ω v hst hm=>by
 simp only[MV] at hm ⊢
 obtain ⟨h0,vs,h1,h2⟩:=hm
 exact ⟨h0,vs,h1,h w D Ω vs hst h2⟩
theorem Bor.rop {H:GH} {sz:Nat} {g g':GV} (h:Bor H g g'):Bor H (.rop sz g) (.rop sz g'):=fun w D Ω v hst hm=>by
 simp only[MV] at hm ⊢
 obtain ⟨h0,b,off,u,h1,h2,h3,h4,h5,h6⟩:=hm
 exact ⟨h0,b,off,u,h1,.inl h2,h3,h4,h5,h w D Ω u hst h6⟩
theorem XN (s:ByteArray):Zj s=(shp (ZR s)&&decide ((ZR s).length ≤ 8) && !resV s):=rfl
theorem okV_rng {n t:Int} (h:okV n t=true):1≤t∧t≤4:=by
 simp only[okV,Bool.and_eq_true,decide_eq_true_eq] at h;exact h.1
theorem allE_no {p:Exp→Bool} {e:Exp} {i:Nat} (h:i<e.args.length) (hb:allE p e.args[i]=false):allE p e=false:=by
 rw[allE_eq]
 have:e.args.all (allE p)=false:=by
  rw[List.all_eq_false]
  exact ⟨e.args[i],List.getElem_mem h,by simp[hb]⟩
 rw[this,Bool.and_false]
theorem allE_yes {p:Exp→Bool} {e:Exp} (h:∀a∈e.args,allE p a=true):allE p e=p e:=by
 rw[allE_eq,List.all_eq_true.2 h,Bool.and_true]
end Go.Gh
namespace Go.Gh
theorem noS_eq:(ByteArray.mk #[])=noS:=rfl
theorem upd_nf (gs:List GV) (o:Nat):upd (.agg gs) o (.val .nilFunc)=if o<gs.length then some (.agg (gs.set o (.val .nilFunc))) else none:=rfl
theorem stor_nf:ZB (.val .nilFunc)=true:=by simp[ZB,Value.cells,Value.oneCell']
theorem gs_clo (f:Nat) (cs:List GV):gsize (.clo f cs)=1:=rfl
theorem cells_nf:gsize (.val .nilFunc)=1:=rfl
end Go.Gh
namespace Go.Gh
mutual
def ExO:Exp→GV
 | .mk k n p t s m a=> .agg [I k,I n,I p,I t,T s,T m,.osl 7 (ExOL a)]
def ExOL:List Exp→List GV
 | []=>[]
 | e::l=>ExO e::ExOL l
end
theorem ExOL_eq (l:List Exp):ExOL l=l.map ExO:=by
 induction l with
 | nil=>rfl
 | cons e l ih=>simp[ExOL,ih]
theorem ExO_eq (e:Exp):ExO e = .agg [I e.kind,I e.n,I e.pos,I e.type,T e.sym,T e.name,.osl 7 (e.args.map ExO)]:=by
 cases e;simp only[ExO,ExOL_eq];rfl
theorem view_ExO:∀e:Exp,view (ExO e)=Ex e:=by
 refine Exp.indA fun e ih=> ?_
 rw[ExO_eq,Y3]
 have:(e.args.map ExO).map view=e.args.map Ex:=by
  rw[List.map_map];exact List.map_congr_left fun a ha=>ih a ha
 simp[view,Y4,Ze,this]
theorem Bor.seen {α:Type} {f g:α→GV} {H:GH} {r sz n:Nat} {l:List α} (hv:∀a,view (f a)=g a) (hr:ZV H r=some (sz,l.map f)) (hl:l.length=n):Bor H (.own r sz 0 n) (.sl sz (l.map g)):=by
 have:=Bor.own (k:=0) (n:=n) hr (by simp[hl])
 rw[List.drop_zero,List.take_of_length_le (by simp[hl]),Ze,List.map_map] at this
 have e:l.map (view ∘ f)=l.map g:=List.map_congr_left fun a _ => hv a
 rwa [e] at this
section
variable {P:Program} {α:Type} {f:α→GV} {k kx sz:Nat} {ag:Bool}
end
theorem FR.perm {g:GV} {H L T:GH} (hs:subH H L):FR g (H++T) g (L++T):=by
 intro w D Ω v hv hst
 obtain ⟨Ω',h1,h2⟩:=St.sub hst hs
 exact ⟨D,Ω',hv,h1,⟨fun _ h=>h,fun _ _ h=> .inl h,fun b hb _ => h2 b hb,Kept.refl _ _,rfl,rfl,rfl⟩⟩
end Go.Gh
namespace Go.Gh
theorem FE.closeL {env:Env} {H:GH} {r r1 sz sz1 j n:Nat} {L gs ks:List GV} (hne:r≠r1) (hr:ZV H r=some (sz,L++[.agg gs])) (hg:gs[j]? = some (.own r1 sz1 0 n)) (hr1:ZV H r1=some (sz1,ks)) (hn:ks.length=n) :
 FE env H env (Y9 (ZC H r (L++[.agg (gs.set j (.osl sz1 ks))])) r1):=by
 have:=FE.close (env:=env) (i:=L.length) hne hr (by simp) hg hr1 hn
 simpa using this
end Go.Gh
namespace Go.Gh
section
variable {α:Type} (w:α→Nat) (m:α→Int→α)
end
section
variable {α:Type} {f:α→α}
end
theorem St.exchC {w:World} {D:Nat→Prop} {H:GH} {Ω:List Nat} (h:St w D H Ω) {r sz i:Nat} {es:List GV} {e e':GV} (hr:ZV H r=some (sz,es)) (he:es[i]? = some e) (hx:∀v F,MV w D e v F→∃v',v'.cells=v.cells∧MV w D e' v' F):St w D (ZC H r (es.set i e')) Ω:=by
 obtain ⟨Ω1,F',Ω2,hΩ,hR,hput,_⟩:=HM.take h.hm hr
 obtain ⟨b,c,T,fz,F0,k1,k2,k3,k4,k5,k6,k7⟩:=hR.es_ne (fun e=>by rw[e] at he;simp at he)
 obtain ⟨pre,v,post,A1,Ai,A2,m1,m2,m3,m4,m5,m6,m7⟩:=MF.split sz es _ F0 i _ k7 he
 obtain ⟨v',hc,hv'⟩:=hx _ _ m6
 have hmf:=m7 w D (fun _ => True) e' v' Ai (Kept.refl _ _) (fun _ _ => trivial) (fun _ h=>h) (fun _ _ => trivial) (by rw[hc];exact m3) (by unfold okc at m4 ⊢;rw[hc];exact m4) hv'
 rw[hc,←m1,←m5] at hmf
 have hRM:RM w D r sz (es.set i e') F':= .inl ⟨b,c,T,fz,F0,k1,k2,k3,by simpa using k4,by simpa using k5,k6,by simpa using hmf⟩
 have hfin:=hput w D (fun _ => True) _ _ (Kept.refl _ _) (fun _ _ => trivial) (fun _ h=>h) (fun _ _ => trivial) hRM
 rw[←hΩ] at hfin
 exact ⟨hfin,h.nd,by rw[YY];exact h.nn,h.dj,h.ds⟩
theorem FE.exchC {env:Env} {H:GH} {r sz i:Nat} {es:List GV} {e e':GV} (hr:ZV H r=some (sz,es)) (he:es[i]? = some e) (hx:∀w D v F,MV w D e v F→∃v',v'.cells=v.cells∧MV w D e' v' F):FE env H env (ZC H r (es.set i e')):=by
 intro w0 D0 O0 N a w ⟨hdf,hsz,D,Ω,ρw,hi⟩
 exact ⟨hdf,hsz,D,Ω,ρw,hi.st' (hi.st.exchC hr he (hx w D)) (fun _ h=>h)⟩
theorem MV.unagg {w:World} {D:Nat→Prop} {g:GV}:∀v F,MV w D (.agg [g]) v F→∃v',v'.cells=v.cells∧MV w D g v' F:=fun v F h=>by
 simp only[MV] at h
 obtain ⟨vs,rfl,h1,h2⟩:=h
 simp only[ML] at h2
 obtain ⟨u,vs',F1,F2,rfl,rfl,h3,rfl,rfl⟩:=h2
 have ho:=h1 u (by simp)
 refine ⟨u,?_,by simpa using h3⟩
 cases u<;>first|rfl|(simp[Value.oneCell'] at ho)
theorem FE.unagg {env:Env} {H:GH} {r sz:Nat} {g:GV} (hr:ZV H r=some (sz,[.agg [g]])):FE env H env (ZC H r [g]):=
 FE.exchC (i:=0) hr rfl (fun _ _ => MV.unagg)
end Go.Gh
namespace Go.Gh
theorem neN (r:Nat) (x:Nat×List GV) (H:GH):(names ((r,x)::H)).Nodup = (neA r H∧(names H).Nodup):=by
 apply propext
 constructor
 ·intro h
  have h2:=h
  simp only[names,List.map_cons,List.nodup_cons] at h2
  exact ⟨neA_of h2.1,h2.2⟩
 ·rintro ⟨h1,h2⟩
  simp only[names,List.map_cons,List.nodup_cons]
  refine ⟨?_,h2⟩
  clear h2
  induction H with
  | nil=>simp
  | cons y H ih=>
   obtain ⟨q,y⟩:=y
   simp only[Z1] at h1
   simp only[List.map_cons,List.mem_cons,not_or]
   exact ⟨h1.1,ih h1.2.2⟩
theorem FE.closeL2 {env:Env} {H:GH} {r r1 sz sz1 j n:Nat} {L gs ks:List GV} (hne:¬r=r1) (hg:gs[j]? = some (.own r1 sz1 0 n)) (hn:ks.length=n) :
 FE env ((r,sz,L++[.agg gs])::(r1,sz1,ks)::H) env ((r,sz,L++[.agg (gs.set j (.osl sz1 ks))])::H):=by
 have h:=FE.closeL (env:=env) (H:=(r,sz,L++[.agg gs])::(r1,sz1,ks)::H) (r:=r) (r1:=r1) hne ZZ hg (by rw[hget_old hne,ZZ]) hn
 rwa [XQ,hdel_old hne,XR] at h
theorem Bor.ptr {H:GH} {r sz:Nat} {g:GV} (hr:ZV H r=some (sz,[g])):Bor H (.ptr r sz 0 0) (.rop sz (view g)):=fun w D Ω v h hv=>by
 obtain ⟨F,hF,hFΩ⟩:=h.hm.mem hr
 simp only[MV] at hv ⊢
 obtain ⟨_,b,rfl,hb,rfl⟩:=hv
 rcases hF with ⟨b',c,T,fz,F',k1,k2,k3,k4,k5,k6,k7⟩|⟨k1,_,_⟩
 ·have:b'=b:=by omega
  subst this
  simp only[MF] at k7
  obtain ⟨u,cs',F1,F2,e1,e2,e3,rfl,e5,rfl,rfl⟩:=k7
  refine ⟨trivial,b',0,u,by simp,.inr (hFΩ _ (by simp[k6])),⟨c,T,fz,k2,fun j x hj=> ?_⟩,e3,e2,MV.view (fun _ => .inl) g u F1 (fun x hx=> .inr (hFΩ x (by simp[k6,hx]))) e5⟩
  have e1':c.toList.take (1 * sz)=u.cells.toList:=by simpa using e1
  have h2:(c.toList.take (1 * sz))[j]? = some x:=by rw[e1'];exact hj
  rw[List.getElem?_take] at h2
  split at h2
  ·simpa using h2
  ·cases h2
 ·omega
theorem take_snocM {α β:Type} (f:α→β) {l:List α} {k:Nat} (h:k<l.length):(l.take k).map f++[f l[k]]=(l.take (k+1)).map f:=by
 rw[List.take_add_one,List.getElem?_eq_getElem h,List.map_append];rfl
end Go.Gh
namespace Go.Gh
def insK (g:Gram) (t:List Nod) (i:Nat):List (Int×ByteArray):=(Zy g.syms (Zr g t i)).atts.map fun a=>((t.getD i ZK).id,a.name)
def YQ (g:Gram) (t:List Nod):Nat→List (Int×ByteArray)
 | 0=>[]
 | n+1=>YQ g t n++insK g t n
def ZO (g:Gram) (t:List Nod):List (Int×ByteArray):=if Zs g t (Zr g t 0)=true then YQ g t t.length else []
theorem insA_len {g:Gram} (hg:ZE g) (t:List Nod):∀n,(YQ g t n).length ≤ n * 1048576
 | 0=>by simp[YQ]
 | n+1=>by
  have h1:=insA_len hg t n
  have h2:(Zy g.syms (Zr g t n)).atts.length ≤ 1048576:=YR hg _
  simp only[YQ,insK,List.length_append,List.length_map]
  omega
theorem treeOf_len {g:Gram} {t:List Nod} {s:ByteArray} (h:Zs g t s=true):1≤t.length∧t.length≤16:=by
 simp only[Zs,Bool.and_eq_true,decide_eq_true_eq] at h
 exact h.1
theorem insL_len {g:Gram} (hg:ZE g) (t:List Nod):(ZO g t).length ≤ 16777216:=by
 unfold ZO
 split
 ·rename_i h
  have h1:=treeOf_len h
  have h2:=insA_len hg t t.length
  omega
 ·simp
theorem takeApp3 {α:Type} (f:α→GV) (p l:List α) (i:Nat) (h:i<l.length) (n:Nat) (hn:(p++l.take i).length = n):List.take n (List.map f (p++List.take i l))++[f l[i]]=List.map f (p++List.take (i+1) l):=by
 rw[List.take_of_length_le (by simp at hn ⊢;omega),List.take_add_one (i:=i) (l:=l),List.getElem?_eq_getElem h,List.map_append,List.map_append,List.map_append,List.append_assoc]
 rfl
theorem bor_Ins {H:GH} {r n:Nat} {l:List (Int×ByteArray)} (hr:ZV H r=some (2,l.map Ins)) (hn:l.length=n):Bor H (.own r 2 0 n) (YK l):=Bor.allM (fun _ => rfl) hr hn
end Go.Gh
namespace Go.Gh
def expZ:Exp:= .mk 0 0 0 0 noS noS []
def YC (r:Rul) (o:Int×ByteArray):Option Eqn:=r.eqs.find? fun q=>decide (q.pos=o.1∧q.name=o.2)
def YH (r:Rul) (o:Int×ByteArray):Exp:=((YC r o).map (·.expr)).getD expZ
theorem eqnE_small {r:Rul} (hr:Y7 r) (o:Int×ByteArray):wEx (YH r o)≤1048576:=by
 unfold YH YC
 cases h:r.eqs.find? fun q=>decide (q.pos=o.1∧q.name=o.2) with
 | none=>simp[expZ,wEx,wExL,noS,ZR]
 | some q=>exact hr.2.2.2.1 q (List.mem_of_find?_eq_some h)
def ownN (g:Gram) (t:List Nod) (x:Int×ByteArray):Int×Int:=
 if (attN g t x.1 x.2).mode = 1 then ((t.getD (Zt (fun y=>decide (y.id=x.1)) t).toNat ZK).parent,(t.getD (Zt (fun y=>decide (y.id=x.1)) t).toNat ZK).place) else (Zt (fun y=>decide (y.id=x.1)) t,0)
def Y6 (g:Gram) (t:List Nod) (x:Int×ByteArray):Bool:=
 hasN g t x.1 x.2&&(!decide ((attN g t x.1 x.2).mode = 3)&&(decide (0≤(ownN g t x).1 ∧ (ownN g t x).1 < t.length)&&(YC (Zx g.rules (t.getD (ownN g t x).1.toNat ZK).rule) ((ownN g t x).2,x.2)).isSome))
def YI (g:Gram) (t:List Nod) (x:Int×ByteArray):Int:=if Y6 g t x=true then (ownN g t x).1 else 0
def Zf (g:Gram) (t:List Nod) (x:Int×ByteArray):Exp:=if Y6 g t x=true then YH (Zx g.rules (t.getD (ownN g t x).1.toNat ZK).rule) ((ownN g t x).2,x.2) else expZ
theorem defE_small {g:Gram} (hg:ZE g) (t:List Nod) (x:Int×ByteArray):wEx (Zf g t x)≤1048576:=by
 unfold Zf
 split
 ·exact eqnE_small (smRu_f hg _) _
 ·simp[expZ,wEx,wExL,noS,ZR]
abbrev DfG (o:Int) (e:Exp):GV:= .agg [I o,I e.kind,I e.n,I e.pos,I e.type,T e.sym,T e.name,ExS e.args]
theorem nilL_bor {H:GH} {r sz:Nat}:∀{l:List GV},BorL H (l++[.val (.slice none 0 0)]) (l++[.own r sz 0 0])
 | []=> .cons .virt .nil
 | _ :: _ => .cons .refl nilL_bor
theorem bor_Df {H:GH} {q n:Nat} {o:Int} {e:Exp} (hr:ZV H q=some (7,e.args.map ExO)) (hn:e.args.length=n):Bor H (.agg [I o,I e.kind,I e.n,I e.pos,I e.type,T e.sym,T e.name,.own q 7 0 n]) (DfG o e):=
 .agg (.cons .refl (.cons .refl (.cons .refl (.cons .refl (.cons .refl (.cons .refl (.cons .refl (.cons (Bor.seen view_ExO hr hn) .nil))))))))
theorem hasN_ix {g:Gram} {t:List Nod} {n:Int} {m:ByteArray} (h:hasN g t n m=true):0≤Zt (fun y=>decide (y.id=n)) t∧Zt (fun y=>decide (y.id=n)) t<t.length:=by
 unfold hasN at h
 split at h
 ·rcases X1 (fun y:Nod=>decide (y.id=n)) t with h1|h1
  ·omega
  ·exact h1
 ·cases h
end Go.Gh
namespace Go.Gh
theorem Pure.froz {P:Program} {f:FuncId} {gs gs':List GV} {R:GV→Prop} {H:GH} (h:Pure P f gs' R) (hb:BorL H gs gs'):GCalls P f gs H (fun g H'=>R g∧H'=[]):=by
 intro w D Ω args hst hargs
 have hds:∀b,(D b∨b∈Ω)→b<w.heap.size:=fun b hb=>hb.elim (hst.ds b) (HM.flt hst.hm b)
 refine Yld.mono (fun v w' ⟨g,H',D',Ω',k1,k2,k3,k4⟩=> ?_) (h w _ [] args (St.nil hds) (hb w D Ω args hst hargs))
 exact ⟨g,[],D',[],⟨k1,rfl⟩,k2,St.nil k3.ds,⟨fun b hb=>k4.d0 b (.inl hb),fun b hl hD=>(k4.dn b hl hD).elim (fun h=>h) (fun h=>by simp at h),fun b hb hl=>by simp at hb,
  k4.kp.mono fun _ _ _ => by simp,k4.os,k4.tape,k4.output⟩⟩
abbrev Oc:=Int×ByteArray
abbrev OcS (l:List Oc):GV:= .sl 2 (l.map Occ)
def ltN (a b:ByteArray):Bool:=Op.bytesLess (ZR a) (ZR b)
def ltO (a b:Oc):Bool:=decide (a.1<b.1)||(decide (a.1=b.1)&&ltN a.2 b.2)
def atO:List Oc→Oc→Nat
 | [],_ => 0
 | a::l,o=>if ltO a o=true then atO l o+1 else 0
def putO (l:List Oc) (o:Oc):List Oc:=if l[atO l o]? = some o then l else l.take (atO l o)++o::l.drop (atO l o)
mutual
def usE:Exp→List Oc→List Oc
 | .mk k _ p _ _ m a,l=>usEL a (if k=3 then putO l (p,m) else l)
def usEL:List Exp→List Oc→List Oc
 | [],l=>l
 | e::r,l=>usEL r (usE e l)
end
theorem usE_eq (e:Exp) (l:List Oc):usE e l=usEL e.args (if e.kind=3 then putO l (e.pos,e.name) else l):=by
 cases e;rfl
theorem usEL_step {al:List Exp} {i:Nat} (h:i<al.length) (l:List Oc):usEL (al.take (i+1)) l=usE al[i] (usEL (al.take i) l):=by
 have hs:∀(al:List Exp) (e:Exp) (l:List Oc),usEL (al++[e]) l=usE e (usEL al l):=by
  intro al e
  induction al with
  | nil=>intro l;rfl
  | cons a al ih=>intro l;exact ih _
 rw[List.take_add_one,List.getElem?_eq_getElem h]
 exact hs _ _ _
theorem atO_le:∀(l:List Oc) (o:Oc),atO l o≤l.length
 | [],_ => Nat.le_refl _
 | a::l,o=>by
  have:=atO_le l o
  simp only[atO,List.length_cons]
  split<;>omega
theorem atO_of:∀{l:List Oc} {o:Oc} {i:Nat},i≤l.length→(∀a∈l.take i,ltO a o=true)→(∀h:i<l.length,ltO l[i] o=false)→atO l o=i
 | [],_,i,h,_,_ => by simp at h;subst h;rfl
 | a::l,o,0,_,_,h2=>by
  have:=h2 (by simp)
  simp only[List.getElem_cons_zero] at this
  simp[atO,this]
 | a::l,o,i+1,h,h1,h2=>by
  have ha:=h1 a (by simp)
  have:=atO_of (l:=l) (o:=o) (i:=i) (by simpa using h) (fun b hb=>h1 b (by simp[hb])) (fun hi=>by have:=h2 (by simpa using hi);simpa using this)
  simp[atO,ha,this]
theorem take_all_step {α:Type} {p:α→Bool} {l:List α} {i:Nat} (h:i<l.length) (hp:p l[i]=true) (hn:∀a∈l.take i,p a=true):∀a∈l.take (i+1),p a=true:=by
 rw[List.take_add_one,List.getElem?_eq_getElem h]
 intro a ha
 rcases List.mem_append.1 ha with ha|ha
 ·exact hn a ha
 ·simp at ha;subst ha;exact hp
theorem putM {l:List Oc} {o:Oc} {i:Nat} (hi:i≤l.length):List.take (min i l.length-Int.toNat 0+1) (List.take (min i l.length-Int.toNat 0) (List.drop (Int.toNat 0) (List.take i (List.map Occ l)))++[Occ o])++List.drop i (List.take l.length (List.map Occ l))=(l.take i++o::l.drop i).map Occ:=by
 have hm:min i l.length=i:=by omega
 have h0:Int.toNat 0=0:=rfl
 have a1:List.take i (List.take i (List.map Occ l))=(l.take i).map Occ:=by rw[List.take_take,Nat.min_self,List.map_take]
 have a2:List.take l.length (List.map Occ l)=List.map Occ l:=List.take_of_length_le (by simp)
 rw[h0,hm,Nat.sub_zero,List.drop_zero,a1,a2,List.take_of_length_le (l:=(l.take i).map Occ++[Occ o]) (by simp;omega),List.map_append,List.map_cons,List.map_drop,List.append_assoc]
 rfl
theorem putN {l:List Oc} {o:Oc} {i:Nat} (hi:i≤l.length):min i l.length-Int.toNat 0+1+(min l.length l.length-i)=(l.take i++o::l.drop i).length := by
 have h0:Int.toNat 0=0:=rfl
 rw[h0];simp;omega
theorem putO_len (l:List Oc) (o:Oc):(putO l o).length ≤ l.length+1:=by
 unfold putO
 split
 ·omega
 ·have:=atO_le l o
  simp;omega
theorem wExL_step {al:List Exp} {i:Nat} (h:i<al.length):wExL (al.take (i+1))=wExL (al.take i)+wEx al[i]:=by
 rw[wExL_eq,wExL_eq,List.take_add_one,List.getElem?_eq_getElem h]
 simp only[Option.toList_some,List.map_append,List.map_cons,List.map_nil,List.sum_append,List.sum_cons,List.sum_nil,Nat.add_zero]
theorem wExL_take (al:List Exp) (i:Nat):wExL (al.take i)≤wExL al:=by
 have:=congrArg (fun l:List Exp=>(l.map wEx).sum) (List.take_append_drop i al)
 simp only[List.map_append,List.sum_append] at this
 rw[wExL_eq,wExL_eq]
 omega
theorem wEx_args (e:Exp):e.args.length+wExL e.args≤wEx e:=by
 cases e;simp only[wEx,Exp.args];omega
mutual
theorem usE_len:∀(e:Exp) (l:List Oc),(usE e l).length ≤ l.length+(1+wEx e)
 | .mk k n p t s m a,l=>by
  have h1:=usEL_len a (if k=3 then putO l (p,m) else l)
  have h2:(if k=3 then putO l (p,m) else l).length ≤ l.length+1:=by split;exact putO_len _ _;omega
  simp only[usE,wEx]
  omega
theorem usEL_len:∀(al:List Exp) (l:List Oc),(usEL al l).length ≤ l.length+(al.length+wExL al)
 | [],l=>by simp[usEL,wExL]
 | e::r,l=>by
  have h1:=usE_len e l
  have h2:=usEL_len r (usE e l)
  simp only[usEL,wExL,List.length_cons]
  omega
end
end Go.Gh
namespace Go.Gh
theorem St.frz {w:World} {D:Nat→Prop} {H:GH} {Ω:List Nat} (h:St w D H Ω) {r sz:Nat} {es:List GV} (hr:ZV H r=some (sz,es)) :
 ∃D' Ω',St w D' (ZC H r (Y4 es)) Ω'∧(∀b,D b→D' b)∧(∀b,D' b→D b∨b∈Ω)∧∀b∈Ω',b∈Ω:=by
 obtain ⟨Ω1,F,Ω2,hΩ,hR,hput,_⟩:=HM.take h.hm hr
 rcases hR with ⟨b,c,T,fz,F',k1,k2,k3,k4,k5,k6,k7⟩|⟨k1,k2,k3⟩
 ·subst k6
  have hnd:=h.nd
  rw[hΩ] at hnd
  have hRM:RM w (fun x=>D x∨x∈F') r sz (Y4 es) [b]:=
   .inl ⟨b,c,T,fz,[],k1,k2,k3,by simpa[Ze] using k4,by simpa[Ze] using k5,rfl,by
    have:=MF.view (D':=fun x=>D x∨x∈F') (fun _ => .inl) sz es _ F' (fun x hx=> .inr hx) k7
    simpa[Ze] using this⟩
  have hfin:=hput w (fun x=>D x∨x∈F') (fun _ => True) _ _ (Kept.refl _ _) (fun _ _ => trivial) (fun _ => .inl) (fun _ _ => trivial) hRM
  have hsub:(Ω1++([b]++Ω2)).Sublist (Ω1++((b::F')++Ω2)):=by
   refine List.Sublist.append (List.Sublist.refl _) (List.Sublist.append ?_ (List.Sublist.refl _))
   simp
  refine ⟨fun x=>D x∨x∈F',_,⟨hfin,hnd.sublist hsub,by rw[YY];exact h.nn,?_,?_⟩,fun _ => .inl,?_,fun x hx=>by rw[hΩ];exact hsub.subset hx⟩
  ·intro x hx hD
   rcases hD with hD|hD
   ·exact h.dj x (by rw[hΩ];exact hsub.subset hx) hD
   ·have hc:=List.nodup_iff_count.1 hnd x
    have h1:=List.count_pos_iff.2 hx
    have h2:=List.count_pos_iff.2 hD
    simp only[List.count_append,List.count_cons,List.count_nil] at hc h1
    omega
  ·intro x hD
   rcases hD with hD|hD
   ·exact h.ds x hD
   ·exact HM.flt h.hm x (by rw[hΩ];simp[hD])
  ·intro x hD
   rcases hD with hD|hD
   ·exact .inl hD
   ·exact .inr (by rw[hΩ];simp[hD])
 ·subst k2 k3
  have hfin:=hput w D (fun _ => True) [] [] (Kept.refl _ _) (fun _ _ => trivial) (fun _ h=>h) (fun _ _ => trivial) (.inr ⟨k1,rfl,rfl⟩)
  refine ⟨D,Ω,⟨?_,h.nd,by rw[YY];exact h.nn,h.dj,h.ds⟩,fun _ h=>h,fun _ => .inl,fun _ h=>h⟩
  rw[hΩ];exact hfin
theorem FE.frz {env:Env} {H:GH} {r sz:Nat} {es:List GV} (hr:ZV H r=some (sz,es)):FE env H env (ZC H r (Y4 es)):=by
 intro w0 D0 O0 N a w ⟨hdf,hsz,D,Ω,ρw,hi⟩
 obtain ⟨D',Ω',h1,h2,h3,h4⟩:=hi.st.frz hr
 refine ⟨hdf,hsz,D',Ω',ρw,fun i g hg hn=> ?_,hi.rw,hi.ri,fun i b hb=> ?_,h1,hi.ev.trans ⟨h2,fun b _ hD=>h3 b hD,fun b hb _ => h4 b hb,Kept.refl _ _,rfl,rfl,rfl⟩⟩
 ·obtain ⟨v,m1,m2⟩:=hi.em i g hg hn
  exact ⟨v,m1,m2.more h2⟩
 ·obtain ⟨r1,r2,r3,r4⟩:=hi.rd i b hb
  exact ⟨fun hD=>(h3 b hD).elim r1 r2,fun h=>r2 (h4 b h),r3,r4⟩
theorem FE.frzV {env:Env} {H:GH} {r sz:Nat} {es es':List GV} (hv:Y4 es=es'):FE env ((r,sz,es)::H) env ((r,sz,es')::H):=by
 subst hv
 have:=FE.frz (env:=env) (H:=(r,sz,es)::H) (r:=r) (sz:=sz) (es:=es) (by simp[ZV])
 simpa[ZC] using this
theorem MV.nil_sl {w:World} {D:Nat→Prop} {sz:Nat}:∀v F,MV w D (.val (.slice none 0 0)) v F→MV w D (.sl sz []) v F:=fun v F h=>by
 simp only[MV] at h ⊢
 exact ⟨h.2,.inl ⟨trivial,_,_,h.1⟩⟩
theorem FR.front {g g':GV} {L H:GH} (hb:Bor L g g'):FR g (L++H) g' H:=by
 intro w D Ω v hv hst
 obtain ⟨Ω1,Ω2,rfl,h1,h2⟩:=HM.parted hst.hm
 have hnd:=List.nodup_append.1 hst.nd
 have hnn:=hst.nn
 simp only[names,List.map_append] at hnn
 have hnn':=List.nodup_append.1 hnn
 have hs1:St w D L Ω1:=⟨h1,hnd.1,hnn'.1,fun b hb=>hst.dj b (by simp[hb]),hst.ds⟩
 refine ⟨fun b=>D b∨b∈Ω1,Ω2,hb w D Ω1 v hs1 hv,⟨HM.keep (S:=fun _ => True) (Kept.refl _ _) (fun _ _ => trivial) (fun _ => .inl) (fun _ _ => trivial) h2,hnd.2.1,hnn'.2.1,fun b hb hD=> ?_,fun b hD=> ?_⟩,
  ⟨fun _ => .inl,fun b _ hD=>hD.elim .inl fun h=> .inr (by simp[h]),fun b hb _ => by simp[hb],Kept.refl _ _,rfl,rfl,rfl⟩⟩
 ·rcases hD with hD|hD
  ·exact hst.dj b (by simp[hb]) hD
  ·exact hnd.2.2 b hD b hb rfl
 ·rcases hD with hD|hD
  ·exact hst.ds b hD
  ·exact HM.flt hst.hm b (by simp[hD])
abbrev Bs (bs:List UInt8):GV:= .sl 1 (bs.map fun b=> .val (.int .u8 b.toNat))
abbrev Cu (bs:List UInt8) (i h:Int):GV:= .agg [Bs bs,I i,I h]
def isC (e:GV):Prop:=∃bs i h,e=Cu bs i h∧0≤i∧i≤bs.length∧bs.length≤9223372036854775807
theorem MF.u8 {w:World} {D:Nat→Prop}:∀(bs:List UInt8),MF w D 1 (bs.map fun b=>GV.val (.int .u8 b.toNat)) (bs.map fun b=>Value.int .u8 b.toNat) []
 | []=>by simp[MF]
 | b::bs=>by
  simp only[List.map_cons,MF]
  exact ⟨.int .u8 b.toNat,_,[],[],rfl,rfl,by intro x hx;simp[Value.cells] at hx;subst hx;rfl,rfl,by simp[MV],MF.u8 bs⟩
theorem MF.u8' {w:World} {D:Nat→Prop}:∀(bs:List UInt8) (cs:List Value) (F:List Nat),MF w D 1 (bs.map fun b=>GV.val (.int .u8 b.toNat)) cs F→cs=bs.map fun b=>Value.int .u8 b.toNat
 | [],cs,F,h=>by simp only[List.map_nil,MF] at h;exact h.1
 | b::bs,cs,F,h=>by
  simp only[List.map_cons,MF] at h
  obtain ⟨v,cs',F1,F2,rfl,_,_,_,h1,h2⟩:=h
  simp only[MV] at h1
  rw[h1.1,MF.u8' bs cs' F2 h2]
  rfl
theorem MV.cur {w : World} {D : Nat → Prop} {v : Value} {F : List Nat} (h : MV w D .cur v F) : ∃ e, isC e ∧ MV w D e v F := by
  simp only [MV] at h
  obtain ⟨rfl, bs, i, n, sv, rfl, h1, h2, h3⟩ := h
  refine ⟨Cu bs i n, ⟨bs, i, n, rfl, h1, h2, by rcases h3 with ⟨rfl, _⟩ | ⟨_, _, _, _, _, h, _⟩
                                                · simp
                                                · exact h⟩, ?_⟩
  simp only [MV]
  refine ⟨[sv, .int .i64 i, .int .i64 n], rfl, ?_, ?_⟩
  · have : sv.oneCell' = true := by
      rcases h3 with ⟨_, a, cap, rfl⟩ | ⟨b, off, cap, rfl, _⟩ <;> rfl
    simp [this]
    exact ⟨rfl, rfl⟩
  · simp only [ML]
    refine ⟨sv, _, [], [], rfl, rfl, ?_, _, _, [], [], rfl, rfl, by simp [MV], _, _, [], [], rfl, rfl, by simp [MV], rfl, rfl⟩
    simp only [MV]
    refine ⟨trivial, ?_⟩
    rcases h3 with ⟨rfl, h3⟩ | ⟨b, off, cap, k1, k2, k3, k4, k5⟩
    · exact .inl ⟨rfl, h3⟩
    · exact .inr ⟨b, off, cap, _, by simpa using k1, by simpa using k2, by simpa using k3, k4, k5, MF.u8 bs⟩
theorem MV.uncur {w:World} {D:Nat→Prop} {e:GV} (he:isC e) {v:Value} {F:List Nat} (h:MV w D e v F):MV w D .cur v F:=by
 obtain ⟨bs,i,n,rfl,h1,h2,_⟩:=he
 simp only[MV,ML] at h
 obtain ⟨vs,rfl,_,v1,vs1,F1,F2,rfl,rfl,hs,v2,vs2,F3,F4,rfl,rfl,hi,v3,vs3,F5,F6,rfl,rfl,hn,rfl,rfl⟩:=h
 obtain ⟨rfl,rfl⟩:=hi
 obtain ⟨rfl,rfl⟩:=hn
 obtain ⟨rfl,hs⟩:=hs
 simp only[MV]
 refine ⟨rfl,bs,i,n,v1,rfl,h1,h2,?_⟩
 rcases hs with ⟨k1,k2⟩|⟨b,off,cap,cs,k1,k2,k3,k4,k5,k6⟩
 ·exact .inl ⟨by simpa using k1,k2⟩
 ·have:=MF.u8' bs cs [] k6
  subst this
  exact .inr ⟨b,off,cap,by simpa using k1,by simpa using k2,by simpa using k3,k4,k5⟩
theorem St.exch1 {w:World} {D:Nat→Prop} {H:GH} {Ω:List Nat} (h:St w D H Ω) {r sz i:Nat} {es:List GV} {e:GV} {p:GV→Prop} (hr:ZV H r=some (sz,es)) (he:es[i]? = some e) (hx:∀v F,MV w D e v F→∃e',p e'∧MV w D e' v F) :
 ∃e',p e'∧St w D (ZC H r (es.set i e')) Ω:=by
 obtain ⟨Ω1,F',Ω2,hΩ,hR,hput,_⟩:=HM.take h.hm hr
 obtain ⟨b,c,T,fz,F0,k1,k2,k3,k4,k5,k6,k7⟩:=hR.es_ne (fun e=>by rw[e] at he;simp at he)
 obtain ⟨pre,v,post,A1,Ai,A2,m1,m2,m3,m4,m5,m6,m7⟩:=MF.split sz es _ F0 i _ k7 he
 obtain ⟨e',hp,hx⟩:=hx _ _ m6
 have hmf:=m7 w D (fun _ => True) e' v Ai (Kept.refl _ _) (fun _ _ => trivial) (fun _ h=>h) (fun _ _ => trivial) m3 m4 hx
 rw[←m1,←m5] at hmf
 have hRM:RM w D r sz (es.set i e') F':= .inl ⟨b,c,T,fz,F0,k1,k2,k3,by simpa using k4,by simpa using k5,k6,by simpa using hmf⟩
 have hfin:=hput w D (fun _ => True) _ _ (Kept.refl _ _) (fun _ _ => trivial) (fun _ h=>h) (fun _ _ => trivial) hRM
 rw[←hΩ] at hfin
 exact ⟨e',hp,hfin,h.nd,by rw[YY];exact h.nn,h.dj,h.ds⟩
theorem GCalls.open {P:Program} {f:FuncId} {gs:List GV} {rc:Nat} {H:GH} {R:GV→GH→Prop} (h:∀e,isC e→GCalls P f gs ((rc,3,[e])::H) R):GCalls P f gs ((rc,3,[.cur])::H) R:=by
 intro w D Ω args hst hargs
 obtain ⟨e',h1,h2⟩:=hst.exch1 (r:=rc) (i:=0) (sz:=3) (es:=[.cur]) (p:=isC) (by simp[ZV]) rfl fun v F h=>h.cur
 have e:ZC ((rc,3,[GV.cur])::H) rc ([GV.cur].set 0 e')=(rc,3,[e'])::H:=by simp[ZC]
 rw[e] at h2
 exact h e' h1 w D Ω args h2 hargs
theorem FE.uncur {env:Env} {rc:Nat} {e:GV} {H:GH} (he:isC e):FE env ((rc,3,[e])::H) env ((rc,3,[.cur])::H):=by
 have:=FE.exch (env:=env) (H:=(rc,3,[e])::H) (r:=rc) (i:=0) (e:=e) (e':= .cur) (sz:=3) (es:=[e]) (by simp[ZV]) rfl fun w D v F h=>h.uncur he
 simpa[ZC] using this
theorem FR.uncur {g:GV} {rc:Nat} {e:GV} {H:GH} (he:isC e):FR g ((rc,3,[e])::H) g ((rc,3,[.cur])::H):=by
 intro w D Ω v hv hst
 have h2:=hst.exch (r:=rc) (i:=0) (e:=e) (e':= .cur) (sz:=3) (es:=[e]) (by simp[ZV]) rfl fun v F h=>h.uncur he
 have e:ZC ((rc,3,[e])::H) rc ([e].set 0 GV.cur)=(rc,3,[.cur])::H:=by simp[ZC]
 rw[e] at h2
 exact ⟨D,Ω,hv,h2,Ev.refl _ _ _⟩
theorem hget_split {r:Nat} {x:Nat×List GV}:∀{H:GH},ZV H r=some x→∃A B,H=A++(r,x)::B∧r∉names A
 | [],h=>by simp[ZV] at h
 | (q,y)::H,h=>by
  simp only[ZV] at h
  split at h
  ·rename_i e
   subst e
   simp only[Option.some.injEq] at h
   subst h
   exact ⟨[],H,rfl,by simp[names]⟩
  ·rename_i hne
   obtain ⟨A,B,h1,h2⟩:=hget_split h
   exact ⟨(q,y)::A,B,by rw[h1];rfl,by simp only[names,List.map_cons,List.mem_cons,not_or];exact ⟨fun e=>hne e.symm,h2⟩⟩
theorem count_mid {x:Nat} (a b c:List Nat):(a++(b++c)).count x=(b++(a++c)).count x:=by
 simp only[List.count_append];omega
theorem St.mid {w:World} {D:Nat→Prop} {A B:GH} {y:Nat×Nat×List GV} {Ω:List Nat} (h:St w D (A++y::B) Ω):∃Ω',St w D (y::(A++B)) Ω'∧(∀x,x∈Ω'↔x∈Ω):=by
 obtain ⟨Ω1,Ω2,rfl,h1,h2⟩:=HM.parted h.hm
 obtain ⟨r,sz,es⟩:=y
 obtain ⟨F1,F2,rfl,h3,h4⟩:=h2
 refine ⟨F1++(Ω1++F2),⟨⟨F1,_,rfl,h3,HM.append h1 h4⟩,?_,?_,?_,h.ds⟩,fun x=>by simp only[List.mem_append];exact or_left_comm⟩
 ·have:=h.nd
  rw[List.nodup_iff_count] at this ⊢
  intro x;rw[←count_mid];exact this x
 ·have:=h.nn
  simp only[names,List.map_append,List.map_cons] at this ⊢
  rw[List.nodup_iff_count] at this ⊢
  intro x
  have:=this x
  simp only[List.count_append,List.count_cons] at this ⊢
  omega
 ·intro x hx
  exact h.dj x (by simp only[List.mem_append] at hx ⊢;exact or_left_comm.1 hx)
theorem St.mid' {w:World} {D:Nat→Prop} {A B:GH} {y:Nat×Nat×List GV} {Ω:List Nat} (h:St w D (y::(A++B)) Ω):∃Ω',St w D (A++y::B) Ω'∧(∀x,x∈Ω'↔x∈Ω):=by
 obtain ⟨r,sz,es⟩:=y
 obtain ⟨F1,F2,rfl,h3,h4⟩:=h.hm
 obtain ⟨Ω1,Ω2,rfl,h1,h2⟩:=HM.parted h4
 refine ⟨Ω1++(F1++Ω2),⟨HM.append h1 ⟨F1,_,rfl,h3,h2⟩,?_,?_,?_,h.ds⟩,fun x=>by simp only[List.mem_append];exact or_left_comm⟩
 ·have:=h.nd
  rw[List.nodup_iff_count] at this ⊢
  intro x;rw[count_mid];exact this x
 ·have:=h.nn
  simp only[names,List.map_append,List.map_cons] at this ⊢
  rw[List.nodup_iff_count] at this ⊢
  intro x
  have:=this x
  simp only[List.count_append,List.count_cons] at this ⊢
  omega
 ·intro x hx
  exact h.dj x (by simp only[List.mem_append] at hx ⊢;exact or_left_comm.1 hx)
def Dc (P:Program) (f:FuncId) (gs:List GV) (R:GV→GH→Prop):Prop:=
 ∀rc H,GCalls P f (.ptr rc 3 0 0::gs) ((rc,3,[.cur])::H) (fun g H'=>∃H1,R g H1∧H'=H1++(rc,3,[.cur])::H)
abbrev Dv (P:Program) (f:FuncId) (gs:List GV) (R:GV→Prop):Prop:=Dc P f gs (fun g H1=>R g∧H1=[])
theorem Dc.mono {P:Program} {f:FuncId} {gs:List GV} {R R':GV→GH→Prop} (h:Dc P f gs R) (hr:∀g H1,R g H1→R' g H1):Dc P f gs R':=
 fun rc H=>(h rc H).mono fun g H' ⟨H1,h1,h2⟩=>⟨H1,hr g H1 h1,h2⟩
theorem Dc.of {P:Program} {f:FuncId} {gs:List GV} {R:GV→GH→Prop}
 (h:∀rc H,GCalls P f (.ptr rc 3 0 0::gs) ((rc,3,[.cur])::H) (fun g H'=>∃G H1 T L,R G H1∧Bor L g G∧H'=T++H∧subH T (L++(H1++[(rc,3,[.cur])])))):Dc P f gs R:=
 fun rc H=>(h rc H).fr fun g H' ⟨G,H1,T,L,h1,h2,h3,h4⟩=>by
  subst h3
  refine ⟨G,H1++(rc,3,[.cur])::H,FR.trans (FR.perm h4) ?_,H1,h1,rfl⟩
  rw[List.append_assoc,List.append_assoc]
  exact FR.front h2
theorem Dv.of {P:Program} {f:FuncId} {gs:List GV} {R:GV→Prop}
 (h:∀rc H,GCalls P f (.ptr rc 3 0 0::gs) ((rc,3,[.cur])::H) (fun g H'=>∃G T L,R G∧Bor L g G∧H'=T++H∧subH T (L++[(rc,3,[.cur])]))):Dv P f gs R:=
 Dc.of fun rc H=>(h rc H).mono fun g H' ⟨G,T,L,h1,h2,h3,h4⟩=>⟨G,[],T,L,⟨h1,rfl⟩,h2,h3,h4⟩
theorem Dv.of0 {P:Program} {f:FuncId} {gs:List GV} {R:GV→Prop}
 (h:∀rc H,GCalls P f (.ptr rc 3 0 0::gs) ((rc,3,[.cur])::H) (fun g H'=>R g∧H'=(rc,3,[.cur])::H)):Dv P f gs R:=
 fun rc H=>(h rc H).mono fun g H' ⟨h1,h2⟩=>⟨[],⟨h1,rfl⟩,h2⟩
theorem Dc.at {P:Program} {f:FuncId} {gs:List GV} {R:GV→GH→Prop} (h:Dc P f gs R) {rc:Nat} {H:GH} (hr:ZV H rc=some (3,[.cur])) :
 GCalls P f (.ptr rc 3 0 0::gs) H (fun g H'=>∃H1,R g H1∧H'=H1++H):=by
 obtain ⟨A,B,rfl,hn⟩:=hget_split hr
 intro w D Ω args hst hargs
 obtain ⟨Ω',h1,h2⟩:=hst.mid
 refine Yld.mono (fun v w' ⟨g,H',D',Ω'',⟨H1,k0,k1⟩,k2,k3,k4⟩=> ?_) (h rc (A++B) w D Ω' args h1 hargs)
 subst k1
 have k3':St w' D' ((H1++[(rc,3,[.cur])])++(A++B)) Ω'':=by simpa using k3
 obtain ⟨Ω3,m1,m2⟩:∃Ω3,St w' D' (H1++(A++(rc,3,[.cur])::B)) Ω3∧∀x,x∈Ω3↔x∈Ω'':=by
  obtain ⟨Ωa,q1,q2⟩:=(show St w' D' (H1++(rc,3,[GV.cur])::(A++B)) Ω'' from k3).mid
  rw[←List.append_assoc] at q1
  obtain ⟨Ωb,q3,q4⟩:=q1.mid'
  rw[List.append_assoc] at q3
  exact ⟨Ωb,q3,fun x=>(q4 x).trans (q2 x)⟩
 exact ⟨g,_,D',Ω3,⟨H1,k0,rfl⟩,k2,m1,
  ⟨k4.d0,fun b hb hD=>(k4.dn b hb hD).imp id (h2 b).1,fun b hb hl=>(h2 b).1 (k4.on b ((m2 b).1 hb) hl),k4.kp.mono fun b _ hb hb'=>hb ((h2 b).1 hb'),k4.os,k4.tape,k4.output⟩⟩
theorem callS.dc {P:Program} {f:FuncId} {gs:List GV} {R:GV→GH→Prop} {K:Env→GH→Prop} {is:List GI} {env:Env} {H:GH} {d:Option Nat} {rc:Nat} (h:Dc P f gs R) (hr:ZV H rc=some (3,[.cur]))
 (hk:∀g H1,R g H1→(names (H1++H)).Nodup → Z3 P is K (gput env d g) (H1++H)):callS P false f (some (.ptr rc 3 0 0::gs)) d is K env H:=
 callS.of (h.at hr) fun g H' ⟨H1,h1,h2⟩ hn=>by subst h2;exact hk g H1 h1 hn
theorem callS.dv {P:Program} {f:FuncId} {gs:List GV} {R:GV→Prop} {K:Env→GH→Prop} {is:List GI} {env:Env} {H:GH} {d:Option Nat} {rc:Nat} (h:Dv P f gs R) (hr:ZV H rc=some (3,[.cur]))
 (hk:∀g,R g→Z3 P is K (gput env d g) H):callS P false f (some (.ptr rc 3 0 0::gs)) d is K env H:=
 callS.dc h hr fun g H1 ⟨h1,h2⟩ _ => by subst h2;exact hk g h1
theorem callA.dc {P:Program} {f:FuncId} {gs:List GV} {R:GV→GH→Prop} {K:Env→GH→Prop} {is:List GI} {env:Env} {H:GH} {d:Option Nat} {rc:Nat} (h:Dc P f gs R) (hr:ZV H rc=some (3,[.cur]))
 (hk:∀g H1,R g H1→(names (H1++H)).Nodup → Z3 P is K (gput env d g) (H1++H)):callA P f (some (.ptr rc 3 0 0::gs)) d is K env H:=
 ⟨R,h.at hr,hk⟩
theorem callA.dv {P:Program} {f:FuncId} {gs:List GV} {R:GV→Prop} {K:Env→GH→Prop} {is:List GI} {env:Env} {H:GH} {d:Option Nat} {rc:Nat} (h:Dv P f gs R) (hr:ZV H rc=some (3,[.cur]))
 (hk:∀g,R g→Z3 P is K (gput env d g) H):callA P f (some (.ptr rc 3 0 0::gs)) d is K env H:=
 callA.dc h hr fun g H1 ⟨h1,h2⟩ _ => by subst h2;exact hk g h1
end Go.Gh
namespace Go.Gh
theorem andI_le {a:Int} {m:Nat} (hm:m<2 ^ 62):0≤andI .i64 a m∧andI .i64 a m≤m:=by
 have h1:(BitVec.ofInt 64 a &&& BitVec.ofInt 64 (m:Int)).toNat ≤ m:=by
  rw[BitVec.toNat_and]
  refine Nat.le_trans Nat.and_le_right ?_
  rw[BitVec.toNat_ofInt]
  omega
 have h2:andI .i64 a m=(IntKind.i64).wrap (BitVec.ofInt 64 a &&& BitVec.ofInt 64 (m:Int)).toNat := rfl
 have h3:(IntKind.i64).wrap ((BitVec.ofInt 64 a &&& BitVec.ofInt 64 (m:Int)).toNat : Int)=(BitVec.ofInt 64 a &&& BitVec.ofInt 64 (m:Int)).toNat := by
  have:(((BitVec.ofInt 64 a &&& BitVec.ofInt 64 (m:Int)).toNat : Int))<4611686018427387904:=by
   have:(2:Nat) ^ 62=4611686018427387904:=by decide
   omega
  generalize ((BitVec.ofInt 64 a &&& BitVec.ofInt 64 (m:Int)).toNat)=k at *
  simp only[IntKind.wrap,IntKind.signed,IntKind.bits]
  simp
  omega
 rw[h2,h3]
 omega
theorem andI_255 (a:Int):∃k:Nat,andI .i64 a 255=k∧k<256:=by
 have h:=andI_le (a:=a) (m:=255) (by decide)
 have h':0≤andI .i64 a 255∧andI .i64 a 255≤255:=h
 exact ⟨(andI .i64 a 255).toNat,oT,oT⟩
theorem X4 (s:ByteArray):(ZR s).length = s.size:=by
 show s.data.toList.length=s.data.size
 exact Array.length_toList
theorem okE_of:∀(e:Exp),wEx e≤1048576→okE e:=by
 refine Exp.indA fun e ih h=> ?_
 rw[wEx_eq] at h
 rw[okE_eq]
 have h1:=X4 e.sym
 have h2:=X4 e.name
 have hw:wtS wEx e.args≤1048576:=by omega
 have hm:(1048576:Nat)≤maxLen:=by decide
 refine ⟨oT,oT,fun a ha=>ih a ha ?_⟩
 exact (wtS_mem hw).2 a ha
def shT (s:ByteArray):Prop:=s.size≤16
def shSy (s:Sym):Prop:=shT s.name∧1≤s.atts.length∧s.atts.length≤5∧∀a∈s.atts,shT a.name
def shSys (l:List Sym):Prop:=1≤l.length∧l.length≤3∧∀s∈l,shSy s
def shEx (e:Exp):Prop:=wEx e≤200000
def shRu (r:Rul):Prop:=shT r.name∧shT r.left∧r.right.length≤5∧(∀s∈r.right,shT s)∧r.eqs.length≤64∧(∀q∈r.eqs,shT q.name∧shEx q.expr)∧r.cons.length≤64∧∀c∈r.cons,shT c.sym∧shT c.name∧shEx c.goal∧shEx c.value
def shGr (g:Gram):Prop:=shSys g.syms∧1≤g.rules.length∧g.rules.length≤16∧∀r∈g.rules,shRu r
theorem shT_le {s:ByteArray} (h:shT s):s.size≤maxLen:=by
 have hm:(16:Nat)≤maxLen:=by decide
 unfold shT at h;omega
theorem shEx_ok {e:Exp} (h:shEx e):okE e∧wEx e≤1048576:=by
 unfold shEx at h
 exact ⟨okE_of e oT,oT⟩
theorem shSy_sm {s:Sym} (h:shSy s):Yy s:=by have:=h.2.2.1;unfold Yy;omega
theorem shSy_ok {s:Sym} (h:shSy s):okSy s:=⟨shT_le h.1,fun a ha=>shT_le (h.2.2.2 a ha)⟩
theorem shSys_sm {l:List Sym} (h:shSys l):l.length≤1048576∧∀s∈l,Yy s:=⟨by have:=h.2.1;omega,fun s hs=>shSy_sm (h.2.2 s hs)⟩
theorem shRu_sm {r:Rul} (h:shRu r):Y7 r:=by
 obtain ⟨_,_,h1,_,h2,h3,h4,h5⟩:=h
 exact ⟨oT,oT,oT,fun q hq=>(shEx_ok (h3 q hq).2).2,fun c hc=>⟨(shEx_ok (h5 c hc).2.2.1).2,(shEx_ok (h5 c hc).2.2.2).2⟩⟩
theorem shRu_ok {r:Rul} (h:shRu r):okRu r:=by
 obtain ⟨k1,k2,h1,k3,h2,h3,h4,h5⟩:=h
 exact ⟨shT_le k1,shT_le k2,fun s hs=>shT_le (k3 s hs),fun q hq=>⟨shT_le (h3 q hq).1,(shEx_ok (h3 q hq).2).1⟩,fun c hc=>⟨shT_le (h5 c hc).1,shT_le (h5 c hc).2.1,(shEx_ok (h5 c hc).2.2.1).1,(shEx_ok (h5 c hc).2.2.2).1⟩⟩
theorem shGr_sm {g:Gram} (h:shGr g):ZE g:=⟨(shSys_sm h.1).1,by have:=h.2.2.1;omega,(shSys_sm h.1).2,fun r hr=>shRu_sm (h.2.2.2 r hr)⟩
theorem shGr_ok {g:Gram} (h:shGr g):okGr g:=⟨fun s hs=>shSy_ok (h.1.2.2 s hs),fun r hr=>shRu_ok (h.2.2.2 r hr)⟩
theorem wEx_leaf {k n p t:Int} {s m:ByteArray} (hs:shT s) (hm:shT m):wEx (.mk k n p t s m [])≤32:=by
 have h1:=X4 s
 have h2:=X4 m
 unfold shT at hs hm
 simp only[wEx,wExL,List.length_nil]
 omega
def shD (d:Nat) (e:Exp):Prop:=wEx e≤40 * 4 ^ d
theorem shD_mono {a b:Nat} {e:Exp} (h:a≤b) (he:shD a e):shD b e:=by
 unfold shD at *
 have:=Nat.pow_le_pow_right (n:=4) (by decide) h
 omega
theorem shD_leaf {d:Nat} {k n p t:Int} {s m:ByteArray} (hs:shT s) (hm:shT m):shD d (.mk k n p t s m []):=by
 have:=wEx_leaf (k:=k) (n:=n) (p:=p) (t:=t) hs hm
 have h2:0<4 ^ d:=Nat.pow_pos (by decide)
 unfold shD;omega
theorem shD_node {d:Nat} {k n p t:Int} {s m:ByteArray} {l:List Exp} (hs:shT s) (hm:shT m) (hl:l.length≤3) (h:∀e∈l,shD d e):shD (d+1) (.mk k n p t s m l):=by
 have h1:=X4 s
 have h2:=X4 m
 have h3:0<4 ^ d:=Nat.pow_pos (by decide)
 have h4:∀(l:List Exp),(∀e∈l,shD d e)→wExL l≤l.length * (40 * 4 ^ d):=by
  intro l
  induction l with
  | nil=>intro _;simp[wExL]
  | cons e l ih=>
   intro h
   have:=ih fun x hx=>h x (by simp[hx])
   have h5:wEx e≤40 * 4 ^ d:=h e (by simp)
   simp only[wExL,List.length_cons]
   rw[Nat.succ_mul]
   omega
 have h5:=h4 l h
 have h6:l.length * (40 * 4 ^ d)≤3 * (40 * 4 ^ d):=Nat.mul_le_mul_right _ hl
 unfold shT at hs hm
 unfold shD
 simp only[wEx]
 rw[Nat.pow_succ]
 omega
theorem shD_ex {d:Nat} {e:Exp} (hd:d≤6) (h:shD d e):shEx e:=by
 have:=Nat.pow_le_pow_right (n:=4) (by decide) hd
 have h6:4 ^ 6=4096:=by decide
 unfold shD at h;unfold shEx;omega
def ltT:GV→Bool
 | .val (.string s)=>decide (s.size≤16)
 | _ => false
def ltI (lo hi:Int):GV→Bool
 | .val (.int .i64 n)=>decide (lo≤n∧n≤hi)
 | _ => false
theorem ltT_mem {es:List GV} (h:es.all ltT=true) {g:GV} (hg:g∈es):∃s,shT s∧g=T s:=by
 have:=List.all_eq_true.1 h g hg
 unfold ltT at this
 split at this
 ·exact ⟨_,by simpa[shT] using this,rfl⟩
 ·cases this
theorem X9 {lo hi:Int} {es:List GV} (h:es.all (ltI lo hi)=true) {g:GV} (hg:g∈es):∃n:Int,(lo≤n∧n≤hi)∧g=I n:=by
 have:=List.all_eq_true.1 h g hg
 unfold ltI at this
 split at this
 ·exact ⟨_,by simpa using this,rfl⟩
 ·cases this
def noAg (es:List GV):Bool:=es.all fun e=> !isAgg e&&nraw e
theorem notAgg {es:List GV} (h:noAg es=true) (k:Nat) (hk:k<es.length):isAgg es[k]=false:=by
 have:=List.all_eq_true.1 h _ (List.getElem_mem hk)
 simp only[Bool.and_eq_true] at this
 simpa using this.1
theorem notRaw {es:List GV} (h:noAg es=true) (k:Nat) (hk:k<es.length):geR (some es[k])=some es[k]:=by
 have:=List.all_eq_true.1 h _ (List.getElem_mem hk)
 simp only[Bool.and_eq_true] at this
 have h2:=this.2
 cases h3:es[k]<;>first|rfl|(rw[h3] at h2;simp[nraw] at h2)
abbrev ExN (e:Exp):GV:= .agg [I e.kind,I e.n,I e.pos,I e.type,T e.sym,T e.name,.val (.slice none 0 0)]
abbrev ExR (e:Exp) (r:Nat):GV:= .agg [I e.kind,I e.n,I e.pos,I e.type,T e.sym,T e.name,.own r 7 0 e.args.length]
def ExW (e:Exp) (g:GV) (H1:GH):Prop:=(e.args=[]∧g=ExN e∧H1=[])∨∃r,g=ExR e r∧H1=[(r,7,e.args.map Ex)]
theorem bor_ExN {H:GH} {e:Exp} (h:e.args=[]):Bor H (ExN e) (Ex e):=by
 rw[Y3,h]
 exact .agg (.cons .refl (.cons .refl (.cons .refl (.cons .refl (.cons .refl (.cons .refl (.cons .nil .nil)))))))
theorem bor_ExR {H:GH} {e:Exp} {r:Nat} (h:ZV H r=some (7,e.args.map Ex)):Bor H (ExR e r) (Ex e):=by
 rw[Y3]
 exact .agg (.cons .refl (.cons .refl (.cons .refl (.cons .refl (.cons .refl (.cons .refl (.cons (Bor.allM view_Ex h rfl) .nil)))))))
theorem ExW.bor {e:Exp} {g:GV} {H1:GH} (h:ExW e g H1):Bor H1 g (Ex e):=by
 rcases h with ⟨h,rfl,rfl⟩|⟨r,rfl,rfl⟩
 ·exact bor_ExN h
 ·exact bor_ExR ZZ
theorem Dc.frz {P:Program} {f:FuncId} {gs:List GV} {R:GV→GH→Prop} {p:GV→Prop} (h:Dc P f gs R) (hb:∀g H1,R g H1→∃G,p G∧Bor H1 g G):Dv P f gs p:=fun rc H=>
 (h rc H).fr fun g H' ⟨H1,h1,h2⟩=>by
  subst h2
  obtain ⟨G,k1,k2⟩:=hb g H1 h1
  exact ⟨G,_,FR.front k2,[],⟨k1,rfl⟩,rfl⟩
theorem u64_nn (a:Int):0≤IntKind.u64.wrap a:=by
 simp only[IntKind.wrap,IntKind.signed,IntKind.bits]
 simp
 omega
instance (s:ByteArray):Decidable (shT s):=inferInstanceAs (Decidable (s.size≤16))
theorem bor_ExV {H:GH} {k n p t:Int} {s m:ByteArray} {r q:Nat} {l:List Exp} (h:ZV H r=some (7,l.map Ex)) (hl:l.length=q):Bor H (.agg [I k,I n,I p,I t,T s,T m,.own r 7 0 q]) (Ex (.mk k n p t s m l)):=by
 subst hl
 exact bor_ExR (e:= .mk k n p t s m l) h
theorem Dc.own {P:Program} {f:FuncId} {gs:List GV} {p:Exp→Prop} (h:Dc P f gs (fun g H1=>∃e,p e∧ExW e g H1)):Dc P f gs (fun g H1=>∃e r,p e∧g=ExR e r∧H1=[(r,7,e.args.map Ex)]):=fun rc H=>
 (h rc H).fr fun g H' ⟨H1,⟨e,h1,h2⟩,h3⟩=>by
  subst h3
  rcases h2 with ⟨h0,rfl,rfl⟩|⟨r,rfl,rfl⟩
  ·obtain ⟨v,hv,hn⟩:=vfresh (names ((rc,3,[.cur])::H))
   refine ⟨ExR e v,(v,7,[])::(rc,3,[.cur])::H,FR.trans (FR.sub ?_) (FR.addv hv hn),[(v,7,[])],⟨e,v,h1,rfl,by rw[h0];rfl⟩,rfl⟩
   have h5:e.args.length=0:=by rw[h0];rfl
   show Bor [] (ExN e) (.agg [I e.kind,I e.n,I e.pos,I e.type,T e.sym,T e.name,.own v 7 0 e.args.length])
   rw[h5]
   exact .agg (.cons .refl (.cons .refl (.cons .refl (.cons .refl (.cons .refl (.cons .refl (.cons Bor.virt .nil)))))))
  ·exact ⟨_,_,FR.refl _ _,_,⟨e,r,h1,rfl,rfl⟩,rfl⟩
theorem Bor.exch {H:GH} {r sz i:Nat} {es:List GV} {e e' g g':GV} (hr:ZV H r=some (sz,es)) (he:es[i]? = some e) (hx:∀w D v F,MV w D e v F→MV w D e' v F) (hb:Bor (ZC H r (es.set i e')) g g'):Bor H g g':=
 fun w D Ω v hst hm=>hb w D Ω v (hst.exch hr he (hx w D)) hm
theorem MV.exn {e:Exp} (h:e.args=[]):∀w D v F,MV w D (ExN e) v F→MV w D (Ex e) v F:=fun w D v F hm=>by
 have:=MV.fld (j:=6) (g':= .sl 7 []) rfl MV.nil_sl v F hm
 rw[Y3,h]
 exact this
theorem bor_ExApp {H:GH} {k n p t:Int} {s m:ByteArray} {r q:Nat} {l:List Exp} {e:Exp} (h:ZV H r=some (7,l.map Ex++[ExN e])) (he:e.args=[]) (hl:l.length+1=q):Bor H (.agg [I k,I n,I p,I t,T s,T m,.own r 7 0 q]) (Ex (.mk k n p t s m (l++[e]))):=by
 refine Bor.exch (i:=l.length) h (by simp) (MV.exn he) ?_
 have e2:(l.map Ex++[ExN e]).set l.length (Ex e)=(l++[e]).map Ex:=by
  rw[List.set_append_right _ _ (by simp)]
  simp
 rw[e2]
 refine bor_ExV ?_ (by simpa using hl)
 have:∀{H:GH} {x:Nat×List GV} {fs:List GV},ZV H r=some x→ZV (ZC H r fs) r=some (x.1,fs):=by
  intro H
  induction H with
  | nil=>intro x fs h;cases h
  | cons y H ih=>
   obtain ⟨a,b,c⟩:=y
   intro x fs h
   simp only[ZV,ZC] at h ⊢
   split at h
   ·rename_i e3
    simp only[Option.some.injEq] at h
    subst h
    simp[e3,ZV]
   ·rename_i e3
    simp only[if_neg e3,ZV]
    exact ih h
 exact this h
end Go.Gh
namespace Go.Gh
theorem ltN_eq (a b:ByteArray):ltN a b=decide (ZR a<ZR b):=Proofs.bytesLess_eq _ _
theorem ltN_irr (a:ByteArray):ltN a a=false:=by
 rw[ltN_eq];exact decide_eq_false (List.lt_irrefl _)
theorem ltN_trans {a b c:ByteArray} (h:ltN a b=true) (k:ltN b c=true):ltN a c=true:=by
 rw[ltN_eq,decide_eq_true_eq] at *;exact List.lt_trans h k
theorem ltN_tri {a b:ByteArray} (h:ltN a b=false) (k:ltN b a=false):a=b:=by
 rw[ltN_eq,decide_eq_false_iff_not] at *
 exact chars_inj.1 (List.le_antisymm (List.not_lt.1 k) (List.not_lt.1 h))
theorem ltO_iff {a b:Oc}:ltO a b=true↔a.1<b.1∨(a.1=b.1∧ltN a.2 b.2=true):=by simp[ltO]
theorem ltO_irr (a:Oc):ltO a a=false:=by simp[ltO,ltN_irr]
theorem ltO_trans {a b c:Oc} (h:ltO a b=true) (k:ltO b c=true):ltO a c=true:=by
 rw[ltO_iff] at *
 rcases h with h|⟨h1,h2⟩<;>rcases k with k|⟨k1,k2⟩
 ·exact .inl oT
 ·exact .inl oT
 ·exact .inl oT
 ·exact .inr ⟨oT,ltN_trans h2 k2⟩
theorem ltO_tri {a b:Oc} (h:ltO a b=false) (k:ltO b a=false):a=b:=by
 have h':¬(a.1<b.1∨(a.1=b.1∧ltN a.2 b.2=true)):=fun e=>by rw[ltO_iff.2 e] at h;cases h
 have k':¬(b.1<a.1∨(b.1=a.1∧ltN b.2 a.2=true)):=fun e=>by rw[ltO_iff.2 e] at k;cases k
 have e:a.1=b.1:=by omega
 refine Prod.ext e (ltN_tri ?_ ?_)
 ·cases q:ltN a.2 b.2
  ·rfl
  ·exact absurd (.inr ⟨e,q⟩) h'
 ·cases q:ltN b.2 a.2
  ·rfl
  ·exact absurd (.inr ⟨e.symm,q⟩) k'
theorem ltO_asym {a b:Oc} (h:ltO a b=true):ltO b a=false:=by
 cases q:ltO b a
 ·rfl
 ·have:=ltO_trans h q;rw[ltO_irr] at this;cases this
theorem ltO_swo:Sort.SWO ltO where
 irrefl:=ltO_irr
 trans _ _ _ := ltO_trans
 ntrans x y z h k:=by
  cases q:ltO x z
  ·rfl
  ·cases e:ltO y x
   ·rw[ltO_tri h e] at q;rw[q] at k;cases k
   ·have:=ltO_trans e q;rw[this] at k;cases k
abbrev SSO (l:List Oc):Prop:=l.Pairwise fun a b=>ltO a b=true
theorem SSO.ext:∀{l k:List Oc},SSO l→SSO k→(∀x,x∈l↔x∈k)→l=k
 | [],[],_,_,_ => rfl
 | [],b::k,_,_,h=>by have:=(h b).2 (by simp);simp at this
 | a::l,[],_,_,h=>by have:=(h a).1 (by simp);simp at this
 | a::l,b::k,h1,h2,h=>by
  rw[SSO,List.pairwise_cons] at h1 h2
  have e:a=b:=by
   rcases List.mem_cons.1 ((h a).1 (by simp)) with e|e
   ·exact e
   ·rcases List.mem_cons.1 ((h b).2 (by simp)) with e'|e'
    ·exact e'.symm
    ·have q1:=h2.1 a e
     have q2:=h1.1 b e'
     rw[ltO_asym q1] at q2;cases q2
  subst e
  congr 1
  refine SSO.ext h1.2 h2.2 fun x=>⟨fun hx=> ?_,fun hx=> ?_⟩
  ·rcases List.mem_cons.1 ((h x).1 (by simp[hx])) with e|e
   ·subst e;have:=h1.1 _ hx;rw[ltO_irr] at this;cases this
   ·exact e
  ·rcases List.mem_cons.1 ((h x).2 (by simp[hx])) with e|e
   ·subst e;have:=h2.1 _ hx;rw[ltO_irr] at this;cases this
   ·exact e
theorem putO_nil (o:Oc):putO [] o=[o]:=rfl
theorem putO_cons (a:Oc) (l:List Oc) (o:Oc):putO (a::l) o=if ltO a o=true then a::putO l o else if a=o then a::l else o::a::l:=by
 unfold putO
 by_cases h:ltO a o=true
 ·simp only[atO,if_pos h,List.getElem?_cons_succ]
  split<;>rfl
 ·simp only[atO,if_neg h,List.getElem?_cons_zero,Option.some.injEq]
  split<;>simp
theorem putO_ss (o:Oc):∀{l:List Oc},SSO l→SSO (putO l o)∧∀x,x∈putO l o↔x∈l∨x=o
 | [],_ => by rw[putO_nil];simp
 | a::l,h=>by
  rw[SSO,List.pairwise_cons] at h
  obtain ⟨i1,i2⟩:=putO_ss o h.2
  rw[putO_cons]
  by_cases h1:ltO a o=true
  ·rw[if_pos h1]
   refine ⟨List.pairwise_cons.2 ⟨fun x hx=> ?_,i1⟩,fun x=> ?_⟩
   ·rcases (i2 x).1 hx with e|e
    ·exact h.1 x e
    ·rw[e];exact h1
   ·simp only[List.mem_cons,i2 x,or_assoc]
  ·rw[if_neg h1]
   by_cases h2:a=o
   ·rw[if_pos h2]
    exact ⟨List.pairwise_cons.2 h,fun x=>⟨.inl,fun e=>e.elim id fun e=>by simp[e,h2]⟩⟩
   ·rw[if_neg h2]
    have h3:ltO o a=true:=by
     cases q:ltO o a
     ·exact absurd (ltO_tri (by simpa using h1) q) h2
     ·rfl
    refine ⟨List.pairwise_cons.2 ⟨fun x hx=> ?_,List.pairwise_cons.2 h⟩,fun x=> ?_⟩
    ·rcases List.mem_cons.1 hx with e|e
     ·rw[e];exact h3
     ·exact ltO_trans h3 (h.1 x e)
    ·simp only[List.mem_cons];constructor
     ·rintro (e|e|e);exact .inr e;exact .inl (.inl e);exact .inl (.inr e)
     ·rintro ((e|e)|e);exact .inr (.inl e);exact .inr (.inr e);exact .inl e
mutual
def YN:Exp→List Oc
 | .mk k _ p _ _ m a=>(if k=3 then [(p,m)] else [])++Y8 a
def Y8:List Exp→List Oc
 | []=>[]
 | e::r=>YN e++Y8 r
end
mutual
theorem usE_fold:∀(e:Exp) (l:List Oc),usE e l=(YN e).foldl putO l
 | .mk k _ p _ _ m a,l=>by
  simp only[usE,YN,usEL_fold a,List.foldl_append]
  split<;>rfl
theorem usEL_fold:∀(al:List Exp) (l:List Oc),usEL al l=(Y8 al).foldl putO l
 | [],l=>rfl
 | e::r,l=>by simp only[usEL,Y8,usEL_fold r,usE_fold e,List.foldl_append]
end
theorem foldO_ss:∀(os:List Oc) {l:List Oc},SSO l→SSO (os.foldl putO l)∧∀x,x∈os.foldl putO l↔x∈l∨x∈os
 | [],l,h=>by simp[h]
 | o::os,l,h=>by
  obtain ⟨h1,h2⟩:=putO_ss o h
  obtain ⟨h3,h4⟩:=foldO_ss os h1
  refine ⟨h3,fun x=> ?_⟩
  rw[List.foldl_cons,h4 x,h2 x,List.mem_cons,or_assoc]
def cpO (l:List Oc):List Oc:=l.foldl (fun acc x=>if acc.getLast?=some x then acc else acc++[x]) []
theorem cpO_snoc (l:List Oc) (x:Oc):cpO (l++[x])=if (cpO l).getLast? = some x then cpO l else cpO l++[x]:=by
 unfold cpO
 rw[List.foldl_append]
 rfl
theorem snocInd {α:Type} {p:List α→Prop} (h0:p []) (h1:∀l x,p l→p (l++[x])) (l:List α):p l:=by
 have key:∀r:List α,p r.reverse:=fun r=>by
  induction r with
  | nil=>exact h0
  | cons a r ih=>rw[List.reverse_cons];exact h1 _ _ ih
 have:=key l.reverse
 rwa [List.reverse_reverse] at this
theorem cpO_last (l:List Oc):(cpO l).getLast? = l.getLast?:=by
 refine snocInd (p:=fun l=>(cpO l).getLast? = l.getLast?) rfl (fun l x ih=> ?_) l
 rw[cpO_snoc]
 split
 ·rename_i h;rw[h];simp
 ·simp
theorem cpO_step (l:List Oc) (x:Oc):cpO (l++[x])=if l.getLast?=some x then cpO l else cpO l++[x]:=by rw[cpO_snoc,cpO_last]
theorem cpO_mem (l:List Oc):∀x,x∈cpO l↔x∈l:=by
 refine snocInd (p:=fun l=>∀x,x∈cpO l↔x∈l) (fun x=>Iff.rfl) (fun l y ih x=> ?_) l
 rw[cpO_step]
 split
 ·rename_i h
  rw[ih x,List.mem_append,List.mem_singleton]
  exact ⟨.inl,fun e=>e.elim id fun e=>by rw[e];exact List.mem_of_getLast? h⟩
 ·rw[List.mem_append,List.mem_append,ih x]
theorem cpO_ss (l:List Oc):(l.Pairwise fun a b=>ltO b a=false)→SSO (cpO l):=by
 refine snocInd (p:=fun l=>(l.Pairwise fun a b=>ltO b a=false)→SSO (cpO l)) (fun _ => List.Pairwise.nil) (fun l y ih h=> ?_) l
 rw[List.pairwise_append] at h
 obtain ⟨h1,_,h3⟩:=h
 rw[cpO_step]
 split
 ·exact ih h1
 ·rename_i hne
  refine List.pairwise_append.2 ⟨ih h1,List.pairwise_singleton _ _,fun a ha b hb=> ?_⟩
  rw[List.mem_singleton] at hb
  subst hb
  have ha':=(cpO_mem l a).1 ha
  have q:=h3 a ha' b (by simp)
  cases e:ltO a b
  ·exfalso
   have hab:=ltO_tri e q
   subst hab
   obtain ⟨z,hz⟩:∃z,l.getLast?=some z:=by
    cases hl:l.getLast? with
    | none=>rw[List.getLast?_eq_none_iff] at hl;subst hl;simp at ha'
    | some z=>exact ⟨z,rfl⟩
   rw[hz] at hne
   have hz':=List.mem_of_getLast? hz
   have q2:=h3 z hz' a (by simp)
   have q3:ltO z a=false:=by
    obtain ⟨l',rfl⟩:∃l',l=l'++[z]:=by
     rcases List.eq_nil_or_concat l with e|⟨l',b,e⟩
     ·subst e;simp at ha'
     ·refine ⟨l',?_⟩
      rw[List.concat_eq_append] at e
      subst e
      simp at hz
      rw[hz]
    rw[List.pairwise_append] at h1
    rcases List.mem_append.1 ha' with e1|e1
    ·exact h1.2.2 a e1 z (by simp)
    ·rw[List.mem_singleton] at e1;rw[e1];exact ltO_irr z
   exact hne (by rw[ltO_tri q3 q2])
  ·rfl
abbrev srO (l:List Oc):List Oc:=l.mergeSort fun x y=> !ltO y x
theorem srO_sorted (l:List Oc):(srO l).Pairwise fun a b=>ltO b a=false:=by
 have h:=List.pairwise_mergeSort (le:=fun x y:Oc=> !ltO y x)
  (fun a b c h k=>by
   simp only[Bool.not_eq_true'] at h k ⊢
   exact ltO_swo.ntrans _ _ _ k h)
  (fun a b=>by
   cases e:ltO b a
   ·simp
   ·simp[ltO_asym e]) l
 exact h.imp fun h=>by simpa using h
theorem usE_cp (e:Exp):cpO (srO (YN e))=usE e []:=by
 rw[usE_fold]
 obtain ⟨h1,h2⟩:=foldO_ss (YN e) (l:=[]) List.Pairwise.nil
 refine SSO.ext (cpO_ss _ (srO_sorted _)) h1 fun x=> ?_
 rw[cpO_mem,h2 x,(List.mergeSort_perm _ _).mem_iff]
 simp
theorem srO_len (l:List Oc):(srO l).length = l.length:=List.length_mergeSort _
mutual
theorem occE_len:∀e:Exp,(YN e).length ≤ 1+wEx e
 | .mk k n p t s m a=>by
  have h1:=occEL_len a
  simp only[YN,wEx,List.length_append]
  have h2:(if k=3 then [(p,m)] else []).length ≤ 1:=by split<;>simp
  omega
theorem occEL_len:∀al:List Exp,(Y8 al).length ≤ al.length+wExL al
 | []=>by simp[Y8]
 | e::r=>by
  have h1:=occE_len e
  have h2:=occEL_len r
  simp only[Y8,wExL,List.length_cons,List.length_append]
  omega
end
theorem cpO_len (l:List Oc):(cpO l).length ≤ l.length:=by
 refine snocInd (p:=fun l=>(cpO l).length ≤ l.length) (Nat.le_refl _) (fun l x ih=> ?_) l
 rw[cpO_step]
 split<;>simp<;>omega
theorem cpO_take {l:List Oc} {j:Nat} (h:j+1<l.length):cpO (l.take (j+2))=if l[j+1]=l[j] then cpO (l.take (j+1)) else cpO (l.take (j+1))++[l[j+1]]:=by
 have e:l.take (j+2)=l.take (j+1)++[l[j+1]]:=by rw[List.take_add_one (i:=j+1),List.getElem?_eq_getElem h];rfl
 have e2:(l.take (j+1)).getLast? = some l[j]:=by
  rw[List.take_add_one,List.getElem?_eq_getElem (by omega:j<l.length),Option.toList_some,List.getLast?_append]
  rfl
 rw[e,cpO_step,e2]
 simp only[Option.some.injEq]
 by_cases hq:l[j]=l[j+1]
 ·rw[if_pos hq,if_pos hq.symm]
 ·rw[if_neg hq,if_neg (fun e=>hq e.symm)]
end Go.Gh
namespace Go.Gh
open Go.Sort (HoldsK Holds flatK putRowK grow)
open Go.Proofs (sortWorldK)
def YW (o:Oc):List Value:=[.int .i64 o.1,.string o.2]
theorem encO_len (o:Oc):(YW o).length = 2:=rfl
theorem encO_one (o:Oc):∀v∈YW o,v.oneCell'=true:=by
 intro v hv
 simp only[YW,List.mem_cons,List.not_mem_nil,or_false] at hv
 rcases hv with rfl|rfl<;>rfl
theorem MF_Occ {w:World} {D:Nat→Prop}:∀{l:List Oc} {cs:List Value} {F:List Nat},MF w D 2 (l.map Occ) cs F→cs=l.flatMap YW∧F=[]
 | [],cs,F,h=>by simpa[MF] using h
 | o::l,cs,F,h=>by
  simp only[List.map_cons,MF] at h
  obtain ⟨v,cs',F1,F2,h1,h2,h3,h4,h5,h6⟩:=h
  obtain ⟨e1,e2⟩:=MF_Occ h6
  simp only[MV,ML] at h5
  obtain ⟨vs,rfl,_,u1,us,G1,G2,rfl,rfl,⟨rfl,rfl⟩,u2,us2,G3,G4,rfl,rfl,⟨rfl,rfl⟩,rfl,rfl⟩:=h5
  subst e1 e2 h1 h4
  exact ⟨rfl,rfl⟩
theorem Occ_MF (w:World) (D:Nat→Prop):∀l:List Oc,MF w D 2 (l.map Occ) (l.flatMap YW) []
 | []=>by simp[MF]
 | o::l=>by
  simp only[List.map_cons,MF]
  refine ⟨.agg (YW o).toArray,l.flatMap YW,[],[],rfl,rfl,?_,rfl,?_,Occ_MF w D l⟩
  ·intro x hx
   exact encO_one o x (by simpa[Value.cells] using hx)
  ·simp only[MV,ML]
   exact ⟨YW o,rfl,encO_one o,_,_,[],[],rfl,rfl,⟨rfl,rfl⟩,_,_,[],[],rfl,rfl,⟨rfl,rfl⟩,rfl,rfl⟩
theorem flat_len:∀l:List Oc,(l.flatMap YW).length = l.length * 2
 | []=>rfl
 | o::l=>by simp only[List.flatMap_cons,List.length_append,flat_len l,List.length_cons,encO_len];omega
theorem flat_get:∀(l:List Oc) (t:Nat),t<l.length * 2→(l.flatMap YW)[t]? = some ((YW l[t / 2]!)[t % 2]!)
 | [],t,h=>by simp at h
 | o::l,t,h=>by
  simp only[List.flatMap_cons]
  match t,h with
  | 0,_ => rfl
  | 1,_ => rfl
  | t+2,h=>
   have e1:(t+2) / 2=t / 2+1:=by omega
   have e2:(t+2) % 2=t % 2:=by omega
   rw[List.getElem?_append_right (by simp[encO_len]),e1,e2,encO_len,Nat.add_sub_cancel,flat_get l t (by simp at h;omega)]
   simp
theorem flatK_toList (l:List Oc):(flatK YW 2 l.toArray).toList = l.flatMap YW:=by
 refine List.ext_getElem? fun t=> ?_
 rcases Nat.lt_or_ge t (l.length * 2) with h|h
 ·rw[flat_get l t h]
  have h':t<(flatK YW 2 l.toArray).size := by simpa using h
  rw[Array.getElem?_toList,Array.getElem?_eq_getElem h',←getElem!_pos (flatK YW 2 l.toArray) t h',Sort.get_flatK _ _ _ _ (by simpa using h)]
  simp
 ·rw[List.getElem?_eq_none (l:=l.flatMap YW) (by rw[flat_len];exact h),List.getElem?_eq_none (by simpa using h)]
theorem St.putO {w w':World} {D:Nat→Prop} {H:GH} {Ω:List Nat} (h:St w D H Ω) {r:Nat} {l l':List Oc} (hr:ZV H r=some (2,l.map Occ)) (hl:l'.length=l.length) (hk:Kept w w' (fun x=>r≠2 * x))
 (hos:w'.os=w.os) (htp:w'.tape=w.tape) (hou:w'.output=w.output)
 (hb:∀b c T fz,r=2 * b→w.heap[b]? = some (Obj.cells c T fz)→Thaw c fz→l.length * 2≤c.size→∃c',w'.heap[b]? = some (Obj.cells c' T fz)∧c'.size=c.size∧c'.toList.take (l.length * 2)=l'.flatMap YW) :
 ∃Ω',St w' D (ZC H r (l'.map Occ)) Ω'∧Ev w D Ω w' D Ω':=by
 obtain ⟨Ω1,F,Ω2,hΩ,hR,hput,_⟩:=HM.take h.hm hr
 have hDr:∀b,F=[b]→r=2 * b→∀x,D x→r≠2 * x:=fun b hF e x hx e'=>by
  have:x=b:=by omega
  subst this
  exact h.dj x (by rw[hΩ,hF];simp) hx
 rcases hR with ⟨b,c,T,fz,F',k1,k2,k3,k4,k5,k6,k7⟩|⟨k1,k2,k3⟩
 ·rw[List.length_map] at k4 k5 k7
  obtain ⟨c',c1,c2,c3⟩:=hb b c T fz k1 k2 k3 k4
  obtain ⟨_,e0⟩:=MF_Occ k7
  subst e0
  subst k6 hΩ
  have hnd:=h.nd
  have hbΩ:b∈Ω1++([b]++Ω2):=by simp
  have hb1:∀x∈Ω1++Ω2,r≠2 * x:=fun x hx e=>by
   have:x=b:=by omega
   subst this
   simp only[List.nodup_append,List.nodup_cons,List.mem_append,List.mem_cons,List.cons_append] at hnd hx
   rcases hx with hx|hx
   ·exact hnd.2.2 _ hx _ (.inl rfl) rfl
   ·exact hnd.2.1.1 (by simpa using hx)
  refine ⟨Ω1++([b]++Ω2),⟨hput w' D (fun x=>r≠2 * x) _ _ hk (hDr b rfl k1) (fun _ h=>h) hb1 ?_,hnd,by rw[YY];exact h.nn,h.dj,fun x hx=>Nat.lt_of_lt_of_le (h.ds x hx) hk.size⟩,
   ⟨fun _ h=>h,fun _ _ h=> .inl h,fun x hx _ => hx,hk.mono ?_,hos,htp,hou⟩⟩
  ·refine .inl ⟨b,c',T,fz,[],k1,c1,?_,by rw[List.length_map,hl,c2];exact k4,by rw[List.length_map,hl];exact k5,rfl,?_⟩
   ·unfold Thaw at *;rw[c2];exact k3
   ·rw[List.length_map,hl,c3];exact Occ_MF w' D l'
  ·intro x _ hx e
   have:x=b:=by omega
   subst this
   exact hx hbΩ
 ·have e0:l=[]:=by simpa using k2
  subst e0 k3 hΩ
  have e1:l'=[]:=List.eq_nil_of_length_eq_zero hl
  subst e1
  have hne:∀x:Nat,r≠2 * x:=fun x e=>by omega
  exact ⟨_,⟨hput w' D (fun x=>r≠2 * x) _ [] hk (fun x _ => hne x) (fun _ h=>h) (fun x _ => hne x) (.inr ⟨⟨k1.1,fun h4 h5=>(k1.2 h4 h5).keep hk (fun x _ => hne x) (fun _ h=>h)⟩,rfl,rfl⟩),h.nd,by rw[YY];exact h.nn,h.dj,fun x hx=>Nat.lt_of_lt_of_le (h.ds x hx) hk.size⟩,
   ⟨fun _ h=>h,fun _ _ h=> .inl h,fun x hx _ => hx,hk.mono fun x _ _ => hne x,hos,htp,hou⟩⟩
theorem kept_sort {w:World} {b n:Nat} {dk:Array Oc} {os:Array Obj}:Kept w (sortWorldK YW 2 w b 0 n dk os) (fun x=>x≠b):=by
 have hsz:(putRowK YW 2 (Sort.ahead w n) b 0 dk).heap.size = w.heap.size:=by simp[putRowK,Sort.putRow,Sort.mapBlock,Sort.ahead]
 have ZV:∀x,x<w.heap.size→(sortWorldK YW 2 w b 0 n dk os).heap[x]? = (putRowK YW 2 (Sort.ahead w n) b 0 dk).heap[x]? := fun x hx=>by
  show ((putRowK YW 2 (Sort.ahead w n) b 0 dk).heap ++ os)[x]? = _
  rw[Array.getElem?_append_left (by rw[hsz];exact hx)]
 refine ⟨fun x hx hne=> ?_,?_,fun x c T fz hx=> ?_⟩
 ·rw[ZV x hx]
  simp only[putRowK,Sort.putRow,Sort.mapBlock,Sort.ahead,Array.getElem?_modify]
  rw[if_neg (fun e=>hne e.symm)]
 ·show w.heap.size≤((putRowK YW 2 (Sort.ahead w n) b 0 dk).heap ++ os).size
  rw[Array.size_append,hsz];omega
 ·rw[ZV x (YZ hx)]
  simp only[putRowK,Sort.putRow,Sort.mapBlock,Sort.ahead,Array.getElem?_modify]
  by_cases e:b=x
  ·subst e
   simp only[if_true,hx,Option.map_some,Sort.onCells]
   exact ⟨_,_,rfl,by simp[Sort.putCells]⟩
  ·rw[if_neg e];exact ⟨c,fz,hx,rfl⟩
theorem cells_sort {w:World} {b n:Nat} {dk:List Oc} {os:Array Obj} {c:Array Value} {T:TypeId} {fz:Nat×Nat} (hx:w.heap[b]? = some (.cells c T fz)) (hs:dk.length * 2≤c.size) :
 ∃c',(sortWorldK YW 2 w b 0 n dk.toArray os).heap[b]? = some (.cells c' T fz)∧c'.size=c.size∧c'.toList.take (dk.length * 2)=dk.flatMap YW:=by
 have hsz:(putRowK YW 2 (Sort.ahead w n) b 0 dk.toArray).heap.size = w.heap.size:=by simp[putRowK,Sort.putRow,Sort.mapBlock,Sort.ahead]
 have e:(sortWorldK YW 2 w b 0 n dk.toArray os).heap[b]? = (putRowK YW 2 (Sort.ahead w n) b 0 dk.toArray).heap[b]? := by
  show ((putRowK YW 2 (Sort.ahead w n) b 0 dk.toArray).heap ++ os)[b]? = _
  rw[Array.getElem?_append_left (by rw[hsz];exact YZ hx)]
 rw[e]
 simp only[putRowK,Sort.putRow,Sort.mapBlock,Sort.ahead,Array.getElem?_modify,if_true,hx,Option.map_some,Sort.onCells]
 refine ⟨_,rfl,by simp[Sort.putCells],?_⟩
 rw[←flatK_toList]
 refine List.ext_getElem? fun t=> ?_
 rcases Nat.lt_or_ge t (dk.length * 2) with h|h
 ·have h1:t<c.size:=by omega
  have h':t<(flatK YW 2 dk.toArray).size := by simpa using h
  rw[List.getElem?_take_of_lt h,Array.getElem?_toList,Array.getElem?_toList,Array.getElem?_eq_getElem h']
  simp only[Sort.putCells,Array.getElem?_mapIdx,Array.getElem?_eq_getElem h1,Option.map_some]
  rw[if_pos ⟨Nat.zero_le _,by simpa using h⟩,Nat.sub_zero,getElem!_pos (flatK YW 2 dk.toArray) t h']
  rfl
 ·rw[List.getElem?_eq_none (by simp;omega),List.getElem?_eq_none (by simpa using h)]
theorem sort_ok {P : Program} {fs g : Nat} (hc : ∀ (w : World) (b cap : Nat) (d : Array Oc), HoldsK YW 2 w b 0 d → b < w.heap.size → d.size < 4611686018427387904 →
      Calls P fs #[.slice (some ⟨b, 0, none⟩) d.size cap, .func (.func g) #[] #[]] w fun e w' => e = .returned (.tuple #[]) ∧ ∃ n os, w' = sortWorldK YW 2 w b 0 n (srO d.toList).toArray os)
    (h0 : ∀ (p : Option Addr) (cap : Nat) (fv : Value) (w : World), Calls P fs #[.slice p 0 cap, fv] w fun e w' => e = .returned (.tuple #[]) ∧ w' = w)
    (eg : ∀ args w, (callFunc fs args).run P w = .ok (.enter fs args) w)
    {r n : Nat} {l : List Oc} {H : GH} (hr : ZV H r = some (2, l.map Occ)) (hn : l.length = n) (hb : n < 4611686018427387904) :
    GCalls P fs [.own r 2 0 n, .clo g []] H (fun v H' => v = uG ∧ H' = ZC H r ((srO l).map Occ)) := by
  intro w D Ω args hst hargs
  simp only [ML] at hargs
  obtain ⟨v1, vs1, F1, F2, rfl, e1, hv1, v2, vs2, F3, F4, rfl, e2, hv2, rfl, e3⟩ := hargs
  simp only [MV, ML] at hv1 hv2
  obtain ⟨rfl, hv1⟩ := hv1
  obtain ⟨rfl, vs, rfl, rfl, _⟩ := hv2
  rw [eg]
  show Calls P fs _ w _
  by_cases hz : n = 0
  · have e0 : l = [] := List.eq_nil_of_length_eq_zero oT
    subst e0
    have hH : ZC H r ((srO []).map Occ) = H := by
      have : srO [] = [] := by simp [srO]
      rw [this]; exact hset_self hr
    have key : ∀ p cap, v1 = .slice p 0 cap → Calls P fs #[v1, .func (.func g) #[] #[]] w (fun e w'' => ∃ v, e = .returned v ∧ Post w D Ω (fun v H' => v = uG ∧ H' = ZC H r ((srO []).map Occ)) v w'') := fun p cap e => by
      subst e
      refine (h0 p cap _ w).mono ?_
      rintro e w' ⟨rfl, rfl⟩
      exact ⟨_, rfl, Post.here hst ⟨rfl, hH.symm⟩ (MV.val_mk _)⟩
    rcases hv1 with ⟨b, cap, c, T, fz, q0, hp, _⟩ | ⟨_, a, hp⟩
    · rw [hz] at hp; exact key _ _ hp
    · exact key _ _ hp
  · rcases hv1 with ⟨b, cap, c, T, fz, q0, hp, q1, q2, q3⟩ | ⟨q, _⟩
    case inr => exact absurd q hz
    rw [Nat.zero_mul] at hp
    subst hp
    obtain ⟨F, hF, hFΩ⟩ := hst.hm.mem hr
    obtain ⟨b', c', T', fz', F', k1, k2, k3, k4, k5, k6, k7⟩ := hF.es_ne (fun e => by
      have : l = [] := by simpa using e
      subst this; exact hz (by simpa using hn.symm))
    have : b' = b := by omega
    subst this
    rw [q2] at k2
    simp only [Option.some.injEq, Obj.cells.injEq] at k2
    obtain ⟨rfl, rfl, rfl⟩ := k2
    rw [List.length_map] at k4 k7
    obtain ⟨hcs, _⟩ := MF_Occ k7
    have hH : HoldsK YW 2 w b' 0 l.toArray := by
      intro j hj
      have hj' : j < l.length * 2 := by simpa using hj
      have hjc : j < c.size := by omega
      have hx := flat_get l j hj'
      rw [← hcs, List.getElem?_take_of_lt hj', Array.getElem?_toList] at hx
      refine ⟨?_, ?_⟩
      · rw [Nat.zero_add]
        simp only [World.cell?, q2, Option.isSome_none, Bool.false_eq_true, if_false, hx, id]
        rw [Sort.get_flatK _ _ _ _ (by simpa using hj')]
        simp
      · rw [Nat.zero_add]
        simp only [World.frozen?, q2]
        exact k3 j hjc
    have hcall := hc w b' cap l.toArray hH (YZ q2) (by simpa [hn] using hb)
    have hsz : l.toArray.size = n := by simpa using hn
    rw [hsz] at hcall
    refine hcall.mono ?_
    rintro e w' ⟨rfl, m, os, rfl⟩
    have hkp : Kept w (sortWorldK YW 2 w b' 0 m (srO l).toArray os) (fun x => r ≠ 2 * x) := (kept_sort (b := b')).mono fun x _ hx e => hx oT
    obtain ⟨Ω', c1, c2⟩ := hst.putO (l' := srO l) hr (srO_len l) hkp rfl rfl rfl (fun b c2 T2 fz2 e1 e2 _ hs => by
      have : b = b' := by omega
      subst this
      rw [q2] at e2
      simp only [Option.some.injEq, Obj.cells.injEq] at e2
      obtain ⟨rfl, rfl, rfl⟩ := e2
      have := cells_sort (n := m) (dk := srO l) (os := os) q2 (by rw [srO_len]; exact hs)
      rwa [srO_len] at this)
    exact ⟨_, rfl, _, _, D, Ω', ⟨rfl, rfl⟩, MV.val_mk _, c1, c2⟩
theorem hget_hset_ne {r q:Nat} {es:List GV} (h:r≠q):∀{H:GH},ZV (ZC H r es) q=ZV H q
 | []=>rfl
 | (p,sz,fs)::H=>by
  simp only[ZC]
  by_cases h1:p=r
  ·rw[if_pos h1,ZV,ZV,if_neg oT,if_neg oT]
  ·rw[if_neg h1,ZV,ZV,hget_hset_ne h]
theorem MV.agg1 {w:World} {D:Nat→Prop} {r sz k n:Nat}:∀v F,MV w D (.own r sz k n) v F→∃v',v'.cells=v.cells∧MV w D (.agg [.own r sz k n]) v' F:=fun v F h=>by
 have hs:∃a m c,v = .slice a m c:=by
  simp only[MV] at h
  rcases h.2 with ⟨b,cap,c,T,fz,_,hp,_⟩|⟨_,a,hp⟩
  ·exact ⟨_,_,_,hp⟩
  ·exact ⟨_,_,_,hp⟩
 obtain ⟨a,m,c,rfl⟩:=hs
 refine ⟨.agg #[.slice a m c],rfl,?_⟩
 have hF:F=[]:=by simp only[MV] at h;exact h.1
 subst hF
 rw[MV]
 refine ⟨[.slice a m c],rfl,by simp[Value.oneCell'],?_⟩
 rw[ML]
 exact ⟨_,_,[],[],rfl,rfl,h,by simp[ML]⟩
theorem FE.closeE {env:Env} {H:GH} {r r1 sz sz1 i n:Nat} {es ks:List GV} (hne:r≠r1) (hr:ZV H r=some (sz,es)) (he:es[i]? = some (.own r1 sz1 0 n)) (hr1:ZV H r1=some (sz1,ks)) (hn:ks.length=n) :
 FE env H env (Y9 (ZC H r (es.set i (.osl sz1 ks))) r1):=by
 have hi:i<es.length:=by
  rcases Nat.lt_or_ge i es.length with h|h
  ·exact h
  ·rw[List.getElem?_eq_none h] at he;cases he
 have h1:=FE.exchC (env:=env) (i:=i) (e':= .agg [.own r1 sz1 0 n]) hr he (fun _ _ => MV.agg1)
 have h2:=FE.close (env:=env) (H:=ZC H r (es.set i (.agg [.own r1 sz1 0 n]))) (r:=r) (r1:=r1) (i:=i) (j:=0) hne (by rw[hget_set hr]) (List.getElem?_set_self hi) rfl (by rw[hget_hset_ne hne];exact hr1) hn
 have h3:=FE.exchC (env:=env) (H:=Y9 (ZC (ZC H r (es.set i (.agg [.own r1 sz1 0 n]))) r ((es.set i (.agg [.own r1 sz1 0 n])).set i (.agg [.osl sz1 ks]))) r1) (r:=r) (i:=i) (e':= .osl sz1 ks) (by rw[hget_hdel hne,hset_set,hget_set hr]) (List.getElem?_set_self (by simpa using hi)) (fun _ _ => MV.unagg)
 refine FE.trans h1 (FE.trans h2 ?_)
 rw[hset_hdel hne,hset_set,hset_set,List.set_set,List.set_set] at h3
 rw[hset_set,List.set_set]
 exact h3
theorem FE.closeE2 {env:Env} {H:GH} {r r1 sz sz1 n:Nat} {L ks:List GV} (hne:¬r=r1) (hn:ks.length=n) :
 FE env ((r,sz,L++[.own r1 sz1 0 n])::(r1,sz1,ks)::H) env ((r,sz,L++[.osl sz1 ks])::H):=by
 have h:=FE.closeE (env:=env) (H:=(r,sz,L++[.own r1 sz1 0 n])::(r1,sz1,ks)::H) (r:=r) (r1:=r1) (sz1:=sz1) (ks:=ks) (n:=n) (i:=L.length) hne ZZ (by simp) (by rw[hget_old hne,ZZ]) hn
 rw[XQ,hdel_old hne,XR] at h
 simpa using h
open Go.Proofs (ltOf)
theorem ltS_or (x y:ByteArray):(Op.bytesLess x.data.toList y.data.toList||x.data.toList == y.data.toList) = !ltN y x:=by
 have h:=ltN_irr x
 cases e1:ltN x y
 ·cases e2:ltN y x
  ·have:=ltN_tri e1 e2
   subst this
   simp
  ·have e3:Op.bytesLess x.data.toList y.data.toList=false:=e1
   rw[e3]
   simp only[Bool.false_or,Bool.not_true,beq_eq_false_iff_ne]
   intro e4
   have:x=y:=chars_inj.1 e4
   subst this
   rw[h] at e2;cases e2
 ·have e2:ltN y x=false:=by
   cases q:ltN y x
   ·rfl
   ·have:=ltN_trans e1 q;rw[h] at this;cases this
  have e3:Op.bytesLess x.data.toList y.data.toList=true:=e1
  rw[e3,e2];rfl
theorem cellA (W:World) (cs:Array Value) (T:TypeId) (i:Nat):(W.alloc (.cells cs T)).cell? ⟨W.heap.size,i,none⟩=cs[i]? := by
 simp only[World.cell?,hp_new];rfl
theorem cellB (W:World) (o:Obj) (b i:Nat) (h:b<W.heap.size):(W.alloc o).cell? ⟨b,i,none⟩=W.cell? ⟨b,i,none⟩:=by
 simp only[World.cell?,hp_old _ _ _ h]
theorem cell1a (W:World) (v0 v1:Value) (T:TypeId):((W.alloc (.cells #[v0,v1] T)).drew).cell? ⟨W.heap.size,0,none⟩=some v0:=cellA W _ T 0
theorem cell1b (W:World) (v0 v1:Value) (T:TypeId):((W.alloc (.cells #[v0,v1] T)).drew).cell? ⟨W.heap.size,1,none⟩=some v1:=cellA W _ T 1
theorem sizeA (W:World) (o:Obj):(W.alloc o).heap.size = W.heap.size+1:=by simp
def cfO (x y:Oc):Int:=if (if x.1<y.1 then (-1:Int) else if y.1<x.1 then 1 else 0)≠0 then (if x.1<y.1 then -1 else if y.1<x.1 then 1 else 0) else if ltN x.2 y.2=true then -1 else if ltN y.2 x.2=true then 1 else 0
theorem cfO_lt (x y:Oc):ltOf cfO x y=ltO x y:=by
 unfold ltOf cfO ltO
 by_cases h1:x.1<y.1
 ·simp[h1]
 ·by_cases h2:y.1<x.1
  ·have:¬x.1=y.1:=by omega
   simp[h1,h2,this]
  ·have:x.1=y.1:=by omega
   cases e1:ltN x.2 y.2
   ·cases e2:ltN y.2 x.2<;>simp[h1,h2,this,e1,e2]
   ·simp[h1,h2,this,e1]
theorem cfO_eq:ltOf cfO=ltO:=funext fun x=>funext fun y=>cfO_lt x y
end Go.Gh
namespace Go.Gh
def Zg (n:Nat) (p:Nat→Bool):Int:=match (List.range n).find? p with
 | some i=>i
 | none=> -1
theorem firstI_hit {n i:Nat} {p:Nat→Bool} (h:i<n) (hp:p i=true) (hn:∀j,j<i→p j=false):Zg n p=i:=by
 have e:(List.range n).find? p=some i:=by
  rw[List.find?_range_eq_some]
  exact ⟨hp,by simpa using h,fun j hj=>by simp[hn j hj]⟩
 simp[Zg,e]
theorem XX {n:Nat} {p:Nat→Bool} (hn:∀j,j<n→p j=false):Zg n p = -1:=by
 have e:(List.range n).find? p=none:=by
  rw[List.find?_eq_none]
  intro j hj
  rw[hn j (by simpa using hj)]
  simp
 simp[Zg,e]
theorem Yl (n:Nat) (p:Nat→Bool):Zg n p = -1∨(0≤Zg n p∧Zg n p<n):=by
 unfold Zg
 cases e:(List.range n).find? p with
 | none=>exact .inl rfl
 | some i=>
  have:=List.mem_of_find?_eq_some e
  simp at this
  refine .inr ⟨?_,?_⟩
  ·show (0:Int)≤(i:Int)
   omega
  ·show (i:Int)<n
   omega
theorem XU {n:Nat} {p:Nat→Bool} (h:Zg n p = -1) {j:Nat} (hj:j<n):p j=false:=by
 unfold Zg at h
 cases e:(List.range n).find? p with
 | none=>
  rw[List.find?_eq_none] at e
  simpa using e j (by simpa using hj)
 | some i=>
  rw[e] at h
  have h':(i:Int) = -1:=h
  omega
theorem lt_step {p:Nat→Bool} {i:Nat} {b:Bool} (h:p i=b) (hn:∀j,j<i→p j=b):∀j,j<i+1→p j=b:=fun j hj=>by
 rcases Nat.lt_succ_iff_lt_or_eq.1 hj with e|e
 ·exact hn j e
 ·rw[e];exact h
theorem rngAll_no {n i:Nat} {p:Nat→Bool} (h:i<n) (hp:p i=false):(List.range n).all p=false:=by
 rw[List.all_eq_false]
 exact ⟨i,by simpa using h,by simp[hp]⟩
theorem rngAll_yes {n:Nat} {p:Nat→Bool} (h:∀j,j<n→p j=true):(List.range n).all p=true:=by
 rw[List.all_eq_true]
 intro j hj
 exact h j (by simpa using hj)
theorem all_no {α:Type} {p:α→Bool} {l:List α} {i:Nat} (h:i<l.length) (hp:p l[i]=false):l.all p=false:=by
 rw[List.all_eq_false]
 exact ⟨l[i],List.getElem_mem h,by simp[hp]⟩
theorem XW {α:Type} {p:α→Bool} {l:List α} {i:Nat} (h:i<l.length) (hp:p l[i]=true):l.any p=true:=by
 rw[List.any_eq_true]
 exact ⟨l[i],List.getElem_mem h,hp⟩
theorem all_yes {α:Type} {p:α→Bool} {l:List α} (h:∀a∈l,p a=true):l.all p=true:=List.all_eq_true.2 h
theorem any_no {α:Type} {p:α→Bool} {l:List α} (h:∀a∈l,p a=false):l.any p=false:=by
 rw[List.any_eq_false]
 intro a ha
 rw[h a ha];simp
theorem Zi {α:Type} {p:α→Bool} {l:List α} {i:Nat} {b:Bool} (h:i<l.length) (hp:p l[i]=b) (hn:∀a∈l.take i,p a=b):∀a∈l.take (i+1),p a=b:=by
 intro a ha
 rw[List.take_add_one,List.getElem?_eq_getElem h,Option.toList_some,List.mem_append] at ha
 rcases ha with ha|ha
 ·exact hn a ha
 ·simp only[List.mem_singleton] at ha;rw[ha];exact hp
def attV (a:Att):Bool:=Zj a.name&&(decide (1≤a.type∧a.type≤4)&&(decide (1≤a.mode∧a.mode≤3)&&(if a.mode=3 then decide (a.type=2) && !a.circ else !a.circ || decide (a.type=2))))
def dupA (l:List Att) (i:Nat):Bool:=(l.take i).any fun o=>decide (o.name=(l.getD i attZ).name)
def symV (s:Sym):Bool:=s.atts.all attV&&((List.range s.atts.length).all fun i=> !dupA s.atts i)&&(Zj s.name&&decide (s.atts.length≤4))
def fitE (e:Exp) (n:Int):Bool:=validE e&&allE (fun x=>decide (x.pos≤n)) e
def eqnV (n:Nat) (q:Eqn):Bool:=fitE q.expr n&&(Zj q.name&&decide (0≤q.pos∧q.pos≤n))
def conV (n:Nat) (c:Con):Bool:=fitE c.goal n&&(fitE c.value n&&(Zj c.sym&&Zj c.name))
def rulV (r:Rul):Bool:=Zj r.name&&(Zj r.left&&(decide (r.right.length≤3)&&(decide (r.cons.length≤2)&&(r.right.all Zj&&(r.eqs.all (eqnV r.right.length)&&r.cons.all (conV r.right.length))))))
def symB (g:Gram) (i:Nat):Bool:= !symV (g.syms.getD i symZ)||(g.syms.take i).any fun o=>decide (o.name=(g.syms.getD i symZ).name)
def rulB (g:Gram) (i:Nat):Bool:= !rulV (g.rules.getD i rulZ)||(g.rules.take i).any fun o=>decide (o.name=(g.rules.getD i rulZ).name)
def sfI (g:Gram):Int:=if 0≤Zg g.syms.length (symB g) then Zg g.syms.length (symB g) else Zg g.rules.length (rulB g)
def reqP (g:Gram) (r:Rul) (pos:Nat):List Oc:=((Zy g.syms (Zw r pos)).atts.filter fun a=>decide (a.mode=if pos=0 then 2 else 1)).map fun a=>((pos:Int),a.name)
def Zb (g:Gram) (r:Rul):Nat→List Oc
 | 0=>[]
 | n+1=>Zb g r n++reqP g r n
def reqO (g:Gram) (r:Rul):List Oc:=Zb g r (r.right.length+1)
def mayU (g:Gram) (r:Rul) (o:Oc):Bool:=hasAt g r o.1 o.2&&decide ((Zk g r o.1 o.2).mode = if o.1=0 then 1 else 2)
def unkR (g:Gram) (r:Rul):Bool:= !((List.range (r.right.length+1)).all fun pos=>hSym g.syms (Zw r pos))
def misR (g:Gram) (r:Rul):Bool:=(reqO g r).any fun o=> !(YC r o).isSome
def hasO (l:List Oc) (o:Oc):Bool:=l.any fun y=>decide (y=o)
def atQ (q:Eqn):Oc:=(q.pos,q.name)
def extR (g:Gram) (r:Rul):Bool:= !((List.range r.eqs.length).all fun i=>hasO (reqO g r) ((r.eqs.map atQ).getD i (0,noS)) && !hasO ((r.eqs.map atQ).take i) ((r.eqs.map atQ).getD i (0,noS)))
def Yw (g:Gram) (r:Rul) (e:Exp):Bool:=(usE e []).any fun o=> !mayU g r o
def expR (r:Rul):List Exp:=r.eqs.map (·.expr)++r.cons.flatMap fun c=>[c.goal,c.value]
def misU (g:Gram) (r:Rul):Bool:=(expR r).any (Yw g r)
def brk (g:Gram) (r:Rul) (c:Nat):Bool:=if c=3 then unkR g r else if c=4 then misR g r else if c=5 then extR g r else misU g r
def brF (g:Gram) (c:Nat):Int:=Zg g.rules.length fun i=>brk g (g.rules.getD i rulZ) c
def shpC (g:Gram):Int×Int:=
 if ¬((1≤g.syms.length∧g.syms.length≤4)∧(1≤g.rules.length∧g.rules.length≤8)) then (1,0)
 else if 0≤sfI g then (1,sfI g)
 else if ((g.syms.getD 0 symZ).atts.any fun a=>decide (a.mode=1))=true then (2,0)
 else if 0≤brF g 3 then (3,brF g 3) else if 0≤brF g 4 then (4,brF g 4) else if 0≤brF g 5 then (5,brF g 5) else if 0≤brF g 6 then (6,brF g 6) else (0,0)
def misT (g:Gram) (r:Rul):Bool:=(r.eqs.any fun q=> !decide (tyE g r q.expr=(Zk g r q.pos q.name).type)) ||
 r.cons.any fun c=> !decide (tyE g r c.goal=4)||(!decide (tyE g r c.value=2) || !decide ((YE (Zy g.syms c.sym).atts c.name).mode = 3))
def hOf (g:Gram) (out:List Int) (n:ByteArray):Int:=if Zt (fun s:Sym=>decide (s.name=n)) g.syms<0 then 0 else out.getD (Zt (fun s:Sym=>decide (s.name=n)) g.syms).toNat 0
def rchR (g:Gram) (out:List Int) (s:ByteArray) (r:Rul):Bool:=decide (r.left=s)&&r.right.all fun c=>decide (0<hOf g out c)
def rchS (g:Gram) (out:List Int) (s:ByteArray):Bool:=g.rules.any (rchR g out s)
def hNext (g:Gram) (round:Int) (out:List Int) (i:Nat):Int:=if 0<out.getD i 0 then out.getD i 0 else if rchS g out (g.syms.getD i symZ).name then round else out.getD i 0
def hIt (g:Gram):Nat→List Int
 | 0=>List.replicate g.syms.length 0
 | k+1=>(List.range g.syms.length).map (hNext g ((k:Int)+1) (hIt g k))
def YA (g:Gram):List Int:=hIt g g.syms.length
def minH (g:Gram) (n:ByteArray):Int:=hOf g (YA g) n
theorem hIt_len (g:Gram):∀k,(hIt g k).length = g.syms.length
 | 0=>by simp[hIt]
 | k+1=>by simp[hIt]
theorem hIt_nn (g:Gram):∀k,∀x∈hIt g k,0≤x
 | 0,x,h=>by simp[hIt] at h;omega
 | k+1,x,h=>by
  simp only[hIt,List.mem_map,List.mem_range] at h
  obtain ⟨i,hi,rfl⟩:=h
  have hg:0≤(hIt g k).getD i 0:=by
   rw[Z6 (by rw[hIt_len];exact hi)]
   exact hIt_nn g k _ (List.getElem_mem _)
  simp only[hNext]
  split
  ·exact hg
  ·split
   ·omega
   ·exact hg
def tyF (g:Gram):Int:=Zg g.rules.length fun i=>misT g (g.rules.getD i rulZ)
def emF (g:Gram):Int:=Zg g.syms.length fun i=>decide ((YA g).getD i 0=0)
def chkG (g:Gram):Int×Int:=
 if (shpC g).1 ≠ 0 then shpC g else if 0≤tyF g then (7,tyF g) else if 0≤emF g then (8,emF g) else (0,0)
def accG (g:Gram):Bool:=decide ((chkG g).1 = 0)
end Go.Gh
namespace Go.Gh
def stF (t:List Nod) (o:Int) (u:Oc):Option Oc:=if (Y0 t o u).2 = true then some (Y0 t o u).1 else none
def stI (g:Gram) (t:List Nod) (x:Oc):List Oc:=(usE (Zf g t x) []).filterMap (stF t (YI g t x))
theorem stI_no {g:Gram} {t:List Nod} {x:Oc} (h:Y6 g t x=false):stI g t x=[]:=by
 have:Zf g t x=expZ:=by simp[Zf,h]
 simp[stI,this,expZ,usE,usEL]
theorem stI_len {g:Gram} (hg:ZE g) (t:List Nod) (x:Oc):(stI g t x).length ≤ 2097152:=by
 have h1:=List.length_filterMap_le (stF t (YI g t x)) (usE (Zf g t x) [])
 have h2:=usE_len (Zf g t x) []
 have h3:=defE_small hg t x
 simp only[stI]
 simp only[List.length_nil] at h2
 omega
theorem usE_sm {e:Exp} (h:wEx e≤1048576):(usE e []).length ≤ 1048577:=by
 have h2:=usE_len e []
 simp only[List.length_nil] at h2
 omega
theorem fm_step {α β:Type} (f:α→Option β) {l:List α} {i:Nat} (h:i<l.length):(l.take (i+1)).filterMap f=(l.take i).filterMap f++(f l[i]).toList := by
 rw[List.take_add_one,List.getElem?_eq_getElem h,List.filterMap_append]
 cases e:f l[i]<;>simp[e]
def ixI (L:List Oc) (y:Oc):Int:=Zt (fun z=>decide (z=y)) L
theorem ixI_rng (L:List Oc) (y:Oc) : -1≤ixI L y∧ixI L y<L.length:=by
 rcases X1 (fun z=>decide (z=y)) L with h|h<;>unfold ixI<;>omega
def rowI (g:Gram) (t:List Nod) (L:List Oc) (x:Oc):List Int:=(stI g t x).map (ixI L)
def Zv (g:Gram) (t:List Nod):List (List Int):=(ZO g t).map (rowI g t (ZO g t))
abbrev TbS (T:List (List Int)):GV:= .sl 1 (T.map IS)
abbrev ItO (l:List Int):GV:= .osl 1 (l.map I)
theorem view_ItO (l:List Int):view (ItO l)=IS l:=by
 simp[view,Ze]
def okT (T:List (List Int)):Prop:=T.length≤16777216∧∀r∈T,r.length≤2097152∧∀k∈r, -1≤k∧k<T.length
theorem tabI_ok {g:Gram} (hg:ZE g) (t:List Nod):okT (Zv g t):=by
 refine ⟨by simpa[Zv] using insL_len hg t,fun r hr=> ?_⟩
 simp only[Zv,List.mem_map] at hr
 obtain ⟨x,hx,rfl⟩:=hr
 refine ⟨by simpa[rowI] using stI_len hg t x,fun k hk=> ?_⟩
 simp only[rowI,List.mem_map] at hk
 obtain ⟨y,hy,rfl⟩:=hk
 have:=ixI_rng (ZO g t) y
 simpa[Zv] using this
def fltR (n:Nat) (r:List Int):List Int:=r.filter fun k=>decide (0≤k∧k≤(n:Int)-1)
def fltT (T:List (List Int)):List (List Int):=T.map (fltR T.length)
def rdyT (T:List (List Int)) (out:List Int) (i:Nat):Bool:= !hasI out i&&(T.getD i []).all fun k=>decide (k<0)||hasI out k
def ordT (T:List (List Int)):Nat→List Int→Option (List Int)
 | 0,out=>some out
 | f+1,out=>if 0≤Zg T.length (rdyT T out) then ordT T f (out++[Zg T.length (rdyT T out)]) else none
def YM (T:List (List Int)):List Int:=(ordT T T.length []).getD []
def ordB (T:List (List Int)):Bool:=(ordT T T.length []).isSome
def dC (T:List (List Int)) (goal:Nat) (d:Nat) (out:List Int) (k:Int):Bool:=
 if d=1 then decide (k=goal) else decide (k≠goal)&&decide (0≤k)&&decide (out.getD k.toNat 0=(d:Int)-1)
def dS (T:List (List Int)) (goal:Nat) (d:Nat) (out:List Int) (i:Nat):Int:=
 if out.getD i 0≠0 then out.getD i 0 else if (T.getD i []).any (dC T goal d out) then d else 0
def dL (T:List (List Int)) (goal:Nat):Nat→List Int
 | 0=>List.replicate T.length 0
 | d+1=>(List.range T.length).map (dS T goal (d+1) (dL T goal d))
def dst (T:List (List Int)) (goal:Nat):List Int:=dL T goal T.length
theorem dL_len (T:List (List Int)) (goal:Nat):∀d,(dL T goal d).length = T.length
 | 0=>by simp[dL]
 | d+1=>by simp[dL]
theorem dL_get {T:List (List Int)} {goal d i:Nat} (h:i<T.length):(dL T goal (d+1)).getD i 0=dS T goal (d+1) (dL T goal d) i:=by
 simp only[dL]
 rw[Z6 (by simpa using h)]
 simp
theorem dL_rng (T:List (List Int)) (goal:Nat):∀d i,i<T.length→0≤(dL T goal d).getD i 0∧(dL T goal d).getD i 0≤d
 | 0,i,h=>by simp[dL,List.getD_eq_getElem?_getD,h]
 | d+1,i,h=>by
  rw[dL_get h]
  have:=dL_rng T goal d i h
  simp only[dS]
  split
  ·omega
  ·split<;>omega
end Go.Gh
namespace Go.Gh
theorem GCalls.nd {P:Program} {f:FuncId} {gs:List GV} {H:GH} {R:GV→GH→Prop} (h:(names H).Nodup → GCalls P f gs H R):GCalls P f gs H R:=
 fun w D Ω args hst hargs=>h hst.nn w D Ω args hst hargs
theorem GCalls.sub {P:Program} {f:FuncId} {gs:List GV} {H L T:GH} {R:GV→GH→Prop} (hs:subH H L) (h:GCalls P f gs (L++T) R):GCalls P f gs (H++T) R:=by
 intro w D Ω args hst hargs
 obtain ⟨Ω',h1,h2⟩:=hst.sub hs
 refine Yld.mono (fun v w' ⟨g,H',D',Ω'',k1,k2,k3,k4⟩=> ?_) (h w D Ω' args h1 hargs)
 exact ⟨g,H',D',Ω'',k1,k2,k3,⟨k4.d0,fun b hb hD=>(k4.dn b hb hD).imp id (h2 b),fun b hb hl=>h2 b (k4.on b hb hl),k4.kp.mono fun b _ hb hb'=>hb (h2 b hb'),k4.os,k4.tape,k4.output⟩⟩
theorem drop_get {α:Type} {X L:List α} {a i:Nat} (h:X.drop a=L.drop a) (ha:a≤i) (hx:i<X.length) (hl:i<L.length):X[i]=L[i]:=by
 have e:=congrArg (fun l:List α=>l[i-a]?) h
 simp only[List.getElem?_drop] at e
 rw[show a+(i-a)=i by omega,List.getElem?_eq_getElem hx,List.getElem?_eq_getElem hl] at e
 exact Option.some.inj e
theorem cpO_next {l:List Oc} {j:Nat} (h1:1≤j) (h:j<l.length):cpO (l.take (j+1))=if l[j]=l[j-1] then cpO (l.take j) else cpO (l.take j)++[l[j]]:=by
 obtain ⟨i,rfl⟩:∃i,j=i+1:=⟨j-1,oT⟩
 exact cpO_take h
theorem cpO_short {l:List Oc} (h:l.length≤1):cpO l=l:=by
 match l,h with
 | [],_ => rfl
 | [a],_ => rfl
def occ1 (e:Exp):List Oc:=if e.kind=3 then [(e.pos,e.name)] else []
theorem occE_eq (e:Exp):YN e=occ1 e++Y8 e.args:=by cases e;rfl
theorem occEL_app (al bl:List Exp):Y8 (al++bl)=Y8 al++Y8 bl:=by
 induction al with
 | nil=>simp[Y8]
 | cons a al ih=>simp only[List.cons_append,Y8,ih,List.append_assoc]
theorem occEL_step {al:List Exp} {i:Nat} (h:i<al.length):Y8 (al.take (i+1))=Y8 (al.take i)++YN al[i]:=by
 have hs:∀(al:List Exp) (e:Exp),Y8 (al++[e])=Y8 al++YN e:=by
  intro al e
  induction al with
  | nil=>simp[Y8]
  | cons a al ih=>simp only[List.cons_append,Y8,ih,List.append_assoc]
 rw[List.take_add_one,List.getElem?_eq_getElem h]
 exact hs _ _
def cpI (L:List Oc) (m j:Nat) (X:List Oc):Prop:=1≤j∧m+1+j≤L.length∧X.length=L.length∧(cpO (L.take (m+1+j))).length ≤ m+j ∧
 X.take (cpO (L.take (m+1+j))).length = cpO (L.take (m+1+j))∧X.drop (m+j)=L.drop (m+j)
theorem cpI_eq {L X:List Oc} {m j i:Nat} (h:cpI L m j X) (hl:m+1+j<L.length) (hi:i=m+j) (h1:m+1+j<X.length) (h2:i<X.length) (he:X[m+1+j]=X[i]) :
 cpI L m (j+1) X∧cpO (L.take (m+1+(j+1)))=cpO (L.take (m+1+j)):=by
 subst hi
 obtain ⟨a1,a2,a3,a4,a5,a6⟩:=h
 have q1:X[m+j]=L[m+j]'oT := drop_get a6 (Nat.le_refl _) h2 oT
 have q2:X[m+1+j]=L[m+1+j]:=drop_get a6 oT h1 hl
 have e:=cpO_next (l:=L) (j:=m+1+j) oT hl
 rw[if_pos (by rw[←q2,he,q1];congr 1;omega)] at e
 have e':cpO (L.take (m+1+(j+1)))=cpO (L.take (m+1+j)):=e
 refine ⟨⟨oT,oT,a3,by rw[e'];omega,by rw[e'];exact a5,?_⟩,e'⟩
 have:=congrArg (List.drop 1) a6
 simpa[List.drop_drop,Nat.add_assoc] using this
theorem cpI_ne {L X:List Oc} {m j i:Nat} (h:cpI L m j X) (hl:m+1+j<L.length) (hi:i=m+j) (h1:m+1+j<X.length) (h2:i<X.length) (he:X[m+1+j]≠X[i]) :
 cpI L m (j+1) (X.set (cpO (L.take (m+1+j))).length X[m+1+j])∧(cpO (L.take (m+1+(j+1)))).length = (cpO (L.take (m+1+j))).length + 1:=by
 subst hi
 obtain ⟨a1,a2,a3,a4,a5,a6⟩:=h
 have q1:X[m+j]=L[m+j]'oT := drop_get a6 (Nat.le_refl _) h2 oT
 have q2:X[m+1+j]=L[m+1+j]:=drop_get a6 oT h1 hl
 have e:=cpO_next (l:=L) (j:=m+1+j) oT hl
 have hne:¬L[m+1+j]=L[m+1+j-1]'oT := fun q=>he (by
  rw[q2,q1,q];congr 1;omega)
 rw[if_neg hne] at e
 have e':cpO (L.take (m+1+(j+1)))=cpO (L.take (m+1+j))++[L[m+1+j]]:=e
 have el:(cpO (L.take (m+1+(j+1)))).length = (cpO (L.take (m+1+j))).length + 1:=by rw[e'];simp
 refine ⟨⟨oT,oT,by simpa using a3,by rw[el];omega,?_,?_⟩,el⟩
 ·rw[el,e',List.take_add_one,List.getElem?_set_self oT,List.take_set_of_le (Nat.le_refl _),a5,q2]
  rfl
 ·rw[List.drop_set_of_lt oT]
  have:=congrArg (List.drop 1) a6
  simpa[List.drop_drop,Nat.add_assoc] using this
end Go.Gh
namespace Go.Gh
theorem bor_TS {H:GH} {r n:Nat} {l:List ByteArray} (hr:ZV H r=some (1,l.map T)) (hn:l.length=n):Bor H (.own r 1 0 n) (TS l):=Bor.allM (fun _ => rfl) hr hn
theorem bor_OcS {H:GH} {r n:Nat} {l:List Oc} (hr:ZV H r=some (2,l.map Occ)) (hn:l.length=n):Bor H (.own r 2 0 n) (OcS l):=Bor.allM (fun _ => rfl) hr hn
theorem bor_ExS {H:GH} {r n:Nat} {l:List Exp} (hr:ZV H r=some (7,l.map Ex)) (hn:l.length=n):Bor H (.own r 7 0 n) (ExS l):=Bor.allM view_Ex hr hn
theorem symV_a {s:Sym} {i:Nat} (h:i<s.atts.length) (hb:attV s.atts[i]=false):symV s=false:=by
 simp only[symV,all_no h hb,Bool.false_and]
theorem symV_d {s:Sym} {i:Nat} (h:i<s.atts.length) (hb:dupA s.atts i=true):symV s=false:=by
 simp only[symV,rngAll_no (p:=fun i=> !dupA s.atts i) h (by simp[hb]),Bool.false_and,Bool.and_false]
theorem symV_ok {s:Sym} (h1:∀a∈s.atts,attV a=true) (h2:∀j,j<s.atts.length→dupA s.atts j=false):symV s=(Zj s.name&&decide (s.atts.length≤4)):=by
 have e:=rngAll_yes (n:=s.atts.length) (p:=fun i=> !dupA s.atts i) (fun j hj=>by simp[h2 j hj])
 simp only[symV,all_yes h1,e,Bool.true_and]
def dstS (l:List ByteArray):Bool:=(List.range l.length).all fun i=> !hasS (l.take i) (l.getD i noS)
theorem dstS_no {l:List ByteArray} {i:Nat} (h:i<l.length) (hb:hasS (l.take i) l[i]=true):dstS l=false:=
 rngAll_no (p:=fun i=> !hasS (l.take i) (l.getD i noS)) h (by rw[Z6 h,hb];rfl)
theorem dstS_yes {l:List ByteArray} (h:∀j (hj:j<l.length),hasS (l.take j) l[j]=false):dstS l=true:=
 rngAll_yes (p:=fun i=> !hasS (l.take i) (l.getD i noS)) (fun j hj=>by rw[Z6 hj,h j hj];rfl)
theorem hasS_map {α:Type} (f:α→ByteArray) (l:List α) (s:ByteArray):hasS (l.map f) s=l.any fun o=>decide (f o=s):=by
 simp only[hasS,List.any_map];rfl
theorem dupA_eq {l:List Att} {i:Nat} (h:i<l.length):dupA l i=(l.take i).any fun o=>decide (o.name=l[i].name):=by
 simp only[dupA,Z6 h]
theorem dstS_atts (l:List Att):dstS (l.map (·.name))=(List.range l.length).all fun i=> !dupA l i:=by
 simp only[dstS,List.length_map]
 apply Bool.eq_iff_iff.2
 simp only[List.all_eq_true,List.mem_range]
 constructor
 ·intro h j hj
  have:=h j hj
  rw[←List.map_take,hasS_map,Z6 (by simpa using hj),List.getElem_map] at this
  rw[dupA_eq hj];exact this
 ·intro h j hj
  have:=h j hj
  rw[←List.map_take,hasS_map,Z6 (by simpa using hj),List.getElem_map]
  rw[dupA_eq hj] at this;exact this
theorem symV_spec {s:Sym} (h1:∀a∈s.atts,attV a=true):symV s=(Zj s.name&&(decide (s.atts.length≤4)&&dstS (s.atts.map (·.name)))):=by
 rw[dstS_atts]
 simp only[symV,all_yes h1,Bool.true_and]
 cases Zj s.name<;>cases (List.range s.atts.length).all fun i=> !dupA s.atts i<;>simp
theorem rulV_r {r:Rul} {i:Nat} (h:i<r.right.length) (hb:Zj r.right[i]=false):rulV r=false:=by
 simp only[rulV,all_no h hb,Bool.false_and,Bool.and_false]
theorem rulV_e {r:Rul} {i:Nat} (h:i<r.eqs.length) (hb:eqnV r.right.length r.eqs[i]=false):rulV r=false:=by
 simp only[rulV,all_no h hb,Bool.false_and,Bool.and_false]
theorem rulV_c {r:Rul} {i:Nat} (h:i<r.cons.length) (hb:conV r.right.length r.cons[i]=false):rulV r=false:=by
 simp only[rulV,all_no h hb,Bool.false_and,Bool.and_false]
theorem rulV_h {r:Rul} (h:¬(Zj r.name=true∧Zj r.left=true∧r.right.length≤3∧r.cons.length≤2)):rulV r=false:=by
 cases e:rulV r with
 | false=>rfl
 | true=>
  simp only[rulV,Bool.and_eq_true,decide_eq_true_eq] at e
  exact absurd ⟨e.1,e.2.1,e.2.2.1,e.2.2.2.1⟩ h
theorem rulV_ok {r:Rul} (h:Zj r.name=true∧Zj r.left=true∧r.right.length≤3∧r.cons.length≤2) (h1:∀s∈r.right,Zj s=true) (h2:∀q∈r.eqs,eqnV r.right.length q=true) (h3:∀c∈r.cons,conV r.right.length c=true):rulV r=true:=by
 simp only[rulV,Bool.and_eq_true,decide_eq_true_eq,List.all_eq_true]
 exact ⟨h.1,h.2.1,h.2.2.1,h.2.2.2,h1,h2,h3⟩
theorem rulV_pos {r:Rul} (h:rulV r=true):∀q∈r.eqs,0≤q.pos∧q.pos≤r.right.length:=by
 intro q hq
 simp only[rulV,Bool.and_eq_true,decide_eq_true_eq,List.all_eq_true] at h
 have:=h.2.2.2.2.2.1 q hq
 simp only[eqnV,Bool.and_eq_true,decide_eq_true_eq] at this
 exact this.2.2
theorem symB_eq {g:Gram} {i:Nat} (h:i<g.syms.length):symB g i=(!symV g.syms[i]||(g.syms.take i).any fun o=>decide (o.name=g.syms[i].name)):=by
 simp only[symB,Z6 h]
theorem rulB_eq {g:Gram} {i:Nat} (h:i<g.rules.length):rulB g i=(!rulV g.rules[i]||(g.rules.take i).any fun o=>decide (o.name=g.rules[i].name)):=by
 simp only[rulB,Z6 h]
theorem sfI_s {g:Gram} {i:Nat} (h:i<g.syms.length) (hb:symB g i=true) (hn:∀j,j<i→symB g j=false):sfI g=i:=by
 have e:=firstI_hit h hb hn
 simp only[sfI,e]
 rw[if_pos oT]
theorem sfI_r {g:Gram} {i:Nat} (hs:∀j,j<g.syms.length→symB g j=false) (h:i<g.rules.length) (hb:rulB g i=true) (hn:∀j,j<i→rulB g j=false):sfI g=i:=by
 have e:=firstI_hit h hb hn
 simp only[sfI,XX hs,e]
 rw[if_neg oT]
theorem sfI_n {g:Gram} (hs:∀j,j<g.syms.length→symB g j=false) (hn:∀j,j<g.rules.length→rulB g j=false):sfI g = -1:=by
 simp only[sfI,XX hs,XX hn]
 rw[if_neg oT]
theorem sfI_no {g:Gram} (h:¬0≤sfI g):(∀j,j<g.syms.length→symB g j=false)∧∀j,j<g.rules.length→rulB g j=false:=by
 unfold sfI at h
 split at h
 ·omega
 ·rename_i h1
  have e1:Zg g.syms.length (symB g) = -1:=by rcases Yl g.syms.length (symB g) with h2|h2<;>omega
  have e2:Zg g.rules.length (rulB g) = -1:=by rcases Yl g.rules.length (rulB g) with h2|h2<;>omega
  exact ⟨fun j hj=>XU e1 hj,fun j hj=>XU e2 hj⟩
theorem hasO_hit {l:List Oc} {o:Oc} {i:Nat} (h:i<l.length) (e:l[i]=o):hasO l o=true:=
 XW (p:=fun y=>decide (y=o)) h (by simp[e])
theorem hasO_none {l:List Oc} {o:Oc} (h:∀y∈l,decide (y=o)=false):hasO l o=false:=any_no h
theorem reqP_take {g:Gram} {r:Rul} {pos:Nat} {m:Int} (hm:m=if pos=0 then 2 else 1) (l:List Att) {i:Nat} (h:i<l.length) :
 (((l.take (i+1)).filter fun a=>decide (a.mode=m)).map fun a=>((pos:Int),a.name))=(((l.take i).filter fun a=>decide (a.mode=m)).map fun a=>((pos:Int),a.name))++(if l[i].mode = m then [((pos:Int),l[i].name)] else []):=by
 rw[List.take_add_one,List.getElem?_eq_getElem h,List.filter_append,List.map_append]
 by_cases e:l[i].mode = m<;>simp[e]
theorem unkR_no {g:Gram} {r:Rul} {i:Nat} (h:i<r.right.length+1) (hb:hSym g.syms (Zw r i)=false):unkR g r=true:=by
 simp only[unkR,rngAll_no (p:=fun pos:Nat=>hSym g.syms (Zw r pos)) h hb,Bool.not_false]
theorem unkR_ok {g:Gram} {r:Rul} (h:∀j,j<r.right.length+1→hSym g.syms (Zw r (j:Nat))=true):unkR g r=false:=by
 simp only[unkR,rngAll_yes (p:=fun pos:Nat=>hSym g.syms (Zw r pos)) h,Bool.not_true]
theorem eqnF_any (r:Rul) (o:Oc):(YC r o).isSome = r.eqs.any fun q=>decide (q.pos=o.1∧q.name=o.2):=by
 unfold YC
 induction r.eqs with
 | nil=>rfl
 | cons q l ih=>
  simp only[List.find?_cons,List.any_cons]
  cases decide (q.pos=o.1∧q.name=o.2) with
  | true=>rfl
  | false=>rw[Bool.false_or,←ih]
theorem extR_no {g:Gram} {r:Rul} {i:Nat} (h:i<r.eqs.length) (hb:hasO (reqO g r) (atQ r.eqs[i])=false∨hasO ((r.eqs.take i).map atQ) (atQ r.eqs[i])=true):extR g r=true:=by
 have:=rngAll_no (n:=r.eqs.length) (i:=i) (p:=fun i=>hasO (reqO g r) ((r.eqs.map atQ).getD i (0,noS)) && !hasO ((r.eqs.map atQ).take i) ((r.eqs.map atQ).getD i (0,noS))) h (by
  rw[Z6 (by simpa using h),List.getElem_map,←List.map_take]
  rcases hb with hb|hb
  ·rw[hb];rfl
  ·rw[hb,Bool.not_true,Bool.and_false])
 simp only[extR,this,Bool.not_false]
theorem extR_ok {g:Gram} {r:Rul} (h:∀j (hj:j<r.eqs.length),hasO (reqO g r) (atQ r.eqs[j])=true∧hasO ((r.eqs.take j).map atQ) (atQ r.eqs[j])=false):extR g r=false:=by
 have:=rngAll_yes (n:=r.eqs.length) (p:=fun i=>hasO (reqO g r) ((r.eqs.map atQ).getD i (0,noS)) && !hasO ((r.eqs.map atQ).take i) ((r.eqs.map atQ).getD i (0,noS))) (fun i hi=>by
  rw[Z6 (by simpa using hi),List.getElem_map,←List.map_take,(h i hi).1,(h i hi).2];rfl)
 simp only[extR,this,Bool.not_true]
theorem hasO_map (l:List Eqn) (o:Oc):hasO (l.map atQ) o=l.any fun q=>decide (q.pos=o.1∧q.name=o.2):=by
 simp only[hasO,List.any_map]
 congr 1
 funext q
 simp only[Function.comp,atQ,Prod.ext_iff]
theorem reqA_len {g:Gram} (hg:ZE g) (r:Rul):∀n,(Zb g r n).length ≤ n * 1048576
 | 0=>by simp[Zb]
 | n+1=>by
  have h1:=reqA_len hg r n
  have h2:(reqP g r n).length ≤ 1048576:=by
   have h3:=List.length_filter_le (fun a:Att=>decide (a.mode=if n=0 then 2 else 1)) (Zy g.syms (Zw r n)).atts
   have h4:=YR hg (Zw r n)
   unfold Yy at h4
   simp only[reqP,List.length_map]
   omega
  simp only[Zb,List.length_append]
  omega
theorem rulV_len {r:Rul} (h:rulV r=true):r.right.length≤3:=by
 simp only[rulV,Bool.and_eq_true,decide_eq_true_eq] at h
 exact h.2.2.1
theorem rul_ok {g:Gram} (h:¬0≤sfI g) {j:Nat} (hj:j<g.rules.length):rulV g.rules[j]=true:=by
 have:=(sfI_no h).2 j hj
 rw[rulB_eq hj,Bool.or_eq_false_iff] at this
 simpa using this.1
def cfl (l:List Con):List Exp:=l.flatMap fun c=>[c.goal,c.value]
theorem cfl_len (l:List Con):(cfl l).length = 2 * l.length:=by
 induction l with
 | nil=>rfl
 | cons a l ih=>simp only[cfl,List.flatMap_cons,List.length_append] at ih ⊢;rw[ih];simp;omega
theorem cfl_step {l:List Con} {i:Nat} (h:i<l.length):cfl (l.take (i+1))=cfl (l.take i)++[l[i].goal,l[i].value]:=by
 rw[List.take_add_one,List.getElem?_eq_getElem h,Option.toList_some]
 unfold cfl
 rw[List.flatMap_append]
 simp
theorem expR_eq (r:Rul):expR r=r.eqs.map (·.expr)++cfl r.cons:=rfl
theorem expR_sm {r:Rul} (h:Y7 r):∀e∈expR r,wEx e≤1048576:=by
 intro e he
 rw[expR_eq,List.mem_append] at he
 rcases he with he|he
 ·obtain ⟨q,hq,rfl⟩:=List.mem_map.1 he
  exact h.2.2.2.1 q hq
 ·simp only[cfl,List.mem_flatMap] at he
  obtain ⟨c,hc,he⟩:=he
  have:=h.2.2.2.2 c hc
  simp only[List.mem_cons,List.not_mem_nil,or_false] at he
  rcases he with rfl|rfl
  ·exact this.1
  ·exact this.2
theorem misU_eq (g:Gram) (r:Rul):misU g r=((r.eqs.any fun q=>Yw g r q.expr)||r.cons.any fun c=>Yw g r c.goal||Yw g r c.value):=by
 unfold misU
 rw[expR_eq,List.any_append,List.any_map]
 congr 1
 induction r.cons with
 | nil=>rfl
 | cons a l ih=>
  have:cfl (a::l)=[a.goal,a.value]++cfl l:=rfl
  rw[this,List.any_append,ih]
  simp[Bool.or_assoc]
theorem misU_e {g:Gram} {r:Rul} {i:Nat} (h:i<r.eqs.length) (hb:Yw g r r.eqs[i].expr = true):misU g r=true:=by
 rw[misU_eq,XW (p:=fun q:Eqn=>Yw g r q.expr) h hb,Bool.true_or]
theorem misU_c {g:Gram} {r:Rul} {i:Nat} (h:i<r.cons.length) (hb:Yw g r r.cons[i].goal = true∨Yw g r r.cons[i].value = true):misU g r=true:=by
 rw[misU_eq,XW (p:=fun c:Con=>Yw g r c.goal||Yw g r c.value) h (by rcases hb with hb|hb<;>simp[hb]),Bool.or_true]
theorem misU_n {g:Gram} {r:Rul} (h1:∀q∈r.eqs,Yw g r q.expr=false) (h2:∀c∈r.cons,(Yw g r c.goal||Yw g r c.value)=false):misU g r=false:=by
 rw[misU_eq,any_no (p:=fun q:Eqn=>Yw g r q.expr) h1,any_no (p:=fun c:Con=>Yw g r c.goal||Yw g r c.value) h2];rfl
theorem misT_e {g:Gram} {r:Rul} {i:Nat} (h:i<r.eqs.length) (hb:¬tyE g r r.eqs[i].expr = (Zk g r r.eqs[i].pos r.eqs[i].name).type):misT g r=true:=by
 unfold misT
 rw[XW (p:=fun q:Eqn=> !decide (tyE g r q.expr=(Zk g r q.pos q.name).type)) h (by simp[hb]),Bool.true_or]
def conT (g:Gram) (r:Rul) (c:Con):Bool:= !decide (tyE g r c.goal=4)||(!decide (tyE g r c.value=2) || !decide ((YE (Zy g.syms c.sym).atts c.name).mode = 3))
theorem misT_c {g:Gram} {r:Rul} {i:Nat} (h:i<r.cons.length) (hb:conT g r r.cons[i]=true):misT g r=true:=by
 unfold misT
 have:=XW (p:=conT g r) h hb
 show (_ || r.cons.any (conT g r))=true
 rw[this,Bool.or_true]
theorem misT_n {g:Gram} {r:Rul} (h1:∀q∈r.eqs,decide (tyE g r q.expr=(Zk g r q.pos q.name).type)=true) (h2:∀c∈r.cons,conT g r c=false):misT g r=false:=by
 unfold misT
 rw[any_no (p:=fun q:Eqn=> !decide (tyE g r q.expr=(Zk g r q.pos q.name).type)) (fun q hq=>by simp only[h1 q hq];rfl)]
 have:=any_no (p:=conT g r) h2
 show (_ || r.cons.any (conT g r))=false
 rw[this];rfl
theorem brF_hit {g:Gram} {i c:Nat} (h:i<g.rules.length) (hb:brk g g.rules[i] c=true) (hn:∀j (hj:j<g.rules.length),j<i→brk g g.rules[j] c=false):brF g c=i:=
 firstI_hit h (by rw[Z6 h];exact hb) (fun j hj=>by rw[Z6 oT];exact hn j oT hj)
theorem brF_none {g:Gram} {c:Nat} (hn:∀j (hj:j<g.rules.length),brk g g.rules[j] c=false):brF g c = -1:=
 XX (fun j hj=>by rw[Z6 oT];exact hn j oT)
def shpG (g:Gram):Prop:=((1≤g.syms.length∧g.syms.length≤4)∧(1≤g.rules.length∧g.rules.length≤8))∧¬0≤sfI g∧((g.syms.getD 0 symZ).atts.any fun a=>decide (a.mode=1))=false
theorem shpC_hit {g:Gram} (h:shpG g) {c i:Nat} (hc:3≤c) (hc6:c≤6) (hn:∀d,3≤d→d<c→brF g d = -1) (hb:brF g c=i):shpC g=((c:Int),(i:Int)):=by
 obtain ⟨h1,h2,h3⟩:=h
 simp only[shpC]
 rw[if_neg (by simp only[Decidable.not_not];exact h1),if_neg h2,if_neg (by rw[h3];simp)]
 rcases (by omega:c=3∨c=4∨c=5∨c=6) with e|e|e|e<;>subst e
 ·rw[hb,if_pos oT];rfl
 ·rw[hn 3 oT oT,hb,if_neg oT,if_pos oT];rfl
 ·rw[hn 3 oT oT,hn 4 oT oT,hb,if_neg oT,if_neg oT,if_pos oT];rfl
 ·rw[hn 3 oT oT,hn 4 oT oT,hn 5 oT oT,hb,if_neg oT,if_neg oT,if_neg oT,if_pos oT];rfl
theorem shpC_none {g:Gram} (h:shpG g) (hn:∀d,3≤d→d<7→brF g d = -1):shpC g=(0,0):=by
 obtain ⟨h1,h2,h3⟩:=h
 simp only[shpC]
 rw[if_neg (by simp only[Decidable.not_not];exact h1),if_neg h2,if_neg (by rw[h3];simp),hn 3 oT oT,hn 4 oT oT,hn 5 oT oT,hn 6 oT oT]
 rfl
theorem shpC_b1 {g:Gram} (h:¬((1≤g.syms.length∧g.syms.length≤4)∧(1≤g.rules.length∧g.rules.length≤8))):shpC g=(1,0):=by
 simp only[shpC];rw[if_pos h]
theorem shpC_b2 {g:Gram} (h1:(1≤g.syms.length∧g.syms.length≤4)∧(1≤g.rules.length∧g.rules.length≤8)) (h:0≤sfI g):shpC g=(1,sfI g):=by
 simp only[shpC];rw[if_neg (by simp only[Decidable.not_not];exact h1),if_pos h]
theorem shpC_b3 {g:Gram} (h1:(1≤g.syms.length∧g.syms.length≤4)∧(1≤g.rules.length∧g.rules.length≤8)) (h2:¬0≤sfI g) (h:((g.syms.getD 0 symZ).atts.any fun a=>decide (a.mode=1))=true):shpC g=(2,0):=by
 simp only[shpC];rw[if_neg (by simp only[Decidable.not_not];exact h1),if_neg h2,if_pos h]
theorem shpC_ok {g:Gram} (h:(shpC g).1 = 0):shpG g:=by
 unfold shpG
 by_cases h1:(1≤g.syms.length∧g.syms.length≤4)∧(1≤g.rules.length∧g.rules.length≤8)
 ·refine ⟨h1,?_⟩
  by_cases h2:0≤sfI g
  ·rw[shpC_b2 h1 h2] at h;simp at h
  ·refine ⟨h2,?_⟩
   cases h3:(g.syms.getD 0 symZ).atts.any fun a=>decide (a.mode=1) with
   | false=>rfl
   | true=>rw[shpC_b3 h1 h2 h3] at h;simp at h
 ·rw[shpC_b1 h1] at h;simp at h
theorem ix_syms {g:Gram} (hs:∀j,j<g.syms.length→symB g j=false) {i:Nat} (h:i<g.syms.length):Zt (fun s:Sym=>decide (s.name=g.syms[i].name)) g.syms=i:=by
 refine YP h (by simp) fun a ha=> ?_
 have:=hs i h
 rw[symB_eq h,Bool.or_eq_false_iff,List.any_eq_false] at this
 simpa using this.2 a ha
theorem minH_at {g:Gram} (hs:∀j,j<g.syms.length→symB g j=false) {i:Nat} (h:i<g.syms.length):minH g g.syms[i].name = (YA g).getD i 0:=by
 simp only[minH,hOf,ix_syms hs h]
 rw[if_neg oT]
 simp
theorem hgts_len (g:Gram):(YA g).length = g.syms.length:=hIt_len g _
theorem hgts_nn (g:Gram):∀x∈YA g,0≤x:=hIt_nn g _
theorem tyF_hit {g:Gram} {i:Nat} (h:i<g.rules.length) (hb:misT g g.rules[i]=true) (hn:∀j (hj:j<g.rules.length),j<i→misT g g.rules[j]=false):tyF g=i:=
 firstI_hit h (by rw[Z6 h];exact hb) (fun j hj=>by rw[Z6 oT];exact hn j oT hj)
theorem tyF_none {g:Gram} (hn:∀j (hj:j<g.rules.length),misT g g.rules[j]=false):tyF g = -1:=
 XX (fun j hj=>by rw[Z6 oT];exact hn j oT)
theorem emF_hit {g:Gram} {i:Nat} (h:i<g.syms.length) (hb:(YA g).getD i 0=0) (hn:∀j,j<i→¬(YA g).getD j 0=0):emF g=i:=
 firstI_hit h (by simpa using hb) (fun j hj=>by simpa using hn j hj)
theorem emF_none {g:Gram} (hn:∀j,j<g.syms.length→¬(YA g).getD j 0=0):emF g = -1:=
 XX (fun j hj=>by simpa using hn j hj)
theorem chkG_1 {g:Gram} (h:(shpC g).1 ≠ 0):chkG g=shpC g:=by simp only[chkG];rw[if_pos h]
theorem chkG_2 {g:Gram} (h:(shpC g).1 = 0) {i:Nat} (h2:tyF g=i):chkG g=(7,(i:Int)):=by
 simp only[chkG];rw[if_neg (by simpa using h),h2,if_pos oT]
theorem chkG_3 {g:Gram} (h:(shpC g).1 = 0) (h1:tyF g = -1) {i:Nat} (h2:emF g=i):chkG g=(8,(i:Int)):=by
 simp only[chkG];rw[if_neg (by simpa using h),h1,h2,if_neg oT,if_pos oT]
theorem chkG_4 {g:Gram} (h:(shpC g).1 = 0) (h1:tyF g = -1) (h2:emF g = -1):chkG g=(0,0):=by
 simp only[chkG];rw[if_neg (by simpa using h),h1,h2,if_neg oT,if_neg oT]
end Go.Gh
namespace Go.Gh
def ltr:Nat→ByteArray
 | 0=>ByteArray.mk #[97]
 | 1=>ByteArray.mk #[98]
 | 2=>ByteArray.mk #[99]
 | _ => ByteArray.mk #[100]
def drA (i:Nat) (a:Att):Prop:=a.name=ltr i∧(1≤a.type∧a.type≤4)∧(1≤a.mode∧a.mode≤3)∧a.circ=false
def drL (l:List Att):Prop:=∀i (h:i<l.length),drA i l[i]
def drS (s:Sym):Prop:=shT s.name∧1≤s.atts.length∧s.atts.length≤4∧drL s.atts
theorem ltr_sh:∀i,shT (ltr i)
 | 0=>by decide
 | 1=>by decide
 | 2=>by decide
 | _ + 3=>by show shT (ByteArray.mk #[100]);decide
theorem drL_nil:drL []:=fun i h=>by simp at h
theorem drL_app {l:List Att} {a:Att} (h:drL l) (ha:drA l.length a):drL (l++[a]):=fun i hi=>by
 simp only[List.length_append,List.length_cons,List.length_nil] at hi
 rcases Nat.lt_or_ge i l.length with h1|h1
 ·rw[List.getElem_append_left h1];exact h i h1
 ·obtain rfl:i=l.length:=by omega
  simpa using ha
theorem drS_sh {s:Sym} (h:drS s):shSy s:=⟨h.1,h.2.1,by have:=h.2.2.1;omega,fun a ha=>by
 obtain ⟨i,hi,rfl⟩:=List.mem_iff_getElem.1 ha
 rw[(h.2.2.2 i hi).1]
 exact ltr_sh i⟩
theorem ltr_get (i:Nat) (h:i<([T (ByteArray.mk #[97]),T (ByteArray.mk #[98]),T (ByteArray.mk #[99]),T (ByteArray.mk #[100])]:List GV).length) :
 ([T (ByteArray.mk #[97]),T (ByteArray.mk #[98]),T (ByteArray.mk #[99]),T (ByteArray.mk #[100])]:List GV)[i]'h = T (ltr i):=by
 have:i=0∨i=1∨i=2∨i=3:=by simp at h;omega
 rcases this with rfl|rfl|rfl|rfl<;>rfl
theorem nxAtt {ι:Type} {E:ι→Env} {G:ι→GH} {μ:ι→Nat} {i:ι} {e:Env} {q:Nat} {X:List GV} {nm:ByteArray} {t m:Int} {R:GH} (h:∀a:Att,a=⟨nm,t,m,false⟩→Nx E G μ i e ((q,4,X++[At a])::R)) :
 Nx E G μ i e ((q,4,X++[.agg [T nm,I t,I m,B false]])::R):=h _ rfl
abbrev GrX (g:Gram) (X:GV):GV:= .agg [SyS g.syms,X]
abbrev RuX (r:Rul) (Y Z:GV):GV:= .agg [T r.name,T r.left,TS r.right,B r.lit,Y,Z]
def ofT (kind:Int) (pos:Nat) (a:Att):Bool:=decide (a.type=kind∧a.mode=if pos=0 then 1 else 2)
def ofP (g:Gram) (r:Rul) (kind:Int) (pos:Nat):List Oc:=((Zy g.syms (Zw r pos)).atts.filter (ofT kind pos)).map fun a=>((pos:Int),a.name)
def ofA (g:Gram) (r:Rul) (kind:Int):Nat→List Oc
 | 0=>[]
 | n+1=>ofA g r kind n++ofP g r kind n
def ofO (g:Gram) (r:Rul) (kind:Int):List Oc:=ofA g r kind (r.right.length+1)
theorem ofP_take {p:Att→Bool} {pos:Nat} (l:List Att) {i:Nat} (h:i<l.length) :
 (((l.take (i+1)).filter p).map fun a=>((pos:Int),a.name))=(((l.take i).filter p).map fun a=>((pos:Int),a.name))++(if p l[i]=true then [((pos:Int),l[i].name)] else []):=by
 rw[List.take_add_one,List.getElem?_eq_getElem h,List.filter_append,List.map_append]
 by_cases e:p l[i]=true<;>simp[e]
theorem ofA_len {g:Gram} (hg:ZE g) (r:Rul) (kind:Int):∀n,(ofA g r kind n).length ≤ n * 1048576
 | 0=>by simp[ofA]
 | n+1=>by
  have h1:=ofA_len hg r kind n
  have h2:(ofP g r kind n).length ≤ 1048576:=by
   have h3:=List.length_filter_le (ofT kind n) (Zy g.syms (Zw r n)).atts
   have h4:=YR hg (Zw r n)
   unfold Yy at h4
   simp only[ofP,List.length_map]
   omega
  simp only[ofA,List.length_append]
  omega
theorem fSym_sh {l:List Sym} (h:∀s∈l,shSy s) (n:ByteArray):∀a∈(Zy l n).atts,shT a.name:=by
 rcases fSym_mem l n with h1|h1
 ·exact (h _ h1).2.2.2
 ·rw[h1];simp[symZ]
theorem ofA_sh {g:Gram} (h:∀s∈g.syms,shSy s) (r:Rul) (kind:Int):∀n,∀o∈ofA g r kind n,shT o.2
 | 0,o,ho=>by simp[ofA] at ho
 | n+1,o,ho=>by
  simp only[ofA,List.mem_append] at ho
  rcases ho with ho|ho
  ·exact ofA_sh h r kind n o ho
  ·simp only[ofP,List.mem_map,List.mem_filter] at ho
   obtain ⟨a,⟨ha,_⟩,rfl⟩:=ho
   exact fSym_sh h _ a ha
theorem reqA_sh {g:Gram} (h:∀s∈g.syms,shSy s) (r:Rul):∀n,∀o∈Zb g r n,shT o.2
 | 0,o,ho=>by simp[Zb] at ho
 | n+1,o,ho=>by
  simp only[Zb,List.mem_append] at ho
  rcases ho with ho|ho
  ·exact reqA_sh h r n o ho
  ·simp only[reqP,List.mem_map,List.mem_filter] at ho
   obtain ⟨a,⟨ha,_⟩,rfl⟩:=ho
   exact fSym_sh h _ a ha
theorem callA.ex {P:Program} {f:FuncId} {gs:List GV} {R:GV→GH→Prop} {K:Env→GH→Prop} {is:List GI} {env:Env} {H:GH} {d:Option Nat} (h:GCalls P f gs H (fun g H'=>∃H1,R g H1∧H'=H1++H))
 (hk:∀g H1,R g H1→(names (H1++H)).Nodup → Z3 P is K (gput env d g) (H1++H)):callA P f (some gs) d is K env H:=⟨R,h,hk⟩
end Go.Gh
namespace Go.Gh
abbrev RuB (r:Rul) (b:Bool) (Y Z:GV):GV:= .agg [T r.name,T r.left,TS r.right,B b,Y,Z]
theorem ofA_lit (g:Gram) (r:Rul) (b:Bool) (kind:Int):∀n,ofA g { r with lit:=b } kind n=ofA g r kind n
 | 0=>rfl
 | n+1=>by simp only[ofA,ofA_lit g r b kind n];rfl
theorem ofO_lit (g:Gram) (r:Rul) (b:Bool) (kind:Int):ofO g { r with lit:=b } kind=ofO g r kind:=ofA_lit g r b kind _
theorem smRu_lit {r:Rul} (h:Y7 r) (b:Bool):Y7 { r with lit:=b }:=h
theorem names_nd2 {w rc:Nat} {x y:Nat×List GV} {H:GH} (h:(names ([(w,x)]++(rc,y)::H)).Nodup):¬w=rc:=fun e=>by
 subst e
 simp[names] at h
theorem fin_if {d:Nat} {a b c:Exp} {q rc:Nat} {H:GH} (ha:shD d a) (hb:shD d b) (hc:shD d c) (hne:¬q=rc) :
 ∃G T L,(∃e,shD (d+1) e∧G=Ex e)∧Bor L (.agg [I 5,I 0,I 0,I 0,Gh.T noS,Gh.T noS,.own q 7 0 3]) G∧(q,7,[Ex a,Ex b,Ex c])::(rc,3,[GV.cur])::H=T++H∧subH T (L++[(rc,3,[GV.cur])]):=
 ⟨_,[_,_],[(q,7,[Ex a,Ex b,Ex c])],⟨.mk 5 0 0 0 noS noS [a,b,c],shD_node (by decide) (by decide) (by simp) (by simp[ha,hb,hc]),rfl⟩,bor_ExV (l:=[a,b,c]) ZZ rfl,rfl,by simp[subH,ZV,names,hne]⟩
end Go.Gh
namespace Go.Gh
theorem fSym_len5 {l:List Sym} (h:∀s∈l,shSy s) (n:ByteArray):(Zy l n).atts.length ≤ 5:=by
 rcases fSym_mem l n with h1|h1
 ·exact (h _ h1).2.2.1
 ·rw[h1];simp[symZ]
theorem reqA_len5 {g:Gram} (h:∀s∈g.syms,shSy s) (r:Rul):∀n,(Zb g r n).length ≤ n * 5
 | 0=>by simp[Zb]
 | n+1=>by
  have h1:=reqA_len5 h r n
  have h2:(reqP g r n).length ≤ 5:=by
   have h3:=List.length_filter_le (fun a:Att=>decide (a.mode=if n=0 then 2 else 1)) (Zy g.syms (Zw r n)).atts
   have h4:=fSym_len5 h (Zw r n)
   simp only[reqP,List.length_map]
   omega
  simp only[Zb,List.length_append]
  omega
abbrev QnN (p:Int) (m:ByteArray) (e:Exp):GV:= .agg [I p,T m,I e.kind,I e.n,I e.pos,I e.type,T e.sym,T e.name,.val (.slice none 0 0)]
theorem MV.qnn {p:Int} {m:ByteArray} {e:Exp} (h:e.args=[]):∀w D v F,MV w D (QnN p m e) v F→MV w D (Qn ⟨p,m,e⟩) v F:=fun w D v F hm=>by
 have:=MV.fld (j:=8) (g':= .sl 7 []) rfl MV.nil_sl v F hm
 show MV w D (.agg [I p,T m,I e.kind,I e.n,I e.pos,I e.type,T e.sym,T e.name,.sl 7 (e.args.map Ex)]) v F
 rw[h]
 exact this
theorem FE.qn {env:Env} {q:Nat} {L:List GV} {p:Int} {m:ByteArray} {e:Exp} {H:GH} (h:e.args=[]):FE env ((q,9,L++[QnN p m e])::H) env ((q,9,L++[Qn ⟨p,m,e⟩])::H):=by
 have:=FE.exch (env:=env) (H:=(q,9,L++[QnN p m e])::H) (r:=q) (sz:=9) (i:=L.length) (es:=L++[QnN p m e]) (e:=QnN p m e) (e':=Qn ⟨p,m,e⟩) (by simp[ZV]) (by simp) (MV.qnn h)
 simpa[ZC] using this
end Go.Gh
namespace Go.Gh
def rchP (g:Gram) (out:List Int) (s:ByteArray) (r:Rul) (k:Nat):Bool:=decide (r.left=s)&&(r.right.take k).all fun c=>decide (0<hOf g out c)
theorem rchP_step {g:Gram} {out:List Int} {s:ByteArray} {r:Rul} {k:Nat} (h:k<r.right.length):rchP g out s r (k+1)=(rchP g out s r k&&decide (0<hOf g out r.right[k])):=by
 unfold rchP
 rw[List.take_add_one,List.getElem?_eq_getElem h,Option.toList_some,List.all_append,Bool.and_assoc]
 simp
theorem rchP_end (g:Gram) (out:List Int) (s:ByteArray) (r:Rul):rchP g out s r r.right.length=rchR g out s r:=by
 unfold rchP rchR
 rw[List.take_length]
theorem hNext_eq {g:Gram} {k i:Nat} (h:i<g.syms.length):(hIt g (k+1)).getD i 0=hNext g ((k:Int)+1) (hIt g k) i:=by
 rw[Z6 (by rw[hIt_len];exact h)]
 simp[hIt]
def nxt (g:Gram) (k i:Nat) (Y:List Int):Prop:=Y.length=g.syms.length∧∀j,j<g.syms.length→Y.getD j 0=if j<i then (hIt g (k+1)).getD j 0 else (hIt g k).getD j 0
theorem nxt_0 (g:Gram) (k:Nat):nxt g k 0 (hIt g k):=⟨hIt_len g k,fun j hj=>by simp⟩
theorem nxt_n {g:Gram} {k:Nat} {Y:List Int} (h:nxt g k g.syms.length Y):Y=hIt g (k+1):=by
 refine List.ext_getElem (by rw[h.1,hIt_len]) fun j h1 h2=> ?_
 have h3:=h.1
 have:=h.2 j oT
 rw[if_pos oT,Z6 h1,Z6 h2] at this
 exact this
theorem nxt_keep {g:Gram} {k i:Nat} {Y:List Int} (h:nxt g k i Y) (hi:i<g.syms.length) (he:hNext g ((k:Int)+1) (hIt g k) i=(hIt g k).getD i 0):nxt g k (i+1) Y:=by
 refine ⟨h.1,fun j hj=> ?_⟩
 rw[h.2 j hj]
 by_cases e:j=i
 ·subst e
  rw[if_neg oT,if_pos oT,hNext_eq hi,he]
 ·by_cases e2:j<i
  ·rw[if_pos e2,if_pos oT]
  ·rw[if_neg e2,if_neg oT]
theorem nxt_set {g:Gram} {k i:Nat} {Y:List Int} {v:Int} (h:nxt g k i Y) (hi:i<g.syms.length) (he:hNext g ((k:Int)+1) (hIt g k) i=v):nxt g k (i+1) (Y.set i v):=by
 have h1:=h.1
 refine ⟨by rw[List.length_set];exact h.1,fun j hj=> ?_⟩
 rw[Z6 (by rw[List.length_set];omega),List.getElem_set]
 by_cases e:i=j
 ·subst e
  rw[if_pos rfl,if_pos oT,hNext_eq hi,he]
 ·rw[if_neg e,←Z6 (d:=0) oT,h.2 j hj]
  by_cases e2:j<i
  ·rw[if_pos e2,if_pos oT]
  ·rw[if_neg e2,if_neg oT]
theorem soT_E2 (a b:Exp):soT (some (7,[Ex a,Ex b])) 7 7 0 2=some [Ex a,Ex b]:=by
 simp[soT,Yq,clean_Ex]
theorem soT_I {l:List Int} {n:Nat} (h:l.length=n):soT (some (1,l.map I)) 1 1 0 n=some (l.map I):=by
 subst h
 have hc:Yq (l.map I)=true:=by
  induction l with
  | nil=>rfl
  | cons a l ih=>simp only[List.map_cons,Yq,ih];rfl
 simp only[soT,List.drop_zero,List.length_map,Nat.zero_add,Nat.le_refl,true_and]
 rw[List.take_of_length_le (by simp),hc];simp
end Go.Gh
namespace Go.Gh
def drG (g:Gram):Prop:=shGr g∧(∀s∈g.syms,drS s)∧g.rules.length≤8∧∀r∈g.rules,r.right.length≤3
theorem drG_sm {g:Gram} (h:drG g):ZE g:=shGr_sm h.1
theorem drG_ok {g:Gram} (h:drG g):okGr g:=shGr_ok h.1
theorem drG_len {g:Gram} (h:drG g):1≤g.syms.length∧g.syms.length≤3:=⟨h.1.1.1,h.1.1.2.1⟩
def hAt (g:Gram) (s:ByteArray):Int:=(YA g).getD (max 0 (Zt (fun y:Sym=>decide (y.name=s)) g.syms)).toNat 0
theorem hIt_rng (g:Gram):∀k i,0≤(hIt g k).getD i 0∧(hIt g k).getD i 0≤k
 | 0,i=>by
  simp only[hIt,List.getD_eq_getElem?_getD,List.getElem?_replicate]
  split<;>simp
 | k+1,i=>by
  rcases Nat.lt_or_ge i g.syms.length with h|h
  ·have:=hIt_rng g k i
   simp only[hIt]
   rw[Z6 (by simpa using h),List.getElem_map,List.getElem_range]
   unfold hNext
   split
   ·omega
   ·split<;>omega
  ·rw[List.getD_eq_getElem?_getD,List.getElem?_eq_none (by rw[hIt_len];exact h)]
   simp;omega
theorem hAt_rng (g:Gram) (s:ByteArray):0≤hAt g s∧hAt g s≤g.syms.length:=hIt_rng g _ _
def lowR (g:Gram) (s:ByteArray) (r:Rul):Prop:=∀c∈r.right,hAt g c<hAt g s
def lowB:Nat→Nat
 | 0=>1
 | h+1=>1+3 * lowB h
def grB (room:Int):Nat:=if room<5 then 40 else 41 * room.toNat
theorem lowB_mono {a b : Nat} (h : a ≤ b) : lowB a ≤ lowB b := by
  induction b with
  | zero => obtain rfl : a = 0 := by omega
            exact Nat.le_refl _
  | succ b ih =>
    rcases Nat.lt_or_ge a (b + 1) with h1 | h1
    · have := ih oT
      simp only [lowB]; omega
    · obtain rfl : a = b + 1 := by omega
      exact Nat.le_refl _
theorem lowB_le {h:Nat} (h3:h≤3):lowB h≤40:=lowB_mono h3
theorem grB_step {room:Int} {n:Nat} (hr:5≤room) (hn:n≤3):1+n * grB (room.tdiv (max 1 n)-1)≤grB room:=by
 have h0:n=0∨n=1∨n=2∨n=3:=by omega
 have hb:∀x:Int,(x<5∧grB x=40)∨(5≤x∧grB x=41 * x.toNat):=fun x=>by
  unfold grB;split<;>omega
 rcases hb room with h1|⟨_,h1⟩
 ·omega
 ·rw[h1]
  rcases h0 with rfl|rfl|rfl|rfl
  ·omega
  ·rcases hb (room.tdiv (max 1 (1:Nat))-1) with ⟨h2,h3⟩|⟨h2,h3⟩<;>rw[h3]<;>simp at * <;> omega
  ·have h4:room.tdiv (max 1 ((2:Nat):Int))=room / 2:=by rw[Int.tdiv_eq_ediv_of_nonneg oT];rfl
   rcases hb (room.tdiv (max 1 ((2:Nat):Int))-1) with ⟨h2,h3⟩|⟨h2,h3⟩<;>rw[h3]<;>rw[h4] at * <;> omega
  ·have h4:room.tdiv (max 1 ((3:Nat):Int))=room / 3:=by rw[Int.tdiv_eq_ediv_of_nonneg oT];rfl
   rcases hb (room.tdiv (max 1 ((3:Nat):Int))-1) with ⟨h2,h3⟩|⟨h2,h3⟩<;>rw[h3]<;>rw[h4] at * <;> omega
def drN (x:Nod):Prop:=x.kids.length≤3∧shT x.rule
theorem sum_bnd {c:Nat}:∀l:List (List Nod),(∀t∈l,t.length≤c)→(l.map (·.length)).sum ≤ l.length * c
 | [],_ => by simp
 | t::l,h=>by
  have h1:=sum_bnd l fun t ht=>h t (by simp[ht])
  have h2:=h t (by simp)
  simp only[List.map_cons,List.sum_cons,List.length_cons,Nat.succ_mul]
  omega
theorem sum_take {l:List (List Nod)} {k:Nat} (h:k<l.length):((l.take (k+1)).map (·.length)).sum = ((l.take k).map (·.length)).sum + l[k].length := by
 rw[List.take_add_one,List.getElem?_eq_getElem h,List.map_append,List.sum_append]
 rfl
end Go.Gh
namespace Go.Gh
abbrev CoN (s m:ByteArray) (e f:Exp):GV:= .agg [T s,T m,I e.kind,I e.n,I e.pos,I e.type,T e.sym,T e.name,.val (.slice none 0 0),I f.kind,I f.n,I f.pos,I f.type,T f.sym,T f.name,.val (.slice none 0 0)]
theorem MV.con {s m:ByteArray} {e f:Exp} (he:e.args=[]) (hf:f.args=[]):∀w D v F,MV w D (CoN s m e f) v F→MV w D (Co ⟨s,m,e,f⟩) v F:=fun w D v F hm=>by
 have h1:=MV.fld (j:=15) (g':= .sl 7 []) rfl MV.nil_sl v F hm
 have h2:=MV.fld (j:=8) (g':= .sl 7 []) rfl MV.nil_sl v F h1
 show MV w D (.agg [T s,T m,I e.kind,I e.n,I e.pos,I e.type,T e.sym,T e.name,.sl 7 (e.args.map Ex),I f.kind,I f.n,I f.pos,I f.type,T f.sym,T f.name,.sl 7 (f.args.map Ex)]) v F
 rw[he,hf]
 exact h2
theorem FE.con {env:Env} {q:Nat} {L:List GV} {s m:ByteArray} {e f:Exp} {H:GH} (he:e.args=[]) (hf:f.args=[]):FE env ((q,16,L++[CoN s m e f])::H) env ((q,16,L++[Co ⟨s,m,e,f⟩])::H):=by
 have:=FE.exch (env:=env) (H:=(q,16,L++[CoN s m e f])::H) (r:=q) (sz:=16) (i:=L.length) (es:=L++[CoN s m e f]) (e:=CoN s m e f) (e':=Co ⟨s,m,e,f⟩) (by simp[ZV]) (by simp) (MV.con he hf)
 simpa[ZC] using this
def shCo (c:Con):Prop:=shT c.sym∧shT c.name∧shEx c.goal∧shEx c.value
end Go.Gh
namespace Go.Gh
abbrev Zp:GV:= .val (.slice none 0 0)
abbrev Ru0 (r:Rul):GV:=RuX r Zp Zp
theorem view_Co (c:Con):view (Co c)=Co c:=by
 have:∀l:List Exp,(l.map Ex).map view=l.map Ex:=fun l=>by rw[List.map_map];exact List.map_congr_left fun a _ => view_Ex a
 simp[view,Y4,Ze,this]
theorem view_Qn (c:Eqn):view (Qn c)=Qn c:=by
 have:∀l:List Exp,(l.map Ex).map view=l.map Ex:=fun l=>by rw[List.map_map];exact List.map_congr_left fun a _ => view_Ex a
 simp[view,Y4,Ze,this]
theorem YX {α:Type} {f:α→GV} (h:∀a,view (f a)=f a) (l:List α):(l.map f).map view=l.map f:=by
 rw[List.map_map];exact List.map_congr_left fun a _ => h a
theorem view_Sy (s:Sym):view (Sy s)=Sy s:=by
 have:=YX (f:=At) (fun a=>rfl) s.atts
 simp[view,Y4,Ze,this]
theorem view_Ru0 (r:Rul):view (Ru0 r)=Ru0 r:=by
 have:=YX (f:=T) (fun a=>rfl) r.right
 simp[view,Y4,Ze,this]
theorem view_Ru (r:Rul):view (Ru r)=Ru r:=by
 have h1:=YX (f:=T) (fun a=>rfl) r.right
 have h2:=YX view_Qn r.eqs
 have h3:=YX view_Co r.cons
 simp only[view,Y4,Ze,h1,h2,h3]
theorem FE.symF {env:Env} {q rg n:Nat} {l:List Sym} {H:GH} (hne:¬rg=q) (hl:l.length=n):FE env ((q,2,l.map Sy)::(rg,2,[.agg [.own q 2 0 n,Zp]])::H) env ((rg,2,[.agg [SyS l,Zp]])::H):=by
 have h1:=FE.close (env:=env) (H:=(q,2,l.map Sy)::(rg,2,[.agg [.own q 2 0 n,Zp]])::H) (r:=rg) (r1:=q) (i:=0) (j:=0) hne (by simp[ZV,Ne.symm hne];exact ⟨rfl,rfl⟩) rfl rfl ZZ (by simpa using hl)
 have e:Y9 (ZC ((q,2,l.map Sy)::(rg,2,[.agg [.own q 2 0 n,Zp]])::H) rg ([GV.agg [.own q 2 0 n,Zp]].set 0 (.agg ([GV.own q 2 0 n,Zp].set 0 (.osl 2 (l.map Sy)))))) q=(rg,2,[.agg [.osl 2 (l.map Sy),Zp]])::H:=by
  simp[ZC,Y9,Ne.symm hne]
 rw[e] at h1
 refine FE.trans h1 (FE.frzV ?_)
 have:=YX view_Sy l
 simp only[Y4,view,Ze,this]
theorem FE.leaf {env:Env} {q:Nat} {L:List Rul} {a b:ByteArray} {c:Bool} {H:GH}:FE env ((q,6,L.map Ru0++[.agg [T a,T b,Zp,B c,Zp,Zp]])::H) env ((q,6,(L++[(⟨a,b,[],c,[],[]⟩:Rul)]).map Ru0)::H):=by
 have:=FE.exch (env:=env) (H:=(q,6,L.map Ru0++[.agg [T a,T b,Zp,B c,Zp,Zp]])::H) (r:=q) (sz:=6) (i:=L.length) (es:=L.map Ru0++[.agg [T a,T b,Zp,B c,Zp,Zp]]) (e:= .agg [T a,T b,Zp,B c,Zp,Zp]) (e':=Ru0 (⟨a,b,[],c,[],[]⟩:Rul)) (by simp[ZV]) (by simp)
  fun w D v F hm=>MV.fld (j:=2) (g':= .sl 1 []) rfl MV.nil_sl v F hm
 have e:(L.map Ru0++[GV.agg [T a,T b,Zp,B c,Zp,Zp]]).set L.length (Ru0 (⟨a,b,[],c,[],[]⟩:Rul))=(L++[(⟨a,b,[],c,[],[]⟩:Rul)]).map Ru0:=by
  rw[List.set_append_right _ _ (by simp)];simp
 rw[e] at this
 simpa[ZC] using this
theorem FE.ruF {env:Env} {q q3 n:Nat} {L:List Rul} {a b:ByteArray} {rs:List ByteArray} {c:Bool} {H:GH} (hne:¬q=q3) (hn:rs.length=n) :
 FE env ((q,6,L.map Ru0++[.agg [T a,T b,.own q3 1 0 n,B c,Zp,Zp]])::(q3,1,rs.map T)::H) env ((q,6,(L++[(⟨a,b,rs,c,[],[]⟩:Rul)]).map Ru0)::H):=by
 refine FE.trans (FE.closeL2 (L:=L.map Ru0) (j:=2) hne rfl (by simpa using hn)) (FE.frzV ?_)
 have h1:=YX view_Ru0 L
 have h2:=YX (f:=T) (fun a=>rfl) rs
 rw[Ze,List.map_append,h1,List.map_append]
 simp only[List.map_cons,List.map_nil,List.set,view,Ze,h2]
theorem viewL_set {es:List GV} {i:Nat} {x y:GV} (h:es.map view=es) (hx:view x=y):Y4 (es.set i x)=es.set i y:=by
 rw[Ze,List.map_set,h,hx]
theorem FE.ruQ {env:Env} {q q1 n:Nat} {es:List GV} {i:Nat} {r:Rul} {qs:List Eqn} {H:GH} (hne:q1≠q) (hi:i<es.length) (hes:es.map view=es) (hn:qs.length=n) :
 FE env ((q1,9,qs.map Qn)::(q,6,es.set i (RuX r (.own q1 9 0 n) Zp))::H) env ((q,6,es.set i (Ru { r with eqs:=qs,cons:=[] }))::H):=by
 refine FE.trans (FE.close2 (L:=es) (i:=i) (j:=4) hne hi rfl (by simpa using hn)) (FE.trans (FE.frzV (viewL_set hes (y:=RuX r (QnS qs) Zp) ?_)) ?_)
 ·have h1:=YX (f:=T) (fun a=>rfl) r.right
  have h2:=YX view_Qn qs
  simp only[List.set,view,Ze,List.map_cons,List.map_nil,h1,h2]
 ·have:=FE.exch (env:=env) (H:=(q,6,es.set i (RuX r (QnS qs) Zp))::H) (r:=q) (sz:=6) (i:=i) (es:=es.set i (RuX r (QnS qs) Zp)) (e:=RuX r (QnS qs) Zp) (e':=Ru { r with eqs:=qs,cons:=[] }) (by simp[ZV]) (by simp[hi])
   fun w D v F hm=>MV.fld (j:=5) (g':= .sl 16 []) rfl MV.nil_sl v F hm
  rw[List.set_set] at this
  simpa[ZC] using this
theorem FE.ruP {env:Env} {q q1 q2 n m:Nat} {es:List GV} {i:Nat} {r:Rul} {qs:List Eqn} {cs:List Con} {H:GH} (hne:q1≠q) (hne2:q2≠q) (hne3:q2≠q1) (hi:i<es.length) (hes:es.map view=es) (hn:qs.length=n) (hm:cs.length=m) :
 FE env ((q2,16,cs.map Co)::(q1,9,qs.map Qn)::(q,6,es.set i (RuX r (.own q1 9 0 n) (.own q2 16 0 m)))::H) env ((q,6,es.set i (Ru { r with eqs:=qs,cons:=cs }))::H):=by
 refine FE.trans (FE.perm (H:=[_,_,_]) (L:=[(q1,9,qs.map Qn),(q,6,es.set i (RuX r (.own q1 9 0 n) (.own q2 16 0 m))),(q2,16,cs.map Co)]) (by simp[subH,ZV,names,hne,hne2,hne3,Ne.symm hne,Ne.symm hne2,Ne.symm hne3])) ?_
 refine FE.trans (FE.close2 (L:=es) (i:=i) (j:=4) hne hi rfl (by simpa using hn)) ?_
 refine FE.trans (FE.perm (H:=[_,_]) (L:=[(q2,16,cs.map Co),(q,6,es.set i (.agg [T r.name,T r.left,TS r.right,B r.lit,.osl 9 (qs.map Qn),.own q2 16 0 m]))]) (by simp[subH,ZV,names,hne,hne2,hne3,Ne.symm hne,Ne.symm hne2,Ne.symm hne3])) ?_
 refine FE.trans (FE.close2 (L:=es) (i:=i) (j:=5) hne2 hi rfl (by simpa using hm)) (FE.frzV (viewL_set hes ?_))
 have h1:=YX (f:=T) (fun a=>rfl) r.right
 have h2:=YX view_Qn qs
 have h3:=YX view_Co cs
 simp only[List.set,view,Ze,List.map_cons,List.map_nil,h1,h2,h3]
def shR0 (r:Rul):Prop:=shT r.name∧shT r.left∧r.right.length≤3∧∀s∈r.right,shT s
theorem shR0_sm {r:Rul} (h:shR0 r):Y7 { r with eqs:=[],cons:=[] }:=⟨by have:=h.2.2.1;show r.right.length ≤ _;omega,by simp,by simp,by simp,by simp⟩
theorem mkS_size (l:List UInt8):∃s:ByteArray,GV.val (mkS l)=T s∧s.size=l.length:=⟨⟨l.toArray⟩,rfl,by show l.toArray.size = _;simp⟩
theorem rul_mid {D L:List Rul} {j:Nat} (hD:D.length=j) (hj:j<L.length):∃es:List GV,D.map Ru++(L.drop j).map Ru0=es∧es.length=L.length∧(∀h:j<es.length,es[j]=Ru0 L[j])∧es.map view=es ∧
 ∀r:Rul,es.set j (Ru r)=(D++[r]).map Ru++(L.drop (j+1)).map Ru0:=by
 refine ⟨_,rfl,?_,?_,?_,?_⟩
 ·simp;omega
 ·intro h
  rw[List.getElem_append_right (by simp;omega)]
  simp[hD]
 ·rw[List.map_append,YX view_Ru,YX view_Ru0]
 ·intro r
  rw[List.set_append_right _ _ (by simp;omega),List.drop_eq_getElem_cons hj]
  simp only[List.map_cons,List.length_map,hD,Nat.sub_self,List.set_cons_zero,List.map_append,List.map_nil,List.append_assoc,List.singleton_append]
theorem bor_rul {q n:Nat} {l:List Sym} {D:List Rul} {X:List GV} (h:D.length=n):Bor [(q,6,D.map Ru++X)] (.agg [SyS l,.own q 6 0 n]) (Gr ⟨l,D⟩):=by
 have h1:=Bor.own (H:=[(q,6,D.map Ru++X)]) (r:=q) (sz:=6) (k:=0) (n:=n) (es:=D.map Ru++X) ZZ (by simp;omega)
 have e:Y4 (((D.map Ru++X).drop 0).take n)=D.map Ru:=by
  rw[List.drop_zero,List.take_append_of_le_length (by simp;omega),List.take_of_length_le (by simp;omega),Ze,YX view_Ru]
 rw[e] at h1
 exact .agg (.cons .refl (.cons h1 .nil))
theorem drG_of {l:List Sym} {D:List Rul} (h1:1≤l.length) (h3:l.length≤3) (hd:∀s∈l,drS s) (k1:1≤D.length) (k2:D.length≤8) (hr:∀r∈D,shRu r∧r.right.length≤3):drG ⟨l,D⟩:=
 ⟨⟨⟨h1,h3,fun s hs=>drS_sh (hd s hs)⟩,k1,by show D.length≤16;omega,fun r h=>(hr r h).1⟩,hd,k2,fun r h=>(hr r h).2⟩
theorem shRu_of {r:Rul} {qs:List Eqn} {cs:List Con} (h:shR0 r) (h1:qs.length≤64) (h2:∀q∈qs,shT q.name∧shEx q.expr) (h3:cs.length≤2) (h4:∀c∈cs,shCo c):shRu { r with eqs:=qs,cons:=cs }∧({ r with eqs:=qs,cons:=cs }:Rul).right.length ≤ 3:=
 ⟨⟨h.1,h.2.1,by have:=h.2.2.1;show r.right.length≤5;omega,h.2.2.2,h1,h2,by show cs.length≤64;omega,h4⟩,h.2.2.1⟩
def rulO (g:Gram) (s:ByteArray):List ByteArray:=(g.rules.filter fun r=>decide (r.left=s)).map (·.name)
def rulP (g:Gram) (s:ByteArray) (k:Nat):List ByteArray:=((g.rules.take k).filter fun r=>decide (r.left=s)).map (·.name)
theorem rulP_s {g:Gram} {s:ByteArray} {k:Nat} (h:k<g.rules.length):rulP g s (k+1)=rulP g s k++(if g.rules[k].left = s then [g.rules[k].name] else []):=by
 unfold rulP
 rw[List.take_add_one,List.getElem?_eq_getElem h,List.filter_append,List.map_append]
 by_cases e:g.rules[k].left = s<;>simp[e]
theorem rulP_end (g:Gram) (s:ByteArray):rulP g s g.rules.length=rulO g s:=by simp[rulP,rulO]
theorem rulP_len (g:Gram) (s:ByteArray) (k:Nat):(rulP g s k).length ≤ g.rules.length:=by
 unfold rulP
 rw[List.length_map]
 exact Nat.le_trans (List.length_filter_le _ _) (by rw[List.length_take];omega)
theorem rulO_mem {g:Gram} {s n:ByteArray} (h:n∈rulO g s):Zx g.rules n∈g.rules:=by
 unfold rulO at h
 obtain ⟨r,hr,rfl⟩:=List.mem_map.1 h
 have hr':=(List.mem_filter.1 hr).1
 unfold Zx
 cases e:g.rules.find? fun s=>decide (s.name=r.name) with
 | none=>have:=List.find?_eq_none.1 e r hr';simp at this
 | some a=>exact List.mem_of_find?_eq_some e
theorem FE.rulz {env:Env} {q:Nat} {H:GH}:FE env ((q,6,[.agg [T noS,T noS,Zp,B false,Zp,Zp]])::H) env ((q,6,[Ru rulZ])::H):=by
 have h:=FE.exch (env:=env) (H:=(q,6,[.agg [T noS,T noS,Zp,B false,Zp,Zp]])::H) (r:=q) (sz:=6) (i:=0) (es:=[.agg [T noS,T noS,Zp,B false,Zp,Zp]]) (e:= .agg [T noS,T noS,Zp,B false,Zp,Zp]) (e':=Ru rulZ) (by simp[ZV]) rfl
  fun w D v F hm=>MV.fld (j:=5) (g':= .sl 16 []) rfl MV.nil_sl v F (MV.fld (j:=4) (g':= .sl 9 []) rfl MV.nil_sl v F (MV.fld (j:=2) (g':= .sl 1 []) rfl MV.nil_sl v F hm))
 simpa[ZC] using h
def atS (g:Gram) (s:ByteArray):Nat:=(max 0 (Zt (fun y:Sym=>decide (y.name=s)) g.syms)).toNat
theorem atS_lt {g:Gram} (h:1≤g.syms.length) (s:ByteArray):atS g s<(YA g).length := by
 rw[hgts_len]
 unfold atS
 rcases X1 (fun y:Sym=>decide (y.name=s)) g.syms with h1|h1<;>omega
theorem hAt_eq {g:Gram} (h:1≤g.syms.length) (s:ByteArray):(YA g)[atS g s]'(atS_lt h s)=hAt g s:=by
 unfold hAt
 rw[←Z6 (atS_lt h s)]
 rfl
def okR (g:Gram) (s:ByteArray) (room:Int) (r:Rul):Prop:=(r=rulZ∨r∈g.rules)∧(room<5→r=rulZ∨lowR g s r)
def goodT (b:Nat) (t:List Nod):Prop:=(∀x∈t,drN x)∧1≤t.length∧t.length≤b
theorem view_Tr (t:List Nod):view (Tr t)=Tr t:=by
 have:∀x:Nod,view (Nd x)=Nd x:=fun x=>by
  have:=YX (f:=I) (fun a=>rfl) x.kids
  simp[view,Y4,Ze,this]
 have:=YX this t
 simp[view,Y4,Ze,this]
theorem tdiv_rng {a b:Int} (h : -100000≤a∧a≤100000) (hb:1≤b) : -100000≤a.tdiv b∧a.tdiv b≤100000:=by
 have h1:(a.tdiv b).natAbs ≤ a.natAbs:=by
  rw[Int.natAbs_tdiv];exact Nat.div_le_self _ _
 omega
theorem wrS {a:Int} (h : -200000≤a∧a≤200000):IntKind.i64.wrap a=a:=wrap64 oT oT
theorem tdiv_lo {a m:Int} (hm:1≤m):(0≤a→0≤a.tdiv m∧a.tdiv m≤a)∧(a≤0→a≤a.tdiv m∧a.tdiv m≤0):=by
 have key:∀a:Int,0≤a→0≤a.tdiv m∧a.tdiv m≤a:=fun a ha=>by
  rw[Int.tdiv_eq_ediv_of_nonneg ha]
  exact ⟨Int.ediv_nonneg ha oT,Int.ediv_le_self m ha⟩
 refine ⟨key a,fun ha=> ?_⟩
 have h:=key (-a) oT
 rw[Int.neg_tdiv] at h
 omega
theorem goodT.mono {a b:Nat} {t:List Nod} (h:goodT a t) (hab:a≤b):goodT b t:=⟨h.1,h.2.1,Nat.le_trans h.2.2 hab⟩
theorem grB_le {room:Int} (h:room≤1000):grB room≤41000:=by unfold grB;split<;>omega
theorem bor_TrO {q:Nat} {t:List Nod}:Bor [(q,6,t.map NdO)] (.agg [.own q 6 0 t.length]) (Tr t):=
 .agg (.cons (Bor.seen (f:=NdO) (g:=Nd) (fun x=>by have:=view_NdO [x];simpa using this) ZZ rfl) .nil)
end Go.Gh
namespace Go.Gh
section
variable {P:Program} {cf:Cfg}
theorem gstartG {f:FuncId} {F:GFun} (hF:IsFun P f F) {cf:Cfg} {gc:GC} {gr:List GR} (hf:F=⟨cf,gc,gr⟩) {gs:List GV} {H:GH} {R:GV→GH→Prop} (hlen:gs.length≤cf.N)
 (h:GW P cf gc (GEndS gr R) (envOf gs 0) H):GCalls P f gs H R:=GCalls.start hF hf hlen (GW.mono (fun _ _ _ h=>h.ok) h)
theorem gwpS (mxd:P.follows .mixedOrders = true) {x y:GC} {Q:Exit→Env→GH→Prop} {env:Env} {H:GH} (h:gwp P cf x (thenG (GW P cf y Q) Q) env H):GW P cf (.seq x y) Q env H:=GW.seq (Zl mxd h)
theorem gwpB (mxd:P.follows .mixedOrders = true) {x:GC} {id:Nat} {Q:Exit→Env→GH→Prop} {env:Env} {H:GH} (h:gwp P cf x (blockG id Q) env H):GW P cf (.block id x) Q env H:=GW.block (Zl mxd h)
end
def bentT (t:List Nod):Prop:=(∀x∈t,x.kids.length≤4∧shT x.rule)∧1≤t.length∧t.length≤41
theorem bentT_of {t:List Nod} (h:goodT 40 t):bentT t:=⟨fun x hx=>⟨by have:=(h.1 x hx).1;omega,(h.1 x hx).2⟩,h.2.1,by have:=h.2.2;omega⟩
theorem bentT_set {t:List Nod} {x:Nod} {k:Nat} (h:goodT 40 t) (h1:x.kids.length≤4) (h2:shT x.rule):bentT (t.set k x):=
 ⟨fun y hy=>(List.mem_or_eq_of_mem_set hy).elim (fun h3=>⟨by have:=(h.1 y h3).1;omega,(h.1 y h3).2⟩) fun h3=>by subst h3;exact ⟨h1,h2⟩,by rw[List.length_set];exact h.2.1,by rw[List.length_set];have:=h.2.2;omega⟩
theorem view_Nd (x:Nod):view (Nd x)=Nd x:=by
 have:=YX (f:=I) (fun a=>rfl) x.kids
 simp[view,Y4,Ze,this]
theorem bor_TrN {q n:Nat} {t:List Nod} (h:t.length=n):Bor [(q,6,t.map Nd)] (.agg [.own q 6 0 n]) (Tr t):=
 .agg (.cons (Bor.allM view_Nd ZZ h) .nil)
theorem bor_TrO' {q n:Nat} {t:List Nod} (h:t.length=n):Bor [(q,6,t.map NdO)] (.agg [.own q 6 0 n]) (Tr t):=by subst h;exact bor_TrO
theorem mem4 {a b c d:Int} {g:GV} (h:g∈[I a,I b,I c,I d]):∃n,g=I n:=by
 simp only[List.mem_cons,List.not_mem_nil,or_false] at h
 rcases h with rfl|rfl|rfl|rfl<;>exact ⟨_,rfl⟩
theorem borS {q k:Nat} {t:List Nod} {x:Nod}:Bor [(q,6,(t.map NdO).set k (NdO x))] (.agg [.own q 6 0 t.length]) (Tr (t.set k x)):=by
 have:=bor_TrO' (q:=q) (t:=t.set k x) (n:=t.length) (by simp)
 rwa [List.map_set] at this
theorem bentT_app {t:List Nod} {k:Nat} (h:goodT 40 t) (hk:k<t.length):bentT (t++[t[k]]):=
 ⟨fun y hy=>(List.mem_append.1 hy).elim (fun h3=>⟨by have:=(h.1 y h3).1;omega,(h.1 y h3).2⟩) fun h3=>by
  rw[List.mem_singleton] at h3;subst h3;have:=h.1 _ (List.getElem_mem hk);exact ⟨by have:=this.1;omega,this.2⟩,by simp,by have:=h.2.2;simp;omega⟩
theorem view_NdOs (t:List Nod):Y4 (t.map NdO)=t.map Nd:=by rw[Ze];exact view_NdO t
end Go.Gh
namespace Go.Gh
def nrE (e:Exp):Bool:=allE (fun x=> !decide (x.kind=8)) e
theorem nrE_arg {e:Exp} {i:Nat} (h:i<e.args.length) (hb:nrE e.args[i]=false):nrE e=false:=allE_no h hb
theorem nrE_end {e:Exp} (h:∀a∈e.args,nrE a=true):nrE e = !decide (e.kind=8):=allE_yes h
def noA (g:Gram):Bool:=g.syms.all fun s=>s.atts.all fun a=> !(a.circ||decide (a.mode=3))
def remQ (r:Rul):Bool:=r.eqs.any fun q=> !nrE q.expr
def remR (r:Rul):Bool:=(expR r).any fun e=> !nrE e
def hasA (g:Gram) (p:Att→Bool):Bool:=g.syms.any fun s=>s.atts.any p
def staS (g:Gram):Bool:=noA g&&(!g.rules.any remQ&&accG g)
def staI (g:Gram):Bool:=accG g&&(!g.rules.any remR&&(!(hasA g fun a=>decide (a.mode=3)) && !hasA g fun a=>a.circ))
theorem accG_ty {g:Gram} (h:accG g=true):(shpC g).1 = 0∧¬0≤tyF g:=by
 simp only[accG,decide_eq_true_eq] at h
 by_cases h1:(shpC g).1 = 0
 ·refine ⟨h1,fun h2=> ?_⟩
  simp only[chkG] at h
  rw[if_neg (by simpa using h1),if_pos h2] at h
  simp at h
 ·rw[chkG_1 h1] at h
  exact absurd h h1
theorem accG_mis {g:Gram} (h:accG g=true):∀r∈g.rules,misT g r=false:=by
 intro r hr
 have h2:=(accG_ty h).2
 obtain ⟨i,hi,rfl⟩:=List.mem_iff_getElem.1 hr
 have e:tyF g = -1:=by rcases Yl g.rules.length (fun i=>misT g (g.rules.getD i rulZ)) with h3|h3<;>unfold tyF at h2 ⊢ <;> omega
 have:=XU e hi
 rwa [Z6 hi] at this
theorem misT_con {g:Gram} {r:Rul} (h:misT g r=false):∀c∈r.cons,(YE (Zy g.syms c.sym).atts c.name).mode = 3:=by
 intro c hc
 unfold misT at h
 rw[Bool.or_eq_false_iff,List.any_eq_false] at h
 have:=h.2
 rw[List.any_eq_false] at this
 have:=this c hc
 simp only[Bool.or_eq_true,not_or,Bool.not_eq_true,Bool.not_eq_false',decide_eq_true_eq] at this
 exact this.2.2
theorem mode3 {g:Gram} {s n:ByteArray} (h:(YE (Zy g.syms s).atts n).mode = 3):∃y∈g.syms,∃a∈y.atts,a.mode=3:=by
 have h1:YE (Zy g.syms s).atts n∈(Zy g.syms s).atts := by
  unfold YE at h ⊢
  cases e:(Zy g.syms s).atts.find? fun y=>decide (y.name=n) with
  | none=>rw[e] at h;simp[attZ] at h
  | some a=>exact List.mem_of_find?_eq_some e
 rcases fSym_mem g.syms s with h2|h2
 ·exact ⟨_,h2,_,h1,h⟩
 ·rw[h2] at h1;simp[symZ] at h1
theorem noA_iff {g:Gram}:noA g=(!(hasA g fun a=>decide (a.mode=3)) && !hasA g fun a=>a.circ):=by
 apply Bool.eq_iff_iff.2
 simp only[noA,hasA,List.all_eq_true,Bool.and_eq_true,Bool.not_eq_true',List.any_eq_false,Bool.not_eq_true,Bool.or_eq_false_iff,decide_eq_false_iff_not]
 constructor
 ·intro h
  exact ⟨fun s hs a ha=>(h s hs a ha).2,fun s hs a ha=>(h s hs a ha).1⟩
 ·rintro ⟨h1,h2⟩ s hs a ha
  exact ⟨h2 s hs a ha,h1 s hs a ha⟩
theorem no_cons {g:Gram} (h:accG g=true) (hn:noA g=true):∀r∈g.rules,r.cons=[]:=by
 intro r hr
 cases e:r.cons with
 | nil=>rfl
 | cons c l=>
  have h1:=misT_con (accG_mis h r hr) c (by rw[e];simp)
  obtain ⟨y,hy,a,ha,h2⟩:=mode3 h1
  have h3:=List.all_eq_true.1 hn y hy
  have h4:=List.all_eq_true.1 h3 a ha
  simp[h2] at h4
theorem any_congr' {α:Type} {p q:α→Bool} {l:List α} (h:∀a∈l,p a=q a):l.any p=l.any q:=by
 induction l with
 | nil=>rfl
 | cons a l ih=>
  simp only[List.any_cons]
  rw[h a (by simp),ih fun b hb=>h b (by simp[hb])]
theorem staI_eq (g:Gram):staI g=staS g:=by
 unfold staI staS
 rw[←noA_iff]
 cases ha:accG g with
 | false=>simp
 | true=>
  cases hn:noA g with
  | false=>simp
  | true=>
   have hc:=no_cons ha hn
   have:g.rules.any remR=g.rules.any remQ:=any_congr' fun r hr=>by
    unfold remR remQ
    rw[expR_eq,hc r hr]
    simp only[cfl,List.flatMap_nil,List.append_nil,List.any_map]
    rfl
   rw[this]
theorem noA_no {g:Gram} {i j:Nat} (h:i<g.syms.length) (h2:j<g.syms[i].atts.length) (hb:(g.syms[i].atts[j].circ || decide (g.syms[i].atts[j].mode = 3))=true):noA g=false:=
 all_no (p:=fun s:Sym=>s.atts.all fun a=> !(a.circ||decide (a.mode=3))) h (all_no h2 (by rw[hb];rfl))
end Go.Gh
namespace Go.Gh
theorem bor_Tb {H:GH} {r n:Nat} {T:List (List Int)} (hr:ZV H r=some (1,T.map ItO)) (hn:T.length=n):Bor H (.own r 1 0 n) (TbS T):=Bor.seen view_ItO hr hn
end Go.Gh
namespace Go.Gh
def ordI (T:List (List Int)) (out:List Int):Prop:=out.length≤T.length∧ordT T (T.length-out.length) out=ordT T T.length []
theorem ordI_start (T:List (List Int)):ordI T []:=⟨by simp,by simp⟩
theorem ordI_end {T:List (List Int)} {out:List Int} (h:ordI T out) (hl:¬out.length<T.length):YM T=out∧ordB T=true:=by
 obtain ⟨h1,h2⟩:=h
 rw[show T.length-out.length=0 by omega] at h2
 have:ordT T T.length []=some out:=by rw[←h2];rfl
 simp[YM,ordB,this]
theorem ordI_stuck {T:List (List Int)} {out:List Int} (h:ordI T out) (hl:out.length<T.length) (hf:Zg T.length (rdyT T out)<0):YM T=[]∧ordB T=false:=by
 obtain ⟨h1,h2⟩:=h
 obtain ⟨m,hm⟩:∃m,T.length-out.length=m+1:=⟨T.length-out.length-1,oT⟩
 rw[hm,ordT,if_neg oT] at h2
 simp[YM,ordB,←h2]
theorem ordI_next {T:List (List Int)} {out:List Int} (h:ordI T out) (hl:out.length<T.length) (hf:0≤Zg T.length (rdyT T out)):ordI T (out++[Zg T.length (rdyT T out)]):=by
 obtain ⟨h1,h2⟩:=h
 obtain ⟨m,hm⟩:∃m,T.length-out.length=m+1:=⟨T.length-out.length-1,oT⟩
 rw[hm,ordT,if_pos hf] at h2
 refine ⟨by simp;omega,?_⟩
 rw[←h2]
 congr 1
 simp;omega
theorem ixOf_no {α:Type} {p:α→Bool} {l:List α} (h:Zt p l = -1):∀a∈l,p a=false:=by
 unfold Zt at h
 cases e:l.findIdx? p with
 | none=>exact fun a ha=>by simpa using List.findIdx?_eq_none_iff.1 e a ha
 | some i=>
  rw[e] at h
  have h':(i:Int) = -1:=h
  omega
theorem ixOf_at {α:Type} {p:α→Bool} {l:List α} {i:Nat} (h:Zt p l=i):∃hl:i<l.length,p l[i]=true∧∀a∈l.take i,p a=false:=by
 unfold Zt at h
 cases e:l.findIdx? p with
 | none=>
  rw[e] at h
  have h':(-1:Int)=i:=h
  omega
 | some j=>
  rw[e] at h
  have h':(j:Int)=i:=h
  have:j=i:=by omega
  subst this
  obtain ⟨h1,h2,h3⟩:=List.findIdx?_eq_some_iff_getElem.1 e
  refine ⟨h1,h2,fun a ha=> ?_⟩
  obtain ⟨k,hk,rfl⟩:=List.mem_take_iff_getElem.1 ha
  simpa using h3 k oT
def dlI (L:List Int) (p:Int→Bool) (j:Nat) (X:List Int):Prop:=j≤L.length∧X.length=L.length∧((L.take j).filter fun k=> !p k).length + 1≤j ∧
 X.take ((L.take j).filter fun k=> !p k).length = ((L.take j).filter fun k=> !p k)∧X.drop j=L.drop j
theorem filter_all {α:Type} {p:α→Bool} {l:List α} (h:∀a∈l,p a=false):l.filter (fun k=> !p k)=l:=by
 rw[List.filter_eq_self]
 intro a ha
 rw[h a ha];rfl
theorem flt_step {p:Int→Bool} {l:List Int} {i:Nat} (h:i<l.length):(l.take (i+1)).filter (fun k=> !p k)=(l.take i).filter (fun k=> !p k)++(if p l[i]=true then [] else [l[i]]):=by
 rw[List.take_add_one,List.getElem?_eq_getElem h,List.filter_append]
 by_cases e:p l[i]=true
 ·simp[e]
 ·simp[e]
theorem dlI_start {L:List Int} {p:Int→Bool} {i:Nat} (h:Zt p L=i):dlI L p (i+1) L∧((L.take (i+1)).filter fun k=> !p k).length = i:=by
 obtain ⟨h1,h2,h3⟩:=ixOf_at h
 have e:(L.take (i+1)).filter (fun k=> !p k)=L.take i:=by rw[flt_step h1,if_pos h2,List.append_nil,filter_all h3]
 have el:((L.take (i+1)).filter fun k=> !p k).length = i:=by rw[e,List.length_take];omega
 exact ⟨⟨oT,rfl,oT,by rw[el,e],rfl⟩,el⟩
theorem dlI_get {L X:List Int} {p:Int→Bool} {j:Nat} (h:dlI L p j X) (hl:j<L.length) (hx:j<X.length):X[j]=L[j]:=drop_get h.2.2.2.2 (Nat.le_refl _) hx hl
theorem drop_next {X L:List Int} {j:Nat} (h:X.drop j=L.drop j):X.drop (j+1)=L.drop (j+1):=by
 have:=congrArg (List.drop 1) h
 simpa[List.drop_drop,Nat.add_assoc,Nat.add_comm] using this
theorem dlI_drop {L X:List Int} {p:Int→Bool} {j:Nat} (h:dlI L p j X) (hl:j<L.length) (hp:p L[j]=true):dlI L p (j+1) X∧(L.take (j+1)).filter (fun k=> !p k)=(L.take j).filter (fun k=> !p k):=by
 obtain ⟨a1,a2,a3,a4,a5⟩:=h
 have e:(L.take (j+1)).filter (fun k=> !p k)=(L.take j).filter (fun k=> !p k):=by rw[flt_step hl,if_pos hp,List.append_nil]
 exact ⟨⟨oT,a2,by rw[e];omega,by rw[e];exact a4,drop_next a5⟩,e⟩
theorem dlI_keep {L X:List Int} {p:Int→Bool} {j:Nat} (h:dlI L p j X) (hl:j<L.length) (hp:p L[j]=false) :
 dlI L p (j+1) (X.set ((L.take j).filter fun k=> !p k).length L[j])∧((L.take (j+1)).filter fun k=> !p k).length = ((L.take j).filter fun k=> !p k).length + 1:=by
 obtain ⟨a1,a2,a3,a4,a5⟩:=h
 have e:(L.take (j+1)).filter (fun k=> !p k)=(L.take j).filter (fun k=> !p k)++[L[j]]:=by rw[flt_step hl,if_neg (by simp[hp])]
 have el:((L.take (j+1)).filter fun k=> !p k).length = ((L.take j).filter fun k=> !p k).length + 1:=by rw[e];simp
 refine ⟨⟨oT,by simpa using a2,oT,?_,?_⟩,el⟩
 ·rw[el,e,List.take_add_one,List.getElem?_set_self oT,List.take_set_of_le (Nat.le_refl _),a4]
  rfl
 ·rw[List.drop_set_of_lt oT]
  exact drop_next a5
theorem fltR_eq (n:Nat) (r:List Int):r.filter (fun k=> !(!decide (0≤k∧k≤(n:Int)-1)))=fltR n r:=by simp[fltR]
theorem rdyT_flt {T:List (List Int)} (hT:okT T) {out:List Int} {i:Nat} (h:i<T.length):rdyT T out i=(!hasI out i && !((fltR T.length T[i]).any fun k=> !hasI out k)):=by
 unfold rdyT
 rw[Z6 h]
 congr 1
 have hr:=(hT.2 _ (List.getElem_mem h)).2
 generalize T[i]=row at hr ⊢
 unfold fltR
 induction row with
 | nil=>rfl
 | cons k row ih=>
  have hk:=hr k (by simp)
  have h2:=ih fun x hx=>hr x (by simp[hx])
  simp only[List.all_cons,h2]
  by_cases e:k<0
  ·have:¬(0≤k∧k≤(T.length:Int)-1):=by omega
   simp[e,List.filter_cons,this]
  ·have:(0≤k∧k≤(T.length:Int)-1):=by omega
   simp[e,List.filter_cons,this]
theorem fltT_get {T:List (List Int)} {i:Nat} (h:i<(fltT T).length) (h2:i<T.length):(fltT T)[i]=fltR T.length T[i]:=by simp[fltT]
theorem ordT_len {T:List (List Int)}:∀(f:Nat) (out L:List Int),ordT T f out=some L→L.length=out.length+f
 | 0,out,L,h=>by simp only[ordT,Option.some.injEq] at h;rw[h];rfl
 | f+1,out,L,h=>by
  simp only[ordT] at h
  split at h
  ·have:=ordT_len f _ L h
   simp at this;omega
  ·cases h
theorem ordL_len (T:List (List Int)):(YM T).length ≤ T.length:=by
 unfold YM
 cases h:ordT T T.length [] with
 | none=>simp
 | some L=>have:=ordT_len _ _ _ h;simp at this ⊢;omega
end Go.Gh
namespace Go.Gh
theorem kidsW_in {w:Nat→Int→Int→ByteArray→Int} {n:Int} {i:Nat} (hw:∀a p q s,0≤w a p q s→(a:Int)<w a p q s∧w a p q s≤n):∀(cs:List Int) (ss:List ByteArray) (k a:Int),cs.length=ss.length→0≤a→0≤Zu w i cs ss k a →
 (∀c∈cs,0≤c∧c<n)
 | [],_,_,_,_,_,_ => fun c hc=>by cases hc
 | c::cs,[],_,_,h,_,_ => by simp at h
 | c::cs,s::ss,k,a,hl,ha,h=>by
  simp only[Zu] at h
  split at h
  ·omega
  rename_i h1
  split at h
  ·omega
  rename_i h2
  have h3:=hw a.toNat i (k+1) s oT
  have ih:=kidsW_in hw cs ss (k+1) (w a.toNat i (k+1) s) (by simpa using hl) oT h
  intro x hx
  rcases List.mem_cons.1 hx with rfl|hx
  ·simp only[ne_eq,Decidable.not_not] at h1
   omega
  ·exact ih x hx
theorem kidsW_all {w:Nat→Int→Int→ByteArray→Int} {n:Int} {i:Nat} {P:Nat→Prop} (hw:∀a p q s,0≤w a p q s→(a:Int)<w a p q s∧w a p q s≤n) (hP:∀(a:Nat) p q s,0≤w a p q s→∀j:Nat,a≤j→(j:Int)<w a p q s→P j) :
 ∀(cs:List Int) (ss:List ByteArray) (k a:Int),0≤a→0≤Zu w i cs ss k a→∀j:Nat,a≤j→(j:Int)<Zu w i cs ss k a→P j
 | [],_,k,a,ha,h,j,h1,h2=>by simp only[Zu] at h2;omega
 | c::cs,[],k,a,ha,h,j,h1,h2=>by simp only[Zu] at h2;omega
 | c::cs,s::ss,k,a,ha,h,j,h1,h2=>by
  simp only[Zu] at h h2
  split at h
  ·omega
  rename_i g1
  rw[if_neg g1] at h2
  split at h
  ·omega
  rename_i g2
  rw[if_neg g2] at h2
  have h3:=hw a.toNat i (k+1) s oT
  by_cases hj:(j:Int)<w a.toNat i (k+1) s
  ·exact hP a.toNat i (k+1) s oT j oT hj
  ·exact kidsW_all hw hP cs ss (k+1) (w a.toNat i (k+1) s) oT h j oT h2
def kidsIn (t:List Nod) (j:Nat):Prop:=∀c∈(t.getD j ZK).kids,0≤c∧c<t.length
theorem walkE_kids {g:Gram} {t:List Nod}:∀(f i:Nat) (p q:Int) (s:ByteArray),0≤ZJ g t f i p q s→∀j:Nat,i≤j→(j:Int)<ZJ g t f i p q s→kidsIn t j
 | 0,i,p,q,s,h,j,h1,h2=>by simp[ZJ] at h
 | f+1,i,p,q,s,h,j,h1,h2=>by
  simp only[ZJ] at h h2
  split at h
  ·rename_i hi
   rw[if_pos hi] at h2
   split at h
   ·rename_i hf
    rw[if_pos hf] at h2
    have hl:=(Yn.1 hf).2.2.2.2.1
    by_cases e:j=i
    ·subst e
     exact kidsW_in (w:=ZJ g t f) (fun a p q s h=>Yv f a p q s h) _ _ 0 ((j:Int)+1) hl oT h
    ·exact kidsW_all (w:=ZJ g t f) (n:=t.length) (P:=kidsIn t) (fun a p q s h=>Yv f a p q s h) (fun a p q s h j h1 h2=>walkE_kids f a p q s h j h1 h2) _ _ 0 ((i:Int)+1) oT h j oT h2
   ·omega
  ·omega
theorem Yj {g:Gram} {t:List Nod} {s:ByteArray} (h:Zs g t s=true):(1≤t.length∧t.length≤16)∧idsV t=true∧ZJ g t t.length 0 (-1) 0 s=t.length:=by
 simpa only[Zs,Bool.and_eq_true,decide_eq_true_eq] using h
theorem tree_kids {g:Gram} {t:List Nod} {s:ByteArray} (h:Zs g t s=true) {i:Nat} (hi:i<t.length):∀c∈t[i].kids,0≤c∧c<t.length:=by
 obtain ⟨_,_,h1⟩:=Yj h
 have:=walkE_kids (g:=g) (t:=t) t.length 0 (-1) 0 s oT i oT (by rw[h1];omega)
 unfold kidsIn at this
 rwa [Z6 hi] at this
theorem insA_mem {g:Gram} {t:List Nod} {x:Oc}:∀{n:Nat},x∈YQ g t n↔∃i,i<n∧x∈insK g t i
 | 0=>by simp[YQ]
 | n+1=>by
  simp only[YQ,List.mem_append,insA_mem (n:=n)]
  constructor
  ·rintro (⟨i,h,k⟩|h)
   ·exact ⟨i,oT,k⟩
   ·exact ⟨n,oT,h⟩
  ·rintro ⟨i,h,k⟩
   by_cases e:i=n
   ·subst e;exact .inr k
   ·exact .inl ⟨i,oT,k⟩
theorem ins_in {g:Gram} {t:List Nod} (h:Zs g t (Zr g t 0)=true) {i:Nat} (hi:i<t.length) {a:Att} (ha:a∈(Zy g.syms (Zr g t i)).atts):(t[i].id,a.name)∈ZO g t:=by
 unfold ZO
 rw[if_pos h,insA_mem]
 refine ⟨i,hi,?_⟩
 simp only[insK,List.mem_map]
 exact ⟨a,ha,by rw[Z6 hi]⟩
theorem ixI_in {L:List Oc} {x:Oc} (h:x∈L):0≤ixI L x∧ixI L x<L.length:=by
 rcases X1 (fun z=>decide (z=x)) L with h1|h1
 ·have:=ixOf_no h1 x h
  simp at this
 ·exact h1
theorem ixI_get {L:List Oc} {x:Oc} {i:Nat} (h:ixI L x=i):∃hi:i<L.length,L[i]=x:=by
 obtain ⟨h1,h2,_⟩:=ixOf_at h
 exact ⟨h1,by simpa using h2⟩
theorem ids_inj {t:List Nod} (h:idsV t=true) {i j:Nat} (hi:i<t.length) (hj:j<t.length) (e:t[i].id = t[j].id):i=j:=by
 have key:∀i j:Nat,∀hi:i<t.length,∀hj:j<t.length,i<j→t[i].id ≠ t[j].id := fun i j hi hj hij e=>by
  simp only[idsV,List.all_eq_true,List.mem_range] at h
  have:=h j hj
  simp only[gid,Bool.and_eq_true,Bool.not_eq_true',List.any_eq_false] at this
  have:=this.2 t[i] (by
   rw[List.mem_take_iff_getElem]
   exact ⟨i,oT,rfl⟩)
  rw[Z6 hj] at this
  simp[e] at this
 rcases Nat.lt_trichotomy i j with h1|h1|h1
 ·exact absurd e (key i j hi hj h1)
 ·exact h1
 ·exact absurd e.symm (key j i hj hi h1)
theorem atts_nodup {s:Sym} (h:symV s=true):(s.atts.map (·.name)).Nodup := by
 simp only[symV,Bool.and_eq_true] at h
 have h2:=h.1.2
 simp only[List.all_eq_true,List.mem_range] at h2
 rw[List.nodup_iff_pairwise_ne,List.pairwise_iff_getElem]
 intro i j hi hj hij e
 simp only[List.length_map] at hi hj
 have:=h2 j hj
 rw[dupA_eq hj] at this
 simp only[Bool.not_eq_true',List.any_eq_false] at this
 have:=this s.atts[i] (by
  rw[List.mem_take_iff_getElem]
  exact ⟨i,oT,rfl⟩)
 simp only[List.getElem_map] at e
 simp[e] at this
theorem sym_ok {g:Gram} (h:¬0≤sfI g) (n:ByteArray):((Zy g.syms n).atts.map (·.name)).Nodup := by
 rcases fSym_mem g.syms n with h1|h1
 ·obtain ⟨i,hi,e⟩:=List.mem_iff_getElem.1 h1
  have:=(sfI_no h).1 i hi
  rw[symB_eq hi,Bool.or_eq_false_iff] at this
  rw[←e]
  exact atts_nodup (by simpa using this.1)
 ·rw[h1];simp[symZ]
theorem insL_nodup {g:Gram} {t:List Nod} (hg:accG g=true) (h:Zs g t (Zr g t 0)=true):(ZO g t).Nodup := by
 have hsf:=(shpC_ok (accG_ty hg).1).2.1
 have hid:=(Yj h).2.1
 unfold ZO
 rw[if_pos h]
 have:∀n,n≤t.length→(YQ g t n).Nodup := by
  intro n
  induction n with
  | zero=>intro _;simp[YQ]
  | succ n ih=>
   intro hn
   simp only[YQ]
   rw[List.nodup_append]
   refine ⟨ih oT,?_,?_⟩
   ·have h1:=sym_ok hsf (Zr g t n)
    unfold insK
    rw[List.nodup_iff_pairwise_ne,List.pairwise_map] at h1 ⊢
    exact h1.imp fun hab e=>hab (congrArg Prod.snd e)
   ·intro a ha b hb e
    obtain ⟨i,hi,hk⟩:=insA_mem.1 ha
    simp only[insK,List.mem_map] at hk hb
    obtain ⟨a1,_,rfl⟩:=hk
    obtain ⟨b1,_,rfl⟩:=hb
    have e1:=congrArg Prod.fst e
    simp only at e1
    rw[Z6 oT,Z6 oT] at e1
    have:=ids_inj hid oT oT e1
    omega
 exact this _ (Nat.le_refl _)
theorem bor_Slt {H:GH} {r n:Nat} {l:List Slo} (hr:ZV H r=some (3,l.map Slt)) (hn:l.length=n):Bor H (.own r 3 0 n) (SltS l):=Bor.allM (fun _ => rfl) hr hn
def slV (t:List Nod) (L:List Oc) (vs:List Int) (at':Int) (a:Att):Int:=vs.getD (ixI L ((t.getD at'.toNat ZK).id,a.name)).toNat 0
def slK (g:Gram) (t:List Nod) (L:List Oc) (vs:List Int) (pos:Nat) (at':Int):List Slo:=(Zy g.syms (Zr g t at')).atts.map fun a=>⟨pos,a.name,slV t L vs at' a⟩
def slA (g:Gram) (t:List Nod) (L:List Oc) (vs:List Int) (ks:List Int):Nat→List Slo
 | 0=>[]
 | n+1=>slA g t L vs ks n++slK g t L vs n (ks.getD n 0)
def slL (g:Gram) (t:List Nod) (i:Nat) (L:List Oc) (vs:List Int):List Slo:=slA g t L vs ((i:Int)::(t.getD i ZK).kids) ((t.getD i ZK).kids.length + 1)
def evV (e:Exp) (sl:List Slo) (lit:Int) (ids:List Int):Int:=if validE e then evE sl lit ids e else 0
def vaX (g:Gram) (t:List Nod) (L:List Oc) (vs:List Int) (x:Oc):Int:=
 if Y6 g t x=true then evV (Zf g t x) (slL g t (YI g t x).toNat L vs) (t.getD (YI g t x).toNat ZK).lit (Zh t (YI g t x)) else 0
end Go.Gh
namespace Go.Gh
theorem okE_expZ:okE expZ:=by
 rw[okE_eq]
 exact ⟨Nat.zero_le _,Nat.zero_le _,fun a h=>by cases h⟩
theorem defE_ok {g:Gram} (hg:okGr g) (t:List Nod) (x:Oc):okE (Zf g t x):=by
 unfold Zf
 split
 ·unfold YH YC
  generalize hr:Zx g.rules _ = r
  cases h:r.eqs.find? fun q=>decide (q.pos = _ ∧ q.name = _) with
  | none=>exact okE_expZ
  | some q=>
   have hq:=List.mem_of_find?_eq_some h
   rcases fRul_mem g.rules (t.getD (ownN g t x).1.toNat ZK).rule with h1|h1
   ·rw[hr] at h1
    exact ((hg.2 _ h1).2.2.2.1 q hq).2
   ·rw[hr] at h1
    subst h1
    simp[rulZ] at hq
 ·exact okE_expZ
theorem defO_in {g:Gram} {t:List Nod} {x:Oc} (h:Y6 g t x=true):∃j:Nat,YI g t x=j∧j<t.length:=by
 have h0:=h
 simp only[Y6,Bool.and_eq_true,decide_eq_true_eq] at h0
 obtain ⟨_,_,h1,_⟩:=h0
 refine ⟨(ownN g t x).1.toNat,?_,oT⟩
 unfold YI
 rw[if_pos h]
 omega
theorem kidsW_len {w:Nat→Int→Int→ByteArray→Int} {i:Nat} (hw:∀a p q s,0≤w a p q s→(a:Int)<w a p q s):∀(cs:List Int) (ss:List ByteArray) (k a:Int),cs.length=ss.length→0≤a→0≤Zu w i cs ss k a→a+cs.length≤Zu w i cs ss k a
 | [],_,k,a,_,ha,h=>by simp[Zu]
 | c::cs,[],k,a,hl,_,_ => by simp at hl
 | c::cs,s::ss,k,a,hl,ha,h=>by
  simp only[Zu] at h ⊢
  split at h
  ·omega
  rename_i g1
  rw[if_neg g1]
  split at h
  ·omega
  rename_i g2
  rw[if_neg g2]
  have h3:=hw a.toNat i (k+1) s oT
  have ih:=kidsW_len hw cs ss (k+1) (w a.toNat i (k+1) s) (by simpa using hl) oT h
  simp only[List.length_cons]
  omega
theorem walkE_kl {g:Gram} {t:List Nod}:∀(f i:Nat) (p q:Int) (s:ByteArray),0≤ZJ g t f i p q s→∀j:Nat,i≤j→(j:Int)<ZJ g t f i p q s→(t.getD j ZK).kids.length ≤ t.length
 | 0,i,p,q,s,h,j,h1,h2=>by simp[ZJ] at h
 | f+1,i,p,q,s,h,j,h1,h2=>by
  have hge:=Yv (g:=g) (t:=t) (f+1) i p q s h
  simp only[ZJ] at h h2 hge
  split at h
  ·rename_i hi
   rw[if_pos hi] at h2 hge
   split at h
   ·rename_i hf
    rw[if_pos hf] at h2 hge
    have hl:=(Yn.1 hf).2.2.2.2.1
    by_cases e:j=i
    ·subst e
     have:=kidsW_len (w:=ZJ g t f) (fun a p q s h=>(Yv f a p q s h).1) _ _ 0 ((j:Int)+1) hl oT h
     omega
    ·exact kidsW_all (w:=ZJ g t f) (n:=t.length) (P:=fun j=>(t.getD j ZK).kids.length ≤ t.length) (fun a p q s h=>Yv f a p q s h) (fun a p q s h j h1 h2=>walkE_kl f a p q s h j h1 h2) _ _ 0 ((i:Int)+1) oT h j oT h2
   ·omega
  ·omega
theorem tree_kl {g:Gram} {t:List Nod} {s:ByteArray} (h:Zs g t s=true) {i:Nat} (hi:i<t.length):t[i].kids.length ≤ 16:=by
 obtain ⟨h0,_,h1⟩:=Yj h
 have:=walkE_kl (g:=g) (t:=t) t.length 0 (-1) 0 s oT i oT (by rw[h1];omega)
 rw[Z6 hi] at this
 omega
theorem tree_ids {g:Gram} {t:List Nod} {s:ByteArray} (h:Zs g t s=true) {i:Nat} (hi:i<t.length):(Zh t i).length ≤ 1048576:=by
 rw[nodeIds_in hi]
 have:=idsAt_len t ((i:Int)::t[i].kids)
 have:=tree_kl h hi
 simp only[List.length_cons] at *
 omega
theorem slA_len {g:Gram} {t:List Nod} {L:List Oc} {vs ks:List Int} (hg:ZE g):∀n,(slA g t L vs ks n).length ≤ n * 1048576
 | 0=>by simp[slA]
 | n+1=>by
  have h1:=YR hg (Zr g t (ks.getD n 0))
  unfold Yy at h1
  have:=slA_len (g:=g) (t:=t) (L:=L) (vs:=vs) (ks:=ks) hg n
  simp only[slA,slK,List.length_append,List.length_map]
  omega
theorem accG_st {g:Gram} (h:staS g=true):accG g=true:=by
 simp only[staS,Bool.and_eq_true] at h
 exact h.2.2
end Go.Gh
namespace Go.Gh
def par (t:List Nod) (e:Int):Int:=(t.getD e.toNat ZK).parent
def abv (t:List Nod) (i e:Int):Prop:=e=t.length∨par t e<i
theorem walkE_fit {g:Gram} {t:List Nod} {f i:Nat} {p q:Int} {s:ByteArray} (h:0≤ZJ g t f i p q s):i<t.length∧(t.getD i ZK).parent = p∧(t.getD i ZK).place = q:=by
 cases f with
 | zero=>simp[ZJ] at h
 | succ f=>
  simp only[ZJ] at h
  split at h
  ·rename_i hi
   split at h
   ·rename_i hf
    obtain ⟨_,_,h1,h2,_⟩:=Yn.1 hf
    exact ⟨hi,h1,h2⟩
   ·omega
  ·omega
theorem walkE_par {g:Gram} {t:List Nod}:∀(f i:Nat) (p q:Int) (s:ByteArray),0≤ZJ g t f i p q s→∀j:Nat,i<j→(j:Int)<ZJ g t f i p q s→(i:Int)≤(t.getD j ZK).parent
 | 0,i,p,q,s,h,j,h1,h2=>by simp[ZJ] at h
 | f+1,i,p,q,s,h,j,h1,h2=>by
  simp only[ZJ] at h h2
  split at h
  ·rename_i hi
   rw[if_pos hi] at h2
   split at h
   ·rename_i hf
    rw[if_pos hf] at h2
    have key:∀(cs:List Int) (ss:List ByteArray) (k a:Int),(i:Int)<a→0≤Zu (ZJ g t f) i cs ss k a→∀j:Nat,a≤j→(j:Int)<Zu (ZJ g t f) i cs ss k a→(i:Int)≤(t.getD j ZK).parent := by
     intro cs
     induction cs with
     | nil=>intro ss k a ha h j h1 h2;simp only[Zu] at h2;omega
     | cons c cs ih=>
      intro ss k a ha h j h1 h2
      cases ss with
      | nil=>simp only[Zu] at h2;omega
      | cons s ss=>
       simp only[Zu] at h h2
       split at h
       ·omega
       rename_i g1
       rw[if_neg g1] at h2
       split at h
       ·omega
       rename_i g2
       rw[if_neg g2] at h2
       have hw:0≤ZJ g t f a.toNat i (k+1) s:=by omega
       have h3:=Yv f a.toNat i (k+1) s hw
       by_cases hj:(j:Int)<ZJ g t f a.toNat i (k+1) s
       ·by_cases e:j=a.toNat
        ·have:=(walkE_fit hw).2.1
         rw[e,this]
         exact Int.le_refl _
        ·have:=walkE_par f a.toNat i (k+1) s hw j oT hj
         omega
       ·exact ih ss (k+1) (ZJ g t f a.toNat i (k+1) s) oT h j oT h2
    exact key _ _ 0 ((i:Int)+1) oT h j oT h2
   ·omega
  ·omega
theorem walkE_sub {g:Gram} {t:List Nod} {f i:Nat} {p q:Int} {s:ByteArray} (h:0≤ZJ g t f i p q s) (ha:abv t i (ZJ g t f i p q s)):(subLen t i:Int)=ZJ g t f i p q s-i:=by
 have h1:=Yv f i p q s h
 have h2:=walkE_par f i p q s h
 generalize ZJ g t f i p q s=e at *
 obtain ⟨k,rfl⟩:∃k:Nat,e=k:=⟨e.toNat,oT⟩
 have:=subLen_eq (t:=t) (i:=i) (k:=k) oT oT (fun j hj h3 h4=>by have:=h2 j h3 oT;rwa [Z6 hj] at this) (fun hk=>by
  rcases ha with h3|h3
  ·omega
  ·unfold par at h3
   rw[Int.toNat_natCast,Z6 hk] at h3
   omega)
 omega
def kidsOK (t:List Nod) (j:Nat):Prop:=
 (∀m,∀h:m<(t.getD j ZK).kids.length,0≤(t.getD j ZK).kids[m]∧(t.getD j ZK).kids[m]<t.length∧(t.getD (t.getD j ZK).kids[m].toNat ZK).parent = j∧(t.getD (t.getD j ZK).kids[m].toNat ZK).place = m+1) ∧
 subLen t j=1+((t.getD j ZK).kids.map fun c=>subLen t c.toNat).sum
theorem walkE_kidsOK {g:Gram} {t:List Nod}:∀(f i:Nat) (p q:Int) (s:ByteArray),0≤ZJ g t f i p q s→abv t i (ZJ g t f i p q s)→∀j:Nat,i≤j→(j:Int)<ZJ g t f i p q s→kidsOK t j
 | 0,i,p,q,s,h,_,j,h1,h2=>by simp[ZJ] at h
 | f+1,i,p,q,s,h,hab,j,h1,h2=>by
  have hsub:=walkE_sub h hab
  simp only[ZJ] at h h2 hab hsub
  split at h
  ·rename_i hi
   rw[if_pos hi] at h2 hab hsub
   split at h
   ·rename_i hf
    rw[if_pos hf] at h2 hab hsub
    have hl:=(Yn.1 hf).2.2.2.2.1
    have key:∀(cs:List Int) (ss:List ByteArray) (k:Nat) (a:Int),cs.length=ss.length→(i:Int)<a→0≤Zu (ZJ g t f) i cs ss k a→abv t i (Zu (ZJ g t f) i cs ss k a) →
     (∀m,∀h:m<cs.length,0≤cs[m]∧cs[m]<t.length∧(t.getD cs[m].toNat ZK).parent = i∧(t.getD cs[m].toNat ZK).place = (k:Int)+m+1) ∧
     (((cs.map fun c=>subLen t c.toNat).sum : Nat):Int)=Zu (ZJ g t f) i cs ss k a-a∧∀j:Nat,a≤j→(j:Int)<Zu (ZJ g t f) i cs ss k a→kidsOK t j:=by
     intro cs
     induction cs with
     | nil=>intro ss k a _ ha h _;exact ⟨fun m h=>by simp at h,by simp[Zu],fun j h1 h2=>by simp only[Zu] at h2;omega⟩
     | cons c cs ih=>
      intro ss k a hl ha h hab
      cases ss with
      | nil=>simp at hl
      | cons s ss=>
       simp only[Zu] at h hab ⊢
       split at h
       ·omega
       rename_i g1
       rw[if_neg g1] at hab ⊢
       split at h
       ·omega
       rename_i g2
       rw[if_neg g2] at hab ⊢
       have hw:0≤ZJ g t f a.toNat i (k+1) s:=by omega
       have h3:=Yv f a.toNat i (k+1) s hw
       have hft:=walkE_fit hw
       have hca:c=a:=by simpa using g1
       subst hca
       obtain ⟨i1,i2,i3⟩:=ih ss (k+1) (ZJ g t f c.toNat i (k+1) s) (by simpa using hl) oT (by push_cast;exact h) (by push_cast;exact hab)
       have hac:abv t (c.toNat:Nat) (ZJ g t f c.toNat i (k+1) s):=by
        cases cs with
        | nil=>
         cases ss with
         | nil=>
          simp only[Zu] at hab
          rcases hab with h4|h4
          ·exact .inl h4
          ·exact .inr oT
         | cons s' ss=>simp at hl
        | cons c' cs=>
         cases ss with
         | nil=>simp at hl
         | cons s' ss=>
          have h5:=i1 0 (by simp)
          simp only[List.getElem_cons_zero] at h5
          have h6:=h
          simp only[Zu] at h6
          split at h6
          ·omega
          rename_i g3
          have:c'=ZJ g t f c.toNat i (k+1) s:=by simpa using g3
          right
          unfold par
          rw[←this,h5.2.2.1]
          omega
       have hs1:=walkE_sub hw hac
       refine ⟨fun m hm=> ?_,?_,fun j h1 h2=> ?_⟩
       ·cases m with
        | zero=>
         simp only[List.getElem_cons_zero]
         exact ⟨oT,oT,hft.2.1,by rw[hft.2.2];push_cast;omega⟩
        | succ m=>
         simp only[List.getElem_cons_succ]
         have:=i1 m (by simpa using hm)
         refine ⟨this.1,this.2.1,this.2.2.1,?_⟩
         rw[this.2.2.2]
         push_cast
         omega
       ·simp only[List.map_cons,List.sum_cons]
        push_cast at i2 ⊢
        omega
       ·by_cases hj:(j:Int)<ZJ g t f c.toNat i (k+1) s
        ·exact walkE_kidsOK f c.toNat i (k+1) s hw hac j oT hj
        ·exact i3 j oT (by push_cast;exact h2)
    obtain ⟨k1,k2,k3⟩:=key _ _ 0 ((i:Int)+1) hl oT (by simpa using h) (by simpa using hab)
    by_cases e:j=i
    ·subst e
     refine ⟨fun m hm=> ?_,?_⟩
     ·have:=k1 m hm
      refine ⟨this.1,this.2.1,this.2.2.1,?_⟩
      rw[this.2.2.2]
      omega
     ·simp only[Int.natCast_zero] at k2
      omega
    ·exact k3 j oT (by simpa using h2)
   ·omega
  ·omega
theorem tree_kidsOK {g:Gram} {t:List Nod} {s:ByteArray} (h:Zs g t s=true) {j:Nat} (hj:j<t.length):kidsOK t j:=by
 obtain ⟨h0,_,h1⟩:=Yj h
 exact walkE_kidsOK (g:=g) t.length 0 (-1) 0 s oT (by rw[h1];exact .inl rfl) j oT (by rw[h1];omega)
theorem tree_idx {g:Gram} {t:List Nod} {s:ByteArray} (h:Zs g t s=true) {j:Nat} (hj:j<t.length):Zt (fun y=>decide (y.id=t[j].id)) t=j:=by
 have hid:=(Yj h).2.1
 refine YP hj (by simp) fun a ha=> ?_
 obtain ⟨k,hk,rfl⟩:=List.mem_iff_getElem.1 ha
 simp only[List.length_take] at hk
 rw[List.getElem_take]
 simp only[decide_eq_false_iff_not]
 intro e
 have:=ids_inj hid oT hj e
 omega
end Go.Gh
namespace Go.Gh
theorem bentT_sm {t:List Nod} (h:bentT t):t.length≤1048576∧(∀x∈t,x.kids.length≤1048576)∧∀x∈t,x.rule.size≤maxLen:=
 ⟨by have:=h.2.2;omega,fun x hx=>by have:=(h.1 x hx).1;omega,fun x hx=>shT_le (h.1 x hx).2⟩
end Go.Gh
namespace Go.Gh
def sumA (g:Gram) (t:List Nod):Nat→Nat
 | 0=>0
 | n+1=>sumA g t n+(Zy g.syms (Zr g t n)).atts.length
theorem insA_sum (g:Gram) (t:List Nod):∀n,(YQ g t n).length = sumA g t n
 | 0=>rfl
 | n+1=>by simp[YQ,insK,sumA,insA_sum g t n]
theorem insA_in {g:Gram} {t:List Nod} {x:Int×ByteArray}:∀n,x∈YQ g t n↔∃j,j<n∧∃a∈(Zy g.syms (Zr g t j)).atts,x=((t.getD j ZK).id,a.name)
 | 0=>by simp[YQ]
 | n+1=>by
  simp only[YQ,List.mem_append,insA_in n,insK,List.mem_map]
  constructor
  ·rintro (⟨j,hj,a,ha,rfl⟩|⟨a,ha,rfl⟩)
   ·exact ⟨j,oT,a,ha,rfl⟩
   ·exact ⟨n,oT,a,ha,rfl⟩
  ·rintro ⟨j,hj,a,ha,rfl⟩
   rcases Nat.lt_succ_iff_lt_or_eq.1 hj with h|rfl
   ·exact .inl ⟨j,h,a,ha,rfl⟩
   ·exact .inr ⟨a,ha,rfl⟩
end Go.Gh
namespace Go.Gh
theorem sumA_le {g:Gram} {t:List Nod} (hg:drG g):∀n,sumA g t n≤5 * n
 | 0=>by simp[sumA]
 | n+1=>by
  have:=sumA_le (t:=t) hg n
  simp only[sumA]
  rcases fSym_mem g.syms (Zr g t n) with h6|h6
  ·have:=(hg.1.1.2.2 _ h6).2.2.1
   omega
  ·rw[h6];simp[symZ];omega
end Go.Gh
namespace Go.Gh
def nwB (T:List (List Int)) (F:List Int) (L:List Int) (k:Nat):Bool:=decide (F.getD k 0<0)&&L.any fun j=>hasI (T.getD k []) j
def Yx (T:List (List Int)) (F L:List Int) (n:Nat):List Int:=(List.range T.length).map fun k=>if nwB T F L k then (n:Int) else F.getD k 0
def stLp (T:List (List Int)) (F L:List Int) (m:Nat):List Int:=((List.range m).filter (nwB T F L)).map fun k:Nat=>(k:Int)
def stL1 (T:List (List Int)) (F L:List Int):List Int:=stLp T F L T.length
def bfs (T:List (List Int)) (goal:Nat):Nat→List Int×List Int
 | 0=>(List.replicate T.length (-1),[(goal:Int)])
 | m+1=>(Yx T (bfs T goal m).1 (bfs T goal m).2 (m+1),stL1 T (bfs T goal m).1 (bfs T goal m).2)
def fD (v:Int):Int:=if v=0 then -1 else v
def YB (l:List Int):List Int:=l.map fD
theorem farD_get {l:List Int} {i:Nat} (h:i<l.length):(YB l).getD i 0=fD (l.getD i 0):=by
 rw[Z6 (by simpa[YB] using h),Z6 h];simp[YB]
theorem dL_keep {T:List (List Int)} {goal d i:Nat} (h:i<T.length) (hd:(dL T goal d).getD i 0≠0):(dL T goal (d+1)).getD i 0=(dL T goal d).getD i 0:=by
 rw[dL_get h,dS,if_pos hd]
theorem dL_goal {T:List (List Int)} {goal d i:Nat} (h:i<T.length) (hg:(goal:Int)∈T[i]):(dL T goal (d+1)).getD i 0≠0:=by
 induction d with
 | zero=>
  rw[dL_get h,dS]
  by_cases e:(dL T goal 0).getD i 0≠0
  ·rw[if_pos e];exact e
  ·rw[if_neg e,if_pos]
   ·simp
   ·rw[Z6 h]
    exact List.any_eq_true.2 ⟨_,hg,by simp[dC]⟩
 | succ d ih=>rw[dL_keep h ih];exact ih
theorem hasI_iff {l:List Int} {x:Int}:hasI l x=true↔x∈l:=by
 unfold hasI
 rw[List.any_eq_true]
 exact ⟨fun ⟨y,h1,h2⟩=>by simp at h2;rw[←h2];exact h1,fun h=>⟨x,h,by simp⟩⟩
def lvD (T:List (List Int)) (goal m:Nat):List Int:=if m=0 then [(goal:Int)] else ((List.range T.length).filter fun k=>decide ((dL T goal m).getD k 0=m)).map fun k:Nat=>(k:Int)
theorem lvD_mem {T:List (List Int)} {goal m:Nat} (hm:m≠0) {x:Int}:x∈lvD T goal m↔∃k:Nat,x=k∧k<T.length∧(dL T goal m).getD k 0=m:=by
 rw[lvD,if_neg hm,List.mem_map]
 constructor
 ·rintro ⟨k,h1,rfl⟩
  rw[List.mem_filter] at h1
  exact ⟨k,rfl,by simpa using h1.1,by simpa using h1.2⟩
 ·rintro ⟨k,rfl,h1,h2⟩
  exact ⟨k,by rw[List.mem_filter];exact ⟨by simpa using h1,by simpa using h2⟩,rfl⟩
theorem nw_dL {T:List (List Int)} (hT:okT T) {goal:Nat} {m k:Nat} (hk:k<T.length) :
 nwB T (YB (dL T goal m)) (lvD T goal m) k=(decide ((dL T goal m).getD k 0=0)&&(T[k].any (dC T goal (m+1) (dL T goal m)))):=by
 have hr:=(hT.2 _ (List.getElem_mem hk)).2
 have hrg:=dL_rng T goal m k hk
 have e1:decide ((YB (dL T goal m)).getD k 0<0)=decide ((dL T goal m).getD k 0=0):=by
  rw[farD_get (by rw[dL_len];exact hk)]
  unfold fD
  generalize (dL T goal m).getD k 0=v at hrg ⊢
  by_cases e:v=0
  ·simp[e]
  ·rw[if_neg e]
   have:¬v<0:=by omega
   simp[e,this]
 unfold nwB
 rw[e1,Z6 hk]
 by_cases e:(dL T goal m).getD k 0=0
 ·simp only[e,decide_true,Bool.true_and]
  rw[Bool.eq_iff_iff,List.any_eq_true,List.any_eq_true]
  by_cases hm:m=0
  ·subst hm
   simp only[lvD,if_true]
   constructor
   ·rintro ⟨j,h1,h2⟩
    simp at h1;subst h1
    exact ⟨_,hasI_iff.1 h2,by simp[dC]⟩
   ·rintro ⟨x,h1,h2⟩
    simp[dC] at h2
    subst h2
    exact ⟨_,by simp,hasI_iff.2 h1⟩
  ·have h1m:¬m+1=1:=by omega
   constructor
   ·rintro ⟨j,h1,h2⟩
    obtain ⟨i,rfl,hi,hd⟩:=(lvD_mem hm).1 h1
    refine ⟨_,hasI_iff.1 h2,?_⟩
    have hne:¬(i:Int)=goal:=fun q=>by
     rw[q] at h2
     obtain ⟨m',rfl⟩:∃m',m=m'+1:=⟨m-1,oT⟩
     exact dL_goal hk (hasI_iff.1 h2) e
    have h3:((m+1:Nat):Int)-1=m:=by omega
    simp only[dC,if_neg h1m,Int.toNat_natCast,hd,h3]
    simp[hne]
   ·rintro ⟨x,h1,h2⟩
    simp only[dC,if_neg h1m,Bool.and_eq_true,decide_eq_true_eq] at h2
    obtain ⟨⟨h3,h4⟩,h5⟩:=h2
    have hxr:=hr x h1
    refine ⟨x,(lvD_mem hm).2 ⟨x.toNat,oT,oT,by rw[h5];omega⟩,hasI_iff.2 h1⟩
 ·rw[decide_eq_false e]
  rfl
theorem bfs_eq {T:List (List Int)} (hT:okT T) (goal:Nat):∀m,(bfs T goal m).1 = YB (dL T goal m)∧(bfs T goal m).2 = lvD T goal m
 | 0=>by
  refine ⟨?_,by simp[bfs,lvD]⟩
  simp[bfs,YB,dL,fD]
 | m+1=>by
  obtain ⟨h1,h2⟩:=bfs_eq hT goal m
  have key:∀k,k<T.length→nwB T (YB (dL T goal m)) (lvD T goal m) k=decide ((dL T goal (m+1)).getD k 0=((m+1:Nat):Int)):=fun k hk=>by
   rw[nw_dL hT hk,dL_get hk,dS,Z6 hk]
   have hrg:=dL_rng T goal m k hk
   generalize (dL T goal m).getD k 0=v at hrg ⊢
   generalize T[k].any (dC T goal (m+1) (dL T goal m))=b
   by_cases e:v=0
   ·subst e
    cases b
    ·have:¬(0:Int)=((m+1:Nat):Int):=by omega
     simp only[decide_true,Bool.and_false,ne_eq,not_true_eq_false,if_false,Bool.false_eq_true,decide_eq_false this]
    ·simp only[decide_true,Bool.and_true,ne_eq,not_true_eq_false,if_false,if_true]
   ·have:¬v=((m+1:Nat):Int):=by omega
    rw[if_pos e,decide_eq_false e,decide_eq_false this]
    rfl
  refine ⟨?_,?_⟩
  ·simp only[bfs,h1,h2,Yx]
   refine List.ext_getElem (by simp[YB,dL_len]) fun k hk1 hk2=> ?_
   have hk:k<T.length:=by simpa using hk1
   have e3:(YB (dL T goal (m+1)))[k]=fD ((dL T goal (m+1)).getD k 0):=by
    rw[Z6 (by rw[dL_len];exact hk)];simp[YB]
   rw[e3]
   simp only[List.getElem_map,List.getElem_range]
   rw[key k hk,farD_get (by rw[dL_len];exact hk)]
   by_cases q:(dL T goal (m+1)).getD k 0=((m+1:Nat):Int)
   ·rw[if_pos (by simpa using q),q]
    unfold fD
    rw[if_neg oT]
   ·rw[if_neg (by simpa using q)]
    by_cases e:(dL T goal m).getD k 0=0
    ·have hq:(dL T goal (m+1)).getD k 0=0:=by
      rw[dL_get hk,dS,if_neg (by simpa using e)] at q ⊢
      split
      ·rename_i h;rw[if_pos h] at q;exact absurd rfl q
      ·rfl
     rw[hq,e]
    ·rw[dL_keep hk e]
  ·show stL1 T (bfs T goal m).1 (bfs T goal m).2 = _
   rw[h1,h2,stL1,stLp]
   conv=>rhs;rw[lvD,if_neg (Nat.succ_ne_zero m)]
   congr 1
   exact List.filter_congr fun k hk=>key k (by simpa using hk)
def negs (l:List Int):Nat:=l.countP fun v=>decide (v<0)
def bmu (F L:List Int):Nat:=negs F+(if L=[] then 0 else 1)
theorem countP_lt {α:Type} {p q:α→Bool} {l:List α} {a:α} (h:∀x∈l,p x=true→q x=true) (ha:a∈l) (hq:q a=true) (hp:¬p a=true):l.countP p<l.countP q:=by
 induction l with
 | nil=>simp at ha
 | cons x l ih=>
  have hm:l.countP p≤l.countP q:=List.countP_mono_left fun y hy=>h y (by simp[hy])
  simp only[List.countP_cons]
  rcases List.mem_cons.1 ha with rfl|ha'
  ·rw[if_neg hp,if_pos hq];omega
  ·have:=ih (fun y hy=>h y (by simp[hy])) ha'
   by_cases e:p x=true
   ·rw[if_pos e,if_pos (h x (by simp) e)];omega
   ·rw[if_neg e];split<;>omega
theorem stF1_none {T:List (List Int)} {F L:List Int} (hF:F.length=T.length) (h:stL1 T F L=[]) (n:Nat):Yx T F L n=F:=by
 refine List.ext_getElem (by simp[Yx,hF]) fun k hk1 hk2=> ?_
 have hk:k<T.length:=by omega
 have hno:nwB T F L k=false:=by
  cases q:nwB T F L k
  ·rfl
  ·have:(k:Int)∈stL1 T F L:=List.mem_map.2 ⟨k,List.mem_filter.2 ⟨by simpa using hk,q⟩,rfl⟩
   rw[h] at this;simp at this
 simp only[Yx,List.getElem_map,List.getElem_range,hno]
 rw[Z6 hk2]
 simp
theorem countP_map_range {n:Nat} {f:Nat→Int}:negs ((List.range n).map f)=(List.range n).countP fun k=>decide (f k<0):=by
 simp[negs,List.countP_map,Function.comp_def]
theorem bmu_lt {T:List (List Int)} {F L:List Int} (hF:F.length=T.length) (hL:L≠[]) {n:Nat} (hn:1≤n):bmu (Yx T F L n) (stL1 T F L)<bmu F L:=by
 unfold bmu
 rw[if_neg hL]
 by_cases h:stL1 T F L=[]
 ·rw[if_pos h,stF1_none hF h];omega
 ·rw[if_neg h]
  have hF2:F=(List.range T.length).map fun k=>F.getD k 0:=by
   refine List.ext_getElem (by simp[hF]) fun k hk1 hk2=> ?_
   simp[Z6 hk1,List.getElem?_eq_getElem hk1]
  have h1:negs (Yx T F L n)<negs F:=by
   rw[hF2]
   conv=>lhs;rw[←hF2]
   rw[Yx,countP_map_range,countP_map_range]
   obtain ⟨x,hx⟩:=List.exists_mem_of_ne_nil _ h
   obtain ⟨k,hk,rfl⟩:=List.mem_map.1 hx
   rw[List.mem_filter] at hk
   refine countP_lt (a:=k) (fun j hj q=> ?_) hk.1 ?_ ?_
   ·simp only[decide_eq_true_eq] at q ⊢
    split at q
    ·omega
    ·exact q
   ·have:=hk.2
    simp only[nwB,Bool.and_eq_true] at this
    exact this.1
   ·simp only[hk.2,if_true,decide_eq_true_eq]
    omega
  omega
theorem bfs_len (T:List (List Int)) (goal:Nat):∀m,(bfs T goal m).1.length = T.length
 | 0=>by simp[bfs]
 | m+1=>by simp[bfs,Yx]
theorem stL1_nil (T:List (List Int)) (F:List Int):stL1 T F []=[]:=by
 have:∀k,nwB T F [] k=false:=fun k=>by simp[nwB]
 simp[stL1,stLp,this]
theorem bfs_stable {T:List (List Int)} {goal m:Nat} (h:(bfs T goal m).2 = []):∀j,(bfs T goal (m+j)).1 = (bfs T goal m).1 ∧ (bfs T goal (m+j)).2 = []
 | 0=>⟨rfl,h⟩
 | j+1=>by
  obtain ⟨h1,h2⟩:=bfs_stable h j
  have e:bfs T goal (m+(j+1))=(Yx T (bfs T goal (m+j)).1 (bfs T goal (m+j)).2 (m+j+1),stL1 T (bfs T goal (m+j)).1 (bfs T goal (m+j)).2):=rfl
  rw[e]
  simp only
  rw[h2,stL1_nil]
  refine ⟨?_,rfl⟩
  rw[stF1_none (bfs_len T goal _) (stL1_nil _ _),h1]
theorem bmu_bound {T:List (List Int)} {goal:Nat}:∀m,(∀j,j<m→(bfs T goal j).2 ≠ [])→bmu (bfs T goal m).1 (bfs T goal m).2 + m≤T.length+1
 | 0,_ => by
  have h1:negs (List.replicate T.length (-1))≤T.length:=by
   have:=List.countP_le_length (p:=fun v:Int=>decide (v<0)) (l:=List.replicate T.length (-1))
   simpa[negs] using this
  simp only[bfs,bmu]
  simp only[List.cons_ne_nil,if_false]
  omega
 | m+1,h=>by
  have h1:=bmu_bound m fun j hj=>h j oT
  have h2:=bmu_lt (T:=T) (bfs_len T goal m) (h m oT) (n:=m+1) oT
  have e:bfs T goal (m+1)=(Yx T (bfs T goal m).1 (bfs T goal m).2 (m+1),stL1 T (bfs T goal m).1 (bfs T goal m).2):=rfl
  rw[e]
  simp only
  omega
theorem bfs_end {T:List (List Int)} (hT:okT T) {goal m:Nat} (h:∀j,j<m→(bfs T goal j).2 ≠ []) (he:(bfs T goal m).2 = []):(bfs T goal m).1 = YB (dst T goal):=by
 have hb:=bmu_bound m h
 unfold dst
 rw[←(bfs_eq hT goal T.length).1]
 rcases Nat.lt_or_ge T.length m with hl|hl
 ·have hm:m=T.length+1:=by omega
  subst hm
  have e:bfs T goal (T.length+1)=(Yx T (bfs T goal T.length).1 (bfs T goal T.length).2 (T.length+1),stL1 T (bfs T goal T.length).1 (bfs T goal T.length).2):=rfl
  rw[e] at he ⊢
  exact stF1_none (bfs_len T goal _) he _
 ·have:=(bfs_stable he (T.length-m)).1
  rw[show m+(T.length-m)=T.length by omega] at this
  exact this.symm
def mixF (T:List (List Int)) (F L:List Int) (n k:Nat):List Int:=(Yx T F L n).take k++F.drop k
theorem mixF_len {T:List (List Int)} {F L:List Int} {n k:Nat} (hF:F.length=T.length) (hk:k≤T.length):(mixF T F L n k).length = T.length:=by
 simp[mixF,Yx,hF];omega
theorem mixF_get {T:List (List Int)} {F L:List Int} {n k:Nat} (hF:F.length=T.length) (hk:k<T.length) (h:k<(mixF T F L n k).length):(mixF T F L n k)[k]=F.getD k 0:=by
 have hl:((Yx T F L n).take k).length = k:=by simp[Yx];omega
 simp only[mixF]
 rw[List.getElem_append_right oT]
 simp only[hl,Nat.sub_self,List.getElem_drop,Nat.add_zero]
 rw[Z6 oT]
theorem mixF_no {T:List (List Int)} {F L:List Int} {n k:Nat} (hF:F.length=T.length) (hk:k<T.length) (h:nwB T F L k=false):mixF T F L n (k+1)=mixF T F L n k:=by
 unfold mixF
 have e:(Yx T F L n)[k]'(by simp[Yx];exact hk)=F[k]'oT := by
  simp only[Yx,List.getElem_map,List.getElem_range,h]
  rw[Z6 oT]
  rfl
 rw[List.take_add_one,List.getElem?_eq_getElem (by simp[Yx];exact hk),e,List.drop_eq_getElem_cons (i:=k) (l:=F) oT]
 simp
theorem mixF_yes {T:List (List Int)} {F L:List Int} {n k:Nat} (hF:F.length=T.length) (hk:k<T.length) (h:nwB T F L k=true):mixF T F L n (k+1)=(mixF T F L n k).set k (n:Int):=by
 unfold mixF
 have e:(Yx T F L n)[k]'(by simp[Yx];exact hk)=(n:Int):=by
  simp only[Yx,List.getElem_map,List.getElem_range,h]
  rfl
 have hl:((Yx T F L n).take k).length = k:=by simp[Yx];omega
 rw[List.take_add_one,List.getElem?_eq_getElem (by simp[Yx];exact hk),e,List.drop_eq_getElem_cons (i:=k) (l:=F) oT,List.set_append_right _ _ oT,hl]
 simp only[Nat.sub_self,List.set_cons_zero,List.append_assoc,Option.toList_some,List.cons_append,List.nil_append]
theorem stLp_no {T:List (List Int)} {F L:List Int} {k:Nat} (h:nwB T F L k=false):stLp T F L (k+1)=stLp T F L k:=by
 simp[stLp,List.range_succ,List.filter_append,h]
theorem stLp_yes {T:List (List Int)} {F L:List Int} {k:Nat} (h:nwB T F L k=true):stLp T F L (k+1)=stLp T F L k++[(k:Int)]:=by
 simp[stLp,List.range_succ,List.filter_append,h]
theorem stLp_len {T:List (List Int)} {F L:List Int} (k:Nat):(stLp T F L k).length ≤ k:=by
 have:=List.length_filter_le (nwB T F L) (List.range k)
 simpa[stLp] using this
theorem mixF_end {T:List (List Int)} {F L:List Int} {n:Nat} (hF:F.length=T.length):mixF T F L n T.length=Yx T F L n:=by
 unfold mixF
 rw[List.take_of_length_le (by simp[Yx]),List.drop_of_length_le oT,List.append_nil]
theorem bfs_small (T:List (List Int)) (goal:Nat):∀m,(bfs T goal m).2.length ≤ T.length+1
 | 0=>by simp[bfs]
 | m+1=>by
  have:=stLp_len (T:=T) (F:=(bfs T goal m).1) (L:=(bfs T goal m).2) T.length
  simp only[bfs,stL1];omega
def hitB (T:List (List Int)) (F L:List Int) (k j:Nat):Bool:=decide (F.getD k 0<0)&&(L.take j).any fun x=>hasI (T.getD k []) x
def farH (T:List (List Int)) (F L:List Int) (n k j:Nat):List Int:=if hitB T F L k j=true then (mixF T F L n k).set k (n:Int) else mixF T F L n k
def nxtH (T:List (List Int)) (F L:List Int) (k j:Nat):List Int:=if hitB T F L k j=true then stLp T F L k++[(k:Int)] else stLp T F L k
theorem hitB_zero (T:List (List Int)) (F L:List Int) (k:Nat):hitB T F L k 0=false:=by simp[hitB]
theorem hitB_end {T:List (List Int)} {F L:List Int} {k:Nat}:hitB T F L k L.length=nwB T F L k:=by simp[hitB,nwB]
theorem hitB_succ {T:List (List Int)} {F L:List Int} {k j:Nat} (hj:j<L.length) (hk:k<T.length) (hF:k<F.length):hitB T F L k (j+1)=(hitB T F L k j||(decide (F[k]<0)&&hasI T[k] L[j])):=by
 unfold hitB
 rw[List.take_add_one,List.getElem?_eq_getElem hj,List.any_append,Z6 hk,Z6 hF]
 cases decide (F[k]<0)<;>simp
theorem farH_len {T:List (List Int)} {F L:List Int} {n k j:Nat} (hF:F.length=T.length) (hk:k≤T.length):(farH T F L n k j).length = T.length:=by
 unfold farH
 split
 ·rw[List.length_set,mixF_len hF hk]
 ·exact mixF_len hF hk
theorem nxtH_len {T:List (List Int)} {F L:List Int} {k j:Nat}:(nxtH T F L k j).length ≤ k+1:=by
 have:=stLp_len (T:=T) (F:=F) (L:=L) k
 unfold nxtH
 split
 ·rw[List.length_append,List.length_singleton];omega
 ·omega
theorem farH_next {T:List (List Int)} {F L:List Int} {n k:Nat} (hF:F.length=T.length) (hk:k<T.length):farH T F L n k L.length=mixF T F L n (k+1):=by
 unfold farH
 rw[hitB_end]
 by_cases h:nwB T F L k=true
 ·rw[if_pos h,mixF_yes hF hk h]
 ·rw[if_neg h,mixF_no hF hk (by simpa using h)]
theorem nxtH_next {T:List (List Int)} {F L:List Int} {k:Nat}:nxtH T F L k L.length=stLp T F L (k+1):=by
 unfold nxtH
 rw[hitB_end]
 by_cases h:nwB T F L k=true
 ·rw[if_pos h,stLp_yes h]
 ·rw[if_neg h,stLp_no (by simpa using h)]
end Go.Gh
namespace Go.Gh
end Go.Gh
namespace Go.Gh
theorem farD_len {T:List (List Int)} {goal:Nat}:(YB (dst T goal)).length = T.length:=by simp[YB,dst,dL_len]
end Go.Gh
namespace Go.Gh
def lsF (p:Int→Bool) (b x:Int):Int:=if p x&&(decide (b<0)||decide (x<b)) then x else b
def lstI (p:Int→Bool) (l:List Int):Int:=l.foldl (lsF p) (-1)
theorem Ya {p:Int→Bool} {l:List Int} {j:Nat} (hj:j<l.length):lstI p (l.take (j+1))=lsF p (lstI p (l.take j)) l[j]:=by
 unfold lstI
 rw[List.take_add_one,List.getElem?_eq_getElem hj,List.foldl_append]
 rfl
theorem lsF_pos {p:Int→Bool}:∀(l:List Int) (b:Int),(b = -1∨0≤b)→(∀x∈l,p x=true→0≤x)→(l.foldl (lsF p) b=b∨(l.foldl (lsF p) b∈l∧p (l.foldl (lsF p) b)=true))
 | [],b,_,_ => .inl rfl
 | x::l,b,hb,h=>by
  rw[List.foldl_cons]
  by_cases e:(p x&&(decide (b<0)||decide (x<b)))=true
  ·have e1:lsF p b x=x:=by rw[lsF,if_pos e]
   have hp:p x=true:=by simp only[Bool.and_eq_true] at e;exact e.1
   rw[e1]
   rcases lsF_pos l x (.inr (h x (by simp) hp)) (fun y hy=>h y (by simp[hy])) with q|⟨q1,q2⟩
   ·exact .inr ⟨by rw[q];simp,by rw[q];exact hp⟩
   ·exact .inr ⟨by simp[q1],q2⟩
  ·have e1:lsF p b x=b:=by rw[lsF,if_neg e]
   rw[e1]
   rcases lsF_pos l b hb (fun y hy=>h y (by simp[hy])) with q|⟨q1,q2⟩
   ·exact .inl q
   ·exact .inr ⟨by simp[q1],q2⟩
theorem dC_nn {T:List (List Int)} {goal d:Nat} {out:List Int} {k:Int} (h:dC T goal d out k=true):0≤k:=by
 unfold dC at h
 split at h
 ·simp only[decide_eq_true_eq] at h;omega
 ·simp only[Bool.and_eq_true,decide_eq_true_eq] at h;exact h.1.2
theorem dC_mono {T:List (List Int)} {goal d m:Nat} {k:Int} (hk:k<T.length) (hd:d≠0) (h:dC T goal d (dL T goal m) k=true):dC T goal d (dL T goal (m+1)) k=true:=by
 have hk0:=dC_nn h
 unfold dC at h ⊢
 by_cases e:d=1
 ·rw[if_pos e] at h ⊢;exact h
 ·rw[if_neg e] at h ⊢
  simp only[Bool.and_eq_true,decide_eq_true_eq] at h ⊢
  refine ⟨h.1,?_⟩
  rw[dL_keep oT (by rw[h.2];omega)]
  exact h.2
theorem dL_any {T:List (List Int)} (hT:okT T) {goal:Nat}:∀(m a n:Nat) (ha:a<T.length),(dL T goal m).getD a 0=n→n≠0→T[a].any (dC T goal n (dL T goal m))=true
 | 0,a,n,ha,h,hn=>by
  simp[dL,List.getD_eq_getElem?_getD,ha] at h
  omega
 | m+1,a,n,ha,h,hn=>by
  have mono:∀d,d≠0→T[a].any (dC T goal d (dL T goal m))=true→T[a].any (dC T goal d (dL T goal (m+1)))=true:=fun d hd q=>by
   obtain ⟨x,hx,hp⟩:=List.any_eq_true.1 q
   exact List.any_eq_true.2 ⟨x,hx,dC_mono ((hT.2 _ (List.getElem_mem ha)).2 x hx).2 hd hp⟩
  by_cases e:(dL T goal m).getD a 0=0
  ·rw[dL_get ha,dS,if_neg (by simpa using e),Z6 ha] at h
   split at h
   ·rename_i q
    obtain rfl:n=m+1:=by omega
    exact mono _ oT q
   ·omega
  ·rw[dL_keep ha e] at h
   exact mono n hn (dL_any hT m a n ha h hn)
def nxA (T:List (List Int)) (i n:Nat) (a:Int):Int:=max (lstI (dC T i n (dst T i)) (T.getD a.toNat [])) 0
def stN (T:List (List Int)) (i N:Nat):Nat→List Int×Int
 | 0=>([],i)
 | m+1=>((stN T i N m).1 ++ [(stN T i N m).2],nxA T i (N-m) (stN T i N m).2)
def dN (T:List (List Int)) (i:Nat):Nat:=((dst T i).getD i 0).toNat
def thR (T:List (List Int)) (i:Nat):List Int:=(stN T i (dN T i) (dN T i)).1
theorem stN_len (T:List (List Int)) (i N:Nat):∀m,(stN T i N m).1.length = m
 | 0=>rfl
 | m+1=>by simp[stN,stN_len T i N m]
theorem thR_len (T:List (List Int)) (i:Nat):(thR T i).length = dN T i:=stN_len _ _ _ _
theorem nxA_rng {T:List (List Int)} (hT:okT T) {i n:Nat} {a:Int} (h0:0<T.length) (ha:0≤a∧a<T.length):0≤nxA T i n a∧nxA T i n a<T.length:=by
 have ha':a.toNat<T.length:=by omega
 unfold nxA lstI
 rw[Z6 ha']
 rcases lsF_pos (p:=dC T i n (dst T i)) T[a.toNat] (-1) (.inl rfl) (fun x _ h=>dC_nn h) with q|⟨q1,q2⟩
 ·rw[q];omega
 ·have:=((hT.2 _ (List.getElem_mem ha')).2 _ q1).2
  omega
theorem stN_rng {T:List (List Int)} (hT:okT T) {i N:Nat} (hi:i<T.length):∀m,0≤(stN T i N m).2 ∧ (stN T i N m).2 < T.length
 | 0=>by simp only[stN];omega
 | m+1=>nxA_rng hT oT (stN_rng hT hi m)
theorem dst_rng (T:List (List Int)) (goal:Nat) {i:Nat} (h:i<T.length):0≤(dst T goal).getD i 0∧(dst T goal).getD i 0≤T.length:=dL_rng T goal T.length i h
theorem dN_eq {T:List (List Int)} {i:Nat} (h:i<T.length):((dN T i:Nat):Int)=(dst T i).getD i 0:=by
 have:=dst_rng T i h
 unfold dN;omega
theorem dN_le {T:List (List Int)} {i:Nat} (h:i<T.length):dN T i≤T.length:=by
 have:=dst_rng T i h
 unfold dN;omega
theorem farD_dN {T:List (List Int)} {i:Nat} (hi:i<T.length) (h:i<(YB (dst T i)).length):(YB (dst T i))[i]=if dN T i=0 then -1 else (dN T i:Int):=by
 have h2:i<(dst T i).length := by rw[dst,dL_len];exact hi
 have:=dN_eq hi
 rw[←Z6 h (d:=0),farD_get h2,←this]
 unfold fD
 by_cases e:dN T i=0
 ·rw[if_pos e,if_pos oT]
 ·rw[if_neg e,if_neg oT]
theorem farD_dC {T:List (List Int)} {i x n:Nat} (hx:x<T.length) (h:x<(YB (dst T i)).length) (hn:1<n):dC T i n (dst T i) (x:Int)=(decide (x≠i)&&decide ((YB (dst T i))[x]=(n:Int)-1)):=by
 have h2:x<(dst T i).length := by rw[dst,dL_len];exact hx
 have hrg:=dst_rng T i hx
 rw[←Z6 h (d:=0),farD_get h2]
 unfold dC
 rw[if_neg oT,decide_eq_true (show (0:Int)≤(x:Int) by omega),Bool.and_true,Int.toNat_natCast]
 have e1:decide ((x:Int)≠i)=decide (x≠i):=by
  by_cases e:x=i
  ·simp[e]
  ·rw[decide_eq_true oT,decide_eq_true e]
 have e2:decide ((dst T i).getD x 0=(n:Int)-1)=decide (fD ((dst T i).getD x 0)=(n:Int)-1):=by
  unfold fD
  split
  ·rw[decide_eq_false oT,decide_eq_false oT]
  ·rfl
 rw[e1,e2]
def cyF (b l:List Int):List Int:=if decide (0<l.length)&&(decide (b.length=0)||decide (l.length<b.length)) then l else b
def cyL (T:List (List Int)):Nat→List Int
 | 0=>[]
 | m+1=>cyF (cyL T m) (thR T m)
theorem cyF_if (b l:List Int):cyF b l=if 0<l.length∧(b.length=0∨l.length<b.length) then l else b:=by
 unfold cyF
 simp only[Bool.and_eq_true,Bool.or_eq_true,decide_eq_true_eq]
theorem cyL_le {T:List (List Int)}:∀m,m≤T.length→(cyL T m).length ≤ T.length
 | 0,_ => by simp[cyL]
 | m+1,h=>by
  have h1:=cyL_le (T:=T) m oT
  have h2:=dN_le (T:=T) (i:=m) oT
  have h3:=thR_len T m
  simp only[cyL]
  rw[cyF_if]
  split<;>omega
end Go.Gh
namespace Go.Gh
def Wk (T:List (List Int)) (goal:Nat):Nat→Nat→Prop
 | 0,_ => False
 | 1,i=>(goal:Int)∈T.getD i []
 | d+2,i=>∃k:Nat,k<T.length∧(k:Int)∈T.getD i []∧Wk T goal (d+1) k
theorem dL_at {T:List (List Int)} {goal i n:Nat} (hi:i<T.length):∀m,(dL T goal m).getD i 0=n→n≠0→(dL T goal n).getD i 0=n∧n≤m
 | 0,h,h0=>by
  have:=dL_rng T goal 0 i hi
  omega
 | m+1,h,h0=>by
  by_cases e:(dL T goal m).getD i 0=0
  ·rw[dL_get hi,dS,if_neg oT] at h
   split at h
   ·obtain rfl:n=m+1:=by omega
    refine ⟨?_,oT⟩
    rw[dL_get hi,dS,if_neg oT,if_pos ‹_›]
   ·omega
  ·rw[dL_keep hi e] at h
   obtain ⟨h1,h2⟩:=dL_at hi m h h0
   exact ⟨h1,oT⟩
theorem dL_le {T:List (List Int)} {goal i a:Nat} (hi:i<T.length) (h:(dL T goal a).getD i 0≠0):∀k,(dL T goal (a+k)).getD i 0=(dL T goal a).getD i 0
 | 0=>rfl
 | k+1=>by
  have:=dL_le hi h k
  rw[←this]
  show (dL T goal (a+k+1)).getD i 0 = _
  exact dL_keep hi (by rw[this];exact h)
theorem dL_walk {T:List (List Int)} (hT:okT T) {goal:Nat}:∀(n m a:Nat),a<T.length→(dL T goal m).getD a 0=n→n≠0→Wk T goal n a
 | 0,_,_,_,_,h=>absurd rfl h
 | 1,m,a,ha,h,h0=>by
  obtain ⟨x,hx,hp⟩:=List.any_eq_true.1 (dL_any hT m a 1 ha h h0)
  simp only[dC,if_true,decide_eq_true_eq] at hp
  subst hp
  show (goal:Int)∈T.getD a []
  rw[Z6 ha];exact hx
 | n+2,m,a,ha,h,h0=>by
  obtain ⟨x,hx,hp⟩:=List.any_eq_true.1 (dL_any hT m a (n+2) ha h h0)
  have hr:=(hT.2 _ (List.getElem_mem ha)).2 _ hx
  unfold dC at hp
  rw[if_neg oT] at hp
  simp only[Bool.and_eq_true,decide_eq_true_eq] at hp
  obtain ⟨⟨h1,h2⟩,h3⟩:=hp
  refine ⟨x.toNat,oT,?_,dL_walk hT (n+1) m x.toNat oT oT oT⟩
  rw[Z6 ha,Int.toNat_of_nonneg h2];exact hx
theorem walk_dL {T:List (List Int)} (hT:okT T) {goal:Nat}:∀(d m i:Nat),i<T.length→Wk T goal d i→d≤m→(dL T goal m).getD i 0≠0
 | 0,_,_,_,h,_ => h.elim
 | 1,m,i,hi,h,hm=>by
  obtain ⟨m,rfl⟩:∃k,m=k+1:=⟨m-1,oT⟩
  refine dL_goal hi ?_
  have:(goal:Int)∈T.getD i []:=h
  rwa [Z6 hi] at this
 | d+2,m,i,hi,h,hm=>by
  obtain ⟨k,hk,hki,hw⟩:=h
  rw[Z6 hi] at hki
  have h1:=walk_dL hT (d+1) (d+1) k hk hw (Nat.le_refl _)
  have h2:=dL_rng T goal (d+1) k hk
  obtain ⟨n,hn⟩:∃n:Nat,(dL T goal (d+1)).getD k 0=n:=⟨((dL T goal (d+1)).getD k 0).toNat,oT⟩
  obtain ⟨h3,h4⟩:=dL_at hk (d+1) hn oT
  have h5:(dL T goal (n+1)).getD i 0≠0:=by
   by_cases e:(dL T goal n).getD i 0=0
   ·by_cases e2:k=goal
    ·subst e2;exact dL_goal hi hki
    ·rw[dL_get hi,dS,if_neg oT,if_pos]
     ·omega
     ·rw[Z6 hi]
      refine List.any_eq_true.2 ⟨k,hki,?_⟩
      unfold dC
      rw[if_neg oT]
      simp only[Bool.and_eq_true,decide_eq_true_eq,Int.toNat_natCast]
      refine ⟨⟨oT,oT⟩,by rw[h3];omega⟩
   ·rw[dL_keep hi e];exact e
  obtain ⟨j,rfl⟩:∃j,m=(n+1)+j:=⟨m-(n+1),oT⟩
  rw[dL_le hi h5 j];exact h5
theorem fD_inj {a b:Int} (ha:0≤a) (hb:0≤b) (h:fD a=fD b):a=b:=by
 unfold fD at h
 split at h<;>split at h<;>omega
theorem dL_stable {T:List (List Int)} (hT:okT T) {goal i:Nat} (hi:i<T.length) (m:Nat) (h:(dL T goal m).getD i 0≠0):(dst T goal).getD i 0≠0:=by
 obtain ⟨m0,h1,h2⟩:∃m0,(∀j,j<m0→(bfs T goal j).2 ≠ [])∧(bfs T goal m0).2 = []:=by
  by_cases e:∃j,j<T.length+2∧(bfs T goal j).2 = []
  ·obtain ⟨j,_,hj⟩:=e
   clear h
   induction j using Nat.strongRecOn with
   | ind j ih=>
    by_cases e2:∃k,k<j∧(bfs T goal k).2 = []
    ·obtain ⟨k,hk,hk2⟩:=e2
     exact ih k hk oT hk2
    ·exact ⟨j,fun k hk hk2=>e2 ⟨k,hk,hk2⟩,hj⟩
  ·exfalso
   have:=bmu_bound (T:=T) (goal:=goal) (T.length+2) fun j hj hj2=>e ⟨j,hj,hj2⟩
   omega
 have h3:=bfs_end hT h1 h2
 have h4:=(bfs_stable h2 m).1
 rw[(bfs_eq hT goal (m0+m)).1,h3] at h4
 have h5:(dL T goal (m0+m)).getD i 0≠0:=by
  rw[Nat.add_comm,dL_le hi h m0];exact h
 have h6:=dL_rng T goal (m0+m) i hi
 have h7:=dst_rng T goal hi
 have h8:fD ((dL T goal (m0+m)).getD i 0)=fD ((dst T goal).getD i 0):=by
  rw[←farD_get (by rw[dL_len];exact hi),←farD_get (by rw[dst,dL_len];exact hi),h4]
 rw[←fD_inj h6.1 h7.1 h8]
 exact h5
def Rch (T:List (List Int)) (i j:Nat):Prop:=∃d,Wk T j d i
theorem Rch_iff {T:List (List Int)} (hT:okT T) {i j:Nat} (hi:i<T.length):Rch T i j↔0<(dst T j).getD i 0:=by
 have h0:=dst_rng T j hi
 constructor
 ·rintro ⟨d,hd⟩
  have:=dL_stable hT hi d (walk_dL hT d d i hi hd (Nat.le_refl _))
  omega
 ·intro h
  exact ⟨((dst T j).getD i 0).toNat,dL_walk hT _ T.length i hi (by show (dst T j).getD i 0 = _;omega) oT⟩
theorem Wk_trans {T:List (List Int)} {l j e:Nat} (hj:j<T.length) (h2:Wk T l (e+1) j):∀d i,Wk T j d i→Wk T l (d+e+1) i
 | 0,_,h=>h.elim
 | 1,i,h=>by
  rw[show 1+e+1=e+2 by omega]
  exact ⟨j,hj,h,h2⟩
 | d+2,i,⟨k,hk,h3,h4⟩=>by
  have:=Wk_trans hj h2 (d+1) k h4
  rw[show d+2+e+1=(d+e+1)+2 by omega]
  exact ⟨k,hk,h3,by rw[show d+e+1+1=d+1+e+1 by omega];exact this⟩
theorem Rch.trans {T:List (List Int)} {i j l:Nat} (hj:j<T.length) (h1:Rch T i j) (h2:Rch T j l):Rch T i l:=by
 obtain ⟨d,h1⟩:=h1
 obtain ⟨e,h2⟩:=h2
 cases e with
 | zero=>exact h2.elim
 | succ e=>exact ⟨_,Wk_trans hj h2 d i h1⟩
theorem Rch.one {T:List (List Int)} {i j:Nat} (h:(j:Int)∈T.getD i []):Rch T i j:=⟨1,h⟩
theorem nd_le {α:Type} [DecidableEq α]:∀(L M:List α),L.Nodup→(∀a∈L,a∈M)→L.length≤M.length
 | [],_,_,_ => by simp
 | a::L,M,hn,h=>by
  have h1:=List.nodup_cons.1 hn
  have h2:=nd_le L (M.erase a) h1.2 fun b hb=>(List.mem_erase_of_ne (fun e=>h1.1 (by rw[←e];exact hb))).2 (h b (by simp[hb]))
  have h3:=List.length_erase_of_mem (h a (by simp))
  have h4:0<M.length:=List.length_pos_of_mem (h a (by simp))
  simp only[List.length_cons]
  omega
theorem loop_ex {R:Nat→Nat→Prop} {n:Nat} (ht:∀a b c,b<n→R a b→R b c→R a c):∀l:List Nat,l≠[]→(∀a∈l,a<n∧∃b∈l,R a b)→∃a∈l,R a a
 | [],h,_ => absurd rfl h
 | a::l,_,h=>by
  by_cases e:R a a
  ·exact ⟨a,by simp,e⟩
  ·obtain ⟨ha,c,hc,hac⟩:=h a (by simp)
   have hc':c∈l:=by
    rcases List.mem_cons.1 hc with h1|h1
    ·subst h1;exact absurd hac e
    ·exact h1
   obtain ⟨x,hx,hxx⟩:=loop_ex ht l (fun e2=>by rw[e2] at hc';simp at hc') fun x hx=>by
    obtain ⟨h1,b,hb,hxb⟩:=h x (by simp[hx])
    rcases List.mem_cons.1 hb with h2|h2
    ·subst h2;exact ⟨h1,c,hc',ht _ _ _ ha hxb hac⟩
    ·exact ⟨h1,b,h2,hxb⟩
   exact ⟨x,by simp[hx],hxx⟩
def GoodO (T:List (List Int)) (L:List Int):Prop:=L.Nodup∧∀k (h:k<L.length),(0≤L[k]∧L[k]<T.length)∧∀j∈T.getD L[k].toNat [],0≤j→j∈L.take k
theorem firstI_yes {n:Nat} {p:Nat→Bool} (h:0≤Zg n p):p (Zg n p).toNat = true:=by
 unfold Zg at h ⊢
 cases e:(List.range n).find? p with
 | none=>rw[e] at h;exact absurd h (by decide)
 | some i=>exact List.find?_some e
theorem GoodO.snoc {T:List (List Int)} {L:List Int} (h:GoodO T L) (hf:0≤Zg T.length (rdyT T L)):GoodO T (L++[Zg T.length (rdyT T L)]):=by
 have h1:=firstI_yes hf
 have h2:Zg T.length (rdyT T L)<T.length:=by
  rcases Yl T.length (rdyT T L) with e|e
  ·omega
  ·exact e.2
 generalize Zg T.length (rdyT T L)=x at *
 simp only[rdyT,Bool.and_eq_true,Bool.not_eq_true',List.all_eq_true,Bool.or_eq_true,decide_eq_true_eq] at h1
 obtain ⟨h3,h4⟩:=h1
 have h5:¬x∈L:=fun hx=>by
  have:=(hasI_iff (l:=L) (x:=x)).2 hx
  rw[Int.toNat_of_nonneg hf] at h3
  rw[this] at h3;cases h3
 refine ⟨?_,fun k hk=> ?_⟩
 ·rw[List.nodup_append]
  refine ⟨h.1,by simp,fun a ha b hb e=> ?_⟩
  simp only[List.mem_singleton] at hb
  subst hb e
  exact h5 ha
 ·simp only[List.length_append,List.length_cons,List.length_nil] at hk
  rcases Nat.lt_or_ge k L.length with h6|h6
  ·rw[List.getElem_append_left h6,List.take_append_of_le_length oT]
   exact h.2 k h6
  ·obtain rfl:k=L.length:=by omega
   simp only[List.getElem_concat_length,List.take_left']
   refine ⟨⟨hf,h2⟩,fun j hj hj0=> ?_⟩
   rcases h4 j hj with h7|h7
   ·omega
   ·exact hasI_iff.1 h7
theorem ordT_good {T:List (List Int)}:∀(f:Nat) (out:List Int),GoodO T out→(∃L,ordT T f out=some L∧GoodO T L)∨(ordT T f out=none∧∃L,GoodO T L∧L.length<out.length+f∧Zg T.length (rdyT T L) = -1)
 | 0,out,h=> .inl ⟨out,rfl,h⟩
 | f+1,out,h=>by
  rw[ordT]
  by_cases e:0≤Zg T.length (rdyT T out)
  ·rw[if_pos e]
   rcases ordT_good f _ (h.snoc e) with h1|⟨h1,L,h2,h3,h4⟩
   ·exact .inl h1
   ·refine .inr ⟨h1,L,h2,?_,h4⟩
    simp only[List.length_append,List.length_cons,List.length_nil] at h3
    omega
  ·rw[if_neg e]
   refine .inr ⟨rfl,out,h,oT,?_⟩
   rcases Yl T.length (rdyT T out) with h1|h1
   ·exact h1
   ·exact absurd h1.1 e
theorem ord_none {T:List (List Int)} (hT:okT T) {L:List Int} (hg:GoodO T L) (hl:L.length<T.length) (hf:Zg T.length (rdyT T L) = -1):∃i,i<T.length∧0<(dst T i).getD i 0:=by
 obtain ⟨a,ha,hR⟩:=loop_ex (R:=Rch T) (n:=T.length) (fun a b c hb h1 h2=>h1.trans hb h2) ((List.range T.length).filter fun i=> !hasI L i) (fun e=>by
  have h1:∀i,i<T.length→(i:Int)∈L:=fun i hi=>by
   have:=List.filter_eq_nil_iff.1 e i (by simpa using hi)
   simp only[Bool.not_eq_true',Bool.not_eq_false] at this
   exact hasI_iff.1 this
  have h2:=nd_le ((List.range T.length).map fun i:Nat=>(i:Int)) L (by
   refine List.Pairwise.map _ ?_ List.nodup_range
   intro a b hab e;exact hab oT) (fun a ha=>by
    obtain ⟨i,hi,rfl⟩:=List.mem_map.1 ha
    exact h1 i (by simpa using hi))
  simp at h2
  omega) fun i hi=>by
   simp only[List.mem_filter,List.mem_range,Bool.not_eq_true'] at hi
   refine ⟨hi.1,?_⟩
   have h1:=XU hf hi.1
   simp only[rdyT,hi.2,Bool.not_false,Bool.true_and] at h1
   obtain ⟨k,hk,hk2⟩:=List.all_eq_false.1 h1
   simp only[Bool.or_eq_true,decide_eq_true_eq,not_or] at hk2
   have hk3:=hk
   rw[Z6 hi.1] at hk3
   have hr:=(hT.2 _ (List.getElem_mem hi.1)).2 _ hk3
   refine ⟨k.toNat,?_,Rch.one ?_⟩
   ·simp only[List.mem_filter,List.mem_range,Bool.not_eq_true']
    refine ⟨oT,?_⟩
    rw[Int.toNat_of_nonneg oT]
    cases e:hasI L k
    ·rfl
    ·exact absurd e hk2.2
   ·rw[Int.toNat_of_nonneg oT];exact hk
 simp only[List.mem_filter,List.mem_range] at ha
 exact ⟨a,ha.1,(Rch_iff hT ha.1).1 hR⟩
theorem nodup_ix {L:List Int} (h:L.Nodup) {a b:Nat} (ha:a<L.length) (hb:b<L.length) (e:L[a]=L[b]):a=b:=
 (List.getElem_inj h).1 e
theorem walk_back {T:List (List Int)} (hT:okT T) {L:List Int} (hg:GoodO T L):∀(d i j a:Nat),Wk T j d i→i<T.length→(ha:a<L.length)→L[a]=i→∃b,∃hb:b<L.length,b<a∧L[b]=j
 | 0,_,_,_,h,_,_,_ => h.elim
 | 1,i,j,a,h,hi,ha,e=>by
  have h1:(j:Int)∈T.getD i []:=h
  obtain ⟨_,h2⟩:=hg.2 a ha
  rw[e,Int.toNat_natCast] at h2
  have h3:=h2 _ h1 oT
  obtain ⟨b,hb,hb2⟩:=List.mem_iff_getElem.1 h3
  simp only[List.length_take] at hb
  rw[List.getElem_take] at hb2
  exact ⟨b,oT,oT,hb2⟩
 | d+2,i,j,a,⟨k,hk,h1,hw⟩,hi,ha,e=>by
  obtain ⟨b,hb,hba,hb2⟩:=walk_back hT hg 1 i k a h1 hi ha e
  obtain ⟨c,hc,hcb,hc2⟩:=walk_back hT hg (d+1) k j b hw hk hb hb2
  exact ⟨c,hc,oT,hc2⟩
theorem full_mem {T:List (List Int)} {L:List Int} (hg:GoodO T L) (hl:L.length=T.length) {i:Nat} (hi:i<T.length):(i:Int)∈L:=by
 by_cases e:(i:Int)∈L
 ·exact e
 ·exfalso
  have h2:=nd_le ((i:Int)::L) ((List.range T.length).map fun i:Nat=>(i:Int)) (List.nodup_cons.2 ⟨e,hg.1⟩) fun a ha=>by
   rcases List.mem_cons.1 ha with h|h
   ·subst h;exact List.mem_map.2 ⟨i,by simpa using hi,rfl⟩
   ·obtain ⟨k,hk,rfl⟩:=List.mem_iff_getElem.1 h
    have:=(hg.2 k hk).1
    exact List.mem_map.2 ⟨L[k].toNat,by simp;omega,oT⟩
  simp at h2
  omega
theorem cyL_nil {T:List (List Int)}:∀m,m≤T.length→(cyL T m=[]↔∀i,i<m→(dst T i).getD i 0=0)
 | 0,_ => by simp[cyL]
 | m+1,hm=>by
  have ih:=cyL_nil (T:=T) m oT
  have h0:=dN_eq (T:=T) (i:=m) oT
  rw[cyL,cyF_if,thR_len]
  constructor
  ·intro h i hi
   split at h
   ·have:(thR T m).length = 0:=by rw[h];rfl
    rw[thR_len] at this
    omega
   ·rename_i hno
    have h1:=ih.1 h
    rcases Nat.lt_succ_iff_lt_or_eq.1 hi with e|e
    ·exact h1 i e
    ·subst e
     rw[h] at hno
     simp only[List.length_nil,true_or,and_true] at hno
     omega
  ·intro h
   have h1:=h m oT
   rw[if_neg oT]
   exact ih.2 fun i hi=>h i oT
theorem order_law {T:List (List Int)} (hT:okT T) :
 (ordB T=true↔cyL T T.length=[])∧(ordB T=true→(YM T).length = T.length)∧∀k (h:k<(YM T).length),(0≤(YM T)[k]∧(YM T)[k]<T.length)∧∀j∈T.getD (YM T)[k].toNat [],0≤j→j∈(YM T).take k:=by
 have h0:GoodO T []:=⟨by simp,fun k h=>by simp at h⟩
 rcases ordT_good T.length [] h0 with ⟨L,h1,h2⟩|⟨h1,L,h2,h3,h4⟩
 ·have h3:=ordT_len T.length [] L h1
  simp only[List.length_nil,Nat.zero_add] at h3
  have h4:YM T=L:=by simp[YM,h1]
  have h5:ordB T=true:=by simp[ordB,h1]
  rw[h4,h5]
  refine ⟨⟨fun _ => ?_,fun _ => rfl⟩,fun _ => h3,h2.2⟩
  refine (cyL_nil _ (Nat.le_refl _)).2 fun i hi=> ?_
  have h6:=dst_rng T i hi
  by_cases e:(dst T i).getD i 0=0
  ·exact e
  ·exfalso
   obtain ⟨d,hd⟩:=(Rch_iff hT hi).2 (show 0<(dst T i).getD i 0 by omega)
   obtain ⟨a,ha,ha2⟩:=List.mem_iff_getElem.1 (full_mem h2 h3 hi)
   obtain ⟨b,hb,hba,hb2⟩:=walk_back hT h2 d i i a hd hi ha ha2
   have:=nodup_ix h2.1 ha hb (ha2.trans hb2.symm)
   omega
 ·have h5:YM T=[]:=by simp[YM,h1]
  have h6:ordB T=false:=by simp[ordB,h1]
  rw[h5,h6]
  refine ⟨⟨fun h=>(by cases h),fun h=> ?_⟩,fun h=>(by cases h),fun k h=>(by simp at h)⟩
  obtain ⟨i,hi,hd⟩:=ord_none hT h2 (by simpa using h3) h4
  have:=(cyL_nil _ (Nat.le_refl _)).1 h i hi
  omega
end Go.Gh
namespace Go.Gh
end Go.Gh
namespace Go.Gh
theorem acc_shp {g:Gram} (h:accG g=true):(∀r∈g.rules,rulV r=true∧unkR g r=false∧misR g r=false)∧(∀s∈g.syms,symV s=true)∧((g.syms.getD 0 symZ).atts.any fun a=>decide (a.mode=1))=false∧((1≤g.syms.length∧g.syms.length≤4)∧(1≤g.rules.length∧g.rules.length≤8)):=by
 have h1:=(accG_ty h).1
 unfold shpC at h1
 split at h1
 ·simp at h1
 ·rename_i k1
  split at h1
  ·simp at h1
  ·rename_i k2
   split at h1
   ·simp at h1
   ·rename_i k3
    split at h1
    ·simp at h1
    ·rename_i k4
     split at h1
     ·simp at h1
     ·rename_i k5
      have hb:∀c,¬0≤brF g c→∀r∈g.rules,brk g r c=false:=fun c hc r hr=>by
       obtain ⟨i,hi,rfl⟩:=List.mem_iff_getElem.1 hr
       have e:brF g c = -1:=by
        rcases Yl g.rules.length (fun i=>brk g (g.rules.getD i rulZ) c) with h3|h3
        ·exact h3
        ·exact absurd h3.1 hc
       have:=XU e hi
       rwa [Z6 hi] at this
      have hs:Zg g.syms.length (symB g) = -1∧Zg g.rules.length (rulB g) = -1:=by
       unfold sfI at k2
       rcases Yl g.syms.length (symB g) with h3|h3
       ·rw[h3] at k2
        simp only[show ¬(0:Int) ≤ -1 by omega,if_false] at k2
        rcases Yl g.rules.length (rulB g) with h4|h4
        ·exact ⟨h3,h4⟩
        ·exact absurd h4.1 k2
       ·rw[if_pos h3.1] at k2;exact absurd h3.1 k2
      refine ⟨fun r hr=>⟨?_,hb 3 k4 r hr,hb 4 k5 r hr⟩,fun s hs'=> ?_,by simpa using k3,Classical.not_not.1 k1⟩
      ·obtain ⟨i,hi,rfl⟩:=List.mem_iff_getElem.1 hr
       have:=XU hs.2 hi
       unfold rulB at this
       rw[Z6 hi,Bool.or_eq_false_iff] at this
       simpa using this.1
      ·obtain ⟨i,hi,rfl⟩:=List.mem_iff_getElem.1 hs'
       have:=XU hs.1 hi
       unfold symB at this
       rw[Z6 hi,Bool.or_eq_false_iff] at this
       simpa using this.1
theorem acc_em {g:Gram} (h:accG g=true):∀i,i<g.syms.length→0<(YA g).getD i 0:=by
 have h1:=accG_ty h
 have h:(chkG g).1 = 0:=by simpa[accG] using h
 unfold chkG at h
 rw[if_neg (by simpa using h1.1),if_neg h1.2] at h
 intro i hi
 have h2:emF g = -1:=by
  rcases Yl g.syms.length (fun i=>decide ((YA g).getD i 0=0)) with h3|h3
  ·exact h3
  ·unfold emF at h
   rw[if_pos h3.1] at h;simp at h
 have h3:=XU h2 hi
 simp only[decide_eq_false_iff_not] at h3
 have h4:(YA g).getD i 0∈YA g:=by
  rw[Z6 (by rw[YA,hIt_len];exact hi)];exact List.getElem_mem _
 have:=hIt_nn g _ _ h4
 omega
theorem minH_pos {g:Gram} (h:accG g=true) {n:ByteArray} (hn:hSym g.syms n=true):0<minH g n:=by
 unfold minH hOf
 have h1:0≤Zt (fun s:Sym=>decide (s.name=n)) g.syms:=by
  have:=any_ix (fun s:Sym=>decide (s.name=n)) g.syms
  unfold hSym at hn
  rw[List.find?_isSome] at hn
  have h2:g.syms.any (fun s=>decide (s.name=n))=true:=List.any_eq_true.2 hn
  rw[h2] at this
  simpa using this
 rw[if_neg oT]
 refine acc_em h _ ?_
 rcases X1 (fun s:Sym=>decide (s.name=n)) g.syms with h2|h2<;>omega
theorem types_law {g:Gram} (h:accG g=true) {r:Rul} (hr:r∈g.rules):(∀q∈r.eqs,tyE g r q.expr=(YE (Zy g.syms (Zw r q.pos)).atts q.name).type)∧0<minH g r.left:=by
 obtain ⟨h1,_,_,_⟩:=acc_shp h
 obtain ⟨h2,h3,h4⟩:=h1 r hr
 refine ⟨fun q hq=> ?_,minH_pos h ?_⟩
 ·have h5:=accG_mis h r hr
  unfold misT at h5
  rw[Bool.or_eq_false_iff] at h5
  have h6:=List.any_eq_false.1 h5.1 q hq
  simp only[Bool.not_eq_true',decide_eq_false_iff_not,Classical.not_not] at h6
  rw[h6]
  simp only[rulV,Bool.and_eq_true] at h2
  have h7:=List.all_eq_true.1 h2.2.2.2.2.2.1 q hq
  simp only[eqnV,Bool.and_eq_true,decide_eq_true_eq] at h7
  rw[Zk,if_pos h7.2.2]
 ·unfold unkR at h3
  have h5:=List.all_eq_true.1 (by simpa using h3:((List.range (r.right.length+1)).all fun pos=>hSym g.syms (Zw r pos))=true) 0 (by simp)
  simpa[Zw] using h5
theorem static_law {g:Gram} (h:staS g=true):(∀r∈g.rules,r.cons=[]∧∀q∈r.eqs,nrE q.expr=true)∧accG g=true:=by
 simp only[staS,Bool.and_eq_true,Bool.not_eq_true'] at h
 obtain ⟨h1,h2,h3⟩:=h
 refine ⟨fun r hr=>⟨no_cons h3 h1 r hr,fun q hq=> ?_⟩,h3⟩
 have h4:=List.any_eq_false.1 h2 r hr
 unfold remQ at h4
 simp only[List.any_eq_true,not_exists,not_and,Bool.not_eq_true',Bool.not_eq_false] at h4
 exact h4 q hq
end Go.Gh
namespace Go.Gh
def upN (g:Gram) (t:List Nod) (j:Nat):Prop:=hRul g.rules (t.getD j ZK).rule = true∧(0≤(t.getD j ZK).parent ∧ (t.getD j ZK).parent < j)∧1≤(t.getD j ZK).place ∧
 (t.getD j ZK).place ≤ (Zx g.rules (t.getD (t.getD j ZK).parent.toNat ZK).rule).right.length ∧ (Zx g.rules (t.getD (t.getD j ZK).parent.toNat ZK).rule).right.getD ((t.getD j ZK).place - 1).toNat noS=(Zx g.rules (t.getD j ZK).rule).left
theorem walkE_fit2 {g:Gram} {t:List Nod} {f i:Nat} {p q:Int} {s:ByteArray} (h:0≤ZJ g t f i p q s):i<t.length∧fitV g (t.getD i ZK) p q s=true:=by
 cases f with
 | zero=>simp[ZJ] at h
 | succ f=>
  simp only[ZJ] at h
  split at h
  ·rename_i hi
   split at h
   ·rename_i hf
    exact ⟨hi,hf⟩
   ·omega
  ·omega
theorem walkE_up {g:Gram} {t:List Nod}:∀(f i:Nat) (p q:Int) (s:ByteArray),0≤ZJ g t f i p q s→∀j:Nat,i<j→(j:Int)<ZJ g t f i p q s→upN g t j
 | 0,i,p,q,s,h,j,h1,h2=>by simp[ZJ] at h
 | f+1,i,p,q,s,h,j,h1,h2=>by
  simp only[ZJ] at h h2
  split at h
  ·rename_i hi
   rw[if_pos hi] at h2
   split at h
   ·rename_i hf
    rw[if_pos hf] at h2
    have key:∀(cs:List Int) (k:Nat) (a:Int),(i:Int)<a→0≤Zu (ZJ g t f) i cs ((Zx g.rules (t.getD i ZK).rule).right.drop k) k a→∀j:Nat,a≤j→(j:Int)<Zu (ZJ g t f) i cs ((Zx g.rules (t.getD i ZK).rule).right.drop k) k a→upN g t j:=by
     intro cs
     induction cs with
     | nil=>intro k a ha h j h1 h2;simp only[Zu] at h2;omega
     | cons c cs ih=>
      intro k a ha h j h1 h2
      rcases Nat.lt_or_ge k (Zx g.rules (t.getD i ZK).rule).right.length with hk|hk
      ·rw[List.drop_eq_getElem_cons hk] at h h2
       simp only[Zu] at h h2
       split at h
       ·omega
       rename_i g1
       rw[if_neg g1] at h2
       split at h
       ·omega
       rename_i g2
       rw[if_neg g2] at h2
       have hw:0≤ZJ g t f a.toNat i ((k:Int)+1) (Zx g.rules (t.getD i ZK).rule).right[k]:=by omega
       have h3:=Yv f a.toNat i _ _ hw
       by_cases hj:(j:Int)<ZJ g t f a.toNat i ((k:Int)+1) (Zx g.rules (t.getD i ZK).rule).right[k]
       ·by_cases e:j=a.toNat
        ·obtain ⟨_,h5⟩:=walkE_fit2 hw
         obtain ⟨m1,m2,m3,m4,_⟩:=Yn.1 h5
         rw[←e] at m1 m2 m3 m4
         refine ⟨m1,oT,oT,?_,?_⟩
         ·rw[m3,Int.toNat_natCast];omega
         ·rw[m3,m4,Int.toNat_natCast,m2,show ((k:Int)+1-1).toNat = k by omega,Z6 hk]
        ·exact walkE_up f a.toNat i _ _ hw j oT hj
       ·exact ih (k+1) _ oT h j oT h2
      ·rw[List.drop_eq_nil_of_le hk] at h2
       simp only[Zu] at h2;omega
    exact key _ 0 ((i:Int)+1) oT (by simpa using h) j oT (by simpa using h2)
   ·omega
  ·omega
theorem tree_up {g:Gram} {t:List Nod} {s:ByteArray} (h:Zs g t s=true):(fitV g (t.getD 0 ZK) (-1) 0 s=true)∧∀j,0<j→j<t.length→upN g t j:=by
 simp only[Zs,Bool.and_eq_true,decide_eq_true_eq] at h
 obtain ⟨h1,_,h2⟩:=h
 have h3:0≤ZJ g t t.length 0 (-1) 0 s:=by omega
 exact ⟨(walkE_fit2 h3).2,fun j hj hjl=>walkE_up _ _ _ _ _ h3 j hj oT⟩
theorem hRul_mem {l:List Rul} {n:ByteArray} (h:hRul l n=true):Zx l n∈l:=by
 unfold hRul at h;unfold Zx
 cases e:l.find? fun s=>decide (s.name=n) with
 | none=>rw[e] at h;cases h
 | some r=>exact List.mem_of_find?_eq_some e
theorem hAtt_mem {l:List Att} {n:ByteArray} (h:hAtt l n=true):YE l n∈l∧(YE l n).name = n:=by
 unfold hAtt at h;unfold YE
 cases e:l.find? fun s=>decide (s.name=n) with
 | none=>rw[e] at h;cases h
 | some r=>exact ⟨List.mem_of_find?_eq_some e,by simpa using List.find?_some e⟩
end Go.Gh
namespace Go.Gh
theorem ordT_mem {T:List (List Int)}:∀(f:Nat) (out L:List Int),ordT T f out=some L→(∀k∈out,0≤k∧k<(T.length:Int))→∀k∈L,0≤k∧k<(T.length:Int)
 | 0,out,L,h,ho=>by
  simp only[ordT,Option.some.injEq] at h
  subst h
  exact ho
 | f+1,out,L,h,ho=>by
  simp only[ordT] at h
  split at h
  ·rename_i hf
   refine ordT_mem f _ _ h fun k hk=> ?_
   rcases List.mem_append.1 hk with hk|hk
   ·exact ho k hk
   ·have e:k=Zg T.length (rdyT T out):=by simpa using hk
    rcases Yl T.length (rdyT T out) with h1|h1
    ·omega
    ·rw[e];exact h1
  ·cases h
theorem ordL_mem (T:List (List Int)):∀k∈YM T,0≤k∧k<(T.length:Int):=by
 unfold YM
 cases h:ordT T T.length [] with
 | none=>simp
 | some L=>exact ordT_mem _ _ _ h (by simp)
def runV (g:Gram) (t:List Nod) (L:List Oc) (O:List Int):Nat→List Int
 | 0=>List.replicate L.length 0
 | k+1=>(runV g t L O k).set (O.getD k 0).toNat (vaX g t L (runV g t L O k) (L.getD (O.getD k 0).toNat (0,noS)))
theorem runV_len (g:Gram) (t:List Nod) (L:List Oc) (O:List Int):∀k,(runV g t L O k).length = L.length
 | 0=>by simp[runV]
 | k+1=>by simp only[runV,List.length_set];exact runV_len g t L O k
def runB (g:Gram) (t:List Nod):Bool:=staS g&&(Zs g t (Zr g t 0)&&ordB (Zv g t))
def runL (g:Gram) (t:List Nod):List Int:=if runB g t=true then runV g t (ZO g t) (YM (Zv g t)) (YM (Zv g t)).length else []
theorem runV_s {g:Gram} {t:List Nod} {L:List Oc} {O:List Int} {k j:Nat} (h:k<O.length) (hj:O[k]=j) (hjl:j<L.length):runV g t L O (k+1)=(runV g t L O k).set j (vaX g t L (runV g t L O k) L[j]):=by
 simp only[runV,Z6 h,hj,Int.toNat_natCast,Z6 hjl]
theorem insL_no {g:Gram} {t:List Nod} (h:Zs g t (Zr g t 0)=false):ZO g t=[]:=by
 unfold ZO
 rw[if_neg (by rw[h];simp)]
end Go.Gh
