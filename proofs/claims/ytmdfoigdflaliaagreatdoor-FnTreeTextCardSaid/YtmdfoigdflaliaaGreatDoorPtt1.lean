/- The tied card of the law holds. No condition. -/
import Derived.Test.YtmdfoigdflaliaaGreatDoorLibT3
import Derived.Lib.ItoaNum
import Derived.Lib.LaidTab
import Derived.Sort.Grow
import Derived.Shelf.Strconv.Itoa3
import Derived.Deep.Draws
import Derived.LaidMore
import Derived.OpenShut
import Derived.Stop.Joined
import Derived.SevenTiedAt
import Derived.Shelf.SlSortCmp.NoneTotal
import Derived.Laws.Cover1
import Derived.Deep.RegionHeld3
import Derived.Shelf.SlGeneric
import Derived.Lib.CutLaws
import Derived.Shelf.Strconv.AtoiAll
import Derived.Lib.Bytealg
import Derived.Shelf.Small.Strs
import Derived.Shelf.Strings.OnBuilder
import Derived.Lib.Split
import Derived.Lib.SplitLaws
import Derived.Shelf.Strings.Cut
import Derived.Shelf.Strings.Split
import Derived.Shelf.Strings.Prefix
import Derived.Lib.AtoiAllCases
import Derived.HandedShaped
import Derived.Shelf.Vars
import Derived.Lay
set_option maxHeartbeats 40000000
set_option maxRecDepth 20000
set_option linter.unusedSimpArgs false
set_option linter.unusedVariables false

namespace Go.Gh
abbrev T (s:ByteArray):GV:= .val (.string s)
theorem chars_inj {s t:ByteArray}:Z6 s=Z6 t↔s=t:=by
 constructor
 ·intro h;obtain ⟨a⟩:=s;obtain ⟨b⟩:=t;simp only[Z6] at h;congr 1;exact Array.ext' h
 ·rintro rfl;rfl
@[ext] structure Nod where
 id:Int
 parent:Int
 place:Int
 lit:Int
 rule:ByteArray
 kids:List Int
deriving DecidableEq
abbrev Nd (x:Nod):GV:= .agg [I x.id,I x.parent,I x.place,I x.lit,T x.rule,IS x.kids]
abbrev NdS (l:List Nod):GV:= .sl 6 (l.map Nd)
@[ext] structure Slo where
 pos:Int
 name:ByteArray
 val:Int
deriving DecidableEq
abbrev Occ (x:Int×ByteArray):GV:= .agg [I x.1,T x.2]
abbrev Tr (l:List Nod):GV:= .agg [NdS l]
theorem e_nil (e:Env):subE e []=True:=(rfl)
theorem e_cons (e:Env) (j:Nat) (g:GV) (r:Env):subE e ((j,g)::r)=(ZQ e j=some g∧subE e r):=(rfl)
theorem n_val (v:Value):nraw (.val v)=true:=(rfl)
theorem n_sl (sz:Nat) (es:List GV):nraw (.sl sz es)=true:=(rfl)
theorem n_agg (cs:List GV):nraw (.agg cs)=true:=(rfl)
theorem n_rop (sz:Nat) (g:GV):nraw (.rop sz g)=true:=(rfl)
theorem n_ptr (r sz i o:Nat):nraw (.ptr r sz i o)=true:=(rfl)
theorem n_own (r sz k n:Nat):nraw (.own r sz k n)=true:=(rfl)
theorem n_clo (f:Nat) (cs:List GV):nraw (.clo f cs)=true:=(rfl)
theorem n_tup (cs:List GV):nraw (.tup cs)=true:=(rfl)
theorem E2:type_of% (And.intro @e_nil (And.intro @e_cons (And.intro @n_val (And.intro @n_sl (And.intro @n_agg (And.intro @n_rop (And.intro @n_ptr (And.intro @n_own (And.intro @n_clo (And.intro @n_tup (And.intro @x_get @Option.some.injEq.{0}))))))))))):=
 And.intro @e_nil (And.intro @e_cons (And.intro @n_val (And.intro @n_sl (And.intro @n_agg (And.intro @n_rop (And.intro @n_ptr (And.intro @n_own (And.intro @n_clo (And.intro @n_tup (And.intro @x_get @Option.some.injEq.{0}))))))))))
theorem ZM:Zi=9223372036854775807:=(rfl)
theorem Z2:type_of% (And.intro @Int.ofNat_lt (And.intro @Int.natCast_nonneg (And.intro @true_and (And.intro @u_ext (And.intro @exists_prop_of_true (And.intro @Int.natCast_zero (And.intro @chars_inj (And.intro @Int.natCast_inj (And.intro ZM (And.intro @not_true_eq_false (And.intro @false_implies (And.intro @true_implies (And.intro @and_true (And.intro @implies_true.{0} @wrap64)))))))))))))):=
 And.intro @Int.ofNat_lt (And.intro @Int.natCast_nonneg (And.intro @true_and (And.intro @u_ext (And.intro @exists_prop_of_true (And.intro @Int.natCast_zero (And.intro @chars_inj (And.intro @Int.natCast_inj (And.intro ZM (And.intro @not_true_eq_false (And.intro @false_implies (And.intro @true_implies (And.intro @and_true (And.intro @implies_true.{0} @wrap64)))))))))))))
theorem lenOk_map {α:Type} {f:α→GV} {l:List α} (h:LenOkL (l.map f)):∀x∈l,LenOk (f x):=fun x hx=>h.all _ (List.mem_map.2 ⟨x,hx,rfl⟩)
theorem lenTr {l:List Nod} (h:LenOk (Tr l)):l.length≤9223372036854775807∧∀x∈l,x.kids.length≤9223372036854775807:=by
 simp only[LenOk,LenOkL,List.length_map,Zi] at h
 refine ⟨h.1.1,fun x hx=> ?_⟩
 have:=lenOk_map h.1.2 x hx
 simp only[LenOk,LenOkL,List.length_map,Zi] at this
 exact this.2.2.2.2.2.1.1
end Go.Gh
namespace Go.Gh
def YD (hs:List Int) (k:Nat) (m:Int) (c:Int):Int:=if (k:Int)<c∧c<k+1+hs.length then max m (hs.getD (c-k-1).toNat 0) else m
def kidMax (hs:List Int) (k:Nat) (kids:List Int):Int:=kids.foldl (YD hs k) 0
def hts:Nat→List Nod→List Int
 | _,[]=>[]
 | k,x::r=>(kidMax (hts (k+1) r) k x.kids+1)::hts (k+1) r
theorem hts_len:∀(k:Nat) (l:List Nod),(hts k l).length = l.length
 | _,[]=>rfl
 | k,x::r=>by simp[hts,hts_len (k+1) r]
theorem kidStep_le {hs:List Int} {k:Nat} {m c b:Int} (hm:0≤m∧m≤b) (hh:∀h∈hs,0≤h∧h≤b):0≤YD hs k m c∧YD hs k m c≤b:=by
 simp only[YD]
 split
 ·rename_i hc
  have hi:(c-k-1).toNat < hs.length:=by omega
  rw[List.getD_eq_getElem?_getD,List.getElem?_eq_getElem hi]
  have:=hh _ (List.getElem_mem hi)
  simp only[Option.getD_some]
  omega
 ·exact hm
theorem kidFold_le {hs:List Int} {k:Nat} {b:Int} (hh:∀h∈hs,0≤h∧h≤b):∀(kids:List Int) (m:Int),0≤m∧m≤b→0≤kids.foldl (YD hs k) m∧kids.foldl (YD hs k) m≤b
 | [],m,h=>h
 | c::cs,m,h=>kidFold_le hh cs _ (kidStep_le h hh)
theorem hts_le:∀(k:Nat) (l:List Nod),∀h∈hts k l,0≤h∧h≤l.length
 | _,[],h,hm=>by simp[hts] at hm
 | k,x::r,h,hm=>by
  have ih:=hts_le (k+1) r
  simp only[hts,List.mem_cons] at hm
  rcases hm with rfl|hm
  ·have:=kidFold_le (k:=k) ih x.kids 0 (by omega)
   simp only[kidMax,List.length_cons]
   omega
  ·have:=ih h hm
   simp only[List.length_cons]
   omega
def treeHt (t:List Nod) (i:Int):Int:=if 0≤i∧i<t.length then (hts i.toNat (t.drop i.toNat)).headD 0 else 0
end Go.Gh
namespace Go.Gh
def arr (k:Nat) (m:Int) (hs:List Int):List Int:=List.replicate k 0++m::hs
theorem arr_len (k:Nat) (m:Int) (hs:List Int):(arr k m hs).length = k+1+hs.length:=by simp[arr];omega
theorem arr_get (k:Nat) (m:Int) (hs:List Int) (h:k<(arr k m hs).length):(arr k m hs)[k]=m:=by
 simp only[arr]
 rw[List.getElem_append_right (by simp)]
 simp
theorem arr_get2 {k:Nat} {m:Int} {hs:List Int} {c:Int} (h1:(k:Int)<c) (h2:c<k+1+hs.length) (h:c.toNat<(arr k m hs).length):(arr k m hs)[c.toNat]=hs.getD (c-k-1).toNat 0:=by
 have hi:(c-k-1).toNat < hs.length:=by omega
 have e:c.toNat=k+1+(c-k-1).toNat := by omega
 simp only[arr]
 rw[List.getElem_append_right (by simp;omega),List.getD_eq_getElem?_getD,List.getElem?_eq_getElem hi]
 simp only[List.length_replicate,Option.getD_some]
 have e2:c.toNat-k=(c-k-1).toNat + 1:=by omega
 simp only[e2,List.getElem_cons_succ]
theorem arr_set (k:Nat) (m v:Int) (hs:List Int):(arr k m hs).set k v=arr k v hs:=by
 simp only[arr]
 rw[List.set_append_right _ _ (by simp)]
 simp
theorem arr_step (k:Nat) (hs:List Int):List.replicate (k+1) 0++hs=arr k 0 hs:=by
 simp only[arr,List.replicate_succ']
 simp
theorem take_foldl {α β:Type} (f:β→α→β) (b:β) (l:List α) (j:Nat) (h:j<l.length):(l.take (j+1)).foldl f b=f ((l.take j).foldl f b) l[j]:=by
 rw[List.take_add_one,List.getElem?_eq_getElem h,List.foldl_append]
 rfl
theorem hts_drop {t:List Nod} {k:Nat} (h:k<t.length):hts k (t.drop k)=(kidMax (hts (k+1) (t.drop (k+1))) k t[k].kids + 1)::hts (k+1) (t.drop (k+1)):=by
 rw[List.drop_eq_getElem_cons h,hts]
theorem sum_mem {α:Type} (f:α→Nat):∀(l:List α) (x:α),x∈l→f x≤(l.map f).sum
 | y::l,x,h=>by
  simp only[List.map_cons,List.sum_cons]
  rcases List.mem_cons.1 h with rfl|h
  ·omega
  ·have:=sum_mem f l x h;omega
theorem take_eq_step {α:Type} {xs ys:List α} {i:Nat} (hp:xs.take i=ys.take i) (h1:i<xs.length) (h2:i<ys.length) (h:xs[i]=ys[i]):xs.take (i+1)=ys.take (i+1):=by
 rw[List.take_add_one,List.take_add_one,hp,List.getElem?_eq_getElem h1,List.getElem?_eq_getElem h2,h]
theorem bEq {p q:Prop} [Decidable p] [Decidable q] (h:p↔q):B (decide p)=B (decide q):=by
 have:decide p=decide q:=by by_cases hp:p<;>simp[hp,←h]
 rw[this]
theorem exP {p:Prop} {q:p→Prop} (h:p) (hq:q h):∃h,q h:=⟨h,hq⟩
theorem headD_eq {l:List Int} (h:0<l.length):l.headD 0=l[0]:=by cases l with
 | nil=>simp at h
 | cons x l=>rfl
theorem kidStep_in {hs:List Int} {k:Nat} {m c:Int} (h1:(k:Int)<c) (h2:c<k+1+hs.length):YD hs k m c=max m (hs.getD (c-k-1).toNat 0):=by rw[YD,if_pos ⟨h1,h2⟩]
theorem kidStep_out {hs:List Int} {k:Nat} {m c:Int} (h:¬((k:Int)<c∧c<k+1+hs.length)):YD hs k m c=m:=by rw[YD,if_neg h]
theorem getD_le {hs:List Int} {b:Int} (hh:∀h∈hs,0≤h∧h≤b) (hb:0≤b) (i:Nat):0≤hs.getD i 0∧hs.getD i 0≤b:=by
 rw[List.getD_eq_getElem?_getD]
 rcases Nat.lt_or_ge i hs.length with h|h
 ·rw[List.getElem?_eq_getElem h];exact hh _ (List.getElem_mem h)
 ·rw[List.getElem?_eq_none h];exact ⟨Int.le_refl 0,hb⟩
def all2 {α:Type} (p:α→α→Bool) (xs ys:List α):Bool:=decide (xs.length=ys.length)&&(xs.zip ys).all fun z=>p z.1 z.2
theorem all2_len {α:Type} {p:α→α→Bool} {xs ys:List α} (h:¬xs.length=ys.length):all2 p xs ys=false:=by simp[all2,h]
theorem all2_no {α:Type} {p:α→α→Bool} {xs ys:List α} {i:Nat} (h1:i<xs.length) (h2:i<ys.length) (h:p xs[i] ys[i]=false):all2 p xs ys=false:=by
 have:(xs.zip ys).all (fun z=>p z.1 z.2)=false:=by
  rw[List.all_eq_false]
  refine ⟨(xs[i],ys[i]),?_,by simpa using h⟩
  have h3:i<(xs.zip ys).length := by simp;omega
  have:=List.getElem_mem h3
  rwa [List.getElem_zip] at this
 simp[all2,this]
theorem all2_yes {α:Type} {p:α→α→Bool} {xs ys:List α} (hl:xs.length=ys.length) (h:∀j (h1:j<xs.length) (h2:j<ys.length),p xs[j] ys[j]=true):all2 p xs ys=true:=by
 simp only[all2,hl,decide_true,Bool.true_and,List.all_eq_true]
 intro z hz
 obtain ⟨j,hj,rfl⟩:=List.getElem_of_mem hz
 rw[List.getElem_zip]
 simp at hj
 exact h j (by omega) (by omega)
theorem all2_step {α:Type} {p:α→α→Bool} {xs ys:List α} {i:Nat} {h1:i<xs.length} {h2:i<ys.length} (h:p xs[i] ys[i]=true) (hn:∀j (h1:j<xs.length) (h2:j<ys.length),j<i→p xs[j] ys[j]=true) :
 ∀j (h1:j<xs.length) (h2:j<ys.length),j<i+1→p xs[j] ys[j]=true:=by
 intro j k1 k2 hj
 rcases Nat.lt_or_ge j i with h3|h3
 ·exact hn j k1 k2 h3
 ·have:j=i:=by omega
  subst this;exact h
def sameNd (ids:Bool) (x y:Nod):Bool:=(!ids || decide (x.id=y.id))&&decide (x.parent=y.parent)&&decide (x.place=y.place)&&decide (x.lit=y.lit)&&decide (x.rule=y.rule)&&decide (x.kids=y.kids)
theorem find_hit {α:Type} {p:α→Bool}:∀{xs:List α} {i:Nat} (h:i<xs.length),p xs[i]=true→(∀a∈xs.take i,p a=false)→xs.find? p=some xs[i]
 | x::xs,0,_,hp,_ => by simp at hp;simp[hp]
 | x::xs,i+1,h,hp,hn=>by
  have h1:p x=false:=hn x (by simp)
  simp only[List.find?_cons,h1]
  simpa using find_hit (p:=p) (xs:=xs) (i:=i) (by simpa using h) (by simpa using hp) (fun a ha=>hn a (by simp[ha]))
theorem find_none {α:Type} {p:α→Bool} {xs:List α} (hn:∀a∈xs,p a=false):xs.find? p=none:=by
 rw[List.find?_eq_none];intro x hx;simp[hn x hx]
end Go.Gh
namespace Go.Gh
section
variable {P:Program} {α:Type} {f:α→GV} {k kx sz:Nat} {det ag:Bool}
end
end Go.Gh
namespace Go.Gh
theorem t_one {t:Ty} {g:GV} (h:ET false [t] g):CT t g:=by
 obtain ⟨gs,k1,k2⟩:=h
 simp only[CTs] at k1
 obtain ⟨g,gs',rfl,hg,rfl⟩:=k1
 simp at k2
 rw[←k2];exact hg
end Go.Gh
namespace Go.Gh
theorem ZT (P:Program) (c:Prop) [Decidable c] (g:GV) (d:Option Nat) (is:List GI) (K:Env→GH→Prop) (env:Env) (H:GH):valS P (if c then some g else none) d is K env H=(c∧Z4 P is K (gput env d g) H):=by
 by_cases h:c<;>simp[h,valS]
theorem nxF {ι:Type} {E:ι→Env} {G:ι→GH} {μ:ι→Nat} {i:ι} {e e':Env} {H H':GH} (j:ι) (hm:μ j<μ i) (hf:FE e H e' H') (h:subE e' (E j)) (hh:H'=G j):Nx E G μ i e H:=by
 subst hh
 exact ⟨j,FE.trans hf (FE.of h),hm⟩
theorem Zd {P:Program} {cf:Cfg} (mxd:P.follows .mixedOrders = true) {ι:Type} {x:GC} {Q:Exit→Env→GH→Prop} {env env':Env} {H H':GH} (E:ι→Env) (G:ι→GH) (μ:ι→Nat) (i0:ι) (hf:FE env H env' H') (h0:subE env' (E i0)) (hh:H'=G i0)
 (round:∀i,(names (G i)).Nodup → GW P cf x (thenG (Nx E G μ i) Q) (E i) (G i)):GW P cf (.loop x) Q env H:=by
 subst hh
 exact GW.loop E G μ i0 (FE.trans hf (FE.of h0)) fun i=>GW.names fun hn=>round i hn
abbrev NdO (x:Nod):GV:= .agg [I x.id,I x.parent,I x.place,I x.lit,T x.rule,.osl 1 (x.kids.map I)]
theorem view_NdO (t:List Nod):(t.map NdO).map view=t.map Nd:=by
 induction t with
 | nil=>rfl
 | cons x t ih=>
  simp only[List.map_cons,ih,List.cons.injEq,and_true]
  simp[view,Zl,Zv]
theorem bor_IS {H:GH} {r n:Nat} {l:List Int} (hr:ZW H r=some (1,l.map I)) (hn:l.length=n):Bor H (.own r 1 0 n) (IS l):= .all hr (by simp[hn]) (by simp[view])
theorem FE.close2 {env:Env} {H:GH} {r r1 sz sz1 i j n:Nat} {L gs ks:List GV} (hne:r1≠r) (hi:i<L.length) (hg:gs[j]? = some (.own r1 sz1 0 n)) (hn:ks.length=n) :
 FE env ((r1,sz1,ks)::(r,sz,L.set i (.agg gs))::H) env ((r,sz,L.set i (.agg (gs.set j (.osl sz1 ks))))::H):=by
 have:=FE.close (env:=env) (H:=(r1,sz1,ks)::(r,sz,L.set i (.agg gs))::H) (r:=r) (r1:=r1) (Ne.symm hne) (by rw[hget_old hne,ZX]) (List.getElem?_set_self hi) hg ZX hn
 rwa [hset_old hne,YR,hdel_new,List.set_set] at this
theorem FE.swap {env:Env} {H:GH} {x y:Nat×Nat×List GV}:FE env (x::y::H) env (y::x::H):=by
 intro w0 D0 O0 N a w ⟨hdf,hsz,D,Ω,ρw,hi⟩
 obtain ⟨r1,sz1,es1⟩:=x
 obtain ⟨r2,sz2,es2⟩:=y
 obtain ⟨F1,G1,e1,h1,F2,F3,e2,h2,h3⟩:=hi.st.hm
 have hp:∀x,(F2++(F1++F3)).count x=Ω.count x:=by
  intro x;rw[e1,e2];simp only[List.count_append];omega
 have hmem:∀x∈F2++(F1++F3),x∈Ω:=fun x hx=>by
  have:=List.count_pos_iff.2 hx
  exact List.count_pos_iff.1 (by rw[←hp];exact this)
 refine ⟨hdf,hsz,D,F2++(F1++F3),ρw,hi.st' ⟨⟨F2,_,rfl,h2,F1,F3,rfl,h1,h3⟩,?_,?_,fun x hx=>hi.st.dj x (hmem x hx),hi.st.ds⟩ hmem⟩
 ·rw[List.nodup_iff_count]
  intro x
  rw[hp]
  exact List.nodup_iff_count.1 hi.st.nd x
 ·have:=hi.st.nn
  simp only[names,List.map_cons,List.nodup_cons,List.mem_cons,not_or] at this ⊢
  exact ⟨⟨fun e=>this.1.1 e.symm,this.2.1⟩,this.1.2,this.2.2⟩
theorem callS.borA {P:Program} {K:Env→GH→Prop} {is:List GI} {env:Env} {H:GH} {d:Option Nat} {det:Bool} {f:FuncId} {gs gs':List GV} {G:GV} (h:Pure P f gs' (· = G)) (hb:BorL H gs gs') (hs:scal G=true) (hk:Z4 P is K (gput env d G) H):callS P det f (some gs) d is K env H:=by
 cases det
 ·exact callS.bor h hb hs hk
 ·exact ⟨G,h.borrow hb (fun _ e=>by rw[e];exact hs),hk⟩
end Go.Gh
namespace Go.Gh
inductive Exp where
 | mk (kind n pos type:Int) (sym name:ByteArray) (args:List Exp)
def Exp.kind:Exp→Int | .mk k _ _ _ _ _ _ => k
def Exp.n:Exp→Int | .mk _ n _ _ _ _ _ => n
def Exp.pos:Exp→Int | .mk _ _ p _ _ _ _ => p
def Exp.type:Exp→Int | .mk _ _ _ t _ _ _ => t
def Exp.sym:Exp→ByteArray | .mk _ _ _ _ s _ _ => s
def Exp.name:Exp→ByteArray | .mk _ _ _ _ _ m _ => m
def Exp.args:Exp→List Exp | .mk _ _ _ _ _ _ a=>a
mutual
def Ex:Exp→GV
 | .mk k n p t s m a=> .agg [I k,I n,I p,I t,T s,T m,.sl 7 (ExL a)]
def ExL:List Exp→List GV
 | []=>[]
 | e::l=>Ex e::ExL l
end
theorem ExL_eq (l:List Exp):ExL l=l.map Ex:=by
 induction l with
 | nil=>rfl
 | cons e l ih=>simp[ExL,ih]
abbrev ExS (l:List Exp):GV:= .sl 7 (l.map Ex)
theorem Y2 (e:Exp):Ex e = .agg [I e.kind,I e.n,I e.pos,I e.type,T e.sym,T e.name,ExS e.args]:=by
 cases e;simp only[Ex,ExL_eq];rfl
mutual
theorem Exp.indA {p:Exp→Prop} (h:∀e,(∀a∈e.args,p a)→p e):∀e,p e
 | .mk k n q t s m a=>h _ (Exp.indL h a)
theorem Exp.indL {p:Exp→Prop} (h:∀e,(∀a∈e.args,p a)→p e):∀(l:List Exp),∀a∈l,p a
 | [],a,hm=>by cases hm
 | e::l,a,hm=>by
  have he:p e:=Exp.indA h e
  have hl:=Exp.indL h l
  rcases List.mem_cons.1 hm with rfl|hm
  ·exact he
  ·exact hl a hm
end
mutual
def wEx:Exp→Nat
 | .mk _ _ _ _ s m a=>(Z6 s).length + (Z6 m).length + (a.length+wExL a)
def wExL:List Exp→Nat
 | []=>0
 | e::l=>wEx e+wExL l
end
theorem wExL_eq (l:List Exp):wExL l=(l.map wEx).sum := by
 induction l with
 | nil=>rfl
 | cons e l ih=>simp[wExL,ih]
theorem wEx_eq (e:Exp):wEx e=(Z6 e.sym).length + (Z6 e.name).length + wtS wEx e.args:=by
 cases e;simp only[wEx,wExL_eq,wtS];rfl
mutual
def okE:Exp→Prop
 | .mk _ _ _ _ s m a=>s.size≤maxLen∧m.size≤maxLen∧okEL a
def okEL:List Exp→Prop
 | []=>True
 | e::l=>okE e∧okEL l
end
theorem okEL_eq {l:List Exp}:okEL l↔∀a∈l,okE a:=by
 induction l with
 | nil=>simp[okEL]
 | cons e l ih=>simp[okEL,ih]
theorem okE_eq {e:Exp}:okE e↔e.sym.size≤maxLen∧e.name.size≤maxLen∧∀a∈e.args,okE a:=by
 cases e;simp only[okE,okEL_eq];rfl
mutual
instance decExp:(x y:Exp)→Decidable (x=y)
 | .mk k n p t s m a,.mk k' n' p' t' s' m' a'=>
  match decExpL a a' with
  | isTrue h=>decidable_of_iff (k=k'∧n=n'∧p=p'∧t=t'∧s=s'∧m=m') (by simp[h])
  | isFalse h=>isFalse (by simp[h])
instance decExpL:(x y:List Exp)→Decidable (x=y)
 | [],[]=>isTrue rfl
 | [],_ :: _ => isFalse (by simp)
 | _ :: _,[]=>isFalse (by simp)
 | e::l,e'::l'=>match decExp e e',decExpL l l' with
  | isTrue h,isTrue h'=>isTrue (by rw[h,h'])
  | isFalse h,_ => isFalse (by simp[h])
  | _,isFalse h=>isFalse (by simp[h])
end
theorem args_small {e:Exp} (h:wEx e≤1048576):e.args.length≤1048576∧∀a∈e.args,wEx a≤1048576:=by
 rw[wEx_eq] at h
 simp only[wtS] at h
 refine ⟨by omega,fun a ha=> ?_⟩
 have:=sum_mem wEx e.args a ha
 omega
theorem isAgg_Ex (e:Exp):isAgg (Ex e)=true:=by rw[Y2];rfl
theorem geR_Ex (e:Exp):geR (some (Ex e))=some (Ex e):=by rw[Y2];rfl
theorem gsize_Ex (e:Exp):gsize (Ex e)=7:=by rw[Y2];rfl
theorem stor_Ex (e:Exp):ZF (Ex e)=true:=by rw[Y2];rfl
theorem view_Ex (e:Exp):view (Ex e)=Ex e:=by rw[Y2];rfl
end Go.Gh
namespace Go.Gh
open Go.RowKit Go.ChangeShapes Go.WideShapes Go.Deep
end Go.Gh
namespace Go.Gh
end Go.Gh
namespace Go.Gh
def satV (n:Int):Int:=max (-1000000) (min 1000000 n)
def trV (b:Bool):Int:=if b then 1 else 0
def coV (v k:Int):Int:=if k=1 then satV v else if k=2 then andI .i64 v 4095 else if k=3 then trV (!decide (v=0)) else if k=4∧0≤v∧v≤999 then v else 0
def opT (op:Int):Int×Int×Int:=
 if 1≤op∧op≤5 then (1,1,1) else if 6≤op∧op≤8 then (2,2,2) else if op=9∨op=10 then (1,1,3) else if op=11 then (2,1,3) else if op=12 then (2,1,2) else (0,0,0)
abbrev opG (op:Int):GV:= .tup [I (opT op).1,I (opT op).2.1,I (opT op).2.2]
def okV (v k:Int):Bool:=decide (1≤k∧k≤4)&&decide (coV v k=v)
theorem opG0 {op:Int} (h:¬(1≤op∧op≤12)):opG op = .tup [I 0,I 0,I 0]:=by
 have:opT op=(0,0,0):=by
  unfold opT
  rw[if_neg (by omega),if_neg (by omega),if_neg (by omega),if_neg (by omega),if_neg (by omega)]
 simp only[opG,this]
end Go.Gh
namespace Go.Gh
mutual
def cntE:Exp→Nat
 | .mk _ _ _ _ _ _ a=>1+cntEL a
def cntEL:List Exp→Nat
 | []=>0
 | e::l=>cntE e+cntEL l
end
theorem cntEL_eq (l:List Exp):cntEL l=(l.map cntE).sum := by
 induction l with
 | nil=>rfl
 | cons e l ih=>simp[cntEL,ih]
theorem cntE_eq (e:Exp):cntE e=1+(e.args.map cntE).sum := by
 cases e;simp only[cntE,cntEL_eq];rfl
theorem cntE_le:∀e,cntE e≤wEx e+1:=by
 refine Exp.indA fun e ih=> ?_
 rw[cntE_eq,wEx_eq]
 have:∀l:List Exp,(∀a∈l,cntE a≤wEx a+1)→(l.map cntE).sum ≤ l.length+(l.map wEx).sum := by
  intro l
  induction l with
  | nil=>intro _;simp
  | cons a l ih=>
   intro h
   have h1:=h a (by simp)
   have h2:=ih fun b hb=>h b (by simp[hb])
   simp only[List.map_cons,List.sum_cons,List.length_cons];omega
 have:=this e.args ih
 simp only[wtS];omega
theorem sumT (f:Exp→Nat) (l:List Exp) (i:Nat) (h:i<l.length):((l.take (i+1)).map f).sum = ((l.take i).map f).sum + f l[i]:=psum_succ f l i h
theorem sumT_le (f:Exp→Nat) (l:List Exp) (i:Nat):((l.take i).map f).sum ≤ (l.map f).sum := psum_le f l i
def mxL:List Nat→Nat
 | []=>0
 | a::l=>max a (mxL l)
theorem mxL_app (l m:List Nat):mxL (l++m)=max (mxL l) (mxL m):=by
 induction l with
 | nil=>simp[mxL]
 | cons a l ih=>simp only[List.cons_append,mxL,ih];omega
theorem mxL_le (l:List Nat):mxL l≤l.sum:=by
 induction l with
 | nil=>simp[mxL]
 | cons a l ih=>simp only[mxL,List.sum_cons];omega
mutual
def dpE:Exp→Nat
 | .mk _ _ _ _ _ _ a=>1+dpEL a
def dpEL:List Exp→Nat
 | []=>0
 | e::l=>max (dpE e) (dpEL l)
end
theorem dpEL_eq (l:List Exp):dpEL l=mxL (l.map dpE):=by
 induction l with
 | nil=>rfl
 | cons e l ih=>simp[dpEL,mxL,ih]
theorem dpE_eq (e:Exp):dpE e=1+mxL (e.args.map dpE):=by
 cases e;simp only[dpE,dpEL_eq];rfl
theorem sumL_le {l:List Exp} {f g:Exp→Nat} (h:∀a∈l,f a≤g a):(l.map f).sum ≤ (l.map g).sum := by
 induction l with
 | nil=>simp
 | cons a l ih=>
  have h1:=h a (by simp)
  have h2:=ih fun b hb=>h b (by simp[hb])
  simp only[List.map_cons,List.sum_cons];omega
theorem dpE_le:∀e,dpE e≤cntE e:=by
 refine Exp.indA fun e ih=> ?_
 rw[cntE_eq,dpE_eq]
 have h1:=mxL_le (e.args.map dpE)
 have h2:=sumL_le ih
 omega
theorem mxT (f:Exp→Nat) (l:List Exp) (i:Nat) (h:i<l.length):mxL ((l.take (i+1)).map f)=max (mxL ((l.take i).map f)) (f l[i]):=by
 rw[List.take_succ_eq_append_getElem h,List.map_append,mxL_app];simp[mxL]
theorem mxT_le (f:Exp→Nat) (l:List Exp) (i:Nat):mxL ((l.take i).map f)≤(l.map f).sum :=
 Nat.le_trans (mxL_le _) (sumT_le f l i)
end Go.Gh
namespace Go.Gh
mutual
def allE (p:Exp→Bool):Exp→Bool
 | .mk k n q t s m a=>p (.mk k n q t s m a)&&allEL p a
def allEL (p:Exp→Bool):List Exp→Bool
 | []=>true
 | e::l=>allE p e&&allEL p l
end
theorem allEL_eq (p:Exp→Bool) (l:List Exp):allEL p l=l.all (allE p):=by
 induction l with
 | nil=>rfl
 | cons e l ih=>simp[allEL,ih]
theorem allE_eq (p:Exp→Bool) (e:Exp):allE p e=(p e&&e.args.all (allE p)):=by
 cases e;simp only[allE,allEL_eq];rfl
theorem any_ix {α:Type} (p:α→Bool) (l:List α):decide (0≤ixOf p l)=l.any p:=by
 unfold ixOf
 cases h:l.findIdx? p with
 | none=>
  have:=List.findIdx?_eq_none_iff.1 h
  simp;exact this
 | some i=>
  obtain ⟨h1,h2,_⟩:=List.findIdx?_eq_some_iff_getElem.1 h
  simp
  exact ⟨l[i],List.getElem_mem h1,h2⟩
theorem all_take {p:Exp→Bool} {l:List Exp} {i:Nat} (h:i<l.length) (hp:p l[i]=true) (hn:∀a∈l.take i,p a=true):∀a∈l.take (i+1),p a=true:=by
 intro a ha
 rw[List.take_add_one,List.getElem?_eq_getElem h,Option.toList_some,List.mem_append] at ha
 rcases ha with ha|ha
 ·exact hn a ha
 ·simp only[List.mem_singleton] at ha;rw[ha];exact hp
end Go.Gh
namespace Go.Gh
def YY (c:UInt8):Bool:=decide (97≤(c.toNat:Int))&&decide ((c.toNat:Int)≤122)
def Zr (c:UInt8):Bool:=decide (48≤(c.toNat:Int))&&decide ((c.toNat:Int)≤57)
def kwS:List ByteArray:=[⟨#[105,102]⟩,⟨#[116,104,101,110]⟩,⟨#[101,108,115,101]⟩,⟨#[116,114,117,101]⟩,⟨#[102,97,108,115,101]⟩,⟨#[108,105,116]⟩,⟨#[110,111,110,101]⟩,
 ⟨#[115,101,108,102]⟩,⟨#[111,102]⟩,⟨#[109,97,120]⟩,⟨#[109,105,110]⟩,⟨#[119,105,116,104]⟩,⟨#[104,97,115]⟩]
def hasS (l:List ByteArray) (s:ByteArray):Bool:=l.any fun x=>decide (x=s)
theorem hasS_hit {l:List ByteArray} {s:ByteArray} {i:Nat} (h:i<l.length) (e:l[i]=s):hasS l s=true:=by
 simp only[hasS,List.any_eq_true];exact ⟨l[i],List.getElem_mem h,by simp[e]⟩
theorem hasS_none {l:List ByteArray} {s:ByteArray} (h:∀x∈l,decide (x=s)=false):hasS l s=false:=by
 simp only[hasS,List.any_eq_false];intro x hx;simpa using h x hx
def resV (s:ByteArray):Bool:=hasS kwS s
def shp:List UInt8→Bool
 | []=>false
 | c::l=>YY c&&l.all fun c=>YY c||Zr c
theorem shp_iff (l:List UInt8):shp l=true↔0<l.length∧∀(j:Nat) (h:j<l.length),YY l[j]=true∨(j≠0∧Zr l[j]=true):=by
 cases l with
 | nil=>simp[shp]
 | cons c l=>
  simp only[shp,Bool.and_eq_true,List.all_eq_true,Bool.or_eq_true,List.length_cons]
  constructor
  ·rintro ⟨h1,h2⟩
   refine ⟨by omega,fun j hj=> ?_⟩
   cases j with
   | zero=>exact .inl h1
   | succ j=>
    have:=h2 l[j] (List.getElem_mem _)
    simp only[List.getElem_cons_succ]
    rcases this with h|h
    ·exact .inl h
    ·exact .inr ⟨by omega,h⟩
  ·rintro ⟨_,h⟩
   constructor
   ·have:=h 0 (by omega)
    simpa using this
   ·intro x hx
    obtain ⟨j,hj,rfl⟩:=List.mem_iff_getElem.1 hx
    have:=h (j+1) (by omega)
    simp only[List.getElem_cons_succ] at this
    rcases this with h|h
    ·exact .inl h
    ·exact .inr h.2
def ZA (s:ByteArray):Bool:=shp (Z6 s)&&decide ((Z6 s).length ≤ 8) && !resV s
end Go.Gh
namespace Go.Gh
theorem shp_bad {l:List UInt8} {i:Nat} (h:i<l.length) (h1:¬(YY l[i]=true∨(i≠0∧Zr l[i]=true))):shp l=false:=by
 cases hs:shp l with
 | false=>rfl
 | true=>exact absurd (((shp_iff l).1 hs).2 i h) h1
theorem shp_step {l:List UInt8} {i:Nat} (h:i<l.length) (hn:∀(j:Nat) (h:j<l.length),j<i→YY l[j]=true∨(j≠0∧Zr l[j]=true)) (hg:YY l[i]=true∨(i≠0∧Zr l[i]=true)) :
 ∀(j:Nat) (h:j<l.length),j<i+1→YY l[j]=true∨(j≠0∧Zr l[j]=true):=by
 intro j hj hji
 by_cases e:j=i
 ·subst e;exact hg
 ·exact hn j hj (by omega)
theorem shp_end {l:List UInt8} (hn:∀(j:Nat) (h:j<l.length),j<l.length→YY l[j]=true∨(j≠0∧Zr l[j]=true)):shp l=decide (0<l.length):=by
 by_cases h:0<l.length
 ·rw[decide_eq_true h];exact (shp_iff l).2 ⟨h,fun j hj=>hn j hj hj⟩
 ·rw[decide_eq_false h]
  cases l with
  | nil=>rfl
  | cons a l=>simp at h
end Go.Gh
namespace Go.Gh
def arity (k:Int):Nat:=if k=4 then 2 else if k=5 then 3 else if k=8 then 1 else 0
def noS:ByteArray:=⟨#[]⟩
def bareV (e:Exp):Bool:=
 decide (e.args.length=arity e.kind)&&(decide (e.kind=3∨e.kind=6)||decide (e.pos=0))&&(decide (e.kind=3∨e.kind=8)||decide (e.name=noS))&&(decide (e.kind=1∨e.kind=4)||decide (e.n=0)) &&
 (decide (e.kind=1)||decide (e.type=0))&&(decide (e.kind=8)||decide (e.sym=noS))
end Go.Gh
namespace Go.Gh
theorem nraw_Ex (e:Exp):nraw (Ex e)=true:=by rw[Y2];rfl
theorem clean_Ex (e:Exp):clean (Ex e)=true:=by rw[Y2];rfl
theorem sub_Ex0 (e:Exp):sub (Ex e) 0 1 false=some (I e.kind):=by rw[Y2];rfl
theorem sub_Ex1 (e:Exp):sub (Ex e) 1 1 false=some (I e.n):=by rw[Y2];rfl
theorem sub_Ex2 (e:Exp):sub (Ex e) 2 1 false=some (I e.pos):=by rw[Y2];rfl
theorem sub_Ex3 (e:Exp):sub (Ex e) 3 1 false=some (I e.type):=by rw[Y2];rfl
theorem sub_Ex4 (e:Exp):sub (Ex e) 4 1 false=some (T e.sym):=by rw[Y2];rfl
theorem sub_Ex5 (e:Exp):sub (Ex e) 5 1 false=some (T e.name):=by rw[Y2];rfl
theorem sub_Ex6 (e:Exp):sub (Ex e) 6 1 false=some (ExS e.args):=by rw[Y2];rfl
theorem fold_Ex (e:Exp):GV.agg [I e.kind,I e.n,I e.pos,I e.type,T e.sym,T e.name,.sl 7 (e.args.map Ex)]=Ex e:=(Y2 e).symm
abbrev ExC (e:Exp):List GV:=[I e.kind,I e.n,I e.pos,I e.type,T e.sym,T e.name,ExS e.args]
theorem upd_Ex (gs:List GV) (o:Nat) (e:Exp):upd (.agg gs) o (Ex e)=if o+7≤gs.length then some (.agg (gs.take o++(ExC e++gs.drop (o+7)))) else none:=by rw[Y2];rfl
theorem upd_ExO (e:Exp) (o r sz k n:Nat):upd (Ex e) o (.own r sz k n)=if o<7 then some (.agg ((ExC e).set o (.own r sz k n))) else none:=by rw[Y2];rfl
theorem XE:type_of% (And.intro @isAgg_Ex (And.intro @geR_Ex (And.intro @gsize_Ex (And.intro @stor_Ex (And.intro @nraw_Ex (And.intro @clean_Ex (And.intro @sub_Ex0 (And.intro @sub_Ex1 (And.intro @sub_Ex2 (And.intro @sub_Ex3 (And.intro @sub_Ex4 (And.intro @sub_Ex5 (And.intro @sub_Ex6 (And.intro @fold_Ex (And.intro @upd_ExO @upd_Ex))))))))))))))):=
 And.intro @isAgg_Ex (And.intro @geR_Ex (And.intro @gsize_Ex (And.intro @stor_Ex (And.intro @nraw_Ex (And.intro @clean_Ex (And.intro @sub_Ex0 (And.intro @sub_Ex1 (And.intro @sub_Ex2 (And.intro @sub_Ex3 (And.intro @sub_Ex4 (And.intro @sub_Ex5 (And.intro @sub_Ex6 (And.intro @fold_Ex (And.intro @upd_ExO @upd_Ex))))))))))))))
@[ext] structure Att where
 name:ByteArray
 type:Int
 mode:Int
 circ:Bool
deriving DecidableEq
abbrev At (x:Att):GV:= .agg [T x.name,I x.type,I x.mode,B x.circ]
abbrev AtS (l:List Att):GV:= .sl 4 (l.map At)
@[ext] structure Sym where
 name:ByteArray
 atts:List Att
deriving DecidableEq
abbrev Sy (x:Sym):GV:= .agg [T x.name,AtS x.atts]
abbrev SyS (l:List Sym):GV:= .sl 2 (l.map Sy)
@[ext] structure Eqn where
 pos:Int
 name:ByteArray
 expr:Exp
deriving DecidableEq
abbrev Qn (x:Eqn):GV:= .agg [I x.pos,T x.name,I x.expr.kind,I x.expr.n,I x.expr.pos,I x.expr.type,T x.expr.sym,T x.expr.name,ExS x.expr.args]
abbrev QnS (l:List Eqn):GV:= .sl 9 (l.map Qn)
@[ext] structure Con where
 sym:ByteArray
 name:ByteArray
 goal:Exp
 value:Exp
deriving DecidableEq
abbrev Co (x:Con):GV:= .agg [T x.sym,T x.name,I x.goal.kind,I x.goal.n,I x.goal.pos,I x.goal.type,T x.goal.sym,T x.goal.name,ExS x.goal.args,I x.value.kind,I x.value.n,I x.value.pos,I x.value.type,T x.value.sym,T x.value.name,ExS x.value.args]
abbrev CoS (l:List Con):GV:= .sl 16 (l.map Co)
abbrev TS (l:List ByteArray):GV:= .sl 1 (l.map T)
@[ext] structure Rul where
 name:ByteArray
 left:ByteArray
 right:List ByteArray
 lit:Bool
 eqs:List Eqn
 cons:List Con
deriving DecidableEq
abbrev Ru (x:Rul):GV:= .agg [T x.name,T x.left,TS x.right,B x.lit,QnS x.eqs,CoS x.cons]
abbrev RuS (l:List Rul):GV:= .sl 6 (l.map Ru)
@[ext] structure Gram where
 syms:List Sym
 rules:List Rul
deriving DecidableEq
abbrev Gr (g:Gram):GV:= .agg [SyS g.syms,RuS g.rules]
def smSy (x:Sym):Prop:=x.atts.length≤1048576
def smEq (x:Eqn):Prop:=wEx x.expr≤1048576
def smCo (x:Con):Prop:=wEx x.goal≤1048576∧wEx x.value≤1048576
def smRu (x:Rul):Prop:=x.right.length≤1048576∧x.eqs.length≤1048576∧x.cons.length≤1048576∧(∀q∈x.eqs,smEq q)∧∀c∈x.cons,smCo c
def smGr (g:Gram):Prop:=g.syms.length≤1048576∧g.rules.length≤1048576∧(∀s∈g.syms,smSy s)∧∀r∈g.rules,smRu r
theorem wtS_mem {α:Type} {wt:α→Nat} {l:List α} {n:Nat} (h:wtS wt l≤n):l.length≤n∧∀a∈l,wt a≤n:=by
 simp only[wtS] at h
 exact ⟨by omega,fun a ha=>by have:=sum_mem wt l a ha;omega⟩
theorem YS {α:Type} {l:List α} {i:Nat} {d:α} (h:i<l.length):l.getD i d=l[i]:=by
 rw[List.getD_eq_getElem?_getD,List.getElem?_eq_getElem h];rfl
def symZ:Sym:=⟨noS,[]⟩
def attZ:Att:=⟨noS,0,0,false⟩
def rulZ:Rul:=⟨noS,noS,[],false,[],[]⟩
def fSym (l:List Sym) (n:ByteArray):Sym:=(l.find? fun s=>decide (s.name=n)).getD symZ
def hSym (l:List Sym) (n:ByteArray):Bool:=(l.find? fun s=>decide (s.name=n)).isSome
def ZH (l:List Rul) (n:ByteArray):Rul:=(l.find? fun s=>decide (s.name=n)).getD rulZ
def Y6 (l:List Rul) (n:ByteArray):Bool:=(l.find? fun s=>decide (s.name=n)).isSome
def fAtt (l:List Att) (n:ByteArray):Att:=(l.find? fun s=>decide (s.name=n)).getD attZ
def hAtt (l:List Att) (n:ByteArray):Bool:=(l.find? fun s=>decide (s.name=n)).isSome
theorem fRul_mem (l:List Rul) (n:ByteArray):ZH l n∈l∨ZH l n=rulZ:=by
 unfold ZH
 cases h:l.find? fun s=>decide (s.name=n) with
 | none=>exact .inr rfl
 | some a=>exact .inl (List.mem_of_find?_eq_some h)
theorem fSym_mem (l:List Sym) (n:ByteArray):fSym l n∈l∨fSym l n=symZ:=by
 unfold fSym
 cases h:l.find? fun s=>decide (s.name=n) with
 | none=>exact .inr rfl
 | some a=>exact .inl (List.mem_of_find?_eq_some h)
theorem smRu_f {g:Gram} (h:smGr g) (n:ByteArray):smRu (ZH g.rules n):=by
 rcases fRul_mem g.rules n with h1|h1
 ·exact h.2.2.2 _ h1
 ·rw[h1];simp[smRu,rulZ]
theorem smSy_f {g:Gram} (h:smGr g) (n:ByteArray):smSy (fSym g.syms n):=by
 rcases fSym_mem g.syms n with h1|h1
 ·exact h.2.2.1 _ h1
 ·rw[h1];simp[smSy,symZ]
def YH (r:Rul) (pos:Int):ByteArray:=if pos=0 then r.left else if 1≤pos∧pos≤r.right.length then r.right.getD (pos-1).toNat noS else noS
def Zq:Nod:=⟨0,0,0,0,noS,[]⟩
def symN (g:Gram) (t:List Nod) (i:Int):ByteArray:=if 0≤i∧i<t.length then (ZH g.rules (t.getD i.toNat Zq).rule).left else noS
theorem symN_in {g:Gram} {t:List Nod} {i:Nat} (h:i<t.length):symN g t i=(ZH g.rules t[i].rule).left := by
 simp only[symN,Int.toNat_natCast]
 rw[if_pos (by omega),YS h]
theorem symN_out {g:Gram} {t:List Nod} {i:Int} (h:¬(0≤i∧i<t.length)):symN g t i=noS:=by simp only[symN,if_neg h]
theorem ixOf_cases {α:Type} (p:α→Bool) (xs:List α):ixOf p xs = -1∨(0≤ixOf p xs∧ixOf p xs<xs.length):=by
 unfold ixOf
 cases h:xs.findIdx? p with
 | none=>exact .inl rfl
 | some i=>
  obtain ⟨h1,_,_⟩:=List.findIdx?_eq_some_iff_getElem.1 h
  exact .inr ⟨by simp,by simpa using h1⟩
end Go.Gh
namespace Go.Gh
end Go.Gh
namespace Go.Gh
end Go.Gh
namespace Go.Gh
def gid (t:List Nod) (i:Nat):Bool:=decide (1≤(t.getD i Zq).id ∧ (t.getD i Zq).id ≤ 999) && !((t.take i).any fun y=>decide (y.id=(t.getD i Zq).id))
def idsV (t:List Nod):Bool:=(List.range t.length).all (gid t)
theorem idsV_bad {t:List Nod} {i:Nat} (h:i<t.length) (hb:gid t i=false):idsV t=false:=by
 simp only[idsV,List.all_eq_false,List.mem_range]
 exact ⟨i,h,by simp[hb]⟩
theorem idsV_ok {t:List Nod} (h:∀j,j<t.length→gid t j=true):idsV t=true:=by
 simp only[idsV,List.all_eq_true,List.mem_range]
 exact h
def fitV (g:Gram) (x:Nod) (parent place:Int) (sym:ByteArray):Bool:=
 Y6 g.rules x.rule&&decide ((ZH g.rules x.rule).left = sym)&&decide (x.parent=parent)&&decide (x.place=place)&&decide (x.kids.length=(ZH g.rules x.rule).right.length) &&
 decide (-1000000≤x.lit∧x.lit≤1000000)&&((ZH g.rules x.rule).lit || decide (x.lit=0))
def Za (w:Nat→Int→Int→ByteArray→Int) (i:Nat):List Int→List ByteArray→Int→Int→Int
 | c::cs,s::ss,k,at'=>if c≠at' then -1 else if w at'.toNat i (k+1) s<0 then -1 else Za w i cs ss (k+1) (w at'.toNat i (k+1) s)
 | _,_,_,at'=>at'
def Zw (g:Gram) (t:List Nod):Nat→Nat→Int→Int→ByteArray→Int
 | 0,_,_,_,_ => -1
 | f+1,i,p,q,s=>if i<t.length then
  if fitV g (t.getD i Zq) p q s then Za (Zw g t f) i (t.getD i Zq).kids (ZH g.rules (t.getD i Zq).rule).right 0 (i+1) else -1
  else -1
theorem kidsW_ge {w:Nat→Int→Int→ByteArray→Int} {n:Int} {i:Nat} (hw:∀a p q s,0≤w a p q s→(a:Int)<w a p q s∧w a p q s≤n):∀(cs:List Int) (ss:List ByteArray) (k a:Int),0≤a→a≤n →
 Za w i cs ss k a = -1∨(a≤Za w i cs ss k a∧Za w i cs ss k a≤n)
 | [],_,k,a,h0,h1=>by right;simp[Za];omega
 | _ :: _,[],k,a,h0,h1=>by right;simp[Za];omega
 | c::cs,s::ss,k,a,h0,h1=>by
  simp only[Za]
  split
  ·exact .inl rfl
  split
  ·exact .inl rfl
  ·rename_i h2
   have h3:=hw a.toNat i (k+1) s (by omega)
   rcases kidsW_ge hw cs ss (k+1) (w a.toNat i (k+1) s) (by omega) h3.2 with h|h
   ·exact .inl h
   ·exact .inr (by omega)
theorem walkE_ge {g:Gram} {t:List Nod}:∀(f i:Nat) (p q:Int) (s:ByteArray),0≤Zw g t f i p q s→(i:Int)<Zw g t f i p q s∧Zw g t f i p q s≤t.length
 | 0,i,p,q,s,h=>by simp[Zw] at h
 | f+1,i,p,q,s,h=>by
  simp only[Zw] at h ⊢
  split at h
  ·rename_i hi
   rw[if_pos hi]
   split at h
   ·rename_i hf
    rw[if_pos hf]
    rcases kidsW_ge (w:=Zw g t f) (n:=t.length) (i:=i) (fun a p q s h=>walkE_ge f a p q s h) (t.getD i Zq).kids (ZH g.rules (t.getD i Zq).rule).right 0 (i+1) (by omega) (by omega) with h2|h2
    ·rw[h2] at h;omega
    ·omega
   ·omega
  ·omega
theorem walkE_out {g:Gram} {t:List Nod} {f i:Nat} {p q:Int} {s:ByteArray} (h:t.length≤i):Zw g t f i p q s = -1:=by
 cases f with
 | zero=>rfl
 | succ f=>simp only[Zw];rw[if_neg (by omega)]
def Y3 (g:Gram) (t:List Nod) (s:ByteArray):Bool:=decide (1≤t.length∧t.length≤16)&&(idsV t&&decide (Zw g t t.length 0 (-1) 0 s=t.length))
def startS (g:Gram):ByteArray:=if 0<g.syms.length then (g.syms.getD 0 symZ).name else noS
theorem kidsW_step {w:Nat→Int→Int→ByteArray→Int} {i k:Nat} {cs:List Int} {ss:List ByteArray} {a:Int} (h1:k<cs.length) (h2:k<ss.length) :
 Za w i (cs.drop k) (ss.drop k) k a=if cs[k]≠a then -1 else if w a.toNat i ((k:Int)+1) ss[k]<0 then -1 else Za w i (cs.drop (k+1)) (ss.drop (k+1)) ((k+1:Nat):Int) (w a.toNat i ((k:Int)+1) ss[k]):=by
 rw[List.drop_eq_getElem_cons h1,List.drop_eq_getElem_cons h2,Za]
 simp only[Int.natCast_add,Int.natCast_one]
theorem kidsW_end {w:Nat→Int→Int→ByteArray→Int} {i k:Nat} {cs:List Int} {ss:List ByteArray} {a:Int} {p:Int} (h1:cs.length≤k):Za w i (cs.drop k) (ss.drop k) p a=a:=by
 rw[List.drop_eq_nil_of_le h1];cases ss.drop k<;>rfl
theorem fitV_iff {g:Gram} {x:Nod} {p q:Int} {s:ByteArray}:fitV g x p q s=true↔Y6 g.rules x.rule=true∧(ZH g.rules x.rule).left = s∧x.parent=p∧x.place=q∧x.kids.length=(ZH g.rules x.rule).right.length ∧ (-1000000≤x.lit∧x.lit≤1000000) ∧
 ((ZH g.rules x.rule).lit = true∨(ZH g.rules x.rule).lit = false∧x.lit=0):=by
 simp only[fitV,Bool.and_eq_true,decide_eq_true_eq,Bool.or_eq_true,and_assoc]
 cases (ZH g.rules x.rule).lit <;> simp
theorem okV1 (n:Int):okV n 1=decide (-1000000≤n∧n≤1000000):=by
 simp only[okV,coV,satV]
 by_cases h : -1000000≤n∧n≤1000000
 ·simp[h];omega
 ·simp[h];omega
theorem gid_f1 {t:List Nod} {i:Nat} (h:i<t.length) (hb:¬(1≤t[i].id ∧ t[i].id ≤ 999)):gid t i=false:=by
 simp only[gid,YS h,decide_eq_false hb,Bool.false_and]
theorem gid_f2 {t:List Nod} {i:Nat} (h:i<t.length) (hb:((t.take i).any fun y=>decide (y.id=t[i].id))=true):gid t i=false:=by
 simp only[gid,YS h,hb,Bool.not_true,Bool.and_false]
theorem gid_t {t:List Nod} {i:Nat} (h:i<t.length) (ha:1≤t[i].id ∧ t[i].id ≤ 999) (hb:((t.take i).any fun y=>decide (y.id=t[i].id))=false):gid t i=true:=by
 simp only[gid,YS h,decide_eq_true ha,hb,Bool.not_false,Bool.and_true]
def hasI (l:List Int) (x:Int):Bool:=l.any fun y=>decide (y=x)
theorem hasI_hit {l:List Int} {x:Int} {i:Nat} (h:i<l.length) (e:l[i]=x):hasI l x=true:=by
 simp only[hasI,List.any_eq_true];exact ⟨l[i],List.getElem_mem h,by simp[e]⟩
theorem hasI_none {l:List Int} {x:Int} (h:∀y∈l,decide (y=x)=false):hasI l x=false:=by
 simp only[hasI,List.any_eq_false];intro y hy;simpa using h y hy
theorem hasI_map (t:List Nod) (x:Int):hasI (t.map (·.id)) x=t.any fun y=>decide (y.id=x):=by
 simp only[hasI,List.any_map];rfl
end Go.Gh
namespace Go.Gh
theorem takeApp2 {α β:Type} (f:β→GV) (h:α→β) (l:List α) (i:Nat) (hi:i<l.length):List.take i (List.map f (List.map h (List.take i l)))++[f (h l[i])]=List.map f (List.map h (List.take (i+1) l)):=by
 have:=takeApp (fun a=>f (h a)) l i hi
 simp only[List.map_map];exact this
theorem treeOf_bad {g:Gram} {t:List Nod} {s:ByteArray} (h:idsV t=false):Y3 g t s=false:=by
 simp only[Y3,h,Bool.false_and,Bool.and_false]
end Go.Gh
namespace Go.Gh
end Go.Gh
namespace Go.Gh
def nodeV (e:Exp):Bool:=
 decide (1≤e.kind∧e.kind≤8)&&bareV e &&
 (if e.kind=1 then decide (1≤e.type∧e.type≤3)&&okV e.n e.type&&decide (0≤e.n) else
  if e.kind=3 then decide (0≤e.pos∧e.pos≤3)&&ZA e.name else
  if e.kind=6 then decide (0≤e.pos∧e.pos≤3) else
  if e.kind=4 then decide (1≤e.n∧e.n≤12) else
  if e.kind=8 then ZA e.sym&&ZA e.name else true)
def validE (e:Exp):Bool:=decide (cntE e≤24)&&decide (dpE e≤6)&&allE nodeV e
theorem shp_iff' (l:List UInt8):shp l=true↔0<l.length∧(∀h:0<l.length,YY l[0]=true)∧∀(j:Nat) (h:j<l.length),YY l[j]=true∨Zr l[j]=true:=by
 rw[shp_iff]
 constructor
 ·rintro ⟨h1,h2⟩
  refine ⟨h1,fun h=> ?_,fun j hj=> ?_⟩
  ·rcases h2 0 h with h3|h3
   ·exact h3
   ·exact absurd rfl h3.1
  ·rcases h2 j hj with h3|h3
   ·exact .inl h3
   ·exact .inr h3.2
 ·rintro ⟨h1,h2,h3⟩
  refine ⟨h1,fun j hj=> ?_⟩
  by_cases h0:j=0
  ·subst h0;exact .inl (h2 hj)
  ·rcases h3 j hj with h4|h4
   ·exact .inl h4
   ·exact .inr ⟨h0,h4⟩
theorem shp_no {l:List UInt8} {i:Nat} (h:i<l.length) (h1:YY l[i]=false) (h2:Zr l[i]=false):shp l=false:=by
 cases hs:shp l with
 | false=>rfl
 | true=>
  rcases ((shp_iff' l).1 hs).2.2 i h with h3|h3
  ·rw[h1] at h3;cases h3
  ·rw[h2] at h3;cases h3
theorem shp_no0 {l:List UInt8} (h:0<l.length) (h1:YY l[0]=false):shp l=false:=by
 cases hs:shp l with
 | false=>rfl
 | true=>
  have:=((shp_iff' l).1 hs).2.1 h
  rw[h1] at this;cases this
theorem shp_yes {l:List UInt8} (h:0<l.length) (h1:YY l[0]=true) (hn:∀(j:Nat) (h:j<l.length),YY l[j]=true∨Zr l[j]=true):shp l=true:=(shp_iff' l).2 ⟨h,fun _ => h1,hn⟩
end Go.Gh
namespace Go.Gh
theorem Bor.clo {H:GH} {f:Nat} {gs gs':List GV} (h:BorL H gs gs'):Bor H (.clo f gs) (.clo f gs'):=fun w D Ω v hst hm=>by
 simp only[MV] at hm ⊢
 obtain ⟨h0,vs,h1,h2⟩:=hm
 exact ⟨h0,vs,h1,h w D Ω vs hst h2⟩
theorem Bor.rop {H:GH} {sz:Nat} {g g':GV} (h:Bor H g g'):Bor H (.rop sz g) (.rop sz g'):=fun w D Ω v hst hm=>by
 simp only[MV] at hm ⊢
 obtain ⟨h0,b,off,u,h1,h2,h3,h4,h5,h6⟩:=hm
 exact ⟨h0,b,off,u,h1,.inl h2,h3,h4,h5,h w D Ω u hst h6⟩
theorem Yx (s:ByteArray):ZA s=(shp (Z6 s)&&decide ((Z6 s).length ≤ 8) && !resV s):=rfl
theorem allE_no {p:Exp→Bool} {e:Exp} {i:Nat} (h:i<e.args.length) (hb:allE p e.args[i]=false):allE p e=false:=by
 rw[allE_eq]
 have:e.args.all (allE p)=false:=by
  rw[List.all_eq_false]
  exact ⟨e.args[i],List.getElem_mem h,by simp[hb]⟩
 rw[this,Bool.and_false]
theorem allE_yes {p:Exp→Bool} {e:Exp} (h:∀a∈e.args,allE p a=true):allE p e=p e:=by
 rw[allE_eq,List.all_eq_true.2 h,Bool.and_true]
end Go.Gh
namespace Go.Gh
end Go.Gh
namespace Go.Gh
mutual
def ExO:Exp→GV
 | .mk k n p t s m a=> .agg [I k,I n,I p,I t,T s,T m,.osl 7 (ExOL a)]
def ExOL:List Exp→List GV
 | []=>[]
 | e::l=>ExO e::ExOL l
end
theorem ExOL_eq (l:List Exp):ExOL l=l.map ExO:=by
 induction l with
 | nil=>rfl
 | cons e l ih=>simp[ExOL,ih]
theorem ExO_eq (e:Exp):ExO e = .agg [I e.kind,I e.n,I e.pos,I e.type,T e.sym,T e.name,.osl 7 (e.args.map ExO)]:=by
 cases e;simp only[ExO,ExOL_eq];rfl
theorem view_ExO:∀e:Exp,view (ExO e)=Ex e:=by
 refine Exp.indA fun e ih=> ?_
 rw[ExO_eq,Y2]
 have:(e.args.map ExO).map view=e.args.map Ex:=by
  rw[List.map_map];exact List.map_congr_left fun a ha=>ih a ha
 simp[view,Zl,Zv,this]
theorem Bor.seen {α:Type} {f g:α→GV} {H:GH} {r sz n:Nat} {l:List α} (hv:∀a,view (f a)=g a) (hr:ZW H r=some (sz,l.map f)) (hl:l.length=n):Bor H (.own r sz 0 n) (.sl sz (l.map g)):=by
 have:=Bor.own (k:=0) (n:=n) hr (by simp[hl])
 rw[List.drop_zero,List.take_of_length_le (by simp[hl]),Zv,List.map_map] at this
 have e:l.map (view ∘ f)=l.map g:=List.map_congr_left fun a _ => hv a
 rwa [e] at this
section
variable {P:Program} {α:Type} {f:α→GV} {k kx sz:Nat} {ag:Bool}
end
theorem FR.perm {g:GV} {H L T:GH} (hs:subH H L):FR g (H++T) g (L++T):=by
 intro w D Ω v hv hst
 obtain ⟨Ω',h1,h2⟩:=St.sub hst hs
 exact ⟨D,Ω',hv,h1,⟨fun _ h=>h,fun _ _ h=> .inl h,fun b hb _ => h2 b hb,Kept.refl _ _,rfl,rfl,rfl⟩⟩
end Go.Gh
namespace Go.Gh
theorem FE.closeL {env:Env} {H:GH} {r r1 sz sz1 j n:Nat} {L gs ks:List GV} (hne:r≠r1) (hr:ZW H r=some (sz,L++[.agg gs])) (hg:gs[j]? = some (.own r1 sz1 0 n)) (hr1:ZW H r1=some (sz1,ks)) (hn:ks.length=n) :
 FE env H env (Zy (ZI H r (L++[.agg (gs.set j (.osl sz1 ks))])) r1):=by
 have:=FE.close (env:=env) (i:=L.length) hne hr (by simp) hg hr1 hn
 simpa using this
end Go.Gh
namespace Go.Gh
section
variable {α:Type} (w:α→Nat) (m:α→Int→α)
end
section
variable {α:Type} {f:α→α}
end
theorem St.exchC {w:World} {D:Nat→Prop} {H:GH} {Ω:List Nat} (h:St w D H Ω) {r sz i:Nat} {es:List GV} {e e':GV} (hr:ZW H r=some (sz,es)) (he:es[i]? = some e) (hx:∀v F,MV w D e v F→∃v',v'.cells=v.cells∧MV w D e' v' F):St w D (ZI H r (es.set i e')) Ω:=by
 obtain ⟨Ω1,F',Ω2,hΩ,hR,hput,_⟩:=HM.take h.hm hr
 obtain ⟨b,c,T,fz,F0,k1,k2,k3,k4,k5,k6,k7⟩:=hR.es_ne (fun e=>by rw[e] at he;simp at he)
 obtain ⟨pre,v,post,A1,Ai,A2,m1,m2,m3,m4,m5,m6,m7⟩:=MF.split sz es _ F0 i _ k7 he
 obtain ⟨v',hc,hv'⟩:=hx _ _ m6
 have hmf:=m7 w D (fun _ => True) e' v' Ai (Kept.refl _ _) (fun _ _ => trivial) (fun _ h=>h) (fun _ _ => trivial) (by rw[hc];exact m3) (by unfold okc at m4 ⊢;rw[hc];exact m4) hv'
 rw[hc,←m1,←m5] at hmf
 have hRM:RM w D r sz (es.set i e') F':= .inl ⟨b,c,T,fz,F0,k1,k2,k3,by simpa using k4,by simpa using k5,k6,by simpa using hmf⟩
 have hfin:=hput w D (fun _ => True) _ _ (Kept.refl _ _) (fun _ _ => trivial) (fun _ h=>h) (fun _ _ => trivial) hRM
 rw[←hΩ] at hfin
 exact ⟨hfin,h.nd,by rw[Y9];exact h.nn,h.dj,h.ds⟩
theorem FE.exchC {env:Env} {H:GH} {r sz i:Nat} {es:List GV} {e e':GV} (hr:ZW H r=some (sz,es)) (he:es[i]? = some e) (hx:∀w D v F,MV w D e v F→∃v',v'.cells=v.cells∧MV w D e' v' F):FE env H env (ZI H r (es.set i e')):=by
 intro w0 D0 O0 N a w ⟨hdf,hsz,D,Ω,ρw,hi⟩
 exact ⟨hdf,hsz,D,Ω,ρw,hi.st' (hi.st.exchC hr he (hx w D)) (fun _ h=>h)⟩
theorem MV.unagg {w:World} {D:Nat→Prop} {g:GV}:∀v F,MV w D (.agg [g]) v F→∃v',v'.cells=v.cells∧MV w D g v' F:=fun v F h=>by
 simp only[MV] at h
 obtain ⟨vs,rfl,h1,h2⟩:=h
 simp only[ML] at h2
 obtain ⟨u,vs',F1,F2,rfl,rfl,h3,rfl,rfl⟩:=h2
 have ho:=h1 u (by simp)
 refine ⟨u,?_,by simpa using h3⟩
 cases u<;>first|rfl|(simp[Value.oneCell'] at ho)
theorem FE.unagg {env:Env} {H:GH} {r sz:Nat} {g:GV} (hr:ZW H r=some (sz,[.agg [g]])):FE env H env (ZI H r [g]):=
 FE.exchC (i:=0) hr rfl (fun _ _ => MV.unagg)
theorem FE.closeT {env:Env} {T:GH} {r r2 sz sz2 i j n:Nat} {L gs ks:List GV} (hne:r2≠r) (hr:ZW T r=some (sz,L.set i (.agg gs))) (hi:i<L.length) (hg:gs[j]? = some (.own r2 sz2 0 n)) (hn:ks.length=n) :
 FE env ((r2,sz2,ks)::T) env (ZI T r (L.set i (.agg (gs.set j (.osl sz2 ks))))):=by
 have:=FE.close (env:=env) (H:=(r2,sz2,ks)::T) (r:=r) (r1:=r2) (i:=i) (j:=j) (Ne.symm hne) (by rw[hget_old hne];exact hr) (List.getElem?_set_self hi) hg ZX hn
 rwa [hset_old hne,hdel_new,List.set_set] at this
end Go.Gh
namespace Go.Gh
theorem neN (r:Nat) (x:Nat×List GV) (H:GH):(names ((r,x)::H)).Nodup = (neA r H∧(names H).Nodup):=by
 apply propext
 constructor
 ·intro h
  have h2:=h
  simp only[names,List.map_cons,List.nodup_cons] at h2
  exact ⟨neA_of h2.1,h2.2⟩
 ·rintro ⟨h1,h2⟩
  simp only[names,List.map_cons,List.nodup_cons]
  refine ⟨?_,h2⟩
  clear h2
  induction H with
  | nil=>simp
  | cons y H ih=>
   obtain ⟨q,y⟩:=y
   simp only[Z3] at h1
   simp only[List.map_cons,List.mem_cons,not_or]
   exact ⟨h1.1,ih h1.2.2⟩
theorem FE.closeL2 {env:Env} {H:GH} {r r1 sz sz1 j n:Nat} {L gs ks:List GV} (hne:¬r=r1) (hg:gs[j]? = some (.own r1 sz1 0 n)) (hn:ks.length=n) :
 FE env ((r,sz,L++[.agg gs])::(r1,sz1,ks)::H) env ((r,sz,L++[.agg (gs.set j (.osl sz1 ks))])::H):=by
 have h:=FE.closeL (env:=env) (H:=(r,sz,L++[.agg gs])::(r1,sz1,ks)::H) (r:=r) (r1:=r1) hne ZX hg (by rw[hget_old hne,ZX]) hn
 rwa [YR,hdel_old hne,hdel_new] at h
theorem Bor.ptr {H:GH} {r sz:Nat} {g:GV} (hr:ZW H r=some (sz,[g])):Bor H (.ptr r sz 0 0) (.rop sz (view g)):=fun w D Ω v h hv=>by
 obtain ⟨F,hF,hFΩ⟩:=h.hm.mem hr
 simp only[MV] at hv ⊢
 obtain ⟨_,b,rfl,hb,rfl⟩:=hv
 rcases hF with ⟨b',c,T,fz,F',k1,k2,k3,k4,k5,k6,k7⟩|⟨k1,_,_⟩
 ·have:b'=b:=by omega
  subst this
  simp only[MF] at k7
  obtain ⟨u,cs',F1,F2,e1,e2,e3,rfl,e5,rfl,rfl⟩:=k7
  refine ⟨trivial,b',0,u,by simp,.inr (hFΩ _ (by simp[k6])),⟨c,T,fz,k2,fun j x hj=> ?_⟩,e3,e2,MV.view (fun _ => .inl) g u F1 (fun x hx=> .inr (hFΩ x (by simp[k6,hx]))) e5⟩
  have e1':c.toList.take (1 * sz)=u.cells.toList:=by simpa using e1
  have h2:(c.toList.take (1 * sz))[j]? = some x:=by rw[e1'];exact hj
  rw[List.getElem?_take] at h2
  split at h2
  ·simpa using h2
  ·cases h2
 ·omega
end Go.Gh
namespace Go.Gh
end Go.Gh
namespace Go.Gh
end Go.Gh
namespace Go.Gh
abbrev Oc:=Int×ByteArray
abbrev OcS (l:List Oc):GV:= .sl 2 (l.map Occ)
def ltN (a b:ByteArray):Bool:=Op.bytesLess (Z6 a) (Z6 b)
def ltO (a b:Oc):Bool:=decide (a.1<b.1)||(decide (a.1=b.1)&&ltN a.2 b.2)
end Go.Gh
namespace Go.Gh
open Go.ChangeShapes Go.WideShapes Go.ChangeAt Go.RowKit
def tabH (T:GH):Prop:=(names T).Nodup ∧ ∀x∈T,x.1 % 4=3∧1000000≤x.2.1∧x.2.2=[]
def PureT (P:Program) (T:GH) (f:FuncId) (gs:List GV) (R:GV→Prop):Prop:=GCalls P f gs T (fun g _ => R g)
theorem hget_mem:∀{H:GH} {x:Nat×Nat×List GV},(names H).Nodup → x∈H→ZW H x.1=some x.2
 | [],_,_,h=>by cases h
 | (r,y)::H,x,hn,h=>by
  simp only[names,List.map_cons,List.nodup_cons] at hn
  simp only[ZW]
  rcases List.mem_cons.1 h with rfl|h
  ·simp
  ·have:r≠x.1:=fun e=>hn.1 (by rw[e];exact List.mem_map_of_mem h)
   rw[if_neg this]
   exact hget_mem hn.2 h
theorem HM.tabs {w:World} {D:Nat→Prop} {H:GH} {Ω:List Nat} (h:HM w D H Ω) (hn:(names H).Nodup):∀{T:GH},(∀x∈T,x.1 % 4=3∧1000000≤x.2.1∧x.2.2=[])→(∀x∈T,x∈H)→HM w D T []
 | [],_,_ => rfl
 | (r,sz,es)::T,hT,hs=>by
  obtain ⟨F,hF,_⟩:=h.mem (hget_mem hn (hs _ (List.mem_cons_self ..)))
  have ht:=hT _ (List.mem_cons_self ..)
  refine ⟨[],[],rfl,?_,HM.tabs h hn (fun x hx=>hT x (List.mem_cons_of_mem _ hx)) (fun x hx=>hs x (List.mem_cons_of_mem _ hx))⟩
  rcases hF with ⟨b,c,T,fz,F',k1,_⟩|hF
  ·have:=ht.1
   dsimp only at this k1
   omega
  ·exact .inr ⟨hF.1,ht.2.2,rfl⟩
theorem PureT.frame {P:Program} {T:GH} {f:FuncId} {gs:List GV} {R:GV→Prop} (h:PureT P T f gs R) (hT:tabH T) {H:GH} (hs:∀x∈T,x∈H):GCalls P f gs H (fun g H'=>R g∧H'=H):=by
 intro w D Ω args hst hargs
 have hs0:St w D T []:=⟨HM.tabs hst.hm hst.nn hT.2 hs,List.nodup_nil,hT.1,by simp,hst.ds⟩
 refine Yld.mono (fun v w' ⟨g,H',D',Ω',k1,k2,k3,k4⟩=> ?_) (h w D [] args hs0 hargs)
 have hk:Kept w w' (fun _ => True):=k4.kp.mono fun _ _ _ => by simp
 have hlt:∀b∈Ω,b<w.heap.size:=HM.flt hst.hm
 refine ⟨g,H,D',Ω,⟨k1,rfl⟩,k2,⟨HM.keep hk (fun _ _ => trivial) k4.d0 (fun _ _ => trivial) hst.hm,hst.nd,hst.nn,fun b hb hD=> ?_,k3.ds⟩,
  ⟨k4.d0,fun b hb hD=> .inl ((k4.dn b hb hD).resolve_right (by simp)),fun _ h _ => h,hk.mono fun _ _ _ => trivial,k4.os,k4.tape,k4.output⟩⟩
 rcases k4.dn b (hlt b hb) hD with h1|h1
 ·exact hst.dj b hb h1
 ·simp at h1
theorem PureT.bor {P:Program} {T:GH} {f:FuncId} {gs:List GV} {G:GV} (h:GCalls P f gs T (fun g H=>Bor H g G)):PureT P T f gs (· = G):=
 h.fr fun _ _ hb=>⟨G,[],FR.all hb,rfl⟩
theorem PureT.of {P:Program} {T:GH} {f:FuncId} {gs:List GV} {R:GV→Prop} (h:Pure P f gs R):PureT P T f gs R:=(h.frame T).mono fun _ _ h=>h.1
theorem callS.eqT {P:Program} {K:Env→GH→Prop} {is:List GI} {env:Env} {H T:GH} {d:Option Nat} {det:Bool} {f:FuncId} {gs:List GV} {G:GV} (h:PureT P T f gs (· = G)) (hT:tabH T) (hs:∀x∈T,x∈H) (hk:Z4 P is K (gput env d G) H):callS P det f (some gs) d is K env H:=by
 unfold callS
 cases det
 ·exact ⟨fun g H'=>g=G∧H'=H,h.frame hT hs,fun g H' ⟨e1,e2⟩ _ => by subst e1;subst e2;exact hk⟩
 ·exact ⟨G,h.frame hT hs,hk⟩
theorem PureT.out {P:Program} {T:GH} {f:FuncId} {F:GFun} {gs:List GV} {R:GV→Prop} (h:PureT P T f gs R) (hF:IsFun P f F) {W:World} {args:List Value} (hargs:ML W (YP W) gs args []) (hT:HM W (YP W) T []) (hn:(names T).Nodup) :
 Calls P f args.toArray W fun e W'=>∃v g D,e = .returned v∧R g∧MV W' D g v []∧Below W.heap.size W W':=by
 have:=h W (YP W) [] args ⟨hT,List.nodup_nil,hn,by simp,fun _ h=>h⟩ hargs
 rw[callFunc_run hF] at this
 refine Calls.mono this fun e W' ⟨v,h1,g,H',D',Ω',k1,k2,k3,k4⟩=>⟨v,g,D',h1,k1,k2,?_⟩
 exact ⟨k4.os,k4.tape,k4.output,k4.kp.size,fun k hk=>k4.kp.block k hk (by simp)⟩
def tab10 (n:Nat):GH:=[(4 * n+3,1000000,[])]
theorem tabH_10 (n:Nat):tabH (tab10 n):=⟨by simp[tab10,names],fun x hx=>by
 simp only[tab10,List.mem_singleton] at hx
 subst hx
 exact ⟨by dsimp only;omega,by dsimp only;omega,rfl⟩⟩
open Lib in
theorem HM.tab10 {P:Program} {W:World} {n:Nat} {s:String} (hg:P.globalNamed s=some n) (h:TabIs P W s .u64 pow10Tab):HM W (YP W) (tab10 n) []:=by
 simp only[TabIs,World.var?,hg,Option.bind_some] at h
 refine ⟨[],[],rfl,.inr ⟨⟨by omega,fun _ _ => ?_⟩,rfl,rfl⟩,rfl⟩
 have e:(4 * n+3) / 4=n:=by omega
 unfold TB
 rw[e]
 split at h
 case h_2=>cases h
 rename_i c T fz hb
 simp only[Option.some.injEq] at h
 refine ⟨Zm hb,c,T,fz,hb,?_⟩
 rw[h]
 simp only[tabP,if_true,pow10Tab,List.map_map]
 rfl
open Lib in
theorem HM.is10 {P:Program} {w:World} {D:Nat→Prop} {n:Nat} {s:String} {H:GH} {Ω:List Nat} (hg:P.globalNamed s=some n) (h:HM w D H Ω) (hn:(names H).Nodup) (hm:(4 * n+3,1000000,[])∈H):TabIs P w s .u64 pow10Tab:=by
 obtain ⟨F,hF,_⟩:=h.mem (hget_mem hn hm)
 have e:(4 * n+3) / 4=n:=by omega
 rcases hF with ⟨b,c,T,fz,F',k1,_⟩|hF
 ·dsimp only at k1;omega
 ·obtain ⟨_,c,T,fz,h1,h2⟩:=hF.1.2 (by dsimp only;omega) (Nat.le_refl _)
  dsimp only at h1
  rw[e] at h1
  simp only[TabIs,World.var?,hg,Option.bind_some,h1]
  simp only[tabP,if_true] at h2
  rw[h2]
  simp only[pow10Tab,List.map_map]
  rfl
open Lib Go.Sort in
theorem itoa_ok {P:Program} {f g:Nat} {s:String} (hg:P.globalNamed s=some g) {args:Int→Array Value} {n:Int} {gs:List GV} (hgs:∀w D vs,ML w D gs vs []→vs.toArray=args n)
 (hc:∀w:World,TabIs P w s .u64 pow10Tab→Calls P f (args n) w fun e w'=>e = .returned (.string ⟨(itoa n).toArray⟩)∧∃k os,w'=grow (w.drewN k) os)
 (eg:∀args w,(callFunc f args).run P w = .ok (.enter f args) w):PureT P (tab10 g) f gs (· = .val (mkS (itoa n))):=by
 intro w D Ω vs hst hargs
 rw[eg,hgs _ _ _ hargs]
 show Calls P f _ w _
 refine (hc w (HM.is10 hg hst.hm hst.nn (by simp[tab10]))).mono ?_
 rintro e w' ⟨rfl,k,os,rfl⟩
 have hk:Kept w (grow (w.drewN k) os) (fun _ => True):=by
  refine ⟨fun b hb _ => ?_,?_,fun b c T fz hx=>⟨c,fz,?_,rfl⟩⟩
  ·show (w.heap++os)[b]? = _
   rw[Array.getElem?_append_left hb]
  ·show _ ≤ (w.heap++os).size
   rw[Array.size_append];omega
  ·show (w.heap++os)[b]? = _
   rw[Array.getElem?_append_left (Zm hx)];exact hx
 refine ⟨_,rfl,_,tab10 g,D,Ω,rfl,MV.val_mk _,⟨HM.keep hk (fun _ _ => trivial) (fun _ h=>h) (fun _ _ => trivial) hst.hm,hst.nd,hst.nn,hst.dj,fun b hb=>Nat.lt_of_lt_of_le (hst.ds b hb) hk.size⟩,
  ⟨fun _ h=>h,fun _ _ h=> .inl h,fun _ h _ => h,hk.mono fun _ _ _ => trivial,rfl,rfl,rfl⟩⟩
end Go.Gh
namespace Go.Gh
open Lib
def dgs (u:Nat):List UInt8:=if u=0 then [] else decDigits u
theorem dgs_step {u:Nat} (h:u≠0) (out:List UInt8):dgs u++out=dgs (u / 10)++(UInt8.ofNat (48+u % 10)::out):=by
 unfold dgs
 rw[if_neg h]
 by_cases h1:u<10
 ·rw[decDigits_one h1,if_pos (by omega),Nat.mod_eq_of_lt h1]
  rfl
 ·rw[decDigits,dif_neg h1,if_neg (by omega)]
  simp
theorem itoa_dgs {n:Int} (h:n≠0):itoa n=if n<0 then 45::dgs n.natAbs else dgs n.natAbs:=by
 unfold itoa dgs
 have e:n.natAbs≠0:=by omega
 rw[if_neg e]
 by_cases h1:n<0
 ·rw[if_pos h1,if_pos h1]
 ·rw[if_neg h1,if_neg h1]
  congr 1
  omega
theorem itoa_0:itoa 0=[48]:=by
 unfold itoa
 rw[if_neg (by omega)]
 exact decDigits_one (by decide)
theorem nDigits_le:∀(k u:Nat),u<10 ^ (k+1)→nDigits u≤k+1
 | 0,u,h=>by rw[nDigits_small (by simpa using h)];omega
 | k+1,u,h=>by
  rw[nDigits]
  split
  ·omega
  ·have:=nDigits_le k (u / 10) (by rw[Nat.pow_succ] at h;omega)
   omega
theorem dgs_len {u:Nat} (h:u≤9223372036854775808):(dgs u).length ≤ 19:=by
 unfold dgs
 split
 ·simp
 ·rw[decDigits_length]
  exact nDigits_le 18 u (by omega)
theorem itoa_len {n:Int} (h0 : -9223372036854775808≤n) (h1:n≤9223372036854775807):(itoa n).length ≤ 20:=by
 by_cases h:n=0
 ·subst h;rw[itoa_0];simp
 ·rw[itoa_dgs h]
  have:=dgs_len (u:=n.natAbs) (by omega)
  split<;>simp<;>omega
theorem tmod10 (n:Int):(if n.tmod 10<0 then 0-n.tmod 10 else n.tmod 10)=((n.natAbs % 10:Nat):Int):=by
 have h:(n.tmod 10).natAbs = n.natAbs % 10:=by rw[Int.natAbs_tmod];rfl
 split<;>omega
theorem tdiv10 (n:Int):(n.tdiv 10).natAbs = n.natAbs / 10:=by rw[Int.natAbs_tdiv];rfl
theorem digB:∀d,d<10→UInt8.ofNat (IntKind.u8.wrap (48+((d:Nat):Int))).toNat = UInt8.ofNat (48+d):=by decide
theorem YL {a b:ByteArray} (h:(Z6 a).length + (Z6 b).length ≤ 9223372036854775807):(Z6 a).length + (Z6 b).length ≤ 9223372036854775807:=h
theorem chk (l:List UInt8):Z6 ⟨l.toArray⟩=l:=rfl
theorem mod_lt10 (u:Nat):u % 10<10:=Nat.mod_lt _ (by decide)
end Go.Gh
namespace Go.Gh
theorem ltN_eq (a b:ByteArray):ltN a b=decide (Z6 a<Z6 b):=Proofs.bytesLess_eq _ _
theorem ltN_irr (a:ByteArray):ltN a a=false:=by
 rw[ltN_eq];exact decide_eq_false (List.lt_irrefl _)
theorem ltN_trans {a b c:ByteArray} (h:ltN a b=true) (k:ltN b c=true):ltN a c=true:=by
 rw[ltN_eq,decide_eq_true_eq] at *;exact List.lt_trans h k
theorem ltO_iff {a b:Oc}:ltO a b=true↔a.1<b.1∨(a.1=b.1∧ltN a.2 b.2=true):=by simp[ltO]
theorem ltO_irr (a:Oc):ltO a a=false:=by simp[ltO,ltN_irr]
theorem ltO_trans {a b c:Oc} (h:ltO a b=true) (k:ltO b c=true):ltO a c=true:=by
 rw[ltO_iff] at *
 rcases h with h|⟨h1,h2⟩<;>rcases k with k|⟨k1,k2⟩
 ·exact .inl (by omega)
 ·exact .inl (by omega)
 ·exact .inl (by omega)
 ·exact .inr ⟨by omega,ltN_trans h2 k2⟩
theorem ltO_asym {a b:Oc} (h:ltO a b=true):ltO b a=false:=by
 cases q:ltO b a
 ·rfl
 ·have:=ltO_trans h q;rw[ltO_irr] at this;cases this
abbrev SSO (l:List Oc):Prop:=l.Pairwise fun a b=>ltO a b=true
theorem SSO.ext:∀{l k:List Oc},SSO l→SSO k→(∀x,x∈l↔x∈k)→l=k
 | [],[],_,_,_ => rfl
 | [],b::k,_,_,h=>by have:=(h b).2 (by simp);simp at this
 | a::l,[],_,_,h=>by have:=(h a).1 (by simp);simp at this
 | a::l,b::k,h1,h2,h=>by
  rw[SSO,List.pairwise_cons] at h1 h2
  have e:a=b:=by
   rcases List.mem_cons.1 ((h a).1 (by simp)) with e|e
   ·exact e
   ·rcases List.mem_cons.1 ((h b).2 (by simp)) with e'|e'
    ·exact e'.symm
    ·have q1:=h2.1 a e
     have q2:=h1.1 b e'
     rw[ltO_asym q1] at q2;cases q2
  subst e
  congr 1
  refine SSO.ext h1.2 h2.2 fun x=>⟨fun hx=> ?_,fun hx=> ?_⟩
  ·rcases List.mem_cons.1 ((h x).1 (by simp[hx])) with e|e
   ·subst e;have:=h1.1 _ hx;rw[ltO_irr] at this;cases this
   ·exact e
  ·rcases List.mem_cons.1 ((h x).2 (by simp[hx])) with e|e
   ·subst e;have:=h2.1 _ hx;rw[ltO_irr] at this;cases this
   ·exact e
end Go.Gh
namespace Go.Gh
open Go.Sort (HoldsK Holds flatK putRowK grow)
open Go.Proofs (sortWorldK)
open Go.Proofs (ltOf)
end Go.Gh
namespace Go.Gh
theorem any_yes {α:Type} {p:α→Bool} {l:List α} {i:Nat} (h:i<l.length) (hp:p l[i]=true):l.any p=true:=by
 rw[List.any_eq_true]
 exact ⟨l[i],List.getElem_mem h,hp⟩
theorem any_no {α:Type} {p:α→Bool} {l:List α} (h:∀a∈l,p a=false):l.any p=false:=by
 rw[List.any_eq_false]
 intro a ha
 rw[h a ha];simp
theorem takeP_step {α:Type} {p:α→Bool} {l:List α} {i:Nat} {b:Bool} (h:i<l.length) (hp:p l[i]=b) (hn:∀a∈l.take i,p a=b):∀a∈l.take (i+1),p a=b:=by
 intro a ha
 rw[List.take_add_one,List.getElem?_eq_getElem h,Option.toList_some,List.mem_append] at ha
 rcases ha with ha|ha
 ·exact hn a ha
 ·simp only[List.mem_singleton] at ha;rw[ha];exact hp
def attV (a:Att):Bool:=ZA a.name&&(decide (1≤a.type∧a.type≤4)&&(decide (1≤a.mode∧a.mode≤3)&&(if a.mode=3 then decide (a.type=2) && !a.circ else !a.circ || decide (a.type=2))))
def dupA (l:List Att) (i:Nat):Bool:=(l.take i).any fun o=>decide (o.name=(l.getD i attZ).name)
def symV (s:Sym):Bool:=s.atts.all attV&&((List.range s.atts.length).all fun i=> !dupA s.atts i)&&(ZA s.name&&decide (s.atts.length≤4))
def fitE (e:Exp) (n:Int):Bool:=validE e&&allE (fun x=>decide (x.pos≤n)) e
def eqnV (n:Nat) (q:Eqn):Bool:=fitE q.expr n&&(ZA q.name&&decide (0≤q.pos∧q.pos≤n))
def conV (n:Nat) (c:Con):Bool:=fitE c.goal n&&(fitE c.value n&&(ZA c.sym&&ZA c.name))
def rulV (r:Rul):Bool:=ZA r.name&&(ZA r.left&&(decide (r.right.length≤3)&&(decide (r.cons.length≤2)&&(r.right.all ZA&&(r.eqs.all (eqnV r.right.length)&&r.cons.all (conV r.right.length))))))
def reqP (g:Gram) (r:Rul) (pos:Nat):List Oc:=((fSym g.syms (YH r pos)).atts.filter fun a=>decide (a.mode=if pos=0 then 2 else 1)).map fun a=>((pos:Int),a.name)
def reqA (g:Gram) (r:Rul):Nat→List Oc
 | 0=>[]
 | n+1=>reqA g r n++reqP g r n
def reqO (g:Gram) (r:Rul):List Oc:=reqA g r (r.right.length+1)
def hOf (g:Gram) (out:List Int) (n:ByteArray):Int:=if ixOf (fun s:Sym=>decide (s.name=n)) g.syms<0 then 0 else out.getD (ixOf (fun s:Sym=>decide (s.name=n)) g.syms).toNat 0
def rchR (g:Gram) (out:List Int) (s:ByteArray) (r:Rul):Bool:=decide (r.left=s)&&r.right.all fun c=>decide (0<hOf g out c)
def rchS (g:Gram) (out:List Int) (s:ByteArray):Bool:=g.rules.any (rchR g out s)
def hNext (g:Gram) (round:Int) (out:List Int) (i:Nat):Int:=if 0<out.getD i 0 then out.getD i 0 else if rchS g out (g.syms.getD i symZ).name then round else out.getD i 0
def hIt (g:Gram):Nat→List Int
 | 0=>List.replicate g.syms.length 0
 | k+1=>(List.range g.syms.length).map (hNext g ((k:Int)+1) (hIt g k))
def hgts (g:Gram):List Int:=hIt g g.syms.length
theorem hIt_len (g:Gram):∀k,(hIt g k).length = g.syms.length
 | 0=>by simp[hIt]
 | k+1=>by simp[hIt]
theorem hIt_nn (g:Gram):∀k,∀x∈hIt g k,0≤x
 | 0,x,h=>by simp[hIt] at h;omega
 | k+1,x,h=>by
  simp only[hIt,List.mem_map,List.mem_range] at h
  obtain ⟨i,hi,rfl⟩:=h
  have hg:0≤(hIt g k).getD i 0:=by
   rw[YS (by rw[hIt_len];exact hi)]
   exact hIt_nn g k _ (List.getElem_mem _)
  simp only[hNext]
  split
  ·exact hg
  ·split
   ·omega
   ·exact hg
end Go.Gh
namespace Go.Gh
def dC (T:List (List Int)) (goal:Nat) (d:Nat) (out:List Int) (k:Int):Bool:=
 if d=1 then decide (k=goal) else decide (k≠goal)&&decide (0≤k)&&decide (out.getD k.toNat 0=(d:Int)-1)
def dS (T:List (List Int)) (goal:Nat) (d:Nat) (out:List Int) (i:Nat):Int:=
 if out.getD i 0≠0 then out.getD i 0 else if (T.getD i []).any (dC T goal d out) then d else 0
def dL (T:List (List Int)) (goal:Nat):Nat→List Int
 | 0=>List.replicate T.length 0
 | d+1=>(List.range T.length).map (dS T goal (d+1) (dL T goal d))
def dst (T:List (List Int)) (goal:Nat):List Int:=dL T goal T.length
end Go.Gh
namespace Go.Gh
theorem GCalls.nd {P:Program} {f:FuncId} {gs:List GV} {H:GH} {R:GV→GH→Prop} (h:(names H).Nodup → GCalls P f gs H R):GCalls P f gs H R:=
 fun w D Ω args hst hargs=>h hst.nn w D Ω args hst hargs
theorem GCalls.sub {P:Program} {f:FuncId} {gs:List GV} {H L T:GH} {R:GV→GH→Prop} (hs:subH H L) (h:GCalls P f gs (L++T) R):GCalls P f gs (H++T) R:=by
 intro w D Ω args hst hargs
 obtain ⟨Ω',h1,h2⟩:=hst.sub hs
 refine Yld.mono (fun v w' ⟨g,H',D',Ω'',k1,k2,k3,k4⟩=> ?_) (h w D Ω' args h1 hargs)
 exact ⟨g,H',D',Ω'',k1,k2,k3,⟨k4.d0,fun b hb hD=>(k4.dn b hb hD).imp id (h2 b),fun b hb hl=>h2 b (k4.on b hb hl),k4.kp.mono fun b _ hb hb'=>hb (h2 b hb'),k4.os,k4.tape,k4.output⟩⟩
end Go.Gh
namespace Go.Gh
theorem bor_OcS {H:GH} {r n:Nat} {l:List Oc} (hr:ZW H r=some (2,l.map Occ)) (hn:l.length=n):Bor H (.own r 2 0 n) (OcS l):=Bor.allM (fun _ => rfl) hr hn
theorem reqP_take {g:Gram} {r:Rul} {pos:Nat} {m:Int} (hm:m=if pos=0 then 2 else 1) (l:List Att) {i:Nat} (h:i<l.length) :
 (((l.take (i+1)).filter fun a=>decide (a.mode=m)).map fun a=>((pos:Int),a.name))=(((l.take i).filter fun a=>decide (a.mode=m)).map fun a=>((pos:Int),a.name))++(if l[i].mode = m then [((pos:Int),l[i].name)] else []):=by
 rw[List.take_add_one,List.getElem?_eq_getElem h,List.filter_append,List.map_append]
 by_cases e:l[i].mode = m<;>simp[e]
theorem reqA_len {g:Gram} (hg:smGr g) (r:Rul):∀n,(reqA g r n).length ≤ n * 1048576
 | 0=>by simp[reqA]
 | n+1=>by
  have h1:=reqA_len hg r n
  have h2:(reqP g r n).length ≤ 1048576:=by
   have h3:=List.length_filter_le (fun a:Att=>decide (a.mode=if n=0 then 2 else 1)) (fSym g.syms (YH r n)).atts
   have h4:=smSy_f hg (YH r n)
   unfold smSy at h4
   simp only[reqP,List.length_map]
   omega
  simp only[reqA,List.length_append]
  omega
theorem hgts_len (g:Gram):(hgts g).length = g.syms.length:=hIt_len g _
end Go.Gh
namespace Go.Gh
def rchP (g:Gram) (out:List Int) (s:ByteArray) (r:Rul) (k:Nat):Bool:=decide (r.left=s)&&(r.right.take k).all fun c=>decide (0<hOf g out c)
theorem rchP_step {g:Gram} {out:List Int} {s:ByteArray} {r:Rul} {k:Nat} (h:k<r.right.length):rchP g out s r (k+1)=(rchP g out s r k&&decide (0<hOf g out r.right[k])):=by
 unfold rchP
 rw[List.take_add_one,List.getElem?_eq_getElem h,Option.toList_some,List.all_append,Bool.and_assoc]
 simp
theorem rchP_end (g:Gram) (out:List Int) (s:ByteArray) (r:Rul):rchP g out s r r.right.length=rchR g out s r:=by
 unfold rchP rchR
 rw[List.take_length]
theorem hNext_eq {g:Gram} {k i:Nat} (h:i<g.syms.length):(hIt g (k+1)).getD i 0=hNext g ((k:Int)+1) (hIt g k) i:=by
 rw[YS (by rw[hIt_len];exact h)]
 simp[hIt]
def nxt (g:Gram) (k i:Nat) (Y:List Int):Prop:=Y.length=g.syms.length∧∀j,j<g.syms.length→Y.getD j 0=if j<i then (hIt g (k+1)).getD j 0 else (hIt g k).getD j 0
theorem nxt_0 (g:Gram) (k:Nat):nxt g k 0 (hIt g k):=⟨hIt_len g k,fun j hj=>by simp⟩
theorem nxt_n {g:Gram} {k:Nat} {Y:List Int} (h:nxt g k g.syms.length Y):Y=hIt g (k+1):=by
 refine List.ext_getElem (by rw[h.1,hIt_len]) fun j h1 h2=> ?_
 have h3:=h.1
 have:=h.2 j (by omega)
 rw[if_pos (by omega),YS h1,YS h2] at this
 exact this
theorem nxt_keep {g:Gram} {k i:Nat} {Y:List Int} (h:nxt g k i Y) (hi:i<g.syms.length) (he:hNext g ((k:Int)+1) (hIt g k) i=(hIt g k).getD i 0):nxt g k (i+1) Y:=by
 refine ⟨h.1,fun j hj=> ?_⟩
 rw[h.2 j hj]
 by_cases e:j=i
 ·subst e
  rw[if_neg (by omega),if_pos (by omega),hNext_eq hi,he]
 ·by_cases e2:j<i
  ·rw[if_pos e2,if_pos (by omega)]
  ·rw[if_neg e2,if_neg (by omega)]
theorem nxt_set {g:Gram} {k i:Nat} {Y:List Int} {v:Int} (h:nxt g k i Y) (hi:i<g.syms.length) (he:hNext g ((k:Int)+1) (hIt g k) i=v):nxt g k (i+1) (Y.set i v):=by
 have h1:=h.1
 refine ⟨by rw[List.length_set];exact h.1,fun j hj=> ?_⟩
 rw[YS (by rw[List.length_set];omega),List.getElem_set]
 by_cases e:i=j
 ·subst e
  rw[if_pos rfl,if_pos (by omega),hNext_eq hi,he]
 ·rw[if_neg e,←YS (d:=0) (by omega),h.2 j hj]
  by_cases e2:j<i
  ·rw[if_pos e2,if_pos (by omega)]
  ·rw[if_neg e2,if_neg (by omega)]
theorem soT_I {l:List Int} {n:Nat} (h:l.length=n):soT (some (1,l.map I)) 1 1 0 n=some (l.map I):=by
 subst h
 have hc:YE (l.map I)=true:=by
  induction l with
  | nil=>rfl
  | cons a l ih=>simp only[List.map_cons,YE,ih];rfl
 simp only[soT,List.drop_zero,List.length_map,Nat.zero_add,Nat.le_refl,true_and]
 rw[List.take_of_length_le (by simp),hc];simp
end Go.Gh
namespace Go.Gh
end Go.Gh
namespace Go.Gh
end Go.Gh
namespace Go.Gh
end Go.Gh
namespace Go.Gh
theorem Yv {g:Gram} {t:List Nod} {s:ByteArray} (h:Y3 g t s=true):(1≤t.length∧t.length≤16)∧idsV t=true∧Zw g t t.length 0 (-1) 0 s=t.length:=by
 simpa only[Y3,Bool.and_eq_true,decide_eq_true_eq] using h
end Go.Gh
namespace Go.Gh
end Go.Gh
namespace Go.Gh
open Lib
def Zj (g:Gram) (t:List Nod):Nat→Nat→List UInt8
 | 0,_ => []
 | f+1,i=>((40::Z6 (t.getD i Zq).rule)++(if (ZH g.rules (t.getD i Zq).rule).lit = true then 32::itoa (t.getD i Zq).lit else []))++(((t.getD i Zq).kids.flatMap fun c=>32::Zj g t f c.toNat)++[41])
theorem kidsW_txt {w:Nat→Int→Int→ByteArray→Int} {i:Nat} {T:Nat→List UInt8} {D:Int} (hw:∀a p q s,0≤w a p q s→(a:Int)<w a p q s∧((T a).length : Int)+1≤(w a p q s-a) * D):∀(cs:List Int) (ss:List ByteArray) (k a:Int),cs.length=ss.length→0≤a→0≤Za w i cs ss k a →
 (∀c∈cs,0≤c∧∃p q s,0≤w c.toNat p q s)∧((cs.flatMap fun c=>32::T c.toNat).length : Int)≤(Za w i cs ss k a-a) * D
 | [],_,k,a,_,ha,h=>by simp[Za]
 | c::cs,[],k,a,hl,_,_ => by simp at hl
 | c::cs,s::ss,k,a,hl,ha,h=>by
  simp only[Za] at h ⊢
  split at h
  ·omega
  rename_i g1
  rw[if_neg g1]
  split at h
  ·omega
  rename_i g2
  rw[if_neg g2]
  have h3:=hw a.toNat i (k+1) s (by omega)
  obtain ⟨h4,h5⟩:=kidsW_txt hw cs ss (k+1) (w a.toNat i (k+1) s) (by simpa using hl) (by omega) h
  have hca:c=a:=by simpa using g1
  subst hca
  refine ⟨fun x hx=> ?_,?_⟩
  ·rcases List.mem_cons.1 hx with rfl|hx
   ·exact ⟨ha,(i:Int),k+1,s,by omega⟩
   ·exact h4 x hx
  ·simp only[List.flatMap_cons,List.length_append,List.length_cons]
   have e:((c.toNat:Nat):Int)=c:=by omega
   rw[e] at h3
   generalize w c.toNat i (k+1) s=y at *
   generalize Za w i cs ss (k+1) y=z at *
   have e2:(z-c) * D=(z-y) * D+(y-c) * D:=by rw[←Int.add_mul];congr 1;omega
   rw[e2]
   have:=h3.2
   push_cast
   omega
theorem walkE_txt {g:Gram} {t:List Nod} {D:Int} (hD:∀x∈t,((Z6 x.rule).length : Int)+24≤D):∀(f i:Nat) (p q:Int) (s:ByteArray),0≤Zw g t f i p q s →
 ((Zj g t f i).length : Int)+1≤(Zw g t f i p q s-i) * D
 | 0,i,p,q,s,h=>by simp[Zw] at h
 | f+1,i,p,q,s,h=>by
  simp only[Zw] at h ⊢
  split at h
  ·rename_i hi
   rw[if_pos hi]
   split at h
   ·rename_i hf
    rw[if_pos hf]
    obtain ⟨_,_,_,_,hl,hlit,_⟩:=fitV_iff.1 hf
    have h2:=kidsW_txt (w:=Zw g t f) (T:=Zj g t f) (D:=D) (fun a p q s h=>⟨(walkE_ge f a p q s h).1,walkE_txt hD f a p q s h⟩) _ _ 0 ((i:Int)+1) hl (by omega) h
    have h3:=hD (t.getD i Zq) (by rw[YS hi];exact List.getElem_mem hi)
    have h4:=itoa_len (n:=(t.getD i Zq).lit) (by omega) (by omega)
    have h5:(((if (ZH g.rules (t.getD i Zq).rule).lit = true then 32::itoa (t.getD i Zq).lit else []):List UInt8).length : Int)≤21:=by
     split
     ·simp only[List.length_cons];omega
     ·simp
    generalize hz:Za (Zw g t f) i (t.getD i Zq).kids (ZH g.rules (t.getD i Zq).rule).right 0 ((i:Int)+1)=z at *
    have e2:(z-i) * D=(z-((i:Int)+1)) * D+D:=by rw[show z-(i:Int)=(z-((i:Int)+1))+1 by omega,Int.add_mul,Int.one_mul]
    rw[e2]
    have h6:=h2.2
    simp only[Zj,List.length_append,List.length_cons,List.length_nil] at h6 ⊢
    omega
   ·omega
  ·omega
theorem fm_st {α β:Type} (F:α→List β) (l:List α) {j:Nat} (h:j<l.length):(l.take (j+1)).flatMap F=(l.take j).flatMap F++F l[j]:=by
 rw[List.take_add_one,List.getElem?_eq_getElem h]
 simp only[List.flatMap_append,Option.toList_some,List.flatMap_cons,List.flatMap_nil,List.append_nil]
theorem fm_len {α β:Type} (F:α→List β) (l:List α) (j:Nat):((l.take j).flatMap F).length ≤ (l.flatMap F).length := by
 have:(l.flatMap F)=(l.take j).flatMap F++(l.drop j).flatMap F:=by rw[←List.flatMap_append,List.take_append_drop]
 rw[this,List.length_append]
 omega
theorem walkE_node {g:Gram} {t:List Nod} {D:Int} (hD:∀x∈t,((Z6 x.rule).length : Int)+24≤D) (hD2:D≤4194304) (ht:t.length≤1048576) {f i:Nat} {p q:Int} {s:ByteArray} (h:0≤Zw g t (f+1) i p q s) :
 ∃hi:i<t.length,(-1000000≤t[i].lit ∧ t[i].lit ≤ 1000000)∧(∀c∈t[i].kids,∃j:Nat,c=j∧∃p q s,0≤Zw g t f j p q s)∧(Zj g t (f+1) i).length ≤ 4398046511104:=by
 have hge:=walkE_ge (f+1) i p q s h
 have hlen:=walkE_txt hD (f+1) i p q s h
 have h0:=h
 simp only[Zw] at h
 split at h
 ·rename_i hi
  split at h
  ·rename_i hf
   obtain ⟨_,_,_,_,hl,hlit,_⟩:=fitV_iff.1 hf
   have h2:=kidsW_txt (w:=Zw g t f) (T:=Zj g t f) (D:=D) (fun a p q s h=>⟨(walkE_ge f a p q s h).1,walkE_txt hD f a p q s h⟩) _ _ 0 ((i:Int)+1) hl (by omega) h
   rw[YS hi] at hlit h2
   refine ⟨hi,hlit,fun c hc=> ?_,?_⟩
   ·obtain ⟨h3,h4⟩:=h2.1 c hc
    exact ⟨c.toNat,by omega,h4⟩
   ·have h24:=hD t[i] (List.getElem_mem hi)
    have h5:(Zw g t (f+1) i p q s-i) * D≤1048576 * 4194304:=Int.mul_le_mul (by omega) hD2 (by omega) (by omega)
    omega
  ·omega
 ·omega
end Go.Gh
namespace Go.Gh
end Go.Gh
namespace Go.Gh
end Go.Gh
namespace Go.Gh
@[ext] structure Edi where
 kind:Int
 node:Int
 other:Int
 lit:Int
 tree:List Nod
 deriving DecidableEq
end Go.Gh
namespace Go.Gh
inductive Fo where
 | nil:Fo
 | cons (id:Int) (rule:ByteArray) (lit:Int) (ks rest:Fo):Fo
namespace Fo
def sz:Fo→Nat
 | nil=>0
 | cons _ _ _ ks rest=>1+ks.sz+rest.sz
def strt:Fo→Int→List Int
 | nil,_ => []
 | cons _ _ _ ks rest,b=>b::rest.strt (b+1+ks.sz)
def flt:Fo→Int→Int→Int→List Nod
 | nil,_,_,_ => []
 | cons i r l ks rest,b,p,q=>⟨i,p,q,l,r,ks.strt (b+1)⟩::(ks.flt (b+1) b 1++rest.flt (b+1+ks.sz) p (q+1))
def one:Fo→Prop
 | cons _ _ _ _ nil=>True
 | _ => False
def app:Fo→Fo→Fo
 | nil,r=>r
 | cons i r l ks rest,s=>cons i r l ks (rest.app s)
theorem flt_len:∀(F:Fo) b p q,(F.flt b p q).length = F.sz
 | nil,_,_,_ => rfl
 | cons _ _ _ ks rest,b,p,q=>by simp[flt,sz,flt_len ks,flt_len rest];omega
theorem strt_rng:∀(F:Fo) b,∀k∈F.strt b,b≤k∧k<b+F.sz
 | nil,_,k,h=>by simp[strt] at h
 | cons _ _ _ ks rest,b,k,h=>by
  simp only[strt,List.mem_cons] at h
  simp only[sz]
  rcases h with rfl|h
  ·omega
  ·have:=strt_rng rest _ k h;omega
theorem flt_rng:∀(F:Fo) b p q,p<b→∀x∈F.flt b p q,(x.parent=p∨(b≤x.parent∧x.parent<b+F.sz))∧∀k∈x.kids,b≤k∧k<b+F.sz
 | nil,_,_,_,_,x,h=>by simp[flt] at h
 | cons i r l ks rest,b,p,q,hp,x,h=>by
  simp only[flt,List.mem_cons,List.mem_append] at h
  simp only[sz]
  rcases h with rfl|h|h
  ·exact ⟨.inl rfl,fun k hk=>by have:=strt_rng ks _ k hk;omega⟩
  ·obtain ⟨h1,h2⟩:=flt_rng ks (b+1) b 1 (by omega) x h
   exact ⟨.inr (by omega),fun k hk=>by have:=h2 k hk;omega⟩
  ·obtain ⟨h1,h2⟩:=flt_rng rest (b+1+ks.sz) p (q+1) (by omega) x h
   exact ⟨by omega,fun k hk=>by have:=h2 k hk;omega⟩
def mvN (d:Int) (x:Nod):Nod:={ x with parent:=x.parent+d,kids:=x.kids.map (· + d) }
theorem strt_mv:∀(F:Fo) b d,(F.strt b).map (· + d)=F.strt (b+d)
 | nil,_,_ => rfl
 | cons _ _ _ ks rest,b,d=>by
  simp only[strt,List.map_cons,strt_mv rest]
  rw[show b+1+(ks.sz:Int)+d=b+d+1+ks.sz by omega]
theorem flt_mv:∀(F:Fo) b p q d,(F.flt b p q).map (mvN d)=F.flt (b+d) (p+d) q
 | nil,_,_,_,_ => rfl
 | cons i r l ks rest,b,p,q,d=>by
  simp only[flt,List.map_cons,List.map_append,flt_mv ks,flt_mv rest,mvN,strt_mv]
  rw[show b+1+(ks.sz:Int)+d=b+d+1+ks.sz by omega,show b+1+d=b+d+1 by omega]
def shZ (e d k:Int):Int:=if e≤k then k+d else k
def ouN (e d:Int) (x:Nod):Nod:={ x with parent:=shZ e d x.parent,kids:=x.kids.map (shZ e d) }
theorem shZ_lo {e d k:Int} (h:k<e):shZ e d k=k:=by unfold shZ;rw[if_neg (by omega)]
theorem shZ_hi {e d k:Int} (h:e≤k):shZ e d k=k+d:=by unfold shZ;rw[if_pos h]
theorem map_lo {e d:Int}:∀{l:List Int},(∀k∈l,k<e)→l.map (shZ e d)=l
 | [],_ => rfl
 | k::l,h=>by
  rw[List.map_cons,shZ_lo (h k (List.mem_cons_self ..)),map_lo fun j hj=>h j (List.mem_cons_of_mem _ hj)]
theorem strt_sh (F:Fo) (b e d:Int) (h:e≤b):(F.strt b).map (shZ e d)=F.strt (b+d):=by
 rw[←strt_mv]
 refine List.map_congr_left fun k hk=> ?_
 have:=strt_rng F b k hk
 exact shZ_hi (by omega)
theorem flt_sh:∀(F:Fo) (b p q e d:Int),e≤b→p<e→(F.flt b p q).map (ouN e d)=F.flt (b+d) p q
 | nil,_,_,_,_,_,_,_ => rfl
 | cons i r l ks rest,b,p,q,e,d,h1,h2=>by
  simp only[flt,List.map_cons,List.map_append,ouN]
  rw[shZ_lo h2,strt_sh ks (b+1) e d (by omega)]
  congr 1
  ·rw[show b+1+d=b+d+1 by omega]
  ·rw[flt_sh rest _ p _ e d (by omega) h2,show b+1+(ks.sz:Int)+d=b+d+1+ks.sz by omega]
   congr 1
   have:ks.flt (b+d+1) (b+d) 1=(ks.flt (b+1) b 1).map (mvN d):=by rw[flt_mv,show b+1+d=b+d+1 by omega]
   rw[this]
   refine List.map_congr_left fun x hx=> ?_
   obtain ⟨a1,a2⟩:=flt_rng ks (b+1) b 1 (by omega) x hx
   simp only[ouN,mvN]
   rw[shZ_hi (by omega)]
   congr 1
   exact List.map_congr_left fun k hk=>shZ_hi (by have:=a2 k hk;omega)
theorem flt_lo (F:Fo) (b p q e d:Int) (h0:p<b) (h1:b+F.sz≤e) (h2:p<e):(F.flt b p q).map (ouN e d)=F.flt b p q:=by
 conv=>rhs;rw[←List.map_id (F.flt b p q)]
 refine List.map_congr_left fun x hx=> ?_
 obtain ⟨a1,a2⟩:=flt_rng F b p q h0 x hx
 simp only[ouN,id]
 rw[shZ_lo (by omega),map_lo fun k hk=>by have:=a2 k hk;omega]
theorem app_sz:∀(F G:Fo),(F.app G).sz = F.sz+G.sz
 | nil,G=>by simp[app,sz]
 | cons i r l ks rest,G=>by simp only[app,sz,app_sz rest G];omega
theorem one_iff {F:Fo}:F.one↔∃i r l ks,F=cons i r l ks nil:=by
 constructor
 ·intro h
  match F,h with
  | cons i r l ks nil,_ => exact ⟨i,r,l,ks,rfl⟩
 ·rintro ⟨i,r,l,ks,rfl⟩;trivial
end Fo
inductive Pa where
 | here:Pa
 | down (π:Pa):Pa
 | next (π:Pa):Pa
namespace Fo
def get:Fo→Pa→Fo
 | nil,_ => nil
 | cons i r l ks _,.here => cons i r l ks nil
 | cons _ _ _ ks _,.down π=>ks.get π
 | cons _ _ _ _ rest,.next π=>rest.get π
def put:Fo→Pa→Fo→Fo
 | nil,_,_ => nil
 | cons _ _ _ _ rest,.here,S=>S.app rest
 | cons i r l ks rest,.down π,S=>cons i r l (ks.put π S) rest
 | cons i r l ks rest,.next π,S=>cons i r l ks (rest.put π S)
def pos:Fo→Pa→Nat
 | nil,_ => 0
 | cons ..,.here => 0
 | cons _ _ _ ks _,.down π=>1+ks.pos π
 | cons _ _ _ ks rest,.next π=>1+ks.sz+rest.pos π
def ok:Fo→Pa→Prop
 | nil,_ => False
 | cons ..,.here => True
 | cons _ _ _ ks _,.down π=>ks.ok π
 | cons _ _ _ _ rest,.next π=>rest.ok π
theorem find:∀(F:Fo) (i:Nat),i<F.sz→∃π,F.ok π∧F.pos π=i
 | nil,i,h=>by simp[sz] at h
 | cons a r l ks rest,i,h=>by
  simp only[sz] at h
  rcases Nat.eq_zero_or_pos i with h0|h0
  ·exact ⟨.here,trivial,by simp[pos,h0]⟩
  rcases Nat.lt_or_ge i (1+ks.sz) with h1|h1
  ·obtain ⟨π,h2,h3⟩:=find ks (i-1) (by omega)
   exact ⟨.down π,h2,by simp only[pos];omega⟩
  ·obtain ⟨π,h2,h3⟩:=find rest (i-1-ks.sz) (by omega)
   exact ⟨.next π,h2,by simp only[pos];omega⟩
theorem get_one:∀{F:Fo} {π:Pa},F.ok π→(F.get π).one
 | cons i r l ks rest,.here,_ => trivial
 | cons i r l ks rest,.down π,h=>get_one (F:=ks) h
 | cons i r l ks rest,.next π,h=>get_one (F:=rest) h
theorem one_pos {F:Fo} (h:F.one):0<F.sz:=by
 obtain ⟨i,r,l,ks,rfl⟩:=one_iff.1 h
 simp[sz];omega
theorem pos_sz:∀{F:Fo} {π:Pa},F.ok π→F.pos π+(F.get π).sz ≤ F.sz
 | cons i r l ks rest,.here,_ => by simp only[pos,get,sz];omega
 | cons i r l ks rest,.down π,h=>by have:=pos_sz (F:=ks) h;simp only[pos,get,sz];omega
 | cons i r l ks rest,.next π,h=>by have:=pos_sz (F:=rest) h;simp only[pos,get,sz];omega
theorem put_sz:∀{F:Fo} {π:Pa} (S:Fo),F.ok π→(F.put π S).sz + (F.get π).sz = F.sz+S.sz
 | cons i r l ks rest,.here,S,_ => by simp only[put,get,sz,app_sz];omega
 | cons i r l ks rest,.down π,S,h=>by have:=put_sz (F:=ks) S h;simp only[put,get,sz];omega
 | cons i r l ks rest,.next π,S,h=>by have:=put_sz (F:=rest) S h;simp only[put,get,sz];omega
end Fo
namespace Fo
theorem strt_put:∀{F:Fo} {π:Pa} {S:Fo} (b:Int),F.ok π→S.one→(F.strt b).map (shZ (b+F.pos π+(F.get π).sz) ((S.sz:Int)-(F.get π).sz))=(F.put π S).strt b
 | cons i r l ks rest,.here,S,b,_,hS=>by
  obtain ⟨_,_,_,ks',rfl⟩:=one_iff.1 hS
  simp only[strt,put,app,pos,get,sz,List.map_cons]
  rw[shZ_lo (by omega),strt_sh _ _ _ _ (by omega)]
  congr 2;omega
 | cons i r l ks rest,.down π,S,b,h,hS=>by
  have h1:=pos_sz (F:=ks) h;have h2:=one_pos (get_one (F:=ks) h);have h3:=put_sz (F:=ks) S h
  simp only[strt,put,pos,get,List.map_cons]
  rw[shZ_lo (by omega),strt_sh _ _ _ _ (by omega)]
  congr 2;omega
 | cons i r l ks rest,.next π,S,b,h,hS=>by
  have h2:=one_pos (get_one (F:=rest) h)
  simp only[strt,put,pos,get,List.map_cons]
  rw[shZ_lo (by omega)]
  have:=strt_put (F:=rest) (b+1+ks.sz) h hS
  rw[←this]
  congr 3;omega
theorem flt_at:∀{F:Fo} {π:Pa} (b p q:Int),F.ok π→p<b →
 ∃(L R:List Nod) (p' q':Int),F.flt b p q=L++((F.get π).flt (b+F.pos π) p' q'++R)∧L.length=F.pos π∧p'<b+F.pos π∧(∀x,R.head?=some x→x.parent<b+F.pos π) ∧
  ∀S:Fo,S.one→(F.put π S).flt b p q=L.map (ouN (b+F.pos π+(F.get π).sz) ((S.sz:Int)-(F.get π).sz))++(S.flt (b+F.pos π) p' q'++R.map (ouN (b+F.pos π+(F.get π).sz) ((S.sz:Int)-(F.get π).sz)))
 | cons i r l ks rest,.here,b,p,q,_,hp=>by
  refine ⟨[],rest.flt (b+1+ks.sz) p (q+1),p,q,by simp[get,flt,pos,sz],rfl,by simp only[pos];omega,?_,fun S hS=> ?_⟩
  ·intro x hx
   cases rest with
   | nil=>simp[flt] at hx
   | cons=>simp only[flt,List.head?_cons,Option.some.injEq] at hx;subst hx;simp only[pos];omega
  ·obtain ⟨i',r',l',ks',rfl⟩:=one_iff.1 hS
   simp only[pos,get,sz,put,app,flt,List.map_nil,List.nil_append,List.append_nil,List.cons_append]
   rw[flt_sh _ _ _ _ _ _ (by omega) (by omega)]
   simp only[Int.natCast_zero,Int.add_zero]
   congr 3;omega
 | cons i r l ks rest,.down π,b,p,q,h,hp=>by
  have h1:=pos_sz (F:=ks) h;have h2:=one_pos (get_one (F:=ks) h)
  obtain ⟨L,R,p',q',e1,e2,e3,e4,e5⟩:=flt_at (F:=ks) (b+1) b 1 h (by omega)
  refine ⟨⟨i,p,q,l,r,ks.strt (b+1)⟩::L,R++rest.flt (b+1+ks.sz) p (q+1),p',q',?_,by simp[pos,e2];omega,by simp only[pos];omega,?_,fun S hS=> ?_⟩
  ·simp only[flt,get,pos,e1]
   rw[show b+((1+ks.pos π:Nat):Int)=b+1+ks.pos π by omega]
   simp
  ·intro x hx
   simp only[pos]
   cases R with
   | nil=>
    cases rest with
    | nil=>simp[flt] at hx
    | cons=>simp only[flt,List.nil_append,List.head?_cons,Option.some.injEq] at hx;subst hx;dsimp only;omega
   | cons y R=>have:=e4 x (by simpa using hx);omega
  ·have h3:=put_sz (F:=ks) S h
   simp only[put,flt,get,pos,e5 S hS,List.map_cons,List.map_append]
   rw[show b+((1+ks.pos π:Nat):Int)=b+1+ks.pos π by omega,flt_sh rest _ p _ _ _ (by omega) (by omega)]
   have hst:=strt_put (F:=ks) (b+1) h hS
   simp only[List.cons_append,List.append_assoc]
   congr 1
   ·simp only[ouN]
    rw[hst,shZ_lo (by omega)]
   ·congr 4;omega
 | cons i r l ks rest,.next π,b,p,q,h,hp=>by
  have h1:=pos_sz (F:=rest) h;have h2:=one_pos (get_one (F:=rest) h)
  obtain ⟨L,R,p',q',e1,e2,e3,e4,e5⟩:=flt_at (F:=rest) (b+1+ks.sz) p (q+1) h (by omega)
  refine ⟨⟨i,p,q,l,r,ks.strt (b+1)⟩::(ks.flt (b+1) b 1++L),R,p',q',?_,by simp[pos,e2,flt_len];omega,by simp only[pos];omega,?_,fun S hS=> ?_⟩
  ·simp only[flt,get,pos,e1]
   rw[show b+((1+ks.sz+rest.pos π:Nat):Int)=b+1+ks.sz+rest.pos π by omega]
   simp
  ·intro x hx
   have:=e4 x hx
   simp only[pos];omega
  ·simp only[put,flt,get,pos,e5 S hS,List.map_cons,List.map_append]
   rw[show b+((1+ks.sz+rest.pos π:Nat):Int)=b+1+ks.sz+rest.pos π by omega,flt_lo ks _ _ _ _ _ (by omega) (by omega) (by omega)]
   simp only[List.cons_append,List.append_assoc]
   congr 1
   simp only[ouN]
   rw[shZ_lo (by omega),map_lo fun k hk=>by have:=strt_rng ks _ k hk;omega]
end Fo
end Go.Gh
namespace Go.Gh
def fitR (g:Gram) (r:ByteArray) (l:Int) (s:ByteArray):Prop:=Y6 g.rules r=true∧(ZH g.rules r).left = s∧(-1000000≤l∧l≤1000000)∧((ZH g.rules r).lit = true∨(ZH g.rules r).lit = false∧l=0)
namespace Fo
def wf (g:Gram):Fo→List ByteArray→Prop
 | nil,[]=>True
 | cons _ r l ks rest,s::ss=>fitR g r l s∧ks.wf g (ZH g.rules r).right ∧ rest.wf g ss
 | _,_ => False
def rul:Fo→ByteArray
 | nil=>noS
 | cons _ r _ _ _ => r
theorem wf_len {g:Gram}:∀{F:Fo} {ss:List ByteArray} (b:Int),F.wf g ss→(F.strt b).length = ss.length
 | nil,[],_,_ => rfl
 | cons _ r l ks rest,s::ss,b,h=>by simp[strt,wf_len (F:=rest) _ h.2.2]
 | nil,_ :: _,_,h=>h.elim
 | cons ..,[],_,h=>h.elim
theorem wf_get {g:Gram}:∀{F:Fo} {π:Pa} {ss:List ByteArray},F.wf g ss→F.ok π→(F.get π).wf g [(ZH g.rules (F.get π).rul).left]
 | cons i r l ks rest,.here,s::ss,h,_ => by
  simp only[wf,get,rul] at h ⊢
  exact ⟨⟨h.1.1,rfl,h.1.2.2⟩,h.2.1,trivial⟩
 | cons i r l ks rest,.down π,s::ss,h,ho=>wf_get (F:=ks) h.2.1 ho
 | cons i r l ks rest,.next π,s::ss,h,ho=>wf_get (F:=rest) h.2.2 ho
 | nil,_,_ :: _,h,_ => h.elim
 | cons ..,_,[],h,_ => h.elim
theorem fit_of {g:Gram} {i p q l:Int} {r s:ByteArray} {ks:Fo} {b:Int} (h:fitR g r l s) (hk:ks.wf g (ZH g.rules r).right):fitV g ⟨i,p,q,l,r,ks.strt b⟩ p q s=true:=
 fitV_iff.2 ⟨h.1,h.2.1,rfl,rfl,wf_len b hk,h.2.2.1,h.2.2.2⟩
theorem walk_ks {g:Gram} {t:List Nod}:∀(F:Fo) (f p:Nat) (ss:List ByteArray) (k:Int) (pre post:List Nod),F.wf g ss→F.sz≤f→t=pre++(F.flt pre.length p (k+1)++post) →
 Za (Zw g t f) p (F.strt pre.length) ss k pre.length=pre.length+F.sz
 | nil,f,p,[],k,pre,post,_,_,_ => by simp[strt,Za,sz]
 | nil,_,_,_ :: _,_,_,_,h,_,_ => h.elim
 | cons ..,_,_,[],_,_,_,h,_,_ => h.elim
 | cons i r l ks rest,f,p,s::ss,k,pre,post,h,hf,ht=>by
  simp only[sz] at hf
  obtain ⟨f,rfl⟩:∃f',f=f'+1:=⟨f-1,by omega⟩
  have hb:((pre.length:Int)+1)=((pre++[(⟨i,p,k+1,l,r,ks.strt (pre.length+1)⟩:Nod)]).length : Int):=by simp
  have h1:Zw g t (f+1) pre.length p (k+1) s=pre.length+1+ks.sz:=by
   have hg:t.getD pre.length Zq=⟨i,p,k+1,l,r,ks.strt (pre.length+1)⟩:=by rw[ht];simp[flt]
   have hl:pre.length<t.length:=by rw[ht];simp[flt]
   simp only[Zw]
   rw[if_pos hl,hg,if_pos (fit_of h.1 h.2.1)]
   dsimp only
   rw[hb]
   refine walk_ks ks f pre.length _ 0 (pre++[⟨i,p,k+1,l,r,ks.strt (pre.length+1)⟩]) (rest.flt ((pre.length:Int)+1+ks.sz) p (k+1+1)++post) h.2.1 (by omega) ?_
   rw[←hb,ht]
   simp[flt]
  simp only[strt,Za,Int.toNat_natCast]
  rw[if_neg (by simp),h1,if_neg (by omega)]
  have hb2:((pre.length:Int)+1+ks.sz)=((pre++((⟨i,p,k+1,l,r,ks.strt (pre.length+1)⟩:Nod)::ks.flt ((pre.length:Int)+1) pre.length 1)).length : Int):=by simp[flt_len];omega
  rw[hb2,walk_ks rest (f+1) p ss (k+1) (pre++(⟨i,p,k+1,l,r,ks.strt (pre.length+1)⟩::ks.flt ((pre.length:Int)+1) pre.length 1)) post h.2.2 (by omega) (by rw[←hb2,ht];simp[flt]),←hb2]
  simp only[sz];omega
theorem fo_tree {g:Gram} {F:Fo} {s:ByteArray} (h1:F.one) (h2:F.wf g [s]) (h3:F.sz≤16) (h4:idsV (F.flt 0 (-1) 0)=true):Y3 g (F.flt 0 (-1) 0) s=true:=by
 obtain ⟨i,r,l,ks,rfl⟩:=one_iff.1 h1
 have hl:=flt_len (cons i r l ks nil) 0 (-1) 0
 simp only[Y3,Bool.and_eq_true,decide_eq_true_eq]
 refine ⟨⟨by rw[hl];simp[sz],by rw[hl];exact h3⟩,h4,?_⟩
 have ht:(cons i r l ks nil).flt 0 (-1) 0=[⟨i, -1,0,l,r,ks.strt (0+1)⟩]++(ks.flt ((1:Nat):Int) ((0:Nat):Int) (0+1)++[]):=by simp[flt]
 have hk:=walk_ks (g:=g) (t:=(cons i r l ks nil).flt 0 (-1) 0) ks ks.sz 0 _ 0 [⟨i, -1,0,l,r,ks.strt (0+1)⟩] [] h2.2.1 (Nat.le_refl _) ht
 rw[hl]
 simp only[sz] at hl ⊢
 rw[show 1+ks.sz+0=ks.sz+1 by omega]
 simp only[Zw]
 rw[if_pos (by rw[hl];omega)]
 have hg:((cons i r l ks nil).flt 0 (-1) 0).getD 0 Zq=⟨i, -1,0,l,r,ks.strt (0+1)⟩:=by rw[ht];simp
 rw[hg,if_pos (fit_of h2.1 h2.2.1)]
 simp only[List.length_cons,List.length_nil,Int.natCast_zero,Int.zero_add] at hk ⊢
 rw[show ((0+1:Nat):Int)=1 by rfl] at hk
 rw[hk];omega
theorem take_two {t:List Nod} {a m n:Nat}:(t.drop a).take (m+n)=(t.drop a).take m++(t.drop (a+m)).take n:=by
 rw[List.take_add,List.drop_drop]
mutual
theorem of_walk {g:Gram} {t:List Nod}:∀(f i:Nat) (p q:Int) (s:ByteArray),0≤Zw g t f i p q s →
 ∃F:Fo,F.one∧F.wf g [s]∧(i+F.sz:Int)=Zw g t f i p q s∧(t.drop i).take F.sz=F.flt i p q
 | 0,i,p,q,s,h=>by simp[Zw] at h
 | f+1,i,p,q,s,h=>by
  simp only[Zw] at h
  split at h
  case isFalse=>omega
  rename_i hi
  split at h
  case isFalse=>omega
  rename_i hf
  obtain ⟨m1,m2,m3,m4,m5,m6,m7⟩:=fitV_iff.1 hf
  obtain ⟨K,k1,k2,k3,k4⟩:=of_kids f i (t.getD i Zq).kids (ZH g.rules (t.getD i Zq).rule).right 0 (i+1) m5 h
  refine ⟨cons (t.getD i Zq).id (t.getD i Zq).rule (t.getD i Zq).lit K nil,trivial,⟨⟨m1,m2,m6,m7⟩,k1,trivial⟩,?_,?_⟩
  ·simp only[Zw]
   rw[if_pos hi,if_pos hf]
   simp only[sz]
   rw[show ((i:Int)+1)=((i+1:Nat):Int) by omega,←k3];omega
  ·simp only[sz,flt,Nat.add_zero,List.append_nil]
   rw[take_two,List.drop_eq_getElem_cons hi]
   simp only[Nat.zero_add,List.take_succ_cons,List.take_zero,List.cons_append,List.nil_append]
   have e:(t.drop (i+1)).take K.sz=K.flt (i+1) i 1:=by
    have:=k4;simpa using this
   rw[e]
   congr 1
   rw[←YS (d:=Zq) hi]
   exact Nod.ext rfl m3 m4 rfl rfl (by rw[show ((i:Int)+1)=((i+1:Nat):Int) by omega];exact k2.symm)
theorem of_kids {g:Gram} {t:List Nod}:∀(f i:Nat) (cs:List Int) (ss:List ByteArray) (k:Int) (a:Nat),cs.length=ss.length→0≤Za (Zw g t f) i cs ss k a →
 ∃F:Fo,F.wf g ss∧F.strt a=cs∧(a+F.sz:Int)=Za (Zw g t f) i cs ss k a∧(t.drop a).take F.sz=F.flt a i (k+1)
 | f,i,[],[],k,a,_,h=>⟨nil,trivial,rfl,by simp[Za,sz],by simp[sz,flt]⟩
 | f,i,[],_ :: _,k,a,hl,h=>by simp at hl
 | f,i,_ :: _,[],k,a,hl,h=>by simp at hl
 | f,i,c::cs,s::ss,k,a,hl,h=>by
  simp only[Za] at h
  split at h
  case isTrue=>omega
  rename_i hc
  have hc:c=a:=by omega
  split at h
  case isTrue=>omega
  rename_i hw
  obtain ⟨A,a1,a2,a3,a4⟩:=of_walk f a i (k+1) s (by simpa using hw)
  obtain ⟨x,r,l,ks,rfl⟩:=one_iff.1 a1
  rw[Int.toNat_natCast] at h
  rw[←a3] at h
  have he:((a:Int)+(cons x r l ks nil).sz)=((a+(cons x r l ks nil).sz : Nat):Int):=by omega
  rw[he] at h
  obtain ⟨B,b1,b2,b3,b4⟩:=of_kids f i cs ss (k+1) _ (by simpa using hl) h
  refine ⟨cons x r l ks B,⟨a2.1,a2.2.1,b1⟩,?_,?_,?_⟩
  ·simp only[strt]
   rw[hc,←b2]
   congr 2
   simp only[sz];omega
  ·simp only[Za]
   rw[if_neg (by omega),Int.toNat_natCast,if_neg (by omega),←a3,he,←b3]
   simp only[sz];omega
  ·have e:(cons x r l ks B).sz = (cons x r l ks nil).sz + B.sz:=by simp only[sz];omega
   rw[e,take_two,a4,b4]
   simp only[flt,List.append_nil,List.cons_append]
   congr 3
   simp only[sz];omega
end
theorem tree_fo {g:Gram} {t:List Nod} {s:ByteArray} (h:Y3 g t s=true):∃F:Fo,F.one∧F.wf g [s]∧F.sz≤16∧t=F.flt 0 (-1) 0:=by
 obtain ⟨h1,h2,h3⟩:=Yv h
 obtain ⟨F,f1,f2,f3,f4⟩:=of_walk (g:=g) (t:=t) t.length 0 (-1) 0 s (by omega)
 have:F.sz=t.length:=by omega
 refine ⟨F,f1,f2,by omega,?_⟩
 rw[this] at f4
 simpa using f4
end Fo
end Go.Gh
namespace Go.Gh
@[ext] structure Tok where
 kind:Int
 num:Int
 at':Int
 text:ByteArray
deriving DecidableEq
def tokZ:Tok:=⟨0,0,0,noS⟩
def isW (t:Tok) (w:ByteArray):Bool:=(decide (t.kind=1)||decide (t.kind=3))&&decide (t.text=w)
inductive PR (α:Type) where
 | bad (i:Nat):PR α
 | ok (a:α) (i:Nat):PR α
def PR.bind {α β:Type}:PR α→(α→Nat→PR β)→PR β
 | .bad i,_ => .bad i
 | .ok a i,f=>f a i
abbrev bs (l:List UInt8):ByteArray:=⟨l.toArray⟩
def wIf:ByteArray:=⟨#[105,102]⟩
def wThen:ByteArray:=⟨#[116,104,101,110]⟩
def wElse:ByteArray:=⟨#[101,108,115,101]⟩
def wTrue:ByteArray:=⟨#[116,114,117,101]⟩
def wFalse:ByteArray:=⟨#[102,97,108,115,101]⟩
def wLit:ByteArray:=⟨#[108,105,116]⟩
def wNone:ByteArray:=⟨#[110,111,110,101]⟩
def wSelf:ByteArray:=⟨#[115,101,108,102]⟩
def wOf:ByteArray:=⟨#[111,102]⟩
def wMax:ByteArray:=⟨#[109,97,120]⟩
def wMin:ByteArray:=⟨#[109,105,110]⟩
def wHas:ByteArray:=⟨#[104,97,115]⟩
def wWith:ByteArray:=⟨#[119,105,116,104]⟩
def wLP:ByteArray:=⟨#[40]⟩
def wRP:ByteArray:=⟨#[41]⟩
def wLB:ByteArray:=⟨#[123]⟩
def wRB:ByteArray:=⟨#[125]⟩
def wComma:ByteArray:=⟨#[44]⟩
def wDot:ByteArray:=⟨#[46]⟩
def wDol:ByteArray:=⟨#[36]⟩
def sees (ts:List Tok) (i:Nat) (w:ByteArray):Bool:=decide (i<ts.length)&&isW (ts.getD i tokZ) w
def takeW (ts:List Tok) (i:Nat) (w:ByteArray):PR Unit:=if sees ts i w=true then .ok () (i+1) else .bad i
def numP (ts:List Tok) (i:Nat) (lo hi:Int):PR Int:=
 if i<ts.length∧(ts.getD i tokZ).kind = 2∧lo≤(ts.getD i tokZ).num ∧ (ts.getD i tokZ).num ≤ hi then .ok (ts.getD i tokZ).num (i+1) else .bad i
def nameP (ts:List Tok) (i:Nat):PR ByteArray:=
 if i<ts.length∧(ts.getD i tokZ).kind = 1∧ZA (ts.getD i tokZ).text = true then .ok (ts.getD i tokZ).text (i+1) else .bad i
def conE (n k:Int):Exp:= .mk 1 n 0 k noS noS []
def opE (op:Int) (a b:Exp):Exp:= .mk 4 op 0 0 noS noS [a,b]
def setP (ts:List Tok):Nat→Nat→Int→Int→PR Int
 | 0,i,_,_ => .bad i
 | f+1,i,least,set=>if sees ts i wRB=true then .ok set (i+1) else (numP ts i least 11).bind fun n j=>setP ts f j (n+1) (orI .i64 set (shlI .i64 1 n))
def funO (s:ByteArray):Int:=if s=wMax then 4 else if s=wMin then 5 else if s=wHas then 11 else if s=wWith then 12 else 0
def opAt (ts:List Tok) (i lv:Nat):Int:=
 if lv=1 then (if sees ts i ⟨#[60]⟩=true then 9 else if sees ts i ⟨#[61,61]⟩=true then 10 else 0) else
 if lv=2 then (if sees ts i ⟨#[43]⟩=true then 1 else if sees ts i ⟨#[45]⟩=true then 2 else if sees ts i ⟨#[124]⟩=true then 6 else if sees ts i ⟨#[92]⟩=true then 8 else 0) else
 if lv=3 then (if sees ts i ⟨#[42]⟩=true then 3 else if sees ts i ⟨#[38]⟩=true then 7 else 0) else 0
def atomP (ts:List Tok) (E A:Nat→PR Exp) (i:Nat):PR Exp:=
 let t:=ts.getD i tokZ
 if ¬i<ts.length then .bad i else
 if t.kind=2 then .ok (conE t.num 1) (i+1) else
 if isW t wLB=true then (setP ts (ts.length+1) (i+1) 0 0).bind fun s j=> .ok (conE s 2) j else
 if isW t wTrue=true then .ok (conE 1 3) (i+1) else
 if isW t wFalse=true then .ok (conE 0 3) (i+1) else
 if isW t wLit=true then .ok (.mk 2 0 0 0 noS noS []) (i+1) else
 if isW t wNone=true then .ok (.mk 7 0 0 0 noS noS []) (i+1) else
 if isW t wDol=true then (numP ts (i+1) 0 3).bind fun p j=>(takeW ts j wDot).bind fun _ j=>(nameP ts j).bind fun n j=> .ok (.mk 3 0 p 0 noS n []) j else
 if isW t wSelf=true then (takeW ts (i+1) wLP).bind fun _ j=>(numP ts j 0 3).bind fun p j=>(takeW ts j wRP).bind fun _ j=> .ok (.mk 6 0 p 0 noS noS []) j else
 if isW t wLP=true then (E (i+1)).bind fun e j=>(takeW ts j wRP).bind fun _ j=> .ok e j else
 if t.kind=1∧funO t.text≠0 then (takeW ts (i+1) wLP).bind fun _ j=>(E j).bind fun a j=>(takeW ts j wComma).bind fun _ j=>(E j).bind fun b j=>(takeW ts j wRP).bind fun _ j=> .ok (opE (funO t.text) a b) j else
 (nameP ts i).bind fun s j=>(takeW ts j wDot).bind fun _ j=>(nameP ts j).bind fun n j=>(takeW ts j wOf).bind fun _ j=>(A j).bind fun e j=> .ok (.mk 8 0 0 0 s n [e]) j
def rowP (ts:List Tok) (X:Nat→PR Exp) (lv:Nat):Nat→Exp→Nat→PR Exp
 | 0,_,i=> .bad i
 | f+1,e,i=>if opAt ts i lv=0 then .ok e i else (X (i+1)).bind fun b j=>if lv=1 then .ok (opE (opAt ts i lv) e b) j else rowP ts X lv f (opE (opAt ts i lv) e b) j
def lvP (ts:List Tok) (X:Nat→PR Exp) (lv i:Nat):PR Exp:=(X i).bind fun e j=>rowP ts X lv (ts.length+1) e j
def exprP (ts:List Tok) (E A:Nat→PR Exp) (i:Nat):PR Exp:=
 if sees ts i wIf=true then (E (i+1)).bind fun a j=>(takeW ts j wThen).bind fun _ j=>(E j).bind fun b j=>(takeW ts j wElse).bind fun _ j=>(E j).bind fun c j=> .ok (.mk 5 0 0 0 noS noS [a,b,c]) j
 else lvP ts (lvP ts (lvP ts A 3) 2) 1 i
mutual
def pE (ts:List Tok):Nat→Nat→PR Exp
 | 0,i=> .bad i
 | f+1,i=>exprP ts (pE ts f) (pA ts f) i
def pA (ts:List Tok):Nat→Nat→PR Exp
 | 0,i=> .bad i
 | f+1,i=>atomP ts (pE ts f) (pA ts f) i
end
def parT (ts:List Tok) (len:Int):Exp×Int:=
 let off (i:Nat):Int:=if i<ts.length then (ts.getD i tokZ).at' else len
 match pE ts (2 * ts.length+4) 0 with
 | .bad i=>(.mk 0 0 0 0 noS noS [],off i)
 | .ok e i=>if i<ts.length then (.mk 0 0 0 0 noS noS [],off i) else if validE e=true then (e, -1) else (.mk 0 0 0 0 noS noS [],0)
end Go.Gh
namespace Go.Gh
def ExtP {α:Type} (P P':PR α):Prop:=∀a i,P = .ok a i→P' = .ok a i
theorem ExtP.refl {α:Type} (P:PR α):ExtP P P:=fun _ _ h=>h
theorem ExtP.bad {α:Type} (i:Nat) (P:PR α):ExtP (.bad i) P:=fun _ _ h=>by cases h
theorem ExtP.bind {α β:Type} {P P':PR α} {f f':α→Nat→PR β} (h:ExtP P P') (hf:∀a i,ExtP (f a i) (f' a i)):ExtP (P.bind f) (P'.bind f'):=by
 intro a i e
 cases P with
 | bad j=>cases e
 | ok b j=>rw[h b j rfl];exact hf b j a i e
theorem ExtP.ite {α:Type} {c:Prop} [Decidable c] {a b a' b':PR α} (h1:c→ExtP a a') (h2:¬c→ExtP b b'):ExtP (if c then a else b) (if c then a' else b'):=by
 by_cases h:c
 ·rw[if_pos h,if_pos h];exact h1 h
 ·rw[if_neg h,if_neg h];exact h2 h
theorem ExtP.trans {α:Type} {P Q R:PR α} (h:ExtP P Q) (k:ExtP Q R):ExtP P R:=fun a i e=>k a i (h a i e)
structure Tail (ts us:List Tok):Prop where
 pre:∀i,i<ts.length→i<us.length∧us.getD i tokZ=ts.getD i tokZ
 len:ts.length≤us.length
 out:∀i w,¬i<ts.length→w≠wRP→sees us i w=false
variable {ts us:List Tok}
theorem Tail.sees (h:Tail ts us) {i:Nat} {w:ByteArray} (hs:sees ts i w=true):sees us i w=true:=by
 simp only[Go.Gh.sees,Bool.and_eq_true,decide_eq_true_eq] at hs ⊢
 obtain ⟨h1,h2⟩:=h.pre i hs.1
 exact ⟨h1,by rw[h2];exact hs.2⟩
theorem Tail.sees_eq (h:Tail ts us) (i:Nat) {w:ByteArray} (hw:w≠wRP):Go.Gh.sees us i w=Go.Gh.sees ts i w:=by
 by_cases hi:i<ts.length
 ·obtain ⟨h1,h2⟩:=h.pre i hi
  simp only[Go.Gh.sees,h2,decide_eq_true h1,decide_eq_true hi]
 ·rw[h.out i w hi hw]
  simp only[Go.Gh.sees,decide_eq_false hi,Bool.false_and]
theorem Tail.take (h:Tail ts us) (i:Nat) (w:ByteArray):ExtP (takeW ts i w) (takeW us i w):=by
 intro a j e
 unfold takeW at *
 split at e
 ·rename_i hs;rw[if_pos (h.sees hs)];exact e
 ·cases e
theorem Tail.num (h:Tail ts us) (i:Nat) (lo hi:Int):ExtP (numP ts i lo hi) (numP us i lo hi):=by
 intro a j e
 unfold numP at *
 split at e
 ·rename_i hs
  obtain ⟨h1,h2⟩:=h.pre i hs.1
  rw[h2,if_pos ⟨h1,hs.2⟩];exact e
 ·cases e
theorem Tail.name (h:Tail ts us) (i:Nat):ExtP (nameP ts i) (nameP us i):=by
 intro a j e
 unfold nameP at *
 split at e
 ·rename_i hs
  obtain ⟨h1,h2⟩:=h.pre i hs.1
  rw[h2,if_pos ⟨h1,hs.2⟩];exact e
 ·cases e
theorem Tail.set (h:Tail ts us):∀(f f':Nat) (i:Nat) (l s:Int),f≤f'→ExtP (setP ts f i l s) (setP us f' i l s)
 | 0,_,i,l,s,_ => ExtP.bad _ _
 | f+1,0,i,l,s,hf=>by omega
 | f+1,f'+1,i,l,s,hf=>by
  simp only[setP]
  rw[h.sees_eq i (w:=wRB) (by decide)]
  split
  ·exact .refl _
  ·exact (h.num i l 11).bind fun n j=>h.set f f' _ _ _ (by omega)
theorem Tail.op (h:Tail ts us) (i lv:Nat):opAt us i lv=opAt ts i lv:=by
 unfold opAt
 simp only[h.sees_eq i (w:=⟨#[60]⟩) (by decide),h.sees_eq i (w:=⟨#[61,61]⟩) (by decide),h.sees_eq i (w:=⟨#[43]⟩) (by decide),h.sees_eq i (w:=⟨#[45]⟩) (by decide),h.sees_eq i (w:=⟨#[124]⟩) (by decide),h.sees_eq i (w:=⟨#[92]⟩) (by decide),h.sees_eq i (w:=⟨#[42]⟩) (by decide),h.sees_eq i (w:=⟨#[38]⟩) (by decide)]
theorem Tail.row (h:Tail ts us) {X X':Nat→PR Exp} (hX:∀i,ExtP (X i) (X' i)) (lv:Nat):∀(f f':Nat) (e:Exp) (i:Nat),f≤f'→ExtP (rowP ts X lv f e i) (rowP us X' lv f' e i)
 | 0,_,e,i,_ => ExtP.bad _ _
 | f+1,0,e,i,hf=>by omega
 | f+1,f'+1,e,i,hf=>by
  simp only[rowP]
  rw[h.op]
  split
  ·exact .refl _
  ·refine (hX _).bind fun b j=> ?_
   split
   ·exact .refl _
   ·exact h.row hX lv f f' _ _ (by omega)
theorem Tail.lv (h:Tail ts us) {X X':Nat→PR Exp} (hX:∀i,ExtP (X i) (X' i)) (lv i:Nat):ExtP (lvP ts X lv i) (lvP us X' lv i):=
 (hX i).bind fun e j=>h.row hX lv _ _ _ _ (by have:=h.len;omega)
theorem Tail.atom (h:Tail ts us) {E E' A A':Nat→PR Exp} (hE:∀i,ExtP (E i) (E' i)) (hA:∀i,ExtP (A i) (A' i)) (i:Nat):ExtP (atomP ts E A i) (atomP us E' A' i):=by
 by_cases hi:i<ts.length
 ·obtain ⟨h1,h2⟩:=h.pre i hi
  unfold atomP
  dsimp only
  rw[h2,if_neg (not_not_intro hi),if_neg (not_not_intro h1)]
  refine ExtP.ite (fun _ => ?_) (fun _ => ?_)
  ·exact .refl _
  refine ExtP.ite (fun _ => ?_) (fun _ => ?_)
  ·exact (h.set _ _ _ _ _ (by have:=h.len;omega)).bind fun _ _ => .refl _
  refine ExtP.ite (fun _ => ?_) (fun _ => ?_)
  ·exact .refl _
  refine ExtP.ite (fun _ => ?_) (fun _ => ?_)
  ·exact .refl _
  refine ExtP.ite (fun _ => ?_) (fun _ => ?_)
  ·exact .refl _
  refine ExtP.ite (fun _ => ?_) (fun _ => ?_)
  ·exact .refl _
  refine ExtP.ite (fun _ => ?_) (fun _ => ?_)
  ·exact (h.num _ _ _).bind fun _ _ => (h.take _ _).bind fun _ _ => (h.name _).bind fun _ _ => .refl _
  refine ExtP.ite (fun _ => ?_) (fun _ => ?_)
  ·exact (h.take _ _).bind fun _ _ => (h.num _ _ _).bind fun _ _ => (h.take _ _).bind fun _ _ => .refl _
  refine ExtP.ite (fun _ => ?_) (fun _ => ?_)
  ·exact (hE _).bind fun _ _ => (h.take _ _).bind fun _ _ => .refl _
  refine ExtP.ite (fun _ => ?_) (fun _ => ?_)
  ·exact (h.take _ _).bind fun _ _ => (hE _).bind fun _ _ => (h.take _ _).bind fun _ _ => (hE _).bind fun _ _ => (h.take _ _).bind fun _ _ => .refl _
  ·exact (h.name _).bind fun _ _ => (h.take _ _).bind fun _ _ => (h.name _).bind fun _ _ => (h.take _ _).bind fun _ _ => (hA _).bind fun _ _ => .refl _
 ·intro a j e
  unfold atomP at e
  dsimp only at e
  rw[if_pos hi] at e
  cases e
theorem Tail.expr (h:Tail ts us) {E E' A A':Nat→PR Exp} (hE:∀i,ExtP (E i) (E' i)) (hA:∀i,ExtP (A i) (A' i)) (i:Nat):ExtP (exprP ts E A i) (exprP us E' A' i):=by
 unfold exprP
 rw[h.sees_eq i (w:=wIf) (by decide)]
 split
 ·exact (hE _).bind fun _ _ => (h.take _ _).bind fun _ _ => (hE _).bind fun _ _ => (h.take _ _).bind fun _ _ => (hE _).bind fun _ _ => .refl _
 ·exact h.lv (fun i=>h.lv (fun i=>h.lv hA 3 i) 2 i) 1 i
mutual
theorem Tail.pE (h:Tail ts us):∀(f f' i:Nat),f≤f'→ExtP (pE ts f i) (pE us f' i)
 | 0,_,i,_ => ExtP.bad _ _
 | f+1,0,i,hf=>by omega
 | f+1,f'+1,i,hf=>h.expr (fun i=>Tail.pE h f f' i (by omega)) (fun i=>Tail.pA h f f' i (by omega)) i
theorem Tail.pA (h:Tail ts us):∀(f f' i:Nat),f≤f'→ExtP (pA ts f i) (pA us f' i)
 | 0,_,i,_ => ExtP.bad _ _
 | f+1,0,i,hf=>by omega
 | f+1,f'+1,i,hf=>h.atom (fun i=>Tail.pE h f f' i (by omega)) (fun i=>Tail.pA h f f' i (by omega)) i
end
def BdP {α:Type} (ts:List Tok) (i:Nat) (P:PR α):Prop:=i≤ts.length→∀a j,P = .ok a j→i≤j∧j≤ts.length
theorem BdP.bind {α β:Type} {i:Nat} {P:PR α} {f:α→Nat→PR β} (h:BdP ts i P) (hf:∀a j,BdP ts j (f a j)):BdP ts i (P.bind f):=by
 intro hi a j e
 cases P with
 | bad k=>cases e
 | ok b k=>
  obtain ⟨h1,h2⟩:=h hi b k rfl
  obtain ⟨h3,h4⟩:=hf b k h2 a j e
  exact ⟨by omega,h4⟩
theorem BdP.ite {α:Type} {i:Nat} {c:Prop} [Decidable c] {a b:PR α} (h1:c→BdP ts i a) (h2:¬c→BdP ts i b):BdP ts i (if c then a else b):=by
 by_cases h:c
 ·rw[if_pos h];exact h1 h
 ·rw[if_neg h];exact h2 h
theorem BdP.at {α:Type} {i j:Nat} (a:α) (h:i≤j) (hj:i≤ts.length→j≤ts.length):BdP ts i (PR.ok a j):=by
 intro hi b k e
 cases e
 exact ⟨h,hj hi⟩
theorem BdP.ok {α:Type} {i:Nat} (a:α):BdP ts i (PR.ok a i):= .at a (Nat.le_refl _) fun h=>h
theorem BdP.next {α:Type} {i:Nat} (a:α) (h:i<ts.length):BdP ts i (PR.ok a (i+1)):= .at a (by omega) fun _ => h
theorem BdP.bad {α:Type} {i k:Nat}:BdP ts i (PR.bad k:PR α):=fun _ a j e=>by cases e
theorem BdP.skip {α:Type} {i:Nat} {P:PR α} (h:i<ts.length) (hP:BdP ts (i+1) P):BdP ts i P:=fun hi a j e=>by
 obtain ⟨h1,h2⟩:=hP h a j e
 exact ⟨by omega,h2⟩
end Go.Gh
namespace Go.Gh
open Lib
def spanL (p:UInt8→Bool):List UInt8→Nat
 | []=>0
 | c::l=>if p c=true then spanL p l+1 else 0
def Zh (l:List UInt8):Int:=l.foldl (fun n c=>10 * n+((c.toNat:Int)-48)) 0
def numT (w:List UInt8):Option Int:=if itoa (Zh w)=w∧Zh w≤1000000 then some (Zh w) else none
def alnV (c:UInt8):Bool:=YY c||Zr c
def symC:List UInt8:=[40,41,123,125,44,46,36,43,45,42,60,124,38,92]
def tokN (l:List UInt8) (k:Nat):Tok×Nat:=
 if h:k<l.length then
  if YY l[k]=true then
   if spanL alnV (l.drop k)≤8 then (⟨1,0,k,⟨((l.drop k).take (spanL alnV (l.drop k))).toArray⟩⟩,spanL alnV (l.drop k)) else (tokZ,0)
  else if Zr l[k]=true then
   match numT ((l.drop k).take (spanL Zr (l.drop k))) with
   | some n=>(⟨2,n,k,noS⟩,spanL Zr (l.drop k))
   | none=>(tokZ,0)
  else if l[k]∈symC then (⟨3,0,k,⟨#[l[k]]⟩⟩,1)
  else if l[k]=61∧l[k+1]? = some 61 then (⟨3,0,k,⟨#[61,61]⟩⟩,2)
  else (tokZ,0)
 else (tokZ,0)
def tokL (l:List UInt8):Nat→Nat→List Tok→List Tok×Int
 | 0,k,_ => ([],k)
 | f+1,k,out=>
  if h:k<l.length then
   if l[k]=32 then tokL l f (k+1) out
   else if (tokN l k).2 = 0∨out.length=80 then ([],k)
   else tokL l f (k+(tokN l k).2) (out++[(tokN l k).1])
  else (out, -1)
def tokz (l:List UInt8):List Tok×Int:=if 160<l.length then ([],160) else tokL l (l.length+1) 0 []
def parV (l:List UInt8):Exp×Int:=if (tokz l).2 ≥ 0 then (.mk 0 0 0 0 noS noS [],(tokz l).2) else parT (tokz l).1 l.length
end Go.Gh
namespace Go.Gh
open Lib
abbrev Key:=Int×Int×ByteArray
abbrev It:=Option Key
def rendK (x:Key):List UInt8:=if x.1=2 then itoa x.2.1 else Z6 x.2.2
def rendI:It→List UInt8
 | none=>[32]
 | some x=>rendK x
def rend (l:List It):List UInt8:=l.flatMap rendI
def keys (l:List It):List Key:=l.filterMap id
abbrev wd (w:ByteArray):It:=some (1,0,w)
abbrev sy (c:UInt8):It:=some (3,0,⟨#[c]⟩)
abbrev nb (n:Int):It:=some (2,n,noS)
theorem rend_nil:rend []=[]:=rfl
theorem rend_cons (x:It) (l:List It):rend (x::l)=rendI x++rend l:=rfl
theorem rend_app (a b:List It):rend (a++b)=rend a++rend b:=by simp[rend]
def alnK (x:Key):Bool:=decide (x.1=1∨x.1=2)
def alnI:It→Bool
 | none=>false
 | some x=>alnK x
def sepI:List It→Bool
 | []=>true
 | [_]=>true
 | x::y::l=> !(alnI x&&alnI y)&&sepI (y::l)
theorem sep_mid {x:It} (hx:alnI x=false) (r:List It):∀l:List It,sepI (l++x::r)=(sepI l&&sepI (x::r))
 | []=>by simp[sepI]
 | [y]=>by simp[sepI,hx]
 | y::z::l=>by
  have:=sep_mid hx r (z::l)
  simp only[List.cons_append,sepI] at this ⊢
  rw[this,Bool.and_assoc]
theorem sep_cons {x:It} (hx:alnI x=false) (r:List It):sepI (x::r)=sepI r:=by
 cases r with
 | nil=>rfl
 | cons y l=>simp[sepI,hx]
def goodK (x:Key):Prop:=
 (x.1=1∧x.2.1=0∧shp (Z6 x.2.2)=true∧(Z6 x.2.2).length ≤ 8)∨(x.1=2∧x.2.2=noS∧0≤x.2.1∧x.2.1≤1000000) ∨
 (x.1=3∧x.2.1=0∧((∃c∈symC,x.2.2=⟨#[c]⟩)∨x.2.2=⟨#[61,61]⟩))
def goodI:It→Prop
 | none=>True
 | some x=>goodK x
theorem valD_snoc (l:List UInt8) (c:UInt8):Zh (l++[c])=10 * Zh l+((c.toNat:Int)-48):=by simp[Zh]
theorem dig_toNat:∀d,d<10→(UInt8.ofNat (48+d)).toNat = 48+d:=by decide
theorem dig_digV:∀d,d<10→Zr (UInt8.ofNat (48+d))=true:=by decide
theorem dec_ind {p:Nat→List UInt8→Prop} (h0:∀u,u<10→p u [UInt8.ofNat (48+u)]) (h1:∀u,¬u<10→p (u / 10) (decDigits (u / 10))→p u (decDigits (u / 10)++[UInt8.ofNat (48+u % 10)])) (u:Nat):p u (decDigits u):=by
 induction u using Nat.strongRecOn with
 | _ u ih=>
  by_cases h:u<10
  ·rw[decDigits_one h];exact h0 u h
  ·rw[decDigits,dif_neg h]
   exact h1 u h (ih (u / 10) (by omega))
theorem valD_dec (u:Nat):Zh (decDigits u)=u:=by
 refine dec_ind (p:=fun u l=>Zh l=u) (fun u h=> ?_) (fun u h ih=> ?_) u
 ·have:=dig_toNat u h
  simp only[Zh,List.foldl_cons,List.foldl_nil,this]
  omega
 ·rw[valD_snoc,ih,dig_toNat _ (Nat.mod_lt _ (by decide))]
  omega
theorem dec_dig (u:Nat):(∀c∈decDigits u,Zr c=true)∧decDigits u≠[]:=by
 refine dec_ind (p:=fun u l=>(∀c∈l,Zr c=true)∧l≠[]) (fun u h=> ?_) (fun u h ih=> ?_) u
 ·exact ⟨fun c hc=>by rw[List.mem_singleton] at hc;subst hc;exact dig_digV u h,by simp⟩
 ·refine ⟨fun c hc=> ?_,by simp⟩
  rcases List.mem_append.1 hc with hc|hc
  ·exact ih.1 c hc
  ·rw[List.mem_singleton] at hc;subst hc;exact dig_digV _ (Nat.mod_lt _ (by decide))
theorem itoa_dec {n:Int} (h:0≤n):itoa n=decDigits n.toNat:=by unfold itoa;rw[if_neg (by omega)]
def keyT (t:Tok):Key:=(t.kind,t.num,t.text)
end Go.Gh
namespace Go.Gh
open Lib
def opLv (n:Int):Nat:=if n=9∨n=10 then 1 else if n=1∨n=2∨n=6∨n=8 then 2 else if n=3∨n=7 then 3 else 4
def lvE (e:Exp):Nat:=if e.kind=5 then 0 else if e.kind=4 then opLv e.n else 4
def opK (n:Int):Key:=
 if n=1 then (3,0,⟨#[43]⟩) else if n=2 then (3,0,⟨#[45]⟩) else if n=3 then (3,0,⟨#[42]⟩) else if n=4 then (1,0,wMax) else if n=5 then (1,0,wMin) else if n=6 then (3,0,⟨#[124]⟩) else
 if n=7 then (3,0,⟨#[38]⟩) else if n=8 then (3,0,⟨#[92]⟩) else if n=9 then (3,0,⟨#[60]⟩) else if n=10 then (3,0,⟨#[61,61]⟩) else if n=11 then (1,0,wHas) else (1,0,wWith)
def joinI:List It→List It
 | []=>[]
 | [x]=>[x]
 | x::y::l=>x::none::joinI (y::l)
def setL (n:Int):List Nat:=(List.range 12).filter fun k=>n.toNat.testBit k
def setI (n:Int):List It:=sy 123::(joinI ((setL n).map fun k:Nat=>nb (k:Int))++[sy 125])
def conI (n t:Int):List It:=if t=1 then [nb n] else if t=3 then [wd (if n=1 then wTrue else wFalse)] else setI n
def opnd (L:Nat) (x:Nat×List It):List It:=if x.1<L then sy 40::(x.2++[sy 41]) else x.2
def itN (k n p t:Int) (s m:ByteArray) (xs:List (Nat×List It)):List It:=
 if k=1 then conI n t else if k=2 then [wd wLit] else if k=3 then [sy 36,nb p,sy 46,wd m] else
 if k=5 then wd wIf::none::((xs.getD 0 (4,[])).2 ++ none::wd wThen::none::((xs.getD 1 (4,[])).2 ++ none::wd wElse::none::(xs.getD 2 (4,[])).2)) else
 if k=6 then [wd wSelf,sy 40,nb p,sy 41] else if k=7 then [wd wNone] else
 if k=8 then wd s::sy 46::wd m::none::wd wOf::none::opnd 4 (xs.getD 0 (4,[])) else
 if opLv n=4 then some (opK n)::sy 40::((xs.getD 0 (4,[])).2 ++ sy 44::none::((xs.getD 1 (4,[])).2 ++ [sy 41])) else
 opnd (max (opLv n) 2) (xs.getD 0 (4,[]))++none::some (opK n)::none::opnd (opLv n+1) (xs.getD 1 (4,[]))
mutual
def itE:Exp→List It
 | .mk k n p t s m a=>itN k n p t s m (itL a)
def itL:List Exp→List (Nat×List It)
 | []=>[]
 | e::l=>(lvE e,itE e)::itL l
end
theorem itL_eq (l:List Exp):itL l=l.map fun e=>(lvE e,itE e):=by
 induction l with
 | nil=>rfl
 | cons e l ih=>simp[itL,ih]
theorem itE_eq (e:Exp):itE e=itN e.kind e.n e.pos e.type e.sym e.name (e.args.map fun e=>(lvE e,itE e)):=by
 cases e;simp only[itE,itL_eq];rfl
abbrev kE (e:Exp):List Key:=keys (itE e)
variable {ts:List Tok}
def Sf (ts:List Tok) (i:Nat) (R:List Key):Prop:=(ts.map keyT).drop i=R
theorem Sf.cons {i:Nat} {x:Key} {R:List Key} (h:Sf ts i (x::R)):i<ts.length∧keyT (ts.getD i tokZ)=x∧Sf ts (i+1) R:=by
 unfold Sf at *
 have hlt:i<ts.length:=by
  rcases Nat.lt_or_ge i ts.length with h1|h1
  ·exact h1
  ·rw[List.drop_eq_nil_of_le (by simpa using h1)] at h;cases h
 rw[List.drop_eq_getElem_cons (by simpa using hlt)] at h
 simp only[List.getElem_map,List.cons.injEq] at h
 exact ⟨hlt,by rw[YS hlt];exact h.1,h.2⟩
theorem Sf.nil {i:Nat} (h:Sf ts i []):¬i<ts.length:=by
 unfold Sf at h
 have:=List.drop_eq_nil_iff.1 h
 simpa using this
theorem Sf.app {i:Nat} {A R:List Key} (h:Sf ts i (A++R)):Sf ts (i+A.length) R:=by
 unfold Sf at *
 rw[←List.drop_drop,h]
 simp
theorem Sf.len {i:Nat} {R:List Key} (h:Sf ts i R):R.length=ts.length-i:=by
 unfold Sf at h
 rw[←h]
 simp
def isK (x:Key) (w:ByteArray):Bool:=(decide (x.1=1)||decide (x.1=3))&&decide (x.2.2=w)
theorem Sf.isW {i:Nat} {x:Key} {R:List Key} (h:Sf ts i (x::R)) (w:ByteArray):isW (ts.getD i tokZ) w=isK x w:=by
 obtain ⟨_,h2,_⟩:=h.cons
 rw[←h2]
 rfl
theorem Sf.sees {i:Nat} {x:Key} {R:List Key} (h:Sf ts i (x::R)) (w:ByteArray):sees ts i w=isK x w:=by
 unfold Go.Gh.sees
 rw[h.isW w,decide_eq_true h.cons.1,Bool.true_and]
theorem Sf.seesN {i:Nat} (h:Sf ts i []) (w:ByteArray):Go.Gh.sees ts i w=false:=by
 unfold Go.Gh.sees
 rw[decide_eq_false h.nil,Bool.false_and]
theorem Sf.take {i:Nat} {x:Key} {R:List Key} {w:ByteArray} (h:Sf ts i (x::R)) (hw:isK x w=true):takeW ts i w = .ok () (i+1):=by
 unfold takeW
 rw[h.sees w,if_pos hw]
theorem Sf.num {i:Nat} {n lo hi:Int} {t:ByteArray} {R:List Key} (h:Sf ts i ((2,n,t)::R)) (h1:lo≤n) (h2:n≤hi):numP ts i lo hi = .ok n (i+1):=by
 obtain ⟨a,b,_⟩:=h.cons
 simp only[keyT,Prod.mk.injEq] at b
 unfold numP
 rw[b.1,b.2.1,if_pos ⟨a,rfl,h1,h2⟩]
theorem Sf.name {i:Nat} {n:Int} {t:ByteArray} {R:List Key} (h:Sf ts i ((1,n,t)::R)) (h1:ZA t=true):nameP ts i = .ok t (i+1):=by
 obtain ⟨a,b,_⟩:=h.cons
 simp only[keyT,Prod.mk.injEq] at b
 unfold nameP
 rw[b.1,b.2.2,if_pos ⟨a,rfl,h1⟩]
def opKy (x:Key) (lv:Nat):Int:=
 if lv=1 then (if isK x ⟨#[60]⟩=true then 9 else if isK x ⟨#[61,61]⟩=true then 10 else 0) else
 if lv=2 then (if isK x ⟨#[43]⟩=true then 1 else if isK x ⟨#[45]⟩=true then 2 else if isK x ⟨#[124]⟩=true then 6 else if isK x ⟨#[92]⟩=true then 8 else 0) else
 if lv=3 then (if isK x ⟨#[42]⟩=true then 3 else if isK x ⟨#[38]⟩=true then 7 else 0) else 0
def opR:List Key→Nat→Int
 | [],_ => 0
 | x :: _,lv=>opKy x lv
theorem Sf.op {i:Nat} {R:List Key} (h:Sf ts i R) (lv:Nat):opAt ts i lv=opR R lv:=by
 cases R with
 | nil=>unfold opAt;simp[h.seesN,opR]
 | cons x R=>unfold opAt;simp only[h.sees,opR,opKy]
theorem mem12 {n:Int} (h:1≤n) (h2:n≤12):n∈[(1:Int),2,3,4,5,6,7,8,9,10,11,12]:=by simp;omega
def NoOp (R:List Key) (L:Nat):Prop:=∀l,L≤l→l≤3→opR R l=0
theorem NoOp.mono {R:List Key} {L M:Nat} (h:NoOp R L) (hm:L≤M):NoOp R M:=fun l h1 h2=>h l (by omega) h2
def XL (ts:List Tok) (f:Nat) (L:Nat):Nat→PR Exp:=
 if L=1 then lvP ts (lvP ts (lvP ts (pA ts f) 3) 2) 1 else if L=2 then lvP ts (lvP ts (pA ts f) 3) 2 else if L=3 then lvP ts (pA ts f) 3 else pA ts f
theorem XL_4 (f:Nat):XL ts f 4=pA ts f:=rfl
theorem XL_lv (f:Nat) {L:Nat} (h1:1≤L) (h2:L≤3):XL ts f L=lvP ts (XL ts f (L+1)) L:=by
 rcases show L=1∨L=2∨L=3 by omega with rfl|rfl|rfl<;>rfl
theorem Tail.refl (ts:List Tok):Tail ts ts where
 pre i hi:=⟨hi,rfl⟩
 len:=Nat.le_refl _
 out i w hi _ := by simp[Go.Gh.sees,hi]
theorem row_mono {X:Nat→PR Exp} {lv F F':Nat} {e r:Exp} {i j:Nat} (hF:F≤F') (h:rowP ts X lv F e i = .ok r j):rowP ts X lv F' e i = .ok r j:=
 (Tail.refl ts).row (fun i=>ExtP.refl _) lv F F' e i hF r j h
theorem row_stop {X:Nat→PR Exp} {lv F:Nat} {e:Exp} {i:Nat} {R:List Key} (h:Sf ts i R) (h0:opR R lv=0):rowP ts X lv (F+1) e i = .ok e i:=by
 simp only[rowP]
 rw[if_pos (by rw[h.op];exact h0)]
theorem lv_one {X:Nat→PR Exp} {lv F:Nat} {e r:Exp} {i j k:Nat} (hX:X i = .ok e j) (hF:F≤ts.length+1) (h:rowP ts X lv F e j = .ok r k):lvP ts X lv i = .ok r k:=by
 unfold lvP
 rw[hX]
 exact row_mono hF h
theorem XL_down {f L M i j:Nat} {e:Exp} {R:List Key} (hL:1≤L) (hM:M≤4) (hLM:L≤M) (hR:Sf ts j R) (h0:NoOp R L) (h:XL ts f M i = .ok e j):XL ts f L i = .ok e j:=by
 obtain ⟨d,rfl⟩:∃d,M=L+d:=⟨M-L,by omega⟩
 induction d generalizing L with
 | zero=>exact h
 | succ d ih=>
  have h2:=ih (L:=L+1) (by omega) (h0.mono (by omega)) (by omega) (by omega) (by rw[show L+1+d=L+(d+1) by omega];exact h)
  rw[XL_lv f hL (by omega)]
  exact lv_one (F:=1) h2 (by omega) (row_stop hR (h0 L (by omega) (by omega)))
structure RdA (e:Exp):Prop where
 atom:lvE e=4→∀(ts:List Tok) (f i:Nat) (R:List Key),Sf ts i (kE e++R)→2 * (kE e).length + 1≤f→pA ts f i = .ok e (i+(kE e).length)
 one:lvE e=1→∀(ts:List Tok) (f i:Nat) (R:List Key),Sf ts i (kE e++R)→2 * (kE e).length + 1≤f→NoOp R 1→XL ts f 1 i = .ok e (i+(kE e).length)
 own:∀(lv:Nat),2≤lv→lv≤3→lvE e=lv→∀(ts:List Tok) (f i:Nat) (R:List Key),Sf ts i (kE e++R)→2 * (kE e).length + 1≤f→NoOp R (lv+1) →
  ∀F r j,F+(kE e).length ≤ ts.length+1→rowP ts (XL ts f (lv+1)) lv F e (i+(kE e).length) = .ok r j→XL ts f lv i = .ok r j
theorem RdA.at {e:Exp} (h:RdA e) {L:Nat} (h1:1≤L) (h2:L≤lvE e) (h4:lvE e≤4) {f i:Nat} {R:List Key} (hs:Sf ts i (kE e++R)) (hf:2 * (kE e).length + 1≤f) (hR:NoOp R L):XL ts f L i = .ok e (i+(kE e).length):=by
 refine XL_down h1 h4 h2 hs.app hR ?_
 by_cases e1:lvE e=1
 ·rw[e1]
  exact h.one e1 ts f i R hs hf (by rw[show L=1 by omega] at hR;exact hR)
 rcases Nat.lt_or_ge (lvE e) 4 with h3|h3
 ·refine h.own (lvE e) (by omega) (by omega) rfl ts f i R hs hf (hR.mono (by omega)) 1 e _ ?_ (row_stop hs.app (hR _ h2 (by omega)))
  have:=hs.len
  simp at this
  omega
 ·have e4:lvE e=4:=by omega
  rw[e4,XL_4]
  exact h.atom e4 ts f i R hs hf
end Go.Gh
namespace Go.Gh
open Lib
variable {ts:List Tok}
theorem Sf.kind {i:Nat} {x:Key} {R:List Key} (h:Sf ts i (x::R)):(ts.getD i tokZ).kind = x.1:=by rw[←h.cons.2.1];rfl
theorem Sf.text {i:Nat} {x:Key} {R:List Key} (h:Sf ts i (x::R)):(ts.getD i tokZ).text = x.2.2:=by rw[←h.cons.2.1];rfl
end Go.Gh
namespace Go.Gh
open Lib
variable {ts:List Tok}
end Go.Gh
namespace Go.Gh
open Lib
structure GdI (l:List It):Prop where
 good:∀x∈l,goodI x
 sep:sepI l=true
theorem GdI.nil:GdI []:=⟨by simp,rfl⟩
theorem GdI.one {x:It} (h:goodI x):GdI [x]:=⟨by simpa using h,rfl⟩
theorem GdI.mid {a r:List It} {x:It} (ha:GdI a) (hx:alnI x=false) (hg:goodI x) (hr:GdI r):GdI (a++x::r):=
 ⟨fun y hy=>by
  rcases List.mem_append.1 hy with h|h
  ·exact ha.good y h
  ·rcases List.mem_cons.1 h with rfl|h
   ·exact hg
   ·exact hr.good y h,
  by rw[sep_mid hx,ha.sep,sep_cons hx,hr.sep];rfl⟩
theorem GdI.cons {r:List It} {x:It} (hx:alnI x=false) (hg:goodI x) (hr:GdI r):GdI (x::r):=GdI.nil.mid hx hg hr
theorem GdI.hd {r:List It} {x y:It} (hg:goodI x) (hy:alnI y=false) (hg2:goodI y) (hr:GdI r):GdI (x::y::r):=(GdI.one hg).mid hy hg2 hr
def txtE (e:Exp):List UInt8:=rend (itE e)
end Go.Gh
namespace Go.Gh
open Lib
variable {ts:List Tok}
theorem toNat_ofInt {a:Int} (h0:0≤a) (h:a<18446744073709551616):(BitVec.ofInt 64 a).toNat = a.toNat:=by
 rw[BitVec.toNat_ofInt]
 omega
end Go.Gh
namespace Go.Gh
open Go.Lib
def eqT (q:Eqn):List UInt8:=[101,113,32,36]++(itoa q.pos++46::(Z6 q.name++([32,58,61,32]++txtE q.expr)))
def spl (b:UInt8):List UInt8→List (List UInt8)
 | []=>[[]]
 | c::l=>if c=b then []::spl b l else match spl b l with
  | []=>[[c]]
  | w::ws=>(c::w)::ws
theorem letV_rng {c:UInt8} (h:YY c=true):97≤c.toNat∧c.toNat≤122:=by
 simp only[YY,Bool.and_eq_true,decide_eq_true_eq] at h
 omega
theorem digV_rng {c:UInt8} (h:Zr c=true):48≤c.toNat∧c.toNat≤57:=by
 simp only[Zr,Bool.and_eq_true,decide_eq_true_eq] at h
 omega
theorem nameV_mem {s:ByteArray} (h:ZA s=true):∀c∈Z6 s,48≤c.toNat∧(c.toNat≤57∨97≤c.toNat)∧c.toNat≤122:=by
 simp only[ZA,Bool.and_eq_true] at h
 intro c hc
 obtain ⟨j,hj,rfl⟩:=List.mem_iff_getElem.1 hc
 rcases ((shp_iff _).1 h.1.1).2 j hj with h1|⟨_,h1⟩
 ·have:=letV_rng h1;omega
 ·have:=digV_rng h1;omega
end Go.Gh
namespace Go.Gh
open Lib
theorem valD_acc:∀(l:List UInt8) (n:Int),0≤n→(∀c∈l,Zr c=true)→0≤l.foldl (fun n c=>10 * n+((c.toNat:Int)-48)) n∧l.foldl (fun n c=>10 * n+((c.toNat:Int)-48)) n<(n+1) * 10 ^ l.length
 | [],n,h0,_ => by simp;omega
 | c::l,n,h0,h=>by
  have h2:=h c (by simp)
  simp only[Zr,Bool.and_eq_true,decide_eq_true_eq] at h2
  have:=valD_acc l (10 * n+((c.toNat:Int)-48)) (by omega) fun d hd=>h d (by simp[hd])
  simp only[List.foldl_cons,List.length_cons]
  refine ⟨this.1,Int.lt_of_lt_of_le this.2 ?_⟩
  rw[Int.pow_succ,Int.mul_comm (10 ^ l.length) 10,←Int.mul_assoc]
  exact Int.mul_le_mul_of_nonneg_right (by omega) (Int.pow_nonneg (by omega))
theorem fold_ge:∀(l:List UInt8) (n:Int),0≤n→(∀c∈l,Zr c=true)→n≤l.foldl (fun n c=>10 * n+((c.toNat:Int)-48)) n
 | [],n,h0,_ => Int.le_refl _
 | c::l,n,h0,h=>by
  have h2:=h c (by simp)
  simp only[Zr,Bool.and_eq_true,decide_eq_true_eq] at h2
  have:=fold_ge l (10 * n+((c.toNat:Int)-48)) (by omega) fun d hd=>h d (by simp[hd])
  simp only[List.foldl_cons]
  omega
theorem valD_bd (l:List UInt8) (h:∀c∈l,Zr c=true):0≤Zh l∧Zh l<10 ^ l.length:=by
 have:=valD_acc l 0 (by omega) h
 simpa[Zh] using this
theorem pow12 {l:List UInt8} (h:l.length≤11):(10:Int) ^ l.length≤100000000000:=by
 have:∀k,k≤11→(10:Int) ^ k≤100000000000:=by decide
 exact this _ h
theorem pow13 {l:List UInt8} (h:l.length≤12):(10:Int) ^ l.length≤1000000000000:=by
 have:∀k,k≤12→(10:Int) ^ k≤1000000000000:=by decide
 exact this _ h
theorem wrap_u8 {x:Int} (h0:0≤x) (h:x<256):IntKind.u8.wrap x=x:=by
 simp only[IntKind.wrap,IntKind.bits,IntKind.signed]
 simp
 omega
theorem valD_take {l:List UInt8} {i:Nat} (h:i<l.length):Zh (l.take (i+1))=10 * Zh (l.take i)+((l[i].toNat : Int)-48):=by
 rw[←List.take_append_getElem h,valD_snoc]
end Go.Gh
namespace Go.Gh
open Lib Go.RowKit
theorem kept_below {w w':World} (h:Below w.heap.size w w'):Kept w w' (fun _ => True):=
 ⟨fun b hb _ => h.block b hb,h.size,fun b c T fz hx=>⟨c,fz,by rw[h.block b (Zm hx)];exact hx,rfl⟩⟩
theorem lib_ok {P:Program} {T:GH} {f:Nat} {gs:List GV} {R:GV→Prop}
 (hc:∀(w:World) (D:Nat→Prop) (vs:List Value),HM w D T []→(names T).Nodup → ML w D gs vs []→Calls P f vs.toArray w fun e w'=>∃v g,e = .returned v∧R g∧(∀D',MV w' D' g v [])∧Below w.heap.size w w')
 (hT:∀x∈T,x.2.2=[]∧x.1 % 4=3) (eg:∀args w,(callFunc f args).run P w = .ok (.enter f args) w):PureT P T f gs R:=by
 intro w D Ω vs hst hargs
 have hΩ:Ω=[]:=by
  have:∀(T:GH) (Ω:List Nat),(∀x∈T,x.2.2=[]∧x.1 % 4=3)→HM w D T Ω→Ω=[]:=by
   intro T
   induction T with
   | nil=>intro Ω _ h;exact h
   | cons x T ih=>
    obtain ⟨r,sz,es⟩:=x
    intro Ω h1 h2
    obtain ⟨F1,F2,e,h3,h4⟩:=h2
    have:=ih F2 (fun y hy=>h1 y (by simp[hy])) h4
    have hr:=(h1 (r,sz,es) (by simp)).2
    rcases h3 with ⟨b,c,T',fz,F',k1,_⟩|h3
    ·dsimp only at hr;omega
    ·rw[e,this,h3.2.2];rfl
  exact this T Ω hT hst.hm
 subst hΩ
 rw[eg]
 show Calls P f _ w _
 refine (hc w D vs hst.hm hst.nn hargs).mono ?_
 rintro e w' ⟨v,g,rfl,hR,hv,hb⟩
 have hk:=kept_below hb
 exact ⟨_,rfl,_,T,D,[],hR,hv D,⟨HM.keep hk (fun _ _ => trivial) (fun _ h=>h) (fun _ _ => trivial) hst.hm,hst.nd,hst.nn,hst.dj,fun b hb=>Nat.lt_of_lt_of_le (hst.ds b hb) hk.size⟩,
  ⟨fun _ h=>h,fun _ _ h=> .inl h,fun _ h _ => h,hk.mono fun _ _ _ => trivial,hb.os,hb.tape,hb.output⟩⟩
theorem parse_digs:∀(l:List UInt8) (acc:Nat),(∀c∈l,Zr c=true)→acc<18446744073709551616 →
 (l.foldl (fun n c=>10 * n+((c.toNat:Int)-48)) (acc:Int)<18446744073709551616→∃u:Nat,parseUint10 acc l = .ok u∧(u:Int)=l.foldl (fun n c=>10 * n+((c.toNat:Int)-48)) (acc:Int)) ∧
 (¬l.foldl (fun n c=>10 * n+((c.toNat:Int)-48)) (acc:Int)<18446744073709551616→parseUint10 acc l = .range)
 | [],acc,_,h=>⟨fun _ => ⟨acc,rfl,rfl⟩,fun h2=>by simp at h2;omega⟩
 | c::l,acc,hd,h=>by
  have hc:=hd c (by simp)
  simp only[Zr,Bool.and_eq_true,decide_eq_true_eq] at hc
  have hl:∀d∈l,Zr d=true:=fun d hd'=>hd d (by simp[hd'])
  have e1:(10 * (acc:Int)+((c.toNat:Int)-48))=((acc * 10+(c.toNat-48):Nat):Int):=by omega
  simp only[List.foldl_cons,parseUint10]
  rw[e1,if_pos (by omega)]
  have hge:=(valD_acc l ((acc * 10+(c.toNat-48):Nat):Int) (by omega) hl)
  have hmono:((acc * 10+(c.toNat-48):Nat):Int)≤l.foldl (fun n c=>10 * n+((c.toNat:Int)-48)) ((acc * 10+(c.toNat-48):Nat):Int):=fold_ge l _ (by omega) hl
  by_cases h1:1844674407370955162≤acc
  ·rw[if_pos h1]
   exact ⟨fun h2=>by omega,fun _ => rfl⟩
  ·rw[if_neg h1]
   by_cases h2:18446744073709551616≤acc * 10+(c.toNat-48)
   ·rw[if_pos h2]
    exact ⟨fun h3=>by omega,fun _ => rfl⟩
   ·rw[if_neg h2]
    exact parse_digs l _ hl (by omega)
theorem atoi_digs {l:List UInt8} (hd:∀c∈l,Zr c=true) (hne:l≠[]):(Zh l<9223372036854775808→atoiAll l = .ok (Zh l))∧(¬Zh l<9223372036854775808→atoiAll l = .range):=by
 cases l with
 | nil=>exact absurd rfl hne
 | cons c r=>
  have hc:=hd c (by simp)
  simp only[Zr,Bool.and_eq_true,decide_eq_true_eq] at hc
  obtain ⟨p1,p2⟩:=parse_digs (c::r) 0 hd (by decide)
  have e0:(c::r).foldl (fun n c=>10 * n+((c.toNat:Int)-48)) ((0:Nat):Int)=Zh (c::r):=rfl
  rw[e0] at p1 p2
  have hn:¬c.toNat=45:=by omega
  unfold atoiAll parseMag
  dsimp only
  rw[if_neg (show ¬(c.toNat=43∨c.toNat=45) by omega),if_neg (by simp)]
  constructor
  ·intro h
   obtain ⟨u,q1,q2⟩:=p1 (by omega)
   rw[q1]
   dsimp only
   rw[if_neg (by omega),if_neg (by omega),if_neg hn,q2]
  ·intro h
   by_cases h2:Zh (c::r)<18446744073709551616
   ·obtain ⟨u,q1,q2⟩:=p1 h2
    rw[q1]
    dsimp only
    rw[if_pos ⟨hn,by omega⟩]
   ·rw[p2 h2]
theorem HM.isE {w:World} {D:Nat→Prop} {m:Nat} {H:GH} {Ω:List Nat} (h:HM w D H Ω) (hn:(names H).Nodup) (hm:(4 * m+3,1000001,[])∈H):∃te pe,w.cell? ⟨m,0,none⟩=some (.iface te pe):=by
 obtain ⟨F,hF,_⟩:=h.mem (hget_mem hn hm)
 have e:(4 * m+3) / 4=m:=by omega
 rcases hF with ⟨b,c,T,fz,F',k1,_⟩|hF
 ·dsimp only at k1;omega
 ·obtain ⟨_,c,T,fz,h1,h2⟩:=hF.1.2 (by dsimp only;omega) (by dsimp only;omega)
  dsimp only at h1 h2
  rw[e] at h1
  unfold tabP at h2
  rw[if_neg (by omega),if_neg (by omega),if_neg (by omega)] at h2
  obtain ⟨te,pe,rfl⟩:=h2
  refine ⟨te,pe,?_⟩
  unfold World.cell?
  rw[h1]
  rfl
theorem MV.tup2 {w:World} {D:Nat→Prop} (a b:Value):MV w D (.tup [.val a,.val b]) (.tuple #[a,b]) []:=by
 simp only[MV]
 exact ⟨[a,b],rfl,by simp only[ML,MV];exact ⟨a,[b],[],[],rfl,rfl,⟨rfl,rfl⟩,b,[],[],[],rfl,rfl,⟨rfl,rfl⟩,rfl,rfl⟩⟩
end Go.Gh
namespace Go.Gh
open Lib Go.RowKit
end Go.Gh
namespace Go.Gh
open Lib
def oprT (L:Nat) (e:Exp):List UInt8:=rend (opnd L (lvE e,itE e))
def opW (n:Int):ByteArray:=(opK n).2.2
theorem rend_opK:∀n∈[(1:Int),2,3,4,5,6,7,8,9,10,11,12],rendK (opK n)=Z6 (opW n):=by decide
theorem txt_fun (n:Int) (h1:1≤n) (h2:n≤12) (a b:Exp) (h:opLv n=4):txtE (.mk 4 n 0 0 noS noS [a,b])=Z6 (opW n)++40::(txtE a++[44,32]++txtE b++[41]):=by
 have e:itE (.mk 4 n 0 0 noS noS [a,b])=some (opK n)::sy 40::(itE a++sy 44::none::(itE b++[sy 41])):=by
  rw[itE_eq]
  show itN 4 n 0 0 noS noS [(lvE a,itE a),(lvE b,itE b)] = _
  unfold itN
  rw[if_neg (by decide),if_neg (by decide),if_neg (by decide),if_neg (by decide),if_neg (by decide),if_neg (by decide),if_neg (by decide),if_pos h]
  rfl
 unfold txtE
 rw[e,rend_cons,show rendI (some (opK n))=rendK (opK n) from rfl,rend_opK n (mem12 h1 h2)]
 simp only[rend_cons,rend_app]
 simp[rendI,rendK,rend_nil,Z6]
theorem txt_op (n:Int) (h1:1≤n) (h2:n≤12) (a b:Exp) (h:opLv n≠4):txtE (.mk 4 n 0 0 noS noS [a,b])=oprT (max (opLv n) 2) a++32::(Z6 (opW n)++32::oprT (opLv n+1) b):=by
 have e:itE (.mk 4 n 0 0 noS noS [a,b])=opnd (max (opLv n) 2) (lvE a,itE a)++none::some (opK n)::none::opnd (opLv n+1) (lvE b,itE b):=by
  rw[itE_eq]
  show itN 4 n 0 0 noS noS [(lvE a,itE a),(lvE b,itE b)] = _
  unfold itN
  rw[if_neg (by decide),if_neg (by decide),if_neg (by decide),if_neg (by decide),if_neg (by decide),if_neg (by decide),if_neg (by decide),if_neg h]
  rfl
 unfold txtE
 rw[e]
 simp only[rend_cons,rend_app]
 rw[show rendI (some (opK n))=rendK (opK n) from rfl,rend_opK n (mem12 h1 h2)]
 rfl
end Go.Gh
namespace Go.Gh
open Go.Lib
theorem nmV_len {s:ByteArray} (h:ZA s=true):(Z6 s).length ≤ 8:=by
 simp only[ZA,Bool.and_eq_true,decide_eq_true_eq] at h
 exact h.1.2
def seen (r:Rul):Rul:=⟨r.name,r.left,r.right,r.lit,r.eqs.map fun q=>⟨q.pos,q.name,(parV (txtE q.expr)).1⟩,r.cons.map fun c=>⟨c.sym,c.name,(parV (txtE c.goal)).1,(parV (txtE c.value)).1⟩⟩
end Go.Gh
namespace Go.Gh
open Go.Lib
section
variable (sp:List UInt8→List (List UInt8)) (nm:List UInt8→Int×Bool)
variable {sp nm}
end
end Go.Gh
namespace Go.Gh
open Go.Lib
def modW:List (List UInt8):=[[105,110,104],[115,121,110],[99,111,108]]
def typW:List (List UInt8):=[[110,117,109],[115,101,116],[98,111,111,108],[110,111,100,101]]
def attT (a:Att):List UInt8:=Z6 a.name++58::(modW.getD (a.mode-1).toNat []++58::(typW.getD (a.type-1).toNat []++if a.circ then [33] else []))
def symT (s:Sym):List UInt8:=[115,121,109,98,111,108]++(Z6 s.name::s.atts.map attT).flatMap (32 :: ·)
def fmtY (s:Sym):List UInt8:=if symV s then symT s else []
section
variable (sp:List UInt8→List (List UInt8)) (rA:List UInt8→Att)
def parY (l:List UInt8):Option Sym:=
 if (sp l).length < 2 then none
 else if fmtY ⟨⟨((sp l).getD 1 []).toArray⟩,((sp l).drop 2).map rA⟩=l then some ⟨⟨((sp l).getD 1 []).toArray⟩,((sp l).drop 2).map rA⟩ else none
variable {sp rA}
end
def ixW (l:List (List UInt8)) (w:List UInt8):Int:=ixOf (fun x=>decide (x=w)) l
def circV (w:List UInt8):Bool:=decide (w.getLast?=some 33)
def uncV (w:List UInt8):List UInt8:=if w.getLast?=some 33 then w.dropLast else w
def rAS (w:List UInt8):Att:=
 if (spl 58 w).length ≠ 3 then attZ
 else ⟨⟨((spl 58 w).getD 0 []).toArray⟩,ixW ([]::typW) (uncV ((spl 58 w).getD 2 [])),ixW ([]::modW) ((spl 58 w).getD 1 []),circV ((spl 58 w).getD 2 [])⟩
end Go.Gh
namespace Go.Gh
open Go.Lib
def vG (g:Gram):Prop:=(∀s∈g.syms,symV s=true)∧∀r∈g.rules,rulV r=true
instance (g:Gram):Decidable (vG g):=inferInstanceAs (Decidable (_ ∧ _))
end Go.Gh
namespace Go.Gh
open Go.Lib
def ruP:List UInt8:=[114,117,108,101,32]
theorem tw_all {α:Type} {p:α→Bool}:∀{a b:List α},(∀x∈a,p x=true)→(∀y t,b=y::t→p y=false)→(a++b).takeWhile p=a∧(a++b).dropWhile p=b
 | [],b,_,h=>by
  cases b with
  | nil=>simp
  | cons y t=>simp[h y t rfl]
 | x::a,b,h1,h2=>by
  have ih:=tw_all (a:=a) (b:=b) (fun y hy=>h1 y (by simp[hy])) h2
  have hx:=h1 x (by simp)
  simp[hx,ih.1,ih.2]
section
variable (PY:List UInt8→Option Sym) (PR:List (List UInt8)→Option Rul)
variable {PY PR}
end
end Go.Gh
namespace Go.Gh
open Go.Lib
namespace Fo
def txt (g:Gram):Fo→List UInt8
 | nil=>[]
 | cons _ r l ks rest=>32::(((40::Z6 r)++(if (ZH g.rules r).lit = true then 32::itoa l else []))++(ks.txt g++[41]))++rest.txt g
theorem txt_flt {g:Gram} {t:List Nod}:∀(F:Fo) (f:Nat) (p k:Int) (pre post:List Nod),F.sz≤f→t=pre++(F.flt pre.length p (k+1)++post) →
 ((F.strt pre.length).flatMap fun c=>32::Zj g t f c.toNat)=F.txt g
 | nil,f,p,k,pre,post,_,_ => rfl
 | cons i r l ks rest,f,p,k,pre,post,hf,ht=>by
  simp only[sz] at hf
  obtain ⟨f,rfl⟩:∃f',f=f'+1:=⟨f-1,by omega⟩
  have hb:((pre.length:Int)+1)=((pre++[(⟨i,p,k+1,l,r,ks.strt (pre.length+1)⟩:Nod)]).length : Int):=by simp
  have hg:t.getD pre.length Zq=⟨i,p,k+1,l,r,ks.strt (pre.length+1)⟩:=by rw[ht];simp[flt]
  have h1:Zj g t (f+1) pre.length=((40::Z6 r)++(if (ZH g.rules r).lit = true then 32::itoa l else []))++(ks.txt g++[41]):=by
   simp only[Zj]
   rw[hg]
   dsimp only
   have h2:=txt_flt (g:=g) (t:=t) ks f pre.length 0 (pre++[⟨i,p,k+1,l,r,ks.strt (pre.length+1)⟩]) (rest.flt ((pre.length:Int)+1+ks.sz) p (k+1+1)++post) (by omega) (by rw[←hb,ht];simp[flt])
   rw[←hb] at h2
   rw[h2]
  have hb2:((pre.length:Int)+1+ks.sz)=((pre++((⟨i,p,k+1,l,r,ks.strt (pre.length+1)⟩:Nod)::ks.flt ((pre.length:Int)+1) pre.length 1)).length : Int):=by simp[flt_len];omega
  have h3:=txt_flt (g:=g) (t:=t) rest (f+1) p (k+1) (pre++(⟨i,p,k+1,l,r,ks.strt (pre.length+1)⟩::ks.flt ((pre.length:Int)+1) pre.length 1)) post (by omega) (by rw[←hb2,ht];simp[flt])
  rw[←hb2] at h3
  simp only[strt,List.flatMap_cons,Int.toNat_natCast,txt]
  rw[h1,h3]
theorem txt_one {g:Gram} {F:Fo} (h:F.one):32::Zj g (F.flt 0 (-1) 0) (F.flt 0 (-1) 0).length 0=F.txt g:=by
 obtain ⟨i,r,l,ks,rfl⟩:=one_iff.1 h
 have:=txt_flt (g:=g) (t:=(cons i r l ks nil).flt 0 (-1) 0) (cons i r l ks nil) ((cons i r l ks nil).flt 0 (-1) 0).length (-1) (-1) [] [] (by rw[flt_len];exact Nat.le_refl _) (by simp)
 simpa[strt] using this
def ren:Fo→Int→Fo
 | nil,_ => nil
 | cons _ r l ks rest,i=>cons i r l (ks.ren (i+1)) (rest.ren (i+1+ks.sz))
theorem ren_sz:∀(F:Fo) i,(F.ren i).sz = F.sz
 | nil,_ => rfl
 | cons _ r l ks rest,i=>by simp[ren,sz,ren_sz ks,ren_sz rest]
def vn:Fo→Prop
 | nil=>True
 | cons _ r _ ks rest=>ZA r=true∧ks.vn∧rest.vn
end Fo
def inW (c:UInt8):Bool:= !(decide (c=32)||decide (c=41))
section
variable (g:Gram) (ni:List UInt8→Int×Bool) (first:Int)
def YO (b:Bool) (l:List UInt8):Option (Int×List UInt8):=
 if b then match l with
  | 32::l=>some ((ni (l.takeWhile inW)).1,l.dropWhile inW)
  | _ => none
 else some (0,l)
def rdK:Nat→Nat→List UInt8→Nat→Option (Fo×List UInt8)
 | _,0,l,_ => some (.nil,l)
 | 0,_ + 1,_,_ => none
 | f+1,k+1,l,i=>match l with
  | 32::40::l=>
   if i=16 then none
   else if Y6 g.rules ⟨(l.takeWhile inW).toArray⟩=true∧ZA ⟨(l.takeWhile inW).toArray⟩=true then
    match YO ni (ZH g.rules ⟨(l.takeWhile inW).toArray⟩).lit (l.dropWhile inW) with
    | none=>none
    | some v=>match rdK f (ZH g.rules ⟨(l.takeWhile inW).toArray⟩).right.length v.2 (i+1) with
     | some (ks,41::l2)=>match rdK f k l2 (i+1+ks.sz) with
      | some (rest,l3)=>some (.cons (first+i) ⟨(l.takeWhile inW).toArray⟩ v.1 ks rest,l3)
      | none=>none
     | _ => none
   else none
  | _ => none
variable {g ni first}
theorem inW_name {s:ByteArray} (h:ZA s=true) {l:List UInt8} (hl:∀y t,l=y::t→inW y=false):(Z6 s++l).takeWhile inW=Z6 s∧(Z6 s++l).dropWhile inW=l:=by
 have hw:∀c∈Z6 s,inW c=true:=fun c hc=>by
  have:=nameV_mem h c hc
  have h1:¬c=32:=fun e=>by subst e;revert this;decide
  have h2:¬c=41:=fun e=>by subst e;revert this;decide
  simp[inW,h1,h2]
 exact tw_all hw hl
theorem itoa_inW {n:Int} (c:UInt8) (hc:c∈itoa n):inW c=true:=by
 have:c=45∨Zr c=true:=by
  unfold itoa at hc
  split at hc
  ·rcases List.mem_cons.1 hc with h|h
   ·exact .inl h
   ·exact .inr ((dec_dig _).1 c h)
  ·exact .inr ((dec_dig _).1 c hc)
 rcases this with rfl|h
 ·decide
 ·have:=digV_rng h
  have h1:¬c=32:=fun e=>by subst e;revert this;decide
  have h2:¬c=41:=fun e=>by subst e;revert this;decide
  simp[inW,h1,h2]
theorem inW_itoa {n:Int} {l:List UInt8} (hl:∀y t,l=y::t→inW y=false):(itoa n++l).takeWhile inW=itoa n∧(itoa n++l).dropWhile inW=l:=by
 have hw:∀c∈itoa n,inW c=true:=fun c hc=>itoa_inW c hc
 exact tw_all hw hl
theorem txt_hd {F:Fo} {l:List UInt8}:∀y t,F.txt g++41::l=y::t→inW y=false:=fun y t h=>by
 cases F with
 | nil=>simp only[Fo.txt,List.nil_append,List.cons.injEq] at h;rw[←h.1];decide
 | cons=>simp only[Fo.txt,List.cons_append,List.cons.injEq] at h;rw[←h.1];decide
theorem rdK_back (hni:∀n:Int, -1000000≤n→n≤1000000→ni (itoa n)=(n,true)):∀(F:Fo) (f:Nat) (ss:List ByteArray) (l:List UInt8) (i:Nat),F.wf g ss→F.vn→F.sz≤f→i+F.sz≤16 →
 rdK g ni first f ss.length (F.txt g++l) i=some (F.ren (first+i),l)
 | .nil,f,[],l,i,_,_,_,_ => by cases f<;>rfl
 | .nil,_,_ :: _,_,_,h,_,_,_ => h.elim
 | .cons ..,_,[],_,_,h,_,_,_ => h.elim
 | .cons id r v ks rest,f,s::ss,l,i,h,hn,hf,hi=>by
  simp only[Fo.sz] at hf hi
  obtain ⟨f,rfl⟩:∃f',f=f'+1:=⟨f-1,by omega⟩
  obtain ⟨h1,h2,h3⟩:=h
  obtain ⟨n1,n2,n3⟩:=hn
  obtain ⟨r1,r2,r3,r4⟩:=h1
  have ihk:=rdK_back hni ks f (ZH g.rules r).right (41::(rest.txt g++l)) (i+1) h2 n2 (by omega) (by omega)
  have ihr:=rdK_back hni rest f ss l (i+1+ks.sz) h3 n3 (by omega) (by omega)
  have e0:(Fo.cons id r v ks rest).txt g++l=32::40::(Z6 r++((if (ZH g.rules r).lit = true then 32::itoa v else [])++(ks.txt g++41::(rest.txt g++l)))):=by simp[Fo.txt]
  have hw:=inW_name n1 (l:=(if (ZH g.rules r).lit = true then 32::itoa v else [])++(ks.txt g++41::(rest.txt g++l))) (fun y t e=>by
   split at e
   ·simp only[List.cons_append,List.cons.injEq] at e;rw[←e.1];decide
   ·exact txt_hd y t e)
  have hl:YO ni (ZH g.rules r).lit ((if (ZH g.rules r).lit = true then 32::itoa v else [])++(ks.txt g++41::(rest.txt g++l)))=some (v,ks.txt g++41::(rest.txt g++l)):=by
   unfold YO
   rcases Bool.eq_false_or_eq_true (ZH g.rules r).lit with hb|hb
   ·have hv:=inW_itoa (n:=v) (l:=ks.txt g++41::(rest.txt g++l)) txt_hd
    rw[hb]
    simp only[if_true,List.cons_append,hv.1,hv.2]
    rw[hni v r3.1 r3.2]
   ·rw[hb]
    have hv:v=0:=by
     rcases r4 with r4|r4
     ·rw[hb] at r4;cases r4
     ·exact r4.2
    simp[hv]
  have hs:(i:Int)+1=((i+1:Nat):Int):=by omega
  have hs2:first+((i+1:Nat):Int)=first+(i:Int)+1:=by omega
  have hs3:first+((i+1+ks.sz:Nat):Int)=first+(i:Int)+1+ks.sz:=by omega
  have er:(⟨(Z6 r).toArray⟩:ByteArray)=r:=rfl
  rw[e0,List.length_cons,rdK]
  rw[if_neg (by omega),hw.1,hw.2,er,if_pos ⟨r1,n1⟩,hl]
  try dsimp only
  rw[ihk]
  show (match rdK g ni first f ss.length (rest.txt g++l) (i+1+(ks.ren (first+((i+1:Nat):Int))).sz) with
   | some (rest,l3)=>some (Fo.cons (first+(i:Int)) r v (ks.ren (first+((i+1:Nat):Int))) rest,l3)
   | none=>none) = _
  rw[Fo.ren_sz,ihr]
  try dsimp only
  simp only[Fo.ren,hs2,hs3]
end
end Go.Gh
namespace Go.Gh
open Go.Lib
def inS (c:UInt8):Bool:= !(decide (c=32)||decide (c=41)||decide (c=40))
section
variable (g:Gram) (ni:List UInt8→Int×Bool) (first:Int)
def rsK:Nat→Nat→List UInt8→Nat→Option (Fo×List UInt8)
 | _,0,l,_ => some (.nil,l)
 | 0,_ + 1,_,_ => none
 | f+1,k+1,l,i=>match l.drop 1 with
  | 40::l=>
   if first+i>1015 then none
   else if Y6 g.rules ⟨(l.takeWhile inS).toArray⟩=true then
    match rsK f (ZH g.rules ⟨(l.takeWhile inS).toArray⟩).right.length (if (ZH g.rules ⟨(l.takeWhile inS).toArray⟩).lit = true then ((l.dropWhile inS).drop 1).dropWhile inS else l.dropWhile inS) (i+1) with
    | some (ks,l2)=>match rsK f k (l2.drop 1) (i+1+ks.sz) with
     | some (rest,l3)=>some (.cons (first+i) ⟨(l.takeWhile inS).toArray⟩ (if (ZH g.rules ⟨(l.takeWhile inS).toArray⟩).lit = true then (ni (((l.dropWhile inS).drop 1).takeWhile inS)).1 else 0) ks rest,l3)
     | none=>none
    | none=>none
   else none
  | _ => none
variable {g ni first}
theorem inS_name {s:ByteArray} (h:ZA s=true) {l:List UInt8} (hl:∀y t,l=y::t→inS y=false):(Z6 s++l).takeWhile inS=Z6 s∧(Z6 s++l).dropWhile inS=l:=by
 have hw:∀c∈Z6 s,inS c=true:=fun c hc=>by
  have:=nameV_mem h c hc
  have h1:¬c=32:=fun e=>by subst e;revert this;decide
  have h2:¬c=41:=fun e=>by subst e;revert this;decide
  have h3:¬c=40:=fun e=>by subst e;revert this;decide
  simp[inS,h1,h2,h3]
 exact tw_all hw hl
theorem inS_itoa {n:Int} {l:List UInt8} (hl:∀y t,l=y::t→inS y=false):(itoa n++l).takeWhile inS=itoa n∧(itoa n++l).dropWhile inS=l:=by
 have hw:∀c∈itoa n,inS c=true:=fun c hc=>by
  have:c=45∨Zr c=true:=by
   unfold itoa at hc
   split at hc
   ·rcases List.mem_cons.1 hc with h|h
    ·exact .inl h
    ·exact .inr ((dec_dig _).1 c h)
   ·exact .inr ((dec_dig _).1 c hc)
  rcases this with rfl|h
  ·decide
  ·have:=digV_rng h
   have h1:¬c=32:=fun e=>by subst e;revert this;decide
   have h2:¬c=41:=fun e=>by subst e;revert this;decide
   have h3:¬c=40:=fun e=>by subst e;revert this;decide
   simp[inS,h1,h2,h3]
 exact tw_all hw hl
theorem txt_hdS {F:Fo} {l:List UInt8}:∀y t,F.txt g++41::l=y::t→inS y=false:=fun y t h=>by
 cases F with
 | nil=>simp only[Fo.txt,List.nil_append,List.cons.injEq] at h;rw[←h.1];decide
 | cons=>simp only[Fo.txt,List.cons_append,List.cons.injEq] at h;rw[←h.1];decide
theorem rsK_back (hni:∀n:Int, -1000000≤n→n≤1000000→ni (itoa n)=(n,true)) (hfi:first≤999):∀(F:Fo) (f:Nat) (ss:List ByteArray) (l:List UInt8) (i:Nat),F.wf g ss→F.vn→F.sz≤f→i+F.sz≤16 →
 rsK g ni first f ss.length (F.txt g++l) i=some (F.ren (first+i),l)
 | .nil,f,[],l,i,_,_,_,_ => by cases f<;>rfl
 | .nil,_,_ :: _,_,_,h,_,_,_ => h.elim
 | .cons ..,_,[],_,_,h,_,_,_ => h.elim
 | .cons id r v ks rest,f,s::ss,l,i,h,hn,hf,hi=>by
  simp only[Fo.sz] at hf hi
  obtain ⟨f,rfl⟩:∃f',f=f'+1:=⟨f-1,by omega⟩
  obtain ⟨h1,h2,h3⟩:=h
  obtain ⟨n1,n2,n3⟩:=hn
  obtain ⟨r1,r2,r3,r4⟩:=h1
  have ihk:=rsK_back hni hfi ks f (ZH g.rules r).right (41::(rest.txt g++l)) (i+1) h2 n2 (by omega) (by omega)
  have ihr:=rsK_back hni hfi rest f ss l (i+1+ks.sz) h3 n3 (by omega) (by omega)
  have e0:(Fo.cons id r v ks rest).txt g++l=32::40::(Z6 r++((if (ZH g.rules r).lit = true then 32::itoa v else [])++(ks.txt g++41::(rest.txt g++l)))):=by simp[Fo.txt]
  have hw:=inS_name n1 (l:=(if (ZH g.rules r).lit = true then 32::itoa v else [])++(ks.txt g++41::(rest.txt g++l))) (fun y t e=>by
   split at e
   ·simp only[List.cons_append,List.cons.injEq] at e;rw[←e.1];decide
   ·exact txt_hdS y t e)
  have hv:=inS_itoa (n:=v) (l:=ks.txt g++41::(rest.txt g++l)) txt_hdS
  have hl1:(if (ZH g.rules r).lit = true then (((if (ZH g.rules r).lit = true then 32::itoa v else [])++(ks.txt g++41::(rest.txt g++l))).drop 1).dropWhile inS else (if (ZH g.rules r).lit = true then 32::itoa v else [])++(ks.txt g++41::(rest.txt g++l)))=ks.txt g++41::(rest.txt g++l):=by
   split
   ·simp only[List.cons_append,List.drop_succ_cons,List.drop_zero];exact hv.2
   ·rfl
  have hl2:(if (ZH g.rules r).lit = true then (ni ((((if (ZH g.rules r).lit = true then 32::itoa v else [])++(ks.txt g++41::(rest.txt g++l))).drop 1).takeWhile inS)).1 else 0)=v:=by
   split
   ·simp only[List.cons_append,List.drop_succ_cons,List.drop_zero]
    rw[hv.1,hni v r3.1 r3.2]
   ·rename_i hb
    rcases r4 with r4|r4
    ·exact absurd r4 hb
    ·exact r4.2.symm
  have hs2:first+((i+1:Nat):Int)=first+(i:Int)+1:=by omega
  have hs3:first+((i+1+ks.sz:Nat):Int)=first+(i:Int)+1+ks.sz:=by omega
  have er:(⟨(Z6 r).toArray⟩:ByteArray)=r:=rfl
  rw[e0,List.length_cons,rsK]
  simp only[List.drop_succ_cons,List.drop_zero]
  rw[if_neg (by omega),hw.1,hw.2,er,if_pos r1,hl1,hl2,ihk]
  show (match rsK g ni first f ss.length (rest.txt g++l) (i+1+(ks.ren (first+((i+1:Nat):Int))).sz) with
   | some (rest,l3)=>some (Fo.cons (first+(i:Int)) r v (ks.ren (first+((i+1:Nat):Int))) rest,l3)
   | none=>none) = _
  rw[Fo.ren_sz,ihr]
  try dsimp only
  simp only[Fo.ren,hs2,hs3]
theorem rdK_snd:∀(f k:Nat) (l:List UInt8) (i:Nat) (F:Fo) (l':List UInt8),rdK g ni first f k l i=some (F,l')→F.ren (first+i)=F∧F.vn
 | f,0,l,i,F,l',h=>by
  have:(Fo.nil,l)=(F,l'):=by cases f<;>exact Option.some.inj h
  cases this
  exact ⟨rfl,trivial⟩
 | 0,k+1,l,i,F,l',h=>by cases h
 | f+1,k+1,l,i,F,l',h=>by
  unfold rdK at h
  split at h
  ·split at h
   ·cases h
   ·split at h
    ·rename_i hn
     split at h
     ·cases h
     ·split at h
      ·rename_i ks l2 hk
       split at h
       ·rename_i rest l3 hr
        have e:=Option.some.inj h
        have i1:=rdK_snd _ _ _ _ _ _ hk
        have i2:=rdK_snd _ _ _ _ _ _ hr
        cases e
        have hs2:first+((i+1:Nat):Int)=first+(i:Int)+1:=by omega
        have hs3:first+((i+1+ks.sz:Nat):Int)=first+(i:Int)+1+ks.sz:=by omega
        rw[hs2] at i1
        rw[hs3] at i2
        exact ⟨by simp only[Fo.ren,i1.1,i2.1],hn.2,i1.2,i2.2⟩
       ·cases h
      ·cases h
    ·cases h
  ·cases h
theorem hr_name (hg:∀r∈g.rules,ZA r.name=true) {s:ByteArray} (h:Y6 g.rules s=true):ZA s=true:=by
 unfold Y6 at h
 rw[List.find?_isSome] at h
 obtain ⟨x,hx,hp⟩:=h
 rw[←of_decide_eq_true hp]
 exact hg x hx
theorem rsK_snd (hg:∀r∈g.rules,ZA r.name=true):∀(f k:Nat) (l:List UInt8) (i:Nat) (F:Fo) (l':List UInt8),rsK g ni first f k l i=some (F,l')→F.ren (first+i)=F∧F.vn
 | f,0,l,i,F,l',h=>by
  have:(Fo.nil,l)=(F,l'):=by cases f<;>exact Option.some.inj h
  cases this
  exact ⟨rfl,trivial⟩
 | 0,k+1,l,i,F,l',h=>by cases h
 | f+1,k+1,l,i,F,l',h=>by
  rw[rsK] at h
  split at h
  ·split at h
   ·cases h
   ·split at h
    ·rename_i hn
     split at h
     ·rename_i ks l2 hk
      split at h
      ·rename_i rest l3 hr
       have e:=Option.some.inj h
       have i1:=rsK_snd hg _ _ _ _ _ _ hk
       have i2:=rsK_snd hg _ _ _ _ _ _ hr
       cases e
       have hs2:first+((i+1:Nat):Int)=first+(i:Int)+1:=by omega
       have hs3:first+((i+1+ks.sz:Nat):Int)=first+(i:Int)+1+ks.sz:=by omega
       rw[hs2] at i1
       rw[hs3] at i2
       exact ⟨by simp only[Fo.ren,i1.1,i2.1],hr_name hg hn,i1.2,i2.2⟩
      ·cases h
     ·cases h
    ·cases h
  ·cases h
end
def seqI (t:List Nod) (i:Int):Prop:=∀(j:Nat) (h:j<t.length),t[j].id = i+j
theorem seqI_app {a b:List Nod} {i:Int}:seqI (a++b) i↔seqI a i∧seqI b (i+a.length):=by
 constructor
 ·intro h
  refine ⟨fun j hj=> ?_,fun j hj=> ?_⟩
  ·have:=h j (by simp;omega)
   rwa [List.getElem_append_left hj] at this
  ·have:=h (a.length+j) (by simp;omega)
   rw[List.getElem_append_right (by omega)] at this
   simp only[Nat.add_sub_cancel_left] at this
   rw[this];push_cast;omega
 ·rintro ⟨h1,h2⟩ j hj
  by_cases hl:j<a.length
  ·rw[List.getElem_append_left hl];exact h1 j hl
  ·rw[List.getElem_append_right (by omega)]
   have:=h2 (j-a.length) (by simp at hj;omega)
   rw[this];omega
theorem seqI_cons {x:Nod} {b:List Nod} {i:Int}:seqI (x::b) i↔x.id=i∧seqI b (i+1):=by
 have:=seqI_app (a:=[x]) (b:=b) (i:=i)
 rw[show x::b=[x]++b from rfl,this]
 constructor
 ·rintro ⟨h1,h2⟩
  refine ⟨?_,by simpa using h2⟩
  have:=h1 0 (by simp)
  simpa using this
 ·rintro ⟨h1,h2⟩
  refine ⟨fun j hj=> ?_,by simpa using h2⟩
  have:j=0:=by simp at hj;omega
  subst this
  simpa using h1
theorem ren_flt:∀(F:Fo) (i b p q:Int),F.ren i=F↔seqI (F.flt b p q) i
 | .nil,i,b,p,q=>by simp[Fo.ren,Fo.flt,seqI]
 | .cons id r v ks rest,i,b,p,q=>by
  rw[Fo.flt,seqI_cons,seqI_app,←ren_flt ks (i+1) (b+1) b 1,Fo.flt_len,←ren_flt rest (i+1+ks.sz) (b+1+ks.sz) p (q+1)]
  simp only[Fo.ren,Fo.cons.injEq,true_and]
  constructor
  ·rintro ⟨h1,h2,h3⟩;exact ⟨h1.symm,h2,h3⟩
  ·rintro ⟨h1,h2,h3⟩;exact ⟨h1.symm,h2,h3⟩
theorem vn_flt:∀(F:Fo) (b p q:Int),F.vn↔∀x∈F.flt b p q,ZA x.rule=true
 | .nil,b,p,q=>by simp[Fo.vn,Fo.flt]
 | .cons id r v ks rest,b,p,q=>by
  have h1:=vn_flt ks (b+1) b 1
  have h2:=vn_flt rest (b+1+ks.sz) p (q+1)
  simp only[Fo.vn,Fo.flt,List.mem_cons,List.mem_append,forall_eq_or_imp,h1,h2]
  constructor
  ·rintro ⟨a1,a2,a3⟩
   exact ⟨a1,fun x hx=>hx.elim (a2 x) (a3 x)⟩
  ·rintro ⟨a1,a2⟩
   exact ⟨a1,fun x hx=>a2 x (.inl hx),fun x hx=>a2 x (.inr hx)⟩
theorem sz_txt {g:Gram}:∀F:Fo,F.sz≤(F.txt g).length
 | .nil => Nat.le_refl _
 | .cons id r v ks rest=>by
  have h1:=sz_txt (g:=g) ks
  have h2:=sz_txt (g:=g) rest
  simp only[Fo.sz,Fo.txt,List.length_append,List.length_cons]
  omega
def Zu (g:Gram) (t:List Nod):List UInt8:=if Y3 g t (symN g t 0)=true then Zj g t t.length 0 else []
section
variable (g:Gram) (ni:List UInt8→Int×Bool) (first:Int)
def YW (s:List UInt8):Option (List Nod):=
 if 1≤first∧first≤999 then match rdK g ni first (s.length+1) 1 (32::s) 0 with
  | some (F,[])=>if Zu g (F.flt 0 (-1) 0)=s then some (F.flt 0 (-1) 0) else none
  | _ => none
 else none
def parTS (s:List UInt8):Option (List Nod):=
 if 1≤first∧first≤999 then match rsK g ni first (s.length+1) 1 (32::s) 0 with
  | some (F,_)=>if s≠[]∧Zu g (F.flt 0 (-1) 0)=s then some (F.flt 0 (-1) 0) else none
  | _ => none
 else none
def treeT (s:List UInt8) (t:List Nod):Prop:=(1≤first∧first≤999)∧Y3 g t (symN g t 0)=true∧seqI t first∧(∀x∈t,ZA x.rule=true)∧Zj g t t.length 0=s
variable {g ni first}
theorem treeT_fo {s:List UInt8} {t:List Nod} (h:treeT g first s t):∃(F:Fo) (y:ByteArray),F.wf g [y]∧F.vn∧F.ren first=F∧F.sz≤16∧F.sz≤s.length+1∧t=F.flt 0 (-1) 0∧F.txt g=32::s:=by
 obtain ⟨_,h1,h2,h3,h4⟩:=h
 obtain ⟨F,f1,f2,f3,rfl⟩:=Fo.tree_fo h1
 have ht:=txt_one' f1 h4
 exact ⟨F,_,f2,(vn_flt F 0 (-1) 0).2 h3,(ren_flt F first 0 (-1) 0).2 h2,f3,by have:=sz_txt (g:=g) F;rw[ht] at this;simpa using this,rfl,ht⟩
where txt_one' {s:List UInt8} {F:Fo} (h:F.one) (h4:Zj g (F.flt 0 (-1) 0) (F.flt 0 (-1) 0).length 0=s):F.txt g=32::s:=by rw[←h4,Fo.txt_one h]
theorem fmtT0_of {t:List Nod} {s:List UInt8} (h:Zu g t=s) (hs:s≠[]):Y3 g t (symN g t 0)=true∧Zj g t t.length 0=s:=by
 unfold Zu at h
 split at h
 ·rename_i ht;exact ⟨ht,h⟩
 ·exact absurd h.symm hs
theorem parTI_some (hni:∀n:Int, -1000000≤n→n≤1000000→ni (itoa n)=(n,true)) {s:List UInt8} {t:List Nod}:YW g ni first s=some t↔treeT g first s t:=by
 constructor
 ·intro h
  unfold YW at h
  split at h
  ·rename_i hf
   split at h
   ·rename_i F hF
    split at h
    ·rename_i he
     have ht:=Option.some.inj h
     have hs:s≠[]:=fun e=>by subst e;revert hF;unfold rdK;simp
     obtain ⟨k1,k2⟩:=fmtT0_of he hs
     obtain ⟨k3,k4⟩:=rdK_snd _ _ _ _ _ _ hF
     have hz:first+((0:Nat):Int)=first:=by omega
     rw[hz] at k3
     subst ht
     exact ⟨hf,k1,(ren_flt F first 0 (-1) 0).1 k3,(vn_flt F 0 (-1) 0).1 k4,k2⟩
    ·cases h
   ·cases h
  ·cases h
 ·intro h
  obtain ⟨F,y,f1,f2,f3,f4,f5,f6,f7⟩:=treeT_fo h
  have hb:=rdK_back hni (first:=first) F (s.length+1) [y] [] 0 f1 f2 f5 (by omega)
  have hz:first+((0:Nat):Int)=first:=by omega
  rw[List.append_nil,f7,hz,f3] at hb
  have hf:Zu g t=s:=by unfold Zu;rw[if_pos h.2.1];exact h.2.2.2.2
  unfold YW
  rw[if_pos h.1]
  rw[show [y].length = 1 from rfl] at hb
  rw[hb]
  show (if Zu g (F.flt 0 (-1) 0)=s then some (F.flt 0 (-1) 0) else none)=some t
  rw[←f6,if_pos hf]
theorem parTS_some (hg:∀r∈g.rules,ZA r.name=true) (hni:∀n:Int, -1000000≤n→n≤1000000→ni (itoa n)=(n,true)) {s:List UInt8} {t:List Nod}:parTS g ni first s=some t↔treeT g first s t:=by
 constructor
 ·intro h
  unfold parTS at h
  split at h
  ·rename_i hf
   split at h
   ·rename_i F l2 hF
    split at h
    ·rename_i he
     have ht:=Option.some.inj h
     obtain ⟨k1,k2⟩:=fmtT0_of he.2 he.1
     obtain ⟨k3,k4⟩:=rsK_snd hg _ _ _ _ _ _ hF
     have hz:first+((0:Nat):Int)=first:=by omega
     rw[hz] at k3
     subst ht
     exact ⟨hf,k1,(ren_flt F first 0 (-1) 0).1 k3,(vn_flt F 0 (-1) 0).1 k4,k2⟩
    ·cases h
   ·cases h
  ·cases h
 ·intro h
  obtain ⟨F,y,f1,f2,f3,f4,f5,f6,f7⟩:=treeT_fo h
  have hb:=rsK_back hni h.1.2 F (s.length+1) [y] [] 0 f1 f2 f5 (by omega)
  have hz:first+((0:Nat):Int)=first:=by omega
  rw[List.append_nil,f7,hz,f3] at hb
  have hf:Zu g t=s:=by unfold Zu;rw[if_pos h.2.1];exact h.2.2.2.2
  have hs:s≠[]:=fun e=>by
   rw[e] at f7
   cases F with
   | nil=>cases f7
   | cons=>simp[Fo.txt] at f7
  unfold parTS
  rw[if_pos h.1]
  rw[show [y].length = 1 from rfl] at hb
  rw[hb]
  dsimp only
  rw[←f6,if_pos ⟨hs,hf⟩]
end
end Go.Gh
namespace Go.Gh
open Go.Lib
end Go.Gh
namespace Go.Gh
open Go.Lib
def sgnV (l:List UInt8):Int:=match l with
 | []=>0
 | c::t=>if c=45 then -(Zh t) else Zh (c::t)
def rdN (lo hi:Int) (l:List UInt8):Int×Bool:=if itoa (sgnV l)=l∧lo≤sgnV l∧sgnV l≤hi then (sgnV l,true) else (0,false)
theorem sgnV_itoa (n:Int):sgnV (itoa n)=n:=by
 by_cases h:n<0
 ·have e:itoa n=45::decDigits n.natAbs:=by
   unfold itoa
   rw[if_pos h]
  rw[e]
  show (if (45:UInt8)=45 then -(Zh (decDigits n.natAbs)) else Zh (45::decDigits n.natAbs))=n
  rw[if_pos rfl,valD_dec]
  omega
 ·rw[itoa_dec (by omega)]
  have hd:=dec_dig n.toNat
  have hv:=valD_dec n.toNat
  cases hx:decDigits n.toNat with
  | nil=>exact absurd hx hd.2
  | cons c t=>
   have hc:=digV_rng (hd.1 c (by rw[hx];simp))
   have h1:¬c=45:=fun e=>by subst e;revert hc;decide
   show (if c=45 then -(Zh t) else Zh (c::t))=n
   rw[if_neg h1,←hx,hv]
   omega
theorem rdN_itoa {lo hi n:Int} (h1:lo≤n) (h2:n≤hi):rdN lo hi (itoa n)=(n,true):=by
 unfold rdN
 rw[sgnV_itoa,if_pos ⟨rfl,h1,h2⟩]
theorem rdN_no {lo hi:Int} {l:List UInt8} (h:∀n,lo≤n→n≤hi→itoa n≠l):rdN lo hi l=(0,false):=by
 unfold rdN
 rw[if_neg]
 rintro ⟨h1,h2,h3⟩
 exact h _ h2 h3 h1
def niN:List UInt8→Int×Bool:=rdN (-999999999999) 999999999999
theorem niN_ok:∀n:Int, -1000000≤n→n≤1000000→niN (itoa n)=(n,true):=fun n h0 h3=>rdN_itoa (by omega) (by omega)
end Go.Gh
namespace Go.Gh
open Lib
theorem chA (l:List UInt8):Z6 ⟨l.toArray⟩=l:=by simp[Z6]
structure IsOp (e a b:Exp):Prop where
 k:e.kind=4
 n0:1≤e.n
 n1:e.n≤12
 a:e.args=[a,b]
theorem IsOp.txt {e a b:Exp} (h:IsOp e a b) (h2:e = .mk 4 e.n 0 0 noS noS [a,b]):txtE e=if opLv e.n=4 then Z6 (opW e.n)++40::(txtE a++[44,32]++txtE b++[41]) else oprT (max (opLv e.n) 2) a++32::(Z6 (opW e.n)++32::oprT (opLv e.n+1) b):=by
 rw[h2]
 split
 ·rename_i h4;exact txt_fun _ h.n0 h.n1 a b h4
 ·rename_i h4;exact txt_op _ h.n0 h.n1 a b h4
end Go.Gh
namespace Go.Gh
open Lib
def PR.at {α:Type}:PR α→Nat
 | .bad i=>i
 | .ok _ i=>i
def PR.err {α:Type}:PR α→Bool
 | .bad _ => true
 | .ok _ _ => false
def PR.val {α:Type} (z:α):PR α→α
 | .bad _ => z
 | .ok a _ => a
def okTs (ts:List Tok):Prop:=∀t∈ts,(t.kind=1→shp (Z6 t.text)=true)∧(Z6 t.text).length ≤ 8
end Go.Gh
namespace Go.Gh
theorem St.frz {w:World} {D:Nat→Prop} {H:GH} {Ω:List Nat} (h:St w D H Ω) {r sz:Nat} {es:List GV} (hr:ZW H r=some (sz,es)) :
 ∃D' Ω',St w D' (ZI H r (Zl es)) Ω'∧(∀b,D b→D' b)∧(∀b,D' b→D b∨b∈Ω)∧∀b∈Ω',b∈Ω:=by
 obtain ⟨Ω1,F,Ω2,hΩ,hR,hput,_⟩:=HM.take h.hm hr
 rcases hR with ⟨b,c,T,fz,F',k1,k2,k3,k4,k5,k6,k7⟩|⟨k1,k2,k3⟩
 ·subst k6
  have hnd:=h.nd
  rw[hΩ] at hnd
  have hRM:RM w (fun x=>D x∨x∈F') r sz (Zl es) [b]:=
   .inl ⟨b,c,T,fz,[],k1,k2,k3,by simpa[Zv] using k4,by simpa[Zv] using k5,rfl,by
    have:=MF.view (D':=fun x=>D x∨x∈F') (fun _ => .inl) sz es _ F' (fun x hx=> .inr hx) k7
    simpa[Zv] using this⟩
  have hfin:=hput w (fun x=>D x∨x∈F') (fun _ => True) _ _ (Kept.refl _ _) (fun _ _ => trivial) (fun _ => .inl) (fun _ _ => trivial) hRM
  have hsub:(Ω1++([b]++Ω2)).Sublist (Ω1++((b::F')++Ω2)):=by
   refine List.Sublist.append (List.Sublist.refl _) (List.Sublist.append ?_ (List.Sublist.refl _))
   simp
  refine ⟨fun x=>D x∨x∈F',_,⟨hfin,hnd.sublist hsub,by rw[Y9];exact h.nn,?_,?_⟩,fun _ => .inl,?_,fun x hx=>by rw[hΩ];exact hsub.subset hx⟩
  ·intro x hx hD
   rcases hD with hD|hD
   ·exact h.dj x (by rw[hΩ];exact hsub.subset hx) hD
   ·have hc:=List.nodup_iff_count.1 hnd x
    have h1:=List.count_pos_iff.2 hx
    have h2:=List.count_pos_iff.2 hD
    simp only[List.count_append,List.count_cons,List.count_nil] at hc h1
    omega
  ·intro x hD
   rcases hD with hD|hD
   ·exact h.ds x hD
   ·exact HM.flt h.hm x (by rw[hΩ];simp[hD])
  ·intro x hD
   rcases hD with hD|hD
   ·exact .inl hD
   ·exact .inr (by rw[hΩ];simp[hD])
 ·subst k2 k3
  have hfin:=hput w D (fun _ => True) [] [] (Kept.refl _ _) (fun _ _ => trivial) (fun _ h=>h) (fun _ _ => trivial) (.inr ⟨k1,rfl,rfl⟩)
  refine ⟨D,Ω,⟨?_,h.nd,by rw[Y9];exact h.nn,h.dj,h.ds⟩,fun _ h=>h,fun _ => .inl,fun _ h=>h⟩
  rw[hΩ];exact hfin
theorem FE.frz {env:Env} {H:GH} {r sz:Nat} {es:List GV} (hr:ZW H r=some (sz,es)):FE env H env (ZI H r (Zl es)):=by
 intro w0 D0 O0 N a w ⟨hdf,hsz,D,Ω,ρw,hi⟩
 obtain ⟨D',Ω',h1,h2,h3,h4⟩:=hi.st.frz hr
 refine ⟨hdf,hsz,D',Ω',ρw,fun i g hg hn=> ?_,hi.rw,hi.ri,fun i b hb=> ?_,h1,hi.ev.trans ⟨h2,fun b _ hD=>h3 b hD,fun b hb _ => h4 b hb,Kept.refl _ _,rfl,rfl,rfl⟩⟩
 ·obtain ⟨v,m1,m2⟩:=hi.em i g hg hn
  exact ⟨v,m1,m2.more h2⟩
 ·obtain ⟨r1,r2,r3,r4⟩:=hi.rd i b hb
  exact ⟨fun hD=>(h3 b hD).elim r1 r2,fun h=>r2 (h4 b h),r3,r4⟩
theorem FE.frzV {env:Env} {H:GH} {r sz:Nat} {es es':List GV} (hv:Zl es=es'):FE env ((r,sz,es)::H) env ((r,sz,es')::H):=by
 subst hv
 have:=FE.frz (env:=env) (H:=(r,sz,es)::H) (r:=r) (sz:=sz) (es:=es) (by simp[ZW])
 simpa[ZI] using this
theorem MV.nil_sl {w:World} {D:Nat→Prop} {sz:Nat}:∀v F,MV w D (.val (.slice none 0 0)) v F→MV w D (.sl sz []) v F:=fun v F h=>by
 simp only[MV] at h ⊢
 exact ⟨h.2,.inl ⟨trivial,_,_,h.1⟩⟩
theorem FR.front {g g':GV} {L H:GH} (hb:Bor L g g'):FR g (L++H) g' H:=by
 intro w D Ω v hv hst
 obtain ⟨Ω1,Ω2,rfl,h1,h2⟩:=HM.parted hst.hm
 have hnd:=List.nodup_append.1 hst.nd
 have hnn:=hst.nn
 simp only[names,List.map_append] at hnn
 have hnn':=List.nodup_append.1 hnn
 have hs1:St w D L Ω1:=⟨h1,hnd.1,hnn'.1,fun b hb=>hst.dj b (by simp[hb]),hst.ds⟩
 refine ⟨fun b=>D b∨b∈Ω1,Ω2,hb w D Ω1 v hs1 hv,⟨HM.keep (S:=fun _ => True) (Kept.refl _ _) (fun _ _ => trivial) (fun _ => .inl) (fun _ _ => trivial) h2,hnd.2.1,hnn'.2.1,fun b hb hD=> ?_,fun b hD=> ?_⟩,
  ⟨fun _ => .inl,fun b _ hD=>hD.elim .inl fun h=> .inr (by simp[h]),fun b hb _ => by simp[hb],Kept.refl _ _,rfl,rfl,rfl⟩⟩
 ·rcases hD with hD|hD
  ·exact hst.dj b (by simp[hb]) hD
  ·exact hnd.2.2 b hD b hb rfl
 ·rcases hD with hD|hD
  ·exact hst.ds b hD
  ·exact HM.flt hst.hm b (by simp[hD])
abbrev Bs (bs:List UInt8):GV:= .sl 1 (bs.map fun b=> .val (.int .u8 b.toNat))
abbrev Cu (bs:List UInt8) (i h:Int):GV:= .agg [Bs bs,I i,I h]
def isC (e:GV):Prop:=∃bs i h,e=Cu bs i h∧0≤i∧i≤bs.length∧bs.length≤9223372036854775807
theorem MF.u8 {w:World} {D:Nat→Prop}:∀(bs:List UInt8),MF w D 1 (bs.map fun b=>GV.val (.int .u8 b.toNat)) (bs.map fun b=>Value.int .u8 b.toNat) []
 | []=>by simp[MF]
 | b::bs=>by
  simp only[List.map_cons,MF]
  exact ⟨.int .u8 b.toNat,_,[],[],rfl,rfl,by intro x hx;simp[Value.cells] at hx;subst hx;rfl,rfl,by simp[MV],MF.u8 bs⟩
theorem MF.u8' {w:World} {D:Nat→Prop}:∀(bs:List UInt8) (cs:List Value) (F:List Nat),MF w D 1 (bs.map fun b=>GV.val (.int .u8 b.toNat)) cs F→cs=bs.map fun b=>Value.int .u8 b.toNat
 | [],cs,F,h=>by simp only[List.map_nil,MF] at h;exact h.1
 | b::bs,cs,F,h=>by
  simp only[List.map_cons,MF] at h
  obtain ⟨v,cs',F1,F2,rfl,_,_,_,h1,h2⟩:=h
  simp only[MV] at h1
  rw[h1.1,MF.u8' bs cs' F2 h2]
  rfl
theorem MV.cur {w : World} {D : Nat → Prop} {v : Value} {F : List Nat} (h : MV w D .cur v F) : ∃ e, isC e ∧ MV w D e v F := by
  simp only [MV] at h
  obtain ⟨rfl, bs, i, n, sv, rfl, h1, h2, h3⟩ := h
  refine ⟨Cu bs i n, ⟨bs, i, n, rfl, h1, h2, by rcases h3 with ⟨rfl, _⟩ | ⟨_, _, _, _, _, h, _⟩
                                                · simp
                                                · exact h⟩, ?_⟩
  simp only [MV]
  refine ⟨[sv, .int .i64 i, .int .i64 n], rfl, ?_, ?_⟩
  · have : sv.oneCell' = true := by
      rcases h3 with ⟨_, a, cap, rfl⟩ | ⟨b, off, cap, rfl, _⟩ <;> rfl
    simp [this]
    exact ⟨rfl, rfl⟩
  · simp only [ML]
    refine ⟨sv, _, [], [], rfl, rfl, ?_, _, _, [], [], rfl, rfl, by simp [MV], _, _, [], [], rfl, rfl, by simp [MV], rfl, rfl⟩
    simp only [MV]
    refine ⟨trivial, ?_⟩
    rcases h3 with ⟨rfl, h3⟩ | ⟨b, off, cap, k1, k2, k3, k4, k5⟩
    · exact .inl ⟨rfl, h3⟩
    · exact .inr ⟨b, off, cap, _, by simpa using k1, by simpa using k2, by simpa using k3, k4, k5, MF.u8 bs⟩
theorem MV.uncur {w:World} {D:Nat→Prop} {e:GV} (he:isC e) {v:Value} {F:List Nat} (h:MV w D e v F):MV w D .cur v F:=by
 obtain ⟨bs,i,n,rfl,h1,h2,_⟩:=he
 simp only[MV,ML] at h
 obtain ⟨vs,rfl,_,v1,vs1,F1,F2,rfl,rfl,hs,v2,vs2,F3,F4,rfl,rfl,hi,v3,vs3,F5,F6,rfl,rfl,hn,rfl,rfl⟩:=h
 obtain ⟨rfl,rfl⟩:=hi
 obtain ⟨rfl,rfl⟩:=hn
 obtain ⟨rfl,hs⟩:=hs
 simp only[MV]
 refine ⟨rfl,bs,i,n,v1,rfl,h1,h2,?_⟩
 rcases hs with ⟨k1,k2⟩|⟨b,off,cap,cs,k1,k2,k3,k4,k5,k6⟩
 ·exact .inl ⟨by simpa using k1,k2⟩
 ·have:=MF.u8' bs cs [] k6
  subst this
  exact .inr ⟨b,off,cap,by simpa using k1,by simpa using k2,by simpa using k3,k4,k5⟩
theorem St.exch1 {w:World} {D:Nat→Prop} {H:GH} {Ω:List Nat} (h:St w D H Ω) {r sz i:Nat} {es:List GV} {e:GV} {p:GV→Prop} (hr:ZW H r=some (sz,es)) (he:es[i]? = some e) (hx:∀v F,MV w D e v F→∃e',p e'∧MV w D e' v F) :
 ∃e',p e'∧St w D (ZI H r (es.set i e')) Ω:=by
 obtain ⟨Ω1,F',Ω2,hΩ,hR,hput,_⟩:=HM.take h.hm hr
 obtain ⟨b,c,T,fz,F0,k1,k2,k3,k4,k5,k6,k7⟩:=hR.es_ne (fun e=>by rw[e] at he;simp at he)
 obtain ⟨pre,v,post,A1,Ai,A2,m1,m2,m3,m4,m5,m6,m7⟩:=MF.split sz es _ F0 i _ k7 he
 obtain ⟨e',hp,hx⟩:=hx _ _ m6
 have hmf:=m7 w D (fun _ => True) e' v Ai (Kept.refl _ _) (fun _ _ => trivial) (fun _ h=>h) (fun _ _ => trivial) m3 m4 hx
 rw[←m1,←m5] at hmf
 have hRM:RM w D r sz (es.set i e') F':= .inl ⟨b,c,T,fz,F0,k1,k2,k3,by simpa using k4,by simpa using k5,k6,by simpa using hmf⟩
 have hfin:=hput w D (fun _ => True) _ _ (Kept.refl _ _) (fun _ _ => trivial) (fun _ h=>h) (fun _ _ => trivial) hRM
 rw[←hΩ] at hfin
 exact ⟨e',hp,hfin,h.nd,by rw[Y9];exact h.nn,h.dj,h.ds⟩
theorem GCalls.open {P:Program} {f:FuncId} {gs:List GV} {rc:Nat} {H:GH} {R:GV→GH→Prop} (h:∀e,isC e→GCalls P f gs ((rc,3,[e])::H) R):GCalls P f gs ((rc,3,[.cur])::H) R:=by
 intro w D Ω args hst hargs
 obtain ⟨e',h1,h2⟩:=hst.exch1 (r:=rc) (i:=0) (sz:=3) (es:=[.cur]) (p:=isC) (by simp[ZW]) rfl fun v F h=>h.cur
 have e:ZI ((rc,3,[GV.cur])::H) rc ([GV.cur].set 0 e')=(rc,3,[e'])::H:=by simp[ZI]
 rw[e] at h2
 exact h e' h1 w D Ω args h2 hargs
theorem FE.uncur {env:Env} {rc:Nat} {e:GV} {H:GH} (he:isC e):FE env ((rc,3,[e])::H) env ((rc,3,[.cur])::H):=by
 have:=FE.exch (env:=env) (H:=(rc,3,[e])::H) (r:=rc) (i:=0) (e:=e) (e':= .cur) (sz:=3) (es:=[e]) (by simp[ZW]) rfl fun w D v F h=>h.uncur he
 simpa[ZI] using this
theorem FR.uncur {g:GV} {rc:Nat} {e:GV} {H:GH} (he:isC e):FR g ((rc,3,[e])::H) g ((rc,3,[.cur])::H):=by
 intro w D Ω v hv hst
 have h2:=hst.exch (r:=rc) (i:=0) (e:=e) (e':= .cur) (sz:=3) (es:=[e]) (by simp[ZW]) rfl fun v F h=>h.uncur he
 have e:ZI ((rc,3,[e])::H) rc ([e].set 0 GV.cur)=(rc,3,[.cur])::H:=by simp[ZI]
 rw[e] at h2
 exact ⟨D,Ω,hv,h2,Ev.refl _ _ _⟩
theorem hget_split {r:Nat} {x:Nat×List GV}:∀{H:GH},ZW H r=some x→∃A B,H=A++(r,x)::B∧r∉names A
 | [],h=>by simp[ZW] at h
 | (q,y)::H,h=>by
  simp only[ZW] at h
  split at h
  ·rename_i e
   subst e
   simp only[Option.some.injEq] at h
   subst h
   exact ⟨[],H,rfl,by simp[names]⟩
  ·rename_i hne
   obtain ⟨A,B,h1,h2⟩:=hget_split h
   exact ⟨(q,y)::A,B,by rw[h1];rfl,by simp only[names,List.map_cons,List.mem_cons,not_or];exact ⟨fun e=>hne e.symm,h2⟩⟩
theorem hset_split {r sz:Nat} {es fs:List GV} {B:GH}:∀{A:GH},r∉names A→ZI (A++(r,sz,es)::B) r fs=A++(r,sz,fs)::B
 | [],_ => by simp[ZI]
 | (q,s,y)::A,h=>by
  simp only[names,List.map_cons,List.mem_cons,not_or] at h
  simp only[List.cons_append,ZI]
  rw[if_neg (Ne.symm h.1),hset_split h.2]
theorem count_mid {x:Nat} (a b c:List Nat):(a++(b++c)).count x=(b++(a++c)).count x:=by
 simp only[List.count_append];omega
theorem St.mid {w:World} {D:Nat→Prop} {A B:GH} {y:Nat×Nat×List GV} {Ω:List Nat} (h:St w D (A++y::B) Ω):∃Ω',St w D (y::(A++B)) Ω'∧(∀x,x∈Ω'↔x∈Ω):=by
 obtain ⟨Ω1,Ω2,rfl,h1,h2⟩:=HM.parted h.hm
 obtain ⟨r,sz,es⟩:=y
 obtain ⟨F1,F2,rfl,h3,h4⟩:=h2
 refine ⟨F1++(Ω1++F2),⟨⟨F1,_,rfl,h3,HM.append h1 h4⟩,?_,?_,?_,h.ds⟩,fun x=>by simp only[List.mem_append];exact or_left_comm⟩
 ·have:=h.nd
  rw[List.nodup_iff_count] at this ⊢
  intro x;rw[←count_mid];exact this x
 ·have:=h.nn
  simp only[names,List.map_append,List.map_cons] at this ⊢
  rw[List.nodup_iff_count] at this ⊢
  intro x
  have:=this x
  simp only[List.count_append,List.count_cons] at this ⊢
  omega
 ·intro x hx
  exact h.dj x (by simp only[List.mem_append] at hx ⊢;exact or_left_comm.1 hx)
theorem St.mid' {w:World} {D:Nat→Prop} {A B:GH} {y:Nat×Nat×List GV} {Ω:List Nat} (h:St w D (y::(A++B)) Ω):∃Ω',St w D (A++y::B) Ω'∧(∀x,x∈Ω'↔x∈Ω):=by
 obtain ⟨r,sz,es⟩:=y
 obtain ⟨F1,F2,rfl,h3,h4⟩:=h.hm
 obtain ⟨Ω1,Ω2,rfl,h1,h2⟩:=HM.parted h4
 refine ⟨Ω1++(F1++Ω2),⟨HM.append h1 ⟨F1,_,rfl,h3,h2⟩,?_,?_,?_,h.ds⟩,fun x=>by simp only[List.mem_append];exact or_left_comm⟩
 ·have:=h.nd
  rw[List.nodup_iff_count] at this ⊢
  intro x;rw[count_mid];exact this x
 ·have:=h.nn
  simp only[names,List.map_append,List.map_cons] at this ⊢
  rw[List.nodup_iff_count] at this ⊢
  intro x
  have:=this x
  simp only[List.count_append,List.count_cons] at this ⊢
  omega
 ·intro x hx
  exact h.dj x (by simp only[List.mem_append] at hx ⊢;exact or_left_comm.1 hx)
def Dc (P:Program) (f:FuncId) (gs:List GV) (R:GV→GH→Prop):Prop:=
 ∀rc H,GCalls P f (.ptr rc 3 0 0::gs) ((rc,3,[.cur])::H) (fun g H'=>∃H1,R g H1∧H'=H1++(rc,3,[.cur])::H)
abbrev Dv (P:Program) (f:FuncId) (gs:List GV) (R:GV→Prop):Prop:=Dc P f gs (fun g H1=>R g∧H1=[])
theorem Dc.mono {P:Program} {f:FuncId} {gs:List GV} {R R':GV→GH→Prop} (h:Dc P f gs R) (hr:∀g H1,R g H1→R' g H1):Dc P f gs R':=
 fun rc H=>(h rc H).mono fun g H' ⟨H1,h1,h2⟩=>⟨H1,hr g H1 h1,h2⟩
theorem Dc.of {P:Program} {f:FuncId} {gs:List GV} {R:GV→GH→Prop}
 (h:∀rc H,GCalls P f (.ptr rc 3 0 0::gs) ((rc,3,[.cur])::H) (fun g H'=>∃G H1 T L,R G H1∧Bor L g G∧H'=T++H∧subH T (L++(H1++[(rc,3,[.cur])])))):Dc P f gs R:=
 fun rc H=>(h rc H).fr fun g H' ⟨G,H1,T,L,h1,h2,h3,h4⟩=>by
  subst h3
  refine ⟨G,H1++(rc,3,[.cur])::H,FR.trans (FR.perm h4) ?_,H1,h1,rfl⟩
  rw[List.append_assoc,List.append_assoc]
  exact FR.front h2
theorem Dv.of {P:Program} {f:FuncId} {gs:List GV} {R:GV→Prop}
 (h:∀rc H,GCalls P f (.ptr rc 3 0 0::gs) ((rc,3,[.cur])::H) (fun g H'=>∃G T L,R G∧Bor L g G∧H'=T++H∧subH T (L++[(rc,3,[.cur])]))):Dv P f gs R:=
 Dc.of fun rc H=>(h rc H).mono fun g H' ⟨G,T,L,h1,h2,h3,h4⟩=>⟨G,[],T,L,⟨h1,rfl⟩,h2,h3,h4⟩
theorem Dv.of0 {P:Program} {f:FuncId} {gs:List GV} {R:GV→Prop}
 (h:∀rc H,GCalls P f (.ptr rc 3 0 0::gs) ((rc,3,[.cur])::H) (fun g H'=>R g∧H'=(rc,3,[.cur])::H)):Dv P f gs R:=
 fun rc H=>(h rc H).mono fun g H' ⟨h1,h2⟩=>⟨[],⟨h1,rfl⟩,h2⟩
theorem Dc.at {P:Program} {f:FuncId} {gs:List GV} {R:GV→GH→Prop} (h:Dc P f gs R) {rc:Nat} {H:GH} (hr:ZW H rc=some (3,[.cur])) :
 GCalls P f (.ptr rc 3 0 0::gs) H (fun g H'=>∃H1,R g H1∧H'=H1++H):=by
 obtain ⟨A,B,rfl,hn⟩:=hget_split hr
 intro w D Ω args hst hargs
 obtain ⟨Ω',h1,h2⟩:=hst.mid
 refine Yld.mono (fun v w' ⟨g,H',D',Ω'',⟨H1,k0,k1⟩,k2,k3,k4⟩=> ?_) (h rc (A++B) w D Ω' args h1 hargs)
 subst k1
 have k3':St w' D' ((H1++[(rc,3,[.cur])])++(A++B)) Ω'':=by simpa using k3
 obtain ⟨Ω3,m1,m2⟩:∃Ω3,St w' D' (H1++(A++(rc,3,[.cur])::B)) Ω3∧∀x,x∈Ω3↔x∈Ω'':=by
  obtain ⟨Ωa,q1,q2⟩:=(show St w' D' (H1++(rc,3,[GV.cur])::(A++B)) Ω'' from k3).mid
  rw[←List.append_assoc] at q1
  obtain ⟨Ωb,q3,q4⟩:=q1.mid'
  rw[List.append_assoc] at q3
  exact ⟨Ωb,q3,fun x=>(q4 x).trans (q2 x)⟩
 exact ⟨g,_,D',Ω3,⟨H1,k0,rfl⟩,k2,m1,
  ⟨k4.d0,fun b hb hD=>(k4.dn b hb hD).imp id (h2 b).1,fun b hb hl=>(h2 b).1 (k4.on b ((m2 b).1 hb) hl),k4.kp.mono fun b _ hb hb'=>hb ((h2 b).1 hb'),k4.os,k4.tape,k4.output⟩⟩
theorem callS.dc {P:Program} {f:FuncId} {gs:List GV} {R:GV→GH→Prop} {K:Env→GH→Prop} {is:List GI} {env:Env} {H:GH} {d:Option Nat} {rc:Nat} (h:Dc P f gs R) (hr:ZW H rc=some (3,[.cur]))
 (hk:∀g H1,R g H1→(names (H1++H)).Nodup → Z4 P is K (gput env d g) (H1++H)):callS P false f (some (.ptr rc 3 0 0::gs)) d is K env H:=
 callS.of (h.at hr) fun g H' ⟨H1,h1,h2⟩ hn=>by subst h2;exact hk g H1 h1 hn
theorem callS.dv {P:Program} {f:FuncId} {gs:List GV} {R:GV→Prop} {K:Env→GH→Prop} {is:List GI} {env:Env} {H:GH} {d:Option Nat} {rc:Nat} (h:Dv P f gs R) (hr:ZW H rc=some (3,[.cur]))
 (hk:∀g,R g→Z4 P is K (gput env d g) H):callS P false f (some (.ptr rc 3 0 0::gs)) d is K env H:=
 callS.dc h hr fun g H1 ⟨h1,h2⟩ _ => by subst h2;exact hk g h1
theorem callA.dc {P:Program} {f:FuncId} {gs:List GV} {R:GV→GH→Prop} {K:Env→GH→Prop} {is:List GI} {env:Env} {H:GH} {d:Option Nat} {rc:Nat} (h:Dc P f gs R) (hr:ZW H rc=some (3,[.cur]))
 (hk:∀g H1,R g H1→(names (H1++H)).Nodup → Z4 P is K (gput env d g) (H1++H)):callA P f (some (.ptr rc 3 0 0::gs)) d is K env H:=
 ⟨R,h.at hr,hk⟩
theorem callA.dv {P:Program} {f:FuncId} {gs:List GV} {R:GV→Prop} {K:Env→GH→Prop} {is:List GI} {env:Env} {H:GH} {d:Option Nat} {rc:Nat} (h:Dv P f gs R) (hr:ZW H rc=some (3,[.cur]))
 (hk:∀g,R g→Z4 P is K (gput env d g) H):callA P f (some (.ptr rc 3 0 0::gs)) d is K env H:=
 callA.dc h hr fun g H1 ⟨h1,h2⟩ _ => by subst h2;exact hk g h1
end Go.Gh
namespace Go.Gh
theorem andI_le {a:Int} {m:Nat} (hm:m<2 ^ 62):0≤andI .i64 a m∧andI .i64 a m≤m:=by
 have h1:(BitVec.ofInt 64 a &&& BitVec.ofInt 64 (m:Int)).toNat ≤ m:=by
  rw[BitVec.toNat_and]
  refine Nat.le_trans Nat.and_le_right ?_
  rw[BitVec.toNat_ofInt]
  omega
 have h2:andI .i64 a m=(IntKind.i64).wrap (BitVec.ofInt 64 a &&& BitVec.ofInt 64 (m:Int)).toNat := rfl
 have h3:(IntKind.i64).wrap ((BitVec.ofInt 64 a &&& BitVec.ofInt 64 (m:Int)).toNat : Int)=(BitVec.ofInt 64 a &&& BitVec.ofInt 64 (m:Int)).toNat := by
  have:(((BitVec.ofInt 64 a &&& BitVec.ofInt 64 (m:Int)).toNat : Int))<4611686018427387904:=by
   have:(2:Nat) ^ 62=4611686018427387904:=by decide
   omega
  generalize ((BitVec.ofInt 64 a &&& BitVec.ofInt 64 (m:Int)).toNat)=k at *
  simp only[IntKind.wrap,IntKind.signed,IntKind.bits]
  simp
  omega
 rw[h2,h3]
 omega
theorem andI_255 (a:Int):∃k:Nat,andI .i64 a 255=k∧k<256:=by
 have h:=andI_le (a:=a) (m:=255) (by decide)
 have h':0≤andI .i64 a 255∧andI .i64 a 255≤255:=h
 exact ⟨(andI .i64 a 255).toNat,by omega,by omega⟩
theorem YB (s:ByteArray):(Z6 s).length = s.size:=by
 show s.data.toList.length=s.data.size
 exact Array.length_toList
theorem okE_of:∀(e:Exp),wEx e≤1048576→okE e:=by
 refine Exp.indA fun e ih h=> ?_
 rw[wEx_eq] at h
 rw[okE_eq]
 have h1:=YB e.sym
 have h2:=YB e.name
 have hw:wtS wEx e.args≤1048576:=by omega
 have hm:(1048576:Nat)≤maxLen:=by decide
 refine ⟨by omega,by omega,fun a ha=>ih a ha ?_⟩
 exact (wtS_mem hw).2 a ha
def shT (s:ByteArray):Prop:=s.size≤16
def shSy (s:Sym):Prop:=shT s.name∧1≤s.atts.length∧s.atts.length≤5∧∀a∈s.atts,shT a.name
def shSys (l:List Sym):Prop:=1≤l.length∧l.length≤3∧∀s∈l,shSy s
def shEx (e:Exp):Prop:=wEx e≤200000
def shRu (r:Rul):Prop:=shT r.name∧shT r.left∧r.right.length≤5∧(∀s∈r.right,shT s)∧r.eqs.length≤64∧(∀q∈r.eqs,shT q.name∧shEx q.expr)∧r.cons.length≤64∧∀c∈r.cons,shT c.sym∧shT c.name∧shEx c.goal∧shEx c.value
def shGr (g:Gram):Prop:=shSys g.syms∧1≤g.rules.length∧g.rules.length≤16∧∀r∈g.rules,shRu r
theorem shEx_ok {e:Exp} (h:shEx e):okE e∧wEx e≤1048576:=by
 unfold shEx at h
 exact ⟨okE_of e (by omega),by omega⟩
theorem shSy_sm {s:Sym} (h:shSy s):smSy s:=by have:=h.2.2.1;unfold smSy;omega
theorem shSys_sm {l:List Sym} (h:shSys l):l.length≤1048576∧∀s∈l,smSy s:=⟨by have:=h.2.1;omega,fun s hs=>shSy_sm (h.2.2 s hs)⟩
theorem shRu_sm {r:Rul} (h:shRu r):smRu r:=by
 obtain ⟨_,_,h1,_,h2,h3,h4,h5⟩:=h
 exact ⟨by omega,by omega,by omega,fun q hq=>(shEx_ok (h3 q hq).2).2,fun c hc=>⟨(shEx_ok (h5 c hc).2.2.1).2,(shEx_ok (h5 c hc).2.2.2).2⟩⟩
theorem shGr_sm {g:Gram} (h:shGr g):smGr g:=⟨(shSys_sm h.1).1,by have:=h.2.2.1;omega,(shSys_sm h.1).2,fun r hr=>shRu_sm (h.2.2.2 r hr)⟩
theorem wEx_leaf {k n p t:Int} {s m:ByteArray} (hs:shT s) (hm:shT m):wEx (.mk k n p t s m [])≤32:=by
 have h1:=YB s
 have h2:=YB m
 unfold shT at hs hm
 simp only[wEx,wExL,List.length_nil]
 omega
def shD (d:Nat) (e:Exp):Prop:=wEx e≤40 * 4 ^ d
theorem shD_mono {a b:Nat} {e:Exp} (h:a≤b) (he:shD a e):shD b e:=by
 unfold shD at *
 have:=Nat.pow_le_pow_right (n:=4) (by decide) h
 omega
theorem shD_leaf {d:Nat} {k n p t:Int} {s m:ByteArray} (hs:shT s) (hm:shT m):shD d (.mk k n p t s m []):=by
 have:=wEx_leaf (k:=k) (n:=n) (p:=p) (t:=t) hs hm
 have h2:0<4 ^ d:=Nat.pow_pos (by decide)
 unfold shD;omega
theorem shD_node {d:Nat} {k n p t:Int} {s m:ByteArray} {l:List Exp} (hs:shT s) (hm:shT m) (hl:l.length≤3) (h:∀e∈l,shD d e):shD (d+1) (.mk k n p t s m l):=by
 have h1:=YB s
 have h2:=YB m
 have h3:0<4 ^ d:=Nat.pow_pos (by decide)
 have h4:∀(l:List Exp),(∀e∈l,shD d e)→wExL l≤l.length * (40 * 4 ^ d):=by
  intro l
  induction l with
  | nil=>intro _;simp[wExL]
  | cons e l ih=>
   intro h
   have:=ih fun x hx=>h x (by simp[hx])
   have h5:wEx e≤40 * 4 ^ d:=h e (by simp)
   simp only[wExL,List.length_cons]
   rw[Nat.succ_mul]
   omega
 have h5:=h4 l h
 have h6:l.length * (40 * 4 ^ d)≤3 * (40 * 4 ^ d):=Nat.mul_le_mul_right _ hl
 unfold shT at hs hm
 unfold shD
 simp only[wEx]
 rw[Nat.pow_succ]
 omega
theorem shD_ex {d:Nat} {e:Exp} (hd:d≤6) (h:shD d e):shEx e:=by
 have:=Nat.pow_le_pow_right (n:=4) (by decide) hd
 have h6:4 ^ 6=4096:=by decide
 unfold shD at h;unfold shEx;omega
def ltT:GV→Bool
 | .val (.string s)=>decide (s.size≤16)
 | _ => false
def ltI (lo hi:Int):GV→Bool
 | .val (.int .i64 n)=>decide (lo≤n∧n≤hi)
 | _ => false
theorem ltT_mem {es:List GV} (h:es.all ltT=true) {g:GV} (hg:g∈es):∃s,shT s∧g=T s:=by
 have:=List.all_eq_true.1 h g hg
 unfold ltT at this
 split at this
 ·exact ⟨_,by simpa[shT] using this,rfl⟩
 ·cases this
theorem YK {lo hi:Int} {es:List GV} (h:es.all (ltI lo hi)=true) {g:GV} (hg:g∈es):∃n:Int,(lo≤n∧n≤hi)∧g=I n:=by
 have:=List.all_eq_true.1 h g hg
 unfold ltI at this
 split at this
 ·exact ⟨_,by simpa using this,rfl⟩
 ·cases this
def noAg (es:List GV):Bool:=es.all fun e=> !isAgg e&&nraw e
theorem notAgg {es:List GV} (h:noAg es=true) (k:Nat) (hk:k<es.length):isAgg es[k]=false:=by
 have:=List.all_eq_true.1 h _ (List.getElem_mem hk)
 simp only[Bool.and_eq_true] at this
 simpa using this.1
theorem notRaw {es:List GV} (h:noAg es=true) (k:Nat) (hk:k<es.length):geR (some es[k])=some es[k]:=by
 have:=List.all_eq_true.1 h _ (List.getElem_mem hk)
 simp only[Bool.and_eq_true] at this
 have h2:=this.2
 cases h3:es[k]<;>first|rfl|(rw[h3] at h2;simp[nraw] at h2)
abbrev ExN (e:Exp):GV:= .agg [I e.kind,I e.n,I e.pos,I e.type,T e.sym,T e.name,.val (.slice none 0 0)]
abbrev ExR (e:Exp) (r:Nat):GV:= .agg [I e.kind,I e.n,I e.pos,I e.type,T e.sym,T e.name,.own r 7 0 e.args.length]
def ExW (e:Exp) (g:GV) (H1:GH):Prop:=(e.args=[]∧g=ExN e∧H1=[])∨∃r,g=ExR e r∧H1=[(r,7,e.args.map Ex)]
theorem bor_ExN {H:GH} {e:Exp} (h:e.args=[]):Bor H (ExN e) (Ex e):=by
 rw[Y2,h]
 exact .agg (.cons .refl (.cons .refl (.cons .refl (.cons .refl (.cons .refl (.cons .refl (.cons .nil .nil)))))))
theorem bor_ExR {H:GH} {e:Exp} {r:Nat} (h:ZW H r=some (7,e.args.map Ex)):Bor H (ExR e r) (Ex e):=by
 rw[Y2]
 exact .agg (.cons .refl (.cons .refl (.cons .refl (.cons .refl (.cons .refl (.cons .refl (.cons (Bor.allM view_Ex h rfl) .nil)))))))
theorem ExW.bor {e:Exp} {g:GV} {H1:GH} (h:ExW e g H1):Bor H1 g (Ex e):=by
 rcases h with ⟨h,rfl,rfl⟩|⟨r,rfl,rfl⟩
 ·exact bor_ExN h
 ·exact bor_ExR ZX
theorem Dc.frz {P:Program} {f:FuncId} {gs:List GV} {R:GV→GH→Prop} {p:GV→Prop} (h:Dc P f gs R) (hb:∀g H1,R g H1→∃G,p G∧Bor H1 g G):Dv P f gs p:=fun rc H=>
 (h rc H).fr fun g H' ⟨H1,h1,h2⟩=>by
  subst h2
  obtain ⟨G,k1,k2⟩:=hb g H1 h1
  exact ⟨G,_,FR.front k2,[],⟨k1,rfl⟩,rfl⟩
theorem u64_nn (a:Int):0≤IntKind.u64.wrap a:=by
 simp only[IntKind.wrap,IntKind.signed,IntKind.bits]
 simp
 omega
instance (s:ByteArray):Decidable (shT s):=inferInstanceAs (Decidable (s.size≤16))
theorem bor_ExV {H:GH} {k n p t:Int} {s m:ByteArray} {r q:Nat} {l:List Exp} (h:ZW H r=some (7,l.map Ex)) (hl:l.length=q):Bor H (.agg [I k,I n,I p,I t,T s,T m,.own r 7 0 q]) (Ex (.mk k n p t s m l)):=by
 subst hl
 exact bor_ExR (e:= .mk k n p t s m l) h
theorem Dc.own {P:Program} {f:FuncId} {gs:List GV} {p:Exp→Prop} (h:Dc P f gs (fun g H1=>∃e,p e∧ExW e g H1)):Dc P f gs (fun g H1=>∃e r,p e∧g=ExR e r∧H1=[(r,7,e.args.map Ex)]):=fun rc H=>
 (h rc H).fr fun g H' ⟨H1,⟨e,h1,h2⟩,h3⟩=>by
  subst h3
  rcases h2 with ⟨h0,rfl,rfl⟩|⟨r,rfl,rfl⟩
  ·obtain ⟨v,hv,hn⟩:=vfresh (names ((rc,3,[.cur])::H))
   refine ⟨ExR e v,(v,7,[])::(rc,3,[.cur])::H,FR.trans (FR.sub ?_) (FR.addv hv hn),[(v,7,[])],⟨e,v,h1,rfl,by rw[h0];rfl⟩,rfl⟩
   have h5:e.args.length=0:=by rw[h0];rfl
   show Bor [] (ExN e) (.agg [I e.kind,I e.n,I e.pos,I e.type,T e.sym,T e.name,.own v 7 0 e.args.length])
   rw[h5]
   exact .agg (.cons .refl (.cons .refl (.cons .refl (.cons .refl (.cons .refl (.cons .refl (.cons Bor.virt .nil)))))))
  ·exact ⟨_,_,FR.refl _ _,_,⟨e,r,h1,rfl,rfl⟩,rfl⟩
theorem Bor.exch {H:GH} {r sz i:Nat} {es:List GV} {e e' g g':GV} (hr:ZW H r=some (sz,es)) (he:es[i]? = some e) (hx:∀w D v F,MV w D e v F→MV w D e' v F) (hb:Bor (ZI H r (es.set i e')) g g'):Bor H g g':=
 fun w D Ω v hst hm=>hb w D Ω v (hst.exch hr he (hx w D)) hm
theorem MV.exn {e:Exp} (h:e.args=[]):∀w D v F,MV w D (ExN e) v F→MV w D (Ex e) v F:=fun w D v F hm=>by
 have:=MV.fld (j:=6) (g':= .sl 7 []) rfl MV.nil_sl v F hm
 rw[Y2,h]
 exact this
theorem bor_ExApp {H:GH} {k n p t:Int} {s m:ByteArray} {r q:Nat} {l:List Exp} {e:Exp} (h:ZW H r=some (7,l.map Ex++[ExN e])) (he:e.args=[]) (hl:l.length+1=q):Bor H (.agg [I k,I n,I p,I t,T s,T m,.own r 7 0 q]) (Ex (.mk k n p t s m (l++[e]))):=by
 refine Bor.exch (i:=l.length) h (by simp) (MV.exn he) ?_
 have e2:(l.map Ex++[ExN e]).set l.length (Ex e)=(l++[e]).map Ex:=by
  rw[List.set_append_right _ _ (by simp)]
  simp
 rw[e2]
 refine bor_ExV ?_ (by simpa using hl)
 have:∀{H:GH} {x:Nat×List GV} {fs:List GV},ZW H r=some x→ZW (ZI H r fs) r=some (x.1,fs):=by
  intro H
  induction H with
  | nil=>intro x fs h;cases h
  | cons y H ih=>
   obtain ⟨a,b,c⟩:=y
   intro x fs h
   simp only[ZW,ZI] at h ⊢
   split at h
   ·rename_i e3
    simp only[Option.some.injEq] at h
    subst h
    simp[e3,ZW]
   ·rename_i e3
    simp only[if_neg e3,ZW]
    exact ih h
 exact this h
end Go.Gh
namespace Go.Gh
open Lib
abbrev EO (r:Nat) (e:Exp):GV:= .agg [I e.kind,I e.n,I e.pos,I e.type,T e.sym,T e.name,.own r 7 0 e.args.length]
def EP (S:Nat→Bool→GV) (P:PR Exp) (rp:Nat) (H:GH) (g:GV) (H':GH):Prop:=
 ∃e r,g=EO r e∧H'=(r,7,e.args.map ExO)::ZI H rp [S P.at P.err]∧∀a j,P = .ok a j→e=a
theorem FR.nilE {e:Exp} (he:e.args=[]) (H:GH):∃r,FR (ExN e) H (EO r e) ((r,7,e.args.map ExO)::H):=by
 obtain ⟨r,ho,hq⟩:=vfresh (names H)
 refine ⟨r,?_⟩
 have hl:e.args.length=0:=by rw[he];rfl
 show FR (ExN e) H (.agg [I e.kind,I e.n,I e.pos,I e.type,T e.sym,T e.name,.own r 7 0 e.args.length]) ((r,7,e.args.map ExO)::H)
 rw[hl,he]
 exact FR.trans (FR.addv ho hq) (FR.sub (.agg (.cons .refl (.cons .refl (.cons .refl (.cons .refl (.cons .refl (.cons .refl (.cons .virt .nil)))))))))
end Go.Gh
namespace Go.Gh
open Lib
variable {ts:List Tok}
def BdA {α:Type} (ts:List Tok) (i:Nat) (P:PR α):Prop:=i≤ts.length→i≤P.at∧P.at≤ts.length
theorem BdA.bind {α β:Type} {i:Nat} {P:PR α} {f:α→Nat→PR β} (h:BdA ts i P) (hf:∀a j,BdA ts j (f a j)):BdA ts i (P.bind f):=by
 intro hi
 cases P with
 | bad k=>exact h hi
 | ok b k=>
  obtain ⟨h1,h2⟩:=h hi
  obtain ⟨h3,h4⟩:=hf b k h2
  exact ⟨Nat.le_trans h1 h3,h4⟩
theorem BdA.ite {α:Type} {i:Nat} {c:Prop} [Decidable c] {a b:PR α} (h1:c→BdA ts i a) (h2:¬c→BdA ts i b):BdA ts i (if c then a else b):=by
 by_cases h:c
 ·rw[if_pos h];exact h1 h
 ·rw[if_neg h];exact h2 h
theorem BdA.ok {α:Type} {i:Nat} (a:α):BdA ts i (PR.ok a i):=fun h=>⟨Nat.le_refl _,h⟩
theorem BdA.next {α:Type} {i:Nat} (a:α) (h:i<ts.length):BdA ts i (PR.ok a (i+1)):=fun _ => ⟨Nat.le_succ _,h⟩
theorem BdA.bad {α:Type} {i:Nat}:BdA ts i (PR.bad i:PR α):=fun h=>⟨Nat.le_refl _,h⟩
theorem BdA.skip {α:Type} {i:Nat} {P:PR α} (h:i<ts.length) (hP:BdA ts (i+1) P):BdA ts i P:=fun _ => by
 obtain ⟨h1,h2⟩:=hP h
 exact ⟨by omega,h2⟩
end Go.Gh
namespace Go.Gh
open Lib
variable {ts:List Tok}
def rA (ts:List Tok) (i:Nat):PR Exp:=pA ts (2 * ts.length+4) i
end Go.Gh
namespace Go.Gh
variable {ts:List Tok}
def okNs (ts:List Tok):Prop:=∀t∈ts,t.kind=2→0≤t.num∧t.num≤1000000
def EN (S:Nat→Bool→GV) (P:PR Exp) (rp:Nat) (H:GH) (g:GV) (H':GH):Prop:=
 ∃e,e.args=[]∧g=ExN e∧H'=ZI H rp [S P.at P.err]∧∀a j,P = .ok a j→e=a
def E1 (S:Nat→Bool→GV) (P:PR Exp) (rp:Nat) (H:GH) (g:GV) (H':GH):Prop:=
 ∃s m a r q,q≠r∧g=EO q (.mk 8 0 0 0 s m [a])∧H'=(q,7,[EO r a])::(r,7,a.args.map ExO)::ZI H rp [S P.at P.err]∧∀x j,P = .ok x j→(.mk 8 0 0 0 s m [a])=x
def E3 (S:Nat→Bool→GV) (P:PR Exp) (rp:Nat) (H:GH) (g:GV) (H':GH):Prop:=
 ∃a b c ra rb rc q,q≠ra∧q≠rb∧q≠rc∧rc≠ra∧rc≠rb∧rb≠ra∧g=EO q (.mk 5 0 0 0 noS noS [a,b,c])∧H'=(q,7,[EO ra a,EO rb b,EO rc c])::(rc,7,c.args.map ExO)::(rb,7,b.args.map ExO)::(ra,7,a.args.map ExO)::ZI H rp [S P.at P.err]∧∀x j,P = .ok x j→(.mk 5 0 0 0 noS noS [a,b,c])=x
theorem closeO {g:GV} {q r:Nat} {pre suf:List GV} {a:Exp} {U:GH} (hne:q≠r) (hr:ZW U r=some (7,a.args.map ExO)):FR g ((q,7,pre++EO r a::suf)::U) g ((q,7,pre++ExO a::suf)::Zy U r):=by
 have h:=FR.close (g:=g) (H:=(q,7,pre++EO r a::suf)::U) (r:=q) (r1:=r) (sz:=7) (sz1:=7) (i:=pre.length) (j:=6) (n:=a.args.length) (es:=pre++EO r a::suf) (gs:=[I a.kind,I a.n,I a.pos,I a.type,T a.sym,T a.name,.own r 7 0 a.args.length]) (ks:=a.args.map ExO) hne ZX (by simp) rfl (by rw[hget_old hne];exact hr) (by simp)
 rw[YR] at h
 have e1:(pre++EO r a::suf).set pre.length (.agg ([I a.kind,I a.n,I a.pos,I a.type,T a.sym,T a.name,.own r 7 0 a.args.length].set 6 (.osl 7 (a.args.map ExO))))=pre++ExO a::suf:=by
  rw[ExO_eq]
  simp
 rw[e1] at h
 have e2:Zy ((q,7,pre++ExO a::suf)::U) r=(q,7,pre++ExO a::suf)::Zy U r:=by simp[Zy,hne]
 rw[e2] at h
 exact h
theorem EP.of {P:Program} {f:FuncId} {gs:List GV} {H:GH} {S:Nat→Bool→GV} {R:PR Exp} {rp:Nat} (h:GCalls P f gs H (fun g H'=>EP S R rp H g H'∨EN S R rp H g H'∨E1 S R rp H g H'∨E3 S R rp H g H')):GCalls P f gs H (EP S R rp H):=by
 refine h.fr ?_
 rintro g H' (h|⟨e,he,rfl,rfl,hx⟩|⟨s,m,a,r,q,hqr,rfl,rfl,hx⟩|⟨a,b,c,ra,rb,rc,q,h1,h2,h3,h4,h5,h6,rfl,rfl,hx⟩)
 ·exact ⟨g,H',FR.refl _ _,h⟩
 ·obtain ⟨r,hf⟩:=FR.nilE he (ZI H rp [S R.at R.err])
  exact ⟨_,_,hf,e,r,rfl,rfl,hx⟩
 ·have c1:=closeO (g:=EO q (.mk 8 0 0 0 s m [a])) (pre:=[]) (suf:=[]) (U:=(r,7,a.args.map ExO)::ZI H rp [S R.at R.err]) hqr ZX
  rw[show Zy ((r,7,a.args.map ExO)::ZI H rp [S R.at R.err]) r=ZI H rp [S R.at R.err] by simp[Zy]] at c1
  exact ⟨_,_,c1,_,q,rfl,rfl,hx⟩
 ·have c1:=closeO (g:=EO q (.mk 5 0 0 0 noS noS [a,b,c])) (pre:=[EO ra a,EO rb b]) (suf:=[]) (U:=(rc,7,c.args.map ExO)::(rb,7,b.args.map ExO)::(ra,7,a.args.map ExO)::ZI H rp [S R.at R.err]) h3 ZX
  rw[show Zy ((rc,7,c.args.map ExO)::(rb,7,b.args.map ExO)::(ra,7,a.args.map ExO)::ZI H rp [S R.at R.err]) rc=(rb,7,b.args.map ExO)::(ra,7,a.args.map ExO)::ZI H rp [S R.at R.err] by simp[Zy]] at c1
  have c2:=closeO (g:=EO q (.mk 5 0 0 0 noS noS [a,b,c])) (pre:=[EO ra a]) (suf:=[ExO c]) (U:=(rb,7,b.args.map ExO)::(ra,7,a.args.map ExO)::ZI H rp [S R.at R.err]) h2 ZX
  rw[show Zy ((rb,7,b.args.map ExO)::(ra,7,a.args.map ExO)::ZI H rp [S R.at R.err]) rb=(ra,7,a.args.map ExO)::ZI H rp [S R.at R.err] by simp[Zy]] at c2
  have c3:=closeO (g:=EO q (.mk 5 0 0 0 noS noS [a,b,c])) (pre:=[]) (suf:=[ExO b,ExO c]) (U:=(ra,7,a.args.map ExO)::ZI H rp [S R.at R.err]) h1 ZX
  rw[show Zy ((ra,7,a.args.map ExO)::ZI H rp [S R.at R.err]) ra=ZI H rp [S R.at R.err] by simp[Zy]] at c3
  exact ⟨_,_,FR.trans c1 (FR.trans c2 c3),_,q,rfl,rfl,hx⟩
end Go.Gh
namespace Go.Gh
open Lib
def StP {α β:Type} (P:PR α) (Q:PR β):Prop:=P.at=Q.at∧P.err=Q.err
theorem StP.bind {α β γ:Type} (P:PR α) {f:α→Nat→PR β} {f':α→Nat→PR γ} (h:∀a j,StP (f a j) (f' a j)):StP (P.bind f) (P.bind f'):=by
 cases P with
 | bad k=>exact ⟨rfl,rfl⟩
 | ok a k=>exact h a k
theorem StP.last {α β:Type} (P:PR α) (f:α→β):StP P (P.bind fun a j=> .ok (f a) j):=by cases P<;>exact ⟨rfl,rfl⟩
end Go.Gh
namespace Go.Gh
open Lib
end Go.Gh
namespace Go.Gh
open Lib
variable {ts:List Tok}
def offT (ts:List Tok) (n:Int) (i:Nat):Int:=if i<ts.length then (ts.getD i tokZ).at' else n
structure OkR (ts:List Tok) (n:Int):Prop where
 len:ts.length≤80
 txt:okTs ts
 num:okNs ts
 off:∀t∈ts,0≤t.at'
 fin:0≤n
theorem OkR.nn {n:Int} (h:OkR ts n) (i:Nat):0≤offT ts n i:=by
 unfold offT
 split
 ·rename_i hi
  rw[YS hi]
  exact h.off _ (List.getElem_mem hi)
 ·exact h.fin
theorem OkR.ge {n:Int} (h:OkR ts n) (i:Nat):(0≤offT ts n i)=True:=eq_true (h.nn i)
end Go.Gh
namespace Go.Gh
open Lib
variable {ts:List Tok}
end Go.Gh
namespace Go.Gh
open Lib
theorem FR.nilT {e:Exp} (he:e.args=[]) (v:GV) (H:GH):∃r,FR (.tup [ExN e,v]) H (.tup [EO r e,v]) ((r,7,e.args.map ExO)::H):=by
 obtain ⟨r,ho,hq⟩:=vfresh (names H)
 refine ⟨r,?_⟩
 have hl:e.args.length=0:=by rw[he];rfl
 show FR (.tup [ExN e,v]) H (.tup [.agg [I e.kind,I e.n,I e.pos,I e.type,T e.sym,T e.name,.own r 7 0 e.args.length],v]) ((r,7,e.args.map ExO)::H)
 rw[hl,he]
 exact FR.trans (FR.addv ho hq) (FR.sub (.tup (.cons (.agg (.cons .refl (.cons .refl (.cons .refl (.cons .refl (.cons .refl (.cons .refl (.cons .virt .nil)))))))) (.cons .refl .nil))))
abbrev zE:Exp:= .mk 0 0 0 0 noS noS []
def AnsS (a:Exp×Int) (H:GH) (g:GV) (H':GH):Prop:=
 (∃r q x,g = .tup [EO r a.1,I a.2]∧H'=(r,7,a.1.args.map ExO)::(q,x)::H)∨(∃X,a.1=zE∧g = .tup [ExN zE,I a.2]∧H'=X++H)
def AnsO (a:Exp×Int) (H:GH) (g:GV) (H':GH):Prop:=∃H1,(∃r,g = .tup [EO r a.1,I a.2]∧H1=[(r,7,a.1.args.map ExO)])∧H'=H1++H
theorem AnsS.own {P:Program} {f:FuncId} {gs:List GV} {H:GH} {a:Exp×Int} (h:GCalls P f gs H (AnsS a H)):GCalls P f gs H (AnsO a H):=by
 refine h.fr ?_
 rintro g H' (⟨r,q,x,rfl,rfl⟩|⟨X,hz,rfl,rfl⟩)
 ·exact ⟨_,_,FR.perm (H:=[(r,7,a.1.args.map ExO),(q,x)]) (L:=[(r,7,a.1.args.map ExO)]) (by simp[subH,ZW,names]),_,⟨r,rfl,rfl⟩,rfl⟩
 ·obtain ⟨r,hf⟩:=FR.nilT (e:=zE) rfl (I a.2) H
  refine ⟨_,_,FR.trans (FR.perm (H:=X) (L:=[]) (by simp[subH,names])) hf,_,⟨r,?_,rfl⟩,?_⟩
  ·rw[hz]
  ·rw[hz];rfl
theorem bor_EO {H:GH} {r:Nat} {e:Exp} (hr:ZW H r=some (7,e.args.map ExO)):Bor H (EO r e) (Ex e):=by
 rw[Y2]
 exact .agg (.cons .refl (.cons .refl (.cons .refl (.cons .refl (.cons .refl (.cons .refl (.cons (Bor.seen view_ExO hr (by simp)) .nil)))))))
theorem AnsO.bor {a:Exp×Int} {H:GH} {g:GV} {H':GH} (h:AnsO a H g H'):Bor H' g (.tup [Ex a.1,I a.2]):=by
 obtain ⟨H1,⟨r,rfl,rfl⟩,rfl⟩:=h
 exact .tup (.cons (bor_EO ZX) (.cons .refl .nil))
end Go.Gh
namespace Go.Gh
def ltr:Nat→ByteArray
 | 0=>ByteArray.mk #[97]
 | 1=>ByteArray.mk #[98]
 | 2=>ByteArray.mk #[99]
 | _ => ByteArray.mk #[100]
def drA (i:Nat) (a:Att):Prop:=a.name=ltr i∧(1≤a.type∧a.type≤4)∧(1≤a.mode∧a.mode≤3)∧a.circ=false
def drL (l:List Att):Prop:=∀i (h:i<l.length),drA i l[i]
def drS (s:Sym):Prop:=shT s.name∧1≤s.atts.length∧s.atts.length≤4∧drL s.atts
theorem ltr_sh:∀i,shT (ltr i)
 | 0=>by decide
 | 1=>by decide
 | 2=>by decide
 | _ + 3=>by show shT (ByteArray.mk #[100]);decide
theorem drL_nil:drL []:=fun i h=>by simp at h
theorem drL_app {l:List Att} {a:Att} (h:drL l) (ha:drA l.length a):drL (l++[a]):=fun i hi=>by
 simp only[List.length_append,List.length_cons,List.length_nil] at hi
 rcases Nat.lt_or_ge i l.length with h1|h1
 ·rw[List.getElem_append_left h1];exact h i h1
 ·obtain rfl:i=l.length:=by omega
  simpa using ha
theorem drS_sh {s:Sym} (h:drS s):shSy s:=⟨h.1,h.2.1,by have:=h.2.2.1;omega,fun a ha=>by
 obtain ⟨i,hi,rfl⟩:=List.mem_iff_getElem.1 ha
 rw[(h.2.2.2 i hi).1]
 exact ltr_sh i⟩
theorem ltr_get (i:Nat) (h:i<([T (ByteArray.mk #[97]),T (ByteArray.mk #[98]),T (ByteArray.mk #[99]),T (ByteArray.mk #[100])]:List GV).length) :
 ([T (ByteArray.mk #[97]),T (ByteArray.mk #[98]),T (ByteArray.mk #[99]),T (ByteArray.mk #[100])]:List GV)[i]'h = T (ltr i):=by
 have:i=0∨i=1∨i=2∨i=3:=by simp at h;omega
 rcases this with rfl|rfl|rfl|rfl<;>rfl
theorem nxAtt {ι:Type} {E:ι→Env} {G:ι→GH} {μ:ι→Nat} {i:ι} {e:Env} {q:Nat} {X:List GV} {nm:ByteArray} {t m:Int} {R:GH} (h:∀a:Att,a=⟨nm,t,m,false⟩→Nx E G μ i e ((q,4,X++[At a])::R)) :
 Nx E G μ i e ((q,4,X++[.agg [T nm,I t,I m,B false]])::R):=h _ rfl
abbrev GrX (g:Gram) (X:GV):GV:= .agg [SyS g.syms,X]
abbrev RuX (r:Rul) (Y Z:GV):GV:= .agg [T r.name,T r.left,TS r.right,B r.lit,Y,Z]
def ofT (kind:Int) (pos:Nat) (a:Att):Bool:=decide (a.type=kind∧a.mode=if pos=0 then 1 else 2)
def ofP (g:Gram) (r:Rul) (kind:Int) (pos:Nat):List Oc:=((fSym g.syms (YH r pos)).atts.filter (ofT kind pos)).map fun a=>((pos:Int),a.name)
def ofA (g:Gram) (r:Rul) (kind:Int):Nat→List Oc
 | 0=>[]
 | n+1=>ofA g r kind n++ofP g r kind n
def ofO (g:Gram) (r:Rul) (kind:Int):List Oc:=ofA g r kind (r.right.length+1)
theorem ofP_take {p:Att→Bool} {pos:Nat} (l:List Att) {i:Nat} (h:i<l.length) :
 (((l.take (i+1)).filter p).map fun a=>((pos:Int),a.name))=(((l.take i).filter p).map fun a=>((pos:Int),a.name))++(if p l[i]=true then [((pos:Int),l[i].name)] else []):=by
 rw[List.take_add_one,List.getElem?_eq_getElem h,List.filter_append,List.map_append]
 by_cases e:p l[i]=true<;>simp[e]
theorem ofA_len {g:Gram} (hg:smGr g) (r:Rul) (kind:Int):∀n,(ofA g r kind n).length ≤ n * 1048576
 | 0=>by simp[ofA]
 | n+1=>by
  have h1:=ofA_len hg r kind n
  have h2:(ofP g r kind n).length ≤ 1048576:=by
   have h3:=List.length_filter_le (ofT kind n) (fSym g.syms (YH r n)).atts
   have h4:=smSy_f hg (YH r n)
   unfold smSy at h4
   simp only[ofP,List.length_map]
   omega
  simp only[ofA,List.length_append]
  omega
theorem fSym_sh {l:List Sym} (h:∀s∈l,shSy s) (n:ByteArray):∀a∈(fSym l n).atts,shT a.name:=by
 rcases fSym_mem l n with h1|h1
 ·exact (h _ h1).2.2.2
 ·rw[h1];simp[symZ]
theorem ofA_sh {g:Gram} (h:∀s∈g.syms,shSy s) (r:Rul) (kind:Int):∀n,∀o∈ofA g r kind n,shT o.2
 | 0,o,ho=>by simp[ofA] at ho
 | n+1,o,ho=>by
  simp only[ofA,List.mem_append] at ho
  rcases ho with ho|ho
  ·exact ofA_sh h r kind n o ho
  ·simp only[ofP,List.mem_map,List.mem_filter] at ho
   obtain ⟨a,⟨ha,_⟩,rfl⟩:=ho
   exact fSym_sh h _ a ha
theorem reqA_sh {g:Gram} (h:∀s∈g.syms,shSy s) (r:Rul):∀n,∀o∈reqA g r n,shT o.2
 | 0,o,ho=>by simp[reqA] at ho
 | n+1,o,ho=>by
  simp only[reqA,List.mem_append] at ho
  rcases ho with ho|ho
  ·exact reqA_sh h r n o ho
  ·simp only[reqP,List.mem_map,List.mem_filter] at ho
   obtain ⟨a,⟨ha,_⟩,rfl⟩:=ho
   exact fSym_sh h _ a ha
theorem callA.ex {P:Program} {f:FuncId} {gs:List GV} {R:GV→GH→Prop} {K:Env→GH→Prop} {is:List GI} {env:Env} {H:GH} {d:Option Nat} (h:GCalls P f gs H (fun g H'=>∃H1,R g H1∧H'=H1++H))
 (hk:∀g H1,R g H1→(names (H1++H)).Nodup → Z4 P is K (gput env d g) (H1++H)):callA P f (some gs) d is K env H:=⟨R,h,hk⟩
end Go.Gh
namespace Go.Gh
abbrev RuB (r:Rul) (b:Bool) (Y Z:GV):GV:= .agg [T r.name,T r.left,TS r.right,B b,Y,Z]
theorem ofA_lit (g:Gram) (r:Rul) (b:Bool) (kind:Int):∀n,ofA g { r with lit:=b } kind n=ofA g r kind n
 | 0=>rfl
 | n+1=>by simp only[ofA,ofA_lit g r b kind n];rfl
theorem ofO_lit (g:Gram) (r:Rul) (b:Bool) (kind:Int):ofO g { r with lit:=b } kind=ofO g r kind:=ofA_lit g r b kind _
theorem smRu_lit {r:Rul} (h:smRu r) (b:Bool):smRu { r with lit:=b }:=h
theorem names_nd2 {w rc:Nat} {x y:Nat×List GV} {H:GH} (h:(names ([(w,x)]++(rc,y)::H)).Nodup):¬w=rc:=fun e=>by
 subst e
 simp[names] at h
theorem fin_if {d:Nat} {a b c:Exp} {q rc:Nat} {H:GH} (ha:shD d a) (hb:shD d b) (hc:shD d c) (hne:¬q=rc) :
 ∃G T L,(∃e,shD (d+1) e∧G=Ex e)∧Bor L (.agg [I 5,I 0,I 0,I 0,Gh.T noS,Gh.T noS,.own q 7 0 3]) G∧(q,7,[Ex a,Ex b,Ex c])::(rc,3,[GV.cur])::H=T++H∧subH T (L++[(rc,3,[GV.cur])]):=
 ⟨_,[_,_],[(q,7,[Ex a,Ex b,Ex c])],⟨.mk 5 0 0 0 noS noS [a,b,c],shD_node (by decide) (by decide) (by simp) (by simp[ha,hb,hc]),rfl⟩,bor_ExV (l:=[a,b,c]) ZX rfl,rfl,by simp[subH,ZW,names,hne]⟩
end Go.Gh
namespace Go.Gh
theorem fSym_len5 {l:List Sym} (h:∀s∈l,shSy s) (n:ByteArray):(fSym l n).atts.length ≤ 5:=by
 rcases fSym_mem l n with h1|h1
 ·exact (h _ h1).2.2.1
 ·rw[h1];simp[symZ]
theorem reqA_len5 {g:Gram} (h:∀s∈g.syms,shSy s) (r:Rul):∀n,(reqA g r n).length ≤ n * 5
 | 0=>by simp[reqA]
 | n+1=>by
  have h1:=reqA_len5 h r n
  have h2:(reqP g r n).length ≤ 5:=by
   have h3:=List.length_filter_le (fun a:Att=>decide (a.mode=if n=0 then 2 else 1)) (fSym g.syms (YH r n)).atts
   have h4:=fSym_len5 h (YH r n)
   simp only[reqP,List.length_map]
   omega
  simp only[reqA,List.length_append]
  omega
abbrev QnN (p:Int) (m:ByteArray) (e:Exp):GV:= .agg [I p,T m,I e.kind,I e.n,I e.pos,I e.type,T e.sym,T e.name,.val (.slice none 0 0)]
theorem MV.qnn {p:Int} {m:ByteArray} {e:Exp} (h:e.args=[]):∀w D v F,MV w D (QnN p m e) v F→MV w D (Qn ⟨p,m,e⟩) v F:=fun w D v F hm=>by
 have:=MV.fld (j:=8) (g':= .sl 7 []) rfl MV.nil_sl v F hm
 show MV w D (.agg [I p,T m,I e.kind,I e.n,I e.pos,I e.type,T e.sym,T e.name,.sl 7 (e.args.map Ex)]) v F
 rw[h]
 exact this
theorem FE.qn {env:Env} {q:Nat} {L:List GV} {p:Int} {m:ByteArray} {e:Exp} {H:GH} (h:e.args=[]):FE env ((q,9,L++[QnN p m e])::H) env ((q,9,L++[Qn ⟨p,m,e⟩])::H):=by
 have:=FE.exch (env:=env) (H:=(q,9,L++[QnN p m e])::H) (r:=q) (sz:=9) (i:=L.length) (es:=L++[QnN p m e]) (e:=QnN p m e) (e':=Qn ⟨p,m,e⟩) (by simp[ZW]) (by simp) (MV.qnn h)
 simpa[ZI] using this
end Go.Gh
namespace Go.Gh
def drG (g:Gram):Prop:=shGr g∧(∀s∈g.syms,drS s)∧g.rules.length≤8∧∀r∈g.rules,r.right.length≤3
theorem drG_sm {g:Gram} (h:drG g):smGr g:=shGr_sm h.1
theorem drG_len {g:Gram} (h:drG g):1≤g.syms.length∧g.syms.length≤3:=⟨h.1.1.1,h.1.1.2.1⟩
def hAt (g:Gram) (s:ByteArray):Int:=(hgts g).getD (max 0 (ixOf (fun y:Sym=>decide (y.name=s)) g.syms)).toNat 0
theorem hIt_rng (g:Gram):∀k i,0≤(hIt g k).getD i 0∧(hIt g k).getD i 0≤k
 | 0,i=>by
  simp only[hIt,List.getD_eq_getElem?_getD,List.getElem?_replicate]
  split<;>simp
 | k+1,i=>by
  rcases Nat.lt_or_ge i g.syms.length with h|h
  ·have:=hIt_rng g k i
   simp only[hIt]
   rw[YS (by simpa using h),List.getElem_map,List.getElem_range]
   unfold hNext
   split
   ·omega
   ·split<;>omega
  ·rw[List.getD_eq_getElem?_getD,List.getElem?_eq_none (by rw[hIt_len];exact h)]
   simp;omega
theorem hAt_rng (g:Gram) (s:ByteArray):0≤hAt g s∧hAt g s≤g.syms.length:=hIt_rng g _ _
def lowR (g:Gram) (s:ByteArray) (r:Rul):Prop:=∀c∈r.right,hAt g c<hAt g s
def lowB:Nat→Nat
 | 0=>1
 | h+1=>1+3 * lowB h
def grB (room:Int):Nat:=if room<5 then 40 else 41 * room.toNat
theorem lowB_mono {a b : Nat} (h : a ≤ b) : lowB a ≤ lowB b := by
  induction b with
  | zero => obtain rfl : a = 0 := by omega
            exact Nat.le_refl _
  | succ b ih =>
    rcases Nat.lt_or_ge a (b + 1) with h1 | h1
    · have := ih (by omega)
      simp only [lowB]; omega
    · obtain rfl : a = b + 1 := by omega
      exact Nat.le_refl _
theorem lowB_le {h:Nat} (h3:h≤3):lowB h≤40:=lowB_mono h3
theorem grB_step {room:Int} {n:Nat} (hr:5≤room) (hn:n≤3):1+n * grB (room.tdiv (max 1 n)-1)≤grB room:=by
 have h0:n=0∨n=1∨n=2∨n=3:=by omega
 have hb:∀x:Int,(x<5∧grB x=40)∨(5≤x∧grB x=41 * x.toNat):=fun x=>by
  unfold grB;split<;>omega
 rcases hb room with h1|⟨_,h1⟩
 ·omega
 ·rw[h1]
  rcases h0 with rfl|rfl|rfl|rfl
  ·omega
  ·rcases hb (room.tdiv (max 1 (1:Nat))-1) with ⟨h2,h3⟩|⟨h2,h3⟩<;>rw[h3]<;>simp at * <;> omega
  ·have h4:room.tdiv (max 1 ((2:Nat):Int))=room / 2:=by rw[Int.tdiv_eq_ediv_of_nonneg (by omega)];rfl
   rcases hb (room.tdiv (max 1 ((2:Nat):Int))-1) with ⟨h2,h3⟩|⟨h2,h3⟩<;>rw[h3]<;>rw[h4] at * <;> omega
  ·have h4:room.tdiv (max 1 ((3:Nat):Int))=room / 3:=by rw[Int.tdiv_eq_ediv_of_nonneg (by omega)];rfl
   rcases hb (room.tdiv (max 1 ((3:Nat):Int))-1) with ⟨h2,h3⟩|⟨h2,h3⟩<;>rw[h3]<;>rw[h4] at * <;> omega
def drN (x:Nod):Prop:=x.kids.length≤3∧shT x.rule
theorem sum_bnd {c:Nat}:∀l:List (List Nod),(∀t∈l,t.length≤c)→(l.map (·.length)).sum ≤ l.length * c
 | [],_ => by simp
 | t::l,h=>by
  have h1:=sum_bnd l fun t ht=>h t (by simp[ht])
  have h2:=h t (by simp)
  simp only[List.map_cons,List.sum_cons,List.length_cons,Nat.succ_mul]
  omega
theorem sum_take {l:List (List Nod)} {k:Nat} (h:k<l.length):((l.take (k+1)).map (·.length)).sum = ((l.take k).map (·.length)).sum + l[k].length := by
 rw[List.take_add_one,List.getElem?_eq_getElem h,List.map_append,List.sum_append]
 rfl
end Go.Gh
namespace Go.Gh
abbrev CoN (s m:ByteArray) (e f:Exp):GV:= .agg [T s,T m,I e.kind,I e.n,I e.pos,I e.type,T e.sym,T e.name,.val (.slice none 0 0),I f.kind,I f.n,I f.pos,I f.type,T f.sym,T f.name,.val (.slice none 0 0)]
theorem MV.con {s m:ByteArray} {e f:Exp} (he:e.args=[]) (hf:f.args=[]):∀w D v F,MV w D (CoN s m e f) v F→MV w D (Co ⟨s,m,e,f⟩) v F:=fun w D v F hm=>by
 have h1:=MV.fld (j:=15) (g':= .sl 7 []) rfl MV.nil_sl v F hm
 have h2:=MV.fld (j:=8) (g':= .sl 7 []) rfl MV.nil_sl v F h1
 show MV w D (.agg [T s,T m,I e.kind,I e.n,I e.pos,I e.type,T e.sym,T e.name,.sl 7 (e.args.map Ex),I f.kind,I f.n,I f.pos,I f.type,T f.sym,T f.name,.sl 7 (f.args.map Ex)]) v F
 rw[he,hf]
 exact h2
theorem FE.con {env:Env} {q:Nat} {L:List GV} {s m:ByteArray} {e f:Exp} {H:GH} (he:e.args=[]) (hf:f.args=[]):FE env ((q,16,L++[CoN s m e f])::H) env ((q,16,L++[Co ⟨s,m,e,f⟩])::H):=by
 have:=FE.exch (env:=env) (H:=(q,16,L++[CoN s m e f])::H) (r:=q) (sz:=16) (i:=L.length) (es:=L++[CoN s m e f]) (e:=CoN s m e f) (e':=Co ⟨s,m,e,f⟩) (by simp[ZW]) (by simp) (MV.con he hf)
 simpa[ZI] using this
def shCo (c:Con):Prop:=shT c.sym∧shT c.name∧shEx c.goal∧shEx c.value
end Go.Gh
namespace Go.Gh
abbrev ZE:GV:= .val (.slice none 0 0)
abbrev Ru0 (r:Rul):GV:=RuX r ZE ZE
theorem view_Co (c:Con):view (Co c)=Co c:=by
 have:∀l:List Exp,(l.map Ex).map view=l.map Ex:=fun l=>by rw[List.map_map];exact List.map_congr_left fun a _ => view_Ex a
 simp[view,Zl,Zv,this]
theorem view_Qn (c:Eqn):view (Qn c)=Qn c:=by
 have:∀l:List Exp,(l.map Ex).map view=l.map Ex:=fun l=>by rw[List.map_map];exact List.map_congr_left fun a _ => view_Ex a
 simp[view,Zl,Zv,this]
theorem Zg {α:Type} {f:α→GV} (h:∀a,view (f a)=f a) (l:List α):(l.map f).map view=l.map f:=by
 rw[List.map_map];exact List.map_congr_left fun a _ => h a
theorem view_Sy (s:Sym):view (Sy s)=Sy s:=by
 have:=Zg (f:=At) (fun a=>rfl) s.atts
 simp[view,Zl,Zv,this]
theorem view_Ru0 (r:Rul):view (Ru0 r)=Ru0 r:=by
 have:=Zg (f:=T) (fun a=>rfl) r.right
 simp[view,Zl,Zv,this]
theorem view_Ru (r:Rul):view (Ru r)=Ru r:=by
 have h1:=Zg (f:=T) (fun a=>rfl) r.right
 have h2:=Zg view_Qn r.eqs
 have h3:=Zg view_Co r.cons
 simp only[view,Zl,Zv,h1,h2,h3]
theorem FE.symF {env:Env} {q rg n:Nat} {l:List Sym} {H:GH} (hne:¬rg=q) (hl:l.length=n):FE env ((q,2,l.map Sy)::(rg,2,[.agg [.own q 2 0 n,ZE]])::H) env ((rg,2,[.agg [SyS l,ZE]])::H):=by
 have h1:=FE.close (env:=env) (H:=(q,2,l.map Sy)::(rg,2,[.agg [.own q 2 0 n,ZE]])::H) (r:=rg) (r1:=q) (i:=0) (j:=0) hne (by simp[ZW,Ne.symm hne];exact ⟨rfl,rfl⟩) rfl rfl ZX (by simpa using hl)
 have e:Zy (ZI ((q,2,l.map Sy)::(rg,2,[.agg [.own q 2 0 n,ZE]])::H) rg ([GV.agg [.own q 2 0 n,ZE]].set 0 (.agg ([GV.own q 2 0 n,ZE].set 0 (.osl 2 (l.map Sy)))))) q=(rg,2,[.agg [.osl 2 (l.map Sy),ZE]])::H:=by
  simp[ZI,Zy,Ne.symm hne]
 rw[e] at h1
 refine FE.trans h1 (FE.frzV ?_)
 have:=Zg view_Sy l
 simp only[Zl,view,Zv,this]
theorem FE.leaf {env:Env} {q:Nat} {L:List Rul} {a b:ByteArray} {c:Bool} {H:GH}:FE env ((q,6,L.map Ru0++[.agg [T a,T b,ZE,B c,ZE,ZE]])::H) env ((q,6,(L++[(⟨a,b,[],c,[],[]⟩:Rul)]).map Ru0)::H):=by
 have:=FE.exch (env:=env) (H:=(q,6,L.map Ru0++[.agg [T a,T b,ZE,B c,ZE,ZE]])::H) (r:=q) (sz:=6) (i:=L.length) (es:=L.map Ru0++[.agg [T a,T b,ZE,B c,ZE,ZE]]) (e:= .agg [T a,T b,ZE,B c,ZE,ZE]) (e':=Ru0 (⟨a,b,[],c,[],[]⟩:Rul)) (by simp[ZW]) (by simp)
  fun w D v F hm=>MV.fld (j:=2) (g':= .sl 1 []) rfl MV.nil_sl v F hm
 have e:(L.map Ru0++[GV.agg [T a,T b,ZE,B c,ZE,ZE]]).set L.length (Ru0 (⟨a,b,[],c,[],[]⟩:Rul))=(L++[(⟨a,b,[],c,[],[]⟩:Rul)]).map Ru0:=by
  rw[List.set_append_right _ _ (by simp)];simp
 rw[e] at this
 simpa[ZI] using this
theorem FE.ruF {env:Env} {q q3 n:Nat} {L:List Rul} {a b:ByteArray} {rs:List ByteArray} {c:Bool} {H:GH} (hne:¬q=q3) (hn:rs.length=n) :
 FE env ((q,6,L.map Ru0++[.agg [T a,T b,.own q3 1 0 n,B c,ZE,ZE]])::(q3,1,rs.map T)::H) env ((q,6,(L++[(⟨a,b,rs,c,[],[]⟩:Rul)]).map Ru0)::H):=by
 refine FE.trans (FE.closeL2 (L:=L.map Ru0) (j:=2) hne rfl (by simpa using hn)) (FE.frzV ?_)
 have h1:=Zg view_Ru0 L
 have h2:=Zg (f:=T) (fun a=>rfl) rs
 rw[Zv,List.map_append,h1,List.map_append]
 simp only[List.map_cons,List.map_nil,List.set,view,Zv,h2]
theorem viewL_set {es:List GV} {i:Nat} {x y:GV} (h:es.map view=es) (hx:view x=y):Zl (es.set i x)=es.set i y:=by
 rw[Zv,List.map_set,h,hx]
theorem FE.ruQ {env:Env} {q q1 n:Nat} {es:List GV} {i:Nat} {r:Rul} {qs:List Eqn} {H:GH} (hne:q1≠q) (hi:i<es.length) (hes:es.map view=es) (hn:qs.length=n) :
 FE env ((q1,9,qs.map Qn)::(q,6,es.set i (RuX r (.own q1 9 0 n) ZE))::H) env ((q,6,es.set i (Ru { r with eqs:=qs,cons:=[] }))::H):=by
 refine FE.trans (FE.close2 (L:=es) (i:=i) (j:=4) hne hi rfl (by simpa using hn)) (FE.trans (FE.frzV (viewL_set hes (y:=RuX r (QnS qs) ZE) ?_)) ?_)
 ·have h1:=Zg (f:=T) (fun a=>rfl) r.right
  have h2:=Zg view_Qn qs
  simp only[List.set,view,Zv,List.map_cons,List.map_nil,h1,h2]
 ·have:=FE.exch (env:=env) (H:=(q,6,es.set i (RuX r (QnS qs) ZE))::H) (r:=q) (sz:=6) (i:=i) (es:=es.set i (RuX r (QnS qs) ZE)) (e:=RuX r (QnS qs) ZE) (e':=Ru { r with eqs:=qs,cons:=[] }) (by simp[ZW]) (by simp[hi])
   fun w D v F hm=>MV.fld (j:=5) (g':= .sl 16 []) rfl MV.nil_sl v F hm
  rw[List.set_set] at this
  simpa[ZI] using this
theorem FE.ruP {env:Env} {q q1 q2 n m:Nat} {es:List GV} {i:Nat} {r:Rul} {qs:List Eqn} {cs:List Con} {H:GH} (hne:q1≠q) (hne2:q2≠q) (hne3:q2≠q1) (hi:i<es.length) (hes:es.map view=es) (hn:qs.length=n) (hm:cs.length=m) :
 FE env ((q2,16,cs.map Co)::(q1,9,qs.map Qn)::(q,6,es.set i (RuX r (.own q1 9 0 n) (.own q2 16 0 m)))::H) env ((q,6,es.set i (Ru { r with eqs:=qs,cons:=cs }))::H):=by
 refine FE.trans (FE.perm (H:=[_,_,_]) (L:=[(q1,9,qs.map Qn),(q,6,es.set i (RuX r (.own q1 9 0 n) (.own q2 16 0 m))),(q2,16,cs.map Co)]) (by simp[subH,ZW,names,hne,hne2,hne3,Ne.symm hne,Ne.symm hne2,Ne.symm hne3])) ?_
 refine FE.trans (FE.close2 (L:=es) (i:=i) (j:=4) hne hi rfl (by simpa using hn)) ?_
 refine FE.trans (FE.perm (H:=[_,_]) (L:=[(q2,16,cs.map Co),(q,6,es.set i (.agg [T r.name,T r.left,TS r.right,B r.lit,.osl 9 (qs.map Qn),.own q2 16 0 m]))]) (by simp[subH,ZW,names,hne,hne2,hne3,Ne.symm hne,Ne.symm hne2,Ne.symm hne3])) ?_
 refine FE.trans (FE.close2 (L:=es) (i:=i) (j:=5) hne2 hi rfl (by simpa using hm)) (FE.frzV (viewL_set hes ?_))
 have h1:=Zg (f:=T) (fun a=>rfl) r.right
 have h2:=Zg view_Qn qs
 have h3:=Zg view_Co cs
 simp only[List.set,view,Zv,List.map_cons,List.map_nil,h1,h2,h3]
def shR0 (r:Rul):Prop:=shT r.name∧shT r.left∧r.right.length≤3∧∀s∈r.right,shT s
theorem shR0_sm {r:Rul} (h:shR0 r):smRu { r with eqs:=[],cons:=[] }:=⟨by have:=h.2.2.1;show r.right.length ≤ _;omega,by simp,by simp,by simp,by simp⟩
theorem rul_mid {D L:List Rul} {j:Nat} (hD:D.length=j) (hj:j<L.length):∃es:List GV,D.map Ru++(L.drop j).map Ru0=es∧es.length=L.length∧(∀h:j<es.length,es[j]=Ru0 L[j])∧es.map view=es ∧
 ∀r:Rul,es.set j (Ru r)=(D++[r]).map Ru++(L.drop (j+1)).map Ru0:=by
 refine ⟨_,rfl,?_,?_,?_,?_⟩
 ·simp;omega
 ·intro h
  rw[List.getElem_append_right (by simp;omega)]
  simp[hD]
 ·rw[List.map_append,Zg view_Ru,Zg view_Ru0]
 ·intro r
  rw[List.set_append_right _ _ (by simp;omega),List.drop_eq_getElem_cons hj]
  simp only[List.map_cons,List.length_map,hD,Nat.sub_self,List.set_cons_zero,List.map_append,List.map_nil,List.append_assoc,List.singleton_append]
theorem bor_rul {q n:Nat} {l:List Sym} {D:List Rul} {X:List GV} (h:D.length=n):Bor [(q,6,D.map Ru++X)] (.agg [SyS l,.own q 6 0 n]) (Gr ⟨l,D⟩):=by
 have h1:=Bor.own (H:=[(q,6,D.map Ru++X)]) (r:=q) (sz:=6) (k:=0) (n:=n) (es:=D.map Ru++X) ZX (by simp;omega)
 have e:Zl (((D.map Ru++X).drop 0).take n)=D.map Ru:=by
  rw[List.drop_zero,List.take_append_of_le_length (by simp;omega),List.take_of_length_le (by simp;omega),Zv,Zg view_Ru]
 rw[e] at h1
 exact .agg (.cons .refl (.cons h1 .nil))
theorem drG_of {l:List Sym} {D:List Rul} (h1:1≤l.length) (h3:l.length≤3) (hd:∀s∈l,drS s) (k1:1≤D.length) (k2:D.length≤8) (hr:∀r∈D,shRu r∧r.right.length≤3):drG ⟨l,D⟩:=
 ⟨⟨⟨h1,h3,fun s hs=>drS_sh (hd s hs)⟩,k1,by show D.length≤16;omega,fun r h=>(hr r h).1⟩,hd,k2,fun r h=>(hr r h).2⟩
theorem shRu_of {r:Rul} {qs:List Eqn} {cs:List Con} (h:shR0 r) (h1:qs.length≤64) (h2:∀q∈qs,shT q.name∧shEx q.expr) (h3:cs.length≤2) (h4:∀c∈cs,shCo c):shRu { r with eqs:=qs,cons:=cs }∧({ r with eqs:=qs,cons:=cs }:Rul).right.length ≤ 3:=
 ⟨⟨h.1,h.2.1,by have:=h.2.2.1;show r.right.length≤5;omega,h.2.2.2,h1,h2,by show cs.length≤64;omega,h4⟩,h.2.2.1⟩
def rulO (g:Gram) (s:ByteArray):List ByteArray:=(g.rules.filter fun r=>decide (r.left=s)).map (·.name)
def rulP (g:Gram) (s:ByteArray) (k:Nat):List ByteArray:=((g.rules.take k).filter fun r=>decide (r.left=s)).map (·.name)
theorem rulP_s {g:Gram} {s:ByteArray} {k:Nat} (h:k<g.rules.length):rulP g s (k+1)=rulP g s k++(if g.rules[k].left = s then [g.rules[k].name] else []):=by
 unfold rulP
 rw[List.take_add_one,List.getElem?_eq_getElem h,List.filter_append,List.map_append]
 by_cases e:g.rules[k].left = s<;>simp[e]
theorem rulP_end (g:Gram) (s:ByteArray):rulP g s g.rules.length=rulO g s:=by simp[rulP,rulO]
theorem rulP_len (g:Gram) (s:ByteArray) (k:Nat):(rulP g s k).length ≤ g.rules.length:=by
 unfold rulP
 rw[List.length_map]
 exact Nat.le_trans (List.length_filter_le _ _) (by rw[List.length_take];omega)
theorem rulO_mem {g:Gram} {s n:ByteArray} (h:n∈rulO g s):ZH g.rules n∈g.rules:=by
 unfold rulO at h
 obtain ⟨r,hr,rfl⟩:=List.mem_map.1 h
 have hr':=(List.mem_filter.1 hr).1
 unfold ZH
 cases e:g.rules.find? fun s=>decide (s.name=r.name) with
 | none=>have:=List.find?_eq_none.1 e r hr';simp at this
 | some a=>exact List.mem_of_find?_eq_some e
theorem FE.rulz {env:Env} {q:Nat} {H:GH}:FE env ((q,6,[.agg [T noS,T noS,ZE,B false,ZE,ZE]])::H) env ((q,6,[Ru rulZ])::H):=by
 have h:=FE.exch (env:=env) (H:=(q,6,[.agg [T noS,T noS,ZE,B false,ZE,ZE]])::H) (r:=q) (sz:=6) (i:=0) (es:=[.agg [T noS,T noS,ZE,B false,ZE,ZE]]) (e:= .agg [T noS,T noS,ZE,B false,ZE,ZE]) (e':=Ru rulZ) (by simp[ZW]) rfl
  fun w D v F hm=>MV.fld (j:=5) (g':= .sl 16 []) rfl MV.nil_sl v F (MV.fld (j:=4) (g':= .sl 9 []) rfl MV.nil_sl v F (MV.fld (j:=2) (g':= .sl 1 []) rfl MV.nil_sl v F hm))
 simpa[ZI] using h
def atS (g:Gram) (s:ByteArray):Nat:=(max 0 (ixOf (fun y:Sym=>decide (y.name=s)) g.syms)).toNat
theorem atS_lt {g:Gram} (h:1≤g.syms.length) (s:ByteArray):atS g s<(hgts g).length := by
 rw[hgts_len]
 unfold atS
 rcases ixOf_cases (fun y:Sym=>decide (y.name=s)) g.syms with h1|h1<;>omega
theorem hAt_eq {g:Gram} (h:1≤g.syms.length) (s:ByteArray):(hgts g)[atS g s]'(atS_lt h s)=hAt g s:=by
 unfold hAt
 rw[←YS (atS_lt h s)]
 rfl
def okR (g:Gram) (s:ByteArray) (room:Int) (r:Rul):Prop:=(r=rulZ∨r∈g.rules)∧(room<5→r=rulZ∨lowR g s r)
def goodT (b:Nat) (t:List Nod):Prop:=(∀x∈t,drN x)∧1≤t.length∧t.length≤b
theorem view_Tr (t:List Nod):view (Tr t)=Tr t:=by
 have:∀x:Nod,view (Nd x)=Nd x:=fun x=>by
  have:=Zg (f:=I) (fun a=>rfl) x.kids
  simp[view,Zl,Zv,this]
 have:=Zg this t
 simp[view,Zl,Zv,this]
theorem tdiv_rng {a b:Int} (h : -100000≤a∧a≤100000) (hb:1≤b) : -100000≤a.tdiv b∧a.tdiv b≤100000:=by
 have h1:(a.tdiv b).natAbs ≤ a.natAbs:=by
  rw[Int.natAbs_tdiv];exact Nat.div_le_self _ _
 omega
theorem wrS {a:Int} (h : -200000≤a∧a≤200000):IntKind.i64.wrap a=a:=wrap64 (by omega) (by omega)
theorem tdiv_lo {a m:Int} (hm:1≤m):(0≤a→0≤a.tdiv m∧a.tdiv m≤a)∧(a≤0→a≤a.tdiv m∧a.tdiv m≤0):=by
 have key:∀a:Int,0≤a→0≤a.tdiv m∧a.tdiv m≤a:=fun a ha=>by
  rw[Int.tdiv_eq_ediv_of_nonneg ha]
  exact ⟨Int.ediv_nonneg ha (by omega),Int.ediv_le_self m ha⟩
 refine ⟨key a,fun ha=> ?_⟩
 have h:=key (-a) (by omega)
 rw[Int.neg_tdiv] at h
 omega
theorem goodT.mono {a b:Nat} {t:List Nod} (h:goodT a t) (hab:a≤b):goodT b t:=⟨h.1,h.2.1,Nat.le_trans h.2.2 hab⟩
theorem grB_le {room:Int} (h:room≤1000):grB room≤41000:=by unfold grB;split<;>omega
theorem bor_TrO {q:Nat} {t:List Nod}:Bor [(q,6,t.map NdO)] (.agg [.own q 6 0 t.length]) (Tr t):=
 .agg (.cons (Bor.seen (f:=NdO) (g:=Nd) (fun x=>by have:=view_NdO [x];simpa using this) ZX rfl) .nil)
end Go.Gh
namespace Go.Gh
section
variable {P:Program} {cf:Cfg}
theorem gstartG {f:FuncId} {F:GFun} (hF:IsFun P f F) {cf:Cfg} {gc:GC} {gr:List GR} (hf:F=⟨cf,gc,gr⟩) {gs:List GV} {H:GH} {R:GV→GH→Prop} (hlen:gs.length≤cf.N)
 (h:GW P cf gc (GEndS gr R) (envOf gs 0) H):GCalls P f gs H R:=GCalls.start hF hf hlen (GW.mono (fun _ _ _ h=>h.ok) h)
theorem Zn (mxd:P.follows .mixedOrders = true) {x y:GC} {Q:Exit→Env→GH→Prop} {env:Env} {H:GH} (h:gwp P cf x (thenG (GW P cf y Q) Q) env H):GW P cf (.seq x y) Q env H:=GW.seq (ZD mxd h)
theorem gwpB (mxd:P.follows .mixedOrders = true) {x:GC} {id:Nat} {Q:Exit→Env→GH→Prop} {env:Env} {H:GH} (h:gwp P cf x (blockG id Q) env H):GW P cf (.block id x) Q env H:=GW.block (ZD mxd h)
end
def bentT (t:List Nod):Prop:=(∀x∈t,x.kids.length≤4∧shT x.rule)∧1≤t.length∧t.length≤41
theorem bentT_of {t:List Nod} (h:goodT 40 t):bentT t:=⟨fun x hx=>⟨by have:=(h.1 x hx).1;omega,(h.1 x hx).2⟩,h.2.1,by have:=h.2.2;omega⟩
theorem bentT_set {t:List Nod} {x:Nod} {k:Nat} (h:goodT 40 t) (h1:x.kids.length≤4) (h2:shT x.rule):bentT (t.set k x):=
 ⟨fun y hy=>(List.mem_or_eq_of_mem_set hy).elim (fun h3=>⟨by have:=(h.1 y h3).1;omega,(h.1 y h3).2⟩) fun h3=>by subst h3;exact ⟨h1,h2⟩,by rw[List.length_set];exact h.2.1,by rw[List.length_set];have:=h.2.2;omega⟩
theorem view_Nd (x:Nod):view (Nd x)=Nd x:=by
 have:=Zg (f:=I) (fun a=>rfl) x.kids
 simp[view,Zl,Zv,this]
theorem bor_TrN {q n:Nat} {t:List Nod} (h:t.length=n):Bor [(q,6,t.map Nd)] (.agg [.own q 6 0 n]) (Tr t):=
 .agg (.cons (Bor.allM view_Nd ZX h) .nil)
theorem bor_TrO' {q n:Nat} {t:List Nod} (h:t.length=n):Bor [(q,6,t.map NdO)] (.agg [.own q 6 0 n]) (Tr t):=by subst h;exact bor_TrO
theorem mem4 {a b c d:Int} {g:GV} (h:g∈[I a,I b,I c,I d]):∃n,g=I n:=by
 simp only[List.mem_cons,List.not_mem_nil,or_false] at h
 rcases h with rfl|rfl|rfl|rfl<;>exact ⟨_,rfl⟩
theorem borS {q k:Nat} {t:List Nod} {x:Nod}:Bor [(q,6,(t.map NdO).set k (NdO x))] (.agg [.own q 6 0 t.length]) (Tr (t.set k x)):=by
 have:=bor_TrO' (q:=q) (t:=t.set k x) (n:=t.length) (by simp)
 rwa [List.map_set] at this
theorem bentT_app {t:List Nod} {k:Nat} (h:goodT 40 t) (hk:k<t.length):bentT (t++[t[k]]):=
 ⟨fun y hy=>(List.mem_append.1 hy).elim (fun h3=>⟨by have:=(h.1 y h3).1;omega,(h.1 y h3).2⟩) fun h3=>by
  rw[List.mem_singleton] at h3;subst h3;have:=h.1 _ (List.getElem_mem hk);exact ⟨by have:=this.1;omega,this.2⟩,by simp,by have:=h.2.2;simp;omega⟩
theorem view_NdOs (t:List Nod):Zl (t.map NdO)=t.map Nd:=by rw[Zv];exact view_NdO t
end Go.Gh
namespace Go.Gh
end Go.Gh
namespace Go.Gh
end Go.Gh
namespace Go.Gh
end Go.Gh
namespace Go.Gh
end Go.Gh
namespace Go.Gh
end Go.Gh
namespace Go.Gh
end Go.Gh
namespace Go.Gh
end Go.Gh
namespace Go.Gh
def Wk (T:List (List Int)) (goal:Nat):Nat→Nat→Prop
 | 0,_ => False
 | 1,i=>(goal:Int)∈T.getD i []
 | d+2,i=>∃k:Nat,k<T.length∧(k:Int)∈T.getD i []∧Wk T goal (d+1) k
def Rch (T:List (List Int)) (i j:Nat):Prop:=∃d,Wk T j d i
theorem Wk_trans {T:List (List Int)} {l j e:Nat} (hj:j<T.length) (h2:Wk T l (e+1) j):∀d i,Wk T j d i→Wk T l (d+e+1) i
 | 0,_,h=>h.elim
 | 1,i,h=>by
  rw[show 1+e+1=e+2 by omega]
  exact ⟨j,hj,h,h2⟩
 | d+2,i,⟨k,hk,h3,h4⟩=>by
  have:=Wk_trans hj h2 (d+1) k h4
  rw[show d+2+e+1=(d+e+1)+2 by omega]
  exact ⟨k,hk,h3,by rw[show d+e+1+1=d+1+e+1 by omega];exact this⟩
theorem Rch.trans {T:List (List Int)} {i j l:Nat} (hj:j<T.length) (h1:Rch T i j) (h2:Rch T j l):Rch T i l:=by
 obtain ⟨d,h1⟩:=h1
 obtain ⟨e,h2⟩:=h2
 cases e with
 | zero=>exact h2.elim
 | succ e=>exact ⟨_,Wk_trans hj h2 d i h1⟩
theorem Rch.one {T:List (List Int)} {i j:Nat} (h:(j:Int)∈T.getD i []):Rch T i j:=⟨1,h⟩
end Go.Gh
namespace Go.Gh
end Go.Gh
namespace Go.Gh
end Go.Gh
namespace Go.Gh
def upN (g:Gram) (t:List Nod) (j:Nat):Prop:=Y6 g.rules (t.getD j Zq).rule = true∧(0≤(t.getD j Zq).parent ∧ (t.getD j Zq).parent < j)∧1≤(t.getD j Zq).place ∧
 (t.getD j Zq).place ≤ (ZH g.rules (t.getD (t.getD j Zq).parent.toNat Zq).rule).right.length ∧ (ZH g.rules (t.getD (t.getD j Zq).parent.toNat Zq).rule).right.getD ((t.getD j Zq).place - 1).toNat noS=(ZH g.rules (t.getD j Zq).rule).left
theorem walkE_fit2 {g:Gram} {t:List Nod} {f i:Nat} {p q:Int} {s:ByteArray} (h:0≤Zw g t f i p q s):i<t.length∧fitV g (t.getD i Zq) p q s=true:=by
 cases f with
 | zero=>simp[Zw] at h
 | succ f=>
  simp only[Zw] at h
  split at h
  ·rename_i hi
   split at h
   ·rename_i hf
    exact ⟨hi,hf⟩
   ·omega
  ·omega
theorem walkE_up {g:Gram} {t:List Nod}:∀(f i:Nat) (p q:Int) (s:ByteArray),0≤Zw g t f i p q s→∀j:Nat,i<j→(j:Int)<Zw g t f i p q s→upN g t j
 | 0,i,p,q,s,h,j,h1,h2=>by simp[Zw] at h
 | f+1,i,p,q,s,h,j,h1,h2=>by
  simp only[Zw] at h h2
  split at h
  ·rename_i hi
   rw[if_pos hi] at h2
   split at h
   ·rename_i hf
    rw[if_pos hf] at h2
    have key:∀(cs:List Int) (k:Nat) (a:Int),(i:Int)<a→0≤Za (Zw g t f) i cs ((ZH g.rules (t.getD i Zq).rule).right.drop k) k a→∀j:Nat,a≤j→(j:Int)<Za (Zw g t f) i cs ((ZH g.rules (t.getD i Zq).rule).right.drop k) k a→upN g t j:=by
     intro cs
     induction cs with
     | nil=>intro k a ha h j h1 h2;simp only[Za] at h2;omega
     | cons c cs ih=>
      intro k a ha h j h1 h2
      rcases Nat.lt_or_ge k (ZH g.rules (t.getD i Zq).rule).right.length with hk|hk
      ·rw[List.drop_eq_getElem_cons hk] at h h2
       simp only[Za] at h h2
       split at h
       ·omega
       rename_i g1
       rw[if_neg g1] at h2
       split at h
       ·omega
       rename_i g2
       rw[if_neg g2] at h2
       have hw:0≤Zw g t f a.toNat i ((k:Int)+1) (ZH g.rules (t.getD i Zq).rule).right[k]:=by omega
       have h3:=walkE_ge f a.toNat i _ _ hw
       by_cases hj:(j:Int)<Zw g t f a.toNat i ((k:Int)+1) (ZH g.rules (t.getD i Zq).rule).right[k]
       ·by_cases e:j=a.toNat
        ·obtain ⟨_,h5⟩:=walkE_fit2 hw
         obtain ⟨m1,m2,m3,m4,_⟩:=fitV_iff.1 h5
         rw[←e] at m1 m2 m3 m4
         refine ⟨m1,by omega,by omega,?_,?_⟩
         ·rw[m3,Int.toNat_natCast];omega
         ·rw[m3,m4,Int.toNat_natCast,m2,show ((k:Int)+1-1).toNat = k by omega,YS hk]
        ·exact walkE_up f a.toNat i _ _ hw j (by omega) hj
       ·exact ih (k+1) _ (by omega) h j (by omega) h2
      ·rw[List.drop_eq_nil_of_le hk] at h2
       simp only[Za] at h2;omega
    exact key _ 0 ((i:Int)+1) (by omega) (by simpa using h) j (by omega) (by simpa using h2)
   ·omega
  ·omega
theorem tree_up {g:Gram} {t:List Nod} {s:ByteArray} (h:Y3 g t s=true):(fitV g (t.getD 0 Zq) (-1) 0 s=true)∧∀j,0<j→j<t.length→upN g t j:=by
 simp only[Y3,Bool.and_eq_true,decide_eq_true_eq] at h
 obtain ⟨h1,_,h2⟩:=h
 have h3:0≤Zw g t t.length 0 (-1) 0 s:=by omega
 exact ⟨(walkE_fit2 h3).2,fun j hj hjl=>walkE_up _ _ _ _ _ h3 j hj (by omega)⟩
end Go.Gh
namespace Go.Gh
end Go.Gh
namespace Go.Gh
end Go.Gh
namespace Go.Gh
abbrev Ky:=Int×ByteArray×Int
namespace Fo
def keys:Fo→List Ky
 | nil=>[]
 | cons i r l ks rest=>(i,r,l)::(ks.keys++rest.keys)
end Fo
namespace Fo
def rid:Fo→Int
 | nil=>0
 | cons i _ _ _ _ => i
def rlit:Fo→Int
 | nil=>0
 | cons _ _ l _ _ => l
theorem at_flt {F:Fo} {π:Pa} (h:F.ok π):∃hl:F.pos π<(F.flt 0 (-1) 0).length,(F.flt 0 (-1) 0)[F.pos π].id = (F.get π).rid ∧ (F.flt 0 (-1) 0)[F.pos π].rule = (F.get π).rul ∧ (F.flt 0 (-1) 0)[F.pos π].lit = (F.get π).rlit := by
 obtain ⟨L,R,p',q',e1,e2,e3,e4,e5⟩:=flt_at 0 (-1) 0 h (by omega)
 have hp:=one_pos (get_one h);have hz:=pos_sz h;have hl:=flt_len F 0 (-1) 0
 obtain ⟨i,r,l,ks,e⟩:=one_iff.1 (get_one h)
 have hk:F.pos π<(F.flt 0 (-1) 0).length := by omega
 have hx:(F.flt 0 (-1) 0)[F.pos π]? = some ⟨i,p',q',l,r,ks.strt (0+F.pos π+1)⟩:=by
  rw[e1,List.getElem?_append_right (by omega),e2,Nat.sub_self,e]
  simp[flt]
 rw[List.getElem?_eq_getElem hk] at hx
 refine ⟨hk,?_⟩
 rw[Option.some.inj hx,e]
 exact ⟨rfl,rfl,rfl⟩
def setL (v:Int):Fo→Fo
 | nil=>nil
 | cons i r _ ks rest=>cons i r v ks rest
end Fo
open Fo
end Go.Gh
namespace Go.Gh
theorem bv_nat (n:Nat) (h:n≤4095):(BitVec.ofInt 64 (n:Int)).toNat = n:=by
 rw[BitVec.toNat_ofInt]
 omega
theorem wr_nat (n:Nat) (h:n≤4095):IntKind.i64.wrap (n:Int)=n:=wrap64 (by omega) (by omega)
theorem andI_id {v:Int} (h0:0≤v) (h1:v≤4095):andI .i64 v 4095=v:=by
 obtain ⟨n,rfl⟩:=Int.eq_ofNat_of_zero_le h0
 have h2:(BitVec.ofInt 64 (n:Int) &&& BitVec.ofInt 64 ((4095:Nat):Int)).toNat = n:=by
  rw[BitVec.toNat_and,bv_nat n (by omega),bv_nat 4095 (by omega),show (4095:Nat)=2 ^ 12-1 by decide,Nat.and_two_pow_sub_one_eq_mod]
  omega
 show IntKind.i64.wrap ((BitVec.ofInt 64 (n:Int) &&& BitVec.ofInt 64 ((4095:Nat):Int)).toNat : Int)=n
 rw[h2,wr_nat n (by omega)]
theorem and_rng (n:Int):0≤andI .i64 n 4095∧andI .i64 n 4095≤4095:=andI_le (a:=n) (m:=4095) (by decide)
theorem ok1 {v:Int}:okV v 1=true↔(-1000000≤v∧v≤1000000):=by rw[okV1];simp
theorem ok2 {v:Int}:okV v 2=true↔(0≤v∧v≤4095):=by
 have e:coV v 2=andI .i64 v 4095:=rfl
 simp only[okV,e,Bool.and_eq_true,decide_eq_true_eq]
 constructor
 ·rintro ⟨_,h⟩
  rw[←h];exact and_rng v
 ·intro h;exact ⟨by omega,andI_id h.1 h.2⟩
theorem ok3 (b:Bool):okV (trV b) 3=true:=by cases b<;>decide
theorem ok4 {v:Int}:okV v 4=true↔(0≤v∧v≤999):=by
 have e:coV v 4=if (4:Int)=4∧0≤v∧v≤999 then v else 0:=rfl
 simp only[okV,e,Bool.and_eq_true,decide_eq_true_eq]
 constructor
 ·rintro ⟨_,h⟩
  split at h
  ·rename_i h2;exact h2.2
  ·omega
 ·intro h;exact ⟨by omega,by simp[h]⟩
theorem ok0 {k:Int} (h:1≤k∧k≤4):okV 0 k=true:=by
 have:k=1∨k=2∨k=3∨k=4:=by omega
 rcases this with rfl|rfl|rfl|rfl
 ·exact ok1.2 (by omega)
 ·exact ok2.2 (by omega)
 ·exact ok3 false
 ·exact ok4.2 (by omega)
theorem tree_lit {g:Gram} {t:List Nod} {s:ByteArray} (h:Y3 g t s=true) {j:Nat} (hj:j<t.length) : -1000000≤t[j].lit ∧ t[j].lit ≤ 1000000:=by
 obtain ⟨F,f1,f2,f3,f4⟩:=Fo.tree_fo h
 subst f4
 rw[Fo.flt_len] at hj
 obtain ⟨π,p1,p2⟩:=Fo.find F j hj
 subst p2
 obtain ⟨hl,_,_,a3⟩:=Fo.at_flt p1
 rw[a3]
 have hw:=Fo.wf_get f2 p1
 obtain ⟨i,r,l,ks,e⟩:=Fo.one_iff.1 (Fo.get_one p1)
 rw[e] at hw ⊢
 exact hw.1.2.2.1
theorem tree_node {g:Gram} {t:List Nod} {s:ByteArray} (h:Y3 g t s=true) {j:Nat} (hj:j<t.length):Y6 g.rules t[j].rule = true∧(-1000000≤t[j].lit ∧ t[j].lit ≤ 1000000)∧(1≤t[j].id ∧ t[j].id ≤ 999):=by
 obtain ⟨hroot,hup⟩:=tree_up h
 obtain ⟨h1,h2,h3⟩:=Yv h
 have hr:Y6 g.rules t[j].rule = true:=by
  rw[←YS (d:=Zq) hj]
  rcases Nat.eq_zero_or_pos j with h0|h0
  ·subst h0;exact (fitV_iff.1 hroot).1
  ·exact (hup j h0 hj).1
 refine ⟨hr,?_,?_⟩
 ·exact tree_lit h hj
 ·simp only[idsV,List.all_eq_true,List.mem_range] at h2
  have h4:=h2 j hj
  simp only[gid,Bool.and_eq_true,decide_eq_true_eq,YS hj] at h4
  exact h4.1
end Go.Gh
namespace Go.Gh
end Go.Gh
namespace Go.Gh
theorem HM.perm {w:World} {D:Nat→Prop} {H L:GH} (p:H.Perm L):∀{Ω:List Nat},HM w D H Ω→∃Ω',HM w D L Ω'∧Ω'.Perm Ω:=by
 induction p with
 | nil=>exact fun h=>⟨_,h,.refl _⟩
 | cons x _ ih=>
  obtain ⟨r,sz,es⟩:=x
  rintro Ω ⟨F1,F2,rfl,h1,h2⟩
  obtain ⟨Ω',h3,h4⟩:=ih h2
  exact ⟨F1++Ω',⟨F1,Ω',rfl,h1,h3⟩,h4.append_left _⟩
 | swap x y l=>
  obtain ⟨r,sz,es⟩:=x
  obtain ⟨r',sz',es'⟩:=y
  rintro Ω ⟨F1,F2,rfl,h1,F3,F4,rfl,h2,h3⟩
  exact ⟨F3++(F1++F4),⟨F3,_,rfl,h2,F1,F4,rfl,h1,h3⟩,by rw[←List.append_assoc,←List.append_assoc];exact (List.perm_append_comm).append_right _⟩
 | trans _ _ ih1 ih2=>
  intro Ω h
  obtain ⟨Ω1,h1,p1⟩:=ih1 h
  obtain ⟨Ω2,h2,p2⟩:=ih2 h1
  exact ⟨Ω2,h2,p2.trans p1⟩
theorem St.perm {w:World} {D:Nat→Prop} {H L:GH} (p:H.Perm L) {Ω:List Nat} (h:St w D H Ω):∃Ω',St w D L Ω'∧Ω'.Perm Ω:=by
 obtain ⟨Ω',h1,h2⟩:=h.hm.perm p
 exact ⟨Ω',⟨h1,h2.nodup_iff.2 h.nd,((p.map _).nodup_iff).1 h.nn,fun b hb=>h.dj b (h2.mem_iff.1 hb),h.ds⟩,h2⟩
theorem GCalls.perm {P:Program} {f:FuncId} {gs:List GV} {H L:GH} {R R':GV→GH→Prop} (p:L.Perm H) (h:GCalls P f gs H R) (hr:∀g H',R g H'→∃L',R' g L'∧H'.Perm L'):GCalls P f gs L R':=by
 intro w D Ω args hst hargs
 obtain ⟨Ω',h1,h2⟩:=hst.perm p
 refine Yld.mono (fun v w' ⟨g,H',D',Ω'',k1,k2,k3,k4⟩=> ?_) (h w D Ω' args h1 hargs)
 obtain ⟨L',q1,q2⟩:=hr g H' k1
 obtain ⟨Ω3,m1,m2⟩:=k3.perm q2
 exact ⟨g,L',D',Ω3,q1,k2,m1,
  ⟨k4.d0,fun b hb hD=>(k4.dn b hb hD).imp id (fun h=>h2.mem_iff.1 h),fun b hb hl=>h2.mem_iff.1 (k4.on b (m2.mem_iff.1 hb) hl),k4.kp.mono fun b _ hb hb'=>hb (h2.mem_iff.1 hb'),k4.os,k4.tape,k4.output⟩⟩
def inH (T:GH) (H:GH):Prop:=∀x∈T,ZW H x.1=some x.2
theorem inH.nil (H:GH):inH [] H:=fun _ h=>by cases h
theorem inH.cons {x:Nat×Nat×List GV} {T H:GH} (h:ZW H x.1=some x.2) (hT:inH T H):inH (x::T) H:=fun y hy=>by
 rcases List.mem_cons.1 hy with rfl|hy
 ·exact h
 ·exact hT y hy
theorem inH.split:∀{T H:GH},(names T).Nodup → inH T H→∃H0,H.Perm (T++H0)
 | [],H,_,_ => ⟨H,.refl _⟩
 | (r,x)::T,H,hn,h=>by
  obtain ⟨A,B,rfl,hA⟩:=hget_split (h (r,x) (by simp))
  have hn':=List.nodup_cons.1 hn
  have hT:inH T (A++B):=fun y hy=>by
   have h1:=h y (by simp[hy])
   have hne:y.1≠r:=fun e=>hn'.1 (by rw[←e];exact List.mem_map.2 ⟨y,hy,rfl⟩)
   have:∀(A:GH),ZW (A++(r,x)::B) y.1=ZW (A++B) y.1:=by
    intro A
    induction A with
    | nil=>
     show ZW ((r,x)::B) y.1=ZW B y.1
     exact hget_old (Ne.symm hne)
    | cons a A ih=>
     obtain ⟨q,z⟩:=a
     simp only[List.cons_append,ZW]
     rw[ih]
   rw[←this A]
   exact h1
  obtain ⟨H0,h0⟩:=inH.split hn'.2 hT
  exact ⟨H0,(List.perm_middle).trans (h0.cons _)⟩
def GCX (P:Program) (T:GH) (f:FuncId) (gs:List GV) (R:GV→GH→Prop):Prop:=
 ∀H,GCalls P f gs (T++H) (fun g H'=>∃H1,R g H1∧H'=H1++(T++H))
theorem GCX.at {P:Program} {T:GH} {f:FuncId} {gs:List GV} {R:GV→GH→Prop} (h:GCX P T f gs R) (hn:(names T).Nodup) {H:GH} (hT:inH T H) :
 GCalls P f gs H (fun g H'=>∃H1,R g H1∧H'=H1++H):=by
 obtain ⟨H0,h0⟩:=hT.split hn
 refine (h H0).perm h0 ?_
 rintro g H' ⟨H1,h1,rfl⟩
 exact ⟨H1++H,⟨H1,h1,rfl⟩,h0.symm.append_left _⟩
theorem GCX.mono {P:Program} {T:GH} {f:FuncId} {gs:List GV} {R R':GV→GH→Prop} (h:GCX P T f gs R) (hr:∀g H1,R g H1→R' g H1):GCX P T f gs R':=
 fun H=>(h H).mono fun g H' ⟨H1,h1,h2⟩=>⟨H1,hr g H1 h1,h2⟩
theorem GCX.of {P:Program} {x:Nat×Nat×List GV} {f:FuncId} {gs:List GV} {R:GV→GH→Prop}
 (h:∀H,GCalls P f gs (x::H) (fun g H'=>∃G H1 T L,R G H1∧Bor L g G∧H'=T++H∧subH T (L++(H1++[x])))):GCX P [x] f gs R:=
 fun H=>(h H).fr fun g H' ⟨G,H1,T,L,h1,h2,h3,h4⟩=>by
  subst h3
  refine ⟨G,H1++([x]++H),FR.trans (FR.perm h4) ?_,H1,h1,rfl⟩
  rw[List.append_assoc,List.append_assoc]
  exact FR.front h2
theorem GCX.of2 {P:Program} {x y:Nat×Nat×List GV} {f:FuncId} {gs:List GV} {R:GV→GH→Prop}
 (h:∀H,x.1≠y.1→GCalls P f gs (x::y::H) (fun g H'=>∃G H1 T L,R G H1∧Bor L g G∧H'=T++H∧subH T (L++(H1++[x,y])))):GCX P [x,y] f gs R:=fun H=>by
 have h1:∀hne:x.1≠y.1,GCalls P f gs ([x,y]++H) (fun g H'=>∃H1,R g H1∧H'=H1++([x,y]++H)):=fun hne=>(h H hne).fr fun g H' ⟨G,H1,T,L,h1,h2,h3,h4⟩=>by
  subst h3
  refine ⟨G,H1++([x,y]++H),FR.trans (FR.perm h4) ?_,H1,h1,rfl⟩
  rw[List.append_assoc,List.append_assoc]
  exact FR.front h2
 intro w D Ω args hst hargs
 exact h1 (by have:=hst.nn;simp[names] at this;exact this.1.1) w D Ω args hst hargs
abbrev PuR (P:Program) (x:Nat×Nat×List GV) (f:FuncId) (gs:List GV) (G:GV):Prop:=GCX P [x] f gs (fun g H1=>g=G∧H1=[])
theorem PuR.of {P:Program} {x:Nat×Nat×List GV} {f:FuncId} {gs:List GV} {G:GV}
 (h:∀H,GCalls P f gs (x::H) (fun g H'=>∃T L,Bor L g G∧H'=T++H∧subH T (L++[x]))):PuR P x f gs G:=
 GCX.of fun H=>(h H).mono fun g H' ⟨T,L,h2,h3,h4⟩=>⟨G,[],T,L,⟨rfl,rfl⟩,h2,h3,h4⟩
theorem PuR.of0 {P:Program} {x:Nat×Nat×List GV} {f:FuncId} {gs:List GV} {G:GV}
 (h:∀H,GCalls P f gs (x::H) (fun g H'=>g=G∧H'=x::H)):PuR P x f gs G:=
 fun H=>(h H).mono fun g H' ⟨h1,h2⟩=>⟨[],⟨h1,rfl⟩,h2⟩
theorem PuR.min {P:Program} {x:Nat×Nat×List GV} {f:FuncId} {gs:List GV} {G:GV} (h:GCalls P f gs [x] (fun g H'=>g=G∧H'=[x])):PuR P x f gs G:=
 fun H=>(GCalls.frame1 (H1:=H) h).perm (by exact List.perm_append_comm) fun g H' ⟨h1,h2⟩=>⟨[x]++H,⟨[],⟨h1,rfl⟩,rfl⟩,by rw[h2];exact List.perm_append_comm⟩
def DcR (P:Program) (y:Nat×Nat×List GV) (f:FuncId) (gs:List GV) (R:GV→GH→Prop):Prop:=∀rc,GCX P [(rc,3,[.cur]),y] f (.ptr rc 3 0 0::gs) R
abbrev DvR (P:Program) (y:Nat×Nat×List GV) (f:FuncId) (gs:List GV) (R:GV→Prop):Prop:=DcR P y f gs (fun g H1=>R g∧H1=[])
theorem DcR.of {P:Program} {y:Nat×Nat×List GV} {f:FuncId} {gs:List GV} {R:GV→GH→Prop}
 (h:∀rc H,rc≠y.1→GCalls P f (.ptr rc 3 0 0::gs) ((rc,3,[.cur])::y::H) (fun g H'=>∃G H1 T L,R G H1∧Bor L g G∧H'=T++H∧subH T (L++(H1++[(rc,3,[.cur]),y])))):DcR P y f gs R:=
 fun rc=>GCX.of2 fun H hne=>h rc H hne
theorem DvR.of {P:Program} {y:Nat×Nat×List GV} {f:FuncId} {gs:List GV} {R:GV→Prop}
 (h:∀rc H,rc≠y.1→GCalls P f (.ptr rc 3 0 0::gs) ((rc,3,[.cur])::y::H) (fun g H'=>∃G T L,R G∧Bor L g G∧H'=T++H∧subH T (L++[(rc,3,[.cur]),y]))):DvR P y f gs R:=
 DcR.of fun rc H hne=>(h rc H hne).mono fun g H' ⟨G,T,L,h1,h2,h3,h4⟩=>⟨G,[],T,L,⟨h1,rfl⟩,h2,h3,h4⟩
theorem DcR.at {P:Program} {y:Nat×Nat×List GV} {f:FuncId} {gs:List GV} {R:GV→GH→Prop} (h:DcR P y f gs R) {rc:Nat} {H:GH} (hr:ZW H rc=some (3,[.cur])) (hy:ZW H y.1=some y.2) (h3:y.2.1≠3) :
 GCalls P f (.ptr rc 3 0 0::gs) H (fun g H'=>∃H1,R g H1∧H'=H1++H):=
 (h rc).at (by
  have:rc≠y.1:=fun e=>by rw[←e,hr] at hy;exact h3 (by rw[←Option.some.inj hy])
  simp[names,this]) (.cons hr (.cons hy (.nil _)))
end Go.Gh
namespace Go.Gh
end Go.Gh
namespace Go.Gh
end Go.Gh
namespace Go.Gh
open Lib
abbrev bA (l:List UInt8):ByteArray:=⟨l.toArray⟩
theorem bA_sz {l:List UInt8} (h:l.length≤1048576):(bA l).size ≤ maxLen:=by
 have:(bA l).size = l.length:=by rw[Zo,chA]
 rw[this]
 simp only[maxLen]
 omega
end Go.Gh
namespace Go.Gh
open Lib
theorem ifcTrod {H:Type} {enc:TypeId×Value→H} {P:Program} {w:World} {base:Nat} {sp:Nat→Bool} {fuel:Nat} {t:TypeId} {cs:List Value} {n:String} {d:DataW H} {p:List MemPlace}
 (ht:∃x,P.underlying t=some (.interface x)) (h:DataW.trod enc P w base sp false fuel t cs=some (.iface n d,p)):∃u v,cs=[.iface u v]:=by
 obtain ⟨x,ht⟩:=ht
 cases fuel with
 | zero=>simp[DataW.trod] at h
 | succ fuel=>
  simp only[DataW.trod,ht] at h
  split at h<;>first|exact ⟨_,_,rfl⟩|cases h|(exfalso;simp_all;done)|skip
  all_goals trace_state
end Go.Gh
namespace Go.Gh
open Lib Go.RowKit
def tabF (a b c d:Nat):GH:=[(4 * a+3,1000000,[]),(4 * b+3,1000001,[]),(4 * c+3,1000001,[]),(4 * d+3,1000002,[])]
theorem tabF_ok (a b c d:Nat):∀x∈tabF a b c d,x.2.2=[]∧x.1 % 4=3:=fun x hx=>by
 simp only[tabF,List.mem_cons,List.not_mem_nil,or_false] at hx
 rcases hx with rfl|rfl|rfl|rfl<;>exact ⟨rfl,by dsimp only;omega⟩
theorem tabH_F {a b c d:Nat} (h:[a,b,c,d].Nodup):tabH (tabF a b c d):=⟨by
 simp only[List.nodup_cons,List.mem_cons,List.not_mem_nil,or_false,not_or,List.nodup_nil,not_false_eq_true,and_true] at h
 simp[tabF,names];omega,fun x hx=>by
 simp only[tabF,List.mem_cons,List.not_mem_nil,or_false] at hx
 rcases hx with rfl|rfl|rfl|rfl<;>exact ⟨by dsimp only;omega,by dsimp only;omega,rfl⟩⟩
theorem tabF_10 (a b c d:Nat):∀x∈tab10 a,x∈tabF a b c d:=fun x hx=>by simp only[tab10,List.mem_singleton] at hx;subst hx;simp[tabF]
theorem ml2 {w:World} {D:Nat→Prop} {a b:Value} {vs:List Value} (h:ML w D [.val a,.val b] vs []):vs=[a,b]:=by
 simp only[ML,MV] at h
 obtain ⟨v,vs',F1,F2,rfl,_,⟨rfl,_⟩,v2,vs2,F3,F4,rfl,_,⟨rfl,_⟩,rfl,_⟩:=h
 rfl
theorem ml1 {w:World} {D:Nat→Prop} {a:Value} {vs:List Value} (h:ML w D [.val a] vs []):vs=[a]:=by
 simp only[ML,MV] at h
 obtain ⟨v,vs',F1,F2,rfl,_,⟨rfl,_⟩,rfl,_⟩:=h
 rfl
theorem atoi_itoa {n:Int} (h0 : -1000000000000≤n) (h1:n≤1000000000000):atoiAll (itoa n) = .ok n:=by
 by_cases h:n<0
 ·have e:itoa n=45::decDigits n.natAbs:=by
   unfold itoa
   rw[if_pos h]
  have hd:=dec_dig n.natAbs
  have hp:=(parse_digs (decDigits n.natAbs) 0 hd.1 (by decide)).1
  have ev:(decDigits n.natAbs).foldl (fun n c=>10 * n+((c.toNat:Int)-48)) ((0:Nat):Int)=(n.natAbs:Int):=valD_dec n.natAbs
  rw[ev] at hp
  obtain ⟨u,hu,hv⟩:=hp (by omega)
  rw[e,atoiAll_minus]
  unfold parseMag
  rw[if_neg hd.2,hu]
  simp only[signed]
  rw[if_neg (by omega)]
  congr 1
  omega
 ·rw[itoa_dec (by omega)]
  have hd:=dec_dig n.toNat
  have hv:=valD_dec n.toNat
  have:=(atoi_digs hd.1 hd.2).1 (by rw[hv];omega)
  rw[this,hv]
  congr 1
  omega
theorem rdN_ok {lo hi v:Int} {l:List UInt8} (h0 : -1000000000000≤lo) (h1:hi≤1000000000000) (h:atoiAll l = .ok v):rdN lo hi l=if (lo≤v∧v≤hi)∧itoa v=l then (v,true) else (0,false):=by
 split
 ·rename_i h2
  rw[←h2.2]
  exact rdN_itoa h2.1.1 h2.1.2
 ·rename_i h2
  refine rdN_no fun n h3 h4 h5=>h2 ?_
  have:=atoi_itoa (n:=n) (by omega) (by omega)
  rw[h5,h] at this
  cases this
  exact ⟨⟨h3,h4⟩,h5⟩
theorem rdN_bad {lo hi:Int} {l:List UInt8} (h0 : -1000000000000≤lo) (h1:hi≤1000000000000) (h:∀v,atoiAll l ≠ .ok v):rdN lo hi l=(0,false):=
 rdN_no fun n h3 h4 h5=>h n (by rw[←h5];exact atoi_itoa (by omega) (by omega))
def atoX (l:List UInt8) (g:GV):Prop:=(∃v:Int,atoiAll l = .ok v∧g = .tup [I v,.val .nilIface])∨((∀v,atoiAll l ≠ .ok v)∧∃n t p,g = .tup [I n,.val (.iface t p)])
end Go.Gh
namespace Go.Gh
open Lib
theorem callS.lendT {P:Program} {f:FuncId} {gs gs':List GV} {R:GV→GH→Prop} {H T:GH} {K:Env→GH→Prop} {is:List GI} {env:Env} {d:Option Nat} (h:∀H0,(∀x∈T,x∈H0)→GCalls P f gs' H0 (fun g H'=>∃H1,R g H1∧H'=H1++H0)) (hT:tabH T) (hs:∀x∈T,x∈H) (hb:BorL H gs gs')
 (hR:∀g H1,R g H1→noD g=true∧noDH H1=true) (hk:∀g H1,R g H1→(names (H1++H)).Nodup → Z4 P is K (gput env d g) (H1++H)):callS P false f (some gs) d is K env H:=
 callS.of (GCalls.lendO (h _ (odd_mem (fun x hx=>(hT.2 x hx).1) hs)) hb hR) fun g H' ⟨H1,h1,h2⟩ hn=>by subst h2;exact hk g H1 h1 hn
theorem GW.cut {P:Program} {cf:Cfg} (mxd:P.follows .mixedOrders = true) {x y:GC} {Q:Exit→Env→GH→Prop} {env:Env} {H:GH} (M:Env→GH→Prop) (h1:gwp P cf x (thenG M Q) env H) (h2:∀env' H',M env' H'→GW P cf y Q env' H'):GW P cf (.seq x y) Q env H:=
 GW.seq (GW.mono (fun ex e H' hq=>by
  cases ex<;>simp only[thenG] at hq ⊢
  all_goals first
   | exact hq
   | exact h2 _ _ hq) (ZD mxd h1))
theorem GCalls.ndR {P:Program} {f:FuncId} {gs:List GV} {H:GH} {R:GV→GH→Prop} (h:GCalls P f gs H R):GCalls P f gs H (fun g H'=>R g H'∧(names H').Nodup):=fun w D Ω args hst hargs=>
 Yld.mono (fun v w' ⟨g,H',D',Ω',k1,k2,k3,k4⟩=>⟨g,H',D',Ω',⟨k1,k3.nn⟩,k2,k3,k4⟩) (h w D Ω args hst hargs)
end Go.Gh
namespace Go
variable {H:Type} {enc:TypeId×Value→H}
theorem returnsInHanded_of_change_sx {a:Assume} {C:Checked} {os:Os} {f:FuncId} {fn:Func} {s:ChangeSpec} {conds:List PathCond} {apart fresh handsOn again:Bool} {X:World→Array Value→Prop}
 (hX:∀(w w':World) (args:Array Value),w.heap=w'.heap→X w args→X w' args)
 (own:ownKnob C.prog.godebug=none) (started:os.Started) (noInit:C.prog.inits.idxOf? f=none) (hfn:C.prog.funcs[f]? = some fn)
 (witness:∃(w:World) (tape:Tape) (i:Input),w.os=os∧(w.forCall tape i).Shaped C.prog∧i.vars=[]∧Input.okWide C.prog (w.forCall tape i) .any w.heap.size f i ∧
  ((s.pre enc C.prog fn conds apart (w.forCall tape i).memory i.args∧X (w.forCall tape i).memory i.args)∧sizedMet enc C.prog fn (OpenSpec.ofChange s) apart (w.forCall tape i).memory i.args)∧a.holds C.prog (lone (Frame.enter C.prog f i.args .normal) [] (w.forCall tape i)))
 (contract:∀(W:World) (base:Nat) (args:Array Value) (ds gs:List (DataW H)) (before:List MemPlace),
  (∀(j:Nat) t v,fn.params[j]? = some t→args[j]? = some v→Value.okWide C.prog W .any base t v) →
  DataW.Whole enc C.prog fn.params.toList s.vars apart W args.toList ds gs before →
  conds.all (PathCond.test C.prog ⟨fn.params.toList,ds,s.plain.varTypes C.prog,gs⟩)=true →
  (DataW.weightsEach C.prog (fn.params.toList++s.plain.varTypes C.prog) (ds++gs)).all (· ≤ reachBytes)=true→X W args →
  W.ShapedOpen C.prog →
  Calls C.prog f args W fun e W'=>∃v,e = .returned v∧s.post enc C.prog fn apart fresh handsOn again W args v W') :
 ReturnsInHanded a C os f .any (fun w args=>(s.pre enc C.prog fn conds apart w args∧X w args)∧sizedMet enc C.prog fn (OpenSpec.ofChange s) apart w args) (s.post enc C.prog fn apart fresh handsOn again):=by
 refine returnsInHanded_of_calls own started noInit witness ?_
 intro w tape i _ hsh _ hok hpre hholds
 obtain ⟨_,_,_,fn',hfn',_,_,_,_,hval⟩:=hok
 have e:fn'=fn:=Option.some.inj (hfn'.symm.trans hfn)
 subst e
 obtain ⟨⟨⟨ds,gs,before,hw,hc⟩,hx⟩,hz⟩:=hpre
 have hw':=DataW.Whole.of_heap (w':=w.forCall tape i) (by rfl) hw
 refine (contract (w.forCall tape i) w.heap.size i.args ds gs before hval hw' hc (hz.weights hw) (hX _ _ _ (by rfl) hx) hsh).mono fun e W' ⟨v,he,hp⟩=> ?_
 subst he
 exact ChangeSpec.post_blind hp
theorem goesBy_none {c:OpenClaim} {P:Program} (hs:c.start = .entering) (h:P.funcs.any Func.goes=false):false=c.goesBy P:=by
 have h1:∀g:Nat,(P.funcs[g]?).any Func.goes=false:=fun g=>by
  cases e:P.funcs[g]? with
  | none=>rfl
  | some f=>
   have hm:f∈P.funcs:=Array.mem_of_getElem? e
   have h2:¬(∃x∈P.funcs,Func.goes x=true):=fun hx=>by
    obtain ⟨i,hi,e⟩:=Array.mem_iff_getElem.1 hx.choose_spec.1
    exact absurd (Array.any_eq_true.2 ⟨i,hi,by rw[e];exact hx.choose_spec.2⟩) (by rw[h];exact Bool.false_ne_true)
   cases hg:Func.goes f with
   | false=>simp[hg]
   | true=>exact absurd ⟨f,hm,hg⟩ h2
 unfold OpenClaim.goesBy Program.goesAt Program.goesFrom
 rw[hs]
 cases P.funcNamed c.func with
 | none=>rfl
 | some f=>
  simp only[Option.any_some,Bool.or_false,Program.goes,h1,h,Bool.and_false,Bool.false_eq,List.any_eq_false,Bool.or_eq_false_iff]
  simp
end Go
namespace Go.Gh
open Lib
theorem HM.of_tabs {W:World}:∀{H:GH},(∀x∈H,x.2.2=[]∧x.1 % 4=3∧TB W (YP W) x.1 x.2.1)→HM W (YP W) H []
 | [],_ => rfl
 | (r,sz,es)::H,h=>by
  obtain ⟨h1,h2,h3⟩:=h (r,sz,es) (by simp)
  dsimp only at h1 h2 h3
  subst h1
  exact ⟨[],[],rfl,.inr ⟨⟨by omega,fun _ _ => h3⟩,rfl,rfl⟩,HM.of_tabs fun x hx=>h x (by simp[hx])⟩
theorem TB.of_var {P:Program} {W:World} {n sz:Nat} {s:String} {cs:Array Value} (hg:P.globalNamed s=some n) (h:W.var? P s=some cs) (hp:tabP sz cs):TB W (YP W) (4 * n+3) sz:=by
 have e:(4 * n+3) / 4=n:=by omega
 simp only[World.var?,hg,Option.bind_some] at h
 unfold TB
 rw[e]
 split at h
 case h_2=>cases h
 rename_i c T fz hb
 simp only[Option.some.injEq] at h
 subst h
 exact ⟨Zm hb,_,T,fz,hb,hp⟩
theorem TB.p10 {P:Program} {W:World} {n:Nat} {s:String} (hg:P.globalNamed s=some n) (h:TabIs P W s .u64 pow10Tab):TB W (YP W) (4 * n+3) 1000000:=by
 refine TB.of_var hg h ?_
 simp only[tabP,if_true,pow10Tab,List.map_map]
 rfl
theorem TB.ifc {P:Program} {W:World} {n:Nat} {s:String} (hg:P.globalNamed s=some n) (h:∃u v,W.var? P s=some #[.iface u v]):TB W (YP W) (4 * n+3) 1000001:=by
 obtain ⟨u,v,h⟩:=h
 refine TB.of_var hg h ?_
 simp only[tabP]
 rw[if_neg (by decide),if_neg (by decide),if_neg (by decide)]
 exact ⟨u,v,rfl⟩
theorem TB.num {W:World} {n:Nat} (h:∃m,W.cell? ⟨n,0,none⟩=some (.int .i64 m)):TB W (YP W) (4 * n+3) 1000002:=by
 obtain ⟨m,h⟩:=h
 have e:(4 * n+3) / 4=n:=by omega
 unfold World.cell? at h
 unfold TB
 rw[e]
 split at h
 case h_1 c T fz hb=>
  refine ⟨Zm hb,c,T,fz,hb,?_⟩
  unfold tabP
  rw[if_neg (by decide),if_pos rfl]
  exact ⟨m,h⟩
 all_goals first|(cases h;done)|(exfalso;simp_all;done)
theorem HM.tabF {P:Program} {W:World} {a b c d:Nat} {s1 s2 s3:String} (h1:P.globalNamed s1=some a) (k1:TabIs P W s1 .u64 pow10Tab) (h2:P.globalNamed s2=some b) (k2:∃u v,W.var? P s2=some #[.iface u v])
 (h3:P.globalNamed s3=some c) (k3:∃u v,W.var? P s3=some #[.iface u v]) (k4:∃m,W.cell? ⟨d,0,none⟩=some (.int .i64 m)):HM W (YP W) (tabF a b c d) []:=
 HM.of_tabs fun x hx=>by
  simp only[Go.Gh.tabF,List.mem_cons,List.not_mem_nil,or_false] at hx
  rcases hx with rfl|rfl|rfl|rfl
  ·exact ⟨rfl,by dsimp only;omega,TB.p10 h1 k1⟩
  ·exact ⟨rfl,by dsimp only;omega,TB.ifc h2 k2⟩
  ·exact ⟨rfl,by dsimp only;omega,TB.ifc h3 k3⟩
  ·exact ⟨rfl,by dsimp only;omega,TB.num k4⟩
end Go.Gh
namespace Go.Gh
open Go.Lib
end Go.Gh
namespace Go.Gh
end Go.Gh
namespace Go.Gh
open Go.Lib
def PY (l:List UInt8):Option Sym:=parY (spl 32) rAS l
theorem callS.borT {P:Program} {K:Env→GH→Prop} {is:List GI} {env:Env} {H T:GH} {d:Option Nat} {f:FuncId} {gs gs':List GV} {G:GV} (h:PureT P T f gs' (· = G)) (hT:tabH T) (hs:∀x∈T,x∈H) (hb:BorL H gs gs') (hD:noD G=true) (hk:Z4 P is K (gput env d G) H):callS P false f (some gs) d is K env H:=
 callS.lendT (R:=fun g H1=>g=G∧H1=[]) (fun H0 k=>(h.frame hT k).mono fun g H' ⟨e1,e2⟩=>⟨[],⟨e1,rfl⟩,e2⟩) hT hs hb (by rintro g H1 ⟨rfl,rfl⟩;exact ⟨hD,rfl⟩) (by rintro g H1 ⟨rfl,rfl⟩ _;exact hk)
end Go.Gh
