/- The law FnInstances returns true whatever the input, and the input reads behind the call as before. No condition. -/
import Derived.Test.YtofcbmnplanmkaaDoorLibI2
import Derived.Lib.ItoaNum
import Derived.Lib.LaidTab
import Derived.Sort.Grow
import Derived.Shelf.Strconv.Itoa3
import Derived.Deep.Draws
import Derived.LaidMore
import Derived.OpenShut
import Derived.Stop.Joined
import Derived.SevenTiedAt
import Derived.Shelf.SlSortCmp.NoneTotal
import Derived.Laws.Cover1
import Derived.Deep.RegionHeld3
import Derived.Shelf.SlGeneric
import Derived.KernelRfl
import Derived.Test.YtofcbmnplanmkaaDoorRows
import Derived.Test.YtofcbmnplanmkaaDoorChecked
import Derived.Test.YtofcbmnplanmkaaDoorCards
import Derived.Test.YtofcbmnplanmkaaDoorTie
set_option maxHeartbeats 40000000
set_option linter.unusedSimpArgs false
set_option linter.unusedVariables false

namespace Go.Gh
set_option linter.unusedSimpArgs false
set_option linter.unusedVariables false
abbrev T (s:ByteArray):GV:= .val (.string s)
theorem chars_inj {s t:ByteArray}:ZP s=ZP t↔s=t:=by
 constructor
 ·intro h;obtain ⟨a⟩:=s;obtain ⟨b⟩:=t;simp only [ZP] at h;congr 1;exact Array.ext' h
 ·rintro rfl;rfl
@[ext] structure Nod where
 id:Int
 parent:Int
 place:Int
 lit:Int
 rule:ByteArray
 kids:List Int
deriving DecidableEq
abbrev Nd (x:Nod):GV:= .agg [I x.id,I x.parent,I x.place,I x.lit,T x.rule,IS x.kids]
abbrev NdS (l:List Nod):GV:= .sl 6 (l.map Nd)
@[ext] structure Slo where
 pos:Int
 name:ByteArray
 val:Int
deriving DecidableEq
abbrev Occ (x:Int×ByteArray):GV:= .agg [I x.1,T x.2]
abbrev Tr (l:List Nod):GV:= .agg [NdS l]
theorem e_nil (e:Env):subE e []=True:=(rfl)
theorem e_cons (e:Env) (j:Nat) (g:GV) (r:Env):subE e ((j,g)::r)=(ZM e j=some g∧subE e r):=(rfl)
theorem n_val (v:Value):nraw (.val v)=true:=(rfl)
theorem n_sl (sz:Nat) (es:List GV):nraw (.sl sz es)=true:=(rfl)
theorem n_agg (cs:List GV):nraw (.agg cs)=true:=(rfl)
theorem n_rop (sz:Nat) (g:GV):nraw (.rop sz g)=true:=(rfl)
theorem n_ptr (r sz i o:Nat):nraw (.ptr r sz i o)=true:=(rfl)
theorem n_own (r sz k n:Nat):nraw (.own r sz k n)=true:=(rfl)
theorem n_clo (f:Nat) (cs:List GV):nraw (.clo f cs)=true:=(rfl)
theorem n_tup (cs:List GV):nraw (.tup cs)=true:=(rfl)
theorem E2:type_of% (And.intro @e_nil (And.intro @e_cons (And.intro @n_val (And.intro @n_sl (And.intro @n_agg (And.intro @n_rop (And.intro @n_ptr (And.intro @n_own (And.intro @n_clo (And.intro @n_tup (And.intro @x_get @Option.some.injEq.{0}))))))))))):=
 And.intro @e_nil (And.intro @e_cons (And.intro @n_val (And.intro @n_sl (And.intro @n_agg (And.intro @n_rop (And.intro @n_ptr (And.intro @n_own (And.intro @n_clo (And.intro @n_tup (And.intro @x_get @Option.some.injEq.{0}))))))))))
theorem ZN:Zq=9223372036854775807:=(rfl)
theorem Z2:type_of% (And.intro @Int.ofNat_lt (And.intro @Int.natCast_nonneg (And.intro @true_and (And.intro @u_ext (And.intro @exists_prop_of_true (And.intro @Int.natCast_zero (And.intro @chars_inj (And.intro @Int.natCast_inj (And.intro ZN (And.intro @not_true_eq_false (And.intro @false_implies (And.intro @true_implies (And.intro @and_true (And.intro @implies_true.{0} @wrap64)))))))))))))):=
 And.intro @Int.ofNat_lt (And.intro @Int.natCast_nonneg (And.intro @true_and (And.intro @u_ext (And.intro @exists_prop_of_true (And.intro @Int.natCast_zero (And.intro @chars_inj (And.intro @Int.natCast_inj (And.intro ZN (And.intro @not_true_eq_false (And.intro @false_implies (And.intro @true_implies (And.intro @and_true (And.intro @implies_true.{0} @wrap64)))))))))))))
theorem lenOk_map {α:Type} {f:α→GV} {l:List α} (h:LenOkL (l.map f)):∀x∈l,LenOk (f x):=fun x hx=>h.all _ (List.mem_map.2 ⟨x,hx,rfl⟩)
theorem lenTr {l:List Nod} (h:LenOk (Tr l)):l.length≤9223372036854775807∧∀x∈l,x.kids.length≤9223372036854775807:=by
 simp only [LenOk,LenOkL,List.length_map,Zq] at h
 refine ⟨h.1.1,fun x hx=> ?_⟩
 have:=lenOk_map h.1.2 x hx
 simp only [LenOk,LenOkL,List.length_map,Zq] at this
 exact this.2.2.2.2.2.1.1
end Go.Gh
namespace Go.Gh
set_option linter.unusedSimpArgs false
set_option linter.unusedVariables false
end Go.Gh
namespace Go.Gh
end Go.Gh
namespace Go.Gh
theorem sum_mem {α:Type} (f:α→Nat):∀(l:List α) (x:α),x∈l→f x≤(l.map f).sum
 | y::l,x,h=>by
  simp only [List.map_cons,List.sum_cons]
  rcases List.mem_cons.1 h with rfl|h
  ·omega
  ·have:=sum_mem f l x h;omega
end Go.Gh
namespace Go.Gh
theorem bEq {p q:Prop} [Decidable p] [Decidable q] (h:p↔q):B (decide p)=B (decide q):=by
 have:decide p=decide q:=by by_cases hp:p<;>simp [hp,←h]
 rw [this]
theorem exP {p:Prop} {q:p→Prop} (h:p) (hq:q h):∃h,q h:=⟨h,hq⟩
end Go.Gh
namespace Go.Gh
theorem find_hit {α:Type} {p:α→Bool}:∀{xs:List α} {i:Nat} (h:i<xs.length),p xs[i]=true→(∀a∈xs.take i,p a=false)→xs.find? p=some xs[i]
 | x::xs,0,_,hp,_ => by simp at hp;simp [hp]
 | x::xs,i+1,h,hp,hn=>by
  have h1:p x=false:=hn x (by simp)
  simp only [List.find?_cons,h1]
  simpa using find_hit (p:=p) (xs:=xs) (i:=i) (by simpa using h) (by simpa using hp) (fun a ha=>hn a (by simp [ha]))
theorem find_none {α:Type} {p:α→Bool} {xs:List α} (hn:∀a∈xs,p a=false):xs.find? p=none:=by
 rw [List.find?_eq_none];intro x hx;simp [hn x hx]
end Go.Gh
namespace Go.Gh
set_option linter.unusedSimpArgs false
set_option linter.unusedVariables false
set_option maxRecDepth 20000
section
variable {P:Program} {α:Type} {f:α→GV} {k kx sz:Nat} {det ag:Bool}
end
end Go.Gh
namespace Go.Gh
theorem t_one {t:Ty} {g:GV} (h:ET false [t] g):CT t g:=by
 obtain ⟨gs,k1,k2⟩:=h
 simp only [CTs] at k1
 obtain ⟨g,gs',rfl,hg,rfl⟩:=k1
 simp at k2
 rw [←k2];exact hg
end Go.Gh
namespace Go.Gh
set_option linter.unusedSimpArgs false
set_option linter.unusedVariables false
theorem Z5 (P:Program) (c:Prop) [Decidable c] (g:GV) (d:Option Nat) (is:List GI) (K:Env→GH→Prop) (env:Env) (H:GH):valS P (if c then some g else none) d is K env H=(c∧Z4 P is K (gput env d g) H):=by
 by_cases h:c<;>simp [h,valS]
theorem nxF {ι:Type} {E:ι→Env} {G:ι→GH} {μ:ι→Nat} {i:ι} {e e':Env} {H H':GH} (j:ι) (hm:μ j<μ i) (hf:FE e H e' H') (h:subE e' (E j)) (hh:H'=G j):Nx E G μ i e H:=by
 subst hh
 exact ⟨j,FE.trans hf (FE.of h),hm⟩
theorem wloopN {P:Program} {cf:Cfg} (mxd:P.follows .mixedOrders = true) {ι:Type} {x:GC} {Q:Exit→Env→GH→Prop} {env:Env} {H:GH} (E:ι→Env) (G:ι→GH) (μ:ι→Nat) (i0:ι) (h0:subE env (E i0)) (hh:H=G i0)
 (round:∀i,(names (G i)).Nodup → gwp P cf x (thenG (Nx E G μ i) Q) (E i) (G i)):GW P cf (.loop x) Q env H:=by
 subst hh
 exact GW.loop E G μ i0 (FE.of h0) fun i=>GW.names fun hn=>ZA mxd (round i hn)
theorem YW {P:Program} {cf:Cfg} (mxd:P.follows .mixedOrders = true) {ι:Type} {x:GC} {Q:Exit→Env→GH→Prop} {env env':Env} {H H':GH} (E:ι→Env) (G:ι→GH) (μ:ι→Nat) (i0:ι) (hf:FE env H env' H') (h0:subE env' (E i0)) (hh:H'=G i0)
 (round:∀i,(names (G i)).Nodup → GW P cf x (thenG (Nx E G μ i) Q) (E i) (G i)):GW P cf (.loop x) Q env H:=by
 subst hh
 exact GW.loop E G μ i0 (FE.trans hf (FE.of h0)) fun i=>GW.names fun hn=>round i hn
abbrev NdO (x:Nod):GV:= .agg [I x.id,I x.parent,I x.place,I x.lit,T x.rule,.osl 1 (x.kids.map I)]
theorem view_NdO (t:List Nod):(t.map NdO).map view=t.map Nd:=by
 induction t with
 | nil=>rfl
 | cons x t ih=>
  simp only [List.map_cons,ih,List.cons.injEq,and_true]
  simp [view,Zs,Zx]
theorem bor_IS {H:GH} {r n:Nat} {l:List Int} (hr:ZU H r=some (1,l.map I)) (hn:l.length=n):Bor H (.own r 1 0 n) (IS l):= .all hr (by simp [hn]) (by simp [view])
theorem FE.close2 {env:Env} {H:GH} {r r1 sz sz1 i j n:Nat} {L gs ks:List GV} (hne:r1≠r) (hi:i<L.length) (hg:gs[j]? = some (.own r1 sz1 0 n)) (hn:ks.length=n) :
 FE env ((r1,sz1,ks)::(r,sz,L.set i (.agg gs))::H) env ((r,sz,L.set i (.agg (gs.set j (.osl sz1 ks))))::H):=by
 have:=FE.close (env:=env) (H:=(r1,sz1,ks)::(r,sz,L.set i (.agg gs))::H) (r:=r) (r1:=r1) (Ne.symm hne) (by rw [hget_old hne,ZW]) (List.getElem?_set_self hi) hg ZW hn
 rwa [hset_old hne,hset_new,hdel_new,List.set_set] at this
theorem FE.swap {env:Env} {H:GH} {x y:Nat×Nat×List GV}:FE env (x::y::H) env (y::x::H):=by
 intro w0 D0 O0 N a w ⟨hdf,hsz,D,Ω,ρw,hi⟩
 obtain ⟨r1,sz1,es1⟩:=x
 obtain ⟨r2,sz2,es2⟩:=y
 obtain ⟨F1,G1,e1,h1,F2,F3,e2,h2,h3⟩:=hi.st.hm
 have hp:∀x,(F2++(F1++F3)).count x=Ω.count x:=by
  intro x;rw [e1,e2];simp only [List.count_append];omega
 have hmem:∀x∈F2++(F1++F3),x∈Ω:=fun x hx=>by
  have:=List.count_pos_iff.2 hx
  exact List.count_pos_iff.1 (by rw [←hp];exact this)
 refine ⟨hdf,hsz,D,F2++(F1++F3),ρw,hi.st' ⟨⟨F2,_,rfl,h2,F1,F3,rfl,h1,h3⟩,?_,?_,fun x hx=>hi.st.dj x (hmem x hx),hi.st.ds⟩ hmem⟩
 ·rw [List.nodup_iff_count]
  intro x
  rw [hp]
  exact List.nodup_iff_count.1 hi.st.nd x
 ·have:=hi.st.nn
  simp only [names,List.map_cons,List.nodup_cons,List.mem_cons,not_or] at this ⊢
  exact ⟨⟨fun e=>this.1.1 e.symm,this.2.1⟩,this.1.2,this.2.2⟩
theorem callS.borA {P:Program} {K:Env→GH→Prop} {is:List GI} {env:Env} {H:GH} {d:Option Nat} {det:Bool} {f:FuncId} {gs gs':List GV} {G:GV} (h:Pure P f gs' (· = G)) (hb:BorL H gs gs') (hs:scal G=true) (hk:Z4 P is K (gput env d G) H):callS P det f (some gs) d is K env H:=by
 cases det
 ·exact callS.bor h hb hs hk
 ·exact ⟨G,h.borrow hb (fun _ e=>by rw [e];exact hs),hk⟩
end Go.Gh
namespace Go.Gh
set_option linter.unusedSimpArgs false
set_option linter.unusedVariables false
inductive Exp where
 | mk (kind n pos type:Int) (sym name:ByteArray) (args:List Exp)
def Exp.kind:Exp→Int | .mk k _ _ _ _ _ _ => k
def Exp.n:Exp→Int | .mk _ n _ _ _ _ _ => n
def Exp.pos:Exp→Int | .mk _ _ p _ _ _ _ => p
def Exp.type:Exp→Int | .mk _ _ _ t _ _ _ => t
def Exp.sym:Exp→ByteArray | .mk _ _ _ _ s _ _ => s
def Exp.name:Exp→ByteArray | .mk _ _ _ _ _ m _ => m
def Exp.args:Exp→List Exp | .mk _ _ _ _ _ _ a=>a
mutual
def Ex:Exp→GV
 | .mk k n p t s m a=> .agg [I k,I n,I p,I t,T s,T m,.sl 7 (ExL a)]
def ExL:List Exp→List GV
 | []=>[]
 | e::l=>Ex e::ExL l
end
theorem ExL_eq (l:List Exp):ExL l=l.map Ex:=by
 induction l with
 | nil=>rfl
 | cons e l ih=>simp [ExL,ih]
abbrev ExS (l:List Exp):GV:= .sl 7 (l.map Ex)
theorem Y7 (e:Exp):Ex e = .agg [I e.kind,I e.n,I e.pos,I e.type,T e.sym,T e.name,ExS e.args]:=by
 cases e;simp only [Ex,ExL_eq];rfl
mutual
theorem Exp.indA {p:Exp→Prop} (h:∀e,(∀a∈e.args,p a)→p e):∀e,p e
 | .mk k n q t s m a=>h _ (Exp.indL h a)
theorem Exp.indL {p:Exp→Prop} (h:∀e,(∀a∈e.args,p a)→p e):∀(l:List Exp),∀a∈l,p a
 | [],a,hm=>by cases hm
 | e::l,a,hm=>by
  have he:p e:=Exp.indA h e
  have hl:=Exp.indL h l
  rcases List.mem_cons.1 hm with rfl|hm
  ·exact he
  ·exact hl a hm
end
mutual
def wEx:Exp→Nat
 | .mk _ _ _ _ s m a=>(ZP s).length + (ZP m).length + (a.length+wExL a)
def wExL:List Exp→Nat
 | []=>0
 | e::l=>wEx e+wExL l
end
theorem wExL_eq (l:List Exp):wExL l=(l.map wEx).sum := by
 induction l with
 | nil=>rfl
 | cons e l ih=>simp [wExL,ih]
theorem wEx_eq (e:Exp):wEx e=(ZP e.sym).length + (ZP e.name).length + wtS wEx e.args:=by
 cases e;simp only [wEx,wExL_eq,wtS];rfl
mutual
def okE:Exp→Prop
 | .mk _ _ _ _ s m a=>s.size≤maxLen∧m.size≤maxLen∧okEL a
def okEL:List Exp→Prop
 | []=>True
 | e::l=>okE e∧okEL l
end
theorem okEL_eq {l:List Exp}:okEL l↔∀a∈l,okE a:=by
 induction l with
 | nil=>simp [okEL]
 | cons e l ih=>simp [okEL,ih]
theorem okE_eq {e:Exp}:okE e↔e.sym.size≤maxLen∧e.name.size≤maxLen∧∀a∈e.args,okE a:=by
 cases e;simp only [okE,okEL_eq];rfl
mutual
instance decExp:(x y:Exp)→Decidable (x=y)
 | .mk k n p t s m a,.mk k' n' p' t' s' m' a'=>
  match decExpL a a' with
  | isTrue h=>decidable_of_iff (k=k'∧n=n'∧p=p'∧t=t'∧s=s'∧m=m') (by simp [h])
  | isFalse h=>isFalse (by simp [h])
instance decExpL:(x y:List Exp)→Decidable (x=y)
 | [],[]=>isTrue rfl
 | [],_ :: _ => isFalse (by simp)
 | _ :: _,[]=>isFalse (by simp)
 | e::l,e'::l'=>match decExp e e',decExpL l l' with
  | isTrue h,isTrue h'=>isTrue (by rw [h,h'])
  | isFalse h,_ => isFalse (by simp [h])
  | _,isFalse h=>isFalse (by simp [h])
end
theorem args_small {e:Exp} (h:wEx e≤1048576):e.args.length≤1048576∧∀a∈e.args,wEx a≤1048576:=by
 rw [wEx_eq] at h
 simp only [wtS] at h
 refine ⟨by omega,fun a ha=> ?_⟩
 have:=sum_mem wEx e.args a ha
 omega
theorem isAgg_Ex (e:Exp):isAgg (Ex e)=true:=by rw [Y7];rfl
theorem geR_Ex (e:Exp):geR (some (Ex e))=some (Ex e):=by rw [Y7];rfl
theorem gsize_Ex (e:Exp):gsize (Ex e)=7:=by rw [Y7];rfl
theorem stor_Ex (e:Exp):ZH (Ex e)=true:=by rw [Y7];rfl
theorem view_Ex (e:Exp):view (Ex e)=Ex e:=by rw [Y7];rfl
end Go.Gh
namespace Go.Gh
open Go.RowKit Go.ChangeShapes Go.WideShapes Go.Deep
end Go.Gh
namespace Go.Gh
set_option linter.unusedSimpArgs false
set_option linter.unusedVariables false
end Go.Gh
namespace Go.Gh
set_option linter.unusedSimpArgs false
set_option linter.unusedVariables false
def satV (n:Int):Int:=max (-1000000) (min 1000000 n)
def trV (b:Bool):Int:=if b then 1 else 0
def coV (v k:Int):Int:=if k=1 then satV v else if k=2 then andI .i64 v 4095 else if k=3 then trV (!decide (v=0)) else if k=4∧0≤v∧v≤999 then v else 0
def opT (op:Int):Int×Int×Int:=
 if 1≤op∧op≤5 then (1,1,1) else if 6≤op∧op≤8 then (2,2,2) else if op=9∨op=10 then (1,1,3) else if op=11 then (2,1,3) else if op=12 then (2,1,2) else (0,0,0)
abbrev opG (op:Int):GV:= .tup [I (opT op).1,I (opT op).2.1,I (opT op).2.2]
def okV (v k:Int):Bool:=decide (1≤k∧k≤4)&&decide (coV v k=v)
theorem opG0 {op:Int} (h:¬(1≤op∧op≤12)):opG op = .tup [I 0,I 0,I 0]:=by
 have:opT op=(0,0,0):=by
  unfold opT
  rw [if_neg (by omega),if_neg (by omega),if_neg (by omega),if_neg (by omega),if_neg (by omega)]
 simp only [opG,this]
end Go.Gh
namespace Go.Gh
set_option linter.unusedSimpArgs false
set_option linter.unusedVariables false
mutual
def cntE:Exp→Nat
 | .mk _ _ _ _ _ _ a=>1+cntEL a
def cntEL:List Exp→Nat
 | []=>0
 | e::l=>cntE e+cntEL l
end
theorem cntEL_eq (l:List Exp):cntEL l=(l.map cntE).sum := by
 induction l with
 | nil=>rfl
 | cons e l ih=>simp [cntEL,ih]
theorem cntE_eq (e:Exp):cntE e=1+(e.args.map cntE).sum := by
 cases e;simp only [cntE,cntEL_eq];rfl
theorem cntE_le:∀e,cntE e≤wEx e+1:=by
 refine Exp.indA fun e ih=> ?_
 rw [cntE_eq,wEx_eq]
 have:∀l:List Exp,(∀a∈l,cntE a≤wEx a+1)→(l.map cntE).sum ≤ l.length+(l.map wEx).sum := by
  intro l
  induction l with
  | nil=>intro _;simp
  | cons a l ih=>
   intro h
   have h1:=h a (by simp)
   have h2:=ih fun b hb=>h b (by simp [hb])
   simp only [List.map_cons,List.sum_cons,List.length_cons];omega
 have:=this e.args ih
 simp only [wtS];omega
theorem sumT (f:Exp→Nat) (l:List Exp) (i:Nat) (h:i<l.length):((l.take (i+1)).map f).sum = ((l.take i).map f).sum + f l[i]:=psum_succ f l i h
theorem sumT_le (f:Exp→Nat) (l:List Exp) (i:Nat):((l.take i).map f).sum ≤ (l.map f).sum := psum_le f l i
def mxL:List Nat→Nat
 | []=>0
 | a::l=>max a (mxL l)
theorem mxL_app (l m:List Nat):mxL (l++m)=max (mxL l) (mxL m):=by
 induction l with
 | nil=>simp [mxL]
 | cons a l ih=>simp only [List.cons_append,mxL,ih];omega
theorem mxL_le (l:List Nat):mxL l≤l.sum:=by
 induction l with
 | nil=>simp [mxL]
 | cons a l ih=>simp only [mxL,List.sum_cons];omega
mutual
def dpE:Exp→Nat
 | .mk _ _ _ _ _ _ a=>1+dpEL a
def dpEL:List Exp→Nat
 | []=>0
 | e::l=>max (dpE e) (dpEL l)
end
theorem dpEL_eq (l:List Exp):dpEL l=mxL (l.map dpE):=by
 induction l with
 | nil=>rfl
 | cons e l ih=>simp [dpEL,mxL,ih]
theorem dpE_eq (e:Exp):dpE e=1+mxL (e.args.map dpE):=by
 cases e;simp only [dpE,dpEL_eq];rfl
theorem sumL_le {l:List Exp} {f g:Exp→Nat} (h:∀a∈l,f a≤g a):(l.map f).sum ≤ (l.map g).sum := by
 induction l with
 | nil=>simp
 | cons a l ih=>
  have h1:=h a (by simp)
  have h2:=ih fun b hb=>h b (by simp [hb])
  simp only [List.map_cons,List.sum_cons];omega
theorem dpE_le:∀e,dpE e≤cntE e:=by
 refine Exp.indA fun e ih=> ?_
 rw [cntE_eq,dpE_eq]
 have h1:=mxL_le (e.args.map dpE)
 have h2:=sumL_le ih
 omega
theorem mxT (f:Exp→Nat) (l:List Exp) (i:Nat) (h:i<l.length):mxL ((l.take (i+1)).map f)=max (mxL ((l.take i).map f)) (f l[i]):=by
 rw [List.take_succ_eq_append_getElem h,List.map_append,mxL_app];simp [mxL]
theorem mxT_le (f:Exp→Nat) (l:List Exp) (i:Nat):mxL ((l.take i).map f)≤(l.map f).sum :=
 Nat.le_trans (mxL_le _) (sumT_le f l i)
end Go.Gh
namespace Go.Gh
set_option linter.unusedSimpArgs false
set_option linter.unusedVariables false
mutual
def allE (p:Exp→Bool):Exp→Bool
 | .mk k n q t s m a=>p (.mk k n q t s m a)&&allEL p a
def allEL (p:Exp→Bool):List Exp→Bool
 | []=>true
 | e::l=>allE p e&&allEL p l
end
theorem allEL_eq (p:Exp→Bool) (l:List Exp):allEL p l=l.all (allE p):=by
 induction l with
 | nil=>rfl
 | cons e l ih=>simp [allEL,ih]
theorem allE_eq (p:Exp→Bool) (e:Exp):allE p e=(p e&&e.args.all (allE p)):=by
 cases e;simp only [allE,allEL_eq];rfl
theorem any_ix {α:Type} (p:α→Bool) (l:List α):decide (0≤Zf p l)=l.any p:=by
 unfold Zf
 cases h:l.findIdx? p with
 | none=>
  have:=List.findIdx?_eq_none_iff.1 h
  simp;exact this
 | some i=>
  obtain ⟨h1,h2,_⟩:=List.findIdx?_eq_some_iff_getElem.1 h
  simp
  exact ⟨l[i],List.getElem_mem h1,h2⟩
theorem all_take {p:Exp→Bool} {l:List Exp} {i:Nat} (h:i<l.length) (hp:p l[i]=true) (hn:∀a∈l.take i,p a=true):∀a∈l.take (i+1),p a=true:=by
 intro a ha
 rw [List.take_add_one,List.getElem?_eq_getElem h,Option.toList_some,List.mem_append] at ha
 rcases ha with ha|ha
 ·exact hn a ha
 ·simp only [List.mem_singleton] at ha;rw [ha];exact hp
end Go.Gh
namespace Go.Gh
set_option linter.unusedSimpArgs false
set_option linter.unusedVariables false
def letV (c:UInt8):Bool:=decide (97≤(c.toNat:Int))&&decide ((c.toNat:Int)≤122)
def digV (c:UInt8):Bool:=decide (48≤(c.toNat:Int))&&decide ((c.toNat:Int)≤57)
def kwS:List ByteArray:=[⟨#[105,102]⟩,⟨#[116,104,101,110]⟩,⟨#[101,108,115,101]⟩,⟨#[116,114,117,101]⟩,⟨#[102,97,108,115,101]⟩,⟨#[108,105,116]⟩,⟨#[110,111,110,101]⟩,
 ⟨#[115,101,108,102]⟩,⟨#[111,102]⟩,⟨#[109,97,120]⟩,⟨#[109,105,110]⟩,⟨#[119,105,116,104]⟩,⟨#[104,97,115]⟩]
def hasS (l:List ByteArray) (s:ByteArray):Bool:=l.any fun x=>decide (x=s)
theorem hasS_hit {l:List ByteArray} {s:ByteArray} {i:Nat} (h:i<l.length) (e:l[i]=s):hasS l s=true:=by
 simp only [hasS,List.any_eq_true];exact ⟨l[i],List.getElem_mem h,by simp [e]⟩
theorem hasS_none {l:List ByteArray} {s:ByteArray} (h:∀x∈l,decide (x=s)=false):hasS l s=false:=by
 simp only [hasS,List.any_eq_false];intro x hx;simpa using h x hx
def resV (s:ByteArray):Bool:=hasS kwS s
def shp:List UInt8→Bool
 | []=>false
 | c::l=>letV c&&l.all fun c=>letV c||digV c
theorem shp_iff (l:List UInt8):shp l=true↔0<l.length∧∀(j:Nat) (h:j<l.length),letV l[j]=true∨(j≠0∧digV l[j]=true):=by
 cases l with
 | nil=>simp [shp]
 | cons c l=>
  simp only [shp,Bool.and_eq_true,List.all_eq_true,Bool.or_eq_true,List.length_cons]
  constructor
  ·rintro ⟨h1,h2⟩
   refine ⟨by omega,fun j hj=> ?_⟩
   cases j with
   | zero=>exact .inl h1
   | succ j=>
    have:=h2 l[j] (List.getElem_mem _)
    simp only [List.getElem_cons_succ]
    rcases this with h|h
    ·exact .inl h
    ·exact .inr ⟨by omega,h⟩
  ·rintro ⟨_,h⟩
   constructor
   ·have:=h 0 (by omega)
    simpa using this
   ·intro x hx
    obtain ⟨j,hj,rfl⟩:=List.mem_iff_getElem.1 hx
    have:=h (j+1) (by omega)
    simp only [List.getElem_cons_succ] at this
    rcases this with h|h
    ·exact .inl h
    ·exact .inr h.2
def nameV (s:ByteArray):Bool:=shp (ZP s)&&decide ((ZP s).length ≤ 8) && !resV s
end Go.Gh
namespace Go.Gh
set_option linter.unusedSimpArgs false
set_option linter.unusedVariables false
theorem shp_bad {l:List UInt8} {i:Nat} (h:i<l.length) (h1:¬(letV l[i]=true∨(i≠0∧digV l[i]=true))):shp l=false:=by
 cases hs:shp l with
 | false=>rfl
 | true=>exact absurd (((shp_iff l).1 hs).2 i h) h1
theorem shp_step {l:List UInt8} {i:Nat} (h:i<l.length) (hn:∀(j:Nat) (h:j<l.length),j<i→letV l[j]=true∨(j≠0∧digV l[j]=true)) (hg:letV l[i]=true∨(i≠0∧digV l[i]=true)) :
 ∀(j:Nat) (h:j<l.length),j<i+1→letV l[j]=true∨(j≠0∧digV l[j]=true):=by
 intro j hj hji
 by_cases e:j=i
 ·subst e;exact hg
 ·exact hn j hj (by omega)
theorem shp_end {l:List UInt8} (hn:∀(j:Nat) (h:j<l.length),j<l.length→letV l[j]=true∨(j≠0∧digV l[j]=true)):shp l=decide (0<l.length):=by
 by_cases h:0<l.length
 ·rw [decide_eq_true h];exact (shp_iff l).2 ⟨h,fun j hj=>hn j hj hj⟩
 ·rw [decide_eq_false h]
  cases l with
  | nil=>rfl
  | cons a l=>simp at h
end Go.Gh
namespace Go.Gh
set_option linter.unusedSimpArgs false
set_option linter.unusedVariables false
def arity (k:Int):Nat:=if k=4 then 2 else if k=5 then 3 else if k=8 then 1 else 0
def noS:ByteArray:=⟨#[]⟩
def bareV (e:Exp):Bool:=
 decide (e.args.length=arity e.kind)&&(decide (e.kind=3∨e.kind=6)||decide (e.pos=0))&&(decide (e.kind=3∨e.kind=8)||decide (e.name=noS))&&(decide (e.kind=1∨e.kind=4)||decide (e.n=0)) &&
 (decide (e.kind=1)||decide (e.type=0))&&(decide (e.kind=8)||decide (e.sym=noS))
end Go.Gh
namespace Go.Gh
set_option linter.unusedSimpArgs false
set_option linter.unusedVariables false
theorem nraw_Ex (e:Exp):nraw (Ex e)=true:=by rw [Y7];rfl
theorem clean_Ex (e:Exp):clean (Ex e)=true:=by rw [Y7];rfl
theorem sub_Ex0 (e:Exp):sub (Ex e) 0 1 false=some (I e.kind):=by rw [Y7];rfl
theorem sub_Ex1 (e:Exp):sub (Ex e) 1 1 false=some (I e.n):=by rw [Y7];rfl
theorem sub_Ex2 (e:Exp):sub (Ex e) 2 1 false=some (I e.pos):=by rw [Y7];rfl
theorem sub_Ex3 (e:Exp):sub (Ex e) 3 1 false=some (I e.type):=by rw [Y7];rfl
theorem sub_Ex4 (e:Exp):sub (Ex e) 4 1 false=some (T e.sym):=by rw [Y7];rfl
theorem sub_Ex5 (e:Exp):sub (Ex e) 5 1 false=some (T e.name):=by rw [Y7];rfl
theorem sub_Ex6 (e:Exp):sub (Ex e) 6 1 false=some (ExS e.args):=by rw [Y7];rfl
theorem fold_Ex (e:Exp):GV.agg [I e.kind,I e.n,I e.pos,I e.type,T e.sym,T e.name,.sl 7 (e.args.map Ex)]=Ex e:=(Y7 e).symm
abbrev ExC (e:Exp):List GV:=[I e.kind,I e.n,I e.pos,I e.type,T e.sym,T e.name,ExS e.args]
theorem upd_Ex (gs:List GV) (o:Nat) (e:Exp):upd (.agg gs) o (Ex e)=if o+7≤gs.length then some (.agg (gs.take o++(ExC e++gs.drop (o+7)))) else none:=by rw [Y7];rfl
theorem upd_ExO (e:Exp) (o r sz k n:Nat):upd (Ex e) o (.own r sz k n)=if o<7 then some (.agg ((ExC e).set o (.own r sz k n))) else none:=by rw [Y7];rfl
theorem XE:type_of% (And.intro @isAgg_Ex (And.intro @geR_Ex (And.intro @gsize_Ex (And.intro @stor_Ex (And.intro @nraw_Ex (And.intro @clean_Ex (And.intro @sub_Ex0 (And.intro @sub_Ex1 (And.intro @sub_Ex2 (And.intro @sub_Ex3 (And.intro @sub_Ex4 (And.intro @sub_Ex5 (And.intro @sub_Ex6 (And.intro @fold_Ex (And.intro @upd_ExO @upd_Ex))))))))))))))):=
 And.intro @isAgg_Ex (And.intro @geR_Ex (And.intro @gsize_Ex (And.intro @stor_Ex (And.intro @nraw_Ex (And.intro @clean_Ex (And.intro @sub_Ex0 (And.intro @sub_Ex1 (And.intro @sub_Ex2 (And.intro @sub_Ex3 (And.intro @sub_Ex4 (And.intro @sub_Ex5 (And.intro @sub_Ex6 (And.intro @fold_Ex (And.intro @upd_ExO @upd_Ex))))))))))))))
@[ext] structure Att where
 name:ByteArray
 type:Int
 mode:Int
 circ:Bool
deriving DecidableEq
abbrev At (x:Att):GV:= .agg [T x.name,I x.type,I x.mode,B x.circ]
abbrev AtS (l:List Att):GV:= .sl 4 (l.map At)
@[ext] structure Sym where
 name:ByteArray
 atts:List Att
deriving DecidableEq
abbrev Sy (x:Sym):GV:= .agg [T x.name,AtS x.atts]
abbrev SyS (l:List Sym):GV:= .sl 2 (l.map Sy)
@[ext] structure Eqn where
 pos:Int
 name:ByteArray
 expr:Exp
deriving DecidableEq
abbrev Qn (x:Eqn):GV:= .agg [I x.pos,T x.name,I x.expr.kind,I x.expr.n,I x.expr.pos,I x.expr.type,T x.expr.sym,T x.expr.name,ExS x.expr.args]
abbrev QnS (l:List Eqn):GV:= .sl 9 (l.map Qn)
@[ext] structure Con where
 sym:ByteArray
 name:ByteArray
 goal:Exp
 value:Exp
deriving DecidableEq
abbrev Co (x:Con):GV:= .agg [T x.sym,T x.name,I x.goal.kind,I x.goal.n,I x.goal.pos,I x.goal.type,T x.goal.sym,T x.goal.name,ExS x.goal.args,I x.value.kind,I x.value.n,I x.value.pos,I x.value.type,T x.value.sym,T x.value.name,ExS x.value.args]
abbrev CoS (l:List Con):GV:= .sl 16 (l.map Co)
abbrev TS (l:List ByteArray):GV:= .sl 1 (l.map T)
@[ext] structure Rul where
 name:ByteArray
 left:ByteArray
 right:List ByteArray
 lit:Bool
 eqs:List Eqn
 cons:List Con
deriving DecidableEq
abbrev Ru (x:Rul):GV:= .agg [T x.name,T x.left,TS x.right,B x.lit,QnS x.eqs,CoS x.cons]
abbrev RuS (l:List Rul):GV:= .sl 6 (l.map Ru)
@[ext] structure Gram where
 syms:List Sym
 rules:List Rul
deriving DecidableEq
abbrev Gr (g:Gram):GV:= .agg [SyS g.syms,RuS g.rules]
def okAt (x:Att):Prop:=x.name.size≤maxLen
def okSy (x:Sym):Prop:=x.name.size≤maxLen∧∀a∈x.atts,okAt a
def okEq (x:Eqn):Prop:=x.name.size≤maxLen∧okE x.expr
def okCo (x:Con):Prop:=x.sym.size≤maxLen∧x.name.size≤maxLen∧okE x.goal∧okE x.value
def okRu (x:Rul):Prop:=x.name.size≤maxLen∧x.left.size≤maxLen∧(∀s∈x.right,s.size≤maxLen)∧(∀q∈x.eqs,okEq q)∧∀c∈x.cons,okCo c
def okGr (g:Gram):Prop:=(∀s∈g.syms,okSy s)∧∀r∈g.rules,okRu r
def smSy (x:Sym):Prop:=x.atts.length≤1048576
def smEq (x:Eqn):Prop:=wEx x.expr≤1048576
def smCo (x:Con):Prop:=wEx x.goal≤1048576∧wEx x.value≤1048576
def smRu (x:Rul):Prop:=x.right.length≤1048576∧x.eqs.length≤1048576∧x.cons.length≤1048576∧(∀q∈x.eqs,smEq q)∧∀c∈x.cons,smCo c
def Zj (g:Gram):Prop:=g.syms.length≤1048576∧g.rules.length≤1048576∧(∀s∈g.syms,smSy s)∧∀r∈g.rules,smRu r
theorem wtS_mem {α:Type} {wt:α→Nat} {l:List α} {n:Nat} (h:wtS wt l≤n):l.length≤n∧∀a∈l,wt a≤n:=by
 simp only [wtS] at h
 exact ⟨by omega,fun a ha=>by have:=sum_mem wt l a ha;omega⟩
theorem Zu {α:Type} {l:List α} {i:Nat} {d:α} (h:i<l.length):l.getD i d=l[i]:=by
 rw [List.getD_eq_getElem?_getD,List.getElem?_eq_getElem h];rfl
def symZ:Sym:=⟨noS,[]⟩
def attZ:Att:=⟨noS,0,0,false⟩
def rulZ:Rul:=⟨noS,noS,[],false,[],[]⟩
def Zt (l:List Sym) (n:ByteArray):Sym:=(l.find? fun s=>decide (s.name=n)).getD symZ
def hSym (l:List Sym) (n:ByteArray):Bool:=(l.find? fun s=>decide (s.name=n)).isSome
def Y8 (l:List Rul) (n:ByteArray):Rul:=(l.find? fun s=>decide (s.name=n)).getD rulZ
def hRul (l:List Rul) (n:ByteArray):Bool:=(l.find? fun s=>decide (s.name=n)).isSome
def fAtt (l:List Att) (n:ByteArray):Att:=(l.find? fun s=>decide (s.name=n)).getD attZ
def hAtt (l:List Att) (n:ByteArray):Bool:=(l.find? fun s=>decide (s.name=n)).isSome
theorem fRul_mem (l:List Rul) (n:ByteArray):Y8 l n∈l∨Y8 l n=rulZ:=by
 unfold Y8
 cases h:l.find? fun s=>decide (s.name=n) with
 | none=>exact .inr rfl
 | some a=>exact .inl (List.mem_of_find?_eq_some h)
theorem fSym_mem (l:List Sym) (n:ByteArray):Zt l n∈l∨Zt l n=symZ:=by
 unfold Zt
 cases h:l.find? fun s=>decide (s.name=n) with
 | none=>exact .inr rfl
 | some a=>exact .inl (List.mem_of_find?_eq_some h)
theorem smRu_f {g:Gram} (h:Zj g) (n:ByteArray):smRu (Y8 g.rules n):=by
 rcases fRul_mem g.rules n with h1|h1
 ·exact h.2.2.2 _ h1
 ·rw [h1];simp [smRu,rulZ]
theorem smSy_f {g:Gram} (h:Zj g) (n:ByteArray):smSy (Zt g.syms n):=by
 rcases fSym_mem g.syms n with h1|h1
 ·exact h.2.2.1 _ h1
 ·rw [h1];simp [smSy,symZ]
def YR (r:Rul) (pos:Int):ByteArray:=if pos=0 then r.left else if 1≤pos∧pos≤r.right.length then r.right.getD (pos-1).toNat noS else noS
def nodZ:Nod:=⟨0,0,0,0,noS,[]⟩
def Y5 (g:Gram) (t:List Nod) (i:Int):ByteArray:=if 0≤i∧i<t.length then (Y8 g.rules (t.getD i.toNat nodZ).rule).left else noS
theorem symN_in {g:Gram} {t:List Nod} {i:Nat} (h:i<t.length):Y5 g t i=(Y8 g.rules t[i].rule).left := by
 simp only [Y5,Int.toNat_natCast]
 rw [if_pos (by omega),Zu h]
theorem symN_out {g:Gram} {t:List Nod} {i:Int} (h:¬(0≤i∧i<t.length)):Y5 g t i=noS:=by simp only [Y5,if_neg h]
def attN (g:Gram) (t:List Nod) (n:Int) (name:ByteArray):Att:=if 0≤Zf (fun y=>decide (y.id=n)) t then fAtt (Zt g.syms (Y5 g t (Zf (fun y=>decide (y.id=n)) t))).atts name else attZ
def hasN (g:Gram) (t:List Nod) (n:Int) (name:ByteArray):Bool:=if 0≤Zf (fun y=>decide (y.id=n)) t then hAtt (Zt g.syms (Y5 g t (Zf (fun y=>decide (y.id=n)) t))).atts name else false
theorem ixOf_cases {α:Type} (p:α→Bool) (xs:List α):Zf p xs = -1∨(0≤Zf p xs∧Zf p xs<xs.length):=by
 unfold Zf
 cases h:xs.findIdx? p with
 | none=>exact .inl rfl
 | some i=>
  obtain ⟨h1,_,_⟩:=List.findIdx?_eq_some_iff_getElem.1 h
  exact .inr ⟨by simp,by simpa using h1⟩
abbrev Ins (x:Int×ByteArray):GV:= .agg [I x.1,T x.2]
abbrev InsS (l:List (Int×ByteArray)):GV:= .sl 2 (l.map Ins)
end Go.Gh
namespace Go.Gh
set_option linter.unusedSimpArgs false
set_option linter.unusedVariables false
end Go.Gh
namespace Go.Gh
set_option linter.unusedSimpArgs false
set_option linter.unusedVariables false
end Go.Gh
namespace Go.Gh
set_option linter.unusedSimpArgs false
set_option linter.unusedVariables false
def gid (t:List Nod) (i:Nat):Bool:=decide (1≤(t.getD i nodZ).id ∧ (t.getD i nodZ).id ≤ 999) && !((t.take i).any fun y=>decide (y.id=(t.getD i nodZ).id))
def idsV (t:List Nod):Bool:=(List.range t.length).all (gid t)
theorem idsV_bad {t:List Nod} {i:Nat} (h:i<t.length) (hb:gid t i=false):idsV t=false:=by
 simp only [idsV,List.all_eq_false,List.mem_range]
 exact ⟨i,h,by simp [hb]⟩
theorem idsV_ok {t:List Nod} (h:∀j,j<t.length→gid t j=true):idsV t=true:=by
 simp only [idsV,List.all_eq_true,List.mem_range]
 exact h
def fitV (g:Gram) (x:Nod) (parent place:Int) (sym:ByteArray):Bool:=
 hRul g.rules x.rule&&decide ((Y8 g.rules x.rule).left = sym)&&decide (x.parent=parent)&&decide (x.place=place)&&decide (x.kids.length=(Y8 g.rules x.rule).right.length) &&
 decide (-1000000≤x.lit∧x.lit≤1000000)&&((Y8 g.rules x.rule).lit || decide (x.lit=0))
def Y3 (w:Nat→Int→Int→ByteArray→Int) (i:Nat):List Int→List ByteArray→Int→Int→Int
 | c::cs,s::ss,k,at'=>if c≠at' then -1 else if w at'.toNat i (k+1) s<0 then -1 else Y3 w i cs ss (k+1) (w at'.toNat i (k+1) s)
 | _,_,_,at'=>at'
def Zo (g:Gram) (t:List Nod):Nat→Nat→Int→Int→ByteArray→Int
 | 0,_,_,_,_ => -1
 | f+1,i,p,q,s=>if i<t.length then
  if fitV g (t.getD i nodZ) p q s then Y3 (Zo g t f) i (t.getD i nodZ).kids (Y8 g.rules (t.getD i nodZ).rule).right 0 (i+1) else -1
  else -1
theorem kidsW_ge {w:Nat→Int→Int→ByteArray→Int} {n:Int} {i:Nat} (hw:∀a p q s,0≤w a p q s→(a:Int)<w a p q s∧w a p q s≤n):∀(cs:List Int) (ss:List ByteArray) (k a:Int),0≤a→a≤n →
 Y3 w i cs ss k a = -1∨(a≤Y3 w i cs ss k a∧Y3 w i cs ss k a≤n)
 | [],_,k,a,h0,h1=>by right;simp [Y3];omega
 | _ :: _,[],k,a,h0,h1=>by right;simp [Y3];omega
 | c::cs,s::ss,k,a,h0,h1=>by
  simp only [Y3]
  split
  ·exact .inl rfl
  split
  ·exact .inl rfl
  ·rename_i h2
   have h3:=hw a.toNat i (k+1) s (by omega)
   rcases kidsW_ge hw cs ss (k+1) (w a.toNat i (k+1) s) (by omega) h3.2 with h|h
   ·exact .inl h
   ·exact .inr (by omega)
theorem walkE_ge {g:Gram} {t:List Nod}:∀(f i:Nat) (p q:Int) (s:ByteArray),0≤Zo g t f i p q s→(i:Int)<Zo g t f i p q s∧Zo g t f i p q s≤t.length
 | 0,i,p,q,s,h=>by simp [Zo] at h
 | f+1,i,p,q,s,h=>by
  simp only [Zo] at h ⊢
  split at h
  ·rename_i hi
   rw [if_pos hi]
   split at h
   ·rename_i hf
    rw [if_pos hf]
    rcases kidsW_ge (w:=Zo g t f) (n:=t.length) (i:=i) (fun a p q s h=>walkE_ge f a p q s h) (t.getD i nodZ).kids (Y8 g.rules (t.getD i nodZ).rule).right 0 (i+1) (by omega) (by omega) with h2|h2
    ·rw [h2] at h;omega
    ·omega
   ·omega
  ·omega
theorem walkE_out {g:Gram} {t:List Nod} {f i:Nat} {p q:Int} {s:ByteArray} (h:t.length≤i):Zo g t f i p q s = -1:=by
 cases f with
 | zero=>rfl
 | succ f=>simp only [Zo];rw [if_neg (by omega)]
def Y9 (g:Gram) (t:List Nod) (s:ByteArray):Bool:=decide (1≤t.length∧t.length≤16)&&(idsV t&&decide (Zo g t t.length 0 (-1) 0 s=t.length))
def startS (g:Gram):ByteArray:=if 0<g.syms.length then (g.syms.getD 0 symZ).name else noS
theorem kidsW_step {w:Nat→Int→Int→ByteArray→Int} {i k:Nat} {cs:List Int} {ss:List ByteArray} {a:Int} (h1:k<cs.length) (h2:k<ss.length) :
 Y3 w i (cs.drop k) (ss.drop k) k a=if cs[k]≠a then -1 else if w a.toNat i ((k:Int)+1) ss[k]<0 then -1 else Y3 w i (cs.drop (k+1)) (ss.drop (k+1)) ((k+1:Nat):Int) (w a.toNat i ((k:Int)+1) ss[k]):=by
 rw [List.drop_eq_getElem_cons h1,List.drop_eq_getElem_cons h2,Y3]
 simp only [Int.natCast_add,Int.natCast_one]
theorem kidsW_end {w:Nat→Int→Int→ByteArray→Int} {i k:Nat} {cs:List Int} {ss:List ByteArray} {a:Int} {p:Int} (h1:cs.length≤k):Y3 w i (cs.drop k) (ss.drop k) p a=a:=by
 rw [List.drop_eq_nil_of_le h1];cases ss.drop k<;>rfl
theorem fitV_iff {g:Gram} {x:Nod} {p q:Int} {s:ByteArray}:fitV g x p q s=true↔hRul g.rules x.rule=true∧(Y8 g.rules x.rule).left = s∧x.parent=p∧x.place=q∧x.kids.length=(Y8 g.rules x.rule).right.length ∧ (-1000000≤x.lit∧x.lit≤1000000) ∧
 ((Y8 g.rules x.rule).lit = true∨(Y8 g.rules x.rule).lit = false∧x.lit=0):=by
 simp only [fitV,Bool.and_eq_true,decide_eq_true_eq,Bool.or_eq_true,and_assoc]
 cases (Y8 g.rules x.rule).lit <;> simp
theorem okV1 (n:Int):okV n 1=decide (-1000000≤n∧n≤1000000):=by
 simp only [okV,coV,satV]
 by_cases h : -1000000≤n∧n≤1000000
 ·simp [h];omega
 ·simp [h];omega
theorem gid_f1 {t:List Nod} {i:Nat} (h:i<t.length) (hb:¬(1≤t[i].id ∧ t[i].id ≤ 999)):gid t i=false:=by
 simp only [gid,Zu h,decide_eq_false hb,Bool.false_and]
theorem gid_f2 {t:List Nod} {i:Nat} (h:i<t.length) (hb:((t.take i).any fun y=>decide (y.id=t[i].id))=true):gid t i=false:=by
 simp only [gid,Zu h,hb,Bool.not_true,Bool.and_false]
theorem gid_t {t:List Nod} {i:Nat} (h:i<t.length) (ha:1≤t[i].id ∧ t[i].id ≤ 999) (hb:((t.take i).any fun y=>decide (y.id=t[i].id))=false):gid t i=true:=by
 simp only [gid,Zu h,decide_eq_true ha,hb,Bool.not_false,Bool.and_true]
def hasI (l:List Int) (x:Int):Bool:=l.any fun y=>decide (y=x)
theorem hasI_hit {l:List Int} {x:Int} {i:Nat} (h:i<l.length) (e:l[i]=x):hasI l x=true:=by
 simp only [hasI,List.any_eq_true];exact ⟨l[i],List.getElem_mem h,by simp [e]⟩
theorem hasI_none {l:List Int} {x:Int} (h:∀y∈l,decide (y=x)=false):hasI l x=false:=by
 simp only [hasI,List.any_eq_false];intro y hy;simpa using h y hy
theorem hasI_map (t:List Nod) (x:Int):hasI (t.map (·.id)) x=t.any fun y=>decide (y.id=x):=by
 simp only [hasI,List.any_map];rfl
end Go.Gh
namespace Go.Gh
theorem takeApp2 {α β:Type} (f:β→GV) (h:α→β) (l:List α) (i:Nat) (hi:i<l.length):List.take i (List.map f (List.map h (List.take i l)))++[f (h l[i])]=List.map f (List.map h (List.take (i+1) l)):=by
 have:=takeApp (fun a=>f (h a)) l i hi
 simp only [List.map_map];exact this
theorem treeOf_bad {g:Gram} {t:List Nod} {s:ByteArray} (h:idsV t=false):Y9 g t s=false:=by
 simp only [Y9,h,Bool.false_and,Bool.and_false]
end Go.Gh
namespace Go.Gh
end Go.Gh
namespace Go.Gh
set_option linter.unusedSimpArgs false
set_option linter.unusedVariables false
def nodeV (e:Exp):Bool:=
 decide (1≤e.kind∧e.kind≤8)&&bareV e &&
 (if e.kind=1 then decide (1≤e.type∧e.type≤3)&&okV e.n e.type&&decide (0≤e.n) else
  if e.kind=3 then decide (0≤e.pos∧e.pos≤3)&&nameV e.name else
  if e.kind=6 then decide (0≤e.pos∧e.pos≤3) else
  if e.kind=4 then decide (1≤e.n∧e.n≤12) else
  if e.kind=8 then nameV e.sym&&nameV e.name else true)
def validE (e:Exp):Bool:=decide (cntE e≤24)&&decide (dpE e≤6)&&allE nodeV e
end Go.Gh
namespace Go.Gh
theorem Bor.clo {H:GH} {f:Nat} {gs gs':List GV} (h:BorL H gs gs'):Bor H (.clo f gs) (.clo f gs'):=fun w D Ω v hst hm=>by
 simp only [MV] at hm ⊢
 obtain ⟨h0,vs,h1,h2⟩:=hm
 exact ⟨h0,vs,h1,h w D Ω vs hst h2⟩
theorem Bor.rop {H:GH} {sz:Nat} {g g':GV} (h:Bor H g g'):Bor H (.rop sz g) (.rop sz g'):=fun w D Ω v hst hm=>by
 simp only [MV] at hm ⊢
 obtain ⟨h0,b,off,u,h1,h2,h3,h4,h5,h6⟩:=hm
 exact ⟨h0,b,off,u,h1,.inl h2,h3,h4,h5,h w D Ω u hst h6⟩
theorem allE_no {p:Exp→Bool} {e:Exp} {i:Nat} (h:i<e.args.length) (hb:allE p e.args[i]=false):allE p e=false:=by
 rw [allE_eq]
 have:e.args.all (allE p)=false:=by
  rw [List.all_eq_false]
  exact ⟨e.args[i],List.getElem_mem h,by simp [hb]⟩
 rw [this,Bool.and_false]
theorem allE_yes {p:Exp→Bool} {e:Exp} (h:∀a∈e.args,allE p a=true):allE p e=p e:=by
 rw [allE_eq,List.all_eq_true.2 h,Bool.and_true]
end Go.Gh
namespace Go.Gh
end Go.Gh
namespace Go.Gh
set_option linter.unusedSimpArgs false
set_option linter.unusedVariables false
set_option maxRecDepth 20000
theorem Bor.seen {α:Type} {f g:α→GV} {H:GH} {r sz n:Nat} {l:List α} (hv:∀a,view (f a)=g a) (hr:ZU H r=some (sz,l.map f)) (hl:l.length=n):Bor H (.own r sz 0 n) (.sl sz (l.map g)):=by
 have:=Bor.own (k:=0) (n:=n) hr (by simp [hl])
 rw [List.drop_zero,List.take_of_length_le (by simp [hl]),Zx,List.map_map] at this
 have e:l.map (view ∘ f)=l.map g:=List.map_congr_left fun a _ => hv a
 rwa [e] at this
section
variable {P:Program} {α:Type} {f:α→GV} {k kx sz:Nat} {ag:Bool}
end
theorem FR.perm {g:GV} {H L T:GH} (hs:subH H L):FR g (H++T) g (L++T):=by
 intro w D Ω v hv hst
 obtain ⟨Ω',h1,h2⟩:=St.sub hst hs
 exact ⟨D,Ω',hv,h1,⟨fun _ h=>h,fun _ _ h=> .inl h,fun b hb _ => h2 b hb,Kept.refl _ _,rfl,rfl,rfl⟩⟩
end Go.Gh
namespace Go.Gh
theorem FE.closeL {env:Env} {H:GH} {r r1 sz sz1 j n:Nat} {L gs ks:List GV} (hne:r≠r1) (hr:ZU H r=some (sz,L++[.agg gs])) (hg:gs[j]? = some (.own r1 sz1 0 n)) (hr1:ZU H r1=some (sz1,ks)) (hn:ks.length=n) :
 FE env H env (Zw (ZF H r (L++[.agg (gs.set j (.osl sz1 ks))])) r1):=by
 have:=FE.close (env:=env) (i:=L.length) hne hr (by simp) hg hr1 hn
 simpa using this
end Go.Gh
namespace Go.Gh
set_option linter.unusedSimpArgs false
set_option linter.unusedVariables false
section
variable {α:Type} (w:α→Nat) (m:α→Int→α)
end
section
variable {α:Type} {f:α→α}
end
theorem St.exchC {w:World} {D:Nat→Prop} {H:GH} {Ω:List Nat} (h:St w D H Ω) {r sz i:Nat} {es:List GV} {e e':GV} (hr:ZU H r=some (sz,es)) (he:es[i]? = some e) (hx:∀v F,MV w D e v F→∃v',v'.cells=v.cells∧MV w D e' v' F):St w D (ZF H r (es.set i e')) Ω:=by
 obtain ⟨Ω1,F',Ω2,hΩ,hR,hput,_⟩:=HM.take h.hm hr
 obtain ⟨b,c,T,fz,F0,k1,k2,k3,k4,k5,k6,k7⟩:=hR.es_ne (fun e=>by rw [e] at he;simp at he)
 obtain ⟨pre,v,post,A1,Ai,A2,m1,m2,m3,m4,m5,m6,m7⟩:=MF.split sz es _ F0 i _ k7 he
 obtain ⟨v',hc,hv'⟩:=hx _ _ m6
 have hmf:=m7 w D (fun _ => True) e' v' Ai (Kept.refl _ _) (fun _ _ => trivial) (fun _ h=>h) (fun _ _ => trivial) (by rw [hc];exact m3) (by unfold okc at m4 ⊢;rw [hc];exact m4) hv'
 rw [hc,←m1,←m5] at hmf
 have hRM:RM w D r sz (es.set i e') F':= .inl ⟨b,c,T,fz,F0,k1,k2,k3,by simpa using k4,by simpa using k5,k6,by simpa using hmf⟩
 have hfin:=hput w D (fun _ => True) _ _ (Kept.refl _ _) (fun _ _ => trivial) (fun _ h=>h) (fun _ _ => trivial) hRM
 rw [←hΩ] at hfin
 exact ⟨hfin,h.nd,by rw [Ze];exact h.nn,h.dj,h.ds⟩
theorem FE.exchC {env:Env} {H:GH} {r sz i:Nat} {es:List GV} {e e':GV} (hr:ZU H r=some (sz,es)) (he:es[i]? = some e) (hx:∀w D v F,MV w D e v F→∃v',v'.cells=v.cells∧MV w D e' v' F):FE env H env (ZF H r (es.set i e')):=by
 intro w0 D0 O0 N a w ⟨hdf,hsz,D,Ω,ρw,hi⟩
 exact ⟨hdf,hsz,D,Ω,ρw,hi.st' (hi.st.exchC hr he (hx w D)) (fun _ h=>h)⟩
theorem MV.unagg {w:World} {D:Nat→Prop} {g:GV}:∀v F,MV w D (.agg [g]) v F→∃v',v'.cells=v.cells∧MV w D g v' F:=fun v F h=>by
 simp only [MV] at h
 obtain ⟨vs,rfl,h1,h2⟩:=h
 simp only [ML] at h2
 obtain ⟨u,vs',F1,F2,rfl,rfl,h3,rfl,rfl⟩:=h2
 have ho:=h1 u (by simp)
 refine ⟨u,?_,by simpa using h3⟩
 cases u<;>first|rfl|(simp [Value.oneCell'] at ho)
theorem FE.unagg {env:Env} {H:GH} {r sz:Nat} {g:GV} (hr:ZU H r=some (sz,[.agg [g]])):FE env H env (ZF H r [g]):=
 FE.exchC (i:=0) hr rfl (fun _ _ => MV.unagg)
end Go.Gh
namespace Go.Gh
set_option linter.unusedSimpArgs false
set_option linter.unusedVariables false
theorem neN (r:Nat) (x:Nat×List GV) (H:GH):(names ((r,x)::H)).Nodup = (neA r H∧(names H).Nodup):=by
 apply propext
 constructor
 ·intro h
  have h2:=h
  simp only [names,List.map_cons,List.nodup_cons] at h2
  exact ⟨neA_of h2.1,h2.2⟩
 ·rintro ⟨h1,h2⟩
  simp only [names,List.map_cons,List.nodup_cons]
  refine ⟨?_,h2⟩
  clear h2
  induction H with
  | nil=>simp
  | cons y H ih=>
   obtain ⟨q,y⟩:=y
   simp only [Z3] at h1
   simp only [List.map_cons,List.mem_cons,not_or]
   exact ⟨h1.1,ih h1.2.2⟩
theorem FE.closeL2 {env:Env} {H:GH} {r r1 sz sz1 j n:Nat} {L gs ks:List GV} (hne:¬r=r1) (hg:gs[j]? = some (.own r1 sz1 0 n)) (hn:ks.length=n) :
 FE env ((r,sz,L++[.agg gs])::(r1,sz1,ks)::H) env ((r,sz,L++[.agg (gs.set j (.osl sz1 ks))])::H):=by
 have h:=FE.closeL (env:=env) (H:=(r,sz,L++[.agg gs])::(r1,sz1,ks)::H) (r:=r) (r1:=r1) hne ZW hg (by rw [hget_old hne,ZW]) hn
 rwa [hset_new,hdel_old hne,hdel_new] at h
theorem Bor.ptr {H:GH} {r sz:Nat} {g:GV} (hr:ZU H r=some (sz,[g])):Bor H (.ptr r sz 0 0) (.rop sz (view g)):=fun w D Ω v h hv=>by
 obtain ⟨F,hF,hFΩ⟩:=h.hm.mem hr
 simp only [MV] at hv ⊢
 obtain ⟨_,b,rfl,hb,rfl⟩:=hv
 rcases hF with ⟨b',c,T,fz,F',k1,k2,k3,k4,k5,k6,k7⟩|⟨k1,_,_⟩
 ·have:b'=b:=by omega
  subst this
  simp only [MF] at k7
  obtain ⟨u,cs',F1,F2,e1,e2,e3,rfl,e5,rfl,rfl⟩:=k7
  refine ⟨trivial,b',0,u,by simp,.inr (hFΩ _ (by simp [k6])),⟨c,T,fz,k2,fun j x hj=> ?_⟩,e3,e2,MV.view (fun _ => .inl) g u F1 (fun x hx=> .inr (hFΩ x (by simp [k6,hx]))) e5⟩
  have e1':c.toList.take (1 * sz)=u.cells.toList:=by simpa using e1
  have h2:(c.toList.take (1 * sz))[j]? = some x:=by rw [e1'];exact hj
  rw [List.getElem?_take] at h2
  split at h2
  ·simpa using h2
  ·cases h2
 ·omega
end Go.Gh
namespace Go.Gh
set_option linter.unusedSimpArgs false
set_option linter.unusedVariables false
def insK (g:Gram) (t:List Nod) (i:Nat):List (Int×ByteArray):=(Zt g.syms (Y5 g t i)).atts.map fun a=>((t.getD i nodZ).id,a.name)
def Zc (g:Gram) (t:List Nod):Nat→List (Int×ByteArray)
 | 0=>[]
 | n+1=>Zc g t n++insK g t n
def Zm (g:Gram) (t:List Nod):List (Int×ByteArray):=if Y9 g t (Y5 g t 0)=true then Zc g t t.length else []
theorem insA_len {g:Gram} (hg:Zj g) (t:List Nod):∀n,(Zc g t n).length ≤ n * 1048576
 | 0=>by simp [Zc]
 | n+1=>by
  have h1:=insA_len hg t n
  have h2:(Zt g.syms (Y5 g t n)).atts.length ≤ 1048576:=smSy_f hg _
  simp only [Zc,insK,List.length_append,List.length_map]
  omega
theorem treeOf_len {g:Gram} {t:List Nod} {s:ByteArray} (h:Y9 g t s=true):1≤t.length∧t.length≤16:=by
 simp only [Y9,Bool.and_eq_true,decide_eq_true_eq] at h
 exact h.1
theorem insL_len {g:Gram} (hg:Zj g) (t:List Nod):(Zm g t).length ≤ 16777216:=by
 unfold Zm
 split
 ·rename_i h
  have h1:=treeOf_len h
  have h2:=insA_len hg t t.length
  omega
 ·simp
theorem takeApp3 {α:Type} (f:α→GV) (p l:List α) (i:Nat) (h:i<l.length) (n:Nat) (hn:(p++l.take i).length = n):List.take n (List.map f (p++List.take i l))++[f l[i]]=List.map f (p++List.take (i+1) l):=by
 rw [List.take_of_length_le (by simp at hn ⊢;omega),List.take_add_one (i:=i) (l:=l),List.getElem?_eq_getElem h,List.map_append,List.map_append,List.map_append,List.append_assoc]
 rfl
theorem bor_Ins {H:GH} {r n:Nat} {l:List (Int×ByteArray)} (hr:ZU H r=some (2,l.map Ins)) (hn:l.length=n):Bor H (.own r 2 0 n) (InsS l):=Bor.allM (fun _ => rfl) hr hn
end Go.Gh
namespace Go.Gh
set_option linter.unusedSimpArgs false
set_option linter.unusedVariables false
end Go.Gh
namespace Go.Gh
set_option linter.unusedSimpArgs false
set_option linter.unusedVariables false
abbrev Oc:=Int×ByteArray
abbrev OcS (l:List Oc):GV:= .sl 2 (l.map Occ)
def ltN (a b:ByteArray):Bool:=Op.bytesLess (ZP a) (ZP b)
def ltO (a b:Oc):Bool:=decide (a.1<b.1)||(decide (a.1=b.1)&&ltN a.2 b.2)
end Go.Gh
namespace Go.Gh
open Go.ChangeShapes Go.WideShapes Go.ChangeAt Go.RowKit
set_option linter.unusedSimpArgs false
set_option linter.unusedVariables false
def tabH (T:GH):Prop:=(names T).Nodup ∧ ∀x∈T,x.1 % 4=3∧1000000≤x.2.1∧x.2.2=[]
def PureT (P:Program) (T:GH) (f:FuncId) (gs:List GV) (R:GV→Prop):Prop:=GCalls P f gs T (fun g _ => R g)
theorem hget_mem:∀{H:GH} {x:Nat×Nat×List GV},(names H).Nodup → x∈H→ZU H x.1=some x.2
 | [],_,_,h=>by cases h
 | (r,y)::H,x,hn,h=>by
  simp only [names,List.map_cons,List.nodup_cons] at hn
  simp only [ZU]
  rcases List.mem_cons.1 h with rfl|h
  ·simp
  ·have:r≠x.1:=fun e=>hn.1 (by rw [e];exact List.mem_map_of_mem h)
   rw [if_neg this]
   exact hget_mem hn.2 h
theorem HM.tabs {w:World} {D:Nat→Prop} {H:GH} {Ω:List Nat} (h:HM w D H Ω) (hn:(names H).Nodup):∀{T:GH},(∀x∈T,x.1 % 4=3∧1000000≤x.2.1∧x.2.2=[])→(∀x∈T,x∈H)→HM w D T []
 | [],_,_ => rfl
 | (r,sz,es)::T,hT,hs=>by
  obtain ⟨F,hF,_⟩:=h.mem (hget_mem hn (hs _ (List.mem_cons_self ..)))
  have ht:=hT _ (List.mem_cons_self ..)
  refine ⟨[],[],rfl,?_,HM.tabs h hn (fun x hx=>hT x (List.mem_cons_of_mem _ hx)) (fun x hx=>hs x (List.mem_cons_of_mem _ hx))⟩
  rcases hF with ⟨b,c,T,fz,F',k1,_⟩|hF
  ·have:=ht.1
   dsimp only at this k1
   omega
  ·exact .inr ⟨hF.1,ht.2.2,rfl⟩
theorem PureT.frame {P:Program} {T:GH} {f:FuncId} {gs:List GV} {R:GV→Prop} (h:PureT P T f gs R) (hT:tabH T) {H:GH} (hs:∀x∈T,x∈H):GCalls P f gs H (fun g H'=>R g∧H'=H):=by
 intro w D Ω args hst hargs
 have hs0:St w D T []:=⟨HM.tabs hst.hm hst.nn hT.2 hs,List.nodup_nil,hT.1,by simp,hst.ds⟩
 refine Yld.mono (fun v w' ⟨g,H',D',Ω',k1,k2,k3,k4⟩=> ?_) (h w D [] args hs0 hargs)
 have hk:Kept w w' (fun _ => True):=k4.kp.mono fun _ _ _ => by simp
 have hlt:∀b∈Ω,b<w.heap.size:=HM.flt hst.hm
 refine ⟨g,H,D',Ω,⟨k1,rfl⟩,k2,⟨HM.keep hk (fun _ _ => trivial) k4.d0 (fun _ _ => trivial) hst.hm,hst.nd,hst.nn,fun b hb hD=> ?_,k3.ds⟩,
  ⟨k4.d0,fun b hb hD=> .inl ((k4.dn b hb hD).resolve_right (by simp)),fun _ h _ => h,hk.mono fun _ _ _ => trivial,k4.os,k4.tape,k4.output⟩⟩
 rcases k4.dn b (hlt b hb) hD with h1|h1
 ·exact hst.dj b hb h1
 ·simp at h1
theorem PureT.bor {P:Program} {T:GH} {f:FuncId} {gs:List GV} {G:GV} (h:GCalls P f gs T (fun g H=>Bor H g G)):PureT P T f gs (· = G):=
 h.fr fun _ _ hb=>⟨G,[],FR.all hb,rfl⟩
theorem PureT.of {P:Program} {T:GH} {f:FuncId} {gs:List GV} {R:GV→Prop} (h:Pure P f gs R):PureT P T f gs R:=(h.frame T).mono fun _ _ h=>h.1
theorem callS.eqT {P:Program} {K:Env→GH→Prop} {is:List GI} {env:Env} {H T:GH} {d:Option Nat} {det:Bool} {f:FuncId} {gs:List GV} {G:GV} (h:PureT P T f gs (· = G)) (hT:tabH T) (hs:∀x∈T,x∈H) (hk:Z4 P is K (gput env d G) H):callS P det f (some gs) d is K env H:=by
 unfold callS
 cases det
 ·exact ⟨fun g H'=>g=G∧H'=H,h.frame hT hs,fun g H' ⟨e1,e2⟩ _ => by subst e1;subst e2;exact hk⟩
 ·exact ⟨G,h.frame hT hs,hk⟩
theorem PureT.out {P:Program} {T:GH} {f:FuncId} {F:GFun} {gs:List GV} {R:GV→Prop} (h:PureT P T f gs R) (hF:IsFun P f F) {W:World} {args:List Value} (hargs:ML W (below W) gs args []) (hT:HM W (below W) T []) (hn:(names T).Nodup) :
 Calls P f args.toArray W fun e W'=>∃v g D,e = .returned v∧R g∧MV W' D g v []∧Below W.heap.size W W':=by
 have:=h W (below W) [] args ⟨hT,List.nodup_nil,hn,by simp,fun _ h=>h⟩ hargs
 rw [callFunc_run hF] at this
 refine Calls.mono this fun e W' ⟨v,h1,g,H',D',Ω',k1,k2,k3,k4⟩=>⟨v,g,D',h1,k1,k2,?_⟩
 exact ⟨k4.os,k4.tape,k4.output,k4.kp.size,fun k hk=>k4.kp.block k hk (by simp)⟩
def tab10 (n:Nat):GH:=[(4 * n+3,1000000,[])]
theorem tabH_10 (n:Nat):tabH (tab10 n):=⟨by simp [tab10,names],fun x hx=>by
 simp only [tab10,List.mem_singleton] at hx
 subst hx
 exact ⟨by dsimp only;omega,by dsimp only;omega,rfl⟩⟩
open Lib in
theorem HM.tab10 {P:Program} {W:World} {n:Nat} {s:String} (hg:P.globalNamed s=some n) (h:TabIs P W s .u64 pow10Tab):HM W (below W) (tab10 n) []:=by
 simp only [TabIs,World.var?,hg,Option.bind_some] at h
 refine ⟨[],[],rfl,.inr ⟨⟨by omega,fun _ _ => ?_⟩,rfl,rfl⟩,rfl⟩
 have e:(4 * n+3) / 4=n:=by omega
 unfold TB
 rw [e]
 split at h
 case h_2=>cases h
 rename_i c T fz hb
 simp only [Option.some.injEq] at h
 refine ⟨Zi hb,c,T,fz,hb,?_⟩
 rw [h]
 simp only [tabP,if_true,pow10Tab,List.map_map]
 rfl
open Lib in
theorem HM.is10 {P:Program} {w:World} {D:Nat→Prop} {n:Nat} {s:String} {H:GH} {Ω:List Nat} (hg:P.globalNamed s=some n) (h:HM w D H Ω) (hn:(names H).Nodup) (hm:(4 * n+3,1000000,[])∈H):TabIs P w s .u64 pow10Tab:=by
 obtain ⟨F,hF,_⟩:=h.mem (hget_mem hn hm)
 have e:(4 * n+3) / 4=n:=by omega
 rcases hF with ⟨b,c,T,fz,F',k1,_⟩|hF
 ·dsimp only at k1;omega
 ·obtain ⟨_,c,T,fz,h1,h2⟩:=hF.1.2 (by dsimp only;omega) (Nat.le_refl _)
  dsimp only at h1
  rw [e] at h1
  simp only [TabIs,World.var?,hg,Option.bind_some,h1]
  simp only [tabP,if_true] at h2
  rw [h2]
  simp only [pow10Tab,List.map_map]
  rfl
open Lib Go.Sort in
theorem itoa_ok {P:Program} {f g:Nat} {s:String} (hg:P.globalNamed s=some g) {args:Int→Array Value} {n:Int} {gs:List GV} (hgs:∀w D vs,ML w D gs vs []→vs.toArray=args n)
 (hc:∀w:World,TabIs P w s .u64 pow10Tab→Calls P f (args n) w fun e w'=>e = .returned (.string ⟨(itoa n).toArray⟩)∧∃k os,w'=grow (w.drewN k) os)
 (eg:∀args w,(callFunc f args).run P w = .ok (.enter f args) w):PureT P (tab10 g) f gs (· = .val (mkS (itoa n))):=by
 intro w D Ω vs hst hargs
 rw [eg,hgs _ _ _ hargs]
 show Calls P f _ w _
 refine (hc w (HM.is10 hg hst.hm hst.nn (by simp [tab10]))).mono ?_
 rintro e w' ⟨rfl,k,os,rfl⟩
 have hk:Kept w (grow (w.drewN k) os) (fun _ => True):=by
  refine ⟨fun b hb _ => ?_,?_,fun b c T fz hx=>⟨c,fz,?_,rfl⟩⟩
  ·show (w.heap++os)[b]? = _
   rw [Array.getElem?_append_left hb]
  ·show _ ≤ (w.heap++os).size
   rw [Array.size_append];omega
  ·show (w.heap++os)[b]? = _
   rw [Array.getElem?_append_left (Zi hx)];exact hx
 refine ⟨_,rfl,_,tab10 g,D,Ω,rfl,MV.val_mk _,⟨HM.keep hk (fun _ _ => trivial) (fun _ h=>h) (fun _ _ => trivial) hst.hm,hst.nd,hst.nn,hst.dj,fun b hb=>Nat.lt_of_lt_of_le (hst.ds b hb) hk.size⟩,
  ⟨fun _ h=>h,fun _ _ h=> .inl h,fun _ h _ => h,hk.mono fun _ _ _ => trivial,rfl,rfl,rfl⟩⟩
end Go.Gh
namespace Go.Gh
open Lib
set_option linter.unusedSimpArgs false
set_option linter.unusedVariables false
def dgs (u:Nat):List UInt8:=if u=0 then [] else decDigits u
theorem dgs_step {u:Nat} (h:u≠0) (out:List UInt8):dgs u++out=dgs (u / 10)++(UInt8.ofNat (48+u % 10)::out):=by
 unfold dgs
 rw [if_neg h]
 by_cases h1:u<10
 ·rw [decDigits_one h1,if_pos (by omega),Nat.mod_eq_of_lt h1]
  rfl
 ·rw [decDigits,dif_neg h1,if_neg (by omega)]
  simp
theorem itoa_dgs {n:Int} (h:n≠0):itoa n=if n<0 then 45::dgs n.natAbs else dgs n.natAbs:=by
 unfold itoa dgs
 have e:n.natAbs≠0:=by omega
 rw [if_neg e]
 by_cases h1:n<0
 ·rw [if_pos h1,if_pos h1]
 ·rw [if_neg h1,if_neg h1]
  congr 1
  omega
theorem itoa_0:itoa 0=[48]:=by
 unfold itoa
 rw [if_neg (by omega)]
 exact decDigits_one (by decide)
theorem nDigits_le:∀(k u:Nat),u<10 ^ (k+1)→nDigits u≤k+1
 | 0,u,h=>by rw [nDigits_small (by simpa using h)];omega
 | k+1,u,h=>by
  rw [nDigits]
  split
  ·omega
  ·have:=nDigits_le k (u / 10) (by rw [Nat.pow_succ] at h;omega)
   omega
theorem dgs_len {u:Nat} (h:u≤9223372036854775808):(dgs u).length ≤ 19:=by
 unfold dgs
 split
 ·simp
 ·rw [decDigits_length]
  exact nDigits_le 18 u (by omega)
theorem itoa_len {n:Int} (h0 : -9223372036854775808≤n) (h1:n≤9223372036854775807):(itoa n).length ≤ 20:=by
 by_cases h:n=0
 ·subst h;rw [itoa_0];simp
 ·rw [itoa_dgs h]
  have:=dgs_len (u:=n.natAbs) (by omega)
  split<;>simp<;>omega
theorem tmod10 (n:Int):(if n.tmod 10<0 then 0-n.tmod 10 else n.tmod 10)=((n.natAbs % 10:Nat):Int):=by
 have h:(n.tmod 10).natAbs = n.natAbs % 10:=by rw [Int.natAbs_tmod];rfl
 split<;>omega
theorem tdiv10 (n:Int):(n.tdiv 10).natAbs = n.natAbs / 10:=by rw [Int.natAbs_tdiv];rfl
theorem digB:∀d,d<10→UInt8.ofNat (IntKind.u8.wrap (48+((d:Nat):Int))).toNat = UInt8.ofNat (48+d):=by decide
theorem mod_lt10 (u:Nat):u % 10<10:=Nat.mod_lt _ (by decide)
end Go.Gh
namespace Go.Gh
set_option linter.unusedSimpArgs false
set_option linter.unusedVariables false
theorem St.frz {w:World} {D:Nat→Prop} {H:GH} {Ω:List Nat} (h:St w D H Ω) {r sz:Nat} {es:List GV} (hr:ZU H r=some (sz,es)) :
 ∃D' Ω',St w D' (ZF H r (Zs es)) Ω'∧(∀b,D b→D' b)∧(∀b,D' b→D b∨b∈Ω)∧∀b∈Ω',b∈Ω:=by
 obtain ⟨Ω1,F,Ω2,hΩ,hR,hput,_⟩:=HM.take h.hm hr
 rcases hR with ⟨b,c,T,fz,F',k1,k2,k3,k4,k5,k6,k7⟩|⟨k1,k2,k3⟩
 ·subst k6
  have hnd:=h.nd
  rw [hΩ] at hnd
  have hRM:RM w (fun x=>D x∨x∈F') r sz (Zs es) [b]:=
   .inl ⟨b,c,T,fz,[],k1,k2,k3,by simpa [Zx] using k4,by simpa [Zx] using k5,rfl,by
    have:=MF.view (D':=fun x=>D x∨x∈F') (fun _ => .inl) sz es _ F' (fun x hx=> .inr hx) k7
    simpa [Zx] using this⟩
  have hfin:=hput w (fun x=>D x∨x∈F') (fun _ => True) _ _ (Kept.refl _ _) (fun _ _ => trivial) (fun _ => .inl) (fun _ _ => trivial) hRM
  have hsub:(Ω1++([b]++Ω2)).Sublist (Ω1++((b::F')++Ω2)):=by
   refine List.Sublist.append (List.Sublist.refl _) (List.Sublist.append ?_ (List.Sublist.refl _))
   simp
  refine ⟨fun x=>D x∨x∈F',_,⟨hfin,hnd.sublist hsub,by rw [Ze];exact h.nn,?_,?_⟩,fun _ => .inl,?_,fun x hx=>by rw [hΩ];exact hsub.subset hx⟩
  ·intro x hx hD
   rcases hD with hD|hD
   ·exact h.dj x (by rw [hΩ];exact hsub.subset hx) hD
   ·have hc:=List.nodup_iff_count.1 hnd x
    have h1:=List.count_pos_iff.2 hx
    have h2:=List.count_pos_iff.2 hD
    simp only [List.count_append,List.count_cons,List.count_nil] at hc h1
    omega
  ·intro x hD
   rcases hD with hD|hD
   ·exact h.ds x hD
   ·exact HM.flt h.hm x (by rw [hΩ];simp [hD])
  ·intro x hD
   rcases hD with hD|hD
   ·exact .inl hD
   ·exact .inr (by rw [hΩ];simp [hD])
 ·subst k2 k3
  have hfin:=hput w D (fun _ => True) [] [] (Kept.refl _ _) (fun _ _ => trivial) (fun _ h=>h) (fun _ _ => trivial) (.inr ⟨k1,rfl,rfl⟩)
  refine ⟨D,Ω,⟨?_,h.nd,by rw [Ze];exact h.nn,h.dj,h.ds⟩,fun _ h=>h,fun _ => .inl,fun _ h=>h⟩
  rw [hΩ];exact hfin
theorem FE.frz {env:Env} {H:GH} {r sz:Nat} {es:List GV} (hr:ZU H r=some (sz,es)):FE env H env (ZF H r (Zs es)):=by
 intro w0 D0 O0 N a w ⟨hdf,hsz,D,Ω,ρw,hi⟩
 obtain ⟨D',Ω',h1,h2,h3,h4⟩:=hi.st.frz hr
 refine ⟨hdf,hsz,D',Ω',ρw,fun i g hg hn=> ?_,hi.rw,hi.ri,fun i b hb=> ?_,h1,hi.ev.trans ⟨h2,fun b _ hD=>h3 b hD,fun b hb _ => h4 b hb,Kept.refl _ _,rfl,rfl,rfl⟩⟩
 ·obtain ⟨v,m1,m2⟩:=hi.em i g hg hn
  exact ⟨v,m1,m2.more h2⟩
 ·obtain ⟨r1,r2,r3,r4⟩:=hi.rd i b hb
  exact ⟨fun hD=>(h3 b hD).elim r1 r2,fun h=>r2 (h4 b h),r3,r4⟩
theorem FE.frzV {env:Env} {H:GH} {r sz:Nat} {es es':List GV} (hv:Zs es=es'):FE env ((r,sz,es)::H) env ((r,sz,es')::H):=by
 subst hv
 have:=FE.frz (env:=env) (H:=(r,sz,es)::H) (r:=r) (sz:=sz) (es:=es) (by simp [ZU])
 simpa [ZF] using this
theorem MV.nil_sl {w:World} {D:Nat→Prop} {sz:Nat}:∀v F,MV w D (.val (.slice none 0 0)) v F→MV w D (.sl sz []) v F:=fun v F h=>by
 simp only [MV] at h ⊢
 exact ⟨h.2,.inl ⟨trivial,_,_,h.1⟩⟩
theorem FR.front {g g':GV} {L H:GH} (hb:Bor L g g'):FR g (L++H) g' H:=by
 intro w D Ω v hv hst
 obtain ⟨Ω1,Ω2,rfl,h1,h2⟩:=HM.parted hst.hm
 have hnd:=List.nodup_append.1 hst.nd
 have hnn:=hst.nn
 simp only [names,List.map_append] at hnn
 have hnn':=List.nodup_append.1 hnn
 have hs1:St w D L Ω1:=⟨h1,hnd.1,hnn'.1,fun b hb=>hst.dj b (by simp [hb]),hst.ds⟩
 refine ⟨fun b=>D b∨b∈Ω1,Ω2,hb w D Ω1 v hs1 hv,⟨HM.keep (S:=fun _ => True) (Kept.refl _ _) (fun _ _ => trivial) (fun _ => .inl) (fun _ _ => trivial) h2,hnd.2.1,hnn'.2.1,fun b hb hD=> ?_,fun b hD=> ?_⟩,
  ⟨fun _ => .inl,fun b _ hD=>hD.elim .inl fun h=> .inr (by simp [h]),fun b hb _ => by simp [hb],Kept.refl _ _,rfl,rfl,rfl⟩⟩
 ·rcases hD with hD|hD
  ·exact hst.dj b (by simp [hb]) hD
  ·exact hnd.2.2 b hD b hb rfl
 ·rcases hD with hD|hD
  ·exact hst.ds b hD
  ·exact HM.flt hst.hm b (by simp [hD])
abbrev Bs (bs:List UInt8):GV:= .sl 1 (bs.map fun b=> .val (.int .u8 b.toNat))
abbrev Cu (bs:List UInt8) (i h:Int):GV:= .agg [Bs bs,I i,I h]
def isC (e:GV):Prop:=∃bs i h,e=Cu bs i h∧0≤i∧i≤bs.length∧bs.length≤9223372036854775807
theorem MF.u8 {w:World} {D:Nat→Prop}:∀(bs:List UInt8),MF w D 1 (bs.map fun b=>GV.val (.int .u8 b.toNat)) (bs.map fun b=>Value.int .u8 b.toNat) []
 | []=>by simp [MF]
 | b::bs=>by
  simp only [List.map_cons,MF]
  exact ⟨.int .u8 b.toNat,_,[],[],rfl,rfl,by intro x hx;simp [Value.cells] at hx;subst hx;rfl,rfl,by simp [MV],MF.u8 bs⟩
theorem MF.u8' {w:World} {D:Nat→Prop}:∀(bs:List UInt8) (cs:List Value) (F:List Nat),MF w D 1 (bs.map fun b=>GV.val (.int .u8 b.toNat)) cs F→cs=bs.map fun b=>Value.int .u8 b.toNat
 | [],cs,F,h=>by simp only [List.map_nil,MF] at h;exact h.1
 | b::bs,cs,F,h=>by
  simp only [List.map_cons,MF] at h
  obtain ⟨v,cs',F1,F2,rfl,_,_,_,h1,h2⟩:=h
  simp only [MV] at h1
  rw [h1.1,MF.u8' bs cs' F2 h2]
  rfl
theorem MV.cur {w : World} {D : Nat → Prop} {v : Value} {F : List Nat} (h : MV w D .cur v F) : ∃ e, isC e ∧ MV w D e v F := by
  simp only [MV] at h
  obtain ⟨rfl, bs, i, n, sv, rfl, h1, h2, h3⟩ := h
  refine ⟨Cu bs i n, ⟨bs, i, n, rfl, h1, h2, by rcases h3 with ⟨rfl, _⟩ | ⟨_, _, _, _, _, h, _⟩
                                                · simp
                                                · exact h⟩, ?_⟩
  simp only [MV]
  refine ⟨[sv, .int .i64 i, .int .i64 n], rfl, ?_, ?_⟩
  · have : sv.oneCell' = true := by
      rcases h3 with ⟨_, a, cap, rfl⟩ | ⟨b, off, cap, rfl, _⟩ <;> rfl
    simp [this]
    exact ⟨rfl, rfl⟩
  · simp only [ML]
    refine ⟨sv, _, [], [], rfl, rfl, ?_, _, _, [], [], rfl, rfl, by simp [MV], _, _, [], [], rfl, rfl, by simp [MV], rfl, rfl⟩
    simp only [MV]
    refine ⟨trivial, ?_⟩
    rcases h3 with ⟨rfl, h3⟩ | ⟨b, off, cap, k1, k2, k3, k4, k5⟩
    · exact .inl ⟨rfl, h3⟩
    · exact .inr ⟨b, off, cap, _, by simpa using k1, by simpa using k2, by simpa using k3, k4, k5, MF.u8 bs⟩
theorem MV.uncur {w:World} {D:Nat→Prop} {e:GV} (he:isC e) {v:Value} {F:List Nat} (h:MV w D e v F):MV w D .cur v F:=by
 obtain ⟨bs,i,n,rfl,h1,h2,_⟩:=he
 simp only [MV,ML] at h
 obtain ⟨vs,rfl,_,v1,vs1,F1,F2,rfl,rfl,hs,v2,vs2,F3,F4,rfl,rfl,hi,v3,vs3,F5,F6,rfl,rfl,hn,rfl,rfl⟩:=h
 obtain ⟨rfl,rfl⟩:=hi
 obtain ⟨rfl,rfl⟩:=hn
 obtain ⟨rfl,hs⟩:=hs
 simp only [MV]
 refine ⟨rfl,bs,i,n,v1,rfl,h1,h2,?_⟩
 rcases hs with ⟨k1,k2⟩|⟨b,off,cap,cs,k1,k2,k3,k4,k5,k6⟩
 ·exact .inl ⟨by simpa using k1,k2⟩
 ·have:=MF.u8' bs cs [] k6
  subst this
  exact .inr ⟨b,off,cap,by simpa using k1,by simpa using k2,by simpa using k3,k4,k5⟩
theorem St.exch1 {w:World} {D:Nat→Prop} {H:GH} {Ω:List Nat} (h:St w D H Ω) {r sz i:Nat} {es:List GV} {e:GV} {p:GV→Prop} (hr:ZU H r=some (sz,es)) (he:es[i]? = some e) (hx:∀v F,MV w D e v F→∃e',p e'∧MV w D e' v F) :
 ∃e',p e'∧St w D (ZF H r (es.set i e')) Ω:=by
 obtain ⟨Ω1,F',Ω2,hΩ,hR,hput,_⟩:=HM.take h.hm hr
 obtain ⟨b,c,T,fz,F0,k1,k2,k3,k4,k5,k6,k7⟩:=hR.es_ne (fun e=>by rw [e] at he;simp at he)
 obtain ⟨pre,v,post,A1,Ai,A2,m1,m2,m3,m4,m5,m6,m7⟩:=MF.split sz es _ F0 i _ k7 he
 obtain ⟨e',hp,hx⟩:=hx _ _ m6
 have hmf:=m7 w D (fun _ => True) e' v Ai (Kept.refl _ _) (fun _ _ => trivial) (fun _ h=>h) (fun _ _ => trivial) m3 m4 hx
 rw [←m1,←m5] at hmf
 have hRM:RM w D r sz (es.set i e') F':= .inl ⟨b,c,T,fz,F0,k1,k2,k3,by simpa using k4,by simpa using k5,k6,by simpa using hmf⟩
 have hfin:=hput w D (fun _ => True) _ _ (Kept.refl _ _) (fun _ _ => trivial) (fun _ h=>h) (fun _ _ => trivial) hRM
 rw [←hΩ] at hfin
 exact ⟨e',hp,hfin,h.nd,by rw [Ze];exact h.nn,h.dj,h.ds⟩
theorem GCalls.open {P:Program} {f:FuncId} {gs:List GV} {rc:Nat} {H:GH} {R:GV→GH→Prop} (h:∀e,isC e→GCalls P f gs ((rc,3,[e])::H) R):GCalls P f gs ((rc,3,[.cur])::H) R:=by
 intro w D Ω args hst hargs
 obtain ⟨e',h1,h2⟩:=hst.exch1 (r:=rc) (i:=0) (sz:=3) (es:=[.cur]) (p:=isC) (by simp [ZU]) rfl fun v F h=>h.cur
 have e:ZF ((rc,3,[GV.cur])::H) rc ([GV.cur].set 0 e')=(rc,3,[e'])::H:=by simp [ZF]
 rw [e] at h2
 exact h e' h1 w D Ω args h2 hargs
theorem FE.uncur {env:Env} {rc:Nat} {e:GV} {H:GH} (he:isC e):FE env ((rc,3,[e])::H) env ((rc,3,[.cur])::H):=by
 have:=FE.exch (env:=env) (H:=(rc,3,[e])::H) (r:=rc) (i:=0) (e:=e) (e':= .cur) (sz:=3) (es:=[e]) (by simp [ZU]) rfl fun w D v F h=>h.uncur he
 simpa [ZF] using this
theorem FR.uncur {g:GV} {rc:Nat} {e:GV} {H:GH} (he:isC e):FR g ((rc,3,[e])::H) g ((rc,3,[.cur])::H):=by
 intro w D Ω v hv hst
 have h2:=hst.exch (r:=rc) (i:=0) (e:=e) (e':= .cur) (sz:=3) (es:=[e]) (by simp [ZU]) rfl fun v F h=>h.uncur he
 have e:ZF ((rc,3,[e])::H) rc ([e].set 0 GV.cur)=(rc,3,[.cur])::H:=by simp [ZF]
 rw [e] at h2
 exact ⟨D,Ω,hv,h2,Ev.refl _ _ _⟩
theorem hget_split {r:Nat} {x:Nat×List GV}:∀{H:GH},ZU H r=some x→∃A B,H=A++(r,x)::B∧r∉names A
 | [],h=>by simp [ZU] at h
 | (q,y)::H,h=>by
  simp only [ZU] at h
  split at h
  ·rename_i e
   subst e
   simp only [Option.some.injEq] at h
   subst h
   exact ⟨[],H,rfl,by simp [names]⟩
  ·rename_i hne
   obtain ⟨A,B,h1,h2⟩:=hget_split h
   exact ⟨(q,y)::A,B,by rw [h1];rfl,by simp only [names,List.map_cons,List.mem_cons,not_or];exact ⟨fun e=>hne e.symm,h2⟩⟩
theorem count_mid {x:Nat} (a b c:List Nat):(a++(b++c)).count x=(b++(a++c)).count x:=by
 simp only [List.count_append];omega
theorem St.mid {w:World} {D:Nat→Prop} {A B:GH} {y:Nat×Nat×List GV} {Ω:List Nat} (h:St w D (A++y::B) Ω):∃Ω',St w D (y::(A++B)) Ω'∧(∀x,x∈Ω'↔x∈Ω):=by
 obtain ⟨Ω1,Ω2,rfl,h1,h2⟩:=HM.parted h.hm
 obtain ⟨r,sz,es⟩:=y
 obtain ⟨F1,F2,rfl,h3,h4⟩:=h2
 refine ⟨F1++(Ω1++F2),⟨⟨F1,_,rfl,h3,HM.append h1 h4⟩,?_,?_,?_,h.ds⟩,fun x=>by simp only [List.mem_append];exact or_left_comm⟩
 ·have:=h.nd
  rw [List.nodup_iff_count] at this ⊢
  intro x;rw [←count_mid];exact this x
 ·have:=h.nn
  simp only [names,List.map_append,List.map_cons] at this ⊢
  rw [List.nodup_iff_count] at this ⊢
  intro x
  have:=this x
  simp only [List.count_append,List.count_cons] at this ⊢
  omega
 ·intro x hx
  exact h.dj x (by simp only [List.mem_append] at hx ⊢;exact or_left_comm.1 hx)
theorem St.mid' {w:World} {D:Nat→Prop} {A B:GH} {y:Nat×Nat×List GV} {Ω:List Nat} (h:St w D (y::(A++B)) Ω):∃Ω',St w D (A++y::B) Ω'∧(∀x,x∈Ω'↔x∈Ω):=by
 obtain ⟨r,sz,es⟩:=y
 obtain ⟨F1,F2,rfl,h3,h4⟩:=h.hm
 obtain ⟨Ω1,Ω2,rfl,h1,h2⟩:=HM.parted h4
 refine ⟨Ω1++(F1++Ω2),⟨HM.append h1 ⟨F1,_,rfl,h3,h2⟩,?_,?_,?_,h.ds⟩,fun x=>by simp only [List.mem_append];exact or_left_comm⟩
 ·have:=h.nd
  rw [List.nodup_iff_count] at this ⊢
  intro x;rw [count_mid];exact this x
 ·have:=h.nn
  simp only [names,List.map_append,List.map_cons] at this ⊢
  rw [List.nodup_iff_count] at this ⊢
  intro x
  have:=this x
  simp only [List.count_append,List.count_cons] at this ⊢
  omega
 ·intro x hx
  exact h.dj x (by simp only [List.mem_append] at hx ⊢;exact or_left_comm.1 hx)
def Dc (P:Program) (f:FuncId) (gs:List GV) (R:GV→GH→Prop):Prop:=
 ∀rc H,GCalls P f (.ptr rc 3 0 0::gs) ((rc,3,[.cur])::H) (fun g H'=>∃H1,R g H1∧H'=H1++(rc,3,[.cur])::H)
abbrev Dv (P:Program) (f:FuncId) (gs:List GV) (R:GV→Prop):Prop:=Dc P f gs (fun g H1=>R g∧H1=[])
theorem Dc.mono {P:Program} {f:FuncId} {gs:List GV} {R R':GV→GH→Prop} (h:Dc P f gs R) (hr:∀g H1,R g H1→R' g H1):Dc P f gs R':=
 fun rc H=>(h rc H).mono fun g H' ⟨H1,h1,h2⟩=>⟨H1,hr g H1 h1,h2⟩
theorem Dc.of {P:Program} {f:FuncId} {gs:List GV} {R:GV→GH→Prop}
 (h:∀rc H,GCalls P f (.ptr rc 3 0 0::gs) ((rc,3,[.cur])::H) (fun g H'=>∃G H1 T L,R G H1∧Bor L g G∧H'=T++H∧subH T (L++(H1++[(rc,3,[.cur])])))):Dc P f gs R:=
 fun rc H=>(h rc H).fr fun g H' ⟨G,H1,T,L,h1,h2,h3,h4⟩=>by
  subst h3
  refine ⟨G,H1++(rc,3,[.cur])::H,FR.trans (FR.perm h4) ?_,H1,h1,rfl⟩
  rw [List.append_assoc,List.append_assoc]
  exact FR.front h2
theorem Dv.of {P:Program} {f:FuncId} {gs:List GV} {R:GV→Prop}
 (h:∀rc H,GCalls P f (.ptr rc 3 0 0::gs) ((rc,3,[.cur])::H) (fun g H'=>∃G T L,R G∧Bor L g G∧H'=T++H∧subH T (L++[(rc,3,[.cur])]))):Dv P f gs R:=
 Dc.of fun rc H=>(h rc H).mono fun g H' ⟨G,T,L,h1,h2,h3,h4⟩=>⟨G,[],T,L,⟨h1,rfl⟩,h2,h3,h4⟩
theorem Dv.of0 {P:Program} {f:FuncId} {gs:List GV} {R:GV→Prop}
 (h:∀rc H,GCalls P f (.ptr rc 3 0 0::gs) ((rc,3,[.cur])::H) (fun g H'=>R g∧H'=(rc,3,[.cur])::H)):Dv P f gs R:=
 fun rc H=>(h rc H).mono fun g H' ⟨h1,h2⟩=>⟨[],⟨h1,rfl⟩,h2⟩
theorem Dc.at {P:Program} {f:FuncId} {gs:List GV} {R:GV→GH→Prop} (h:Dc P f gs R) {rc:Nat} {H:GH} (hr:ZU H rc=some (3,[.cur])) :
 GCalls P f (.ptr rc 3 0 0::gs) H (fun g H'=>∃H1,R g H1∧H'=H1++H):=by
 obtain ⟨A,B,rfl,hn⟩:=hget_split hr
 intro w D Ω args hst hargs
 obtain ⟨Ω',h1,h2⟩:=hst.mid
 refine Yld.mono (fun v w' ⟨g,H',D',Ω'',⟨H1,k0,k1⟩,k2,k3,k4⟩=> ?_) (h rc (A++B) w D Ω' args h1 hargs)
 subst k1
 have k3':St w' D' ((H1++[(rc,3,[.cur])])++(A++B)) Ω'':=by simpa using k3
 obtain ⟨Ω3,m1,m2⟩:∃Ω3,St w' D' (H1++(A++(rc,3,[.cur])::B)) Ω3∧∀x,x∈Ω3↔x∈Ω'':=by
  obtain ⟨Ωa,q1,q2⟩:=(show St w' D' (H1++(rc,3,[GV.cur])::(A++B)) Ω'' from k3).mid
  rw [←List.append_assoc] at q1
  obtain ⟨Ωb,q3,q4⟩:=q1.mid'
  rw [List.append_assoc] at q3
  exact ⟨Ωb,q3,fun x=>(q4 x).trans (q2 x)⟩
 exact ⟨g,_,D',Ω3,⟨H1,k0,rfl⟩,k2,m1,
  ⟨k4.d0,fun b hb hD=>(k4.dn b hb hD).imp id (h2 b).1,fun b hb hl=>(h2 b).1 (k4.on b ((m2 b).1 hb) hl),k4.kp.mono fun b _ hb hb'=>hb ((h2 b).1 hb'),k4.os,k4.tape,k4.output⟩⟩
theorem callS.dc {P:Program} {f:FuncId} {gs:List GV} {R:GV→GH→Prop} {K:Env→GH→Prop} {is:List GI} {env:Env} {H:GH} {d:Option Nat} {rc:Nat} (h:Dc P f gs R) (hr:ZU H rc=some (3,[.cur]))
 (hk:∀g H1,R g H1→(names (H1++H)).Nodup → Z4 P is K (gput env d g) (H1++H)):callS P false f (some (.ptr rc 3 0 0::gs)) d is K env H:=
 callS.of (h.at hr) fun g H' ⟨H1,h1,h2⟩ hn=>by subst h2;exact hk g H1 h1 hn
theorem callS.dv {P:Program} {f:FuncId} {gs:List GV} {R:GV→Prop} {K:Env→GH→Prop} {is:List GI} {env:Env} {H:GH} {d:Option Nat} {rc:Nat} (h:Dv P f gs R) (hr:ZU H rc=some (3,[.cur]))
 (hk:∀g,R g→Z4 P is K (gput env d g) H):callS P false f (some (.ptr rc 3 0 0::gs)) d is K env H:=
 callS.dc h hr fun g H1 ⟨h1,h2⟩ _ => by subst h2;exact hk g h1
theorem callA.dc {P:Program} {f:FuncId} {gs:List GV} {R:GV→GH→Prop} {K:Env→GH→Prop} {is:List GI} {env:Env} {H:GH} {d:Option Nat} {rc:Nat} (h:Dc P f gs R) (hr:ZU H rc=some (3,[.cur]))
 (hk:∀g H1,R g H1→(names (H1++H)).Nodup → Z4 P is K (gput env d g) (H1++H)):callA P f (some (.ptr rc 3 0 0::gs)) d is K env H:=
 ⟨R,h.at hr,hk⟩
theorem callA.dv {P:Program} {f:FuncId} {gs:List GV} {R:GV→Prop} {K:Env→GH→Prop} {is:List GI} {env:Env} {H:GH} {d:Option Nat} {rc:Nat} (h:Dv P f gs R) (hr:ZU H rc=some (3,[.cur]))
 (hk:∀g,R g→Z4 P is K (gput env d g) H):callA P f (some (.ptr rc 3 0 0::gs)) d is K env H:=
 callA.dc h hr fun g H1 ⟨h1,h2⟩ _ => by subst h2;exact hk g h1
end Go.Gh
namespace Go.Gh
set_option linter.unusedSimpArgs false
set_option linter.unusedVariables false
theorem andI_le {a:Int} {m:Nat} (hm:m<2 ^ 62):0≤andI .i64 a m∧andI .i64 a m≤m:=by
 have h1:(BitVec.ofInt 64 a &&& BitVec.ofInt 64 (m:Int)).toNat ≤ m:=by
  rw [BitVec.toNat_and]
  refine Nat.le_trans Nat.and_le_right ?_
  rw [BitVec.toNat_ofInt]
  omega
 have h2:andI .i64 a m=(IntKind.i64).wrap (BitVec.ofInt 64 a &&& BitVec.ofInt 64 (m:Int)).toNat := rfl
 have h3:(IntKind.i64).wrap ((BitVec.ofInt 64 a &&& BitVec.ofInt 64 (m:Int)).toNat : Int)=(BitVec.ofInt 64 a &&& BitVec.ofInt 64 (m:Int)).toNat := by
  have:(((BitVec.ofInt 64 a &&& BitVec.ofInt 64 (m:Int)).toNat : Int))<4611686018427387904:=by
   have:(2:Nat) ^ 62=4611686018427387904:=by decide
   omega
  generalize ((BitVec.ofInt 64 a &&& BitVec.ofInt 64 (m:Int)).toNat)=k at *
  simp only [IntKind.wrap,IntKind.signed,IntKind.bits]
  simp
  omega
 rw [h2,h3]
 omega
theorem andI_255 (a:Int):∃k:Nat,andI .i64 a 255=k∧k<256:=by
 have h:=andI_le (a:=a) (m:=255) (by decide)
 have h':0≤andI .i64 a 255∧andI .i64 a 255≤255:=h
 exact ⟨(andI .i64 a 255).toNat,by omega,by omega⟩
theorem YN (s:ByteArray):(ZP s).length = s.size:=by
 show s.data.toList.length=s.data.size
 exact Array.length_toList
theorem okE_of:∀(e:Exp),wEx e≤1048576→okE e:=by
 refine Exp.indA fun e ih h=> ?_
 rw [wEx_eq] at h
 rw [okE_eq]
 have h1:=YN e.sym
 have h2:=YN e.name
 have hw:wtS wEx e.args≤1048576:=by omega
 have hm:(1048576:Nat)≤maxLen:=by decide
 refine ⟨by omega,by omega,fun a ha=>ih a ha ?_⟩
 exact (wtS_mem hw).2 a ha
def shT (s:ByteArray):Prop:=s.size≤16
def shSy (s:Sym):Prop:=shT s.name∧1≤s.atts.length∧s.atts.length≤5∧∀a∈s.atts,shT a.name
def shSys (l:List Sym):Prop:=1≤l.length∧l.length≤3∧∀s∈l,shSy s
def shEx (e:Exp):Prop:=wEx e≤200000
def shRu (r:Rul):Prop:=shT r.name∧shT r.left∧r.right.length≤5∧(∀s∈r.right,shT s)∧r.eqs.length≤64∧(∀q∈r.eqs,shT q.name∧shEx q.expr)∧r.cons.length≤64∧∀c∈r.cons,shT c.sym∧shT c.name∧shEx c.goal∧shEx c.value
def shGr (g:Gram):Prop:=shSys g.syms∧1≤g.rules.length∧g.rules.length≤16∧∀r∈g.rules,shRu r
theorem shT_le {s:ByteArray} (h:shT s):s.size≤maxLen:=by
 have hm:(16:Nat)≤maxLen:=by decide
 unfold shT at h;omega
theorem shEx_ok {e:Exp} (h:shEx e):okE e∧wEx e≤1048576:=by
 unfold shEx at h
 exact ⟨okE_of e (by omega),by omega⟩
theorem shSy_sm {s:Sym} (h:shSy s):smSy s:=by have:=h.2.2.1;unfold smSy;omega
theorem shSy_ok {s:Sym} (h:shSy s):okSy s:=⟨shT_le h.1,fun a ha=>shT_le (h.2.2.2 a ha)⟩
theorem shSys_sm {l:List Sym} (h:shSys l):l.length≤1048576∧∀s∈l,smSy s:=⟨by have:=h.2.1;omega,fun s hs=>shSy_sm (h.2.2 s hs)⟩
theorem shRu_sm {r:Rul} (h:shRu r):smRu r:=by
 obtain ⟨_,_,h1,_,h2,h3,h4,h5⟩:=h
 exact ⟨by omega,by omega,by omega,fun q hq=>(shEx_ok (h3 q hq).2).2,fun c hc=>⟨(shEx_ok (h5 c hc).2.2.1).2,(shEx_ok (h5 c hc).2.2.2).2⟩⟩
theorem shRu_ok {r:Rul} (h:shRu r):okRu r:=by
 obtain ⟨k1,k2,h1,k3,h2,h3,h4,h5⟩:=h
 exact ⟨shT_le k1,shT_le k2,fun s hs=>shT_le (k3 s hs),fun q hq=>⟨shT_le (h3 q hq).1,(shEx_ok (h3 q hq).2).1⟩,fun c hc=>⟨shT_le (h5 c hc).1,shT_le (h5 c hc).2.1,(shEx_ok (h5 c hc).2.2.1).1,(shEx_ok (h5 c hc).2.2.2).1⟩⟩
theorem shGr_sm {g:Gram} (h:shGr g):Zj g:=⟨(shSys_sm h.1).1,by have:=h.2.2.1;omega,(shSys_sm h.1).2,fun r hr=>shRu_sm (h.2.2.2 r hr)⟩
theorem shGr_ok {g:Gram} (h:shGr g):okGr g:=⟨fun s hs=>shSy_ok (h.1.2.2 s hs),fun r hr=>shRu_ok (h.2.2.2 r hr)⟩
theorem wEx_leaf {k n p t:Int} {s m:ByteArray} (hs:shT s) (hm:shT m):wEx (.mk k n p t s m [])≤32:=by
 have h1:=YN s
 have h2:=YN m
 unfold shT at hs hm
 simp only [wEx,wExL,List.length_nil]
 omega
def shD (d:Nat) (e:Exp):Prop:=wEx e≤40 * 4 ^ d
theorem shD_mono {a b:Nat} {e:Exp} (h:a≤b) (he:shD a e):shD b e:=by
 unfold shD at *
 have:=Nat.pow_le_pow_right (n:=4) (by decide) h
 omega
theorem shD_leaf {d:Nat} {k n p t:Int} {s m:ByteArray} (hs:shT s) (hm:shT m):shD d (.mk k n p t s m []):=by
 have:=wEx_leaf (k:=k) (n:=n) (p:=p) (t:=t) hs hm
 have h2:0<4 ^ d:=Nat.pow_pos (by decide)
 unfold shD;omega
theorem shD_node {d:Nat} {k n p t:Int} {s m:ByteArray} {l:List Exp} (hs:shT s) (hm:shT m) (hl:l.length≤3) (h:∀e∈l,shD d e):shD (d+1) (.mk k n p t s m l):=by
 have h1:=YN s
 have h2:=YN m
 have h3:0<4 ^ d:=Nat.pow_pos (by decide)
 have h4:∀(l:List Exp),(∀e∈l,shD d e)→wExL l≤l.length * (40 * 4 ^ d):=by
  intro l
  induction l with
  | nil=>intro _;simp [wExL]
  | cons e l ih=>
   intro h
   have:=ih fun x hx=>h x (by simp [hx])
   have h5:wEx e≤40 * 4 ^ d:=h e (by simp)
   simp only [wExL,List.length_cons]
   rw [Nat.succ_mul]
   omega
 have h5:=h4 l h
 have h6:l.length * (40 * 4 ^ d)≤3 * (40 * 4 ^ d):=Nat.mul_le_mul_right _ hl
 unfold shT at hs hm
 unfold shD
 simp only [wEx]
 rw [Nat.pow_succ]
 omega
theorem shD_ex {d:Nat} {e:Exp} (hd:d≤6) (h:shD d e):shEx e:=by
 have:=Nat.pow_le_pow_right (n:=4) (by decide) hd
 have h6:4 ^ 6=4096:=by decide
 unfold shD at h;unfold shEx;omega
def ltT:GV→Bool
 | .val (.string s)=>decide (s.size≤16)
 | _ => false
def ltI (lo hi:Int):GV→Bool
 | .val (.int .i64 n)=>decide (lo≤n∧n≤hi)
 | _ => false
theorem ltT_mem {es:List GV} (h:es.all ltT=true) {g:GV} (hg:g∈es):∃s,shT s∧g=T s:=by
 have:=List.all_eq_true.1 h g hg
 unfold ltT at this
 split at this
 ·exact ⟨_,by simpa [shT] using this,rfl⟩
 ·cases this
theorem YQ {lo hi:Int} {es:List GV} (h:es.all (ltI lo hi)=true) {g:GV} (hg:g∈es):∃n:Int,(lo≤n∧n≤hi)∧g=I n:=by
 have:=List.all_eq_true.1 h g hg
 unfold ltI at this
 split at this
 ·exact ⟨_,by simpa using this,rfl⟩
 ·cases this
def noAg (es:List GV):Bool:=es.all fun e=> !isAgg e&&nraw e
theorem notAgg {es:List GV} (h:noAg es=true) (k:Nat) (hk:k<es.length):isAgg es[k]=false:=by
 have:=List.all_eq_true.1 h _ (List.getElem_mem hk)
 simp only [Bool.and_eq_true] at this
 simpa using this.1
theorem notRaw {es:List GV} (h:noAg es=true) (k:Nat) (hk:k<es.length):geR (some es[k])=some es[k]:=by
 have:=List.all_eq_true.1 h _ (List.getElem_mem hk)
 simp only [Bool.and_eq_true] at this
 have h2:=this.2
 cases h3:es[k]<;>first|rfl|(rw [h3] at h2;simp [nraw] at h2)
abbrev ExN (e:Exp):GV:= .agg [I e.kind,I e.n,I e.pos,I e.type,T e.sym,T e.name,.val (.slice none 0 0)]
abbrev ExR (e:Exp) (r:Nat):GV:= .agg [I e.kind,I e.n,I e.pos,I e.type,T e.sym,T e.name,.own r 7 0 e.args.length]
def ExW (e:Exp) (g:GV) (H1:GH):Prop:=(e.args=[]∧g=ExN e∧H1=[])∨∃r,g=ExR e r∧H1=[(r,7,e.args.map Ex)]
theorem bor_ExN {H:GH} {e:Exp} (h:e.args=[]):Bor H (ExN e) (Ex e):=by
 rw [Y7,h]
 exact .agg (.cons .refl (.cons .refl (.cons .refl (.cons .refl (.cons .refl (.cons .refl (.cons .nil .nil)))))))
theorem bor_ExR {H:GH} {e:Exp} {r:Nat} (h:ZU H r=some (7,e.args.map Ex)):Bor H (ExR e r) (Ex e):=by
 rw [Y7]
 exact .agg (.cons .refl (.cons .refl (.cons .refl (.cons .refl (.cons .refl (.cons .refl (.cons (Bor.allM view_Ex h rfl) .nil)))))))
theorem ExW.bor {e:Exp} {g:GV} {H1:GH} (h:ExW e g H1):Bor H1 g (Ex e):=by
 rcases h with ⟨h,rfl,rfl⟩|⟨r,rfl,rfl⟩
 ·exact bor_ExN h
 ·exact bor_ExR ZW
theorem Dc.frz {P:Program} {f:FuncId} {gs:List GV} {R:GV→GH→Prop} {p:GV→Prop} (h:Dc P f gs R) (hb:∀g H1,R g H1→∃G,p G∧Bor H1 g G):Dv P f gs p:=fun rc H=>
 (h rc H).fr fun g H' ⟨H1,h1,h2⟩=>by
  subst h2
  obtain ⟨G,k1,k2⟩:=hb g H1 h1
  exact ⟨G,_,FR.front k2,[],⟨k1,rfl⟩,rfl⟩
theorem u64_nn (a:Int):0≤IntKind.u64.wrap a:=by
 simp only [IntKind.wrap,IntKind.signed,IntKind.bits]
 simp
 omega
instance (s:ByteArray):Decidable (shT s):=inferInstanceAs (Decidable (s.size≤16))
theorem bor_ExV {H:GH} {k n p t:Int} {s m:ByteArray} {r q:Nat} {l:List Exp} (h:ZU H r=some (7,l.map Ex)) (hl:l.length=q):Bor H (.agg [I k,I n,I p,I t,T s,T m,.own r 7 0 q]) (Ex (.mk k n p t s m l)):=by
 subst hl
 exact bor_ExR (e:= .mk k n p t s m l) h
theorem Dc.own {P:Program} {f:FuncId} {gs:List GV} {p:Exp→Prop} (h:Dc P f gs (fun g H1=>∃e,p e∧ExW e g H1)):Dc P f gs (fun g H1=>∃e r,p e∧g=ExR e r∧H1=[(r,7,e.args.map Ex)]):=fun rc H=>
 (h rc H).fr fun g H' ⟨H1,⟨e,h1,h2⟩,h3⟩=>by
  subst h3
  rcases h2 with ⟨h0,rfl,rfl⟩|⟨r,rfl,rfl⟩
  ·obtain ⟨v,hv,hn⟩:=vfresh (names ((rc,3,[.cur])::H))
   refine ⟨ExR e v,(v,7,[])::(rc,3,[.cur])::H,FR.trans (FR.sub ?_) (FR.addv hv hn),[(v,7,[])],⟨e,v,h1,rfl,by rw [h0];rfl⟩,rfl⟩
   have h5:e.args.length=0:=by rw [h0];rfl
   show Bor [] (ExN e) (.agg [I e.kind,I e.n,I e.pos,I e.type,T e.sym,T e.name,.own v 7 0 e.args.length])
   rw [h5]
   exact .agg (.cons .refl (.cons .refl (.cons .refl (.cons .refl (.cons .refl (.cons .refl (.cons Bor.virt .nil)))))))
  ·exact ⟨_,_,FR.refl _ _,_,⟨e,r,h1,rfl,rfl⟩,rfl⟩
theorem Bor.exch {H:GH} {r sz i:Nat} {es:List GV} {e e' g g':GV} (hr:ZU H r=some (sz,es)) (he:es[i]? = some e) (hx:∀w D v F,MV w D e v F→MV w D e' v F) (hb:Bor (ZF H r (es.set i e')) g g'):Bor H g g':=
 fun w D Ω v hst hm=>hb w D Ω v (hst.exch hr he (hx w D)) hm
theorem MV.exn {e:Exp} (h:e.args=[]):∀w D v F,MV w D (ExN e) v F→MV w D (Ex e) v F:=fun w D v F hm=>by
 have:=MV.fld (j:=6) (g':= .sl 7 []) rfl MV.nil_sl v F hm
 rw [Y7,h]
 exact this
theorem bor_ExApp {H:GH} {k n p t:Int} {s m:ByteArray} {r q:Nat} {l:List Exp} {e:Exp} (h:ZU H r=some (7,l.map Ex++[ExN e])) (he:e.args=[]) (hl:l.length+1=q):Bor H (.agg [I k,I n,I p,I t,T s,T m,.own r 7 0 q]) (Ex (.mk k n p t s m (l++[e]))):=by
 refine Bor.exch (i:=l.length) h (by simp) (MV.exn he) ?_
 have e2:(l.map Ex++[ExN e]).set l.length (Ex e)=(l++[e]).map Ex:=by
  rw [List.set_append_right _ _ (by simp)]
  simp
 rw [e2]
 refine bor_ExV ?_ (by simpa using hl)
 have:∀{H:GH} {x:Nat×List GV} {fs:List GV},ZU H r=some x→ZU (ZF H r fs) r=some (x.1,fs):=by
  intro H
  induction H with
  | nil=>intro x fs h;cases h
  | cons y H ih=>
   obtain ⟨a,b,c⟩:=y
   intro x fs h
   simp only [ZU,ZF] at h ⊢
   split at h
   ·rename_i e3
    simp only [Option.some.injEq] at h
    subst h
    simp [e3,ZU]
   ·rename_i e3
    simp only [if_neg e3,ZU]
    exact ih h
 exact this h
end Go.Gh
namespace Go.Gh
set_option linter.unusedSimpArgs false
set_option linter.unusedVariables false
theorem ltN_eq (a b:ByteArray):ltN a b=decide (ZP a<ZP b):=Proofs.bytesLess_eq _ _
theorem ltN_irr (a:ByteArray):ltN a a=false:=by
 rw [ltN_eq];exact decide_eq_false (List.lt_irrefl _)
theorem ltN_trans {a b c:ByteArray} (h:ltN a b=true) (k:ltN b c=true):ltN a c=true:=by
 rw [ltN_eq,decide_eq_true_eq] at *;exact List.lt_trans h k
theorem ltO_iff {a b:Oc}:ltO a b=true↔a.1<b.1∨(a.1=b.1∧ltN a.2 b.2=true):=by simp [ltO]
theorem ltO_irr (a:Oc):ltO a a=false:=by simp [ltO,ltN_irr]
theorem ltO_trans {a b c:Oc} (h:ltO a b=true) (k:ltO b c=true):ltO a c=true:=by
 rw [ltO_iff] at *
 rcases h with h|⟨h1,h2⟩<;>rcases k with k|⟨k1,k2⟩
 ·exact .inl (by omega)
 ·exact .inl (by omega)
 ·exact .inl (by omega)
 ·exact .inr ⟨by omega,ltN_trans h2 k2⟩
theorem ltO_asym {a b:Oc} (h:ltO a b=true):ltO b a=false:=by
 cases q:ltO b a
 ·rfl
 ·have:=ltO_trans h q;rw [ltO_irr] at this;cases this
abbrev SSO (l:List Oc):Prop:=l.Pairwise fun a b=>ltO a b=true
theorem SSO.ext:∀{l k:List Oc},SSO l→SSO k→(∀x,x∈l↔x∈k)→l=k
 | [],[],_,_,_ => rfl
 | [],b::k,_,_,h=>by have:=(h b).2 (by simp);simp at this
 | a::l,[],_,_,h=>by have:=(h a).1 (by simp);simp at this
 | a::l,b::k,h1,h2,h=>by
  rw [SSO,List.pairwise_cons] at h1 h2
  have e:a=b:=by
   rcases List.mem_cons.1 ((h a).1 (by simp)) with e|e
   ·exact e
   ·rcases List.mem_cons.1 ((h b).2 (by simp)) with e'|e'
    ·exact e'.symm
    ·have q1:=h2.1 a e
     have q2:=h1.1 b e'
     rw [ltO_asym q1] at q2;cases q2
  subst e
  congr 1
  refine SSO.ext h1.2 h2.2 fun x=>⟨fun hx=> ?_,fun hx=> ?_⟩
  ·rcases List.mem_cons.1 ((h x).1 (by simp [hx])) with e|e
   ·subst e;have:=h1.1 _ hx;rw [ltO_irr] at this;cases this
   ·exact e
  ·rcases List.mem_cons.1 ((h x).2 (by simp [hx])) with e|e
   ·subst e;have:=h2.1 _ hx;rw [ltO_irr] at this;cases this
   ·exact e
end Go.Gh
namespace Go.Gh
set_option linter.unusedSimpArgs false
set_option linter.unusedVariables false
open Go.Sort (HoldsK Holds flatK putRowK grow)
open Go.Proofs (sortWorldK)
open Go.Proofs (ltOf)
end Go.Gh
namespace Go.Gh
set_option linter.unusedSimpArgs false
set_option linter.unusedVariables false
theorem any_yes {α:Type} {p:α→Bool} {l:List α} {i:Nat} (h:i<l.length) (hp:p l[i]=true):l.any p=true:=by
 rw [List.any_eq_true]
 exact ⟨l[i],List.getElem_mem h,hp⟩
theorem any_no {α:Type} {p:α→Bool} {l:List α} (h:∀a∈l,p a=false):l.any p=false:=by
 rw [List.any_eq_false]
 intro a ha
 rw [h a ha];simp
theorem takeP_step {α:Type} {p:α→Bool} {l:List α} {i:Nat} {b:Bool} (h:i<l.length) (hp:p l[i]=b) (hn:∀a∈l.take i,p a=b):∀a∈l.take (i+1),p a=b:=by
 intro a ha
 rw [List.take_add_one,List.getElem?_eq_getElem h,Option.toList_some,List.mem_append] at ha
 rcases ha with ha|ha
 ·exact hn a ha
 ·simp only [List.mem_singleton] at ha;rw [ha];exact hp
def reqP (g:Gram) (r:Rul) (pos:Nat):List Oc:=((Zt g.syms (YR r pos)).atts.filter fun a=>decide (a.mode=if pos=0 then 2 else 1)).map fun a=>((pos:Int),a.name)
def reqA (g:Gram) (r:Rul):Nat→List Oc
 | 0=>[]
 | n+1=>reqA g r n++reqP g r n
def reqO (g:Gram) (r:Rul):List Oc:=reqA g r (r.right.length+1)
def hOf (g:Gram) (out:List Int) (n:ByteArray):Int:=if Zf (fun s:Sym=>decide (s.name=n)) g.syms<0 then 0 else out.getD (Zf (fun s:Sym=>decide (s.name=n)) g.syms).toNat 0
def rchR (g:Gram) (out:List Int) (s:ByteArray) (r:Rul):Bool:=decide (r.left=s)&&r.right.all fun c=>decide (0<hOf g out c)
def rchS (g:Gram) (out:List Int) (s:ByteArray):Bool:=g.rules.any (rchR g out s)
def hNext (g:Gram) (round:Int) (out:List Int) (i:Nat):Int:=if 0<out.getD i 0 then out.getD i 0 else if rchS g out (g.syms.getD i symZ).name then round else out.getD i 0
def hIt (g:Gram):Nat→List Int
 | 0=>List.replicate g.syms.length 0
 | k+1=>(List.range g.syms.length).map (hNext g ((k:Int)+1) (hIt g k))
def hgts (g:Gram):List Int:=hIt g g.syms.length
theorem hIt_len (g:Gram):∀k,(hIt g k).length = g.syms.length
 | 0=>by simp [hIt]
 | k+1=>by simp [hIt]
theorem hIt_nn (g:Gram):∀k,∀x∈hIt g k,0≤x
 | 0,x,h=>by simp [hIt] at h;omega
 | k+1,x,h=>by
  simp only [hIt,List.mem_map,List.mem_range] at h
  obtain ⟨i,hi,rfl⟩:=h
  have hg:0≤(hIt g k).getD i 0:=by
   rw [Zu (by rw [hIt_len];exact hi)]
   exact hIt_nn g k _ (List.getElem_mem _)
  simp only [hNext]
  split
  ·exact hg
  ·split
   ·omega
   ·exact hg
end Go.Gh
namespace Go.Gh
set_option linter.unusedSimpArgs false
set_option linter.unusedVariables false
def ixI (L:List Oc) (y:Oc):Int:=Zf (fun z=>decide (z=y)) L
def dC (T:List (List Int)) (goal:Nat) (d:Nat) (out:List Int) (k:Int):Bool:=
 if d=1 then decide (k=goal) else decide (k≠goal)&&decide (0≤k)&&decide (out.getD k.toNat 0=(d:Int)-1)
def dS (T:List (List Int)) (goal:Nat) (d:Nat) (out:List Int) (i:Nat):Int:=
 if out.getD i 0≠0 then out.getD i 0 else if (T.getD i []).any (dC T goal d out) then d else 0
def dL (T:List (List Int)) (goal:Nat):Nat→List Int
 | 0=>List.replicate T.length 0
 | d+1=>(List.range T.length).map (dS T goal (d+1) (dL T goal d))
def dst (T:List (List Int)) (goal:Nat):List Int:=dL T goal T.length
end Go.Gh
namespace Go.Gh
set_option linter.unusedSimpArgs false
set_option linter.unusedVariables false
theorem GCalls.nd {P:Program} {f:FuncId} {gs:List GV} {H:GH} {R:GV→GH→Prop} (h:(names H).Nodup → GCalls P f gs H R):GCalls P f gs H R:=
 fun w D Ω args hst hargs=>h hst.nn w D Ω args hst hargs
theorem GCalls.sub {P:Program} {f:FuncId} {gs:List GV} {H L T:GH} {R:GV→GH→Prop} (hs:subH H L) (h:GCalls P f gs (L++T) R):GCalls P f gs (H++T) R:=by
 intro w D Ω args hst hargs
 obtain ⟨Ω',h1,h2⟩:=hst.sub hs
 refine Yld.mono (fun v w' ⟨g,H',D',Ω'',k1,k2,k3,k4⟩=> ?_) (h w D Ω' args h1 hargs)
 exact ⟨g,H',D',Ω'',k1,k2,k3,⟨k4.d0,fun b hb hD=>(k4.dn b hb hD).imp id (h2 b),fun b hb hl=>h2 b (k4.on b hb hl),k4.kp.mono fun b _ hb hb'=>hb (h2 b hb'),k4.os,k4.tape,k4.output⟩⟩
end Go.Gh
namespace Go.Gh
set_option linter.unusedSimpArgs false
set_option linter.unusedVariables false
theorem bor_OcS {H:GH} {r n:Nat} {l:List Oc} (hr:ZU H r=some (2,l.map Occ)) (hn:l.length=n):Bor H (.own r 2 0 n) (OcS l):=Bor.allM (fun _ => rfl) hr hn
theorem reqP_take {g:Gram} {r:Rul} {pos:Nat} {m:Int} (hm:m=if pos=0 then 2 else 1) (l:List Att) {i:Nat} (h:i<l.length) :
 (((l.take (i+1)).filter fun a=>decide (a.mode=m)).map fun a=>((pos:Int),a.name))=(((l.take i).filter fun a=>decide (a.mode=m)).map fun a=>((pos:Int),a.name))++(if l[i].mode = m then [((pos:Int),l[i].name)] else []):=by
 rw [List.take_add_one,List.getElem?_eq_getElem h,List.filter_append,List.map_append]
 by_cases e:l[i].mode = m<;>simp [e]
theorem reqA_len {g:Gram} (hg:Zj g) (r:Rul):∀n,(reqA g r n).length ≤ n * 1048576
 | 0=>by simp [reqA]
 | n+1=>by
  have h1:=reqA_len hg r n
  have h2:(reqP g r n).length ≤ 1048576:=by
   have h3:=List.length_filter_le (fun a:Att=>decide (a.mode=if n=0 then 2 else 1)) (Zt g.syms (YR r n)).atts
   have h4:=smSy_f hg (YR r n)
   unfold smSy at h4
   simp only [reqP,List.length_map]
   omega
  simp only [reqA,List.length_append]
  omega
theorem hgts_len (g:Gram):(hgts g).length = g.syms.length:=hIt_len g _
end Go.Gh
namespace Go.Gh
set_option linter.unusedSimpArgs false
set_option linter.unusedVariables false
def ltr:Nat→ByteArray
 | 0=>ByteArray.mk #[97]
 | 1=>ByteArray.mk #[98]
 | 2=>ByteArray.mk #[99]
 | _ => ByteArray.mk #[100]
def drA (i:Nat) (a:Att):Prop:=a.name=ltr i∧(1≤a.type∧a.type≤4)∧(1≤a.mode∧a.mode≤3)∧a.circ=false
def drL (l:List Att):Prop:=∀i (h:i<l.length),drA i l[i]
def drS (s:Sym):Prop:=shT s.name∧1≤s.atts.length∧s.atts.length≤4∧drL s.atts
theorem ltr_sh:∀i,shT (ltr i)
 | 0=>by decide
 | 1=>by decide
 | 2=>by decide
 | _ + 3=>by show shT (ByteArray.mk #[100]);decide
theorem ltr_inj {i j:Nat} (hi:i<4) (hj:j<4) (h:ltr i=ltr j):i=j:=by
 have:i=0∨i=1∨i=2∨i=3:=by omega
 have:j=0∨j=1∨j=2∨j=3:=by omega
 rcases ‹i=0 ∨ _› with rfl|rfl|rfl|rfl<;>rcases ‹j=0 ∨ _› with rfl|rfl|rfl|rfl<;>first|rfl|(exfalso;revert h;decide)
theorem drL_nil:drL []:=fun i h=>by simp at h
theorem drL_app {l:List Att} {a:Att} (h:drL l) (ha:drA l.length a):drL (l++[a]):=fun i hi=>by
 simp only [List.length_append,List.length_cons,List.length_nil] at hi
 rcases Nat.lt_or_ge i l.length with h1|h1
 ·rw [List.getElem_append_left h1];exact h i h1
 ·obtain rfl:i=l.length:=by omega
  simpa using ha
theorem drS_sh {s:Sym} (h:drS s):shSy s:=⟨h.1,h.2.1,by have:=h.2.2.1;omega,fun a ha=>by
 obtain ⟨i,hi,rfl⟩:=List.mem_iff_getElem.1 ha
 rw [(h.2.2.2 i hi).1]
 exact ltr_sh i⟩
theorem ltr_get (i:Nat) (h:i<([T (ByteArray.mk #[97]),T (ByteArray.mk #[98]),T (ByteArray.mk #[99]),T (ByteArray.mk #[100])]:List GV).length) :
 ([T (ByteArray.mk #[97]),T (ByteArray.mk #[98]),T (ByteArray.mk #[99]),T (ByteArray.mk #[100])]:List GV)[i]'h = T (ltr i):=by
 have:i=0∨i=1∨i=2∨i=3:=by simp at h;omega
 rcases this with rfl|rfl|rfl|rfl<;>rfl
theorem nxAtt {ι:Type} {E:ι→Env} {G:ι→GH} {μ:ι→Nat} {i:ι} {e:Env} {q:Nat} {X:List GV} {nm:ByteArray} {t m:Int} {R:GH} (h:∀a:Att,a=⟨nm,t,m,false⟩→Nx E G μ i e ((q,4,X++[At a])::R)) :
 Nx E G μ i e ((q,4,X++[.agg [T nm,I t,I m,B false]])::R):=h _ rfl
abbrev GrX (g:Gram) (X:GV):GV:= .agg [SyS g.syms,X]
abbrev RuX (r:Rul) (Y Z:GV):GV:= .agg [T r.name,T r.left,TS r.right,B r.lit,Y,Z]
def ofT (kind:Int) (pos:Nat) (a:Att):Bool:=decide (a.type=kind∧a.mode=if pos=0 then 1 else 2)
def ofP (g:Gram) (r:Rul) (kind:Int) (pos:Nat):List Oc:=((Zt g.syms (YR r pos)).atts.filter (ofT kind pos)).map fun a=>((pos:Int),a.name)
def ofA (g:Gram) (r:Rul) (kind:Int):Nat→List Oc
 | 0=>[]
 | n+1=>ofA g r kind n++ofP g r kind n
def ofO (g:Gram) (r:Rul) (kind:Int):List Oc:=ofA g r kind (r.right.length+1)
theorem ofP_take {p:Att→Bool} {pos:Nat} (l:List Att) {i:Nat} (h:i<l.length) :
 (((l.take (i+1)).filter p).map fun a=>((pos:Int),a.name))=(((l.take i).filter p).map fun a=>((pos:Int),a.name))++(if p l[i]=true then [((pos:Int),l[i].name)] else []):=by
 rw [List.take_add_one,List.getElem?_eq_getElem h,List.filter_append,List.map_append]
 by_cases e:p l[i]=true<;>simp [e]
theorem ofA_len {g:Gram} (hg:Zj g) (r:Rul) (kind:Int):∀n,(ofA g r kind n).length ≤ n * 1048576
 | 0=>by simp [ofA]
 | n+1=>by
  have h1:=ofA_len hg r kind n
  have h2:(ofP g r kind n).length ≤ 1048576:=by
   have h3:=List.length_filter_le (ofT kind n) (Zt g.syms (YR r n)).atts
   have h4:=smSy_f hg (YR r n)
   unfold smSy at h4
   simp only [ofP,List.length_map]
   omega
  simp only [ofA,List.length_append]
  omega
theorem fSym_sh {l:List Sym} (h:∀s∈l,shSy s) (n:ByteArray):∀a∈(Zt l n).atts,shT a.name:=by
 rcases fSym_mem l n with h1|h1
 ·exact (h _ h1).2.2.2
 ·rw [h1];simp [symZ]
theorem ofA_sh {g:Gram} (h:∀s∈g.syms,shSy s) (r:Rul) (kind:Int):∀n,∀o∈ofA g r kind n,shT o.2
 | 0,o,ho=>by simp [ofA] at ho
 | n+1,o,ho=>by
  simp only [ofA,List.mem_append] at ho
  rcases ho with ho|ho
  ·exact ofA_sh h r kind n o ho
  ·simp only [ofP,List.mem_map,List.mem_filter] at ho
   obtain ⟨a,⟨ha,_⟩,rfl⟩:=ho
   exact fSym_sh h _ a ha
theorem reqA_sh {g:Gram} (h:∀s∈g.syms,shSy s) (r:Rul):∀n,∀o∈reqA g r n,shT o.2
 | 0,o,ho=>by simp [reqA] at ho
 | n+1,o,ho=>by
  simp only [reqA,List.mem_append] at ho
  rcases ho with ho|ho
  ·exact reqA_sh h r n o ho
  ·simp only [reqP,List.mem_map,List.mem_filter] at ho
   obtain ⟨a,⟨ha,_⟩,rfl⟩:=ho
   exact fSym_sh h _ a ha
theorem callA.ex {P:Program} {f:FuncId} {gs:List GV} {R:GV→GH→Prop} {K:Env→GH→Prop} {is:List GI} {env:Env} {H:GH} {d:Option Nat} (h:GCalls P f gs H (fun g H'=>∃H1,R g H1∧H'=H1++H))
 (hk:∀g H1,R g H1→(names (H1++H)).Nodup → Z4 P is K (gput env d g) (H1++H)):callA P f (some gs) d is K env H:=⟨R,h,hk⟩
end Go.Gh
namespace Go.Gh
set_option linter.unusedSimpArgs false
set_option linter.unusedVariables false
abbrev RuB (r:Rul) (b:Bool) (Y Z:GV):GV:= .agg [T r.name,T r.left,TS r.right,B b,Y,Z]
theorem ofA_lit (g:Gram) (r:Rul) (b:Bool) (kind:Int):∀n,ofA g { r with lit:=b } kind n=ofA g r kind n
 | 0=>rfl
 | n+1=>by simp only [ofA,ofA_lit g r b kind n];rfl
theorem ofO_lit (g:Gram) (r:Rul) (b:Bool) (kind:Int):ofO g { r with lit:=b } kind=ofO g r kind:=ofA_lit g r b kind _
theorem smRu_lit {r:Rul} (h:smRu r) (b:Bool):smRu { r with lit:=b }:=h
theorem names_nd2 {w rc:Nat} {x y:Nat×List GV} {H:GH} (h:(names ([(w,x)]++(rc,y)::H)).Nodup):¬w=rc:=fun e=>by
 subst e
 simp [names] at h
theorem fin_if {d:Nat} {a b c:Exp} {q rc:Nat} {H:GH} (ha:shD d a) (hb:shD d b) (hc:shD d c) (hne:¬q=rc) :
 ∃G T L,(∃e,shD (d+1) e∧G=Ex e)∧Bor L (.agg [I 5,I 0,I 0,I 0,Gh.T noS,Gh.T noS,.own q 7 0 3]) G∧(q,7,[Ex a,Ex b,Ex c])::(rc,3,[GV.cur])::H=T++H∧subH T (L++[(rc,3,[GV.cur])]):=
 ⟨_,[_,_],[(q,7,[Ex a,Ex b,Ex c])],⟨.mk 5 0 0 0 noS noS [a,b,c],shD_node (by decide) (by decide) (by simp) (by simp [ha,hb,hc]),rfl⟩,bor_ExV (l:=[a,b,c]) ZW rfl,rfl,by simp [subH,ZU,names,hne]⟩
end Go.Gh
namespace Go.Gh
set_option linter.unusedSimpArgs false
set_option linter.unusedVariables false
theorem fSym_len5 {l:List Sym} (h:∀s∈l,shSy s) (n:ByteArray):(Zt l n).atts.length ≤ 5:=by
 rcases fSym_mem l n with h1|h1
 ·exact (h _ h1).2.2.1
 ·rw [h1];simp [symZ]
theorem reqA_len5 {g:Gram} (h:∀s∈g.syms,shSy s) (r:Rul):∀n,(reqA g r n).length ≤ n * 5
 | 0=>by simp [reqA]
 | n+1=>by
  have h1:=reqA_len5 h r n
  have h2:(reqP g r n).length ≤ 5:=by
   have h3:=List.length_filter_le (fun a:Att=>decide (a.mode=if n=0 then 2 else 1)) (Zt g.syms (YR r n)).atts
   have h4:=fSym_len5 h (YR r n)
   simp only [reqP,List.length_map]
   omega
  simp only [reqA,List.length_append]
  omega
abbrev QnN (p:Int) (m:ByteArray) (e:Exp):GV:= .agg [I p,T m,I e.kind,I e.n,I e.pos,I e.type,T e.sym,T e.name,.val (.slice none 0 0)]
theorem MV.qnn {p:Int} {m:ByteArray} {e:Exp} (h:e.args=[]):∀w D v F,MV w D (QnN p m e) v F→MV w D (Qn ⟨p,m,e⟩) v F:=fun w D v F hm=>by
 have:=MV.fld (j:=8) (g':= .sl 7 []) rfl MV.nil_sl v F hm
 show MV w D (.agg [I p,T m,I e.kind,I e.n,I e.pos,I e.type,T e.sym,T e.name,.sl 7 (e.args.map Ex)]) v F
 rw [h]
 exact this
theorem FE.qn {env:Env} {q:Nat} {L:List GV} {p:Int} {m:ByteArray} {e:Exp} {H:GH} (h:e.args=[]):FE env ((q,9,L++[QnN p m e])::H) env ((q,9,L++[Qn ⟨p,m,e⟩])::H):=by
 have:=FE.exch (env:=env) (H:=(q,9,L++[QnN p m e])::H) (r:=q) (sz:=9) (i:=L.length) (es:=L++[QnN p m e]) (e:=QnN p m e) (e':=Qn ⟨p,m,e⟩) (by simp [ZU]) (by simp) (MV.qnn h)
 simpa [ZF] using this
end Go.Gh
namespace Go.Gh
set_option linter.unusedSimpArgs false
set_option linter.unusedVariables false
def rchP (g:Gram) (out:List Int) (s:ByteArray) (r:Rul) (k:Nat):Bool:=decide (r.left=s)&&(r.right.take k).all fun c=>decide (0<hOf g out c)
theorem rchP_step {g:Gram} {out:List Int} {s:ByteArray} {r:Rul} {k:Nat} (h:k<r.right.length):rchP g out s r (k+1)=(rchP g out s r k&&decide (0<hOf g out r.right[k])):=by
 unfold rchP
 rw [List.take_add_one,List.getElem?_eq_getElem h,Option.toList_some,List.all_append,Bool.and_assoc]
 simp
theorem rchP_end (g:Gram) (out:List Int) (s:ByteArray) (r:Rul):rchP g out s r r.right.length=rchR g out s r:=by
 unfold rchP rchR
 rw [List.take_length]
theorem hNext_eq {g:Gram} {k i:Nat} (h:i<g.syms.length):(hIt g (k+1)).getD i 0=hNext g ((k:Int)+1) (hIt g k) i:=by
 rw [Zu (by rw [hIt_len];exact h)]
 simp [hIt]
def nxt (g:Gram) (k i:Nat) (Y:List Int):Prop:=Y.length=g.syms.length∧∀j,j<g.syms.length→Y.getD j 0=if j<i then (hIt g (k+1)).getD j 0 else (hIt g k).getD j 0
theorem nxt_0 (g:Gram) (k:Nat):nxt g k 0 (hIt g k):=⟨hIt_len g k,fun j hj=>by simp⟩
theorem nxt_n {g:Gram} {k:Nat} {Y:List Int} (h:nxt g k g.syms.length Y):Y=hIt g (k+1):=by
 refine List.ext_getElem (by rw [h.1,hIt_len]) fun j h1 h2=> ?_
 have h3:=h.1
 have:=h.2 j (by omega)
 rw [if_pos (by omega),Zu h1,Zu h2] at this
 exact this
theorem nxt_keep {g:Gram} {k i:Nat} {Y:List Int} (h:nxt g k i Y) (hi:i<g.syms.length) (he:hNext g ((k:Int)+1) (hIt g k) i=(hIt g k).getD i 0):nxt g k (i+1) Y:=by
 refine ⟨h.1,fun j hj=> ?_⟩
 rw [h.2 j hj]
 by_cases e:j=i
 ·subst e
  rw [if_neg (by omega),if_pos (by omega),hNext_eq hi,he]
 ·by_cases e2:j<i
  ·rw [if_pos e2,if_pos (by omega)]
  ·rw [if_neg e2,if_neg (by omega)]
theorem nxt_set {g:Gram} {k i:Nat} {Y:List Int} {v:Int} (h:nxt g k i Y) (hi:i<g.syms.length) (he:hNext g ((k:Int)+1) (hIt g k) i=v):nxt g k (i+1) (Y.set i v):=by
 have h1:=h.1
 refine ⟨by rw [List.length_set];exact h.1,fun j hj=> ?_⟩
 rw [Zu (by rw [List.length_set];omega),List.getElem_set]
 by_cases e:i=j
 ·subst e
  rw [if_pos rfl,if_pos (by omega),hNext_eq hi,he]
 ·rw [if_neg e,←Zu (d:=0) (by omega),h.2 j hj]
  by_cases e2:j<i
  ·rw [if_pos e2,if_pos (by omega)]
  ·rw [if_neg e2,if_neg (by omega)]
theorem soT_I {l:List Int} {n:Nat} (h:l.length=n):soT (some (1,l.map I)) 1 1 0 n=some (l.map I):=by
 subst h
 have hc:YY (l.map I)=true:=by
  induction l with
  | nil=>rfl
  | cons a l ih=>simp only [List.map_cons,YY,ih];rfl
 simp only [soT,List.drop_zero,List.length_map,Nat.zero_add,Nat.le_refl,true_and]
 rw [List.take_of_length_le (by simp),hc];simp
end Go.Gh
namespace Go.Gh
set_option linter.unusedSimpArgs false
set_option linter.unusedVariables false
def drG (g:Gram):Prop:=shGr g∧(∀s∈g.syms,drS s)∧g.rules.length≤8∧∀r∈g.rules,r.right.length≤3
theorem drG_sm {g:Gram} (h:drG g):Zj g:=shGr_sm h.1
theorem drG_len {g:Gram} (h:drG g):1≤g.syms.length∧g.syms.length≤3:=⟨h.1.1.1,h.1.1.2.1⟩
def hAt (g:Gram) (s:ByteArray):Int:=(hgts g).getD (max 0 (Zf (fun y:Sym=>decide (y.name=s)) g.syms)).toNat 0
theorem hIt_rng (g:Gram):∀k i,0≤(hIt g k).getD i 0∧(hIt g k).getD i 0≤k
 | 0,i=>by
  simp only [hIt,List.getD_eq_getElem?_getD,List.getElem?_replicate]
  split<;>simp
 | k+1,i=>by
  rcases Nat.lt_or_ge i g.syms.length with h|h
  ·have:=hIt_rng g k i
   simp only [hIt]
   rw [Zu (by simpa using h),List.getElem_map,List.getElem_range]
   unfold hNext
   split
   ·omega
   ·split<;>omega
  ·rw [List.getD_eq_getElem?_getD,List.getElem?_eq_none (by rw [hIt_len];exact h)]
   simp;omega
theorem hAt_rng (g:Gram) (s:ByteArray):0≤hAt g s∧hAt g s≤g.syms.length:=hIt_rng g _ _
def lowR (g:Gram) (s:ByteArray) (r:Rul):Prop:=∀c∈r.right,hAt g c<hAt g s
def lowB:Nat→Nat
 | 0=>1
 | h+1=>1+3 * lowB h
def grB (room:Int):Nat:=if room<5 then 40 else 41 * room.toNat
theorem lowB_mono {a b : Nat} (h : a ≤ b) : lowB a ≤ lowB b := by
  induction b with
  | zero => obtain rfl : a = 0 := by omega
            exact Nat.le_refl _
  | succ b ih =>
    rcases Nat.lt_or_ge a (b + 1) with h1 | h1
    · have := ih (by omega)
      simp only [lowB]; omega
    · obtain rfl : a = b + 1 := by omega
      exact Nat.le_refl _
theorem lowB_le {h:Nat} (h3:h≤3):lowB h≤40:=lowB_mono h3
theorem grB_step {room:Int} {n:Nat} (hr:5≤room) (hn:n≤3):1+n * grB (room.tdiv (max 1 n)-1)≤grB room:=by
 have h0:n=0∨n=1∨n=2∨n=3:=by omega
 have hb:∀x:Int,(x<5∧grB x=40)∨(5≤x∧grB x=41 * x.toNat):=fun x=>by
  unfold grB;split<;>omega
 rcases hb room with h1|⟨_,h1⟩
 ·omega
 ·rw [h1]
  rcases h0 with rfl|rfl|rfl|rfl
  ·omega
  ·rcases hb (room.tdiv (max 1 (1:Nat))-1) with ⟨h2,h3⟩|⟨h2,h3⟩<;>rw [h3]<;>simp at * <;> omega
  ·have h4:room.tdiv (max 1 ((2:Nat):Int))=room / 2:=by rw [Int.tdiv_eq_ediv_of_nonneg (by omega)];rfl
   rcases hb (room.tdiv (max 1 ((2:Nat):Int))-1) with ⟨h2,h3⟩|⟨h2,h3⟩<;>rw [h3]<;>rw [h4] at * <;> omega
  ·have h4:room.tdiv (max 1 ((3:Nat):Int))=room / 3:=by rw [Int.tdiv_eq_ediv_of_nonneg (by omega)];rfl
   rcases hb (room.tdiv (max 1 ((3:Nat):Int))-1) with ⟨h2,h3⟩|⟨h2,h3⟩<;>rw [h3]<;>rw [h4] at * <;> omega
def drN (x:Nod):Prop:=x.kids.length≤3∧shT x.rule
theorem sum_bnd {c:Nat}:∀l:List (List Nod),(∀t∈l,t.length≤c)→(l.map (·.length)).sum ≤ l.length * c
 | [],_ => by simp
 | t::l,h=>by
  have h1:=sum_bnd l fun t ht=>h t (by simp [ht])
  have h2:=h t (by simp)
  simp only [List.map_cons,List.sum_cons,List.length_cons,Nat.succ_mul]
  omega
theorem sum_take {l:List (List Nod)} {k:Nat} (h:k<l.length):((l.take (k+1)).map (·.length)).sum = ((l.take k).map (·.length)).sum + l[k].length := by
 rw [List.take_add_one,List.getElem?_eq_getElem h,List.map_append,List.sum_append]
 rfl
end Go.Gh
namespace Go.Gh
set_option linter.unusedSimpArgs false
set_option linter.unusedVariables false
abbrev CoN (s m:ByteArray) (e f:Exp):GV:= .agg [T s,T m,I e.kind,I e.n,I e.pos,I e.type,T e.sym,T e.name,.val (.slice none 0 0),I f.kind,I f.n,I f.pos,I f.type,T f.sym,T f.name,.val (.slice none 0 0)]
theorem MV.con {s m:ByteArray} {e f:Exp} (he:e.args=[]) (hf:f.args=[]):∀w D v F,MV w D (CoN s m e f) v F→MV w D (Co ⟨s,m,e,f⟩) v F:=fun w D v F hm=>by
 have h1:=MV.fld (j:=15) (g':= .sl 7 []) rfl MV.nil_sl v F hm
 have h2:=MV.fld (j:=8) (g':= .sl 7 []) rfl MV.nil_sl v F h1
 show MV w D (.agg [T s,T m,I e.kind,I e.n,I e.pos,I e.type,T e.sym,T e.name,.sl 7 (e.args.map Ex),I f.kind,I f.n,I f.pos,I f.type,T f.sym,T f.name,.sl 7 (f.args.map Ex)]) v F
 rw [he,hf]
 exact h2
theorem FE.con {env:Env} {q:Nat} {L:List GV} {s m:ByteArray} {e f:Exp} {H:GH} (he:e.args=[]) (hf:f.args=[]):FE env ((q,16,L++[CoN s m e f])::H) env ((q,16,L++[Co ⟨s,m,e,f⟩])::H):=by
 have:=FE.exch (env:=env) (H:=(q,16,L++[CoN s m e f])::H) (r:=q) (sz:=16) (i:=L.length) (es:=L++[CoN s m e f]) (e:=CoN s m e f) (e':=Co ⟨s,m,e,f⟩) (by simp [ZU]) (by simp) (MV.con he hf)
 simpa [ZF] using this
def shCo (c:Con):Prop:=shT c.sym∧shT c.name∧shEx c.goal∧shEx c.value
end Go.Gh
namespace Go.Gh
set_option linter.unusedSimpArgs false
set_option linter.unusedVariables false
abbrev ZD:GV:= .val (.slice none 0 0)
abbrev Ru0 (r:Rul):GV:=RuX r ZD ZD
theorem view_Co (c:Con):view (Co c)=Co c:=by
 have:∀l:List Exp,(l.map Ex).map view=l.map Ex:=fun l=>by rw [List.map_map];exact List.map_congr_left fun a _ => view_Ex a
 simp [view,Zs,Zx,this]
theorem view_Qn (c:Eqn):view (Qn c)=Qn c:=by
 have:∀l:List Exp,(l.map Ex).map view=l.map Ex:=fun l=>by rw [List.map_map];exact List.map_congr_left fun a _ => view_Ex a
 simp [view,Zs,Zx,this]
theorem Zp {α:Type} {f:α→GV} (h:∀a,view (f a)=f a) (l:List α):(l.map f).map view=l.map f:=by
 rw [List.map_map];exact List.map_congr_left fun a _ => h a
theorem view_Sy (s:Sym):view (Sy s)=Sy s:=by
 have:=Zp (f:=At) (fun a=>rfl) s.atts
 simp [view,Zs,Zx,this]
theorem view_Ru0 (r:Rul):view (Ru0 r)=Ru0 r:=by
 have:=Zp (f:=T) (fun a=>rfl) r.right
 simp [view,Zs,Zx,this]
theorem view_Ru (r:Rul):view (Ru r)=Ru r:=by
 have h1:=Zp (f:=T) (fun a=>rfl) r.right
 have h2:=Zp view_Qn r.eqs
 have h3:=Zp view_Co r.cons
 simp only [view,Zs,Zx,h1,h2,h3]
theorem FE.symF {env:Env} {q rg n:Nat} {l:List Sym} {H:GH} (hne:¬rg=q) (hl:l.length=n):FE env ((q,2,l.map Sy)::(rg,2,[.agg [.own q 2 0 n,ZD]])::H) env ((rg,2,[.agg [SyS l,ZD]])::H):=by
 have h1:=FE.close (env:=env) (H:=(q,2,l.map Sy)::(rg,2,[.agg [.own q 2 0 n,ZD]])::H) (r:=rg) (r1:=q) (i:=0) (j:=0) hne (by simp [ZU,Ne.symm hne];exact ⟨rfl,rfl⟩) rfl rfl ZW (by simpa using hl)
 have e:Zw (ZF ((q,2,l.map Sy)::(rg,2,[.agg [.own q 2 0 n,ZD]])::H) rg ([GV.agg [.own q 2 0 n,ZD]].set 0 (.agg ([GV.own q 2 0 n,ZD].set 0 (.osl 2 (l.map Sy)))))) q=(rg,2,[.agg [.osl 2 (l.map Sy),ZD]])::H:=by
  simp [ZF,Zw,Ne.symm hne]
 rw [e] at h1
 refine FE.trans h1 (FE.frzV ?_)
 have:=Zp view_Sy l
 simp only [Zs,view,Zx,this]
theorem FE.leaf {env:Env} {q:Nat} {L:List Rul} {a b:ByteArray} {c:Bool} {H:GH}:FE env ((q,6,L.map Ru0++[.agg [T a,T b,ZD,B c,ZD,ZD]])::H) env ((q,6,(L++[(⟨a,b,[],c,[],[]⟩:Rul)]).map Ru0)::H):=by
 have:=FE.exch (env:=env) (H:=(q,6,L.map Ru0++[.agg [T a,T b,ZD,B c,ZD,ZD]])::H) (r:=q) (sz:=6) (i:=L.length) (es:=L.map Ru0++[.agg [T a,T b,ZD,B c,ZD,ZD]]) (e:= .agg [T a,T b,ZD,B c,ZD,ZD]) (e':=Ru0 (⟨a,b,[],c,[],[]⟩:Rul)) (by simp [ZU]) (by simp)
  fun w D v F hm=>MV.fld (j:=2) (g':= .sl 1 []) rfl MV.nil_sl v F hm
 have e:(L.map Ru0++[GV.agg [T a,T b,ZD,B c,ZD,ZD]]).set L.length (Ru0 (⟨a,b,[],c,[],[]⟩:Rul))=(L++[(⟨a,b,[],c,[],[]⟩:Rul)]).map Ru0:=by
  rw [List.set_append_right _ _ (by simp)];simp
 rw [e] at this
 simpa [ZF] using this
theorem FE.ruF {env:Env} {q q3 n:Nat} {L:List Rul} {a b:ByteArray} {rs:List ByteArray} {c:Bool} {H:GH} (hne:¬q=q3) (hn:rs.length=n) :
 FE env ((q,6,L.map Ru0++[.agg [T a,T b,.own q3 1 0 n,B c,ZD,ZD]])::(q3,1,rs.map T)::H) env ((q,6,(L++[(⟨a,b,rs,c,[],[]⟩:Rul)]).map Ru0)::H):=by
 refine FE.trans (FE.closeL2 (L:=L.map Ru0) (j:=2) hne rfl (by simpa using hn)) (FE.frzV ?_)
 have h1:=Zp view_Ru0 L
 have h2:=Zp (f:=T) (fun a=>rfl) rs
 rw [Zx,List.map_append,h1,List.map_append]
 simp only [List.map_cons,List.map_nil,List.set,view,Zx,h2]
theorem viewL_set {es:List GV} {i:Nat} {x y:GV} (h:es.map view=es) (hx:view x=y):Zs (es.set i x)=es.set i y:=by
 rw [Zx,List.map_set,h,hx]
theorem FE.ruQ {env:Env} {q q1 n:Nat} {es:List GV} {i:Nat} {r:Rul} {qs:List Eqn} {H:GH} (hne:q1≠q) (hi:i<es.length) (hes:es.map view=es) (hn:qs.length=n) :
 FE env ((q1,9,qs.map Qn)::(q,6,es.set i (RuX r (.own q1 9 0 n) ZD))::H) env ((q,6,es.set i (Ru { r with eqs:=qs,cons:=[] }))::H):=by
 refine FE.trans (FE.close2 (L:=es) (i:=i) (j:=4) hne hi rfl (by simpa using hn)) (FE.trans (FE.frzV (viewL_set hes (y:=RuX r (QnS qs) ZD) ?_)) ?_)
 ·have h1:=Zp (f:=T) (fun a=>rfl) r.right
  have h2:=Zp view_Qn qs
  simp only [List.set,view,Zx,List.map_cons,List.map_nil,h1,h2]
 ·have:=FE.exch (env:=env) (H:=(q,6,es.set i (RuX r (QnS qs) ZD))::H) (r:=q) (sz:=6) (i:=i) (es:=es.set i (RuX r (QnS qs) ZD)) (e:=RuX r (QnS qs) ZD) (e':=Ru { r with eqs:=qs,cons:=[] }) (by simp [ZU]) (by simp [hi])
   fun w D v F hm=>MV.fld (j:=5) (g':= .sl 16 []) rfl MV.nil_sl v F hm
  rw [List.set_set] at this
  simpa [ZF] using this
theorem FE.ruP {env:Env} {q q1 q2 n m:Nat} {es:List GV} {i:Nat} {r:Rul} {qs:List Eqn} {cs:List Con} {H:GH} (hne:q1≠q) (hne2:q2≠q) (hne3:q2≠q1) (hi:i<es.length) (hes:es.map view=es) (hn:qs.length=n) (hm:cs.length=m) :
 FE env ((q2,16,cs.map Co)::(q1,9,qs.map Qn)::(q,6,es.set i (RuX r (.own q1 9 0 n) (.own q2 16 0 m)))::H) env ((q,6,es.set i (Ru { r with eqs:=qs,cons:=cs }))::H):=by
 refine FE.trans (FE.perm (H:=[_,_,_]) (L:=[(q1,9,qs.map Qn),(q,6,es.set i (RuX r (.own q1 9 0 n) (.own q2 16 0 m))),(q2,16,cs.map Co)]) (by simp [subH,ZU,names,hne,hne2,hne3,Ne.symm hne,Ne.symm hne2,Ne.symm hne3])) ?_
 refine FE.trans (FE.close2 (L:=es) (i:=i) (j:=4) hne hi rfl (by simpa using hn)) ?_
 refine FE.trans (FE.perm (H:=[_,_]) (L:=[(q2,16,cs.map Co),(q,6,es.set i (.agg [T r.name,T r.left,TS r.right,B r.lit,.osl 9 (qs.map Qn),.own q2 16 0 m]))]) (by simp [subH,ZU,names,hne,hne2,hne3,Ne.symm hne,Ne.symm hne2,Ne.symm hne3])) ?_
 refine FE.trans (FE.close2 (L:=es) (i:=i) (j:=5) hne2 hi rfl (by simpa using hm)) (FE.frzV (viewL_set hes ?_))
 have h1:=Zp (f:=T) (fun a=>rfl) r.right
 have h2:=Zp view_Qn qs
 have h3:=Zp view_Co cs
 simp only [List.set,view,Zx,List.map_cons,List.map_nil,h1,h2,h3]
def shR0 (r:Rul):Prop:=shT r.name∧shT r.left∧r.right.length≤3∧∀s∈r.right,shT s
theorem shR0_sm {r:Rul} (h:shR0 r):smRu { r with eqs:=[],cons:=[] }:=⟨by have:=h.2.2.1;show r.right.length ≤ _;omega,by simp,by simp,by simp,by simp⟩
theorem mkS_size (l:List UInt8):∃s:ByteArray,GV.val (mkS l)=T s∧s.size=l.length:=⟨⟨l.toArray⟩,rfl,by show l.toArray.size = _;simp⟩
theorem rul_mid {D L:List Rul} {j:Nat} (hD:D.length=j) (hj:j<L.length):∃es:List GV,D.map Ru++(L.drop j).map Ru0=es∧es.length=L.length∧(∀h:j<es.length,es[j]=Ru0 L[j])∧es.map view=es ∧
 ∀r:Rul,es.set j (Ru r)=(D++[r]).map Ru++(L.drop (j+1)).map Ru0:=by
 refine ⟨_,rfl,?_,?_,?_,?_⟩
 ·simp;omega
 ·intro h
  rw [List.getElem_append_right (by simp;omega)]
  simp [hD]
 ·rw [List.map_append,Zp view_Ru,Zp view_Ru0]
 ·intro r
  rw [List.set_append_right _ _ (by simp;omega),List.drop_eq_getElem_cons hj]
  simp only [List.map_cons,List.length_map,hD,Nat.sub_self,List.set_cons_zero,List.map_append,List.map_nil,List.append_assoc,List.singleton_append]
theorem bor_rul {q n:Nat} {l:List Sym} {D:List Rul} {X:List GV} (h:D.length=n):Bor [(q,6,D.map Ru++X)] (.agg [SyS l,.own q 6 0 n]) (Gr ⟨l,D⟩):=by
 have h1:=Bor.own (H:=[(q,6,D.map Ru++X)]) (r:=q) (sz:=6) (k:=0) (n:=n) (es:=D.map Ru++X) ZW (by simp;omega)
 have e:Zs (((D.map Ru++X).drop 0).take n)=D.map Ru:=by
  rw [List.drop_zero,List.take_append_of_le_length (by simp;omega),List.take_of_length_le (by simp;omega),Zx,Zp view_Ru]
 rw [e] at h1
 exact .agg (.cons .refl (.cons h1 .nil))
theorem drG_of {l:List Sym} {D:List Rul} (h1:1≤l.length) (h3:l.length≤3) (hd:∀s∈l,drS s) (k1:1≤D.length) (k2:D.length≤8) (hr:∀r∈D,shRu r∧r.right.length≤3):drG ⟨l,D⟩:=
 ⟨⟨⟨h1,h3,fun s hs=>drS_sh (hd s hs)⟩,k1,by show D.length≤16;omega,fun r h=>(hr r h).1⟩,hd,k2,fun r h=>(hr r h).2⟩
theorem shRu_of {r:Rul} {qs:List Eqn} {cs:List Con} (h:shR0 r) (h1:qs.length≤64) (h2:∀q∈qs,shT q.name∧shEx q.expr) (h3:cs.length≤2) (h4:∀c∈cs,shCo c):shRu { r with eqs:=qs,cons:=cs }∧({ r with eqs:=qs,cons:=cs }:Rul).right.length ≤ 3:=
 ⟨⟨h.1,h.2.1,by have:=h.2.2.1;show r.right.length≤5;omega,h.2.2.2,h1,h2,by show cs.length≤64;omega,h4⟩,h.2.2.1⟩
def rulO (g:Gram) (s:ByteArray):List ByteArray:=(g.rules.filter fun r=>decide (r.left=s)).map (·.name)
def rulP (g:Gram) (s:ByteArray) (k:Nat):List ByteArray:=((g.rules.take k).filter fun r=>decide (r.left=s)).map (·.name)
theorem rulP_s {g:Gram} {s:ByteArray} {k:Nat} (h:k<g.rules.length):rulP g s (k+1)=rulP g s k++(if g.rules[k].left = s then [g.rules[k].name] else []):=by
 unfold rulP
 rw [List.take_add_one,List.getElem?_eq_getElem h,List.filter_append,List.map_append]
 by_cases e:g.rules[k].left = s<;>simp [e]
theorem rulP_end (g:Gram) (s:ByteArray):rulP g s g.rules.length=rulO g s:=by simp [rulP,rulO]
theorem rulP_len (g:Gram) (s:ByteArray) (k:Nat):(rulP g s k).length ≤ g.rules.length:=by
 unfold rulP
 rw [List.length_map]
 exact Nat.le_trans (List.length_filter_le _ _) (by rw [List.length_take];omega)
theorem rulO_mem {g:Gram} {s n:ByteArray} (h:n∈rulO g s):Y8 g.rules n∈g.rules:=by
 unfold rulO at h
 obtain ⟨r,hr,rfl⟩:=List.mem_map.1 h
 have hr':=(List.mem_filter.1 hr).1
 unfold Y8
 cases e:g.rules.find? fun s=>decide (s.name=r.name) with
 | none=>have:=List.find?_eq_none.1 e r hr';simp at this
 | some a=>exact List.mem_of_find?_eq_some e
theorem FE.rulz {env:Env} {q:Nat} {H:GH}:FE env ((q,6,[.agg [T noS,T noS,ZD,B false,ZD,ZD]])::H) env ((q,6,[Ru rulZ])::H):=by
 have h:=FE.exch (env:=env) (H:=(q,6,[.agg [T noS,T noS,ZD,B false,ZD,ZD]])::H) (r:=q) (sz:=6) (i:=0) (es:=[.agg [T noS,T noS,ZD,B false,ZD,ZD]]) (e:= .agg [T noS,T noS,ZD,B false,ZD,ZD]) (e':=Ru rulZ) (by simp [ZU]) rfl
  fun w D v F hm=>MV.fld (j:=5) (g':= .sl 16 []) rfl MV.nil_sl v F (MV.fld (j:=4) (g':= .sl 9 []) rfl MV.nil_sl v F (MV.fld (j:=2) (g':= .sl 1 []) rfl MV.nil_sl v F hm))
 simpa [ZF] using h
def atS (g:Gram) (s:ByteArray):Nat:=(max 0 (Zf (fun y:Sym=>decide (y.name=s)) g.syms)).toNat
theorem atS_lt {g:Gram} (h:1≤g.syms.length) (s:ByteArray):atS g s<(hgts g).length := by
 rw [hgts_len]
 unfold atS
 rcases ixOf_cases (fun y:Sym=>decide (y.name=s)) g.syms with h1|h1<;>omega
theorem hAt_eq {g:Gram} (h:1≤g.syms.length) (s:ByteArray):(hgts g)[atS g s]'(atS_lt h s)=hAt g s:=by
 unfold hAt
 rw [←Zu (atS_lt h s)]
 rfl
def okR (g:Gram) (s:ByteArray) (room:Int) (r:Rul):Prop:=(r=rulZ∨r∈g.rules)∧(room<5→r=rulZ∨lowR g s r)
def goodT (b:Nat) (t:List Nod):Prop:=(∀x∈t,drN x)∧1≤t.length∧t.length≤b
theorem view_Tr (t:List Nod):view (Tr t)=Tr t:=by
 have:∀x:Nod,view (Nd x)=Nd x:=fun x=>by
  have:=Zp (f:=I) (fun a=>rfl) x.kids
  simp [view,Zs,Zx,this]
 have:=Zp this t
 simp [view,Zs,Zx,this]
theorem tdiv_rng {a b:Int} (h : -100000≤a∧a≤100000) (hb:1≤b) : -100000≤a.tdiv b∧a.tdiv b≤100000:=by
 have h1:(a.tdiv b).natAbs ≤ a.natAbs:=by
  rw [Int.natAbs_tdiv];exact Nat.div_le_self _ _
 omega
theorem wrS {a:Int} (h : -200000≤a∧a≤200000):IntKind.i64.wrap a=a:=wrap64 (by omega) (by omega)
theorem tdiv_lo {a m:Int} (hm:1≤m):(0≤a→0≤a.tdiv m∧a.tdiv m≤a)∧(a≤0→a≤a.tdiv m∧a.tdiv m≤0):=by
 have key:∀a:Int,0≤a→0≤a.tdiv m∧a.tdiv m≤a:=fun a ha=>by
  rw [Int.tdiv_eq_ediv_of_nonneg ha]
  exact ⟨Int.ediv_nonneg ha (by omega),Int.ediv_le_self m ha⟩
 refine ⟨key a,fun ha=> ?_⟩
 have h:=key (-a) (by omega)
 rw [Int.neg_tdiv] at h
 omega
theorem goodT.mono {a b:Nat} {t:List Nod} (h:goodT a t) (hab:a≤b):goodT b t:=⟨h.1,h.2.1,Nat.le_trans h.2.2 hab⟩
theorem grB_le {room:Int} (h:room≤1000):grB room≤41000:=by unfold grB;split<;>omega
theorem bor_TrO {q:Nat} {t:List Nod}:Bor [(q,6,t.map NdO)] (.agg [.own q 6 0 t.length]) (Tr t):=
 .agg (.cons (Bor.seen (f:=NdO) (g:=Nd) (fun x=>by have:=view_NdO [x];simpa using this) ZW rfl) .nil)
end Go.Gh
namespace Go.Gh
set_option linter.unusedSimpArgs false
set_option linter.unusedVariables false
section
variable {P:Program} {cf:Cfg}
theorem gstartG {f:FuncId} {F:GFun} (hF:IsFun P f F) {cf:Cfg} {gc:GC} {gr:List GR} (hf:F=⟨cf,gc,gr⟩) {gs:List GV} {H:GH} {R:GV→GH→Prop} (hlen:gs.length≤cf.N)
 (h:GW P cf gc (GEndS gr R) (envOf gs 0) H):GCalls P f gs H R:=GCalls.start hF hf hlen (GW.mono (fun _ _ _ h=>h.ok) h)
theorem gwpS (mxd:P.follows .mixedOrders = true) {x y:GC} {Q:Exit→Env→GH→Prop} {env:Env} {H:GH} (h:gwp P cf x (thenG (GW P cf y Q) Q) env H):GW P cf (.seq x y) Q env H:=GW.seq (ZA mxd h)
theorem gwpB (mxd:P.follows .mixedOrders = true) {x:GC} {id:Nat} {Q:Exit→Env→GH→Prop} {env:Env} {H:GH} (h:gwp P cf x (blockG id Q) env H):GW P cf (.block id x) Q env H:=GW.block (ZA mxd h)
end
def bentT (t:List Nod):Prop:=(∀x∈t,x.kids.length≤4∧shT x.rule)∧1≤t.length∧t.length≤41
theorem bentT_of {t:List Nod} (h:goodT 40 t):bentT t:=⟨fun x hx=>⟨by have:=(h.1 x hx).1;omega,(h.1 x hx).2⟩,h.2.1,by have:=h.2.2;omega⟩
theorem bentT_set {t:List Nod} {x:Nod} {k:Nat} (h:goodT 40 t) (h1:x.kids.length≤4) (h2:shT x.rule):bentT (t.set k x):=
 ⟨fun y hy=>(List.mem_or_eq_of_mem_set hy).elim (fun h3=>⟨by have:=(h.1 y h3).1;omega,(h.1 y h3).2⟩) fun h3=>by subst h3;exact ⟨h1,h2⟩,by rw [List.length_set];exact h.2.1,by rw [List.length_set];have:=h.2.2;omega⟩
theorem view_Nd (x:Nod):view (Nd x)=Nd x:=by
 have:=Zp (f:=I) (fun a=>rfl) x.kids
 simp [view,Zs,Zx,this]
theorem bor_TrN {q n:Nat} {t:List Nod} (h:t.length=n):Bor [(q,6,t.map Nd)] (.agg [.own q 6 0 n]) (Tr t):=
 .agg (.cons (Bor.allM view_Nd ZW h) .nil)
theorem bor_TrO' {q n:Nat} {t:List Nod} (h:t.length=n):Bor [(q,6,t.map NdO)] (.agg [.own q 6 0 n]) (Tr t):=by subst h;exact bor_TrO
theorem mem4 {a b c d:Int} {g:GV} (h:g∈[I a,I b,I c,I d]):∃n,g=I n:=by
 simp only [List.mem_cons,List.not_mem_nil,or_false] at h
 rcases h with rfl|rfl|rfl|rfl<;>exact ⟨_,rfl⟩
theorem borS {q k:Nat} {t:List Nod} {x:Nod}:Bor [(q,6,(t.map NdO).set k (NdO x))] (.agg [.own q 6 0 t.length]) (Tr (t.set k x)):=by
 have:=bor_TrO' (q:=q) (t:=t.set k x) (n:=t.length) (by simp)
 rwa [List.map_set] at this
theorem bentT_app {t:List Nod} {k:Nat} (h:goodT 40 t) (hk:k<t.length):bentT (t++[t[k]]):=
 ⟨fun y hy=>(List.mem_append.1 hy).elim (fun h3=>⟨by have:=(h.1 y h3).1;omega,(h.1 y h3).2⟩) fun h3=>by
  rw [List.mem_singleton] at h3;subst h3;have:=h.1 _ (List.getElem_mem hk);exact ⟨by have:=this.1;omega,this.2⟩,by simp,by have:=h.2.2;simp;omega⟩
theorem view_NdOs (t:List Nod):Zs (t.map NdO)=t.map Nd:=by rw [Zx];exact view_NdO t
end Go.Gh
namespace Go.Gh
set_option linter.unusedSimpArgs false
set_option linter.unusedVariables false
end Go.Gh
namespace Go.Gh
set_option linter.unusedSimpArgs false
set_option linter.unusedVariables false
end Go.Gh
namespace Go.Gh
set_option linter.unusedSimpArgs false
set_option linter.unusedVariables false
end Go.Gh
namespace Go.Gh
set_option linter.unusedSimpArgs false
set_option linter.unusedVariables false
theorem treeOf_parts {g:Gram} {t:List Nod} {s:ByteArray} (h:Y9 g t s=true):(1≤t.length∧t.length≤16)∧idsV t=true∧Zo g t t.length 0 (-1) 0 s=t.length:=by
 simpa only [Y9,Bool.and_eq_true,decide_eq_true_eq] using h
theorem ids_inj {t:List Nod} (h:idsV t=true) {i j:Nat} (hi:i<t.length) (hj:j<t.length) (e:t[i].id = t[j].id):i=j:=by
 have key:∀i j:Nat,∀hi:i<t.length,∀hj:j<t.length,i<j→t[i].id ≠ t[j].id := fun i j hi hj hij e=>by
  simp only [idsV,List.all_eq_true,List.mem_range] at h
  have:=h j hj
  simp only [gid,Bool.and_eq_true,Bool.not_eq_true',List.any_eq_false] at this
  have:=this.2 t[i] (by
   rw [List.mem_take_iff_getElem]
   exact ⟨i,by omega,rfl⟩)
  rw [Zu hj] at this
  simp [e] at this
 rcases Nat.lt_trichotomy i j with h1|h1|h1
 ·exact absurd e (key i j hi hj h1)
 ·exact h1
 ·exact absurd e.symm (key j i hj hi h1)
end Go.Gh
namespace Go.Gh
set_option linter.unusedSimpArgs false
set_option linter.unusedVariables false
end Go.Gh
namespace Go.Gh
set_option linter.unusedSimpArgs false
set_option linter.unusedVariables false
theorem tree_idx {g:Gram} {t:List Nod} {s:ByteArray} (h:Y9 g t s=true) {j:Nat} (hj:j<t.length):Zf (fun y=>decide (y.id=t[j].id)) t=j:=by
 have hid:=(treeOf_parts h).2.1
 refine ixOf_hit hj (by simp) fun a ha=> ?_
 obtain ⟨k,hk,rfl⟩:=List.mem_iff_getElem.1 ha
 simp only [List.length_take] at hk
 rw [List.getElem_take]
 simp only [decide_eq_false_iff_not]
 intro e
 have:=ids_inj hid (by omega) hj e
 omega
end Go.Gh
namespace Go.Gh
set_option linter.unusedSimpArgs false
set_option linter.unusedVariables false
theorem bentT_sm {t:List Nod} (h:bentT t):t.length≤1048576∧(∀x∈t,x.kids.length≤1048576)∧∀x∈t,x.rule.size≤maxLen:=
 ⟨by have:=h.2.2;omega,fun x hx=>by have:=(h.1 x hx).1;omega,fun x hx=>shT_le (h.1 x hx).2⟩
end Go.Gh
namespace Go.Gh
set_option linter.unusedSimpArgs false
set_option linter.unusedVariables false
theorem find_key {α κ:Type} [DecidableEq κ] {f:α→κ}:∀{l:List α},(l.map f).Nodup → ∀a∈l,l.find? (fun y=>decide (f y=f a))=some a
 | x::l,hn,a,ha=>by
  simp only [List.map_cons,List.nodup_cons] at hn
  rcases List.mem_cons.1 ha with rfl|h
  ·simp
  ·have:¬f x=f a:=fun e=>hn.1 (by rw [e];exact List.mem_map.2 ⟨a,h,rfl⟩)
   simp only [List.find?_cons,this,decide_false]
   exact find_key hn.2 a h
theorem ix_nodup {α:Type} [DecidableEq α] {l:List α} (hn:l.Nodup) {i:Nat} (h:i<l.length):Zf (fun z=>decide (z=l[i])) l=i:=by
 refine ixOf_hit h (by simp) fun a ha=> ?_
 simp only [decide_eq_false_iff_not]
 intro e
 obtain ⟨k,hk,hk2⟩:=List.mem_iff_getElem.1 ha
 simp only [List.length_take] at hk
 rw [List.getElem_take,e] at hk2
 have:=(List.getElem_inj hn).1 hk2
 omega
def ndG (g:Gram):Prop:=∀s∈g.syms,(s.atts.map (·.name)).Nodup
theorem ndG_f {g:Gram} (h:ndG g) (n:ByteArray):((Zt g.syms n).atts.map (·.name)).Nodup := by
 unfold Zt
 cases e:g.syms.find? fun s=>decide (s.name=n) with
 | none=>simp [symZ]
 | some s=>exact h s (List.mem_of_find?_eq_some e)
def sumA (g:Gram) (t:List Nod):Nat→Nat
 | 0=>0
 | n+1=>sumA g t n+(Zt g.syms (Y5 g t n)).atts.length
theorem insA_sum (g:Gram) (t:List Nod):∀n,(Zc g t n).length = sumA g t n
 | 0=>rfl
 | n+1=>by simp [Zc,insK,sumA,insA_sum g t n]
theorem insA_in {g:Gram} {t:List Nod} {x:Int×ByteArray}:∀n,x∈Zc g t n↔∃j,j<n∧∃a∈(Zt g.syms (Y5 g t j)).atts,x=((t.getD j nodZ).id,a.name)
 | 0=>by simp [Zc]
 | n+1=>by
  simp only [Zc,List.mem_append,insA_in n,insK,List.mem_map]
  constructor
  ·rintro (⟨j,hj,a,ha,rfl⟩|⟨a,ha,rfl⟩)
   ·exact ⟨j,by omega,a,ha,rfl⟩
   ·exact ⟨n,by omega,a,ha,rfl⟩
  ·rintro ⟨j,hj,a,ha,rfl⟩
   rcases Nat.lt_succ_iff_lt_or_eq.1 hj with h|rfl
   ·exact .inl ⟨j,h,a,ha,rfl⟩
   ·exact .inr ⟨a,ha,rfl⟩
theorem insA_nodup {g:Gram} {t:List Nod} (hg:ndG g) (hd:∀i j,i<t.length→j<t.length→(t.getD i nodZ).id = (t.getD j nodZ).id → i=j):∀n,n≤t.length→(Zc g t n).Nodup
 | 0,_ => by simp [Zc]
 | n+1,hn=>by
  simp only [Zc]
  rw [List.nodup_append]
  refine ⟨insA_nodup hg hd n (by omega),?_,?_⟩
  ·have h1:=ndG_f hg (Y5 g t n)
   unfold insK
   rw [List.Nodup,List.pairwise_map] at h1 ⊢
   exact h1.imp fun h e=>h (by simpa using e)
  ·intro x hx y hy e
   subst e
   obtain ⟨j,hj,a,_,rfl⟩:=(insA_in n).1 hx
   simp only [insK,List.mem_map] at hy
   obtain ⟨b,_,e⟩:=hy
   simp only [Prod.mk.injEq] at e
   have:=hd n j (by omega) (by omega) e.1
   omega
theorem ids_nodup {g:Gram} {t:List Nod} {s:ByteArray} (h:Y9 g t s=true):∀i j,i<t.length→j<t.length→(t.getD i nodZ).id = (t.getD j nodZ).id → i=j:=by
 intro i j hi hj e
 have h1:=tree_idx h hi
 have h2:=tree_idx h hj
 rw [Zu hi,Zu hj] at e
 rw [e,h2] at h1
 omega
theorem ins_law {g:Gram} {t:List Nod} (hg:ndG g) :
 (¬Zm g t=[]→sumA g t t.length=(Zm g t).length) ∧
 ∀i (h:i<(Zm g t).length),hasN g t (Zm g t)[i].1 (Zm g t)[i].2 = true∧(attN g t (Zm g t)[i].1 (Zm g t)[i].2).name = (Zm g t)[i].2 ∧ Zf (fun z=>decide (z=(Zm g t)[i])) (Zm g t)=i:=by
 unfold Zm
 split
 ·rename_i ht
  have hd:=ids_nodup ht
  have hn:=insA_nodup hg hd t.length (Nat.le_refl _)
  refine ⟨fun _ => (insA_sum g t _).symm,fun i h=>⟨?_,?_,ix_nodup hn h⟩⟩
  all_goals
   obtain ⟨j,hj,a,ha,e⟩:=(insA_in t.length).1 (List.getElem_mem h)
   rw [e]
   have hx:Zf (fun y:Nod=>decide (y.id=(t.getD j nodZ).id)) t=j:=by rw [Zu hj];exact tree_idx ht hj
   have hf:=find_key (f:=Att.name) (ndG_f hg (Y5 g t j)) a ha
  ·simp only [hasN,hx]
   rw [if_pos (by omega),hAtt,hf];rfl
  ·simp only [attN,hx]
   rw [if_pos (by omega),fAtt,hf];rfl
 ·exact ⟨fun h=>absurd rfl h,fun i h=>by simp at h⟩
end Go.Gh
namespace Go.Gh
set_option linter.unusedSimpArgs false
set_option linter.unusedVariables false
theorem drG_nd {g:Gram} (h:drG g):ndG g:=by
 intro s hs
 obtain ⟨_,_,h4,hd⟩:=h.2.1 s hs
 rw [List.nodup_iff_pairwise_ne,List.pairwise_iff_getElem]
 intro i j hi hj hij e
 simp only [List.length_map] at hi hj
 simp only [List.getElem_map] at e
 have h1:=(hd i hi).1
 have h2:=(hd j hj).1
 rw [h1,h2] at e
 have:=ltr_inj (by omega) (by omega) e
 omega
theorem ins_at {g:Gram} {t:List Nod} (hg:drG g) {i:Nat} (h:i<(Zm g t).length):(1≤(Zm g t)[i].1 ∧ (Zm g t)[i].1 ≤ 999)∧(ZP (Zm g t)[i].2).length ≤ 1048576:=by
 have hm:=List.getElem_mem h
 generalize (Zm g t)[i]=x at *
 unfold Zm at hm
 split at hm
 ·rename_i ht
  obtain ⟨j,hj,a,ha,rfl⟩:=(insA_in t.length).1 hm
  refine ⟨?_,?_⟩
  ·have h1:=(treeOf_parts ht).2.1
   simp only [idsV,List.all_eq_true,List.mem_range] at h1
   have h2:=h1 j hj
   simp only [gid,Bool.and_eq_true,decide_eq_true_eq] at h2
   exact h2.1
  ·rcases fSym_mem g.syms (Y5 g t j) with h6|h6
   ·have h7:=(shGr_ok hg.1)
    have h8:=(hg.1.1.2.2 _ h6).2.2.2 a ha
    have:a.name.size≤16:=h8
    rw [←YZ]
    dsimp only
    omega
   ·rw [h6] at ha;simp [symZ] at ha
 ·simp at hm
theorem sumA_le {g:Gram} {t:List Nod} (hg:drG g):∀n,sumA g t n≤5 * n
 | 0=>by simp [sumA]
 | n+1=>by
  have:=sumA_le (t:=t) hg n
  simp only [sumA]
  rcases fSym_mem g.syms (Y5 g t n) with h6|h6
  ·have:=(hg.1.1.2.2 _ h6).2.2.1
   omega
  ·rw [h6];simp [symZ];omega
end Go.Gh
namespace Go.Gh
set_option linter.unusedSimpArgs false
set_option linter.unusedVariables false
end Go.Gh
namespace Go.Gh
set_option linter.unusedSimpArgs false
set_option linter.unusedVariables false
end Go.Gh
namespace Go.Gh
set_option linter.unusedSimpArgs false
set_option linter.unusedVariables false
end Go.Gh
namespace Go.Gh
set_option linter.unusedSimpArgs false
set_option linter.unusedVariables false
end Go.Gh
namespace Go.Gh
set_option linter.unusedSimpArgs false
set_option linter.unusedVariables false
def Wk (T:List (List Int)) (goal:Nat):Nat→Nat→Prop
 | 0,_ => False
 | 1,i=>(goal:Int)∈T.getD i []
 | d+2,i=>∃k:Nat,k<T.length∧(k:Int)∈T.getD i []∧Wk T goal (d+1) k
def Rch (T:List (List Int)) (i j:Nat):Prop:=∃d,Wk T j d i
theorem Wk_trans {T:List (List Int)} {l j e:Nat} (hj:j<T.length) (h2:Wk T l (e+1) j):∀d i,Wk T j d i→Wk T l (d+e+1) i
 | 0,_,h=>h.elim
 | 1,i,h=>by
  rw [show 1+e+1=e+2 by omega]
  exact ⟨j,hj,h,h2⟩
 | d+2,i,⟨k,hk,h3,h4⟩=>by
  have:=Wk_trans hj h2 (d+1) k h4
  rw [show d+2+e+1=(d+e+1)+2 by omega]
  exact ⟨k,hk,h3,by rw [show d+e+1+1=d+1+e+1 by omega];exact this⟩
theorem Rch.trans {T:List (List Int)} {i j l:Nat} (hj:j<T.length) (h1:Rch T i j) (h2:Rch T j l):Rch T i l:=by
 obtain ⟨d,h1⟩:=h1
 obtain ⟨e,h2⟩:=h2
 cases e with
 | zero=>exact h2.elim
 | succ e=>exact ⟨_,Wk_trans hj h2 d i h1⟩
theorem Rch.one {T:List (List Int)} {i j:Nat} (h:(j:Int)∈T.getD i []):Rch T i j:=⟨1,h⟩
end Go.Gh
namespace Go.Gh
set_option linter.unusedSimpArgs false
set_option linter.unusedVariables false
end Go.Gh
namespace Go.Gh
theorem t_Bytes {g:GV} (h:ET false [.sl false [.int .u8]] g):∃bs:List UInt8,g=Bs bs:=by
 have h1:=t_one h
 simp only [CT] at h1
 obtain ⟨es,rfl,_,he⟩:=h1
 obtain ⟨l,rfl,_⟩:=list_of (f:=fun b:UInt8=>GV.val (.int .u8 b.toNat)) (ok:=fun _ => True) (es:=es) fun e hm=>by
  obtain ⟨gs,k1,k2⟩:=he e hm
  simp only [CTs,CT] at k1
  obtain ⟨g,gs',rfl,⟨n,rfl,hn⟩,rfl⟩:=k1
  simp at k2
  refine ⟨UInt8.ofNat n.toNat,?_,trivial⟩
  have hr:0≤n∧n<256:=by
   simp only [Lit.wf,Bool.and_eq_true,decide_eq_true_eq] at hn
   have e1:IntKind.u8.min=0:=rfl
   have e2:IntKind.u8.max=255:=rfl
   rw [e1,e2] at hn
   omega
  rw [←k2]
  have:((UInt8.ofNat n.toNat).toNat : Int)=n:=by
   rw [UInt8.toNat_ofNat']
   omega
  rw [this]
 exact ⟨l,rfl⟩
@[irreducible] def MkQ (p:Prop):Prop:=p
theorem qI {p:Prop} (h:MkQ p):p:=by unfold MkQ at h;exact h
theorem qU {p:Prop} (h:p):MkQ p:=by unfold MkQ;exact h
theorem VQ:type_of% (And.intro @Z9 (And.intro @Z8 (And.intro @Z7 (And.intro @neN (And.intro @Z3 (And.intro @ZZ @Z5)))))):=(And.intro @Z9 (And.intro @Z8 (And.intro @Z7 (And.intro @neN (And.intro @Z3 (And.intro @ZZ @Z5))))))
theorem VN:type_of% (And.intro @Z1 (And.intro @ZY (And.intro @Z3 (And.intro @ZZ (And.intro @and_true @true_and))))):=(And.intro @Z1 (And.intro @ZY (And.intro @Z3 (And.intro @ZZ (And.intro @and_true @true_and)))))
open Nat (reduceEqDiff reduceLeDiff reduceAdd reduceLT)
open Int (reduceNe)
theorem aO {a b:Prop} (k:b) (h:a:=by omega):a∧b:=And.intro h k
theorem eO {a:Prop} {b:a→Prop} (h:a:=by omega) (k:b h):∃h,b h:=Exists.intro h k
theorem jO {a b:Prop} (x:a) (y:b):a∧b:=And.intro x y
theorem V0 {p q:Prop} (k:q) (h:q→p:=by intro k;first|((try simp (maxSteps:=9^7) +contextual only [↓ S2,S2,↓reduceIte,reduceNe,reduceEqDiff,reduceCtorEq,reduceLeDiff,reduceAdd,reduceLT,VQ]);(repeat (simp only [Z6];try simp (maxSteps:=9^7) +contextual only [↓ S2,S2,↓reduceIte,reduceNe,reduceEqDiff,reduceCtorEq,reduceLeDiff,reduceAdd,reduceLT,VQ]));(try simp +contextual (disch:=omega) only [Z2]);exact k)|(have _ : True:=k;(try simp (maxSteps:=9^7) +contextual only [↓ S2,S2,↓reduceIte,reduceNe,reduceEqDiff,reduceCtorEq,reduceLeDiff,reduceAdd,reduceLT,VQ]);(repeat (simp only [Z6];try simp (maxSteps:=9^7) +contextual only [↓ S2,S2,↓reduceIte,reduceNe,reduceEqDiff,reduceCtorEq,reduceLeDiff,reduceAdd,reduceLT,VQ]));(try simp +contextual (disch:=omega) only [Z2]);done)):p:=h k
theorem V1 {p q f:Prop} (a:f) (k:q) (h:f→q→p:=by intro a k;first|((try simp (maxSteps:=9^7) +contextual only [↓ S2,S2,↓reduceIte,reduceNe,reduceEqDiff,reduceCtorEq,reduceLeDiff,reduceAdd,reduceLT,VQ,a]);(repeat (simp only [Z6];try simp (maxSteps:=9^7) +contextual only [↓ S2,S2,↓reduceIte,reduceNe,reduceEqDiff,reduceCtorEq,reduceLeDiff,reduceAdd,reduceLT,VQ,a]));(try simp +contextual (disch:=omega) only [Z2,a]);first|exact k|(revert a;exact k))|(have _ : True:=k;(try simp (maxSteps:=9^7) +contextual only [↓ S2,S2,↓reduceIte,reduceNe,reduceEqDiff,reduceCtorEq,reduceLeDiff,reduceAdd,reduceLT,VQ,a]);(repeat (simp only [Z6];try simp (maxSteps:=9^7) +contextual only [↓ S2,S2,↓reduceIte,reduceNe,reduceEqDiff,reduceCtorEq,reduceLeDiff,reduceAdd,reduceLT,VQ,a]));(try simp +contextual (disch:=omega) only [Z2,a]);done)):p:=h a k
theorem V2 {p q f:Prop} (a:f) (k:q) (h:f→q→p:=by intro a k;first|((try simp (maxSteps:=9^7) +contextual only [↓ S2,S2,↓reduceIte,reduceNe,reduceEqDiff,reduceCtorEq,reduceLeDiff,reduceAdd,reduceLT,VQ,Int.reduceEq,Int.reduceLT,Int.reduceLE,Int.reduceToNat,a]);(repeat (simp only [Z6];try simp (maxSteps:=9^7) +contextual only [↓ S2,S2,↓reduceIte,reduceNe,reduceEqDiff,reduceCtorEq,reduceLeDiff,reduceAdd,reduceLT,VQ,Int.reduceEq,Int.reduceLT,Int.reduceLE,Int.reduceToNat,a]));(try simp +contextual (disch:=omega) only [Z2,a]);first|exact k|(revert a;exact k))|(have _ : True:=k;(try simp (maxSteps:=9^7) +contextual only [↓ S2,S2,↓reduceIte,reduceNe,reduceEqDiff,reduceCtorEq,reduceLeDiff,reduceAdd,reduceLT,VQ,Int.reduceEq,Int.reduceLT,Int.reduceLE,Int.reduceToNat,a]);(repeat (simp only [Z6];try simp (maxSteps:=9^7) +contextual only [↓ S2,S2,↓reduceIte,reduceNe,reduceEqDiff,reduceCtorEq,reduceLeDiff,reduceAdd,reduceLT,VQ,Int.reduceEq,Int.reduceLT,Int.reduceLE,Int.reduceToNat,a]));(try simp +contextual (disch:=omega) only [Z2,a]);done)):p:=h a k
theorem R0 {p q:Prop} (k:q) (h:q→p:=by intro k;first|((try simp (maxSteps:=9^7) only [↓ S2,S2,Z5,↓reduceIte,reduceNe,reduceEqDiff,reduceCtorEq,reduceLeDiff,reduceAdd,reduceLT]);(repeat (simp only [Z6];try simp (maxSteps:=9^7) only [↓ S2,S2,Z5,↓reduceIte,reduceNe,reduceEqDiff,reduceCtorEq,reduceLeDiff,reduceAdd,reduceLT]));(try simp +contextual (disch:=omega) only [Z2]);exact k)|(have _ : True:=k;(try simp (maxSteps:=9^7) only [↓ S2,S2,Z5,↓reduceIte,reduceNe,reduceEqDiff,reduceCtorEq,reduceLeDiff,reduceAdd,reduceLT]);(repeat (simp only [Z6];try simp (maxSteps:=9^7) only [↓ S2,S2,Z5,↓reduceIte,reduceNe,reduceEqDiff,reduceCtorEq,reduceLeDiff,reduceAdd,reduceLT]));(try simp +contextual (disch:=omega) only [Z2]);done)):p:=h k
theorem R1 {p q f:Prop} (a:f) (k:q) (h:f→q→p:=by intro a k;first|((try simp (maxSteps:=9^7) only [↓ S2,S2,Z5,↓reduceIte,reduceNe,reduceEqDiff,reduceCtorEq,reduceLeDiff,reduceAdd,reduceLT,a]);(repeat (simp only [Z6];try simp (maxSteps:=9^7) only [↓ S2,S2,Z5,↓reduceIte,reduceNe,reduceEqDiff,reduceCtorEq,reduceLeDiff,reduceAdd,reduceLT,a]));(try simp +contextual (disch:=omega) only [Z2,a]);first|exact k|(revert a;exact k))|(have _ : True:=k;(try simp (maxSteps:=9^7) only [↓ S2,S2,Z5,↓reduceIte,reduceNe,reduceEqDiff,reduceCtorEq,reduceLeDiff,reduceAdd,reduceLT,a]);(repeat (simp only [Z6];try simp (maxSteps:=9^7) only [↓ S2,S2,Z5,↓reduceIte,reduceNe,reduceEqDiff,reduceCtorEq,reduceLeDiff,reduceAdd,reduceLT,a]));(try simp +contextual (disch:=omega) only [Z2,a]);done)):p:=h a k
theorem X0 {p q:Prop} (k:q) (h:q→p:=by intro k;first|((try simp (maxSteps:=9^7) only [↓ S2,S2,Z5,↓reduceIte,reduceNe,reduceEqDiff,reduceCtorEq,reduceLeDiff,reduceAdd,reduceLT]);exact k)|(have _ : True:=k;(try simp (maxSteps:=9^7) only [↓ S2,S2,Z5,↓reduceIte,reduceNe,reduceEqDiff,reduceCtorEq,reduceLeDiff,reduceAdd,reduceLT]);done)):p:=h k
theorem K0 {p q:Prop} (k:q) (h:q→p:=by intro k;first|(simp (maxSteps:=9^7) only [↓ S2,S2,Z5,↓reduceIte,reduceNe,reduceEqDiff,reduceCtorEq,reduceLeDiff,reduceAdd,reduceLT];exact k)|(simp only [Z6];exact k)|(simp +contextual (disch:=omega) only [Z2];exact k)|(have _ : True:=k;simp (maxSteps:=9^7) only [↓ S2,S2,Z5,↓reduceIte,reduceNe,reduceEqDiff,reduceCtorEq,reduceLeDiff,reduceAdd,reduceLT];done)|(have _ : True:=k;simp only [Z6];done)|(have _ : True:=k;simp +contextual (disch:=omega) only [Z2];done)):p:=h k
theorem K1 {p q f:Prop} (a:f) (k:q) (h:f→q→p:=by intro a k;first|(simp (maxSteps:=9^7) only [↓ S2,S2,Z5,↓reduceIte,reduceNe,reduceEqDiff,reduceCtorEq,reduceLeDiff,reduceAdd,reduceLT,a];first|exact k|(revert a;exact k))|(simp only [Z6];first|exact k|(revert a;exact k))|(simp +contextual (disch:=omega) only [Z2];first|exact k|(revert a;exact k))|(have _ : True:=k;simp (maxSteps:=9^7) only [↓ S2,S2,Z5,↓reduceIte,reduceNe,reduceEqDiff,reduceCtorEq,reduceLeDiff,reduceAdd,reduceLT,a];done)|(have _ : True:=k;simp only [Z6];done)|(have _ : True:=k;simp +contextual (disch:=omega) only [Z2];done)):p:=h a k
theorem oF {p:Prop} (h:False:=by omega):p:=h.elim
theorem nL (a b:Nat):a<b∨a≥b:=Nat.lt_or_ge a b
theorem gM {α:Type} {l:List α} {n:Nat} (h:n<l.length):l[n]∈l:=List.getElem_mem h
theorem tL {α:Type} {l:List α} {i:Nat} (h:l.length≤i):l.take i=l:=List.take_of_length_le h
theorem bC (b:Bool):b=false∨b=true:=(Bool.eq_false_or_eq_true b).symm
end Go.Gh
namespace Go.Gh.Z
abbrev x (d:Nat) (o:GOp):GI:=⟨some d,none,o⟩
abbrev y (d g:Nat) (o:GOp):GI:=⟨some d,some (g,true),o⟩
abbrev z (d g:Nat) (o:GOp):GI:=⟨some d,some (g,false),o⟩
abbrev m (d a:Nat):GI:=⟨some d,none,.mov (.t a)⟩
abbrev k (d:Nat) (n:Int):GI:=⟨some d,none,.mov (.k (.val (.int .i64 n)))⟩
abbrev b (d:Nat) (n:Bool):GI:=⟨some d,none,.mov (.k (.val (.bool n)))⟩
abbrev l (d a:Nat):GI:=⟨some d,none,.load 1 false (.t a)⟩
abbrev h (d n a:Nat):GI:=⟨some d,none,.load n true (.t a)⟩
abbrev f (d o a:Nat):GI:=⟨some d,none,.faddr o 1 false (.t a)⟩
abbrev e (d o n a:Nat):GI:=⟨some d,none,.faddr o n true (.t a)⟩
abbrev i (d n a c:Nat):GI:=⟨some d,none,.iaddr n (.t a) (.t c)⟩
abbrev c (d f:Nat) (a:List GE):GI:=⟨some d,none,.call false f a⟩
abbrev o (d:Nat) (p:BinOp) (a b:Nat):GI:=⟨some d,none,.bin p (.t a) (.t b)⟩
abbrev q (d:Nat) (p:BinOp) (a:Nat) (n:Int):GI:=⟨some d,none,.bin p (.t a) (.k (.val (.int .i64 n)))⟩
abbrev n (d a:Nat):GI:=⟨some d,none,.len (.t a)⟩
abbrev w (d a:Nat):GI:=⟨some d,none,.not (.t a)⟩
abbrev a (d n r:Nat):GI:=⟨some d,none,.boxro n (.t r)⟩
abbrev t (d n r:Nat):GI:=⟨some d,none,.stro n d (.t r)⟩
abbrev u (d n:Nat):GI:=⟨some d,none,.allocr n⟩
abbrev v (d r j:Nat):GI:=⟨some d,none,.ext (.t r) j⟩
abbrev p (n o a:Nat):GOp:= .faddr o n false (.t a)
abbrev r (n a:Nat):GOp:= .load n false (.t a)
abbrev j (n a:Nat):GOp:= .load n true (.t a)
abbrev C (c e:Nat) (x:GC):GC:= .seq (.cond c .skip (.exit e)) x
abbrev B (n:Nat) (x:GC):GC:= .block n (.loop x)
abbrev s (a:List GI) (b:GC):GC:= .seq (.reg a) b
end Go.Gh.Z
namespace Go.Gh
theorem jF {P:Program} {f:Nat} {fn:Func} {F:GFun} {c:Code} (h:P.funcs[f]? = some fn) (md:List (Nat×Nat):=[]) (h0:fn.body=some c:=by rfl) (h1:(fn.name == "runtime.NumGoroutine")=false:=by kernel_rfl) (h2:compC P F.cf md c=some F.gc:=by kernel_rfl) (h3:YV P fn.results.toList=some F.gr:=by kernel_rfl) (h4:fn.ntmps=F.cf.N:=by rfl):IsFun P f F:=⟨fn,c,md,h,h1,h0,h2,h3,h4⟩
end Go.Gh
namespace Go.Proofs.YtofcbmnplanmkaaDoor
open Go.Gh Go.Gh.Z
abbrev iF:=IsFun Tryd.prog
abbrev Pu:=Pure Tryd.prog
abbrev Gc:=GCalls Tryd.prog
def g3:GFun:=⟨⟨110,[3,4,8,11]⟩,(s [b 2 false] (.seq (s [m 13 0,c 14 4 [.t 13]] (.cond 14 (s [b 2 true] .ret) .skip)) (s [m 16 0,c 17 5 [.t 16],m 15 17,v 18 15 0,v 19 15 1,u 3 2,u 4 1,t 3 2 18,t 4 1 19] (s [h 20 2 3,h 21 1 4,
 c 22 6 [.t 20,.t 21],m 5 22] (.seq (s [m 23 5,h 24 2 3,h 25 1 4,c 26 8 [.t 24,.t 25],c 27 7 [.t 23,.t 26],w 28 27] (.cond 28 (s [b 2 false] .ret) .skip)) (s [k 6 0] (.seq (s [k 7 0] (B 0 (.seq (s [m 29 7,f 30 0 4,l 31 30,n 32 31,
 o 33 .lss 29 32,m 34 33,y 35 34 (.mov (.t 5)),y 36 34 (.len (.t 35)),y 37 34 (.bin .gtr (.t 36) (.k (.val (.int .i64 0)))),x 38 (.pick (.t 34) (.t 37) (.k (.val (.bool false))))] (.cond 38 .skip (.exit 0))) (.seq (.block 1 (s [m 45 7,
 u 8 2,h 42 2 3,h 43 2 3,h 44 1 4,x 46 (.call true 10 [.t 43,.t 44,.t 45]),x 47 (.call true 9 [.t 42,.t 46]),m 41 47,v 48 41 0,v 49 41 1,t 8 2 48,m 9 49] (.reg [m 50 6,f 51 1 8,l 52 51,n 53 52,o 54 .add 50 53,m 6 54]))) (.reg [m 39 7,
 q 40 .add 39 1,m 7 40]))))) (.seq (s [k 10 0] (B 2 (.seq (s [m 55 10,m 56 5,n 57 56,o 58 .lss 55 57] (.cond 58 .skip (.exit 2))) (.seq (.block 3 (s [m 64 5,m 65 10,i 66 2 64 65,u 11 4,h 62 2 3,h 63 1 4,h 67 2 66,x 68 (.call true 11 [.t 62,
 .t 63,.t 67]),m 61 68,v 69 61 0,v 70 61 1,t 11 4 69,m 12 70] (s [m 71 12,w 72 71,m 73 72,z 74 73 (p 1 0 11),z 76 73 (.mov (.t 5)),z 77 73 (.mov (.t 10)),z 78 73 (.iaddr 2 (.t 76) (.t 77)),z 79 73 (p 1 1 78),z 75 73 (r 1 74),z 80 73
 (r 1 79),z 81 73 (.bin .neq (.t 75) (.t 80)),x 82 (.pick (.t 73) (.k (.val (.bool true))) (.t 81)),m 83 82,z 84 83 (.mov (.t 5)),z 85 83 (.mov (.t 5)),z 86 83 (.mov (.t 10)),z 87 83 (.iaddr 2 (.t 85) (.t 86)),z 90 83 (.mov (.t 10)),
 z 88 83 (j 2 87),z 89 83 (.call true 12 [.t 84,.t 88]),z 91 83 (.bin .neq (.t 89) (.t 90)),x 92 (.pick (.t 83) (.k (.val (.bool true))) (.t 91)),m 93 92,z 94 93 (.mov (.t 5)),z 95 93 (.mov (.t 10)),z 96 93 (.iaddr 2 (.t 94) (.t 95)),
 z 99 93 (.mov (.t 5)),z 100 93 (.mov (.t 10)),z 101 93 (.iaddr 2 (.t 99) (.t 100)),z 97 93 (j 2 96),z 98 93 (.call true 13 [.t 97]),z 102 93 (j 2 101),z 103 93 (.call true 14 [.t 102]),z 104 93 (.bin .neq (.t 98) (.t 103)),x 105 (.pick
 (.t 93) (.k (.val (.bool true))) (.t 104))] (.cond 105 (s [b 2 false] .ret) .skip)))) (.reg [m 59 10,q 60 .add 59 1,m 10 60]))))) (s [m 106 6,m 107 5,n 108 107,o 109 .eql 106 108,m 2 109] .ret))))))))),[.t 2]⟩
theorem i3:iF 3 g3:=jF Tryd.func3
def g4:GFun:=⟨⟨6,[]⟩,(s [b 2 false] (s [m 3 0,n 4 3,q 5 .gtr 4 1048576,m 2 5] .ret)),[.t 2]⟩
theorem i4:iF 4 g4:=jF Tryd.func4
def g5:GFun:=⟨⟨8,[2,3]⟩,(s [u 2 2,u 3 1] (s [m 4 0,c 5 15 [.t 4],v 6 5 0,v 7 5 1,t 2 2 6,t 3 1 7] .ret)),[(.c 2 2 true),(.c 3 1 true)]⟩
theorem i5:iF 5 g5:=jF Tryd.func5
def g6:GFun:=⟨⟨8,[2,3]⟩,(s [a 2 2 0,a 3 1 1,x 4 (.mov (.k (.val (.slice none 0 0))))] (s [h 5 2 2,h 6 1 3,c 7 16 [.t 5,.t 6],m 4 7] .ret)),[.t 4]⟩
theorem i6:iF 6 g6:=jF Tryd.func6
def g7:GFun:=⟨⟨26,[]⟩,(s [b 4 false] (.seq (s [m 6 0,n 7 6,m 8 1,n 9 8,o 10 .neq 7 9] (.cond 10 (s [b 4 false] .ret) .skip)) (.seq (s [k 5 0] (B 0 (.seq (s [m 11 5,m 12 0,n 13 12,o 14 .lss 11 13] (.cond 14 .skip (.exit 0))) (.seq
 (.block 1 (s [m 17 0,m 18 5,i 19 2 17 18,m 21 1,m 22 5,i 23 2 21 22,h 20 2 19,h 24 2 23,x 25 (.aeq true [1,2] (.t 20) (.t 24))] (.cond 25 (s [b 4 false] .ret) .skip))) (.reg [m 15 5,q 16 .add 15 1,m 5 16]))))) (s [b 4 true] .ret)))),
 [.t 4]⟩
theorem i7:iF 7 g7:=jF Tryd.func7
def g8:GFun:=⟨⟨59,[2,3,7]⟩,(s [a 2 2 0,a 3 1 1,x 4 (.mov (.k (.val (.slice none 0 0))))] (s [x 10 (.bslice 2 [] 0 true []),m 5 10] (.seq (s [h 11 2 2,h 12 1 3,h 13 2 2,h 14 1 3,x 15 (.call true 10 [.t 13,.t 14,(.k (.val
 (.int .i64 0)))]),x 16 (.call true 17 [.t 11,.t 12,.t 15]),w 17 16] (.cond 17 (s [m 18 5,m 4 18] .ret) .skip)) (.seq (s [k 6 0] (B 0 (.seq (s [m 19 6,f 20 0 3,l 21 20,n 22 21,o 23 .lss 19 22] (.cond 23 .skip (.exit 0))) (.seq (.block 1
 (s [m 30 6,u 7 2,h 27 2 2,h 28 2 2,h 29 1 3,x 31 (.call true 10 [.t 28,.t 29,.t 30]),x 32 (.call true 9 [.t 27,.t 31]),m 26 32,v 33 26 0,v 34 26 1,t 7 2 33,m 8 34] (s [k 9 0] (B 2 (.seq (s [m 35 9,f 36 1 7,l 37 36,n 38 37,
 o 39 .lss 35 38] (.cond 39 .skip (.exit 2))) (.seq (.block 3 (.reg [m 42 5,f 43 0 3,m 45 6,f 49 1 7,m 51 9,l 44 43,i 46 6 44 45,f 47 0 46,l 48 47,l 50 49,i 52 4 50 51,f 53 0 52,l 54 53,x 55 (.build [(.val (.int .i64 0)),(.val (.string
 (ByteArray.mk #[])))] [(0,(1,(.t 48))),(1,(1,(.t 54)))]),x 56 (.bslice 2 [] 1 true [(0,(.t 55))]),x 57 (.append 2 24 (.t 42) (.t 56)),m 5 57])) (.reg [m 40 9,q 41 .add 40 1,m 9 41]))))))) (.reg [m 24 6,q 25 .add 24 1,m 6 25])))))
 (s [m 58 5,m 4 58] .ret))))),[.t 4]⟩
theorem i8:iF 8 g8:=jF Tryd.func8
def g9:GFun:=⟨⟨29,[2,4]⟩,(s [a 2 2 0,u 4 2,b 5 false] (.seq (s [k 6 0] (B 0 (.seq (s [m 7 6,f 8 0 2,l 9 8,n 10 9,o 11 .lss 7 10] (.cond 11 .skip (.exit 0))) (.seq (.block 1 (s [f 14 0 2,l 15 14,m 16 6,i 17 2 15 16,f 18 0 17,l 19 18,
 m 20 1,o 21 .eql 19 20] (.cond 21 (s [f 22 0 2,l 23 22,m 24 6,i 25 2 23 24,h 26 2 25,c 27 18 [.t 26],t 4 2 27,b 5 true] .ret) .skip))) (.reg [m 12 6,q 13 .add 12 1,m 6 13]))))) (s [x 28 (.build [(.val (.string (ByteArray.mk #[]))),(.val
 (.slice none 0 0))] []),t 4 2 28,b 5 false] .ret))),[(.c 4 2 true),.t 5]⟩
theorem i9:iF 9 g9:=jF Tryd.func9
def g10:GFun:=⟨⟨29,[3,4,7]⟩,(s [a 3 2 0,a 4 1 1,x 6 (.mov (.k (.val (.string (ByteArray.mk #[])))))] (.seq (s [m 9 2,f 10 0 4,l 11 10,n 12 11,q 13 .sub 12 1,c 14 19 [.t 9,(.k (.val (.int .i64 0))),.t 13],w 15 14] (.cond 15 (s [x 6
 (.mov (.k (.val (.string (ByteArray.mk #[])))))] .ret) .skip)) (s [f 18 0 4,m 20 2,u 7 6,h 17 2 3,l 19 18,i 21 6 19 20,f 22 4 21,l 23 22,x 24 (.call true 20 [.t 17,.t 23]),m 16 24,v 25 16 0,v 26 16 1,t 7 6 25,m 8 26] (s [f 27 1 7,l 28 27,
 m 6 28] .ret)))),[.t 6]⟩
theorem i10:iF 10 g10:=jF Tryd.func10
def g11:GFun:=⟨⟨33,[3,4,5,6,9]⟩,(s [a 3 2 0,a 4 1 1,a 5 2 2,u 6 4,b 7 false] (s [h 11 1 4,f 12 0 5,l 13 12,c 14 21 [.t 11,.t 13],m 8 14] (.seq (s [m 15 8,q 16 .lss 15 0] (.cond 16 (s [x 17 (.build [(.val (.string (ByteArray.mk #[]))),
 (.val (.int .i64 0)),(.val (.int .i64 0)),(.val (.bool false))] []),t 6 4 17,b 7 false] .ret) .skip)) (s [m 22 8,u 9 2,h 19 2 3,h 20 2 3,h 21 1 4,x 23 (.call true 23 [.t 20,.t 21,.t 22]),x 24 (.call true 22 [.t 19,.t 23]),m 18 24,
 v 25 18 0,v 26 18 1,t 9 2 25,m 10 26] (s [h 27 2 9,f 28 1 5,l 29 28,c 30 24 [.t 27,.t 29],v 31 30 0,v 32 30 1,t 6 4 31,m 7 32] .ret))))),[(.c 6 4 true),.t 7]⟩
theorem i11:iF 11 g11:=jF Tryd.func11
def g12:GFun:=⟨⟨8,[3]⟩,(s [a 3 2 1,k 4 0] (s [m 5 0,h 6 2 3,c 7 25 [.t 5,.t 6],m 4 7] .ret)),[.t 4]⟩
theorem i12:iF 12 g12:=jF Tryd.func12
def g13:GFun:=⟨⟨11,[1]⟩,(s [a 1 2 0,x 2 (.mov (.k (.val (.string (ByteArray.mk #[])))))] (s [f 3 0 1,f 8 1 1,l 4 3,x 5 (.call true 26 [.t 4]),x 6 (.bin .add (.k (.val (.string (ByteArray.mk #[35])))) (.t 5)),x 7 (.bin .add (.t 6) (.k
 (.val (.string (ByteArray.mk #[46]))))),l 9 8,o 10 .add 7 9,m 2 10] .ret)),[.t 2]⟩
theorem i13:iF 13 g13:=jF Tryd.func13
def g14:GFun:=⟨⟨11,[1]⟩,(s [a 1 2 0,x 2 (.mov (.k (.val (.string (ByteArray.mk #[])))))] (s [f 3 0 1,f 8 1 1,l 4 3,x 5 (.call true 27 [.t 4]),x 6 (.bin .add (.k (.val (.string (ByteArray.mk #[35])))) (.t 5)),x 7 (.bin .add (.t 6) (.k
 (.val (.string (ByteArray.mk #[46]))))),l 9 8,o 10 .add 7 9,m 2 10] .ret)),[.t 2]⟩
theorem i14:iF 14 g14:=jF Tryd.func14
def g15:GFun:=⟨⟨16,[2,3,5]⟩,(s [u 2 2,u 3 1] (s [m 6 0,c 7 28 [.t 6],m 4 7] (s [m 8 4,m 9 4,c 10 30 [.t 9,(.k (.val (.int .i64 2)))],c 11 29 [.t 8,.t 10],u 5 2,t 5 2 11] (s [m 13 4,h 12 2 5,h 14 2 5,x 15 (.calla 31 [.t 13,.t 14]),
 t 2 2 12,t 3 1 15] .ret)))),[(.c 2 2 true),(.c 3 1 true)]⟩
theorem i15:iF 15 g15:=jF Tryd.func15 [(3,144)]
def g16:GFun:=⟨⟨53,[2,3,7,8,11]⟩,(s [a 2 2 0,a 3 1 1,x 4 (.mov (.k (.val (.slice none 0 0))))] (s [x 12 (.bslice 2 [] 0 true []),m 5 12] (.seq (s [h 13 2 2,h 14 1 3,c 15 32 [.t 13,.t 14],w 16 15] (.cond 16 (s [m 17 5,
 m 4 17] .ret) .skip)) (.seq (s [f 18 0 3,l 19 18,n 20 19,k 21 0] (B 0 (s [o 22 .lss 21 20] (C 22 0 (.seq (.block 1 (s [m 23 21,i 24 6 19 21,h 25 6 24,u 7 6,m 6 23,t 7 6 25] (s [m 30 6,u 8 2,h 27 2 2,h 28 2 2,h 29 1 3,x 31
 (.call true 23 [.t 28,.t 29,.t 30]),x 32 (.call true 22 [.t 27,.t 31]),m 26 32,v 33 26 0,v 34 26 1,t 8 2 33,m 9 34] (s [f 35 1 8,l 36 35,n 37 36,k 38 0] (B 2 (s [o 39 .lss 38 37] (C 39 2 (.seq (.block 3 (s [i 40 4 36 38,h 41 4 40,u 11 4,
 t 11 4 41] (.reg [m 42 5,f 43 0 7,l 44 43,f 45 0 11,l 46 45,x 47 (.build [(.val (.int .i64 0)),(.val (.string (ByteArray.mk #[])))] [(0,(1,(.t 44))),(1,(1,(.t 46)))]),x 48 (.bslice 2 [] 1 true [(0,(.t 47))]),x 49 (.append 2 24 (.t 42)
 (.t 48)),m 5 49]))) (.reg [q 50 .add 38 1,m 38 50]))))))))) (.reg [q 51 .add 21 1,m 21 51])))))) (s [m 52 5,m 4 52] .ret))))),[.t 4]⟩
theorem i16:iF 16 g16:=jF Tryd.func16
def g17:GFun:=⟨⟨19,[3,4]⟩,(s [a 3 2 0,a 4 1 1,b 6 false] (s [h 7 1 4,x 8 (.call true 33 [.t 7]),m 9 8,y 12 9 (.mov (.t 2)),y 14 9 (p 1 0 4),y 10 9 (j 2 3),y 11 9 (j 1 4),y 13 9 (.call true 34 [.t 10,.t 11,(.k (.val (.int .i64 0))),(.k
 (.val (.int .i64 (-1)))),(.k (.val (.int .i64 0))),.t 12]),y 15 9 (r 1 14),y 16 9 (.len (.t 15)),y 17 9 (.bin .eql (.t 13) (.t 16)),x 18 (.pick (.t 9) (.t 17) (.k (.val (.bool false)))),m 6 18] .ret)),[.t 6]⟩
theorem i17:iF 17 g17:=jF Tryd.func17
def g18:GFun:=⟨⟨10,[1,2]⟩,(s [a 1 2 0,u 2 2] (s [f 3 0 1,x 4 (.loadr 1 false (.t 3)),f 6 1 1,x 7 (.loadr 1 false (.t 6)),x 5 (.bslice 4 [] 0 true []),x 8 (.append 4 40 (.t 5) (.t 7)),x 9 (.build [(.val (.string (ByteArray.mk #[]))),
 (.val (.slice none 0 0))] [(0,(1,(.t 4))),(1,(1,(.t 8)))]),t 2 2 9] .ret)),[(.c 2 2 true)]⟩
theorem i18:iF 18 g18:=jF Tryd.func18
def g19:GFun:=⟨⟨15,[]⟩,(s [b 6 false] (s [m 7 0,m 8 1,o 9 .geq 7 8,m 10 9,y 11 10 (.mov (.t 0)),y 12 10 (.mov (.t 2)),y 13 10 (.bin .leq (.t 11) (.t 12)),x 14 (.pick (.t 10) (.t 13) (.k (.val (.bool false)))),m 6 14] .ret)),[.t 6]⟩
theorem i19:iF 19 g19:=jF Tryd.func19
def g20:GFun:=⟨⟨29,[2,4]⟩,(s [a 2 2 0,u 4 6,b 5 false] (.seq (s [k 6 0] (B 0 (.seq (s [m 7 6,f 8 1 2,l 9 8,n 10 9,o 11 .lss 7 10] (.cond 11 .skip (.exit 0))) (.seq (.block 1 (s [f 14 1 2,l 15 14,m 16 6,i 17 6 15 16,f 18 0 17,l 19 18,
 m 20 1,o 21 .eql 19 20] (.cond 21 (s [f 22 1 2,l 23 22,m 24 6,i 25 6 23 24,h 26 6 25,c 27 35 [.t 26],t 4 6 27,b 5 true] .ret) .skip))) (.reg [m 12 6,q 13 .add 12 1,m 6 13]))))) (s [x 28 (.build [(.val (.string (ByteArray.mk #[]))),(.val
 (.string (ByteArray.mk #[]))),(.val (.slice none 0 0)),(.val (.bool false)),(.val (.slice none 0 0)),(.val (.slice none 0 0))] []),t 4 6 28,b 5 false] .ret))),[(.c 4 6 true),.t 5]⟩
theorem i20:iF 20 g20:=jF Tryd.func20
def g21:GFun:=⟨⟨9,[2,3]⟩,(s [a 2 1 0,a 3 1 1,k 4 0] (s [f 5 0 2,l 6 5,x 7 (.mkfn 37 [.t 3]),c 8 36 [.t 6,.t 7],m 4 8] .ret)),[.t 4]⟩
theorem i21:iF 21 g21:=jF Tryd.func21
def g22:GFun:=⟨⟨22,[2,4,7]⟩,(s [a 2 2 0,u 4 2,b 5 false] (.seq (s [f 8 0 2,l 9 8,n 10 9,k 11 0] (B 0 (s [o 12 .lss 11 10] (C 12 0 (.seq (.block 1 (s [i 13 2 9 11,h 14 2 13,u 7 2,t 7 2 14] (s [f 15 0 7,l 16 15,m 17 1,o 18 .eql 16 17]
 (.cond 18 (s [h 19 2 7,t 4 2 19,b 5 true] .ret) .skip)))) (.reg [q 20 .add 11 1,m 11 20])))))) (s [x 21 (.build [(.val (.string (ByteArray.mk #[]))),(.val (.slice none 0 0))] []),t 4 2 21,b 5 false] .ret))),[(.c 4 2 true),.t 5]⟩
theorem i22:iF 22 g22:=jF Tryd.func22
def g23:GFun:=⟨⟨26,[3,4,7]⟩,(s [a 3 2 0,a 4 1 1,x 6 (.mov (.k (.val (.string (ByteArray.mk #[])))))] (.seq (s [h 9 1 4,m 10 2,c 11 38 [.t 9,.t 10],w 12 11] (.cond 12 (s [x 6 (.mov (.k (.val (.string
 (ByteArray.mk #[])))))] .ret) .skip)) (s [f 15 0 4,m 17 2,u 7 6,h 14 2 3,l 16 15,i 18 6 16 17,f 19 4 18,l 20 19,x 21 (.call true 39 [.t 14,.t 20]),m 13 21,v 22 13 0,v 23 13 1,t 7 6 22,m 8 23] (s [f 24 1 7,l 25 24,m 6 25] .ret)))),[.t 6]⟩
theorem i23:iF 23 g23:=jF Tryd.func23
def g24:GFun:=⟨⟨22,[2,4,7]⟩,(s [a 2 2 0,u 4 4,b 5 false] (.seq (s [f 8 1 2,l 9 8,n 10 9,k 11 0] (B 0 (s [o 12 .lss 11 10] (C 12 0 (.seq (.block 1 (s [i 13 4 9 11,h 14 4 13,u 7 4,t 7 4 14] (s [f 15 0 7,l 16 15,m 17 1,o 18 .eql 16 17]
 (.cond 18 (s [h 19 4 7,t 4 4 19,b 5 true] .ret) .skip)))) (.reg [q 20 .add 11 1,m 11 20])))))) (s [x 21 (.build [(.val (.string (ByteArray.mk #[]))),(.val (.int .i64 0)),(.val (.int .i64 0)),(.val (.bool false))] []),t 4 4 21,
 b 5 false] .ret))),[(.c 4 4 true),.t 5]⟩
theorem i24:iF 24 g24:=jF Tryd.func24
def g25:GFun:=⟨⟨19,[3]⟩,(s [a 3 2 1,k 4 0] (.seq (s [m 6 0,n 7 6,k 8 0] (B 0 (s [o 9 .lss 8 7] (C 9 0 (.seq (.block 1 (s [m 10 8,m 5 10] (s [m 12 0,m 13 5,i 14 2 12 13,h 11 2 3,h 15 2 14,x 16 (.aeq false [1,2] (.t 11) (.t 15))]
 (.cond 16 (s [m 17 5,m 4 17] .ret) .skip)))) (.reg [q 18 .add 8 1,m 8 18])))))) (s [k 4 (-1)] .ret))),[.t 4]⟩
theorem i25:iF 25 g25:=jF Tryd.func25
def g26:GFun:=⟨⟨5,[]⟩,(s [x 2 (.mov (.k (.val (.string (ByteArray.mk #[])))))] (s [m 3 0,c 4 40 [.t 3],m 2 4] .ret)),[.t 2]⟩
theorem i26:iF 26 g26:=jF Tryd.func26
def g27:GFun:=⟨⟨31,[]⟩,(s [x 2 (.mov (.k (.val (.string (ByteArray.mk #[])))))] (.seq (s [m 6 0,q 7 .eql 6 0] (.cond 7 (s [x 2 (.mov (.k (.val (.string (ByteArray.mk #[48])))))] .ret) .skip)) (s [m 8 0,q 9 .lss 8 0,m 3 9] (s [x 4
 (.mov (.k (.val (.string (ByteArray.mk #[])))))] (.seq (B 0 (.seq (s [m 10 0,q 11 .neq 10 0] (.cond 11 .skip (.exit 0))) (.block 1 (s [m 12 0,q 13 .rem 12 10,m 5 13] (.seq (s [m 14 5,q 15 .lss 14 0] (.cond 15 (.reg [m 16 5,x 17
 (.bin .sub (.k (.val (.int .i64 0))) (.t 16)),m 5 17]) .skip)) (s [m 18 5,x 19 (.bin .add (.k (.val (.int .i64 48))) (.t 18)),x 20 (.conv .u8 (.t 19)),x 21 (.bslice 1 [] 1 false [(0,(.t 20))]),x 22 (.b2s (.t 21)),m 23 4,o 24 .add 22 23,
 m 4 24] (.reg [m 25 0,q 26 .quo 25 10,m 0 26]))))))) (.seq (s [m 27 3] (.cond 27 (s [m 28 4,x 29 (.bin .add (.k (.val (.string (ByteArray.mk #[45])))) (.t 28)),m 2 29] .ret) .skip)) (s [m 30 4,m 2 30] .ret))))))),[.t 2]⟩
theorem i27:iF 27 g27:=jF Tryd.func27
def g28:GFun:=⟨⟨32,[]⟩,(s [x 2 (.mov (.k (.val (.pointer none))))] (s [m 5 0,n 6 5,x 7 (.bin .add (.k (.val (.int .i64 26583))) (.t 6)),m 3 7] (.seq (s [k 4 0] (B 0 (.seq (s [m 8 4,m 9 0,n 10 9,o 11 .lss 8 10,m 12 11,y 13 12 (.mov
 (.t 4)),y 14 12 (.bin .lss (.t 13) (.k (.val (.int .i64 4000)))),x 15 (.pick (.t 12) (.t 14) (.k (.val (.bool false))))] (.cond 15 .skip (.exit 0))) (.seq (.block 1 (.reg [m 18 3,q 19 .mul 18 131,m 20 0,m 21 4,i 22 1 20 21,l 23 22,x 24
 (.conv .i64 (.t 23)),o 25 .add 19 24,q 26 .add 25 7,q 27 .and 26 1073741823,m 3 27])) (.reg [m 16 4,q 17 .add 16 1,m 4 17]))))) (s [m 28 0,m 29 3,x 30 (.build [(.val (.slice none 0 0)),(.val (.int .i64 0)),(.val (.int .i64 0))] [(0,(1,
 (.t 28))),(2,(1,(.t 29)))]),x 31 (.box 3 (.t 30)),m 2 31] .ret)))),[.t 2]⟩
theorem i28:iF 28 g28:=jF Tryd.func28
def g29:GFun:=⟨⟨154,[4,1000012,3000020]⟩,(s [u 4 2] (s [x 16 (.build [(.val (.slice none 0 0)),(.val (.slice none 0 0))] []),x 5 (.alloc 2 (.agg [(.val (.slice none 0 0)),(.val (.slice none 0 0))])),(.mk none none (.store 2 (.t 5)
 (.t 16)))] (s [m 17 0,c 18 41 [.t 17,(.k (.val (.int .i64 3)))],x 19 (.bin .add (.k (.val (.int .i64 1))) (.t 18)),m 6 19] (s [x 20 (.bslro 1 [] 3 false [(0,(.k (.val (.string (ByteArray.mk #[115]))))),(1,(.k (.val (.string
 (ByteArray.mk #[116]))))),(2,(.k (.val (.string (ByteArray.mk #[117])))))]),m 21 6,x 22 (.slc 1 (.t 20) none (some (.t 21))),m 7 22] (.seq (s [k 8 0] (B 0 (.seq (s [m 23 8,m 24 6,o 25 .lss 23 24] (.cond 25 .skip (.exit 0))) (.seq
 (.block 1 (.reg [f 28 0 5,m 30 0,m 31 7,m 32 8,i 33 1 31 32,m 35 8,q 36 .eql 35 0,m 37 1,l 29 28,l 34 33,x 38 (.calla 42 [.t 30,.t 34,.t 36,.t 37]),x 39 (.bslice 2 [] 1 true [(0,(.t 38))]),x 40 (.append 2 40 (.t 29) (.t 39)),f 41 0 5,
 (.mk none none (.store 1 (.t 41) (.t 40)))])) (.reg [m 26 8,q 27 .add 26 1,m 8 27]))))) (.seq (s [k 9 0] (B 2 (.seq (s [m 42 9,m 43 6,o 44 .lss 42 43] (.cond 44 .skip (.exit 2))) (.seq (.block 3 (s [f 47 1 5,m 49 7,m 50 9,i 51 1 49 50,
 m 54 7,m 55 9,i 56 1 54 55,m 58 0,l 48 47,l 52 51,x 53 (.bin .add (.k (.val (.string (ByteArray.mk #[108,101,97,102])))) (.t 52)),l 57 56,x 59 (.calla 30 [.t 58,(.k (.val (.int .i64 3)))]),w 60 59,x 61 (.build [(.val (.string
 (ByteArray.mk #[]))),(.val (.string (ByteArray.mk #[]))),(.val (.slice none 0 0)),(.val (.bool false)),(.val (.slice none 0 0)),(.val (.slice none 0 0))] [(0,(1,(.t 53))),(1,(1,(.t 57))),(3,(1,(.t 60)))]),x 62 (.bslice 6 [] 1 true [(0,
 (.t 61))]),x 63 (.append 6 112 (.t 48) (.t 62)),f 64 1 5,(.mk none none (.store 1 (.t 64) (.t 63)))] (s [m 65 0,c 66 41 [.t 65,(.k (.val (.int .i64 2)))],x 67 (.bin .add (.k (.val (.int .i64 1))) (.t 66)),m 10 67] (s [k 11 0] (B 4 (.seq
 (s [m 68 11,m 69 10,o 70 .lss 68 69] (.cond 70 .skip (.exit 4))) (.seq (.block 5 (s [m 73 7,m 74 9,i 75 1 73 74,m 78 11,m 81 7,m 82 9,i 83 1 81 82,m 85 0,u 12 6,l 76 75,x 77 (.bin .add (.k (.val (.string (ByteArray.mk #[112])))) (.t 76)),
 x 79 (.call true 27 [.t 78]),o 80 .add 77 79,l 84 83,x 86 (.calla 30 [.t 85,(.k (.val (.int .i64 4)))]),x 87 (.build [(.val (.string (ByteArray.mk #[]))),(.val (.string (ByteArray.mk #[]))),(.val (.slice none 0 0)),(.val (.bool false)),
 (.val (.slice none 0 0)),(.val (.slice none 0 0))] [(0,(1,(.t 80))),(1,(1,(.t 84))),(3,(1,(.t 86)))]),x 12 (.strb 6 12 (.t 87))] (s [m 88 0,c 89 41 [.t 88,(.k (.val (.int .i64 3)))],x 90 (.bin .add (.k (.val (.int .i64 1))) (.t 89)),
 m 13 90] (.seq (s [k 14 0] (B 6 (.seq (s [m 91 14,m 92 13,o 93 .lss 91 92] (.cond 93 .skip (.exit 6))) (.seq (.block 7 (.reg [f 96 2 12,m 98 0,m 99 7,l 97 96,x 100 (.calla 43 [.t 98,.t 99]),x 101 (.bslice 1 [] 1 false [(0,(.t 100))]),
 x 102 (.append 1 16 (.t 97) (.t 101)),f 103 2 12,(.mk none none (.store 1 (.t 103) (.t 102)))])) (.reg [m 94 14,q 95 .add 94 1,m 14 95]))))) (.reg [f 104 1 5,l 105 104,h 106 6 12,x 107 (.bslice 6 [] 1 true [(0,(.t 106))]),x 108
 (.append 6 112 (.t 105) (.t 107)),f 109 1 5,(.mk none none (.store 1 (.t 109) (.t 108)))]))))) (.reg [m 71 11,q 72 .add 71 1,m 11 72])))))))) (.reg [m 45 9,q 46 .add 45 1,m 9 46]))))) (.seq (s [f 110 1 5,l 111 110,n 112 111,
 q 113 .gtr 112 8] (.cond 113 (.reg [f 114 1 5,l 115 114,x 116 (.slc 6 (.t 115) none (some (.k (.val (.int .i64 8))))),f 117 1 5,(.mk none none (.store 1 (.t 117) (.t 116)))]) .skip)) (.seq (s [k 15 0] (B 8 (.seq (s [m 118 15,f 119 1 5,
 l 120 119,n 121 120,o 122 .lss 118 121] (.cond 122 .skip (.exit 8))) (.seq (.block 9 (s [f 125 1 5,m 127 15,m 128 0,f 130 1 5,m 132 15,m 135 1,w 136 135,l 126 125,h 129 2 5,l 131 130,i 133 6 131 132,h 134 6 133,x 137 (.calla 44 [.t 128,
 .t 129,.t 134,.t 136]),i 138 6 126 127,(.mk none none (.store 6 (.t 138) (.t 137)))] (s [m 139 1,w 140 139] (.cond 140 (.reg [f 141 1 5,m 143 15,m 144 0,f 146 1 5,m 148 15,l 142 141,h 145 2 5,l 147 146,i 149 6 147 148,h 150 6 149,x 151
 (.calla 45 [.t 144,.t 145,.t 150]),i 152 6 142 143,(.mk none none (.store 6 (.t 152) (.t 151)))]) .skip)))) (.reg [m 123 15,q 124 .add 123 1,m 15 124]))))) (s [h 153 2 5,t 4 2 153] .ret))))))))),[(.c 4 2 true)]⟩
theorem i29:iF 29 g29:=jF Tryd.func29 [(7,2097168),(11,33554448),(16,134217744),(21,528),(28,33554448),(30,2097168)]
def g30:GFun:=⟨⟨9,[]⟩,(s [b 4 false] (s [m 5 0,m 6 1,c 7 41 [.t 5,.t 6],q 8 .eql 7 0,m 4 8] .ret)),[.t 4]⟩
theorem i30:iF 30 g30:=jF Tryd.func30
def g31:GFun:=⟨⟨97,[3,4,3000028,3000038,3000058,4074005,5065005]⟩,(s [a 3 2 1,u 4 1] (s [m 7 0,h 8 2 3,c 9 46 [.t 7,.t 8],x 5 (.alloc 1 (.agg [(.val (.slice none 0 0))])),(.mk none none (.store 1 (.t 5) (.t 9)))] (s [m 10 0,f 11 0 5,
 l 12 11,n 13 12,c 14 41 [.t 10,.t 13],m 6 14] (.seq (s [m 15 0,c 16 41 [.t 15,(.k (.val (.int .i64 14)))]] (.block 0 (s [q 18 .eql 16 0,m 17 18] (.cond 17 (.reg [f 19 0 5,m 21 6,m 22 0,f 23 0 5,l 20 19,l 24 23,x 25 (.iaddr 6 (.t 24) (.k
 (.val (.int .i64 0)))),f 26 0 25,l 27 26,x 28 (.bslro 1 [] 4 false [(0,(.k (.val (.int .i64 0)))),(1,(.k (.val (.int .i64 1)))),(2,(.k (.val (.int .i64 1000)))),(3,(.t 27))]),x 29 (.calla 47 [.t 22,.t 28]),i 30 6 20 21,f 31 0 30,
 (.mk none none (.store 1 (.t 31) (.t 29)))]) (s [q 33 .eql 16 1,m 32 33] (.cond 32 (.reg [f 34 0 5,m 36 6,m 37 0,x 38 (.bslro 1 [] 2 false [(0,(.k (.val (.int .i64 1000001)))),(1,(.k (.val (.int .i64 5))))]),l 35 34,x 39 (.calla 47 [.t 37,
 .t 38]),i 40 6 35 36,f 41 3 40,(.mk none none (.store 1 (.t 41) (.t 39)))]) (s [q 43 .eql 16 2,m 42 43] (.cond 42 (.reg [f 44 0 5,m 46 6,m 47 0,l 45 44,x 48 (.calla 41 [.t 47,(.k (.val (.int .i64 5)))]),q 49 .sub 48 1,i 50 6 45 46,
 f 51 1 50,(.mk none none (.store 1 (.t 51) (.t 49)))]) (s [q 53 .eql 16 3,m 52 53] (.cond 52 (.reg [f 54 0 5,m 56 6,m 57 0,x 58 (.bslro 1 [] 4 false [(0,(.k (.val (.string (ByteArray.mk #[108,101,97,102,115]))))),(1,(.k (.val (.string
 (ByteArray.mk #[112,115,48]))))),(2,(.k (.val (.string (ByteArray.mk #[108,101,97,102,116]))))),(3,(.k (.val (.string (ByteArray.mk #[122,122])))))]),l 55 54,x 59 (.calla 43 [.t 57,.t 58]),i 60 6 55 56,f 61 4 60,(.mk none none (.store 1
 (.t 61) (.t 59)))]) (s [q 63 .eql 16 4,m 62 63] (.cond 62 (.reg [f 64 0 5,m 66 6,f 67 0 5,m 69 6,x 65 (.ldx 1 false 64 5),l 68 67,i 70 6 68 69,f 71 5 70,l 72 71,x 73 (.bslice 1 [] 1 false [(0,(.k (.val (.int .i64 1))))]),x 74
 (.appx [5] 1 8 (.t 72) (.t 73)),i 75 6 65 66,f 76 5 75,(.mk none none (.store 1 (.t 76) (.t 74)))]) (s [q 78 .eql 16 5,m 77 78] (.cond 77 (.reg [f 79 0 5,f 81 0 5,m 83 6,l 80 79,l 82 81,i 84 6 82 83,h 85 6 84,x 86 (.bslice 6 [] 1 true [(0,
 (.t 85))]),x 87 (.append 6 72 (.t 80) (.t 86)),f 88 0 5,(.mk none none (.store 1 (.t 88) (.t 87)))]) (s [q 90 .eql 16 6,m 89 90] (.cond 89 (.reg [f 91 0 5,l 92 91,m 93 6,i 94 6 92 93,f 95 2 94,(.mk none none (.store 1 (.t 95) (.k (.val
 (.int .i64 1)))))]) .skip)))))))))))))))) (s [h 96 1 5,t 4 1 96] .ret))))),[(.c 4 1 true)]⟩
theorem i31:iF 31 g31:=jF Tryd.func31 [(5,2097168),(7,2064),(9,528),(11,2064)]
def g32:GFun:=⟨⟨11,[2,3]⟩,(s [a 2 2 0,a 3 1 1,b 4 false] (s [h 5 2 2,h 6 1 3,h 7 2 2,h 8 1 3,x 9 (.call true 23 [.t 7,.t 8,(.k (.val (.int .i64 0)))]),x 10 (.call true 48 [.t 5,.t 6,.t 9]),m 4 10] .ret)),[.t 4]⟩
theorem i32:iF 32 g32:=jF Tryd.func32
def g33:GFun:=⟨⟨43,[1]⟩,(s [a 1 1 0,b 2 false] (s [x 5 (.bslice 1 [] 0 false []),m 3 5] (.seq (s [k 4 0] (B 0 (.seq (s [m 6 4,f 7 0 1,l 8 7,n 9 8,o 10 .lss 6 9] (.cond 10 .skip (.exit 0))) (.seq (.block 1 (.seq (s [f 13 0 1,l 14 13,
 m 15 4,i 16 6 14 15,f 17 0 16,l 18 17,c 19 19 [.t 18,(.k (.val (.int .i64 1))),(.k (.val (.int .i64 999)))],w 20 19,m 21 20,z 22 21 (.mov (.t 3)),z 23 21 (p 1 0 1),z 24 21 (r 1 23),z 25 21 (.mov (.t 4)),z 26 21 (.iaddr 6 (.t 24) (.t 25)),
 z 27 21 (p 1 0 26),z 28 21 (r 1 27),z 29 21 (.call false 49 [.t 22,.t 28]),x 30 (.pick (.t 21) (.k (.val (.bool true))) (.t 29))] (.cond 30 (s [b 2 false] .ret) .skip)) (.reg [m 31 3,f 32 0 1,l 33 32,m 34 4,i 35 6 33 34,f 36 0 35,l 37 36,
 x 38 (.bslice 1 [] 1 false [(0,(.t 37))]),x 39 (.append 1 8 (.t 31) (.t 38)),m 3 39]))) (.reg [m 11 4,q 12 .add 11 1,m 4 12]))))) (s [m 40 3,n 41 40,c 42 19 [.t 41,(.k (.val (.int .i64 1))),(.k (.val (.int .i64 16)))],m 2 42] .ret)))),
 [.t 2]⟩
theorem i33:iF 33 g33:=jF Tryd.func33
def g34:GFun:=⟨⟨109,[6,7,13,14]⟩,(s [a 6 2 0,a 7 1 1,k 12 0] (.seq (s [m 18 2,f 19 0 7,l 20 19,n 21 20,o 22 .geq 18 21] (.cond 22 (s [k 12 (-1)] .ret) .skip)) (s [f 23 0 7,l 24 23,m 25 2,i 26 6 24 25,h 27 6 26,u 13 6,t 13 6 27]
 (s [h 29 2 6,f 30 4 13,l 31 30,c 32 20 [.t 29,.t 31],m 28 32,v 33 28 0,v 34 28 1,u 14 6,t 14 6 33,m 15 34] (.seq (s [m 35 15,w 36 35,m 37 36,z 38 37 (p 1 1 14),z 39 37 (r 1 38),z 40 37 (.mov (.t 5)),z 41 37 (.bin .neq (.t 39) (.t 40)),
 x 42 (.pick (.t 37) (.k (.val (.bool true))) (.t 41)),m 43 42,z 44 43 (p 1 1 13),z 45 43 (r 1 44),z 46 43 (.mov (.t 3)),z 47 43 (.bin .neq (.t 45) (.t 46)),x 48 (.pick (.t 43) (.k (.val (.bool true))) (.t 47)),m 49 48,z 50 49 (p 1 2 13),
 z 51 49 (r 1 50),z 52 49 (.mov (.t 4)),z 53 49 (.bin .neq (.t 51) (.t 52)),x 54 (.pick (.t 49) (.k (.val (.bool true))) (.t 53)),m 55 54,z 56 55 (p 1 5 13),z 57 55 (r 1 56),z 58 55 (.len (.t 57)),z 59 55 (p 1 2 14),z 60 55 (r 1 59),
 z 61 55 (.len (.t 60)),z 62 55 (.bin .neq (.t 58) (.t 61)),x 63 (.pick (.t 55) (.k (.val (.bool true))) (.t 62))] (.cond 63 (s [k 12 (-1)] .ret) .skip)) (.seq (s [f 64 3 13,l 65 64,c 66 50 [.t 65,(.k (.val (.int .i64 1)))],w 67 66,m 68 67,
 z 69 68 (p 1 3 14),z 70 68 (r 1 69),z 71 68 (.not (.t 70)),z 72 68 (.mov (.t 71)),y 73 72 (p 1 3 13),y 74 72 (r 1 73),y 75 72 (.bin .neq (.t 74) (.k (.val (.int .i64 0)))),z 76 68 (.pick (.t 72) (.t 75) (.k (.val (.bool false)))),x 77
 (.pick (.t 68) (.k (.val (.bool true))) (.t 76))] (.cond 77 (s [k 12 (-1)] .ret) .skip)) (s [m 78 2,q 79 .add 78 1,m 16 79] (.seq (s [k 17 0] (B 0 (.seq (s [m 80 17,f 81 2 14,l 82 81,n 83 82,o 84 .lss 80 83] (.cond 84 .skip (.exit 0)))
 (.seq (.block 1 (.seq (s [f 87 5 13,l 88 87,m 89 17,i 90 1 88 89,l 91 90,m 92 16,o 93 .neq 91 92] (.cond 93 (s [k 12 (-1)] .ret) .skip)) (s [m 96 16,m 97 2,m 98 17,q 99 .add 98 1,f 100 2 14,m 102 17,h 94 2 6,h 95 1 7,l 101 100,
 i 103 1 101 102,l 104 103,x 105 (.call true 34 [.t 94,.t 95,.t 96,.t 97,.t 99,.t 104]),m 16 105] (s [m 106 16,q 107 .lss 106 0] (.cond 107 (s [k 12 (-1)] .ret) .skip))))) (.reg [m 85 17,q 86 .add 85 1,m 17 86]))))) (s [m 108 16,
 m 12 108] .ret))))))))),[.t 12]⟩
theorem i34:iF 34 g34:=jF Tryd.func34
def g35:GFun:=⟨⟨73,[1,2,6,1000003]⟩,(s [a 1 6 0,u 2 6] (s [f 7 0 1,x 8 (.loadr 1 false (.t 7)),f 9 1 1,x 10 (.loadr 1 false (.t 9)),f 11 3 1,x 12 (.loadr 1 false (.t 11)),f 14 2 1,x 15 (.loadr 1 false (.t 14)),u 3 6,x 13
 (.bslice 1 [] 0 false []),x 16 (.append 1 16 (.t 13) (.t 15)),x 17 (.build [(.val (.string (ByteArray.mk #[]))),(.val (.string (ByteArray.mk #[]))),(.val (.slice none 0 0)),(.val (.bool false)),(.val (.slice none 0 0)),(.val
 (.slice none 0 0))] [(0,(1,(.t 8))),(1,(1,(.t 10))),(3,(1,(.t 12))),(2,(1,(.t 16)))]),x 3 (.strb 6 3 (.t 17))] (.seq (s [k 4 0] (B 0 (.seq (s [m 18 4,f 19 4 1,l 20 19,n 21 20,o 22 .lss 18 21] (.cond 22 .skip (.exit 0))) (.seq (.block 1
 (.reg [f 25 4 3,f 27 4 1,m 29 4,f 33 4 1,m 35 4,l 26 25,l 28 27,i 30 9 28 29,e 31 0 2 30,h 32 2 31,l 34 33,i 36 9 34 35,e 37 2 7 36,h 38 7 37,x 39 (.call true 51 [.t 38]),x 40 (.build [(.val (.int .i64 0)),(.val (.string
 (ByteArray.mk #[]))),(.val (.int .i64 0)),(.val (.int .i64 0)),(.val (.int .i64 0)),(.val (.int .i64 0)),(.val (.string (ByteArray.mk #[]))),(.val (.string (ByteArray.mk #[]))),(.val (.slice none 0 0))] [(0,(2,(.t 32))),(2,(7,(.t 39)))]),
 x 41 (.bslice 9 [] 1 true [(0,(.t 40))]),x 42 (.append 9 112 (.t 26) (.t 41)),f 43 4 3,(.mk none none (.store 1 (.t 43) (.t 42)))])) (.reg [m 23 4,q 24 .add 23 1,m 4 24]))))) (.seq (s [k 5 0] (B 2 (.seq (s [m 44 5,f 45 5 1,l 46 45,n 47 46,
 o 48 .lss 44 47] (.cond 48 .skip (.exit 2))) (.seq (.block 3 (s [f 51 5 1,l 52 51,m 53 5,i 54 16 52 53,h 55 16 54,u 6 16,t 6 16 55] (.reg [f 56 5 3,f 58 0 6,f 60 1 6,e 62 2 7 6,e 65 9 7 6,l 57 56,l 59 58,l 61 60,h 63 7 62,x 64
 (.call true 51 [.t 63]),h 66 7 65,x 67 (.call true 51 [.t 66]),x 68 (.build [(.val (.string (ByteArray.mk #[]))),(.val (.string (ByteArray.mk #[]))),(.val (.int .i64 0)),(.val (.int .i64 0)),(.val (.int .i64 0)),(.val (.int .i64 0)),
 (.val (.string (ByteArray.mk #[]))),(.val (.string (ByteArray.mk #[]))),(.val (.slice none 0 0)),(.val (.int .i64 0)),(.val (.int .i64 0)),(.val (.int .i64 0)),(.val (.int .i64 0)),(.val (.string (ByteArray.mk #[]))),(.val (.string
 (ByteArray.mk #[]))),(.val (.slice none 0 0))] [(0,(1,(.t 59))),(1,(1,(.t 61))),(2,(7,(.t 64))),(9,(7,(.t 67)))]),x 69 (.bslice 16 [] 1 true [(0,(.t 68))]),x 70 (.append 16 208 (.t 57) (.t 69)),f 71 5 3,(.mk none none (.store 1 (.t 71)
 (.t 70)))]))) (.reg [m 49 5,q 50 .add 49 1,m 5 50]))))) (s [h 72 6 3,t 2 6 72] .ret))))),[(.c 2 6 true)]⟩
theorem i35:iF 35 g35:=jF Tryd.func35
def g36:GFun:=⟨⟨19,[]⟩,(s [k 4 0] (.seq (s [m 6 0,n 7 6,k 8 0] (B 0 (s [o 9 .lss 8 7] (C 9 0 (.seq (.block 1 (s [m 10 8,m 5 10] (s [m 11 1,m 12 0,m 13 5,i 14 6 12 13,h 15 6 14,x 16 (.callv false (.t 11) [.t 15])] (.cond 16 (s [m 17 5,
 m 4 17] .ret) .skip)))) (.reg [q 18 .add 8 1,m 8 18])))))) (s [k 4 (-1)] .ret))),[.t 4]⟩
theorem i36:iF 36 g36:=jF Tryd.func36
def g37:GFun:=⟨⟨8,[2]⟩,(s [a 2 6 0,b 3 false] (s [f 4 0 2,l 5 4,l 6 1,o 7 .eql 5 6,m 3 7] .ret)),[.t 3]⟩
theorem i37:iF 37 g37:=jF Tryd.func37
def g38:GFun:=⟨⟨11,[2]⟩,(s [a 2 1 0,b 4 false] (s [m 5 1,f 6 0 2,l 7 6,n 8 7,q 9 .sub 8 1,c 10 52 [.t 5,(.k (.val (.int .i64 0))),.t 9],m 4 10] .ret)),[.t 4]⟩
theorem i38:iF 38 g38:=jF Tryd.func38
def g39:GFun:=⟨⟨22,[2,4,7]⟩,(s [a 2 2 0,u 4 6,b 5 false] (.seq (s [f 8 1 2,l 9 8,n 10 9,k 11 0] (B 0 (s [o 12 .lss 11 10] (C 12 0 (.seq (.block 1 (s [i 13 6 9 11,h 14 6 13,u 7 6,t 7 6 14] (s [f 15 0 7,l 16 15,m 17 1,o 18 .eql 16 17]
 (.cond 18 (s [h 19 6 7,t 4 6 19,b 5 true] .ret) .skip)))) (.reg [q 20 .add 11 1,m 11 20])))))) (s [x 21 (.build [(.val (.string (ByteArray.mk #[]))),(.val (.string (ByteArray.mk #[]))),(.val (.slice none 0 0)),(.val (.bool false)),(.val
 (.slice none 0 0)),(.val (.slice none 0 0))] []),t 4 6 21,b 5 false] .ret))),[(.c 4 6 true),.t 5]⟩
theorem i39:iF 39 g39:=jF Tryd.func39
def g41:GFun:=⟨⟨37,[]⟩,(s [k 4 0] (.seq (s [m 9 1,q 10 .leq 9 0] (.cond 10 (s [k 4 0] .ret) .skip)) (.seq (s [m 11 1,q 12 .leq 11 256] (.cond 12 (s [m 13 0,c 14 54 [.t 13],m 15 1,o 16 .rem 14 15,m 4 16] .ret) .skip)) (s [m 17 0,
 c 18 54 [.t 17],m 5 18] (s [m 19 0,c 20 54 [.t 19],m 6 20] (s [m 21 0,c 22 54 [.t 21],m 7 22] (s [m 23 0,c 24 54 [.t 23],m 8 24] (s [m 25 5,q 26 .mul 25 16777216,m 27 6,q 28 .mul 27 65536,o 29 .add 26 28,m 30 7,q 31 .mul 30 256,
 o 32 .add 29 31,m 33 8,o 34 .add 32 33,m 35 1,o 36 .rem 34 35,m 4 36] .ret)))))))),[.t 4]⟩
theorem i41:iF 41 g41:=jF Tryd.func41
def g42:GFun:=⟨⟨65,[8,1000012,3000023,3000028,3000031,3000036]⟩,(s [u 8 2] (s [m 13 1,x 14 (.build [(.val (.string (ByteArray.mk #[]))),(.val (.slice none 0 0))] [(0,(1,(.t 13)))]),x 9 (.alloc 2 (.agg [(.val (.string
 (ByteArray.mk #[]))),(.val (.slice none 0 0))])),(.mk none none (.store 2 (.t 9) (.t 14)))] (s [m 15 0,c 16 41 [.t 15,(.k (.val (.int .i64 4)))],x 17 (.bin .add (.k (.val (.int .i64 1))) (.t 16)),m 10 17] (.seq (s [k 11 0] (B 0 (.seq
 (s [m 18 11,m 19 10,o 20 .lss 18 19] (.cond 20 .skip (.exit 0))) (.seq (.block 1 (s [x 23 (.bslro 1 [] 4 false [(0,(.k (.val (.string (ByteArray.mk #[97]))))),(1,(.k (.val (.string (ByteArray.mk #[98]))))),(2,(.k (.val (.string
 (ByteArray.mk #[99]))))),(3,(.k (.val (.string (ByteArray.mk #[100])))))]),m 24 11,i 25 1 23 24,m 27 0,x 28 (.bslro 1 [] 6 false [(0,(.k (.val (.int .i64 1)))),(1,(.k (.val (.int .i64 1)))),(2,(.k (.val (.int .i64 2)))),(3,(.k (.val
 (.int .i64 2)))),(4,(.k (.val (.int .i64 3)))),(5,(.k (.val (.int .i64 4))))]),m 30 0,x 31 (.bslro 1 [] 6 false [(0,(.k (.val (.int .i64 1)))),(1,(.k (.val (.int .i64 2)))),(2,(.k (.val (.int .i64 2)))),(3,(.k (.val (.int .i64 1)))),(4,
 (.k (.val (.int .i64 2)))),(5,(.k (.val (.int .i64 3))))]),u 12 4,l 26 25,x 29 (.calla 47 [.t 27,.t 28]),x 32 (.calla 47 [.t 30,.t 31]),x 33 (.build [(.val (.string (ByteArray.mk #[]))),(.val (.int .i64 0)),(.val (.int .i64 0)),(.val
 (.bool false))] [(0,(1,(.t 26))),(1,(1,(.t 29))),(2,(1,(.t 32)))]),x 12 (.strb 4 12 (.t 33))] (.seq (s [m 34 3] (.cond 34 (.reg [m 35 0,x 36 (.bslro 1 [] 4 false [(0,(.k (.val (.int .i64 1)))),(1,(.k (.val (.int .i64 1)))),(2,(.k (.val
 (.int .i64 2)))),(3,(.k (.val (.int .i64 3))))]),c 37 47 [.t 35,.t 36],f 38 1 12,(.mk none none (.store 1 (.t 38) (.t 37)))]) .skip)) (.seq (s [m 39 2,m 40 39,y 41 40 (p 1 2 12),y 42 40 (r 1 41),y 43 40 (.bin .eql (.t 42) (.k (.val
 (.int .i64 1)))),x 44 (.pick (.t 40) (.t 43) (.k (.val (.bool false)))),m 45 44,z 46 45 (.mov (.t 3)),z 47 45 (.mov (.t 46)),y 48 47 (p 1 2 12),y 49 47 (r 1 48),y 50 47 (.bin .eql (.t 49) (.k (.val (.int .i64 3)))),z 51 45 (.pick (.t 47)
 (.t 50) (.k (.val (.bool false)))),x 52 (.pick (.t 45) (.k (.val (.bool true))) (.t 51))] (.cond 52 (.reg [f 53 2 12,(.mk none none (.store 1 (.t 53) (.k (.val (.int .i64 2)))))]) .skip)) (.seq (s [f 54 2 12,l 55 54,q 56 .eql 55 3]
 (.cond 56 (.reg [f 57 1 12,(.mk none none (.store 1 (.t 57) (.k (.val (.int .i64 2)))))]) .skip)) (.reg [f 58 1 9,l 59 58,h 60 4 12,x 61 (.bslice 4 [] 1 true [(0,(.t 60))]),x 62 (.append 4 40 (.t 59) (.t 61)),f 63 1 9,(.mk none none
 (.store 1 (.t 63) (.t 62)))])))))) (.reg [m 21 11,q 22 .add 21 1,m 11 22]))))) (s [h 64 2 9,t 8 2 64] .ret))))),[(.c 8 2 true)]⟩
theorem i42:iF 42 g42:=jF Tryd.func42 [(6,532496)]
def g43:GFun:=⟨⟨12,[]⟩,(s [x 4 (.mov (.k (.val (.string (ByteArray.mk #[])))))] (s [m 5 1,m 6 0,m 7 1,n 8 7,c 9 41 [.t 6,.t 8],i 10 1 5 9,l 11 10,m 4 11] .ret)),[.t 4]⟩
theorem i43:iF 43 g43:=jF Tryd.func43
def g44:GFun:=⟨⟨77,[5,8,11,13,1000015,3000063]⟩,(s [a 5 2 1,x 6 (.box 6 (.t 2)),u 8 6] (s [h 16 2 5,h 17 6 6,c 18 55 [.t 16,.t 17],m 9 18] (.seq (s [k 10 0] (B 0 (.seq (s [m 19 10,m 20 9,n 21 20,o 22 .lss 19 21] (.cond 22 .skip
 (.exit 0))) (.seq (.block 1 (s [m 28 9,m 29 10,i 30 2 28 29,f 31 0 30,u 11 2,h 26 2 5,h 27 6 6,l 32 31,x 33 (.call true 56 [.t 27,.t 32]),x 34 (.call true 9 [.t 26,.t 33]),m 25 34,v 35 25 0,v 36 25 1,t 11 2 35,m 12 36] (s [m 39 9,m 40 10,
 i 41 2 39 40,f 42 1 41,u 13 4,h 38 2 11,l 43 42,x 44 (.call true 57 [.t 38,.t 43]),m 37 44,v 45 37 0,v 46 37 1,t 13 4 45,m 14 46] (s [m 47 0,f 50 1 13,m 52 0,m 55 3,u 15 7,h 48 2 5,h 49 6 6,l 51 50,x 53 (.calla 41 [.t 52,(.k (.val
 (.int .i64 3)))]),x 54 (.bin .add (.k (.val (.int .i64 1))) (.t 53)),x 56 (.calla 58 [.t 47,.t 48,.t 49,.t 51,.t 54,.t 55]),x 15 (.strb 7 15 (.t 56))] (.seq (s [h 57 7 15,c 58 59 [.t 57],w 59 58] (.cond 59 (.reg [m 60 0,f 61 1 13,l 62 61,
 x 63 (.bslro 2 [] 0 true []),c 64 60 [.t 60,.t 62,.t 63],x 15 (.strb 7 15 (.t 64))]) .skip)) (.reg [f 65 4 6,m 67 9,m 68 10,i 69 2 67 68,l 66 65,h 70 2 69,h 71 7 15,x 72 (.build [(.val (.int .i64 0)),(.val (.string (ByteArray.mk #[]))),
 (.val (.int .i64 0)),(.val (.int .i64 0)),(.val (.int .i64 0)),(.val (.int .i64 0)),(.val (.string (ByteArray.mk #[]))),(.val (.string (ByteArray.mk #[]))),(.val (.slice none 0 0))] [(0,(2,(.t 70))),(2,(7,(.t 71)))]),x 73
 (.bslice 9 [] 1 true [(0,(.t 72))]),x 74 (.append 9 112 (.t 66) (.t 73)),f 75 4 6,(.mk none none (.store 1 (.t 75) (.t 74)))])))))) (.reg [m 23 10,q 24 .add 23 1,m 10 24]))))) (s [h 76 6 6,t 8 6 76] .ret)))),[(.c 8 6 true)]⟩
theorem i44:iF 44 g44:=jF Tryd.func44 [(7,532496)]
def g45:GFun:=⟨⟨76,[4,6,9]⟩,(s [a 4 2 1,x 5 (.box 6 (.t 2)),u 6 6] (.seq (s [k 7 0] (B 0 (.seq (s [m 10 7,f 11 0 4,l 12 11,n 13 12,o 14 .lss 10 13] (.cond 14 .skip (.exit 0))) (.seq (.block 1 (s [k 8 0] (B 2 (.seq (s [m 17 8,f 18 0 4,
 l 19 18,m 20 7,i 21 2 19 20,f 22 1 21,l 23 22,n 24 23,o 25 .lss 17 24] (.cond 25 .skip (.exit 2))) (.seq (.block 3 (s [f 28 0 4,l 29 28,m 30 7,i 31 2 29 30,f 32 1 31,l 33 32,m 34 8,i 35 4 33 34,h 36 4 35,u 9 4,t 9 4 36] (s [f 37 2 9,
 l 38 37,q 39 .eql 38 3,m 40 39,y 41 40 (p 1 5 5),y 42 40 (r 1 41),y 43 40 (.len (.t 42)),y 44 40 (.bin .lss (.t 43) (.k (.val (.int .i64 2)))),x 45 (.pick (.t 40) (.t 44) (.k (.val (.bool false)))),m 46 45,y 47 46 (.mov (.t 0)),y 48 46
 (.call false 30 [.t 47,(.k (.val (.int .i64 3)))]),y 49 46 (.not (.t 48)),x 50 (.pick (.t 46) (.t 49) (.k (.val (.bool false))))] (.cond 50 (.reg [f 51 5 5,f 53 0 4,m 55 7,f 59 0 9,m 61 0,m 66 0,l 52 51,l 54 53,i 56 2 54 55,f 57 0 56,
 l 58 57,l 60 59,h 62 2 4,h 63 6 5,x 64 (.call true 61 [.t 62,.t 63,(.k (.val (.int .i64 4)))]),h 67 2 4,h 68 6 5,x 65 (.calla 60 [.t 61,(.k (.val (.int .i64 4))),.t 64]),x 69 (.call true 61 [.t 67,.t 68,(.k (.val (.int .i64 2)))]),x 70
 (.calla 60 [.t 66,(.k (.val (.int .i64 2))),.t 69]),x 71 (.build [(.val (.string (ByteArray.mk #[]))),(.val (.string (ByteArray.mk #[]))),(.val (.int .i64 0)),(.val (.int .i64 0)),(.val (.int .i64 0)),(.val (.int .i64 0)),(.val (.string
 (ByteArray.mk #[]))),(.val (.string (ByteArray.mk #[]))),(.val (.slice none 0 0)),(.val (.int .i64 0)),(.val (.int .i64 0)),(.val (.int .i64 0)),(.val (.int .i64 0)),(.val (.string (ByteArray.mk #[]))),(.val (.string (ByteArray.mk #[]))),
 (.val (.slice none 0 0))] [(0,(1,(.t 58))),(1,(1,(.t 60))),(2,(7,(.t 65))),(9,(7,(.t 70)))]),x 72 (.bslice 16 [] 1 true [(0,(.t 71))]),x 73 (.append 16 208 (.t 52) (.t 72)),f 74 5 5,(.mk none none (.store 1 (.t 74) (.t 73)))]) .skip))))
 (.reg [m 26 8,q 27 .add 26 1,m 8 27])))))) (.reg [m 15 7,q 16 .add 15 1,m 7 16]))))) (s [h 75 6 5,t 6 6 75] .ret))),[(.c 6 6 true)]⟩
theorem i45:iF 45 g45:=jF Tryd.func45 [(9,550292684816)]
def g46:GFun:=⟨⟨53,[3,4,1000005]⟩,(s [a 3 2 1,u 4 1] (s [m 7 0,m 11 0,m 14 0,u 5 1,h 8 2 3,h 9 2 3,x 10 (.call true 63 [.t 9]),x 12 (.calla 41 [.t 11,(.k (.val (.int .i64 12)))]),x 13 (.bin .add (.k (.val (.int .i64 6))) (.t 12)),x 15
 (.calla 41 [.t 14,(.k (.val (.int .i64 3)))]),q 16 .mul 15 10,x 17 (.bin .add (.k (.val (.int .i64 1))) (.t 16)),x 18 (.calla 62 [.t 7,.t 8,.t 10,.t 13,.t 17]),x 5 (.strb 1 5 (.t 18))] (.seq (s [f 19 0 5,l 20 19,n 21 20,q 22 .gtr 21 16]
 (.cond 22 (.reg [m 23 0,h 24 2 3,h 25 2 3,x 26 (.call true 63 [.t 25]),x 27 (.calla 62 [.t 23,.t 24,.t 26,(.k (.val (.int .i64 1))),(.k (.val (.int .i64 1)))]),x 5 (.strb 1 5 (.t 27))]) .skip)) (.seq (s [m 28 0,c 29 30 [.t 28,(.k (.val
 (.int .i64 3)))]] (.cond 29 (s [k 6 0] (B 0 (.seq (s [m 30 6,f 31 0 5,l 32 31,n 33 32,o 34 .lss 30 33] (.cond 34 .skip (.exit 0))) (.seq (.block 1 (.reg [f 37 0 5,m 39 6,f 40 0 5,m 42 6,l 38 37,l 41 40,i 43 6 41 42,f 44 0 43,l 45 44,
 q 46 .mul 45 7,q 47 .add 46 3,q 48 .rem 47 97,q 49 .add 48 1,i 50 6 38 39,f 51 0 50,(.mk none none (.store 1 (.t 51) (.t 49)))])) (.reg [m 35 6,q 36 .add 35 1,m 6 36]))))) .skip)) (s [h 52 1 5,t 4 1 52] .ret))))),[(.c 4 1 true)]⟩
theorem i46:iF 46 g46:=jF Tryd.func46 [(1,8521744),(3,528)]
def g47:GFun:=⟨⟨12,[]⟩,(s [k 4 0] (s [m 5 1,m 6 0,m 7 1,n 8 7,c 9 41 [.t 6,.t 8],i 10 1 5 9,l 11 10,m 4 11] .ret)),[.t 4]⟩
theorem i47:iF 47 g47:=jF Tryd.func47
def g48:GFun:=⟨⟨43,[3,4,8]⟩,(s [a 3 2 0,a 4 1 1,b 6 false] (.seq (s [f 9 0 4,l 10 9,n 11 10,c 12 52 [.t 11,(.k (.val (.int .i64 1))),(.k (.val (.int .i64 16)))],w 13 12] (.cond 13 (s [b 6 false] .ret) .skip)) (.seq (s [f 14 0 4,l 15 14,
 n 16 15,k 17 0] (B 0 (s [o 18 .lss 17 16] (C 18 0 (.seq (.block 1 (s [m 19 17,i 20 6 15 17,h 21 6 20,u 8 6,m 7 19,t 8 6 21] (s [f 22 0 8,l 23 22,c 24 52 [.t 23,(.k (.val (.int .i64 1))),(.k (.val (.int .i64 999)))],w 25 24,m 26 25,
 z 27 26 (p 1 0 4),z 28 26 (r 1 27),z 29 26 (.mov (.t 7)),z 30 26 (.slc 6 (.t 28) none (some (.t 29))),z 31 26 (.mkfn 65 [.t 8]),z 32 26 (.call false 64 [.t 30,.t 31]),x 33 (.pick (.t 26) (.k (.val (.bool true))) (.t 32))] (.cond 33
 (s [b 6 false] .ret) .skip)))) (.reg [q 34 .add 17 1,m 17 34])))))) (s [m 37 2,f 39 0 4,h 35 2 3,h 36 1 4,x 38 (.call true 66 [.t 35,.t 36,(.k (.val (.int .i64 0))),(.k (.val (.int .i64 (-1)))),(.k (.val (.int .i64 0))),.t 37]),l 40 39,
 n 41 40,o 42 .eql 38 41,m 6 42] .ret)))),[.t 6]⟩
theorem i48:iF 48 g48:=jF Tryd.func48
def g49:GFun:=⟨⟨18,[]⟩,(s [b 4 false] (.seq (s [k 5 0] (B 0 (.seq (s [m 6 5,m 7 0,n 8 7,o 9 .lss 6 8] (.cond 9 .skip (.exit 0))) (.seq (.block 1 (s [m 12 0,m 13 5,i 14 1 12 13,l 15 14,m 16 1,o 17 .eql 15 16] (.cond 17
 (s [b 4 true] .ret) .skip))) (.reg [m 10 5,q 11 .add 10 1,m 5 11]))))) (s [b 4 false] .ret))),[.t 4]⟩
theorem i49:iF 49 g49:=jF Tryd.func49
def g50:GFun:=⟨⟨14,[]⟩,(s [b 4 false] (s [m 5 1,c 6 19 [.t 5,(.k (.val (.int .i64 1))),(.k (.val (.int .i64 4)))],m 7 6,y 8 7 (.mov (.t 0)),y 9 7 (.mov (.t 1)),y 10 7 (.call false 67 [.t 8,.t 9]),y 11 7 (.mov (.t 0)),y 12 7 (.bin .eql
 (.t 10) (.t 11)),x 13 (.pick (.t 7) (.t 12) (.k (.val (.bool false)))),m 4 13] .ret)),[.t 4]⟩
theorem i50:iF 50 g50:=jF Tryd.func50
def g51:GFun:=⟨⟨25,[2]⟩,(s [x 1 (.box 7 (.t 0)),u 2 7] (s [x 5 (.bslice 7 [] 0 true []),m 3 5] (.seq (s [k 4 0] (B 0 (.seq (s [m 6 4,f 7 6 1,l 8 7,n 9 8,o 10 .lss 6 9] (.cond 10 .skip (.exit 0))) (.seq (.block 1 (.reg [m 13 3,f 14 6 1,
 l 15 14,m 16 4,i 17 7 15 16,h 18 7 17,c 19 51 [.t 18],x 20 (.bslice 7 [] 1 true [(0,(.t 19))]),x 21 (.append 7 88 (.t 13) (.t 20)),m 3 21])) (.reg [m 11 4,q 12 .add 11 1,m 4 12]))))) (s [m 22 3,f 23 6 1,(.mk none none (.store 1 (.t 23)
 (.t 22)))] (s [h 24 7 1,t 2 7 24] .ret))))),[(.c 2 7 true)]⟩
theorem i51:iF 51 g51:=jF Tryd.func51
def g52:GFun:=⟨⟨15,[]⟩,(s [b 6 false] (s [m 7 0,m 8 1,o 9 .geq 7 8,m 10 9,y 11 10 (.mov (.t 0)),y 12 10 (.mov (.t 2)),y 13 10 (.bin .leq (.t 11) (.t 12)),x 14 (.pick (.t 10) (.t 13) (.k (.val (.bool false)))),m 6 14] .ret)),[.t 6]⟩
theorem i52:iF 52 g52:=jF Tryd.func52
def g54:GFun:=⟨⟨58,[]⟩,(s [k 2 0] (s [m 4 0,m 5 0,x 6 (.nck (.t 5)),f 7 2 6,l 8 7,q 9 .mul 8 6364136223846793005,q 10 .add 9 1442695040888963407,x 11 (.nck (.t 4)),f 12 2 11,(.mk none none (.store 1 (.t 12) (.t 10)))] (s [m 13 0,x 14
 (.nck (.t 13)),f 15 2 14,m 18 0,x 19 (.nck (.t 18)),f 20 2 19,l 16 15,x 17 (.bin .shr (.t 16) (.k (.val (.int .u64 33)))),l 21 20,x 22 (.bin .shr (.t 21) (.k (.val (.int .u64 45)))),o 23 .xor 17 22,q 24 .and 23 255,m 3 24] (.seq
 (s [m 25 0,x 26 (.nck (.t 25)),f 27 1 26,m 29 0,x 30 (.nck (.t 29)),f 31 0 30,l 28 27,l 32 31,n 33 32,o 34 .lss 28 33] (.cond 34 (s [m 35 3,m 36 0,x 37 (.nck (.t 36)),f 38 0 37,m 40 0,x 41 (.nck (.t 40)),f 42 1 41,l 39 38,l 43 42,
 i 44 1 39 43,l 45 44,x 46 (.conv .i64 (.t 45)),o 47 .add 35 46,q 48 .and 47 255,m 3 48] (.reg [m 49 0,m 50 0,x 51 (.nck (.t 50)),f 52 1 51,l 53 52,q 54 .add 53 1,x 55 (.nck (.t 49)),f 56 1 55,(.mk none none (.store 1 (.t 56)
 (.t 54)))])) .skip)) (s [m 57 3,m 2 57] .ret))))),[.t 2]⟩
theorem i54:iF 54 g54:=jF Tryd.func54
def g55:GFun:=⟨⟨56,[2,3,7]⟩,(s [a 2 2 0,a 3 6 1,x 4 (.mov (.k (.val (.slice none 0 0))))] (s [x 11 (.bslice 2 [] 0 true []),m 5 11] (.seq (s [k 6 0] (B 0 (.seq (s [m 12 6,f 13 2 3,l 14 13,n 15 14,o 16 .leq 12 15] (.cond 16 .skip
 (.exit 0))) (.seq (.block 1 (s [m 22 6,u 7 2,h 20 2 2,h 21 6 3,x 23 (.call true 56 [.t 21,.t 22]),x 24 (.call true 9 [.t 20,.t 23]),m 19 24,v 25 19 0,v 26 19 1,t 7 2 25,m 8 26] (s [k 9 1] (.seq (s [m 27 6,q 28 .eql 27 0] (.cond 28
 (.reg [k 9 2]) .skip)) (s [k 10 0] (B 2 (.seq (s [m 29 10,f 30 1 7,l 31 30,n 32 31,o 33 .lss 29 32] (.cond 33 .skip (.exit 2))) (.seq (.block 3 (s [f 36 1 7,l 37 36,m 38 10,i 39 4 37 38,f 40 2 39,l 41 40,m 42 9,o 43 .eql 41 42] (.cond 43
 (.reg [m 44 5,m 45 6,f 46 1 7,l 47 46,m 48 10,i 49 4 47 48,f 50 0 49,l 51 50,x 52 (.build [(.val (.int .i64 0)),(.val (.string (ByteArray.mk #[])))] [(0,(1,(.t 45))),(1,(1,(.t 51)))]),x 53 (.bslice 2 [] 1 true [(0,(.t 52))]),x 54
 (.append 2 24 (.t 44) (.t 53)),m 5 54]) .skip))) (.reg [m 34 10,q 35 .add 34 1,m 10 35]))))))))) (.reg [m 17 6,q 18 .add 17 1,m 6 18]))))) (s [m 55 5,m 4 55] .ret)))),[.t 4]⟩
theorem i55:iF 55 g55:=jF Tryd.func55
def g56:GFun:=⟨⟨21,[2]⟩,(s [a 2 6 0,x 4 (.mov (.k (.val (.string (ByteArray.mk #[])))))] (.seq (s [m 5 1,q 6 .eql 5 0] (.cond 6 (s [f 7 1 2,l 8 7,m 4 8] .ret) .skip)) (.seq (s [m 9 1,f 10 2 2,l 11 10,n 12 11,c 13 19 [.t 9,(.k (.val
 (.int .i64 1))),.t 12],w 14 13] (.cond 14 (s [x 4 (.mov (.k (.val (.string (ByteArray.mk #[])))))] .ret) .skip)) (s [f 15 2 2,l 16 15,m 17 1,q 18 .sub 17 1,i 19 1 16 18,l 20 19,m 4 20] .ret)))),[.t 4]⟩
theorem i56:iF 56 g56:=jF Tryd.func56
def g57:GFun:=⟨⟨28,[2,4]⟩,(s [a 2 2 0,u 4 4,b 5 false] (.seq (s [k 6 0] (B 0 (.seq (s [m 7 6,f 8 1 2,l 9 8,n 10 9,o 11 .lss 7 10] (.cond 11 .skip (.exit 0))) (.seq (.block 1 (s [f 14 1 2,l 15 14,m 16 6,i 17 4 15 16,f 18 0 17,l 19 18,
 m 20 1,o 21 .eql 19 20] (.cond 21 (s [f 22 1 2,l 23 22,m 24 6,i 25 4 23 24,h 26 4 25,t 4 4 26,b 5 true] .ret) .skip))) (.reg [m 12 6,q 13 .add 12 1,m 6 13]))))) (s [x 27 (.build [(.val (.string (ByteArray.mk #[]))),(.val (.int .i64 0)),
 (.val (.int .i64 0)),(.val (.bool false))] []),t 4 4 27,b 5 false] .ret))),[(.c 4 4 true),.t 5]⟩
theorem i57:iF 57 g57:=jF Tryd.func57
def g58:GFun:=⟨⟨155,[7,8,12,13,14,3000124,3000129,3000110]⟩,(s [a 7 2 1,a 8 6 2,u 12 7] (.seq (s [m 19 4,q 20 .lss 19 2,m 21 20,z 22 21 (.mov (.t 0)),z 23 21 (.call false 30 [.t 22,(.k (.val (.int .i64 3)))]),x 24 (.pick (.t 21) (.k
 (.val (.bool true))) (.t 23))] (.cond 24 (.seq (s [m 25 3,q 26 .eql 25 1,m 27 26,y 28 27 (p 1 3 8),y 29 27 (r 1 28),x 30 (.pick (.t 27) (.t 29) (.k (.val (.bool false)))),m 31 30,y 32 31 (.mov (.t 0)),y 33 31 (.call false 30 [.t 32,(.k
 (.val (.int .i64 3)))]),x 34 (.pick (.t 31) (.t 33) (.k (.val (.bool false))))] (.cond 34 (s [x 35 (.build [(.val (.int .i64 0)),(.val (.int .i64 0)),(.val (.int .i64 0)),(.val (.int .i64 0)),(.val (.string (ByteArray.mk #[]))),(.val
 (.string (ByteArray.mk #[]))),(.val (.slice none 0 0))] [(0,(1,(.k (.val (.int .i64 2)))))]),t 12 7 35] .ret) .skip)) (s [m 36 0,m 37 3,h 38 2 7,h 39 6 8,m 40 3,c 41 61 [.t 38,.t 39,.t 40],c 42 60 [.t 36,.t 37,.t 41],
 t 12 7 42] .ret)) .skip)) (.seq (s [m 43 5,m 44 43,y 45 44 (.mov (.t 0)),y 46 44 (.call false 30 [.t 45,(.k (.val (.int .i64 4)))]),x 47 (.pick (.t 44) (.t 46) (.k (.val (.bool false))))] (.cond 47 (s [f 48 0 7,m 50 0,f 51 0 7,u 13 2,
 l 49 48,l 52 51,n 53 52,x 54 (.calla 41 [.t 50,.t 53]),i 55 2 49 54,h 56 2 55,t 13 2 56] (s [f 57 1 13,m 59 0,f 60 1 13,u 14 4,l 58 57,l 61 60,n 62 61,x 63 (.calla 41 [.t 59,.t 62]),i 64 4 58 63,h 65 4 64,t 14 4 65] (s [f 66 1 14,l 67 66,
 m 68 3,o 69 .eql 67 68] (.cond 69 (s [f 70 0 13,f 72 0 14,m 74 0,l 71 70,l 73 72,h 75 2 7,h 76 6 8,x 77 (.call true 61 [.t 75,.t 76,(.k (.val (.int .i64 4)))]),x 78 (.calla 60 [.t 74,(.k (.val (.int .i64 4))),.t 77]),x 79
 (.bslice 7 [] 1 true [(0,(.t 78))]),x 80 (.build [(.val (.int .i64 0)),(.val (.int .i64 0)),(.val (.int .i64 0)),(.val (.int .i64 0)),(.val (.string (ByteArray.mk #[]))),(.val (.string (ByteArray.mk #[]))),(.val (.slice none 0 0))] [(0,(1,
 (.k (.val (.int .i64 8))))),(4,(1,(.t 71))),(5,(1,(.t 73))),(6,(1,(.t 79)))]),t 12 7 80] .ret) .skip)))) .skip)) (.seq (s [m 81 0,c 82 30 [.t 81,(.k (.val (.int .i64 6)))]] (.cond 82 (s [m 83 0,m 86 4,q 87 .sub 86 1,m 88 5,m 90 0,m 93 3,
 m 94 4,q 95 .sub 94 1,m 96 5,m 98 0,m 101 3,m 102 4,q 103 .sub 102 1,m 104 5,h 84 2 7,h 85 6 8,h 91 2 7,h 92 6 8,h 99 2 7,h 100 6 8,x 89 (.calla 58 [.t 83,.t 84,.t 85,(.k (.val (.int .i64 3))),.t 87,.t 88]),x 97 (.calla 58 [.t 90,.t 91,
 .t 92,.t 93,.t 95,.t 96]),x 105 (.calla 58 [.t 98,.t 99,.t 100,.t 101,.t 103,.t 104]),x 106 (.bslice 7 [] 3 true [(0,(.t 89)),(1,(.t 97)),(2,(.t 105))]),x 107 (.build [(.val (.int .i64 0)),(.val (.int .i64 0)),(.val (.int .i64 0)),(.val
 (.int .i64 0)),(.val (.string (ByteArray.mk #[]))),(.val (.string (ByteArray.mk #[]))),(.val (.slice none 0 0))] [(0,(1,(.k (.val (.int .i64 5))))),(6,(1,(.t 106)))]),t 12 7 107] .ret) .skip)) (s [k 15 0] (.seq (s [m 108 3] (.block 0
 (s [q 113 .eql 108 4,m 112 113] (.cond 112 (s [m 114 0,m 115 3,h 116 2 7,h 117 6 8,m 118 3,c 119 61 [.t 116,.t 117,.t 118],c 120 60 [.t 114,.t 115,.t 119],t 12 7 120] .ret) (s [q 122 .eql 108 1,m 121 122] (.cond 121 (.reg [m 123 0,x 124
 (.bslro 1 [] 6 false [(0,(.k (.val (.int .i64 1)))),(1,(.k (.val (.int .i64 1)))),(2,(.k (.val (.int .i64 2)))),(3,(.k (.val (.int .i64 3)))),(4,(.k (.val (.int .i64 4)))),(5,(.k (.val (.int .i64 5))))]),c 125 47 [.t 123,.t 124],
 m 15 125]) (s [q 127 .eql 108 2,m 126 127] (.cond 126 (.reg [m 128 0,x 129 (.bslro 1 [] 5 false [(0,(.k (.val (.int .i64 6)))),(1,(.k (.val (.int .i64 6)))),(2,(.k (.val (.int .i64 7)))),(3,(.k (.val (.int .i64 8)))),(4,(.k (.val
 (.int .i64 12))))]),c 130 47 [.t 128,.t 129],m 15 130]) (.reg [m 109 0,x 110 (.bslro 1 [] 3 false [(0,(.k (.val (.int .i64 9)))),(1,(.k (.val (.int .i64 10)))),(2,(.k (.val (.int .i64 11))))]),c 111 47 [.t 109,.t 110],m 15 111])))))))))
 (s [m 132 15,c 133 69 [.t 132],m 131 133,v 134 131 0,v 135 131 1,v 136 131 2,m 16 134,m 17 135,m 18 136] (s [m 137 15,m 138 0,m 141 16,m 142 4,q 143 .sub 142 1,m 144 5,m 146 0,m 149 17,m 150 4,q 151 .sub 150 1,m 152 5,h 139 2 7,h 140 6 8,
 h 147 2 7,h 148 6 8,x 145 (.calla 58 [.t 138,.t 139,.t 140,.t 141,.t 143,.t 144]),x 153 (.calla 58 [.t 146,.t 147,.t 148,.t 149,.t 151,.t 152]),x 154 (.calla 70 [.t 137,.t 145,.t 153]),t 12 7 154] .ret)))))))),[(.c 12 7 true)]⟩
theorem i58:iF 58 g58:=jF Tryd.func58 [(6,8208),(7,8208),(9,131088),(11,35184908967952),(22,42949804048)]
def g59:GFun:=⟨⟨15,[1]⟩,(s [a 1 7 0,b 2 false] (s [h 3 7 1,c 4 71 [.t 3,(.k (.val (.int .i64 24)))],q 5 .geq 4 0,m 6 5,y 7 6 (j 7 1),y 8 6 (.call false 72 [.t 7]),y 9 6 (.bin .leq (.t 8) (.k (.val (.int .i64 6)))),x 10 (.pick (.t 6)
 (.t 9) (.k (.val (.bool false)))),m 11 10,y 12 11 (j 7 1),y 13 11 (.call false 73 [.t 12]),x 14 (.pick (.t 11) (.t 13) (.k (.val (.bool false)))),m 2 14] .ret)),[.t 2]⟩
theorem i59:iF 59 g59:=jF Tryd.func59
def g60:GFun:=⟨⟨52,[6,7]⟩,(s [u 6 7] (.seq (s [m 8 2,n 9 8,q 10 .gtr 9 0,m 11 10,y 12 11 (.mov (.t 0)),y 13 11 (.call false 30 [.t 12,(.k (.val (.int .i64 4)))]),y 14 11 (.not (.t 13)),x 15 (.pick (.t 11) (.t 14) (.k (.val
 (.bool false))))] (.cond 15 (s [m 16 2,m 17 0,m 18 2,n 19 18,c 20 41 [.t 17,.t 19],i 21 2 16 20,h 22 2 21,u 7 2,t 7 2 22] (s [f 23 0 7,l 24 23,f 25 1 7,l 26 25,x 27 (.build [(.val (.int .i64 0)),(.val (.int .i64 0)),(.val (.int .i64 0)),
 (.val (.int .i64 0)),(.val (.string (ByteArray.mk #[]))),(.val (.string (ByteArray.mk #[]))),(.val (.slice none 0 0))] [(0,(1,(.k (.val (.int .i64 3))))),(2,(1,(.t 24))),(5,(1,(.t 26)))]),t 6 7 27] .ret)) .skip)) (.seq (s [m 28 1]
 (.block 0 (s [q 30 .eql 28 4,m 29 30] (.cond 29 (.seq (s [m 31 0,c 32 30 [.t 31,(.k (.val (.int .i64 3)))]] (.cond 32 (s [x 33 (.build [(.val (.int .i64 0)),(.val (.int .i64 0)),(.val (.int .i64 0)),(.val (.int .i64 0)),(.val (.string
 (ByteArray.mk #[]))),(.val (.string (ByteArray.mk #[]))),(.val (.slice none 0 0))] [(0,(1,(.k (.val (.int .i64 7)))))]),t 6 7 33] .ret) .skip)) (s [x 34 (.build [(.val (.int .i64 0)),(.val (.int .i64 0)),(.val (.int .i64 0)),(.val
 (.int .i64 0)),(.val (.string (ByteArray.mk #[]))),(.val (.string (ByteArray.mk #[]))),(.val (.slice none 0 0))] [(0,(1,(.k (.val (.int .i64 6)))))]),t 6 7 34] .ret)) (s [q 36 .eql 28 3,m 35 36] (.cond 35 (s [m 37 0,c 38 41 [.t 37,(.k
 (.val (.int .i64 2)))],m 39 1,c 40 74 [.t 38,.t 39],t 6 7 40] .ret) (s [q 42 .eql 28 2,m 41 42] (.cond 41 (s [m 43 0,c 44 41 [.t 43,(.k (.val (.int .i64 12)))],x 45 (.conv .u64 (.t 44)),x 46 (.bin .shl (.k (.val (.int .i64 1))) (.t 45)),
 m 47 1,c 48 74 [.t 46,.t 47],t 6 7 48] .ret) .skip)))))))) (s [m 49 0,c 50 41 [.t 49,(.k (.val (.int .i64 9)))],c 51 74 [.t 50,(.k (.val (.int .i64 1)))],t 6 7 51] .ret)))),[(.c 6 7 true)]⟩
theorem i60:iF 60 g60:=jF Tryd.func60
def g61:GFun:=⟨⟨73,[3,4,9,12]⟩,(s [a 3 2 0,a 4 6 1,x 6 (.mov (.k (.val (.slice none 0 0))))] (s [x 14 (.bslice 2 [] 0 true []),m 7 14] (.seq (s [k 8 0] (B 0 (.seq (s [m 15 8,f 16 2 4,l 17 16,n 18 17,o 19 .leq 15 18] (.cond 19 .skip
 (.exit 0))) (.seq (.block 1 (s [m 25 8,u 9 2,h 23 2 3,h 24 6 4,x 26 (.call true 56 [.t 24,.t 25]),x 27 (.call true 9 [.t 23,.t 26]),m 22 27,v 28 22 0,v 29 22 1,t 9 2 28,m 10 29] (s [k 11 0] (B 2 (.seq (s [m 30 11,f 31 1 9,l 32 31,n 33 32,
 o 34 .lss 30 33] (.cond 34 .skip (.exit 2))) (.seq (.block 3 (s [f 37 1 9,l 38 37,m 39 11,i 40 4 38 39,h 41 4 40,u 12 4,t 12 4 41] (s [m 42 8,q 43 .eql 42 0,m 44 43,y 45 44 (p 1 2 12),y 46 44 (r 1 45),y 47 44 (.bin .eql (.t 46) (.k (.val
 (.int .i64 1)))),x 48 (.pick (.t 44) (.t 47) (.k (.val (.bool false)))),m 49 48,z 50 49 (.mov (.t 8)),z 51 49 (.bin .gtr (.t 50) (.k (.val (.int .i64 0)))),z 52 49 (.mov (.t 51)),y 53 52 (p 1 2 12),y 54 52 (r 1 53),y 55 52 (.bin .eql
 (.t 54) (.k (.val (.int .i64 2)))),z 56 49 (.pick (.t 52) (.t 55) (.k (.val (.bool false)))),x 57 (.pick (.t 49) (.k (.val (.bool true))) (.t 56)),m 13 57] (s [f 58 1 12,l 59 58,m 60 2,o 61 .eql 59 60,m 62 61,y 63 62 (.mov (.t 13)),x 64
 (.pick (.t 62) (.t 63) (.k (.val (.bool false))))] (.cond 64 (.reg [m 65 7,m 66 8,f 67 0 12,l 68 67,x 69 (.build [(.val (.int .i64 0)),(.val (.string (ByteArray.mk #[])))] [(0,(1,(.t 66))),(1,(1,(.t 68)))]),x 70 (.bslice 2 [] 1 true [(0,
 (.t 69))]),x 71 (.append 2 24 (.t 65) (.t 70)),m 7 71]) .skip))))) (.reg [m 35 11,q 36 .add 35 1,m 11 36]))))))) (.reg [m 20 8,q 21 .add 20 1,m 8 21]))))) (s [m 72 7,m 6 72] .ret)))),[.t 6]⟩
theorem i61:iF 61 g61:=jF Tryd.func61
def g62:GFun:=⟨⟨70,[6,10,11,16]⟩,(s [a 6 2 1,u 10 1] (s [m 17 0,h 18 2 6,m 19 2,m 20 3,c 21 75 [.t 17,.t 18,.t 19,.t 20],u 11 6,t 11 6 21] (s [m 22 4,f 23 0 11,l 24 23,x 25 (.build [(.val (.int .i64 0)),(.val (.int .i64 0)),(.val
 (.int .i64 0)),(.val (.int .i64 0)),(.val (.string (ByteArray.mk #[]))),(.val (.slice none 0 0))] [(0,(1,(.t 22))),(4,(1,(.t 24)))]),x 12 (.alloc 6 (.agg [(.val (.int .i64 0)),(.val (.int .i64 0)),(.val (.int .i64 0)),(.val (.int .i64 0)),
 (.val (.string (ByteArray.mk #[]))),(.val (.slice none 0 0))])),(.mk none none (.store 6 (.t 12) (.t 25)))] (.seq (s [f 26 3 11,l 27 26] (.cond 27 (.reg [m 28 0,c 29 41 [.t 28,(.k (.val (.int .i64 9)))],q 30 .sub 29 2,f 31 3 12,
 (.mk none none (.store 1 (.t 31) (.t 30)))]) .skip)) (s [m 32 4,q 33 .add 32 1,m 13 33] (s [x 34 (.bslice 1 [] 0 true []),m 14 34] (.seq (s [k 15 0] (B 0 (.seq (s [m 35 15,f 36 2 11,l 37 36,n 38 37,o 39 .lss 35 38] (.cond 39 .skip
 (.exit 0))) (.seq (.block 1 (s [m 42 0,f 44 2 11,m 46 15,m 49 3,f 50 2 11,m 56 13,u 16 1,h 43 2 6,l 45 44,i 47 1 45 46,l 48 47,l 51 50,n 52 51,x 53 (.call true 76 [(.k (.val (.int .i64 1))),.t 52]),o 54 .quo 49 53,q 55 .sub 54 1,x 57
 (.calla 62 [.t 42,.t 43,.t 48,.t 55,.t 56]),t 16 1 57] (s [m 58 13,f 59 0 16,l 60 59,n 61 60,o 62 .add 58 61,m 13 62] (.reg [m 63 14,h 64 1 16,x 65 (.bslice 1 [] 1 true [(0,(.t 64))]),x 66 (.append 1 24 (.t 63) (.t 65)),m 14 66]))))
 (.reg [m 40 15,q 41 .add 40 1,m 15 41]))))) (s [h 67 6 12,m 68 14,c 69 77 [.t 67,.t 68],t 10 1 69] .ret)))))))),[(.c 10 1 true)]⟩
theorem i62:iF 62 g62:=jF Tryd.func62 [(10,2147483664)]
def g63:GFun:=⟨⟨12,[1]⟩,(s [a 1 2 0,x 2 (.mov (.k (.val (.string (ByteArray.mk #[])))))] (.seq (s [f 3 0 1,l 4 3,n 5 4,q 6 .eql 5 0] (.cond 6 (s [x 2 (.mov (.k (.val (.string (ByteArray.mk #[])))))] .ret) .skip)) (s [f 7 0 1,l 8 7,x 9
 (.iaddr 2 (.t 8) (.k (.val (.int .i64 0)))),f 10 0 9,l 11 10,m 2 11] .ret))),[.t 2]⟩
theorem i63:iF 63 g63:=jF Tryd.func63
def g64:GFun:=⟨⟨9,[]⟩,(s [b 4 false] (s [m 5 0,m 6 1,c 7 36 [.t 5,.t 6],q 8 .geq 7 0,m 4 8] .ret)),[.t 4]⟩
theorem i64:iF 64 g64:=jF Tryd.func64
def g65:GFun:=⟨⟨9,[2]⟩,(s [a 2 6 0,b 3 false] (s [f 4 0 2,l 5 4,f 6 0 1,l 7 6,o 8 .eql 5 7,m 3 8] .ret)),[.t 3]⟩
theorem i65:iF 65 g65:=jF Tryd.func65
def g66:GFun:=⟨⟨110,[6,7,13,14]⟩,(s [a 6 2 0,a 7 1 1,k 12 0] (.seq (s [m 19 2,f 20 0 7,l 21 20,n 22 21,o 23 .geq 19 22] (.cond 23 (s [k 12 (-1)] .ret) .skip)) (s [f 24 0 7,l 25 24,m 26 2,i 27 6 25 26,h 28 6 27,u 13 6,t 13 6 28]
 (s [h 30 2 6,f 31 4 13,l 32 31,c 33 39 [.t 30,.t 32],m 29 33,v 34 29 0,v 35 29 1,u 14 6,t 14 6 34,m 15 35] (.seq (s [m 36 15,w 37 36,m 38 37,z 39 38 (p 1 1 14),z 40 38 (r 1 39),z 41 38 (.mov (.t 5)),z 42 38 (.bin .neq (.t 40) (.t 41)),
 x 43 (.pick (.t 38) (.k (.val (.bool true))) (.t 42)),m 44 43,z 45 44 (p 1 1 13),z 46 44 (r 1 45),z 47 44 (.mov (.t 3)),z 48 44 (.bin .neq (.t 46) (.t 47)),x 49 (.pick (.t 44) (.k (.val (.bool true))) (.t 48)),m 50 49,z 51 50 (p 1 2 13),
 z 52 50 (r 1 51),z 53 50 (.mov (.t 4)),z 54 50 (.bin .neq (.t 52) (.t 53)),x 55 (.pick (.t 50) (.k (.val (.bool true))) (.t 54)),m 56 55,z 57 56 (p 1 5 13),z 58 56 (r 1 57),z 59 56 (.len (.t 58)),z 60 56 (p 1 2 14),z 61 56 (r 1 60),
 z 62 56 (.len (.t 61)),z 63 56 (.bin .neq (.t 59) (.t 62)),x 64 (.pick (.t 56) (.k (.val (.bool true))) (.t 63)),m 65 64,z 66 65 (p 1 3 13),z 67 65 (r 1 66),z 68 65 (.call false 52 [.t 67,(.k (.val (.int .i64 (-1000000)))),(.k (.val
 (.int .i64 1000000)))]),z 69 65 (.not (.t 68)),x 70 (.pick (.t 65) (.k (.val (.bool true))) (.t 69)),m 71 70,z 72 71 (p 1 3 14),z 73 71 (r 1 72),z 74 71 (.not (.t 73)),z 75 71 (.mov (.t 74)),y 76 75 (p 1 3 13),y 77 75 (r 1 76),y 78 75
 (.bin .neq (.t 77) (.k (.val (.int .i64 0)))),z 79 71 (.pick (.t 75) (.t 78) (.k (.val (.bool false)))),x 80 (.pick (.t 71) (.k (.val (.bool true))) (.t 79))] (.cond 80 (s [k 12 (-1)] .ret) .skip)) (s [m 81 2,q 82 .add 81 1,m 16 82]
 (.seq (s [f 83 5 13,l 84 83,n 85 84,k 86 0] (B 0 (s [o 87 .lss 86 85] (C 87 0 (.seq (.block 1 (s [m 88 86,i 89 1 84 86,l 90 89,m 17 88,m 18 90] (.seq (s [m 91 18,m 92 16,o 93 .neq 91 92] (.cond 93 (s [k 12 (-1)] .ret) .skip)) (s [m 96 16,
 m 97 2,m 98 17,q 99 .add 98 1,f 100 2 14,m 102 17,h 94 2 6,h 95 1 7,l 101 100,i 103 1 101 102,l 104 103,x 105 (.call true 66 [.t 94,.t 95,.t 96,.t 97,.t 99,.t 104]),m 16 105] (s [m 106 16,q 107 .lss 106 0] (.cond 107 (s [k 12
 (-1)] .ret) .skip)))))) (.reg [q 108 .add 86 1,m 86 108])))))) (s [m 109 16,m 12 109] .ret)))))))),[.t 12]⟩
theorem i66:iF 66 g66:=jF Tryd.func66
def g67:GFun:=⟨⟨24,[]⟩,(s [k 4 0] (.seq (s [m 5 1] (.block 0 (s [q 7 .eql 5 1,m 6 7] (.cond 6 (s [m 8 0,c 9 78 [.t 8],m 4 9] .ret) (s [q 11 .eql 5 2,m 10 11] (.cond 10 (s [m 12 0,q 13 .and 12 4095,m 4 13] .ret) (s [q 15 .eql 5 3,
 m 14 15] (.cond 14 (s [m 16 0,q 17 .neq 16 0,c 18 79 [.t 17],m 4 18] .ret) (s [q 20 .eql 5 4,m 19 20] (.cond 19 (s [m 21 0,c 22 19 [.t 21,(.k (.val (.int .i64 0))),(.k (.val (.int .i64 999)))]] (.cond 22 (s [m 23 0,
 m 4 23] .ret) .skip)) .skip)))))))))) (s [k 4 0] .ret))),[.t 4]⟩
theorem i67:iF 67 g67:=jF Tryd.func67
def g69:GFun:=⟨⟨24,[]⟩,(s [k 2 0,k 3 0,k 4 0] (.seq (.block 0 (s [m 6 0,c 7 19 [.t 6,(.k (.val (.int .i64 1))),(.k (.val (.int .i64 5)))],m 5 7] (.cond 5 (s [k 2 1,k 3 1,k 4 1] .ret) (s [m 9 0,c 10 19 [.t 9,(.k (.val (.int .i64 6))),
 (.k (.val (.int .i64 8)))],m 8 10] (.cond 8 (s [k 2 2,k 3 2,k 4 2] .ret) (s [m 12 0,q 13 .eql 12 9,m 14 13,z 15 14 (.mov (.t 0)),z 16 14 (.bin .eql (.t 15) (.k (.val (.int .i64 10)))),x 17 (.pick (.t 14) (.k (.val (.bool true))) (.t 16)),
 m 11 17] (.cond 11 (s [k 2 1,k 3 1,k 4 3] .ret) (s [m 19 0,q 20 .eql 19 11,m 18 20] (.cond 18 (s [k 2 2,k 3 1,k 4 3] .ret) (s [m 22 0,q 23 .eql 22 12,m 21 23] (.cond 21 (s [k 2 2,k 3 1,k 4 2] .ret) .skip))))))))))) (s [k 2 0,k 3 0,
 k 4 0] .ret))),[.t 2,.t 3,.t 4]⟩
theorem i69:iF 69 g69:=jF Tryd.func69
def g70:GFun:=⟨⟨12,[4,5,6]⟩,(s [a 4 7 1,a 5 7 2,u 6 7] (s [m 7 0,h 8 7 4,h 9 7 5,x 10 (.bslice 7 [] 2 true [(0,(.t 8)),(1,(.t 9))]),x 11 (.build [(.val (.int .i64 0)),(.val (.int .i64 0)),(.val (.int .i64 0)),(.val (.int .i64 0)),
 (.val (.string (ByteArray.mk #[]))),(.val (.string (ByteArray.mk #[]))),(.val (.slice none 0 0))] [(0,(1,(.k (.val (.int .i64 4))))),(1,(1,(.t 7))),(6,(1,(.t 10)))]),t 6 7 11] .ret)),[(.c 6 7 true)]⟩
theorem i70:iF 70 g70:=jF Tryd.func70
def g71:GFun:=⟨⟨27,[2]⟩,(s [a 2 7 0,k 4 0] (s [m 6 1,q 7 .sub 6 1,m 1 7] (.seq (s [k 5 0] (B 0 (.seq (s [m 8 5,f 9 6 2,l 10 9,n 11 10,o 12 .lss 8 11,m 13 12,y 14 13 (.mov (.t 1)),y 15 13 (.bin .geq (.t 14) (.k (.val (.int .i64 0)))),
 x 16 (.pick (.t 13) (.t 15) (.k (.val (.bool false))))] (.cond 16 .skip (.exit 0))) (.seq (.block 1 (.reg [f 19 6 2,l 20 19,m 21 5,i 22 7 20 21,h 23 7 22,m 24 1,c 25 71 [.t 23,.t 24],m 1 25])) (.reg [m 17 5,q 18 .add 17 1,m 5 18])))))
 (s [m 26 1,m 4 26] .ret)))),[.t 4]⟩
theorem i71:iF 71 g71:=jF Tryd.func71
def g72:GFun:=⟨⟨22,[1]⟩,(s [a 1 7 0,k 2 0] (s [k 3 0] (.seq (s [k 4 0] (B 0 (.seq (s [m 5 4,f 6 6 1,l 7 6,n 8 7,o 9 .lss 5 8] (.cond 9 .skip (.exit 0))) (.seq (.block 1 (.reg [m 12 3,f 13 6 1,l 14 13,m 15 4,i 16 7 14 15,h 17 7 16,
 c 18 72 [.t 17],c 19 76 [.t 12,.t 18],m 3 19])) (.reg [m 10 4,q 11 .add 10 1,m 4 11]))))) (s [m 20 3,q 21 .add 20 1,m 2 21] .ret)))),[.t 2]⟩
theorem i72:iF 72 g72:=jF Tryd.func72
def g73:GFun:=⟨⟨20,[1]⟩,(s [a 1 7 0,b 2 false] (.seq (s [k 3 0] (B 0 (.seq (s [m 4 3,f 5 6 1,l 6 5,n 7 6,o 8 .lss 4 7] (.cond 8 .skip (.exit 0))) (.seq (.block 1 (s [f 11 6 1,l 12 11,m 13 3,i 14 7 12 13,h 15 7 14,c 16 73 [.t 15],
 w 17 16] (.cond 17 (s [b 2 false] .ret) .skip))) (.reg [m 9 3,q 10 .add 9 1,m 3 10]))))) (s [h 18 7 1,c 19 84 [.t 18],m 2 19] .ret))),[.t 2]⟩
theorem i73:iF 73 g73:=jF Tryd.func73
def g74:GFun:=⟨⟨8,[4]⟩,(s [u 4 7] (s [m 5 0,m 6 1,x 7 (.build [(.val (.int .i64 0)),(.val (.int .i64 0)),(.val (.int .i64 0)),(.val (.int .i64 0)),(.val (.string (ByteArray.mk #[]))),(.val (.string (ByteArray.mk #[]))),(.val
 (.slice none 0 0))] [(0,(1,(.k (.val (.int .i64 1))))),(1,(1,(.t 5))),(3,(1,(.t 6)))]),t 4 7 7] .ret)),[(.c 4 7 true)]⟩
theorem i74:iF 74 g74:=jF Tryd.func74
def g75:GFun:=⟨⟨101,[5,8,13,17]⟩,(s [a 5 2 1,u 8 6] (s [h 19 2 5,m 20 2,c 21 85 [.t 19,.t 20],m 9 21] (s [x 22 (.build [(.val (.string (ByteArray.mk #[]))),(.val (.string (ByteArray.mk #[]))),(.val (.slice none 0 0)),(.val
 (.bool false)),(.val (.slice none 0 0)),(.val (.slice none 0 0))] []),x 10 (.alloc 6 (.agg [(.val (.string (ByteArray.mk #[]))),(.val (.string (ByteArray.mk #[]))),(.val (.slice none 0 0)),(.val (.bool false)),(.val (.slice none 0 0)),
 (.val (.slice none 0 0))])),(.mk none none (.store 6 (.t 10) (.t 22)))] (s [h 23 2 5,c 24 86 [.t 23],m 11 24] (.seq (s [k 12 0] (B 0 (.seq (s [m 25 12,m 26 9,n 27 26,o 28 .lss 25 27] (.cond 28 .skip (.exit 0))) (.seq (.block 1 (s [m 33 9,
 m 34 12,i 35 1 33 34,u 13 6,h 32 2 5,l 36 35,x 37 (.call true 20 [.t 32,.t 36]),m 31 37,v 38 31 0,v 39 31 1,t 13 6 38,m 14 39] (s [b 15 true] (.seq (s [k 16 0] (B 2 (.seq (s [m 40 16,f 41 2 13,l 42 41,n 43 42,o 44 .lss 40 43]
 (.cond 44 .skip (.exit 2))) (.seq (.block 3 (.reg [m 47 15,m 48 47,y 49 48 (.mov (.t 11)),y 51 48 (p 1 2 13),y 53 48 (.mov (.t 16)),y 60 48 (.mov (.t 11)),y 62 48 (.mov (.t 2)),y 50 48 (j 2 5),y 52 48 (r 1 51),y 54 48 (.iaddr 1 (.t 52)
 (.t 53)),y 55 48 (r 1 54),y 56 48 (.call true 87 [.t 50,.t 55]),y 57 48 (.call true 76 [(.k (.val (.int .i64 0))),.t 56]),y 58 48 (.iaddr 1 (.t 49) (.t 57)),y 59 48 (r 1 58),y 61 48 (j 2 5),y 63 48 (.call true 87 [.t 61,.t 62]),y 64 48
 (.call true 76 [(.k (.val (.int .i64 0))),.t 63]),y 65 48 (.iaddr 1 (.t 60) (.t 64)),y 66 48 (r 1 65),y 67 48 (.bin .lss (.t 59) (.t 66)),x 68 (.pick (.t 48) (.t 67) (.k (.val (.bool false)))),m 15 68])) (.reg [m 45 16,q 46 .add 45 1,
 m 16 46]))))) (s [m 69 15,m 70 69,y 71 70 (p 1 0 10),y 72 70 (r 1 71),y 73 70 (.bin .eql (.t 72) (.k (.val (.string (ByteArray.mk #[]))))),x 74 (.pick (.t 70) (.t 73) (.k (.val (.bool false))))] (.cond 74 (.reg [h 75 6 13,(.mk none none
 (.store 6 (.t 10) (.t 75)))]) .skip)))))) (.reg [m 29 12,q 30 .add 29 1,m 12 30]))))) (.seq (s [m 76 9,n 77 76,q 78 .eql 77 0,m 79 78,z 80 79 (.mov (.t 3)),z 81 79 (.bin .lss (.t 80) (.k (.val (.int .i64 5)))),x 82 (.pick (.t 79) (.k
 (.val (.bool true))) (.t 81)),m 83 82,z 84 83 (.mov (.t 0)),z 85 83 (.call false 30 [.t 84,(.k (.val (.int .i64 4)))]),x 86 (.pick (.t 83) (.k (.val (.bool true))) (.t 85))] (.cond 86 (s [h 87 6 10,t 8 6 87] .ret) .skip)) (s [m 90 9,
 m 91 0,m 92 9,n 93 92,u 17 6,h 89 2 5,x 94 (.calla 41 [.t 91,.t 93]),i 95 1 90 94,l 96 95,x 97 (.call true 20 [.t 89,.t 96]),m 88 97,v 98 88 0,v 99 88 1,t 17 6 98,m 18 99] (s [h 100 6 17,t 8 6 100] .ret)))))))),[(.c 8 6 true)]⟩
theorem i75:iF 75 g75:=jF Tryd.func75 [(17,2064)]
def g76:GFun:=⟨⟨10,[]⟩,(s [k 4 0] (.seq (s [m 5 0,m 6 1,o 7 .gtr 5 6] (.cond 7 (s [m 8 0,m 4 8] .ret) .skip)) (s [m 9 1,m 4 9] .ret))),[.t 4]⟩
theorem i76:iF 76 g76:=jF Tryd.func76
def g77:GFun:=⟨⟨96,[4,4037005,5029005]⟩,(s [x 2 (.box 6 (.t 0)),u 4 1] (s [f 12 1 2,(.mk none none (.store 1 (.t 12) (.k (.val (.int .i64 (-1))))))] (s [f 13 2 2,(.mk none none (.store 1 (.t 13) (.k (.val (.int .i64 0)))))] (s [x 14
 (.bslice 1 [] 0 false []),f 15 5 2,(.mk none none (.store 1 (.t 15) (.t 14)))] (s [h 16 6 2,x 17 (.bslice 6 [] 1 true [(0,(.t 16))]),x 18 (.build [(.val (.slice none 0 0))] [(0,(1,(.t 17)))]),x 5 (.alloc 1 (.agg [(.val
 (.slice none 0 0))])),(.mk none none (.store 1 (.t 5) (.t 18)))] (.seq (s [k 6 0] (B 0 (.seq (s [m 19 6,m 20 1,n 21 20,o 22 .lss 19 21] (.cond 22 .skip (.exit 0))) (.seq (.block 1 (s [f 25 0 5,l 26 25,n 27 26,m 7 27] (s [f 28 0 5,f 30 0 5,
 m 35 7,x 29 (.ldx 1 false 28 5),l 31 30,x 32 (.iaddr 6 (.t 31) (.k (.val (.int .i64 0)))),f 33 5 32,l 34 33,x 36 (.bslice 1 [] 1 false [(0,(.t 35))]),x 37 (.appx [5] 1 8 (.t 34) (.t 36)),x 38 (.iaddr 6 (.t 29) (.k (.val (.int .i64 0)))),
 f 39 5 38,(.mk none none (.store 1 (.t 39) (.t 37)))] (s [k 8 0] (B 2 (.seq (s [m 40 8,m 41 1,m 42 6,i 43 1 41 42,f 44 0 43,l 45 44,n 46 45,o 47 .lss 40 46] (.cond 47 .skip (.exit 2))) (.seq (.block 3 (s [m 50 1,m 51 6,i 52 1 50 51,
 f 53 0 52,l 54 53,m 55 8,i 56 6 54 55,h 57 6 56,x 9 (.alloc 6 (.agg [(.val (.int .i64 0)),(.val (.int .i64 0)),(.val (.int .i64 0)),(.val (.int .i64 0)),(.val (.string (ByteArray.mk #[]))),(.val (.slice none 0 0))])),(.mk none none
 (.store 6 (.t 9) (.t 57)))] (s [f 58 1 9,l 59 58,m 60 7,o 61 .add 59 60,f 62 1 9,(.mk none none (.store 1 (.t 62) (.t 61)))] (.seq (s [m 63 8,q 64 .eql 63 0] (.cond 64 (s [f 65 1 9,(.mk none none (.store 1 (.t 65) (.k (.val
 (.int .i64 0)))))] (.reg [m 66 6,q 67 .add 66 1,f 68 2 9,(.mk none none (.store 1 (.t 68) (.t 67)))])) .skip)) (s [x 69 (.bslice 1 [] 0 false []),m 10 69] (.seq (s [k 11 0] (B 4 (.seq (s [m 70 11,f 71 5 9,l 72 71,n 73 72,o 74 .lss 70 73]
 (.cond 74 .skip (.exit 4))) (.seq (.block 5 (.reg [m 77 10,f 78 5 9,l 79 78,m 80 11,i 81 1 79 80,l 82 81,m 83 7,o 84 .add 82 83,x 85 (.bslice 1 [] 1 false [(0,(.t 84))]),x 86 (.append 1 8 (.t 77) (.t 85)),m 10 86])) (.reg [m 75 11,
 q 76 .add 75 1,m 11 76]))))) (s [m 87 10,f 88 5 9,(.mk none none (.store 1 (.t 88) (.t 87)))] (.reg [f 89 0 5,l 90 89,h 91 6 9,x 92 (.bslice 6 [] 1 true [(0,(.t 91))]),x 93 (.append 6 72 (.t 90) (.t 92)),f 94 0 5,(.mk none none (.store 1
 (.t 94) (.t 93)))])))))))) (.reg [m 48 8,q 49 .add 48 1,m 8 49])))))))) (.reg [m 23 6,q 24 .add 23 1,m 6 24]))))) (s [h 95 1 5,t 4 1 95] .ret))))))),[(.c 4 1 true)]⟩
theorem i77:iF 77 g77:=jF Tryd.func77
def g78:GFun:=⟨⟨6,[]⟩,(s [k 2 0] (s [m 3 0,c 4 88 [(.k (.val (.int .i64 1000000))),.t 3],c 5 76 [(.k (.val (.int .i64 (-1000000)))),.t 4],m 2 5] .ret)),[.t 2]⟩
theorem i78:iF 78 g78:=jF Tryd.func78
def g79:GFun:=⟨⟨4,[]⟩,(s [k 2 0] (.seq (s [m 3 0] (.cond 3 (s [k 2 1] .ret) .skip)) (s [k 2 0] .ret))),[.t 2]⟩
theorem i79:iF 79 g79:=jF Tryd.func79
def g84:GFun:=⟨⟨61,[1]⟩,(s [a 1 7 0,b 2 false] (.seq (s [f 3 0 1,l 4 3,c 5 19 [.t 4,(.k (.val (.int .i64 1))),(.k (.val (.int .i64 8)))],w 6 5,m 7 6,z 8 7 (j 7 1),z 9 7 (.call false 94 [.t 8]),z 10 7 (.not (.t 9)),x 11 (.pick (.t 7)
 (.k (.val (.bool true))) (.t 10))] (.cond 11 (s [b 2 false] .ret) .skip)) (.seq (s [f 12 0 1,l 13 12] (.block 0 (s [q 15 .eql 13 1,m 14 15] (.cond 14 (s [f 16 3 1,l 17 16,c 18 19 [.t 17,(.k (.val (.int .i64 1))),(.k (.val (.int .i64 3)))],
 m 19 18,y 20 19 (p 1 1 1),y 21 19 (r 1 20),y 22 19 (p 1 3 1),y 23 19 (r 1 22),y 24 19 (.call false 50 [.t 21,.t 23]),x 25 (.pick (.t 19) (.t 24) (.k (.val (.bool false)))),m 26 25,y 27 26 (p 1 1 1),y 28 26 (r 1 27),y 29 26 (.bin .geq
 (.t 28) (.k (.val (.int .i64 0)))),x 30 (.pick (.t 26) (.t 29) (.k (.val (.bool false)))),m 2 30] .ret) (s [q 32 .eql 13 3,m 31 32] (.cond 31 (s [f 33 2 1,l 34 33,c 35 19 [.t 34,(.k (.val (.int .i64 0))),(.k (.val (.int .i64 3)))],m 36 35,
 y 37 36 (p 1 5 1),y 38 36 (r 1 37),y 39 36 (.call false 95 [.t 38]),x 40 (.pick (.t 36) (.t 39) (.k (.val (.bool false)))),m 2 40] .ret) (s [q 42 .eql 13 6,m 41 42] (.cond 41 (s [f 43 2 1,l 44 43,c 45 19 [.t 44,(.k (.val (.int .i64 0))),
 (.k (.val (.int .i64 3)))],m 2 45] .ret) (s [q 47 .eql 13 4,m 46 47] (.cond 46 (s [f 48 1 1,l 49 48,c 50 19 [.t 49,(.k (.val (.int .i64 1))),(.k (.val (.int .i64 12)))],m 2 50] .ret) (s [q 52 .eql 13 8,m 51 52] (.cond 51 (s [f 53 4 1,
 l 54 53,c 55 95 [.t 54],m 56 55,y 57 56 (p 1 5 1),y 58 56 (r 1 57),y 59 56 (.call false 95 [.t 58]),x 60 (.pick (.t 56) (.t 59) (.k (.val (.bool false)))),m 2 60] .ret) .skip)))))))))))) (s [b 2 true] .ret)))),[.t 2]⟩
theorem i84:iF 84 g84:=jF Tryd.func84
def g85:GFun:=⟨⟨33,[2]⟩,(s [a 2 2 0,x 4 (.mov (.k (.val (.slice none 0 0))))] (s [x 7 (.bslice 1 [] 0 false []),m 5 7] (.seq (s [k 6 0] (B 0 (.seq (s [m 8 6,f 9 1 2,l 10 9,n 11 10,o 12 .lss 8 11] (.cond 12 .skip (.exit 0))) (.seq
 (.block 1 (s [f 15 1 2,l 16 15,m 17 6,i 18 6 16 17,f 19 1 18,l 20 19,m 21 1,o 22 .eql 20 21] (.cond 22 (.reg [m 23 5,f 24 1 2,l 25 24,m 26 6,i 27 6 25 26,f 28 0 27,l 29 28,x 30 (.bslice 1 [] 1 false [(0,(.t 29))]),x 31 (.append 1 16
 (.t 23) (.t 30)),m 5 31]) .skip))) (.reg [m 13 6,q 14 .add 13 1,m 6 14]))))) (s [m 32 5,m 4 32] .ret)))),[.t 4]⟩
theorem i85:iF 85 g85:=jF Tryd.func85
def g86:GFun:=⟨⟨50,[1]⟩,(s [a 1 2 0,x 2 (.mov (.k (.val (.slice none 0 0))))] (s [f 7 0 1,l 8 7,n 9 8,x 10 (.mkslice 1 8 (.val (.int .i64 0)) (.t 9) (.t 9)),m 3 10] (.seq (s [k 4 1] (B 0 (.seq (s [m 11 4,f 12 0 1,l 13 12,n 14 13,
 o 15 .leq 11 14] (.cond 15 .skip (.exit 0))) (.seq (.block 1 (s [x 18 (.bslice 1 [] 0 false []),m 19 3,x 20 (.append 1 8 (.t 18) (.t 19)),m 5 20] (.seq (s [k 6 0] (B 2 (.seq (s [m 21 6,f 22 0 1,l 23 22,n 24 23,o 25 .lss 21 24]
 (.cond 25 .skip (.exit 2))) (.seq (.block 3 (s [m 28 3,m 29 6,i 30 1 28 29,l 31 30,q 32 .eql 31 0,m 33 32,y 35 33 (p 1 0 1),y 37 33 (.mov (.t 6)),y 41 33 (.mov (.t 3)),y 34 33 (j 2 1),y 36 33 (r 1 35),y 38 33 (.iaddr 2 (.t 36) (.t 37)),
 y 39 33 (p 1 0 38),y 40 33 (r 1 39),y 42 33 (.call true 96 [.t 34,.t 40,.t 41]),x 43 (.pick (.t 33) (.t 42) (.k (.val (.bool false))))] (.cond 43 (.reg [m 44 5,m 45 6,m 46 4,i 47 1 44 45,(.mk none none (.store 1 (.t 47)
 (.t 46)))]) .skip))) (.reg [m 26 6,q 27 .add 26 1,m 6 27]))))) (.reg [m 48 5,m 3 48])))) (.reg [m 16 4,q 17 .add 16 1,m 4 17]))))) (s [m 49 3,m 2 49] .ret)))),[.t 2]⟩
theorem i86:iF 86 g86:=jF Tryd.func86
def g87:GFun:=⟨⟨22,[2]⟩,(s [a 2 2 0,k 4 0] (.seq (s [k 5 0] (B 0 (.seq (s [m 6 5,f 7 0 2,l 8 7,n 9 8,o 10 .lss 6 9] (.cond 10 .skip (.exit 0))) (.seq (.block 1 (s [f 13 0 2,l 14 13,m 15 5,i 16 2 14 15,f 17 0 16,l 18 17,m 19 1,
 o 20 .eql 18 19] (.cond 20 (s [m 21 5,m 4 21] .ret) .skip))) (.reg [m 11 5,q 12 .add 11 1,m 5 12]))))) (s [k 4 (-1)] .ret))),[.t 4]⟩
theorem i87:iF 87 g87:=jF Tryd.func87
def g88:GFun:=⟨⟨10,[]⟩,(s [k 4 0] (.seq (s [m 5 0,m 6 1,o 7 .lss 5 6] (.cond 7 (s [m 8 0,m 4 8] .ret) .skip)) (s [m 9 1,m 4 9] .ret))),[.t 4]⟩
theorem i88:iF 88 g88:=jF Tryd.func88
def g94:GFun:=⟨⟨86,[1]⟩,(s [a 1 7 0,b 2 false] (s [k 3 0] (.seq (s [f 7 0 1,l 8 7] (.block 0 (s [q 10 .eql 8 4,m 9 10] (.cond 9 (.reg [k 3 2]) (s [q 12 .eql 8 5,m 11 12] (.cond 11 (.reg [k 3 3]) (s [q 14 .eql 8 8,m 13 14] (.cond 13
 (.reg [k 3 1]) .skip)))))))) (.seq (s [f 15 6 1,l 16 15,n 17 16,m 18 3,o 19 .neq 17 18] (.cond 19 (s [b 2 false] .ret) .skip)) (s [f 20 0 1,l 21 20,q 22 .eql 21 3,m 23 22,z 24 23 (p 1 0 1),z 25 23 (r 1 24),z 26 23 (.bin .eql (.t 25) (.k
 (.val (.int .i64 6)))),x 27 (.pick (.t 23) (.k (.val (.bool true))) (.t 26)),m 4 27] (s [f 28 0 1,l 29 28,q 30 .eql 29 3,m 31 30,z 32 31 (p 1 0 1),z 33 31 (r 1 32),z 34 31 (.bin .eql (.t 33) (.k (.val (.int .i64 8)))),x 35 (.pick (.t 31)
 (.k (.val (.bool true))) (.t 34)),m 5 35] (s [f 36 0 1,l 37 36,q 38 .eql 37 1,m 39 38,z 40 39 (p 1 0 1),z 41 39 (r 1 40),z 42 39 (.bin .eql (.t 41) (.k (.val (.int .i64 4)))),x 43 (.pick (.t 39) (.k (.val (.bool true))) (.t 42)),m 6 43]
 (s [m 44 4,m 45 44,z 46 45 (p 1 2 1),z 47 45 (r 1 46),z 48 45 (.bin .eql (.t 47) (.k (.val (.int .i64 0)))),x 49 (.pick (.t 45) (.k (.val (.bool true))) (.t 48)),m 50 49,y 51 50 (.mov (.t 5)),y 52 50 (.mov (.t 51)),z 53 52 (p 1 5 1),
 z 54 52 (r 1 53),z 55 52 (.bin .eql (.t 54) (.k (.val (.string (ByteArray.mk #[]))))),y 56 50 (.pick (.t 52) (.k (.val (.bool true))) (.t 55)),x 57 (.pick (.t 50) (.t 56) (.k (.val (.bool false)))),m 58 57,y 59 58 (.mov (.t 6)),y 60 58
 (.mov (.t 59)),z 61 60 (p 1 1 1),z 62 60 (r 1 61),z 63 60 (.bin .eql (.t 62) (.k (.val (.int .i64 0)))),y 64 58 (.pick (.t 60) (.k (.val (.bool true))) (.t 63)),x 65 (.pick (.t 58) (.t 64) (.k (.val (.bool false)))),m 66 65,y 67 66
 (p 1 0 1),y 68 66 (r 1 67),y 69 66 (.bin .eql (.t 68) (.k (.val (.int .i64 1)))),y 70 66 (.mov (.t 69)),z 71 70 (p 1 3 1),z 72 70 (r 1 71),z 73 70 (.bin .eql (.t 72) (.k (.val (.int .i64 0)))),y 74 66 (.pick (.t 70) (.k (.val
 (.bool true))) (.t 73)),x 75 (.pick (.t 66) (.t 74) (.k (.val (.bool false)))),m 76 75,y 77 76 (p 1 0 1),y 78 76 (r 1 77),y 79 76 (.bin .eql (.t 78) (.k (.val (.int .i64 8)))),y 80 76 (.mov (.t 79)),z 81 80 (p 1 4 1),z 82 80 (r 1 81),
 z 83 80 (.bin .eql (.t 82) (.k (.val (.string (ByteArray.mk #[]))))),y 84 76 (.pick (.t 80) (.k (.val (.bool true))) (.t 83)),x 85 (.pick (.t 76) (.t 84) (.k (.val (.bool false)))),m 2 85] .ret)))))))),[.t 2]⟩
theorem i94:iF 94 g94:=jF Tryd.func94
def g95:GFun:=⟨⟨15,[]⟩,(s [b 2 false] (s [m 3 0,c 4 99 [.t 3],m 5 4,y 6 5 (.mov (.t 0)),y 7 5 (.slen (.t 6)),y 8 5 (.bin .leq (.t 7) (.k (.val (.int .i64 8)))),x 9 (.pick (.t 5) (.t 8) (.k (.val (.bool false)))),m 10 9,y 11 10 (.mov
 (.t 0)),y 12 10 (.call false 100 [.t 11]),y 13 10 (.not (.t 12)),x 14 (.pick (.t 10) (.t 13) (.k (.val (.bool false)))),m 2 14] .ret)),[.t 2]⟩
theorem i95:iF 95 g95:=jF Tryd.func95
def g96:GFun:=⟨⟨56,[3,8]⟩,(s [a 3 2 0,b 6 false] (.seq (s [k 7 0] (B 0 (.seq (s [m 12 7,f 13 1 3,l 14 13,n 15 14,o 16 .lss 12 15] (.cond 16 .skip (.exit 0))) (.seq (.block 1 (s [f 19 1 3,l 20 19,m 21 7,i 22 6 20 21,h 23 6 22,u 8 6,
 t 8 6 23] (s [f 24 1 8,l 25 24,m 26 1,o 27 .eql 25 26,m 9 27] (.seq (s [k 10 0] (B 2 (.seq (s [m 28 10,f 29 2 8,l 30 29,n 31 30,o 32 .lss 28 31] (.cond 32 .skip (.exit 2))) (.seq (.block 3 (s [f 36 2 8,m 38 10,h 35 2 3,l 37 36,
 i 39 1 37 38,l 40 39,x 41 (.call true 87 [.t 35,.t 40]),m 11 41] (.reg [m 42 9,m 43 42,y 44 43 (.mov (.t 11)),y 45 43 (.bin .geq (.t 44) (.k (.val (.int .i64 0)))),x 46 (.pick (.t 43) (.t 45) (.k (.val (.bool false)))),m 47 46,y 48 47
 (.mov (.t 2)),y 49 47 (.mov (.t 11)),y 50 47 (.call false 76 [.t 49,(.k (.val (.int .i64 0)))]),y 51 47 (.iaddr 1 (.t 48) (.t 50)),y 52 47 (r 1 51),y 53 47 (.bin .gtr (.t 52) (.k (.val (.int .i64 0)))),x 54 (.pick (.t 47) (.t 53) (.k
 (.val (.bool false)))),m 9 54]))) (.reg [m 33 10,q 34 .add 33 1,m 10 34]))))) (s [m 55 9] (.cond 55 (s [b 6 true] .ret) .skip)))))) (.reg [m 17 7,q 18 .add 17 1,m 7 18]))))) (s [b 6 false] .ret))),[.t 6]⟩
theorem i96:iF 96 g96:=jF Tryd.func96
def g99:GFun:=⟨⟨45,[]⟩,(s [b 2 false] (.seq (s [k 3 0] (B 0 (.seq (s [m 6 3,m 7 0,x 8 (.slen (.t 7)),o 9 .lss 6 8] (.cond 9 .skip (.exit 0))) (.seq (.block 1 (s [m 12 0,m 13 3,x 14 (.idx (.t 12) (.t 13)),x 15 (.bin .geq (.t 14) (.k
 (.val (.int .u8 97)))),m 16 15,y 17 16 (.mov (.t 0)),y 18 16 (.mov (.t 3)),y 19 16 (.idx (.t 17) (.t 18)),y 20 16 (.bin .leq (.t 19) (.k (.val (.int .u8 122)))),x 21 (.pick (.t 16) (.t 20) (.k (.val (.bool false)))),m 4 21] (s [m 22 0,
 m 23 3,x 24 (.idx (.t 22) (.t 23)),x 25 (.bin .geq (.t 24) (.k (.val (.int .u8 48)))),m 26 25,y 27 26 (.mov (.t 0)),y 28 26 (.mov (.t 3)),y 29 26 (.idx (.t 27) (.t 28)),y 30 26 (.bin .leq (.t 29) (.k (.val (.int .u8 57)))),x 31 (.pick
 (.t 26) (.t 30) (.k (.val (.bool false)))),m 5 31] (s [m 32 4,w 33 32,m 34 33,y 35 34 (.mov (.t 3)),y 36 34 (.bin .eql (.t 35) (.k (.val (.int .i64 0)))),y 37 34 (.mov (.t 36)),z 38 37 (.mov (.t 5)),z 39 37 (.not (.t 38)),y 40 34 (.pick
 (.t 37) (.k (.val (.bool true))) (.t 39)),x 41 (.pick (.t 34) (.t 40) (.k (.val (.bool false))))] (.cond 41 (s [b 2 false] .ret) .skip))))) (.reg [m 10 3,q 11 .add 10 1,m 3 11]))))) (s [m 42 0,x 43 (.slen (.t 42)),q 44 .gtr 43 0,
 m 2 44] .ret))),[.t 2]⟩
theorem i99:iF 99 g99:=jF Tryd.func99
def g100:GFun:=⟨⟨6,[]⟩,(s [b 2 false] (s [c 3 102 [],m 4 0,c 5 101 [.t 3,.t 4],m 2 5] .ret)),[.t 2]⟩
theorem i100:iF 100 g100:=jF Tryd.func100
def g101:GFun:=⟨⟨18,[]⟩,(s [b 4 false] (.seq (s [k 5 0] (B 0 (.seq (s [m 6 5,m 7 0,n 8 7,o 9 .lss 6 8] (.cond 9 .skip (.exit 0))) (.seq (.block 1 (s [m 12 0,m 13 5,i 14 1 12 13,l 15 14,m 16 1,o 17 .eql 15 16] (.cond 17
 (s [b 4 true] .ret) .skip))) (.reg [m 10 5,q 11 .add 10 1,m 5 11]))))) (s [b 4 false] .ret))),[.t 4]⟩
theorem i101:iF 101 g101:=jF Tryd.func101
def g102:GFun:=⟨⟨2,[]⟩,(s [x 0 (.mov (.k (.val (.slice none 0 0))))] (s [x 1 (.bslice 1 [] 13 false [(0,(.k (.val (.string (ByteArray.mk #[105,102]))))),(1,(.k (.val (.string (ByteArray.mk #[116,104,101,110]))))),(2,(.k (.val (.string
 (ByteArray.mk #[101,108,115,101]))))),(3,(.k (.val (.string (ByteArray.mk #[116,114,117,101]))))),(4,(.k (.val (.string (ByteArray.mk #[102,97,108,115,101]))))),(5,(.k (.val (.string (ByteArray.mk #[108,105,116]))))),(6,(.k (.val
 (.string (ByteArray.mk #[110,111,110,101]))))),(7,(.k (.val (.string (ByteArray.mk #[115,101,108,102]))))),(8,(.k (.val (.string (ByteArray.mk #[111,102]))))),(9,(.k (.val (.string (ByteArray.mk #[109,97,120]))))),(10,(.k (.val (.string
 (ByteArray.mk #[109,105,110]))))),(11,(.k (.val (.string (ByteArray.mk #[119,105,116,104]))))),(12,(.k (.val (.string (ByteArray.mk #[104,97,115])))))]),m 0 1] .ret)),[.t 0]⟩
theorem i102:iF 102 g102:=jF Tryd.func102
end Go.Proofs.YtofcbmnplanmkaaDoor
namespace Go.Proofs.YtofcbmnplanmkaaDoor
open Go.Gh
open Nat (reduceEqDiff reduceLeDiff reduceAdd reduceLT)
open Int (reduceNe)
set_option maxRecDepth 20000
set_option linter.unusedSimpArgs false
set_option linter.unusedVariables false
theorem mxd:Tryd.prog.follows .mixedOrders = true:=Checked.mixed Tryd.checked
end Go.Proofs.YtofcbmnplanmkaaDoor
namespace Go.Proofs.YtofcbmnplanmkaaDoor
open Go.Gh
open Nat (reduceEqDiff reduceLeDiff reduceAdd reduceLT)
open Int (reduceNe)
set_option maxRecDepth 20000
set_option linter.unusedSimpArgs false
set_option linter.unusedVariables false
end Go.Proofs.YtofcbmnplanmkaaDoor
namespace Go.Proofs.YtofcbmnplanmkaaDoor
open Go.Gh
open Nat (reduceEqDiff reduceLeDiff reduceAdd reduceLT)
open Int (reduceNe)
set_option maxRecDepth 20000
set_option linter.unusedSimpArgs false
set_option linter.unusedVariables false
end Go.Proofs.YtofcbmnplanmkaaDoor
namespace Go.Proofs.YtofcbmnplanmkaaDoor
open Go.Gh
open Nat (reduceEqDiff reduceLeDiff reduceAdd reduceLT)
open Int (reduceNe)
set_option maxRecDepth 20000
set_option linter.unusedSimpArgs false
set_option linter.unusedVariables false
theorem w19 (x lo hi:Int):Pu 19 [I x,I lo,I hi] (· = B (decide (lo≤x∧x≤hi))):=by
 refine ZR mxd i19 rfl (by simp) ?_;refine X0 ?_
 (refine R0 ?_;with_reducible repeat' first|exact trivial|intro h|refine aO ?_|refine eO ?_|apply jO)<;>simp [*]
theorem w52 (x lo hi:Int):Pu 52 [I x,I lo,I hi] (· = B (decide (lo≤x∧x≤hi))):=by
 refine ZR mxd i52 rfl (by simp) ?_;refine X0 ?_
 (refine R0 ?_;with_reducible repeat' first|exact trivial|intro h|refine aO ?_|refine eO ?_|apply jO)<;>simp [*]
theorem w37 (x:Nod) (id:Int):Pu 37 [Nd x,.rop 1 (I id)] (· = B (decide (x.id=id))):=by
 refine ZR mxd i37 rfl (by simp) ?_;refine X0 ?_
 try (refine R0 ?_;with_reducible repeat' first|exact trivial|intro h|refine aO ?_|refine eO ?_|apply jO)
theorem w36 (t:List Nod) (f:Nat) (cs:List GV) (p:Nod→Bool) (hp:∀x∈t,Pu f (Nd x::cs) (· = B (p x))) :
 Pu 36 [NdS t,.clo f cs] (· = I (Zf p t)):=by
 refine GCalls.lenA fun hl=> ?_
 have hlen:=hl.1.1
 simp only [List.length_map,Zq] at hlen
 refine ZR mxd i36 rfl (by simp) ?_;refine X0 ?_
 refine Zl mxd (ι:={ i:Nat // i≤t.length∧∀y∈t.take i,p y=false }) (fun i=>[(0,NdS t),(1,.clo f cs),(7,I t.length),(8,I i.1)]) (fun _ => []) (fun i=>t.length-i.1) ⟨0,by simp⟩ (by simp [E2]) rfl ?_
 rintro ⟨i,hi,hn⟩
 (refine R0 ?_;with_reducible repeat' first|exact trivial|intro h|refine aO ?_|refine eO ?_|apply jO)
 ·refine callS.eq (hp t[i] (gM _)) ?_
  (refine R0 ?_;with_reducible repeat' first|exact trivial|intro h|refine aO ?_|refine eO ?_|apply jO)
  ·rw [ixOf_hit (by assumption) h hn]
  ·exact nx ⟨i+1,by omega,YX (by assumption) h hn⟩ (by simp;omega) (by simp [E2]) rfl
 ·have:i=t.length:=by omega
  subst this
  rw [tL (Nat.le_refl _)] at hn
  rw [ixOf_none hn]
theorem w21 (t:List Nod) (id:Int):Pu 21 [Tr t,I id] (· = I (Zf (fun y=>decide (y.id=id)) t)):=by
 refine ZR mxd i21 rfl (by simp) ?_;refine X0 ?_
 refine callS.eq (w36 t _ _ _ fun x _ => w37 x id) ?_
 (refine R0 ?_;with_reducible repeat' first|exact trivial|intro h|refine aO ?_|refine eO ?_|apply jO)
theorem w18 (x:Sym) (hx:smSy x):Pu 18 [Sy x] (· = Sy x):=by
 unfold smSy at hx
 refine Pure.bor ?_
 refine ZR mxd i18 rfl (by simp) ?_;refine X0 ?_
 (refine R0 ?_;with_reducible repeat' first|exact trivial|intro h|refine aO ?_|refine eO ?_|apply jO)
 exact .agg (.cons .refl (.cons (Bor.allM (fun _ => rfl) ZW rfl) .nil))
theorem w9 (g:Gram) (s:ByteArray) (hg:Zj g):Pu 9 [Gr g,T s] (· = .tup [Sy (Zt g.syms s),B (hSym g.syms s)]):=by
 refine Pure.bor ?_
 have hlen:=hg.1
 refine ZR mxd i9 rfl (by simp) ?_;refine X0 ?_
 refine Zl mxd (ι:={ i:Nat // i≤g.syms.length∧∀y∈g.syms.take i,decide (y.name=s)=false }) (fun i=>[(1,T s),(2,.rop 2 (Gr g)),(4,.raw 2),(6,I i.1)]) (fun _ => []) (fun i=>g.syms.length-i.1) ⟨0,by simp⟩ (by simp [E2]) rfl ?_
 rintro ⟨i,hi,hn⟩
 (refine R0 ?_;with_reducible repeat' first|exact trivial|intro h|refine aO ?_|refine eO ?_|apply jO)
 ·subst h
  refine callS.eq (w18 g.syms[i] (hg.2.2.1 _ (gM _))) ?_
  (refine R0 ?_;with_reducible repeat' first|exact trivial|intro h|refine aO ?_|refine eO ?_|apply jO)
  have e:=find_hit (p:=fun x:Sym=>decide (x.name=g.syms[i].name)) (xs:=g.syms) (i:=i) (by assumption) (by simp) hn
  simp only [Zt,hSym,e]
  exact .refl
 ·exact nx ⟨i+1,by omega,YX (by assumption) (by simp [*]) hn⟩ (by simp;omega) (by simp [E2]) rfl
 ·have:i=g.syms.length:=by omega
  subst this
  rw [tL (Nat.le_refl _)] at hn
  have e:=find_none hn
  simp only [Zt,hSym,e]
  exact .tup (.cons (.agg (.cons .refl (.cons .nil .nil))) (.cons .refl .nil))
theorem w57 (g:Sym) (s:ByteArray) (hg:smSy g):Pu 57 [Sy g,T s] (· = .tup [At (fAtt g.atts s),B (hAtt g.atts s)]):=by
 unfold smSy at hg
 refine ZR mxd i57 rfl (by simp) ?_;refine X0 ?_
 refine Zl mxd (ι:={ i:Nat // i≤g.atts.length∧∀y∈g.atts.take i,decide (y.name=s)=false }) (fun i=>[(1,T s),(2,.rop 2 (Sy g)),(4,.raw 4),(6,I i.1)]) (fun _ => []) (fun i=>g.atts.length-i.1) ⟨0,by simp⟩ (by simp [E2]) rfl ?_
 rintro ⟨i,hi,hn⟩
 (refine R0 ?_;with_reducible repeat' first|exact trivial|intro h|refine aO ?_|refine eO ?_|apply jO)
 ·subst h
  have e:=find_hit (p:=fun x:Att=>decide (x.name=g.atts[i].name)) (xs:=g.atts) (i:=i) (by assumption) (by simp) hn
  simp only [fAtt,hAtt,e]
  rfl
 ·exact nx ⟨i+1,by omega,YX (by assumption) (by simp [*]) hn⟩ (by simp;omega) (by simp [E2]) rfl
 ·have:i=g.atts.length:=by omega
  subst this
  rw [tL (Nat.le_refl _)] at hn
  have e:=find_none hn
  simp only [fAtt,hAtt,e]
  rfl
theorem w22 (g:Gram) (s:ByteArray) (hg:Zj g):Pu 22 [Gr g,T s] (· = .tup [Sy (Zt g.syms s),B (hSym g.syms s)]):=by
 refine Pure.bor ?_
 have hlen:=hg.1
 refine ZR mxd i22 rfl (by simp) ?_;refine X0 ?_
 refine Zl mxd (ι:={ i:Nat // i≤g.syms.length∧∀y∈g.syms.take i,decide (y.name=s)=false }) (fun i=>[(1,T s),(4,.raw 2),(9,SyS g.syms),(10,I g.syms.length),(11,I i.1)]) (fun _ => []) (fun i=>g.syms.length-i.1) ⟨0,by simp⟩ (by simp [E2]) rfl ?_
 rintro ⟨i,hi,hn⟩
 (refine R0 ?_;with_reducible repeat' first|exact trivial|intro h|refine aO ?_|refine eO ?_|apply jO)
 ·subst h
  have e:=find_hit (p:=fun x:Sym=>decide (x.name=g.syms[i].name)) (xs:=g.syms) (i:=i) (by assumption) (by simp) hn
  simp only [Zt,hSym,e]
  exact .refl
 ·exact nx ⟨i+1,by omega,YX (by assumption) (by simp [*]) hn⟩ (by simp;omega) (by simp [E2]) rfl
 ·have:i=g.syms.length:=by omega
  subst this
  rw [tL (Nat.le_refl _)] at hn
  have e:=find_none hn
  simp only [Zt,hSym,e]
  exact .tup (.cons (.agg (.cons .refl (.cons .nil .nil))) (.cons .refl .nil))
theorem w24 (g:Sym) (s:ByteArray) (hg:smSy g):Pu 24 [Sy g,T s] (· = .tup [At (fAtt g.atts s),B (hAtt g.atts s)]):=by
 unfold smSy at hg
 refine ZR mxd i24 rfl (by simp) ?_;refine X0 ?_
 refine Zl mxd (ι:={ i:Nat // i≤g.atts.length∧∀y∈g.atts.take i,decide (y.name=s)=false }) (fun i=>[(1,T s),(4,.raw 4),(9,AtS g.atts),(10,I g.atts.length),(11,I i.1)]) (fun _ => []) (fun i=>g.atts.length-i.1) ⟨0,by simp⟩ (by simp [E2]) rfl ?_
 rintro ⟨i,hi,hn⟩
 (refine R0 ?_;with_reducible repeat' first|exact trivial|intro h|refine aO ?_|refine eO ?_|apply jO)
 ·subst h
  have e:=find_hit (p:=fun x:Att=>decide (x.name=g.atts[i].name)) (xs:=g.atts) (i:=i) (by assumption) (by simp) hn
  simp only [fAtt,hAtt,e]
  rfl
 ·exact nx ⟨i+1,by omega,YX (by assumption) (by simp [*]) hn⟩ (by simp;omega) (by simp [E2]) rfl
 ·have:i=g.atts.length:=by omega
  subst this
  rw [tL (Nat.le_refl _)] at hn
  have e:=find_none hn
  simp only [fAtt,hAtt,e]
  rfl
theorem w51:∀(e:Exp),wEx e≤1048576→Pu 51 [Ex e] (· = Ex e):=by
 refine Exp.indA fun e ih hw=> ?_
 obtain ⟨hl,ha⟩:=args_small hw
 refine Pure.bor ?_
 refine ZR mxd i51 rfl (by simp) ?_;refine X0 ?_
 (refine R1 @XE ?_;with_reducible repeat' first|exact trivial|intro h|refine aO ?_|refine eO ?_|apply jO)
 rename_i r hr q
 have h0:=Z0 h
 (replace h0:=h0;simp only [VN] at h0)
 refine ploop mxd (ι:={ x:Nat×Nat // x.2≤e.args.length }) (fun x=>[(1,.ptr r 7 0 0),(2,.raw 7),(3,.own x.1.1 7 0 x.1.2),(4,I x.1.2)]) (fun x=>[(x.1.1,7,(e.args.take x.1.2).map Ex),(r,7,[Ex e])]) (fun x=>e.args.length-x.1.2) ⟨(q,0),by simp⟩ (by simp [E2]) (by simp [subH,ZU,names,h0]) ?_
 rintro ⟨⟨q,i⟩,hi⟩ hn
 dsimp only at hi hn ⊢
 (replace hn:=hn;simp only [VN] at hn)
 (refine R1 (jO @XE (jO @Z9 (jO @Z8 (jO @Z7 (jO hn @t_ldf))))) ?_;with_reducible repeat' first|exact trivial|intro h|refine aO ?_|refine eO ?_|apply jO)
 ·refine callS.eq (ih _ (gM _) (ha _ (gM _))) ?_
  (refine R1 (jO @XE (jO @Z9 (jO @Z8 (jO @Z7 (jO hn @t_ldf))))) ?_;with_reducible repeat' first|exact trivial|intro h|refine aO ?_|refine eO ?_|apply jO)
  rename_i q2
  have h2:=Z0 h
  (replace h2:=h2;simp only [VN] at h2)
  (refine R1 (jO @XE (jO @Z9 (jO @Z8 (jO @Z7 (jO hn (jO h2 @t_ldf)))))) ?_;with_reducible repeat' first|exact trivial|intro h|refine aO ?_|refine eO ?_|apply jO)
  ·simp;omega
  rename_i q3
  have h3:=Z0 h
  (replace h3:=h3;simp only [VN] at h3)
  rw [takeApp Ex e.args i (by assumption)]
  exact px ⟨(q3,i+1),by omega⟩ (by simp;omega) (by simp [E2]) (by simp [subH,ZU,names,h3])
 ·rw [Y7 e]
  refine .agg (.cons .refl (.cons .refl (.cons .refl (.cons .refl (.cons .refl (.cons .refl (.cons ?_ .nil)))))))
  have:i=e.args.length:=by omega
  subst this
  rw [List.take_length]
  exact Bor.allM view_Ex ZW rfl
theorem w39 (g:Gram) (s:ByteArray) (hg:Zj g):Pu 39 [Gr g,T s] (· = .tup [Ru (Y8 g.rules s),B (hRul g.rules s)]):=by
 refine Pure.bor ?_
 have hlen:=hg.2.1
 refine ZR mxd i39 rfl (by simp) ?_;refine X0 ?_
 refine Zl mxd (ι:={ i:Nat // i≤g.rules.length∧∀y∈g.rules.take i,decide (y.name=s)=false }) (fun i=>[(1,T s),(4,.raw 6),(9,RuS g.rules),(10,I g.rules.length),(11,I i.1)]) (fun _ => []) (fun i=>g.rules.length-i.1) ⟨0,by simp⟩ (by simp [E2]) rfl ?_
 rintro ⟨i,hi,hn⟩
 (refine R0 ?_;with_reducible repeat' first|exact trivial|intro h|refine aO ?_|refine eO ?_|apply jO)
 ·subst h
  have e:=find_hit (p:=fun x:Rul=>decide (x.name=g.rules[i].name)) (xs:=g.rules) (i:=i) (by assumption) (by simp) hn
  simp only [Y8,hRul,e]
  exact .refl
 ·exact nx ⟨i+1,by omega,YX (by assumption) (by simp [*]) hn⟩ (by simp;omega) (by simp [E2]) rfl
 ·have:i=g.rules.length:=by omega
  subst this
  rw [tL (Nat.le_refl _)] at hn
  have e:=find_none hn
  simp only [Y8,hRul,e]
  exact .tup (.cons (.agg (.cons .refl (.cons .refl (.cons .nil (.cons .refl (.cons .nil (.cons .nil .nil))))))) (.cons .refl .nil))
theorem w38 (t:List Nod) (i:Int):Pu 38 [Tr t,I i] (· = B (decide (0≤i∧i<t.length))):=by
 refine GCalls.lenA fun hl=> ?_
 obtain ⟨hlen,_⟩:=lenTr hl.1
 refine ZR mxd i38 rfl (by simp) ?_;refine X0 ?_
 refine callS.eq (w52 _ _ _) ?_
 (refine R0 ?_;with_reducible repeat' first|exact trivial|intro h|refine aO ?_|refine eO ?_|apply jO)
 exact bEq (by omega)
theorem w76 (x y:Int):Pu 76 [I x,I y] (· = I (max x y)):=by
 refine ZR mxd i76 rfl (by simp) ?_;refine X0 ?_
 (refine R0 ?_;with_reducible repeat' first|exact trivial|intro h|refine aO ?_|refine eO ?_|apply jO)<;>simp<;>omega
theorem w35 (e:Rul) (hr:smRu e):Pu 35 [Ru e] (· = Ru e):=by
 obtain ⟨h1,h2,h3,h4,h5⟩:=hr
 refine Pure.bor ?_
 refine ZR mxd i35 rfl (by simp) ?_;refine X0 ?_
 (refine R1 @XE ?_;with_reducible repeat' first|exact trivial|intro h|refine aO ?_|refine eO ?_|apply jO)
 rename_i ra _ rr _ r0
 have h0:=Z0 h
 (replace h0:=h0;simp only [VN] at h0)
 obtain ⟨v,ho,hv⟩:=vfresh [r0,rr]
 refine ploopF mxd (ι:={ x:Nat×Nat // x.2≤e.eqs.length }) (fun x=>[(1,.rop 6 (Ru e)),(2,.raw 6),(3,.ptr r0 6 0 0),(4,I x.1.2)])
  (fun x=>[(x.1.1,9,(e.eqs.take x.1.2).map Qn),(r0,6,[.agg [T e.name,T e.left,.own rr 1 0 e.right.length,B e.lit,.own x.1.1 9 0 x.1.2,.val (.slice none 0 0)]]),(rr,1,e.right.map T)])
  (fun x=>e.eqs.length-x.1.2) ⟨(v,0),by simp⟩ (FE.virtF (i:=0) (j:=4) (sz1:=9) ZW rfl rfl ho hv) (by simp [E2]) ?_ ?_
 ·simp only [List.mem_cons,List.not_mem_nil,or_false,not_or] at hv
  simp [subH,ZU,ZF,names,h0,hv]
 rintro ⟨⟨q,i⟩,hi⟩ hn
 dsimp only at hi hn ⊢
 (replace hn:=hn;simp only [VN] at hn)
 (refine R1 (jO @XE (jO @Z9 (jO @Z8 (jO @Z7 (jO hn @t_ldf))))) ?_;with_reducible repeat' first|exact trivial|intro h|refine aO ?_|refine eO ?_|apply jO)
 ·refine callS.eq (w51 _ (h4 _ (gM _))) ?_
  (refine R1 (jO @XE (jO @Z9 (jO @Z8 (jO @Z7 (jO hn @t_ldf))))) ?_;with_reducible repeat' first|exact trivial|intro h|refine aO ?_|refine eO ?_|apply jO)
  rename_i q2
  have h2:=Z0 h
  (replace h2:=h2;simp only [VN] at h2)
  (refine R1 (jO @XE (jO @Z9 (jO @Z8 (jO @Z7 (jO hn (jO h2 @t_ldf)))))) ?_;with_reducible repeat' first|exact trivial|intro h|refine aO ?_|refine eO ?_|apply jO)
  ·simp;omega
  rename_i q3
  have h3:=Z0 h
  (replace h3:=h3;simp only [VN] at h3)
  (refine R1 (jO @XE (jO @Z9 (jO @Z8 (jO @Z7 (jO hn (jO h2 (jO h3 @t_ldf))))))) ?_;with_reducible repeat' first|exact trivial|intro h|refine aO ?_|refine eO ?_|apply jO)
  rw [takeApp Qn e.eqs i (by assumption)]
  exact px ⟨(q3,i+1),by omega⟩ (by simp;omega) (by simp [E2]) (by simp [subH,ZU,names,h3])
 ·have:i=e.eqs.length:=by omega
  subst this
  rw [List.take_length]
  obtain ⟨v,ho,hv⟩:=vfresh [q,r0,rr]
  refine ploopF mxd (ι:={ x:Nat×Nat // x.2≤e.cons.length }) (fun x=>[(1,.rop 6 (Ru e)),(2,.raw 6),(3,.ptr r0 6 0 0),(5,I x.1.2)])
   (fun x=>[(x.1.1,16,(e.cons.take x.1.2).map Co),(q,9,e.eqs.map Qn),(r0,6,[.agg [T e.name,T e.left,.own rr 1 0 e.right.length,B e.lit,.own q 9 0 e.eqs.length,.own x.1.1 16 0 x.1.2]]),(rr,1,e.right.map T)])
   (fun x=>e.cons.length-x.1.2) ⟨(v,0),by simp⟩ (FE.virtF (r:=r0) (i:=0) (j:=5) (sz1:=16) (by simp [ZU,hn];exact ⟨rfl,rfl⟩) rfl rfl ho hv) (by simp [E2]) ?_ ?_
  ·simp only [List.mem_cons,List.not_mem_nil,or_false,not_or] at hv
   simp [subH,ZU,ZF,names,hn,hv]
  rintro ⟨⟨p,i⟩,hi⟩ hn
  dsimp only at hi hn ⊢
  (replace hn:=hn;simp only [VN] at hn)
  (refine R1 (jO @XE (jO @Z9 (jO @Z8 (jO @Z7 (jO hn @t_ldf))))) ?_;with_reducible repeat' first|exact trivial|intro h|refine aO ?_|refine eO ?_|apply jO)
  ·refine callS.eq (w51 _ (h5 _ (gM _)).1) ?_
   (refine R1 (jO @XE (jO @Z9 (jO @Z8 (jO @Z7 (jO hn @t_ldf))))) ?_;with_reducible repeat' first|exact trivial|intro h|refine aO ?_|refine eO ?_|apply jO)
   refine callS.eq (w51 _ (h5 _ (gM _)).2) ?_
   (refine R1 (jO @XE (jO @Z9 (jO @Z8 (jO @Z7 (jO hn @t_ldf))))) ?_;with_reducible repeat' first|exact trivial|intro h|refine aO ?_|refine eO ?_|apply jO)
   rename_i q2
   have h2:=Z0 h
   (replace h2:=h2;simp only [VN] at h2)
   (refine R1 (jO @XE (jO @Z9 (jO @Z8 (jO @Z7 (jO hn (jO h2 @t_ldf)))))) ?_;with_reducible repeat' first|exact trivial|intro h|refine aO ?_|refine eO ?_|apply jO)
   ·simp;omega
   rename_i q3
   have h3:=Z0 h
   (replace h3:=h3;simp only [VN] at h3)
   (refine R1 (jO @XE (jO @Z9 (jO @Z8 (jO @Z7 (jO hn (jO h2 (jO h3 @t_ldf))))))) ?_;with_reducible repeat' first|exact trivial|intro h|refine aO ?_|refine eO ?_|apply jO)
   rw [takeApp Co e.cons i (by assumption)]
   exact px ⟨(q3,i+1),by omega⟩ (by simp;omega) (by simp [E2]) (by simp [subH,ZU,names,h3])
  ·have:i=e.cons.length:=by omega
   subst this
   rw [List.take_length]
   exact .agg (.cons .refl (.cons .refl (.cons (Bor.allM (fun _ => rfl) (by simp [ZU,hn]) rfl) (.cons .refl (.cons (Bor.allM (fun _ => rfl) (by simp [ZU,hn]) rfl) (.cons (Bor.allM (fun _ => rfl) (by simp [ZU,hn]) rfl) .nil))))))
theorem w20 (g:Gram) (s:ByteArray) (hg:Zj g):Pu 20 [Gr g,T s] (· = .tup [Ru (Y8 g.rules s),B (hRul g.rules s)]):=by
 refine Pure.bor ?_
 have hlen:=hg.2.1
 refine ZR mxd i20 rfl (by simp) ?_;refine X0 ?_
 refine Zl mxd (ι:={ i:Nat // i≤g.rules.length∧∀y∈g.rules.take i,decide (y.name=s)=false }) (fun i=>[(1,T s),(2,.rop 2 (Gr g)),(4,.raw 6),(6,I i.1)]) (fun _ => []) (fun i=>g.rules.length-i.1) ⟨0,by simp⟩ (by simp [E2]) rfl ?_
 rintro ⟨i,hi,hn⟩
 (refine R0 ?_;with_reducible repeat' first|exact trivial|intro h|refine aO ?_|refine eO ?_|apply jO)
 ·subst h
  refine callS.eq (w35 g.rules[i] (hg.2.2.2 _ (gM _))) ?_
  (refine R0 ?_;with_reducible repeat' first|exact trivial|intro h|refine aO ?_|refine eO ?_|apply jO)
  have e:=find_hit (p:=fun x:Rul=>decide (x.name=g.rules[i].name)) (xs:=g.rules) (i:=i) (by assumption) (by simp) hn
  simp only [Y8,hRul,e]
  exact .refl
 ·exact nx ⟨i+1,by omega,YX (by assumption) (by simp [*]) hn⟩ (by simp;omega) (by simp [E2]) rfl
 ·have:i=g.rules.length:=by omega
  subst this
  rw [tL (Nat.le_refl _)] at hn
  have e:=find_none hn
  simp only [Y8,hRul,e]
  exact .tup (.cons (.agg (.cons .refl (.cons .refl (.cons .nil (.cons .refl (.cons .nil (.cons .nil .nil))))))) (.cons .refl .nil))
theorem w10 (g:Gram) (t:List Nod) (i:Int) (hg:Zj g):Pu 10 [Gr g,Tr t,I i] (· = T (Y5 g t i)):=by
 refine GCalls.lenA fun hl=> ?_
 obtain ⟨hlen,_⟩:=lenTr hl.2.1
 refine ZR mxd i10 rfl (by simp) ?_;refine X0 ?_
 by_cases h:0≤i∧i<t.length
 ·obtain ⟨i,rfl⟩:∃k:Nat,i=k:=⟨i.toNat,by omega⟩
  have hi:i<t.length:=by omega
  rw [symN_in hi]
  (with_reducible repeat' first|refine callS.eq (w19 _ _ _) ?_|refine callS.eq (w20 _ _ hg) ?_|exact trivial|refine aO ?_|refine eO ?_|apply jO|refine K0 ?_|intro h)
  all_goals first|rfl|(exfalso;omega)
 ·rw [symN_out h]
  (with_reducible repeat' first|refine callS.eq (w19 _ _ _) ?_|refine callS.eq (w20 _ _ hg) ?_|exact trivial|refine aO ?_|refine eO ?_|apply jO|refine K0 ?_|intro h)
  all_goals first|rfl|(exfalso;omega)
theorem w23 (g:Gram) (t:List Nod) (i:Int) (hg:Zj g):Pu 23 [Gr g,Tr t,I i] (· = T (Y5 g t i)):=by
 refine GCalls.lenA fun hl=> ?_
 obtain ⟨hlen,_⟩:=lenTr hl.2.1
 refine ZR mxd i23 rfl (by simp) ?_;refine X0 ?_
 by_cases h:0≤i∧i<t.length
 ·obtain ⟨i,rfl⟩:∃k:Nat,i=k:=⟨i.toNat,by omega⟩
  have hi:i<t.length:=by omega
  rw [symN_in hi]
  (with_reducible repeat' first|refine callS.eq (w38 _ _) ?_|refine callS.eq (w39 _ _ hg) ?_|exact trivial|refine aO ?_|refine eO ?_|apply jO|refine K0 ?_|intro h)
  all_goals first|rfl|(exfalso;omega)
 ·rw [symN_out h]
  (with_reducible repeat' first|refine callS.eq (w38 _ _) ?_|refine callS.eq (w39 _ _ hg) ?_|exact trivial|refine aO ?_|refine eO ?_|apply jO|refine K0 ?_|intro h)
  all_goals first|rfl|(exfalso;omega)
theorem w11 (g:Gram) (t:List Nod) (x:Int×ByteArray) (hg:Zj g):Pu 11 [Gr g,Tr t,Ins x] (· = .tup [At (attN g t x.1 x.2),B (hasN g t x.1 x.2)]):=by
 refine ZR mxd i11 rfl (by simp) ?_;refine X0 ?_
 (with_reducible repeat' first|refine callS.eq (w21 _ _) ?_|refine callS.eq (w23 _ _ _ hg) ?_|refine callS.eq (w22 _ _ hg) ?_|refine callS.eq (w24 _ _ (smSy_f hg _)) ?_|exact trivial|refine aO ?_|refine eO ?_|apply jO|refine K0 ?_|intro h)
 all_goals simp only [attN,hasN]
 ·rw [if_neg (by omega),if_neg (by omega)];rfl
 ·rw [if_pos (by omega),if_pos (by omega)]
end Go.Proofs.YtofcbmnplanmkaaDoor
namespace Go.Proofs.YtofcbmnplanmkaaDoor
open Go.Gh
open Nat (reduceEqDiff reduceLeDiff reduceAdd reduceLT)
open Int (reduceNe)
set_option maxRecDepth 20000
set_option linter.unusedSimpArgs false
set_option linter.unusedVariables false
theorem w79 (b:Bool):Pu 79 [B b] (· = I (trV b)):=by
 refine ZR mxd i79 rfl (by simp) ?_;refine X0 ?_
 (refine R0 ?_;with_reducible repeat' first|exact trivial|intro h|refine aO ?_|refine eO ?_|apply jO)<;>simp_all [trV]
theorem w88 (a b:Int):Pu 88 [I a,I b] (· = I (min a b)):=by
 refine ZR mxd i88 rfl (by simp) ?_;refine X0 ?_
 (refine R0 ?_;with_reducible repeat' first|exact trivial|intro h|refine aO ?_|refine eO ?_|apply jO)<;>(congr 2;omega)
theorem w78 (n:Int):Pu 78 [I n] (· = I (satV n)):=by
 refine ZR mxd i78 rfl (by simp) ?_;refine X0 ?_
 refine callS.eq (w88 _ _) ?_
 (refine R0 ?_;with_reducible repeat' first|exact trivial|intro h|refine aO ?_|refine eO ?_|apply jO)
 refine callS.eq (w76 _ _) ?_
 (refine R0 ?_;with_reducible repeat' first|exact trivial|intro h|refine aO ?_|refine eO ?_|apply jO)<;>rfl
theorem w67 (v k:Int):Pu 67 [I v,I k] (· = I (coV v k)):=by
 refine ZR mxd i67 rfl (by simp) ?_;refine X0 ?_
 (refine R0 ?_;with_reducible repeat' first|exact trivial|intro h|refine aO ?_|refine eO ?_|apply jO)
 ·refine callS.eq (w78 _) ?_
  (refine R0 ?_;with_reducible repeat' first|exact trivial|intro h|refine aO ?_|refine eO ?_|apply jO)<;>simp_all [coV]
 ·simp_all [coV]
 ·refine callS.eq (w79 _) ?_
  (refine R0 ?_;with_reducible repeat' first|exact trivial|intro h|refine aO ?_|refine eO ?_|apply jO)<;>simp_all [coV]
 ·refine callS.eq (w19 _ _ _) ?_
  (refine R0 ?_;with_reducible repeat' first|exact trivial|intro h|refine aO ?_|refine eO ?_|apply jO)<;>simp_all [coV]<;>(intros;omega)
 ·simp_all [coV]
theorem w69 (op:Int):Pu 69 [I op] (· = opG op):=by
 refine ZR mxd i69 rfl (by simp) ?_;refine X0 ?_
 refine callS.eq (w19 _ _ _) ?_
 (refine R0 ?_;with_reducible repeat' first|exact trivial|intro h|refine aO ?_|refine eO ?_|apply jO)
 ·simp only [opG,opT,if_pos h]
 refine callS.eq (w19 _ _ _) ?_
 (refine R0 ?_;with_reducible repeat' first|exact trivial|intro h|refine aO ?_|refine eO ?_|apply jO)
 all_goals first|(simp only [opG,opT];rw [if_neg (by assumption),if_pos (by assumption)];done)|(subst op;rfl)|(rw [opG0 (by omega)];done)|(simp_all [opG,opT];done)|skip
theorem w50 (v k:Int):Pu 50 [I v,I k] (· = B (okV v k)):=by
 refine ZR mxd i50 rfl (by simp) ?_;refine X0 ?_
 refine callS.eq (w19 _ _ _) ?_
 (refine R0 ?_;with_reducible repeat' first|exact trivial|intro h|refine aO ?_|refine eO ?_|apply jO)
 ·refine callS.eq (w67 _ _) ?_
  (refine R0 ?_;with_reducible repeat' first|exact trivial|intro h|refine aO ?_|refine eO ?_|apply jO)<;>simp_all [okV]
 ·simp_all [okV]<;>(intros;omega)
theorem w34 (g:Gram) (t:List Nod) (hg:Zj g) (hl:t.length≤1048576) (hk:∀x∈t,x.kids.length≤1048576):∀(f i:Nat) (p q:Int) (s:ByteArray),t.length≤i+f→Pu 34 [Gr g,Tr t,I i,I p,I q,T s] (· = I (Zo g t f i p q s)):=by
 intro f
 induction f with
 | zero=>
  intro i p q s hf
  refine ZR mxd i34 rfl (by simp) ?_;refine X0 ?_
  (refine R0 ?_;with_reducible repeat' first|exact trivial|intro h|refine aO ?_|refine eO ?_|apply jO)
  all_goals first|rfl|(exfalso;omega)
 | succ f ih=>
  intro i p q s hf
  refine ZR mxd i34 rfl (by simp) ?_;refine X0 ?_
  by_cases hi:i<t.length
  rotate_left
  ·rw [walkE_out (by omega)]
   (refine R0 ?_;with_reducible repeat' first|exact trivial|intro h|refine aO ?_|refine eO ?_|apply jO)
   all_goals first|rfl|(exfalso;omega)
  have hw:Zo g t (f+1) i p q s=if fitV g t[i] p q s then Y3 (Zo g t f) i t[i].kids (Y8 g.rules t[i].rule).right 0 (i+1) else -1:=by simp only [Zo,if_pos hi,Zu hi]
  have hkk:=hk _ (gM hi)
  have hr:=smRu_f hg t[i].rule
  have hrr:=hr.1
  rw [hw]
  by_cases hv:fitV g t[i] p q s=true
  ·rw [if_pos hv]
   obtain ⟨h1,h2,h3,h4,h5,h6,h7⟩:=fitV_iff.1 hv
   subst h2 h3 h4
   clear hw hv
   have hR:∃R,Y8 g.rules t[i].rule = R:=⟨_,rfl⟩
   obtain ⟨R,hR⟩:=hR
   rw [hR] at hr hrr h5 h7 ⊢
   have main:∀(Q:Exit→Env→GH→Prop),True:=fun _ => trivial
   rcases h7 with h7|h7
   ·(with_reducible repeat' first|refine callS.eq (w20 _ _ hg) ?_|refine callS.eq (w50 _ _) ?_|exact trivial|refine aO ?_|refine eO ?_|apply jO|refine K1 (jO h1 (jO h5 (jO okV1 (jO (eq_true h6) (jO h7 hR))))) ?_|intro h)
    all_goals try exact oF
    have hVV:∃V,Y3 (Zo g t f) i t[i].kids R.right 0 (i+1)=V:=⟨_,rfl⟩
    obtain ⟨V,hVV⟩:=hVV
    rw [hVV]
    refine Zl mxd (ι:={ x:Nat×Int // x.1≤R.right.length∧(i:Int)<x.2∧x.2≤t.length∧Y3 (Zo g t f) i (t[i].kids.drop x.1) (R.right.drop x.1) x.1 x.2=V }) (fun x=>[(2,I i),(6,.rop 2 (Gr g)),(7,.rop 1 (Tr t)),(13,.rop 6 (Nd t[i])),(14,.rop 6 (Ru R)),(16,I x.1.2),(17,I x.1.1)]) (fun _ => []) (fun x=>R.right.length-x.1.1) ⟨(0,i+1),by simp,by simp;omega,by simp;omega,by simpa using hVV⟩ (by simp [E2,h7]) rfl ?_
    rintro ⟨⟨k,a⟩,hk1,ha1,ha2,hV⟩
    dsimp only at hk1 ha1 ha2 hV ⊢
    rcases nL k R.right.length with hlt|hge
    ·rw [kidsW_step (by omega) hlt] at hV
     by_cases hc:t[i].kids[k]=a
     ·rw [if_neg (by simpa using hc)] at hV
      obtain ⟨m,rfl⟩:∃m:Nat,a=m:=⟨a.toNat,by omega⟩
      have hm:=walkE_ge (g:=g) (t:=t) f m i ((k:Int)+1) R.right[k]
      simp only [Int.toNat_natCast] at hV
      (with_reducible repeat' first|refine callS.eq (ih m _ _ _ (by omega)) ?_|exact trivial|refine aO ?_|refine eO ?_|apply jO|refine K1 (jO h5 hc) ?_|intro h)
      all_goals try exact oF
      ·rw [if_pos (by assumption)] at hV;rw [←hV]
      ·rw [if_neg (by assumption)] at hV
       exact nx ⟨(k+1,Zo g t f m i ((k:Int)+1) R.right[k]),by omega,by dsimp only;omega,by dsimp only;omega,hV⟩ (by simp;omega) (by simp [E2]) rfl
     ·rw [if_pos (by simpa using hc)] at hV
      (with_reducible repeat' first|refine callS.eq (ih _ _ _ _ (by omega)) ?_|exact trivial|refine aO ?_|refine eO ?_|apply jO|refine K1 (jO h5 hc) ?_|intro h)
      all_goals first|(rw [←hV];done)|(exfalso;omega)
    ·rw [kidsW_end (by omega)] at hV
     (refine R0 ?_;with_reducible repeat' first|exact trivial|intro h|refine aO ?_|refine eO ?_|apply jO)
     all_goals first|(rw [←hV];done)|(exfalso;omega)
   ·(with_reducible repeat' first|refine callS.eq (w20 _ _ hg) ?_|refine callS.eq (w50 _ _) ?_|exact trivial|refine aO ?_|refine eO ?_|apply jO|refine K1 (jO h1 (jO h5 (jO okV1 (jO (eq_true h6) (jO h7.1 (jO (eq_true h7.2) hR)))))) ?_|intro h)
    all_goals try exact oF
    have hVV:∃V,Y3 (Zo g t f) i t[i].kids R.right 0 (i+1)=V:=⟨_,rfl⟩
    obtain ⟨V,hVV⟩:=hVV
    rw [hVV]
    refine Zl mxd (ι:={ x:Nat×Int // x.1≤R.right.length∧(i:Int)<x.2∧x.2≤t.length∧Y3 (Zo g t f) i (t[i].kids.drop x.1) (R.right.drop x.1) x.1 x.2=V }) (fun x=>[(2,I i),(6,.rop 2 (Gr g)),(7,.rop 1 (Tr t)),(13,.rop 6 (Nd t[i])),(14,.rop 6 (Ru R)),(16,I x.1.2),(17,I x.1.1)]) (fun _ => []) (fun x=>R.right.length-x.1.1) ⟨(0,i+1),by simp,by simp;omega,by simp;omega,by simpa using hVV⟩ (by simp [E2,h7]) rfl ?_
    rintro ⟨⟨k,a⟩,hk1,ha1,ha2,hV⟩
    dsimp only at hk1 ha1 ha2 hV ⊢
    rcases nL k R.right.length with hlt|hge
    ·rw [kidsW_step (by omega) hlt] at hV
     by_cases hc:t[i].kids[k]=a
     ·rw [if_neg (by simpa using hc)] at hV
      obtain ⟨m,rfl⟩:∃m:Nat,a=m:=⟨a.toNat,by omega⟩
      have hm:=walkE_ge (g:=g) (t:=t) f m i ((k:Int)+1) R.right[k]
      simp only [Int.toNat_natCast] at hV
      (with_reducible repeat' first|refine callS.eq (ih m _ _ _ (by omega)) ?_|exact trivial|refine aO ?_|refine eO ?_|apply jO|refine K1 (jO h5 hc) ?_|intro h)
      all_goals try exact oF
      ·rw [if_pos (by assumption)] at hV;rw [←hV]
      ·rw [if_neg (by assumption)] at hV
       exact nx ⟨(k+1,Zo g t f m i ((k:Int)+1) R.right[k]),by omega,by dsimp only;omega,by dsimp only;omega,hV⟩ (by simp;omega) (by simp [E2]) rfl
     ·rw [if_pos (by simpa using hc)] at hV
      (with_reducible repeat' first|refine callS.eq (ih _ _ _ _ (by omega)) ?_|exact trivial|refine aO ?_|refine eO ?_|apply jO|refine K1 (jO h5 hc) ?_|intro h)
      all_goals first|(rw [←hV];done)|(exfalso;omega)
    ·rw [kidsW_end (by omega)] at hV
     (refine R0 ?_;with_reducible repeat' first|exact trivial|intro h|refine aO ?_|refine eO ?_|apply jO)
     all_goals first|(rw [←hV];done)|(exfalso;omega)
  ·rw [if_neg hv]
   rw [fitV_iff] at hv
   (with_reducible repeat' first|refine callS.eq (w20 _ _ hg) ?_|refine callS.eq (w50 _ _) ?_|exact trivial|refine aO ?_|refine eO ?_|apply jO|refine K0 ?_|intro h)
   all_goals try rfl
   all_goals (exfalso;apply hv;simp_all only [okV1,decide_eq_true_eq,decide_eq_false_iff_not,true_and,and_true,or_true,true_or,not_true_eq_false,not_false_eq_true];done)
theorem w66 (g:Gram) (t:List Nod) (hg:Zj g) (hl:t.length≤1048576) (hk:∀x∈t,x.kids.length≤1048576):∀(f i:Nat) (p q:Int) (s:ByteArray),t.length≤i+f→Pu 66 [Gr g,Tr t,I i,I p,I q,T s] (· = I (Zo g t f i p q s)):=by
 intro f
 induction f with
 | zero=>
  intro i p q s hf
  refine ZR mxd i66 rfl (by simp) ?_;refine X0 ?_
  (refine R0 ?_;with_reducible repeat' first|exact trivial|intro h|refine aO ?_|refine eO ?_|apply jO)
  all_goals first|rfl|(exfalso;omega)
 | succ f ih=>
  intro i p q s hf
  refine ZR mxd i66 rfl (by simp) ?_;refine X0 ?_
  by_cases hi:i<t.length
  rotate_left
  ·rw [walkE_out (by omega)]
   (refine R0 ?_;with_reducible repeat' first|exact trivial|intro h|refine aO ?_|refine eO ?_|apply jO)
   all_goals first|rfl|(exfalso;omega)
  have hw:Zo g t (f+1) i p q s=if fitV g t[i] p q s then Y3 (Zo g t f) i t[i].kids (Y8 g.rules t[i].rule).right 0 (i+1) else -1:=by simp only [Zo,if_pos hi,Zu hi]
  have hkk:=hk _ (gM hi)
  have hr:=smRu_f hg t[i].rule
  have hrr:=hr.1
  rw [hw]
  by_cases hv:fitV g t[i] p q s=true
  ·rw [if_pos hv]
   obtain ⟨h1,h2,h3,h4,h5,h6,h7⟩:=fitV_iff.1 hv
   subst h2 h3 h4
   clear hw hv
   have hR:∃R,Y8 g.rules t[i].rule = R:=⟨_,rfl⟩
   obtain ⟨R,hR⟩:=hR
   rw [hR] at hr hrr h5 h7 ⊢
   have main:∀(Q:Exit→Env→GH→Prop),True:=fun _ => trivial
   rcases h7 with h7|h7
   ·(with_reducible repeat' first|refine callS.eq (w39 _ _ hg) ?_|refine callS.eq (w52 _ _ _) ?_|exact trivial|refine aO ?_|refine eO ?_|apply jO|refine K1 (jO h1 (jO h5 (jO (eq_true h6) (jO h7 hR)))) ?_|intro h)
    all_goals try exact oF
    have hVV:∃V,Y3 (Zo g t f) i t[i].kids R.right 0 (i+1)=V:=⟨_,rfl⟩
    obtain ⟨V,hVV⟩:=hVV
    rw [hVV]
    refine Zl mxd (ι:={ x:Nat×Int // x.1≤R.right.length∧(i:Int)<x.2∧x.2≤t.length∧Y3 (Zo g t f) i (t[i].kids.drop x.1) (R.right.drop x.1) x.1 x.2=V }) (fun x=>[(2,I i),(6,.rop 2 (Gr g)),(7,.rop 1 (Tr t)),(14,.rop 6 (Ru R)),(16,I x.1.2),(84,IS t[i].kids),(85,I R.right.length),(86,I x.1.1)]) (fun _ => []) (fun x=>R.right.length-x.1.1) ⟨(0,i+1),by simp,by simp;omega,by simp;omega,by simpa using hVV⟩ (by simp [E2,h7]) rfl ?_
    rintro ⟨⟨k,a⟩,hk1,ha1,ha2,hV⟩
    dsimp only at hk1 ha1 ha2 hV ⊢
    rcases nL k R.right.length with hlt|hge
    ·rw [kidsW_step (by omega) hlt] at hV
     by_cases hc:t[i].kids[k]=a
     ·rw [if_neg (by simpa using hc)] at hV
      obtain ⟨m,rfl⟩:∃m:Nat,a=m:=⟨a.toNat,by omega⟩
      have hm:=walkE_ge (g:=g) (t:=t) f m i ((k:Int)+1) R.right[k]
      simp only [Int.toNat_natCast] at hV
      (with_reducible repeat' first|refine callS.eq (ih m _ _ _ (by omega)) ?_|exact trivial|refine aO ?_|refine eO ?_|apply jO|refine K1 (jO h5 hc) ?_|intro h)
      all_goals try exact oF
      ·rw [if_pos (by assumption)] at hV;rw [←hV]
      ·rw [if_neg (by assumption)] at hV
       exact nx ⟨(k+1,Zo g t f m i ((k:Int)+1) R.right[k]),by omega,by dsimp only;omega,by dsimp only;omega,hV⟩ (by simp;omega) (by simp [E2]) rfl
     ·rw [if_pos (by simpa using hc)] at hV
      (with_reducible repeat' first|refine callS.eq (ih _ _ _ _ (by omega)) ?_|exact trivial|refine aO ?_|refine eO ?_|apply jO|refine K1 (jO h5 hc) ?_|intro h)
      all_goals first|(rw [←hV];done)|(exfalso;omega)
    ·rw [kidsW_end (by omega)] at hV
     (refine R0 ?_;with_reducible repeat' first|exact trivial|intro h|refine aO ?_|refine eO ?_|apply jO)
     all_goals first|(rw [←hV];done)|(exfalso;omega)
   ·(with_reducible repeat' first|refine callS.eq (w39 _ _ hg) ?_|refine callS.eq (w52 _ _ _) ?_|exact trivial|refine aO ?_|refine eO ?_|apply jO|refine K1 (jO h1 (jO h5 (jO (eq_true h6) (jO h7.1 (jO (eq_true h7.2) hR))))) ?_|intro h)
    all_goals try exact oF
    have hVV:∃V,Y3 (Zo g t f) i t[i].kids R.right 0 (i+1)=V:=⟨_,rfl⟩
    obtain ⟨V,hVV⟩:=hVV
    rw [hVV]
    refine Zl mxd (ι:={ x:Nat×Int // x.1≤R.right.length∧(i:Int)<x.2∧x.2≤t.length∧Y3 (Zo g t f) i (t[i].kids.drop x.1) (R.right.drop x.1) x.1 x.2=V }) (fun x=>[(2,I i),(6,.rop 2 (Gr g)),(7,.rop 1 (Tr t)),(14,.rop 6 (Ru R)),(16,I x.1.2),(84,IS t[i].kids),(85,I R.right.length),(86,I x.1.1)]) (fun _ => []) (fun x=>R.right.length-x.1.1) ⟨(0,i+1),by simp,by simp;omega,by simp;omega,by simpa using hVV⟩ (by simp [E2,h7]) rfl ?_
    rintro ⟨⟨k,a⟩,hk1,ha1,ha2,hV⟩
    dsimp only at hk1 ha1 ha2 hV ⊢
    rcases nL k R.right.length with hlt|hge
    ·rw [kidsW_step (by omega) hlt] at hV
     by_cases hc:t[i].kids[k]=a
     ·rw [if_neg (by simpa using hc)] at hV
      obtain ⟨m,rfl⟩:∃m:Nat,a=m:=⟨a.toNat,by omega⟩
      have hm:=walkE_ge (g:=g) (t:=t) f m i ((k:Int)+1) R.right[k]
      simp only [Int.toNat_natCast] at hV
      (with_reducible repeat' first|refine callS.eq (ih m _ _ _ (by omega)) ?_|exact trivial|refine aO ?_|refine eO ?_|apply jO|refine K1 (jO h5 hc) ?_|intro h)
      all_goals try exact oF
      ·rw [if_pos (by assumption)] at hV;rw [←hV]
      ·rw [if_neg (by assumption)] at hV
       exact nx ⟨(k+1,Zo g t f m i ((k:Int)+1) R.right[k]),by omega,by dsimp only;omega,by dsimp only;omega,hV⟩ (by simp;omega) (by simp [E2]) rfl
     ·rw [if_pos (by simpa using hc)] at hV
      (with_reducible repeat' first|refine callS.eq (ih _ _ _ _ (by omega)) ?_|exact trivial|refine aO ?_|refine eO ?_|apply jO|refine K1 (jO h5 hc) ?_|intro h)
      all_goals first|(rw [←hV];done)|(exfalso;omega)
    ·rw [kidsW_end (by omega)] at hV
     (refine R0 ?_;with_reducible repeat' first|exact trivial|intro h|refine aO ?_|refine eO ?_|apply jO)
     all_goals first|(rw [←hV];done)|(exfalso;omega)
  ·rw [if_neg hv]
   rw [fitV_iff] at hv
   (with_reducible repeat' first|refine callS.eq (w39 _ _ hg) ?_|refine callS.eq (w52 _ _ _) ?_|exact trivial|refine aO ?_|refine eO ?_|apply jO|refine K0 ?_|intro h)
   all_goals try rfl
   all_goals (exfalso;apply hv;simp_all only [okV1,decide_eq_true_eq,decide_eq_false_iff_not,true_and,and_true,or_true,true_or,not_true_eq_false,not_false_eq_true];done)
theorem w49 (l:List Int) (x:Int):Pu 49 [IS l,I x] (· = B (hasI l x)):=by
 refine GCalls.lenA fun hl=> ?_
 have hlen:=hl.1.1
 simp only [List.length_map,Zq] at hlen
 refine ZR mxd i49 rfl (by simp) ?_;refine X0 ?_
 refine Zl mxd (ι:={ i:Nat // i≤l.length∧∀y∈l.take i,decide (y=x)=false }) (fun i=>[(0,IS l),(1,I x),(5,I i.1)]) (fun _ => []) (fun i=>l.length-i.1) ⟨0,by simp⟩ (by simp [E2]) rfl ?_
 rintro ⟨i,hi,hn⟩
 (refine R0 ?_;with_reducible repeat' first|exact trivial|intro h|refine aO ?_|refine eO ?_|apply jO)
 ·rw [hasI_hit (by assumption) h]
 ·exact nx ⟨i+1,by omega,YX (by assumption) (by simpa using h) hn⟩ (by simp;omega) (by simp [E2]) rfl
 ·have:i=l.length:=by omega
  subst this
  rw [tL (Nat.le_refl _)] at hn
  rw [hasI_none hn]
theorem w33 (t:List Nod) (hl:t.length≤1048576):Pu 33 [Tr t] (· = B (idsV t&&decide (1≤t.length∧t.length≤16))):=by
 refine Pure.bor ?_
 refine ZR mxd i33 rfl (by simp) ?_;refine X0 ?_
 (refine R0 ?_;with_reducible repeat' first|exact trivial|intro h|refine aO ?_|refine eO ?_|apply jO)
 rename_i r
 refine ploop mxd (ι:={ x:Nat×Nat // x.2≤t.length∧∀j,j<x.2→gid t j=true }) (fun x=>[(1,.rop 1 (Tr t)),(3,.own x.1.1 1 0 x.1.2),(4,I x.1.2)]) (fun x=>[(x.1.1,1,((t.take x.1.2).map (·.id)).map I)]) (fun x=>t.length-x.1.2) ⟨(r,0),by simp⟩ (by simp [E2]) (by simp [subH,ZU,names]) ?_
 rintro ⟨⟨r,i⟩,hi,hn⟩ -
 dsimp only at hi hn ⊢
 rcases nL i t.length with hlt|hge
 ·(with_reducible repeat' first|refine callS.eq (w19 _ _ _) ?_|exact trivial|refine aO ?_|refine eO ?_|apply jO|refine K0 ?_|intro h)
  all_goals try exact oF
  ·refine callS.borA (w49 ((t.take i).map (·.id)) t[i].id) (.cons (bor_IS ZW (by simp;omega)) (.cons .refl .nil)) rfl ?_
   (refine R0 ?_;with_reducible repeat' first|exact trivial|intro h|refine aO ?_|refine eO ?_|apply jO)
   ·rw [hasI_map] at h
    rw [idsV_bad hlt (gid_f2 hlt h)]
    exact .refl
   ·rename_i q2
    have h2:=Z0 h
    (replace h2:=h2;simp only [VN] at h2)
    (refine R1 (jO @Z9 (jO @Z8 (jO @Z7 (jO h2 @t_ldf)))) ?_;with_reducible repeat' first|exact trivial|intro h|refine aO ?_|refine eO ?_|apply jO)
    ·simp;omega
    rename_i hh _ _ _ q3
    have h3:=Z0 h
    (replace h3:=h3;simp only [VN] at h3)
    rw [takeApp2 I (·.id) t i hlt]
    refine px ⟨(q3,i+1),by omega,fun j hj=> ?_⟩ (by simp;omega) (by simp [E2]) (by simp [subH,ZU,names,h3])
    rcases nL j i with hji|hji
    ·exact hn j hji
    ·have:j=i:=by omega
     subst this
     exact gid_t hlt (by assumption) (by rw [←hasI_map];assumption)
  ·rw [idsV_bad hlt (gid_f1 hlt (by assumption))]
   exact .refl
 ·have:i=t.length:=by omega
  subst this
  (with_reducible repeat' first|refine callS.eq (w19 _ _ _) ?_|exact trivial|refine aO ?_|refine eO ?_|apply jO|refine K0 ?_|intro h)
  have e:B (decide (1≤(t.length:Int)∧(t.length:Int)≤16))=B (idsV t&&decide (1≤t.length∧t.length≤16)):=by rw [idsV_ok hn,Bool.true_and];exact bEq (by omega)
  rw [←e]
  exact .refl
theorem w65 (x y:Nod):Pu 65 [Nd x,.rop 6 (Nd y)] (· = B (decide (x.id=y.id))):=by
 refine ZR mxd i65 rfl (by simp) ?_;refine X0 ?_
 try (refine R0 ?_;with_reducible repeat' first|exact trivial|intro h|refine aO ?_|refine eO ?_|apply jO)
theorem w64 (t:List Nod) (f:Nat) (cs:List GV) (p:Nod→Bool) (hp:∀x∈t,Pu f (Nd x::cs) (· = B (p x))) :
 Pu 64 [NdS t,.clo f cs] (· = B (t.any p)):=by
 refine ZR mxd i64 rfl (by simp) ?_;refine X0 ?_
 refine callS.eq (w36 t f cs p hp) ?_
 (refine R0 ?_;with_reducible repeat' first|exact trivial|intro h|refine aO ?_|refine eO ?_|apply jO)
 rw [←any_ix]
theorem w48 (g:Gram) (t:List Nod) (s:ByteArray) (hg:Zj g) (hl:t.length≤1048576) (hk:∀x∈t,x.kids.length≤1048576):Pu 48 [Gr g,Tr t,T s] (· = B (Y9 g t s)):=by
 refine ZR mxd i48 rfl (by simp) ?_;refine X0 ?_
 refine callS.eq (w52 _ _ _) ?_
 (refine R0 ?_;with_reducible repeat' first|exact trivial|intro h|refine aO ?_|refine eO ?_|apply jO)
 rotate_left
 ·simp only [Y9];rw [decide_eq_false (by omega)];rfl
 refine Zl mxd (ι:={ i:Nat // i≤t.length∧∀j,j<i→gid t j=true }) (fun i=>[(2,T s),(3,.rop 2 (Gr g)),(4,.rop 1 (Tr t)),(15,NdS t),(16,I t.length),(17,I i.1)]) (fun _ => []) (fun i=>t.length-i.1) ⟨0,by simp⟩ (by simp [E2]) rfl ?_
 rintro ⟨i,hi,hn⟩
 rcases nL i t.length with hlt|hge
 ·(with_reducible repeat' first|refine callS.eq (w52 _ _ _) ?_|exact trivial|refine aO ?_|refine eO ?_|apply jO|refine K0 ?_|intro h)
  all_goals try exact oF
  ·rw [show List.drop (Int.toNat 0) (List.take i (List.map Nd t))=(t.take i).map Nd from by simp [List.map_take]]
   refine callS.eq (w64 (t.take i) _ _ (fun y=>decide (y.id=t[i].id)) fun x _ => w65 x t[i]) ?_
   (refine R0 ?_;with_reducible repeat' first|exact trivial|intro h|refine aO ?_|refine eO ?_|apply jO)
   ·rw [treeOf_bad (idsV_bad hlt (gid_f2 hlt h))]
   ·refine nx ⟨i+1,by omega,fun j hj=> ?_⟩ (by simp;omega) (by simp [E2]) rfl
    rcases nL j i with hji|hji
    ·exact hn j hji
    ·have:j=i:=by omega
     subst this
     exact gid_t hlt (by assumption) h
  ·rw [treeOf_bad (idsV_bad hlt (gid_f1 hlt (by assumption)))]
 ·have:i=t.length:=by omega
  subst this
  have hw:=w66 g t hg hl hk t.length 0 (-1) 0 s (by omega)
  simp only [Int.natCast_zero] at hw
  (with_reducible repeat' first|refine callS.eq (hw) ?_|exact trivial|refine aO ?_|refine eO ?_|apply jO|refine K0 ?_|intro h)
  simp only [Y9,idsV_ok hn,Bool.true_and]
  rw [decide_eq_true (show 1≤t.length∧t.length≤16 by omega),Bool.true_and]
theorem w17 (g:Gram) (t:List Nod) (s:ByteArray) (hg:Zj g) (hl:t.length≤1048576) (hk:∀x∈t,x.kids.length≤1048576):Pu 17 [Gr g,Tr t,T s] (· = B (Y9 g t s)):=by
 have hw:=w34 g t hg hl hk t.length 0 (-1) 0 s (by omega)
 simp only [Int.natCast_zero] at hw
 refine ZR mxd i17 rfl (by simp) ?_;refine X0 ?_
 (with_reducible repeat' first|refine callS.eq (w33 t hl) ?_|refine callS.eq (hw) ?_|exact trivial|refine aO ?_|refine eO ?_|apply jO|refine K0 ?_|intro h)
 all_goals first|(simp_all [Y9];done)|(simp_all [Y9];intros;omega)
theorem w63 (g:Gram) (hg:Zj g):Pu 63 [Gr g] (· = T (startS g)):=by
 have hl:=hg.1
 refine ZR mxd i63 rfl (by simp) ?_;refine X0 ?_
 (refine R0 ?_;with_reducible repeat' first|exact trivial|intro h|refine aO ?_|refine eO ?_|apply jO)
 ·simp only [startS];rw [if_neg (by omega)];rfl
 ·simp only [startS,Int.reduceToNat];rw [if_pos (by omega),Zu (by omega)]
end Go.Proofs.YtofcbmnplanmkaaDoor
