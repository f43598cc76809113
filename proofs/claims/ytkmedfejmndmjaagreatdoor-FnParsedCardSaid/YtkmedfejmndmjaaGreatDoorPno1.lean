/- The tied card of the law holds. No condition. -/
import Derived.Test.YtkmedfejmndmjaaGreatDoorLibQ2
import Derived.Lib.ItoaNum
import Derived.Lib.LaidTab
import Derived.Sort.Grow
import Derived.Shelf.Strconv.Itoa3
import Derived.Deep.Draws
import Derived.LaidMore
import Derived.OpenShut
import Derived.Stop.Joined
import Derived.SevenTiedAt
import Derived.Shelf.Strconv.AtoiAll
import Derived.Lib.Bytealg
import Derived.Shelf.Small.Strs
import Derived.Shelf.Strings.OnBuilder
import Derived.KernelRfl
set_option maxHeartbeats 40000000
set_option maxRecDepth 20000
set_option linter.unusedSimpArgs false
set_option linter.unusedVariables false

namespace Go.Gh
abbrev T (s:ByteArray):GV:= .val (.string s)
theorem chars_inj {s t:ByteArray}:Z8 s=Z8 t↔s=t:=by
 constructor
 ·intro h;obtain ⟨a⟩:=s;obtain ⟨b⟩:=t;simp only[Z8] at h;congr 1;exact Array.ext' h
 ·rintro rfl;rfl
@[ext] structure Nod where
 id:Int
 parent:Int
 place:Int
 lit:Int
 rule:ByteArray
 kids:List Int
deriving DecidableEq
@[ext] structure Slo where
 pos:Int
 name:ByteArray
 val:Int
deriving DecidableEq
abbrev Occ (x:Int×ByteArray):GV:= .agg [I x.1,T x.2]
theorem e_nil (e:Env):subE e []=True:=(rfl)
theorem e_cons (e:Env) (j:Nat) (g:GV) (r:Env):subE e ((j,g)::r)=(ZS e j=some g∧subE e r):=(rfl)
theorem n_val (v:Value):nraw (.val v)=true:=(rfl)
theorem n_sl (sz:Nat) (es:List GV):nraw (.sl sz es)=true:=(rfl)
theorem n_agg (cs:List GV):nraw (.agg cs)=true:=(rfl)
theorem n_rop (sz:Nat) (g:GV):nraw (.rop sz g)=true:=(rfl)
theorem n_ptr (r sz i o:Nat):nraw (.ptr r sz i o)=true:=(rfl)
theorem n_own (r sz k n:Nat):nraw (.own r sz k n)=true:=(rfl)
theorem n_clo (f:Nat) (cs:List GV):nraw (.clo f cs)=true:=(rfl)
theorem n_tup (cs:List GV):nraw (.tup cs)=true:=(rfl)
theorem E2:type_of% (And.intro @e_nil (And.intro @e_cons (And.intro @n_val (And.intro @n_sl (And.intro @n_agg (And.intro @n_rop (And.intro @n_ptr (And.intro @n_own (And.intro @n_clo (And.intro @n_tup (And.intro @x_get @Option.some.injEq.{0}))))))))))):=
 And.intro @e_nil (And.intro @e_cons (And.intro @n_val (And.intro @n_sl (And.intro @n_agg (And.intro @n_rop (And.intro @n_ptr (And.intro @n_own (And.intro @n_clo (And.intro @n_tup (And.intro @x_get @Option.some.injEq.{0}))))))))))
theorem maxLv:YW=9223372036854775807:=(rfl)
theorem Z2:type_of% (And.intro @Int.ofNat_lt (And.intro @Int.natCast_nonneg (And.intro @true_and (And.intro @u_ext (And.intro @exists_prop_of_true (And.intro @Int.natCast_zero (And.intro @chars_inj (And.intro @Int.natCast_inj (And.intro maxLv (And.intro @not_true_eq_false (And.intro @false_implies (And.intro @true_implies (And.intro @and_true (And.intro @implies_true.{0} @wrap64)))))))))))))):=
 And.intro @Int.ofNat_lt (And.intro @Int.natCast_nonneg (And.intro @true_and (And.intro @u_ext (And.intro @exists_prop_of_true (And.intro @Int.natCast_zero (And.intro @chars_inj (And.intro @Int.natCast_inj (And.intro maxLv (And.intro @not_true_eq_false (And.intro @false_implies (And.intro @true_implies (And.intro @and_true (And.intro @implies_true.{0} @wrap64)))))))))))))
end Go.Gh
namespace Go.Gh
end Go.Gh
namespace Go.Gh
end Go.Gh
namespace Go.Gh
theorem sum_mem {α:Type} (f:α→Nat):∀(l:List α) (x:α),x∈l→f x≤(l.map f).sum
 | y::l,x,h=>by
  simp only[List.map_cons,List.sum_cons]
  rcases List.mem_cons.1 h with rfl|h
  ·omega
  ·have:=sum_mem f l x h;omega
end Go.Gh
namespace Go.Gh
theorem exP {p:Prop} {q:p→Prop} (h:p) (hq:q h):∃h,q h:=⟨h,hq⟩
end Go.Gh
namespace Go.Gh
end Go.Gh
namespace Go.Gh
section
variable {P:Program} {α:Type} {f:α→GV} {k kx sz:Nat} {det ag:Bool}
end
end Go.Gh
namespace Go.Gh
theorem t_one {t:Ty} {g:GV} (h:ET false [t] g):CT t g:=by
 obtain ⟨gs,k1,k2⟩:=h
 simp only[CTs] at k1
 obtain ⟨g,gs',rfl,hg,rfl⟩:=k1
 simp at k2
 rw[←k2];exact hg
end Go.Gh
namespace Go.Gh
theorem Z7 (P:Program) (c:Prop) [Decidable c] (g:GV) (d:Option Nat) (is:List GI) (K:Env→GH→Prop) (env:Env) (H:GH):valS P (if c then some g else none) d is K env H=(c∧Z5 P is K (gput env d g) H):=by
 by_cases h:c<;>simp[h,valS]
theorem nxF {ι:Type} {E:ι→Env} {G:ι→GH} {μ:ι→Nat} {i:ι} {e e':Env} {H H':GH} (j:ι) (hm:μ j<μ i) (hf:FE e H e' H') (h:subE e' (E j)) (hh:H'=G j):Nx E G μ i e H:=by
 subst hh
 exact ⟨j,FE.trans hf (FE.of h),hm⟩
theorem wloopF {P:Program} {cf:Cfg} (mxd:P.follows .mixedOrders = true) {ι:Type} {x:GC} {Q:Exit→Env→GH→Prop} {env env':Env} {H H':GH} (E:ι→Env) (G:ι→GH) (μ:ι→Nat) (i0:ι) (hf:FE env H env' H') (h0:subE env' (E i0)) (hh:H'=G i0)
 (round:∀i,(names (G i)).Nodup → GW P cf x (thenG (Nx E G μ i) Q) (E i) (G i)):GW P cf (.loop x) Q env H:=by
 subst hh
 exact GW.loop E G μ i0 (FE.trans hf (FE.of h0)) fun i=>GW.names fun hn=>round i hn
theorem FE.swap {env:Env} {H:GH} {x y:Nat×Nat×List GV}:FE env (x::y::H) env (y::x::H):=by
 intro w0 D0 O0 N a w ⟨hdf,hsz,D,Ω,ρw,hi⟩
 obtain ⟨r1,sz1,es1⟩:=x
 obtain ⟨r2,sz2,es2⟩:=y
 obtain ⟨F1,G1,e1,h1,F2,F3,e2,h2,h3⟩:=hi.st.hm
 have hp:∀x,(F2++(F1++F3)).count x=Ω.count x:=by
  intro x;rw[e1,e2];simp only[List.count_append];omega
 have hmem:∀x∈F2++(F1++F3),x∈Ω:=fun x hx=>by
  have:=List.count_pos_iff.2 hx
  exact List.count_pos_iff.1 (by rw[←hp];exact this)
 refine ⟨hdf,hsz,D,F2++(F1++F3),ρw,hi.st' ⟨⟨F2,_,rfl,h2,F1,F3,rfl,h1,h3⟩,?_,?_,fun x hx=>hi.st.dj x (hmem x hx),hi.st.ds⟩ hmem⟩
 ·rw[List.nodup_iff_count]
  intro x
  rw[hp]
  exact List.nodup_iff_count.1 hi.st.nd x
 ·have:=hi.st.nn
  simp only[names,List.map_cons,List.nodup_cons,List.mem_cons,not_or] at this ⊢
  exact ⟨⟨fun e=>this.1.1 e.symm,this.2.1⟩,this.1.2,this.2.2⟩
theorem callS.borA {P:Program} {K:Env→GH→Prop} {is:List GI} {env:Env} {H:GH} {d:Option Nat} {det:Bool} {f:FuncId} {gs gs':List GV} {G:GV} (h:Pure P f gs' (· = G)) (hb:BorL H gs gs') (hs:scal G=true) (hk:Z5 P is K (gput env d G) H):callS P det f (some gs) d is K env H:=by
 cases det
 ·exact callS.bor h hb hs hk
 ·exact ⟨G,h.borrow hb (fun _ e=>by rw[e];exact hs),hk⟩
end Go.Gh
namespace Go.Gh
inductive Exp where
 | mk (kind n pos type:Int) (sym name:ByteArray) (args:List Exp)
def Exp.kind:Exp→Int | .mk k _ _ _ _ _ _ => k
def Exp.n:Exp→Int | .mk _ n _ _ _ _ _ => n
def Exp.pos:Exp→Int | .mk _ _ p _ _ _ _ => p
def Exp.type:Exp→Int | .mk _ _ _ t _ _ _ => t
def Exp.sym:Exp→ByteArray | .mk _ _ _ _ s _ _ => s
def Exp.name:Exp→ByteArray | .mk _ _ _ _ _ m _ => m
def Exp.args:Exp→List Exp | .mk _ _ _ _ _ _ a=>a
theorem Exp.eta (e:Exp):Exp.mk e.kind e.n e.pos e.type e.sym e.name e.args=e:=by cases e;rfl
mutual
def Ex:Exp→GV
 | .mk k n p t s m a=> .agg [I k,I n,I p,I t,T s,T m,.sl 7 (ExL a)]
def ExL:List Exp→List GV
 | []=>[]
 | e::l=>Ex e::ExL l
end
theorem ExL_eq (l:List Exp):ExL l=l.map Ex:=by
 induction l with
 | nil=>rfl
 | cons e l ih=>simp[ExL,ih]
abbrev ExS (l:List Exp):GV:= .sl 7 (l.map Ex)
theorem ZC (e:Exp):Ex e = .agg [I e.kind,I e.n,I e.pos,I e.type,T e.sym,T e.name,ExS e.args]:=by
 cases e;simp only[Ex,ExL_eq];rfl
theorem Exp.ext_iff {x y:Exp}:x=y↔x.kind=y.kind∧x.n=y.n∧x.pos=y.pos∧x.type=y.type∧x.sym=y.sym∧x.name=y.name∧x.args=y.args:=by
 cases x;cases y
 simp[Exp.kind,Exp.n,Exp.pos,Exp.type,Exp.sym,Exp.name,Exp.args]
mutual
theorem Exp.indA {p:Exp→Prop} (h:∀e,(∀a∈e.args,p a)→p e):∀e,p e
 | .mk k n q t s m a=>h _ (Exp.indL h a)
theorem Exp.indL {p:Exp→Prop} (h:∀e,(∀a∈e.args,p a)→p e):∀(l:List Exp),∀a∈l,p a
 | [],a,hm=>by cases hm
 | e::l,a,hm=>by
  have he:p e:=Exp.indA h e
  have hl:=Exp.indL h l
  rcases List.mem_cons.1 hm with rfl|hm
  ·exact he
  ·exact hl a hm
end
mutual
def wEx:Exp→Nat
 | .mk _ _ _ _ s m a=>(Z8 s).length + (Z8 m).length + (a.length+wExL a)
def wExL:List Exp→Nat
 | []=>0
 | e::l=>wEx e+wExL l
end
theorem wExL_eq (l:List Exp):wExL l=(l.map wEx).sum := by
 induction l with
 | nil=>rfl
 | cons e l ih=>simp[wExL,ih]
theorem wEx_eq (e:Exp):wEx e=(Z8 e.sym).length + (Z8 e.name).length + wtS wEx e.args:=by
 cases e;simp only[wEx,wExL_eq,wtS];rfl
mutual
def okE:Exp→Prop
 | .mk _ _ _ _ s m a=>s.size≤maxLen∧m.size≤maxLen∧okEL a
def okEL:List Exp→Prop
 | []=>True
 | e::l=>okE e∧okEL l
end
theorem okEL_eq {l:List Exp}:okEL l↔∀a∈l,okE a:=by
 induction l with
 | nil=>simp[okEL]
 | cons e l ih=>simp[okEL,ih]
theorem okE_eq {e:Exp}:okE e↔e.sym.size≤maxLen∧e.name.size≤maxLen∧∀a∈e.args,okE a:=by
 cases e;simp only[okE,okEL_eq];rfl
mutual
instance decExp:(x y:Exp)→Decidable (x=y)
 | .mk k n p t s m a,.mk k' n' p' t' s' m' a'=>
  match decExpL a a' with
  | isTrue h=>decidable_of_iff (k=k'∧n=n'∧p=p'∧t=t'∧s=s'∧m=m') (by simp[h])
  | isFalse h=>isFalse (by simp[h])
instance decExpL:(x y:List Exp)→Decidable (x=y)
 | [],[]=>isTrue rfl
 | [],_ :: _ => isFalse (by simp)
 | _ :: _,[]=>isFalse (by simp)
 | e::l,e'::l'=>match decExp e e',decExpL l l' with
  | isTrue h,isTrue h'=>isTrue (by rw[h,h'])
  | isFalse h,_ => isFalse (by simp[h])
  | _,isFalse h=>isFalse (by simp[h])
end
theorem Yf {e:Exp} (h:wEx e≤1048576):e.args.length≤1048576∧∀a∈e.args,wEx a≤1048576:=by
 rw[wEx_eq] at h
 simp only[wtS] at h
 refine ⟨by omega,fun a ha=> ?_⟩
 have:=sum_mem wEx e.args a ha
 omega
theorem YB (e:Exp):isAgg (Ex e)=true:=by rw[ZC];rfl
theorem XY (e:Exp):geR (some (Ex e))=some (Ex e):=by rw[ZC];rfl
theorem YC (e:Exp):gsize (Ex e)=7:=by rw[ZC];rfl
theorem Yj (e:Exp):ZJ (Ex e)=true:=by rw[ZC];rfl
theorem view_Ex (e:Exp):view (Ex e)=Ex e:=by rw[ZC];rfl
end Go.Gh
namespace Go.Gh
open Go.RowKit Go.ChangeShapes Go.WideShapes Go.Deep
end Go.Gh
namespace Go.Gh
end Go.Gh
namespace Go.Gh
theorem wrapU (n:Int) (h:0≤n) (h2:n≤18446744073709551615):IntKind.u64.wrap n=n:=by
 simp only[IntKind.wrap,IntKind.bits,IntKind.signed]
 simp;omega
def satV (n:Int):Int:=max (-1000000) (min 1000000 n)
def trV (b:Bool):Int:=if b then 1 else 0
def coV (v k:Int):Int:=if k=1 then satV v else if k=2 then andI .i64 v 4095 else if k=3 then trV (!decide (v=0)) else if k=4∧0≤v∧v≤999 then v else 0
def okV (v k:Int):Bool:=decide (1≤k∧k≤4)&&decide (coV v k=v)
end Go.Gh
namespace Go.Gh
mutual
def Zo:Exp→Nat
 | .mk _ _ _ _ _ _ a=>1+cntEL a
def cntEL:List Exp→Nat
 | []=>0
 | e::l=>Zo e+cntEL l
end
theorem cntEL_eq (l:List Exp):cntEL l=(l.map Zo).sum := by
 induction l with
 | nil=>rfl
 | cons e l ih=>simp[cntEL,ih]
theorem Y4 (e:Exp):Zo e=1+(e.args.map Zo).sum := by
 cases e;simp only[Zo,cntEL_eq];rfl
theorem cntE_le:∀e,Zo e≤wEx e+1:=by
 refine Exp.indA fun e ih=> ?_
 rw[Y4,wEx_eq]
 have:∀l:List Exp,(∀a∈l,Zo a≤wEx a+1)→(l.map Zo).sum ≤ l.length+(l.map wEx).sum := by
  intro l
  induction l with
  | nil=>intro _;simp
  | cons a l ih=>
   intro h
   have h1:=h a (by simp)
   have h2:=ih fun b hb=>h b (by simp[hb])
   simp only[List.map_cons,List.sum_cons,List.length_cons];omega
 have:=this e.args ih
 simp only[wtS];omega
theorem sumT (f:Exp→Nat) (l:List Exp) (i:Nat) (h:i<l.length):((l.take (i+1)).map f).sum = ((l.take i).map f).sum + f l[i]:=psum_succ f l i h
theorem sumT_le (f:Exp→Nat) (l:List Exp) (i:Nat):((l.take i).map f).sum ≤ (l.map f).sum := psum_le f l i
def mxL:List Nat→Nat
 | []=>0
 | a::l=>max a (mxL l)
theorem mxL_app (l m:List Nat):mxL (l++m)=max (mxL l) (mxL m):=by
 induction l with
 | nil=>simp[mxL]
 | cons a l ih=>simp only[List.cons_append,mxL,ih];omega
theorem mxL_le (l:List Nat):mxL l≤l.sum:=by
 induction l with
 | nil=>simp[mxL]
 | cons a l ih=>simp only[mxL,List.sum_cons];omega
mutual
def dpE:Exp→Nat
 | .mk _ _ _ _ _ _ a=>1+dpEL a
def dpEL:List Exp→Nat
 | []=>0
 | e::l=>max (dpE e) (dpEL l)
end
theorem dpEL_eq (l:List Exp):dpEL l=mxL (l.map dpE):=by
 induction l with
 | nil=>rfl
 | cons e l ih=>simp[dpEL,mxL,ih]
theorem dpE_eq (e:Exp):dpE e=1+mxL (e.args.map dpE):=by
 cases e;simp only[dpE,dpEL_eq];rfl
theorem sumL_le {l:List Exp} {f g:Exp→Nat} (h:∀a∈l,f a≤g a):(l.map f).sum ≤ (l.map g).sum := by
 induction l with
 | nil=>simp
 | cons a l ih=>
  have h1:=h a (by simp)
  have h2:=ih fun b hb=>h b (by simp[hb])
  simp only[List.map_cons,List.sum_cons];omega
theorem dpE_le:∀e,dpE e≤Zo e:=by
 refine Exp.indA fun e ih=> ?_
 rw[Y4,dpE_eq]
 have h1:=mxL_le (e.args.map dpE)
 have h2:=sumL_le ih
 omega
theorem mxT (f:Exp→Nat) (l:List Exp) (i:Nat) (h:i<l.length):mxL ((l.take (i+1)).map f)=max (mxL ((l.take i).map f)) (f l[i]):=by
 rw[List.take_succ_eq_append_getElem h,List.map_append,mxL_app];simp[mxL]
theorem mxT_le (f:Exp→Nat) (l:List Exp) (i:Nat):mxL ((l.take i).map f)≤(l.map f).sum :=
 Nat.le_trans (mxL_le _) (sumT_le f l i)
end Go.Gh
namespace Go.Gh
mutual
def allE (p:Exp→Bool):Exp→Bool
 | .mk k n q t s m a=>p (.mk k n q t s m a)&&allEL p a
def allEL (p:Exp→Bool):List Exp→Bool
 | []=>true
 | e::l=>allE p e&&allEL p l
end
theorem allEL_eq (p:Exp→Bool) (l:List Exp):allEL p l=l.all (allE p):=by
 induction l with
 | nil=>rfl
 | cons e l ih=>simp[allEL,ih]
theorem allE_eq (p:Exp→Bool) (e:Exp):allE p e=(p e&&e.args.all (allE p)):=by
 cases e;simp only[allE,allEL_eq];rfl
theorem any_ix {α:Type} (p:α→Bool) (l:List α):decide (0≤ixOf p l)=l.any p:=by
 unfold ixOf
 cases h:l.findIdx? p with
 | none=>
  have:=List.findIdx?_eq_none_iff.1 h
  simp;exact this
 | some i=>
  obtain ⟨h1,h2,_⟩:=List.findIdx?_eq_some_iff_getElem.1 h
  simp
  exact ⟨l[i],List.getElem_mem h1,h2⟩
theorem any_not {α:Type} (p:α→Bool) (l:List α):(!l.any fun a=> !p a)=l.all p:=by
 induction l with
 | nil=>rfl
 | cons a l ih=>simp only[List.any_cons,List.all_cons,Bool.not_or,Bool.not_not,ih]
theorem all_take {p:Exp→Bool} {l:List Exp} {i:Nat} (h:i<l.length) (hp:p l[i]=true) (hn:∀a∈l.take i,p a=true):∀a∈l.take (i+1),p a=true:=by
 intro a ha
 rw[List.take_add_one,List.getElem?_eq_getElem h,Option.toList_some,List.mem_append] at ha
 rcases ha with ha|ha
 ·exact hn a ha
 ·simp only[List.mem_singleton] at ha;rw[ha];exact hp
end Go.Gh
namespace Go.Gh
def Ze (c:UInt8):Bool:=decide (97≤(c.toNat:Int))&&decide ((c.toNat:Int)≤122)
def ZI (c:UInt8):Bool:=decide (48≤(c.toNat:Int))&&decide ((c.toNat:Int)≤57)
def kwS:List ByteArray:=[⟨#[105,102]⟩,⟨#[116,104,101,110]⟩,⟨#[101,108,115,101]⟩,⟨#[116,114,117,101]⟩,⟨#[102,97,108,115,101]⟩,⟨#[108,105,116]⟩,⟨#[110,111,110,101]⟩,
 ⟨#[115,101,108,102]⟩,⟨#[111,102]⟩,⟨#[109,97,120]⟩,⟨#[109,105,110]⟩,⟨#[119,105,116,104]⟩,⟨#[104,97,115]⟩]
def hasS (l:List ByteArray) (s:ByteArray):Bool:=l.any fun x=>decide (x=s)
theorem hasS_hit {l:List ByteArray} {s:ByteArray} {i:Nat} (h:i<l.length) (e:l[i]=s):hasS l s=true:=by
 simp only[hasS,List.any_eq_true];exact ⟨l[i],List.getElem_mem h,by simp[e]⟩
theorem hasS_none {l:List ByteArray} {s:ByteArray} (h:∀x∈l,decide (x=s)=false):hasS l s=false:=by
 simp only[hasS,List.any_eq_false];intro x hx;simpa using h x hx
def resV (s:ByteArray):Bool:=hasS kwS s
def shp:List UInt8→Bool
 | []=>false
 | c::l=>Ze c&&l.all fun c=>Ze c||ZI c
theorem shp_iff (l:List UInt8):shp l=true↔0<l.length∧∀(j:Nat) (h:j<l.length),Ze l[j]=true∨(j≠0∧ZI l[j]=true):=by
 cases l with
 | nil=>simp[shp]
 | cons c l=>
  simp only[shp,Bool.and_eq_true,List.all_eq_true,Bool.or_eq_true,List.length_cons]
  constructor
  ·rintro ⟨h1,h2⟩
   refine ⟨by omega,fun j hj=> ?_⟩
   cases j with
   | zero=>exact .inl h1
   | succ j=>
    have:=h2 l[j] (List.getElem_mem _)
    simp only[List.getElem_cons_succ]
    rcases this with h|h
    ·exact .inl h
    ·exact .inr ⟨by omega,h⟩
  ·rintro ⟨_,h⟩
   constructor
   ·have:=h 0 (by omega)
    simpa using this
   ·intro x hx
    obtain ⟨j,hj,rfl⟩:=List.mem_iff_getElem.1 hx
    have:=h (j+1) (by omega)
    simp only[List.getElem_cons_succ] at this
    rcases this with h|h
    ·exact .inl h
    ·exact .inr h.2
def YV (s:ByteArray):Bool:=shp (Z8 s)&&decide ((Z8 s).length ≤ 8) && !resV s
end Go.Gh
namespace Go.Gh
theorem shp_bad {l:List UInt8} {i:Nat} (h:i<l.length) (h1:¬(Ze l[i]=true∨(i≠0∧ZI l[i]=true))):shp l=false:=by
 cases hs:shp l with
 | false=>rfl
 | true=>exact absurd (((shp_iff l).1 hs).2 i h) h1
theorem shp_step {l:List UInt8} {i:Nat} (h:i<l.length) (hn:∀(j:Nat) (h:j<l.length),j<i→Ze l[j]=true∨(j≠0∧ZI l[j]=true)) (hg:Ze l[i]=true∨(i≠0∧ZI l[i]=true)) :
 ∀(j:Nat) (h:j<l.length),j<i+1→Ze l[j]=true∨(j≠0∧ZI l[j]=true):=by
 intro j hj hji
 by_cases e:j=i
 ·subst e;exact hg
 ·exact hn j hj (by omega)
theorem shp_end {l:List UInt8} (hn:∀(j:Nat) (h:j<l.length),j<l.length→Ze l[j]=true∨(j≠0∧ZI l[j]=true)):shp l=decide (0<l.length):=by
 by_cases h:0<l.length
 ·rw[decide_eq_true h];exact (shp_iff l).2 ⟨h,fun j hj=>hn j hj hj⟩
 ·rw[decide_eq_false h]
  cases l with
  | nil=>rfl
  | cons a l=>simp at h
end Go.Gh
namespace Go.Gh
def arity (k:Int):Nat:=if k=4 then 2 else if k=5 then 3 else if k=8 then 1 else 0
def noS:ByteArray:=⟨#[]⟩
def bareV (e:Exp):Bool:=
 decide (e.args.length=arity e.kind)&&(decide (e.kind=3∨e.kind=6)||decide (e.pos=0))&&(decide (e.kind=3∨e.kind=8)||decide (e.name=noS))&&(decide (e.kind=1∨e.kind=4)||decide (e.n=0)) &&
 (decide (e.kind=1)||decide (e.type=0))&&(decide (e.kind=8)||decide (e.sym=noS))
end Go.Gh
namespace Go.Gh
theorem nraw_Ex (e:Exp):nraw (Ex e)=true:=by rw[ZC];rfl
theorem clean_Ex (e:Exp):clean (Ex e)=true:=by rw[ZC];rfl
theorem sub_Ex0 (e:Exp):sub (Ex e) 0 1 false=some (I e.kind):=by rw[ZC];rfl
theorem sub_Ex1 (e:Exp):sub (Ex e) 1 1 false=some (I e.n):=by rw[ZC];rfl
theorem sub_Ex2 (e:Exp):sub (Ex e) 2 1 false=some (I e.pos):=by rw[ZC];rfl
theorem sub_Ex3 (e:Exp):sub (Ex e) 3 1 false=some (I e.type):=by rw[ZC];rfl
theorem sub_Ex4 (e:Exp):sub (Ex e) 4 1 false=some (T e.sym):=by rw[ZC];rfl
theorem sub_Ex5 (e:Exp):sub (Ex e) 5 1 false=some (T e.name):=by rw[ZC];rfl
theorem sub_Ex6 (e:Exp):sub (Ex e) 6 1 false=some (ExS e.args):=by rw[ZC];rfl
theorem fold_Ex (e:Exp):GV.agg [I e.kind,I e.n,I e.pos,I e.type,T e.sym,T e.name,.sl 7 (e.args.map Ex)]=Ex e:=(ZC e).symm
abbrev ExC (e:Exp):List GV:=[I e.kind,I e.n,I e.pos,I e.type,T e.sym,T e.name,ExS e.args]
theorem upd_Ex (gs:List GV) (o:Nat) (e:Exp):upd (.agg gs) o (Ex e)=if o+7≤gs.length then some (.agg (gs.take o++(ExC e++gs.drop (o+7)))) else none:=by rw[ZC];rfl
theorem upd_ExO (e:Exp) (o r sz k n:Nat):upd (Ex e) o (.own r sz k n)=if o<7 then some (.agg ((ExC e).set o (.own r sz k n))) else none:=by rw[ZC];rfl
theorem XE:type_of% (And.intro @YB (And.intro @XY (And.intro @YC (And.intro @Yj (And.intro @nraw_Ex (And.intro @clean_Ex (And.intro @sub_Ex0 (And.intro @sub_Ex1 (And.intro @sub_Ex2 (And.intro @sub_Ex3 (And.intro @sub_Ex4 (And.intro @sub_Ex5 (And.intro @sub_Ex6 (And.intro @fold_Ex (And.intro @upd_ExO @upd_Ex))))))))))))))):=
 And.intro @YB (And.intro @XY (And.intro @YC (And.intro @Yj (And.intro @nraw_Ex (And.intro @clean_Ex (And.intro @sub_Ex0 (And.intro @sub_Ex1 (And.intro @sub_Ex2 (And.intro @sub_Ex3 (And.intro @sub_Ex4 (And.intro @sub_Ex5 (And.intro @sub_Ex6 (And.intro @fold_Ex (And.intro @upd_ExO @upd_Ex))))))))))))))
@[ext] structure Att where
 name:ByteArray
 type:Int
 mode:Int
 circ:Bool
deriving DecidableEq
@[ext] structure Sym where
 name:ByteArray
 atts:List Att
deriving DecidableEq
@[ext] structure Eqn where
 pos:Int
 name:ByteArray
 expr:Exp
deriving DecidableEq
@[ext] structure Con where
 sym:ByteArray
 name:ByteArray
 goal:Exp
 value:Exp
deriving DecidableEq
@[ext] structure Rul where
 name:ByteArray
 left:ByteArray
 right:List ByteArray
 lit:Bool
 eqs:List Eqn
 cons:List Con
deriving DecidableEq
@[ext] structure Gram where
 syms:List Sym
 rules:List Rul
deriving DecidableEq
theorem wtS_mem {α:Type} {wt:α→Nat} {l:List α} {n:Nat} (h:wtS wt l≤n):l.length≤n∧∀a∈l,wt a≤n:=by
 simp only[wtS] at h
 exact ⟨by omega,fun a ha=>by have:=sum_mem wt l a ha;omega⟩
theorem Zg {α:Type} {l:List α} {i:Nat} {d:α} (h:i<l.length):l.getD i d=l[i]:=by
 rw[List.getD_eq_getElem?_getD,List.getElem?_eq_getElem h];rfl
end Go.Gh
namespace Go.Gh
end Go.Gh
namespace Go.Gh
theorem t_T {g:GV} (h:ET false [.str] g):∃s:ByteArray,g=T s∧s.size≤maxLen:=by
 obtain ⟨s,rfl,hs⟩:=t_one h
 exact ⟨s,rfl,hs⟩
end Go.Gh
namespace Go.Gh
end Go.Gh
namespace Go.Gh
end Go.Gh
namespace Go.Gh
theorem Bor.of_eq {H:GH} {g g':GV} (h:g=g'):Bor H g g':=h▸Bor.refl
end Go.Gh
namespace Go.Gh
def YG (e:Exp):Bool:=
 decide (1≤e.kind∧e.kind≤8)&&bareV e &&
 (if e.kind=1 then decide (1≤e.type∧e.type≤3)&&okV e.n e.type&&decide (0≤e.n) else
  if e.kind=3 then decide (0≤e.pos∧e.pos≤3)&&YV e.name else
  if e.kind=6 then decide (0≤e.pos∧e.pos≤3) else
  if e.kind=4 then decide (1≤e.n∧e.n≤12) else
  if e.kind=8 then YV e.sym&&YV e.name else true)
def YZ (e:Exp):Bool:=decide (Zo e≤24)&&decide (dpE e≤6)&&allE YG e
theorem allE_args {p:Exp→Bool} {e:Exp} (h:allE p e=true):p e=true∧∀a∈e.args,allE p a=true:=by
 rw[allE_eq,Bool.and_eq_true,List.all_eq_true] at h
 exact h
theorem shp_iff' (l:List UInt8):shp l=true↔0<l.length∧(∀h:0<l.length,Ze l[0]=true)∧∀(j:Nat) (h:j<l.length),Ze l[j]=true∨ZI l[j]=true:=by
 rw[shp_iff]
 constructor
 ·rintro ⟨h1,h2⟩
  refine ⟨h1,fun h=> ?_,fun j hj=> ?_⟩
  ·rcases h2 0 h with h3|h3
   ·exact h3
   ·exact absurd rfl h3.1
  ·rcases h2 j hj with h3|h3
   ·exact .inl h3
   ·exact .inr h3.2
 ·rintro ⟨h1,h2,h3⟩
  refine ⟨h1,fun j hj=> ?_⟩
  by_cases h0:j=0
  ·subst h0;exact .inl (h2 hj)
  ·rcases h3 j hj with h4|h4
   ·exact .inl h4
   ·exact .inr ⟨h0,h4⟩
theorem shp_no {l:List UInt8} {i:Nat} (h:i<l.length) (h1:Ze l[i]=false) (h2:ZI l[i]=false):shp l=false:=by
 cases hs:shp l with
 | false=>rfl
 | true=>
  rcases ((shp_iff' l).1 hs).2.2 i h with h3|h3
  ·rw[h1] at h3;cases h3
  ·rw[h2] at h3;cases h3
theorem shp_no0 {l:List UInt8} (h:0<l.length) (h1:Ze l[0]=false):shp l=false:=by
 cases hs:shp l with
 | false=>rfl
 | true=>
  have:=((shp_iff' l).1 hs).2.1 h
  rw[h1] at this;cases this
theorem shp_yes {l:List UInt8} (h:0<l.length) (h1:Ze l[0]=true) (hn:∀(j:Nat) (h:j<l.length),Ze l[j]=true∨ZI l[j]=true):shp l=true:=(shp_iff' l).2 ⟨h,fun _ => h1,hn⟩
end Go.Gh
namespace Go.Gh
theorem Bor.clo {H:GH} {f:Nat} {gs gs':List GV} (h:BorL H gs gs'):Bor H (.clo f gs) (.clo f gs'):=fun w D Ω v hst hm=>by
 simp only[MV] at hm ⊢
 obtain ⟨h0,vs,h1,h2⟩:=hm
 exact ⟨h0,vs,h1,h w D Ω vs hst h2⟩
theorem Bor.rop {H:GH} {sz:Nat} {g g':GV} (h:Bor H g g'):Bor H (.rop sz g) (.rop sz g'):=fun w D Ω v hst hm=>by
 simp only[MV] at hm ⊢
 obtain ⟨h0,b,off,u,h1,h2,h3,h4,h5,h6⟩:=hm
 exact ⟨h0,b,off,u,h1,.inl h2,h3,h4,h5,h w D Ω u hst h6⟩
theorem XP (s:ByteArray):YV s=(shp (Z8 s)&&decide ((Z8 s).length ≤ 8) && !resV s):=rfl
theorem okV_rng {n t:Int} (h:okV n t=true):1≤t∧t≤4:=by
 simp only[okV,Bool.and_eq_true,decide_eq_true_eq] at h;exact h.1
theorem allE_no {p:Exp→Bool} {e:Exp} {i:Nat} (h:i<e.args.length) (hb:allE p e.args[i]=false):allE p e=false:=by
 rw[allE_eq]
 have:e.args.all (allE p)=false:=by
  rw[List.all_eq_false]
  exact ⟨e.args[i],List.getElem_mem h,by simp[hb]⟩
 rw[this,Bool.and_false]
theorem allE_yes {p:Exp→Bool} {e:Exp} (h:∀a∈e.args,allE p a=true):allE p e=p e:=by
 rw[allE_eq,List.all_eq_true.2 h,Bool.and_true]
end Go.Gh
namespace Go.Gh
theorem noS_eq:(ByteArray.mk #[])=noS:=rfl
end Go.Gh
namespace Go.Gh
mutual
def ExO:Exp→GV
 | .mk k n p t s m a=> .agg [I k,I n,I p,I t,T s,T m,.osl 7 (ExOL a)]
def ExOL:List Exp→List GV
 | []=>[]
 | e::l=>ExO e::ExOL l
end
theorem ExOL_eq (l:List Exp):ExOL l=l.map ExO:=by
 induction l with
 | nil=>rfl
 | cons e l ih=>simp[ExOL,ih]
theorem ExO_eq (e:Exp):ExO e = .agg [I e.kind,I e.n,I e.pos,I e.type,T e.sym,T e.name,.osl 7 (e.args.map ExO)]:=by
 cases e;simp only[ExO,ExOL_eq];rfl
theorem view_ExO:∀e:Exp,view (ExO e)=Ex e:=by
 refine Exp.indA fun e ih=> ?_
 rw[ExO_eq,ZC]
 have:(e.args.map ExO).map view=e.args.map Ex:=by
  rw[List.map_map];exact List.map_congr_left fun a ha=>ih a ha
 simp[view,YJ,X2,this]
theorem Bor.seen {α:Type} {f g:α→GV} {H:GH} {r sz n:Nat} {l:List α} (hv:∀a,view (f a)=g a) (hr:Z3 H r=some (sz,l.map f)) (hl:l.length=n):Bor H (.own r sz 0 n) (.sl sz (l.map g)):=by
 have:=Bor.own (k:=0) (n:=n) hr (by simp[hl])
 rw[List.drop_zero,List.take_of_length_le (by simp[hl]),X2,List.map_map] at this
 have e:l.map (view ∘ f)=l.map g:=List.map_congr_left fun a _ => hv a
 rwa [e] at this
section
variable {P:Program} {α:Type} {f:α→GV} {k kx sz:Nat} {ag:Bool}
end
theorem FR.perm {g:GV} {H L T:GH} (hs:subH H L):FR g (H++T) g (L++T):=by
 intro w D Ω v hv hst
 obtain ⟨Ω',h1,h2⟩:=St.sub hst hs
 exact ⟨D,Ω',hv,h1,⟨fun _ h=>h,fun _ _ h=> .inl h,fun b hb _ => h2 b hb,Kept.refl _ _,rfl,rfl,rfl⟩⟩
end Go.Gh
namespace Go.Gh
end Go.Gh
namespace Go.Gh
section
variable {α:Type} (w:α→Nat) (m:α→Int→α)
end
section
variable {α:Type} {f:α→α}
end
end Go.Gh
namespace Go.Gh
theorem neN (r:Nat) (x:Nat×List GV) (H:GH):(names ((r,x)::H)).Nodup = (neA r H∧(names H).Nodup):=by
 apply propext
 constructor
 ·intro h
  have h2:=h
  simp only[names,List.map_cons,List.nodup_cons] at h2
  exact ⟨neA_of h2.1,h2.2⟩
 ·rintro ⟨h1,h2⟩
  simp only[names,List.map_cons,List.nodup_cons]
  refine ⟨?_,h2⟩
  clear h2
  induction H with
  | nil=>simp
  | cons y H ih=>
   obtain ⟨q,y⟩:=y
   simp only[neA_cons] at h1
   simp only[List.map_cons,List.mem_cons,not_or]
   exact ⟨h1.1,ih h1.2.2⟩
theorem Bor.ptr {H:GH} {r sz:Nat} {g:GV} (hr:Z3 H r=some (sz,[g])):Bor H (.ptr r sz 0 0) (.rop sz (view g)):=fun w D Ω v h hv=>by
 obtain ⟨F,hF,hFΩ⟩:=h.hm.mem hr
 simp only[MV] at hv ⊢
 obtain ⟨_,b,rfl,hb,rfl⟩:=hv
 rcases hF with ⟨b',c,T,fz,F',k1,k2,k3,k4,k5,k6,k7⟩|⟨k1,_,_⟩
 ·have:b'=b:=by omega
  subst this
  simp only[MF] at k7
  obtain ⟨u,cs',F1,F2,e1,e2,e3,rfl,e5,rfl,rfl⟩:=k7
  refine ⟨trivial,b',0,u,by simp,.inr (hFΩ _ (by simp[k6])),⟨c,T,fz,k2,fun j x hj=> ?_⟩,e3,e2,MV.view (fun _ => .inl) g u F1 (fun x hx=> .inr (hFΩ x (by simp[k6,hx]))) e5⟩
  have e1':c.toList.take (1 * sz)=u.cells.toList:=by simpa using e1
  have h2:(c.toList.take (1 * sz))[j]? = some x:=by rw[e1'];exact hj
  rw[List.getElem?_take] at h2
  split at h2
  ·simpa using h2
  ·cases h2
 ·omega
end Go.Gh
namespace Go.Gh
end Go.Gh
namespace Go.Gh
end Go.Gh
namespace Go.Gh
abbrev Oc:=Int×ByteArray
abbrev OcS (l:List Oc):GV:= .sl 2 (l.map Occ)
end Go.Gh
namespace Go.Gh
open Go.ChangeShapes Go.WideShapes Go.ChangeAt Go.RowKit
def tabH (T:GH):Prop:=(names T).Nodup ∧ ∀x∈T,x.1 % 4=3∧1000000≤x.2.1∧x.2.2=[]
def PureT (P:Program) (T:GH) (f:FuncId) (gs:List GV) (R:GV→Prop):Prop:=GCalls P f gs T (fun g _ => R g)
theorem hget_mem:∀{H:GH} {x:Nat×Nat×List GV},(names H).Nodup → x∈H→Z3 H x.1=some x.2
 | [],_,_,h=>by cases h
 | (r,y)::H,x,hn,h=>by
  simp only[names,List.map_cons,List.nodup_cons] at hn
  simp only[Z3]
  rcases List.mem_cons.1 h with rfl|h
  ·simp
  ·have:r≠x.1:=fun e=>hn.1 (by rw[e];exact List.mem_map_of_mem h)
   rw[if_neg this]
   exact hget_mem hn.2 h
theorem HM.tabs {w:World} {D:Nat→Prop} {H:GH} {Ω:List Nat} (h:HM w D H Ω) (hn:(names H).Nodup):∀{T:GH},(∀x∈T,x.1 % 4=3∧1000000≤x.2.1∧x.2.2=[])→(∀x∈T,x∈H)→HM w D T []
 | [],_,_ => rfl
 | (r,sz,es)::T,hT,hs=>by
  obtain ⟨F,hF,_⟩:=h.mem (hget_mem hn (hs _ (List.mem_cons_self ..)))
  have ht:=hT _ (List.mem_cons_self ..)
  refine ⟨[],[],rfl,?_,HM.tabs h hn (fun x hx=>hT x (List.mem_cons_of_mem _ hx)) (fun x hx=>hs x (List.mem_cons_of_mem _ hx))⟩
  rcases hF with ⟨b,c,T,fz,F',k1,_⟩|hF
  ·have:=ht.1
   dsimp only at this k1
   omega
  ·exact .inr ⟨hF.1,ht.2.2,rfl⟩
theorem PureT.frame {P:Program} {T:GH} {f:FuncId} {gs:List GV} {R:GV→Prop} (h:PureT P T f gs R) (hT:tabH T) {H:GH} (hs:∀x∈T,x∈H):GCalls P f gs H (fun g H'=>R g∧H'=H):=by
 intro w D Ω args hst hargs
 have hs0:St w D T []:=⟨HM.tabs hst.hm hst.nn hT.2 hs,List.nodup_nil,hT.1,by simp,hst.ds⟩
 refine Yld.mono (fun v w' ⟨g,H',D',Ω',k1,k2,k3,k4⟩=> ?_) (h w D [] args hs0 hargs)
 have hk:Kept w w' (fun _ => True):=k4.kp.mono fun _ _ _ => by simp
 have hlt:∀b∈Ω,b<w.heap.size:=HM.flt hst.hm
 refine ⟨g,H,D',Ω,⟨k1,rfl⟩,k2,⟨HM.keep hk (fun _ _ => trivial) k4.d0 (fun _ _ => trivial) hst.hm,hst.nd,hst.nn,fun b hb hD=> ?_,k3.ds⟩,
  ⟨k4.d0,fun b hb hD=> .inl ((k4.dn b hb hD).resolve_right (by simp)),fun _ h _ => h,hk.mono fun _ _ _ => trivial,k4.os,k4.tape,k4.output⟩⟩
 rcases k4.dn b (hlt b hb) hD with h1|h1
 ·exact hst.dj b hb h1
 ·simp at h1
theorem PureT.bor {P:Program} {T:GH} {f:FuncId} {gs:List GV} {G:GV} (h:GCalls P f gs T (fun g H=>Bor H g G)):PureT P T f gs (· = G):=
 h.fr fun _ _ hb=>⟨G,[],FR.all hb,rfl⟩
theorem PureT.of {P:Program} {T:GH} {f:FuncId} {gs:List GV} {R:GV→Prop} (h:Pure P f gs R):PureT P T f gs R:=(h.frame T).mono fun _ _ h=>h.1
theorem callS.eqT {P:Program} {K:Env→GH→Prop} {is:List GI} {env:Env} {H T:GH} {d:Option Nat} {det:Bool} {f:FuncId} {gs:List GV} {G:GV} (h:PureT P T f gs (· = G)) (hT:tabH T) (hs:∀x∈T,x∈H) (hk:Z5 P is K (gput env d G) H):callS P det f (some gs) d is K env H:=by
 unfold callS
 cases det
 ·exact ⟨fun g H'=>g=G∧H'=H,h.frame hT hs,fun g H' ⟨e1,e2⟩ _ => by subst e1;subst e2;exact hk⟩
 ·exact ⟨G,h.frame hT hs,hk⟩
theorem PureT.out {P:Program} {T:GH} {f:FuncId} {F:GFun} {gs:List GV} {R:GV→Prop} (h:PureT P T f gs R) (hF:IsFun P f F) {W:World} {args:List Value} (hargs:ML W (below W) gs args []) (hT:HM W (below W) T []) (hn:(names T).Nodup) :
 Calls P f args.toArray W fun e W'=>∃v g D,e = .returned v∧R g∧MV W' D g v []∧Below W.heap.size W W':=by
 have:=h W (below W) [] args ⟨hT,List.nodup_nil,hn,by simp,fun _ h=>h⟩ hargs
 rw[callFunc_run hF] at this
 refine Calls.mono this fun e W' ⟨v,h1,g,H',D',Ω',k1,k2,k3,k4⟩=>⟨v,g,D',h1,k1,k2,?_⟩
 exact ⟨k4.os,k4.tape,k4.output,k4.kp.size,fun k hk=>k4.kp.block k hk (by simp)⟩
def tab10 (n:Nat):GH:=[(4 * n+3,1000000,[])]
theorem Zf (n:Nat):tabH (tab10 n):=⟨by simp[tab10,names],fun x hx=>by
 simp only[tab10,List.mem_singleton] at hx
 subst hx
 exact ⟨by dsimp only;omega,by dsimp only;omega,rfl⟩⟩
open Lib in
theorem HM.tab10 {P:Program} {W:World} {n:Nat} {s:String} (hg:P.globalNamed s=some n) (h:TabIs P W s .u64 pow10Tab):HM W (below W) (tab10 n) []:=by
 simp only[TabIs,World.var?,hg,Option.bind_some] at h
 refine ⟨[],[],rfl,.inr ⟨⟨by omega,fun _ _ => ?_⟩,rfl,rfl⟩,rfl⟩
 have e:(4 * n+3) / 4=n:=by omega
 unfold TB
 rw[e]
 split at h
 case h_2=>cases h
 rename_i c T fz hb
 simp only[Option.some.injEq] at h
 refine ⟨lt_of_heap hb,c,T,fz,hb,?_⟩
 rw[h]
 simp only[tabP,if_true,pow10Tab,List.map_map]
 rfl
open Lib in
theorem HM.is10 {P:Program} {w:World} {D:Nat→Prop} {n:Nat} {s:String} {H:GH} {Ω:List Nat} (hg:P.globalNamed s=some n) (h:HM w D H Ω) (hn:(names H).Nodup) (hm:(4 * n+3,1000000,[])∈H):TabIs P w s .u64 pow10Tab:=by
 obtain ⟨F,hF,_⟩:=h.mem (hget_mem hn hm)
 have e:(4 * n+3) / 4=n:=by omega
 rcases hF with ⟨b,c,T,fz,F',k1,_⟩|hF
 ·dsimp only at k1;omega
 ·obtain ⟨_,c,T,fz,h1,h2⟩:=hF.1.2 (by dsimp only;omega) (Nat.le_refl _)
  dsimp only at h1
  rw[e] at h1
  simp only[TabIs,World.var?,hg,Option.bind_some,h1]
  simp only[tabP,if_true] at h2
  rw[h2]
  simp only[pow10Tab,List.map_map]
  rfl
open Lib Go.Sort in
theorem itoa_ok {P:Program} {f g:Nat} {s:String} (hg:P.globalNamed s=some g) {args:Int→Array Value} {n:Int} {gs:List GV} (hgs:∀w D vs,ML w D gs vs []→vs.toArray=args n)
 (hc:∀w:World,TabIs P w s .u64 pow10Tab→Calls P f (args n) w fun e w'=>e = .returned (.string ⟨(itoa n).toArray⟩)∧∃k os,w'=grow (w.drewN k) os)
 (eg:∀args w,(callFunc f args).run P w = .ok (.enter f args) w):PureT P (tab10 g) f gs (· = .val (mkS (itoa n))):=by
 intro w D Ω vs hst hargs
 rw[eg,hgs _ _ _ hargs]
 show Calls P f _ w _
 refine (hc w (HM.is10 hg hst.hm hst.nn (by simp[tab10]))).mono ?_
 rintro e w' ⟨rfl,k,os,rfl⟩
 have hk:Kept w (grow (w.drewN k) os) (fun _ => True):=by
  refine ⟨fun b hb _ => ?_,?_,fun b c T fz hx=>⟨c,fz,?_,rfl⟩⟩
  ·show (w.heap++os)[b]? = _
   rw[Array.getElem?_append_left hb]
  ·show _ ≤ (w.heap++os).size
   rw[Array.size_append];omega
  ·show (w.heap++os)[b]? = _
   rw[Array.getElem?_append_left (lt_of_heap hx)];exact hx
 refine ⟨_,rfl,_,tab10 g,D,Ω,rfl,MV.val_mk _,⟨HM.keep hk (fun _ _ => trivial) (fun _ h=>h) (fun _ _ => trivial) hst.hm,hst.nd,hst.nn,hst.dj,fun b hb=>Nat.lt_of_lt_of_le (hst.ds b hb) hk.size⟩,
  ⟨fun _ h=>h,fun _ _ h=> .inl h,fun _ h _ => h,hk.mono fun _ _ _ => trivial,rfl,rfl,rfl⟩⟩
end Go.Gh
namespace Go.Gh
open Lib
def dgs (u:Nat):List UInt8:=if u=0 then [] else decDigits u
theorem dgs_step {u:Nat} (h:u≠0) (out:List UInt8):dgs u++out=dgs (u / 10)++(UInt8.ofNat (48+u % 10)::out):=by
 unfold dgs
 rw[if_neg h]
 by_cases h1:u<10
 ·rw[decDigits_one h1,if_pos (by omega),Nat.mod_eq_of_lt h1]
  rfl
 ·rw[decDigits,dif_neg h1,if_neg (by omega)]
  simp
theorem itoa_dgs {n:Int} (h:n≠0):itoa n=if n<0 then 45::dgs n.natAbs else dgs n.natAbs:=by
 unfold itoa dgs
 have e:n.natAbs≠0:=by omega
 rw[if_neg e]
 by_cases h1:n<0
 ·rw[if_pos h1,if_pos h1]
 ·rw[if_neg h1,if_neg h1]
  congr 1
  omega
theorem itoa_0:itoa 0=[48]:=by
 unfold itoa
 rw[if_neg (by omega)]
 exact decDigits_one (by decide)
theorem nDigits_le:∀(k u:Nat),u<10 ^ (k+1)→nDigits u≤k+1
 | 0,u,h=>by rw[nDigits_small (by simpa using h)];omega
 | k+1,u,h=>by
  rw[nDigits]
  split
  ·omega
  ·have:=nDigits_le k (u / 10) (by rw[Nat.pow_succ] at h;omega)
   omega
theorem dgs_len {u:Nat} (h:u≤9223372036854775808):(dgs u).length ≤ 19:=by
 unfold dgs
 split
 ·simp
 ·rw[decDigits_length]
  exact nDigits_le 18 u (by omega)
theorem tmod10 (n:Int):(if n.tmod 10<0 then 0-n.tmod 10 else n.tmod 10)=((n.natAbs % 10:Nat):Int):=by
 have h:(n.tmod 10).natAbs = n.natAbs % 10:=by rw[Int.natAbs_tmod];rfl
 split<;>omega
theorem tdiv10 (n:Int):(n.tdiv 10).natAbs = n.natAbs / 10:=by rw[Int.natAbs_tdiv];rfl
theorem digB:∀d,d<10→UInt8.ofNat (IntKind.u8.wrap (48+((d:Nat):Int))).toNat = UInt8.ofNat (48+d):=by decide
theorem mod_lt10 (u:Nat):u % 10<10:=Nat.mod_lt _ (by decide)
end Go.Gh
namespace Go.Gh
@[ext] structure Tok where
 kind:Int
 num:Int
 at':Int
 text:ByteArray
deriving DecidableEq
abbrev Tk (x:Tok):GV:= .agg [I x.kind,I x.num,I x.at',T x.text]
abbrev TkS (l:List Tok):GV:= .sl 4 (l.map Tk)
def Y9:Tok:=⟨0,0,0,noS⟩
def isW (t:Tok) (w:ByteArray):Bool:=(decide (t.kind=1)||decide (t.kind=3))&&decide (t.text=w)
inductive PR (α:Type) where
 | bad (i:Nat):PR α
 | ok (a:α) (i:Nat):PR α
def PR.bind {α β:Type}:PR α→(α→Nat→PR β)→PR β
 | .bad i,_ => .bad i
 | .ok a i,f=>f a i
abbrev bs (l:List UInt8):ByteArray:=⟨l.toArray⟩
def wIf:ByteArray:=⟨#[105,102]⟩
def wThen:ByteArray:=⟨#[116,104,101,110]⟩
def wElse:ByteArray:=⟨#[101,108,115,101]⟩
def wTrue:ByteArray:=⟨#[116,114,117,101]⟩
def Yl:ByteArray:=⟨#[102,97,108,115,101]⟩
def wLit:ByteArray:=⟨#[108,105,116]⟩
def wNone:ByteArray:=⟨#[110,111,110,101]⟩
def wSelf:ByteArray:=⟨#[115,101,108,102]⟩
def wOf:ByteArray:=⟨#[111,102]⟩
def wMax:ByteArray:=⟨#[109,97,120]⟩
def wMin:ByteArray:=⟨#[109,105,110]⟩
def wHas:ByteArray:=⟨#[104,97,115]⟩
def wWith:ByteArray:=⟨#[119,105,116,104]⟩
def wLP:ByteArray:=⟨#[40]⟩
def wRP:ByteArray:=⟨#[41]⟩
def wLB:ByteArray:=⟨#[123]⟩
def wRB:ByteArray:=⟨#[125]⟩
def Yy:ByteArray:=⟨#[44]⟩
def Zb:ByteArray:=⟨#[46]⟩
def wDol:ByteArray:=⟨#[36]⟩
def sees (ts:List Tok) (i:Nat) (w:ByteArray):Bool:=decide (i<ts.length)&&isW (ts.getD i Y9) w
def ZW (ts:List Tok) (i:Nat) (w:ByteArray):PR Unit:=if sees ts i w=true then .ok () (i+1) else .bad i
def Zs (ts:List Tok) (i:Nat) (lo hi:Int):PR Int:=
 if i<ts.length∧(ts.getD i Y9).kind = 2∧lo≤(ts.getD i Y9).num ∧ (ts.getD i Y9).num ≤ hi then .ok (ts.getD i Y9).num (i+1) else .bad i
def ZP (ts:List Tok) (i:Nat):PR ByteArray:=
 if i<ts.length∧(ts.getD i Y9).kind = 1∧YV (ts.getD i Y9).text = true then .ok (ts.getD i Y9).text (i+1) else .bad i
def YE (n k:Int):Exp:= .mk 1 n 0 k noS noS []
def opE (op:Int) (a b:Exp):Exp:= .mk 4 op 0 0 noS noS [a,b]
def Y0 (ts:List Tok):Nat→Nat→Int→Int→PR Int
 | 0,i,_,_ => .bad i
 | f+1,i,least,set=>if sees ts i wRB=true then .ok set (i+1) else (Zs ts i least 11).bind fun n j=>Y0 ts f j (n+1) (orI .i64 set (shlI .i64 1 n))
def YI (s:ByteArray):Int:=if s=wMax then 4 else if s=wMin then 5 else if s=wHas then 11 else if s=wWith then 12 else 0
def opAt (ts:List Tok) (i lv:Nat):Int:=
 if lv=1 then (if sees ts i ⟨#[60]⟩=true then 9 else if sees ts i ⟨#[61,61]⟩=true then 10 else 0) else
 if lv=2 then (if sees ts i ⟨#[43]⟩=true then 1 else if sees ts i ⟨#[45]⟩=true then 2 else if sees ts i ⟨#[124]⟩=true then 6 else if sees ts i ⟨#[92]⟩=true then 8 else 0) else
 if lv=3 then (if sees ts i ⟨#[42]⟩=true then 3 else if sees ts i ⟨#[38]⟩=true then 7 else 0) else 0
def Zc (ts:List Tok) (E A:Nat→PR Exp) (i:Nat):PR Exp:=
 let t:=ts.getD i Y9
 if ¬i<ts.length then .bad i else
 if t.kind=2 then .ok (YE t.num 1) (i+1) else
 if isW t wLB=true then (Y0 ts (ts.length+1) (i+1) 0 0).bind fun s j=> .ok (YE s 2) j else
 if isW t wTrue=true then .ok (YE 1 3) (i+1) else
 if isW t Yl=true then .ok (YE 0 3) (i+1) else
 if isW t wLit=true then .ok (.mk 2 0 0 0 noS noS []) (i+1) else
 if isW t wNone=true then .ok (.mk 7 0 0 0 noS noS []) (i+1) else
 if isW t wDol=true then (Zs ts (i+1) 0 3).bind fun p j=>(ZW ts j Zb).bind fun _ j=>(ZP ts j).bind fun n j=> .ok (.mk 3 0 p 0 noS n []) j else
 if isW t wSelf=true then (ZW ts (i+1) wLP).bind fun _ j=>(Zs ts j 0 3).bind fun p j=>(ZW ts j wRP).bind fun _ j=> .ok (.mk 6 0 p 0 noS noS []) j else
 if isW t wLP=true then (E (i+1)).bind fun e j=>(ZW ts j wRP).bind fun _ j=> .ok e j else
 if t.kind=1∧YI t.text≠0 then (ZW ts (i+1) wLP).bind fun _ j=>(E j).bind fun a j=>(ZW ts j Yy).bind fun _ j=>(E j).bind fun b j=>(ZW ts j wRP).bind fun _ j=> .ok (opE (YI t.text) a b) j else
 (ZP ts i).bind fun s j=>(ZW ts j Zb).bind fun _ j=>(ZP ts j).bind fun n j=>(ZW ts j wOf).bind fun _ j=>(A j).bind fun e j=> .ok (.mk 8 0 0 0 s n [e]) j
def Y5 (ts:List Tok) (X:Nat→PR Exp) (lv:Nat):Nat→Exp→Nat→PR Exp
 | 0,_,i=> .bad i
 | f+1,e,i=>if opAt ts i lv=0 then .ok e i else (X (i+1)).bind fun b j=>if lv=1 then .ok (opE (opAt ts i lv) e b) j else Y5 ts X lv f (opE (opAt ts i lv) e b) j
def lvP (ts:List Tok) (X:Nat→PR Exp) (lv i:Nat):PR Exp:=(X i).bind fun e j=>Y5 ts X lv (ts.length+1) e j
def YH (ts:List Tok) (E A:Nat→PR Exp) (i:Nat):PR Exp:=
 if sees ts i wIf=true then (E (i+1)).bind fun a j=>(ZW ts j wThen).bind fun _ j=>(E j).bind fun b j=>(ZW ts j wElse).bind fun _ j=>(E j).bind fun c j=> .ok (.mk 5 0 0 0 noS noS [a,b,c]) j
 else lvP ts (lvP ts (lvP ts A 3) 2) 1 i
mutual
def pE (ts:List Tok):Nat→Nat→PR Exp
 | 0,i=> .bad i
 | f+1,i=>YH ts (pE ts f) (pA ts f) i
def pA (ts:List Tok):Nat→Nat→PR Exp
 | 0,i=> .bad i
 | f+1,i=>Zc ts (pE ts f) (pA ts f) i
end
def parT (ts:List Tok) (len:Int):Exp×Int:=
 let off (i:Nat):Int:=if i<ts.length then (ts.getD i Y9).at' else len
 match pE ts (2 * ts.length+4) 0 with
 | .bad i=>(.mk 0 0 0 0 noS noS [],off i)
 | .ok e i=>if i<ts.length then (.mk 0 0 0 0 noS noS [],off i) else if YZ e=true then (e, -1) else (.mk 0 0 0 0 noS noS [],0)
end Go.Gh
namespace Go.Gh
def ExtP {α:Type} (P P':PR α):Prop:=∀a i,P = .ok a i→P' = .ok a i
theorem ExtP.refl {α:Type} (P:PR α):ExtP P P:=fun _ _ h=>h
theorem ExtP.bad {α:Type} (i:Nat) (P:PR α):ExtP (.bad i) P:=fun _ _ h=>by cases h
theorem ExtP.bind {α β:Type} {P P':PR α} {f f':α→Nat→PR β} (h:ExtP P P') (hf:∀a i,ExtP (f a i) (f' a i)):ExtP (P.bind f) (P'.bind f'):=by
 intro a i e
 cases P with
 | bad j=>cases e
 | ok b j=>rw[h b j rfl];exact hf b j a i e
theorem ExtP.ite {α:Type} {c:Prop} [Decidable c] {a b a' b':PR α} (h1:c→ExtP a a') (h2:¬c→ExtP b b'):ExtP (if c then a else b) (if c then a' else b'):=by
 by_cases h:c
 ·rw[if_pos h,if_pos h];exact h1 h
 ·rw[if_neg h,if_neg h];exact h2 h
theorem ExtP.trans {α:Type} {P Q R:PR α} (h:ExtP P Q) (k:ExtP Q R):ExtP P R:=fun a i e=>k a i (h a i e)
structure Tail (ts us:List Tok):Prop where
 pre:∀i,i<ts.length→i<us.length∧us.getD i Y9=ts.getD i Y9
 len:ts.length≤us.length
 out:∀i w,¬i<ts.length→w≠wRP→sees us i w=false
variable {ts us:List Tok}
theorem Tail.sees (h:Tail ts us) {i:Nat} {w:ByteArray} (hs:sees ts i w=true):sees us i w=true:=by
 simp only[Go.Gh.sees,Bool.and_eq_true,decide_eq_true_eq] at hs ⊢
 obtain ⟨h1,h2⟩:=h.pre i hs.1
 exact ⟨h1,by rw[h2];exact hs.2⟩
theorem Tail.sees_eq (h:Tail ts us) (i:Nat) {w:ByteArray} (hw:w≠wRP):Go.Gh.sees us i w=Go.Gh.sees ts i w:=by
 by_cases hi:i<ts.length
 ·obtain ⟨h1,h2⟩:=h.pre i hi
  simp only[Go.Gh.sees,h2,decide_eq_true h1,decide_eq_true hi]
 ·rw[h.out i w hi hw]
  simp only[Go.Gh.sees,decide_eq_false hi,Bool.false_and]
theorem Tail.take (h:Tail ts us) (i:Nat) (w:ByteArray):ExtP (ZW ts i w) (ZW us i w):=by
 intro a j e
 unfold ZW at *
 split at e
 ·rename_i hs;rw[if_pos (h.sees hs)];exact e
 ·cases e
theorem Tail.num (h:Tail ts us) (i:Nat) (lo hi:Int):ExtP (Zs ts i lo hi) (Zs us i lo hi):=by
 intro a j e
 unfold Zs at *
 split at e
 ·rename_i hs
  obtain ⟨h1,h2⟩:=h.pre i hs.1
  rw[h2,if_pos ⟨h1,hs.2⟩];exact e
 ·cases e
theorem Tail.name (h:Tail ts us) (i:Nat):ExtP (ZP ts i) (ZP us i):=by
 intro a j e
 unfold ZP at *
 split at e
 ·rename_i hs
  obtain ⟨h1,h2⟩:=h.pre i hs.1
  rw[h2,if_pos ⟨h1,hs.2⟩];exact e
 ·cases e
theorem Tail.set (h:Tail ts us):∀(f f':Nat) (i:Nat) (l s:Int),f≤f'→ExtP (Y0 ts f i l s) (Y0 us f' i l s)
 | 0,_,i,l,s,_ => ExtP.bad _ _
 | f+1,0,i,l,s,hf=>by omega
 | f+1,f'+1,i,l,s,hf=>by
  simp only[Y0]
  rw[h.sees_eq i (w:=wRB) (by decide)]
  split
  ·exact .refl _
  ·exact (h.num i l 11).bind fun n j=>h.set f f' _ _ _ (by omega)
theorem Tail.op (h:Tail ts us) (i lv:Nat):opAt us i lv=opAt ts i lv:=by
 unfold opAt
 simp only[h.sees_eq i (w:=⟨#[60]⟩) (by decide),h.sees_eq i (w:=⟨#[61,61]⟩) (by decide),h.sees_eq i (w:=⟨#[43]⟩) (by decide),h.sees_eq i (w:=⟨#[45]⟩) (by decide),h.sees_eq i (w:=⟨#[124]⟩) (by decide),h.sees_eq i (w:=⟨#[92]⟩) (by decide),h.sees_eq i (w:=⟨#[42]⟩) (by decide),h.sees_eq i (w:=⟨#[38]⟩) (by decide)]
theorem Tail.row (h:Tail ts us) {X X':Nat→PR Exp} (hX:∀i,ExtP (X i) (X' i)) (lv:Nat):∀(f f':Nat) (e:Exp) (i:Nat),f≤f'→ExtP (Y5 ts X lv f e i) (Y5 us X' lv f' e i)
 | 0,_,e,i,_ => ExtP.bad _ _
 | f+1,0,e,i,hf=>by omega
 | f+1,f'+1,e,i,hf=>by
  simp only[Y5]
  rw[h.op]
  split
  ·exact .refl _
  ·refine (hX _).bind fun b j=> ?_
   split
   ·exact .refl _
   ·exact h.row hX lv f f' _ _ (by omega)
theorem Tail.lv (h:Tail ts us) {X X':Nat→PR Exp} (hX:∀i,ExtP (X i) (X' i)) (lv i:Nat):ExtP (lvP ts X lv i) (lvP us X' lv i):=
 (hX i).bind fun e j=>h.row hX lv _ _ _ _ (by have:=h.len;omega)
theorem Tail.atom (h:Tail ts us) {E E' A A':Nat→PR Exp} (hE:∀i,ExtP (E i) (E' i)) (hA:∀i,ExtP (A i) (A' i)) (i:Nat):ExtP (Zc ts E A i) (Zc us E' A' i):=by
 by_cases hi:i<ts.length
 ·obtain ⟨h1,h2⟩:=h.pre i hi
  unfold Zc
  dsimp only
  rw[h2,if_neg (not_not_intro hi),if_neg (not_not_intro h1)]
  refine ExtP.ite (fun _ => ?_) (fun _ => ?_)
  ·exact .refl _
  refine ExtP.ite (fun _ => ?_) (fun _ => ?_)
  ·exact (h.set _ _ _ _ _ (by have:=h.len;omega)).bind fun _ _ => .refl _
  refine ExtP.ite (fun _ => ?_) (fun _ => ?_)
  ·exact .refl _
  refine ExtP.ite (fun _ => ?_) (fun _ => ?_)
  ·exact .refl _
  refine ExtP.ite (fun _ => ?_) (fun _ => ?_)
  ·exact .refl _
  refine ExtP.ite (fun _ => ?_) (fun _ => ?_)
  ·exact .refl _
  refine ExtP.ite (fun _ => ?_) (fun _ => ?_)
  ·exact (h.num _ _ _).bind fun _ _ => (h.take _ _).bind fun _ _ => (h.name _).bind fun _ _ => .refl _
  refine ExtP.ite (fun _ => ?_) (fun _ => ?_)
  ·exact (h.take _ _).bind fun _ _ => (h.num _ _ _).bind fun _ _ => (h.take _ _).bind fun _ _ => .refl _
  refine ExtP.ite (fun _ => ?_) (fun _ => ?_)
  ·exact (hE _).bind fun _ _ => (h.take _ _).bind fun _ _ => .refl _
  refine ExtP.ite (fun _ => ?_) (fun _ => ?_)
  ·exact (h.take _ _).bind fun _ _ => (hE _).bind fun _ _ => (h.take _ _).bind fun _ _ => (hE _).bind fun _ _ => (h.take _ _).bind fun _ _ => .refl _
  ·exact (h.name _).bind fun _ _ => (h.take _ _).bind fun _ _ => (h.name _).bind fun _ _ => (h.take _ _).bind fun _ _ => (hA _).bind fun _ _ => .refl _
 ·intro a j e
  unfold Zc at e
  dsimp only at e
  rw[if_pos hi] at e
  cases e
theorem Tail.expr (h:Tail ts us) {E E' A A':Nat→PR Exp} (hE:∀i,ExtP (E i) (E' i)) (hA:∀i,ExtP (A i) (A' i)) (i:Nat):ExtP (YH ts E A i) (YH us E' A' i):=by
 unfold YH
 rw[h.sees_eq i (w:=wIf) (by decide)]
 split
 ·exact (hE _).bind fun _ _ => (h.take _ _).bind fun _ _ => (hE _).bind fun _ _ => (h.take _ _).bind fun _ _ => (hE _).bind fun _ _ => .refl _
 ·exact h.lv (fun i=>h.lv (fun i=>h.lv hA 3 i) 2 i) 1 i
mutual
theorem Tail.pE (h:Tail ts us):∀(f f' i:Nat),f≤f'→ExtP (pE ts f i) (pE us f' i)
 | 0,_,i,_ => ExtP.bad _ _
 | f+1,0,i,hf=>by omega
 | f+1,f'+1,i,hf=>h.expr (fun i=>Tail.pE h f f' i (by omega)) (fun i=>Tail.pA h f f' i (by omega)) i
theorem Tail.pA (h:Tail ts us):∀(f f' i:Nat),f≤f'→ExtP (pA ts f i) (pA us f' i)
 | 0,_,i,_ => ExtP.bad _ _
 | f+1,0,i,hf=>by omega
 | f+1,f'+1,i,hf=>h.atom (fun i=>Tail.pE h f f' i (by omega)) (fun i=>Tail.pA h f f' i (by omega)) i
end
theorem tail_rp (ts:List Tok) (at':Int):Tail ts (ts++[⟨3,0,at',wRP⟩]) where
 pre i hi:=by
  refine ⟨by simp;omega,?_⟩
  rw[List.getD_eq_getElem?_getD,List.getElem?_append_left hi,←List.getD_eq_getElem?_getD]
 len:=by simp
 out i w hi hw:=by
  simp only[Go.Gh.sees,Bool.and_eq_false_iff,decide_eq_false_iff_not]
  by_cases h1:i<(ts++[(⟨3,0,at',wRP⟩:Tok)]).length
  ·right
   have:i=ts.length:=by simp at h1;omega
   subst this
   have e:(ts++[(⟨3,0,at',wRP⟩:Tok)]).getD ts.length Y9=⟨3,0,at',wRP⟩:=by simp[List.getD_eq_getElem?_getD]
   rw[e]
   simp only[isW,Bool.and_eq_false_iff,decide_eq_false_iff_not]
   right;exact Ne.symm hw
  ·exact .inl h1
def BdP {α:Type} (ts:List Tok) (i:Nat) (P:PR α):Prop:=i≤ts.length→∀a j,P = .ok a j→i≤j∧j≤ts.length
theorem BdP.bind {α β:Type} {i:Nat} {P:PR α} {f:α→Nat→PR β} (h:BdP ts i P) (hf:∀a j,BdP ts j (f a j)):BdP ts i (P.bind f):=by
 intro hi a j e
 cases P with
 | bad k=>cases e
 | ok b k=>
  obtain ⟨h1,h2⟩:=h hi b k rfl
  obtain ⟨h3,h4⟩:=hf b k h2 a j e
  exact ⟨by omega,h4⟩
theorem BdP.ite {α:Type} {i:Nat} {c:Prop} [Decidable c] {a b:PR α} (h1:c→BdP ts i a) (h2:¬c→BdP ts i b):BdP ts i (if c then a else b):=by
 by_cases h:c
 ·rw[if_pos h];exact h1 h
 ·rw[if_neg h];exact h2 h
theorem BdP.at {α:Type} {i j:Nat} (a:α) (h:i≤j) (hj:i≤ts.length→j≤ts.length):BdP ts i (PR.ok a j):=by
 intro hi b k e
 cases e
 exact ⟨h,hj hi⟩
theorem BdP.ok {α:Type} {i:Nat} (a:α):BdP ts i (PR.ok a i):= .at a (Nat.le_refl _) fun h=>h
theorem BdP.next {α:Type} {i:Nat} (a:α) (h:i<ts.length):BdP ts i (PR.ok a (i+1)):= .at a (by omega) fun _ => h
theorem BdP.bad {α:Type} {i k:Nat}:BdP ts i (PR.bad k:PR α):=fun _ a j e=>by cases e
theorem BdP.skip {α:Type} {i:Nat} {P:PR α} (h:i<ts.length) (hP:BdP ts (i+1) P):BdP ts i P:=fun hi a j e=>by
 obtain ⟨h1,h2⟩:=hP h a j e
 exact ⟨by omega,h2⟩
theorem sees_lt {i:Nat} {w:ByteArray} (h:sees ts i w=true):i<ts.length:=by
 simp only[sees,Bool.and_eq_true,decide_eq_true_eq] at h
 exact h.1
theorem XT (i:Nat) (w:ByteArray):BdP ts i (ZW ts i w):=by
 unfold ZW;split
 ·rename_i h;exact .next _ (sees_lt h)
 ·exact .bad
theorem bd_num (i:Nat) (lo hi:Int):BdP ts i (Zs ts i lo hi):=by
 unfold Zs;split
 ·rename_i h;exact .next _ h.1
 ·exact .bad
theorem bd_name (i:Nat):BdP ts i (ZP ts i):=by
 unfold ZP;split
 ·rename_i h;exact .next _ h.1
 ·exact .bad
theorem bd_set:∀(f i:Nat) (l s:Int),BdP ts i (Y0 ts f i l s)
 | 0,i,l,s=> .bad
 | f+1,i,l,s=>by
  simp only[Y0]
  split
  ·rename_i h;exact .next _ (sees_lt h)
  ·exact (bd_num i l 11).bind fun _ j=>bd_set f j _ _
theorem op_lt {i lv:Nat} (h:opAt ts i lv≠0):i<ts.length:=by
 rcases Nat.lt_or_ge i ts.length with h1|h1
 ·exact h1
 ·exfalso;apply h
  have:∀w,sees ts i w=false:=fun w=>by simp only[sees,decide_eq_false (show ¬i<ts.length by omega),Bool.false_and]
  unfold opAt
  simp[this]
theorem bd_row {X:Nat→PR Exp} (hX:∀i,BdP ts i (X i)) (lv:Nat):∀(f:Nat) (e:Exp) (i:Nat),BdP ts i (Y5 ts X lv f e i)
 | 0,e,i=> .bad
 | f+1,e,i=>by
  simp only[Y5]
  split
  ·exact .ok _
  ·rename_i h
   refine .skip (op_lt h) ((hX _).bind fun b j=> ?_)
   split
   ·exact .ok _
   ·exact bd_row hX lv f _ _
theorem bd_lv {X:Nat→PR Exp} (hX:∀i,BdP ts i (X i)) (lv i:Nat):BdP ts i (lvP ts X lv i):=(hX i).bind fun e j=>bd_row hX lv _ _ _
theorem bd_atom {E A:Nat→PR Exp} (hE:∀i,BdP ts i (E i)) (hA:∀i,BdP ts i (A i)) (i:Nat):BdP ts i (Zc ts E A i):=by
 unfold Zc
 dsimp only
 refine BdP.ite (fun _ => .bad) fun hi=> ?_
 have hi:i<ts.length:=Decidable.not_not.1 hi
 refine BdP.ite (fun _ => ?_) (fun _ => ?_)
 ·exact .next _ hi
 refine BdP.ite (fun _ => ?_) (fun _ => ?_)
 ·exact .skip hi ((bd_set _ _ _ _).bind fun _ _ => .ok _)
 refine BdP.ite (fun _ => ?_) (fun _ => ?_)
 ·exact .next _ hi
 refine BdP.ite (fun _ => ?_) (fun _ => ?_)
 ·exact .next _ hi
 refine BdP.ite (fun _ => ?_) (fun _ => ?_)
 ·exact .next _ hi
 refine BdP.ite (fun _ => ?_) (fun _ => ?_)
 ·exact .next _ hi
 refine BdP.ite (fun _ => ?_) (fun _ => ?_)
 ·exact .skip hi ((bd_num _ _ _).bind fun _ _ => (XT _ _).bind fun _ _ => (bd_name _).bind fun _ _ => .ok _)
 refine BdP.ite (fun _ => ?_) (fun _ => ?_)
 ·exact .skip hi ((XT _ _).bind fun _ _ => (bd_num _ _ _).bind fun _ _ => (XT _ _).bind fun _ _ => .ok _)
 refine BdP.ite (fun _ => ?_) (fun _ => ?_)
 ·exact .skip hi ((hE _).bind fun _ _ => (XT _ _).bind fun _ _ => .ok _)
 refine BdP.ite (fun _ => ?_) (fun _ => ?_)
 ·exact .skip hi ((XT _ _).bind fun _ _ => (hE _).bind fun _ _ => (XT _ _).bind fun _ _ => (hE _).bind fun _ _ => (XT _ _).bind fun _ _ => .ok _)
 ·exact (bd_name _).bind fun _ _ => (XT _ _).bind fun _ _ => (bd_name _).bind fun _ _ => (XT _ _).bind fun _ _ => (hA _).bind fun _ _ => .ok _
theorem bd_expr {E A:Nat→PR Exp} (hE:∀i,BdP ts i (E i)) (hA:∀i,BdP ts i (A i)) (i:Nat):BdP ts i (YH ts E A i):=by
 unfold YH
 split
 ·rename_i h
  exact .skip (sees_lt h) ((hE _).bind fun _ _ => (XT _ _).bind fun _ _ => (hE _).bind fun _ _ => (XT _ _).bind fun _ _ => (hE _).bind fun _ _ => .ok _)
 ·exact bd_lv (fun i=>bd_lv (fun i=>bd_lv hA 3 i) 2 i) 1 i
mutual
theorem bd_E:∀(f i:Nat),BdP ts i (pE ts f i)
 | 0,i=> .bad
 | f+1,i=>bd_expr (fun i=>bd_E f i) (fun i=>bd_A f i) i
theorem bd_A:∀(f i:Nat),BdP ts i (pA ts f i)
 | 0,i=> .bad
 | f+1,i=>bd_atom (fun i=>bd_E f i) (fun i=>bd_A f i) i
end
theorem par_more {ts:List Tok} {len at':Int} (h0:∀t∈ts,0≤t.at') (hl:0≤len) (h:(parT ts len).2 = -1):(parT (ts++[⟨3,0,at',wRP⟩]) (len+2)).2 = at':=by
 have hoff:∀i,0≤(if i<ts.length then (ts.getD i Y9).at' else len):=fun i=>by
  split
  ·rename_i hi;rw[Zg hi];exact h0 _ (List.getElem_mem hi)
  ·exact hl
 unfold parT at h
 dsimp only at h
 cases e:pE ts (2 * ts.length+4) 0 with
 | bad i=>
  rw[e] at h
  have:=hoff i
  dsimp only at h
  omega
 | ok x i=>
  rw[e] at h
  dsimp only at h
  have hi:=(bd_E (ts:=ts) _ 0 (by omega) x i e).2
  by_cases hlt:i<ts.length
  ·rw[if_pos hlt] at h
   have:=hoff i
   dsimp only at h
   omega
  ·have hil:i=ts.length:=by omega
   have e2:=(tail_rp ts at').pE (2 * ts.length+4) (2 * (ts++[(⟨3,0,at',wRP⟩:Tok)]).length + 4) 0 (by simp;omega) x i e
   unfold parT
   dsimp only
   rw[e2]
   dsimp only
   rw[if_pos (by simp;omega)]
   subst hil
   rw[if_pos (by simp)]
   simp[List.getD_eq_getElem?_getD]
theorem par_off {ts:List Tok} {len:Int} (h0:∀t∈ts,0≤t.at'∧t.at'≤len) (hl:0≤len):((parT ts len).2 = -1∨(0≤(parT ts len).2 ∧ (parT ts len).2 ≤ len∧(parT ts len).1 = .mk 0 0 0 0 noS noS [])):=by
 have hoff:∀i,0≤(if i<ts.length then (ts.getD i Y9).at' else len)∧(if i<ts.length then (ts.getD i Y9).at' else len)≤len:=fun i=>by
  split
  ·rename_i hi;rw[Zg hi];exact h0 _ (List.getElem_mem hi)
  ·omega
 unfold parT
 dsimp only
 cases pE ts (2 * ts.length+4) 0 with
 | bad i=>have:=hoff i;right;exact ⟨this.1,this.2,rfl⟩
 | ok x i=>
  have:=hoff i
  dsimp only
  by_cases hlt:i<ts.length
  ·rw[if_pos hlt] at this ⊢;right;simp only[if_pos hlt];exact ⟨this.1,this.2,trivial⟩
  ·rw[if_neg hlt]
   split
   ·left;rfl
   ·right;exact ⟨by show (0:Int)≤0;omega,hl,rfl⟩
end Go.Gh
namespace Go.Gh
open Lib
def Zw (p:UInt8→Bool):List UInt8→Nat
 | []=>0
 | c::l=>if p c=true then Zw p l+1 else 0
theorem XR (p:UInt8→Bool):∀l:List UInt8,Zw p l≤l.length
 | []=>by simp[Zw]
 | c::l=>by
  simp only[Zw]
  split
  ·have:=XR p l;simp;omega
  ·simp
theorem spanL_app {p:UInt8→Bool} {c:UInt8} (hc:p c=false) (r:List UInt8):∀l:List UInt8,Zw p (l++c::r)=Zw p l
 | []=>by simp[Zw,hc]
 | d::l=>by simp only[List.cons_append,Zw,spanL_app hc r l]
theorem XQ {p:UInt8→Bool} {l:List UInt8} {k:Nat} (h:k<l.length) (hp:p l[k]=true):Zw p (l.drop k)=Zw p (l.drop (k+1))+1:=by
 rw[List.drop_eq_getElem_cons h]
 simp[Zw,hp]
theorem spanL_stop {p:UInt8→Bool} {l:List UInt8} {k:Nat} (h:k<l.length) (hp:p l[k]=false):Zw p (l.drop k)=0:=by
 rw[List.drop_eq_getElem_cons h]
 simp[Zw,hp]
theorem spanL_end {p:UInt8→Bool} {l:List UInt8} {k:Nat} (h:l.length≤k):Zw p (l.drop k)=0:=by
 rw[List.drop_eq_nil_of_le h]
 rfl
def Y8 (l:List UInt8):Int:=l.foldl (fun n c=>10 * n+((c.toNat:Int)-48)) 0
def numT (w:List UInt8):Option Int:=if itoa (Y8 w)=w∧Y8 w≤1000000 then some (Y8 w) else none
def Y2 (c:UInt8):Bool:=Ze c||ZI c
def symC:List UInt8:=[40,41,123,125,44,46,36,43,45,42,60,124,38,92]
def Zk (l:List UInt8) (k:Nat):Tok×Nat:=
 if h:k<l.length then
  if Ze l[k]=true then
   if Zw Y2 (l.drop k)≤8 then (⟨1,0,k,⟨((l.drop k).take (Zw Y2 (l.drop k))).toArray⟩⟩,Zw Y2 (l.drop k)) else (Y9,0)
  else if ZI l[k]=true then
   match numT ((l.drop k).take (Zw ZI (l.drop k))) with
   | some n=>(⟨2,n,k,noS⟩,Zw ZI (l.drop k))
   | none=>(Y9,0)
  else if l[k]∈symC then (⟨3,0,k,⟨#[l[k]]⟩⟩,1)
  else if l[k]=61∧l[k+1]? = some 61 then (⟨3,0,k,⟨#[61,61]⟩⟩,2)
  else (Y9,0)
 else (Y9,0)
theorem tokN_le {l:List UInt8} {k:Nat} (hk:k≤l.length):k+(Zk l k).2 ≤ l.length:=by
 unfold Zk
 split
 ·rename_i h
  have h1:=XR Y2 (l.drop k)
  have h2:=XR ZI (l.drop k)
  simp only[List.length_drop] at h1 h2
  split
  ·split<;>dsimp only<;>omega
  ·split
   ·split<;>dsimp only<;>omega
   ·split
    ·dsimp only;omega
    ·split
     ·rename_i h3
      have:=(List.getElem?_eq_some_iff.1 h3.2).1
      dsimp only;omega
     ·dsimp only;omega
 ·dsimp only;omega
theorem tokN_at {l:List UInt8} {k:Nat} (h:(Zk l k).2 ≠ 0):(Zk l k).1.at' = k∧k<l.length:=by
 unfold Zk at *
 split
 ·rename_i hk
  rw[dif_pos hk] at h
  refine ⟨?_,hk⟩
  split at h
  ·rename_i h1;rw[if_pos h1]
   split at h
   ·rename_i h2;rw[if_pos h2]
   ·exact absurd rfl h
  ·rename_i h1;rw[if_neg h1]
   split at h
   ·rename_i h2;rw[if_pos h2]
    split at h
    ·rfl
    ·exact absurd rfl h
   ·rename_i h2;rw[if_neg h2]
    split at h
    ·rename_i h3;rw[if_pos h3]
    ·rename_i h3;rw[if_neg h3]
     split at h
     ·rename_i h4;rw[if_pos h4]
     ·exact absurd rfl h
 ·rename_i hk
  rw[dif_neg hk] at h
  exact absurd rfl h
theorem aln32:Y2 32=false:=by decide
theorem dig32:ZI 32=false:=by decide
theorem tokN_app {l r:List UInt8} {k:Nat} (h:(Zk l k).2 ≠ 0):Zk (l++32::r) k=Zk l k:=by
 have hk:=(tokN_at h).2
 have hk2:k<(l++32::r).length := by simp;omega
 have e1:(l++32::r)[k]=l[k]:=List.getElem_append_left hk
 have e2:(l++32::r).drop k=l.drop k++32::r:=List.drop_append_of_le_length (by omega)
 have e3:=spanL_app aln32 r (l.drop k)
 have e4:=spanL_app dig32 r (l.drop k)
 have e5:=List.take_append_of_le_length (l₂:=32::r) (XR Y2 (l.drop k))
 have e6:=List.take_append_of_le_length (l₂:=32::r) (XR ZI (l.drop k))
 unfold Zk at h ⊢
 rw[dif_pos hk] at h
 rw[dif_pos hk2,dif_pos hk]
 simp only[e1,e2,e3,e4,e5,e6]
 by_cases h4:l[k]=61
 ·have n1:¬Ze 61=true:=by decide
  have n2:¬ZI 61=true:=by decide
  have n3:¬(61:UInt8)∈symC:=by decide
  simp only[h4] at h ⊢
  rw[if_neg n1,if_neg n2,if_neg n3] at h
  by_cases h5:l[k+1]? = some 61
  ·have h6:=(List.getElem?_eq_some_iff.1 h5).1
   have e7:(l++32::r)[k+1]? = l[k+1]? := List.getElem?_append_left h6
   rw[e7]
  ·rw[if_neg (fun h=>h5 h.2)] at h
   exact absurd rfl h
 ·simp only[h4,false_and,if_false]
def Y6 (l:List UInt8):Nat→Nat→List Tok→List Tok×Int
 | 0,k,_ => ([],k)
 | f+1,k,out=>
  if h:k<l.length then
   if l[k]=32 then Y6 l f (k+1) out
   else if (Zk l k).2 = 0∨out.length=80 then ([],k)
   else Y6 l f (k+(Zk l k).2) (out++[(Zk l k).1])
  else (out, -1)
theorem Ya (l:List UInt8) (f k:Nat) (out:List Tok):Y6 l (f+1) k out =
 if h:k<l.length then
  if l[k]=32 then Y6 l f (k+1) out
  else if (Zk l k).2 = 0∨out.length=80 then ([],k)
  else Y6 l f (k+(Zk l k).2) (out++[(Zk l k).1])
 else (out, -1):=rfl
def ZA (l:List UInt8):List Tok×Int:=if 160<l.length then ([],160) else Y6 l (l.length+1) 0 []
theorem tokL_fuel {l:List UInt8}:∀(f f' k:Nat) (out:List Tok),k≤l.length→l.length<f+k→l.length<f'+k→Y6 l f k out=Y6 l f' k out
 | 0,f',k,out,hk,h,h'=>by omega
 | f+1,0,k,out,hk,h,h'=>by omega
 | f+1,f'+1,k,out,hk,h,h'=>by
  rw[Ya,Ya]
  split
  ·split
   ·exact tokL_fuel f f' _ _ (by omega) (by omega) (by omega)
   ·split
    ·rfl
    ·rename_i h1
     have:=tokN_le hk
     exact tokL_fuel f f' _ _ this (by omega) (by omega)
  ·rfl
theorem tokL_at {l:List UInt8}:∀(f k:Nat) (out:List Tok),(∀t∈out,0≤t.at'∧t.at'≤l.length)→∀t∈(Y6 l f k out).1,0≤t.at'∧t.at'≤l.length
 | 0,k,out,h=>by simp[Y6]
 | f+1,k,out,h=>by
  simp only[Y6]
  split
  ·split
   ·exact tokL_at f _ _ h
   ·split
    ·simp
    ·rename_i h1
     refine tokL_at f _ _ fun t ht=> ?_
     rcases List.mem_append.1 ht with ht|ht
     ·exact h t ht
     ·rw[List.mem_singleton] at ht
      subst ht
      have:=tokN_at (l:=l) (k:=k) (fun e=>h1 (.inl e))
      omega
  ·exact h
theorem tokL_len {l:List UInt8}:∀(f k:Nat) (out:List Tok),out.length≤80→(Y6 l f k out).1.length ≤ 80
 | 0,k,out,h=>by simp[Y6]
 | f+1,k,out,h=>by
  simp only[Y6]
  split
  ·split
   ·exact tokL_len f _ _ h
   ·split
    ·simp
    ·rename_i h1
     exact tokL_len f _ _ (by simp;omega)
  ·exact h
theorem tokL_bad {l:List UInt8}:∀(f k:Nat) (out:List Tok),k≤l.length→l.length<f+k→(Y6 l f k out).2 = -1∨((Y6 l f k out).1 = []∧0≤(Y6 l f k out).2 ∧ (Y6 l f k out).2 < l.length)
 | 0,k,out,hk,h=>by omega
 | f+1,k,out,hk,h=>by
  rw[Ya]
  split
  ·split
   ·exact tokL_bad f _ _ (by omega) (by omega)
   ·split
    ·right;exact ⟨rfl,by dsimp only;omega,by dsimp only;omega⟩
    ·have:=tokN_le hk
     exact tokL_bad f _ _ this (by omega)
  ·left;rfl
theorem tokL_app {l:List UInt8}:∀(f k:Nat) (out:List Tok),k≤l.length→l.length<f+k→(Y6 l f k out).2 = -1 →
 Y6 (l++[32,41]) (f+2) k out=if (Y6 l f k out).1.length = 80 then ([],(l.length:Int)+1) else ((Y6 l f k out).1 ++ [⟨3,0,(l.length:Int)+1,wRP⟩], -1)
 | 0,k,out,hk,hf,h=>by omega
 | f+1,k,out,hk,hf,h=>by
  have hlen:(l++[(32:UInt8),41]).length = l.length+2:=by simp
  rcases Nat.lt_or_ge k l.length with hlt|hge
  ·have e1:(l++[(32:UInt8),41])[k]'(by omega)=l[k]:=List.getElem_append_left hlt
   rw[Ya,dif_pos hlt] at h
   rw[show f+1+2=(f+2)+1 from rfl,Ya,dif_pos (by omega:k<(l++[(32:UInt8),41]).length),Ya l f k,dif_pos hlt,e1]
   by_cases h1:l[k]=32
   ·rw[if_pos h1] at h ⊢
    rw[if_pos h1]
    exact tokL_app f _ _ (by omega) (by omega) h
   ·rw[if_neg h1] at h ⊢
    rw[if_neg h1]
    by_cases h2:(Zk l k).2 = 0∨out.length=80
    ·rw[if_pos h2] at h
     dsimp only at h
     omega
    ·rw[if_neg h2] at h ⊢
     have e2:=tokN_app (r:=[41]) (l:=l) (k:=k) (fun e=>h2 (.inl e))
     rw[e2,if_neg h2]
     have:=tokN_le (l:=l) (k:=k) hk
     exact tokL_app f _ _ this (by omega) h
  ·have hk':k=l.length:=by omega
   subst hk'
   have e0:Y6 l (f+1) l.length out=(out, -1):=by simp only[Y6];rw[dif_neg (by omega)]
   rw[e0]
   have e1:(l++[(32:UInt8),41])[l.length]'(by omega)=32:=by simp
   have e2:(l++[(32:UInt8),41])[l.length+1]'(by omega)=41:=by simp
   have e3:Zk (l++[(32:UInt8),41]) (l.length+1)=(⟨3,0,(l.length:Int)+1,wRP⟩,1):=by
    unfold Zk
    rw[dif_pos (by omega)]
    simp only[e2]
    rw[if_neg (by decide),if_neg (by decide),if_pos (by decide)]
    simp[wRP]
   have e4:Y6 (l++[32,41]) (f+1) (l.length+2) (out++[⟨3,0,(l.length:Int)+1,wRP⟩])=(out++[⟨3,0,(l.length:Int)+1,wRP⟩], -1):=by
    simp only[Y6];rw[dif_neg (by omega)]
   rw[show f+1+2=((f+1)+1)+1 from rfl]
   rw[Ya,dif_pos (by omega:l.length<(l++[(32:UInt8),41]).length),e1,if_pos rfl]
   rw[Ya,dif_pos (by omega:l.length+1<(l++[(32:UInt8),41]).length),e2,if_neg (by decide),e3]
   dsimp only
   by_cases h8:out.length=80
   ·rw[if_pos (.inr h8),if_pos h8];simp
   ·rw[if_neg (by simp;omega),if_neg h8,e4]
def Zj (l:List UInt8):Exp×Int:=if (ZA l).2 ≥ 0 then (.mk 0 0 0 0 noS noS [],(ZA l).2) else parT (ZA l).1 l.length
theorem tokz_at (l:List UInt8):∀t∈(ZA l).1,0≤t.at'∧t.at'≤l.length:=by
 unfold ZA
 split
 ·simp
 ·exact tokL_at _ _ _ (by simp)
theorem tokz_len (l:List UInt8):(ZA l).1.length ≤ 80:=by
 unfold ZA
 split
 ·simp
 ·exact tokL_len _ _ _ (by simp)
theorem tokz_bad (l:List UInt8):(ZA l).2 = -1∨((ZA l).1 = []∧0≤(ZA l).2 ∧ (ZA l).2 ≤ l.length):=by
 unfold ZA
 split
 ·right;exact ⟨rfl,by dsimp only;omega,by dsimp only;omega⟩
 ·rcases tokL_bad (l:=l) (l.length+1) 0 [] (by omega) (by omega) with h|⟨h1,h2,h3⟩
  ·exact .inl h
  ·exact .inr ⟨h1,h2,by omega⟩
theorem err_off (l:List UInt8):(Zj l).2 = -1∨(0≤(Zj l).2 ∧ (Zj l).2 ≤ l.length∧(Zj l).1 = .mk 0 0 0 0 noS noS []):=by
 unfold Zj
 split
 ·rename_i h
  rcases tokz_bad l with h1|⟨_,h2,h3⟩
  ·omega
  ·exact .inr ⟨h2,h3,rfl⟩
 ·exact par_off (tokz_at l) (by omega)
theorem err_more (l:List UInt8) (h:(Zj l).2 = -1):(Zj (l++[32,41])).2 = (l.length:Int)+1∨(l.length+2>160∧(Zj (l++[32,41])).2 = 160):=by
 have hlen:(l++[(32:UInt8),41]).length = l.length+2:=by simp
 by_cases h1:l.length+2>160
 ·refine .inr ⟨h1,?_⟩
  have e:ZA (l++[32,41])=([],160):=by unfold ZA;rw[if_pos (by omega)]
  unfold Zj
  rw[e]
  rfl
 ·left
  have ht:(ZA l).2 = -1:=by
   rcases tokz_bad l with h2|⟨_,h2,_⟩
   ·exact h2
   ·unfold Zj at h
    rw[if_pos (by omega)] at h
    dsimp only at h
    omega
  have e0:ZA l=Y6 l (l.length+1) 0 []:=by unfold ZA;rw[if_neg (by omega)]
  have e1:=tokL_app (l:=l) (l.length+1) 0 [] (by omega) (by omega) (by rw[←e0];exact ht)
  rw[←e0] at e1
  have e2:ZA (l++[32,41])=Y6 (l++[32,41]) (l.length+1+2) 0 []:=by
   unfold ZA
   rw[if_neg (by omega),hlen]
  rw[←e2] at e1
  have hp:(parT (ZA l).1 l.length).2 = -1:=by
   unfold Zj at h
   rw[if_neg (by omega)] at h
   exact h
  unfold Zj
  rw[e1]
  by_cases h8:(ZA l).1.length = 80
  ·rw[if_pos h8]
   dsimp only
   rw[if_pos (by omega)]
  ·rw[if_neg h8]
   dsimp only
   rw[if_neg (by omega),hlen]
   exact par_more (fun t ht=>(tokz_at l t ht).1) (by omega) hp
end Go.Gh
namespace Go.Gh
open Lib
abbrev Key:=Int×Int×ByteArray
abbrev It:=Option Key
def Y1 (x:Key):List UInt8:=if x.1=2 then itoa x.2.1 else Z8 x.2.2
def rendI:It→List UInt8
 | none=>[32]
 | some x=>Y1 x
def Zd (l:List It):List UInt8:=l.flatMap rendI
def Zl (l:List It):List Key:=l.filterMap id
abbrev wd (w:ByteArray):It:=some (1,0,w)
abbrev sy (c:UInt8):It:=some (3,0,⟨#[c]⟩)
abbrev nb (n:Int):It:=some (2,n,noS)
theorem rend_nil:Zd []=[]:=rfl
theorem YO (x:It) (l:List It):Zd (x::l)=rendI x++Zd l:=rfl
theorem rend_app (a b:List It):Zd (a++b)=Zd a++Zd b:=by simp[Zd]
theorem X4:Zl []=[]:=rfl
theorem Yn (l:List It):Zl (none::l)=Zl l:=rfl
theorem YY (x:Key) (l:List It):Zl (some x::l)=x::Zl l:=rfl
theorem X5 (a b:List It):Zl (a++b)=Zl a++Zl b:=by simp[Zl]
def alnK (x:Key):Bool:=decide (x.1=1∨x.1=2)
def alnI:It→Bool
 | none=>false
 | some x=>alnK x
def sepI:List It→Bool
 | []=>true
 | [_]=>true
 | x::y::l=> !(alnI x&&alnI y)&&sepI (y::l)
theorem sep_mid {x:It} (hx:alnI x=false) (r:List It):∀l:List It,sepI (l++x::r)=(sepI l&&sepI (x::r))
 | []=>by simp[sepI]
 | [y]=>by simp[sepI,hx]
 | y::z::l=>by
  have:=sep_mid hx r (z::l)
  simp only[List.cons_append,sepI] at this ⊢
  rw[this,Bool.and_assoc]
theorem sep_cons {x:It} (hx:alnI x=false) (r:List It):sepI (x::r)=sepI r:=by
 cases r with
 | nil=>rfl
 | cons y l=>simp[sepI,hx]
def goodK (x:Key):Prop:=
 (x.1=1∧x.2.1=0∧shp (Z8 x.2.2)=true∧(Z8 x.2.2).length ≤ 8)∨(x.1=2∧x.2.2=noS∧0≤x.2.1∧x.2.1≤1000000) ∨
 (x.1=3∧x.2.1=0∧((∃c∈symC,x.2.2=⟨#[c]⟩)∨x.2.2=⟨#[61,61]⟩))
def Ye:It→Prop
 | none=>True
 | some x=>goodK x
theorem valD_snoc (l:List UInt8) (c:UInt8):Y8 (l++[c])=10 * Y8 l+((c.toNat:Int)-48):=by simp[Y8]
theorem dig_toNat:∀d,d<10→(UInt8.ofNat (48+d)).toNat = 48+d:=by decide
theorem dig_digV:∀d,d<10→ZI (UInt8.ofNat (48+d))=true:=by decide
theorem dec_ind {p:Nat→List UInt8→Prop} (h0:∀u,u<10→p u [UInt8.ofNat (48+u)]) (h1:∀u,¬u<10→p (u / 10) (decDigits (u / 10))→p u (decDigits (u / 10)++[UInt8.ofNat (48+u % 10)])) (u:Nat):p u (decDigits u):=by
 induction u using Nat.strongRecOn with
 | _ u ih=>
  by_cases h:u<10
  ·rw[decDigits_one h];exact h0 u h
  ·rw[decDigits,dif_neg h]
   exact h1 u h (ih (u / 10) (by omega))
theorem valD_dec (u:Nat):Y8 (decDigits u)=u:=by
 refine dec_ind (p:=fun u l=>Y8 l=u) (fun u h=> ?_) (fun u h ih=> ?_) u
 ·have:=dig_toNat u h
  simp only[Y8,List.foldl_cons,List.foldl_nil,this]
  omega
 ·rw[valD_snoc,ih,dig_toNat _ (Nat.mod_lt _ (by decide))]
  omega
theorem dec_dig (u:Nat):(∀c∈decDigits u,ZI c=true)∧decDigits u≠[]:=by
 refine dec_ind (p:=fun u l=>(∀c∈l,ZI c=true)∧l≠[]) (fun u h=> ?_) (fun u h ih=> ?_) u
 ·exact ⟨fun c hc=>by rw[List.mem_singleton] at hc;subst hc;exact dig_digV u h,by simp⟩
 ·refine ⟨fun c hc=> ?_,by simp⟩
  rcases List.mem_append.1 hc with hc|hc
  ·exact ih.1 c hc
  ·rw[List.mem_singleton] at hc;subst hc;exact dig_digV _ (Nat.mod_lt _ (by decide))
theorem itoa_dec {n:Int} (h:0≤n):itoa n=decDigits n.toNat:=by unfold itoa;rw[if_neg (by omega)]
theorem numT_itoa {n:Int} (h:0≤n) (h1:n≤1000000):numT (itoa n)=some n:=by
 have e:Y8 (itoa n)=n:=by rw[itoa_dec h,valD_dec];omega
 unfold numT
 rw[e,if_pos ⟨rfl,h1⟩]
theorem numT_some {w:List UInt8} {n:Int} (h:numT w=some n):itoa n=w∧n≤1000000:=by
 unfold numT at h
 split at h
 ·rename_i h1
  simp only[Option.some.injEq] at h
  rw[←h];exact h1
 ·cases h
theorem spanL_all {p:UInt8→Bool}:∀(l r:List UInt8),(∀c∈l,p c=true)→(∀c,r.head?=some c→p c=false)→Zw p (l++r)=l.length
 | [],r,_,h=>by
  cases r with
  | nil=>rfl
  | cons c r=>simp[Zw,h c rfl]
 | c::l,r,hl,h=>by
  simp only[List.cons_append,Zw,hl c (by simp),if_true,List.length_cons]
  rw[spanL_all l r (fun c hc=>hl c (by simp[hc])) h]
theorem drop_pre {α:Type} (a b:List α):(a++b).drop a.length=b:=by simp
theorem get_pre {α:Type} {a b:List α} {c:α} {r:List α} (hb:b=c::r) (h:a.length<(a++b).length):(a++b)[a.length]=c:=by subst hb;simp
theorem dig_not_let (c:UInt8) (h:ZI c=true):Ze c=false:=by
 simp only[ZI,Ze,Bool.and_eq_true,decide_eq_true_eq,Bool.and_eq_false_iff,decide_eq_false_iff_not] at *
 omega
theorem symC_no:∀c∈symC,Ze c=false∧ZI c=false:=by decide
theorem take_pre {α:Type} (a b:List α):(a++b).take a.length=a:=by simp
theorem tokN_it {x:Key} (hx:goodK x) (pre r:List UInt8) (hr:alnK x=true→∀c,r.head?=some c→Y2 c=false) :
 Zk (pre++(Y1 x++r)) pre.length=(⟨x.1,x.2.1,pre.length,x.2.2⟩,(Y1 x).length)∧(Y1 x).length ≠ 0:=by
 obtain ⟨k,n,t⟩:=x
 rcases hx with ⟨h1,h2,h3,h4⟩|⟨h1,h2,h3,h4⟩|⟨h1,h2,h3⟩
 ·dsimp only at h1 h2 h3 h4
  subst h1 h2
  have e:Y1 (1,0,t)=Z8 t:=rfl
  have hr':=hr (by simp[alnK])
  rw[e]
  obtain ⟨c,l,hc⟩:∃c l,Z8 t=c::l:=by
   cases hh:Z8 t with
   | nil=>rw[hh] at h3;cases h3
   | cons c l=>exact ⟨c,l,rfl⟩
  have hall:∀c∈Z8 t,Y2 c=true:=by
   rw[hc] at h3 ⊢
   simp only[shp,Bool.and_eq_true,List.all_eq_true] at h3
   intro d hd
   rcases List.mem_cons.1 hd with rfl|hd
   ·simp[Y2,h3.1]
   ·exact h3.2 d hd
  have hlt:pre.length<(pre++(Z8 t++r)).length := by rw[hc];simp
  have hg:(pre++(Z8 t++r))[pre.length]=c:=get_pre (r:=l++r) (by rw[hc];rfl) hlt
  have hl:Ze c=true:=by rw[hc] at h3;simp only[shp,Bool.and_eq_true] at h3;exact h3.1
  refine ⟨?_,by rw[hc];simp⟩
  unfold Zk
  rw[dif_pos hlt]
  simp only[hg,hl,if_true,drop_pre,spanL_all _ r hall hr',take_pre,if_pos h4]
 ·dsimp only at h1 h2 h3 h4
  subst h1 h2
  have e:Y1 (2,n,noS)=itoa n:=rfl
  have hr':=hr (by simp[alnK])
  have hd:=dec_dig n.toNat
  rw[←itoa_dec h3] at hd
  rw[e]
  obtain ⟨c,l,hc⟩:∃c l,itoa n=c::l:=by
   cases hh:itoa n with
   | nil=>exact absurd hh hd.2
   | cons c l=>exact ⟨c,l,rfl⟩
  have hdc:ZI c=true:=hd.1 c (by rw[hc];simp)
  have hlt:pre.length<(pre++(itoa n++r)).length := by rw[hc];simp
  have hg:(pre++(itoa n++r))[pre.length]=c:=get_pre (r:=l++r) (by rw[hc];rfl) hlt
  have hr2:∀c,r.head?=some c→ZI c=false:=fun c h=>by
   have:=hr' c h
   simp only[Y2,Bool.or_eq_false_iff] at this
   exact this.2
  refine ⟨?_,by rw[hc];simp⟩
  unfold Zk
  rw[dif_pos hlt]
  simp only[hg,dig_not_let c hdc,hdc,Bool.false_eq_true,if_false,if_true,drop_pre,spanL_all _ r hd.1 hr2,take_pre,numT_itoa h3 h4]
 ·dsimp only at h1 h2 h3
  subst h1 h2
  have e:Y1 (3,0,t)=Z8 t:=rfl
  rw[e]
  rcases h3 with ⟨c,hc,rfl⟩|rfl
  ·have e1:Z8 ⟨#[c]⟩=[c]:=rfl
   rw[e1]
   have hlt:pre.length<(pre++([c]++r)).length := by simp
   have hg:(pre++([c]++r))[pre.length]=c:=get_pre (r:=r) rfl hlt
   obtain ⟨n1,n2⟩:=symC_no c hc
   refine ⟨?_,by simp⟩
   unfold Zk
   rw[dif_pos hlt]
   simp only[hg,n1,n2,Bool.false_eq_true,if_false,if_pos hc,List.length_singleton]
  ·have e1:Z8 ⟨#[61,61]⟩=[61,61]:=rfl
   rw[e1]
   have hlt:pre.length<(pre++([61,61]++r)).length := by simp
   have hg:(pre++([61,61]++r))[pre.length]=61:=get_pre (r:=61::r) rfl hlt
   have hg2:(pre++([61,61]++r))[pre.length+1]? = some 61:=by
    rw[List.getElem?_append_right (by omega)]
    simp
   refine ⟨?_,by simp⟩
   unfold Zk
   rw[dif_pos hlt]
   simp only[hg,hg2]
   rw[if_neg (by decide),if_neg (by decide),if_neg (by decide),if_pos (by simp)]
   rfl
def Ym:Nat→List It→List Tok
 | _,[]=>[]
 | p,none::l=>Ym (p+1) l
 | p,some x::l=>⟨x.1,x.2.1,p,x.2.2⟩::Ym (p+(Y1 x).length) l
def keyT (t:Tok):Key:=(t.kind,t.num,t.text)
theorem toksAt_keys:∀(p:Nat) (l:List It),(Ym p l).map keyT=Zl l
 | _,[]=>rfl
 | p,none::l=>by rw[Ym,Yn];exact toksAt_keys _ l
 | p,some x::l=>by rw[Ym,YY,List.map_cons,toksAt_keys];rfl
theorem rendI_hd {x:It} (hx:Ye x) (ha:alnI x=false):∃c l,rendI x=c::l∧Y2 c=false:=by
 cases x with
 | none=>exact ⟨32,[],rfl,by decide⟩
 | some x=>
  obtain ⟨k,n,t⟩:=x
  simp only[alnI,alnK,decide_eq_false_iff_not,not_or] at ha
  rcases hx with ⟨h1,_⟩|⟨h1,_⟩|⟨h1,h2,h3⟩
  ·exact absurd h1 ha.1
  ·exact absurd h1 ha.2
  ·dsimp only at h1 h2 h3
   subst h1
   rcases h3 with ⟨c,hc,rfl⟩|rfl
   ·obtain ⟨n1,n2⟩:=symC_no c hc
    exact ⟨c,[],rfl,by simp[Y2,n1,n2]⟩
   ·exact ⟨61,[61],rfl,by decide⟩
theorem rend_hd {x:It} {l:List It} (hl:∀y∈l,Ye y) (hs:sepI (x::l)=true) (hx:alnI x=true):∀c,(Zd l).head? = some c→Y2 c=false:=by
 intro c hc
 cases l with
 | nil=>cases hc
 | cons y l=>
  simp only[sepI,hx,Bool.true_and,Bool.and_eq_true,Bool.not_eq_true'] at hs
  obtain ⟨d,r,e,hd⟩:=rendI_hd (hl y (by simp)) hs.1
  rw[YO,e] at hc
  simp only[List.cons_append,List.head?_cons,Option.some.injEq] at hc
  subst hc
  exact hd
theorem key_hd32 {x:Key} (hx:goodK x):∀c,(Y1 x).head? = some c→c≠32:=by
 obtain ⟨k,n,t⟩:=x
 intro c hc e
 subst e
 rcases hx with ⟨h1,h2,h3,h4⟩|⟨h1,h2,h3,h4⟩|⟨h1,h2,h3⟩
 ·dsimp only at h1 h3
  subst h1
  have e:Y1 (1,n,t)=Z8 t:=rfl
  rw[e] at hc
  cases hh:Z8 t with
  | nil=>rw[hh] at hc;cases hc
  | cons d l=>
   rw[hh] at hc h3
   simp only[List.head?_cons,Option.some.injEq] at hc
   subst hc
   simp only[shp,Bool.and_eq_true] at h3
   exact absurd h3.1 (by decide)
 ·dsimp only at h1 h3
  subst h1
  have e:Y1 (2,n,t)=itoa n:=rfl
  rw[e,itoa_dec h3] at hc
  have hd:=(dec_dig n.toNat).1
  have:=hd 32 (List.mem_of_mem_head? hc)
  exact absurd this (by decide)
 ·dsimp only at h1 h3
  subst h1
  have e:Y1 (3,n,t)=Z8 t:=rfl
  rw[e] at hc
  rcases h3 with ⟨d,hd,rfl⟩|rfl
  ·simp only[Z8,List.head?_cons,Option.some.injEq] at hc
   subst hc
   exact absurd hd (by decide)
  ·cases hc
theorem tokL_its:∀(its:List It) (pre:List UInt8) (out:List Tok) (f:Nat),(∀x∈its,Ye x)→sepI its=true→(pre++Zd its).length < f+pre.length→out.length≤80 →
 (out.length+(Zl its).length ≤ 80→Y6 (pre++Zd its) f pre.length out=(out++Ym pre.length its, -1)) ∧
 (80<out.length+(Zl its).length → (Y6 (pre++Zd its) f pre.length out).1 = []∧0≤(Y6 (pre++Zd its) f pre.length out).2)
 | [],pre,out,f,hg,hs,hf,ho=>by
  cases f with
  | zero=>simp at hf;omega
  | succ f=>
   rw[rend_nil,List.append_nil]
   simp only[Y6]
   rw[dif_neg (by omega)]
   exact ⟨fun _ => by simp[Ym],fun h=>by simp[Zl] at h;omega⟩
 | none::l,pre,out,f,hg,hs,hf,ho=>by
  cases f with
  | zero=>simp at hf;omega
  | succ f=>
   have e:pre++Zd (none::l)=(pre++[32])++Zd l:=by rw[YO];simp[rendI]
   have hlt:pre.length<(pre++Zd (none::l)).length := by rw[YO];simp[rendI]
   have hg32:(pre++Zd (none::l))[pre.length]=32:=get_pre (r:=Zd l) rfl hlt
   have ih:=tokL_its l (pre++[32]) out f (fun x hx=>hg x (by simp[hx])) (by rw[sep_cons rfl] at hs;exact hs) (by rw[←e];simp only[List.length_append,List.length_singleton] at hf ⊢;omega) ho
   simp only[Y6]
   rw[dif_pos hlt,hg32,if_pos rfl,Yn]
   rw[←e] at ih
   simpa[Ym] using ih
 | some x::l,pre,out,f,hg,hs,hf,ho=>by
  cases f with
  | zero=>simp at hf;omega
  | succ f=>
   have hx:goodK x:=hg (some x) (by simp)
   have hl:∀y∈l,Ye y:=fun y hy=>hg y (by simp[hy])
   have hsl:sepI l=true:=by
    cases l with
    | nil=>rfl
    | cons y l=>simp only[sepI,Bool.and_eq_true] at hs;exact hs.2
   obtain ⟨t1,t2⟩:=tokN_it hx pre (Zd l) (fun ha=>rend_hd hl hs ha)
   have e0:pre++Zd (some x::l)=pre++(Y1 x++Zd l):=by rw[YO];rfl
   have e:pre++Zd (some x::l)=(pre++Y1 x)++Zd l:=by rw[e0];simp
   rw[←e0] at t1
   have hlt:pre.length<(pre++Zd (some x::l)).length := by rw[e0];simp;omega
   obtain ⟨c,q,hc⟩:∃c q,Y1 x=c::q:=by
    cases hh:Y1 x with
    | nil=>rw[hh] at t2;exact absurd rfl t2
    | cons c q=>exact ⟨c,q,rfl⟩
   have hgc:(pre++Zd (some x::l))[pre.length]=c:=get_pre (r:=q++Zd l) (by rw[YO];show Y1 x ++ _ = _;rw[hc];rfl) hlt
   have hne:c≠32:=key_hd32 hx c (by rw[hc];rfl)
   simp only[Y6]
   rw[dif_pos hlt,hgc,if_neg hne,t1]
   dsimp only
   rw[YY,List.length_cons]
   by_cases h8:out.length=80
   ·rw[if_pos (.inr h8)]
    exact ⟨fun h=>by omega,fun _ => ⟨rfl,by dsimp only;omega⟩⟩
   ·rw[if_neg (by intro h;rcases h with h|h<;>contradiction)]
    have ih:=tokL_its l (pre++Y1 x) (out++[⟨x.1,x.2.1,pre.length,x.2.2⟩]) f hl hsl (by rw[←e];simp only[List.length_append] at hf ⊢;omega) (by simp;omega)
    rw[←e] at ih
    simp only[List.length_append,List.length_singleton] at ih
    refine ⟨fun h=> ?_,fun h=>ih.2 (by omega)⟩
    rw[ih.1 (by omega)]
    simp[Ym]
theorem tokz_its {its:List It} (hg:∀x∈its,Ye x) (hs:sepI its=true) :
 ((Zd its).length ≤ 160∧(Zl its).length ≤ 80∧ZA (Zd its)=(Ym 0 its, -1))∨((160<(Zd its).length ∨ 80<(Zl its).length)∧(ZA (Zd its)).1 = []∧0≤(ZA (Zd its)).2):=by
 unfold ZA
 by_cases h:160<(Zd its).length
 ·rw[if_pos h];exact .inr ⟨.inl h,rfl,by dsimp only;omega⟩
 ·rw[if_neg h]
  have:=tokL_its its [] [] ((Zd its).length + 1) hg hs (by simp) (by simp)
  simp only[List.nil_append,List.length_nil,Nat.zero_add] at this
  by_cases h8:(Zl its).length ≤ 80
  ·exact .inl ⟨by omega,h8,this.1 h8⟩
  ·have h9:=this.2 (by omega)
   exact .inr ⟨.inr (by omega),h9.1,h9.2⟩
end Go.Gh
namespace Go.Gh
open Lib
def ZB (n:Int):Nat:=if n=9∨n=10 then 1 else if n=1∨n=2∨n=6∨n=8 then 2 else if n=3∨n=7 then 3 else 4
def lvE (e:Exp):Nat:=if e.kind=5 then 0 else if e.kind=4 then ZB e.n else 4
def opK (n:Int):Key:=
 if n=1 then (3,0,⟨#[43]⟩) else if n=2 then (3,0,⟨#[45]⟩) else if n=3 then (3,0,⟨#[42]⟩) else if n=4 then (1,0,wMax) else if n=5 then (1,0,wMin) else if n=6 then (3,0,⟨#[124]⟩) else
 if n=7 then (3,0,⟨#[38]⟩) else if n=8 then (3,0,⟨#[92]⟩) else if n=9 then (3,0,⟨#[60]⟩) else if n=10 then (3,0,⟨#[61,61]⟩) else if n=11 then (1,0,wHas) else (1,0,wWith)
def joinI:List It→List It
 | []=>[]
 | [x]=>[x]
 | x::y::l=>x::none::joinI (y::l)
def YS (n:Int):List Nat:=(List.range 12).filter fun k=>n.toNat.testBit k
def setI (n:Int):List It:=sy 123::(joinI ((YS n).map fun k:Nat=>nb (k:Int))++[sy 125])
def conI (n t:Int):List It:=if t=1 then [nb n] else if t=3 then [wd (if n=1 then wTrue else Yl)] else setI n
def YP (L:Nat) (x:Nat×List It):List It:=if x.1<L then sy 40::(x.2++[sy 41]) else x.2
def itN (k n p t:Int) (s m:ByteArray) (xs:List (Nat×List It)):List It:=
 if k=1 then conI n t else if k=2 then [wd wLit] else if k=3 then [sy 36,nb p,sy 46,wd m] else
 if k=5 then wd wIf::none::((xs.getD 0 (4,[])).2 ++ none::wd wThen::none::((xs.getD 1 (4,[])).2 ++ none::wd wElse::none::(xs.getD 2 (4,[])).2)) else
 if k=6 then [wd wSelf,sy 40,nb p,sy 41] else if k=7 then [wd wNone] else
 if k=8 then wd s::sy 46::wd m::none::wd wOf::none::YP 4 (xs.getD 0 (4,[])) else
 if ZB n=4 then some (opK n)::sy 40::((xs.getD 0 (4,[])).2 ++ sy 44::none::((xs.getD 1 (4,[])).2 ++ [sy 41])) else
 YP (max (ZB n) 2) (xs.getD 0 (4,[]))++none::some (opK n)::none::YP (ZB n+1) (xs.getD 1 (4,[]))
mutual
def itE:Exp→List It
 | .mk k n p t s m a=>itN k n p t s m (itL a)
def itL:List Exp→List (Nat×List It)
 | []=>[]
 | e::l=>(lvE e,itE e)::itL l
end
theorem itL_eq (l:List Exp):itL l=l.map fun e=>(lvE e,itE e):=by
 induction l with
 | nil=>rfl
 | cons e l ih=>simp[itL,ih]
theorem itE_eq (e:Exp):itE e=itN e.kind e.n e.pos e.type e.sym e.name (e.args.map fun e=>(lvE e,itE e)):=by
 cases e;simp only[itE,itL_eq];rfl
abbrev kE (e:Exp):List Key:=Zl (itE e)
theorem keys_join:∀l:List Key,Zl (joinI (l.map some))=l
 | []=>rfl
 | [x]=>rfl
 | x::y::l=>by
  have:=keys_join (y::l)
  simp only[List.map_cons,joinI,YY,Yn] at this ⊢
  rw[this]
variable {ts:List Tok}
def Sf (ts:List Tok) (i:Nat) (R:List Key):Prop:=(ts.map keyT).drop i=R
theorem Sf.cons {i:Nat} {x:Key} {R:List Key} (h:Sf ts i (x::R)):i<ts.length∧keyT (ts.getD i Y9)=x∧Sf ts (i+1) R:=by
 unfold Sf at *
 have hlt:i<ts.length:=by
  rcases Nat.lt_or_ge i ts.length with h1|h1
  ·exact h1
  ·rw[List.drop_eq_nil_of_le (by simpa using h1)] at h;cases h
 rw[List.drop_eq_getElem_cons (by simpa using hlt)] at h
 simp only[List.getElem_map,List.cons.injEq] at h
 exact ⟨hlt,by rw[Zg hlt];exact h.1,h.2⟩
theorem Sf.nil {i:Nat} (h:Sf ts i []):¬i<ts.length:=by
 unfold Sf at h
 have:=List.drop_eq_nil_iff.1 h
 simpa using this
theorem Sf.app {i:Nat} {A R:List Key} (h:Sf ts i (A++R)):Sf ts (i+A.length) R:=by
 unfold Sf at *
 rw[←List.drop_drop,h]
 simp
theorem Sf.len {i:Nat} {R:List Key} (h:Sf ts i R):R.length=ts.length-i:=by
 unfold Sf at h
 rw[←h]
 simp
def isK (x:Key) (w:ByteArray):Bool:=(decide (x.1=1)||decide (x.1=3))&&decide (x.2.2=w)
theorem Sf.isW {i:Nat} {x:Key} {R:List Key} (h:Sf ts i (x::R)) (w:ByteArray):isW (ts.getD i Y9) w=isK x w:=by
 obtain ⟨_,h2,_⟩:=h.cons
 rw[←h2]
 rfl
theorem Sf.sees {i:Nat} {x:Key} {R:List Key} (h:Sf ts i (x::R)) (w:ByteArray):sees ts i w=isK x w:=by
 unfold Go.Gh.sees
 rw[h.isW w,decide_eq_true h.cons.1,Bool.true_and]
theorem Sf.seesN {i:Nat} (h:Sf ts i []) (w:ByteArray):Go.Gh.sees ts i w=false:=by
 unfold Go.Gh.sees
 rw[decide_eq_false h.nil,Bool.false_and]
theorem Sf.take {i:Nat} {x:Key} {R:List Key} {w:ByteArray} (h:Sf ts i (x::R)) (hw:isK x w=true):ZW ts i w = .ok () (i+1):=by
 unfold ZW
 rw[h.sees w,if_pos hw]
theorem Sf.num {i:Nat} {n lo hi:Int} {t:ByteArray} {R:List Key} (h:Sf ts i ((2,n,t)::R)) (h1:lo≤n) (h2:n≤hi):Zs ts i lo hi = .ok n (i+1):=by
 obtain ⟨a,b,_⟩:=h.cons
 simp only[keyT,Prod.mk.injEq] at b
 unfold Zs
 rw[b.1,b.2.1,if_pos ⟨a,rfl,h1,h2⟩]
theorem Sf.name {i:Nat} {n:Int} {t:ByteArray} {R:List Key} (h:Sf ts i ((1,n,t)::R)) (h1:YV t=true):ZP ts i = .ok t (i+1):=by
 obtain ⟨a,b,_⟩:=h.cons
 simp only[keyT,Prod.mk.injEq] at b
 unfold ZP
 rw[b.1,b.2.2,if_pos ⟨a,rfl,h1⟩]
def opKy (x:Key) (lv:Nat):Int:=
 if lv=1 then (if isK x ⟨#[60]⟩=true then 9 else if isK x ⟨#[61,61]⟩=true then 10 else 0) else
 if lv=2 then (if isK x ⟨#[43]⟩=true then 1 else if isK x ⟨#[45]⟩=true then 2 else if isK x ⟨#[124]⟩=true then 6 else if isK x ⟨#[92]⟩=true then 8 else 0) else
 if lv=3 then (if isK x ⟨#[42]⟩=true then 3 else if isK x ⟨#[38]⟩=true then 7 else 0) else 0
def opR:List Key→Nat→Int
 | [],_ => 0
 | x :: _,lv=>opKy x lv
theorem Sf.op {i:Nat} {R:List Key} (h:Sf ts i R) (lv:Nat):opAt ts i lv=opR R lv:=by
 cases R with
 | nil=>unfold opAt;simp[h.seesN,opR]
 | cons x R=>unfold opAt;simp only[h.sees,opR,opKy]
theorem opKy_op:∀n∈[(1:Int),2,3,4,5,6,7,8,9,10,11,12],∀lv∈[1,2,3],opKy (opK n) lv=if ZB n=lv then n else 0:=by decide
theorem mem12 {n:Int} (h:1≤n) (h2:n≤12):n∈[(1:Int),2,3,4,5,6,7,8,9,10,11,12]:=by simp;omega
theorem mem3 {n:Nat} (h:1≤n) (h2:n≤3):n∈[1,2,3]:=by simp;omega
def NoOp (R:List Key) (L:Nat):Prop:=∀l,L≤l→l≤3→opR R l=0
theorem NoOp.mono {R:List Key} {L M:Nat} (h:NoOp R L) (hm:L≤M):NoOp R M:=fun l h1 h2=>h l (by omega) h2
theorem NoOp.four (R:List Key):NoOp R 4:=fun l h1 h2=>by omega
def XL (ts:List Tok) (f:Nat) (L:Nat):Nat→PR Exp:=
 if L=1 then lvP ts (lvP ts (lvP ts (pA ts f) 3) 2) 1 else if L=2 then lvP ts (lvP ts (pA ts f) 3) 2 else if L=3 then lvP ts (pA ts f) 3 else pA ts f
theorem XL_4 (f:Nat):XL ts f 4=pA ts f:=rfl
theorem XL_lv (f:Nat) {L:Nat} (h1:1≤L) (h2:L≤3):XL ts f L=lvP ts (XL ts f (L+1)) L:=by
 rcases show L=1∨L=2∨L=3 by omega with rfl|rfl|rfl<;>rfl
theorem Tail.refl (ts:List Tok):Tail ts ts where
 pre i hi:=⟨hi,rfl⟩
 len:=Nat.le_refl _
 out i w hi _ := by simp[Go.Gh.sees,hi]
theorem row_mono {X:Nat→PR Exp} {lv F F':Nat} {e r:Exp} {i j:Nat} (hF:F≤F') (h:Y5 ts X lv F e i = .ok r j):Y5 ts X lv F' e i = .ok r j:=
 (Tail.refl ts).row (fun i=>ExtP.refl _) lv F F' e i hF r j h
theorem row_stop {X:Nat→PR Exp} {lv F:Nat} {e:Exp} {i:Nat} {R:List Key} (h:Sf ts i R) (h0:opR R lv=0):Y5 ts X lv (F+1) e i = .ok e i:=by
 simp only[Y5]
 rw[if_pos (by rw[h.op];exact h0)]
theorem lv_one {X:Nat→PR Exp} {lv F:Nat} {e r:Exp} {i j k:Nat} (hX:X i = .ok e j) (hF:F≤ts.length+1) (h:Y5 ts X lv F e j = .ok r k):lvP ts X lv i = .ok r k:=by
 unfold lvP
 rw[hX]
 exact row_mono hF h
theorem XL_down {f L M i j:Nat} {e:Exp} {R:List Key} (hL:1≤L) (hM:M≤4) (hLM:L≤M) (hR:Sf ts j R) (h0:NoOp R L) (h:XL ts f M i = .ok e j):XL ts f L i = .ok e j:=by
 obtain ⟨d,rfl⟩:∃d,M=L+d:=⟨M-L,by omega⟩
 induction d generalizing L with
 | zero=>exact h
 | succ d ih=>
  have h2:=ih (L:=L+1) (by omega) (h0.mono (by omega)) (by omega) (by omega) (by rw[show L+1+d=L+(d+1) by omega];exact h)
  rw[XL_lv f hL (by omega)]
  exact lv_one (F:=1) h2 (by omega) (row_stop hR (h0 L (by omega) (by omega)))
structure RdA (e:Exp):Prop where
 atom:lvE e=4→∀(ts:List Tok) (f i:Nat) (R:List Key),Sf ts i (kE e++R)→2 * (kE e).length + 1≤f→pA ts f i = .ok e (i+(kE e).length)
 one:lvE e=1→∀(ts:List Tok) (f i:Nat) (R:List Key),Sf ts i (kE e++R)→2 * (kE e).length + 1≤f→NoOp R 1→XL ts f 1 i = .ok e (i+(kE e).length)
 own:∀(lv:Nat),2≤lv→lv≤3→lvE e=lv→∀(ts:List Tok) (f i:Nat) (R:List Key),Sf ts i (kE e++R)→2 * (kE e).length + 1≤f→NoOp R (lv+1) →
  ∀F r j,F+(kE e).length ≤ ts.length+1→Y5 ts (XL ts f (lv+1)) lv F e (i+(kE e).length) = .ok r j→XL ts f lv i = .ok r j
structure RdE (e:Exp):Prop extends RdA e where
 expr:∀(ts:List Tok) (f i:Nat) (R:List Key),Sf ts i (kE e++R)→2 * (kE e).length + 2≤f→NoOp R 1→pE ts f i = .ok e (i+(kE e).length)
theorem RdA.at {e:Exp} (h:RdA e) {L:Nat} (h1:1≤L) (h2:L≤lvE e) (h4:lvE e≤4) {f i:Nat} {R:List Key} (hs:Sf ts i (kE e++R)) (hf:2 * (kE e).length + 1≤f) (hR:NoOp R L):XL ts f L i = .ok e (i+(kE e).length):=by
 refine XL_down h1 h4 h2 hs.app hR ?_
 by_cases e1:lvE e=1
 ·rw[e1]
  exact h.one e1 ts f i R hs hf (by rw[show L=1 by omega] at hR;exact hR)
 rcases Nat.lt_or_ge (lvE e) 4 with h3|h3
 ·refine h.own (lvE e) (by omega) (by omega) rfl ts f i R hs hf (hR.mono (by omega)) 1 e _ ?_ (row_stop hs.app (hR _ h2 (by omega)))
  have:=hs.len
  simp at this
  omega
 ·have e4:lvE e=4:=by omega
  rw[e4,XL_4]
  exact h.atom e4 ts f i R hs hf
theorem lvE_le (e:Exp):lvE e≤4:=by
 unfold lvE ZB
 repeat' split
 all_goals omega
theorem keys_opnd (L:Nat) (e:Exp):Zl (YP L (lvE e,itE e))=if lvE e<L then (3,0,wLP)::(kE e++[(3,0,wRP)]) else kE e:=by
 unfold YP
 dsimp only
 split
 ·simp only[YY,X5,X4];rfl
 ·rfl
theorem atom_par {e:Exp} (h:RdE e) {f i:Nat} {R:List Key} (hs:Sf ts i ((3,0,wLP)::(kE e++[(3,0,wRP)])++R)) (hf:2 * ((kE e).length + 2)+1≤f):pA ts f i = .ok e (i+((kE e).length + 2)):=by
 obtain ⟨f,rfl⟩:∃g,f=g+1:=⟨f-1,by omega⟩
 rw[show (3,0,wLP)::(kE e++[(3,0,wRP)])++R=((3,0,wLP):Key)::(kE e++((3,0,wRP)::R)) by simp] at hs
 obtain ⟨h1,h2,h3⟩:=hs.cons
 have hk:(ts.getD i Y9).kind = 3:=by simp only[keyT,Prod.mk.injEq] at h2;exact h2.1
 have hE:=h.expr ts f (i+1) _ h3 (by omega) (by intro l a b;rcases show l=1∨l=2∨l=3 by omega with rfl|rfl|rfl<;>(show opKy _ _ = 0;decide))
 have h5:=h3.app
 have hT:=h5.take (w:=wRP) (by decide)
 show Zc ts (pE ts f) (pA ts f) i = _
 unfold Zc
 simp only[hs.isW,hk,hE]
 rw[if_neg (not_not_intro h1),if_neg (by decide),if_neg (by decide),if_neg (by decide),if_neg (by decide),if_neg (by decide),if_neg (by decide),if_neg (by decide),if_neg (by decide),if_pos (by decide)]
 simp only[PR.bind,hT]
 congr 1
 omega
theorem opnd_at {e:Exp} (h:RdE e) {L:Nat} (h1:1≤L) (hL:L≤4) {f i:Nat} {R:List Key} (hs:Sf ts i (Zl (YP L (lvE e,itE e))++R)) (hf:2 * (Zl (YP L (lvE e,itE e))).length + 1≤f) (hR:NoOp R L) :
 XL ts f L i = .ok e (i+(Zl (YP L (lvE e,itE e))).length):=by
 have ha:=hs.app
 rw[keys_opnd] at hs hf ha ⊢
 by_cases hl:lvE e<L
 ·rw[if_pos hl] at hs hf ha ⊢
  simp only[List.length_cons,List.length_append,List.length_nil] at hf ha ⊢
  exact XL_down h1 (by omega) hL ha hR (by rw[XL_4];exact atom_par h hs (by omega))
 ·rw[if_neg hl] at hs hf ⊢
  exact h.toRdA.at h1 (by omega) (lvE_le e) hs hf hR
theorem opnd_own {e:Exp} (h:RdE e) {lv:Nat} (h1:2≤lv) (h3:lv≤3) {f i:Nat} {R:List Key} (hs:Sf ts i (Zl (YP lv (lvE e,itE e))++R)) (hf:2 * (Zl (YP lv (lvE e,itE e))).length + 1≤f) (hR:NoOp R (lv+1))
 {F j:Nat} {r:Exp} (hF:F+(Zl (YP lv (lvE e,itE e))).length ≤ ts.length+1) (hr:Y5 ts (XL ts f (lv+1)) lv F e (i+(Zl (YP lv (lvE e,itE e))).length) = .ok r j):XL ts f lv i = .ok r j:=by
 by_cases hl:lvE e=lv
 ·have e0:Zl (YP lv (lvE e,itE e))=kE e:=by rw[keys_opnd,if_neg (by omega)]
  rw[e0] at hs hf hF hr
  exact h.own lv h1 h3 hl ts f i R hs hf hR F r j hF hr
 ·have e0:Zl (YP lv (lvE e,itE e))=Zl (YP (lv+1) (lvE e,itE e)):=by
   rw[keys_opnd,keys_opnd]
   by_cases h2:lvE e<lv
   ·rw[if_pos h2,if_pos (by omega)]
   ·rw[if_neg h2,if_neg (by omega)]
  rw[e0] at hs hf hF hr
  have:=opnd_at h (by omega) (by omega) hs hf hR
  rw[XL_lv f (by omega) h3]
  exact lv_one this (by omega) hr
end Go.Gh
namespace Go.Gh
open Lib
variable {ts:List Tok}
theorem Sf.kind {i:Nat} {x:Key} {R:List Key} (h:Sf ts i (x::R)):(ts.getD i Y9).kind = x.1:=by rw[←h.cons.2.1];rfl
theorem Sf.numv {i:Nat} {x:Key} {R:List Key} (h:Sf ts i (x::R)):(ts.getD i Y9).num = x.2.1:=by rw[←h.cons.2.1];rfl
theorem Sf.text {i:Nat} {x:Key} {R:List Key} (h:Sf ts i (x::R)):(ts.getD i Y9).text = x.2.2:=by rw[←h.cons.2.1];rfl
theorem nameV_ne {s w:ByteArray} (h:YV s=true) (hw:YV w=false):s≠w:=by
 rintro rfl
 rw[h] at hw
 cases hw
theorem isK_name {s w:ByteArray} (h:YV s=true) (hw:YV w=false):isK (1,0,s) w=false:=by
 simp[isK,nameV_ne h hw]
theorem funO_name {s:ByteArray} (h:YV s=true):YI s=0:=by
 unfold YI
 rw[if_neg (nameV_ne h (by decide)),if_neg (nameV_ne h (by decide)),if_neg (nameV_ne h (by decide)),if_neg (nameV_ne h (by decide))]
theorem funO_opK:∀n∈[(1:Int),2,3,4,5,6,7,8,9,10,11,12],ZB n=4→(opK n).1 = 1∧YI (opK n).2.2 = n∧n≠0∧(∀w∈[wLB,wTrue,Yl,wLit,wNone,wDol,wSelf,wLP,wIf],isK (opK n) w=false):=by decide
theorem setL_fold':∀a,a<64→∀b,b<64→(YS ((64 * a+b:Nat):Int)).foldl (fun s k=>orI .i64 s (shlI .i64 1 (k:Nat))) 0=((64 * a+b:Nat):Int):=by decide +kernel
theorem setL_fold {n:Int} (h0:0≤n) (h:n≤4095):(YS n).foldl (fun s k=>orI .i64 s (shlI .i64 1 (k:Nat))) 0=n:=by
 have:=setL_fold' (n.toNat / 64) (by omega) (n.toNat % 64) (by omega)
 rw[show ((64 * (n.toNat / 64)+n.toNat % 64:Nat):Int)=n by omega] at this
 exact this
theorem setL_lt (n:Int):(YS n).Pairwise (· < ·)∧∀k∈YS n,k≤11:=by
 constructor
 ·exact List.Pairwise.filter _ List.pairwise_lt_range
 ·intro k hk
  have:=(List.mem_filter.1 hk).1
  rw[List.mem_range] at this
  omega
theorem set_read:∀(ks:List Nat) (F i:Nat) (least set:Int) (R:List Key),ks.Pairwise (· < ·)→(∀k∈ks,least≤k∧k≤11)→Sf ts i (ks.map (fun k=>((2,((k:Nat):Int),noS):Key))++(3,0,wRB)::R)→ks.length<F →
 Y0 ts F i least set = .ok (ks.foldl (fun s k=>orI .i64 s (shlI .i64 1 (k:Nat))) set) (i+(ks.length+1))
 | [],F,i,least,set,R,hp,hb,hs,hF=>by
  obtain ⟨F,rfl⟩:∃G,F=G+1:=⟨F-1,by simp at hF;omega⟩
  simp only[Y0]
  rw[hs.sees,if_pos (by decide)]
  rfl
 | k::ks,F,i,least,set,R,hp,hb,hs,hF=>by
  obtain ⟨F,rfl⟩:∃G,F=G+1:=⟨F-1,by simp at hF;omega⟩
  simp only[Y0]
  have hk:=hb k (by simp)
  rw[List.map_cons,List.cons_append] at hs
  rw[hs.sees,if_neg (by simp[isK]),hs.num (lo:=least) (hi:=11) hk.1 (by omega)]
  simp only[PR.bind]
  rw[List.pairwise_cons] at hp
  rw[set_read ks F (i+1) _ _ R hp.2 (fun q hq=>⟨by have:=hp.1 q hq;omega,(hb q (by simp[hq])).2⟩) hs.cons.2.2 (by simp at hF;omega)]
  simp only[List.foldl_cons,List.length_cons]
  congr 1
  omega
theorem satV_le {n:Int} (h:satV n=n):n≤1000000:=by unfold satV at h;omega
theorem and4095 {n:Int} (h0:0≤n) (h:andI .i64 n 4095=n):n≤4095:=by
 have h1:(BitVec.ofInt 64 n &&& BitVec.ofInt 64 4095).toNat ≤ 4095:=by
  rw[BitVec.toNat_and]
  exact Nat.le_trans Nat.and_le_right (by decide)
 unfold andI at h
 change IntKind.i64.wrap (((BitVec.ofInt 64 n &&& BitVec.ofInt 64 4095).toNat : Nat):Int)=n at h
 generalize (BitVec.ofInt 64 n &&& BitVec.ofInt 64 4095).toNat = x at h h1
 simp only[IntKind.wrap,IntKind.bits,IntKind.signed] at h
 simp at h
 omega
theorem con_cases {n t:Int} (h1:okV n t=true) (h2:1≤t∧t≤3) (h3:0≤n):(t=1∧n≤1000000)∨(t=2∧n≤4095)∨(t=3∧(n=0∨n=1)):=by
 simp only[okV,Bool.and_eq_true,decide_eq_true_eq] at h1
 obtain ⟨_,h1⟩:=h1
 rcases show t=1∨t=2∨t=3 by omega with rfl|rfl|rfl
 ·left;refine ⟨rfl,satV_le ?_⟩
  simpa[coV] using h1
 ·right;left;refine ⟨rfl,and4095 h3 ?_⟩
  simpa[coV] using h1
 ·right;right;refine ⟨rfl,?_⟩
  simp only[coV] at h1
  simp only[show ¬(3:Int)=1 by decide,show ¬(3:Int)=2 by decide,if_false,if_true,trV] at h1
  split at h1<;>omega
structure NodeC (e:Exp):Prop where
 c:(∃n,0≤n∧n≤1000000∧e = .mk 1 n 0 1 noS noS [])∨(∃n,0≤n∧n≤4095∧e = .mk 1 n 0 2 noS noS [])∨(∃n,(n=0∨n=1)∧e = .mk 1 n 0 3 noS noS [])∨e = .mk 2 0 0 0 noS noS [] ∨
  (∃p m,0≤p∧p≤3∧YV m=true∧e = .mk 3 0 p 0 noS m [])∨(∃n a b,1≤n∧n≤12∧e = .mk 4 n 0 0 noS noS [a,b])∨(∃a b c,e = .mk 5 0 0 0 noS noS [a,b,c]) ∨
  (∃p,0≤p∧p≤3∧e = .mk 6 0 p 0 noS noS [])∨e = .mk 7 0 0 0 noS noS []∨(∃s m a,YV s=true∧YV m=true∧e = .mk 8 0 0 0 s m [a])
theorem node_c {e:Exp} (h:YG e=true):NodeC e:=by
 constructor
 simp only[YG,bareV,Bool.and_eq_true,Bool.or_eq_true,decide_eq_true_eq] at h
 obtain ⟨⟨h1,⟨⟨⟨⟨⟨h2,h3⟩,h4⟩,h5⟩,h6⟩,h7⟩⟩,h8⟩:=h
 rcases show e.kind=1∨e.kind=2∨e.kind=3∨e.kind=4∨e.kind=5∨e.kind=6∨e.kind=7∨e.kind=8 by omega with hk|hk|hk|hk|hk|hk|hk|hk
 all_goals simp[hk,arity] at h2 h3 h4 h5 h6 h7 h8
 ·rcases con_cases h8.1.2 h8.1.1 h8.2 with ⟨ht,h9⟩|⟨ht,h9⟩|⟨ht,h9⟩
  ·exact .inl ⟨e.n,h8.2,h9,Exp.ext_iff.2 ⟨hk,rfl,h3,ht,h7,h4,h2⟩⟩
  ·exact .inr (.inl ⟨e.n,h8.2,h9,Exp.ext_iff.2 ⟨hk,rfl,h3,ht,h7,h4,h2⟩⟩)
  ·exact .inr (.inr (.inl ⟨e.n,h9,Exp.ext_iff.2 ⟨hk,rfl,h3,ht,h7,h4,h2⟩⟩))
 ·exact .inr (.inr (.inr (.inl (Exp.ext_iff.2 ⟨hk,h5,h3,h6,h7,h4,h2⟩))))
 ·exact .inr (.inr (.inr (.inr (.inl ⟨e.pos,e.name,h8.1.1,h8.1.2,h8.2,Exp.ext_iff.2 ⟨hk,h5,rfl,h6,h7,rfl,h2⟩⟩))))
 ·obtain ⟨x,y,ha⟩:∃x y,e.args=[x,y]:=by
   match e.args,h2 with
   | [x,y],_ => exact ⟨x,y,rfl⟩
  exact .inr (.inr (.inr (.inr (.inr (.inl ⟨e.n,x,y,h8.1,h8.2,Exp.ext_iff.2 ⟨hk,rfl,h3,h6,h7,h4,ha⟩⟩)))))
 ·obtain ⟨x,y,z,ha⟩:∃x y z,e.args=[x,y,z]:=by
   match e.args,h2 with
   | [x,y,z],_ => exact ⟨x,y,z,rfl⟩
  exact .inr (.inr (.inr (.inr (.inr (.inr (.inl ⟨x,y,z,Exp.ext_iff.2 ⟨hk,h5,h3,h6,h7,h4,ha⟩⟩))))))
 ·exact .inr (.inr (.inr (.inr (.inr (.inr (.inr (.inl ⟨e.pos,h8.1,h8.2,Exp.ext_iff.2 ⟨hk,h5,rfl,h6,h7,h4,h2⟩⟩)))))))
 ·exact .inr (.inr (.inr (.inr (.inr (.inr (.inr (.inr (.inl (Exp.ext_iff.2 ⟨hk,h5,h3,h6,h7,h4,h2⟩)))))))))
 ·obtain ⟨x,ha⟩:∃x,e.args=[x]:=by
   match e.args,h2 with
   | [u],_ => exact ⟨u,rfl⟩
  exact .inr (.inr (.inr (.inr (.inr (.inr (.inr (.inr (.inr ⟨e.sym,e.name,x,h8.1,h8.2,Exp.ext_iff.2 ⟨hk,h5,h3,h6,rfl,rfl,ha⟩⟩))))))))
end Go.Gh
namespace Go.Gh
open Lib
variable {ts:List Tok}
def FstK (e:Exp):Prop:=lvE e≠0→∃x R,kE e=x::R∧isK x wIf=false
theorem rd_expr {e:Exp} (h:RdA e) (h0:lvE e≠0) (hf:FstK e):RdE e where
 toRdA:=h
 expr:=fun ts f i R hs hF hR=>by
  obtain ⟨f,rfl⟩:∃g,f=g+1:=⟨f-1,by omega⟩
  obtain ⟨x,R',hx,hi⟩:=hf h0
  have hs':=hs
  rw[hx,List.cons_append] at hs'
  have:=h.at (L:=1) (by omega) (by omega) (lvE_le e) hs (f:=f) (by omega) hR
  show YH ts (pE ts f) (pA ts f) i = _
  unfold YH
  rw[hs'.sees,if_neg (by rw[hi];decide)]
  exact this
theorem rd_atom {e : Exp} (h4 : lvE e = 4) (hf : FstK e) (ha : ∀ (ts : List Tok) (f i : Nat) (R : List Key), Sf ts i (kE e ++ R) → 2 * (kE e).length ≤ f → Zc ts (pE ts f) (pA ts f) i = .ok e (i + (kE e).length)) : RdE e :=
  rd_expr { atom := fun _ ts f i R hs hF => by
              obtain ⟨f, rfl⟩ : ∃ g, f = g + 1 := ⟨f - 1, by omega⟩
              exact ha ts f i R hs (by omega)
            one := fun h => by omega
            own := fun lv h1 h3 he => by omega } (by omega) hf
theorem rd_all:∀e:Exp,allE YG e=true→RdE e∧FstK e:=by
 refine Exp.indA fun e ih hv=> ?_
 obtain ⟨hn,hv⟩:=allE_args hv
 have ih':∀a∈e.args,RdE a∧FstK a:=fun a ha=>ih a ha (hv a ha)
 clear ih hv
 have mk:FstK e→(FstK e→RdE e)→RdE e∧FstK e:=fun h1 h2=>⟨h2 h1,h1⟩
 rcases (node_c hn).c with ⟨n,h1,h2,rfl⟩|⟨n,h1,h2,rfl⟩|⟨n,h1,rfl⟩|rfl|⟨p,m,h1,h2,h3,rfl⟩|⟨n,a,b,h1,h2,rfl⟩|⟨a,b,c,rfl⟩|⟨p,h1,h2,rfl⟩|rfl|⟨s,m,a,h1,h2,rfl⟩
 ·have e0:kE (.mk 1 n 0 1 noS noS [])=[(2,n,noS)]:=rfl
  refine mk (fun _ => ⟨_,_,e0,by simp[isK]⟩) fun hf=>rd_atom rfl hf fun ts f i R hs hF=> ?_
  rw[e0] at hs ⊢
  rw[List.singleton_append] at hs
  unfold Zc
  dsimp only
  rw[if_neg (not_not_intro hs.cons.1),hs.kind,if_pos rfl,hs.numv]
  rfl
 ·have e0:kE (.mk 1 n 0 2 noS noS [])=(3,0,wLB)::((YS n).map (fun k=>((2,((k:Nat):Int),noS):Key))++[(3,0,wRB)]):=by
   show Zl (setI n) = _
   have:=keys_join ((YS n).map (fun k=>((2,((k:Nat):Int),noS):Key)))
   rw[List.map_map] at this
   unfold setI
   rw[YY,X5,YY,X4]
   exact congrArg (fun l=> _ :: (l++[_])) this
  refine mk (fun _ => ⟨_,_,e0,by decide⟩) fun hf=>rd_atom rfl hf fun ts f i R hs hF=> ?_
  rw[e0] at hs ⊢
  have hl:=hs.len
  rw[List.cons_append,List.append_assoc,List.singleton_append] at hs
  simp only[List.length_append,List.length_cons,List.length_map,List.length_nil] at hl
  obtain ⟨q1,q2⟩:=setL_lt n
  have ZX:=set_read (YS n) (ts.length+1) (i+1) 0 0 R q1 (fun k hk=>⟨by omega,by have:=q2 k hk;omega⟩) hs.cons.2.2 (by omega)
  rw[setL_fold h1 h2] at ZX
  unfold Zc
  simp only[hs.isW,hs.kind]
  rw[if_neg (not_not_intro hs.cons.1),if_neg (by decide),if_pos (by decide),ZX]
  simp only[PR.bind,List.length_cons,List.length_append,List.length_map,List.length_nil,YE]
  congr 1
  omega
 ·have e0:kE (.mk 1 n 0 3 noS noS [])=[(1,0,if n=1 then wTrue else Yl)]:=rfl
  have hc:(if n=1 then wTrue else Yl)=wTrue∧n=1∨(if n=1 then wTrue else Yl)=Yl∧n=0:=by
   rcases h1 with rfl|rfl
   ·right;exact ⟨rfl,rfl⟩
   ·left;exact ⟨rfl,rfl⟩
  rcases hc with ⟨hc,rfl⟩|⟨hc,rfl⟩
  ·rw[hc] at e0
   refine mk (fun _ => ⟨_,_,e0,by decide⟩) fun hf=>rd_atom rfl hf fun ts f i R hs hF=> ?_
   rw[e0] at hs ⊢
   rw[List.singleton_append] at hs
   unfold Zc
   simp only[hs.isW,hs.kind]
   rw[if_neg (not_not_intro hs.cons.1),if_neg (by decide),if_neg (by decide),if_pos (by decide)]
   rfl
  ·rw[hc] at e0
   refine mk (fun _ => ⟨_,_,e0,by decide⟩) fun hf=>rd_atom rfl hf fun ts f i R hs hF=> ?_
   rw[e0] at hs ⊢
   rw[List.singleton_append] at hs
   unfold Zc
   simp only[hs.isW,hs.kind]
   rw[if_neg (not_not_intro hs.cons.1),if_neg (by decide),if_neg (by decide),if_neg (by decide),if_pos (by decide)]
   rfl
 ·have e0:kE (.mk 2 0 0 0 noS noS [])=[(1,0,wLit)]:=rfl
  refine mk (fun _ => ⟨_,_,e0,by decide⟩) fun hf=>rd_atom rfl hf fun ts f i R hs hF=> ?_
  rw[e0] at hs ⊢
  rw[List.singleton_append] at hs
  unfold Zc
  simp only[hs.isW,hs.kind]
  rw[if_neg (not_not_intro hs.cons.1),if_neg (by decide),if_neg (by decide),if_neg (by decide),if_neg (by decide),if_pos (by decide)]
  rfl
 ·have e0:kE (.mk 3 0 p 0 noS m [])=[(3,0,wDol),(2,p,noS),(3,0,Zb),(1,0,m)]:=rfl
  refine mk (fun _ => ⟨_,_,e0,by decide⟩) fun hf=>rd_atom rfl hf fun ts f i R hs hF=> ?_
  rw[e0] at hs ⊢
  simp only[List.cons_append,List.nil_append] at hs
  have s1:=hs.cons.2.2
  have s2:=s1.cons.2.2
  have s3:=s2.cons.2.2
  unfold Zc
  simp only[hs.isW,hs.kind]
  rw[if_neg (not_not_intro hs.cons.1),if_neg (by decide),if_neg (by decide),if_neg (by decide),if_neg (by decide),if_neg (by decide),if_neg (by decide),if_pos (by decide)]
  simp only[PR.bind,s1.num h1 h2,s2.take (w:=Zb) (by decide),s3.name h3]
  rfl
 ·have hop:=opKy_op n (mem12 h1 h2)
  have ha:=ih' a (by simp[Exp.args])
  have hb:=ih' b (by simp[Exp.args])
  by_cases h4:ZB n=4
  ·have e0:kE (.mk 4 n 0 0 noS noS [a,b])=opK n::(3,0,wLP)::(kE a++(3,0,Yy)::(kE b++[(3,0,wRP)])):=by
    show Zl (itN 4 n 0 0 noS noS [(lvE a,itE a),(lvE b,itE b)]) = _
    unfold itN
    rw[if_neg (by decide),if_neg (by decide),if_neg (by decide),if_neg (by decide),if_neg (by decide),if_neg (by decide),if_neg (by decide),if_pos h4]
    simp only[YY,Yn,X5,X4]
    rfl
   obtain ⟨k1,k2,k3,k4⟩:=funO_opK n (mem12 h1 h2) h4
   have hlv:lvE (.mk 4 n 0 0 noS noS [a,b])=4:=by
    show (if (4:Int)=5 then 0 else if (4:Int)=4 then ZB n else 4)=4
    rw[if_neg (by decide),if_pos rfl,h4]
   refine mk (fun _ => ⟨_,_,e0,k4 wIf (by simp)⟩) fun hf=>rd_atom hlv hf fun ts f i R hs hF=> ?_
   rw[e0] at hs hF ⊢
   simp only[List.cons_append,List.append_assoc,List.nil_append] at hs
   simp only[List.length_cons,List.length_append,List.length_nil] at hF
   have s1:=hs.cons.2.2
   have s2:=s1.cons.2.2
   have s3:=s2.app
   have s4:=s3.cons.2.2
   have s5:=s4.app
   have r1:=ha.1.expr ts f _ _ s2 (by omega) (by intro l a b;rcases show l=1∨l=2∨l=3 by omega with rfl|rfl|rfl<;>(show opKy _ _ = 0;decide))
   have r2:=hb.1.expr ts f _ _ s4 (by omega) (by intro l a b;rcases show l=1∨l=2∨l=3 by omega with rfl|rfl|rfl<;>(show opKy _ _ = 0;decide))
   unfold Zc
   simp only[hs.isW,hs.kind,hs.text,k1,k2]
   rw[if_neg (not_not_intro hs.cons.1),if_neg (by decide),if_neg (by rw[k4 wLB (by simp)];decide),if_neg (by rw[k4 wTrue (by simp)];decide),if_neg (by rw[k4 Yl (by simp)];decide),if_neg (by rw[k4 wLit (by simp)];decide),if_neg (by rw[k4 wNone (by simp)];decide),if_neg (by rw[k4 wDol (by simp)];decide),if_neg (by rw[k4 wSelf (by simp)];decide),if_neg (by rw[k4 wLP (by simp)];decide),if_pos (by simp[k3])]
   simp only[PR.bind,s1.take (w:=wLP) (by decide),r1,s3.take (w:=Yy) (by decide),r2,s5.take (w:=wRP) (by decide),List.length_cons,List.length_append,List.length_nil,opE]
   congr 1
   omega
  ·have hlv:lvE (.mk 4 n 0 0 noS noS [a,b])=ZB n:=by
    show (if (4:Int)=5 then 0 else if (4:Int)=4 then ZB n else 4) = _
    rw[if_neg (by decide),if_pos rfl]
   have hl13:1≤ZB n∧ZB n≤3:=by
    unfold ZB at h4 ⊢
    repeat' split at h4
    all_goals first|exact absurd rfl h4|simp[*]
   have e0:kE (.mk 4 n 0 0 noS noS [a,b])=Zl (YP (max (ZB n) 2) (lvE a,itE a))++opK n::Zl (YP (ZB n+1) (lvE b,itE b)):=by
    show Zl (itN 4 n 0 0 noS noS [(lvE a,itE a),(lvE b,itE b)]) = _
    unfold itN
    rw[if_neg (by decide),if_neg (by decide),if_neg (by decide),if_neg (by decide),if_neg (by decide),if_neg (by decide),if_neg (by decide),if_neg h4]
    simp only[YY,Yn,X5,X4]
    rfl
   have hfst:FstK (.mk 4 n 0 0 noS noS [a,b]):=fun _ => by
    rw[e0,keys_opnd]
    by_cases hl:lvE a<max (ZB n) 2
    ·rw[if_pos hl];exact ⟨_,_,rfl,by decide⟩
    ·rw[if_neg hl]
     obtain ⟨x,R,hx,hi⟩:=ha.2 (by omega)
     rw[hx]
     exact ⟨x,_,rfl,hi⟩
   have hop2:∀l,1≤l→l≤3→∀R,opR (opK n::R) l=if ZB n=l then n else 0:=fun l a b _ => hop l (mem3 a b)
   have hno:∀R,NoOp (opK n::R) (ZB n+1):=fun R l a b=>by rw[hop2 l (by omega) b,if_neg (by omega)]
   refine ⟨rd_expr { atom:=fun h=>by omega,one:=fun l1 ts f i R hs hF hR=> ?_,own:=fun lv l1 l3 hlv' ts f i R hs hF hR F r j hFl hr=> ?_ } (by omega) hfst,hfst⟩
   ·rw[hlv] at l1
    rw[e0] at hs hF ⊢
    rw[l1] at hno hop2
    rw[l1,show max 1 2=2 from rfl,show 1+1=2 from rfl] at hs hF ⊢
    rw[List.append_assoc] at hs
    simp only[List.length_append,List.length_cons] at hF ⊢
    have hs2:=hs.app
    have hs3:=hs2.cons.2.2
    have ha2:=opnd_at ha.1 (L:=2) (by omega) (by omega) (f:=f) hs (by omega) (hno _)
    have hb2:=opnd_at hb.1 (L:=2) (by omega) (by omega) (f:=f) hs3 (by omega) (hR.mono (by omega))
    have hat:opAt ts (i+(Zl (YP 2 (lvE a,itE a))).length) 1=n:=by
     rw[hs2.op 1]
     exact (hop2 1 (by omega) (by omega) _).trans (if_pos rfl)
    rw[XL_lv f (by omega) (by omega)]
    unfold lvP
    rw[ha2]
    simp only[PR.bind,Y5]
    rw[if_neg (by rw[hat];omega),hb2]
    simp only[PR.bind,if_true,hat,opE]
    congr 1
    omega
   ·rw[hlv] at hlv'
    subst hlv'
    have hmax:max (ZB n) 2=ZB n:=by omega
    rw[e0,hmax] at hs hF hFl hr
    rw[List.append_assoc] at hs
    simp only[List.length_append,List.length_cons] at hF hFl hr
    have hs2:=hs.app
    have hs3:=hs2.cons.2.2
    have hb2:=opnd_at hb.1 (L:=ZB n+1) (by omega) (by omega) (f:=f) hs3 (by omega) hR
    have hat:opAt ts (i+(Zl (YP (ZB n) (lvE a,itE a))).length) (ZB n)=n:=by
     rw[hs2.op (ZB n)]
     exact (hop2 (ZB n) (by omega) l3 _).trans (if_pos rfl)
    have hstep:Y5 ts (XL ts f (ZB n+1)) (ZB n) (F+1) a (i+(Zl (YP (ZB n) (lvE a,itE a))).length) = .ok r j:=by
     simp only[Y5]
     rw[if_neg (by rw[hat];omega),hb2,hat]
     simp only[PR.bind]
     rw[if_neg (by omega)]
     have e9:i+(Zl (YP (ZB n) (lvE a,itE a))).length + 1+(Zl (YP (ZB n+1) (lvE b,itE b))).length = i+((Zl (YP (ZB n) (lvE a,itE a))).length + ((Zl (YP (ZB n+1) (lvE b,itE b))).length + 1)):=by omega
     rw[e9]
     exact hr
    exact opnd_own ha.1 l1 l3 hs (by omega) (hno _) (by omega) hstep
 ·have ha:=(ih' a (by simp[Exp.args])).1
  have hb:=(ih' b (by simp[Exp.args])).1
  have hc:=(ih' c (by simp[Exp.args])).1
  have e0:kE (.mk 5 0 0 0 noS noS [a,b,c])=(1,0,wIf)::(kE a++(1,0,wThen)::(kE b++(1,0,wElse)::kE c)):=by
   show Zl (itN 5 0 0 0 noS noS [(lvE a,itE a),(lvE b,itE b),(lvE c,itE c)]) = _
   unfold itN
   rw[if_neg (by decide),if_neg (by decide),if_neg (by decide),if_pos rfl]
   simp only[YY,Yn,X5,X4]
   rfl
  have hlv:lvE (.mk 5 0 0 0 noS noS [a,b,c])=0:=rfl
  refine ⟨{ atom:=fun h=>by omega,one:=fun h=>by omega,own:=fun lv l1 l3 h=>by omega,expr:=fun ts f i R hs hF hR=> ?_ },fun h=>by omega⟩
  obtain ⟨f,rfl⟩:∃g,f=g+1:=⟨f-1,by omega⟩
  rw[e0] at hs hF ⊢
  simp only[List.cons_append,List.append_assoc] at hs
  simp only[List.length_cons,List.length_append] at hF
  have s1:=hs.cons.2.2
  have s2:=s1.app
  have s3:=s2.cons.2.2
  have s4:=s3.app
  have s5:=s4.cons.2.2
  have r1:=ha.expr ts f _ _ s1 (by omega) (by intro l a b;rcases show l=1∨l=2∨l=3 by omega with rfl|rfl|rfl<;>(show opKy _ _ = 0;decide))
  have r2:=hb.expr ts f _ _ s3 (by omega) (by intro l a b;rcases show l=1∨l=2∨l=3 by omega with rfl|rfl|rfl<;>(show opKy _ _ = 0;decide))
  have r3:=hc.expr ts f _ _ s5 (by omega) hR
  show YH ts (pE ts f) (pA ts f) i = _
  unfold YH
  rw[hs.sees,if_pos (by decide)]
  simp only[PR.bind,r1,s2.take (w:=wThen) (by decide),r2,s4.take (w:=wElse) (by decide),r3,List.length_cons,List.length_append]
  congr 1
  omega
 ·have e0:kE (.mk 6 0 p 0 noS noS [])=[(1,0,wSelf),(3,0,wLP),(2,p,noS),(3,0,wRP)]:=rfl
  refine mk (fun _ => ⟨_,_,e0,by decide⟩) fun hf=>rd_atom rfl hf fun ts f i R hs hF=> ?_
  rw[e0] at hs ⊢
  simp only[List.cons_append,List.nil_append] at hs
  have s1:=hs.cons.2.2
  have s2:=s1.cons.2.2
  have s3:=s2.cons.2.2
  unfold Zc
  simp only[hs.isW,hs.kind]
  rw[if_neg (not_not_intro hs.cons.1),if_neg (by decide),if_neg (by decide),if_neg (by decide),if_neg (by decide),if_neg (by decide),if_neg (by decide),if_neg (by decide),if_pos (by decide)]
  simp only[PR.bind,s1.take (w:=wLP) (by decide),s2.num h1 h2,s3.take (w:=wRP) (by decide)]
  rfl
 ·have e0:kE (.mk 7 0 0 0 noS noS [])=[(1,0,wNone)]:=rfl
  refine mk (fun _ => ⟨_,_,e0,by decide⟩) fun hf=>rd_atom rfl hf fun ts f i R hs hF=> ?_
  rw[e0] at hs ⊢
  rw[List.singleton_append] at hs
  unfold Zc
  simp only[hs.isW,hs.kind]
  rw[if_neg (not_not_intro hs.cons.1),if_neg (by decide),if_neg (by decide),if_neg (by decide),if_neg (by decide),if_neg (by decide),if_pos (by decide)]
  rfl
 ·have ha:=ih' a (by simp[Exp.args])
  have e0:kE (.mk 8 0 0 0 s m [a])=(1,0,s)::(3,0,Zb)::(1,0,m)::(1,0,wOf)::Zl (YP 4 (lvE a,itE a)):=by
   show Zl (itN 8 0 0 0 s m [(lvE a,itE a)]) = _
   unfold itN
   rw[if_neg (by decide),if_neg (by decide),if_neg (by decide),if_neg (by decide),if_neg (by decide),if_neg (by decide),if_pos rfl]
   simp only[YY,Yn,X5,X4]
   rfl
  refine mk (fun _ => ⟨_,_,e0,isK_name h1 (by decide)⟩) fun hf=>rd_atom rfl hf fun ts f i R hs hF=> ?_
  rw[e0] at hs hF ⊢
  simp only[List.cons_append] at hs
  simp only[List.length_cons] at hF
  have s1:=hs.cons.2.2
  have s2:=s1.cons.2.2
  have s3:=s2.cons.2.2
  have s4:=s3.cons.2.2
  have r1:=opnd_at ha.1 (L:=4) (by omega) (by omega) (f:=f) s4 (by omega) (NoOp.four _)
  rw[XL_4] at r1
  have n1:∀w,YV w=false→¬isK (1,0,s) w=true:=fun w hw=>by rw[isK_name h1 hw];decide
  unfold Zc
  simp only[hs.isW,hs.kind,hs.text]
  rw[if_neg (not_not_intro hs.cons.1),if_neg (by decide),if_neg (n1 _ (by decide)),if_neg (n1 _ (by decide)),if_neg (n1 _ (by decide)),if_neg (n1 _ (by decide)),if_neg (n1 _ (by decide)),if_neg (n1 _ (by decide)),if_neg (n1 _ (by decide)),if_neg (n1 _ (by decide)),if_neg (fun h=>h.2 (funO_name h1))]
  simp only[PR.bind,hs.name h1,s1.take (w:=Zb) (by decide),s2.name h2,s3.take (w:=wOf) (by decide),r1,List.length_cons]
  congr 1
  omega
end Go.Gh
namespace Go.Gh
open Lib
theorem nameV_good {m:ByteArray} (h:YV m=true):Ye (wd m):=by
 simp only[YV,Bool.and_eq_true,decide_eq_true_eq] at h
 exact .inl ⟨rfl,rfl,h.1.1,h.1.2⟩
theorem X1 {c:UInt8} (h:c∈symC):Ye (sy c):= .inr (.inr ⟨rfl,rfl,.inl ⟨c,h,rfl⟩⟩)
theorem nb_good {n:Int} (h0:0≤n) (h1:n≤1000000):Ye (nb n):= .inr (.inl ⟨rfl,rfl,h0,h1⟩)
theorem wd_good {w:ByteArray} (h:shp (Z8 w)=true) (h2:(Z8 w).length ≤ 8):Ye (wd w):= .inl ⟨rfl,rfl,h,h2⟩
structure GdI (l:List It):Prop where
 good:∀x∈l,Ye x
 sep:sepI l=true
theorem GdI.nil:GdI []:=⟨by simp,rfl⟩
theorem GdI.one {x:It} (h:Ye x):GdI [x]:=⟨by simpa using h,rfl⟩
theorem GdI.mid {a r:List It} {x:It} (ha:GdI a) (hx:alnI x=false) (hg:Ye x) (hr:GdI r):GdI (a++x::r):=
 ⟨fun y hy=>by
  rcases List.mem_append.1 hy with h|h
  ·exact ha.good y h
  ·rcases List.mem_cons.1 h with rfl|h
   ·exact hg
   ·exact hr.good y h,
  by rw[sep_mid hx,ha.sep,sep_cons hx,hr.sep];rfl⟩
theorem GdI.cons {r:List It} {x:It} (hx:alnI x=false) (hg:Ye x) (hr:GdI r):GdI (x::r):=GdI.nil.mid hx hg hr
theorem GdI.hd {r:List It} {x y:It} (hg:Ye x) (hy:alnI y=false) (hg2:Ye y) (hr:GdI r):GdI (x::y::r):=(GdI.one hg).mid hy hg2 hr
theorem gd_join:∀l:List It,(∀x∈l,Ye x)→GdI (joinI l)
 | [],_ => .nil
 | [x],h=> .one (h x (by simp))
 | x::y::l,h=>by
  have:=gd_join (y::l) (fun z hz=>h z (by simp[hz]))
  exact .hd (h x (by simp)) rfl trivial this
theorem gd_set (n:Int):GdI (setI n):=by
 refine .cons rfl (X1 (by decide)) (.mid (gd_join _ fun x hx=> ?_) rfl (X1 (by decide)) .nil)
 rw[List.mem_map] at hx
 obtain ⟨k,hk,rfl⟩:=hx
 have:=(setL_lt n).2 k hk
 exact nb_good (by omega) (by omega)
theorem opK_good:∀n∈[(1:Int),2,3,4,5,6,7,8,9,10,11,12],(alnK (opK n)=true∧ZB n=4∧(opK n).1 = 1∧(opK n).2.1 = 0∧shp (Z8 (opK n).2.2)=true∧(Z8 (opK n).2.2).length ≤ 8)∨(alnK (opK n)=false∧(opK n).1 = 3∧(opK n).2.1 = 0∧(((Z8 (opK n).2.2).all (· ∈ symC)=true∧(Z8 (opK n).2.2).length = 1)∨(opK n).2.2 = ⟨#[61,61]⟩)):=by decide
theorem gd_opnd {l:List It} {L k:Nat} (h:GdI l):GdI (YP L (k,l)):=by
 unfold YP
 dsimp only
 split
 ·exact .cons rfl (X1 (by decide)) (h.mid rfl (X1 (by decide)) .nil)
 ·exact h
theorem one_chr {w:ByteArray} (h:(Z8 w).all (· ∈ symC)=true) (h1:(Z8 w).length = 1):∃c∈symC,w=⟨#[c]⟩:=by
 obtain ⟨⟨l⟩⟩:=w
 match l,h1 with
 | [c],_ => exact ⟨c,by simpa[Z8] using h,rfl⟩
theorem gd_all:∀e:Exp,allE YG e=true→GdI (itE e):=by
 refine Exp.indA fun e ih hv=> ?_
 obtain ⟨hn,hv⟩:=allE_args hv
 have ih':∀a∈e.args,GdI (itE a):=fun a ha=>ih a ha (hv a ha)
 clear ih hv
 rcases (node_c hn).c with ⟨n,h1,h2,rfl⟩|⟨n,h1,h2,rfl⟩|⟨n,h1,rfl⟩|rfl|⟨p,m,h1,h2,h3,rfl⟩|⟨n,a,b,h1,h2,rfl⟩|⟨a,b,c,rfl⟩|⟨p,h1,h2,rfl⟩|rfl|⟨s,m,a,h1,h2,rfl⟩
 ·exact .one (nb_good h1 h2)
 ·exact gd_set n
 ·show GdI [wd (if n=1 then wTrue else Yl)]
  split
  ·exact .one (wd_good (by decide) (by decide))
  ·exact .one (wd_good (by decide) (by decide))
 ·exact .one (wd_good (by decide) (by decide))
 ·exact .cons rfl (X1 (by decide)) (.hd (nb_good h1 (by omega)) rfl (X1 (by decide)) (.one (nameV_good h3)))
 ·have ha:=ih' a (by simp[Exp.args])
  have hb:=ih' b (by simp[Exp.args])
  show GdI (itN 4 n 0 0 noS noS [(lvE a,itE a),(lvE b,itE b)])
  unfold itN
  rw[if_neg (by decide),if_neg (by decide),if_neg (by decide),if_neg (by decide),if_neg (by decide),if_neg (by decide),if_neg (by decide)]
  have hg:Ye (some (opK n))∧(ZB n≠4→alnI (some (opK n))=false):=by
   rcases opK_good n (mem12 h1 h2) with ⟨k1,k2,k3,k4,k5,k6⟩|⟨k1,k2,k3,k4|k4⟩
   ·exact ⟨.inl ⟨k3,k4,k5,k6⟩,fun h=>absurd k2 h⟩
   ·exact ⟨.inr (.inr ⟨k2,k3,.inl (one_chr k4.1 k4.2)⟩),fun _ => k1⟩
   ·exact ⟨.inr (.inr ⟨k2,k3,.inr k4⟩),fun _ => k1⟩
  split
  ·refine .hd hg.1 rfl (X1 (by decide)) (ha.mid rfl (X1 (by decide)) (.cons rfl trivial (hb.mid rfl (X1 (by decide)) .nil)))
  ·rename_i h4
   exact (gd_opnd ha).mid rfl trivial (.cons (hg.2 h4) hg.1 (.cons rfl trivial (gd_opnd hb)))
 ·have ha:=ih' a (by simp[Exp.args])
  have hb:=ih' b (by simp[Exp.args])
  have hc:=ih' c (by simp[Exp.args])
  exact .hd (wd_good (by decide) (by decide)) rfl trivial (ha.mid rfl trivial (.hd (wd_good (by decide) (by decide)) rfl trivial (hb.mid rfl trivial (.hd (wd_good (by decide) (by decide)) rfl trivial hc))))
 ·exact .hd (wd_good (by decide) (by decide)) rfl (X1 (by decide)) (.hd (nb_good h1 (by omega)) rfl (X1 (by decide)) .nil)
 ·exact .one (wd_good (by decide) (by decide))
 ·have ha:=ih' a (by simp[Exp.args])
  exact .hd (nameV_good h1) rfl (X1 (by decide)) (.hd (nameV_good h2) rfl trivial (.hd (wd_good (by decide) (by decide)) rfl trivial (gd_opnd ha)))
def ZO (e:Exp):List UInt8:=Zd (itE e)
theorem kE_ne {e:Exp} (h:allE YG e=true):kE e≠[]:=by
 intro h0
 obtain ⟨h1,h2⟩:=rd_all e h
 by_cases hl:lvE e=0
 ·have:=h1.expr [] 2 0 [] (by rw[h0];rfl) (by rw[h0];simp) (by intro l _ _;rfl)
  rw[show pE [] 2 0 = .bad 0 from rfl] at this
  cases this
 ·obtain ⟨x,R,e,_⟩:=h2 hl
  rw[e] at h0
  cases h0
theorem parsed_law {e:Exp} (h:YZ e=true):((ZA (ZO e)).1 ≠ []∧Zj (ZO e)=(e, -1))∨((ZA (ZO e)).1 = []∧0≤(Zj (ZO e)).2):=by
 have hv:allE YG e=true:=by simp only[YZ,Bool.and_eq_true] at h;exact h.2
 have hg:=gd_all e hv
 rcases tokz_its hg.good hg.sep with ⟨h1,h2,h3⟩|⟨h1,h2,h3⟩
 ·left
  have hk:(Ym 0 (itE e)).map keyT=kE e:=toksAt_keys 0 (itE e)
  have hlen:(Ym 0 (itE e)).length = (kE e).length := by rw[←hk,List.length_map]
  have hr:=(rd_all e hv).1.expr (Ym 0 (itE e)) (2 * (Ym 0 (itE e)).length + 4) 0 [] (by unfold Sf;rw[hk];simp) (by omega) (by intro l _ _;rfl)
  have e3:ZA (ZO e)=(Ym 0 (itE e), -1):=h3
  constructor
  ·rw[e3]
   intro h0
   dsimp only at h0
   rw[h0] at hlen
   exact kE_ne hv (List.length_eq_zero_iff.1 hlen.symm)
  ·unfold Zj
   rw[e3]
   dsimp only
   rw[if_neg (by decide)]
   unfold parT
   dsimp only
   rw[hr]
   dsimp only
   rw[if_neg (by omega),if_pos h]
 ·right
  refine ⟨h2,?_⟩
  unfold Zj ZO
  rw[if_pos (by omega)]
  exact h3
end Go.Gh
namespace Go.Gh
open Lib
variable {ts:List Tok}
theorem ZZ {α β:Type} {P:PR α} {f:α→Nat→PR β} {b:β} {k:Nat} (h:P.bind f = .ok b k):∃a j,P = .ok a j∧f a j = .ok b k:=by
 cases P with
 | bad i=>cases h
 | ok a j=>exact ⟨a,j,rfl,h⟩
theorem Y3 {i j:Nat} {w:ByteArray} {a:Unit} (h:ZW ts i w = .ok a j):j=i+1:=by
 unfold ZW at h
 split at h
 ·cases h;rfl
 ·cases h
theorem num_nx {i j:Nat} {lo hi n:Int} (h:Zs ts i lo hi = .ok n j):j=i+1∧lo≤n∧n≤hi:=by
 unfold Zs at h
 split at h
 ·rename_i hc;cases h;exact ⟨rfl,hc.2.2⟩
 ·cases h
theorem name_nx {i j:Nat} {s:ByteArray} (h:ZP ts i = .ok s j):j=i+1:=by
 unfold ZP at h
 split at h
 ·cases h;rfl
 ·cases h
def nk (L:Nat) (e:Exp):Nat:=(Zl (YP L (lvE e,itE e))).length
theorem nk_eq (L:Nat) (e:Exp):nk L e=(kE e).length + if lvE e<L then 2 else 0:=by
 unfold nk
 rw[keys_opnd]
 split
 ·simp
 ·simp
theorem nk_mono {L M:Nat} (h:L≤M) (e:Exp):nk L e≤nk M e:=by
 rw[nk_eq,nk_eq]
 split
 ·rw[if_pos (by omega)];exact Nat.le_refl _
 ·omega
theorem nk_zero (e:Exp):nk 0 e=(kE e).length := by rw[nk_eq,if_neg (by omega)];rfl
theorem nk_self {L:Nat} {e:Exp} (h:L≤lvE e):nk L e=(kE e).length := by rw[nk_eq,if_neg (by omega)];rfl
theorem kE_op {n:Int} {a b:Exp} (h:ZB n≠4):(kE (opE n a b)).length = nk (max (ZB n) 2) a+(nk (ZB n+1) b+1):=by
 show (Zl (itN 4 n 0 0 noS noS [(lvE a,itE a),(lvE b,itE b)])).length = _
 unfold itN
 rw[if_neg (by decide),if_neg (by decide),if_neg (by decide),if_neg (by decide),if_neg (by decide),if_neg (by decide),if_neg (by decide),if_neg h]
 simp only[YY,Yn,X5,X4,List.length_append,List.length_cons]
 rfl
theorem kE_fn {n:Int} {a b:Exp} (h:ZB n=4):(kE (opE n a b)).length = (kE a).length + (kE b).length + 4:=by
 show (Zl (itN 4 n 0 0 noS noS [(lvE a,itE a),(lvE b,itE b)])).length = _
 unfold itN
 rw[if_neg (by decide),if_neg (by decide),if_neg (by decide),if_neg (by decide),if_neg (by decide),if_neg (by decide),if_neg (by decide),if_pos h]
 simp only[YY,Yn,X5,X4,List.length_append,List.length_cons,List.length_nil]
 show (kE a).length + ((kE b).length + 1+1)+1+1 = _
 omega
theorem lvE_op (n:Int) (a b:Exp):lvE (opE n a b)=ZB n:=by
 show (if (4:Int)=5 then 0 else if (4:Int)=4 then ZB n else 4) = _
 rw[if_neg (by decide),if_pos rfl]
theorem opAt_lv {i lv:Nat} (h:opAt ts i lv≠0):ZB (opAt ts i lv)=lv:=by
 unfold opAt at *
 repeat' split
 all_goals first|(subst_vars;decide)|skip
 all_goals simp_all
theorem toNat_ofInt {a:Int} (h0:0≤a) (h:a<18446744073709551616):(BitVec.ofInt 64 a).toNat = a.toNat:=by
 rw[BitVec.toNat_ofInt]
 omega
theorem shl_pow {n:Int} (h0:0≤n) (h:n≤11):shlI .i64 1 n=((2 ^ n.toNat:Nat):Int)∧2 ^ n.toNat≤2048:=by
 have:∀k,k<12→shlI .i64 1 ((k:Nat):Int)=((2 ^ k:Nat):Int)∧2 ^ k≤2048:=by decide
 have:=this n.toNat (by omega)
 rw[show ((n.toNat:Nat):Int)=n by omega] at this
 exact this
theorem or_nat {a b:Nat} (ha:a<4096) (hb:b<4096):orI .i64 (a:Int) (b:Int)=((a ||| b:Nat):Int)∧a ||| b<4096:=by
 have hlt:a ||| b<4096:=Nat.or_lt_two_pow (n:=12) ha hb
 refine ⟨?_,hlt⟩
 unfold orI
 change IntKind.i64.wrap (((BitVec.ofInt 64 a ||| BitVec.ofInt 64 b).toNat : Nat):Int) = _
 rw[BitVec.toNat_or,toNat_ofInt (by omega) (by omega),toNat_ofInt (by omega) (by omega),Int.toNat_natCast,Int.toNat_natCast]
 simp only[IntKind.wrap,IntKind.bits,IntKind.signed]
 simp
 omega
theorem filter_or {p q:Nat→Bool}:∀l:List Nat,(l.filter fun k=>p k||q k).length ≤ (l.filter p).length + (l.filter q).length
 | []=>by simp
 | k::l=>by
  have:=filter_or (p:=p) (q:=q) l
  simp only[List.filter_cons]
  cases p k<;>cases q k<;>simp<;>omega
theorem filter_eq_one (n m:Nat):((List.range m).filter fun k=>decide (n=k)).length ≤ 1:=by
 induction m with
 | zero=>simp
 | succ m ih=>
  rw[List.range_succ,List.filter_append,List.length_append]
  by_cases h:n=m
  ·have:(List.range m).filter (fun k=>decide (n=k))=[]:=by
    rw[List.filter_eq_nil_iff]
    intro a ha
    rw[List.mem_range] at ha
    simp
    omega
   rw[this]
   simp[h]
  ·simp[h]
   exact ih
theorem set_len {a:Int} {n:Int} (h0:0≤a) (h:a≤4095) (n0:0≤n) (n1:n≤11):0≤orI .i64 a (shlI .i64 1 n)∧orI .i64 a (shlI .i64 1 n)≤4095∧(YS (orI .i64 a (shlI .i64 1 n))).length ≤ (YS a).length + 1:=by
 obtain ⟨e1,e2⟩:=shl_pow n0 n1
 obtain ⟨e3,e4⟩:=or_nat (a:=a.toNat) (b:=2 ^ n.toNat) (by omega) (by omega)
 rw[show ((a.toNat:Nat):Int)=a by omega] at e3
 rw[e1,e3]
 refine ⟨by omega,by omega,?_⟩
 unfold YS
 have e5:(fun k=>(((a.toNat ||| 2 ^ n.toNat:Nat):Int).toNat).testBit k)=fun k=>a.toNat.testBit k||decide (n.toNat=k):=by
  funext k
  rw[Int.toNat_natCast,Nat.testBit_or,Nat.testBit_two_pow]
 rw[e5]
 have h1:=filter_or (p:=fun k=>a.toNat.testBit k) (q:=fun k=>decide (n.toNat=k)) (List.range 12)
 have h2:=filter_eq_one n.toNat 12
 omega
theorem set_cnt:∀(F i:Nat) (least set s:Int) (j:Nat),0≤least→0≤set→set≤4095→Y0 ts F i least set = .ok s j→i+1+(YS s).length ≤ j+(YS set).length
 | 0,i,least,set,s,j,_,_,_,h=>by cases h
 | F+1,i,least,set,s,j,h0,h1,h2,h=>by
  simp only[Y0] at h
  split at h
  ·cases h;omega
  ·obtain ⟨n,k,e1,e2⟩:=ZZ h
   obtain ⟨rfl,n0,n1⟩:=num_nx e1
   obtain ⟨q0,q1,q2⟩:=set_len h1 h2 (by omega:0≤n) n1
   have:=set_cnt F _ _ _ s j (by omega) q0 q1 e2
   omega
def CntP (P:Nat→PR Exp) (L:Nat):Prop:=∀i e j,P i = .ok e j→i+nk L e≤j
theorem cnt_row {X:Nat→PR Exp} {lv:Nat} (h2:2≤lv) (h3:lv≤3) (hX:CntP X (lv+1)):∀(F:Nat) (e:Exp) (i i0:Nat) (r:Exp) (j:Nat),i0+nk lv e≤i→Y5 ts X lv F e i = .ok r j→i0+nk lv r≤j
 | 0,e,i,i0,r,j,_,h=>by cases h
 | F+1,e,i,i0,r,j,hi,h=>by
  simp only[Y5] at h
  split at h
  ·cases h;exact hi
  ·rename_i hop
   obtain ⟨b,k,e1,e2⟩:=ZZ h
   rw[if_neg (by omega)] at e2
   have hb:=hX _ _ _ e1
   have hl:=opAt_lv hop
   refine cnt_row h2 h3 hX F _ _ i0 r j ?_ e2
   rw[nk_self (by rw[lvE_op,hl];exact Nat.le_refl _),kE_op (by omega),hl,Nat.max_eq_left h2]
   omega
theorem cnt_lv {X:Nat→PR Exp} {lv:Nat} (h1:1≤lv) (h3:lv≤3) (hX:CntP X (lv+1)):CntP (lvP ts X lv) lv:=by
 intro i e j h
 unfold lvP at h
 obtain ⟨a,k,e1,e2⟩:=ZZ h
 have ha:=hX _ _ _ e1
 by_cases h11:lv=1
 ·subst h11
  have ha:i+nk 2 a≤k:=ha
  have hX:CntP X 2:=hX
  simp only[Y5] at e2
  split at e2
  ·cases e2
   have:=nk_mono (show 1≤2 by omega) e
   omega
  ·rename_i hop
   obtain ⟨b,m,e3,e4⟩:=ZZ e2
   rw[if_pos trivial] at e4
   cases e4
   have hb:k+1+nk 2 b≤j:=hX _ _ _ e3
   have hl:=opAt_lv hop
   rw[nk_self (by rw[lvE_op,hl];exact Nat.le_refl _),kE_op (by omega),hl]
   have:max 1 2=2:=rfl
   rw[this,show 1+1=2 from rfl]
   omega
 ·have:=nk_mono (show lv≤lv+1 by omega) a
  exact cnt_row (by omega) h3 hX _ a k i e j (by omega) e2
theorem funO_vals (s:ByteArray):YI s=0∨YI s=4∨YI s=5∨YI s=11∨YI s=12:=by
 unfold YI
 repeat' split
 ·exact .inr (.inl rfl)
 ·exact .inr (.inr (.inl rfl))
 ·exact .inr (.inr (.inr (.inl rfl)))
 ·exact .inr (.inr (.inr (.inr rfl)))
 ·exact .inl rfl
theorem funO_lv {s:ByteArray} (h:YI s≠0):ZB (YI s)=4:=by
 rcases funO_vals s with e|e|e|e|e
 ·exact absurd e h
 all_goals rw[e];decide
theorem nk_le4 (e:Exp) (L:Nat):nk L e≤(kE e).length + 2:=by rw[nk_eq];split<;>omega
theorem Yu {α:Type} {c:Prop} [Decidable c] {a b x:α} (h:(if c then a else b)=x):(c∧a=x)∨(¬c∧b=x):=by
 by_cases hc:c
 ·rw[if_pos hc] at h;exact .inl ⟨hc,h⟩
 ·rw[if_neg hc] at h;exact .inr ⟨hc,h⟩
theorem cnt_atom {E A:Nat→PR Exp} (hE:CntP E 0) (hA:CntP A 4):CntP (Zc ts E A) 4:=by
 intro i e j h
 unfold Zc at h
 dsimp only at h
 rcases Yu h with ⟨hc,h⟩|⟨hc,h⟩
 ·cases h
 rcases Yu h with ⟨hc,h⟩|⟨hc,h⟩
 ·cases h;exact Nat.le_refl _
 rcases Yu h with ⟨hc,h⟩|⟨hc,h⟩
 ·obtain ⟨s,k,e1,e2⟩:=ZZ h
  cases e2
  have:=set_cnt _ _ _ _ _ _ (by omega) (by omega) (by omega) e1
  have e3:(YS 0).length = 0:=rfl
  have e4:nk 4 (YE s 2)=(YS s).length + 2:=by
   show (Zl (setI s)).length = _
   have:=keys_join ((YS s).map (fun k=>((2,((k:Nat):Int),noS):Key)))
   rw[List.map_map] at this
   unfold setI
   rw[YY,X5,YY,X4]
   have e5:=congrArg List.length this
   rw[List.length_map] at e5
   have e6:(Zl (joinI ((YS s).map fun k:Nat=>nb (k:Int)))).length = (YS s).length := e5
   simp only[List.length_cons,List.length_append,List.length_nil]
   omega
  omega
 rcases Yu h with ⟨hc,h⟩|⟨hc,h⟩
 ·cases h;exact Nat.le_refl _
 rcases Yu h with ⟨hc,h⟩|⟨hc,h⟩
 ·cases h;exact Nat.le_refl _
 rcases Yu h with ⟨hc,h⟩|⟨hc,h⟩
 ·cases h;exact Nat.le_refl _
 rcases Yu h with ⟨hc,h⟩|⟨hc,h⟩
 ·cases h;exact Nat.le_refl _
 rcases Yu h with ⟨hc,h⟩|⟨hc,h⟩
 ·obtain ⟨p,k,e1,h⟩:=ZZ h
  obtain ⟨_,k2,e2,h⟩:=ZZ h
  obtain ⟨m,k3,e3,h⟩:=ZZ h
  have:=(num_nx e1).1
  have:=Y3 e2
  have:=name_nx e3
  cases h
  have:nk 4 (.mk 3 0 p 0 noS m [])=4:=rfl
  omega
 rcases Yu h with ⟨hc,h⟩|⟨hc,h⟩
 ·obtain ⟨_,k,e1,h⟩:=ZZ h
  obtain ⟨p,k2,e2,h⟩:=ZZ h
  obtain ⟨_,k3,e3,h⟩:=ZZ h
  have:=(num_nx e2).1
  have:=Y3 e1
  have:=Y3 e3
  cases h
  have:nk 4 (.mk 6 0 p 0 noS noS [])=4:=rfl
  omega
 rcases Yu h with ⟨hc,h⟩|⟨hc,h⟩
 ·obtain ⟨x,k,e1,h⟩:=ZZ h
  obtain ⟨_,k2,e2,h⟩:=ZZ h
  have h1:=hE _ _ _ e1
  have:=Y3 e2
  cases h
  have h2:=nk_le4 e 4
  rw[nk_zero] at h1
  omega
 rcases Yu h with ⟨hc,h⟩|⟨hc,h⟩
 ·skip
  obtain ⟨_,k,e1,h⟩:=ZZ h
  obtain ⟨a,k2,e2,h⟩:=ZZ h
  obtain ⟨_,k3,e3,h⟩:=ZZ h
  obtain ⟨b,k4,e4,h⟩:=ZZ h
  obtain ⟨_,k5,e5,h⟩:=ZZ h
  have h1:=hE _ _ _ e2
  have h2:=hE _ _ _ e4
  have:=Y3 e1
  have:=Y3 e3
  have:=Y3 e5
  have hl:=funO_lv hc.2
  cases h
  rw[nk_self (by rw[lvE_op,hl];exact Nat.le_refl _),kE_fn hl]
  rw[nk_zero] at h1 h2
  omega
 ·obtain ⟨s,k,e1,h⟩:=ZZ h
  obtain ⟨_,k2,e2,h⟩:=ZZ h
  obtain ⟨m,k3,e3,h⟩:=ZZ h
  obtain ⟨_,k4,e4,h⟩:=ZZ h
  obtain ⟨a,k5,e5,h⟩:=ZZ h
  have:=name_nx e1
  have:=Y3 e2
  have:=name_nx e3
  have:=Y3 e4
  have h1:=hA _ _ _ e5
  cases h
  have:nk 4 (.mk 8 0 0 0 s m [a])=nk 4 a+4:=by
   show (Zl (itN 8 0 0 0 s m [(lvE a,itE a)])).length = _
   unfold itN
   rw[if_neg (by decide),if_neg (by decide),if_neg (by decide),if_neg (by decide),if_neg (by decide),if_neg (by decide),if_pos rfl]
   simp only[YY,Yn,X5,X4,List.length_cons]
   rfl
  omega
theorem cnt_expr {E A:Nat→PR Exp} (hE:CntP E 0) (hA:CntP A 4):CntP (YH ts E A) 0:=by
 intro i e j h
 unfold YH at h
 split at h
 ·obtain ⟨a,k,e1,h⟩:=ZZ h
  obtain ⟨_,k2,e2,h⟩:=ZZ h
  obtain ⟨b,k3,e3,h⟩:=ZZ h
  obtain ⟨_,k4,e4,h⟩:=ZZ h
  obtain ⟨c,k5,e5,h⟩:=ZZ h
  have h1:=hE _ _ _ e1
  have h2:=hE _ _ _ e3
  have h3:=hE _ _ _ e5
  have:=Y3 e2
  have:=Y3 e4
  cases h
  have:nk 0 (.mk 5 0 0 0 noS noS [a,b,c])=(kE a).length + (kE b).length + (kE c).length + 3:=by
   show (Zl (itN 5 0 0 0 noS noS [(lvE a,itE a),(lvE b,itE b),(lvE c,itE c)])).length = _
   unfold itN
   rw[if_neg (by decide),if_neg (by decide),if_neg (by decide),if_pos rfl]
   simp only[YY,Yn,X5,X4,List.length_cons,List.length_append]
   show (kE a).length + ((kE b).length + ((kE c).length + 1)+1)+1 = _
   omega
  rw[nk_zero] at h1 h2 h3
  omega
 ·have:=cnt_lv (ts:=ts) (lv:=1) (by omega) (by omega) (cnt_lv (lv:=2) (by omega) (by omega) (cnt_lv (lv:=3) (by omega) (by omega) hA)) i e j h
  have h0:=nk_mono (show 0≤1 by omega) e
  omega
mutual
theorem cnt_E:∀f:Nat,CntP (pE ts f) 0
 | 0=>fun i e j h=>by cases h
 | f+1=>cnt_expr (cnt_E f) (cnt_A f)
theorem cnt_A:∀f:Nat,CntP (pA ts f) 4
 | 0=>fun i e j h=>by cases h
 | f+1=>cnt_atom (cnt_E f) (cnt_A f)
end
theorem parV_ok {l:List UInt8} {e:Exp} (h:Zj l=(e, -1)):YZ e=true∧(kE e).length ≤ 80:=by
 unfold Zj at h
 split at h
 ·rename_i hb
  simp only[Prod.mk.injEq] at h
  omega
 ·have hl:=tokz_len l
  unfold parT at h
  dsimp only at h
  have hof:=tokz_at l
  cases hp:pE (ZA l).1 (2 * (ZA l).1.length + 4) 0 with
  | bad i=>
   rw[hp] at h
   simp only[Prod.mk.injEq] at h
   have h2:=h.2
   exfalso
   split at h2
   ·rename_i hi
    rw[Zg hi] at h2
    have:=(hof _ (List.getElem_mem hi)).1
    omega
   ·omega
  | ok x i=>
   rw[hp] at h
   dsimp only at h
   split at h
   ·rename_i hi
    simp only[Prod.mk.injEq] at h
    have h2:=h.2
    rw[Zg hi] at h2
    have:=(hof _ (List.getElem_mem hi)).1
    omega
   ·split at h
    ·rename_i hv
     simp only[Prod.mk.injEq] at h
     obtain ⟨rfl,_⟩:=h
     refine ⟨hv,?_⟩
     have h1:=cnt_E (ts:=(ZA l).1) _ 0 x i hp
     have h2:=(bd_E (ts:=(ZA l).1) _ 0 (by omega) x i hp).2
     rw[nk_zero] at h1
     omega
    ·simp only[Prod.mk.injEq] at h
     omega
theorem normal_law {l:List UInt8} {e:Exp} (h:Zj l=(e, -1)) (hl:(ZO e).length ≤ 160):Zj (ZO e)=(e, -1):=by
 obtain ⟨h1,h2⟩:=parV_ok h
 have hv:allE YG e=true:=by simp only[YZ,Bool.and_eq_true] at h1;exact h1.2
 have hg:=gd_all e hv
 rcases parsed_law h1 with h3|h3
 ·exact h3.2
 ·exfalso
  rcases tokz_its hg.good hg.sep with ⟨_,_,q3⟩|⟨q1,_,_⟩
  ·have e3:ZA (ZO e)=(Ym 0 (itE e), -1):=q3
   rw[e3] at h3
   have hk:(Ym 0 (itE e)).map keyT=kE e:=toksAt_keys 0 (itE e)
   dsimp only at h3
   rw[h3.1] at hk
   exact kE_ne hv hk.symm
  ·rcases q1 with q1|q1
   ·exact absurd hl (by unfold ZO;omega)
   ·have h2':(Zl (itE e)).length ≤ 80:=h2
    omega
end Go.Gh
namespace Go.Gh
open Lib
def redB (l:List UInt8):Bool:=decide (l.length≤12)&&decide (itoa (Y8 l)=l)
def Yz (l:List UInt8):Int:=if redB l=true then Y8 l else 0
def sybN (l:List UInt8) (k:Nat):Nat:=
 match l[k]? with
 | some c=>if c∈symC then 1 else if c=61∧l[k+1]? = some 61 then 2 else 0
 | none=>0
def tokS (l:List UInt8) (k:Nat):Tok:=
 match l[k]? with
 | some c=>
  if Ze c=true then ⟨1,0,k,⟨((l.drop k).take (Zw Y2 (l.drop k))).toArray⟩⟩
  else if ZI c=true then ⟨2,Yz ((l.drop k).take (Zw ZI (l.drop k))),k,noS⟩
  else ⟨3,0,k,⟨((l.drop k).take (sybN l k)).toArray⟩⟩
 | none=>Y9
theorem YL {n:Int} (h0:0≤n) (h:n≤1000000):(itoa n).length ≤ 7:=by
 rw[itoa_dec h0,decDigits_length]
 exact nDigits_le 6 _ (by omega)
theorem valD_acc:∀(l:List UInt8) (n:Int),0≤n→(∀c∈l,ZI c=true)→0≤l.foldl (fun n c=>10 * n+((c.toNat:Int)-48)) n∧l.foldl (fun n c=>10 * n+((c.toNat:Int)-48)) n<(n+1) * 10 ^ l.length
 | [],n,h0,_ => by simp;omega
 | c::l,n,h0,h=>by
  have h2:=h c (by simp)
  simp only[ZI,Bool.and_eq_true,decide_eq_true_eq] at h2
  have:=valD_acc l (10 * n+((c.toNat:Int)-48)) (by omega) fun d hd=>h d (by simp[hd])
  simp only[List.foldl_cons,List.length_cons]
  refine ⟨this.1,Int.lt_of_lt_of_le this.2 ?_⟩
  rw[Int.pow_succ,Int.mul_comm (10 ^ l.length) 10,←Int.mul_assoc]
  exact Int.mul_le_mul_of_nonneg_right (by omega) (Int.pow_nonneg (by omega))
theorem fold_ge:∀(l:List UInt8) (n:Int),0≤n→(∀c∈l,ZI c=true)→n≤l.foldl (fun n c=>10 * n+((c.toNat:Int)-48)) n
 | [],n,h0,_ => Int.le_refl _
 | c::l,n,h0,h=>by
  have h2:=h c (by simp)
  simp only[ZI,Bool.and_eq_true,decide_eq_true_eq] at h2
  have:=fold_ge l (10 * n+((c.toNat:Int)-48)) (by omega) fun d hd=>h d (by simp[hd])
  simp only[List.foldl_cons]
  omega
theorem valD_bd (l:List UInt8) (h:∀c∈l,ZI c=true):0≤Y8 l∧Y8 l<10 ^ l.length:=by
 have:=valD_acc l 0 (by omega) h
 simpa[Y8] using this
theorem pow12 {l:List UInt8} (h:l.length≤11):(10:Int) ^ l.length≤100000000000:=by
 have:∀k,k≤11→(10:Int) ^ k≤100000000000:=by decide
 exact this _ h
theorem pow13 {l:List UInt8} (h:l.length≤12):(10:Int) ^ l.length≤1000000000000:=by
 have:∀k,k≤12→(10:Int) ^ k≤1000000000000:=by decide
 exact this _ h
theorem wrap_u8 {x:Int} (h0:0≤x) (h:x<256):IntKind.u8.wrap x=x:=by
 simp only[IntKind.wrap,IntKind.bits,IntKind.signed]
 simp
 omega
theorem valD_take {l:List UInt8} {i:Nat} (h:i<l.length):Y8 (l.take (i+1))=10 * Y8 (l.take i)+((l[i].toNat : Int)-48):=by
 rw[←List.take_append_getElem h,valD_snoc]
theorem tokS_at {l:List UInt8} {k:Nat} (h:k<l.length):tokS l k =
 if Ze l[k]=true then ⟨1,0,k,⟨((l.drop k).take (Zw Y2 (l.drop k))).toArray⟩⟩
 else if ZI l[k]=true then ⟨2,Yz ((l.drop k).take (Zw ZI (l.drop k))),k,noS⟩
 else ⟨3,0,k,⟨((l.drop k).take (sybN l k)).toArray⟩⟩:=by
 unfold tokS
 rw[List.getElem?_eq_getElem h]
theorem spanL_digs:∀(l:List UInt8),∀c∈l.take (Zw ZI l),ZI c=true
 | [],c,h=>by simp at h
 | d::l,c,h=>by
  simp only[Zw] at h
  split at h
  ·rename_i hd
   rw[List.take_succ_cons] at h
   rcases List.mem_cons.1 h with rfl|h
   ·exact hd
   ·exact spanL_digs l c h
  ·simp at h
theorem numT_red {w:List UInt8} (hd:∀c∈w,ZI c=true):numT w=if redB w=true∧Yz w≤1000000 then some (Yz w) else none:=by
 have hb:=(valD_bd w hd).1
 unfold numT Yz redB
 by_cases h:itoa (Y8 w)=w
 ·by_cases hl:w.length≤12
  ·simp[h,hl]
  ·have:¬Y8 w≤1000000:=fun h2=>by
    have:=YL hb h2
    rw[h] at this
    omega
   simp[h,hl,this]
 ·simp[h]
theorem tokN_2 {l:List UInt8} {k:Nat} (h:k<l.length):(Zk l k).2 =
 if Ze l[k]=true then (if Zw Y2 (l.drop k)≤8 then Zw Y2 (l.drop k) else 0)
 else if ZI l[k]=true then (if redB ((l.drop k).take (Zw ZI (l.drop k)))=true∧Yz ((l.drop k).take (Zw ZI (l.drop k)))≤1000000 then Zw ZI (l.drop k) else 0)
 else sybN l k:=by
 unfold Zk
 rw[dif_pos h]
 split
 ·split<;>rfl
 ·split
  ·rw[numT_red (spanL_digs _)]
   split
   ·rename_i h1
    split at h1
    ·rename_i h2;rw[if_pos h2]
    ·cases h1
   ·rename_i h1
    split at h1
    ·cases h1
    ·rename_i h2;rw[if_neg h2]
  ·unfold sybN
   rw[List.getElem?_eq_getElem h]
   dsimp only
   split
   ·rfl
   ·split<;>rfl
theorem tokS_N {l:List UInt8} {k:Nat} (h:k<l.length) (hn:(Zk l k).2 ≠ 0):tokS l k=(Zk l k).1 := by
 rw[tokS_at h]
 unfold Zk at hn ⊢
 rw[dif_pos h] at hn ⊢
 by_cases h1:Ze l[k]=true
 ·rw[if_pos h1] at hn ⊢
  rw[if_pos h1]
  by_cases h2:Zw Y2 (l.drop k)≤8
  ·rw[if_pos h2]
  ·rw[if_neg h2] at hn;exact absurd rfl hn
 ·rw[if_neg h1] at hn ⊢
  rw[if_neg h1]
  by_cases h2:ZI l[k]=true
  ·rw[if_pos h2] at hn ⊢
   rw[if_pos h2]
   rw[numT_red (spanL_digs _)] at hn ⊢
   by_cases h3:redB ((l.drop k).take (Zw ZI (l.drop k)))=true∧Yz ((l.drop k).take (Zw ZI (l.drop k)))≤1000000
   ·simp only[if_pos h3]
   ·simp only[if_neg h3] at hn;exact absurd rfl hn
  ·rw[if_neg h2] at hn ⊢
   rw[if_neg h2]
   by_cases h3:l[k]∈symC
   ·have e:sybN l k=1:=by unfold sybN;rw[List.getElem?_eq_getElem h];dsimp only;rw[if_pos h3]
    rw[if_pos h3,e,List.drop_eq_getElem_cons h]
    rfl
   ·rw[if_neg h3] at hn ⊢
    by_cases h4:l[k]=61∧l[k+1]? = some 61
    ·have e:sybN l k=2:=by unfold sybN;rw[List.getElem?_eq_getElem h];dsimp only;rw[if_neg h3,if_pos h4]
     obtain ⟨h5,h6⟩:=List.getElem?_eq_some_iff.1 h4.2
     rw[if_pos h4,e,List.drop_eq_getElem_cons h,List.drop_eq_getElem_cons h5,h4.1,h6]
     rfl
    ·rw[if_neg h4] at hn;exact absurd rfl hn
theorem u8_eq (c d:UInt8):c=d↔(c.toNat:Int)=d.toNat:=by
 rw[←UInt8.toNat_inj]
 omega
theorem mem_symC (c:UInt8):c∈symC↔((c.toNat:Int)=40∨(c.toNat:Int)=41∨(c.toNat:Int)=123∨(c.toNat:Int)=125∨(c.toNat:Int)=44∨(c.toNat:Int)=46∨(c.toNat:Int)=36∨(c.toNat:Int)=43∨(c.toNat:Int)=45∨(c.toNat:Int)=42∨(c.toNat:Int)=60∨(c.toNat:Int)=124∨(c.toNat:Int)=38∨(c.toNat:Int)=92):=by
 simp only[symC,List.mem_cons,List.not_mem_nil,or_false,u8_eq]
 rfl
theorem sybN_1 {l:List UInt8} {k:Nat} (hk:k<l.length) (h:((l[k].toNat : Int)=40∨(l[k].toNat : Int)=41∨(l[k].toNat : Int)=123∨(l[k].toNat : Int)=125∨(l[k].toNat : Int)=44∨(l[k].toNat : Int)=46∨(l[k].toNat : Int)=36∨(l[k].toNat : Int)=43∨(l[k].toNat : Int)=45∨(l[k].toNat : Int)=42∨(l[k].toNat : Int)=60∨(l[k].toNat : Int)=124∨(l[k].toNat : Int)=38∨(l[k].toNat : Int)=92)):sybN l k=1:=by
 unfold sybN
 rw[List.getElem?_eq_getElem hk]
 dsimp only
 rw[if_pos ((mem_symC _).2 h)]
theorem sybN_2 {l:List UInt8} {k:Nat} (hk:k<l.length) (h:(l[k].toNat : Int)=61) (h1:k+1<l.length) (h2:(l[k+1].toNat : Int)=61):sybN l k=2:=by
 unfold sybN
 rw[List.getElem?_eq_getElem hk,List.getElem?_eq_getElem h1]
 dsimp only
 rw[if_neg (fun hc=>by rw[mem_symC] at hc;omega),if_pos ⟨(u8_eq _ _).2 h,congrArg some ((u8_eq _ _).2 h2)⟩]
theorem sybN_0 {l:List UInt8} {k:Nat} (hk:k<l.length) (h:¬((l[k].toNat : Int)=40∨(l[k].toNat : Int)=41∨(l[k].toNat : Int)=123∨(l[k].toNat : Int)=125∨(l[k].toNat : Int)=44∨(l[k].toNat : Int)=46∨(l[k].toNat : Int)=36∨(l[k].toNat : Int)=43∨(l[k].toNat : Int)=45∨(l[k].toNat : Int)=42∨(l[k].toNat : Int)=60∨(l[k].toNat : Int)=124∨(l[k].toNat : Int)=38∨(l[k].toNat : Int)=92))
 (h2:¬(l[k].toNat : Int)=61∨l.length≤k+1∨∃h1:k+1<l.length,¬(l[k+1].toNat : Int)=61):sybN l k=0:=by
 unfold sybN
 rw[List.getElem?_eq_getElem hk]
 dsimp only
 rw[if_neg (fun hc=>h ((mem_symC _).1 hc)),if_neg]
 rintro ⟨a,b⟩
 rcases h2 with h2|h2|⟨h1,h2⟩
 ·exact h2 ((u8_eq _ _).1 a)
 ·rw[List.getElem?_eq_none h2] at b;cases b
 ·rw[List.getElem?_eq_getElem h1] at b
  simp only[Option.some.injEq] at b
  exact h2 ((u8_eq _ _).1 b)
theorem Yv {α:Type} (l:List α) (k n:Nat):(l.take (k+n)).drop k=(l.drop k).take n:=by
 rw[List.drop_take]
 congr 1
 omega
theorem sybN_le {l:List UInt8} {k:Nat} (h:k<l.length):k+sybN l k≤l.length:=by
 unfold sybN
 rw[List.getElem?_eq_getElem h]
 dsimp only
 split
 ·omega
 ·split
  ·rename_i h2
   have:=(List.getElem?_eq_some_iff.1 h2.2).1
   omega
  ·omega
theorem Bor.seenT {H:GH} {r n:Nat} {l:List Tok} (hr:Z3 H r=some (4,l.map Tk)) (hl:l.length=n):Bor H (.own r 4 0 n) (TkS l):=Bor.seen (f:=Tk) (fun a=>by simp[view,YJ]) hr hl
theorem tokN_let {l:List UInt8} {k:Nat} (h:k<l.length) (h1:Ze l[k]=true):Zk l k=if Zw Y2 (l.drop k)≤8 then (⟨1,0,k,⟨((l.drop k).take (Zw Y2 (l.drop k))).toArray⟩⟩,Zw Y2 (l.drop k)) else (Y9,0):=by
 unfold Zk
 rw[dif_pos h,if_pos h1]
theorem tokN_dig {l:List UInt8} {k:Nat} (h:k<l.length) (h1:Ze l[k]=false) (h2:ZI l[k]=true):Zk l k=(match numT ((l.drop k).take (Zw ZI (l.drop k))) with|some n=>(⟨2,n,k,noS⟩,Zw ZI (l.drop k))|none=>(Y9,0)):=by
 unfold Zk
 rw[dif_pos h,if_neg (by rw[h1];decide),if_pos h2]
 all_goals rfl
theorem tokN_sym {l:List UInt8} {k:Nat} (h:k<l.length) (h1:Ze l[k]=false) (h2:ZI l[k]=false):Zk l k=if l[k]∈symC then (⟨3,0,k,⟨#[l[k]]⟩⟩,1) else if l[k]=61∧l[k+1]? = some 61 then (⟨3,0,k,⟨#[61,61]⟩⟩,2) else (Y9,0):=by
 unfold Zk
 rw[dif_pos h,if_neg (by rw[h1];decide),if_neg (by rw[h2];decide)]
theorem aln_or {c:UInt8} (h:Y2 c=true):Ze c=true∨(Ze c=false∧ZI c=true):=by
 unfold Y2 at h
 cases h1:Ze c
 ·rw[h1] at h;exact .inr ⟨rfl,by simpa using h⟩
 ·exact .inl rfl
theorem aln_no {c:UInt8} (h:Y2 c=false):Ze c=false∧ZI c=false:=by
 simpa[Y2] using h
end Go.Gh
namespace Go.Gh
open Lib Go.RowKit
theorem kept_below {w w':World} (h:Below w.heap.size w w'):Kept w w' (fun _ => True):=
 ⟨fun b hb _ => h.block b hb,h.size,fun b c T fz hx=>⟨c,fz,by rw[h.block b (lt_of_heap hx)];exact hx,rfl⟩⟩
theorem lib_ok {P:Program} {T:GH} {f:Nat} {gs:List GV} {R:GV→Prop}
 (hc:∀(w:World) (D:Nat→Prop) (vs:List Value),HM w D T []→(names T).Nodup → ML w D gs vs []→Calls P f vs.toArray w fun e w'=>∃v g,e = .returned v∧R g∧(∀D',MV w' D' g v [])∧Below w.heap.size w w')
 (hT:∀x∈T,x.2.2=[]∧x.1 % 4=3) (eg:∀args w,(callFunc f args).run P w = .ok (.enter f args) w):PureT P T f gs R:=by
 intro w D Ω vs hst hargs
 have hΩ:Ω=[]:=by
  have:∀(T:GH) (Ω:List Nat),(∀x∈T,x.2.2=[]∧x.1 % 4=3)→HM w D T Ω→Ω=[]:=by
   intro T
   induction T with
   | nil=>intro Ω _ h;exact h
   | cons x T ih=>
    obtain ⟨r,sz,es⟩:=x
    intro Ω h1 h2
    obtain ⟨F1,F2,e,h3,h4⟩:=h2
    have:=ih F2 (fun y hy=>h1 y (by simp[hy])) h4
    have hr:=(h1 (r,sz,es) (by simp)).2
    rcases h3 with ⟨b,c,T',fz,F',k1,_⟩|h3
    ·dsimp only at hr;omega
    ·rw[e,this,h3.2.2];rfl
  exact this T Ω hT hst.hm
 subst hΩ
 rw[eg]
 show Calls P f _ w _
 refine (hc w D vs hst.hm hst.nn hargs).mono ?_
 rintro e w' ⟨v,g,rfl,hR,hv,hb⟩
 have hk:=kept_below hb
 exact ⟨_,rfl,_,T,D,[],hR,hv D,⟨HM.keep hk (fun _ _ => trivial) (fun _ h=>h) (fun _ _ => trivial) hst.hm,hst.nd,hst.nn,hst.dj,fun b hb=>Nat.lt_of_lt_of_le (hst.ds b hb) hk.size⟩,
  ⟨fun _ h=>h,fun _ _ h=> .inl h,fun _ h _ => h,hk.mono fun _ _ _ => trivial,hb.os,hb.tape,hb.output⟩⟩
theorem parse_digs:∀(l:List UInt8) (acc:Nat),(∀c∈l,ZI c=true)→acc<18446744073709551616 →
 (l.foldl (fun n c=>10 * n+((c.toNat:Int)-48)) (acc:Int)<18446744073709551616→∃u:Nat,parseUint10 acc l = .ok u∧(u:Int)=l.foldl (fun n c=>10 * n+((c.toNat:Int)-48)) (acc:Int)) ∧
 (¬l.foldl (fun n c=>10 * n+((c.toNat:Int)-48)) (acc:Int)<18446744073709551616→parseUint10 acc l = .range)
 | [],acc,_,h=>⟨fun _ => ⟨acc,rfl,rfl⟩,fun h2=>by simp at h2;omega⟩
 | c::l,acc,hd,h=>by
  have hc:=hd c (by simp)
  simp only[ZI,Bool.and_eq_true,decide_eq_true_eq] at hc
  have hl:∀d∈l,ZI d=true:=fun d hd'=>hd d (by simp[hd'])
  have e1:(10 * (acc:Int)+((c.toNat:Int)-48))=((acc * 10+(c.toNat-48):Nat):Int):=by omega
  simp only[List.foldl_cons,parseUint10]
  rw[e1,if_pos (by omega)]
  have hge:=(valD_acc l ((acc * 10+(c.toNat-48):Nat):Int) (by omega) hl)
  have hmono:((acc * 10+(c.toNat-48):Nat):Int)≤l.foldl (fun n c=>10 * n+((c.toNat:Int)-48)) ((acc * 10+(c.toNat-48):Nat):Int):=fold_ge l _ (by omega) hl
  by_cases h1:1844674407370955162≤acc
  ·rw[if_pos h1]
   exact ⟨fun h2=>by omega,fun _ => rfl⟩
  ·rw[if_neg h1]
   by_cases h2:18446744073709551616≤acc * 10+(c.toNat-48)
   ·rw[if_pos h2]
    exact ⟨fun h3=>by omega,fun _ => rfl⟩
   ·rw[if_neg h2]
    exact parse_digs l _ hl (by omega)
theorem atoi_digs {l:List UInt8} (hd:∀c∈l,ZI c=true) (hne:l≠[]):(Y8 l<9223372036854775808→atoiAll l = .ok (Y8 l))∧(¬Y8 l<9223372036854775808→atoiAll l = .range):=by
 cases l with
 | nil=>exact absurd rfl hne
 | cons c r=>
  have hc:=hd c (by simp)
  simp only[ZI,Bool.and_eq_true,decide_eq_true_eq] at hc
  obtain ⟨p1,p2⟩:=parse_digs (c::r) 0 hd (by decide)
  have e0:(c::r).foldl (fun n c=>10 * n+((c.toNat:Int)-48)) ((0:Nat):Int)=Y8 (c::r):=rfl
  rw[e0] at p1 p2
  have hn:¬c.toNat=45:=by omega
  unfold atoiAll parseMag
  dsimp only
  rw[if_neg (show ¬(c.toNat=43∨c.toNat=45) by omega),if_neg (by simp)]
  constructor
  ·intro h
   obtain ⟨u,q1,q2⟩:=p1 (by omega)
   rw[q1]
   dsimp only
   rw[if_neg (by omega),if_neg (by omega),if_neg hn,q2]
  ·intro h
   by_cases h2:Y8 (c::r)<18446744073709551616
   ·obtain ⟨u,q1,q2⟩:=p1 h2
    rw[q1]
    dsimp only
    rw[if_pos ⟨hn,by omega⟩]
   ·rw[p2 h2]
def tabE (n m:Nat):GH:=[(4 * n+3,1000000,[]),(4 * m+3,1000001,[])]
theorem tabE_ok (n m:Nat):∀x∈tabE n m,x.2.2=[]∧x.1 % 4=3:=fun x hx=>by
 simp only[tabE,List.mem_cons,List.not_mem_nil,or_false] at hx
 rcases hx with rfl|rfl
 ·exact ⟨rfl,by dsimp only;omega⟩
 ·exact ⟨rfl,by dsimp only;omega⟩
theorem YM {n m:Nat} (h:n≠m):tabH (tabE n m):=⟨by simp[tabE,names];omega,fun x hx=>by
 simp only[tabE,List.mem_cons,List.not_mem_nil,or_false] at hx
 rcases hx with rfl|rfl
 ·exact ⟨by dsimp only;omega,by dsimp only;omega,rfl⟩
 ·exact ⟨by dsimp only;omega,by dsimp only;omega,rfl⟩⟩
theorem HM.isE {w:World} {D:Nat→Prop} {m:Nat} {H:GH} {Ω:List Nat} (h:HM w D H Ω) (hn:(names H).Nodup) (hm:(4 * m+3,1000001,[])∈H):∃te pe,w.cell? ⟨m,0,none⟩=some (.iface te pe):=by
 obtain ⟨F,hF,_⟩:=h.mem (hget_mem hn hm)
 have e:(4 * m+3) / 4=m:=by omega
 rcases hF with ⟨b,c,T,fz,F',k1,_⟩|hF
 ·dsimp only at k1;omega
 ·obtain ⟨_,c,T,fz,h1,h2⟩:=hF.1.2 (by dsimp only;omega) (by dsimp only;omega)
  dsimp only at h1 h2
  rw[e] at h1
  unfold tabP at h2
  rw[if_neg (by omega)] at h2
  obtain ⟨te,pe,rfl⟩:=h2
  refine ⟨te,pe,?_⟩
  unfold World.cell?
  rw[h1]
  rfl
theorem MV.tup2 {w:World} {D:Nat→Prop} (a b:Value):MV w D (.tup [.val a,.val b]) (.tuple #[a,b]) []:=by
 simp only[MV]
 exact ⟨[a,b],rfl,by simp only[ML,MV];exact ⟨a,[b],[],[],rfl,rfl,⟨rfl,rfl⟩,b,[],[],[],rfl,rfl,⟨rfl,rfl⟩,rfl,rfl⟩⟩
theorem chars_eta (p:ByteArray):(⟨(Z8 p).toArray⟩:ByteArray)=p:=by cases p;simp[Z8]
def hasPr (s p:List UInt8):Bool:=decide (p.length≤s.length)&&decide (s.take p.length=p)
theorem hasPr_2 (a b:UInt8) (r:List UInt8):hasPr (a::b::r) [61,61]=decide (a=61∧some b=some 61):=by simp[hasPr]
theorem hasPr_1 (a:UInt8):hasPr [a] [61,61]=decide (a=61∧(none:Option UInt8)=some 61):=by simp[hasPr]
theorem hasPr_eq {l:List UInt8} {k:Nat} (h:k<l.length):hasPr (l.drop k) [61,61]=decide (l[k]=61∧l[k+1]? = some 61):=by
 by_cases h1:k+1<l.length
 ·rw[List.drop_eq_getElem_cons h,List.drop_eq_getElem_cons h1,List.getElem?_eq_getElem h1]
  exact hasPr_2 _ _ _
 ·rw[List.drop_eq_getElem_cons h,List.drop_eq_nil_of_le (by omega),List.getElem?_eq_none (by omega)]
  exact hasPr_1 _
theorem ix_mem:∀(l:List UInt8) (c:UInt8),0≤indexByte l c↔c∈l
 | [],c=>by simp[indexByte]
 | b::l,c=>by
  have ih:=ix_mem l c
  simp only[indexByte,List.mem_cons]
  by_cases h:b=c
  ·simp[h]
  ·have h':¬(b == c)=true:=by simpa using h
   rw[if_neg h']
   have hne:¬c=b:=fun e=>h e.symm
   by_cases h1:indexByte l c = -1
   ·rw[if_pos (by simpa using h1)]
    rw[h1] at ih
    simp only[hne,false_or]
    exact ⟨fun h=>by omega,fun h=>by have:=ih.2 h;omega⟩
   ·rw[if_neg (by simpa using h1)]
    have hge:=ix_ge l c
    simp only[hne,false_or]
    exact ⟨fun h=>ih.1 (by omega),fun h=>by have:=ih.2 h;omega⟩
where
 ix_ge:∀(l:List UInt8) (c:UInt8), -1≤indexByte l c
 | [],c=>by simp[indexByte]
 | b::l,c=>by
  have:=ix_ge l c
  simp only[indexByte]
  repeat' split
  all_goals omega
def atoR (l:List UInt8) (te:TypeId) (g:GV):Prop:=
 (Y8 l<9223372036854775808∧g = .tup [I (Y8 l),.val .nilIface])∨(¬Y8 l<9223372036854775808∧∃n p,g = .tup [I n,.val (.iface te p)])
end Go.Gh
namespace Go.Gh
open Lib Go.RowKit
def Zi (sep:List UInt8) (l:List (List UInt8)):List UInt8:=Lib.join l sep
theorem sl_str {w:World} {D:Nat→Prop}:∀(xs:List ByteArray) (cs:List Value),MF w D 1 (xs.map T) cs []→cs=xs.map fun x=>Value.string x
 | [],cs,h=>by simp only[List.map_nil,MF] at h;exact h.1
 | x::xs,cs,h=>by
  simp only[List.map_cons,MF,MV] at h
  obtain ⟨v,cs',F1,F2,rfl,_,_,hF,⟨rfl,_⟩,h2⟩:=h
  have hF2:F2=[]:=by have:=(List.append_eq_nil_iff.1 hF.symm).2;exact this
  subst hF2
  rw[sl_str xs cs' h2]
  rfl
end Go.Gh
namespace Go.Gh
open Lib
abbrev PaG (ts:List Tok) (i:Nat) (b:Bool):GV:= .agg [TkS ts,I i,B b]
def PR.at {α:Type}:PR α→Nat
 | .bad i=>i
 | .ok _ i=>i
def PR.err {α:Type}:PR α→Bool
 | .bad _ => true
 | .ok _ _ => false
def PR.val {α:Type} (z:α):PR α→α
 | .bad _ => z
 | .ok a _ => a
def frm {α:Type} (b:Bool) (P:Nat→PR α) (i:Nat):PR α:=if b=true then .bad i else P i
theorem frm_t {α:Type} (P:Nat→PR α) (i:Nat):frm true P i = .bad i:=rfl
theorem Zn {α:Type} (P:Nat→PR α) (i:Nat):frm false P i=P i:=rfl
theorem take_t {ts:List Tok} {i:Nat} {w:ByteArray} (h:sees ts i w=true):ZW ts i w = .ok () (i+1):=by unfold ZW;rw[if_pos h]
theorem take_f {ts:List Tok} {i:Nat} {w:ByteArray} (h:sees ts i w=false):ZW ts i w = .bad i:=by unfold ZW;rw[if_neg (by rw[h];decide)]
def okTs (ts:List Tok):Prop:=∀t∈ts,(t.kind=1→shp (Z8 t.text)=true)∧(Z8 t.text).length ≤ 8
def opB (ts:List Tok) (b:Bool) (i lv:Nat):Int:=if b=true then 0 else opAt ts i lv
theorem opB_ge {ts:List Tok} {i:Nat} (h:ts.length≤i) (lv:Nat):opB ts false i lv=0:=by
 have hs:∀w,sees ts i w=false:=fun w=>by unfold sees;rw[decide_eq_false (by omega)];rfl
 unfold opB opAt
 simp[hs]
theorem isW_nm {t:Tok} {w:ByteArray} (h:t.kind=1→shp (Z8 t.text)=true) (hw:shp (Z8 w)=false):isW t w=(isK (3,0,t.text) w&&decide (t.kind=3)):=by
 unfold isW isK
 by_cases h1:t.kind=1
 ·have:¬t.text=w:=fun e=>by have:=h h1;rw[e,hw] at this;cases this
  simp[h1,this]
 ·by_cases h3:t.kind=3
  ·simp[h1,h3]
  ·simp[h1,h3]
theorem opB_lt {ts:List Tok} (ht:okTs ts) {i:Nat} (h:i<ts.length) (lv:Nat):opB ts false i lv=if ts[i].kind = 3 then opKy (3,0,ts[i].text) lv else 0:=by
 have hs:∀w,shp (Z8 w)=false→sees ts i w=(isK (3,0,ts[i].text) w&&decide (ts[i].kind = 3)):=fun w hw=>by
  unfold sees
  rw[decide_eq_true h,Zg h,Bool.true_and,isW_nm (ht _ (List.getElem_mem h)).1 hw]
 unfold opB opAt
 simp only[hs ⟨#[60]⟩ (by decide),hs ⟨#[61,61]⟩ (by decide),hs ⟨#[43]⟩ (by decide),hs ⟨#[45]⟩ (by decide),hs ⟨#[124]⟩ (by decide),hs ⟨#[92]⟩ (by decide),hs ⟨#[42]⟩ (by decide),hs ⟨#[38]⟩ (by decide)]
 by_cases hk:ts[i].kind = 3
 ·simp[hk,opKy]
 ·simp[hk]
end Go.Gh
namespace Go.Gh
theorem St.frz {w:World} {D:Nat→Prop} {H:GH} {Ω:List Nat} (h:St w D H Ω) {r sz:Nat} {es:List GV} (hr:Z3 H r=some (sz,es)) :
 ∃D' Ω',St w D' (ZX H r (YJ es)) Ω'∧(∀b,D b→D' b)∧(∀b,D' b→D b∨b∈Ω)∧∀b∈Ω',b∈Ω:=by
 obtain ⟨Ω1,F,Ω2,hΩ,hR,hput,_⟩:=HM.take h.hm hr
 rcases hR with ⟨b,c,T,fz,F',k1,k2,k3,k4,k5,k6,k7⟩|⟨k1,k2,k3⟩
 ·subst k6
  have hnd:=h.nd
  rw[hΩ] at hnd
  have hRM:RM w (fun x=>D x∨x∈F') r sz (YJ es) [b]:=
   .inl ⟨b,c,T,fz,[],k1,k2,k3,by simpa[X2] using k4,by simpa[X2] using k5,rfl,by
    have:=MF.view (D':=fun x=>D x∨x∈F') (fun _ => .inl) sz es _ F' (fun x hx=> .inr hx) k7
    simpa[X2] using this⟩
  have hfin:=hput w (fun x=>D x∨x∈F') (fun _ => True) _ _ (Kept.refl _ _) (fun _ _ => trivial) (fun _ => .inl) (fun _ _ => trivial) hRM
  have hsub:(Ω1++([b]++Ω2)).Sublist (Ω1++((b::F')++Ω2)):=by
   refine List.Sublist.append (List.Sublist.refl _) (List.Sublist.append ?_ (List.Sublist.refl _))
   simp
  refine ⟨fun x=>D x∨x∈F',_,⟨hfin,hnd.sublist hsub,by rw[YA];exact h.nn,?_,?_⟩,fun _ => .inl,?_,fun x hx=>by rw[hΩ];exact hsub.subset hx⟩
  ·intro x hx hD
   rcases hD with hD|hD
   ·exact h.dj x (by rw[hΩ];exact hsub.subset hx) hD
   ·have hc:=List.nodup_iff_count.1 hnd x
    have h1:=List.count_pos_iff.2 hx
    have h2:=List.count_pos_iff.2 hD
    simp only[List.count_append,List.count_cons,List.count_nil] at hc h1
    omega
  ·intro x hD
   rcases hD with hD|hD
   ·exact h.ds x hD
   ·exact HM.flt h.hm x (by rw[hΩ];simp[hD])
  ·intro x hD
   rcases hD with hD|hD
   ·exact .inl hD
   ·exact .inr (by rw[hΩ];simp[hD])
 ·subst k2 k3
  have hfin:=hput w D (fun _ => True) [] [] (Kept.refl _ _) (fun _ _ => trivial) (fun _ h=>h) (fun _ _ => trivial) (.inr ⟨k1,rfl,rfl⟩)
  refine ⟨D,Ω,⟨?_,h.nd,by rw[YA];exact h.nn,h.dj,h.ds⟩,fun _ h=>h,fun _ => .inl,fun _ h=>h⟩
  rw[hΩ];exact hfin
theorem FE.frz {env:Env} {H:GH} {r sz:Nat} {es:List GV} (hr:Z3 H r=some (sz,es)):FE env H env (ZX H r (YJ es)):=by
 intro w0 D0 O0 N a w ⟨hdf,hsz,D,Ω,ρw,hi⟩
 obtain ⟨D',Ω',h1,h2,h3,h4⟩:=hi.st.frz hr
 refine ⟨hdf,hsz,D',Ω',ρw,fun i g hg hn=> ?_,hi.rw,hi.ri,fun i b hb=> ?_,h1,hi.ev.trans ⟨h2,fun b _ hD=>h3 b hD,fun b hb _ => h4 b hb,Kept.refl _ _,rfl,rfl,rfl⟩⟩
 ·obtain ⟨v,m1,m2⟩:=hi.em i g hg hn
  exact ⟨v,m1,m2.more h2⟩
 ·obtain ⟨r1,r2,r3,r4⟩:=hi.rd i b hb
  exact ⟨fun hD=>(h3 b hD).elim r1 r2,fun h=>r2 (h4 b h),r3,r4⟩
theorem FE.frzV {env:Env} {H:GH} {r sz:Nat} {es es':List GV} (hv:YJ es=es'):FE env ((r,sz,es)::H) env ((r,sz,es')::H):=by
 subst hv
 have:=FE.frz (env:=env) (H:=(r,sz,es)::H) (r:=r) (sz:=sz) (es:=es) (by simp[Z3])
 simpa[ZX] using this
theorem MV.nil_sl {w:World} {D:Nat→Prop} {sz:Nat}:∀v F,MV w D (.val (.slice none 0 0)) v F→MV w D (.sl sz []) v F:=fun v F h=>by
 simp only[MV] at h ⊢
 exact ⟨h.2,.inl ⟨trivial,_,_,h.1⟩⟩
theorem FR.front {g g':GV} {L H:GH} (hb:Bor L g g'):FR g (L++H) g' H:=by
 intro w D Ω v hv hst
 obtain ⟨Ω1,Ω2,rfl,h1,h2⟩:=HM.parted hst.hm
 have hnd:=List.nodup_append.1 hst.nd
 have hnn:=hst.nn
 simp only[names,List.map_append] at hnn
 have hnn':=List.nodup_append.1 hnn
 have hs1:St w D L Ω1:=⟨h1,hnd.1,hnn'.1,fun b hb=>hst.dj b (by simp[hb]),hst.ds⟩
 refine ⟨fun b=>D b∨b∈Ω1,Ω2,hb w D Ω1 v hs1 hv,⟨HM.keep (S:=fun _ => True) (Kept.refl _ _) (fun _ _ => trivial) (fun _ => .inl) (fun _ _ => trivial) h2,hnd.2.1,hnn'.2.1,fun b hb hD=> ?_,fun b hD=> ?_⟩,
  ⟨fun _ => .inl,fun b _ hD=>hD.elim .inl fun h=> .inr (by simp[h]),fun b hb _ => by simp[hb],Kept.refl _ _,rfl,rfl,rfl⟩⟩
 ·rcases hD with hD|hD
  ·exact hst.dj b (by simp[hb]) hD
  ·exact hnd.2.2 b hD b hb rfl
 ·rcases hD with hD|hD
  ·exact hst.ds b hD
  ·exact HM.flt hst.hm b (by simp[hD])
theorem GCalls.see {P:Program} {f:FuncId} {gs gs':List GV} {H:GH} {R:GV→GH→Prop} (h:GCalls P f gs' H R) (hb:BorL [] gs gs'):GCalls P f gs H R:=fun w D Ω args hst hargs=>
 h w D Ω args hst ((ML.keep (S:=fun _ => True) (Kept.refl _ _) (fun _ _ => trivial) (fun b hb=>by simpa using hb) _ _ _ (fun _ _ => trivial)) (hb w D [] args (St.nil hst.ds) hargs))
abbrev Bs (bs:List UInt8):GV:= .sl 1 (bs.map fun b=> .val (.int .u8 b.toNat))
abbrev Cu (bs:List UInt8) (i h:Int):GV:= .agg [Bs bs,I i,I h]
def isC (e:GV):Prop:=∃bs i h,e=Cu bs i h∧0≤i∧i≤bs.length∧bs.length≤9223372036854775807
theorem MF.u8 {w:World} {D:Nat→Prop}:∀(bs:List UInt8),MF w D 1 (bs.map fun b=>GV.val (.int .u8 b.toNat)) (bs.map fun b=>Value.int .u8 b.toNat) []
 | []=>by simp[MF]
 | b::bs=>by
  simp only[List.map_cons,MF]
  exact ⟨.int .u8 b.toNat,_,[],[],rfl,rfl,by intro x hx;simp[Value.cells] at hx;subst hx;rfl,rfl,by simp[MV],MF.u8 bs⟩
theorem MF.u8' {w:World} {D:Nat→Prop}:∀(bs:List UInt8) (cs:List Value) (F:List Nat),MF w D 1 (bs.map fun b=>GV.val (.int .u8 b.toNat)) cs F→cs=bs.map fun b=>Value.int .u8 b.toNat
 | [],cs,F,h=>by simp only[List.map_nil,MF] at h;exact h.1
 | b::bs,cs,F,h=>by
  simp only[List.map_cons,MF] at h
  obtain ⟨v,cs',F1,F2,rfl,_,_,_,h1,h2⟩:=h
  simp only[MV] at h1
  rw[h1.1,MF.u8' bs cs' F2 h2]
  rfl
theorem MV.cur {w : World} {D : Nat → Prop} {v : Value} {F : List Nat} (h : MV w D .cur v F) : ∃ e, isC e ∧ MV w D e v F := by
  simp only [MV] at h
  obtain ⟨rfl, bs, i, n, sv, rfl, h1, h2, h3⟩ := h
  refine ⟨Cu bs i n, ⟨bs, i, n, rfl, h1, h2, by rcases h3 with ⟨rfl, _⟩ | ⟨_, _, _, _, _, h, _⟩
                                                · simp
                                                · exact h⟩, ?_⟩
  simp only [MV]
  refine ⟨[sv, .int .i64 i, .int .i64 n], rfl, ?_, ?_⟩
  · have : sv.oneCell' = true := by
      rcases h3 with ⟨_, a, cap, rfl⟩ | ⟨b, off, cap, rfl, _⟩ <;> rfl
    simp [this]
    exact ⟨rfl, rfl⟩
  · simp only [ML]
    refine ⟨sv, _, [], [], rfl, rfl, ?_, _, _, [], [], rfl, rfl, by simp [MV], _, _, [], [], rfl, rfl, by simp [MV], rfl, rfl⟩
    simp only [MV]
    refine ⟨trivial, ?_⟩
    rcases h3 with ⟨rfl, h3⟩ | ⟨b, off, cap, k1, k2, k3, k4, k5⟩
    · exact .inl ⟨rfl, h3⟩
    · exact .inr ⟨b, off, cap, _, by simpa using k1, by simpa using k2, by simpa using k3, k4, k5, MF.u8 bs⟩
theorem MV.uncur {w:World} {D:Nat→Prop} {e:GV} (he:isC e) {v:Value} {F:List Nat} (h:MV w D e v F):MV w D .cur v F:=by
 obtain ⟨bs,i,n,rfl,h1,h2,_⟩:=he
 simp only[MV,ML] at h
 obtain ⟨vs,rfl,_,v1,vs1,F1,F2,rfl,rfl,hs,v2,vs2,F3,F4,rfl,rfl,hi,v3,vs3,F5,F6,rfl,rfl,hn,rfl,rfl⟩:=h
 obtain ⟨rfl,rfl⟩:=hi
 obtain ⟨rfl,rfl⟩:=hn
 obtain ⟨rfl,hs⟩:=hs
 simp only[MV]
 refine ⟨rfl,bs,i,n,v1,rfl,h1,h2,?_⟩
 rcases hs with ⟨k1,k2⟩|⟨b,off,cap,cs,k1,k2,k3,k4,k5,k6⟩
 ·exact .inl ⟨by simpa using k1,k2⟩
 ·have:=MF.u8' bs cs [] k6
  subst this
  exact .inr ⟨b,off,cap,by simpa using k1,by simpa using k2,by simpa using k3,k4,k5⟩
theorem St.exch1 {w:World} {D:Nat→Prop} {H:GH} {Ω:List Nat} (h:St w D H Ω) {r sz i:Nat} {es:List GV} {e:GV} {p:GV→Prop} (hr:Z3 H r=some (sz,es)) (he:es[i]? = some e) (hx:∀v F,MV w D e v F→∃e',p e'∧MV w D e' v F) :
 ∃e',p e'∧St w D (ZX H r (es.set i e')) Ω:=by
 obtain ⟨Ω1,F',Ω2,hΩ,hR,hput,_⟩:=HM.take h.hm hr
 obtain ⟨b,c,T,fz,F0,k1,k2,k3,k4,k5,k6,k7⟩:=hR.es_ne (fun e=>by rw[e] at he;simp at he)
 obtain ⟨pre,v,post,A1,Ai,A2,m1,m2,m3,m4,m5,m6,m7⟩:=MF.split sz es _ F0 i _ k7 he
 obtain ⟨e',hp,hx⟩:=hx _ _ m6
 have hmf:=m7 w D (fun _ => True) e' v Ai (Kept.refl _ _) (fun _ _ => trivial) (fun _ h=>h) (fun _ _ => trivial) m3 m4 hx
 rw[←m1,←m5] at hmf
 have hRM:RM w D r sz (es.set i e') F':= .inl ⟨b,c,T,fz,F0,k1,k2,k3,by simpa using k4,by simpa using k5,k6,by simpa using hmf⟩
 have hfin:=hput w D (fun _ => True) _ _ (Kept.refl _ _) (fun _ _ => trivial) (fun _ h=>h) (fun _ _ => trivial) hRM
 rw[←hΩ] at hfin
 exact ⟨e',hp,hfin,h.nd,by rw[YA];exact h.nn,h.dj,h.ds⟩
theorem GCalls.open {P:Program} {f:FuncId} {gs:List GV} {rc:Nat} {H:GH} {R:GV→GH→Prop} (h:∀e,isC e→GCalls P f gs ((rc,3,[e])::H) R):GCalls P f gs ((rc,3,[.cur])::H) R:=by
 intro w D Ω args hst hargs
 obtain ⟨e',h1,h2⟩:=hst.exch1 (r:=rc) (i:=0) (sz:=3) (es:=[.cur]) (p:=isC) (by simp[Z3]) rfl fun v F h=>h.cur
 have e:ZX ((rc,3,[GV.cur])::H) rc ([GV.cur].set 0 e')=(rc,3,[e'])::H:=by simp[ZX]
 rw[e] at h2
 exact h e' h1 w D Ω args h2 hargs
theorem FE.uncur {env:Env} {rc:Nat} {e:GV} {H:GH} (he:isC e):FE env ((rc,3,[e])::H) env ((rc,3,[.cur])::H):=by
 have:=FE.exch (env:=env) (H:=(rc,3,[e])::H) (r:=rc) (i:=0) (e:=e) (e':= .cur) (sz:=3) (es:=[e]) (by simp[Z3]) rfl fun w D v F h=>h.uncur he
 simpa[ZX] using this
theorem FR.uncur {g:GV} {rc:Nat} {e:GV} {H:GH} (he:isC e):FR g ((rc,3,[e])::H) g ((rc,3,[.cur])::H):=by
 intro w D Ω v hv hst
 have h2:=hst.exch (r:=rc) (i:=0) (e:=e) (e':= .cur) (sz:=3) (es:=[e]) (by simp[Z3]) rfl fun v F h=>h.uncur he
 have e:ZX ((rc,3,[e])::H) rc ([e].set 0 GV.cur)=(rc,3,[.cur])::H:=by simp[ZX]
 rw[e] at h2
 exact ⟨D,Ω,hv,h2,Ev.refl _ _ _⟩
theorem hget_split {r:Nat} {x:Nat×List GV}:∀{H:GH},Z3 H r=some x→∃A B,H=A++(r,x)::B∧r∉names A
 | [],h=>by simp[Z3] at h
 | (q,y)::H,h=>by
  simp only[Z3] at h
  split at h
  ·rename_i e
   subst e
   simp only[Option.some.injEq] at h
   subst h
   exact ⟨[],H,rfl,by simp[names]⟩
  ·rename_i hne
   obtain ⟨A,B,h1,h2⟩:=hget_split h
   exact ⟨(q,y)::A,B,by rw[h1];rfl,by simp only[names,List.map_cons,List.mem_cons,not_or];exact ⟨fun e=>hne e.symm,h2⟩⟩
theorem count_mid {x:Nat} (a b c:List Nat):(a++(b++c)).count x=(b++(a++c)).count x:=by
 simp only[List.count_append];omega
theorem St.mid {w:World} {D:Nat→Prop} {A B:GH} {y:Nat×Nat×List GV} {Ω:List Nat} (h:St w D (A++y::B) Ω):∃Ω',St w D (y::(A++B)) Ω'∧(∀x,x∈Ω'↔x∈Ω):=by
 obtain ⟨Ω1,Ω2,rfl,h1,h2⟩:=HM.parted h.hm
 obtain ⟨r,sz,es⟩:=y
 obtain ⟨F1,F2,rfl,h3,h4⟩:=h2
 refine ⟨F1++(Ω1++F2),⟨⟨F1,_,rfl,h3,HM.append h1 h4⟩,?_,?_,?_,h.ds⟩,fun x=>by simp only[List.mem_append];exact or_left_comm⟩
 ·have:=h.nd
  rw[List.nodup_iff_count] at this ⊢
  intro x;rw[←count_mid];exact this x
 ·have:=h.nn
  simp only[names,List.map_append,List.map_cons] at this ⊢
  rw[List.nodup_iff_count] at this ⊢
  intro x
  have:=this x
  simp only[List.count_append,List.count_cons] at this ⊢
  omega
 ·intro x hx
  exact h.dj x (by simp only[List.mem_append] at hx ⊢;exact or_left_comm.1 hx)
theorem St.mid' {w:World} {D:Nat→Prop} {A B:GH} {y:Nat×Nat×List GV} {Ω:List Nat} (h:St w D (y::(A++B)) Ω):∃Ω',St w D (A++y::B) Ω'∧(∀x,x∈Ω'↔x∈Ω):=by
 obtain ⟨r,sz,es⟩:=y
 obtain ⟨F1,F2,rfl,h3,h4⟩:=h.hm
 obtain ⟨Ω1,Ω2,rfl,h1,h2⟩:=HM.parted h4
 refine ⟨Ω1++(F1++Ω2),⟨HM.append h1 ⟨F1,_,rfl,h3,h2⟩,?_,?_,?_,h.ds⟩,fun x=>by simp only[List.mem_append];exact or_left_comm⟩
 ·have:=h.nd
  rw[List.nodup_iff_count] at this ⊢
  intro x;rw[count_mid];exact this x
 ·have:=h.nn
  simp only[names,List.map_append,List.map_cons] at this ⊢
  rw[List.nodup_iff_count] at this ⊢
  intro x
  have:=this x
  simp only[List.count_append,List.count_cons] at this ⊢
  omega
 ·intro x hx
  exact h.dj x (by simp only[List.mem_append] at hx ⊢;exact or_left_comm.1 hx)
def Dc (P:Program) (f:FuncId) (gs:List GV) (R:GV→GH→Prop):Prop:=
 ∀rc H,GCalls P f (.ptr rc 3 0 0::gs) ((rc,3,[.cur])::H) (fun g H'=>∃H1,R g H1∧H'=H1++(rc,3,[.cur])::H)
abbrev Dv (P:Program) (f:FuncId) (gs:List GV) (R:GV→Prop):Prop:=Dc P f gs (fun g H1=>R g∧H1=[])
theorem Dc.mono {P:Program} {f:FuncId} {gs:List GV} {R R':GV→GH→Prop} (h:Dc P f gs R) (hr:∀g H1,R g H1→R' g H1):Dc P f gs R':=
 fun rc H=>(h rc H).mono fun g H' ⟨H1,h1,h2⟩=>⟨H1,hr g H1 h1,h2⟩
theorem Dc.see {P:Program} {f:FuncId} {gs gs':List GV} {R:GV→GH→Prop} (h:Dc P f gs' R) (hb:BorL [] gs gs'):Dc P f gs R:=
 fun rc H=>(h rc H).see (.cons .refl hb)
theorem Dc.of {P:Program} {f:FuncId} {gs:List GV} {R:GV→GH→Prop}
 (h:∀rc H,GCalls P f (.ptr rc 3 0 0::gs) ((rc,3,[.cur])::H) (fun g H'=>∃G H1 T L,R G H1∧Bor L g G∧H'=T++H∧subH T (L++(H1++[(rc,3,[.cur])])))):Dc P f gs R:=
 fun rc H=>(h rc H).fr fun g H' ⟨G,H1,T,L,h1,h2,h3,h4⟩=>by
  subst h3
  refine ⟨G,H1++(rc,3,[.cur])::H,FR.trans (FR.perm h4) ?_,H1,h1,rfl⟩
  rw[List.append_assoc,List.append_assoc]
  exact FR.front h2
theorem Dv.of {P:Program} {f:FuncId} {gs:List GV} {R:GV→Prop}
 (h:∀rc H,GCalls P f (.ptr rc 3 0 0::gs) ((rc,3,[.cur])::H) (fun g H'=>∃G T L,R G∧Bor L g G∧H'=T++H∧subH T (L++[(rc,3,[.cur])]))):Dv P f gs R:=
 Dc.of fun rc H=>(h rc H).mono fun g H' ⟨G,T,L,h1,h2,h3,h4⟩=>⟨G,[],T,L,⟨h1,rfl⟩,h2,h3,h4⟩
theorem Dv.of0 {P:Program} {f:FuncId} {gs:List GV} {R:GV→Prop}
 (h:∀rc H,GCalls P f (.ptr rc 3 0 0::gs) ((rc,3,[.cur])::H) (fun g H'=>R g∧H'=(rc,3,[.cur])::H)):Dv P f gs R:=
 fun rc H=>(h rc H).mono fun g H' ⟨h1,h2⟩=>⟨[],⟨h1,rfl⟩,h2⟩
theorem Dc.at {P:Program} {f:FuncId} {gs:List GV} {R:GV→GH→Prop} (h:Dc P f gs R) {rc:Nat} {H:GH} (hr:Z3 H rc=some (3,[.cur])) :
 GCalls P f (.ptr rc 3 0 0::gs) H (fun g H'=>∃H1,R g H1∧H'=H1++H):=by
 obtain ⟨A,B,rfl,hn⟩:=hget_split hr
 intro w D Ω args hst hargs
 obtain ⟨Ω',h1,h2⟩:=hst.mid
 refine Yld.mono (fun v w' ⟨g,H',D',Ω'',⟨H1,k0,k1⟩,k2,k3,k4⟩=> ?_) (h rc (A++B) w D Ω' args h1 hargs)
 subst k1
 have k3':St w' D' ((H1++[(rc,3,[.cur])])++(A++B)) Ω'':=by simpa using k3
 obtain ⟨Ω3,m1,m2⟩:∃Ω3,St w' D' (H1++(A++(rc,3,[.cur])::B)) Ω3∧∀x,x∈Ω3↔x∈Ω'':=by
  obtain ⟨Ωa,q1,q2⟩:=(show St w' D' (H1++(rc,3,[GV.cur])::(A++B)) Ω'' from k3).mid
  rw[←List.append_assoc] at q1
  obtain ⟨Ωb,q3,q4⟩:=q1.mid'
  rw[List.append_assoc] at q3
  exact ⟨Ωb,q3,fun x=>(q4 x).trans (q2 x)⟩
 exact ⟨g,_,D',Ω3,⟨H1,k0,rfl⟩,k2,m1,
  ⟨k4.d0,fun b hb hD=>(k4.dn b hb hD).imp id (h2 b).1,fun b hb hl=>(h2 b).1 (k4.on b ((m2 b).1 hb) hl),k4.kp.mono fun b _ hb hb'=>hb ((h2 b).1 hb'),k4.os,k4.tape,k4.output⟩⟩
theorem callS.dc {P:Program} {f:FuncId} {gs:List GV} {R:GV→GH→Prop} {K:Env→GH→Prop} {is:List GI} {env:Env} {H:GH} {d:Option Nat} {rc:Nat} (h:Dc P f gs R) (hr:Z3 H rc=some (3,[.cur]))
 (hk:∀g H1,R g H1→(names (H1++H)).Nodup → Z5 P is K (gput env d g) (H1++H)):callS P false f (some (.ptr rc 3 0 0::gs)) d is K env H:=
 callS.of (h.at hr) fun g H' ⟨H1,h1,h2⟩ hn=>by subst h2;exact hk g H1 h1 hn
theorem callS.dv {P:Program} {f:FuncId} {gs:List GV} {R:GV→Prop} {K:Env→GH→Prop} {is:List GI} {env:Env} {H:GH} {d:Option Nat} {rc:Nat} (h:Dv P f gs R) (hr:Z3 H rc=some (3,[.cur]))
 (hk:∀g,R g→Z5 P is K (gput env d g) H):callS P false f (some (.ptr rc 3 0 0::gs)) d is K env H:=
 callS.dc h hr fun g H1 ⟨h1,h2⟩ _ => by subst h2;exact hk g h1
theorem callA.dc {P:Program} {f:FuncId} {gs:List GV} {R:GV→GH→Prop} {K:Env→GH→Prop} {is:List GI} {env:Env} {H:GH} {d:Option Nat} {rc:Nat} (h:Dc P f gs R) (hr:Z3 H rc=some (3,[.cur]))
 (hk:∀g H1,R g H1→(names (H1++H)).Nodup → Z5 P is K (gput env d g) (H1++H)):callA P f (some (.ptr rc 3 0 0::gs)) d is K env H:=
 ⟨R,h.at hr,hk⟩
theorem callA.dv {P:Program} {f:FuncId} {gs:List GV} {R:GV→Prop} {K:Env→GH→Prop} {is:List GI} {env:Env} {H:GH} {d:Option Nat} {rc:Nat} (h:Dv P f gs R) (hr:Z3 H rc=some (3,[.cur]))
 (hk:∀g,R g→Z5 P is K (gput env d g) H):callA P f (some (.ptr rc 3 0 0::gs)) d is K env H:=
 callA.dc h hr fun g H1 ⟨h1,h2⟩ _ => by subst h2;exact hk g h1
end Go.Gh
namespace Go.Gh
theorem andI_le {a:Int} {m:Nat} (hm:m<2 ^ 62):0≤andI .i64 a m∧andI .i64 a m≤m:=by
 have h1:(BitVec.ofInt 64 a &&& BitVec.ofInt 64 (m:Int)).toNat ≤ m:=by
  rw[BitVec.toNat_and]
  refine Nat.le_trans Nat.and_le_right ?_
  rw[BitVec.toNat_ofInt]
  omega
 have h2:andI .i64 a m=(IntKind.i64).wrap (BitVec.ofInt 64 a &&& BitVec.ofInt 64 (m:Int)).toNat := rfl
 have h3:(IntKind.i64).wrap ((BitVec.ofInt 64 a &&& BitVec.ofInt 64 (m:Int)).toNat : Int)=(BitVec.ofInt 64 a &&& BitVec.ofInt 64 (m:Int)).toNat := by
  have:(((BitVec.ofInt 64 a &&& BitVec.ofInt 64 (m:Int)).toNat : Int))<4611686018427387904:=by
   have:(2:Nat) ^ 62=4611686018427387904:=by decide
   omega
  generalize ((BitVec.ofInt 64 a &&& BitVec.ofInt 64 (m:Int)).toNat)=k at *
  simp only[IntKind.wrap,IntKind.signed,IntKind.bits]
  simp
  omega
 rw[h2,h3]
 omega
theorem andI_255 (a:Int):∃k:Nat,andI .i64 a 255=k∧k<256:=by
 have h:=andI_le (a:=a) (m:=255) (by decide)
 have h':0≤andI .i64 a 255∧andI .i64 a 255≤255:=h
 exact ⟨(andI .i64 a 255).toNat,by omega,by omega⟩
theorem XS (s:ByteArray):(Z8 s).length = s.size:=by
 show s.data.toList.length=s.data.size
 exact Array.length_toList
theorem okE_of:∀(e:Exp),wEx e≤1048576→okE e:=by
 refine Exp.indA fun e ih h=> ?_
 rw[wEx_eq] at h
 rw[okE_eq]
 have h1:=XS e.sym
 have h2:=XS e.name
 have hw:wtS wEx e.args≤1048576:=by omega
 have hm:(1048576:Nat)≤maxLen:=by decide
 refine ⟨by omega,by omega,fun a ha=>ih a ha ?_⟩
 exact (wtS_mem hw).2 a ha
def shT (s:ByteArray):Prop:=s.size≤16
def shEx (e:Exp):Prop:=wEx e≤200000
theorem shEx_ok {e:Exp} (h:shEx e):okE e∧wEx e≤1048576:=by
 unfold shEx at h
 exact ⟨okE_of e (by omega),by omega⟩
theorem wEx_leaf {k n p t:Int} {s m:ByteArray} (hs:shT s) (hm:shT m):wEx (.mk k n p t s m [])≤32:=by
 have h1:=XS s
 have h2:=XS m
 unfold shT at hs hm
 simp only[wEx,wExL,List.length_nil]
 omega
def shD (d:Nat) (e:Exp):Prop:=wEx e≤40 * 4 ^ d
theorem shD_mono {a b:Nat} {e:Exp} (h:a≤b) (he:shD a e):shD b e:=by
 unfold shD at *
 have:=Nat.pow_le_pow_right (n:=4) (by decide) h
 omega
theorem shD_leaf {d:Nat} {k n p t:Int} {s m:ByteArray} (hs:shT s) (hm:shT m):shD d (.mk k n p t s m []):=by
 have:=wEx_leaf (k:=k) (n:=n) (p:=p) (t:=t) hs hm
 have h2:0<4 ^ d:=Nat.pow_pos (by decide)
 unfold shD;omega
theorem shD_node {d:Nat} {k n p t:Int} {s m:ByteArray} {l:List Exp} (hs:shT s) (hm:shT m) (hl:l.length≤3) (h:∀e∈l,shD d e):shD (d+1) (.mk k n p t s m l):=by
 have h1:=XS s
 have h2:=XS m
 have h3:0<4 ^ d:=Nat.pow_pos (by decide)
 have h4:∀(l:List Exp),(∀e∈l,shD d e)→wExL l≤l.length * (40 * 4 ^ d):=by
  intro l
  induction l with
  | nil=>intro _;simp[wExL]
  | cons e l ih=>
   intro h
   have:=ih fun x hx=>h x (by simp[hx])
   have h5:wEx e≤40 * 4 ^ d:=h e (by simp)
   simp only[wExL,List.length_cons]
   rw[Nat.succ_mul]
   omega
 have h5:=h4 l h
 have h6:l.length * (40 * 4 ^ d)≤3 * (40 * 4 ^ d):=Nat.mul_le_mul_right _ hl
 unfold shT at hs hm
 unfold shD
 simp only[wEx]
 rw[Nat.pow_succ]
 omega
theorem shD_ex {d:Nat} {e:Exp} (hd:d≤6) (h:shD d e):shEx e:=by
 have:=Nat.pow_le_pow_right (n:=4) (by decide) hd
 have h6:4 ^ 6=4096:=by decide
 unfold shD at h;unfold shEx;omega
def ltT:GV→Bool
 | .val (.string s)=>decide (s.size≤16)
 | _ => false
def ltI (lo hi:Int):GV→Bool
 | .val (.int .i64 n)=>decide (lo≤n∧n≤hi)
 | _ => false
theorem ltT_mem {es:List GV} (h:es.all ltT=true) {g:GV} (hg:g∈es):∃s,shT s∧g=T s:=by
 have:=List.all_eq_true.1 h g hg
 unfold ltT at this
 split at this
 ·exact ⟨_,by simpa[shT] using this,rfl⟩
 ·cases this
theorem ltI_mem {lo hi:Int} {es:List GV} (h:es.all (ltI lo hi)=true) {g:GV} (hg:g∈es):∃n:Int,(lo≤n∧n≤hi)∧g=I n:=by
 have:=List.all_eq_true.1 h g hg
 unfold ltI at this
 split at this
 ·exact ⟨_,by simpa using this,rfl⟩
 ·cases this
def noAg (es:List GV):Bool:=es.all fun e=> !isAgg e&&nraw e
theorem notAgg {es:List GV} (h:noAg es=true) (k:Nat) (hk:k<es.length):isAgg es[k]=false:=by
 have:=List.all_eq_true.1 h _ (List.getElem_mem hk)
 simp only[Bool.and_eq_true] at this
 simpa using this.1
theorem notRaw {es:List GV} (h:noAg es=true) (k:Nat) (hk:k<es.length):geR (some es[k])=some es[k]:=by
 have:=List.all_eq_true.1 h _ (List.getElem_mem hk)
 simp only[Bool.and_eq_true] at this
 have h2:=this.2
 cases h3:es[k]<;>first|rfl|(rw[h3] at h2;simp[nraw] at h2)
abbrev ExN (e:Exp):GV:= .agg [I e.kind,I e.n,I e.pos,I e.type,T e.sym,T e.name,.val (.slice none 0 0)]
abbrev ExR (e:Exp) (r:Nat):GV:= .agg [I e.kind,I e.n,I e.pos,I e.type,T e.sym,T e.name,.own r 7 0 e.args.length]
def ExW (e:Exp) (g:GV) (H1:GH):Prop:=(e.args=[]∧g=ExN e∧H1=[])∨∃r,g=ExR e r∧H1=[(r,7,e.args.map Ex)]
theorem bor_ExN {H:GH} {e:Exp} (h:e.args=[]):Bor H (ExN e) (Ex e):=by
 rw[ZC,h]
 exact .agg (.cons .refl (.cons .refl (.cons .refl (.cons .refl (.cons .refl (.cons .refl (.cons .nil .nil)))))))
theorem bor_ExR {H:GH} {e:Exp} {r:Nat} (h:Z3 H r=some (7,e.args.map Ex)):Bor H (ExR e r) (Ex e):=by
 rw[ZC]
 exact .agg (.cons .refl (.cons .refl (.cons .refl (.cons .refl (.cons .refl (.cons .refl (.cons (Bor.allM view_Ex h rfl) .nil)))))))
theorem ExW.bor {e:Exp} {g:GV} {H1:GH} (h:ExW e g H1):Bor H1 g (Ex e):=by
 rcases h with ⟨h,rfl,rfl⟩|⟨r,rfl,rfl⟩
 ·exact bor_ExN h
 ·exact bor_ExR Z4
theorem Dc.frz {P:Program} {f:FuncId} {gs:List GV} {R:GV→GH→Prop} {p:GV→Prop} (h:Dc P f gs R) (hb:∀g H1,R g H1→∃G,p G∧Bor H1 g G):Dv P f gs p:=fun rc H=>
 (h rc H).fr fun g H' ⟨H1,h1,h2⟩=>by
  subst h2
  obtain ⟨G,k1,k2⟩:=hb g H1 h1
  exact ⟨G,_,FR.front k2,[],⟨k1,rfl⟩,rfl⟩
theorem Dc.exp {P:Program} {f:FuncId} {gs:List GV} {p:Exp→Prop} (h:Dc P f gs (fun g H1=>∃e,p e∧ExW e g H1)):Dv P f gs (fun g=>∃e,p e∧g=Ex e):=
 h.frz fun _ _ ⟨e,h1,h2⟩=>⟨_,⟨e,h1,rfl⟩,h2.bor⟩
theorem u64_nn (a:Int):0≤IntKind.u64.wrap a:=by
 simp only[IntKind.wrap,IntKind.signed,IntKind.bits]
 simp
 omega
instance (s:ByteArray):Decidable (shT s):=inferInstanceAs (Decidable (s.size≤16))
theorem bor_ExV {H:GH} {k n p t:Int} {s m:ByteArray} {r q:Nat} {l:List Exp} (h:Z3 H r=some (7,l.map Ex)) (hl:l.length=q):Bor H (.agg [I k,I n,I p,I t,T s,T m,.own r 7 0 q]) (Ex (.mk k n p t s m l)):=by
 subst hl
 exact bor_ExR (e:= .mk k n p t s m l) h
theorem Dc.own {P:Program} {f:FuncId} {gs:List GV} {p:Exp→Prop} (h:Dc P f gs (fun g H1=>∃e,p e∧ExW e g H1)):Dc P f gs (fun g H1=>∃e r,p e∧g=ExR e r∧H1=[(r,7,e.args.map Ex)]):=fun rc H=>
 (h rc H).fr fun g H' ⟨H1,⟨e,h1,h2⟩,h3⟩=>by
  subst h3
  rcases h2 with ⟨h0,rfl,rfl⟩|⟨r,rfl,rfl⟩
  ·obtain ⟨v,hv,hn⟩:=vfresh (names ((rc,3,[.cur])::H))
   refine ⟨ExR e v,(v,7,[])::(rc,3,[.cur])::H,FR.trans (FR.sub ?_) (FR.addv hv hn),[(v,7,[])],⟨e,v,h1,rfl,by rw[h0];rfl⟩,rfl⟩
   have h5:e.args.length=0:=by rw[h0];rfl
   show Bor [] (ExN e) (.agg [I e.kind,I e.n,I e.pos,I e.type,T e.sym,T e.name,.own v 7 0 e.args.length])
   rw[h5]
   exact .agg (.cons .refl (.cons .refl (.cons .refl (.cons .refl (.cons .refl (.cons .refl (.cons Bor.virt .nil)))))))
  ·exact ⟨_,_,FR.refl _ _,_,⟨e,r,h1,rfl,rfl⟩,rfl⟩
theorem FE.frzE {env:Env} {H:GH} {re r q:Nat} {k n p t:Int} {s m:ByteArray} {l:List Exp} (hne:¬re=r) (hl:l.length=q) :
 FE env ((r,7,l.map Ex)::(re,7,[.agg [I k,I n,I p,I t,T s,T m,.own r 7 0 q]])::H) env ((re,7,[Ex (.mk k n p t s m l)])::H):=by
 refine FE.trans (FE.close (r:=re) (r1:=r) (i:=0) (j:=6) hne (by simp[Z3,Ne.symm hne];exact ⟨rfl,rfl⟩) rfl rfl Z4 (by simpa using hl)) ?_
 have e:ZL (ZX ((r,7,l.map Ex)::(re,7,[GV.agg [I k,I n,I p,I t,T s,T m,.own r 7 0 q]])::H) re ([GV.agg [I k,I n,I p,I t,T s,T m,.own r 7 0 q]].set 0 (.agg ([I k,I n,I p,I t,T s,T m,.own r 7 0 q].set 6 (.osl 7 (l.map Ex)))))) r =
  (re,7,[GV.agg [I k,I n,I p,I t,T s,T m,.osl 7 (l.map Ex)]])::H:=by
  simp[ZX,ZL,Ne.symm hne]
 rw[e]
 refine FE.frzV ?_
 have e2:(l.map Ex).map view=l.map Ex:=by
  rw[List.map_map];exact List.map_congr_left fun a _ => view_Ex a
 rw[ZC]
 simp[YJ,view,X2,e2]
 exact ⟨rfl,rfl,rfl,rfl,rfl,rfl,rfl⟩
theorem shEx_upd {e:Exp} {k n p t:Int} {m:ByteArray} (hm:shT m∨m=e.name) (h:wEx e≤60000):shEx (.mk k n p t e.sym m e.args):=by
 rw[wEx_eq] at h
 have h1:=XS m
 unfold shEx
 rw[wEx_eq]
 show (Z8 e.sym).length + (Z8 m).length + wtS wEx e.args≤200000
 rcases hm with hm|rfl
 ·unfold shT at hm;omega
 ·omega
theorem Bor.exch {H:GH} {r sz i:Nat} {es:List GV} {e e' g g':GV} (hr:Z3 H r=some (sz,es)) (he:es[i]? = some e) (hx:∀w D v F,MV w D e v F→MV w D e' v F) (hb:Bor (ZX H r (es.set i e')) g g'):Bor H g g':=
 fun w D Ω v hst hm=>hb w D Ω v (hst.exch hr he (hx w D)) hm
theorem MV.exn {e:Exp} (h:e.args=[]):∀w D v F,MV w D (ExN e) v F→MV w D (Ex e) v F:=fun w D v F hm=>by
 have:=MV.fld (j:=6) (g':= .sl 7 []) rfl MV.nil_sl v F hm
 rw[ZC,h]
 exact this
theorem bor_ExApp {H:GH} {k n p t:Int} {s m:ByteArray} {r q:Nat} {l:List Exp} {e:Exp} (h:Z3 H r=some (7,l.map Ex++[ExN e])) (he:e.args=[]) (hl:l.length+1=q):Bor H (.agg [I k,I n,I p,I t,T s,T m,.own r 7 0 q]) (Ex (.mk k n p t s m (l++[e]))):=by
 refine Bor.exch (i:=l.length) h (by simp) (MV.exn he) ?_
 have e2:(l.map Ex++[ExN e]).set l.length (Ex e)=(l++[e]).map Ex:=by
  rw[List.set_append_right _ _ (by simp)]
  simp
 rw[e2]
 refine bor_ExV ?_ (by simpa using hl)
 have:∀{H:GH} {x:Nat×List GV} {fs:List GV},Z3 H r=some x→Z3 (ZX H r fs) r=some (x.1,fs):=by
  intro H
  induction H with
  | nil=>intro x fs h;cases h
  | cons y H ih=>
   obtain ⟨a,b,c⟩:=y
   intro x fs h
   simp only[Z3,ZX] at h ⊢
   split at h
   ·rename_i e3
    simp only[Option.some.injEq] at h
    subst h
    simp[e3,Z3]
   ·rename_i e3
    simp only[if_neg e3,Z3]
    exact ih h
 exact this h
theorem wEx_app {k n p t:Int} {s m:ByteArray} {l:List Exp} {e:Exp}:wEx (.mk k n p t s m (l++[e]))=wEx (.mk k n p t s m l)+1+wEx e:=by
 rw[wEx_eq (.mk k n p t s m (l++[e])),wEx_eq (.mk k n p t s m l)]
 show (Z8 s).length + (Z8 m).length + wtS wEx (l++[e])=(Z8 s).length + (Z8 m).length + wtS wEx l+1+wEx e
 simp only[wtS,List.length_append,List.map_append,List.sum_append,List.length_cons,List.length_nil,List.map_cons,List.map_nil,List.sum_cons,List.sum_nil]
 omega
theorem wEx_lit {k n p t:Int}:wEx (.mk k n p t noS noS [])=0:=by simp[wEx,wExL];rfl
theorem wEx_op {op:Int} {a b:Exp}:wEx (.mk 4 op 0 0 noS noS [a,b])=wEx a+wEx b+2:=by
 simp only[wEx,wExL,List.length_cons,List.length_nil]
 show 0+0 + _ = _
 omega
end Go.Gh
namespace Go.Gh
open Lib
theorem num_lt {ts:List Tok} {i j:Nat} {lo hi n:Int} (h:Zs ts i lo hi = .ok n j):i<ts.length:=by
 unfold Zs at h
 split at h
 ·rename_i hc;exact hc.1
 ·cases h
theorem neA_get {r q:Nat} {x:Nat×List GV}:∀{H:GH},neA r H→Z3 H q=some x→r≠q
 | [],_,h=>by cases h
 | (p,y)::H,hn,h=>by
  simp only[neA] at hn
  simp only[Z3] at h
  split at h
  ·rename_i e;subst e;exact hn.1
  ·exact neA_get hn.2.2 h
abbrev EO (r:Nat) (e:Exp):GV:= .agg [I e.kind,I e.n,I e.pos,I e.type,T e.sym,T e.name,.own r 7 0 e.args.length]
def EP (S:Nat→Bool→GV) (P:PR Exp) (rp:Nat) (H:GH) (g:GV) (H':GH):Prop:=
 ∃e r,g=EO r e∧H'=(r,7,e.args.map ExO)::ZX H rp [S P.at P.err]∧∀a j,P = .ok a j→e=a
theorem FR.nilE {e:Exp} (he:e.args=[]) (H:GH):∃r,FR (ExN e) H (EO r e) ((r,7,e.args.map ExO)::H):=by
 obtain ⟨r,ho,hq⟩:=vfresh (names H)
 refine ⟨r,?_⟩
 have hl:e.args.length=0:=by rw[he];rfl
 show FR (ExN e) H (.agg [I e.kind,I e.n,I e.pos,I e.type,T e.sym,T e.name,.own r 7 0 e.args.length]) ((r,7,e.args.map ExO)::H)
 rw[hl,he]
 exact FR.trans (FR.addv ho hq) (FR.sub (.agg (.cons .refl (.cons .refl (.cons .refl (.cons .refl (.cons .refl (.cons .refl (.cons .virt .nil)))))))))
end Go.Gh
namespace Go.Gh
open Lib
variable {ts:List Tok}
def BdA {α:Type} (ts:List Tok) (i:Nat) (P:PR α):Prop:=i≤ts.length→i≤P.at∧P.at≤ts.length
theorem BdA.bind {α β:Type} {i:Nat} {P:PR α} {f:α→Nat→PR β} (h:BdA ts i P) (hf:∀a j,BdA ts j (f a j)):BdA ts i (P.bind f):=by
 intro hi
 cases P with
 | bad k=>exact h hi
 | ok b k=>
  obtain ⟨h1,h2⟩:=h hi
  obtain ⟨h3,h4⟩:=hf b k h2
  exact ⟨Nat.le_trans h1 h3,h4⟩
theorem BdA.ite {α:Type} {i:Nat} {c:Prop} [Decidable c] {a b:PR α} (h1:c→BdA ts i a) (h2:¬c→BdA ts i b):BdA ts i (if c then a else b):=by
 by_cases h:c
 ·rw[if_pos h];exact h1 h
 ·rw[if_neg h];exact h2 h
theorem BdA.ok {α:Type} {i:Nat} (a:α):BdA ts i (PR.ok a i):=fun h=>⟨Nat.le_refl _,h⟩
theorem BdA.next {α:Type} {i:Nat} (a:α) (h:i<ts.length):BdA ts i (PR.ok a (i+1)):=fun _ => ⟨Nat.le_succ _,h⟩
theorem BdA.bad {α:Type} {i:Nat}:BdA ts i (PR.bad i:PR α):=fun h=>⟨Nat.le_refl _,h⟩
theorem BdA.skip {α:Type} {i:Nat} {P:PR α} (h:i<ts.length) (hP:BdA ts (i+1) P):BdA ts i P:=fun _ => by
 obtain ⟨h1,h2⟩:=hP h
 exact ⟨by omega,h2⟩
theorem ZG (i:Nat) (w:ByteArray):BdA ts i (ZW ts i w):=by
 unfold ZW;split
 ·rename_i h;exact .next _ (sees_lt h)
 ·exact .bad
theorem ba_num (i:Nat) (lo hi:Int):BdA ts i (Zs ts i lo hi):=by
 unfold Zs;split
 ·rename_i h;exact .next _ h.1
 ·exact .bad
theorem X9 (i:Nat):BdA ts i (ZP ts i):=by
 unfold ZP;split
 ·rename_i h;exact .next _ h.1
 ·exact .bad
theorem ba_set:∀(f i:Nat) (l s:Int),BdA ts i (Y0 ts f i l s)
 | 0,i,l,s=> .bad
 | f+1,i,l,s=>by
  simp only[Y0]
  split
  ·rename_i h;exact .next _ (sees_lt h)
  ·exact (ba_num i l 11).bind fun _ j=>ba_set f j _ _
theorem ba_row {X:Nat→PR Exp} (hX:∀i,BdA ts i (X i)) (lv:Nat):∀(f:Nat) (e:Exp) (i:Nat),BdA ts i (Y5 ts X lv f e i)
 | 0,e,i=> .bad
 | f+1,e,i=>by
  simp only[Y5]
  split
  ·exact .ok _
  ·rename_i h
   refine .skip (op_lt h) ((hX _).bind fun b j=> ?_)
   split
   ·exact .ok _
   ·exact ba_row hX lv f _ _
theorem ba_lv {X:Nat→PR Exp} (hX:∀i,BdA ts i (X i)) (lv i:Nat):BdA ts i (lvP ts X lv i):=(hX i).bind fun e j=>ba_row hX lv _ _ _
theorem ba_atom {E A:Nat→PR Exp} (hE:∀i,BdA ts i (E i)) (hA:∀i,BdA ts i (A i)) (i:Nat):BdA ts i (Zc ts E A i):=by
 unfold Zc
 dsimp only
 refine BdA.ite (fun _ => .bad) fun hi=> ?_
 have hi:i<ts.length:=Decidable.not_not.1 hi
 refine BdA.ite (fun _ => ?_) (fun _ => ?_)
 ·exact .next _ hi
 refine BdA.ite (fun _ => ?_) (fun _ => ?_)
 ·exact .skip hi ((ba_set _ _ _ _).bind fun _ _ => .ok _)
 refine BdA.ite (fun _ => ?_) (fun _ => ?_)
 ·exact .next _ hi
 refine BdA.ite (fun _ => ?_) (fun _ => ?_)
 ·exact .next _ hi
 refine BdA.ite (fun _ => ?_) (fun _ => ?_)
 ·exact .next _ hi
 refine BdA.ite (fun _ => ?_) (fun _ => ?_)
 ·exact .next _ hi
 refine BdA.ite (fun _ => ?_) (fun _ => ?_)
 ·exact .skip hi ((ba_num _ _ _).bind fun _ _ => (ZG _ _).bind fun _ _ => (X9 _).bind fun _ _ => .ok _)
 refine BdA.ite (fun _ => ?_) (fun _ => ?_)
 ·exact .skip hi ((ZG _ _).bind fun _ _ => (ba_num _ _ _).bind fun _ _ => (ZG _ _).bind fun _ _ => .ok _)
 refine BdA.ite (fun _ => ?_) (fun _ => ?_)
 ·exact .skip hi ((hE _).bind fun _ _ => (ZG _ _).bind fun _ _ => .ok _)
 refine BdA.ite (fun _ => ?_) (fun _ => ?_)
 ·exact .skip hi ((ZG _ _).bind fun _ _ => (hE _).bind fun _ _ => (ZG _ _).bind fun _ _ => (hE _).bind fun _ _ => (ZG _ _).bind fun _ _ => .ok _)
 ·exact (X9 _).bind fun _ _ => (ZG _ _).bind fun _ _ => (X9 _).bind fun _ _ => (ZG _ _).bind fun _ _ => (hA _).bind fun _ _ => .ok _
theorem ba_expr {E A:Nat→PR Exp} (hE:∀i,BdA ts i (E i)) (hA:∀i,BdA ts i (A i)) (i:Nat):BdA ts i (YH ts E A i):=by
 unfold YH
 split
 ·rename_i h
  exact .skip (sees_lt h) ((hE _).bind fun _ _ => (ZG _ _).bind fun _ _ => (hE _).bind fun _ _ => (ZG _ _).bind fun _ _ => (hE _).bind fun _ _ => .ok _)
 ·exact ba_lv (fun i=>ba_lv (fun i=>ba_lv hA 3 i) 2 i) 1 i
mutual
theorem ba_E:∀(f i:Nat),BdA ts i (pE ts f i)
 | 0,i=> .bad
 | f+1,i=>ba_expr (fun i=>ba_E f i) (fun i=>ba_A f i) i
theorem ba_A:∀(f i:Nat),BdA ts i (pA ts f i)
 | 0,i=> .bad
 | f+1,i=>ba_atom (fun i=>ba_E f i) (fun i=>ba_A f i) i
end
theorem Zt {α:Type} {b:Bool} {F:Nat→PR α} {i:Nat} (hF:BdA ts i (F i)) (hi:i≤ts.length):(frm b F i).at ≤ ts.length:=by
 cases b with
 | true=>exact hi
 | false=>exact (hF hi).2
end Go.Gh
namespace Go.Gh
open Lib
variable {ts:List Tok}
theorem bc {α β:Type} {i:Nat} (hi:i≤ts.length) {P Q:PR α} (hP:BdA ts i P) (h:P=Q) {f g:α→Nat→PR β} (hf:∀a j,i≤j→j≤ts.length→f a j=g a j):P.bind f=Q.bind g:=by
 subst h
 cases P with
 | bad k=>rfl
 | ok a k=>exact hf a k (hP hi).1 (hP hi).2
theorem row_congr {X X':Nat→PR Exp} (hb:∀i,BdA ts i (X i)) (lv:Nat):∀(F:Nat) (e:Exp) (i:Nat),i≤ts.length→(∀j,i<j→j≤ts.length→X j=X' j)→Y5 ts X lv F e i=Y5 ts X' lv F e i
 | 0,e,i,_,_ => rfl
 | F+1,e,i,hi,h=>by
  simp only[Y5]
  split
  ·rfl
  ·rename_i ho
   have hlt:=op_lt ho
   refine bc (i:=i+1) hlt (hb _) (h _ (by omega) hlt) fun b j h1 h2=> ?_
   split
   ·rfl
   ·exact row_congr hb lv F _ j h2 fun q hq hq2=>h q (by omega) hq2
theorem lv_congr {X X':Nat→PR Exp} (hb:∀i,BdA ts i (X i)) (lv i:Nat) (hi:i≤ts.length) (h:∀j,i≤j→j≤ts.length→X j=X' j):lvP ts X lv i=lvP ts X' lv i:=
 bc hi (hb i) (h i (Nat.le_refl _) hi) fun e j h1 h2=>row_congr hb lv _ e j h2 fun q hq hq2=>h q (by omega) hq2
theorem atom_congr {E E' A A':Nat→PR Exp} (hE:∀i,BdA ts i (E i)) (hA:∀i,BdA ts i (A i)) (i:Nat) (hi:i≤ts.length) (h1:∀j,i<j→j≤ts.length→E j=E' j) (h2:∀j,i<j→j≤ts.length→A j=A' j):Zc ts E A i=Zc ts E' A' i:=by
 by_cases hlt:i<ts.length
 ·unfold Zc
  dsimp only
  rw[if_neg (not_not_intro hlt),if_neg (not_not_intro hlt)]
  have hi1:i+1≤ts.length:=hlt
  have e1:(E (i+1)).bind (fun e j=>(ZW ts j wRP).bind fun _ j=>PR.ok e j)=(E' (i+1)).bind (fun e j=>(ZW ts j wRP).bind fun _ j=>PR.ok e j):=bc hi1 (hE _) (h1 _ (by omega) hi1) fun _ _ _ _ => rfl
  have e2:((ZW ts (i+1) wLP).bind fun _ j=>(E j).bind fun a j=>(ZW ts j Yy).bind fun _ j=>(E j).bind fun b j=>(ZW ts j wRP).bind fun _ j=>PR.ok (opE (YI (ts.getD i Y9).text) a b) j)=((ZW ts (i+1) wLP).bind fun _ j=>(E' j).bind fun a j=>(ZW ts j Yy).bind fun _ j=>(E' j).bind fun b j=>(ZW ts j wRP).bind fun _ j=>PR.ok (opE (YI (ts.getD i Y9).text) a b) j):=
   bc hi1 (ZG _ _) rfl fun _ j q1 q2=>bc q2 (hE _) (h1 _ (by omega) q2) fun a k q3 q4=>bc q4 (ZG _ _) rfl fun _ m q5 q6=>bc q6 (hE _) (h1 _ (by omega) q6) fun _ _ _ _ => rfl
  have e3:((ZP ts i).bind fun s j=>(ZW ts j Zb).bind fun _ j=>(ZP ts j).bind fun n j=>(ZW ts j wOf).bind fun _ j=>(A j).bind fun e j=>PR.ok (Exp.mk 8 0 0 0 s n [e]) j)=((ZP ts i).bind fun s j=>(ZW ts j Zb).bind fun _ j=>(ZP ts j).bind fun n j=>(ZW ts j wOf).bind fun _ j=>(A' j).bind fun e j=>PR.ok (Exp.mk 8 0 0 0 s n [e]) j):=by
   cases hn:ZP ts i with
   | bad k=>rfl
   | ok s k=>
    have hk:=name_nx hn
    subst hk
    show (ZW ts (i+1) Zb).bind _ = (ZW ts (i+1) Zb).bind _
    exact bc hi1 (ZG _ _) rfl fun _ j q1 q2=>bc q2 (X9 _) rfl fun _ k q3 q4=>bc q4 (ZG _ _) rfl fun _ m q5 q6=>bc q6 (hA _) (h2 _ (by omega) q6) fun _ _ _ _ => rfl
  rw[e1,e2,e3]
 ·unfold Zc
  dsimp only
  rw[if_pos hlt,if_pos hlt]
theorem expr_congr {E E' A A':Nat→PR Exp} (hE:∀i,BdA ts i (E i)) (hA:∀i,BdA ts i (A i)) (i:Nat) (hi:i≤ts.length) (h1:∀j,i<j→j≤ts.length→E j=E' j) (h2:∀j,i≤j→j≤ts.length→A j=A' j):YH ts E A i=YH ts E' A' i:=by
 unfold YH
 split
 ·rename_i hs
  have hi1:i+1≤ts.length:=sees_lt hs
  exact bc hi1 (hE _) (h1 _ (by omega) hi1) fun a j q1 q2=>bc q2 (ZG _ _) rfl fun _ k q3 q4=>bc q4 (hE _) (h1 _ (by omega) q4) fun b m q5 q6=>bc q6 (ZG _ _) rfl fun _ n q7 q8=>bc q8 (hE _) (h1 _ (by omega) q8) fun _ _ _ _ => rfl
 ·refine lv_congr (fun i=>ba_lv (fun i=>ba_lv hA 3 i) 2 i) 1 i hi fun j a b=>lv_congr (fun i=>ba_lv hA 3 i) 2 j b fun k c d=>lv_congr hA 3 k d fun m e f=>h2 m (by omega) f
mutual
theorem fuel_E:∀(f f' i:Nat),i≤ts.length→2 * (ts.length-i)+2≤f→2 * (ts.length-i)+2≤f'→pE ts f i=pE ts f' i
 | 0,f',i,_,h,_ => by omega
 | f+1,0,i,_,_,h=>by omega
 | f+1,f'+1,i,hi,h,h'=>expr_congr (ba_E f) (ba_A f) i hi (fun j a b=>fuel_E f f' j b (by omega) (by omega)) (fun j a b=>fuel_A f f' j b (by omega) (by omega))
theorem fuel_A:∀(f f' i:Nat),i≤ts.length→2 * (ts.length-i)+1≤f→2 * (ts.length-i)+1≤f'→pA ts f i=pA ts f' i
 | 0,f',i,_,h,_ => by omega
 | f+1,0,i,_,_,h=>by omega
 | f+1,f'+1,i,hi,h,h'=>by
  by_cases hlt:i<ts.length
  ·exact atom_congr (ba_E f) (ba_A f) i hi (fun j a b=>fuel_E f f' j b (by omega) (by omega)) (fun j a b=>fuel_A f f' j b (by omega) (by omega))
  ·show Zc ts (pE ts f) (pA ts f) i=Zc ts (pE ts f') (pA ts f') i
   unfold Zc
   dsimp only
   rw[if_pos hlt,if_pos hlt]
end
def rE (ts:List Tok) (i:Nat):PR Exp:=pE ts (2 * ts.length+4) i
def rA (ts:List Tok) (i:Nat):PR Exp:=pA ts (2 * ts.length+4) i
theorem Yc (i:Nat):BdA ts i (rE ts i):=ba_E _ i
theorem rA_bd (i:Nat):BdA ts i (rA ts i):=ba_A _ i
theorem rE_eq {i:Nat} (hi:i≤ts.length):rE ts i=YH ts (rE ts) (rA ts) i:=
 expr_congr (ba_E _) (ba_A _) i hi (fun j a b=>fuel_E _ _ j b (by omega) (by omega)) (fun j a b=>fuel_A _ _ j b (by omega) (by omega))
theorem rA_eq {i:Nat} (hi:i≤ts.length):rA ts i=Zc ts (rE ts) (rA ts) i:=
 atom_congr (ba_E _) (ba_A _) i hi (fun j a b=>fuel_E _ _ j b (by omega) (by omega)) (fun j a b=>fuel_A _ _ j b (by omega) (by omega))
end Go.Gh
namespace Go.Gh
variable {ts:List Tok}
theorem sees_isW {i:Nat} (h:i<ts.length) (w:ByteArray):isW (ts.getD i Y9) w=sees ts i w:=by unfold sees;rw[decide_eq_true h,Bool.true_and]
def okNs (ts:List Tok):Prop:=∀t∈ts,t.kind=2→0≤t.num∧t.num≤1000000
def EN (S:Nat→Bool→GV) (P:PR Exp) (rp:Nat) (H:GH) (g:GV) (H':GH):Prop:=
 ∃e,e.args=[]∧g=ExN e∧H'=ZX H rp [S P.at P.err]∧∀a j,P = .ok a j→e=a
def E1 (S:Nat→Bool→GV) (P:PR Exp) (rp:Nat) (H:GH) (g:GV) (H':GH):Prop:=
 ∃s m a r q,q≠r∧g=EO q (.mk 8 0 0 0 s m [a])∧H'=(q,7,[EO r a])::(r,7,a.args.map ExO)::ZX H rp [S P.at P.err]∧∀x j,P = .ok x j→(.mk 8 0 0 0 s m [a])=x
def E3 (S:Nat→Bool→GV) (P:PR Exp) (rp:Nat) (H:GH) (g:GV) (H':GH):Prop:=
 ∃a b c ra rb rc q,q≠ra∧q≠rb∧q≠rc∧rc≠ra∧rc≠rb∧rb≠ra∧g=EO q (.mk 5 0 0 0 noS noS [a,b,c])∧H'=(q,7,[EO ra a,EO rb b,EO rc c])::(rc,7,c.args.map ExO)::(rb,7,b.args.map ExO)::(ra,7,a.args.map ExO)::ZX H rp [S P.at P.err]∧∀x j,P = .ok x j→(.mk 5 0 0 0 noS noS [a,b,c])=x
theorem closeO {g:GV} {q r:Nat} {pre suf:List GV} {a:Exp} {U:GH} (hne:q≠r) (hr:Z3 U r=some (7,a.args.map ExO)):FR g ((q,7,pre++EO r a::suf)::U) g ((q,7,pre++ExO a::suf)::ZL U r):=by
 have h:=FR.close (g:=g) (H:=(q,7,pre++EO r a::suf)::U) (r:=q) (r1:=r) (sz:=7) (sz1:=7) (i:=pre.length) (j:=6) (n:=a.args.length) (es:=pre++EO r a::suf) (gs:=[I a.kind,I a.n,I a.pos,I a.type,T a.sym,T a.name,.own r 7 0 a.args.length]) (ks:=a.args.map ExO) hne Z4 (by simp) rfl (by rw[ZU hne];exact hr) (by simp)
 rw[Yi] at h
 have e1:(pre++EO r a::suf).set pre.length (.agg ([I a.kind,I a.n,I a.pos,I a.type,T a.sym,T a.name,.own r 7 0 a.args.length].set 6 (.osl 7 (a.args.map ExO))))=pre++ExO a::suf:=by
  rw[ExO_eq]
  simp
 rw[e1] at h
 have e2:ZL ((q,7,pre++ExO a::suf)::U) r=(q,7,pre++ExO a::suf)::ZL U r:=by simp[ZL,hne]
 rw[e2] at h
 exact h
theorem EP.of {P:Program} {f:FuncId} {gs:List GV} {H:GH} {S:Nat→Bool→GV} {R:PR Exp} {rp:Nat} (h:GCalls P f gs H (fun g H'=>EP S R rp H g H'∨EN S R rp H g H'∨E1 S R rp H g H'∨E3 S R rp H g H')):GCalls P f gs H (EP S R rp H):=by
 refine h.fr ?_
 rintro g H' (h|⟨e,he,rfl,rfl,hx⟩|⟨s,m,a,r,q,hqr,rfl,rfl,hx⟩|⟨a,b,c,ra,rb,rc,q,h1,h2,h3,h4,h5,h6,rfl,rfl,hx⟩)
 ·exact ⟨g,H',FR.refl _ _,h⟩
 ·obtain ⟨r,hf⟩:=FR.nilE he (ZX H rp [S R.at R.err])
  exact ⟨_,_,hf,e,r,rfl,rfl,hx⟩
 ·have c1:=closeO (g:=EO q (.mk 8 0 0 0 s m [a])) (pre:=[]) (suf:=[]) (U:=(r,7,a.args.map ExO)::ZX H rp [S R.at R.err]) hqr Z4
  rw[show ZL ((r,7,a.args.map ExO)::ZX H rp [S R.at R.err]) r=ZX H rp [S R.at R.err] by simp[ZL]] at c1
  exact ⟨_,_,c1,_,q,rfl,rfl,hx⟩
 ·have c1:=closeO (g:=EO q (.mk 5 0 0 0 noS noS [a,b,c])) (pre:=[EO ra a,EO rb b]) (suf:=[]) (U:=(rc,7,c.args.map ExO)::(rb,7,b.args.map ExO)::(ra,7,a.args.map ExO)::ZX H rp [S R.at R.err]) h3 Z4
  rw[show ZL ((rc,7,c.args.map ExO)::(rb,7,b.args.map ExO)::(ra,7,a.args.map ExO)::ZX H rp [S R.at R.err]) rc=(rb,7,b.args.map ExO)::(ra,7,a.args.map ExO)::ZX H rp [S R.at R.err] by simp[ZL]] at c1
  have c2:=closeO (g:=EO q (.mk 5 0 0 0 noS noS [a,b,c])) (pre:=[EO ra a]) (suf:=[ExO c]) (U:=(rb,7,b.args.map ExO)::(ra,7,a.args.map ExO)::ZX H rp [S R.at R.err]) h2 Z4
  rw[show ZL ((rb,7,b.args.map ExO)::(ra,7,a.args.map ExO)::ZX H rp [S R.at R.err]) rb=(ra,7,a.args.map ExO)::ZX H rp [S R.at R.err] by simp[ZL]] at c2
  have c3:=closeO (g:=EO q (.mk 5 0 0 0 noS noS [a,b,c])) (pre:=[]) (suf:=[ExO b,ExO c]) (U:=(ra,7,a.args.map ExO)::ZX H rp [S R.at R.err]) h1 Z4
  rw[show ZL ((ra,7,a.args.map ExO)::ZX H rp [S R.at R.err]) ra=ZX H rp [S R.at R.err] by simp[ZL]] at c3
  exact ⟨_,_,FR.trans c1 (FR.trans c2 c3),_,q,rfl,rfl,hx⟩
end Go.Gh
namespace Go.Gh
open Lib
theorem YD {α β:Type} (P:PR α) (F:Nat→PR β):frm P.err F P.at=P.bind fun _ => F:=by cases P<;>rfl
theorem bind_as {α β γ:Type} (P:PR α) (f:α→Nat→PR β) (g:β→Nat→PR γ):(P.bind f).bind g=P.bind fun a j=>(f a j).bind g:=by cases P<;>rfl
def StP {α β:Type} (P:PR α) (Q:PR β):Prop:=P.at=Q.at∧P.err=Q.err
theorem StP.bind {α β γ:Type} (P:PR α) {f:α→Nat→PR β} {f':α→Nat→PR γ} (h:∀a j,StP (f a j) (f' a j)):StP (P.bind f) (P.bind f'):=by
 cases P with
 | bad k=>exact ⟨rfl,rfl⟩
 | ok a k=>exact h a k
theorem StP.last {α β:Type} (P:PR α) (f:α→β):StP P (P.bind fun a j=> .ok (f a) j):=by cases P<;>exact ⟨rfl,rfl⟩
theorem X7 {ts:List Tok} {α:Type} {b:Bool} {F:Nat→PR α} {i:Nat} (hF:BdA ts i (F i)) (hi:i≤ts.length):i≤(frm b F i).at := by
 cases b with
 | true=>exact Nat.le_refl _
 | false=>exact (hF hi).1
end Go.Gh
namespace Go.Gh
open Lib
theorem spanL_take (p:UInt8→Bool):∀(l:List UInt8),∀c∈l.take (Zw p l),p c=true
 | [],c,h=>by simp at h
 | d::l,c,h=>by
  simp only[Zw] at h
  split at h
  ·rename_i hd
   rw[List.take_succ_cons,List.mem_cons] at h
   rcases h with rfl|h
   ·exact hd
   ·exact spanL_take p l c h
  ·simp at h
theorem valD_nn:∀(w:List UInt8) (n:Int),0≤n→(∀c∈w,ZI c=true)→0≤w.foldl (fun n c=>10 * n+((c.toNat:Int)-48)) n
 | [],n,h,_ => h
 | c::w,n,h,hd=>by
  have hc:=hd c (by simp)
  have h48:48≤c.toNat:=by
   simp only[ZI,Bool.and_eq_true,decide_eq_true_eq] at hc
   first|exact hc.1|omega
  exact valD_nn w _ (show 0≤10 * n+((c.toNat:Int)-48) by omega) fun x hx=>hd x (by simp[hx])
def okT (t:Tok):Prop:=(t.kind=1→shp (Z8 t.text)=true)∧(Z8 t.text).length ≤ 8∧(t.kind=2→0≤t.num∧t.num≤1000000)
theorem tokN_ok {l:List UInt8} {k:Nat} (h:(Zk l k).2 ≠ 0):okT (Zk l k).1 := by
 unfold Zk at h ⊢
 split at h
 ·rename_i hk
  split at h
  ·rename_i hl
   split at h
   ·rename_i h8
    rw[dif_pos hk,if_pos hl,if_pos h8]
    refine ⟨fun _ => ?_,?_,fun h=>(by cases h)⟩
    ·show shp ((l.drop k).take (Zw Y2 (l.drop k)))=true
     rw[XQ hk (by unfold Y2;rw[hl];rfl),List.drop_eq_getElem_cons hk,List.take_succ_cons]
     simp only[shp,hl,Bool.true_and,List.all_eq_true]
     intro c hc
     exact spanL_take Y2 _ c hc
    ·show ((l.drop k).take (Zw Y2 (l.drop k))).length ≤ 8
     rw[List.length_take]
     omega
   ·exact absurd rfl h
  ·rename_i hl
   split at h
   ·rename_i hd
    cases hn:numT ((l.drop k).take (Zw ZI (l.drop k))) with
    | none=>rw[hn] at h;exact absurd rfl h
    | some n=>
     rw[dif_pos hk,if_neg hl,if_pos hd]
     simp only[hn]
     refine ⟨fun h=>(by cases h),(by show (0:Nat)≤8;decide),fun _ => ⟨?_,(numT_some hn).2⟩⟩
     unfold numT at hn
     split at hn
     ·cases hn
      exact valD_nn _ 0 (by decide) (spanL_take ZI _)
     ·cases hn
   ·rename_i hd
    split at h
    ·rename_i hs
     rw[dif_pos hk,if_neg hl,if_neg hd,if_pos hs]
     exact ⟨fun h=>(by cases h),by show 1≤8;decide,fun h=>(by cases h)⟩
    ·rename_i hs
     split at h
     ·rename_i he
      rw[dif_pos hk,if_neg hl,if_neg hd,if_neg hs,if_pos he]
      exact ⟨fun h=>(by cases h),by show 2≤8;decide,fun h=>(by cases h)⟩
     ·exact absurd rfl h
 ·exact absurd rfl h
theorem tokL_all {l:List UInt8} {Q:Tok→Prop} (hQ:∀k,(Zk l k).2 ≠ 0→Q (Zk l k).1):∀(f k:Nat) (out:List Tok),(∀t∈out,Q t)→∀t∈(Y6 l f k out).1,Q t
 | 0,k,out,h=>by simp[Y6]
 | f+1,k,out,h=>by
  simp only[Y6]
  split
  ·split
   ·exact tokL_all hQ f _ _ h
   ·split
    ·simp
    ·rename_i h1
     refine tokL_all hQ f _ _ fun t ht=> ?_
     rcases List.mem_append.1 ht with ht|ht
     ·exact h t ht
     ·rw[List.mem_singleton] at ht
      subst ht
      exact hQ k (fun e=>h1 (.inl e))
  ·exact h
theorem tokz_ok (l:List UInt8):∀t∈(ZA l).1,okT t:=by
 unfold ZA
 split
 ·simp
 ·exact tokL_all (fun k h=>tokN_ok h) _ _ _ (by simp)
theorem tokz_okTs (l:List UInt8):okTs (ZA l).1 := fun t ht=>⟨(tokz_ok l t ht).1,(tokz_ok l t ht).2.1⟩
theorem tokz_okNs (l:List UInt8):okNs (ZA l).1 := fun t ht=>(tokz_ok l t ht).2.2
end Go.Gh
namespace Go.Gh
open Lib
variable {ts:List Tok}
def offT (ts:List Tok) (n:Int) (i:Nat):Int:=if i<ts.length then (ts.getD i Y9).at' else n
def bdO (ts:List Tok) (n:Int) (i:Nat) (b:Bool):Int:=if b=true then offT ts n i else -1
theorem bdO_t (n:Int) (i:Nat):bdO ts n i true=offT ts n i:=rfl
theorem ZD (n:Int) (i:Nat):bdO ts n i false = -1:=rfl
theorem Zq:((-1:Int)<0)=True:=eq_true (by decide)
theorem Zr:(0≤(-1:Int))=False:=eq_false (by decide)
theorem offT_lt {n:Int} {i:Nat} (h:i<ts.length):offT ts n i=ts[i].at' := by unfold offT;rw[if_pos h,Zg h]
theorem offT_ge {n:Int} {i:Nat} (h:ts.length≤i):offT ts n i=n:=by unfold offT;rw[if_neg (by omega)]
abbrev SpG (ts:List Tok) (n:Int) (i:Nat) (b:Bool):GV:= .agg [TkS ts,I i,I n,I (bdO ts n i b)]
structure OkR (ts:List Tok) (n:Int):Prop where
 len:ts.length≤80
 txt:okTs ts
 num:okNs ts
 off:∀t∈ts,0≤t.at'
 fin:0≤n
theorem OkR.nn {n:Int} (h:OkR ts n) (i:Nat):0≤offT ts n i:=by
 unfold offT
 split
 ·rename_i hi
  rw[Zg hi]
  exact h.off _ (List.getElem_mem hi)
 ·exact h.fin
theorem OkR.ng {n:Int} (h:OkR ts n) (i:Nat):(offT ts n i<0)=False:=eq_false (by have:=h.nn i;omega)
theorem OkR.ge {n:Int} (h:OkR ts n) (i:Nat):(0≤offT ts n i)=True:=eq_true (h.nn i)
theorem okR_tokz (l:List UInt8):OkR (ZA l).1 l.length:=⟨tokz_len l,tokz_okTs l,tokz_okNs l,fun t h=>(tokz_at l t h).1,by omega⟩
end Go.Gh
namespace Go.Gh
open Lib
variable {ts:List Tok}
def SzP (P:Nat→PR Exp):Prop:=∀i e j,P i = .ok e j→okE e∧wEx e+17 * i≤17 * j
theorem sz_name (ht:okTs ts) {i j:Nat} {s:ByteArray} (h:ZP ts i = .ok s j):s.size≤maxLen∧(Z8 s).length ≤ 8∧j=i+1:=by
 have hj:=name_nx h
 unfold ZP at h
 split at h
 ·rename_i hc
  cases h
  have:=(ht (ts.getD i Y9) (by rw[Zg hc.1];exact List.getElem_mem hc.1)).2
  refine ⟨?_,this,rfl⟩
  rw[Zu]
  exact Nat.le_trans this (by decide)
 ·cases h
theorem sz_noS:noS.size≤maxLen∧(Z8 noS).length = 0:=⟨by decide,rfl⟩
theorem sz_op (o:Int) {a b:Exp} (ha:okE a) (hb:okE b):okE (opE o a b)∧wEx (opE o a b)=2+wEx a+wEx b:=by
 refine ⟨⟨sz_noS.1,sz_noS.1,ha,hb,trivial⟩,?_⟩
 show (Z8 noS).length + (Z8 noS).length + (2+(wEx a+(wEx b+0))) = _
 rw[sz_noS.2]
 omega
theorem Yx (k n p t:Int):okE (.mk k n p t noS noS [])∧wEx (.mk k n p t noS noS [])=0:=⟨⟨sz_noS.1,sz_noS.1,trivial⟩,rfl⟩
theorem sz_row {X:Nat→PR Exp} {lv:Nat} (hX:SzP X):∀(F:Nat) (e:Exp) (i i0:Nat) (r:Exp) (j:Nat),okE e→wEx e+17 * i0≤17 * i→Y5 ts X lv F e i = .ok r j→okE r∧wEx r+17 * i0≤17 * j
 | 0,e,i,i0,r,j,_,_,h=>by cases h
 | F+1,e,i,i0,r,j,ho,hi,h=>by
  simp only[Y5] at h
  split at h
  ·cases h;exact ⟨ho,hi⟩
  ·obtain ⟨b,k,e1,e2⟩:=ZZ h
   obtain ⟨b1,b2⟩:=hX _ _ _ e1
   obtain ⟨c1,c2⟩:=sz_op (Go.Gh.opAt ts i lv) ho b1
   split at e2
   ·cases e2;exact ⟨c1,by omega⟩
   ·exact sz_row hX F _ _ i0 r j c1 (by omega) e2
theorem sz_lv {X:Nat→PR Exp} {lv:Nat} (hX:SzP X):SzP (lvP ts X lv):=by
 intro i e j h
 unfold lvP at h
 obtain ⟨a,k,e1,e2⟩:=ZZ h
 obtain ⟨a1,a2⟩:=hX _ _ _ e1
 exact sz_row hX _ a k i e j a1 a2 e2
theorem sz_set:∀(F i:Nat) (l s:Int) (r:Int) (j:Nat),Y0 ts F i l s = .ok r j→i≤j
 | 0,i,l,s,r,j,h=>by cases h
 | F+1,i,l,s,r,j,h=>by
  simp only[Y0] at h
  split at h
  ·cases h;omega
  ·obtain ⟨n,k,e1,e2⟩:=ZZ h
   have h1:=(num_nx e1).1
   have:=sz_set F _ _ _ r j e2
   omega
theorem sz_atom (ht:okTs ts) {E A:Nat→PR Exp} (hE:SzP E) (hA:SzP A):SzP (Zc ts E A):=by
 intro i e j h
 unfold Zc at h
 dsimp only at h
 rcases Yu h with ⟨hc,h⟩|⟨hc,h⟩
 ·cases h
 rcases Yu h with ⟨hc,h⟩|⟨hc,h⟩
 ·cases h;exact ⟨(Yx _ _ _ _).1,by have:=(Yx 1 (ts.getD i Y9).num 0 1).2;unfold YE;omega⟩
 rcases Yu h with ⟨hc,h⟩|⟨hc,h⟩
 ·obtain ⟨s,k,e1,e2⟩:=ZZ h
  cases e2
  have:=sz_set _ _ _ _ _ _ e1
  exact ⟨(Yx _ _ _ _).1,by have:=(Yx 1 s 0 2).2;unfold YE;omega⟩
 rcases Yu h with ⟨hc,h⟩|⟨hc,h⟩
 ·cases h;exact ⟨(Yx _ _ _ _).1,by have:=(Yx 1 1 0 3).2;unfold YE;omega⟩
 rcases Yu h with ⟨hc,h⟩|⟨hc,h⟩
 ·cases h;exact ⟨(Yx _ _ _ _).1,by have:=(Yx 1 0 0 3).2;unfold YE;omega⟩
 rcases Yu h with ⟨hc,h⟩|⟨hc,h⟩
 ·cases h;exact ⟨(Yx _ _ _ _).1,by have:=(Yx 2 0 0 0).2;omega⟩
 rcases Yu h with ⟨hc,h⟩|⟨hc,h⟩
 ·cases h;exact ⟨(Yx _ _ _ _).1,by have:=(Yx 7 0 0 0).2;omega⟩
 rcases Yu h with ⟨hc,h⟩|⟨hc,h⟩
 ·obtain ⟨p,k,e1,h⟩:=ZZ h
  obtain ⟨_,k2,e2,h⟩:=ZZ h
  obtain ⟨m,k3,e3,h⟩:=ZZ h
  have:=(num_nx e1).1
  have:=Y3 e2
  obtain ⟨m1,m2,m3⟩:=sz_name ht e3
  cases h
  refine ⟨⟨sz_noS.1,m1,trivial⟩,?_⟩
  show (Z8 noS).length + (Z8 m).length + (0+0)+17 * i≤17 * j
  rw[sz_noS.2]
  omega
 rcases Yu h with ⟨hc,h⟩|⟨hc,h⟩
 ·obtain ⟨_,k,e1,h⟩:=ZZ h
  obtain ⟨p,k2,e2,h⟩:=ZZ h
  obtain ⟨_,k3,e3,h⟩:=ZZ h
  have:=(num_nx e2).1
  have:=Y3 e1
  have:=Y3 e3
  cases h
  exact ⟨(Yx _ _ _ _).1,by have:=(Yx 6 0 p 0).2;omega⟩
 rcases Yu h with ⟨hc,h⟩|⟨hc,h⟩
 ·obtain ⟨x,k,e1,h⟩:=ZZ h
  obtain ⟨_,k2,e2,h⟩:=ZZ h
  obtain ⟨h1,h2⟩:=hE _ _ _ e1
  have:=Y3 e2
  cases h
  exact ⟨h1,by omega⟩
 rcases Yu h with ⟨hc,h⟩|⟨hc,h⟩
 ·obtain ⟨_,k,e1,h⟩:=ZZ h
  obtain ⟨a,k2,e2,h⟩:=ZZ h
  obtain ⟨_,k3,e3,h⟩:=ZZ h
  obtain ⟨b,k4,e4,h⟩:=ZZ h
  obtain ⟨_,k5,e5,h⟩:=ZZ h
  obtain ⟨a1,a2⟩:=hE _ _ _ e2
  obtain ⟨b1,b2⟩:=hE _ _ _ e4
  have:=Y3 e1
  have:=Y3 e3
  have:=Y3 e5
  cases h
  obtain ⟨c1,c2⟩:=sz_op (YI (ts.getD i Y9).text) a1 b1
  exact ⟨c1,by omega⟩
 ·obtain ⟨s,k,e1,h⟩:=ZZ h
  obtain ⟨_,k2,e2,h⟩:=ZZ h
  obtain ⟨m,k3,e3,h⟩:=ZZ h
  obtain ⟨_,k4,e4,h⟩:=ZZ h
  obtain ⟨a,k5,e5,h⟩:=ZZ h
  obtain ⟨s1,s2,s3⟩:=sz_name ht e1
  have:=Y3 e2
  obtain ⟨m1,m2,m3⟩:=sz_name ht e3
  have:=Y3 e4
  obtain ⟨a1,a2⟩:=hA _ _ _ e5
  cases h
  refine ⟨⟨s1,m1,a1,trivial⟩,?_⟩
  show (Z8 s).length + (Z8 m).length + (1+(wEx a+0))+17 * i≤17 * j
  omega
theorem sz_expr {E A:Nat→PR Exp} (hE:SzP E) (hA:SzP A):SzP (YH ts E A):=by
 intro i e j h
 unfold YH at h
 split at h
 ·obtain ⟨a,k,e1,h⟩:=ZZ h
  obtain ⟨_,k2,e2,h⟩:=ZZ h
  obtain ⟨b,k3,e3,h⟩:=ZZ h
  obtain ⟨_,k4,e4,h⟩:=ZZ h
  obtain ⟨c,k5,e5,h⟩:=ZZ h
  obtain ⟨a1,a2⟩:=hE _ _ _ e1
  obtain ⟨b1,b2⟩:=hE _ _ _ e3
  obtain ⟨c1,c2⟩:=hE _ _ _ e5
  have:=Y3 e2
  have:=Y3 e4
  cases h
  refine ⟨⟨sz_noS.1,sz_noS.1,a1,b1,c1,trivial⟩,?_⟩
  show (Z8 noS).length + (Z8 noS).length + (3+(wEx a+(wEx b+(wEx c+0))))+17 * i≤17 * j
  rw[sz_noS.2]
  omega
 ·exact sz_lv (sz_lv (sz_lv hA)) i e j h
mutual
theorem sz_E (ht:okTs ts):∀f:Nat,SzP (pE ts f)
 | 0=>fun i e j h=>by cases h
 | f+1=>sz_expr (sz_E ht f) (sz_A ht f)
theorem sz_A (ht:okTs ts):∀f:Nat,SzP (pA ts f)
 | 0=>fun i e j h=>by cases h
 | f+1=>sz_atom ht (sz_E ht f) (sz_A ht f)
end
theorem rE_sz (ht:okTs ts) (hl:ts.length≤80) {e:Exp} {j:Nat} (h:rE ts 0 = .ok e j):okE e∧wEx e≤1048576:=by
 have hb:=(Yc (ts:=ts) 0 (Nat.zero_le _)).2
 rw[h] at hb
 have hb:j≤ts.length:=hb
 obtain ⟨h1,h2⟩:=sz_E ht _ 0 e j h
 exact ⟨h1,by omega⟩
end Go.Gh
namespace Go.Gh
open Lib
def oprT (L:Nat) (e:Exp):List UInt8:=Zd (YP L (lvE e,itE e))
theorem oprT_eq (L:Nat) (e:Exp):oprT L e=if lvE e<L then 40::(ZO e++[41]) else ZO e:=by
 unfold oprT YP ZO
 dsimp only
 split
 ·rw[YO,rend_app];rfl
 ·rfl
theorem txt_num (n:Int):ZO (.mk 1 n 0 1 noS noS [])=itoa n:=by
 show Zd [nb n] = _
 simp[Zd,rendI,Y1]
theorem rend_join:∀l:List Nat,Zd (joinI (l.map fun k:Nat=>nb (k:Int)))=Zi [32] (l.map fun k:Nat=>itoa k)
 | []=>rfl
 | [k]=>by simp[joinI,Zd,rendI,Y1,Zi,Lib.join]
 | k::m::l=>by
  have:=rend_join (m::l)
  simp only[List.map_cons] at this ⊢
  simp only[joinI,YO,this]
  simp[rendI,Y1,Zi,Lib.join]
theorem txt_set (n:Int):ZO (.mk 1 n 0 2 noS noS [])=123::(Zi [32] ((YS n).map fun k:Nat=>itoa k)++[125]):=by
 show Zd (sy 123::(joinI ((YS n).map fun k:Nat=>nb (k:Int))++[sy 125])) = _
 rw[YO,rend_app,rend_join]
 rfl
theorem txt_bool (n:Int):ZO (.mk 1 n 0 3 noS noS [])=Z8 (if n=1 then wTrue else Yl):=by
 show Zd [wd (if n=1 then wTrue else Yl)] = _
 simp[Zd,rendI,Y1]
theorem txt_lit:ZO (.mk 2 0 0 0 noS noS [])=[108,105,116]:=by decide
theorem txt_none:ZO (.mk 7 0 0 0 noS noS [])=[110,111,110,101]:=by decide
theorem txt_attr (p:Int) (m:ByteArray):ZO (.mk 3 0 p 0 noS m [])=36::(itoa p++46::Z8 m):=by
 show Zd [sy 36,nb p,sy 46,wd m] = _
 simp[Zd,rendI,Y1]
 rfl
theorem txt_self (p:Int):ZO (.mk 6 0 p 0 noS noS [])=[115,101,108,102,40]++(itoa p++[41]):=by
 show Zd [wd wSelf,sy 40,nb p,sy 41] = _
 simp[Zd,rendI,Y1]
 rfl
theorem txt_if (a b c:Exp):ZO (.mk 5 0 0 0 noS noS [a,b,c])=[105,102,32]++ZO a++[32,116,104,101,110,32]++ZO b++[32,101,108,115,101,32]++ZO c:=by
 show Zd (wd wIf::none::(itE a++none::wd wThen::none::(itE b++none::wd wElse::none::itE c))) = _
 simp only[YO,rend_app]
 simp[rendI,Y1,ZO,wIf,wThen,wElse,Z8]
theorem txt_rem (s m:ByteArray) (a:Exp):ZO (.mk 8 0 0 0 s m [a])=Z8 s++46::(Z8 m++[32,111,102,32]++oprT 4 a):=by
 show Zd (wd s::sy 46::wd m::none::wd wOf::none::YP 4 (lvE a,itE a)) = _
 simp only[YO]
 simp[rendI,Y1,oprT,wOf,Z8]
def opW (n:Int):ByteArray:=(opK n).2.2
theorem rend_opK:∀n∈[(1:Int),2,3,4,5,6,7,8,9,10,11,12],Y1 (opK n)=Z8 (opW n):=by decide
theorem txt_fun (n:Int) (h1:1≤n) (h2:n≤12) (a b:Exp) (h:ZB n=4):ZO (.mk 4 n 0 0 noS noS [a,b])=Z8 (opW n)++40::(ZO a++[44,32]++ZO b++[41]):=by
 have e:itE (.mk 4 n 0 0 noS noS [a,b])=some (opK n)::sy 40::(itE a++sy 44::none::(itE b++[sy 41])):=by
  rw[itE_eq]
  show itN 4 n 0 0 noS noS [(lvE a,itE a),(lvE b,itE b)] = _
  unfold itN
  rw[if_neg (by decide),if_neg (by decide),if_neg (by decide),if_neg (by decide),if_neg (by decide),if_neg (by decide),if_neg (by decide),if_pos h]
  rfl
 unfold ZO
 rw[e,YO,show rendI (some (opK n))=Y1 (opK n) from rfl,rend_opK n (mem12 h1 h2)]
 simp only[YO,rend_app]
 simp[rendI,Y1,rend_nil,Z8]
theorem txt_op (n:Int) (h1:1≤n) (h2:n≤12) (a b:Exp) (h:ZB n≠4):ZO (.mk 4 n 0 0 noS noS [a,b])=oprT (max (ZB n) 2) a++32::(Z8 (opW n)++32::oprT (ZB n+1) b):=by
 have e:itE (.mk 4 n 0 0 noS noS [a,b])=YP (max (ZB n) 2) (lvE a,itE a)++none::some (opK n)::none::YP (ZB n+1) (lvE b,itE b):=by
  rw[itE_eq]
  show itN 4 n 0 0 noS noS [(lvE a,itE a),(lvE b,itE b)] = _
  unfold itN
  rw[if_neg (by decide),if_neg (by decide),if_neg (by decide),if_neg (by decide),if_neg (by decide),if_neg (by decide),if_neg (by decide),if_neg h]
  rfl
 unfold ZO
 rw[e]
 simp only[YO,rend_app]
 rw[show rendI (some (opK n))=Y1 (opK n) from rfl,rend_opK n (mem12 h1 h2)]
 rfl
theorem YU (L:Nat) (e:Exp):(oprT L e).length ≤ (ZO e).length + 2:=by
 rw[oprT_eq]
 split
 ·simp
 ·omega
theorem opW_len:∀n∈[(1:Int),2,3,4,5,6,7,8,9,10,11,12],(Z8 (opW n)).length ≤ 4:=by decide
theorem join_len (l:List (List UInt8)) (h:∀x∈l,x.length≤7):(Zi [32] l).length ≤ 8 * l.length:=by
 induction l with
 | nil=>simp[Zi,Lib.join]
 | cons x l ih=>
  have h1:=h x (by simp)
  have h2:=ih fun y hy=>h y (by simp[hy])
  cases l with
  | nil=>simp[Zi,Lib.join];omega
  | cons y l=>
   have e:Zi [32] (x::y::l)=x++([32]++Zi [32] (y::l)):=by simp[Zi,Lib.join]
   rw[e]
   simp only[List.length_append,List.length_cons,List.length_nil] at h2 ⊢
   omega
theorem XX {m:ByteArray} (h:YV m=true):(Z8 m).length ≤ 8:=by
 simp only[YV,Bool.and_eq_true,decide_eq_true_eq] at h
 exact h.1.2
theorem setL_len (n:Int):(YS n).length ≤ 12:=by
 unfold YS
 exact Nat.le_trans (List.length_filter_le _ _) (by simp)
theorem X8:∀e:Exp,allE YG e=true→(ZO e).length ≤ 120 * Zo e:=by
 refine Exp.indA fun e ih hv=> ?_
 obtain ⟨hn,hv⟩:=allE_args hv
 have ih':∀a∈e.args,(ZO a).length ≤ 120 * Zo a:=fun a ha=>ih a ha (hv a ha)
 clear ih hv
 rcases (node_c hn).c with ⟨n,h1,h2,rfl⟩|⟨n,h1,h2,rfl⟩|⟨n,h1,rfl⟩|rfl|⟨p,m,h1,h2,h3,rfl⟩|⟨n,a,b,h1,h2,rfl⟩|⟨a,b,c,rfl⟩|⟨p,h1,h2,rfl⟩|rfl|⟨s,m,a,h1,h2,rfl⟩
 ·have:=YL h1 h2
  rw[txt_num,Y4];omega
 ·rw[txt_set,Y4]
  have h3:=join_len ((YS n).map fun k:Nat=>itoa k) (by
   intro x hx
   obtain ⟨k,hk,rfl⟩:=List.mem_map.1 hx
   have:=(setL_lt n).2 k hk
   exact YL (by omega) (by omega))
  have h4:=setL_len n
  simp only[List.length_map,List.length_cons,List.length_append,List.length_nil] at h3 ⊢
  omega
 ·rw[txt_bool,Y4]
  have:(Z8 (if n=1 then wTrue else Yl)).length ≤ 5:=by split<;>decide
  omega
 ·rw[txt_lit,Y4];simp only[List.length_cons,List.length_nil];omega
 ·have:=YL h1 (by omega)
  have:=XX h3
  rw[txt_attr,Y4]
  simp only[List.length_cons,List.length_append]
  omega
 ·have ha:=ih' a (by simp[Exp.args])
  have hb:=ih' b (by simp[Exp.args])
  have e:Zo (.mk 4 n 0 0 noS noS [a,b])=1+Zo a+Zo b:=by rw[Y4];simp[Exp.args];omega
  have hw:=opW_len n (mem12 h1 h2)
  rw[e]
  by_cases h4:ZB n=4
  ·rw[txt_fun n h1 h2 a b h4]
   simp only[List.length_cons,List.length_append,List.length_nil]
   omega
  ·have:=YU (max (ZB n) 2) a
   have:=YU (ZB n+1) b
   rw[txt_op n h1 h2 a b h4]
   simp only[List.length_cons,List.length_append,List.length_nil]
   omega
 ·have ha:=ih' a (by simp[Exp.args])
  have hb:=ih' b (by simp[Exp.args])
  have hc:=ih' c (by simp[Exp.args])
  have e:Zo (.mk 5 0 0 0 noS noS [a,b,c])=1+Zo a+Zo b+Zo c:=by rw[Y4];simp[Exp.args];omega
  rw[e,txt_if]
  simp only[List.length_cons,List.length_append,List.length_nil]
  omega
 ·have:=YL h1 (by omega)
  rw[txt_self,Y4]
  simp only[List.length_cons,List.length_append,List.length_nil]
  omega
 ·rw[txt_none,Y4];simp only[List.length_cons,List.length_nil];omega
 ·have ha:=ih' a (by simp[Exp.args])
  have:=XX h1
  have:=XX h2
  have:=YU 4 a
  have e:Zo (.mk 8 0 0 0 s m [a])=1+Zo a:=by rw[Y4];simp[Exp.args]
  rw[e,txt_rem]
  simp only[List.length_cons,List.length_append,List.length_nil]
  omega
def fmtE (e:Exp):List UInt8:=if YZ e=true then ZO e else []
end Go.Gh
namespace Go.Gh
open Lib
theorem FR.nilT {e:Exp} (he:e.args=[]) (v:GV) (H:GH):∃r,FR (.tup [ExN e,v]) H (.tup [EO r e,v]) ((r,7,e.args.map ExO)::H):=by
 obtain ⟨r,ho,hq⟩:=vfresh (names H)
 refine ⟨r,?_⟩
 have hl:e.args.length=0:=by rw[he];rfl
 show FR (.tup [ExN e,v]) H (.tup [.agg [I e.kind,I e.n,I e.pos,I e.type,T e.sym,T e.name,.own r 7 0 e.args.length],v]) ((r,7,e.args.map ExO)::H)
 rw[hl,he]
 exact FR.trans (FR.addv ho hq) (FR.sub (.tup (.cons (.agg (.cons .refl (.cons .refl (.cons .refl (.cons .refl (.cons .refl (.cons .refl (.cons .virt .nil)))))))) (.cons .refl .nil))))
abbrev zE:Exp:= .mk 0 0 0 0 noS noS []
def AnsS (a:Exp×Int) (H:GH) (g:GV) (H':GH):Prop:=
 (∃r q x,g = .tup [EO r a.1,I a.2]∧H'=(r,7,a.1.args.map ExO)::(q,x)::H)∨(∃X,a.1=zE∧g = .tup [ExN zE,I a.2]∧H'=X++H)
def AnsO (a:Exp×Int) (H:GH) (g:GV) (H':GH):Prop:=∃H1,(∃r,g = .tup [EO r a.1,I a.2]∧H1=[(r,7,a.1.args.map ExO)])∧H'=H1++H
theorem AnsS.own {P:Program} {f:FuncId} {gs:List GV} {H:GH} {a:Exp×Int} (h:GCalls P f gs H (AnsS a H)):GCalls P f gs H (AnsO a H):=by
 refine h.fr ?_
 rintro g H' (⟨r,q,x,rfl,rfl⟩|⟨X,hz,rfl,rfl⟩)
 ·exact ⟨_,_,FR.perm (H:=[(r,7,a.1.args.map ExO),(q,x)]) (L:=[(r,7,a.1.args.map ExO)]) (by simp[subH,Z3,names]),_,⟨r,rfl,rfl⟩,rfl⟩
 ·obtain ⟨r,hf⟩:=FR.nilT (e:=zE) rfl (I a.2) H
  refine ⟨_,_,FR.trans (FR.perm (H:=X) (L:=[]) (by simp[subH,names])) hf,_,⟨r,?_,rfl⟩,?_⟩
  ·rw[hz]
  ·rw[hz];rfl
theorem bor_EO {H:GH} {r:Nat} {e:Exp} (hr:Z3 H r=some (7,e.args.map ExO)):Bor H (EO r e) (Ex e):=by
 rw[ZC]
 exact .agg (.cons .refl (.cons .refl (.cons .refl (.cons .refl (.cons .refl (.cons .refl (.cons (Bor.seen view_ExO hr (by simp)) .nil)))))))
theorem AnsO.bor {a:Exp×Int} {H:GH} {g:GV} {H':GH} (h:AnsO a H g H'):Bor H' g (.tup [Ex a.1,I a.2]):=by
 obtain ⟨H1,⟨r,rfl,rfl⟩,rfl⟩:=h
 exact .tup (.cons (bor_EO Z4) (.cons .refl .nil))
theorem parV_bad {l:List UInt8} (h:0≤(ZA l).2):Zj l=(zE,(ZA l).2):=by unfold Zj;rw[if_pos h]
theorem parV_rd {l : List UInt8} (h : ¬ 0 ≤ (ZA l).2) : Zj l = match rE (ZA l).1 0 with
      | .bad i => (zE, offT (ZA l).1 l.length i)
      | .ok e i => if i < (ZA l).1.length then (zE, offT (ZA l).1 l.length i) else if YZ e = true then (e, -1) else (zE, 0) := by
  unfold Zj
  rw [if_neg h]
  rfl
theorem parV_sz (l:List UInt8):okE (Zj l).1 ∧ wEx (Zj l).1 ≤ 1048576:=by
 have hz:okE zE∧wEx zE≤1048576:=⟨(Yx 0 0 0 0).1,by rw[(Yx 0 0 0 0).2];omega⟩
 have hK:=okR_tokz l
 by_cases h:0≤(ZA l).2
 ·rw[parV_bad h];exact hz
 ·rw[parV_rd h]
  cases hP:rE (ZA l).1 0 with
  | bad i=>exact hz
  | ok e i=>
   dsimp only
   split
   ·exact hz
   ·split
    ·exact rE_sz hK.txt hK.len hP
    ·exact hz
end Go.Gh
namespace Go.Gh
open Lib
theorem HM.tabE {P:Program} {W:World} {n m:Nat} {s s2:String} (hg:P.globalNamed s=some n) (h:TabIs P W s .u64 pow10Tab) (hg2:P.globalNamed s2=some m) (h2:∃u v,W.var? P s2=some #[.iface u v]):HM W (below W) (tabE n m) []:=by
 obtain ⟨F1,F2,hF,h1,h3⟩:=HM.tab10 hg h
 refine ⟨[],[],rfl,?_,[],[],rfl,.inr ⟨⟨by omega,fun _ _ => ?_⟩,rfl,rfl⟩,rfl⟩
 ·obtain ⟨rfl,rfl⟩:=List.append_eq_nil_iff.1 hF.symm
  exact h1
 ·have e:(4 * m+3) / 4=m:=by omega
  obtain ⟨u,v,h2⟩:=h2
  simp only[World.var?,hg2,Option.bind_some] at h2
  unfold TB
  rw[e]
  split at h2
  case h_2=>cases h2
  rename_i c T fz hb
  simp only[Option.some.injEq] at h2
  refine ⟨lt_of_heap hb,c,T,fz,hb,?_⟩
  rw[h2]
  simp only[tabP]
  rw[if_neg (by decide)]
  exact ⟨u,v,rfl⟩
theorem ifcTrod {H:Type} {enc:TypeId×Value→H} {P:Program} {w:World} {base:Nat} {sp:Nat→Bool} {fuel:Nat} {t:TypeId} {cs:List Value} {n:String} {d:DataW H} {p:List MemPlace}
 (ht:∃x,P.underlying t=some (.interface x)) (h:DataW.trod enc P w base sp false fuel t cs=some (.iface n d,p)):∃u v,cs=[.iface u v]:=by
 obtain ⟨x,ht⟩:=ht
 cases fuel with
 | zero=>simp[DataW.trod] at h
 | succ fuel=>
  simp only[DataW.trod,ht] at h
  split at h<;>first|exact ⟨_,_,rfl⟩|cases h|(exfalso;simp_all;done)|skip
  all_goals trace_state
end Go.Gh
namespace Go.Gh
open Lib
abbrev U8 (b:UInt8):GV:= .val (.int .u8 b.toNat)
theorem bytesG_map:∀l:List UInt8,Yg (l.map U8)=some l
 | []=>rfl
 | b::l=>by
  rw[List.map_cons]
  show (Yg (l.map U8)).map (UInt8.ofNat (b.toNat:Int).toNat :: ·) = _
  rw[bytesG_map l]
  simp
theorem clean_U8:∀l:List UInt8,Yo (l.map U8)=true
 | []=>rfl
 | b::l=>by
  rw[List.map_cons]
  show (true&&Yo (l.map U8))=true
  rw[clean_U8 l]
  rfl
theorem soT_U8 (l:List UInt8):soT (some (1,l.map U8)) 1 1 0 l.length=some (l.map U8):=by
 have e:(l.map U8).take l.length=l.map U8:=List.take_of_length_le (by rw[List.length_map];exact Nat.le_refl _)
 unfold soT
 dsimp only
 rw[List.drop_zero,e,if_pos ⟨rfl,rfl,by rw[List.length_map];omega,clean_U8 l⟩]
theorem takeU8 (l:List UInt8):(l.map U8).take l.length=l.map U8:=List.take_of_length_le (by rw[List.length_map];exact Nat.le_refl _)
theorem stop_aidx {P:Program} {n:Nat} {x y:GE} {d:Option Nat} {is:List GI} {K:Env→GH→Prop} {env:Env} {H:GH} {gs:List GV} {k:IntKind} {i:Int} {g:GV} (hx:ge env x=some (.agg gs)) (hy:ge env y=some (.val (.int k i)))
 (hg:gs[i.toNat]? = some g) (h0:0≤i) (h1:i<n) (hk:Z5 P is K (gput env d g) H):stopS P (.aidx n x y) d is K env H:=by
 show ZV P (.aidx n x y) env H _
 simp only[ZV,Z1,ZY,hx,hy,hg]
 exact ⟨h0,h1,hk⟩
def ltQ (n:Nat):List GV→Bool
 | []=>true
 | .val (.string s)::l=>decide (s.size≤n)&&ltQ n l
 | _ => false
theorem ltQ_mem {n:Nat}:∀{l:List GV},ltQ n l=true→∀{g:GV},g∈l→∃t:ByteArray,(Z8 t).length ≤ n∧g=T t
 | [],_,g,h=>by cases h
 | .val (.string s)::l,hl,g,h=>by
  simp only[ltQ,Bool.and_eq_true,decide_eq_true_eq] at hl
  rcases List.mem_cons.1 h with rfl|h
  ·exact ⟨s,by rw[←Zu];exact hl.1,rfl⟩
  ·exact ltQ_mem hl.2 h
theorem chA (l:List UInt8):Z8 ⟨l.toArray⟩=l:=by simp[Z8]
theorem join_nil (sep:List UInt8):Zi sep []=[]:=rfl
theorem join_one (sep x:List UInt8):Zi sep [x]=x:=by simp[Zi,Lib.join]
theorem join_snoc (sep:List UInt8):∀(l:List (List UInt8)) (x:List UInt8),l≠[]→Zi sep (l++[x])=Zi sep l++sep++x
 | [],x,h=>absurd rfl h
 | [y],x,_ => by simp[Zi,Lib.join]
 | y::z::l,x,_ => by
  have:=join_snoc sep (z::l) x (by simp)
  have e:∀(a b:List UInt8) (r:List (List UInt8)),Zi sep (a::b::r)=a++(sep++Zi sep (b::r)):=fun a b r=>by simp[Zi,Lib.join]
  rw[List.cons_append,List.cons_append,e,e]
  rw[List.cons_append] at this
  rw[this]
  simp
theorem join_take (sep:List UInt8) {l:List (List UInt8)} {i:Nat} (h:i<l.length):Zi sep (l.take (i+1))=if i=0 then l[i] else Zi sep (l.take i)++sep++l[i]:=by
 rw[List.take_succ_eq_append_getElem h]
 split
 ·rename_i h0
  subst h0
  simp[join_one]
 ·rename_i h0
  exact join_snoc sep _ _ (by intro h1;have:=congrArg List.length h1;rw[List.length_take,List.length_nil] at this;omega)
theorem join_le (sep:List UInt8) (m k:Nat) (hs:sep.length≤k):∀(l:List (List UInt8)),(∀x∈l,x.length≤m)→(Zi sep l).length ≤ l.length * (m+k)
 | [],_ => by simp[join_nil]
 | [x],h=>by
  have:=h x (by simp)
  rw[join_one]
  simp
  omega
 | x::y::l,h=>by
  have h1:=h x (by simp)
  have h2:=join_le sep m k hs (y::l) fun z hz=>h z (by simp[hz])
  have e:Zi sep (x::y::l)=x++(sep++Zi sep (y::l)):=by simp[Zi,Lib.join]
  rw[e]
  simp only[List.length_append,List.length_cons] at h2 ⊢
  rw[Nat.succ_mul]
  omega
def setK (v:Int) (k:Nat):List Nat:=(List.range k).filter fun j=>v.toNat.testBit j
theorem setK_zero (v:Int):setK v 0=[]:=rfl
theorem setK_succ (v:Int) (k:Nat):setK v (k+1)=setK v k++if v.toNat.testBit k=true then [k] else []:=by
 unfold setK
 rw[List.range_succ,List.filter_append]
 congr 1
 simp only[List.filter_cons,List.filter_nil]
theorem setK_len (v:Int) (k:Nat):(setK v k).length ≤ k:=by
 unfold setK
 exact Nat.le_trans (List.length_filter_le _ _) (by simp)
theorem bit_of {v:Int} (h0:0≤v) (h:v≤4095) {k:Nat} (hk:k≤11):andI .i64 (shrI .i64 v k) 1=if v.toNat.testBit k=true then 1 else 0:=by
 have key:∀a,a<64→∀b,b<64→∀k,k<12→andI .i64 (shrI .i64 ((64 * a+b:Nat):Int) (k:Nat)) 1=if (64 * a+b).testBit k=true then 1 else 0:=by decide +kernel
 have:=key (v.toNat / 64) (by omega) (v.toNat % 64) (by omega) k (by omega)
 have e:64 * (v.toNat / 64)+v.toNat % 64=v.toNat:=by omega
 rw[e] at this
 have e2:((v.toNat:Nat):Int)=v:=by omega
 rw[e2] at this
 exact this
abbrev nS (k:Nat):ByteArray:=⟨(itoa (k:Int)).toArray⟩
theorem fmt_ne (e:Exp) (h:YZ e=false):fmtE e=[]:=by unfold fmtE;rw[h];rfl
theorem fmt_eq {e:Exp} (h:YZ e=true):fmtE e=ZO e:=by unfold fmtE;rw[if_pos h]
theorem fmt_len (e:Exp):(fmtE e).length ≤ 100000:=by
 unfold fmtE
 split
 ·rename_i h
  simp only[YZ,Bool.and_eq_true,decide_eq_true_eq] at h
  have:=X8 e h.2
  omega
 ·simp
theorem rendK_ne {x:Key} (h:Ye (some x)):Y1 x≠[]:=fun h0=>
 (tokN_it (x:=x) h [] [] (by intro _ c hc;cases hc)).2 (by rw[h0];rfl)
theorem txt_ne {e:Exp} (h:YZ e=true):ZO e≠[]:=by
 intro h0
 rcases parsed_law h with ⟨h1,_⟩|⟨h1,h2⟩
 ·rw[h0] at h1;exact h1 rfl
 ·have hv:allE YG e=true:=by simp only[YZ,Bool.and_eq_true] at h;exact h.2
  have hg:=gd_all e hv
  have hk:=kE_ne hv
  apply hk
  have:∀l:List It,(∀x∈l,Ye x)→Zd l=[]→l=[]:=by
   intro l hl hr
   cases l with
   | nil=>rfl
   | cons x l=>
    exfalso
    rw[YO] at hr
    have hx:=(List.append_eq_nil_iff.1 hr).1
    cases x with
    | none=>cases hx
    | some x=>
     have:=rendK_ne (x:=x) (hl (some x) (by simp))
     exact this hx
  have e0:=this (itE e) hg.good h0
  show Zl (itE e)=[]
  rw[e0]
  rfl
theorem okV_con {n t:Int} (hc:(t=1∧0≤n∧n≤1000000)∨(t=2∧0≤n∧n≤4095)∨(t=3∧(n=0∨n=1))):okV n t=true:=by
 have key:∀a,a<64→∀b,b<64→andI .i64 ((64 * a+b:Nat):Int) 4095=((64 * a+b:Nat):Int):=by decide +kernel
 rcases hc with ⟨rfl,h0,h1⟩|⟨rfl,h0,h1⟩|⟨rfl,rfl|rfl⟩
 ·have:satV n=n:=by unfold satV;omega
  simp[okV,coV,this]
 ·have:=key (n.toNat / 64) (by omega) (n.toNat % 64) (by omega)
  have e:64 * (n.toNat / 64)+n.toNat % 64=n.toNat:=by omega
  rw[e] at this
  have e2:((n.toNat:Nat):Int)=n:=by omega
  rw[e2] at this
  simp[okV,coV,this]
 ·decide
 ·decide
theorem lvE_bd (e:Exp):lvE e≤4:=lvE_le e
theorem opW_get {n:Int} (h1:1≤n) (h2:n≤12) (hx:n.toNat<[T ⟨#[]⟩,T ⟨#[43]⟩,T ⟨#[45]⟩,T ⟨#[42]⟩,T ⟨#[109,97,120]⟩,T ⟨#[109,105,110]⟩,T ⟨#[124]⟩,T ⟨#[38]⟩,T ⟨#[92]⟩,T ⟨#[60]⟩,T ⟨#[61,61]⟩,T ⟨#[104,97,115]⟩,T ⟨#[119,105,116,104]⟩].length):[T ⟨#[]⟩,T ⟨#[43]⟩,T ⟨#[45]⟩,T ⟨#[42]⟩,T ⟨#[109,97,120]⟩,T ⟨#[109,105,110]⟩,T ⟨#[124]⟩,T ⟨#[38]⟩,T ⟨#[92]⟩,T ⟨#[60]⟩,T ⟨#[61,61]⟩,T ⟨#[104,97,115]⟩,T ⟨#[119,105,116,104]⟩][n.toNat]'hx = T (opW n):=by
 have:=mem12 h1 h2
 simp only[List.mem_cons,List.not_mem_nil,or_false] at this
 rcases this with rfl|rfl|rfl|rfl|rfl|rfl|rfl|rfl|rfl|rfl|rfl|rfl<;>rfl
theorem opLv_cases (n:Int):ZB n=1∨ZB n=2∨ZB n=3∨ZB n=4:=by
 unfold ZB
 split
 ·exact .inl rfl
 ·split
  ·exact .inr (.inl rfl)
  ·split
   ·exact .inr (.inr (.inl rfl))
   ·exact .inr (.inr (.inr rfl))
theorem lvE_4 {e:Exp} (h:e.kind=4):lvE e=ZB e.n:=by unfold lvE;rw[if_neg (by omega),if_pos h]
structure IsOp (e a b:Exp):Prop where
 k:e.kind=4
 n0:1≤e.n
 n1:e.n≤12
 a:e.args=[a,b]
theorem IsOp.txt {e a b:Exp} (h:IsOp e a b) (h2:e = .mk 4 e.n 0 0 noS noS [a,b]):ZO e=if ZB e.n=4 then Z8 (opW e.n)++40::(ZO a++[44,32]++ZO b++[41]) else oprT (max (ZB e.n) 2) a++32::(Z8 (opW e.n)++32::oprT (ZB e.n+1) b):=by
 rw[h2]
 split
 ·rename_i h4;exact txt_fun _ h.n0 h.n1 a b h4
 ·rename_i h4;exact txt_op _ h.n0 h.n1 a b h4
end Go.Gh
namespace Go.Gh
theorem t_Bytes {g:GV} (h:ET false [.sl false [.int .u8]] g):∃bs:List UInt8,g=Bs bs:=by
 have h1:=t_one h
 simp only[CT] at h1
 obtain ⟨es,rfl,_,he⟩:=h1
 obtain ⟨l,rfl,_⟩:=list_of (f:=fun b:UInt8=>GV.val (.int .u8 b.toNat)) (ok:=fun _ => True) (es:=es) fun e hm=>by
  obtain ⟨gs,k1,k2⟩:=he e hm
  simp only[CTs,CT] at k1
  obtain ⟨g,gs',rfl,⟨n,rfl,hn⟩,rfl⟩:=k1
  simp at k2
  refine ⟨UInt8.ofNat n.toNat,?_,trivial⟩
  have hr:0≤n∧n<256:=by
   simp only[Lit.wf,Bool.and_eq_true,decide_eq_true_eq] at hn
   have e1:IntKind.u8.min=0:=rfl
   have e2:IntKind.u8.max=255:=rfl
   rw[e1,e2] at hn
   omega
  rw[←k2]
  have:((UInt8.ofNat n.toNat).toNat : Int)=n:=by
   rw[UInt8.toNat_ofNat']
   omega
  rw[this]
 exact ⟨l,rfl⟩
@[irreducible] def MkQ (p:Prop):Prop:=p
theorem qI {p:Prop} (h:MkQ p):p:=by unfold MkQ at h;exact h
theorem qU {p:Prop} (h:p):MkQ p:=by unfold MkQ;exact h
theorem VQ:type_of% (And.intro @ZF (And.intro @hset_c (And.intro @hdel_c (And.intro @neN (And.intro @neA_cons (And.intro @neA_nil @Z7)))))):=(And.intro @ZF (And.intro @hset_c (And.intro @hdel_c (And.intro @neN (And.intro @neA_cons (And.intro @neA_nil @Z7))))))
theorem VN:type_of% (And.intro @neH_cons (And.intro @neH_nil (And.intro @neA_cons (And.intro @neA_nil (And.intro @and_true @true_and))))):=(And.intro @neH_cons (And.intro @neH_nil (And.intro @neA_cons (And.intro @neA_nil (And.intro @and_true @true_and)))))
theorem oF {p:Prop} (h:False:=by omega):p:=h.elim
theorem nL (a b:Nat):a<b∨a≥b:=Nat.lt_or_ge a b
theorem gM {α:Type} {l:List α} {n:Nat} (h:n<l.length):l[n]∈l:=List.getElem_mem h
theorem tL {α:Type} {l:List α} {i:Nat} (h:l.length≤i):l.take i=l:=List.take_of_length_le h
end Go.Gh
namespace Go.Gh.Z
abbrev x (d:Nat) (o:GOp):GI:=⟨some d,none,o⟩
abbrev y (d g:Nat) (o:GOp):GI:=⟨some d,some (g,true),o⟩
abbrev z (d g:Nat) (o:GOp):GI:=⟨some d,some (g,false),o⟩
abbrev m (d a:Nat):GI:=⟨some d,none,.mov (.t a)⟩
abbrev k (d:Nat) (n:Int):GI:=⟨some d,none,.mov (.k (.val (.int .i64 n)))⟩
abbrev b (d:Nat) (n:Bool):GI:=⟨some d,none,.mov (.k (.val (.bool n)))⟩
abbrev l (d a:Nat):GI:=⟨some d,none,.load 1 false (.t a)⟩
abbrev h (d n a:Nat):GI:=⟨some d,none,.load n true (.t a)⟩
abbrev f (d o a:Nat):GI:=⟨some d,none,.faddr o 1 false (.t a)⟩
abbrev e (d o n a:Nat):GI:=⟨some d,none,.faddr o n true (.t a)⟩
abbrev i (d n a c:Nat):GI:=⟨some d,none,.iaddr n (.t a) (.t c)⟩
abbrev c (d f:Nat) (a:List GE):GI:=⟨some d,none,.call false f a⟩
abbrev o (d:Nat) (p:BinOp) (a b:Nat):GI:=⟨some d,none,.bin p (.t a) (.t b)⟩
abbrev q (d:Nat) (p:BinOp) (a:Nat) (n:Int):GI:=⟨some d,none,.bin p (.t a) (.k (.val (.int .i64 n)))⟩
abbrev n (d a:Nat):GI:=⟨some d,none,.len (.t a)⟩
abbrev w (d a:Nat):GI:=⟨some d,none,.not (.t a)⟩
abbrev a (d n r:Nat):GI:=⟨some d,none,.boxro n (.t r)⟩
abbrev t (d n r:Nat):GI:=⟨some d,none,.stro n d (.t r)⟩
abbrev u (d n:Nat):GI:=⟨some d,none,.allocr n⟩
abbrev v (d r j:Nat):GI:=⟨some d,none,.ext (.t r) j⟩
abbrev p (n o a:Nat):GOp:= .faddr o n false (.t a)
abbrev r (n a:Nat):GOp:= .load n false (.t a)
abbrev j (n a:Nat):GOp:= .load n true (.t a)
abbrev A (d a b:Nat):GI:=⟨some d,none,.pick (.t a) (.t b) (.k (.val (.bool false)))⟩
abbrev O (d a b:Nat):GI:=⟨some d,none,.pick (.t a) (.k (.val (.bool true))) (.t b)⟩
abbrev M (d g a:Nat):GI:=⟨some d,some (g,true),.mov (.t a)⟩
abbrev N (d g a:Nat):GI:=⟨some d,some (g,false),.mov (.t a)⟩
abbrev I (o p:Nat) (a:Nat) (n:Int):GI:=⟨some o,some (p,true),.bin .eql (.t a) (.k (.val (.int .i64 n)))⟩
abbrev J (o p:Nat) (a:Nat) (n:Int):GI:=⟨some o,some (p,false),.bin .eql (.t a) (.k (.val (.int .i64 n)))⟩
abbrev G (d f:Nat) (a:List GE):GI:=⟨some d,none,.call true f a⟩
abbrev Q (d n b s x:Nat):GI:=⟨some d,none,.append n b (.t s) (.t x)⟩
abbrev E (d n:Nat) (b:Bool):GI:=⟨some d,none,.bslice n [] 0 b []⟩
abbrev Z (d:Nat):GI:=⟨some d,none,.mov (.k (.val (.slice none 0 0)))⟩
abbrev K (n:Int):GE:= .k (.val (.int .i64 n))
abbrev S (a b:GC):GC:= .seq a b
abbrev D (n:Nat) (a b:GC):GC:= .cond n a b
abbrev F:GC:= .skip
abbrev R:GC:= .ret
abbrev C (c e:Nat) (x:GC):GC:= .seq (.cond c .skip (.exit e)) x
abbrev B (n:Nat) (x:GC):GC:= .block n (.loop x)
abbrev s (a:List GI) (b:GC):GC:= .seq (.reg a) b
end Go.Gh.Z
namespace Go.Gh
theorem jF {P:Program} {f:Nat} {fn:Func} {F:GFun} {c:Code} (h:P.funcs[f]? = some fn) (md:List (Nat×Nat):=[]) (h0:fn.body=some c:=by rfl) (h1:(fn.name == "runtime.NumGoroutine")=false:=by kernel_rfl) (h2:compC P F.cf md c=some F.gc:=by kernel_rfl) (h3:Yk P fn.results.toList=some F.gr:=by kernel_rfl) (h4:fn.ntmps=F.cf.N:=by rfl):IsFun P f F:=⟨fn,c,md,h,h1,h0,h2,h3,h4⟩
end Go.Gh
