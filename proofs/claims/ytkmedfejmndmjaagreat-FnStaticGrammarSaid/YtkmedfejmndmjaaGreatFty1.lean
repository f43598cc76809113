/- The law returns true whatever the input, and the input reads behind the call as before. No condition. -/
import Derived.Test.YtkmedfejmndmjaaGreatLibY2
import Derived.Shelf.SlSortCmp.NoneTotal
import Derived.Laws.Cover1
import Derived.Deep.RegionHeld3
import Derived.Shelf.SlGeneric
import Derived.KernelRfl
set_option maxHeartbeats 40000000
set_option maxRecDepth 20000
set_option linter.unusedSimpArgs false
set_option linter.unusedVariables false

namespace Go.Gh
abbrev T (s:ByteArray):GV:= .val (.string s)
theorem chars_inj {s t:ByteArray}:ZP s=ZP t↔s=t:=by
 constructor
 ·intro h;obtain ⟨a⟩:=s;obtain ⟨b⟩:=t;simp only[ZP] at h;congr 1;exact Array.ext' h
 ·rintro rfl;rfl
@[ext] structure Nod where
 id:Int
 parent:Int
 place:Int
 lit:Int
 rule:ByteArray
 kids:List Int
deriving DecidableEq
@[ext] structure Slo where
 pos:Int
 name:ByteArray
 val:Int
deriving DecidableEq
abbrev Occ (x:Int×ByteArray):GV:= .agg [I x.1,T x.2]
theorem e_nil (e:Env):subE e []=True:=(rfl)
theorem e_cons (e:Env) (j:Nat) (g:GV) (r:Env):subE e ((j,g)::r)=(ZL e j=some g∧subE e r):=(rfl)
theorem n_val (v:Value):nraw (.val v)=true:=(rfl)
theorem n_sl (sz:Nat) (es:List GV):nraw (.sl sz es)=true:=(rfl)
theorem n_agg (cs:List GV):nraw (.agg cs)=true:=(rfl)
theorem n_rop (sz:Nat) (g:GV):nraw (.rop sz g)=true:=(rfl)
theorem n_ptr (r sz i o:Nat):nraw (.ptr r sz i o)=true:=(rfl)
theorem n_own (r sz k n:Nat):nraw (.own r sz k n)=true:=(rfl)
theorem n_clo (f:Nat) (cs:List GV):nraw (.clo f cs)=true:=(rfl)
theorem n_tup (cs:List GV):nraw (.tup cs)=true:=(rfl)
theorem E2:type_of% (And.intro @e_nil (And.intro @e_cons (And.intro @n_val (And.intro @n_sl (And.intro @n_agg (And.intro @n_rop (And.intro @n_ptr (And.intro @n_own (And.intro @n_clo (And.intro @n_tup (And.intro @x_get @Option.some.injEq.{0}))))))))))):=
 And.intro @e_nil (And.intro @e_cons (And.intro @n_val (And.intro @n_sl (And.intro @n_agg (And.intro @n_rop (And.intro @n_ptr (And.intro @n_own (And.intro @n_clo (And.intro @n_tup (And.intro @x_get @Option.some.injEq.{0}))))))))))
theorem ZO:Zi=9223372036854775807:=(rfl)
theorem Z2:type_of% (And.intro @Int.ofNat_lt (And.intro @Int.natCast_nonneg (And.intro @true_and (And.intro @u_ext (And.intro @exists_prop_of_true (And.intro @Int.natCast_zero (And.intro @chars_inj (And.intro @Int.natCast_inj (And.intro ZO (And.intro @not_true_eq_false (And.intro @false_implies (And.intro @true_implies (And.intro @and_true (And.intro @implies_true.{0} @wrap64)))))))))))))):=
 And.intro @Int.ofNat_lt (And.intro @Int.natCast_nonneg (And.intro @true_and (And.intro @u_ext (And.intro @exists_prop_of_true (And.intro @Int.natCast_zero (And.intro @chars_inj (And.intro @Int.natCast_inj (And.intro ZO (And.intro @not_true_eq_false (And.intro @false_implies (And.intro @true_implies (And.intro @and_true (And.intro @implies_true.{0} @wrap64)))))))))))))
end Go.Gh
namespace Go.Gh
def kidStep (hs:List Int) (k:Nat) (m:Int) (c:Int):Int:=if (k:Int)<c∧c<k+1+hs.length then max m (hs.getD (c-k-1).toNat 0) else m
def kidMax (hs:List Int) (k:Nat) (kids:List Int):Int:=kids.foldl (kidStep hs k) 0
def hts:Nat→List Nod→List Int
 | _,[]=>[]
 | k,x::r=>(kidMax (hts (k+1) r) k x.kids+1)::hts (k+1) r
end Go.Gh
namespace Go.Gh
end Go.Gh
namespace Go.Gh
theorem sum_mem {α:Type} (f:α→Nat):∀(l:List α) (x:α),x∈l→f x≤(l.map f).sum
 | y::l,x,h=>by
  simp only[List.map_cons,List.sum_cons]
  rcases List.mem_cons.1 h with rfl|h
  ·omega
  ·have:=sum_mem f l x h;omega
end Go.Gh
namespace Go.Gh
theorem exP {p:Prop} {q:p→Prop} (h:p) (hq:q h):∃h,q h:=⟨h,hq⟩
end Go.Gh
namespace Go.Gh
theorem find_hit {α:Type} {p:α→Bool}:∀{xs:List α} {i:Nat} (h:i<xs.length),p xs[i]=true→(∀a∈xs.take i,p a=false)→xs.find? p=some xs[i]
 | x::xs,0,_,hp,_ => by simp at hp;simp[hp]
 | x::xs,i+1,h,hp,hn=>by
  have h1:p x=false:=hn x (by simp)
  simp only[List.find?_cons,h1]
  simpa using find_hit (p:=p) (xs:=xs) (i:=i) (by simpa using h) (by simpa using hp) (fun a ha=>hn a (by simp[ha]))
theorem find_none {α:Type} {p:α→Bool} {xs:List α} (hn:∀a∈xs,p a=false):xs.find? p=none:=by
 rw[List.find?_eq_none];intro x hx;simp[hn x hx]
end Go.Gh
namespace Go.Gh
section
variable {P:Program} {α:Type} {f:α→GV} {k kx sz:Nat} {det ag:Bool}
end
end Go.Gh
namespace Go.Gh
theorem t_one {t:Ty} {g:GV} (h:ET false [t] g):CT t g:=by
 obtain ⟨gs,k1,k2⟩:=h
 simp only[CTs] at k1
 obtain ⟨g,gs',rfl,hg,rfl⟩:=k1
 simp at k2
 rw[←k2];exact hg
end Go.Gh
namespace Go.Gh
theorem Z5 (P:Program) (c:Prop) [Decidable c] (g:GV) (d:Option Nat) (is:List GI) (K:Env→GH→Prop) (env:Env) (H:GH):valS P (if c then some g else none) d is K env H=(c∧Z3 P is K (gput env d g) H):=by
 by_cases h:c<;>simp[h,valS]
theorem nxF {ι:Type} {E:ι→Env} {G:ι→GH} {μ:ι→Nat} {i:ι} {e e':Env} {H H':GH} (j:ι) (hm:μ j<μ i) (hf:FE e H e' H') (h:subE e' (E j)) (hh:H'=G j):Nx E G μ i e H:=by
 subst hh
 exact ⟨j,FE.trans hf (FE.of h),hm⟩
theorem wloopN {P:Program} {cf:Cfg} (mxd:P.follows .mixedOrders = true) {ι:Type} {x:GC} {Q:Exit→Env→GH→Prop} {env:Env} {H:GH} (E:ι→Env) (G:ι→GH) (μ:ι→Nat) (i0:ι) (h0:subE env (E i0)) (hh:H=G i0)
 (round:∀i,(names (G i)).Nodup → gwp P cf x (thenG (Nx E G μ i) Q) (E i) (G i)):GW P cf (.loop x) Q env H:=by
 subst hh
 exact GW.loop E G μ i0 (FE.of h0) fun i=>GW.names fun hn=>Zp mxd (round i hn)
theorem Yw {P:Program} {cf:Cfg} (mxd:P.follows .mixedOrders = true) {ι:Type} {x:GC} {Q:Exit→Env→GH→Prop} {env env':Env} {H H':GH} (E:ι→Env) (G:ι→GH) (μ:ι→Nat) (i0:ι) (hf:FE env H env' H') (h0:subE env' (E i0)) (hh:H'=G i0)
 (round:∀i,(names (G i)).Nodup → GW P cf x (thenG (Nx E G μ i) Q) (E i) (G i)):GW P cf (.loop x) Q env H:=by
 subst hh
 exact GW.loop E G μ i0 (FE.trans hf (FE.of h0)) fun i=>GW.names fun hn=>round i hn
theorem bor_IS {H:GH} {r n:Nat} {l:List Int} (hr:ZU H r=some (1,l.map I)) (hn:l.length=n):Bor H (.own r 1 0 n) (IS l):= .all hr (by simp[hn]) (by simp[view])
theorem FE.close2 {env:Env} {H:GH} {r r1 sz sz1 i j n:Nat} {L gs ks:List GV} (hne:r1≠r) (hi:i<L.length) (hg:gs[j]? = some (.own r1 sz1 0 n)) (hn:ks.length=n) :
 FE env ((r1,sz1,ks)::(r,sz,L.set i (.agg gs))::H) env ((r,sz,L.set i (.agg (gs.set j (.osl sz1 ks))))::H):=by
 have:=FE.close (env:=env) (H:=(r1,sz1,ks)::(r,sz,L.set i (.agg gs))::H) (r:=r) (r1:=r1) (Ne.symm hne) (by rw[hget_old hne,Z4]) (List.getElem?_set_self hi) hg Z4 hn
 rwa [hset_old hne,hset_new,hdel_new,List.set_set] at this
theorem FE.swap {env:Env} {H:GH} {x y:Nat×Nat×List GV}:FE env (x::y::H) env (y::x::H):=by
 intro w0 D0 O0 N a w ⟨hdf,hsz,D,Ω,ρw,hi⟩
 obtain ⟨r1,sz1,es1⟩:=x
 obtain ⟨r2,sz2,es2⟩:=y
 obtain ⟨F1,G1,e1,h1,F2,F3,e2,h2,h3⟩:=hi.st.hm
 have hp:∀x,(F2++(F1++F3)).count x=Ω.count x:=by
  intro x;rw[e1,e2];simp only[List.count_append];omega
 have hmem:∀x∈F2++(F1++F3),x∈Ω:=fun x hx=>by
  have:=List.count_pos_iff.2 hx
  exact List.count_pos_iff.1 (by rw[←hp];exact this)
 refine ⟨hdf,hsz,D,F2++(F1++F3),ρw,hi.st' ⟨⟨F2,_,rfl,h2,F1,F3,rfl,h1,h3⟩,?_,?_,fun x hx=>hi.st.dj x (hmem x hx),hi.st.ds⟩ hmem⟩
 ·rw[List.nodup_iff_count]
  intro x
  rw[hp]
  exact List.nodup_iff_count.1 hi.st.nd x
 ·have:=hi.st.nn
  simp only[names,List.map_cons,List.nodup_cons,List.mem_cons,not_or] at this ⊢
  exact ⟨⟨fun e=>this.1.1 e.symm,this.2.1⟩,this.1.2,this.2.2⟩
theorem callS.borA {P:Program} {K:Env→GH→Prop} {is:List GI} {env:Env} {H:GH} {d:Option Nat} {det:Bool} {f:FuncId} {gs gs':List GV} {G:GV} (h:Pure P f gs' (· = G)) (hb:BorL H gs gs') (hs:scal G=true) (hk:Z3 P is K (gput env d G) H):callS P det f (some gs) d is K env H:=by
 cases det
 ·exact callS.bor h hb hs hk
 ·exact ⟨G,h.borrow hb (fun _ e=>by rw[e];exact hs),hk⟩
end Go.Gh
namespace Go.Gh
inductive Exp where
 | mk (kind n pos type:Int) (sym name:ByteArray) (args:List Exp)
def Exp.kind:Exp→Int | .mk k _ _ _ _ _ _ => k
def Exp.n:Exp→Int | .mk _ n _ _ _ _ _ => n
def Exp.pos:Exp→Int | .mk _ _ p _ _ _ _ => p
def Exp.type:Exp→Int | .mk _ _ _ t _ _ _ => t
def Exp.sym:Exp→ByteArray | .mk _ _ _ _ s _ _ => s
def Exp.name:Exp→ByteArray | .mk _ _ _ _ _ m _ => m
def Exp.args:Exp→List Exp | .mk _ _ _ _ _ _ a=>a
theorem Exp.eta (e:Exp):Exp.mk e.kind e.n e.pos e.type e.sym e.name e.args=e:=by cases e;rfl
mutual
def Ex:Exp→GV
 | .mk k n p t s m a=> .agg [I k,I n,I p,I t,T s,T m,.sl 7 (ExL a)]
def ExL:List Exp→List GV
 | []=>[]
 | e::l=>Ex e::ExL l
end
theorem ExL_eq (l:List Exp):ExL l=l.map Ex:=by
 induction l with
 | nil=>rfl
 | cons e l ih=>simp[ExL,ih]
abbrev ExS (l:List Exp):GV:= .sl 7 (l.map Ex)
theorem Y6 (e:Exp):Ex e = .agg [I e.kind,I e.n,I e.pos,I e.type,T e.sym,T e.name,ExS e.args]:=by
 cases e;simp only[Ex,ExL_eq];rfl
theorem Exp.ext_iff {x y:Exp}:x=y↔x.kind=y.kind∧x.n=y.n∧x.pos=y.pos∧x.type=y.type∧x.sym=y.sym∧x.name=y.name∧x.args=y.args:=by
 cases x;cases y
 simp[Exp.kind,Exp.n,Exp.pos,Exp.type,Exp.sym,Exp.name,Exp.args]
mutual
theorem Exp.indA {p:Exp→Prop} (h:∀e,(∀a∈e.args,p a)→p e):∀e,p e
 | .mk k n q t s m a=>h _ (Exp.indL h a)
theorem Exp.indL {p:Exp→Prop} (h:∀e,(∀a∈e.args,p a)→p e):∀(l:List Exp),∀a∈l,p a
 | [],a,hm=>by cases hm
 | e::l,a,hm=>by
  have he:p e:=Exp.indA h e
  have hl:=Exp.indL h l
  rcases List.mem_cons.1 hm with rfl|hm
  ·exact he
  ·exact hl a hm
end
mutual
def wEx:Exp→Nat
 | .mk _ _ _ _ s m a=>(ZP s).length + (ZP m).length + (a.length+wExL a)
def wExL:List Exp→Nat
 | []=>0
 | e::l=>wEx e+wExL l
end
theorem wExL_eq (l:List Exp):wExL l=(l.map wEx).sum := by
 induction l with
 | nil=>rfl
 | cons e l ih=>simp[wExL,ih]
theorem wEx_eq (e:Exp):wEx e=(ZP e.sym).length + (ZP e.name).length + wtS wEx e.args:=by
 cases e;simp only[wEx,wExL_eq,wtS];rfl
mutual
def okE:Exp→Prop
 | .mk _ _ _ _ s m a=>s.size≤maxLen∧m.size≤maxLen∧okEL a
def okEL:List Exp→Prop
 | []=>True
 | e::l=>okE e∧okEL l
end
theorem okEL_eq {l:List Exp}:okEL l↔∀a∈l,okE a:=by
 induction l with
 | nil=>simp[okEL]
 | cons e l ih=>simp[okEL,ih]
theorem okE_eq {e:Exp}:okE e↔e.sym.size≤maxLen∧e.name.size≤maxLen∧∀a∈e.args,okE a:=by
 cases e;simp only[okE,okEL_eq];rfl
mutual
instance decExp:(x y:Exp)→Decidable (x=y)
 | .mk k n p t s m a,.mk k' n' p' t' s' m' a'=>
  match decExpL a a' with
  | isTrue h=>decidable_of_iff (k=k'∧n=n'∧p=p'∧t=t'∧s=s'∧m=m') (by simp[h])
  | isFalse h=>isFalse (by simp[h])
instance decExpL:(x y:List Exp)→Decidable (x=y)
 | [],[]=>isTrue rfl
 | [],_ :: _ => isFalse (by simp)
 | _ :: _,[]=>isFalse (by simp)
 | e::l,e'::l'=>match decExp e e',decExpL l l' with
  | isTrue h,isTrue h'=>isTrue (by rw[h,h'])
  | isFalse h,_ => isFalse (by simp[h])
  | _,isFalse h=>isFalse (by simp[h])
end
theorem Za {e:Exp} (h:wEx e≤1048576):e.args.length≤1048576∧∀a∈e.args,wEx a≤1048576:=by
 rw[wEx_eq] at h
 simp only[wtS] at h
 refine ⟨by omega,fun a ha=> ?_⟩
 have:=sum_mem wEx e.args a ha
 omega
theorem Y2 (e:Exp):isAgg (Ex e)=true:=by rw[Y6];rfl
theorem YJ (e:Exp):geR (some (Ex e))=some (Ex e):=by rw[Y6];rfl
theorem Y3 (e:Exp):gsize (Ex e)=7:=by rw[Y6];rfl
theorem YS (e:Exp):ZE (Ex e)=true:=by rw[Y6];rfl
theorem view_Ex (e:Exp):view (Ex e)=Ex e:=by rw[Y6];rfl
end Go.Gh
namespace Go.Gh
open Go.RowKit Go.ChangeShapes Go.WideShapes Go.Deep
end Go.Gh
namespace Go.Gh
end Go.Gh
namespace Go.Gh
def satV (n:Int):Int:=max (-1000000) (min 1000000 n)
def trV (b:Bool):Int:=if b then 1 else 0
def coV (v k:Int):Int:=if k=1 then satV v else if k=2 then andI .i64 v 4095 else if k=3 then trV (!decide (v=0)) else if k=4∧0≤v∧v≤999 then v else 0
def opT (op:Int):Int×Int×Int:=
 if 1≤op∧op≤5 then (1,1,1) else if 6≤op∧op≤8 then (2,2,2) else if op=9∨op=10 then (1,1,3) else if op=11 then (2,1,3) else if op=12 then (2,1,2) else (0,0,0)
abbrev opG (op:Int):GV:= .tup [I (opT op).1,I (opT op).2.1,I (opT op).2.2]
def okV (v k:Int):Bool:=decide (1≤k∧k≤4)&&decide (coV v k=v)
theorem opG0 {op:Int} (h:¬(1≤op∧op≤12)):opG op = .tup [I 0,I 0,I 0]:=by
 have:opT op=(0,0,0):=by
  unfold opT
  rw[if_neg (by omega),if_neg (by omega),if_neg (by omega),if_neg (by omega),if_neg (by omega)]
 simp only[opG,this]
end Go.Gh
namespace Go.Gh
mutual
def cntE:Exp→Nat
 | .mk _ _ _ _ _ _ a=>1+cntEL a
def cntEL:List Exp→Nat
 | []=>0
 | e::l=>cntE e+cntEL l
end
theorem cntEL_eq (l:List Exp):cntEL l=(l.map cntE).sum := by
 induction l with
 | nil=>rfl
 | cons e l ih=>simp[cntEL,ih]
theorem cntE_eq (e:Exp):cntE e=1+(e.args.map cntE).sum := by
 cases e;simp only[cntE,cntEL_eq];rfl
theorem cntE_le:∀e,cntE e≤wEx e+1:=by
 refine Exp.indA fun e ih=> ?_
 rw[cntE_eq,wEx_eq]
 have:∀l:List Exp,(∀a∈l,cntE a≤wEx a+1)→(l.map cntE).sum ≤ l.length+(l.map wEx).sum := by
  intro l
  induction l with
  | nil=>intro _;simp
  | cons a l ih=>
   intro h
   have h1:=h a (by simp)
   have h2:=ih fun b hb=>h b (by simp[hb])
   simp only[List.map_cons,List.sum_cons,List.length_cons];omega
 have:=this e.args ih
 simp only[wtS];omega
theorem sumT (f:Exp→Nat) (l:List Exp) (i:Nat) (h:i<l.length):((l.take (i+1)).map f).sum = ((l.take i).map f).sum + f l[i]:=psum_succ f l i h
theorem sumT_le (f:Exp→Nat) (l:List Exp) (i:Nat):((l.take i).map f).sum ≤ (l.map f).sum := psum_le f l i
def mxL:List Nat→Nat
 | []=>0
 | a::l=>max a (mxL l)
theorem mxL_app (l m:List Nat):mxL (l++m)=max (mxL l) (mxL m):=by
 induction l with
 | nil=>simp[mxL]
 | cons a l ih=>simp only[List.cons_append,mxL,ih];omega
theorem mxL_le (l:List Nat):mxL l≤l.sum:=by
 induction l with
 | nil=>simp[mxL]
 | cons a l ih=>simp only[mxL,List.sum_cons];omega
mutual
def dpE:Exp→Nat
 | .mk _ _ _ _ _ _ a=>1+dpEL a
def dpEL:List Exp→Nat
 | []=>0
 | e::l=>max (dpE e) (dpEL l)
end
theorem dpEL_eq (l:List Exp):dpEL l=mxL (l.map dpE):=by
 induction l with
 | nil=>rfl
 | cons e l ih=>simp[dpEL,mxL,ih]
theorem dpE_eq (e:Exp):dpE e=1+mxL (e.args.map dpE):=by
 cases e;simp only[dpE,dpEL_eq];rfl
theorem sumL_le {l:List Exp} {f g:Exp→Nat} (h:∀a∈l,f a≤g a):(l.map f).sum ≤ (l.map g).sum := by
 induction l with
 | nil=>simp
 | cons a l ih=>
  have h1:=h a (by simp)
  have h2:=ih fun b hb=>h b (by simp[hb])
  simp only[List.map_cons,List.sum_cons];omega
theorem dpE_le:∀e,dpE e≤cntE e:=by
 refine Exp.indA fun e ih=> ?_
 rw[cntE_eq,dpE_eq]
 have h1:=mxL_le (e.args.map dpE)
 have h2:=sumL_le ih
 omega
theorem mxT (f:Exp→Nat) (l:List Exp) (i:Nat) (h:i<l.length):mxL ((l.take (i+1)).map f)=max (mxL ((l.take i).map f)) (f l[i]):=by
 rw[List.take_succ_eq_append_getElem h,List.map_append,mxL_app];simp[mxL]
theorem mxT_le (f:Exp→Nat) (l:List Exp) (i:Nat):mxL ((l.take i).map f)≤(l.map f).sum :=
 Nat.le_trans (mxL_le _) (sumT_le f l i)
end Go.Gh
namespace Go.Gh
mutual
def allE (p:Exp→Bool):Exp→Bool
 | .mk k n q t s m a=>p (.mk k n q t s m a)&&allEL p a
def allEL (p:Exp→Bool):List Exp→Bool
 | []=>true
 | e::l=>allE p e&&allEL p l
end
theorem allEL_eq (p:Exp→Bool) (l:List Exp):allEL p l=l.all (allE p):=by
 induction l with
 | nil=>rfl
 | cons e l ih=>simp[allEL,ih]
theorem allE_eq (p:Exp→Bool) (e:Exp):allE p e=(p e&&e.args.all (allE p)):=by
 cases e;simp only[allE,allEL_eq];rfl
theorem any_ix {α:Type} (p:α→Bool) (l:List α):decide (0≤Y5 p l)=l.any p:=by
 unfold Y5
 cases h:l.findIdx? p with
 | none=>
  have:=List.findIdx?_eq_none_iff.1 h
  simp;exact this
 | some i=>
  obtain ⟨h1,h2,_⟩:=List.findIdx?_eq_some_iff_getElem.1 h
  simp
  exact ⟨l[i],List.getElem_mem h1,h2⟩
theorem any_not {α:Type} (p:α→Bool) (l:List α):(!l.any fun a=> !p a)=l.all p:=by
 induction l with
 | nil=>rfl
 | cons a l ih=>simp only[List.any_cons,List.all_cons,Bool.not_or,Bool.not_not,ih]
theorem all_take {p:Exp→Bool} {l:List Exp} {i:Nat} (h:i<l.length) (hp:p l[i]=true) (hn:∀a∈l.take i,p a=true):∀a∈l.take (i+1),p a=true:=by
 intro a ha
 rw[List.take_add_one,List.getElem?_eq_getElem h,Option.toList_some,List.mem_append] at ha
 rcases ha with ha|ha
 ·exact hn a ha
 ·simp only[List.mem_singleton] at ha;rw[ha];exact hp
end Go.Gh
namespace Go.Gh
def letV (c:UInt8):Bool:=decide (97≤(c.toNat:Int))&&decide ((c.toNat:Int)≤122)
def digV (c:UInt8):Bool:=decide (48≤(c.toNat:Int))&&decide ((c.toNat:Int)≤57)
def kwS:List ByteArray:=[⟨#[105,102]⟩,⟨#[116,104,101,110]⟩,⟨#[101,108,115,101]⟩,⟨#[116,114,117,101]⟩,⟨#[102,97,108,115,101]⟩,⟨#[108,105,116]⟩,⟨#[110,111,110,101]⟩,
 ⟨#[115,101,108,102]⟩,⟨#[111,102]⟩,⟨#[109,97,120]⟩,⟨#[109,105,110]⟩,⟨#[119,105,116,104]⟩,⟨#[104,97,115]⟩]
def hasS (l:List ByteArray) (s:ByteArray):Bool:=l.any fun x=>decide (x=s)
theorem hasS_hit {l:List ByteArray} {s:ByteArray} {i:Nat} (h:i<l.length) (e:l[i]=s):hasS l s=true:=by
 simp only[hasS,List.any_eq_true];exact ⟨l[i],List.getElem_mem h,by simp[e]⟩
theorem hasS_none {l:List ByteArray} {s:ByteArray} (h:∀x∈l,decide (x=s)=false):hasS l s=false:=by
 simp only[hasS,List.any_eq_false];intro x hx;simpa using h x hx
def resV (s:ByteArray):Bool:=hasS kwS s
def shp:List UInt8→Bool
 | []=>false
 | c::l=>letV c&&l.all fun c=>letV c||digV c
theorem shp_iff (l:List UInt8):shp l=true↔0<l.length∧∀(j:Nat) (h:j<l.length),letV l[j]=true∨(j≠0∧digV l[j]=true):=by
 cases l with
 | nil=>simp[shp]
 | cons c l=>
  simp only[shp,Bool.and_eq_true,List.all_eq_true,Bool.or_eq_true,List.length_cons]
  constructor
  ·rintro ⟨h1,h2⟩
   refine ⟨by omega,fun j hj=> ?_⟩
   cases j with
   | zero=>exact .inl h1
   | succ j=>
    have:=h2 l[j] (List.getElem_mem _)
    simp only[List.getElem_cons_succ]
    rcases this with h|h
    ·exact .inl h
    ·exact .inr ⟨by omega,h⟩
  ·rintro ⟨_,h⟩
   constructor
   ·have:=h 0 (by omega)
    simpa using this
   ·intro x hx
    obtain ⟨j,hj,rfl⟩:=List.mem_iff_getElem.1 hx
    have:=h (j+1) (by omega)
    simp only[List.getElem_cons_succ] at this
    rcases this with h|h
    ·exact .inl h
    ·exact .inr h.2
def Zx (s:ByteArray):Bool:=shp (ZP s)&&decide ((ZP s).length ≤ 8) && !resV s
end Go.Gh
namespace Go.Gh
theorem shp_bad {l:List UInt8} {i:Nat} (h:i<l.length) (h1:¬(letV l[i]=true∨(i≠0∧digV l[i]=true))):shp l=false:=by
 cases hs:shp l with
 | false=>rfl
 | true=>exact absurd (((shp_iff l).1 hs).2 i h) h1
theorem shp_step {l:List UInt8} {i:Nat} (h:i<l.length) (hn:∀(j:Nat) (h:j<l.length),j<i→letV l[j]=true∨(j≠0∧digV l[j]=true)) (hg:letV l[i]=true∨(i≠0∧digV l[i]=true)) :
 ∀(j:Nat) (h:j<l.length),j<i+1→letV l[j]=true∨(j≠0∧digV l[j]=true):=by
 intro j hj hji
 by_cases e:j=i
 ·subst e;exact hg
 ·exact hn j hj (by omega)
theorem shp_end {l:List UInt8} (hn:∀(j:Nat) (h:j<l.length),j<l.length→letV l[j]=true∨(j≠0∧digV l[j]=true)):shp l=decide (0<l.length):=by
 by_cases h:0<l.length
 ·rw[decide_eq_true h];exact (shp_iff l).2 ⟨h,fun j hj=>hn j hj hj⟩
 ·rw[decide_eq_false h]
  cases l with
  | nil=>rfl
  | cons a l=>simp at h
end Go.Gh
namespace Go.Gh
def arity (k:Int):Nat:=if k=4 then 2 else if k=5 then 3 else if k=8 then 1 else 0
def noS:ByteArray:=⟨#[]⟩
def bareV (e:Exp):Bool:=
 decide (e.args.length=arity e.kind)&&(decide (e.kind=3∨e.kind=6)||decide (e.pos=0))&&(decide (e.kind=3∨e.kind=8)||decide (e.name=noS))&&(decide (e.kind=1∨e.kind=4)||decide (e.n=0)) &&
 (decide (e.kind=1)||decide (e.type=0))&&(decide (e.kind=8)||decide (e.sym=noS))
end Go.Gh
namespace Go.Gh
theorem nraw_Ex (e:Exp):nraw (Ex e)=true:=by rw[Y6];rfl
theorem clean_Ex (e:Exp):clean (Ex e)=true:=by rw[Y6];rfl
theorem sub_Ex0 (e:Exp):sub (Ex e) 0 1 false=some (I e.kind):=by rw[Y6];rfl
theorem sub_Ex1 (e:Exp):sub (Ex e) 1 1 false=some (I e.n):=by rw[Y6];rfl
theorem sub_Ex2 (e:Exp):sub (Ex e) 2 1 false=some (I e.pos):=by rw[Y6];rfl
theorem sub_Ex3 (e:Exp):sub (Ex e) 3 1 false=some (I e.type):=by rw[Y6];rfl
theorem sub_Ex4 (e:Exp):sub (Ex e) 4 1 false=some (T e.sym):=by rw[Y6];rfl
theorem sub_Ex5 (e:Exp):sub (Ex e) 5 1 false=some (T e.name):=by rw[Y6];rfl
theorem sub_Ex6 (e:Exp):sub (Ex e) 6 1 false=some (ExS e.args):=by rw[Y6];rfl
theorem fold_Ex (e:Exp):GV.agg [I e.kind,I e.n,I e.pos,I e.type,T e.sym,T e.name,.sl 7 (e.args.map Ex)]=Ex e:=(Y6 e).symm
abbrev ExC (e:Exp):List GV:=[I e.kind,I e.n,I e.pos,I e.type,T e.sym,T e.name,ExS e.args]
theorem upd_Ex (gs:List GV) (o:Nat) (e:Exp):upd (.agg gs) o (Ex e)=if o+7≤gs.length then some (.agg (gs.take o++(ExC e++gs.drop (o+7)))) else none:=by rw[Y6];rfl
theorem upd_ExO (e:Exp) (o r sz k n:Nat):upd (Ex e) o (.own r sz k n)=if o<7 then some (.agg ((ExC e).set o (.own r sz k n))) else none:=by rw[Y6];rfl
theorem XE:type_of% (And.intro @Y2 (And.intro @YJ (And.intro @Y3 (And.intro @YS (And.intro @nraw_Ex (And.intro @clean_Ex (And.intro @sub_Ex0 (And.intro @sub_Ex1 (And.intro @sub_Ex2 (And.intro @sub_Ex3 (And.intro @sub_Ex4 (And.intro @sub_Ex5 (And.intro @sub_Ex6 (And.intro @fold_Ex (And.intro @upd_ExO @upd_Ex))))))))))))))):=
 And.intro @Y2 (And.intro @YJ (And.intro @Y3 (And.intro @YS (And.intro @nraw_Ex (And.intro @clean_Ex (And.intro @sub_Ex0 (And.intro @sub_Ex1 (And.intro @sub_Ex2 (And.intro @sub_Ex3 (And.intro @sub_Ex4 (And.intro @sub_Ex5 (And.intro @sub_Ex6 (And.intro @fold_Ex (And.intro @upd_ExO @upd_Ex))))))))))))))
@[ext] structure Att where
 name:ByteArray
 type:Int
 mode:Int
 circ:Bool
deriving DecidableEq
abbrev At (x:Att):GV:= .agg [T x.name,I x.type,I x.mode,B x.circ]
abbrev AtS (l:List Att):GV:= .sl 4 (l.map At)
@[ext] structure Sym where
 name:ByteArray
 atts:List Att
deriving DecidableEq
abbrev Sy (x:Sym):GV:= .agg [T x.name,AtS x.atts]
abbrev SyS (l:List Sym):GV:= .sl 2 (l.map Sy)
@[ext] structure Eqn where
 pos:Int
 name:ByteArray
 expr:Exp
deriving DecidableEq
abbrev Qn (x:Eqn):GV:= .agg [I x.pos,T x.name,I x.expr.kind,I x.expr.n,I x.expr.pos,I x.expr.type,T x.expr.sym,T x.expr.name,ExS x.expr.args]
abbrev QnS (l:List Eqn):GV:= .sl 9 (l.map Qn)
@[ext] structure Con where
 sym:ByteArray
 name:ByteArray
 goal:Exp
 value:Exp
deriving DecidableEq
abbrev Co (x:Con):GV:= .agg [T x.sym,T x.name,I x.goal.kind,I x.goal.n,I x.goal.pos,I x.goal.type,T x.goal.sym,T x.goal.name,ExS x.goal.args,I x.value.kind,I x.value.n,I x.value.pos,I x.value.type,T x.value.sym,T x.value.name,ExS x.value.args]
abbrev CoS (l:List Con):GV:= .sl 16 (l.map Co)
abbrev TS (l:List ByteArray):GV:= .sl 1 (l.map T)
@[ext] structure Rul where
 name:ByteArray
 left:ByteArray
 right:List ByteArray
 lit:Bool
 eqs:List Eqn
 cons:List Con
deriving DecidableEq
abbrev Ru (x:Rul):GV:= .agg [T x.name,T x.left,TS x.right,B x.lit,QnS x.eqs,CoS x.cons]
abbrev RuS (l:List Rul):GV:= .sl 6 (l.map Ru)
@[ext] structure Gram where
 syms:List Sym
 rules:List Rul
deriving DecidableEq
abbrev Gr (g:Gram):GV:= .agg [SyS g.syms,RuS g.rules]
def okAt (x:Att):Prop:=x.name.size≤maxLen
def okSy (x:Sym):Prop:=x.name.size≤maxLen∧∀a∈x.atts,okAt a
def okEq (x:Eqn):Prop:=x.name.size≤maxLen∧okE x.expr
def okCo (x:Con):Prop:=x.sym.size≤maxLen∧x.name.size≤maxLen∧okE x.goal∧okE x.value
def okRu (x:Rul):Prop:=x.name.size≤maxLen∧x.left.size≤maxLen∧(∀s∈x.right,s.size≤maxLen)∧(∀q∈x.eqs,okEq q)∧∀c∈x.cons,okCo c
def okGr (g:Gram):Prop:=(∀s∈g.syms,okSy s)∧∀r∈g.rules,okRu r
def smSy (x:Sym):Prop:=x.atts.length≤1048576
def smEq (x:Eqn):Prop:=wEx x.expr≤1048576
def smCo (x:Con):Prop:=wEx x.goal≤1048576∧wEx x.value≤1048576
def Zk (x:Rul):Prop:=x.right.length≤1048576∧x.eqs.length≤1048576∧x.cons.length≤1048576∧(∀q∈x.eqs,smEq q)∧∀c∈x.cons,smCo c
def Zw (g:Gram):Prop:=g.syms.length≤1048576∧g.rules.length≤1048576∧(∀s∈g.syms,smSy s)∧∀r∈g.rules,Zk r
theorem wtS_mem {α:Type} {wt:α→Nat} {l:List α} {n:Nat} (h:wtS wt l≤n):l.length≤n∧∀a∈l,wt a≤n:=by
 simp only[wtS] at h
 exact ⟨by omega,fun a ha=>by have:=sum_mem wt l a ha;omega⟩
theorem Z1 {α:Type} {l:List α} {i:Nat} {d:α} (h:i<l.length):l.getD i d=l[i]:=by
 rw[List.getD_eq_getElem?_getD,List.getElem?_eq_getElem h];rfl
def symZ:Sym:=⟨noS,[]⟩
def attZ:Att:=⟨noS,0,0,false⟩
def rulZ:Rul:=⟨noS,noS,[],false,[],[]⟩
def Zq (l:List Sym) (n:ByteArray):Sym:=(l.find? fun s=>decide (s.name=n)).getD symZ
def hSym (l:List Sym) (n:ByteArray):Bool:=(l.find? fun s=>decide (s.name=n)).isSome
def fRul (l:List Rul) (n:ByteArray):Rul:=(l.find? fun s=>decide (s.name=n)).getD rulZ
def hRul (l:List Rul) (n:ByteArray):Bool:=(l.find? fun s=>decide (s.name=n)).isSome
def fAtt (l:List Att) (n:ByteArray):Att:=(l.find? fun s=>decide (s.name=n)).getD attZ
def hAtt (l:List Att) (n:ByteArray):Bool:=(l.find? fun s=>decide (s.name=n)).isSome
theorem fSym_mem (l:List Sym) (n:ByteArray):Zq l n∈l∨Zq l n=symZ:=by
 unfold Zq
 cases h:l.find? fun s=>decide (s.name=n) with
 | none=>exact .inr rfl
 | some a=>exact .inl (List.mem_of_find?_eq_some h)
theorem YB {g:Gram} (h:Zw g) (n:ByteArray):smSy (Zq g.syms n):=by
 rcases fSym_mem g.syms n with h1|h1
 ·exact h.2.2.1 _ h1
 ·rw[h1];simp[smSy,symZ]
def Zz (r:Rul) (pos:Int):ByteArray:=if pos=0 then r.left else if 1≤pos∧pos≤r.right.length then r.right.getD (pos-1).toNat noS else noS
def Zu (g:Gram) (r:Rul) (pos:Int) (name:ByteArray):Att:=if 0≤pos∧pos≤r.right.length then fAtt (Zq g.syms (Zz r pos)).atts name else attZ
def hasAt (g:Gram) (r:Rul) (pos:Int) (name:ByteArray):Bool:=if 0≤pos∧pos≤r.right.length then hAtt (Zq g.syms (Zz r pos)).atts name else false
theorem ixOf_cases {α:Type} (p:α→Bool) (xs:List α):Y5 p xs = -1∨(0≤Y5 p xs∧Y5 p xs<xs.length):=by
 unfold Y5
 cases h:xs.findIdx? p with
 | none=>exact .inl rfl
 | some i=>
  obtain ⟨h1,_,_⟩:=List.findIdx?_eq_some_iff_getElem.1 h
  exact .inr ⟨by simp,by simpa using h1⟩
end Go.Gh
namespace Go.Gh
theorem fAtt_no {l:List Att} {n:ByteArray} (h:hAtt l n=false):fAtt l n=attZ:=by
 simp only[hAtt,fAtt] at *
 cases e:l.find? fun s=>decide (s.name=n) with
 | none=>rfl
 | some a=>rw[e] at h;simp at h
end Go.Gh
namespace Go.Gh
end Go.Gh
namespace Go.Gh
def tyK (g:Gram) (r:Rul) (e:Exp) (ts:List Int):Int:=
 if e.kind=1 then e.type else
 if e.kind=2 then (if r.lit then 1 else 0) else
 if e.kind=3 then (Zu g r e.pos e.name).type else
 if e.kind=4 then (if ts.length=2∧ts.getD 0 0=(opT e.n).1 ∧ ts.getD 1 0=(opT e.n).2.1 then (opT e.n).2.2 else 0) else
 if e.kind=5 then (if ts.length=3∧ts.getD 0 0=3∧ts.getD 1 0=ts.getD 2 0 then ts.getD 1 0 else 0) else
 if e.kind=6 then (if 0≤e.pos∧e.pos≤r.right.length then 4 else 0) else
 if e.kind=7 then 4 else
 if e.kind=8 then (if ts.length=1∧ts.getD 0 0=4 then (fAtt (Zq g.syms e.sym).atts e.name).type else 0) else 0
mutual
def tyE (g:Gram) (r:Rul):Exp→Int
 | .mk k n p t s m a=>tyK g r (.mk k n p t s m a) (tyEL g r a)
def tyEL (g:Gram) (r:Rul):List Exp→List Int
 | []=>[]
 | e::l=>tyE g r e::tyEL g r l
end
theorem tyEL_eq (g:Gram) (r:Rul) (l:List Exp):tyEL g r l=l.map (tyE g r):=by
 induction l with
 | nil=>rfl
 | cons e l ih=>simp[tyEL,ih]
theorem tyE_eq (g:Gram) (r:Rul) (e:Exp):tyE g r e=tyK g r e (e.args.map (tyE g r)):=by
 cases e;simp only[tyE,tyEL_eq];rfl
end Go.Gh
namespace Go.Gh
theorem takeApp2 {α β:Type} (f:β→GV) (h:α→β) (l:List α) (i:Nat) (hi:i<l.length):List.take i (List.map f (List.map h (List.take i l)))++[f (h l[i])]=List.map f (List.map h (List.take (i+1) l)):=by
 have:=takeApp (fun a=>f (h a)) l i hi
 simp only[List.map_map];exact this
theorem getDm {α:Type} {l:List α} {f:α→Int} {k:Nat} (h:k<l.length):(l.map f).getD k 0=f l[k]:=by
 rw[Z1 (by simpa using h),List.getElem_map]
theorem Bor.of_eq {H:GH} {g g':GV} (h:g=g'):Bor H g g':=h▸Bor.refl
end Go.Gh
namespace Go.Gh
def nodeV (e:Exp):Bool:=
 decide (1≤e.kind∧e.kind≤8)&&bareV e &&
 (if e.kind=1 then decide (1≤e.type∧e.type≤3)&&okV e.n e.type&&decide (0≤e.n) else
  if e.kind=3 then decide (0≤e.pos∧e.pos≤3)&&Zx e.name else
  if e.kind=6 then decide (0≤e.pos∧e.pos≤3) else
  if e.kind=4 then decide (1≤e.n∧e.n≤12) else
  if e.kind=8 then Zx e.sym&&Zx e.name else true)
def validE (e:Exp):Bool:=decide (cntE e≤24)&&decide (dpE e≤6)&&allE nodeV e
theorem shp_iff' (l:List UInt8):shp l=true↔0<l.length∧(∀h:0<l.length,letV l[0]=true)∧∀(j:Nat) (h:j<l.length),letV l[j]=true∨digV l[j]=true:=by
 rw[shp_iff]
 constructor
 ·rintro ⟨h1,h2⟩
  refine ⟨h1,fun h=> ?_,fun j hj=> ?_⟩
  ·rcases h2 0 h with h3|h3
   ·exact h3
   ·exact absurd rfl h3.1
  ·rcases h2 j hj with h3|h3
   ·exact .inl h3
   ·exact .inr h3.2
 ·rintro ⟨h1,h2,h3⟩
  refine ⟨h1,fun j hj=> ?_⟩
  by_cases h0:j=0
  ·subst h0;exact .inl (h2 hj)
  ·rcases h3 j hj with h4|h4
   ·exact .inl h4
   ·exact .inr ⟨h0,h4⟩
theorem shp_no {l:List UInt8} {i:Nat} (h:i<l.length) (h1:letV l[i]=false) (h2:digV l[i]=false):shp l=false:=by
 cases hs:shp l with
 | false=>rfl
 | true=>
  rcases ((shp_iff' l).1 hs).2.2 i h with h3|h3
  ·rw[h1] at h3;cases h3
  ·rw[h2] at h3;cases h3
theorem shp_no0 {l:List UInt8} (h:0<l.length) (h1:letV l[0]=false):shp l=false:=by
 cases hs:shp l with
 | false=>rfl
 | true=>
  have:=((shp_iff' l).1 hs).2.1 h
  rw[h1] at this;cases this
theorem shp_yes {l:List UInt8} (h:0<l.length) (h1:letV l[0]=true) (hn:∀(j:Nat) (h:j<l.length),letV l[j]=true∨digV l[j]=true):shp l=true:=(shp_iff' l).2 ⟨h,fun _ => h1,hn⟩
end Go.Gh
namespace Go.Gh
theorem Bor.clo {H:GH} {f:Nat} {gs gs':List GV} (h:BorL H gs gs'):Bor H (.clo f gs) (.clo f gs'):=fun w D Ω v hst hm=>by
 simp only[MV] at hm ⊢
 obtain ⟨h0,vs,h1,h2⟩:=hm
 exact ⟨h0,vs,h1,h w D Ω vs hst h2⟩
theorem Bor.rop {H:GH} {sz:Nat} {g g':GV} (h:Bor H g g'):Bor H (.rop sz g) (.rop sz g'):=fun w D Ω v hst hm=>by
 simp only[MV] at hm ⊢
 obtain ⟨h0,b,off,u,h1,h2,h3,h4,h5,h6⟩:=hm
 exact ⟨h0,b,off,u,h1,.inl h2,h3,h4,h5,h w D Ω u hst h6⟩
theorem Yn (s:ByteArray):Zx s=(shp (ZP s)&&decide ((ZP s).length ≤ 8) && !resV s):=rfl
theorem okV_rng {n t:Int} (h:okV n t=true):1≤t∧t≤4:=by
 simp only[okV,Bool.and_eq_true,decide_eq_true_eq] at h;exact h.1
theorem allE_no {p:Exp→Bool} {e:Exp} {i:Nat} (h:i<e.args.length) (hb:allE p e.args[i]=false):allE p e=false:=by
 rw[allE_eq]
 have:e.args.all (allE p)=false:=by
  rw[List.all_eq_false]
  exact ⟨e.args[i],List.getElem_mem h,by simp[hb]⟩
 rw[this,Bool.and_false]
theorem allE_yes {p:Exp→Bool} {e:Exp} (h:∀a∈e.args,allE p a=true):allE p e=p e:=by
 rw[allE_eq,List.all_eq_true.2 h,Bool.and_true]
end Go.Gh
namespace Go.Gh
theorem noS_eq:(ByteArray.mk #[])=noS:=rfl
theorem gs_clo (f:Nat) (cs:List GV):gsize (.clo f cs)=1:=rfl
end Go.Gh
namespace Go.Gh
theorem Bor.seen {α:Type} {f g:α→GV} {H:GH} {r sz n:Nat} {l:List α} (hv:∀a,view (f a)=g a) (hr:ZU H r=some (sz,l.map f)) (hl:l.length=n):Bor H (.own r sz 0 n) (.sl sz (l.map g)):=by
 have:=Bor.own (k:=0) (n:=n) hr (by simp[hl])
 rw[List.drop_zero,List.take_of_length_le (by simp[hl]),Zo,List.map_map] at this
 have e:l.map (view ∘ f)=l.map g:=List.map_congr_left fun a _ => hv a
 rwa [e] at this
section
variable {P:Program} {α:Type} {f:α→GV} {k kx sz:Nat} {ag:Bool}
end
theorem FR.perm {g:GV} {H L T:GH} (hs:subH H L):FR g (H++T) g (L++T):=by
 intro w D Ω v hv hst
 obtain ⟨Ω',h1,h2⟩:=St.sub hst hs
 exact ⟨D,Ω',hv,h1,⟨fun _ h=>h,fun _ _ h=> .inl h,fun b hb _ => h2 b hb,Kept.refl _ _,rfl,rfl,rfl⟩⟩
end Go.Gh
namespace Go.Gh
theorem FE.closeL {env:Env} {H:GH} {r r1 sz sz1 j n:Nat} {L gs ks:List GV} (hne:r≠r1) (hr:ZU H r=some (sz,L++[.agg gs])) (hg:gs[j]? = some (.own r1 sz1 0 n)) (hr1:ZU H r1=some (sz1,ks)) (hn:ks.length=n) :
 FE env H env (Zl (ZD H r (L++[.agg (gs.set j (.osl sz1 ks))])) r1):=by
 have:=FE.close (env:=env) (i:=L.length) hne hr (by simp) hg hr1 hn
 simpa using this
end Go.Gh
namespace Go.Gh
section
variable {α:Type} (w:α→Nat) (m:α→Int→α)
end
section
variable {α:Type} {f:α→α}
end
end Go.Gh
namespace Go.Gh
theorem neN (r:Nat) (x:Nat×List GV) (H:GH):(names ((r,x)::H)).Nodup = (neA r H∧(names H).Nodup):=by
 apply propext
 constructor
 ·intro h
  have h2:=h
  simp only[names,List.map_cons,List.nodup_cons] at h2
  exact ⟨neA_of h2.1,h2.2⟩
 ·rintro ⟨h1,h2⟩
  simp only[names,List.map_cons,List.nodup_cons]
  refine ⟨?_,h2⟩
  clear h2
  induction H with
  | nil=>simp
  | cons y H ih=>
   obtain ⟨q,y⟩:=y
   simp only[Z0] at h1
   simp only[List.map_cons,List.mem_cons,not_or]
   exact ⟨h1.1,ih h1.2.2⟩
theorem FE.closeL2 {env:Env} {H:GH} {r r1 sz sz1 j n:Nat} {L gs ks:List GV} (hne:¬r=r1) (hg:gs[j]? = some (.own r1 sz1 0 n)) (hn:ks.length=n) :
 FE env ((r,sz,L++[.agg gs])::(r1,sz1,ks)::H) env ((r,sz,L++[.agg (gs.set j (.osl sz1 ks))])::H):=by
 have h:=FE.closeL (env:=env) (H:=(r,sz,L++[.agg gs])::(r1,sz1,ks)::H) (r:=r) (r1:=r1) hne Z4 hg (by rw[hget_old hne,Z4]) hn
 rwa [hset_new,hdel_old hne,hdel_new] at h
theorem Bor.ptr {H:GH} {r sz:Nat} {g:GV} (hr:ZU H r=some (sz,[g])):Bor H (.ptr r sz 0 0) (.rop sz (view g)):=fun w D Ω v h hv=>by
 obtain ⟨F,hF,hFΩ⟩:=h.hm.mem hr
 simp only[MV] at hv ⊢
 obtain ⟨_,b,rfl,hb,rfl⟩:=hv
 rcases hF with ⟨b',c,T,fz,F',k1,k2,k3,k4,k5,k6,k7⟩|⟨k1,_,_⟩
 ·have:b'=b:=by omega
  subst this
  simp only[MF] at k7
  obtain ⟨u,cs',F1,F2,e1,e2,e3,rfl,e5,rfl,rfl⟩:=k7
  refine ⟨trivial,b',0,u,by simp,.inr (hFΩ _ (by simp[k6])),⟨c,T,fz,k2,fun j x hj=> ?_⟩,e3,e2,MV.view (fun _ => .inl) g u F1 (fun x hx=> .inr (hFΩ x (by simp[k6,hx]))) e5⟩
  have e1':c.toList.take (1 * sz)=u.cells.toList:=by simpa using e1
  have h2:(c.toList.take (1 * sz))[j]? = some x:=by rw[e1'];exact hj
  rw[List.getElem?_take] at h2
  split at h2
  ·simpa using h2
  ·cases h2
 ·omega
end Go.Gh
namespace Go.Gh
end Go.Gh
namespace Go.Gh
def expZ:Exp:= .mk 0 0 0 0 noS noS []
def eqnF (r:Rul) (o:Int×ByteArray):Option Eqn:=r.eqs.find? fun q=>decide (q.pos=o.1∧q.name=o.2)
def eqnE (r:Rul) (o:Int×ByteArray):Exp:=((eqnF r o).map (·.expr)).getD expZ
end Go.Gh
namespace Go.Gh
theorem Pure.froz {P:Program} {f:FuncId} {gs gs':List GV} {R:GV→Prop} {H:GH} (h:Pure P f gs' R) (hb:BorL H gs gs'):GCalls P f gs H (fun g H'=>R g∧H'=[]):=by
 intro w D Ω args hst hargs
 have hds:∀b,(D b∨b∈Ω)→b<w.heap.size:=fun b hb=>hb.elim (hst.ds b) (HM.flt hst.hm b)
 refine Yld.mono (fun v w' ⟨g,H',D',Ω',k1,k2,k3,k4⟩=> ?_) (h w _ [] args (St.nil hds) (hb w D Ω args hst hargs))
 exact ⟨g,[],D',[],⟨k1,rfl⟩,k2,St.nil k3.ds,⟨fun b hb=>k4.d0 b (.inl hb),fun b hl hD=>(k4.dn b hl hD).elim (fun h=>h) (fun h=>by simp at h),fun b hb hl=>by simp at hb,
  k4.kp.mono fun _ _ _ => by simp,k4.os,k4.tape,k4.output⟩⟩
abbrev Oc:=Int×ByteArray
abbrev OcS (l:List Oc):GV:= .sl 2 (l.map Occ)
def ltN (a b:ByteArray):Bool:=Op.bytesLess (ZP a) (ZP b)
def ltO (a b:Oc):Bool:=decide (a.1<b.1)||(decide (a.1=b.1)&&ltN a.2 b.2)
def atO:List Oc→Oc→Nat
 | [],_ => 0
 | a::l,o=>if ltO a o=true then atO l o+1 else 0
def putO (l:List Oc) (o:Oc):List Oc:=if l[atO l o]? = some o then l else l.take (atO l o)++o::l.drop (atO l o)
mutual
def usE:Exp→List Oc→List Oc
 | .mk k _ p _ _ m a,l=>usEL a (if k=3 then putO l (p,m) else l)
def usEL:List Exp→List Oc→List Oc
 | [],l=>l
 | e::r,l=>usEL r (usE e l)
end
theorem usE_eq (e:Exp) (l:List Oc):usE e l=usEL e.args (if e.kind=3 then putO l (e.pos,e.name) else l):=by
 cases e;rfl
theorem usEL_step {al:List Exp} {i:Nat} (h:i<al.length) (l:List Oc):usEL (al.take (i+1)) l=usE al[i] (usEL (al.take i) l):=by
 have hs:∀(al:List Exp) (e:Exp) (l:List Oc),usEL (al++[e]) l=usE e (usEL al l):=by
  intro al e
  induction al with
  | nil=>intro l;rfl
  | cons a al ih=>intro l;exact ih _
 rw[List.take_add_one,List.getElem?_eq_getElem h]
 exact hs _ _ _
theorem atO_le:∀(l:List Oc) (o:Oc),atO l o≤l.length
 | [],_ => Nat.le_refl _
 | a::l,o=>by
  have:=atO_le l o
  simp only[atO,List.length_cons]
  split<;>omega
theorem atO_of:∀{l:List Oc} {o:Oc} {i:Nat},i≤l.length→(∀a∈l.take i,ltO a o=true)→(∀h:i<l.length,ltO l[i] o=false)→atO l o=i
 | [],_,i,h,_,_ => by simp at h;subst h;rfl
 | a::l,o,0,_,_,h2=>by
  have:=h2 (by simp)
  simp only[List.getElem_cons_zero] at this
  simp[atO,this]
 | a::l,o,i+1,h,h1,h2=>by
  have ha:=h1 a (by simp)
  have:=atO_of (l:=l) (o:=o) (i:=i) (by simpa using h) (fun b hb=>h1 b (by simp[hb])) (fun hi=>by have:=h2 (by simpa using hi);simpa using this)
  simp[atO,ha,this]
theorem take_all_step {α:Type} {p:α→Bool} {l:List α} {i:Nat} (h:i<l.length) (hp:p l[i]=true) (hn:∀a∈l.take i,p a=true):∀a∈l.take (i+1),p a=true:=by
 rw[List.take_add_one,List.getElem?_eq_getElem h]
 intro a ha
 rcases List.mem_append.1 ha with ha|ha
 ·exact hn a ha
 ·simp at ha;subst ha;exact hp
theorem putM {l:List Oc} {o:Oc} {i:Nat} (hi:i≤l.length):List.take (min i l.length-Int.toNat 0+1) (List.take (min i l.length-Int.toNat 0) (List.drop (Int.toNat 0) (List.take i (List.map Occ l)))++[Occ o])++List.drop i (List.take l.length (List.map Occ l))=(l.take i++o::l.drop i).map Occ:=by
 have hm:min i l.length=i:=by omega
 have h0:Int.toNat 0=0:=rfl
 have a1:List.take i (List.take i (List.map Occ l))=(l.take i).map Occ:=by rw[List.take_take,Nat.min_self,List.map_take]
 have a2:List.take l.length (List.map Occ l)=List.map Occ l:=List.take_of_length_le (by simp)
 rw[h0,hm,Nat.sub_zero,List.drop_zero,a1,a2,List.take_of_length_le (l:=(l.take i).map Occ++[Occ o]) (by simp;omega),List.map_append,List.map_cons,List.map_drop,List.append_assoc]
 rfl
theorem putN {l:List Oc} {o:Oc} {i:Nat} (hi:i≤l.length):min i l.length-Int.toNat 0+1+(min l.length l.length-i)=(l.take i++o::l.drop i).length := by
 have h0:Int.toNat 0=0:=rfl
 rw[h0];simp;omega
theorem putO_len (l:List Oc) (o:Oc):(putO l o).length ≤ l.length+1:=by
 unfold putO
 split
 ·omega
 ·have:=atO_le l o
  simp;omega
theorem wExL_step {al:List Exp} {i:Nat} (h:i<al.length):wExL (al.take (i+1))=wExL (al.take i)+wEx al[i]:=by
 rw[wExL_eq,wExL_eq,List.take_add_one,List.getElem?_eq_getElem h]
 simp only[Option.toList_some,List.map_append,List.map_cons,List.map_nil,List.sum_append,List.sum_cons,List.sum_nil,Nat.add_zero]
theorem wExL_take (al:List Exp) (i:Nat):wExL (al.take i)≤wExL al:=by
 have:=congrArg (fun l:List Exp=>(l.map wEx).sum) (List.take_append_drop i al)
 simp only[List.map_append,List.sum_append] at this
 rw[wExL_eq,wExL_eq]
 omega
theorem wEx_args (e:Exp):e.args.length+wExL e.args≤wEx e:=by
 cases e;simp only[wEx,Exp.args];omega
mutual
theorem usE_len:∀(e:Exp) (l:List Oc),(usE e l).length ≤ l.length+(1+wEx e)
 | .mk k n p t s m a,l=>by
  have h1:=usEL_len a (if k=3 then putO l (p,m) else l)
  have h2:(if k=3 then putO l (p,m) else l).length ≤ l.length+1:=by split;exact putO_len _ _;omega
  simp only[usE,wEx]
  omega
theorem usEL_len:∀(al:List Exp) (l:List Oc),(usEL al l).length ≤ l.length+(al.length+wExL al)
 | [],l=>by simp[usEL,wExL]
 | e::r,l=>by
  have h1:=usE_len e l
  have h2:=usEL_len r (usE e l)
  simp only[usEL,wExL,List.length_cons]
  omega
end
end Go.Gh
namespace Go.Gh
theorem St.frz {w:World} {D:Nat→Prop} {H:GH} {Ω:List Nat} (h:St w D H Ω) {r sz:Nat} {es:List GV} (hr:ZU H r=some (sz,es)) :
 ∃D' Ω',St w D' (ZD H r (Zm es)) Ω'∧(∀b,D b→D' b)∧(∀b,D' b→D b∨b∈Ω)∧∀b∈Ω',b∈Ω:=by
 obtain ⟨Ω1,F,Ω2,hΩ,hR,hput,_⟩:=HM.take h.hm hr
 rcases hR with ⟨b,c,T,fz,F',k1,k2,k3,k4,k5,k6,k7⟩|⟨k1,k2,k3⟩
 ·subst k6
  have hnd:=h.nd
  rw[hΩ] at hnd
  have hRM:RM w (fun x=>D x∨x∈F') r sz (Zm es) [b]:=
   .inl ⟨b,c,T,fz,[],k1,k2,k3,by simpa[Zo] using k4,by simpa[Zo] using k5,rfl,by
    have:=MF.view (D':=fun x=>D x∨x∈F') (fun _ => .inl) sz es _ F' (fun x hx=> .inr hx) k7
    simpa[Zo] using this⟩
  have hfin:=hput w (fun x=>D x∨x∈F') (fun _ => True) _ _ (Kept.refl _ _) (fun _ _ => trivial) (fun _ => .inl) (fun _ _ => trivial) hRM
  have hsub:(Ω1++([b]++Ω2)).Sublist (Ω1++((b::F')++Ω2)):=by
   refine List.Sublist.append (List.Sublist.refl _) (List.Sublist.append ?_ (List.Sublist.refl _))
   simp
  refine ⟨fun x=>D x∨x∈F',_,⟨hfin,hnd.sublist hsub,by rw[Y9];exact h.nn,?_,?_⟩,fun _ => .inl,?_,fun x hx=>by rw[hΩ];exact hsub.subset hx⟩
  ·intro x hx hD
   rcases hD with hD|hD
   ·exact h.dj x (by rw[hΩ];exact hsub.subset hx) hD
   ·have hc:=List.nodup_iff_count.1 hnd x
    have h1:=List.count_pos_iff.2 hx
    have h2:=List.count_pos_iff.2 hD
    simp only[List.count_append,List.count_cons,List.count_nil] at hc h1
    omega
  ·intro x hD
   rcases hD with hD|hD
   ·exact h.ds x hD
   ·exact HM.flt h.hm x (by rw[hΩ];simp[hD])
  ·intro x hD
   rcases hD with hD|hD
   ·exact .inl hD
   ·exact .inr (by rw[hΩ];simp[hD])
 ·subst k2 k3
  have hfin:=hput w D (fun _ => True) [] [] (Kept.refl _ _) (fun _ _ => trivial) (fun _ h=>h) (fun _ _ => trivial) (.inr ⟨k1,rfl,rfl⟩)
  refine ⟨D,Ω,⟨?_,h.nd,by rw[Y9];exact h.nn,h.dj,h.ds⟩,fun _ h=>h,fun _ => .inl,fun _ h=>h⟩
  rw[hΩ];exact hfin
theorem FE.frz {env:Env} {H:GH} {r sz:Nat} {es:List GV} (hr:ZU H r=some (sz,es)):FE env H env (ZD H r (Zm es)):=by
 intro w0 D0 O0 N a w ⟨hdf,hsz,D,Ω,ρw,hi⟩
 obtain ⟨D',Ω',h1,h2,h3,h4⟩:=hi.st.frz hr
 refine ⟨hdf,hsz,D',Ω',ρw,fun i g hg hn=> ?_,hi.rw,hi.ri,fun i b hb=> ?_,h1,hi.ev.trans ⟨h2,fun b _ hD=>h3 b hD,fun b hb _ => h4 b hb,Kept.refl _ _,rfl,rfl,rfl⟩⟩
 ·obtain ⟨v,m1,m2⟩:=hi.em i g hg hn
  exact ⟨v,m1,m2.more h2⟩
 ·obtain ⟨r1,r2,r3,r4⟩:=hi.rd i b hb
  exact ⟨fun hD=>(h3 b hD).elim r1 r2,fun h=>r2 (h4 b h),r3,r4⟩
theorem FE.frzV {env:Env} {H:GH} {r sz:Nat} {es es':List GV} (hv:Zm es=es'):FE env ((r,sz,es)::H) env ((r,sz,es')::H):=by
 subst hv
 have:=FE.frz (env:=env) (H:=(r,sz,es)::H) (r:=r) (sz:=sz) (es:=es) (by simp[ZU])
 simpa[ZD] using this
theorem MV.nil_sl {w:World} {D:Nat→Prop} {sz:Nat}:∀v F,MV w D (.val (.slice none 0 0)) v F→MV w D (.sl sz []) v F:=fun v F h=>by
 simp only[MV] at h ⊢
 exact ⟨h.2,.inl ⟨trivial,_,_,h.1⟩⟩
theorem FR.front {g g':GV} {L H:GH} (hb:Bor L g g'):FR g (L++H) g' H:=by
 intro w D Ω v hv hst
 obtain ⟨Ω1,Ω2,rfl,h1,h2⟩:=HM.parted hst.hm
 have hnd:=List.nodup_append.1 hst.nd
 have hnn:=hst.nn
 simp only[names,List.map_append] at hnn
 have hnn':=List.nodup_append.1 hnn
 have hs1:St w D L Ω1:=⟨h1,hnd.1,hnn'.1,fun b hb=>hst.dj b (by simp[hb]),hst.ds⟩
 refine ⟨fun b=>D b∨b∈Ω1,Ω2,hb w D Ω1 v hs1 hv,⟨HM.keep (S:=fun _ => True) (Kept.refl _ _) (fun _ _ => trivial) (fun _ => .inl) (fun _ _ => trivial) h2,hnd.2.1,hnn'.2.1,fun b hb hD=> ?_,fun b hD=> ?_⟩,
  ⟨fun _ => .inl,fun b _ hD=>hD.elim .inl fun h=> .inr (by simp[h]),fun b hb _ => by simp[hb],Kept.refl _ _,rfl,rfl,rfl⟩⟩
 ·rcases hD with hD|hD
  ·exact hst.dj b (by simp[hb]) hD
  ·exact hnd.2.2 b hD b hb rfl
 ·rcases hD with hD|hD
  ·exact hst.ds b hD
  ·exact HM.flt hst.hm b (by simp[hD])
theorem GCalls.see {P:Program} {f:FuncId} {gs gs':List GV} {H:GH} {R:GV→GH→Prop} (h:GCalls P f gs' H R) (hb:BorL [] gs gs'):GCalls P f gs H R:=fun w D Ω args hst hargs=>
 h w D Ω args hst ((ML.keep (S:=fun _ => True) (Kept.refl _ _) (fun _ _ => trivial) (fun b hb=>by simpa using hb) _ _ _ (fun _ _ => trivial)) (hb w D [] args (St.nil hst.ds) hargs))
abbrev Bs (bs:List UInt8):GV:= .sl 1 (bs.map fun b=> .val (.int .u8 b.toNat))
abbrev Cu (bs:List UInt8) (i h:Int):GV:= .agg [Bs bs,I i,I h]
def isC (e:GV):Prop:=∃bs i h,e=Cu bs i h∧0≤i∧i≤bs.length∧bs.length≤9223372036854775807
theorem MF.u8 {w:World} {D:Nat→Prop}:∀(bs:List UInt8),MF w D 1 (bs.map fun b=>GV.val (.int .u8 b.toNat)) (bs.map fun b=>Value.int .u8 b.toNat) []
 | []=>by simp[MF]
 | b::bs=>by
  simp only[List.map_cons,MF]
  exact ⟨.int .u8 b.toNat,_,[],[],rfl,rfl,by intro x hx;simp[Value.cells] at hx;subst hx;rfl,rfl,by simp[MV],MF.u8 bs⟩
theorem MF.u8' {w:World} {D:Nat→Prop}:∀(bs:List UInt8) (cs:List Value) (F:List Nat),MF w D 1 (bs.map fun b=>GV.val (.int .u8 b.toNat)) cs F→cs=bs.map fun b=>Value.int .u8 b.toNat
 | [],cs,F,h=>by simp only[List.map_nil,MF] at h;exact h.1
 | b::bs,cs,F,h=>by
  simp only[List.map_cons,MF] at h
  obtain ⟨v,cs',F1,F2,rfl,_,_,_,h1,h2⟩:=h
  simp only[MV] at h1
  rw[h1.1,MF.u8' bs cs' F2 h2]
  rfl
theorem MV.cur {w : World} {D : Nat → Prop} {v : Value} {F : List Nat} (h : MV w D .cur v F) : ∃ e, isC e ∧ MV w D e v F := by
  simp only [MV] at h
  obtain ⟨rfl, bs, i, n, sv, rfl, h1, h2, h3⟩ := h
  refine ⟨Cu bs i n, ⟨bs, i, n, rfl, h1, h2, by rcases h3 with ⟨rfl, _⟩ | ⟨_, _, _, _, _, h, _⟩
                                                · simp
                                                · exact h⟩, ?_⟩
  simp only [MV]
  refine ⟨[sv, .int .i64 i, .int .i64 n], rfl, ?_, ?_⟩
  · have : sv.oneCell' = true := by
      rcases h3 with ⟨_, a, cap, rfl⟩ | ⟨b, off, cap, rfl, _⟩ <;> rfl
    simp [this]
    exact ⟨rfl, rfl⟩
  · simp only [ML]
    refine ⟨sv, _, [], [], rfl, rfl, ?_, _, _, [], [], rfl, rfl, by simp [MV], _, _, [], [], rfl, rfl, by simp [MV], rfl, rfl⟩
    simp only [MV]
    refine ⟨trivial, ?_⟩
    rcases h3 with ⟨rfl, h3⟩ | ⟨b, off, cap, k1, k2, k3, k4, k5⟩
    · exact .inl ⟨rfl, h3⟩
    · exact .inr ⟨b, off, cap, _, by simpa using k1, by simpa using k2, by simpa using k3, k4, k5, MF.u8 bs⟩
theorem MV.uncur {w:World} {D:Nat→Prop} {e:GV} (he:isC e) {v:Value} {F:List Nat} (h:MV w D e v F):MV w D .cur v F:=by
 obtain ⟨bs,i,n,rfl,h1,h2,_⟩:=he
 simp only[MV,ML] at h
 obtain ⟨vs,rfl,_,v1,vs1,F1,F2,rfl,rfl,hs,v2,vs2,F3,F4,rfl,rfl,hi,v3,vs3,F5,F6,rfl,rfl,hn,rfl,rfl⟩:=h
 obtain ⟨rfl,rfl⟩:=hi
 obtain ⟨rfl,rfl⟩:=hn
 obtain ⟨rfl,hs⟩:=hs
 simp only[MV]
 refine ⟨rfl,bs,i,n,v1,rfl,h1,h2,?_⟩
 rcases hs with ⟨k1,k2⟩|⟨b,off,cap,cs,k1,k2,k3,k4,k5,k6⟩
 ·exact .inl ⟨by simpa using k1,k2⟩
 ·have:=MF.u8' bs cs [] k6
  subst this
  exact .inr ⟨b,off,cap,by simpa using k1,by simpa using k2,by simpa using k3,k4,k5⟩
theorem St.exch1 {w:World} {D:Nat→Prop} {H:GH} {Ω:List Nat} (h:St w D H Ω) {r sz i:Nat} {es:List GV} {e:GV} {p:GV→Prop} (hr:ZU H r=some (sz,es)) (he:es[i]? = some e) (hx:∀v F,MV w D e v F→∃e',p e'∧MV w D e' v F) :
 ∃e',p e'∧St w D (ZD H r (es.set i e')) Ω:=by
 obtain ⟨Ω1,F',Ω2,hΩ,hR,hput,_⟩:=HM.take h.hm hr
 obtain ⟨b,c,T,fz,F0,k1,k2,k3,k4,k5,k6,k7⟩:=hR.es_ne (fun e=>by rw[e] at he;simp at he)
 obtain ⟨pre,v,post,A1,Ai,A2,m1,m2,m3,m4,m5,m6,m7⟩:=MF.split sz es _ F0 i _ k7 he
 obtain ⟨e',hp,hx⟩:=hx _ _ m6
 have hmf:=m7 w D (fun _ => True) e' v Ai (Kept.refl _ _) (fun _ _ => trivial) (fun _ h=>h) (fun _ _ => trivial) m3 m4 hx
 rw[←m1,←m5] at hmf
 have hRM:RM w D r sz (es.set i e') F':= .inl ⟨b,c,T,fz,F0,k1,k2,k3,by simpa using k4,by simpa using k5,k6,by simpa using hmf⟩
 have hfin:=hput w D (fun _ => True) _ _ (Kept.refl _ _) (fun _ _ => trivial) (fun _ h=>h) (fun _ _ => trivial) hRM
 rw[←hΩ] at hfin
 exact ⟨e',hp,hfin,h.nd,by rw[Y9];exact h.nn,h.dj,h.ds⟩
theorem GCalls.open {P:Program} {f:FuncId} {gs:List GV} {rc:Nat} {H:GH} {R:GV→GH→Prop} (h:∀e,isC e→GCalls P f gs ((rc,3,[e])::H) R):GCalls P f gs ((rc,3,[.cur])::H) R:=by
 intro w D Ω args hst hargs
 obtain ⟨e',h1,h2⟩:=hst.exch1 (r:=rc) (i:=0) (sz:=3) (es:=[.cur]) (p:=isC) (by simp[ZU]) rfl fun v F h=>h.cur
 have e:ZD ((rc,3,[GV.cur])::H) rc ([GV.cur].set 0 e')=(rc,3,[e'])::H:=by simp[ZD]
 rw[e] at h2
 exact h e' h1 w D Ω args h2 hargs
theorem FE.uncur {env:Env} {rc:Nat} {e:GV} {H:GH} (he:isC e):FE env ((rc,3,[e])::H) env ((rc,3,[.cur])::H):=by
 have:=FE.exch (env:=env) (H:=(rc,3,[e])::H) (r:=rc) (i:=0) (e:=e) (e':= .cur) (sz:=3) (es:=[e]) (by simp[ZU]) rfl fun w D v F h=>h.uncur he
 simpa[ZD] using this
theorem FR.uncur {g:GV} {rc:Nat} {e:GV} {H:GH} (he:isC e):FR g ((rc,3,[e])::H) g ((rc,3,[.cur])::H):=by
 intro w D Ω v hv hst
 have h2:=hst.exch (r:=rc) (i:=0) (e:=e) (e':= .cur) (sz:=3) (es:=[e]) (by simp[ZU]) rfl fun v F h=>h.uncur he
 have e:ZD ((rc,3,[e])::H) rc ([e].set 0 GV.cur)=(rc,3,[.cur])::H:=by simp[ZD]
 rw[e] at h2
 exact ⟨D,Ω,hv,h2,Ev.refl _ _ _⟩
theorem hget_split {r:Nat} {x:Nat×List GV}:∀{H:GH},ZU H r=some x→∃A B,H=A++(r,x)::B∧r∉names A
 | [],h=>by simp[ZU] at h
 | (q,y)::H,h=>by
  simp only[ZU] at h
  split at h
  ·rename_i e
   subst e
   simp only[Option.some.injEq] at h
   subst h
   exact ⟨[],H,rfl,by simp[names]⟩
  ·rename_i hne
   obtain ⟨A,B,h1,h2⟩:=hget_split h
   exact ⟨(q,y)::A,B,by rw[h1];rfl,by simp only[names,List.map_cons,List.mem_cons,not_or];exact ⟨fun e=>hne e.symm,h2⟩⟩
theorem count_mid {x:Nat} (a b c:List Nat):(a++(b++c)).count x=(b++(a++c)).count x:=by
 simp only[List.count_append];omega
theorem St.mid {w:World} {D:Nat→Prop} {A B:GH} {y:Nat×Nat×List GV} {Ω:List Nat} (h:St w D (A++y::B) Ω):∃Ω',St w D (y::(A++B)) Ω'∧(∀x,x∈Ω'↔x∈Ω):=by
 obtain ⟨Ω1,Ω2,rfl,h1,h2⟩:=HM.parted h.hm
 obtain ⟨r,sz,es⟩:=y
 obtain ⟨F1,F2,rfl,h3,h4⟩:=h2
 refine ⟨F1++(Ω1++F2),⟨⟨F1,_,rfl,h3,HM.append h1 h4⟩,?_,?_,?_,h.ds⟩,fun x=>by simp only[List.mem_append];exact or_left_comm⟩
 ·have:=h.nd
  rw[List.nodup_iff_count] at this ⊢
  intro x;rw[←count_mid];exact this x
 ·have:=h.nn
  simp only[names,List.map_append,List.map_cons] at this ⊢
  rw[List.nodup_iff_count] at this ⊢
  intro x
  have:=this x
  simp only[List.count_append,List.count_cons] at this ⊢
  omega
 ·intro x hx
  exact h.dj x (by simp only[List.mem_append] at hx ⊢;exact or_left_comm.1 hx)
theorem St.mid' {w:World} {D:Nat→Prop} {A B:GH} {y:Nat×Nat×List GV} {Ω:List Nat} (h:St w D (y::(A++B)) Ω):∃Ω',St w D (A++y::B) Ω'∧(∀x,x∈Ω'↔x∈Ω):=by
 obtain ⟨r,sz,es⟩:=y
 obtain ⟨F1,F2,rfl,h3,h4⟩:=h.hm
 obtain ⟨Ω1,Ω2,rfl,h1,h2⟩:=HM.parted h4
 refine ⟨Ω1++(F1++Ω2),⟨HM.append h1 ⟨F1,_,rfl,h3,h2⟩,?_,?_,?_,h.ds⟩,fun x=>by simp only[List.mem_append];exact or_left_comm⟩
 ·have:=h.nd
  rw[List.nodup_iff_count] at this ⊢
  intro x;rw[count_mid];exact this x
 ·have:=h.nn
  simp only[names,List.map_append,List.map_cons] at this ⊢
  rw[List.nodup_iff_count] at this ⊢
  intro x
  have:=this x
  simp only[List.count_append,List.count_cons] at this ⊢
  omega
 ·intro x hx
  exact h.dj x (by simp only[List.mem_append] at hx ⊢;exact or_left_comm.1 hx)
def Dc (P:Program) (f:FuncId) (gs:List GV) (R:GV→GH→Prop):Prop:=
 ∀rc H,GCalls P f (.ptr rc 3 0 0::gs) ((rc,3,[.cur])::H) (fun g H'=>∃H1,R g H1∧H'=H1++(rc,3,[.cur])::H)
abbrev Dv (P:Program) (f:FuncId) (gs:List GV) (R:GV→Prop):Prop:=Dc P f gs (fun g H1=>R g∧H1=[])
theorem Dc.mono {P:Program} {f:FuncId} {gs:List GV} {R R':GV→GH→Prop} (h:Dc P f gs R) (hr:∀g H1,R g H1→R' g H1):Dc P f gs R':=
 fun rc H=>(h rc H).mono fun g H' ⟨H1,h1,h2⟩=>⟨H1,hr g H1 h1,h2⟩
theorem Dc.see {P:Program} {f:FuncId} {gs gs':List GV} {R:GV→GH→Prop} (h:Dc P f gs' R) (hb:BorL [] gs gs'):Dc P f gs R:=
 fun rc H=>(h rc H).see (.cons .refl hb)
theorem Dc.of {P:Program} {f:FuncId} {gs:List GV} {R:GV→GH→Prop}
 (h:∀rc H,GCalls P f (.ptr rc 3 0 0::gs) ((rc,3,[.cur])::H) (fun g H'=>∃G H1 T L,R G H1∧Bor L g G∧H'=T++H∧subH T (L++(H1++[(rc,3,[.cur])])))):Dc P f gs R:=
 fun rc H=>(h rc H).fr fun g H' ⟨G,H1,T,L,h1,h2,h3,h4⟩=>by
  subst h3
  refine ⟨G,H1++(rc,3,[.cur])::H,FR.trans (FR.perm h4) ?_,H1,h1,rfl⟩
  rw[List.append_assoc,List.append_assoc]
  exact FR.front h2
theorem Dv.of {P:Program} {f:FuncId} {gs:List GV} {R:GV→Prop}
 (h:∀rc H,GCalls P f (.ptr rc 3 0 0::gs) ((rc,3,[.cur])::H) (fun g H'=>∃G T L,R G∧Bor L g G∧H'=T++H∧subH T (L++[(rc,3,[.cur])]))):Dv P f gs R:=
 Dc.of fun rc H=>(h rc H).mono fun g H' ⟨G,T,L,h1,h2,h3,h4⟩=>⟨G,[],T,L,⟨h1,rfl⟩,h2,h3,h4⟩
theorem Dv.of0 {P:Program} {f:FuncId} {gs:List GV} {R:GV→Prop}
 (h:∀rc H,GCalls P f (.ptr rc 3 0 0::gs) ((rc,3,[.cur])::H) (fun g H'=>R g∧H'=(rc,3,[.cur])::H)):Dv P f gs R:=
 fun rc H=>(h rc H).mono fun g H' ⟨h1,h2⟩=>⟨[],⟨h1,rfl⟩,h2⟩
theorem Dc.at {P:Program} {f:FuncId} {gs:List GV} {R:GV→GH→Prop} (h:Dc P f gs R) {rc:Nat} {H:GH} (hr:ZU H rc=some (3,[.cur])) :
 GCalls P f (.ptr rc 3 0 0::gs) H (fun g H'=>∃H1,R g H1∧H'=H1++H):=by
 obtain ⟨A,B,rfl,hn⟩:=hget_split hr
 intro w D Ω args hst hargs
 obtain ⟨Ω',h1,h2⟩:=hst.mid
 refine Yld.mono (fun v w' ⟨g,H',D',Ω'',⟨H1,k0,k1⟩,k2,k3,k4⟩=> ?_) (h rc (A++B) w D Ω' args h1 hargs)
 subst k1
 have k3':St w' D' ((H1++[(rc,3,[.cur])])++(A++B)) Ω'':=by simpa using k3
 obtain ⟨Ω3,m1,m2⟩:∃Ω3,St w' D' (H1++(A++(rc,3,[.cur])::B)) Ω3∧∀x,x∈Ω3↔x∈Ω'':=by
  obtain ⟨Ωa,q1,q2⟩:=(show St w' D' (H1++(rc,3,[GV.cur])::(A++B)) Ω'' from k3).mid
  rw[←List.append_assoc] at q1
  obtain ⟨Ωb,q3,q4⟩:=q1.mid'
  rw[List.append_assoc] at q3
  exact ⟨Ωb,q3,fun x=>(q4 x).trans (q2 x)⟩
 exact ⟨g,_,D',Ω3,⟨H1,k0,rfl⟩,k2,m1,
  ⟨k4.d0,fun b hb hD=>(k4.dn b hb hD).imp id (h2 b).1,fun b hb hl=>(h2 b).1 (k4.on b ((m2 b).1 hb) hl),k4.kp.mono fun b _ hb hb'=>hb ((h2 b).1 hb'),k4.os,k4.tape,k4.output⟩⟩
theorem callS.dc {P:Program} {f:FuncId} {gs:List GV} {R:GV→GH→Prop} {K:Env→GH→Prop} {is:List GI} {env:Env} {H:GH} {d:Option Nat} {rc:Nat} (h:Dc P f gs R) (hr:ZU H rc=some (3,[.cur]))
 (hk:∀g H1,R g H1→(names (H1++H)).Nodup → Z3 P is K (gput env d g) (H1++H)):callS P false f (some (.ptr rc 3 0 0::gs)) d is K env H:=
 callS.of (h.at hr) fun g H' ⟨H1,h1,h2⟩ hn=>by subst h2;exact hk g H1 h1 hn
theorem callS.dv {P:Program} {f:FuncId} {gs:List GV} {R:GV→Prop} {K:Env→GH→Prop} {is:List GI} {env:Env} {H:GH} {d:Option Nat} {rc:Nat} (h:Dv P f gs R) (hr:ZU H rc=some (3,[.cur]))
 (hk:∀g,R g→Z3 P is K (gput env d g) H):callS P false f (some (.ptr rc 3 0 0::gs)) d is K env H:=
 callS.dc h hr fun g H1 ⟨h1,h2⟩ _ => by subst h2;exact hk g h1
theorem callA.dc {P:Program} {f:FuncId} {gs:List GV} {R:GV→GH→Prop} {K:Env→GH→Prop} {is:List GI} {env:Env} {H:GH} {d:Option Nat} {rc:Nat} (h:Dc P f gs R) (hr:ZU H rc=some (3,[.cur]))
 (hk:∀g H1,R g H1→(names (H1++H)).Nodup → Z3 P is K (gput env d g) (H1++H)):callA P f (some (.ptr rc 3 0 0::gs)) d is K env H:=
 ⟨R,h.at hr,hk⟩
theorem callA.dv {P:Program} {f:FuncId} {gs:List GV} {R:GV→Prop} {K:Env→GH→Prop} {is:List GI} {env:Env} {H:GH} {d:Option Nat} {rc:Nat} (h:Dv P f gs R) (hr:ZU H rc=some (3,[.cur]))
 (hk:∀g,R g→Z3 P is K (gput env d g) H):callA P f (some (.ptr rc 3 0 0::gs)) d is K env H:=
 callA.dc h hr fun g H1 ⟨h1,h2⟩ _ => by subst h2;exact hk g h1
end Go.Gh
namespace Go.Gh
theorem andI_le {a:Int} {m:Nat} (hm:m<2 ^ 62):0≤andI .i64 a m∧andI .i64 a m≤m:=by
 have h1:(BitVec.ofInt 64 a &&& BitVec.ofInt 64 (m:Int)).toNat ≤ m:=by
  rw[BitVec.toNat_and]
  refine Nat.le_trans Nat.and_le_right ?_
  rw[BitVec.toNat_ofInt]
  omega
 have h2:andI .i64 a m=(IntKind.i64).wrap (BitVec.ofInt 64 a &&& BitVec.ofInt 64 (m:Int)).toNat := rfl
 have h3:(IntKind.i64).wrap ((BitVec.ofInt 64 a &&& BitVec.ofInt 64 (m:Int)).toNat : Int)=(BitVec.ofInt 64 a &&& BitVec.ofInt 64 (m:Int)).toNat := by
  have:(((BitVec.ofInt 64 a &&& BitVec.ofInt 64 (m:Int)).toNat : Int))<4611686018427387904:=by
   have:(2:Nat) ^ 62=4611686018427387904:=by decide
   omega
  generalize ((BitVec.ofInt 64 a &&& BitVec.ofInt 64 (m:Int)).toNat)=k at *
  simp only[IntKind.wrap,IntKind.signed,IntKind.bits]
  simp
  omega
 rw[h2,h3]
 omega
theorem andI_255 (a:Int):∃k:Nat,andI .i64 a 255=k∧k<256:=by
 have h:=andI_le (a:=a) (m:=255) (by decide)
 have h':0≤andI .i64 a 255∧andI .i64 a 255≤255:=h
 exact ⟨(andI .i64 a 255).toNat,by omega,by omega⟩
theorem YI (s:ByteArray):(ZP s).length = s.size:=by
 show s.data.toList.length=s.data.size
 exact Array.length_toList
theorem okE_of:∀(e:Exp),wEx e≤1048576→okE e:=by
 refine Exp.indA fun e ih h=> ?_
 rw[wEx_eq] at h
 rw[okE_eq]
 have h1:=YI e.sym
 have h2:=YI e.name
 have hw:wtS wEx e.args≤1048576:=by omega
 have hm:(1048576:Nat)≤maxLen:=by decide
 refine ⟨by omega,by omega,fun a ha=>ih a ha ?_⟩
 exact (wtS_mem hw).2 a ha
def shT (s:ByteArray):Prop:=s.size≤16
def shSy (s:Sym):Prop:=shT s.name∧1≤s.atts.length∧s.atts.length≤5∧∀a∈s.atts,shT a.name
def shSys (l:List Sym):Prop:=1≤l.length∧l.length≤3∧∀s∈l,shSy s
def shEx (e:Exp):Prop:=wEx e≤200000
def shRu (r:Rul):Prop:=shT r.name∧shT r.left∧r.right.length≤5∧(∀s∈r.right,shT s)∧r.eqs.length≤64∧(∀q∈r.eqs,shT q.name∧shEx q.expr)∧r.cons.length≤64∧∀c∈r.cons,shT c.sym∧shT c.name∧shEx c.goal∧shEx c.value
def shGr (g:Gram):Prop:=shSys g.syms∧1≤g.rules.length∧g.rules.length≤16∧∀r∈g.rules,shRu r
theorem Yx {s:ByteArray} (h:shT s):s.size≤maxLen:=by
 have hm:(16:Nat)≤maxLen:=by decide
 unfold shT at h;omega
theorem YY {e:Exp} (h:shEx e):okE e∧wEx e≤1048576:=by
 unfold shEx at h
 exact ⟨okE_of e (by omega),by omega⟩
theorem shSy_sm {s:Sym} (h:shSy s):smSy s:=by have:=h.2.2.1;unfold smSy;omega
theorem shSy_ok {s:Sym} (h:shSy s):okSy s:=⟨Yx h.1,fun a ha=>Yx (h.2.2.2 a ha)⟩
theorem shSys_sm {l:List Sym} (h:shSys l):l.length≤1048576∧∀s∈l,smSy s:=⟨by have:=h.2.1;omega,fun s hs=>shSy_sm (h.2.2 s hs)⟩
theorem shRu_sm {r:Rul} (h:shRu r):Zk r:=by
 obtain ⟨_,_,h1,_,h2,h3,h4,h5⟩:=h
 exact ⟨by omega,by omega,by omega,fun q hq=>(YY (h3 q hq).2).2,fun c hc=>⟨(YY (h5 c hc).2.2.1).2,(YY (h5 c hc).2.2.2).2⟩⟩
theorem shRu_ok {r:Rul} (h:shRu r):okRu r:=by
 obtain ⟨k1,k2,h1,k3,h2,h3,h4,h5⟩:=h
 exact ⟨Yx k1,Yx k2,fun s hs=>Yx (k3 s hs),fun q hq=>⟨Yx (h3 q hq).1,(YY (h3 q hq).2).1⟩,fun c hc=>⟨Yx (h5 c hc).1,Yx (h5 c hc).2.1,(YY (h5 c hc).2.2.1).1,(YY (h5 c hc).2.2.2).1⟩⟩
theorem shGr_sm {g:Gram} (h:shGr g):Zw g:=⟨(shSys_sm h.1).1,by have:=h.2.2.1;omega,(shSys_sm h.1).2,fun r hr=>shRu_sm (h.2.2.2 r hr)⟩
theorem shGr_ok {g:Gram} (h:shGr g):okGr g:=⟨fun s hs=>shSy_ok (h.1.2.2 s hs),fun r hr=>shRu_ok (h.2.2.2 r hr)⟩
theorem wEx_leaf {k n p t:Int} {s m:ByteArray} (hs:shT s) (hm:shT m):wEx (.mk k n p t s m [])≤32:=by
 have h1:=YI s
 have h2:=YI m
 unfold shT at hs hm
 simp only[wEx,wExL,List.length_nil]
 omega
def shD (d:Nat) (e:Exp):Prop:=wEx e≤40 * 4 ^ d
theorem shD_mono {a b:Nat} {e:Exp} (h:a≤b) (he:shD a e):shD b e:=by
 unfold shD at *
 have:=Nat.pow_le_pow_right (n:=4) (by decide) h
 omega
theorem shD_leaf {d:Nat} {k n p t:Int} {s m:ByteArray} (hs:shT s) (hm:shT m):shD d (.mk k n p t s m []):=by
 have:=wEx_leaf (k:=k) (n:=n) (p:=p) (t:=t) hs hm
 have h2:0<4 ^ d:=Nat.pow_pos (by decide)
 unfold shD;omega
theorem Ys {d:Nat} {k n p t:Int} {s m:ByteArray} {l:List Exp} (hs:shT s) (hm:shT m) (hl:l.length≤3) (h:∀e∈l,shD d e):shD (d+1) (.mk k n p t s m l):=by
 have h1:=YI s
 have h2:=YI m
 have h3:0<4 ^ d:=Nat.pow_pos (by decide)
 have h4:∀(l:List Exp),(∀e∈l,shD d e)→wExL l≤l.length * (40 * 4 ^ d):=by
  intro l
  induction l with
  | nil=>intro _;simp[wExL]
  | cons e l ih=>
   intro h
   have:=ih fun x hx=>h x (by simp[hx])
   have h5:wEx e≤40 * 4 ^ d:=h e (by simp)
   simp only[wExL,List.length_cons]
   rw[Nat.succ_mul]
   omega
 have h5:=h4 l h
 have h6:l.length * (40 * 4 ^ d)≤3 * (40 * 4 ^ d):=Nat.mul_le_mul_right _ hl
 unfold shT at hs hm
 unfold shD
 simp only[wEx]
 rw[Nat.pow_succ]
 omega
theorem shD_ex {d:Nat} {e:Exp} (hd:d≤6) (h:shD d e):shEx e:=by
 have:=Nat.pow_le_pow_right (n:=4) (by decide) hd
 have h6:4 ^ 6=4096:=by decide
 unfold shD at h;unfold shEx;omega
def ltT:GV→Bool
 | .val (.string s)=>decide (s.size≤16)
 | _ => false
def ltI (lo hi:Int):GV→Bool
 | .val (.int .i64 n)=>decide (lo≤n∧n≤hi)
 | _ => false
theorem Ze {es:List GV} (h:es.all ltT=true) {g:GV} (hg:g∈es):∃s,shT s∧g=T s:=by
 have:=List.all_eq_true.1 h g hg
 unfold ltT at this
 split at this
 ·exact ⟨_,by simpa[shT] using this,rfl⟩
 ·cases this
theorem YZ {lo hi:Int} {es:List GV} (h:es.all (ltI lo hi)=true) {g:GV} (hg:g∈es):∃n:Int,(lo≤n∧n≤hi)∧g=I n:=by
 have:=List.all_eq_true.1 h g hg
 unfold ltI at this
 split at this
 ·exact ⟨_,by simpa using this,rfl⟩
 ·cases this
def noAg (es:List GV):Bool:=es.all fun e=> !isAgg e&&nraw e
theorem notAgg {es:List GV} (h:noAg es=true) (k:Nat) (hk:k<es.length):isAgg es[k]=false:=by
 have:=List.all_eq_true.1 h _ (List.getElem_mem hk)
 simp only[Bool.and_eq_true] at this
 simpa using this.1
theorem notRaw {es:List GV} (h:noAg es=true) (k:Nat) (hk:k<es.length):geR (some es[k])=some es[k]:=by
 have:=List.all_eq_true.1 h _ (List.getElem_mem hk)
 simp only[Bool.and_eq_true] at this
 have h2:=this.2
 cases h3:es[k]<;>first|rfl|(rw[h3] at h2;simp[nraw] at h2)
abbrev ExN (e:Exp):GV:= .agg [I e.kind,I e.n,I e.pos,I e.type,T e.sym,T e.name,.val (.slice none 0 0)]
abbrev ExR (e:Exp) (r:Nat):GV:= .agg [I e.kind,I e.n,I e.pos,I e.type,T e.sym,T e.name,.own r 7 0 e.args.length]
def ExW (e:Exp) (g:GV) (H1:GH):Prop:=(e.args=[]∧g=ExN e∧H1=[])∨∃r,g=ExR e r∧H1=[(r,7,e.args.map Ex)]
theorem bor_ExN {H:GH} {e:Exp} (h:e.args=[]):Bor H (ExN e) (Ex e):=by
 rw[Y6,h]
 exact .agg (.cons .refl (.cons .refl (.cons .refl (.cons .refl (.cons .refl (.cons .refl (.cons .nil .nil)))))))
theorem bor_ExR {H:GH} {e:Exp} {r:Nat} (h:ZU H r=some (7,e.args.map Ex)):Bor H (ExR e r) (Ex e):=by
 rw[Y6]
 exact .agg (.cons .refl (.cons .refl (.cons .refl (.cons .refl (.cons .refl (.cons .refl (.cons (Bor.allM view_Ex h rfl) .nil)))))))
theorem ExW.bor {e:Exp} {g:GV} {H1:GH} (h:ExW e g H1):Bor H1 g (Ex e):=by
 rcases h with ⟨h,rfl,rfl⟩|⟨r,rfl,rfl⟩
 ·exact bor_ExN h
 ·exact bor_ExR Z4
theorem Dc.frz {P:Program} {f:FuncId} {gs:List GV} {R:GV→GH→Prop} {p:GV→Prop} (h:Dc P f gs R) (hb:∀g H1,R g H1→∃G,p G∧Bor H1 g G):Dv P f gs p:=fun rc H=>
 (h rc H).fr fun g H' ⟨H1,h1,h2⟩=>by
  subst h2
  obtain ⟨G,k1,k2⟩:=hb g H1 h1
  exact ⟨G,_,FR.front k2,[],⟨k1,rfl⟩,rfl⟩
theorem Dc.exp {P:Program} {f:FuncId} {gs:List GV} {p:Exp→Prop} (h:Dc P f gs (fun g H1=>∃e,p e∧ExW e g H1)):Dv P f gs (fun g=>∃e,p e∧g=Ex e):=
 h.frz fun _ _ ⟨e,h1,h2⟩=>⟨_,⟨e,h1,rfl⟩,h2.bor⟩
theorem u64_nn (a:Int):0≤IntKind.u64.wrap a:=by
 simp only[IntKind.wrap,IntKind.signed,IntKind.bits]
 simp
 omega
instance (s:ByteArray):Decidable (shT s):=inferInstanceAs (Decidable (s.size≤16))
theorem bor_ExV {H:GH} {k n p t:Int} {s m:ByteArray} {r q:Nat} {l:List Exp} (h:ZU H r=some (7,l.map Ex)) (hl:l.length=q):Bor H (.agg [I k,I n,I p,I t,T s,T m,.own r 7 0 q]) (Ex (.mk k n p t s m l)):=by
 subst hl
 exact bor_ExR (e:= .mk k n p t s m l) h
theorem Dc.own {P:Program} {f:FuncId} {gs:List GV} {p:Exp→Prop} (h:Dc P f gs (fun g H1=>∃e,p e∧ExW e g H1)):Dc P f gs (fun g H1=>∃e r,p e∧g=ExR e r∧H1=[(r,7,e.args.map Ex)]):=fun rc H=>
 (h rc H).fr fun g H' ⟨H1,⟨e,h1,h2⟩,h3⟩=>by
  subst h3
  rcases h2 with ⟨h0,rfl,rfl⟩|⟨r,rfl,rfl⟩
  ·obtain ⟨v,hv,hn⟩:=vfresh (names ((rc,3,[.cur])::H))
   refine ⟨ExR e v,(v,7,[])::(rc,3,[.cur])::H,FR.trans (FR.sub ?_) (FR.addv hv hn),[(v,7,[])],⟨e,v,h1,rfl,by rw[h0];rfl⟩,rfl⟩
   have h5:e.args.length=0:=by rw[h0];rfl
   show Bor [] (ExN e) (.agg [I e.kind,I e.n,I e.pos,I e.type,T e.sym,T e.name,.own v 7 0 e.args.length])
   rw[h5]
   exact .agg (.cons .refl (.cons .refl (.cons .refl (.cons .refl (.cons .refl (.cons .refl (.cons Bor.virt .nil)))))))
  ·exact ⟨_,_,FR.refl _ _,_,⟨e,r,h1,rfl,rfl⟩,rfl⟩
theorem FE.frzE {env:Env} {H:GH} {re r q:Nat} {k n p t:Int} {s m:ByteArray} {l:List Exp} (hne:¬re=r) (hl:l.length=q) :
 FE env ((r,7,l.map Ex)::(re,7,[.agg [I k,I n,I p,I t,T s,T m,.own r 7 0 q]])::H) env ((re,7,[Ex (.mk k n p t s m l)])::H):=by
 refine FE.trans (FE.close (r:=re) (r1:=r) (i:=0) (j:=6) hne (by simp[ZU,Ne.symm hne];exact ⟨rfl,rfl⟩) rfl rfl Z4 (by simpa using hl)) ?_
 have e:Zl (ZD ((r,7,l.map Ex)::(re,7,[GV.agg [I k,I n,I p,I t,T s,T m,.own r 7 0 q]])::H) re ([GV.agg [I k,I n,I p,I t,T s,T m,.own r 7 0 q]].set 0 (.agg ([I k,I n,I p,I t,T s,T m,.own r 7 0 q].set 6 (.osl 7 (l.map Ex)))))) r =
  (re,7,[GV.agg [I k,I n,I p,I t,T s,T m,.osl 7 (l.map Ex)]])::H:=by
  simp[ZD,Zl,Ne.symm hne]
 rw[e]
 refine FE.frzV ?_
 have e2:(l.map Ex).map view=l.map Ex:=by
  rw[List.map_map];exact List.map_congr_left fun a _ => view_Ex a
 rw[Y6]
 simp[Zm,view,Zo,e2]
 exact ⟨rfl,rfl,rfl,rfl,rfl,rfl,rfl⟩
theorem shEx_upd {e:Exp} {k n p t:Int} {m:ByteArray} (hm:shT m∨m=e.name) (h:wEx e≤60000):shEx (.mk k n p t e.sym m e.args):=by
 rw[wEx_eq] at h
 have h1:=YI m
 unfold shEx
 rw[wEx_eq]
 show (ZP e.sym).length + (ZP m).length + wtS wEx e.args≤200000
 rcases hm with hm|rfl
 ·unfold shT at hm;omega
 ·omega
theorem Bor.exch {H:GH} {r sz i:Nat} {es:List GV} {e e' g g':GV} (hr:ZU H r=some (sz,es)) (he:es[i]? = some e) (hx:∀w D v F,MV w D e v F→MV w D e' v F) (hb:Bor (ZD H r (es.set i e')) g g'):Bor H g g':=
 fun w D Ω v hst hm=>hb w D Ω v (hst.exch hr he (hx w D)) hm
theorem MV.exn {e:Exp} (h:e.args=[]):∀w D v F,MV w D (ExN e) v F→MV w D (Ex e) v F:=fun w D v F hm=>by
 have:=MV.fld (j:=6) (g':= .sl 7 []) rfl MV.nil_sl v F hm
 rw[Y6,h]
 exact this
theorem bor_ExApp {H:GH} {k n p t:Int} {s m:ByteArray} {r q:Nat} {l:List Exp} {e:Exp} (h:ZU H r=some (7,l.map Ex++[ExN e])) (he:e.args=[]) (hl:l.length+1=q):Bor H (.agg [I k,I n,I p,I t,T s,T m,.own r 7 0 q]) (Ex (.mk k n p t s m (l++[e]))):=by
 refine Bor.exch (i:=l.length) h (by simp) (MV.exn he) ?_
 have e2:(l.map Ex++[ExN e]).set l.length (Ex e)=(l++[e]).map Ex:=by
  rw[List.set_append_right _ _ (by simp)]
  simp
 rw[e2]
 refine bor_ExV ?_ (by simpa using hl)
 have:∀{H:GH} {x:Nat×List GV} {fs:List GV},ZU H r=some x→ZU (ZD H r fs) r=some (x.1,fs):=by
  intro H
  induction H with
  | nil=>intro x fs h;cases h
  | cons y H ih=>
   obtain ⟨a,b,c⟩:=y
   intro x fs h
   simp only[ZU,ZD] at h ⊢
   split at h
   ·rename_i e3
    simp only[Option.some.injEq] at h
    subst h
    simp[e3,ZU]
   ·rename_i e3
    simp only[if_neg e3,ZU]
    exact ih h
 exact this h
theorem wEx_app {k n p t:Int} {s m:ByteArray} {l:List Exp} {e:Exp}:wEx (.mk k n p t s m (l++[e]))=wEx (.mk k n p t s m l)+1+wEx e:=by
 rw[wEx_eq (.mk k n p t s m (l++[e])),wEx_eq (.mk k n p t s m l)]
 show (ZP s).length + (ZP m).length + wtS wEx (l++[e])=(ZP s).length + (ZP m).length + wtS wEx l+1+wEx e
 simp only[wtS,List.length_append,List.map_append,List.sum_append,List.length_cons,List.length_nil,List.map_cons,List.map_nil,List.sum_cons,List.sum_nil]
 omega
theorem wEx_lit {k n p t:Int}:wEx (.mk k n p t noS noS [])=0:=by simp[wEx,wExL];rfl
theorem wEx_op {op:Int} {a b:Exp}:wEx (.mk 4 op 0 0 noS noS [a,b])=wEx a+wEx b+2:=by
 simp only[wEx,wExL,List.length_cons,List.length_nil]
 show 0+0 + _ = _
 omega
end Go.Gh
namespace Go.Gh
theorem ltN_eq (a b:ByteArray):ltN a b=decide (ZP a<ZP b):=Proofs.bytesLess_eq _ _
theorem ltN_irr (a:ByteArray):ltN a a=false:=by
 rw[ltN_eq];exact decide_eq_false (List.lt_irrefl _)
theorem ltN_trans {a b c:ByteArray} (h:ltN a b=true) (k:ltN b c=true):ltN a c=true:=by
 rw[ltN_eq,decide_eq_true_eq] at *;exact List.lt_trans h k
theorem ltN_tri {a b:ByteArray} (h:ltN a b=false) (k:ltN b a=false):a=b:=by
 rw[ltN_eq,decide_eq_false_iff_not] at *
 exact chars_inj.1 (List.le_antisymm (List.not_lt.1 k) (List.not_lt.1 h))
theorem ltO_iff {a b:Oc}:ltO a b=true↔a.1<b.1∨(a.1=b.1∧ltN a.2 b.2=true):=by simp[ltO]
theorem ltO_irr (a:Oc):ltO a a=false:=by simp[ltO,ltN_irr]
theorem ltO_trans {a b c:Oc} (h:ltO a b=true) (k:ltO b c=true):ltO a c=true:=by
 rw[ltO_iff] at *
 rcases h with h|⟨h1,h2⟩<;>rcases k with k|⟨k1,k2⟩
 ·exact .inl (by omega)
 ·exact .inl (by omega)
 ·exact .inl (by omega)
 ·exact .inr ⟨by omega,ltN_trans h2 k2⟩
theorem ltO_tri {a b:Oc} (h:ltO a b=false) (k:ltO b a=false):a=b:=by
 have h':¬(a.1<b.1∨(a.1=b.1∧ltN a.2 b.2=true)):=fun e=>by rw[ltO_iff.2 e] at h;cases h
 have k':¬(b.1<a.1∨(b.1=a.1∧ltN b.2 a.2=true)):=fun e=>by rw[ltO_iff.2 e] at k;cases k
 have e:a.1=b.1:=by omega
 refine Prod.ext e (ltN_tri ?_ ?_)
 ·cases q:ltN a.2 b.2
  ·rfl
  ·exact absurd (.inr ⟨e,q⟩) h'
 ·cases q:ltN b.2 a.2
  ·rfl
  ·exact absurd (.inr ⟨e.symm,q⟩) k'
theorem ltO_asym {a b:Oc} (h:ltO a b=true):ltO b a=false:=by
 cases q:ltO b a
 ·rfl
 ·have:=ltO_trans h q;rw[ltO_irr] at this;cases this
theorem ltO_swo:Sort.SWO ltO where
 irrefl:=ltO_irr
 trans _ _ _ := ltO_trans
 ntrans x y z h k:=by
  cases q:ltO x z
  ·rfl
  ·cases e:ltO y x
   ·rw[ltO_tri h e] at q;rw[q] at k;cases k
   ·have:=ltO_trans e q;rw[this] at k;cases k
abbrev SSO (l:List Oc):Prop:=l.Pairwise fun a b=>ltO a b=true
theorem SSO.ext:∀{l k:List Oc},SSO l→SSO k→(∀x,x∈l↔x∈k)→l=k
 | [],[],_,_,_ => rfl
 | [],b::k,_,_,h=>by have:=(h b).2 (by simp);simp at this
 | a::l,[],_,_,h=>by have:=(h a).1 (by simp);simp at this
 | a::l,b::k,h1,h2,h=>by
  rw[SSO,List.pairwise_cons] at h1 h2
  have e:a=b:=by
   rcases List.mem_cons.1 ((h a).1 (by simp)) with e|e
   ·exact e
   ·rcases List.mem_cons.1 ((h b).2 (by simp)) with e'|e'
    ·exact e'.symm
    ·have q1:=h2.1 a e
     have q2:=h1.1 b e'
     rw[ltO_asym q1] at q2;cases q2
  subst e
  congr 1
  refine SSO.ext h1.2 h2.2 fun x=>⟨fun hx=> ?_,fun hx=> ?_⟩
  ·rcases List.mem_cons.1 ((h x).1 (by simp[hx])) with e|e
   ·subst e;have:=h1.1 _ hx;rw[ltO_irr] at this;cases this
   ·exact e
  ·rcases List.mem_cons.1 ((h x).2 (by simp[hx])) with e|e
   ·subst e;have:=h2.1 _ hx;rw[ltO_irr] at this;cases this
   ·exact e
theorem putO_nil (o:Oc):putO [] o=[o]:=rfl
theorem putO_cons (a:Oc) (l:List Oc) (o:Oc):putO (a::l) o=if ltO a o=true then a::putO l o else if a=o then a::l else o::a::l:=by
 unfold putO
 by_cases h:ltO a o=true
 ·simp only[atO,if_pos h,List.getElem?_cons_succ]
  split<;>rfl
 ·simp only[atO,if_neg h,List.getElem?_cons_zero,Option.some.injEq]
  split<;>simp
theorem putO_ss (o:Oc):∀{l:List Oc},SSO l→SSO (putO l o)∧∀x,x∈putO l o↔x∈l∨x=o
 | [],_ => by rw[putO_nil];simp
 | a::l,h=>by
  rw[SSO,List.pairwise_cons] at h
  obtain ⟨i1,i2⟩:=putO_ss o h.2
  rw[putO_cons]
  by_cases h1:ltO a o=true
  ·rw[if_pos h1]
   refine ⟨List.pairwise_cons.2 ⟨fun x hx=> ?_,i1⟩,fun x=> ?_⟩
   ·rcases (i2 x).1 hx with e|e
    ·exact h.1 x e
    ·rw[e];exact h1
   ·simp only[List.mem_cons,i2 x,or_assoc]
  ·rw[if_neg h1]
   by_cases h2:a=o
   ·rw[if_pos h2]
    exact ⟨List.pairwise_cons.2 h,fun x=>⟨.inl,fun e=>e.elim id fun e=>by simp[e,h2]⟩⟩
   ·rw[if_neg h2]
    have h3:ltO o a=true:=by
     cases q:ltO o a
     ·exact absurd (ltO_tri (by simpa using h1) q) h2
     ·rfl
    refine ⟨List.pairwise_cons.2 ⟨fun x hx=> ?_,List.pairwise_cons.2 h⟩,fun x=> ?_⟩
    ·rcases List.mem_cons.1 hx with e|e
     ·rw[e];exact h3
     ·exact ltO_trans h3 (h.1 x e)
    ·simp only[List.mem_cons];constructor
     ·rintro (e|e|e);exact .inr e;exact .inl (.inl e);exact .inl (.inr e)
     ·rintro ((e|e)|e);exact .inr (.inl e);exact .inr (.inr e);exact .inl e
mutual
def occE:Exp→List Oc
 | .mk k _ p _ _ m a=>(if k=3 then [(p,m)] else [])++Zj a
def Zj:List Exp→List Oc
 | []=>[]
 | e::r=>occE e++Zj r
end
mutual
theorem usE_fold:∀(e:Exp) (l:List Oc),usE e l=(occE e).foldl putO l
 | .mk k _ p _ _ m a,l=>by
  simp only[usE,occE,usEL_fold a,List.foldl_append]
  split<;>rfl
theorem usEL_fold:∀(al:List Exp) (l:List Oc),usEL al l=(Zj al).foldl putO l
 | [],l=>rfl
 | e::r,l=>by simp only[usEL,Zj,usEL_fold r,usE_fold e,List.foldl_append]
end
theorem foldO_ss:∀(os:List Oc) {l:List Oc},SSO l→SSO (os.foldl putO l)∧∀x,x∈os.foldl putO l↔x∈l∨x∈os
 | [],l,h=>by simp[h]
 | o::os,l,h=>by
  obtain ⟨h1,h2⟩:=putO_ss o h
  obtain ⟨h3,h4⟩:=foldO_ss os h1
  refine ⟨h3,fun x=> ?_⟩
  rw[List.foldl_cons,h4 x,h2 x,List.mem_cons,or_assoc]
def cpO (l:List Oc):List Oc:=l.foldl (fun acc x=>if acc.getLast?=some x then acc else acc++[x]) []
theorem cpO_snoc (l:List Oc) (x:Oc):cpO (l++[x])=if (cpO l).getLast? = some x then cpO l else cpO l++[x]:=by
 unfold cpO
 rw[List.foldl_append]
 rfl
theorem snocInd {α:Type} {p:List α→Prop} (h0:p []) (h1:∀l x,p l→p (l++[x])) (l:List α):p l:=by
 have key:∀r:List α,p r.reverse:=fun r=>by
  induction r with
  | nil=>exact h0
  | cons a r ih=>rw[List.reverse_cons];exact h1 _ _ ih
 have:=key l.reverse
 rwa [List.reverse_reverse] at this
theorem cpO_last (l:List Oc):(cpO l).getLast? = l.getLast?:=by
 refine snocInd (p:=fun l=>(cpO l).getLast? = l.getLast?) rfl (fun l x ih=> ?_) l
 rw[cpO_snoc]
 split
 ·rename_i h;rw[h];simp
 ·simp
theorem cpO_step (l:List Oc) (x:Oc):cpO (l++[x])=if l.getLast?=some x then cpO l else cpO l++[x]:=by rw[cpO_snoc,cpO_last]
theorem cpO_mem (l:List Oc):∀x,x∈cpO l↔x∈l:=by
 refine snocInd (p:=fun l=>∀x,x∈cpO l↔x∈l) (fun x=>Iff.rfl) (fun l y ih x=> ?_) l
 rw[cpO_step]
 split
 ·rename_i h
  rw[ih x,List.mem_append,List.mem_singleton]
  exact ⟨.inl,fun e=>e.elim id fun e=>by rw[e];exact List.mem_of_getLast? h⟩
 ·rw[List.mem_append,List.mem_append,ih x]
theorem cpO_ss (l:List Oc):(l.Pairwise fun a b=>ltO b a=false)→SSO (cpO l):=by
 refine snocInd (p:=fun l=>(l.Pairwise fun a b=>ltO b a=false)→SSO (cpO l)) (fun _ => List.Pairwise.nil) (fun l y ih h=> ?_) l
 rw[List.pairwise_append] at h
 obtain ⟨h1,_,h3⟩:=h
 rw[cpO_step]
 split
 ·exact ih h1
 ·rename_i hne
  refine List.pairwise_append.2 ⟨ih h1,List.pairwise_singleton _ _,fun a ha b hb=> ?_⟩
  rw[List.mem_singleton] at hb
  subst hb
  have ha':=(cpO_mem l a).1 ha
  have q:=h3 a ha' b (by simp)
  cases e:ltO a b
  ·exfalso
   have hab:=ltO_tri e q
   subst hab
   obtain ⟨z,hz⟩:∃z,l.getLast?=some z:=by
    cases hl:l.getLast? with
    | none=>rw[List.getLast?_eq_none_iff] at hl;subst hl;simp at ha'
    | some z=>exact ⟨z,rfl⟩
   rw[hz] at hne
   have hz':=List.mem_of_getLast? hz
   have q2:=h3 z hz' a (by simp)
   have q3:ltO z a=false:=by
    obtain ⟨l',rfl⟩:∃l',l=l'++[z]:=by
     rcases List.eq_nil_or_concat l with e|⟨l',b,e⟩
     ·subst e;simp at ha'
     ·refine ⟨l',?_⟩
      rw[List.concat_eq_append] at e
      subst e
      simp at hz
      rw[hz]
    rw[List.pairwise_append] at h1
    rcases List.mem_append.1 ha' with e1|e1
    ·exact h1.2.2 a e1 z (by simp)
    ·rw[List.mem_singleton] at e1;rw[e1];exact ltO_irr z
   exact hne (by rw[ltO_tri q3 q2])
  ·rfl
abbrev srO (l:List Oc):List Oc:=l.mergeSort fun x y=> !ltO y x
theorem srO_sorted (l:List Oc):(srO l).Pairwise fun a b=>ltO b a=false:=by
 have h:=List.pairwise_mergeSort (le:=fun x y:Oc=> !ltO y x)
  (fun a b c h k=>by
   simp only[Bool.not_eq_true'] at h k ⊢
   exact ltO_swo.ntrans _ _ _ k h)
  (fun a b=>by
   cases e:ltO b a
   ·simp
   ·simp[ltO_asym e]) l
 exact h.imp fun h=>by simpa using h
theorem usE_cp (e:Exp):cpO (srO (occE e))=usE e []:=by
 rw[usE_fold]
 obtain ⟨h1,h2⟩:=foldO_ss (occE e) (l:=[]) List.Pairwise.nil
 refine SSO.ext (cpO_ss _ (srO_sorted _)) h1 fun x=> ?_
 rw[cpO_mem,h2 x,(List.mergeSort_perm _ _).mem_iff]
 simp
theorem srO_len (l:List Oc):(srO l).length = l.length:=List.length_mergeSort _
mutual
theorem occE_len:∀e:Exp,(occE e).length ≤ 1+wEx e
 | .mk k n p t s m a=>by
  have h1:=occEL_len a
  simp only[occE,wEx,List.length_append]
  have h2:(if k=3 then [(p,m)] else []).length ≤ 1:=by split<;>simp
  omega
theorem occEL_len:∀al:List Exp,(Zj al).length ≤ al.length+wExL al
 | []=>by simp[Zj]
 | e::r=>by
  have h1:=occE_len e
  have h2:=occEL_len r
  simp only[Zj,wExL,List.length_cons,List.length_append]
  omega
end
theorem cpO_len (l:List Oc):(cpO l).length ≤ l.length:=by
 refine snocInd (p:=fun l=>(cpO l).length ≤ l.length) (Nat.le_refl _) (fun l x ih=> ?_) l
 rw[cpO_step]
 split<;>simp<;>omega
theorem cpO_take {l:List Oc} {j:Nat} (h:j+1<l.length):cpO (l.take (j+2))=if l[j+1]=l[j] then cpO (l.take (j+1)) else cpO (l.take (j+1))++[l[j+1]]:=by
 have e:l.take (j+2)=l.take (j+1)++[l[j+1]]:=by rw[List.take_add_one (i:=j+1),List.getElem?_eq_getElem h];rfl
 have e2:(l.take (j+1)).getLast? = some l[j]:=by
  rw[List.take_add_one,List.getElem?_eq_getElem (by omega:j<l.length),Option.toList_some,List.getLast?_append]
  rfl
 rw[e,cpO_step,e2]
 simp only[Option.some.injEq]
 by_cases hq:l[j]=l[j+1]
 ·rw[if_pos hq,if_pos hq.symm]
 ·rw[if_neg hq,if_neg (fun e=>hq e.symm)]
end Go.Gh
namespace Go.Gh
open Go.Sort (HoldsK Holds flatK putRowK grow)
open Go.Proofs (sortWorldK)
def Zc (o:Oc):List Value:=[.int .i64 o.1,.string o.2]
theorem encO_len (o:Oc):(Zc o).length = 2:=rfl
theorem encO_one (o:Oc):∀v∈Zc o,v.oneCell'=true:=by
 intro v hv
 simp only[Zc,List.mem_cons,List.not_mem_nil,or_false] at hv
 rcases hv with rfl|rfl<;>rfl
theorem MF_Occ {w:World} {D:Nat→Prop}:∀{l:List Oc} {cs:List Value} {F:List Nat},MF w D 2 (l.map Occ) cs F→cs=l.flatMap Zc∧F=[]
 | [],cs,F,h=>by simpa[MF] using h
 | o::l,cs,F,h=>by
  simp only[List.map_cons,MF] at h
  obtain ⟨v,cs',F1,F2,h1,h2,h3,h4,h5,h6⟩:=h
  obtain ⟨e1,e2⟩:=MF_Occ h6
  simp only[MV,ML] at h5
  obtain ⟨vs,rfl,_,u1,us,G1,G2,rfl,rfl,⟨rfl,rfl⟩,u2,us2,G3,G4,rfl,rfl,⟨rfl,rfl⟩,rfl,rfl⟩:=h5
  subst e1 e2 h1 h4
  exact ⟨rfl,rfl⟩
theorem Occ_MF (w:World) (D:Nat→Prop):∀l:List Oc,MF w D 2 (l.map Occ) (l.flatMap Zc) []
 | []=>by simp[MF]
 | o::l=>by
  simp only[List.map_cons,MF]
  refine ⟨.agg (Zc o).toArray,l.flatMap Zc,[],[],rfl,rfl,?_,rfl,?_,Occ_MF w D l⟩
  ·intro x hx
   exact encO_one o x (by simpa[Value.cells] using hx)
  ·simp only[MV,ML]
   exact ⟨Zc o,rfl,encO_one o,_,_,[],[],rfl,rfl,⟨rfl,rfl⟩,_,_,[],[],rfl,rfl,⟨rfl,rfl⟩,rfl,rfl⟩
theorem flat_len:∀l:List Oc,(l.flatMap Zc).length = l.length * 2
 | []=>rfl
 | o::l=>by simp only[List.flatMap_cons,List.length_append,flat_len l,List.length_cons,encO_len];omega
theorem flat_get:∀(l:List Oc) (t:Nat),t<l.length * 2→(l.flatMap Zc)[t]? = some ((Zc l[t / 2]!)[t % 2]!)
 | [],t,h=>by simp at h
 | o::l,t,h=>by
  simp only[List.flatMap_cons]
  match t,h with
  | 0,_ => rfl
  | 1,_ => rfl
  | t+2,h=>
   have e1:(t+2) / 2=t / 2+1:=by omega
   have e2:(t+2) % 2=t % 2:=by omega
   rw[List.getElem?_append_right (by simp[encO_len]),e1,e2,encO_len,Nat.add_sub_cancel,flat_get l t (by simp at h;omega)]
   simp
theorem flatK_toList (l:List Oc):(flatK Zc 2 l.toArray).toList = l.flatMap Zc:=by
 refine List.ext_getElem? fun t=> ?_
 rcases Nat.lt_or_ge t (l.length * 2) with h|h
 ·rw[flat_get l t h]
  have h':t<(flatK Zc 2 l.toArray).size := by simpa using h
  rw[Array.getElem?_toList,Array.getElem?_eq_getElem h',←getElem!_pos (flatK Zc 2 l.toArray) t h',Sort.get_flatK _ _ _ _ (by simpa using h)]
  simp
 ·rw[List.getElem?_eq_none (l:=l.flatMap Zc) (by rw[flat_len];exact h),List.getElem?_eq_none (by simpa using h)]
theorem St.putO {w w':World} {D:Nat→Prop} {H:GH} {Ω:List Nat} (h:St w D H Ω) {r:Nat} {l l':List Oc} (hr:ZU H r=some (2,l.map Occ)) (hl:l'.length=l.length) (hk:Kept w w' (fun x=>r≠2 * x))
 (hos:w'.os=w.os) (htp:w'.tape=w.tape) (hou:w'.output=w.output)
 (hb:∀b c T fz,r=2 * b→w.heap[b]? = some (Obj.cells c T fz)→Thaw c fz→l.length * 2≤c.size→∃c',w'.heap[b]? = some (Obj.cells c' T fz)∧c'.size=c.size∧c'.toList.take (l.length * 2)=l'.flatMap Zc) :
 ∃Ω',St w' D (ZD H r (l'.map Occ)) Ω'∧Ev w D Ω w' D Ω':=by
 obtain ⟨Ω1,F,Ω2,hΩ,hR,hput,_⟩:=HM.take h.hm hr
 have hDr:∀b,F=[b]→r=2 * b→∀x,D x→r≠2 * x:=fun b hF e x hx e'=>by
  have:x=b:=by omega
  subst this
  exact h.dj x (by rw[hΩ,hF];simp) hx
 rcases hR with ⟨b,c,T,fz,F',k1,k2,k3,k4,k5,k6,k7⟩|⟨k1,k2,k3⟩
 ·rw[List.length_map] at k4 k5 k7
  obtain ⟨c',c1,c2,c3⟩:=hb b c T fz k1 k2 k3 k4
  obtain ⟨_,e0⟩:=MF_Occ k7
  subst e0
  subst k6 hΩ
  have hnd:=h.nd
  have hbΩ:b∈Ω1++([b]++Ω2):=by simp
  have hb1:∀x∈Ω1++Ω2,r≠2 * x:=fun x hx e=>by
   have:x=b:=by omega
   subst this
   simp only[List.nodup_append,List.nodup_cons,List.mem_append,List.mem_cons,List.cons_append] at hnd hx
   rcases hx with hx|hx
   ·exact hnd.2.2 _ hx _ (.inl rfl) rfl
   ·exact hnd.2.1.1 (by simpa using hx)
  refine ⟨Ω1++([b]++Ω2),⟨hput w' D (fun x=>r≠2 * x) _ _ hk (hDr b rfl k1) (fun _ h=>h) hb1 ?_,hnd,by rw[Y9];exact h.nn,h.dj,fun x hx=>Nat.lt_of_lt_of_le (h.ds x hx) hk.size⟩,
   ⟨fun _ h=>h,fun _ _ h=> .inl h,fun x hx _ => hx,hk.mono ?_,hos,htp,hou⟩⟩
  ·refine .inl ⟨b,c',T,fz,[],k1,c1,?_,by rw[List.length_map,hl,c2];exact k4,by rw[List.length_map,hl];exact k5,rfl,?_⟩
   ·unfold Thaw at *;rw[c2];exact k3
   ·rw[List.length_map,hl,c3];exact Occ_MF w' D l'
  ·intro x _ hx e
   have:x=b:=by omega
   subst this
   exact hx hbΩ
 ·have e0:l=[]:=by simpa using k2
  subst e0 k3 hΩ
  have e1:l'=[]:=List.eq_nil_of_length_eq_zero hl
  subst e1
  have hne:∀x:Nat,r≠2 * x:=fun x e=>by omega
  exact ⟨_,⟨hput w' D (fun x=>r≠2 * x) _ [] hk (fun x _ => hne x) (fun _ h=>h) (fun x _ => hne x) (.inr ⟨⟨k1.1,fun h4 h5=>(k1.2 h4 h5).keep hk (fun x _ => hne x) (fun _ h=>h)⟩,rfl,rfl⟩),h.nd,by rw[Y9];exact h.nn,h.dj,fun x hx=>Nat.lt_of_lt_of_le (h.ds x hx) hk.size⟩,
   ⟨fun _ h=>h,fun _ _ h=> .inl h,fun x hx _ => hx,hk.mono fun x _ _ => hne x,hos,htp,hou⟩⟩
theorem kept_sort {w:World} {b n:Nat} {dk:Array Oc} {os:Array Obj}:Kept w (sortWorldK Zc 2 w b 0 n dk os) (fun x=>x≠b):=by
 have hsz:(putRowK Zc 2 (Sort.ahead w n) b 0 dk).heap.size = w.heap.size:=by simp[putRowK,Sort.putRow,Sort.mapBlock,Sort.ahead]
 have ZU:∀x,x<w.heap.size→(sortWorldK Zc 2 w b 0 n dk os).heap[x]? = (putRowK Zc 2 (Sort.ahead w n) b 0 dk).heap[x]? := fun x hx=>by
  show ((putRowK Zc 2 (Sort.ahead w n) b 0 dk).heap ++ os)[x]? = _
  rw[Array.getElem?_append_left (by rw[hsz];exact hx)]
 refine ⟨fun x hx hne=> ?_,?_,fun x c T fz hx=> ?_⟩
 ·rw[ZU x hx]
  simp only[putRowK,Sort.putRow,Sort.mapBlock,Sort.ahead,Array.getElem?_modify]
  rw[if_neg (fun e=>hne e.symm)]
 ·show w.heap.size≤((putRowK Zc 2 (Sort.ahead w n) b 0 dk).heap ++ os).size
  rw[Array.size_append,hsz];omega
 ·rw[ZU x (Zd hx)]
  simp only[putRowK,Sort.putRow,Sort.mapBlock,Sort.ahead,Array.getElem?_modify]
  by_cases e:b=x
  ·subst e
   simp only[if_true,hx,Option.map_some,Sort.onCells]
   exact ⟨_,_,rfl,by simp[Sort.putCells]⟩
  ·rw[if_neg e];exact ⟨c,fz,hx,rfl⟩
theorem cells_sort {w:World} {b n:Nat} {dk:List Oc} {os:Array Obj} {c:Array Value} {T:TypeId} {fz:Nat×Nat} (hx:w.heap[b]? = some (.cells c T fz)) (hs:dk.length * 2≤c.size) :
 ∃c',(sortWorldK Zc 2 w b 0 n dk.toArray os).heap[b]? = some (.cells c' T fz)∧c'.size=c.size∧c'.toList.take (dk.length * 2)=dk.flatMap Zc:=by
 have hsz:(putRowK Zc 2 (Sort.ahead w n) b 0 dk.toArray).heap.size = w.heap.size:=by simp[putRowK,Sort.putRow,Sort.mapBlock,Sort.ahead]
 have e:(sortWorldK Zc 2 w b 0 n dk.toArray os).heap[b]? = (putRowK Zc 2 (Sort.ahead w n) b 0 dk.toArray).heap[b]? := by
  show ((putRowK Zc 2 (Sort.ahead w n) b 0 dk.toArray).heap ++ os)[b]? = _
  rw[Array.getElem?_append_left (by rw[hsz];exact Zd hx)]
 rw[e]
 simp only[putRowK,Sort.putRow,Sort.mapBlock,Sort.ahead,Array.getElem?_modify,if_true,hx,Option.map_some,Sort.onCells]
 refine ⟨_,rfl,by simp[Sort.putCells],?_⟩
 rw[←flatK_toList]
 refine List.ext_getElem? fun t=> ?_
 rcases Nat.lt_or_ge t (dk.length * 2) with h|h
 ·have h1:t<c.size:=by omega
  have h':t<(flatK Zc 2 dk.toArray).size := by simpa using h
  rw[List.getElem?_take_of_lt h,Array.getElem?_toList,Array.getElem?_toList,Array.getElem?_eq_getElem h']
  simp only[Sort.putCells,Array.getElem?_mapIdx,Array.getElem?_eq_getElem h1,Option.map_some]
  rw[if_pos ⟨Nat.zero_le _,by simpa using h⟩,Nat.sub_zero,getElem!_pos (flatK Zc 2 dk.toArray) t h']
  rfl
 ·rw[List.getElem?_eq_none (by simp;omega),List.getElem?_eq_none (by simpa using h)]
theorem sort_ok {P : Program} {fs g : Nat} (hc : ∀ (w : World) (b cap : Nat) (d : Array Oc), HoldsK Zc 2 w b 0 d → b < w.heap.size → d.size < 4611686018427387904 →
      Calls P fs #[.slice (some ⟨b, 0, none⟩) d.size cap, .func (.func g) #[] #[]] w fun e w' => e = .returned (.tuple #[]) ∧ ∃ n os, w' = sortWorldK Zc 2 w b 0 n (srO d.toList).toArray os)
    (h0 : ∀ (p : Option Addr) (cap : Nat) (fv : Value) (w : World), Calls P fs #[.slice p 0 cap, fv] w fun e w' => e = .returned (.tuple #[]) ∧ w' = w)
    (eg : ∀ args w, (callFunc fs args).run P w = .ok (.enter fs args) w)
    {r n : Nat} {l : List Oc} {H : GH} (hr : ZU H r = some (2, l.map Occ)) (hn : l.length = n) (hb : n < 4611686018427387904) :
    GCalls P fs [.own r 2 0 n, .clo g []] H (fun v H' => v = uG ∧ H' = ZD H r ((srO l).map Occ)) := by
  intro w D Ω args hst hargs
  simp only [ML] at hargs
  obtain ⟨v1, vs1, F1, F2, rfl, e1, hv1, v2, vs2, F3, F4, rfl, e2, hv2, rfl, e3⟩ := hargs
  simp only [MV, ML] at hv1 hv2
  obtain ⟨rfl, hv1⟩ := hv1
  obtain ⟨rfl, vs, rfl, rfl, _⟩ := hv2
  rw [eg]
  show Calls P fs _ w _
  by_cases hz : n = 0
  · have e0 : l = [] := List.eq_nil_of_length_eq_zero (by omega)
    subst e0
    have hH : ZD H r ((srO []).map Occ) = H := by
      have : srO [] = [] := by simp [srO]
      rw [this]; exact hset_self hr
    have key : ∀ p cap, v1 = .slice p 0 cap → Calls P fs #[v1, .func (.func g) #[] #[]] w (fun e w'' => ∃ v, e = .returned v ∧ Post w D Ω (fun v H' => v = uG ∧ H' = ZD H r ((srO []).map Occ)) v w'') := fun p cap e => by
      subst e
      refine (h0 p cap _ w).mono ?_
      rintro e w' ⟨rfl, rfl⟩
      exact ⟨_, rfl, Post.here hst ⟨rfl, hH.symm⟩ (MV.val_mk _)⟩
    rcases hv1 with ⟨b, cap, c, T, fz, q0, hp, _⟩ | ⟨_, a, hp⟩
    · rw [hz] at hp; exact key _ _ hp
    · exact key _ _ hp
  · rcases hv1 with ⟨b, cap, c, T, fz, q0, hp, q1, q2, q3⟩ | ⟨q, _⟩
    case inr => exact absurd q hz
    rw [Nat.zero_mul] at hp
    subst hp
    obtain ⟨F, hF, hFΩ⟩ := hst.hm.mem hr
    obtain ⟨b', c', T', fz', F', k1, k2, k3, k4, k5, k6, k7⟩ := hF.es_ne (fun e => by
      have : l = [] := by simpa using e
      subst this; exact hz (by simpa using hn.symm))
    have : b' = b := by omega
    subst this
    rw [q2] at k2
    simp only [Option.some.injEq, Obj.cells.injEq] at k2
    obtain ⟨rfl, rfl, rfl⟩ := k2
    rw [List.length_map] at k4 k7
    obtain ⟨hcs, _⟩ := MF_Occ k7
    have hH : HoldsK Zc 2 w b' 0 l.toArray := by
      intro j hj
      have hj' : j < l.length * 2 := by simpa using hj
      have hjc : j < c.size := by omega
      have hx := flat_get l j hj'
      rw [← hcs, List.getElem?_take_of_lt hj', Array.getElem?_toList] at hx
      refine ⟨?_, ?_⟩
      · rw [Nat.zero_add]
        simp only [World.cell?, q2, Option.isSome_none, Bool.false_eq_true, if_false, hx, id]
        rw [Sort.get_flatK _ _ _ _ (by simpa using hj')]
        simp
      · rw [Nat.zero_add]
        simp only [World.frozen?, q2]
        exact k3 j hjc
    have hcall := hc w b' cap l.toArray hH (Zd q2) (by simpa [hn] using hb)
    have hsz : l.toArray.size = n := by simpa using hn
    rw [hsz] at hcall
    refine hcall.mono ?_
    rintro e w' ⟨rfl, m, os, rfl⟩
    have hkp : Kept w (sortWorldK Zc 2 w b' 0 m (srO l).toArray os) (fun x => r ≠ 2 * x) := (kept_sort (b := b')).mono fun x _ hx e => hx (by omega)
    obtain ⟨Ω', c1, c2⟩ := hst.putO (l' := srO l) hr (srO_len l) hkp rfl rfl rfl (fun b c2 T2 fz2 e1 e2 _ hs => by
      have : b = b' := by omega
      subst this
      rw [q2] at e2
      simp only [Option.some.injEq, Obj.cells.injEq] at e2
      obtain ⟨rfl, rfl, rfl⟩ := e2
      have := cells_sort (n := m) (dk := srO l) (os := os) q2 (by rw [srO_len]; exact hs)
      rwa [srO_len] at this)
    exact ⟨_, rfl, _, _, D, Ω', ⟨rfl, rfl⟩, MV.val_mk _, c1, c2⟩
open Go.Proofs (ltOf)
theorem ltS_or (x y:ByteArray):(Op.bytesLess x.data.toList y.data.toList||x.data.toList == y.data.toList) = !ltN y x:=by
 have h:=ltN_irr x
 cases e1:ltN x y
 ·cases e2:ltN y x
  ·have:=ltN_tri e1 e2
   subst this
   simp
  ·have e3:Op.bytesLess x.data.toList y.data.toList=false:=e1
   rw[e3]
   simp only[Bool.false_or,Bool.not_true,beq_eq_false_iff_ne]
   intro e4
   have:x=y:=chars_inj.1 e4
   subst this
   rw[h] at e2;cases e2
 ·have e2:ltN y x=false:=by
   cases q:ltN y x
   ·rfl
   ·have:=ltN_trans e1 q;rw[h] at this;cases this
  have e3:Op.bytesLess x.data.toList y.data.toList=true:=e1
  rw[e3,e2];rfl
theorem cellA (W:World) (cs:Array Value) (T:TypeId) (i:Nat):(W.alloc (.cells cs T)).cell? ⟨W.heap.size,i,none⟩=cs[i]? := by
 simp only[World.cell?,hp_new];rfl
theorem cellB (W:World) (o:Obj) (b i:Nat) (h:b<W.heap.size):(W.alloc o).cell? ⟨b,i,none⟩=W.cell? ⟨b,i,none⟩:=by
 simp only[World.cell?,hp_old _ _ _ h]
theorem cell1a (W:World) (v0 v1:Value) (T:TypeId):((W.alloc (.cells #[v0,v1] T)).drew).cell? ⟨W.heap.size,0,none⟩=some v0:=cellA W _ T 0
theorem cell1b (W:World) (v0 v1:Value) (T:TypeId):((W.alloc (.cells #[v0,v1] T)).drew).cell? ⟨W.heap.size,1,none⟩=some v1:=cellA W _ T 1
theorem sizeA (W:World) (o:Obj):(W.alloc o).heap.size = W.heap.size+1:=by simp
def cfO (x y:Oc):Int:=if (if x.1<y.1 then (-1:Int) else if y.1<x.1 then 1 else 0)≠0 then (if x.1<y.1 then -1 else if y.1<x.1 then 1 else 0) else if ltN x.2 y.2=true then -1 else if ltN y.2 x.2=true then 1 else 0
theorem cfO_lt (x y:Oc):ltOf cfO x y=ltO x y:=by
 unfold ltOf cfO ltO
 by_cases h1:x.1<y.1
 ·simp[h1]
 ·by_cases h2:y.1<x.1
  ·have:¬x.1=y.1:=by omega
   simp[h1,h2,this]
  ·have:x.1=y.1:=by omega
   cases e1:ltN x.2 y.2
   ·cases e2:ltN y.2 x.2<;>simp[h1,h2,this,e1,e2]
   ·simp[h1,h2,this,e1]
theorem cfO_eq:ltOf cfO=ltO:=funext fun x=>funext fun y=>cfO_lt x y
end Go.Gh
namespace Go.Gh
def YW (n:Nat) (p:Nat→Bool):Int:=match (List.range n).find? p with
 | some i=>i
 | none=> -1
theorem firstI_hit {n i:Nat} {p:Nat→Bool} (h:i<n) (hp:p i=true) (hn:∀j,j<i→p j=false):YW n p=i:=by
 have e:(List.range n).find? p=some i:=by
  rw[List.find?_range_eq_some]
  exact ⟨hp,by simpa using h,fun j hj=>by simp[hn j hj]⟩
 simp[YW,e]
theorem Yo {n:Nat} {p:Nat→Bool} (hn:∀j,j<n→p j=false):YW n p = -1:=by
 have e:(List.range n).find? p=none:=by
  rw[List.find?_eq_none]
  intro j hj
  rw[hn j (by simpa using hj)]
  simp
 simp[YW,e]
theorem Yp (n:Nat) (p:Nat→Bool):YW n p = -1∨(0≤YW n p∧YW n p<n):=by
 unfold YW
 cases e:(List.range n).find? p with
 | none=>exact .inl rfl
 | some i=>
  have:=List.mem_of_find?_eq_some e
  simp at this
  refine .inr ⟨?_,?_⟩
  ·show (0:Int)≤(i:Int)
   omega
  ·show (i:Int)<n
   omega
theorem firstI_no {n:Nat} {p:Nat→Bool} (h:YW n p = -1) {j:Nat} (hj:j<n):p j=false:=by
 unfold YW at h
 cases e:(List.range n).find? p with
 | none=>
  rw[List.find?_eq_none] at e
  simpa using e j (by simpa using hj)
 | some i=>
  rw[e] at h
  have h':(i:Int) = -1:=h
  omega
theorem lt_step {p:Nat→Bool} {i:Nat} {b:Bool} (h:p i=b) (hn:∀j,j<i→p j=b):∀j,j<i+1→p j=b:=fun j hj=>by
 rcases Nat.lt_succ_iff_lt_or_eq.1 hj with e|e
 ·exact hn j e
 ·rw[e];exact h
theorem rngAll_no {n i:Nat} {p:Nat→Bool} (h:i<n) (hp:p i=false):(List.range n).all p=false:=by
 rw[List.all_eq_false]
 exact ⟨i,by simpa using h,by simp[hp]⟩
theorem rngAll_yes {n:Nat} {p:Nat→Bool} (h:∀j,j<n→p j=true):(List.range n).all p=true:=by
 rw[List.all_eq_true]
 intro j hj
 exact h j (by simpa using hj)
theorem all_no {α:Type} {p:α→Bool} {l:List α} {i:Nat} (h:i<l.length) (hp:p l[i]=false):l.all p=false:=by
 rw[List.all_eq_false]
 exact ⟨l[i],List.getElem_mem h,by simp[hp]⟩
theorem Yq {α:Type} {p:α→Bool} {l:List α} {i:Nat} (h:i<l.length) (hp:p l[i]=true):l.any p=true:=by
 rw[List.any_eq_true]
 exact ⟨l[i],List.getElem_mem h,hp⟩
theorem all_yes {α:Type} {p:α→Bool} {l:List α} (h:∀a∈l,p a=true):l.all p=true:=List.all_eq_true.2 h
theorem any_no {α:Type} {p:α→Bool} {l:List α} (h:∀a∈l,p a=false):l.any p=false:=by
 rw[List.any_eq_false]
 intro a ha
 rw[h a ha];simp
theorem Zv {α:Type} {p:α→Bool} {l:List α} {i:Nat} {b:Bool} (h:i<l.length) (hp:p l[i]=b) (hn:∀a∈l.take i,p a=b):∀a∈l.take (i+1),p a=b:=by
 intro a ha
 rw[List.take_add_one,List.getElem?_eq_getElem h,Option.toList_some,List.mem_append] at ha
 rcases ha with ha|ha
 ·exact hn a ha
 ·simp only[List.mem_singleton] at ha;rw[ha];exact hp
def attV (a:Att):Bool:=Zx a.name&&(decide (1≤a.type∧a.type≤4)&&(decide (1≤a.mode∧a.mode≤3)&&(if a.mode=3 then decide (a.type=2) && !a.circ else !a.circ || decide (a.type=2))))
def dupA (l:List Att) (i:Nat):Bool:=(l.take i).any fun o=>decide (o.name=(l.getD i attZ).name)
def symV (s:Sym):Bool:=s.atts.all attV&&((List.range s.atts.length).all fun i=> !dupA s.atts i)&&(Zx s.name&&decide (s.atts.length≤4))
def fitE (e:Exp) (n:Int):Bool:=validE e&&allE (fun x=>decide (x.pos≤n)) e
def eqnV (n:Nat) (q:Eqn):Bool:=fitE q.expr n&&(Zx q.name&&decide (0≤q.pos∧q.pos≤n))
def conV (n:Nat) (c:Con):Bool:=fitE c.goal n&&(fitE c.value n&&(Zx c.sym&&Zx c.name))
def rulV (r:Rul):Bool:=Zx r.name&&(Zx r.left&&(decide (r.right.length≤3)&&(decide (r.cons.length≤2)&&(r.right.all Zx&&(r.eqs.all (eqnV r.right.length)&&r.cons.all (conV r.right.length))))))
def symB (g:Gram) (i:Nat):Bool:= !symV (g.syms.getD i symZ)||(g.syms.take i).any fun o=>decide (o.name=(g.syms.getD i symZ).name)
def rulB (g:Gram) (i:Nat):Bool:= !rulV (g.rules.getD i rulZ)||(g.rules.take i).any fun o=>decide (o.name=(g.rules.getD i rulZ).name)
def sfI (g:Gram):Int:=if 0≤YW g.syms.length (symB g) then YW g.syms.length (symB g) else YW g.rules.length (rulB g)
def reqP (g:Gram) (r:Rul) (pos:Nat):List Oc:=((Zq g.syms (Zz r pos)).atts.filter fun a=>decide (a.mode=if pos=0 then 2 else 1)).map fun a=>((pos:Int),a.name)
def Zs (g:Gram) (r:Rul):Nat→List Oc
 | 0=>[]
 | n+1=>Zs g r n++reqP g r n
def reqO (g:Gram) (r:Rul):List Oc:=Zs g r (r.right.length+1)
def mayU (g:Gram) (r:Rul) (o:Oc):Bool:=hasAt g r o.1 o.2&&decide ((Zu g r o.1 o.2).mode = if o.1=0 then 1 else 2)
def unkR (g:Gram) (r:Rul):Bool:= !((List.range (r.right.length+1)).all fun pos=>hSym g.syms (Zz r pos))
def misR (g:Gram) (r:Rul):Bool:=(reqO g r).any fun o=> !(eqnF r o).isSome
def hasO (l:List Oc) (o:Oc):Bool:=l.any fun y=>decide (y=o)
def atQ (q:Eqn):Oc:=(q.pos,q.name)
def extR (g:Gram) (r:Rul):Bool:= !((List.range r.eqs.length).all fun i=>hasO (reqO g r) ((r.eqs.map atQ).getD i (0,noS)) && !hasO ((r.eqs.map atQ).take i) ((r.eqs.map atQ).getD i (0,noS)))
def YT (g:Gram) (r:Rul) (e:Exp):Bool:=(usE e []).any fun o=> !mayU g r o
def expR (r:Rul):List Exp:=r.eqs.map (·.expr)++r.cons.flatMap fun c=>[c.goal,c.value]
def misU (g:Gram) (r:Rul):Bool:=(expR r).any (YT g r)
def brk (g:Gram) (r:Rul) (c:Nat):Bool:=if c=3 then unkR g r else if c=4 then misR g r else if c=5 then extR g r else misU g r
def brF (g:Gram) (c:Nat):Int:=YW g.rules.length fun i=>brk g (g.rules.getD i rulZ) c
def shpC (g:Gram):Int×Int:=
 if ¬((1≤g.syms.length∧g.syms.length≤4)∧(1≤g.rules.length∧g.rules.length≤8)) then (1,0)
 else if 0≤sfI g then (1,sfI g)
 else if ((g.syms.getD 0 symZ).atts.any fun a=>decide (a.mode=1))=true then (2,0)
 else if 0≤brF g 3 then (3,brF g 3) else if 0≤brF g 4 then (4,brF g 4) else if 0≤brF g 5 then (5,brF g 5) else if 0≤brF g 6 then (6,brF g 6) else (0,0)
def misT (g:Gram) (r:Rul):Bool:=(r.eqs.any fun q=> !decide (tyE g r q.expr=(Zu g r q.pos q.name).type)) ||
 r.cons.any fun c=> !decide (tyE g r c.goal=4)||(!decide (tyE g r c.value=2) || !decide ((fAtt (Zq g.syms c.sym).atts c.name).mode = 3))
def hOf (g:Gram) (out:List Int) (n:ByteArray):Int:=if Y5 (fun s:Sym=>decide (s.name=n)) g.syms<0 then 0 else out.getD (Y5 (fun s:Sym=>decide (s.name=n)) g.syms).toNat 0
def rchR (g:Gram) (out:List Int) (s:ByteArray) (r:Rul):Bool:=decide (r.left=s)&&r.right.all fun c=>decide (0<hOf g out c)
def rchS (g:Gram) (out:List Int) (s:ByteArray):Bool:=g.rules.any (rchR g out s)
def hNext (g:Gram) (round:Int) (out:List Int) (i:Nat):Int:=if 0<out.getD i 0 then out.getD i 0 else if rchS g out (g.syms.getD i symZ).name then round else out.getD i 0
def hIt (g:Gram):Nat→List Int
 | 0=>List.replicate g.syms.length 0
 | k+1=>(List.range g.syms.length).map (hNext g ((k:Int)+1) (hIt g k))
def hgts (g:Gram):List Int:=hIt g g.syms.length
def minH (g:Gram) (n:ByteArray):Int:=hOf g (hgts g) n
theorem hIt_len (g:Gram):∀k,(hIt g k).length = g.syms.length
 | 0=>by simp[hIt]
 | k+1=>by simp[hIt]
theorem hIt_nn (g:Gram):∀k,∀x∈hIt g k,0≤x
 | 0,x,h=>by simp[hIt] at h;omega
 | k+1,x,h=>by
  simp only[hIt,List.mem_map,List.mem_range] at h
  obtain ⟨i,hi,rfl⟩:=h
  have hg:0≤(hIt g k).getD i 0:=by
   rw[Z1 (by rw[hIt_len];exact hi)]
   exact hIt_nn g k _ (List.getElem_mem _)
  simp only[hNext]
  split
  ·exact hg
  ·split
   ·omega
   ·exact hg
def tyF (g:Gram):Int:=YW g.rules.length fun i=>misT g (g.rules.getD i rulZ)
def emF (g:Gram):Int:=YW g.syms.length fun i=>decide ((hgts g).getD i 0=0)
def chkG (g:Gram):Int×Int:=
 if (shpC g).1 ≠ 0 then shpC g else if 0≤tyF g then (7,tyF g) else if 0≤emF g then (8,emF g) else (0,0)
def accG (g:Gram):Bool:=decide ((chkG g).1 = 0)
end Go.Gh
namespace Go.Gh
theorem usE_sm {e:Exp} (h:wEx e≤1048576):(usE e []).length ≤ 1048577:=by
 have h2:=usE_len e []
 simp only[List.length_nil] at h2
 omega
def ixI (L:List Oc) (y:Oc):Int:=Y5 (fun z=>decide (z=y)) L
def dC (T:List (List Int)) (goal:Nat) (d:Nat) (out:List Int) (k:Int):Bool:=
 if d=1 then decide (k=goal) else decide (k≠goal)&&decide (0≤k)&&decide (out.getD k.toNat 0=(d:Int)-1)
def dS (T:List (List Int)) (goal:Nat) (d:Nat) (out:List Int) (i:Nat):Int:=
 if out.getD i 0≠0 then out.getD i 0 else if (T.getD i []).any (dC T goal d out) then d else 0
def dL (T:List (List Int)) (goal:Nat):Nat→List Int
 | 0=>List.replicate T.length 0
 | d+1=>(List.range T.length).map (dS T goal (d+1) (dL T goal d))
def dst (T:List (List Int)) (goal:Nat):List Int:=dL T goal T.length
end Go.Gh
namespace Go.Gh
theorem GCalls.nd {P:Program} {f:FuncId} {gs:List GV} {H:GH} {R:GV→GH→Prop} (h:(names H).Nodup → GCalls P f gs H R):GCalls P f gs H R:=
 fun w D Ω args hst hargs=>h hst.nn w D Ω args hst hargs
theorem GCalls.sub {P:Program} {f:FuncId} {gs:List GV} {H L T:GH} {R:GV→GH→Prop} (hs:subH H L) (h:GCalls P f gs (L++T) R):GCalls P f gs (H++T) R:=by
 intro w D Ω args hst hargs
 obtain ⟨Ω',h1,h2⟩:=hst.sub hs
 refine Yld.mono (fun v w' ⟨g,H',D',Ω'',k1,k2,k3,k4⟩=> ?_) (h w D Ω' args h1 hargs)
 exact ⟨g,H',D',Ω'',k1,k2,k3,⟨k4.d0,fun b hb hD=>(k4.dn b hb hD).imp id (h2 b),fun b hb hl=>h2 b (k4.on b hb hl),k4.kp.mono fun b _ hb hb'=>hb (h2 b hb'),k4.os,k4.tape,k4.output⟩⟩
theorem drop_get {α:Type} {X L:List α} {a i:Nat} (h:X.drop a=L.drop a) (ha:a≤i) (hx:i<X.length) (hl:i<L.length):X[i]=L[i]:=by
 have e:=congrArg (fun l:List α=>l[i-a]?) h
 simp only[List.getElem?_drop] at e
 rw[show a+(i-a)=i by omega,List.getElem?_eq_getElem hx,List.getElem?_eq_getElem hl] at e
 exact Option.some.inj e
theorem cpO_next {l:List Oc} {j:Nat} (h1:1≤j) (h:j<l.length):cpO (l.take (j+1))=if l[j]=l[j-1] then cpO (l.take j) else cpO (l.take j)++[l[j]]:=by
 obtain ⟨i,rfl⟩:∃i,j=i+1:=⟨j-1,by omega⟩
 exact cpO_take h
theorem cpO_short {l:List Oc} (h:l.length≤1):cpO l=l:=by
 match l,h with
 | [],_ => rfl
 | [a],_ => rfl
def occ1 (e:Exp):List Oc:=if e.kind=3 then [(e.pos,e.name)] else []
theorem occE_eq (e:Exp):occE e=occ1 e++Zj e.args:=by cases e;rfl
theorem occEL_app (al bl:List Exp):Zj (al++bl)=Zj al++Zj bl:=by
 induction al with
 | nil=>simp[Zj]
 | cons a al ih=>simp only[List.cons_append,Zj,ih,List.append_assoc]
theorem occEL_step {al:List Exp} {i:Nat} (h:i<al.length):Zj (al.take (i+1))=Zj (al.take i)++occE al[i]:=by
 have hs:∀(al:List Exp) (e:Exp),Zj (al++[e])=Zj al++occE e:=by
  intro al e
  induction al with
  | nil=>simp[Zj]
  | cons a al ih=>simp only[List.cons_append,Zj,ih,List.append_assoc]
 rw[List.take_add_one,List.getElem?_eq_getElem h]
 exact hs _ _
def cpI (L:List Oc) (m j:Nat) (X:List Oc):Prop:=1≤j∧m+1+j≤L.length∧X.length=L.length∧(cpO (L.take (m+1+j))).length ≤ m+j ∧
 X.take (cpO (L.take (m+1+j))).length = cpO (L.take (m+1+j))∧X.drop (m+j)=L.drop (m+j)
theorem cpI_eq {L X:List Oc} {m j i:Nat} (h:cpI L m j X) (hl:m+1+j<L.length) (hi:i=m+j) (h1:m+1+j<X.length) (h2:i<X.length) (he:X[m+1+j]=X[i]) :
 cpI L m (j+1) X∧cpO (L.take (m+1+(j+1)))=cpO (L.take (m+1+j)):=by
 subst hi
 obtain ⟨a1,a2,a3,a4,a5,a6⟩:=h
 have q1:X[m+j]=L[m+j]'(by omega):=drop_get a6 (Nat.le_refl _) h2 (by omega)
 have q2:X[m+1+j]=L[m+1+j]:=drop_get a6 (by omega) h1 hl
 have e:=cpO_next (l:=L) (j:=m+1+j) (by omega) hl
 rw[if_pos (by rw[←q2,he,q1];congr 1;omega)] at e
 have e':cpO (L.take (m+1+(j+1)))=cpO (L.take (m+1+j)):=e
 refine ⟨⟨by omega,by omega,a3,by rw[e'];omega,by rw[e'];exact a5,?_⟩,e'⟩
 have:=congrArg (List.drop 1) a6
 simpa[List.drop_drop,Nat.add_assoc] using this
theorem cpI_ne {L X:List Oc} {m j i:Nat} (h:cpI L m j X) (hl:m+1+j<L.length) (hi:i=m+j) (h1:m+1+j<X.length) (h2:i<X.length) (he:X[m+1+j]≠X[i]) :
 cpI L m (j+1) (X.set (cpO (L.take (m+1+j))).length X[m+1+j])∧(cpO (L.take (m+1+(j+1)))).length = (cpO (L.take (m+1+j))).length + 1:=by
 subst hi
 obtain ⟨a1,a2,a3,a4,a5,a6⟩:=h
 have q1:X[m+j]=L[m+j]'(by omega):=drop_get a6 (Nat.le_refl _) h2 (by omega)
 have q2:X[m+1+j]=L[m+1+j]:=drop_get a6 (by omega) h1 hl
 have e:=cpO_next (l:=L) (j:=m+1+j) (by omega) hl
 have hne:¬L[m+1+j]=L[m+1+j-1]'(by omega):=fun q=>he (by
  rw[q2,q1,q];congr 1;omega)
 rw[if_neg hne] at e
 have e':cpO (L.take (m+1+(j+1)))=cpO (L.take (m+1+j))++[L[m+1+j]]:=e
 have el:(cpO (L.take (m+1+(j+1)))).length = (cpO (L.take (m+1+j))).length + 1:=by rw[e'];simp
 refine ⟨⟨by omega,by omega,by simpa using a3,by rw[el];omega,?_,?_⟩,el⟩
 ·rw[el,e',List.take_add_one,List.getElem?_set_self (by omega),List.take_set_of_le (Nat.le_refl _),a5,q2]
  rfl
 ·rw[List.drop_set_of_lt (by omega)]
  have:=congrArg (List.drop 1) a6
  simpa[List.drop_drop,Nat.add_assoc] using this
end Go.Gh
namespace Go.Gh
theorem bor_TS {H:GH} {r n:Nat} {l:List ByteArray} (hr:ZU H r=some (1,l.map T)) (hn:l.length=n):Bor H (.own r 1 0 n) (TS l):=Bor.allM (fun _ => rfl) hr hn
theorem bor_OcS {H:GH} {r n:Nat} {l:List Oc} (hr:ZU H r=some (2,l.map Occ)) (hn:l.length=n):Bor H (.own r 2 0 n) (OcS l):=Bor.allM (fun _ => rfl) hr hn
theorem bor_ExS {H:GH} {r n:Nat} {l:List Exp} (hr:ZU H r=some (7,l.map Ex)) (hn:l.length=n):Bor H (.own r 7 0 n) (ExS l):=Bor.allM view_Ex hr hn
theorem symV_a {s:Sym} {i:Nat} (h:i<s.atts.length) (hb:attV s.atts[i]=false):symV s=false:=by
 simp only[symV,all_no h hb,Bool.false_and]
theorem symV_d {s:Sym} {i:Nat} (h:i<s.atts.length) (hb:dupA s.atts i=true):symV s=false:=by
 simp only[symV,rngAll_no (p:=fun i=> !dupA s.atts i) h (by simp[hb]),Bool.false_and,Bool.and_false]
theorem symV_ok {s:Sym} (h1:∀a∈s.atts,attV a=true) (h2:∀j,j<s.atts.length→dupA s.atts j=false):symV s=(Zx s.name&&decide (s.atts.length≤4)):=by
 have e:=rngAll_yes (n:=s.atts.length) (p:=fun i=> !dupA s.atts i) (fun j hj=>by simp[h2 j hj])
 simp only[symV,all_yes h1,e,Bool.true_and]
def dstS (l:List ByteArray):Bool:=(List.range l.length).all fun i=> !hasS (l.take i) (l.getD i noS)
theorem dstS_no {l:List ByteArray} {i:Nat} (h:i<l.length) (hb:hasS (l.take i) l[i]=true):dstS l=false:=
 rngAll_no (p:=fun i=> !hasS (l.take i) (l.getD i noS)) h (by rw[Z1 h,hb];rfl)
theorem dstS_yes {l:List ByteArray} (h:∀j (hj:j<l.length),hasS (l.take j) l[j]=false):dstS l=true:=
 rngAll_yes (p:=fun i=> !hasS (l.take i) (l.getD i noS)) (fun j hj=>by rw[Z1 hj,h j hj];rfl)
theorem hasS_map {α:Type} (f:α→ByteArray) (l:List α) (s:ByteArray):hasS (l.map f) s=l.any fun o=>decide (f o=s):=by
 simp only[hasS,List.any_map];rfl
theorem dupA_eq {l:List Att} {i:Nat} (h:i<l.length):dupA l i=(l.take i).any fun o=>decide (o.name=l[i].name):=by
 simp only[dupA,Z1 h]
theorem dstS_atts (l:List Att):dstS (l.map (·.name))=(List.range l.length).all fun i=> !dupA l i:=by
 simp only[dstS,List.length_map]
 apply Bool.eq_iff_iff.2
 simp only[List.all_eq_true,List.mem_range]
 constructor
 ·intro h j hj
  have:=h j hj
  rw[←List.map_take,hasS_map,Z1 (by simpa using hj),List.getElem_map] at this
  rw[dupA_eq hj];exact this
 ·intro h j hj
  have:=h j hj
  rw[←List.map_take,hasS_map,Z1 (by simpa using hj),List.getElem_map]
  rw[dupA_eq hj] at this;exact this
theorem symV_spec {s:Sym} (h1:∀a∈s.atts,attV a=true):symV s=(Zx s.name&&(decide (s.atts.length≤4)&&dstS (s.atts.map (·.name)))):=by
 rw[dstS_atts]
 simp only[symV,all_yes h1,Bool.true_and]
 cases Zx s.name<;>cases (List.range s.atts.length).all fun i=> !dupA s.atts i<;>simp
theorem rulV_r {r:Rul} {i:Nat} (h:i<r.right.length) (hb:Zx r.right[i]=false):rulV r=false:=by
 simp only[rulV,all_no h hb,Bool.false_and,Bool.and_false]
theorem rulV_e {r:Rul} {i:Nat} (h:i<r.eqs.length) (hb:eqnV r.right.length r.eqs[i]=false):rulV r=false:=by
 simp only[rulV,all_no h hb,Bool.false_and,Bool.and_false]
theorem rulV_c {r:Rul} {i:Nat} (h:i<r.cons.length) (hb:conV r.right.length r.cons[i]=false):rulV r=false:=by
 simp only[rulV,all_no h hb,Bool.false_and,Bool.and_false]
theorem rulV_h {r:Rul} (h:¬(Zx r.name=true∧Zx r.left=true∧r.right.length≤3∧r.cons.length≤2)):rulV r=false:=by
 cases e:rulV r with
 | false=>rfl
 | true=>
  simp only[rulV,Bool.and_eq_true,decide_eq_true_eq] at e
  exact absurd ⟨e.1,e.2.1,e.2.2.1,e.2.2.2.1⟩ h
theorem rulV_ok {r:Rul} (h:Zx r.name=true∧Zx r.left=true∧r.right.length≤3∧r.cons.length≤2) (h1:∀s∈r.right,Zx s=true) (h2:∀q∈r.eqs,eqnV r.right.length q=true) (h3:∀c∈r.cons,conV r.right.length c=true):rulV r=true:=by
 simp only[rulV,Bool.and_eq_true,decide_eq_true_eq,List.all_eq_true]
 exact ⟨h.1,h.2.1,h.2.2.1,h.2.2.2,h1,h2,h3⟩
theorem rulV_pos {r:Rul} (h:rulV r=true):∀q∈r.eqs,0≤q.pos∧q.pos≤r.right.length:=by
 intro q hq
 simp only[rulV,Bool.and_eq_true,decide_eq_true_eq,List.all_eq_true] at h
 have:=h.2.2.2.2.2.1 q hq
 simp only[eqnV,Bool.and_eq_true,decide_eq_true_eq] at this
 exact this.2.2
theorem symB_eq {g:Gram} {i:Nat} (h:i<g.syms.length):symB g i=(!symV g.syms[i]||(g.syms.take i).any fun o=>decide (o.name=g.syms[i].name)):=by
 simp only[symB,Z1 h]
theorem rulB_eq {g:Gram} {i:Nat} (h:i<g.rules.length):rulB g i=(!rulV g.rules[i]||(g.rules.take i).any fun o=>decide (o.name=g.rules[i].name)):=by
 simp only[rulB,Z1 h]
theorem sfI_s {g:Gram} {i:Nat} (h:i<g.syms.length) (hb:symB g i=true) (hn:∀j,j<i→symB g j=false):sfI g=i:=by
 have e:=firstI_hit h hb hn
 simp only[sfI,e]
 rw[if_pos (by omega)]
theorem sfI_r {g:Gram} {i:Nat} (hs:∀j,j<g.syms.length→symB g j=false) (h:i<g.rules.length) (hb:rulB g i=true) (hn:∀j,j<i→rulB g j=false):sfI g=i:=by
 have e:=firstI_hit h hb hn
 simp only[sfI,Yo hs,e]
 rw[if_neg (by omega)]
theorem sfI_n {g:Gram} (hs:∀j,j<g.syms.length→symB g j=false) (hn:∀j,j<g.rules.length→rulB g j=false):sfI g = -1:=by
 simp only[sfI,Yo hs,Yo hn]
 rw[if_neg (by omega)]
theorem sfI_no {g:Gram} (h:¬0≤sfI g):(∀j,j<g.syms.length→symB g j=false)∧∀j,j<g.rules.length→rulB g j=false:=by
 unfold sfI at h
 split at h
 ·omega
 ·rename_i h1
  have e1:YW g.syms.length (symB g) = -1:=by rcases Yp g.syms.length (symB g) with h2|h2<;>omega
  have e2:YW g.rules.length (rulB g) = -1:=by rcases Yp g.rules.length (rulB g) with h2|h2<;>omega
  exact ⟨fun j hj=>firstI_no e1 hj,fun j hj=>firstI_no e2 hj⟩
theorem hasO_hit {l:List Oc} {o:Oc} {i:Nat} (h:i<l.length) (e:l[i]=o):hasO l o=true:=
 Yq (p:=fun y=>decide (y=o)) h (by simp[e])
theorem hasO_none {l:List Oc} {o:Oc} (h:∀y∈l,decide (y=o)=false):hasO l o=false:=any_no h
theorem reqP_take {g:Gram} {r:Rul} {pos:Nat} {m:Int} (hm:m=if pos=0 then 2 else 1) (l:List Att) {i:Nat} (h:i<l.length) :
 (((l.take (i+1)).filter fun a=>decide (a.mode=m)).map fun a=>((pos:Int),a.name))=(((l.take i).filter fun a=>decide (a.mode=m)).map fun a=>((pos:Int),a.name))++(if l[i].mode = m then [((pos:Int),l[i].name)] else []):=by
 rw[List.take_add_one,List.getElem?_eq_getElem h,List.filter_append,List.map_append]
 by_cases e:l[i].mode = m<;>simp[e]
theorem unkR_no {g:Gram} {r:Rul} {i:Nat} (h:i<r.right.length+1) (hb:hSym g.syms (Zz r i)=false):unkR g r=true:=by
 simp only[unkR,rngAll_no (p:=fun pos:Nat=>hSym g.syms (Zz r pos)) h hb,Bool.not_false]
theorem unkR_ok {g:Gram} {r:Rul} (h:∀j,j<r.right.length+1→hSym g.syms (Zz r (j:Nat))=true):unkR g r=false:=by
 simp only[unkR,rngAll_yes (p:=fun pos:Nat=>hSym g.syms (Zz r pos)) h,Bool.not_true]
theorem eqnF_any (r:Rul) (o:Oc):(eqnF r o).isSome = r.eqs.any fun q=>decide (q.pos=o.1∧q.name=o.2):=by
 unfold eqnF
 induction r.eqs with
 | nil=>rfl
 | cons q l ih=>
  simp only[List.find?_cons,List.any_cons]
  cases decide (q.pos=o.1∧q.name=o.2) with
  | true=>rfl
  | false=>rw[Bool.false_or,←ih]
theorem extR_no {g:Gram} {r:Rul} {i:Nat} (h:i<r.eqs.length) (hb:hasO (reqO g r) (atQ r.eqs[i])=false∨hasO ((r.eqs.take i).map atQ) (atQ r.eqs[i])=true):extR g r=true:=by
 have:=rngAll_no (n:=r.eqs.length) (i:=i) (p:=fun i=>hasO (reqO g r) ((r.eqs.map atQ).getD i (0,noS)) && !hasO ((r.eqs.map atQ).take i) ((r.eqs.map atQ).getD i (0,noS))) h (by
  rw[Z1 (by simpa using h),List.getElem_map,←List.map_take]
  rcases hb with hb|hb
  ·rw[hb];rfl
  ·rw[hb,Bool.not_true,Bool.and_false])
 simp only[extR,this,Bool.not_false]
theorem extR_ok {g:Gram} {r:Rul} (h:∀j (hj:j<r.eqs.length),hasO (reqO g r) (atQ r.eqs[j])=true∧hasO ((r.eqs.take j).map atQ) (atQ r.eqs[j])=false):extR g r=false:=by
 have:=rngAll_yes (n:=r.eqs.length) (p:=fun i=>hasO (reqO g r) ((r.eqs.map atQ).getD i (0,noS)) && !hasO ((r.eqs.map atQ).take i) ((r.eqs.map atQ).getD i (0,noS))) (fun i hi=>by
  rw[Z1 (by simpa using hi),List.getElem_map,←List.map_take,(h i hi).1,(h i hi).2];rfl)
 simp only[extR,this,Bool.not_true]
theorem hasO_map (l:List Eqn) (o:Oc):hasO (l.map atQ) o=l.any fun q=>decide (q.pos=o.1∧q.name=o.2):=by
 simp only[hasO,List.any_map]
 congr 1
 funext q
 simp only[Function.comp,atQ,Prod.ext_iff]
theorem reqA_len {g:Gram} (hg:Zw g) (r:Rul):∀n,(Zs g r n).length ≤ n * 1048576
 | 0=>by simp[Zs]
 | n+1=>by
  have h1:=reqA_len hg r n
  have h2:(reqP g r n).length ≤ 1048576:=by
   have h3:=List.length_filter_le (fun a:Att=>decide (a.mode=if n=0 then 2 else 1)) (Zq g.syms (Zz r n)).atts
   have h4:=YB hg (Zz r n)
   unfold smSy at h4
   simp only[reqP,List.length_map]
   omega
  simp only[Zs,List.length_append]
  omega
theorem rulV_len {r:Rul} (h:rulV r=true):r.right.length≤3:=by
 simp only[rulV,Bool.and_eq_true,decide_eq_true_eq] at h
 exact h.2.2.1
theorem rul_ok {g:Gram} (h:¬0≤sfI g) {j:Nat} (hj:j<g.rules.length):rulV g.rules[j]=true:=by
 have:=(sfI_no h).2 j hj
 rw[rulB_eq hj,Bool.or_eq_false_iff] at this
 simpa using this.1
def cfl (l:List Con):List Exp:=l.flatMap fun c=>[c.goal,c.value]
theorem cfl_len (l:List Con):(cfl l).length = 2 * l.length:=by
 induction l with
 | nil=>rfl
 | cons a l ih=>simp only[cfl,List.flatMap_cons,List.length_append] at ih ⊢;rw[ih];simp;omega
theorem cfl_step {l:List Con} {i:Nat} (h:i<l.length):cfl (l.take (i+1))=cfl (l.take i)++[l[i].goal,l[i].value]:=by
 rw[List.take_add_one,List.getElem?_eq_getElem h,Option.toList_some]
 unfold cfl
 rw[List.flatMap_append]
 simp
theorem expR_eq (r:Rul):expR r=r.eqs.map (·.expr)++cfl r.cons:=rfl
theorem expR_sm {r:Rul} (h:Zk r):∀e∈expR r,wEx e≤1048576:=by
 intro e he
 rw[expR_eq,List.mem_append] at he
 rcases he with he|he
 ·obtain ⟨q,hq,rfl⟩:=List.mem_map.1 he
  exact h.2.2.2.1 q hq
 ·simp only[cfl,List.mem_flatMap] at he
  obtain ⟨c,hc,he⟩:=he
  have:=h.2.2.2.2 c hc
  simp only[List.mem_cons,List.not_mem_nil,or_false] at he
  rcases he with rfl|rfl
  ·exact this.1
  ·exact this.2
theorem misU_eq (g:Gram) (r:Rul):misU g r=((r.eqs.any fun q=>YT g r q.expr)||r.cons.any fun c=>YT g r c.goal||YT g r c.value):=by
 unfold misU
 rw[expR_eq,List.any_append,List.any_map]
 congr 1
 induction r.cons with
 | nil=>rfl
 | cons a l ih=>
  have:cfl (a::l)=[a.goal,a.value]++cfl l:=rfl
  rw[this,List.any_append,ih]
  simp[Bool.or_assoc]
theorem misU_e {g:Gram} {r:Rul} {i:Nat} (h:i<r.eqs.length) (hb:YT g r r.eqs[i].expr = true):misU g r=true:=by
 rw[misU_eq,Yq (p:=fun q:Eqn=>YT g r q.expr) h hb,Bool.true_or]
theorem misU_c {g:Gram} {r:Rul} {i:Nat} (h:i<r.cons.length) (hb:YT g r r.cons[i].goal = true∨YT g r r.cons[i].value = true):misU g r=true:=by
 rw[misU_eq,Yq (p:=fun c:Con=>YT g r c.goal||YT g r c.value) h (by rcases hb with hb|hb<;>simp[hb]),Bool.or_true]
theorem misU_n {g:Gram} {r:Rul} (h1:∀q∈r.eqs,YT g r q.expr=false) (h2:∀c∈r.cons,(YT g r c.goal||YT g r c.value)=false):misU g r=false:=by
 rw[misU_eq,any_no (p:=fun q:Eqn=>YT g r q.expr) h1,any_no (p:=fun c:Con=>YT g r c.goal||YT g r c.value) h2];rfl
theorem misT_e {g:Gram} {r:Rul} {i:Nat} (h:i<r.eqs.length) (hb:¬tyE g r r.eqs[i].expr = (Zu g r r.eqs[i].pos r.eqs[i].name).type):misT g r=true:=by
 unfold misT
 rw[Yq (p:=fun q:Eqn=> !decide (tyE g r q.expr=(Zu g r q.pos q.name).type)) h (by simp[hb]),Bool.true_or]
def conT (g:Gram) (r:Rul) (c:Con):Bool:= !decide (tyE g r c.goal=4)||(!decide (tyE g r c.value=2) || !decide ((fAtt (Zq g.syms c.sym).atts c.name).mode = 3))
theorem misT_c {g:Gram} {r:Rul} {i:Nat} (h:i<r.cons.length) (hb:conT g r r.cons[i]=true):misT g r=true:=by
 unfold misT
 have:=Yq (p:=conT g r) h hb
 show (_ || r.cons.any (conT g r))=true
 rw[this,Bool.or_true]
theorem misT_n {g:Gram} {r:Rul} (h1:∀q∈r.eqs,decide (tyE g r q.expr=(Zu g r q.pos q.name).type)=true) (h2:∀c∈r.cons,conT g r c=false):misT g r=false:=by
 unfold misT
 rw[any_no (p:=fun q:Eqn=> !decide (tyE g r q.expr=(Zu g r q.pos q.name).type)) (fun q hq=>by simp only[h1 q hq];rfl)]
 have:=any_no (p:=conT g r) h2
 show (_ || r.cons.any (conT g r))=false
 rw[this];rfl
theorem brF_hit {g:Gram} {i c:Nat} (h:i<g.rules.length) (hb:brk g g.rules[i] c=true) (hn:∀j (hj:j<g.rules.length),j<i→brk g g.rules[j] c=false):brF g c=i:=
 firstI_hit h (by rw[Z1 h];exact hb) (fun j hj=>by rw[Z1 (by omega)];exact hn j (by omega) hj)
theorem brF_none {g:Gram} {c:Nat} (hn:∀j (hj:j<g.rules.length),brk g g.rules[j] c=false):brF g c = -1:=
 Yo (fun j hj=>by rw[Z1 (by omega)];exact hn j (by omega))
def shpG (g:Gram):Prop:=((1≤g.syms.length∧g.syms.length≤4)∧(1≤g.rules.length∧g.rules.length≤8))∧¬0≤sfI g∧((g.syms.getD 0 symZ).atts.any fun a=>decide (a.mode=1))=false
theorem shpC_hit {g:Gram} (h:shpG g) {c i:Nat} (hc:3≤c) (hc6:c≤6) (hn:∀d,3≤d→d<c→brF g d = -1) (hb:brF g c=i):shpC g=((c:Int),(i:Int)):=by
 obtain ⟨h1,h2,h3⟩:=h
 simp only[shpC]
 rw[if_neg (by simp only[Decidable.not_not];exact h1),if_neg h2,if_neg (by rw[h3];simp)]
 rcases (by omega:c=3∨c=4∨c=5∨c=6) with e|e|e|e<;>subst e
 ·rw[hb,if_pos (by omega)];rfl
 ·rw[hn 3 (by omega) (by omega),hb,if_neg (by omega),if_pos (by omega)];rfl
 ·rw[hn 3 (by omega) (by omega),hn 4 (by omega) (by omega),hb,if_neg (by omega),if_neg (by omega),if_pos (by omega)];rfl
 ·rw[hn 3 (by omega) (by omega),hn 4 (by omega) (by omega),hn 5 (by omega) (by omega),hb,if_neg (by omega),if_neg (by omega),if_neg (by omega),if_pos (by omega)];rfl
theorem shpC_none {g:Gram} (h:shpG g) (hn:∀d,3≤d→d<7→brF g d = -1):shpC g=(0,0):=by
 obtain ⟨h1,h2,h3⟩:=h
 simp only[shpC]
 rw[if_neg (by simp only[Decidable.not_not];exact h1),if_neg h2,if_neg (by rw[h3];simp),hn 3 (by omega) (by omega),hn 4 (by omega) (by omega),hn 5 (by omega) (by omega),hn 6 (by omega) (by omega)]
 rfl
theorem shpC_b1 {g:Gram} (h:¬((1≤g.syms.length∧g.syms.length≤4)∧(1≤g.rules.length∧g.rules.length≤8))):shpC g=(1,0):=by
 simp only[shpC];rw[if_pos h]
theorem shpC_b2 {g:Gram} (h1:(1≤g.syms.length∧g.syms.length≤4)∧(1≤g.rules.length∧g.rules.length≤8)) (h:0≤sfI g):shpC g=(1,sfI g):=by
 simp only[shpC];rw[if_neg (by simp only[Decidable.not_not];exact h1),if_pos h]
theorem shpC_b3 {g:Gram} (h1:(1≤g.syms.length∧g.syms.length≤4)∧(1≤g.rules.length∧g.rules.length≤8)) (h2:¬0≤sfI g) (h:((g.syms.getD 0 symZ).atts.any fun a=>decide (a.mode=1))=true):shpC g=(2,0):=by
 simp only[shpC];rw[if_neg (by simp only[Decidable.not_not];exact h1),if_neg h2,if_pos h]
theorem shpC_ok {g:Gram} (h:(shpC g).1 = 0):shpG g:=by
 unfold shpG
 by_cases h1:(1≤g.syms.length∧g.syms.length≤4)∧(1≤g.rules.length∧g.rules.length≤8)
 ·refine ⟨h1,?_⟩
  by_cases h2:0≤sfI g
  ·rw[shpC_b2 h1 h2] at h;simp at h
  ·refine ⟨h2,?_⟩
   cases h3:(g.syms.getD 0 symZ).atts.any fun a=>decide (a.mode=1) with
   | false=>rfl
   | true=>rw[shpC_b3 h1 h2 h3] at h;simp at h
 ·rw[shpC_b1 h1] at h;simp at h
theorem ix_syms {g:Gram} (hs:∀j,j<g.syms.length→symB g j=false) {i:Nat} (h:i<g.syms.length):Y5 (fun s:Sym=>decide (s.name=g.syms[i].name)) g.syms=i:=by
 refine YD h (by simp) fun a ha=> ?_
 have:=hs i h
 rw[symB_eq h,Bool.or_eq_false_iff,List.any_eq_false] at this
 simpa using this.2 a ha
theorem minH_at {g:Gram} (hs:∀j,j<g.syms.length→symB g j=false) {i:Nat} (h:i<g.syms.length):minH g g.syms[i].name = (hgts g).getD i 0:=by
 simp only[minH,hOf,ix_syms hs h]
 rw[if_neg (by omega)]
 simp
theorem hgts_len (g:Gram):(hgts g).length = g.syms.length:=hIt_len g _
theorem hgts_nn (g:Gram):∀x∈hgts g,0≤x:=hIt_nn g _
theorem tyF_hit {g:Gram} {i:Nat} (h:i<g.rules.length) (hb:misT g g.rules[i]=true) (hn:∀j (hj:j<g.rules.length),j<i→misT g g.rules[j]=false):tyF g=i:=
 firstI_hit h (by rw[Z1 h];exact hb) (fun j hj=>by rw[Z1 (by omega)];exact hn j (by omega) hj)
theorem tyF_none {g:Gram} (hn:∀j (hj:j<g.rules.length),misT g g.rules[j]=false):tyF g = -1:=
 Yo (fun j hj=>by rw[Z1 (by omega)];exact hn j (by omega))
theorem emF_hit {g:Gram} {i:Nat} (h:i<g.syms.length) (hb:(hgts g).getD i 0=0) (hn:∀j,j<i→¬(hgts g).getD j 0=0):emF g=i:=
 firstI_hit h (by simpa using hb) (fun j hj=>by simpa using hn j hj)
theorem emF_none {g:Gram} (hn:∀j,j<g.syms.length→¬(hgts g).getD j 0=0):emF g = -1:=
 Yo (fun j hj=>by simpa using hn j hj)
theorem chkG_1 {g:Gram} (h:(shpC g).1 ≠ 0):chkG g=shpC g:=by simp only[chkG];rw[if_pos h]
theorem chkG_2 {g:Gram} (h:(shpC g).1 = 0) {i:Nat} (h2:tyF g=i):chkG g=(7,(i:Int)):=by
 simp only[chkG];rw[if_neg (by simpa using h),h2,if_pos (by omega)]
theorem chkG_3 {g:Gram} (h:(shpC g).1 = 0) (h1:tyF g = -1) {i:Nat} (h2:emF g=i):chkG g=(8,(i:Int)):=by
 simp only[chkG];rw[if_neg (by simpa using h),h1,h2,if_neg (by omega),if_pos (by omega)]
theorem chkG_4 {g:Gram} (h:(shpC g).1 = 0) (h1:tyF g = -1) (h2:emF g = -1):chkG g=(0,0):=by
 simp only[chkG];rw[if_neg (by simpa using h),h1,h2,if_neg (by omega),if_neg (by omega)]
end Go.Gh
namespace Go.Gh
def ltr:Nat→ByteArray
 | 0=>ByteArray.mk #[97]
 | 1=>ByteArray.mk #[98]
 | 2=>ByteArray.mk #[99]
 | _ => ByteArray.mk #[100]
def drA (i:Nat) (a:Att):Prop:=a.name=ltr i∧(1≤a.type∧a.type≤4)∧(1≤a.mode∧a.mode≤3)∧a.circ=false
def drL (l:List Att):Prop:=∀i (h:i<l.length),drA i l[i]
def drS (s:Sym):Prop:=shT s.name∧1≤s.atts.length∧s.atts.length≤4∧drL s.atts
theorem ltr_sh:∀i,shT (ltr i)
 | 0=>by decide
 | 1=>by decide
 | 2=>by decide
 | _ + 3=>by show shT (ByteArray.mk #[100]);decide
theorem drL_nil:drL []:=fun i h=>by simp at h
theorem drL_app {l:List Att} {a:Att} (h:drL l) (ha:drA l.length a):drL (l++[a]):=fun i hi=>by
 simp only[List.length_append,List.length_cons,List.length_nil] at hi
 rcases Nat.lt_or_ge i l.length with h1|h1
 ·rw[List.getElem_append_left h1];exact h i h1
 ·obtain rfl:i=l.length:=by omega
  simpa using ha
theorem drS_sh {s:Sym} (h:drS s):shSy s:=⟨h.1,h.2.1,by have:=h.2.2.1;omega,fun a ha=>by
 obtain ⟨i,hi,rfl⟩:=List.mem_iff_getElem.1 ha
 rw[(h.2.2.2 i hi).1]
 exact ltr_sh i⟩
theorem ltr_get (i:Nat) (h:i<([T (ByteArray.mk #[97]),T (ByteArray.mk #[98]),T (ByteArray.mk #[99]),T (ByteArray.mk #[100])]:List GV).length) :
 ([T (ByteArray.mk #[97]),T (ByteArray.mk #[98]),T (ByteArray.mk #[99]),T (ByteArray.mk #[100])]:List GV)[i]'h = T (ltr i):=by
 have:i=0∨i=1∨i=2∨i=3:=by simp at h;omega
 rcases this with rfl|rfl|rfl|rfl<;>rfl
theorem nxAtt {ι:Type} {E:ι→Env} {G:ι→GH} {μ:ι→Nat} {i:ι} {e:Env} {q:Nat} {X:List GV} {nm:ByteArray} {t m:Int} {R:GH} (h:∀a:Att,a=⟨nm,t,m,false⟩→Nx E G μ i e ((q,4,X++[At a])::R)) :
 Nx E G μ i e ((q,4,X++[.agg [T nm,I t,I m,B false]])::R):=h _ rfl
abbrev RuX (r:Rul) (Y Z:GV):GV:= .agg [T r.name,T r.left,TS r.right,B r.lit,Y,Z]
def ofT (kind:Int) (pos:Nat) (a:Att):Bool:=decide (a.type=kind∧a.mode=if pos=0 then 1 else 2)
def ofP (g:Gram) (r:Rul) (kind:Int) (pos:Nat):List Oc:=((Zq g.syms (Zz r pos)).atts.filter (ofT kind pos)).map fun a=>((pos:Int),a.name)
def ofA (g:Gram) (r:Rul) (kind:Int):Nat→List Oc
 | 0=>[]
 | n+1=>ofA g r kind n++ofP g r kind n
def ofO (g:Gram) (r:Rul) (kind:Int):List Oc:=ofA g r kind (r.right.length+1)
theorem ofP_take {p:Att→Bool} {pos:Nat} (l:List Att) {i:Nat} (h:i<l.length) :
 (((l.take (i+1)).filter p).map fun a=>((pos:Int),a.name))=(((l.take i).filter p).map fun a=>((pos:Int),a.name))++(if p l[i]=true then [((pos:Int),l[i].name)] else []):=by
 rw[List.take_add_one,List.getElem?_eq_getElem h,List.filter_append,List.map_append]
 by_cases e:p l[i]=true<;>simp[e]
theorem ofA_len {g:Gram} (hg:Zw g) (r:Rul) (kind:Int):∀n,(ofA g r kind n).length ≤ n * 1048576
 | 0=>by simp[ofA]
 | n+1=>by
  have h1:=ofA_len hg r kind n
  have h2:(ofP g r kind n).length ≤ 1048576:=by
   have h3:=List.length_filter_le (ofT kind n) (Zq g.syms (Zz r n)).atts
   have h4:=YB hg (Zz r n)
   unfold smSy at h4
   simp only[ofP,List.length_map]
   omega
  simp only[ofA,List.length_append]
  omega
theorem fSym_sh {l:List Sym} (h:∀s∈l,shSy s) (n:ByteArray):∀a∈(Zq l n).atts,shT a.name:=by
 rcases fSym_mem l n with h1|h1
 ·exact (h _ h1).2.2.2
 ·rw[h1];simp[symZ]
theorem ofA_sh {g:Gram} (h:∀s∈g.syms,shSy s) (r:Rul) (kind:Int):∀n,∀o∈ofA g r kind n,shT o.2
 | 0,o,ho=>by simp[ofA] at ho
 | n+1,o,ho=>by
  simp only[ofA,List.mem_append] at ho
  rcases ho with ho|ho
  ·exact ofA_sh h r kind n o ho
  ·simp only[ofP,List.mem_map,List.mem_filter] at ho
   obtain ⟨a,⟨ha,_⟩,rfl⟩:=ho
   exact fSym_sh h _ a ha
theorem reqA_sh {g:Gram} (h:∀s∈g.syms,shSy s) (r:Rul):∀n,∀o∈Zs g r n,shT o.2
 | 0,o,ho=>by simp[Zs] at ho
 | n+1,o,ho=>by
  simp only[Zs,List.mem_append] at ho
  rcases ho with ho|ho
  ·exact reqA_sh h r n o ho
  ·simp only[reqP,List.mem_map,List.mem_filter] at ho
   obtain ⟨a,⟨ha,_⟩,rfl⟩:=ho
   exact fSym_sh h _ a ha
theorem callA.ex {P:Program} {f:FuncId} {gs:List GV} {R:GV→GH→Prop} {K:Env→GH→Prop} {is:List GI} {env:Env} {H:GH} {d:Option Nat} (h:GCalls P f gs H (fun g H'=>∃H1,R g H1∧H'=H1++H))
 (hk:∀g H1,R g H1→(names (H1++H)).Nodup → Z3 P is K (gput env d g) (H1++H)):callA P f (some gs) d is K env H:=⟨R,h,hk⟩
end Go.Gh
namespace Go.Gh
abbrev RuB (r:Rul) (b:Bool) (Y Z:GV):GV:= .agg [T r.name,T r.left,TS r.right,B b,Y,Z]
theorem ofA_lit (g:Gram) (r:Rul) (b:Bool) (kind:Int):∀n,ofA g { r with lit:=b } kind n=ofA g r kind n
 | 0=>rfl
 | n+1=>by simp only[ofA,ofA_lit g r b kind n];rfl
theorem ofO_lit (g:Gram) (r:Rul) (b:Bool) (kind:Int):ofO g { r with lit:=b } kind=ofO g r kind:=ofA_lit g r b kind _
theorem smRu_lit {r:Rul} (h:Zk r) (b:Bool):Zk { r with lit:=b }:=h
end Go.Gh
namespace Go.Gh
theorem fSym_len5 {l:List Sym} (h:∀s∈l,shSy s) (n:ByteArray):(Zq l n).atts.length ≤ 5:=by
 rcases fSym_mem l n with h1|h1
 ·exact (h _ h1).2.2.1
 ·rw[h1];simp[symZ]
theorem reqA_len5 {g:Gram} (h:∀s∈g.syms,shSy s) (r:Rul):∀n,(Zs g r n).length ≤ n * 5
 | 0=>by simp[Zs]
 | n+1=>by
  have h1:=reqA_len5 h r n
  have h2:(reqP g r n).length ≤ 5:=by
   have h3:=List.length_filter_le (fun a:Att=>decide (a.mode=if n=0 then 2 else 1)) (Zq g.syms (Zz r n)).atts
   have h4:=fSym_len5 h (Zz r n)
   simp only[reqP,List.length_map]
   omega
  simp only[Zs,List.length_append]
  omega
abbrev QnN (p:Int) (m:ByteArray) (e:Exp):GV:= .agg [I p,T m,I e.kind,I e.n,I e.pos,I e.type,T e.sym,T e.name,.val (.slice none 0 0)]
theorem MV.qnn {p:Int} {m:ByteArray} {e:Exp} (h:e.args=[]):∀w D v F,MV w D (QnN p m e) v F→MV w D (Qn ⟨p,m,e⟩) v F:=fun w D v F hm=>by
 have:=MV.fld (j:=8) (g':= .sl 7 []) rfl MV.nil_sl v F hm
 show MV w D (.agg [I p,T m,I e.kind,I e.n,I e.pos,I e.type,T e.sym,T e.name,.sl 7 (e.args.map Ex)]) v F
 rw[h]
 exact this
theorem FE.qn {env:Env} {q:Nat} {L:List GV} {p:Int} {m:ByteArray} {e:Exp} {H:GH} (h:e.args=[]):FE env ((q,9,L++[QnN p m e])::H) env ((q,9,L++[Qn ⟨p,m,e⟩])::H):=by
 have:=FE.exch (env:=env) (H:=(q,9,L++[QnN p m e])::H) (r:=q) (sz:=9) (i:=L.length) (es:=L++[QnN p m e]) (e:=QnN p m e) (e':=Qn ⟨p,m,e⟩) (by simp[ZU]) (by simp) (MV.qnn h)
 simpa[ZD] using this
end Go.Gh
namespace Go.Gh
def rchP (g:Gram) (out:List Int) (s:ByteArray) (r:Rul) (k:Nat):Bool:=decide (r.left=s)&&(r.right.take k).all fun c=>decide (0<hOf g out c)
theorem rchP_step {g:Gram} {out:List Int} {s:ByteArray} {r:Rul} {k:Nat} (h:k<r.right.length):rchP g out s r (k+1)=(rchP g out s r k&&decide (0<hOf g out r.right[k])):=by
 unfold rchP
 rw[List.take_add_one,List.getElem?_eq_getElem h,Option.toList_some,List.all_append,Bool.and_assoc]
 simp
theorem rchP_end (g:Gram) (out:List Int) (s:ByteArray) (r:Rul):rchP g out s r r.right.length=rchR g out s r:=by
 unfold rchP rchR
 rw[List.take_length]
theorem hNext_eq {g:Gram} {k i:Nat} (h:i<g.syms.length):(hIt g (k+1)).getD i 0=hNext g ((k:Int)+1) (hIt g k) i:=by
 rw[Z1 (by rw[hIt_len];exact h)]
 simp[hIt]
def nxt (g:Gram) (k i:Nat) (Y:List Int):Prop:=Y.length=g.syms.length∧∀j,j<g.syms.length→Y.getD j 0=if j<i then (hIt g (k+1)).getD j 0 else (hIt g k).getD j 0
theorem nxt_0 (g:Gram) (k:Nat):nxt g k 0 (hIt g k):=⟨hIt_len g k,fun j hj=>by simp⟩
theorem nxt_n {g:Gram} {k:Nat} {Y:List Int} (h:nxt g k g.syms.length Y):Y=hIt g (k+1):=by
 refine List.ext_getElem (by rw[h.1,hIt_len]) fun j h1 h2=> ?_
 have h3:=h.1
 have:=h.2 j (by omega)
 rw[if_pos (by omega),Z1 h1,Z1 h2] at this
 exact this
theorem nxt_keep {g:Gram} {k i:Nat} {Y:List Int} (h:nxt g k i Y) (hi:i<g.syms.length) (he:hNext g ((k:Int)+1) (hIt g k) i=(hIt g k).getD i 0):nxt g k (i+1) Y:=by
 refine ⟨h.1,fun j hj=> ?_⟩
 rw[h.2 j hj]
 by_cases e:j=i
 ·subst e
  rw[if_neg (by omega),if_pos (by omega),hNext_eq hi,he]
 ·by_cases e2:j<i
  ·rw[if_pos e2,if_pos (by omega)]
  ·rw[if_neg e2,if_neg (by omega)]
theorem nxt_set {g:Gram} {k i:Nat} {Y:List Int} {v:Int} (h:nxt g k i Y) (hi:i<g.syms.length) (he:hNext g ((k:Int)+1) (hIt g k) i=v):nxt g k (i+1) (Y.set i v):=by
 have h1:=h.1
 refine ⟨by rw[List.length_set];exact h.1,fun j hj=> ?_⟩
 rw[Z1 (by rw[List.length_set];omega),List.getElem_set]
 by_cases e:i=j
 ·subst e
  rw[if_pos rfl,if_pos (by omega),hNext_eq hi,he]
 ·rw[if_neg e,←Z1 (d:=0) (by omega),h.2 j hj]
  by_cases e2:j<i
  ·rw[if_pos e2,if_pos (by omega)]
  ·rw[if_neg e2,if_neg (by omega)]
theorem soT_E2 (a b:Exp):soT (some (7,[Ex a,Ex b])) 7 7 0 2=some [Ex a,Ex b]:=by
 simp[soT,YU,clean_Ex]
theorem soT_I {l:List Int} {n:Nat} (h:l.length=n):soT (some (1,l.map I)) 1 1 0 n=some (l.map I):=by
 subst h
 have hc:YU (l.map I)=true:=by
  induction l with
  | nil=>rfl
  | cons a l ih=>simp only[List.map_cons,YU,ih];rfl
 simp only[soT,List.drop_zero,List.length_map,Nat.zero_add,Nat.le_refl,true_and]
 rw[List.take_of_length_le (by simp),hc];simp
end Go.Gh
namespace Go.Gh
def drG (g:Gram):Prop:=shGr g∧(∀s∈g.syms,drS s)∧g.rules.length≤8∧∀r∈g.rules,r.right.length≤3
theorem drG_len {g:Gram} (h:drG g):1≤g.syms.length∧g.syms.length≤3:=⟨h.1.1.1,h.1.1.2.1⟩
def drN (x:Nod):Prop:=x.kids.length≤3∧shT x.rule
end Go.Gh
namespace Go.Gh
abbrev CoN (s m:ByteArray) (e f:Exp):GV:= .agg [T s,T m,I e.kind,I e.n,I e.pos,I e.type,T e.sym,T e.name,.val (.slice none 0 0),I f.kind,I f.n,I f.pos,I f.type,T f.sym,T f.name,.val (.slice none 0 0)]
theorem MV.con {s m:ByteArray} {e f:Exp} (he:e.args=[]) (hf:f.args=[]):∀w D v F,MV w D (CoN s m e f) v F→MV w D (Co ⟨s,m,e,f⟩) v F:=fun w D v F hm=>by
 have h1:=MV.fld (j:=15) (g':= .sl 7 []) rfl MV.nil_sl v F hm
 have h2:=MV.fld (j:=8) (g':= .sl 7 []) rfl MV.nil_sl v F h1
 show MV w D (.agg [T s,T m,I e.kind,I e.n,I e.pos,I e.type,T e.sym,T e.name,.sl 7 (e.args.map Ex),I f.kind,I f.n,I f.pos,I f.type,T f.sym,T f.name,.sl 7 (f.args.map Ex)]) v F
 rw[he,hf]
 exact h2
theorem FE.con {env:Env} {q:Nat} {L:List GV} {s m:ByteArray} {e f:Exp} {H:GH} (he:e.args=[]) (hf:f.args=[]):FE env ((q,16,L++[CoN s m e f])::H) env ((q,16,L++[Co ⟨s,m,e,f⟩])::H):=by
 have:=FE.exch (env:=env) (H:=(q,16,L++[CoN s m e f])::H) (r:=q) (sz:=16) (i:=L.length) (es:=L++[CoN s m e f]) (e:=CoN s m e f) (e':=Co ⟨s,m,e,f⟩) (by simp[ZU]) (by simp) (MV.con he hf)
 simpa[ZD] using this
def shCo (c:Con):Prop:=shT c.sym∧shT c.name∧shEx c.goal∧shEx c.value
end Go.Gh
namespace Go.Gh
abbrev Zy:GV:= .val (.slice none 0 0)
abbrev Ru0 (r:Rul):GV:=RuX r Zy Zy
theorem view_Co (c:Con):view (Co c)=Co c:=by
 have:∀l:List Exp,(l.map Ex).map view=l.map Ex:=fun l=>by rw[List.map_map];exact List.map_congr_left fun a _ => view_Ex a
 simp[view,Zm,Zo,this]
theorem view_Qn (c:Eqn):view (Qn c)=Qn c:=by
 have:∀l:List Exp,(l.map Ex).map view=l.map Ex:=fun l=>by rw[List.map_map];exact List.map_congr_left fun a _ => view_Ex a
 simp[view,Zm,Zo,this]
theorem YM {α:Type} {f:α→GV} (h:∀a,view (f a)=f a) (l:List α):(l.map f).map view=l.map f:=by
 rw[List.map_map];exact List.map_congr_left fun a _ => h a
theorem view_Sy (s:Sym):view (Sy s)=Sy s:=by
 have:=YM (f:=At) (fun a=>rfl) s.atts
 simp[view,Zm,Zo,this]
theorem view_Ru0 (r:Rul):view (Ru0 r)=Ru0 r:=by
 have:=YM (f:=T) (fun a=>rfl) r.right
 simp[view,Zm,Zo,this]
theorem view_Ru (r:Rul):view (Ru r)=Ru r:=by
 have h1:=YM (f:=T) (fun a=>rfl) r.right
 have h2:=YM view_Qn r.eqs
 have h3:=YM view_Co r.cons
 simp only[view,Zm,Zo,h1,h2,h3]
theorem FE.leaf {env:Env} {q:Nat} {L:List Rul} {a b:ByteArray} {c:Bool} {H:GH}:FE env ((q,6,L.map Ru0++[.agg [T a,T b,Zy,B c,Zy,Zy]])::H) env ((q,6,(L++[(⟨a,b,[],c,[],[]⟩:Rul)]).map Ru0)::H):=by
 have:=FE.exch (env:=env) (H:=(q,6,L.map Ru0++[.agg [T a,T b,Zy,B c,Zy,Zy]])::H) (r:=q) (sz:=6) (i:=L.length) (es:=L.map Ru0++[.agg [T a,T b,Zy,B c,Zy,Zy]]) (e:= .agg [T a,T b,Zy,B c,Zy,Zy]) (e':=Ru0 (⟨a,b,[],c,[],[]⟩:Rul)) (by simp[ZU]) (by simp)
  fun w D v F hm=>MV.fld (j:=2) (g':= .sl 1 []) rfl MV.nil_sl v F hm
 have e:(L.map Ru0++[GV.agg [T a,T b,Zy,B c,Zy,Zy]]).set L.length (Ru0 (⟨a,b,[],c,[],[]⟩:Rul))=(L++[(⟨a,b,[],c,[],[]⟩:Rul)]).map Ru0:=by
  rw[List.set_append_right _ _ (by simp)];simp
 rw[e] at this
 simpa[ZD] using this
theorem FE.ruF {env:Env} {q q3 n:Nat} {L:List Rul} {a b:ByteArray} {rs:List ByteArray} {c:Bool} {H:GH} (hne:¬q=q3) (hn:rs.length=n) :
 FE env ((q,6,L.map Ru0++[.agg [T a,T b,.own q3 1 0 n,B c,Zy,Zy]])::(q3,1,rs.map T)::H) env ((q,6,(L++[(⟨a,b,rs,c,[],[]⟩:Rul)]).map Ru0)::H):=by
 refine FE.trans (FE.closeL2 (L:=L.map Ru0) (j:=2) hne rfl (by simpa using hn)) (FE.frzV ?_)
 have h1:=YM view_Ru0 L
 have h2:=YM (f:=T) (fun a=>rfl) rs
 rw[Zo,List.map_append,h1,List.map_append]
 simp only[List.map_cons,List.map_nil,List.set,view,Zo,h2]
def shR0 (r:Rul):Prop:=shT r.name∧shT r.left∧r.right.length≤3∧∀s∈r.right,shT s
theorem shR0_sm {r:Rul} (h:shR0 r):Zk { r with eqs:=[],cons:=[] }:=⟨by have:=h.2.2.1;show r.right.length ≤ _;omega,by simp,by simp,by simp,by simp⟩
theorem mkS_size (l:List UInt8):∃s:ByteArray,GV.val (mkS l)=T s∧s.size=l.length:=⟨⟨l.toArray⟩,rfl,by show l.toArray.size = _;simp⟩
theorem drG_of {l:List Sym} {D:List Rul} (h1:1≤l.length) (h3:l.length≤3) (hd:∀s∈l,drS s) (k1:1≤D.length) (k2:D.length≤8) (hr:∀r∈D,shRu r∧r.right.length≤3):drG ⟨l,D⟩:=
 ⟨⟨⟨h1,h3,fun s hs=>drS_sh (hd s hs)⟩,k1,by show D.length≤16;omega,fun r h=>(hr r h).1⟩,hd,k2,fun r h=>(hr r h).2⟩
theorem shRu_of {r:Rul} {qs:List Eqn} {cs:List Con} (h:shR0 r) (h1:qs.length≤64) (h2:∀q∈qs,shT q.name∧shEx q.expr) (h3:cs.length≤2) (h4:∀c∈cs,shCo c):shRu { r with eqs:=qs,cons:=cs }∧({ r with eqs:=qs,cons:=cs }:Rul).right.length ≤ 3:=
 ⟨⟨h.1,h.2.1,by have:=h.2.2.1;show r.right.length≤5;omega,h.2.2.2,h1,h2,by show cs.length≤64;omega,h4⟩,h.2.2.1⟩
def goodT (b:Nat) (t:List Nod):Prop:=(∀x∈t,drN x)∧1≤t.length∧t.length≤b
theorem goodT.mono {a b:Nat} {t:List Nod} (h:goodT a t) (hab:a≤b):goodT b t:=⟨h.1,h.2.1,Nat.le_trans h.2.2 hab⟩
end Go.Gh
namespace Go.Gh
section
variable {P:Program} {cf:Cfg}
theorem gstartG {f:FuncId} {F:GFun} (hF:IsFun P f F) {cf:Cfg} {gc:GC} {gr:List GR} (hf:F=⟨cf,gc,gr⟩) {gs:List GV} {H:GH} {R:GV→GH→Prop} (hlen:gs.length≤cf.N)
 (h:GW P cf gc (GEndS gr R) (envOf gs 0) H):GCalls P f gs H R:=GCalls.start hF hf hlen (GW.mono (fun _ _ _ h=>h.ok) h)
theorem gwpS (mxd:P.follows .mixedOrders = true) {x y:GC} {Q:Exit→Env→GH→Prop} {env:Env} {H:GH} (h:gwp P cf x (thenG (GW P cf y Q) Q) env H):GW P cf (.seq x y) Q env H:=GW.seq (Zp mxd h)
theorem gwpB (mxd:P.follows .mixedOrders = true) {x:GC} {id:Nat} {Q:Exit→Env→GH→Prop} {env:Env} {H:GH} (h:gwp P cf x (blockG id Q) env H):GW P cf (.block id x) Q env H:=GW.block (Zp mxd h)
end
end Go.Gh
namespace Go.Gh
def nrE (e:Exp):Bool:=allE (fun x=> !decide (x.kind=8)) e
theorem nrE_arg {e:Exp} {i:Nat} (h:i<e.args.length) (hb:nrE e.args[i]=false):nrE e=false:=allE_no h hb
theorem nrE_end {e:Exp} (h:∀a∈e.args,nrE a=true):nrE e = !decide (e.kind=8):=allE_yes h
def noA (g:Gram):Bool:=g.syms.all fun s=>s.atts.all fun a=> !(a.circ||decide (a.mode=3))
def remQ (r:Rul):Bool:=r.eqs.any fun q=> !nrE q.expr
def remR (r:Rul):Bool:=(expR r).any fun e=> !nrE e
def hasA (g:Gram) (p:Att→Bool):Bool:=g.syms.any fun s=>s.atts.any p
def staS (g:Gram):Bool:=noA g&&(!g.rules.any remQ&&accG g)
def staI (g:Gram):Bool:=accG g&&(!g.rules.any remR&&(!(hasA g fun a=>decide (a.mode=3)) && !hasA g fun a=>a.circ))
theorem accG_ty {g:Gram} (h:accG g=true):(shpC g).1 = 0∧¬0≤tyF g:=by
 simp only[accG,decide_eq_true_eq] at h
 by_cases h1:(shpC g).1 = 0
 ·refine ⟨h1,fun h2=> ?_⟩
  simp only[chkG] at h
  rw[if_neg (by simpa using h1),if_pos h2] at h
  simp at h
 ·rw[chkG_1 h1] at h
  exact absurd h h1
theorem accG_mis {g:Gram} (h:accG g=true):∀r∈g.rules,misT g r=false:=by
 intro r hr
 have h2:=(accG_ty h).2
 obtain ⟨i,hi,rfl⟩:=List.mem_iff_getElem.1 hr
 have e:tyF g = -1:=by rcases Yp g.rules.length (fun i=>misT g (g.rules.getD i rulZ)) with h3|h3<;>unfold tyF at h2 ⊢ <;> omega
 have:=firstI_no e hi
 rwa [Z1 hi] at this
theorem misT_con {g:Gram} {r:Rul} (h:misT g r=false):∀c∈r.cons,(fAtt (Zq g.syms c.sym).atts c.name).mode = 3:=by
 intro c hc
 unfold misT at h
 rw[Bool.or_eq_false_iff,List.any_eq_false] at h
 have:=h.2
 rw[List.any_eq_false] at this
 have:=this c hc
 simp only[Bool.or_eq_true,not_or,Bool.not_eq_true,Bool.not_eq_false',decide_eq_true_eq] at this
 exact this.2.2
theorem mode3 {g:Gram} {s n:ByteArray} (h:(fAtt (Zq g.syms s).atts n).mode = 3):∃y∈g.syms,∃a∈y.atts,a.mode=3:=by
 have h1:fAtt (Zq g.syms s).atts n∈(Zq g.syms s).atts := by
  unfold fAtt at h ⊢
  cases e:(Zq g.syms s).atts.find? fun y=>decide (y.name=n) with
  | none=>rw[e] at h;simp[attZ] at h
  | some a=>exact List.mem_of_find?_eq_some e
 rcases fSym_mem g.syms s with h2|h2
 ·exact ⟨_,h2,_,h1,h⟩
 ·rw[h2] at h1;simp[symZ] at h1
theorem noA_iff {g:Gram}:noA g=(!(hasA g fun a=>decide (a.mode=3)) && !hasA g fun a=>a.circ):=by
 apply Bool.eq_iff_iff.2
 simp only[noA,hasA,List.all_eq_true,Bool.and_eq_true,Bool.not_eq_true',List.any_eq_false,Bool.not_eq_true,Bool.or_eq_false_iff,decide_eq_false_iff_not]
 constructor
 ·intro h
  exact ⟨fun s hs a ha=>(h s hs a ha).2,fun s hs a ha=>(h s hs a ha).1⟩
 ·rintro ⟨h1,h2⟩ s hs a ha
  exact ⟨h2 s hs a ha,h1 s hs a ha⟩
theorem no_cons {g:Gram} (h:accG g=true) (hn:noA g=true):∀r∈g.rules,r.cons=[]:=by
 intro r hr
 cases e:r.cons with
 | nil=>rfl
 | cons c l=>
  have h1:=misT_con (accG_mis h r hr) c (by rw[e];simp)
  obtain ⟨y,hy,a,ha,h2⟩:=mode3 h1
  have h3:=List.all_eq_true.1 hn y hy
  have h4:=List.all_eq_true.1 h3 a ha
  simp[h2] at h4
theorem any_congr' {α:Type} {p q:α→Bool} {l:List α} (h:∀a∈l,p a=q a):l.any p=l.any q:=by
 induction l with
 | nil=>rfl
 | cons a l ih=>
  simp only[List.any_cons]
  rw[h a (by simp),ih fun b hb=>h b (by simp[hb])]
theorem staI_eq (g:Gram):staI g=staS g:=by
 unfold staI staS
 rw[←noA_iff]
 cases ha:accG g with
 | false=>simp
 | true=>
  cases hn:noA g with
  | false=>simp
  | true=>
   have hc:=no_cons ha hn
   have:g.rules.any remR=g.rules.any remQ:=any_congr' fun r hr=>by
    unfold remR remQ
    rw[expR_eq,hc r hr]
    simp only[cfl,List.flatMap_nil,List.append_nil,List.any_map]
    rfl
   rw[this]
theorem noA_no {g:Gram} {i j:Nat} (h:i<g.syms.length) (h2:j<g.syms[i].atts.length) (hb:(g.syms[i].atts[j].circ || decide (g.syms[i].atts[j].mode = 3))=true):noA g=false:=
 all_no (p:=fun s:Sym=>s.atts.all fun a=> !(a.circ||decide (a.mode=3))) h (all_no h2 (by rw[hb];rfl))
end Go.Gh
namespace Go.Gh
end Go.Gh
namespace Go.Gh
end Go.Gh
namespace Go.Gh
end Go.Gh
namespace Go.Gh
end Go.Gh
namespace Go.Gh
end Go.Gh
namespace Go.Gh
end Go.Gh
namespace Go.Gh
end Go.Gh
namespace Go.Gh
end Go.Gh
namespace Go.Gh
end Go.Gh
namespace Go.Gh
end Go.Gh
namespace Go.Gh
end Go.Gh
namespace Go.Gh
end Go.Gh
namespace Go.Gh
def Wk (T:List (List Int)) (goal:Nat):Nat→Nat→Prop
 | 0,_ => False
 | 1,i=>(goal:Int)∈T.getD i []
 | d+2,i=>∃k:Nat,k<T.length∧(k:Int)∈T.getD i []∧Wk T goal (d+1) k
def Rch (T:List (List Int)) (i j:Nat):Prop:=∃d,Wk T j d i
theorem Wk_trans {T:List (List Int)} {l j e:Nat} (hj:j<T.length) (h2:Wk T l (e+1) j):∀d i,Wk T j d i→Wk T l (d+e+1) i
 | 0,_,h=>h.elim
 | 1,i,h=>by
  rw[show 1+e+1=e+2 by omega]
  exact ⟨j,hj,h,h2⟩
 | d+2,i,⟨k,hk,h3,h4⟩=>by
  have:=Wk_trans hj h2 (d+1) k h4
  rw[show d+2+e+1=(d+e+1)+2 by omega]
  exact ⟨k,hk,h3,by rw[show d+e+1+1=d+1+e+1 by omega];exact this⟩
theorem Rch.trans {T:List (List Int)} {i j l:Nat} (hj:j<T.length) (h1:Rch T i j) (h2:Rch T j l):Rch T i l:=by
 obtain ⟨d,h1⟩:=h1
 obtain ⟨e,h2⟩:=h2
 cases e with
 | zero=>exact h2.elim
 | succ e=>exact ⟨_,Wk_trans hj h2 d i h1⟩
theorem Rch.one {T:List (List Int)} {i j:Nat} (h:(j:Int)∈T.getD i []):Rch T i j:=⟨1,h⟩
end Go.Gh
namespace Go.Gh
end Go.Gh
namespace Go.Gh
theorem acc_shp {g:Gram} (h:accG g=true):(∀r∈g.rules,rulV r=true∧unkR g r=false∧misR g r=false)∧(∀s∈g.syms,symV s=true)∧((g.syms.getD 0 symZ).atts.any fun a=>decide (a.mode=1))=false∧((1≤g.syms.length∧g.syms.length≤4)∧(1≤g.rules.length∧g.rules.length≤8)):=by
 have h1:=(accG_ty h).1
 unfold shpC at h1
 split at h1
 ·simp at h1
 ·rename_i k1
  split at h1
  ·simp at h1
  ·rename_i k2
   split at h1
   ·simp at h1
   ·rename_i k3
    split at h1
    ·simp at h1
    ·rename_i k4
     split at h1
     ·simp at h1
     ·rename_i k5
      have hb:∀c,¬0≤brF g c→∀r∈g.rules,brk g r c=false:=fun c hc r hr=>by
       obtain ⟨i,hi,rfl⟩:=List.mem_iff_getElem.1 hr
       have e:brF g c = -1:=by
        rcases Yp g.rules.length (fun i=>brk g (g.rules.getD i rulZ) c) with h3|h3
        ·exact h3
        ·exact absurd h3.1 hc
       have:=firstI_no e hi
       rwa [Z1 hi] at this
      have hs:YW g.syms.length (symB g) = -1∧YW g.rules.length (rulB g) = -1:=by
       unfold sfI at k2
       rcases Yp g.syms.length (symB g) with h3|h3
       ·rw[h3] at k2
        simp only[show ¬(0:Int) ≤ -1 by omega,if_false] at k2
        rcases Yp g.rules.length (rulB g) with h4|h4
        ·exact ⟨h3,h4⟩
        ·exact absurd h4.1 k2
       ·rw[if_pos h3.1] at k2;exact absurd h3.1 k2
      refine ⟨fun r hr=>⟨?_,hb 3 k4 r hr,hb 4 k5 r hr⟩,fun s hs'=> ?_,by simpa using k3,Classical.not_not.1 k1⟩
      ·obtain ⟨i,hi,rfl⟩:=List.mem_iff_getElem.1 hr
       have:=firstI_no hs.2 hi
       unfold rulB at this
       rw[Z1 hi,Bool.or_eq_false_iff] at this
       simpa using this.1
      ·obtain ⟨i,hi,rfl⟩:=List.mem_iff_getElem.1 hs'
       have:=firstI_no hs.1 hi
       unfold symB at this
       rw[Z1 hi,Bool.or_eq_false_iff] at this
       simpa using this.1
theorem acc_em {g:Gram} (h:accG g=true):∀i,i<g.syms.length→0<(hgts g).getD i 0:=by
 have h1:=accG_ty h
 have h:(chkG g).1 = 0:=by simpa[accG] using h
 unfold chkG at h
 rw[if_neg (by simpa using h1.1),if_neg h1.2] at h
 intro i hi
 have h2:emF g = -1:=by
  rcases Yp g.syms.length (fun i=>decide ((hgts g).getD i 0=0)) with h3|h3
  ·exact h3
  ·unfold emF at h
   rw[if_pos h3.1] at h;simp at h
 have h3:=firstI_no h2 hi
 simp only[decide_eq_false_iff_not] at h3
 have h4:(hgts g).getD i 0∈hgts g:=by
  rw[Z1 (by rw[hgts,hIt_len];exact hi)];exact List.getElem_mem _
 have:=hIt_nn g _ _ h4
 omega
theorem minH_pos {g:Gram} (h:accG g=true) {n:ByteArray} (hn:hSym g.syms n=true):0<minH g n:=by
 unfold minH hOf
 have h1:0≤Y5 (fun s:Sym=>decide (s.name=n)) g.syms:=by
  have:=any_ix (fun s:Sym=>decide (s.name=n)) g.syms
  unfold hSym at hn
  rw[List.find?_isSome] at hn
  have h2:g.syms.any (fun s=>decide (s.name=n))=true:=List.any_eq_true.2 hn
  rw[h2] at this
  simpa using this
 rw[if_neg (by omega)]
 refine acc_em h _ ?_
 rcases ixOf_cases (fun s:Sym=>decide (s.name=n)) g.syms with h2|h2<;>omega
theorem types_law {g:Gram} (h:accG g=true) {r:Rul} (hr:r∈g.rules):(∀q∈r.eqs,tyE g r q.expr=(fAtt (Zq g.syms (Zz r q.pos)).atts q.name).type)∧0<minH g r.left:=by
 obtain ⟨h1,_,_,_⟩:=acc_shp h
 obtain ⟨h2,h3,h4⟩:=h1 r hr
 refine ⟨fun q hq=> ?_,minH_pos h ?_⟩
 ·have h5:=accG_mis h r hr
  unfold misT at h5
  rw[Bool.or_eq_false_iff] at h5
  have h6:=List.any_eq_false.1 h5.1 q hq
  simp only[Bool.not_eq_true',decide_eq_false_iff_not,Classical.not_not] at h6
  rw[h6]
  simp only[rulV,Bool.and_eq_true] at h2
  have h7:=List.all_eq_true.1 h2.2.2.2.2.2.1 q hq
  simp only[eqnV,Bool.and_eq_true,decide_eq_true_eq] at h7
  rw[Zu,if_pos h7.2.2]
 ·unfold unkR at h3
  have h5:=List.all_eq_true.1 (by simpa using h3:((List.range (r.right.length+1)).all fun pos=>hSym g.syms (Zz r pos))=true) 0 (by simp)
  simpa[Zz] using h5
theorem static_law {g:Gram} (h:staS g=true):(∀r∈g.rules,r.cons=[]∧∀q∈r.eqs,nrE q.expr=true)∧accG g=true:=by
 simp only[staS,Bool.and_eq_true,Bool.not_eq_true'] at h
 obtain ⟨h1,h2,h3⟩:=h
 refine ⟨fun r hr=>⟨no_cons h3 h1 r hr,fun q hq=> ?_⟩,h3⟩
 have h4:=List.any_eq_false.1 h2 r hr
 unfold remQ at h4
 simp only[List.any_eq_true,not_exists,not_and,Bool.not_eq_true',Bool.not_eq_false] at h4
 exact h4 q hq
end Go.Gh
namespace Go.Gh
end Go.Gh
namespace Go.Gh
end Go.Gh
namespace Go.Gh
end Go.Gh
namespace Go.Gh
end Go.Gh
namespace Go.Gh
@[ext] structure Edi where
 kind:Int
 node:Int
 other:Int
 lit:Int
 tree:List Nod
 deriving DecidableEq
end Go.Gh
namespace Go.Gh
inductive Fo where
 | nil:Fo
 | cons (id:Int) (rule:ByteArray) (lit:Int) (ks rest:Fo):Fo
namespace Fo
def sz:Fo→Nat
 | nil=>0
 | cons _ _ _ ks rest=>1+ks.sz+rest.sz
def strt:Fo→Int→List Int
 | nil,_ => []
 | cons _ _ _ ks rest,b=>b::rest.strt (b+1+ks.sz)
def flt:Fo→Int→Int→Int→List Nod
 | nil,_,_,_ => []
 | cons i r l ks rest,b,p,q=>⟨i,p,q,l,r,ks.strt (b+1)⟩::(ks.flt (b+1) b 1++rest.flt (b+1+ks.sz) p (q+1))
def one:Fo→Prop
 | cons _ _ _ _ nil=>True
 | _ => False
def app:Fo→Fo→Fo
 | nil,r=>r
 | cons i r l ks rest,s=>cons i r l ks (rest.app s)
end Fo
inductive Pa where
 | here:Pa
 | down (π:Pa):Pa
 | next (π:Pa):Pa
namespace Fo
def put:Fo→Pa→Fo→Fo
 | nil,_,_ => nil
 | cons _ _ _ _ rest,.here,S=>S.app rest
 | cons i r l ks rest,.down π,S=>cons i r l (ks.put π S) rest
 | cons i r l ks rest,.next π,S=>cons i r l ks (rest.put π S)
def pos:Fo→Pa→Nat
 | nil,_ => 0
 | cons ..,.here => 0
 | cons _ _ _ ks _,.down π=>1+ks.pos π
 | cons _ _ _ ks rest,.next π=>1+ks.sz+rest.pos π
def ok:Fo→Pa→Prop
 | nil,_ => False
 | cons ..,.here => True
 | cons _ _ _ ks _,.down π=>ks.ok π
 | cons _ _ _ _ rest,.next π=>rest.ok π
end Fo
namespace Fo
end Fo
end Go.Gh
namespace Go.Gh
def fitR (g:Gram) (r:ByteArray) (l:Int) (s:ByteArray):Prop:=hRul g.rules r=true∧(fRul g.rules r).left = s∧(-1000000≤l∧l≤1000000)∧((fRul g.rules r).lit = true∨(fRul g.rules r).lit = false∧l=0)
namespace Fo
def wf (g:Gram):Fo→List ByteArray→Prop
 | nil,[]=>True
 | cons _ r l ks rest,s::ss=>fitR g r l s∧ks.wf g (fRul g.rules r).right ∧ rest.wf g ss
 | _,_ => False
end Fo
end Go.Gh
namespace Go.Gh
namespace Fo
end Fo
namespace Fo
end Fo
open Fo
end Go.Gh
namespace Go.Gh
end Go.Gh
namespace Go.Gh
end Go.Gh
namespace Go.Gh
theorem HM.perm {w:World} {D:Nat→Prop} {H L:GH} (p:H.Perm L):∀{Ω:List Nat},HM w D H Ω→∃Ω',HM w D L Ω'∧Ω'.Perm Ω:=by
 induction p with
 | nil=>exact fun h=>⟨_,h,.refl _⟩
 | cons x _ ih=>
  obtain ⟨r,sz,es⟩:=x
  rintro Ω ⟨F1,F2,rfl,h1,h2⟩
  obtain ⟨Ω',h3,h4⟩:=ih h2
  exact ⟨F1++Ω',⟨F1,Ω',rfl,h1,h3⟩,h4.append_left _⟩
 | swap x y l=>
  obtain ⟨r,sz,es⟩:=x
  obtain ⟨r',sz',es'⟩:=y
  rintro Ω ⟨F1,F2,rfl,h1,F3,F4,rfl,h2,h3⟩
  exact ⟨F3++(F1++F4),⟨F3,_,rfl,h2,F1,F4,rfl,h1,h3⟩,by rw[←List.append_assoc,←List.append_assoc];exact (List.perm_append_comm).append_right _⟩
 | trans _ _ ih1 ih2=>
  intro Ω h
  obtain ⟨Ω1,h1,p1⟩:=ih1 h
  obtain ⟨Ω2,h2,p2⟩:=ih2 h1
  exact ⟨Ω2,h2,p2.trans p1⟩
theorem St.perm {w:World} {D:Nat→Prop} {H L:GH} (p:H.Perm L) {Ω:List Nat} (h:St w D H Ω):∃Ω',St w D L Ω'∧Ω'.Perm Ω:=by
 obtain ⟨Ω',h1,h2⟩:=h.hm.perm p
 exact ⟨Ω',⟨h1,h2.nodup_iff.2 h.nd,((p.map _).nodup_iff).1 h.nn,fun b hb=>h.dj b (h2.mem_iff.1 hb),h.ds⟩,h2⟩
theorem GCalls.perm {P:Program} {f:FuncId} {gs:List GV} {H L:GH} {R R':GV→GH→Prop} (p:L.Perm H) (h:GCalls P f gs H R) (hr:∀g H',R g H'→∃L',R' g L'∧H'.Perm L'):GCalls P f gs L R':=by
 intro w D Ω args hst hargs
 obtain ⟨Ω',h1,h2⟩:=hst.perm p
 refine Yld.mono (fun v w' ⟨g,H',D',Ω'',k1,k2,k3,k4⟩=> ?_) (h w D Ω' args h1 hargs)
 obtain ⟨L',q1,q2⟩:=hr g H' k1
 obtain ⟨Ω3,m1,m2⟩:=k3.perm q2
 exact ⟨g,L',D',Ω3,q1,k2,m1,
  ⟨k4.d0,fun b hb hD=>(k4.dn b hb hD).imp id (fun h=>h2.mem_iff.1 h),fun b hb hl=>h2.mem_iff.1 (k4.on b (m2.mem_iff.1 hb) hl),k4.kp.mono fun b _ hb hb'=>hb (h2.mem_iff.1 hb'),k4.os,k4.tape,k4.output⟩⟩
def inH (T:GH) (H:GH):Prop:=∀x∈T,ZU H x.1=some x.2
theorem inH.nil (H:GH):inH [] H:=fun _ h=>by cases h
theorem inH.cons {x:Nat×Nat×List GV} {T H:GH} (h:ZU H x.1=some x.2) (hT:inH T H):inH (x::T) H:=fun y hy=>by
 rcases List.mem_cons.1 hy with rfl|hy
 ·exact h
 ·exact hT y hy
theorem inH.split:∀{T H:GH},(names T).Nodup → inH T H→∃H0,H.Perm (T++H0)
 | [],H,_,_ => ⟨H,.refl _⟩
 | (r,x)::T,H,hn,h=>by
  obtain ⟨A,B,rfl,hA⟩:=hget_split (h (r,x) (by simp))
  have hn':=List.nodup_cons.1 hn
  have hT:inH T (A++B):=fun y hy=>by
   have h1:=h y (by simp[hy])
   have hne:y.1≠r:=fun e=>hn'.1 (by rw[←e];exact List.mem_map.2 ⟨y,hy,rfl⟩)
   have:∀(A:GH),ZU (A++(r,x)::B) y.1=ZU (A++B) y.1:=by
    intro A
    induction A with
    | nil=>
     show ZU ((r,x)::B) y.1=ZU B y.1
     exact hget_old (Ne.symm hne)
    | cons a A ih=>
     obtain ⟨q,z⟩:=a
     simp only[List.cons_append,ZU]
     rw[ih]
   rw[←this A]
   exact h1
  obtain ⟨H0,h0⟩:=inH.split hn'.2 hT
  exact ⟨H0,(List.perm_middle).trans (h0.cons _)⟩
def GCX (P:Program) (T:GH) (f:FuncId) (gs:List GV) (R:GV→GH→Prop):Prop:=
 ∀H,GCalls P f gs (T++H) (fun g H'=>∃H1,R g H1∧H'=H1++(T++H))
theorem GCX.at {P:Program} {T:GH} {f:FuncId} {gs:List GV} {R:GV→GH→Prop} (h:GCX P T f gs R) (hn:(names T).Nodup) {H:GH} (hT:inH T H) :
 GCalls P f gs H (fun g H'=>∃H1,R g H1∧H'=H1++H):=by
 obtain ⟨H0,h0⟩:=hT.split hn
 refine (h H0).perm h0 ?_
 rintro g H' ⟨H1,h1,rfl⟩
 exact ⟨H1++H,⟨H1,h1,rfl⟩,h0.symm.append_left _⟩
theorem GCX.mono {P:Program} {T:GH} {f:FuncId} {gs:List GV} {R R':GV→GH→Prop} (h:GCX P T f gs R) (hr:∀g H1,R g H1→R' g H1):GCX P T f gs R':=
 fun H=>(h H).mono fun g H' ⟨H1,h1,h2⟩=>⟨H1,hr g H1 h1,h2⟩
theorem GCX.of {P:Program} {x:Nat×Nat×List GV} {f:FuncId} {gs:List GV} {R:GV→GH→Prop}
 (h:∀H,GCalls P f gs (x::H) (fun g H'=>∃G H1 T L,R G H1∧Bor L g G∧H'=T++H∧subH T (L++(H1++[x])))):GCX P [x] f gs R:=
 fun H=>(h H).fr fun g H' ⟨G,H1,T,L,h1,h2,h3,h4⟩=>by
  subst h3
  refine ⟨G,H1++([x]++H),FR.trans (FR.perm h4) ?_,H1,h1,rfl⟩
  rw[List.append_assoc,List.append_assoc]
  exact FR.front h2
theorem GCX.of2 {P:Program} {x y:Nat×Nat×List GV} {f:FuncId} {gs:List GV} {R:GV→GH→Prop}
 (h:∀H,x.1≠y.1→GCalls P f gs (x::y::H) (fun g H'=>∃G H1 T L,R G H1∧Bor L g G∧H'=T++H∧subH T (L++(H1++[x,y])))):GCX P [x,y] f gs R:=fun H=>by
 have h1:∀hne:x.1≠y.1,GCalls P f gs ([x,y]++H) (fun g H'=>∃H1,R g H1∧H'=H1++([x,y]++H)):=fun hne=>(h H hne).fr fun g H' ⟨G,H1,T,L,h1,h2,h3,h4⟩=>by
  subst h3
  refine ⟨G,H1++([x,y]++H),FR.trans (FR.perm h4) ?_,H1,h1,rfl⟩
  rw[List.append_assoc,List.append_assoc]
  exact FR.front h2
 intro w D Ω args hst hargs
 exact h1 (by have:=hst.nn;simp[names] at this;exact this.1.1) w D Ω args hst hargs
abbrev PuR (P:Program) (x:Nat×Nat×List GV) (f:FuncId) (gs:List GV) (G:GV):Prop:=GCX P [x] f gs (fun g H1=>g=G∧H1=[])
theorem PuR.of {P:Program} {x:Nat×Nat×List GV} {f:FuncId} {gs:List GV} {G:GV}
 (h:∀H,GCalls P f gs (x::H) (fun g H'=>∃T L,Bor L g G∧H'=T++H∧subH T (L++[x]))):PuR P x f gs G:=
 GCX.of fun H=>(h H).mono fun g H' ⟨T,L,h2,h3,h4⟩=>⟨G,[],T,L,⟨rfl,rfl⟩,h2,h3,h4⟩
theorem PuR.of0 {P:Program} {x:Nat×Nat×List GV} {f:FuncId} {gs:List GV} {G:GV}
 (h:∀H,GCalls P f gs (x::H) (fun g H'=>g=G∧H'=x::H)):PuR P x f gs G:=
 fun H=>(h H).mono fun g H' ⟨h1,h2⟩=>⟨[],⟨h1,rfl⟩,h2⟩
theorem PuR.min {P:Program} {x:Nat×Nat×List GV} {f:FuncId} {gs:List GV} {G:GV} (h:GCalls P f gs [x] (fun g H'=>g=G∧H'=[x])):PuR P x f gs G:=
 fun H=>(GCalls.frame1 (H1:=H) h).perm (by exact List.perm_append_comm) fun g H' ⟨h1,h2⟩=>⟨[x]++H,⟨[],⟨h1,rfl⟩,rfl⟩,by rw[h2];exact List.perm_append_comm⟩
theorem PuR.minB {P:Program} {x:Nat×Nat×List GV} {f:FuncId} {gs:List GV} {G:GV} (h:GCalls P f gs [x] (fun g H'=>∃L,Bor L g G∧subH H' (L++[x]))):PuR P x f gs G:=
 PuR.min (h.fr fun g H' ⟨L,h1,h2⟩=>⟨G,[x],FR.trans (FR.perm0 h2) (FR.front h1),rfl,rfl⟩)
theorem one_nd (x:Nat×Nat×List GV):(names [x]).Nodup := by simp[names]
theorem callS.eqR {P:Program} {x:Nat×Nat×List GV} {K:Env→GH→Prop} {is:List GI} {env:Env} {H:GH} {d:Option Nat} {det:Bool} {f:FuncId} {gs:List GV} {G:GV} (h:PuR P x f gs G) (hx:ZU H x.1=some x.2)
 (hk:Z3 P is K (gput env d G) H):callS P det f (some gs) d is K env H:=by
 have h1:GCalls P f gs H (fun g H'=>g=G∧H'=H):=(GCX.at h (one_nd x) (.cons hx (.nil _))).mono fun g H' ⟨H1,⟨e1,e2⟩,e3⟩=>⟨e1,by rw[e3,e2];rfl⟩
 unfold callS
 cases det
 ·exact ⟨fun g H'=>g=G∧H'=H,h1,fun g H' ⟨e1,e2⟩ _ => by subst e1;subst e2;exact hk⟩
 ·exact ⟨G,h1,hk⟩
theorem callA.eqR {P:Program} {x:Nat×Nat×List GV} {K:Env→GH→Prop} {is:List GI} {env:Env} {H:GH} {d:Option Nat} {f:FuncId} {gs:List GV} {G:GV} (h:PuR P x f gs G) (hx:ZU H x.1=some x.2)
 (hk:Z3 P is K (gput env d G) H):callA P f (some gs) d is K env H:=
 ⟨fun g H1=>g=G∧H1=[],(GCX.at h (one_nd x) (.cons hx (.nil _))).mono fun g H' ⟨H1,⟨e1,e2⟩,e3⟩=>⟨H1,⟨e1,e2⟩,e3⟩,fun g H1 ⟨e1,e2⟩ _ => by subst e1;subst e2;exact hk⟩
def DcR (P:Program) (y:Nat×Nat×List GV) (f:FuncId) (gs:List GV) (R:GV→GH→Prop):Prop:=∀rc,GCX P [(rc,3,[.cur]),y] f (.ptr rc 3 0 0::gs) R
abbrev DvR (P:Program) (y:Nat×Nat×List GV) (f:FuncId) (gs:List GV) (R:GV→Prop):Prop:=DcR P y f gs (fun g H1=>R g∧H1=[])
theorem DcR.of {P:Program} {y:Nat×Nat×List GV} {f:FuncId} {gs:List GV} {R:GV→GH→Prop}
 (h:∀rc H,rc≠y.1→GCalls P f (.ptr rc 3 0 0::gs) ((rc,3,[.cur])::y::H) (fun g H'=>∃G H1 T L,R G H1∧Bor L g G∧H'=T++H∧subH T (L++(H1++[(rc,3,[.cur]),y])))):DcR P y f gs R:=
 fun rc=>GCX.of2 fun H hne=>h rc H hne
theorem DvR.of {P:Program} {y:Nat×Nat×List GV} {f:FuncId} {gs:List GV} {R:GV→Prop}
 (h:∀rc H,rc≠y.1→GCalls P f (.ptr rc 3 0 0::gs) ((rc,3,[.cur])::y::H) (fun g H'=>∃G T L,R G∧Bor L g G∧H'=T++H∧subH T (L++[(rc,3,[.cur]),y]))):DvR P y f gs R:=
 DcR.of fun rc H hne=>(h rc H hne).mono fun g H' ⟨G,T,L,h1,h2,h3,h4⟩=>⟨G,[],T,L,⟨h1,rfl⟩,h2,h3,h4⟩
theorem DcR.at {P:Program} {y:Nat×Nat×List GV} {f:FuncId} {gs:List GV} {R:GV→GH→Prop} (h:DcR P y f gs R) {rc:Nat} {H:GH} (hr:ZU H rc=some (3,[.cur])) (hy:ZU H y.1=some y.2) (h3:y.2.1≠3) :
 GCalls P f (.ptr rc 3 0 0::gs) H (fun g H'=>∃H1,R g H1∧H'=H1++H):=
 (h rc).at (by
  have:rc≠y.1:=fun e=>by rw[←e,hr] at hy;exact h3 (by rw[←Option.some.inj hy])
  simp[names,this]) (.cons hr (.cons hy (.nil _)))
theorem callS.dcR {P:Program} {y:Nat×Nat×List GV} {f:FuncId} {gs:List GV} {R:GV→GH→Prop} {K:Env→GH→Prop} {is:List GI} {env:Env} {H:GH} {d:Option Nat} {rc:Nat} (h:DcR P y f gs R) (hr:ZU H rc=some (3,[.cur])) (hy:ZU H y.1=some y.2) (h3:y.2.1≠3)
 (hk:∀g H1,R g H1→(names (H1++H)).Nodup → Z3 P is K (gput env d g) (H1++H)):callS P false f (some (.ptr rc 3 0 0::gs)) d is K env H:=
 callS.of (h.at hr hy h3) fun g H' ⟨H1,h1,h2⟩ hn=>by subst h2;exact hk g H1 h1 hn
theorem callS.dvR {P:Program} {y:Nat×Nat×List GV} {f:FuncId} {gs:List GV} {R:GV→Prop} {K:Env→GH→Prop} {is:List GI} {env:Env} {H:GH} {d:Option Nat} {rc:Nat} (h:DvR P y f gs R) (hr:ZU H rc=some (3,[.cur])) (hy:ZU H y.1=some y.2) (h3:y.2.1≠3)
 (hk:∀g,R g→Z3 P is K (gput env d g) H):callS P false f (some (.ptr rc 3 0 0::gs)) d is K env H:=
 callS.dcR h hr hy h3 fun g H1 ⟨h1,h2⟩ _ => by subst h2;exact hk g h1
theorem callA.dcR {P:Program} {y:Nat×Nat×List GV} {f:FuncId} {gs:List GV} {R:GV→GH→Prop} {K:Env→GH→Prop} {is:List GI} {env:Env} {H:GH} {d:Option Nat} {rc:Nat} (h:DcR P y f gs R) (hr:ZU H rc=some (3,[.cur])) (hy:ZU H y.1=some y.2) (h3:y.2.1≠3)
 (hk:∀g H1,R g H1→(names (H1++H)).Nodup → Z3 P is K (gput env d g) (H1++H)):callA P f (some (.ptr rc 3 0 0::gs)) d is K env H:=
 ⟨R,h.at hr hy h3,hk⟩
theorem callA.dvR {P:Program} {y:Nat×Nat×List GV} {f:FuncId} {gs:List GV} {R:GV→Prop} {K:Env→GH→Prop} {is:List GI} {env:Env} {H:GH} {d:Option Nat} {rc:Nat} (h:DvR P y f gs R) (hr:ZU H rc=some (3,[.cur])) (hy:ZU H y.1=some y.2) (h3:y.2.1≠3)
 (hk:∀g,R g→Z3 P is K (gput env d g) H):callA P f (some (.ptr rc 3 0 0::gs)) d is K env H:=
 callA.dcR h hr hy h3 fun g H1 ⟨h1,h2⟩ _ => by subst h2;exact hk g h1
abbrev GrO (rs:Nat) (g:Gram) (X:GV):GV:= .agg [.own rs 2 0 g.syms.length,X]
abbrev syR (rs:Nat) (g:Gram):Nat×Nat×List GV:=(rs,2,g.syms.map Sy)
theorem names_nd3 {w rc rs:Nat} {x y z:Nat×List GV} {H:GH} (h:(names ([(w,x)]++(rc,y)::(rs,z)::H)).Nodup):¬w=rc∧¬w=rs:=
 ⟨fun e=>by subst e;simp[names] at h,fun e=>by subst e;simp[names] at h⟩
theorem fin_ifR {d:Nat} {a b c:Exp} {q rc rs:Nat} {S:List GV} {H:GH} (ha:shD d a) (hb:shD d b) (hc:shD d c) (hne:¬q=rc) (h2:¬q=rs) (h3:¬rc=rs) :
 ∃G T L,(∃e,shD (d+1) e∧G=Ex e)∧Bor L (.agg [I 5,I 0,I 0,I 0,Gh.T noS,Gh.T noS,.own q 7 0 3]) G∧(q,7,[Ex a,Ex b,Ex c])::(rc,3,[GV.cur])::(rs,2,S)::H=T++H∧subH T (L++[(rc,3,[GV.cur]),(rs,2,S)]):=
 ⟨_,[_,_,_],[(q,7,[Ex a,Ex b,Ex c])],⟨.mk 5 0 0 0 noS noS [a,b,c],Ys (by decide) (by decide) (by simp) (by simp[ha,hb,hc]),rfl⟩,bor_ExV (l:=[a,b,c]) Z4 rfl,rfl,by simp[subH,ZU,names,hne,h2,h3]⟩
end Go.Gh
namespace Go.Gh
abbrev RuE (r:Rul):GV:= .agg [T r.name,T r.left,TS r.right,B r.lit,.osl 9 (r.eqs.map Qn),.osl 16 (r.cons.map Co)]
theorem view_RuE (r:Rul):view (RuE r)=Ru r:=by
 have h1:=YM (f:=T) (fun a=>rfl) r.right
 have h2:=YM view_Qn r.eqs
 have h3:=YM view_Co r.cons
 simp only[view,Zo,List.map_cons,List.map_nil,h1,h2,h3]
def OwG (v:GV) (H1:GH):Prop:=∃(l:List Sym) (D:List Rul) (X:List GV) (q q2:Nat),drG ⟨l,D⟩∧v = .agg [.own q 2 0 l.length,.own q2 6 0 D.length]∧H1=[(q2,6,D.map RuE++X),(q,2,l.map Sy)]
theorem FE.ruQE {env:Env} {q q1 n:Nat} {es:List GV} {i:Nat} {r:Rul} {qs:List Eqn} {H:GH} (hne:q1≠q) (hi:i<es.length) (hn:qs.length=n) :
 FE env ((q1,9,qs.map Qn)::(q,6,es.set i (RuX r (.own q1 9 0 n) Zy))::H) env ((q,6,es.set i (RuE { r with eqs:=qs,cons:=[] }))::H):=by
 refine FE.trans (FE.close2 (L:=es) (i:=i) (j:=4) hne hi rfl (by simpa using hn)) ?_
 have:=FE.exch (env:=env) (H:=(q,6,es.set i (.agg [T r.name,T r.left,TS r.right,B r.lit,.osl 9 (qs.map Qn),Zy]))::H) (r:=q) (sz:=6) (i:=i) (es:=es.set i (.agg [T r.name,T r.left,TS r.right,B r.lit,.osl 9 (qs.map Qn),Zy])) (e:= .agg [T r.name,T r.left,TS r.right,B r.lit,.osl 9 (qs.map Qn),Zy]) (e':=RuE { r with eqs:=qs,cons:=[] }) (by simp[ZU]) (by simp[hi])
  fun w D v F hm=>MV.fld (j:=5) (g':= .osl 16 []) rfl (fun v F h=>by simp only[MV] at h ⊢;exact .inl ⟨by first|rfl|trivial,h.2,none,h.1⟩) v F hm
 rw[List.set_set] at this
 simpa[ZD] using this
theorem FE.ruPE {env:Env} {q q1 q2 n m:Nat} {es:List GV} {i:Nat} {r:Rul} {qs:List Eqn} {cs:List Con} {H:GH} (hne:q1≠q) (hne2:q2≠q) (hne3:q2≠q1) (hi:i<es.length) (hn:qs.length=n) (hm:cs.length=m) :
 FE env ((q2,16,cs.map Co)::(q1,9,qs.map Qn)::(q,6,es.set i (RuX r (.own q1 9 0 n) (.own q2 16 0 m)))::H) env ((q,6,es.set i (RuE { r with eqs:=qs,cons:=cs }))::H):=by
 refine FE.trans (FE.perm (H:=[_,_,_]) (L:=[(q1,9,qs.map Qn),(q,6,es.set i (RuX r (.own q1 9 0 n) (.own q2 16 0 m))),(q2,16,cs.map Co)]) (by simp[subH,ZU,names,hne,hne2,hne3,Ne.symm hne,Ne.symm hne2,Ne.symm hne3])) ?_
 refine FE.trans (FE.close2 (L:=es) (i:=i) (j:=4) hne hi rfl (by simpa using hn)) ?_
 refine FE.trans (FE.perm (H:=[_,_]) (L:=[(q2,16,cs.map Co),(q,6,es.set i (.agg [T r.name,T r.left,TS r.right,B r.lit,.osl 9 (qs.map Qn),.own q2 16 0 m]))]) (by simp[subH,ZU,names,hne,hne2,hne3,Ne.symm hne,Ne.symm hne2,Ne.symm hne3])) ?_
 exact FE.close2 (L:=es) (i:=i) (j:=5) hne2 hi rfl (by simpa using hm)
theorem rul_midE {D L:List Rul} {j:Nat} (hD:D.length=j) (hj:j<L.length):∃es:List GV,D.map RuE++(L.drop j).map Ru0=es∧es.length=L.length∧(∀h:j<es.length,es[j]=Ru0 L[j]) ∧
 ∀r:Rul,es.set j (RuE r)=(D++[r]).map RuE++(L.drop (j+1)).map Ru0:=by
 refine ⟨_,rfl,?_,?_,?_⟩
 ·simp;omega
 ·intro h
  rw[List.getElem_append_right (by simp;omega)]
  simp[hD]
 ·intro r
  rw[List.set_append_right _ _ (by simp;omega),List.drop_eq_getElem_cons hj]
  simp only[List.map_cons,List.length_map,hD,Nat.sub_self,List.set_cons_zero,List.map_append,List.map_nil,List.append_assoc,List.singleton_append]
end Go.Gh
namespace Go.Gh
abbrev RuF (r:Rul) (q1 q2:Nat):GV:= .agg [T r.name,T r.left,.own q1 1 0 r.right.length,B r.lit,.own q2 9 0 r.eqs.length,.sl 16 (r.cons.map Co)]
def frR (r:Rul):Prop:=shT r.name∧shT r.left∧(r.right.length≤3∧∀s∈r.right,shT s)∧(r.eqs.length≤3∧∀q∈r.eqs,shT q.name∧shEx q.expr)∧r.cons.length≤1∧∀c∈r.cons,shCo c
def FrW (v:GV) (H1:GH):Prop:=∃(r:Rul) (q1 q2:Nat),frR r∧v=RuF r q1 q2∧H1=[(q2,9,r.eqs.map Qn),(q1,1,r.right.map T)]
theorem bor_RuF {H:GH} {r:Rul} {q1 q2 k n2:Nat} {L:List ByteArray} (h1:ZU H q1=some (1,L.map T)) (hk:k≤L.length) (he:L.take k=r.right) (h2:ZU H q2=some (9,r.eqs.map Qn)) (e2:r.eqs.length=n2) :
 Bor H (.agg [T r.name,T r.left,.own q1 1 0 k,B r.lit,.own q2 9 0 n2,.sl 16 (r.cons.map Co)]) (Ru r):=by
 have b1:Bor H (.own q1 1 0 k) (TS r.right):=by
  have:=Bor.own (k:=0) (n:=k) h1 (by simpa using hk)
  rw[Zo,List.drop_zero,←List.map_take,YM (f:=T) (fun a=>rfl),he] at this
  exact this
 exact .agg (.cons .refl (.cons .refl (.cons b1 (.cons .refl (.cons (Bor.allM view_Qn h2 e2) (.cons .refl .nil))))))
theorem frR_sh {r:Rul} (h:frR r):shRu r:=by
 obtain ⟨h1,h2,⟨h3,h4⟩,⟨h5,h6⟩,h7,h8⟩:=h
 exact ⟨h1,h2,by omega,h4,by omega,h6,by omega,h8⟩
theorem conE_sh {n k:Int}:shEx (.mk 1 n 0 k noS noS []):=by unfold shEx;rw[wEx_lit];decide
theorem soT_T2 (a b:ByteArray):soT (some (1,[.val (.string a),.val (.string b)])) 1 1 0 2=some [.val (.string a),.val (.string b)]:=by simp[soT,YU,clean]
theorem conE_sh6:shEx (.mk 6 0 0 0 noS noS []):=by unfold shEx;rw[wEx_lit];decide
theorem bor_con1 {H:GH} {r:Nat} {s m:ByteArray} {e f:Exp} (he:e.args=[]) (hf:f.args=[]) (hr:ZU H r=some (16,[CoN s m e f])):Bor H (.own r 16 0 1) (.sl 16 [Co ⟨s,m,e,f⟩]):=by
 refine Bor.exch (i:=0) hr rfl (MV.con he hf) ?_
 refine Bor.allM (l:=[(⟨s,m,e,f⟩:Con)]) view_Co ?_ rfl
 rw[hget_set hr];rfl
theorem FE.virt1 {env:Env} {H:GH} {r r1 sz sz1:Nat} {gs:List GV} (j:Nat) (hg:gs[j]? = some (.val (.slice none 0 0))) (ho:r1 % 4=1) (hn:r1∉names ((r,sz,[.agg gs])::H)) :
 FE env ((r,sz,[.agg gs])::H) env ((r1,sz1,[])::(r,sz,[.agg (gs.set j (.own r1 sz1 0 0))])::H):=by
 have:=FE.virtF (env:=env) (sz1:=sz1) (i:=0) (j:=j) Z4 rfl hg ho hn
 simpa[ZD] using this
theorem FE.virt2 {env:Env} {H:GH} {r r1 r2 sz s1 s2:Nat} {gs:List GV} (j1 j2:Nat) (hg:gs[j1]? = some (.val (.slice none 0 0))) (ho:r1 % 4=1) (hn:r1∉names ((r,sz,[.agg gs])::H))
 (hg2:(gs.set j1 (.own r1 s1 0 0))[j2]? = some (.val (.slice none 0 0))) (ho2:r2 % 4=1) (hn2:r2∉names ((r,sz,[.agg gs])::(r1,s1,[])::H)) :
 FE env ((r,sz,[.agg gs])::H) env ((r1,s1,[])::(r2,s2,[])::(r,sz,[.agg ((gs.set j1 (.own r1 s1 0 0)).set j2 (.own r2 s2 0 0))])::H):=by
 refine FE.trans (FE.virt1 (sz1:=s1) j1 hg ho hn) (FE.trans FE.swap (FE.trans (FE.virt1 (sz1:=s2) j2 hg2 ho2 (by simpa[names] using hn2)) ?_))
 exact FE.perm (H:=[_,_,_]) (L:=[(r1,s1,[]),(r2,s2,[]),_]) (by
  have h1:¬r1=r:=by simp[names] at hn;exact hn.1
  have h2:¬r2=r∧¬r2=r1:=by simp[names] at hn2;exact ⟨hn2.1,hn2.2.1⟩
  have h3:¬r1=r2:=fun h=>h2.2 h.symm
  have h4:¬r=r1:=fun h=>h1 h.symm
  have h5:¬r=r2:=fun h=>h2.1 h.symm
  simp[subH,ZU,names,h1,h2.1,h2.2,h3,h4,h5])
theorem okRu_of {nm lf:ByteArray} {rt:List ByteArray} {li:Bool} {qs:List Eqn} {cs:List Con} (h1:shT nm) (h2:shT lf) (h3:rt.length≤5) (k3:∀s∈rt,shT s) (h4:qs.length≤65) (k4:∀q∈qs,shT q.name∧shEx q.expr) (h5:cs.length≤64) (k5:∀c∈cs,shCo c):okRu ⟨nm,lf,rt,li,qs,cs⟩∧Zk ⟨nm,lf,rt,li,qs,cs⟩:=
 ⟨⟨Yx h1,Yx h2,fun s hs=>Yx (k3 s hs),fun q hq=>⟨Yx (k4 q hq).1,(YY (k4 q hq).2).1⟩,fun c hc=>⟨Yx (k5 c hc).1,Yx (k5 c hc).2.1,(YY (k5 c hc).2.2.1).1,(YY (k5 c hc).2.2.2).1⟩⟩,
  ⟨by show rt.length ≤ _;omega,by show qs.length ≤ _;omega,by show cs.length ≤ _;omega,fun q hq=>(YY (k4 q hq).2).2,fun c hc=>⟨(YY (k5 c hc).2.2.1).2,(YY (k5 c hc).2.2.2).2⟩⟩⟩
theorem okS_set {l:List Sym} {D:List Rul} {k:Nat} {r:Rul} (h:shGr ⟨l,D⟩) (hr:okRu r∧Zk r):okGr ⟨l,D.set k r⟩∧Zw ⟨l,D.set k r⟩:=by
 have hm:∀x∈D.set k r,okRu x∧Zk x:=fun x hx=>by
  rcases List.mem_or_eq_of_mem_set hx with hx|rfl
  ·exact ⟨shRu_ok (h.2.2.2 x hx),shRu_sm (h.2.2.2 x hx)⟩
  ·exact hr
 exact ⟨⟨(shGr_ok h).1,fun x hx=>(hm x hx).1⟩,(shGr_sm h).1,by have:=h.2.2.1;show (D.set k r).length ≤ _;rw[List.length_set];change D.length≤16 at this;omega,(shGr_sm h).2.2.1,fun x hx=>(hm x hx).2⟩
theorem okS_sym {l:List Sym} {D:List Rul} {y:Sym} (h:shGr ⟨l,D⟩) (hy:shSy y):okGr ⟨l.set 0 y,D⟩∧Zw ⟨l.set 0 y,D⟩:=by
 have hm:∀x∈l.set 0 y,shSy x:=fun x hx=>by
  rcases List.mem_or_eq_of_mem_set hx with hx|rfl
  ·exact h.1.2.2 x hx
  ·exact hy
 exact ⟨⟨fun x hx=>shSy_ok (hm x hx),(shGr_ok h).2⟩,by have:=(shGr_sm h).1;show (l.set 0 y).length ≤ _;rw[List.length_set];exact this,(shGr_sm h).2.1,fun x hx=>shSy_sm (hm x hx),(shGr_sm h).2.2.2⟩
def beG (g:Gram):Prop:=(okGr g∧Zw g)∧g.syms.length≤4
theorem esF (f:Rul→GV) (hf:∀r,view (f r)=Ru r) (D:List Rul) (X:List GV):∃es,D.map f++X=es∧D.length≤es.length∧(∀k (hk:k<D.length) (h:k<es.length),es[k]=f D[k]) ∧
 (∀k Y r',view Y=Ru r'→Zm ((es.set k Y).take D.length)=(D.set k r').map Ru)∧Zm (es.take D.length)=D.map Ru:=by
 have h0:Zm ((D.map f++X).take D.length)=D.map Ru:=by
  rw[List.take_append_of_le_length (by simp),List.take_of_length_le (by simp),Zo,List.map_map]
  exact List.map_congr_left fun a _ => hf a
 refine ⟨_,rfl,by simp,fun k hk h=>by rw[List.getElem_append_left (by simpa using hk),List.getElem_map],fun k Y r' hY=> ?_,h0⟩
 rw[Zo] at h0 ⊢
 rw[List.take_set,List.map_set,h0,hY,←List.map_set]
theorem viewL_app (a b:List GV):Zm (a++b)=Zm a++Zm b:=by simp[Zo]
theorem viewL_RuE (D:List Rul) (X:List GV):Zm (D.map RuE++X)=D.map Ru++Zm X:=by
 rw[viewL_app];congr 1
 rw[Zo,List.map_map]
 exact List.map_congr_left fun a _ => view_RuE a
theorem borG {q q2 n m:Nat} {es fs:List GV} {l:List Sym} {D:List Rul} (hne:¬q2=q) (hf:Zm (fs.take n)=l.map Sy) (hn:n≤fs.length) (he:Zm (es.take m)=D.map Ru) (hm:m≤es.length):Bor [(q2,6,es),(q,2,fs)] (.agg [.own q 2 0 n,.own q2 6 0 m]) (Gr ⟨l,D⟩):=by
 have b1:Bor [(q2,6,es),(q,2,fs)] (.own q 2 0 n) (SyS l):=by
  have:=Bor.own (H:=[(q2,6,es),(q,2,fs)]) (r:=q) (sz:=2) (k:=0) (n:=n) (es:=fs) (by simp[ZU,hne]) (by omega)
  rwa [List.drop_zero,hf] at this
 have b2:Bor [(q2,6,es),(q,2,fs)] (.own q2 6 0 m) (RuS D):=by
  have:=Bor.own (H:=[(q2,6,es),(q,2,fs)]) (r:=q2) (sz:=6) (k:=0) (n:=m) (es:=es) Z4 (by omega)
  rwa [List.drop_zero,he] at this
 exact .agg (.cons b1 (.cons b2 .nil))
theorem Yr (l:List Sym):Zm ((l.map Sy).take l.length)=l.map Sy:=by
 rw[List.take_of_length_le (by simp),Zo,YM view_Sy]
theorem view_SysS (l:List Sym) (y:Sym):Zm (((l.map Sy).set 0 (Sy y)).take l.length)=(l.set 0 y).map Sy:=by
 rw[List.take_of_length_le (by simp),←List.map_set,Zo,YM view_Sy]
end Go.Gh
namespace Go.Gh
end Go.Gh
namespace Go.Gh
end Go.Gh
namespace Go.Gh
theorem Pure.borE {P:Program} {f:FuncId} {gs:List GV} {R:GV→Prop} (h:GCalls P f gs [] (fun g H=>∃G,R G∧Bor H g G)):Pure P f gs R:=
 h.fr fun _ _ ⟨G,hr,hb⟩=>⟨G,[],FR.all hb,hr⟩
def flR (g:Gram) (k:Nat):List Rul:=(g.rules.take k).filter fun r=>decide (0<r.right.length)
theorem flR_len (g:Gram) (k:Nat):(flR g k).length ≤ k:=Nat.le_trans (List.length_filter_le _ _) (by rw[List.length_take];omega)
theorem flR_yes {g:Gram} {k:Nat} (hk:k<g.rules.length) (h:0<g.rules[k].right.length):flR g (k+1)=flR g k++[g.rules[k]]:=by
 unfold flR
 rw[List.take_succ_eq_append_getElem hk,List.filter_append]
 simp[h]
theorem flR_no {g:Gram} {k:Nat} (hk:k<g.rules.length) (h:¬0<g.rules[k].right.length):flR g (k+1)=flR g k:=by
 unfold flR
 rw[List.take_succ_eq_append_getElem hk,List.filter_append]
 simp[h]
theorem beG_fl {g:Gram} (h:beG g) (k:Nat):beG ⟨g.syms,flR g k⟩:=by
 have hm:∀r∈flR g k,r∈g.rules:=fun r hr=>List.mem_of_mem_take (List.mem_filter.1 hr).1
 refine ⟨⟨⟨h.1.1.1,fun r hr=>h.1.1.2 r (hm r hr)⟩,h.1.2.1,?_,h.1.2.2.2.1,fun r hr=>h.1.2.2.2.2 r (hm r hr)⟩,h.2⟩
 have h1:(flR g k).length ≤ (g.rules.take k).length := List.length_filter_le _ _
 have h2:=h.1.2.2.1
 rw[List.length_take] at h1
 show (flR g k).length ≤ _
 omega
end Go.Gh
namespace Go.Gh
theorem t_Bytes {g:GV} (h:ET false [.sl false [.int .u8]] g):∃bs:List UInt8,g=Bs bs:=by
 have h1:=t_one h
 simp only[CT] at h1
 obtain ⟨es,rfl,_,he⟩:=h1
 obtain ⟨l,rfl,_⟩:=list_of (f:=fun b:UInt8=>GV.val (.int .u8 b.toNat)) (ok:=fun _ => True) (es:=es) fun e hm=>by
  obtain ⟨gs,k1,k2⟩:=he e hm
  simp only[CTs,CT] at k1
  obtain ⟨g,gs',rfl,⟨n,rfl,hn⟩,rfl⟩:=k1
  simp at k2
  refine ⟨UInt8.ofNat n.toNat,?_,trivial⟩
  have hr:0≤n∧n<256:=by
   simp only[Lit.wf,Bool.and_eq_true,decide_eq_true_eq] at hn
   have e1:IntKind.u8.min=0:=rfl
   have e2:IntKind.u8.max=255:=rfl
   rw[e1,e2] at hn
   omega
  rw[←k2]
  have:((UInt8.ofNat n.toNat).toNat : Int)=n:=by
   rw[UInt8.toNat_ofNat']
   omega
  rw[this]
 exact ⟨l,rfl⟩
@[irreducible] def MkQ (p:Prop):Prop:=p
theorem qI {p:Prop} (h:MkQ p):p:=by unfold MkQ at h;exact h
theorem qU {p:Prop} (h:p):MkQ p:=by unfold MkQ;exact h
theorem VQ:type_of% (And.intro @Z9 (And.intro @Z7 (And.intro @Z6 (And.intro @neN (And.intro @Z0 (And.intro @ZW @Z5)))))):=(And.intro @Z9 (And.intro @Z7 (And.intro @Z6 (And.intro @neN (And.intro @Z0 (And.intro @ZW @Z5))))))
theorem VN:type_of% (And.intro @ZZ (And.intro @ZV (And.intro @Z0 (And.intro @ZW (And.intro @and_true @true_and))))):=(And.intro @ZZ (And.intro @ZV (And.intro @Z0 (And.intro @ZW (And.intro @and_true @true_and)))))
open Nat (reduceEqDiff reduceLeDiff reduceAdd reduceLT)
open Int (reduceNe)
theorem aO {a b:Prop} (k:b) (h:a:=by omega):a∧b:=And.intro h k
theorem eO {a:Prop} {b:a→Prop} (h:a:=by omega) (k:b h):∃h,b h:=Exists.intro h k
theorem jO {a b:Prop} (x:a) (y:b):a∧b:=And.intro x y
theorem V0 {p q:Prop} (k:q) (h:q→p:=by intro k;first|(replace k:=qU k;(try simp (maxSteps:=9^7) +contextual only[↓ S2,S2,↓reduceIte,reduceNe,reduceEqDiff,reduceCtorEq,reduceLeDiff,reduceAdd,reduceLT,VQ]);(repeat (simp only[Z8];try simp (maxSteps:=9^7) +contextual only[↓ S2,S2,↓reduceIte,reduceNe,reduceEqDiff,reduceCtorEq,reduceLeDiff,reduceAdd,reduceLT,VQ]));(try simp +contextual (disch:=omega) only[Z2]);(with_reducible repeat' first|refine aO ?_ | refine eO ?_);exact qI k)|(have _ : True:=k;(try simp (maxSteps:=9^7) +contextual only[↓ S2,S2,↓reduceIte,reduceNe,reduceEqDiff,reduceCtorEq,reduceLeDiff,reduceAdd,reduceLT,VQ]);(repeat (simp only[Z8];try simp (maxSteps:=9^7) +contextual only[↓ S2,S2,↓reduceIte,reduceNe,reduceEqDiff,reduceCtorEq,reduceLeDiff,reduceAdd,reduceLT,VQ]));(try simp +contextual (disch:=omega) only[Z2]);done)):p:=h k
theorem V1 {p q f:Prop} (a:f) (k:q) (h:f→q→p:=by intro a k;first|(replace k:=qU k;(try simp (maxSteps:=9^7) +contextual only[↓ S2,S2,↓reduceIte,reduceNe,reduceEqDiff,reduceCtorEq,reduceLeDiff,reduceAdd,reduceLT,VQ,a]);(repeat (simp only[Z8];try simp (maxSteps:=9^7) +contextual only[↓ S2,S2,↓reduceIte,reduceNe,reduceEqDiff,reduceCtorEq,reduceLeDiff,reduceAdd,reduceLT,VQ,a]));(try simp +contextual (disch:=omega) only[Z2,a]);(try clear a);(with_reducible repeat' first|refine aO ?_ | refine eO ?_);first|exact qI k|(revert a;exact qI k))|(have _ : True:=k;(try simp (maxSteps:=9^7) +contextual only[↓ S2,S2,↓reduceIte,reduceNe,reduceEqDiff,reduceCtorEq,reduceLeDiff,reduceAdd,reduceLT,VQ,a]);(repeat (simp only[Z8];try simp (maxSteps:=9^7) +contextual only[↓ S2,S2,↓reduceIte,reduceNe,reduceEqDiff,reduceCtorEq,reduceLeDiff,reduceAdd,reduceLT,VQ,a]));(try simp +contextual (disch:=omega) only[Z2,a]);done)):p:=h a k
theorem V2 {p q f:Prop} (a:f) (k:q) (h:f→q→p:=by intro a k;first|(replace k:=qU k;(try simp (maxSteps:=9^7) +contextual only[↓ S2,S2,↓reduceIte,reduceNe,reduceEqDiff,reduceCtorEq,reduceLeDiff,reduceAdd,reduceLT,VQ,Int.reduceEq,Int.reduceLT,Int.reduceLE,Int.reduceToNat,a]);(repeat (simp only[Z8];try simp (maxSteps:=9^7) +contextual only[↓ S2,S2,↓reduceIte,reduceNe,reduceEqDiff,reduceCtorEq,reduceLeDiff,reduceAdd,reduceLT,VQ,Int.reduceEq,Int.reduceLT,Int.reduceLE,Int.reduceToNat,a]));(try simp +contextual (disch:=omega) only[Z2,a]);(try clear a);(with_reducible repeat' first|refine aO ?_ | refine eO ?_);first|exact qI k|(revert a;exact qI k))|(have _ : True:=k;(try simp (maxSteps:=9^7) +contextual only[↓ S2,S2,↓reduceIte,reduceNe,reduceEqDiff,reduceCtorEq,reduceLeDiff,reduceAdd,reduceLT,VQ,Int.reduceEq,Int.reduceLT,Int.reduceLE,Int.reduceToNat,a]);(repeat (simp only[Z8];try simp (maxSteps:=9^7) +contextual only[↓ S2,S2,↓reduceIte,reduceNe,reduceEqDiff,reduceCtorEq,reduceLeDiff,reduceAdd,reduceLT,VQ,Int.reduceEq,Int.reduceLT,Int.reduceLE,Int.reduceToNat,a]));(try simp +contextual (disch:=omega) only[Z2,a]);done)):p:=h a k
theorem R0 {p q:Prop} (k:q) (h:q→p:=by intro k;first|(replace k:=qU k;(try simp (maxSteps:=9^7) only[↓ S2,S2,Z5,↓reduceIte,reduceNe,reduceEqDiff,reduceCtorEq,reduceLeDiff,reduceAdd,reduceLT]);(repeat (simp only[Z8];try simp (maxSteps:=9^7) only[↓ S2,S2,Z5,↓reduceIte,reduceNe,reduceEqDiff,reduceCtorEq,reduceLeDiff,reduceAdd,reduceLT]));(try simp +contextual (disch:=omega) only[Z2]);(with_reducible repeat' first|refine aO ?_ | refine eO ?_);exact qI k)|(have _ : True:=k;(try simp (maxSteps:=9^7) only[↓ S2,S2,Z5,↓reduceIte,reduceNe,reduceEqDiff,reduceCtorEq,reduceLeDiff,reduceAdd,reduceLT]);(repeat (simp only[Z8];try simp (maxSteps:=9^7) only[↓ S2,S2,Z5,↓reduceIte,reduceNe,reduceEqDiff,reduceCtorEq,reduceLeDiff,reduceAdd,reduceLT]));(try simp +contextual (disch:=omega) only[Z2]);done)):p:=h k
theorem R1 {p q f:Prop} (a:f) (k:q) (h:f→q→p:=by intro a k;first|(replace k:=qU k;(try simp (maxSteps:=9^7) only[↓ S2,S2,Z5,↓reduceIte,reduceNe,reduceEqDiff,reduceCtorEq,reduceLeDiff,reduceAdd,reduceLT,a]);(repeat (simp only[Z8];try simp (maxSteps:=9^7) only[↓ S2,S2,Z5,↓reduceIte,reduceNe,reduceEqDiff,reduceCtorEq,reduceLeDiff,reduceAdd,reduceLT,a]));(try simp +contextual (disch:=omega) only[Z2,a]);(try clear a);(with_reducible repeat' first|refine aO ?_ | refine eO ?_);first|exact qI k|(revert a;exact qI k))|(have _ : True:=k;(try simp (maxSteps:=9^7) only[↓ S2,S2,Z5,↓reduceIte,reduceNe,reduceEqDiff,reduceCtorEq,reduceLeDiff,reduceAdd,reduceLT,a]);(repeat (simp only[Z8];try simp (maxSteps:=9^7) only[↓ S2,S2,Z5,↓reduceIte,reduceNe,reduceEqDiff,reduceCtorEq,reduceLeDiff,reduceAdd,reduceLT,a]));(try simp +contextual (disch:=omega) only[Z2,a]);done)):p:=h a k
theorem X0 {p q:Prop} (k:q) (h:q→p:=by intro k;first|(replace k:=qU k;(try simp (maxSteps:=9^7) only[↓ S2,S2,Z5,↓reduceIte,reduceNe,reduceEqDiff,reduceCtorEq,reduceLeDiff,reduceAdd,reduceLT]);(with_reducible repeat' first|refine aO ?_ | refine eO ?_);exact qI k)|(have _ : True:=k;(try simp (maxSteps:=9^7) only[↓ S2,S2,Z5,↓reduceIte,reduceNe,reduceEqDiff,reduceCtorEq,reduceLeDiff,reduceAdd,reduceLT]);done)):p:=h k
theorem K0 {p q:Prop} (k:q) (h:q→p:=by intro k;first|(simp (maxSteps:=9^7) only[↓ S2,S2,Z5,↓reduceIte,reduceNe,reduceEqDiff,reduceCtorEq,reduceLeDiff,reduceAdd,reduceLT];exact k)|(simp only[Z8];exact k)|(simp +contextual (disch:=omega) only[Z2];exact k)|(have _ : True:=k;simp (maxSteps:=9^7) only[↓ S2,S2,Z5,↓reduceIte,reduceNe,reduceEqDiff,reduceCtorEq,reduceLeDiff,reduceAdd,reduceLT];done)|(have _ : True:=k;simp only[Z8];done)|(have _ : True:=k;simp +contextual (disch:=omega) only[Z2];done)):p:=h k
theorem K1 {p q f:Prop} (a:f) (k:q) (h:f→q→p:=by intro a k;first|(simp (maxSteps:=9^7) only[↓ S2,S2,Z5,↓reduceIte,reduceNe,reduceEqDiff,reduceCtorEq,reduceLeDiff,reduceAdd,reduceLT,a];first|exact k|(revert a;exact k))|(simp only[Z8];first|exact k|(revert a;exact k))|(simp +contextual (disch:=omega) only[Z2];first|exact k|(revert a;exact k))|(have _ : True:=k;simp (maxSteps:=9^7) only[↓ S2,S2,Z5,↓reduceIte,reduceNe,reduceEqDiff,reduceCtorEq,reduceLeDiff,reduceAdd,reduceLT,a];done)|(have _ : True:=k;simp only[Z8];done)|(have _ : True:=k;simp +contextual (disch:=omega) only[Z2];done)):p:=h a k
theorem oF {p:Prop} (h:False:=by omega):p:=h.elim
theorem nL (a b:Nat):a<b∨a≥b:=Nat.lt_or_ge a b
theorem gM {α:Type} {l:List α} {n:Nat} (h:n<l.length):l[n]∈l:=List.getElem_mem h
theorem tL {α:Type} {l:List α} {i:Nat} (h:l.length≤i):l.take i=l:=List.take_of_length_le h
theorem bC (b:Bool):b=false∨b=true:=(Bool.eq_false_or_eq_true b).symm
end Go.Gh
namespace Go.Gh.Z
abbrev x (d:Nat) (o:GOp):GI:=⟨some d,none,o⟩
abbrev y (d g:Nat) (o:GOp):GI:=⟨some d,some (g,true),o⟩
abbrev z (d g:Nat) (o:GOp):GI:=⟨some d,some (g,false),o⟩
abbrev m (d a:Nat):GI:=⟨some d,none,.mov (.t a)⟩
abbrev k (d:Nat) (n:Int):GI:=⟨some d,none,.mov (.k (.val (.int .i64 n)))⟩
abbrev b (d:Nat) (n:Bool):GI:=⟨some d,none,.mov (.k (.val (.bool n)))⟩
abbrev l (d a:Nat):GI:=⟨some d,none,.load 1 false (.t a)⟩
abbrev h (d n a:Nat):GI:=⟨some d,none,.load n true (.t a)⟩
abbrev f (d o a:Nat):GI:=⟨some d,none,.faddr o 1 false (.t a)⟩
abbrev e (d o n a:Nat):GI:=⟨some d,none,.faddr o n true (.t a)⟩
abbrev i (d n a c:Nat):GI:=⟨some d,none,.iaddr n (.t a) (.t c)⟩
abbrev c (d f:Nat) (a:List GE):GI:=⟨some d,none,.call false f a⟩
abbrev o (d:Nat) (p:BinOp) (a b:Nat):GI:=⟨some d,none,.bin p (.t a) (.t b)⟩
abbrev q (d:Nat) (p:BinOp) (a:Nat) (n:Int):GI:=⟨some d,none,.bin p (.t a) (.k (.val (.int .i64 n)))⟩
abbrev n (d a:Nat):GI:=⟨some d,none,.len (.t a)⟩
abbrev w (d a:Nat):GI:=⟨some d,none,.not (.t a)⟩
abbrev a (d n r:Nat):GI:=⟨some d,none,.boxro n (.t r)⟩
abbrev t (d n r:Nat):GI:=⟨some d,none,.stro n d (.t r)⟩
abbrev u (d n:Nat):GI:=⟨some d,none,.allocr n⟩
abbrev v (d r j:Nat):GI:=⟨some d,none,.ext (.t r) j⟩
abbrev p (n o a:Nat):GOp:= .faddr o n false (.t a)
abbrev r (n a:Nat):GOp:= .load n false (.t a)
abbrev j (n a:Nat):GOp:= .load n true (.t a)
abbrev A (d a b:Nat):GI:=⟨some d,none,.pick (.t a) (.t b) (.k (.val (.bool false)))⟩
abbrev O (d a b:Nat):GI:=⟨some d,none,.pick (.t a) (.k (.val (.bool true))) (.t b)⟩
abbrev M (d g a:Nat):GI:=⟨some d,some (g,true),.mov (.t a)⟩
abbrev N (d g a:Nat):GI:=⟨some d,some (g,false),.mov (.t a)⟩
abbrev I (o p:Nat) (a:Nat) (n:Int):GI:=⟨some o,some (p,true),.bin .eql (.t a) (.k (.val (.int .i64 n)))⟩
abbrev J (o p:Nat) (a:Nat) (n:Int):GI:=⟨some o,some (p,false),.bin .eql (.t a) (.k (.val (.int .i64 n)))⟩
abbrev G (d f:Nat) (a:List GE):GI:=⟨some d,none,.call true f a⟩
abbrev Q (d n b s x:Nat):GI:=⟨some d,none,.append n b (.t s) (.t x)⟩
abbrev E (d n:Nat) (b:Bool):GI:=⟨some d,none,.bslice n [] 0 b []⟩
abbrev Z (d:Nat):GI:=⟨some d,none,.mov (.k (.val (.slice none 0 0)))⟩
abbrev K (n:Int):GE:= .k (.val (.int .i64 n))
abbrev S (a b:GC):GC:= .seq a b
abbrev D (n:Nat) (a b:GC):GC:= .cond n a b
abbrev F:GC:= .skip
abbrev R:GC:= .ret
abbrev C (c e:Nat) (x:GC):GC:= .seq (.cond c .skip (.exit e)) x
abbrev B (n:Nat) (x:GC):GC:= .block n (.loop x)
abbrev s (a:List GI) (b:GC):GC:= .seq (.reg a) b
end Go.Gh.Z
namespace Go.Gh
theorem jF {P:Program} {f:Nat} {fn:Func} {F:GFun} {c:Code} (h:P.funcs[f]? = some fn) (md:List (Nat×Nat):=[]) (h0:fn.body=some c:=by rfl) (h1:(fn.name == "runtime.NumGoroutine")=false:=by kernel_rfl) (h2:compC P F.cf md c=some F.gc:=by kernel_rfl) (h3:YL P fn.results.toList=some F.gr:=by kernel_rfl) (h4:fn.ntmps=F.cf.N:=by rfl):IsFun P f F:=⟨fn,c,md,h,h1,h0,h2,h3,h4⟩
end Go.Gh
