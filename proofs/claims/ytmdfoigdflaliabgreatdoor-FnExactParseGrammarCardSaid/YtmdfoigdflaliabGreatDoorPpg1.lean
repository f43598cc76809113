/- The tied card of the law holds. No condition. -/
import Derived.Test.YtmdfoigdflaliabGreatDoorLibG2
import Derived.Lib.ItoaNum
import Derived.Lib.LaidTab
import Derived.Sort.Grow
import Derived.Shelf.Strconv.Itoa3
import Derived.Deep.Draws
import Derived.LaidMore
import Derived.OpenShut
import Derived.Stop.Joined
import Derived.SevenTiedAt
import Derived.Shelf.SlSortCmp.NoneTotal
import Derived.Laws.Cover1
import Derived.Deep.RegionHeld3
import Derived.Shelf.SlGeneric
import Derived.Lib.CutLaws
import Derived.Shelf.Strconv.AtoiAll
import Derived.Lib.Bytealg
import Derived.Shelf.Small.Strs
import Derived.Shelf.Strings.OnBuilder
import Derived.Lib.Split
import Derived.Lib.SplitLaws
set_option maxHeartbeats 40000000
set_option maxRecDepth 20000
set_option linter.unusedSimpArgs false
set_option linter.unusedVariables false

namespace Go.Gh
abbrev T (s:ByteArray):GV:= .val (.string s)
theorem chars_inj {s t:ByteArray}:Z9 s=Z9 t↔s=t:=by
 constructor
 ·intro h;obtain ⟨a⟩:=s;obtain ⟨b⟩:=t;simp only[Z9] at h;congr 1;exact Array.ext' h
 ·rintro rfl;rfl
@[ext] structure Nod where
 id:Int
 parent:Int
 place:Int
 lit:Int
 rule:ByteArray
 kids:List Int
deriving DecidableEq
@[ext] structure Slo where
 pos:Int
 name:ByteArray
 val:Int
deriving DecidableEq
abbrev Occ (x:Int×ByteArray):GV:= .agg [I x.1,T x.2]
theorem e_nil (e:Env):subE e []=True:=(rfl)
theorem e_cons (e:Env) (j:Nat) (g:GV) (r:Env):subE e ((j,g)::r)=(ZN e j=some g∧subE e r):=(rfl)
theorem n_val (v:Value):nraw (.val v)=true:=(rfl)
theorem n_sl (sz:Nat) (es:List GV):nraw (.sl sz es)=true:=(rfl)
theorem n_agg (cs:List GV):nraw (.agg cs)=true:=(rfl)
theorem n_rop (sz:Nat) (g:GV):nraw (.rop sz g)=true:=(rfl)
theorem n_ptr (r sz i o:Nat):nraw (.ptr r sz i o)=true:=(rfl)
theorem n_own (r sz k n:Nat):nraw (.own r sz k n)=true:=(rfl)
theorem n_clo (f:Nat) (cs:List GV):nraw (.clo f cs)=true:=(rfl)
theorem n_tup (cs:List GV):nraw (.tup cs)=true:=(rfl)
theorem E2:type_of% (jO @e_nil (jO @e_cons (jO @n_val (jO @n_sl (jO @n_agg (jO @n_rop (jO @n_ptr (jO @n_own (jO @n_clo (jO @n_tup (jO @x_get @Option.some.injEq.{0}))))))))))):=
 jO @e_nil (jO @e_cons (jO @n_val (jO @n_sl (jO @n_agg (jO @n_rop (jO @n_ptr (jO @n_own (jO @n_clo (jO @n_tup (jO @x_get @Option.some.injEq.{0}))))))))))
theorem maxLv:Y1=9223372036854775807:=(rfl)
theorem Z2:type_of% (jO @Int.ofNat_lt (jO @Int.natCast_nonneg (jO @true_and (jO @u_ext (jO @exists_prop_of_true (jO @Int.natCast_zero (jO @chars_inj (jO @Int.natCast_inj (jO maxLv (jO @not_true_eq_false (jO @false_implies (jO @true_implies (jO @and_true (jO @implies_true.{0} @wrap64)))))))))))))):=
 jO @Int.ofNat_lt (jO @Int.natCast_nonneg (jO @true_and (jO @u_ext (jO @exists_prop_of_true (jO @Int.natCast_zero (jO @chars_inj (jO @Int.natCast_inj (jO maxLv (jO @not_true_eq_false (jO @false_implies (jO @true_implies (jO @and_true (jO @implies_true.{0} @wrap64)))))))))))))
end Go.Gh
namespace Go.Gh
end Go.Gh
namespace Go.Gh
end Go.Gh
namespace Go.Gh
theorem sum_mem {α:Type} (f:α→Nat):∀(l:List α) (x:α),x∈l→f x≤(l.map f).sum
 | y::l,x,h=>by
  simp only[List.map_cons,List.sum_cons]
  rcases List.mem_cons.1 h with rfl|h
  ·omega
  ·have:=sum_mem f l x h;omega
theorem take_eq_step {α:Type} {xs ys:List α} {i:Nat} (hp:xs.take i=ys.take i) (h1:i<xs.length) (h2:i<ys.length) (h:xs[i]=ys[i]):xs.take (i+1)=ys.take (i+1):=by
 rw[List.take_add_one,List.take_add_one,hp,List.getElem?_eq_getElem h1,List.getElem?_eq_getElem h2,h]
end Go.Gh
namespace Go.Gh
theorem exP {p:Prop} {q:p→Prop} (h:p) (hq:q h):∃h,q h:=⟨h,hq⟩
end Go.Gh
namespace Go.Gh
end Go.Gh
namespace Go.Gh
section
variable {P:Program} {α:Type} {f:α→GV} {k kx sz:Nat} {det ag:Bool}
theorem eqS (mxd:P.follows .mixedOrders = true) (hF:IsFun P k ⟨⟨27,[]⟩,
 (.seq (.reg [(.mk (some 4) none (.mov (.k (.val (.bool false)))))]) (.seq (.seq (.reg [(.mk (some 6) none (.mov (.t 0))),(.mk (some 7) none (.len (.t 6))),(.mk (some 8) none (.mov (.t 1))),(.mk (some 9) none (.len
 (.t 8))),(.mk (some 10) none (.bin .neq (.t 7) (.t 9)))]) (.cond 10 (.seq (.reg [(.mk (some 4) none (.mov (.k (.val (.bool false)))))]) .ret) .skip)) (.seq (.seq (.reg [(.mk (some 5) none (.mov (.k (.val (.int .i64
 0)))))]) (.block 0 (.loop (.seq (.seq (.reg [(.mk (some 11) none (.mov (.t 5))),(.mk (some 12) none (.mov (.t 0))),(.mk (some 13) none (.len (.t 12))),(.mk (some 14) none (.bin .lss (.t 11) (.t 13)))]) (.cond 14
 .skip (.exit 0))) (.seq (.block 1 (.seq (.reg [(.mk (some 17) none (.mov (.t 0))),(.mk (some 18) none (.mov (.t 5))),(.mk (some 19) none (.iaddr sz (.t 17) (.t 18))),(.mk (some 21) none (.mov (.t 1))),(.mk (some
 22) none (.mov (.t 5))),(.mk (some 23) none (.iaddr sz (.t 21) (.t 22))),(.mk (some 20) none (.load sz ag (.t 19))),(.mk (some 24) none (.load sz ag (.t 23))),(.mk (some 25) none (.call det kx [(.t 20),(.t
 24)])),(.mk (some 26) none (.not (.t 25)))]) (.cond 26 (.seq (.reg [(.mk (some 4) none (.mov (.k (.val (.bool false)))))]) .ret) .skip))) (.reg [(.mk (some 15) none (.mov (.t 5))),(.mk (some 16) none (.bin .add (.t
 15) (.k (.val (.int .i64 1))))),(.mk (some 5) none (.mov (.t 16)))])))))) (.seq (.reg [(.mk (some 4) none (.mov (.k (.val (.bool true)))))]) .ret)))),[.t 4]⟩)
  [DecidableEq α] (hag:∀a,isAgg (f a)=ag) (hr:∀a,geR (some (f a))=some (f a)) (xs ys:List α) (hx:∀a∈xs,∀b∈ys,Pure P kx [f a,f b] (· = B (decide (a=b)))) :
  Pure P k [.sl sz (xs.map f),.sl sz (ys.map f)] (· = B (decide (xs=ys))):=by
 refine GCalls.lenA fun hl=> ?_
 have hlen:=hl.1.1
 simp only[List.length_map,Y1] at hlen
 refine Z8 mxd hF rfl (by simp) ?_
 ((try simp only[↓ S2,S2,↓reduceIte,Nat.reduceEqDiff,reduceCtorEq,Nat.reduceLeDiff,Nat.reduceAdd,Nat.reduceLT,hr,hag]);(try simp only[ZU];try simp only[↓ S2,S2,↓reduceIte,Nat.reduceEqDiff,reduceCtorEq,Nat.reduceLeDiff,Nat.reduceAdd,Nat.reduceLT,hr,hag]);(try simp +contextual (disch:=omega) only[Z2]);(repeat' (first|(with_reducible intro h)|(with_reducible refine jO oT ?_)|(with_reducible refine exP oT ?_)|(with_reducible apply jO))))
 rotate_left
 ·simp;rintro rfl;exact h rfl
 refine Zu mxd (ι:={ i:Nat // i≤xs.length∧xs.take i=ys.take i }) (fun i=>[(0,.sl sz (xs.map f)),(1,.sl sz (ys.map f)),(5,I i.1)]) (fun _ => []) (fun i=>xs.length-i.1) ⟨0,by simp⟩ (by simp[E2]) rfl ?_
 rintro ⟨i,hi,hp⟩
 ((try simp only[↓ S2,S2,↓reduceIte,Nat.reduceEqDiff,reduceCtorEq,Nat.reduceLeDiff,Nat.reduceAdd,Nat.reduceLT,hr,hag]);(try simp only[ZU];try simp only[↓ S2,S2,↓reduceIte,Nat.reduceEqDiff,reduceCtorEq,Nat.reduceLeDiff,Nat.reduceAdd,Nat.reduceLT,hr,hag]);(try simp +contextual (disch:=omega) only[Z2]);(repeat' (first|(with_reducible intro h)|(with_reducible refine jO oT ?_)|(with_reducible refine exP oT ?_)|(with_reducible apply jO))))
 ·refine callS.eq (hx xs[i] (List.getElem_mem _) ys[i] (List.getElem_mem _)) ?_
  ((try simp only[↓ S2,S2,↓reduceIte,Nat.reduceEqDiff,reduceCtorEq,Nat.reduceLeDiff,Nat.reduceAdd,Nat.reduceLT,hr,hag]);(try simp only[ZU];try simp only[↓ S2,S2,↓reduceIte,Nat.reduceEqDiff,reduceCtorEq,Nat.reduceLeDiff,Nat.reduceAdd,Nat.reduceLT,hr,hag]);(try simp +contextual (disch:=omega) only[Z2]);(repeat' (first|(with_reducible intro h)|(with_reducible refine jO oT ?_)|(with_reducible refine exP oT ?_)|(with_reducible apply jO))))
  ·exact nx ⟨i+1,oT,take_eq_step hp oT oT h⟩ (by simp;omega) (by simp[E2]) rfl
  ·simp;rintro rfl;simp at h
 ·have:i=xs.length:=by omega
  subst this
  rw[List.take_of_length_le oT,List.take_of_length_le oT] at hp
  simp[hp]
end
end Go.Gh
namespace Go.Gh
theorem t_one {t:Ty} {g:GV} (h:ET false [t] g):CT t g:=by
 obtain ⟨gs,k1,k2⟩:=h
 simp only[CTs] at k1
 obtain ⟨g,gs',rfl,hg,rfl⟩:=k1
 simp at k2
 rw[←k2];exact hg
end Go.Gh
namespace Go.Gh
theorem Y4 (P:Program) (c:Prop) [Decidable c] (g:GV) (d:Option Nat) (is:List GI) (K:Env→GH→Prop) (env:Env) (H:GH):valS P (if c then some g else none) d is K env H=(c∧Z6 P is K (gput env d g) H):=by
 by_cases h:c<;>simp[h,valS]
theorem nxF {ι:Type} {E:ι→Env} {G:ι→GH} {μ:ι→Nat} {i:ι} {e e':Env} {H H':GH} (j:ι) (hm:μ j<μ i) (hf:FE e H e' H') (h:subE e' (E j)) (hh:H'=G j):Nx E G μ i e H:=by
 subst hh
 exact ⟨j,FE.trans hf (FE.of h),hm⟩
theorem YE {P:Program} {cf:Cfg} (mxd:P.follows .mixedOrders = true) {ι:Type} {x:GC} {Q:Exit→Env→GH→Prop} {env env':Env} {H H':GH} (E:ι→Env) (G:ι→GH) (μ:ι→Nat) (i0:ι) (hf:FE env H env' H') (h0:subE env' (E i0)) (hh:H'=G i0)
 (round:∀i,(names (G i)).Nodup → GW P cf x (thenG (Nx E G μ i) Q) (E i) (G i)):GW P cf (.loop x) Q env H:=by
 subst hh
 exact GW.loop E G μ i0 (FE.trans hf (FE.of h0)) fun i=>GW.names fun hn=>round i hn
def dgt (k:Int):UInt8:=UInt8.ofNat (IntKind.u8.wrap (IntKind.i64.wrap (48+k.tmod 10))).toNat
def dig:Nat→Int→List UInt8→List UInt8
 | 0,_,acc=>acc
 | f+1,k,acc=>if 0<k then dig f (k.tdiv 10) (dgt k::acc) else acc
theorem dig_end:∀(f:Nat) {k:Int} (acc:List UInt8),¬0<k→dig f k acc=acc
 | 0,_,_,_ => rfl
 | f+1,k,acc,h=>by simp[dig,h]
def Yn (k:Int):ByteArray:=if k≤0 then ⟨#[109,48]⟩ else ⟨(109::dig k.toNat k []).toArray⟩
theorem FE.close2 {env:Env} {H:GH} {r r1 sz sz1 i j n:Nat} {L gs ks:List GV} (hne:r1≠r) (hi:i<L.length) (hg:gs[j]? = some (.own r1 sz1 0 n)) (hn:ks.length=n) :
 FE env ((r1,sz1,ks)::(r,sz,L.set i (.agg gs))::H) env ((r,sz,L.set i (.agg (gs.set j (.osl sz1 ks))))::H):=by
 have:=FE.close (env:=env) (H:=(r1,sz1,ks)::(r,sz,L.set i (.agg gs))::H) (r:=r) (r1:=r1) (Ne.symm hne) (by rw[Z1 hne,Z4]) (List.getElem?_set_self hi) hg Z4 hn
 rwa [ZQ hne,Zf,hdel_new,List.set_set] at this
theorem FE.close3 {env:Env} {H:GH} {r r1 sz sz1 i j n:Nat} {L gs ks es0:List GV} (hr:Z7 H r=some (sz,es0)) (hne:r1≠r) (hi:i<L.length) (hg:gs[j]? = some (.own r1 sz1 0 n)) (hn:ks.length=n) :
 FE env ((r1,sz1,ks)::Z3 H r (L.set i (.agg gs))) env (Z3 H r (L.set i (.agg (gs.set j (.osl sz1 ks))))):=by
 have:=FE.close (env:=env) (H:=(r1,sz1,ks)::Z3 H r (L.set i (.agg gs))) (r:=r) (r1:=r1) (Ne.symm hne) (by rw[Z1 hne,ZR hr]) (List.getElem?_set_self hi) hg Z4 hn
 rwa [ZQ hne,Z5,hdel_new,List.set_set] at this
theorem FE.swap {env:Env} {H:GH} {x y:Nat×Nat×List GV}:FE env (x::y::H) env (y::x::H):=by
 intro w0 D0 O0 N a w ⟨hdf,hsz,D,Ω,ρw,hi⟩
 obtain ⟨r1,sz1,es1⟩:=x
 obtain ⟨r2,sz2,es2⟩:=y
 obtain ⟨F1,G1,e1,h1,F2,F3,e2,h2,h3⟩:=hi.st.hm
 have hp:∀x,(F2++(F1++F3)).count x=Ω.count x:=by
  intro x;rw[e1,e2];simp only[List.count_append];omega
 have hmem:∀x∈F2++(F1++F3),x∈Ω:=fun x hx=>by
  have:=List.count_pos_iff.2 hx
  exact List.count_pos_iff.1 (by rw[←hp];exact this)
 refine ⟨hdf,hsz,D,F2++(F1++F3),ρw,hi.st' ⟨⟨F2,_,rfl,h2,F1,F3,rfl,h1,h3⟩,?_,?_,fun x hx=>hi.st.dj x (hmem x hx),hi.st.ds⟩ hmem⟩
 ·rw[List.nodup_iff_count]
  intro x
  rw[hp]
  exact List.nodup_iff_count.1 hi.st.nd x
 ·have:=hi.st.nn
  simp only[names,List.map_cons,List.nodup_cons,List.mem_cons,not_or] at this ⊢
  exact ⟨⟨fun e=>this.1.1 e.symm,this.2.1⟩,this.1.2,this.2.2⟩
theorem callS.borA {P:Program} {K:Env→GH→Prop} {is:List GI} {env:Env} {H:GH} {d:Option Nat} {det:Bool} {f:FuncId} {gs gs':List GV} {G:GV} (h:Pure P f gs' (· = G)) (hb:BorL H gs gs') (hs:scal G=true) (hk:Z6 P is K (gput env d G) H):callS P det f (some gs) d is K env H:=by
 cases det
 ·exact callS.bor h hb hs hk
 ·exact ⟨G,h.borrow hb (fun _ e=>by rw[e];exact hs),hk⟩
end Go.Gh
namespace Go.Gh
inductive Exp where
 | mk (kind n pos type:Int) (sym name:ByteArray) (args:List Exp)
def Exp.kind:Exp→Int | .mk k _ _ _ _ _ _ => k
def Exp.n:Exp→Int | .mk _ n _ _ _ _ _ => n
def Exp.pos:Exp→Int | .mk _ _ p _ _ _ _ => p
def Exp.type:Exp→Int | .mk _ _ _ t _ _ _ => t
def Exp.sym:Exp→ByteArray | .mk _ _ _ _ s _ _ => s
def Exp.name:Exp→ByteArray | .mk _ _ _ _ _ m _ => m
def Exp.args:Exp→List Exp | .mk _ _ _ _ _ _ a=>a
mutual
def Ex:Exp→GV
 | .mk k n p t s m a=> .agg [I k,I n,I p,I t,T s,T m,.sl 7 (ExL a)]
def ExL:List Exp→List GV
 | []=>[]
 | e::l=>Ex e::ExL l
end
theorem ExL_eq (l:List Exp):ExL l=l.map Ex:=by
 induction l with
 | nil=>rfl
 | cons e l ih=>simp[ExL,ih]
abbrev ExS (l:List Exp):GV:= .sl 7 (l.map Ex)
theorem Zz (e:Exp):Ex e = .agg [I e.kind,I e.n,I e.pos,I e.type,T e.sym,T e.name,ExS e.args]:=by
 cases e;simp only[Ex,ExL_eq];rfl
theorem Exp.ext_iff {x y:Exp}:x=y↔x.kind=y.kind∧x.n=y.n∧x.pos=y.pos∧x.type=y.type∧x.sym=y.sym∧x.name=y.name∧x.args=y.args:=by
 cases x;cases y
 simp[Exp.kind,Exp.n,Exp.pos,Exp.type,Exp.sym,Exp.name,Exp.args]
mutual
theorem Exp.indA {p:Exp→Prop} (h:∀e,(∀a∈e.args,p a)→p e):∀e,p e
 | .mk k n q t s m a=>h _ (Exp.indL h a)
theorem Exp.indL {p:Exp→Prop} (h:∀e,(∀a∈e.args,p a)→p e):∀(l:List Exp),∀a∈l,p a
 | [],a,hm=>by cases hm
 | e::l,a,hm=>by
  have he:p e:=Exp.indA h e
  have hl:=Exp.indL h l
  rcases List.mem_cons.1 hm with rfl|hm
  ·exact he
  ·exact hl a hm
end
mutual
def wEx:Exp→Nat
 | .mk _ _ _ _ s m a=>(Z9 s).length + (Z9 m).length + (a.length+wExL a)
def wExL:List Exp→Nat
 | []=>0
 | e::l=>wEx e+wExL l
end
theorem wExL_eq (l:List Exp):wExL l=(l.map wEx).sum := by
 induction l with
 | nil=>rfl
 | cons e l ih=>simp[wExL,ih]
theorem wEx_eq (e:Exp):wEx e=(Z9 e.sym).length + (Z9 e.name).length + wtS wEx e.args:=by
 cases e;simp only[wEx,wExL_eq,wtS];rfl
mutual
def okE:Exp→Prop
 | .mk _ _ _ _ s m a=>s.size≤maxLen∧m.size≤maxLen∧okEL a
def okEL:List Exp→Prop
 | []=>True
 | e::l=>okE e∧okEL l
end
theorem okEL_eq {l:List Exp}:okEL l↔∀a∈l,okE a:=by
 induction l with
 | nil=>simp[okEL]
 | cons e l ih=>simp[okEL,ih]
theorem okE_eq {e:Exp}:okE e↔e.sym.size≤maxLen∧e.name.size≤maxLen∧∀a∈e.args,okE a:=by
 cases e;simp only[okE,okEL_eq];rfl
mutual
instance decExp:(x y:Exp)→Decidable (x=y)
 | .mk k n p t s m a,.mk k' n' p' t' s' m' a'=>
  match decExpL a a' with
  | isTrue h=>decidable_of_iff (k=k'∧n=n'∧p=p'∧t=t'∧s=s'∧m=m') (by simp[h])
  | isFalse h=>isFalse (by simp[h])
instance decExpL:(x y:List Exp)→Decidable (x=y)
 | [],[]=>isTrue rfl
 | [],_ :: _ => isFalse (by simp)
 | _ :: _,[]=>isFalse (by simp)
 | e::l,e'::l'=>match decExp e e',decExpL l l' with
  | isTrue h,isTrue h'=>isTrue (by rw[h,h'])
  | isFalse h,_ => isFalse (by simp[h])
  | _,isFalse h=>isFalse (by simp[h])
end
theorem XI {e:Exp} (h:wEx e≤1048576):e.args.length≤1048576∧∀a∈e.args,wEx a≤1048576:=by
 rw[wEx_eq] at h
 simp only[wtS] at h
 refine ⟨oT,fun a ha=> ?_⟩
 have:=sum_mem wEx e.args a ha
 omega
theorem Xw (e:Exp):isAgg (Ex e)=true:=by rw[Zz];rfl
theorem geR_Ex (e:Exp):geR (some (Ex e))=some (Ex e):=by rw[Zz];rfl
theorem gsize_Ex (e:Exp):gsize (Ex e)=7:=by rw[Zz];rfl
theorem stor_Ex (e:Exp):ZC (Ex e)=true:=by rw[Zz];rfl
theorem view_Ex (e:Exp):view (Ex e)=Ex e:=by rw[Zz];rfl
end Go.Gh
namespace Go.Gh
open Go.RowKit Go.ChangeShapes Go.WideShapes Go.Deep
end Go.Gh
namespace Go.Gh
end Go.Gh
namespace Go.Gh
theorem wrapU (n:Int) (h:0≤n) (h2:n≤18446744073709551615):IntKind.u64.wrap n=n:=by
 simp only[IntKind.wrap,IntKind.bits,IntKind.signed]
 simp;omega
def satV (n:Int):Int:=max (-1000000) (min 1000000 n)
def trV (b:Bool):Int:=if b then 1 else 0
def coV (v k:Int):Int:=if k=1 then satV v else if k=2 then andI .i64 v 4095 else if k=3 then trV (!decide (v=0)) else if k=4∧0≤v∧v≤999 then v else 0
def okV (v k:Int):Bool:=decide (1≤k∧k≤4)&&decide (coV v k=v)
end Go.Gh
namespace Go.Gh
mutual
def Zl:Exp→Nat
 | .mk _ _ _ _ _ _ a=>1+cntEL a
def cntEL:List Exp→Nat
 | []=>0
 | e::l=>Zl e+cntEL l
end
theorem cntEL_eq (l:List Exp):cntEL l=(l.map Zl).sum := by
 induction l with
 | nil=>rfl
 | cons e l ih=>simp[cntEL,ih]
theorem YT (e:Exp):Zl e=1+(e.args.map Zl).sum := by
 cases e;simp only[Zl,cntEL_eq];rfl
theorem cntE_le:∀e,Zl e≤wEx e+1:=by
 refine Exp.indA fun e ih=> ?_
 rw[YT,wEx_eq]
 have:∀l:List Exp,(∀a∈l,Zl a≤wEx a+1)→(l.map Zl).sum ≤ l.length+(l.map wEx).sum := by
  intro l
  induction l with
  | nil=>intro _;simp
  | cons a l ih=>
   intro h
   have h1:=h a (by simp)
   have h2:=ih fun b hb=>h b (by simp[hb])
   simp only[List.map_cons,List.sum_cons,List.length_cons];omega
 have:=this e.args ih
 simp only[wtS];omega
theorem sumT (f:Exp→Nat) (l:List Exp) (i:Nat) (h:i<l.length):((l.take (i+1)).map f).sum = ((l.take i).map f).sum + f l[i]:=psum_succ f l i h
theorem sumT_le (f:Exp→Nat) (l:List Exp) (i:Nat):((l.take i).map f).sum ≤ (l.map f).sum := psum_le f l i
def mxL:List Nat→Nat
 | []=>0
 | a::l=>max a (mxL l)
theorem mxL_app (l m:List Nat):mxL (l++m)=max (mxL l) (mxL m):=by
 induction l with
 | nil=>simp[mxL]
 | cons a l ih=>simp only[List.cons_append,mxL,ih];omega
theorem mxL_le (l:List Nat):mxL l≤l.sum:=by
 induction l with
 | nil=>simp[mxL]
 | cons a l ih=>simp only[mxL,List.sum_cons];omega
mutual
def dpE:Exp→Nat
 | .mk _ _ _ _ _ _ a=>1+dpEL a
def dpEL:List Exp→Nat
 | []=>0
 | e::l=>max (dpE e) (dpEL l)
end
theorem dpEL_eq (l:List Exp):dpEL l=mxL (l.map dpE):=by
 induction l with
 | nil=>rfl
 | cons e l ih=>simp[dpEL,mxL,ih]
theorem dpE_eq (e:Exp):dpE e=1+mxL (e.args.map dpE):=by
 cases e;simp only[dpE,dpEL_eq];rfl
theorem sumL_le {l:List Exp} {f g:Exp→Nat} (h:∀a∈l,f a≤g a):(l.map f).sum ≤ (l.map g).sum := by
 induction l with
 | nil=>simp
 | cons a l ih=>
  have h1:=h a (by simp)
  have h2:=ih fun b hb=>h b (by simp[hb])
  simp only[List.map_cons,List.sum_cons];omega
theorem dpE_le:∀e,dpE e≤Zl e:=by
 refine Exp.indA fun e ih=> ?_
 rw[YT,dpE_eq]
 have h1:=mxL_le (e.args.map dpE)
 have h2:=sumL_le ih
 omega
theorem mxT (f:Exp→Nat) (l:List Exp) (i:Nat) (h:i<l.length):mxL ((l.take (i+1)).map f)=max (mxL ((l.take i).map f)) (f l[i]):=by
 rw[List.take_succ_eq_append_getElem h,List.map_append,mxL_app];simp[mxL]
theorem mxT_le (f:Exp→Nat) (l:List Exp) (i:Nat):mxL ((l.take i).map f)≤(l.map f).sum :=
 Nat.le_trans (mxL_le _) (sumT_le f l i)
end Go.Gh
namespace Go.Gh
mutual
def YI (p:Exp→Bool):Exp→Bool
 | .mk k n q t s m a=>p (.mk k n q t s m a)&&allEL p a
def allEL (p:Exp→Bool):List Exp→Bool
 | []=>true
 | e::l=>YI p e&&allEL p l
end
theorem allEL_eq (p:Exp→Bool) (l:List Exp):allEL p l=l.all (YI p):=by
 induction l with
 | nil=>rfl
 | cons e l ih=>simp[allEL,ih]
theorem allE_eq (p:Exp→Bool) (e:Exp):YI p e=(p e&&e.args.all (YI p)):=by
 cases e;simp only[YI,allEL_eq];rfl
theorem any_ix {α:Type} (p:α→Bool) (l:List α):decide (0≤ixOf p l)=l.any p:=by
 unfold ixOf
 cases h:l.findIdx? p with
 | none=>
  have:=List.findIdx?_eq_none_iff.1 h
  simp;exact this
 | some i=>
  obtain ⟨h1,h2,_⟩:=List.findIdx?_eq_some_iff_getElem.1 h
  simp
  exact ⟨l[i],List.getElem_mem h1,h2⟩
theorem any_not {α:Type} (p:α→Bool) (l:List α):(!l.any fun a=> !p a)=l.all p:=by
 induction l with
 | nil=>rfl
 | cons a l ih=>simp only[List.any_cons,List.all_cons,Bool.not_or,Bool.not_not,ih]
theorem all_take {p:Exp→Bool} {l:List Exp} {i:Nat} (h:i<l.length) (hp:p l[i]=true) (hn:∀a∈l.take i,p a=true):∀a∈l.take (i+1),p a=true:=by
 intro a ha
 rw[List.take_add_one,List.getElem?_eq_getElem h,Option.toList_some,List.mem_append] at ha
 rcases ha with ha|ha
 ·exact hn a ha
 ·simp only[List.mem_singleton] at ha;rw[ha];exact hp
end Go.Gh
namespace Go.Gh
def Y9 (c:UInt8):Bool:=decide (97≤(c.toNat:Int))&&decide ((c.toNat:Int)≤122)
def ZH (c:UInt8):Bool:=decide (48≤(c.toNat:Int))&&decide ((c.toNat:Int)≤57)
def kwS:List ByteArray:=[⟨#[105,102]⟩,⟨#[116,104,101,110]⟩,⟨#[101,108,115,101]⟩,⟨#[116,114,117,101]⟩,⟨#[102,97,108,115,101]⟩,⟨#[108,105,116]⟩,⟨#[110,111,110,101]⟩,
 ⟨#[115,101,108,102]⟩,⟨#[111,102]⟩,⟨#[109,97,120]⟩,⟨#[109,105,110]⟩,⟨#[119,105,116,104]⟩,⟨#[104,97,115]⟩]
def hasS (l:List ByteArray) (s:ByteArray):Bool:=l.any fun x=>decide (x=s)
theorem hasS_hit {l:List ByteArray} {s:ByteArray} {i:Nat} (h:i<l.length) (e:l[i]=s):hasS l s=true:=by
 simp only[hasS,List.any_eq_true];exact ⟨l[i],List.getElem_mem h,by simp[e]⟩
theorem hasS_none {l:List ByteArray} {s:ByteArray} (h:∀x∈l,decide (x=s)=false):hasS l s=false:=by
 simp only[hasS,List.any_eq_false];intro x hx;simpa using h x hx
def resV (s:ByteArray):Bool:=hasS kwS s
def shp:List UInt8→Bool
 | []=>false
 | c::l=>Y9 c&&l.all fun c=>Y9 c||ZH c
theorem shp_iff (l:List UInt8):shp l=true↔0<l.length∧∀(j:Nat) (h:j<l.length),Y9 l[j]=true∨(j≠0∧ZH l[j]=true):=by
 cases l with
 | nil=>simp[shp]
 | cons c l=>
  simp only[shp,Bool.and_eq_true,List.all_eq_true,Bool.or_eq_true,List.length_cons]
  constructor
  ·rintro ⟨h1,h2⟩
   refine ⟨oT,fun j hj=> ?_⟩
   cases j with
   | zero=>exact .inl h1
   | succ j=>
    have:=h2 l[j] (List.getElem_mem _)
    simp only[List.getElem_cons_succ]
    rcases this with h|h
    ·exact .inl h
    ·exact .inr ⟨oT,h⟩
  ·rintro ⟨_,h⟩
   constructor
   ·have:=h 0 oT
    simpa using this
   ·intro x hx
    obtain ⟨j,hj,rfl⟩:=List.mem_iff_getElem.1 hx
    have:=h (j+1) oT
    simp only[List.getElem_cons_succ] at this
    rcases this with h|h
    ·exact .inl h
    ·exact .inr h.2
def ZV (s:ByteArray):Bool:=shp (Z9 s)&&decide ((Z9 s).length ≤ 8) && !resV s
end Go.Gh
namespace Go.Gh
theorem shp_bad {l:List UInt8} {i:Nat} (h:i<l.length) (h1:¬(Y9 l[i]=true∨(i≠0∧ZH l[i]=true))):shp l=false:=by
 cases hs:shp l with
 | false=>rfl
 | true=>exact absurd (((shp_iff l).1 hs).2 i h) h1
theorem shp_step {l:List UInt8} {i:Nat} (h:i<l.length) (hn:∀(j:Nat) (h:j<l.length),j<i→Y9 l[j]=true∨(j≠0∧ZH l[j]=true)) (hg:Y9 l[i]=true∨(i≠0∧ZH l[i]=true)) :
 ∀(j:Nat) (h:j<l.length),j<i+1→Y9 l[j]=true∨(j≠0∧ZH l[j]=true):=by
 intro j hj hji
 by_cases e:j=i
 ·subst e;exact hg
 ·exact hn j hj oT
theorem shp_end {l:List UInt8} (hn:∀(j:Nat) (h:j<l.length),j<l.length→Y9 l[j]=true∨(j≠0∧ZH l[j]=true)):shp l=decide (0<l.length):=by
 by_cases h:0<l.length
 ·rw[decide_eq_true h];exact (shp_iff l).2 ⟨h,fun j hj=>hn j hj hj⟩
 ·rw[decide_eq_false h]
  cases l with
  | nil=>rfl
  | cons a l=>simp at h
end Go.Gh
namespace Go.Gh
def arity (k:Int):Nat:=if k=4 then 2 else if k=5 then 3 else if k=8 then 1 else 0
def noS:ByteArray:=⟨#[]⟩
def bareV (e:Exp):Bool:=
 decide (e.args.length=arity e.kind)&&(decide (e.kind=3∨e.kind=6)||decide (e.pos=0))&&(decide (e.kind=3∨e.kind=8)||decide (e.name=noS))&&(decide (e.kind=1∨e.kind=4)||decide (e.n=0)) &&
 (decide (e.kind=1)||decide (e.type=0))&&(decide (e.kind=8)||decide (e.sym=noS))
end Go.Gh
namespace Go.Gh
theorem nraw_Ex (e:Exp):nraw (Ex e)=true:=by rw[Zz];rfl
theorem clean_Ex (e:Exp):clean (Ex e)=true:=by rw[Zz];rfl
theorem sub_Ex0 (e:Exp):sub (Ex e) 0 1 false=some (I e.kind):=by rw[Zz];rfl
theorem sub_Ex1 (e:Exp):sub (Ex e) 1 1 false=some (I e.n):=by rw[Zz];rfl
theorem sub_Ex2 (e:Exp):sub (Ex e) 2 1 false=some (I e.pos):=by rw[Zz];rfl
theorem sub_Ex3 (e:Exp):sub (Ex e) 3 1 false=some (I e.type):=by rw[Zz];rfl
theorem sub_Ex4 (e:Exp):sub (Ex e) 4 1 false=some (T e.sym):=by rw[Zz];rfl
theorem sub_Ex5 (e:Exp):sub (Ex e) 5 1 false=some (T e.name):=by rw[Zz];rfl
theorem sub_Ex6 (e:Exp):sub (Ex e) 6 1 false=some (ExS e.args):=by rw[Zz];rfl
theorem fold_Ex (e:Exp):GV.agg [I e.kind,I e.n,I e.pos,I e.type,T e.sym,T e.name,.sl 7 (e.args.map Ex)]=Ex e:=(Zz e).symm
abbrev ExC (e:Exp):List GV:=[I e.kind,I e.n,I e.pos,I e.type,T e.sym,T e.name,ExS e.args]
theorem upd_Ex (gs:List GV) (o:Nat) (e:Exp):upd (.agg gs) o (Ex e)=if o+7≤gs.length then some (.agg (gs.take o++(ExC e++gs.drop (o+7)))) else none:=by rw[Zz];rfl
theorem upd_ExO (e:Exp) (o r sz k n:Nat):upd (Ex e) o (.own r sz k n)=if o<7 then some (.agg ((ExC e).set o (.own r sz k n))) else none:=by rw[Zz];rfl
theorem XE:type_of% (jO @Xw (jO @geR_Ex (jO @gsize_Ex (jO @stor_Ex (jO @nraw_Ex (jO @clean_Ex (jO @sub_Ex0 (jO @sub_Ex1 (jO @sub_Ex2 (jO @sub_Ex3 (jO @sub_Ex4 (jO @sub_Ex5 (jO @sub_Ex6 (jO @fold_Ex (jO @upd_ExO @upd_Ex))))))))))))))):=
 jO @Xw (jO @geR_Ex (jO @gsize_Ex (jO @stor_Ex (jO @nraw_Ex (jO @clean_Ex (jO @sub_Ex0 (jO @sub_Ex1 (jO @sub_Ex2 (jO @sub_Ex3 (jO @sub_Ex4 (jO @sub_Ex5 (jO @sub_Ex6 (jO @fold_Ex (jO @upd_ExO @upd_Ex))))))))))))))
@[ext] structure Att where
 name:ByteArray
 type:Int
 mode:Int
 circ:Bool
deriving DecidableEq
abbrev At (x:Att):GV:= .agg [T x.name,I x.type,I x.mode,B x.circ]
abbrev AtS (l:List Att):GV:= .sl 4 (l.map At)
@[ext] structure Sym where
 name:ByteArray
 atts:List Att
deriving DecidableEq
abbrev Sy (x:Sym):GV:= .agg [T x.name,AtS x.atts]
abbrev SyS (l:List Sym):GV:= .sl 2 (l.map Sy)
@[ext] structure Eqn where
 pos:Int
 name:ByteArray
 expr:Exp
deriving DecidableEq
abbrev Qn (x:Eqn):GV:= .agg [I x.pos,T x.name,I x.expr.kind,I x.expr.n,I x.expr.pos,I x.expr.type,T x.expr.sym,T x.expr.name,ExS x.expr.args]
abbrev QnS (l:List Eqn):GV:= .sl 9 (l.map Qn)
@[ext] structure Con where
 sym:ByteArray
 name:ByteArray
 goal:Exp
 value:Exp
deriving DecidableEq
abbrev Co (x:Con):GV:= .agg [T x.sym,T x.name,I x.goal.kind,I x.goal.n,I x.goal.pos,I x.goal.type,T x.goal.sym,T x.goal.name,ExS x.goal.args,I x.value.kind,I x.value.n,I x.value.pos,I x.value.type,T x.value.sym,T x.value.name,ExS x.value.args]
abbrev CoS (l:List Con):GV:= .sl 16 (l.map Co)
abbrev TS (l:List ByteArray):GV:= .sl 1 (l.map T)
@[ext] structure Rul where
 name:ByteArray
 left:ByteArray
 right:List ByteArray
 lit:Bool
 eqs:List Eqn
 cons:List Con
deriving DecidableEq
abbrev Ru (x:Rul):GV:= .agg [T x.name,T x.left,TS x.right,B x.lit,QnS x.eqs,CoS x.cons]
abbrev RuS (l:List Rul):GV:= .sl 6 (l.map Ru)
@[ext] structure Gram where
 syms:List Sym
 rules:List Rul
deriving DecidableEq
abbrev Gr (g:Gram):GV:= .agg [SyS g.syms,RuS g.rules]
def okAt (x:Att):Prop:=x.name.size≤maxLen
def okSy (x:Sym):Prop:=x.name.size≤maxLen∧∀a∈x.atts,okAt a
def okEq (x:Eqn):Prop:=x.name.size≤maxLen∧okE x.expr
def okCo (x:Con):Prop:=x.sym.size≤maxLen∧x.name.size≤maxLen∧okE x.goal∧okE x.value
def okRu (x:Rul):Prop:=x.name.size≤maxLen∧x.left.size≤maxLen∧(∀s∈x.right,s.size≤maxLen)∧(∀q∈x.eqs,okEq q)∧∀c∈x.cons,okCo c
def okGr (g:Gram):Prop:=(∀s∈g.syms,okSy s)∧∀r∈g.rules,okRu r
def smSy (x:Sym):Prop:=x.atts.length≤1048576
def smEq (x:Eqn):Prop:=wEx x.expr≤1048576
def smCo (x:Con):Prop:=wEx x.goal≤1048576∧wEx x.value≤1048576
def smRu (x:Rul):Prop:=x.right.length≤1048576∧x.eqs.length≤1048576∧x.cons.length≤1048576∧(∀q∈x.eqs,smEq q)∧∀c∈x.cons,smCo c
def smGr (g:Gram):Prop:=g.syms.length≤1048576∧g.rules.length≤1048576∧(∀s∈g.syms,smSy s)∧∀r∈g.rules,smRu r
theorem Zc {α:Type} {l:List α} {i:Nat} {d:α} (h:i<l.length):l.getD i d=l[i]:=by
 rw[List.getD_eq_getElem?_getD,List.getElem?_eq_getElem h];rfl
def symZ:Sym:=⟨noS,[]⟩
def attZ:Att:=⟨noS,0,0,false⟩
def rulZ:Rul:=⟨noS,noS,[],false,[],[]⟩
def fRul (l:List Rul) (n:ByteArray):Rul:=(l.find? fun s=>decide (s.name=n)).getD rulZ
def hRul (l:List Rul) (n:ByteArray):Bool:=(l.find? fun s=>decide (s.name=n)).isSome
end Go.Gh
namespace Go.Gh
end Go.Gh
namespace Go.Gh
theorem t_T {g:GV} (h:ET false [.str] g):∃s:ByteArray,g=T s∧s.size≤maxLen:=by
 obtain ⟨s,rfl,hs⟩:=t_one h
 exact ⟨s,rfl,hs⟩
end Go.Gh
namespace Go.Gh
theorem okV1 (n:Int):okV n 1=decide (-1000000≤n∧n≤1000000):=by
 simp only[okV,coV,satV]
 by_cases h : -1000000≤n∧n≤1000000
 ·simp[h];omega
 ·simp[h];omega
end Go.Gh
namespace Go.Gh
theorem takeApp2 {α β:Type} (f:β→GV) (h:α→β) (l:List α) (i:Nat) (hi:i<l.length):List.take i (List.map f (List.map h (List.take i l)))++[f (h l[i])]=List.map f (List.map h (List.take (i+1) l)):=by
 have:=takeApp (fun a=>f (h a)) l i hi
 simp only[List.map_map];exact this
end Go.Gh
namespace Go.Gh
theorem Bor.of_eq {H:GH} {g g':GV} (h:g=g'):Bor H g g':=h▸Bor.refl
end Go.Gh
namespace Go.Gh
def YJ (e:Exp):Bool:=
 decide (1≤e.kind∧e.kind≤8)&&bareV e &&
 (if e.kind=1 then decide (1≤e.type∧e.type≤3)&&okV e.n e.type&&decide (0≤e.n) else
  if e.kind=3 then decide (0≤e.pos∧e.pos≤3)&&ZV e.name else
  if e.kind=6 then decide (0≤e.pos∧e.pos≤3) else
  if e.kind=4 then decide (1≤e.n∧e.n≤12) else
  if e.kind=8 then ZV e.sym&&ZV e.name else true)
def Zh (e:Exp):Bool:=decide (Zl e≤24)&&decide (dpE e≤6)&&YI YJ e
theorem allE_args {p:Exp→Bool} {e:Exp} (h:YI p e=true):p e=true∧∀a∈e.args,YI p a=true:=by
 rw[allE_eq,Bool.and_eq_true,List.all_eq_true] at h
 exact h
theorem shp_iff' (l:List UInt8):shp l=true↔0<l.length∧(∀h:0<l.length,Y9 l[0]=true)∧∀(j:Nat) (h:j<l.length),Y9 l[j]=true∨ZH l[j]=true:=by
 rw[shp_iff]
 constructor
 ·rintro ⟨h1,h2⟩
  refine ⟨h1,fun h=> ?_,fun j hj=> ?_⟩
  ·rcases h2 0 h with h3|h3
   ·exact h3
   ·exact absurd rfl h3.1
  ·rcases h2 j hj with h3|h3
   ·exact .inl h3
   ·exact .inr h3.2
 ·rintro ⟨h1,h2,h3⟩
  refine ⟨h1,fun j hj=> ?_⟩
  by_cases h0:j=0
  ·subst h0;exact .inl (h2 hj)
  ·rcases h3 j hj with h4|h4
   ·exact .inl h4
   ·exact .inr ⟨h0,h4⟩
theorem shp_no {l:List UInt8} {i:Nat} (h:i<l.length) (h1:Y9 l[i]=false) (h2:ZH l[i]=false):shp l=false:=by
 cases hs:shp l with
 | false=>rfl
 | true=>
  rcases ((shp_iff' l).1 hs).2.2 i h with h3|h3
  ·rw[h1] at h3;cases h3
  ·rw[h2] at h3;cases h3
theorem shp_no0 {l:List UInt8} (h:0<l.length) (h1:Y9 l[0]=false):shp l=false:=by
 cases hs:shp l with
 | false=>rfl
 | true=>
  have:=((shp_iff' l).1 hs).2.1 h
  rw[h1] at this;cases this
theorem shp_yes {l:List UInt8} (h:0<l.length) (h1:Y9 l[0]=true) (hn:∀(j:Nat) (h:j<l.length),Y9 l[j]=true∨ZH l[j]=true):shp l=true:=(shp_iff' l).2 ⟨h,fun _ => h1,hn⟩
end Go.Gh
namespace Go.Gh
theorem Bor.clo {H:GH} {f:Nat} {gs gs':List GV} (h:BorL H gs gs'):Bor H (.clo f gs) (.clo f gs'):=fun w D Ω v hst hm=>by
 simp only[MV] at hm ⊢
 obtain ⟨h0,vs,h1,h2⟩:=hm
 exact ⟨h0,vs,h1,h w D Ω vs hst h2⟩
theorem Bor.rop {H:GH} {sz:Nat} {g g':GV} (h:Bor H g g'):Bor H (.rop sz g) (.rop sz g'):=fun w D Ω v hst hm=>by
 simp only[MV] at hm ⊢
 obtain ⟨h0,b,off,u,h1,h2,h3,h4,h5,h6⟩:=hm
 exact ⟨h0,b,off,u,h1,.inl h2,h3,h4,h5,h w D Ω u hst h6⟩
theorem Xr (s:ByteArray):ZV s=(shp (Z9 s)&&decide ((Z9 s).length ≤ 8) && !resV s):=rfl
theorem okV_rng {n t:Int} (h:okV n t=true):1≤t∧t≤4:=by
 simp only[okV,Bool.and_eq_true,decide_eq_true_eq] at h;exact h.1
theorem allE_no {p:Exp→Bool} {e:Exp} {i:Nat} (h:i<e.args.length) (hb:YI p e.args[i]=false):YI p e=false:=by
 rw[allE_eq]
 have:e.args.all (YI p)=false:=by
  rw[List.all_eq_false]
  exact ⟨e.args[i],List.getElem_mem h,by simp[hb]⟩
 rw[this,Bool.and_false]
theorem allE_yes {p:Exp→Bool} {e:Exp} (h:∀a∈e.args,YI p a=true):YI p e=p e:=by
 rw[allE_eq,List.all_eq_true.2 h,Bool.and_true]
end Go.Gh
namespace Go.Gh
theorem noS_eq:(ByteArray.mk #[])=noS:=rfl
end Go.Gh
namespace Go.Gh
abbrev SyO (x:Sym):GV:= .agg [T x.name,.osl 4 (x.atts.map At)]
mutual
def ExO:Exp→GV
 | .mk k n p t s m a=> .agg [I k,I n,I p,I t,T s,T m,.osl 7 (ExOL a)]
def ExOL:List Exp→List GV
 | []=>[]
 | e::l=>ExO e::ExOL l
end
theorem ExOL_eq (l:List Exp):ExOL l=l.map ExO:=by
 induction l with
 | nil=>rfl
 | cons e l ih=>simp[ExOL,ih]
theorem ExO_eq (e:Exp):ExO e = .agg [I e.kind,I e.n,I e.pos,I e.type,T e.sym,T e.name,.osl 7 (e.args.map ExO)]:=by
 cases e;simp only[ExO,ExOL_eq];rfl
abbrev QnO (x:Eqn):GV:= .agg [I x.pos,T x.name,I x.expr.kind,I x.expr.n,I x.expr.pos,I x.expr.type,T x.expr.sym,T x.expr.name,.osl 7 (x.expr.args.map ExO)]
abbrev CoO (x:Con):GV:= .agg [T x.sym,T x.name,I x.goal.kind,I x.goal.n,I x.goal.pos,I x.goal.type,T x.goal.sym,T x.goal.name,.osl 7 (x.goal.args.map ExO),I x.value.kind,I x.value.n,I x.value.pos,I x.value.type,T x.value.sym,T x.value.name,.osl 7 (x.value.args.map ExO)]
abbrev RuO (x:Rul):GV:= .agg [T x.name,T x.left,.osl 1 (x.right.map T),B x.lit,.osl 9 (x.eqs.map QnO),.osl 16 (x.cons.map CoO)]
theorem view_ExO:∀e:Exp,view (ExO e)=Ex e:=by
 refine Exp.indA fun e ih=> ?_
 rw[ExO_eq,Zz]
 have:(e.args.map ExO).map view=e.args.map Ex:=by
  rw[List.map_map];exact List.map_congr_left fun a ha=>ih a ha
 simp[view,Zn,YZ,this]
theorem view_QnO (x:Eqn):view (QnO x)=Qn x:=by simp[view,Zn,YZ,view_ExO]
theorem view_CoO (x:Con):view (CoO x)=Co x:=by simp[view,Zn,YZ,view_ExO]
theorem view_SyO (x:Sym):view (SyO x)=Sy x:=by simp[view,Zn,YZ]
theorem view_RuO (x:Rul):view (RuO x)=Ru x:=by
 have h1:(x.eqs.map QnO).map view=x.eqs.map Qn:=by rw[List.map_map];exact List.map_congr_left fun a _ => view_QnO a
 have h2:(x.cons.map CoO).map view=x.cons.map Co:=by rw[List.map_map];exact List.map_congr_left fun a _ => view_CoO a
 simp only[view,Zn,YZ,h1,h2]
 simp[view]
theorem Bor.seen {α:Type} {f g:α→GV} {H:GH} {r sz n:Nat} {l:List α} (hv:∀a,view (f a)=g a) (hr:Z7 H r=some (sz,l.map f)) (hl:l.length=n):Bor H (.own r sz 0 n) (.sl sz (l.map g)):=by
 have:=Bor.own (k:=0) (n:=n) hr (by simp[hl])
 rw[List.drop_zero,List.take_of_length_le (by simp[hl]),YZ,List.map_map] at this
 have e:l.map (view ∘ f)=l.map g:=List.map_congr_left fun a _ => hv a
 rwa [e] at this
theorem bor_Gr {H:GH} {rs rr n m:Nat} {g:Gram} (h1:Z7 H rs=some (2,g.syms.map SyO)) (h2:Z7 H rr=some (6,g.rules.map RuO)) (hn:g.syms.length=n) (hm:g.rules.length=m):Bor H (.agg [.own rs 2 0 n,.own rr 6 0 m]) (Gr g):=
 .agg (.cons (Bor.seen view_SyO h1 hn) (.cons (Bor.seen view_RuO h2 hm) .nil))
section
variable {P:Program} {α:Type} {f:α→GV} {k kx sz:Nat} {ag:Bool}
end
theorem FR.perm {g:GV} {H L T:GH} (hs:subH H L):FR g (H++T) g (L++T):=by
 intro w D Ω v hv hst
 obtain ⟨Ω',h1,h2⟩:=St.sub hst hs
 exact ⟨D,Ω',hv,h1,⟨fun _ h=>h,fun _ _ h=> .inl h,fun b hb _ => h2 b hb,Kept.refl _ _,rfl,rfl,rfl⟩⟩
end Go.Gh
namespace Go.Gh
theorem FE.closeL {env:Env} {H:GH} {r r1 sz sz1 j n:Nat} {L gs ks:List GV} (hne:r≠r1) (hr:Z7 H r=some (sz,L++[.agg gs])) (hg:gs[j]? = some (.own r1 sz1 0 n)) (hr1:Z7 H r1=some (sz1,ks)) (hn:ks.length=n) :
 FE env H env (ZK (Z3 H r (L++[.agg (gs.set j (.osl sz1 ks))])) r1):=by
 have:=FE.close (env:=env) (i:=L.length) hne hr (by simp) hg hr1 hn
 simpa using this
end Go.Gh
namespace Go.Gh
section
variable {α:Type} (w:α→Nat) (m:α→Int→α)
def smw:List α→Nat
 | []=>0
 | a::l=>w a+smw l
def smk:List α→Int→List α
 | [],_ => []
 | a::l,k=>m a k::smk l (k+w a)
theorem ZP:∀(l:List α) (k:Int),(smk w m l k).length = l.length
 | [],_ => rfl
 | a::l,k=>by simp[smk,ZP l]
theorem smw_app:∀(l u:List α),smw w (l++u)=smw w l+smw w u
 | [],u=>by simp[smw]
 | a::l,u=>by simp[smw,smw_app l u];omega
theorem smk_snoc:∀(l:List α) (k:Int) (x:α),smk w m (l++[x]) k=smk w m l k++[m x (k+smw w l)]
 | [],k,x=>by simp[smk,smw]
 | a::l,k,x=>by
  have:=smk_snoc l (k+w a) x
  have e:k+(w a:Int)+(smw w l:Int)=k+((w a+smw w l:Nat):Int):=by omega
  simp[smk,smw,this,e]
theorem Yk {l:List α} {i:Nat} (h:i<l.length):smw w (l.take (i+1))=smw w (l.take i)+w l[i]:=by
 rw[List.take_add_one,List.getElem?_eq_getElem h,smw_app];simp[smw]
theorem Yj (l:List α) (i:Nat):smw w (l.take i)≤smw w l:=by
 have:=smw_app w (l.take i) (l.drop i)
 rw[List.take_append_drop] at this
 omega
theorem smk_step {l:List α} {i:Nat} {k:Int} (h:i<l.length):smk w m (l.take (i+1)) k=smk w m (l.take i) k++[m l[i] (k+smw w (l.take i))]:=by
 rw[List.take_add_one,List.getElem?_eq_getElem h];exact smk_snoc w m _ _ _
theorem smk_get:∀{l:List α} {k:Int} {i:Nat} (h:i<l.length),(smk w m l k)[i]? = some (m l[i] (k+smw w (l.take i)))
 | a::l,k,0,h=>by simp[smk,smw]
 | a::l,k,i+1,h=>by
  have:=smk_get (l:=l) (k:=k+w a) (i:=i) (by simpa using h)
  have e:k+(w a:Int)+(smw w (l.take i):Int)=k+((w a+smw w (l.take i):Nat):Int):=by omega
  simp[smk,smw,this,e]
theorem smk_getE {l:List α} {k:Int} {i:Nat} (h:i<l.length) (h':i<(smk w m l k).length := by simpa[ZP] using h):(smk w m l k)[i]=m l[i] (k+smw w (l.take i)):=by
 have:=smk_get w m (k:=k) h
 rw[List.getElem?_eq_getElem h'] at this
 simpa using this
theorem smid_get {l:List α} {k:Int} {i:Nat} (h:i<l.length) (h':i<(smk w m (l.take i) k++l.drop i).length):(smk w m (l.take i) k++l.drop i)[i]=l[i]:=by
 rw[List.getElem_append_right (by simp[ZP];omega)]
 have e:i+(i-(smk w m (l.take i) k).length)=i:=by simp[ZP];omega
 simp only[List.getElem_drop,e]
theorem smid_set {l:List α} {k:Int} {i:Nat} (h:i<l.length):(smk w m (l.take i) k++l.drop i).set i (m l[i] (k+smw w (l.take i)))=smk w m (l.take (i+1)) k++l.drop (i+1):=by
 rw[List.set_append_right _ _ (by simp[ZP];omega),smk_step w m h]
 have e:i-(smk w m (l.take i) k).length = 0:=by simp[ZP];omega
 rw[e,List.drop_eq_getElem_cons h,List.set_cons_zero,List.append_assoc]
 rfl
theorem smid_len {l:List α} {k:Int} {i:Nat}:(smk w m (l.take i) k++l.drop i).length = l.length:=by
 simp[ZP];omega
theorem X4 (hw:∀a,1≤w a):∀l:List α,l.length≤smw w l
 | []=>by simp
 | a::l=>by have:=hw a;have:=X4 hw l;simp only[smw,List.length_cons];omega
theorem smw_sum {f:α→Nat} (c:Nat):∀{l:List α},(∀a∈l,w a≤c * (1+f a))→smw w l≤c * wtS f l
 | [],_ => by simp[smw]
 | a::l,h=>by
  have h1:=h a (by simp)
  have h2:=smw_sum (f:=f) (l:=l) c (fun b hb=>h b (by simp[hb]))
  simp only[wtS,List.length_cons,List.map_cons,List.sum_cons,smw] at h2 ⊢
  have e:c * (l.length+1+(f a+(l.map f).sum))=c * (1+f a)+c * (l.length+(l.map f).sum):=by
   rw[←Nat.mul_add];congr 1;omega
  omega
end
section
variable {α:Type} {f:α→α}
end
theorem FE.closeT {env:Env} {T:GH} {r r2 sz sz2 i j n:Nat} {L gs ks:List GV} (hne:r2≠r) (hr:Z7 T r=some (sz,L.set i (.agg gs))) (hi:i<L.length) (hg:gs[j]? = some (.own r2 sz2 0 n)) (hn:ks.length=n) :
 FE env ((r2,sz2,ks)::T) env (Z3 T r (L.set i (.agg (gs.set j (.osl sz2 ks))))):=by
 have:=FE.close (env:=env) (H:=(r2,sz2,ks)::T) (r:=r) (r1:=r2) (i:=i) (j:=j) (Ne.symm hne) (by rw[Z1 hne];exact hr) (List.getElem?_set_self hi) hg Z4 hn
 rwa [ZQ hne,hdel_new,List.set_set] at this
abbrev wS (_ : ByteArray):Nat:=1
abbrev mkTx (_ : ByteArray) (k:Int):ByteArray:=Yn k
abbrev wI (_ : Int×ByteArray):Nat:=2
abbrev wA (_ : Att):Nat:=4
abbrev mkA (_ : Att) (k:Int):Att:=⟨Yn k,k+1,k+1+1,decide ((k+1+1+1).tmod 3=0)⟩
abbrev Zb (x:Sym):Nat:=1+smw wA x.atts
abbrev mkSym (x:Sym) (k:Int):Sym:=⟨Yn k,smk wA mkA x.atts (k+1)⟩
mutual
def ctE:Exp→Nat
 | .mk _ _ _ _ _ _ a=>6+ctEL a
def ctEL:List Exp→Nat
 | []=>0
 | e::l=>ctE e+ctEL l
end
theorem ctEL_eq (l:List Exp):ctEL l=smw ctE l:=by
 induction l with
 | nil=>rfl
 | cons e l ih=>simp[ctEL,smw,ih]
theorem ctE_eq (e:Exp):ctE e=6+smw ctE e.args:=by
 cases e;simp only[ctE,ctEL_eq];rfl
mutual
def mkE:Exp→Int→Exp
 | .mk _ _ _ _ _ _ a,k=> .mk k (k+1) (k+1+1) (k+1+1+1) (Yn (k+1+1+1+1)) (Yn (k+1+1+1+1+1)) (mkEL a (k+1+1+1+1+1+1))
def mkEL:List Exp→Int→List Exp
 | [],_ => []
 | e::l,k=>mkE e k::mkEL l (k+ctE e)
end
theorem mkEL_eq:∀(l:List Exp) (k:Int),mkEL l k=smk ctE mkE l k
 | [],_ => rfl
 | e::l,k=>by simp[mkEL,smk,mkEL_eq l]
theorem mkE_eq (e:Exp) (k:Int):mkE e k = .mk k (k+1) (k+1+1) (k+1+1+1) (Yn (k+1+1+1+1)) (Yn (k+1+1+1+1+1)) (smk ctE mkE e.args (k+1+1+1+1+1+1)):=by
 cases e;simp only[mkE,mkEL_eq];rfl
theorem ctE_le:∀e:Exp,ctE e≤6 * (1+wEx e):=by
 refine Exp.indA fun e ih=> ?_
 have h:=smw_sum ctE (f:=wEx) 6 ih
 rw[ctE_eq,wEx_eq]
 omega
abbrev wQ (x:Eqn):Nat:=2+ctE x.expr
abbrev mkQ (x:Eqn) (k:Int):Eqn:=⟨k,Yn (k+1),mkE x.expr (k+1+1)⟩
abbrev wC (x:Con):Nat:=2+ctE x.goal+ctE x.value
abbrev mkC (x:Con) (k:Int):Con:=⟨Yn k,Yn (k+1),mkE x.goal (k+1+1),mkE x.value (k+1+1+1+1+1+1+1+1+smw ctE x.goal.args)⟩
abbrev wR (x:Rul):Nat:=3+smw wS x.right+smw wQ x.eqs+smw wC x.cons
abbrev mkR (x:Rul) (k:Int):Rul:=⟨Yn k,Yn (k+1),smk wS mkTx x.right (k+1+1),decide ((k+1+1+smw wS x.right).tmod 3=0),smk wQ mkQ x.eqs (k+1+1+smw wS x.right+1),smk wC mkC x.cons (k+1+1+smw wS x.right+1+smw wQ x.eqs)⟩
theorem smw_wS (l:List ByteArray):smw wS l=l.length:=by
 induction l with
 | nil=>rfl
 | cons e l ih=>simp[smw,wS,ih];omega
end Go.Gh
namespace Go.Gh
theorem neN (r:Nat) (x:Nat×List GV) (H:GH):(names ((r,x)::H)).Nodup = (neA r H∧(names H).Nodup):=by
 apply propext
 constructor
 ·intro h
  have h2:=h
  simp only[names,List.map_cons,List.nodup_cons] at h2
  exact ⟨neA_of h2.1,h2.2⟩
 ·rintro ⟨h1,h2⟩
  simp only[names,List.map_cons,List.nodup_cons]
  refine ⟨?_,h2⟩
  clear h2
  induction H with
  | nil=>simp
  | cons y H ih=>
   obtain ⟨q,y⟩:=y
   simp only[neA_cons] at h1
   simp only[List.map_cons,List.mem_cons,not_or]
   exact ⟨h1.1,ih h1.2.2⟩
theorem FE.closeL2 {env:Env} {H:GH} {r r1 sz sz1 j n:Nat} {L gs ks:List GV} (hne:¬r=r1) (hg:gs[j]? = some (.own r1 sz1 0 n)) (hn:ks.length=n) :
 FE env ((r,sz,L++[.agg gs])::(r1,sz1,ks)::H) env ((r,sz,L++[.agg (gs.set j (.osl sz1 ks))])::H):=by
 have h:=FE.closeL (env:=env) (H:=(r,sz,L++[.agg gs])::(r1,sz1,ks)::H) (r:=r) (r1:=r1) hne Z4 hg (by rw[Z1 hne,Z4]) hn
 rwa [Zf,hdel_old hne,hdel_new] at h
theorem Bor.ptr {H:GH} {r sz:Nat} {g:GV} (hr:Z7 H r=some (sz,[g])):Bor H (.ptr r sz 0 0) (.rop sz (view g)):=fun w D Ω v h hv=>by
 obtain ⟨F,hF,hFΩ⟩:=h.hm.mem hr
 simp only[MV] at hv ⊢
 obtain ⟨_,b,rfl,hb,rfl⟩:=hv
 rcases hF with ⟨b',c,T,fz,F',k1,k2,k3,k4,k5,k6,k7⟩|⟨k1,_,_⟩
 ·have:b'=b:=by omega
  subst this
  simp only[MF] at k7
  obtain ⟨u,cs',F1,F2,e1,e2,e3,rfl,e5,rfl,rfl⟩:=k7
  refine ⟨trivial,b',0,u,by simp,.inr (hFΩ _ (by simp[k6])),⟨c,T,fz,k2,fun j x hj=> ?_⟩,e3,e2,MV.view (fun _ => .inl) g u F1 (fun x hx=> .inr (hFΩ x (by simp[k6,hx]))) e5⟩
  have e1':c.toList.take (1 * sz)=u.cells.toList:=by simpa using e1
  have h2:(c.toList.take (1 * sz))[j]? = some x:=by rw[e1'];exact hj
  rw[List.getElem?_take] at h2
  split at h2
  ·simpa using h2
  ·cases h2
 ·omega
end Go.Gh
namespace Go.Gh
end Go.Gh
namespace Go.Gh
def expZ:Exp:= .mk 0 0 0 0 noS noS []
theorem mkX (k n p t:Int) (s m:ByteArray) (a:List Exp):Ex (.mk k n p t s m a) = .agg [I k,I n,I p,I t,T s,T m,ExS a]:=Zz _
end Go.Gh
namespace Go.Gh
abbrev Oc:=Int×ByteArray
def ltN (a b:ByteArray):Bool:=Op.bytesLess (Z9 a) (Z9 b)
def ltO (a b:Oc):Bool:=decide (a.1<b.1)||(decide (a.1=b.1)&&ltN a.2 b.2)
end Go.Gh
namespace Go.Gh
open Go.ChangeShapes Go.WideShapes Go.ChangeAt Go.RowKit
def tabH (T:GH):Prop:=(names T).Nodup ∧ ∀x∈T,x.1 % 4=3∧1000000≤x.2.1∧x.2.2=[]
def PureT (P:Program) (T:GH) (f:FuncId) (gs:List GV) (R:GV→Prop):Prop:=GCalls P f gs T (fun g _ => R g)
theorem Xx:∀{H:GH} {x:Nat×Nat×List GV},(names H).Nodup → x∈H→Z7 H x.1=some x.2
 | [],_,_,h=>by cases h
 | (r,y)::H,x,hn,h=>by
  simp only[names,List.map_cons,List.nodup_cons] at hn
  simp only[Z7]
  rcases List.mem_cons.1 h with rfl|h
  ·simp
  ·have:r≠x.1:=fun e=>hn.1 (by rw[e];exact List.mem_map_of_mem h)
   rw[if_neg this]
   exact Xx hn.2 h
theorem HM.tabs {w:World} {D:Nat→Prop} {H:GH} {Ω:List Nat} (h:HM w D H Ω) (hn:(names H).Nodup):∀{T:GH},(∀x∈T,x.1 % 4=3∧1000000≤x.2.1∧x.2.2=[])→(∀x∈T,x∈H)→HM w D T []
 | [],_,_ => rfl
 | (r,sz,es)::T,hT,hs=>by
  obtain ⟨F,hF,_⟩:=h.mem (Xx hn (hs _ (List.mem_cons_self ..)))
  have ht:=hT _ (List.mem_cons_self ..)
  refine ⟨[],[],rfl,?_,HM.tabs h hn (fun x hx=>hT x (List.mem_cons_of_mem _ hx)) (fun x hx=>hs x (List.mem_cons_of_mem _ hx))⟩
  rcases hF with ⟨b,c,T,fz,F',k1,_⟩|hF
  ·have:=ht.1
   dsimp only at this k1
   omega
  ·exact .inr ⟨hF.1,ht.2.2,rfl⟩
theorem PureT.frame {P:Program} {T:GH} {f:FuncId} {gs:List GV} {R:GV→Prop} (h:PureT P T f gs R) (hT:tabH T) {H:GH} (hs:∀x∈T,x∈H):GCalls P f gs H (fun g H'=>R g∧H'=H):=by
 intro w D Ω args hst hargs
 have hs0:St w D T []:=⟨HM.tabs hst.hm hst.nn hT.2 hs,List.nodup_nil,hT.1,by simp,hst.ds⟩
 refine Yld.mono (fun v w' ⟨g,H',D',Ω',k1,k2,k3,k4⟩=> ?_) (h w D [] args hs0 hargs)
 have hk:Kept w w' (fun _ => True):=k4.kp.mono fun _ _ _ => by simp
 have hlt:∀b∈Ω,b<w.heap.size:=HM.flt hst.hm
 refine ⟨g,H,D',Ω,⟨k1,rfl⟩,k2,⟨HM.keep hk (fun _ _ => trivial) k4.d0 (fun _ _ => trivial) hst.hm,hst.nd,hst.nn,fun b hb hD=> ?_,k3.ds⟩,
  ⟨k4.d0,fun b hb hD=> .inl ((k4.dn b hb hD).resolve_right (by simp)),fun _ h _ => h,hk.mono fun _ _ _ => trivial,k4.os,k4.tape,k4.output⟩⟩
 rcases k4.dn b (hlt b hb) hD with h1|h1
 ·exact hst.dj b hb h1
 ·simp at h1
theorem PureT.bor {P:Program} {T:GH} {f:FuncId} {gs:List GV} {G:GV} (h:GCalls P f gs T (fun g H=>Bor H g G)):PureT P T f gs (· = G):=
 h.fr fun _ _ hb=>⟨G,[],FR.all hb,rfl⟩
theorem PureT.of {P:Program} {T:GH} {f:FuncId} {gs:List GV} {R:GV→Prop} (h:Pure P f gs R):PureT P T f gs R:=(h.frame T).mono fun _ _ h=>h.1
theorem callS.eqT {P:Program} {K:Env→GH→Prop} {is:List GI} {env:Env} {H T:GH} {d:Option Nat} {det:Bool} {f:FuncId} {gs:List GV} {G:GV} (h:PureT P T f gs (· = G)) (hT:tabH T) (hs:∀x∈T,x∈H) (hk:Z6 P is K (gput env d G) H):callS P det f (some gs) d is K env H:=by
 unfold callS
 cases det
 ·exact ⟨fun g H'=>g=G∧H'=H,h.frame hT hs,fun g H' ⟨e1,e2⟩ _ => by subst e1;subst e2;exact hk⟩
 ·exact ⟨G,h.frame hT hs,hk⟩
theorem PureT.out {P:Program} {T:GH} {f:FuncId} {F:GFun} {gs:List GV} {R:GV→Prop} (h:PureT P T f gs R) (hF:IsFun P f F) {W:World} {args:List Value} (hargs:ML W (Yt W) gs args []) (hT:HM W (Yt W) T []) (hn:(names T).Nodup) :
 Calls P f args.toArray W fun e W'=>∃v g D,e = .returned v∧R g∧MV W' D g v []∧Below W.heap.size W W':=by
 have:=h W (Yt W) [] args ⟨hT,List.nodup_nil,hn,by simp,fun _ h=>h⟩ hargs
 rw[callFunc_run hF] at this
 refine Calls.mono this fun e W' ⟨v,h1,g,H',D',Ω',k1,k2,k3,k4⟩=>⟨v,g,D',h1,k1,k2,?_⟩
 exact ⟨k4.os,k4.tape,k4.output,k4.kp.size,fun k hk=>k4.kp.block k hk (by simp)⟩
def tab10 (n:Nat):GH:=[(4 * n+3,1000000,[])]
theorem Zp (n:Nat):tabH (tab10 n):=⟨by simp[tab10,names],fun x hx=>by
 simp only[tab10,List.mem_singleton] at hx
 subst hx
 exact ⟨by dsimp only;omega,by dsimp only;omega,rfl⟩⟩
open Lib in
theorem HM.tab10 {P:Program} {W:World} {n:Nat} {s:String} (hg:P.globalNamed s=some n) (h:TabIs P W s .u64 pow10Tab):HM W (Yt W) (tab10 n) []:=by
 simp only[TabIs,World.var?,hg,Option.bind_some] at h
 refine ⟨[],[],rfl,.inr ⟨⟨oT,fun _ _ => ?_⟩,rfl,rfl⟩,rfl⟩
 have e:(4 * n+3) / 4=n:=by omega
 unfold TB
 rw[e]
 split at h
 case h_2=>cases h
 rename_i c T fz hb
 simp only[Option.some.injEq] at h
 refine ⟨lt_of_heap hb,c,T,fz,hb,?_⟩
 rw[h]
 simp only[tabP,if_true,pow10Tab,List.map_map]
 rfl
open Lib in
theorem HM.is10 {P:Program} {w:World} {D:Nat→Prop} {n:Nat} {s:String} {H:GH} {Ω:List Nat} (hg:P.globalNamed s=some n) (h:HM w D H Ω) (hn:(names H).Nodup) (hm:(4 * n+3,1000000,[])∈H):TabIs P w s .u64 pow10Tab:=by
 obtain ⟨F,hF,_⟩:=h.mem (Xx hn hm)
 have e:(4 * n+3) / 4=n:=by omega
 rcases hF with ⟨b,c,T,fz,F',k1,_⟩|hF
 ·dsimp only at k1;omega
 ·obtain ⟨_,c,T,fz,h1,h2⟩:=hF.1.2 (by dsimp only;omega) (Nat.le_refl _)
  dsimp only at h1
  rw[e] at h1
  simp only[TabIs,World.var?,hg,Option.bind_some,h1]
  simp only[tabP,if_true] at h2
  rw[h2]
  simp only[pow10Tab,List.map_map]
  rfl
open Lib Go.Sort in
theorem itoa_ok {P:Program} {f g:Nat} {s:String} (hg:P.globalNamed s=some g) {args:Int→Array Value} {n:Int} {gs:List GV} (hgs:∀w D vs,ML w D gs vs []→vs.toArray=args n)
 (hc:∀w:World,TabIs P w s .u64 pow10Tab→Calls P f (args n) w fun e w'=>e = .returned (.string ⟨(itoa n).toArray⟩)∧∃k os,w'=grow (w.drewN k) os)
 (eg:∀args w,(callFunc f args).run P w = .ok (.enter f args) w):PureT P (tab10 g) f gs (· = .val (mkS (itoa n))):=by
 intro w D Ω vs hst hargs
 rw[eg,hgs _ _ _ hargs]
 show Calls P f _ w _
 refine (hc w (HM.is10 hg hst.hm hst.nn (by simp[tab10]))).mono ?_
 rintro e w' ⟨rfl,k,os,rfl⟩
 have hk:Kept w (grow (w.drewN k) os) (fun _ => True):=by
  refine ⟨fun b hb _ => ?_,?_,fun b c T fz hx=>⟨c,fz,?_,rfl⟩⟩
  ·show (w.heap++os)[b]? = _
   rw[Array.getElem?_append_left hb]
  ·show _ ≤ (w.heap++os).size
   rw[Array.size_append];omega
  ·show (w.heap++os)[b]? = _
   rw[Array.getElem?_append_left (lt_of_heap hx)];exact hx
 refine ⟨_,rfl,_,tab10 g,D,Ω,rfl,MV.val_mk _,⟨HM.keep hk (fun _ _ => trivial) (fun _ h=>h) (fun _ _ => trivial) hst.hm,hst.nd,hst.nn,hst.dj,fun b hb=>Nat.lt_of_lt_of_le (hst.ds b hb) hk.size⟩,
  ⟨fun _ h=>h,fun _ _ h=> .inl h,fun _ h _ => h,hk.mono fun _ _ _ => trivial,rfl,rfl,rfl⟩⟩
end Go.Gh
namespace Go.Gh
open Lib
def dgs (u:Nat):List UInt8:=if u=0 then [] else decDigits u
theorem dgs_step {u:Nat} (h:u≠0) (out:List UInt8):dgs u++out=dgs (u / 10)++(UInt8.ofNat (48+u % 10)::out):=by
 unfold dgs
 rw[if_neg h]
 by_cases h1:u<10
 ·rw[decDigits_one h1,if_pos oT,Nat.mod_eq_of_lt h1]
  rfl
 ·rw[decDigits,dif_neg h1,if_neg oT]
  simp
theorem itoa_dgs {n:Int} (h:n≠0):itoa n=if n<0 then 45::dgs n.natAbs else dgs n.natAbs:=by
 unfold itoa dgs
 have e:n.natAbs≠0:=by omega
 rw[if_neg e]
 by_cases h1:n<0
 ·rw[if_pos h1,if_pos h1]
 ·rw[if_neg h1,if_neg h1]
  congr 1
  omega
theorem itoa_0:itoa 0=[48]:=by
 unfold itoa
 rw[if_neg oT]
 exact decDigits_one (by decide)
theorem nDigits_le:∀(k u:Nat),u<10 ^ (k+1)→nDigits u≤k+1
 | 0,u,h=>by rw[nDigits_small (by simpa using h)];omega
 | k+1,u,h=>by
  rw[nDigits]
  split
  ·omega
  ·have:=nDigits_le k (u / 10) (by rw[Nat.pow_succ] at h;omega)
   omega
theorem dgs_len {u:Nat} (h:u≤9223372036854775808):(dgs u).length ≤ 19:=by
 unfold dgs
 split
 ·simp
 ·rw[decDigits_length]
  exact nDigits_le 18 u oT
theorem tmod10 (n:Int):(if n.tmod 10<0 then 0-n.tmod 10 else n.tmod 10)=((n.natAbs % 10:Nat):Int):=by
 have h:(n.tmod 10).natAbs = n.natAbs % 10:=by rw[Int.natAbs_tmod];rfl
 split<;>omega
theorem tdiv10 (n:Int):(n.tdiv 10).natAbs = n.natAbs / 10:=by rw[Int.natAbs_tdiv];rfl
theorem digB:∀d,d<10→UInt8.ofNat (IntKind.u8.wrap (48+((d:Nat):Int))).toNat = UInt8.ofNat (48+d):=by decide
theorem mod_lt10 (u:Nat):u % 10<10:=Nat.mod_lt _ (by decide)
end Go.Gh
namespace Go.Gh
theorem ltN_eq (a b:ByteArray):ltN a b=decide (Z9 a<Z9 b):=Proofs.bytesLess_eq _ _
theorem ltN_irr (a:ByteArray):ltN a a=false:=by
 rw[ltN_eq];exact decide_eq_false (List.lt_irrefl _)
theorem ltN_trans {a b c:ByteArray} (h:ltN a b=true) (k:ltN b c=true):ltN a c=true:=by
 rw[ltN_eq,decide_eq_true_eq] at *;exact List.lt_trans h k
theorem ltO_iff {a b:Oc}:ltO a b=true↔a.1<b.1∨(a.1=b.1∧ltN a.2 b.2=true):=by simp[ltO]
theorem ltO_irr (a:Oc):ltO a a=false:=by simp[ltO,ltN_irr]
theorem ltO_trans {a b c:Oc} (h:ltO a b=true) (k:ltO b c=true):ltO a c=true:=by
 rw[ltO_iff] at *
 rcases h with h|⟨h1,h2⟩<;>rcases k with k|⟨k1,k2⟩
 ·exact .inl oT
 ·exact .inl oT
 ·exact .inl oT
 ·exact .inr ⟨oT,ltN_trans h2 k2⟩
theorem ltO_asym {a b:Oc} (h:ltO a b=true):ltO b a=false:=by
 cases q:ltO b a
 ·rfl
 ·have:=ltO_trans h q;rw[ltO_irr] at this;cases this
abbrev SSO (l:List Oc):Prop:=l.Pairwise fun a b=>ltO a b=true
theorem SSO.ext:∀{l k:List Oc},SSO l→SSO k→(∀x,x∈l↔x∈k)→l=k
 | [],[],_,_,_ => rfl
 | [],b::k,_,_,h=>by have:=(h b).2 (by simp);simp at this
 | a::l,[],_,_,h=>by have:=(h a).1 (by simp);simp at this
 | a::l,b::k,h1,h2,h=>by
  rw[SSO,List.pairwise_cons] at h1 h2
  have e:a=b:=by
   rcases List.mem_cons.1 ((h a).1 (by simp)) with e|e
   ·exact e
   ·rcases List.mem_cons.1 ((h b).2 (by simp)) with e'|e'
    ·exact e'.symm
    ·have q1:=h2.1 a e
     have q2:=h1.1 b e'
     rw[ltO_asym q1] at q2;cases q2
  subst e
  congr 1
  refine SSO.ext h1.2 h2.2 fun x=>⟨fun hx=> ?_,fun hx=> ?_⟩
  ·rcases List.mem_cons.1 ((h x).1 (by simp[hx])) with e|e
   ·subst e;have:=h1.1 _ hx;rw[ltO_irr] at this;cases this
   ·exact e
  ·rcases List.mem_cons.1 ((h x).2 (by simp[hx])) with e|e
   ·subst e;have:=h2.1 _ hx;rw[ltO_irr] at this;cases this
   ·exact e
end Go.Gh
namespace Go.Gh
open Go.Sort (HoldsK Holds flatK putRowK grow)
open Go.Proofs (sortWorldK)
open Go.Proofs (ltOf)
end Go.Gh
namespace Go.Gh
theorem lt_step {p:Nat→Bool} {i:Nat} {b:Bool} (h:p i=b) (hn:∀j,j<i→p j=b):∀j,j<i+1→p j=b:=fun j hj=>by
 rcases Nat.lt_succ_iff_lt_or_eq.1 hj with e|e
 ·exact hn j e
 ·rw[e];exact h
theorem rngAll_no {n i:Nat} {p:Nat→Bool} (h:i<n) (hp:p i=false):(List.range n).all p=false:=by
 rw[List.all_eq_false]
 exact ⟨i,by simpa using h,by simp[hp]⟩
theorem rngAll_yes {n:Nat} {p:Nat→Bool} (h:∀j,j<n→p j=true):(List.range n).all p=true:=by
 rw[List.all_eq_true]
 intro j hj
 exact h j (by simpa using hj)
theorem all_no {α:Type} {p:α→Bool} {l:List α} {i:Nat} (h:i<l.length) (hp:p l[i]=false):l.all p=false:=by
 rw[List.all_eq_false]
 exact ⟨l[i],List.getElem_mem h,by simp[hp]⟩
theorem all_yes {α:Type} {p:α→Bool} {l:List α} (h:∀a∈l,p a=true):l.all p=true:=List.all_eq_true.2 h
theorem XC {α:Type} {p:α→Bool} {l:List α} {i:Nat} {b:Bool} (h:i<l.length) (hp:p l[i]=b) (hn:∀a∈l.take i,p a=b):∀a∈l.take (i+1),p a=b:=by
 intro a ha
 rw[List.take_add_one,List.getElem?_eq_getElem h,Option.toList_some,List.mem_append] at ha
 rcases ha with ha|ha
 ·exact hn a ha
 ·simp only[List.mem_singleton] at ha;rw[ha];exact hp
def attV (a:Att):Bool:=ZV a.name&&(decide (1≤a.type∧a.type≤4)&&(decide (1≤a.mode∧a.mode≤3)&&(if a.mode=3 then decide (a.type=2) && !a.circ else !a.circ || decide (a.type=2))))
def dupA (l:List Att) (i:Nat):Bool:=(l.take i).any fun o=>decide (o.name=(l.getD i attZ).name)
def YX (s:Sym):Bool:=s.atts.all attV&&((List.range s.atts.length).all fun i=> !dupA s.atts i)&&(ZV s.name&&decide (s.atts.length≤4))
def fitE (e:Exp) (n:Int):Bool:=Zh e&&YI (fun x=>decide (x.pos≤n)) e
def eqnV (n:Nat) (q:Eqn):Bool:=fitE q.expr n&&(ZV q.name&&decide (0≤q.pos∧q.pos≤n))
def conV (n:Nat) (c:Con):Bool:=fitE c.goal n&&(fitE c.value n&&(ZV c.sym&&ZV c.name))
def Zw (r:Rul):Bool:=ZV r.name&&(ZV r.left&&(decide (r.right.length≤3)&&(decide (r.cons.length≤2)&&(r.right.all ZV&&(r.eqs.all (eqnV r.right.length)&&r.cons.all (conV r.right.length))))))
def hOf (g:Gram) (out:List Int) (n:ByteArray):Int:=if ixOf (fun s:Sym=>decide (s.name=n)) g.syms<0 then 0 else out.getD (ixOf (fun s:Sym=>decide (s.name=n)) g.syms).toNat 0
def rchR (g:Gram) (out:List Int) (s:ByteArray) (r:Rul):Bool:=decide (r.left=s)&&r.right.all fun c=>decide (0<hOf g out c)
def rchS (g:Gram) (out:List Int) (s:ByteArray):Bool:=g.rules.any (rchR g out s)
def hNext (g:Gram) (round:Int) (out:List Int) (i:Nat):Int:=if 0<out.getD i 0 then out.getD i 0 else if rchS g out (g.syms.getD i symZ).name then round else out.getD i 0
def hIt (g:Gram):Nat→List Int
 | 0=>List.replicate g.syms.length 0
 | k+1=>(List.range g.syms.length).map (hNext g ((k:Int)+1) (hIt g k))
def hgts (g:Gram):List Int:=hIt g g.syms.length
end Go.Gh
namespace Go.Gh
def dC (T:List (List Int)) (goal:Nat) (d:Nat) (out:List Int) (k:Int):Bool:=
 if d=1 then decide (k=goal) else decide (k≠goal)&&decide (0≤k)&&decide (out.getD k.toNat 0=(d:Int)-1)
def dS (T:List (List Int)) (goal:Nat) (d:Nat) (out:List Int) (i:Nat):Int:=
 if out.getD i 0≠0 then out.getD i 0 else if (T.getD i []).any (dC T goal d out) then d else 0
def dL (T:List (List Int)) (goal:Nat):Nat→List Int
 | 0=>List.replicate T.length 0
 | d+1=>(List.range T.length).map (dS T goal (d+1) (dL T goal d))
def dst (T:List (List Int)) (goal:Nat):List Int:=dL T goal T.length
end Go.Gh
namespace Go.Gh
theorem GCalls.nd {P:Program} {f:FuncId} {gs:List GV} {H:GH} {R:GV→GH→Prop} (h:(names H).Nodup → GCalls P f gs H R):GCalls P f gs H R:=
 fun w D Ω args hst hargs=>h hst.nn w D Ω args hst hargs
theorem GCalls.sub {P:Program} {f:FuncId} {gs:List GV} {H L T:GH} {R:GV→GH→Prop} (hs:subH H L) (h:GCalls P f gs (L++T) R):GCalls P f gs (H++T) R:=by
 intro w D Ω args hst hargs
 obtain ⟨Ω',h1,h2⟩:=hst.sub hs
 refine Yld.mono (fun v w' ⟨g,H',D',Ω'',k1,k2,k3,k4⟩=> ?_) (h w D Ω' args h1 hargs)
 exact ⟨g,H',D',Ω'',k1,k2,k3,⟨k4.d0,fun b hb hD=>(k4.dn b hb hD).imp id (h2 b),fun b hb hl=>h2 b (k4.on b hb hl),k4.kp.mono fun b _ hb hb'=>hb (h2 b hb'),k4.os,k4.tape,k4.output⟩⟩
end Go.Gh
namespace Go.Gh
theorem bor_TS {H:GH} {r n:Nat} {l:List ByteArray} (hr:Z7 H r=some (1,l.map T)) (hn:l.length=n):Bor H (.own r 1 0 n) (TS l):=Bor.allM (fun _ => rfl) hr hn
theorem symV_a {s:Sym} {i:Nat} (h:i<s.atts.length) (hb:attV s.atts[i]=false):YX s=false:=by
 simp only[YX,all_no h hb,Bool.false_and]
theorem symV_d {s:Sym} {i:Nat} (h:i<s.atts.length) (hb:dupA s.atts i=true):YX s=false:=by
 simp only[YX,rngAll_no (p:=fun i=> !dupA s.atts i) h (by simp[hb]),Bool.false_and,Bool.and_false]
theorem symV_ok {s:Sym} (h1:∀a∈s.atts,attV a=true) (h2:∀j,j<s.atts.length→dupA s.atts j=false):YX s=(ZV s.name&&decide (s.atts.length≤4)):=by
 have e:=rngAll_yes (n:=s.atts.length) (p:=fun i=> !dupA s.atts i) (fun j hj=>by simp[h2 j hj])
 simp only[YX,all_yes h1,e,Bool.true_and]
def dstS (l:List ByteArray):Bool:=(List.range l.length).all fun i=> !hasS (l.take i) (l.getD i noS)
theorem dstS_no {l:List ByteArray} {i:Nat} (h:i<l.length) (hb:hasS (l.take i) l[i]=true):dstS l=false:=
 rngAll_no (p:=fun i=> !hasS (l.take i) (l.getD i noS)) h (by rw[Zc h,hb];rfl)
theorem dstS_yes {l:List ByteArray} (h:∀j (hj:j<l.length),hasS (l.take j) l[j]=false):dstS l=true:=
 rngAll_yes (p:=fun i=> !hasS (l.take i) (l.getD i noS)) (fun j hj=>by rw[Zc hj,h j hj];rfl)
theorem hasS_map {α:Type} (f:α→ByteArray) (l:List α) (s:ByteArray):hasS (l.map f) s=l.any fun o=>decide (f o=s):=by
 simp only[hasS,List.any_map];rfl
theorem dupA_eq {l:List Att} {i:Nat} (h:i<l.length):dupA l i=(l.take i).any fun o=>decide (o.name=l[i].name):=by
 simp only[dupA,Zc h]
theorem dstS_atts (l:List Att):dstS (l.map (·.name))=(List.range l.length).all fun i=> !dupA l i:=by
 simp only[dstS,List.length_map]
 apply Bool.eq_iff_iff.2
 simp only[List.all_eq_true,List.mem_range]
 constructor
 ·intro h j hj
  have:=h j hj
  rw[←List.map_take,hasS_map,Zc (by simpa using hj),List.getElem_map] at this
  rw[dupA_eq hj];exact this
 ·intro h j hj
  have:=h j hj
  rw[←List.map_take,hasS_map,Zc (by simpa using hj),List.getElem_map]
  rw[dupA_eq hj] at this;exact this
theorem symV_spec {s:Sym} (h1:∀a∈s.atts,attV a=true):YX s=(ZV s.name&&(decide (s.atts.length≤4)&&dstS (s.atts.map (·.name)))):=by
 rw[dstS_atts]
 simp only[YX,all_yes h1,Bool.true_and]
 cases ZV s.name<;>cases (List.range s.atts.length).all fun i=> !dupA s.atts i<;>simp
theorem rulV_r {r:Rul} {i:Nat} (h:i<r.right.length) (hb:ZV r.right[i]=false):Zw r=false:=by
 simp only[Zw,all_no h hb,Bool.false_and,Bool.and_false]
theorem rulV_e {r:Rul} {i:Nat} (h:i<r.eqs.length) (hb:eqnV r.right.length r.eqs[i]=false):Zw r=false:=by
 simp only[Zw,all_no h hb,Bool.false_and,Bool.and_false]
theorem rulV_c {r:Rul} {i:Nat} (h:i<r.cons.length) (hb:conV r.right.length r.cons[i]=false):Zw r=false:=by
 simp only[Zw,all_no h hb,Bool.false_and,Bool.and_false]
theorem rulV_h {r:Rul} (h:¬(ZV r.name=true∧ZV r.left=true∧r.right.length≤3∧r.cons.length≤2)):Zw r=false:=by
 cases e:Zw r with
 | false=>rfl
 | true=>
  simp only[Zw,Bool.and_eq_true,decide_eq_true_eq] at e
  exact absurd ⟨e.1,e.2.1,e.2.2.1,e.2.2.2.1⟩ h
theorem rulV_ok {r:Rul} (h:ZV r.name=true∧ZV r.left=true∧r.right.length≤3∧r.cons.length≤2) (h1:∀s∈r.right,ZV s=true) (h2:∀q∈r.eqs,eqnV r.right.length q=true) (h3:∀c∈r.cons,conV r.right.length c=true):Zw r=true:=by
 simp only[Zw,Bool.and_eq_true,decide_eq_true_eq,List.all_eq_true]
 exact ⟨h.1,h.2.1,h.2.2.1,h.2.2.2,h1,h2,h3⟩
end Go.Gh
namespace Go.Gh
end Go.Gh
namespace Go.Gh
end Go.Gh
namespace Go.Gh
end Go.Gh
namespace Go.Gh
end Go.Gh
namespace Go.Gh
end Go.Gh
namespace Go.Gh
end Go.Gh
namespace Go.Gh
open Lib
end Go.Gh
namespace Go.Gh
end Go.Gh
namespace Go.Gh
end Go.Gh
namespace Go.Gh
@[ext] structure Edi where
 kind:Int
 node:Int
 other:Int
 lit:Int
 tree:List Nod
 deriving DecidableEq
end Go.Gh
namespace Go.Gh
inductive Fo where
 | nil:Fo
 | cons (id:Int) (rule:ByteArray) (lit:Int) (ks rest:Fo):Fo
namespace Fo
def sz:Fo→Nat
 | nil=>0
 | cons _ _ _ ks rest=>1+ks.sz+rest.sz
def strt:Fo→Int→List Int
 | nil,_ => []
 | cons _ _ _ ks rest,b=>b::rest.strt (b+1+ks.sz)
def flt:Fo→Int→Int→Int→List Nod
 | nil,_,_,_ => []
 | cons i r l ks rest,b,p,q=>⟨i,p,q,l,r,ks.strt (b+1)⟩::(ks.flt (b+1) b 1++rest.flt (b+1+ks.sz) p (q+1))
def one:Fo→Prop
 | cons _ _ _ _ nil=>True
 | _ => False
def app:Fo→Fo→Fo
 | nil,r=>r
 | cons i r l ks rest,s=>cons i r l ks (rest.app s)
end Fo
inductive Pa where
 | here:Pa
 | down (π:Pa):Pa
 | next (π:Pa):Pa
namespace Fo
def put:Fo→Pa→Fo→Fo
 | nil,_,_ => nil
 | cons _ _ _ _ rest,.here,S=>S.app rest
 | cons i r l ks rest,.down π,S=>cons i r l (ks.put π S) rest
 | cons i r l ks rest,.next π,S=>cons i r l ks (rest.put π S)
def pos:Fo→Pa→Nat
 | nil,_ => 0
 | cons ..,.here => 0
 | cons _ _ _ ks _,.down π=>1+ks.pos π
 | cons _ _ _ ks rest,.next π=>1+ks.sz+rest.pos π
def ok:Fo→Pa→Prop
 | nil,_ => False
 | cons ..,.here => True
 | cons _ _ _ ks _,.down π=>ks.ok π
 | cons _ _ _ _ rest,.next π=>rest.ok π
end Fo
namespace Fo
end Fo
end Go.Gh
namespace Go.Gh
def fitR (g:Gram) (r:ByteArray) (l:Int) (s:ByteArray):Prop:=hRul g.rules r=true∧(fRul g.rules r).left = s∧(-1000000≤l∧l≤1000000)∧((fRul g.rules r).lit = true∨(fRul g.rules r).lit = false∧l=0)
namespace Fo
def wf (g:Gram):Fo→List ByteArray→Prop
 | nil,[]=>True
 | cons _ r l ks rest,s::ss=>fitR g r l s∧ks.wf g (fRul g.rules r).right ∧ rest.wf g ss
 | _,_ => False
end Fo
end Go.Gh
namespace Go.Gh
@[ext] structure Tok where
 kind:Int
 num:Int
 at':Int
 text:ByteArray
deriving DecidableEq
abbrev Tk (x:Tok):GV:= .agg [I x.kind,I x.num,I x.at',T x.text]
abbrev TkS (l:List Tok):GV:= .sl 4 (l.map Tk)
def YW:Tok:=⟨0,0,0,noS⟩
def isW (t:Tok) (w:ByteArray):Bool:=(decide (t.kind=1)||decide (t.kind=3))&&decide (t.text=w)
inductive PR (α:Type) where
 | bad (i:Nat):PR α
 | ok (a:α) (i:Nat):PR α
def PR.bind {α β:Type}:PR α→(α→Nat→PR β)→PR β
 | .bad i,_ => .bad i
 | .ok a i,f=>f a i
abbrev bs (l:List UInt8):ByteArray:=⟨l.toArray⟩
def wIf:ByteArray:=⟨#[105,102]⟩
def wThen:ByteArray:=⟨#[116,104,101,110]⟩
def wElse:ByteArray:=⟨#[101,108,115,101]⟩
def wTrue:ByteArray:=⟨#[116,114,117,101]⟩
def X7:ByteArray:=⟨#[102,97,108,115,101]⟩
def wLit:ByteArray:=⟨#[108,105,116]⟩
def wNone:ByteArray:=⟨#[110,111,110,101]⟩
def wSelf:ByteArray:=⟨#[115,101,108,102]⟩
def wOf:ByteArray:=⟨#[111,102]⟩
def wMax:ByteArray:=⟨#[109,97,120]⟩
def wMin:ByteArray:=⟨#[109,105,110]⟩
def wHas:ByteArray:=⟨#[104,97,115]⟩
def wWith:ByteArray:=⟨#[119,105,116,104]⟩
def wLP:ByteArray:=⟨#[40]⟩
def wRP:ByteArray:=⟨#[41]⟩
def wLB:ByteArray:=⟨#[123]⟩
def wRB:ByteArray:=⟨#[125]⟩
def Yi:ByteArray:=⟨#[44]⟩
def Y3:ByteArray:=⟨#[46]⟩
def wDol:ByteArray:=⟨#[36]⟩
def sees (ts:List Tok) (i:Nat) (w:ByteArray):Bool:=decide (i<ts.length)&&isW (ts.getD i YW) w
def ZY (ts:List Tok) (i:Nat) (w:ByteArray):PR Unit:=if sees ts i w=true then .ok () (i+1) else .bad i
def Zo (ts:List Tok) (i:Nat) (lo hi:Int):PR Int:=
 if i<ts.length∧(ts.getD i YW).kind = 2∧lo≤(ts.getD i YW).num ∧ (ts.getD i YW).num ≤ hi then .ok (ts.getD i YW).num (i+1) else .bad i
def ZM (ts:List Tok) (i:Nat):PR ByteArray:=
 if i<ts.length∧(ts.getD i YW).kind = 1∧ZV (ts.getD i YW).text = true then .ok (ts.getD i YW).text (i+1) else .bad i
def conE (n k:Int):Exp:= .mk 1 n 0 k noS noS []
def opE (op:Int) (a b:Exp):Exp:= .mk 4 op 0 0 noS noS [a,b]
def YD (ts:List Tok):Nat→Nat→Int→Int→PR Int
 | 0,i,_,_ => .bad i
 | f+1,i,least,set=>if sees ts i wRB=true then .ok set (i+1) else (Zo ts i least 11).bind fun n j=>YD ts f j (n+1) (orI .i64 set (shlI .i64 1 n))
def funO (s:ByteArray):Int:=if s=wMax then 4 else if s=wMin then 5 else if s=wHas then 11 else if s=wWith then 12 else 0
def opAt (ts:List Tok) (i lv:Nat):Int:=
 if lv=1 then (if sees ts i ⟨#[60]⟩=true then 9 else if sees ts i ⟨#[61,61]⟩=true then 10 else 0) else
 if lv=2 then (if sees ts i ⟨#[43]⟩=true then 1 else if sees ts i ⟨#[45]⟩=true then 2 else if sees ts i ⟨#[124]⟩=true then 6 else if sees ts i ⟨#[92]⟩=true then 8 else 0) else
 if lv=3 then (if sees ts i ⟨#[42]⟩=true then 3 else if sees ts i ⟨#[38]⟩=true then 7 else 0) else 0
def YY (ts:List Tok) (E A:Nat→PR Exp) (i:Nat):PR Exp:=
 let t:=ts.getD i YW
 if ¬i<ts.length then .bad i else
 if t.kind=2 then .ok (conE t.num 1) (i+1) else
 if isW t wLB=true then (YD ts (ts.length+1) (i+1) 0 0).bind fun s j=> .ok (conE s 2) j else
 if isW t wTrue=true then .ok (conE 1 3) (i+1) else
 if isW t X7=true then .ok (conE 0 3) (i+1) else
 if isW t wLit=true then .ok (.mk 2 0 0 0 noS noS []) (i+1) else
 if isW t wNone=true then .ok (.mk 7 0 0 0 noS noS []) (i+1) else
 if isW t wDol=true then (Zo ts (i+1) 0 3).bind fun p j=>(ZY ts j Y3).bind fun _ j=>(ZM ts j).bind fun n j=> .ok (.mk 3 0 p 0 noS n []) j else
 if isW t wSelf=true then (ZY ts (i+1) wLP).bind fun _ j=>(Zo ts j 0 3).bind fun p j=>(ZY ts j wRP).bind fun _ j=> .ok (.mk 6 0 p 0 noS noS []) j else
 if isW t wLP=true then (E (i+1)).bind fun e j=>(ZY ts j wRP).bind fun _ j=> .ok e j else
 if t.kind=1∧funO t.text≠0 then (ZY ts (i+1) wLP).bind fun _ j=>(E j).bind fun a j=>(ZY ts j Yi).bind fun _ j=>(E j).bind fun b j=>(ZY ts j wRP).bind fun _ j=> .ok (opE (funO t.text) a b) j else
 (ZM ts i).bind fun s j=>(ZY ts j Y3).bind fun _ j=>(ZM ts j).bind fun n j=>(ZY ts j wOf).bind fun _ j=>(A j).bind fun e j=> .ok (.mk 8 0 0 0 s n [e]) j
def YF (ts:List Tok) (X:Nat→PR Exp) (lv:Nat):Nat→Exp→Nat→PR Exp
 | 0,_,i=> .bad i
 | f+1,e,i=>if opAt ts i lv=0 then .ok e i else (X (i+1)).bind fun b j=>if lv=1 then .ok (opE (opAt ts i lv) e b) j else YF ts X lv f (opE (opAt ts i lv) e b) j
def lvP (ts:List Tok) (X:Nat→PR Exp) (lv i:Nat):PR Exp:=(X i).bind fun e j=>YF ts X lv (ts.length+1) e j
def X5 (ts:List Tok) (E A:Nat→PR Exp) (i:Nat):PR Exp:=
 if sees ts i wIf=true then (E (i+1)).bind fun a j=>(ZY ts j wThen).bind fun _ j=>(E j).bind fun b j=>(ZY ts j wElse).bind fun _ j=>(E j).bind fun c j=> .ok (.mk 5 0 0 0 noS noS [a,b,c]) j
 else lvP ts (lvP ts (lvP ts A 3) 2) 1 i
mutual
def pE (ts:List Tok):Nat→Nat→PR Exp
 | 0,i=> .bad i
 | f+1,i=>X5 ts (pE ts f) (pA ts f) i
def pA (ts:List Tok):Nat→Nat→PR Exp
 | 0,i=> .bad i
 | f+1,i=>YY ts (pE ts f) (pA ts f) i
end
def parT (ts:List Tok) (len:Int):Exp×Int:=
 let off (i:Nat):Int:=if i<ts.length then (ts.getD i YW).at' else len
 match pE ts (2 * ts.length+4) 0 with
 | .bad i=>(.mk 0 0 0 0 noS noS [],off i)
 | .ok e i=>if i<ts.length then (.mk 0 0 0 0 noS noS [],off i) else if Zh e=true then (e, -1) else (.mk 0 0 0 0 noS noS [],0)
end Go.Gh
namespace Go.Gh
def ExtP {α:Type} (P P':PR α):Prop:=∀a i,P = .ok a i→P' = .ok a i
theorem ExtP.refl {α:Type} (P:PR α):ExtP P P:=fun _ _ h=>h
theorem ExtP.bad {α:Type} (i:Nat) (P:PR α):ExtP (.bad i) P:=fun _ _ h=>by cases h
theorem ExtP.bind {α β:Type} {P P':PR α} {f f':α→Nat→PR β} (h:ExtP P P') (hf:∀a i,ExtP (f a i) (f' a i)):ExtP (P.bind f) (P'.bind f'):=by
 intro a i e
 cases P with
 | bad j=>cases e
 | ok b j=>rw[h b j rfl];exact hf b j a i e
theorem ExtP.ite {α:Type} {c:Prop} [Decidable c] {a b a' b':PR α} (h1:c→ExtP a a') (h2:¬c→ExtP b b'):ExtP (if c then a else b) (if c then a' else b'):=by
 by_cases h:c
 ·rw[if_pos h,if_pos h];exact h1 h
 ·rw[if_neg h,if_neg h];exact h2 h
theorem ExtP.trans {α:Type} {P Q R:PR α} (h:ExtP P Q) (k:ExtP Q R):ExtP P R:=fun a i e=>k a i (h a i e)
structure Tail (ts us:List Tok):Prop where
 pre:∀i,i<ts.length→i<us.length∧us.getD i YW=ts.getD i YW
 len:ts.length≤us.length
 out:∀i w,¬i<ts.length→w≠wRP→sees us i w=false
variable {ts us:List Tok}
theorem Tail.sees (h:Tail ts us) {i:Nat} {w:ByteArray} (hs:sees ts i w=true):sees us i w=true:=by
 simp only[Go.Gh.sees,Bool.and_eq_true,decide_eq_true_eq] at hs ⊢
 obtain ⟨h1,h2⟩:=h.pre i hs.1
 exact ⟨h1,by rw[h2];exact hs.2⟩
theorem Tail.sees_eq (h:Tail ts us) (i:Nat) {w:ByteArray} (hw:w≠wRP):Go.Gh.sees us i w=Go.Gh.sees ts i w:=by
 by_cases hi:i<ts.length
 ·obtain ⟨h1,h2⟩:=h.pre i hi
  simp only[Go.Gh.sees,h2,decide_eq_true h1,decide_eq_true hi]
 ·rw[h.out i w hi hw]
  simp only[Go.Gh.sees,decide_eq_false hi,Bool.false_and]
theorem Tail.take (h:Tail ts us) (i:Nat) (w:ByteArray):ExtP (ZY ts i w) (ZY us i w):=by
 intro a j e
 unfold ZY at *
 split at e
 ·rename_i hs;rw[if_pos (h.sees hs)];exact e
 ·cases e
theorem Tail.num (h:Tail ts us) (i:Nat) (lo hi:Int):ExtP (Zo ts i lo hi) (Zo us i lo hi):=by
 intro a j e
 unfold Zo at *
 split at e
 ·rename_i hs
  obtain ⟨h1,h2⟩:=h.pre i hs.1
  rw[h2,if_pos ⟨h1,hs.2⟩];exact e
 ·cases e
theorem Tail.name (h:Tail ts us) (i:Nat):ExtP (ZM ts i) (ZM us i):=by
 intro a j e
 unfold ZM at *
 split at e
 ·rename_i hs
  obtain ⟨h1,h2⟩:=h.pre i hs.1
  rw[h2,if_pos ⟨h1,hs.2⟩];exact e
 ·cases e
theorem Tail.set (h:Tail ts us):∀(f f':Nat) (i:Nat) (l s:Int),f≤f'→ExtP (YD ts f i l s) (YD us f' i l s)
 | 0,_,i,l,s,_ => ExtP.bad _ _
 | f+1,0,i,l,s,hf=>by omega
 | f+1,f'+1,i,l,s,hf=>by
  simp only[YD]
  rw[h.sees_eq i (w:=wRB) (by decide)]
  split
  ·exact .refl _
  ·exact (h.num i l 11).bind fun n j=>h.set f f' _ _ _ oT
theorem Tail.op (h:Tail ts us) (i lv:Nat):opAt us i lv=opAt ts i lv:=by
 unfold opAt
 simp only[h.sees_eq i (w:=⟨#[60]⟩) (by decide),h.sees_eq i (w:=⟨#[61,61]⟩) (by decide),h.sees_eq i (w:=⟨#[43]⟩) (by decide),h.sees_eq i (w:=⟨#[45]⟩) (by decide),h.sees_eq i (w:=⟨#[124]⟩) (by decide),h.sees_eq i (w:=⟨#[92]⟩) (by decide),h.sees_eq i (w:=⟨#[42]⟩) (by decide),h.sees_eq i (w:=⟨#[38]⟩) (by decide)]
theorem Tail.row (h:Tail ts us) {X X':Nat→PR Exp} (hX:∀i,ExtP (X i) (X' i)) (lv:Nat):∀(f f':Nat) (e:Exp) (i:Nat),f≤f'→ExtP (YF ts X lv f e i) (YF us X' lv f' e i)
 | 0,_,e,i,_ => ExtP.bad _ _
 | f+1,0,e,i,hf=>by omega
 | f+1,f'+1,e,i,hf=>by
  simp only[YF]
  rw[h.op]
  split
  ·exact .refl _
  ·refine (hX _).bind fun b j=> ?_
   split
   ·exact .refl _
   ·exact h.row hX lv f f' _ _ oT
theorem Tail.lv (h:Tail ts us) {X X':Nat→PR Exp} (hX:∀i,ExtP (X i) (X' i)) (lv i:Nat):ExtP (lvP ts X lv i) (lvP us X' lv i):=
 (hX i).bind fun e j=>h.row hX lv _ _ _ _ (by have:=h.len;omega)
theorem Tail.atom (h:Tail ts us) {E E' A A':Nat→PR Exp} (hE:∀i,ExtP (E i) (E' i)) (hA:∀i,ExtP (A i) (A' i)) (i:Nat):ExtP (YY ts E A i) (YY us E' A' i):=by
 by_cases hi:i<ts.length
 ·obtain ⟨h1,h2⟩:=h.pre i hi
  unfold YY
  dsimp only
  rw[h2,if_neg (not_not_intro hi),if_neg (not_not_intro h1)]
  refine ExtP.ite (fun _ => ?_) (fun _ => ?_)
  ·exact .refl _
  refine ExtP.ite (fun _ => ?_) (fun _ => ?_)
  ·exact (h.set _ _ _ _ _ (by have:=h.len;omega)).bind fun _ _ => .refl _
  refine ExtP.ite (fun _ => ?_) (fun _ => ?_)
  ·exact .refl _
  refine ExtP.ite (fun _ => ?_) (fun _ => ?_)
  ·exact .refl _
  refine ExtP.ite (fun _ => ?_) (fun _ => ?_)
  ·exact .refl _
  refine ExtP.ite (fun _ => ?_) (fun _ => ?_)
  ·exact .refl _
  refine ExtP.ite (fun _ => ?_) (fun _ => ?_)
  ·exact (h.num _ _ _).bind fun _ _ => (h.take _ _).bind fun _ _ => (h.name _).bind fun _ _ => .refl _
  refine ExtP.ite (fun _ => ?_) (fun _ => ?_)
  ·exact (h.take _ _).bind fun _ _ => (h.num _ _ _).bind fun _ _ => (h.take _ _).bind fun _ _ => .refl _
  refine ExtP.ite (fun _ => ?_) (fun _ => ?_)
  ·exact (hE _).bind fun _ _ => (h.take _ _).bind fun _ _ => .refl _
  refine ExtP.ite (fun _ => ?_) (fun _ => ?_)
  ·exact (h.take _ _).bind fun _ _ => (hE _).bind fun _ _ => (h.take _ _).bind fun _ _ => (hE _).bind fun _ _ => (h.take _ _).bind fun _ _ => .refl _
  ·exact (h.name _).bind fun _ _ => (h.take _ _).bind fun _ _ => (h.name _).bind fun _ _ => (h.take _ _).bind fun _ _ => (hA _).bind fun _ _ => .refl _
 ·intro a j e
  unfold YY at e
  dsimp only at e
  rw[if_pos hi] at e
  cases e
theorem Tail.expr (h:Tail ts us) {E E' A A':Nat→PR Exp} (hE:∀i,ExtP (E i) (E' i)) (hA:∀i,ExtP (A i) (A' i)) (i:Nat):ExtP (X5 ts E A i) (X5 us E' A' i):=by
 unfold X5
 rw[h.sees_eq i (w:=wIf) (by decide)]
 split
 ·exact (hE _).bind fun _ _ => (h.take _ _).bind fun _ _ => (hE _).bind fun _ _ => (h.take _ _).bind fun _ _ => (hE _).bind fun _ _ => .refl _
 ·exact h.lv (fun i=>h.lv (fun i=>h.lv hA 3 i) 2 i) 1 i
mutual
theorem Tail.pE (h:Tail ts us):∀(f f' i:Nat),f≤f'→ExtP (pE ts f i) (pE us f' i)
 | 0,_,i,_ => ExtP.bad _ _
 | f+1,0,i,hf=>by omega
 | f+1,f'+1,i,hf=>h.expr (fun i=>Tail.pE h f f' i oT) (fun i=>Tail.pA h f f' i oT) i
theorem Tail.pA (h:Tail ts us):∀(f f' i:Nat),f≤f'→ExtP (pA ts f i) (pA us f' i)
 | 0,_,i,_ => ExtP.bad _ _
 | f+1,0,i,hf=>by omega
 | f+1,f'+1,i,hf=>h.atom (fun i=>Tail.pE h f f' i oT) (fun i=>Tail.pA h f f' i oT) i
end
def BdP {α:Type} (ts:List Tok) (i:Nat) (P:PR α):Prop:=i≤ts.length→∀a j,P = .ok a j→i≤j∧j≤ts.length
theorem BdP.bind {α β:Type} {i:Nat} {P:PR α} {f:α→Nat→PR β} (h:BdP ts i P) (hf:∀a j,BdP ts j (f a j)):BdP ts i (P.bind f):=by
 intro hi a j e
 cases P with
 | bad k=>cases e
 | ok b k=>
  obtain ⟨h1,h2⟩:=h hi b k rfl
  obtain ⟨h3,h4⟩:=hf b k h2 a j e
  exact ⟨oT,h4⟩
theorem BdP.ite {α:Type} {i:Nat} {c:Prop} [Decidable c] {a b:PR α} (h1:c→BdP ts i a) (h2:¬c→BdP ts i b):BdP ts i (if c then a else b):=by
 by_cases h:c
 ·rw[if_pos h];exact h1 h
 ·rw[if_neg h];exact h2 h
theorem BdP.at {α:Type} {i j:Nat} (a:α) (h:i≤j) (hj:i≤ts.length→j≤ts.length):BdP ts i (PR.ok a j):=by
 intro hi b k e
 cases e
 exact ⟨h,hj hi⟩
theorem BdP.ok {α:Type} {i:Nat} (a:α):BdP ts i (PR.ok a i):= .at a (Nat.le_refl _) fun h=>h
theorem BdP.next {α:Type} {i:Nat} (a:α) (h:i<ts.length):BdP ts i (PR.ok a (i+1)):= .at a oT fun _ => h
theorem BdP.bad {α:Type} {i k:Nat}:BdP ts i (PR.bad k:PR α):=fun _ a j e=>by cases e
theorem BdP.skip {α:Type} {i:Nat} {P:PR α} (h:i<ts.length) (hP:BdP ts (i+1) P):BdP ts i P:=fun hi a j e=>by
 obtain ⟨h1,h2⟩:=hP h a j e
 exact ⟨oT,h2⟩
theorem sees_lt {i:Nat} {w:ByteArray} (h:sees ts i w=true):i<ts.length:=by
 simp only[sees,Bool.and_eq_true,decide_eq_true_eq] at h
 exact h.1
theorem op_lt {i lv:Nat} (h:opAt ts i lv≠0):i<ts.length:=by
 rcases Nat.lt_or_ge i ts.length with h1|h1
 ·exact h1
 ·exfalso;apply h
  have:∀w,sees ts i w=false:=fun w=>by simp only[sees,decide_eq_false (show ¬i<ts.length by omega),Bool.false_and]
  unfold opAt
  simp[this]
theorem par_off {ts:List Tok} {len:Int} (h0:∀t∈ts,0≤t.at'∧t.at'≤len) (hl:0≤len):((parT ts len).2 = -1∨(0≤(parT ts len).2 ∧ (parT ts len).2 ≤ len∧(parT ts len).1 = .mk 0 0 0 0 noS noS [])):=by
 have hoff:∀i,0≤(if i<ts.length then (ts.getD i YW).at' else len)∧(if i<ts.length then (ts.getD i YW).at' else len)≤len:=fun i=>by
  split
  ·rename_i hi;rw[Zc hi];exact h0 _ (List.getElem_mem hi)
  ·omega
 unfold parT
 dsimp only
 cases pE ts (2 * ts.length+4) 0 with
 | bad i=>have:=hoff i;right;exact ⟨this.1,this.2,rfl⟩
 | ok x i=>
  have:=hoff i
  dsimp only
  by_cases hlt:i<ts.length
  ·rw[if_pos hlt] at this ⊢;right;simp only[if_pos hlt];exact ⟨this.1,this.2,trivial⟩
  ·rw[if_neg hlt]
   split
   ·left;rfl
   ·right;exact ⟨by show (0:Int)≤0;omega,hl,rfl⟩
end Go.Gh
namespace Go.Gh
open Lib
def Zs (p:UInt8→Bool):List UInt8→Nat
 | []=>0
 | c::l=>if p c=true then Zs p l+1 else 0
theorem spanL_le (p:UInt8→Bool):∀l:List UInt8,Zs p l≤l.length
 | []=>by simp[Zs]
 | c::l=>by
  simp only[Zs]
  split
  ·have:=spanL_le p l;simp;omega
  ·simp
theorem Xu {p:UInt8→Bool} {l:List UInt8} {k:Nat} (h:k<l.length) (hp:p l[k]=true):Zs p (l.drop k)=Zs p (l.drop (k+1))+1:=by
 rw[List.drop_eq_getElem_cons h]
 simp[Zs,hp]
theorem spanL_stop {p:UInt8→Bool} {l:List UInt8} {k:Nat} (h:k<l.length) (hp:p l[k]=false):Zs p (l.drop k)=0:=by
 rw[List.drop_eq_getElem_cons h]
 simp[Zs,hp]
theorem spanL_end {p:UInt8→Bool} {l:List UInt8} {k:Nat} (h:l.length≤k):Zs p (l.drop k)=0:=by
 rw[List.drop_eq_nil_of_le h]
 rfl
def Y8 (l:List UInt8):Int:=l.foldl (fun n c=>10 * n+((c.toNat:Int)-48)) 0
def numT (w:List UInt8):Option Int:=if itoa (Y8 w)=w∧Y8 w≤1000000 then some (Y8 w) else none
def YM (c:UInt8):Bool:=Y9 c||ZH c
def symC:List UInt8:=[40,41,123,125,44,46,36,43,45,42,60,124,38,92]
def Y0 (l:List UInt8) (k:Nat):Tok×Nat:=
 if h:k<l.length then
  if Y9 l[k]=true then
   if Zs YM (l.drop k)≤8 then (⟨1,0,k,⟨((l.drop k).take (Zs YM (l.drop k))).toArray⟩⟩,Zs YM (l.drop k)) else (YW,0)
  else if ZH l[k]=true then
   match numT ((l.drop k).take (Zs ZH (l.drop k))) with
   | some n=>(⟨2,n,k,noS⟩,Zs ZH (l.drop k))
   | none=>(YW,0)
  else if l[k]∈symC then (⟨3,0,k,⟨#[l[k]]⟩⟩,1)
  else if l[k]=61∧l[k+1]? = some 61 then (⟨3,0,k,⟨#[61,61]⟩⟩,2)
  else (YW,0)
 else (YW,0)
theorem tokN_le {l:List UInt8} {k:Nat} (hk:k≤l.length):k+(Y0 l k).2 ≤ l.length:=by
 unfold Y0
 split
 ·rename_i h
  have h1:=spanL_le YM (l.drop k)
  have h2:=spanL_le ZH (l.drop k)
  simp only[List.length_drop] at h1 h2
  split
  ·split<;>dsimp only<;>omega
  ·split
   ·split<;>dsimp only<;>omega
   ·split
    ·dsimp only;omega
    ·split
     ·rename_i h3
      have:=(List.getElem?_eq_some_iff.1 h3.2).1
      dsimp only;omega
     ·dsimp only;omega
 ·dsimp only;omega
theorem tokN_at {l:List UInt8} {k:Nat} (h:(Y0 l k).2 ≠ 0):(Y0 l k).1.at' = k∧k<l.length:=by
 unfold Y0 at *
 split
 ·rename_i hk
  rw[dif_pos hk] at h
  refine ⟨?_,hk⟩
  split at h
  ·rename_i h1;rw[if_pos h1]
   split at h
   ·rename_i h2;rw[if_pos h2]
   ·exact absurd rfl h
  ·rename_i h1;rw[if_neg h1]
   split at h
   ·rename_i h2;rw[if_pos h2]
    split at h
    ·rfl
    ·exact absurd rfl h
   ·rename_i h2;rw[if_neg h2]
    split at h
    ·rename_i h3;rw[if_pos h3]
    ·rename_i h3;rw[if_neg h3]
     split at h
     ·rename_i h4;rw[if_pos h4]
     ·exact absurd rfl h
 ·rename_i hk
  rw[dif_neg hk] at h
  exact absurd rfl h
def Yx (l:List UInt8):Nat→Nat→List Tok→List Tok×Int
 | 0,k,_ => ([],k)
 | f+1,k,out=>
  if h:k<l.length then
   if l[k]=32 then Yx l f (k+1) out
   else if (Y0 l k).2 = 0∨out.length=80 then ([],k)
   else Yx l f (k+(Y0 l k).2) (out++[(Y0 l k).1])
  else (out, -1)
theorem tokL_succ (l:List UInt8) (f k:Nat) (out:List Tok):Yx l (f+1) k out =
 if h:k<l.length then
  if l[k]=32 then Yx l f (k+1) out
  else if (Y0 l k).2 = 0∨out.length=80 then ([],k)
  else Yx l f (k+(Y0 l k).2) (out++[(Y0 l k).1])
 else (out, -1):=rfl
def Zi (l:List UInt8):List Tok×Int:=if 160<l.length then ([],160) else Yx l (l.length+1) 0 []
theorem tokL_fuel {l:List UInt8}:∀(f f' k:Nat) (out:List Tok),k≤l.length→l.length<f+k→l.length<f'+k→Yx l f k out=Yx l f' k out
 | 0,f',k,out,hk,h,h'=>by omega
 | f+1,0,k,out,hk,h,h'=>by omega
 | f+1,f'+1,k,out,hk,h,h'=>by
  rw[tokL_succ,tokL_succ]
  split
  ·split
   ·exact tokL_fuel f f' _ _ oT oT oT
   ·split
    ·rfl
    ·rename_i h1
     have:=tokN_le hk
     exact tokL_fuel f f' _ _ this oT oT
  ·rfl
theorem tokL_at {l:List UInt8}:∀(f k:Nat) (out:List Tok),(∀t∈out,0≤t.at'∧t.at'≤l.length)→∀t∈(Yx l f k out).1,0≤t.at'∧t.at'≤l.length
 | 0,k,out,h=>by simp[Yx]
 | f+1,k,out,h=>by
  simp only[Yx]
  split
  ·split
   ·exact tokL_at f _ _ h
   ·split
    ·simp
    ·rename_i h1
     refine tokL_at f _ _ fun t ht=> ?_
     rcases List.mem_append.1 ht with ht|ht
     ·exact h t ht
     ·rw[List.mem_singleton] at ht
      subst ht
      have:=tokN_at (l:=l) (k:=k) (fun e=>h1 (.inl e))
      omega
  ·exact h
theorem tokL_len {l:List UInt8}:∀(f k:Nat) (out:List Tok),out.length≤80→(Yx l f k out).1.length ≤ 80
 | 0,k,out,h=>by simp[Yx]
 | f+1,k,out,h=>by
  simp only[Yx]
  split
  ·split
   ·exact tokL_len f _ _ h
   ·split
    ·simp
    ·rename_i h1
     exact tokL_len f _ _ (by simp;omega)
  ·exact h
theorem tokL_bad {l:List UInt8}:∀(f k:Nat) (out:List Tok),k≤l.length→l.length<f+k→(Yx l f k out).2 = -1∨((Yx l f k out).1 = []∧0≤(Yx l f k out).2 ∧ (Yx l f k out).2 < l.length)
 | 0,k,out,hk,h=>by omega
 | f+1,k,out,hk,h=>by
  rw[tokL_succ]
  split
  ·split
   ·exact tokL_bad f _ _ oT oT
   ·split
    ·right;exact ⟨rfl,by dsimp only;omega,by dsimp only;omega⟩
    ·have:=tokN_le hk
     exact tokL_bad f _ _ this oT
  ·left;rfl
def ZB (l:List UInt8):Exp×Int:=if (Zi l).2 ≥ 0 then (.mk 0 0 0 0 noS noS [],(Zi l).2) else parT (Zi l).1 l.length
theorem tokz_at (l:List UInt8):∀t∈(Zi l).1,0≤t.at'∧t.at'≤l.length:=by
 unfold Zi
 split
 ·simp
 ·exact tokL_at _ _ _ (by simp)
theorem tokz_len (l:List UInt8):(Zi l).1.length ≤ 80:=by
 unfold Zi
 split
 ·simp
 ·exact tokL_len _ _ _ (by simp)
theorem tokz_bad (l:List UInt8):(Zi l).2 = -1∨((Zi l).1 = []∧0≤(Zi l).2 ∧ (Zi l).2 ≤ l.length):=by
 unfold Zi
 split
 ·right;exact ⟨rfl,by dsimp only;omega,by dsimp only;omega⟩
 ·rcases tokL_bad (l:=l) (l.length+1) 0 [] oT oT with h|⟨h1,h2,h3⟩
  ·exact .inl h
  ·exact .inr ⟨h1,h2,oT⟩
theorem err_off (l:List UInt8):(ZB l).2 = -1∨(0≤(ZB l).2 ∧ (ZB l).2 ≤ l.length∧(ZB l).1 = .mk 0 0 0 0 noS noS []):=by
 unfold ZB
 split
 ·rename_i h
  rcases tokz_bad l with h1|⟨_,h2,h3⟩
  ·omega
  ·exact .inr ⟨h2,h3,rfl⟩
 ·exact par_off (tokz_at l) oT
end Go.Gh
namespace Go.Gh
open Lib
abbrev Key:=Int×Int×ByteArray
abbrev It:=Option Key
def YU (x:Key):List UInt8:=if x.1=2 then itoa x.2.1 else Z9 x.2.2
def Ya:It→List UInt8
 | none=>[32]
 | some x=>YU x
def Y7 (l:List It):List UInt8:=l.flatMap Ya
def keys (l:List It):List Key:=l.filterMap id
abbrev wd (w:ByteArray):It:=some (1,0,w)
abbrev sy (c:UInt8):It:=some (3,0,⟨#[c]⟩)
abbrev nb (n:Int):It:=some (2,n,noS)
theorem rend_nil:Y7 []=[]:=rfl
theorem Yv (x:It) (l:List It):Y7 (x::l)=Ya x++Y7 l:=rfl
theorem rend_app (a b:List It):Y7 (a++b)=Y7 a++Y7 b:=by simp[Y7]
theorem keys_nil:keys []=[]:=rfl
theorem keys_none (l:List It):keys (none::l)=keys l:=rfl
theorem XU (x:Key) (l:List It):keys (some x::l)=x::keys l:=rfl
theorem keys_app (a b:List It):keys (a++b)=keys a++keys b:=by simp[keys]
def alnK (x:Key):Bool:=decide (x.1=1∨x.1=2)
def alnI:It→Bool
 | none=>false
 | some x=>alnK x
def sepI:List It→Bool
 | []=>true
 | [_]=>true
 | x::y::l=> !(alnI x&&alnI y)&&sepI (y::l)
theorem sep_mid {x:It} (hx:alnI x=false) (r:List It):∀l:List It,sepI (l++x::r)=(sepI l&&sepI (x::r))
 | []=>by simp[sepI]
 | [y]=>by simp[sepI,hx]
 | y::z::l=>by
  have:=sep_mid hx r (z::l)
  simp only[List.cons_append,sepI] at this ⊢
  rw[this,Bool.and_assoc]
theorem sep_cons {x:It} (hx:alnI x=false) (r:List It):sepI (x::r)=sepI r:=by
 cases r with
 | nil=>rfl
 | cons y l=>simp[sepI,hx]
def goodK (x:Key):Prop:=
 (x.1=1∧x.2.1=0∧shp (Z9 x.2.2)=true∧(Z9 x.2.2).length ≤ 8)∨(x.1=2∧x.2.2=noS∧0≤x.2.1∧x.2.1≤1000000) ∨
 (x.1=3∧x.2.1=0∧((∃c∈symC,x.2.2=⟨#[c]⟩)∨x.2.2=⟨#[61,61]⟩))
def goodI:It→Prop
 | none=>True
 | some x=>goodK x
theorem valD_snoc (l:List UInt8) (c:UInt8):Y8 (l++[c])=10 * Y8 l+((c.toNat:Int)-48):=by simp[Y8]
theorem dig_toNat:∀d,d<10→(UInt8.ofNat (48+d)).toNat = 48+d:=by decide
theorem dig_digV:∀d,d<10→ZH (UInt8.ofNat (48+d))=true:=by decide
theorem dec_ind {p:Nat→List UInt8→Prop} (h0:∀u,u<10→p u [UInt8.ofNat (48+u)]) (h1:∀u,¬u<10→p (u / 10) (decDigits (u / 10))→p u (decDigits (u / 10)++[UInt8.ofNat (48+u % 10)])) (u:Nat):p u (decDigits u):=by
 induction u using Nat.strongRecOn with
 | _ u ih=>
  by_cases h:u<10
  ·rw[decDigits_one h];exact h0 u h
  ·rw[decDigits,dif_neg h]
   exact h1 u h (ih (u / 10) oT)
theorem valD_dec (u:Nat):Y8 (decDigits u)=u:=by
 refine dec_ind (p:=fun u l=>Y8 l=u) (fun u h=> ?_) (fun u h ih=> ?_) u
 ·have:=dig_toNat u h
  simp only[Y8,List.foldl_cons,List.foldl_nil,this]
  omega
 ·rw[valD_snoc,ih,dig_toNat _ (Nat.mod_lt _ (by decide))]
  omega
theorem dec_dig (u:Nat):(∀c∈decDigits u,ZH c=true)∧decDigits u≠[]:=by
 refine dec_ind (p:=fun u l=>(∀c∈l,ZH c=true)∧l≠[]) (fun u h=> ?_) (fun u h ih=> ?_) u
 ·exact ⟨fun c hc=>by rw[List.mem_singleton] at hc;subst hc;exact dig_digV u h,by simp⟩
 ·refine ⟨fun c hc=> ?_,by simp⟩
  rcases List.mem_append.1 hc with hc|hc
  ·exact ih.1 c hc
  ·rw[List.mem_singleton] at hc;subst hc;exact dig_digV _ (Nat.mod_lt _ (by decide))
theorem XO {n:Int} (h:0≤n):itoa n=decDigits n.toNat:=by unfold itoa;rw[if_neg oT]
theorem numT_itoa {n:Int} (h:0≤n) (h1:n≤1000000):numT (itoa n)=some n:=by
 have e:Y8 (itoa n)=n:=by rw[XO h,valD_dec];omega
 unfold numT
 rw[e,if_pos ⟨rfl,h1⟩]
theorem numT_some {w:List UInt8} {n:Int} (h:numT w=some n):itoa n=w∧n≤1000000:=by
 unfold numT at h
 split at h
 ·rename_i h1
  simp only[Option.some.injEq] at h
  rw[←h];exact h1
 ·cases h
theorem spanL_all {p:UInt8→Bool}:∀(l r:List UInt8),(∀c∈l,p c=true)→(∀c,r.head?=some c→p c=false)→Zs p (l++r)=l.length
 | [],r,_,h=>by
  cases r with
  | nil=>rfl
  | cons c r=>simp[Zs,h c rfl]
 | c::l,r,hl,h=>by
  simp only[List.cons_append,Zs,hl c (by simp),if_true,List.length_cons]
  rw[spanL_all l r (fun c hc=>hl c (by simp[hc])) h]
theorem drop_pre {α:Type} (a b:List α):(a++b).drop a.length=b:=by simp
theorem get_pre {α:Type} {a b:List α} {c:α} {r:List α} (hb:b=c::r) (h:a.length<(a++b).length):(a++b)[a.length]=c:=by subst hb;simp
theorem dig_not_let (c:UInt8) (h:ZH c=true):Y9 c=false:=by
 simp only[ZH,Y9,Bool.and_eq_true,decide_eq_true_eq,Bool.and_eq_false_iff,decide_eq_false_iff_not] at *
 omega
theorem symC_no:∀c∈symC,Y9 c=false∧ZH c=false:=by decide
theorem take_pre {α:Type} (a b:List α):(a++b).take a.length=a:=by simp
theorem tokN_it {x:Key} (hx:goodK x) (pre r:List UInt8) (hr:alnK x=true→∀c,r.head?=some c→YM c=false) :
 Y0 (pre++(YU x++r)) pre.length=(⟨x.1,x.2.1,pre.length,x.2.2⟩,(YU x).length)∧(YU x).length ≠ 0:=by
 obtain ⟨k,n,t⟩:=x
 rcases hx with ⟨h1,h2,h3,h4⟩|⟨h1,h2,h3,h4⟩|⟨h1,h2,h3⟩
 ·dsimp only at h1 h2 h3 h4
  subst h1 h2
  have e:YU (1,0,t)=Z9 t:=rfl
  have hr':=hr (by simp[alnK])
  rw[e]
  obtain ⟨c,l,hc⟩:∃c l,Z9 t=c::l:=by
   cases hh:Z9 t with
   | nil=>rw[hh] at h3;cases h3
   | cons c l=>exact ⟨c,l,rfl⟩
  have hall:∀c∈Z9 t,YM c=true:=by
   rw[hc] at h3 ⊢
   simp only[shp,Bool.and_eq_true,List.all_eq_true] at h3
   intro d hd
   rcases List.mem_cons.1 hd with rfl|hd
   ·simp[YM,h3.1]
   ·exact h3.2 d hd
  have hlt:pre.length<(pre++(Z9 t++r)).length := by rw[hc];simp
  have hg:(pre++(Z9 t++r))[pre.length]=c:=get_pre (r:=l++r) (by rw[hc];rfl) hlt
  have hl:Y9 c=true:=by rw[hc] at h3;simp only[shp,Bool.and_eq_true] at h3;exact h3.1
  refine ⟨?_,by rw[hc];simp⟩
  unfold Y0
  rw[dif_pos hlt]
  simp only[hg,hl,if_true,drop_pre,spanL_all _ r hall hr',take_pre,if_pos h4]
 ·dsimp only at h1 h2 h3 h4
  subst h1 h2
  have e:YU (2,n,noS)=itoa n:=rfl
  have hr':=hr (by simp[alnK])
  have hd:=dec_dig n.toNat
  rw[←XO h3] at hd
  rw[e]
  obtain ⟨c,l,hc⟩:∃c l,itoa n=c::l:=by
   cases hh:itoa n with
   | nil=>exact absurd hh hd.2
   | cons c l=>exact ⟨c,l,rfl⟩
  have hdc:ZH c=true:=hd.1 c (by rw[hc];simp)
  have hlt:pre.length<(pre++(itoa n++r)).length := by rw[hc];simp
  have hg:(pre++(itoa n++r))[pre.length]=c:=get_pre (r:=l++r) (by rw[hc];rfl) hlt
  have hr2:∀c,r.head?=some c→ZH c=false:=fun c h=>by
   have:=hr' c h
   simp only[YM,Bool.or_eq_false_iff] at this
   exact this.2
  refine ⟨?_,by rw[hc];simp⟩
  unfold Y0
  rw[dif_pos hlt]
  simp only[hg,dig_not_let c hdc,hdc,Bool.false_eq_true,if_false,if_true,drop_pre,spanL_all _ r hd.1 hr2,take_pre,numT_itoa h3 h4]
 ·dsimp only at h1 h2 h3
  subst h1 h2
  have e:YU (3,0,t)=Z9 t:=rfl
  rw[e]
  rcases h3 with ⟨c,hc,rfl⟩|rfl
  ·have e1:Z9 ⟨#[c]⟩=[c]:=rfl
   rw[e1]
   have hlt:pre.length<(pre++([c]++r)).length := by simp
   have hg:(pre++([c]++r))[pre.length]=c:=get_pre (r:=r) rfl hlt
   obtain ⟨n1,n2⟩:=symC_no c hc
   refine ⟨?_,by simp⟩
   unfold Y0
   rw[dif_pos hlt]
   simp only[hg,n1,n2,Bool.false_eq_true,if_false,if_pos hc,List.length_singleton]
  ·have e1:Z9 ⟨#[61,61]⟩=[61,61]:=rfl
   rw[e1]
   have hlt:pre.length<(pre++([61,61]++r)).length := by simp
   have hg:(pre++([61,61]++r))[pre.length]=61:=get_pre (r:=61::r) rfl hlt
   have hg2:(pre++([61,61]++r))[pre.length+1]? = some 61:=by
    rw[List.getElem?_append_right oT]
    simp
   refine ⟨?_,by simp⟩
   unfold Y0
   rw[dif_pos hlt]
   simp only[hg,hg2]
   rw[if_neg (by decide),if_neg (by decide),if_neg (by decide),if_pos (by simp)]
   rfl
def Yd:Nat→List It→List Tok
 | _,[]=>[]
 | p,none::l=>Yd (p+1) l
 | p,some x::l=>⟨x.1,x.2.1,p,x.2.2⟩::Yd (p+(YU x).length) l
def keyT (t:Tok):Key:=(t.kind,t.num,t.text)
theorem toksAt_keys:∀(p:Nat) (l:List It),(Yd p l).map keyT=keys l
 | _,[]=>rfl
 | p,none::l=>by rw[Yd,keys_none];exact toksAt_keys _ l
 | p,some x::l=>by rw[Yd,XU,List.map_cons,toksAt_keys];rfl
theorem rendI_hd {x:It} (hx:goodI x) (ha:alnI x=false):∃c l,Ya x=c::l∧YM c=false:=by
 cases x with
 | none=>exact ⟨32,[],rfl,by decide⟩
 | some x=>
  obtain ⟨k,n,t⟩:=x
  simp only[alnI,alnK,decide_eq_false_iff_not,not_or] at ha
  rcases hx with ⟨h1,_⟩|⟨h1,_⟩|⟨h1,h2,h3⟩
  ·exact absurd h1 ha.1
  ·exact absurd h1 ha.2
  ·dsimp only at h1 h2 h3
   subst h1
   rcases h3 with ⟨c,hc,rfl⟩|rfl
   ·obtain ⟨n1,n2⟩:=symC_no c hc
    exact ⟨c,[],rfl,by simp[YM,n1,n2]⟩
   ·exact ⟨61,[61],rfl,by decide⟩
theorem rend_hd {x:It} {l:List It} (hl:∀y∈l,goodI y) (hs:sepI (x::l)=true) (hx:alnI x=true):∀c,(Y7 l).head? = some c→YM c=false:=by
 intro c hc
 cases l with
 | nil=>cases hc
 | cons y l=>
  simp only[sepI,hx,Bool.true_and,Bool.and_eq_true,Bool.not_eq_true'] at hs
  obtain ⟨d,r,e,hd⟩:=rendI_hd (hl y (by simp)) hs.1
  rw[Yv,e] at hc
  simp only[List.cons_append,List.head?_cons,Option.some.injEq] at hc
  subst hc
  exact hd
theorem key_hd32 {x:Key} (hx:goodK x):∀c,(YU x).head? = some c→c≠32:=by
 obtain ⟨k,n,t⟩:=x
 intro c hc e
 subst e
 rcases hx with ⟨h1,h2,h3,h4⟩|⟨h1,h2,h3,h4⟩|⟨h1,h2,h3⟩
 ·dsimp only at h1 h3
  subst h1
  have e:YU (1,n,t)=Z9 t:=rfl
  rw[e] at hc
  cases hh:Z9 t with
  | nil=>rw[hh] at hc;cases hc
  | cons d l=>
   rw[hh] at hc h3
   simp only[List.head?_cons,Option.some.injEq] at hc
   subst hc
   simp only[shp,Bool.and_eq_true] at h3
   exact absurd h3.1 (by decide)
 ·dsimp only at h1 h3
  subst h1
  have e:YU (2,n,t)=itoa n:=rfl
  rw[e,XO h3] at hc
  have hd:=(dec_dig n.toNat).1
  have:=hd 32 (List.mem_of_mem_head? hc)
  exact absurd this (by decide)
 ·dsimp only at h1 h3
  subst h1
  have e:YU (3,n,t)=Z9 t:=rfl
  rw[e] at hc
  rcases h3 with ⟨d,hd,rfl⟩|rfl
  ·simp only[Z9,List.head?_cons,Option.some.injEq] at hc
   subst hc
   exact absurd hd (by decide)
  ·cases hc
theorem tokL_its:∀(its:List It) (pre:List UInt8) (out:List Tok) (f:Nat),(∀x∈its,goodI x)→sepI its=true→(pre++Y7 its).length < f+pre.length→out.length≤80 →
 (out.length+(keys its).length ≤ 80→Yx (pre++Y7 its) f pre.length out=(out++Yd pre.length its, -1)) ∧
 (80<out.length+(keys its).length → (Yx (pre++Y7 its) f pre.length out).1 = []∧0≤(Yx (pre++Y7 its) f pre.length out).2)
 | [],pre,out,f,hg,hs,hf,ho=>by
  cases f with
  | zero=>simp at hf;omega
  | succ f=>
   rw[rend_nil,List.append_nil]
   simp only[Yx]
   rw[dif_neg oT]
   exact ⟨fun _ => by simp[Yd],fun h=>by simp[keys] at h;omega⟩
 | none::l,pre,out,f,hg,hs,hf,ho=>by
  cases f with
  | zero=>simp at hf;omega
  | succ f=>
   have e:pre++Y7 (none::l)=(pre++[32])++Y7 l:=by rw[Yv];simp[Ya]
   have hlt:pre.length<(pre++Y7 (none::l)).length := by rw[Yv];simp[Ya]
   have hg32:(pre++Y7 (none::l))[pre.length]=32:=get_pre (r:=Y7 l) rfl hlt
   have ih:=tokL_its l (pre++[32]) out f (fun x hx=>hg x (by simp[hx])) (by rw[sep_cons rfl] at hs;exact hs) (by rw[←e];simp only[List.length_append,List.length_singleton] at hf ⊢;omega) ho
   simp only[Yx]
   rw[dif_pos hlt,hg32,if_pos rfl,keys_none]
   rw[←e] at ih
   simpa[Yd] using ih
 | some x::l,pre,out,f,hg,hs,hf,ho=>by
  cases f with
  | zero=>simp at hf;omega
  | succ f=>
   have hx:goodK x:=hg (some x) (by simp)
   have hl:∀y∈l,goodI y:=fun y hy=>hg y (by simp[hy])
   have hsl:sepI l=true:=by
    cases l with
    | nil=>rfl
    | cons y l=>simp only[sepI,Bool.and_eq_true] at hs;exact hs.2
   obtain ⟨t1,t2⟩:=tokN_it hx pre (Y7 l) (fun ha=>rend_hd hl hs ha)
   have e0:pre++Y7 (some x::l)=pre++(YU x++Y7 l):=by rw[Yv];rfl
   have e:pre++Y7 (some x::l)=(pre++YU x)++Y7 l:=by rw[e0];simp
   rw[←e0] at t1
   have hlt:pre.length<(pre++Y7 (some x::l)).length := by rw[e0];simp;omega
   obtain ⟨c,q,hc⟩:∃c q,YU x=c::q:=by
    cases hh:YU x with
    | nil=>rw[hh] at t2;exact absurd rfl t2
    | cons c q=>exact ⟨c,q,rfl⟩
   have hgc:(pre++Y7 (some x::l))[pre.length]=c:=get_pre (r:=q++Y7 l) (by rw[Yv];show YU x ++ _ = _;rw[hc];rfl) hlt
   have hne:c≠32:=key_hd32 hx c (by rw[hc];rfl)
   simp only[Yx]
   rw[dif_pos hlt,hgc,if_neg hne,t1]
   dsimp only
   rw[XU,List.length_cons]
   by_cases h8:out.length=80
   ·rw[if_pos (.inr h8)]
    exact ⟨fun h=>by omega,fun _ => ⟨rfl,by dsimp only;omega⟩⟩
   ·rw[if_neg (by intro h;rcases h with h|h<;>contradiction)]
    have ih:=tokL_its l (pre++YU x) (out++[⟨x.1,x.2.1,pre.length,x.2.2⟩]) f hl hsl (by rw[←e];simp only[List.length_append] at hf ⊢;omega) (by simp;omega)
    rw[←e] at ih
    simp only[List.length_append,List.length_singleton] at ih
    refine ⟨fun h=> ?_,fun h=>ih.2 oT⟩
    rw[ih.1 oT]
    simp[Yd]
theorem tokz_its {its:List It} (hg:∀x∈its,goodI x) (hs:sepI its=true) :
 ((Y7 its).length ≤ 160∧(keys its).length ≤ 80∧Zi (Y7 its)=(Yd 0 its, -1))∨((160<(Y7 its).length ∨ 80<(keys its).length)∧(Zi (Y7 its)).1 = []∧0≤(Zi (Y7 its)).2):=by
 unfold Zi
 by_cases h:160<(Y7 its).length
 ·rw[if_pos h];exact .inr ⟨.inl h,rfl,by dsimp only;omega⟩
 ·rw[if_neg h]
  have:=tokL_its its [] [] ((Y7 its).length + 1) hg hs (by simp) (by simp)
  simp only[List.nil_append,List.length_nil,Nat.zero_add] at this
  by_cases h8:(keys its).length ≤ 80
  ·exact .inl ⟨oT,h8,this.1 h8⟩
  ·have h9:=this.2 oT
   exact .inr ⟨.inr oT,h9.1,h9.2⟩
end Go.Gh
namespace Go.Gh
open Lib
def Zv (n:Int):Nat:=if n=9∨n=10 then 1 else if n=1∨n=2∨n=6∨n=8 then 2 else if n=3∨n=7 then 3 else 4
def lvE (e:Exp):Nat:=if e.kind=5 then 0 else if e.kind=4 then Zv e.n else 4
def opK (n:Int):Key:=
 if n=1 then (3,0,⟨#[43]⟩) else if n=2 then (3,0,⟨#[45]⟩) else if n=3 then (3,0,⟨#[42]⟩) else if n=4 then (1,0,wMax) else if n=5 then (1,0,wMin) else if n=6 then (3,0,⟨#[124]⟩) else
 if n=7 then (3,0,⟨#[38]⟩) else if n=8 then (3,0,⟨#[92]⟩) else if n=9 then (3,0,⟨#[60]⟩) else if n=10 then (3,0,⟨#[61,61]⟩) else if n=11 then (1,0,wHas) else (1,0,wWith)
def joinI:List It→List It
 | []=>[]
 | [x]=>[x]
 | x::y::l=>x::none::joinI (y::l)
def Yl (n:Int):List Nat:=(List.range 12).filter fun k=>n.toNat.testBit k
def setI (n:Int):List It:=sy 123::(joinI ((Yl n).map fun k:Nat=>nb (k:Int))++[sy 125])
def conI (n t:Int):List It:=if t=1 then [nb n] else if t=3 then [wd (if n=1 then wTrue else X7)] else setI n
def YA (L:Nat) (x:Nat×List It):List It:=if x.1<L then sy 40::(x.2++[sy 41]) else x.2
def itN (k n p t:Int) (s m:ByteArray) (xs:List (Nat×List It)):List It:=
 if k=1 then conI n t else if k=2 then [wd wLit] else if k=3 then [sy 36,nb p,sy 46,wd m] else
 if k=5 then wd wIf::none::((xs.getD 0 (4,[])).2 ++ none::wd wThen::none::((xs.getD 1 (4,[])).2 ++ none::wd wElse::none::(xs.getD 2 (4,[])).2)) else
 if k=6 then [wd wSelf,sy 40,nb p,sy 41] else if k=7 then [wd wNone] else
 if k=8 then wd s::sy 46::wd m::none::wd wOf::none::YA 4 (xs.getD 0 (4,[])) else
 if Zv n=4 then some (opK n)::sy 40::((xs.getD 0 (4,[])).2 ++ sy 44::none::((xs.getD 1 (4,[])).2 ++ [sy 41])) else
 YA (max (Zv n) 2) (xs.getD 0 (4,[]))++none::some (opK n)::none::YA (Zv n+1) (xs.getD 1 (4,[]))
mutual
def itE:Exp→List It
 | .mk k n p t s m a=>itN k n p t s m (itL a)
def itL:List Exp→List (Nat×List It)
 | []=>[]
 | e::l=>(lvE e,itE e)::itL l
end
theorem itL_eq (l:List Exp):itL l=l.map fun e=>(lvE e,itE e):=by
 induction l with
 | nil=>rfl
 | cons e l ih=>simp[itL,ih]
theorem itE_eq (e:Exp):itE e=itN e.kind e.n e.pos e.type e.sym e.name (e.args.map fun e=>(lvE e,itE e)):=by
 cases e;simp only[itE,itL_eq];rfl
abbrev kE (e:Exp):List Key:=keys (itE e)
theorem keys_join:∀l:List Key,keys (joinI (l.map some))=l
 | []=>rfl
 | [x]=>rfl
 | x::y::l=>by
  have:=keys_join (y::l)
  simp only[List.map_cons,joinI,XU,keys_none] at this ⊢
  rw[this]
variable {ts:List Tok}
def Sf (ts:List Tok) (i:Nat) (R:List Key):Prop:=(ts.map keyT).drop i=R
theorem Sf.cons {i:Nat} {x:Key} {R:List Key} (h:Sf ts i (x::R)):i<ts.length∧keyT (ts.getD i YW)=x∧Sf ts (i+1) R:=by
 unfold Sf at *
 have hlt:i<ts.length:=by
  rcases Nat.lt_or_ge i ts.length with h1|h1
  ·exact h1
  ·rw[List.drop_eq_nil_of_le (by simpa using h1)] at h;cases h
 rw[List.drop_eq_getElem_cons (by simpa using hlt)] at h
 simp only[List.getElem_map,List.cons.injEq] at h
 exact ⟨hlt,by rw[Zc hlt];exact h.1,h.2⟩
theorem Sf.nil {i:Nat} (h:Sf ts i []):¬i<ts.length:=by
 unfold Sf at h
 have:=List.drop_eq_nil_iff.1 h
 simpa using this
theorem Sf.app {i:Nat} {A R:List Key} (h:Sf ts i (A++R)):Sf ts (i+A.length) R:=by
 unfold Sf at *
 rw[←List.drop_drop,h]
 simp
theorem Sf.len {i:Nat} {R:List Key} (h:Sf ts i R):R.length=ts.length-i:=by
 unfold Sf at h
 rw[←h]
 simp
def isK (x:Key) (w:ByteArray):Bool:=(decide (x.1=1)||decide (x.1=3))&&decide (x.2.2=w)
theorem Sf.isW {i:Nat} {x:Key} {R:List Key} (h:Sf ts i (x::R)) (w:ByteArray):isW (ts.getD i YW) w=isK x w:=by
 obtain ⟨_,h2,_⟩:=h.cons
 rw[←h2]
 rfl
theorem Sf.sees {i:Nat} {x:Key} {R:List Key} (h:Sf ts i (x::R)) (w:ByteArray):sees ts i w=isK x w:=by
 unfold Go.Gh.sees
 rw[h.isW w,decide_eq_true h.cons.1,Bool.true_and]
theorem Sf.seesN {i:Nat} (h:Sf ts i []) (w:ByteArray):Go.Gh.sees ts i w=false:=by
 unfold Go.Gh.sees
 rw[decide_eq_false h.nil,Bool.false_and]
theorem Sf.take {i:Nat} {x:Key} {R:List Key} {w:ByteArray} (h:Sf ts i (x::R)) (hw:isK x w=true):ZY ts i w = .ok () (i+1):=by
 unfold ZY
 rw[h.sees w,if_pos hw]
theorem Sf.num {i:Nat} {n lo hi:Int} {t:ByteArray} {R:List Key} (h:Sf ts i ((2,n,t)::R)) (h1:lo≤n) (h2:n≤hi):Zo ts i lo hi = .ok n (i+1):=by
 obtain ⟨a,b,_⟩:=h.cons
 simp only[keyT,Prod.mk.injEq] at b
 unfold Zo
 rw[b.1,b.2.1,if_pos ⟨a,rfl,h1,h2⟩]
theorem Sf.name {i:Nat} {n:Int} {t:ByteArray} {R:List Key} (h:Sf ts i ((1,n,t)::R)) (h1:ZV t=true):ZM ts i = .ok t (i+1):=by
 obtain ⟨a,b,_⟩:=h.cons
 simp only[keyT,Prod.mk.injEq] at b
 unfold ZM
 rw[b.1,b.2.2,if_pos ⟨a,rfl,h1⟩]
def opKy (x:Key) (lv:Nat):Int:=
 if lv=1 then (if isK x ⟨#[60]⟩=true then 9 else if isK x ⟨#[61,61]⟩=true then 10 else 0) else
 if lv=2 then (if isK x ⟨#[43]⟩=true then 1 else if isK x ⟨#[45]⟩=true then 2 else if isK x ⟨#[124]⟩=true then 6 else if isK x ⟨#[92]⟩=true then 8 else 0) else
 if lv=3 then (if isK x ⟨#[42]⟩=true then 3 else if isK x ⟨#[38]⟩=true then 7 else 0) else 0
def opR:List Key→Nat→Int
 | [],_ => 0
 | x :: _,lv=>opKy x lv
theorem Sf.op {i:Nat} {R:List Key} (h:Sf ts i R) (lv:Nat):opAt ts i lv=opR R lv:=by
 cases R with
 | nil=>unfold opAt;simp[h.seesN,opR]
 | cons x R=>unfold opAt;simp only[h.sees,opR,opKy]
theorem opKy_op:∀n∈[(1:Int),2,3,4,5,6,7,8,9,10,11,12],∀lv∈[1,2,3],opKy (opK n) lv=if Zv n=lv then n else 0:=by decide
theorem mem12 {n:Int} (h:1≤n) (h2:n≤12):n∈[(1:Int),2,3,4,5,6,7,8,9,10,11,12]:=by simp;omega
theorem mem3 {n:Nat} (h:1≤n) (h2:n≤3):n∈[1,2,3]:=by simp;omega
def NoOp (R:List Key) (L:Nat):Prop:=∀l,L≤l→l≤3→opR R l=0
theorem NoOp.mono {R:List Key} {L M:Nat} (h:NoOp R L) (hm:L≤M):NoOp R M:=fun l h1 h2=>h l oT h2
theorem NoOp.four (R:List Key):NoOp R 4:=fun l h1 h2=>by omega
def XL (ts:List Tok) (f:Nat) (L:Nat):Nat→PR Exp:=
 if L=1 then lvP ts (lvP ts (lvP ts (pA ts f) 3) 2) 1 else if L=2 then lvP ts (lvP ts (pA ts f) 3) 2 else if L=3 then lvP ts (pA ts f) 3 else pA ts f
theorem XL_4 (f:Nat):XL ts f 4=pA ts f:=rfl
theorem XL_lv (f:Nat) {L:Nat} (h1:1≤L) (h2:L≤3):XL ts f L=lvP ts (XL ts f (L+1)) L:=by
 rcases show L=1∨L=2∨L=3 by omega with rfl|rfl|rfl<;>rfl
theorem Tail.refl (ts:List Tok):Tail ts ts where
 pre i hi:=⟨hi,rfl⟩
 len:=Nat.le_refl _
 out i w hi _ := by simp[Go.Gh.sees,hi]
theorem row_mono {X:Nat→PR Exp} {lv F F':Nat} {e r:Exp} {i j:Nat} (hF:F≤F') (h:YF ts X lv F e i = .ok r j):YF ts X lv F' e i = .ok r j:=
 (Tail.refl ts).row (fun i=>ExtP.refl _) lv F F' e i hF r j h
theorem row_stop {X:Nat→PR Exp} {lv F:Nat} {e:Exp} {i:Nat} {R:List Key} (h:Sf ts i R) (h0:opR R lv=0):YF ts X lv (F+1) e i = .ok e i:=by
 simp only[YF]
 rw[if_pos (by rw[h.op];exact h0)]
theorem lv_one {X:Nat→PR Exp} {lv F:Nat} {e r:Exp} {i j k:Nat} (hX:X i = .ok e j) (hF:F≤ts.length+1) (h:YF ts X lv F e j = .ok r k):lvP ts X lv i = .ok r k:=by
 unfold lvP
 rw[hX]
 exact row_mono hF h
theorem XL_down {f L M i j:Nat} {e:Exp} {R:List Key} (hL:1≤L) (hM:M≤4) (hLM:L≤M) (hR:Sf ts j R) (h0:NoOp R L) (h:XL ts f M i = .ok e j):XL ts f L i = .ok e j:=by
 obtain ⟨d,rfl⟩:∃d,M=L+d:=⟨M-L,oT⟩
 induction d generalizing L with
 | zero=>exact h
 | succ d ih=>
  have h2:=ih (L:=L+1) oT (h0.mono oT) oT oT (by rw[show L+1+d=L+(d+1) by omega];exact h)
  rw[XL_lv f hL oT]
  exact lv_one (F:=1) h2 oT (row_stop hR (h0 L oT oT))
structure RdA (e:Exp):Prop where
 atom:lvE e=4→∀(ts:List Tok) (f i:Nat) (R:List Key),Sf ts i (kE e++R)→2 * (kE e).length + 1≤f→pA ts f i = .ok e (i+(kE e).length)
 one:lvE e=1→∀(ts:List Tok) (f i:Nat) (R:List Key),Sf ts i (kE e++R)→2 * (kE e).length + 1≤f→NoOp R 1→XL ts f 1 i = .ok e (i+(kE e).length)
 own:∀(lv:Nat),2≤lv→lv≤3→lvE e=lv→∀(ts:List Tok) (f i:Nat) (R:List Key),Sf ts i (kE e++R)→2 * (kE e).length + 1≤f→NoOp R (lv+1) →
  ∀F r j,F+(kE e).length ≤ ts.length+1→YF ts (XL ts f (lv+1)) lv F e (i+(kE e).length) = .ok r j→XL ts f lv i = .ok r j
structure RdE (e:Exp):Prop extends RdA e where
 expr:∀(ts:List Tok) (f i:Nat) (R:List Key),Sf ts i (kE e++R)→2 * (kE e).length + 2≤f→NoOp R 1→pE ts f i = .ok e (i+(kE e).length)
theorem RdA.at {e:Exp} (h:RdA e) {L:Nat} (h1:1≤L) (h2:L≤lvE e) (h4:lvE e≤4) {f i:Nat} {R:List Key} (hs:Sf ts i (kE e++R)) (hf:2 * (kE e).length + 1≤f) (hR:NoOp R L):XL ts f L i = .ok e (i+(kE e).length):=by
 refine XL_down h1 h4 h2 hs.app hR ?_
 by_cases e1:lvE e=1
 ·rw[e1]
  exact h.one e1 ts f i R hs hf (by rw[show L=1 by omega] at hR;exact hR)
 rcases Nat.lt_or_ge (lvE e) 4 with h3|h3
 ·refine h.own (lvE e) oT oT rfl ts f i R hs hf (hR.mono oT) 1 e _ ?_ (row_stop hs.app (hR _ h2 oT))
  have:=hs.len
  simp at this
  omega
 ·have e4:lvE e=4:=by omega
  rw[e4,XL_4]
  exact h.atom e4 ts f i R hs hf
theorem lvE_le (e:Exp):lvE e≤4:=by
 unfold lvE Zv
 repeat' split
 all_goals omega
theorem keys_opnd (L:Nat) (e:Exp):keys (YA L (lvE e,itE e))=if lvE e<L then (3,0,wLP)::(kE e++[(3,0,wRP)]) else kE e:=by
 unfold YA
 dsimp only
 split
 ·simp only[XU,keys_app,keys_nil];rfl
 ·rfl
theorem atom_par {e:Exp} (h:RdE e) {f i:Nat} {R:List Key} (hs:Sf ts i ((3,0,wLP)::(kE e++[(3,0,wRP)])++R)) (hf:2 * ((kE e).length + 2)+1≤f):pA ts f i = .ok e (i+((kE e).length + 2)):=by
 obtain ⟨f,rfl⟩:∃g,f=g+1:=⟨f-1,oT⟩
 rw[show (3,0,wLP)::(kE e++[(3,0,wRP)])++R=((3,0,wLP):Key)::(kE e++((3,0,wRP)::R)) by simp] at hs
 obtain ⟨h1,h2,h3⟩:=hs.cons
 have hk:(ts.getD i YW).kind = 3:=by simp only[keyT,Prod.mk.injEq] at h2;exact h2.1
 have hE:=h.expr ts f (i+1) _ h3 oT (by intro l a b;rcases show l=1∨l=2∨l=3 by omega with rfl|rfl|rfl<;>(show opKy _ _ = 0;decide))
 have h5:=h3.app
 have hT:=h5.take (w:=wRP) (by decide)
 show YY ts (pE ts f) (pA ts f) i = _
 unfold YY
 simp only[hs.isW,hk,hE]
 rw[if_neg (not_not_intro h1),if_neg (by decide),if_neg (by decide),if_neg (by decide),if_neg (by decide),if_neg (by decide),if_neg (by decide),if_neg (by decide),if_neg (by decide),if_pos (by decide)]
 simp only[PR.bind,hT]
 congr 1
 omega
theorem opnd_at {e:Exp} (h:RdE e) {L:Nat} (h1:1≤L) (hL:L≤4) {f i:Nat} {R:List Key} (hs:Sf ts i (keys (YA L (lvE e,itE e))++R)) (hf:2 * (keys (YA L (lvE e,itE e))).length + 1≤f) (hR:NoOp R L) :
 XL ts f L i = .ok e (i+(keys (YA L (lvE e,itE e))).length):=by
 have ha:=hs.app
 rw[keys_opnd] at hs hf ha ⊢
 by_cases hl:lvE e<L
 ·rw[if_pos hl] at hs hf ha ⊢
  simp only[List.length_cons,List.length_append,List.length_nil] at hf ha ⊢
  exact XL_down h1 oT hL ha hR (by rw[XL_4];exact atom_par h hs oT)
 ·rw[if_neg hl] at hs hf ⊢
  exact h.toRdA.at h1 oT (lvE_le e) hs hf hR
theorem opnd_own {e:Exp} (h:RdE e) {lv:Nat} (h1:2≤lv) (h3:lv≤3) {f i:Nat} {R:List Key} (hs:Sf ts i (keys (YA lv (lvE e,itE e))++R)) (hf:2 * (keys (YA lv (lvE e,itE e))).length + 1≤f) (hR:NoOp R (lv+1))
 {F j:Nat} {r:Exp} (hF:F+(keys (YA lv (lvE e,itE e))).length ≤ ts.length+1) (hr:YF ts (XL ts f (lv+1)) lv F e (i+(keys (YA lv (lvE e,itE e))).length) = .ok r j):XL ts f lv i = .ok r j:=by
 by_cases hl:lvE e=lv
 ·have e0:keys (YA lv (lvE e,itE e))=kE e:=by rw[keys_opnd,if_neg oT]
  rw[e0] at hs hf hF hr
  exact h.own lv h1 h3 hl ts f i R hs hf hR F r j hF hr
 ·have e0:keys (YA lv (lvE e,itE e))=keys (YA (lv+1) (lvE e,itE e)):=by
   rw[keys_opnd,keys_opnd]
   by_cases h2:lvE e<lv
   ·rw[if_pos h2,if_pos oT]
   ·rw[if_neg h2,if_neg oT]
  rw[e0] at hs hf hF hr
  have:=opnd_at h oT oT hs hf hR
  rw[XL_lv f oT h3]
  exact lv_one this oT hr
end Go.Gh
namespace Go.Gh
open Lib
variable {ts:List Tok}
theorem Sf.kind {i:Nat} {x:Key} {R:List Key} (h:Sf ts i (x::R)):(ts.getD i YW).kind = x.1:=by rw[←h.cons.2.1];rfl
theorem Sf.numv {i:Nat} {x:Key} {R:List Key} (h:Sf ts i (x::R)):(ts.getD i YW).num = x.2.1:=by rw[←h.cons.2.1];rfl
theorem Sf.text {i:Nat} {x:Key} {R:List Key} (h:Sf ts i (x::R)):(ts.getD i YW).text = x.2.2:=by rw[←h.cons.2.1];rfl
theorem nameV_ne {s w:ByteArray} (h:ZV s=true) (hw:ZV w=false):s≠w:=by
 rintro rfl
 rw[h] at hw
 cases hw
theorem isK_name {s w:ByteArray} (h:ZV s=true) (hw:ZV w=false):isK (1,0,s) w=false:=by
 simp[isK,nameV_ne h hw]
theorem funO_name {s:ByteArray} (h:ZV s=true):funO s=0:=by
 unfold funO
 rw[if_neg (nameV_ne h (by decide)),if_neg (nameV_ne h (by decide)),if_neg (nameV_ne h (by decide)),if_neg (nameV_ne h (by decide))]
theorem funO_opK:∀n∈[(1:Int),2,3,4,5,6,7,8,9,10,11,12],Zv n=4→(opK n).1 = 1∧funO (opK n).2.2 = n∧n≠0∧(∀w∈[wLB,wTrue,X7,wLit,wNone,wDol,wSelf,wLP,wIf],isK (opK n) w=false):=by decide
theorem setL_fold':∀a,a<64→∀b,b<64→(Yl ((64 * a+b:Nat):Int)).foldl (fun s k=>orI .i64 s (shlI .i64 1 (k:Nat))) 0=((64 * a+b:Nat):Int):=by decide +kernel
theorem setL_fold {n:Int} (h0:0≤n) (h:n≤4095):(Yl n).foldl (fun s k=>orI .i64 s (shlI .i64 1 (k:Nat))) 0=n:=by
 have:=setL_fold' (n.toNat / 64) oT (n.toNat % 64) oT
 rw[show ((64 * (n.toNat / 64)+n.toNat % 64:Nat):Int)=n by omega] at this
 exact this
theorem setL_lt (n:Int):(Yl n).Pairwise (· < ·)∧∀k∈Yl n,k≤11:=by
 constructor
 ·exact List.Pairwise.filter _ List.pairwise_lt_range
 ·intro k hk
  have:=(List.mem_filter.1 hk).1
  rw[List.mem_range] at this
  omega
theorem set_read:∀(ks:List Nat) (F i:Nat) (least set:Int) (R:List Key),ks.Pairwise (· < ·)→(∀k∈ks,least≤k∧k≤11)→Sf ts i (ks.map (fun k=>((2,((k:Nat):Int),noS):Key))++(3,0,wRB)::R)→ks.length<F →
 YD ts F i least set = .ok (ks.foldl (fun s k=>orI .i64 s (shlI .i64 1 (k:Nat))) set) (i+(ks.length+1))
 | [],F,i,least,set,R,hp,hb,hs,hF=>by
  obtain ⟨F,rfl⟩:∃G,F=G+1:=⟨F-1,by simp at hF;omega⟩
  simp only[YD]
  rw[hs.sees,if_pos (by decide)]
  rfl
 | k::ks,F,i,least,set,R,hp,hb,hs,hF=>by
  obtain ⟨F,rfl⟩:∃G,F=G+1:=⟨F-1,by simp at hF;omega⟩
  simp only[YD]
  have hk:=hb k (by simp)
  rw[List.map_cons,List.cons_append] at hs
  rw[hs.sees,if_neg (by simp[isK]),hs.num (lo:=least) (hi:=11) hk.1 oT]
  simp only[PR.bind]
  rw[List.pairwise_cons] at hp
  rw[set_read ks F (i+1) _ _ R hp.2 (fun q hq=>⟨by have:=hp.1 q hq;omega,(hb q (by simp[hq])).2⟩) hs.cons.2.2 (by simp at hF;omega)]
  simp only[List.foldl_cons,List.length_cons]
  congr 1
  omega
theorem satV_le {n:Int} (h:satV n=n):n≤1000000:=by unfold satV at h;omega
theorem and4095 {n:Int} (h0:0≤n) (h:andI .i64 n 4095=n):n≤4095:=by
 have h1:(BitVec.ofInt 64 n &&& BitVec.ofInt 64 4095).toNat ≤ 4095:=by
  rw[BitVec.toNat_and]
  exact Nat.le_trans Nat.and_le_right (by decide)
 unfold andI at h
 change IntKind.i64.wrap (((BitVec.ofInt 64 n &&& BitVec.ofInt 64 4095).toNat : Nat):Int)=n at h
 generalize (BitVec.ofInt 64 n &&& BitVec.ofInt 64 4095).toNat = x at h h1
 simp only[IntKind.wrap,IntKind.bits,IntKind.signed] at h
 simp at h
 omega
theorem con_cases {n t:Int} (h1:okV n t=true) (h2:1≤t∧t≤3) (h3:0≤n):(t=1∧n≤1000000)∨(t=2∧n≤4095)∨(t=3∧(n=0∨n=1)):=by
 simp only[okV,Bool.and_eq_true,decide_eq_true_eq] at h1
 obtain ⟨_,h1⟩:=h1
 rcases show t=1∨t=2∨t=3 by omega with rfl|rfl|rfl
 ·left;refine ⟨rfl,satV_le ?_⟩
  simpa[coV] using h1
 ·right;left;refine ⟨rfl,and4095 h3 ?_⟩
  simpa[coV] using h1
 ·right;right;refine ⟨rfl,?_⟩
  simp only[coV] at h1
  simp only[show ¬(3:Int)=1 by decide,show ¬(3:Int)=2 by decide,if_false,if_true,trV] at h1
  split at h1<;>omega
structure NodeC (e:Exp):Prop where
 c:(∃n,0≤n∧n≤1000000∧e = .mk 1 n 0 1 noS noS [])∨(∃n,0≤n∧n≤4095∧e = .mk 1 n 0 2 noS noS [])∨(∃n,(n=0∨n=1)∧e = .mk 1 n 0 3 noS noS [])∨e = .mk 2 0 0 0 noS noS [] ∨
  (∃p m,0≤p∧p≤3∧ZV m=true∧e = .mk 3 0 p 0 noS m [])∨(∃n a b,1≤n∧n≤12∧e = .mk 4 n 0 0 noS noS [a,b])∨(∃a b c,e = .mk 5 0 0 0 noS noS [a,b,c]) ∨
  (∃p,0≤p∧p≤3∧e = .mk 6 0 p 0 noS noS [])∨e = .mk 7 0 0 0 noS noS []∨(∃s m a,ZV s=true∧ZV m=true∧e = .mk 8 0 0 0 s m [a])
theorem node_c {e:Exp} (h:YJ e=true):NodeC e:=by
 constructor
 simp only[YJ,bareV,Bool.and_eq_true,Bool.or_eq_true,decide_eq_true_eq] at h
 obtain ⟨⟨h1,⟨⟨⟨⟨⟨h2,h3⟩,h4⟩,h5⟩,h6⟩,h7⟩⟩,h8⟩:=h
 rcases show e.kind=1∨e.kind=2∨e.kind=3∨e.kind=4∨e.kind=5∨e.kind=6∨e.kind=7∨e.kind=8 by omega with hk|hk|hk|hk|hk|hk|hk|hk
 all_goals simp[hk,arity] at h2 h3 h4 h5 h6 h7 h8
 ·rcases con_cases h8.1.2 h8.1.1 h8.2 with ⟨ht,h9⟩|⟨ht,h9⟩|⟨ht,h9⟩
  ·exact .inl ⟨e.n,h8.2,h9,Exp.ext_iff.2 ⟨hk,rfl,h3,ht,h7,h4,h2⟩⟩
  ·exact .inr (.inl ⟨e.n,h8.2,h9,Exp.ext_iff.2 ⟨hk,rfl,h3,ht,h7,h4,h2⟩⟩)
  ·exact .inr (.inr (.inl ⟨e.n,h9,Exp.ext_iff.2 ⟨hk,rfl,h3,ht,h7,h4,h2⟩⟩))
 ·exact .inr (.inr (.inr (.inl (Exp.ext_iff.2 ⟨hk,h5,h3,h6,h7,h4,h2⟩))))
 ·exact .inr (.inr (.inr (.inr (.inl ⟨e.pos,e.name,h8.1.1,h8.1.2,h8.2,Exp.ext_iff.2 ⟨hk,h5,rfl,h6,h7,rfl,h2⟩⟩))))
 ·obtain ⟨x,y,ha⟩:∃x y,e.args=[x,y]:=by
   match e.args,h2 with
   | [x,y],_ => exact ⟨x,y,rfl⟩
  exact .inr (.inr (.inr (.inr (.inr (.inl ⟨e.n,x,y,h8.1,h8.2,Exp.ext_iff.2 ⟨hk,rfl,h3,h6,h7,h4,ha⟩⟩)))))
 ·obtain ⟨x,y,z,ha⟩:∃x y z,e.args=[x,y,z]:=by
   match e.args,h2 with
   | [x,y,z],_ => exact ⟨x,y,z,rfl⟩
  exact .inr (.inr (.inr (.inr (.inr (.inr (.inl ⟨x,y,z,Exp.ext_iff.2 ⟨hk,h5,h3,h6,h7,h4,ha⟩⟩))))))
 ·exact .inr (.inr (.inr (.inr (.inr (.inr (.inr (.inl ⟨e.pos,h8.1,h8.2,Exp.ext_iff.2 ⟨hk,h5,rfl,h6,h7,h4,h2⟩⟩)))))))
 ·exact .inr (.inr (.inr (.inr (.inr (.inr (.inr (.inr (.inl (Exp.ext_iff.2 ⟨hk,h5,h3,h6,h7,h4,h2⟩)))))))))
 ·obtain ⟨x,ha⟩:∃x,e.args=[x]:=by
   match e.args,h2 with
   | [u],_ => exact ⟨u,rfl⟩
  exact .inr (.inr (.inr (.inr (.inr (.inr (.inr (.inr (.inr ⟨e.sym,e.name,x,h8.1,h8.2,Exp.ext_iff.2 ⟨hk,h5,h3,h6,rfl,rfl,ha⟩⟩))))))))
end Go.Gh
namespace Go.Gh
open Lib
variable {ts:List Tok}
def FstK (e:Exp):Prop:=lvE e≠0→∃x R,kE e=x::R∧isK x wIf=false
theorem rd_expr {e:Exp} (h:RdA e) (h0:lvE e≠0) (hf:FstK e):RdE e where
 toRdA:=h
 expr:=fun ts f i R hs hF hR=>by
  obtain ⟨f,rfl⟩:∃g,f=g+1:=⟨f-1,oT⟩
  obtain ⟨x,R',hx,hi⟩:=hf h0
  have hs':=hs
  rw[hx,List.cons_append] at hs'
  have:=h.at (L:=1) oT oT (lvE_le e) hs (f:=f) oT hR
  show X5 ts (pE ts f) (pA ts f) i = _
  unfold X5
  rw[hs'.sees,if_neg (by rw[hi];decide)]
  exact this
theorem rd_atom {e : Exp} (h4 : lvE e = 4) (hf : FstK e) (ha : ∀ (ts : List Tok) (f i : Nat) (R : List Key), Sf ts i (kE e ++ R) → 2 * (kE e).length ≤ f → YY ts (pE ts f) (pA ts f) i = .ok e (i + (kE e).length)) : RdE e :=
  rd_expr { atom := fun _ ts f i R hs hF => by
              obtain ⟨f, rfl⟩ : ∃ g, f = g + 1 := ⟨f - 1, oT⟩
              exact ha ts f i R hs oT
            one := fun h => by omega
            own := fun lv h1 h3 he => by omega } oT hf
theorem rd_all:∀e:Exp,YI YJ e=true→RdE e∧FstK e:=by
 refine Exp.indA fun e ih hv=> ?_
 obtain ⟨hn,hv⟩:=allE_args hv
 have ih':∀a∈e.args,RdE a∧FstK a:=fun a ha=>ih a ha (hv a ha)
 clear ih hv
 have mk:FstK e→(FstK e→RdE e)→RdE e∧FstK e:=fun h1 h2=>⟨h2 h1,h1⟩
 rcases (node_c hn).c with ⟨n,h1,h2,rfl⟩|⟨n,h1,h2,rfl⟩|⟨n,h1,rfl⟩|rfl|⟨p,m,h1,h2,h3,rfl⟩|⟨n,a,b,h1,h2,rfl⟩|⟨a,b,c,rfl⟩|⟨p,h1,h2,rfl⟩|rfl|⟨s,m,a,h1,h2,rfl⟩
 ·have e0:kE (.mk 1 n 0 1 noS noS [])=[(2,n,noS)]:=rfl
  refine mk (fun _ => ⟨_,_,e0,by simp[isK]⟩) fun hf=>rd_atom rfl hf fun ts f i R hs hF=> ?_
  rw[e0] at hs ⊢
  rw[List.singleton_append] at hs
  unfold YY
  dsimp only
  rw[if_neg (not_not_intro hs.cons.1),hs.kind,if_pos rfl,hs.numv]
  rfl
 ·have e0:kE (.mk 1 n 0 2 noS noS [])=(3,0,wLB)::((Yl n).map (fun k=>((2,((k:Nat):Int),noS):Key))++[(3,0,wRB)]):=by
   show keys (setI n) = _
   have:=keys_join ((Yl n).map (fun k=>((2,((k:Nat):Int),noS):Key)))
   rw[List.map_map] at this
   unfold setI
   rw[XU,keys_app,XU,keys_nil]
   exact congrArg (fun l=> _ :: (l++[_])) this
  refine mk (fun _ => ⟨_,_,e0,by decide⟩) fun hf=>rd_atom rfl hf fun ts f i R hs hF=> ?_
  rw[e0] at hs ⊢
  have hl:=hs.len
  rw[List.cons_append,List.append_assoc,List.singleton_append] at hs
  simp only[List.length_append,List.length_cons,List.length_map,List.length_nil] at hl
  obtain ⟨q1,q2⟩:=setL_lt n
  have Z3:=set_read (Yl n) (ts.length+1) (i+1) 0 0 R q1 (fun k hk=>⟨oT,by have:=q2 k hk;omega⟩) hs.cons.2.2 oT
  rw[setL_fold h1 h2] at Z3
  unfold YY
  simp only[hs.isW,hs.kind]
  rw[if_neg (not_not_intro hs.cons.1),if_neg (by decide),if_pos (by decide),Z3]
  simp only[PR.bind,List.length_cons,List.length_append,List.length_map,List.length_nil,conE]
  congr 1
  omega
 ·have e0:kE (.mk 1 n 0 3 noS noS [])=[(1,0,if n=1 then wTrue else X7)]:=rfl
  have hc:(if n=1 then wTrue else X7)=wTrue∧n=1∨(if n=1 then wTrue else X7)=X7∧n=0:=by
   rcases h1 with rfl|rfl
   ·right;exact ⟨rfl,rfl⟩
   ·left;exact ⟨rfl,rfl⟩
  rcases hc with ⟨hc,rfl⟩|⟨hc,rfl⟩
  ·rw[hc] at e0
   refine mk (fun _ => ⟨_,_,e0,by decide⟩) fun hf=>rd_atom rfl hf fun ts f i R hs hF=> ?_
   rw[e0] at hs ⊢
   rw[List.singleton_append] at hs
   unfold YY
   simp only[hs.isW,hs.kind]
   rw[if_neg (not_not_intro hs.cons.1),if_neg (by decide),if_neg (by decide),if_pos (by decide)]
   rfl
  ·rw[hc] at e0
   refine mk (fun _ => ⟨_,_,e0,by decide⟩) fun hf=>rd_atom rfl hf fun ts f i R hs hF=> ?_
   rw[e0] at hs ⊢
   rw[List.singleton_append] at hs
   unfold YY
   simp only[hs.isW,hs.kind]
   rw[if_neg (not_not_intro hs.cons.1),if_neg (by decide),if_neg (by decide),if_neg (by decide),if_pos (by decide)]
   rfl
 ·have e0:kE (.mk 2 0 0 0 noS noS [])=[(1,0,wLit)]:=rfl
  refine mk (fun _ => ⟨_,_,e0,by decide⟩) fun hf=>rd_atom rfl hf fun ts f i R hs hF=> ?_
  rw[e0] at hs ⊢
  rw[List.singleton_append] at hs
  unfold YY
  simp only[hs.isW,hs.kind]
  rw[if_neg (not_not_intro hs.cons.1),if_neg (by decide),if_neg (by decide),if_neg (by decide),if_neg (by decide),if_pos (by decide)]
  rfl
 ·have e0:kE (.mk 3 0 p 0 noS m [])=[(3,0,wDol),(2,p,noS),(3,0,Y3),(1,0,m)]:=rfl
  refine mk (fun _ => ⟨_,_,e0,by decide⟩) fun hf=>rd_atom rfl hf fun ts f i R hs hF=> ?_
  rw[e0] at hs ⊢
  simp only[List.cons_append,List.nil_append] at hs
  have s1:=hs.cons.2.2
  have s2:=s1.cons.2.2
  have s3:=s2.cons.2.2
  unfold YY
  simp only[hs.isW,hs.kind]
  rw[if_neg (not_not_intro hs.cons.1),if_neg (by decide),if_neg (by decide),if_neg (by decide),if_neg (by decide),if_neg (by decide),if_neg (by decide),if_pos (by decide)]
  simp only[PR.bind,s1.num h1 h2,s2.take (w:=Y3) (by decide),s3.name h3]
  rfl
 ·have hop:=opKy_op n (mem12 h1 h2)
  have ha:=ih' a (by simp[Exp.args])
  have hb:=ih' b (by simp[Exp.args])
  by_cases h4:Zv n=4
  ·have e0:kE (.mk 4 n 0 0 noS noS [a,b])=opK n::(3,0,wLP)::(kE a++(3,0,Yi)::(kE b++[(3,0,wRP)])):=by
    show keys (itN 4 n 0 0 noS noS [(lvE a,itE a),(lvE b,itE b)]) = _
    unfold itN
    rw[if_neg (by decide),if_neg (by decide),if_neg (by decide),if_neg (by decide),if_neg (by decide),if_neg (by decide),if_neg (by decide),if_pos h4]
    simp only[XU,keys_none,keys_app,keys_nil]
    rfl
   obtain ⟨k1,k2,k3,k4⟩:=funO_opK n (mem12 h1 h2) h4
   have hlv:lvE (.mk 4 n 0 0 noS noS [a,b])=4:=by
    show (if (4:Int)=5 then 0 else if (4:Int)=4 then Zv n else 4)=4
    rw[if_neg (by decide),if_pos rfl,h4]
   refine mk (fun _ => ⟨_,_,e0,k4 wIf (by simp)⟩) fun hf=>rd_atom hlv hf fun ts f i R hs hF=> ?_
   rw[e0] at hs hF ⊢
   simp only[List.cons_append,List.append_assoc,List.nil_append] at hs
   simp only[List.length_cons,List.length_append,List.length_nil] at hF
   have s1:=hs.cons.2.2
   have s2:=s1.cons.2.2
   have s3:=s2.app
   have s4:=s3.cons.2.2
   have s5:=s4.app
   have r1:=ha.1.expr ts f _ _ s2 oT (by intro l a b;rcases show l=1∨l=2∨l=3 by omega with rfl|rfl|rfl<;>(show opKy _ _ = 0;decide))
   have r2:=hb.1.expr ts f _ _ s4 oT (by intro l a b;rcases show l=1∨l=2∨l=3 by omega with rfl|rfl|rfl<;>(show opKy _ _ = 0;decide))
   unfold YY
   simp only[hs.isW,hs.kind,hs.text,k1,k2]
   rw[if_neg (not_not_intro hs.cons.1),if_neg (by decide),if_neg (by rw[k4 wLB (by simp)];decide),if_neg (by rw[k4 wTrue (by simp)];decide),if_neg (by rw[k4 X7 (by simp)];decide),if_neg (by rw[k4 wLit (by simp)];decide),if_neg (by rw[k4 wNone (by simp)];decide),if_neg (by rw[k4 wDol (by simp)];decide),if_neg (by rw[k4 wSelf (by simp)];decide),if_neg (by rw[k4 wLP (by simp)];decide),if_pos (by simp[k3])]
   simp only[PR.bind,s1.take (w:=wLP) (by decide),r1,s3.take (w:=Yi) (by decide),r2,s5.take (w:=wRP) (by decide),List.length_cons,List.length_append,List.length_nil,opE]
   congr 1
   omega
  ·have hlv:lvE (.mk 4 n 0 0 noS noS [a,b])=Zv n:=by
    show (if (4:Int)=5 then 0 else if (4:Int)=4 then Zv n else 4) = _
    rw[if_neg (by decide),if_pos rfl]
   have hl13:1≤Zv n∧Zv n≤3:=by
    unfold Zv at h4 ⊢
    repeat' split at h4
    all_goals first|exact absurd rfl h4|simp[*]
   have e0:kE (.mk 4 n 0 0 noS noS [a,b])=keys (YA (max (Zv n) 2) (lvE a,itE a))++opK n::keys (YA (Zv n+1) (lvE b,itE b)):=by
    show keys (itN 4 n 0 0 noS noS [(lvE a,itE a),(lvE b,itE b)]) = _
    unfold itN
    rw[if_neg (by decide),if_neg (by decide),if_neg (by decide),if_neg (by decide),if_neg (by decide),if_neg (by decide),if_neg (by decide),if_neg h4]
    simp only[XU,keys_none,keys_app,keys_nil]
    rfl
   have hfst:FstK (.mk 4 n 0 0 noS noS [a,b]):=fun _ => by
    rw[e0,keys_opnd]
    by_cases hl:lvE a<max (Zv n) 2
    ·rw[if_pos hl];exact ⟨_,_,rfl,by decide⟩
    ·rw[if_neg hl]
     obtain ⟨x,R,hx,hi⟩:=ha.2 oT
     rw[hx]
     exact ⟨x,_,rfl,hi⟩
   have hop2:∀l,1≤l→l≤3→∀R,opR (opK n::R) l=if Zv n=l then n else 0:=fun l a b _ => hop l (mem3 a b)
   have hno:∀R,NoOp (opK n::R) (Zv n+1):=fun R l a b=>by rw[hop2 l oT b,if_neg oT]
   refine ⟨rd_expr { atom:=fun h=>by omega,one:=fun l1 ts f i R hs hF hR=> ?_,own:=fun lv l1 l3 hlv' ts f i R hs hF hR F r j hFl hr=> ?_ } oT hfst,hfst⟩
   ·rw[hlv] at l1
    rw[e0] at hs hF ⊢
    rw[l1] at hno hop2
    rw[l1,show max 1 2=2 from rfl,show 1+1=2 from rfl] at hs hF ⊢
    rw[List.append_assoc] at hs
    simp only[List.length_append,List.length_cons] at hF ⊢
    have hs2:=hs.app
    have hs3:=hs2.cons.2.2
    have ha2:=opnd_at ha.1 (L:=2) oT oT (f:=f) hs oT (hno _)
    have hb2:=opnd_at hb.1 (L:=2) oT oT (f:=f) hs3 oT (hR.mono oT)
    have hat:opAt ts (i+(keys (YA 2 (lvE a,itE a))).length) 1=n:=by
     rw[hs2.op 1]
     exact (hop2 1 oT oT _).trans (if_pos rfl)
    rw[XL_lv f oT oT]
    unfold lvP
    rw[ha2]
    simp only[PR.bind,YF]
    rw[if_neg (by rw[hat];omega),hb2]
    simp only[PR.bind,if_true,hat,opE]
    congr 1
    omega
   ·rw[hlv] at hlv'
    subst hlv'
    have hmax:max (Zv n) 2=Zv n:=by omega
    rw[e0,hmax] at hs hF hFl hr
    rw[List.append_assoc] at hs
    simp only[List.length_append,List.length_cons] at hF hFl hr
    have hs2:=hs.app
    have hs3:=hs2.cons.2.2
    have hb2:=opnd_at hb.1 (L:=Zv n+1) oT oT (f:=f) hs3 oT hR
    have hat:opAt ts (i+(keys (YA (Zv n) (lvE a,itE a))).length) (Zv n)=n:=by
     rw[hs2.op (Zv n)]
     exact (hop2 (Zv n) oT l3 _).trans (if_pos rfl)
    have hstep:YF ts (XL ts f (Zv n+1)) (Zv n) (F+1) a (i+(keys (YA (Zv n) (lvE a,itE a))).length) = .ok r j:=by
     simp only[YF]
     rw[if_neg (by rw[hat];omega),hb2,hat]
     simp only[PR.bind]
     rw[if_neg oT]
     have e9:i+(keys (YA (Zv n) (lvE a,itE a))).length + 1+(keys (YA (Zv n+1) (lvE b,itE b))).length = i+((keys (YA (Zv n) (lvE a,itE a))).length + ((keys (YA (Zv n+1) (lvE b,itE b))).length + 1)):=by omega
     rw[e9]
     exact hr
    exact opnd_own ha.1 l1 l3 hs oT (hno _) oT hstep
 ·have ha:=(ih' a (by simp[Exp.args])).1
  have hb:=(ih' b (by simp[Exp.args])).1
  have hc:=(ih' c (by simp[Exp.args])).1
  have e0:kE (.mk 5 0 0 0 noS noS [a,b,c])=(1,0,wIf)::(kE a++(1,0,wThen)::(kE b++(1,0,wElse)::kE c)):=by
   show keys (itN 5 0 0 0 noS noS [(lvE a,itE a),(lvE b,itE b),(lvE c,itE c)]) = _
   unfold itN
   rw[if_neg (by decide),if_neg (by decide),if_neg (by decide),if_pos rfl]
   simp only[XU,keys_none,keys_app,keys_nil]
   rfl
  have hlv:lvE (.mk 5 0 0 0 noS noS [a,b,c])=0:=rfl
  refine ⟨{ atom:=fun h=>by omega,one:=fun h=>by omega,own:=fun lv l1 l3 h=>by omega,expr:=fun ts f i R hs hF hR=> ?_ },fun h=>by omega⟩
  obtain ⟨f,rfl⟩:∃g,f=g+1:=⟨f-1,oT⟩
  rw[e0] at hs hF ⊢
  simp only[List.cons_append,List.append_assoc] at hs
  simp only[List.length_cons,List.length_append] at hF
  have s1:=hs.cons.2.2
  have s2:=s1.app
  have s3:=s2.cons.2.2
  have s4:=s3.app
  have s5:=s4.cons.2.2
  have r1:=ha.expr ts f _ _ s1 oT (by intro l a b;rcases show l=1∨l=2∨l=3 by omega with rfl|rfl|rfl<;>(show opKy _ _ = 0;decide))
  have r2:=hb.expr ts f _ _ s3 oT (by intro l a b;rcases show l=1∨l=2∨l=3 by omega with rfl|rfl|rfl<;>(show opKy _ _ = 0;decide))
  have r3:=hc.expr ts f _ _ s5 oT hR
  show X5 ts (pE ts f) (pA ts f) i = _
  unfold X5
  rw[hs.sees,if_pos (by decide)]
  simp only[PR.bind,r1,s2.take (w:=wThen) (by decide),r2,s4.take (w:=wElse) (by decide),r3,List.length_cons,List.length_append]
  congr 1
  omega
 ·have e0:kE (.mk 6 0 p 0 noS noS [])=[(1,0,wSelf),(3,0,wLP),(2,p,noS),(3,0,wRP)]:=rfl
  refine mk (fun _ => ⟨_,_,e0,by decide⟩) fun hf=>rd_atom rfl hf fun ts f i R hs hF=> ?_
  rw[e0] at hs ⊢
  simp only[List.cons_append,List.nil_append] at hs
  have s1:=hs.cons.2.2
  have s2:=s1.cons.2.2
  have s3:=s2.cons.2.2
  unfold YY
  simp only[hs.isW,hs.kind]
  rw[if_neg (not_not_intro hs.cons.1),if_neg (by decide),if_neg (by decide),if_neg (by decide),if_neg (by decide),if_neg (by decide),if_neg (by decide),if_neg (by decide),if_pos (by decide)]
  simp only[PR.bind,s1.take (w:=wLP) (by decide),s2.num h1 h2,s3.take (w:=wRP) (by decide)]
  rfl
 ·have e0:kE (.mk 7 0 0 0 noS noS [])=[(1,0,wNone)]:=rfl
  refine mk (fun _ => ⟨_,_,e0,by decide⟩) fun hf=>rd_atom rfl hf fun ts f i R hs hF=> ?_
  rw[e0] at hs ⊢
  rw[List.singleton_append] at hs
  unfold YY
  simp only[hs.isW,hs.kind]
  rw[if_neg (not_not_intro hs.cons.1),if_neg (by decide),if_neg (by decide),if_neg (by decide),if_neg (by decide),if_neg (by decide),if_pos (by decide)]
  rfl
 ·have ha:=ih' a (by simp[Exp.args])
  have e0:kE (.mk 8 0 0 0 s m [a])=(1,0,s)::(3,0,Y3)::(1,0,m)::(1,0,wOf)::keys (YA 4 (lvE a,itE a)):=by
   show keys (itN 8 0 0 0 s m [(lvE a,itE a)]) = _
   unfold itN
   rw[if_neg (by decide),if_neg (by decide),if_neg (by decide),if_neg (by decide),if_neg (by decide),if_neg (by decide),if_pos rfl]
   simp only[XU,keys_none,keys_app,keys_nil]
   rfl
  refine mk (fun _ => ⟨_,_,e0,isK_name h1 (by decide)⟩) fun hf=>rd_atom rfl hf fun ts f i R hs hF=> ?_
  rw[e0] at hs hF ⊢
  simp only[List.cons_append] at hs
  simp only[List.length_cons] at hF
  have s1:=hs.cons.2.2
  have s2:=s1.cons.2.2
  have s3:=s2.cons.2.2
  have s4:=s3.cons.2.2
  have r1:=opnd_at ha.1 (L:=4) oT oT (f:=f) s4 oT (NoOp.four _)
  rw[XL_4] at r1
  have n1:∀w,ZV w=false→¬isK (1,0,s) w=true:=fun w hw=>by rw[isK_name h1 hw];decide
  unfold YY
  simp only[hs.isW,hs.kind,hs.text]
  rw[if_neg (not_not_intro hs.cons.1),if_neg (by decide),if_neg (n1 _ (by decide)),if_neg (n1 _ (by decide)),if_neg (n1 _ (by decide)),if_neg (n1 _ (by decide)),if_neg (n1 _ (by decide)),if_neg (n1 _ (by decide)),if_neg (n1 _ (by decide)),if_neg (n1 _ (by decide)),if_neg (fun h=>h.2 (funO_name h1))]
  simp only[PR.bind,hs.name h1,s1.take (w:=Y3) (by decide),s2.name h2,s3.take (w:=wOf) (by decide),r1,List.length_cons]
  congr 1
  omega
end Go.Gh
namespace Go.Gh
open Lib
theorem nameV_good {m:ByteArray} (h:ZV m=true):goodI (wd m):=by
 simp only[ZV,Bool.and_eq_true,decide_eq_true_eq] at h
 exact .inl ⟨rfl,rfl,h.1.1,h.1.2⟩
theorem XJ {c:UInt8} (h:c∈symC):goodI (sy c):= .inr (.inr ⟨rfl,rfl,.inl ⟨c,h,rfl⟩⟩)
theorem nb_good {n:Int} (h0:0≤n) (h1:n≤1000000):goodI (nb n):= .inr (.inl ⟨rfl,rfl,h0,h1⟩)
theorem wd_good {w:ByteArray} (h:shp (Z9 w)=true) (h2:(Z9 w).length ≤ 8):goodI (wd w):= .inl ⟨rfl,rfl,h,h2⟩
structure GdI (l:List It):Prop where
 good:∀x∈l,goodI x
 sep:sepI l=true
theorem GdI.nil:GdI []:=⟨by simp,rfl⟩
theorem GdI.one {x:It} (h:goodI x):GdI [x]:=⟨by simpa using h,rfl⟩
theorem GdI.mid {a r:List It} {x:It} (ha:GdI a) (hx:alnI x=false) (hg:goodI x) (hr:GdI r):GdI (a++x::r):=
 ⟨fun y hy=>by
  rcases List.mem_append.1 hy with h|h
  ·exact ha.good y h
  ·rcases List.mem_cons.1 h with rfl|h
   ·exact hg
   ·exact hr.good y h,
  by rw[sep_mid hx,ha.sep,sep_cons hx,hr.sep];rfl⟩
theorem GdI.cons {r:List It} {x:It} (hx:alnI x=false) (hg:goodI x) (hr:GdI r):GdI (x::r):=GdI.nil.mid hx hg hr
theorem GdI.hd {r:List It} {x y:It} (hg:goodI x) (hy:alnI y=false) (hg2:goodI y) (hr:GdI r):GdI (x::y::r):=(GdI.one hg).mid hy hg2 hr
theorem gd_join:∀l:List It,(∀x∈l,goodI x)→GdI (joinI l)
 | [],_ => .nil
 | [x],h=> .one (h x (by simp))
 | x::y::l,h=>by
  have:=gd_join (y::l) (fun z hz=>h z (by simp[hz]))
  exact .hd (h x (by simp)) rfl trivial this
theorem gd_set (n:Int):GdI (setI n):=by
 refine .cons rfl (XJ (by decide)) (.mid (gd_join _ fun x hx=> ?_) rfl (XJ (by decide)) .nil)
 rw[List.mem_map] at hx
 obtain ⟨k,hk,rfl⟩:=hx
 have:=(setL_lt n).2 k hk
 exact nb_good oT oT
theorem opK_good:∀n∈[(1:Int),2,3,4,5,6,7,8,9,10,11,12],(alnK (opK n)=true∧Zv n=4∧(opK n).1 = 1∧(opK n).2.1 = 0∧shp (Z9 (opK n).2.2)=true∧(Z9 (opK n).2.2).length ≤ 8)∨(alnK (opK n)=false∧(opK n).1 = 3∧(opK n).2.1 = 0∧(((Z9 (opK n).2.2).all (· ∈ symC)=true∧(Z9 (opK n).2.2).length = 1)∨(opK n).2.2 = ⟨#[61,61]⟩)):=by decide
theorem gd_opnd {l:List It} {L k:Nat} (h:GdI l):GdI (YA L (k,l)):=by
 unfold YA
 dsimp only
 split
 ·exact .cons rfl (XJ (by decide)) (h.mid rfl (XJ (by decide)) .nil)
 ·exact h
theorem one_chr {w:ByteArray} (h:(Z9 w).all (· ∈ symC)=true) (h1:(Z9 w).length = 1):∃c∈symC,w=⟨#[c]⟩:=by
 obtain ⟨⟨l⟩⟩:=w
 match l,h1 with
 | [c],_ => exact ⟨c,by simpa[Z9] using h,rfl⟩
theorem gd_all:∀e:Exp,YI YJ e=true→GdI (itE e):=by
 refine Exp.indA fun e ih hv=> ?_
 obtain ⟨hn,hv⟩:=allE_args hv
 have ih':∀a∈e.args,GdI (itE a):=fun a ha=>ih a ha (hv a ha)
 clear ih hv
 rcases (node_c hn).c with ⟨n,h1,h2,rfl⟩|⟨n,h1,h2,rfl⟩|⟨n,h1,rfl⟩|rfl|⟨p,m,h1,h2,h3,rfl⟩|⟨n,a,b,h1,h2,rfl⟩|⟨a,b,c,rfl⟩|⟨p,h1,h2,rfl⟩|rfl|⟨s,m,a,h1,h2,rfl⟩
 ·exact .one (nb_good h1 h2)
 ·exact gd_set n
 ·show GdI [wd (if n=1 then wTrue else X7)]
  split
  ·exact .one (wd_good (by decide) (by decide))
  ·exact .one (wd_good (by decide) (by decide))
 ·exact .one (wd_good (by decide) (by decide))
 ·exact .cons rfl (XJ (by decide)) (.hd (nb_good h1 oT) rfl (XJ (by decide)) (.one (nameV_good h3)))
 ·have ha:=ih' a (by simp[Exp.args])
  have hb:=ih' b (by simp[Exp.args])
  show GdI (itN 4 n 0 0 noS noS [(lvE a,itE a),(lvE b,itE b)])
  unfold itN
  rw[if_neg (by decide),if_neg (by decide),if_neg (by decide),if_neg (by decide),if_neg (by decide),if_neg (by decide),if_neg (by decide)]
  have hg:goodI (some (opK n))∧(Zv n≠4→alnI (some (opK n))=false):=by
   rcases opK_good n (mem12 h1 h2) with ⟨k1,k2,k3,k4,k5,k6⟩|⟨k1,k2,k3,k4|k4⟩
   ·exact ⟨.inl ⟨k3,k4,k5,k6⟩,fun h=>absurd k2 h⟩
   ·exact ⟨.inr (.inr ⟨k2,k3,.inl (one_chr k4.1 k4.2)⟩),fun _ => k1⟩
   ·exact ⟨.inr (.inr ⟨k2,k3,.inr k4⟩),fun _ => k1⟩
  split
  ·refine .hd hg.1 rfl (XJ (by decide)) (ha.mid rfl (XJ (by decide)) (.cons rfl trivial (hb.mid rfl (XJ (by decide)) .nil)))
  ·rename_i h4
   exact (gd_opnd ha).mid rfl trivial (.cons (hg.2 h4) hg.1 (.cons rfl trivial (gd_opnd hb)))
 ·have ha:=ih' a (by simp[Exp.args])
  have hb:=ih' b (by simp[Exp.args])
  have hc:=ih' c (by simp[Exp.args])
  exact .hd (wd_good (by decide) (by decide)) rfl trivial (ha.mid rfl trivial (.hd (wd_good (by decide) (by decide)) rfl trivial (hb.mid rfl trivial (.hd (wd_good (by decide) (by decide)) rfl trivial hc))))
 ·exact .hd (wd_good (by decide) (by decide)) rfl (XJ (by decide)) (.hd (nb_good h1 oT) rfl (XJ (by decide)) .nil)
 ·exact .one (wd_good (by decide) (by decide))
 ·have ha:=ih' a (by simp[Exp.args])
  exact .hd (nameV_good h1) rfl (XJ (by decide)) (.hd (nameV_good h2) rfl trivial (.hd (wd_good (by decide) (by decide)) rfl trivial (gd_opnd ha)))
def ZZ (e:Exp):List UInt8:=Y7 (itE e)
theorem kE_ne {e:Exp} (h:YI YJ e=true):kE e≠[]:=by
 intro h0
 obtain ⟨h1,h2⟩:=rd_all e h
 by_cases hl:lvE e=0
 ·have:=h1.expr [] 2 0 [] (by rw[h0];rfl) (by rw[h0];simp) (by intro l _ _;rfl)
  rw[show pE [] 2 0 = .bad 0 from rfl] at this
  cases this
 ·obtain ⟨x,R,e,_⟩:=h2 hl
  rw[e] at h0
  cases h0
theorem parsed_law {e:Exp} (h:Zh e=true):((Zi (ZZ e)).1 ≠ []∧ZB (ZZ e)=(e, -1))∨((Zi (ZZ e)).1 = []∧0≤(ZB (ZZ e)).2):=by
 have hv:YI YJ e=true:=by simp only[Zh,Bool.and_eq_true] at h;exact h.2
 have hg:=gd_all e hv
 rcases tokz_its hg.good hg.sep with ⟨h1,h2,h3⟩|⟨h1,h2,h3⟩
 ·left
  have hk:(Yd 0 (itE e)).map keyT=kE e:=toksAt_keys 0 (itE e)
  have hlen:(Yd 0 (itE e)).length = (kE e).length := by rw[←hk,List.length_map]
  have hr:=(rd_all e hv).1.expr (Yd 0 (itE e)) (2 * (Yd 0 (itE e)).length + 4) 0 [] (by unfold Sf;rw[hk];simp) oT (by intro l _ _;rfl)
  have e3:Zi (ZZ e)=(Yd 0 (itE e), -1):=h3
  constructor
  ·rw[e3]
   intro h0
   dsimp only at h0
   rw[h0] at hlen
   exact kE_ne hv (List.length_eq_zero_iff.1 hlen.symm)
  ·unfold ZB
   rw[e3]
   dsimp only
   rw[if_neg (by decide)]
   unfold parT
   dsimp only
   rw[hr]
   dsimp only
   rw[if_neg oT,if_pos h]
 ·right
  refine ⟨h2,?_⟩
  unfold ZB ZZ
  rw[if_pos oT]
  exact h3
end Go.Gh
namespace Go.Gh
open Lib
variable {ts:List Tok}
theorem ZW {α β:Type} {P:PR α} {f:α→Nat→PR β} {b:β} {k:Nat} (h:P.bind f = .ok b k):∃a j,P = .ok a j∧f a j = .ok b k:=by
 cases P with
 | bad i=>cases h
 | ok a j=>exact ⟨a,j,rfl,h⟩
theorem Xy {i j:Nat} {w:ByteArray} {a:Unit} (h:ZY ts i w = .ok a j):j=i+1:=by
 unfold ZY at h
 split at h
 ·cases h;rfl
 ·cases h
theorem num_nx {i j:Nat} {lo hi n:Int} (h:Zo ts i lo hi = .ok n j):j=i+1∧lo≤n∧n≤hi:=by
 unfold Zo at h
 split at h
 ·rename_i hc;cases h;exact ⟨rfl,hc.2.2⟩
 ·cases h
theorem name_nx {i j:Nat} {s:ByteArray} (h:ZM ts i = .ok s j):j=i+1:=by
 unfold ZM at h
 split at h
 ·cases h;rfl
 ·cases h
theorem toNat_ofInt {a:Int} (h0:0≤a) (h:a<18446744073709551616):(BitVec.ofInt 64 a).toNat = a.toNat:=by
 rw[BitVec.toNat_ofInt]
 omega
theorem shl_pow {n:Int} (h0:0≤n) (h:n≤11):shlI .i64 1 n=((2 ^ n.toNat:Nat):Int)∧2 ^ n.toNat≤2048:=by
 have:∀k,k<12→shlI .i64 1 ((k:Nat):Int)=((2 ^ k:Nat):Int)∧2 ^ k≤2048:=by decide
 have:=this n.toNat oT
 rw[show ((n.toNat:Nat):Int)=n by omega] at this
 exact this
theorem or_nat {a b:Nat} (ha:a<4096) (hb:b<4096):orI .i64 (a:Int) (b:Int)=((a ||| b:Nat):Int)∧a ||| b<4096:=by
 have hlt:a ||| b<4096:=Nat.or_lt_two_pow (n:=12) ha hb
 refine ⟨?_,hlt⟩
 unfold orI
 change IntKind.i64.wrap (((BitVec.ofInt 64 a ||| BitVec.ofInt 64 b).toNat : Nat):Int) = _
 rw[BitVec.toNat_or,toNat_ofInt oT oT,toNat_ofInt oT oT,Int.toNat_natCast,Int.toNat_natCast]
 simp only[IntKind.wrap,IntKind.bits,IntKind.signed]
 simp
 omega
theorem filter_or {p q:Nat→Bool}:∀l:List Nat,(l.filter fun k=>p k||q k).length ≤ (l.filter p).length + (l.filter q).length
 | []=>by simp
 | k::l=>by
  have:=filter_or (p:=p) (q:=q) l
  simp only[List.filter_cons]
  cases p k<;>cases q k<;>simp<;>omega
theorem filter_eq_one (n m:Nat):((List.range m).filter fun k=>decide (n=k)).length ≤ 1:=by
 induction m with
 | zero=>simp
 | succ m ih=>
  rw[List.range_succ,List.filter_append,List.length_append]
  by_cases h:n=m
  ·have:(List.range m).filter (fun k=>decide (n=k))=[]:=by
    rw[List.filter_eq_nil_iff]
    intro a ha
    rw[List.mem_range] at ha
    simp
    omega
   rw[this]
   simp[h]
  ·simp[h]
   exact ih
theorem set_len {a:Int} {n:Int} (h0:0≤a) (h:a≤4095) (n0:0≤n) (n1:n≤11):0≤orI .i64 a (shlI .i64 1 n)∧orI .i64 a (shlI .i64 1 n)≤4095∧(Yl (orI .i64 a (shlI .i64 1 n))).length ≤ (Yl a).length + 1:=by
 obtain ⟨e1,e2⟩:=shl_pow n0 n1
 obtain ⟨e3,e4⟩:=or_nat (a:=a.toNat) (b:=2 ^ n.toNat) oT oT
 rw[show ((a.toNat:Nat):Int)=a by omega] at e3
 rw[e1,e3]
 refine ⟨oT,oT,?_⟩
 unfold Yl
 have e5:(fun k=>(((a.toNat ||| 2 ^ n.toNat:Nat):Int).toNat).testBit k)=fun k=>a.toNat.testBit k||decide (n.toNat=k):=by
  funext k
  rw[Int.toNat_natCast,Nat.testBit_or,Nat.testBit_two_pow]
 rw[e5]
 have h1:=filter_or (p:=fun k=>a.toNat.testBit k) (q:=fun k=>decide (n.toNat=k)) (List.range 12)
 have h2:=filter_eq_one n.toNat 12
 omega
theorem ite_c {α:Type} {c:Prop} [Decidable c] {a b x:α} (h:(if c then a else b)=x):(c∧a=x)∨(¬c∧b=x):=by
 by_cases hc:c
 ·rw[if_pos hc] at h;exact .inl ⟨hc,h⟩
 ·rw[if_neg hc] at h;exact .inr ⟨hc,h⟩
end Go.Gh
namespace Go.Gh
open Go.Lib
def eqT (q:Eqn):List UInt8:=[101,113,32,36]++(itoa q.pos++46::(Z9 q.name++([32,58,61,32]++ZZ q.expr)))
def coT (c:Con):List UInt8:=[112,117,116,32]++(Z9 c.sym++46::(Z9 c.name++([32,111,102,32]++(ZZ c.goal++([32,58,61,32]++ZZ c.value)))))
def hdT (r:Rul):List UInt8:=[114,117,108,101]++([Z9 r.name,Z9 r.left,[58]]++(r.right.map Z9++if r.lit then [[108,105,116]] else [])).flatMap (32 :: ·)
def Za (r:Rul):List (List UInt8):=if Zw r then hdT r::(r.eqs.map eqT++r.cons.map coT) else []
def spl (b:UInt8):List UInt8→List (List UInt8)
 | []=>[[]]
 | c::l=>if c=b then []::spl b l else match spl b l with
  | []=>[[c]]
  | w::ws=>(c::w)::ws
theorem spl_ne (b:UInt8):∀l,spl b l≠[]
 | []=>by simp[spl]
 | c::l=>by
  simp only[spl]
  split
  ·simp
  ·split<;>simp
theorem spl_one {b:UInt8}:∀{w:List UInt8},b∉w→spl b w=[w]
 | [],_ => rfl
 | c::w,h=>by
  have h1:¬c=b:=fun e=>h (by first|exact List.mem_cons_of_mem _ e|(subst e;exact List.mem_cons_self))
  have h2:=spl_one (w:=w) (fun e=>h (by first|exact List.mem_cons_of_mem _ e|(subst e;exact List.mem_cons_self)))
  simp only[spl,if_neg h1,h2]
theorem XZ {b:UInt8}:∀{w:List UInt8} {l:List UInt8},b∉w→spl b (w++b::l)=w::spl b l
 | [],l,_ => by simp[spl]
 | c::w,l,h=>by
  have h1:¬c=b:=fun e=>h (by first|exact List.mem_cons_of_mem _ e|(subst e;exact List.mem_cons_self))
  have h2:=XZ (w:=w) (l:=l) (fun e=>h (by first|exact List.mem_cons_of_mem _ e|(subst e;exact List.mem_cons_self)))
  simp only[List.cons_append,spl,if_neg h1,h2]
theorem spl_flat {b:UInt8}:∀{ws:List (List UInt8)} {w:List UInt8},b∉w→(∀x∈ws,b∉x)→spl b (w++ws.flatMap (b :: ·))=w::ws
 | [],w,h,_ => by simpa using spl_one h
 | x::ws,w,h,hs=>by
  have h2:=spl_flat (ws:=ws) (w:=x) (hs x (by simp)) fun y hy=>hs y (by simp[hy])
  simp only[List.flatMap_cons,List.cons_append]
  rw[XZ h,h2]
theorem letV_rng {c:UInt8} (h:Y9 c=true):97≤c.toNat∧c.toNat≤122:=by
 simp only[Y9,Bool.and_eq_true,decide_eq_true_eq] at h
 omega
theorem digV_rng {c:UInt8} (h:ZH c=true):48≤c.toNat∧c.toNat≤57:=by
 simp only[ZH,Bool.and_eq_true,decide_eq_true_eq] at h
 omega
theorem YN {s:ByteArray} (h:ZV s=true):∀c∈Z9 s,48≤c.toNat∧(c.toNat≤57∨97≤c.toNat)∧c.toNat≤122:=by
 simp only[ZV,Bool.and_eq_true] at h
 intro c hc
 obtain ⟨j,hj,rfl⟩:=List.mem_iff_getElem.1 hc
 rcases ((shp_iff _).1 h.1.1).2 j hj with h1|⟨_,h1⟩
 ·have:=letV_rng h1;omega
 ·have:=digV_rng h1;omega
theorem Xv {s:ByteArray} (h:ZV s=true) {b:UInt8} (hb:b.toNat<48):b∉Z9 s:=fun hc=>by
 have:=(YN h b hc).1
 omega
theorem hd_words {r:Rul} (h:Zw r=true):spl 32 (hdT r)=[[114,117,108,101],Z9 r.name,Z9 r.left,[58]]++(r.right.map Z9++if r.lit then [[108,105,116]] else []):=by
 simp only[Zw,Bool.and_eq_true,List.all_eq_true] at h
 obtain ⟨h1,h2,_,_,h3,_⟩:=h
 unfold hdT
 rw[spl_flat (by decide)]
 ·simp
 ·intro x hx
  simp only[List.mem_append,List.mem_cons,List.not_mem_nil,or_false,List.mem_map] at hx
  rcases hx with (rfl|rfl|rfl)|⟨s,hs,rfl⟩|hx
  ·exact Xv h1 (by decide)
  ·exact Xv h2 (by decide)
  ·decide
  ·exact Xv (h3 s hs) (by decide)
  ·split at hx
   ·simp only[List.mem_singleton] at hx;subst hx;decide
   ·simp at hx
theorem index_at {p0:UInt8} {p b:List UInt8}:∀{a:List UInt8},p0∉a→index (a++p0::(p++b)) (p0::p)=a.length
 | [],_ => by simp[index,List.isPrefixOf,List.isPrefixOf_iff_prefix]
 | c::a,h=>by
  have h1:¬p0=c:=fun e=>h (by subst e;exact List.mem_cons_self)
  have h2:=index_at (p:=p) (b:=b) (a:=a) (fun e=>h (List.mem_cons_of_mem _ e))
  have h3:(p0::p).isPrefixOf (c::(a++p0::(p++b)))=false:=by simp[List.isPrefixOf,h1]
  simp only[List.cons_append,index,h3,Bool.false_eq_true,if_false,h2]
  rw[if_neg (by simp<;>omega)]
  simp
theorem index_def {b:List UInt8}:∀{a:List UInt8},(58:UInt8)∉a→index (a++[32,58,61,32]++b) [32,58,61,32]=a.length
 | [],_ => by simp[index,List.isPrefixOf]
 | c::a,h=>by
  have h2:=index_def (b:=b) (a:=a) (fun e=>h (List.mem_cons_of_mem _ e))
  have h3:List.isPrefixOf [32,58,61,32] (c::(a++[32,58,61,32]++b))=false:=by
   cases a with
   | nil=>simp[List.isPrefixOf]
   | cons d a=>
    have:¬(58:UInt8)=d:=fun e=>h (by subst e;simp)
    simp[List.isPrefixOf,this]
  simp only[List.cons_append,index,h3,Bool.false_eq_true,if_false] at h2 ⊢
  rw[h2,if_neg (by simp<;>omega)]
  simp
theorem cut_of {s p:List UInt8} {a b:List UInt8} (h:index s p=(a.length:Int)) (hs:s=a++p++b):cut s p=(a,b,true):=by
 unfold cut
 rw[h,if_pos oT,hs]
 simp
theorem cut_at {p0:UInt8} {p a b:List UInt8} (h:p0∉a):cut (a++p0::(p++b)) (p0::p)=(a,b,true):=cut_of (index_at h) (by simp)
theorem cut_def {a b:List UInt8} (h:(58:UInt8)∉a):cut (a++[32,58,61,32]++b) [32,58,61,32]=(a,b,true):=cut_of (index_def h) rfl
theorem rendI_ok {x:It} (h:goodI x):∀c∈Ya x,c.toNat≠58∧c.toNat≠10:=by
 cases x with
 | none=>intro c hc;simp only[Ya,List.mem_singleton] at hc;subst hc;decide
 | some k=>
  obtain ⟨a,n,w⟩:=k
  intro c hc
  rcases h with ⟨h1,_,h2,_⟩|⟨h1,_,h2,_⟩|⟨h1,_,h2⟩
  ·dsimp only at h1 h2
   subst h1
   have hc2:c∈Z9 w:=by simpa[Ya,YU] using hc
   obtain ⟨j,hj,rfl⟩:=List.mem_iff_getElem.1 hc2
   rcases ((shp_iff _).1 h2).2 j hj with h3|⟨_,h3⟩
   ·have:=letV_rng h3;omega
   ·have:=digV_rng h3;omega
  ·dsimp only at h1 h2
   subst h1
   have hc2:c∈itoa n:=by simpa[Ya,YU] using hc
   rw[XO h2] at hc2
   have:=digV_rng ((dec_dig _).1 c hc2)
   omega
  ·dsimp only at h1 h2
   subst h1
   have hc2:c∈Z9 w:=by simpa[Ya,YU] using hc
   rcases h2 with ⟨d,hd,rfl⟩|rfl
   ·have hc':c=d:=by simpa[Z9] using hc2
    subst hc'
    have:∀x∈symC,x.toNat≠58∧x.toNat≠10:=by decide
    exact this c hd
   ·have hc':c=61:=by simpa[Z9] using hc2
    subst hc';decide
theorem txt_noc {e:Exp} (h:YI YJ e=true):∀c∈ZZ e,c.toNat≠58∧c.toNat≠10:=by
 intro c hc
 unfold ZZ Y7 at hc
 obtain ⟨x,hx,hc⟩:=List.mem_flatMap.1 hc
 exact rendI_ok ((gd_all e h).good x hx) c hc
end Go.Gh
namespace Go.Gh
open Lib
def redB (l:List UInt8):Bool:=decide (l.length≤12)&&decide (itoa (Y8 l)=l)
def Ym (l:List UInt8):Int:=if redB l=true then Y8 l else 0
def sybN (l:List UInt8) (k:Nat):Nat:=
 match l[k]? with
 | some c=>if c∈symC then 1 else if c=61∧l[k+1]? = some 61 then 2 else 0
 | none=>0
def tokS (l:List UInt8) (k:Nat):Tok:=
 match l[k]? with
 | some c=>
  if Y9 c=true then ⟨1,0,k,⟨((l.drop k).take (Zs YM (l.drop k))).toArray⟩⟩
  else if ZH c=true then ⟨2,Ym ((l.drop k).take (Zs ZH (l.drop k))),k,noS⟩
  else ⟨3,0,k,⟨((l.drop k).take (sybN l k)).toArray⟩⟩
 | none=>YW
theorem YV {n:Int} (h0:0≤n) (h:n≤1000000):(itoa n).length ≤ 7:=by
 rw[XO h0,decDigits_length]
 exact nDigits_le 6 _ oT
theorem valD_acc:∀(l:List UInt8) (n:Int),0≤n→(∀c∈l,ZH c=true)→0≤l.foldl (fun n c=>10 * n+((c.toNat:Int)-48)) n∧l.foldl (fun n c=>10 * n+((c.toNat:Int)-48)) n<(n+1) * 10 ^ l.length
 | [],n,h0,_ => by simp;omega
 | c::l,n,h0,h=>by
  have h2:=h c (by simp)
  simp only[ZH,Bool.and_eq_true,decide_eq_true_eq] at h2
  have:=valD_acc l (10 * n+((c.toNat:Int)-48)) oT fun d hd=>h d (by simp[hd])
  simp only[List.foldl_cons,List.length_cons]
  refine ⟨this.1,Int.lt_of_lt_of_le this.2 ?_⟩
  rw[Int.pow_succ,Int.mul_comm (10 ^ l.length) 10,←Int.mul_assoc]
  exact Int.mul_le_mul_of_nonneg_right oT (Int.pow_nonneg oT)
theorem fold_ge:∀(l:List UInt8) (n:Int),0≤n→(∀c∈l,ZH c=true)→n≤l.foldl (fun n c=>10 * n+((c.toNat:Int)-48)) n
 | [],n,h0,_ => Int.le_refl _
 | c::l,n,h0,h=>by
  have h2:=h c (by simp)
  simp only[ZH,Bool.and_eq_true,decide_eq_true_eq] at h2
  have:=fold_ge l (10 * n+((c.toNat:Int)-48)) oT fun d hd=>h d (by simp[hd])
  simp only[List.foldl_cons]
  omega
theorem valD_bd (l:List UInt8) (h:∀c∈l,ZH c=true):0≤Y8 l∧Y8 l<10 ^ l.length:=by
 have:=valD_acc l 0 oT h
 simpa[Y8] using this
theorem pow12 {l:List UInt8} (h:l.length≤11):(10:Int) ^ l.length≤100000000000:=by
 have:∀k,k≤11→(10:Int) ^ k≤100000000000:=by decide
 exact this _ h
theorem pow13 {l:List UInt8} (h:l.length≤12):(10:Int) ^ l.length≤1000000000000:=by
 have:∀k,k≤12→(10:Int) ^ k≤1000000000000:=by decide
 exact this _ h
theorem wrap_u8 {x:Int} (h0:0≤x) (h:x<256):IntKind.u8.wrap x=x:=by
 simp only[IntKind.wrap,IntKind.bits,IntKind.signed]
 simp
 omega
theorem valD_take {l:List UInt8} {i:Nat} (h:i<l.length):Y8 (l.take (i+1))=10 * Y8 (l.take i)+((l[i].toNat : Int)-48):=by
 rw[←List.take_append_getElem h,valD_snoc]
theorem tokS_at {l:List UInt8} {k:Nat} (h:k<l.length):tokS l k =
 if Y9 l[k]=true then ⟨1,0,k,⟨((l.drop k).take (Zs YM (l.drop k))).toArray⟩⟩
 else if ZH l[k]=true then ⟨2,Ym ((l.drop k).take (Zs ZH (l.drop k))),k,noS⟩
 else ⟨3,0,k,⟨((l.drop k).take (sybN l k)).toArray⟩⟩:=by
 unfold tokS
 rw[List.getElem?_eq_getElem h]
theorem spanL_digs:∀(l:List UInt8),∀c∈l.take (Zs ZH l),ZH c=true
 | [],c,h=>by simp at h
 | d::l,c,h=>by
  simp only[Zs] at h
  split at h
  ·rename_i hd
   rw[List.take_succ_cons] at h
   rcases List.mem_cons.1 h with rfl|h
   ·exact hd
   ·exact spanL_digs l c h
  ·simp at h
theorem numT_red {w:List UInt8} (hd:∀c∈w,ZH c=true):numT w=if redB w=true∧Ym w≤1000000 then some (Ym w) else none:=by
 have hb:=(valD_bd w hd).1
 unfold numT Ym redB
 by_cases h:itoa (Y8 w)=w
 ·by_cases hl:w.length≤12
  ·simp[h,hl]
  ·have:¬Y8 w≤1000000:=fun h2=>by
    have:=YV hb h2
    rw[h] at this
    omega
   simp[h,hl,this]
 ·simp[h]
theorem tokN_2 {l:List UInt8} {k:Nat} (h:k<l.length):(Y0 l k).2 =
 if Y9 l[k]=true then (if Zs YM (l.drop k)≤8 then Zs YM (l.drop k) else 0)
 else if ZH l[k]=true then (if redB ((l.drop k).take (Zs ZH (l.drop k)))=true∧Ym ((l.drop k).take (Zs ZH (l.drop k)))≤1000000 then Zs ZH (l.drop k) else 0)
 else sybN l k:=by
 unfold Y0
 rw[dif_pos h]
 split
 ·split<;>rfl
 ·split
  ·rw[numT_red (spanL_digs _)]
   split
   ·rename_i h1
    split at h1
    ·rename_i h2;rw[if_pos h2]
    ·cases h1
   ·rename_i h1
    split at h1
    ·cases h1
    ·rename_i h2;rw[if_neg h2]
  ·unfold sybN
   rw[List.getElem?_eq_getElem h]
   dsimp only
   split
   ·rfl
   ·split<;>rfl
theorem tokS_N {l:List UInt8} {k:Nat} (h:k<l.length) (hn:(Y0 l k).2 ≠ 0):tokS l k=(Y0 l k).1 := by
 rw[tokS_at h]
 unfold Y0 at hn ⊢
 rw[dif_pos h] at hn ⊢
 by_cases h1:Y9 l[k]=true
 ·rw[if_pos h1] at hn ⊢
  rw[if_pos h1]
  by_cases h2:Zs YM (l.drop k)≤8
  ·rw[if_pos h2]
  ·rw[if_neg h2] at hn;exact absurd rfl hn
 ·rw[if_neg h1] at hn ⊢
  rw[if_neg h1]
  by_cases h2:ZH l[k]=true
  ·rw[if_pos h2] at hn ⊢
   rw[if_pos h2]
   rw[numT_red (spanL_digs _)] at hn ⊢
   by_cases h3:redB ((l.drop k).take (Zs ZH (l.drop k)))=true∧Ym ((l.drop k).take (Zs ZH (l.drop k)))≤1000000
   ·simp only[if_pos h3]
   ·simp only[if_neg h3] at hn;exact absurd rfl hn
  ·rw[if_neg h2] at hn ⊢
   rw[if_neg h2]
   by_cases h3:l[k]∈symC
   ·have e:sybN l k=1:=by unfold sybN;rw[List.getElem?_eq_getElem h];dsimp only;rw[if_pos h3]
    rw[if_pos h3,e,List.drop_eq_getElem_cons h]
    rfl
   ·rw[if_neg h3] at hn ⊢
    by_cases h4:l[k]=61∧l[k+1]? = some 61
    ·have e:sybN l k=2:=by unfold sybN;rw[List.getElem?_eq_getElem h];dsimp only;rw[if_neg h3,if_pos h4]
     obtain ⟨h5,h6⟩:=List.getElem?_eq_some_iff.1 h4.2
     rw[if_pos h4,e,List.drop_eq_getElem_cons h,List.drop_eq_getElem_cons h5,h4.1,h6]
     rfl
    ·rw[if_neg h4] at hn;exact absurd rfl hn
theorem u8_eq (c d:UInt8):c=d↔(c.toNat:Int)=d.toNat:=by
 rw[←UInt8.toNat_inj]
 omega
theorem mem_symC (c:UInt8):c∈symC↔((c.toNat:Int)=40∨(c.toNat:Int)=41∨(c.toNat:Int)=123∨(c.toNat:Int)=125∨(c.toNat:Int)=44∨(c.toNat:Int)=46∨(c.toNat:Int)=36∨(c.toNat:Int)=43∨(c.toNat:Int)=45∨(c.toNat:Int)=42∨(c.toNat:Int)=60∨(c.toNat:Int)=124∨(c.toNat:Int)=38∨(c.toNat:Int)=92):=by
 simp only[symC,List.mem_cons,List.not_mem_nil,or_false,u8_eq]
 rfl
theorem sybN_1 {l:List UInt8} {k:Nat} (hk:k<l.length) (h:((l[k].toNat : Int)=40∨(l[k].toNat : Int)=41∨(l[k].toNat : Int)=123∨(l[k].toNat : Int)=125∨(l[k].toNat : Int)=44∨(l[k].toNat : Int)=46∨(l[k].toNat : Int)=36∨(l[k].toNat : Int)=43∨(l[k].toNat : Int)=45∨(l[k].toNat : Int)=42∨(l[k].toNat : Int)=60∨(l[k].toNat : Int)=124∨(l[k].toNat : Int)=38∨(l[k].toNat : Int)=92)):sybN l k=1:=by
 unfold sybN
 rw[List.getElem?_eq_getElem hk]
 dsimp only
 rw[if_pos ((mem_symC _).2 h)]
theorem sybN_2 {l:List UInt8} {k:Nat} (hk:k<l.length) (h:(l[k].toNat : Int)=61) (h1:k+1<l.length) (h2:(l[k+1].toNat : Int)=61):sybN l k=2:=by
 unfold sybN
 rw[List.getElem?_eq_getElem hk,List.getElem?_eq_getElem h1]
 dsimp only
 rw[if_neg (fun hc=>by rw[mem_symC] at hc;omega),if_pos ⟨(u8_eq _ _).2 h,congrArg some ((u8_eq _ _).2 h2)⟩]
theorem sybN_0 {l:List UInt8} {k:Nat} (hk:k<l.length) (h:¬((l[k].toNat : Int)=40∨(l[k].toNat : Int)=41∨(l[k].toNat : Int)=123∨(l[k].toNat : Int)=125∨(l[k].toNat : Int)=44∨(l[k].toNat : Int)=46∨(l[k].toNat : Int)=36∨(l[k].toNat : Int)=43∨(l[k].toNat : Int)=45∨(l[k].toNat : Int)=42∨(l[k].toNat : Int)=60∨(l[k].toNat : Int)=124∨(l[k].toNat : Int)=38∨(l[k].toNat : Int)=92))
 (h2:¬(l[k].toNat : Int)=61∨l.length≤k+1∨∃h1:k+1<l.length,¬(l[k+1].toNat : Int)=61):sybN l k=0:=by
 unfold sybN
 rw[List.getElem?_eq_getElem hk]
 dsimp only
 rw[if_neg (fun hc=>h ((mem_symC _).1 hc)),if_neg]
 rintro ⟨a,b⟩
 rcases h2 with h2|h2|⟨h1,h2⟩
 ·exact h2 ((u8_eq _ _).1 a)
 ·rw[List.getElem?_eq_none h2] at b;cases b
 ·rw[List.getElem?_eq_getElem h1] at b
  simp only[Option.some.injEq] at b
  exact h2 ((u8_eq _ _).1 b)
theorem Yg {α:Type} (l:List α) (k n:Nat):(l.take (k+n)).drop k=(l.drop k).take n:=by
 rw[List.drop_take]
 congr 1
 omega
theorem sybN_le {l:List UInt8} {k:Nat} (h:k<l.length):k+sybN l k≤l.length:=by
 unfold sybN
 rw[List.getElem?_eq_getElem h]
 dsimp only
 split
 ·omega
 ·split
  ·rename_i h2
   have:=(List.getElem?_eq_some_iff.1 h2.2).1
   omega
  ·omega
theorem Bor.seenT {H:GH} {r n:Nat} {l:List Tok} (hr:Z7 H r=some (4,l.map Tk)) (hl:l.length=n):Bor H (.own r 4 0 n) (TkS l):=Bor.seen (f:=Tk) (fun a=>by simp[view,Zn]) hr hl
theorem tokN_let {l:List UInt8} {k:Nat} (h:k<l.length) (h1:Y9 l[k]=true):Y0 l k=if Zs YM (l.drop k)≤8 then (⟨1,0,k,⟨((l.drop k).take (Zs YM (l.drop k))).toArray⟩⟩,Zs YM (l.drop k)) else (YW,0):=by
 unfold Y0
 rw[dif_pos h,if_pos h1]
theorem tokN_dig {l:List UInt8} {k:Nat} (h:k<l.length) (h1:Y9 l[k]=false) (h2:ZH l[k]=true):Y0 l k=(match numT ((l.drop k).take (Zs ZH (l.drop k))) with|some n=>(⟨2,n,k,noS⟩,Zs ZH (l.drop k))|none=>(YW,0)):=by
 unfold Y0
 rw[dif_pos h,if_neg (by rw[h1];decide),if_pos h2]
 all_goals rfl
theorem tokN_sym {l:List UInt8} {k:Nat} (h:k<l.length) (h1:Y9 l[k]=false) (h2:ZH l[k]=false):Y0 l k=if l[k]∈symC then (⟨3,0,k,⟨#[l[k]]⟩⟩,1) else if l[k]=61∧l[k+1]? = some 61 then (⟨3,0,k,⟨#[61,61]⟩⟩,2) else (YW,0):=by
 unfold Y0
 rw[dif_pos h,if_neg (by rw[h1];decide),if_neg (by rw[h2];decide)]
theorem aln_or {c:UInt8} (h:YM c=true):Y9 c=true∨(Y9 c=false∧ZH c=true):=by
 unfold YM at h
 cases h1:Y9 c
 ·rw[h1] at h;exact .inr ⟨rfl,by simpa using h⟩
 ·exact .inl rfl
theorem aln_no {c:UInt8} (h:YM c=false):Y9 c=false∧ZH c=false:=by
 simpa[YM] using h
end Go.Gh
namespace Go.Gh
open Lib Go.RowKit
theorem kept_below {w w':World} (h:Below w.heap.size w w'):Kept w w' (fun _ => True):=
 ⟨fun b hb _ => h.block b hb,h.size,fun b c T fz hx=>⟨c,fz,by rw[h.block b (lt_of_heap hx)];exact hx,rfl⟩⟩
theorem lib_ok {P:Program} {T:GH} {f:Nat} {gs:List GV} {R:GV→Prop}
 (hc:∀(w:World) (D:Nat→Prop) (vs:List Value),HM w D T []→(names T).Nodup → ML w D gs vs []→Calls P f vs.toArray w fun e w'=>∃v g,e = .returned v∧R g∧(∀D',MV w' D' g v [])∧Below w.heap.size w w')
 (hT:∀x∈T,x.2.2=[]∧x.1 % 4=3) (eg:∀args w,(callFunc f args).run P w = .ok (.enter f args) w):PureT P T f gs R:=by
 intro w D Ω vs hst hargs
 have hΩ:Ω=[]:=by
  have:∀(T:GH) (Ω:List Nat),(∀x∈T,x.2.2=[]∧x.1 % 4=3)→HM w D T Ω→Ω=[]:=by
   intro T
   induction T with
   | nil=>intro Ω _ h;exact h
   | cons x T ih=>
    obtain ⟨r,sz,es⟩:=x
    intro Ω h1 h2
    obtain ⟨F1,F2,e,h3,h4⟩:=h2
    have:=ih F2 (fun y hy=>h1 y (by simp[hy])) h4
    have hr:=(h1 (r,sz,es) (by simp)).2
    rcases h3 with ⟨b,c,T',fz,F',k1,_⟩|h3
    ·dsimp only at hr;omega
    ·rw[e,this,h3.2.2];rfl
  exact this T Ω hT hst.hm
 subst hΩ
 rw[eg]
 show Calls P f _ w _
 refine (hc w D vs hst.hm hst.nn hargs).mono ?_
 rintro e w' ⟨v,g,rfl,hR,hv,hb⟩
 have hk:=kept_below hb
 exact ⟨_,rfl,_,T,D,[],hR,hv D,⟨HM.keep hk (fun _ _ => trivial) (fun _ h=>h) (fun _ _ => trivial) hst.hm,hst.nd,hst.nn,hst.dj,fun b hb=>Nat.lt_of_lt_of_le (hst.ds b hb) hk.size⟩,
  ⟨fun _ h=>h,fun _ _ h=> .inl h,fun _ h _ => h,hk.mono fun _ _ _ => trivial,hb.os,hb.tape,hb.output⟩⟩
theorem parse_digs:∀(l:List UInt8) (acc:Nat),(∀c∈l,ZH c=true)→acc<18446744073709551616 →
 (l.foldl (fun n c=>10 * n+((c.toNat:Int)-48)) (acc:Int)<18446744073709551616→∃u:Nat,parseUint10 acc l = .ok u∧(u:Int)=l.foldl (fun n c=>10 * n+((c.toNat:Int)-48)) (acc:Int)) ∧
 (¬l.foldl (fun n c=>10 * n+((c.toNat:Int)-48)) (acc:Int)<18446744073709551616→parseUint10 acc l = .range)
 | [],acc,_,h=>⟨fun _ => ⟨acc,rfl,rfl⟩,fun h2=>by simp at h2;omega⟩
 | c::l,acc,hd,h=>by
  have hc:=hd c (by simp)
  simp only[ZH,Bool.and_eq_true,decide_eq_true_eq] at hc
  have hl:∀d∈l,ZH d=true:=fun d hd'=>hd d (by simp[hd'])
  have e1:(10 * (acc:Int)+((c.toNat:Int)-48))=((acc * 10+(c.toNat-48):Nat):Int):=by omega
  simp only[List.foldl_cons,parseUint10]
  rw[e1,if_pos oT]
  have hge:=(valD_acc l ((acc * 10+(c.toNat-48):Nat):Int) oT hl)
  have hmono:((acc * 10+(c.toNat-48):Nat):Int)≤l.foldl (fun n c=>10 * n+((c.toNat:Int)-48)) ((acc * 10+(c.toNat-48):Nat):Int):=fold_ge l _ oT hl
  by_cases h1:1844674407370955162≤acc
  ·rw[if_pos h1]
   exact ⟨fun h2=>by omega,fun _ => rfl⟩
  ·rw[if_neg h1]
   by_cases h2:18446744073709551616≤acc * 10+(c.toNat-48)
   ·rw[if_pos h2]
    exact ⟨fun h3=>by omega,fun _ => rfl⟩
   ·rw[if_neg h2]
    exact parse_digs l _ hl oT
theorem atoi_digs {l:List UInt8} (hd:∀c∈l,ZH c=true) (hne:l≠[]):(Y8 l<9223372036854775808→atoiAll l = .ok (Y8 l))∧(¬Y8 l<9223372036854775808→atoiAll l = .range):=by
 cases l with
 | nil=>exact absurd rfl hne
 | cons c r=>
  have hc:=hd c (by simp)
  simp only[ZH,Bool.and_eq_true,decide_eq_true_eq] at hc
  obtain ⟨p1,p2⟩:=parse_digs (c::r) 0 hd (by decide)
  have e0:(c::r).foldl (fun n c=>10 * n+((c.toNat:Int)-48)) ((0:Nat):Int)=Y8 (c::r):=rfl
  rw[e0] at p1 p2
  have hn:¬c.toNat=45:=by omega
  unfold atoiAll parseMag
  dsimp only
  rw[if_neg (show ¬(c.toNat=43∨c.toNat=45) by omega),if_neg (by simp)]
  constructor
  ·intro h
   obtain ⟨u,q1,q2⟩:=p1 oT
   rw[q1]
   dsimp only
   rw[if_neg oT,if_neg oT,if_neg hn,q2]
  ·intro h
   by_cases h2:Y8 (c::r)<18446744073709551616
   ·obtain ⟨u,q1,q2⟩:=p1 h2
    rw[q1]
    dsimp only
    rw[if_pos ⟨hn,oT⟩]
   ·rw[p2 h2]
def tabE (n m:Nat):GH:=[(4 * n+3,1000000,[]),(4 * m+3,1000001,[])]
theorem tabE_ok (n m:Nat):∀x∈tabE n m,x.2.2=[]∧x.1 % 4=3:=fun x hx=>by
 simp only[tabE,List.mem_cons,List.not_mem_nil,or_false] at hx
 rcases hx with rfl|rfl
 ·exact ⟨rfl,by dsimp only;omega⟩
 ·exact ⟨rfl,by dsimp only;omega⟩
theorem tabH_E {n m:Nat} (h:n≠m):tabH (tabE n m):=⟨by simp[tabE,names];omega,fun x hx=>by
 simp only[tabE,List.mem_cons,List.not_mem_nil,or_false] at hx
 rcases hx with rfl|rfl
 ·exact ⟨by dsimp only;omega,by dsimp only;omega,rfl⟩
 ·exact ⟨by dsimp only;omega,by dsimp only;omega,rfl⟩⟩
theorem HM.isE {w:World} {D:Nat→Prop} {m:Nat} {H:GH} {Ω:List Nat} (h:HM w D H Ω) (hn:(names H).Nodup) (hm:(4 * m+3,1000001,[])∈H):∃te pe,w.cell? ⟨m,0,none⟩=some (.iface te pe):=by
 obtain ⟨F,hF,_⟩:=h.mem (Xx hn hm)
 have e:(4 * m+3) / 4=m:=by omega
 rcases hF with ⟨b,c,T,fz,F',k1,_⟩|hF
 ·dsimp only at k1;omega
 ·obtain ⟨_,c,T,fz,h1,h2⟩:=hF.1.2 (by dsimp only;omega) (by dsimp only;omega)
  dsimp only at h1 h2
  rw[e] at h1
  unfold tabP at h2
  rw[if_neg oT,if_neg oT,if_neg oT] at h2
  obtain ⟨te,pe,rfl⟩:=h2
  refine ⟨te,pe,?_⟩
  unfold World.cell?
  rw[h1]
  rfl
theorem MV.tup2 {w:World} {D:Nat→Prop} (a b:Value):MV w D (.tup [.val a,.val b]) (.tuple #[a,b]) []:=by
 simp only[MV]
 exact ⟨[a,b],rfl,by simp only[ML,MV];exact ⟨a,[b],[],[],rfl,rfl,⟨rfl,rfl⟩,b,[],[],[],rfl,rfl,⟨rfl,rfl⟩,rfl,rfl⟩⟩
theorem chars_eta (p:ByteArray):(⟨(Z9 p).toArray⟩:ByteArray)=p:=by cases p;simp[Z9]
def hasPr (s p:List UInt8):Bool:=decide (p.length≤s.length)&&decide (s.take p.length=p)
theorem hasPr_2 (a b:UInt8) (r:List UInt8):hasPr (a::b::r) [61,61]=decide (a=61∧some b=some 61):=by simp[hasPr]
theorem hasPr_1 (a:UInt8):hasPr [a] [61,61]=decide (a=61∧(none:Option UInt8)=some 61):=by simp[hasPr]
theorem hasPr_eq {l:List UInt8} {k:Nat} (h:k<l.length):hasPr (l.drop k) [61,61]=decide (l[k]=61∧l[k+1]? = some 61):=by
 by_cases h1:k+1<l.length
 ·rw[List.drop_eq_getElem_cons h,List.drop_eq_getElem_cons h1,List.getElem?_eq_getElem h1]
  exact hasPr_2 _ _ _
 ·rw[List.drop_eq_getElem_cons h,List.drop_eq_nil_of_le oT,List.getElem?_eq_none oT]
  exact hasPr_1 _
theorem ix_mem:∀(l:List UInt8) (c:UInt8),0≤indexByte l c↔c∈l
 | [],c=>by simp[indexByte]
 | b::l,c=>by
  have ih:=ix_mem l c
  simp only[indexByte,List.mem_cons]
  by_cases h:b=c
  ·simp[h]
  ·have h':¬(b == c)=true:=by simpa using h
   rw[if_neg h']
   have hne:¬c=b:=fun e=>h e.symm
   by_cases h1:indexByte l c = -1
   ·rw[if_pos (by simpa using h1)]
    rw[h1] at ih
    simp only[hne,false_or]
    exact ⟨fun h=>by omega,fun h=>by have:=ih.2 h;omega⟩
   ·rw[if_neg (by simpa using h1)]
    have hge:=ix_ge l c
    simp only[hne,false_or]
    exact ⟨fun h=>ih.1 oT,fun h=>by have:=ih.2 h;omega⟩
where
 ix_ge:∀(l:List UInt8) (c:UInt8), -1≤indexByte l c
 | [],c=>by simp[indexByte]
 | b::l,c=>by
  have:=ix_ge l c
  simp only[indexByte]
  repeat' split
  all_goals omega
def atoR (l:List UInt8) (te:TypeId) (g:GV):Prop:=
 (Y8 l<9223372036854775808∧g = .tup [I (Y8 l),.val .nilIface])∨(¬Y8 l<9223372036854775808∧∃n p,g = .tup [I n,.val (.iface te p)])
end Go.Gh
namespace Go.Gh
open Lib Go.RowKit
def Zx (sep:List UInt8) (l:List (List UInt8)):List UInt8:=Lib.join l sep
theorem sl_str {w:World} {D:Nat→Prop}:∀(xs:List ByteArray) (cs:List Value),MF w D 1 (xs.map T) cs []→cs=xs.map fun x=>Value.string x
 | [],cs,h=>by simp only[List.map_nil,MF] at h;exact h.1
 | x::xs,cs,h=>by
  simp only[List.map_cons,MF,MV] at h
  obtain ⟨v,cs',F1,F2,rfl,_,_,hF,⟨rfl,_⟩,h2⟩:=h
  have hF2:F2=[]:=by have:=(List.append_eq_nil_iff.1 hF.symm).2;exact this
  subst hF2
  rw[sl_str xs cs' h2]
  rfl
end Go.Gh
namespace Go.Gh
open Lib
def oprT (L:Nat) (e:Exp):List UInt8:=Y7 (YA L (lvE e,itE e))
theorem oprT_eq (L:Nat) (e:Exp):oprT L e=if lvE e<L then 40::(ZZ e++[41]) else ZZ e:=by
 unfold oprT YA ZZ
 dsimp only
 split
 ·rw[Yv,rend_app];rfl
 ·rfl
theorem txt_num (n:Int):ZZ (.mk 1 n 0 1 noS noS [])=itoa n:=by
 show Y7 [nb n] = _
 simp[Y7,Ya,YU]
theorem rend_join:∀l:List Nat,Y7 (joinI (l.map fun k:Nat=>nb (k:Int)))=Zx [32] (l.map fun k:Nat=>itoa k)
 | []=>rfl
 | [k]=>by simp[joinI,Y7,Ya,YU,Zx,Lib.join]
 | k::m::l=>by
  have:=rend_join (m::l)
  simp only[List.map_cons] at this ⊢
  simp only[joinI,Yv,this]
  simp[Ya,YU,Zx,Lib.join]
theorem txt_set (n:Int):ZZ (.mk 1 n 0 2 noS noS [])=123::(Zx [32] ((Yl n).map fun k:Nat=>itoa k)++[125]):=by
 show Y7 (sy 123::(joinI ((Yl n).map fun k:Nat=>nb (k:Int))++[sy 125])) = _
 rw[Yv,rend_app,rend_join]
 rfl
theorem txt_bool (n:Int):ZZ (.mk 1 n 0 3 noS noS [])=Z9 (if n=1 then wTrue else X7):=by
 show Y7 [wd (if n=1 then wTrue else X7)] = _
 simp[Y7,Ya,YU]
theorem txt_lit:ZZ (.mk 2 0 0 0 noS noS [])=[108,105,116]:=by decide
theorem txt_none:ZZ (.mk 7 0 0 0 noS noS [])=[110,111,110,101]:=by decide
theorem txt_attr (p:Int) (m:ByteArray):ZZ (.mk 3 0 p 0 noS m [])=36::(itoa p++46::Z9 m):=by
 show Y7 [sy 36,nb p,sy 46,wd m] = _
 simp[Y7,Ya,YU]
 rfl
theorem txt_self (p:Int):ZZ (.mk 6 0 p 0 noS noS [])=[115,101,108,102,40]++(itoa p++[41]):=by
 show Y7 [wd wSelf,sy 40,nb p,sy 41] = _
 simp[Y7,Ya,YU]
 rfl
theorem txt_if (a b c:Exp):ZZ (.mk 5 0 0 0 noS noS [a,b,c])=[105,102,32]++ZZ a++[32,116,104,101,110,32]++ZZ b++[32,101,108,115,101,32]++ZZ c:=by
 show Y7 (wd wIf::none::(itE a++none::wd wThen::none::(itE b++none::wd wElse::none::itE c))) = _
 simp only[Yv,rend_app]
 simp[Ya,YU,ZZ,wIf,wThen,wElse,Z9]
theorem txt_rem (s m:ByteArray) (a:Exp):ZZ (.mk 8 0 0 0 s m [a])=Z9 s++46::(Z9 m++[32,111,102,32]++oprT 4 a):=by
 show Y7 (wd s::sy 46::wd m::none::wd wOf::none::YA 4 (lvE a,itE a)) = _
 simp only[Yv]
 simp[Ya,YU,oprT,wOf,Z9]
def opW (n:Int):ByteArray:=(opK n).2.2
theorem rend_opK:∀n∈[(1:Int),2,3,4,5,6,7,8,9,10,11,12],YU (opK n)=Z9 (opW n):=by decide
theorem txt_fun (n:Int) (h1:1≤n) (h2:n≤12) (a b:Exp) (h:Zv n=4):ZZ (.mk 4 n 0 0 noS noS [a,b])=Z9 (opW n)++40::(ZZ a++[44,32]++ZZ b++[41]):=by
 have e:itE (.mk 4 n 0 0 noS noS [a,b])=some (opK n)::sy 40::(itE a++sy 44::none::(itE b++[sy 41])):=by
  rw[itE_eq]
  show itN 4 n 0 0 noS noS [(lvE a,itE a),(lvE b,itE b)] = _
  unfold itN
  rw[if_neg (by decide),if_neg (by decide),if_neg (by decide),if_neg (by decide),if_neg (by decide),if_neg (by decide),if_neg (by decide),if_pos h]
  rfl
 unfold ZZ
 rw[e,Yv,show Ya (some (opK n))=YU (opK n) from rfl,rend_opK n (mem12 h1 h2)]
 simp only[Yv,rend_app]
 simp[Ya,YU,rend_nil,Z9]
theorem txt_op (n:Int) (h1:1≤n) (h2:n≤12) (a b:Exp) (h:Zv n≠4):ZZ (.mk 4 n 0 0 noS noS [a,b])=oprT (max (Zv n) 2) a++32::(Z9 (opW n)++32::oprT (Zv n+1) b):=by
 have e:itE (.mk 4 n 0 0 noS noS [a,b])=YA (max (Zv n) 2) (lvE a,itE a)++none::some (opK n)::none::YA (Zv n+1) (lvE b,itE b):=by
  rw[itE_eq]
  show itN 4 n 0 0 noS noS [(lvE a,itE a),(lvE b,itE b)] = _
  unfold itN
  rw[if_neg (by decide),if_neg (by decide),if_neg (by decide),if_neg (by decide),if_neg (by decide),if_neg (by decide),if_neg (by decide),if_neg h]
  rfl
 unfold ZZ
 rw[e]
 simp only[Yv,rend_app]
 rw[show Ya (some (opK n))=YU (opK n) from rfl,rend_opK n (mem12 h1 h2)]
 rfl
theorem YG (L:Nat) (e:Exp):(oprT L e).length ≤ (ZZ e).length + 2:=by
 rw[oprT_eq]
 split
 ·simp
 ·omega
theorem opW_len:∀n∈[(1:Int),2,3,4,5,6,7,8,9,10,11,12],(Z9 (opW n)).length ≤ 4:=by decide
theorem join_len (l:List (List UInt8)) (h:∀x∈l,x.length≤7):(Zx [32] l).length ≤ 8 * l.length:=by
 induction l with
 | nil=>simp[Zx,Lib.join]
 | cons x l ih=>
  have h1:=h x (by simp)
  have h2:=ih fun y hy=>h y (by simp[hy])
  cases l with
  | nil=>simp[Zx,Lib.join];omega
  | cons y l=>
   have e:Zx [32] (x::y::l)=x++([32]++Zx [32] (y::l)):=by simp[Zx,Lib.join]
   rw[e]
   simp only[List.length_append,List.length_cons,List.length_nil] at h2 ⊢
   omega
theorem YH {m:ByteArray} (h:ZV m=true):(Z9 m).length ≤ 8:=by
 simp only[ZV,Bool.and_eq_true,decide_eq_true_eq] at h
 exact h.1.2
theorem setL_len (n:Int):(Yl n).length ≤ 12:=by
 unfold Yl
 exact Nat.le_trans (List.length_filter_le _ _) (by simp)
theorem XR:∀e:Exp,YI YJ e=true→(ZZ e).length ≤ 120 * Zl e:=by
 refine Exp.indA fun e ih hv=> ?_
 obtain ⟨hn,hv⟩:=allE_args hv
 have ih':∀a∈e.args,(ZZ a).length ≤ 120 * Zl a:=fun a ha=>ih a ha (hv a ha)
 clear ih hv
 rcases (node_c hn).c with ⟨n,h1,h2,rfl⟩|⟨n,h1,h2,rfl⟩|⟨n,h1,rfl⟩|rfl|⟨p,m,h1,h2,h3,rfl⟩|⟨n,a,b,h1,h2,rfl⟩|⟨a,b,c,rfl⟩|⟨p,h1,h2,rfl⟩|rfl|⟨s,m,a,h1,h2,rfl⟩
 ·have:=YV h1 h2
  rw[txt_num,YT];omega
 ·rw[txt_set,YT]
  have h3:=join_len ((Yl n).map fun k:Nat=>itoa k) (by
   intro x hx
   obtain ⟨k,hk,rfl⟩:=List.mem_map.1 hx
   have:=(setL_lt n).2 k hk
   exact YV oT oT)
  have h4:=setL_len n
  simp only[List.length_map,List.length_cons,List.length_append,List.length_nil] at h3 ⊢
  omega
 ·rw[txt_bool,YT]
  have:(Z9 (if n=1 then wTrue else X7)).length ≤ 5:=by split<;>decide
  omega
 ·rw[txt_lit,YT];simp only[List.length_cons,List.length_nil];omega
 ·have:=YV h1 oT
  have:=YH h3
  rw[txt_attr,YT]
  simp only[List.length_cons,List.length_append]
  omega
 ·have ha:=ih' a (by simp[Exp.args])
  have hb:=ih' b (by simp[Exp.args])
  have e:Zl (.mk 4 n 0 0 noS noS [a,b])=1+Zl a+Zl b:=by rw[YT];simp[Exp.args];omega
  have hw:=opW_len n (mem12 h1 h2)
  rw[e]
  by_cases h4:Zv n=4
  ·rw[txt_fun n h1 h2 a b h4]
   simp only[List.length_cons,List.length_append,List.length_nil]
   omega
  ·have:=YG (max (Zv n) 2) a
   have:=YG (Zv n+1) b
   rw[txt_op n h1 h2 a b h4]
   simp only[List.length_cons,List.length_append,List.length_nil]
   omega
 ·have ha:=ih' a (by simp[Exp.args])
  have hb:=ih' b (by simp[Exp.args])
  have hc:=ih' c (by simp[Exp.args])
  have e:Zl (.mk 5 0 0 0 noS noS [a,b,c])=1+Zl a+Zl b+Zl c:=by rw[YT];simp[Exp.args];omega
  rw[e,txt_if]
  simp only[List.length_cons,List.length_append,List.length_nil]
  omega
 ·have:=YV h1 oT
  rw[txt_self,YT]
  simp only[List.length_cons,List.length_append,List.length_nil]
  omega
 ·rw[txt_none,YT];simp only[List.length_cons,List.length_nil];omega
 ·have ha:=ih' a (by simp[Exp.args])
  have:=YH h1
  have:=YH h2
  have:=YG 4 a
  have e:Zl (.mk 8 0 0 0 s m [a])=1+Zl a:=by rw[YT];simp[Exp.args]
  rw[e,txt_rem]
  simp only[List.length_cons,List.length_append,List.length_nil]
  omega
def fmtE (e:Exp):List UInt8:=if Zh e=true then ZZ e else []
end Go.Gh
namespace Go.Gh
open Go.Lib
theorem parsed_short {e:Exp} (h:Zh e=true) (h1:(ZZ e).length ≤ 160) (h2:(kE e).length ≤ 80):ZB (ZZ e)=(e, -1):=by
 have hv:YI YJ e=true:=by simp only[Zh,Bool.and_eq_true] at h;exact h.2
 have hg:=gd_all e hv
 rcases parsed_law h with h3|h3
 ·exact h3.2
 ·exfalso
  rcases tokz_its hg.good hg.sep with ⟨_,_,h4⟩|⟨h4,_⟩
  ·have h5:Zi (ZZ e)=(Yd 0 (itE e), -1):=h4
   have h6:=h3.1
   rw[h5] at h6
   have hk:(Yd 0 (itE e)).map keyT=kE e:=toksAt_keys 0 (itE e)
   have h7:Yd 0 (itE e)=[]:=h6
   rw[h7] at hk
   exact kE_ne hv hk.symm
  ·rcases h4 with h4|h4
   ·have:(ZZ e).length = (Y7 (itE e)).length := rfl
    omega
   ·have:(kE e).length = (keys (itE e)).length := rfl
    omega
theorem attr_valid {p:Int} {m:ByteArray} (h0:0≤p) (h1:p≤3) (hm:ZV m=true):Zh (.mk 3 0 p 0 noS m [])=true:=by
 simp[Zh,Zl,cntEL,dpE,dpEL,YI,allEL,YJ,bareV,arity,Exp.kind,Exp.n,Exp.pos,Exp.type,Exp.sym,Exp.name,Exp.args,h0,h1,hm]
theorem Yw {s:ByteArray} (h:ZV s=true):(Z9 s).length ≤ 8:=by
 simp only[ZV,Bool.and_eq_true,decide_eq_true_eq] at h
 exact h.1.2
theorem attr_read {p:Int} {m:ByteArray} (h0:0≤p) (h1:p≤3) (hm:ZV m=true):ZB (36::(itoa p++46::Z9 m))=(.mk 3 0 p 0 noS m [], -1):=by
 have hl:=Yw hm
 have hi:=YV h0 oT
 have:=parsed_short (attr_valid h0 h1 hm) (by rw[txt_attr];simp only[List.length_cons,List.length_append];omega) (by show (keys [sy 36,nb p,sy 46,wd m]).length ≤ 80;simp[keys])
 rwa [txt_attr] at this
def rdbl (e:Exp):Prop:=ZB (ZZ e)=(e, -1)
def rdR (r:Rul):Prop:=(∀q∈r.eqs,rdbl q.expr)∧∀c∈r.cons,rdbl c.goal∧rdbl c.value
def dfT:List UInt8:=[32,58,61,32]
def rqS (l:List UInt8):Eqn:=
 if 4<(cut l dfT).1.length then ⟨(ZB ((cut l dfT).1.drop 3)).1.pos,(ZB ((cut l dfT).1.drop 3)).1.name,(ZB (cut l dfT).2.1).1⟩ else ⟨0,noS,(ZB (cut l dfT).2.1).1⟩
def jn:List (List UInt8)→List UInt8
 | []=>[]
 | w::ws=>w++ws.flatMap (32 :: ·)
def rcS (l:List UInt8):Con:=
 if (spl 32 (cut l dfT).1).length < 4 then ⟨noS,noS,expZ,expZ⟩
 else ⟨⟨((spl 46 ((spl 32 (cut l dfT).1).getD 1 [])).headD []).toArray⟩,⟨((spl 46 ((spl 32 (cut l dfT).1).getD 1 [])).getLastD []).toArray⟩,(ZB (jn ((spl 32 (cut l dfT).1).drop 3))).1,(ZB (cut l dfT).2.1).1⟩
def litW:List UInt8:=[108,105,116]
def rhS (l:List UInt8):Rul:=
 if (spl 32 l).length < 4 then rulZ
 else ⟨⟨((spl 32 l).getD 1 []).toArray⟩,⟨((spl 32 l).getD 2 []).toArray⟩,
  ((if ((spl 32 l).drop 4).getLast? = some litW then ((spl 32 l).drop 4).dropLast else (spl 32 l).drop 4).map fun w=>⟨w.toArray⟩),
  decide (((spl 32 l).drop 4).getLast? = some litW),[],[]⟩
def isEq (l:List UInt8):Bool:=decide (3<l.length)&&decide (l.take 3=[101,113,32])
def rdS (h:List UInt8) (t:List (List UInt8)):Rul:={ rhS h with eqs:=(t.filter isEq).map rqS,cons:=(t.filter fun l=> !isEq l).map rcS }
def ZA:List (List UInt8)→Option Rul
 | []=>none
 | h::t=>if Za (rdS h t)=h::t then some (rdS h t) else none
theorem eq_cut {q:Eqn} (hn:ZV q.name=true) (h0:0≤q.pos):cut (eqT q) dfT=([101,113,32,36]++(itoa q.pos++46::Z9 q.name),ZZ q.expr,true):=by
 have h:=cut_def (a:=[101,113,32,36]++(itoa q.pos++46::Z9 q.name)) (b:=ZZ q.expr) (by
  intro hm
  simp only[List.mem_append,List.mem_cons,List.not_mem_nil,or_false] at hm
  rcases hm with (h|h|h|h)|h|h|h
  ·cases h
  ·cases h
  ·cases h
  ·cases h
  ·rw[XO h0] at h
   have:=digV_rng ((dec_dig _).1 _ h)
   revert this;decide
  ·cases h
  ·have:=YN hn _ h
   revert this;decide)
 rw[show eqT q=[101,113,32,36]++(itoa q.pos++46::Z9 q.name)++[32,58,61,32]++ZZ q.expr by simp[eqT]]
 exact h
theorem rqS_back {q:Eqn} (hn:ZV q.name=true) (h0:0≤q.pos) (h3:q.pos≤3):rqS (eqT q)=⟨q.pos,q.name,(ZB (ZZ q.expr)).1⟩:=by
 unfold rqS
 rw[eq_cut hn h0]
 have hd:([101,113,32,36]++(itoa q.pos++46::Z9 q.name)).drop 3=36::(itoa q.pos++46::Z9 q.name):=rfl
 rw[hd,attr_read h0 h3 hn,if_pos (by simp only[List.length_cons,List.length_append];omega)]
 rfl
theorem jn_spl:∀l:List UInt8,jn (spl 32 l)=l
 | []=>rfl
 | c::l=>by
  have ih:=jn_spl l
  simp only[spl]
  split
  ·rename_i h
   subst h
   cases h2:spl 32 l with
   | nil=>exact absurd h2 (spl_ne 32 l)
   | cons w ws=>rw[h2] at ih;simpa[jn] using ih
  ·cases h2:spl 32 l with
   | nil=>exact absurd h2 (spl_ne 32 l)
   | cons w ws=>rw[h2] at ih;simpa[jn] using ih
theorem co_cut {c:Con} (h1:ZV c.sym=true) (h2:ZV c.name=true) (h3:YI YJ c.goal=true):cut (coT c) dfT=([112,117,116]++32::((Z9 c.sym++46::Z9 c.name)++32::([111,102]++32::ZZ c.goal)),ZZ c.value,true):=by
 have h:=cut_def (a:=[112,117,116]++32::((Z9 c.sym++46::Z9 c.name)++32::([111,102]++32::ZZ c.goal))) (b:=ZZ c.value) (by
  intro hm
  simp only[List.mem_append,List.mem_cons,List.not_mem_nil,or_false] at hm
  rcases hm with (h|h|h)|h|(h|h|h)|h|(h|h)|h|h
  ·cases h
  ·cases h
  ·cases h
  ·cases h
  ·have:=YN h1 _ h
   revert this;decide
  ·cases h
  ·have:=YN h2 _ h
   revert this;decide
  ·cases h
  ·cases h
  ·cases h
  ·cases h
  ·exact (txt_noc h3 _ h).1 rfl)
 rw[show coT c=[112,117,116]++32::((Z9 c.sym++46::Z9 c.name)++32::([111,102]++32::ZZ c.goal))++[32,58,61,32]++ZZ c.value by simp[coT]]
 exact h
theorem co_words {c:Con} (h1:ZV c.sym=true) (h2:ZV c.name=true):spl 32 ([112,117,116]++32::((Z9 c.sym++46::Z9 c.name)++32::([111,102]++32::ZZ c.goal)))=[112,117,116]::(Z9 c.sym++46::Z9 c.name)::[111,102]::spl 32 (ZZ c.goal):=by
 rw[XZ (by decide),XZ,XZ (by decide)]
 intro hm
 rcases List.mem_append.1 hm with h|h
 ·exact Xv h1 (by decide) h
 ·rcases List.mem_cons.1 h with h|h
  ·cases h
  ·exact Xv h2 (by decide) h
theorem rcS_back {c:Con} (h1:ZV c.sym=true) (h2:ZV c.name=true) (h3:YI YJ c.goal=true):rcS (coT c)=⟨c.sym,c.name,(ZB (ZZ c.goal)).1,(ZB (ZZ c.value)).1⟩:=by
 have hne:1≤(spl 32 (ZZ c.goal)).length := List.length_pos_iff.2 (spl_ne 32 _)
 have hp:spl 46 (Z9 c.sym++46::Z9 c.name)=[Z9 c.sym,Z9 c.name]:=by
  rw[XZ (Xv h1 (by decide)),spl_one (Xv h2 (by decide))]
 unfold rcS
 rw[co_cut h1 h2 h3]
 dsimp only
 rw[co_words h1 h2,if_neg (by simp only[List.length_cons];omega)]
 simp only[List.getD_cons_succ,List.getD_cons_zero,List.drop_succ_cons,List.drop_zero]
 rw[hp,jn_spl]
 rfl
theorem nm_lit {s:ByteArray} (h:ZV s=true):Z9 s≠litW:=fun e=>by
 have:s=⟨#[108,105,116]⟩:=by
  cases s with
  | mk d=>cases d with
   | mk l=>exact congrArg (fun l=>(⟨⟨l⟩⟩:ByteArray)) e
 subst this
 revert h;decide
theorem last_lit {ws:List (List UInt8)} (h:∀w∈ws,w≠litW) (b:Bool):((ws++if b then [litW] else []).getLast? = some litW)↔b=true:=by
 cases b
 ·simp only[Bool.false_eq_true,if_false,List.append_nil,iff_false]
  intro h2
  exact h _ (List.mem_of_getLast? h2) rfl
 ·simp
theorem rhS_back {r:Rul} (h:Zw r=true):rhS (hdT r)=⟨r.name,r.left,r.right,r.lit,[],[]⟩:=by
 have hw:=hd_words h
 simp only[Zw,Bool.and_eq_true,List.all_eq_true] at h
 have hl:=last_lit (ws:=r.right.map Z9) (fun w hw=>by
  obtain ⟨s,hs,rfl⟩:=List.mem_map.1 hw
  exact nm_lit (h.2.2.2.2.1 s hs)) r.lit
 unfold rhS
 rw[hw,if_neg (by simp)]
 have hd:([[114,117,108,101],Z9 r.name,Z9 r.left,[58]]++(r.right.map Z9++if r.lit then [[108,105,116]] else [])).drop 4=r.right.map Z9++if r.lit then [litW] else []:=rfl
 rw[hd]
 have hm:(r.right.map Z9).map (fun w=>(⟨w.toArray⟩:ByteArray))=r.right:=by
  rw[List.map_map];exact List.map_id _
 cases hb:r.lit
 ·rw[hb] at hl
  have hn:¬((r.right.map Z9++if false=true then [litW] else []).getLast? = some litW):=fun e=>by have:=hl.1 e;cases this
  rw[if_neg hn,decide_eq_false hn]
  simp only[Bool.false_eq_true,if_false,List.append_nil,hm]
  rfl
 ·rw[hb] at hl
  have hn:=hl.2 rfl
  rw[if_pos hn,decide_eq_true hn]
  simp only[if_true,List.dropLast_concat,hm]
  rfl
theorem isEq_eq (q:Eqn):isEq (eqT q)=true:=by simp[isEq,eqT]
theorem isEq_co (c:Con):isEq (coT c)=false:=by simp[isEq,coT]
theorem fil_eq (r:Rul):(r.eqs.map eqT++r.cons.map coT).filter isEq=r.eqs.map eqT:=by
 rw[List.filter_append,List.filter_eq_self.2,List.filter_eq_nil_iff.2,List.append_nil]
 ·intro x hx
  obtain ⟨c,_,rfl⟩:=List.mem_map.1 hx
  simp[isEq_co]
 ·intro x hx
  obtain ⟨c,_,rfl⟩:=List.mem_map.1 hx
  exact isEq_eq c
theorem fil_co (r:Rul):(r.eqs.map eqT++r.cons.map coT).filter (fun l=> !isEq l)=r.cons.map coT:=by
 rw[List.filter_append,List.filter_eq_nil_iff.2,List.filter_eq_self.2,List.nil_append]
 ·intro x hx
  obtain ⟨c,_,rfl⟩:=List.mem_map.1 hx
  simp[isEq_co]
 ·intro x hx
  obtain ⟨c,_,rfl⟩:=List.mem_map.1 hx
  simp[isEq_eq]
theorem XD {r:Rul} (h:Zw r=true):r.right.length≤3∧(∀q∈r.eqs,Zh q.expr=true∧ZV q.name=true∧0≤q.pos∧q.pos≤3)∧∀c∈r.cons,Zh c.goal=true∧Zh c.value=true∧ZV c.sym=true∧ZV c.name=true:=by
 simp only[Zw,Bool.and_eq_true,List.all_eq_true,decide_eq_true_eq] at h
 obtain ⟨_,_,h1,_,_,h2,h3⟩:=h
 refine ⟨h1,fun q hq=> ?_,fun c hc=> ?_⟩
 ·have:=h2 q hq
  simp only[eqnV,fitE,Bool.and_eq_true,decide_eq_true_eq] at this
  exact ⟨this.1.1,this.2.1,this.2.2.1,oT⟩
 ·have:=h3 c hc
  simp only[conV,fitE,Bool.and_eq_true,decide_eq_true_eq] at this
  exact ⟨this.1.1,this.2.1.1,this.2.2.1,this.2.2.2⟩
theorem X8 {e:Exp} (h:Zh e=true):YI YJ e=true:=by simp only[Zh,Bool.and_eq_true] at h;exact h.2
def seen (r:Rul):Rul:=⟨r.name,r.left,r.right,r.lit,r.eqs.map fun q=>⟨q.pos,q.name,(ZB (ZZ q.expr)).1⟩,r.cons.map fun c=>⟨c.sym,c.name,(ZB (ZZ c.goal)).1,(ZB (ZZ c.value)).1⟩⟩
theorem rdS_gen {r:Rul} (h:Zw r=true):rdS (hdT r) (r.eqs.map eqT++r.cons.map coT)=seen r:=by
 obtain ⟨_,h2,h3⟩:=XD h
 unfold rdS
 rw[fil_eq,fil_co,rhS_back h,List.map_map,List.map_map]
 have e1:r.eqs.map (rqS ∘ eqT)=r.eqs.map fun q=>⟨q.pos,q.name,(ZB (ZZ q.expr)).1⟩:=List.map_congr_left fun q hq=>rqS_back (h2 q hq).2.1 (h2 q hq).2.2.1 (h2 q hq).2.2.2
 have e2:r.cons.map (rcS ∘ coT)=r.cons.map fun c=>⟨c.sym,c.name,(ZB (ZZ c.goal)).1,(ZB (ZZ c.value)).1⟩:=List.map_congr_left fun c hc=>rcS_back (h3 c hc).2.2.1 (h3 c hc).2.2.2 (X8 (h3 c hc).1)
 rw[e1,e2]
 rfl
theorem seen_rd {r:Rul} (h:rdR r):seen r=r:=by
 obtain ⟨h1,h2⟩:=h
 have e1:(r.eqs.map fun q=>(⟨q.pos,q.name,(ZB (ZZ q.expr)).1⟩:Eqn))=r.eqs:=by
  conv=>rhs;rw[←List.map_id r.eqs]
  exact List.map_congr_left fun q hq=>by rw[h1 q hq];rfl
 have e2:(r.cons.map fun c=>(⟨c.sym,c.name,(ZB (ZZ c.goal)).1,(ZB (ZZ c.value)).1⟩:Con))=r.cons:=by
  conv=>rhs;rw[←List.map_id r.cons]
  exact List.map_congr_left fun c hc=>by rw[(h2 c hc).1,(h2 c hc).2];rfl
 unfold seen
 rw[e1,e2]
theorem fmtR_pos {r:Rul} {h:List UInt8} {t:List (List UInt8)} (e:Za r=h::t):Zw r=true∧h=hdT r∧t=r.eqs.map eqT++r.cons.map coT:=by
 unfold Za at e
 split at e
 ·rename_i hv
  simp only[List.cons.injEq] at e
  exact ⟨hv,e.1.symm,e.2.symm⟩
 ·cases e
theorem rd_of {e:Exp} (h:Zh e=true) (he:(ZB (ZZ e)).1 = e):rdbl e:=by
 rcases parsed_law h with h1|h1
 ·exact h1.2
 ·exfalso
  rcases err_off (ZZ e) with h2|⟨_,_,h2⟩
  ·omega
  ·rw[he] at h2
   subst h2
   revert h;decide
theorem rdR_of {r:Rul} (h:Zw r=true) (hs:seen r=r):rdR r:=by
 obtain ⟨_,h2,h3⟩:=XD h
 have e1:r.eqs.map (fun q=>(⟨q.pos,q.name,(ZB (ZZ q.expr)).1⟩:Eqn))=r.eqs:=congrArg Rul.eqs hs
 have e2:r.cons.map (fun c=>(⟨c.sym,c.name,(ZB (ZZ c.goal)).1,(ZB (ZZ c.value)).1⟩:Con))=r.cons:=congrArg Rul.cons hs
 constructor
 ·intro q hq
  obtain ⟨i,hi,rfl⟩:=List.mem_iff_getElem.1 hq
  have h4:(r.eqs.map (fun q=>(⟨q.pos,q.name,(ZB (ZZ q.expr)).1⟩:Eqn)))[i]'(by simpa using hi)=r.eqs[i]:=by simp only[e1]
  rw[List.getElem_map] at h4
  exact rd_of (h2 _ hq).1 (congrArg Eqn.expr h4)
 ·intro c hc
  obtain ⟨i,hi,rfl⟩:=List.mem_iff_getElem.1 hc
  have h4:(r.cons.map (fun c=>(⟨c.sym,c.name,(ZB (ZZ c.goal)).1,(ZB (ZZ c.value)).1⟩:Con)))[i]'(by simpa using hi)=r.cons[i]:=by simp only[e2]
  rw[List.getElem_map] at h4
  exact ⟨rd_of (h3 _ hc).1 (congrArg Con.goal h4),rd_of (h3 _ hc).2.1 (congrArg Con.value h4)⟩
theorem fmtR_eq {r:Rul} (h:Zw r=true):Za r=hdT r::(r.eqs.map eqT++r.cons.map coT):=by unfold Za;rw[if_pos h]
theorem parS_some {ls:List (List UInt8)} {r:Rul}:ZA ls=some r↔Zw r=true∧rdR r∧Za r=ls:=by
 constructor
 ·intro h
  cases ls with
  | nil=>cases h
  | cons a t=>
   simp only[ZA] at h
   split at h
   ·rename_i hf
    obtain ⟨hv,ha,ht⟩:=fmtR_pos hf
    have hr:rdS a t=r:=Option.some.inj h
    rw[hr] at hv ha ht hf
    have hg:=rdS_gen hv
    rw[←ha,←ht,hr] at hg
    exact ⟨hv,rdR_of hv hg.symm,hf⟩
   ·cases h
 ·rintro ⟨hv,hr,rfl⟩
  have hg:=rdS_gen hv
  rw[seen_rd hr] at hg
  rw[fmtR_eq hv]
  simp only[ZA,hg]
  rw[if_pos (fmtR_eq hv)]
end Go.Gh
namespace Go.Gh
open Go.Lib
section
variable (sp:List UInt8→List (List UInt8)) (nm:List UInt8→Int×Bool)
def eqP:List UInt8:=[101,113,32,36]
def puP:List UInt8:=[112,117,116,32]
def ofP':List UInt8:=[32,111,102,32]
def Y6 (p l:List UInt8):List UInt8:=if p.isPrefixOf l then l.drop p.length else l
def rqI (l:List UInt8):Eqn×Bool:=
 (⟨(nm (cut (cut (Y6 eqP l) dfT).1 [46]).1).1,⟨(cut (cut (Y6 eqP l) dfT).1 [46]).2.1.toArray⟩,(ZB (cut (Y6 eqP l) dfT).2.1).1⟩,
  (nm (cut (cut (Y6 eqP l) dfT).1 [46]).1).2 && decide ((ZB (cut (Y6 eqP l) dfT).2.1).2 < 0))
def rcI (l:List UInt8):Con×Bool:=
 (⟨⟨(cut (cut (cut (Y6 puP l) dfT).1 ofP').1 [46]).1.toArray⟩,⟨(cut (cut (cut (Y6 puP l) dfT).1 ofP').1 [46]).2.1.toArray⟩,(ZB (cut (cut (Y6 puP l) dfT).1 ofP').2.1).1,(ZB (cut (Y6 puP l) dfT).2.1).1⟩,
  decide ((ZB (cut (cut (Y6 puP l) dfT).1 ofP').2.1).2 < 0)&&decide ((ZB (cut (Y6 puP l) dfT).2.1).2 < 0))
def rdI:List (List UInt8)→List Eqn→List Con→Option (List Eqn×List Con)
 | [],a,b=>some (a,b)
 | l::t,a,b=>
  if puP.isPrefixOf l∧(rcI l).2 = true then rdI t a (b++[(rcI l).1])
  else if eqP.isPrefixOf l∧(rqI nm l).2 = true then rdI t (a++[(rqI nm l).1]) b
  else none
def hdI (ws:List (List UInt8)) (a:List Eqn) (b:List Con):Rul:=
 ⟨⟨(ws.getD 1 []).toArray⟩,⟨(ws.getD 2 []).toArray⟩,((if (ws.drop 4).getLast? = some litW then (ws.drop 4).dropLast else ws.drop 4).map fun w=>⟨w.toArray⟩),decide ((ws.drop 4).getLast? = some litW),a,b⟩
def parI:List (List UInt8)→Option Rul
 | []=>none
 | h::t=>if (sp h).length < 4 then none else match rdI nm t [] [] with
  | none=>none
  | some x=>if Za (hdI (sp h) x.1 x.2)=h::t then some (hdI (sp h) x.1 x.2) else none
variable {sp nm}
theorem trim_pre {p l:List UInt8}:Y6 p (p++l)=l:=by
 unfold Y6
 rw[if_pos (by simp)]
 simp
theorem rqI_back (hnm:∀n:Int,0≤n→n≤3→nm (itoa n)=(n,true)) {q:Eqn} (hn:ZV q.name=true) (h0:0≤q.pos) (h3:q.pos≤3) :
 rqI nm (eqT q)=(⟨q.pos,q.name,(ZB (ZZ q.expr)).1⟩,decide ((ZB (ZZ q.expr)).2 < 0)):=by
 have h58:(58:UInt8)∉itoa q.pos++46::Z9 q.name:=fun hm=>by
  rcases List.mem_append.1 hm with h|h
  ·rw[XO h0] at h
   have:=digV_rng ((dec_dig _).1 _ h)
   revert this;decide
  ·rcases List.mem_cons.1 h with h|h
   ·cases h
   ·have:=YN hn _ h
    revert this;decide
 have h46:(46:UInt8)∉itoa q.pos:=fun h=>by
  rw[XO h0] at h
  have:=digV_rng ((dec_dig _).1 _ h)
  revert this;decide
 have e1:Y6 eqP (eqT q)=itoa q.pos++46::Z9 q.name++[32,58,61,32]++ZZ q.expr:=by
  rw[show eqT q=eqP++(itoa q.pos++46::Z9 q.name++[32,58,61,32]++ZZ q.expr) by simp[eqT,eqP]]
  exact trim_pre
 have e2:cut (Y6 eqP (eqT q)) dfT=(itoa q.pos++46::Z9 q.name,ZZ q.expr,true):=by rw[e1];exact cut_def h58
 have e3:cut (itoa q.pos++46::Z9 q.name) [46]=(itoa q.pos,Z9 q.name,true):=cut_at (p:=[]) h46
 unfold rqI
 rw[e2]
 dsimp only
 rw[e3]
 dsimp only
 rw[hnm _ h0 h3]
 simp
theorem rcI_back {c:Con} (h1:ZV c.sym=true) (h2:ZV c.name=true) (h3:YI YJ c.goal=true) :
 rcI (coT c)=(⟨c.sym,c.name,(ZB (ZZ c.goal)).1,(ZB (ZZ c.value)).1⟩,decide ((ZB (ZZ c.goal)).2 < 0)&&decide ((ZB (ZZ c.value)).2 < 0)):=by
 have hx:∀x:UInt8,x.toNat<48∨58≤x.toNat∧x.toNat≤96→x≠46→x∉Z9 c.sym++46::Z9 c.name:=fun x hx hn hm=>by
  rcases List.mem_append.1 hm with h|h
  ·have:=YN h1 _ h;omega
  ·rcases List.mem_cons.1 h with h|h
   ·exact hn h
   ·have:=YN h2 _ h;omega
 have h58:(58:UInt8)∉(Z9 c.sym++46::Z9 c.name)++(ofP'++ZZ c.goal):=fun hm=>by
  rcases List.mem_append.1 hm with h|h
  ·exact hx 58 (by decide) (by decide) h
  ·rcases List.mem_append.1 h with h|h
   ·revert h;decide
   ·exact (txt_noc h3 _ h).1 rfl
 have e1:Y6 puP (coT c)=((Z9 c.sym++46::Z9 c.name)++(ofP'++ZZ c.goal))++[32,58,61,32]++ZZ c.value:=by
  rw[show coT c=puP++(((Z9 c.sym++46::Z9 c.name)++(ofP'++ZZ c.goal))++[32,58,61,32]++ZZ c.value) by simp[coT,puP,ofP']]
  exact trim_pre
 have e2:cut (Y6 puP (coT c)) dfT=((Z9 c.sym++46::Z9 c.name)++(ofP'++ZZ c.goal),ZZ c.value,true):=by rw[e1];exact cut_def h58
 have e3:cut ((Z9 c.sym++46::Z9 c.name)++(ofP'++ZZ c.goal)) ofP'=(Z9 c.sym++46::Z9 c.name,ZZ c.goal,true):=cut_at (p0:=32) (p:=[111,102,32]) (hx 32 (by decide) (by decide))
 have e4:cut (Z9 c.sym++46::Z9 c.name) [46]=(Z9 c.sym,Z9 c.name,true):=cut_at (p:=[]) (Xv h1 (by decide))
 unfold rcI
 rw[e2]
 dsimp only
 rw[e3]
 dsimp only
 rw[e4]
theorem pre_eq (q:Eqn):eqP.isPrefixOf (eqT q)=true∧puP.isPrefixOf (eqT q)=false:=by simp[eqP,puP,eqT,List.isPrefixOf]
theorem pre_co (c:Con):puP.isPrefixOf (coT c)=true:=by simp[puP,coT,List.isPrefixOf]
def eqOk (q:Eqn):Prop:=Zh q.expr=true∧ZV q.name=true∧0≤q.pos∧q.pos≤3
def coOk (c:Con):Prop:=Zh c.goal=true∧Zh c.value=true∧ZV c.sym=true∧ZV c.name=true
theorem rdI_eq (hnm:∀n:Int,0≤n→n≤3→nm (itoa n)=(n,true)) {q:Eqn} (h:eqOk q) (t:List (List UInt8)) (a:List Eqn) (b:List Con) :
 rdI nm (eqT q::t) a b=if (ZB (ZZ q.expr)).2 < 0 then rdI nm t (a++[⟨q.pos,q.name,(ZB (ZZ q.expr)).1⟩]) b else none:=by
 obtain ⟨h1,h2⟩:=pre_eq q
 simp only[rdI]
 rw[if_neg (by rw[h2];simp),rqI_back hnm h.2.1 h.2.2.1 h.2.2.2,h1]
 simp
theorem rdI_co {c:Con} (h:coOk c) (t:List (List UInt8)) (a:List Eqn) (b:List Con) :
 rdI nm (coT c::t) a b=if (ZB (ZZ c.goal)).2 < 0∧(ZB (ZZ c.value)).2 < 0 then rdI nm t a (b++[⟨c.sym,c.name,(ZB (ZZ c.goal)).1,(ZB (ZZ c.value)).1⟩]) else none:=by
 have h1:=pre_co c
 have h2:eqP.isPrefixOf (coT c)=false:=by simp[eqP,coT,List.isPrefixOf]
 simp only[rdI]
 rw[rcI_back h.2.2.1 h.2.2.2 (X8 h.1),h1,h2]
 simp
theorem rdI_cons:∀{cs:List Con} {a:List Eqn} {b:List Con},(∀c∈cs,coOk c) →
 ((∀c∈cs,rdbl c.goal∧rdbl c.value)→rdI nm (cs.map coT) a b=some (a,b++cs))∧∀x,rdI nm (cs.map coT) a b=some x→∀c∈cs,(ZB (ZZ c.goal)).2 < 0∧(ZB (ZZ c.value)).2 < 0
 | [],a,b,_ => by simp[rdI]
 | c::cs,a,b,h=>by
  have hc:=rdI_co (nm:=nm) (h c (by simp)) (cs.map coT) a b
  constructor
  ·intro hr
   obtain ⟨h1,h2⟩:=hr c (by simp)
   have ih:=(rdI_cons (cs:=cs) (a:=a) (b:=b++[c]) fun y hy=>h y (by simp[hy])).1 fun y hy=>hr y (by simp[hy])
   rw[List.map_cons,hc,h1,h2,if_pos ⟨by show (-1:Int)<0;decide,by show (-1:Int)<0;decide⟩,ih]
   simp
  ·intro x hx
   rw[List.map_cons,hc] at hx
   split at hx
   ·rename_i h1
    intro y hy
    rcases List.mem_cons.1 hy with rfl|hy
    ·exact h1
    ·exact (rdI_cons fun y hy=>h y (by simp[hy])).2 x hx y hy
   ·cases hx
theorem rdI_all (hnm:∀n:Int,0≤n→n≤3→nm (itoa n)=(n,true)):∀{es:List Eqn} {cs:List Con} {a:List Eqn} {b:List Con},(∀q∈es,eqOk q)→(∀c∈cs,coOk c) →
 ((∀q∈es,rdbl q.expr)→(∀c∈cs,rdbl c.goal∧rdbl c.value)→rdI nm (es.map eqT++cs.map coT) a b=some (a++es,b++cs)) ∧
 ∀x,rdI nm (es.map eqT++cs.map coT) a b=some x→(∀q∈es,(ZB (ZZ q.expr)).2 < 0)∧∀c∈cs,(ZB (ZZ c.goal)).2 < 0∧(ZB (ZZ c.value)).2 < 0
 | [],cs,a,b,_,h2=>by
  have:=rdI_cons (nm:=nm) (a:=a) (b:=b) h2
  simp only[List.map_nil,List.nil_append,List.append_nil]
  exact ⟨fun _ => this.1,fun x hx=>⟨by simp,this.2 x hx⟩⟩
 | q::es,cs,a,b,h1,h2=>by
  have hc:=rdI_eq hnm (h1 q (by simp)) (es.map eqT++cs.map coT) a b
  constructor
  ·intro hr hr2
   have h3:=hr q (by simp)
   have ih:=(rdI_all hnm (es:=es) (cs:=cs) (a:=a++[q]) (b:=b) (fun y hy=>h1 y (by simp[hy])) h2).1 (fun y hy=>hr y (by simp[hy])) hr2
   rw[List.map_cons,List.cons_append,hc,h3,if_pos (show (-1:Int)<0 by decide),ih]
   simp
  ·intro x hx
   rw[List.map_cons,List.cons_append,hc] at hx
   split at hx
   ·rename_i h3
    obtain ⟨i1,i2⟩:=(rdI_all hnm (fun y hy=>h1 y (by simp[hy])) h2).2 x hx
    refine ⟨fun y hy=> ?_,i2⟩
    rcases List.mem_cons.1 hy with rfl|hy
    ·exact h3
    ·exact i1 y hy
   ·cases hx
theorem rd_neg {e:Exp} (h:Zh e=true) (hn:(ZB (ZZ e)).2 < 0):rdbl e:=by
 rcases parsed_law h with h1|h1
 ·exact h1.2
 ·omega
theorem parI_some (hnm:∀n:Int,0≤n→n≤3→nm (itoa n)=(n,true)) (hsp:∀l,(spl 32 l).length ≤ 8→sp l=spl 32 l) {ls:List (List UInt8)} {r:Rul}:parI sp nm ls=some r↔Zw r=true∧rdR r∧Za r=ls:=by
 constructor
 ·intro h
  cases ls with
  | nil=>cases h
  | cons a t=>
   simp only[parI] at h
   split at h
   ·cases h
   ·split at h
    ·cases h
    ·rename_i x hx
     split at h
     ·rename_i hf
      obtain ⟨hv,ha,ht⟩:=fmtR_pos hf
      have hr:hdI (sp a) x.1 x.2=r:=Option.some.inj h
      rw[hr] at hv ha ht hf
      obtain ⟨_,h2,h3⟩:=XD hv
      rw[ht] at hx
      obtain ⟨i1,i2⟩:=(rdI_all hnm h2 h3).2 x hx
      exact ⟨hv,⟨fun q hq=>rd_neg (h2 q hq).1 (i1 q hq),fun c hc=>⟨rd_neg (h3 c hc).1 (i2 c hc).1,rd_neg (h3 c hc).2.1 (i2 c hc).2⟩⟩,hf⟩
     ·cases h
 ·rintro ⟨hv,hr,rfl⟩
  obtain ⟨h1,h2,h3⟩:=XD hv
  have hw:=hd_words hv
  have hl:(spl 32 (hdT r)).length ≤ 8:=by
   rw[hw]
   split<;>simp<;>omega
  have e1:=hsp _ hl
  have hi:=(rdI_all hnm (a:=[]) (b:=[]) h2 h3).1 hr.1 hr.2
  have hh:hdI (sp (hdT r)) ([]++r.eqs) ([]++r.cons)=r:=by
   have hb:=rhS_back hv
   unfold rhS at hb
   rw[hw,if_neg (by simp)] at hb
   rw[e1,hw]
   unfold hdI
   simp only[Rul.mk.injEq,List.nil_append] at hb ⊢
   obtain ⟨b1,b2,b3,b4,_,_⟩:=hb
   have:r=⟨r.name,r.left,r.right,r.lit,r.eqs,r.cons⟩:=rfl
   rw[this]
   simp only[Rul.mk.injEq]
   exact ⟨b1,b2,b3,b4,trivial,trivial⟩
  have hn:¬(sp (hdT r)).length < 4:=by rw[e1,hw];simp
  have hf:=fmtR_eq hv
  rw[hf]
  simp only[parI]
  rw[if_neg hn,hi]
  dsimp only
  rw[hh,if_pos hf]
theorem par_same (hnm:∀n:Int,0≤n→n≤3→nm (itoa n)=(n,true)) (hsp:∀l,(spl 32 l).length ≤ 8→sp l=spl 32 l) (ls:List (List UInt8)):parI sp nm ls=ZA ls:=by
 apply Option.ext
 intro r
 rw[parI_some hnm hsp,parS_some]
end
end Go.Gh
namespace Go.Gh
open Go.Lib
def modW:List (List UInt8):=[[105,110,104],[115,121,110],[99,111,108]]
def typW:List (List UInt8):=[[110,117,109],[115,101,116],[98,111,111,108],[110,111,100,101]]
def attT (a:Att):List UInt8:=Z9 a.name++58::(modW.getD (a.mode-1).toNat []++58::(typW.getD (a.type-1).toNat []++if a.circ then [33] else []))
def YQ (s:Sym):List UInt8:=[115,121,109,98,111,108]++(Z9 s.name::s.atts.map attT).flatMap (32 :: ·)
def fmtY (s:Sym):List UInt8:=if YX s then YQ s else []
theorem Yh {a:Att} (h:attV a=true):ZV a.name=true∧(a.type=1∨a.type=2∨a.type=3∨a.type=4)∧(a.mode=1∨a.mode=2∨a.mode=3):=by
 simp only[attV,Bool.and_eq_true,decide_eq_true_eq] at h
 exact ⟨h.1,oT,oT⟩
theorem attT_mem {a:Att} (h:attV a=true):∀c∈attT a,c.toNat=33∨c.toNat=58∨48≤c.toNat:=by
 obtain ⟨h1,h2,h3⟩:=Yh h
 have hm:∀c∈modW.getD (a.mode-1).toNat [],48≤c.toNat:=by
  rcases h3 with e|e|e<;>rw[e]<;>decide
 have ht:∀c∈typW.getD (a.type-1).toNat [],48≤c.toNat:=by
  rcases h2 with e|e|e|e<;>rw[e]<;>decide
 intro c hc
 unfold attT at hc
 rcases List.mem_append.1 hc with h|h
 ·exact .inr (.inr (YN h1 c h).1)
 ·rcases List.mem_cons.1 h with rfl|h
  ·exact .inr (.inl rfl)
  ·rcases List.mem_append.1 h with h|h
   ·exact .inr (.inr (hm c h))
   ·rcases List.mem_cons.1 h with rfl|h
    ·exact .inr (.inl rfl)
    ·rcases List.mem_append.1 h with h|h
     ·exact .inr (.inr (ht c h))
     ·split at h
      ·rw[List.mem_singleton.1 h];exact .inl rfl
      ·cases h
theorem sym_words {s:Sym} (h:YX s=true):spl 32 (YQ s)=[115,121,109,98,111,108]::Z9 s.name::s.atts.map attT:=by
 simp only[YX,Bool.and_eq_true,List.all_eq_true] at h
 unfold YQ
 rw[spl_flat (by decide)]
 intro x hx hm
 rcases List.mem_cons.1 hx with rfl|hx
 ·exact Xv h.2.1 (by decide) hm
 ·obtain ⟨a,ha,rfl⟩:=List.mem_map.1 hx
  rcases attT_mem (h.1.1 a ha) _ hm with e|e|e<;>revert e<;>decide
section
variable (sp:List UInt8→List (List UInt8)) (rA:List UInt8→Att)
def parY (l:List UInt8):Option Sym:=
 if (sp l).length < 2 then none
 else if fmtY ⟨⟨((sp l).getD 1 []).toArray⟩,((sp l).drop 2).map rA⟩=l then some ⟨⟨((sp l).getD 1 []).toArray⟩,((sp l).drop 2).map rA⟩ else none
variable {sp rA}
theorem parY_some (hsp:∀l,(spl 32 l).length ≤ 6→sp l=spl 32 l) (hrA:∀a,attV a=true→rA (attT a)=a) {l:List UInt8} {s:Sym}:parY sp rA l=some s↔YX s=true∧YQ s=l:=by
 constructor
 ·intro h
  unfold parY at h
  split at h
  ·cases h
  ·rename_i hn
   split at h
   ·rename_i hf
    have hs:=Option.some.inj h
    rw[hs] at hf
    unfold fmtY at hf
    split at hf
    ·rename_i hv;exact ⟨hv,hf⟩
    ·exfalso
     subst hf
     rw[hsp [] (by decide)] at hn
     exact hn (by decide)
   ·cases h
 ·rintro ⟨hv,rfl⟩
  have hw:=sym_words hv
  have h4:s.atts.length≤4:=by simp only[YX,Bool.and_eq_true,decide_eq_true_eq] at hv;exact hv.2.2
  have ha:∀a∈s.atts,attV a=true:=by simp only[YX,Bool.and_eq_true,List.all_eq_true] at hv;exact hv.1.1
  have e1:sp (YQ s)=[115,121,109,98,111,108]::Z9 s.name::s.atts.map attT:=by
   rw[hsp _ (by rw[hw];simp;omega),hw]
  have e2:(s.atts.map attT).map rA=s.atts:=by
   rw[List.map_map]
   conv=>rhs;rw[←List.map_id s.atts]
   exact List.map_congr_left fun a h=>hrA a (ha a h)
  unfold parY
  rw[e1,if_neg (by simp)]
  simp only[List.getD_cons_succ,List.getD_cons_zero,List.drop_succ_cons,List.drop_zero,e2]
  have e3:(⟨⟨(Z9 s.name).toArray⟩,s.atts⟩:Sym)=s:=rfl
  rw[e3]
  unfold fmtY
  rw[if_pos hv,if_pos rfl]
end
def ixW (l:List (List UInt8)) (w:List UInt8):Int:=ixOf (fun x=>decide (x=w)) l
def circV (w:List UInt8):Bool:=decide (w.getLast?=some 33)
def uncV (w:List UInt8):List UInt8:=if w.getLast?=some 33 then w.dropLast else w
def rAS (w:List UInt8):Att:=
 if (spl 58 w).length ≠ 3 then attZ
 else ⟨⟨((spl 58 w).getD 0 []).toArray⟩,ixW ([]::typW) (uncV ((spl 58 w).getD 2 [])),ixW ([]::modW) ((spl 58 w).getD 1 []),circV ((spl 58 w).getD 2 [])⟩
def rAI (sp3:List UInt8→List (List UInt8)) (w:List UInt8):Att:=
 ⟨⟨((sp3 w).getD 0 []).toArray⟩,1+ixW typW (uncV ((sp3 w).getD 2 [])),1+ixW modW ((sp3 w).getD 1 []),circV ((sp3 w).getD 2 [])⟩
theorem att_words {a:Att} (h:attV a=true):spl 58 (attT a)=[Z9 a.name,modW.getD (a.mode-1).toNat [],typW.getD (a.type-1).toNat []++if a.circ then [33] else []]:=by
 obtain ⟨h1,h2,h3⟩:=Yh h
 have n1:(58:UInt8)∉Z9 a.name:=fun hm=>by have:=YN h1 _ hm;revert this;decide
 have n2:(58:UInt8)∉modW.getD (a.mode-1).toNat []:=by rcases h3 with e|e|e<;>rw[e]<;>decide
 have n3:(58:UInt8)∉(typW.getD (a.type-1).toNat []++if a.circ then [33] else []):=by
  cases a.circ<;>rcases h2 with e|e|e|e<;>rw[e]<;>decide
 unfold attT
 rw[XZ n1,XZ n2,spl_one n3]
theorem unc_ok {t:Int} {b:Bool} (h:t=1∨t=2∨t=3∨t=4):circV (typW.getD (t-1).toNat []++if b then [33] else [])=b∧uncV (typW.getD (t-1).toNat []++if b then [33] else [])=typW.getD (t-1).toNat []:=by
 cases b<;>rcases h with e|e|e|e<;>subst e<;>decide
theorem rAS_back {a:Att} (h:attV a=true):rAS (attT a)=a:=by
 obtain ⟨h1,h2,h3⟩:=Yh h
 obtain ⟨u1,u2⟩:=unc_ok (b:=a.circ) h2
 unfold rAS
 rw[att_words h,if_neg (by simp)]
 simp only[List.getD_cons_succ,List.getD_cons_zero,u1,u2]
 have e1:ixW ([]::typW) (typW.getD (a.type-1).toNat [])=a.type:=by rcases h2 with e|e|e|e<;>rw[e]<;>decide
 have e2:ixW ([]::modW) (modW.getD (a.mode-1).toNat [])=a.mode:=by rcases h3 with e|e|e<;>rw[e]<;>decide
 rw[e1,e2]
theorem rAI_back {sp3:List UInt8→List (List UInt8)} (hsp:∀l,(spl 58 l).length ≤ 3→sp3 l=spl 58 l) {a:Att} (h:attV a=true):rAI sp3 (attT a)=a:=by
 obtain ⟨h1,h2,h3⟩:=Yh h
 obtain ⟨u1,u2⟩:=unc_ok (b:=a.circ) h2
 unfold rAI
 rw[hsp _ (by rw[att_words h];simp),att_words h]
 simp only[List.getD_cons_succ,List.getD_cons_zero,u1,u2]
 have e1:1+ixW typW (typW.getD (a.type-1).toNat [])=a.type:=by rcases h2 with e|e|e|e<;>rw[e]<;>decide
 have e2:1+ixW modW (modW.getD (a.mode-1).toNat [])=a.mode:=by rcases h3 with e|e|e<;>rw[e]<;>decide
 rw[e1,e2]
end Go.Gh
namespace Go.Gh
open Go.Lib
def bdT (r:Rul):List (List UInt8):=r.eqs.map eqT++r.cons.map coT
def gLn (g:Gram):List (List UInt8):=g.syms.map YQ++g.rules.flatMap fun r=>hdT r::bdT r
def gT (g:Gram):List UInt8:=(gLn g).flatMap (· ++ [10])
def vG (g:Gram):Prop:=(∀s∈g.syms,YX s=true)∧∀r∈g.rules,Zw r=true
instance (g:Gram):Decidable (vG g):=inferInstanceAs (Decidable (_ ∧ _))
def fmtG (g:Gram):List UInt8:=if vG g then gT g else []
theorem no10 {l:List UInt8} (h:∀c∈l,c.toNat≠10):(10:UInt8)∉l:=fun hm=>h _ hm rfl
theorem symT_no {s:Sym} (h:YX s=true):(10:UInt8)∉YQ s:=by
 simp only[YX,Bool.and_eq_true,List.all_eq_true] at h
 refine no10 fun c hc=> ?_
 unfold YQ at hc
 rcases List.mem_append.1 hc with hc|hc
 ·exact (by decide:∀x∈([115,121,109,98,111,108]:List UInt8),x.toNat≠10) c hc
 ·obtain ⟨w,hw,hc⟩:=List.mem_flatMap.1 hc
  rcases List.mem_cons.1 hc with rfl|hc
  ·decide
  ·rcases List.mem_cons.1 hw with rfl|hw
   ·have:=YN h.2.1 _ hc;omega
   ·obtain ⟨a,ha,rfl⟩:=List.mem_map.1 hw
    rcases attT_mem (h.1.1 a ha) _ hc with e|e|e<;>omega
theorem hdT_no {r:Rul} (h:Zw r=true):(10:UInt8)∉hdT r:=by
 simp only[Zw,Bool.and_eq_true,List.all_eq_true] at h
 obtain ⟨h1,h2,_,_,h3,_⟩:=h
 refine no10 fun c hc=> ?_
 unfold hdT at hc
 rcases List.mem_append.1 hc with hc|hc
 ·exact (by decide:∀x∈([114,117,108,101]:List UInt8),x.toNat≠10) c hc
 ·obtain ⟨w,hw,hc⟩:=List.mem_flatMap.1 hc
  rcases List.mem_cons.1 hc with rfl|hc
  ·decide
  ·simp only[List.mem_append,List.mem_cons,List.not_mem_nil,or_false,List.mem_map] at hw
   rcases hw with (rfl|rfl|rfl)|⟨s,hs,rfl⟩|hw
   ·have:=YN h1 _ hc;omega
   ·have:=YN h2 _ hc;omega
   ·exact (by decide:∀x∈([58]:List UInt8),x.toNat≠10) c hc
   ·have:=YN (h3 s hs) _ hc;omega
   ·split at hw
    ·rw[List.mem_singleton] at hw;subst hw;exact (by decide:∀x∈([108,105,116]:List UInt8),x.toNat≠10) c hc
    ·cases hw
theorem itoa_no {n:Int} (h:0≤n):∀c∈itoa n,48≤c.toNat:=fun c hc=>by
 rw[XO h] at hc
 exact (digV_rng ((dec_dig _).1 c hc)).1
theorem bdT_no {r:Rul} (h:Zw r=true):∀l∈bdT r,(10:UInt8)∉l:=by
 obtain ⟨_,h2,h3⟩:=XD h
 intro l hl
 rcases List.mem_append.1 hl with hl|hl
 ·obtain ⟨q,hq,rfl⟩:=List.mem_map.1 hl
  obtain ⟨k1,k2,k3,_⟩:=h2 q hq
  refine no10 fun c hc=> ?_
  unfold eqT at hc
  simp only[List.mem_append,List.mem_cons,List.not_mem_nil,or_false] at hc
  rcases hc with (rfl|rfl|rfl|rfl)|hc|rfl|hc|(rfl|rfl|rfl|rfl)|hc
  ·decide
  ·decide
  ·decide
  ·decide
  ·have:=itoa_no k3 c hc;omega
  ·decide
  ·have:=YN k2 c hc;omega
  ·decide
  ·decide
  ·decide
  ·decide
  ·exact (txt_noc (X8 k1) c hc).2
 ·obtain ⟨q,hq,rfl⟩:=List.mem_map.1 hl
  obtain ⟨k1,k2,k3,k4⟩:=h3 q hq
  refine no10 fun c hc=> ?_
  unfold coT at hc
  simp only[List.mem_append,List.mem_cons,List.not_mem_nil,or_false] at hc
  rcases hc with (rfl|rfl|rfl|rfl)|hc|rfl|hc|(rfl|rfl|rfl|rfl)|hc|(rfl|rfl|rfl|rfl)|hc
  ·decide
  ·decide
  ·decide
  ·decide
  ·have:=YN k3 c hc;omega
  ·decide
  ·have:=YN k4 c hc;omega
  ·decide
  ·decide
  ·decide
  ·decide
  ·exact (txt_noc (X8 k1) c hc).2
  ·decide
  ·decide
  ·decide
  ·decide
  ·exact (txt_noc (X8 k2) c hc).2
theorem gLn_no {g:Gram} (h:vG g):∀l∈gLn g,(10:UInt8)∉l:=by
 intro l hl
 rcases List.mem_append.1 hl with hl|hl
 ·obtain ⟨s,hs,rfl⟩:=List.mem_map.1 hl
  exact symT_no (h.1 s hs)
 ·obtain ⟨r,hr,hl⟩:=List.mem_flatMap.1 hl
  rcases List.mem_cons.1 hl with rfl|hl
  ·exact hdT_no (h.2 r hr)
  ·exact bdT_no (h.2 r hr) l hl
theorem spl_lines:∀{ls:List (List UInt8)},(∀l∈ls,(10:UInt8)∉l)→spl 10 (ls.flatMap (· ++ [10]))=ls++[[]]
 | [],_ => rfl
 | l::ls,h=>by
  have ih:=spl_lines (ls:=ls) fun x hx=>h x (by simp[hx])
  simp only[List.flatMap_cons,List.append_assoc,List.singleton_append,List.cons_append]
  rw[XZ (h l (by simp)),List.nil_append,ih]
theorem spl_lines' {ls:List (List UInt8)} (hne:ls≠[]) (h:∀l∈ls,(10:UInt8)∉l):spl 10 (ls.flatMap (· ++ [10])).dropLast = ls:=by
 induction ls with
 | nil=>exact absurd rfl hne
 | cons l ls ih=>
  cases ls with
  | nil=>
   simp only[List.flatMap_cons,List.flatMap_nil,List.append_nil,List.dropLast_concat]
   exact spl_one (h l (by simp))
  | cons m ms=>
   have ih:=ih (by simp) fun x hx=>h x (by simp[hx])
   have hne2:((m::ms).flatMap (· ++ [10]))≠[]:=by simp
   have e:((l::m::ms).flatMap (· ++ [10])).dropLast = l++10::((m::ms).flatMap (· ++ [10])).dropLast := by
    rw[List.flatMap_cons,List.dropLast_append_of_ne_nil hne2]
    simp
   rw[e,XZ (h l (by simp)),ih]
end Go.Gh
namespace Go.Gh
open Go.Lib
def symP:List UInt8:=[115,121,109,98,111,108,32]
def ruP:List UInt8:=[114,117,108,101,32]
def stS (w l:List UInt8):Bool:=decide (w.length<l.length)&&w.isPrefixOf l
def isSy (l:List UInt8):Bool:=stS symP l
def isRu (l:List UInt8):Bool:=stS ruP l
def Ys (l:List UInt8):Bool:=stS [101,113,32] l||stS puP l
theorem nameV_pos {s:ByteArray} (h:ZV s=true):0<(Z9 s).length := by
 simp only[ZV,Bool.and_eq_true] at h
 exact ((shp_iff _).1 h.1.1).1
theorem sy_lines {s:Sym} (h:YX s=true):isSy (YQ s)=true∧isRu (YQ s)=false∧Ys (YQ s)=false∧symP.isPrefixOf (YQ s)=true:=by
 simp only[YX,Bool.and_eq_true] at h
 have hp:0<s.name.size:=by have:=nameV_pos h.2.1;simpa[Z9] using this
 have e:YQ s=symP++(Z9 s.name++(s.atts.map attT).flatMap (32 :: ·)):=by simp[YQ,symP]
 rw[e]
 refine ⟨?_,?_,?_,?_⟩
 ·simp[isSy,stS]
  omega
 ·simp[isRu,stS,ruP,symP,List.isPrefixOf]
 ·simp[Ys,stS,puP,symP,List.isPrefixOf]
 ·simp
theorem hd_lines {r:Rul} (h:Zw r=true):isSy (hdT r)=false∧isRu (hdT r)=true∧Ys (hdT r)=false∧symP.isPrefixOf (hdT r)=false∧ruP.isPrefixOf (hdT r)=true:=by
 simp only[Zw,Bool.and_eq_true] at h
 have hp:=nameV_pos h.1
 have e:hdT r=ruP++(Z9 r.name++([Z9 r.left,[58]]++(r.right.map Z9++if r.lit then [[108,105,116]] else [])).flatMap (32 :: ·)):=by simp[hdT,ruP]
 rw[e]
 refine ⟨?_,?_,?_,?_,?_⟩
 ·simp[isSy,stS,ruP,symP,List.isPrefixOf]
 ·simp[isRu,stS]
  omega
 ·simp[Ys,stS,puP,ruP,List.isPrefixOf]
 ·simp[ruP,symP,List.isPrefixOf]
 ·simp
theorem bd_lines {r:Rul}:∀l∈bdT r,isSy l=false∧isRu l=false∧Ys l=true∧symP.isPrefixOf l=false∧ruP.isPrefixOf l=false:=by
 intro l hl
 rcases List.mem_append.1 hl with hl|hl
 ·obtain ⟨q,_,rfl⟩:=List.mem_map.1 hl
  have e:eqT q=[101,113,32,36]++(itoa q.pos++46::(Z9 q.name++([32,58,61,32]++ZZ q.expr))):=rfl
  rw[e]
  simp[isSy,isRu,Ys,stS,ruP,symP,puP,List.isPrefixOf]
 ·obtain ⟨q,_,rfl⟩:=List.mem_map.1 hl
  unfold coT
  simp[isSy,isRu,Ys,stS,ruP,symP,puP,List.isPrefixOf]
  omega
theorem tw_all {α:Type} {p:α→Bool}:∀{a b:List α},(∀x∈a,p x=true)→(∀y t,b=y::t→p y=false)→(a++b).takeWhile p=a∧(a++b).dropWhile p=b
 | [],b,_,h=>by
  cases b with
  | nil=>simp
  | cons y t=>simp[h y t rfl]
 | x::a,b,h1,h2=>by
  have ih:=tw_all (a:=a) (b:=b) (fun y hy=>h1 y (by simp[hy])) h2
  have hx:=h1 x (by simp)
  simp[hx,ih.1,ih.2]
section
variable (PY:List UInt8→Option Sym) (PR:List (List UInt8)→Option Rul)
def rulL:List (List UInt8)→List Rul
 | []=>[]
 | l::t=>if isRu l then (PR (l::t.takeWhile Ys)).getD rulZ::rulL t else rulL t
def grS (s:List UInt8):Gram:=⟨((spl 10 s).filter isSy).map fun l=>(PY l).getD symZ,rulL PR (spl 10 s)⟩
def YR (s:List UInt8):Option Gram:=if s≠[]∧fmtG (grS PY PR s)=s then some (grS PY PR s) else none
def syI:List (List UInt8)→List Sym→Option (List Sym×List (List UInt8))
 | [],a=>some (a,[])
 | l::t,a=>if symP.isPrefixOf l then match PY l with
  | some s=>syI t (a++[s])
  | none=>none
  else some (a,l::t)
def ruI:Nat→List (List UInt8)→List Rul→Option (List Rul)
 | _,[],a=>some a
 | 0,_ :: _,_ => none
 | n+1,l::t,a=>match PR (l::t.takeWhile fun x=> !ruP.isPrefixOf x) with
  | none=>none
  | some r=>ruI n (t.dropWhile fun x=> !ruP.isPrefixOf x) (a++[r])
def parGI (s:List UInt8):Option Gram:=
 if s.getLast?=some 10 then match syI PY (spl 10 s.dropLast) [] with
  | none=>none
  | some x=>match ruI PR x.2.length x.2 [] with
   | none=>none
   | some b=>if fmtG ⟨x.1,b⟩=s then some ⟨x.1,b⟩ else none
 else none
variable {PY PR}
theorem rulL_skip:∀{a b:List (List UInt8)},(∀l∈a,isRu l=false)→rulL PR (a++b)=rulL PR b
 | [],_,_ => rfl
 | l::a,b,h=>by
  rw[List.cons_append,rulL,h l (by simp)]
  exact rulL_skip fun x hx=>h x (by simp[hx])
theorem rulL_all:∀{rs:List Rul},(∀r∈rs,Zw r=true)→rulL PR (rs.flatMap (fun r=>hdT r::bdT r)++[[]])=rs.map fun r=>(PR (hdT r::bdT r)).getD rulZ
 | [],_ => by simp[rulL,isRu,stS,ruP]
 | r::rs,h=>by
  have ih:=rulL_all (rs:=rs) fun x hx=>h x (by simp[hx])
  have hd:=hd_lines (h r (by simp))
  have ht:=(tw_all (p:=Ys) (a:=bdT r) (b:=rs.flatMap (fun r=>hdT r::bdT r)++[[]]) (fun x hx=>(bd_lines x hx).2.2.1) (fun y t e=>by
   cases rs with
   | nil=>
    simp only[List.flatMap_nil,List.nil_append,List.cons.injEq] at e
    rw[←e.1];decide
   | cons q qs=>
    simp only[List.flatMap_cons,List.cons_append,List.cons.injEq] at e
    rw[←e.1];exact (hd_lines (h q (by simp))).2.2.1)).1
  simp only[List.flatMap_cons,List.cons_append,List.append_assoc,List.map_cons]
  rw[rulL,hd.2.1,if_pos rfl,ht,rulL_skip fun x hx=>(bd_lines x hx).2.1,ih]
theorem syI_all (hY:∀l s,PY l=some s↔YX s=true∧YQ s=l):∀{ss:List Sym} {b:List (List UInt8)} {a:List Sym},(∀s∈ss,YX s=true)→(∀y t,b=y::t→symP.isPrefixOf y=false)→syI PY (ss.map YQ++b) a=some (a++ss,b)
 | [],b,a,_,h=>by
  cases b with
  | nil=>simp[syI]
  | cons y t=>simp[syI,h y t rfl]
 | s::ss,b,a,h1,h2=>by
  have hs:=h1 s (by simp)
  have ih:=syI_all hY (ss:=ss) (b:=b) (a:=a++[s]) (fun y hy=>h1 y (by simp[hy])) h2
  rw[List.map_cons,List.cons_append,syI,if_pos (sy_lines hs).2.2.2,(hY _ _).2 ⟨hs,rfl⟩]
  dsimp only
  rw[ih]
  simp
theorem ruI_all (hR:∀ls r,PR ls=some r↔Zw r=true∧rdR r∧Za r=ls):∀{rs:List Rul} {n:Nat} {a:List Rul},(∀r∈rs,Zw r=true∧rdR r)→(rs.flatMap fun r=>hdT r::bdT r).length ≤ n→ruI PR n (rs.flatMap fun r=>hdT r::bdT r) a=some (a++rs)
 | [],n,a,_,_ => by cases n<;>simp[ruI]
 | r::rs,0,a,_,hn=>by simp at hn
 | r::rs,n+1,a,h,hn=>by
  obtain ⟨hv,hr⟩:=h r (by simp)
  have ht:=tw_all (p:=fun x=> !ruP.isPrefixOf x) (a:=bdT r) (b:=rs.flatMap fun r=>hdT r::bdT r) (fun x hx=>by simp only[(bd_lines x hx).2.2.2.2];rfl) (fun y t e=>by
   cases rs with
   | nil=>cases e
   | cons q qs=>
    simp only[List.flatMap_cons,List.cons_append,List.cons.injEq] at e
    rw[←e.1,(hd_lines (h q (by simp)).1).2.2.2.2];rfl)
  have ih:=ruI_all hR (rs:=rs) (n:=n) (a:=a++[r]) (fun x hx=>h x (by simp[hx])) (by simp only[List.flatMap_cons,List.length_append,List.length_cons] at hn;omega)
  have hp:=(hR (hdT r::bdT r) r).2 ⟨hv,hr,fmtR_eq hv⟩
  rw[List.flatMap_cons,List.cons_append,ruI,ht.1,ht.2,hp]
  dsimp only
  rw[ih]
  simp
theorem ruI_rd (hR:∀ls r,PR ls=some r↔Zw r=true∧rdR r∧Za r=ls):∀{n:Nat} {t:List (List UInt8)} {a b:List Rul},ruI PR n t a=some b→(∀r∈a,rdR r)→∀r∈b,rdR r
 | n,[],a,b,h,ha=>by
  have:a=b:=by cases n<;>simpa[ruI] using h
  rw[←this];exact ha
 | 0,_ :: _,a,b,h,ha=>by cases h
 | n+1,l::t,a,b,h,ha=>by
  rw[ruI] at h
  split at h
  ·cases h
  ·rename_i r hr
   refine ruI_rd hR h fun x hx=> ?_
   rcases List.mem_append.1 hx with hx|hx
   ·exact ha x hx
   ·rw[List.mem_singleton.1 hx];exact ((hR _ _).1 hr).2.1
theorem rulL_rd (hR:∀ls r,PR ls=some r↔Zw r=true∧rdR r∧Za r=ls):∀{ls:List (List UInt8)},∀r∈rulL PR ls,Zw r=true→rdR r
 | [],r,h,_ => by cases h
 | l::t,r,h,hv=>by
  rw[rulL] at h
  split at h
  ·rcases List.mem_cons.1 h with h|h
   ·cases hp:PR (l::t.takeWhile Ys) with
    | none=>rw[hp] at h;have e:r=rulZ:=h;rw[e] at hv;exact absurd hv (by decide)
    | some q=>rw[hp] at h;subst h;exact ((hR _ _).1 hp).2.1
   ·exact rulL_rd hR r h hv
  ·exact rulL_rd hR r h hv
theorem fmtG_parts {g:Gram} {s:List UInt8} (h:fmtG g=s) (hs:s≠[]):vG g∧gT g=s:=by
 unfold fmtG at h
 split at h
 ·rename_i hv;exact ⟨hv,h⟩
 ·exact absurd h.symm hs
theorem parGS_some (hY:∀l s,PY l=some s↔YX s=true∧YQ s=l) (hR:∀ls r,PR ls=some r↔Zw r=true∧rdR r∧Za r=ls) {s:List UInt8} {g:Gram}:YR PY PR s=some g↔vG g∧(∀r∈g.rules,rdR r)∧gT g=s∧s≠[]:=by
 constructor
 ·intro h
  unfold YR at h
  split at h
  ·rename_i hf
   have hg:=Option.some.inj h
   obtain ⟨hv,ht⟩:=fmtG_parts hf.2 hf.1
   rw[hg] at hv ht
   refine ⟨hv,fun r hr=> ?_,ht,hf.1⟩
   have hr2:r∈rulL PR (spl 10 s):=by rw[←hg] at hr;exact hr
   exact rulL_rd hR r hr2 (hv.2 r hr)
  ·cases h
 ·rintro ⟨hv,hr,rfl,hs⟩
  have hl:spl 10 (gT g)=gLn g++[[]]:=spl_lines (gLn_no hv)
  have hg:grS PY PR (gT g)=g:=by
   have e1:(spl 10 (gT g)).filter isSy=g.syms.map YQ:=by
    rw[hl]
    unfold gLn
    rw[List.filter_append,List.filter_append,List.filter_eq_self.2,List.filter_eq_nil_iff.2]
    ·simp[isSy,stS,symP]
    ·intro l hl
     obtain ⟨r,hr,hl⟩:=List.mem_flatMap.1 hl
     rcases List.mem_cons.1 hl with rfl|hl
     ·simp[(hd_lines (hv.2 r hr)).1]
     ·simp[(bd_lines l hl).1]
    ·intro l hl
     obtain ⟨y,hy,rfl⟩:=List.mem_map.1 hl
     exact (sy_lines (hv.1 y hy)).1
   have e2:(g.syms.map YQ).map (fun l=>(PY l).getD symZ)=g.syms:=by
    rw[List.map_map]
    conv=>rhs;rw[←List.map_id g.syms]
    exact List.map_congr_left fun y hy=>by
     show (PY (YQ y)).getD symZ=y
     rw[(hY _ _).2 ⟨hv.1 y hy,rfl⟩];rfl
   have e3:rulL PR (spl 10 (gT g))=g.rules:=by
    rw[hl]
    unfold gLn
    rw[List.append_assoc,rulL_skip,rulL_all hv.2]
    ·conv=>rhs;rw[←List.map_id g.rules]
     exact List.map_congr_left fun r h=>by
      rw[(hR (hdT r::bdT r) r).2 ⟨hv.2 r h,hr r h,fmtR_eq (hv.2 r h)⟩];rfl
    ·intro l hl
     obtain ⟨y,hy,rfl⟩:=List.mem_map.1 hl
     exact (sy_lines (hv.1 y hy)).2.1
   unfold grS
   rw[e1,e2,e3]
  unfold YR
  rw[hg,if_pos ⟨hs,by unfold fmtG;rw[if_pos hv]⟩]
theorem parGI_some (hY:∀l s,PY l=some s↔YX s=true∧YQ s=l) (hR:∀ls r,PR ls=some r↔Zw r=true∧rdR r∧Za r=ls) {s:List UInt8} {g:Gram}:parGI PY PR s=some g↔vG g∧(∀r∈g.rules,rdR r)∧gT g=s∧s≠[]:=by
 constructor
 ·intro h
  unfold parGI at h
  split at h
  ·rename_i hl
   have hs:s≠[]:=fun e=>by rw[e] at hl;cases hl
   split at h
   ·cases h
   ·rename_i x hx
    split at h
    ·cases h
    ·rename_i b hb
     split at h
     ·rename_i hf
      have hg:=Option.some.inj h
      obtain ⟨hv,ht⟩:=fmtG_parts hf hs
      rw[hg] at hv ht
      refine ⟨hv,fun r hr=> ?_,ht,hs⟩
      have hr2:r∈b:=by rw[←hg] at hr;exact hr
      exact ruI_rd hR hb (by simp) r hr2
     ·cases h
  ·cases h
 ·rintro ⟨hv,hr,rfl,hs⟩
  have hne:gLn g≠[]:=fun e=>hs (by unfold gT;rw[e];rfl)
  have hl:spl 10 (gT g).dropLast = gLn g:=spl_lines' hne (gLn_no hv)
  have hla:(gT g).getLast? = some 10:=by
   unfold gT
   obtain ⟨a,l,e⟩:=List.eq_nil_or_concat (gLn g) |>.resolve_left hne
   rw[e]
   simp
  have h1:=syI_all hY (ss:=g.syms) (b:=g.rules.flatMap fun r=>hdT r::bdT r) (a:=[]) hv.1 (fun y t e=>by
   cases hrs:g.rules with
   | nil=>rw[hrs] at e;cases e
   | cons q qs=>
    rw[hrs] at e
    simp only[List.flatMap_cons,List.cons_append,List.cons.injEq] at e
    rw[←e.1];exact (hd_lines (hv.2 q (by rw[hrs];simp))).2.2.2.1)
  have h2:=ruI_all hR (rs:=g.rules) (n:=(g.rules.flatMap fun r=>hdT r::bdT r).length) (a:=[]) (fun r h=>⟨hv.2 r h,hr r h⟩) (Nat.le_refl _)
  unfold parGI
  rw[if_pos hla,hl]
  unfold gLn
  rw[h1]
  dsimp only
  rw[h2]
  dsimp only
  have e:(⟨[]++g.syms,[]++g.rules⟩:Gram)=g:=rfl
  rw[e,if_pos (by unfold fmtG;rw[if_pos hv])]
end
end Go.Gh
namespace Go.Gh
open Go.Lib
namespace Fo
def txt (g:Gram):Fo→List UInt8
 | nil=>[]
 | cons _ r l ks rest=>32::(((40::Z9 r)++(if (fRul g.rules r).lit = true then 32::itoa l else []))++(ks.txt g++[41]))++rest.txt g
end Fo
section
variable (g:Gram) (ni:List UInt8→Int×Bool) (first:Int)
variable {g ni first}
end
end Go.Gh
namespace Go.Gh
open Go.Lib
section
variable (g:Gram) (ni:List UInt8→Int×Bool) (first:Int)
variable {g ni first}
end
section
variable (g:Gram) (ni:List UInt8→Int×Bool) (first:Int)
variable {g ni first}
end
end Go.Gh
namespace Go.Gh
open Go.Lib
theorem spl_dec {b:UInt8} (l:List UInt8):(b∉l∧spl b l=[l])∨∃w t,b∉w∧l=w++b::t∧spl b l=w::spl b t:=by
 induction l with
 | nil=>exact .inl ⟨by simp,rfl⟩
 | cons c l ih=>
  by_cases hc:c=b
  ·subst hc
   exact .inr ⟨[],l,by simp,rfl,by simp[spl]⟩
  ·rcases ih with ⟨h1,h2⟩|⟨w,t,h1,h2,h3⟩
   ·have h4:b∉c::l:=fun h=>by
     rcases List.mem_cons.1 h with h|h
     ·exact hc h.symm
     ·exact h1 h
    exact .inl ⟨h4,spl_one h4⟩
   ·have h4:b∉c::w:=fun h=>by
     rcases List.mem_cons.1 h with h|h
     ·exact hc h.symm
     ·exact h1 h
    refine .inr ⟨c::w,t,h4,by rw[h2];rfl,?_⟩
    rw[h2,←List.cons_append,XZ h4]
theorem index_no {b:UInt8}:∀{l:List UInt8},b∉l→index l [b] = -1
 | [],_ => rfl
 | c::l,h=>by
  have h1:¬b=c:=fun e=>h (by subst e;exact List.mem_cons_self)
  have ih:=index_no (l:=l) fun e=>h (List.mem_cons_of_mem _ e)
  have h3:List.isPrefixOf [b] (c::l)=false:=by simp[List.isPrefixOf,h1]
  simp only[index,h3,Bool.false_eq_true,if_false,ih]
  rfl
theorem Xz {b:UInt8} (l:List UInt8):(spl b l).length ≤ l.length+1:=by
 induction l with
 | nil=>simp[spl]
 | cons c l ih=>
  simp only[spl]
  split
  ·simp only[List.length_cons];omega
  ·split
   ·simp
   ·rename_i w ws h
    rw[h] at ih
    simp only[List.length_cons] at ih ⊢;omega
theorem splK_spl {b:UInt8}:∀(k:Nat) (l:List UInt8),(spl b l).length ≤ k+1→splitK [b] 0 k l=spl b l
 | 0,l,h=>by
  rcases spl_dec (b:=b) l with ⟨_,h2⟩|⟨w,t,_,_,h3⟩
  ·rw[h2];rfl
  ·rw[h3] at h
   have:=List.length_pos_iff.2 (spl_ne b t)
   simp only[List.length_cons] at h
   omega
 | k+1,l,h=>by
  rcases spl_dec (b:=b) l with ⟨h1,h2⟩|⟨w,t,h1,h2,h3⟩
  ·rw[h2]
   simp[splitK,index_no h1]
  ·have hi:index l [b]=w.length:=by
    have:=index_at (p:=[]) (b:=t) h1
    rwa [List.nil_append,←h2] at this
   rw[h3] at h
   have ih:=splK_spl (b:=b) k t (by simp only[List.length_cons] at h;omega)
   have hd:l.drop (w.length+1)=t:=by rw[h2];simp
   have ht:l.take w.length=w:=by rw[h2];simp
   rw[h3]
   simp only[splitK,hi]
   rw[if_neg (by simp<;>omega)]
   simp only[Int.toNat_natCast,Nat.add_zero,List.length_singleton,hd,ht,ih]
theorem splitN_spl {b:UInt8} {n:Nat} (hn:1≤n) {l:List UInt8} (h:(spl b l).length ≤ n):splitN l [b] n=spl b l:=by
 have:=Xz (b:=b) l
 exact splK_spl _ _ oT
theorem spl_count {b:UInt8} (l:List UInt8):(spl b l).length = l.count b+1:=by
 induction l with
 | nil=>simp[spl]
 | cons c l ih=>
  simp only[spl]
  split
  ·rename_i h
   subst h
   simp[ih]
  ·rename_i h
   rw[List.count_cons_of_ne h]
   split
   ·rename_i h2;exact absurd h2 (spl_ne b l)
   ·rename_i w ws h2
    rw[h2] at ih
    simpa using ih
theorem split_spl {b:UInt8} (l:List UInt8):split l [b]=spl b l:=splK_spl _ _ (by rw[count_one,spl_count];exact Nat.le_refl _)
end Go.Gh
namespace Go.Gh
open Go.Lib
def sgnV (l:List UInt8):Int:=match l with
 | []=>0
 | c::t=>if c=45 then -(Y8 t) else Y8 (c::t)
def rdN (lo hi:Int) (l:List UInt8):Int×Bool:=if itoa (sgnV l)=l∧lo≤sgnV l∧sgnV l≤hi then (sgnV l,true) else (0,false)
theorem sgnV_itoa (n:Int):sgnV (itoa n)=n:=by
 by_cases h:n<0
 ·have e:itoa n=45::decDigits n.natAbs:=by
   unfold itoa
   rw[if_pos h]
  rw[e]
  show (if (45:UInt8)=45 then -(Y8 (decDigits n.natAbs)) else Y8 (45::decDigits n.natAbs))=n
  rw[if_pos rfl,valD_dec]
  omega
 ·rw[XO oT]
  have hd:=dec_dig n.toNat
  have hv:=valD_dec n.toNat
  cases hx:decDigits n.toNat with
  | nil=>exact absurd hx hd.2
  | cons c t=>
   have hc:=digV_rng (hd.1 c (by rw[hx];simp))
   have h1:¬c=45:=fun e=>by subst e;revert hc;decide
   show (if c=45 then -(Y8 t) else Y8 (c::t))=n
   rw[if_neg h1,←hx,hv]
   omega
theorem rdN_itoa {lo hi n:Int} (h1:lo≤n) (h2:n≤hi):rdN lo hi (itoa n)=(n,true):=by
 unfold rdN
 rw[sgnV_itoa,if_pos ⟨rfl,h1,h2⟩]
theorem rdN_no {lo hi:Int} {l:List UInt8} (h:∀n,lo≤n→n≤hi→itoa n≠l):rdN lo hi l=(0,false):=by
 unfold rdN
 rw[if_neg]
 rintro ⟨h1,h2,h3⟩
 exact h _ h2 h3 h1
def nmN:List UInt8→Int×Bool:=rdN 0 999999
theorem nmN_ok:∀n:Int,0≤n→n≤3→nmN (itoa n)=(n,true):=fun n h0 h3=>rdN_itoa h0 oT
end Go.Gh
namespace Go.Gh
open Lib
abbrev U8 (b:UInt8):GV:= .val (.int .u8 b.toNat)
theorem bytesG_map:∀l:List UInt8,XY (l.map U8)=some l
 | []=>rfl
 | b::l=>by
  rw[List.map_cons]
  show (XY (l.map U8)).map (UInt8.ofNat (b.toNat:Int).toNat :: ·) = _
  rw[bytesG_map l]
  simp
theorem clean_U8:∀l:List UInt8,Yf (l.map U8)=true
 | []=>rfl
 | b::l=>by
  rw[List.map_cons]
  show (true&&Yf (l.map U8))=true
  rw[clean_U8 l]
  rfl
theorem soT_U8 (l:List UInt8):soT (some (1,l.map U8)) 1 1 0 l.length=some (l.map U8):=by
 have e:(l.map U8).take l.length=l.map U8:=List.take_of_length_le (by rw[List.length_map];exact Nat.le_refl _)
 unfold soT
 dsimp only
 rw[List.drop_zero,e,if_pos ⟨rfl,rfl,by rw[List.length_map];omega,clean_U8 l⟩]
theorem takeU8 (l:List UInt8):(l.map U8).take l.length=l.map U8:=List.take_of_length_le (by rw[List.length_map];exact Nat.le_refl _)
theorem stop_aidx {P:Program} {n:Nat} {x y:GE} {d:Option Nat} {is:List GI} {K:Env→GH→Prop} {env:Env} {H:GH} {gs:List GV} {k:IntKind} {i:Int} {g:GV} (hx:ge env x=some (.agg gs)) (hy:ge env y=some (.val (.int k i)))
 (hg:gs[i.toNat]? = some g) (h0:0≤i) (h1:i<n) (hk:Z6 P is K (gput env d g) H):stopS P (.aidx n x y) d is K env H:=by
 show ZS P (.aidx n x y) env H _
 simp only[ZS,Z0,ZX,hx,hy,hg]
 exact ⟨h0,h1,hk⟩
theorem chA (l:List UInt8):Z9 ⟨l.toArray⟩=l:=by simp[Z9]
theorem join_nil (sep:List UInt8):Zx sep []=[]:=rfl
theorem join_one (sep x:List UInt8):Zx sep [x]=x:=by simp[Zx,Lib.join]
theorem join_snoc (sep:List UInt8):∀(l:List (List UInt8)) (x:List UInt8),l≠[]→Zx sep (l++[x])=Zx sep l++sep++x
 | [],x,h=>absurd rfl h
 | [y],x,_ => by simp[Zx,Lib.join]
 | y::z::l,x,_ => by
  have:=join_snoc sep (z::l) x (by simp)
  have e:∀(a b:List UInt8) (r:List (List UInt8)),Zx sep (a::b::r)=a++(sep++Zx sep (b::r)):=fun a b r=>by simp[Zx,Lib.join]
  rw[List.cons_append,List.cons_append,e,e]
  rw[List.cons_append] at this
  rw[this]
  simp
theorem join_take (sep:List UInt8) {l:List (List UInt8)} {i:Nat} (h:i<l.length):Zx sep (l.take (i+1))=if i=0 then l[i] else Zx sep (l.take i)++sep++l[i]:=by
 rw[List.take_succ_eq_append_getElem h]
 split
 ·rename_i h0
  subst h0
  simp[join_one]
 ·rename_i h0
  exact join_snoc sep _ _ (by intro h1;have:=congrArg List.length h1;rw[List.length_take,List.length_nil] at this;omega)
theorem join_le (sep:List UInt8) (m k:Nat) (hs:sep.length≤k):∀(l:List (List UInt8)),(∀x∈l,x.length≤m)→(Zx sep l).length ≤ l.length * (m+k)
 | [],_ => by simp[join_nil]
 | [x],h=>by
  have:=h x (by simp)
  rw[join_one]
  simp
  omega
 | x::y::l,h=>by
  have h1:=h x (by simp)
  have h2:=join_le sep m k hs (y::l) fun z hz=>h z (by simp[hz])
  have e:Zx sep (x::y::l)=x++(sep++Zx sep (y::l)):=by simp[Zx,Lib.join]
  rw[e]
  simp only[List.length_append,List.length_cons] at h2 ⊢
  rw[Nat.succ_mul]
  omega
def setK (v:Int) (k:Nat):List Nat:=(List.range k).filter fun j=>v.toNat.testBit j
theorem setK_zero (v:Int):setK v 0=[]:=rfl
theorem setK_succ (v:Int) (k:Nat):setK v (k+1)=setK v k++if v.toNat.testBit k=true then [k] else []:=by
 unfold setK
 rw[List.range_succ,List.filter_append]
 congr 1
 simp only[List.filter_cons,List.filter_nil]
theorem setK_len (v:Int) (k:Nat):(setK v k).length ≤ k:=by
 unfold setK
 exact Nat.le_trans (List.length_filter_le _ _) (by simp)
theorem bit_of {v:Int} (h0:0≤v) (h:v≤4095) {k:Nat} (hk:k≤11):andI .i64 (shrI .i64 v k) 1=if v.toNat.testBit k=true then 1 else 0:=by
 have key:∀a,a<64→∀b,b<64→∀k,k<12→andI .i64 (shrI .i64 ((64 * a+b:Nat):Int) (k:Nat)) 1=if (64 * a+b).testBit k=true then 1 else 0:=by decide +kernel
 have:=key (v.toNat / 64) oT (v.toNat % 64) oT k oT
 have e:64 * (v.toNat / 64)+v.toNat % 64=v.toNat:=by omega
 rw[e] at this
 have e2:((v.toNat:Nat):Int)=v:=by omega
 rw[e2] at this
 exact this
abbrev nS (k:Nat):ByteArray:=⟨(itoa (k:Int)).toArray⟩
theorem fmt_eq {e:Exp} (h:Zh e=true):fmtE e=ZZ e:=by unfold fmtE;rw[if_pos h]
theorem okV_con {n t:Int} (hc:(t=1∧0≤n∧n≤1000000)∨(t=2∧0≤n∧n≤4095)∨(t=3∧(n=0∨n=1))):okV n t=true:=by
 have key:∀a,a<64→∀b,b<64→andI .i64 ((64 * a+b:Nat):Int) 4095=((64 * a+b:Nat):Int):=by decide +kernel
 rcases hc with ⟨rfl,h0,h1⟩|⟨rfl,h0,h1⟩|⟨rfl,rfl|rfl⟩
 ·have:satV n=n:=by unfold satV;omega
  simp[okV,coV,this]
 ·have:=key (n.toNat / 64) oT (n.toNat % 64) oT
  have e:64 * (n.toNat / 64)+n.toNat % 64=n.toNat:=by omega
  rw[e] at this
  have e2:((n.toNat:Nat):Int)=n:=by omega
  rw[e2] at this
  simp[okV,coV,this]
 ·decide
 ·decide
theorem lvE_bd (e:Exp):lvE e≤4:=lvE_le e
theorem opW_get {n:Int} (h1:1≤n) (h2:n≤12) (hx:n.toNat<[T ⟨#[]⟩,T ⟨#[43]⟩,T ⟨#[45]⟩,T ⟨#[42]⟩,T ⟨#[109,97,120]⟩,T ⟨#[109,105,110]⟩,T ⟨#[124]⟩,T ⟨#[38]⟩,T ⟨#[92]⟩,T ⟨#[60]⟩,T ⟨#[61,61]⟩,T ⟨#[104,97,115]⟩,T ⟨#[119,105,116,104]⟩].length):[T ⟨#[]⟩,T ⟨#[43]⟩,T ⟨#[45]⟩,T ⟨#[42]⟩,T ⟨#[109,97,120]⟩,T ⟨#[109,105,110]⟩,T ⟨#[124]⟩,T ⟨#[38]⟩,T ⟨#[92]⟩,T ⟨#[60]⟩,T ⟨#[61,61]⟩,T ⟨#[104,97,115]⟩,T ⟨#[119,105,116,104]⟩][n.toNat]'hx = T (opW n):=by
 have:=mem12 h1 h2
 simp only[List.mem_cons,List.not_mem_nil,or_false] at this
 rcases this with rfl|rfl|rfl|rfl|rfl|rfl|rfl|rfl|rfl|rfl|rfl|rfl<;>rfl
theorem opLv_cases (n:Int):Zv n=1∨Zv n=2∨Zv n=3∨Zv n=4:=by
 unfold Zv
 split
 ·exact .inl rfl
 ·split
  ·exact .inr (.inl rfl)
  ·split
   ·exact .inr (.inr (.inl rfl))
   ·exact .inr (.inr (.inr rfl))
theorem lvE_4 {e:Exp} (h:e.kind=4):lvE e=Zv e.n:=by unfold lvE;rw[if_neg oT,if_pos h]
structure IsOp (e a b:Exp):Prop where
 k:e.kind=4
 n0:1≤e.n
 n1:e.n≤12
 a:e.args=[a,b]
theorem IsOp.txt {e a b:Exp} (h:IsOp e a b) (h2:e = .mk 4 e.n 0 0 noS noS [a,b]):ZZ e=if Zv e.n=4 then Z9 (opW e.n)++40::(ZZ a++[44,32]++ZZ b++[41]) else oprT (max (Zv e.n) 2) a++32::(Z9 (opW e.n)++32::oprT (Zv e.n+1) b):=by
 rw[h2]
 split
 ·rename_i h4;exact txt_fun _ h.n0 h.n1 a b h4
 ·rename_i h4;exact txt_op _ h.n0 h.n1 a b h4
end Go.Gh
namespace Go.Gh
open Lib
abbrev PaG (ts:List Tok) (i:Nat) (b:Bool):GV:= .agg [TkS ts,I i,B b]
def PR.at {α:Type}:PR α→Nat
 | .bad i=>i
 | .ok _ i=>i
def PR.err {α:Type}:PR α→Bool
 | .bad _ => true
 | .ok _ _ => false
def PR.val {α:Type} (z:α):PR α→α
 | .bad _ => z
 | .ok a _ => a
def frm {α:Type} (b:Bool) (P:Nat→PR α) (i:Nat):PR α:=if b=true then .bad i else P i
theorem frm_t {α:Type} (P:Nat→PR α) (i:Nat):frm true P i = .bad i:=rfl
theorem Ze {α:Type} (P:Nat→PR α) (i:Nat):frm false P i=P i:=rfl
theorem take_t {ts:List Tok} {i:Nat} {w:ByteArray} (h:sees ts i w=true):ZY ts i w = .ok () (i+1):=by unfold ZY;rw[if_pos h]
theorem take_f {ts:List Tok} {i:Nat} {w:ByteArray} (h:sees ts i w=false):ZY ts i w = .bad i:=by unfold ZY;rw[if_neg (by rw[h];decide)]
def okTs (ts:List Tok):Prop:=∀t∈ts,(t.kind=1→shp (Z9 t.text)=true)∧(Z9 t.text).length ≤ 8
def opB (ts:List Tok) (b:Bool) (i lv:Nat):Int:=if b=true then 0 else opAt ts i lv
theorem opB_ge {ts:List Tok} {i:Nat} (h:ts.length≤i) (lv:Nat):opB ts false i lv=0:=by
 have hs:∀w,sees ts i w=false:=fun w=>by unfold sees;rw[decide_eq_false oT];rfl
 unfold opB opAt
 simp[hs]
theorem isW_nm {t:Tok} {w:ByteArray} (h:t.kind=1→shp (Z9 t.text)=true) (hw:shp (Z9 w)=false):isW t w=(isK (3,0,t.text) w&&decide (t.kind=3)):=by
 unfold isW isK
 by_cases h1:t.kind=1
 ·have:¬t.text=w:=fun e=>by have:=h h1;rw[e,hw] at this;cases this
  simp[h1,this]
 ·by_cases h3:t.kind=3
  ·simp[h1,h3]
  ·simp[h1,h3]
theorem opB_lt {ts:List Tok} (ht:okTs ts) {i:Nat} (h:i<ts.length) (lv:Nat):opB ts false i lv=if ts[i].kind = 3 then opKy (3,0,ts[i].text) lv else 0:=by
 have hs:∀w,shp (Z9 w)=false→sees ts i w=(isK (3,0,ts[i].text) w&&decide (ts[i].kind = 3)):=fun w hw=>by
  unfold sees
  rw[decide_eq_true h,Zc h,Bool.true_and,isW_nm (ht _ (List.getElem_mem h)).1 hw]
 unfold opB opAt
 simp only[hs ⟨#[60]⟩ (by decide),hs ⟨#[61,61]⟩ (by decide),hs ⟨#[43]⟩ (by decide),hs ⟨#[45]⟩ (by decide),hs ⟨#[124]⟩ (by decide),hs ⟨#[92]⟩ (by decide),hs ⟨#[42]⟩ (by decide),hs ⟨#[38]⟩ (by decide)]
 by_cases hk:ts[i].kind = 3
 ·simp[hk,opKy]
 ·simp[hk]
end Go.Gh
namespace Go.Gh
theorem St.frz {w:World} {D:Nat→Prop} {H:GH} {Ω:List Nat} (h:St w D H Ω) {r sz:Nat} {es:List GV} (hr:Z7 H r=some (sz,es)) :
 ∃D' Ω',St w D' (Z3 H r (Zn es)) Ω'∧(∀b,D b→D' b)∧(∀b,D' b→D b∨b∈Ω)∧∀b∈Ω',b∈Ω:=by
 obtain ⟨Ω1,F,Ω2,hΩ,hR,hput,_⟩:=HM.take h.hm hr
 rcases hR with ⟨b,c,T,fz,F',k1,k2,k3,k4,k5,k6,k7⟩|⟨k1,k2,k3⟩
 ·subst k6
  have hnd:=h.nd
  rw[hΩ] at hnd
  have hRM:RM w (fun x=>D x∨x∈F') r sz (Zn es) [b]:=
   .inl ⟨b,c,T,fz,[],k1,k2,k3,by simpa[YZ] using k4,by simpa[YZ] using k5,rfl,by
    have:=MF.view (D':=fun x=>D x∨x∈F') (fun _ => .inl) sz es _ F' (fun x hx=> .inr hx) k7
    simpa[YZ] using this⟩
  have hfin:=hput w (fun x=>D x∨x∈F') (fun _ => True) _ _ (Kept.refl _ _) (fun _ _ => trivial) (fun _ => .inl) (fun _ _ => trivial) hRM
  have hsub:(Ω1++([b]++Ω2)).Sublist (Ω1++((b::F')++Ω2)):=by
   refine List.Sublist.append (List.Sublist.refl _) (List.Sublist.append ?_ (List.Sublist.refl _))
   simp
  refine ⟨fun x=>D x∨x∈F',_,⟨hfin,hnd.sublist hsub,by rw[XW];exact h.nn,?_,?_⟩,fun _ => .inl,?_,fun x hx=>by rw[hΩ];exact hsub.subset hx⟩
  ·intro x hx hD
   rcases hD with hD|hD
   ·exact h.dj x (by rw[hΩ];exact hsub.subset hx) hD
   ·have hc:=List.nodup_iff_count.1 hnd x
    have h1:=List.count_pos_iff.2 hx
    have h2:=List.count_pos_iff.2 hD
    simp only[List.count_append,List.count_cons,List.count_nil] at hc h1
    omega
  ·intro x hD
   rcases hD with hD|hD
   ·exact h.ds x hD
   ·exact HM.flt h.hm x (by rw[hΩ];simp[hD])
  ·intro x hD
   rcases hD with hD|hD
   ·exact .inl hD
   ·exact .inr (by rw[hΩ];simp[hD])
 ·subst k2 k3
  have hfin:=hput w D (fun _ => True) [] [] (Kept.refl _ _) (fun _ _ => trivial) (fun _ h=>h) (fun _ _ => trivial) (.inr ⟨k1,rfl,rfl⟩)
  refine ⟨D,Ω,⟨?_,h.nd,by rw[XW];exact h.nn,h.dj,h.ds⟩,fun _ h=>h,fun _ => .inl,fun _ h=>h⟩
  rw[hΩ];exact hfin
theorem FE.frz {env:Env} {H:GH} {r sz:Nat} {es:List GV} (hr:Z7 H r=some (sz,es)):FE env H env (Z3 H r (Zn es)):=by
 intro w0 D0 O0 N a w ⟨hdf,hsz,D,Ω,ρw,hi⟩
 obtain ⟨D',Ω',h1,h2,h3,h4⟩:=hi.st.frz hr
 refine ⟨hdf,hsz,D',Ω',ρw,fun i g hg hn=> ?_,hi.rw,hi.ri,fun i b hb=> ?_,h1,hi.ev.trans ⟨h2,fun b _ hD=>h3 b hD,fun b hb _ => h4 b hb,Kept.refl _ _,rfl,rfl,rfl⟩⟩
 ·obtain ⟨v,m1,m2⟩:=hi.em i g hg hn
  exact ⟨v,m1,m2.more h2⟩
 ·obtain ⟨r1,r2,r3,r4⟩:=hi.rd i b hb
  exact ⟨fun hD=>(h3 b hD).elim r1 r2,fun h=>r2 (h4 b h),r3,r4⟩
theorem FE.frzV {env:Env} {H:GH} {r sz:Nat} {es es':List GV} (hv:Zn es=es'):FE env ((r,sz,es)::H) env ((r,sz,es')::H):=by
 subst hv
 have:=FE.frz (env:=env) (H:=(r,sz,es)::H) (r:=r) (sz:=sz) (es:=es) (by simp[Z7])
 simpa[Z3] using this
theorem MV.nil_sl {w:World} {D:Nat→Prop} {sz:Nat}:∀v F,MV w D (.val (.slice none 0 0)) v F→MV w D (.sl sz []) v F:=fun v F h=>by
 simp only[MV] at h ⊢
 exact ⟨h.2,.inl ⟨trivial,_,_,h.1⟩⟩
theorem FR.front {g g':GV} {L H:GH} (hb:Bor L g g'):FR g (L++H) g' H:=by
 intro w D Ω v hv hst
 obtain ⟨Ω1,Ω2,rfl,h1,h2⟩:=HM.parted hst.hm
 have hnd:=List.nodup_append.1 hst.nd
 have hnn:=hst.nn
 simp only[names,List.map_append] at hnn
 have hnn':=List.nodup_append.1 hnn
 have hs1:St w D L Ω1:=⟨h1,hnd.1,hnn'.1,fun b hb=>hst.dj b (by simp[hb]),hst.ds⟩
 refine ⟨fun b=>D b∨b∈Ω1,Ω2,hb w D Ω1 v hs1 hv,⟨HM.keep (S:=fun _ => True) (Kept.refl _ _) (fun _ _ => trivial) (fun _ => .inl) (fun _ _ => trivial) h2,hnd.2.1,hnn'.2.1,fun b hb hD=> ?_,fun b hD=> ?_⟩,
  ⟨fun _ => .inl,fun b _ hD=>hD.elim .inl fun h=> .inr (by simp[h]),fun b hb _ => by simp[hb],Kept.refl _ _,rfl,rfl,rfl⟩⟩
 ·rcases hD with hD|hD
  ·exact hst.dj b (by simp[hb]) hD
  ·exact hnd.2.2 b hD b hb rfl
 ·rcases hD with hD|hD
  ·exact hst.ds b hD
  ·exact HM.flt hst.hm b (by simp[hD])
abbrev Bs (bs:List UInt8):GV:= .sl 1 (bs.map fun b=> .val (.int .u8 b.toNat))
abbrev Cu (bs:List UInt8) (i h:Int):GV:= .agg [Bs bs,I i,I h]
def isC (e:GV):Prop:=∃bs i h,e=Cu bs i h∧0≤i∧i≤bs.length∧bs.length≤9223372036854775807
theorem MF.u8 {w:World} {D:Nat→Prop}:∀(bs:List UInt8),MF w D 1 (bs.map fun b=>GV.val (.int .u8 b.toNat)) (bs.map fun b=>Value.int .u8 b.toNat) []
 | []=>by simp[MF]
 | b::bs=>by
  simp only[List.map_cons,MF]
  exact ⟨.int .u8 b.toNat,_,[],[],rfl,rfl,by intro x hx;simp[Value.cells] at hx;subst hx;rfl,rfl,by simp[MV],MF.u8 bs⟩
theorem MV.cur {w : World} {D : Nat → Prop} {v : Value} {F : List Nat} (h : MV w D .cur v F) : ∃ e, isC e ∧ MV w D e v F := by
  simp only [MV] at h
  obtain ⟨rfl, bs, i, n, sv, rfl, h1, h2, h3⟩ := h
  refine ⟨Cu bs i n, ⟨bs, i, n, rfl, h1, h2, by rcases h3 with ⟨rfl, _⟩ | ⟨_, _, _, _, _, h, _⟩
                                                · simp
                                                · exact h⟩, ?_⟩
  simp only [MV]
  refine ⟨[sv, .int .i64 i, .int .i64 n], rfl, ?_, ?_⟩
  · have : sv.oneCell' = true := by
      rcases h3 with ⟨_, a, cap, rfl⟩ | ⟨b, off, cap, rfl, _⟩ <;> rfl
    simp [this]
    exact ⟨rfl, rfl⟩
  · simp only [ML]
    refine ⟨sv, _, [], [], rfl, rfl, ?_, _, _, [], [], rfl, rfl, by simp [MV], _, _, [], [], rfl, rfl, by simp [MV], rfl, rfl⟩
    simp only [MV]
    refine ⟨trivial, ?_⟩
    rcases h3 with ⟨rfl, h3⟩ | ⟨b, off, cap, k1, k2, k3, k4, k5⟩
    · exact .inl ⟨rfl, h3⟩
    · exact .inr ⟨b, off, cap, _, by simpa using k1, by simpa using k2, by simpa using k3, k4, k5, MF.u8 bs⟩
theorem St.exch1 {w:World} {D:Nat→Prop} {H:GH} {Ω:List Nat} (h:St w D H Ω) {r sz i:Nat} {es:List GV} {e:GV} {p:GV→Prop} (hr:Z7 H r=some (sz,es)) (he:es[i]? = some e) (hx:∀v F,MV w D e v F→∃e',p e'∧MV w D e' v F) :
 ∃e',p e'∧St w D (Z3 H r (es.set i e')) Ω:=by
 obtain ⟨Ω1,F',Ω2,hΩ,hR,hput,_⟩:=HM.take h.hm hr
 obtain ⟨b,c,T,fz,F0,k1,k2,k3,k4,k5,k6,k7⟩:=hR.es_ne (fun e=>by rw[e] at he;simp at he)
 obtain ⟨pre,v,post,A1,Ai,A2,m1,m2,m3,m4,m5,m6,m7⟩:=MF.split sz es _ F0 i _ k7 he
 obtain ⟨e',hp,hx⟩:=hx _ _ m6
 have hmf:=m7 w D (fun _ => True) e' v Ai (Kept.refl _ _) (fun _ _ => trivial) (fun _ h=>h) (fun _ _ => trivial) m3 m4 hx
 rw[←m1,←m5] at hmf
 have hRM:RM w D r sz (es.set i e') F':= .inl ⟨b,c,T,fz,F0,k1,k2,k3,by simpa using k4,by simpa using k5,k6,by simpa using hmf⟩
 have hfin:=hput w D (fun _ => True) _ _ (Kept.refl _ _) (fun _ _ => trivial) (fun _ h=>h) (fun _ _ => trivial) hRM
 rw[←hΩ] at hfin
 exact ⟨e',hp,hfin,h.nd,by rw[XW];exact h.nn,h.dj,h.ds⟩
theorem GCalls.open {P:Program} {f:FuncId} {gs:List GV} {rc:Nat} {H:GH} {R:GV→GH→Prop} (h:∀e,isC e→GCalls P f gs ((rc,3,[e])::H) R):GCalls P f gs ((rc,3,[.cur])::H) R:=by
 intro w D Ω args hst hargs
 obtain ⟨e',h1,h2⟩:=hst.exch1 (r:=rc) (i:=0) (sz:=3) (es:=[.cur]) (p:=isC) (by simp[Z7]) rfl fun v F h=>h.cur
 have e:Z3 ((rc,3,[GV.cur])::H) rc ([GV.cur].set 0 e')=(rc,3,[e'])::H:=by simp[Z3]
 rw[e] at h2
 exact h e' h1 w D Ω args h2 hargs
theorem hget_split {r:Nat} {x:Nat×List GV}:∀{H:GH},Z7 H r=some x→∃A B,H=A++(r,x)::B∧r∉names A
 | [],h=>by simp[Z7] at h
 | (q,y)::H,h=>by
  simp only[Z7] at h
  split at h
  ·rename_i e
   subst e
   simp only[Option.some.injEq] at h
   subst h
   exact ⟨[],H,rfl,by simp[names]⟩
  ·rename_i hne
   obtain ⟨A,B,h1,h2⟩:=hget_split h
   exact ⟨(q,y)::A,B,by rw[h1];rfl,by simp only[names,List.map_cons,List.mem_cons,not_or];exact ⟨fun e=>hne e.symm,h2⟩⟩
theorem count_mid {x:Nat} (a b c:List Nat):(a++(b++c)).count x=(b++(a++c)).count x:=by
 simp only[List.count_append];omega
theorem St.mid {w:World} {D:Nat→Prop} {A B:GH} {y:Nat×Nat×List GV} {Ω:List Nat} (h:St w D (A++y::B) Ω):∃Ω',St w D (y::(A++B)) Ω'∧(∀x,x∈Ω'↔x∈Ω):=by
 obtain ⟨Ω1,Ω2,rfl,h1,h2⟩:=HM.parted h.hm
 obtain ⟨r,sz,es⟩:=y
 obtain ⟨F1,F2,rfl,h3,h4⟩:=h2
 refine ⟨F1++(Ω1++F2),⟨⟨F1,_,rfl,h3,HM.append h1 h4⟩,?_,?_,?_,h.ds⟩,fun x=>by simp only[List.mem_append];exact or_left_comm⟩
 ·have:=h.nd
  rw[List.nodup_iff_count] at this ⊢
  intro x;rw[←count_mid];exact this x
 ·have:=h.nn
  simp only[names,List.map_append,List.map_cons] at this ⊢
  rw[List.nodup_iff_count] at this ⊢
  intro x
  have:=this x
  simp only[List.count_append,List.count_cons] at this ⊢
  omega
 ·intro x hx
  exact h.dj x (by simp only[List.mem_append] at hx ⊢;exact or_left_comm.1 hx)
theorem St.mid' {w:World} {D:Nat→Prop} {A B:GH} {y:Nat×Nat×List GV} {Ω:List Nat} (h:St w D (y::(A++B)) Ω):∃Ω',St w D (A++y::B) Ω'∧(∀x,x∈Ω'↔x∈Ω):=by
 obtain ⟨r,sz,es⟩:=y
 obtain ⟨F1,F2,rfl,h3,h4⟩:=h.hm
 obtain ⟨Ω1,Ω2,rfl,h1,h2⟩:=HM.parted h4
 refine ⟨Ω1++(F1++Ω2),⟨HM.append h1 ⟨F1,_,rfl,h3,h2⟩,?_,?_,?_,h.ds⟩,fun x=>by simp only[List.mem_append];exact or_left_comm⟩
 ·have:=h.nd
  rw[List.nodup_iff_count] at this ⊢
  intro x;rw[count_mid];exact this x
 ·have:=h.nn
  simp only[names,List.map_append,List.map_cons] at this ⊢
  rw[List.nodup_iff_count] at this ⊢
  intro x
  have:=this x
  simp only[List.count_append,List.count_cons] at this ⊢
  omega
 ·intro x hx
  exact h.dj x (by simp only[List.mem_append] at hx ⊢;exact or_left_comm.1 hx)
def Dc (P:Program) (f:FuncId) (gs:List GV) (R:GV→GH→Prop):Prop:=
 ∀rc H,GCalls P f (.ptr rc 3 0 0::gs) ((rc,3,[.cur])::H) (fun g H'=>∃H1,R g H1∧H'=H1++(rc,3,[.cur])::H)
abbrev Dv (P:Program) (f:FuncId) (gs:List GV) (R:GV→Prop):Prop:=Dc P f gs (fun g H1=>R g∧H1=[])
theorem Dc.mono {P:Program} {f:FuncId} {gs:List GV} {R R':GV→GH→Prop} (h:Dc P f gs R) (hr:∀g H1,R g H1→R' g H1):Dc P f gs R':=
 fun rc H=>(h rc H).mono fun g H' ⟨H1,h1,h2⟩=>⟨H1,hr g H1 h1,h2⟩
theorem Dc.of {P:Program} {f:FuncId} {gs:List GV} {R:GV→GH→Prop}
 (h:∀rc H,GCalls P f (.ptr rc 3 0 0::gs) ((rc,3,[.cur])::H) (fun g H'=>∃G H1 T L,R G H1∧Bor L g G∧H'=T++H∧subH T (L++(H1++[(rc,3,[.cur])])))):Dc P f gs R:=
 fun rc H=>(h rc H).fr fun g H' ⟨G,H1,T,L,h1,h2,h3,h4⟩=>by
  subst h3
  refine ⟨G,H1++(rc,3,[.cur])::H,FR.trans (FR.perm h4) ?_,H1,h1,rfl⟩
  rw[List.append_assoc,List.append_assoc]
  exact FR.front h2
theorem Dv.of {P:Program} {f:FuncId} {gs:List GV} {R:GV→Prop}
 (h:∀rc H,GCalls P f (.ptr rc 3 0 0::gs) ((rc,3,[.cur])::H) (fun g H'=>∃G T L,R G∧Bor L g G∧H'=T++H∧subH T (L++[(rc,3,[.cur])]))):Dv P f gs R:=
 Dc.of fun rc H=>(h rc H).mono fun g H' ⟨G,T,L,h1,h2,h3,h4⟩=>⟨G,[],T,L,⟨h1,rfl⟩,h2,h3,h4⟩
theorem Dc.at {P:Program} {f:FuncId} {gs:List GV} {R:GV→GH→Prop} (h:Dc P f gs R) {rc:Nat} {H:GH} (hr:Z7 H rc=some (3,[.cur])) :
 GCalls P f (.ptr rc 3 0 0::gs) H (fun g H'=>∃H1,R g H1∧H'=H1++H):=by
 obtain ⟨A,B,rfl,hn⟩:=hget_split hr
 intro w D Ω args hst hargs
 obtain ⟨Ω',h1,h2⟩:=hst.mid
 refine Yld.mono (fun v w' ⟨g,H',D',Ω'',⟨H1,k0,k1⟩,k2,k3,k4⟩=> ?_) (h rc (A++B) w D Ω' args h1 hargs)
 subst k1
 have k3':St w' D' ((H1++[(rc,3,[.cur])])++(A++B)) Ω'':=by simpa using k3
 obtain ⟨Ω3,m1,m2⟩:∃Ω3,St w' D' (H1++(A++(rc,3,[.cur])::B)) Ω3∧∀x,x∈Ω3↔x∈Ω'':=by
  obtain ⟨Ωa,q1,q2⟩:=(show St w' D' (H1++(rc,3,[GV.cur])::(A++B)) Ω'' from k3).mid
  rw[←List.append_assoc] at q1
  obtain ⟨Ωb,q3,q4⟩:=q1.mid'
  rw[List.append_assoc] at q3
  exact ⟨Ωb,q3,fun x=>(q4 x).trans (q2 x)⟩
 exact ⟨g,_,D',Ω3,⟨H1,k0,rfl⟩,k2,m1,
  ⟨k4.d0,fun b hb hD=>(k4.dn b hb hD).imp id (h2 b).1,fun b hb hl=>(h2 b).1 (k4.on b ((m2 b).1 hb) hl),k4.kp.mono fun b _ hb hb'=>hb ((h2 b).1 hb'),k4.os,k4.tape,k4.output⟩⟩
end Go.Gh
namespace Go.Gh
theorem andI_le {a:Int} {m:Nat} (hm:m<2 ^ 62):0≤andI .i64 a m∧andI .i64 a m≤m:=by
 have h1:(BitVec.ofInt 64 a &&& BitVec.ofInt 64 (m:Int)).toNat ≤ m:=by
  rw[BitVec.toNat_and]
  refine Nat.le_trans Nat.and_le_right ?_
  rw[BitVec.toNat_ofInt]
  omega
 have h2:andI .i64 a m=(IntKind.i64).wrap (BitVec.ofInt 64 a &&& BitVec.ofInt 64 (m:Int)).toNat := rfl
 have h3:(IntKind.i64).wrap ((BitVec.ofInt 64 a &&& BitVec.ofInt 64 (m:Int)).toNat : Int)=(BitVec.ofInt 64 a &&& BitVec.ofInt 64 (m:Int)).toNat := by
  have:(((BitVec.ofInt 64 a &&& BitVec.ofInt 64 (m:Int)).toNat : Int))<4611686018427387904:=by
   have:(2:Nat) ^ 62=4611686018427387904:=by decide
   omega
  generalize ((BitVec.ofInt 64 a &&& BitVec.ofInt 64 (m:Int)).toNat)=k at *
  simp only[IntKind.wrap,IntKind.signed,IntKind.bits]
  simp
  omega
 rw[h2,h3]
 omega
def shT (s:ByteArray):Prop:=s.size≤16
abbrev ExN (e:Exp):GV:= .agg [I e.kind,I e.n,I e.pos,I e.type,T e.sym,T e.name,.val (.slice none 0 0)]
abbrev ExR (e:Exp) (r:Nat):GV:= .agg [I e.kind,I e.n,I e.pos,I e.type,T e.sym,T e.name,.own r 7 0 e.args.length]
def ExW (e:Exp) (g:GV) (H1:GH):Prop:=(e.args=[]∧g=ExN e∧H1=[])∨∃r,g=ExR e r∧H1=[(r,7,e.args.map Ex)]
theorem bor_ExN {H:GH} {e:Exp} (h:e.args=[]):Bor H (ExN e) (Ex e):=by
 rw[Zz,h]
 exact .agg (.cons .refl (.cons .refl (.cons .refl (.cons .refl (.cons .refl (.cons .refl (.cons .nil .nil)))))))
theorem bor_ExR {H:GH} {e:Exp} {r:Nat} (h:Z7 H r=some (7,e.args.map Ex)):Bor H (ExR e r) (Ex e):=by
 rw[Zz]
 exact .agg (.cons .refl (.cons .refl (.cons .refl (.cons .refl (.cons .refl (.cons .refl (.cons (Bor.allM view_Ex h rfl) .nil)))))))
theorem ExW.bor {e:Exp} {g:GV} {H1:GH} (h:ExW e g H1):Bor H1 g (Ex e):=by
 rcases h with ⟨h,rfl,rfl⟩|⟨r,rfl,rfl⟩
 ·exact bor_ExN h
 ·exact bor_ExR Z4
theorem Dc.frz {P:Program} {f:FuncId} {gs:List GV} {R:GV→GH→Prop} {p:GV→Prop} (h:Dc P f gs R) (hb:∀g H1,R g H1→∃G,p G∧Bor H1 g G):Dv P f gs p:=fun rc H=>
 (h rc H).fr fun g H' ⟨H1,h1,h2⟩=>by
  subst h2
  obtain ⟨G,k1,k2⟩:=hb g H1 h1
  exact ⟨G,_,FR.front k2,[],⟨k1,rfl⟩,rfl⟩
instance (s:ByteArray):Decidable (shT s):=inferInstanceAs (Decidable (s.size≤16))
theorem Dc.own {P:Program} {f:FuncId} {gs:List GV} {p:Exp→Prop} (h:Dc P f gs (fun g H1=>∃e,p e∧ExW e g H1)):Dc P f gs (fun g H1=>∃e r,p e∧g=ExR e r∧H1=[(r,7,e.args.map Ex)]):=fun rc H=>
 (h rc H).fr fun g H' ⟨H1,⟨e,h1,h2⟩,h3⟩=>by
  subst h3
  rcases h2 with ⟨h0,rfl,rfl⟩|⟨r,rfl,rfl⟩
  ·obtain ⟨v,hv,hn⟩:=Yu (names ((rc,3,[.cur])::H))
   refine ⟨ExR e v,(v,7,[])::(rc,3,[.cur])::H,FR.trans (FR.sub ?_) (FR.addv hv hn),[(v,7,[])],⟨e,v,h1,rfl,by rw[h0];rfl⟩,rfl⟩
   have h5:e.args.length=0:=by rw[h0];rfl
   show Bor [] (ExN e) (.agg [I e.kind,I e.n,I e.pos,I e.type,T e.sym,T e.name,.own v 7 0 e.args.length])
   rw[h5]
   exact .agg (.cons .refl (.cons .refl (.cons .refl (.cons .refl (.cons .refl (.cons .refl (.cons Bor.virt .nil)))))))
  ·exact ⟨_,_,FR.refl _ _,_,⟨e,r,h1,rfl,rfl⟩,rfl⟩
theorem Bor.exch {H:GH} {r sz i:Nat} {es:List GV} {e e' g g':GV} (hr:Z7 H r=some (sz,es)) (he:es[i]? = some e) (hx:∀w D v F,MV w D e v F→MV w D e' v F) (hb:Bor (Z3 H r (es.set i e')) g g'):Bor H g g':=
 fun w D Ω v hst hm=>hb w D Ω v (hst.exch hr he (hx w D)) hm
end Go.Gh
namespace Go.Gh
open Lib
theorem num_lt {ts:List Tok} {i j:Nat} {lo hi n:Int} (h:Zo ts i lo hi = .ok n j):i<ts.length:=by
 unfold Zo at h
 split at h
 ·rename_i hc;exact hc.1
 ·cases h
theorem neA_get {r q:Nat} {x:Nat×List GV}:∀{H:GH},neA r H→Z7 H q=some x→r≠q
 | [],_,h=>by cases h
 | (p,y)::H,hn,h=>by
  simp only[neA] at hn
  simp only[Z7] at h
  split at h
  ·rename_i e;subst e;exact hn.1
  ·exact neA_get hn.2.2 h
abbrev EO (r:Nat) (e:Exp):GV:= .agg [I e.kind,I e.n,I e.pos,I e.type,T e.sym,T e.name,.own r 7 0 e.args.length]
def EP (S:Nat→Bool→GV) (P:PR Exp) (rp:Nat) (H:GH) (g:GV) (H':GH):Prop:=
 ∃e r,g=EO r e∧H'=(r,7,e.args.map ExO)::Z3 H rp [S P.at P.err]∧∀a j,P = .ok a j→e=a
theorem FR.nilE {e:Exp} (he:e.args=[]) (H:GH):∃r,FR (ExN e) H (EO r e) ((r,7,e.args.map ExO)::H):=by
 obtain ⟨r,ho,hq⟩:=Yu (names H)
 refine ⟨r,?_⟩
 have hl:e.args.length=0:=by rw[he];rfl
 show FR (ExN e) H (.agg [I e.kind,I e.n,I e.pos,I e.type,T e.sym,T e.name,.own r 7 0 e.args.length]) ((r,7,e.args.map ExO)::H)
 rw[hl,he]
 exact FR.trans (FR.addv ho hq) (FR.sub (.agg (.cons .refl (.cons .refl (.cons .refl (.cons .refl (.cons .refl (.cons .refl (.cons .virt .nil)))))))))
end Go.Gh
