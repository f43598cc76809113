/- The tied card of the law holds. No condition. -/
import Derived.Test.YtcegkonjphbfaaaGreatDoorLibR3
import Derived.Lib.ItoaNum
import Derived.Lib.LaidTab
import Derived.Sort.Grow
import Derived.Shelf.Strconv.Itoa3
import Derived.Deep.Draws
import Derived.LaidMore
import Derived.OpenShut
import Derived.Stop.Joined
import Derived.SevenTiedAt
import Derived.Shelf.SlSortCmp.NoneTotal
import Derived.Laws.Cover1
import Derived.Deep.RegionHeld3
import Derived.Shelf.SlGeneric
import Derived.Lib.CutLaws
import Derived.Shelf.Strconv.AtoiAll
import Derived.Lib.Bytealg
import Derived.Shelf.Small.Strs
import Derived.Shelf.Strings.OnBuilder
import Derived.Lib.Split
import Derived.Lib.SplitLaws
set_option maxHeartbeats 40000000
set_option maxRecDepth 20000
set_option linter.unusedSimpArgs false
set_option linter.unusedVariables false

namespace Go.Gh
abbrev T (s:ByteArray):GV:= .val (.string s)
theorem chars_inj {s t:ByteArray}:Z9 s=Z9 t↔s=t:=by
 constructor
 ·intro h;obtain ⟨a⟩:=s;obtain ⟨b⟩:=t;simp only[Z9] at h;congr 1;exact Array.ext' h
 ·rintro rfl;rfl
@[ext] structure Nod where
 id:Int
 parent:Int
 place:Int
 lit:Int
 rule:ByteArray
 kids:List Int
deriving DecidableEq
@[ext] structure Slo where
 pos:Int
 name:ByteArray
 val:Int
deriving DecidableEq
abbrev Occ (x:Int×ByteArray):GV:= .agg [I x.1,T x.2]
theorem e_nil (e:Env):subE e []=True:=(rfl)
theorem e_cons (e:Env) (j:Nat) (g:GV) (r:Env):subE e ((j,g)::r)=(ZU e j=some g∧subE e r):=(rfl)
theorem n_val (v:Value):nraw (.val v)=true:=(rfl)
theorem n_sl (sz:Nat) (es:List GV):nraw (.sl sz es)=true:=(rfl)
theorem n_agg (cs:List GV):nraw (.agg cs)=true:=(rfl)
theorem n_rop (sz:Nat) (g:GV):nraw (.rop sz g)=true:=(rfl)
theorem n_ptr (r sz i o:Nat):nraw (.ptr r sz i o)=true:=(rfl)
theorem n_own (r sz k n:Nat):nraw (.own r sz k n)=true:=(rfl)
theorem n_clo (f:Nat) (cs:List GV):nraw (.clo f cs)=true:=(rfl)
theorem n_tup (cs:List GV):nraw (.tup cs)=true:=(rfl)
theorem E2:type_of% (And.intro @e_nil (And.intro @e_cons (And.intro @n_val (And.intro @n_sl (And.intro @n_agg (And.intro @n_rop (And.intro @n_ptr (And.intro @n_own (And.intro @n_clo (And.intro @n_tup (And.intro @x_get @Option.some.injEq.{0}))))))))))):=
 And.intro @e_nil (And.intro @e_cons (And.intro @n_val (And.intro @n_sl (And.intro @n_agg (And.intro @n_rop (And.intro @n_ptr (And.intro @n_own (And.intro @n_clo (And.intro @n_tup (And.intro @x_get @Option.some.injEq.{0}))))))))))
theorem maxLv:Y9=9223372036854775807:=(rfl)
theorem Z2:type_of% (And.intro @Int.ofNat_lt (And.intro @Int.natCast_nonneg (And.intro @true_and (And.intro @u_ext (And.intro @exists_prop_of_true (And.intro @Int.natCast_zero (And.intro @chars_inj (And.intro @Int.natCast_inj (And.intro maxLv (And.intro @not_true_eq_false (And.intro @false_implies (And.intro @true_implies (And.intro @and_true (And.intro @implies_true.{0} @wrap64)))))))))))))):=
 And.intro @Int.ofNat_lt (And.intro @Int.natCast_nonneg (And.intro @true_and (And.intro @u_ext (And.intro @exists_prop_of_true (And.intro @Int.natCast_zero (And.intro @chars_inj (And.intro @Int.natCast_inj (And.intro maxLv (And.intro @not_true_eq_false (And.intro @false_implies (And.intro @true_implies (And.intro @and_true (And.intro @implies_true.{0} @wrap64)))))))))))))
end Go.Gh
namespace Go.Gh
end Go.Gh
namespace Go.Gh
end Go.Gh
namespace Go.Gh
theorem sum_mem {α:Type} (f:α→Nat):∀(l:List α) (x:α),x∈l→f x≤(l.map f).sum
 | y::l,x,h=>by
  simp only[List.map_cons,List.sum_cons]
  rcases List.mem_cons.1 h with rfl|h
  ·omega
  ·have:=sum_mem f l x h;omega
theorem take_eq_step {α:Type} {xs ys:List α} {i:Nat} (hp:xs.take i=ys.take i) (h1:i<xs.length) (h2:i<ys.length) (h:xs[i]=ys[i]):xs.take (i+1)=ys.take (i+1):=by
 rw[List.take_add_one,List.take_add_one,hp,List.getElem?_eq_getElem h1,List.getElem?_eq_getElem h2,h]
end Go.Gh
namespace Go.Gh
theorem exP {p:Prop} {q:p→Prop} (h:p) (hq:q h):∃h,q h:=⟨h,hq⟩
end Go.Gh
namespace Go.Gh
end Go.Gh
namespace Go.Gh
section
variable {P:Program} {α:Type} {f:α→GV} {k kx sz:Nat} {det ag:Bool}
theorem eqS (mxd:P.follows .mixedOrders = true) (hF:IsFun P k ⟨⟨27,[]⟩,
 (.seq (.reg [(.mk (some 4) none (.mov (.k (.val (.bool false)))))]) (.seq (.seq (.reg [(.mk (some 6) none (.mov (.t 0))),(.mk (some 7) none (.len (.t 6))),(.mk (some 8) none (.mov (.t 1))),(.mk (some 9) none (.len
 (.t 8))),(.mk (some 10) none (.bin .neq (.t 7) (.t 9)))]) (.cond 10 (.seq (.reg [(.mk (some 4) none (.mov (.k (.val (.bool false)))))]) .ret) .skip)) (.seq (.seq (.reg [(.mk (some 5) none (.mov (.k (.val (.int .i64
 0)))))]) (.block 0 (.loop (.seq (.seq (.reg [(.mk (some 11) none (.mov (.t 5))),(.mk (some 12) none (.mov (.t 0))),(.mk (some 13) none (.len (.t 12))),(.mk (some 14) none (.bin .lss (.t 11) (.t 13)))]) (.cond 14
 .skip (.exit 0))) (.seq (.block 1 (.seq (.reg [(.mk (some 17) none (.mov (.t 0))),(.mk (some 18) none (.mov (.t 5))),(.mk (some 19) none (.iaddr sz (.t 17) (.t 18))),(.mk (some 21) none (.mov (.t 1))),(.mk (some
 22) none (.mov (.t 5))),(.mk (some 23) none (.iaddr sz (.t 21) (.t 22))),(.mk (some 20) none (.load sz ag (.t 19))),(.mk (some 24) none (.load sz ag (.t 23))),(.mk (some 25) none (.call det kx [(.t 20),(.t
 24)])),(.mk (some 26) none (.not (.t 25)))]) (.cond 26 (.seq (.reg [(.mk (some 4) none (.mov (.k (.val (.bool false)))))]) .ret) .skip))) (.reg [(.mk (some 15) none (.mov (.t 5))),(.mk (some 16) none (.bin .add (.t
 15) (.k (.val (.int .i64 1))))),(.mk (some 5) none (.mov (.t 16)))])))))) (.seq (.reg [(.mk (some 4) none (.mov (.k (.val (.bool true)))))]) .ret)))),[.t 4]⟩)
  [DecidableEq α] (hag:∀a,isAgg (f a)=ag) (hr:∀a,geR (some (f a))=some (f a)) (xs ys:List α) (hx:∀a∈xs,∀b∈ys,Pure P kx [f a,f b] (· = B (decide (a=b)))) :
  Pure P k [.sl sz (xs.map f),.sl sz (ys.map f)] (· = B (decide (xs=ys))):=by
 refine GCalls.lenA fun hl=> ?_
 have hlen:=hl.1.1
 simp only[List.length_map,Y9] at hlen
 refine Z8 mxd hF rfl (by simp) ?_
 ((try simp only[↓ S2,S2,↓reduceIte,Nat.reduceEqDiff,reduceCtorEq,Nat.reduceLeDiff,Nat.reduceAdd,Nat.reduceLT,hr,hag]);(try simp only[Zj];try simp only[↓ S2,S2,↓reduceIte,Nat.reduceEqDiff,reduceCtorEq,Nat.reduceLeDiff,Nat.reduceAdd,Nat.reduceLT,hr,hag]);(try simp +contextual (disch:=omega) only[Z2]);(repeat' (first|(with_reducible intro h)|(with_reducible refine And.intro (by omega) ?_)|(with_reducible refine exP (by omega) ?_)|(with_reducible apply And.intro))))
 rotate_left
 ·simp;rintro rfl;exact h rfl
 refine Zk mxd (ι:={ i:Nat // i≤xs.length∧xs.take i=ys.take i }) (fun i=>[(0,.sl sz (xs.map f)),(1,.sl sz (ys.map f)),(5,I i.1)]) (fun _ => []) (fun i=>xs.length-i.1) ⟨0,by simp⟩ (by simp[E2]) rfl ?_
 rintro ⟨i,hi,hp⟩
 ((try simp only[↓ S2,S2,↓reduceIte,Nat.reduceEqDiff,reduceCtorEq,Nat.reduceLeDiff,Nat.reduceAdd,Nat.reduceLT,hr,hag]);(try simp only[Zj];try simp only[↓ S2,S2,↓reduceIte,Nat.reduceEqDiff,reduceCtorEq,Nat.reduceLeDiff,Nat.reduceAdd,Nat.reduceLT,hr,hag]);(try simp +contextual (disch:=omega) only[Z2]);(repeat' (first|(with_reducible intro h)|(with_reducible refine And.intro (by omega) ?_)|(with_reducible refine exP (by omega) ?_)|(with_reducible apply And.intro))))
 ·refine callS.eq (hx xs[i] (List.getElem_mem _) ys[i] (List.getElem_mem _)) ?_
  ((try simp only[↓ S2,S2,↓reduceIte,Nat.reduceEqDiff,reduceCtorEq,Nat.reduceLeDiff,Nat.reduceAdd,Nat.reduceLT,hr,hag]);(try simp only[Zj];try simp only[↓ S2,S2,↓reduceIte,Nat.reduceEqDiff,reduceCtorEq,Nat.reduceLeDiff,Nat.reduceAdd,Nat.reduceLT,hr,hag]);(try simp +contextual (disch:=omega) only[Z2]);(repeat' (first|(with_reducible intro h)|(with_reducible refine And.intro (by omega) ?_)|(with_reducible refine exP (by omega) ?_)|(with_reducible apply And.intro))))
  ·exact nx ⟨i+1,by omega,take_eq_step hp (by omega) (by omega) h⟩ (by simp;omega) (by simp[E2]) rfl
  ·simp;rintro rfl;simp at h
 ·have:i=xs.length:=by omega
  subst this
  rw[List.take_of_length_le (by omega),List.take_of_length_le (by omega)] at hp
  simp[hp]
end
end Go.Gh
namespace Go.Gh
theorem t_one {t:Ty} {g:GV} (h:ET false [t] g):CT t g:=by
 obtain ⟨gs,k1,k2⟩:=h
 simp only[CTs] at k1
 obtain ⟨g,gs',rfl,hg,rfl⟩:=k1
 simp at k2
 rw[←k2];exact hg
theorem c_sl {ag:Bool} {ts:List Ty} {α:Type} {f:α→GV} {ok:α→Prop} {g:GV} (h:CT (.sl ag ts) g) (he:∀e,ET ag ts e→∃a,e=f a∧ok a):∃l:List α,g = .sl ts.length (l.map f)∧∀a∈l,ok a:=by
 simp only[CT] at h
 obtain ⟨es,rfl,_,hs⟩:=h
 obtain ⟨l,rfl,hl⟩:=list_of (f:=f) (ok:=ok) fun e hm=>he e (hs e hm)
 exact ⟨l,rfl,hl⟩
end Go.Gh
namespace Go.Gh
theorem Y8 (P:Program) (c:Prop) [Decidable c] (g:GV) (d:Option Nat) (is:List GI) (K:Env→GH→Prop) (env:Env) (H:GH):valS P (if c then some g else none) d is K env H=(c∧Z7 P is K (gput env d g) H):=by
 by_cases h:c<;>simp[h,valS]
theorem nxF {ι:Type} {E:ι→Env} {G:ι→GH} {μ:ι→Nat} {i:ι} {e e':Env} {H H':GH} (j:ι) (hm:μ j<μ i) (hf:FE e H e' H') (h:subE e' (E j)) (hh:H'=G j):Nx E G μ i e H:=by
 subst hh
 exact ⟨j,FE.trans hf (FE.of h),hm⟩
theorem wloopF {P:Program} {cf:Cfg} (mxd:P.follows .mixedOrders = true) {ι:Type} {x:GC} {Q:Exit→Env→GH→Prop} {env env':Env} {H H':GH} (E:ι→Env) (G:ι→GH) (μ:ι→Nat) (i0:ι) (hf:FE env H env' H') (h0:subE env' (E i0)) (hh:H'=G i0)
 (round:∀i,(names (G i)).Nodup → GW P cf x (thenG (Nx E G μ i) Q) (E i) (G i)):GW P cf (.loop x) Q env H:=by
 subst hh
 exact GW.loop E G μ i0 (FE.trans hf (FE.of h0)) fun i=>GW.names fun hn=>round i hn
def dgt (k:Int):UInt8:=UInt8.ofNat (IntKind.u8.wrap (IntKind.i64.wrap (48+k.tmod 10))).toNat
def dig:Nat→Int→List UInt8→List UInt8
 | 0,_,acc=>acc
 | f+1,k,acc=>if 0<k then dig f (k.tdiv 10) (dgt k::acc) else acc
theorem dig_end:∀(f:Nat) {k:Int} (acc:List UInt8),¬0<k→dig f k acc=acc
 | 0,_,_,_ => rfl
 | f+1,k,acc,h=>by simp[dig,h]
def mtext (k:Int):ByteArray:=if k≤0 then ⟨#[109,48]⟩ else ⟨(109::dig k.toNat k []).toArray⟩
theorem FE.close3 {env:Env} {H:GH} {r r1 sz sz1 i j n:Nat} {L gs ks es0:List GV} (hr:Z6 H r=some (sz,es0)) (hne:r1≠r) (hi:i<L.length) (hg:gs[j]? = some (.own r1 sz1 0 n)) (hn:ks.length=n) :
 FE env ((r1,sz1,ks)::Z1 H r (L.set i (.agg gs))) env (Z1 H r (L.set i (.agg (gs.set j (.osl sz1 ks))))):=by
 have:=FE.close (env:=env) (H:=(r1,sz1,ks)::Z1 H r (L.set i (.agg gs))) (r:=r) (r1:=r1) (Ne.symm hne) (by rw[ZX hne,ZK hr]) (List.getElem?_set_self hi) hg Z0 hn
 rwa [ZJ hne,Z4,hdel_new,List.set_set] at this
theorem FE.swap {env:Env} {H:GH} {x y:Nat×Nat×List GV}:FE env (x::y::H) env (y::x::H):=by
 intro w0 D0 O0 N a w ⟨hdf,hsz,D,Ω,ρw,hi⟩
 obtain ⟨r1,sz1,es1⟩:=x
 obtain ⟨r2,sz2,es2⟩:=y
 obtain ⟨F1,G1,e1,h1,F2,F3,e2,h2,h3⟩:=hi.st.hm
 have hp:∀x,(F2++(F1++F3)).count x=Ω.count x:=by
  intro x;rw[e1,e2];simp only[List.count_append];omega
 have hmem:∀x∈F2++(F1++F3),x∈Ω:=fun x hx=>by
  have:=List.count_pos_iff.2 hx
  exact List.count_pos_iff.1 (by rw[←hp];exact this)
 refine ⟨hdf,hsz,D,F2++(F1++F3),ρw,hi.st' ⟨⟨F2,_,rfl,h2,F1,F3,rfl,h1,h3⟩,?_,?_,fun x hx=>hi.st.dj x (hmem x hx),hi.st.ds⟩ hmem⟩
 ·rw[List.nodup_iff_count]
  intro x
  rw[hp]
  exact List.nodup_iff_count.1 hi.st.nd x
 ·have:=hi.st.nn
  simp only[names,List.map_cons,List.nodup_cons,List.mem_cons,not_or] at this ⊢
  exact ⟨⟨fun e=>this.1.1 e.symm,this.2.1⟩,this.1.2,this.2.2⟩
theorem callS.borA {P:Program} {K:Env→GH→Prop} {is:List GI} {env:Env} {H:GH} {d:Option Nat} {det:Bool} {f:FuncId} {gs gs':List GV} {G:GV} (h:Pure P f gs' (· = G)) (hb:BorL H gs gs') (hs:scal G=true) (hk:Z7 P is K (gput env d G) H):callS P det f (some gs) d is K env H:=by
 cases det
 ·exact callS.bor h hb hs hk
 ·exact ⟨G,h.borrow hb (fun _ e=>by rw[e];exact hs),hk⟩
end Go.Gh
namespace Go.Gh
inductive Exp where
 | mk (kind n pos type:Int) (sym name:ByteArray) (args:List Exp)
def Exp.kind:Exp→Int | .mk k _ _ _ _ _ _ => k
def Exp.n:Exp→Int | .mk _ n _ _ _ _ _ => n
def Exp.pos:Exp→Int | .mk _ _ p _ _ _ _ => p
def Exp.type:Exp→Int | .mk _ _ _ t _ _ _ => t
def Exp.sym:Exp→ByteArray | .mk _ _ _ _ s _ _ => s
def Exp.name:Exp→ByteArray | .mk _ _ _ _ _ m _ => m
def Exp.args:Exp→List Exp | .mk _ _ _ _ _ _ a=>a
mutual
def Ex:Exp→GV
 | .mk k n p t s m a=> .agg [I k,I n,I p,I t,T s,T m,.sl 7 (ExL a)]
def ExL:List Exp→List GV
 | []=>[]
 | e::l=>Ex e::ExL l
end
theorem ExL_eq (l:List Exp):ExL l=l.map Ex:=by
 induction l with
 | nil=>rfl
 | cons e l ih=>simp[ExL,ih]
abbrev ExS (l:List Exp):GV:= .sl 7 (l.map Ex)
theorem ZA (e:Exp):Ex e = .agg [I e.kind,I e.n,I e.pos,I e.type,T e.sym,T e.name,ExS e.args]:=by
 cases e;simp only[Ex,ExL_eq];rfl
theorem Exp.ext_iff {x y:Exp}:x=y↔x.kind=y.kind∧x.n=y.n∧x.pos=y.pos∧x.type=y.type∧x.sym=y.sym∧x.name=y.name∧x.args=y.args:=by
 cases x;cases y
 simp[Exp.kind,Exp.n,Exp.pos,Exp.type,Exp.sym,Exp.name,Exp.args]
mutual
theorem Exp.indA {p:Exp→Prop} (h:∀e,(∀a∈e.args,p a)→p e):∀e,p e
 | .mk k n q t s m a=>h _ (Exp.indL h a)
theorem Exp.indL {p:Exp→Prop} (h:∀e,(∀a∈e.args,p a)→p e):∀(l:List Exp),∀a∈l,p a
 | [],a,hm=>by cases hm
 | e::l,a,hm=>by
  have he:p e:=Exp.indA h e
  have hl:=Exp.indL h l
  rcases List.mem_cons.1 hm with rfl|hm
  ·exact he
  ·exact hl a hm
end
mutual
def wEx:Exp→Nat
 | .mk _ _ _ _ s m a=>(Z9 s).length + (Z9 m).length + (a.length+wExL a)
def wExL:List Exp→Nat
 | []=>0
 | e::l=>wEx e+wExL l
end
theorem wExL_eq (l:List Exp):wExL l=(l.map wEx).sum := by
 induction l with
 | nil=>rfl
 | cons e l ih=>simp[wExL,ih]
theorem wEx_eq (e:Exp):wEx e=(Z9 e.sym).length + (Z9 e.name).length + wtS wEx e.args:=by
 cases e;simp only[wEx,wExL_eq,wtS];rfl
mutual
def okE:Exp→Prop
 | .mk _ _ _ _ s m a=>s.size≤maxLen∧m.size≤maxLen∧okEL a
def okEL:List Exp→Prop
 | []=>True
 | e::l=>okE e∧okEL l
end
theorem okEL_eq {l:List Exp}:okEL l↔∀a∈l,okE a:=by
 induction l with
 | nil=>simp[okEL]
 | cons e l ih=>simp[okEL,ih]
theorem okE_eq {e:Exp}:okE e↔e.sym.size≤maxLen∧e.name.size≤maxLen∧∀a∈e.args,okE a:=by
 cases e;simp only[okE,okEL_eq];rfl
mutual
instance decExp:(x y:Exp)→Decidable (x=y)
 | .mk k n p t s m a,.mk k' n' p' t' s' m' a'=>
  match decExpL a a' with
  | isTrue h=>decidable_of_iff (k=k'∧n=n'∧p=p'∧t=t'∧s=s'∧m=m') (by simp[h])
  | isFalse h=>isFalse (by simp[h])
instance decExpL:(x y:List Exp)→Decidable (x=y)
 | [],[]=>isTrue rfl
 | [],_ :: _ => isFalse (by simp)
 | _ :: _,[]=>isFalse (by simp)
 | e::l,e'::l'=>match decExp e e',decExpL l l' with
  | isTrue h,isTrue h'=>isTrue (by rw[h,h'])
  | isFalse h,_ => isFalse (by simp[h])
  | _,isFalse h=>isFalse (by simp[h])
end
theorem X1 {e:Exp} (h:wEx e≤1048576):e.args.length≤1048576∧∀a∈e.args,wEx a≤1048576:=by
 rw[wEx_eq] at h
 simp only[wtS] at h
 refine ⟨by omega,fun a ha=> ?_⟩
 have:=sum_mem wEx e.args a ha
 omega
theorem XT (e:Exp):isAgg (Ex e)=true:=by rw[ZA];rfl
theorem geR_Ex (e:Exp):geR (some (Ex e))=some (Ex e):=by rw[ZA];rfl
theorem gsize_Ex (e:Exp):gsize (Ex e)=7:=by rw[ZA];rfl
theorem stor_Ex (e:Exp):ZI (Ex e)=true:=by rw[ZA];rfl
theorem view_Ex (e:Exp):view (Ex e)=Ex e:=by rw[ZA];rfl
end Go.Gh
namespace Go.Gh
open Go.RowKit Go.ChangeShapes Go.WideShapes Go.Deep
end Go.Gh
namespace Go.Gh
end Go.Gh
namespace Go.Gh
theorem wrapU (n:Int) (h:0≤n) (h2:n≤18446744073709551615):IntKind.u64.wrap n=n:=by
 simp only[IntKind.wrap,IntKind.bits,IntKind.signed]
 simp;omega
def satV (n:Int):Int:=max (-1000000) (min 1000000 n)
def trV (b:Bool):Int:=if b then 1 else 0
def coV (v k:Int):Int:=if k=1 then satV v else if k=2 then andI .i64 v 4095 else if k=3 then trV (!decide (v=0)) else if k=4∧0≤v∧v≤999 then v else 0
def okV (v k:Int):Bool:=decide (1≤k∧k≤4)&&decide (coV v k=v)
end Go.Gh
namespace Go.Gh
mutual
def Zr:Exp→Nat
 | .mk _ _ _ _ _ _ a=>1+cntEL a
def cntEL:List Exp→Nat
 | []=>0
 | e::l=>Zr e+cntEL l
end
theorem cntEL_eq (l:List Exp):cntEL l=(l.map Zr).sum := by
 induction l with
 | nil=>rfl
 | cons e l ih=>simp[cntEL,ih]
theorem Y0 (e:Exp):Zr e=1+(e.args.map Zr).sum := by
 cases e;simp only[Zr,cntEL_eq];rfl
theorem cntE_le:∀e,Zr e≤wEx e+1:=by
 refine Exp.indA fun e ih=> ?_
 rw[Y0,wEx_eq]
 have:∀l:List Exp,(∀a∈l,Zr a≤wEx a+1)→(l.map Zr).sum ≤ l.length+(l.map wEx).sum := by
  intro l
  induction l with
  | nil=>intro _;simp
  | cons a l ih=>
   intro h
   have h1:=h a (by simp)
   have h2:=ih fun b hb=>h b (by simp[hb])
   simp only[List.map_cons,List.sum_cons,List.length_cons];omega
 have:=this e.args ih
 simp only[wtS];omega
theorem sumT (f:Exp→Nat) (l:List Exp) (i:Nat) (h:i<l.length):((l.take (i+1)).map f).sum = ((l.take i).map f).sum + f l[i]:=psum_succ f l i h
theorem sumT_le (f:Exp→Nat) (l:List Exp) (i:Nat):((l.take i).map f).sum ≤ (l.map f).sum := psum_le f l i
def mxL:List Nat→Nat
 | []=>0
 | a::l=>max a (mxL l)
theorem mxL_app (l m:List Nat):mxL (l++m)=max (mxL l) (mxL m):=by
 induction l with
 | nil=>simp[mxL]
 | cons a l ih=>simp only[List.cons_append,mxL,ih];omega
theorem mxL_le (l:List Nat):mxL l≤l.sum:=by
 induction l with
 | nil=>simp[mxL]
 | cons a l ih=>simp only[mxL,List.sum_cons];omega
mutual
def dpE:Exp→Nat
 | .mk _ _ _ _ _ _ a=>1+dpEL a
def dpEL:List Exp→Nat
 | []=>0
 | e::l=>max (dpE e) (dpEL l)
end
theorem dpEL_eq (l:List Exp):dpEL l=mxL (l.map dpE):=by
 induction l with
 | nil=>rfl
 | cons e l ih=>simp[dpEL,mxL,ih]
theorem dpE_eq (e:Exp):dpE e=1+mxL (e.args.map dpE):=by
 cases e;simp only[dpE,dpEL_eq];rfl
theorem sumL_le {l:List Exp} {f g:Exp→Nat} (h:∀a∈l,f a≤g a):(l.map f).sum ≤ (l.map g).sum := by
 induction l with
 | nil=>simp
 | cons a l ih=>
  have h1:=h a (by simp)
  have h2:=ih fun b hb=>h b (by simp[hb])
  simp only[List.map_cons,List.sum_cons];omega
theorem dpE_le:∀e,dpE e≤Zr e:=by
 refine Exp.indA fun e ih=> ?_
 rw[Y0,dpE_eq]
 have h1:=mxL_le (e.args.map dpE)
 have h2:=sumL_le ih
 omega
theorem mxT (f:Exp→Nat) (l:List Exp) (i:Nat) (h:i<l.length):mxL ((l.take (i+1)).map f)=max (mxL ((l.take i).map f)) (f l[i]):=by
 rw[List.take_succ_eq_append_getElem h,List.map_append,mxL_app];simp[mxL]
theorem mxT_le (f:Exp→Nat) (l:List Exp) (i:Nat):mxL ((l.take i).map f)≤(l.map f).sum :=
 Nat.le_trans (mxL_le _) (sumT_le f l i)
end Go.Gh
namespace Go.Gh
mutual
def YR (p:Exp→Bool):Exp→Bool
 | .mk k n q t s m a=>p (.mk k n q t s m a)&&allEL p a
def allEL (p:Exp→Bool):List Exp→Bool
 | []=>true
 | e::l=>YR p e&&allEL p l
end
theorem allEL_eq (p:Exp→Bool) (l:List Exp):allEL p l=l.all (YR p):=by
 induction l with
 | nil=>rfl
 | cons e l ih=>simp[allEL,ih]
theorem allE_eq (p:Exp→Bool) (e:Exp):YR p e=(p e&&e.args.all (YR p)):=by
 cases e;simp only[YR,allEL_eq];rfl
theorem any_ix {α:Type} (p:α→Bool) (l:List α):decide (0≤ixOf p l)=l.any p:=by
 unfold ixOf
 cases h:l.findIdx? p with
 | none=>
  have:=List.findIdx?_eq_none_iff.1 h
  simp;exact this
 | some i=>
  obtain ⟨h1,h2,_⟩:=List.findIdx?_eq_some_iff_getElem.1 h
  simp
  exact ⟨l[i],List.getElem_mem h1,h2⟩
theorem any_not {α:Type} (p:α→Bool) (l:List α):(!l.any fun a=> !p a)=l.all p:=by
 induction l with
 | nil=>rfl
 | cons a l ih=>simp only[List.any_cons,List.all_cons,Bool.not_or,Bool.not_not,ih]
theorem all_take {p:Exp→Bool} {l:List Exp} {i:Nat} (h:i<l.length) (hp:p l[i]=true) (hn:∀a∈l.take i,p a=true):∀a∈l.take (i+1),p a=true:=by
 intro a ha
 rw[List.take_add_one,List.getElem?_eq_getElem h,Option.toList_some,List.mem_append] at ha
 rcases ha with ha|ha
 ·exact hn a ha
 ·simp only[List.mem_singleton] at ha;rw[ha];exact hp
end Go.Gh
namespace Go.Gh
def Zh (c:UInt8):Bool:=decide (97≤(c.toNat:Int))&&decide ((c.toNat:Int)≤122)
def ZG (c:UInt8):Bool:=decide (48≤(c.toNat:Int))&&decide ((c.toNat:Int)≤57)
def kwS:List ByteArray:=[⟨#[105,102]⟩,⟨#[116,104,101,110]⟩,⟨#[101,108,115,101]⟩,⟨#[116,114,117,101]⟩,⟨#[102,97,108,115,101]⟩,⟨#[108,105,116]⟩,⟨#[110,111,110,101]⟩,
 ⟨#[115,101,108,102]⟩,⟨#[111,102]⟩,⟨#[109,97,120]⟩,⟨#[109,105,110]⟩,⟨#[119,105,116,104]⟩,⟨#[104,97,115]⟩]
def hasS (l:List ByteArray) (s:ByteArray):Bool:=l.any fun x=>decide (x=s)
theorem hasS_hit {l:List ByteArray} {s:ByteArray} {i:Nat} (h:i<l.length) (e:l[i]=s):hasS l s=true:=by
 simp only[hasS,List.any_eq_true];exact ⟨l[i],List.getElem_mem h,by simp[e]⟩
theorem hasS_none {l:List ByteArray} {s:ByteArray} (h:∀x∈l,decide (x=s)=false):hasS l s=false:=by
 simp only[hasS,List.any_eq_false];intro x hx;simpa using h x hx
def resV (s:ByteArray):Bool:=hasS kwS s
def shp:List UInt8→Bool
 | []=>false
 | c::l=>Zh c&&l.all fun c=>Zh c||ZG c
theorem shp_iff (l:List UInt8):shp l=true↔0<l.length∧∀(j:Nat) (h:j<l.length),Zh l[j]=true∨(j≠0∧ZG l[j]=true):=by
 cases l with
 | nil=>simp[shp]
 | cons c l=>
  simp only[shp,Bool.and_eq_true,List.all_eq_true,Bool.or_eq_true,List.length_cons]
  constructor
  ·rintro ⟨h1,h2⟩
   refine ⟨by omega,fun j hj=> ?_⟩
   cases j with
   | zero=>exact .inl h1
   | succ j=>
    have:=h2 l[j] (List.getElem_mem _)
    simp only[List.getElem_cons_succ]
    rcases this with h|h
    ·exact .inl h
    ·exact .inr ⟨by omega,h⟩
  ·rintro ⟨_,h⟩
   constructor
   ·have:=h 0 (by omega)
    simpa using this
   ·intro x hx
    obtain ⟨j,hj,rfl⟩:=List.mem_iff_getElem.1 hx
    have:=h (j+1) (by omega)
    simp only[List.getElem_cons_succ] at this
    rcases this with h|h
    ·exact .inl h
    ·exact .inr h.2
def ZS (s:ByteArray):Bool:=shp (Z9 s)&&decide ((Z9 s).length ≤ 8) && !resV s
end Go.Gh
namespace Go.Gh
theorem shp_bad {l:List UInt8} {i:Nat} (h:i<l.length) (h1:¬(Zh l[i]=true∨(i≠0∧ZG l[i]=true))):shp l=false:=by
 cases hs:shp l with
 | false=>rfl
 | true=>exact absurd (((shp_iff l).1 hs).2 i h) h1
theorem shp_step {l:List UInt8} {i:Nat} (h:i<l.length) (hn:∀(j:Nat) (h:j<l.length),j<i→Zh l[j]=true∨(j≠0∧ZG l[j]=true)) (hg:Zh l[i]=true∨(i≠0∧ZG l[i]=true)) :
 ∀(j:Nat) (h:j<l.length),j<i+1→Zh l[j]=true∨(j≠0∧ZG l[j]=true):=by
 intro j hj hji
 by_cases e:j=i
 ·subst e;exact hg
 ·exact hn j hj (by omega)
theorem shp_end {l:List UInt8} (hn:∀(j:Nat) (h:j<l.length),j<l.length→Zh l[j]=true∨(j≠0∧ZG l[j]=true)):shp l=decide (0<l.length):=by
 by_cases h:0<l.length
 ·rw[decide_eq_true h];exact (shp_iff l).2 ⟨h,fun j hj=>hn j hj hj⟩
 ·rw[decide_eq_false h]
  cases l with
  | nil=>rfl
  | cons a l=>simp at h
end Go.Gh
namespace Go.Gh
def arity (k:Int):Nat:=if k=4 then 2 else if k=5 then 3 else if k=8 then 1 else 0
def noS:ByteArray:=⟨#[]⟩
def bareV (e:Exp):Bool:=
 decide (e.args.length=arity e.kind)&&(decide (e.kind=3∨e.kind=6)||decide (e.pos=0))&&(decide (e.kind=3∨e.kind=8)||decide (e.name=noS))&&(decide (e.kind=1∨e.kind=4)||decide (e.n=0)) &&
 (decide (e.kind=1)||decide (e.type=0))&&(decide (e.kind=8)||decide (e.sym=noS))
end Go.Gh
namespace Go.Gh
theorem nraw_Ex (e:Exp):nraw (Ex e)=true:=by rw[ZA];rfl
theorem clean_Ex (e:Exp):clean (Ex e)=true:=by rw[ZA];rfl
theorem sub_Ex0 (e:Exp):sub (Ex e) 0 1 false=some (I e.kind):=by rw[ZA];rfl
theorem sub_Ex1 (e:Exp):sub (Ex e) 1 1 false=some (I e.n):=by rw[ZA];rfl
theorem sub_Ex2 (e:Exp):sub (Ex e) 2 1 false=some (I e.pos):=by rw[ZA];rfl
theorem sub_Ex3 (e:Exp):sub (Ex e) 3 1 false=some (I e.type):=by rw[ZA];rfl
theorem sub_Ex4 (e:Exp):sub (Ex e) 4 1 false=some (T e.sym):=by rw[ZA];rfl
theorem sub_Ex5 (e:Exp):sub (Ex e) 5 1 false=some (T e.name):=by rw[ZA];rfl
theorem sub_Ex6 (e:Exp):sub (Ex e) 6 1 false=some (ExS e.args):=by rw[ZA];rfl
theorem fold_Ex (e:Exp):GV.agg [I e.kind,I e.n,I e.pos,I e.type,T e.sym,T e.name,.sl 7 (e.args.map Ex)]=Ex e:=(ZA e).symm
abbrev ExC (e:Exp):List GV:=[I e.kind,I e.n,I e.pos,I e.type,T e.sym,T e.name,ExS e.args]
theorem upd_Ex (gs:List GV) (o:Nat) (e:Exp):upd (.agg gs) o (Ex e)=if o+7≤gs.length then some (.agg (gs.take o++(ExC e++gs.drop (o+7)))) else none:=by rw[ZA];rfl
theorem upd_ExO (e:Exp) (o r sz k n:Nat):upd (Ex e) o (.own r sz k n)=if o<7 then some (.agg ((ExC e).set o (.own r sz k n))) else none:=by rw[ZA];rfl
theorem XE:type_of% (And.intro @XT (And.intro @geR_Ex (And.intro @gsize_Ex (And.intro @stor_Ex (And.intro @nraw_Ex (And.intro @clean_Ex (And.intro @sub_Ex0 (And.intro @sub_Ex1 (And.intro @sub_Ex2 (And.intro @sub_Ex3 (And.intro @sub_Ex4 (And.intro @sub_Ex5 (And.intro @sub_Ex6 (And.intro @fold_Ex (And.intro @upd_ExO @upd_Ex))))))))))))))):=
 And.intro @XT (And.intro @geR_Ex (And.intro @gsize_Ex (And.intro @stor_Ex (And.intro @nraw_Ex (And.intro @clean_Ex (And.intro @sub_Ex0 (And.intro @sub_Ex1 (And.intro @sub_Ex2 (And.intro @sub_Ex3 (And.intro @sub_Ex4 (And.intro @sub_Ex5 (And.intro @sub_Ex6 (And.intro @fold_Ex (And.intro @upd_ExO @upd_Ex))))))))))))))
@[ext] structure Att where
 name:ByteArray
 type:Int
 mode:Int
 circ:Bool
deriving DecidableEq
@[ext] structure Sym where
 name:ByteArray
 atts:List Att
deriving DecidableEq
@[ext] structure Eqn where
 pos:Int
 name:ByteArray
 expr:Exp
deriving DecidableEq
abbrev Qn (x:Eqn):GV:= .agg [I x.pos,T x.name,I x.expr.kind,I x.expr.n,I x.expr.pos,I x.expr.type,T x.expr.sym,T x.expr.name,ExS x.expr.args]
abbrev QnS (l:List Eqn):GV:= .sl 9 (l.map Qn)
@[ext] structure Con where
 sym:ByteArray
 name:ByteArray
 goal:Exp
 value:Exp
deriving DecidableEq
abbrev Co (x:Con):GV:= .agg [T x.sym,T x.name,I x.goal.kind,I x.goal.n,I x.goal.pos,I x.goal.type,T x.goal.sym,T x.goal.name,ExS x.goal.args,I x.value.kind,I x.value.n,I x.value.pos,I x.value.type,T x.value.sym,T x.value.name,ExS x.value.args]
abbrev CoS (l:List Con):GV:= .sl 16 (l.map Co)
abbrev TS (l:List ByteArray):GV:= .sl 1 (l.map T)
abbrev wT (s:ByteArray):Nat:=(Z9 s).length
@[ext] structure Rul where
 name:ByteArray
 left:ByteArray
 right:List ByteArray
 lit:Bool
 eqs:List Eqn
 cons:List Con
deriving DecidableEq
abbrev Ru (x:Rul):GV:= .agg [T x.name,T x.left,TS x.right,B x.lit,QnS x.eqs,CoS x.cons]
@[ext] structure Gram where
 syms:List Sym
 rules:List Rul
deriving DecidableEq
def okEq (x:Eqn):Prop:=x.name.size≤maxLen∧okE x.expr
def okCo (x:Con):Prop:=x.sym.size≤maxLen∧x.name.size≤maxLen∧okE x.goal∧okE x.value
def okRu (x:Rul):Prop:=x.name.size≤maxLen∧x.left.size≤maxLen∧(∀s∈x.right,s.size≤maxLen)∧(∀q∈x.eqs,okEq q)∧∀c∈x.cons,okCo c
def smEq (x:Eqn):Prop:=wEx x.expr≤1048576
def smCo (x:Con):Prop:=wEx x.goal≤1048576∧wEx x.value≤1048576
def smRu (x:Rul):Prop:=x.right.length≤1048576∧x.eqs.length≤1048576∧x.cons.length≤1048576∧(∀q∈x.eqs,smEq q)∧∀c∈x.cons,smCo c
theorem Za {α:Type} {l:List α} {i:Nat} {d:α} (h:i<l.length):l.getD i d=l[i]:=by
 rw[List.getD_eq_getElem?_getD,List.getElem?_eq_getElem h];rfl
def symZ:Sym:=⟨noS,[]⟩
def attZ:Att:=⟨noS,0,0,false⟩
def rulZ:Rul:=⟨noS,noS,[],false,[],[]⟩
def fRul (l:List Rul) (n:ByteArray):Rul:=(l.find? fun s=>decide (s.name=n)).getD rulZ
def hRul (l:List Rul) (n:ByteArray):Bool:=(l.find? fun s=>decide (s.name=n)).isSome
end Go.Gh
namespace Go.Gh
end Go.Gh
namespace Go.Gh
theorem t_T {g:GV} (h:ET false [.str] g):∃s:ByteArray,g=T s∧s.size≤maxLen:=by
 obtain ⟨s,rfl,hs⟩:=t_one h
 exact ⟨s,rfl,hs⟩
end Go.Gh
namespace Go.Gh
end Go.Gh
namespace Go.Gh
end Go.Gh
namespace Go.Gh
theorem Bor.of_eq {H:GH} {g g':GV} (h:g=g'):Bor H g g':=h▸Bor.refl
end Go.Gh
namespace Go.Gh
def YT (e:Exp):Bool:=
 decide (1≤e.kind∧e.kind≤8)&&bareV e &&
 (if e.kind=1 then decide (1≤e.type∧e.type≤3)&&okV e.n e.type&&decide (0≤e.n) else
  if e.kind=3 then decide (0≤e.pos∧e.pos≤3)&&ZS e.name else
  if e.kind=6 then decide (0≤e.pos∧e.pos≤3) else
  if e.kind=4 then decide (1≤e.n∧e.n≤12) else
  if e.kind=8 then ZS e.sym&&ZS e.name else true)
def Zo (e:Exp):Bool:=decide (Zr e≤24)&&decide (dpE e≤6)&&YR YT e
theorem allE_args {p:Exp→Bool} {e:Exp} (h:YR p e=true):p e=true∧∀a∈e.args,YR p a=true:=by
 rw[allE_eq,Bool.and_eq_true,List.all_eq_true] at h
 exact h
theorem shp_iff' (l:List UInt8):shp l=true↔0<l.length∧(∀h:0<l.length,Zh l[0]=true)∧∀(j:Nat) (h:j<l.length),Zh l[j]=true∨ZG l[j]=true:=by
 rw[shp_iff]
 constructor
 ·rintro ⟨h1,h2⟩
  refine ⟨h1,fun h=> ?_,fun j hj=> ?_⟩
  ·rcases h2 0 h with h3|h3
   ·exact h3
   ·exact absurd rfl h3.1
  ·rcases h2 j hj with h3|h3
   ·exact .inl h3
   ·exact .inr h3.2
 ·rintro ⟨h1,h2,h3⟩
  refine ⟨h1,fun j hj=> ?_⟩
  by_cases h0:j=0
  ·subst h0;exact .inl (h2 hj)
  ·rcases h3 j hj with h4|h4
   ·exact .inl h4
   ·exact .inr ⟨h0,h4⟩
theorem shp_no {l:List UInt8} {i:Nat} (h:i<l.length) (h1:Zh l[i]=false) (h2:ZG l[i]=false):shp l=false:=by
 cases hs:shp l with
 | false=>rfl
 | true=>
  rcases ((shp_iff' l).1 hs).2.2 i h with h3|h3
  ·rw[h1] at h3;cases h3
  ·rw[h2] at h3;cases h3
theorem shp_no0 {l:List UInt8} (h:0<l.length) (h1:Zh l[0]=false):shp l=false:=by
 cases hs:shp l with
 | false=>rfl
 | true=>
  have:=((shp_iff' l).1 hs).2.1 h
  rw[h1] at this;cases this
theorem shp_yes {l:List UInt8} (h:0<l.length) (h1:Zh l[0]=true) (hn:∀(j:Nat) (h:j<l.length),Zh l[j]=true∨ZG l[j]=true):shp l=true:=(shp_iff' l).2 ⟨h,fun _ => h1,hn⟩
end Go.Gh
namespace Go.Gh
theorem Bor.clo {H:GH} {f:Nat} {gs gs':List GV} (h:BorL H gs gs'):Bor H (.clo f gs) (.clo f gs'):=fun w D Ω v hst hm=>by
 simp only[MV] at hm ⊢
 obtain ⟨h0,vs,h1,h2⟩:=hm
 exact ⟨h0,vs,h1,h w D Ω vs hst h2⟩
theorem Bor.rop {H:GH} {sz:Nat} {g g':GV} (h:Bor H g g'):Bor H (.rop sz g) (.rop sz g'):=fun w D Ω v hst hm=>by
 simp only[MV] at hm ⊢
 obtain ⟨h0,b,off,u,h1,h2,h3,h4,h5,h6⟩:=hm
 exact ⟨h0,b,off,u,h1,.inl h2,h3,h4,h5,h w D Ω u hst h6⟩
theorem XR (s:ByteArray):ZS s=(shp (Z9 s)&&decide ((Z9 s).length ≤ 8) && !resV s):=rfl
theorem okV_rng {n t:Int} (h:okV n t=true):1≤t∧t≤4:=by
 simp only[okV,Bool.and_eq_true,decide_eq_true_eq] at h;exact h.1
theorem allE_no {p:Exp→Bool} {e:Exp} {i:Nat} (h:i<e.args.length) (hb:YR p e.args[i]=false):YR p e=false:=by
 rw[allE_eq]
 have:e.args.all (YR p)=false:=by
  rw[List.all_eq_false]
  exact ⟨e.args[i],List.getElem_mem h,by simp[hb]⟩
 rw[this,Bool.and_false]
theorem allE_yes {p:Exp→Bool} {e:Exp} (h:∀a∈e.args,YR p a=true):YR p e=p e:=by
 rw[allE_eq,List.all_eq_true.2 h,Bool.and_true]
end Go.Gh
namespace Go.Gh
theorem noS_eq:(ByteArray.mk #[])=noS:=rfl
end Go.Gh
namespace Go.Gh
mutual
def ExO:Exp→GV
 | .mk k n p t s m a=> .agg [I k,I n,I p,I t,T s,T m,.osl 7 (ExOL a)]
def ExOL:List Exp→List GV
 | []=>[]
 | e::l=>ExO e::ExOL l
end
theorem ExOL_eq (l:List Exp):ExOL l=l.map ExO:=by
 induction l with
 | nil=>rfl
 | cons e l ih=>simp[ExOL,ih]
theorem ExO_eq (e:Exp):ExO e = .agg [I e.kind,I e.n,I e.pos,I e.type,T e.sym,T e.name,.osl 7 (e.args.map ExO)]:=by
 cases e;simp only[ExO,ExOL_eq];rfl
abbrev QnO (x:Eqn):GV:= .agg [I x.pos,T x.name,I x.expr.kind,I x.expr.n,I x.expr.pos,I x.expr.type,T x.expr.sym,T x.expr.name,.osl 7 (x.expr.args.map ExO)]
abbrev CoO (x:Con):GV:= .agg [T x.sym,T x.name,I x.goal.kind,I x.goal.n,I x.goal.pos,I x.goal.type,T x.goal.sym,T x.goal.name,.osl 7 (x.goal.args.map ExO),I x.value.kind,I x.value.n,I x.value.pos,I x.value.type,T x.value.sym,T x.value.name,.osl 7 (x.value.args.map ExO)]
theorem view_ExO:∀e:Exp,view (ExO e)=Ex e:=by
 refine Exp.indA fun e ih=> ?_
 rw[ExO_eq,ZA]
 have:(e.args.map ExO).map view=e.args.map Ex:=by
  rw[List.map_map];exact List.map_congr_left fun a ha=>ih a ha
 simp[view,Y7,X4,this]
theorem view_QnO (x:Eqn):view (QnO x)=Qn x:=by simp[view,Y7,X4,view_ExO]
theorem view_CoO (x:Con):view (CoO x)=Co x:=by simp[view,Y7,X4,view_ExO]
theorem Bor.seen {α:Type} {f g:α→GV} {H:GH} {r sz n:Nat} {l:List α} (hv:∀a,view (f a)=g a) (hr:Z6 H r=some (sz,l.map f)) (hl:l.length=n):Bor H (.own r sz 0 n) (.sl sz (l.map g)):=by
 have:=Bor.own (k:=0) (n:=n) hr (by simp[hl])
 rw[List.drop_zero,List.take_of_length_le (by simp[hl]),X4,List.map_map] at this
 have e:l.map (view ∘ f)=l.map g:=List.map_congr_left fun a _ => hv a
 rwa [e] at this
section
variable {P:Program} {α:Type} {f:α→GV} {k kx sz:Nat} {ag:Bool}
end
theorem FR.perm {g:GV} {H L T:GH} (hs:subH H L):FR g (H++T) g (L++T):=by
 intro w D Ω v hv hst
 obtain ⟨Ω',h1,h2⟩:=St.sub hst hs
 exact ⟨D,Ω',hv,h1,⟨fun _ h=>h,fun _ _ h=> .inl h,fun b hb _ => h2 b hb,Kept.refl _ _,rfl,rfl,rfl⟩⟩
end Go.Gh
namespace Go.Gh
theorem FE.closeL {env:Env} {H:GH} {r r1 sz sz1 j n:Nat} {L gs ks:List GV} (hne:r≠r1) (hr:Z6 H r=some (sz,L++[.agg gs])) (hg:gs[j]? = some (.own r1 sz1 0 n)) (hr1:Z6 H r1=some (sz1,ks)) (hn:ks.length=n) :
 FE env H env (ZL (Z1 H r (L++[.agg (gs.set j (.osl sz1 ks))])) r1):=by
 have:=FE.close (env:=env) (i:=L.length) hne hr (by simp) hg hr1 hn
 simpa using this
end Go.Gh
namespace Go.Gh
section
variable {α:Type} (w:α→Nat) (m:α→Int→α)
def smw:List α→Nat
 | []=>0
 | a::l=>w a+smw l
def smk:List α→Int→List α
 | [],_ => []
 | a::l,k=>m a k::smk l (k+w a)
theorem ZH:∀(l:List α) (k:Int),(smk w m l k).length = l.length
 | [],_ => rfl
 | a::l,k=>by simp[smk,ZH l]
theorem smw_app:∀(l u:List α),smw w (l++u)=smw w l+smw w u
 | [],u=>by simp[smw]
 | a::l,u=>by simp[smw,smw_app l u];omega
theorem smk_snoc:∀(l:List α) (k:Int) (x:α),smk w m (l++[x]) k=smk w m l k++[m x (k+smw w l)]
 | [],k,x=>by simp[smk,smw]
 | a::l,k,x=>by
  have:=smk_snoc l (k+w a) x
  have e:k+(w a:Int)+(smw w l:Int)=k+((w a+smw w l:Nat):Int):=by omega
  simp[smk,smw,this,e]
theorem smw_step {l:List α} {i:Nat} (h:i<l.length):smw w (l.take (i+1))=smw w (l.take i)+w l[i]:=by
 rw[List.take_add_one,List.getElem?_eq_getElem h,smw_app];simp[smw]
theorem smw_take (l:List α) (i:Nat):smw w (l.take i)≤smw w l:=by
 have:=smw_app w (l.take i) (l.drop i)
 rw[List.take_append_drop] at this
 omega
theorem smk_step {l:List α} {i:Nat} {k:Int} (h:i<l.length):smk w m (l.take (i+1)) k=smk w m (l.take i) k++[m l[i] (k+smw w (l.take i))]:=by
 rw[List.take_add_one,List.getElem?_eq_getElem h];exact smk_snoc w m _ _ _
theorem smk_get:∀{l:List α} {k:Int} {i:Nat} (h:i<l.length),(smk w m l k)[i]? = some (m l[i] (k+smw w (l.take i)))
 | a::l,k,0,h=>by simp[smk,smw]
 | a::l,k,i+1,h=>by
  have:=smk_get (l:=l) (k:=k+w a) (i:=i) (by simpa using h)
  have e:k+(w a:Int)+(smw w (l.take i):Int)=k+((w a+smw w (l.take i):Nat):Int):=by omega
  simp[smk,smw,this,e]
theorem smk_getE {l:List α} {k:Int} {i:Nat} (h:i<l.length) (h':i<(smk w m l k).length := by simpa[ZH] using h):(smk w m l k)[i]=m l[i] (k+smw w (l.take i)):=by
 have:=smk_get w m (k:=k) h
 rw[List.getElem?_eq_getElem h'] at this
 simpa using this
theorem smid_get {l:List α} {k:Int} {i:Nat} (h:i<l.length) (h':i<(smk w m (l.take i) k++l.drop i).length):(smk w m (l.take i) k++l.drop i)[i]=l[i]:=by
 rw[List.getElem_append_right (by simp[ZH];omega)]
 have e:i+(i-(smk w m (l.take i) k).length)=i:=by simp[ZH];omega
 simp only[List.getElem_drop,e]
theorem smid_set {l:List α} {k:Int} {i:Nat} (h:i<l.length):(smk w m (l.take i) k++l.drop i).set i (m l[i] (k+smw w (l.take i)))=smk w m (l.take (i+1)) k++l.drop (i+1):=by
 rw[List.set_append_right _ _ (by simp[ZH];omega),smk_step w m h]
 have e:i-(smk w m (l.take i) k).length = 0:=by simp[ZH];omega
 rw[e,List.drop_eq_getElem_cons h,List.set_cons_zero,List.append_assoc]
 rfl
theorem smid_len {l:List α} {k:Int} {i:Nat}:(smk w m (l.take i) k++l.drop i).length = l.length:=by
 simp[ZH];omega
theorem smw_len (hw:∀a,1≤w a):∀l:List α,l.length≤smw w l
 | []=>by simp
 | a::l=>by have:=hw a;have:=smw_len hw l;simp only[smw,List.length_cons];omega
theorem smw_sum {f:α→Nat} (c:Nat):∀{l:List α},(∀a∈l,w a≤c * (1+f a))→smw w l≤c * wtS f l
 | [],_ => by simp[smw]
 | a::l,h=>by
  have h1:=h a (by simp)
  have h2:=smw_sum (f:=f) (l:=l) c (fun b hb=>h b (by simp[hb]))
  simp only[wtS,List.length_cons,List.map_cons,List.sum_cons,smw] at h2 ⊢
  have e:c * (l.length+1+(f a+(l.map f).sum))=c * (1+f a)+c * (l.length+(l.map f).sum):=by
   rw[←Nat.mul_add];congr 1;omega
  omega
end
section
variable {α:Type} {f:α→α}
end
theorem FE.closeT {env:Env} {T:GH} {r r2 sz sz2 i j n:Nat} {L gs ks:List GV} (hne:r2≠r) (hr:Z6 T r=some (sz,L.set i (.agg gs))) (hi:i<L.length) (hg:gs[j]? = some (.own r2 sz2 0 n)) (hn:ks.length=n) :
 FE env ((r2,sz2,ks)::T) env (Z1 T r (L.set i (.agg (gs.set j (.osl sz2 ks))))):=by
 have:=FE.close (env:=env) (H:=(r2,sz2,ks)::T) (r:=r) (r1:=r2) (i:=i) (j:=j) (Ne.symm hne) (by rw[ZX hne];exact hr) (List.getElem?_set_self hi) hg Z0 hn
 rwa [ZJ hne,hdel_new,List.set_set] at this
abbrev wS (_ : ByteArray):Nat:=1
abbrev mkTx (_ : ByteArray) (k:Int):ByteArray:=mtext k
abbrev wI (_ : Int×ByteArray):Nat:=2
abbrev wA (_ : Att):Nat:=4
mutual
def ctE:Exp→Nat
 | .mk _ _ _ _ _ _ a=>6+ctEL a
def ctEL:List Exp→Nat
 | []=>0
 | e::l=>ctE e+ctEL l
end
theorem ctEL_eq (l:List Exp):ctEL l=smw ctE l:=by
 induction l with
 | nil=>rfl
 | cons e l ih=>simp[ctEL,smw,ih]
theorem ctE_eq (e:Exp):ctE e=6+smw ctE e.args:=by
 cases e;simp only[ctE,ctEL_eq];rfl
mutual
def mkE:Exp→Int→Exp
 | .mk _ _ _ _ _ _ a,k=> .mk k (k+1) (k+1+1) (k+1+1+1) (mtext (k+1+1+1+1)) (mtext (k+1+1+1+1+1)) (mkEL a (k+1+1+1+1+1+1))
def mkEL:List Exp→Int→List Exp
 | [],_ => []
 | e::l,k=>mkE e k::mkEL l (k+ctE e)
end
theorem mkEL_eq:∀(l:List Exp) (k:Int),mkEL l k=smk ctE mkE l k
 | [],_ => rfl
 | e::l,k=>by simp[mkEL,smk,mkEL_eq l]
theorem mkE_eq (e:Exp) (k:Int):mkE e k = .mk k (k+1) (k+1+1) (k+1+1+1) (mtext (k+1+1+1+1)) (mtext (k+1+1+1+1+1)) (smk ctE mkE e.args (k+1+1+1+1+1+1)):=by
 cases e;simp only[mkE,mkEL_eq];rfl
theorem ctE_le:∀e:Exp,ctE e≤6 * (1+wEx e):=by
 refine Exp.indA fun e ih=> ?_
 have h:=smw_sum ctE (f:=wEx) 6 ih
 rw[ctE_eq,wEx_eq]
 omega
abbrev wQ (x:Eqn):Nat:=2+ctE x.expr
abbrev mkQ (x:Eqn) (k:Int):Eqn:=⟨k,mtext (k+1),mkE x.expr (k+1+1)⟩
abbrev wC (x:Con):Nat:=2+ctE x.goal+ctE x.value
abbrev mkC (x:Con) (k:Int):Con:=⟨mtext k,mtext (k+1),mkE x.goal (k+1+1),mkE x.value (k+1+1+1+1+1+1+1+1+smw ctE x.goal.args)⟩
theorem smw_wS (l:List ByteArray):smw wS l=l.length:=by
 induction l with
 | nil=>rfl
 | cons e l ih=>simp[smw,wS,ih];omega
end Go.Gh
namespace Go.Gh
theorem neN (r:Nat) (x:Nat×List GV) (H:GH):(names ((r,x)::H)).Nodup = (neA r H∧(names H).Nodup):=by
 apply propext
 constructor
 ·intro h
  have h2:=h
  simp only[names,List.map_cons,List.nodup_cons] at h2
  exact ⟨neA_of h2.1,h2.2⟩
 ·rintro ⟨h1,h2⟩
  simp only[names,List.map_cons,List.nodup_cons]
  refine ⟨?_,h2⟩
  clear h2
  induction H with
  | nil=>simp
  | cons y H ih=>
   obtain ⟨q,y⟩:=y
   simp only[neA_cons] at h1
   simp only[List.map_cons,List.mem_cons,not_or]
   exact ⟨h1.1,ih h1.2.2⟩
theorem FE.closeL2 {env:Env} {H:GH} {r r1 sz sz1 j n:Nat} {L gs ks:List GV} (hne:¬r=r1) (hg:gs[j]? = some (.own r1 sz1 0 n)) (hn:ks.length=n) :
 FE env ((r,sz,L++[.agg gs])::(r1,sz1,ks)::H) env ((r,sz,L++[.agg (gs.set j (.osl sz1 ks))])::H):=by
 have h:=FE.closeL (env:=env) (H:=(r,sz,L++[.agg gs])::(r1,sz1,ks)::H) (r:=r) (r1:=r1) hne Z0 hg (by rw[ZX hne,Z0]) hn
 rwa [YU,hdel_old hne,hdel_new] at h
theorem Bor.ptr {H:GH} {r sz:Nat} {g:GV} (hr:Z6 H r=some (sz,[g])):Bor H (.ptr r sz 0 0) (.rop sz (view g)):=fun w D Ω v h hv=>by
 obtain ⟨F,hF,hFΩ⟩:=h.hm.mem hr
 simp only[MV] at hv ⊢
 obtain ⟨_,b,rfl,hb,rfl⟩:=hv
 rcases hF with ⟨b',c,T,fz,F',k1,k2,k3,k4,k5,k6,k7⟩|⟨k1,_,_⟩
 ·have:b'=b:=by omega
  subst this
  simp only[MF] at k7
  obtain ⟨u,cs',F1,F2,e1,e2,e3,rfl,e5,rfl,rfl⟩:=k7
  refine ⟨trivial,b',0,u,by simp,.inr (hFΩ _ (by simp[k6])),⟨c,T,fz,k2,fun j x hj=> ?_⟩,e3,e2,MV.view (fun _ => .inl) g u F1 (fun x hx=> .inr (hFΩ x (by simp[k6,hx]))) e5⟩
  have e1':c.toList.take (1 * sz)=u.cells.toList:=by simpa using e1
  have h2:(c.toList.take (1 * sz))[j]? = some x:=by rw[e1'];exact hj
  rw[List.getElem?_take] at h2
  split at h2
  ·simpa using h2
  ·cases h2
 ·omega
end Go.Gh
namespace Go.Gh
end Go.Gh
namespace Go.Gh
def expZ:Exp:= .mk 0 0 0 0 noS noS []
theorem mkX (k n p t:Int) (s m:ByteArray) (a:List Exp):Ex (.mk k n p t s m a) = .agg [I k,I n,I p,I t,T s,T m,ExS a]:=ZA _
theorem noD_ExO:∀e:Exp,noD (ExO e)=true:=by
 refine Exp.indA fun e ih=> ?_
 rw[ExO_eq]
 simp only[noD,noDL,noDL_eq,Bool.true_and,Bool.and_true,List.all_map,List.all_eq_true]
 exact fun a ha=>ih a ha
end Go.Gh
namespace Go.Gh
abbrev Oc:=Int×ByteArray
def ltN (a b:ByteArray):Bool:=Op.bytesLess (Z9 a) (Z9 b)
def ltO (a b:Oc):Bool:=decide (a.1<b.1)||(decide (a.1=b.1)&&ltN a.2 b.2)
end Go.Gh
namespace Go.Gh
open Go.ChangeShapes Go.WideShapes Go.ChangeAt Go.RowKit
def tabH (T:GH):Prop:=(names T).Nodup ∧ ∀x∈T,x.1 % 4=3∧1000000≤x.2.1∧x.2.2=[]
def PureT (P:Program) (T:GH) (f:FuncId) (gs:List GV) (R:GV→Prop):Prop:=GCalls P f gs T (fun g _ => R g)
theorem hget_mem:∀{H:GH} {x:Nat×Nat×List GV},(names H).Nodup → x∈H→Z6 H x.1=some x.2
 | [],_,_,h=>by cases h
 | (r,y)::H,x,hn,h=>by
  simp only[names,List.map_cons,List.nodup_cons] at hn
  simp only[Z6]
  rcases List.mem_cons.1 h with rfl|h
  ·simp
  ·have:r≠x.1:=fun e=>hn.1 (by rw[e];exact List.mem_map_of_mem h)
   rw[if_neg this]
   exact hget_mem hn.2 h
theorem HM.tabs {w:World} {D:Nat→Prop} {H:GH} {Ω:List Nat} (h:HM w D H Ω) (hn:(names H).Nodup):∀{T:GH},(∀x∈T,x.1 % 4=3∧1000000≤x.2.1∧x.2.2=[])→(∀x∈T,x∈H)→HM w D T []
 | [],_,_ => rfl
 | (r,sz,es)::T,hT,hs=>by
  obtain ⟨F,hF,_⟩:=h.mem (hget_mem hn (hs _ (List.mem_cons_self ..)))
  have ht:=hT _ (List.mem_cons_self ..)
  refine ⟨[],[],rfl,?_,HM.tabs h hn (fun x hx=>hT x (List.mem_cons_of_mem _ hx)) (fun x hx=>hs x (List.mem_cons_of_mem _ hx))⟩
  rcases hF with ⟨b,c,T,fz,F',k1,_⟩|hF
  ·have:=ht.1
   dsimp only at this k1
   omega
  ·exact .inr ⟨hF.1,ht.2.2,rfl⟩
theorem PureT.frame {P:Program} {T:GH} {f:FuncId} {gs:List GV} {R:GV→Prop} (h:PureT P T f gs R) (hT:tabH T) {H:GH} (hs:∀x∈T,x∈H):GCalls P f gs H (fun g H'=>R g∧H'=H):=by
 intro w D Ω args hst hargs
 have hs0:St w D T []:=⟨HM.tabs hst.hm hst.nn hT.2 hs,List.nodup_nil,hT.1,by simp,hst.ds⟩
 refine Yld.mono (fun v w' ⟨g,H',D',Ω',k1,k2,k3,k4⟩=> ?_) (h w D [] args hs0 hargs)
 have hk:Kept w w' (fun _ => True):=k4.kp.mono fun _ _ _ => by simp
 have hlt:∀b∈Ω,b<w.heap.size:=HM.flt hst.hm
 refine ⟨g,H,D',Ω,⟨k1,rfl⟩,k2,⟨HM.keep hk (fun _ _ => trivial) k4.d0 (fun _ _ => trivial) hst.hm,hst.nd,hst.nn,fun b hb hD=> ?_,k3.ds⟩,
  ⟨k4.d0,fun b hb hD=> .inl ((k4.dn b hb hD).resolve_right (by simp)),fun _ h _ => h,hk.mono fun _ _ _ => trivial,k4.os,k4.tape,k4.output⟩⟩
 rcases k4.dn b (hlt b hb) hD with h1|h1
 ·exact hst.dj b hb h1
 ·simp at h1
theorem PureT.bor {P:Program} {T:GH} {f:FuncId} {gs:List GV} {G:GV} (h:GCalls P f gs T (fun g H=>Bor H g G)):PureT P T f gs (· = G):=
 h.fr fun _ _ hb=>⟨G,[],FR.all hb,rfl⟩
theorem PureT.of {P:Program} {T:GH} {f:FuncId} {gs:List GV} {R:GV→Prop} (h:Pure P f gs R):PureT P T f gs R:=(h.frame T).mono fun _ _ h=>h.1
theorem callS.eqT {P:Program} {K:Env→GH→Prop} {is:List GI} {env:Env} {H T:GH} {d:Option Nat} {det:Bool} {f:FuncId} {gs:List GV} {G:GV} (h:PureT P T f gs (· = G)) (hT:tabH T) (hs:∀x∈T,x∈H) (hk:Z7 P is K (gput env d G) H):callS P det f (some gs) d is K env H:=by
 unfold callS
 cases det
 ·exact ⟨fun g H'=>g=G∧H'=H,h.frame hT hs,fun g H' ⟨e1,e2⟩ _ => by subst e1;subst e2;exact hk⟩
 ·exact ⟨G,h.frame hT hs,hk⟩
theorem PureT.out {P:Program} {T:GH} {f:FuncId} {F:GFun} {gs:List GV} {R:GV→Prop} (h:PureT P T f gs R) (hF:IsFun P f F) {W:World} {args:List Value} (hargs:ML W (Yr W) gs args []) (hT:HM W (Yr W) T []) (hn:(names T).Nodup) :
 Calls P f args.toArray W fun e W'=>∃v g D,e = .returned v∧R g∧MV W' D g v []∧Below W.heap.size W W':=by
 have:=h W (Yr W) [] args ⟨hT,List.nodup_nil,hn,by simp,fun _ h=>h⟩ hargs
 rw[callFunc_run hF] at this
 refine Calls.mono this fun e W' ⟨v,h1,g,H',D',Ω',k1,k2,k3,k4⟩=>⟨v,g,D',h1,k1,k2,?_⟩
 exact ⟨k4.os,k4.tape,k4.output,k4.kp.size,fun k hk=>k4.kp.block k hk (by simp)⟩
def tab10 (n:Nat):GH:=[(4 * n+3,1000000,[])]
theorem Zq (n:Nat):tabH (tab10 n):=⟨by simp[tab10,names],fun x hx=>by
 simp only[tab10,List.mem_singleton] at hx
 subst hx
 exact ⟨by dsimp only;omega,by dsimp only;omega,rfl⟩⟩
open Lib in
theorem HM.tab10 {P:Program} {W:World} {n:Nat} {s:String} (hg:P.globalNamed s=some n) (h:TabIs P W s .u64 pow10Tab):HM W (Yr W) (tab10 n) []:=by
 simp only[TabIs,World.var?,hg,Option.bind_some] at h
 refine ⟨[],[],rfl,.inr ⟨⟨by omega,fun _ _ => ?_⟩,rfl,rfl⟩,rfl⟩
 have e:(4 * n+3) / 4=n:=by omega
 unfold TB
 rw[e]
 split at h
 case h_2=>cases h
 rename_i c T fz hb
 simp only[Option.some.injEq] at h
 refine ⟨lt_of_heap hb,c,T,fz,hb,?_⟩
 rw[h]
 simp only[tabP,if_true,pow10Tab,List.map_map]
 rfl
open Lib in
theorem HM.is10 {P:Program} {w:World} {D:Nat→Prop} {n:Nat} {s:String} {H:GH} {Ω:List Nat} (hg:P.globalNamed s=some n) (h:HM w D H Ω) (hn:(names H).Nodup) (hm:(4 * n+3,1000000,[])∈H):TabIs P w s .u64 pow10Tab:=by
 obtain ⟨F,hF,_⟩:=h.mem (hget_mem hn hm)
 have e:(4 * n+3) / 4=n:=by omega
 rcases hF with ⟨b,c,T,fz,F',k1,_⟩|hF
 ·dsimp only at k1;omega
 ·obtain ⟨_,c,T,fz,h1,h2⟩:=hF.1.2 (by dsimp only;omega) (Nat.le_refl _)
  dsimp only at h1
  rw[e] at h1
  simp only[TabIs,World.var?,hg,Option.bind_some,h1]
  simp only[tabP,if_true] at h2
  rw[h2]
  simp only[pow10Tab,List.map_map]
  rfl
open Lib Go.Sort in
theorem itoa_ok {P:Program} {f g:Nat} {s:String} (hg:P.globalNamed s=some g) {args:Int→Array Value} {n:Int} {gs:List GV} (hgs:∀w D vs,ML w D gs vs []→vs.toArray=args n)
 (hc:∀w:World,TabIs P w s .u64 pow10Tab→Calls P f (args n) w fun e w'=>e = .returned (.string ⟨(itoa n).toArray⟩)∧∃k os,w'=grow (w.drewN k) os)
 (eg:∀args w,(callFunc f args).run P w = .ok (.enter f args) w):PureT P (tab10 g) f gs (· = .val (mkS (itoa n))):=by
 intro w D Ω vs hst hargs
 rw[eg,hgs _ _ _ hargs]
 show Calls P f _ w _
 refine (hc w (HM.is10 hg hst.hm hst.nn (by simp[tab10]))).mono ?_
 rintro e w' ⟨rfl,k,os,rfl⟩
 have hk:Kept w (grow (w.drewN k) os) (fun _ => True):=by
  refine ⟨fun b hb _ => ?_,?_,fun b c T fz hx=>⟨c,fz,?_,rfl⟩⟩
  ·show (w.heap++os)[b]? = _
   rw[Array.getElem?_append_left hb]
  ·show _ ≤ (w.heap++os).size
   rw[Array.size_append];omega
  ·show (w.heap++os)[b]? = _
   rw[Array.getElem?_append_left (lt_of_heap hx)];exact hx
 refine ⟨_,rfl,_,tab10 g,D,Ω,rfl,MV.val_mk _,⟨HM.keep hk (fun _ _ => trivial) (fun _ h=>h) (fun _ _ => trivial) hst.hm,hst.nd,hst.nn,hst.dj,fun b hb=>Nat.lt_of_lt_of_le (hst.ds b hb) hk.size⟩,
  ⟨fun _ h=>h,fun _ _ h=> .inl h,fun _ h _ => h,hk.mono fun _ _ _ => trivial,rfl,rfl,rfl⟩⟩
end Go.Gh
namespace Go.Gh
open Lib
def dgs (u:Nat):List UInt8:=if u=0 then [] else decDigits u
theorem dgs_step {u:Nat} (h:u≠0) (out:List UInt8):dgs u++out=dgs (u / 10)++(UInt8.ofNat (48+u % 10)::out):=by
 unfold dgs
 rw[if_neg h]
 by_cases h1:u<10
 ·rw[decDigits_one h1,if_pos (by omega),Nat.mod_eq_of_lt h1]
  rfl
 ·rw[decDigits,dif_neg h1,if_neg (by omega)]
  simp
theorem itoa_dgs {n:Int} (h:n≠0):itoa n=if n<0 then 45::dgs n.natAbs else dgs n.natAbs:=by
 unfold itoa dgs
 have e:n.natAbs≠0:=by omega
 rw[if_neg e]
 by_cases h1:n<0
 ·rw[if_pos h1,if_pos h1]
 ·rw[if_neg h1,if_neg h1]
  congr 1
  omega
theorem itoa_0:itoa 0=[48]:=by
 unfold itoa
 rw[if_neg (by omega)]
 exact decDigits_one (by decide)
theorem nDigits_le:∀(k u:Nat),u<10 ^ (k+1)→nDigits u≤k+1
 | 0,u,h=>by rw[nDigits_small (by simpa using h)];omega
 | k+1,u,h=>by
  rw[nDigits]
  split
  ·omega
  ·have:=nDigits_le k (u / 10) (by rw[Nat.pow_succ] at h;omega)
   omega
theorem dgs_len {u:Nat} (h:u≤9223372036854775808):(dgs u).length ≤ 19:=by
 unfold dgs
 split
 ·simp
 ·rw[decDigits_length]
  exact nDigits_le 18 u (by omega)
theorem tmod10 (n:Int):(if n.tmod 10<0 then 0-n.tmod 10 else n.tmod 10)=((n.natAbs % 10:Nat):Int):=by
 have h:(n.tmod 10).natAbs = n.natAbs % 10:=by rw[Int.natAbs_tmod];rfl
 split<;>omega
theorem tdiv10 (n:Int):(n.tdiv 10).natAbs = n.natAbs / 10:=by rw[Int.natAbs_tdiv];rfl
theorem digB:∀d,d<10→UInt8.ofNat (IntKind.u8.wrap (48+((d:Nat):Int))).toNat = UInt8.ofNat (48+d):=by decide
theorem mod_lt10 (u:Nat):u % 10<10:=Nat.mod_lt _ (by decide)
end Go.Gh
namespace Go.Gh
theorem ltN_eq (a b:ByteArray):ltN a b=decide (Z9 a<Z9 b):=Proofs.bytesLess_eq _ _
theorem ltN_irr (a:ByteArray):ltN a a=false:=by
 rw[ltN_eq];exact decide_eq_false (List.lt_irrefl _)
theorem ltN_trans {a b c:ByteArray} (h:ltN a b=true) (k:ltN b c=true):ltN a c=true:=by
 rw[ltN_eq,decide_eq_true_eq] at *;exact List.lt_trans h k
theorem ltO_iff {a b:Oc}:ltO a b=true↔a.1<b.1∨(a.1=b.1∧ltN a.2 b.2=true):=by simp[ltO]
theorem ltO_irr (a:Oc):ltO a a=false:=by simp[ltO,ltN_irr]
theorem ltO_trans {a b c:Oc} (h:ltO a b=true) (k:ltO b c=true):ltO a c=true:=by
 rw[ltO_iff] at *
 rcases h with h|⟨h1,h2⟩<;>rcases k with k|⟨k1,k2⟩
 ·exact .inl (by omega)
 ·exact .inl (by omega)
 ·exact .inl (by omega)
 ·exact .inr ⟨by omega,ltN_trans h2 k2⟩
theorem ltO_asym {a b:Oc} (h:ltO a b=true):ltO b a=false:=by
 cases q:ltO b a
 ·rfl
 ·have:=ltO_trans h q;rw[ltO_irr] at this;cases this
abbrev SSO (l:List Oc):Prop:=l.Pairwise fun a b=>ltO a b=true
theorem SSO.ext:∀{l k:List Oc},SSO l→SSO k→(∀x,x∈l↔x∈k)→l=k
 | [],[],_,_,_ => rfl
 | [],b::k,_,_,h=>by have:=(h b).2 (by simp);simp at this
 | a::l,[],_,_,h=>by have:=(h a).1 (by simp);simp at this
 | a::l,b::k,h1,h2,h=>by
  rw[SSO,List.pairwise_cons] at h1 h2
  have e:a=b:=by
   rcases List.mem_cons.1 ((h a).1 (by simp)) with e|e
   ·exact e
   ·rcases List.mem_cons.1 ((h b).2 (by simp)) with e'|e'
    ·exact e'.symm
    ·have q1:=h2.1 a e
     have q2:=h1.1 b e'
     rw[ltO_asym q1] at q2;cases q2
  subst e
  congr 1
  refine SSO.ext h1.2 h2.2 fun x=>⟨fun hx=> ?_,fun hx=> ?_⟩
  ·rcases List.mem_cons.1 ((h x).1 (by simp[hx])) with e|e
   ·subst e;have:=h1.1 _ hx;rw[ltO_irr] at this;cases this
   ·exact e
  ·rcases List.mem_cons.1 ((h x).2 (by simp[hx])) with e|e
   ·subst e;have:=h2.1 _ hx;rw[ltO_irr] at this;cases this
   ·exact e
end Go.Gh
namespace Go.Gh
open Go.Sort (HoldsK Holds flatK putRowK grow)
open Go.Proofs (sortWorldK)
open Go.Proofs (ltOf)
end Go.Gh
namespace Go.Gh
theorem all_no {α:Type} {p:α→Bool} {l:List α} {i:Nat} (h:i<l.length) (hp:p l[i]=false):l.all p=false:=by
 rw[List.all_eq_false]
 exact ⟨l[i],List.getElem_mem h,by simp[hp]⟩
theorem takeP_step {α:Type} {p:α→Bool} {l:List α} {i:Nat} {b:Bool} (h:i<l.length) (hp:p l[i]=b) (hn:∀a∈l.take i,p a=b):∀a∈l.take (i+1),p a=b:=by
 intro a ha
 rw[List.take_add_one,List.getElem?_eq_getElem h,Option.toList_some,List.mem_append] at ha
 rcases ha with ha|ha
 ·exact hn a ha
 ·simp only[List.mem_singleton] at ha;rw[ha];exact hp
def attV (a:Att):Bool:=ZS a.name&&(decide (1≤a.type∧a.type≤4)&&(decide (1≤a.mode∧a.mode≤3)&&(if a.mode=3 then decide (a.type=2) && !a.circ else !a.circ || decide (a.type=2))))
def dupA (l:List Att) (i:Nat):Bool:=(l.take i).any fun o=>decide (o.name=(l.getD i attZ).name)
def symV (s:Sym):Bool:=s.atts.all attV&&((List.range s.atts.length).all fun i=> !dupA s.atts i)&&(ZS s.name&&decide (s.atts.length≤4))
def fitE (e:Exp) (n:Int):Bool:=Zo e&&YR (fun x=>decide (x.pos≤n)) e
def eqnV (n:Nat) (q:Eqn):Bool:=fitE q.expr n&&(ZS q.name&&decide (0≤q.pos∧q.pos≤n))
def conV (n:Nat) (c:Con):Bool:=fitE c.goal n&&(fitE c.value n&&(ZS c.sym&&ZS c.name))
def YX (r:Rul):Bool:=ZS r.name&&(ZS r.left&&(decide (r.right.length≤3)&&(decide (r.cons.length≤2)&&(r.right.all ZS&&(r.eqs.all (eqnV r.right.length)&&r.cons.all (conV r.right.length))))))
def hOf (g:Gram) (out:List Int) (n:ByteArray):Int:=if ixOf (fun s:Sym=>decide (s.name=n)) g.syms<0 then 0 else out.getD (ixOf (fun s:Sym=>decide (s.name=n)) g.syms).toNat 0
def rchR (g:Gram) (out:List Int) (s:ByteArray) (r:Rul):Bool:=decide (r.left=s)&&r.right.all fun c=>decide (0<hOf g out c)
def rchS (g:Gram) (out:List Int) (s:ByteArray):Bool:=g.rules.any (rchR g out s)
def hNext (g:Gram) (round:Int) (out:List Int) (i:Nat):Int:=if 0<out.getD i 0 then out.getD i 0 else if rchS g out (g.syms.getD i symZ).name then round else out.getD i 0
def hIt (g:Gram):Nat→List Int
 | 0=>List.replicate g.syms.length 0
 | k+1=>(List.range g.syms.length).map (hNext g ((k:Int)+1) (hIt g k))
def hgts (g:Gram):List Int:=hIt g g.syms.length
end Go.Gh
namespace Go.Gh
def dC (T:List (List Int)) (goal:Nat) (d:Nat) (out:List Int) (k:Int):Bool:=
 if d=1 then decide (k=goal) else decide (k≠goal)&&decide (0≤k)&&decide (out.getD k.toNat 0=(d:Int)-1)
def dS (T:List (List Int)) (goal:Nat) (d:Nat) (out:List Int) (i:Nat):Int:=
 if out.getD i 0≠0 then out.getD i 0 else if (T.getD i []).any (dC T goal d out) then d else 0
def dL (T:List (List Int)) (goal:Nat):Nat→List Int
 | 0=>List.replicate T.length 0
 | d+1=>(List.range T.length).map (dS T goal (d+1) (dL T goal d))
def dst (T:List (List Int)) (goal:Nat):List Int:=dL T goal T.length
end Go.Gh
namespace Go.Gh
theorem GCalls.nd {P:Program} {f:FuncId} {gs:List GV} {H:GH} {R:GV→GH→Prop} (h:(names H).Nodup → GCalls P f gs H R):GCalls P f gs H R:=
 fun w D Ω args hst hargs=>h hst.nn w D Ω args hst hargs
theorem GCalls.sub {P:Program} {f:FuncId} {gs:List GV} {H L T:GH} {R:GV→GH→Prop} (hs:subH H L) (h:GCalls P f gs (L++T) R):GCalls P f gs (H++T) R:=by
 intro w D Ω args hst hargs
 obtain ⟨Ω',h1,h2⟩:=hst.sub hs
 refine Yld.mono (fun v w' ⟨g,H',D',Ω'',k1,k2,k3,k4⟩=> ?_) (h w D Ω' args h1 hargs)
 exact ⟨g,H',D',Ω'',k1,k2,k3,⟨k4.d0,fun b hb hD=>(k4.dn b hb hD).imp id (h2 b),fun b hb hl=>h2 b (k4.on b hb hl),k4.kp.mono fun b _ hb hb'=>hb (h2 b hb'),k4.os,k4.tape,k4.output⟩⟩
end Go.Gh
namespace Go.Gh
theorem rulV_r {r:Rul} {i:Nat} (h:i<r.right.length) (hb:ZS r.right[i]=false):YX r=false:=by
 simp only[YX,all_no h hb,Bool.false_and,Bool.and_false]
theorem rulV_e {r:Rul} {i:Nat} (h:i<r.eqs.length) (hb:eqnV r.right.length r.eqs[i]=false):YX r=false:=by
 simp only[YX,all_no h hb,Bool.false_and,Bool.and_false]
theorem rulV_c {r:Rul} {i:Nat} (h:i<r.cons.length) (hb:conV r.right.length r.cons[i]=false):YX r=false:=by
 simp only[YX,all_no h hb,Bool.false_and,Bool.and_false]
theorem rulV_h {r:Rul} (h:¬(ZS r.name=true∧ZS r.left=true∧r.right.length≤3∧r.cons.length≤2)):YX r=false:=by
 cases e:YX r with
 | false=>rfl
 | true=>
  simp only[YX,Bool.and_eq_true,decide_eq_true_eq] at e
  exact absurd ⟨e.1,e.2.1,e.2.2.1,e.2.2.2.1⟩ h
theorem rulV_ok {r:Rul} (h:ZS r.name=true∧ZS r.left=true∧r.right.length≤3∧r.cons.length≤2) (h1:∀s∈r.right,ZS s=true) (h2:∀q∈r.eqs,eqnV r.right.length q=true) (h3:∀c∈r.cons,conV r.right.length c=true):YX r=true:=by
 simp only[YX,Bool.and_eq_true,decide_eq_true_eq,List.all_eq_true]
 exact ⟨h.1,h.2.1,h.2.2.1,h.2.2.2,h1,h2,h3⟩
end Go.Gh
namespace Go.Gh
end Go.Gh
namespace Go.Gh
end Go.Gh
namespace Go.Gh
end Go.Gh
namespace Go.Gh
end Go.Gh
namespace Go.Gh
end Go.Gh
namespace Go.Gh
end Go.Gh
namespace Go.Gh
open Lib
end Go.Gh
namespace Go.Gh
end Go.Gh
namespace Go.Gh
end Go.Gh
namespace Go.Gh
@[ext] structure Edi where
 kind:Int
 node:Int
 other:Int
 lit:Int
 tree:List Nod
 deriving DecidableEq
end Go.Gh
namespace Go.Gh
inductive Fo where
 | nil:Fo
 | cons (id:Int) (rule:ByteArray) (lit:Int) (ks rest:Fo):Fo
namespace Fo
def sz:Fo→Nat
 | nil=>0
 | cons _ _ _ ks rest=>1+ks.sz+rest.sz
def strt:Fo→Int→List Int
 | nil,_ => []
 | cons _ _ _ ks rest,b=>b::rest.strt (b+1+ks.sz)
def flt:Fo→Int→Int→Int→List Nod
 | nil,_,_,_ => []
 | cons i r l ks rest,b,p,q=>⟨i,p,q,l,r,ks.strt (b+1)⟩::(ks.flt (b+1) b 1++rest.flt (b+1+ks.sz) p (q+1))
def one:Fo→Prop
 | cons _ _ _ _ nil=>True
 | _ => False
def app:Fo→Fo→Fo
 | nil,r=>r
 | cons i r l ks rest,s=>cons i r l ks (rest.app s)
end Fo
inductive Pa where
 | here:Pa
 | down (π:Pa):Pa
 | next (π:Pa):Pa
namespace Fo
def put:Fo→Pa→Fo→Fo
 | nil,_,_ => nil
 | cons _ _ _ _ rest,.here,S=>S.app rest
 | cons i r l ks rest,.down π,S=>cons i r l (ks.put π S) rest
 | cons i r l ks rest,.next π,S=>cons i r l ks (rest.put π S)
def pos:Fo→Pa→Nat
 | nil,_ => 0
 | cons ..,.here => 0
 | cons _ _ _ ks _,.down π=>1+ks.pos π
 | cons _ _ _ ks rest,.next π=>1+ks.sz+rest.pos π
def ok:Fo→Pa→Prop
 | nil,_ => False
 | cons ..,.here => True
 | cons _ _ _ ks _,.down π=>ks.ok π
 | cons _ _ _ _ rest,.next π=>rest.ok π
end Fo
namespace Fo
end Fo
end Go.Gh
namespace Go.Gh
def fitR (g:Gram) (r:ByteArray) (l:Int) (s:ByteArray):Prop:=hRul g.rules r=true∧(fRul g.rules r).left = s∧(-1000000≤l∧l≤1000000)∧((fRul g.rules r).lit = true∨(fRul g.rules r).lit = false∧l=0)
namespace Fo
def wf (g:Gram):Fo→List ByteArray→Prop
 | nil,[]=>True
 | cons _ r l ks rest,s::ss=>fitR g r l s∧ks.wf g (fRul g.rules r).right ∧ rest.wf g ss
 | _,_ => False
end Fo
end Go.Gh
namespace Go.Gh
@[ext] structure Tok where
 kind:Int
 num:Int
 at':Int
 text:ByteArray
deriving DecidableEq
abbrev Tk (x:Tok):GV:= .agg [I x.kind,I x.num,I x.at',T x.text]
abbrev TkS (l:List Tok):GV:= .sl 4 (l.map Tk)
def Y5:Tok:=⟨0,0,0,noS⟩
def isW (t:Tok) (w:ByteArray):Bool:=(decide (t.kind=1)||decide (t.kind=3))&&decide (t.text=w)
inductive PR (α:Type) where
 | bad (i:Nat):PR α
 | ok (a:α) (i:Nat):PR α
def PR.bind {α β:Type}:PR α→(α→Nat→PR β)→PR β
 | .bad i,_ => .bad i
 | .ok a i,f=>f a i
abbrev bs (l:List UInt8):ByteArray:=⟨l.toArray⟩
def wIf:ByteArray:=⟨#[105,102]⟩
def wThen:ByteArray:=⟨#[116,104,101,110]⟩
def wElse:ByteArray:=⟨#[101,108,115,101]⟩
def wTrue:ByteArray:=⟨#[116,114,117,101]⟩
def Yi:ByteArray:=⟨#[102,97,108,115,101]⟩
def wLit:ByteArray:=⟨#[108,105,116]⟩
def wNone:ByteArray:=⟨#[110,111,110,101]⟩
def wSelf:ByteArray:=⟨#[115,101,108,102]⟩
def wOf:ByteArray:=⟨#[111,102]⟩
def wMax:ByteArray:=⟨#[109,97,120]⟩
def wMin:ByteArray:=⟨#[109,105,110]⟩
def wHas:ByteArray:=⟨#[104,97,115]⟩
def wWith:ByteArray:=⟨#[119,105,116,104]⟩
def wLP:ByteArray:=⟨#[40]⟩
def wRP:ByteArray:=⟨#[41]⟩
def wLB:ByteArray:=⟨#[123]⟩
def wRB:ByteArray:=⟨#[125]⟩
def Yv:ByteArray:=⟨#[44]⟩
def Zc:ByteArray:=⟨#[46]⟩
def wDol:ByteArray:=⟨#[36]⟩
def sees (ts:List Tok) (i:Nat) (w:ByteArray):Bool:=decide (i<ts.length)&&isW (ts.getD i Y5) w
def ZW (ts:List Tok) (i:Nat) (w:ByteArray):PR Unit:=if sees ts i w=true then .ok () (i+1) else .bad i
def Zv (ts:List Tok) (i:Nat) (lo hi:Int):PR Int:=
 if i<ts.length∧(ts.getD i Y5).kind = 2∧lo≤(ts.getD i Y5).num ∧ (ts.getD i Y5).num ≤ hi then .ok (ts.getD i Y5).num (i+1) else .bad i
def ZO (ts:List Tok) (i:Nat):PR ByteArray:=
 if i<ts.length∧(ts.getD i Y5).kind = 1∧ZS (ts.getD i Y5).text = true then .ok (ts.getD i Y5).text (i+1) else .bad i
def conE (n k:Int):Exp:= .mk 1 n 0 k noS noS []
def opE (op:Int) (a b:Exp):Exp:= .mk 4 op 0 0 noS noS [a,b]
def YM (ts:List Tok):Nat→Nat→Int→Int→PR Int
 | 0,i,_,_ => .bad i
 | f+1,i,least,set=>if sees ts i wRB=true then .ok set (i+1) else (Zv ts i least 11).bind fun n j=>YM ts f j (n+1) (orI .i64 set (shlI .i64 1 n))
def funO (s:ByteArray):Int:=if s=wMax then 4 else if s=wMin then 5 else if s=wHas then 11 else if s=wWith then 12 else 0
def opAt (ts:List Tok) (i lv:Nat):Int:=
 if lv=1 then (if sees ts i ⟨#[60]⟩=true then 9 else if sees ts i ⟨#[61,61]⟩=true then 10 else 0) else
 if lv=2 then (if sees ts i ⟨#[43]⟩=true then 1 else if sees ts i ⟨#[45]⟩=true then 2 else if sees ts i ⟨#[124]⟩=true then 6 else if sees ts i ⟨#[92]⟩=true then 8 else 0) else
 if lv=3 then (if sees ts i ⟨#[42]⟩=true then 3 else if sees ts i ⟨#[38]⟩=true then 7 else 0) else 0
def Y6 (ts:List Tok) (E A:Nat→PR Exp) (i:Nat):PR Exp:=
 let t:=ts.getD i Y5
 if ¬i<ts.length then .bad i else
 if t.kind=2 then .ok (conE t.num 1) (i+1) else
 if isW t wLB=true then (YM ts (ts.length+1) (i+1) 0 0).bind fun s j=> .ok (conE s 2) j else
 if isW t wTrue=true then .ok (conE 1 3) (i+1) else
 if isW t Yi=true then .ok (conE 0 3) (i+1) else
 if isW t wLit=true then .ok (.mk 2 0 0 0 noS noS []) (i+1) else
 if isW t wNone=true then .ok (.mk 7 0 0 0 noS noS []) (i+1) else
 if isW t wDol=true then (Zv ts (i+1) 0 3).bind fun p j=>(ZW ts j Zc).bind fun _ j=>(ZO ts j).bind fun n j=> .ok (.mk 3 0 p 0 noS n []) j else
 if isW t wSelf=true then (ZW ts (i+1) wLP).bind fun _ j=>(Zv ts j 0 3).bind fun p j=>(ZW ts j wRP).bind fun _ j=> .ok (.mk 6 0 p 0 noS noS []) j else
 if isW t wLP=true then (E (i+1)).bind fun e j=>(ZW ts j wRP).bind fun _ j=> .ok e j else
 if t.kind=1∧funO t.text≠0 then (ZW ts (i+1) wLP).bind fun _ j=>(E j).bind fun a j=>(ZW ts j Yv).bind fun _ j=>(E j).bind fun b j=>(ZW ts j wRP).bind fun _ j=> .ok (opE (funO t.text) a b) j else
 (ZO ts i).bind fun s j=>(ZW ts j Zc).bind fun _ j=>(ZO ts j).bind fun n j=>(ZW ts j wOf).bind fun _ j=>(A j).bind fun e j=> .ok (.mk 8 0 0 0 s n [e]) j
def YO (ts:List Tok) (X:Nat→PR Exp) (lv:Nat):Nat→Exp→Nat→PR Exp
 | 0,_,i=> .bad i
 | f+1,e,i=>if opAt ts i lv=0 then .ok e i else (X (i+1)).bind fun b j=>if lv=1 then .ok (opE (opAt ts i lv) e b) j else YO ts X lv f (opE (opAt ts i lv) e b) j
def lvP (ts:List Tok) (X:Nat→PR Exp) (lv i:Nat):PR Exp:=(X i).bind fun e j=>YO ts X lv (ts.length+1) e j
def Yg (ts:List Tok) (E A:Nat→PR Exp) (i:Nat):PR Exp:=
 if sees ts i wIf=true then (E (i+1)).bind fun a j=>(ZW ts j wThen).bind fun _ j=>(E j).bind fun b j=>(ZW ts j wElse).bind fun _ j=>(E j).bind fun c j=> .ok (.mk 5 0 0 0 noS noS [a,b,c]) j
 else lvP ts (lvP ts (lvP ts A 3) 2) 1 i
mutual
def pE (ts:List Tok):Nat→Nat→PR Exp
 | 0,i=> .bad i
 | f+1,i=>Yg ts (pE ts f) (pA ts f) i
def pA (ts:List Tok):Nat→Nat→PR Exp
 | 0,i=> .bad i
 | f+1,i=>Y6 ts (pE ts f) (pA ts f) i
end
def parT (ts:List Tok) (len:Int):Exp×Int:=
 let off (i:Nat):Int:=if i<ts.length then (ts.getD i Y5).at' else len
 match pE ts (2 * ts.length+4) 0 with
 | .bad i=>(.mk 0 0 0 0 noS noS [],off i)
 | .ok e i=>if i<ts.length then (.mk 0 0 0 0 noS noS [],off i) else if Zo e=true then (e, -1) else (.mk 0 0 0 0 noS noS [],0)
end Go.Gh
namespace Go.Gh
def ExtP {α:Type} (P P':PR α):Prop:=∀a i,P = .ok a i→P' = .ok a i
theorem ExtP.refl {α:Type} (P:PR α):ExtP P P:=fun _ _ h=>h
theorem ExtP.bad {α:Type} (i:Nat) (P:PR α):ExtP (.bad i) P:=fun _ _ h=>by cases h
theorem ExtP.bind {α β:Type} {P P':PR α} {f f':α→Nat→PR β} (h:ExtP P P') (hf:∀a i,ExtP (f a i) (f' a i)):ExtP (P.bind f) (P'.bind f'):=by
 intro a i e
 cases P with
 | bad j=>cases e
 | ok b j=>rw[h b j rfl];exact hf b j a i e
theorem ExtP.ite {α:Type} {c:Prop} [Decidable c] {a b a' b':PR α} (h1:c→ExtP a a') (h2:¬c→ExtP b b'):ExtP (if c then a else b) (if c then a' else b'):=by
 by_cases h:c
 ·rw[if_pos h,if_pos h];exact h1 h
 ·rw[if_neg h,if_neg h];exact h2 h
theorem ExtP.trans {α:Type} {P Q R:PR α} (h:ExtP P Q) (k:ExtP Q R):ExtP P R:=fun a i e=>k a i (h a i e)
structure Tail (ts us:List Tok):Prop where
 pre:∀i,i<ts.length→i<us.length∧us.getD i Y5=ts.getD i Y5
 len:ts.length≤us.length
 out:∀i w,¬i<ts.length→w≠wRP→sees us i w=false
variable {ts us:List Tok}
theorem Tail.sees (h:Tail ts us) {i:Nat} {w:ByteArray} (hs:sees ts i w=true):sees us i w=true:=by
 simp only[Go.Gh.sees,Bool.and_eq_true,decide_eq_true_eq] at hs ⊢
 obtain ⟨h1,h2⟩:=h.pre i hs.1
 exact ⟨h1,by rw[h2];exact hs.2⟩
theorem Tail.sees_eq (h:Tail ts us) (i:Nat) {w:ByteArray} (hw:w≠wRP):Go.Gh.sees us i w=Go.Gh.sees ts i w:=by
 by_cases hi:i<ts.length
 ·obtain ⟨h1,h2⟩:=h.pre i hi
  simp only[Go.Gh.sees,h2,decide_eq_true h1,decide_eq_true hi]
 ·rw[h.out i w hi hw]
  simp only[Go.Gh.sees,decide_eq_false hi,Bool.false_and]
theorem Tail.take (h:Tail ts us) (i:Nat) (w:ByteArray):ExtP (ZW ts i w) (ZW us i w):=by
 intro a j e
 unfold ZW at *
 split at e
 ·rename_i hs;rw[if_pos (h.sees hs)];exact e
 ·cases e
theorem Tail.num (h:Tail ts us) (i:Nat) (lo hi:Int):ExtP (Zv ts i lo hi) (Zv us i lo hi):=by
 intro a j e
 unfold Zv at *
 split at e
 ·rename_i hs
  obtain ⟨h1,h2⟩:=h.pre i hs.1
  rw[h2,if_pos ⟨h1,hs.2⟩];exact e
 ·cases e
theorem Tail.name (h:Tail ts us) (i:Nat):ExtP (ZO ts i) (ZO us i):=by
 intro a j e
 unfold ZO at *
 split at e
 ·rename_i hs
  obtain ⟨h1,h2⟩:=h.pre i hs.1
  rw[h2,if_pos ⟨h1,hs.2⟩];exact e
 ·cases e
theorem Tail.set (h:Tail ts us):∀(f f':Nat) (i:Nat) (l s:Int),f≤f'→ExtP (YM ts f i l s) (YM us f' i l s)
 | 0,_,i,l,s,_ => ExtP.bad _ _
 | f+1,0,i,l,s,hf=>by omega
 | f+1,f'+1,i,l,s,hf=>by
  simp only[YM]
  rw[h.sees_eq i (w:=wRB) (by decide)]
  split
  ·exact .refl _
  ·exact (h.num i l 11).bind fun n j=>h.set f f' _ _ _ (by omega)
theorem Tail.op (h:Tail ts us) (i lv:Nat):opAt us i lv=opAt ts i lv:=by
 unfold opAt
 simp only[h.sees_eq i (w:=⟨#[60]⟩) (by decide),h.sees_eq i (w:=⟨#[61,61]⟩) (by decide),h.sees_eq i (w:=⟨#[43]⟩) (by decide),h.sees_eq i (w:=⟨#[45]⟩) (by decide),h.sees_eq i (w:=⟨#[124]⟩) (by decide),h.sees_eq i (w:=⟨#[92]⟩) (by decide),h.sees_eq i (w:=⟨#[42]⟩) (by decide),h.sees_eq i (w:=⟨#[38]⟩) (by decide)]
theorem Tail.row (h:Tail ts us) {X X':Nat→PR Exp} (hX:∀i,ExtP (X i) (X' i)) (lv:Nat):∀(f f':Nat) (e:Exp) (i:Nat),f≤f'→ExtP (YO ts X lv f e i) (YO us X' lv f' e i)
 | 0,_,e,i,_ => ExtP.bad _ _
 | f+1,0,e,i,hf=>by omega
 | f+1,f'+1,e,i,hf=>by
  simp only[YO]
  rw[h.op]
  split
  ·exact .refl _
  ·refine (hX _).bind fun b j=> ?_
   split
   ·exact .refl _
   ·exact h.row hX lv f f' _ _ (by omega)
theorem Tail.lv (h:Tail ts us) {X X':Nat→PR Exp} (hX:∀i,ExtP (X i) (X' i)) (lv i:Nat):ExtP (lvP ts X lv i) (lvP us X' lv i):=
 (hX i).bind fun e j=>h.row hX lv _ _ _ _ (by have:=h.len;omega)
theorem Tail.atom (h:Tail ts us) {E E' A A':Nat→PR Exp} (hE:∀i,ExtP (E i) (E' i)) (hA:∀i,ExtP (A i) (A' i)) (i:Nat):ExtP (Y6 ts E A i) (Y6 us E' A' i):=by
 by_cases hi:i<ts.length
 ·obtain ⟨h1,h2⟩:=h.pre i hi
  unfold Y6
  dsimp only
  rw[h2,if_neg (not_not_intro hi),if_neg (not_not_intro h1)]
  refine ExtP.ite (fun _ => ?_) (fun _ => ?_)
  ·exact .refl _
  refine ExtP.ite (fun _ => ?_) (fun _ => ?_)
  ·exact (h.set _ _ _ _ _ (by have:=h.len;omega)).bind fun _ _ => .refl _
  refine ExtP.ite (fun _ => ?_) (fun _ => ?_)
  ·exact .refl _
  refine ExtP.ite (fun _ => ?_) (fun _ => ?_)
  ·exact .refl _
  refine ExtP.ite (fun _ => ?_) (fun _ => ?_)
  ·exact .refl _
  refine ExtP.ite (fun _ => ?_) (fun _ => ?_)
  ·exact .refl _
  refine ExtP.ite (fun _ => ?_) (fun _ => ?_)
  ·exact (h.num _ _ _).bind fun _ _ => (h.take _ _).bind fun _ _ => (h.name _).bind fun _ _ => .refl _
  refine ExtP.ite (fun _ => ?_) (fun _ => ?_)
  ·exact (h.take _ _).bind fun _ _ => (h.num _ _ _).bind fun _ _ => (h.take _ _).bind fun _ _ => .refl _
  refine ExtP.ite (fun _ => ?_) (fun _ => ?_)
  ·exact (hE _).bind fun _ _ => (h.take _ _).bind fun _ _ => .refl _
  refine ExtP.ite (fun _ => ?_) (fun _ => ?_)
  ·exact (h.take _ _).bind fun _ _ => (hE _).bind fun _ _ => (h.take _ _).bind fun _ _ => (hE _).bind fun _ _ => (h.take _ _).bind fun _ _ => .refl _
  ·exact (h.name _).bind fun _ _ => (h.take _ _).bind fun _ _ => (h.name _).bind fun _ _ => (h.take _ _).bind fun _ _ => (hA _).bind fun _ _ => .refl _
 ·intro a j e
  unfold Y6 at e
  dsimp only at e
  rw[if_pos hi] at e
  cases e
theorem Tail.expr (h:Tail ts us) {E E' A A':Nat→PR Exp} (hE:∀i,ExtP (E i) (E' i)) (hA:∀i,ExtP (A i) (A' i)) (i:Nat):ExtP (Yg ts E A i) (Yg us E' A' i):=by
 unfold Yg
 rw[h.sees_eq i (w:=wIf) (by decide)]
 split
 ·exact (hE _).bind fun _ _ => (h.take _ _).bind fun _ _ => (hE _).bind fun _ _ => (h.take _ _).bind fun _ _ => (hE _).bind fun _ _ => .refl _
 ·exact h.lv (fun i=>h.lv (fun i=>h.lv hA 3 i) 2 i) 1 i
mutual
theorem Tail.pE (h:Tail ts us):∀(f f' i:Nat),f≤f'→ExtP (pE ts f i) (pE us f' i)
 | 0,_,i,_ => ExtP.bad _ _
 | f+1,0,i,hf=>by omega
 | f+1,f'+1,i,hf=>h.expr (fun i=>Tail.pE h f f' i (by omega)) (fun i=>Tail.pA h f f' i (by omega)) i
theorem Tail.pA (h:Tail ts us):∀(f f' i:Nat),f≤f'→ExtP (pA ts f i) (pA us f' i)
 | 0,_,i,_ => ExtP.bad _ _
 | f+1,0,i,hf=>by omega
 | f+1,f'+1,i,hf=>h.atom (fun i=>Tail.pE h f f' i (by omega)) (fun i=>Tail.pA h f f' i (by omega)) i
end
def BdP {α:Type} (ts:List Tok) (i:Nat) (P:PR α):Prop:=i≤ts.length→∀a j,P = .ok a j→i≤j∧j≤ts.length
theorem BdP.bind {α β:Type} {i:Nat} {P:PR α} {f:α→Nat→PR β} (h:BdP ts i P) (hf:∀a j,BdP ts j (f a j)):BdP ts i (P.bind f):=by
 intro hi a j e
 cases P with
 | bad k=>cases e
 | ok b k=>
  obtain ⟨h1,h2⟩:=h hi b k rfl
  obtain ⟨h3,h4⟩:=hf b k h2 a j e
  exact ⟨by omega,h4⟩
theorem BdP.ite {α:Type} {i:Nat} {c:Prop} [Decidable c] {a b:PR α} (h1:c→BdP ts i a) (h2:¬c→BdP ts i b):BdP ts i (if c then a else b):=by
 by_cases h:c
 ·rw[if_pos h];exact h1 h
 ·rw[if_neg h];exact h2 h
theorem BdP.at {α:Type} {i j:Nat} (a:α) (h:i≤j) (hj:i≤ts.length→j≤ts.length):BdP ts i (PR.ok a j):=by
 intro hi b k e
 cases e
 exact ⟨h,hj hi⟩
theorem BdP.ok {α:Type} {i:Nat} (a:α):BdP ts i (PR.ok a i):= .at a (Nat.le_refl _) fun h=>h
theorem BdP.next {α:Type} {i:Nat} (a:α) (h:i<ts.length):BdP ts i (PR.ok a (i+1)):= .at a (by omega) fun _ => h
theorem BdP.bad {α:Type} {i k:Nat}:BdP ts i (PR.bad k:PR α):=fun _ a j e=>by cases e
theorem BdP.skip {α:Type} {i:Nat} {P:PR α} (h:i<ts.length) (hP:BdP ts (i+1) P):BdP ts i P:=fun hi a j e=>by
 obtain ⟨h1,h2⟩:=hP h a j e
 exact ⟨by omega,h2⟩
theorem sees_lt {i:Nat} {w:ByteArray} (h:sees ts i w=true):i<ts.length:=by
 simp only[sees,Bool.and_eq_true,decide_eq_true_eq] at h
 exact h.1
theorem op_lt {i lv:Nat} (h:opAt ts i lv≠0):i<ts.length:=by
 rcases Nat.lt_or_ge i ts.length with h1|h1
 ·exact h1
 ·exfalso;apply h
  have:∀w,sees ts i w=false:=fun w=>by simp only[sees,decide_eq_false (show ¬i<ts.length by omega),Bool.false_and]
  unfold opAt
  simp[this]
theorem par_off {ts:List Tok} {len:Int} (h0:∀t∈ts,0≤t.at'∧t.at'≤len) (hl:0≤len):((parT ts len).2 = -1∨(0≤(parT ts len).2 ∧ (parT ts len).2 ≤ len∧(parT ts len).1 = .mk 0 0 0 0 noS noS [])):=by
 have hoff:∀i,0≤(if i<ts.length then (ts.getD i Y5).at' else len)∧(if i<ts.length then (ts.getD i Y5).at' else len)≤len:=fun i=>by
  split
  ·rename_i hi;rw[Za hi];exact h0 _ (List.getElem_mem hi)
  ·omega
 unfold parT
 dsimp only
 cases pE ts (2 * ts.length+4) 0 with
 | bad i=>have:=hoff i;right;exact ⟨this.1,this.2,rfl⟩
 | ok x i=>
  have:=hoff i
  dsimp only
  by_cases hlt:i<ts.length
  ·rw[if_pos hlt] at this ⊢;right;simp only[if_pos hlt];exact ⟨this.1,this.2,trivial⟩
  ·rw[if_neg hlt]
   split
   ·left;rfl
   ·right;exact ⟨by show (0:Int)≤0;omega,hl,rfl⟩
end Go.Gh
namespace Go.Gh
open Lib
def Zx (p:UInt8→Bool):List UInt8→Nat
 | []=>0
 | c::l=>if p c=true then Zx p l+1 else 0
theorem spanL_le (p:UInt8→Bool):∀l:List UInt8,Zx p l≤l.length
 | []=>by simp[Zx]
 | c::l=>by
  simp only[Zx]
  split
  ·have:=spanL_le p l;simp;omega
  ·simp
theorem XS {p:UInt8→Bool} {l:List UInt8} {k:Nat} (h:k<l.length) (hp:p l[k]=true):Zx p (l.drop k)=Zx p (l.drop (k+1))+1:=by
 rw[List.drop_eq_getElem_cons h]
 simp[Zx,hp]
theorem spanL_stop {p:UInt8→Bool} {l:List UInt8} {k:Nat} (h:k<l.length) (hp:p l[k]=false):Zx p (l.drop k)=0:=by
 rw[List.drop_eq_getElem_cons h]
 simp[Zx,hp]
theorem spanL_end {p:UInt8→Bool} {l:List UInt8} {k:Nat} (h:l.length≤k):Zx p (l.drop k)=0:=by
 rw[List.drop_eq_nil_of_le h]
 rfl
def Zg (l:List UInt8):Int:=l.foldl (fun n c=>10 * n+((c.toNat:Int)-48)) 0
def numT (w:List UInt8):Option Int:=if itoa (Zg w)=w∧Zg w≤1000000 then some (Zg w) else none
def YW (c:UInt8):Bool:=Zh c||ZG c
def symC:List UInt8:=[40,41,123,125,44,46,36,43,45,42,60,124,38,92]
def Zb (l:List UInt8) (k:Nat):Tok×Nat:=
 if h:k<l.length then
  if Zh l[k]=true then
   if Zx YW (l.drop k)≤8 then (⟨1,0,k,⟨((l.drop k).take (Zx YW (l.drop k))).toArray⟩⟩,Zx YW (l.drop k)) else (Y5,0)
  else if ZG l[k]=true then
   match numT ((l.drop k).take (Zx ZG (l.drop k))) with
   | some n=>(⟨2,n,k,noS⟩,Zx ZG (l.drop k))
   | none=>(Y5,0)
  else if l[k]∈symC then (⟨3,0,k,⟨#[l[k]]⟩⟩,1)
  else if l[k]=61∧l[k+1]? = some 61 then (⟨3,0,k,⟨#[61,61]⟩⟩,2)
  else (Y5,0)
 else (Y5,0)
theorem tokN_le {l:List UInt8} {k:Nat} (hk:k≤l.length):k+(Zb l k).2 ≤ l.length:=by
 unfold Zb
 split
 ·rename_i h
  have h1:=spanL_le YW (l.drop k)
  have h2:=spanL_le ZG (l.drop k)
  simp only[List.length_drop] at h1 h2
  split
  ·split<;>dsimp only<;>omega
  ·split
   ·split<;>dsimp only<;>omega
   ·split
    ·dsimp only;omega
    ·split
     ·rename_i h3
      have:=(List.getElem?_eq_some_iff.1 h3.2).1
      dsimp only;omega
     ·dsimp only;omega
 ·dsimp only;omega
theorem tokN_at {l:List UInt8} {k:Nat} (h:(Zb l k).2 ≠ 0):(Zb l k).1.at' = k∧k<l.length:=by
 unfold Zb at *
 split
 ·rename_i hk
  rw[dif_pos hk] at h
  refine ⟨?_,hk⟩
  split at h
  ·rename_i h1;rw[if_pos h1]
   split at h
   ·rename_i h2;rw[if_pos h2]
   ·exact absurd rfl h
  ·rename_i h1;rw[if_neg h1]
   split at h
   ·rename_i h2;rw[if_pos h2]
    split at h
    ·rfl
    ·exact absurd rfl h
   ·rename_i h2;rw[if_neg h2]
    split at h
    ·rename_i h3;rw[if_pos h3]
    ·rename_i h3;rw[if_neg h3]
     split at h
     ·rename_i h4;rw[if_pos h4]
     ·exact absurd rfl h
 ·rename_i hk
  rw[dif_neg hk] at h
  exact absurd rfl h
def YE (l:List UInt8):Nat→Nat→List Tok→List Tok×Int
 | 0,k,_ => ([],k)
 | f+1,k,out=>
  if h:k<l.length then
   if l[k]=32 then YE l f (k+1) out
   else if (Zb l k).2 = 0∨out.length=80 then ([],k)
   else YE l f (k+(Zb l k).2) (out++[(Zb l k).1])
  else (out, -1)
theorem tokL_succ (l:List UInt8) (f k:Nat) (out:List Tok):YE l (f+1) k out =
 if h:k<l.length then
  if l[k]=32 then YE l f (k+1) out
  else if (Zb l k).2 = 0∨out.length=80 then ([],k)
  else YE l f (k+(Zb l k).2) (out++[(Zb l k).1])
 else (out, -1):=rfl
def Zp (l:List UInt8):List Tok×Int:=if 160<l.length then ([],160) else YE l (l.length+1) 0 []
theorem tokL_fuel {l:List UInt8}:∀(f f' k:Nat) (out:List Tok),k≤l.length→l.length<f+k→l.length<f'+k→YE l f k out=YE l f' k out
 | 0,f',k,out,hk,h,h'=>by omega
 | f+1,0,k,out,hk,h,h'=>by omega
 | f+1,f'+1,k,out,hk,h,h'=>by
  rw[tokL_succ,tokL_succ]
  split
  ·split
   ·exact tokL_fuel f f' _ _ (by omega) (by omega) (by omega)
   ·split
    ·rfl
    ·rename_i h1
     have:=tokN_le hk
     exact tokL_fuel f f' _ _ this (by omega) (by omega)
  ·rfl
theorem tokL_at {l:List UInt8}:∀(f k:Nat) (out:List Tok),(∀t∈out,0≤t.at'∧t.at'≤l.length)→∀t∈(YE l f k out).1,0≤t.at'∧t.at'≤l.length
 | 0,k,out,h=>by simp[YE]
 | f+1,k,out,h=>by
  simp only[YE]
  split
  ·split
   ·exact tokL_at f _ _ h
   ·split
    ·simp
    ·rename_i h1
     refine tokL_at f _ _ fun t ht=> ?_
     rcases List.mem_append.1 ht with ht|ht
     ·exact h t ht
     ·rw[List.mem_singleton] at ht
      subst ht
      have:=tokN_at (l:=l) (k:=k) (fun e=>h1 (.inl e))
      omega
  ·exact h
theorem tokL_len {l:List UInt8}:∀(f k:Nat) (out:List Tok),out.length≤80→(YE l f k out).1.length ≤ 80
 | 0,k,out,h=>by simp[YE]
 | f+1,k,out,h=>by
  simp only[YE]
  split
  ·split
   ·exact tokL_len f _ _ h
   ·split
    ·simp
    ·rename_i h1
     exact tokL_len f _ _ (by simp;omega)
  ·exact h
theorem tokL_bad {l:List UInt8}:∀(f k:Nat) (out:List Tok),k≤l.length→l.length<f+k→(YE l f k out).2 = -1∨((YE l f k out).1 = []∧0≤(YE l f k out).2 ∧ (YE l f k out).2 < l.length)
 | 0,k,out,hk,h=>by omega
 | f+1,k,out,hk,h=>by
  rw[tokL_succ]
  split
  ·split
   ·exact tokL_bad f _ _ (by omega) (by omega)
   ·split
    ·right;exact ⟨rfl,by dsimp only;omega,by dsimp only;omega⟩
    ·have:=tokN_le hk
     exact tokL_bad f _ _ this (by omega)
  ·left;rfl
def ZD (l:List UInt8):Exp×Int:=if (Zp l).2 ≥ 0 then (.mk 0 0 0 0 noS noS [],(Zp l).2) else parT (Zp l).1 l.length
theorem tokz_at (l:List UInt8):∀t∈(Zp l).1,0≤t.at'∧t.at'≤l.length:=by
 unfold Zp
 split
 ·simp
 ·exact tokL_at _ _ _ (by simp)
theorem tokz_len (l:List UInt8):(Zp l).1.length ≤ 80:=by
 unfold Zp
 split
 ·simp
 ·exact tokL_len _ _ _ (by simp)
theorem tokz_bad (l:List UInt8):(Zp l).2 = -1∨((Zp l).1 = []∧0≤(Zp l).2 ∧ (Zp l).2 ≤ l.length):=by
 unfold Zp
 split
 ·right;exact ⟨rfl,by dsimp only;omega,by dsimp only;omega⟩
 ·rcases tokL_bad (l:=l) (l.length+1) 0 [] (by omega) (by omega) with h|⟨h1,h2,h3⟩
  ·exact .inl h
  ·exact .inr ⟨h1,h2,by omega⟩
theorem err_off (l:List UInt8):(ZD l).2 = -1∨(0≤(ZD l).2 ∧ (ZD l).2 ≤ l.length∧(ZD l).1 = .mk 0 0 0 0 noS noS []):=by
 unfold ZD
 split
 ·rename_i h
  rcases tokz_bad l with h1|⟨_,h2,h3⟩
  ·omega
  ·exact .inr ⟨h2,h3,rfl⟩
 ·exact par_off (tokz_at l) (by omega)
end Go.Gh
namespace Go.Gh
open Lib
abbrev Key:=Int×Int×ByteArray
abbrev It:=Option Key
def Y4 (x:Key):List UInt8:=if x.1=2 then itoa x.2.1 else Z9 x.2.2
def Yl:It→List UInt8
 | none=>[32]
 | some x=>Y4 x
def Zf (l:List It):List UInt8:=l.flatMap Yl
def keys (l:List It):List Key:=l.filterMap id
abbrev wd (w:ByteArray):It:=some (1,0,w)
abbrev sy (c:UInt8):It:=some (3,0,⟨#[c]⟩)
abbrev nb (n:Int):It:=some (2,n,noS)
theorem rend_nil:Zf []=[]:=rfl
theorem YD (x:It) (l:List It):Zf (x::l)=Yl x++Zf l:=rfl
theorem rend_app (a b:List It):Zf (a++b)=Zf a++Zf b:=by simp[Zf]
theorem keys_nil:keys []=[]:=rfl
theorem keys_none (l:List It):keys (none::l)=keys l:=rfl
theorem X9 (x:Key) (l:List It):keys (some x::l)=x::keys l:=rfl
theorem keys_app (a b:List It):keys (a++b)=keys a++keys b:=by simp[keys]
def alnK (x:Key):Bool:=decide (x.1=1∨x.1=2)
def alnI:It→Bool
 | none=>false
 | some x=>alnK x
def sepI:List It→Bool
 | []=>true
 | [_]=>true
 | x::y::l=> !(alnI x&&alnI y)&&sepI (y::l)
theorem sep_mid {x:It} (hx:alnI x=false) (r:List It):∀l:List It,sepI (l++x::r)=(sepI l&&sepI (x::r))
 | []=>by simp[sepI]
 | [y]=>by simp[sepI,hx]
 | y::z::l=>by
  have:=sep_mid hx r (z::l)
  simp only[List.cons_append,sepI] at this ⊢
  rw[this,Bool.and_assoc]
theorem sep_cons {x:It} (hx:alnI x=false) (r:List It):sepI (x::r)=sepI r:=by
 cases r with
 | nil=>rfl
 | cons y l=>simp[sepI,hx]
def goodK (x:Key):Prop:=
 (x.1=1∧x.2.1=0∧shp (Z9 x.2.2)=true∧(Z9 x.2.2).length ≤ 8)∨(x.1=2∧x.2.2=noS∧0≤x.2.1∧x.2.1≤1000000) ∨
 (x.1=3∧x.2.1=0∧((∃c∈symC,x.2.2=⟨#[c]⟩)∨x.2.2=⟨#[61,61]⟩))
def goodI:It→Prop
 | none=>True
 | some x=>goodK x
theorem valD_snoc (l:List UInt8) (c:UInt8):Zg (l++[c])=10 * Zg l+((c.toNat:Int)-48):=by simp[Zg]
theorem dig_toNat:∀d,d<10→(UInt8.ofNat (48+d)).toNat = 48+d:=by decide
theorem dig_digV:∀d,d<10→ZG (UInt8.ofNat (48+d))=true:=by decide
theorem dec_ind {p:Nat→List UInt8→Prop} (h0:∀u,u<10→p u [UInt8.ofNat (48+u)]) (h1:∀u,¬u<10→p (u / 10) (decDigits (u / 10))→p u (decDigits (u / 10)++[UInt8.ofNat (48+u % 10)])) (u:Nat):p u (decDigits u):=by
 induction u using Nat.strongRecOn with
 | _ u ih=>
  by_cases h:u<10
  ·rw[decDigits_one h];exact h0 u h
  ·rw[decDigits,dif_neg h]
   exact h1 u h (ih (u / 10) (by omega))
theorem valD_dec (u:Nat):Zg (decDigits u)=u:=by
 refine dec_ind (p:=fun u l=>Zg l=u) (fun u h=> ?_) (fun u h ih=> ?_) u
 ·have:=dig_toNat u h
  simp only[Zg,List.foldl_cons,List.foldl_nil,this]
  omega
 ·rw[valD_snoc,ih,dig_toNat _ (Nat.mod_lt _ (by decide))]
  omega
theorem dec_dig (u:Nat):(∀c∈decDigits u,ZG c=true)∧decDigits u≠[]:=by
 refine dec_ind (p:=fun u l=>(∀c∈l,ZG c=true)∧l≠[]) (fun u h=> ?_) (fun u h ih=> ?_) u
 ·exact ⟨fun c hc=>by rw[List.mem_singleton] at hc;subst hc;exact dig_digV u h,by simp⟩
 ·refine ⟨fun c hc=> ?_,by simp⟩
  rcases List.mem_append.1 hc with hc|hc
  ·exact ih.1 c hc
  ·rw[List.mem_singleton] at hc;subst hc;exact dig_digV _ (Nat.mod_lt _ (by decide))
theorem XV {n:Int} (h:0≤n):itoa n=decDigits n.toNat:=by unfold itoa;rw[if_neg (by omega)]
theorem numT_itoa {n:Int} (h:0≤n) (h1:n≤1000000):numT (itoa n)=some n:=by
 have e:Zg (itoa n)=n:=by rw[XV h,valD_dec];omega
 unfold numT
 rw[e,if_pos ⟨rfl,h1⟩]
theorem numT_some {w:List UInt8} {n:Int} (h:numT w=some n):itoa n=w∧n≤1000000:=by
 unfold numT at h
 split at h
 ·rename_i h1
  simp only[Option.some.injEq] at h
  rw[←h];exact h1
 ·cases h
theorem spanL_all {p:UInt8→Bool}:∀(l r:List UInt8),(∀c∈l,p c=true)→(∀c,r.head?=some c→p c=false)→Zx p (l++r)=l.length
 | [],r,_,h=>by
  cases r with
  | nil=>rfl
  | cons c r=>simp[Zx,h c rfl]
 | c::l,r,hl,h=>by
  simp only[List.cons_append,Zx,hl c (by simp),if_true,List.length_cons]
  rw[spanL_all l r (fun c hc=>hl c (by simp[hc])) h]
theorem drop_pre {α:Type} (a b:List α):(a++b).drop a.length=b:=by simp
theorem get_pre {α:Type} {a b:List α} {c:α} {r:List α} (hb:b=c::r) (h:a.length<(a++b).length):(a++b)[a.length]=c:=by subst hb;simp
theorem dig_not_let (c:UInt8) (h:ZG c=true):Zh c=false:=by
 simp only[ZG,Zh,Bool.and_eq_true,decide_eq_true_eq,Bool.and_eq_false_iff,decide_eq_false_iff_not] at *
 omega
theorem symC_no:∀c∈symC,Zh c=false∧ZG c=false:=by decide
theorem take_pre {α:Type} (a b:List α):(a++b).take a.length=a:=by simp
theorem tokN_it {x:Key} (hx:goodK x) (pre r:List UInt8) (hr:alnK x=true→∀c,r.head?=some c→YW c=false) :
 Zb (pre++(Y4 x++r)) pre.length=(⟨x.1,x.2.1,pre.length,x.2.2⟩,(Y4 x).length)∧(Y4 x).length ≠ 0:=by
 obtain ⟨k,n,t⟩:=x
 rcases hx with ⟨h1,h2,h3,h4⟩|⟨h1,h2,h3,h4⟩|⟨h1,h2,h3⟩
 ·dsimp only at h1 h2 h3 h4
  subst h1 h2
  have e:Y4 (1,0,t)=Z9 t:=rfl
  have hr':=hr (by simp[alnK])
  rw[e]
  obtain ⟨c,l,hc⟩:∃c l,Z9 t=c::l:=by
   cases hh:Z9 t with
   | nil=>rw[hh] at h3;cases h3
   | cons c l=>exact ⟨c,l,rfl⟩
  have hall:∀c∈Z9 t,YW c=true:=by
   rw[hc] at h3 ⊢
   simp only[shp,Bool.and_eq_true,List.all_eq_true] at h3
   intro d hd
   rcases List.mem_cons.1 hd with rfl|hd
   ·simp[YW,h3.1]
   ·exact h3.2 d hd
  have hlt:pre.length<(pre++(Z9 t++r)).length := by rw[hc];simp
  have hg:(pre++(Z9 t++r))[pre.length]=c:=get_pre (r:=l++r) (by rw[hc];rfl) hlt
  have hl:Zh c=true:=by rw[hc] at h3;simp only[shp,Bool.and_eq_true] at h3;exact h3.1
  refine ⟨?_,by rw[hc];simp⟩
  unfold Zb
  rw[dif_pos hlt]
  simp only[hg,hl,if_true,drop_pre,spanL_all _ r hall hr',take_pre,if_pos h4]
 ·dsimp only at h1 h2 h3 h4
  subst h1 h2
  have e:Y4 (2,n,noS)=itoa n:=rfl
  have hr':=hr (by simp[alnK])
  have hd:=dec_dig n.toNat
  rw[←XV h3] at hd
  rw[e]
  obtain ⟨c,l,hc⟩:∃c l,itoa n=c::l:=by
   cases hh:itoa n with
   | nil=>exact absurd hh hd.2
   | cons c l=>exact ⟨c,l,rfl⟩
  have hdc:ZG c=true:=hd.1 c (by rw[hc];simp)
  have hlt:pre.length<(pre++(itoa n++r)).length := by rw[hc];simp
  have hg:(pre++(itoa n++r))[pre.length]=c:=get_pre (r:=l++r) (by rw[hc];rfl) hlt
  have hr2:∀c,r.head?=some c→ZG c=false:=fun c h=>by
   have:=hr' c h
   simp only[YW,Bool.or_eq_false_iff] at this
   exact this.2
  refine ⟨?_,by rw[hc];simp⟩
  unfold Zb
  rw[dif_pos hlt]
  simp only[hg,dig_not_let c hdc,hdc,Bool.false_eq_true,if_false,if_true,drop_pre,spanL_all _ r hd.1 hr2,take_pre,numT_itoa h3 h4]
 ·dsimp only at h1 h2 h3
  subst h1 h2
  have e:Y4 (3,0,t)=Z9 t:=rfl
  rw[e]
  rcases h3 with ⟨c,hc,rfl⟩|rfl
  ·have e1:Z9 ⟨#[c]⟩=[c]:=rfl
   rw[e1]
   have hlt:pre.length<(pre++([c]++r)).length := by simp
   have hg:(pre++([c]++r))[pre.length]=c:=get_pre (r:=r) rfl hlt
   obtain ⟨n1,n2⟩:=symC_no c hc
   refine ⟨?_,by simp⟩
   unfold Zb
   rw[dif_pos hlt]
   simp only[hg,n1,n2,Bool.false_eq_true,if_false,if_pos hc,List.length_singleton]
  ·have e1:Z9 ⟨#[61,61]⟩=[61,61]:=rfl
   rw[e1]
   have hlt:pre.length<(pre++([61,61]++r)).length := by simp
   have hg:(pre++([61,61]++r))[pre.length]=61:=get_pre (r:=61::r) rfl hlt
   have hg2:(pre++([61,61]++r))[pre.length+1]? = some 61:=by
    rw[List.getElem?_append_right (by omega)]
    simp
   refine ⟨?_,by simp⟩
   unfold Zb
   rw[dif_pos hlt]
   simp only[hg,hg2]
   rw[if_neg (by decide),if_neg (by decide),if_neg (by decide),if_pos (by simp)]
   rfl
def Yp:Nat→List It→List Tok
 | _,[]=>[]
 | p,none::l=>Yp (p+1) l
 | p,some x::l=>⟨x.1,x.2.1,p,x.2.2⟩::Yp (p+(Y4 x).length) l
def keyT (t:Tok):Key:=(t.kind,t.num,t.text)
theorem toksAt_keys:∀(p:Nat) (l:List It),(Yp p l).map keyT=keys l
 | _,[]=>rfl
 | p,none::l=>by rw[Yp,keys_none];exact toksAt_keys _ l
 | p,some x::l=>by rw[Yp,X9,List.map_cons,toksAt_keys];rfl
theorem rendI_hd {x:It} (hx:goodI x) (ha:alnI x=false):∃c l,Yl x=c::l∧YW c=false:=by
 cases x with
 | none=>exact ⟨32,[],rfl,by decide⟩
 | some x=>
  obtain ⟨k,n,t⟩:=x
  simp only[alnI,alnK,decide_eq_false_iff_not,not_or] at ha
  rcases hx with ⟨h1,_⟩|⟨h1,_⟩|⟨h1,h2,h3⟩
  ·exact absurd h1 ha.1
  ·exact absurd h1 ha.2
  ·dsimp only at h1 h2 h3
   subst h1
   rcases h3 with ⟨c,hc,rfl⟩|rfl
   ·obtain ⟨n1,n2⟩:=symC_no c hc
    exact ⟨c,[],rfl,by simp[YW,n1,n2]⟩
   ·exact ⟨61,[61],rfl,by decide⟩
theorem rend_hd {x:It} {l:List It} (hl:∀y∈l,goodI y) (hs:sepI (x::l)=true) (hx:alnI x=true):∀c,(Zf l).head? = some c→YW c=false:=by
 intro c hc
 cases l with
 | nil=>cases hc
 | cons y l=>
  simp only[sepI,hx,Bool.true_and,Bool.and_eq_true,Bool.not_eq_true'] at hs
  obtain ⟨d,r,e,hd⟩:=rendI_hd (hl y (by simp)) hs.1
  rw[YD,e] at hc
  simp only[List.cons_append,List.head?_cons,Option.some.injEq] at hc
  subst hc
  exact hd
theorem key_hd32 {x:Key} (hx:goodK x):∀c,(Y4 x).head? = some c→c≠32:=by
 obtain ⟨k,n,t⟩:=x
 intro c hc e
 subst e
 rcases hx with ⟨h1,h2,h3,h4⟩|⟨h1,h2,h3,h4⟩|⟨h1,h2,h3⟩
 ·dsimp only at h1 h3
  subst h1
  have e:Y4 (1,n,t)=Z9 t:=rfl
  rw[e] at hc
  cases hh:Z9 t with
  | nil=>rw[hh] at hc;cases hc
  | cons d l=>
   rw[hh] at hc h3
   simp only[List.head?_cons,Option.some.injEq] at hc
   subst hc
   simp only[shp,Bool.and_eq_true] at h3
   exact absurd h3.1 (by decide)
 ·dsimp only at h1 h3
  subst h1
  have e:Y4 (2,n,t)=itoa n:=rfl
  rw[e,XV h3] at hc
  have hd:=(dec_dig n.toNat).1
  have:=hd 32 (List.mem_of_mem_head? hc)
  exact absurd this (by decide)
 ·dsimp only at h1 h3
  subst h1
  have e:Y4 (3,n,t)=Z9 t:=rfl
  rw[e] at hc
  rcases h3 with ⟨d,hd,rfl⟩|rfl
  ·simp only[Z9,List.head?_cons,Option.some.injEq] at hc
   subst hc
   exact absurd hd (by decide)
  ·cases hc
theorem tokL_its:∀(its:List It) (pre:List UInt8) (out:List Tok) (f:Nat),(∀x∈its,goodI x)→sepI its=true→(pre++Zf its).length < f+pre.length→out.length≤80 →
 (out.length+(keys its).length ≤ 80→YE (pre++Zf its) f pre.length out=(out++Yp pre.length its, -1)) ∧
 (80<out.length+(keys its).length → (YE (pre++Zf its) f pre.length out).1 = []∧0≤(YE (pre++Zf its) f pre.length out).2)
 | [],pre,out,f,hg,hs,hf,ho=>by
  cases f with
  | zero=>simp at hf;omega
  | succ f=>
   rw[rend_nil,List.append_nil]
   simp only[YE]
   rw[dif_neg (by omega)]
   exact ⟨fun _ => by simp[Yp],fun h=>by simp[keys] at h;omega⟩
 | none::l,pre,out,f,hg,hs,hf,ho=>by
  cases f with
  | zero=>simp at hf;omega
  | succ f=>
   have e:pre++Zf (none::l)=(pre++[32])++Zf l:=by rw[YD];simp[Yl]
   have hlt:pre.length<(pre++Zf (none::l)).length := by rw[YD];simp[Yl]
   have hg32:(pre++Zf (none::l))[pre.length]=32:=get_pre (r:=Zf l) rfl hlt
   have ih:=tokL_its l (pre++[32]) out f (fun x hx=>hg x (by simp[hx])) (by rw[sep_cons rfl] at hs;exact hs) (by rw[←e];simp only[List.length_append,List.length_singleton] at hf ⊢;omega) ho
   simp only[YE]
   rw[dif_pos hlt,hg32,if_pos rfl,keys_none]
   rw[←e] at ih
   simpa[Yp] using ih
 | some x::l,pre,out,f,hg,hs,hf,ho=>by
  cases f with
  | zero=>simp at hf;omega
  | succ f=>
   have hx:goodK x:=hg (some x) (by simp)
   have hl:∀y∈l,goodI y:=fun y hy=>hg y (by simp[hy])
   have hsl:sepI l=true:=by
    cases l with
    | nil=>rfl
    | cons y l=>simp only[sepI,Bool.and_eq_true] at hs;exact hs.2
   obtain ⟨t1,t2⟩:=tokN_it hx pre (Zf l) (fun ha=>rend_hd hl hs ha)
   have e0:pre++Zf (some x::l)=pre++(Y4 x++Zf l):=by rw[YD];rfl
   have e:pre++Zf (some x::l)=(pre++Y4 x)++Zf l:=by rw[e0];simp
   rw[←e0] at t1
   have hlt:pre.length<(pre++Zf (some x::l)).length := by rw[e0];simp;omega
   obtain ⟨c,q,hc⟩:∃c q,Y4 x=c::q:=by
    cases hh:Y4 x with
    | nil=>rw[hh] at t2;exact absurd rfl t2
    | cons c q=>exact ⟨c,q,rfl⟩
   have hgc:(pre++Zf (some x::l))[pre.length]=c:=get_pre (r:=q++Zf l) (by rw[YD];show Y4 x ++ _ = _;rw[hc];rfl) hlt
   have hne:c≠32:=key_hd32 hx c (by rw[hc];rfl)
   simp only[YE]
   rw[dif_pos hlt,hgc,if_neg hne,t1]
   dsimp only
   rw[X9,List.length_cons]
   by_cases h8:out.length=80
   ·rw[if_pos (.inr h8)]
    exact ⟨fun h=>by omega,fun _ => ⟨rfl,by dsimp only;omega⟩⟩
   ·rw[if_neg (by intro h;rcases h with h|h<;>contradiction)]
    have ih:=tokL_its l (pre++Y4 x) (out++[⟨x.1,x.2.1,pre.length,x.2.2⟩]) f hl hsl (by rw[←e];simp only[List.length_append] at hf ⊢;omega) (by simp;omega)
    rw[←e] at ih
    simp only[List.length_append,List.length_singleton] at ih
    refine ⟨fun h=> ?_,fun h=>ih.2 (by omega)⟩
    rw[ih.1 (by omega)]
    simp[Yp]
theorem tokz_its {its:List It} (hg:∀x∈its,goodI x) (hs:sepI its=true) :
 ((Zf its).length ≤ 160∧(keys its).length ≤ 80∧Zp (Zf its)=(Yp 0 its, -1))∨((160<(Zf its).length ∨ 80<(keys its).length)∧(Zp (Zf its)).1 = []∧0≤(Zp (Zf its)).2):=by
 unfold Zp
 by_cases h:160<(Zf its).length
 ·rw[if_pos h];exact .inr ⟨.inl h,rfl,by dsimp only;omega⟩
 ·rw[if_neg h]
  have:=tokL_its its [] [] ((Zf its).length + 1) hg hs (by simp) (by simp)
  simp only[List.nil_append,List.length_nil,Nat.zero_add] at this
  by_cases h8:(keys its).length ≤ 80
  ·exact .inl ⟨by omega,h8,this.1 h8⟩
  ·have h9:=this.2 (by omega)
   exact .inr ⟨.inr (by omega),h9.1,h9.2⟩
end Go.Gh
namespace Go.Gh
open Lib
def Zy (n:Int):Nat:=if n=9∨n=10 then 1 else if n=1∨n=2∨n=6∨n=8 then 2 else if n=3∨n=7 then 3 else 4
def lvE (e:Exp):Nat:=if e.kind=5 then 0 else if e.kind=4 then Zy e.n else 4
def opK (n:Int):Key:=
 if n=1 then (3,0,⟨#[43]⟩) else if n=2 then (3,0,⟨#[45]⟩) else if n=3 then (3,0,⟨#[42]⟩) else if n=4 then (1,0,wMax) else if n=5 then (1,0,wMin) else if n=6 then (3,0,⟨#[124]⟩) else
 if n=7 then (3,0,⟨#[38]⟩) else if n=8 then (3,0,⟨#[92]⟩) else if n=9 then (3,0,⟨#[60]⟩) else if n=10 then (3,0,⟨#[61,61]⟩) else if n=11 then (1,0,wHas) else (1,0,wWith)
def joinI:List It→List It
 | []=>[]
 | [x]=>[x]
 | x::y::l=>x::none::joinI (y::l)
def Yw (n:Int):List Nat:=(List.range 12).filter fun k=>n.toNat.testBit k
def setI (n:Int):List It:=sy 123::(joinI ((Yw n).map fun k:Nat=>nb (k:Int))++[sy 125])
def conI (n t:Int):List It:=if t=1 then [nb n] else if t=3 then [wd (if n=1 then wTrue else Yi)] else setI n
def YH (L:Nat) (x:Nat×List It):List It:=if x.1<L then sy 40::(x.2++[sy 41]) else x.2
def itN (k n p t:Int) (s m:ByteArray) (xs:List (Nat×List It)):List It:=
 if k=1 then conI n t else if k=2 then [wd wLit] else if k=3 then [sy 36,nb p,sy 46,wd m] else
 if k=5 then wd wIf::none::((xs.getD 0 (4,[])).2 ++ none::wd wThen::none::((xs.getD 1 (4,[])).2 ++ none::wd wElse::none::(xs.getD 2 (4,[])).2)) else
 if k=6 then [wd wSelf,sy 40,nb p,sy 41] else if k=7 then [wd wNone] else
 if k=8 then wd s::sy 46::wd m::none::wd wOf::none::YH 4 (xs.getD 0 (4,[])) else
 if Zy n=4 then some (opK n)::sy 40::((xs.getD 0 (4,[])).2 ++ sy 44::none::((xs.getD 1 (4,[])).2 ++ [sy 41])) else
 YH (max (Zy n) 2) (xs.getD 0 (4,[]))++none::some (opK n)::none::YH (Zy n+1) (xs.getD 1 (4,[]))
mutual
def itE:Exp→List It
 | .mk k n p t s m a=>itN k n p t s m (itL a)
def itL:List Exp→List (Nat×List It)
 | []=>[]
 | e::l=>(lvE e,itE e)::itL l
end
theorem itL_eq (l:List Exp):itL l=l.map fun e=>(lvE e,itE e):=by
 induction l with
 | nil=>rfl
 | cons e l ih=>simp[itL,ih]
theorem itE_eq (e:Exp):itE e=itN e.kind e.n e.pos e.type e.sym e.name (e.args.map fun e=>(lvE e,itE e)):=by
 cases e;simp only[itE,itL_eq];rfl
abbrev kE (e:Exp):List Key:=keys (itE e)
theorem keys_join:∀l:List Key,keys (joinI (l.map some))=l
 | []=>rfl
 | [x]=>rfl
 | x::y::l=>by
  have:=keys_join (y::l)
  simp only[List.map_cons,joinI,X9,keys_none] at this ⊢
  rw[this]
variable {ts:List Tok}
def Sf (ts:List Tok) (i:Nat) (R:List Key):Prop:=(ts.map keyT).drop i=R
theorem Sf.cons {i:Nat} {x:Key} {R:List Key} (h:Sf ts i (x::R)):i<ts.length∧keyT (ts.getD i Y5)=x∧Sf ts (i+1) R:=by
 unfold Sf at *
 have hlt:i<ts.length:=by
  rcases Nat.lt_or_ge i ts.length with h1|h1
  ·exact h1
  ·rw[List.drop_eq_nil_of_le (by simpa using h1)] at h;cases h
 rw[List.drop_eq_getElem_cons (by simpa using hlt)] at h
 simp only[List.getElem_map,List.cons.injEq] at h
 exact ⟨hlt,by rw[Za hlt];exact h.1,h.2⟩
theorem Sf.nil {i:Nat} (h:Sf ts i []):¬i<ts.length:=by
 unfold Sf at h
 have:=List.drop_eq_nil_iff.1 h
 simpa using this
theorem Sf.app {i:Nat} {A R:List Key} (h:Sf ts i (A++R)):Sf ts (i+A.length) R:=by
 unfold Sf at *
 rw[←List.drop_drop,h]
 simp
theorem Sf.len {i:Nat} {R:List Key} (h:Sf ts i R):R.length=ts.length-i:=by
 unfold Sf at h
 rw[←h]
 simp
def isK (x:Key) (w:ByteArray):Bool:=(decide (x.1=1)||decide (x.1=3))&&decide (x.2.2=w)
theorem Sf.isW {i:Nat} {x:Key} {R:List Key} (h:Sf ts i (x::R)) (w:ByteArray):isW (ts.getD i Y5) w=isK x w:=by
 obtain ⟨_,h2,_⟩:=h.cons
 rw[←h2]
 rfl
theorem Sf.sees {i:Nat} {x:Key} {R:List Key} (h:Sf ts i (x::R)) (w:ByteArray):sees ts i w=isK x w:=by
 unfold Go.Gh.sees
 rw[h.isW w,decide_eq_true h.cons.1,Bool.true_and]
theorem Sf.seesN {i:Nat} (h:Sf ts i []) (w:ByteArray):Go.Gh.sees ts i w=false:=by
 unfold Go.Gh.sees
 rw[decide_eq_false h.nil,Bool.false_and]
theorem Sf.take {i:Nat} {x:Key} {R:List Key} {w:ByteArray} (h:Sf ts i (x::R)) (hw:isK x w=true):ZW ts i w = .ok () (i+1):=by
 unfold ZW
 rw[h.sees w,if_pos hw]
theorem Sf.num {i:Nat} {n lo hi:Int} {t:ByteArray} {R:List Key} (h:Sf ts i ((2,n,t)::R)) (h1:lo≤n) (h2:n≤hi):Zv ts i lo hi = .ok n (i+1):=by
 obtain ⟨a,b,_⟩:=h.cons
 simp only[keyT,Prod.mk.injEq] at b
 unfold Zv
 rw[b.1,b.2.1,if_pos ⟨a,rfl,h1,h2⟩]
theorem Sf.name {i:Nat} {n:Int} {t:ByteArray} {R:List Key} (h:Sf ts i ((1,n,t)::R)) (h1:ZS t=true):ZO ts i = .ok t (i+1):=by
 obtain ⟨a,b,_⟩:=h.cons
 simp only[keyT,Prod.mk.injEq] at b
 unfold ZO
 rw[b.1,b.2.2,if_pos ⟨a,rfl,h1⟩]
def opKy (x:Key) (lv:Nat):Int:=
 if lv=1 then (if isK x ⟨#[60]⟩=true then 9 else if isK x ⟨#[61,61]⟩=true then 10 else 0) else
 if lv=2 then (if isK x ⟨#[43]⟩=true then 1 else if isK x ⟨#[45]⟩=true then 2 else if isK x ⟨#[124]⟩=true then 6 else if isK x ⟨#[92]⟩=true then 8 else 0) else
 if lv=3 then (if isK x ⟨#[42]⟩=true then 3 else if isK x ⟨#[38]⟩=true then 7 else 0) else 0
def opR:List Key→Nat→Int
 | [],_ => 0
 | x :: _,lv=>opKy x lv
theorem Sf.op {i:Nat} {R:List Key} (h:Sf ts i R) (lv:Nat):opAt ts i lv=opR R lv:=by
 cases R with
 | nil=>unfold opAt;simp[h.seesN,opR]
 | cons x R=>unfold opAt;simp only[h.sees,opR,opKy]
theorem opKy_op:∀n∈[(1:Int),2,3,4,5,6,7,8,9,10,11,12],∀lv∈[1,2,3],opKy (opK n) lv=if Zy n=lv then n else 0:=by decide
theorem mem12 {n:Int} (h:1≤n) (h2:n≤12):n∈[(1:Int),2,3,4,5,6,7,8,9,10,11,12]:=by simp;omega
theorem mem3 {n:Nat} (h:1≤n) (h2:n≤3):n∈[1,2,3]:=by simp;omega
def NoOp (R:List Key) (L:Nat):Prop:=∀l,L≤l→l≤3→opR R l=0
theorem NoOp.mono {R:List Key} {L M:Nat} (h:NoOp R L) (hm:L≤M):NoOp R M:=fun l h1 h2=>h l (by omega) h2
theorem NoOp.four (R:List Key):NoOp R 4:=fun l h1 h2=>by omega
def XL (ts:List Tok) (f:Nat) (L:Nat):Nat→PR Exp:=
 if L=1 then lvP ts (lvP ts (lvP ts (pA ts f) 3) 2) 1 else if L=2 then lvP ts (lvP ts (pA ts f) 3) 2 else if L=3 then lvP ts (pA ts f) 3 else pA ts f
theorem XL_4 (f:Nat):XL ts f 4=pA ts f:=rfl
theorem XL_lv (f:Nat) {L:Nat} (h1:1≤L) (h2:L≤3):XL ts f L=lvP ts (XL ts f (L+1)) L:=by
 rcases show L=1∨L=2∨L=3 by omega with rfl|rfl|rfl<;>rfl
theorem Tail.refl (ts:List Tok):Tail ts ts where
 pre i hi:=⟨hi,rfl⟩
 len:=Nat.le_refl _
 out i w hi _ := by simp[Go.Gh.sees,hi]
theorem row_mono {X:Nat→PR Exp} {lv F F':Nat} {e r:Exp} {i j:Nat} (hF:F≤F') (h:YO ts X lv F e i = .ok r j):YO ts X lv F' e i = .ok r j:=
 (Tail.refl ts).row (fun i=>ExtP.refl _) lv F F' e i hF r j h
theorem row_stop {X:Nat→PR Exp} {lv F:Nat} {e:Exp} {i:Nat} {R:List Key} (h:Sf ts i R) (h0:opR R lv=0):YO ts X lv (F+1) e i = .ok e i:=by
 simp only[YO]
 rw[if_pos (by rw[h.op];exact h0)]
theorem lv_one {X:Nat→PR Exp} {lv F:Nat} {e r:Exp} {i j k:Nat} (hX:X i = .ok e j) (hF:F≤ts.length+1) (h:YO ts X lv F e j = .ok r k):lvP ts X lv i = .ok r k:=by
 unfold lvP
 rw[hX]
 exact row_mono hF h
theorem XL_down {f L M i j:Nat} {e:Exp} {R:List Key} (hL:1≤L) (hM:M≤4) (hLM:L≤M) (hR:Sf ts j R) (h0:NoOp R L) (h:XL ts f M i = .ok e j):XL ts f L i = .ok e j:=by
 obtain ⟨d,rfl⟩:∃d,M=L+d:=⟨M-L,by omega⟩
 induction d generalizing L with
 | zero=>exact h
 | succ d ih=>
  have h2:=ih (L:=L+1) (by omega) (h0.mono (by omega)) (by omega) (by omega) (by rw[show L+1+d=L+(d+1) by omega];exact h)
  rw[XL_lv f hL (by omega)]
  exact lv_one (F:=1) h2 (by omega) (row_stop hR (h0 L (by omega) (by omega)))
structure RdA (e:Exp):Prop where
 atom:lvE e=4→∀(ts:List Tok) (f i:Nat) (R:List Key),Sf ts i (kE e++R)→2 * (kE e).length + 1≤f→pA ts f i = .ok e (i+(kE e).length)
 one:lvE e=1→∀(ts:List Tok) (f i:Nat) (R:List Key),Sf ts i (kE e++R)→2 * (kE e).length + 1≤f→NoOp R 1→XL ts f 1 i = .ok e (i+(kE e).length)
 own:∀(lv:Nat),2≤lv→lv≤3→lvE e=lv→∀(ts:List Tok) (f i:Nat) (R:List Key),Sf ts i (kE e++R)→2 * (kE e).length + 1≤f→NoOp R (lv+1) →
  ∀F r j,F+(kE e).length ≤ ts.length+1→YO ts (XL ts f (lv+1)) lv F e (i+(kE e).length) = .ok r j→XL ts f lv i = .ok r j
structure RdE (e:Exp):Prop extends RdA e where
 expr:∀(ts:List Tok) (f i:Nat) (R:List Key),Sf ts i (kE e++R)→2 * (kE e).length + 2≤f→NoOp R 1→pE ts f i = .ok e (i+(kE e).length)
theorem RdA.at {e:Exp} (h:RdA e) {L:Nat} (h1:1≤L) (h2:L≤lvE e) (h4:lvE e≤4) {f i:Nat} {R:List Key} (hs:Sf ts i (kE e++R)) (hf:2 * (kE e).length + 1≤f) (hR:NoOp R L):XL ts f L i = .ok e (i+(kE e).length):=by
 refine XL_down h1 h4 h2 hs.app hR ?_
 by_cases e1:lvE e=1
 ·rw[e1]
  exact h.one e1 ts f i R hs hf (by rw[show L=1 by omega] at hR;exact hR)
 rcases Nat.lt_or_ge (lvE e) 4 with h3|h3
 ·refine h.own (lvE e) (by omega) (by omega) rfl ts f i R hs hf (hR.mono (by omega)) 1 e _ ?_ (row_stop hs.app (hR _ h2 (by omega)))
  have:=hs.len
  simp at this
  omega
 ·have e4:lvE e=4:=by omega
  rw[e4,XL_4]
  exact h.atom e4 ts f i R hs hf
theorem lvE_le (e:Exp):lvE e≤4:=by
 unfold lvE Zy
 repeat' split
 all_goals omega
theorem keys_opnd (L:Nat) (e:Exp):keys (YH L (lvE e,itE e))=if lvE e<L then (3,0,wLP)::(kE e++[(3,0,wRP)]) else kE e:=by
 unfold YH
 dsimp only
 split
 ·simp only[X9,keys_app,keys_nil];rfl
 ·rfl
theorem atom_par {e:Exp} (h:RdE e) {f i:Nat} {R:List Key} (hs:Sf ts i ((3,0,wLP)::(kE e++[(3,0,wRP)])++R)) (hf:2 * ((kE e).length + 2)+1≤f):pA ts f i = .ok e (i+((kE e).length + 2)):=by
 obtain ⟨f,rfl⟩:∃g,f=g+1:=⟨f-1,by omega⟩
 rw[show (3,0,wLP)::(kE e++[(3,0,wRP)])++R=((3,0,wLP):Key)::(kE e++((3,0,wRP)::R)) by simp] at hs
 obtain ⟨h1,h2,h3⟩:=hs.cons
 have hk:(ts.getD i Y5).kind = 3:=by simp only[keyT,Prod.mk.injEq] at h2;exact h2.1
 have hE:=h.expr ts f (i+1) _ h3 (by omega) (by intro l a b;rcases show l=1∨l=2∨l=3 by omega with rfl|rfl|rfl<;>(show opKy _ _ = 0;decide))
 have h5:=h3.app
 have hT:=h5.take (w:=wRP) (by decide)
 show Y6 ts (pE ts f) (pA ts f) i = _
 unfold Y6
 simp only[hs.isW,hk,hE]
 rw[if_neg (not_not_intro h1),if_neg (by decide),if_neg (by decide),if_neg (by decide),if_neg (by decide),if_neg (by decide),if_neg (by decide),if_neg (by decide),if_neg (by decide),if_pos (by decide)]
 simp only[PR.bind,hT]
 congr 1
 omega
theorem opnd_at {e:Exp} (h:RdE e) {L:Nat} (h1:1≤L) (hL:L≤4) {f i:Nat} {R:List Key} (hs:Sf ts i (keys (YH L (lvE e,itE e))++R)) (hf:2 * (keys (YH L (lvE e,itE e))).length + 1≤f) (hR:NoOp R L) :
 XL ts f L i = .ok e (i+(keys (YH L (lvE e,itE e))).length):=by
 have ha:=hs.app
 rw[keys_opnd] at hs hf ha ⊢
 by_cases hl:lvE e<L
 ·rw[if_pos hl] at hs hf ha ⊢
  simp only[List.length_cons,List.length_append,List.length_nil] at hf ha ⊢
  exact XL_down h1 (by omega) hL ha hR (by rw[XL_4];exact atom_par h hs (by omega))
 ·rw[if_neg hl] at hs hf ⊢
  exact h.toRdA.at h1 (by omega) (lvE_le e) hs hf hR
theorem opnd_own {e:Exp} (h:RdE e) {lv:Nat} (h1:2≤lv) (h3:lv≤3) {f i:Nat} {R:List Key} (hs:Sf ts i (keys (YH lv (lvE e,itE e))++R)) (hf:2 * (keys (YH lv (lvE e,itE e))).length + 1≤f) (hR:NoOp R (lv+1))
 {F j:Nat} {r:Exp} (hF:F+(keys (YH lv (lvE e,itE e))).length ≤ ts.length+1) (hr:YO ts (XL ts f (lv+1)) lv F e (i+(keys (YH lv (lvE e,itE e))).length) = .ok r j):XL ts f lv i = .ok r j:=by
 by_cases hl:lvE e=lv
 ·have e0:keys (YH lv (lvE e,itE e))=kE e:=by rw[keys_opnd,if_neg (by omega)]
  rw[e0] at hs hf hF hr
  exact h.own lv h1 h3 hl ts f i R hs hf hR F r j hF hr
 ·have e0:keys (YH lv (lvE e,itE e))=keys (YH (lv+1) (lvE e,itE e)):=by
   rw[keys_opnd,keys_opnd]
   by_cases h2:lvE e<lv
   ·rw[if_pos h2,if_pos (by omega)]
   ·rw[if_neg h2,if_neg (by omega)]
  rw[e0] at hs hf hF hr
  have:=opnd_at h (by omega) (by omega) hs hf hR
  rw[XL_lv f (by omega) h3]
  exact lv_one this (by omega) hr
end Go.Gh
namespace Go.Gh
open Lib
variable {ts:List Tok}
theorem Sf.kind {i:Nat} {x:Key} {R:List Key} (h:Sf ts i (x::R)):(ts.getD i Y5).kind = x.1:=by rw[←h.cons.2.1];rfl
theorem Sf.numv {i:Nat} {x:Key} {R:List Key} (h:Sf ts i (x::R)):(ts.getD i Y5).num = x.2.1:=by rw[←h.cons.2.1];rfl
theorem Sf.text {i:Nat} {x:Key} {R:List Key} (h:Sf ts i (x::R)):(ts.getD i Y5).text = x.2.2:=by rw[←h.cons.2.1];rfl
theorem nameV_ne {s w:ByteArray} (h:ZS s=true) (hw:ZS w=false):s≠w:=by
 rintro rfl
 rw[h] at hw
 cases hw
theorem isK_name {s w:ByteArray} (h:ZS s=true) (hw:ZS w=false):isK (1,0,s) w=false:=by
 simp[isK,nameV_ne h hw]
theorem funO_name {s:ByteArray} (h:ZS s=true):funO s=0:=by
 unfold funO
 rw[if_neg (nameV_ne h (by decide)),if_neg (nameV_ne h (by decide)),if_neg (nameV_ne h (by decide)),if_neg (nameV_ne h (by decide))]
theorem funO_opK:∀n∈[(1:Int),2,3,4,5,6,7,8,9,10,11,12],Zy n=4→(opK n).1 = 1∧funO (opK n).2.2 = n∧n≠0∧(∀w∈[wLB,wTrue,Yi,wLit,wNone,wDol,wSelf,wLP,wIf],isK (opK n) w=false):=by decide
theorem setL_fold':∀a,a<64→∀b,b<64→(Yw ((64 * a+b:Nat):Int)).foldl (fun s k=>orI .i64 s (shlI .i64 1 (k:Nat))) 0=((64 * a+b:Nat):Int):=by decide +kernel
theorem setL_fold {n:Int} (h0:0≤n) (h:n≤4095):(Yw n).foldl (fun s k=>orI .i64 s (shlI .i64 1 (k:Nat))) 0=n:=by
 have:=setL_fold' (n.toNat / 64) (by omega) (n.toNat % 64) (by omega)
 rw[show ((64 * (n.toNat / 64)+n.toNat % 64:Nat):Int)=n by omega] at this
 exact this
theorem setL_lt (n:Int):(Yw n).Pairwise (· < ·)∧∀k∈Yw n,k≤11:=by
 constructor
 ·exact List.Pairwise.filter _ List.pairwise_lt_range
 ·intro k hk
  have:=(List.mem_filter.1 hk).1
  rw[List.mem_range] at this
  omega
theorem set_read:∀(ks:List Nat) (F i:Nat) (least set:Int) (R:List Key),ks.Pairwise (· < ·)→(∀k∈ks,least≤k∧k≤11)→Sf ts i (ks.map (fun k=>((2,((k:Nat):Int),noS):Key))++(3,0,wRB)::R)→ks.length<F →
 YM ts F i least set = .ok (ks.foldl (fun s k=>orI .i64 s (shlI .i64 1 (k:Nat))) set) (i+(ks.length+1))
 | [],F,i,least,set,R,hp,hb,hs,hF=>by
  obtain ⟨F,rfl⟩:∃G,F=G+1:=⟨F-1,by simp at hF;omega⟩
  simp only[YM]
  rw[hs.sees,if_pos (by decide)]
  rfl
 | k::ks,F,i,least,set,R,hp,hb,hs,hF=>by
  obtain ⟨F,rfl⟩:∃G,F=G+1:=⟨F-1,by simp at hF;omega⟩
  simp only[YM]
  have hk:=hb k (by simp)
  rw[List.map_cons,List.cons_append] at hs
  rw[hs.sees,if_neg (by simp[isK]),hs.num (lo:=least) (hi:=11) hk.1 (by omega)]
  simp only[PR.bind]
  rw[List.pairwise_cons] at hp
  rw[set_read ks F (i+1) _ _ R hp.2 (fun q hq=>⟨by have:=hp.1 q hq;omega,(hb q (by simp[hq])).2⟩) hs.cons.2.2 (by simp at hF;omega)]
  simp only[List.foldl_cons,List.length_cons]
  congr 1
  omega
theorem satV_le {n:Int} (h:satV n=n):n≤1000000:=by unfold satV at h;omega
theorem and4095 {n:Int} (h0:0≤n) (h:andI .i64 n 4095=n):n≤4095:=by
 have h1:(BitVec.ofInt 64 n &&& BitVec.ofInt 64 4095).toNat ≤ 4095:=by
  rw[BitVec.toNat_and]
  exact Nat.le_trans Nat.and_le_right (by decide)
 unfold andI at h
 change IntKind.i64.wrap (((BitVec.ofInt 64 n &&& BitVec.ofInt 64 4095).toNat : Nat):Int)=n at h
 generalize (BitVec.ofInt 64 n &&& BitVec.ofInt 64 4095).toNat = x at h h1
 simp only[IntKind.wrap,IntKind.bits,IntKind.signed] at h
 simp at h
 omega
theorem con_cases {n t:Int} (h1:okV n t=true) (h2:1≤t∧t≤3) (h3:0≤n):(t=1∧n≤1000000)∨(t=2∧n≤4095)∨(t=3∧(n=0∨n=1)):=by
 simp only[okV,Bool.and_eq_true,decide_eq_true_eq] at h1
 obtain ⟨_,h1⟩:=h1
 rcases show t=1∨t=2∨t=3 by omega with rfl|rfl|rfl
 ·left;refine ⟨rfl,satV_le ?_⟩
  simpa[coV] using h1
 ·right;left;refine ⟨rfl,and4095 h3 ?_⟩
  simpa[coV] using h1
 ·right;right;refine ⟨rfl,?_⟩
  simp only[coV] at h1
  simp only[show ¬(3:Int)=1 by decide,show ¬(3:Int)=2 by decide,if_false,if_true,trV] at h1
  split at h1<;>omega
structure NodeC (e:Exp):Prop where
 c:(∃n,0≤n∧n≤1000000∧e = .mk 1 n 0 1 noS noS [])∨(∃n,0≤n∧n≤4095∧e = .mk 1 n 0 2 noS noS [])∨(∃n,(n=0∨n=1)∧e = .mk 1 n 0 3 noS noS [])∨e = .mk 2 0 0 0 noS noS [] ∨
  (∃p m,0≤p∧p≤3∧ZS m=true∧e = .mk 3 0 p 0 noS m [])∨(∃n a b,1≤n∧n≤12∧e = .mk 4 n 0 0 noS noS [a,b])∨(∃a b c,e = .mk 5 0 0 0 noS noS [a,b,c]) ∨
  (∃p,0≤p∧p≤3∧e = .mk 6 0 p 0 noS noS [])∨e = .mk 7 0 0 0 noS noS []∨(∃s m a,ZS s=true∧ZS m=true∧e = .mk 8 0 0 0 s m [a])
theorem node_c {e:Exp} (h:YT e=true):NodeC e:=by
 constructor
 simp only[YT,bareV,Bool.and_eq_true,Bool.or_eq_true,decide_eq_true_eq] at h
 obtain ⟨⟨h1,⟨⟨⟨⟨⟨h2,h3⟩,h4⟩,h5⟩,h6⟩,h7⟩⟩,h8⟩:=h
 rcases show e.kind=1∨e.kind=2∨e.kind=3∨e.kind=4∨e.kind=5∨e.kind=6∨e.kind=7∨e.kind=8 by omega with hk|hk|hk|hk|hk|hk|hk|hk
 all_goals simp[hk,arity] at h2 h3 h4 h5 h6 h7 h8
 ·rcases con_cases h8.1.2 h8.1.1 h8.2 with ⟨ht,h9⟩|⟨ht,h9⟩|⟨ht,h9⟩
  ·exact .inl ⟨e.n,h8.2,h9,Exp.ext_iff.2 ⟨hk,rfl,h3,ht,h7,h4,h2⟩⟩
  ·exact .inr (.inl ⟨e.n,h8.2,h9,Exp.ext_iff.2 ⟨hk,rfl,h3,ht,h7,h4,h2⟩⟩)
  ·exact .inr (.inr (.inl ⟨e.n,h9,Exp.ext_iff.2 ⟨hk,rfl,h3,ht,h7,h4,h2⟩⟩))
 ·exact .inr (.inr (.inr (.inl (Exp.ext_iff.2 ⟨hk,h5,h3,h6,h7,h4,h2⟩))))
 ·exact .inr (.inr (.inr (.inr (.inl ⟨e.pos,e.name,h8.1.1,h8.1.2,h8.2,Exp.ext_iff.2 ⟨hk,h5,rfl,h6,h7,rfl,h2⟩⟩))))
 ·obtain ⟨x,y,ha⟩:∃x y,e.args=[x,y]:=by
   match e.args,h2 with
   | [x,y],_ => exact ⟨x,y,rfl⟩
  exact .inr (.inr (.inr (.inr (.inr (.inl ⟨e.n,x,y,h8.1,h8.2,Exp.ext_iff.2 ⟨hk,rfl,h3,h6,h7,h4,ha⟩⟩)))))
 ·obtain ⟨x,y,z,ha⟩:∃x y z,e.args=[x,y,z]:=by
   match e.args,h2 with
   | [x,y,z],_ => exact ⟨x,y,z,rfl⟩
  exact .inr (.inr (.inr (.inr (.inr (.inr (.inl ⟨x,y,z,Exp.ext_iff.2 ⟨hk,h5,h3,h6,h7,h4,ha⟩⟩))))))
 ·exact .inr (.inr (.inr (.inr (.inr (.inr (.inr (.inl ⟨e.pos,h8.1,h8.2,Exp.ext_iff.2 ⟨hk,h5,rfl,h6,h7,h4,h2⟩⟩)))))))
 ·exact .inr (.inr (.inr (.inr (.inr (.inr (.inr (.inr (.inl (Exp.ext_iff.2 ⟨hk,h5,h3,h6,h7,h4,h2⟩)))))))))
 ·obtain ⟨x,ha⟩:∃x,e.args=[x]:=by
   match e.args,h2 with
   | [u],_ => exact ⟨u,rfl⟩
  exact .inr (.inr (.inr (.inr (.inr (.inr (.inr (.inr (.inr ⟨e.sym,e.name,x,h8.1,h8.2,Exp.ext_iff.2 ⟨hk,h5,h3,h6,rfl,rfl,ha⟩⟩))))))))
end Go.Gh
namespace Go.Gh
open Lib
variable {ts:List Tok}
def FstK (e:Exp):Prop:=lvE e≠0→∃x R,kE e=x::R∧isK x wIf=false
theorem rd_expr {e:Exp} (h:RdA e) (h0:lvE e≠0) (hf:FstK e):RdE e where
 toRdA:=h
 expr:=fun ts f i R hs hF hR=>by
  obtain ⟨f,rfl⟩:∃g,f=g+1:=⟨f-1,by omega⟩
  obtain ⟨x,R',hx,hi⟩:=hf h0
  have hs':=hs
  rw[hx,List.cons_append] at hs'
  have:=h.at (L:=1) (by omega) (by omega) (lvE_le e) hs (f:=f) (by omega) hR
  show Yg ts (pE ts f) (pA ts f) i = _
  unfold Yg
  rw[hs'.sees,if_neg (by rw[hi];decide)]
  exact this
theorem rd_atom {e : Exp} (h4 : lvE e = 4) (hf : FstK e) (ha : ∀ (ts : List Tok) (f i : Nat) (R : List Key), Sf ts i (kE e ++ R) → 2 * (kE e).length ≤ f → Y6 ts (pE ts f) (pA ts f) i = .ok e (i + (kE e).length)) : RdE e :=
  rd_expr { atom := fun _ ts f i R hs hF => by
              obtain ⟨f, rfl⟩ : ∃ g, f = g + 1 := ⟨f - 1, by omega⟩
              exact ha ts f i R hs (by omega)
            one := fun h => by omega
            own := fun lv h1 h3 he => by omega } (by omega) hf
theorem rd_all:∀e:Exp,YR YT e=true→RdE e∧FstK e:=by
 refine Exp.indA fun e ih hv=> ?_
 obtain ⟨hn,hv⟩:=allE_args hv
 have ih':∀a∈e.args,RdE a∧FstK a:=fun a ha=>ih a ha (hv a ha)
 clear ih hv
 have mk:FstK e→(FstK e→RdE e)→RdE e∧FstK e:=fun h1 h2=>⟨h2 h1,h1⟩
 rcases (node_c hn).c with ⟨n,h1,h2,rfl⟩|⟨n,h1,h2,rfl⟩|⟨n,h1,rfl⟩|rfl|⟨p,m,h1,h2,h3,rfl⟩|⟨n,a,b,h1,h2,rfl⟩|⟨a,b,c,rfl⟩|⟨p,h1,h2,rfl⟩|rfl|⟨s,m,a,h1,h2,rfl⟩
 ·have e0:kE (.mk 1 n 0 1 noS noS [])=[(2,n,noS)]:=rfl
  refine mk (fun _ => ⟨_,_,e0,by simp[isK]⟩) fun hf=>rd_atom rfl hf fun ts f i R hs hF=> ?_
  rw[e0] at hs ⊢
  rw[List.singleton_append] at hs
  unfold Y6
  dsimp only
  rw[if_neg (not_not_intro hs.cons.1),hs.kind,if_pos rfl,hs.numv]
  rfl
 ·have e0:kE (.mk 1 n 0 2 noS noS [])=(3,0,wLB)::((Yw n).map (fun k=>((2,((k:Nat):Int),noS):Key))++[(3,0,wRB)]):=by
   show keys (setI n) = _
   have:=keys_join ((Yw n).map (fun k=>((2,((k:Nat):Int),noS):Key)))
   rw[List.map_map] at this
   unfold setI
   rw[X9,keys_app,X9,keys_nil]
   exact congrArg (fun l=> _ :: (l++[_])) this
  refine mk (fun _ => ⟨_,_,e0,by decide⟩) fun hf=>rd_atom rfl hf fun ts f i R hs hF=> ?_
  rw[e0] at hs ⊢
  have hl:=hs.len
  rw[List.cons_append,List.append_assoc,List.singleton_append] at hs
  simp only[List.length_append,List.length_cons,List.length_map,List.length_nil] at hl
  obtain ⟨q1,q2⟩:=setL_lt n
  have Z1:=set_read (Yw n) (ts.length+1) (i+1) 0 0 R q1 (fun k hk=>⟨by omega,by have:=q2 k hk;omega⟩) hs.cons.2.2 (by omega)
  rw[setL_fold h1 h2] at Z1
  unfold Y6
  simp only[hs.isW,hs.kind]
  rw[if_neg (not_not_intro hs.cons.1),if_neg (by decide),if_pos (by decide),Z1]
  simp only[PR.bind,List.length_cons,List.length_append,List.length_map,List.length_nil,conE]
  congr 1
  omega
 ·have e0:kE (.mk 1 n 0 3 noS noS [])=[(1,0,if n=1 then wTrue else Yi)]:=rfl
  have hc:(if n=1 then wTrue else Yi)=wTrue∧n=1∨(if n=1 then wTrue else Yi)=Yi∧n=0:=by
   rcases h1 with rfl|rfl
   ·right;exact ⟨rfl,rfl⟩
   ·left;exact ⟨rfl,rfl⟩
  rcases hc with ⟨hc,rfl⟩|⟨hc,rfl⟩
  ·rw[hc] at e0
   refine mk (fun _ => ⟨_,_,e0,by decide⟩) fun hf=>rd_atom rfl hf fun ts f i R hs hF=> ?_
   rw[e0] at hs ⊢
   rw[List.singleton_append] at hs
   unfold Y6
   simp only[hs.isW,hs.kind]
   rw[if_neg (not_not_intro hs.cons.1),if_neg (by decide),if_neg (by decide),if_pos (by decide)]
   rfl
  ·rw[hc] at e0
   refine mk (fun _ => ⟨_,_,e0,by decide⟩) fun hf=>rd_atom rfl hf fun ts f i R hs hF=> ?_
   rw[e0] at hs ⊢
   rw[List.singleton_append] at hs
   unfold Y6
   simp only[hs.isW,hs.kind]
   rw[if_neg (not_not_intro hs.cons.1),if_neg (by decide),if_neg (by decide),if_neg (by decide),if_pos (by decide)]
   rfl
 ·have e0:kE (.mk 2 0 0 0 noS noS [])=[(1,0,wLit)]:=rfl
  refine mk (fun _ => ⟨_,_,e0,by decide⟩) fun hf=>rd_atom rfl hf fun ts f i R hs hF=> ?_
  rw[e0] at hs ⊢
  rw[List.singleton_append] at hs
  unfold Y6
  simp only[hs.isW,hs.kind]
  rw[if_neg (not_not_intro hs.cons.1),if_neg (by decide),if_neg (by decide),if_neg (by decide),if_neg (by decide),if_pos (by decide)]
  rfl
 ·have e0:kE (.mk 3 0 p 0 noS m [])=[(3,0,wDol),(2,p,noS),(3,0,Zc),(1,0,m)]:=rfl
  refine mk (fun _ => ⟨_,_,e0,by decide⟩) fun hf=>rd_atom rfl hf fun ts f i R hs hF=> ?_
  rw[e0] at hs ⊢
  simp only[List.cons_append,List.nil_append] at hs
  have s1:=hs.cons.2.2
  have s2:=s1.cons.2.2
  have s3:=s2.cons.2.2
  unfold Y6
  simp only[hs.isW,hs.kind]
  rw[if_neg (not_not_intro hs.cons.1),if_neg (by decide),if_neg (by decide),if_neg (by decide),if_neg (by decide),if_neg (by decide),if_neg (by decide),if_pos (by decide)]
  simp only[PR.bind,s1.num h1 h2,s2.take (w:=Zc) (by decide),s3.name h3]
  rfl
 ·have hop:=opKy_op n (mem12 h1 h2)
  have ha:=ih' a (by simp[Exp.args])
  have hb:=ih' b (by simp[Exp.args])
  by_cases h4:Zy n=4
  ·have e0:kE (.mk 4 n 0 0 noS noS [a,b])=opK n::(3,0,wLP)::(kE a++(3,0,Yv)::(kE b++[(3,0,wRP)])):=by
    show keys (itN 4 n 0 0 noS noS [(lvE a,itE a),(lvE b,itE b)]) = _
    unfold itN
    rw[if_neg (by decide),if_neg (by decide),if_neg (by decide),if_neg (by decide),if_neg (by decide),if_neg (by decide),if_neg (by decide),if_pos h4]
    simp only[X9,keys_none,keys_app,keys_nil]
    rfl
   obtain ⟨k1,k2,k3,k4⟩:=funO_opK n (mem12 h1 h2) h4
   have hlv:lvE (.mk 4 n 0 0 noS noS [a,b])=4:=by
    show (if (4:Int)=5 then 0 else if (4:Int)=4 then Zy n else 4)=4
    rw[if_neg (by decide),if_pos rfl,h4]
   refine mk (fun _ => ⟨_,_,e0,k4 wIf (by simp)⟩) fun hf=>rd_atom hlv hf fun ts f i R hs hF=> ?_
   rw[e0] at hs hF ⊢
   simp only[List.cons_append,List.append_assoc,List.nil_append] at hs
   simp only[List.length_cons,List.length_append,List.length_nil] at hF
   have s1:=hs.cons.2.2
   have s2:=s1.cons.2.2
   have s3:=s2.app
   have s4:=s3.cons.2.2
   have s5:=s4.app
   have r1:=ha.1.expr ts f _ _ s2 (by omega) (by intro l a b;rcases show l=1∨l=2∨l=3 by omega with rfl|rfl|rfl<;>(show opKy _ _ = 0;decide))
   have r2:=hb.1.expr ts f _ _ s4 (by omega) (by intro l a b;rcases show l=1∨l=2∨l=3 by omega with rfl|rfl|rfl<;>(show opKy _ _ = 0;decide))
   unfold Y6
   simp only[hs.isW,hs.kind,hs.text,k1,k2]
   rw[if_neg (not_not_intro hs.cons.1),if_neg (by decide),if_neg (by rw[k4 wLB (by simp)];decide),if_neg (by rw[k4 wTrue (by simp)];decide),if_neg (by rw[k4 Yi (by simp)];decide),if_neg (by rw[k4 wLit (by simp)];decide),if_neg (by rw[k4 wNone (by simp)];decide),if_neg (by rw[k4 wDol (by simp)];decide),if_neg (by rw[k4 wSelf (by simp)];decide),if_neg (by rw[k4 wLP (by simp)];decide),if_pos (by simp[k3])]
   simp only[PR.bind,s1.take (w:=wLP) (by decide),r1,s3.take (w:=Yv) (by decide),r2,s5.take (w:=wRP) (by decide),List.length_cons,List.length_append,List.length_nil,opE]
   congr 1
   omega
  ·have hlv:lvE (.mk 4 n 0 0 noS noS [a,b])=Zy n:=by
    show (if (4:Int)=5 then 0 else if (4:Int)=4 then Zy n else 4) = _
    rw[if_neg (by decide),if_pos rfl]
   have hl13:1≤Zy n∧Zy n≤3:=by
    unfold Zy at h4 ⊢
    repeat' split at h4
    all_goals first|exact absurd rfl h4|simp[*]
   have e0:kE (.mk 4 n 0 0 noS noS [a,b])=keys (YH (max (Zy n) 2) (lvE a,itE a))++opK n::keys (YH (Zy n+1) (lvE b,itE b)):=by
    show keys (itN 4 n 0 0 noS noS [(lvE a,itE a),(lvE b,itE b)]) = _
    unfold itN
    rw[if_neg (by decide),if_neg (by decide),if_neg (by decide),if_neg (by decide),if_neg (by decide),if_neg (by decide),if_neg (by decide),if_neg h4]
    simp only[X9,keys_none,keys_app,keys_nil]
    rfl
   have hfst:FstK (.mk 4 n 0 0 noS noS [a,b]):=fun _ => by
    rw[e0,keys_opnd]
    by_cases hl:lvE a<max (Zy n) 2
    ·rw[if_pos hl];exact ⟨_,_,rfl,by decide⟩
    ·rw[if_neg hl]
     obtain ⟨x,R,hx,hi⟩:=ha.2 (by omega)
     rw[hx]
     exact ⟨x,_,rfl,hi⟩
   have hop2:∀l,1≤l→l≤3→∀R,opR (opK n::R) l=if Zy n=l then n else 0:=fun l a b _ => hop l (mem3 a b)
   have hno:∀R,NoOp (opK n::R) (Zy n+1):=fun R l a b=>by rw[hop2 l (by omega) b,if_neg (by omega)]
   refine ⟨rd_expr { atom:=fun h=>by omega,one:=fun l1 ts f i R hs hF hR=> ?_,own:=fun lv l1 l3 hlv' ts f i R hs hF hR F r j hFl hr=> ?_ } (by omega) hfst,hfst⟩
   ·rw[hlv] at l1
    rw[e0] at hs hF ⊢
    rw[l1] at hno hop2
    rw[l1,show max 1 2=2 from rfl,show 1+1=2 from rfl] at hs hF ⊢
    rw[List.append_assoc] at hs
    simp only[List.length_append,List.length_cons] at hF ⊢
    have hs2:=hs.app
    have hs3:=hs2.cons.2.2
    have ha2:=opnd_at ha.1 (L:=2) (by omega) (by omega) (f:=f) hs (by omega) (hno _)
    have hb2:=opnd_at hb.1 (L:=2) (by omega) (by omega) (f:=f) hs3 (by omega) (hR.mono (by omega))
    have hat:opAt ts (i+(keys (YH 2 (lvE a,itE a))).length) 1=n:=by
     rw[hs2.op 1]
     exact (hop2 1 (by omega) (by omega) _).trans (if_pos rfl)
    rw[XL_lv f (by omega) (by omega)]
    unfold lvP
    rw[ha2]
    simp only[PR.bind,YO]
    rw[if_neg (by rw[hat];omega),hb2]
    simp only[PR.bind,if_true,hat,opE]
    congr 1
    omega
   ·rw[hlv] at hlv'
    subst hlv'
    have hmax:max (Zy n) 2=Zy n:=by omega
    rw[e0,hmax] at hs hF hFl hr
    rw[List.append_assoc] at hs
    simp only[List.length_append,List.length_cons] at hF hFl hr
    have hs2:=hs.app
    have hs3:=hs2.cons.2.2
    have hb2:=opnd_at hb.1 (L:=Zy n+1) (by omega) (by omega) (f:=f) hs3 (by omega) hR
    have hat:opAt ts (i+(keys (YH (Zy n) (lvE a,itE a))).length) (Zy n)=n:=by
     rw[hs2.op (Zy n)]
     exact (hop2 (Zy n) (by omega) l3 _).trans (if_pos rfl)
    have hstep:YO ts (XL ts f (Zy n+1)) (Zy n) (F+1) a (i+(keys (YH (Zy n) (lvE a,itE a))).length) = .ok r j:=by
     simp only[YO]
     rw[if_neg (by rw[hat];omega),hb2,hat]
     simp only[PR.bind]
     rw[if_neg (by omega)]
     have e9:i+(keys (YH (Zy n) (lvE a,itE a))).length + 1+(keys (YH (Zy n+1) (lvE b,itE b))).length = i+((keys (YH (Zy n) (lvE a,itE a))).length + ((keys (YH (Zy n+1) (lvE b,itE b))).length + 1)):=by omega
     rw[e9]
     exact hr
    exact opnd_own ha.1 l1 l3 hs (by omega) (hno _) (by omega) hstep
 ·have ha:=(ih' a (by simp[Exp.args])).1
  have hb:=(ih' b (by simp[Exp.args])).1
  have hc:=(ih' c (by simp[Exp.args])).1
  have e0:kE (.mk 5 0 0 0 noS noS [a,b,c])=(1,0,wIf)::(kE a++(1,0,wThen)::(kE b++(1,0,wElse)::kE c)):=by
   show keys (itN 5 0 0 0 noS noS [(lvE a,itE a),(lvE b,itE b),(lvE c,itE c)]) = _
   unfold itN
   rw[if_neg (by decide),if_neg (by decide),if_neg (by decide),if_pos rfl]
   simp only[X9,keys_none,keys_app,keys_nil]
   rfl
  have hlv:lvE (.mk 5 0 0 0 noS noS [a,b,c])=0:=rfl
  refine ⟨{ atom:=fun h=>by omega,one:=fun h=>by omega,own:=fun lv l1 l3 h=>by omega,expr:=fun ts f i R hs hF hR=> ?_ },fun h=>by omega⟩
  obtain ⟨f,rfl⟩:∃g,f=g+1:=⟨f-1,by omega⟩
  rw[e0] at hs hF ⊢
  simp only[List.cons_append,List.append_assoc] at hs
  simp only[List.length_cons,List.length_append] at hF
  have s1:=hs.cons.2.2
  have s2:=s1.app
  have s3:=s2.cons.2.2
  have s4:=s3.app
  have s5:=s4.cons.2.2
  have r1:=ha.expr ts f _ _ s1 (by omega) (by intro l a b;rcases show l=1∨l=2∨l=3 by omega with rfl|rfl|rfl<;>(show opKy _ _ = 0;decide))
  have r2:=hb.expr ts f _ _ s3 (by omega) (by intro l a b;rcases show l=1∨l=2∨l=3 by omega with rfl|rfl|rfl<;>(show opKy _ _ = 0;decide))
  have r3:=hc.expr ts f _ _ s5 (by omega) hR
  show Yg ts (pE ts f) (pA ts f) i = _
  unfold Yg
  rw[hs.sees,if_pos (by decide)]
  simp only[PR.bind,r1,s2.take (w:=wThen) (by decide),r2,s4.take (w:=wElse) (by decide),r3,List.length_cons,List.length_append]
  congr 1
  omega
 ·have e0:kE (.mk 6 0 p 0 noS noS [])=[(1,0,wSelf),(3,0,wLP),(2,p,noS),(3,0,wRP)]:=rfl
  refine mk (fun _ => ⟨_,_,e0,by decide⟩) fun hf=>rd_atom rfl hf fun ts f i R hs hF=> ?_
  rw[e0] at hs ⊢
  simp only[List.cons_append,List.nil_append] at hs
  have s1:=hs.cons.2.2
  have s2:=s1.cons.2.2
  have s3:=s2.cons.2.2
  unfold Y6
  simp only[hs.isW,hs.kind]
  rw[if_neg (not_not_intro hs.cons.1),if_neg (by decide),if_neg (by decide),if_neg (by decide),if_neg (by decide),if_neg (by decide),if_neg (by decide),if_neg (by decide),if_pos (by decide)]
  simp only[PR.bind,s1.take (w:=wLP) (by decide),s2.num h1 h2,s3.take (w:=wRP) (by decide)]
  rfl
 ·have e0:kE (.mk 7 0 0 0 noS noS [])=[(1,0,wNone)]:=rfl
  refine mk (fun _ => ⟨_,_,e0,by decide⟩) fun hf=>rd_atom rfl hf fun ts f i R hs hF=> ?_
  rw[e0] at hs ⊢
  rw[List.singleton_append] at hs
  unfold Y6
  simp only[hs.isW,hs.kind]
  rw[if_neg (not_not_intro hs.cons.1),if_neg (by decide),if_neg (by decide),if_neg (by decide),if_neg (by decide),if_neg (by decide),if_pos (by decide)]
  rfl
 ·have ha:=ih' a (by simp[Exp.args])
  have e0:kE (.mk 8 0 0 0 s m [a])=(1,0,s)::(3,0,Zc)::(1,0,m)::(1,0,wOf)::keys (YH 4 (lvE a,itE a)):=by
   show keys (itN 8 0 0 0 s m [(lvE a,itE a)]) = _
   unfold itN
   rw[if_neg (by decide),if_neg (by decide),if_neg (by decide),if_neg (by decide),if_neg (by decide),if_neg (by decide),if_pos rfl]
   simp only[X9,keys_none,keys_app,keys_nil]
   rfl
  refine mk (fun _ => ⟨_,_,e0,isK_name h1 (by decide)⟩) fun hf=>rd_atom rfl hf fun ts f i R hs hF=> ?_
  rw[e0] at hs hF ⊢
  simp only[List.cons_append] at hs
  simp only[List.length_cons] at hF
  have s1:=hs.cons.2.2
  have s2:=s1.cons.2.2
  have s3:=s2.cons.2.2
  have s4:=s3.cons.2.2
  have r1:=opnd_at ha.1 (L:=4) (by omega) (by omega) (f:=f) s4 (by omega) (NoOp.four _)
  rw[XL_4] at r1
  have n1:∀w,ZS w=false→¬isK (1,0,s) w=true:=fun w hw=>by rw[isK_name h1 hw];decide
  unfold Y6
  simp only[hs.isW,hs.kind,hs.text]
  rw[if_neg (not_not_intro hs.cons.1),if_neg (by decide),if_neg (n1 _ (by decide)),if_neg (n1 _ (by decide)),if_neg (n1 _ (by decide)),if_neg (n1 _ (by decide)),if_neg (n1 _ (by decide)),if_neg (n1 _ (by decide)),if_neg (n1 _ (by decide)),if_neg (n1 _ (by decide)),if_neg (fun h=>h.2 (funO_name h1))]
  simp only[PR.bind,hs.name h1,s1.take (w:=Zc) (by decide),s2.name h2,s3.take (w:=wOf) (by decide),r1,List.length_cons]
  congr 1
  omega
end Go.Gh
namespace Go.Gh
open Lib
theorem nameV_good {m:ByteArray} (h:ZS m=true):goodI (wd m):=by
 simp only[ZS,Bool.and_eq_true,decide_eq_true_eq] at h
 exact .inl ⟨rfl,rfl,h.1.1,h.1.2⟩
theorem X2 {c:UInt8} (h:c∈symC):goodI (sy c):= .inr (.inr ⟨rfl,rfl,.inl ⟨c,h,rfl⟩⟩)
theorem nb_good {n:Int} (h0:0≤n) (h1:n≤1000000):goodI (nb n):= .inr (.inl ⟨rfl,rfl,h0,h1⟩)
theorem wd_good {w:ByteArray} (h:shp (Z9 w)=true) (h2:(Z9 w).length ≤ 8):goodI (wd w):= .inl ⟨rfl,rfl,h,h2⟩
structure GdI (l:List It):Prop where
 good:∀x∈l,goodI x
 sep:sepI l=true
theorem GdI.nil:GdI []:=⟨by simp,rfl⟩
theorem GdI.one {x:It} (h:goodI x):GdI [x]:=⟨by simpa using h,rfl⟩
theorem GdI.mid {a r:List It} {x:It} (ha:GdI a) (hx:alnI x=false) (hg:goodI x) (hr:GdI r):GdI (a++x::r):=
 ⟨fun y hy=>by
  rcases List.mem_append.1 hy with h|h
  ·exact ha.good y h
  ·rcases List.mem_cons.1 h with rfl|h
   ·exact hg
   ·exact hr.good y h,
  by rw[sep_mid hx,ha.sep,sep_cons hx,hr.sep];rfl⟩
theorem GdI.cons {r:List It} {x:It} (hx:alnI x=false) (hg:goodI x) (hr:GdI r):GdI (x::r):=GdI.nil.mid hx hg hr
theorem GdI.hd {r:List It} {x y:It} (hg:goodI x) (hy:alnI y=false) (hg2:goodI y) (hr:GdI r):GdI (x::y::r):=(GdI.one hg).mid hy hg2 hr
theorem gd_join:∀l:List It,(∀x∈l,goodI x)→GdI (joinI l)
 | [],_ => .nil
 | [x],h=> .one (h x (by simp))
 | x::y::l,h=>by
  have:=gd_join (y::l) (fun z hz=>h z (by simp[hz]))
  exact .hd (h x (by simp)) rfl trivial this
theorem gd_set (n:Int):GdI (setI n):=by
 refine .cons rfl (X2 (by decide)) (.mid (gd_join _ fun x hx=> ?_) rfl (X2 (by decide)) .nil)
 rw[List.mem_map] at hx
 obtain ⟨k,hk,rfl⟩:=hx
 have:=(setL_lt n).2 k hk
 exact nb_good (by omega) (by omega)
theorem opK_good:∀n∈[(1:Int),2,3,4,5,6,7,8,9,10,11,12],(alnK (opK n)=true∧Zy n=4∧(opK n).1 = 1∧(opK n).2.1 = 0∧shp (Z9 (opK n).2.2)=true∧(Z9 (opK n).2.2).length ≤ 8)∨(alnK (opK n)=false∧(opK n).1 = 3∧(opK n).2.1 = 0∧(((Z9 (opK n).2.2).all (· ∈ symC)=true∧(Z9 (opK n).2.2).length = 1)∨(opK n).2.2 = ⟨#[61,61]⟩)):=by decide
theorem gd_opnd {l:List It} {L k:Nat} (h:GdI l):GdI (YH L (k,l)):=by
 unfold YH
 dsimp only
 split
 ·exact .cons rfl (X2 (by decide)) (h.mid rfl (X2 (by decide)) .nil)
 ·exact h
theorem one_chr {w:ByteArray} (h:(Z9 w).all (· ∈ symC)=true) (h1:(Z9 w).length = 1):∃c∈symC,w=⟨#[c]⟩:=by
 obtain ⟨⟨l⟩⟩:=w
 match l,h1 with
 | [c],_ => exact ⟨c,by simpa[Z9] using h,rfl⟩
theorem gd_all:∀e:Exp,YR YT e=true→GdI (itE e):=by
 refine Exp.indA fun e ih hv=> ?_
 obtain ⟨hn,hv⟩:=allE_args hv
 have ih':∀a∈e.args,GdI (itE a):=fun a ha=>ih a ha (hv a ha)
 clear ih hv
 rcases (node_c hn).c with ⟨n,h1,h2,rfl⟩|⟨n,h1,h2,rfl⟩|⟨n,h1,rfl⟩|rfl|⟨p,m,h1,h2,h3,rfl⟩|⟨n,a,b,h1,h2,rfl⟩|⟨a,b,c,rfl⟩|⟨p,h1,h2,rfl⟩|rfl|⟨s,m,a,h1,h2,rfl⟩
 ·exact .one (nb_good h1 h2)
 ·exact gd_set n
 ·show GdI [wd (if n=1 then wTrue else Yi)]
  split
  ·exact .one (wd_good (by decide) (by decide))
  ·exact .one (wd_good (by decide) (by decide))
 ·exact .one (wd_good (by decide) (by decide))
 ·exact .cons rfl (X2 (by decide)) (.hd (nb_good h1 (by omega)) rfl (X2 (by decide)) (.one (nameV_good h3)))
 ·have ha:=ih' a (by simp[Exp.args])
  have hb:=ih' b (by simp[Exp.args])
  show GdI (itN 4 n 0 0 noS noS [(lvE a,itE a),(lvE b,itE b)])
  unfold itN
  rw[if_neg (by decide),if_neg (by decide),if_neg (by decide),if_neg (by decide),if_neg (by decide),if_neg (by decide),if_neg (by decide)]
  have hg:goodI (some (opK n))∧(Zy n≠4→alnI (some (opK n))=false):=by
   rcases opK_good n (mem12 h1 h2) with ⟨k1,k2,k3,k4,k5,k6⟩|⟨k1,k2,k3,k4|k4⟩
   ·exact ⟨.inl ⟨k3,k4,k5,k6⟩,fun h=>absurd k2 h⟩
   ·exact ⟨.inr (.inr ⟨k2,k3,.inl (one_chr k4.1 k4.2)⟩),fun _ => k1⟩
   ·exact ⟨.inr (.inr ⟨k2,k3,.inr k4⟩),fun _ => k1⟩
  split
  ·refine .hd hg.1 rfl (X2 (by decide)) (ha.mid rfl (X2 (by decide)) (.cons rfl trivial (hb.mid rfl (X2 (by decide)) .nil)))
  ·rename_i h4
   exact (gd_opnd ha).mid rfl trivial (.cons (hg.2 h4) hg.1 (.cons rfl trivial (gd_opnd hb)))
 ·have ha:=ih' a (by simp[Exp.args])
  have hb:=ih' b (by simp[Exp.args])
  have hc:=ih' c (by simp[Exp.args])
  exact .hd (wd_good (by decide) (by decide)) rfl trivial (ha.mid rfl trivial (.hd (wd_good (by decide) (by decide)) rfl trivial (hb.mid rfl trivial (.hd (wd_good (by decide) (by decide)) rfl trivial hc))))
 ·exact .hd (wd_good (by decide) (by decide)) rfl (X2 (by decide)) (.hd (nb_good h1 (by omega)) rfl (X2 (by decide)) .nil)
 ·exact .one (wd_good (by decide) (by decide))
 ·have ha:=ih' a (by simp[Exp.args])
  exact .hd (nameV_good h1) rfl (X2 (by decide)) (.hd (nameV_good h2) rfl trivial (.hd (wd_good (by decide) (by decide)) rfl trivial (gd_opnd ha)))
def ZZ (e:Exp):List UInt8:=Zf (itE e)
theorem kE_ne {e:Exp} (h:YR YT e=true):kE e≠[]:=by
 intro h0
 obtain ⟨h1,h2⟩:=rd_all e h
 by_cases hl:lvE e=0
 ·have:=h1.expr [] 2 0 [] (by rw[h0];rfl) (by rw[h0];simp) (by intro l _ _;rfl)
  rw[show pE [] 2 0 = .bad 0 from rfl] at this
  cases this
 ·obtain ⟨x,R,e,_⟩:=h2 hl
  rw[e] at h0
  cases h0
theorem parsed_law {e:Exp} (h:Zo e=true):((Zp (ZZ e)).1 ≠ []∧ZD (ZZ e)=(e, -1))∨((Zp (ZZ e)).1 = []∧0≤(ZD (ZZ e)).2):=by
 have hv:YR YT e=true:=by simp only[Zo,Bool.and_eq_true] at h;exact h.2
 have hg:=gd_all e hv
 rcases tokz_its hg.good hg.sep with ⟨h1,h2,h3⟩|⟨h1,h2,h3⟩
 ·left
  have hk:(Yp 0 (itE e)).map keyT=kE e:=toksAt_keys 0 (itE e)
  have hlen:(Yp 0 (itE e)).length = (kE e).length := by rw[←hk,List.length_map]
  have hr:=(rd_all e hv).1.expr (Yp 0 (itE e)) (2 * (Yp 0 (itE e)).length + 4) 0 [] (by unfold Sf;rw[hk];simp) (by omega) (by intro l _ _;rfl)
  have e3:Zp (ZZ e)=(Yp 0 (itE e), -1):=h3
  constructor
  ·rw[e3]
   intro h0
   dsimp only at h0
   rw[h0] at hlen
   exact kE_ne hv (List.length_eq_zero_iff.1 hlen.symm)
  ·unfold ZD
   rw[e3]
   dsimp only
   rw[if_neg (by decide)]
   unfold parT
   dsimp only
   rw[hr]
   dsimp only
   rw[if_neg (by omega),if_pos h]
 ·right
  refine ⟨h2,?_⟩
  unfold ZD ZZ
  rw[if_pos (by omega)]
  exact h3
end Go.Gh
namespace Go.Gh
open Lib
variable {ts:List Tok}
theorem ZV {α β:Type} {P:PR α} {f:α→Nat→PR β} {b:β} {k:Nat} (h:P.bind f = .ok b k):∃a j,P = .ok a j∧f a j = .ok b k:=by
 cases P with
 | bad i=>cases h
 | ok a j=>exact ⟨a,j,rfl,h⟩
theorem XU {i j:Nat} {w:ByteArray} {a:Unit} (h:ZW ts i w = .ok a j):j=i+1:=by
 unfold ZW at h
 split at h
 ·cases h;rfl
 ·cases h
theorem num_nx {i j:Nat} {lo hi n:Int} (h:Zv ts i lo hi = .ok n j):j=i+1∧lo≤n∧n≤hi:=by
 unfold Zv at h
 split at h
 ·rename_i hc;cases h;exact ⟨rfl,hc.2.2⟩
 ·cases h
theorem name_nx {i j:Nat} {s:ByteArray} (h:ZO ts i = .ok s j):j=i+1:=by
 unfold ZO at h
 split at h
 ·cases h;rfl
 ·cases h
theorem toNat_ofInt {a:Int} (h0:0≤a) (h:a<18446744073709551616):(BitVec.ofInt 64 a).toNat = a.toNat:=by
 rw[BitVec.toNat_ofInt]
 omega
theorem shl_pow {n:Int} (h0:0≤n) (h:n≤11):shlI .i64 1 n=((2 ^ n.toNat:Nat):Int)∧2 ^ n.toNat≤2048:=by
 have:∀k,k<12→shlI .i64 1 ((k:Nat):Int)=((2 ^ k:Nat):Int)∧2 ^ k≤2048:=by decide
 have:=this n.toNat (by omega)
 rw[show ((n.toNat:Nat):Int)=n by omega] at this
 exact this
theorem or_nat {a b:Nat} (ha:a<4096) (hb:b<4096):orI .i64 (a:Int) (b:Int)=((a ||| b:Nat):Int)∧a ||| b<4096:=by
 have hlt:a ||| b<4096:=Nat.or_lt_two_pow (n:=12) ha hb
 refine ⟨?_,hlt⟩
 unfold orI
 change IntKind.i64.wrap (((BitVec.ofInt 64 a ||| BitVec.ofInt 64 b).toNat : Nat):Int) = _
 rw[BitVec.toNat_or,toNat_ofInt (by omega) (by omega),toNat_ofInt (by omega) (by omega),Int.toNat_natCast,Int.toNat_natCast]
 simp only[IntKind.wrap,IntKind.bits,IntKind.signed]
 simp
 omega
theorem filter_or {p q:Nat→Bool}:∀l:List Nat,(l.filter fun k=>p k||q k).length ≤ (l.filter p).length + (l.filter q).length
 | []=>by simp
 | k::l=>by
  have:=filter_or (p:=p) (q:=q) l
  simp only[List.filter_cons]
  cases p k<;>cases q k<;>simp<;>omega
theorem filter_eq_one (n m:Nat):((List.range m).filter fun k=>decide (n=k)).length ≤ 1:=by
 induction m with
 | zero=>simp
 | succ m ih=>
  rw[List.range_succ,List.filter_append,List.length_append]
  by_cases h:n=m
  ·have:(List.range m).filter (fun k=>decide (n=k))=[]:=by
    rw[List.filter_eq_nil_iff]
    intro a ha
    rw[List.mem_range] at ha
    simp
    omega
   rw[this]
   simp[h]
  ·simp[h]
   exact ih
theorem set_len {a:Int} {n:Int} (h0:0≤a) (h:a≤4095) (n0:0≤n) (n1:n≤11):0≤orI .i64 a (shlI .i64 1 n)∧orI .i64 a (shlI .i64 1 n)≤4095∧(Yw (orI .i64 a (shlI .i64 1 n))).length ≤ (Yw a).length + 1:=by
 obtain ⟨e1,e2⟩:=shl_pow n0 n1
 obtain ⟨e3,e4⟩:=or_nat (a:=a.toNat) (b:=2 ^ n.toNat) (by omega) (by omega)
 rw[show ((a.toNat:Nat):Int)=a by omega] at e3
 rw[e1,e3]
 refine ⟨by omega,by omega,?_⟩
 unfold Yw
 have e5:(fun k=>(((a.toNat ||| 2 ^ n.toNat:Nat):Int).toNat).testBit k)=fun k=>a.toNat.testBit k||decide (n.toNat=k):=by
  funext k
  rw[Int.toNat_natCast,Nat.testBit_or,Nat.testBit_two_pow]
 rw[e5]
 have h1:=filter_or (p:=fun k=>a.toNat.testBit k) (q:=fun k=>decide (n.toNat=k)) (List.range 12)
 have h2:=filter_eq_one n.toNat 12
 omega
theorem ite_c {α:Type} {c:Prop} [Decidable c] {a b x:α} (h:(if c then a else b)=x):(c∧a=x)∨(¬c∧b=x):=by
 by_cases hc:c
 ·rw[if_pos hc] at h;exact .inl ⟨hc,h⟩
 ·rw[if_neg hc] at h;exact .inr ⟨hc,h⟩
end Go.Gh
namespace Go.Gh
open Go.Lib
def eqT (q:Eqn):List UInt8:=[101,113,32,36]++(itoa q.pos++46::(Z9 q.name++([32,58,61,32]++ZZ q.expr)))
def coT (c:Con):List UInt8:=[112,117,116,32]++(Z9 c.sym++46::(Z9 c.name++([32,111,102,32]++(ZZ c.goal++([32,58,61,32]++ZZ c.value)))))
def hdT (r:Rul):List UInt8:=[114,117,108,101]++([Z9 r.name,Z9 r.left,[58]]++(r.right.map Z9++if r.lit then [[108,105,116]] else [])).flatMap (32 :: ·)
def YK (r:Rul):List (List UInt8):=if YX r then hdT r::(r.eqs.map eqT++r.cons.map coT) else []
def spl (b:UInt8):List UInt8→List (List UInt8)
 | []=>[[]]
 | c::l=>if c=b then []::spl b l else match spl b l with
  | []=>[[c]]
  | w::ws=>(c::w)::ws
theorem spl_ne (b:UInt8):∀l,spl b l≠[]
 | []=>by simp[spl]
 | c::l=>by
  simp only[spl]
  split
  ·simp
  ·split<;>simp
theorem spl_one {b:UInt8}:∀{w:List UInt8},b∉w→spl b w=[w]
 | [],_ => rfl
 | c::w,h=>by
  have h1:¬c=b:=fun e=>h (by first|exact List.mem_cons_of_mem _ e|(subst e;exact List.mem_cons_self))
  have h2:=spl_one (w:=w) (fun e=>h (by first|exact List.mem_cons_of_mem _ e|(subst e;exact List.mem_cons_self)))
  simp only[spl,if_neg h1,h2]
theorem spl_cons {b:UInt8}:∀{w:List UInt8} {l:List UInt8},b∉w→spl b (w++b::l)=w::spl b l
 | [],l,_ => by simp[spl]
 | c::w,l,h=>by
  have h1:¬c=b:=fun e=>h (by first|exact List.mem_cons_of_mem _ e|(subst e;exact List.mem_cons_self))
  have h2:=spl_cons (w:=w) (l:=l) (fun e=>h (by first|exact List.mem_cons_of_mem _ e|(subst e;exact List.mem_cons_self)))
  simp only[List.cons_append,spl,if_neg h1,h2]
theorem spl_flat {b:UInt8}:∀{ws:List (List UInt8)} {w:List UInt8},b∉w→(∀x∈ws,b∉x)→spl b (w++ws.flatMap (b :: ·))=w::ws
 | [],w,h,_ => by simpa using spl_one h
 | x::ws,w,h,hs=>by
  have h2:=spl_flat (ws:=ws) (w:=x) (hs x (by simp)) fun y hy=>hs y (by simp[hy])
  simp only[List.flatMap_cons,List.cons_append]
  rw[spl_cons h,h2]
theorem letV_rng {c:UInt8} (h:Zh c=true):97≤c.toNat∧c.toNat≤122:=by
 simp only[Zh,Bool.and_eq_true,decide_eq_true_eq] at h
 omega
theorem digV_rng {c:UInt8} (h:ZG c=true):48≤c.toNat∧c.toNat≤57:=by
 simp only[ZG,Bool.and_eq_true,decide_eq_true_eq] at h
 omega
theorem nameV_mem {s:ByteArray} (h:ZS s=true):∀c∈Z9 s,48≤c.toNat∧(c.toNat≤57∨97≤c.toNat)∧c.toNat≤122:=by
 simp only[ZS,Bool.and_eq_true] at h
 intro c hc
 obtain ⟨j,hj,rfl⟩:=List.mem_iff_getElem.1 hc
 rcases ((shp_iff _).1 h.1.1).2 j hj with h1|⟨_,h1⟩
 ·have:=letV_rng h1;omega
 ·have:=digV_rng h1;omega
theorem nameV_no {s:ByteArray} (h:ZS s=true) {b:UInt8} (hb:b.toNat<48):b∉Z9 s:=fun hc=>by
 have:=(nameV_mem h b hc).1
 omega
theorem hd_words {r:Rul} (h:YX r=true):spl 32 (hdT r)=[[114,117,108,101],Z9 r.name,Z9 r.left,[58]]++(r.right.map Z9++if r.lit then [[108,105,116]] else []):=by
 simp only[YX,Bool.and_eq_true,List.all_eq_true] at h
 obtain ⟨h1,h2,_,_,h3,_⟩:=h
 unfold hdT
 rw[spl_flat (by decide)]
 ·simp
 ·intro x hx
  simp only[List.mem_append,List.mem_cons,List.not_mem_nil,or_false,List.mem_map] at hx
  rcases hx with (rfl|rfl|rfl)|⟨s,hs,rfl⟩|hx
  ·exact nameV_no h1 (by decide)
  ·exact nameV_no h2 (by decide)
  ·decide
  ·exact nameV_no (h3 s hs) (by decide)
  ·split at hx
   ·simp only[List.mem_singleton] at hx;subst hx;decide
   ·simp at hx
theorem index_at {p0:UInt8} {p b:List UInt8}:∀{a:List UInt8},p0∉a→index (a++p0::(p++b)) (p0::p)=a.length
 | [],_ => by simp[index,List.isPrefixOf,List.isPrefixOf_iff_prefix]
 | c::a,h=>by
  have h1:¬p0=c:=fun e=>h (by subst e;exact List.mem_cons_self)
  have h2:=index_at (p:=p) (b:=b) (a:=a) (fun e=>h (List.mem_cons_of_mem _ e))
  have h3:(p0::p).isPrefixOf (c::(a++p0::(p++b)))=false:=by simp[List.isPrefixOf,h1]
  simp only[List.cons_append,index,h3,Bool.false_eq_true,if_false,h2]
  rw[if_neg (by simp<;>omega)]
  simp
theorem index_def {b:List UInt8}:∀{a:List UInt8},(58:UInt8)∉a→index (a++[32,58,61,32]++b) [32,58,61,32]=a.length
 | [],_ => by simp[index,List.isPrefixOf]
 | c::a,h=>by
  have h2:=index_def (b:=b) (a:=a) (fun e=>h (List.mem_cons_of_mem _ e))
  have h3:List.isPrefixOf [32,58,61,32] (c::(a++[32,58,61,32]++b))=false:=by
   cases a with
   | nil=>simp[List.isPrefixOf]
   | cons d a=>
    have:¬(58:UInt8)=d:=fun e=>h (by subst e;simp)
    simp[List.isPrefixOf,this]
  simp only[List.cons_append,index,h3,Bool.false_eq_true,if_false] at h2 ⊢
  rw[h2,if_neg (by simp<;>omega)]
  simp
theorem cut_of {s p:List UInt8} {a b:List UInt8} (h:index s p=(a.length:Int)) (hs:s=a++p++b):cut s p=(a,b,true):=by
 unfold cut
 rw[h,if_pos (by omega),hs]
 simp
theorem cut_at {p0:UInt8} {p a b:List UInt8} (h:p0∉a):cut (a++p0::(p++b)) (p0::p)=(a,b,true):=cut_of (index_at h) (by simp)
theorem cut_def {a b:List UInt8} (h:(58:UInt8)∉a):cut (a++[32,58,61,32]++b) [32,58,61,32]=(a,b,true):=cut_of (index_def h) rfl
theorem rendI_ok {x:It} (h:goodI x):∀c∈Yl x,c.toNat≠58∧c.toNat≠10:=by
 cases x with
 | none=>intro c hc;simp only[Yl,List.mem_singleton] at hc;subst hc;decide
 | some k=>
  obtain ⟨a,n,w⟩:=k
  intro c hc
  rcases h with ⟨h1,_,h2,_⟩|⟨h1,_,h2,_⟩|⟨h1,_,h2⟩
  ·dsimp only at h1 h2
   subst h1
   have hc2:c∈Z9 w:=by simpa[Yl,Y4] using hc
   obtain ⟨j,hj,rfl⟩:=List.mem_iff_getElem.1 hc2
   rcases ((shp_iff _).1 h2).2 j hj with h3|⟨_,h3⟩
   ·have:=letV_rng h3;omega
   ·have:=digV_rng h3;omega
  ·dsimp only at h1 h2
   subst h1
   have hc2:c∈itoa n:=by simpa[Yl,Y4] using hc
   rw[XV h2] at hc2
   have:=digV_rng ((dec_dig _).1 c hc2)
   omega
  ·dsimp only at h1 h2
   subst h1
   have hc2:c∈Z9 w:=by simpa[Yl,Y4] using hc
   rcases h2 with ⟨d,hd,rfl⟩|rfl
   ·have hc':c=d:=by simpa[Z9] using hc2
    subst hc'
    have:∀x∈symC,x.toNat≠58∧x.toNat≠10:=by decide
    exact this c hd
   ·have hc':c=61:=by simpa[Z9] using hc2
    subst hc';decide
theorem txt_noc {e:Exp} (h:YR YT e=true):∀c∈ZZ e,c.toNat≠58∧c.toNat≠10:=by
 intro c hc
 unfold ZZ Zf at hc
 obtain ⟨x,hx,hc⟩:=List.mem_flatMap.1 hc
 exact rendI_ok ((gd_all e h).good x hx) c hc
end Go.Gh
namespace Go.Gh
open Lib
def redB (l:List UInt8):Bool:=decide (l.length≤12)&&decide (itoa (Zg l)=l)
def Yx (l:List UInt8):Int:=if redB l=true then Zg l else 0
def sybN (l:List UInt8) (k:Nat):Nat:=
 match l[k]? with
 | some c=>if c∈symC then 1 else if c=61∧l[k+1]? = some 61 then 2 else 0
 | none=>0
def tokS (l:List UInt8) (k:Nat):Tok:=
 match l[k]? with
 | some c=>
  if Zh c=true then ⟨1,0,k,⟨((l.drop k).take (Zx YW (l.drop k))).toArray⟩⟩
  else if ZG c=true then ⟨2,Yx ((l.drop k).take (Zx ZG (l.drop k))),k,noS⟩
  else ⟨3,0,k,⟨((l.drop k).take (sybN l k)).toArray⟩⟩
 | none=>Y5
theorem YY {n:Int} (h0:0≤n) (h:n≤1000000):(itoa n).length ≤ 7:=by
 rw[XV h0,decDigits_length]
 exact nDigits_le 6 _ (by omega)
theorem valD_acc:∀(l:List UInt8) (n:Int),0≤n→(∀c∈l,ZG c=true)→0≤l.foldl (fun n c=>10 * n+((c.toNat:Int)-48)) n∧l.foldl (fun n c=>10 * n+((c.toNat:Int)-48)) n<(n+1) * 10 ^ l.length
 | [],n,h0,_ => by simp;omega
 | c::l,n,h0,h=>by
  have h2:=h c (by simp)
  simp only[ZG,Bool.and_eq_true,decide_eq_true_eq] at h2
  have:=valD_acc l (10 * n+((c.toNat:Int)-48)) (by omega) fun d hd=>h d (by simp[hd])
  simp only[List.foldl_cons,List.length_cons]
  refine ⟨this.1,Int.lt_of_lt_of_le this.2 ?_⟩
  rw[Int.pow_succ,Int.mul_comm (10 ^ l.length) 10,←Int.mul_assoc]
  exact Int.mul_le_mul_of_nonneg_right (by omega) (Int.pow_nonneg (by omega))
theorem fold_ge:∀(l:List UInt8) (n:Int),0≤n→(∀c∈l,ZG c=true)→n≤l.foldl (fun n c=>10 * n+((c.toNat:Int)-48)) n
 | [],n,h0,_ => Int.le_refl _
 | c::l,n,h0,h=>by
  have h2:=h c (by simp)
  simp only[ZG,Bool.and_eq_true,decide_eq_true_eq] at h2
  have:=fold_ge l (10 * n+((c.toNat:Int)-48)) (by omega) fun d hd=>h d (by simp[hd])
  simp only[List.foldl_cons]
  omega
theorem valD_bd (l:List UInt8) (h:∀c∈l,ZG c=true):0≤Zg l∧Zg l<10 ^ l.length:=by
 have:=valD_acc l 0 (by omega) h
 simpa[Zg] using this
theorem pow12 {l:List UInt8} (h:l.length≤11):(10:Int) ^ l.length≤100000000000:=by
 have:∀k,k≤11→(10:Int) ^ k≤100000000000:=by decide
 exact this _ h
theorem pow13 {l:List UInt8} (h:l.length≤12):(10:Int) ^ l.length≤1000000000000:=by
 have:∀k,k≤12→(10:Int) ^ k≤1000000000000:=by decide
 exact this _ h
theorem wrap_u8 {x:Int} (h0:0≤x) (h:x<256):IntKind.u8.wrap x=x:=by
 simp only[IntKind.wrap,IntKind.bits,IntKind.signed]
 simp
 omega
theorem valD_take {l:List UInt8} {i:Nat} (h:i<l.length):Zg (l.take (i+1))=10 * Zg (l.take i)+((l[i].toNat : Int)-48):=by
 rw[←List.take_append_getElem h,valD_snoc]
theorem tokS_at {l:List UInt8} {k:Nat} (h:k<l.length):tokS l k =
 if Zh l[k]=true then ⟨1,0,k,⟨((l.drop k).take (Zx YW (l.drop k))).toArray⟩⟩
 else if ZG l[k]=true then ⟨2,Yx ((l.drop k).take (Zx ZG (l.drop k))),k,noS⟩
 else ⟨3,0,k,⟨((l.drop k).take (sybN l k)).toArray⟩⟩:=by
 unfold tokS
 rw[List.getElem?_eq_getElem h]
theorem spanL_digs:∀(l:List UInt8),∀c∈l.take (Zx ZG l),ZG c=true
 | [],c,h=>by simp at h
 | d::l,c,h=>by
  simp only[Zx] at h
  split at h
  ·rename_i hd
   rw[List.take_succ_cons] at h
   rcases List.mem_cons.1 h with rfl|h
   ·exact hd
   ·exact spanL_digs l c h
  ·simp at h
theorem numT_red {w:List UInt8} (hd:∀c∈w,ZG c=true):numT w=if redB w=true∧Yx w≤1000000 then some (Yx w) else none:=by
 have hb:=(valD_bd w hd).1
 unfold numT Yx redB
 by_cases h:itoa (Zg w)=w
 ·by_cases hl:w.length≤12
  ·simp[h,hl]
  ·have:¬Zg w≤1000000:=fun h2=>by
    have:=YY hb h2
    rw[h] at this
    omega
   simp[h,hl,this]
 ·simp[h]
theorem tokN_2 {l:List UInt8} {k:Nat} (h:k<l.length):(Zb l k).2 =
 if Zh l[k]=true then (if Zx YW (l.drop k)≤8 then Zx YW (l.drop k) else 0)
 else if ZG l[k]=true then (if redB ((l.drop k).take (Zx ZG (l.drop k)))=true∧Yx ((l.drop k).take (Zx ZG (l.drop k)))≤1000000 then Zx ZG (l.drop k) else 0)
 else sybN l k:=by
 unfold Zb
 rw[dif_pos h]
 split
 ·split<;>rfl
 ·split
  ·rw[numT_red (spanL_digs _)]
   split
   ·rename_i h1
    split at h1
    ·rename_i h2;rw[if_pos h2]
    ·cases h1
   ·rename_i h1
    split at h1
    ·cases h1
    ·rename_i h2;rw[if_neg h2]
  ·unfold sybN
   rw[List.getElem?_eq_getElem h]
   dsimp only
   split
   ·rfl
   ·split<;>rfl
theorem tokS_N {l:List UInt8} {k:Nat} (h:k<l.length) (hn:(Zb l k).2 ≠ 0):tokS l k=(Zb l k).1 := by
 rw[tokS_at h]
 unfold Zb at hn ⊢
 rw[dif_pos h] at hn ⊢
 by_cases h1:Zh l[k]=true
 ·rw[if_pos h1] at hn ⊢
  rw[if_pos h1]
  by_cases h2:Zx YW (l.drop k)≤8
  ·rw[if_pos h2]
  ·rw[if_neg h2] at hn;exact absurd rfl hn
 ·rw[if_neg h1] at hn ⊢
  rw[if_neg h1]
  by_cases h2:ZG l[k]=true
  ·rw[if_pos h2] at hn ⊢
   rw[if_pos h2]
   rw[numT_red (spanL_digs _)] at hn ⊢
   by_cases h3:redB ((l.drop k).take (Zx ZG (l.drop k)))=true∧Yx ((l.drop k).take (Zx ZG (l.drop k)))≤1000000
   ·simp only[if_pos h3]
   ·simp only[if_neg h3] at hn;exact absurd rfl hn
  ·rw[if_neg h2] at hn ⊢
   rw[if_neg h2]
   by_cases h3:l[k]∈symC
   ·have e:sybN l k=1:=by unfold sybN;rw[List.getElem?_eq_getElem h];dsimp only;rw[if_pos h3]
    rw[if_pos h3,e,List.drop_eq_getElem_cons h]
    rfl
   ·rw[if_neg h3] at hn ⊢
    by_cases h4:l[k]=61∧l[k+1]? = some 61
    ·have e:sybN l k=2:=by unfold sybN;rw[List.getElem?_eq_getElem h];dsimp only;rw[if_neg h3,if_pos h4]
     obtain ⟨h5,h6⟩:=List.getElem?_eq_some_iff.1 h4.2
     rw[if_pos h4,e,List.drop_eq_getElem_cons h,List.drop_eq_getElem_cons h5,h4.1,h6]
     rfl
    ·rw[if_neg h4] at hn;exact absurd rfl hn
theorem u8_eq (c d:UInt8):c=d↔(c.toNat:Int)=d.toNat:=by
 rw[←UInt8.toNat_inj]
 omega
theorem mem_symC (c:UInt8):c∈symC↔((c.toNat:Int)=40∨(c.toNat:Int)=41∨(c.toNat:Int)=123∨(c.toNat:Int)=125∨(c.toNat:Int)=44∨(c.toNat:Int)=46∨(c.toNat:Int)=36∨(c.toNat:Int)=43∨(c.toNat:Int)=45∨(c.toNat:Int)=42∨(c.toNat:Int)=60∨(c.toNat:Int)=124∨(c.toNat:Int)=38∨(c.toNat:Int)=92):=by
 simp only[symC,List.mem_cons,List.not_mem_nil,or_false,u8_eq]
 rfl
theorem sybN_1 {l:List UInt8} {k:Nat} (hk:k<l.length) (h:((l[k].toNat : Int)=40∨(l[k].toNat : Int)=41∨(l[k].toNat : Int)=123∨(l[k].toNat : Int)=125∨(l[k].toNat : Int)=44∨(l[k].toNat : Int)=46∨(l[k].toNat : Int)=36∨(l[k].toNat : Int)=43∨(l[k].toNat : Int)=45∨(l[k].toNat : Int)=42∨(l[k].toNat : Int)=60∨(l[k].toNat : Int)=124∨(l[k].toNat : Int)=38∨(l[k].toNat : Int)=92)):sybN l k=1:=by
 unfold sybN
 rw[List.getElem?_eq_getElem hk]
 dsimp only
 rw[if_pos ((mem_symC _).2 h)]
theorem sybN_2 {l:List UInt8} {k:Nat} (hk:k<l.length) (h:(l[k].toNat : Int)=61) (h1:k+1<l.length) (h2:(l[k+1].toNat : Int)=61):sybN l k=2:=by
 unfold sybN
 rw[List.getElem?_eq_getElem hk,List.getElem?_eq_getElem h1]
 dsimp only
 rw[if_neg (fun hc=>by rw[mem_symC] at hc;omega),if_pos ⟨(u8_eq _ _).2 h,congrArg some ((u8_eq _ _).2 h2)⟩]
theorem sybN_0 {l:List UInt8} {k:Nat} (hk:k<l.length) (h:¬((l[k].toNat : Int)=40∨(l[k].toNat : Int)=41∨(l[k].toNat : Int)=123∨(l[k].toNat : Int)=125∨(l[k].toNat : Int)=44∨(l[k].toNat : Int)=46∨(l[k].toNat : Int)=36∨(l[k].toNat : Int)=43∨(l[k].toNat : Int)=45∨(l[k].toNat : Int)=42∨(l[k].toNat : Int)=60∨(l[k].toNat : Int)=124∨(l[k].toNat : Int)=38∨(l[k].toNat : Int)=92))
 (h2:¬(l[k].toNat : Int)=61∨l.length≤k+1∨∃h1:k+1<l.length,¬(l[k+1].toNat : Int)=61):sybN l k=0:=by
 unfold sybN
 rw[List.getElem?_eq_getElem hk]
 dsimp only
 rw[if_neg (fun hc=>h ((mem_symC _).1 hc)),if_neg]
 rintro ⟨a,b⟩
 rcases h2 with h2|h2|⟨h1,h2⟩
 ·exact h2 ((u8_eq _ _).1 a)
 ·rw[List.getElem?_eq_none h2] at b;cases b
 ·rw[List.getElem?_eq_getElem h1] at b
  simp only[Option.some.injEq] at b
  exact h2 ((u8_eq _ _).1 b)
theorem Ys {α:Type} (l:List α) (k n:Nat):(l.take (k+n)).drop k=(l.drop k).take n:=by
 rw[List.drop_take]
 congr 1
 omega
theorem sybN_le {l:List UInt8} {k:Nat} (h:k<l.length):k+sybN l k≤l.length:=by
 unfold sybN
 rw[List.getElem?_eq_getElem h]
 dsimp only
 split
 ·omega
 ·split
  ·rename_i h2
   have:=(List.getElem?_eq_some_iff.1 h2.2).1
   omega
  ·omega
theorem Bor.seenT {H:GH} {r n:Nat} {l:List Tok} (hr:Z6 H r=some (4,l.map Tk)) (hl:l.length=n):Bor H (.own r 4 0 n) (TkS l):=Bor.seen (f:=Tk) (fun a=>by simp[view,Y7]) hr hl
theorem tokN_let {l:List UInt8} {k:Nat} (h:k<l.length) (h1:Zh l[k]=true):Zb l k=if Zx YW (l.drop k)≤8 then (⟨1,0,k,⟨((l.drop k).take (Zx YW (l.drop k))).toArray⟩⟩,Zx YW (l.drop k)) else (Y5,0):=by
 unfold Zb
 rw[dif_pos h,if_pos h1]
theorem tokN_dig {l:List UInt8} {k:Nat} (h:k<l.length) (h1:Zh l[k]=false) (h2:ZG l[k]=true):Zb l k=(match numT ((l.drop k).take (Zx ZG (l.drop k))) with|some n=>(⟨2,n,k,noS⟩,Zx ZG (l.drop k))|none=>(Y5,0)):=by
 unfold Zb
 rw[dif_pos h,if_neg (by rw[h1];decide),if_pos h2]
 all_goals rfl
theorem tokN_sym {l:List UInt8} {k:Nat} (h:k<l.length) (h1:Zh l[k]=false) (h2:ZG l[k]=false):Zb l k=if l[k]∈symC then (⟨3,0,k,⟨#[l[k]]⟩⟩,1) else if l[k]=61∧l[k+1]? = some 61 then (⟨3,0,k,⟨#[61,61]⟩⟩,2) else (Y5,0):=by
 unfold Zb
 rw[dif_pos h,if_neg (by rw[h1];decide),if_neg (by rw[h2];decide)]
theorem aln_or {c:UInt8} (h:YW c=true):Zh c=true∨(Zh c=false∧ZG c=true):=by
 unfold YW at h
 cases h1:Zh c
 ·rw[h1] at h;exact .inr ⟨rfl,by simpa using h⟩
 ·exact .inl rfl
theorem aln_no {c:UInt8} (h:YW c=false):Zh c=false∧ZG c=false:=by
 simpa[YW] using h
end Go.Gh
namespace Go.Gh
open Lib Go.RowKit
theorem kept_below {w w':World} (h:Below w.heap.size w w'):Kept w w' (fun _ => True):=
 ⟨fun b hb _ => h.block b hb,h.size,fun b c T fz hx=>⟨c,fz,by rw[h.block b (lt_of_heap hx)];exact hx,rfl⟩⟩
theorem lib_ok {P:Program} {T:GH} {f:Nat} {gs:List GV} {R:GV→Prop}
 (hc:∀(w:World) (D:Nat→Prop) (vs:List Value),HM w D T []→(names T).Nodup → ML w D gs vs []→Calls P f vs.toArray w fun e w'=>∃v g,e = .returned v∧R g∧(∀D',MV w' D' g v [])∧Below w.heap.size w w')
 (hT:∀x∈T,x.2.2=[]∧x.1 % 4=3) (eg:∀args w,(callFunc f args).run P w = .ok (.enter f args) w):PureT P T f gs R:=by
 intro w D Ω vs hst hargs
 have hΩ:Ω=[]:=by
  have:∀(T:GH) (Ω:List Nat),(∀x∈T,x.2.2=[]∧x.1 % 4=3)→HM w D T Ω→Ω=[]:=by
   intro T
   induction T with
   | nil=>intro Ω _ h;exact h
   | cons x T ih=>
    obtain ⟨r,sz,es⟩:=x
    intro Ω h1 h2
    obtain ⟨F1,F2,e,h3,h4⟩:=h2
    have:=ih F2 (fun y hy=>h1 y (by simp[hy])) h4
    have hr:=(h1 (r,sz,es) (by simp)).2
    rcases h3 with ⟨b,c,T',fz,F',k1,_⟩|h3
    ·dsimp only at hr;omega
    ·rw[e,this,h3.2.2];rfl
  exact this T Ω hT hst.hm
 subst hΩ
 rw[eg]
 show Calls P f _ w _
 refine (hc w D vs hst.hm hst.nn hargs).mono ?_
 rintro e w' ⟨v,g,rfl,hR,hv,hb⟩
 have hk:=kept_below hb
 exact ⟨_,rfl,_,T,D,[],hR,hv D,⟨HM.keep hk (fun _ _ => trivial) (fun _ h=>h) (fun _ _ => trivial) hst.hm,hst.nd,hst.nn,hst.dj,fun b hb=>Nat.lt_of_lt_of_le (hst.ds b hb) hk.size⟩,
  ⟨fun _ h=>h,fun _ _ h=> .inl h,fun _ h _ => h,hk.mono fun _ _ _ => trivial,hb.os,hb.tape,hb.output⟩⟩
theorem parse_digs:∀(l:List UInt8) (acc:Nat),(∀c∈l,ZG c=true)→acc<18446744073709551616 →
 (l.foldl (fun n c=>10 * n+((c.toNat:Int)-48)) (acc:Int)<18446744073709551616→∃u:Nat,parseUint10 acc l = .ok u∧(u:Int)=l.foldl (fun n c=>10 * n+((c.toNat:Int)-48)) (acc:Int)) ∧
 (¬l.foldl (fun n c=>10 * n+((c.toNat:Int)-48)) (acc:Int)<18446744073709551616→parseUint10 acc l = .range)
 | [],acc,_,h=>⟨fun _ => ⟨acc,rfl,rfl⟩,fun h2=>by simp at h2;omega⟩
 | c::l,acc,hd,h=>by
  have hc:=hd c (by simp)
  simp only[ZG,Bool.and_eq_true,decide_eq_true_eq] at hc
  have hl:∀d∈l,ZG d=true:=fun d hd'=>hd d (by simp[hd'])
  have e1:(10 * (acc:Int)+((c.toNat:Int)-48))=((acc * 10+(c.toNat-48):Nat):Int):=by omega
  simp only[List.foldl_cons,parseUint10]
  rw[e1,if_pos (by omega)]
  have hge:=(valD_acc l ((acc * 10+(c.toNat-48):Nat):Int) (by omega) hl)
  have hmono:((acc * 10+(c.toNat-48):Nat):Int)≤l.foldl (fun n c=>10 * n+((c.toNat:Int)-48)) ((acc * 10+(c.toNat-48):Nat):Int):=fold_ge l _ (by omega) hl
  by_cases h1:1844674407370955162≤acc
  ·rw[if_pos h1]
   exact ⟨fun h2=>by omega,fun _ => rfl⟩
  ·rw[if_neg h1]
   by_cases h2:18446744073709551616≤acc * 10+(c.toNat-48)
   ·rw[if_pos h2]
    exact ⟨fun h3=>by omega,fun _ => rfl⟩
   ·rw[if_neg h2]
    exact parse_digs l _ hl (by omega)
theorem atoi_digs {l:List UInt8} (hd:∀c∈l,ZG c=true) (hne:l≠[]):(Zg l<9223372036854775808→atoiAll l = .ok (Zg l))∧(¬Zg l<9223372036854775808→atoiAll l = .range):=by
 cases l with
 | nil=>exact absurd rfl hne
 | cons c r=>
  have hc:=hd c (by simp)
  simp only[ZG,Bool.and_eq_true,decide_eq_true_eq] at hc
  obtain ⟨p1,p2⟩:=parse_digs (c::r) 0 hd (by decide)
  have e0:(c::r).foldl (fun n c=>10 * n+((c.toNat:Int)-48)) ((0:Nat):Int)=Zg (c::r):=rfl
  rw[e0] at p1 p2
  have hn:¬c.toNat=45:=by omega
  unfold atoiAll parseMag
  dsimp only
  rw[if_neg (show ¬(c.toNat=43∨c.toNat=45) by omega),if_neg (by simp)]
  constructor
  ·intro h
   obtain ⟨u,q1,q2⟩:=p1 (by omega)
   rw[q1]
   dsimp only
   rw[if_neg (by omega),if_neg (by omega),if_neg hn,q2]
  ·intro h
   by_cases h2:Zg (c::r)<18446744073709551616
   ·obtain ⟨u,q1,q2⟩:=p1 h2
    rw[q1]
    dsimp only
    rw[if_pos ⟨hn,by omega⟩]
   ·rw[p2 h2]
def tabE (n m:Nat):GH:=[(4 * n+3,1000000,[]),(4 * m+3,1000001,[])]
theorem tabE_ok (n m:Nat):∀x∈tabE n m,x.2.2=[]∧x.1 % 4=3:=fun x hx=>by
 simp only[tabE,List.mem_cons,List.not_mem_nil,or_false] at hx
 rcases hx with rfl|rfl
 ·exact ⟨rfl,by dsimp only;omega⟩
 ·exact ⟨rfl,by dsimp only;omega⟩
theorem tabH_E {n m:Nat} (h:n≠m):tabH (tabE n m):=⟨by simp[tabE,names];omega,fun x hx=>by
 simp only[tabE,List.mem_cons,List.not_mem_nil,or_false] at hx
 rcases hx with rfl|rfl
 ·exact ⟨by dsimp only;omega,by dsimp only;omega,rfl⟩
 ·exact ⟨by dsimp only;omega,by dsimp only;omega,rfl⟩⟩
theorem HM.isE {w:World} {D:Nat→Prop} {m:Nat} {H:GH} {Ω:List Nat} (h:HM w D H Ω) (hn:(names H).Nodup) (hm:(4 * m+3,1000001,[])∈H):∃te pe,w.cell? ⟨m,0,none⟩=some (.iface te pe):=by
 obtain ⟨F,hF,_⟩:=h.mem (hget_mem hn hm)
 have e:(4 * m+3) / 4=m:=by omega
 rcases hF with ⟨b,c,T,fz,F',k1,_⟩|hF
 ·dsimp only at k1;omega
 ·obtain ⟨_,c,T,fz,h1,h2⟩:=hF.1.2 (by dsimp only;omega) (by dsimp only;omega)
  dsimp only at h1 h2
  rw[e] at h1
  unfold tabP at h2
  rw[if_neg (by omega),if_neg (by omega),if_neg (by omega)] at h2
  obtain ⟨te,pe,rfl⟩:=h2
  refine ⟨te,pe,?_⟩
  unfold World.cell?
  rw[h1]
  rfl
theorem MV.tup2 {w:World} {D:Nat→Prop} (a b:Value):MV w D (.tup [.val a,.val b]) (.tuple #[a,b]) []:=by
 simp only[MV]
 exact ⟨[a,b],rfl,by simp only[ML,MV];exact ⟨a,[b],[],[],rfl,rfl,⟨rfl,rfl⟩,b,[],[],[],rfl,rfl,⟨rfl,rfl⟩,rfl,rfl⟩⟩
theorem chars_eta (p:ByteArray):(⟨(Z9 p).toArray⟩:ByteArray)=p:=by cases p;simp[Z9]
def hasPr (s p:List UInt8):Bool:=decide (p.length≤s.length)&&decide (s.take p.length=p)
theorem hasPr_2 (a b:UInt8) (r:List UInt8):hasPr (a::b::r) [61,61]=decide (a=61∧some b=some 61):=by simp[hasPr]
theorem hasPr_1 (a:UInt8):hasPr [a] [61,61]=decide (a=61∧(none:Option UInt8)=some 61):=by simp[hasPr]
theorem hasPr_eq {l:List UInt8} {k:Nat} (h:k<l.length):hasPr (l.drop k) [61,61]=decide (l[k]=61∧l[k+1]? = some 61):=by
 by_cases h1:k+1<l.length
 ·rw[List.drop_eq_getElem_cons h,List.drop_eq_getElem_cons h1,List.getElem?_eq_getElem h1]
  exact hasPr_2 _ _ _
 ·rw[List.drop_eq_getElem_cons h,List.drop_eq_nil_of_le (by omega),List.getElem?_eq_none (by omega)]
  exact hasPr_1 _
theorem ix_mem:∀(l:List UInt8) (c:UInt8),0≤indexByte l c↔c∈l
 | [],c=>by simp[indexByte]
 | b::l,c=>by
  have ih:=ix_mem l c
  simp only[indexByte,List.mem_cons]
  by_cases h:b=c
  ·simp[h]
  ·have h':¬(b == c)=true:=by simpa using h
   rw[if_neg h']
   have hne:¬c=b:=fun e=>h e.symm
   by_cases h1:indexByte l c = -1
   ·rw[if_pos (by simpa using h1)]
    rw[h1] at ih
    simp only[hne,false_or]
    exact ⟨fun h=>by omega,fun h=>by have:=ih.2 h;omega⟩
   ·rw[if_neg (by simpa using h1)]
    have hge:=ix_ge l c
    simp only[hne,false_or]
    exact ⟨fun h=>ih.1 (by omega),fun h=>by have:=ih.2 h;omega⟩
where
 ix_ge:∀(l:List UInt8) (c:UInt8), -1≤indexByte l c
 | [],c=>by simp[indexByte]
 | b::l,c=>by
  have:=ix_ge l c
  simp only[indexByte]
  repeat' split
  all_goals omega
def atoR (l:List UInt8) (te:TypeId) (g:GV):Prop:=
 (Zg l<9223372036854775808∧g = .tup [I (Zg l),.val .nilIface])∨(¬Zg l<9223372036854775808∧∃n p,g = .tup [I n,.val (.iface te p)])
end Go.Gh
namespace Go.Gh
open Lib Go.RowKit
def Zs (sep:List UInt8) (l:List (List UInt8)):List UInt8:=Lib.join l sep
theorem sl_str {w:World} {D:Nat→Prop}:∀(xs:List ByteArray) (cs:List Value),MF w D 1 (xs.map T) cs []→cs=xs.map fun x=>Value.string x
 | [],cs,h=>by simp only[List.map_nil,MF] at h;exact h.1
 | x::xs,cs,h=>by
  simp only[List.map_cons,MF,MV] at h
  obtain ⟨v,cs',F1,F2,rfl,_,_,hF,⟨rfl,_⟩,h2⟩:=h
  have hF2:F2=[]:=by have:=(List.append_eq_nil_iff.1 hF.symm).2;exact this
  subst hF2
  rw[sl_str xs cs' h2]
  rfl
end Go.Gh
namespace Go.Gh
open Lib
def oprT (L:Nat) (e:Exp):List UInt8:=Zf (YH L (lvE e,itE e))
theorem oprT_eq (L:Nat) (e:Exp):oprT L e=if lvE e<L then 40::(ZZ e++[41]) else ZZ e:=by
 unfold oprT YH ZZ
 dsimp only
 split
 ·rw[YD,rend_app];rfl
 ·rfl
theorem txt_num (n:Int):ZZ (.mk 1 n 0 1 noS noS [])=itoa n:=by
 show Zf [nb n] = _
 simp[Zf,Yl,Y4]
theorem rend_join:∀l:List Nat,Zf (joinI (l.map fun k:Nat=>nb (k:Int)))=Zs [32] (l.map fun k:Nat=>itoa k)
 | []=>rfl
 | [k]=>by simp[joinI,Zf,Yl,Y4,Zs,Lib.join]
 | k::m::l=>by
  have:=rend_join (m::l)
  simp only[List.map_cons] at this ⊢
  simp only[joinI,YD,this]
  simp[Yl,Y4,Zs,Lib.join]
theorem txt_set (n:Int):ZZ (.mk 1 n 0 2 noS noS [])=123::(Zs [32] ((Yw n).map fun k:Nat=>itoa k)++[125]):=by
 show Zf (sy 123::(joinI ((Yw n).map fun k:Nat=>nb (k:Int))++[sy 125])) = _
 rw[YD,rend_app,rend_join]
 rfl
theorem txt_bool (n:Int):ZZ (.mk 1 n 0 3 noS noS [])=Z9 (if n=1 then wTrue else Yi):=by
 show Zf [wd (if n=1 then wTrue else Yi)] = _
 simp[Zf,Yl,Y4]
theorem txt_lit:ZZ (.mk 2 0 0 0 noS noS [])=[108,105,116]:=by decide
theorem txt_none:ZZ (.mk 7 0 0 0 noS noS [])=[110,111,110,101]:=by decide
theorem txt_attr (p:Int) (m:ByteArray):ZZ (.mk 3 0 p 0 noS m [])=36::(itoa p++46::Z9 m):=by
 show Zf [sy 36,nb p,sy 46,wd m] = _
 simp[Zf,Yl,Y4]
 rfl
theorem txt_self (p:Int):ZZ (.mk 6 0 p 0 noS noS [])=[115,101,108,102,40]++(itoa p++[41]):=by
 show Zf [wd wSelf,sy 40,nb p,sy 41] = _
 simp[Zf,Yl,Y4]
 rfl
theorem txt_if (a b c:Exp):ZZ (.mk 5 0 0 0 noS noS [a,b,c])=[105,102,32]++ZZ a++[32,116,104,101,110,32]++ZZ b++[32,101,108,115,101,32]++ZZ c:=by
 show Zf (wd wIf::none::(itE a++none::wd wThen::none::(itE b++none::wd wElse::none::itE c))) = _
 simp only[YD,rend_app]
 simp[Yl,Y4,ZZ,wIf,wThen,wElse,Z9]
theorem txt_rem (s m:ByteArray) (a:Exp):ZZ (.mk 8 0 0 0 s m [a])=Z9 s++46::(Z9 m++[32,111,102,32]++oprT 4 a):=by
 show Zf (wd s::sy 46::wd m::none::wd wOf::none::YH 4 (lvE a,itE a)) = _
 simp only[YD]
 simp[Yl,Y4,oprT,wOf,Z9]
def opW (n:Int):ByteArray:=(opK n).2.2
theorem rend_opK:∀n∈[(1:Int),2,3,4,5,6,7,8,9,10,11,12],Y4 (opK n)=Z9 (opW n):=by decide
theorem txt_fun (n:Int) (h1:1≤n) (h2:n≤12) (a b:Exp) (h:Zy n=4):ZZ (.mk 4 n 0 0 noS noS [a,b])=Z9 (opW n)++40::(ZZ a++[44,32]++ZZ b++[41]):=by
 have e:itE (.mk 4 n 0 0 noS noS [a,b])=some (opK n)::sy 40::(itE a++sy 44::none::(itE b++[sy 41])):=by
  rw[itE_eq]
  show itN 4 n 0 0 noS noS [(lvE a,itE a),(lvE b,itE b)] = _
  unfold itN
  rw[if_neg (by decide),if_neg (by decide),if_neg (by decide),if_neg (by decide),if_neg (by decide),if_neg (by decide),if_neg (by decide),if_pos h]
  rfl
 unfold ZZ
 rw[e,YD,show Yl (some (opK n))=Y4 (opK n) from rfl,rend_opK n (mem12 h1 h2)]
 simp only[YD,rend_app]
 simp[Yl,Y4,rend_nil,Z9]
theorem txt_op (n:Int) (h1:1≤n) (h2:n≤12) (a b:Exp) (h:Zy n≠4):ZZ (.mk 4 n 0 0 noS noS [a,b])=oprT (max (Zy n) 2) a++32::(Z9 (opW n)++32::oprT (Zy n+1) b):=by
 have e:itE (.mk 4 n 0 0 noS noS [a,b])=YH (max (Zy n) 2) (lvE a,itE a)++none::some (opK n)::none::YH (Zy n+1) (lvE b,itE b):=by
  rw[itE_eq]
  show itN 4 n 0 0 noS noS [(lvE a,itE a),(lvE b,itE b)] = _
  unfold itN
  rw[if_neg (by decide),if_neg (by decide),if_neg (by decide),if_neg (by decide),if_neg (by decide),if_neg (by decide),if_neg (by decide),if_neg h]
  rfl
 unfold ZZ
 rw[e]
 simp only[YD,rend_app]
 rw[show Yl (some (opK n))=Y4 (opK n) from rfl,rend_opK n (mem12 h1 h2)]
 rfl
theorem YQ (L:Nat) (e:Exp):(oprT L e).length ≤ (ZZ e).length + 2:=by
 rw[oprT_eq]
 split
 ·simp
 ·omega
theorem opW_len:∀n∈[(1:Int),2,3,4,5,6,7,8,9,10,11,12],(Z9 (opW n)).length ≤ 4:=by decide
theorem join_len (l:List (List UInt8)) (h:∀x∈l,x.length≤7):(Zs [32] l).length ≤ 8 * l.length:=by
 induction l with
 | nil=>simp[Zs,Lib.join]
 | cons x l ih=>
  have h1:=h x (by simp)
  have h2:=ih fun y hy=>h y (by simp[hy])
  cases l with
  | nil=>simp[Zs,Lib.join];omega
  | cons y l=>
   have e:Zs [32] (x::y::l)=x++([32]++Zs [32] (y::l)):=by simp[Zs,Lib.join]
   rw[e]
   simp only[List.length_append,List.length_cons,List.length_nil] at h2 ⊢
   omega
theorem XX {m:ByteArray} (h:ZS m=true):(Z9 m).length ≤ 8:=by
 simp only[ZS,Bool.and_eq_true,decide_eq_true_eq] at h
 exact h.1.2
theorem setL_len (n:Int):(Yw n).length ≤ 12:=by
 unfold Yw
 exact Nat.le_trans (List.length_filter_le _ _) (by simp)
theorem X7:∀e:Exp,YR YT e=true→(ZZ e).length ≤ 120 * Zr e:=by
 refine Exp.indA fun e ih hv=> ?_
 obtain ⟨hn,hv⟩:=allE_args hv
 have ih':∀a∈e.args,(ZZ a).length ≤ 120 * Zr a:=fun a ha=>ih a ha (hv a ha)
 clear ih hv
 rcases (node_c hn).c with ⟨n,h1,h2,rfl⟩|⟨n,h1,h2,rfl⟩|⟨n,h1,rfl⟩|rfl|⟨p,m,h1,h2,h3,rfl⟩|⟨n,a,b,h1,h2,rfl⟩|⟨a,b,c,rfl⟩|⟨p,h1,h2,rfl⟩|rfl|⟨s,m,a,h1,h2,rfl⟩
 ·have:=YY h1 h2
  rw[txt_num,Y0];omega
 ·rw[txt_set,Y0]
  have h3:=join_len ((Yw n).map fun k:Nat=>itoa k) (by
   intro x hx
   obtain ⟨k,hk,rfl⟩:=List.mem_map.1 hx
   have:=(setL_lt n).2 k hk
   exact YY (by omega) (by omega))
  have h4:=setL_len n
  simp only[List.length_map,List.length_cons,List.length_append,List.length_nil] at h3 ⊢
  omega
 ·rw[txt_bool,Y0]
  have:(Z9 (if n=1 then wTrue else Yi)).length ≤ 5:=by split<;>decide
  omega
 ·rw[txt_lit,Y0];simp only[List.length_cons,List.length_nil];omega
 ·have:=YY h1 (by omega)
  have:=XX h3
  rw[txt_attr,Y0]
  simp only[List.length_cons,List.length_append]
  omega
 ·have ha:=ih' a (by simp[Exp.args])
  have hb:=ih' b (by simp[Exp.args])
  have e:Zr (.mk 4 n 0 0 noS noS [a,b])=1+Zr a+Zr b:=by rw[Y0];simp[Exp.args];omega
  have hw:=opW_len n (mem12 h1 h2)
  rw[e]
  by_cases h4:Zy n=4
  ·rw[txt_fun n h1 h2 a b h4]
   simp only[List.length_cons,List.length_append,List.length_nil]
   omega
  ·have:=YQ (max (Zy n) 2) a
   have:=YQ (Zy n+1) b
   rw[txt_op n h1 h2 a b h4]
   simp only[List.length_cons,List.length_append,List.length_nil]
   omega
 ·have ha:=ih' a (by simp[Exp.args])
  have hb:=ih' b (by simp[Exp.args])
  have hc:=ih' c (by simp[Exp.args])
  have e:Zr (.mk 5 0 0 0 noS noS [a,b,c])=1+Zr a+Zr b+Zr c:=by rw[Y0];simp[Exp.args];omega
  rw[e,txt_if]
  simp only[List.length_cons,List.length_append,List.length_nil]
  omega
 ·have:=YY h1 (by omega)
  rw[txt_self,Y0]
  simp only[List.length_cons,List.length_append,List.length_nil]
  omega
 ·rw[txt_none,Y0];simp only[List.length_cons,List.length_nil];omega
 ·have ha:=ih' a (by simp[Exp.args])
  have:=XX h1
  have:=XX h2
  have:=YQ 4 a
  have e:Zr (.mk 8 0 0 0 s m [a])=1+Zr a:=by rw[Y0];simp[Exp.args]
  rw[e,txt_rem]
  simp only[List.length_cons,List.length_append,List.length_nil]
  omega
def fmtE (e:Exp):List UInt8:=if Zo e=true then ZZ e else []
end Go.Gh
namespace Go.Gh
open Go.Lib
theorem parsed_short {e:Exp} (h:Zo e=true) (h1:(ZZ e).length ≤ 160) (h2:(kE e).length ≤ 80):ZD (ZZ e)=(e, -1):=by
 have hv:YR YT e=true:=by simp only[Zo,Bool.and_eq_true] at h;exact h.2
 have hg:=gd_all e hv
 rcases parsed_law h with h3|h3
 ·exact h3.2
 ·exfalso
  rcases tokz_its hg.good hg.sep with ⟨_,_,h4⟩|⟨h4,_⟩
  ·have h5:Zp (ZZ e)=(Yp 0 (itE e), -1):=h4
   have h6:=h3.1
   rw[h5] at h6
   have hk:(Yp 0 (itE e)).map keyT=kE e:=toksAt_keys 0 (itE e)
   have h7:Yp 0 (itE e)=[]:=h6
   rw[h7] at hk
   exact kE_ne hv hk.symm
  ·rcases h4 with h4|h4
   ·have:(ZZ e).length = (Zf (itE e)).length := rfl
    omega
   ·have:(kE e).length = (keys (itE e)).length := rfl
    omega
theorem attr_valid {p:Int} {m:ByteArray} (h0:0≤p) (h1:p≤3) (hm:ZS m=true):Zo (.mk 3 0 p 0 noS m [])=true:=by
 simp[Zo,Zr,cntEL,dpE,dpEL,YR,allEL,YT,bareV,arity,Exp.kind,Exp.n,Exp.pos,Exp.type,Exp.sym,Exp.name,Exp.args,h0,h1,hm]
theorem nmV_len {s:ByteArray} (h:ZS s=true):(Z9 s).length ≤ 8:=by
 simp only[ZS,Bool.and_eq_true,decide_eq_true_eq] at h
 exact h.1.2
theorem attr_read {p:Int} {m:ByteArray} (h0:0≤p) (h1:p≤3) (hm:ZS m=true):ZD (36::(itoa p++46::Z9 m))=(.mk 3 0 p 0 noS m [], -1):=by
 have hl:=nmV_len hm
 have hi:=YY h0 (by omega)
 have:=parsed_short (attr_valid h0 h1 hm) (by rw[txt_attr];simp only[List.length_cons,List.length_append];omega) (by show (keys [sy 36,nb p,sy 46,wd m]).length ≤ 80;simp[keys])
 rwa [txt_attr] at this
def rdbl (e:Exp):Prop:=ZD (ZZ e)=(e, -1)
def rdR (r:Rul):Prop:=(∀q∈r.eqs,rdbl q.expr)∧∀c∈r.cons,rdbl c.goal∧rdbl c.value
def dfT:List UInt8:=[32,58,61,32]
def rqS (l:List UInt8):Eqn:=
 if 4<(cut l dfT).1.length then ⟨(ZD ((cut l dfT).1.drop 3)).1.pos,(ZD ((cut l dfT).1.drop 3)).1.name,(ZD (cut l dfT).2.1).1⟩ else ⟨0,noS,(ZD (cut l dfT).2.1).1⟩
def jn:List (List UInt8)→List UInt8
 | []=>[]
 | w::ws=>w++ws.flatMap (32 :: ·)
def rcS (l:List UInt8):Con:=
 if (spl 32 (cut l dfT).1).length < 4 then ⟨noS,noS,expZ,expZ⟩
 else ⟨⟨((spl 46 ((spl 32 (cut l dfT).1).getD 1 [])).headD []).toArray⟩,⟨((spl 46 ((spl 32 (cut l dfT).1).getD 1 [])).getLastD []).toArray⟩,(ZD (jn ((spl 32 (cut l dfT).1).drop 3))).1,(ZD (cut l dfT).2.1).1⟩
def litW:List UInt8:=[108,105,116]
def rhS (l:List UInt8):Rul:=
 if (spl 32 l).length < 4 then rulZ
 else ⟨⟨((spl 32 l).getD 1 []).toArray⟩,⟨((spl 32 l).getD 2 []).toArray⟩,
  ((if ((spl 32 l).drop 4).getLast? = some litW then ((spl 32 l).drop 4).dropLast else (spl 32 l).drop 4).map fun w=>⟨w.toArray⟩),
  decide (((spl 32 l).drop 4).getLast? = some litW),[],[]⟩
def isEq (l:List UInt8):Bool:=decide (3<l.length)&&decide (l.take 3=[101,113,32])
def rdS (h:List UInt8) (t:List (List UInt8)):Rul:={ rhS h with eqs:=(t.filter isEq).map rqS,cons:=(t.filter fun l=> !isEq l).map rcS }
def parS:List (List UInt8)→Option Rul
 | []=>none
 | h::t=>if YK (rdS h t)=h::t then some (rdS h t) else none
theorem eq_cut {q:Eqn} (hn:ZS q.name=true) (h0:0≤q.pos):cut (eqT q) dfT=([101,113,32,36]++(itoa q.pos++46::Z9 q.name),ZZ q.expr,true):=by
 have h:=cut_def (a:=[101,113,32,36]++(itoa q.pos++46::Z9 q.name)) (b:=ZZ q.expr) (by
  intro hm
  simp only[List.mem_append,List.mem_cons,List.not_mem_nil,or_false] at hm
  rcases hm with (h|h|h|h)|h|h|h
  ·cases h
  ·cases h
  ·cases h
  ·cases h
  ·rw[XV h0] at h
   have:=digV_rng ((dec_dig _).1 _ h)
   revert this;decide
  ·cases h
  ·have:=nameV_mem hn _ h
   revert this;decide)
 rw[show eqT q=[101,113,32,36]++(itoa q.pos++46::Z9 q.name)++[32,58,61,32]++ZZ q.expr by simp[eqT]]
 exact h
theorem rqS_back {q:Eqn} (hn:ZS q.name=true) (h0:0≤q.pos) (h3:q.pos≤3):rqS (eqT q)=⟨q.pos,q.name,(ZD (ZZ q.expr)).1⟩:=by
 unfold rqS
 rw[eq_cut hn h0]
 have hd:([101,113,32,36]++(itoa q.pos++46::Z9 q.name)).drop 3=36::(itoa q.pos++46::Z9 q.name):=rfl
 rw[hd,attr_read h0 h3 hn,if_pos (by simp only[List.length_cons,List.length_append];omega)]
 rfl
theorem jn_spl:∀l:List UInt8,jn (spl 32 l)=l
 | []=>rfl
 | c::l=>by
  have ih:=jn_spl l
  simp only[spl]
  split
  ·rename_i h
   subst h
   cases h2:spl 32 l with
   | nil=>exact absurd h2 (spl_ne 32 l)
   | cons w ws=>rw[h2] at ih;simpa[jn] using ih
  ·cases h2:spl 32 l with
   | nil=>exact absurd h2 (spl_ne 32 l)
   | cons w ws=>rw[h2] at ih;simpa[jn] using ih
theorem co_cut {c:Con} (h1:ZS c.sym=true) (h2:ZS c.name=true) (h3:YR YT c.goal=true):cut (coT c) dfT=([112,117,116]++32::((Z9 c.sym++46::Z9 c.name)++32::([111,102]++32::ZZ c.goal)),ZZ c.value,true):=by
 have h:=cut_def (a:=[112,117,116]++32::((Z9 c.sym++46::Z9 c.name)++32::([111,102]++32::ZZ c.goal))) (b:=ZZ c.value) (by
  intro hm
  simp only[List.mem_append,List.mem_cons,List.not_mem_nil,or_false] at hm
  rcases hm with (h|h|h)|h|(h|h|h)|h|(h|h)|h|h
  ·cases h
  ·cases h
  ·cases h
  ·cases h
  ·have:=nameV_mem h1 _ h
   revert this;decide
  ·cases h
  ·have:=nameV_mem h2 _ h
   revert this;decide
  ·cases h
  ·cases h
  ·cases h
  ·cases h
  ·exact (txt_noc h3 _ h).1 rfl)
 rw[show coT c=[112,117,116]++32::((Z9 c.sym++46::Z9 c.name)++32::([111,102]++32::ZZ c.goal))++[32,58,61,32]++ZZ c.value by simp[coT]]
 exact h
theorem co_words {c:Con} (h1:ZS c.sym=true) (h2:ZS c.name=true):spl 32 ([112,117,116]++32::((Z9 c.sym++46::Z9 c.name)++32::([111,102]++32::ZZ c.goal)))=[112,117,116]::(Z9 c.sym++46::Z9 c.name)::[111,102]::spl 32 (ZZ c.goal):=by
 rw[spl_cons (by decide),spl_cons,spl_cons (by decide)]
 intro hm
 rcases List.mem_append.1 hm with h|h
 ·exact nameV_no h1 (by decide) h
 ·rcases List.mem_cons.1 h with h|h
  ·cases h
  ·exact nameV_no h2 (by decide) h
theorem rcS_back {c:Con} (h1:ZS c.sym=true) (h2:ZS c.name=true) (h3:YR YT c.goal=true):rcS (coT c)=⟨c.sym,c.name,(ZD (ZZ c.goal)).1,(ZD (ZZ c.value)).1⟩:=by
 have hne:1≤(spl 32 (ZZ c.goal)).length := List.length_pos_iff.2 (spl_ne 32 _)
 have hp:spl 46 (Z9 c.sym++46::Z9 c.name)=[Z9 c.sym,Z9 c.name]:=by
  rw[spl_cons (nameV_no h1 (by decide)),spl_one (nameV_no h2 (by decide))]
 unfold rcS
 rw[co_cut h1 h2 h3]
 dsimp only
 rw[co_words h1 h2,if_neg (by simp only[List.length_cons];omega)]
 simp only[List.getD_cons_succ,List.getD_cons_zero,List.drop_succ_cons,List.drop_zero]
 rw[hp,jn_spl]
 rfl
theorem nm_lit {s:ByteArray} (h:ZS s=true):Z9 s≠litW:=fun e=>by
 have:s=⟨#[108,105,116]⟩:=by
  cases s with
  | mk d=>cases d with
   | mk l=>exact congrArg (fun l=>(⟨⟨l⟩⟩:ByteArray)) e
 subst this
 revert h;decide
theorem last_lit {ws:List (List UInt8)} (h:∀w∈ws,w≠litW) (b:Bool):((ws++if b then [litW] else []).getLast? = some litW)↔b=true:=by
 cases b
 ·simp only[Bool.false_eq_true,if_false,List.append_nil,iff_false]
  intro h2
  exact h _ (List.mem_of_getLast? h2) rfl
 ·simp
theorem rhS_back {r:Rul} (h:YX r=true):rhS (hdT r)=⟨r.name,r.left,r.right,r.lit,[],[]⟩:=by
 have hw:=hd_words h
 simp only[YX,Bool.and_eq_true,List.all_eq_true] at h
 have hl:=last_lit (ws:=r.right.map Z9) (fun w hw=>by
  obtain ⟨s,hs,rfl⟩:=List.mem_map.1 hw
  exact nm_lit (h.2.2.2.2.1 s hs)) r.lit
 unfold rhS
 rw[hw,if_neg (by simp)]
 have hd:([[114,117,108,101],Z9 r.name,Z9 r.left,[58]]++(r.right.map Z9++if r.lit then [[108,105,116]] else [])).drop 4=r.right.map Z9++if r.lit then [litW] else []:=rfl
 rw[hd]
 have hm:(r.right.map Z9).map (fun w=>(⟨w.toArray⟩:ByteArray))=r.right:=by
  rw[List.map_map];exact List.map_id _
 cases hb:r.lit
 ·rw[hb] at hl
  have hn:¬((r.right.map Z9++if false=true then [litW] else []).getLast? = some litW):=fun e=>by have:=hl.1 e;cases this
  rw[if_neg hn,decide_eq_false hn]
  simp only[Bool.false_eq_true,if_false,List.append_nil,hm]
  rfl
 ·rw[hb] at hl
  have hn:=hl.2 rfl
  rw[if_pos hn,decide_eq_true hn]
  simp only[if_true,List.dropLast_concat,hm]
  rfl
theorem isEq_eq (q:Eqn):isEq (eqT q)=true:=by simp[isEq,eqT]
theorem isEq_co (c:Con):isEq (coT c)=false:=by simp[isEq,coT]
theorem fil_eq (r:Rul):(r.eqs.map eqT++r.cons.map coT).filter isEq=r.eqs.map eqT:=by
 rw[List.filter_append,List.filter_eq_self.2,List.filter_eq_nil_iff.2,List.append_nil]
 ·intro x hx
  obtain ⟨c,_,rfl⟩:=List.mem_map.1 hx
  simp[isEq_co]
 ·intro x hx
  obtain ⟨c,_,rfl⟩:=List.mem_map.1 hx
  exact isEq_eq c
theorem fil_co (r:Rul):(r.eqs.map eqT++r.cons.map coT).filter (fun l=> !isEq l)=r.cons.map coT:=by
 rw[List.filter_append,List.filter_eq_nil_iff.2,List.filter_eq_self.2,List.nil_append]
 ·intro x hx
  obtain ⟨c,_,rfl⟩:=List.mem_map.1 hx
  simp[isEq_co]
 ·intro x hx
  obtain ⟨c,_,rfl⟩:=List.mem_map.1 hx
  simp[isEq_eq]
theorem rul_parts {r:Rul} (h:YX r=true):r.right.length≤3∧(∀q∈r.eqs,Zo q.expr=true∧ZS q.name=true∧0≤q.pos∧q.pos≤3)∧∀c∈r.cons,Zo c.goal=true∧Zo c.value=true∧ZS c.sym=true∧ZS c.name=true:=by
 simp only[YX,Bool.and_eq_true,List.all_eq_true,decide_eq_true_eq] at h
 obtain ⟨_,_,h1,_,_,h2,h3⟩:=h
 refine ⟨h1,fun q hq=> ?_,fun c hc=> ?_⟩
 ·have:=h2 q hq
  simp only[eqnV,fitE,Bool.and_eq_true,decide_eq_true_eq] at this
  exact ⟨this.1.1,this.2.1,this.2.2.1,by omega⟩
 ·have:=h3 c hc
  simp only[conV,fitE,Bool.and_eq_true,decide_eq_true_eq] at this
  exact ⟨this.1.1,this.2.1.1,this.2.2.1,this.2.2.2⟩
theorem XQ {e:Exp} (h:Zo e=true):YR YT e=true:=by simp only[Zo,Bool.and_eq_true] at h;exact h.2
def seen (r:Rul):Rul:=⟨r.name,r.left,r.right,r.lit,r.eqs.map fun q=>⟨q.pos,q.name,(ZD (ZZ q.expr)).1⟩,r.cons.map fun c=>⟨c.sym,c.name,(ZD (ZZ c.goal)).1,(ZD (ZZ c.value)).1⟩⟩
theorem rdS_gen {r:Rul} (h:YX r=true):rdS (hdT r) (r.eqs.map eqT++r.cons.map coT)=seen r:=by
 obtain ⟨_,h2,h3⟩:=rul_parts h
 unfold rdS
 rw[fil_eq,fil_co,rhS_back h,List.map_map,List.map_map]
 have e1:r.eqs.map (rqS ∘ eqT)=r.eqs.map fun q=>⟨q.pos,q.name,(ZD (ZZ q.expr)).1⟩:=List.map_congr_left fun q hq=>rqS_back (h2 q hq).2.1 (h2 q hq).2.2.1 (h2 q hq).2.2.2
 have e2:r.cons.map (rcS ∘ coT)=r.cons.map fun c=>⟨c.sym,c.name,(ZD (ZZ c.goal)).1,(ZD (ZZ c.value)).1⟩:=List.map_congr_left fun c hc=>rcS_back (h3 c hc).2.2.1 (h3 c hc).2.2.2 (XQ (h3 c hc).1)
 rw[e1,e2]
 rfl
theorem seen_rd {r:Rul} (h:rdR r):seen r=r:=by
 obtain ⟨h1,h2⟩:=h
 have e1:(r.eqs.map fun q=>(⟨q.pos,q.name,(ZD (ZZ q.expr)).1⟩:Eqn))=r.eqs:=by
  conv=>rhs;rw[←List.map_id r.eqs]
  exact List.map_congr_left fun q hq=>by rw[h1 q hq];rfl
 have e2:(r.cons.map fun c=>(⟨c.sym,c.name,(ZD (ZZ c.goal)).1,(ZD (ZZ c.value)).1⟩:Con))=r.cons:=by
  conv=>rhs;rw[←List.map_id r.cons]
  exact List.map_congr_left fun c hc=>by rw[(h2 c hc).1,(h2 c hc).2];rfl
 unfold seen
 rw[e1,e2]
theorem fmtR_pos {r:Rul} {h:List UInt8} {t:List (List UInt8)} (e:YK r=h::t):YX r=true∧h=hdT r∧t=r.eqs.map eqT++r.cons.map coT:=by
 unfold YK at e
 split at e
 ·rename_i hv
  simp only[List.cons.injEq] at e
  exact ⟨hv,e.1.symm,e.2.symm⟩
 ·cases e
theorem rd_of {e:Exp} (h:Zo e=true) (he:(ZD (ZZ e)).1 = e):rdbl e:=by
 rcases parsed_law h with h1|h1
 ·exact h1.2
 ·exfalso
  rcases err_off (ZZ e) with h2|⟨_,_,h2⟩
  ·omega
  ·rw[he] at h2
   subst h2
   revert h;decide
theorem rdR_of {r:Rul} (h:YX r=true) (hs:seen r=r):rdR r:=by
 obtain ⟨_,h2,h3⟩:=rul_parts h
 have e1:r.eqs.map (fun q=>(⟨q.pos,q.name,(ZD (ZZ q.expr)).1⟩:Eqn))=r.eqs:=congrArg Rul.eqs hs
 have e2:r.cons.map (fun c=>(⟨c.sym,c.name,(ZD (ZZ c.goal)).1,(ZD (ZZ c.value)).1⟩:Con))=r.cons:=congrArg Rul.cons hs
 constructor
 ·intro q hq
  obtain ⟨i,hi,rfl⟩:=List.mem_iff_getElem.1 hq
  have h4:(r.eqs.map (fun q=>(⟨q.pos,q.name,(ZD (ZZ q.expr)).1⟩:Eqn)))[i]'(by simpa using hi)=r.eqs[i]:=by simp only[e1]
  rw[List.getElem_map] at h4
  exact rd_of (h2 _ hq).1 (congrArg Eqn.expr h4)
 ·intro c hc
  obtain ⟨i,hi,rfl⟩:=List.mem_iff_getElem.1 hc
  have h4:(r.cons.map (fun c=>(⟨c.sym,c.name,(ZD (ZZ c.goal)).1,(ZD (ZZ c.value)).1⟩:Con)))[i]'(by simpa using hi)=r.cons[i]:=by simp only[e2]
  rw[List.getElem_map] at h4
  exact ⟨rd_of (h3 _ hc).1 (congrArg Con.goal h4),rd_of (h3 _ hc).2.1 (congrArg Con.value h4)⟩
theorem fmtR_eq {r:Rul} (h:YX r=true):YK r=hdT r::(r.eqs.map eqT++r.cons.map coT):=by unfold YK;rw[if_pos h]
theorem parS_some {ls:List (List UInt8)} {r:Rul}:parS ls=some r↔YX r=true∧rdR r∧YK r=ls:=by
 constructor
 ·intro h
  cases ls with
  | nil=>cases h
  | cons a t=>
   simp only[parS] at h
   split at h
   ·rename_i hf
    obtain ⟨hv,ha,ht⟩:=fmtR_pos hf
    have hr:rdS a t=r:=Option.some.inj h
    rw[hr] at hv ha ht hf
    have hg:=rdS_gen hv
    rw[←ha,←ht,hr] at hg
    exact ⟨hv,rdR_of hv hg.symm,hf⟩
   ·cases h
 ·rintro ⟨hv,hr,rfl⟩
  have hg:=rdS_gen hv
  rw[seen_rd hr] at hg
  rw[fmtR_eq hv]
  simp only[parS,hg]
  rw[if_pos (fmtR_eq hv)]
end Go.Gh
namespace Go.Gh
open Go.Lib
section
variable (sp:List UInt8→List (List UInt8)) (nm:List UInt8→Int×Bool)
def eqP:List UInt8:=[101,113,32,36]
def puP:List UInt8:=[112,117,116,32]
def ofP':List UInt8:=[32,111,102,32]
def Ze (p l:List UInt8):List UInt8:=if p.isPrefixOf l then l.drop p.length else l
def rqI (l:List UInt8):Eqn×Bool:=
 (⟨(nm (cut (cut (Ze eqP l) dfT).1 [46]).1).1,⟨(cut (cut (Ze eqP l) dfT).1 [46]).2.1.toArray⟩,(ZD (cut (Ze eqP l) dfT).2.1).1⟩,
  (nm (cut (cut (Ze eqP l) dfT).1 [46]).1).2 && decide ((ZD (cut (Ze eqP l) dfT).2.1).2 < 0))
def rcI (l:List UInt8):Con×Bool:=
 (⟨⟨(cut (cut (cut (Ze puP l) dfT).1 ofP').1 [46]).1.toArray⟩,⟨(cut (cut (cut (Ze puP l) dfT).1 ofP').1 [46]).2.1.toArray⟩,(ZD (cut (cut (Ze puP l) dfT).1 ofP').2.1).1,(ZD (cut (Ze puP l) dfT).2.1).1⟩,
  decide ((ZD (cut (cut (Ze puP l) dfT).1 ofP').2.1).2 < 0)&&decide ((ZD (cut (Ze puP l) dfT).2.1).2 < 0))
def rdI:List (List UInt8)→List Eqn→List Con→Option (List Eqn×List Con)
 | [],a,b=>some (a,b)
 | l::t,a,b=>
  if puP.isPrefixOf l∧(rcI l).2 = true then rdI t a (b++[(rcI l).1])
  else if eqP.isPrefixOf l∧(rqI nm l).2 = true then rdI t (a++[(rqI nm l).1]) b
  else none
def hdI (ws:List (List UInt8)) (a:List Eqn) (b:List Con):Rul:=
 ⟨⟨(ws.getD 1 []).toArray⟩,⟨(ws.getD 2 []).toArray⟩,((if (ws.drop 4).getLast? = some litW then (ws.drop 4).dropLast else ws.drop 4).map fun w=>⟨w.toArray⟩),decide ((ws.drop 4).getLast? = some litW),a,b⟩
def parI:List (List UInt8)→Option Rul
 | []=>none
 | h::t=>if (sp h).length < 4 then none else match rdI nm t [] [] with
  | none=>none
  | some x=>if YK (hdI (sp h) x.1 x.2)=h::t then some (hdI (sp h) x.1 x.2) else none
variable {sp nm}
theorem trim_pre {p l:List UInt8}:Ze p (p++l)=l:=by
 unfold Ze
 rw[if_pos (by simp)]
 simp
theorem rqI_back (hnm:∀n:Int,0≤n→n≤3→nm (itoa n)=(n,true)) {q:Eqn} (hn:ZS q.name=true) (h0:0≤q.pos) (h3:q.pos≤3) :
 rqI nm (eqT q)=(⟨q.pos,q.name,(ZD (ZZ q.expr)).1⟩,decide ((ZD (ZZ q.expr)).2 < 0)):=by
 have h58:(58:UInt8)∉itoa q.pos++46::Z9 q.name:=fun hm=>by
  rcases List.mem_append.1 hm with h|h
  ·rw[XV h0] at h
   have:=digV_rng ((dec_dig _).1 _ h)
   revert this;decide
  ·rcases List.mem_cons.1 h with h|h
   ·cases h
   ·have:=nameV_mem hn _ h
    revert this;decide
 have h46:(46:UInt8)∉itoa q.pos:=fun h=>by
  rw[XV h0] at h
  have:=digV_rng ((dec_dig _).1 _ h)
  revert this;decide
 have e1:Ze eqP (eqT q)=itoa q.pos++46::Z9 q.name++[32,58,61,32]++ZZ q.expr:=by
  rw[show eqT q=eqP++(itoa q.pos++46::Z9 q.name++[32,58,61,32]++ZZ q.expr) by simp[eqT,eqP]]
  exact trim_pre
 have e2:cut (Ze eqP (eqT q)) dfT=(itoa q.pos++46::Z9 q.name,ZZ q.expr,true):=by rw[e1];exact cut_def h58
 have e3:cut (itoa q.pos++46::Z9 q.name) [46]=(itoa q.pos,Z9 q.name,true):=cut_at (p:=[]) h46
 unfold rqI
 rw[e2]
 dsimp only
 rw[e3]
 dsimp only
 rw[hnm _ h0 h3]
 simp
theorem rcI_back {c:Con} (h1:ZS c.sym=true) (h2:ZS c.name=true) (h3:YR YT c.goal=true) :
 rcI (coT c)=(⟨c.sym,c.name,(ZD (ZZ c.goal)).1,(ZD (ZZ c.value)).1⟩,decide ((ZD (ZZ c.goal)).2 < 0)&&decide ((ZD (ZZ c.value)).2 < 0)):=by
 have hx:∀x:UInt8,x.toNat<48∨58≤x.toNat∧x.toNat≤96→x≠46→x∉Z9 c.sym++46::Z9 c.name:=fun x hx hn hm=>by
  rcases List.mem_append.1 hm with h|h
  ·have:=nameV_mem h1 _ h;omega
  ·rcases List.mem_cons.1 h with h|h
   ·exact hn h
   ·have:=nameV_mem h2 _ h;omega
 have h58:(58:UInt8)∉(Z9 c.sym++46::Z9 c.name)++(ofP'++ZZ c.goal):=fun hm=>by
  rcases List.mem_append.1 hm with h|h
  ·exact hx 58 (by decide) (by decide) h
  ·rcases List.mem_append.1 h with h|h
   ·revert h;decide
   ·exact (txt_noc h3 _ h).1 rfl
 have e1:Ze puP (coT c)=((Z9 c.sym++46::Z9 c.name)++(ofP'++ZZ c.goal))++[32,58,61,32]++ZZ c.value:=by
  rw[show coT c=puP++(((Z9 c.sym++46::Z9 c.name)++(ofP'++ZZ c.goal))++[32,58,61,32]++ZZ c.value) by simp[coT,puP,ofP']]
  exact trim_pre
 have e2:cut (Ze puP (coT c)) dfT=((Z9 c.sym++46::Z9 c.name)++(ofP'++ZZ c.goal),ZZ c.value,true):=by rw[e1];exact cut_def h58
 have e3:cut ((Z9 c.sym++46::Z9 c.name)++(ofP'++ZZ c.goal)) ofP'=(Z9 c.sym++46::Z9 c.name,ZZ c.goal,true):=cut_at (p0:=32) (p:=[111,102,32]) (hx 32 (by decide) (by decide))
 have e4:cut (Z9 c.sym++46::Z9 c.name) [46]=(Z9 c.sym,Z9 c.name,true):=cut_at (p:=[]) (nameV_no h1 (by decide))
 unfold rcI
 rw[e2]
 dsimp only
 rw[e3]
 dsimp only
 rw[e4]
theorem pre_eq (q:Eqn):eqP.isPrefixOf (eqT q)=true∧puP.isPrefixOf (eqT q)=false:=by simp[eqP,puP,eqT,List.isPrefixOf]
theorem pre_co (c:Con):puP.isPrefixOf (coT c)=true:=by simp[puP,coT,List.isPrefixOf]
def eqOk (q:Eqn):Prop:=Zo q.expr=true∧ZS q.name=true∧0≤q.pos∧q.pos≤3
def coOk (c:Con):Prop:=Zo c.goal=true∧Zo c.value=true∧ZS c.sym=true∧ZS c.name=true
theorem rdI_eq (hnm:∀n:Int,0≤n→n≤3→nm (itoa n)=(n,true)) {q:Eqn} (h:eqOk q) (t:List (List UInt8)) (a:List Eqn) (b:List Con) :
 rdI nm (eqT q::t) a b=if (ZD (ZZ q.expr)).2 < 0 then rdI nm t (a++[⟨q.pos,q.name,(ZD (ZZ q.expr)).1⟩]) b else none:=by
 obtain ⟨h1,h2⟩:=pre_eq q
 simp only[rdI]
 rw[if_neg (by rw[h2];simp),rqI_back hnm h.2.1 h.2.2.1 h.2.2.2,h1]
 simp
theorem rdI_co {c:Con} (h:coOk c) (t:List (List UInt8)) (a:List Eqn) (b:List Con) :
 rdI nm (coT c::t) a b=if (ZD (ZZ c.goal)).2 < 0∧(ZD (ZZ c.value)).2 < 0 then rdI nm t a (b++[⟨c.sym,c.name,(ZD (ZZ c.goal)).1,(ZD (ZZ c.value)).1⟩]) else none:=by
 have h1:=pre_co c
 have h2:eqP.isPrefixOf (coT c)=false:=by simp[eqP,coT,List.isPrefixOf]
 simp only[rdI]
 rw[rcI_back h.2.2.1 h.2.2.2 (XQ h.1),h1,h2]
 simp
theorem rdI_cons:∀{cs:List Con} {a:List Eqn} {b:List Con},(∀c∈cs,coOk c) →
 ((∀c∈cs,rdbl c.goal∧rdbl c.value)→rdI nm (cs.map coT) a b=some (a,b++cs))∧∀x,rdI nm (cs.map coT) a b=some x→∀c∈cs,(ZD (ZZ c.goal)).2 < 0∧(ZD (ZZ c.value)).2 < 0
 | [],a,b,_ => by simp[rdI]
 | c::cs,a,b,h=>by
  have hc:=rdI_co (nm:=nm) (h c (by simp)) (cs.map coT) a b
  constructor
  ·intro hr
   obtain ⟨h1,h2⟩:=hr c (by simp)
   have ih:=(rdI_cons (cs:=cs) (a:=a) (b:=b++[c]) fun y hy=>h y (by simp[hy])).1 fun y hy=>hr y (by simp[hy])
   rw[List.map_cons,hc,h1,h2,if_pos ⟨by show (-1:Int)<0;decide,by show (-1:Int)<0;decide⟩,ih]
   simp
  ·intro x hx
   rw[List.map_cons,hc] at hx
   split at hx
   ·rename_i h1
    intro y hy
    rcases List.mem_cons.1 hy with rfl|hy
    ·exact h1
    ·exact (rdI_cons fun y hy=>h y (by simp[hy])).2 x hx y hy
   ·cases hx
theorem rdI_all (hnm:∀n:Int,0≤n→n≤3→nm (itoa n)=(n,true)):∀{es:List Eqn} {cs:List Con} {a:List Eqn} {b:List Con},(∀q∈es,eqOk q)→(∀c∈cs,coOk c) →
 ((∀q∈es,rdbl q.expr)→(∀c∈cs,rdbl c.goal∧rdbl c.value)→rdI nm (es.map eqT++cs.map coT) a b=some (a++es,b++cs)) ∧
 ∀x,rdI nm (es.map eqT++cs.map coT) a b=some x→(∀q∈es,(ZD (ZZ q.expr)).2 < 0)∧∀c∈cs,(ZD (ZZ c.goal)).2 < 0∧(ZD (ZZ c.value)).2 < 0
 | [],cs,a,b,_,h2=>by
  have:=rdI_cons (nm:=nm) (a:=a) (b:=b) h2
  simp only[List.map_nil,List.nil_append,List.append_nil]
  exact ⟨fun _ => this.1,fun x hx=>⟨by simp,this.2 x hx⟩⟩
 | q::es,cs,a,b,h1,h2=>by
  have hc:=rdI_eq hnm (h1 q (by simp)) (es.map eqT++cs.map coT) a b
  constructor
  ·intro hr hr2
   have h3:=hr q (by simp)
   have ih:=(rdI_all hnm (es:=es) (cs:=cs) (a:=a++[q]) (b:=b) (fun y hy=>h1 y (by simp[hy])) h2).1 (fun y hy=>hr y (by simp[hy])) hr2
   rw[List.map_cons,List.cons_append,hc,h3,if_pos (show (-1:Int)<0 by decide),ih]
   simp
  ·intro x hx
   rw[List.map_cons,List.cons_append,hc] at hx
   split at hx
   ·rename_i h3
    obtain ⟨i1,i2⟩:=(rdI_all hnm (fun y hy=>h1 y (by simp[hy])) h2).2 x hx
    refine ⟨fun y hy=> ?_,i2⟩
    rcases List.mem_cons.1 hy with rfl|hy
    ·exact h3
    ·exact i1 y hy
   ·cases hx
theorem rd_neg {e:Exp} (h:Zo e=true) (hn:(ZD (ZZ e)).2 < 0):rdbl e:=by
 rcases parsed_law h with h1|h1
 ·exact h1.2
 ·omega
theorem parI_some (hnm:∀n:Int,0≤n→n≤3→nm (itoa n)=(n,true)) (hsp:∀l,(spl 32 l).length ≤ 8→sp l=spl 32 l) {ls:List (List UInt8)} {r:Rul}:parI sp nm ls=some r↔YX r=true∧rdR r∧YK r=ls:=by
 constructor
 ·intro h
  cases ls with
  | nil=>cases h
  | cons a t=>
   simp only[parI] at h
   split at h
   ·cases h
   ·split at h
    ·cases h
    ·rename_i x hx
     split at h
     ·rename_i hf
      obtain ⟨hv,ha,ht⟩:=fmtR_pos hf
      have hr:hdI (sp a) x.1 x.2=r:=Option.some.inj h
      rw[hr] at hv ha ht hf
      obtain ⟨_,h2,h3⟩:=rul_parts hv
      rw[ht] at hx
      obtain ⟨i1,i2⟩:=(rdI_all hnm h2 h3).2 x hx
      exact ⟨hv,⟨fun q hq=>rd_neg (h2 q hq).1 (i1 q hq),fun c hc=>⟨rd_neg (h3 c hc).1 (i2 c hc).1,rd_neg (h3 c hc).2.1 (i2 c hc).2⟩⟩,hf⟩
     ·cases h
 ·rintro ⟨hv,hr,rfl⟩
  obtain ⟨h1,h2,h3⟩:=rul_parts hv
  have hw:=hd_words hv
  have hl:(spl 32 (hdT r)).length ≤ 8:=by
   rw[hw]
   split<;>simp<;>omega
  have e1:=hsp _ hl
  have hi:=(rdI_all hnm (a:=[]) (b:=[]) h2 h3).1 hr.1 hr.2
  have hh:hdI (sp (hdT r)) ([]++r.eqs) ([]++r.cons)=r:=by
   have hb:=rhS_back hv
   unfold rhS at hb
   rw[hw,if_neg (by simp)] at hb
   rw[e1,hw]
   unfold hdI
   simp only[Rul.mk.injEq,List.nil_append] at hb ⊢
   obtain ⟨b1,b2,b3,b4,_,_⟩:=hb
   have:r=⟨r.name,r.left,r.right,r.lit,r.eqs,r.cons⟩:=rfl
   rw[this]
   simp only[Rul.mk.injEq]
   exact ⟨b1,b2,b3,b4,trivial,trivial⟩
  have hn:¬(sp (hdT r)).length < 4:=by rw[e1,hw];simp
  have hf:=fmtR_eq hv
  rw[hf]
  simp only[parI]
  rw[if_neg hn,hi]
  dsimp only
  rw[hh,if_pos hf]
theorem par_same (hnm:∀n:Int,0≤n→n≤3→nm (itoa n)=(n,true)) (hsp:∀l,(spl 32 l).length ≤ 8→sp l=spl 32 l) (ls:List (List UInt8)):parI sp nm ls=parS ls:=by
 apply Option.ext
 intro r
 rw[parI_some hnm hsp,parS_some]
end
end Go.Gh
namespace Go.Gh
open Go.Lib
section
variable (sp:List UInt8→List (List UInt8)) (rA:List UInt8→Att)
variable {sp rA}
end
end Go.Gh
namespace Go.Gh
open Go.Lib
def vG (g:Gram):Prop:=(∀s∈g.syms,symV s=true)∧∀r∈g.rules,YX r=true
instance (g:Gram):Decidable (vG g):=inferInstanceAs (Decidable (_ ∧ _))
end Go.Gh
namespace Go.Gh
open Go.Lib
section
variable (PY:List UInt8→Option Sym) (PR:List (List UInt8)→Option Rul)
variable {PY PR}
end
end Go.Gh
namespace Go.Gh
open Go.Lib
namespace Fo
def txt (g:Gram):Fo→List UInt8
 | nil=>[]
 | cons _ r l ks rest=>32::(((40::Z9 r)++(if (fRul g.rules r).lit = true then 32::itoa l else []))++(ks.txt g++[41]))++rest.txt g
end Fo
section
variable (g:Gram) (ni:List UInt8→Int×Bool) (first:Int)
variable {g ni first}
end
end Go.Gh
namespace Go.Gh
open Go.Lib
section
variable (g:Gram) (ni:List UInt8→Int×Bool) (first:Int)
variable {g ni first}
end
section
variable (g:Gram) (ni:List UInt8→Int×Bool) (first:Int)
variable {g ni first}
end
end Go.Gh
namespace Go.Gh
open Go.Lib
theorem spl_dec {b:UInt8} (l:List UInt8):(b∉l∧spl b l=[l])∨∃w t,b∉w∧l=w++b::t∧spl b l=w::spl b t:=by
 induction l with
 | nil=>exact .inl ⟨by simp,rfl⟩
 | cons c l ih=>
  by_cases hc:c=b
  ·subst hc
   exact .inr ⟨[],l,by simp,rfl,by simp[spl]⟩
  ·rcases ih with ⟨h1,h2⟩|⟨w,t,h1,h2,h3⟩
   ·have h4:b∉c::l:=fun h=>by
     rcases List.mem_cons.1 h with h|h
     ·exact hc h.symm
     ·exact h1 h
    exact .inl ⟨h4,spl_one h4⟩
   ·have h4:b∉c::w:=fun h=>by
     rcases List.mem_cons.1 h with h|h
     ·exact hc h.symm
     ·exact h1 h
    refine .inr ⟨c::w,t,h4,by rw[h2];rfl,?_⟩
    rw[h2,←List.cons_append,spl_cons h4]
theorem index_no {b:UInt8}:∀{l:List UInt8},b∉l→index l [b] = -1
 | [],_ => rfl
 | c::l,h=>by
  have h1:¬b=c:=fun e=>h (by subst e;exact List.mem_cons_self)
  have ih:=index_no (l:=l) fun e=>h (List.mem_cons_of_mem _ e)
  have h3:List.isPrefixOf [b] (c::l)=false:=by simp[List.isPrefixOf,h1]
  simp only[index,h3,Bool.false_eq_true,if_false,ih]
  rfl
theorem spl_len {b:UInt8} (l:List UInt8):(spl b l).length ≤ l.length+1:=by
 induction l with
 | nil=>simp[spl]
 | cons c l ih=>
  simp only[spl]
  split
  ·simp only[List.length_cons];omega
  ·split
   ·simp
   ·rename_i w ws h
    rw[h] at ih
    simp only[List.length_cons] at ih ⊢;omega
theorem splK_spl {b:UInt8}:∀(k:Nat) (l:List UInt8),(spl b l).length ≤ k+1→splitK [b] 0 k l=spl b l
 | 0,l,h=>by
  rcases spl_dec (b:=b) l with ⟨_,h2⟩|⟨w,t,_,_,h3⟩
  ·rw[h2];rfl
  ·rw[h3] at h
   have:=List.length_pos_iff.2 (spl_ne b t)
   simp only[List.length_cons] at h
   omega
 | k+1,l,h=>by
  rcases spl_dec (b:=b) l with ⟨h1,h2⟩|⟨w,t,h1,h2,h3⟩
  ·rw[h2]
   simp[splitK,index_no h1]
  ·have hi:index l [b]=w.length:=by
    have:=index_at (p:=[]) (b:=t) h1
    rwa [List.nil_append,←h2] at this
   rw[h3] at h
   have ih:=splK_spl (b:=b) k t (by simp only[List.length_cons] at h;omega)
   have hd:l.drop (w.length+1)=t:=by rw[h2];simp
   have ht:l.take w.length=w:=by rw[h2];simp
   rw[h3]
   simp only[splitK,hi]
   rw[if_neg (by simp<;>omega)]
   simp only[Int.toNat_natCast,Nat.add_zero,List.length_singleton,hd,ht,ih]
theorem splitN_spl {b:UInt8} {n:Nat} (hn:1≤n) {l:List UInt8} (h:(spl b l).length ≤ n):splitN l [b] n=spl b l:=by
 have:=spl_len (b:=b) l
 exact splK_spl _ _ (by omega)
end Go.Gh
namespace Go.Gh
open Go.Lib
def sgnV (l:List UInt8):Int:=match l with
 | []=>0
 | c::t=>if c=45 then -(Zg t) else Zg (c::t)
def rdN (lo hi:Int) (l:List UInt8):Int×Bool:=if itoa (sgnV l)=l∧lo≤sgnV l∧sgnV l≤hi then (sgnV l,true) else (0,false)
theorem sgnV_itoa (n:Int):sgnV (itoa n)=n:=by
 by_cases h:n<0
 ·have e:itoa n=45::decDigits n.natAbs:=by
   unfold itoa
   rw[if_pos h]
  rw[e]
  show (if (45:UInt8)=45 then -(Zg (decDigits n.natAbs)) else Zg (45::decDigits n.natAbs))=n
  rw[if_pos rfl,valD_dec]
  omega
 ·rw[XV (by omega)]
  have hd:=dec_dig n.toNat
  have hv:=valD_dec n.toNat
  cases hx:decDigits n.toNat with
  | nil=>exact absurd hx hd.2
  | cons c t=>
   have hc:=digV_rng (hd.1 c (by rw[hx];simp))
   have h1:¬c=45:=fun e=>by subst e;revert hc;decide
   show (if c=45 then -(Zg t) else Zg (c::t))=n
   rw[if_neg h1,←hx,hv]
   omega
theorem rdN_itoa {lo hi n:Int} (h1:lo≤n) (h2:n≤hi):rdN lo hi (itoa n)=(n,true):=by
 unfold rdN
 rw[sgnV_itoa,if_pos ⟨rfl,h1,h2⟩]
theorem rdN_no {lo hi:Int} {l:List UInt8} (h:∀n,lo≤n→n≤hi→itoa n≠l):rdN lo hi l=(0,false):=by
 unfold rdN
 rw[if_neg]
 rintro ⟨h1,h2,h3⟩
 exact h _ h2 h3 h1
def nmN:List UInt8→Int×Bool:=rdN 0 999999
theorem nmN_ok:∀n:Int,0≤n→n≤3→nmN (itoa n)=(n,true):=fun n h0 h3=>rdN_itoa h0 (by omega)
end Go.Gh
namespace Go.Gh
open Lib
abbrev U8 (b:UInt8):GV:= .val (.int .u8 b.toNat)
theorem bytesG_map:∀l:List UInt8,Ye (l.map U8)=some l
 | []=>rfl
 | b::l=>by
  rw[List.map_cons]
  show (Ye (l.map U8)).map (UInt8.ofNat (b.toNat:Int).toNat :: ·) = _
  rw[bytesG_map l]
  simp
theorem clean_U8:∀l:List UInt8,Yk (l.map U8)=true
 | []=>rfl
 | b::l=>by
  rw[List.map_cons]
  show (true&&Yk (l.map U8))=true
  rw[clean_U8 l]
  rfl
theorem soT_U8 (l:List UInt8):soT (some (1,l.map U8)) 1 1 0 l.length=some (l.map U8):=by
 have e:(l.map U8).take l.length=l.map U8:=List.take_of_length_le (by rw[List.length_map];exact Nat.le_refl _)
 unfold soT
 dsimp only
 rw[List.drop_zero,e,if_pos ⟨rfl,rfl,by rw[List.length_map];omega,clean_U8 l⟩]
theorem takeU8 (l:List UInt8):(l.map U8).take l.length=l.map U8:=List.take_of_length_le (by rw[List.length_map];exact Nat.le_refl _)
theorem stop_aidx {P:Program} {n:Nat} {x y:GE} {d:Option Nat} {is:List GI} {K:Env→GH→Prop} {env:Env} {H:GH} {gs:List GV} {k:IntKind} {i:Int} {g:GV} (hx:ge env x=some (.agg gs)) (hy:ge env y=some (.val (.int k i)))
 (hg:gs[i.toNat]? = some g) (h0:0≤i) (h1:i<n) (hk:Z7 P is K (gput env d g) H):stopS P (.aidx n x y) d is K env H:=by
 show ZY P (.aidx n x y) env H _
 simp only[ZY,Z5,Z3,hx,hy,hg]
 exact ⟨h0,h1,hk⟩
theorem chA (l:List UInt8):Z9 ⟨l.toArray⟩=l:=by simp[Z9]
theorem join_nil (sep:List UInt8):Zs sep []=[]:=rfl
theorem join_one (sep x:List UInt8):Zs sep [x]=x:=by simp[Zs,Lib.join]
theorem join_snoc (sep:List UInt8):∀(l:List (List UInt8)) (x:List UInt8),l≠[]→Zs sep (l++[x])=Zs sep l++sep++x
 | [],x,h=>absurd rfl h
 | [y],x,_ => by simp[Zs,Lib.join]
 | y::z::l,x,_ => by
  have:=join_snoc sep (z::l) x (by simp)
  have e:∀(a b:List UInt8) (r:List (List UInt8)),Zs sep (a::b::r)=a++(sep++Zs sep (b::r)):=fun a b r=>by simp[Zs,Lib.join]
  rw[List.cons_append,List.cons_append,e,e]
  rw[List.cons_append] at this
  rw[this]
  simp
theorem join_take (sep:List UInt8) {l:List (List UInt8)} {i:Nat} (h:i<l.length):Zs sep (l.take (i+1))=if i=0 then l[i] else Zs sep (l.take i)++sep++l[i]:=by
 rw[List.take_succ_eq_append_getElem h]
 split
 ·rename_i h0
  subst h0
  simp[join_one]
 ·rename_i h0
  exact join_snoc sep _ _ (by intro h1;have:=congrArg List.length h1;rw[List.length_take,List.length_nil] at this;omega)
theorem join_le (sep:List UInt8) (m k:Nat) (hs:sep.length≤k):∀(l:List (List UInt8)),(∀x∈l,x.length≤m)→(Zs sep l).length ≤ l.length * (m+k)
 | [],_ => by simp[join_nil]
 | [x],h=>by
  have:=h x (by simp)
  rw[join_one]
  simp
  omega
 | x::y::l,h=>by
  have h1:=h x (by simp)
  have h2:=join_le sep m k hs (y::l) fun z hz=>h z (by simp[hz])
  have e:Zs sep (x::y::l)=x++(sep++Zs sep (y::l)):=by simp[Zs,Lib.join]
  rw[e]
  simp only[List.length_append,List.length_cons] at h2 ⊢
  rw[Nat.succ_mul]
  omega
def setK (v:Int) (k:Nat):List Nat:=(List.range k).filter fun j=>v.toNat.testBit j
theorem setK_zero (v:Int):setK v 0=[]:=rfl
theorem setK_succ (v:Int) (k:Nat):setK v (k+1)=setK v k++if v.toNat.testBit k=true then [k] else []:=by
 unfold setK
 rw[List.range_succ,List.filter_append]
 congr 1
 simp only[List.filter_cons,List.filter_nil]
theorem setK_len (v:Int) (k:Nat):(setK v k).length ≤ k:=by
 unfold setK
 exact Nat.le_trans (List.length_filter_le _ _) (by simp)
theorem bit_of {v:Int} (h0:0≤v) (h:v≤4095) {k:Nat} (hk:k≤11):andI .i64 (shrI .i64 v k) 1=if v.toNat.testBit k=true then 1 else 0:=by
 have key:∀a,a<64→∀b,b<64→∀k,k<12→andI .i64 (shrI .i64 ((64 * a+b:Nat):Int) (k:Nat)) 1=if (64 * a+b).testBit k=true then 1 else 0:=by decide +kernel
 have:=key (v.toNat / 64) (by omega) (v.toNat % 64) (by omega) k (by omega)
 have e:64 * (v.toNat / 64)+v.toNat % 64=v.toNat:=by omega
 rw[e] at this
 have e2:((v.toNat:Nat):Int)=v:=by omega
 rw[e2] at this
 exact this
abbrev nS (k:Nat):ByteArray:=⟨(itoa (k:Int)).toArray⟩
theorem fmt_eq {e:Exp} (h:Zo e=true):fmtE e=ZZ e:=by unfold fmtE;rw[if_pos h]
theorem okV_con {n t:Int} (hc:(t=1∧0≤n∧n≤1000000)∨(t=2∧0≤n∧n≤4095)∨(t=3∧(n=0∨n=1))):okV n t=true:=by
 have key:∀a,a<64→∀b,b<64→andI .i64 ((64 * a+b:Nat):Int) 4095=((64 * a+b:Nat):Int):=by decide +kernel
 rcases hc with ⟨rfl,h0,h1⟩|⟨rfl,h0,h1⟩|⟨rfl,rfl|rfl⟩
 ·have:satV n=n:=by unfold satV;omega
  simp[okV,coV,this]
 ·have:=key (n.toNat / 64) (by omega) (n.toNat % 64) (by omega)
  have e:64 * (n.toNat / 64)+n.toNat % 64=n.toNat:=by omega
  rw[e] at this
  have e2:((n.toNat:Nat):Int)=n:=by omega
  rw[e2] at this
  simp[okV,coV,this]
 ·decide
 ·decide
theorem lvE_bd (e:Exp):lvE e≤4:=lvE_le e
theorem opW_get {n:Int} (h1:1≤n) (h2:n≤12) (hx:n.toNat<[T ⟨#[]⟩,T ⟨#[43]⟩,T ⟨#[45]⟩,T ⟨#[42]⟩,T ⟨#[109,97,120]⟩,T ⟨#[109,105,110]⟩,T ⟨#[124]⟩,T ⟨#[38]⟩,T ⟨#[92]⟩,T ⟨#[60]⟩,T ⟨#[61,61]⟩,T ⟨#[104,97,115]⟩,T ⟨#[119,105,116,104]⟩].length):[T ⟨#[]⟩,T ⟨#[43]⟩,T ⟨#[45]⟩,T ⟨#[42]⟩,T ⟨#[109,97,120]⟩,T ⟨#[109,105,110]⟩,T ⟨#[124]⟩,T ⟨#[38]⟩,T ⟨#[92]⟩,T ⟨#[60]⟩,T ⟨#[61,61]⟩,T ⟨#[104,97,115]⟩,T ⟨#[119,105,116,104]⟩][n.toNat]'hx = T (opW n):=by
 have:=mem12 h1 h2
 simp only[List.mem_cons,List.not_mem_nil,or_false] at this
 rcases this with rfl|rfl|rfl|rfl|rfl|rfl|rfl|rfl|rfl|rfl|rfl|rfl<;>rfl
theorem opLv_cases (n:Int):Zy n=1∨Zy n=2∨Zy n=3∨Zy n=4:=by
 unfold Zy
 split
 ·exact .inl rfl
 ·split
  ·exact .inr (.inl rfl)
  ·split
   ·exact .inr (.inr (.inl rfl))
   ·exact .inr (.inr (.inr rfl))
theorem lvE_4 {e:Exp} (h:e.kind=4):lvE e=Zy e.n:=by unfold lvE;rw[if_neg (by omega),if_pos h]
structure IsOp (e a b:Exp):Prop where
 k:e.kind=4
 n0:1≤e.n
 n1:e.n≤12
 a:e.args=[a,b]
theorem IsOp.txt {e a b:Exp} (h:IsOp e a b) (h2:e = .mk 4 e.n 0 0 noS noS [a,b]):ZZ e=if Zy e.n=4 then Z9 (opW e.n)++40::(ZZ a++[44,32]++ZZ b++[41]) else oprT (max (Zy e.n) 2) a++32::(Z9 (opW e.n)++32::oprT (Zy e.n+1) b):=by
 rw[h2]
 split
 ·rename_i h4;exact txt_fun _ h.n0 h.n1 a b h4
 ·rename_i h4;exact txt_op _ h.n0 h.n1 a b h4
end Go.Gh
namespace Go.Gh
open Lib
abbrev PaG (ts:List Tok) (i:Nat) (b:Bool):GV:= .agg [TkS ts,I i,B b]
def PR.at {α:Type}:PR α→Nat
 | .bad i=>i
 | .ok _ i=>i
def PR.err {α:Type}:PR α→Bool
 | .bad _ => true
 | .ok _ _ => false
def PR.val {α:Type} (z:α):PR α→α
 | .bad _ => z
 | .ok a _ => a
def frm {α:Type} (b:Bool) (P:Nat→PR α) (i:Nat):PR α:=if b=true then .bad i else P i
theorem frm_t {α:Type} (P:Nat→PR α) (i:Nat):frm true P i = .bad i:=rfl
theorem Zl {α:Type} (P:Nat→PR α) (i:Nat):frm false P i=P i:=rfl
theorem take_t {ts:List Tok} {i:Nat} {w:ByteArray} (h:sees ts i w=true):ZW ts i w = .ok () (i+1):=by unfold ZW;rw[if_pos h]
theorem take_f {ts:List Tok} {i:Nat} {w:ByteArray} (h:sees ts i w=false):ZW ts i w = .bad i:=by unfold ZW;rw[if_neg (by rw[h];decide)]
def okTs (ts:List Tok):Prop:=∀t∈ts,(t.kind=1→shp (Z9 t.text)=true)∧(Z9 t.text).length ≤ 8
def opB (ts:List Tok) (b:Bool) (i lv:Nat):Int:=if b=true then 0 else opAt ts i lv
theorem opB_ge {ts:List Tok} {i:Nat} (h:ts.length≤i) (lv:Nat):opB ts false i lv=0:=by
 have hs:∀w,sees ts i w=false:=fun w=>by unfold sees;rw[decide_eq_false (by omega)];rfl
 unfold opB opAt
 simp[hs]
theorem isW_nm {t:Tok} {w:ByteArray} (h:t.kind=1→shp (Z9 t.text)=true) (hw:shp (Z9 w)=false):isW t w=(isK (3,0,t.text) w&&decide (t.kind=3)):=by
 unfold isW isK
 by_cases h1:t.kind=1
 ·have:¬t.text=w:=fun e=>by have:=h h1;rw[e,hw] at this;cases this
  simp[h1,this]
 ·by_cases h3:t.kind=3
  ·simp[h1,h3]
  ·simp[h1,h3]
theorem opB_lt {ts:List Tok} (ht:okTs ts) {i:Nat} (h:i<ts.length) (lv:Nat):opB ts false i lv=if ts[i].kind = 3 then opKy (3,0,ts[i].text) lv else 0:=by
 have hs:∀w,shp (Z9 w)=false→sees ts i w=(isK (3,0,ts[i].text) w&&decide (ts[i].kind = 3)):=fun w hw=>by
  unfold sees
  rw[decide_eq_true h,Za h,Bool.true_and,isW_nm (ht _ (List.getElem_mem h)).1 hw]
 unfold opB opAt
 simp only[hs ⟨#[60]⟩ (by decide),hs ⟨#[61,61]⟩ (by decide),hs ⟨#[43]⟩ (by decide),hs ⟨#[45]⟩ (by decide),hs ⟨#[124]⟩ (by decide),hs ⟨#[92]⟩ (by decide),hs ⟨#[42]⟩ (by decide),hs ⟨#[38]⟩ (by decide)]
 by_cases hk:ts[i].kind = 3
 ·simp[hk,opKy]
 ·simp[hk]
end Go.Gh
namespace Go.Gh
theorem MV.nil_sl {w:World} {D:Nat→Prop} {sz:Nat}:∀v F,MV w D (.val (.slice none 0 0)) v F→MV w D (.sl sz []) v F:=fun v F h=>by
 simp only[MV] at h ⊢
 exact ⟨h.2,.inl ⟨trivial,_,_,h.1⟩⟩
theorem FR.front {g g':GV} {L H:GH} (hb:Bor L g g'):FR g (L++H) g' H:=by
 intro w D Ω v hv hst
 obtain ⟨Ω1,Ω2,rfl,h1,h2⟩:=HM.parted hst.hm
 have hnd:=List.nodup_append.1 hst.nd
 have hnn:=hst.nn
 simp only[names,List.map_append] at hnn
 have hnn':=List.nodup_append.1 hnn
 have hs1:St w D L Ω1:=⟨h1,hnd.1,hnn'.1,fun b hb=>hst.dj b (by simp[hb]),hst.ds⟩
 refine ⟨fun b=>D b∨b∈Ω1,Ω2,hb w D Ω1 v hs1 hv,⟨HM.keep (S:=fun _ => True) (Kept.refl _ _) (fun _ _ => trivial) (fun _ => .inl) (fun _ _ => trivial) h2,hnd.2.1,hnn'.2.1,fun b hb hD=> ?_,fun b hD=> ?_⟩,
  ⟨fun _ => .inl,fun b _ hD=>hD.elim .inl fun h=> .inr (by simp[h]),fun b hb _ => by simp[hb],Kept.refl _ _,rfl,rfl,rfl⟩⟩
 ·rcases hD with hD|hD
  ·exact hst.dj b (by simp[hb]) hD
  ·exact hnd.2.2 b hD b hb rfl
 ·rcases hD with hD|hD
  ·exact hst.ds b hD
  ·exact HM.flt hst.hm b (by simp[hD])
abbrev Bs (bs:List UInt8):GV:= .sl 1 (bs.map fun b=> .val (.int .u8 b.toNat))
abbrev Cu (bs:List UInt8) (i h:Int):GV:= .agg [Bs bs,I i,I h]
def isC (e:GV):Prop:=∃bs i h,e=Cu bs i h∧0≤i∧i≤bs.length∧bs.length≤9223372036854775807
theorem MF.u8 {w:World} {D:Nat→Prop}:∀(bs:List UInt8),MF w D 1 (bs.map fun b=>GV.val (.int .u8 b.toNat)) (bs.map fun b=>Value.int .u8 b.toNat) []
 | []=>by simp[MF]
 | b::bs=>by
  simp only[List.map_cons,MF]
  exact ⟨.int .u8 b.toNat,_,[],[],rfl,rfl,by intro x hx;simp[Value.cells] at hx;subst hx;rfl,rfl,by simp[MV],MF.u8 bs⟩
theorem MV.cur {w : World} {D : Nat → Prop} {v : Value} {F : List Nat} (h : MV w D .cur v F) : ∃ e, isC e ∧ MV w D e v F := by
  simp only [MV] at h
  obtain ⟨rfl, bs, i, n, sv, rfl, h1, h2, h3⟩ := h
  refine ⟨Cu bs i n, ⟨bs, i, n, rfl, h1, h2, by rcases h3 with ⟨rfl, _⟩ | ⟨_, _, _, _, _, h, _⟩
                                                · simp
                                                · exact h⟩, ?_⟩
  simp only [MV]
  refine ⟨[sv, .int .i64 i, .int .i64 n], rfl, ?_, ?_⟩
  · have : sv.oneCell' = true := by
      rcases h3 with ⟨_, a, cap, rfl⟩ | ⟨b, off, cap, rfl, _⟩ <;> rfl
    simp [this]
    exact ⟨rfl, rfl⟩
  · simp only [ML]
    refine ⟨sv, _, [], [], rfl, rfl, ?_, _, _, [], [], rfl, rfl, by simp [MV], _, _, [], [], rfl, rfl, by simp [MV], rfl, rfl⟩
    simp only [MV]
    refine ⟨trivial, ?_⟩
    rcases h3 with ⟨rfl, h3⟩ | ⟨b, off, cap, k1, k2, k3, k4, k5⟩
    · exact .inl ⟨rfl, h3⟩
    · exact .inr ⟨b, off, cap, _, by simpa using k1, by simpa using k2, by simpa using k3, k4, k5, MF.u8 bs⟩
theorem St.exch1 {w:World} {D:Nat→Prop} {H:GH} {Ω:List Nat} (h:St w D H Ω) {r sz i:Nat} {es:List GV} {e:GV} {p:GV→Prop} (hr:Z6 H r=some (sz,es)) (he:es[i]? = some e) (hx:∀v F,MV w D e v F→∃e',p e'∧MV w D e' v F) :
 ∃e',p e'∧St w D (Z1 H r (es.set i e')) Ω:=by
 obtain ⟨Ω1,F',Ω2,hΩ,hR,hput,_⟩:=HM.take h.hm hr
 obtain ⟨b,c,T,fz,F0,k1,k2,k3,k4,k5,k6,k7⟩:=hR.es_ne (fun e=>by rw[e] at he;simp at he)
 obtain ⟨pre,v,post,A1,Ai,A2,m1,m2,m3,m4,m5,m6,m7⟩:=MF.split sz es _ F0 i _ k7 he
 obtain ⟨e',hp,hx⟩:=hx _ _ m6
 have hmf:=m7 w D (fun _ => True) e' v Ai (Kept.refl _ _) (fun _ _ => trivial) (fun _ h=>h) (fun _ _ => trivial) m3 m4 hx
 rw[←m1,←m5] at hmf
 have hRM:RM w D r sz (es.set i e') F':= .inl ⟨b,c,T,fz,F0,k1,k2,k3,by simpa using k4,by simpa using k5,k6,by simpa using hmf⟩
 have hfin:=hput w D (fun _ => True) _ _ (Kept.refl _ _) (fun _ _ => trivial) (fun _ h=>h) (fun _ _ => trivial) hRM
 rw[←hΩ] at hfin
 exact ⟨e',hp,hfin,h.nd,by rw[Ym];exact h.nn,h.dj,h.ds⟩
theorem GCalls.open {P:Program} {f:FuncId} {gs:List GV} {rc:Nat} {H:GH} {R:GV→GH→Prop} (h:∀e,isC e→GCalls P f gs ((rc,3,[e])::H) R):GCalls P f gs ((rc,3,[.cur])::H) R:=by
 intro w D Ω args hst hargs
 obtain ⟨e',h1,h2⟩:=hst.exch1 (r:=rc) (i:=0) (sz:=3) (es:=[.cur]) (p:=isC) (by simp[Z6]) rfl fun v F h=>h.cur
 have e:Z1 ((rc,3,[GV.cur])::H) rc ([GV.cur].set 0 e')=(rc,3,[e'])::H:=by simp[Z1]
 rw[e] at h2
 exact h e' h1 w D Ω args h2 hargs
theorem hget_split {r:Nat} {x:Nat×List GV}:∀{H:GH},Z6 H r=some x→∃A B,H=A++(r,x)::B∧r∉names A
 | [],h=>by simp[Z6] at h
 | (q,y)::H,h=>by
  simp only[Z6] at h
  split at h
  ·rename_i e
   subst e
   simp only[Option.some.injEq] at h
   subst h
   exact ⟨[],H,rfl,by simp[names]⟩
  ·rename_i hne
   obtain ⟨A,B,h1,h2⟩:=hget_split h
   exact ⟨(q,y)::A,B,by rw[h1];rfl,by simp only[names,List.map_cons,List.mem_cons,not_or];exact ⟨fun e=>hne e.symm,h2⟩⟩
theorem count_mid {x:Nat} (a b c:List Nat):(a++(b++c)).count x=(b++(a++c)).count x:=by
 simp only[List.count_append];omega
theorem St.mid {w:World} {D:Nat→Prop} {A B:GH} {y:Nat×Nat×List GV} {Ω:List Nat} (h:St w D (A++y::B) Ω):∃Ω',St w D (y::(A++B)) Ω'∧(∀x,x∈Ω'↔x∈Ω):=by
 obtain ⟨Ω1,Ω2,rfl,h1,h2⟩:=HM.parted h.hm
 obtain ⟨r,sz,es⟩:=y
 obtain ⟨F1,F2,rfl,h3,h4⟩:=h2
 refine ⟨F1++(Ω1++F2),⟨⟨F1,_,rfl,h3,HM.append h1 h4⟩,?_,?_,?_,h.ds⟩,fun x=>by simp only[List.mem_append];exact or_left_comm⟩
 ·have:=h.nd
  rw[List.nodup_iff_count] at this ⊢
  intro x;rw[←count_mid];exact this x
 ·have:=h.nn
  simp only[names,List.map_append,List.map_cons] at this ⊢
  rw[List.nodup_iff_count] at this ⊢
  intro x
  have:=this x
  simp only[List.count_append,List.count_cons] at this ⊢
  omega
 ·intro x hx
  exact h.dj x (by simp only[List.mem_append] at hx ⊢;exact or_left_comm.1 hx)
theorem St.mid' {w:World} {D:Nat→Prop} {A B:GH} {y:Nat×Nat×List GV} {Ω:List Nat} (h:St w D (y::(A++B)) Ω):∃Ω',St w D (A++y::B) Ω'∧(∀x,x∈Ω'↔x∈Ω):=by
 obtain ⟨r,sz,es⟩:=y
 obtain ⟨F1,F2,rfl,h3,h4⟩:=h.hm
 obtain ⟨Ω1,Ω2,rfl,h1,h2⟩:=HM.parted h4
 refine ⟨Ω1++(F1++Ω2),⟨HM.append h1 ⟨F1,_,rfl,h3,h2⟩,?_,?_,?_,h.ds⟩,fun x=>by simp only[List.mem_append];exact or_left_comm⟩
 ·have:=h.nd
  rw[List.nodup_iff_count] at this ⊢
  intro x;rw[count_mid];exact this x
 ·have:=h.nn
  simp only[names,List.map_append,List.map_cons] at this ⊢
  rw[List.nodup_iff_count] at this ⊢
  intro x
  have:=this x
  simp only[List.count_append,List.count_cons] at this ⊢
  omega
 ·intro x hx
  exact h.dj x (by simp only[List.mem_append] at hx ⊢;exact or_left_comm.1 hx)
def Dc (P:Program) (f:FuncId) (gs:List GV) (R:GV→GH→Prop):Prop:=
 ∀rc H,GCalls P f (.ptr rc 3 0 0::gs) ((rc,3,[.cur])::H) (fun g H'=>∃H1,R g H1∧H'=H1++(rc,3,[.cur])::H)
abbrev Dv (P:Program) (f:FuncId) (gs:List GV) (R:GV→Prop):Prop:=Dc P f gs (fun g H1=>R g∧H1=[])
theorem Dc.mono {P:Program} {f:FuncId} {gs:List GV} {R R':GV→GH→Prop} (h:Dc P f gs R) (hr:∀g H1,R g H1→R' g H1):Dc P f gs R':=
 fun rc H=>(h rc H).mono fun g H' ⟨H1,h1,h2⟩=>⟨H1,hr g H1 h1,h2⟩
theorem Dc.of {P:Program} {f:FuncId} {gs:List GV} {R:GV→GH→Prop}
 (h:∀rc H,GCalls P f (.ptr rc 3 0 0::gs) ((rc,3,[.cur])::H) (fun g H'=>∃G H1 T L,R G H1∧Bor L g G∧H'=T++H∧subH T (L++(H1++[(rc,3,[.cur])])))):Dc P f gs R:=
 fun rc H=>(h rc H).fr fun g H' ⟨G,H1,T,L,h1,h2,h3,h4⟩=>by
  subst h3
  refine ⟨G,H1++(rc,3,[.cur])::H,FR.trans (FR.perm h4) ?_,H1,h1,rfl⟩
  rw[List.append_assoc,List.append_assoc]
  exact FR.front h2
theorem Dv.of {P:Program} {f:FuncId} {gs:List GV} {R:GV→Prop}
 (h:∀rc H,GCalls P f (.ptr rc 3 0 0::gs) ((rc,3,[.cur])::H) (fun g H'=>∃G T L,R G∧Bor L g G∧H'=T++H∧subH T (L++[(rc,3,[.cur])]))):Dv P f gs R:=
 Dc.of fun rc H=>(h rc H).mono fun g H' ⟨G,T,L,h1,h2,h3,h4⟩=>⟨G,[],T,L,⟨h1,rfl⟩,h2,h3,h4⟩
theorem Dc.at {P:Program} {f:FuncId} {gs:List GV} {R:GV→GH→Prop} (h:Dc P f gs R) {rc:Nat} {H:GH} (hr:Z6 H rc=some (3,[.cur])) :
 GCalls P f (.ptr rc 3 0 0::gs) H (fun g H'=>∃H1,R g H1∧H'=H1++H):=by
 obtain ⟨A,B,rfl,hn⟩:=hget_split hr
 intro w D Ω args hst hargs
 obtain ⟨Ω',h1,h2⟩:=hst.mid
 refine Yld.mono (fun v w' ⟨g,H',D',Ω'',⟨H1,k0,k1⟩,k2,k3,k4⟩=> ?_) (h rc (A++B) w D Ω' args h1 hargs)
 subst k1
 have k3':St w' D' ((H1++[(rc,3,[.cur])])++(A++B)) Ω'':=by simpa using k3
 obtain ⟨Ω3,m1,m2⟩:∃Ω3,St w' D' (H1++(A++(rc,3,[.cur])::B)) Ω3∧∀x,x∈Ω3↔x∈Ω'':=by
  obtain ⟨Ωa,q1,q2⟩:=(show St w' D' (H1++(rc,3,[GV.cur])::(A++B)) Ω'' from k3).mid
  rw[←List.append_assoc] at q1
  obtain ⟨Ωb,q3,q4⟩:=q1.mid'
  rw[List.append_assoc] at q3
  exact ⟨Ωb,q3,fun x=>(q4 x).trans (q2 x)⟩
 exact ⟨g,_,D',Ω3,⟨H1,k0,rfl⟩,k2,m1,
  ⟨k4.d0,fun b hb hD=>(k4.dn b hb hD).imp id (h2 b).1,fun b hb hl=>(h2 b).1 (k4.on b ((m2 b).1 hb) hl),k4.kp.mono fun b _ hb hb'=>hb ((h2 b).1 hb'),k4.os,k4.tape,k4.output⟩⟩
end Go.Gh
namespace Go.Gh
def shT (s:ByteArray):Prop:=s.size≤16
abbrev ExN (e:Exp):GV:= .agg [I e.kind,I e.n,I e.pos,I e.type,T e.sym,T e.name,.val (.slice none 0 0)]
abbrev ExR (e:Exp) (r:Nat):GV:= .agg [I e.kind,I e.n,I e.pos,I e.type,T e.sym,T e.name,.own r 7 0 e.args.length]
def ExW (e:Exp) (g:GV) (H1:GH):Prop:=(e.args=[]∧g=ExN e∧H1=[])∨∃r,g=ExR e r∧H1=[(r,7,e.args.map Ex)]
theorem bor_ExN {H:GH} {e:Exp} (h:e.args=[]):Bor H (ExN e) (Ex e):=by
 rw[ZA,h]
 exact .agg (.cons .refl (.cons .refl (.cons .refl (.cons .refl (.cons .refl (.cons .refl (.cons .nil .nil)))))))
theorem bor_ExR {H:GH} {e:Exp} {r:Nat} (h:Z6 H r=some (7,e.args.map Ex)):Bor H (ExR e r) (Ex e):=by
 rw[ZA]
 exact .agg (.cons .refl (.cons .refl (.cons .refl (.cons .refl (.cons .refl (.cons .refl (.cons (Bor.allM view_Ex h rfl) .nil)))))))
theorem ExW.bor {e:Exp} {g:GV} {H1:GH} (h:ExW e g H1):Bor H1 g (Ex e):=by
 rcases h with ⟨h,rfl,rfl⟩|⟨r,rfl,rfl⟩
 ·exact bor_ExN h
 ·exact bor_ExR Z0
instance (s:ByteArray):Decidable (shT s):=inferInstanceAs (Decidable (s.size≤16))
theorem Dc.own {P:Program} {f:FuncId} {gs:List GV} {p:Exp→Prop} (h:Dc P f gs (fun g H1=>∃e,p e∧ExW e g H1)):Dc P f gs (fun g H1=>∃e r,p e∧g=ExR e r∧H1=[(r,7,e.args.map Ex)]):=fun rc H=>
 (h rc H).fr fun g H' ⟨H1,⟨e,h1,h2⟩,h3⟩=>by
  subst h3
  rcases h2 with ⟨h0,rfl,rfl⟩|⟨r,rfl,rfl⟩
  ·obtain ⟨v,hv,hn⟩:=vfresh (names ((rc,3,[.cur])::H))
   refine ⟨ExR e v,(v,7,[])::(rc,3,[.cur])::H,FR.trans (FR.sub ?_) (FR.addv hv hn),[(v,7,[])],⟨e,v,h1,rfl,by rw[h0];rfl⟩,rfl⟩
   have h5:e.args.length=0:=by rw[h0];rfl
   show Bor [] (ExN e) (.agg [I e.kind,I e.n,I e.pos,I e.type,T e.sym,T e.name,.own v 7 0 e.args.length])
   rw[h5]
   exact .agg (.cons .refl (.cons .refl (.cons .refl (.cons .refl (.cons .refl (.cons .refl (.cons Bor.virt .nil)))))))
  ·exact ⟨_,_,FR.refl _ _,_,⟨e,r,h1,rfl,rfl⟩,rfl⟩
theorem Bor.exch {H:GH} {r sz i:Nat} {es:List GV} {e e' g g':GV} (hr:Z6 H r=some (sz,es)) (he:es[i]? = some e) (hx:∀w D v F,MV w D e v F→MV w D e' v F) (hb:Bor (Z1 H r (es.set i e')) g g'):Bor H g g':=
 fun w D Ω v hst hm=>hb w D Ω v (hst.exch hr he (hx w D)) hm
end Go.Gh
namespace Go.Gh
open Lib
theorem num_lt {ts:List Tok} {i j:Nat} {lo hi n:Int} (h:Zv ts i lo hi = .ok n j):i<ts.length:=by
 unfold Zv at h
 split at h
 ·rename_i hc;exact hc.1
 ·cases h
theorem neA_get {r q:Nat} {x:Nat×List GV}:∀{H:GH},neA r H→Z6 H q=some x→r≠q
 | [],_,h=>by cases h
 | (p,y)::H,hn,h=>by
  simp only[neA] at hn
  simp only[Z6] at h
  split at h
  ·rename_i e;subst e;exact hn.1
  ·exact neA_get hn.2.2 h
abbrev EO (r:Nat) (e:Exp):GV:= .agg [I e.kind,I e.n,I e.pos,I e.type,T e.sym,T e.name,.own r 7 0 e.args.length]
def EP (S:Nat→Bool→GV) (P:PR Exp) (rp:Nat) (H:GH) (g:GV) (H':GH):Prop:=
 ∃e r,g=EO r e∧H'=(r,7,e.args.map ExO)::Z1 H rp [S P.at P.err]∧∀a j,P = .ok a j→e=a
theorem FR.nilE {e:Exp} (he:e.args=[]) (H:GH):∃r,FR (ExN e) H (EO r e) ((r,7,e.args.map ExO)::H):=by
 obtain ⟨r,ho,hq⟩:=vfresh (names H)
 refine ⟨r,?_⟩
 have hl:e.args.length=0:=by rw[he];rfl
 show FR (ExN e) H (.agg [I e.kind,I e.n,I e.pos,I e.type,T e.sym,T e.name,.own r 7 0 e.args.length]) ((r,7,e.args.map ExO)::H)
 rw[hl,he]
 exact FR.trans (FR.addv ho hq) (FR.sub (.agg (.cons .refl (.cons .refl (.cons .refl (.cons .refl (.cons .refl (.cons .refl (.cons .virt .nil)))))))))
end Go.Gh
namespace Go.Gh
open Lib
variable {ts:List Tok}
def BdA {α:Type} (ts:List Tok) (i:Nat) (P:PR α):Prop:=i≤ts.length→i≤P.at∧P.at≤ts.length
theorem BdA.bind {α β:Type} {i:Nat} {P:PR α} {f:α→Nat→PR β} (h:BdA ts i P) (hf:∀a j,BdA ts j (f a j)):BdA ts i (P.bind f):=by
 intro hi
 cases P with
 | bad k=>exact h hi
 | ok b k=>
  obtain ⟨h1,h2⟩:=h hi
  obtain ⟨h3,h4⟩:=hf b k h2
  exact ⟨Nat.le_trans h1 h3,h4⟩
theorem BdA.ite {α:Type} {i:Nat} {c:Prop} [Decidable c] {a b:PR α} (h1:c→BdA ts i a) (h2:¬c→BdA ts i b):BdA ts i (if c then a else b):=by
 by_cases h:c
 ·rw[if_pos h];exact h1 h
 ·rw[if_neg h];exact h2 h
theorem BdA.ok {α:Type} {i:Nat} (a:α):BdA ts i (PR.ok a i):=fun h=>⟨Nat.le_refl _,h⟩
theorem BdA.next {α:Type} {i:Nat} (a:α) (h:i<ts.length):BdA ts i (PR.ok a (i+1)):=fun _ => ⟨Nat.le_succ _,h⟩
theorem BdA.bad {α:Type} {i:Nat}:BdA ts i (PR.bad i:PR α):=fun h=>⟨Nat.le_refl _,h⟩
theorem BdA.skip {α:Type} {i:Nat} {P:PR α} (h:i<ts.length) (hP:BdA ts (i+1) P):BdA ts i P:=fun _ => by
 obtain ⟨h1,h2⟩:=hP h
 exact ⟨by omega,h2⟩
theorem ZF (i:Nat) (w:ByteArray):BdA ts i (ZW ts i w):=by
 unfold ZW;split
 ·rename_i h;exact .next _ (sees_lt h)
 ·exact .bad
theorem ba_num (i:Nat) (lo hi:Int):BdA ts i (Zv ts i lo hi):=by
 unfold Zv;split
 ·rename_i h;exact .next _ h.1
 ·exact .bad
theorem X8 (i:Nat):BdA ts i (ZO ts i):=by
 unfold ZO;split
 ·rename_i h;exact .next _ h.1
 ·exact .bad
theorem ba_set:∀(f i:Nat) (l s:Int),BdA ts i (YM ts f i l s)
 | 0,i,l,s=> .bad
 | f+1,i,l,s=>by
  simp only[YM]
  split
  ·rename_i h;exact .next _ (sees_lt h)
  ·exact (ba_num i l 11).bind fun _ j=>ba_set f j _ _
theorem ba_row {X:Nat→PR Exp} (hX:∀i,BdA ts i (X i)) (lv:Nat):∀(f:Nat) (e:Exp) (i:Nat),BdA ts i (YO ts X lv f e i)
 | 0,e,i=> .bad
 | f+1,e,i=>by
  simp only[YO]
  split
  ·exact .ok _
  ·rename_i h
   refine .skip (op_lt h) ((hX _).bind fun b j=> ?_)
   split
   ·exact .ok _
   ·exact ba_row hX lv f _ _
theorem ba_lv {X:Nat→PR Exp} (hX:∀i,BdA ts i (X i)) (lv i:Nat):BdA ts i (lvP ts X lv i):=(hX i).bind fun e j=>ba_row hX lv _ _ _
theorem ba_atom {E A:Nat→PR Exp} (hE:∀i,BdA ts i (E i)) (hA:∀i,BdA ts i (A i)) (i:Nat):BdA ts i (Y6 ts E A i):=by
 unfold Y6
 dsimp only
 refine BdA.ite (fun _ => .bad) fun hi=> ?_
 have hi:i<ts.length:=Decidable.not_not.1 hi
 refine BdA.ite (fun _ => ?_) (fun _ => ?_)
 ·exact .next _ hi
 refine BdA.ite (fun _ => ?_) (fun _ => ?_)
 ·exact .skip hi ((ba_set _ _ _ _).bind fun _ _ => .ok _)
 refine BdA.ite (fun _ => ?_) (fun _ => ?_)
 ·exact .next _ hi
 refine BdA.ite (fun _ => ?_) (fun _ => ?_)
 ·exact .next _ hi
 refine BdA.ite (fun _ => ?_) (fun _ => ?_)
 ·exact .next _ hi
 refine BdA.ite (fun _ => ?_) (fun _ => ?_)
 ·exact .next _ hi
 refine BdA.ite (fun _ => ?_) (fun _ => ?_)
 ·exact .skip hi ((ba_num _ _ _).bind fun _ _ => (ZF _ _).bind fun _ _ => (X8 _).bind fun _ _ => .ok _)
 refine BdA.ite (fun _ => ?_) (fun _ => ?_)
 ·exact .skip hi ((ZF _ _).bind fun _ _ => (ba_num _ _ _).bind fun _ _ => (ZF _ _).bind fun _ _ => .ok _)
 refine BdA.ite (fun _ => ?_) (fun _ => ?_)
 ·exact .skip hi ((hE _).bind fun _ _ => (ZF _ _).bind fun _ _ => .ok _)
 refine BdA.ite (fun _ => ?_) (fun _ => ?_)
 ·exact .skip hi ((ZF _ _).bind fun _ _ => (hE _).bind fun _ _ => (ZF _ _).bind fun _ _ => (hE _).bind fun _ _ => (ZF _ _).bind fun _ _ => .ok _)
 ·exact (X8 _).bind fun _ _ => (ZF _ _).bind fun _ _ => (X8 _).bind fun _ _ => (ZF _ _).bind fun _ _ => (hA _).bind fun _ _ => .ok _
theorem ba_expr {E A:Nat→PR Exp} (hE:∀i,BdA ts i (E i)) (hA:∀i,BdA ts i (A i)) (i:Nat):BdA ts i (Yg ts E A i):=by
 unfold Yg
 split
 ·rename_i h
  exact .skip (sees_lt h) ((hE _).bind fun _ _ => (ZF _ _).bind fun _ _ => (hE _).bind fun _ _ => (ZF _ _).bind fun _ _ => (hE _).bind fun _ _ => .ok _)
 ·exact ba_lv (fun i=>ba_lv (fun i=>ba_lv hA 3 i) 2 i) 1 i
mutual
theorem ba_E:∀(f i:Nat),BdA ts i (pE ts f i)
 | 0,i=> .bad
 | f+1,i=>ba_expr (fun i=>ba_E f i) (fun i=>ba_A f i) i
theorem ba_A:∀(f i:Nat),BdA ts i (pA ts f i)
 | 0,i=> .bad
 | f+1,i=>ba_atom (fun i=>ba_E f i) (fun i=>ba_A f i) i
end
theorem Zw {α:Type} {b:Bool} {F:Nat→PR α} {i:Nat} (hF:BdA ts i (F i)) (hi:i≤ts.length):(frm b F i).at ≤ ts.length:=by
 cases b with
 | true=>exact hi
 | false=>exact (hF hi).2
end Go.Gh
namespace Go.Gh
open Lib
variable {ts:List Tok}
theorem bc {α β:Type} {i:Nat} (hi:i≤ts.length) {P Q:PR α} (hP:BdA ts i P) (h:P=Q) {f g:α→Nat→PR β} (hf:∀a j,i≤j→j≤ts.length→f a j=g a j):P.bind f=Q.bind g:=by
 subst h
 cases P with
 | bad k=>rfl
 | ok a k=>exact hf a k (hP hi).1 (hP hi).2
theorem row_congr {X X':Nat→PR Exp} (hb:∀i,BdA ts i (X i)) (lv:Nat):∀(F:Nat) (e:Exp) (i:Nat),i≤ts.length→(∀j,i<j→j≤ts.length→X j=X' j)→YO ts X lv F e i=YO ts X' lv F e i
 | 0,e,i,_,_ => rfl
 | F+1,e,i,hi,h=>by
  simp only[YO]
  split
  ·rfl
  ·rename_i ho
   have hlt:=op_lt ho
   refine bc (i:=i+1) hlt (hb _) (h _ (by omega) hlt) fun b j h1 h2=> ?_
   split
   ·rfl
   ·exact row_congr hb lv F _ j h2 fun q hq hq2=>h q (by omega) hq2
theorem lv_congr {X X':Nat→PR Exp} (hb:∀i,BdA ts i (X i)) (lv i:Nat) (hi:i≤ts.length) (h:∀j,i≤j→j≤ts.length→X j=X' j):lvP ts X lv i=lvP ts X' lv i:=
 bc hi (hb i) (h i (Nat.le_refl _) hi) fun e j h1 h2=>row_congr hb lv _ e j h2 fun q hq hq2=>h q (by omega) hq2
theorem atom_congr {E E' A A':Nat→PR Exp} (hE:∀i,BdA ts i (E i)) (hA:∀i,BdA ts i (A i)) (i:Nat) (hi:i≤ts.length) (h1:∀j,i<j→j≤ts.length→E j=E' j) (h2:∀j,i<j→j≤ts.length→A j=A' j):Y6 ts E A i=Y6 ts E' A' i:=by
 by_cases hlt:i<ts.length
 ·unfold Y6
  dsimp only
  rw[if_neg (not_not_intro hlt),if_neg (not_not_intro hlt)]
  have hi1:i+1≤ts.length:=hlt
  have e1:(E (i+1)).bind (fun e j=>(ZW ts j wRP).bind fun _ j=>PR.ok e j)=(E' (i+1)).bind (fun e j=>(ZW ts j wRP).bind fun _ j=>PR.ok e j):=bc hi1 (hE _) (h1 _ (by omega) hi1) fun _ _ _ _ => rfl
  have e2:((ZW ts (i+1) wLP).bind fun _ j=>(E j).bind fun a j=>(ZW ts j Yv).bind fun _ j=>(E j).bind fun b j=>(ZW ts j wRP).bind fun _ j=>PR.ok (opE (funO (ts.getD i Y5).text) a b) j)=((ZW ts (i+1) wLP).bind fun _ j=>(E' j).bind fun a j=>(ZW ts j Yv).bind fun _ j=>(E' j).bind fun b j=>(ZW ts j wRP).bind fun _ j=>PR.ok (opE (funO (ts.getD i Y5).text) a b) j):=
   bc hi1 (ZF _ _) rfl fun _ j q1 q2=>bc q2 (hE _) (h1 _ (by omega) q2) fun a k q3 q4=>bc q4 (ZF _ _) rfl fun _ m q5 q6=>bc q6 (hE _) (h1 _ (by omega) q6) fun _ _ _ _ => rfl
  have e3:((ZO ts i).bind fun s j=>(ZW ts j Zc).bind fun _ j=>(ZO ts j).bind fun n j=>(ZW ts j wOf).bind fun _ j=>(A j).bind fun e j=>PR.ok (Exp.mk 8 0 0 0 s n [e]) j)=((ZO ts i).bind fun s j=>(ZW ts j Zc).bind fun _ j=>(ZO ts j).bind fun n j=>(ZW ts j wOf).bind fun _ j=>(A' j).bind fun e j=>PR.ok (Exp.mk 8 0 0 0 s n [e]) j):=by
   cases hn:ZO ts i with
   | bad k=>rfl
   | ok s k=>
    have hk:=name_nx hn
    subst hk
    show (ZW ts (i+1) Zc).bind _ = (ZW ts (i+1) Zc).bind _
    exact bc hi1 (ZF _ _) rfl fun _ j q1 q2=>bc q2 (X8 _) rfl fun _ k q3 q4=>bc q4 (ZF _ _) rfl fun _ m q5 q6=>bc q6 (hA _) (h2 _ (by omega) q6) fun _ _ _ _ => rfl
  rw[e1,e2,e3]
 ·unfold Y6
  dsimp only
  rw[if_pos hlt,if_pos hlt]
theorem expr_congr {E E' A A':Nat→PR Exp} (hE:∀i,BdA ts i (E i)) (hA:∀i,BdA ts i (A i)) (i:Nat) (hi:i≤ts.length) (h1:∀j,i<j→j≤ts.length→E j=E' j) (h2:∀j,i≤j→j≤ts.length→A j=A' j):Yg ts E A i=Yg ts E' A' i:=by
 unfold Yg
 split
 ·rename_i hs
  have hi1:i+1≤ts.length:=sees_lt hs
  exact bc hi1 (hE _) (h1 _ (by omega) hi1) fun a j q1 q2=>bc q2 (ZF _ _) rfl fun _ k q3 q4=>bc q4 (hE _) (h1 _ (by omega) q4) fun b m q5 q6=>bc q6 (ZF _ _) rfl fun _ n q7 q8=>bc q8 (hE _) (h1 _ (by omega) q8) fun _ _ _ _ => rfl
 ·refine lv_congr (fun i=>ba_lv (fun i=>ba_lv hA 3 i) 2 i) 1 i hi fun j a b=>lv_congr (fun i=>ba_lv hA 3 i) 2 j b fun k c d=>lv_congr hA 3 k d fun m e f=>h2 m (by omega) f
mutual
theorem fuel_E:∀(f f' i:Nat),i≤ts.length→2 * (ts.length-i)+2≤f→2 * (ts.length-i)+2≤f'→pE ts f i=pE ts f' i
 | 0,f',i,_,h,_ => by omega
 | f+1,0,i,_,_,h=>by omega
 | f+1,f'+1,i,hi,h,h'=>expr_congr (ba_E f) (ba_A f) i hi (fun j a b=>fuel_E f f' j b (by omega) (by omega)) (fun j a b=>fuel_A f f' j b (by omega) (by omega))
theorem fuel_A:∀(f f' i:Nat),i≤ts.length→2 * (ts.length-i)+1≤f→2 * (ts.length-i)+1≤f'→pA ts f i=pA ts f' i
 | 0,f',i,_,h,_ => by omega
 | f+1,0,i,_,_,h=>by omega
 | f+1,f'+1,i,hi,h,h'=>by
  by_cases hlt:i<ts.length
  ·exact atom_congr (ba_E f) (ba_A f) i hi (fun j a b=>fuel_E f f' j b (by omega) (by omega)) (fun j a b=>fuel_A f f' j b (by omega) (by omega))
  ·show Y6 ts (pE ts f) (pA ts f) i=Y6 ts (pE ts f') (pA ts f') i
   unfold Y6
   dsimp only
   rw[if_pos hlt,if_pos hlt]
end
def rE (ts:List Tok) (i:Nat):PR Exp:=pE ts (2 * ts.length+4) i
def rA (ts:List Tok) (i:Nat):PR Exp:=pA ts (2 * ts.length+4) i
theorem Yb (i:Nat):BdA ts i (rE ts i):=ba_E _ i
theorem rA_bd (i:Nat):BdA ts i (rA ts i):=ba_A _ i
theorem rE_eq {i:Nat} (hi:i≤ts.length):rE ts i=Yg ts (rE ts) (rA ts) i:=
 expr_congr (ba_E _) (ba_A _) i hi (fun j a b=>fuel_E _ _ j b (by omega) (by omega)) (fun j a b=>fuel_A _ _ j b (by omega) (by omega))
theorem rA_eq {i:Nat} (hi:i≤ts.length):rA ts i=Y6 ts (rE ts) (rA ts) i:=
 atom_congr (ba_E _) (ba_A _) i hi (fun j a b=>fuel_E _ _ j b (by omega) (by omega)) (fun j a b=>fuel_A _ _ j b (by omega) (by omega))
end Go.Gh
namespace Go.Gh
variable {ts:List Tok}
theorem sees_isW {i:Nat} (h:i<ts.length) (w:ByteArray):isW (ts.getD i Y5) w=sees ts i w:=by unfold sees;rw[decide_eq_true h,Bool.true_and]
def okNs (ts:List Tok):Prop:=∀t∈ts,t.kind=2→0≤t.num∧t.num≤1000000
def EN (S:Nat→Bool→GV) (P:PR Exp) (rp:Nat) (H:GH) (g:GV) (H':GH):Prop:=
 ∃e,e.args=[]∧g=ExN e∧H'=Z1 H rp [S P.at P.err]∧∀a j,P = .ok a j→e=a
def E1 (S:Nat→Bool→GV) (P:PR Exp) (rp:Nat) (H:GH) (g:GV) (H':GH):Prop:=
 ∃s m a r q,q≠r∧g=EO q (.mk 8 0 0 0 s m [a])∧H'=(q,7,[EO r a])::(r,7,a.args.map ExO)::Z1 H rp [S P.at P.err]∧∀x j,P = .ok x j→(.mk 8 0 0 0 s m [a])=x
def E3 (S:Nat→Bool→GV) (P:PR Exp) (rp:Nat) (H:GH) (g:GV) (H':GH):Prop:=
 ∃a b c ra rb rc q,q≠ra∧q≠rb∧q≠rc∧rc≠ra∧rc≠rb∧rb≠ra∧g=EO q (.mk 5 0 0 0 noS noS [a,b,c])∧H'=(q,7,[EO ra a,EO rb b,EO rc c])::(rc,7,c.args.map ExO)::(rb,7,b.args.map ExO)::(ra,7,a.args.map ExO)::Z1 H rp [S P.at P.err]∧∀x j,P = .ok x j→(.mk 5 0 0 0 noS noS [a,b,c])=x
theorem closeO {g:GV} {q r:Nat} {pre suf:List GV} {a:Exp} {U:GH} (hne:q≠r) (hr:Z6 U r=some (7,a.args.map ExO)):FR g ((q,7,pre++EO r a::suf)::U) g ((q,7,pre++ExO a::suf)::ZL U r):=by
 have h:=FR.close (g:=g) (H:=(q,7,pre++EO r a::suf)::U) (r:=q) (r1:=r) (sz:=7) (sz1:=7) (i:=pre.length) (j:=6) (n:=a.args.length) (es:=pre++EO r a::suf) (gs:=[I a.kind,I a.n,I a.pos,I a.type,T a.sym,T a.name,.own r 7 0 a.args.length]) (ks:=a.args.map ExO) hne Z0 (by simp) rfl (by rw[ZX hne];exact hr) (by simp)
 rw[YU] at h
 have e1:(pre++EO r a::suf).set pre.length (.agg ([I a.kind,I a.n,I a.pos,I a.type,T a.sym,T a.name,.own r 7 0 a.args.length].set 6 (.osl 7 (a.args.map ExO))))=pre++ExO a::suf:=by
  rw[ExO_eq]
  simp
 rw[e1] at h
 have e2:ZL ((q,7,pre++ExO a::suf)::U) r=(q,7,pre++ExO a::suf)::ZL U r:=by simp[ZL,hne]
 rw[e2] at h
 exact h
theorem EP.of {P:Program} {f:FuncId} {gs:List GV} {H:GH} {S:Nat→Bool→GV} {R:PR Exp} {rp:Nat} (h:GCalls P f gs H (fun g H'=>EP S R rp H g H'∨EN S R rp H g H'∨E1 S R rp H g H'∨E3 S R rp H g H')):GCalls P f gs H (EP S R rp H):=by
 refine h.fr ?_
 rintro g H' (h|⟨e,he,rfl,rfl,hx⟩|⟨s,m,a,r,q,hqr,rfl,rfl,hx⟩|⟨a,b,c,ra,rb,rc,q,h1,h2,h3,h4,h5,h6,rfl,rfl,hx⟩)
 ·exact ⟨g,H',FR.refl _ _,h⟩
 ·obtain ⟨r,hf⟩:=FR.nilE he (Z1 H rp [S R.at R.err])
  exact ⟨_,_,hf,e,r,rfl,rfl,hx⟩
 ·have c1:=closeO (g:=EO q (.mk 8 0 0 0 s m [a])) (pre:=[]) (suf:=[]) (U:=(r,7,a.args.map ExO)::Z1 H rp [S R.at R.err]) hqr Z0
  rw[show ZL ((r,7,a.args.map ExO)::Z1 H rp [S R.at R.err]) r=Z1 H rp [S R.at R.err] by simp[ZL]] at c1
  exact ⟨_,_,c1,_,q,rfl,rfl,hx⟩
 ·have c1:=closeO (g:=EO q (.mk 5 0 0 0 noS noS [a,b,c])) (pre:=[EO ra a,EO rb b]) (suf:=[]) (U:=(rc,7,c.args.map ExO)::(rb,7,b.args.map ExO)::(ra,7,a.args.map ExO)::Z1 H rp [S R.at R.err]) h3 Z0
  rw[show ZL ((rc,7,c.args.map ExO)::(rb,7,b.args.map ExO)::(ra,7,a.args.map ExO)::Z1 H rp [S R.at R.err]) rc=(rb,7,b.args.map ExO)::(ra,7,a.args.map ExO)::Z1 H rp [S R.at R.err] by simp[ZL]] at c1
  have c2:=closeO (g:=EO q (.mk 5 0 0 0 noS noS [a,b,c])) (pre:=[EO ra a]) (suf:=[ExO c]) (U:=(rb,7,b.args.map ExO)::(ra,7,a.args.map ExO)::Z1 H rp [S R.at R.err]) h2 Z0
  rw[show ZL ((rb,7,b.args.map ExO)::(ra,7,a.args.map ExO)::Z1 H rp [S R.at R.err]) rb=(ra,7,a.args.map ExO)::Z1 H rp [S R.at R.err] by simp[ZL]] at c2
  have c3:=closeO (g:=EO q (.mk 5 0 0 0 noS noS [a,b,c])) (pre:=[]) (suf:=[ExO b,ExO c]) (U:=(ra,7,a.args.map ExO)::Z1 H rp [S R.at R.err]) h1 Z0
  rw[show ZL ((ra,7,a.args.map ExO)::Z1 H rp [S R.at R.err]) ra=Z1 H rp [S R.at R.err] by simp[ZL]] at c3
  exact ⟨_,_,FR.trans c1 (FR.trans c2 c3),_,q,rfl,rfl,hx⟩
end Go.Gh
namespace Go.Gh
open Lib
theorem Yy {α β:Type} (P:PR α) (F:Nat→PR β):frm P.err F P.at=P.bind fun _ => F:=by cases P<;>rfl
theorem bind_as {α β γ:Type} (P:PR α) (f:α→Nat→PR β) (g:β→Nat→PR γ):(P.bind f).bind g=P.bind fun a j=>(f a j).bind g:=by cases P<;>rfl
def StP {α β:Type} (P:PR α) (Q:PR β):Prop:=P.at=Q.at∧P.err=Q.err
theorem StP.bind {α β γ:Type} (P:PR α) {f:α→Nat→PR β} {f':α→Nat→PR γ} (h:∀a j,StP (f a j) (f' a j)):StP (P.bind f) (P.bind f'):=by
 cases P with
 | bad k=>exact ⟨rfl,rfl⟩
 | ok a k=>exact h a k
theorem StP.last {α β:Type} (P:PR α) (f:α→β):StP P (P.bind fun a j=> .ok (f a) j):=by cases P<;>exact ⟨rfl,rfl⟩
theorem X5 {ts:List Tok} {α:Type} {b:Bool} {F:Nat→PR α} {i:Nat} (hF:BdA ts i (F i)) (hi:i≤ts.length):i≤(frm b F i).at := by
 cases b with
 | true=>exact Nat.le_refl _
 | false=>exact (hF hi).1
end Go.Gh
namespace Go.Gh
open Lib
theorem spanL_take (p:UInt8→Bool):∀(l:List UInt8),∀c∈l.take (Zx p l),p c=true
 | [],c,h=>by simp at h
 | d::l,c,h=>by
  simp only[Zx] at h
  split at h
  ·rename_i hd
   rw[List.take_succ_cons,List.mem_cons] at h
   rcases h with rfl|h
   ·exact hd
   ·exact spanL_take p l c h
  ·simp at h
theorem valD_nn:∀(w:List UInt8) (n:Int),0≤n→(∀c∈w,ZG c=true)→0≤w.foldl (fun n c=>10 * n+((c.toNat:Int)-48)) n
 | [],n,h,_ => h
 | c::w,n,h,hd=>by
  have hc:=hd c (by simp)
  have h48:48≤c.toNat:=by
   simp only[ZG,Bool.and_eq_true,decide_eq_true_eq] at hc
   first|exact hc.1|omega
  exact valD_nn w _ (show 0≤10 * n+((c.toNat:Int)-48) by omega) fun x hx=>hd x (by simp[hx])
def okTk (t:Tok):Prop:=(t.kind=1→shp (Z9 t.text)=true)∧(Z9 t.text).length ≤ 8∧(t.kind=2→0≤t.num∧t.num≤1000000)
theorem tokN_ok {l:List UInt8} {k:Nat} (h:(Zb l k).2 ≠ 0):okTk (Zb l k).1 := by
 unfold Zb at h ⊢
 split at h
 ·rename_i hk
  split at h
  ·rename_i hl
   split at h
   ·rename_i h8
    rw[dif_pos hk,if_pos hl,if_pos h8]
    refine ⟨fun _ => ?_,?_,fun h=>(by cases h)⟩
    ·show shp ((l.drop k).take (Zx YW (l.drop k)))=true
     rw[XS hk (by unfold YW;rw[hl];rfl),List.drop_eq_getElem_cons hk,List.take_succ_cons]
     simp only[shp,hl,Bool.true_and,List.all_eq_true]
     intro c hc
     exact spanL_take YW _ c hc
    ·show ((l.drop k).take (Zx YW (l.drop k))).length ≤ 8
     rw[List.length_take]
     omega
   ·exact absurd rfl h
  ·rename_i hl
   split at h
   ·rename_i hd
    cases hn:numT ((l.drop k).take (Zx ZG (l.drop k))) with
    | none=>rw[hn] at h;exact absurd rfl h
    | some n=>
     rw[dif_pos hk,if_neg hl,if_pos hd]
     simp only[hn]
     refine ⟨fun h=>(by cases h),(by show (0:Nat)≤8;decide),fun _ => ⟨?_,(numT_some hn).2⟩⟩
     unfold numT at hn
     split at hn
     ·cases hn
      exact valD_nn _ 0 (by decide) (spanL_take ZG _)
     ·cases hn
   ·rename_i hd
    split at h
    ·rename_i hs
     rw[dif_pos hk,if_neg hl,if_neg hd,if_pos hs]
     exact ⟨fun h=>(by cases h),by show 1≤8;decide,fun h=>(by cases h)⟩
    ·rename_i hs
     split at h
     ·rename_i he
      rw[dif_pos hk,if_neg hl,if_neg hd,if_neg hs,if_pos he]
      exact ⟨fun h=>(by cases h),by show 2≤8;decide,fun h=>(by cases h)⟩
     ·exact absurd rfl h
 ·exact absurd rfl h
theorem tokL_all {l:List UInt8} {Q:Tok→Prop} (hQ:∀k,(Zb l k).2 ≠ 0→Q (Zb l k).1):∀(f k:Nat) (out:List Tok),(∀t∈out,Q t)→∀t∈(YE l f k out).1,Q t
 | 0,k,out,h=>by simp[YE]
 | f+1,k,out,h=>by
  simp only[YE]
  split
  ·split
   ·exact tokL_all hQ f _ _ h
   ·split
    ·simp
    ·rename_i h1
     refine tokL_all hQ f _ _ fun t ht=> ?_
     rcases List.mem_append.1 ht with ht|ht
     ·exact h t ht
     ·rw[List.mem_singleton] at ht
      subst ht
      exact hQ k (fun e=>h1 (.inl e))
  ·exact h
theorem tokz_ok (l:List UInt8):∀t∈(Zp l).1,okTk t:=by
 unfold Zp
 split
 ·simp
 ·exact tokL_all (fun k h=>tokN_ok h) _ _ _ (by simp)
theorem tokz_okTs (l:List UInt8):okTs (Zp l).1 := fun t ht=>⟨(tokz_ok l t ht).1,(tokz_ok l t ht).2.1⟩
theorem tokz_okNs (l:List UInt8):okNs (Zp l).1 := fun t ht=>(tokz_ok l t ht).2.2
end Go.Gh
namespace Go.Gh
open Lib
variable {ts:List Tok}
def offT (ts:List Tok) (n:Int) (i:Nat):Int:=if i<ts.length then (ts.getD i Y5).at' else n
def bdO (ts:List Tok) (n:Int) (i:Nat) (b:Bool):Int:=if b=true then offT ts n i else -1
theorem bdO_t (n:Int) (i:Nat):bdO ts n i true=offT ts n i:=rfl
theorem YZ (n:Int) (i:Nat):bdO ts n i false = -1:=rfl
theorem YA:((-1:Int)<0)=True:=eq_true (by decide)
theorem YB:(0≤(-1:Int))=False:=eq_false (by decide)
theorem offT_lt {n:Int} {i:Nat} (h:i<ts.length):offT ts n i=ts[i].at' := by unfold offT;rw[if_pos h,Za h]
theorem offT_ge {n:Int} {i:Nat} (h:ts.length≤i):offT ts n i=n:=by unfold offT;rw[if_neg (by omega)]
abbrev SpG (ts:List Tok) (n:Int) (i:Nat) (b:Bool):GV:= .agg [TkS ts,I i,I n,I (bdO ts n i b)]
structure OkR (ts:List Tok) (n:Int):Prop where
 len:ts.length≤80
 txt:okTs ts
 num:okNs ts
 off:∀t∈ts,0≤t.at'
 fin:0≤n
theorem OkR.nn {n:Int} (h:OkR ts n) (i:Nat):0≤offT ts n i:=by
 unfold offT
 split
 ·rename_i hi
  rw[Za hi]
  exact h.off _ (List.getElem_mem hi)
 ·exact h.fin
theorem OkR.ng {n:Int} (h:OkR ts n) (i:Nat):(offT ts n i<0)=False:=eq_false (by have:=h.nn i;omega)
theorem OkR.ge {n:Int} (h:OkR ts n) (i:Nat):(0≤offT ts n i)=True:=eq_true (h.nn i)
theorem okR_tokz (l:List UInt8):OkR (Zp l).1 l.length:=⟨tokz_len l,tokz_okTs l,tokz_okNs l,fun t h=>(tokz_at l t h).1,by omega⟩
end Go.Gh
namespace Go.Gh
open Lib
variable {ts:List Tok}
def SzP (P:Nat→PR Exp):Prop:=∀i e j,P i = .ok e j→okE e∧wEx e+17 * i≤17 * j
theorem sz_name (ht:okTs ts) {i j:Nat} {s:ByteArray} (h:ZO ts i = .ok s j):s.size≤maxLen∧(Z9 s).length ≤ 8∧j=i+1:=by
 have hj:=name_nx h
 unfold ZO at h
 split at h
 ·rename_i hc
  cases h
  have:=(ht (ts.getD i Y5) (by rw[Za hc.1];exact List.getElem_mem hc.1)).2
  refine ⟨?_,this,rfl⟩
  rw[ZE]
  exact Nat.le_trans this (by decide)
 ·cases h
theorem sz_noS:noS.size≤maxLen∧(Z9 noS).length = 0:=⟨by decide,rfl⟩
theorem sz_op (o:Int) {a b:Exp} (ha:okE a) (hb:okE b):okE (opE o a b)∧wEx (opE o a b)=2+wEx a+wEx b:=by
 refine ⟨⟨sz_noS.1,sz_noS.1,ha,hb,trivial⟩,?_⟩
 show (Z9 noS).length + (Z9 noS).length + (2+(wEx a+(wEx b+0))) = _
 rw[sz_noS.2]
 omega
theorem YI (k n p t:Int):okE (.mk k n p t noS noS [])∧wEx (.mk k n p t noS noS [])=0:=⟨⟨sz_noS.1,sz_noS.1,trivial⟩,rfl⟩
theorem sz_row {X:Nat→PR Exp} {lv:Nat} (hX:SzP X):∀(F:Nat) (e:Exp) (i i0:Nat) (r:Exp) (j:Nat),okE e→wEx e+17 * i0≤17 * i→YO ts X lv F e i = .ok r j→okE r∧wEx r+17 * i0≤17 * j
 | 0,e,i,i0,r,j,_,_,h=>by cases h
 | F+1,e,i,i0,r,j,ho,hi,h=>by
  simp only[YO] at h
  split at h
  ·cases h;exact ⟨ho,hi⟩
  ·obtain ⟨b,k,e1,e2⟩:=ZV h
   obtain ⟨b1,b2⟩:=hX _ _ _ e1
   obtain ⟨c1,c2⟩:=sz_op (Go.Gh.opAt ts i lv) ho b1
   split at e2
   ·cases e2;exact ⟨c1,by omega⟩
   ·exact sz_row hX F _ _ i0 r j c1 (by omega) e2
theorem sz_lv {X:Nat→PR Exp} {lv:Nat} (hX:SzP X):SzP (lvP ts X lv):=by
 intro i e j h
 unfold lvP at h
 obtain ⟨a,k,e1,e2⟩:=ZV h
 obtain ⟨a1,a2⟩:=hX _ _ _ e1
 exact sz_row hX _ a k i e j a1 a2 e2
theorem sz_set:∀(F i:Nat) (l s:Int) (r:Int) (j:Nat),YM ts F i l s = .ok r j→i≤j
 | 0,i,l,s,r,j,h=>by cases h
 | F+1,i,l,s,r,j,h=>by
  simp only[YM] at h
  split at h
  ·cases h;omega
  ·obtain ⟨n,k,e1,e2⟩:=ZV h
   have h1:=(num_nx e1).1
   have:=sz_set F _ _ _ r j e2
   omega
theorem sz_atom (ht:okTs ts) {E A:Nat→PR Exp} (hE:SzP E) (hA:SzP A):SzP (Y6 ts E A):=by
 intro i e j h
 unfold Y6 at h
 dsimp only at h
 rcases ite_c h with ⟨hc,h⟩|⟨hc,h⟩
 ·cases h
 rcases ite_c h with ⟨hc,h⟩|⟨hc,h⟩
 ·cases h;exact ⟨(YI _ _ _ _).1,by have:=(YI 1 (ts.getD i Y5).num 0 1).2;unfold conE;omega⟩
 rcases ite_c h with ⟨hc,h⟩|⟨hc,h⟩
 ·obtain ⟨s,k,e1,e2⟩:=ZV h
  cases e2
  have:=sz_set _ _ _ _ _ _ e1
  exact ⟨(YI _ _ _ _).1,by have:=(YI 1 s 0 2).2;unfold conE;omega⟩
 rcases ite_c h with ⟨hc,h⟩|⟨hc,h⟩
 ·cases h;exact ⟨(YI _ _ _ _).1,by have:=(YI 1 1 0 3).2;unfold conE;omega⟩
 rcases ite_c h with ⟨hc,h⟩|⟨hc,h⟩
 ·cases h;exact ⟨(YI _ _ _ _).1,by have:=(YI 1 0 0 3).2;unfold conE;omega⟩
 rcases ite_c h with ⟨hc,h⟩|⟨hc,h⟩
 ·cases h;exact ⟨(YI _ _ _ _).1,by have:=(YI 2 0 0 0).2;omega⟩
 rcases ite_c h with ⟨hc,h⟩|⟨hc,h⟩
 ·cases h;exact ⟨(YI _ _ _ _).1,by have:=(YI 7 0 0 0).2;omega⟩
 rcases ite_c h with ⟨hc,h⟩|⟨hc,h⟩
 ·obtain ⟨p,k,e1,h⟩:=ZV h
  obtain ⟨_,k2,e2,h⟩:=ZV h
  obtain ⟨m,k3,e3,h⟩:=ZV h
  have:=(num_nx e1).1
  have:=XU e2
  obtain ⟨m1,m2,m3⟩:=sz_name ht e3
  cases h
  refine ⟨⟨sz_noS.1,m1,trivial⟩,?_⟩
  show (Z9 noS).length + (Z9 m).length + (0+0)+17 * i≤17 * j
  rw[sz_noS.2]
  omega
 rcases ite_c h with ⟨hc,h⟩|⟨hc,h⟩
 ·obtain ⟨_,k,e1,h⟩:=ZV h
  obtain ⟨p,k2,e2,h⟩:=ZV h
  obtain ⟨_,k3,e3,h⟩:=ZV h
  have:=(num_nx e2).1
  have:=XU e1
  have:=XU e3
  cases h
  exact ⟨(YI _ _ _ _).1,by have:=(YI 6 0 p 0).2;omega⟩
 rcases ite_c h with ⟨hc,h⟩|⟨hc,h⟩
 ·obtain ⟨x,k,e1,h⟩:=ZV h
  obtain ⟨_,k2,e2,h⟩:=ZV h
  obtain ⟨h1,h2⟩:=hE _ _ _ e1
  have:=XU e2
  cases h
  exact ⟨h1,by omega⟩
 rcases ite_c h with ⟨hc,h⟩|⟨hc,h⟩
 ·obtain ⟨_,k,e1,h⟩:=ZV h
  obtain ⟨a,k2,e2,h⟩:=ZV h
  obtain ⟨_,k3,e3,h⟩:=ZV h
  obtain ⟨b,k4,e4,h⟩:=ZV h
  obtain ⟨_,k5,e5,h⟩:=ZV h
  obtain ⟨a1,a2⟩:=hE _ _ _ e2
  obtain ⟨b1,b2⟩:=hE _ _ _ e4
  have:=XU e1
  have:=XU e3
  have:=XU e5
  cases h
  obtain ⟨c1,c2⟩:=sz_op (funO (ts.getD i Y5).text) a1 b1
  exact ⟨c1,by omega⟩
 ·obtain ⟨s,k,e1,h⟩:=ZV h
  obtain ⟨_,k2,e2,h⟩:=ZV h
  obtain ⟨m,k3,e3,h⟩:=ZV h
  obtain ⟨_,k4,e4,h⟩:=ZV h
  obtain ⟨a,k5,e5,h⟩:=ZV h
  obtain ⟨s1,s2,s3⟩:=sz_name ht e1
  have:=XU e2
  obtain ⟨m1,m2,m3⟩:=sz_name ht e3
  have:=XU e4
  obtain ⟨a1,a2⟩:=hA _ _ _ e5
  cases h
  refine ⟨⟨s1,m1,a1,trivial⟩,?_⟩
  show (Z9 s).length + (Z9 m).length + (1+(wEx a+0))+17 * i≤17 * j
  omega
theorem sz_expr {E A:Nat→PR Exp} (hE:SzP E) (hA:SzP A):SzP (Yg ts E A):=by
 intro i e j h
 unfold Yg at h
 split at h
 ·obtain ⟨a,k,e1,h⟩:=ZV h
  obtain ⟨_,k2,e2,h⟩:=ZV h
  obtain ⟨b,k3,e3,h⟩:=ZV h
  obtain ⟨_,k4,e4,h⟩:=ZV h
  obtain ⟨c,k5,e5,h⟩:=ZV h
  obtain ⟨a1,a2⟩:=hE _ _ _ e1
  obtain ⟨b1,b2⟩:=hE _ _ _ e3
  obtain ⟨c1,c2⟩:=hE _ _ _ e5
  have:=XU e2
  have:=XU e4
  cases h
  refine ⟨⟨sz_noS.1,sz_noS.1,a1,b1,c1,trivial⟩,?_⟩
  show (Z9 noS).length + (Z9 noS).length + (3+(wEx a+(wEx b+(wEx c+0))))+17 * i≤17 * j
  rw[sz_noS.2]
  omega
 ·exact sz_lv (sz_lv (sz_lv hA)) i e j h
mutual
theorem sz_E (ht:okTs ts):∀f:Nat,SzP (pE ts f)
 | 0=>fun i e j h=>by cases h
 | f+1=>sz_expr (sz_E ht f) (sz_A ht f)
theorem sz_A (ht:okTs ts):∀f:Nat,SzP (pA ts f)
 | 0=>fun i e j h=>by cases h
 | f+1=>sz_atom ht (sz_E ht f) (sz_A ht f)
end
theorem rE_sz (ht:okTs ts) (hl:ts.length≤80) {e:Exp} {j:Nat} (h:rE ts 0 = .ok e j):okE e∧wEx e≤1048576:=by
 have hb:=(Yb (ts:=ts) 0 (Nat.zero_le _)).2
 rw[h] at hb
 have hb:j≤ts.length:=hb
 obtain ⟨h1,h2⟩:=sz_E ht _ 0 e j h
 exact ⟨h1,by omega⟩
end Go.Gh
namespace Go.Gh
open Lib
theorem FR.nilT {e:Exp} (he:e.args=[]) (v:GV) (H:GH):∃r,FR (.tup [ExN e,v]) H (.tup [EO r e,v]) ((r,7,e.args.map ExO)::H):=by
 obtain ⟨r,ho,hq⟩:=vfresh (names H)
 refine ⟨r,?_⟩
 have hl:e.args.length=0:=by rw[he];rfl
 show FR (.tup [ExN e,v]) H (.tup [.agg [I e.kind,I e.n,I e.pos,I e.type,T e.sym,T e.name,.own r 7 0 e.args.length],v]) ((r,7,e.args.map ExO)::H)
 rw[hl,he]
 exact FR.trans (FR.addv ho hq) (FR.sub (.tup (.cons (.agg (.cons .refl (.cons .refl (.cons .refl (.cons .refl (.cons .refl (.cons .refl (.cons .virt .nil)))))))) (.cons .refl .nil))))
abbrev zE:Exp:= .mk 0 0 0 0 noS noS []
def AnsS (a:Exp×Int) (H:GH) (g:GV) (H':GH):Prop:=
 (∃r q x,g = .tup [EO r a.1,I a.2]∧H'=(r,7,a.1.args.map ExO)::(q,x)::H)∨(∃X,a.1=zE∧g = .tup [ExN zE,I a.2]∧H'=X++H)
def AnsO (a:Exp×Int) (H:GH) (g:GV) (H':GH):Prop:=∃H1,(∃r,g = .tup [EO r a.1,I a.2]∧H1=[(r,7,a.1.args.map ExO)])∧H'=H1++H
theorem AnsS.own {P:Program} {f:FuncId} {gs:List GV} {H:GH} {a:Exp×Int} (h:GCalls P f gs H (AnsS a H)):GCalls P f gs H (AnsO a H):=by
 refine h.fr ?_
 rintro g H' (⟨r,q,x,rfl,rfl⟩|⟨X,hz,rfl,rfl⟩)
 ·exact ⟨_,_,FR.perm (H:=[(r,7,a.1.args.map ExO),(q,x)]) (L:=[(r,7,a.1.args.map ExO)]) (by simp[subH,Z6,names]),_,⟨r,rfl,rfl⟩,rfl⟩
 ·obtain ⟨r,hf⟩:=FR.nilT (e:=zE) rfl (I a.2) H
  refine ⟨_,_,FR.trans (FR.perm (H:=X) (L:=[]) (by simp[subH,names])) hf,_,⟨r,?_,rfl⟩,?_⟩
  ·rw[hz]
  ·rw[hz];rfl
theorem bor_EO {H:GH} {r:Nat} {e:Exp} (hr:Z6 H r=some (7,e.args.map ExO)):Bor H (EO r e) (Ex e):=by
 rw[ZA]
 exact .agg (.cons .refl (.cons .refl (.cons .refl (.cons .refl (.cons .refl (.cons .refl (.cons (Bor.seen view_ExO hr (by simp)) .nil)))))))
theorem AnsO.bor {a:Exp×Int} {H:GH} {g:GV} {H':GH} (h:AnsO a H g H'):Bor H' g (.tup [Ex a.1,I a.2]):=by
 obtain ⟨H1,⟨r,rfl,rfl⟩,rfl⟩:=h
 exact .tup (.cons (bor_EO Z0) (.cons .refl .nil))
theorem parV_bad {l:List UInt8} (h:0≤(Zp l).2):ZD l=(zE,(Zp l).2):=by unfold ZD;rw[if_pos h]
theorem parV_rd {l : List UInt8} (h : ¬ 0 ≤ (Zp l).2) : ZD l = match rE (Zp l).1 0 with
      | .bad i => (zE, offT (Zp l).1 l.length i)
      | .ok e i => if i < (Zp l).1.length then (zE, offT (Zp l).1 l.length i) else if Zo e = true then (e, -1) else (zE, 0) := by
  unfold ZD
  rw [if_neg h]
  rfl
theorem parV_sz (l:List UInt8):okE (ZD l).1 ∧ wEx (ZD l).1 ≤ 1048576:=by
 have hz:okE zE∧wEx zE≤1048576:=⟨(YI 0 0 0 0).1,by rw[(YI 0 0 0 0).2];omega⟩
 have hK:=okR_tokz l
 by_cases h:0≤(Zp l).2
 ·rw[parV_bad h];exact hz
 ·rw[parV_rd h]
  cases hP:rE (Zp l).1 0 with
  | bad i=>exact hz
  | ok e i=>
   dsimp only
   split
   ·exact hz
   ·split
    ·exact rE_sz hK.txt hK.len hP
    ·exact hz
end Go.Gh
namespace Go.Gh
abbrev RuX (r:Rul) (Y Z:GV):GV:= .agg [T r.name,T r.left,TS r.right,B r.lit,Y,Z]
theorem callA.ex {P:Program} {f:FuncId} {gs:List GV} {R:GV→GH→Prop} {K:Env→GH→Prop} {is:List GI} {env:Env} {H:GH} {d:Option Nat} (h:GCalls P f gs H (fun g H'=>∃H1,R g H1∧H'=H1++H))
 (hk:∀g H1,R g H1→(names (H1++H)).Nodup → Z7 P is K (gput env d g) (H1++H)):callA P f (some gs) d is K env H:=⟨R,h,hk⟩
end Go.Gh
namespace Go.Gh
end Go.Gh
namespace Go.Gh
end Go.Gh
namespace Go.Gh
def hAt (g:Gram) (s:ByteArray):Int:=(hgts g).getD (max 0 (ixOf (fun y:Sym=>decide (y.name=s)) g.syms)).toNat 0
def drN (x:Nod):Prop:=x.kids.length≤3∧shT x.rule
end Go.Gh
namespace Go.Gh
end Go.Gh
namespace Go.Gh
abbrev Zt:GV:= .val (.slice none 0 0)
abbrev Ru0 (r:Rul):GV:=RuX r Zt Zt
theorem view_Co (c:Con):view (Co c)=Co c:=by
 have:∀l:List Exp,(l.map Ex).map view=l.map Ex:=fun l=>by rw[List.map_map];exact List.map_congr_left fun a _ => view_Ex a
 simp[view,Y7,X4,this]
theorem view_Qn (c:Eqn):view (Qn c)=Qn c:=by
 have:∀l:List Exp,(l.map Ex).map view=l.map Ex:=fun l=>by rw[List.map_map];exact List.map_congr_left fun a _ => view_Ex a
 simp[view,Y7,X4,this]
theorem FE.leaf {env:Env} {q:Nat} {L:List Rul} {a b:ByteArray} {c:Bool} {H:GH}:FE env ((q,6,L.map Ru0++[.agg [T a,T b,Zt,B c,Zt,Zt]])::H) env ((q,6,(L++[(⟨a,b,[],c,[],[]⟩:Rul)]).map Ru0)::H):=by
 have:=FE.exch (env:=env) (H:=(q,6,L.map Ru0++[.agg [T a,T b,Zt,B c,Zt,Zt]])::H) (r:=q) (sz:=6) (i:=L.length) (es:=L.map Ru0++[.agg [T a,T b,Zt,B c,Zt,Zt]]) (e:= .agg [T a,T b,Zt,B c,Zt,Zt]) (e':=Ru0 (⟨a,b,[],c,[],[]⟩:Rul)) (by simp[Z6]) (by simp)
  fun w D v F hm=>MV.fld (j:=2) (g':= .sl 1 []) rfl MV.nil_sl v F hm
 have e:(L.map Ru0++[GV.agg [T a,T b,Zt,B c,Zt,Zt]]).set L.length (Ru0 (⟨a,b,[],c,[],[]⟩:Rul))=(L++[(⟨a,b,[],c,[],[]⟩:Rul)]).map Ru0:=by
  rw[List.set_append_right _ _ (by simp)];simp
 rw[e] at this
 simpa[Z1] using this
def goodT (b:Nat) (t:List Nod):Prop:=(∀x∈t,drN x)∧1≤t.length∧t.length≤b
theorem goodT.mono {a b:Nat} {t:List Nod} (h:goodT a t) (hab:a≤b):goodT b t:=⟨h.1,h.2.1,Nat.le_trans h.2.2 hab⟩
end Go.Gh
namespace Go.Gh
section
variable {P:Program} {cf:Cfg}
theorem gstartG {f:FuncId} {F:GFun} (hF:IsFun P f F) {cf:Cfg} {gc:GC} {gr:List GR} (hf:F=⟨cf,gc,gr⟩) {gs:List GV} {H:GH} {R:GV→GH→Prop} (hlen:gs.length≤cf.N)
 (h:GW P cf gc (GEndS gr R) (envOf gs 0) H):GCalls P f gs H R:=GCalls.start hF hf hlen (GW.mono (fun _ _ _ h=>h.ok) h)
theorem gwpS (mxd:P.follows .mixedOrders = true) {x y:GC} {Q:Exit→Env→GH→Prop} {env:Env} {H:GH} (h:gwp P cf x (thenG (GW P cf y Q) Q) env H):GW P cf (.seq x y) Q env H:=GW.seq (Y1 mxd h)
end
end Go.Gh
namespace Go.Gh
end Go.Gh
namespace Go.Gh
end Go.Gh
namespace Go.Gh
end Go.Gh
namespace Go.Gh
end Go.Gh
namespace Go.Gh
end Go.Gh
namespace Go.Gh
end Go.Gh
namespace Go.Gh
end Go.Gh
