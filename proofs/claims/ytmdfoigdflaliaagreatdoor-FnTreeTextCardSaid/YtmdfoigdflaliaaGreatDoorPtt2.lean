/- The tied card of the law holds. No condition. -/
import Derived.Test.YtmdfoigdflaliaaGreatDoorPtt1
import Derived.Shelf.Strings.IndexAnyAll
import Derived.Shelf.Small.Wraps
import Derived.KernelRfl
import Derived.Test.YtmdfoigdflaliaaGreatDoorRows
import Derived.Test.YtmdfoigdflaliaaGreatDoorChecked
import Derived.Test.YtmdfoigdflaliaaGreatDoorCards
import Derived.Test.YtmdfoigdflaliaaGreatDoorTie
set_option maxHeartbeats 40000000
set_option maxRecDepth 20000
set_option linter.unusedSimpArgs false
set_option linter.unusedVariables false

namespace Go.Gh
open Go.Lib
namespace Fo
theorem ren_wf {g:Gram}:∀(F:Fo) (i:Int) (ss:List ByteArray),F.wf g ss→(F.ren i).wf g ss
 | nil,i,[],_ => trivial
 | nil,_,_ :: _,h=>h.elim
 | cons ..,_,[],h=>h.elim
 | cons id r v ks rest,i,s::ss,h=>⟨h.1,ren_wf ks _ _ h.2.1,ren_wf rest _ _ h.2.2⟩
theorem ren_txt {g:Gram}:∀(F:Fo) (i:Int),(F.ren i).txt g=F.txt g
 | nil,_ => rfl
 | cons id r v ks rest,i=>by simp only[ren,txt,ren_txt ks,ren_txt rest]
theorem ren_vn:∀(F:Fo) (i:Int),F.vn→(F.ren i).vn
 | nil,_,_ => trivial
 | cons id r v ks rest,i,h=>⟨h.1,ren_vn ks _ h.2.1,ren_vn rest _ h.2.2⟩
theorem ren_ren:∀(F:Fo) (i:Int),(F.ren i).ren i=F.ren i
 | nil,_ => rfl
 | cons id r v ks rest,i=>by simp only[ren,ren_ren ks,ren_sz,ren_ren rest]
theorem ren_strt:∀(F:Fo) (i b:Int),(F.ren i).strt b=F.strt b
 | nil,_,_ => rfl
 | cons id r v ks rest,i,b=>by simp only[ren,strt,ren_sz,ren_strt rest]
theorem ren_one {F:Fo} (i:Int) (h:F.one):(F.ren i).one := by
 obtain ⟨a,r,l,ks,rfl⟩:=one_iff.1 h
 exact trivial
theorem ren_same:∀(F:Fo) (i b p q:Int),∀(j:Nat) (h1:j<((F.ren i).flt b p q).length) (h2:j<(F.flt b p q).length),sameNd false ((F.ren i).flt b p q)[j] (F.flt b p q)[j]=true
 | nil,i,b,p,q,j,h1,h2=>by simp[flt] at h2
 | cons id r v ks rest,i,b,p,q,j,h1,h2=>by
  simp only[ren,flt,ren_strt,ren_sz] at h1 ⊢
  simp only[flt] at h2
  cases j with
  | zero=>simp[sameNd]
  | succ j=>
   simp only[List.getElem_cons_succ]
   have k1:((ks.ren (i+1)).flt (b+1) b 1).length = (ks.flt (b+1) b 1).length := by rw[flt_len,flt_len,ren_sz]
   by_cases hj:j<(ks.flt (b+1) b 1).length
   ·rw[List.getElem_append_left (by omega),List.getElem_append_left hj]
    exact ren_same ks _ _ _ _ j _ _
   ·have h3:j-((ks.ren (i+1)).flt (b+1) b 1).length = j-(ks.flt (b+1) b 1).length := by rw[k1]
    rw[List.getElem_append_right (by omega),List.getElem_append_right (by omega)]
    have h4:=ren_same rest (i+1+ks.sz) (b+1+ks.sz) p (q+1) (j-(ks.flt (b+1) b 1).length) (by simp only[List.length_cons,List.length_append] at h1;rw[k1] at h1;omega) (by simp only[List.length_cons,List.length_append] at h2;omega)
    simp only[h3]
    exact h4
end Fo
theorem idsV_seq {t:List Nod} {i:Int} (h:seqI t i) (h1:1≤i) (h2:i+t.length≤1000):idsV t=true:=by
 refine idsV_ok fun j hj=> ?_
 have hid:=h j hj
 have hgd:t.getD j Zq=t[j]:=YS hj
 unfold gid
 rw[hgd]
 have h3:((t.take j).any fun y=>decide (y.id=t[j].id))=false:=by
  rw[List.any_eq_false]
  intro x hx hd
  have hd':=of_decide_eq_true hd
  obtain ⟨k,hk,rfl⟩:=List.mem_iff_getElem.1 hx
  rw[List.getElem_take] at hd'
  have hk2:k<j:=by have:=hk;rw[List.length_take] at this;omega
  have:=h k (by omega)
  omega
 rw[h3,decide_eq_true (by omega)]
 rfl
theorem tree_back {g:Gram} {t:List Nod} {first:Int} (h1:1≤first) (h2:first≤984) (ht:Y3 g t (symN g t 0)=true) (hn:∀x∈t,ZA x.rule=true) :
 ∃u,treeT g first (Zj g t t.length 0) u∧all2 (sameNd false) u t=true∧u.length=t.length:=by
 obtain ⟨F,f1,f2,f3,rfl⟩:=Fo.tree_fo ht
 have hl:((F.ren first).flt 0 (-1) 0).length = (F.flt 0 (-1) 0).length := by rw[Fo.flt_len,Fo.flt_len,Fo.ren_sz]
 have hsz:=Fo.flt_len F 0 (-1) 0
 have hseq:seqI ((F.ren first).flt 0 (-1) 0) first:=(ren_flt _ _ _ _ _).1 (Fo.ren_ren F first)
 have hto:=Fo.fo_tree (g:=g) (Fo.ren_one first f1) (Fo.ren_wf F first _ f2) (by rw[Fo.ren_sz];exact f3) (idsV_seq hseq h1 (by rw[hl,hsz];omega))
 have hsym:symN g ((F.ren first).flt 0 (-1) 0) 0=symN g (F.flt 0 (-1) 0) 0:=by
  obtain ⟨a,r,l,ks,rfl⟩:=Fo.one_iff.1 f1
  simp[symN,Fo.ren,Fo.flt]
 rw[←hsym] at hto
 have htx:Zj g ((F.ren first).flt 0 (-1) 0) ((F.ren first).flt 0 (-1) 0).length 0=Zj g (F.flt 0 (-1) 0) (F.flt 0 (-1) 0).length 0:=by
  have e1:=Fo.txt_one (g:=g) (Fo.ren_one first f1)
  have e2:=Fo.txt_one (g:=g) f1
  rw[Fo.ren_txt,←e2] at e1
  exact List.cons.inj e1 |>.2
 refine ⟨(F.ren first).flt 0 (-1) 0,⟨⟨h1,by omega⟩,hto,hseq,(vn_flt _ 0 (-1) 0).1 (Fo.ren_vn F first ((vn_flt F 0 (-1) 0).2 hn)),htx⟩,?_,hl⟩
 unfold all2
 rw[Bool.and_eq_true,decide_eq_true_eq]
 refine ⟨hl,List.all_eq_true.2 fun z hz=> ?_⟩
 obtain ⟨j,hj,rfl⟩:=List.mem_iff_getElem.1 hz
 rw[List.getElem_zip]
 exact Fo.ren_same F first 0 (-1) 0 j _ _
end Go.Gh
namespace Go.Gh
open Go.Lib
namespace Fo
def cnt:Fo→Nat
 | nil=>0
 | cons _ _ _ _ rest=>rest.cnt+1
theorem app_flt:∀(F G:Fo) (b p q:Int),(F.app G).flt b p q=F.flt b p q++G.flt (b+F.sz) p (q+F.cnt)
 | nil,G,b,p,q=>by simp[app,flt,sz,cnt]
 | cons i r l ks rest,G,b,p,q=>by
  have h:=app_flt rest G (b+1+ks.sz) p (q+1)
  simp only[app,flt,sz,cnt,h]
  have e1:b+1+(ks.sz:Int)+rest.sz=b+((1+ks.sz+rest.sz:Nat):Int):=by omega
  have e2:q+1+(rest.cnt:Int)=q+((rest.cnt+1:Nat):Int):=by omega
  rw[e1,e2]
  simp
theorem app_strt:∀(F G:Fo) (b:Int),(F.app G).strt b=F.strt b++G.strt (b+F.sz)
 | nil,G,b=>by simp[app,strt,sz]
 | cons i r l ks rest,G,b=>by
  have h:=app_strt rest G (b+1+ks.sz)
  simp only[app,strt,sz,h]
  have e1:b+1+(ks.sz:Int)+rest.sz=b+((1+ks.sz+rest.sz:Nat):Int):=by omega
  rw[e1]
  simp
theorem app_cnt:∀(F G:Fo),(F.app G).cnt = F.cnt+G.cnt
 | nil,G=>by simp[app,cnt]
 | cons i r l ks rest,G=>by simp only[app,cnt,app_cnt rest G];omega
theorem app_assoc:∀(F G K:Fo),(F.app G).app K=F.app (G.app K)
 | nil,_,_ => rfl
 | cons i r l ks rest,G,K=>by simp only[app,app_assoc rest G K]
theorem app_nil:∀F:Fo,F.app nil=F
 | nil=>rfl
 | cons i r l ks rest=>by simp only[app,app_nil rest]
theorem one_cnt {F:Fo} (h:F.one):F.cnt=1:=by obtain ⟨i,r,l,ks,rfl⟩:=one_iff.1 h;rfl
theorem one_strt {F:Fo} (h:F.one) (b:Int):F.strt b=[b]:=by obtain ⟨i,r,l,ks,rfl⟩:=one_iff.1 h;rfl
theorem strt_len:∀(F:Fo) (b:Int),(F.strt b).length = F.cnt
 | nil,_ => rfl
 | cons i r l ks rest,b=>by simp only[strt,List.length_cons,strt_len rest,cnt]
end Fo
theorem tw_len {p:UInt8→Bool} (l:List UInt8):(l.dropWhile p).length ≤ l.length:=by
 induction l with
 | nil=>simp
 | cons a l ih=>simp only[List.dropWhile];split<;>simp<;>omega
section
variable (g:Gram) (ni:List UInt8→Int×Bool) (first:Int)
theorem rdLit_len {b:Bool} {l:List UInt8} {v:Int×List UInt8} (h:YO ni b l=some v):v.2.length≤l.length:=by
 unfold YO at h
 split at h
 ·split at h
  ·have:=Option.some.inj h
   subst this
   rename_i l'
   have:=tw_len (p:=inW) l'
   simp only[List.length_cons];omega
  ·cases h
 ·have:=Option.some.inj h
  subst this
  exact Nat.le_refl _
theorem rdK_len:∀(f n:Nat) (l:List UInt8) (i:Nat) (F:Fo) (l':List UInt8),rdK g ni first f n l i=some (F,l')→l'.length≤l.length∧F.cnt=n
 | f,0,l,i,F,l',h=>by
  cases f<;>simp only[rdK,Option.some.injEq,Prod.mk.injEq] at h<;>obtain ⟨rfl,rfl⟩:=h<;>exact ⟨Nat.le_refl _,rfl⟩
 | 0,n+1,l,i,F,l',h=>by simp[rdK] at h
 | f+1,n+1,l,i,F,l',h=>by
  simp only[rdK] at h
  split at h
  case h_2=>cases h
  rename_i l1
  split at h
  ·cases h
  split at h
  case isFalse=>cases h
  split at h
  ·cases h
  rename_i v hv
  split at h
  case h_2=>cases h
  rename_i ks l2 hk
  split at h
  case h_2=>cases h
  rename_i rest l3 hr
  simp only[Option.some.injEq,Prod.mk.injEq] at h
  obtain ⟨rfl,rfl⟩:=h
  have h1:=rdLit_len ni hv
  have h2:=rdK_len _ _ _ _ _ _ hk
  have h3:=rdK_len _ _ _ _ _ _ hr
  have h4:=tw_len (p:=inW) l1
  simp only[List.length_cons] at h2 ⊢
  refine ⟨by omega,?_⟩
  show rest.cnt+1=n+1
  rw[h3.2]
theorem rdK_fuel:∀(f f' n:Nat) (l:List UInt8) (i:Nat),l.length≤2 * f→l.length≤2 * f'→rdK g ni first f n l i=rdK g ni first f' n l i
 | f,f',0,l,i,_,_ => by cases f<;>cases f'<;>rfl
 | 0,0,n+1,l,i,_,_ => rfl
 | 0,f'+1,n+1,l,i,h,_ => by
  have:l=[]:=List.length_eq_zero_iff.1 (by omega)
  subst this;rfl
 | f+1,0,n+1,l,i,_,h=>by
  have:l=[]:=List.length_eq_zero_iff.1 (by omega)
  subst this;rfl
 | f+1,f'+1,n+1,l,i,h,h'=>by
  simp only[rdK]
  split
  case h_2=>rfl
  rename_i l1
  simp only[List.length_cons] at h h'
  split
  ·rfl
  split
  case isFalse=>rfl
  split
  ·rfl
  rename_i v hv
  have h1:=rdLit_len ni hv
  have h4:=tw_len (p:=inW) l1
  rw[rdK_fuel f f' _ v.2 (i+1) (by omega) (by omega)]
  split
  case h_2=>rfl
  rename_i ks l2 hk
  have h2:=(rdK_len g ni first _ _ _ _ _ _ hk).1
  simp only[List.length_cons] at h2
  rw[rdK_fuel f f' _ l2 _ (by omega) (by omega)]
def kidI (n:Nat) (l:List UInt8) (i:Nat):Option (Fo×List UInt8):=rdK g ni first l.length n l i
def Y8 (l:List UInt8) (i:Nat):Option (Fo×List UInt8):=match l with
 | 40::l=>
  if i=16 then none
  else if Y6 g.rules ⟨(l.takeWhile inW).toArray⟩=true∧ZA ⟨(l.takeWhile inW).toArray⟩=true then
   match YO ni (ZH g.rules ⟨(l.takeWhile inW).toArray⟩).lit (l.dropWhile inW) with
   | none=>none
   | some v=>match kidI g ni first (ZH g.rules ⟨(l.takeWhile inW).toArray⟩).right.length v.2 (i+1) with
    | some (ks,41::l2)=>some (.cons (first+i) ⟨(l.takeWhile inW).toArray⟩ v.1 ks .nil,l2)
    | _ => none
  else none
 | _ => none
theorem kidI_zero (l:List UInt8) (i:Nat):kidI g ni first 0 l i=some (.nil,l):=by unfold kidI;cases l<;>rfl
theorem oneI_one {l:List UInt8} {i:Nat} {F:Fo} {l':List UInt8} (h:Y8 g ni first l i=some (F,l')):F.one∧l'.length+2≤l.length:=by
 unfold Y8 at h
 split at h
 case h_2=>cases h
 rename_i l1
 split at h
 ·cases h
 split at h
 case isFalse=>cases h
 split at h
 ·cases h
 rename_i v hv
 split at h
 case h_2=>cases h
 rename_i ks l2 hk
 simp only[Option.some.injEq,Prod.mk.injEq] at h
 obtain ⟨rfl,rfl⟩:=h
 have h1:=rdLit_len ni hv
 have h2:=(rdK_len g ni first _ _ _ _ _ _ hk).1
 have h4:=tw_len (p:=inW) l1
 simp only[List.length_cons] at h2 ⊢
 exact ⟨trivial,by omega⟩
theorem kidI_succ (n:Nat) (l:List UInt8) (i:Nat):kidI g ni first (n+1) l i=match l with
 | 32::l1=>match Y8 g ni first l1 i with
  | some (F,l2)=>match kidI g ni first n l2 (i+F.sz) with
   | some (r,l3)=>some (F.app r,l3)
   | none=>none
  | none=>none
 | _ => none:=by
 cases l with
 | nil=>rfl
 | cons a l1=>
  unfold kidI
  rw[List.length_cons]
  by_cases ha:a=32
  ·subst ha
   simp only[rdK,Y8]
   cases l1 with
   | nil=>rfl
   | cons b l2=>
    by_cases hb:b=40
    ·subst hb
     simp only
     split
     ·rfl
     split
     case isFalse=>rfl
     cases hv:YO ni (ZH g.rules ⟨(l2.takeWhile inW).toArray⟩).lit (l2.dropWhile inW) with
     | none=>rfl
     | some v=>
      have h1:=rdLit_len ni hv
      have h4:=tw_len (p:=inW) l2
      unfold kidI
      simp only[List.length_cons]
      rw[rdK_fuel g ni first (l2.length+1) v.2.length _ v.2 (i+1) (by omega) (by omega)]
      cases hk:rdK g ni first v.2.length (ZH g.rules ⟨(l2.takeWhile inW).toArray⟩).right.length v.2 (i+1) with
      | none=>rfl
      | some x=>
       obtain ⟨ks,l3⟩:=x
       cases l3 with
       | nil=>rfl
       | cons c l3=>
        by_cases hc:c=41
        ·subst hc
         have h2:=(rdK_len g ni first _ _ _ _ _ _ hk).1
         simp only[List.length_cons] at h2
         have e:i+1+ks.sz=i+(Fo.cons (first + ↑i) ⟨(l2.takeWhile inW).toArray⟩ v.1 ks .nil).sz := by simp only[Fo.sz];omega
         simp only
         rw[e,rdK_fuel g ni first (l2.length+1) l3.length _ l3 _ (by omega) (by omega)]
         cases rdK g ni first l3.length n l3 (i+(Fo.cons (first + ↑i) ⟨(l2.takeWhile inW).toArray⟩ v.1 ks .nil).sz) with
         | none=>rfl
         | some y=>rfl
        ·split
         ·rename_i e;exact absurd (List.cons.inj (Prod.mk.inj (Option.some.inj e)).2).1 hc
         ·split
          ·rename_i e;revert e;split
           ·rename_i e;exact absurd (List.cons.inj (Prod.mk.inj (Option.some.inj e)).2).1 hc
           ·intro e;cases e
          ·rfl
    ·split
     ·rename_i e;exact absurd (List.cons.inj (List.cons.inj e).2).1 hb
     ·split
      ·rename_i e;revert e;split
       ·rename_i e;exact absurd (List.cons.inj e).1 hb
       ·intro e;cases e
      ·rfl
  ·simp only[rdK]
   split
   ·rename_i e;exact absurd (List.cons.inj e).1 ha
   ·split
    ·rename_i e;exact absurd (List.cons.inj e).1 ha
    ·rfl
def kidP (n:Nat) (l:List UInt8) (i:Nat) (G:Fo) (j:Nat) (lj:List UInt8):Prop:=
 G.cnt=j∧j≤n∧lj.length≤l.length∧kidI g ni first n l i=(kidI g ni first (n-j) lj (i+G.sz)).map fun x=>(G.app x.1,x.2)
theorem kidP_0 (n:Nat) (l:List UInt8) (i:Nat):kidP g ni first n l i .nil 0 l:=⟨rfl,Nat.zero_le _,Nat.le_refl _,by
 show kidI g ni first n l i=(kidI g ni first n l i).map fun x=>(x.1,x.2)
 cases kidI g ni first n l i<;>rfl⟩
variable {g ni first}
theorem kidP.no {n:Nat} {l:List UInt8} {i:Nat} {G:Fo} {j:Nat} {lj:List UInt8} (h:kidP g ni first n l i G j lj) (hj:j<n) (hc:∀l1,lj=32::l1→Y8 g ni first l1 (i+G.sz)=none):kidI g ni first n l i=none:=by
 obtain ⟨h1,h2,h3,h4⟩:=h
 rw[h4]
 obtain ⟨m,hm⟩:∃m,n-j=m+1:=⟨n-j-1,by omega⟩
 rw[hm,kidI_succ]
 cases lj with
 | nil=>rfl
 | cons a l1=>
  by_cases ha:a=32
  ·subst ha
   simp only[hc l1 rfl];rfl
  ·split
   ·rename_i e;exact absurd (List.cons.inj e).1 ha
   ·rfl
theorem kidP.step {n:Nat} {l:List UInt8} {i:Nat} {G:Fo} {j:Nat} {l1 l2:List UInt8} {F:Fo} (h:kidP g ni first n l i G j (32::l1)) (hj:j<n) (hF:Y8 g ni first l1 (i+G.sz)=some (F,l2)):kidP g ni first n l i (G.app F) (j+1) l2:=by
 obtain ⟨h1,h2,h3,h4⟩:=h
 obtain ⟨k1,k2⟩:=oneI_one g ni first hF
 simp only[List.length_cons] at h3
 refine ⟨by rw[Fo.app_cnt,h1,Fo.one_cnt k1],by omega,by omega,?_⟩
 rw[h4]
 obtain ⟨m,hm⟩:∃m,n-j=m+1:=⟨n-j-1,by omega⟩
 have hm2:n-(j+1)=m:=by omega
 rw[hm,hm2,kidI_succ]
 simp only[hF]
 have e:i+(G.app F).sz = i+G.sz+F.sz:=by rw[Fo.app_sz];omega
 rw[e]
 cases kidI g ni first m l2 (i+G.sz+F.sz) with
 | none=>rfl
 | some x=>simp only[Option.map_some];rw[Fo.app_assoc]
theorem kidP.all {n:Nat} {l:List UInt8} {i:Nat} {G:Fo} {lj:List UInt8} (h:kidP g ni first n l i G n lj):kidI g ni first n l i=some (G,lj):=by
 obtain ⟨h1,h2,h3,h4⟩:=h
 rw[h4,Nat.sub_self,kidI_zero,Option.map_some,Fo.app_nil]
theorem parTI_one (s:List UInt8):YW g ni first s=if 1≤first∧first≤999 then match Y8 g ni first s 0 with
 | some (F,[])=>if Zu g (F.flt 0 (-1) 0)=s then some (F.flt 0 (-1) 0) else none
 | _ => none
 else none:=by
 have h:rdK g ni first (s.length+1) 1 (32::s) 0=Y8 g ni first s 0:=by
  have h1:=kidI_succ g ni first 0 (32::s) 0
  unfold kidI at h1
  rw[List.length_cons] at h1
  rw[h1]
  simp only
  cases h2:Y8 g ni first s 0 with
  | none=>rfl
  | some x=>
   obtain ⟨F,l2⟩:=x
   simp only
   have:rdK g ni first l2.length 0 l2 (0+F.sz)=some (.nil,l2):=kidI_zero g ni first l2 _
   rw[this]
   simp only[Fo.app_nil]
 unfold YW
 rw[h]
 rfl
end
section
variable (g:Gram) (ni:List UInt8→Int×Bool) (first:Int)
def litL (b:Bool) (l:List UInt8):List UInt8:=if b=true then ((l.dropWhile inS).drop 1).dropWhile inS else l.dropWhile inS
theorem litL_len (b:Bool) (l:List UInt8):(litL b l).length ≤ l.length:=by
 have h1:=tw_len (p:=inS) l
 have h2:=tw_len (p:=inS) ((l.dropWhile inS).drop 1)
 unfold litL
 split<;>simp only[List.length_drop] at h2<;>omega
theorem rsK_len:∀(f n:Nat) (l:List UInt8) (i:Nat) (F:Fo) (l':List UInt8),rsK g ni first f n l i=some (F,l')→l'.length≤l.length∧F.cnt=n
 | f,0,l,i,F,l',h=>by
  cases f<;>simp only[rsK,Option.some.injEq,Prod.mk.injEq] at h<;>obtain ⟨rfl,rfl⟩:=h<;>exact ⟨Nat.le_refl _,rfl⟩
 | 0,n+1,l,i,F,l',h=>by simp[rsK] at h
 | f+1,n+1,l,i,F,l',h=>by
  simp only[rsK] at h
  split at h
  case h_2=>cases h
  rename_i l1 hl
  split at h
  ·cases h
  split at h
  case isFalse=>cases h
  split at h
  case h_2=>cases h
  rename_i ks l2 hk
  split at h
  case h_2=>cases h
  rename_i rest l3 hr
  simp only[Option.some.injEq,Prod.mk.injEq] at h
  obtain ⟨rfl,rfl⟩:=h
  have h1:l1.length+1≤l.length:=by
   have:=congrArg List.length hl
   simp only[List.length_drop,List.length_cons] at this;omega
  have h2:=rsK_len _ _ _ _ _ _ hk
  have h3:=rsK_len _ _ _ _ _ _ hr
  have h4:=litL_len (ZH g.rules ⟨(l1.takeWhile inS).toArray⟩).lit l1
  unfold litL at h4
  simp only[List.length_drop] at h3
  refine ⟨by omega,?_⟩
  show rest.cnt+1=n+1
  rw[h3.2]
theorem rsK_fuel:∀(f f' n:Nat) (l:List UInt8) (i:Nat),l.length≤2 * f→l.length≤2 * f'→rsK g ni first f n l i=rsK g ni first f' n l i
 | f,f',0,l,i,_,_ => by cases f<;>cases f'<;>rfl
 | 0,0,n+1,l,i,_,_ => rfl
 | 0,f'+1,n+1,l,i,h,_ => by
  have:l=[]:=List.length_eq_zero_iff.1 (by omega)
  subst this;rfl
 | f+1,0,n+1,l,i,_,h=>by
  have:l=[]:=List.length_eq_zero_iff.1 (by omega)
  subst this;rfl
 | f+1,f'+1,n+1,l,i,h,h'=>by
  simp only[rsK]
  split
  case h_2=>rfl
  rename_i l1 hl
  have h1:l1.length+2≤l.length:=by
   have:=congrArg List.length hl
   simp only[List.length_drop,List.length_cons] at this;omega
  split
  ·rfl
  split
  case isFalse=>rfl
  have h4:=litL_len (ZH g.rules ⟨(l1.takeWhile inS).toArray⟩).lit l1
  unfold litL at h4
  rw[rsK_fuel f f' _ _ (i+1) (by omega) (by omega)]
  split
  case h_2=>rfl
  rename_i ks l2 hk
  have h2:=(rsK_len g ni first _ _ _ _ _ _ hk).1
  rw[rsK_fuel f f' _ (l2.drop 1) _ (by simp only[List.length_drop];omega) (by simp only[List.length_drop];omega)]
def kidS (n:Nat) (l:List UInt8) (i:Nat):Option (Fo×List UInt8):=rsK g ni first l.length n l i
def Y4 (l:List UInt8) (i:Nat):Option (Fo×List UInt8):=match l with
 | 40::l=>
  if first+i>1015 then none
  else if Y6 g.rules ⟨(l.takeWhile inS).toArray⟩=true then
   match kidS g ni first (ZH g.rules ⟨(l.takeWhile inS).toArray⟩).right.length (litL (ZH g.rules ⟨(l.takeWhile inS).toArray⟩).lit l) (i+1) with
   | some (ks,l2)=>some (.cons (first+i) ⟨(l.takeWhile inS).toArray⟩ (if (ZH g.rules ⟨(l.takeWhile inS).toArray⟩).lit = true then (ni (((l.dropWhile inS).drop 1).takeWhile inS)).1 else 0) ks .nil,l2.drop 1)
   | none=>none
  else none
 | _ => none
theorem kidS_zero (l:List UInt8) (i:Nat):kidS g ni first 0 l i=some (.nil,l):=by unfold kidS;cases l<;>rfl
theorem oneS_one {l:List UInt8} {i:Nat} {F:Fo} {l':List UInt8} (h:Y4 g ni first l i=some (F,l')):F.one∧l'.length+1≤l.length:=by
 unfold Y4 at h
 split at h
 case h_2=>cases h
 rename_i l1
 split at h
 ·cases h
 split at h
 case isFalse=>cases h
 split at h
 case h_2=>cases h
 rename_i ks l2 hk
 simp only[Option.some.injEq,Prod.mk.injEq] at h
 obtain ⟨rfl,rfl⟩:=h
 have h2:=(rsK_len g ni first _ _ _ _ _ _ hk).1
 have h4:=litL_len (ZH g.rules ⟨(l1.takeWhile inS).toArray⟩).lit l1
 simp only[List.length_cons,List.length_drop]
 exact ⟨trivial,by omega⟩
theorem kidS_succ (n : Nat) (l : List UInt8) (i : Nat) : kidS g ni first (n + 1) l i = match Y4 g ni first (l.drop 1) i with
      | some (F, l2) => match kidS g ni first n l2 (i + F.sz) with
        | some (r, l3) => some (F.app r, l3)
        | none => none
      | none => none := by
  cases l with
  | nil => rfl
  | cons a l1 =>
    unfold kidS
    rw [List.length_cons]
    simp only [rsK, Y4, List.drop_succ_cons, List.drop_zero]
    cases l1 with
    | nil => rfl
    | cons b l2 =>
      by_cases hb : b = 40
      · subst hb
        simp only
        split
        · rfl
        split
        case isFalse => rfl
        have h4 := litL_len (ZH g.rules ⟨(l2.takeWhile inS).toArray⟩).lit l2
        unfold kidS
        simp only [List.length_cons]
        have e0 : (if (ZH g.rules ⟨(l2.takeWhile inS).toArray⟩).lit = true then ((l2.dropWhile inS).drop 1).dropWhile inS else l2.dropWhile inS) = litL (ZH g.rules ⟨(l2.takeWhile inS).toArray⟩).lit l2 := rfl
        rw [e0, rsK_fuel g ni first (l2.length + 1) (litL (ZH g.rules ⟨(l2.takeWhile inS).toArray⟩).lit l2).length _ _ (i + 1) (by omega) (by omega)]
        cases hk : rsK g ni first (litL (ZH g.rules ⟨(l2.takeWhile inS).toArray⟩).lit l2).length (ZH g.rules ⟨(l2.takeWhile inS).toArray⟩).right.length (litL (ZH g.rules ⟨(l2.takeWhile inS).toArray⟩).lit l2) (i + 1) with
        | none => rfl
        | some x =>
          obtain ⟨ks, l3⟩ := x
          have h2 := (rsK_len g ni first _ _ _ _ _ _ hk).1
          simp only
          generalize (if (ZH g.rules ⟨(l2.takeWhile inS).toArray⟩).lit = true then (ni (((l2.dropWhile inS).drop 1).takeWhile inS)).1 else 0) = lv
          have e : i + 1 + ks.sz = i + (Fo.cons (first + ↑i) ⟨(l2.takeWhile inS).toArray⟩ lv ks .nil).sz := by simp only [Fo.sz]; omega
          rw [e, rsK_fuel g ni first (l2.length + 1) (l3.drop 1).length _ (l3.drop 1) _ (by simp only [List.length_drop]; omega) (by omega)]
          cases rsK g ni first (l3.drop 1).length n (l3.drop 1) (i + (Fo.cons (first + ↑i) ⟨(l2.takeWhile inS).toArray⟩ lv ks .nil).sz) with
          | none => rfl
          | some y => rfl
      · split
        · rename_i e; exact absurd (List.cons.inj e).1 hb
        · split
          · rename_i e; revert e; split
            · rename_i e; exact absurd (List.cons.inj e).1 hb
            · intro e; cases e
          · rfl
def kidT (n:Nat) (l:List UInt8) (i:Nat) (G:Fo) (j:Nat) (lj:List UInt8):Prop:=
 G.cnt=j∧j≤n∧lj.length≤l.length∧kidS g ni first n l i=(kidS g ni first (n-j) lj (i+G.sz)).map fun x=>(G.app x.1,x.2)
theorem kidT_0 (n:Nat) (l:List UInt8) (i:Nat):kidT g ni first n l i .nil 0 l:=⟨rfl,Nat.zero_le _,Nat.le_refl _,by
 show kidS g ni first n l i=(kidS g ni first n l i).map fun x=>(x.1,x.2)
 cases kidS g ni first n l i<;>rfl⟩
variable {g ni first}
theorem kidT.no {n:Nat} {l:List UInt8} {i:Nat} {G:Fo} {j:Nat} {lj:List UInt8} (h:kidT g ni first n l i G j lj) (hj:j<n) (hc:Y4 g ni first (lj.drop 1) (i+G.sz)=none):kidS g ni first n l i=none:=by
 obtain ⟨h1,h2,h3,h4⟩:=h
 rw[h4]
 obtain ⟨m,hm⟩:∃m,n-j=m+1:=⟨n-j-1,by omega⟩
 rw[hm,kidS_succ,hc]
 rfl
theorem kidT.step {n:Nat} {l:List UInt8} {i:Nat} {G:Fo} {j:Nat} {l1 l2:List UInt8} {F:Fo} (h:kidT g ni first n l i G j l1) (hj:j<n) (hF:Y4 g ni first (l1.drop 1) (i+G.sz)=some (F,l2)):kidT g ni first n l i (G.app F) (j+1) l2:=by
 obtain ⟨h1,h2,h3,h4⟩:=h
 obtain ⟨k1,k2⟩:=oneS_one g ni first hF
 simp only[List.length_drop] at k2
 refine ⟨by rw[Fo.app_cnt,h1,Fo.one_cnt k1],by omega,by omega,?_⟩
 rw[h4]
 obtain ⟨m,hm⟩:∃m,n-j=m+1:=⟨n-j-1,by omega⟩
 have hm2:n-(j+1)=m:=by omega
 rw[hm,hm2,kidS_succ]
 simp only[hF]
 have e:i+(G.app F).sz = i+G.sz+F.sz:=by rw[Fo.app_sz];omega
 rw[e]
 cases kidS g ni first m l2 (i+G.sz+F.sz) with
 | none=>rfl
 | some x=>simp only[Option.map_some];rw[Fo.app_assoc]
theorem kidT.all {n:Nat} {l:List UInt8} {i:Nat} {G:Fo} {lj:List UInt8} (h:kidT g ni first n l i G n lj):kidS g ni first n l i=some (G,lj):=by
 obtain ⟨h1,h2,h3,h4⟩:=h
 rw[h4,Nat.sub_self,kidS_zero,Option.map_some,Fo.app_nil]
theorem parTS_one (s:List UInt8):parTS g ni first s=if 1≤first∧first≤999 then match Y4 g ni first s 0 with
 | some (F,_)=>if s≠[]∧Zu g (F.flt 0 (-1) 0)=s then some (F.flt 0 (-1) 0) else none
 | _ => none
 else none:=by
 have h:(rsK g ni first (s.length+1) 1 (32::s) 0).map (·.1)=(Y4 g ni first s 0).map (·.1):=by
  have h1:=kidS_succ g ni first 0 (32::s) 0
  unfold kidS at h1
  rw[List.length_cons] at h1
  rw[h1]
  simp only[List.drop_succ_cons,List.drop_zero]
  cases h2:Y4 g ni first s 0 with
  | none=>rfl
  | some x=>
   obtain ⟨F,l2⟩:=x
   simp only
   have:rsK g ni first l2.length 0 l2 (0+F.sz)=some (.nil,l2):=kidS_zero g ni first l2 _
   rw[this]
   simp only[Fo.app_nil,Option.map_some]
 unfold parTS
 cases h1:rsK g ni first (s.length+1) 1 (32::s) 0 with
 | none=>
  rw[h1] at h
  cases h2:Y4 g ni first s 0 with
  | none=>rfl
  | some x=>rw[h2] at h;cases h
 | some x=>
  rw[h1] at h
  cases h2:Y4 g ni first s 0 with
  | none=>rw[h2] at h;cases h
  | some y=>
   rw[h2] at h
   have:x.1=y.1:=Option.some.inj h
   obtain ⟨x1,x2⟩:=x
   obtain ⟨y1,y2⟩:=y
   simp only at this
   subst this
   rfl
end
end Go.Gh
namespace Go.Gh
open Go.Lib
def asc (l:List UInt8):Prop:=∀c∈l,c.toNat<128
theorem asc.of {l l':List UInt8} (h:asc l) (hs:∀c∈l',c∈l):asc l':=fun c hc=>h c (hs c hc)
theorem asc.tl {a:UInt8} {l:List UInt8} (h:asc (a::l)):asc l:=fun c hc=>h c (by simp[hc])
theorem asc.dw {p:UInt8→Bool} {l:List UInt8} (h:asc l):asc (l.dropWhile p):=fun c hc=>h c ((List.dropWhile_sublist p).subset hc)
theorem asc.drop {l:List UInt8} (h:asc l) (n:Nat):asc (l.drop n):=fun c hc=>h c (List.mem_of_mem_drop hc)
def skp (c:UInt8):List UInt8→List UInt8×Bool
 | []=>([],false)
 | a::l=>if a=c then (l,true) else (a::l,false)
theorem skp_hit (c:UInt8) (l:List UInt8):skp c (c::l)=(l,true):=by simp[skp]
theorem skp_miss {c:UInt8} {l:List UInt8} (h:∀t,l≠c::t):skp c l=(l,false):=by
 cases l with
 | nil=>rfl
 | cons a l=>simp only[skp];rw[if_neg fun e=>h l (by rw[e])]
theorem skp_cases (c:UInt8) (l:List UInt8):(∃t,l=c::t∧skp c l=(t,true))∨(∀t,l≠c::t)∧skp c l=(l,false):=by
 by_cases h:∃t,l=c::t
 ·obtain ⟨t,rfl⟩:=h;exact .inl ⟨t,rfl,skp_hit c t⟩
 ·exact .inr ⟨fun t e=>h ⟨t,e⟩,skp_miss fun t e=>h ⟨t,e⟩⟩
theorem skp_eq (c:UInt8) (l:List UInt8):(trimPrefix l [c],hasPrefix l [c])=skp c l:=by
 cases l with
 | nil=>rfl
 | cons a l=>
  simp only[skp]
  by_cases h:a=c
  ·subst h;simp[trimPrefix,hasPrefix]
  ·have:hasPrefix (a::l) [c]=false:=by simp only[hasPrefix,List.isPrefixOf,Bool.and_eq_false_iff,beq_eq_false_iff_ne];exact .inl fun e=>h e.symm
   unfold trimPrefix
   rw[if_neg h,this]
   rfl
theorem ixa_eq (l:List UInt8):indexAny l [32,41]=if (l.takeWhile inW).length = l.length then -1 else ((l.takeWhile inW).length : Int):=by
 induction l with
 | nil=>rfl
 | cons a l ih=>
  simp only[indexAny]
  by_cases h:inW a=true
  ·have h1:([32,41]:List UInt8).contains a=false:=by
    simp only[inW,Bool.not_eq_true',Bool.or_eq_false_iff,decide_eq_false_iff_not] at h
    simp only[List.contains_cons,List.contains_nil,Bool.or_false,Bool.or_eq_false_iff,beq_eq_false_iff_ne]
    exact h
   have hl:=(List.takeWhile_sublist inW (l:=l)).length_le
   rw[h1,if_neg (by decide),ih,List.takeWhile_cons,if_pos h]
   simp only[List.length_cons,Nat.add_right_cancel_iff]
   split
   ·simp
   ·simp only[beq_iff_eq]
    rw[if_neg (by omega)]
    omega
  ·have h1:([32,41]:List UInt8).contains a=true:=by
    simp only[inW,Bool.not_eq_true',Bool.not_eq_false,Bool.or_eq_true,decide_eq_true_eq] at h
    simp only[List.contains_cons,List.contains_nil,Bool.or_false,Bool.or_eq_true,beq_iff_eq]
    exact h
   rw[h1,if_pos rfl,List.takeWhile_cons,if_neg h]
   simp
theorem tw_take {p:UInt8→Bool} (l:List UInt8):l.take (l.takeWhile p).length = l.takeWhile p∧l.drop (l.takeWhile p).length = l.dropWhile p:=by
 induction l with
 | nil=>exact ⟨rfl,rfl⟩
 | cons a l ih=>
  simp only[List.takeWhile_cons,List.dropWhile_cons]
  split
  ·simp[ih.1,ih.2]
  ·simp
abbrev RdG (a b:GV) (l:List UInt8) (f:Int) (X:GV):GV:= .agg [a,b,T (bA l),I f,X]
def ndK (x:Nod) (G:Fo) (i:Nat):List Nod:={ x with kids:=G.strt (i+1:Nat) }::G.flt (i+1:Nat) i 1
theorem ndK_len (x:Nod) (G:Fo) (i:Nat):(ndK x G i).length = 1+G.sz:=by simp only[ndK,List.length_cons,Fo.flt_len];omega
theorem ndK_app {x:Nod} {G F:Fo} {i j:Nat} (hG:G.cnt=j) (hF:F.one):ndK x (G.app F) i={ x with kids:=G.strt (i+1:Nat)++[((i+1+G.sz:Nat):Int)] }::(G.flt (i+1:Nat) i 1++F.flt ((i+1+G.sz:Nat):Int) i ((j:Int)+1)):=by
 unfold ndK
 rw[Fo.app_strt,Fo.app_flt,Fo.one_strt hF,hG]
 have e1:((i+1:Nat):Int)+(G.sz:Int)=((i+1+G.sz:Nat):Int):=by omega
 have e2:(1:Int)+(j:Int)=(j:Int)+1:=by omega
 rw[e1,e2]
section
variable {g:Gram} {ni:List UInt8→Int×Bool} {first:Int}
theorem oneI_no {l:List UInt8} {i:Nat} (h:∀t,l≠40::t):Y8 g ni first l i=none:=by
 unfold Y8
 split
 ·rename_i t;exact absurd rfl (h t)
 ·rfl
theorem oneI_16 (l:List UInt8):Y8 g ni first l 16=none:=by
 unfold Y8
 split
 ·rw[if_pos rfl]
 ·rfl
theorem oneI_bad {l:List UInt8} {i:Nat} (h:¬(Y6 g.rules (bA (l.takeWhile inW))=true∧ZA (bA (l.takeWhile inW))=true)):Y8 g ni first (40::l) i=none:=by
 have h':¬(Y6 g.rules ⟨(l.takeWhile inW).toArray⟩=true∧ZA ⟨(l.takeWhile inW).toArray⟩=true):=h
 unfold Y8
 simp only
 rw[if_neg h']
 split<;>rfl
theorem oneI_lit {l:List UInt8} {i:Nat} (h:YO ni (ZH g.rules (bA (l.takeWhile inW))).lit (l.dropWhile inW)=none):Y8 g ni first (40::l) i=none:=by
 unfold Y8
 simp only
 split
 ·rfl
 ·split
  ·rw[show (⟨(l.takeWhile inW).toArray⟩:ByteArray)=bA (l.takeWhile inW) from rfl,h]
  ·rfl
theorem oneI_kids {l:List UInt8} {i:Nat} {v:Int×List UInt8} (hi:¬i=16) (hr:Y6 g.rules (bA (l.takeWhile inW))=true) (hn:ZA (bA (l.takeWhile inW))=true) (h:YO ni (ZH g.rules (bA (l.takeWhile inW))).lit (l.dropWhile inW)=some v) :
 Y8 g ni first (40::l) i=match kidI g ni first (ZH g.rules (bA (l.takeWhile inW))).right.length v.2 (i+1) with
  | some (ks,41::l2)=>some (.cons (first+i) (bA (l.takeWhile inW)) v.1 ks .nil,l2)
  | _ => none:=by
 have hr':Y6 g.rules ⟨(l.takeWhile inW).toArray⟩=true∧ZA ⟨(l.takeWhile inW).toArray⟩=true:=⟨hr,hn⟩
 have h':YO ni (ZH g.rules ⟨(l.takeWhile inW).toArray⟩).lit (l.dropWhile inW)=some v:=h
 conv=>lhs;unfold Y8
 simp only
 rw[if_neg hi,if_pos hr',h']
 all_goals rfl
theorem oneI_knone {l:List UInt8} {i:Nat} {v:Int×List UInt8} (hi:¬i=16) (hr:Y6 g.rules (bA (l.takeWhile inW))=true) (hn:ZA (bA (l.takeWhile inW))=true) (h:YO ni (ZH g.rules (bA (l.takeWhile inW))).lit (l.dropWhile inW)=some v)
 (hk:kidI g ni first (ZH g.rules (bA (l.takeWhile inW))).right.length v.2 (i+1)=none):Y8 g ni first (40::l) i=none:=by
 rw[oneI_kids hi hr hn h,hk]
theorem oneI_end {l:List UInt8} {i:Nat} {v:Int×List UInt8} {ks:Fo} {l2:List UInt8} (hi:¬i=16) (hr:Y6 g.rules (bA (l.takeWhile inW))=true) (hn:ZA (bA (l.takeWhile inW))=true) (h:YO ni (ZH g.rules (bA (l.takeWhile inW))).lit (l.dropWhile inW)=some v)
 (hk:kidI g ni first (ZH g.rules (bA (l.takeWhile inW))).right.length v.2 (i+1)=some (ks,l2)) :
 ((∃t,l2=41::t∧Y8 g ni first (40::l) i=some (.cons (first+i) (bA (l.takeWhile inW)) v.1 ks .nil,t)))∨(∀t,l2≠41::t)∧Y8 g ni first (40::l) i=none:=by
 rw[oneI_kids hi hr hn h,hk]
 by_cases he:∃t,l2=41::t
 ·obtain ⟨t,rfl⟩:=he;exact .inl ⟨t,rfl,rfl⟩
 ·refine .inr ⟨fun t e=>he ⟨t,e⟩,?_⟩
  split
  ·rename_i e
   exact absurd ⟨_,(Prod.mk.inj (Option.some.inj e)).2⟩ he
  ·rfl
end
end Go.Gh
namespace Go.Gh
open Go.Lib
def stu (s:ByteArray):Prop:=s=⟨#[115]⟩∨s=⟨#[116]⟩∨s=⟨#[117]⟩
def shN (r:Rul):Prop:=shR0 r∧ZA r.name=true
def drV (g:Gram):Prop:=drG g∧∀r∈g.rules,ZA r.name=true
theorem mkS_ch (l:List UInt8):∃s:ByteArray,GV.val (mkS l)=T s∧s.size=l.length∧Z6 s=l:=⟨bA l,rfl,by show l.toArray.size = _;simp,chA l⟩
theorem mkS_nm {l:List UInt8} (h:ZA (bA l)=true):∃s:ByteArray,GV.val (mkS l)=T s∧s.size=l.length∧ZA s=true:=⟨bA l,rfl,by show l.toArray.size = _;simp,h⟩
theorem leaf_nm {s:ByteArray} (h:stu s):ZA (bA (Z6 (ByteArray.mk #[108,101,97,102])++Z6 s))=true:=by
 rcases h with rfl|rfl|rfl<;>decide
theorem p_nm {s n5:ByteArray} (h:stu s) (h5:Z6 n5=Z6 (ByteArray.mk #[112])++Z6 s) {k:Nat} (hk:k<2):ZA (bA (Z6 n5++Z6 (ByteArray.mk #[UInt8.ofNat (48+k)])))=true:=by
 rw[h5]
 have:k=0∨k=1:=by omega
 rcases this with rfl|rfl<;>rcases h with rfl|rfl|rfl<;>decide
theorem asc.app {a b:List UInt8} (h:asc a) (k:asc b):asc (a++b):=fun c hc=>(List.mem_append.1 hc).elim (h c) (k c)
theorem asc.take {l:List UInt8} (h:asc l) (n:Nat):asc (l.take n):=fun c hc=>h c (List.mem_of_mem_take hc)
def ltA (n:Nat):List GV→Bool
 | []=>true
 | .val (.string s)::l=>decide (s.size≤n)&&((Z6 s).all fun c=>decide (c.toNat<128))&&ltA n l
 | _ => false
theorem ltA_mem {n:Nat}:∀{l:List GV},ltA n l=true→∀{g:GV},g∈l→∃t:ByteArray,(Z6 t).length ≤ n∧asc (Z6 t)∧g=T t
 | [],_,g,h=>by cases h
 | .val (.string s)::l,hl,g,h=>by
  simp only[ltA,Bool.and_eq_true,decide_eq_true_eq,List.all_eq_true] at hl
  rcases List.mem_cons.1 h with rfl|h
  ·exact ⟨s,by rw[←Zo];exact hl.1.1,hl.1.2,rfl⟩
  ·exact ltA_mem hl.2 h
def jvN (b:Nat) (k i:Nat) (x:Nod):Nod:=⟨x.id,if i=0 then 0 else IntKind.i64.wrap (x.parent+(b:Int)),if i=0 then (k:Int)+1 else x.place,x.lit,x.rule,x.kids.map fun c=>IntKind.i64.wrap (c+(b:Int))⟩
def jvT (b:Nat) (k:Nat) (t:List Nod):List Nod:=t.mapIdx fun i x=>jvN b k i x
def jnL (ks:List (List Nod)):Nat→List Nod
 | 0=>[]
 | k+1=>jnL ks k++jvT ((jnL ks k).length + 1) k (ks.getD k [])
def jnK (ks:List (List Nod)):Nat→List Int
 | 0=>[]
 | k+1=>jnK ks k++[(((jnL ks k).length + 1:Nat):Int)]
theorem jnK_len (ks:List (List Nod)):∀k,(jnK ks k).length = k
 | 0=>rfl
 | k+1=>by simp[jnK,jnK_len ks k]
theorem jvT_len (b k:Nat) (t:List Nod):(jvT b k t).length = t.length:=by simp[jvT]
theorem jvT_step {b k:Nat} {t:List Nod} {i:Nat} (h:i<t.length):(jvT b k t).take (i+1)=(jvT b k t).take i++[jvN b k i t[i]]:=by
 have h':i<(jvT b k t).length := by rw[jvT_len];exact h
 rw[List.take_succ_eq_append_getElem h']
 simp[jvT]
theorem jnL_succ {ks:List (List Nod)} {k:Nat} (h:k<ks.length):jnL ks (k+1)=jnL ks k++jvT ((jnL ks k).length + 1) k ks[k]:=by
 simp only[jnL]
 rw[List.getD_eq_getElem?_getD,List.getElem?_eq_getElem h];rfl
theorem jnL_len {ks:List (List Nod)} (h:∀t∈ks,t.length≤100000):∀k,(jnL ks k).length ≤ k * 100000
 | 0=>by simp[jnL]
 | k+1=>by
  have ih:=jnL_len h k
  have:(ks.getD k []).length ≤ 100000:=by
   rw[List.getD_eq_getElem?_getD]
   by_cases hk:k<ks.length
   ·rw[List.getElem?_eq_getElem hk];exact h _ (List.getElem_mem hk)
   ·rw[List.getElem?_eq_none (by omega)];simp
  simp only[jnL,List.length_append,jvT_len]
  omega
end Go.Gh
namespace Go.Gh
open Go.Lib
theorem dw_mem {p:UInt8→Bool} {l:List UInt8} {c:UInt8} (h:c∈l.dropWhile p):c∈l:=(List.dropWhile_sublist p).subset h
section
variable {g:Gram} {ni:List UInt8→Int×Bool} {first:Int}
theorem rdLit_mem {b:Bool} {l:List UInt8} {v:Int×List UInt8} (h:YO ni b l=some v):∀c∈v.2,c∈l:=by
 unfold YO at h
 split at h
 ·split at h
  ·have:=Option.some.inj h
   subst this
   intro c hc
   exact List.mem_cons_of_mem _ (dw_mem hc)
  ·cases h
 ·have:=Option.some.inj h
  subst this
  exact fun c hc=>hc
theorem rdK_mem:∀(f n:Nat) (l:List UInt8) (i:Nat) (F:Fo) (l':List UInt8),rdK g ni first f n l i=some (F,l')→(∀c∈l',c∈l)∧(i≤16→i+F.sz≤16)
 | f,0,l,i,F,l',h=>by
  cases f<;>simp only[rdK,Option.some.injEq,Prod.mk.injEq] at h<;>obtain ⟨rfl,rfl⟩:=h<;>exact ⟨fun c hc=>hc,fun h=>h⟩
 | 0,n+1,l,i,F,l',h=>by simp[rdK] at h
 | f+1,n+1,l,i,F,l',h=>by
  simp only[rdK] at h
  split at h
  case h_2=>cases h
  rename_i l1
  split at h
  ·cases h
  rename_i hi
  split at h
  case isFalse=>cases h
  split at h
  ·cases h
  rename_i v hv
  split at h
  case h_2=>cases h
  rename_i ks l2 hk
  split at h
  case h_2=>cases h
  rename_i rest l3 hr
  simp only[Option.some.injEq,Prod.mk.injEq] at h
  obtain ⟨rfl,rfl⟩:=h
  have h1:=rdLit_mem hv
  have h2:=rdK_mem _ _ _ _ _ _ hk
  have h3:=rdK_mem _ _ _ _ _ _ hr
  refine ⟨fun c hc=> ?_,fun h0=> ?_⟩
  ·have e:=h1 c (h2.1 c (List.mem_cons_of_mem _ (h3.1 c hc)))
   simp[dw_mem e]
  ·have e2:=h2.2 (by omega)
   have e3:=h3.2 e2
   simp only[Fo.sz]
   omega
theorem oneI_mem {l:List UInt8} {i:Nat} {F:Fo} {l':List UInt8} (h:Y8 g ni first l i=some (F,l')):(∀c∈l',c∈l)∧(i≤16→i+F.sz≤16):=by
 unfold Y8 at h
 split at h
 case h_2=>cases h
 rename_i l1
 split at h
 ·cases h
 split at h
 case isFalse=>cases h
 split at h
 ·cases h
 rename_i v hv
 split at h
 case h_2=>cases h
 rename_i ks l2 hk
 simp only[Option.some.injEq,Prod.mk.injEq] at h
 obtain ⟨rfl,rfl⟩:=h
 have h1:=rdLit_mem hv
 have h2:=rdK_mem _ _ _ _ _ _ hk
 refine ⟨fun c hc=> ?_,fun h0=> ?_⟩
 ·have e:=h1 c (h2.1 c (List.mem_cons_of_mem _ hc))
  simp[dw_mem e]
 ·have e2:=h2.2 (by omega)
  simp only[Fo.sz]
  omega
end
def ndR (g:Gram) (f:Int) (l:List UInt8) (ns:List Nod) (p pl:Int) (rp:Nat) (H:GH) (r:GV) (H':GH):Prop:=
 (Y8 g niN f l ns.length=none∧r=B false∧∃X z,H'=X++(rp,5,z)::H) ∨
 ∃F l2 q,Y8 g niN f l ns.length=some (F,l2)∧r=B true∧H'=(q,6,(ns++F.flt ns.length p pl).map NdO)::(rp,5,[RdG (SyS g.syms) (RuS g.rules) l2 f (.own q 6 0 (ns.length+F.sz))])::H
theorem ndE_at (ns:List Nod) (x:Nod) (G:Fo):((ns++ndK x G ns.length).map NdO)[ns.length]? = some (.agg [I x.id,I x.parent,I x.place,I x.lit,T x.rule,.osl 1 ((G.strt (ns.length+1:Nat)).map I)]):=by
 rw[List.getElem?_map,List.getElem?_append_right (Nat.le_refl _),Nat.sub_self]
 rfl
theorem ndE_set (ns:List Nod) (x:Nod) (G:Fo) (k:List Int):((ns++ndK x G ns.length).map NdO).set ns.length (.agg [I x.id,I x.parent,I x.place,I x.lit,T x.rule,.osl 1 (k.map I)])=(ns++({ x with kids:=k }::G.flt (ns.length+1:Nat) ns.length 1)).map NdO:=by
 have h:((ns++ndK x G ns.length).map NdO)=ns.map NdO++(ndK x G ns.length).map NdO:=List.map_append
 rw[h,List.set_append_right _ _ (by simp),List.length_map,Nat.sub_self,List.map_append]
 rfl
theorem ndE_len (ns:List Nod) (x:Nod) (G:Fo):((ns++ndK x G ns.length).map NdO).length = ns.length+1+G.sz:=by
 rw[List.length_map,List.length_append,ndK_len];omega
theorem ndK_nil (x:Nod) (i:Nat) (h:x.kids=[]):ndK x .nil i=[x]:=by
 cases x
 simp only at h
 subst h
 rfl
theorem FE.nilK {env:Env} {H:GH} {r sz:Nat} {L:List GV} {a b c d e:GV}:FE env ((r,sz,L++[.agg [a,b,c,d,e,ZE]])::H) env ((r,sz,L++[.agg [a,b,c,d,e,.osl 1 []]])::H):=by
 obtain ⟨v,hv,hvn⟩:=vfresh (names ((r,sz,L++[.agg [a,b,c,d,e,ZE]])::H))
 have hne:¬r=v:=fun h=>hvn (by rw[←h];exact List.mem_cons_self)
 have h1:FE env ((r,sz,L++[.agg [a,b,c,d,e,ZE]])::H) env ((v,1,[])::(r,sz,L++[.agg [a,b,c,d,e,.own v 1 0 0]])::H):=by
  have:=FE.virtF (env:=env) (H:=(r,sz,L++[.agg [a,b,c,d,e,ZE]])::H) (r:=r) (sz:=sz) (sz1:=1) (i:=L.length) (j:=5) (es:=L++[.agg [a,b,c,d,e,ZE]]) (gs:=[a,b,c,d,e,ZE]) ZX (by simp) rfl hv hvn
  rw[YR] at this
  simpa using this
 exact FE.trans h1 (FE.trans FE.swap (FE.closeL2 (j:=5) hne rfl rfl))
theorem kpt_rd {rp:Nat} {a b:GV} {l l':List UInt8} {f:Int} {X:GV} {H H':GH} (h:ZW H rp=some (5,[RdG a b l f X])) (h':ZW H' rp=some (5,[RdG a b l' f X])):kptF (some (.ptr rp 5 0 0)) 3 H H':=by
 intro n ag
 simp only[fldV,h,h',if_true,List.getElem?_cons_zero]
 simp[YU,sub]
theorem flt_one1 (i:Nat) (f p pl lt:Int) (W:ByteArray) (G:Fo):(Fo.cons f W lt G .nil).flt i p pl=ndK ⟨f,p,pl,lt,W,[]⟩ G i:=by
 simp[Fo.flt,ndK]
theorem sz_one1 (f lt:Int) (W:ByteArray) (G:Fo):(Fo.cons f W lt G .nil).sz = 1+G.sz:=by simp[Fo.sz]
theorem rdLit_f (l:List UInt8):YO niN false l=some (0,l):=by simp[YO]
theorem rdLit_t (l:List UInt8):YO niN true (32::l)=some ((niN (l.takeWhile inW)).1,l.dropWhile inW):=by simp[YO]
theorem rdLit_n {l:List UInt8} (h:∀t,l≠32::t):YO niN true l=none:=by
 unfold YO
 rw[if_pos rfl]
 split
 ·rename_i t;exact absurd rfl (h t)
 ·rfl
end Go.Gh
namespace Go.Gh
open Go.Lib
namespace Fo
theorem cnt_le:∀F:Fo,F.cnt≤F.sz
 | nil=>Nat.le_refl _
 | cons i r l ks rest=>by have:=cnt_le rest;simp only[cnt,sz];omega
theorem flt_kids:∀(F:Fo) (b p q:Int),∀x∈F.flt b p q,x.kids.length≤F.sz
 | nil,_,_,_,x,h=>by cases h
 | cons i r l ks rest,b,p,q,x,h=>by
  simp only[flt,List.mem_cons,List.mem_append] at h
  simp only[sz]
  rcases h with rfl|h|h
  ·have h1:=cnt_le ks
   have h2:=strt_len ks (b+1)
   show (ks.strt (b+1)).length ≤ _
   omega
  ·have:=flt_kids ks _ _ _ x h;omega
  ·have:=flt_kids rest _ _ _ x h;omega
end Fo
section
variable {g:Gram} {ni:List UInt8→Int×Bool} {first:Int}
theorem oneI_vn {l:List UInt8} {i:Nat} {F:Fo} {l2:List UInt8} (h:Y8 g ni first l i=some (F,l2)):F.vn:=by
 have h1:=kidI_succ g ni first 0 (32::l) i
 simp only[h,kidI_zero,Fo.app_nil] at h1
 unfold kidI at h1
 exact (rdK_snd _ _ _ _ _ _ h1).2
theorem vn_len {F:Fo} (h:F.vn) (b p q:Int):∀x∈F.flt b p q,(Z6 x.rule).length ≤ 1048576:=fun x hx=>by
 have:=nmV_len ((vn_flt F b p q).1 h x hx)
 omega
end
theorem bor_TrK {H:GH} {q n:Nat} {t:List Nod} (k:ZW H q=some (6,t.map NdO)) (h:t.length=n):Bor H (.agg [.own q 6 0 n]) (Tr t):=
 .agg (.cons (Bor.seen (f:=NdO) (fun a=>by simp[view,Zl,Zv]) k h) .nil)
def sgnB (l:List UInt8):Bool:=decide (l.head?=some 45)
def sgnT (l:List UInt8):List UInt8:=if l.head?=some 45 then l.drop 1 else l
theorem sgn_hit (t:List UInt8):sgnB (45::t)=true∧sgnT (45::t)=t:=by simp[sgnB,sgnT]
theorem sgnB_at {l:List UInt8} (hz:Int.toNat 0<l.length):sgnB l=decide ((l[Int.toNat 0].toNat : Int)=45):=by
 cases l with
 | nil=>simp at hz
 | cons c u=>
  simp only[sgnB,List.head?_cons,Option.some.injEq,Int.toNat_zero,List.getElem_cons_zero]
  exact decide_eq_decide.2 ⟨fun h=>by rw[h];rfl,fun h=>by apply UInt8.toNat_inj.1;simp;omega⟩
theorem itoa_sgn (n:Int):(∀c∈sgnT (itoa n),Zr c=true)∧sgnT (itoa n)≠[]∧(n.natAbs≤999999999999→(sgnT (itoa n)).length ≤ 12):=by
 have hd:=dec_dig n.natAbs
 have key:sgnT (itoa n)=decDigits n.natAbs:=by
  by_cases h:n<0
  ·have e:itoa n=45::decDigits n.natAbs:=by unfold itoa;rw[if_pos h]
   rw[e];exact (sgn_hit _).2
  ·have e:itoa n=decDigits n.natAbs:=by unfold itoa;rw[if_neg h,show n.toNat=n.natAbs by omega]
   rw[e]
   unfold sgnT
   rw[if_neg]
   intro h1
   cases hx:decDigits n.natAbs with
   | nil=>rw[hx] at h1;cases h1
   | cons c t=>
    rw[hx] at h1
    have hc:=digV_rng (hd.1 c (by rw[hx];simp))
    have:c=45:=Option.some.inj h1
    subst this
    revert hc;decide
 rw[key]
 refine ⟨hd.1,hd.2,fun h=> ?_⟩
 rw[decDigits_length]
 exact nDigits_le 11 _ (by omega)
theorem niN_no {l:List UInt8} (h:(∃c∈sgnT l,Zr c=false)∨sgnT l=[]∨12<(sgnT l).length):niN l=(0,false):=by
 refine rdN_no fun n h1 h2 e=> ?_
 obtain ⟨k1,k2,k3⟩:=itoa_sgn n
 rw[e] at k1 k2 k3
 rcases h with ⟨c,hc,hd⟩|h|h
 ·rw[k1 c hc] at hd;cases hd
 ·exact k2 h
 ·have:=k3 (by omega);omega
theorem sgnV_eq {l:List UInt8} (h:sgnT l≠[]):sgnV l=if sgnB l=true then -(Zh (sgnT l)) else Zh (sgnT l):=by
 cases l with
 | nil=>exact absurd rfl h
 | cons c t=>
  by_cases hc:c=45
  ·subst hc
   rw[(sgn_hit t).1,(sgn_hit t).2]
   simp[sgnV]
  ·simp[sgnV,sgnB,sgnT,hc]
theorem niN_yes {l:List UInt8} (h1:∀c∈sgnT l,Zr c=true) (h2:sgnT l≠[]) (h3:(sgnT l).length ≤ 12) {n:Int} (hn:n=if sgnB l=true then -(Zh (sgnT l)) else Zh (sgnT l)):niN l=if itoa n=l then (n,true) else (0,false):=by
 have hb:=valD_bd _ h1
 have hp:=pow13 h3
 rw[←sgnV_eq h2] at hn
 have hs:=sgnV_eq h2
 have : -999999999999≤n∧n≤999999999999:=by
  rw[hn,hs]
  split<;>omega
 unfold niN rdN
 rw[←hn]
 by_cases he:itoa n=l
 ·rw[if_pos he,if_pos ⟨he,this⟩]
 ·rw[if_neg he,if_neg fun h=>he h.1]
theorem inS_int {c:UInt8} (h:inS c=true):¬(c.toNat:Int)=32∧¬(c.toNat:Int)=41∧¬(c.toNat:Int)=40:=by
 refine ⟨fun e=> ?_,fun e=> ?_,fun e=> ?_⟩
 ·have:c=32:=by apply UInt8.toNat_inj.1;simp;omega
  subst this;revert h;decide
 ·have:c=41:=by apply UInt8.toNat_inj.1;simp;omega
  subst this;revert h;decide
 ·have:c=40:=by apply UInt8.toNat_inj.1;simp;omega
  subst this;revert h;decide
theorem inS_no {c:UInt8} (h:¬inS c=true):(c.toNat:Int)=32∨(c.toNat:Int)=41∨(c.toNat:Int)=40:=by
 simp only[inS,Bool.not_eq_true',Bool.not_eq_false,Bool.or_eq_true,decide_eq_true_eq] at h
 rcases h with (rfl|rfl)|rfl
 ·exact .inl rfl
 ·exact .inr (.inl rfl)
 ·exact .inr (.inr rfl)
theorem tw_stop {α:Type} {p:α→Bool}:∀{l:List α} {k:Nat},(∀c∈l.take k,p c=true)→∀(h:k<l.length),p l[k]=false→l.takeWhile p=l.take k
 | [],k,_,h,_ => by simp at h
 | a::l,0,_,_,hp=>by simp only[List.getElem_cons_zero] at hp;simp[hp]
 | a::l,k+1,h1,h,hp=>by
  have ha:p a=true:=h1 a (by simp)
  simp only[List.length_cons] at h
  simp only[List.getElem_cons_succ] at hp
  rw[List.takeWhile_cons,if_pos ha,List.take_succ_cons,tw_stop (fun c hc=>h1 c (by rw[List.take_succ_cons];exact List.mem_cons_of_mem _ hc)) (by omega) hp]
theorem tw_allS {α:Type} {p:α→Bool}:∀{l:List α} {k:Nat},(∀c∈l.take k,p c=true)→l.length≤k→l.takeWhile p=l.take k
 | [],k,_,_ => by simp
 | a::l,0,_,h=>by simp at h
 | a::l,k+1,h1,h=>by
  have ha:p a=true:=h1 a (by simp)
  simp only[List.length_cons] at h
  rw[List.takeWhile_cons,if_pos ha,List.take_succ_cons,tw_allS (fun c hc=>h1 c (by rw[List.take_succ_cons];exact List.mem_cons_of_mem _ hc)) (by omega)]
end Go.Gh
namespace Go.Gh
open Go.Lib
theorem asc_itoa (n:Int):asc (itoa n):=by
 have hd:=dec_dig n.natAbs
 have hd2:=dec_dig n.toNat
 have h:∀c:UInt8,Zr c=true→c.toNat<128:=fun c hc=>by
  simp only[Zr,Bool.and_eq_true,decide_eq_true_eq] at hc
  omega
 intro c hc
 unfold itoa at hc
 split at hc
 ·rcases List.mem_cons.1 hc with rfl|hc
  ·decide
  ·exact h c (hd.1 c hc)
 ·exact h c (hd2.1 c hc)
theorem txtN_asc {g:Gram} {t:List Nod} (hn:∀x∈t,asc (Z6 x.rule)):∀f i,asc (Zj g t f i)
 | 0,_ => fun c hc=>by cases hc
 | f+1,i=>by
  have hr:asc (Z6 (t.getD i Zq).rule):=by
   rcases Nat.lt_or_ge i t.length with h|h
   ·have e:t.getD i Zq=t[i]:=by simp[List.getD,h]
    rw[e];exact hn _ (List.getElem_mem h)
   ·have e:t.getD i Zq=Zq:=by simp[List.getD,h]
    rw[e];intro c hc;cases hc
  unfold Zj
  refine asc.app (asc.app ?_ ?_) (asc.app ?_ ?_)
  ·intro c hc
   rcases List.mem_cons.1 hc with rfl|hc
   ·decide
   ·exact hr c hc
  ·split
   ·intro c hc
    rcases List.mem_cons.1 hc with rfl|hc
    ·decide
    ·exact asc_itoa _ c hc
   ·intro c hc;cases hc
  ·intro c hc
   obtain ⟨k,_,hk⟩:=List.mem_flatMap.1 hc
   rcases List.mem_cons.1 hk with rfl|hk
   ·decide
   ·exact txtN_asc hn f k.toNat c hk
  ·intro c hc
   rcases List.mem_singleton.1 hc with rfl
   decide
theorem fmtT0_asc {g:Gram} {t:List Nod} (hn:∀x∈t,asc (Z6 x.rule)):asc (Zu g t):=by
 unfold Zu
 split
 ·exact txtN_asc hn _ _
 ·intro c hc;cases hc
theorem fmtT0_ascV {g:Gram} {t:List Nod} (hg:∀r∈g.rules,ZA r.name=true):asc (Zu g t):=by
 by_cases h:Y3 g t (symN g t 0)=true
 ·refine fmtT0_asc fun x hx c hc=> ?_
  obtain ⟨j,hj,rfl⟩:=List.getElem_of_mem hx
  have:=nameV_mem (hr_name hg (tree_node h hj).1) c hc
  omega
 ·unfold Zu
  rw[if_neg h]
  intro c hc;cases hc
theorem fmtT0_lenV {g:Gram} {t:List Nod} (hg:∀r∈g.rules,ZA r.name=true):(Zu g t).length ≤ 512:=by
 by_cases h:Y3 g t (symN g t 0)=true
 ·obtain ⟨⟨_,h1⟩,_,h2⟩:=Yv h
  have hn:∀x∈t,((Z6 x.rule).length : Int)+24≤32:=fun x hx=>by
   obtain ⟨j,hj,rfl⟩:=List.getElem_of_mem hx
   have:=nmV_len (hr_name hg (tree_node h hj).1)
   omega
  have h3:=walkE_txt (g:=g) hn t.length 0 (-1) 0 (symN g t 0) (by rw[h2];omega)
  rw[h2] at h3
  unfold Zu
  rw[if_pos h]
  omega
 ·unfold Zu
  rw[if_neg h]
  simp
end Go.Gh
namespace Go.Gh
open Go.Lib
theorem getD_app1 {ks:List (List Nod)} {t:List Nod} {k:Nat} (h:k<ks.length):(ks++[t]).getD k []=ks.getD k []:=by
 rw[List.getD_eq_getElem?_getD,List.getD_eq_getElem?_getD,List.getElem?_append_left h]
theorem jnL_pre {ks:List (List Nod)} {t:List Nod}:∀k,k≤ks.length→jnL (ks++[t]) k=jnL ks k
 | 0,_ => rfl
 | k+1,h=>by simp only[jnL,jnL_pre (ks:=ks) (t:=t) k (by omega),getD_app1 (t:=t) (show k<ks.length by omega)]
theorem jnK_pre {ks:List (List Nod)} {t:List Nod}:∀k,k≤ks.length→jnK (ks++[t]) k=jnK ks k
 | 0,_ => rfl
 | k+1,h=>by simp only[jnK,jnK_pre (ks:=ks) (t:=t) k (by omega),jnL_pre (ks:=ks) (t:=t) k (show k≤ks.length by omega)]
theorem jvN_mv {b k i:Nat} {x:Nod} (hi:¬i=0) (hb:b≤100000) (hp:0≤x.parent∧x.parent≤100000) (hk:∀c∈x.kids,0≤c∧c≤100000):jvN b k i x=Fo.mvN b x:=by
 unfold jvN Fo.mvN
 rw[if_neg hi,if_neg hi,wrS (by omega)]
 congr 1
 exact List.map_congr_left fun c hc=>by have:=hk c hc;exact wrS (by omega)
theorem jvT_flt {F:Fo} (hF:F.one) {b k:Nat} (hb:b≤50000) (hs:F.sz≤50000):jvT b k (F.flt 0 (-1) 0)=F.flt b 0 ((k:Int)+1):=by
 obtain ⟨i,r,l,ks,rfl⟩:=Fo.one_iff.1 hF
 simp only[Fo.sz] at hs
 have hk:=Fo.flt_rng ks (0+1) 0 1 (by omega)
 have hm:ks.flt ((b:Int)+1) b 1=(ks.flt (0+1) 0 1).map (Fo.mvN b):=by rw[Fo.flt_mv];congr 1<;>omega
 have hst:(ks.strt (0+1)).map (fun c=>IntKind.i64.wrap (c+(b:Int)))=ks.strt ((b:Int)+1):=by
  have e:ks.strt ((b:Int)+1)=(ks.strt (0+1)).map (· + (b:Int)):=by rw[Fo.strt_mv];congr 1;omega
  rw[e]
  exact List.map_congr_left fun c hc=>by have:=Fo.strt_rng ks (0+1) c hc;exact wrS (by omega)
 simp only[Fo.flt,List.append_nil,jvT,List.mapIdx_cons]
 rw[hm]
 congr 1
 ·simp only[jvN,if_true,hst]
 ·refine List.ext_getElem (by simp) fun j h1 h2=> ?_
  simp only[List.getElem_mapIdx,List.getElem_map]
  have hj:j<(ks.flt (0+1) 0 1).length := by simpa using h2
  obtain ⟨a1,a2⟩:=hk _ (List.getElem_mem hj)
  exact jvN_mv (by omega) (by omega) (by omega) fun c hc=>by have:=a2 c hc;omega
def jnI (ks:List (List Nod)) (G:Fo):Prop:=jnL ks ks.length=G.flt 1 0 1∧jnK ks ks.length=G.strt 1∧G.cnt=ks.length∧∀t∈ks,t.length≤G.sz∧∀x∈t,x.kids.length≤G.sz
theorem jnI_nil:jnI [] .nil := ⟨rfl,rfl,rfl,fun t h=>by cases h⟩
theorem jnI_step {ks:List (List Nod)} {G F:Fo} (h:jnI ks G) (hF:F.one) (h1:G.sz≤40000) (h2:F.sz≤40000):jnI (ks++[F.flt 0 (-1) 0]) (G.app F):=by
 obtain ⟨e1,e2,e3,e4⟩:=h
 have hl:(ks++[F.flt 0 (-1) 0]).length = ks.length+1:=by simp
 have hg:(ks++[F.flt 0 (-1) 0]).getD ks.length []=F.flt 0 (-1) 0:=by rw[List.getD_eq_getElem?_getD];simp
 have hz:(jnL ks ks.length).length = G.sz:=by rw[e1,Fo.flt_len]
 refine ⟨?_,?_,?_,?_⟩
 ·rw[hl,Fo.app_flt,←e1]
  simp only[jnL,jnL_pre _ (Nat.le_refl _),hg]
  rw[jvT_flt hF (by omega) (by omega),hz,e3]
  congr 2<;>omega
 ·rw[hl,Fo.app_strt,Fo.one_strt hF,←e2]
  simp only[jnK,jnK_pre _ (Nat.le_refl _),jnL_pre _ (Nat.le_refl _),hz]
  congr 2;omega
 ·rw[hl,Fo.app_cnt,Fo.one_cnt hF,e3]
 ·intro t ht
  rw[Fo.app_sz]
  rcases List.mem_append.1 ht with h|h
  ·have:=e4 t h
   exact ⟨by omega,fun x hx=>by have:=this.2 x hx;omega⟩
  ·rw[List.mem_singleton] at h
   subst h
   exact ⟨by rw[Fo.flt_len];omega,fun x hx=>by have:=Fo.flt_kids F 0 (-1) 0 x hx;omega⟩
theorem jnI_fin {ks:List (List Nod)} {G:Fo} (h:jnI ks G) (id lt:Int) (W:ByteArray) (n:Nat) (hn:n=ks.length):(⟨id, -1,0,lt,W,jnK ks n⟩::jnL ks n:List Nod)=(Fo.cons id W lt G .nil).flt 0 (-1) 0:=by
 subst hn
 rw[h.1,h.2.1]
 simp[Fo.flt]
section
variable {g:Gram} {ni:List UInt8→Int×Bool} {first:Int}
theorem oneS_no {l:List UInt8} {i:Nat} (h:∀t,l≠40::t):Y4 g ni first l i=none:=by
 unfold Y4
 split
 ·rename_i t;exact absurd rfl (h t)
 ·rfl
theorem oneS_id {l:List UInt8} {i:Nat} (h:first+i>1015):Y4 g ni first l i=none:=by
 unfold Y4
 split
 ·rw[if_pos h]
 ·rfl
theorem oneS_bad {l:List UInt8} {i:Nat} (h:¬Y6 g.rules (bA (l.takeWhile inS))=true):Y4 g ni first (40::l) i=none:=by
 have h':¬Y6 g.rules ⟨(l.takeWhile inS).toArray⟩=true:=h
 unfold Y4
 simp only
 rw[if_neg h']
 split<;>rfl
def litV (ni:List UInt8→Int×Bool) (b:Bool) (l:List UInt8):Int:=if b=true then (ni (((l.dropWhile inS).drop 1).takeWhile inS)).1 else 0
theorem oneS_kids {l:List UInt8} {i:Nat} (hi:¬first+i>1015) (hr:Y6 g.rules (bA (l.takeWhile inS))=true) :
 Y4 g ni first (40::l) i=match kidS g ni first (ZH g.rules (bA (l.takeWhile inS))).right.length (litL (ZH g.rules (bA (l.takeWhile inS))).lit l) (i+1) with
  | some (ks,l2)=>some (.cons (first+i) (bA (l.takeWhile inS)) (litV ni (ZH g.rules (bA (l.takeWhile inS))).lit l) ks .nil,l2.drop 1)
  | none=>none:=by
 have hr':Y6 g.rules ⟨(l.takeWhile inS).toArray⟩=true:=hr
 conv=>lhs;unfold Y4
 simp only
 rw[if_neg hi,if_pos hr']
 all_goals rfl
theorem oneS_knone {l:List UInt8} {i:Nat} (hi:¬first+i>1015) (hr:Y6 g.rules (bA (l.takeWhile inS))=true) (hk:kidS g ni first (ZH g.rules (bA (l.takeWhile inS))).right.length (litL (ZH g.rules (bA (l.takeWhile inS))).lit l) (i+1)=none):Y4 g ni first (40::l) i=none:=by
 rw[oneS_kids hi hr,hk]
theorem oneS_end {l:List UInt8} {i:Nat} {ks:Fo} {l2:List UInt8} (hi:¬first+i>1015) (hr:Y6 g.rules (bA (l.takeWhile inS))=true) (hk:kidS g ni first (ZH g.rules (bA (l.takeWhile inS))).right.length (litL (ZH g.rules (bA (l.takeWhile inS))).lit l) (i+1)=some (ks,l2)) :
 Y4 g ni first (40::l) i=some (.cons (first+i) (bA (l.takeWhile inS)) (litV ni (ZH g.rules (bA (l.takeWhile inS))).lit l) ks .nil,l2.drop 1):=by
 rw[oneS_kids hi hr,hk]
theorem oneS_vn (hg:∀r∈g.rules,ZA r.name=true) {l:List UInt8} {i:Nat} {F:Fo} {l2:List UInt8} (h:Y4 g ni first l i=some (F,l2)):F.vn:=by
 have h1:=kidS_succ g ni first 0 (32::l) i
 simp only[List.drop_succ_cons,List.drop_zero,h,kidS_zero,Fo.app_nil] at h1
 unfold kidS at h1
 exact (rsK_snd hg _ _ _ _ _ _ h1).2
end
theorem drop_at {L:List UInt8} {a:Nat} (h:a<L.length):L.drop a=L[a]::L.drop (a+1):=(List.drop_eq_getElem_cons h)
theorem u8_40 {c:UInt8} (h:(c.toNat:Int)=40):c=40:=by apply UInt8.toNat_inj.1;simp;omega
theorem drop_no40 {L:List UInt8} {a:Nat} (h:a<L.length) (hc:¬(L[a].toNat : Int)=40):∀t,L.drop a≠40::t:=fun t e=>by
 rw[drop_at h] at e
 exact hc (by rw[(List.cons.inj e).1];rfl)
theorem drop_40 {L:List UInt8} {a:Nat} (h:a<L.length) (hc:(L[a].toNat : Int)=40):L.drop a=40::L.drop (a+1):=by
 rw[drop_at h,u8_40 hc]
theorem drop_dw {p:UInt8→Bool} (L:List UInt8) (a:Nat):L.drop (a+((L.drop a).takeWhile p).length)=(L.drop a).dropWhile p:=by
 rw[←List.drop_drop,(tw_take _).2]
theorem GCalls.at {P:Program} {f:FuncId} {gs:List GV} {S:GV→List GV→Prop} {r sz:Nat} {es:List GV} (h:∀H0,GCalls P f gs ((r,sz,es)::H0) (fun g H'=>∃fs,S g fs∧H'=(r,sz,fs)::H0)) {H:GH} (hr:ZW H r=some (sz,es)) :
 GCalls P f gs H (fun g H'=>∃fs,S g fs∧H'=ZI H r fs):=by
 obtain ⟨A,B,rfl,hn⟩:=hget_split hr
 intro w D Ω args hst hargs
 obtain ⟨Ω',h1,h2⟩:=hst.mid
 refine Yld.mono (fun v w' ⟨g,H',D',Ω'',⟨fs,k0,k1⟩,k2,k3,k4⟩=> ?_) (h (A++B) w D Ω' args h1 hargs)
 subst k1
 obtain ⟨Ω3,m1,m2⟩:=k3.mid'
 exact ⟨g,_,D',Ω3,⟨fs,k0,rfl⟩,k2,by rw[hset_split hn];exact m1,
  ⟨k4.d0,fun b hb hD=>(k4.dn b hb hD).imp id (h2 b).1,fun b hb hl=>(h2 b).1 (k4.on b ((m2 b).1 hb) hl),k4.kp.mono fun b _ hb hb'=>hb ((h2 b).1 hb'),k4.os,k4.tape,k4.output⟩⟩
theorem kpt_r4 {rp:Nat} {s s':ByteArray} {x x' y:Int} {b:Bool} {H H':GH} (h:ZW H rp=some (4,[.agg [T s,I x,I y,B b]])) (h':ZW H' rp=some (4,[.agg [T s',I x',I y,B b]])):kptF (some (.ptr rp 4 0 0)) 2 H H':=by
 intro n ag
 simp only[fldV,h,h',if_true,List.getElem?_cons_zero]
 simp[YU,sub]
def nsR (g:Gram) (f:Int) (s:ByteArray) (i a:Nat) (r:GV) (fs:List GV):Prop:=
 (Y4 g niN f ((Z6 s).drop a) i=none∧r=Tr []∧∃x y:Int,fs=[.agg [T s,I x,I y,B true]]) ∨
 ∃(F:Fo) (a':Nat),Y4 g niN f ((Z6 s).drop a) i=some (F,(Z6 s).drop a')∧r=Tr (F.flt 0 (-1) 0)∧fs=[.agg [T s,I a',I (f+((i+F.sz:Nat):Int)),B false]]∧a'≤max a (Z6 s).length + 3 * F.sz∧f+((i+F.sz:Nat):Int)≤1016
theorem hts_congr:∀(l l':List Nod) (k:Nat),l.map (·.kids)=l'.map (·.kids)→hts k l=hts k l'
 | [],[],_,_ => rfl
 | [],_ :: _,_,h=>by cases h
 | _ :: _,[],_,h=>by cases h
 | x::l,y::l',k,h=>by
  simp only[List.map_cons,List.cons.injEq] at h
  simp only[hts,hts_congr l l' (k+1) h.2,h.1]
theorem same_kids {x t:List Nod} (h:all2 (sameNd false) x t=true):x.length=t.length∧x.map (·.kids)=t.map (·.kids):=by
 unfold all2 at h
 rw[Bool.and_eq_true,decide_eq_true_eq,List.all_eq_true] at h
 refine ⟨h.1,List.ext_getElem (by simp[h.1]) fun j h1 h2=> ?_⟩
 simp only[List.getElem_map]
 have hj1:j<x.length:=by simpa using h1
 have hj2:j<t.length:=by simpa using h2
 have:=h.2 (x[j],t[j]) (List.mem_iff_getElem.2 ⟨j,by simp;omega,by rw[List.getElem_zip]⟩)
 simp only[sameNd,Bool.and_eq_true,decide_eq_true_eq] at this
 exact this.2
theorem treeHt_same {x t:List Nod} (h:all2 (sameNd false) x t=true):treeHt x 0=treeHt t 0:=by
 obtain ⟨h1,h2⟩:=same_kids h
 unfold treeHt
 rw[h1]
 split
 ·simp only[Int.toNat_zero,List.drop_zero,hts_congr x t 0 h2]
 ·rfl
theorem txtN_ne (g:Gram) (t:List Nod) (f i:Nat):Zj g t (f+1) i≠[]:=by
 unfold Zj
 simp
theorem tt_one {g:Gram} {t:List Nod} (hg:∀r∈g.rules,ZA r.name=true) :
 (Zu g t=[]∧YW g niN 1 (Zu g t)=none)∨(Zu g t≠[]∧∃u,YW g niN 1 (Zu g t)=some u∧all2 (sameNd false) u t=true∧treeHt u 0=treeHt t 0∧u.length≤1048576):=by
 by_cases h:Y3 g t (symN g t 0)=true
 ·refine .inr ?_
  have hn:∀x∈t,ZA x.rule=true:=fun x hx=>by
   obtain ⟨j,hj,rfl⟩:=List.getElem_of_mem hx
   exact hr_name hg (tree_node h hj).1
  have e:Zu g t=Zj g t t.length 0:=by unfold Zu;rw[if_pos h]
  obtain ⟨F,f1,f2,f3,f4⟩:=Fo.tree_fo h
  have hl:t.length=F.sz:=by rw[f4,Fo.flt_len]
  have hp:0<F.sz:=by obtain ⟨i,r,l,ks,rfl⟩:=Fo.one_iff.1 f1;simp[Fo.sz];omega
  obtain ⟨u,k1,k2,k3⟩:=tree_back (first:=1) (by omega) (by omega) h hn
  rw[e]
  refine ⟨?_,u,(parTI_some niN_ok).2 k1,k2,treeHt_same k2,by omega⟩
  obtain ⟨m,hm⟩:∃m,t.length=m+1:=⟨t.length-1,by omega⟩
  rw[hm];exact txtN_ne g t m 0
 ·have e:Zu g t=[]:=by unfold Zu;rw[if_neg h]
  refine .inl ⟨e,?_⟩
  rw[e,parTI_one]
  split
  ·have:Y8 g niN 1 [] 0=none:=rfl
   rw[this]
  ·rfl
theorem tt_two {g:Gram} {s:List UInt8} {f:Int} (hg:∀r∈g.rules,ZA r.name=true):parTS g niN f s=YW g niN f s:=by
 have h:∀t,parTS g niN f s=some t↔YW g niN f s=some t:=fun t=>(parTS_some hg niN_ok).trans (parTI_some niN_ok).symm
 cases h1:YW g niN f s with
 | some t=>exact (h t).2 h1
 | none=>
  cases h2:parTS g niN f s with
  | none=>rfl
  | some t=>rw[(h t).1 h2] at h1;cases h1
theorem tt_some {g:Gram} {s:List UInt8} {f:Int} {t:List Nod} (h:YW g niN f s=some t):seqI t f∧Zu g t=s∧t.length≤16∧(∀x∈t,x.kids.length≤16)∧∀x∈t,(Z6 x.rule).length ≤ 1048576:=by
 have h1:=(parTI_some niN_ok).1 h
 obtain ⟨F,y,f1,f2,f3,f4,f5,f6,f7⟩:=treeT_fo h1
 refine ⟨h1.2.2.1,?_,?_,?_,?_⟩
 ·unfold Zu;rw[if_pos h1.2.1];exact h1.2.2.2.2
 ·rw[f6,Fo.flt_len];exact f4
 ·rw[f6];exact fun x hx=>by have:=Fo.flt_kids F 0 (-1) 0 x hx;omega
 ·rw[f6];exact vn_len f2 0 (-1) 0
end Go.Gh
namespace Go.Gh
end Go.Gh
namespace Go.Gh
end Go.Gh
namespace Go.Gh
end Go.Gh
namespace Go.Gh
theorem t_Bytes {g:GV} (h:ET false [.sl false [.int .u8]] g):∃bs:List UInt8,g=Bs bs:=by
 have h1:=t_one h
 simp only[CT] at h1
 obtain ⟨es,rfl,_,he⟩:=h1
 obtain ⟨l,rfl,_⟩:=list_of (f:=fun b:UInt8=>GV.val (.int .u8 b.toNat)) (ok:=fun _ => True) (es:=es) fun e hm=>by
  obtain ⟨gs,k1,k2⟩:=he e hm
  simp only[CTs,CT] at k1
  obtain ⟨g,gs',rfl,⟨n,rfl,hn⟩,rfl⟩:=k1
  simp at k2
  refine ⟨UInt8.ofNat n.toNat,?_,trivial⟩
  have hr:0≤n∧n<256:=by
   simp only[Lit.wf,Bool.and_eq_true,decide_eq_true_eq] at hn
   have e1:IntKind.u8.min=0:=rfl
   have e2:IntKind.u8.max=255:=rfl
   rw[e1,e2] at hn
   omega
  rw[←k2]
  have:((UInt8.ofNat n.toNat).toNat : Int)=n:=by
   rw[UInt8.toNat_ofNat']
   omega
  rw[this]
 exact ⟨l,rfl⟩
@[irreducible] def MkQ (p:Prop):Prop:=p
theorem qI {p:Prop} (h:MkQ p):p:=by unfold MkQ at h;exact h
theorem qU {p:Prop} (h:p):MkQ p:=by unfold MkQ;exact h
theorem VQ:type_of% (And.intro @Z9 (And.intro @Z8 (And.intro @Z7 (And.intro @neN (And.intro @Z3 (And.intro @ZZ @ZT)))))):=(And.intro @Z9 (And.intro @Z8 (And.intro @Z7 (And.intro @neN (And.intro @Z3 (And.intro @ZZ @ZT))))))
theorem VN:type_of% (And.intro @Z1 (And.intro @ZY (And.intro @Z3 (And.intro @ZZ (And.intro @and_true @true_and))))):=(And.intro @Z1 (And.intro @ZY (And.intro @Z3 (And.intro @ZZ (And.intro @and_true @true_and)))))
open Nat (reduceEqDiff reduceLeDiff reduceAdd reduceLT)
open Int (reduceNe)
theorem aO {a b:Prop} (k:b) (h:a:=by omega):a∧b:=And.intro h k
theorem eO {a:Prop} {b:a→Prop} (h:a:=by omega) (k:b h):∃h,b h:=Exists.intro h k
theorem jO {a b:Prop} (x:a) (y:b):a∧b:=And.intro x y
theorem V0 {p q:Prop} (k:q) (h:q→p:=by intro k;first|(replace k:=qU k;(try simp (maxSteps:=9^7) +contextual only[↓ S2,S2,↓reduceIte,reduceNe,reduceEqDiff,reduceCtorEq,reduceLeDiff,reduceAdd,reduceLT,VQ]);(repeat (simp only[Z5];try simp (maxSteps:=9^7) +contextual only[↓ S2,S2,↓reduceIte,reduceNe,reduceEqDiff,reduceCtorEq,reduceLeDiff,reduceAdd,reduceLT,VQ]));(try simp +contextual (disch:=omega) only[Z2]);(with_reducible repeat' first|refine aO ?_ | refine eO ?_);exact qI k)|(have _ : True:=k;(try simp (maxSteps:=9^7) +contextual only[↓ S2,S2,↓reduceIte,reduceNe,reduceEqDiff,reduceCtorEq,reduceLeDiff,reduceAdd,reduceLT,VQ]);(repeat (simp only[Z5];try simp (maxSteps:=9^7) +contextual only[↓ S2,S2,↓reduceIte,reduceNe,reduceEqDiff,reduceCtorEq,reduceLeDiff,reduceAdd,reduceLT,VQ]));(try simp +contextual (disch:=omega) only[Z2]);done)):p:=h k
theorem V1 {p q f:Prop} (a:f) (k:q) (h:f→q→p:=by intro a k;first|(replace k:=qU k;(try simp (maxSteps:=9^7) +contextual only[↓ S2,S2,↓reduceIte,reduceNe,reduceEqDiff,reduceCtorEq,reduceLeDiff,reduceAdd,reduceLT,VQ,a]);(repeat (simp only[Z5];try simp (maxSteps:=9^7) +contextual only[↓ S2,S2,↓reduceIte,reduceNe,reduceEqDiff,reduceCtorEq,reduceLeDiff,reduceAdd,reduceLT,VQ,a]));(try simp +contextual (disch:=omega) only[Z2,a]);(try clear a);(with_reducible repeat' first|refine aO ?_ | refine eO ?_);first|exact qI k|(revert a;exact qI k))|(have _ : True:=k;(try simp (maxSteps:=9^7) +contextual only[↓ S2,S2,↓reduceIte,reduceNe,reduceEqDiff,reduceCtorEq,reduceLeDiff,reduceAdd,reduceLT,VQ,a]);(repeat (simp only[Z5];try simp (maxSteps:=9^7) +contextual only[↓ S2,S2,↓reduceIte,reduceNe,reduceEqDiff,reduceCtorEq,reduceLeDiff,reduceAdd,reduceLT,VQ,a]));(try simp +contextual (disch:=omega) only[Z2,a]);done)):p:=h a k
theorem V2 {p q f:Prop} (a:f) (k:q) (h:f→q→p:=by intro a k;first|(replace k:=qU k;(try simp (maxSteps:=9^7) +contextual only[↓ S2,S2,↓reduceIte,reduceNe,reduceEqDiff,reduceCtorEq,reduceLeDiff,reduceAdd,reduceLT,VQ,Int.reduceEq,Int.reduceLT,Int.reduceLE,Int.reduceToNat,Int.reduceSub,a]);(repeat (simp only[Z5];try simp (maxSteps:=9^7) +contextual only[↓ S2,S2,↓reduceIte,reduceNe,reduceEqDiff,reduceCtorEq,reduceLeDiff,reduceAdd,reduceLT,VQ,Int.reduceEq,Int.reduceLT,Int.reduceLE,Int.reduceToNat,Int.reduceSub,a]));(try simp +contextual (disch:=omega) only[Z2,a]);(try clear a);(with_reducible repeat' first|refine aO ?_ | refine eO ?_);first|exact qI k|(revert a;exact qI k))|(have _ : True:=k;(try simp (maxSteps:=9^7) +contextual only[↓ S2,S2,↓reduceIte,reduceNe,reduceEqDiff,reduceCtorEq,reduceLeDiff,reduceAdd,reduceLT,VQ,Int.reduceEq,Int.reduceLT,Int.reduceLE,Int.reduceToNat,Int.reduceSub,a]);(repeat (simp only[Z5];try simp (maxSteps:=9^7) +contextual only[↓ S2,S2,↓reduceIte,reduceNe,reduceEqDiff,reduceCtorEq,reduceLeDiff,reduceAdd,reduceLT,VQ,Int.reduceEq,Int.reduceLT,Int.reduceLE,Int.reduceToNat,Int.reduceSub,a]));(try simp +contextual (disch:=omega) only[Z2,a]);done)):p:=h a k
theorem R2 {p q f:Prop} (a:f) (k:q) (h:f→q→p:=by intro a k;first|(replace k:=qU k;(try simp (maxSteps:=9^7) only[↓ S2,S2,ZT,↓reduceIte,reduceNe,reduceEqDiff,reduceCtorEq,reduceLeDiff,reduceAdd,reduceLT,Int.reduceEq,Int.reduceLT,Int.reduceLE,Int.reduceToNat,Int.reduceSub,a]);(repeat (simp only[Z5];try simp (maxSteps:=9^7) only[↓ S2,S2,ZT,↓reduceIte,reduceNe,reduceEqDiff,reduceCtorEq,reduceLeDiff,reduceAdd,reduceLT,Int.reduceEq,Int.reduceLT,Int.reduceLE,Int.reduceToNat,Int.reduceSub,a]));(try simp +contextual (disch:=omega) only[Z2,a]);(try clear a);(with_reducible repeat' first|refine aO ?_ | refine eO ?_);first|exact qI k|(revert a;exact qI k))|(have _ : True:=k;(try simp (maxSteps:=9^7) only[↓ S2,S2,ZT,↓reduceIte,reduceNe,reduceEqDiff,reduceCtorEq,reduceLeDiff,reduceAdd,reduceLT,Int.reduceEq,Int.reduceLT,Int.reduceLE,Int.reduceToNat,Int.reduceSub,a]);(repeat (simp only[Z5];try simp (maxSteps:=9^7) only[↓ S2,S2,ZT,↓reduceIte,reduceNe,reduceEqDiff,reduceCtorEq,reduceLeDiff,reduceAdd,reduceLT,Int.reduceEq,Int.reduceLT,Int.reduceLE,Int.reduceToNat,Int.reduceSub,a]));(try simp +contextual (disch:=omega) only[Z2,a]);done)):p:=h a k
theorem R0 {p q:Prop} (k:q) (h:q→p:=by intro k;first|(replace k:=qU k;(try simp (maxSteps:=9^7) only[↓ S2,S2,ZT,↓reduceIte,reduceNe,reduceEqDiff,reduceCtorEq,reduceLeDiff,reduceAdd,reduceLT]);(repeat (simp only[Z5];try simp (maxSteps:=9^7) only[↓ S2,S2,ZT,↓reduceIte,reduceNe,reduceEqDiff,reduceCtorEq,reduceLeDiff,reduceAdd,reduceLT]));(try simp +contextual (disch:=omega) only[Z2]);(with_reducible repeat' first|refine aO ?_ | refine eO ?_);exact qI k)|(have _ : True:=k;(try simp (maxSteps:=9^7) only[↓ S2,S2,ZT,↓reduceIte,reduceNe,reduceEqDiff,reduceCtorEq,reduceLeDiff,reduceAdd,reduceLT]);(repeat (simp only[Z5];try simp (maxSteps:=9^7) only[↓ S2,S2,ZT,↓reduceIte,reduceNe,reduceEqDiff,reduceCtorEq,reduceLeDiff,reduceAdd,reduceLT]));(try simp +contextual (disch:=omega) only[Z2]);done)):p:=h k
theorem R1 {p q f:Prop} (a:f) (k:q) (h:f→q→p:=by intro a k;first|(replace k:=qU k;(try simp (maxSteps:=9^7) only[↓ S2,S2,ZT,↓reduceIte,reduceNe,reduceEqDiff,reduceCtorEq,reduceLeDiff,reduceAdd,reduceLT,a]);(repeat (simp only[Z5];try simp (maxSteps:=9^7) only[↓ S2,S2,ZT,↓reduceIte,reduceNe,reduceEqDiff,reduceCtorEq,reduceLeDiff,reduceAdd,reduceLT,a]));(try simp +contextual (disch:=omega) only[Z2,a]);(try clear a);(with_reducible repeat' first|refine aO ?_ | refine eO ?_);first|exact qI k|(revert a;exact qI k))|(have _ : True:=k;(try simp (maxSteps:=9^7) only[↓ S2,S2,ZT,↓reduceIte,reduceNe,reduceEqDiff,reduceCtorEq,reduceLeDiff,reduceAdd,reduceLT,a]);(repeat (simp only[Z5];try simp (maxSteps:=9^7) only[↓ S2,S2,ZT,↓reduceIte,reduceNe,reduceEqDiff,reduceCtorEq,reduceLeDiff,reduceAdd,reduceLT,a]));(try simp +contextual (disch:=omega) only[Z2,a]);done)):p:=h a k
theorem X0 {p q:Prop} (k:q) (h:q→p:=by intro k;first|(replace k:=qU k;(try simp (maxSteps:=9^7) only[↓ S2,S2,ZT,↓reduceIte,reduceNe,reduceEqDiff,reduceCtorEq,reduceLeDiff,reduceAdd,reduceLT]);(with_reducible repeat' first|refine aO ?_ | refine eO ?_);exact qI k)|(have _ : True:=k;(try simp (maxSteps:=9^7) only[↓ S2,S2,ZT,↓reduceIte,reduceNe,reduceEqDiff,reduceCtorEq,reduceLeDiff,reduceAdd,reduceLT]);done)):p:=h k
theorem K0 {p q:Prop} (k:q) (h:q→p:=by intro k;first|(simp (maxSteps:=9^7) only[↓ S2,S2,ZT,↓reduceIte,reduceNe,reduceEqDiff,reduceCtorEq,reduceLeDiff,reduceAdd,reduceLT];exact k)|(simp only[Z5];exact k)|(simp +contextual (disch:=omega) only[Z2];exact k)|(have _ : True:=k;simp (maxSteps:=9^7) only[↓ S2,S2,ZT,↓reduceIte,reduceNe,reduceEqDiff,reduceCtorEq,reduceLeDiff,reduceAdd,reduceLT];done)|(have _ : True:=k;simp only[Z5];done)|(have _ : True:=k;simp +contextual (disch:=omega) only[Z2];done)):p:=h k
theorem K1 {p q f:Prop} (a:f) (k:q) (h:f→q→p:=by intro a k;first|(simp (maxSteps:=9^7) only[↓ S2,S2,ZT,↓reduceIte,reduceNe,reduceEqDiff,reduceCtorEq,reduceLeDiff,reduceAdd,reduceLT,a];first|exact k|(revert a;exact k))|(simp only[Z5];first|exact k|(revert a;exact k))|(simp +contextual (disch:=omega) only[Z2];first|exact k|(revert a;exact k))|(have _ : True:=k;simp (maxSteps:=9^7) only[↓ S2,S2,ZT,↓reduceIte,reduceNe,reduceEqDiff,reduceCtorEq,reduceLeDiff,reduceAdd,reduceLT,a];done)|(have _ : True:=k;simp only[Z5];done)|(have _ : True:=k;simp +contextual (disch:=omega) only[Z2];done)):p:=h a k
theorem oF {p:Prop} (h:False:=by omega):p:=h.elim
theorem nL (a b:Nat):a<b∨a≥b:=Nat.lt_or_ge a b
theorem gM {α:Type} {l:List α} {n:Nat} (h:n<l.length):l[n]∈l:=List.getElem_mem h
theorem tL {α:Type} {l:List α} {i:Nat} (h:l.length≤i):l.take i=l:=List.take_of_length_le h
theorem bC (b:Bool):b=false∨b=true:=(Bool.eq_false_or_eq_true b).symm
end Go.Gh
namespace Go.Gh.Z
abbrev x (d:Nat) (o:GOp):GI:=⟨some d,none,o⟩
abbrev y (d g:Nat) (o:GOp):GI:=⟨some d,some (g,true),o⟩
abbrev z (d g:Nat) (o:GOp):GI:=⟨some d,some (g,false),o⟩
abbrev m (d a:Nat):GI:=⟨some d,none,.mov (.t a)⟩
abbrev k (d:Nat) (n:Int):GI:=⟨some d,none,.mov (.k (.val (.int .i64 n)))⟩
abbrev b (d:Nat) (n:Bool):GI:=⟨some d,none,.mov (.k (.val (.bool n)))⟩
abbrev l (d a:Nat):GI:=⟨some d,none,.load 1 false (.t a)⟩
abbrev h (d n a:Nat):GI:=⟨some d,none,.load n true (.t a)⟩
abbrev f (d o a:Nat):GI:=⟨some d,none,.faddr o 1 false (.t a)⟩
abbrev e (d o n a:Nat):GI:=⟨some d,none,.faddr o n true (.t a)⟩
abbrev i (d n a c:Nat):GI:=⟨some d,none,.iaddr n (.t a) (.t c)⟩
abbrev c (d f:Nat) (a:List GE):GI:=⟨some d,none,.call false f a⟩
abbrev o (d:Nat) (p:BinOp) (a b:Nat):GI:=⟨some d,none,.bin p (.t a) (.t b)⟩
abbrev q (d:Nat) (p:BinOp) (a:Nat) (n:Int):GI:=⟨some d,none,.bin p (.t a) (.k (.val (.int .i64 n)))⟩
abbrev n (d a:Nat):GI:=⟨some d,none,.len (.t a)⟩
abbrev w (d a:Nat):GI:=⟨some d,none,.not (.t a)⟩
abbrev a (d n r:Nat):GI:=⟨some d,none,.boxro n (.t r)⟩
abbrev t (d n r:Nat):GI:=⟨some d,none,.stro n d (.t r)⟩
abbrev u (d n:Nat):GI:=⟨some d,none,.allocr n⟩
abbrev v (d r j:Nat):GI:=⟨some d,none,.ext (.t r) j⟩
abbrev p (n o a:Nat):GOp:= .faddr o n false (.t a)
abbrev r (n a:Nat):GOp:= .load n false (.t a)
abbrev j (n a:Nat):GOp:= .load n true (.t a)
abbrev A (d a b:Nat):GI:=⟨some d,none,.pick (.t a) (.t b) (.k (.val (.bool false)))⟩
abbrev O (d a b:Nat):GI:=⟨some d,none,.pick (.t a) (.k (.val (.bool true))) (.t b)⟩
abbrev M (d g a:Nat):GI:=⟨some d,some (g,true),.mov (.t a)⟩
abbrev N (d g a:Nat):GI:=⟨some d,some (g,false),.mov (.t a)⟩
abbrev I (o p:Nat) (a:Nat) (n:Int):GI:=⟨some o,some (p,true),.bin .eql (.t a) (.k (.val (.int .i64 n)))⟩
abbrev J (o p:Nat) (a:Nat) (n:Int):GI:=⟨some o,some (p,false),.bin .eql (.t a) (.k (.val (.int .i64 n)))⟩
abbrev G (d f:Nat) (a:List GE):GI:=⟨some d,none,.call true f a⟩
abbrev Q (d n b s x:Nat):GI:=⟨some d,none,.append n b (.t s) (.t x)⟩
abbrev E (d n:Nat) (b:Bool):GI:=⟨some d,none,.bslice n [] 0 b []⟩
abbrev Z (d:Nat):GI:=⟨some d,none,.mov (.k (.val (.slice none 0 0)))⟩
abbrev K (n:Int):GE:= .k (.val (.int .i64 n))
abbrev S (a b:GC):GC:= .seq a b
abbrev D (n:Nat) (a b:GC):GC:= .cond n a b
abbrev F:GC:= .skip
abbrev R:GC:= .ret
abbrev C (c e:Nat) (x:GC):GC:= .seq (.cond c .skip (.exit e)) x
abbrev B (n:Nat) (x:GC):GC:= .block n (.loop x)
abbrev s (a:List GI) (b:GC):GC:= .seq (.reg a) b
end Go.Gh.Z
namespace Go.Gh
theorem jF {P:Program} {f:Nat} {fn:Func} {F:GFun} {c:Code} (h:P.funcs[f]? = some fn) (md:List (Nat×Nat):=[]) (h0:fn.body=some c:=by rfl) (h1:(fn.name == "runtime.NumGoroutine")=false:=by kernel_rfl) (h2:compC P F.cf md c=some F.gc:=by kernel_rfl) (h3:YM P fn.results.toList=some F.gr:=by kernel_rfl) (h4:fn.ntmps=F.cf.N:=by rfl):IsFun P f F:=⟨fn,c,md,h,h1,h0,h2,h3,h4⟩
end Go.Gh
namespace Go.Proofs.YtmdfoigdflaliaaGreatDoor
open Go.Gh Go.Gh.Z
abbrev iF:=IsFun Tryz.prog
abbrev Pu:=Pure Tryz.prog
abbrev Gc:=GCalls Tryz.prog
def g3:GFun:=⟨⟨108,[3,4,6,8,11,13]⟩,(s [b 2 false] (S (s [m 16 0,c 17 4 [.t 16]] (D 17 (s [b 2 true] R) F)) (s [m 19 0,c 20 5 [.t 19],m 18 20,v 21 18 0,v 22 18 1,u 3 2,u 4 1,t 3 2 21,t 4 1 22] (s [h 23 2 3,h 24 1 4,c 25 6 [.t 23,.t 24],
 m 5 25] (s [h 27 2 3,m 28 5,c 29 7 [.t 27,.t 28,K 1],m 26 29,v 30 26 0,v 31 26 1,u 6 1,t 6 1 30,m 7 31] (S (s [m 32 5,h 33 2 3,h 34 1 4,G 35 8 [.t 33,.t 34],o 36 .neq 32 35,m 37 36,N 38 37 7,N 39 37 5,z 40 37 (.bin .neq (.t 39) (.k (.val
 (.string (ByteArray.mk #[]))))),z 41 37 (.beq true (.t 38) (.t 40)),O 42 37 41,m 43 42,N 44 43 7,N 45 43 44,y 46 45 (j 1 6),y 47 45 (j 1 4),y 48 45 (.call true 9 [.t 46,.t 47]),y 49 45 (.not (.t 48)),M 50 45 49,z 51 50 (j 1 6),z 52 50
 (.call true 10 [.t 51,K 0]),z 53 50 (j 1 4),z 54 50 (.call true 11 [.t 53,K 0]),z 55 50 (.bin .neq (.t 52) (.t 54)),y 56 45 (.pick (.t 50) (.k (.val (.bool true))) (.t 55)),z 57 43 (.pick (.t 45) (.t 56) (.k (.val (.bool false)))),
 O 58 43 57] (D 58 (s [b 2 false] R) F)) (s [m 60 0,c 61 12 [.t 60],m 59 61,v 62 59 0,v 63 59 1,v 64 59 2,u 8 2,t 8 2 62,m 9 63,m 10 64] (s [h 66 2 8,m 67 9,m 68 10,c 69 7 [.t 66,.t 67,.t 68],m 65 69,v 70 65 0,v 71 65 1,u 11 1,t 11 1 70,
 m 12 71] (s [h 73 2 8,m 74 9,m 75 10,c 76 13 [.t 73,.t 74,.t 75],m 72 76,v 77 72 0,v 78 72 1,u 13 1,t 13 1 77,m 14 78] (S (s [m 79 12,m 80 14,x 81 (.beq true (.t 79) (.t 80))] (D 81 (s [b 2 false] R) F)) (S (s [k 15 0] (B 0 (S (s [m 82 15,
 f 83 0 11,l 84 83,n 85 84,o 86 .lss 82 85] (D 86 F (.exit 0))) (S (.block 1 (s [f 89 0 11,l 90 89,m 91 15,i 92 6 90 91,f 93 0 92,l 94 93,m 95 10,m 96 15,o 97 .add 95 96,o 98 .neq 94 97] (D 98 (s [b 2 false] R) F))) (.reg [m 87 15,
 q 88 .add 87 1,m 15 88]))))) (s [m 99 12,w 100 99,m 101 100,z 102 101 (j 2 8),z 103 101 (j 1 11),z 104 101 (.call false 6 [.t 102,.t 103]),N 105 101 9,z 106 101 (.bin .eql (.t 104) (.t 105)),O 107 101 106,m 2 107] R)))))))))))),[.t 2]⟩
theorem i3:iF 3 g3:=jF Tryz.func3
def g4:GFun:=⟨⟨6,[]⟩,(s [b 2 false] (s [m 3 0,n 4 3,q 5 .gtr 4 1048576,m 2 5] R)),[.t 2]⟩
theorem i4:iF 4 g4:=jF Tryz.func4
def g5:GFun:=⟨⟨8,[2,3]⟩,(s [u 2 2,u 3 1] (s [m 4 0,c 5 14 [.t 4],v 6 5 0,v 7 5 1,t 2 2 6,t 3 1 7] R)),[(.c 2 2 true),(.c 3 1 true)]⟩
theorem i5:iF 5 g5:=jF Tryz.func5
def g6:GFun:=⟨⟨12,[2,3]⟩,(s [a 2 2 0,a 3 1 1,x 4 (.mov (.k (.val (.string (ByteArray.mk #[])))))] (S (s [h 5 2 2,h 6 1 3,c 7 15 [.t 5,.t 6],w 8 7] (D 8 (s [x 4 (.mov (.k (.val (.string (ByteArray.mk #[])))))] R) F)) (s [h 9 2 2,
 h 10 1 3,c 11 16 [.t 9,.t 10,K 0],m 4 11] R))),[.t 4]⟩
theorem i6:iF 6 g6:=jF Tryz.func6
def g7:GFun:=⟨⟨36,[3,6]⟩,(s [a 3 2 0,u 6 1,b 7 false] (s [h 9 2 3,m 10 1,m 11 2,x 12 (.build [(.val (.slice none 0 0)),(.val (.slice none 0 0)),(.val (.string (ByteArray.mk #[]))),(.val (.int .i64 0)),(.val (.slice none 0 0))] [(0,(2,
 (.t 9))),(2,(1,(.t 10))),(3,(1,(.t 11)))]),x 8 (.alloc 5 (.agg [(.val (.slice none 0 0)),(.val (.slice none 0 0)),(.val (.string (ByteArray.mk #[]))),(.val (.int .i64 0)),(.val (.slice none 0 0))])),(.mk none none (.store 5 (.t 8)
 (.t 12)))] (S (s [m 13 2,c 14 17 [.t 13,K 1,K 999],w 15 14,m 16 15,z 17 16 (.call false 18 [.t 8,K (-1),K 0]),z 18 16 (.not (.t 17)),O 19 16 18,m 20 19,z 21 20 (p 1 2 8),z 22 20 (r 1 21),z 23 20 (.bin .neq (.t 22) (.k (.val (.string
 (ByteArray.mk #[]))))),O 24 20 23,m 25 24,z 26 25 (j 2 3),z 27 25 (.faddr 4 1 true (.t 8)),z 28 25 (j 1 27),z 29 25 (.call false 6 [.t 26,.t 28]),N 30 25 1,z 31 25 (.bin .neq (.t 29) (.t 30)),O 32 25 31] (D 32 (s [x 33 (.build [(.val
 (.slice none 0 0))] []),t 6 1 33,b 7 false] R) F)) (s [e 34 4 1 8,h 35 1 34,t 6 1 35,b 7 true] R)))),[(.c 6 1 true),.t 7]⟩
theorem i7:iF 7 g7:=jF Tryz.func7
def g8:GFun:=⟨⟨15,[2,3]⟩,(s [a 2 2 0,a 3 1 1,x 4 (.mov (.k (.val (.string (ByteArray.mk #[])))))] (S (s [h 5 2 2,h 6 1 3,h 7 2 2,h 8 1 3,G 9 20 [.t 7,.t 8,K 0],G 10 19 [.t 5,.t 6,.t 9],w 11 10] (D 11 (s [x 4 (.mov (.k (.val (.string
 (ByteArray.mk #[])))))] R) F)) (s [h 12 2 2,h 13 1 3,c 14 21 [.t 12,.t 13,K 0],m 4 14] R))),[.t 4]⟩
theorem i8:iF 8 g8:=jF Tryz.func8
def g9:GFun:=⟨⟨8,[2,3]⟩,(s [a 2 1 0,a 3 1 1,b 4 false] (s [h 5 1 2,h 6 1 3,c 7 22 [.t 5,.t 6,(.k (.val (.bool false)))],m 4 7] R)),[.t 4]⟩
theorem i9:iF 9 g9:=jF Tryz.func9
def g10:GFun:=⟨⟨66,[2]⟩,(s [a 2 1 0,k 4 0] (S (s [h 9 1 2,m 10 1,c 11 23 [.t 9,.t 10],w 12 11] (D 12 (s [k 4 0] R) F)) (s [f 13 0 2,l 14 13,n 15 14,x 16 (.mkslice 1 8 (.val (.int .i64 0)) (.t 15) (.t 15)),m 5 16] (S (s [f 17 0 2,
 l 18 17,n 19 18,q 20 .sub 19 1,m 6 20] (B 0 (S (s [m 21 6,m 22 1,o 23 .geq 21 22] (D 23 F (.exit 0))) (S (.block 1 (s [m 26 5,m 27 6,i 28 1 26 27,(.mk none none (.store 1 (.t 28) (K 1)))] (s [f 29 0 2,l 30 29,m 31 6,i 32 6 30 31,f 33 5 32,
 l 34 33,n 35 34,k 36 0] (B 2 (s [o 37 .lss 36 35] (C 37 2 (S (.block 3 (s [i 38 1 34 36,l 39 38,m 8 39] (s [m 40 8,m 41 6,o 42 .gtr 40 41,m 43 42,y 44 43 (j 1 2),M 45 43 8,y 46 43 (.call false 23 [.t 44,.t 45]),A 47 43 46] (D 47
 (.reg [m 48 5,m 49 6,m 50 5,m 51 6,i 52 1 50 51,m 54 5,m 55 8,i 56 1 54 55,l 53 52,l 57 56,q 58 .add 57 1,x 59 (.mx (.t 53) (.t 58)),i 60 1 48 49,(.mk none none (.store 1 (.t 60) (.t 59)))]) F)))) (.reg [q 61 .add 36 1,m 36 61]))))))))
 (.reg [m 24 6,q 25 .sub 24 1,m 6 25]))))) (s [m 62 5,m 63 1,i 64 1 62 63,l 65 64,m 4 65] R))))),[.t 4]⟩
theorem i10:iF 10 g10:=jF Tryz.func10
def g11:GFun:=⟨⟨81,[2]⟩,(s [a 2 1 0,k 4 0] (S (s [m 9 1,f 10 0 2,l 11 10,n 12 11,q 13 .sub 12 1,c 14 24 [.t 9,K 0,.t 13],w 15 14] (D 15 (s [k 4 0] R) F)) (s [f 16 0 2,l 17 16,n 18 17,x 19 (.mkslice 1 8 (.val (.int .i64 0)) (.t 18)
 (.t 18)),m 5 19] (S (s [f 20 0 2,l 21 20,n 22 21,q 23 .sub 22 1,m 6 23] (B 0 (S (s [m 24 6,m 25 1,o 26 .geq 24 25] (D 26 F (.exit 0))) (S (.block 1 (S (s [k 7 0] (B 2 (S (s [m 29 7,f 30 0 2,l 31 30,m 32 6,i 33 6 31 32,f 34 5 33,l 35 34,
 n 36 35,o 37 .lss 29 36] (D 37 F (.exit 2))) (S (.block 3 (s [f 40 0 2,l 41 40,m 42 6,i 43 6 41 42,f 44 5 43,l 45 44,m 46 7,i 47 1 45 46,l 48 47,m 8 48] (s [m 49 8,m 50 6,q 51 .add 50 1,f 52 0 2,l 53 52,n 54 53,q 55 .sub 54 1,
 c 56 24 [.t 49,.t 51,.t 55]] (D 56 (.reg [m 57 5,m 58 6,m 59 5,m 60 6,i 61 1 59 60,m 63 5,m 64 8,i 65 1 63 64,l 62 61,l 66 65,G 67 25 [.t 62,.t 66],i 68 1 57 58,(.mk none none (.store 1 (.t 68) (.t 67)))]) F)))) (.reg [m 38 7,
 q 39 .add 38 1,m 7 39]))))) (.reg [m 69 5,m 70 6,m 71 5,m 72 6,i 73 1 71 72,l 74 73,q 75 .add 74 1,i 76 1 69 70,(.mk none none (.store 1 (.t 76) (.t 75)))]))) (.reg [m 27 6,q 28 .sub 27 1,m 6 28]))))) (s [m 77 5,m 78 1,i 79 1 77 78,
 l 80 79,m 4 80] R))))),[.t 4]⟩
theorem i11:iF 11 g11:=jF Tryz.func11
def g12:GFun:=⟨⟨25,[2,6,3000020,3000023]⟩,(s [u 2 2,x 3 (.mov (.k (.val (.string (ByteArray.mk #[]))))),k 4 0] (s [m 8 0,c 9 26 [.t 8],m 5 9] (s [m 10 5,c 11 27 [.t 10,(.k (.val (.bool true)))],u 6 2,t 6 2 11] (s [m 13 5,h 12 2 6,
 h 14 2 6,x 15 (.calla 28 [.t 13,.t 14]),G 16 8 [.t 12,.t 15],m 7 16] (s [m 18 5,m 19 7,x 20 (.bslro 1 [] 6 false [(0,(.k (.val (.string (ByteArray.mk #[32]))))),(1,(.k (.val (.string (ByteArray.mk #[40]))))),(2,(.k (.val (.string
 (ByteArray.mk #[41]))))),(3,(.k (.val (.string (ByteArray.mk #[49]))))),(4,(.k (.val (.string (ByteArray.mk #[45]))))),(5,(.k (.val (.string (ByteArray.mk #[40,108,101,97,102,115,32,49,41])))))]),m 22 5,x 23 (.bslro 1 [] 6 false [(0,
 (K 1)),(1,(K 5)),(2,(K 0)),(3,(K 985)),(4,(K 999)),(5,(K 990))]),h 17 2 6,x 21 (.calla 29 [.t 18,.t 19,.t 20]),x 24 (.calla 30 [.t 22,.t 23]),t 2 2 17,m 3 21,m 4 24] R))))),[(.c 2 2 true),.t 3,.t 4]⟩
theorem i12:iF 12 g12:=jF Tryz.func12 [(3,144),(4,33296)]
def g13:GFun:=⟨⟨38,[3,6,9]⟩,(s [a 3 2 0,u 6 1,b 7 false] (S (s [m 10 2,c 11 24 [.t 10,K 1,K 999],w 12 11] (D 12 (s [x 13 (.build [(.val (.slice none 0 0))] []),t 6 1 13,b 7 false] R) F)) (s [m 14 1,m 15 2,x 16 (.build [(.val (.string
 (ByteArray.mk #[]))),(.val (.int .i64 0)),(.val (.int .i64 0)),(.val (.bool false))] [(0,(1,(.t 14))),(2,(1,(.t 15)))]),x 17 (.box 4 (.t 16)),m 8 17] (s [m 18 8,h 19 2 3,c 20 31 [.t 18,.t 19],u 9 1,t 9 1 20] (S (s [m 21 8,x 22 (.nck
 (.t 21)),f 23 3 22,l 24 23,m 25 24,N 26 25 1,z 27 25 (.bin .eql (.t 26) (.k (.val (.string (ByteArray.mk #[]))))),O 28 25 27,m 29 28,z 30 29 (j 2 3),z 31 29 (j 1 9),z 32 29 (.call false 8 [.t 30,.t 31]),N 33 29 1,z 34 29 (.bin .neq
 (.t 32) (.t 33)),O 35 29 34] (D 35 (s [x 36 (.build [(.val (.slice none 0 0))] []),t 6 1 36,b 7 false] R) F)) (s [h 37 1 9,t 6 1 37,b 7 true] R)))))),[(.c 6 1 true),.t 7]⟩
theorem i13:iF 13 g13:=jF Tryz.func13
def g14:GFun:=⟨⟨16,[2,3,5]⟩,(s [u 2 2,u 3 1] (s [m 6 0,c 7 26 [.t 6],m 4 7] (s [m 8 4,m 9 4,c 10 32 [.t 9,K 2],c 11 27 [.t 8,.t 10],u 5 2,t 5 2 11] (s [m 13 4,h 12 2 5,h 14 2 5,x 15 (.calla 33 [.t 13,.t 14]),t 2 2 12,t 3 1 15] R)))),
 [(.c 2 2 true),(.c 3 1 true)]⟩
theorem i14:iF 14 g14:=jF Tryz.func14 [(3,144)]
def g15:GFun:=⟨⟨11,[2,3]⟩,(s [a 2 2 0,a 3 1 1,b 4 false] (s [h 5 2 2,h 6 1 3,h 7 2 2,h 8 1 3,G 9 35 [.t 7,.t 8,K 0],G 10 34 [.t 5,.t 6,.t 9],m 4 10] R)),[.t 4]⟩
theorem i15:iF 15 g15:=jF Tryz.func15
def g16:GFun:=⟨⟨53,[3,4,7,9]⟩,(s [a 3 2 0,a 4 1 1,x 6 (.mov (.k (.val (.string (ByteArray.mk #[])))))] (s [f 13 0 4,l 14 13,m 15 2,i 16 6 14 15,h 17 6 16,u 7 6,t 7 6 17] (s [f 18 4 7,l 19 18,x 20 (.bin .add (.k (.val (.string
 (ByteArray.mk #[40])))) (.t 19)),m 8 20] (S (s [h 22 2 3,f 23 4 7,l 24 23,c 25 36 [.t 22,.t 24],m 21 25,v 26 21 0,v 27 21 1,u 9 6,t 9 6 26,m 10 27] (s [f 28 3 9,l 29 28] (D 29 (.reg [m 30 8,f 31 3 7,l 32 31,c 33 37 [.t 32],x 34
 (.bin .add (.k (.val (.string (ByteArray.mk #[32])))) (.t 33)),o 35 .add 30 34,m 8 35]) F))) (S (s [f 36 5 7,l 37 36,n 38 37,k 39 0] (B 0 (s [o 40 .lss 39 38] (C 40 0 (S (.block 1 (s [i 41 1 37 39,l 42 41,m 12 42] (.reg [m 43 8,h 44 2 3,
 h 45 1 4,m 46 12,c 47 16 [.t 44,.t 45,.t 46],x 48 (.bin .add (.k (.val (.string (ByteArray.mk #[32])))) (.t 47)),o 49 .add 43 48,m 8 49]))) (.reg [q 50 .add 39 1,m 39 50])))))) (s [m 51 8,x 52 (.bin .add (.t 51) (.k (.val (.string
 (ByteArray.mk #[41]))))),m 6 52] R)))))),[.t 6]⟩
theorem i16:iF 16 g16:=jF Tryz.func16
def g17:GFun:=⟨⟨15,[]⟩,(s [b 6 false] (s [m 7 0,m 8 1,o 9 .geq 7 8,m 10 9,M 11 10 0,M 12 10 2,y 13 10 (.bin .leq (.t 11) (.t 12)),A 14 10 13,m 6 14] R)),[.t 6]⟩
theorem i17:iF 17 g17:=jF Tryz.func17
def g18:GFun:=⟨⟨129,[9,1000008,8028003000,9034003000,4110000,5092000]⟩,(s [b 6 false] (s [m 12 0,x 13 (.nck (.t 12)),e 14 4 1 13,f 15 0 14,l 16 15,n 17 16,m 7 17] (S (s [m 18 7,q 19 .eql 18 16,m 20 19,N 21 20 0,z 22 20
 (.call false 38 [.t 21,(.k (.val (.string (ByteArray.mk #[40]))))]),z 23 20 (.not (.t 22)),O 24 20 23] (D 24 (s [b 6 false] R) F)) (s [m 25 0,x 26 (.nck (.t 25)),f 27 3 26,m 29 7,m 31 1,m 32 2,m 33 0,u 8 6,x 28 (.ldf 1 false 27 0 3),
 o 30 .add 28 29,x 34 (.callf 0 3 39 [.t 33]),x 35 (.build [(.val (.int .i64 0)),(.val (.int .i64 0)),(.val (.int .i64 0)),(.val (.int .i64 0)),(.val (.string (ByteArray.mk #[]))),(.val (.slice none 0 0))] [(0,(1,(.t 30))),(1,(1,(.t 31))),
 (2,(1,(.t 32))),(4,(1,(.t 34)))]),x 8 (.strb 6 8 (.t 35))] (s [m 37 0,x 38 (.nck (.t 37)),e 39 0 2 38,f 41 4 8,u 9 6,h 40 2 39,l 42 41,G 43 36 [.t 40,.t 42],m 36 43,v 44 36 0,v 45 36 1,t 9 6 44,m 10 45] (S (s [m 46 10,w 47 46,m 48 47,
 z 49 48 (p 1 4 8),z 50 48 (r 1 49),z 51 48 (.call false 40 [.t 50]),z 52 48 (.not (.t 51)),O 53 48 52] (D 53 (s [b 6 false] R) F)) (S (s [f 54 3 9,l 55 54] (D 55 (s [m 56 0,x 57 (.call false 38 [.t 56,(.k (.val (.string
 (ByteArray.mk #[32]))))]),m 10 57] (.reg [m 59 0,c 60 39 [.t 59],c 61 41 [.t 60],m 58 61,v 62 58 0,v 63 58 1,f 64 3 8,(.mk none none (.store 1 (.t 64) (.t 62)))])) F)) (s [m 65 0,m 66 0,x 67 (.nck (.t 66)),e 68 4 1 67,f 69 0 68,l 70 69,
 h 71 6 8,x 72 (.bslice 6 [] 1 true [(0,(.t 71))]),Q 73 6 72 70 72,x 74 (.nck (.t 65)),e 75 4 1 74,f 76 0 75,(.mk none none (.store 1 (.t 76) (.t 73)))] (S (s [f 77 2 9,l 78 77,n 79 78,k 80 0] (B 0 (s [o 81 .lss 80 79] (C 81 0 (S
 (.block 1 (s [m 82 80,m 11 82] (s [m 83 10,m 84 83,M 85 84 0,y 86 84 (.call false 38 [.t 85,(.k (.val (.string (ByteArray.mk #[32]))))]),A 87 84 86,m 10 87] (s [m 88 0,x 89 (.nck (.t 88)),e 90 4 1 89,f 91 0 90,m 93 7,m 94 0,x 95 (.nck
 (.t 94)),e 96 4 1 95,f 97 0 96,m 99 7,m 103 0,x 104 (.nck (.t 103)),e 105 4 1 104,f 106 0 105,x 92 (.ldx 1 false 91 0),l 98 97,i 100 6 98 99,f 101 5 100,l 102 101,l 107 106,n 108 107,x 109 (.bslice 1 [] 1 false [(0,(.t 108))]),x 110
 (.appx [0] 1 8 (.t 102) (.t 109)),i 111 6 92 93,f 112 5 111,(.mk none none (.store 1 (.t 112) (.t 110)))] (s [m 113 10,w 114 113,m 115 114,N 116 115 0,N 117 115 7,N 118 115 11,z 119 115 (.bin .add (.t 118) (K 1)),z 120 115
 (.call false 18 [.t 116,.t 117,.t 119]),z 121 115 (.not (.t 120)),O 122 115 121] (D 122 (s [b 6 false] R) F)))))) (.reg [q 123 .add 80 1,m 80 123])))))) (s [m 124 10,m 125 124,M 126 125 0,y 127 125 (.call false 38 [.t 126,(.k (.val
 (.string (ByteArray.mk #[41]))))]),A 128 125 127,m 6 128] R)))))))))),[.t 6]⟩
theorem i18:iF 18 g18:=jF Tryz.func18 [(4,4),(16,4)]
def g19:GFun:=⟨⟨19,[3,4]⟩,(s [a 3 2 0,a 4 1 1,b 6 false] (s [h 7 1 4,G 8 42 [.t 7],m 9 8,M 12 9 2,y 14 9 (p 1 0 4),y 10 9 (j 2 3),y 11 9 (j 1 4),y 13 9 (.call true 43 [.t 10,.t 11,K 0,K (-1),K 0,.t 12]),y 15 9 (r 1 14),y 16 9 (.len
 (.t 15)),y 17 9 (.bin .eql (.t 13) (.t 16)),A 18 9 17,m 6 18] R)),[.t 6]⟩
theorem i19:iF 19 g19:=jF Tryz.func19
def g20:GFun:=⟨⟨29,[3,4,7]⟩,(s [a 3 2 0,a 4 1 1,x 6 (.mov (.k (.val (.string (ByteArray.mk #[])))))] (S (s [m 9 2,f 10 0 4,l 11 10,n 12 11,q 13 .sub 12 1,c 14 24 [.t 9,K 0,.t 13],w 15 14] (D 15 (s [x 6 (.mov (.k (.val (.string
 (ByteArray.mk #[])))))] R) F)) (s [f 18 0 4,m 20 2,u 7 6,h 17 2 3,l 19 18,i 21 6 19 20,f 22 4 21,l 23 22,G 24 44 [.t 17,.t 23],m 16 24,v 25 16 0,v 26 16 1,t 7 6 25,m 8 26] (s [f 27 1 7,l 28 27,m 6 28] R)))),[.t 6]⟩
theorem i20:iF 20 g20:=jF Tryz.func20
def g21:GFun:=⟨⟨55,[3,4,7,8]⟩,(s [a 3 2 0,a 4 1 1,x 6 (.mov (.k (.val (.string (ByteArray.mk #[])))))] (s [f 12 0 4,l 13 12,m 14 2,i 15 6 13 14,h 16 6 15,u 7 6,t 7 6 16] (s [h 18 2 3,f 19 4 7,l 20 19,c 21 44 [.t 18,.t 20],m 17 21,
 v 22 17 0,v 23 17 1,u 8 6,t 8 6 22,m 9 23] (s [f 24 4 7,l 25 24,x 26 (.bin .add (.k (.val (.string (ByteArray.mk #[40])))) (.t 25)),m 10 26] (S (s [f 27 3 8,l 28 27] (D 28 (.reg [m 29 10,x 30 (.bin .add (.t 29) (.k (.val (.string
 (ByteArray.mk #[32]))))),f 31 3 7,l 32 31,c 33 45 [.t 32],o 34 .add 30 33,m 10 34]) F)) (S (s [k 11 0] (B 0 (S (s [m 35 11,f 36 5 7,l 37 36,n 38 37,o 39 .lss 35 38] (D 39 F (.exit 0))) (S (.block 1 (.reg [m 42 10,x 43 (.bin .add (.t 42)
 (.k (.val (.string (ByteArray.mk #[32]))))),f 46 5 7,m 48 11,h 44 2 3,h 45 1 4,l 47 46,i 49 1 47 48,l 50 49,G 51 21 [.t 44,.t 45,.t 50],o 52 .add 43 51,m 10 52])) (.reg [m 40 11,q 41 .add 40 1,m 11 41]))))) (s [m 53 10,x 54 (.bin .add
 (.t 53) (.k (.val (.string (ByteArray.mk #[41]))))),m 6 54] R))))))),[.t 6]⟩
theorem i21:iF 21 g21:=jF Tryz.func21
def g22:GFun:=⟨⟨78,[3,4,8,9]⟩,(s [a 3 1 0,a 4 1 1,b 6 false] (S (s [f 10 0 3,l 11 10,n 12 11,f 13 0 4,l 14 13,n 15 14,o 16 .neq 12 15] (D 16 (s [b 6 false] R) F)) (S (s [k 7 0] (B 0 (S (s [m 17 7,f 18 0 3,l 19 18,n 20 19,
 o 21 .lss 17 20] (D 21 F (.exit 0))) (S (.block 1 (s [f 24 0 3,l 25 24,m 26 7,i 27 6 25 26,h 28 6 27,u 8 6,t 8 6 28] (s [f 29 0 4,l 30 29,m 31 7,i 32 6 30 31,h 33 6 32,u 9 6,t 9 6 33] (s [m 34 2,m 35 34,y 36 35 (p 1 0 8),y 37 35 (r 1 36),
 y 38 35 (p 1 0 9),y 39 35 (r 1 38),y 40 35 (.bin .neq (.t 37) (.t 39)),A 41 35 40,m 42 41,z 43 42 (p 1 1 8),z 44 42 (r 1 43),z 45 42 (p 1 1 9),z 46 42 (r 1 45),z 47 42 (.bin .neq (.t 44) (.t 46)),O 48 42 47,m 49 48,z 50 49 (p 1 2 8),
 z 51 49 (r 1 50),z 52 49 (p 1 2 9),z 53 49 (r 1 52),z 54 49 (.bin .neq (.t 51) (.t 53)),O 55 49 54,m 56 55,z 57 56 (p 1 3 8),z 58 56 (r 1 57),z 59 56 (p 1 3 9),z 60 56 (r 1 59),z 61 56 (.bin .neq (.t 58) (.t 60)),O 62 56 61,m 63 62,
 z 64 63 (p 1 4 8),z 65 63 (r 1 64),z 66 63 (p 1 4 9),z 67 63 (r 1 66),z 68 63 (.bin .neq (.t 65) (.t 67)),O 69 63 68,m 70 69,z 71 70 (p 1 5 8),z 72 70 (r 1 71),z 73 70 (p 1 5 9),z 74 70 (r 1 73),z 75 70 (.call false 46 [.t 72,.t 74]),
 z 76 70 (.not (.t 75)),O 77 70 76] (D 77 (s [b 6 false] R) F))))) (.reg [m 22 7,q 23 .add 22 1,m 7 23]))))) (s [b 6 true] R)))),[.t 6]⟩
theorem i22:iF 22 g22:=jF Tryz.func22
def g23:GFun:=⟨⟨11,[2]⟩,(s [a 2 1 0,b 4 false] (s [m 5 1,f 6 0 2,l 7 6,n 8 7,q 9 .sub 8 1,c 10 17 [.t 5,K 0,.t 9],m 4 10] R)),[.t 4]⟩
theorem i23:iF 23 g23:=jF Tryz.func23
def g24:GFun:=⟨⟨15,[]⟩,(s [b 6 false] (s [m 7 0,m 8 1,o 9 .geq 7 8,m 10 9,M 11 10 0,M 12 10 2,y 13 10 (.bin .leq (.t 11) (.t 12)),A 14 10 13,m 6 14] R)),[.t 6]⟩
theorem i24:iF 24 g24:=jF Tryz.func24
def g25:GFun:=⟨⟨10,[]⟩,(s [k 4 0] (S (s [m 5 0,m 6 1,o 7 .gtr 5 6] (D 7 (s [m 8 0,m 4 8] R) F)) (s [m 9 1,m 4 9] R))),[.t 4]⟩
theorem i25:iF 25 g25:=jF Tryz.func25
def g26:GFun:=⟨⟨32,[]⟩,(s [x 2 (.mov (.k (.val (.pointer none))))] (s [m 5 0,n 6 5,x 7 (.bin .add (K 26583) (.t 6)),m 3 7] (S (s [k 4 0] (B 0 (S (s [m 8 4,m 9 0,n 10 9,o 11 .lss 8 10,m 12 11,M 13 12 4,y 14 12 (.bin .lss (.t 13)
 (K 4000)),A 15 12 14] (D 15 F (.exit 0))) (S (.block 1 (.reg [m 18 3,q 19 .mul 18 131,m 20 0,m 21 4,i 22 1 20 21,l 23 22,x 24 (.conv .i64 (.t 23)),o 25 .add 19 24,q 26 .add 25 7,q 27 .and 26 1073741823,m 3 27])) (.reg [m 16 4,
 q 17 .add 16 1,m 4 17]))))) (s [m 28 0,m 29 3,x 30 (.build [(.val (.slice none 0 0)),(.val (.int .i64 0)),(.val (.int .i64 0))] [(0,(1,(.t 28))),(2,(1,(.t 29)))]),x 31 (.box 3 (.t 30)),m 2 31] R)))),[.t 2]⟩
theorem i26:iF 26 g26:=jF Tryz.func26
def g27:GFun:=⟨⟨154,[4,1000012,3000020]⟩,(s [u 4 2] (s [x 16 (.build [(.val (.slice none 0 0)),(.val (.slice none 0 0))] []),x 5 (.alloc 2 (.agg [(.val (.slice none 0 0)),(.val (.slice none 0 0))])),(.mk none none (.store 2 (.t 5)
 (.t 16)))] (s [m 17 0,c 18 47 [.t 17,K 3],x 19 (.bin .add (K 1) (.t 18)),m 6 19] (s [x 20 (.bslro 1 [] 3 false [(0,(.k (.val (.string (ByteArray.mk #[115]))))),(1,(.k (.val (.string (ByteArray.mk #[116]))))),(2,(.k (.val (.string
 (ByteArray.mk #[117])))))]),m 21 6,x 22 (.slc 1 (.t 20) none (some (.t 21))),m 7 22] (S (s [k 8 0] (B 0 (S (s [m 23 8,m 24 6,o 25 .lss 23 24] (D 25 F (.exit 0))) (S (.block 1 (.reg [f 28 0 5,m 30 0,m 31 7,m 32 8,i 33 1 31 32,m 35 8,
 q 36 .eql 35 0,m 37 1,l 29 28,l 34 33,x 38 (.calla 48 [.t 30,.t 34,.t 36,.t 37]),x 39 (.bslice 2 [] 1 true [(0,(.t 38))]),Q 40 2 40 29 39,f 41 0 5,(.mk none none (.store 1 (.t 41) (.t 40)))])) (.reg [m 26 8,q 27 .add 26 1,m 8 27]))))) (S
 (s [k 9 0] (B 2 (S (s [m 42 9,m 43 6,o 44 .lss 42 43] (D 44 F (.exit 2))) (S (.block 3 (s [f 47 1 5,m 49 7,m 50 9,i 51 1 49 50,m 54 7,m 55 9,i 56 1 54 55,m 58 0,l 48 47,l 52 51,x 53 (.bin .add (.k (.val (.string (ByteArray.mk #[108,101,97,
 102])))) (.t 52)),l 57 56,x 59 (.calla 32 [.t 58,K 3]),w 60 59,x 61 (.build [(.val (.string (ByteArray.mk #[]))),(.val (.string (ByteArray.mk #[]))),(.val (.slice none 0 0)),(.val (.bool false)),(.val (.slice none 0 0)),(.val
 (.slice none 0 0))] [(0,(1,(.t 53))),(1,(1,(.t 57))),(3,(1,(.t 60)))]),x 62 (.bslice 6 [] 1 true [(0,(.t 61))]),Q 63 6 112 48 62,f 64 1 5,(.mk none none (.store 1 (.t 64) (.t 63)))] (s [m 65 0,c 66 47 [.t 65,K 2],x 67 (.bin .add (K 1)
 (.t 66)),m 10 67] (s [k 11 0] (B 4 (S (s [m 68 11,m 69 10,o 70 .lss 68 69] (D 70 F (.exit 4))) (S (.block 5 (s [m 73 7,m 74 9,i 75 1 73 74,m 78 11,m 81 7,m 82 9,i 83 1 81 82,m 85 0,u 12 6,l 76 75,x 77 (.bin .add (.k (.val (.string
 (ByteArray.mk #[112])))) (.t 76)),G 79 45 [.t 78],o 80 .add 77 79,l 84 83,x 86 (.calla 32 [.t 85,K 4]),x 87 (.build [(.val (.string (ByteArray.mk #[]))),(.val (.string (ByteArray.mk #[]))),(.val (.slice none 0 0)),(.val (.bool false)),
 (.val (.slice none 0 0)),(.val (.slice none 0 0))] [(0,(1,(.t 80))),(1,(1,(.t 84))),(3,(1,(.t 86)))]),x 12 (.strb 6 12 (.t 87))] (s [m 88 0,c 89 47 [.t 88,K 3],x 90 (.bin .add (K 1) (.t 89)),m 13 90] (S (s [k 14 0] (B 6 (S (s [m 91 14,
 m 92 13,o 93 .lss 91 92] (D 93 F (.exit 6))) (S (.block 7 (.reg [f 96 2 12,m 98 0,m 99 7,l 97 96,x 100 (.calla 49 [.t 98,.t 99]),x 101 (.bslice 1 [] 1 false [(0,(.t 100))]),Q 102 1 16 97 101,f 103 2 12,(.mk none none (.store 1 (.t 103)
 (.t 102)))])) (.reg [m 94 14,q 95 .add 94 1,m 14 95]))))) (.reg [f 104 1 5,l 105 104,h 106 6 12,x 107 (.bslice 6 [] 1 true [(0,(.t 106))]),Q 108 6 112 105 107,f 109 1 5,(.mk none none (.store 1 (.t 109) (.t 108)))]))))) (.reg [m 71 11,
 q 72 .add 71 1,m 11 72])))))))) (.reg [m 45 9,q 46 .add 45 1,m 9 46]))))) (S (s [f 110 1 5,l 111 110,n 112 111,q 113 .gtr 112 8] (D 113 (.reg [f 114 1 5,l 115 114,x 116 (.slc 6 (.t 115) none (some (K 8))),f 117 1 5,(.mk none none
 (.store 1 (.t 117) (.t 116)))]) F)) (S (s [k 15 0] (B 8 (S (s [m 118 15,f 119 1 5,l 120 119,n 121 120,o 122 .lss 118 121] (D 122 F (.exit 8))) (S (.block 9 (s [f 125 1 5,m 127 15,m 128 0,f 130 1 5,m 132 15,m 135 1,w 136 135,l 126 125,
 h 129 2 5,l 131 130,i 133 6 131 132,h 134 6 133,x 137 (.calla 50 [.t 128,.t 129,.t 134,.t 136]),i 138 6 126 127,(.mk none none (.store 6 (.t 138) (.t 137)))] (s [m 139 1,w 140 139] (D 140 (.reg [f 141 1 5,m 143 15,m 144 0,f 146 1 5,
 m 148 15,l 142 141,h 145 2 5,l 147 146,i 149 6 147 148,h 150 6 149,x 151 (.calla 51 [.t 144,.t 145,.t 150]),i 152 6 142 143,(.mk none none (.store 6 (.t 152) (.t 151)))]) F)))) (.reg [m 123 15,q 124 .add 123 1,m 15 124]))))) (s [h 153 2 5,
 t 4 2 153] R))))))))),[(.c 4 2 true)]⟩
theorem i27:iF 27 g27:=jF Tryz.func27 [(7,2097168),(11,33554448),(16,134217744),(21,528),(28,33554448),(30,2097168)]
def g28:GFun:=⟨⟨53,[3,4,1000005]⟩,(s [a 3 2 1,u 4 1] (s [m 7 0,m 11 0,m 14 0,u 5 1,h 8 2 3,h 9 2 3,G 10 53 [.t 9],x 12 (.calla 47 [.t 11,K 12]),x 13 (.bin .add (K 6) (.t 12)),x 15 (.calla 47 [.t 14,K 3]),q 16 .mul 15 10,x 17
 (.bin .add (K 1) (.t 16)),x 18 (.calla 52 [.t 7,.t 8,.t 10,.t 13,.t 17]),x 5 (.strb 1 5 (.t 18))] (S (s [f 19 0 5,l 20 19,n 21 20,q 22 .gtr 21 16] (D 22 (.reg [m 23 0,h 24 2 3,h 25 2 3,G 26 53 [.t 25],x 27 (.calla 52 [.t 23,.t 24,.t 26,
 K 1,K 1]),x 5 (.strb 1 5 (.t 27))]) F)) (S (s [m 28 0,c 29 32 [.t 28,K 3]] (D 29 (s [k 6 0] (B 0 (S (s [m 30 6,f 31 0 5,l 32 31,n 33 32,o 34 .lss 30 33] (D 34 F (.exit 0))) (S (.block 1 (.reg [f 37 0 5,m 39 6,f 40 0 5,m 42 6,l 38 37,
 l 41 40,i 43 6 41 42,f 44 0 43,l 45 44,q 46 .mul 45 7,q 47 .add 46 3,q 48 .rem 47 97,q 49 .add 48 1,i 50 6 38 39,f 51 0 50,(.mk none none (.store 1 (.t 51) (.t 49)))])) (.reg [m 35 6,q 36 .add 35 1,m 6 36]))))) F)) (s [h 52 1 5,
 t 4 1 52] R))))),[(.c 4 1 true)]⟩
theorem i28:iF 28 g28:=jF Tryz.func28 [(1,8521744),(3,528)]
def g29:GFun:=⟨⟨34,[]⟩,(s [x 6 (.mov (.k (.val (.string (ByteArray.mk #[])))))] (s [m 8 0,m 9 1,x 10 (.slen (.t 9)),q 11 .add 10 1,c 12 47 [.t 8,.t 11],m 7 12] (S (s [m 13 0,c 14 47 [.t 13,K 6]] (.block 0 (s [q 16 .eql 14 0,m 15 16]
 (D 15 (s [m 17 1,m 18 7,x 19 (.sslc (.t 17) none (some (.t 18))),m 20 0,m 21 2,m 24 1,m 25 7,x 26 (.sslc (.t 24) (some (.t 25)) none),x 22 (.calla 49 [.t 20,.t 21]),o 23 .add 19 22,o 27 .add 23 26,m 6 27] R) (s [q 29 .eql 14 1,m 28 29]
 (D 28 (s [m 30 1,m 31 7,x 32 (.sslc (.t 30) none (some (.t 31))),m 6 32] R) F)))))) (s [m 33 1,m 6 33] R)))),[.t 6]⟩
theorem i29:iF 29 g29:=jF Tryz.func29 [(4,2064)]
def g30:GFun:=⟨⟨12,[]⟩,(s [k 4 0] (s [m 5 1,m 6 0,m 7 1,n 8 7,c 9 47 [.t 6,.t 8],i 10 1 5 9,l 11 10,m 4 11] R)),[.t 4]⟩
theorem i30:iF 30 g30:=jF Tryz.func30
def g31:GFun:=⟨⟨169,[3,4,6,1000005,8060002000,9062002000]⟩,(s [a 3 2 1,u 4 1] (S (s [m 10 0,x 11 (.nck (.t 10)),f 12 3 11,l 13 12,m 14 13,N 15 14 0,z 16 14 (.nck (.t 15)),z 17 14 (p 1 1 16),N 19 14 0,z 20 14 (.nck (.t 19)),z 21 14
 (p 1 0 20),z 18 14 (r 1 17),z 22 14 (r 1 21),z 23 14 (.slen (.t 22)),z 24 14 (.bin .geq (.t 18) (.t 23)),O 25 14 24,m 26 25,N 27 26 0,z 28 26 (.nck (.t 27)),z 29 26 (p 1 0 28),N 31 26 0,z 32 26 (.nck (.t 31)),z 33 26 (p 1 1 32),z 30 26
 (r 1 29),z 34 26 (r 1 33),z 35 26 (.idx (.t 30) (.t 34)),z 36 26 (.bin .neq (.t 35) (.k (.val (.int .u8 40)))),O 37 26 36,m 38 37,N 39 38 0,z 40 38 (.nck (.t 39)),z 41 38 (p 1 2 40),z 42 38 (r 1 41),z 43 38 (.bin .gtr (.t 42) (K 1015)),
 O 44 38 43] (D 44 (s [m 45 0,x 46 (.nck (.t 45)),f 47 3 46,(.mk none none (.store 1 (.t 47) (.k (.val (.bool true)))))] (s [x 48 (.build [(.val (.slice none 0 0))] []),t 4 1 48] R)) F)) (s [m 49 0,m 50 0,x 51 (.nck (.t 50)),f 52 1 51,
 l 53 52,q 54 .add 53 1,x 55 (.nck (.t 49)),f 56 1 55,(.mk none none (.store 1 (.t 56) (.t 54)))] (s [m 57 0,x 58 (.nck (.t 57)),f 59 2 58,m 61 0,u 5 6,x 60 (.ldf 1 false 59 0 2),x 62 (.callf 0 2 54 [.t 61]),x 63 (.build [(.val
 (.int .i64 0)),(.val (.int .i64 0)),(.val (.int .i64 0)),(.val (.int .i64 0)),(.val (.string (ByteArray.mk #[]))),(.val (.slice none 0 0))] [(0,(1,(.t 60))),(4,(1,(.t 62)))]),x 5 (.strb 6 5 (.t 63))] (s [m 64 0,m 65 0,x 66 (.nck (.t 65)),
 f 67 2 66,l 68 67,q 69 .add 68 1,x 70 (.nck (.t 64)),f 71 2 70,(.mk none none (.store 1 (.t 71) (.t 69)))] (s [h 73 2 3,f 74 4 5,l 75 74,c 76 44 [.t 73,.t 75],m 72 76,v 77 72 0,v 78 72 1,u 6 6,t 6 6 77,m 7 78] (s [m 79 0,m 80 0,x 81
 (.nck (.t 80)),f 82 3 81,l 83 82,m 84 83,N 85 84 7,z 86 84 (.not (.t 85)),O 87 84 86,x 88 (.nck (.t 79)),f 89 3 88,(.mk none none (.store 1 (.t 89) (.t 87)))] (S (s [f 90 3 6,l 91 90,m 92 91,M 93 92 0,y 94 92 (.nck (.t 93)),y 95 92
 (p 1 3 94),y 96 92 (r 1 95),y 97 92 (.not (.t 96)),A 98 92 97] (D 98 (s [m 99 0,m 100 0,x 101 (.nck (.t 100)),f 102 1 101,l 103 102,q 104 .add 103 1,x 105 (.nck (.t 99)),f 106 1 105,(.mk none none (.store 1 (.t 106) (.t 104)))]
 (s [m 107 0,x 108 (.nck (.t 107)),f 109 1 108,m 111 0,x 112 (.nck (.t 111)),f 113 0 112,l 110 109,l 114 113,x 115 (.slen (.t 114)),o 116 .leq 110 115] (D 116 (.reg [m 118 0,c 119 54 [.t 118],c 120 55 [.t 119],m 117 120,v 121 117 0,
 v 122 117 1,f 123 3 5,(.mk none none (.store 1 (.t 123) (.t 121)))]) F))) F)) (s [E 124 1 true,m 8 124] (S (s [k 9 0] (B 0 (S (s [m 125 9,f 126 2 6,l 127 126,n 128 127,o 129 .lss 125 128,m 130 129,M 131 130 0,y 132 130 (.nck (.t 131)),
 y 133 130 (p 1 3 132),y 134 130 (r 1 133),y 135 130 (.not (.t 134)),A 136 130 135] (D 136 F (.exit 0))) (S (.block 1 (s [m 139 0,m 140 0,x 141 (.nck (.t 140)),f 142 1 141,l 143 142,q 144 .add 143 1,x 145 (.nck (.t 139)),f 146 1 145,
 (.mk none none (.store 1 (.t 146) (.t 144)))] (.reg [m 147 8,m 148 0,h 149 2 3,c 150 31 [.t 148,.t 149],x 151 (.bslice 1 [] 1 true [(0,(.t 150))]),Q 152 1 24 147 151,m 8 152]))) (.reg [m 137 9,q 138 .add 137 1,m 9 138]))))) (s [m 153 0,
 m 154 0,x 155 (.nck (.t 154)),f 156 1 155,l 157 156,q 158 .add 157 1,x 159 (.nck (.t 153)),f 160 1 159,(.mk none none (.store 1 (.t 160) (.t 158)))] (S (s [m 161 0,x 162 (.nck (.t 161)),f 163 3 162,l 164 163] (D 164 (s [x 165
 (.build [(.val (.slice none 0 0))] []),t 4 1 165] R) F)) (s [h 166 6 5,m 167 8,c 168 56 [.t 166,.t 167],t 4 1 168] R))))))))))))),[(.c 4 1 true)]⟩
theorem i31:iF 31 g31:=jF Tryz.func31 [(5,4)]
def g32:GFun:=⟨⟨9,[]⟩,(s [b 4 false] (s [m 5 0,m 6 1,c 7 47 [.t 5,.t 6],q 8 .eql 7 0,m 4 8] R)),[.t 4]⟩
theorem i32:iF 32 g32:=jF Tryz.func32
def g33:GFun:=⟨⟨97,[3,4,3000028,3000038,3000058,4074005,5065005]⟩,(s [a 3 2 1,u 4 1] (s [m 7 0,h 8 2 3,c 9 28 [.t 7,.t 8],x 5 (.alloc 1 (.agg [(.val (.slice none 0 0))])),(.mk none none (.store 1 (.t 5) (.t 9)))] (s [m 10 0,f 11 0 5,
 l 12 11,n 13 12,c 14 47 [.t 10,.t 13],m 6 14] (S (s [m 15 0,c 16 47 [.t 15,K 14]] (.block 0 (s [q 18 .eql 16 0,m 17 18] (D 17 (.reg [f 19 0 5,m 21 6,m 22 0,f 23 0 5,l 20 19,l 24 23,x 25 (.iaddr 6 (.t 24) (K 0)),f 26 0 25,l 27 26,x 28
 (.bslro 1 [] 4 false [(0,(K 0)),(1,(K 1)),(2,(K 1000)),(3,(.t 27))]),x 29 (.calla 30 [.t 22,.t 28]),i 30 6 20 21,f 31 0 30,(.mk none none (.store 1 (.t 31) (.t 29)))]) (s [q 33 .eql 16 1,m 32 33] (D 32 (.reg [f 34 0 5,m 36 6,m 37 0,x 38
 (.bslro 1 [] 2 false [(0,(K 1000001)),(1,(K 5))]),l 35 34,x 39 (.calla 30 [.t 37,.t 38]),i 40 6 35 36,f 41 3 40,(.mk none none (.store 1 (.t 41) (.t 39)))]) (s [q 43 .eql 16 2,m 42 43] (D 42 (.reg [f 44 0 5,m 46 6,m 47 0,l 45 44,x 48
 (.calla 47 [.t 47,K 5]),q 49 .sub 48 1,i 50 6 45 46,f 51 1 50,(.mk none none (.store 1 (.t 51) (.t 49)))]) (s [q 53 .eql 16 3,m 52 53] (D 52 (.reg [f 54 0 5,m 56 6,m 57 0,x 58 (.bslro 1 [] 4 false [(0,(.k (.val (.string
 (ByteArray.mk #[108,101,97,102,115]))))),(1,(.k (.val (.string (ByteArray.mk #[112,115,48]))))),(2,(.k (.val (.string (ByteArray.mk #[108,101,97,102,116]))))),(3,(.k (.val (.string (ByteArray.mk #[122,122])))))]),l 55 54,x 59
 (.calla 49 [.t 57,.t 58]),i 60 6 55 56,f 61 4 60,(.mk none none (.store 1 (.t 61) (.t 59)))]) (s [q 63 .eql 16 4,m 62 63] (D 62 (.reg [f 64 0 5,m 66 6,f 67 0 5,m 69 6,x 65 (.ldx 1 false 64 5),l 68 67,i 70 6 68 69,f 71 5 70,l 72 71,x 73
 (.bslice 1 [] 1 false [(0,(K 1))]),x 74 (.appx [5] 1 8 (.t 72) (.t 73)),i 75 6 65 66,f 76 5 75,(.mk none none (.store 1 (.t 76) (.t 74)))]) (s [q 78 .eql 16 5,m 77 78] (D 77 (.reg [f 79 0 5,f 81 0 5,m 83 6,l 80 79,l 82 81,i 84 6 82 83,
 h 85 6 84,x 86 (.bslice 6 [] 1 true [(0,(.t 85))]),Q 87 6 72 80 86,f 88 0 5,(.mk none none (.store 1 (.t 88) (.t 87)))]) (s [q 90 .eql 16 6,m 89 90] (D 89 (.reg [f 91 0 5,l 92 91,m 93 6,i 94 6 92 93,f 95 2 94,(.mk none none (.store 1
 (.t 95) (K 1)))]) F)))))))))))))))) (s [h 96 1 5,t 4 1 96] R))))),[(.c 4 1 true)]⟩
theorem i33:iF 33 g33:=jF Tryz.func33 [(5,2097168),(7,2064),(9,528),(11,2064)]
def g34:GFun:=⟨⟨43,[3,4,8]⟩,(s [a 3 2 0,a 4 1 1,b 6 false] (S (s [f 9 0 4,l 10 9,n 11 10,c 12 17 [.t 11,K 1,K 16],w 13 12] (D 13 (s [b 6 false] R) F)) (S (s [f 14 0 4,l 15 14,n 16 15,k 17 0] (B 0 (s [o 18 .lss 17 16] (C 18 0 (S
 (.block 1 (s [m 19 17,i 20 6 15 17,h 21 6 20,u 8 6,m 7 19,t 8 6 21] (s [f 22 0 8,l 23 22,c 24 17 [.t 23,K 1,K 999],w 25 24,m 26 25,z 27 26 (p 1 0 4),z 28 26 (r 1 27),N 29 26 7,z 30 26 (.slc 6 (.t 28) none (some (.t 29))),z 31 26
 (.mkfn 58 [.t 8]),z 32 26 (.call false 57 [.t 30,.t 31]),O 33 26 32] (D 33 (s [b 6 false] R) F)))) (.reg [q 34 .add 17 1,m 17 34])))))) (s [m 37 2,f 39 0 4,h 35 2 3,h 36 1 4,G 38 59 [.t 35,.t 36,K 0,K (-1),K 0,.t 37],l 40 39,n 41 40,
 o 42 .eql 38 41,m 6 42] R)))),[.t 6]⟩
theorem i34:iF 34 g34:=jF Tryz.func34
def g35:GFun:=⟨⟨26,[3,4,7]⟩,(s [a 3 2 0,a 4 1 1,x 6 (.mov (.k (.val (.string (ByteArray.mk #[])))))] (S (s [h 9 1 4,m 10 2,c 11 23 [.t 9,.t 10],w 12 11] (D 12 (s [x 6 (.mov (.k (.val (.string (ByteArray.mk #[])))))] R) F)) (s [f 15 0 4,
 m 17 2,u 7 6,h 14 2 3,l 16 15,i 18 6 16 17,f 19 4 18,l 20 19,G 21 36 [.t 14,.t 20],m 13 21,v 22 13 0,v 23 13 1,t 7 6 22,m 8 23] (s [f 24 1 7,l 25 24,m 6 25] R)))),[.t 6]⟩
theorem i35:iF 35 g35:=jF Tryz.func35
def g36:GFun:=⟨⟨22,[2,4,7]⟩,(s [a 2 2 0,u 4 6,b 5 false] (S (s [f 8 1 2,l 9 8,n 10 9,k 11 0] (B 0 (s [o 12 .lss 11 10] (C 12 0 (S (.block 1 (s [i 13 6 9 11,h 14 6 13,u 7 6,t 7 6 14] (s [f 15 0 7,l 16 15,m 17 1,o 18 .eql 16 17] (D 18
 (s [h 19 6 7,t 4 6 19,b 5 true] R) F)))) (.reg [q 20 .add 11 1,m 11 20])))))) (s [x 21 (.build [(.val (.string (ByteArray.mk #[]))),(.val (.string (ByteArray.mk #[]))),(.val (.slice none 0 0)),(.val (.bool false)),(.val (.slice none 0 0)),
 (.val (.slice none 0 0))] []),t 4 6 21,b 5 false] R))),[(.c 4 6 true),.t 5]⟩
theorem i36:iF 36 g36:=jF Tryz.func36
def g37:GFun:=⟨⟨5,[]⟩,(s [x 2 (.mov (.k (.val (.string (ByteArray.mk #[])))))] (s [m 3 0,c 4 60 [.t 3],m 2 4] R)),[.t 2]⟩
theorem i37:iF 37 g37:=jF Tryz.func37
def g38:GFun:=⟨⟨21,[]⟩,(s [b 4 false] (s [m 8 0,x 9 (.nck (.t 8)),f 10 2 9,l 11 10,m 12 1,c 13 61 [.t 11,.t 12],m 7 13,v 14 7 0,v 15 7 1,m 5 14,m 6 15] (s [m 16 0,m 17 5,x 18 (.nck (.t 16)),f 19 2 18,(.mk none none (.store 1 (.t 19)
 (.t 17)))] (s [m 20 6,m 4 20] R)))),[.t 4]⟩
theorem i38:iF 38 g38:=jF Tryz.func38
def g39:GFun:=⟨⟨33,[]⟩,(s [x 2 (.mov (.k (.val (.string (ByteArray.mk #[])))))] (s [m 5 0,x 6 (.nck (.t 5)),f 7 2 6,l 8 7,x 9 (.call false 62 [.t 8,(.k (.val (.string (ByteArray.mk #[32,41]))))]),m 3 9] (S (s [m 10 3,q 11 .lss 10 0]
 (D 11 (.reg [m 12 0,x 13 (.nck (.t 12)),f 14 2 13,l 15 14,x 16 (.slen (.t 15)),m 3 16]) F)) (s [m 17 0,x 18 (.nck (.t 17)),f 19 2 18,l 20 19,m 21 3,x 22 (.sslc (.t 20) none (some (.t 21))),m 4 22] (s [m 23 0,m 24 0,x 25 (.nck (.t 24)),
 f 26 2 25,l 27 26,m 28 3,x 29 (.sslc (.t 27) (some (.t 28)) none),x 30 (.nck (.t 23)),f 31 2 30,(.mk none none (.store 1 (.t 31) (.t 29)))] (s [m 32 4,m 2 32] R)))))),[.t 2]⟩
theorem i39:iF 39 g39:=jF Tryz.func39
def g40:GFun:=⟨⟨35,[]⟩,(s [b 2 false] (S (s [m 4 0,x 5 (.slen (.t 4)),k 6 0] (B 0 (s [o 7 .lss 6 5] (C 7 0 (S (.block 1 (s [m 8 6,m 3 8] (s [m 9 0,m 10 3,x 11 (.idx (.t 9) (.t 10)),c 12 63 [.t 11],w 13 12,m 14 13,M 15 14 0,M 16 14 3,
 y 17 14 (.idx (.t 15) (.t 16)),y 18 14 (.call false 64 [.t 17]),y 19 14 (.not (.t 18)),A 20 14 19] (D 20 (s [b 2 false] R) F)))) (.reg [q 21 .add 6 1,m 6 21])))))) (s [m 22 0,x 23 (.slen (.t 22)),c 24 17 [.t 23,K 1,K 8],m 25 24,M 26 25 0,
 y 27 25 (.idx (.t 26) (K 0)),y 28 25 (.call false 63 [.t 27]),A 29 25 28,m 30 29,M 31 30 0,y 32 30 (.call false 65 [.t 31]),y 33 30 (.not (.t 32)),A 34 30 33,m 2 34] R))),[.t 2]⟩
theorem i40:iF 40 g40:=jF Tryz.func40
def g41:GFun:=⟨⟨8,[]⟩,(s [k 2 0,b 3 false] (s [m 4 0,c 5 66 [.t 4,K (-999999999999),K 999999999999],v 6 5 0,v 7 5 1,m 2 6,m 3 7] R)),[.t 2,.t 3]⟩
theorem i41:iF 41 g41:=jF Tryz.func41
def g42:GFun:=⟨⟨43,[1]⟩,(s [a 1 1 0,b 2 false] (s [E 5 1 false,m 3 5] (S (s [k 4 0] (B 0 (S (s [m 6 4,f 7 0 1,l 8 7,n 9 8,o 10 .lss 6 9] (D 10 F (.exit 0))) (S (.block 1 (S (s [f 13 0 1,l 14 13,m 15 4,i 16 6 14 15,f 17 0 16,l 18 17,
 c 19 24 [.t 18,K 1,K 999],w 20 19,m 21 20,N 22 21 3,z 23 21 (p 1 0 1),z 24 21 (r 1 23),N 25 21 4,z 26 21 (.iaddr 6 (.t 24) (.t 25)),z 27 21 (p 1 0 26),z 28 21 (r 1 27),z 29 21 (.call false 67 [.t 22,.t 28]),O 30 21 29] (D 30
 (s [b 2 false] R) F)) (.reg [m 31 3,f 32 0 1,l 33 32,m 34 4,i 35 6 33 34,f 36 0 35,l 37 36,x 38 (.bslice 1 [] 1 false [(0,(.t 37))]),Q 39 1 8 31 38,m 3 39]))) (.reg [m 11 4,q 12 .add 11 1,m 4 12]))))) (s [m 40 3,n 41 40,c 42 24 [.t 41,K 1,
 K 16],m 2 42] R)))),[.t 2]⟩
theorem i42:iF 42 g42:=jF Tryz.func42
def g43:GFun:=⟨⟨109,[6,7,13,14]⟩,(s [a 6 2 0,a 7 1 1,k 12 0] (S (s [m 18 2,f 19 0 7,l 20 19,n 21 20,o 22 .geq 18 21] (D 22 (s [k 12 (-1)] R) F)) (s [f 23 0 7,l 24 23,m 25 2,i 26 6 24 25,h 27 6 26,u 13 6,t 13 6 27] (s [h 29 2 6,
 f 30 4 13,l 31 30,c 32 44 [.t 29,.t 31],m 28 32,v 33 28 0,v 34 28 1,u 14 6,t 14 6 33,m 15 34] (S (s [m 35 15,w 36 35,m 37 36,z 38 37 (p 1 1 14),z 39 37 (r 1 38),N 40 37 5,z 41 37 (.bin .neq (.t 39) (.t 40)),O 42 37 41,m 43 42,z 44 43
 (p 1 1 13),z 45 43 (r 1 44),N 46 43 3,z 47 43 (.bin .neq (.t 45) (.t 46)),O 48 43 47,m 49 48,z 50 49 (p 1 2 13),z 51 49 (r 1 50),N 52 49 4,z 53 49 (.bin .neq (.t 51) (.t 52)),O 54 49 53,m 55 54,z 56 55 (p 1 5 13),z 57 55 (r 1 56),z 58 55
 (.len (.t 57)),z 59 55 (p 1 2 14),z 60 55 (r 1 59),z 61 55 (.len (.t 60)),z 62 55 (.bin .neq (.t 58) (.t 61)),O 63 55 62] (D 63 (s [k 12 (-1)] R) F)) (S (s [f 64 3 13,l 65 64,c 66 68 [.t 65,K 1],w 67 66,m 68 67,z 69 68 (p 1 3 14),z 70 68
 (r 1 69),z 71 68 (.not (.t 70)),N 72 68 71,y 73 72 (p 1 3 13),y 74 72 (r 1 73),y 75 72 (.bin .neq (.t 74) (K 0)),z 76 68 (.pick (.t 72) (.t 75) (.k (.val (.bool false)))),O 77 68 76] (D 77 (s [k 12 (-1)] R) F)) (s [m 78 2,q 79 .add 78 1,
 m 16 79] (S (s [k 17 0] (B 0 (S (s [m 80 17,f 81 2 14,l 82 81,n 83 82,o 84 .lss 80 83] (D 84 F (.exit 0))) (S (.block 1 (S (s [f 87 5 13,l 88 87,m 89 17,i 90 1 88 89,l 91 90,m 92 16,o 93 .neq 91 92] (D 93 (s [k 12 (-1)] R) F)) (s [m 96 16,
 m 97 2,m 98 17,q 99 .add 98 1,f 100 2 14,m 102 17,h 94 2 6,h 95 1 7,l 101 100,i 103 1 101 102,l 104 103,G 105 43 [.t 94,.t 95,.t 96,.t 97,.t 99,.t 104],m 16 105] (s [m 106 16,q 107 .lss 106 0] (D 107 (s [k 12 (-1)] R) F)))))
 (.reg [m 85 17,q 86 .add 85 1,m 17 86]))))) (s [m 108 16,m 12 108] R))))))))),[.t 12]⟩
theorem i43:iF 43 g43:=jF Tryz.func43
def g44:GFun:=⟨⟨29,[2,4]⟩,(s [a 2 2 0,u 4 6,b 5 false] (S (s [k 6 0] (B 0 (S (s [m 7 6,f 8 1 2,l 9 8,n 10 9,o 11 .lss 7 10] (D 11 F (.exit 0))) (S (.block 1 (s [f 14 1 2,l 15 14,m 16 6,i 17 6 15 16,f 18 0 17,l 19 18,m 20 1,
 o 21 .eql 19 20] (D 21 (s [f 22 1 2,l 23 22,m 24 6,i 25 6 23 24,h 26 6 25,c 27 69 [.t 26],t 4 6 27,b 5 true] R) F))) (.reg [m 12 6,q 13 .add 12 1,m 6 13]))))) (s [x 28 (.build [(.val (.string (ByteArray.mk #[]))),(.val (.string
 (ByteArray.mk #[]))),(.val (.slice none 0 0)),(.val (.bool false)),(.val (.slice none 0 0)),(.val (.slice none 0 0))] []),t 4 6 28,b 5 false] R))),[(.c 4 6 true),.t 5]⟩
theorem i44:iF 44 g44:=jF Tryz.func44
def g45:GFun:=⟨⟨31,[]⟩,(s [x 2 (.mov (.k (.val (.string (ByteArray.mk #[])))))] (S (s [m 6 0,q 7 .eql 6 0] (D 7 (s [x 2 (.mov (.k (.val (.string (ByteArray.mk #[48])))))] R) F)) (s [m 8 0,q 9 .lss 8 0,m 3 9] (s [x 4 (.mov (.k (.val
 (.string (ByteArray.mk #[])))))] (S (B 0 (S (s [m 10 0,q 11 .neq 10 0] (D 11 F (.exit 0))) (.block 1 (s [m 12 0,q 13 .rem 12 10,m 5 13] (S (s [m 14 5,q 15 .lss 14 0] (D 15 (.reg [m 16 5,x 17 (.bin .sub (K 0) (.t 16)),m 5 17]) F))
 (s [m 18 5,x 19 (.bin .add (K 48) (.t 18)),x 20 (.conv .u8 (.t 19)),x 21 (.bslice 1 [] 1 false [(0,(.t 20))]),x 22 (.b2s (.t 21)),m 23 4,o 24 .add 22 23,m 4 24] (.reg [m 25 0,q 26 .quo 25 10,m 0 26]))))))) (S (s [m 27 3] (D 27 (s [m 28 4,
 x 29 (.bin .add (.k (.val (.string (ByteArray.mk #[45])))) (.t 28)),m 2 29] R) F)) (s [m 30 4,m 2 30] R))))))),[.t 2]⟩
theorem i45:iF 45 g45:=jF Tryz.func45
def g46:GFun:=⟨⟨26,[]⟩,(s [b 4 false] (S (s [m 6 0,n 7 6,m 8 1,n 9 8,o 10 .neq 7 9] (D 10 (s [b 4 false] R) F)) (S (s [k 5 0] (B 0 (S (s [m 11 5,m 12 0,n 13 12,o 14 .lss 11 13] (D 14 F (.exit 0))) (S (.block 1 (s [m 17 0,m 18 5,
 i 19 1 17 18,m 21 1,m 22 5,i 23 1 21 22,l 20 19,l 24 23,o 25 .neq 20 24] (D 25 (s [b 4 false] R) F))) (.reg [m 15 5,q 16 .add 15 1,m 5 16]))))) (s [b 4 true] R)))),[.t 4]⟩
theorem i46:iF 46 g46:=jF Tryz.func46
def g47:GFun:=⟨⟨37,[]⟩,(s [k 4 0] (S (s [m 9 1,q 10 .leq 9 0] (D 10 (s [k 4 0] R) F)) (S (s [m 11 1,q 12 .leq 11 256] (D 12 (s [m 13 0,c 14 70 [.t 13],m 15 1,o 16 .rem 14 15,m 4 16] R) F)) (s [m 17 0,c 18 70 [.t 17],m 5 18] (s [m 19 0,
 c 20 70 [.t 19],m 6 20] (s [m 21 0,c 22 70 [.t 21],m 7 22] (s [m 23 0,c 24 70 [.t 23],m 8 24] (s [m 25 5,q 26 .mul 25 16777216,m 27 6,q 28 .mul 27 65536,o 29 .add 26 28,m 30 7,q 31 .mul 30 256,o 32 .add 29 31,m 33 8,o 34 .add 32 33,m 35 1,
 o 36 .rem 34 35,m 4 36] R)))))))),[.t 4]⟩
theorem i47:iF 47 g47:=jF Tryz.func47
def g48:GFun:=⟨⟨65,[8,1000012,3000023,3000028,3000031,3000036]⟩,(s [u 8 2] (s [m 13 1,x 14 (.build [(.val (.string (ByteArray.mk #[]))),(.val (.slice none 0 0))] [(0,(1,(.t 13)))]),x 9 (.alloc 2 (.agg [(.val (.string
 (ByteArray.mk #[]))),(.val (.slice none 0 0))])),(.mk none none (.store 2 (.t 9) (.t 14)))] (s [m 15 0,c 16 47 [.t 15,K 4],x 17 (.bin .add (K 1) (.t 16)),m 10 17] (S (s [k 11 0] (B 0 (S (s [m 18 11,m 19 10,o 20 .lss 18 19] (D 20 F
 (.exit 0))) (S (.block 1 (s [x 23 (.bslro 1 [] 4 false [(0,(.k (.val (.string (ByteArray.mk #[97]))))),(1,(.k (.val (.string (ByteArray.mk #[98]))))),(2,(.k (.val (.string (ByteArray.mk #[99]))))),(3,(.k (.val (.string
 (ByteArray.mk #[100])))))]),m 24 11,i 25 1 23 24,m 27 0,x 28 (.bslro 1 [] 6 false [(0,(K 1)),(1,(K 1)),(2,(K 2)),(3,(K 2)),(4,(K 3)),(5,(K 4))]),m 30 0,x 31 (.bslro 1 [] 6 false [(0,(K 1)),(1,(K 2)),(2,(K 2)),(3,(K 1)),(4,(K 2)),(5,
 (K 3))]),u 12 4,l 26 25,x 29 (.calla 30 [.t 27,.t 28]),x 32 (.calla 30 [.t 30,.t 31]),x 33 (.build [(.val (.string (ByteArray.mk #[]))),(.val (.int .i64 0)),(.val (.int .i64 0)),(.val (.bool false))] [(0,(1,(.t 26))),(1,(1,(.t 29))),(2,(1,
 (.t 32)))]),x 12 (.strb 4 12 (.t 33))] (S (s [m 34 3] (D 34 (.reg [m 35 0,x 36 (.bslro 1 [] 4 false [(0,(K 1)),(1,(K 1)),(2,(K 2)),(3,(K 3))]),c 37 30 [.t 35,.t 36],f 38 1 12,(.mk none none (.store 1 (.t 38) (.t 37)))]) F)) (S (s [m 39 2,
 m 40 39,y 41 40 (p 1 2 12),y 42 40 (r 1 41),I 43 40 42 1,A 44 40 43,m 45 44,N 46 45 3,N 47 45 46,y 48 47 (p 1 2 12),y 49 47 (r 1 48),I 50 47 49 3,z 51 45 (.pick (.t 47) (.t 50) (.k (.val (.bool false)))),O 52 45 51] (D 52 (.reg [f 53 2 12,
 (.mk none none (.store 1 (.t 53) (K 2)))]) F)) (S (s [f 54 2 12,l 55 54,q 56 .eql 55 3] (D 56 (.reg [f 57 1 12,(.mk none none (.store 1 (.t 57) (K 2)))]) F)) (.reg [f 58 1 9,l 59 58,h 60 4 12,x 61 (.bslice 4 [] 1 true [(0,(.t 60))]),
 Q 62 4 40 59 61,f 63 1 9,(.mk none none (.store 1 (.t 63) (.t 62)))])))))) (.reg [m 21 11,q 22 .add 21 1,m 11 22]))))) (s [h 64 2 9,t 8 2 64] R))))),[(.c 8 2 true)]⟩
theorem i48:iF 48 g48:=jF Tryz.func48 [(6,532496)]
def g49:GFun:=⟨⟨12,[]⟩,(s [x 4 (.mov (.k (.val (.string (ByteArray.mk #[])))))] (s [m 5 1,m 6 0,m 7 1,n 8 7,c 9 47 [.t 6,.t 8],i 10 1 5 9,l 11 10,m 4 11] R)),[.t 4]⟩
theorem i49:iF 49 g49:=jF Tryz.func49
def g50:GFun:=⟨⟨77,[5,8,11,13,1000015,3000063]⟩,(s [a 5 2 1,x 6 (.box 6 (.t 2)),u 8 6] (s [h 16 2 5,h 17 6 6,c 18 71 [.t 16,.t 17],m 9 18] (S (s [k 10 0] (B 0 (S (s [m 19 10,m 20 9,n 21 20,o 22 .lss 19 21] (D 22 F (.exit 0))) (S
 (.block 1 (s [m 28 9,m 29 10,i 30 2 28 29,f 31 0 30,u 11 2,h 26 2 5,h 27 6 6,l 32 31,G 33 73 [.t 27,.t 32],G 34 72 [.t 26,.t 33],m 25 34,v 35 25 0,v 36 25 1,t 11 2 35,m 12 36] (s [m 39 9,m 40 10,i 41 2 39 40,f 42 1 41,u 13 4,h 38 2 11,
 l 43 42,G 44 74 [.t 38,.t 43],m 37 44,v 45 37 0,v 46 37 1,t 13 4 45,m 14 46] (s [m 47 0,f 50 1 13,m 52 0,m 55 3,u 15 7,h 48 2 5,h 49 6 6,l 51 50,x 53 (.calla 47 [.t 52,K 3]),x 54 (.bin .add (K 1) (.t 53)),x 56 (.calla 75 [.t 47,.t 48,
 .t 49,.t 51,.t 54,.t 55]),x 15 (.strb 7 15 (.t 56))] (S (s [h 57 7 15,c 58 76 [.t 57],w 59 58] (D 59 (.reg [m 60 0,f 61 1 13,l 62 61,x 63 (.bslro 2 [] 0 true []),c 64 77 [.t 60,.t 62,.t 63],x 15 (.strb 7 15 (.t 64))]) F)) (.reg [f 65 4 6,
 m 67 9,m 68 10,i 69 2 67 68,l 66 65,h 70 2 69,h 71 7 15,x 72 (.build [(.val (.int .i64 0)),(.val (.string (ByteArray.mk #[]))),(.val (.int .i64 0)),(.val (.int .i64 0)),(.val (.int .i64 0)),(.val (.int .i64 0)),(.val (.string
 (ByteArray.mk #[]))),(.val (.string (ByteArray.mk #[]))),(.val (.slice none 0 0))] [(0,(2,(.t 70))),(2,(7,(.t 71)))]),x 73 (.bslice 9 [] 1 true [(0,(.t 72))]),Q 74 9 112 66 73,f 75 4 6,(.mk none none (.store 1 (.t 75) (.t 74)))]))))))
 (.reg [m 23 10,q 24 .add 23 1,m 10 24]))))) (s [h 76 6 6,t 8 6 76] R)))),[(.c 8 6 true)]⟩
theorem i50:iF 50 g50:=jF Tryz.func50 [(7,532496)]
def g51:GFun:=⟨⟨76,[4,6,9]⟩,(s [a 4 2 1,x 5 (.box 6 (.t 2)),u 6 6] (S (s [k 7 0] (B 0 (S (s [m 10 7,f 11 0 4,l 12 11,n 13 12,o 14 .lss 10 13] (D 14 F (.exit 0))) (S (.block 1 (s [k 8 0] (B 2 (S (s [m 17 8,f 18 0 4,l 19 18,m 20 7,
 i 21 2 19 20,f 22 1 21,l 23 22,n 24 23,o 25 .lss 17 24] (D 25 F (.exit 2))) (S (.block 3 (s [f 28 0 4,l 29 28,m 30 7,i 31 2 29 30,f 32 1 31,l 33 32,m 34 8,i 35 4 33 34,h 36 4 35,u 9 4,t 9 4 36] (s [f 37 2 9,l 38 37,q 39 .eql 38 3,m 40 39,
 y 41 40 (p 1 5 5),y 42 40 (r 1 41),y 43 40 (.len (.t 42)),y 44 40 (.bin .lss (.t 43) (K 2)),A 45 40 44,m 46 45,M 47 46 0,y 48 46 (.call false 32 [.t 47,K 3]),y 49 46 (.not (.t 48)),A 50 46 49] (D 50 (.reg [f 51 5 5,f 53 0 4,m 55 7,
 f 59 0 9,m 61 0,m 66 0,l 52 51,l 54 53,i 56 2 54 55,f 57 0 56,l 58 57,l 60 59,h 62 2 4,h 63 6 5,G 64 78 [.t 62,.t 63,K 4],h 67 2 4,h 68 6 5,x 65 (.calla 77 [.t 61,K 4,.t 64]),G 69 78 [.t 67,.t 68,K 2],x 70 (.calla 77 [.t 66,K 2,.t 69]),
 x 71 (.build [(.val (.string (ByteArray.mk #[]))),(.val (.string (ByteArray.mk #[]))),(.val (.int .i64 0)),(.val (.int .i64 0)),(.val (.int .i64 0)),(.val (.int .i64 0)),(.val (.string (ByteArray.mk #[]))),(.val (.string
 (ByteArray.mk #[]))),(.val (.slice none 0 0)),(.val (.int .i64 0)),(.val (.int .i64 0)),(.val (.int .i64 0)),(.val (.int .i64 0)),(.val (.string (ByteArray.mk #[]))),(.val (.string (ByteArray.mk #[]))),(.val (.slice none 0 0))] [(0,(1,
 (.t 58))),(1,(1,(.t 60))),(2,(7,(.t 65))),(9,(7,(.t 70)))]),x 72 (.bslice 16 [] 1 true [(0,(.t 71))]),Q 73 16 208 52 72,f 74 5 5,(.mk none none (.store 1 (.t 74) (.t 73)))]) F)))) (.reg [m 26 8,q 27 .add 26 1,m 8 27])))))) (.reg [m 15 7,
 q 16 .add 15 1,m 7 16]))))) (s [h 75 6 5,t 6 6 75] R))),[(.c 6 6 true)]⟩
theorem i51:iF 51 g51:=jF Tryz.func51 [(9,550292684816)]
def g52:GFun:=⟨⟨70,[6,10,11,16]⟩,(s [a 6 2 1,u 10 1] (s [m 17 0,h 18 2 6,m 19 2,m 20 3,c 21 79 [.t 17,.t 18,.t 19,.t 20],u 11 6,t 11 6 21] (s [m 22 4,f 23 0 11,l 24 23,x 25 (.build [(.val (.int .i64 0)),(.val (.int .i64 0)),(.val
 (.int .i64 0)),(.val (.int .i64 0)),(.val (.string (ByteArray.mk #[]))),(.val (.slice none 0 0))] [(0,(1,(.t 22))),(4,(1,(.t 24)))]),x 12 (.alloc 6 (.agg [(.val (.int .i64 0)),(.val (.int .i64 0)),(.val (.int .i64 0)),(.val (.int .i64 0)),
 (.val (.string (ByteArray.mk #[]))),(.val (.slice none 0 0))])),(.mk none none (.store 6 (.t 12) (.t 25)))] (S (s [f 26 3 11,l 27 26] (D 27 (.reg [m 28 0,c 29 47 [.t 28,K 9],q 30 .sub 29 2,f 31 3 12,(.mk none none (.store 1 (.t 31)
 (.t 30)))]) F)) (s [m 32 4,q 33 .add 32 1,m 13 33] (s [E 34 1 true,m 14 34] (S (s [k 15 0] (B 0 (S (s [m 35 15,f 36 2 11,l 37 36,n 38 37,o 39 .lss 35 38] (D 39 F (.exit 0))) (S (.block 1 (s [m 42 0,f 44 2 11,m 46 15,m 49 3,f 50 2 11,
 m 56 13,u 16 1,h 43 2 6,l 45 44,i 47 1 45 46,l 48 47,l 51 50,n 52 51,G 53 25 [K 1,.t 52],o 54 .quo 49 53,q 55 .sub 54 1,x 57 (.calla 52 [.t 42,.t 43,.t 48,.t 55,.t 56]),t 16 1 57] (s [m 58 13,f 59 0 16,l 60 59,n 61 60,o 62 .add 58 61,
 m 13 62] (.reg [m 63 14,h 64 1 16,x 65 (.bslice 1 [] 1 true [(0,(.t 64))]),Q 66 1 24 63 65,m 14 66])))) (.reg [m 40 15,q 41 .add 40 1,m 15 41]))))) (s [h 67 6 12,m 68 14,c 69 56 [.t 67,.t 68],t 10 1 69] R)))))))),[(.c 10 1 true)]⟩
theorem i52:iF 52 g52:=jF Tryz.func52 [(10,2147483664)]
def g53:GFun:=⟨⟨12,[1]⟩,(s [a 1 2 0,x 2 (.mov (.k (.val (.string (ByteArray.mk #[])))))] (S (s [f 3 0 1,l 4 3,n 5 4,q 6 .eql 5 0] (D 6 (s [x 2 (.mov (.k (.val (.string (ByteArray.mk #[])))))] R) F)) (s [f 7 0 1,l 8 7,x 9 (.iaddr 2
 (.t 8) (K 0)),f 10 0 9,l 11 10,m 2 11] R))),[.t 2]⟩
theorem i53:iF 53 g53:=jF Tryz.func53
def g54:GFun:=⟨⟨72,[]⟩,(s [x 2 (.mov (.k (.val (.string (ByteArray.mk #[])))))] (s [m 4 0,x 5 (.nck (.t 4)),f 6 1 5,l 7 6,m 3 7] (S (B 0 (S (s [m 8 0,x 9 (.nck (.t 8)),f 10 1 9,m 12 0,x 13 (.nck (.t 12)),f 14 0 13,l 11 10,l 15 14,x 16
 (.slen (.t 15)),o 17 .lss 11 16,m 18 17,M 19 18 0,y 20 18 (.nck (.t 19)),y 21 18 (p 1 0 20),M 23 18 0,y 24 18 (.nck (.t 23)),y 25 18 (p 1 1 24),y 22 18 (r 1 21),y 26 18 (r 1 25),y 27 18 (.idx (.t 22) (.t 26)),y 28 18 (.bin .neq (.t 27)
 (.k (.val (.int .u8 32)))),A 29 18 28,m 30 29,M 31 30 0,y 32 30 (.nck (.t 31)),y 33 30 (p 1 0 32),M 35 30 0,y 36 30 (.nck (.t 35)),y 37 30 (p 1 1 36),y 34 30 (r 1 33),y 38 30 (r 1 37),y 39 30 (.idx (.t 34) (.t 38)),y 40 30 (.bin .neq
 (.t 39) (.k (.val (.int .u8 41)))),A 41 30 40,m 42 41,M 43 42 0,y 44 42 (.nck (.t 43)),y 45 42 (p 1 0 44),M 47 42 0,y 48 42 (.nck (.t 47)),y 49 42 (p 1 1 48),y 46 42 (r 1 45),y 50 42 (r 1 49),y 51 42 (.idx (.t 46) (.t 50)),y 52 42
 (.bin .neq (.t 51) (.k (.val (.int .u8 40)))),A 53 42 52] (D 53 F (.exit 0))) (.block 1 (.reg [m 54 0,m 55 0,x 56 (.nck (.t 55)),f 57 1 56,l 58 57,q 59 .add 58 1,x 60 (.nck (.t 54)),f 61 1 60,(.mk none none (.store 1 (.t 61)
 (.t 59)))])))) (s [m 62 0,x 63 (.nck (.t 62)),f 64 0 63,m 66 3,m 67 0,x 68 (.nck (.t 67)),f 69 1 68,l 65 64,l 70 69,x 71 (.sslc (.t 65) (some (.t 66)) (some (.t 70))),m 2 71] R)))),[.t 2]⟩
theorem i54:iF 54 g54:=jF Tryz.func54
def g55:GFun:=⟨⟨8,[]⟩,(s [k 2 0,b 3 false] (s [m 4 0,c 5 80 [.t 4,K 12],v 6 5 0,v 7 5 1,m 2 6,m 3 7] R)),[.t 2,.t 3]⟩
theorem i55:iF 55 g55:=jF Tryz.func55
def g56:GFun:=⟨⟨96,[4,4037005,5029005]⟩,(s [x 2 (.box 6 (.t 0)),u 4 1] (s [f 12 1 2,(.mk none none (.store 1 (.t 12) (K (-1))))] (s [f 13 2 2,(.mk none none (.store 1 (.t 13) (K 0)))] (s [E 14 1 false,f 15 5 2,(.mk none none (.store 1
 (.t 15) (.t 14)))] (s [h 16 6 2,x 17 (.bslice 6 [] 1 true [(0,(.t 16))]),x 18 (.build [(.val (.slice none 0 0))] [(0,(1,(.t 17)))]),x 5 (.alloc 1 (.agg [(.val (.slice none 0 0))])),(.mk none none (.store 1 (.t 5) (.t 18)))] (S (s [k 6 0]
 (B 0 (S (s [m 19 6,m 20 1,n 21 20,o 22 .lss 19 21] (D 22 F (.exit 0))) (S (.block 1 (s [f 25 0 5,l 26 25,n 27 26,m 7 27] (s [f 28 0 5,f 30 0 5,m 35 7,x 29 (.ldx 1 false 28 5),l 31 30,x 32 (.iaddr 6 (.t 31) (K 0)),f 33 5 32,l 34 33,x 36
 (.bslice 1 [] 1 false [(0,(.t 35))]),x 37 (.appx [5] 1 8 (.t 34) (.t 36)),x 38 (.iaddr 6 (.t 29) (K 0)),f 39 5 38,(.mk none none (.store 1 (.t 39) (.t 37)))] (s [k 8 0] (B 2 (S (s [m 40 8,m 41 1,m 42 6,i 43 1 41 42,f 44 0 43,l 45 44,
 n 46 45,o 47 .lss 40 46] (D 47 F (.exit 2))) (S (.block 3 (s [m 50 1,m 51 6,i 52 1 50 51,f 53 0 52,l 54 53,m 55 8,i 56 6 54 55,h 57 6 56,x 9 (.alloc 6 (.agg [(.val (.int .i64 0)),(.val (.int .i64 0)),(.val (.int .i64 0)),(.val
 (.int .i64 0)),(.val (.string (ByteArray.mk #[]))),(.val (.slice none 0 0))])),(.mk none none (.store 6 (.t 9) (.t 57)))] (s [f 58 1 9,l 59 58,m 60 7,o 61 .add 59 60,f 62 1 9,(.mk none none (.store 1 (.t 62) (.t 61)))] (S (s [m 63 8,
 q 64 .eql 63 0] (D 64 (s [f 65 1 9,(.mk none none (.store 1 (.t 65) (K 0)))] (.reg [m 66 6,q 67 .add 66 1,f 68 2 9,(.mk none none (.store 1 (.t 68) (.t 67)))])) F)) (s [E 69 1 false,m 10 69] (S (s [k 11 0] (B 4 (S (s [m 70 11,f 71 5 9,
 l 72 71,n 73 72,o 74 .lss 70 73] (D 74 F (.exit 4))) (S (.block 5 (.reg [m 77 10,f 78 5 9,l 79 78,m 80 11,i 81 1 79 80,l 82 81,m 83 7,o 84 .add 82 83,x 85 (.bslice 1 [] 1 false [(0,(.t 84))]),Q 86 1 8 77 85,m 10 86])) (.reg [m 75 11,
 q 76 .add 75 1,m 11 76]))))) (s [m 87 10,f 88 5 9,(.mk none none (.store 1 (.t 88) (.t 87)))] (.reg [f 89 0 5,l 90 89,h 91 6 9,x 92 (.bslice 6 [] 1 true [(0,(.t 91))]),Q 93 6 72 90 92,f 94 0 5,(.mk none none (.store 1 (.t 94)
 (.t 93)))])))))))) (.reg [m 48 8,q 49 .add 48 1,m 8 49])))))))) (.reg [m 23 6,q 24 .add 23 1,m 6 24]))))) (s [h 95 1 5,t 4 1 95] R))))))),[(.c 4 1 true)]⟩
theorem i56:iF 56 g56:=jF Tryz.func56
def g57:GFun:=⟨⟨9,[]⟩,(s [b 4 false] (s [m 5 0,m 6 1,c 7 81 [.t 5,.t 6],q 8 .geq 7 0,m 4 8] R)),[.t 4]⟩
theorem i57:iF 57 g57:=jF Tryz.func57
def g58:GFun:=⟨⟨9,[2]⟩,(s [a 2 6 0,b 3 false] (s [f 4 0 2,l 5 4,f 6 0 1,l 7 6,o 8 .eql 5 7,m 3 8] R)),[.t 3]⟩
theorem i58:iF 58 g58:=jF Tryz.func58
def g59:GFun:=⟨⟨110,[6,7,13,14]⟩,(s [a 6 2 0,a 7 1 1,k 12 0] (S (s [m 19 2,f 20 0 7,l 21 20,n 22 21,o 23 .geq 19 22] (D 23 (s [k 12 (-1)] R) F)) (s [f 24 0 7,l 25 24,m 26 2,i 27 6 25 26,h 28 6 27,u 13 6,t 13 6 28] (s [h 30 2 6,
 f 31 4 13,l 32 31,c 33 36 [.t 30,.t 32],m 29 33,v 34 29 0,v 35 29 1,u 14 6,t 14 6 34,m 15 35] (S (s [m 36 15,w 37 36,m 38 37,z 39 38 (p 1 1 14),z 40 38 (r 1 39),N 41 38 5,z 42 38 (.bin .neq (.t 40) (.t 41)),O 43 38 42,m 44 43,z 45 44
 (p 1 1 13),z 46 44 (r 1 45),N 47 44 3,z 48 44 (.bin .neq (.t 46) (.t 47)),O 49 44 48,m 50 49,z 51 50 (p 1 2 13),z 52 50 (r 1 51),N 53 50 4,z 54 50 (.bin .neq (.t 52) (.t 53)),O 55 50 54,m 56 55,z 57 56 (p 1 5 13),z 58 56 (r 1 57),z 59 56
 (.len (.t 58)),z 60 56 (p 1 2 14),z 61 56 (r 1 60),z 62 56 (.len (.t 61)),z 63 56 (.bin .neq (.t 59) (.t 62)),O 64 56 63,m 65 64,z 66 65 (p 1 3 13),z 67 65 (r 1 66),z 68 65 (.call false 17 [.t 67,K (-1000000),K 1000000]),z 69 65 (.not
 (.t 68)),O 70 65 69,m 71 70,z 72 71 (p 1 3 14),z 73 71 (r 1 72),z 74 71 (.not (.t 73)),N 75 71 74,y 76 75 (p 1 3 13),y 77 75 (r 1 76),y 78 75 (.bin .neq (.t 77) (K 0)),z 79 71 (.pick (.t 75) (.t 78) (.k (.val (.bool false)))),O 80 71 79]
 (D 80 (s [k 12 (-1)] R) F)) (s [m 81 2,q 82 .add 81 1,m 16 82] (S (s [f 83 5 13,l 84 83,n 85 84,k 86 0] (B 0 (s [o 87 .lss 86 85] (C 87 0 (S (.block 1 (s [m 88 86,i 89 1 84 86,l 90 89,m 17 88,m 18 90] (S (s [m 91 18,m 92 16,
 o 93 .neq 91 92] (D 93 (s [k 12 (-1)] R) F)) (s [m 96 16,m 97 2,m 98 17,q 99 .add 98 1,f 100 2 14,m 102 17,h 94 2 6,h 95 1 7,l 101 100,i 103 1 101 102,l 104 103,G 105 59 [.t 94,.t 95,.t 96,.t 97,.t 99,.t 104],m 16 105] (s [m 106 16,
 q 107 .lss 106 0] (D 107 (s [k 12 (-1)] R) F)))))) (.reg [q 108 .add 86 1,m 86 108])))))) (s [m 109 16,m 12 109] R)))))))),[.t 12]⟩
theorem i59:iF 59 g59:=jF Tryz.func59
def g63:GFun:=⟨⟨9,[]⟩,(s [b 2 false] (s [m 3 0,x 4 (.bin .geq (.t 3) (.k (.val (.int .u8 97)))),m 5 4,M 6 5 0,y 7 5 (.bin .leq (.t 6) (.k (.val (.int .u8 122)))),A 8 5 7,m 2 8] R)),[.t 2]⟩
theorem i63:iF 63 g63:=jF Tryz.func63
def g64:GFun:=⟨⟨9,[]⟩,(s [b 2 false] (s [m 3 0,x 4 (.bin .geq (.t 3) (.k (.val (.int .u8 48)))),m 5 4,M 6 5 0,y 7 5 (.bin .leq (.t 6) (.k (.val (.int .u8 57)))),A 8 5 7,m 2 8] R)),[.t 2]⟩
theorem i64:iF 64 g64:=jF Tryz.func64
def g65:GFun:=⟨⟨18,[]⟩,(s [b 2 false] (S (s [m 3 0] (.block 0 (S (s [x 5 (.bin .eql (.t 3) (.k (.val (.string (ByteArray.mk #[105,102]))))),m 4 5] (D 4 F (s [x 6 (.bin .eql (.t 3) (.k (.val (.string (ByteArray.mk #[116,104,101,
 110]))))),m 4 6] (D 4 F (s [x 7 (.bin .eql (.t 3) (.k (.val (.string (ByteArray.mk #[101,108,115,101]))))),m 4 7] (D 4 F (s [x 8 (.bin .eql (.t 3) (.k (.val (.string (ByteArray.mk #[116,114,117,101]))))),m 4 8] (D 4 F (s [x 9 (.bin .eql
 (.t 3) (.k (.val (.string (ByteArray.mk #[102,97,108,115,101]))))),m 4 9] (D 4 F (s [x 10 (.bin .eql (.t 3) (.k (.val (.string (ByteArray.mk #[108,105,116]))))),m 4 10] (D 4 F (s [x 11 (.bin .eql (.t 3) (.k (.val (.string
 (ByteArray.mk #[110,111,110,101]))))),m 4 11] (D 4 F (s [x 12 (.bin .eql (.t 3) (.k (.val (.string (ByteArray.mk #[115,101,108,102]))))),m 4 12] (D 4 F (s [x 13 (.bin .eql (.t 3) (.k (.val (.string (ByteArray.mk #[111,102]))))),m 4 13]
 (D 4 F (s [x 14 (.bin .eql (.t 3) (.k (.val (.string (ByteArray.mk #[109,97,120]))))),m 4 14] (D 4 F (s [x 15 (.bin .eql (.t 3) (.k (.val (.string (ByteArray.mk #[109,105,110]))))),m 4 15] (D 4 F (s [x 16 (.bin .eql (.t 3) (.k (.val
 (.string (ByteArray.mk #[119,105,116,104]))))),m 4 16] (D 4 F (.reg [x 17 (.bin .eql (.t 3) (.k (.val (.string (ByteArray.mk #[104,97,115]))))),m 4 17]))))))))))))))))))))))))) (D 4 (s [b 2 true] R) F)))) (s [b 2 false] R))),[.t 2]⟩
theorem i65:iF 65 g65:=jF Tryz.func65
def g66:GFun:=⟨⟨31,[]⟩,(s [k 6 0,b 7 false] (s [m 11 0,c 12 88 [.t 11],m 10 12,v 13 10 0,v 14 10 1,m 8 13,m 9 14] (S (s [m 15 9,x 16 (.ifnil true (.t 15)),m 17 16,N 18 17 8,N 19 17 1,N 20 17 2,z 21 17 (.call false 17 [.t 18,.t 19,
 .t 20]),z 22 17 (.not (.t 21)),O 23 17 22,m 24 23,N 25 24 8,z 26 24 (.call false 37 [.t 25]),N 27 24 0,z 28 24 (.bin .neq (.t 26) (.t 27)),O 29 24 28] (D 29 (s [k 6 0,b 7 false] R) F)) (s [m 30 8,m 6 30,b 7 true] R)))),[.t 6,.t 7]⟩
theorem i66:iF 66 g66:=jF Tryz.func66
def g67:GFun:=⟨⟨18,[]⟩,(s [b 4 false] (S (s [k 5 0] (B 0 (S (s [m 6 5,m 7 0,n 8 7,o 9 .lss 6 8] (D 9 F (.exit 0))) (S (.block 1 (s [m 12 0,m 13 5,i 14 1 12 13,l 15 14,m 16 1,o 17 .eql 15 16] (D 17 (s [b 4 true] R) F))) (.reg [m 10 5,
 q 11 .add 10 1,m 5 11]))))) (s [b 4 false] R))),[.t 4]⟩
theorem i67:iF 67 g67:=jF Tryz.func67
def g68:GFun:=⟨⟨14,[]⟩,(s [b 4 false] (s [m 5 1,c 6 24 [.t 5,K 1,K 4],m 7 6,M 8 7 0,M 9 7 1,y 10 7 (.call false 89 [.t 8,.t 9]),M 11 7 0,y 12 7 (.bin .eql (.t 10) (.t 11)),A 13 7 12,m 4 13] R)),[.t 4]⟩
theorem i68:iF 68 g68:=jF Tryz.func68
def g69:GFun:=⟨⟨73,[1,2,6,1000003]⟩,(s [a 1 6 0,u 2 6] (s [f 7 0 1,x 8 (.loadr 1 false (.t 7)),f 9 1 1,x 10 (.loadr 1 false (.t 9)),f 11 3 1,x 12 (.loadr 1 false (.t 11)),f 14 2 1,x 15 (.loadr 1 false (.t 14)),u 3 6,E 13 1 false,
 Q 16 1 16 13 15,x 17 (.build [(.val (.string (ByteArray.mk #[]))),(.val (.string (ByteArray.mk #[]))),(.val (.slice none 0 0)),(.val (.bool false)),(.val (.slice none 0 0)),(.val (.slice none 0 0))] [(0,(1,(.t 8))),(1,(1,(.t 10))),(3,(1,
 (.t 12))),(2,(1,(.t 16)))]),x 3 (.strb 6 3 (.t 17))] (S (s [k 4 0] (B 0 (S (s [m 18 4,f 19 4 1,l 20 19,n 21 20,o 22 .lss 18 21] (D 22 F (.exit 0))) (S (.block 1 (.reg [f 25 4 3,f 27 4 1,m 29 4,f 33 4 1,m 35 4,l 26 25,l 28 27,i 30 9 28 29,
 e 31 0 2 30,h 32 2 31,l 34 33,i 36 9 34 35,e 37 2 7 36,h 38 7 37,G 39 90 [.t 38],x 40 (.build [(.val (.int .i64 0)),(.val (.string (ByteArray.mk #[]))),(.val (.int .i64 0)),(.val (.int .i64 0)),(.val (.int .i64 0)),(.val (.int .i64 0)),
 (.val (.string (ByteArray.mk #[]))),(.val (.string (ByteArray.mk #[]))),(.val (.slice none 0 0))] [(0,(2,(.t 32))),(2,(7,(.t 39)))]),x 41 (.bslice 9 [] 1 true [(0,(.t 40))]),Q 42 9 112 26 41,f 43 4 3,(.mk none none (.store 1 (.t 43)
 (.t 42)))])) (.reg [m 23 4,q 24 .add 23 1,m 4 24]))))) (S (s [k 5 0] (B 2 (S (s [m 44 5,f 45 5 1,l 46 45,n 47 46,o 48 .lss 44 47] (D 48 F (.exit 2))) (S (.block 3 (s [f 51 5 1,l 52 51,m 53 5,i 54 16 52 53,h 55 16 54,u 6 16,t 6 16 55]
 (.reg [f 56 5 3,f 58 0 6,f 60 1 6,e 62 2 7 6,e 65 9 7 6,l 57 56,l 59 58,l 61 60,h 63 7 62,G 64 90 [.t 63],h 66 7 65,G 67 90 [.t 66],x 68 (.build [(.val (.string (ByteArray.mk #[]))),(.val (.string (ByteArray.mk #[]))),(.val (.int .i64 0)),
 (.val (.int .i64 0)),(.val (.int .i64 0)),(.val (.int .i64 0)),(.val (.string (ByteArray.mk #[]))),(.val (.string (ByteArray.mk #[]))),(.val (.slice none 0 0)),(.val (.int .i64 0)),(.val (.int .i64 0)),(.val (.int .i64 0)),(.val
 (.int .i64 0)),(.val (.string (ByteArray.mk #[]))),(.val (.string (ByteArray.mk #[]))),(.val (.slice none 0 0))] [(0,(1,(.t 59))),(1,(1,(.t 61))),(2,(7,(.t 64))),(9,(7,(.t 67)))]),x 69 (.bslice 16 [] 1 true [(0,(.t 68))]),
 Q 70 16 208 57 69,f 71 5 3,(.mk none none (.store 1 (.t 71) (.t 70)))]))) (.reg [m 49 5,q 50 .add 49 1,m 5 50]))))) (s [h 72 6 3,t 2 6 72] R))))),[(.c 2 6 true)]⟩
theorem i69:iF 69 g69:=jF Tryz.func69
def g70:GFun:=⟨⟨58,[]⟩,(s [k 2 0] (s [m 4 0,m 5 0,x 6 (.nck (.t 5)),f 7 2 6,l 8 7,q 9 .mul 8 6364136223846793005,q 10 .add 9 1442695040888963407,x 11 (.nck (.t 4)),f 12 2 11,(.mk none none (.store 1 (.t 12) (.t 10)))] (s [m 13 0,x 14
 (.nck (.t 13)),f 15 2 14,m 18 0,x 19 (.nck (.t 18)),f 20 2 19,l 16 15,x 17 (.bin .shr (.t 16) (.k (.val (.int .u64 33)))),l 21 20,x 22 (.bin .shr (.t 21) (.k (.val (.int .u64 45)))),o 23 .xor 17 22,q 24 .and 23 255,m 3 24] (S (s [m 25 0,
 x 26 (.nck (.t 25)),f 27 1 26,m 29 0,x 30 (.nck (.t 29)),f 31 0 30,l 28 27,l 32 31,n 33 32,o 34 .lss 28 33] (D 34 (s [m 35 3,m 36 0,x 37 (.nck (.t 36)),f 38 0 37,m 40 0,x 41 (.nck (.t 40)),f 42 1 41,l 39 38,l 43 42,i 44 1 39 43,l 45 44,
 x 46 (.conv .i64 (.t 45)),o 47 .add 35 46,q 48 .and 47 255,m 3 48] (.reg [m 49 0,m 50 0,x 51 (.nck (.t 50)),f 52 1 51,l 53 52,q 54 .add 53 1,x 55 (.nck (.t 49)),f 56 1 55,(.mk none none (.store 1 (.t 56) (.t 54)))])) F)) (s [m 57 3,
 m 2 57] R))))),[.t 2]⟩
theorem i70:iF 70 g70:=jF Tryz.func70
def g71:GFun:=⟨⟨56,[2,3,7]⟩,(s [a 2 2 0,a 3 6 1,Z 4] (s [E 11 2 true,m 5 11] (S (s [k 6 0] (B 0 (S (s [m 12 6,f 13 2 3,l 14 13,n 15 14,o 16 .leq 12 15] (D 16 F (.exit 0))) (S (.block 1 (s [m 22 6,u 7 2,h 20 2 2,h 21 6 3,G 23 73 [.t 21,
 .t 22],G 24 72 [.t 20,.t 23],m 19 24,v 25 19 0,v 26 19 1,t 7 2 25,m 8 26] (s [k 9 1] (S (s [m 27 6,q 28 .eql 27 0] (D 28 (.reg [k 9 2]) F)) (s [k 10 0] (B 2 (S (s [m 29 10,f 30 1 7,l 31 30,n 32 31,o 33 .lss 29 32] (D 33 F (.exit 2))) (S
 (.block 3 (s [f 36 1 7,l 37 36,m 38 10,i 39 4 37 38,f 40 2 39,l 41 40,m 42 9,o 43 .eql 41 42] (D 43 (.reg [m 44 5,m 45 6,f 46 1 7,l 47 46,m 48 10,i 49 4 47 48,f 50 0 49,l 51 50,x 52 (.build [(.val (.int .i64 0)),(.val (.string
 (ByteArray.mk #[])))] [(0,(1,(.t 45))),(1,(1,(.t 51)))]),x 53 (.bslice 2 [] 1 true [(0,(.t 52))]),Q 54 2 24 44 53,m 5 54]) F))) (.reg [m 34 10,q 35 .add 34 1,m 10 35]))))))))) (.reg [m 17 6,q 18 .add 17 1,m 6 18]))))) (s [m 55 5,
 m 4 55] R)))),[.t 4]⟩
theorem i71:iF 71 g71:=jF Tryz.func71
def g72:GFun:=⟨⟨29,[2,4]⟩,(s [a 2 2 0,u 4 2,b 5 false] (S (s [k 6 0] (B 0 (S (s [m 7 6,f 8 0 2,l 9 8,n 10 9,o 11 .lss 7 10] (D 11 F (.exit 0))) (S (.block 1 (s [f 14 0 2,l 15 14,m 16 6,i 17 2 15 16,f 18 0 17,l 19 18,m 20 1,
 o 21 .eql 19 20] (D 21 (s [f 22 0 2,l 23 22,m 24 6,i 25 2 23 24,h 26 2 25,c 27 91 [.t 26],t 4 2 27,b 5 true] R) F))) (.reg [m 12 6,q 13 .add 12 1,m 6 13]))))) (s [x 28 (.build [(.val (.string (ByteArray.mk #[]))),(.val
 (.slice none 0 0))] []),t 4 2 28,b 5 false] R))),[(.c 4 2 true),.t 5]⟩
theorem i72:iF 72 g72:=jF Tryz.func72
def g73:GFun:=⟨⟨21,[2]⟩,(s [a 2 6 0,x 4 (.mov (.k (.val (.string (ByteArray.mk #[])))))] (S (s [m 5 1,q 6 .eql 5 0] (D 6 (s [f 7 1 2,l 8 7,m 4 8] R) F)) (S (s [m 9 1,f 10 2 2,l 11 10,n 12 11,c 13 24 [.t 9,K 1,.t 12],w 14 13] (D 14
 (s [x 4 (.mov (.k (.val (.string (ByteArray.mk #[])))))] R) F)) (s [f 15 2 2,l 16 15,m 17 1,q 18 .sub 17 1,i 19 1 16 18,l 20 19,m 4 20] R)))),[.t 4]⟩
theorem i73:iF 73 g73:=jF Tryz.func73
def g74:GFun:=⟨⟨28,[2,4]⟩,(s [a 2 2 0,u 4 4,b 5 false] (S (s [k 6 0] (B 0 (S (s [m 7 6,f 8 1 2,l 9 8,n 10 9,o 11 .lss 7 10] (D 11 F (.exit 0))) (S (.block 1 (s [f 14 1 2,l 15 14,m 16 6,i 17 4 15 16,f 18 0 17,l 19 18,m 20 1,
 o 21 .eql 19 20] (D 21 (s [f 22 1 2,l 23 22,m 24 6,i 25 4 23 24,h 26 4 25,t 4 4 26,b 5 true] R) F))) (.reg [m 12 6,q 13 .add 12 1,m 6 13]))))) (s [x 27 (.build [(.val (.string (ByteArray.mk #[]))),(.val (.int .i64 0)),(.val (.int .i64 0)),
 (.val (.bool false))] []),t 4 4 27,b 5 false] R))),[(.c 4 4 true),.t 5]⟩
theorem i74:iF 74 g74:=jF Tryz.func74
def g75:GFun:=⟨⟨155,[7,8,12,13,14,3000124,3000129,3000110]⟩,(s [a 7 2 1,a 8 6 2,u 12 7] (S (s [m 19 4,q 20 .lss 19 2,m 21 20,N 22 21 0,z 23 21 (.call false 32 [.t 22,K 3]),O 24 21 23] (D 24 (S (s [m 25 3,q 26 .eql 25 1,m 27 26,y 28 27
 (p 1 3 8),y 29 27 (r 1 28),A 30 27 29,m 31 30,M 32 31 0,y 33 31 (.call false 32 [.t 32,K 3]),A 34 31 33] (D 34 (s [x 35 (.build [(.val (.int .i64 0)),(.val (.int .i64 0)),(.val (.int .i64 0)),(.val (.int .i64 0)),(.val (.string
 (ByteArray.mk #[]))),(.val (.string (ByteArray.mk #[]))),(.val (.slice none 0 0))] [(0,(1,(K 2)))]),t 12 7 35] R) F)) (s [m 36 0,m 37 3,h 38 2 7,h 39 6 8,m 40 3,c 41 78 [.t 38,.t 39,.t 40],c 42 77 [.t 36,.t 37,.t 41],t 12 7 42] R)) F))
 (S (s [m 43 5,m 44 43,M 45 44 0,y 46 44 (.call false 32 [.t 45,K 4]),A 47 44 46] (D 47 (s [f 48 0 7,m 50 0,f 51 0 7,u 13 2,l 49 48,l 52 51,n 53 52,x 54 (.calla 47 [.t 50,.t 53]),i 55 2 49 54,h 56 2 55,t 13 2 56] (s [f 57 1 13,m 59 0,
 f 60 1 13,u 14 4,l 58 57,l 61 60,n 62 61,x 63 (.calla 47 [.t 59,.t 62]),i 64 4 58 63,h 65 4 64,t 14 4 65] (s [f 66 1 14,l 67 66,m 68 3,o 69 .eql 67 68] (D 69 (s [f 70 0 13,f 72 0 14,m 74 0,l 71 70,l 73 72,h 75 2 7,h 76 6 8,G 77 78 [.t 75,
 .t 76,K 4],x 78 (.calla 77 [.t 74,K 4,.t 77]),x 79 (.bslice 7 [] 1 true [(0,(.t 78))]),x 80 (.build [(.val (.int .i64 0)),(.val (.int .i64 0)),(.val (.int .i64 0)),(.val (.int .i64 0)),(.val (.string (ByteArray.mk #[]))),(.val (.string
 (ByteArray.mk #[]))),(.val (.slice none 0 0))] [(0,(1,(K 8))),(4,(1,(.t 71))),(5,(1,(.t 73))),(6,(1,(.t 79)))]),t 12 7 80] R) F)))) F)) (S (s [m 81 0,c 82 32 [.t 81,K 6]] (D 82 (s [m 83 0,m 86 4,q 87 .sub 86 1,m 88 5,m 90 0,m 93 3,m 94 4,
 q 95 .sub 94 1,m 96 5,m 98 0,m 101 3,m 102 4,q 103 .sub 102 1,m 104 5,h 84 2 7,h 85 6 8,h 91 2 7,h 92 6 8,h 99 2 7,h 100 6 8,x 89 (.calla 75 [.t 83,.t 84,.t 85,K 3,.t 87,.t 88]),x 97 (.calla 75 [.t 90,.t 91,.t 92,.t 93,.t 95,.t 96]),
 x 105 (.calla 75 [.t 98,.t 99,.t 100,.t 101,.t 103,.t 104]),x 106 (.bslice 7 [] 3 true [(0,(.t 89)),(1,(.t 97)),(2,(.t 105))]),x 107 (.build [(.val (.int .i64 0)),(.val (.int .i64 0)),(.val (.int .i64 0)),(.val (.int .i64 0)),(.val
 (.string (ByteArray.mk #[]))),(.val (.string (ByteArray.mk #[]))),(.val (.slice none 0 0))] [(0,(1,(K 5))),(6,(1,(.t 106)))]),t 12 7 107] R) F)) (s [k 15 0] (S (s [m 108 3] (.block 0 (s [q 113 .eql 108 4,m 112 113] (D 112 (s [m 114 0,
 m 115 3,h 116 2 7,h 117 6 8,m 118 3,c 119 78 [.t 116,.t 117,.t 118],c 120 77 [.t 114,.t 115,.t 119],t 12 7 120] R) (s [q 122 .eql 108 1,m 121 122] (D 121 (.reg [m 123 0,x 124 (.bslro 1 [] 6 false [(0,(K 1)),(1,(K 1)),(2,(K 2)),(3,(K 3)),
 (4,(K 4)),(5,(K 5))]),c 125 30 [.t 123,.t 124],m 15 125]) (s [q 127 .eql 108 2,m 126 127] (D 126 (.reg [m 128 0,x 129 (.bslro 1 [] 5 false [(0,(K 6)),(1,(K 6)),(2,(K 7)),(3,(K 8)),(4,(K 12))]),c 130 30 [.t 128,.t 129],m 15 130])
 (.reg [m 109 0,x 110 (.bslro 1 [] 3 false [(0,(K 9)),(1,(K 10)),(2,(K 11))]),c 111 30 [.t 109,.t 110],m 15 111]))))))))) (s [m 132 15,c 133 92 [.t 132],m 131 133,v 134 131 0,v 135 131 1,v 136 131 2,m 16 134,m 17 135,m 18 136] (s [m 137 15,
 m 138 0,m 141 16,m 142 4,q 143 .sub 142 1,m 144 5,m 146 0,m 149 17,m 150 4,q 151 .sub 150 1,m 152 5,h 139 2 7,h 140 6 8,h 147 2 7,h 148 6 8,x 145 (.calla 75 [.t 138,.t 139,.t 140,.t 141,.t 143,.t 144]),x 153 (.calla 75 [.t 146,.t 147,
 .t 148,.t 149,.t 151,.t 152]),x 154 (.calla 93 [.t 137,.t 145,.t 153]),t 12 7 154] R)))))))),[(.c 12 7 true)]⟩
theorem i75:iF 75 g75:=jF Tryz.func75 [(6,8208),(7,8208),(9,131088),(11,35184908967952),(22,42949804048)]
def g76:GFun:=⟨⟨15,[1]⟩,(s [a 1 7 0,b 2 false] (s [h 3 7 1,c 4 94 [.t 3,K 24],q 5 .geq 4 0,m 6 5,y 7 6 (j 7 1),y 8 6 (.call false 95 [.t 7]),y 9 6 (.bin .leq (.t 8) (K 6)),A 10 6 9,m 11 10,y 12 11 (j 7 1),y 13 11
 (.call false 96 [.t 12]),A 14 11 13,m 2 14] R)),[.t 2]⟩
theorem i76:iF 76 g76:=jF Tryz.func76
def g77:GFun:=⟨⟨52,[6,7]⟩,(s [u 6 7] (S (s [m 8 2,n 9 8,q 10 .gtr 9 0,m 11 10,M 12 11 0,y 13 11 (.call false 32 [.t 12,K 4]),y 14 11 (.not (.t 13)),A 15 11 14] (D 15 (s [m 16 2,m 17 0,m 18 2,n 19 18,c 20 47 [.t 17,.t 19],i 21 2 16 20,
 h 22 2 21,u 7 2,t 7 2 22] (s [f 23 0 7,l 24 23,f 25 1 7,l 26 25,x 27 (.build [(.val (.int .i64 0)),(.val (.int .i64 0)),(.val (.int .i64 0)),(.val (.int .i64 0)),(.val (.string (ByteArray.mk #[]))),(.val (.string (ByteArray.mk #[]))),
 (.val (.slice none 0 0))] [(0,(1,(K 3))),(2,(1,(.t 24))),(5,(1,(.t 26)))]),t 6 7 27] R)) F)) (S (s [m 28 1] (.block 0 (s [q 30 .eql 28 4,m 29 30] (D 29 (S (s [m 31 0,c 32 32 [.t 31,K 3]] (D 32 (s [x 33 (.build [(.val (.int .i64 0)),(.val
 (.int .i64 0)),(.val (.int .i64 0)),(.val (.int .i64 0)),(.val (.string (ByteArray.mk #[]))),(.val (.string (ByteArray.mk #[]))),(.val (.slice none 0 0))] [(0,(1,(K 7)))]),t 6 7 33] R) F)) (s [x 34 (.build [(.val (.int .i64 0)),(.val
 (.int .i64 0)),(.val (.int .i64 0)),(.val (.int .i64 0)),(.val (.string (ByteArray.mk #[]))),(.val (.string (ByteArray.mk #[]))),(.val (.slice none 0 0))] [(0,(1,(K 6)))]),t 6 7 34] R)) (s [q 36 .eql 28 3,m 35 36] (D 35 (s [m 37 0,
 c 38 47 [.t 37,K 2],m 39 1,c 40 97 [.t 38,.t 39],t 6 7 40] R) (s [q 42 .eql 28 2,m 41 42] (D 41 (s [m 43 0,c 44 47 [.t 43,K 12],x 45 (.conv .u64 (.t 44)),x 46 (.bin .shl (K 1) (.t 45)),m 47 1,c 48 97 [.t 46,.t 47],t 6 7 48] R) F))))))))
 (s [m 49 0,c 50 47 [.t 49,K 9],c 51 97 [.t 50,K 1],t 6 7 51] R)))),[(.c 6 7 true)]⟩
theorem i77:iF 77 g77:=jF Tryz.func77
def g78:GFun:=⟨⟨73,[3,4,9,12]⟩,(s [a 3 2 0,a 4 6 1,Z 6] (s [E 14 2 true,m 7 14] (S (s [k 8 0] (B 0 (S (s [m 15 8,f 16 2 4,l 17 16,n 18 17,o 19 .leq 15 18] (D 19 F (.exit 0))) (S (.block 1 (s [m 25 8,u 9 2,h 23 2 3,h 24 6 4,
 G 26 73 [.t 24,.t 25],G 27 72 [.t 23,.t 26],m 22 27,v 28 22 0,v 29 22 1,t 9 2 28,m 10 29] (s [k 11 0] (B 2 (S (s [m 30 11,f 31 1 9,l 32 31,n 33 32,o 34 .lss 30 33] (D 34 F (.exit 2))) (S (.block 3 (s [f 37 1 9,l 38 37,m 39 11,i 40 4 38 39,
 h 41 4 40,u 12 4,t 12 4 41] (s [m 42 8,q 43 .eql 42 0,m 44 43,y 45 44 (p 1 2 12),y 46 44 (r 1 45),I 47 44 46 1,A 48 44 47,m 49 48,N 50 49 8,z 51 49 (.bin .gtr (.t 50) (K 0)),N 52 49 51,y 53 52 (p 1 2 12),y 54 52 (r 1 53),I 55 52 54 2,
 z 56 49 (.pick (.t 52) (.t 55) (.k (.val (.bool false)))),O 57 49 56,m 13 57] (s [f 58 1 12,l 59 58,m 60 2,o 61 .eql 59 60,m 62 61,M 63 62 13,A 64 62 63] (D 64 (.reg [m 65 7,m 66 8,f 67 0 12,l 68 67,x 69 (.build [(.val (.int .i64 0)),
 (.val (.string (ByteArray.mk #[])))] [(0,(1,(.t 66))),(1,(1,(.t 68)))]),x 70 (.bslice 2 [] 1 true [(0,(.t 69))]),Q 71 2 24 65 70,m 7 71]) F))))) (.reg [m 35 11,q 36 .add 35 1,m 11 36]))))))) (.reg [m 20 8,q 21 .add 20 1,m 8 21])))))
 (s [m 72 7,m 6 72] R)))),[.t 6]⟩
theorem i78:iF 78 g78:=jF Tryz.func78
def g79:GFun:=⟨⟨101,[5,8,13,17]⟩,(s [a 5 2 1,u 8 6] (s [h 19 2 5,m 20 2,c 21 98 [.t 19,.t 20],m 9 21] (s [x 22 (.build [(.val (.string (ByteArray.mk #[]))),(.val (.string (ByteArray.mk #[]))),(.val (.slice none 0 0)),(.val
 (.bool false)),(.val (.slice none 0 0)),(.val (.slice none 0 0))] []),x 10 (.alloc 6 (.agg [(.val (.string (ByteArray.mk #[]))),(.val (.string (ByteArray.mk #[]))),(.val (.slice none 0 0)),(.val (.bool false)),(.val (.slice none 0 0)),
 (.val (.slice none 0 0))])),(.mk none none (.store 6 (.t 10) (.t 22)))] (s [h 23 2 5,c 24 99 [.t 23],m 11 24] (S (s [k 12 0] (B 0 (S (s [m 25 12,m 26 9,n 27 26,o 28 .lss 25 27] (D 28 F (.exit 0))) (S (.block 1 (s [m 33 9,m 34 12,
 i 35 1 33 34,u 13 6,h 32 2 5,l 36 35,G 37 44 [.t 32,.t 36],m 31 37,v 38 31 0,v 39 31 1,t 13 6 38,m 14 39] (s [b 15 true] (S (s [k 16 0] (B 2 (S (s [m 40 16,f 41 2 13,l 42 41,n 43 42,o 44 .lss 40 43] (D 44 F (.exit 2))) (S (.block 3
 (.reg [m 47 15,m 48 47,M 49 48 11,y 51 48 (p 1 2 13),M 53 48 16,M 60 48 11,M 62 48 2,y 50 48 (j 2 5),y 52 48 (r 1 51),y 54 48 (.iaddr 1 (.t 52) (.t 53)),y 55 48 (r 1 54),y 56 48 (.call true 100 [.t 50,.t 55]),y 57 48 (.call true 25 [K 0,
 .t 56]),y 58 48 (.iaddr 1 (.t 49) (.t 57)),y 59 48 (r 1 58),y 61 48 (j 2 5),y 63 48 (.call true 100 [.t 61,.t 62]),y 64 48 (.call true 25 [K 0,.t 63]),y 65 48 (.iaddr 1 (.t 60) (.t 64)),y 66 48 (r 1 65),y 67 48 (.bin .lss (.t 59) (.t 66)),
 A 68 48 67,m 15 68])) (.reg [m 45 16,q 46 .add 45 1,m 16 46]))))) (s [m 69 15,m 70 69,y 71 70 (p 1 0 10),y 72 70 (r 1 71),y 73 70 (.bin .eql (.t 72) (.k (.val (.string (ByteArray.mk #[]))))),A 74 70 73] (D 74 (.reg [h 75 6 13,
 (.mk none none (.store 6 (.t 10) (.t 75)))]) F)))))) (.reg [m 29 12,q 30 .add 29 1,m 12 30]))))) (S (s [m 76 9,n 77 76,q 78 .eql 77 0,m 79 78,N 80 79 3,z 81 79 (.bin .lss (.t 80) (K 5)),O 82 79 81,m 83 82,N 84 83 0,z 85 83
 (.call false 32 [.t 84,K 4]),O 86 83 85] (D 86 (s [h 87 6 10,t 8 6 87] R) F)) (s [m 90 9,m 91 0,m 92 9,n 93 92,u 17 6,h 89 2 5,x 94 (.calla 47 [.t 91,.t 93]),i 95 1 90 94,l 96 95,G 97 44 [.t 89,.t 96],m 88 97,v 98 88 0,v 99 88 1,t 17 6 98,
 m 18 99] (s [h 100 6 17,t 8 6 100] R)))))))),[(.c 8 6 true)]⟩
theorem i79:iF 79 g79:=jF Tryz.func79 [(17,2064)]
def g80:GFun:=⟨⟨63,[]⟩,(s [k 4 0,b 5 false] (s [m 10 0,x 11 (.slen (.t 10)),q 12 .gtr 11 0,m 13 12,M 14 13 0,y 15 13 (.idx (.t 14) (K 0)),y 16 13 (.bin .eql (.t 15) (.k (.val (.int .u8 45)))),A 17 13 16,m 6 17] (s [m 18 0,m 7 18] (S
 (s [m 19 6] (D 19 (.reg [m 20 0,x 21 (.sslc (.t 20) (some (K 1)) none),m 7 21]) F)) (S (s [m 22 7,x 23 (.slen (.t 22)),q 24 .lss 23 1,m 25 24,N 26 25 7,z 27 25 (.slen (.t 26)),N 28 25 1,z 29 25 (.bin .gtr (.t 27) (.t 28)),O 30 25 29]
 (D 30 (s [k 4 0,b 5 false] R) F)) (s [k 8 0] (S (s [k 9 0] (B 0 (S (s [m 31 9,m 32 7,x 33 (.slen (.t 32)),o 34 .lss 31 33] (D 34 F (.exit 0))) (S (.block 1 (S (s [m 37 7,m 38 9,x 39 (.idx (.t 37) (.t 38)),x 40 (.bin .lss (.t 39) (.k
 (.val (.int .u8 48)))),m 41 40,N 42 41 7,N 43 41 9,z 44 41 (.idx (.t 42) (.t 43)),z 45 41 (.bin .gtr (.t 44) (.k (.val (.int .u8 57)))),O 46 41 45] (D 46 (s [k 4 0,b 5 false] R) F)) (.reg [m 47 8,x 48 (.bin .mul (K 10) (.t 47)),m 49 7,
 m 50 9,x 51 (.idx (.t 49) (.t 50)),x 52 (.bin .sub (.t 51) (.k (.val (.int .u8 48)))),x 53 (.conv .i64 (.t 52)),o 54 .add 48 53,m 8 54]))) (.reg [m 35 9,q 36 .add 35 1,m 9 36]))))) (S (s [m 55 6] (D 55 (.reg [m 56 8,x 57 (.bin .sub (K 0)
 (.t 56)),m 8 57]) F)) (S (s [m 58 8,c 59 45 [.t 58],m 60 0,o 61 .neq 59 60] (D 61 (s [k 4 0,b 5 false] R) F)) (s [m 62 8,m 4 62,b 5 true] R)))))))))),[.t 4,.t 5]⟩
theorem i80:iF 80 g80:=jF Tryz.func80
def g81:GFun:=⟨⟨19,[]⟩,(s [k 4 0] (S (s [m 6 0,n 7 6,k 8 0] (B 0 (s [o 9 .lss 8 7] (C 9 0 (S (.block 1 (s [m 10 8,m 5 10] (s [m 11 1,m 12 0,m 13 5,i 14 6 12 13,h 15 6 14,x 16 (.callv false (.t 11) [.t 15])] (D 16 (s [m 17 5,
 m 4 17] R) F)))) (.reg [q 18 .add 8 1,m 8 18])))))) (s [k 4 (-1)] R))),[.t 4]⟩
theorem i81:iF 81 g81:=jF Tryz.func81
def g89:GFun:=⟨⟨24,[]⟩,(s [k 4 0] (S (s [m 5 1] (.block 0 (s [q 7 .eql 5 1,m 6 7] (D 6 (s [m 8 0,c 9 109 [.t 8],m 4 9] R) (s [q 11 .eql 5 2,m 10 11] (D 10 (s [m 12 0,q 13 .and 12 4095,m 4 13] R) (s [q 15 .eql 5 3,m 14 15] (D 14
 (s [m 16 0,q 17 .neq 16 0,c 18 110 [.t 17],m 4 18] R) (s [q 20 .eql 5 4,m 19 20] (D 19 (s [m 21 0,c 22 24 [.t 21,K 0,K 999]] (D 22 (s [m 23 0,m 4 23] R) F)) F)))))))))) (s [k 4 0] R))),[.t 4]⟩
theorem i89:iF 89 g89:=jF Tryz.func89
def g90:GFun:=⟨⟨25,[2]⟩,(s [x 1 (.box 7 (.t 0)),u 2 7] (s [E 5 7 true,m 3 5] (S (s [k 4 0] (B 0 (S (s [m 6 4,f 7 6 1,l 8 7,n 9 8,o 10 .lss 6 9] (D 10 F (.exit 0))) (S (.block 1 (.reg [m 13 3,f 14 6 1,l 15 14,m 16 4,i 17 7 15 16,
 h 18 7 17,c 19 90 [.t 18],x 20 (.bslice 7 [] 1 true [(0,(.t 19))]),Q 21 7 88 13 20,m 3 21])) (.reg [m 11 4,q 12 .add 11 1,m 4 12]))))) (s [m 22 3,f 23 6 1,(.mk none none (.store 1 (.t 23) (.t 22)))] (s [h 24 7 1,t 2 7 24] R))))),
 [(.c 2 7 true)]⟩
theorem i90:iF 90 g90:=jF Tryz.func90
def g91:GFun:=⟨⟨10,[1,2]⟩,(s [a 1 2 0,u 2 2] (s [f 3 0 1,x 4 (.loadr 1 false (.t 3)),f 6 1 1,x 7 (.loadr 1 false (.t 6)),E 5 4 true,Q 8 4 40 5 7,x 9 (.build [(.val (.string (ByteArray.mk #[]))),(.val (.slice none 0 0))] [(0,(1,(.t 4))),
 (1,(1,(.t 8)))]),t 2 2 9] R)),[(.c 2 2 true)]⟩
theorem i91:iF 91 g91:=jF Tryz.func91
def g92:GFun:=⟨⟨24,[]⟩,(s [k 2 0,k 3 0,k 4 0] (S (.block 0 (s [m 6 0,c 7 24 [.t 6,K 1,K 5],m 5 7] (D 5 (s [k 2 1,k 3 1,k 4 1] R) (s [m 9 0,c 10 24 [.t 9,K 6,K 8],m 8 10] (D 8 (s [k 2 2,k 3 2,k 4 2] R) (s [m 12 0,q 13 .eql 12 9,m 14 13,
 N 15 14 0,J 16 14 15 10,O 17 14 16,m 11 17] (D 11 (s [k 2 1,k 3 1,k 4 3] R) (s [m 19 0,q 20 .eql 19 11,m 18 20] (D 18 (s [k 2 2,k 3 1,k 4 3] R) (s [m 22 0,q 23 .eql 22 12,m 21 23] (D 21 (s [k 2 2,k 3 1,k 4 2] R) F))))))))))) (s [k 2 0,
 k 3 0,k 4 0] R))),[.t 2,.t 3,.t 4]⟩
theorem i92:iF 92 g92:=jF Tryz.func92
def g93:GFun:=⟨⟨12,[4,5,6]⟩,(s [a 4 7 1,a 5 7 2,u 6 7] (s [m 7 0,h 8 7 4,h 9 7 5,x 10 (.bslice 7 [] 2 true [(0,(.t 8)),(1,(.t 9))]),x 11 (.build [(.val (.int .i64 0)),(.val (.int .i64 0)),(.val (.int .i64 0)),(.val (.int .i64 0)),
 (.val (.string (ByteArray.mk #[]))),(.val (.string (ByteArray.mk #[]))),(.val (.slice none 0 0))] [(0,(1,(K 4))),(1,(1,(.t 7))),(6,(1,(.t 10)))]),t 6 7 11] R)),[(.c 6 7 true)]⟩
theorem i93:iF 93 g93:=jF Tryz.func93
def g94:GFun:=⟨⟨27,[2]⟩,(s [a 2 7 0,k 4 0] (s [m 6 1,q 7 .sub 6 1,m 1 7] (S (s [k 5 0] (B 0 (S (s [m 8 5,f 9 6 2,l 10 9,n 11 10,o 12 .lss 8 11,m 13 12,M 14 13 1,y 15 13 (.bin .geq (.t 14) (K 0)),A 16 13 15] (D 16 F (.exit 0))) (S
 (.block 1 (.reg [f 19 6 2,l 20 19,m 21 5,i 22 7 20 21,h 23 7 22,m 24 1,c 25 94 [.t 23,.t 24],m 1 25])) (.reg [m 17 5,q 18 .add 17 1,m 5 18]))))) (s [m 26 1,m 4 26] R)))),[.t 4]⟩
theorem i94:iF 94 g94:=jF Tryz.func94
def g95:GFun:=⟨⟨22,[1]⟩,(s [a 1 7 0,k 2 0] (s [k 3 0] (S (s [k 4 0] (B 0 (S (s [m 5 4,f 6 6 1,l 7 6,n 8 7,o 9 .lss 5 8] (D 9 F (.exit 0))) (S (.block 1 (.reg [m 12 3,f 13 6 1,l 14 13,m 15 4,i 16 7 14 15,h 17 7 16,c 18 95 [.t 17],
 c 19 25 [.t 12,.t 18],m 3 19])) (.reg [m 10 4,q 11 .add 10 1,m 4 11]))))) (s [m 20 3,q 21 .add 20 1,m 2 21] R)))),[.t 2]⟩
theorem i95:iF 95 g95:=jF Tryz.func95
def g96:GFun:=⟨⟨20,[1]⟩,(s [a 1 7 0,b 2 false] (S (s [k 3 0] (B 0 (S (s [m 4 3,f 5 6 1,l 6 5,n 7 6,o 8 .lss 4 7] (D 8 F (.exit 0))) (S (.block 1 (s [f 11 6 1,l 12 11,m 13 3,i 14 7 12 13,h 15 7 14,c 16 96 [.t 15],w 17 16] (D 17
 (s [b 2 false] R) F))) (.reg [m 9 3,q 10 .add 9 1,m 3 10]))))) (s [h 18 7 1,c 19 111 [.t 18],m 2 19] R))),[.t 2]⟩
theorem i96:iF 96 g96:=jF Tryz.func96
def g97:GFun:=⟨⟨8,[4]⟩,(s [u 4 7] (s [m 5 0,m 6 1,x 7 (.build [(.val (.int .i64 0)),(.val (.int .i64 0)),(.val (.int .i64 0)),(.val (.int .i64 0)),(.val (.string (ByteArray.mk #[]))),(.val (.string (ByteArray.mk #[]))),(.val
 (.slice none 0 0))] [(0,(1,(K 1))),(1,(1,(.t 5))),(3,(1,(.t 6)))]),t 4 7 7] R)),[(.c 4 7 true)]⟩
theorem i97:iF 97 g97:=jF Tryz.func97
def g98:GFun:=⟨⟨33,[2]⟩,(s [a 2 2 0,Z 4] (s [E 7 1 false,m 5 7] (S (s [k 6 0] (B 0 (S (s [m 8 6,f 9 1 2,l 10 9,n 11 10,o 12 .lss 8 11] (D 12 F (.exit 0))) (S (.block 1 (s [f 15 1 2,l 16 15,m 17 6,i 18 6 16 17,f 19 1 18,l 20 19,m 21 1,
 o 22 .eql 20 21] (D 22 (.reg [m 23 5,f 24 1 2,l 25 24,m 26 6,i 27 6 25 26,f 28 0 27,l 29 28,x 30 (.bslice 1 [] 1 false [(0,(.t 29))]),Q 31 1 16 23 30,m 5 31]) F))) (.reg [m 13 6,q 14 .add 13 1,m 6 14]))))) (s [m 32 5,m 4 32] R)))),[.t 4]⟩
theorem i98:iF 98 g98:=jF Tryz.func98
def g99:GFun:=⟨⟨50,[1]⟩,(s [a 1 2 0,Z 2] (s [f 7 0 1,l 8 7,n 9 8,x 10 (.mkslice 1 8 (.val (.int .i64 0)) (.t 9) (.t 9)),m 3 10] (S (s [k 4 1] (B 0 (S (s [m 11 4,f 12 0 1,l 13 12,n 14 13,o 15 .leq 11 14] (D 15 F (.exit 0))) (S
 (.block 1 (s [E 18 1 false,m 19 3,Q 20 1 8 18 19,m 5 20] (S (s [k 6 0] (B 2 (S (s [m 21 6,f 22 0 1,l 23 22,n 24 23,o 25 .lss 21 24] (D 25 F (.exit 2))) (S (.block 3 (s [m 28 3,m 29 6,i 30 1 28 29,l 31 30,q 32 .eql 31 0,m 33 32,y 35 33
 (p 1 0 1),M 37 33 6,M 41 33 3,y 34 33 (j 2 1),y 36 33 (r 1 35),y 38 33 (.iaddr 2 (.t 36) (.t 37)),y 39 33 (p 1 0 38),y 40 33 (r 1 39),y 42 33 (.call true 112 [.t 34,.t 40,.t 41]),A 43 33 42] (D 43 (.reg [m 44 5,m 45 6,m 46 4,i 47 1 44 45,
 (.mk none none (.store 1 (.t 47) (.t 46)))]) F))) (.reg [m 26 6,q 27 .add 26 1,m 6 27]))))) (.reg [m 48 5,m 3 48])))) (.reg [m 16 4,q 17 .add 16 1,m 4 17]))))) (s [m 49 3,m 2 49] R)))),[.t 2]⟩
theorem i99:iF 99 g99:=jF Tryz.func99
def g100:GFun:=⟨⟨22,[2]⟩,(s [a 2 2 0,k 4 0] (S (s [k 5 0] (B 0 (S (s [m 6 5,f 7 0 2,l 8 7,n 9 8,o 10 .lss 6 9] (D 10 F (.exit 0))) (S (.block 1 (s [f 13 0 2,l 14 13,m 15 5,i 16 2 14 15,f 17 0 16,l 18 17,m 19 1,o 20 .eql 18 19] (D 20
 (s [m 21 5,m 4 21] R) F))) (.reg [m 11 5,q 12 .add 11 1,m 5 12]))))) (s [k 4 (-1)] R))),[.t 4]⟩
theorem i100:iF 100 g100:=jF Tryz.func100
def g109:GFun:=⟨⟨6,[]⟩,(s [k 2 0] (s [m 3 0,c 4 123 [K 1000000,.t 3],c 5 25 [K (-1000000),.t 4],m 2 5] R)),[.t 2]⟩
theorem i109:iF 109 g109:=jF Tryz.func109
def g110:GFun:=⟨⟨4,[]⟩,(s [k 2 0] (S (s [m 3 0] (D 3 (s [k 2 1] R) F)) (s [k 2 0] R))),[.t 2]⟩
theorem i110:iF 110 g110:=jF Tryz.func110
def g111:GFun:=⟨⟨61,[1]⟩,(s [a 1 7 0,b 2 false] (S (s [f 3 0 1,l 4 3,c 5 24 [.t 4,K 1,K 8],w 6 5,m 7 6,z 8 7 (j 7 1),z 9 7 (.call false 124 [.t 8]),z 10 7 (.not (.t 9)),O 11 7 10] (D 11 (s [b 2 false] R) F)) (S (s [f 12 0 1,l 13 12]
 (.block 0 (s [q 15 .eql 13 1,m 14 15] (D 14 (s [f 16 3 1,l 17 16,c 18 24 [.t 17,K 1,K 3],m 19 18,y 20 19 (p 1 1 1),y 21 19 (r 1 20),y 22 19 (p 1 3 1),y 23 19 (r 1 22),y 24 19 (.call false 68 [.t 21,.t 23]),A 25 19 24,m 26 25,y 27 26
 (p 1 1 1),y 28 26 (r 1 27),y 29 26 (.bin .geq (.t 28) (K 0)),A 30 26 29,m 2 30] R) (s [q 32 .eql 13 3,m 31 32] (D 31 (s [f 33 2 1,l 34 33,c 35 24 [.t 34,K 0,K 3],m 36 35,y 37 36 (p 1 5 1),y 38 36 (r 1 37),y 39 36 (.call false 125 [.t 38]),
 A 40 36 39,m 2 40] R) (s [q 42 .eql 13 6,m 41 42] (D 41 (s [f 43 2 1,l 44 43,c 45 24 [.t 44,K 0,K 3],m 2 45] R) (s [q 47 .eql 13 4,m 46 47] (D 46 (s [f 48 1 1,l 49 48,c 50 24 [.t 49,K 1,K 12],m 2 50] R) (s [q 52 .eql 13 8,m 51 52] (D 51
 (s [f 53 4 1,l 54 53,c 55 125 [.t 54],m 56 55,y 57 56 (p 1 5 1),y 58 56 (r 1 57),y 59 56 (.call false 125 [.t 58]),A 60 56 59,m 2 60] R) F)))))))))))) (s [b 2 true] R)))),[.t 2]⟩
theorem i111:iF 111 g111:=jF Tryz.func111
def g112:GFun:=⟨⟨56,[3,8]⟩,(s [a 3 2 0,b 6 false] (S (s [k 7 0] (B 0 (S (s [m 12 7,f 13 1 3,l 14 13,n 15 14,o 16 .lss 12 15] (D 16 F (.exit 0))) (S (.block 1 (s [f 19 1 3,l 20 19,m 21 7,i 22 6 20 21,h 23 6 22,u 8 6,t 8 6 23]
 (s [f 24 1 8,l 25 24,m 26 1,o 27 .eql 25 26,m 9 27] (S (s [k 10 0] (B 2 (S (s [m 28 10,f 29 2 8,l 30 29,n 31 30,o 32 .lss 28 31] (D 32 F (.exit 2))) (S (.block 3 (s [f 36 2 8,m 38 10,h 35 2 3,l 37 36,i 39 1 37 38,l 40 39,G 41 100 [.t 35,
 .t 40],m 11 41] (.reg [m 42 9,m 43 42,M 44 43 11,y 45 43 (.bin .geq (.t 44) (K 0)),A 46 43 45,m 47 46,M 48 47 2,M 49 47 11,y 50 47 (.call false 25 [.t 49,K 0]),y 51 47 (.iaddr 1 (.t 48) (.t 50)),y 52 47 (r 1 51),y 53 47 (.bin .gtr
 (.t 52) (K 0)),A 54 47 53,m 9 54]))) (.reg [m 33 10,q 34 .add 33 1,m 10 34]))))) (s [m 55 9] (D 55 (s [b 6 true] R) F)))))) (.reg [m 17 7,q 18 .add 17 1,m 7 18]))))) (s [b 6 false] R))),[.t 6]⟩
theorem i112:iF 112 g112:=jF Tryz.func112
def g123:GFun:=⟨⟨10,[]⟩,(s [k 4 0] (S (s [m 5 0,m 6 1,o 7 .lss 5 6] (D 7 (s [m 8 0,m 4 8] R) F)) (s [m 9 1,m 4 9] R))),[.t 4]⟩
theorem i123:iF 123 g123:=jF Tryz.func123
def g124:GFun:=⟨⟨86,[1]⟩,(s [a 1 7 0,b 2 false] (s [k 3 0] (S (s [f 7 0 1,l 8 7] (.block 0 (s [q 10 .eql 8 4,m 9 10] (D 9 (.reg [k 3 2]) (s [q 12 .eql 8 5,m 11 12] (D 11 (.reg [k 3 3]) (s [q 14 .eql 8 8,m 13 14] (D 13
 (.reg [k 3 1]) F)))))))) (S (s [f 15 6 1,l 16 15,n 17 16,m 18 3,o 19 .neq 17 18] (D 19 (s [b 2 false] R) F)) (s [f 20 0 1,l 21 20,q 22 .eql 21 3,m 23 22,z 24 23 (p 1 0 1),z 25 23 (r 1 24),J 26 23 25 6,O 27 23 26,m 4 27] (s [f 28 0 1,
 l 29 28,q 30 .eql 29 3,m 31 30,z 32 31 (p 1 0 1),z 33 31 (r 1 32),J 34 31 33 8,O 35 31 34,m 5 35] (s [f 36 0 1,l 37 36,q 38 .eql 37 1,m 39 38,z 40 39 (p 1 0 1),z 41 39 (r 1 40),J 42 39 41 4,O 43 39 42,m 6 43] (s [m 44 4,m 45 44,z 46 45
 (p 1 2 1),z 47 45 (r 1 46),J 48 45 47 0,O 49 45 48,m 50 49,M 51 50 5,M 52 50 51,z 53 52 (p 1 5 1),z 54 52 (r 1 53),z 55 52 (.bin .eql (.t 54) (.k (.val (.string (ByteArray.mk #[]))))),y 56 50 (.pick (.t 52) (.k (.val (.bool true)))
 (.t 55)),A 57 50 56,m 58 57,M 59 58 6,M 60 58 59,z 61 60 (p 1 1 1),z 62 60 (r 1 61),J 63 60 62 0,y 64 58 (.pick (.t 60) (.k (.val (.bool true))) (.t 63)),A 65 58 64,m 66 65,y 67 66 (p 1 0 1),y 68 66 (r 1 67),I 69 66 68 1,M 70 66 69,
 z 71 70 (p 1 3 1),z 72 70 (r 1 71),J 73 70 72 0,y 74 66 (.pick (.t 70) (.k (.val (.bool true))) (.t 73)),A 75 66 74,m 76 75,y 77 76 (p 1 0 1),y 78 76 (r 1 77),I 79 76 78 8,M 80 76 79,z 81 80 (p 1 4 1),z 82 80 (r 1 81),z 83 80 (.bin .eql
 (.t 82) (.k (.val (.string (ByteArray.mk #[]))))),y 84 76 (.pick (.t 80) (.k (.val (.bool true))) (.t 83)),A 85 76 84,m 2 85] R)))))))),[.t 2]⟩
theorem i124:iF 124 g124:=jF Tryz.func124
def g125:GFun:=⟨⟨15,[]⟩,(s [b 2 false] (s [m 3 0,c 4 135 [.t 3],m 5 4,M 6 5 0,y 7 5 (.slen (.t 6)),y 8 5 (.bin .leq (.t 7) (K 8)),A 9 5 8,m 10 9,M 11 10 0,y 12 10 (.call false 136 [.t 11]),y 13 10 (.not (.t 12)),A 14 10 13,m 2 14] R)),
 [.t 2]⟩
theorem i125:iF 125 g125:=jF Tryz.func125
def g135:GFun:=⟨⟨45,[]⟩,(s [b 2 false] (S (s [k 3 0] (B 0 (S (s [m 6 3,m 7 0,x 8 (.slen (.t 7)),o 9 .lss 6 8] (D 9 F (.exit 0))) (S (.block 1 (s [m 12 0,m 13 3,x 14 (.idx (.t 12) (.t 13)),x 15 (.bin .geq (.t 14) (.k (.val
 (.int .u8 97)))),m 16 15,M 17 16 0,M 18 16 3,y 19 16 (.idx (.t 17) (.t 18)),y 20 16 (.bin .leq (.t 19) (.k (.val (.int .u8 122)))),A 21 16 20,m 4 21] (s [m 22 0,m 23 3,x 24 (.idx (.t 22) (.t 23)),x 25 (.bin .geq (.t 24) (.k (.val
 (.int .u8 48)))),m 26 25,M 27 26 0,M 28 26 3,y 29 26 (.idx (.t 27) (.t 28)),y 30 26 (.bin .leq (.t 29) (.k (.val (.int .u8 57)))),A 31 26 30,m 5 31] (s [m 32 4,w 33 32,m 34 33,M 35 34 3,I 36 34 35 0,M 37 34 36,N 38 37 5,z 39 37 (.not
 (.t 38)),y 40 34 (.pick (.t 37) (.k (.val (.bool true))) (.t 39)),A 41 34 40] (D 41 (s [b 2 false] R) F))))) (.reg [m 10 3,q 11 .add 10 1,m 3 11]))))) (s [m 42 0,x 43 (.slen (.t 42)),q 44 .gtr 43 0,m 2 44] R))),[.t 2]⟩
theorem i135:iF 135 g135:=jF Tryz.func135
def g136:GFun:=⟨⟨6,[]⟩,(s [b 2 false] (s [c 3 142 [],m 4 0,c 5 141 [.t 3,.t 4],m 2 5] R)),[.t 2]⟩
theorem i136:iF 136 g136:=jF Tryz.func136
def g141:GFun:=⟨⟨18,[]⟩,(s [b 4 false] (S (s [k 5 0] (B 0 (S (s [m 6 5,m 7 0,n 8 7,o 9 .lss 6 8] (D 9 F (.exit 0))) (S (.block 1 (s [m 12 0,m 13 5,i 14 1 12 13,l 15 14,m 16 1,o 17 .eql 15 16] (D 17 (s [b 4 true] R) F))) (.reg [m 10 5,
 q 11 .add 10 1,m 5 11]))))) (s [b 4 false] R))),[.t 4]⟩
theorem i141:iF 141 g141:=jF Tryz.func141
def g142:GFun:=⟨⟨2,[]⟩,(s [Z 0] (s [x 1 (.bslice 1 [] 13 false [(0,(.k (.val (.string (ByteArray.mk #[105,102]))))),(1,(.k (.val (.string (ByteArray.mk #[116,104,101,110]))))),(2,(.k (.val (.string (ByteArray.mk #[101,108,115,101]))))),
 (3,(.k (.val (.string (ByteArray.mk #[116,114,117,101]))))),(4,(.k (.val (.string (ByteArray.mk #[102,97,108,115,101]))))),(5,(.k (.val (.string (ByteArray.mk #[108,105,116]))))),(6,(.k (.val (.string (ByteArray.mk #[110,111,110,101]))))),
 (7,(.k (.val (.string (ByteArray.mk #[115,101,108,102]))))),(8,(.k (.val (.string (ByteArray.mk #[111,102]))))),(9,(.k (.val (.string (ByteArray.mk #[109,97,120]))))),(10,(.k (.val (.string (ByteArray.mk #[109,105,110]))))),(11,(.k (.val
 (.string (ByteArray.mk #[119,105,116,104]))))),(12,(.k (.val (.string (ByteArray.mk #[104,97,115])))))]),m 0 1] R)),[.t 0]⟩
theorem i142:iF 142 g142:=jF Tryz.func142
end Go.Proofs.YtmdfoigdflaliaaGreatDoor
namespace Go.Proofs.YtmdfoigdflaliaaGreatDoor
open Go.Gh
open Nat (reduceEqDiff reduceLeDiff reduceAdd reduceLT)
open Int (reduceNe)
theorem mxd:Tryz.prog.follows .mixedOrders = true:=Checked.mixed Tryz.checked
theorem w24 (x lo hi:Int):Pu 24 [I x,I lo,I hi] (· = B (decide (lo≤x∧x≤hi))):=by
 refine ZN mxd i24 rfl (by simp) ?_;refine X0 ?_
 (refine R0 ?_;with_reducible repeat' first|exact trivial|intro h|refine aO ?_|refine eO ?_|apply jO)<;>simp[*]
theorem w17 (x lo hi:Int):Pu 17 [I x,I lo,I hi] (· = B (decide (lo≤x∧x≤hi))):=by
 refine ZN mxd i17 rfl (by simp) ?_;refine X0 ?_
 (refine R0 ?_;with_reducible repeat' first|exact trivial|intro h|refine aO ?_|refine eO ?_|apply jO)<;>simp[*]
theorem w81 (t:List Nod) (f:Nat) (cs:List GV) (p:Nod→Bool) (hp:∀x∈t,Pu f (Nd x::cs) (· = B (p x))) :
 Pu 81 [NdS t,.clo f cs] (· = I (ixOf p t)):=by
 refine GCalls.lenA fun hl=> ?_
 have hlen:=hl.1.1
 simp only[List.length_map,Zi] at hlen
 refine ZN mxd i81 rfl (by simp) ?_;refine X0 ?_
 refine Y5 mxd (ι:={ i:Nat // i≤t.length∧∀y∈t.take i,p y=false }) (fun i=>[(0,NdS t),(1,.clo f cs),(7,I t.length),(8,I i.1)]) (fun _ => []) (fun i=>t.length-i.1) ⟨0,by simp⟩ (by simp[E2]) rfl ?_
 rintro ⟨i,hi,hn⟩
 (refine R0 ?_;with_reducible repeat' first|exact trivial|intro h|refine aO ?_|refine eO ?_|apply jO)
 ·refine callS.eq (hp t[i] (gM _)) ?_
  (refine R0 ?_;with_reducible repeat' first|exact trivial|intro h|refine aO ?_|refine eO ?_|apply jO)
  ·rw[ixOf_hit (by assumption) h hn]
  ·exact nx ⟨i+1,by omega,take_step (by assumption) h hn⟩ (by simp;omega) (by simp[E2]) rfl
 ·have:i=t.length:=by omega
  subst this
  rw[tL (Nat.le_refl _)] at hn
  rw[ixOf_none hn]
end Go.Proofs.YtmdfoigdflaliaaGreatDoor
namespace Go.Proofs.YtmdfoigdflaliaaGreatDoor
open Go.Gh
open Nat (reduceEqDiff reduceLeDiff reduceAdd reduceLT)
open Int (reduceNe)
theorem w23 (t:List Nod) (i:Int):Pu 23 [Tr t,I i] (· = B (decide (0≤i∧i<t.length))):=by
 refine GCalls.lenA fun hl=> ?_
 obtain ⟨hlen,_⟩:=lenTr hl.1
 refine ZN mxd i23 rfl (by simp) ?_;refine X0 ?_
 refine callS.eq (w17 _ _ _) ?_
 (refine R0 ?_;with_reducible repeat' first|exact trivial|intro h|refine aO ?_|refine eO ?_|apply jO)
 exact bEq (by omega)
theorem w25 (x y:Int):Pu 25 [I x,I y] (· = I (max x y)):=by
 refine ZN mxd i25 rfl (by simp) ?_;refine X0 ?_
 (refine R0 ?_;with_reducible repeat' first|exact trivial|intro h|refine aO ?_|refine eO ?_|apply jO)<;>simp<;>omega
theorem w11 (t:List Nod) (i:Int) (hb:t.length≤1048576):Pu 11 [Tr t,I i] (· = I (treeHt t i)):=by
 refine GCalls.lenA fun hl=> ?_
 obtain ⟨hlen,hkids⟩:=lenTr hl.1
 refine ZN mxd i11 rfl (by simp) ?_;refine X0 ?_
 refine callS.eq (w24 _ _ _) ?_
 (refine R0 ?_;with_reducible repeat' first|exact trivial|intro h|refine aO ?_|refine eO ?_|apply jO)
 rotate_left
 ·simp[treeHt];omega
 rename_i hi0 r
 obtain ⟨i,rfl⟩:∃k:Nat,i=k:=⟨i.toNat,by omega⟩
 have hi:i<t.length:=by omega
 refine Y5 mxd (ι:={ m:Nat // i≤m∧m≤t.length }) (fun m=>[(2,.rop 1 (Tr t)),(1,I i),(5,.own r 1 0 t.length),(6,I (m.1-1))]) (fun m=>[(r,1,(List.replicate m.1 0++hts m.1 (t.drop m.1)).map I)]) (fun m=>m.1) ⟨t.length,by omega,by omega⟩ (by simp[E2]) (by simp[hts]) ?_
 rintro ⟨m,hm1,hm2⟩
 (refine R0 ?_;with_reducible repeat' first|exact trivial|intro h|refine aO ?_|refine eO ?_|apply jO)
 ·obtain ⟨k,rfl⟩:∃k,m=k+1:=⟨m-1,by omega⟩
  have hk:k<t.length:=by omega
  have hkk:=hkids _ (gM hk)
  have hle:=hts_le (k+1) (t.drop (k+1))
  have hln:=hts_len (k+1) (t.drop (k+1))
  simp only[List.length_drop] at hle hln
  generalize hh:hts (k+1) (t.drop (k+1))=hs at *
  rw[arr_step]
  refine Y5 mxd (ι:={ j:Nat // j≤t[k].kids.length }) (fun j=>[(2,.rop 1 (Tr t)),(1,I i),(5,.own r 1 0 t.length),(6,I k),(7,I j.1)]) (fun j=>[(r,1,(arr k ((t[k].kids.take j.1).foldl (YD hs k) 0) hs).map I)]) (fun j=>t[k].kids.length - j.1) ⟨0,by omega⟩ (by simp[E2]) (by simp) ?_
  rintro ⟨j,hj⟩
  (refine R0 ?_;with_reducible repeat' first|exact trivial|intro h|refine aO ?_|refine eO ?_|apply jO)
  ·refine callS.eq (w24 _ _ _) ?_
   (refine R0 ?_;with_reducible repeat' first|exact trivial|intro h|refine aO ?_|refine eO ?_|apply jO)
   ·refine exP (by rw[arr_len];omega) (exP (by rw[arr_len];omega) ?_)
    rw[arr_get,arr_get2 (by omega) (by omega)]
    refine callS.eq (w25 _ _) ?_
    (refine R0 ?_;with_reducible repeat' first|exact trivial|intro h|refine aO ?_|refine eO ?_|apply jO)
    refine exP (by rw[arr_len];omega) (nx ⟨j+1,by omega⟩ (by simp;omega) (by simp[E2]) ?_)
    rw[arr_set,take_foldl _ _ _ _ (by assumption),kidStep_in (by omega) (by omega)]
   ·refine nx ⟨j+1,by omega⟩ (by simp;omega) (by simp[E2]) ?_
    rw[take_foldl _ _ _ _ (by assumption),kidStep_out (by omega)]
  ·have hf:=kidFold_le (k:=k) hle t[k].kids 0 (by omega)
   refine exP (by simp[arr_len];omega) (nx ⟨k,by omega,by omega⟩ (by simp) (by simp[E2]) ?_)
   have:j=t[k].kids.length := by omega
   subst this
   rw[arr_get,arr_set,List.take_length,wrap64 (by omega) (by omega),hts_drop hk,hh]
   rfl
 ·have:m=i:=by omega
  subst this
  refine exP (by simp[hts_len];omega) ?_
  congr 2
  rw[List.getElem_append_right (by simp),treeHt,if_pos (by omega)]
  simp only[List.length_replicate,Nat.sub_self,Int.toNat_natCast]
  rw[headD_eq]
theorem w10 (t:List Nod) (i:Int) (hb:t.length≤1048576):Pu 10 [Tr t,I i] (· = I (treeHt t i)):=by
 refine GCalls.lenA fun hl=> ?_
 obtain ⟨hlen,hkids⟩:=lenTr hl.1
 refine ZN mxd i10 rfl (by simp) ?_;refine X0 ?_
 refine callS.eq (w23 _ _) ?_
 (refine R0 ?_;with_reducible repeat' first|exact trivial|intro h|refine aO ?_|refine eO ?_|apply jO)
 rotate_left
 ·simp[treeHt];omega
 rename_i hi0 r
 obtain ⟨i,rfl⟩:∃k:Nat,i=k:=⟨i.toNat,by omega⟩
 have hi:i<t.length:=by omega
 refine Y5 mxd (ι:={ m:Nat // i≤m∧m≤t.length }) (fun m=>[(2,.rop 1 (Tr t)),(1,I i),(5,.own r 1 0 t.length),(6,I (m.1-1))]) (fun m=>[(r,1,(List.replicate m.1 0++hts m.1 (t.drop m.1)).map I)]) (fun m=>m.1) ⟨t.length,by omega,by omega⟩ (by simp[E2]) (by simp[hts]) ?_
 rintro ⟨m,hm1,hm2⟩
 (refine R0 ?_;with_reducible repeat' first|exact trivial|intro h|refine aO ?_|refine eO ?_|apply jO)
 ·obtain ⟨k,rfl⟩:∃k,m=k+1:=⟨m-1,by omega⟩
  have hk:k<t.length:=by omega
  have hkk:=hkids _ (gM hk)
  have hle:=hts_le (k+1) (t.drop (k+1))
  have hln:=hts_len (k+1) (t.drop (k+1))
  simp only[List.length_drop] at hle hln
  generalize hh:hts (k+1) (t.drop (k+1))=hs at *
  rw[arr_step]
  refine exP (by simp[arr_len];omega) ⟨by omega,?_⟩
  have hkn:((k+1:Nat):Int)-1=k:=by omega
  simp only[hkn,Int.toNat_natCast,arr_set]
  refine Y5 mxd (ι:={ j:Nat // j≤t[k].kids.length }) (fun j=>[(2,.rop 1 (Tr t)),(1,I i),(5,.own r 1 0 t.length),(6,I k),(34,IS t[k].kids),(35,I t[k].kids.length),(36,I j.1)]) (fun j=>[(r,1,(arr k ((t[k].kids.take j.1).foldl (YD hs k) 0+1) hs).map I)]) (fun j=>t[k].kids.length - j.1) ⟨0,by omega⟩ (by simp[E2]) (by simp) ?_
  rintro ⟨j,hj⟩
  have hf:=kidFold_le (k:=k) hle (t[k].kids.take j) 0 (by omega)
  (refine R0 ?_;with_reducible repeat' first|exact trivial|intro h|refine aO ?_|refine eO ?_|apply jO)
  ·refine callS.eq (w23 _ _) ?_
   (refine R0 ?_;with_reducible repeat' first|exact trivial|intro h|refine aO ?_|refine eO ?_|apply jO)
   ·refine exP (by rw[arr_len];omega) (exP (by rw[arr_len];omega) ?_)
    rw[arr_get,arr_get2 (by omega) (by omega)]
    refine ⟨by omega,nx ⟨j+1,by omega⟩ (by simp;omega) (by simp[E2]) ?_⟩
    have hg:=getD_le hle (by omega) (t[k].kids[j]-k-1).toNat
    rw[arr_set,take_foldl _ _ _ _ (by assumption),kidStep_in (by omega) (by omega),wrap64 (by omega) (by omega)]
    congr 5
    split<;>omega
   ·refine nx ⟨j+1,by omega⟩ (by simp;omega) (by simp[E2]) ?_
    rw[take_foldl _ _ _ _ (by assumption),kidStep_out (by omega)]
  ·refine nx ⟨j+1,by omega⟩ (by simp;omega) (by simp[E2]) ?_
   rw[take_foldl _ _ _ _ (by assumption),kidStep_out (by omega)]
  ·refine nx ⟨k,by omega,by omega⟩ (by simp) (by simp[E2]) ?_
   have:j=t[k].kids.length := by omega
   subst this
   rw[List.take_length,hts_drop hk,hh]
   rfl
 ·have:m=i:=by omega
  subst this
  refine exP (by simp[hts_len];omega) ?_
  congr 2
  rw[List.getElem_append_right (by simp),treeHt,if_pos (by omega)]
  simp only[List.length_replicate,Nat.sub_self,Int.toNat_natCast]
  rw[headD_eq]
theorem w46 (xs ys:List Int):Pu 46 [IS xs,IS ys] (· = B (decide (xs=ys))):=by
 refine GCalls.lenA fun hl=> ?_
 have hl:=hl.1.1
 simp only[List.length_map,Zi] at hl
 refine ZN mxd i46 rfl (by simp) ?_;refine X0 ?_
 (refine R0 ?_;with_reducible repeat' first|exact trivial|intro h|refine aO ?_|refine eO ?_|apply jO)
 rotate_left
 ·simp;rintro rfl;exact h rfl
 refine Y5 mxd (ι:={ i:Nat // i≤xs.length∧xs.take i=ys.take i }) (fun i=>[(0,IS xs),(1,IS ys),(5,I i.1)]) (fun _ => []) (fun i=>xs.length-i.1) ⟨0,by simp⟩ (by simp[E2]) rfl ?_
 rintro ⟨i,hi,hp⟩
 (refine R0 ?_;with_reducible repeat' first|exact trivial|intro h|refine aO ?_|refine eO ?_|apply jO)
 ·exact nx ⟨i+1,by omega,take_eq_step hp (by omega) (by omega) h⟩ (by simp;omega) (by simp[E2]) rfl
 ·simp;rintro rfl;simp at h
 ·have:i=xs.length:=by omega
  subst this
  rw[tL (by omega),tL (by omega)] at hp
  simp[hp]
theorem w22 (xs ys : List Nod) (b : Bool) : Pu 22 [Tr xs, Tr ys, B b] (· = B (all2 (sameNd b) xs ys)) := by
  refine GCalls.lenA fun hl => ?_
  obtain ⟨hlen, _⟩ := lenTr hl.1
  refine ZN mxd i22 rfl (by simp) ?_; refine X0 ?_
  (refine R0 ?_; with_reducible repeat' first|exact trivial|intro h|refine aO ?_|refine eO ?_|apply jO)
  rotate_left
  · rw [all2_len h]
  refine Y5 mxd (ι := { i : Nat // i ≤ xs.length ∧ ∀ j (h1 : j < xs.length) (h2 : j < ys.length), j < i → sameNd b xs[j] ys[j] = true }) (fun i => [(3, .rop 1 (Tr xs)), (4, .rop 1 (Tr ys)), (2, B b), (7, I i.1)]) (fun _ => []) (fun i => xs.length - i.1) ⟨0, by simp⟩ (by simp [E2, h]) rfl ?_
  rintro ⟨i, hi, hn⟩
  cases b
  all_goals
    (refine R0 ?_; with_reducible repeat' first|exact trivial|intro h|refine aO ?_|refine eO ?_|apply jO)
    all_goals first
      | (rw [all2_no (i := i) (by omega) (by omega) (by simp [sameNd, *])]; done)
      | (rw [all2_yes (by omega) fun j h1 h2 => hn j h1 h2 (by omega)]; done)
      | (refine callS.eq (w46 _ _) ?_
         (refine R0 ?_; with_reducible repeat' first|exact trivial|intro h|refine aO ?_|refine eO ?_|apply jO)
         · exact nx ⟨i + 1, by omega, all2_step (h1 := by omega) (h2 := by omega) (by simp [sameNd, *]) hn⟩ (by simp; omega) (by simp [E2]) rfl
         · rw [all2_no (i := i) (by omega) (by omega) (by simp [sameNd, *])])
theorem w9 (t u:List Nod):Pu 9 [Tr t,Tr u] (· = B (all2 (sameNd false) t u)):=by
 refine ZN mxd i9 rfl (by simp) ?_;refine X0 ?_
 refine callS.eq (w22 t u false) ?_
 (refine R0 ?_;with_reducible repeat' first|exact trivial|intro h|refine aO ?_|refine eO ?_|apply jO)
end Go.Proofs.YtmdfoigdflaliaaGreatDoor
namespace Go.Proofs.YtmdfoigdflaliaaGreatDoor
open Go.Gh
open Nat (reduceEqDiff reduceLeDiff reduceAdd reduceLT)
open Int (reduceNe)
end Go.Proofs.YtmdfoigdflaliaaGreatDoor
namespace Go.Proofs.YtmdfoigdflaliaaGreatDoor
open Go.Gh
open Nat (reduceEqDiff reduceLeDiff reduceAdd reduceLT)
open Int (reduceNe)
end Go.Proofs.YtmdfoigdflaliaaGreatDoor
namespace Go.Proofs.YtmdfoigdflaliaaGreatDoor
open Go.Gh
open Nat (reduceEqDiff reduceLeDiff reduceAdd reduceLT)
open Int (reduceNe)
theorem w110 (b:Bool):Pu 110 [B b] (· = I (trV b)):=by
 refine ZN mxd i110 rfl (by simp) ?_;refine X0 ?_
 (refine R0 ?_;with_reducible repeat' first|exact trivial|intro h|refine aO ?_|refine eO ?_|apply jO)<;>simp_all [trV]
theorem w123 (a b:Int):Pu 123 [I a,I b] (· = I (min a b)):=by
 refine ZN mxd i123 rfl (by simp) ?_;refine X0 ?_
 (refine R0 ?_;with_reducible repeat' first|exact trivial|intro h|refine aO ?_|refine eO ?_|apply jO)<;>(congr 2;omega)
theorem w109 (n:Int):Pu 109 [I n] (· = I (satV n)):=by
 refine ZN mxd i109 rfl (by simp) ?_;refine X0 ?_
 refine callS.eq (w123 _ _) ?_
 (refine R0 ?_;with_reducible repeat' first|exact trivial|intro h|refine aO ?_|refine eO ?_|apply jO)
 refine callS.eq (w25 _ _) ?_
 (refine R0 ?_;with_reducible repeat' first|exact trivial|intro h|refine aO ?_|refine eO ?_|apply jO)<;>rfl
theorem w89 (v k:Int):Pu 89 [I v,I k] (· = I (coV v k)):=by
 refine ZN mxd i89 rfl (by simp) ?_;refine X0 ?_
 (refine R0 ?_;with_reducible repeat' first|exact trivial|intro h|refine aO ?_|refine eO ?_|apply jO)
 ·refine callS.eq (w109 _) ?_
  (refine R0 ?_;with_reducible repeat' first|exact trivial|intro h|refine aO ?_|refine eO ?_|apply jO)<;>simp_all [coV]
 ·simp_all [coV]
 ·refine callS.eq (w110 _) ?_
  (refine R0 ?_;with_reducible repeat' first|exact trivial|intro h|refine aO ?_|refine eO ?_|apply jO)<;>simp_all [coV]
 ·refine callS.eq (w24 _ _ _) ?_
  (refine R0 ?_;with_reducible repeat' first|exact trivial|intro h|refine aO ?_|refine eO ?_|apply jO)<;>simp_all [coV]<;>(intros;omega)
 ·simp_all [coV]
theorem w92 (op:Int):Pu 92 [I op] (· = opG op):=by
 refine ZN mxd i92 rfl (by simp) ?_;refine X0 ?_
 refine callS.eq (w24 _ _ _) ?_
 (refine R0 ?_;with_reducible repeat' first|exact trivial|intro h|refine aO ?_|refine eO ?_|apply jO)
 ·simp only[opG,opT,if_pos h]
 refine callS.eq (w24 _ _ _) ?_
 (refine R0 ?_;with_reducible repeat' first|exact trivial|intro h|refine aO ?_|refine eO ?_|apply jO)
 all_goals first|(simp only[opG,opT];rw[if_neg (by assumption),if_pos (by assumption)];done)|(subst op;rfl)|(rw[opG0 (by omega)];done)|(simp_all [opG,opT];done)|skip
theorem w68 (v k:Int):Pu 68 [I v,I k] (· = B (okV v k)):=by
 refine ZN mxd i68 rfl (by simp) ?_;refine X0 ?_
 refine callS.eq (w24 _ _ _) ?_
 (refine R0 ?_;with_reducible repeat' first|exact trivial|intro h|refine aO ?_|refine eO ?_|apply jO)
 ·refine callS.eq (w89 _ _) ?_
  (refine R0 ?_;with_reducible repeat' first|exact trivial|intro h|refine aO ?_|refine eO ?_|apply jO)<;>simp_all [okV]
 ·simp_all [okV]<;>(intros;omega)
end Go.Proofs.YtmdfoigdflaliaaGreatDoor
namespace Go.Proofs.YtmdfoigdflaliaaGreatDoor
open Go.Gh
open Nat (reduceEqDiff reduceLeDiff reduceAdd reduceLT)
open Int (reduceNe)
theorem w95:∀(e:Exp),wEx e≤1048576→Pu 95 [Ex e] (· = I (dpE e)):=by
 refine Exp.indA fun e ih hw=> ?_
 obtain ⟨hl,ha⟩:=args_small hw
 have hc:=cntE_le e
 have he:=cntE_eq e
 have hd:=dpE_eq e
 have hq:=sumL_le (l:=e.args) fun a _ => dpE_le a
 rw[Y2]
 refine ZN mxd i95 rfl (by simp) ?_;refine X0 ?_
 refine Y5 mxd (ι:={ i:Nat // i≤e.args.length }) (fun i=>[(1,.rop 7 (.agg [I e.kind,I e.n,I e.pos,I e.type,T e.sym,T e.name,ExS e.args])),(3,I (mxL ((e.args.take i.1).map dpE))),(4,I i.1)]) (fun i=>[]) (fun i=>e.args.length-i.1) ⟨0,by simp⟩ (by simp[E2,mxL]) (by simp) ?_
 rintro ⟨i,hi⟩
 have h1:=mxT_le dpE e.args i
 (refine R1 (jO @isAgg_Ex (jO @geR_Ex (jO @gsize_Ex @stor_Ex))) ?_;with_reducible repeat' first|exact trivial|intro h|refine aO ?_|refine eO ?_|apply jO)
 ·have h2:=mxT dpE e.args i (by omega)
  refine callS.eq (ih _ (gM _) (ha _ (gM _))) ?_
  (refine R0 ?_;with_reducible repeat' first|exact trivial|intro h|refine aO ?_|refine eO ?_|apply jO)
  refine callS.eq (w25 _ _) ?_
  (refine R0 ?_;with_reducible repeat' first|exact trivial|intro h|refine aO ?_|refine eO ?_|apply jO)
  refine nx ⟨i+1,by omega⟩ (by simp;omega) ?_ (by simp)
  simp[E2,h2, -List.map_take]
  try (first|omega|(split<;>omega))
 ·have:i=e.args.length:=by omega
  subst this
  simp[hd]
  try omega
theorem w94:∀(e:Exp),wEx e≤1048576→∀left:Int,0≤left→left≤1048576→Pu 94 [Ex e,I left] (· = I (max (left-cntE e) (-1))):=by
 refine Exp.indA fun e ih hw left l0 l1=> ?_
 obtain ⟨hl,ha⟩:=args_small hw
 have hc:=cntE_le e
 have he:=cntE_eq e
 rw[Y2]
 refine ZN mxd i94 rfl (by simp) ?_;refine X0 ?_
 simp +contextual (disch:=omega) only[Z2]
 refine Y5 mxd (ι:={ i:Nat // i≤e.args.length }) (fun i=>[(2,.rop 7 (.agg [I e.kind,I e.n,I e.pos,I e.type,T e.sym,T e.name,ExS e.args])),(1,I (max (left-1-((e.args.take i.1).map cntE).sum) (-1))),(5,I i.1)]) (fun i=>[]) (fun i=>e.args.length-i.1) ⟨0,by simp⟩ (by simp[E2];try omega) (by simp) ?_
 rintro ⟨i,hi⟩
 have h1:=sumT_le cntE e.args i
 generalize hs:((e.args.take i).map cntE).sum = s at *
 (refine R1 (jO @isAgg_Ex (jO @geR_Ex (jO @gsize_Ex @stor_Ex))) ?_;with_reducible repeat' first|exact trivial|intro h|refine aO ?_|refine eO ?_|apply jO)
 ·have h2:=sumT cntE e.args i (by omega)
  refine callS.eq (ih _ (gM _) (ha _ (gM _)) _ (by omega) (by omega)) ?_
  (refine R0 ?_;with_reducible repeat' first|exact trivial|intro h|refine aO ?_|refine eO ?_|apply jO)
  refine nx ⟨i+1,by omega⟩ (by simp;omega) ?_ (by simp)
  simp[E2,h2,hs, -List.map_take]
  try omega
 all_goals first|(congr 2;omega)|(rw[tL (by omega)] at hs;congr 2;omega)
end Go.Proofs.YtmdfoigdflaliaaGreatDoor
namespace Go.Proofs.YtmdfoigdflaliaaGreatDoor
open Go.Gh
open Nat (reduceEqDiff reduceLeDiff reduceAdd reduceLT)
open Int (reduceNe)
theorem w63 (c:UInt8):Pu 63 [.val (.int .u8 c.toNat)] (· = B (YY c)):=by
 refine ZN mxd i63 rfl (by simp) ?_;refine X0 ?_
 (refine R0 ?_;with_reducible repeat' first|exact trivial|intro h|refine aO ?_|refine eO ?_|apply jO)<;>simp_all [YY]<;>(intros;omega)
theorem w64 (c:UInt8):Pu 64 [.val (.int .u8 c.toNat)] (· = B (Zr c)):=by
 refine ZN mxd i64 rfl (by simp) ?_;refine X0 ?_
 (refine R0 ?_;with_reducible repeat' first|exact trivial|intro h|refine aO ?_|refine eO ?_|apply jO)<;>simp_all [Zr]<;>(intros;omega)
theorem w142:Pu 142 [] (· = .sl 1 (kwS.map T)):=by
 have o:Gc 142 [] [] (fun g H'=>∃r,g = .own r 1 0 13∧H'=[(r,1,kwS.map T)]):=by
  refine ZN mxd i142 rfl (by simp) ?_;refine X0 ?_
  intro r hr
  exact ⟨r,rfl,rfl⟩
 refine o.fr ?_
 rintro g H' ⟨r,rfl,rfl⟩
 exact ⟨_,_,FR.freeze ZX (.all ZX (by simp[kwS]) (by simp[view,kwS])),rfl⟩
theorem w141 (l:List ByteArray) (s:ByteArray):Pu 141 [.sl 1 (l.map T),T s] (· = B (hasS l s)):=by
 refine GCalls.lenA fun hl=> ?_
 have hlen:=hl.1.1
 simp only[List.length_map,Zi] at hlen
 refine ZN mxd i141 rfl (by simp) ?_;refine X0 ?_
 refine Y5 mxd (ι:={ i:Nat // i≤l.length∧∀y∈l.take i,decide (y=s)=false }) (fun i=>[(0,.sl 1 (l.map T)),(1,T s),(5,I i.1)]) (fun _ => []) (fun i=>l.length-i.1) ⟨0,by simp⟩ (by simp[E2]) rfl ?_
 rintro ⟨i,hi,hn⟩
 (refine R0 ?_;with_reducible repeat' first|exact trivial|intro h|refine aO ?_|refine eO ?_|apply jO)
 ·rw[hasS_hit (by assumption) h]
 ·exact nx ⟨i+1,by omega,take_step (by assumption) (by simpa using h) hn⟩ (by simp;omega) (by simp[E2]) rfl
 ·have:i=l.length:=by omega
  subst this
  rw[tL (Nat.le_refl _)] at hn
  rw[hasS_none hn]
theorem w65 (s:ByteArray):Pu 65 [T s] (· = B (resV s)):=by
 refine ZN mxd i65 rfl (by simp) ?_;refine X0 ?_
 (refine R0 ?_;with_reducible repeat' first|exact trivial|intro h|refine aO ?_|refine eO ?_|apply jO)
 all_goals first|(simp_all [resV,hasS,kwS,show ∀x,(x=s)=(s=x) from fun x=>propext eq_comm];done)|skip
theorem w136 (s:ByteArray):Pu 136 [T s] (· = B (resV s)):=by
 refine ZN mxd i136 rfl (by simp) ?_;refine X0 ?_
 refine callS.eq w142 ?_
 (refine R0 ?_;with_reducible repeat' first|exact trivial|intro h|refine aO ?_|refine eO ?_|apply jO)
 refine callS.eq (w141 _ _) ?_
 (refine R0 ?_;with_reducible repeat' first|exact trivial|intro h|refine aO ?_|refine eO ?_|apply jO)
 rfl
theorem w135 (s : ByteArray) (hs : s.size ≤ maxLen) : Pu 135 [T s] (· = B (shp (Z6 s))) := by
  simp only [maxLen, Zo] at hs
  refine ZN mxd i135 rfl (by simp) ?_; refine X0 ?_
  refine Y5 mxd (ι := { i : Nat // i ≤ (Z6 s).length ∧ ∀ (j : Nat) (h : j < (Z6 s).length), j < i → YY (Z6 s)[j] = true ∨ (j ≠ 0 ∧ Zr (Z6 s)[j] = true) }) (fun i => [(0, T s), (3, I i.1)]) (fun _ => []) (fun i => (Z6 s).length - i.1) ⟨0, by simp⟩ (by simp [E2]) rfl ?_
  rintro ⟨i, hi, hn⟩
  (refine R0 ?_; with_reducible repeat' first|exact trivial|intro h|refine aO ?_|refine eO ?_|apply jO)
  all_goals first
    | (rw [shp_bad (i := i) (by assumption) (by simp only [YY, Zr, Bool.and_eq_true, decide_eq_true_eq]; omega)]; done)
    | (have hlt : i < (Z6 s).length := by omega
       have hg : YY (Z6 s)[i] = true ∨ (i ≠ 0 ∧ Zr (Z6 s)[i] = true) := by
         simp only [YY, Zr, Bool.and_eq_true, decide_eq_true_eq]
         omega
       exact nx ⟨i + 1, by omega, shp_step hlt hn hg⟩ (by simp; omega) (by simp [E2]) rfl)
    | (have : i = (Z6 s).length := by omega
       subst this
       rw [shp_end hn]
       simp; done)
    | skip
  all_goals have hlt : i < (Z6 s).length := by omega
  all_goals have hg : YY (Z6 s)[i] = true ∨ (i ≠ 0 ∧ Zr (Z6 s)[i] = true) := by (simp only [YY, Zr, Bool.and_eq_true, decide_eq_true_eq]; omega)
  all_goals refine nx ⟨i + 1, by omega, shp_step hlt hn hg⟩ ?_ ?_ rfl
  all_goals first | (simp only; omega) | exact (by simp [E2]) | skip
theorem w125 (s:ByteArray) (hs:s.size≤maxLen):Pu 125 [T s] (· = B (ZA s)):=by
 have hs':=hs
 simp only[maxLen,Zo] at hs'
 refine ZN mxd i125 rfl (by simp) ?_;refine X0 ?_
 refine callS.eq (w135 s hs) ?_
 (refine R0 ?_;with_reducible repeat' first|exact trivial|intro h|refine aO ?_|refine eO ?_|apply jO)
 all_goals try (refine callS.eq (w136 _) ?_;(refine R0 ?_;with_reducible repeat' first|exact trivial|intro h|refine aO ?_|refine eO ?_|apply jO))
 all_goals simp_all [ZA]
 all_goals try (intros;omega)
theorem w40 (s : ByteArray) (hs : s.size ≤ maxLen) : Pu 40 [T s] (· = B (ZA s)) := by
  simp only [maxLen, Zo] at hs
  refine ZN mxd i40 rfl (by simp) ?_; refine X0 ?_
  refine Y5 mxd (ι := { i : Nat // i ≤ (Z6 s).length ∧ ∀ (j : Nat) (h : j < (Z6 s).length), j < i → YY (Z6 s)[j] = true ∨ Zr (Z6 s)[j] = true }) (fun i => [(0, T s), (5, I (Z6 s).length), (6, I i.1)]) (fun _ => []) (fun i => (Z6 s).length - i.1) ⟨0, by simp⟩ (by simp [E2]) rfl ?_
  rintro ⟨i, hi, hn⟩
  rcases nL i (Z6 s).length with hlt | hge
  · have hnx : YY (Z6 s)[i] = true ∨ Zr (Z6 s)[i] = true → ∀ (j : Nat) (h : j < (Z6 s).length), j < i + 1 → YY (Z6 s)[j] = true ∨ Zr (Z6 s)[j] = true := fun hg j hj hji => by
      by_cases e : j = i
      · subst e; exact hg
      · exact hn j hj (by omega)
    (repeat' (first | (with_reducible refine callS.eq (w63 _) ?_) | (with_reducible refine callS.eq (w64 _) ?_) | simp (maxSteps := 9^7) only [↓ S2, S2, ZT, ↓reduceIte, reduceNe, reduceEqDiff, reduceCtorEq, reduceLeDiff, reduceAdd, reduceLT] | simp only [Z5] | simp +contextual (disch := omega) only [Z2] | with_reducible first | intro h | refine And.intro (by omega) ?_ | refine exP (by omega) ?_ | apply And.intro))
    all_goals try exact oF
    · exact nx ⟨i + 1, by omega, hnx (.inl h)⟩ (by show (Z6 s).length - (i + 1) < (Z6 s).length - i; omega) (by simp [E2]) rfl
    · exact nx ⟨i + 1, by omega, hnx (.inr h)⟩ (by show (Z6 s).length - (i + 1) < (Z6 s).length - i; omega) (by simp [E2]) rfl
    · rw [Yx, shp_no hlt (by assumption) (by assumption)]; rfl
  · have : i = (Z6 s).length := by omega
    subst this
    (repeat' (first | (with_reducible refine callS.eq (w17 _ _ _) ?_) | (with_reducible refine callS.eq (w63 _) ?_) | (with_reducible refine callS.eq (w65 _) ?_) | simp (maxSteps := 9^7) only [↓ S2, S2, ZT, ↓reduceIte, reduceNe, reduceEqDiff, reduceCtorEq, reduceLeDiff, reduceAdd, reduceLT] | simp only [Z5] | simp +contextual (disch := omega) only [Z2] | with_reducible first | intro h | refine And.intro (by omega) ?_ | refine exP (by omega) ?_ | apply And.intro))
    all_goals try exact oF
    all_goals first
      | (rw [Yx, shp_yes (by omega) (by assumption) (fun j h => hn j h h), decide_eq_true (by omega)]; rfl)
      | (rw [Yx, shp_no0 (by omega) (by assumption)]; rfl)
      | (rw [Yx, decide_eq_false (show ¬ (Z6 s).length ≤ 8 by omega), Bool.and_false]; rfl)
      | (rcases Nat.eq_zero_or_pos (Z6 s).length with h0 | h0
         · rw [Yx, List.eq_nil_of_length_eq_zero h0]; rfl
         · rw [Yx, decide_eq_false (show ¬ (Z6 s).length ≤ 8 by omega), Bool.and_false]; rfl)
theorem Tryz.dec_i {p:Prop} {i:Decidable p}:(@decide p i=true)=p:=propext ⟨of_decide_eq_true,decide_eq_true⟩
theorem Tryz.chN (s:ByteArray):(Z6 s=Z6 (⟨#[]⟩:ByteArray))=(s=noS):=propext chars_inj
theorem w124 (e:Exp) (hl:e.args.length≤1048576):Pu 124 [Ex e] (· = B (bareV e)):=by
 have hk:e.kind=1∨e.kind=3∨e.kind=4∨e.kind=5∨e.kind=6∨e.kind=8∨(¬e.kind=1∧¬e.kind=3∧¬e.kind=4∧¬e.kind=5∧¬e.kind=6∧¬e.kind=8):=by omega
 have hl0:((e.args.length:Int)=0)=(e.args.length=0):=propext (by omega)
 have hl1:((e.args.length:Int)=1)=(e.args.length=1):=propext (by omega)
 have hl2:((e.args.length:Int)=2)=(e.args.length=2):=propext (by omega)
 have hl3:((e.args.length:Int)=3)=(e.args.length=3):=propext (by omega)
 rcases hk with hk|hk|hk|hk|hk|hk|⟨hk1,hk3,hk4,hk5,hk6,hk8⟩
 all_goals
  refine ZN mxd i124 rfl (by simp) ?_;refine X0 ?_
  first|simp (maxSteps:=9^7) only[↓ S2,S2,ZT,↓reduceIte,reduceNe,reduceEqDiff,reduceCtorEq,reduceLeDiff,reduceAdd,reduceLT,XE,hk,Int.reduceEq,decide_false,decide_true,hl0,hl1,hl2,hl3]|simp (maxSteps:=9^7) only[↓ S2,S2,ZT,↓reduceIte,reduceNe,reduceEqDiff,reduceCtorEq,reduceLeDiff,reduceAdd,reduceLT,XE,hk1,hk3,hk4,hk5,hk6,hk8,Int.reduceEq,decide_false,decide_true,hl0,hl1,hl2,hl3]
  try simp only[Tryz.chN]
  clear hl0 hl1 hl2 hl3
  (with_reducible repeat' (first|intro h|refine And.intro (by omega) ?_ | refine exP (by omega) ?_ | apply And.intro))
  all_goals
   congr 2
   rw[Bool.eq_iff_iff]
   simp[bareV,arity,Tryz.dec_i, *]
theorem w111 (e:Exp) (hl:e.args.length≤1048576) (ho:okE e):Pu 111 [Ex e] (· = B (nodeV e)):=by
 obtain ⟨hs,hm,_⟩:=okE_eq.1 ho
 have hk:e.kind=1∨e.kind=2∨e.kind=3∨e.kind=4∨e.kind=5∨e.kind=6∨e.kind=7∨e.kind=8∨(¬(1≤e.kind∧e.kind≤8)):=by omega
 rcases hk with hk|hk|hk|hk|hk|hk|hk|hk|hk
 all_goals
  refine ZN mxd i111 rfl (by simp) ?_;refine X0 ?_
  (repeat' (first|(with_reducible refine callS.eq (w24 _ _ _) ?_)|(with_reducible refine callS.eq (w124 e hl) ?_)|(with_reducible refine callS.eq (w68 _ _) ?_)|(with_reducible refine callS.eq (w125 _ hs) ?_)|(with_reducible refine callS.eq (w125 _ hm) ?_)|simp (maxSteps:=9^7) only[↓ S2,S2,ZT,↓reduceIte,reduceNe,reduceEqDiff,reduceCtorEq,reduceLeDiff,reduceAdd,reduceLT,XE,hk]|simp only[Z5]|simp +contextual (disch:=omega) only[Z2]|with_reducible first|intro h|refine And.intro (by omega) ?_ | refine exP (by omega) ?_ | apply And.intro))
  all_goals try exact oF
  all_goals first
   | (simp_all [nodeV];done)
   | (simp_all [nodeV];intros;omega)
   | (congr 2;rw[Bool.eq_iff_iff];simp[nodeV,hk, *];done)
theorem w96:∀e:Exp,okE e→wEx e≤1048576→Pu 96 [Ex e] (· = B (allE nodeV e)):=by
 refine Exp.indA fun e ih ho hw=> ?_
 obtain ⟨hl,ha⟩:=args_small hw
 obtain ⟨_,_,hoa⟩:=okE_eq.1 ho
 refine ZN mxd i96 rfl (by simp) ?_;refine X0 ?_
 simp (maxSteps:=9^7) only[↓ S2,S2,ZT,↓reduceIte,reduceNe,reduceEqDiff,reduceCtorEq,reduceLeDiff,reduceAdd,reduceLT,XE]
 refine Y5 mxd (ι:={ i:Nat // i≤e.args.length∧∀a∈e.args.take i,allE nodeV a=true }) (fun i=>[(1,.rop 7 (Ex e)),(3,I i.1)]) (fun _ => []) (fun i=>e.args.length-i.1) ⟨0,by simp⟩ (by simp[E2]) rfl ?_
 rintro ⟨i,hi,hn⟩
 rcases nL i e.args.length with hlt|hge
 ·(repeat' (first|(with_reducible refine callS.eq (ih _ (gM hlt) (hoa _ (gM hlt)) (ha _ (gM hlt))) ?_)|simp (maxSteps:=9^7) only[↓ S2,S2,ZT,↓reduceIte,reduceNe,reduceEqDiff,reduceCtorEq,reduceLeDiff,reduceAdd,reduceLT,XE]|simp only[Z5]|simp +contextual (disch:=omega) only[Z2]|with_reducible first|intro h|refine And.intro (by omega) ?_ | refine exP (by omega) ?_ | apply And.intro))
  all_goals try exact oF
  ·exact nx ⟨i+1,by omega,all_take hlt (by assumption) hn⟩ (by simp;omega) (by simp[E2]) rfl
  ·rw[allE_no hlt (by assumption)]
 ·have:i=e.args.length:=by omega
  subst this
  rw[tL (Nat.le_refl _)] at hn
  rw[allE_yes hn]
  (repeat' (first|(with_reducible refine callS.eq (w111 e hl ho) ?_)|simp (maxSteps:=9^7) only[↓ S2,S2,ZT,↓reduceIte,reduceNe,reduceEqDiff,reduceCtorEq,reduceLeDiff,reduceAdd,reduceLT,XE]|simp only[Z5]|simp +contextual (disch:=omega) only[Z2]|with_reducible first|intro h|refine And.intro (by omega) ?_ | refine exP (by omega) ?_ | apply And.intro))
theorem w76 (e:Exp) (ho:okE e) (hw:wEx e≤1048576):Pu 76 [Ex e] (· = B (validE e)):=by
 have hc:=cntE_le e
 have hd:=dpE_le e
 refine ZN mxd i76 rfl (by simp) ?_;refine X0 ?_
 (repeat' (first|(with_reducible refine callS.eq (w94 e hw _ (by omega) (by omega)) ?_)|(with_reducible refine callS.eq (w95 e hw) ?_)|(with_reducible refine callS.eq (w96 e ho hw) ?_)|simp (maxSteps:=9^7) only[↓ S2,S2,ZT,↓reduceIte,reduceNe,reduceEqDiff,reduceCtorEq,reduceLeDiff,reduceAdd,reduceLT,XE]|simp only[Z5]|simp +contextual (disch:=omega) only[Z2]|with_reducible first|intro h|refine And.intro (by omega) ?_ | refine exP (by omega) ?_ | apply And.intro))
 all_goals (simp only[validE])
 all_goals first
  | (rw[decide_eq_true (show cntE e≤24 by omega),decide_eq_true (show dpE e≤6 by omega)];rfl)
  | (rw[decide_eq_false (show ¬cntE e≤24 by omega)];rfl)
  | (rw[decide_eq_false (show ¬dpE e≤6 by omega),Bool.and_false];rfl)
end Go.Proofs.YtmdfoigdflaliaaGreatDoor
namespace Go.Proofs.YtmdfoigdflaliaaGreatDoor
open Go.Gh
open Nat (reduceEqDiff reduceLeDiff reduceAdd reduceLT)
open Int (reduceNe)
end Go.Proofs.YtmdfoigdflaliaaGreatDoor
