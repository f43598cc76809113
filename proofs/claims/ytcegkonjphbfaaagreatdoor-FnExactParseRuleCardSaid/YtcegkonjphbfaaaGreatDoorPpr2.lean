/- The tied card of the law holds. No condition. -/
import Derived.Test.YtcegkonjphbfaaaGreatDoorPpr1
import Derived.Lib.LaidTab
import Derived.Shelf.Strings.Cut
import Derived.Shelf.Strings.Split
import Derived.Shelf.Strings.Prefix
import Derived.Lib.AtoiAllCases
import Derived.HandedShaped
import Derived.Shelf.Vars
import Derived.Lay
import Derived.KernelRfl
import Derived.Test.YtcegkonjphbfaaaGreatDoorRows
import Derived.Test.YtcegkonjphbfaaaGreatDoorChecked
import Derived.Test.YtcegkonjphbfaaaGreatDoorCards
import Derived.Test.YtcegkonjphbfaaaGreatDoorTie
set_option maxHeartbeats 40000000
set_option maxRecDepth 20000
set_option linter.unusedSimpArgs false
set_option linter.unusedVariables false

namespace Go.Gh
def Wk (T:List (List Int)) (goal:Nat):Nat→Nat→Prop
 | 0,_ => False
 | 1,i=>(goal:Int)∈T.getD i []
 | d+2,i=>∃k:Nat,k<T.length∧(k:Int)∈T.getD i []∧Wk T goal (d+1) k
def Rch (T:List (List Int)) (i j:Nat):Prop:=∃d,Wk T j d i
theorem Wk_trans {T:List (List Int)} {l j e:Nat} (hj:j<T.length) (h2:Wk T l (e+1) j):∀d i,Wk T j d i→Wk T l (d+e+1) i
 | 0,_,h=>h.elim
 | 1,i,h=>by
  rw[show 1+e+1=e+2 by omega]
  exact ⟨j,hj,h,h2⟩
 | d+2,i,⟨k,hk,h3,h4⟩=>by
  have:=Wk_trans hj h2 (d+1) k h4
  rw[show d+2+e+1=(d+e+1)+2 by omega]
  exact ⟨k,hk,h3,by rw[show d+e+1+1=d+1+e+1 by omega];exact this⟩
theorem Rch.trans {T:List (List Int)} {i j l:Nat} (hj:j<T.length) (h1:Rch T i j) (h2:Rch T j l):Rch T i l:=by
 obtain ⟨d,h1⟩:=h1
 obtain ⟨e,h2⟩:=h2
 cases e with
 | zero=>exact h2.elim
 | succ e=>exact ⟨_,Wk_trans hj h2 d i h1⟩
theorem Rch.one {T:List (List Int)} {i j:Nat} (h:(j:Int)∈T.getD i []):Rch T i j:=⟨1,h⟩
end Go.Gh
namespace Go.Gh
end Go.Gh
namespace Go.Gh
end Go.Gh
namespace Go.Gh
end Go.Gh
namespace Go.Gh
end Go.Gh
namespace Go.Gh
end Go.Gh
namespace Go.Gh
abbrev Ky:=Int×ByteArray×Int
namespace Fo
def keys:Fo→List Ky
 | nil=>[]
 | cons i r l ks rest=>(i,r,l)::(ks.keys++rest.keys)
end Fo
namespace Fo
def Yw (v:Int):Fo→Fo
 | nil=>nil
 | cons i r _ ks rest=>cons i r v ks rest
end Fo
open Fo
end Go.Gh
namespace Go.Gh
end Go.Gh
namespace Go.Gh
end Go.Gh
namespace Go.Gh
theorem HM.perm {w:World} {D:Nat→Prop} {H L:GH} (p:H.Perm L):∀{Ω:List Nat},HM w D H Ω→∃Ω',HM w D L Ω'∧Ω'.Perm Ω:=by
 induction p with
 | nil=>exact fun h=>⟨_,h,.refl _⟩
 | cons x _ ih=>
  obtain ⟨r,sz,es⟩:=x
  rintro Ω ⟨F1,F2,rfl,h1,h2⟩
  obtain ⟨Ω',h3,h4⟩:=ih h2
  exact ⟨F1++Ω',⟨F1,Ω',rfl,h1,h3⟩,h4.append_left _⟩
 | swap x y l=>
  obtain ⟨r,sz,es⟩:=x
  obtain ⟨r',sz',es'⟩:=y
  rintro Ω ⟨F1,F2,rfl,h1,F3,F4,rfl,h2,h3⟩
  exact ⟨F3++(F1++F4),⟨F3,_,rfl,h2,F1,F4,rfl,h1,h3⟩,by rw[←List.append_assoc,←List.append_assoc];exact (List.perm_append_comm).append_right _⟩
 | trans _ _ ih1 ih2=>
  intro Ω h
  obtain ⟨Ω1,h1,p1⟩:=ih1 h
  obtain ⟨Ω2,h2,p2⟩:=ih2 h1
  exact ⟨Ω2,h2,p2.trans p1⟩
theorem St.perm {w:World} {D:Nat→Prop} {H L:GH} (p:H.Perm L) {Ω:List Nat} (h:St w D H Ω):∃Ω',St w D L Ω'∧Ω'.Perm Ω:=by
 obtain ⟨Ω',h1,h2⟩:=h.hm.perm p
 exact ⟨Ω',⟨h1,h2.nodup_iff.2 h.nd,((p.map _).nodup_iff).1 h.nn,fun b hb=>h.dj b (h2.mem_iff.1 hb),h.ds⟩,h2⟩
theorem GCalls.perm {P:Program} {f:FuncId} {gs:List GV} {H L:GH} {R R':GV→GH→Prop} (p:L.Perm H) (h:GCalls P f gs H R) (hr:∀g H',R g H'→∃L',R' g L'∧H'.Perm L'):GCalls P f gs L R':=by
 intro w D Ω args hst hargs
 obtain ⟨Ω',h1,h2⟩:=hst.perm p
 refine Yld.mono (fun v w' ⟨g,H',D',Ω'',k1,k2,k3,k4⟩=> ?_) (h w D Ω' args h1 hargs)
 obtain ⟨L',q1,q2⟩:=hr g H' k1
 obtain ⟨Ω3,m1,m2⟩:=k3.perm q2
 exact ⟨g,L',D',Ω3,q1,k2,m1,
  ⟨k4.d0,fun b hb hD=>(k4.dn b hb hD).imp id (fun h=>h2.mem_iff.1 h),fun b hb hl=>h2.mem_iff.1 (k4.on b (m2.mem_iff.1 hb) hl),k4.kp.mono fun b _ hb hb'=>hb (h2.mem_iff.1 hb'),k4.os,k4.tape,k4.output⟩⟩
def inH (T:GH) (H:GH):Prop:=∀x∈T,Z6 H x.1=some x.2
theorem inH.nil (H:GH):inH [] H:=fun _ h=>by cases h
theorem inH.cons {x:Nat×Nat×List GV} {T H:GH} (h:Z6 H x.1=some x.2) (hT:inH T H):inH (x::T) H:=fun y hy=>by
 rcases List.mem_cons.1 hy with rfl|hy
 ·exact h
 ·exact hT y hy
theorem inH.split:∀{T H:GH},(names T).Nodup → inH T H→∃H0,H.Perm (T++H0)
 | [],H,_,_ => ⟨H,.refl _⟩
 | (r,x)::T,H,hn,h=>by
  obtain ⟨A,B,rfl,hA⟩:=hget_split (h (r,x) (by simp))
  have hn':=List.nodup_cons.1 hn
  have hT:inH T (A++B):=fun y hy=>by
   have h1:=h y (by simp[hy])
   have hne:y.1≠r:=fun e=>hn'.1 (by rw[←e];exact List.mem_map.2 ⟨y,hy,rfl⟩)
   have:∀(A:GH),Z6 (A++(r,x)::B) y.1=Z6 (A++B) y.1:=by
    intro A
    induction A with
    | nil=>
     show Z6 ((r,x)::B) y.1=Z6 B y.1
     exact ZX (Ne.symm hne)
    | cons a A ih=>
     obtain ⟨q,z⟩:=a
     simp only[List.cons_append,Z6]
     rw[ih]
   rw[←this A]
   exact h1
  obtain ⟨H0,h0⟩:=inH.split hn'.2 hT
  exact ⟨H0,(List.perm_middle).trans (h0.cons _)⟩
def GCX (P:Program) (T:GH) (f:FuncId) (gs:List GV) (R:GV→GH→Prop):Prop:=
 ∀H,GCalls P f gs (T++H) (fun g H'=>∃H1,R g H1∧H'=H1++(T++H))
theorem GCX.at {P:Program} {T:GH} {f:FuncId} {gs:List GV} {R:GV→GH→Prop} (h:GCX P T f gs R) (hn:(names T).Nodup) {H:GH} (hT:inH T H) :
 GCalls P f gs H (fun g H'=>∃H1,R g H1∧H'=H1++H):=by
 obtain ⟨H0,h0⟩:=hT.split hn
 refine (h H0).perm h0 ?_
 rintro g H' ⟨H1,h1,rfl⟩
 exact ⟨H1++H,⟨H1,h1,rfl⟩,h0.symm.append_left _⟩
theorem GCX.mono {P:Program} {T:GH} {f:FuncId} {gs:List GV} {R R':GV→GH→Prop} (h:GCX P T f gs R) (hr:∀g H1,R g H1→R' g H1):GCX P T f gs R':=
 fun H=>(h H).mono fun g H' ⟨H1,h1,h2⟩=>⟨H1,hr g H1 h1,h2⟩
theorem GCX.of {P:Program} {x:Nat×Nat×List GV} {f:FuncId} {gs:List GV} {R:GV→GH→Prop}
 (h:∀H,GCalls P f gs (x::H) (fun g H'=>∃G H1 T L,R G H1∧Bor L g G∧H'=T++H∧subH T (L++(H1++[x])))):GCX P [x] f gs R:=
 fun H=>(h H).fr fun g H' ⟨G,H1,T,L,h1,h2,h3,h4⟩=>by
  subst h3
  refine ⟨G,H1++([x]++H),FR.trans (FR.perm h4) ?_,H1,h1,rfl⟩
  rw[List.append_assoc,List.append_assoc]
  exact FR.front h2
theorem GCX.of2 {P:Program} {x y:Nat×Nat×List GV} {f:FuncId} {gs:List GV} {R:GV→GH→Prop}
 (h:∀H,x.1≠y.1→GCalls P f gs (x::y::H) (fun g H'=>∃G H1 T L,R G H1∧Bor L g G∧H'=T++H∧subH T (L++(H1++[x,y])))):GCX P [x,y] f gs R:=fun H=>by
 have h1:∀hne:x.1≠y.1,GCalls P f gs ([x,y]++H) (fun g H'=>∃H1,R g H1∧H'=H1++([x,y]++H)):=fun hne=>(h H hne).fr fun g H' ⟨G,H1,T,L,h1,h2,h3,h4⟩=>by
  subst h3
  refine ⟨G,H1++([x,y]++H),FR.trans (FR.perm h4) ?_,H1,h1,rfl⟩
  rw[List.append_assoc,List.append_assoc]
  exact FR.front h2
 intro w D Ω args hst hargs
 exact h1 (by have:=hst.nn;simp[names] at this;exact this.1.1) w D Ω args hst hargs
abbrev PuR (P:Program) (x:Nat×Nat×List GV) (f:FuncId) (gs:List GV) (G:GV):Prop:=GCX P [x] f gs (fun g H1=>g=G∧H1=[])
theorem PuR.of {P:Program} {x:Nat×Nat×List GV} {f:FuncId} {gs:List GV} {G:GV}
 (h:∀H,GCalls P f gs (x::H) (fun g H'=>∃T L,Bor L g G∧H'=T++H∧subH T (L++[x]))):PuR P x f gs G:=
 GCX.of fun H=>(h H).mono fun g H' ⟨T,L,h2,h3,h4⟩=>⟨G,[],T,L,⟨rfl,rfl⟩,h2,h3,h4⟩
theorem PuR.min {P:Program} {x:Nat×Nat×List GV} {f:FuncId} {gs:List GV} {G:GV} (h:GCalls P f gs [x] (fun g H'=>g=G∧H'=[x])):PuR P x f gs G:=
 fun H=>(GCalls.frame1 (H1:=H) h).perm (by exact List.perm_append_comm) fun g H' ⟨h1,h2⟩=>⟨[x]++H,⟨[],⟨h1,rfl⟩,rfl⟩,by rw[h2];exact List.perm_append_comm⟩
def DcR (P:Program) (y:Nat×Nat×List GV) (f:FuncId) (gs:List GV) (R:GV→GH→Prop):Prop:=∀rc,GCX P [(rc,3,[.cur]),y] f (.ptr rc 3 0 0::gs) R
abbrev DvR (P:Program) (y:Nat×Nat×List GV) (f:FuncId) (gs:List GV) (R:GV→Prop):Prop:=DcR P y f gs (fun g H1=>R g∧H1=[])
theorem DcR.of {P:Program} {y:Nat×Nat×List GV} {f:FuncId} {gs:List GV} {R:GV→GH→Prop}
 (h:∀rc H,rc≠y.1→GCalls P f (.ptr rc 3 0 0::gs) ((rc,3,[.cur])::y::H) (fun g H'=>∃G H1 T L,R G H1∧Bor L g G∧H'=T++H∧subH T (L++(H1++[(rc,3,[.cur]),y])))):DcR P y f gs R:=
 fun rc=>GCX.of2 fun H hne=>h rc H hne
theorem DvR.of {P:Program} {y:Nat×Nat×List GV} {f:FuncId} {gs:List GV} {R:GV→Prop}
 (h:∀rc H,rc≠y.1→GCalls P f (.ptr rc 3 0 0::gs) ((rc,3,[.cur])::y::H) (fun g H'=>∃G T L,R G∧Bor L g G∧H'=T++H∧subH T (L++[(rc,3,[.cur]),y]))):DvR P y f gs R:=
 DcR.of fun rc H hne=>(h rc H hne).mono fun g H' ⟨G,T,L,h1,h2,h3,h4⟩=>⟨G,[],T,L,⟨h1,rfl⟩,h2,h3,h4⟩
theorem DcR.at {P:Program} {y:Nat×Nat×List GV} {f:FuncId} {gs:List GV} {R:GV→GH→Prop} (h:DcR P y f gs R) {rc:Nat} {H:GH} (hr:Z6 H rc=some (3,[.cur])) (hy:Z6 H y.1=some y.2) (h3:y.2.1≠3) :
 GCalls P f (.ptr rc 3 0 0::gs) H (fun g H'=>∃H1,R g H1∧H'=H1++H):=
 (h rc).at (by
  have:rc≠y.1:=fun e=>by rw[←e,hr] at hy;exact h3 (by rw[←Option.some.inj hy])
  simp[names,this]) (.cons hr (.cons hy (.nil _)))
end Go.Gh
namespace Go.Gh
end Go.Gh
namespace Go.Gh
theorem FE.virt1 {env:Env} {H:GH} {r r1 sz sz1:Nat} {gs:List GV} (j:Nat) (hg:gs[j]? = some (.val (.slice none 0 0))) (ho:r1 % 4=1) (hn:r1∉names ((r,sz,[.agg gs])::H)) :
 FE env ((r,sz,[.agg gs])::H) env ((r1,sz1,[])::(r,sz,[.agg (gs.set j (.own r1 sz1 0 0))])::H):=by
 have:=FE.virtF (env:=env) (sz1:=sz1) (i:=0) (j:=j) Z0 rfl hg ho hn
 simpa[Z1] using this
theorem FE.virt2 {env:Env} {H:GH} {r r1 r2 sz s1 s2:Nat} {gs:List GV} (j1 j2:Nat) (hg:gs[j1]? = some (.val (.slice none 0 0))) (ho:r1 % 4=1) (hn:r1∉names ((r,sz,[.agg gs])::H))
 (hg2:(gs.set j1 (.own r1 s1 0 0))[j2]? = some (.val (.slice none 0 0))) (ho2:r2 % 4=1) (hn2:r2∉names ((r,sz,[.agg gs])::(r1,s1,[])::H)) :
 FE env ((r,sz,[.agg gs])::H) env ((r1,s1,[])::(r2,s2,[])::(r,sz,[.agg ((gs.set j1 (.own r1 s1 0 0)).set j2 (.own r2 s2 0 0))])::H):=by
 refine FE.trans (FE.virt1 (sz1:=s1) j1 hg ho hn) (FE.trans FE.swap (FE.trans (FE.virt1 (sz1:=s2) j2 hg2 ho2 (by simpa[names] using hn2)) ?_))
 exact FE.perm (H:=[_,_,_]) (L:=[(r1,s1,[]),(r2,s2,[]),_]) (by
  have h1:¬r1=r:=by simp[names] at hn;exact hn.1
  have h2:¬r2=r∧¬r2=r1:=by simp[names] at hn2;exact ⟨hn2.1,hn2.2.1⟩
  have h3:¬r1=r2:=fun h=>h2.2 h.symm
  have h4:¬r=r1:=fun h=>h1 h.symm
  have h5:¬r=r2:=fun h=>h2.1 h.symm
  simp[subH,Z6,names,h1,h2.1,h2.2,h3,h4,h5])
end Go.Gh
namespace Go.Gh
open Lib
abbrev bA (l:List UInt8):ByteArray:=⟨l.toArray⟩
theorem map_chA (ls:List (List UInt8)):(ls.map bA).map Z9=ls:=by
 rw[List.map_map]
 exact (List.map_congr_left fun l _ => chA l).trans (List.map_id ls)
theorem map_eta (xs:List ByteArray):(xs.map Z9).map bA=xs:=by
 rw[List.map_map]
 exact (List.map_congr_left fun l _ => chars_eta l).trans (List.map_id xs)
theorem slice_drop (l:List UInt8) (i n:Nat):(l.take (i+n)).drop i=(l.drop i).take n:=by
 rw[List.drop_take,Nat.add_sub_cancel_left]
theorem occA_eq {l p:List UInt8} {i:Nat} (h:i+p.length≤l.length):occAt l p i=decide ((l.take (i+p.length)).drop i=p):=by
 rw[occAt_iff_take _ _ _ h,slice_drop,Bool.eq_iff_iff]
 simp
theorem occA_no {l p:List UInt8} {i:Nat} (hp:p≠[]) (h:l.length<i+p.length):occAt l p i=false:=by
 rw[Bool.eq_false_iff]
 intro ho
 rcases occAt_room ho with h1|h1
 ·omega
 ·exact hp h1
theorem cut_hit {l p:List UInt8} {i:Nat} (hi:i+p.length≤l.length) (h:∀j,j<i→occAt l p j=false) (he:occAt l p i=true):cut l p=(l.take i,l.drop (i+p.length),true):=by
 unfold cut
 rw[index_first (by omega) he h,if_pos (by omega),Int.toNat_natCast]
theorem cut_miss {l p:List UInt8} (h:∀j,j≤l.length→occAt l p j=false):cut l p=(l,[],false):=by
 unfold cut
 rw[index_none h]
 rfl
theorem X3 (l p:List UInt8):(cut l p).1.length ≤ l.length∧(cut l p).2.1.length ≤ l.length:=by
 unfold cut
 split
 ·simp only[List.length_take,List.length_drop];omega
 ·simp
def spP (b:UInt8) (l:List UInt8) (i k:Nat) (out:List (List UInt8)):Prop:=
 (i≤l.length∧k≤i∧b∉(l.take i).drop k∧spl b l=out++spl b (l.drop k))∨(i=l.length+1∧out=spl b l)
theorem sp_init (b:UInt8) (l:List UInt8):spP b l 0 0 []:= .inl ⟨Nat.zero_le _,Nat.le_refl _,by simp,by simp⟩
theorem sp_le {b:UInt8} {l:List UInt8} {i k:Nat} {out:List (List UInt8)} (h:spP b l i k out):out.length≤l.length+1∧i≤l.length+1:=by
 have hl:=spl_len (b:=b) l
 rcases h with ⟨h1,_,_,h4⟩|⟨h1,h2⟩
 ·have:=congrArg List.length h4
  rw[List.length_append] at this
  omega
 ·subst h2;omega
theorem sp_no {b:UInt8} {l:List UInt8} {i k:Nat} {out:List (List UInt8)} (h:spP b l i k out) (hi:i<l.length) (hb:l[i]≠b):spP b l (i+1) k out:=by
 rcases h with ⟨h1,h2,h3,h4⟩|⟨h1,_⟩
 ·refine .inl ⟨hi,by omega,?_,h4⟩
  rw[List.take_succ_eq_append_getElem hi,List.drop_append_of_le_length (by rw[List.length_take];omega),List.mem_append]
  rintro (h5|h5)
  ·exact h3 h5
  ·exact hb (List.mem_singleton.1 h5).symm
 ·omega
theorem sp_piece {b:UInt8} {l:List UInt8} {i k:Nat} (h1:i≤l.length) (h2:k≤i):l.drop k=(l.take i).drop k++l.drop i:=by
 rw[←List.drop_append_of_le_length (by rw[List.length_take];omega),List.take_append_drop]
theorem sp_yes {b:UInt8} {l:List UInt8} {i k:Nat} {out:List (List UInt8)} (h:spP b l i k out) (hi:i<l.length) (hb:l[i]=b):k≤i∧spP b l (i+1) (i+1) (out++[(l.take i).drop k]):=by
 rcases h with ⟨h1,h2,h3,h4⟩|⟨h1,_⟩
 ·refine ⟨h2,.inl ⟨hi,Nat.le_refl _,by simp,?_⟩⟩
  rw[h4,sp_piece (b:=b) h1 h2,List.drop_eq_getElem_cons hi,hb,spl_cons h3]
  simp
 ·omega
theorem sp_end {b:UInt8} {l:List UInt8} {k:Nat} {out:List (List UInt8)} (h:spP b l l.length k out):k≤l.length∧spP b l (l.length+1) (l.length+1) (out++[(l.take l.length).drop k]):=by
 rcases h with ⟨h1,h2,h3,h4⟩|⟨h1,_⟩
 ·refine ⟨h2,.inr ⟨rfl,?_⟩⟩
  rw[h4,List.take_length]
  rw[List.take_length] at h3
  rw[spl_one h3]
 ·omega
theorem sp_out {b:UInt8} {l:List UInt8} {k:Nat} {out:List (List UInt8)} (h:spP b l (l.length+1) k out):out=spl b l:=by
 rcases h with ⟨h1,_⟩|⟨_,h1⟩
 ·omega
 ·exact h1
theorem spl_mem {b:UInt8}:∀{l w:List UInt8},w∈spl b l→w.length≤l.length
 | [],w,h=>by simp only[spl,List.mem_singleton] at h;subst h;exact Nat.le_refl _
 | c::l,w,h=>by
  simp only[spl] at h
  split at h
  ·rcases List.mem_cons.1 h with rfl|h
   ·simp
   ·have:=spl_mem h;simp only[List.length_cons];omega
  ·split at h
   ·rename_i h2;exact absurd h2 (spl_ne b l)
   ·rename_i x xs h2
    rcases List.mem_cons.1 h with rfl|h
    ·have:=spl_mem (b:=b) (l:=l) (w:=x) (by rw[h2];exact List.mem_cons_self)
     simp only[List.length_cons];omega
    ·have:=spl_mem (b:=b) (l:=l) (w:=w) (by rw[h2];exact List.mem_cons_of_mem _ h)
     simp only[List.length_cons];omega
theorem join_mono (sep : List UInt8) {l : List (List UInt8)} : ∀ {i j : Nat}, i ≤ j → j ≤ l.length → (Zs sep (l.take i)).length ≤ (Zs sep (l.take j)).length := by
  intro i j hij hj
  induction j with
  | zero => obtain rfl : i = 0 := by omega
            exact Nat.le_refl _
  | succ j ih =>
    rcases Nat.lt_or_ge j i with h | h
    · obtain rfl : i = j + 1 := by omega
      exact Nat.le_refl _
    · have := ih h (by omega)
      rw [join_take sep (show j < l.length by omega)]
      split
      · rename_i h0
        subst h0
        obtain rfl : i = 0 := by omega
        simp [join_nil]
      · simp only [List.length_append]; omega
theorem jn_join:∀ws:List (List UInt8),Zs [32] ws=jn ws
 | []=>rfl
 | w::ws=>by simp[Zs,Lib.join_cons,joinTail,jn,List.flatMap]
theorem jn_drop:∀(k:Nat) (ws:List (List UInt8)),(jn (ws.drop k)).length ≤ (jn ws).length
 | 0,ws=>by simp
 | k+1,[]=>by simp
 | k+1,[w]=>by simp[jn]
 | k+1,w::x::ws=>by
  have:=jn_drop k (x::ws)
  rw[List.drop_succ_cons]
  refine Nat.le_trans this ?_
  simp only[jn,List.flatMap_cons,List.length_append,List.length_cons]
  omega
def hdP (D:List (List UInt8)) (k:Nat) (right:List (List UInt8)) (lit:Bool):Prop:=
 (k<D.length∧right=D.take k∧lit=false)∨(k=D.length∧right=(if D.getLast?=some litW then D.dropLast else D)∧lit=decide (D.getLast?=some litW))
theorem hd_init (D:List (List UInt8)):hdP D 0 [] false:=by
 cases D with
 | nil=>exact .inr ⟨rfl,by simp,by simp⟩
 | cons w D=>exact .inl ⟨by simp,by simp,rfl⟩
theorem hd_lit {D:List (List UInt8)} {k:Nat} {right:List (List UInt8)} {lit:Bool} (h:hdP D k right lit) (hk:k<D.length) (h1:D[k]=litW) (h2:k+1=D.length):hdP D (k+1) right true:=by
 rcases h with ⟨_,h3,_⟩|⟨h3,_⟩
 ·have hl:D.getLast?=some litW:=by rw[List.getLast?_eq_getElem?,←h2,Nat.add_sub_cancel,List.getElem?_eq_getElem hk,h1]
  refine .inr ⟨h2,?_,?_⟩
  ·rw[if_pos hl,h3,List.dropLast_eq_take,←h2,Nat.add_sub_cancel]
  ·rw[decide_eq_true hl]
 ·omega
theorem hd_word {D:List (List UInt8)} {k:Nat} {right:List (List UInt8)} {lit:Bool} (h:hdP D k right lit) (hk:k<D.length) (h1:¬(D[k]=litW∧k+1=D.length)):hdP D (k+1) (right++[D[k]]) lit:=by
 rcases h with ⟨_,h3,h4⟩|⟨h3,_⟩
 ·have e:right++[D[k]]=D.take (k+1):=by rw[h3,List.take_succ_eq_append_getElem hk]
  rcases Nat.lt_or_ge (k+1) D.length with h5|h5
  ·exact .inl ⟨h5,e,h4⟩
  ·have h6:k+1=D.length:=by omega
   have hl:¬D.getLast?=some litW:=by
    rw[List.getLast?_eq_getElem?,←h6,Nat.add_sub_cancel,List.getElem?_eq_getElem hk]
    intro he
    exact h1 ⟨Option.some.inj he,h6⟩
   refine .inr ⟨h6,?_,?_⟩
   ·rw[if_neg hl,e,h6,List.take_length]
   ·rw[decide_eq_false hl,h4]
 ·omega
theorem hd_out {D:List (List UInt8)} {right:List (List UInt8)} {lit:Bool} (h:hdP D D.length right lit):right=(if D.getLast?=some litW then D.dropLast else D)∧lit=decide (D.getLast?=some litW):=by
 rcases h with ⟨h,_⟩|⟨_,h⟩
 ·omega
 ·exact h
theorem hd_le {D:List (List UInt8)} {k:Nat} {right:List (List UInt8)} {lit:Bool} (h:hdP D k right lit):right.length≤D.length∧k≤D.length:=by
 rcases h with ⟨h1,h2,_⟩|⟨h1,h2,_⟩
 ·rw[h2,List.length_take];omega
 ·rw[h2]
  split
  ·rw[List.length_dropLast];omega
  ·omega
theorem fil_step {α β:Type} {p:α→Bool} {f:α→β} {l:List α} {i:Nat} (h:i<l.length):((l.take (i+1)).filter p).map f=((l.take i).filter p).map f++if p l[i]=true then [f l[i]] else []:=by
 rw[List.take_succ_eq_append_getElem h,List.filter_append,List.map_append]
 congr 1
 simp only[List.filter_cons,List.filter_nil]
 split<;>simp_all
theorem okE_names {e:Exp} (h:okE e):e.name.size≤maxLen:=by
 cases e
 simp only[okE] at h
 exact h.2.1
theorem rqS_sz (l:List UInt8) (h:l.length≤1048576):okEq (rqS l)∧smEq (rqS l):=by
 have h2:=parV_sz (cut l dfT).2.1
 have h1:=parV_sz ((cut l dfT).1.drop 3)
 unfold rqS
 split
 ·refine ⟨⟨?_,h2.1⟩,h2.2⟩
  exact (okE_names h1.1)
 ·exact ⟨⟨by show noS.size≤maxLen;decide,h2.1⟩,h2.2⟩
theorem bA_sz {l:List UInt8} (h:l.length≤1048576):(bA l).size ≤ maxLen:=by
 have:(bA l).size = l.length:=by rw[ZE,chA]
 rw[this]
 simp only[maxLen]
 omega
theorem hd_mem {α:Type} {l:List (List α)} {n:Nat} (h:∀w∈l,w.length≤n):(l.headD []).length ≤ n∧(l.getLastD []).length ≤ n∧∀k,(l.getD k []).length ≤ n:=by
 refine ⟨?_,?_,fun k=> ?_⟩
 ·cases l with
  | nil=>simp
  | cons w l=>exact h w (by simp)
 ·rw[List.getLastD_eq_getLast?]
  cases h2:l.getLast? with
  | none=>simp
  | some w=>exact h w (List.mem_of_getLast? h2)
 ·rw[List.getD_eq_getElem?_getD]
  cases h2:l[k]? with
  | none=>simp
  | some w=>exact h w (List.mem_of_getElem? h2)
theorem rcS_sz (l:List UInt8) (h:l.length≤1048576):okCo (rcS l)∧smCo (rcS l):=by
 have hc:=X3 l dfT
 have hz:okE expZ∧wEx expZ≤1048576:=⟨(YI 0 0 0 0).1,by rw[show expZ = .mk 0 0 0 0 noS noS [] from rfl,(YI 0 0 0 0).2];omega⟩
 have hn:noS.size≤maxLen:=by decide
 unfold rcS
 split
 ·exact ⟨⟨hn,hn,hz.1,hz.1⟩,hz.2,hz.2⟩
 ·have h1:∀w∈spl 32 (cut l dfT).1,w.length≤1048576:=fun w hw=>Nat.le_trans (spl_mem hw) (by omega)
  have h2:∀w∈spl 46 ((spl 32 (cut l dfT).1).getD 1 []),w.length≤1048576:=fun w hw=>Nat.le_trans (spl_mem hw) ((hd_mem h1).2.2 1)
  have p1:=parV_sz (jn ((spl 32 (cut l dfT).1).drop 3))
  have p2:=parV_sz (cut l dfT).2.1
  exact ⟨⟨bA_sz (hd_mem h2).1,bA_sz (hd_mem h2).2.1,p1.1,p2.1⟩,p1.2,p2.2⟩
theorem lit_mem {D:List (List UInt8)}:∀w∈(if D.getLast?=some litW then D.dropLast else D),w∈D:=fun w hw=>by
 split at hw
 ·exact List.dropLast_subset D hw
 ·exact hw
theorem rhS_sz (l:List UInt8) (h:l.length≤1048576):(rhS l).name.size ≤ maxLen∧(rhS l).left.size ≤ maxLen∧(∀s∈(rhS l).right,s.size≤maxLen)∧(rhS l).right.length ≤ 1048576:=by
 have hn:noS.size≤maxLen:=by decide
 have h1:∀w∈spl 32 l,w.length≤1048576:=fun w hw=>Nat.le_trans (spl_mem hw) (by omega)
 have h2:=spl_len (b:=32) l
 unfold rhS
 split
 ·refine ⟨hn,hn,?_,?_⟩
  ·intro s hs
   cases hs
  ·show (0:Nat) ≤ _
   omega
 ·refine ⟨bA_sz ((hd_mem h1).2.2 1),bA_sz ((hd_mem h1).2.2 2),?_,?_⟩
  ·intro s hs
   obtain ⟨w,hw,rfl⟩:=List.mem_map.1 hs
   exact bA_sz (h1 w (List.mem_of_mem_drop (lit_mem w hw)))
  ·rw[List.length_map]
   split
   ·rw[List.length_dropLast,List.length_drop];omega
   ·rw[List.length_drop];omega
theorem bor_coZ {H:GH}:Bor H (.agg [T noS,T noS,I 0,I 0,I 0,I 0,T noS,T noS,.val (.slice none 0 0),I 0,I 0,I 0,I 0,T noS,T noS,.val (.slice none 0 0)]) (Co ⟨noS,noS,expZ,expZ⟩):=
 .agg (.cons .refl (.cons .refl (.cons .refl (.cons .refl (.cons .refl (.cons .refl (.cons .refl (.cons .refl (.cons .nil (.cons .refl (.cons .refl (.cons .refl (.cons .refl (.cons .refl (.cons .refl (.cons .nil .nil))))))))))))))))
theorem bor_ruZ {H:GH}:Bor H (.agg [T noS,T noS,.val (.slice none 0 0),B false,.val (.slice none 0 0),.val (.slice none 0 0)]) (Ru rulZ):=
 .agg (.cons .refl (.cons .refl (.cons .nil (.cons .refl (.cons .nil (.cons .nil .nil))))))
theorem rul_names {r:Rul} (h:YX r=true):(Z9 r.name).length ≤ 8∧(Z9 r.left).length ≤ 8∧∀s∈r.right,(Z9 s).length ≤ 8:=by
 simp only[YX,Bool.and_eq_true,List.all_eq_true,decide_eq_true_eq] at h
 exact ⟨nmV_len h.1,nmV_len h.2.1,fun s hs=>nmV_len (h.2.2.2.2.1 s hs)⟩
def hdW (r:Rul) (i:Nat):List UInt8:=[114,117,108,101,32]++Z9 r.name++[32]++Z9 r.left++[32,58]++((r.right.take i).map Z9).flatMap (32 :: ·)
theorem hdW_zero (r:Rul):[114,117,108,101,32]++Z9 r.name++[32]++Z9 r.left++[32,58]=hdW r 0:=by simp[hdW]
theorem hdW_succ {r:Rul} {i:Nat} (h:i<r.right.length):hdW r (i+1)=hdW r i++[32]++Z9 r.right[i]:=by
 unfold hdW
 rw[List.take_succ_eq_append_getElem h,List.map_append,List.flatMap_append]
 simp only[List.map_cons,List.map_nil,List.flatMap_cons,List.flatMap_nil,List.append_nil,List.append_assoc,List.singleton_append]
theorem hdW_len {r:Rul} (h:YX r=true) (i:Nat):(hdW r i).length ≤ 60:=by
 obtain ⟨h1,h2,h3⟩:=rul_names h
 have h4:=(rul_parts h).1
 have h5:∀(l:List ByteArray),(∀s∈l,(Z9 s).length ≤ 8)→((l.map Z9).flatMap (32 :: ·)).length ≤ 9 * l.length:=by
  intro l
  induction l with
  | nil=>intro _;simp
  | cons x l ih=>
   intro hl
   have a1:=hl x (by simp)
   have a2:=ih fun s hs=>hl s (by simp[hs])
   simp only[List.map_cons,List.flatMap_cons,List.length_append,List.length_cons] at a2 ⊢
   omega
 have h6:=h5 (r.right.take i) fun s hs=>h3 s (List.mem_of_mem_take hs)
 have h7:(r.right.take i).length ≤ 3:=by rw[List.length_take];omega
 simp only[hdW,List.length_append,List.length_cons,List.length_nil]
 omega
theorem hdW_end (r:Rul):hdT r=hdW r r.right.length++if r.lit then [32,108,105,116] else []:=by
 have e:∀(a b:List UInt8) (R:List (List UInt8)),[114,117,108,101]++([a,b,[58]]++R).flatMap (32 :: ·)=[114,117,108,101,32]++a++[32]++b++[32,58]++R.flatMap (32 :: ·):=fun a b R=>by
  rw[List.flatMap_append]
  simp
 unfold hdT hdW
 rw[List.take_length,e,List.flatMap_append,←List.append_assoc]
 congr 1
 rcases r.lit with _ | _ <;> rfl
theorem eqT_as (q:Eqn):[101,113,32,36]++itoa q.pos++[46]++Z9 q.name++[32,58,61,32]++ZZ q.expr=eqT q:=by simp[eqT]
theorem vE_len {e:Exp} (h:Zo e=true):(ZZ e).length ≤ 2880:=by
 have h1:=X7 e (XQ h)
 simp only[Zo,Bool.and_eq_true,decide_eq_true_eq] at h
 omega
theorem vE_cnt {e:Exp} (h:Zo e=true):Zr e≤1000:=by
 simp only[Zo,Bool.and_eq_true,decide_eq_true_eq] at h
 omega
theorem rdS_sz {h:List UInt8} {t:List (List UInt8)} (hh:h.length≤1048576) (ht:t.length≤1048576) (hl:∀l∈t,l.length≤1048576):okRu (rdS h t)∧smRu (rdS h t):=by
 obtain ⟨h1,h2,h3,h4⟩:=rhS_sz h hh
 have e1:∀q∈(rdS h t).eqs,okEq q∧smEq q:=fun q hq=>by
  obtain ⟨l,hl2,rfl⟩:=List.mem_map.1 hq
  exact rqS_sz l (hl l (List.mem_filter.1 hl2).1)
 have e2:∀c∈(rdS h t).cons,okCo c∧smCo c:=fun c hc=>by
  obtain ⟨l,hl2,rfl⟩:=List.mem_map.1 hc
  exact rcS_sz l (hl l (List.mem_filter.1 hl2).1)
 have l1:(rdS h t).eqs.length ≤ 1048576:=by
  show ((t.filter isEq).map rqS).length ≤ _
  rw[List.length_map]
  exact Nat.le_trans (List.length_filter_le _ _) ht
 have l2:(rdS h t).cons.length ≤ 1048576:=by
  show ((t.filter fun l=> !isEq l).map rcS).length ≤ _
  rw[List.length_map]
  exact Nat.le_trans (List.length_filter_le _ _) ht
 exact ⟨⟨h1,h2,h3,fun q hq=>(e1 q hq).1,fun c hc=>(e2 c hc).1⟩,h4,l1,l2,fun q hq=>(e1 q hq).2,fun c hc=>(e2 c hc).2⟩
abbrev RuN (x:Rul):GV:= .agg [T x.name,T x.left,TS x.right,B x.lit,Zt,Zt]
theorem bor_ruN {H:GH}:Bor H (.agg [T noS,T noS,Zt,B false,Zt,Zt]) (RuN rulZ):=
 .agg (.cons .refl (.cons .refl (.cons .nil (.cons .refl (.cons .refl (.cons .refl .nil))))))
theorem bA_inj {X:List (List UInt8)} {ls:List ByteArray}:X.map bA=ls↔X=ls.map Z9:=by
 constructor
 ·rintro rfl;rw[map_chA]
 ·rintro rfl;rw[map_eta]
def eqsS (t:List (List UInt8)) (i:Nat):List Eqn:=((t.take i).filter isEq).map rqS
def consS (t:List (List UInt8)) (i:Nat):List Con:=((t.take i).filter fun l=> !isEq l).map rcS
theorem eqsS_eq {t:List (List UInt8)} {i:Nat} (h:i<t.length) (he:isEq t[i]=true):eqsS t (i+1)=eqsS t i++[rqS t[i]]∧consS t (i+1)=consS t i:=by
 unfold eqsS consS
 rw[fil_step h,fil_step h,he]
 simp
theorem eqsS_co {t:List (List UInt8)} {i:Nat} (h:i<t.length) (he:isEq t[i]=false):eqsS t (i+1)=eqsS t i∧consS t (i+1)=consS t i++[rcS t[i]]:=by
 unfold eqsS consS
 rw[fil_step h,fil_step h,he]
 simp
theorem eqsS_len (t:List (List UInt8)) (i:Nat):(eqsS t i).length ≤ t.length∧(consS t i).length ≤ t.length:=by
 unfold eqsS consS
 rw[List.length_map,List.length_map]
 exact ⟨Nat.le_trans (List.length_filter_le _ _) (by rw[List.length_take];omega),Nat.le_trans (List.length_filter_le _ _) (by rw[List.length_take];omega)⟩
theorem rdS_end (h:List UInt8) (t:List (List UInt8)):rdS h t={ rhS h with eqs:=eqsS t t.length,cons:=consS t t.length }:=by
 unfold eqsS consS rdS
 rw[List.take_length]
end Go.Gh
namespace Go.Gh
open Lib
theorem HM.tabE {P:Program} {W:World} {n m:Nat} {s s2:String} (hg:P.globalNamed s=some n) (h:TabIs P W s .u64 pow10Tab) (hg2:P.globalNamed s2=some m) (h2:∃u v,W.var? P s2=some #[.iface u v]):HM W (Yr W) (tabE n m) []:=by
 obtain ⟨F1,F2,hF,h1,h3⟩:=HM.tab10 hg h
 refine ⟨[],[],rfl,?_,[],[],rfl,.inr ⟨⟨by omega,fun _ _ => ?_⟩,rfl,rfl⟩,rfl⟩
 ·obtain ⟨rfl,rfl⟩:=List.append_eq_nil_iff.1 hF.symm
  exact h1
 ·have e:(4 * m+3) / 4=m:=by omega
  obtain ⟨u,v,h2⟩:=h2
  simp only[World.var?,hg2,Option.bind_some] at h2
  unfold TB
  rw[e]
  split at h2
  case h_2=>cases h2
  rename_i c T fz hb
  simp only[Option.some.injEq] at h2
  refine ⟨lt_of_heap hb,c,T,fz,hb,?_⟩
  rw[h2]
  simp only[tabP]
  rw[if_neg (by decide),if_neg (by decide),if_neg (by decide)]
  exact ⟨u,v,rfl⟩
theorem ifcTrod {H:Type} {enc:TypeId×Value→H} {P:Program} {w:World} {base:Nat} {sp:Nat→Bool} {fuel:Nat} {t:TypeId} {cs:List Value} {n:String} {d:DataW H} {p:List MemPlace}
 (ht:∃x,P.underlying t=some (.interface x)) (h:DataW.trod enc P w base sp false fuel t cs=some (.iface n d,p)):∃u v,cs=[.iface u v]:=by
 obtain ⟨x,ht⟩:=ht
 cases fuel with
 | zero=>simp[DataW.trod] at h
 | succ fuel=>
  simp only[DataW.trod,ht] at h
  split at h<;>first|exact ⟨_,_,rfl⟩|cases h|(exfalso;simp_all;done)|skip
  all_goals trace_state
end Go.Gh
namespace Go.Gh
open Lib Go.RowKit
def tabF (a b c d:Nat):GH:=[(4 * a+3,1000000,[]),(4 * b+3,1000001,[]),(4 * c+3,1000001,[]),(4 * d+3,1000002,[])]
theorem tabF_ok (a b c d:Nat):∀x∈tabF a b c d,x.2.2=[]∧x.1 % 4=3:=fun x hx=>by
 simp only[tabF,List.mem_cons,List.not_mem_nil,or_false] at hx
 rcases hx with rfl|rfl|rfl|rfl<;>exact ⟨rfl,by dsimp only;omega⟩
theorem tabH_F {a b c d:Nat} (h:[a,b,c,d].Nodup):tabH (tabF a b c d):=⟨by
 simp only[List.nodup_cons,List.mem_cons,List.not_mem_nil,or_false,not_or,List.nodup_nil,not_false_eq_true,and_true] at h
 simp[tabF,names];omega,fun x hx=>by
 simp only[tabF,List.mem_cons,List.not_mem_nil,or_false] at hx
 rcases hx with rfl|rfl|rfl|rfl<;>exact ⟨by dsimp only;omega,by dsimp only;omega,rfl⟩⟩
theorem tabF_10 (a b c d:Nat):∀x∈tab10 a,x∈tabF a b c d:=fun x hx=>by simp only[tab10,List.mem_singleton] at hx;subst hx;simp[tabF]
theorem tabF_E (a b c d:Nat):∀x∈tabE a c,x∈tabF a b c d:=fun x hx=>by
 simp only[tabE,List.mem_cons,List.not_mem_nil,or_false] at hx
 rcases hx with rfl|rfl<;>simp[tabF]
theorem HM.isM {w:World} {D:Nat→Prop} {m:Nat} {H:GH} {Ω:List Nat} (h:HM w D H Ω) (hn:(names H).Nodup) (hm:(4 * m+3,1000002,[])∈H):∃n:Int,w.cell? ⟨m,0,none⟩=some (.int .i64 n):=by
 obtain ⟨F,hF,_⟩:=h.mem (hget_mem hn hm)
 have e:(4 * m+3) / 4=m:=by omega
 rcases hF with ⟨b,c,T,fz,F',k1,_⟩|hF
 ·dsimp only at k1;omega
 ·obtain ⟨_,c,T,fz,h1,h2⟩:=hF.1.2 (by dsimp only;omega) (by dsimp only;omega)
  dsimp only at h1 h2
  rw[e] at h1
  unfold tabP at h2
  rw[if_neg (by omega),if_pos rfl] at h2
  obtain ⟨n,h2⟩:=h2
  refine ⟨n,?_⟩
  unfold World.cell?
  rw[h1]
  exact h2
theorem MV.tup3 {w:World} {D:Nat→Prop} (a b c:Value):MV w D (.tup [.val a,.val b,.val c]) (.tuple #[a,b,c]) []:=by
 simp only[MV]
 exact ⟨[a,b,c],rfl,by simp only[ML,MV];exact ⟨a,[b,c],[],[],rfl,rfl,⟨rfl,rfl⟩,b,[c],[],[],rfl,rfl,⟨rfl,rfl⟩,c,[],[],[],rfl,rfl,⟨rfl,rfl⟩,rfl,rfl⟩⟩
theorem below_drew {w:World} (n:Nat):Below w.heap.size w (w.drewN n):=⟨rfl,rfl,rfl,Nat.le_refl _,fun _ _ => rfl⟩
theorem ml2 {w:World} {D:Nat→Prop} {a b:Value} {vs:List Value} (h:ML w D [.val a,.val b] vs []):vs=[a,b]:=by
 simp only[ML,MV] at h
 obtain ⟨v,vs',F1,F2,rfl,_,⟨rfl,_⟩,v2,vs2,F3,F4,rfl,_,⟨rfl,_⟩,rfl,_⟩:=h
 rfl
theorem ml3 {w:World} {D:Nat→Prop} {a b c:Value} {vs:List Value} (h:ML w D [.val a,.val b,.val c] vs []):vs=[a,b,c]:=by
 simp only[ML,MV] at h
 obtain ⟨v,vs',F1,F2,rfl,_,⟨rfl,_⟩,v2,vs2,F3,F4,rfl,_,⟨rfl,_⟩,v3,vs3,F5,F6,rfl,_,⟨rfl,_⟩,rfl,_⟩:=h
 rfl
theorem ml1 {w:World} {D:Nat→Prop} {a:Value} {vs:List Value} (h:ML w D [.val a] vs []):vs=[a]:=by
 simp only[ML,MV] at h
 obtain ⟨v,vs',F1,F2,rfl,_,⟨rfl,_⟩,rfl,_⟩:=h
 rfl
theorem lib_own {P:Program} {T:GH} (hT:tabH T) {f:Nat} {gs:List GV} {sz:Nat} {R:List GV→Prop}
 (hc:∀(w:World) (D:Nat→Prop) (vs:List Value),HM w D T []→(names T).Nodup → ML w D gs vs []→Calls P f vs.toArray w fun e w'=>∃es cells ty cap,e = .returned (.slice (some ⟨w.heap.size,0,none⟩) es.length cap)∧w'=w.alloc (.cells cells ty)∧R es ∧
  es.length≤cap∧es.length≤Y9∧cap * sz≤cells.size∧MF w D sz es (cells.toList.take (es.length * sz)) [])
 (eg:∀args w,(callFunc f args).run P w = .ok (.enter f args) w) {H:GH} (hs:∀x∈T,x∈H):GCalls P f gs H (fun g H'=>∃r es,R es∧g = .own r sz 0 es.length∧H'=(r,sz,es)::H):=by
 intro w D Ω vs hst hargs
 rw[eg]
 show Calls P f _ w _
 refine (hc w D vs (HM.tabs hst.hm hst.nn hT.2 hs) hT.1 hargs).mono ?_
 rintro e w' ⟨es,cells,ty,cap,rfl,rfl,hR,hcap,hmx,hsz,hmf⟩
 have h1:es.length * sz≤cells.size:=Nat.le_trans (Nat.mul_le_mul_right _ hcap) hsz
 obtain ⟨c1,c2⟩:=hst.allocOwn cells ty sz es h1 hmx hmf
 refine ⟨_,rfl,_,_,D,_,⟨_,es,hR,rfl,rfl⟩,?_,c1,c2⟩
 simp only[MV]
 exact ⟨trivial,.inl ⟨w.heap.size,cap,_,ty,(0,0),rfl,by simp,hcap,hp_new w _,by rw[Nat.zero_add];exact hsz⟩⟩
theorem mf_str {w:World} {D:Nat→Prop}:∀(xs:List ByteArray),MF w D 1 (xs.map T) (xs.map Value.string) []
 | []=>by simp[MF]
 | x::xs=>by
  simp only[List.map_cons,MF]
  refine ⟨.string x,xs.map Value.string,[],[],rfl,rfl,?_,rfl,by simp[MV],mf_str xs⟩
  intro y hy
  have:y = .string x:=by simpa[Value.cells] using hy
  subst this
  rfl
theorem cut_le4 {s:ByteArray} (h:(Z9 s).length ≤ 1048576):s.size<4294967281:=by rw[ZE];omega
theorem hasPr_pre (s p:List UInt8):hasPr s p=p.isPrefixOf s:=by
 unfold hasPr
 by_cases h:p.length≤s.length
 ·rw[decide_eq_true h,Bool.true_and,Bool.eq_iff_iff,decide_eq_true_eq,List.isPrefixOf_iff_prefix,List.prefix_iff_eq_take]
  exact eq_comm
 ·rw[decide_eq_false h,Bool.false_and]
  symm
  rw[Bool.eq_false_iff]
  intro h2
  exact h (List.isPrefixOf_iff_prefix.1 h2).length_le
theorem trim_eq (s p:List UInt8):Lib.trimPrefix s p=Ze p s:=by
 unfold Lib.trimPrefix Lib.hasPrefix Ze
 rfl
theorem trim_len (p l:List UInt8):(Ze p l).length ≤ l.length:=by
 unfold Ze
 split
 ·rw[List.length_drop];omega
 ·omega
theorem splitB_pieces {sep s:ByteArray} {save k:Nat}:(splitB sep save k s)=(splitK (Z9 sep) save k (Z9 s)).map bA:=by
 rw[←splitB_data,List.map_map]
 exact ((List.map_congr_left fun x _ => chars_eta x).trans (List.map_id _)).symm
theorem splitK_mem {sep:List UInt8}:∀{k:Nat} {s w:List UInt8},w∈splitK sep 0 k s→w.length≤s.length
 | 0,s,w,h=>by simp only[splitK,List.mem_singleton] at h;subst h;exact Nat.le_refl _
 | k+1,s,w,h=>by
  simp only[splitK] at h
  split at h
  ·rw[List.mem_singleton] at h;subst h;exact Nat.le_refl _
  ·rcases List.mem_cons.1 h with rfl|h
   ·rw[List.length_take];omega
   ·have:=splitK_mem h
    rw[List.length_drop] at this;omega
theorem splitK_len {sep:List UInt8}:∀(k:Nat) (s:List UInt8),(splitK sep 0 k s).length ≤ k+1∧1≤(splitK sep 0 k s).length
 | 0,s=>by simp[splitK]
 | k+1,s=>by
  simp only[splitK]
  split
  ·simp
  ·have:=splitK_len (sep:=sep) k (s.drop ((index s sep).toNat + sep.length))
   simp only[List.length_cons];omega
theorem atoi_itoa {n:Int} (h0 : -1000000000000≤n) (h1:n≤1000000000000):atoiAll (itoa n) = .ok n:=by
 by_cases h:n<0
 ·have e:itoa n=45::decDigits n.natAbs:=by
   unfold itoa
   rw[if_pos h]
  have hd:=dec_dig n.natAbs
  have hp:=(parse_digs (decDigits n.natAbs) 0 hd.1 (by decide)).1
  have ev:(decDigits n.natAbs).foldl (fun n c=>10 * n+((c.toNat:Int)-48)) ((0:Nat):Int)=(n.natAbs:Int):=valD_dec n.natAbs
  rw[ev] at hp
  obtain ⟨u,hu,hv⟩:=hp (by omega)
  rw[e,atoiAll_minus]
  unfold parseMag
  rw[if_neg hd.2,hu]
  simp only[signed]
  rw[if_neg (by omega)]
  congr 1
  omega
 ·rw[XV (by omega)]
  have hd:=dec_dig n.toNat
  have hv:=valD_dec n.toNat
  have:=(atoi_digs hd.1 hd.2).1 (by rw[hv];omega)
  rw[this,hv]
  congr 1
  omega
theorem rdN_ok {lo hi v:Int} {l:List UInt8} (h0 : -1000000000000≤lo) (h1:hi≤1000000000000) (h:atoiAll l = .ok v):rdN lo hi l=if (lo≤v∧v≤hi)∧itoa v=l then (v,true) else (0,false):=by
 split
 ·rename_i h2
  rw[←h2.2]
  exact rdN_itoa h2.1.1 h2.1.2
 ·rename_i h2
  refine rdN_no fun n h3 h4 h5=>h2 ?_
  have:=atoi_itoa (n:=n) (by omega) (by omega)
  rw[h5,h] at this
  cases this
  exact ⟨⟨h3,h4⟩,h5⟩
theorem rdN_bad {lo hi:Int} {l:List UInt8} (h0 : -1000000000000≤lo) (h1:hi≤1000000000000) (h:∀v,atoiAll l ≠ .ok v):rdN lo hi l=(0,false):=
 rdN_no fun n h3 h4 h5=>h n (by rw[←h5];exact atoi_itoa (by omega) (by omega))
def atoX (l:List UInt8) (g:GV):Prop:=(∃v:Int,atoiAll l = .ok v∧g = .tup [I v,.val .nilIface])∨((∀v,atoiAll l ≠ .ok v)∧∃n t p,g = .tup [I n,.val (.iface t p)])
end Go.Gh
namespace Go.Gh
open Lib
theorem callS.lendT {P:Program} {f:FuncId} {gs gs':List GV} {R:GV→GH→Prop} {H T:GH} {K:Env→GH→Prop} {is:List GI} {env:Env} {d:Option Nat} (h:∀H0,(∀x∈T,x∈H0)→GCalls P f gs' H0 (fun g H'=>∃H1,R g H1∧H'=H1++H0)) (hT:tabH T) (hs:∀x∈T,x∈H) (hb:BorL H gs gs')
 (hR:∀g H1,R g H1→noD g=true∧noDH H1=true) (hk:∀g H1,R g H1→(names (H1++H)).Nodup → Z7 P is K (gput env d g) (H1++H)):callS P false f (some gs) d is K env H:=
 callS.of (GCalls.lendO (h _ (odd_mem (fun x hx=>(hT.2 x hx).1) hs)) hb hR) fun g H' ⟨H1,h1,h2⟩ hn=>by subst h2;exact hk g H1 h1 hn
theorem FR.nilRu (v:GV) (H:GH):∃q1 q2 q3,FR (.tup [.agg [T noS,T noS,Zt,B false,Zt,Zt],v]) H (.tup [.agg [T noS,T noS,.own q1 1 0 0,B false,.own q2 9 0 0,.own q3 16 0 0],v]) ((q2,9,[])::(q3,16,[])::(q1,1,[])::H):=by
 obtain ⟨q1,o1,h1⟩:=vfresh (names H)
 obtain ⟨q3,o3,h3⟩:=vfresh (names ((q1,1,[])::H))
 obtain ⟨q2,o2,h2⟩:=vfresh (names ((q3,16,[])::(q1,1,[])::H))
 refine ⟨q1,q2,q3,?_⟩
 refine FR.trans (FR.addv (sz:=1) o1 h1) (FR.trans (FR.addv (sz:=16) o3 h3) (FR.trans (FR.addv (sz:=9) o2 h2) (FR.sub (.tup (.cons (.agg (.cons .refl (.cons .refl (.cons .virt (.cons .refl (.cons .virt (.cons .virt .nil))))))) (.cons .refl .nil))))))
def AnsR (a:Option Rul) (H:GH) (g:GV) (H':GH):Prop:=∃H1,(∃q1 q2 q3,g = .tup [.agg [T (a.getD rulZ).name,T (a.getD rulZ).left,.own q1 1 0 (a.getD rulZ).right.length,B (a.getD rulZ).lit,.own q2 9 0 (a.getD rulZ).eqs.length,.own q3 16 0 (a.getD rulZ).cons.length],B a.isSome] ∧
 H1=[(q2,9,(a.getD rulZ).eqs.map QnO),(q3,16,(a.getD rulZ).cons.map CoO),(q1,1,(a.getD rulZ).right.map T)])∧H'=H1++H
theorem rqI_sz (l:List UInt8) (h:l.length≤1048576):okEq (rqI nmN l).1 ∧ smEq (rqI nmN l).1 := by
 have h1:=trim_len eqP l
 have h2:=X3 (Ze eqP l) dfT
 have h3:=X3 (cut (Ze eqP l) dfT).1 [46]
 have h4:=parV_sz (cut (Ze eqP l) dfT).2.1
 exact ⟨⟨bA_sz (l:=(cut (cut (Ze eqP l) dfT).1 [46]).2.1) (by omega),h4.1⟩,h4.2⟩
theorem rcI_sz (l:List UInt8) (h:l.length≤1048576):okCo (rcI l).1 ∧ smCo (rcI l).1 := by
 have h1:=trim_len puP l
 have h2:=X3 (Ze puP l) dfT
 have h3:=X3 (cut (Ze puP l) dfT).1 ofP'
 have h4:=X3 (cut (cut (Ze puP l) dfT).1 ofP').1 [46]
 have h5:=parV_sz (cut (cut (Ze puP l) dfT).1 ofP').2.1
 have h6:=parV_sz (cut (Ze puP l) dfT).2.1
 exact ⟨⟨bA_sz (l:=(cut (cut (cut (Ze puP l) dfT).1 ofP').1 [46]).1) (by omega),bA_sz (l:=(cut (cut (cut (Ze puP l) dfT).1 ofP').1 [46]).2.1) (by omega),h5.1,h6.1⟩,h5.2,h6.2⟩
theorem hdI_sz {ws:List (List UInt8)} {a:List Eqn} {b:List Con} (h1:∀w∈ws,w.length≤1048576) (h2:ws.length≤1048576) (ha:a.length≤1048576) (hb:b.length≤1048576) (qa:∀q∈a,okEq q∧smEq q) (qb:∀c∈b,okCo c∧smCo c):okRu (hdI ws a b)∧smRu (hdI ws a b):=by
 refine ⟨⟨bA_sz ((hd_mem h1).2.2 1),bA_sz ((hd_mem h1).2.2 2),?_,fun q hq=>(qa q hq).1,fun c hc=>(qb c hc).1⟩,?_,ha,hb,fun q hq=>(qa q hq).2,fun c hc=>(qb c hc).2⟩
 ·intro s hs
  obtain ⟨w,hw,rfl⟩:=List.mem_map.1 hs
  exact bA_sz (h1 w (List.mem_of_mem_drop (lit_mem w hw)))
 ·show ((if (ws.drop 4).getLast? = some litW then (ws.drop 4).dropLast else ws.drop 4).map _).length ≤ _
  rw[List.length_map]
  split
  ·rw[List.length_dropLast,List.length_drop];omega
  ·rw[List.length_drop];omega
theorem pu_eq {l:List UInt8} (h:puP.isPrefixOf l=true):eqP.isPrefixOf l=false:=by
 rw[Bool.eq_false_iff]
 intro h2
 obtain ⟨a,rfl⟩:=List.isPrefixOf_iff_prefix.1 h
 simp[eqP,puP,List.isPrefixOf] at h2
theorem rdI_pu {nm:List UInt8→Int×Bool} {l:List UInt8} {t:List (List UInt8)} {a:List Eqn} {b:List Con} (h:puP.isPrefixOf l=true):rdI nm (l::t) a b=if (rcI l).2 = true then rdI nm t a (b++[(rcI l).1]) else none:=by
 have h2:=pu_eq h
 simp only[rdI,h,h2]
 simp
theorem rdI_eqP {nm:List UInt8→Int×Bool} {l:List UInt8} {t:List (List UInt8)} {a:List Eqn} {b:List Con} (h:puP.isPrefixOf l=false) (h2:eqP.isPrefixOf l=true):rdI nm (l::t) a b=if (rqI nm l).2 = true then rdI nm t (a++[(rqI nm l).1]) b else none:=by
 simp only[rdI,h,h2]
 simp
theorem rdI_no {nm:List UInt8→Int×Bool} {l:List UInt8} {t:List (List UInt8)} {a:List Eqn} {b:List Con} (h:puP.isPrefixOf l=false) (h2:eqP.isPrefixOf l=false):rdI nm (l::t) a b=none:=by
 simp only[rdI,h,h2]
 simp
def rdP (tl:List (List UInt8)) (i:Nat) (a:List Eqn) (b:List Con):Prop:=a.length≤i∧b.length≤i∧i≤tl.length∧rdI nmN tl [] []=rdI nmN (tl.drop i) a b∧(∀q∈a,okEq q∧smEq q)∧∀c∈b,okCo c∧smCo c
theorem rdP_init (tl:List (List UInt8)):rdP tl 0 [] []:=⟨by simp,by simp,by omega,by simp,by simp,by simp⟩
theorem rdP_co {tl:List (List UInt8)} {i:Nat} {a:List Eqn} {b:List Con} (h:rdP tl i a b) (hi:i<tl.length) (hl:tl[i].length ≤ 1048576) (h1:puP.isPrefixOf tl[i]=true) (h2:(rcI tl[i]).2 = true):rdP tl (i+1) a (b++[(rcI tl[i]).1]):=by
 obtain ⟨k1,k2,k3,k4,k5,k6⟩:=h
 refine ⟨by omega,by simp;omega,hi,?_,k5,fun c hc=> ?_⟩
 ·rw[k4,List.drop_eq_getElem_cons hi,rdI_pu h1,if_pos h2]
 ·rcases List.mem_append.1 hc with hc|hc
  ·exact k6 c hc
  ·rw[List.mem_singleton.1 hc];exact rcI_sz _ hl
theorem rdP_qn {tl:List (List UInt8)} {i:Nat} {a:List Eqn} {b:List Con} (h:rdP tl i a b) (hi:i<tl.length) (hl:tl[i].length ≤ 1048576) (h0:puP.isPrefixOf tl[i]=false) (h1:eqP.isPrefixOf tl[i]=true) (h2:(rqI nmN tl[i]).2 = true):rdP tl (i+1) (a++[(rqI nmN tl[i]).1]) b:=by
 obtain ⟨k1,k2,k3,k4,k5,k6⟩:=h
 refine ⟨by simp;omega,by omega,hi,?_,fun c hc=> ?_,k6⟩
 ·rw[k4,List.drop_eq_getElem_cons hi,rdI_eqP h0 h1,if_pos h2]
 ·rcases List.mem_append.1 hc with hc|hc
  ·exact k5 c hc
  ·rw[List.mem_singleton.1 hc];exact rqI_sz _ hl
theorem rdP_no {tl:List (List UInt8)} {i:Nat} {a:List Eqn} {b:List Con} (h:rdP tl i a b) (hi:i<tl.length) (hn:(puP.isPrefixOf tl[i]=true∧(rcI tl[i]).2 = false)∨(puP.isPrefixOf tl[i]=false∧(eqP.isPrefixOf tl[i]=false∨(rqI nmN tl[i]).2 = false))):rdI nmN tl [] []=none:=by
 obtain ⟨k1,k2,k3,k4,k5,k6⟩:=h
 rw[k4,List.drop_eq_getElem_cons hi]
 rcases hn with ⟨h1,h2⟩|⟨h1,h2⟩
 ·rw[rdI_pu h1,h2];rfl
 ·cases h3:eqP.isPrefixOf tl[i] with
  | false=>exact rdI_no h1 h3
  | true=>
   rw[rdI_eqP h1 h3]
   rcases h2 with h2|h2
   ·rw[h3] at h2;cases h2
   ·rw[h2];rfl
theorem rdP_end {tl:List (List UInt8)} {a:List Eqn} {b:List Con} (h:rdP tl tl.length a b):rdI nmN tl [] []=some (a,b):=by
 rw[h.2.2.2.1,List.drop_length]
 rfl
def sp9 (l:List UInt8):List (List UInt8):=splitN l [32] 9
theorem sp9_ok:∀l,(spl 32 l).length ≤ 8→sp9 l=spl 32 l:=fun l h=>splitN_spl (by omega) (by omega)
theorem sp9_len (l:List UInt8):(sp9 l).length ≤ 9∧∀w∈sp9 l,w.length≤l.length:=
 ⟨by have:=(splitK_len (sep:=[32]) (min 9 (l.length+1)-1) l).1;unfold sp9 splitN;omega,fun w hw=>splitK_mem hw⟩
theorem parI_same (ls:List (List UInt8)):parI sp9 nmN ls=parS ls:=par_same nmN_ok sp9_ok ls
theorem perm3 {α:Type} (a b c:α) (Z:List α):(a::b::c::Z).Perm (c::b::a::Z):=
 (List.Perm.swap b a (c::Z)).trans ((List.Perm.cons b (List.Perm.swap c a Z)).trans (List.Perm.swap c b (a::Z)))
theorem FE.virt2p {env:Env} {H:GH} {r q r1 r2:Nat} {nm lf:ByteArray} {A:GV} {lit:Bool} {y:Nat×List GV} (ho:r1 % 4=1) (hn:r1∉names ((r,6,[GV.agg [T nm,T lf,A,B lit,Zt,Zt]])::(q,y)::H)) (ho2:r2 % 4=1)
 (hn2:r2∉names ((r,6,[GV.agg [T nm,T lf,A,B lit,.own r1 9 0 0,Zt]])::(r1,9,[])::(q,y)::H)) (hq:¬q=r) :
 FE env ((q,y)::(r,6,[.agg [T nm,T lf,A,B lit,Zt,Zt]])::H) env ((r1,9,[])::(r,6,[.agg [T nm,T lf,A,B lit,.own r1 9 0 0,.own r2 16 0 0]])::(r2,16,[])::(q,y)::H):=by
 have h1:¬r1=r∧¬r1=q:=by simp[names] at hn;exact ⟨hn.1,hn.2.1⟩
 have h2:¬r2=r∧¬r2=r1∧¬r2=q:=by simp[names] at hn2;exact ⟨hn2.1,hn2.2.1,hn2.2.2.1⟩
 have k1:¬r=r1:=fun h=>h1.1 h.symm
 have k2:¬q=r1:=fun h=>h1.2 h.symm
 have k3:¬r=r2:=fun h=>h2.1 h.symm
 have k4:¬r1=r2:=fun h=>h2.2.1 h.symm
 have k5:¬q=r2:=fun h=>h2.2.2 h.symm
 have k6:¬r=q:=fun h=>hq h.symm
 refine FE.trans FE.swap (FE.trans (FE.virt2 (s1:=9) (s2:=16) (gs:=[T nm,T lf,A,B lit,Zt,Zt]) 4 5 rfl ho hn rfl ho2 hn2) ?_)
 exact FE.perm (H:=[_,_,_,_]) (L:=[(r1,9,[]),(r,6,_),(r2,16,[]),(q,y)]) (by simp[subH,Z6,names,h1.1,h1.2,h2.1,h2.2.1,h2.2.2,k1,k2,k3,k4,k5,k6,hq])
theorem GW.cut {P:Program} {cf:Cfg} (mxd:P.follows .mixedOrders = true) {x y:GC} {Q:Exit→Env→GH→Prop} {env:Env} {H:GH} (M:Env→GH→Prop) (h1:gwp P cf x (thenG M Q) env H) (h2:∀env' H',M env' H'→GW P cf y Q env' H'):GW P cf (.seq x y) Q env H:=
 GW.seq (GW.mono (fun ex e H' hq=>by
  cases ex<;>simp only[thenG] at hq ⊢
  all_goals first
   | exact hq
   | exact h2 _ _ hq) (Y1 mxd h1))
theorem smw_bd {α:Type} {w:α→Nat} {c:Nat}:∀{l:List α},(∀a∈l,w a≤c)→smw w l≤l.length * c
 | [],_ => by simp[smw]
 | a::l,h=>by
  have h1:=h a (by simp)
  have h2:=smw_bd (w:=w) (c:=c) (l:=l) fun b hb=>h b (by simp[hb])
  simp only[smw,List.length_cons,Nat.succ_mul]
  omega
theorem ctE_sm {e:Exp} (h:wEx e≤1048576):ctE e≤7000000:=by
 have:=ctE_le e
 omega
theorem smR_mk {r:Rul} (h:smRu r):1+(smw wS r.right:Int)+smw wQ r.eqs+smw wC r.cons<9223372036854775807:=by
 obtain ⟨h1,h2,h3,h4,h5⟩:=h
 have k1:=smw_wS r.right
 have k2:smw wQ r.eqs≤r.eqs.length * 7000002:=smw_bd fun q hq=>by have:=ctE_sm (h4 q hq);show 2 + _ ≤ _;omega
 have k3:smw wC r.cons≤r.cons.length * 14000002:=smw_bd fun c hc=>by have:=ctE_sm (h5 c hc).1;have:=ctE_sm (h5 c hc).2;show 2 + _ + _ ≤ _;omega
 omega
theorem parS_sm {ls:List (List UInt8)} (h:ls.length≤1048576) (hl:∀l∈ls,l.length≤1048576):smRu ((parS ls).getD rulZ):=by
 have hz:smRu rulZ:=⟨by decide,by decide,by decide,(fun q hq=>by cases hq),(fun q hq=>by cases hq)⟩
 cases ls with
 | nil=>exact hz
 | cons a t=>
  simp only[parS]
  split
  ·exact (rdS_sz (hl a (by simp)) (by simp at h;omega) fun l hl2=>hl l (by simp[hl2])).2
  ·exact hz
theorem wt_sum {xs:List ByteArray} (h:wtS wT xs≤1048576):xs.length≤1048576∧∀x∈xs,(Z9 x).length ≤ 1048576:=by
 unfold wtS at h
 refine ⟨by omega,fun x hx=> ?_⟩
 have:wT x≤(xs.map wT).sum := by
  clear h
  induction xs with
  | nil=>cases hx
  | cons y ys ih=>
   simp only[List.map_cons,List.sum_cons]
   rcases List.mem_cons.1 hx with rfl|hx
   ·omega
   ·have:=ih hx;omega
 have e:wT x=(Z9 x).length := by rw[←ZE];rfl
 omega
theorem bor_RuO {Z:GH} {q1 q2 q3:Nat} {R:Rul} (k1:Z6 Z q1=some (1,R.right.map T)) (k2:Z6 Z q2=some (9,R.eqs.map QnO)) (k3:Z6 Z q3=some (16,R.cons.map CoO)) :
 Bor Z (.agg [T R.name,T R.left,.own q1 1 0 R.right.length,B R.lit,.own q2 9 0 R.eqs.length,.own q3 16 0 R.cons.length]) (Ru R):=
 .agg (.cons .refl (.cons .refl (.cons (Bor.seen (f:=T) (fun a=>by simp[view,Y7]) k1 rfl) (.cons .refl (.cons (Bor.seen view_QnO k2 rfl) (.cons (Bor.seen view_CoO k3 rfl) .nil))))))
theorem bor_RuM {Z:GH} {q1 q2 q3 n1 n2 n3:Nat} {R:Rul} {xs:List ByteArray} {qs:List Eqn} {cs:List Con} (k1:Z6 Z q1=some (1,xs.map T)) (k2:Z6 Z q2=some (9,qs.map QnO)) (k3:Z6 Z q3=some (16,cs.map CoO)) (h1:xs.length=n1) (h2:qs.length=n2) (h3:cs.length=n3) :
 Bor Z (.agg [T R.name,T R.left,.own q1 1 0 n1,B R.lit,.own q2 9 0 n2,.own q3 16 0 n3]) (Ru ⟨R.name,R.left,xs,R.lit,qs,cs⟩):=
 .agg (.cons .refl (.cons .refl (.cons (Bor.seen (f:=T) (fun a=>by simp[view,Y7]) k1 h1) (.cons .refl (.cons (Bor.seen view_QnO k2 h2) (.cons (Bor.seen view_CoO k3 h3) .nil))))))
end Go.Gh
namespace Go
variable {H:Type} {enc:TypeId×Value→H}
theorem returnsInHanded_of_change_sx {a:Assume} {C:Checked} {os:Os} {f:FuncId} {fn:Func} {s:ChangeSpec} {conds:List PathCond} {apart fresh handsOn again:Bool} {X:World→Array Value→Prop}
 (hX:∀(w w':World) (args:Array Value),w.heap=w'.heap→X w args→X w' args)
 (own:ownKnob C.prog.godebug=none) (started:os.Started) (noInit:C.prog.inits.idxOf? f=none) (hfn:C.prog.funcs[f]? = some fn)
 (witness:∃(w:World) (tape:Tape) (i:Input),w.os=os∧(w.forCall tape i).Shaped C.prog∧i.vars=[]∧Input.okWide C.prog (w.forCall tape i) .any w.heap.size f i ∧
  ((s.pre enc C.prog fn conds apart (w.forCall tape i).memory i.args∧X (w.forCall tape i).memory i.args)∧sizedMet enc C.prog fn (OpenSpec.ofChange s) apart (w.forCall tape i).memory i.args)∧a.holds C.prog (lone (Frame.enter C.prog f i.args .normal) [] (w.forCall tape i)))
 (contract:∀(W:World) (base:Nat) (args:Array Value) (ds gs:List (DataW H)) (before:List MemPlace),
  (∀(j:Nat) t v,fn.params[j]? = some t→args[j]? = some v→Value.okWide C.prog W .any base t v) →
  DataW.Whole enc C.prog fn.params.toList s.vars apart W args.toList ds gs before →
  conds.all (PathCond.test C.prog ⟨fn.params.toList,ds,s.plain.varTypes C.prog,gs⟩)=true →
  (DataW.weightsEach C.prog (fn.params.toList++s.plain.varTypes C.prog) (ds++gs)).all (· ≤ reachBytes)=true→X W args →
  W.ShapedOpen C.prog →
  Calls C.prog f args W fun e W'=>∃v,e = .returned v∧s.post enc C.prog fn apart fresh handsOn again W args v W') :
 ReturnsInHanded a C os f .any (fun w args=>(s.pre enc C.prog fn conds apart w args∧X w args)∧sizedMet enc C.prog fn (OpenSpec.ofChange s) apart w args) (s.post enc C.prog fn apart fresh handsOn again):=by
 refine returnsInHanded_of_calls own started noInit witness ?_
 intro w tape i _ hsh _ hok hpre hholds
 obtain ⟨_,_,_,fn',hfn',_,_,_,_,hval⟩:=hok
 have e:fn'=fn:=Option.some.inj (hfn'.symm.trans hfn)
 subst e
 obtain ⟨⟨⟨ds,gs,before,hw,hc⟩,hx⟩,hz⟩:=hpre
 have hw':=DataW.Whole.of_heap (w':=w.forCall tape i) (by rfl) hw
 refine (contract (w.forCall tape i) w.heap.size i.args ds gs before hval hw' hc (hz.weights hw) (hX _ _ _ (by rfl) hx) hsh).mono fun e W' ⟨v,he,hp⟩=> ?_
 subst he
 exact ChangeSpec.post_blind hp
theorem goesBy_none {c:OpenClaim} {P:Program} (hs:c.start = .entering) (h:P.funcs.any Func.goes=false):false=c.goesBy P:=by
 have h1:∀g:Nat,(P.funcs[g]?).any Func.goes=false:=fun g=>by
  cases e:P.funcs[g]? with
  | none=>rfl
  | some f=>
   have hm:f∈P.funcs:=Array.mem_of_getElem? e
   have h2:¬(∃x∈P.funcs,Func.goes x=true):=fun hx=>by
    obtain ⟨i,hi,e⟩:=Array.mem_iff_getElem.1 hx.choose_spec.1
    exact absurd (Array.any_eq_true.2 ⟨i,hi,by rw[e];exact hx.choose_spec.2⟩) (by rw[h];exact Bool.false_ne_true)
   cases hg:Func.goes f with
   | false=>simp[hg]
   | true=>exact absurd ⟨f,hm,hg⟩ h2
 unfold OpenClaim.goesBy Program.goesAt Program.goesFrom
 rw[hs]
 cases P.funcNamed c.func with
 | none=>rfl
 | some f=>
  simp only[Option.any_some,Bool.or_false,Program.goes,h1,h,Bool.and_false,Bool.false_eq,List.any_eq_false,Bool.or_eq_false_iff]
  simp
end Go
namespace Go.Gh
open Lib
theorem t_TS {g:GV} (h:ET false [.sl false [.str]] g):∃l:List ByteArray,g=TS l∧∀s∈l,s.size≤maxLen:=by
 have h1:=t_one h
 exact c_sl h1 fun e he=>t_T he
theorem HM.of_tabs {W:World}:∀{H:GH},(∀x∈H,x.2.2=[]∧x.1 % 4=3∧TB W (Yr W) x.1 x.2.1)→HM W (Yr W) H []
 | [],_ => rfl
 | (r,sz,es)::H,h=>by
  obtain ⟨h1,h2,h3⟩:=h (r,sz,es) (by simp)
  dsimp only at h1 h2 h3
  subst h1
  exact ⟨[],[],rfl,.inr ⟨⟨by omega,fun _ _ => h3⟩,rfl,rfl⟩,HM.of_tabs fun x hx=>h x (by simp[hx])⟩
theorem TB.of_var {P:Program} {W:World} {n sz:Nat} {s:String} {cs:Array Value} (hg:P.globalNamed s=some n) (h:W.var? P s=some cs) (hp:tabP sz cs):TB W (Yr W) (4 * n+3) sz:=by
 have e:(4 * n+3) / 4=n:=by omega
 simp only[World.var?,hg,Option.bind_some] at h
 unfold TB
 rw[e]
 split at h
 case h_2=>cases h
 rename_i c T fz hb
 simp only[Option.some.injEq] at h
 subst h
 exact ⟨lt_of_heap hb,_,T,fz,hb,hp⟩
theorem TB.p10 {P:Program} {W:World} {n:Nat} {s:String} (hg:P.globalNamed s=some n) (h:TabIs P W s .u64 pow10Tab):TB W (Yr W) (4 * n+3) 1000000:=by
 refine TB.of_var hg h ?_
 simp only[tabP,if_true,pow10Tab,List.map_map]
 rfl
theorem TB.ifc {P:Program} {W:World} {n:Nat} {s:String} (hg:P.globalNamed s=some n) (h:∃u v,W.var? P s=some #[.iface u v]):TB W (Yr W) (4 * n+3) 1000001:=by
 obtain ⟨u,v,h⟩:=h
 refine TB.of_var hg h ?_
 simp only[tabP]
 rw[if_neg (by decide),if_neg (by decide),if_neg (by decide)]
 exact ⟨u,v,rfl⟩
theorem TB.num {W:World} {n:Nat} (h:∃m,W.cell? ⟨n,0,none⟩=some (.int .i64 m)):TB W (Yr W) (4 * n+3) 1000002:=by
 obtain ⟨m,h⟩:=h
 have e:(4 * n+3) / 4=n:=by omega
 unfold World.cell? at h
 unfold TB
 rw[e]
 split at h
 case h_1 c T fz hb=>
  refine ⟨lt_of_heap hb,c,T,fz,hb,?_⟩
  unfold tabP
  rw[if_neg (by decide),if_pos rfl]
  exact ⟨m,h⟩
 all_goals first|(cases h;done)|(exfalso;simp_all;done)
theorem HM.tabF {P:Program} {W:World} {a b c d:Nat} {s1 s2 s3:String} (h1:P.globalNamed s1=some a) (k1:TabIs P W s1 .u64 pow10Tab) (h2:P.globalNamed s2=some b) (k2:∃u v,W.var? P s2=some #[.iface u v])
 (h3:P.globalNamed s3=some c) (k3:∃u v,W.var? P s3=some #[.iface u v]) (k4:∃m,W.cell? ⟨d,0,none⟩=some (.int .i64 m)):HM W (Yr W) (tabF a b c d) []:=
 HM.of_tabs fun x hx=>by
  simp only[Go.Gh.tabF,List.mem_cons,List.not_mem_nil,or_false] at hx
  rcases hx with rfl|rfl|rfl|rfl
  ·exact ⟨rfl,by dsimp only;omega,TB.p10 h1 k1⟩
  ·exact ⟨rfl,by dsimp only;omega,TB.ifc h2 k2⟩
  ·exact ⟨rfl,by dsimp only;omega,TB.ifc h3 k3⟩
  ·exact ⟨rfl,by dsimp only;omega,TB.num k4⟩
end Go.Gh
namespace Go.Gh
end Go.Gh
namespace Go.Gh
@[irreducible] def MkQ (p:Prop):Prop:=p
theorem qI {p:Prop} (h:MkQ p):p:=by unfold MkQ at h;exact h
theorem qU {p:Prop} (h:p):MkQ p:=by unfold MkQ;exact h
theorem VQ:type_of% (And.intro @Zd (And.intro @hset_c (And.intro @hdel_c (And.intro @neN (And.intro @neA_cons (And.intro @neA_nil @Y8)))))):=(And.intro @Zd (And.intro @hset_c (And.intro @hdel_c (And.intro @neN (And.intro @neA_cons (And.intro @neA_nil @Y8))))))
theorem VN:type_of% (And.intro @neH_cons (And.intro @neH_nil (And.intro @neA_cons (And.intro @neA_nil (And.intro @and_true @true_and))))):=(And.intro @neH_cons (And.intro @neH_nil (And.intro @neA_cons (And.intro @neA_nil (And.intro @and_true @true_and)))))
open Nat (reduceEqDiff reduceLeDiff reduceAdd reduceLT)
open Int (reduceNe)
theorem aO {a b:Prop} (k:b) (h:a:=by omega):a∧b:=And.intro h k
theorem eO {a:Prop} {b:a→Prop} (h:a:=by omega) (k:b h):∃h,b h:=Exists.intro h k
theorem jO {a b:Prop} (x:a) (y:b):a∧b:=And.intro x y
theorem V0 {p q:Prop} (k:q) (h:q→p:=by intro k;first|(replace k:=qU k;(try simp (maxSteps:=9^7) +contextual only[↓ S2,S2,↓reduceIte,reduceNe,reduceEqDiff,reduceCtorEq,reduceLeDiff,reduceAdd,reduceLT,VQ]);(repeat (simp only[Zj];try simp (maxSteps:=9^7) +contextual only[↓ S2,S2,↓reduceIte,reduceNe,reduceEqDiff,reduceCtorEq,reduceLeDiff,reduceAdd,reduceLT,VQ]));(try simp +contextual (disch:=omega) only[Z2]);(with_reducible repeat' first|refine aO ?_ | refine eO ?_);exact qI k)|(have _ : True:=k;(try simp (maxSteps:=9^7) +contextual only[↓ S2,S2,↓reduceIte,reduceNe,reduceEqDiff,reduceCtorEq,reduceLeDiff,reduceAdd,reduceLT,VQ]);(repeat (simp only[Zj];try simp (maxSteps:=9^7) +contextual only[↓ S2,S2,↓reduceIte,reduceNe,reduceEqDiff,reduceCtorEq,reduceLeDiff,reduceAdd,reduceLT,VQ]));(try simp +contextual (disch:=omega) only[Z2]);done)):p:=h k
theorem V1 {p q f:Prop} (a:f) (k:q) (h:f→q→p:=by intro a k;first|(replace k:=qU k;(try simp (maxSteps:=9^7) +contextual only[↓ S2,S2,↓reduceIte,reduceNe,reduceEqDiff,reduceCtorEq,reduceLeDiff,reduceAdd,reduceLT,VQ,a]);(repeat (simp only[Zj];try simp (maxSteps:=9^7) +contextual only[↓ S2,S2,↓reduceIte,reduceNe,reduceEqDiff,reduceCtorEq,reduceLeDiff,reduceAdd,reduceLT,VQ,a]));(try simp +contextual (disch:=omega) only[Z2,a]);(try clear a);(with_reducible repeat' first|refine aO ?_ | refine eO ?_);first|exact qI k|(revert a;exact qI k))|(have _ : True:=k;(try simp (maxSteps:=9^7) +contextual only[↓ S2,S2,↓reduceIte,reduceNe,reduceEqDiff,reduceCtorEq,reduceLeDiff,reduceAdd,reduceLT,VQ,a]);(repeat (simp only[Zj];try simp (maxSteps:=9^7) +contextual only[↓ S2,S2,↓reduceIte,reduceNe,reduceEqDiff,reduceCtorEq,reduceLeDiff,reduceAdd,reduceLT,VQ,a]));(try simp +contextual (disch:=omega) only[Z2,a]);done)):p:=h a k
theorem V2 {p q f:Prop} (a:f) (k:q) (h:f→q→p:=by intro a k;first|(replace k:=qU k;(try simp (maxSteps:=9^7) +contextual only[↓ S2,S2,↓reduceIte,reduceNe,reduceEqDiff,reduceCtorEq,reduceLeDiff,reduceAdd,reduceLT,VQ,Int.reduceEq,Int.reduceLT,Int.reduceLE,Int.reduceToNat,Int.reduceSub,a]);(repeat (simp only[Zj];try simp (maxSteps:=9^7) +contextual only[↓ S2,S2,↓reduceIte,reduceNe,reduceEqDiff,reduceCtorEq,reduceLeDiff,reduceAdd,reduceLT,VQ,Int.reduceEq,Int.reduceLT,Int.reduceLE,Int.reduceToNat,Int.reduceSub,a]));(try simp +contextual (disch:=omega) only[Z2,a]);(try clear a);(with_reducible repeat' first|refine aO ?_ | refine eO ?_);first|exact qI k|(revert a;exact qI k))|(have _ : True:=k;(try simp (maxSteps:=9^7) +contextual only[↓ S2,S2,↓reduceIte,reduceNe,reduceEqDiff,reduceCtorEq,reduceLeDiff,reduceAdd,reduceLT,VQ,Int.reduceEq,Int.reduceLT,Int.reduceLE,Int.reduceToNat,Int.reduceSub,a]);(repeat (simp only[Zj];try simp (maxSteps:=9^7) +contextual only[↓ S2,S2,↓reduceIte,reduceNe,reduceEqDiff,reduceCtorEq,reduceLeDiff,reduceAdd,reduceLT,VQ,Int.reduceEq,Int.reduceLT,Int.reduceLE,Int.reduceToNat,Int.reduceSub,a]));(try simp +contextual (disch:=omega) only[Z2,a]);done)):p:=h a k
theorem R0 {p q:Prop} (k:q) (h:q→p:=by intro k;first|(replace k:=qU k;(try simp (maxSteps:=9^7) only[↓ S2,S2,Y8,↓reduceIte,reduceNe,reduceEqDiff,reduceCtorEq,reduceLeDiff,reduceAdd,reduceLT]);(repeat (simp only[Zj];try simp (maxSteps:=9^7) only[↓ S2,S2,Y8,↓reduceIte,reduceNe,reduceEqDiff,reduceCtorEq,reduceLeDiff,reduceAdd,reduceLT]));(try simp +contextual (disch:=omega) only[Z2]);(with_reducible repeat' first|refine aO ?_ | refine eO ?_);exact qI k)|(have _ : True:=k;(try simp (maxSteps:=9^7) only[↓ S2,S2,Y8,↓reduceIte,reduceNe,reduceEqDiff,reduceCtorEq,reduceLeDiff,reduceAdd,reduceLT]);(repeat (simp only[Zj];try simp (maxSteps:=9^7) only[↓ S2,S2,Y8,↓reduceIte,reduceNe,reduceEqDiff,reduceCtorEq,reduceLeDiff,reduceAdd,reduceLT]));(try simp +contextual (disch:=omega) only[Z2]);done)):p:=h k
theorem R1 {p q f:Prop} (a:f) (k:q) (h:f→q→p:=by intro a k;first|(replace k:=qU k;(try simp (maxSteps:=9^7) only[↓ S2,S2,Y8,↓reduceIte,reduceNe,reduceEqDiff,reduceCtorEq,reduceLeDiff,reduceAdd,reduceLT,a]);(repeat (simp only[Zj];try simp (maxSteps:=9^7) only[↓ S2,S2,Y8,↓reduceIte,reduceNe,reduceEqDiff,reduceCtorEq,reduceLeDiff,reduceAdd,reduceLT,a]));(try simp +contextual (disch:=omega) only[Z2,a]);(try clear a);(with_reducible repeat' first|refine aO ?_ | refine eO ?_);first|exact qI k|(revert a;exact qI k))|(have _ : True:=k;(try simp (maxSteps:=9^7) only[↓ S2,S2,Y8,↓reduceIte,reduceNe,reduceEqDiff,reduceCtorEq,reduceLeDiff,reduceAdd,reduceLT,a]);(repeat (simp only[Zj];try simp (maxSteps:=9^7) only[↓ S2,S2,Y8,↓reduceIte,reduceNe,reduceEqDiff,reduceCtorEq,reduceLeDiff,reduceAdd,reduceLT,a]));(try simp +contextual (disch:=omega) only[Z2,a]);done)):p:=h a k
theorem X0 {p q:Prop} (k:q) (h:q→p:=by intro k;first|(replace k:=qU k;(try simp (maxSteps:=9^7) only[↓ S2,S2,Y8,↓reduceIte,reduceNe,reduceEqDiff,reduceCtorEq,reduceLeDiff,reduceAdd,reduceLT]);(with_reducible repeat' first|refine aO ?_ | refine eO ?_);exact qI k)|(have _ : True:=k;(try simp (maxSteps:=9^7) only[↓ S2,S2,Y8,↓reduceIte,reduceNe,reduceEqDiff,reduceCtorEq,reduceLeDiff,reduceAdd,reduceLT]);done)):p:=h k
theorem K1 {p q f:Prop} (a:f) (k:q) (h:f→q→p:=by intro a k;first|(simp (maxSteps:=9^7) only[↓ S2,S2,Y8,↓reduceIte,reduceNe,reduceEqDiff,reduceCtorEq,reduceLeDiff,reduceAdd,reduceLT,a];first|exact k|(revert a;exact k))|(simp only[Zj];first|exact k|(revert a;exact k))|(simp +contextual (disch:=omega) only[Z2];first|exact k|(revert a;exact k))|(have _ : True:=k;simp (maxSteps:=9^7) only[↓ S2,S2,Y8,↓reduceIte,reduceNe,reduceEqDiff,reduceCtorEq,reduceLeDiff,reduceAdd,reduceLT,a];done)|(have _ : True:=k;simp only[Zj];done)|(have _ : True:=k;simp +contextual (disch:=omega) only[Z2];done)):p:=h a k
theorem oF {p:Prop} (h:False:=by omega):p:=h.elim
theorem nL (a b:Nat):a<b∨a≥b:=Nat.lt_or_ge a b
theorem gM {α:Type} {l:List α} {n:Nat} (h:n<l.length):l[n]∈l:=List.getElem_mem h
theorem tL {α:Type} {l:List α} {i:Nat} (h:l.length≤i):l.take i=l:=List.take_of_length_le h
theorem bC (b:Bool):b=false∨b=true:=(Bool.eq_false_or_eq_true b).symm
theorem hgO {r q:Nat} (h:r≠q) (x:Nat×List GV) (H:GH):Z6 ((r,x)::H) q=Z6 H q:=ZX h
theorem hsO {r q:Nat} (h:r≠q) (s:Nat) (e f:List GV) (H:GH):Z1 ((r,s,e)::H) q f=(r,s,e)::Z1 H q f:=ZJ h
theorem hgS {r s:Nat} {e:List GV} {H:GH} (h:Z6 H r=some (s,e)) (f:List GV):Z6 (Z1 H r f) r=some (s,f):=ZK h
end Go.Gh
namespace Go.Gh.Z
abbrev x (d:Nat) (o:GOp):GI:=⟨some d,none,o⟩
abbrev y (d g:Nat) (o:GOp):GI:=⟨some d,some (g,true),o⟩
abbrev z (d g:Nat) (o:GOp):GI:=⟨some d,some (g,false),o⟩
abbrev m (d a:Nat):GI:=⟨some d,none,.mov (.t a)⟩
abbrev k (d:Nat) (n:Int):GI:=⟨some d,none,.mov (.k (.val (.int .i64 n)))⟩
abbrev b (d:Nat) (n:Bool):GI:=⟨some d,none,.mov (.k (.val (.bool n)))⟩
abbrev l (d a:Nat):GI:=⟨some d,none,.load 1 false (.t a)⟩
abbrev h (d n a:Nat):GI:=⟨some d,none,.load n true (.t a)⟩
abbrev f (d o a:Nat):GI:=⟨some d,none,.faddr o 1 false (.t a)⟩
abbrev e (d o n a:Nat):GI:=⟨some d,none,.faddr o n true (.t a)⟩
abbrev i (d n a c:Nat):GI:=⟨some d,none,.iaddr n (.t a) (.t c)⟩
abbrev c (d f:Nat) (a:List GE):GI:=⟨some d,none,.call false f a⟩
abbrev o (d:Nat) (p:BinOp) (a b:Nat):GI:=⟨some d,none,.bin p (.t a) (.t b)⟩
abbrev q (d:Nat) (p:BinOp) (a:Nat) (n:Int):GI:=⟨some d,none,.bin p (.t a) (.k (.val (.int .i64 n)))⟩
abbrev n (d a:Nat):GI:=⟨some d,none,.len (.t a)⟩
abbrev w (d a:Nat):GI:=⟨some d,none,.not (.t a)⟩
abbrev a (d n r:Nat):GI:=⟨some d,none,.boxro n (.t r)⟩
abbrev t (d n r:Nat):GI:=⟨some d,none,.stro n d (.t r)⟩
abbrev u (d n:Nat):GI:=⟨some d,none,.allocr n⟩
abbrev v (d r j:Nat):GI:=⟨some d,none,.ext (.t r) j⟩
abbrev p (n o a:Nat):GOp:= .faddr o n false (.t a)
abbrev r (n a:Nat):GOp:= .load n false (.t a)
abbrev j (n a:Nat):GOp:= .load n true (.t a)
abbrev A (d a b:Nat):GI:=⟨some d,none,.pick (.t a) (.t b) (.k (.val (.bool false)))⟩
abbrev O (d a b:Nat):GI:=⟨some d,none,.pick (.t a) (.k (.val (.bool true))) (.t b)⟩
abbrev M (d g a:Nat):GI:=⟨some d,some (g,true),.mov (.t a)⟩
abbrev N (d g a:Nat):GI:=⟨some d,some (g,false),.mov (.t a)⟩
abbrev I (o p:Nat) (a:Nat) (n:Int):GI:=⟨some o,some (p,true),.bin .eql (.t a) (.k (.val (.int .i64 n)))⟩
abbrev J (o p:Nat) (a:Nat) (n:Int):GI:=⟨some o,some (p,false),.bin .eql (.t a) (.k (.val (.int .i64 n)))⟩
abbrev G (d f:Nat) (a:List GE):GI:=⟨some d,none,.call true f a⟩
abbrev Q (d n b s x:Nat):GI:=⟨some d,none,.append n b (.t s) (.t x)⟩
abbrev E (d n:Nat) (b:Bool):GI:=⟨some d,none,.bslice n [] 0 b []⟩
abbrev Z (d:Nat):GI:=⟨some d,none,.mov (.k (.val (.slice none 0 0)))⟩
abbrev K (n:Int):GE:= .k (.val (.int .i64 n))
abbrev S (a b:GC):GC:= .seq a b
abbrev D (n:Nat) (a b:GC):GC:= .cond n a b
abbrev F:GC:= .skip
abbrev R:GC:= .ret
abbrev C (c e:Nat) (x:GC):GC:= .seq (.cond c .skip (.exit e)) x
abbrev B (n:Nat) (x:GC):GC:= .block n (.loop x)
abbrev s (a:List GI) (b:GC):GC:= .seq (.reg a) b
end Go.Gh.Z
namespace Go.Gh
theorem jF {P:Program} {f:Nat} {fn:Func} {F:GFun} {c:Code} (h:P.funcs[f]? = some fn) (md:List (Nat×Nat):=[]) (h0:fn.body=some c:=by rfl) (h1:(fn.name == "runtime.NumGoroutine")=false:=by kernel_rfl) (h2:compC P F.cf md c=some F.gc:=by kernel_rfl) (h3:Yh P fn.results.toList=some F.gr:=by kernel_rfl) (h4:fn.ntmps=F.cf.N:=by rfl):IsFun P f F:=⟨fn,c,md,h,h1,h0,h2,h3,h4⟩
end Go.Gh
namespace Go.Proofs.YtcegkonjphbfaaaGreatDoor
open Go.Gh Go.Gh.Z
abbrev iF:=IsFun Tryz.prog
abbrev Pu:=Pure Tryz.prog
abbrev Gc:=GCalls Tryz.prog
def g4:GFun:=⟨⟨96,[4,7,12]⟩,(s [b 2 false] (s [k 3 1048576] (s [m 14 0,m 15 3,c 16 15 [.t 14,.t 15],m 3 16] (S (s [m 17 3,q 18 .lss 17 0] (D 18 (s [b 2 true] R) F)) (s [m 20 0,c 21 16 [.t 20],c 22 11 [.t 21],m 19 22,v 23 19 0,v 24 19 1,
 u 4 6,t 4 6 23,m 5 24] (s [m 25 0,c 26 16 [.t 25],m 6 26] (s [m 28 6,c 29 8 [.t 28],m 27 29,v 30 27 0,v 31 27 1,u 7 6,t 7 6 30,m 8 31] (S (s [h 32 6 7,h 33 6 4,c 34 17 [.t 32,.t 33],w 35 34,m 36 35,N 37 36 8,N 38 36 5,z 39 36 (.beq true
 (.t 37) (.t 38)),O 40 36 39] (D 40 (s [b 2 false] R) F)) (S (s [m 41 6,m 42 0,c 43 16 [.t 42],c 44 18 [.t 41,.t 43],w 45 44] (D 45 (s [b 2 false] R) F)) (s [k 9 1] (s [m 46 6,m 47 9,c 48 19 [.t 46,.t 47],m 9 48] (S (s [m 49 9,
 q 50 .lss 49 0,m 51 50,z 52 51 (j 6 7),z 53 51 (j 6 4),z 54 51 (.call false 17 [.t 52,.t 53]),z 55 51 (.not (.t 54)),O 56 51 55,m 57 56,N 58 57 8,N 59 57 5,z 60 57 (.beq true (.t 58) (.t 59)),O 61 57 60] (D 61 (s [b 2 false] R) F))
 (s [k 10 1] (s [h 62 6 7,m 63 10,c 64 20 [.t 62,.t 63],m 10 64] (s [k 11 1] (s [h 65 6 7,m 66 11,c 67 21 [.t 65,.t 66],m 11 67] (S (s [m 68 11,q 69 .lss 68 0] (D 69 (s [b 2 false] R) F)) (S (s [m 70 11,m 71 10,o 72 .neq 70 71] (D 72
 (s [b 2 false] R) F)) (s [m 74 0,c 75 16 [.t 74],c 76 8 [.t 75],m 73 76,v 77 73 0,v 78 73 1,u 12 6,t 12 6 77,m 13 78] (S (s [h 79 6 12,h 80 6 4,c 81 17 [.t 79,.t 80],w 82 81,m 83 82,N 84 83 13,N 85 83 5,z 86 83 (.beq true (.t 84) (.t 85)),
 O 87 83 86] (D 87 (s [b 2 false] R) F)) (s [k 11 1] (s [h 88 6 7,m 89 11,c 90 21 [.t 88,.t 89],m 11 90] (S (s [m 91 11,q 92 .lss 91 0] (D 92 (s [b 2 false] R) F)) (S (s [m 93 11,m 94 10,o 95 .neq 93 94] (D 95 (s [b 2 false] R) F))
 (s [b 2 true] R))))))))))))))))))))))))),[.t 2]⟩
theorem i4:iF 4 g4:=jF Tryz.func4
def g7:GFun:=⟨⟨95,[1,8,10]⟩,(s [a 1 6 0,Z 2] (S (s [h 11 6 1,c 12 13 [.t 11],w 13 12] (D 13 (s [Z 2] R) F)) (s [f 14 0 1,l 15 14,x 16 (.bin .add (.k (.val (.string (ByteArray.mk #[114,117,108,101,32])))) (.t 15)),x 17 (.bin .add
 (.t 16) (.k (.val (.string (ByteArray.mk #[32]))))),f 18 1 1,l 19 18,o 20 .add 17 19,x 21 (.bin .add (.t 20) (.k (.val (.string (ByteArray.mk #[32,58]))))),m 3 21] (S (s [f 22 2 1,l 23 22,n 24 23,k 25 0] (B 0 (s [o 26 .lss 25 24] (C 26 0
 (S (.block 1 (s [i 27 1 23 25,l 28 27,m 5 28] (.reg [m 29 3,m 30 5,x 31 (.bin .add (.k (.val (.string (ByteArray.mk #[32])))) (.t 30)),o 32 .add 29 31,m 3 32]))) (.reg [q 33 .add 25 1,m 25 33])))))) (S (s [f 34 3 1,l 35 34] (D 35
 (.reg [m 36 3,x 37 (.bin .add (.t 36) (.k (.val (.string (ByteArray.mk #[32,108,105,116]))))),m 3 37]) F)) (s [m 38 3,x 39 (.bslice 1 [] 1 false [(0,(.t 38))]),m 6 39] (S (s [f 40 4 1,l 41 40,n 42 41,k 43 0] (B 2 (s [o 44 .lss 43 42]
 (C 44 2 (S (.block 3 (s [i 45 9 41 43,h 46 9 45,u 8 9,t 8 9 46] (.reg [m 47 6,e 48 0 2 8,f 49 0 48,e 54 0 2 8,f 55 1 54,e 59 2 7 8,l 50 49,G 51 24 [.t 50],x 52 (.bin .add (.k (.val (.string (ByteArray.mk #[101,113,32,36])))) (.t 51)),
 x 53 (.bin .add (.t 52) (.k (.val (.string (ByteArray.mk #[46]))))),l 56 55,o 57 .add 53 56,x 58 (.bin .add (.t 57) (.k (.val (.string (ByteArray.mk #[32,58,61,32]))))),h 60 7 59,G 61 25 [.t 60],o 62 .add 58 61,x 63
 (.bslice 1 [] 1 false [(0,(.t 62))]),Q 64 1 16 47 63,m 6 64]))) (.reg [q 65 .add 43 1,m 43 65])))))) (S (s [f 66 5 1,l 67 66,n 68 67,k 69 0] (B 4 (s [o 70 .lss 69 68] (C 70 4 (S (.block 5 (s [i 71 16 67 69,h 72 16 71,u 10 16,t 10 16 72]
 (.reg [m 73 6,f 74 0 10,f 78 1 10,e 82 2 7 10,e 87 9 7 10,l 75 74,x 76 (.bin .add (.k (.val (.string (ByteArray.mk #[112,117,116,32])))) (.t 75)),x 77 (.bin .add (.t 76) (.k (.val (.string (ByteArray.mk #[46]))))),l 79 78,o 80 .add 77 79,
 x 81 (.bin .add (.t 80) (.k (.val (.string (ByteArray.mk #[32,111,102,32]))))),h 83 7 82,G 84 25 [.t 83],o 85 .add 81 84,x 86 (.bin .add (.t 85) (.k (.val (.string (ByteArray.mk #[32,58,61,32]))))),h 88 7 87,G 89 25 [.t 88],
 o 90 .add 86 89,x 91 (.bslice 1 [] 1 false [(0,(.t 90))]),Q 92 1 16 73 91,m 6 92]))) (.reg [q 93 .add 69 1,m 69 93])))))) (s [m 94 6,m 2 94] R))))))))),[.t 2]⟩
theorem i7:iF 7 g7:=jF Tryz.func7
def g8:GFun:=⟨⟨88,[2]⟩,(s [u 2 6,b 3 false] (S (s [m 10 0,n 11 10,q 12 .eql 11 0] (D 12 (s [x 13 (.build [(.val (.string (ByteArray.mk #[]))),(.val (.string (ByteArray.mk #[]))),(.val (.slice none 0 0)),(.val (.bool false)),(.val
 (.slice none 0 0)),(.val (.slice none 0 0))] []),t 2 6 13,b 3 false] R) F)) (s [m 14 0,x 15 (.iaddr 1 (.t 14) (K 0)),l 16 15,x 17 (.call false 26 [.t 16,(.k (.val (.string (ByteArray.mk #[32])))),K 9]),m 4 17] (S (s [m 18 4,n 19 18,
 q 20 .lss 19 4] (D 20 (s [x 21 (.build [(.val (.string (ByteArray.mk #[]))),(.val (.string (ByteArray.mk #[]))),(.val (.slice none 0 0)),(.val (.bool false)),(.val (.slice none 0 0)),(.val (.slice none 0 0))] []),t 2 6 21,
 b 3 false] R) F)) (s [m 22 4,x 23 (.iaddr 1 (.t 22) (K 1)),m 25 4,x 26 (.iaddr 1 (.t 25) (K 2)),m 28 4,x 29 (.slc 1 (.t 28) (some (K 4)) none),l 24 23,l 27 26,x 30 (.build [(.val (.string (ByteArray.mk #[]))),(.val (.string
 (ByteArray.mk #[]))),(.val (.slice none 0 0)),(.val (.bool false)),(.val (.slice none 0 0)),(.val (.slice none 0 0))] [(0,(1,(.t 24))),(1,(1,(.t 27))),(2,(1,(.t 29)))]),x 5 (.alloc 6 (.agg [(.val (.string (ByteArray.mk #[]))),(.val
 (.string (ByteArray.mk #[]))),(.val (.slice none 0 0)),(.val (.bool false)),(.val (.slice none 0 0)),(.val (.slice none 0 0))])),(.mk none none (.store 6 (.t 5) (.t 30)))] (S (s [f 31 2 5,l 32 31,n 33 32,m 6 33] (s [m 34 6,q 35 .gtr 34 0,
 m 36 35,y 37 36 (p 1 2 5),y 38 36 (r 1 37),M 39 36 6,y 40 36 (.bin .sub (.t 39) (K 1)),y 41 36 (.iaddr 1 (.t 38) (.t 40)),y 42 36 (r 1 41),y 43 36 (.bin .eql (.t 42) (.k (.val (.string (ByteArray.mk #[108,105,116]))))),A 44 36 43] (D 44
 (.reg [f 45 2 5,l 46 45,m 47 6,q 48 .sub 47 1,x 49 (.slc 1 (.t 46) none (some (.t 48))),f 50 2 5,(.mk none none (.store 1 (.t 50) (.t 49))),f 51 3 5,(.mk none none (.store 1 (.t 51) (.k (.val (.bool true)))))]) F))) (s [f 52 2 5,l 53 52,
 c 54 27 [.t 53],f 55 2 5,(.mk none none (.store 1 (.t 55) (.t 54)))] (S (s [m 56 0,x 57 (.slc 1 (.t 56) (some (K 1)) none),n 58 57,k 59 0] (B 0 (s [o 60 .lss 59 58] (C 60 0 (S (.block 1 (s [i 61 1 57 59,l 62 61,m 8 62] (s [m 63 8,x 64
 (.call false 28 [.t 63,(.k (.val (.string (ByteArray.mk #[112,117,116,32]))))]),m 65 64,M 66 65 8,y 67 65 (.call false 29 [.t 5,.t 66]),A 68 65 67,m 69 68,N 70 69 8,z 71 69 (.call false 28 [.t 70,(.k (.val (.string (ByteArray.mk #[101,113,
 32,36]))))]),N 72 69 71,M 73 72 8,y 74 72 (.call false 30 [.t 5,.t 73]),z 75 69 (.pick (.t 72) (.t 74) (.k (.val (.bool false)))),O 76 69 75,m 9 76] (s [m 77 9,w 78 77] (D 78 (s [x 79 (.build [(.val (.string (ByteArray.mk #[]))),(.val
 (.string (ByteArray.mk #[]))),(.val (.slice none 0 0)),(.val (.bool false)),(.val (.slice none 0 0)),(.val (.slice none 0 0))] []),t 2 6 79,b 3 false] R) F))))) (.reg [q 80 .add 59 1,m 59 80])))))) (S (s [h 81 6 5,c 82 7 [.t 81],m 83 0,
 c 84 31 [.t 82,.t 83],w 85 84] (D 85 (s [x 86 (.build [(.val (.string (ByteArray.mk #[]))),(.val (.string (ByteArray.mk #[]))),(.val (.slice none 0 0)),(.val (.bool false)),(.val (.slice none 0 0)),(.val (.slice none 0 0))] []),t 2 6 86,
 b 3 false] R) F)) (s [h 87 6 5,t 2 6 87,b 3 true] R)))))))))),[(.c 2 6 true),.t 3]⟩
theorem i8:iF 8 g8:=jF Tryz.func8
def g10:GFun:=⟨⟨106,[1,7,9]⟩,(s [a 1 6 0,Z 2] (S (s [h 10 6 1,c 11 32 [.t 10],w 12 11] (D 12 (s [E 13 1 false,m 2 13] R) F)) (s [f 14 0 1,l 15 14,x 16 (.bin .add (.k (.val (.string (ByteArray.mk #[114,117,108,101,32])))) (.t 15)),x 17
 (.bin .add (.t 16) (.k (.val (.string (ByteArray.mk #[32]))))),f 18 1 1,l 19 18,o 20 .add 17 19,x 21 (.bin .add (.t 20) (.k (.val (.string (ByteArray.mk #[32,58]))))),m 3 21] (S (s [k 4 0] (B 0 (S (s [m 22 4,f 23 2 1,l 24 23,n 25 24,
 o 26 .lss 22 25] (D 26 F (.exit 0))) (S (.block 1 (.reg [m 29 3,x 30 (.bin .add (.t 29) (.k (.val (.string (ByteArray.mk #[32]))))),f 31 2 1,l 32 31,m 33 4,i 34 1 32 33,l 35 34,o 36 .add 30 35,m 3 36])) (.reg [m 27 4,q 28 .add 27 1,
 m 4 28]))))) (S (s [f 37 3 1,l 38 37] (D 38 (.reg [m 39 3,x 40 (.bin .add (.t 39) (.k (.val (.string (ByteArray.mk #[32,108,105,116]))))),m 3 40]) F)) (s [m 41 3,x 42 (.bslice 1 [] 1 false [(0,(.t 41))]),m 5 42] (S (s [k 6 0] (B 2 (S
 (s [m 43 6,f 44 4 1,l 45 44,n 46 45,o 47 .lss 43 46] (D 47 F (.exit 2))) (S (.block 3 (s [f 50 4 1,l 51 50,m 52 6,i 53 9 51 52,h 54 9 53,u 7 9,t 7 9 54] (.reg [m 55 5,e 56 0 2 7,f 57 0 56,e 62 0 2 7,f 63 1 62,e 67 2 7 7,l 58 57,
 G 59 33 [.t 58],x 60 (.bin .add (.k (.val (.string (ByteArray.mk #[101,113,32,36])))) (.t 59)),x 61 (.bin .add (.t 60) (.k (.val (.string (ByteArray.mk #[46]))))),l 64 63,o 65 .add 61 64,x 66 (.bin .add (.t 65) (.k (.val (.string
 (ByteArray.mk #[32,58,61,32]))))),h 68 7 67,G 69 34 [.t 68],o 70 .add 66 69,x 71 (.bslice 1 [] 1 false [(0,(.t 70))]),Q 72 1 16 55 71,m 5 72]))) (.reg [m 48 6,q 49 .add 48 1,m 6 49]))))) (S (s [k 8 0] (B 4 (S (s [m 73 8,f 74 5 1,l 75 74,
 n 76 75,o 77 .lss 73 76] (D 77 F (.exit 4))) (S (.block 5 (s [f 80 5 1,l 81 80,m 82 8,i 83 16 81 82,h 84 16 83,u 9 16,t 9 16 84] (.reg [m 85 5,f 86 0 9,f 90 1 9,e 94 2 7 9,e 99 9 7 9,l 87 86,x 88 (.bin .add (.k (.val (.string
 (ByteArray.mk #[112,117,116,32])))) (.t 87)),x 89 (.bin .add (.t 88) (.k (.val (.string (ByteArray.mk #[46]))))),l 91 90,o 92 .add 89 91,x 93 (.bin .add (.t 92) (.k (.val (.string (ByteArray.mk #[32,111,102,32]))))),h 95 7 94,
 G 96 34 [.t 95],o 97 .add 93 96,x 98 (.bin .add (.t 97) (.k (.val (.string (ByteArray.mk #[32,58,61,32]))))),h 100 7 99,G 101 34 [.t 100],o 102 .add 98 101,x 103 (.bslice 1 [] 1 false [(0,(.t 102))]),Q 104 1 16 85 103,m 5 104])))
 (.reg [m 78 8,q 79 .add 78 1,m 8 79]))))) (s [m 105 5,m 2 105] R))))))))),[.t 2]⟩
theorem i10:iF 10 g10:=jF Tryz.func10
def g11:GFun:=⟨⟨61,[2]⟩,(s [u 2 6,b 3 false] (S (s [m 6 0,n 7 6,q 8 .eql 7 0] (D 8 (s [x 9 (.build [(.val (.string (ByteArray.mk #[]))),(.val (.string (ByteArray.mk #[]))),(.val (.slice none 0 0)),(.val (.bool false)),(.val
 (.slice none 0 0)),(.val (.slice none 0 0))] []),t 2 6 9,b 3 false] R) F)) (s [m 10 0,x 11 (.iaddr 1 (.t 10) (K 0)),l 12 11,c 13 35 [.t 12],x 4 (.alloc 6 (.agg [(.val (.string (ByteArray.mk #[]))),(.val (.string (ByteArray.mk #[]))),
 (.val (.slice none 0 0)),(.val (.bool false)),(.val (.slice none 0 0)),(.val (.slice none 0 0))])),(.mk none none (.store 6 (.t 4) (.t 13)))] (S (s [k 5 1] (B 0 (S (s [m 14 5,m 15 0,n 16 15,o 17 .lss 14 16] (D 17 F (.exit 0))) (S
 (.block 1 (s [m 20 0,m 21 5,i 22 1 20 21,l 23 22,x 24 (.slen (.t 23)),q 25 .gtr 24 3,m 26 25,M 27 26 0,M 28 26 5,y 29 26 (.iaddr 1 (.t 27) (.t 28)),y 30 26 (r 1 29),y 31 26 (.sslc (.t 30) none (some (K 3))),y 32 26 (.bin .eql (.t 31) (.k
 (.val (.string (ByteArray.mk #[101,113,32]))))),A 33 26 32] (D 33 (.reg [f 34 4 4,m 36 0,m 37 5,i 38 1 36 37,l 35 34,l 39 38,G 40 36 [.t 39],x 41 (.bslice 9 [] 1 true [(0,(.t 40))]),Q 42 9 112 35 41,f 43 4 4,(.mk none none (.store 1
 (.t 43) (.t 42)))]) (.reg [f 44 5 4,m 46 0,m 47 5,i 48 1 46 47,l 45 44,l 49 48,G 50 37 [.t 49],x 51 (.bslice 16 [] 1 true [(0,(.t 50))]),Q 52 16 208 45 51,f 53 5 4,(.mk none none (.store 1 (.t 53) (.t 52)))])))) (.reg [m 18 5,
 q 19 .add 18 1,m 5 19]))))) (S (s [h 54 6 4,c 55 10 [.t 54],m 56 0,c 57 38 [.t 55,.t 56],w 58 57] (D 58 (s [x 59 (.build [(.val (.string (ByteArray.mk #[]))),(.val (.string (ByteArray.mk #[]))),(.val (.slice none 0 0)),(.val
 (.bool false)),(.val (.slice none 0 0)),(.val (.slice none 0 0))] []),t 2 6 59,b 3 false] R) F)) (s [h 60 6 4,t 2 6 60,b 3 true] R)))))),[(.c 2 6 true),.t 3]⟩
theorem i11:iF 11 g11:=jF Tryz.func11
def g13:GFun:=⟨⟨104,[1,7,9]⟩,(s [a 1 6 0,b 2 false] (s [f 10 2 1,l 11 10,n 12 11,m 3 12] (S (s [f 13 0 1,l 14 13,c 15 44 [.t 14],w 16 15,m 17 16,z 18 17 (p 1 1 1),z 19 17 (r 1 18),z 20 17 (.call false 44 [.t 19]),z 21 17 (.not (.t 20)),
 O 22 17 21,m 23 22,N 24 23 3,z 25 23 (.bin .gtr (.t 24) (K 3)),O 26 23 25,m 27 26,z 28 27 (p 1 5 1),z 29 27 (r 1 28),z 30 27 (.len (.t 29)),z 31 27 (.bin .gtr (.t 30) (K 2)),O 32 27 31] (D 32 (s [b 2 false] R) F)) (S (s [f 33 2 1,l 34 33,
 n 35 34,k 36 0] (B 0 (s [o 37 .lss 36 35] (C 37 0 (S (.block 1 (s [i 38 1 34 36,l 39 38,m 5 39] (s [m 40 5,c 41 44 [.t 40],w 42 41] (D 42 (s [b 2 false] R) F)))) (.reg [q 43 .add 36 1,m 36 43])))))) (S (s [f 44 4 1,l 45 44,n 46 45,
 k 47 0] (B 2 (s [o 48 .lss 47 46] (C 48 2 (S (.block 3 (s [i 49 9 45 47,h 50 9 49,u 7 9,t 7 9 50] (s [e 51 2 7 7,h 52 7 51,m 53 3,c 54 45 [.t 52,.t 53],w 55 54,m 56 55,z 57 56 (.faddr 0 2 true (.t 7)),z 58 56 (p 1 1 57),z 59 56 (r 1 58),
 z 60 56 (.call false 44 [.t 59]),z 61 56 (.not (.t 60)),O 62 56 61,m 63 62,z 64 63 (.faddr 0 2 true (.t 7)),z 65 63 (p 1 0 64),z 66 63 (r 1 65),N 67 63 3,z 68 63 (.call false 46 [.t 66,K 0,.t 67]),z 69 63 (.not (.t 68)),O 70 63 69] (D 70
 (s [b 2 false] R) F)))) (.reg [q 71 .add 47 1,m 47 71])))))) (S (s [f 72 5 1,l 73 72,n 74 73,k 75 0] (B 4 (s [o 76 .lss 75 74] (C 76 4 (S (.block 5 (s [i 77 16 73 75,h 78 16 77,u 9 16,t 9 16 78] (s [e 79 2 7 9,h 80 7 79,m 81 3,
 c 82 45 [.t 80,.t 81],w 83 82,m 84 83,z 85 84 (.faddr 9 7 true (.t 9)),z 86 84 (j 7 85),N 87 84 3,z 88 84 (.call false 45 [.t 86,.t 87]),z 89 84 (.not (.t 88)),O 90 84 89,m 91 90,z 92 91 (p 1 0 9),z 93 91 (r 1 92),z 94 91
 (.call false 44 [.t 93]),z 95 91 (.not (.t 94)),O 96 91 95,m 97 96,z 98 97 (p 1 1 9),z 99 97 (r 1 98),z 100 97 (.call false 44 [.t 99]),z 101 97 (.not (.t 100)),O 102 97 101] (D 102 (s [b 2 false] R) F)))) (.reg [q 103 .add 75 1,
 m 75 103])))))) (s [b 2 true] R))))))),[.t 2]⟩
theorem i13:iF 13 g13:=jF Tryz.func13
def g15:GFun:=⟨⟨28,[]⟩,(s [k 4 0] (s [m 6 1,m 7 0,n 8 7,o 9 .sub 6 8,m 1 9] (S (s [m 10 1,q 11 .lss 10 0] (D 11 (s [k 4 (-1)] R) F)) (S (s [k 5 0] (B 0 (S (s [m 12 5,m 13 0,n 14 13,o 15 .lss 12 14] (D 15 F (.exit 0))) (S (.block 1
 (s [m 18 1,m 19 0,m 20 5,i 21 1 19 20,l 22 21,x 23 (.slen (.t 22)),o 24 .sub 18 23,m 1 24] (s [m 25 1,q 26 .lss 25 0] (D 26 (s [k 4 (-1)] R) F)))) (.reg [m 16 5,q 17 .add 16 1,m 5 17]))))) (s [m 27 1,m 4 27] R))))),[.t 4]⟩
theorem i15:iF 15 g15:=jF Tryz.func15
def g16:GFun:=⟨⟨22,[]⟩,(s [Z 2] (s [m 5 0,n 6 5,x 7 (.mkslice 1 16 (.val (.string (ByteArray.mk #[]))) (.t 6) (.t 6)),m 3 7] (S (s [k 4 0] (B 0 (S (s [m 8 4,m 9 0,n 10 9,o 11 .lss 8 10] (D 11 F (.exit 0))) (S (.block 1 (.reg [m 14 3,
 m 15 4,m 16 0,m 17 4,i 18 1 16 17,l 19 18,i 20 1 14 15,(.mk none none (.store 1 (.t 20) (.t 19)))])) (.reg [m 12 4,q 13 .add 12 1,m 4 13]))))) (s [m 21 3,m 2 21] R)))),[.t 2]⟩
theorem i16:iF 16 g16:=jF Tryz.func16
def g17:GFun:=⟨⟨38,[2,3]⟩,(s [a 2 6 0,a 3 6 1,b 4 false] (S (s [f 5 0 2,l 6 5,f 7 0 3,l 8 7,o 9 .neq 6 8] (D 9 (s [b 4 false] R) F)) (S (s [f 10 1 2,l 11 10,f 12 1 3,l 13 12,o 14 .neq 11 13] (D 14 (s [b 4 false] R) F)) (S (s [f 15 2 2,
 l 16 15,f 17 2 3,l 18 17,c 19 18 [.t 16,.t 18],w 20 19] (D 20 (s [b 4 false] R) F)) (S (s [f 21 3 2,l 22 21,f 23 3 3,l 24 23,x 25 (.beq true (.t 22) (.t 24))] (D 25 (s [b 4 false] R) F)) (S (s [f 26 4 2,l 27 26,f 28 4 3,l 29 28,
 c 30 51 [.t 27,.t 29],w 31 30] (D 31 (s [b 4 false] R) F)) (S (s [f 32 5 2,l 33 32,f 34 5 3,l 35 34,c 36 52 [.t 33,.t 35],w 37 36] (D 37 (s [b 4 false] R) F)) (s [b 4 true] R)))))))),[.t 4]⟩
theorem i17:iF 17 g17:=jF Tryz.func17
def g18:GFun:=⟨⟨26,[]⟩,(s [b 4 false] (S (s [m 6 0,n 7 6,m 8 1,n 9 8,o 10 .neq 7 9] (D 10 (s [b 4 false] R) F)) (S (s [k 5 0] (B 0 (S (s [m 11 5,m 12 0,n 13 12,o 14 .lss 11 13] (D 14 F (.exit 0))) (S (.block 1 (s [m 17 0,m 18 5,
 i 19 1 17 18,m 21 1,m 22 5,i 23 1 21 22,l 20 19,l 24 23,o 25 .neq 20 24] (D 25 (s [b 4 false] R) F))) (.reg [m 15 5,q 16 .add 15 1,m 5 16]))))) (s [b 4 true] R)))),[.t 4]⟩
theorem i18:iF 18 g18:=jF Tryz.func18
def g19:GFun:=⟨⟨20,[]⟩,(s [k 4 0] (S (s [k 5 0] (B 0 (S (s [m 6 5,m 7 0,n 8 7,o 9 .lss 6 8] (D 9 F (.exit 0))) (S (.block 1 (s [m 12 0,m 13 5,m 14 1,c 15 53 [.t 14],i 16 1 12 13,(.mk none none (.store 1 (.t 16) (.t 15)))] (.reg [m 17 1,
 q 18 .add 17 1,m 1 18]))) (.reg [m 10 5,q 11 .add 10 1,m 5 11]))))) (s [m 19 1,m 4 19] R))),[.t 4]⟩
theorem i19:iF 19 g19:=jF Tryz.func19
def g20:GFun:=⟨⟨18,[2]⟩,(s [a 2 6 0,k 4 0] (s [f 5 2 2,l 6 5,m 7 1,c 8 19 [.t 6,.t 7],m 1 8] (s [f 9 4 2,l 10 9,m 11 1,c 12 54 [.t 10,.t 11],m 1 12] (s [f 13 5 2,l 14 13,m 15 1,c 16 55 [.t 14,.t 15],m 1 16] (s [m 17 1,m 4 17] R))))),
 [.t 4]⟩
theorem i20:iF 20 g20:=jF Tryz.func20
def g21:GFun:=⟨⟨24,[2]⟩,(s [a 2 6 0,k 4 0] (s [f 5 2 2,l 6 5,m 7 1,c 8 56 [.t 6,.t 7],m 1 8] (S (s [m 9 1,q 10 .lss 9 0] (D 10 (s [k 4 (-1)] R) F)) (s [f 11 4 2,l 12 11,m 13 1,c 14 57 [.t 12,.t 13],m 1 14] (S (s [m 15 1,
 q 16 .lss 15 0] (D 16 (s [k 4 (-1)] R) F)) (s [f 17 5 2,l 18 17,m 19 1,c 20 58 [.t 18,.t 19],m 1 20] (S (s [m 21 1,q 22 .lss 21 0] (D 22 (s [k 4 (-1)] R) F)) (s [m 23 1,m 4 23] R)))))))),[.t 4]⟩
theorem i21:iF 21 g21:=jF Tryz.func21
def g24:GFun:=⟨⟨5,[]⟩,(s [x 2 (.mov (.k (.val (.string (ByteArray.mk #[])))))] (s [m 3 0,c 4 61 [.t 3],m 2 4] R)),[.t 2]⟩
theorem i24:iF 24 g24:=jF Tryz.func24
def g25:GFun:=⟨⟨72,[1]⟩,(s [a 1 7 0,x 2 (.mov (.k (.val (.string (ByteArray.mk #[])))))] (S (s [f 3 0 1,l 4 3] (.block 0 (s [q 6 .eql 4 1,m 5 6] (D 5 (s [f 7 1 1,l 8 7,f 9 3 1,l 10 9,c 11 62 [.t 8,.t 10],m 2 11] R) (s [q 13 .eql 4 2,
 m 12 13] (D 12 (s [x 2 (.mov (.k (.val (.string (ByteArray.mk #[108,105,116])))))] R) (s [q 15 .eql 4 3,m 14 15] (D 14 (s [f 16 2 1,f 21 5 1,l 17 16,G 18 24 [.t 17],x 19 (.bin .add (.k (.val (.string (ByteArray.mk #[36])))) (.t 18)),x 20
 (.bin .add (.t 19) (.k (.val (.string (ByteArray.mk #[46]))))),l 22 21,o 23 .add 20 22,m 2 23] R) (s [q 25 .eql 4 5,m 24 25] (D 24 (s [f 26 6 1,f 33 6 1,f 40 6 1,l 27 26,x 28 (.iaddr 7 (.t 27) (K 0)),h 29 7 28,G 30 25 [.t 29],x 31
 (.bin .add (.k (.val (.string (ByteArray.mk #[105,102,32])))) (.t 30)),x 32 (.bin .add (.t 31) (.k (.val (.string (ByteArray.mk #[32,116,104,101,110,32]))))),l 34 33,x 35 (.iaddr 7 (.t 34) (K 1)),h 36 7 35,G 37 25 [.t 36],o 38 .add 32 37,
 x 39 (.bin .add (.t 38) (.k (.val (.string (ByteArray.mk #[32,101,108,115,101,32]))))),l 41 40,x 42 (.iaddr 7 (.t 41) (K 2)),h 43 7 42,G 44 25 [.t 43],o 45 .add 39 44,m 2 45] R) (s [q 47 .eql 4 6,m 46 47] (D 46 (s [f 48 2 1,l 49 48,
 c 50 24 [.t 49],x 51 (.bin .add (.k (.val (.string (ByteArray.mk #[115,101,108,102,40])))) (.t 50)),x 52 (.bin .add (.t 51) (.k (.val (.string (ByteArray.mk #[41]))))),m 2 52] R) (s [q 54 .eql 4 7,m 53 54] (D 53 (s [x 2 (.mov (.k (.val
 (.string (ByteArray.mk #[110,111,110,101])))))] R) (s [q 56 .eql 4 8,m 55 56] (D 55 (s [f 57 4 1,f 60 5 1,f 64 6 1,l 58 57,x 59 (.bin .add (.t 58) (.k (.val (.string (ByteArray.mk #[46]))))),l 61 60,o 62 .add 59 61,x 63 (.bin .add
 (.t 62) (.k (.val (.string (ByteArray.mk #[32,111,102,32]))))),l 65 64,x 66 (.iaddr 7 (.t 65) (K 0)),h 67 7 66,G 68 63 [.t 67,K 4],o 69 .add 63 68,m 2 69] R) F)))))))))))))))) (s [h 70 7 1,c 71 64 [.t 70],m 2 71] R))),[.t 2]⟩
theorem i25:iF 25 g25:=jF Tryz.func25
def g27:GFun:=⟨⟨8,[]⟩,(s [Z 2] (S (s [m 3 0,x 4 (.isnil false (.t 3))] (D 4 (s [Z 2] R) F)) (s [E 5 1 false,m 6 0,Q 7 1 16 5 6,m 2 7] R))),[.t 2]⟩
theorem i27:iF 27 g27:=jF Tryz.func27
def g28:GFun:=⟨⟨8,[]⟩,(s [b 4 false] (s [m 5 0,m 6 1,c 7 66 [.t 5,.t 6],m 4 7] R)),[.t 4]⟩
theorem i28:iF 28 g28:=jF Tryz.func28
def g29:GFun:=⟨⟨67,[14,16]⟩,(s [b 4 false] (s [m 19 1,x 20 (.call false 68 [.t 19,(.k (.val (.string (ByteArray.mk #[112,117,116,32]))))]),x 21 (.call false 67 [.t 20,(.k (.val (.string (ByteArray.mk #[32,58,61,32]))))]),m 18 21,
 v 22 18 0,v 23 18 1,v 24 18 2,m 5 22,m 6 23,m 7 24] (s [m 26 5,x 27 (.call false 67 [.t 26,(.k (.val (.string (ByteArray.mk #[32,111,102,32]))))]),m 25 27,v 28 25 0,v 29 25 1,v 30 25 2,m 8 28,m 9 29,m 10 30] (s [m 32 8,x 33
 (.call false 67 [.t 32,(.k (.val (.string (ByteArray.mk #[46]))))]),m 31 33,v 34 31 0,v 35 31 1,v 36 31 2,m 11 34,m 12 35,m 13 36] (s [m 38 9,c 39 69 [.t 38],m 37 39,v 40 37 0,v 41 37 1,u 14 7,t 14 7 40,m 15 41] (s [m 43 6,c 44 69 [.t 43],
 m 42 44,v 45 42 0,v 46 42 1,u 16 7,t 16 7 45,m 17 46] (s [m 47 0,m 48 0,x 49 (.nck (.t 48)),f 50 5 49,m 52 11,m 53 12,l 51 50,h 54 7 14,h 55 7 16,x 56 (.build [(.val (.string (ByteArray.mk #[]))),(.val (.string (ByteArray.mk #[]))),(.val
 (.int .i64 0)),(.val (.int .i64 0)),(.val (.int .i64 0)),(.val (.int .i64 0)),(.val (.string (ByteArray.mk #[]))),(.val (.string (ByteArray.mk #[]))),(.val (.slice none 0 0)),(.val (.int .i64 0)),(.val (.int .i64 0)),(.val (.int .i64 0)),
 (.val (.int .i64 0)),(.val (.string (ByteArray.mk #[]))),(.val (.string (ByteArray.mk #[]))),(.val (.slice none 0 0))] [(0,(1,(.t 52))),(1,(1,(.t 53))),(2,(7,(.t 54))),(9,(7,(.t 55)))]),x 57 (.bslice 16 [] 1 true [(0,(.t 56))]),
 Q 58 16 208 51 57,x 59 (.nck (.t 47)),f 60 5 59,(.mk none none (.store 1 (.t 60) (.t 58)))] (s [m 61 15,q 62 .lss 61 0,m 63 62,M 64 63 17,y 65 63 (.bin .lss (.t 64) (K 0)),A 66 63 65,m 4 66] R)))))))),[.t 4]⟩
theorem i29:iF 29 g29:=jF Tryz.func29
def g30:GFun:=⟨⟨57,[13]⟩,(s [b 4 false] (s [m 16 1,x 17 (.call false 68 [.t 16,(.k (.val (.string (ByteArray.mk #[101,113,32,36]))))]),x 18 (.call false 67 [.t 17,(.k (.val (.string (ByteArray.mk #[32,58,61,32]))))]),m 15 18,v 19 15 0,
 v 20 15 1,v 21 15 2,m 5 19,m 6 20,m 7 21] (s [m 23 5,x 24 (.call false 67 [.t 23,(.k (.val (.string (ByteArray.mk #[46]))))]),m 22 24,v 25 22 0,v 26 22 1,v 27 22 2,m 8 25,m 9 26,m 10 27] (s [m 29 8,c 30 70 [.t 29],m 28 30,v 31 28 0,
 v 32 28 1,m 11 31,m 12 32] (s [m 34 6,c 35 69 [.t 34],m 33 35,v 36 33 0,v 37 33 1,u 13 7,t 13 7 36,m 14 37] (s [m 38 0,m 39 0,x 40 (.nck (.t 39)),f 41 4 40,m 43 11,m 44 9,x 45 (.build [(.val (.int .i64 0)),(.val (.string
 (ByteArray.mk #[])))] [(0,(1,(.t 43))),(1,(1,(.t 44)))]),l 42 41,h 46 7 13,x 47 (.build [(.val (.int .i64 0)),(.val (.string (ByteArray.mk #[]))),(.val (.int .i64 0)),(.val (.int .i64 0)),(.val (.int .i64 0)),(.val (.int .i64 0)),(.val
 (.string (ByteArray.mk #[]))),(.val (.string (ByteArray.mk #[]))),(.val (.slice none 0 0))] [(0,(2,(.t 45))),(2,(7,(.t 46)))]),x 48 (.bslice 9 [] 1 true [(0,(.t 47))]),Q 49 9 112 42 48,x 50 (.nck (.t 38)),f 51 4 50,(.mk none none
 (.store 1 (.t 51) (.t 49)))] (s [m 52 12,m 53 52,M 54 53 14,y 55 53 (.bin .lss (.t 54) (K 0)),A 56 53 55,m 4 56] R))))))),[.t 4]⟩
theorem i30:iF 30 g30:=jF Tryz.func30
def g31:GFun:=⟨⟨26,[]⟩,(s [b 4 false] (S (s [m 6 0,n 7 6,m 8 1,n 9 8,o 10 .neq 7 9] (D 10 (s [b 4 false] R) F)) (S (s [m 11 0,n 12 11,k 13 0] (B 0 (s [o 14 .lss 13 12] (C 14 0 (S (.block 1 (s [m 15 13,m 5 15] (s [m 16 0,m 17 5,
 i 18 1 16 17,m 20 1,m 21 5,i 22 1 20 21,l 19 18,l 23 22,o 24 .neq 19 23] (D 24 (s [b 4 false] R) F)))) (.reg [q 25 .add 13 1,m 13 25])))))) (s [b 4 true] R)))),[.t 4]⟩
theorem i31:iF 31 g31:=jF Tryz.func31
def g32:GFun:=⟨⟨112,[1,6,8]⟩,(s [a 1 6 0,b 2 false] (s [f 9 2 1,l 10 9,n 11 10,m 3 11] (S (s [f 12 0 1,l 13 12,c 14 71 [.t 13],w 15 14,m 16 15,z 17 16 (p 1 1 1),z 18 16 (r 1 17),z 19 16 (.call false 71 [.t 18]),z 20 16 (.not (.t 19)),
 O 21 16 20,m 22 21,N 23 22 3,z 24 22 (.bin .gtr (.t 23) (K 3)),O 25 22 24,m 26 25,z 27 26 (p 1 5 1),z 28 26 (r 1 27),z 29 26 (.len (.t 28)),z 30 26 (.bin .gtr (.t 29) (K 2)),O 31 26 30] (D 31 (s [b 2 false] R) F)) (S (s [k 4 0] (B 0 (S
 (s [m 32 4,m 33 3,o 34 .lss 32 33] (D 34 F (.exit 0))) (S (.block 1 (s [f 37 2 1,l 38 37,m 39 4,i 40 1 38 39,l 41 40,c 42 71 [.t 41],w 43 42] (D 43 (s [b 2 false] R) F))) (.reg [m 35 4,q 36 .add 35 1,m 4 36]))))) (S (s [k 5 0] (B 2 (S
 (s [m 44 5,f 45 4 1,l 46 45,n 47 46,o 48 .lss 44 47] (D 48 F (.exit 2))) (S (.block 3 (s [f 51 4 1,l 52 51,m 53 5,i 54 9 52 53,h 55 9 54,u 6 9,t 6 9 55] (s [e 56 0 2 6,f 57 1 56,l 58 57,c 59 71 [.t 58],w 60 59,m 61 60,z 62 61
 (.faddr 0 2 true (.t 6)),z 63 61 (p 1 0 62),z 64 61 (r 1 63),N 65 61 3,z 66 61 (.call false 72 [.t 64,K 0,.t 65]),z 67 61 (.not (.t 66)),O 68 61 67,m 69 68,z 70 69 (.faddr 2 7 true (.t 6)),z 71 69 (j 7 70),N 72 69 3,z 73 69
 (.call false 73 [.t 71,.t 72]),z 74 69 (.not (.t 73)),O 75 69 74] (D 75 (s [b 2 false] R) F)))) (.reg [m 49 5,q 50 .add 49 1,m 5 50]))))) (S (s [k 7 0] (B 4 (S (s [m 76 7,f 77 5 1,l 78 77,n 79 78,o 80 .lss 76 79] (D 80 F (.exit 4))) (S
 (.block 5 (s [f 83 5 1,l 84 83,m 85 7,i 86 16 84 85,h 87 16 86,u 8 16,t 8 16 87] (s [f 88 0 8,l 89 88,c 90 71 [.t 89],w 91 90,m 92 91,z 93 92 (p 1 1 8),z 94 92 (r 1 93),z 95 92 (.call false 71 [.t 94]),z 96 92 (.not (.t 95)),O 97 92 96,
 m 98 97,z 99 98 (.faddr 2 7 true (.t 8)),z 100 98 (j 7 99),N 101 98 3,z 102 98 (.call false 73 [.t 100,.t 101]),z 103 98 (.not (.t 102)),O 104 98 103,m 105 104,z 106 105 (.faddr 9 7 true (.t 8)),z 107 105 (j 7 106),N 108 105 3,z 109 105
 (.call false 73 [.t 107,.t 108]),z 110 105 (.not (.t 109)),O 111 105 110] (D 111 (s [b 2 false] R) F)))) (.reg [m 81 7,q 82 .add 81 1,m 7 82]))))) (s [b 2 true] R))))))),[.t 2]⟩
theorem i32:iF 32 g32:=jF Tryz.func32
def g33:GFun:=⟨⟨31,[]⟩,(s [x 2 (.mov (.k (.val (.string (ByteArray.mk #[])))))] (S (s [m 6 0,q 7 .eql 6 0] (D 7 (s [x 2 (.mov (.k (.val (.string (ByteArray.mk #[48])))))] R) F)) (s [m 8 0,q 9 .lss 8 0,m 3 9] (s [x 4 (.mov (.k (.val
 (.string (ByteArray.mk #[])))))] (S (B 0 (S (s [m 10 0,q 11 .neq 10 0] (D 11 F (.exit 0))) (.block 1 (s [m 12 0,q 13 .rem 12 10,m 5 13] (S (s [m 14 5,q 15 .lss 14 0] (D 15 (.reg [m 16 5,x 17 (.bin .sub (K 0) (.t 16)),m 5 17]) F))
 (s [m 18 5,x 19 (.bin .add (K 48) (.t 18)),x 20 (.conv .u8 (.t 19)),x 21 (.bslice 1 [] 1 false [(0,(.t 20))]),x 22 (.b2s (.t 21)),m 23 4,o 24 .add 22 23,m 4 24] (.reg [m 25 0,q 26 .quo 25 10,m 0 26]))))))) (S (s [m 27 3] (D 27 (s [m 28 4,
 x 29 (.bin .add (.k (.val (.string (ByteArray.mk #[45])))) (.t 28)),m 2 29] R) F)) (s [m 30 4,m 2 30] R))))))),[.t 2]⟩
theorem i33:iF 33 g33:=jF Tryz.func33
def g34:GFun:=⟨⟨8,[1]⟩,(s [a 1 7 0,x 2 (.mov (.k (.val (.string (ByteArray.mk #[])))))] (S (s [h 3 7 1,c 4 74 [.t 3],w 5 4] (D 5 (s [x 2 (.mov (.k (.val (.string (ByteArray.mk #[])))))] R) F)) (s [h 6 7 1,c 7 75 [.t 6],m 2 7] R))),
 [.t 2]⟩
theorem i34:iF 34 g34:=jF Tryz.func34
def g35:GFun:=⟨⟨50,[2]⟩,(s [u 2 6] (s [x 6 (.build [(.val (.string (ByteArray.mk #[]))),(.val (.string (ByteArray.mk #[]))),(.val (.slice none 0 0)),(.val (.bool false)),(.val (.slice none 0 0)),(.val (.slice none 0 0))] []),x 3
 (.alloc 6 (.agg [(.val (.string (ByteArray.mk #[]))),(.val (.string (ByteArray.mk #[]))),(.val (.slice none 0 0)),(.val (.bool false)),(.val (.slice none 0 0)),(.val (.slice none 0 0))])),(.mk none none (.store 6 (.t 3) (.t 6)))]
 (s [m 7 0,c 8 76 [.t 7,(.k (.val (.int .u8 32)))],m 4 8] (S (s [m 9 4,n 10 9,q 11 .lss 10 4] (D 11 (s [h 12 6 3,t 2 6 12] R) F)) (s [m 13 4,x 14 (.iaddr 1 (.t 13) (K 1)),l 15 14,f 16 0 3,(.mk none none (.store 1 (.t 16) (.t 15)))]
 (s [m 17 4,x 18 (.iaddr 1 (.t 17) (K 2)),l 19 18,f 20 1 3,(.mk none none (.store 1 (.t 20) (.t 19)))] (S (s [k 5 4] (B 0 (S (s [m 21 5,m 22 4,n 23 22,o 24 .lss 21 23] (D 24 F (.exit 0))) (S (.block 1 (s [m 27 4,m 28 5,i 29 1 27 28,l 30 29,
 x 31 (.bin .eql (.t 30) (.k (.val (.string (ByteArray.mk #[108,105,116]))))),m 32 31,M 33 32 5,M 34 32 4,y 35 32 (.len (.t 34)),y 36 32 (.bin .sub (.t 35) (K 1)),y 37 32 (.bin .eql (.t 33) (.t 36)),A 38 32 37] (D 38 (.reg [f 39 3 3,
 (.mk none none (.store 1 (.t 39) (.k (.val (.bool true)))))]) (.reg [f 40 2 3,m 42 4,m 43 5,i 44 1 42 43,l 41 40,l 45 44,x 46 (.bslice 1 [] 1 false [(0,(.t 45))]),Q 47 1 16 41 46,f 48 2 3,(.mk none none (.store 1 (.t 48) (.t 47)))]))))
 (.reg [m 25 5,q 26 .add 25 1,m 5 26]))))) (s [h 49 6 3,t 2 6 49] R)))))))),[(.c 2 6 true)]⟩
theorem i35:iF 35 g35:=jF Tryz.func35
def g36:GFun:=⟨⟨36,[2,6]⟩,(s [u 2 9] (s [x 8 (.build [(.val (.int .i64 0)),(.val (.string (ByteArray.mk #[]))),(.val (.int .i64 0)),(.val (.int .i64 0)),(.val (.int .i64 0)),(.val (.int .i64 0)),(.val (.string (ByteArray.mk #[]))),
 (.val (.string (ByteArray.mk #[]))),(.val (.slice none 0 0))] []),x 3 (.alloc 9 (.agg [(.val (.int .i64 0)),(.val (.string (ByteArray.mk #[]))),(.val (.int .i64 0)),(.val (.int .i64 0)),(.val (.int .i64 0)),(.val (.int .i64 0)),(.val
 (.string (ByteArray.mk #[]))),(.val (.string (ByteArray.mk #[]))),(.val (.slice none 0 0))])),(.mk none none (.store 9 (.t 3) (.t 8)))] (s [m 10 0,c 11 77 [.t 10],m 9 11,v 12 9 0,v 13 9 1,m 4 12,m 5 13] (S (s [m 14 4,x 15 (.slen (.t 14)),
 q 16 .gtr 15 4] (D 16 (s [m 18 4,x 19 (.sslc (.t 18) (some (K 3)) none),c 20 78 [.t 19],m 17 20,v 21 17 0,v 22 17 1,u 6 7,t 6 7 21,m 7 22] (.reg [f 23 2 6,l 24 23,f 25 5 6,l 26 25,x 27 (.build [(.val (.int .i64 0)),(.val (.string
 (ByteArray.mk #[])))] [(0,(1,(.t 24))),(1,(1,(.t 26)))]),e 28 0 2 3,(.mk none none (.store 2 (.t 28) (.t 27)))])) F)) (s [m 30 5,c 31 78 [.t 30],m 29 31,v 32 29 0,v 33 29 1,e 34 2 7 3,(.mk none none (.store 7 (.t 34) (.t 32)))]
 (s [h 35 9 3,t 2 9 35] R)))))),[(.c 2 9 true)]⟩
theorem i36:iF 36 g36:=jF Tryz.func36
def g37:GFun:=⟨⟨50,[2]⟩,(s [u 2 16] (s [x 8 (.build [(.val (.string (ByteArray.mk #[]))),(.val (.string (ByteArray.mk #[]))),(.val (.int .i64 0)),(.val (.int .i64 0)),(.val (.int .i64 0)),(.val (.int .i64 0)),(.val (.string
 (ByteArray.mk #[]))),(.val (.string (ByteArray.mk #[]))),(.val (.slice none 0 0)),(.val (.int .i64 0)),(.val (.int .i64 0)),(.val (.int .i64 0)),(.val (.int .i64 0)),(.val (.string (ByteArray.mk #[]))),(.val (.string (ByteArray.mk #[]))),
 (.val (.slice none 0 0))] []),x 3 (.alloc 16 (.agg [(.val (.string (ByteArray.mk #[]))),(.val (.string (ByteArray.mk #[]))),(.val (.int .i64 0)),(.val (.int .i64 0)),(.val (.int .i64 0)),(.val (.int .i64 0)),(.val (.string
 (ByteArray.mk #[]))),(.val (.string (ByteArray.mk #[]))),(.val (.slice none 0 0)),(.val (.int .i64 0)),(.val (.int .i64 0)),(.val (.int .i64 0)),(.val (.int .i64 0)),(.val (.string (ByteArray.mk #[]))),(.val (.string (ByteArray.mk #[]))),
 (.val (.slice none 0 0))])),(.mk none none (.store 16 (.t 3) (.t 8)))] (s [m 10 0,c 11 77 [.t 10],m 9 11,v 12 9 0,v 13 9 1,m 4 12,m 5 13] (s [m 14 4,c 15 76 [.t 14,(.k (.val (.int .u8 32)))],m 6 15] (S (s [m 16 6,n 17 16,q 18 .lss 17 4]
 (D 18 (s [h 19 16 3,t 2 16 19] R) F)) (s [m 20 6,x 21 (.iaddr 1 (.t 20) (K 1)),l 22 21,c 23 76 [.t 22,(.k (.val (.int .u8 46)))],m 7 23] (s [m 24 7,x 25 (.iaddr 1 (.t 24) (K 0)),l 26 25,f 27 0 3,(.mk none none (.store 1 (.t 27)
 (.t 26)))] (s [m 28 7,m 29 7,n 30 29,q 31 .sub 30 1,i 32 1 28 31,l 33 32,f 34 1 3,(.mk none none (.store 1 (.t 34) (.t 33)))] (s [m 36 6,x 37 (.slc 1 (.t 36) (some (K 3)) none),x 38 (.call false 79 [.t 37,(.k (.val (.string
 (ByteArray.mk #[32]))))]),c 39 78 [.t 38],m 35 39,v 40 35 0,v 41 35 1,e 42 2 7 3,(.mk none none (.store 7 (.t 42) (.t 40)))] (s [m 44 5,c 45 78 [.t 44],m 43 45,v 46 43 0,v 47 43 1,e 48 9 7 3,(.mk none none (.store 7 (.t 48) (.t 46)))]
 (s [h 49 16 3,t 2 16 49] R))))))))))),[(.c 2 16 true)]⟩
theorem i37:iF 37 g37:=jF Tryz.func37
def g38:GFun:=⟨⟨26,[]⟩,(s [b 4 false] (S (s [m 6 0,n 7 6,m 8 1,n 9 8,o 10 .neq 7 9] (D 10 (s [b 4 false] R) F)) (S (s [k 5 0] (B 0 (S (s [m 11 5,m 12 0,n 13 12,o 14 .lss 11 13] (D 14 F (.exit 0))) (S (.block 1 (s [m 17 0,m 18 5,
 i 19 1 17 18,m 21 1,m 22 5,i 23 1 21 22,l 20 19,l 24 23,o 25 .neq 20 24] (D 25 (s [b 4 false] R) F))) (.reg [m 15 5,q 16 .add 15 1,m 5 16]))))) (s [b 4 true] R)))),[.t 4]⟩
theorem i38:iF 38 g38:=jF Tryz.func38
def g44:GFun:=⟨⟨35,[]⟩,(s [b 2 false] (S (s [m 4 0,x 5 (.slen (.t 4)),k 6 0] (B 0 (s [o 7 .lss 6 5] (C 7 0 (S (.block 1 (s [m 8 6,m 3 8] (s [m 9 0,m 10 3,x 11 (.idx (.t 9) (.t 10)),c 12 82 [.t 11],w 13 12,m 14 13,M 15 14 0,M 16 14 3,
 y 17 14 (.idx (.t 15) (.t 16)),y 18 14 (.call false 83 [.t 17]),y 19 14 (.not (.t 18)),A 20 14 19] (D 20 (s [b 2 false] R) F)))) (.reg [q 21 .add 6 1,m 6 21])))))) (s [m 22 0,x 23 (.slen (.t 22)),c 24 46 [.t 23,K 1,K 8],m 25 24,M 26 25 0,
 y 27 25 (.idx (.t 26) (K 0)),y 28 25 (.call false 82 [.t 27]),A 29 25 28,m 30 29,M 31 30 0,y 32 30 (.call false 84 [.t 31]),y 33 30 (.not (.t 32)),A 34 30 33,m 2 34] R))),[.t 2]⟩
theorem i44:iF 44 g44:=jF Tryz.func44
def g45:GFun:=⟨⟨12,[2,3]⟩,(s [a 2 7 0,a 3 1 1,b 4 false] (s [h 5 7 2,c 6 85 [.t 5],m 7 6,y 8 7 (j 7 2),y 9 7 (.mkfn 87 [.t 3]),y 10 7 (.call false 86 [.t 8,.t 9]),A 11 7 10,m 4 11] R)),[.t 4]⟩
theorem i45:iF 45 g45:=jF Tryz.func45
def g46:GFun:=⟨⟨15,[]⟩,(s [b 6 false] (s [m 7 0,m 8 1,o 9 .geq 7 8,m 10 9,M 11 10 0,M 12 10 2,y 13 10 (.bin .leq (.t 11) (.t 12)),A 14 10 13,m 6 14] R)),[.t 6]⟩
theorem i46:iF 46 g46:=jF Tryz.func46
def g51:GFun:=⟨⟨27,[]⟩,(s [b 4 false] (S (s [m 6 0,n 7 6,m 8 1,n 9 8,o 10 .neq 7 9] (D 10 (s [b 4 false] R) F)) (S (s [k 5 0] (B 0 (S (s [m 11 5,m 12 0,n 13 12,o 14 .lss 11 13] (D 14 F (.exit 0))) (S (.block 1 (s [m 17 0,m 18 5,
 i 19 9 17 18,m 21 1,m 22 5,i 23 9 21 22,h 20 9 19,h 24 9 23,G 25 92 [.t 20,.t 24],w 26 25] (D 26 (s [b 4 false] R) F))) (.reg [m 15 5,q 16 .add 15 1,m 5 16]))))) (s [b 4 true] R)))),[.t 4]⟩
theorem i51:iF 51 g51:=jF Tryz.func51
def g52:GFun:=⟨⟨27,[]⟩,(s [b 4 false] (S (s [m 6 0,n 7 6,m 8 1,n 9 8,o 10 .neq 7 9] (D 10 (s [b 4 false] R) F)) (S (s [k 5 0] (B 0 (S (s [m 11 5,m 12 0,n 13 12,o 14 .lss 11 13] (D 14 F (.exit 0))) (S (.block 1 (s [m 17 0,m 18 5,
 i 19 16 17 18,m 21 1,m 22 5,i 23 16 21 22,h 20 16 19,h 24 16 23,G 25 93 [.t 20,.t 24],w 26 25] (D 26 (s [b 4 false] R) F))) (.reg [m 15 5,q 16 .add 15 1,m 5 16]))))) (s [b 4 true] R)))),[.t 4]⟩
theorem i52:iF 52 g52:=jF Tryz.func52
def g53:GFun:=⟨⟨20,[]⟩,(s [x 2 (.mov (.k (.val (.string (ByteArray.mk #[])))))] (S (s [m 4 0,q 5 .leq 4 0] (D 5 (s [x 2 (.mov (.k (.val (.string (ByteArray.mk #[109,48])))))] R) F)) (s [x 3 (.mov (.k (.val (.string
 (ByteArray.mk #[])))))] (S (B 0 (S (s [m 6 0,q 7 .gtr 6 0] (D 7 F (.exit 0))) (.block 1 (s [m 8 0,q 9 .rem 8 10,x 10 (.bin .add (K 48) (.t 9)),x 11 (.conv .u8 (.t 10)),x 12 (.bslice 1 [] 1 false [(0,(.t 11))]),x 13 (.b2s (.t 12)),m 14 3,
 o 15 .add 13 14,m 3 15] (.reg [m 16 0,q 17 .quo 16 10,m 0 17]))))) (s [m 18 3,x 19 (.bin .add (.k (.val (.string (ByteArray.mk #[109])))) (.t 18)),m 2 19] R))))),[.t 2]⟩
theorem i53:iF 53 g53:=jF Tryz.func53
def g54:GFun:=⟨⟨88,[]⟩,(s [k 4 0] (S (s [k 5 0] (B 0 (S (s [m 6 5,m 7 0,n 8 7,o 9 .lss 6 8] (D 9 F (.exit 0))) (S (.block 1 (s [m 12 0,m 13 5,m 14 1,i 15 9 12 13,e 16 0 2 15,f 17 0 16,(.mk none none (.store 1 (.t 17) (.t 14)))]
 (s [m 18 1,q 19 .add 18 1,m 1 19] (s [m 20 0,m 21 5,m 22 1,c 23 53 [.t 22],i 24 9 20 21,e 25 0 2 24,f 26 1 25,(.mk none none (.store 1 (.t 26) (.t 23)))] (s [m 27 1,q 28 .add 27 1,m 1 28] (s [m 29 0,m 30 5,m 31 1,i 32 9 29 30,e 33 2 7 32,
 f 34 0 33,(.mk none none (.store 1 (.t 34) (.t 31)))] (s [m 35 1,q 36 .add 35 1,m 1 36] (s [m 37 0,m 38 5,m 39 1,i 40 9 37 38,e 41 2 7 40,f 42 1 41,(.mk none none (.store 1 (.t 42) (.t 39)))] (s [m 43 1,q 44 .add 43 1,m 1 44] (s [m 45 0,
 m 46 5,m 47 1,i 48 9 45 46,e 49 2 7 48,f 50 2 49,(.mk none none (.store 1 (.t 50) (.t 47)))] (s [m 51 1,q 52 .add 51 1,m 1 52] (s [m 53 0,m 54 5,m 55 1,i 56 9 53 54,e 57 2 7 56,f 58 3 57,(.mk none none (.store 1 (.t 58) (.t 55)))]
 (s [m 59 1,q 60 .add 59 1,m 1 60] (s [m 61 0,m 62 5,m 63 1,c 64 53 [.t 63],i 65 9 61 62,e 66 2 7 65,f 67 4 66,(.mk none none (.store 1 (.t 67) (.t 64)))] (s [m 68 1,q 69 .add 68 1,m 1 69] (s [m 70 0,m 71 5,m 72 1,c 73 53 [.t 72],
 i 74 9 70 71,e 75 2 7 74,f 76 5 75,(.mk none none (.store 1 (.t 76) (.t 73)))] (s [m 77 1,q 78 .add 77 1,m 1 78] (.reg [m 79 0,m 80 5,i 81 9 79 80,e 82 2 7 81,f 83 6 82,l 84 83,m 85 1,c 86 94 [.t 84,.t 85],m 1 86]))))))))))))))))))
 (.reg [m 10 5,q 11 .add 10 1,m 5 11]))))) (s [m 87 1,m 4 87] R))),[.t 4]⟩
theorem i54:iF 54 g54:=jF Tryz.func54
def g55:GFun:=⟨⟨145,[]⟩,(s [k 4 0] (S (s [k 5 0] (B 0 (S (s [m 6 5,m 7 0,n 8 7,o 9 .lss 6 8] (D 9 F (.exit 0))) (S (.block 1 (s [m 12 0,m 13 5,m 14 1,c 15 53 [.t 14],i 16 16 12 13,f 17 0 16,(.mk none none (.store 1 (.t 17) (.t 15)))]
 (s [m 18 1,q 19 .add 18 1,m 1 19] (s [m 20 0,m 21 5,m 22 1,c 23 53 [.t 22],i 24 16 20 21,f 25 1 24,(.mk none none (.store 1 (.t 25) (.t 23)))] (s [m 26 1,q 27 .add 26 1,m 1 27] (s [m 28 0,m 29 5,m 30 1,i 31 16 28 29,e 32 2 7 31,f 33 0 32,
 (.mk none none (.store 1 (.t 33) (.t 30)))] (s [m 34 1,q 35 .add 34 1,m 1 35] (s [m 36 0,m 37 5,m 38 1,i 39 16 36 37,e 40 2 7 39,f 41 1 40,(.mk none none (.store 1 (.t 41) (.t 38)))] (s [m 42 1,q 43 .add 42 1,m 1 43] (s [m 44 0,m 45 5,
 m 46 1,i 47 16 44 45,e 48 2 7 47,f 49 2 48,(.mk none none (.store 1 (.t 49) (.t 46)))] (s [m 50 1,q 51 .add 50 1,m 1 51] (s [m 52 0,m 53 5,m 54 1,i 55 16 52 53,e 56 2 7 55,f 57 3 56,(.mk none none (.store 1 (.t 57) (.t 54)))] (s [m 58 1,
 q 59 .add 58 1,m 1 59] (s [m 60 0,m 61 5,m 62 1,c 63 53 [.t 62],i 64 16 60 61,e 65 2 7 64,f 66 4 65,(.mk none none (.store 1 (.t 66) (.t 63)))] (s [m 67 1,q 68 .add 67 1,m 1 68] (s [m 69 0,m 70 5,m 71 1,c 72 53 [.t 71],i 73 16 69 70,
 e 74 2 7 73,f 75 5 74,(.mk none none (.store 1 (.t 75) (.t 72)))] (s [m 76 1,q 77 .add 76 1,m 1 77] (s [m 78 0,m 79 5,i 80 16 78 79,e 81 2 7 80,f 82 6 81,l 83 82,m 84 1,c 85 94 [.t 83,.t 84],m 1 85] (s [m 86 0,m 87 5,m 88 1,i 89 16 86 87,
 e 90 9 7 89,f 91 0 90,(.mk none none (.store 1 (.t 91) (.t 88)))] (s [m 92 1,q 93 .add 92 1,m 1 93] (s [m 94 0,m 95 5,m 96 1,i 97 16 94 95,e 98 9 7 97,f 99 1 98,(.mk none none (.store 1 (.t 99) (.t 96)))] (s [m 100 1,q 101 .add 100 1,
 m 1 101] (s [m 102 0,m 103 5,m 104 1,i 105 16 102 103,e 106 9 7 105,f 107 2 106,(.mk none none (.store 1 (.t 107) (.t 104)))] (s [m 108 1,q 109 .add 108 1,m 1 109] (s [m 110 0,m 111 5,m 112 1,i 113 16 110 111,e 114 9 7 113,f 115 3 114,
 (.mk none none (.store 1 (.t 115) (.t 112)))] (s [m 116 1,q 117 .add 116 1,m 1 117] (s [m 118 0,m 119 5,m 120 1,c 121 53 [.t 120],i 122 16 118 119,e 123 9 7 122,f 124 4 123,(.mk none none (.store 1 (.t 124) (.t 121)))] (s [m 125 1,
 q 126 .add 125 1,m 1 126] (s [m 127 0,m 128 5,m 129 1,c 130 53 [.t 129],i 131 16 127 128,e 132 9 7 131,f 133 5 132,(.mk none none (.store 1 (.t 133) (.t 130)))] (s [m 134 1,q 135 .add 134 1,m 1 135] (.reg [m 136 0,m 137 5,i 138 16 136 137,
 e 139 9 7 138,f 140 6 139,l 141 140,m 142 1,c 143 94 [.t 141,.t 142],m 1 143]))))))))))))))))))))))))))))))) (.reg [m 10 5,q 11 .add 10 1,m 5 11]))))) (s [m 144 1,m 4 144] R))),[.t 4]⟩
theorem i55:iF 55 g55:=jF Tryz.func55
def g56:GFun:=⟨⟨22,[]⟩,(s [k 4 0] (S (s [k 5 0] (B 0 (S (s [m 6 5,m 7 0,n 8 7,o 9 .lss 6 8] (D 9 F (.exit 0))) (S (.block 1 (S (s [m 12 0,m 13 5,i 14 1 12 13,m 16 1,l 15 14,G 17 53 [.t 16],o 18 .neq 15 17] (D 18 (s [k 4 (-1)] R) F))
 (.reg [m 19 1,q 20 .add 19 1,m 1 20]))) (.reg [m 10 5,q 11 .add 10 1,m 5 11]))))) (s [m 21 1,m 4 21] R))),[.t 4]⟩
theorem i56:iF 56 g56:=jF Tryz.func56
def g57:GFun:=⟨⟨106,[]⟩,(s [k 4 0] (S (s [k 5 0] (B 0 (S (s [m 6 5,m 7 0,n 8 7,o 9 .lss 6 8] (D 9 F (.exit 0))) (S (.block 1 (S (s [m 12 0,m 13 5,i 14 9 12 13,e 15 0 2 14,f 16 0 15,l 17 16,m 18 1,o 19 .neq 17 18] (D 19 (s [k 4
 (-1)] R) F)) (s [m 20 1,q 21 .add 20 1,m 1 21] (S (s [m 22 0,m 23 5,i 24 9 22 23,e 25 0 2 24,f 26 1 25,m 28 1,l 27 26,G 29 53 [.t 28],o 30 .neq 27 29] (D 30 (s [k 4 (-1)] R) F)) (s [m 31 1,q 32 .add 31 1,m 1 32] (S (s [m 33 0,m 34 5,
 i 35 9 33 34,e 36 2 7 35,f 37 0 36,l 38 37,m 39 1,o 40 .neq 38 39] (D 40 (s [k 4 (-1)] R) F)) (s [m 41 1,q 42 .add 41 1,m 1 42] (S (s [m 43 0,m 44 5,i 45 9 43 44,e 46 2 7 45,f 47 1 46,l 48 47,m 49 1,o 50 .neq 48 49] (D 50 (s [k 4
 (-1)] R) F)) (s [m 51 1,q 52 .add 51 1,m 1 52] (S (s [m 53 0,m 54 5,i 55 9 53 54,e 56 2 7 55,f 57 2 56,l 58 57,m 59 1,o 60 .neq 58 59] (D 60 (s [k 4 (-1)] R) F)) (s [m 61 1,q 62 .add 61 1,m 1 62] (S (s [m 63 0,m 64 5,i 65 9 63 64,
 e 66 2 7 65,f 67 3 66,l 68 67,m 69 1,o 70 .neq 68 69] (D 70 (s [k 4 (-1)] R) F)) (s [m 71 1,q 72 .add 71 1,m 1 72] (S (s [m 73 0,m 74 5,i 75 9 73 74,e 76 2 7 75,f 77 4 76,m 79 1,l 78 77,G 80 53 [.t 79],o 81 .neq 78 80] (D 81 (s [k 4
 (-1)] R) F)) (s [m 82 1,q 83 .add 82 1,m 1 83] (S (s [m 84 0,m 85 5,i 86 9 84 85,e 87 2 7 86,f 88 5 87,m 90 1,l 89 88,G 91 53 [.t 90],o 92 .neq 89 91] (D 92 (s [k 4 (-1)] R) F)) (s [m 93 1,q 94 .add 93 1,m 1 94] (s [m 95 0,m 96 5,
 i 97 9 95 96,e 98 2 7 97,f 99 6 98,l 100 99,m 101 1,c 102 95 [.t 100,.t 101],m 1 102] (s [m 103 1,q 104 .lss 103 0] (D 104 (s [k 4 (-1)] R) F)))))))))))))))))))) (.reg [m 10 5,q 11 .add 10 1,m 5 11]))))) (s [m 105 1,m 4 105] R))),[.t 4]⟩
theorem i57:iF 57 g57:=jF Tryz.func57
def g58:GFun:=⟨⟨177,[]⟩,(s [k 4 0] (S (s [k 5 0] (B 0 (S (s [m 6 5,m 7 0,n 8 7,o 9 .lss 6 8] (D 9 F (.exit 0))) (S (.block 1 (S (s [m 12 0,m 13 5,i 14 16 12 13,f 15 0 14,m 17 1,l 16 15,G 18 53 [.t 17],o 19 .neq 16 18] (D 19 (s [k 4
 (-1)] R) F)) (s [m 20 1,q 21 .add 20 1,m 1 21] (S (s [m 22 0,m 23 5,i 24 16 22 23,f 25 1 24,m 27 1,l 26 25,G 28 53 [.t 27],o 29 .neq 26 28] (D 29 (s [k 4 (-1)] R) F)) (s [m 30 1,q 31 .add 30 1,m 1 31] (S (s [m 32 0,m 33 5,i 34 16 32 33,
 e 35 2 7 34,f 36 0 35,l 37 36,m 38 1,o 39 .neq 37 38] (D 39 (s [k 4 (-1)] R) F)) (s [m 40 1,q 41 .add 40 1,m 1 41] (S (s [m 42 0,m 43 5,i 44 16 42 43,e 45 2 7 44,f 46 1 45,l 47 46,m 48 1,o 49 .neq 47 48] (D 49 (s [k 4 (-1)] R) F))
 (s [m 50 1,q 51 .add 50 1,m 1 51] (S (s [m 52 0,m 53 5,i 54 16 52 53,e 55 2 7 54,f 56 2 55,l 57 56,m 58 1,o 59 .neq 57 58] (D 59 (s [k 4 (-1)] R) F)) (s [m 60 1,q 61 .add 60 1,m 1 61] (S (s [m 62 0,m 63 5,i 64 16 62 63,e 65 2 7 64,
 f 66 3 65,l 67 66,m 68 1,o 69 .neq 67 68] (D 69 (s [k 4 (-1)] R) F)) (s [m 70 1,q 71 .add 70 1,m 1 71] (S (s [m 72 0,m 73 5,i 74 16 72 73,e 75 2 7 74,f 76 4 75,m 78 1,l 77 76,G 79 53 [.t 78],o 80 .neq 77 79] (D 80 (s [k 4 (-1)] R) F))
 (s [m 81 1,q 82 .add 81 1,m 1 82] (S (s [m 83 0,m 84 5,i 85 16 83 84,e 86 2 7 85,f 87 5 86,m 89 1,l 88 87,G 90 53 [.t 89],o 91 .neq 88 90] (D 91 (s [k 4 (-1)] R) F)) (s [m 92 1,q 93 .add 92 1,m 1 93] (s [m 94 0,m 95 5,i 96 16 94 95,
 e 97 2 7 96,f 98 6 97,l 99 98,m 100 1,c 101 95 [.t 99,.t 100],m 1 101] (S (s [m 102 1,q 103 .lss 102 0] (D 103 (s [k 4 (-1)] R) F)) (S (s [m 104 0,m 105 5,i 106 16 104 105,e 107 9 7 106,f 108 0 107,l 109 108,m 110 1,o 111 .neq 109 110]
 (D 111 (s [k 4 (-1)] R) F)) (s [m 112 1,q 113 .add 112 1,m 1 113] (S (s [m 114 0,m 115 5,i 116 16 114 115,e 117 9 7 116,f 118 1 117,l 119 118,m 120 1,o 121 .neq 119 120] (D 121 (s [k 4 (-1)] R) F)) (s [m 122 1,q 123 .add 122 1,m 1 123]
 (S (s [m 124 0,m 125 5,i 126 16 124 125,e 127 9 7 126,f 128 2 127,l 129 128,m 130 1,o 131 .neq 129 130] (D 131 (s [k 4 (-1)] R) F)) (s [m 132 1,q 133 .add 132 1,m 1 133] (S (s [m 134 0,m 135 5,i 136 16 134 135,e 137 9 7 136,f 138 3 137,
 l 139 138,m 140 1,o 141 .neq 139 140] (D 141 (s [k 4 (-1)] R) F)) (s [m 142 1,q 143 .add 142 1,m 1 143] (S (s [m 144 0,m 145 5,i 146 16 144 145,e 147 9 7 146,f 148 4 147,m 150 1,l 149 148,G 151 53 [.t 150],o 152 .neq 149 151] (D 152
 (s [k 4 (-1)] R) F)) (s [m 153 1,q 154 .add 153 1,m 1 154] (S (s [m 155 0,m 156 5,i 157 16 155 156,e 158 9 7 157,f 159 5 158,m 161 1,l 160 159,G 162 53 [.t 161],o 163 .neq 160 162] (D 163 (s [k 4 (-1)] R) F)) (s [m 164 1,q 165 .add 164 1,
 m 1 165] (s [m 166 0,m 167 5,i 168 16 166 167,e 169 9 7 168,f 170 6 169,l 171 170,m 172 1,c 173 95 [.t 171,.t 172],m 1 173] (s [m 174 1,q 175 .lss 174 0] (D 175 (s [k 4 (-1)] R) F)))))))))))))))))))))))))))))))))) (.reg [m 10 5,
 q 11 .add 10 1,m 5 11]))))) (s [m 176 1,m 4 176] R))),[.t 4]⟩
theorem i58:iF 58 g58:=jF Tryz.func58
def g62:GFun:=⟨⟨60,[]⟩,(s [x 4 (.mov (.k (.val (.string (ByteArray.mk #[])))))] (S (.block 0 (s [m 8 0,m 9 1,c 10 100 [.t 8,.t 9],w 11 10,m 7 11] (D 7 (s [x 4 (.mov (.k (.val (.string (ByteArray.mk #[])))))] R) (s [m 13 1,
 q 14 .eql 13 1,m 12 14] (D 12 (s [m 15 0,c 16 24 [.t 15],m 4 16] R) (s [m 18 1,q 19 .eql 18 3,m 20 19,M 21 20 0,I 22 20 21 1,A 23 20 22,m 17 23] (D 17 (s [x 4 (.mov (.k (.val (.string (ByteArray.mk #[116,114,117,101])))))] R) (s [m 25 1,
 q 26 .eql 25 3,m 24 26] (D 24 (s [x 4 (.mov (.k (.val (.string (ByteArray.mk #[102,97,108,115,101])))))] R) (s [m 28 1,q 29 .eql 28 4,m 30 29,M 31 30 0,I 32 30 31 0,A 33 30 32,m 27 33] (D 27 (s [x 4 (.mov (.k (.val (.string
 (ByteArray.mk #[110,111,110,101])))))] R) (s [m 35 1,q 36 .eql 35 4,m 34 36] (D 34 (s [m 37 0,c 38 24 [.t 37],x 39 (.bin .add (.k (.val (.string (ByteArray.mk #[35])))) (.t 38)),m 4 39] R) F))))))))))))) (s [E 40 1 false,m 5 40] (S
 (s [k 41 0] (B 1 (s [q 42 .lss 41 12] (C 42 1 (S (.block 2 (s [m 43 41,m 6 43] (s [m 44 0,m 45 6,x 46 (.conv .u64 (.t 45)),o 47 .shr 44 46,q 48 .and 47 1,q 49 .eql 48 1] (D 49 (.reg [m 50 5,m 51 6,c 52 24 [.t 51],x 53
 (.bslice 1 [] 1 false [(0,(.t 52))]),Q 54 1 16 50 53,m 5 54]) F)))) (.reg [q 55 .add 41 1,m 41 55])))))) (s [m 56 5,x 57 (.call false 101 [.t 56,(.k (.val (.string (ByteArray.mk #[32]))))]),x 58 (.bin .add (.k (.val (.string
 (ByteArray.mk #[123])))) (.t 57)),x 59 (.bin .add (.t 58) (.k (.val (.string (ByteArray.mk #[125]))))),m 4 59] R))))),[.t 4]⟩
theorem i62:iF 62 g62:=jF Tryz.func62
def g63:GFun:=⟨⟨15,[2]⟩,(s [a 2 7 0,x 4 (.mov (.k (.val (.string (ByteArray.mk #[])))))] (S (s [h 5 7 2,c 6 102 [.t 5],m 7 1,o 8 .lss 6 7] (D 8 (s [h 9 7 2,c 10 25 [.t 9],x 11 (.bin .add (.k (.val (.string (ByteArray.mk #[40]))))
 (.t 10)),x 12 (.bin .add (.t 11) (.k (.val (.string (ByteArray.mk #[41]))))),m 4 12] R) F)) (s [h 13 7 2,c 14 25 [.t 13],m 4 14] R))),[.t 4]⟩
theorem i63:iF 63 g63:=jF Tryz.func63
def g64:GFun:=⟨⟨59,[1,3,4]⟩,(s [a 1 7 0,x 2 (.mov (.k (.val (.string (ByteArray.mk #[])))))] (s [f 6 6 1,f 10 6 1,u 3 7,u 4 7,l 7 6,x 8 (.iaddr 7 (.t 7) (K 0)),h 9 7 8,t 3 7 9,l 11 10,x 12 (.iaddr 7 (.t 11) (K 1)),h 13 7 12,t 4 7 13]
 (s [f 14 1 1,l 15 14,c 16 103 [.t 15],m 5 16] (s [m 17 5] (.block 0 (s [q 33 .eql 17 1,m 32 33] (D 32 (s [f 37 1 1,h 34 7 3,G 35 63 [.t 34,K 2],x 36 (.bin .add (.t 35) (.k (.val (.string (ByteArray.mk #[32]))))),l 38 37,G 39 104 [.t 38],
 o 40 .add 36 39,x 41 (.bin .add (.t 40) (.k (.val (.string (ByteArray.mk #[32]))))),h 42 7 4,G 43 63 [.t 42,K 2],o 44 .add 41 43,m 2 44] R) (s [q 46 .eql 17 4,m 45 46] (D 45 (s [f 47 1 1,l 48 47,G 49 104 [.t 48],x 50 (.bin .add (.t 49)
 (.k (.val (.string (ByteArray.mk #[40]))))),h 51 7 3,G 52 25 [.t 51],o 53 .add 50 52,x 54 (.bin .add (.t 53) (.k (.val (.string (ByteArray.mk #[44,32]))))),h 55 7 4,G 56 25 [.t 55],o 57 .add 54 56,x 58 (.bin .add (.t 57) (.k (.val
 (.string (ByteArray.mk #[41]))))),m 2 58] R) (s [m 19 5,f 22 1 1,m 28 5,q 29 .add 28 1,h 18 7 3,G 20 63 [.t 18,.t 19],x 21 (.bin .add (.t 20) (.k (.val (.string (ByteArray.mk #[32]))))),l 23 22,G 24 104 [.t 23],o 25 .add 21 24,x 26
 (.bin .add (.t 25) (.k (.val (.string (ByteArray.mk #[32]))))),h 27 7 4,G 30 63 [.t 27,.t 29],o 31 .add 26 30,m 2 31] R)))))))))),[.t 2]⟩
theorem i64:iF 64 g64:=jF Tryz.func64
def g66:GFun:=⟨⟨18,[]⟩,(s [b 4 false] (s [m 5 0,x 6 (.slen (.t 5)),m 7 1,x 8 (.slen (.t 7)),o 9 .geq 6 8,m 10 9,M 11 10 0,M 12 10 1,y 13 10 (.slen (.t 12)),y 14 10 (.sslc (.t 11) none (some (.t 13))),M 15 10 1,y 16 10 (.bin .eql
 (.t 14) (.t 15)),A 17 10 16,m 4 17] R)),[.t 4]⟩
theorem i66:iF 66 g66:=jF Tryz.func66
def g69:GFun:=⟨⟨77,[2,7]⟩,(s [u 2 7,k 3 0] (s [m 9 0,c 10 110 [.t 9],m 8 10,v 11 8 0,v 12 8 1,m 4 11,m 5 12] (S (s [m 13 5,q 14 .geq 13 0] (D 14 (s [x 15 (.build [(.val (.int .i64 0)),(.val (.int .i64 0)),(.val (.int .i64 0)),(.val
 (.int .i64 0)),(.val (.string (ByteArray.mk #[]))),(.val (.string (ByteArray.mk #[]))),(.val (.slice none 0 0))] []),m 16 5,t 2 7 15,m 3 16] R) F)) (s [m 17 4,x 18 (.build [(.val (.slice none 0 0)),(.val (.int .i64 0)),(.val
 (.bool false))] [(0,(1,(.t 17)))]),x 19 (.box 3 (.t 18)),m 6 19] (s [m 20 6,c 21 111 [.t 20],u 7 7,t 7 7 21] (S (.block 0 (s [m 23 6,x 24 (.nck (.t 23)),f 25 2 24,l 26 25,m 27 26,N 28 27 6,z 29 27 (.nck (.t 28)),z 30 27 (p 1 1 29),
 z 31 27 (r 1 30),N 32 27 4,z 33 27 (.len (.t 32)),z 34 27 (.bin .lss (.t 31) (.t 33)),O 35 27 34,m 36 35,M 37 36 6,y 38 36 (.nck (.t 37)),y 39 36 (p 1 1 38),y 40 36 (r 1 39),M 41 36 4,y 42 36 (.len (.t 41)),y 43 36 (.bin .eql (.t 40)
 (.t 42)),A 44 36 43,m 22 44] (D 22 (s [x 45 (.build [(.val (.int .i64 0)),(.val (.int .i64 0)),(.val (.int .i64 0)),(.val (.int .i64 0)),(.val (.string (ByteArray.mk #[]))),(.val (.string (ByteArray.mk #[]))),(.val (.slice none 0 0))] []),
 m 46 0,x 47 (.slen (.t 46)),t 2 7 45,m 3 47] R) (s [m 49 6,x 50 (.nck (.t 49)),f 51 2 50,l 52 51,m 53 52,N 54 53 6,z 55 53 (.nck (.t 54)),z 56 53 (p 1 1 55),z 57 53 (r 1 56),N 58 53 4,z 59 53 (.len (.t 58)),z 60 53 (.bin .lss (.t 57)
 (.t 59)),O 61 53 60,m 48 61] (D 48 (s [x 62 (.build [(.val (.int .i64 0)),(.val (.int .i64 0)),(.val (.int .i64 0)),(.val (.int .i64 0)),(.val (.string (ByteArray.mk #[]))),(.val (.string (ByteArray.mk #[]))),(.val (.slice none 0 0))] []),
 m 63 4,m 64 6,x 65 (.nck (.t 64)),f 66 1 65,t 2 7 62,l 67 66,i 68 4 63 67,f 69 2 68,l 70 69,m 3 70] R) (s [h 72 7 7,c 73 85 [.t 72],w 74 73,m 71 74] (D 71 (s [x 75 (.build [(.val (.int .i64 0)),(.val (.int .i64 0)),(.val (.int .i64 0)),
 (.val (.int .i64 0)),(.val (.string (ByteArray.mk #[]))),(.val (.string (ByteArray.mk #[]))),(.val (.slice none 0 0))] []),t 2 7 75,k 3 0] R) F))))))) (s [h 76 7 7,t 2 7 76,k 3 (-1)] R))))))),[(.c 2 7 true),.t 3]⟩
theorem i69:iF 69 g69:=jF Tryz.func69
def g70:GFun:=⟨⟨8,[]⟩,(s [k 2 0,b 3 false] (s [m 4 0,c 5 112 [.t 4,K 0,K 999999],v 6 5 0,v 7 5 1,m 2 6,m 3 7] R)),[.t 2,.t 3]⟩
theorem i70:iF 70 g70:=jF Tryz.func70
def g71:GFun:=⟨⟨15,[]⟩,(s [b 2 false] (s [m 3 0,c 4 113 [.t 3],m 5 4,M 6 5 0,y 7 5 (.slen (.t 6)),y 8 5 (.bin .leq (.t 7) (K 8)),A 9 5 8,m 10 9,M 11 10 0,y 12 10 (.call false 114 [.t 11]),y 13 10 (.not (.t 12)),A 14 10 13,m 2 14] R)),
 [.t 2]⟩
theorem i71:iF 71 g71:=jF Tryz.func71
def g72:GFun:=⟨⟨15,[]⟩,(s [b 6 false] (s [m 7 0,m 8 1,o 9 .geq 7 8,m 10 9,M 11 10 0,M 12 10 2,y 13 10 (.bin .leq (.t 11) (.t 12)),A 14 10 13,m 6 14] R)),[.t 6]⟩
theorem i72:iF 72 g72:=jF Tryz.func72
def g73:GFun:=⟨⟨12,[2]⟩,(s [a 2 7 0,b 4 false] (s [h 5 7 2,c 6 74 [.t 5],m 7 6,y 8 7 (j 7 2),M 9 7 1,y 10 7 (.call false 115 [.t 8,.t 9]),A 11 7 10,m 4 11] R)),[.t 4]⟩
theorem i73:iF 73 g73:=jF Tryz.func73
def g74:GFun:=⟨⟨15,[1]⟩,(s [a 1 7 0,b 2 false] (s [h 3 7 1,c 4 116 [.t 3,K 24],q 5 .geq 4 0,m 6 5,y 7 6 (j 7 1),y 8 6 (.call false 117 [.t 7]),y 9 6 (.bin .leq (.t 8) (K 6)),A 10 6 9,m 11 10,y 12 11 (j 7 1),y 13 11
 (.call false 118 [.t 12]),A 14 11 13,m 2 14] R)),[.t 2]⟩
theorem i74:iF 74 g74:=jF Tryz.func74
def g75:GFun:=⟨⟨72,[1]⟩,(s [a 1 7 0,x 2 (.mov (.k (.val (.string (ByteArray.mk #[])))))] (S (s [f 3 0 1,l 4 3] (.block 0 (s [q 6 .eql 4 1,m 5 6] (D 5 (s [f 7 1 1,l 8 7,f 9 3 1,l 10 9,c 11 119 [.t 8,.t 10],m 2 11] R) (s [q 13 .eql 4 2,
 m 12 13] (D 12 (s [x 2 (.mov (.k (.val (.string (ByteArray.mk #[108,105,116])))))] R) (s [q 15 .eql 4 3,m 14 15] (D 14 (s [f 16 2 1,f 21 5 1,l 17 16,G 18 33 [.t 17],x 19 (.bin .add (.k (.val (.string (ByteArray.mk #[36])))) (.t 18)),x 20
 (.bin .add (.t 19) (.k (.val (.string (ByteArray.mk #[46]))))),l 22 21,o 23 .add 20 22,m 2 23] R) (s [q 25 .eql 4 5,m 24 25] (D 24 (s [f 26 6 1,f 33 6 1,f 40 6 1,l 27 26,x 28 (.iaddr 7 (.t 27) (K 0)),h 29 7 28,G 30 75 [.t 29],x 31
 (.bin .add (.k (.val (.string (ByteArray.mk #[105,102,32])))) (.t 30)),x 32 (.bin .add (.t 31) (.k (.val (.string (ByteArray.mk #[32,116,104,101,110,32]))))),l 34 33,x 35 (.iaddr 7 (.t 34) (K 1)),h 36 7 35,G 37 75 [.t 36],o 38 .add 32 37,
 x 39 (.bin .add (.t 38) (.k (.val (.string (ByteArray.mk #[32,101,108,115,101,32]))))),l 41 40,x 42 (.iaddr 7 (.t 41) (K 2)),h 43 7 42,G 44 75 [.t 43],o 45 .add 39 44,m 2 45] R) (s [q 47 .eql 4 6,m 46 47] (D 46 (s [f 48 2 1,l 49 48,
 c 50 33 [.t 49],x 51 (.bin .add (.k (.val (.string (ByteArray.mk #[115,101,108,102,40])))) (.t 50)),x 52 (.bin .add (.t 51) (.k (.val (.string (ByteArray.mk #[41]))))),m 2 52] R) (s [q 54 .eql 4 7,m 53 54] (D 53 (s [x 2 (.mov (.k (.val
 (.string (ByteArray.mk #[110,111,110,101])))))] R) (s [q 56 .eql 4 8,m 55 56] (D 55 (s [f 57 4 1,f 60 5 1,f 64 6 1,l 58 57,x 59 (.bin .add (.t 58) (.k (.val (.string (ByteArray.mk #[46]))))),l 61 60,o 62 .add 59 61,x 63 (.bin .add
 (.t 62) (.k (.val (.string (ByteArray.mk #[32,111,102,32]))))),l 65 64,x 66 (.iaddr 7 (.t 65) (K 0)),h 67 7 66,G 68 120 [.t 67,K 4],o 69 .add 63 68,m 2 69] R) F)))))))))))))))) (s [h 70 7 1,c 71 121 [.t 70],m 2 71] R))),[.t 2]⟩
theorem i75:iF 75 g75:=jF Tryz.func75
def g76:GFun:=⟨⟨36,[]⟩,(s [Z 4] (s [E 8 1 false,m 5 8] (s [k 6 0] (S (s [k 7 0] (B 0 (S (s [m 9 7,m 10 0,x 11 (.slen (.t 10)),o 12 .leq 9 11] (D 12 F (.exit 0))) (S (.block 1 (s [m 15 7,m 16 0,x 17 (.slen (.t 16)),o 18 .eql 15 17,
 m 19 18,N 20 19 0,N 21 19 7,z 22 19 (.idx (.t 20) (.t 21)),N 23 19 1,z 24 19 (.bin .eql (.t 22) (.t 23)),O 25 19 24] (D 25 (s [m 26 5,m 27 0,m 28 6,m 29 7,x 30 (.sslc (.t 27) (some (.t 28)) (some (.t 29))),x 31 (.bslice 1 [] 1 false [(0,
 (.t 30))]),Q 32 1 16 26 31,m 5 32] (.reg [m 33 7,q 34 .add 33 1,m 6 34])) F))) (.reg [m 13 7,q 14 .add 13 1,m 7 14]))))) (s [m 35 5,m 4 35] R))))),[.t 4]⟩
theorem i76:iF 76 g76:=jF Tryz.func76
def g77:GFun:=⟨⟨26,[]⟩,(s [x 2 (.mov (.k (.val (.string (ByteArray.mk #[]))))),x 3 (.mov (.k (.val (.string (ByteArray.mk #[])))))] (S (s [k 4 0] (B 0 (S (s [m 5 4,q 6 .add 5 4,m 7 0,x 8 (.slen (.t 7)),o 9 .leq 6 8] (D 9 F (.exit 0)))
 (S (.block 1 (s [m 12 0,m 13 4,m 14 4,q 15 .add 14 4,x 16 (.sslc (.t 12) (some (.t 13)) (some (.t 15))),x 17 (.bin .eql (.t 16) (.k (.val (.string (ByteArray.mk #[32,58,61,32])))))] (D 17 (s [m 18 0,m 19 4,x 20 (.sslc (.t 18) none (some
 (.t 19))),m 21 0,m 22 4,q 23 .add 22 4,x 24 (.sslc (.t 21) (some (.t 23)) none),m 2 20,m 3 24] R) F))) (.reg [m 10 4,q 11 .add 10 1,m 4 11]))))) (s [m 25 0,m 2 25,x 3 (.mov (.k (.val (.string (ByteArray.mk #[])))))] R))),[.t 2,.t 3]⟩
theorem i77:iF 77 g77:=jF Tryz.func77
def g78:GFun:=⟨⟨55,[2,7]⟩,(s [u 2 7,k 3 0] (s [m 9 0,c 10 122 [.t 9],m 8 10,v 11 8 0,v 12 8 1,m 4 11,m 5 12] (S (s [m 13 5,q 14 .geq 13 0] (D 14 (s [x 15 (.build [(.val (.int .i64 0)),(.val (.int .i64 0)),(.val (.int .i64 0)),(.val
 (.int .i64 0)),(.val (.string (ByteArray.mk #[]))),(.val (.string (ByteArray.mk #[]))),(.val (.slice none 0 0))] []),m 16 5,t 2 7 15,m 3 16] R) F)) (s [m 17 4,m 18 0,x 19 (.slen (.t 18)),x 20 (.build [(.val (.slice none 0 0)),(.val
 (.int .i64 0)),(.val (.int .i64 0)),(.val (.int .i64 0))] [(0,(1,(.t 17))),(2,(1,(.t 19))),(3,(1,(K (-1))))]),x 21 (.box 4 (.t 20)),m 6 21] (s [m 22 6,c 23 123 [.t 22],u 7 7,t 7 7 23] (S (s [m 24 6,x 25 (.nck (.t 24)),f 26 3 25,l 27 26,
 q 28 .lss 27 0,m 29 28,M 30 29 6,y 31 29 (.nck (.t 30)),y 32 29 (p 1 1 31),y 33 29 (r 1 32),M 34 29 4,y 35 29 (.len (.t 34)),y 36 29 (.bin .lss (.t 33) (.t 35)),A 37 29 36] (D 37 (.reg [m 38 6,c 39 124 [.t 38]]) F)) (S (s [m 40 6,x 41
 (.nck (.t 40)),f 42 3 41,l 43 42,q 44 .geq 43 0] (D 44 (s [x 45 (.build [(.val (.int .i64 0)),(.val (.int .i64 0)),(.val (.int .i64 0)),(.val (.int .i64 0)),(.val (.string (ByteArray.mk #[]))),(.val (.string (ByteArray.mk #[]))),(.val
 (.slice none 0 0))] []),m 46 6,x 47 (.nck (.t 46)),f 48 3 47,t 2 7 45,l 49 48,m 3 49] R) F)) (S (s [h 50 7 7,c 51 74 [.t 50],w 52 51] (D 52 (s [x 53 (.build [(.val (.int .i64 0)),(.val (.int .i64 0)),(.val (.int .i64 0)),(.val
 (.int .i64 0)),(.val (.string (ByteArray.mk #[]))),(.val (.string (ByteArray.mk #[]))),(.val (.slice none 0 0))] []),t 2 7 53,k 3 0] R) F)) (s [h 54 7 7,t 2 7 54,k 3 (-1)] R))))))))),[(.c 2 7 true),.t 3]⟩
theorem i78:iF 78 g78:=jF Tryz.func78
def g79:GFun:=⟨⟨27,[]⟩,(s [x 4 (.mov (.k (.val (.string (ByteArray.mk #[])))))] (s [E 7 1 false,m 5 7] (S (s [k 6 0] (B 0 (S (s [m 8 6,m 9 0,n 10 9,o 11 .lss 8 10] (D 11 F (.exit 0))) (S (.block 1 (S (s [m 14 6,q 15 .gtr 14 0] (D 15
 (.reg [m 16 5,m 17 1,Q 18 1 1 16 17,m 5 18]) F)) (.reg [m 19 5,m 20 0,m 21 6,i 22 1 20 21,l 23 22,Q 24 1 1 19 23,m 5 24]))) (.reg [m 12 6,q 13 .add 12 1,m 6 13]))))) (s [m 25 5,x 26 (.b2s (.t 25)),m 4 26] R)))),[.t 4]⟩
theorem i79:iF 79 g79:=jF Tryz.func79
def g80:GFun:=⟨⟨45,[2,3]⟩,(s [a 2 7 0,a 3 7 1,b 4 false] (s [f 5 0 2,l 6 5,f 7 0 3,l 8 7,o 9 .eql 6 8,m 10 9,y 11 10 (p 1 1 2),y 12 10 (r 1 11),y 13 10 (p 1 1 3),y 14 10 (r 1 13),y 15 10 (.bin .eql (.t 12) (.t 14)),A 16 10 15,m 17 16,
 y 18 17 (p 1 2 2),y 19 17 (r 1 18),y 20 17 (p 1 2 3),y 21 17 (r 1 20),y 22 17 (.bin .eql (.t 19) (.t 21)),A 23 17 22,m 24 23,y 25 24 (p 1 3 2),y 26 24 (r 1 25),y 27 24 (p 1 3 3),y 28 24 (r 1 27),y 29 24 (.bin .eql (.t 26) (.t 28)),
 A 30 24 29,m 31 30,y 32 31 (p 1 4 2),y 33 31 (r 1 32),y 34 31 (p 1 4 3),y 35 31 (r 1 34),y 36 31 (.bin .eql (.t 33) (.t 35)),A 37 31 36,m 38 37,y 39 38 (p 1 5 2),y 40 38 (r 1 39),y 41 38 (p 1 5 3),y 42 38 (r 1 41),y 43 38 (.bin .eql
 (.t 40) (.t 42)),A 44 38 43,m 4 44] R)),[.t 4]⟩
theorem i80:iF 80 g80:=jF Tryz.func80
def g82:GFun:=⟨⟨9,[]⟩,(s [b 2 false] (s [m 3 0,x 4 (.bin .geq (.t 3) (.k (.val (.int .u8 97)))),m 5 4,M 6 5 0,y 7 5 (.bin .leq (.t 6) (.k (.val (.int .u8 122)))),A 8 5 7,m 2 8] R)),[.t 2]⟩
theorem i82:iF 82 g82:=jF Tryz.func82
def g83:GFun:=⟨⟨9,[]⟩,(s [b 2 false] (s [m 3 0,x 4 (.bin .geq (.t 3) (.k (.val (.int .u8 48)))),m 5 4,M 6 5 0,y 7 5 (.bin .leq (.t 6) (.k (.val (.int .u8 57)))),A 8 5 7,m 2 8] R)),[.t 2]⟩
theorem i83:iF 83 g83:=jF Tryz.func83
def g84:GFun:=⟨⟨18,[]⟩,(s [b 2 false] (S (s [m 3 0] (.block 0 (S (s [x 5 (.bin .eql (.t 3) (.k (.val (.string (ByteArray.mk #[105,102]))))),m 4 5] (D 4 F (s [x 6 (.bin .eql (.t 3) (.k (.val (.string (ByteArray.mk #[116,104,101,
 110]))))),m 4 6] (D 4 F (s [x 7 (.bin .eql (.t 3) (.k (.val (.string (ByteArray.mk #[101,108,115,101]))))),m 4 7] (D 4 F (s [x 8 (.bin .eql (.t 3) (.k (.val (.string (ByteArray.mk #[116,114,117,101]))))),m 4 8] (D 4 F (s [x 9 (.bin .eql
 (.t 3) (.k (.val (.string (ByteArray.mk #[102,97,108,115,101]))))),m 4 9] (D 4 F (s [x 10 (.bin .eql (.t 3) (.k (.val (.string (ByteArray.mk #[108,105,116]))))),m 4 10] (D 4 F (s [x 11 (.bin .eql (.t 3) (.k (.val (.string
 (ByteArray.mk #[110,111,110,101]))))),m 4 11] (D 4 F (s [x 12 (.bin .eql (.t 3) (.k (.val (.string (ByteArray.mk #[115,101,108,102]))))),m 4 12] (D 4 F (s [x 13 (.bin .eql (.t 3) (.k (.val (.string (ByteArray.mk #[111,102]))))),m 4 13]
 (D 4 F (s [x 14 (.bin .eql (.t 3) (.k (.val (.string (ByteArray.mk #[109,97,120]))))),m 4 14] (D 4 F (s [x 15 (.bin .eql (.t 3) (.k (.val (.string (ByteArray.mk #[109,105,110]))))),m 4 15] (D 4 F (s [x 16 (.bin .eql (.t 3) (.k (.val
 (.string (ByteArray.mk #[119,105,116,104]))))),m 4 16] (D 4 F (.reg [x 17 (.bin .eql (.t 3) (.k (.val (.string (ByteArray.mk #[104,97,115]))))),m 4 17]))))))))))))))))))))))))) (D 4 (s [b 2 true] R) F)))) (s [b 2 false] R))),[.t 2]⟩
theorem i84:iF 84 g84:=jF Tryz.func84
def g85:GFun:=⟨⟨15,[1]⟩,(s [a 1 7 0,b 2 false] (s [h 3 7 1,c 4 125 [.t 3],q 5 .leq 4 24,m 6 5,y 7 6 (j 7 1),y 8 6 (.call false 126 [.t 7]),y 9 6 (.bin .leq (.t 8) (K 6)),A 10 6 9,m 11 10,y 12 11 (j 7 1),y 13 11 (.call false 86 [.t 12,
 (.k (.clo 127 []))]),A 14 11 13,m 2 14] R)),[.t 2]⟩
theorem i85:iF 85 g85:=jF Tryz.func85
def g86:GFun:=⟨⟨15,[2,3]⟩,(s [a 2 7 0,a 3 1 1,b 4 false] (s [l 5 3,h 6 7 2,x 7 (.callv false (.t 5) [.t 6]),m 8 7,y 9 8 (p 1 6 2),y 10 8 (r 1 9),y 11 8 (.mkfn 129 [.t 3]),y 12 8 (.call false 128 [.t 10,.t 11]),y 13 8 (.not (.t 12)),
 A 14 8 13,m 4 14] R)),[.t 4]⟩
theorem i86:iF 86 g86:=jF Tryz.func86
def g87:GFun:=⟨⟨8,[2]⟩,(s [a 2 7 0,b 3 false] (s [f 4 2 2,l 5 4,l 6 1,o 7 .leq 5 6,m 3 7] R)),[.t 3]⟩
theorem i87:iF 87 g87:=jF Tryz.func87
def g90:GFun:=⟨⟨8,[4]⟩,(s [u 4 7] (s [m 5 0,m 6 1,x 7 (.build [(.val (.int .i64 0)),(.val (.int .i64 0)),(.val (.int .i64 0)),(.val (.int .i64 0)),(.val (.string (ByteArray.mk #[]))),(.val (.string (ByteArray.mk #[]))),(.val
 (.slice none 0 0))] [(0,(1,(K 1))),(1,(1,(.t 5))),(3,(1,(.t 6)))]),t 4 7 7] R)),[(.c 4 7 true)]⟩
theorem i90:iF 90 g90:=jF Tryz.func90
def g92:GFun:=⟨⟨17,[2,3]⟩,(s [a 2 9 0,a 3 9 1,b 4 false] (S (s [e 5 0 2 2,h 6 2 5,e 7 0 2 3,h 8 2 7,c 9 131 [.t 6,.t 8],w 10 9] (D 10 (s [b 4 false] R) F)) (S (s [e 11 2 7 2,h 12 7 11,e 13 2 7 3,h 14 7 13,c 15 132 [.t 12,.t 14],
 w 16 15] (D 16 (s [b 4 false] R) F)) (s [b 4 true] R)))),[.t 4]⟩
theorem i92:iF 92 g92:=jF Tryz.func92
def g93:GFun:=⟨⟨27,[2,3]⟩,(s [a 2 16 0,a 3 16 1,b 4 false] (S (s [f 5 0 2,l 6 5,f 7 0 3,l 8 7,o 9 .neq 6 8] (D 9 (s [b 4 false] R) F)) (S (s [f 10 1 2,l 11 10,f 12 1 3,l 13 12,o 14 .neq 11 13] (D 14 (s [b 4 false] R) F)) (S
 (s [e 15 2 7 2,h 16 7 15,e 17 2 7 3,h 18 7 17,c 19 132 [.t 16,.t 18],w 20 19] (D 20 (s [b 4 false] R) F)) (S (s [e 21 9 7 2,h 22 7 21,e 23 9 7 3,h 24 7 23,c 25 132 [.t 22,.t 24],w 26 25] (D 26 (s [b 4 false] R) F)) (s [b 4 true] R)))))),
 [.t 4]⟩
theorem i93:iF 93 g93:=jF Tryz.func93
def g94:GFun:=⟨⟨64,[]⟩,(s [k 4 0] (S (s [k 5 0] (B 0 (S (s [m 6 5,m 7 0,n 8 7,o 9 .lss 6 8] (D 9 F (.exit 0))) (S (.block 1 (s [m 12 0,m 13 5,m 14 1,i 15 7 12 13,f 16 0 15,(.mk none none (.store 1 (.t 16) (.t 14)))] (s [m 17 1,
 q 18 .add 17 1,m 1 18] (s [m 19 0,m 20 5,m 21 1,i 22 7 19 20,f 23 1 22,(.mk none none (.store 1 (.t 23) (.t 21)))] (s [m 24 1,q 25 .add 24 1,m 1 25] (s [m 26 0,m 27 5,m 28 1,i 29 7 26 27,f 30 2 29,(.mk none none (.store 1 (.t 30)
 (.t 28)))] (s [m 31 1,q 32 .add 31 1,m 1 32] (s [m 33 0,m 34 5,m 35 1,i 36 7 33 34,f 37 3 36,(.mk none none (.store 1 (.t 37) (.t 35)))] (s [m 38 1,q 39 .add 38 1,m 1 39] (s [m 40 0,m 41 5,m 42 1,c 43 53 [.t 42],i 44 7 40 41,f 45 4 44,
 (.mk none none (.store 1 (.t 45) (.t 43)))] (s [m 46 1,q 47 .add 46 1,m 1 47] (s [m 48 0,m 49 5,m 50 1,c 51 53 [.t 50],i 52 7 48 49,f 53 5 52,(.mk none none (.store 1 (.t 53) (.t 51)))] (s [m 54 1,q 55 .add 54 1,m 1 55] (.reg [m 56 0,
 m 57 5,i 58 7 56 57,f 59 6 58,l 60 59,m 61 1,c 62 94 [.t 60,.t 61],m 1 62])))))))))))))) (.reg [m 10 5,q 11 .add 10 1,m 5 11]))))) (s [m 63 1,m 4 63] R))),[.t 4]⟩
theorem i94:iF 94 g94:=jF Tryz.func94
def g95:GFun:=⟨⟨78,[]⟩,(s [k 4 0] (S (s [k 5 0] (B 0 (S (s [m 6 5,m 7 0,n 8 7,o 9 .lss 6 8] (D 9 F (.exit 0))) (S (.block 1 (S (s [m 12 0,m 13 5,i 14 7 12 13,f 15 0 14,l 16 15,m 17 1,o 18 .neq 16 17] (D 18 (s [k 4 (-1)] R) F))
 (s [m 19 1,q 20 .add 19 1,m 1 20] (S (s [m 21 0,m 22 5,i 23 7 21 22,f 24 1 23,l 25 24,m 26 1,o 27 .neq 25 26] (D 27 (s [k 4 (-1)] R) F)) (s [m 28 1,q 29 .add 28 1,m 1 29] (S (s [m 30 0,m 31 5,i 32 7 30 31,f 33 2 32,l 34 33,m 35 1,
 o 36 .neq 34 35] (D 36 (s [k 4 (-1)] R) F)) (s [m 37 1,q 38 .add 37 1,m 1 38] (S (s [m 39 0,m 40 5,i 41 7 39 40,f 42 3 41,l 43 42,m 44 1,o 45 .neq 43 44] (D 45 (s [k 4 (-1)] R) F)) (s [m 46 1,q 47 .add 46 1,m 1 47] (S (s [m 48 0,m 49 5,
 i 50 7 48 49,f 51 4 50,m 53 1,l 52 51,G 54 53 [.t 53],o 55 .neq 52 54] (D 55 (s [k 4 (-1)] R) F)) (s [m 56 1,q 57 .add 56 1,m 1 57] (S (s [m 58 0,m 59 5,i 60 7 58 59,f 61 5 60,m 63 1,l 62 61,G 64 53 [.t 63],o 65 .neq 62 64] (D 65 (s [k 4
 (-1)] R) F)) (s [m 66 1,q 67 .add 66 1,m 1 67] (s [m 68 0,m 69 5,i 70 7 68 69,f 71 6 70,l 72 71,m 73 1,c 74 95 [.t 72,.t 73],m 1 74] (s [m 75 1,q 76 .lss 75 0] (D 76 (s [k 4 (-1)] R) F)))))))))))))))) (.reg [m 10 5,q 11 .add 10 1,
 m 5 11]))))) (s [m 77 1,m 4 77] R))),[.t 4]⟩
theorem i95:iF 95 g95:=jF Tryz.func95
def g98:GFun:=⟨⟨12,[4,5,6]⟩,(s [a 4 7 1,a 5 7 2,u 6 7] (s [m 7 0,h 8 7 4,h 9 7 5,x 10 (.bslice 7 [] 2 true [(0,(.t 8)),(1,(.t 9))]),x 11 (.build [(.val (.int .i64 0)),(.val (.int .i64 0)),(.val (.int .i64 0)),(.val (.int .i64 0)),
 (.val (.string (ByteArray.mk #[]))),(.val (.string (ByteArray.mk #[]))),(.val (.slice none 0 0))] [(0,(1,(K 4))),(1,(1,(.t 7))),(6,(1,(.t 10)))]),t 6 7 11] R)),[(.c 6 7 true)]⟩
theorem i98:iF 98 g98:=jF Tryz.func98
def g100:GFun:=⟨⟨14,[]⟩,(s [b 4 false] (s [m 5 1,c 6 134 [.t 5],m 7 6,M 8 7 0,M 9 7 1,y 10 7 (.call false 135 [.t 8,.t 9]),M 11 7 0,y 12 7 (.bin .eql (.t 10) (.t 11)),A 13 7 12,m 4 13] R)),[.t 4]⟩
theorem i100:iF 100 g100:=jF Tryz.func100
def g101:GFun:=⟨⟨8,[]⟩,(s [x 4 (.mov (.k (.val (.string (ByteArray.mk #[])))))] (s [m 5 0,m 6 1,c 7 136 [.t 5,.t 6],m 4 7] R)),[.t 4]⟩
theorem i101:iF 101 g101:=jF Tryz.func101
def g102:GFun:=⟨⟨12,[1]⟩,(s [a 1 7 0,k 2 0] (S (s [f 3 0 1,l 4 3] (.block 0 (s [q 6 .eql 4 5,m 5 6] (D 5 (s [k 2 0] R) (s [q 8 .eql 4 4,m 7 8] (D 7 (s [f 9 1 1,l 10 9,c 11 103 [.t 10],m 2 11] R) F)))))) (s [k 2 4] R))),[.t 2]⟩
theorem i102:iF 102 g102:=jF Tryz.func102
def g103:GFun:=⟨⟨15,[]⟩,(s [k 2 0] (S (s [m 3 0] (.block 0 (S (s [q 5 .eql 3 9,m 4 5] (D 4 F (.reg [q 6 .eql 3 10,m 4 6]))) (D 4 (s [k 2 1] R) (S (s [q 8 .eql 3 1,m 7 8] (D 7 F (s [q 9 .eql 3 2,m 7 9] (D 7 F (s [q 10 .eql 3 6,m 7 10]
 (D 7 F (.reg [q 11 .eql 3 8,m 7 11]))))))) (D 7 (s [k 2 2] R) (S (s [q 13 .eql 3 3,m 12 13] (D 12 F (.reg [q 14 .eql 3 7,m 12 14]))) (D 12 (s [k 2 3] R) F)))))))) (s [k 2 4] R))),[.t 2]⟩
theorem i103:iF 103 g103:=jF Tryz.func103
def g104:GFun:=⟨⟨10,[]⟩,(s [x 2 (.mov (.k (.val (.string (ByteArray.mk #[])))))] (S (s [m 3 0,c 4 46 [.t 3,K 1,K 12],w 5 4] (D 5 (s [x 2 (.mov (.k (.val (.string (ByteArray.mk #[])))))] R) F)) (s [x 6 (.build [(.val (.string
 (ByteArray.mk #[]))),(.val (.string (ByteArray.mk #[]))),(.val (.string (ByteArray.mk #[]))),(.val (.string (ByteArray.mk #[]))),(.val (.string (ByteArray.mk #[]))),(.val (.string (ByteArray.mk #[]))),(.val (.string (ByteArray.mk #[]))),
 (.val (.string (ByteArray.mk #[]))),(.val (.string (ByteArray.mk #[]))),(.val (.string (ByteArray.mk #[]))),(.val (.string (ByteArray.mk #[]))),(.val (.string (ByteArray.mk #[])))] [(0,(1,(.k (.val (.string (ByteArray.mk #[43])))))),(1,(1,
 (.k (.val (.string (ByteArray.mk #[45])))))),(2,(1,(.k (.val (.string (ByteArray.mk #[42])))))),(3,(1,(.k (.val (.string (ByteArray.mk #[109,97,120])))))),(4,(1,(.k (.val (.string (ByteArray.mk #[109,105,110])))))),(5,(1,(.k (.val
 (.string (ByteArray.mk #[124])))))),(6,(1,(.k (.val (.string (ByteArray.mk #[38])))))),(7,(1,(.k (.val (.string (ByteArray.mk #[92])))))),(8,(1,(.k (.val (.string (ByteArray.mk #[60])))))),(9,(1,(.k (.val (.string (ByteArray.mk #[61,
 61])))))),(10,(1,(.k (.val (.string (ByteArray.mk #[104,97,115])))))),(11,(1,(.k (.val (.string (ByteArray.mk #[119,105,116,104]))))))]),m 7 0,q 8 .sub 7 1,x 9 (.aidx 12 (.t 6) (.t 8)),m 2 9] R))),[.t 2]⟩
theorem i104:iF 104 g104:=jF Tryz.func104
def g110:GFun:=⟨⟨44,[6]⟩,(s [Z 2,k 3 0] (S (s [m 8 0,x 9 (.slen (.t 8)),q 10 .gtr 9 160] (D 10 (s [Z 2,k 3 160] R) F)) (s [E 11 4 true,m 4 11] (S (s [k 5 0] (B 0 (S (s [m 12 5,m 13 0,x 14 (.slen (.t 13)),o 15 .lss 12 14] (D 15 F
 (.exit 0))) (.block 1 (S (s [m 16 0,m 17 5,x 18 (.idx (.t 16) (.t 17)),x 19 (.bin .eql (.t 18) (.k (.val (.int .u8 32))))] (D 19 (s [m 20 5,q 21 .add 20 1,m 5 21] (.exit 1)) F)) (s [m 23 0,m 24 5,c 25 141 [.t 23,.t 24],m 22 25,v 26 22 0,
 v 27 22 1,u 6 4,t 6 4 26,m 7 27] (S (s [m 28 7,q 29 .eql 28 0,m 30 29,N 31 30 4,z 32 30 (.len (.t 31)),J 33 30 32 80,O 34 30 33] (D 34 (s [m 35 5,Z 2,m 3 35] R) F)) (.reg [m 36 4,h 37 4 6,x 38 (.bslice 4 [] 1 true [(0,(.t 37))]),
 Q 39 4 40 36 38,m 40 5,m 41 7,o 42 .add 40 41,m 4 39,m 5 42])))))))) (s [m 43 4,m 2 43,k 3 (-1)] R))))),[.t 2,.t 3]⟩
theorem i110:iF 110 g110:=jF Tryz.func110
def g111:GFun:=⟨⟨37,[2,3,4,5,6]⟩,(s [u 2 7] (S (s [m 8 0,x 9 (.call false 142 [.t 8,(.k (.val (.string (ByteArray.mk #[105,102]))))])] (D 9 (s [m 10 0,c 11 111 [.t 10],u 3 7,t 3 7 11] (s [m 12 0,x 13 (.call false 143 [.t 12,(.k (.val
 (.string (ByteArray.mk #[116,104,101,110]))))])] (s [m 14 0,c 15 111 [.t 14],u 4 7,t 4 7 15] (s [m 16 0,x 17 (.call false 143 [.t 16,(.k (.val (.string (ByteArray.mk #[101,108,115,101]))))])] (s [m 18 0,c 19 111 [.t 18],u 5 7,t 5 7 19]
 (s [h 20 7 3,h 21 7 4,h 22 7 5,x 23 (.bslice 7 [] 3 true [(0,(.t 20)),(1,(.t 21)),(2,(.t 22))]),x 24 (.build [(.val (.int .i64 0)),(.val (.int .i64 0)),(.val (.int .i64 0)),(.val (.int .i64 0)),(.val (.string (ByteArray.mk #[]))),(.val
 (.string (ByteArray.mk #[]))),(.val (.slice none 0 0))] [(0,(1,(K 5))),(6,(1,(.t 23)))]),t 2 7 24] R)))))) F)) (s [m 25 0,c 26 144 [.t 25,K 2],u 6 7,t 6 7 26] (S (s [m 27 0,c 28 145 [.t 27,K 1],m 7 28] (s [m 29 7,q 30 .neq 29 0] (D 30
 (s [m 31 7,x 32 (.loadr 7 true (.t 6)),m 33 0,c 34 144 [.t 33,K 2],c 35 146 [.t 31,.t 32,.t 34],t 2 7 35] R) F))) (s [h 36 7 6,t 2 7 36] R))))),[(.c 2 7 true)]⟩
theorem i111:iF 111 g111:=jF Tryz.func111 [(11,3)]
def g112:GFun:=⟨⟨31,[]⟩,(s [k 6 0,b 7 false] (s [m 11 0,c 12 147 [.t 11],m 10 12,v 13 10 0,v 14 10 1,m 8 13,m 9 14] (S (s [m 15 9,x 16 (.ifnil true (.t 15)),m 17 16,N 18 17 8,N 19 17 1,N 20 17 2,z 21 17 (.call false 46 [.t 18,.t 19,
 .t 20]),z 22 17 (.not (.t 21)),O 23 17 22,m 24 23,N 25 24 8,z 26 24 (.call false 24 [.t 25]),N 27 24 0,z 28 24 (.bin .neq (.t 26) (.t 27)),O 29 24 28] (D 29 (s [k 6 0,b 7 false] R) F)) (s [m 30 8,m 6 30,b 7 true] R)))),[.t 6,.t 7]⟩
theorem i112:iF 112 g112:=jF Tryz.func112
def g113:GFun:=⟨⟨45,[]⟩,(s [b 2 false] (S (s [k 3 0] (B 0 (S (s [m 6 3,m 7 0,x 8 (.slen (.t 7)),o 9 .lss 6 8] (D 9 F (.exit 0))) (S (.block 1 (s [m 12 0,m 13 3,x 14 (.idx (.t 12) (.t 13)),x 15 (.bin .geq (.t 14) (.k (.val
 (.int .u8 97)))),m 16 15,M 17 16 0,M 18 16 3,y 19 16 (.idx (.t 17) (.t 18)),y 20 16 (.bin .leq (.t 19) (.k (.val (.int .u8 122)))),A 21 16 20,m 4 21] (s [m 22 0,m 23 3,x 24 (.idx (.t 22) (.t 23)),x 25 (.bin .geq (.t 24) (.k (.val
 (.int .u8 48)))),m 26 25,M 27 26 0,M 28 26 3,y 29 26 (.idx (.t 27) (.t 28)),y 30 26 (.bin .leq (.t 29) (.k (.val (.int .u8 57)))),A 31 26 30,m 5 31] (s [m 32 4,w 33 32,m 34 33,M 35 34 3,I 36 34 35 0,M 37 34 36,N 38 37 5,z 39 37 (.not
 (.t 38)),y 40 34 (.pick (.t 37) (.k (.val (.bool true))) (.t 39)),A 41 34 40] (D 41 (s [b 2 false] R) F))))) (.reg [m 10 3,q 11 .add 10 1,m 3 11]))))) (s [m 42 0,x 43 (.slen (.t 42)),q 44 .gtr 43 0,m 2 44] R))),[.t 2]⟩
theorem i113:iF 113 g113:=jF Tryz.func113
def g114:GFun:=⟨⟨6,[]⟩,(s [b 2 false] (s [c 3 149 [],m 4 0,c 5 148 [.t 3,.t 4],m 2 5] R)),[.t 2]⟩
theorem i114:iF 114 g114:=jF Tryz.func114
def g115:GFun:=⟨⟨25,[2]⟩,(s [a 2 7 0,b 4 false] (S (s [k 5 0] (B 0 (S (s [m 6 5,f 7 6 2,l 8 7,n 9 8,o 10 .lss 6 9] (D 10 F (.exit 0))) (S (.block 1 (s [f 13 6 2,l 14 13,m 15 5,i 16 7 14 15,h 17 7 16,m 18 1,c 19 115 [.t 17,.t 18],
 w 20 19] (D 20 (s [b 4 false] R) F))) (.reg [m 11 5,q 12 .add 11 1,m 5 12]))))) (s [f 21 2 2,l 22 21,m 23 1,o 24 .leq 22 23,m 4 24] R))),[.t 4]⟩
theorem i115:iF 115 g115:=jF Tryz.func115
def g116:GFun:=⟨⟨27,[2]⟩,(s [a 2 7 0,k 4 0] (s [m 6 1,q 7 .sub 6 1,m 1 7] (S (s [k 5 0] (B 0 (S (s [m 8 5,f 9 6 2,l 10 9,n 11 10,o 12 .lss 8 11,m 13 12,M 14 13 1,y 15 13 (.bin .geq (.t 14) (K 0)),A 16 13 15] (D 16 F (.exit 0))) (S
 (.block 1 (.reg [f 19 6 2,l 20 19,m 21 5,i 22 7 20 21,h 23 7 22,m 24 1,c 25 116 [.t 23,.t 24],m 1 25])) (.reg [m 17 5,q 18 .add 17 1,m 5 18]))))) (s [m 26 1,m 4 26] R)))),[.t 4]⟩
theorem i116:iF 116 g116:=jF Tryz.func116
def g117:GFun:=⟨⟨22,[1]⟩,(s [a 1 7 0,k 2 0] (s [k 3 0] (S (s [k 4 0] (B 0 (S (s [m 5 4,f 6 6 1,l 7 6,n 8 7,o 9 .lss 5 8] (D 9 F (.exit 0))) (S (.block 1 (.reg [m 12 3,f 13 6 1,l 14 13,m 15 4,i 16 7 14 15,h 17 7 16,c 18 117 [.t 17],
 c 19 150 [.t 12,.t 18],m 3 19])) (.reg [m 10 4,q 11 .add 10 1,m 4 11]))))) (s [m 20 3,q 21 .add 20 1,m 2 21] R)))),[.t 2]⟩
theorem i117:iF 117 g117:=jF Tryz.func117
def g118:GFun:=⟨⟨20,[1]⟩,(s [a 1 7 0,b 2 false] (S (s [k 3 0] (B 0 (S (s [m 4 3,f 5 6 1,l 6 5,n 7 6,o 8 .lss 4 7] (D 8 F (.exit 0))) (S (.block 1 (s [f 11 6 1,l 12 11,m 13 3,i 14 7 12 13,h 15 7 14,c 16 118 [.t 15],w 17 16] (D 17
 (s [b 2 false] R) F))) (.reg [m 9 3,q 10 .add 9 1,m 3 10]))))) (s [h 18 7 1,c 19 151 [.t 18],m 2 19] R))),[.t 2]⟩
theorem i118:iF 118 g118:=jF Tryz.func118
def g119:GFun:=⟨⟨47,[]⟩,(s [x 4 (.mov (.k (.val (.string (ByteArray.mk #[])))))] (S (s [m 7 0,m 8 1,c 9 152 [.t 7,.t 8],w 10 9] (D 10 (s [x 4 (.mov (.k (.val (.string (ByteArray.mk #[])))))] R) F)) (S (s [m 11 1] (.block 0
 (s [q 13 .eql 11 1,m 12 13] (D 12 (s [m 14 0,c 15 33 [.t 14],m 4 15] R) (s [q 17 .eql 11 3,m 16 17] (D 16 (S (s [m 18 0,q 19 .eql 18 1] (D 19 (s [x 4 (.mov (.k (.val (.string (ByteArray.mk #[116,114,117,101])))))] R) F)) (s [x 4 (.mov
 (.k (.val (.string (ByteArray.mk #[102,97,108,115,101])))))] R)) (s [q 21 .eql 11 4,m 20 21] (D 20 (S (s [m 22 0,q 23 .eql 22 0] (D 23 (s [x 4 (.mov (.k (.val (.string (ByteArray.mk #[110,111,110,101])))))] R) F)) (s [m 24 0,
 c 25 33 [.t 24],x 26 (.bin .add (.k (.val (.string (ByteArray.mk #[35])))) (.t 25)),m 4 26] R)) F)))))))) (s [E 27 1 false,m 5 27] (S (s [k 6 0] (B 1 (S (s [m 28 6,q 29 .leq 28 11] (D 29 F (.exit 1))) (S (.block 2 (s [m 32 0,m 33 6,x 34
 (.conv .u64 (.t 33)),o 35 .shr 32 34,q 36 .and 35 1,q 37 .eql 36 1] (D 37 (.reg [m 38 5,m 39 6,c 40 33 [.t 39],x 41 (.bslice 1 [] 1 false [(0,(.t 40))]),Q 42 1 16 38 41,m 5 42]) F))) (.reg [m 30 6,q 31 .add 30 1,m 6 31]))))) (s [m 43 5,
 x 44 (.call false 79 [.t 43,(.k (.val (.string (ByteArray.mk #[32]))))]),x 45 (.bin .add (.k (.val (.string (ByteArray.mk #[123])))) (.t 44)),x 46 (.bin .add (.t 45) (.k (.val (.string (ByteArray.mk #[125]))))),m 4 46] R)))))),[.t 4]⟩
theorem i119:iF 119 g119:=jF Tryz.func119
def g120:GFun:=⟨⟨16,[2]⟩,(s [a 2 7 0,x 4 (.mov (.k (.val (.string (ByteArray.mk #[])))))] (s [h 6 7 2,c 7 75 [.t 6],m 5 7] (S (s [h 8 7 2,c 9 153 [.t 8],m 10 1,o 11 .lss 9 10] (D 11 (s [m 12 5,x 13 (.bin .add (.k (.val (.string
 (ByteArray.mk #[40])))) (.t 12)),x 14 (.bin .add (.t 13) (.k (.val (.string (ByteArray.mk #[41]))))),m 4 14] R) F)) (s [m 15 5,m 4 15] R)))),[.t 4]⟩
theorem i120:iF 120 g120:=jF Tryz.func120
def g121:GFun:=⟨⟨53,[3000005]⟩,(s [x 1 (.box 7 (.t 0)),x 2 (.mov (.k (.val (.string (ByteArray.mk #[])))))] (s [x 5 (.bslro 1 [] 13 false [(0,(.k (.val (.string (ByteArray.mk #[]))))),(1,(.k (.val (.string (ByteArray.mk #[43]))))),(2,
 (.k (.val (.string (ByteArray.mk #[45]))))),(3,(.k (.val (.string (ByteArray.mk #[42]))))),(4,(.k (.val (.string (ByteArray.mk #[109,97,120]))))),(5,(.k (.val (.string (ByteArray.mk #[109,105,110]))))),(6,(.k (.val (.string
 (ByteArray.mk #[124]))))),(7,(.k (.val (.string (ByteArray.mk #[38]))))),(8,(.k (.val (.string (ByteArray.mk #[92]))))),(9,(.k (.val (.string (ByteArray.mk #[60]))))),(10,(.k (.val (.string (ByteArray.mk #[61,61]))))),(11,(.k (.val
 (.string (ByteArray.mk #[104,97,115]))))),(12,(.k (.val (.string (ByteArray.mk #[119,105,116,104])))))]),m 3 5] (s [h 6 7 1,c 7 153 [.t 6],m 4 7] (S (s [m 8 4,q 9 .eql 8 4] (D 9 (s [m 10 3,f 11 1 1,f 16 6 1,f 23 6 1,l 12 11,i 13 1 10 12,
 l 14 13,x 15 (.bin .add (.t 14) (.k (.val (.string (ByteArray.mk #[40]))))),l 17 16,x 18 (.iaddr 7 (.t 17) (K 0)),h 19 7 18,G 20 75 [.t 19],o 21 .add 15 20,x 22 (.bin .add (.t 21) (.k (.val (.string (ByteArray.mk #[44,32]))))),l 24 23,
 x 25 (.iaddr 7 (.t 24) (K 1)),h 26 7 25,G 27 75 [.t 26],o 28 .add 22 27,x 29 (.bin .add (.t 28) (.k (.val (.string (ByteArray.mk #[41]))))),m 2 29] R) F)) (s [f 30 6 1,m 34 4,m 38 3,f 39 1 1,f 45 6 1,m 49 4,q 50 .add 49 1,l 31 30,x 32
 (.iaddr 7 (.t 31) (K 0)),h 33 7 32,G 35 150 [.t 34,K 2],G 36 120 [.t 33,.t 35],x 37 (.bin .add (.t 36) (.k (.val (.string (ByteArray.mk #[32]))))),l 40 39,i 41 1 38 40,l 42 41,o 43 .add 37 42,x 44 (.bin .add (.t 43) (.k (.val (.string
 (ByteArray.mk #[32]))))),l 46 45,x 47 (.iaddr 7 (.t 46) (K 1)),h 48 7 47,G 51 120 [.t 48,.t 50],o 52 .add 44 51,m 2 52] R))))),[.t 2]⟩
theorem i121:iF 121 g121:=jF Tryz.func121
def g122:GFun:=⟨⟨46,[6]⟩,(s [Z 2,k 3 0] (S (s [m 8 0,x 9 (.slen (.t 8)),q 10 .gtr 9 160] (D 10 (s [E 11 4 true,m 2 11,k 3 160] R) F)) (s [E 12 4 true,m 4 12] (s [k 5 0] (S (B 0 (S (s [m 13 5,m 14 0,x 15 (.slen (.t 14)),
 o 16 .lss 13 15] (D 16 F (.exit 0))) (.block 1 (S (s [m 17 0,m 18 5,x 19 (.idx (.t 17) (.t 18)),x 20 (.bin .eql (.t 19) (.k (.val (.int .u8 32))))] (D 20 (s [m 21 5,q 22 .add 21 1,m 5 22] (.exit 1)) F)) (s [m 24 0,m 25 5,c 26 154 [.t 24,
 .t 25],m 23 26,v 27 23 0,v 28 23 1,u 6 4,t 6 4 27,m 7 28] (S (s [m 29 7,q 30 .eql 29 0,m 31 30,N 32 31 4,z 33 31 (.len (.t 32)),J 34 31 33 80,O 35 31 34] (D 35 (s [E 36 4 true,m 37 5,m 2 36,m 3 37] R) F)) (s [m 38 4,h 39 4 6,x 40
 (.bslice 4 [] 1 true [(0,(.t 39))]),Q 41 4 40 38 40,m 4 41] (.reg [m 42 5,m 43 7,o 44 .add 42 43,m 5 44])))))))) (s [m 45 4,m 2 45,k 3 (-1)] R)))))),[.t 2,.t 3]⟩
theorem i122:iF 122 g122:=jF Tryz.func122
def g123:GFun:=⟨⟨32,[2,3,4]⟩,(s [u 2 7] (S (s [m 5 0,x 6 (.call false 155 [.t 5,(.k (.val (.string (ByteArray.mk #[105,102]))))]),w 7 6] (D 7 (s [m 8 0,c 9 156 [.t 8,K 1],t 2 7 9] R) F)) (s [m 10 0,m 11 0,x 12 (.nck (.t 11)),f 13 1 12,
 l 14 13,q 15 .add 14 1,x 16 (.nck (.t 10)),f 17 1 16,(.mk none none (.store 1 (.t 17) (.t 15)))] (s [m 18 0,c 19 123 [.t 18],u 3 7,t 3 7 19] (s [m 20 0,x 21 (.call false 157 [.t 20,(.k (.val (.string (ByteArray.mk #[116,104,101,
 110]))))])] (s [m 22 0,c 23 123 [.t 22],u 4 7,t 4 7 23] (s [m 24 0,x 25 (.call false 157 [.t 24,(.k (.val (.string (ByteArray.mk #[101,108,115,101]))))])] (s [x 26 (.loadr 7 true (.t 3)),x 27 (.loadr 7 true (.t 4)),m 28 0,c 29 123 [.t 28],
 x 30 (.bslice 7 [] 3 true [(0,(.t 26)),(1,(.t 27)),(2,(.t 29))]),x 31 (.build [(.val (.int .i64 0)),(.val (.int .i64 0)),(.val (.int .i64 0)),(.val (.int .i64 0)),(.val (.string (ByteArray.mk #[]))),(.val (.string (ByteArray.mk #[]))),
 (.val (.slice none 0 0))] [(0,(1,(K 5))),(6,(1,(.t 30)))]),t 2 7 31] R)))))))),[(.c 2 7 true)]⟩
theorem i123:iF 123 g123:=jF Tryz.func123 [(8,3)]
def g124:GFun:=⟨⟨40,[2]⟩,(s [u 2 7] (S (s [m 3 0,x 4 (.nck (.t 3)),f 5 3 4,l 6 5,q 7 .lss 6 0] (D 7 (s [m 8 0,m 9 0,x 10 (.nck (.t 9)),f 11 2 10,l 12 11,x 13 (.nck (.t 8)),f 14 3 13,(.mk none none (.store 1 (.t 14) (.t 12)))]
 (s [m 15 0,x 16 (.nck (.t 15)),f 17 1 16,m 19 0,x 20 (.nck (.t 19)),f 21 0 20,l 18 17,l 22 21,n 23 22,o 24 .lss 18 23] (D 24 (.reg [m 25 0,m 26 0,x 27 (.nck (.t 26)),f 28 0 27,m 30 0,x 31 (.nck (.t 30)),f 32 1 31,l 29 28,l 33 32,
 i 34 4 29 33,f 35 2 34,l 36 35,x 37 (.nck (.t 25)),f 38 3 37,(.mk none none (.store 1 (.t 38) (.t 36)))]) F))) F)) (s [x 39 (.build [(.val (.int .i64 0)),(.val (.int .i64 0)),(.val (.int .i64 0)),(.val (.int .i64 0)),(.val (.string
 (ByteArray.mk #[]))),(.val (.string (ByteArray.mk #[]))),(.val (.slice none 0 0))] []),t 2 7 39] R))),[(.c 2 7 true)]⟩
theorem i124:iF 124 g124:=jF Tryz.func124
def g125:GFun:=⟨⟨19,[1,5]⟩,(s [a 1 7 0,k 2 0] (s [k 3 1] (S (s [f 6 6 1,l 7 6,n 8 7,k 9 0] (B 0 (s [o 10 .lss 9 8] (C 10 0 (S (.block 1 (s [i 11 7 7 9,h 12 7 11,u 5 7,t 5 7 12] (.reg [m 13 3,h 14 7 5,c 15 125 [.t 14],o 16 .add 13 15,
 m 3 16]))) (.reg [q 17 .add 9 1,m 9 17])))))) (s [m 18 3,m 2 18] R)))),[.t 2]⟩
theorem i125:iF 125 g125:=jF Tryz.func125
def g126:GFun:=⟨⟨20,[1,5]⟩,(s [a 1 7 0,k 2 0] (s [k 3 0] (S (s [f 6 6 1,l 7 6,n 8 7,k 9 0] (B 0 (s [o 10 .lss 9 8] (C 10 0 (S (.block 1 (s [i 11 7 7 9,h 12 7 11,u 5 7,t 5 7 12] (.reg [m 13 3,h 14 7 5,c 15 126 [.t 14],x 16 (.mx (.t 13)
 (.t 15)),m 3 16]))) (.reg [q 17 .add 9 1,m 9 17])))))) (s [m 18 3,q 19 .add 18 1,m 2 19] R)))),[.t 2]⟩
theorem i126:iF 126 g126:=jF Tryz.func126
def g127:GFun:=⟨⟨100,[1]⟩,(s [a 1 7 0,b 2 false] (s [f 5 0 1,l 6 5,f 7 6 1,l 8 7,x 9 (.build [(.val (.int .i64 0)),(.val (.int .i64 0)),(.val (.int .i64 0)),(.val (.int .i64 0)),(.val (.string (ByteArray.mk #[]))),(.val (.string
 (ByteArray.mk #[]))),(.val (.slice none 0 0))] [(0,(1,(.t 6))),(6,(1,(.t 8)))]),x 3 (.alloc 7 (.agg [(.val (.int .i64 0)),(.val (.int .i64 0)),(.val (.int .i64 0)),(.val (.int .i64 0)),(.val (.string (ByteArray.mk #[]))),(.val (.string
 (ByteArray.mk #[]))),(.val (.slice none 0 0))])),(.mk none none (.store 7 (.t 3) (.t 9)))] (s [k 4 0] (S (s [f 10 0 1,l 11 10] (.block 0 (s [q 13 .eql 11 1,m 12 13] (D 12 (s [f 14 1 1,x 15 (.loadr 1 false (.t 14)),f 16 3 1,x 17
 (.loadr 1 false (.t 16)),f 18 1 3,(.mk none none (.store 1 (.t 18) (.t 15))),f 19 3 3,(.mk none none (.store 1 (.t 19) (.t 17)))] (s [f 20 3 1,l 21 20,q 22 .eql 21 4,m 23 22,z 24 23 (p 1 1 1),z 25 23 (r 1 24),z 26 23 (p 1 3 1),z 27 23
 (r 1 26),z 28 23 (.call false 100 [.t 25,.t 27]),z 29 23 (.not (.t 28)),O 30 23 29,m 31 30,z 32 31 (p 1 1 1),z 33 31 (r 1 32),z 34 31 (.bin .lss (.t 33) (K 0)),O 35 31 34] (D 35 (s [b 2 false] R) F))) (s [q 37 .eql 11 3,m 36 37] (D 36
 (s [f 38 2 1,x 39 (.loadr 1 false (.t 38)),f 40 5 1,x 41 (.loadr 1 false (.t 40)),f 42 2 3,(.mk none none (.store 1 (.t 42) (.t 39))),f 43 5 3,(.mk none none (.store 1 (.t 43) (.t 41)))] (s [f 44 5 1,l 45 44,c 46 44 [.t 45],w 47 46]
 (D 47 (s [b 2 false] R) F))) (s [q 49 .eql 11 4,m 48 49] (D 48 (s [f 50 1 1,l 51 50,f 52 1 3,(.mk none none (.store 1 (.t 52) (.t 51))),k 4 2] (s [f 53 1 1,l 54 53,c 55 46 [.t 54,K 1,K 12],w 56 55] (D 56 (s [b 2 false] R) F)))
 (s [q 58 .eql 11 5,m 57 58] (D 57 (.reg [k 4 3]) (s [q 60 .eql 11 6,m 59 60] (D 59 (.reg [f 61 2 1,l 62 61,f 63 2 3,(.mk none none (.store 1 (.t 63) (.t 62)))]) (s [q 65 .eql 11 8,m 64 65] (D 64 (s [f 66 4 1,x 67 (.loadr 1 false (.t 66)),
 f 68 5 1,x 69 (.loadr 1 false (.t 68)),f 70 4 3,(.mk none none (.store 1 (.t 70) (.t 67))),f 71 5 3,(.mk none none (.store 1 (.t 71) (.t 69))),k 4 1] (s [f 72 4 1,l 73 72,c 74 44 [.t 73],w 75 74,m 76 75,z 77 76 (p 1 5 1),z 78 76 (r 1 77),
 z 79 76 (.call false 44 [.t 78]),z 80 76 (.not (.t 79)),O 81 76 80] (D 81 (s [b 2 false] R) F))) (S (s [q 83 .eql 11 2,m 82 83] (D 82 F (.reg [q 84 .eql 11 7,m 82 84]))) (D 82 F (s [b 2 false] R))))))))))))))))) (s [f 85 6 1,l 86 85,
 n 87 86,m 88 4,o 89 .eql 87 88,m 90 89,y 91 90 (p 1 2 1),y 92 90 (r 1 91),y 93 90 (.call false 46 [.t 92,K 0,K 3]),A 94 90 93,m 95 94,y 96 95 (j 7 1),y 97 95 (j 7 3),y 98 95 (.call false 80 [.t 96,.t 97]),A 99 95 98,m 2 99] R))))),[.t 2]⟩
theorem i127:iF 127 g127:=jF Tryz.func127
def g128:GFun:=⟨⟨9,[]⟩,(s [b 4 false] (s [m 5 0,m 6 1,c 7 158 [.t 5,.t 6],q 8 .geq 7 0,m 4 8] R)),[.t 4]⟩
theorem i128:iF 128 g128:=jF Tryz.func128
def g129:GFun:=⟨⟨8,[2]⟩,(s [a 2 7 0,b 3 false] (s [h 4 7 2,l 5 1,c 6 86 [.t 4,.t 5],w 7 6,m 3 7] R)),[.t 3]⟩
theorem i129:iF 129 g129:=jF Tryz.func129
def g131:GFun:=⟨⟨15,[2,3]⟩,(s [a 2 2 0,a 3 2 1,b 4 false] (S (s [f 5 0 2,l 6 5,f 7 0 3,l 8 7,o 9 .neq 6 8] (D 9 (s [b 4 false] R) F)) (S (s [f 10 1 2,l 11 10,f 12 1 3,l 13 12,o 14 .neq 11 13] (D 14 (s [b 4 false] R) F))
 (s [b 4 true] R)))),[.t 4]⟩
theorem i131:iF 131 g131:=jF Tryz.func131
def g132:GFun:=⟨⟨41,[2,3]⟩,(s [a 2 7 0,a 3 7 1,b 4 false] (S (s [f 5 0 2,l 6 5,f 7 0 3,l 8 7,o 9 .neq 6 8] (D 9 (s [b 4 false] R) F)) (S (s [f 10 1 2,l 11 10,f 12 1 3,l 13 12,o 14 .neq 11 13] (D 14 (s [b 4 false] R) F)) (S (s [f 15 2 2,
 l 16 15,f 17 2 3,l 18 17,o 19 .neq 16 18] (D 19 (s [b 4 false] R) F)) (S (s [f 20 3 2,l 21 20,f 22 3 3,l 23 22,o 24 .neq 21 23] (D 24 (s [b 4 false] R) F)) (S (s [f 25 4 2,l 26 25,f 27 4 3,l 28 27,o 29 .neq 26 28] (D 29
 (s [b 4 false] R) F)) (S (s [f 30 5 2,l 31 30,f 32 5 3,l 33 32,o 34 .neq 31 33] (D 34 (s [b 4 false] R) F)) (S (s [f 35 6 2,l 36 35,f 37 6 3,l 38 37,c 39 159 [.t 36,.t 38],w 40 39] (D 40 (s [b 4 false] R) F)) (s [b 4 true] R))))))))),
 [.t 4]⟩
theorem i132:iF 132 g132:=jF Tryz.func132
def g134:GFun:=⟨⟨5,[]⟩,(s [b 2 false] (s [m 3 0,c 4 46 [.t 3,K 1,K 4],m 2 4] R)),[.t 2]⟩
theorem i134:iF 134 g134:=jF Tryz.func134
def g135:GFun:=⟨⟨29,[]⟩,(s [k 4 0] (S (.block 0 (s [m 6 1,q 7 .eql 6 1,m 5 7] (D 5 (s [m 8 0,c 9 164 [.t 8],m 4 9] R) (s [m 11 1,q 12 .eql 11 2,m 10 12] (D 10 (s [m 13 0,q 14 .and 13 4095,m 4 14] R) (s [m 16 1,q 17 .eql 16 3,m 15 17]
 (D 15 (s [m 18 0,q 19 .neq 18 0,c 20 165 [.t 19],m 4 20] R) (s [m 22 1,q 23 .eql 22 4,m 24 23,M 25 24 0,y 26 24 (.call false 46 [.t 25,K 0,K 999]),A 27 24 26,m 21 27] (D 21 (s [m 28 0,m 4 28] R) F))))))))) (s [k 4 0] R))),[.t 4]⟩
theorem i135:iF 135 g135:=jF Tryz.func135
def g141:GFun:=⟨⟨100,[4]⟩,(s [u 4 4,k 5 0] (s [m 10 1,m 6 10] (S (s [m 11 0,m 12 1,x 13 (.idx (.t 11) (.t 12)),m 7 13] (.block 0 (s [m 15 7,c 16 82 [.t 15],m 14 16] (D 14 (S (B 1 (S (s [m 17 6,m 18 0,x 19 (.slen (.t 18)),
 o 20 .lss 17 19,m 21 20,M 22 21 0,M 23 21 6,y 24 21 (.idx (.t 22) (.t 23)),y 25 21 (.call false 82 [.t 24]),M 26 21 25,N 27 26 0,N 28 26 6,z 29 26 (.idx (.t 27) (.t 28)),z 30 26 (.call false 83 [.t 29]),y 31 21 (.pick (.t 26) (.k (.val
 (.bool true))) (.t 30)),A 32 21 31] (D 32 F (.exit 1))) (.block 2 (.reg [m 33 6,q 34 .add 33 1,m 6 34])))) (S (s [m 35 6,m 36 1,o 37 .sub 35 36,q 38 .gtr 37 8] (D 38 (s [x 39 (.build [(.val (.int .i64 0)),(.val (.int .i64 0)),(.val
 (.int .i64 0)),(.val (.string (ByteArray.mk #[])))] []),t 4 4 39,k 5 0] R) F)) (s [m 40 0,m 41 1,m 42 6,x 43 (.sslc (.t 40) (some (.t 41)) (some (.t 42))),m 44 1,x 45 (.build [(.val (.int .i64 0)),(.val (.int .i64 0)),(.val (.int .i64 0)),
 (.val (.string (ByteArray.mk #[])))] [(0,(1,(K 1))),(3,(1,(.t 43))),(2,(1,(.t 44)))]),m 46 6,m 47 1,o 48 .sub 46 47,t 4 4 45,m 5 48] R))) (s [m 50 7,c 51 83 [.t 50],m 49 51] (D 49 (S (B 3 (S (s [m 52 6,m 53 0,x 54 (.slen (.t 53)),
 o 55 .lss 52 54,m 56 55,M 57 56 0,M 58 56 6,y 59 56 (.idx (.t 57) (.t 58)),y 60 56 (.call false 83 [.t 59]),A 61 56 60] (D 61 F (.exit 3))) (.block 4 (.reg [m 62 6,q 63 .add 62 1,m 6 63])))) (s [m 65 0,m 66 1,m 67 6,x 68 (.sslc (.t 65)
 (some (.t 66)) (some (.t 67))),c 69 112 [.t 68,K 0,K 1000000],m 64 69,v 70 64 0,v 71 64 1,m 8 70,m 9 71] (S (s [m 72 9,w 73 72] (D 73 (s [x 74 (.build [(.val (.int .i64 0)),(.val (.int .i64 0)),(.val (.int .i64 0)),(.val (.string
 (ByteArray.mk #[])))] []),t 4 4 74,k 5 0] R) F)) (s [m 75 8,m 76 1,x 77 (.build [(.val (.int .i64 0)),(.val (.int .i64 0)),(.val (.int .i64 0)),(.val (.string (ByteArray.mk #[])))] [(0,(1,(K 2))),(1,(1,(.t 75))),(2,(1,(.t 76)))]),m 78 6,
 m 79 1,o 80 .sub 78 79,t 4 4 77,m 5 80] R)))) (s [m 82 0,m 83 1,x 84 (.sslc (.t 82) (some (.t 83)) none),x 85 (.call false 28 [.t 84,(.k (.val (.string (ByteArray.mk #[61,61]))))]),m 81 85] (D 81 (s [m 86 1,x 87 (.build [(.val
 (.int .i64 0)),(.val (.int .i64 0)),(.val (.int .i64 0)),(.val (.string (ByteArray.mk #[])))] [(0,(1,(K 3))),(3,(1,(.k (.val (.string (ByteArray.mk #[61,61])))))),(2,(1,(.t 86)))]),t 4 4 87,k 5 2] R) (s [m 89 7,x 90 (.call false 174 [(.k
 (.val (.string (ByteArray.mk #[40,41,123,125,44,46,36,43,45,42,60,124,38,92])))),.t 89]),q 91 .geq 90 0,m 88 91] (D 88 (s [m 92 0,m 93 1,m 94 1,q 95 .add 94 1,x 96 (.sslc (.t 92) (some (.t 93)) (some (.t 95))),m 97 1,x 98 (.build [(.val
 (.int .i64 0)),(.val (.int .i64 0)),(.val (.int .i64 0)),(.val (.string (ByteArray.mk #[])))] [(0,(1,(K 3))),(3,(1,(.t 96))),(2,(1,(.t 97)))]),t 4 4 98,k 5 1] R) F)))))))))) (s [x 99 (.build [(.val (.int .i64 0)),(.val (.int .i64 0)),
 (.val (.int .i64 0)),(.val (.string (ByteArray.mk #[])))] []),t 4 4 99,k 5 0] R)))),[(.c 4 4 true),.t 5]⟩
theorem i141:iF 141 g141:=jF Tryz.func141
def g142:GFun:=⟨⟨16,[]⟩,(s [b 4 false] (S (s [m 5 0,m 6 1,c 7 175 [.t 5,.t 6],w 8 7] (D 8 (s [b 4 false] R) F)) (s [m 9 0,x 10 (.nck (.t 9)),f 11 1 10,l 12 11,q 13 .add 12 1,x 14 (.nck (.t 9)),f 15 1 14,(.mk none none (.store 1
 (.t 15) (.t 13)))] (s [b 4 true] R)))),[.t 4]⟩
theorem i142:iF 142 g142:=jF Tryz.func142
def g143:GFun:=⟨⟨11,[]⟩,(s [m 4 0,m 5 1,c 6 142 [.t 4,.t 5],w 7 6] (D 7 (.reg [m 8 0,x 9 (.nck (.t 8)),f 10 2 9,(.mk none none (.store 1 (.t 10) (.k (.val (.bool true)))))]) F)),[]⟩
theorem i143:iF 143 g143:=jF Tryz.func143
def g144:GFun:=⟨⟨31,[4,6028005]⟩,(s [u 4 7] (S (s [m 7 1,q 8 .eql 7 4] (D 8 (s [m 9 0,c 10 176 [.t 9],t 4 7 10] R) F)) (s [m 11 0,m 12 1,q 13 .add 12 1,c 14 144 [.t 11,.t 13],x 5 (.alloc 7 (.agg [(.val (.int .i64 0)),(.val
 (.int .i64 0)),(.val (.int .i64 0)),(.val (.int .i64 0)),(.val (.string (ByteArray.mk #[]))),(.val (.string (ByteArray.mk #[]))),(.val (.slice none 0 0))])),(.mk none none (.store 7 (.t 5) (.t 14)))] (S (s [m 15 0,m 16 1,c 17 145 [.t 15,
 .t 16],m 6 17] (B 0 (S (s [m 18 6,q 19 .neq 18 0] (D 19 F (.exit 0))) (S (.block 1 (.reg [m 23 6,m 25 0,m 26 1,q 27 .add 26 1,h 24 7 5,x 28 (.callk [5] 144 [.t 25,.t 27]),c 29 146 [.t 23,.t 24,.t 28],(.mk none none (.store 7 (.t 5)
 (.t 29)))])) (.reg [m 20 0,m 21 1,c 22 145 [.t 20,.t 21],m 6 22]))))) (s [h 30 7 5,t 4 7 30] R))))),[(.c 4 7 true)]⟩
theorem i144:iF 144 g144:=jF Tryz.func144 [(7,4)]
def g145:GFun:=⟨⟨44,[]⟩,(s [k 4 0] (S (s [m 6 0,x 7 (.nck (.t 6)),f 8 2 7,l 9 8,m 10 9,N 11 10 0,z 12 10 (.nck (.t 11)),z 13 10 (p 1 1 12),N 15 10 0,z 16 10 (.nck (.t 15)),z 17 10 (p 1 0 16),z 14 10 (r 1 13),z 18 10 (r 1 17),z 19 10
 (.len (.t 18)),z 20 10 (.bin .geq (.t 14) (.t 19)),O 21 10 20] (D 21 (s [k 4 0] R) F)) (s [m 22 0,x 23 (.nck (.t 22)),f 24 0 23,m 26 0,x 27 (.nck (.t 26)),f 28 1 27,m 32 1,l 25 24,l 29 28,i 30 4 25 29,h 31 4 30,G 33 177 [.t 31,.t 32],
 m 5 33] (S (s [m 34 5,q 35 .neq 34 0] (D 35 (.reg [m 36 0,x 37 (.nck (.t 36)),f 38 1 37,l 39 38,q 40 .add 39 1,x 41 (.nck (.t 36)),f 42 1 41,(.mk none none (.store 1 (.t 42) (.t 40)))]) F)) (s [m 43 5,m 4 43] R))))),[.t 4]⟩
theorem i145:iF 145 g145:=jF Tryz.func145
def g146:GFun:=⟨⟨12,[4,5,6]⟩,(s [a 4 7 1,a 5 7 2,u 6 7] (s [m 7 0,h 8 7 4,h 9 7 5,x 10 (.bslice 7 [] 2 true [(0,(.t 8)),(1,(.t 9))]),x 11 (.build [(.val (.int .i64 0)),(.val (.int .i64 0)),(.val (.int .i64 0)),(.val (.int .i64 0)),
 (.val (.string (ByteArray.mk #[]))),(.val (.string (ByteArray.mk #[]))),(.val (.slice none 0 0))] [(0,(1,(K 4))),(1,(1,(.t 7))),(6,(1,(.t 10)))]),t 6 7 11] R)),[(.c 6 7 true)]⟩
theorem i146:iF 146 g146:=jF Tryz.func146
def g148:GFun:=⟨⟨18,[]⟩,(s [b 4 false] (S (s [k 5 0] (B 0 (S (s [m 6 5,m 7 0,n 8 7,o 9 .lss 6 8] (D 9 F (.exit 0))) (S (.block 1 (s [m 12 0,m 13 5,i 14 1 12 13,l 15 14,m 16 1,o 17 .eql 15 16] (D 17 (s [b 4 true] R) F))) (.reg [m 10 5,
 q 11 .add 10 1,m 5 11]))))) (s [b 4 false] R))),[.t 4]⟩
theorem i148:iF 148 g148:=jF Tryz.func148
def g149:GFun:=⟨⟨2,[]⟩,(s [Z 0] (s [x 1 (.bslice 1 [] 13 false [(0,(.k (.val (.string (ByteArray.mk #[105,102]))))),(1,(.k (.val (.string (ByteArray.mk #[116,104,101,110]))))),(2,(.k (.val (.string (ByteArray.mk #[101,108,115,101]))))),
 (3,(.k (.val (.string (ByteArray.mk #[116,114,117,101]))))),(4,(.k (.val (.string (ByteArray.mk #[102,97,108,115,101]))))),(5,(.k (.val (.string (ByteArray.mk #[108,105,116]))))),(6,(.k (.val (.string (ByteArray.mk #[110,111,110,101]))))),
 (7,(.k (.val (.string (ByteArray.mk #[115,101,108,102]))))),(8,(.k (.val (.string (ByteArray.mk #[111,102]))))),(9,(.k (.val (.string (ByteArray.mk #[109,97,120]))))),(10,(.k (.val (.string (ByteArray.mk #[109,105,110]))))),(11,(.k (.val
 (.string (ByteArray.mk #[119,105,116,104]))))),(12,(.k (.val (.string (ByteArray.mk #[104,97,115])))))]),m 0 1] R)),[.t 0]⟩
theorem i149:iF 149 g149:=jF Tryz.func149
def g150:GFun:=⟨⟨10,[]⟩,(s [k 4 0] (S (s [m 5 0,m 6 1,o 7 .gtr 5 6] (D 7 (s [m 8 0,m 4 8] R) F)) (s [m 9 1,m 4 9] R))),[.t 4]⟩
theorem i150:iF 150 g150:=jF Tryz.func150
def g151:GFun:=⟨⟨61,[1]⟩,(s [a 1 7 0,b 2 false] (S (s [f 3 0 1,l 4 3,c 5 72 [.t 4,K 1,K 8],w 6 5,m 7 6,z 8 7 (j 7 1),z 9 7 (.call false 180 [.t 8]),z 10 7 (.not (.t 9)),O 11 7 10] (D 11 (s [b 2 false] R) F)) (S (s [f 12 0 1,l 13 12]
 (.block 0 (s [q 15 .eql 13 1,m 14 15] (D 14 (s [f 16 3 1,l 17 16,c 18 72 [.t 17,K 1,K 3],m 19 18,y 20 19 (p 1 1 1),y 21 19 (r 1 20),y 22 19 (p 1 3 1),y 23 19 (r 1 22),y 24 19 (.call false 152 [.t 21,.t 23]),A 25 19 24,m 26 25,y 27 26
 (p 1 1 1),y 28 26 (r 1 27),y 29 26 (.bin .geq (.t 28) (K 0)),A 30 26 29,m 2 30] R) (s [q 32 .eql 13 3,m 31 32] (D 31 (s [f 33 2 1,l 34 33,c 35 72 [.t 34,K 0,K 3],m 36 35,y 37 36 (p 1 5 1),y 38 36 (r 1 37),y 39 36 (.call false 71 [.t 38]),
 A 40 36 39,m 2 40] R) (s [q 42 .eql 13 6,m 41 42] (D 41 (s [f 43 2 1,l 44 43,c 45 72 [.t 44,K 0,K 3],m 2 45] R) (s [q 47 .eql 13 4,m 46 47] (D 46 (s [f 48 1 1,l 49 48,c 50 72 [.t 49,K 1,K 12],m 2 50] R) (s [q 52 .eql 13 8,m 51 52] (D 51
 (s [f 53 4 1,l 54 53,c 55 71 [.t 54],m 56 55,y 57 56 (p 1 5 1),y 58 56 (r 1 57),y 59 56 (.call false 71 [.t 58]),A 60 56 59,m 2 60] R) F)))))))))))) (s [b 2 true] R)))),[.t 2]⟩
theorem i151:iF 151 g151:=jF Tryz.func151
def g152:GFun:=⟨⟨14,[]⟩,(s [b 4 false] (s [m 5 1,c 6 72 [.t 5,K 1,K 4],m 7 6,M 8 7 0,M 9 7 1,y 10 7 (.call false 181 [.t 8,.t 9]),M 11 7 0,y 12 7 (.bin .eql (.t 10) (.t 11)),A 13 7 12,m 4 13] R)),[.t 4]⟩
theorem i152:iF 152 g152:=jF Tryz.func152
def g153:GFun:=⟨⟨22,[1]⟩,(s [a 1 7 0,k 2 0] (S (s [f 3 0 1,l 4 3] (.block 0 (s [q 6 .eql 4 5,m 5 6] (D 5 (s [k 2 0] R) (s [q 8 .eql 4 4,m 7 8] (D 7 (s [f 9 1 1,l 10 9] (.block 1 (S (s [q 12 .eql 10 9,m 11 12] (D 11 F
 (.reg [q 13 .eql 10 10,m 11 13]))) (D 11 (s [k 2 1] R) (S (s [q 15 .eql 10 1,m 14 15] (D 14 F (s [q 16 .eql 10 2,m 14 16] (D 14 F (s [q 17 .eql 10 6,m 14 17] (D 14 F (.reg [q 18 .eql 10 8,m 14 18]))))))) (D 14 (s [k 2 2] R) (S
 (s [q 20 .eql 10 3,m 19 20] (D 19 F (.reg [q 21 .eql 10 7,m 19 21]))) (D 19 (s [k 2 3] R) F)))))))) F)))))) (s [k 2 4] R))),[.t 2]⟩
theorem i153:iF 153 g153:=jF Tryz.func153
def g154:GFun:=⟨⟨97,[4]⟩,(s [u 4 4,k 5 0] (s [m 10 1,x 11 (.build [(.val (.int .i64 0)),(.val (.int .i64 0)),(.val (.int .i64 0)),(.val (.string (ByteArray.mk #[])))] [(2,(1,(.t 10)))]),x 6 (.alloc 4 (.agg [(.val (.int .i64 0)),(.val
 (.int .i64 0)),(.val (.int .i64 0)),(.val (.string (ByteArray.mk #[])))])),(.mk none none (.store 4 (.t 6) (.t 11)))] (s [m 12 1,m 7 12] (S (.block 0 (s [m 25 0,m 26 1,x 27 (.idx (.t 25) (.t 26)),c 28 182 [.t 27],m 24 28] (D 24 (S (B 1
 (S (s [m 29 7,m 30 0,x 31 (.slen (.t 30)),o 32 .lss 29 31,m 33 32,M 34 33 0,M 35 33 7,y 36 33 (.idx (.t 34) (.t 35)),y 37 33 (.call false 182 [.t 36]),M 38 33 37,N 39 38 0,N 40 38 7,z 41 38 (.idx (.t 39) (.t 40)),z 42 38
 (.call false 183 [.t 41]),y 43 33 (.pick (.t 38) (.k (.val (.bool true))) (.t 42)),A 44 33 43] (D 44 F (.exit 1))) (.block 2 (.reg [m 45 7,q 46 .add 45 1,m 7 46])))) (s [f 47 0 6,(.mk none none (.store 1 (.t 47) (K 1)))] (s [m 48 0,m 49 1,
 m 50 7,x 51 (.sslc (.t 48) (some (.t 49)) (some (.t 50))),f 52 3 6,(.mk none none (.store 1 (.t 52) (.t 51)))] (s [m 53 7,m 54 1,o 55 .sub 53 54,q 56 .gtr 55 8] (D 56 (s [h 57 4 6,t 4 4 57,k 5 0] R) F))))) (s [m 59 0,m 60 1,x 61 (.idx
 (.t 59) (.t 60)),c 62 183 [.t 61],m 58 62] (D 58 (S (B 3 (S (s [m 63 7,m 64 0,x 65 (.slen (.t 64)),o 66 .lss 63 65,m 67 66,M 68 67 0,M 69 67 7,y 70 67 (.idx (.t 68) (.t 69)),y 71 67 (.call false 183 [.t 70]),A 72 67 71] (D 72 F
 (.exit 3))) (.block 4 (.reg [m 73 7,q 74 .add 73 1,m 7 74])))) (s [m 76 0,m 77 1,m 78 7,x 79 (.sslc (.t 76) (some (.t 77)) (some (.t 78))),c 80 184 [.t 79],m 75 80,v 81 75 0,v 82 75 1,m 8 81,m 9 82] (s [f 83 0 6,(.mk none none (.store 1
 (.t 83) (K 2)))] (s [m 84 8,f 85 1 6,(.mk none none (.store 1 (.t 85) (.t 84)))] (s [m 86 9,w 87 86,m 88 87,N 89 88 8,z 90 88 (.bin .gtr (.t 89) (K 1000000)),O 91 88 90] (D 91 (s [h 92 4 6,t 4 4 92,k 5 0] R) F)))))) (s [m 13 1,m 14 0,
 m 15 1,c 16 185 [.t 14,.t 15],o 17 .add 13 16,m 7 17] (s [f 18 0 6,(.mk none none (.store 1 (.t 18) (K 3)))] (.reg [m 19 0,m 20 1,m 21 7,x 22 (.sslc (.t 19) (some (.t 20)) (some (.t 21))),f 23 3 6,(.mk none none (.store 1 (.t 23)
 (.t 22)))])))))))) (s [h 93 4 6,m 94 7,m 95 1,o 96 .sub 94 95,t 4 4 93,m 5 96] R))))),[(.c 4 4 true),.t 5]⟩
theorem i154:iF 154 g154:=jF Tryz.func154
def g155:GFun:=⟨⟨36,[]⟩,(s [b 4 false] (s [m 5 0,x 6 (.nck (.t 5)),f 7 3 6,l 8 7,q 9 .lss 8 0,m 10 9,M 11 10 0,y 12 10 (.nck (.t 11)),y 13 10 (p 1 1 12),M 15 10 0,y 16 10 (.nck (.t 15)),y 17 10 (p 1 0 16),y 14 10 (r 1 13),y 18 10
 (r 1 17),y 19 10 (.len (.t 18)),y 20 10 (.bin .lss (.t 14) (.t 19)),A 21 10 20,m 22 21,M 23 22 0,y 24 22 (.nck (.t 23)),y 25 22 (p 1 0 24),M 27 22 0,y 28 22 (.nck (.t 27)),y 29 22 (p 1 1 28),M 33 22 1,y 26 22 (r 1 25),y 30 22 (r 1 29),
 y 31 22 (.iaddr 4 (.t 26) (.t 30)),y 32 22 (j 4 31),y 34 22 (.call true 186 [.t 32,.t 33]),A 35 22 34,m 4 35] R)),[.t 4]⟩
theorem i155:iF 155 g155:=jF Tryz.func155
def g156:GFun:=⟨⟨39,[4,6034005]⟩,(s [u 4 7] (S (s [m 7 1,q 8 .gtr 7 3] (D 8 (s [m 9 0,c 10 187 [.t 9],t 4 7 10] R) F)) (s [m 11 0,m 12 1,q 13 .add 12 1,c 14 156 [.t 11,.t 13],x 5 (.alloc 7 (.agg [(.val (.int .i64 0)),(.val
 (.int .i64 0)),(.val (.int .i64 0)),(.val (.int .i64 0)),(.val (.string (ByteArray.mk #[]))),(.val (.string (ByteArray.mk #[]))),(.val (.slice none 0 0))])),(.mk none none (.store 7 (.t 5) (.t 14)))] (B 0 (.block 1 (s [m 15 0,m 16 1,
 c 17 188 [.t 15,.t 16],m 6 17] (S (s [m 18 6,q 19 .eql 18 0] (D 19 (s [h 20 7 5,t 4 7 20] R) F)) (s [m 21 0,m 22 0,x 23 (.nck (.t 22)),f 24 1 23,l 25 24,q 26 .add 25 1,x 27 (.nck (.t 21)),f 28 1 27,(.mk none none (.store 1 (.t 28)
 (.t 26)))] (s [m 29 6,m 31 0,m 32 1,q 33 .add 32 1,h 30 7 5,x 34 (.callk [5] 156 [.t 31,.t 33]),c 35 98 [.t 29,.t 30,.t 34],(.mk none none (.store 7 (.t 5) (.t 35)))] (s [m 36 1,q 37 .eql 36 1] (D 37 (s [h 38 7 5,t 4 7 38] R) F))))))))))),
 [(.c 4 7 true)]⟩
theorem i156:iF 156 g156:=jF Tryz.func156 [(8,4)]
def g157:GFun:=⟨⟨18,[]⟩,(S (s [m 4 0,m 5 1,c 6 155 [.t 4,.t 5],w 7 6] (D 7 (s [m 8 0,c 9 124 [.t 8]] R) F)) (.reg [m 10 0,m 11 0,x 12 (.nck (.t 11)),f 13 1 12,l 14 13,q 15 .add 14 1,x 16 (.nck (.t 10)),f 17 1 16,(.mk none none
 (.store 1 (.t 17) (.t 15)))])),[]⟩
theorem i157:iF 157 g157:=jF Tryz.func157
def g158:GFun:=⟨⟨19,[]⟩,(s [k 4 0] (S (s [m 6 0,n 7 6,k 8 0] (B 0 (s [o 9 .lss 8 7] (C 9 0 (S (.block 1 (s [m 10 8,m 5 10] (s [m 11 1,m 12 0,m 13 5,i 14 7 12 13,h 15 7 14,x 16 (.callv false (.t 11) [.t 15])] (D 16 (s [m 17 5,
 m 4 17] R) F)))) (.reg [q 18 .add 8 1,m 8 18])))))) (s [k 4 (-1)] R))),[.t 4]⟩
theorem i158:iF 158 g158:=jF Tryz.func158
def g159:GFun:=⟨⟨27,[]⟩,(s [b 4 false] (S (s [m 6 0,n 7 6,m 8 1,n 9 8,o 10 .neq 7 9] (D 10 (s [b 4 false] R) F)) (S (s [k 5 0] (B 0 (S (s [m 11 5,m 12 0,n 13 12,o 14 .lss 11 13] (D 14 F (.exit 0))) (S (.block 1 (s [m 17 0,m 18 5,
 i 19 7 17 18,m 21 1,m 22 5,i 23 7 21 22,h 20 7 19,h 24 7 23,G 25 132 [.t 20,.t 24],w 26 25] (D 26 (s [b 4 false] R) F))) (.reg [m 15 5,q 16 .add 15 1,m 5 16]))))) (s [b 4 true] R)))),[.t 4]⟩
theorem i159:iF 159 g159:=jF Tryz.func159
def g164:GFun:=⟨⟨6,[]⟩,(s [k 2 0] (s [m 3 0,x 4 (.mn (.t 3) (K 1000000)),x 5 (.mx (.t 4) (K (-1000000))),m 2 5] R)),[.t 2]⟩
theorem i164:iF 164 g164:=jF Tryz.func164
def g165:GFun:=⟨⟨4,[]⟩,(s [k 2 0] (S (s [m 3 0] (D 3 (s [k 2 1] R) F)) (s [k 2 0] R))),[.t 2]⟩
theorem i165:iF 165 g165:=jF Tryz.func165
def g175:GFun:=⟨⟨36,[]⟩,(s [b 4 false] (s [m 5 0,x 6 (.nck (.t 5)),f 7 2 6,l 8 7,w 9 8,m 10 9,M 11 10 0,y 12 10 (.nck (.t 11)),y 13 10 (p 1 1 12),M 15 10 0,y 16 10 (.nck (.t 15)),y 17 10 (p 1 0 16),y 14 10 (r 1 13),y 18 10 (r 1 17),
 y 19 10 (.len (.t 18)),y 20 10 (.bin .lss (.t 14) (.t 19)),A 21 10 20,m 22 21,M 23 22 0,y 24 22 (.nck (.t 23)),y 25 22 (p 1 0 24),M 27 22 0,y 28 22 (.nck (.t 27)),y 29 22 (p 1 1 28),M 33 22 1,y 26 22 (r 1 25),y 30 22 (r 1 29),y 31 22
 (.iaddr 4 (.t 26) (.t 30)),y 32 22 (j 4 31),y 34 22 (.call true 198 [.t 32,.t 33]),A 35 22 34,m 4 35] R)),[.t 4]⟩
theorem i175:iF 175 g175:=jF Tryz.func175
def g176:GFun:=⟨⟨146,[2,3,6,7,8]⟩,(s [u 2 7] (S (s [m 11 0,x 12 (.nck (.t 11)),f 13 2 12,l 14 13,m 15 14,N 16 15 0,z 17 15 (.nck (.t 16)),z 18 15 (p 1 1 17),N 20 15 0,z 21 15 (.nck (.t 20)),z 22 15 (p 1 0 21),z 19 15 (r 1 18),z 23 15
 (r 1 22),z 24 15 (.len (.t 23)),z 25 15 (.bin .geq (.t 19) (.t 24)),O 26 15 25] (D 26 (s [m 27 0,x 28 (.nck (.t 27)),f 29 2 28,(.mk none none (.store 1 (.t 29) (.k (.val (.bool true)))))] (s [x 30 (.build [(.val (.int .i64 0)),(.val
 (.int .i64 0)),(.val (.int .i64 0)),(.val (.int .i64 0)),(.val (.string (ByteArray.mk #[]))),(.val (.string (ByteArray.mk #[]))),(.val (.slice none 0 0))] []),t 2 7 30] R)) F)) (s [m 31 0,x 32 (.nck (.t 31)),f 33 0 32,m 35 0,x 36 (.nck
 (.t 35)),f 37 1 36,u 3 4,l 34 33,l 38 37,i 39 4 34 38,h 40 4 39,t 3 4 40] (S (.block 0 (s [f 42 0 3,l 43 42,q 44 .eql 43 2,m 41 44] (D 41 (s [m 45 0,c 46 200 [.t 45,K 0,K 1000000],c 47 199 [.t 46,K 1],t 2 7 47] R) (s [m 49 0,x 50
 (.call false 142 [.t 49,(.k (.val (.string (ByteArray.mk #[123]))))]),m 48 50] (D 48 (s [m 51 0,c 52 201 [.t 51],t 2 7 52] R) (s [m 54 0,x 55 (.call false 142 [.t 54,(.k (.val (.string (ByteArray.mk #[116,114,117,101]))))]),m 53 55]
 (D 53 (s [c 56 199 [K 1,K 3],t 2 7 56] R) (s [m 58 0,x 59 (.call false 142 [.t 58,(.k (.val (.string (ByteArray.mk #[102,97,108,115,101]))))]),m 57 59] (D 57 (s [c 60 199 [K 0,K 3],t 2 7 60] R) (s [m 62 0,x 63 (.call false 142 [.t 62,(.k
 (.val (.string (ByteArray.mk #[108,105,116]))))]),m 61 63] (D 61 (s [x 64 (.build [(.val (.int .i64 0)),(.val (.int .i64 0)),(.val (.int .i64 0)),(.val (.int .i64 0)),(.val (.string (ByteArray.mk #[]))),(.val (.string (ByteArray.mk #[]))),
 (.val (.slice none 0 0))] [(0,(1,(K 2)))]),t 2 7 64] R) (s [m 66 0,x 67 (.call false 142 [.t 66,(.k (.val (.string (ByteArray.mk #[110,111,110,101]))))]),m 65 67] (D 65 (s [x 68 (.build [(.val (.int .i64 0)),(.val (.int .i64 0)),(.val
 (.int .i64 0)),(.val (.int .i64 0)),(.val (.string (ByteArray.mk #[]))),(.val (.string (ByteArray.mk #[]))),(.val (.slice none 0 0))] [(0,(1,(K 7)))]),t 2 7 68] R) (s [m 70 0,x 71 (.call false 142 [.t 70,(.k (.val (.string
 (ByteArray.mk #[36]))))]),m 69 71] (D 69 (s [m 72 0,c 73 200 [.t 72,K 0,K 3],m 4 73] (s [m 74 0,x 75 (.call false 143 [.t 74,(.k (.val (.string (ByteArray.mk #[46]))))])] (s [m 76 4,m 77 0,c 78 202 [.t 77],x 79 (.build [(.val
 (.int .i64 0)),(.val (.int .i64 0)),(.val (.int .i64 0)),(.val (.int .i64 0)),(.val (.string (ByteArray.mk #[]))),(.val (.string (ByteArray.mk #[]))),(.val (.slice none 0 0))] [(0,(1,(K 3))),(2,(1,(.t 76))),(5,(1,(.t 78)))]),
 t 2 7 79] R))) (s [m 81 0,x 82 (.call false 142 [.t 81,(.k (.val (.string (ByteArray.mk #[115,101,108,102]))))]),m 80 82] (D 80 (s [m 83 0,x 84 (.call false 143 [.t 83,(.k (.val (.string (ByteArray.mk #[40]))))])] (s [m 85 0,
 c 86 200 [.t 85,K 0,K 3],m 5 86] (s [m 87 0,x 88 (.call false 143 [.t 87,(.k (.val (.string (ByteArray.mk #[41]))))])] (s [m 89 5,x 90 (.build [(.val (.int .i64 0)),(.val (.int .i64 0)),(.val (.int .i64 0)),(.val (.int .i64 0)),(.val
 (.string (ByteArray.mk #[]))),(.val (.string (ByteArray.mk #[]))),(.val (.slice none 0 0))] [(0,(1,(K 6))),(2,(1,(.t 89)))]),t 2 7 90] R)))) (s [m 92 0,x 93 (.call false 142 [.t 92,(.k (.val (.string (ByteArray.mk #[40]))))]),m 91 93]
 (D 91 (s [m 94 0,c 95 111 [.t 94],u 6 7,t 6 7 95] (s [m 96 0,x 97 (.call false 143 [.t 96,(.k (.val (.string (ByteArray.mk #[41]))))])] (s [h 98 7 6,t 2 7 98] R))) (s [f 100 0 3,l 101 100,q 102 .eql 101 1,m 103 102,y 104 103 (p 1 3 3),
 y 105 103 (r 1 104),y 106 103 (.call false 203 [.t 105]),y 107 103 (.bin .neq (.t 106) (K 0)),A 108 103 107,m 99 108] (D 99 (s [m 109 0,x 110 (.nck (.t 109)),f 111 1 110,l 112 111,q 113 .add 112 1,x 114 (.nck (.t 109)),f 115 1 114,
 (.mk none none (.store 1 (.t 115) (.t 113)))] (s [m 116 0,x 117 (.call false 143 [.t 116,(.k (.val (.string (ByteArray.mk #[40]))))])] (s [m 118 0,c 119 111 [.t 118],u 7 7,t 7 7 119] (s [m 120 0,x 121 (.call false 143 [.t 120,(.k (.val
 (.string (ByteArray.mk #[44]))))])] (s [m 122 0,c 123 111 [.t 122],u 8 7,t 8 7 123] (s [m 124 0,x 125 (.call false 143 [.t 124,(.k (.val (.string (ByteArray.mk #[41]))))])] (s [f 126 3 3,x 127 (.loadr 1 false (.t 126)),x 129
 (.loadr 7 true (.t 7)),x 130 (.loadr 7 true (.t 8)),c 128 203 [.t 127],c 131 146 [.t 128,.t 129,.t 130],t 2 7 131] R))))))) F))))))))))))))))))))) (s [m 132 0,c 133 202 [.t 132],m 9 133] (s [m 134 0,x 135 (.call false 143 [.t 134,(.k
 (.val (.string (ByteArray.mk #[46]))))])] (s [m 136 0,c 137 202 [.t 136],m 10 137] (s [m 138 0,x 139 (.call false 143 [.t 138,(.k (.val (.string (ByteArray.mk #[111,102]))))])] (s [m 140 9,m 141 10,m 142 0,c 143 176 [.t 142],x 144
 (.bslice 7 [] 1 true [(0,(.t 143))]),x 145 (.build [(.val (.int .i64 0)),(.val (.int .i64 0)),(.val (.int .i64 0)),(.val (.int .i64 0)),(.val (.string (ByteArray.mk #[]))),(.val (.string (ByteArray.mk #[]))),(.val (.slice none 0 0))] [(0,
 (1,(K 8))),(4,(1,(.t 140))),(5,(1,(.t 141))),(6,(1,(.t 144)))]),t 2 7 145] R))))))))),[(.c 2 7 true)]⟩
theorem i176:iF 176 g176:=jF Tryz.func176 [(37,3)]
def g177:GFun:=⟨⟨36,[2]⟩,(s [a 2 4 0,k 4 0] (S (s [f 6 0 2,l 7 6,q 8 .neq 7 3] (D 8 (s [k 4 0] R) F)) (s [k 5 0] (S (s [f 9 3 2,l 10 9] (.block 0 (s [x 12 (.bin .eql (.t 10) (.k (.val (.string (ByteArray.mk #[60]))))),m 11 12] (D 11
 (.reg [k 5 9]) (s [x 14 (.bin .eql (.t 10) (.k (.val (.string (ByteArray.mk #[61,61]))))),m 13 14] (D 13 (.reg [k 5 10]) (s [x 16 (.bin .eql (.t 10) (.k (.val (.string (ByteArray.mk #[43]))))),m 15 16] (D 15 (.reg [k 5 1]) (s [x 18
 (.bin .eql (.t 10) (.k (.val (.string (ByteArray.mk #[45]))))),m 17 18] (D 17 (.reg [k 5 2]) (s [x 20 (.bin .eql (.t 10) (.k (.val (.string (ByteArray.mk #[124]))))),m 19 20] (D 19 (.reg [k 5 6]) (s [x 22 (.bin .eql (.t 10) (.k (.val
 (.string (ByteArray.mk #[92]))))),m 21 22] (D 21 (.reg [k 5 8]) (s [x 24 (.bin .eql (.t 10) (.k (.val (.string (ByteArray.mk #[42]))))),m 23 24] (D 23 (.reg [k 5 3]) (s [x 26 (.bin .eql (.t 10) (.k (.val (.string (ByteArray.mk #[38]))))),
 m 25 26] (D 25 (.reg [k 5 7]) F)))))))))))))))))) (S (s [m 27 5,q 28 .eql 27 0,m 29 28,N 30 29 5,z 31 29 (.call false 103 [.t 30]),N 32 29 1,z 33 29 (.bin .neq (.t 31) (.t 32)),O 34 29 33] (D 34 (s [k 4 0] R) F)) (s [m 35 5,
 m 4 35] R)))))),[.t 4]⟩
theorem i177:iF 177 g177:=jF Tryz.func177
def g180:GFun:=⟨⟨86,[1]⟩,(s [a 1 7 0,b 2 false] (s [k 3 0] (S (s [f 7 0 1,l 8 7] (.block 0 (s [q 10 .eql 8 4,m 9 10] (D 9 (.reg [k 3 2]) (s [q 12 .eql 8 5,m 11 12] (D 11 (.reg [k 3 3]) (s [q 14 .eql 8 8,m 13 14] (D 13
 (.reg [k 3 1]) F)))))))) (S (s [f 15 6 1,l 16 15,n 17 16,m 18 3,o 19 .neq 17 18] (D 19 (s [b 2 false] R) F)) (s [f 20 0 1,l 21 20,q 22 .eql 21 3,m 23 22,z 24 23 (p 1 0 1),z 25 23 (r 1 24),J 26 23 25 6,O 27 23 26,m 4 27] (s [f 28 0 1,
 l 29 28,q 30 .eql 29 3,m 31 30,z 32 31 (p 1 0 1),z 33 31 (r 1 32),J 34 31 33 8,O 35 31 34,m 5 35] (s [f 36 0 1,l 37 36,q 38 .eql 37 1,m 39 38,z 40 39 (p 1 0 1),z 41 39 (r 1 40),J 42 39 41 4,O 43 39 42,m 6 43] (s [m 44 4,m 45 44,z 46 45
 (p 1 2 1),z 47 45 (r 1 46),J 48 45 47 0,O 49 45 48,m 50 49,M 51 50 5,M 52 50 51,z 53 52 (p 1 5 1),z 54 52 (r 1 53),z 55 52 (.bin .eql (.t 54) (.k (.val (.string (ByteArray.mk #[]))))),y 56 50 (.pick (.t 52) (.k (.val (.bool true)))
 (.t 55)),A 57 50 56,m 58 57,M 59 58 6,M 60 58 59,z 61 60 (p 1 1 1),z 62 60 (r 1 61),J 63 60 62 0,y 64 58 (.pick (.t 60) (.k (.val (.bool true))) (.t 63)),A 65 58 64,m 66 65,y 67 66 (p 1 0 1),y 68 66 (r 1 67),I 69 66 68 1,M 70 66 69,
 z 71 70 (p 1 3 1),z 72 70 (r 1 71),J 73 70 72 0,y 74 66 (.pick (.t 70) (.k (.val (.bool true))) (.t 73)),A 75 66 74,m 76 75,y 77 76 (p 1 0 1),y 78 76 (r 1 77),I 79 76 78 8,M 80 76 79,z 81 80 (p 1 4 1),z 82 80 (r 1 81),z 83 80 (.bin .eql
 (.t 82) (.k (.val (.string (ByteArray.mk #[]))))),y 84 76 (.pick (.t 80) (.k (.val (.bool true))) (.t 83)),A 85 76 84,m 2 85] R)))))))),[.t 2]⟩
theorem i180:iF 180 g180:=jF Tryz.func180
def g181:GFun:=⟨⟨24,[]⟩,(s [k 4 0] (S (s [m 5 1] (.block 0 (s [q 7 .eql 5 1,m 6 7] (D 6 (s [m 8 0,c 9 209 [.t 8],m 4 9] R) (s [q 11 .eql 5 2,m 10 11] (D 10 (s [m 12 0,q 13 .and 12 4095,m 4 13] R) (s [q 15 .eql 5 3,m 14 15] (D 14
 (s [m 16 0,q 17 .neq 16 0,c 18 210 [.t 17],m 4 18] R) (s [q 20 .eql 5 4,m 19 20] (D 19 (s [m 21 0,c 22 72 [.t 21,K 0,K 999]] (D 22 (s [m 23 0,m 4 23] R) F)) F)))))))))) (s [k 4 0] R))),[.t 4]⟩
theorem i181:iF 181 g181:=jF Tryz.func181
def g182:GFun:=⟨⟨9,[]⟩,(s [b 2 false] (s [m 3 0,x 4 (.bin .geq (.t 3) (.k (.val (.int .u8 97)))),m 5 4,M 6 5 0,y 7 5 (.bin .leq (.t 6) (.k (.val (.int .u8 122)))),A 8 5 7,m 2 8] R)),[.t 2]⟩
theorem i182:iF 182 g182:=jF Tryz.func182
def g183:GFun:=⟨⟨9,[]⟩,(s [b 2 false] (s [m 3 0,x 4 (.bin .geq (.t 3) (.k (.val (.int .u8 48)))),m 5 4,M 6 5 0,y 7 5 (.bin .leq (.t 6) (.k (.val (.int .u8 57)))),A 8 5 7,m 2 8] R)),[.t 2]⟩
theorem i183:iF 183 g183:=jF Tryz.func183
def g184:GFun:=⟨⟨8,[]⟩,(s [k 2 0,b 3 false] (s [m 4 0,c 5 211 [.t 4,K 12],v 6 5 0,v 7 5 1,m 2 6,m 3 7] R)),[.t 2,.t 3]⟩
theorem i184:iF 184 g184:=jF Tryz.func184
def g185:GFun:=⟨⟨37,[]⟩,(s [k 4 0] (S (s [m 5 0,m 6 1,x 7 (.idx (.t 5) (.t 6))] (.block 0 (S (s [x 9 (.bin .eql (.t 7) (.k (.val (.int .u8 40)))),m 8 9] (D 8 F (s [x 10 (.bin .eql (.t 7) (.k (.val (.int .u8 41)))),m 8 10] (D 8 F
 (s [x 11 (.bin .eql (.t 7) (.k (.val (.int .u8 123)))),m 8 11] (D 8 F (s [x 12 (.bin .eql (.t 7) (.k (.val (.int .u8 125)))),m 8 12] (D 8 F (s [x 13 (.bin .eql (.t 7) (.k (.val (.int .u8 44)))),m 8 13] (D 8 F (s [x 14 (.bin .eql (.t 7)
 (.k (.val (.int .u8 46)))),m 8 14] (D 8 F (s [x 15 (.bin .eql (.t 7) (.k (.val (.int .u8 36)))),m 8 15] (D 8 F (s [x 16 (.bin .eql (.t 7) (.k (.val (.int .u8 43)))),m 8 16] (D 8 F (s [x 17 (.bin .eql (.t 7) (.k (.val (.int .u8 45)))),
 m 8 17] (D 8 F (s [x 18 (.bin .eql (.t 7) (.k (.val (.int .u8 42)))),m 8 18] (D 8 F (s [x 19 (.bin .eql (.t 7) (.k (.val (.int .u8 60)))),m 8 19] (D 8 F (s [x 20 (.bin .eql (.t 7) (.k (.val (.int .u8 124)))),m 8 20] (D 8 F (s [x 21
 (.bin .eql (.t 7) (.k (.val (.int .u8 38)))),m 8 21] (D 8 F (.reg [x 22 (.bin .eql (.t 7) (.k (.val (.int .u8 92)))),m 8 22]))))))))))))))))))))))))))) (D 8 (s [k 4 1] R) (s [x 24 (.bin .eql (.t 7) (.k (.val (.int .u8 61)))),m 23 24]
 (D 23 (s [m 25 1,q 26 .add 25 1,m 27 0,x 28 (.slen (.t 27)),o 29 .lss 26 28,m 30 29,M 31 30 0,M 32 30 1,y 33 30 (.bin .add (.t 32) (K 1)),y 34 30 (.idx (.t 31) (.t 33)),y 35 30 (.bin .eql (.t 34) (.k (.val (.int .u8 61)))),A 36 30 35]
 (D 36 (s [k 4 2] R) F)) F)))))) (s [k 4 0] R))),[.t 4]⟩
theorem i185:iF 185 g185:=jF Tryz.func185
def g186:GFun:=⟨⟨19,[2]⟩,(s [a 2 4 0,b 4 false] (s [f 5 0 2,l 6 5,q 7 .eql 6 1,m 8 7,z 9 8 (p 1 0 2),z 10 8 (r 1 9),J 11 8 10 3,O 12 8 11,m 13 12,y 14 13 (p 1 3 2),y 15 13 (r 1 14),M 16 13 1,y 17 13 (.bin .eql (.t 15) (.t 16)),
 A 18 13 17,m 4 18] R)),[.t 4]⟩
theorem i186:iF 186 g186:=jF Tryz.func186
def g187:GFun:=⟨⟨128,[2,3,4]⟩,(s [u 2 7] (S (s [m 5 0,x 6 (.nck (.t 5)),f 7 3 6,l 8 7,q 9 .geq 8 0,m 10 9,N 11 10 0,z 12 10 (.nck (.t 11)),z 13 10 (p 1 1 12),N 15 10 0,z 16 10 (.nck (.t 15)),z 17 10 (p 1 0 16),z 14 10 (r 1 13),z 18 10
 (r 1 17),z 19 10 (.len (.t 18)),z 20 10 (.bin .geq (.t 14) (.t 19)),O 21 10 20] (D 21 (s [m 22 0,c 23 124 [.t 22],t 2 7 23] R) F)) (s [m 24 0,x 25 (.nck (.t 24)),f 26 0 25,m 28 0,x 29 (.nck (.t 28)),f 30 1 29,u 3 4,l 27 26,l 31 30,
 i 32 4 27 31,h 33 4 32,t 3 4 33] (S (.block 0 (s [f 35 0 3,l 36 35,q 37 .eql 36 2,m 34 37] (D 34 (s [m 38 0,f 39 1 3,l 40 39,c 41 90 [.t 40,K 1],c 42 212 [.t 38,.t 41],t 2 7 42] R) (s [h 44 4 3,x 45 (.call false 186 [.t 44,(.k (.val
 (.string (ByteArray.mk #[123]))))]),m 43 45] (D 43 (s [m 46 0,c 47 213 [.t 46],t 2 7 47] R) (s [h 49 4 3,x 50 (.call false 186 [.t 49,(.k (.val (.string (ByteArray.mk #[116,114,117,101]))))]),m 51 50,z 52 51 (j 4 3),z 53 51
 (.call false 186 [.t 52,(.k (.val (.string (ByteArray.mk #[102,97,108,115,101]))))]),O 54 51 53,m 48 54] (D 48 (s [m 55 0,f 56 3 3,l 57 56,x 58 (.bin .eql (.t 57) (.k (.val (.string (ByteArray.mk #[116,114,117,101]))))),c 59 210 [.t 58],
 c 60 90 [.t 59,K 3],c 61 212 [.t 55,.t 60],t 2 7 61] R) (s [h 63 4 3,x 64 (.call false 186 [.t 63,(.k (.val (.string (ByteArray.mk #[108,105,116]))))]),m 62 64] (D 62 (s [m 65 0,x 66 (.build [(.val (.int .i64 0)),(.val (.int .i64 0)),
 (.val (.int .i64 0)),(.val (.int .i64 0)),(.val (.string (ByteArray.mk #[]))),(.val (.string (ByteArray.mk #[]))),(.val (.slice none 0 0))] [(0,(1,(K 2)))]),c 67 212 [.t 65,.t 66],t 2 7 67] R) (s [h 69 4 3,x 70 (.call false 186 [.t 69,
 (.k (.val (.string (ByteArray.mk #[110,111,110,101]))))]),m 68 70] (D 68 (s [m 71 0,x 72 (.build [(.val (.int .i64 0)),(.val (.int .i64 0)),(.val (.int .i64 0)),(.val (.int .i64 0)),(.val (.string (ByteArray.mk #[]))),(.val (.string
 (ByteArray.mk #[]))),(.val (.slice none 0 0))] [(0,(1,(K 7)))]),c 73 212 [.t 71,.t 72],t 2 7 73] R) (s [h 75 4 3,x 76 (.call false 186 [.t 75,(.k (.val (.string (ByteArray.mk #[36]))))]),m 74 76] (D 74 (s [m 77 0,c 78 214 [.t 77],
 t 2 7 78] R) (s [h 80 4 3,x 81 (.call false 186 [.t 80,(.k (.val (.string (ByteArray.mk #[115,101,108,102]))))]),m 79 81] (D 79 (s [m 82 0,c 83 215 [.t 82],t 2 7 83] R) (s [h 85 4 3,x 86 (.call false 186 [.t 85,(.k (.val (.string
 (ByteArray.mk #[40]))))]),m 84 86] (D 84 (s [m 87 0,m 88 0,x 89 (.nck (.t 88)),f 90 1 89,l 91 90,q 92 .add 91 1,x 93 (.nck (.t 87)),f 94 1 93,(.mk none none (.store 1 (.t 94) (.t 92)))] (s [m 95 0,c 96 123 [.t 95],u 4 7,t 4 7 96]
 (s [m 97 0,x 98 (.call false 157 [.t 97,(.k (.val (.string (ByteArray.mk #[41]))))])] (s [h 99 7 4,t 2 7 99] R)))) (s [f 101 0 3,l 102 101,q 103 .eql 102 1,m 104 103,y 105 104 (p 1 3 3),y 106 104 (r 1 105),y 107 104
 (.call false 216 [.t 106]),y 108 104 (.bin .gtr (.t 107) (K 0)),A 109 104 108,m 100 109] (D 100 (s [m 110 0,f 111 3 3,l 112 111,c 113 216 [.t 112],c 114 217 [.t 110,.t 113],t 2 7 114] R) (s [f 116 0 3,l 117 116,q 118 .eql 117 1,m 119 118,
 y 120 119 (p 1 3 3),y 121 119 (r 1 120),y 122 119 (.call false 71 [.t 121]),A 123 119 122,m 115 123] (D 115 (s [m 124 0,c 125 218 [.t 124],t 2 7 125] R) F))))))))))))))))))))) (s [m 126 0,c 127 124 [.t 126],t 2 7 127] R))))),
 [(.c 2 7 true)]⟩
theorem i187:iF 187 g187:=jF Tryz.func187
def g188:GFun:=⟨⟨40,[3000008,3000009,3000010,3000011,3000016,3000017,3000018,3000019]⟩,(s [k 4 0] (s [x 8 (.bslro 1 [] 2 false [(0,(.k (.val (.string (ByteArray.mk #[60]))))),(1,(.k (.val (.string (ByteArray.mk #[61,61])))))]),x 9
 (.bslro 1 [] 4 false [(0,(.k (.val (.string (ByteArray.mk #[43]))))),(1,(.k (.val (.string (ByteArray.mk #[45]))))),(2,(.k (.val (.string (ByteArray.mk #[124]))))),(3,(.k (.val (.string (ByteArray.mk #[92])))))]),x 10
 (.bslro 1 [] 2 false [(0,(.k (.val (.string (ByteArray.mk #[42]))))),(1,(.k (.val (.string (ByteArray.mk #[38])))))]),x 11 (.bslro 1 [] 3 false [(0,(.t 8)),(1,(.t 9)),(2,(.t 10))]),m 12 1,q 13 .sub 12 1,i 14 1 11 13,l 15 14,m 5 15]
 (s [x 16 (.bslro 1 [] 2 false [(0,(K 9)),(1,(K 10))]),x 17 (.bslro 1 [] 4 false [(0,(K 1)),(1,(K 2)),(2,(K 6)),(3,(K 8))]),x 18 (.bslro 1 [] 2 false [(0,(K 3)),(1,(K 7))]),x 19 (.bslro 1 [] 3 false [(0,(.t 16)),(1,(.t 17)),(2,(.t 18))]),
 m 20 1,q 21 .sub 20 1,i 22 1 19 21,l 23 22,m 6 23] (S (s [k 7 0] (B 0 (S (s [m 24 7,m 25 5,n 26 25,o 27 .lss 24 26] (D 27 F (.exit 0))) (S (.block 1 (s [m 30 0,m 31 5,m 32 7,i 33 1 31 32,l 34 33,c 35 155 [.t 30,.t 34]] (D 35 (s [m 36 6,
 m 37 7,i 38 1 36 37,l 39 38,m 4 39] R) F))) (.reg [m 28 7,q 29 .add 28 1,m 7 29]))))) (s [k 4 0] R))))),[.t 4]⟩
theorem i188:iF 188 g188:=jF Tryz.func188
def g198:GFun:=⟨⟨19,[2]⟩,(s [a 2 4 0,b 4 false] (s [f 5 0 2,l 6 5,q 7 .eql 6 1,m 8 7,z 9 8 (p 1 0 2),z 10 8 (r 1 9),J 11 8 10 3,O 12 8 11,m 13 12,y 14 13 (p 1 3 2),y 15 13 (r 1 14),M 16 13 1,y 17 13 (.bin .eql (.t 15) (.t 16)),
 A 18 13 17,m 4 18] R)),[.t 4]⟩
theorem i198:iF 198 g198:=jF Tryz.func198
def g199:GFun:=⟨⟨8,[4]⟩,(s [u 4 7] (s [m 5 0,m 6 1,x 7 (.build [(.val (.int .i64 0)),(.val (.int .i64 0)),(.val (.int .i64 0)),(.val (.int .i64 0)),(.val (.string (ByteArray.mk #[]))),(.val (.string (ByteArray.mk #[]))),(.val
 (.slice none 0 0))] [(0,(1,(K 1))),(1,(1,(.t 5))),(3,(1,(.t 6)))]),t 4 7 7] R)),[(.c 4 7 true)]⟩
theorem i199:iF 199 g199:=jF Tryz.func199
def g200:GFun:=⟨⟨76,[]⟩,(s [k 6 0] (S (s [m 7 0,x 8 (.nck (.t 7)),f 9 2 8,l 10 9,m 11 10,N 12 11 0,z 13 11 (.nck (.t 12)),z 14 11 (p 1 1 13),N 16 11 0,z 17 11 (.nck (.t 16)),z 18 11 (p 1 0 17),z 15 11 (r 1 14),z 19 11 (r 1 18),z 20 11
 (.len (.t 19)),z 21 11 (.bin .geq (.t 15) (.t 20)),O 22 11 21,m 23 22,N 24 23 0,z 25 23 (.nck (.t 24)),z 26 23 (p 1 0 25),N 28 23 0,z 29 23 (.nck (.t 28)),z 30 23 (p 1 1 29),z 27 23 (r 1 26),z 31 23 (r 1 30),z 32 23 (.iaddr 4 (.t 27)
 (.t 31)),z 33 23 (p 1 0 32),z 34 23 (r 1 33),z 35 23 (.bin .neq (.t 34) (K 2)),O 36 23 35,m 37 36,N 38 37 0,z 39 37 (.nck (.t 38)),z 40 37 (p 1 0 39),N 42 37 0,z 43 37 (.nck (.t 42)),z 44 37 (p 1 1 43),N 49 37 1,N 50 37 2,z 41 37 (r 1 40),
 z 45 37 (r 1 44),z 46 37 (.iaddr 4 (.t 41) (.t 45)),z 47 37 (p 1 1 46),z 48 37 (r 1 47),z 51 37 (.call true 46 [.t 48,.t 49,.t 50]),z 52 37 (.not (.t 51)),O 53 37 52] (D 53 (s [m 54 0,x 55 (.nck (.t 54)),f 56 2 55,(.mk none none
 (.store 1 (.t 56) (.k (.val (.bool true)))))] (s [k 6 0] R)) F)) (s [m 57 0,x 58 (.nck (.t 57)),f 59 1 58,l 60 59,q 61 .add 60 1,x 62 (.nck (.t 57)),f 63 1 62,(.mk none none (.store 1 (.t 63) (.t 61)))] (s [m 64 0,x 65 (.nck (.t 64)),
 f 66 0 65,m 68 0,x 69 (.nck (.t 68)),f 70 1 69,l 67 66,l 71 70,q 72 .sub 71 1,i 73 4 67 72,f 74 1 73,l 75 74,m 6 75] R)))),[.t 6]⟩
theorem i200:iF 200 g200:=jF Tryz.func200
def g201:GFun:=⟨⟨35,[2]⟩,(s [u 2 7] (s [k 3 0,k 4 0] (S (B 0 (S (s [m 6 0,x 7 (.nck (.t 6)),f 8 2 7,l 9 8,w 10 9,m 11 10,M 12 11 0,y 13 11 (.call false 175 [.t 12,(.k (.val (.string (ByteArray.mk #[125]))))]),y 14 11 (.not (.t 13)),
 A 15 11 14] (D 15 F (.exit 0))) (.block 1 (s [m 16 0,m 17 4,c 18 200 [.t 16,.t 17,K 11],m 5 18] (s [m 19 0,x 20 (.nck (.t 19)),f 21 2 20,l 22 21,w 23 22] (D 23 (.reg [m 24 3,m 25 5,x 26 (.conv .u64 (.t 25)),x 27 (.bin .shl (K 1) (.t 26)),
 o 28 .or 24 27,m 29 5,q 30 .add 29 1,m 3 28,m 4 30]) F)))))) (s [m 31 0,x 32 (.call false 143 [.t 31,(.k (.val (.string (ByteArray.mk #[125]))))])] (s [m 33 3,c 34 199 [.t 33,K 2],t 2 7 34] R))))),[(.c 2 7 true)]⟩
theorem i201:iF 201 g201:=jF Tryz.func201
def g202:GFun:=⟨⟨70,[]⟩,(s [x 2 (.mov (.k (.val (.string (ByteArray.mk #[])))))] (S (s [m 3 0,x 4 (.nck (.t 3)),f 5 2 4,l 6 5,m 7 6,N 8 7 0,z 9 7 (.nck (.t 8)),z 10 7 (p 1 1 9),N 12 7 0,z 13 7 (.nck (.t 12)),z 14 7 (p 1 0 13),z 11 7
 (r 1 10),z 15 7 (r 1 14),z 16 7 (.len (.t 15)),z 17 7 (.bin .geq (.t 11) (.t 16)),O 18 7 17,m 19 18,N 20 19 0,z 21 19 (.nck (.t 20)),z 22 19 (p 1 0 21),N 24 19 0,z 25 19 (.nck (.t 24)),z 26 19 (p 1 1 25),z 23 19 (r 1 22),z 27 19 (r 1 26),
 z 28 19 (.iaddr 4 (.t 23) (.t 27)),z 29 19 (p 1 0 28),z 30 19 (r 1 29),z 31 19 (.bin .neq (.t 30) (K 1)),O 32 19 31,m 33 32,N 34 33 0,z 35 33 (.nck (.t 34)),z 36 33 (p 1 0 35),N 38 33 0,z 39 33 (.nck (.t 38)),z 40 33 (p 1 1 39),z 37 33
 (r 1 36),z 41 33 (r 1 40),z 42 33 (.iaddr 4 (.t 37) (.t 41)),z 43 33 (p 1 3 42),z 44 33 (r 1 43),z 45 33 (.call true 44 [.t 44]),z 46 33 (.not (.t 45)),O 47 33 46] (D 47 (s [m 48 0,x 49 (.nck (.t 48)),f 50 2 49,(.mk none none (.store 1
 (.t 50) (.k (.val (.bool true)))))] (s [x 2 (.mov (.k (.val (.string (ByteArray.mk #[])))))] R)) F)) (s [m 51 0,x 52 (.nck (.t 51)),f 53 1 52,l 54 53,q 55 .add 54 1,x 56 (.nck (.t 51)),f 57 1 56,(.mk none none (.store 1 (.t 57)
 (.t 55)))] (s [m 58 0,x 59 (.nck (.t 58)),f 60 0 59,m 62 0,x 63 (.nck (.t 62)),f 64 1 63,l 61 60,l 65 64,q 66 .sub 65 1,i 67 4 61 66,f 68 3 67,l 69 68,m 2 69] R)))),[.t 2]⟩
theorem i202:iF 202 g202:=jF Tryz.func202
def g203:GFun:=⟨⟨12,[]⟩,(s [k 2 0] (S (s [m 3 0] (.block 0 (s [x 5 (.bin .eql (.t 3) (.k (.val (.string (ByteArray.mk #[109,97,120]))))),m 4 5] (D 4 (s [k 2 4] R) (s [x 7 (.bin .eql (.t 3) (.k (.val (.string (ByteArray.mk #[109,105,
 110]))))),m 6 7] (D 6 (s [k 2 5] R) (s [x 9 (.bin .eql (.t 3) (.k (.val (.string (ByteArray.mk #[104,97,115]))))),m 8 9] (D 8 (s [k 2 11] R) (s [x 11 (.bin .eql (.t 3) (.k (.val (.string (ByteArray.mk #[119,105,116,104]))))),m 10 11]
 (D 10 (s [k 2 12] R) F)))))))))) (s [k 2 0] R))),[.t 2]⟩
theorem i203:iF 203 g203:=jF Tryz.func203
def g209:GFun:=⟨⟨6,[]⟩,(s [k 2 0] (s [m 3 0,c 4 226 [K 1000000,.t 3],c 5 150 [K (-1000000),.t 4],m 2 5] R)),[.t 2]⟩
theorem i209:iF 209 g209:=jF Tryz.func209
def g210:GFun:=⟨⟨4,[]⟩,(s [k 2 0] (S (s [m 3 0] (D 3 (s [k 2 1] R) F)) (s [k 2 0] R))),[.t 2]⟩
theorem i210:iF 210 g210:=jF Tryz.func210
def g211:GFun:=⟨⟨63,[]⟩,(s [k 4 0,b 5 false] (s [m 10 0,x 11 (.slen (.t 10)),q 12 .gtr 11 0,m 13 12,M 14 13 0,y 15 13 (.idx (.t 14) (K 0)),y 16 13 (.bin .eql (.t 15) (.k (.val (.int .u8 45)))),A 17 13 16,m 6 17] (s [m 18 0,m 7 18] (S
 (s [m 19 6] (D 19 (.reg [m 20 0,x 21 (.sslc (.t 20) (some (K 1)) none),m 7 21]) F)) (S (s [m 22 7,x 23 (.slen (.t 22)),q 24 .lss 23 1,m 25 24,N 26 25 7,z 27 25 (.slen (.t 26)),N 28 25 1,z 29 25 (.bin .gtr (.t 27) (.t 28)),O 30 25 29]
 (D 30 (s [k 4 0,b 5 false] R) F)) (s [k 8 0] (S (s [k 9 0] (B 0 (S (s [m 31 9,m 32 7,x 33 (.slen (.t 32)),o 34 .lss 31 33] (D 34 F (.exit 0))) (S (.block 1 (S (s [m 37 7,m 38 9,x 39 (.idx (.t 37) (.t 38)),x 40 (.bin .lss (.t 39) (.k
 (.val (.int .u8 48)))),m 41 40,N 42 41 7,N 43 41 9,z 44 41 (.idx (.t 42) (.t 43)),z 45 41 (.bin .gtr (.t 44) (.k (.val (.int .u8 57)))),O 46 41 45] (D 46 (s [k 4 0,b 5 false] R) F)) (.reg [m 47 8,x 48 (.bin .mul (K 10) (.t 47)),m 49 7,
 m 50 9,x 51 (.idx (.t 49) (.t 50)),x 52 (.bin .sub (.t 51) (.k (.val (.int .u8 48)))),x 53 (.conv .i64 (.t 52)),o 54 .add 48 53,m 8 54]))) (.reg [m 35 9,q 36 .add 35 1,m 9 36]))))) (S (s [m 55 6] (D 55 (.reg [m 56 8,x 57 (.bin .sub (K 0)
 (.t 56)),m 8 57]) F)) (S (s [m 58 8,c 59 33 [.t 58],m 60 0,o 61 .neq 59 60] (D 61 (s [k 4 0,b 5 false] R) F)) (s [m 62 8,m 4 62,b 5 true] R)))))))))),[.t 4,.t 5]⟩
theorem i211:iF 211 g211:=jF Tryz.func211
def g212:GFun:=⟨⟨14,[3,4]⟩,(s [a 3 7 1,u 4 7] (s [m 5 0,m 6 0,x 7 (.nck (.t 6)),f 8 1 7,l 9 8,q 10 .add 9 1,x 11 (.nck (.t 5)),f 12 1 11,(.mk none none (.store 1 (.t 12) (.t 10)))] (s [h 13 7 3,t 4 7 13] R))),[(.c 4 7 true)]⟩
theorem i212:iF 212 g212:=jF Tryz.func212
def g213:GFun:=⟨⟨38,[2]⟩,(s [u 2 7] (s [m 6 0,m 7 0,x 8 (.nck (.t 7)),f 9 1 8,l 10 9,q 11 .add 10 1,x 12 (.nck (.t 6)),f 13 1 12,(.mk none none (.store 1 (.t 13) (.t 11)))] (s [k 3 0] (s [k 4 0] (S (B 0 (S (s [m 14 0,x 15 (.nck
 (.t 14)),f 16 3 15,l 17 16,q 18 .lss 17 0,m 19 18,M 20 19 0,y 21 19 (.call false 155 [.t 20,(.k (.val (.string (ByteArray.mk #[125]))))]),y 22 19 (.not (.t 21)),A 23 19 22] (D 23 F (.exit 0))) (.block 1 (s [m 24 0,m 25 3,c 26 227 [.t 24,
 .t 25,K 11],m 5 26] (s [m 27 4,m 28 5,x 29 (.conv .u64 (.t 28)),x 30 (.bin .shl (K 1) (.t 29)),o 31 .or 27 30,m 4 31] (.reg [m 32 5,q 33 .add 32 1,m 3 33])))))) (s [m 34 0,x 35 (.call false 157 [.t 34,(.k (.val (.string
 (ByteArray.mk #[125]))))])] (s [m 36 4,c 37 90 [.t 36,K 2],t 2 7 37] R))))))),[(.c 2 7 true)]⟩
theorem i213:iF 213 g213:=jF Tryz.func213
def g214:GFun:=⟨⟨20,[2]⟩,(s [u 2 7] (s [m 4 0,m 5 0,x 6 (.nck (.t 5)),f 7 1 6,l 8 7,q 9 .add 8 1,x 10 (.nck (.t 4)),f 11 1 10,(.mk none none (.store 1 (.t 11) (.t 9)))] (s [m 12 0,c 13 227 [.t 12,K 0,K 3],m 3 13] (s [m 14 0,x 15
 (.call false 157 [.t 14,(.k (.val (.string (ByteArray.mk #[46]))))])] (s [m 16 3,m 17 0,c 18 228 [.t 17],x 19 (.build [(.val (.int .i64 0)),(.val (.int .i64 0)),(.val (.int .i64 0)),(.val (.int .i64 0)),(.val (.string (ByteArray.mk #[]))),
 (.val (.string (ByteArray.mk #[]))),(.val (.slice none 0 0))] [(0,(1,(K 3))),(2,(1,(.t 16))),(5,(1,(.t 18)))]),t 2 7 19] R))))),[(.c 2 7 true)]⟩
theorem i214:iF 214 g214:=jF Tryz.func214
def g215:GFun:=⟨⟨20,[2]⟩,(s [u 2 7] (s [m 4 0,m 5 0,x 6 (.nck (.t 5)),f 7 1 6,l 8 7,q 9 .add 8 1,x 10 (.nck (.t 4)),f 11 1 10,(.mk none none (.store 1 (.t 11) (.t 9)))] (s [m 12 0,x 13 (.call false 157 [.t 12,(.k (.val (.string
 (ByteArray.mk #[40]))))])] (s [m 14 0,c 15 227 [.t 14,K 0,K 3],m 3 15] (s [m 16 0,x 17 (.call false 157 [.t 16,(.k (.val (.string (ByteArray.mk #[41]))))])] (s [m 18 3,x 19 (.build [(.val (.int .i64 0)),(.val (.int .i64 0)),(.val
 (.int .i64 0)),(.val (.int .i64 0)),(.val (.string (ByteArray.mk #[]))),(.val (.string (ByteArray.mk #[]))),(.val (.slice none 0 0))] [(0,(1,(K 6))),(2,(1,(.t 18)))]),t 2 7 19] R)))))),[(.c 2 7 true)]⟩
theorem i215:iF 215 g215:=jF Tryz.func215
def g216:GFun:=⟨⟨12,[]⟩,(s [k 2 0] (S (s [m 3 0] (.block 0 (s [x 5 (.bin .eql (.t 3) (.k (.val (.string (ByteArray.mk #[109,97,120]))))),m 4 5] (D 4 (s [k 2 4] R) (s [x 7 (.bin .eql (.t 3) (.k (.val (.string (ByteArray.mk #[109,105,
 110]))))),m 6 7] (D 6 (s [k 2 5] R) (s [x 9 (.bin .eql (.t 3) (.k (.val (.string (ByteArray.mk #[104,97,115]))))),m 8 9] (D 8 (s [k 2 11] R) (s [x 11 (.bin .eql (.t 3) (.k (.val (.string (ByteArray.mk #[119,105,116,104]))))),m 10 11]
 (D 10 (s [k 2 12] R) F)))))))))) (s [k 2 0] R))),[.t 2]⟩
theorem i216:iF 216 g216:=jF Tryz.func216
def g217:GFun:=⟨⟨29,[4,5,6]⟩,(s [u 4 7] (s [m 7 0,m 8 0,x 9 (.nck (.t 8)),f 10 1 9,l 11 10,q 12 .add 11 1,x 13 (.nck (.t 7)),f 14 1 13,(.mk none none (.store 1 (.t 14) (.t 12)))] (s [m 15 0,x 16 (.call false 157 [.t 15,(.k (.val
 (.string (ByteArray.mk #[40]))))])] (s [m 17 0,c 18 123 [.t 17],u 5 7,t 5 7 18] (s [m 19 0,x 20 (.call false 157 [.t 19,(.k (.val (.string (ByteArray.mk #[44]))))])] (s [m 21 0,c 22 123 [.t 21],u 6 7,t 6 7 22] (s [m 23 0,x 24
 (.call false 157 [.t 23,(.k (.val (.string (ByteArray.mk #[41]))))])] (s [m 25 1,h 26 7 5,h 27 7 6,c 28 98 [.t 25,.t 26,.t 27],t 4 7 28] R)))))))),[(.c 4 7 true)]⟩
theorem i217:iF 217 g217:=jF Tryz.func217
def g218:GFun:=⟨⟨19,[2]⟩,(s [u 2 7] (s [m 5 0,c 6 228 [.t 5],m 3 6] (s [m 7 0,x 8 (.call false 157 [.t 7,(.k (.val (.string (ByteArray.mk #[46]))))])] (s [m 9 0,c 10 228 [.t 9],m 4 10] (s [m 11 0,x 12 (.call false 157 [.t 11,(.k (.val
 (.string (ByteArray.mk #[111,102]))))])] (s [m 13 3,m 14 4,m 15 0,c 16 187 [.t 15],x 17 (.bslice 7 [] 1 true [(0,(.t 16))]),x 18 (.build [(.val (.int .i64 0)),(.val (.int .i64 0)),(.val (.int .i64 0)),(.val (.int .i64 0)),(.val (.string
 (ByteArray.mk #[]))),(.val (.string (ByteArray.mk #[]))),(.val (.slice none 0 0))] [(0,(1,(K 8))),(4,(1,(.t 13))),(5,(1,(.t 14))),(6,(1,(.t 17)))]),t 2 7 18] R)))))),[(.c 2 7 true)]⟩
theorem i218:iF 218 g218:=jF Tryz.func218
def g226:GFun:=⟨⟨10,[]⟩,(s [k 4 0] (S (s [m 5 0,m 6 1,o 7 .lss 5 6] (D 7 (s [m 8 0,m 4 8] R) F)) (s [m 9 1,m 4 9] R))),[.t 4]⟩
theorem i226:iF 226 g226:=jF Tryz.func226
def g227:GFun:=⟨⟨77,[]⟩,(s [k 6 0] (S (s [m 7 0,x 8 (.nck (.t 7)),f 9 3 8,l 10 9,q 11 .geq 10 0,m 12 11,N 13 12 0,z 14 12 (.nck (.t 13)),z 15 12 (p 1 1 14),N 17 12 0,z 18 12 (.nck (.t 17)),z 19 12 (p 1 0 18),z 16 12 (r 1 15),z 20 12
 (r 1 19),z 21 12 (.len (.t 20)),z 22 12 (.bin .geq (.t 16) (.t 21)),O 23 12 22,m 24 23,N 25 24 0,z 26 24 (.nck (.t 25)),z 27 24 (p 1 0 26),N 29 24 0,z 30 24 (.nck (.t 29)),z 31 24 (p 1 1 30),z 28 24 (r 1 27),z 32 24 (r 1 31),z 33 24
 (.iaddr 4 (.t 28) (.t 32)),z 34 24 (p 1 0 33),z 35 24 (r 1 34),z 36 24 (.bin .neq (.t 35) (K 2)),O 37 24 36,m 38 37,N 39 38 0,z 40 38 (.nck (.t 39)),z 41 38 (p 1 0 40),N 43 38 0,z 44 38 (.nck (.t 43)),z 45 38 (p 1 1 44),N 50 38 1,
 N 51 38 2,z 42 38 (r 1 41),z 46 38 (r 1 45),z 47 38 (.iaddr 4 (.t 42) (.t 46)),z 48 38 (p 1 1 47),z 49 38 (r 1 48),z 52 38 (.call true 72 [.t 49,.t 50,.t 51]),z 53 38 (.not (.t 52)),O 54 38 53] (D 54 (s [m 55 0,c 56 124 [.t 55]]
 (s [k 6 0] R)) F)) (s [m 57 0,m 58 0,x 59 (.nck (.t 58)),f 60 1 59,l 61 60,q 62 .add 61 1,x 63 (.nck (.t 57)),f 64 1 63,(.mk none none (.store 1 (.t 64) (.t 62)))] (s [m 65 0,x 66 (.nck (.t 65)),f 67 0 66,m 69 0,x 70 (.nck (.t 69)),
 f 71 1 70,l 68 67,l 72 71,q 73 .sub 72 1,i 74 4 68 73,f 75 1 74,l 76 75,m 6 76] R)))),[.t 6]⟩
theorem i227:iF 227 g227:=jF Tryz.func227
def g228:GFun:=⟨⟨71,[]⟩,(s [x 2 (.mov (.k (.val (.string (ByteArray.mk #[])))))] (S (s [m 3 0,x 4 (.nck (.t 3)),f 5 3 4,l 6 5,q 7 .geq 6 0,m 8 7,N 9 8 0,z 10 8 (.nck (.t 9)),z 11 8 (p 1 1 10),N 13 8 0,z 14 8 (.nck (.t 13)),z 15 8
 (p 1 0 14),z 12 8 (r 1 11),z 16 8 (r 1 15),z 17 8 (.len (.t 16)),z 18 8 (.bin .geq (.t 12) (.t 17)),O 19 8 18,m 20 19,N 21 20 0,z 22 20 (.nck (.t 21)),z 23 20 (p 1 0 22),N 25 20 0,z 26 20 (.nck (.t 25)),z 27 20 (p 1 1 26),z 24 20 (r 1 23),
 z 28 20 (r 1 27),z 29 20 (.iaddr 4 (.t 24) (.t 28)),z 30 20 (p 1 0 29),z 31 20 (r 1 30),z 32 20 (.bin .neq (.t 31) (K 1)),O 33 20 32,m 34 33,N 35 34 0,z 36 34 (.nck (.t 35)),z 37 34 (p 1 0 36),N 39 34 0,z 40 34 (.nck (.t 39)),z 41 34
 (p 1 1 40),z 38 34 (r 1 37),z 42 34 (r 1 41),z 43 34 (.iaddr 4 (.t 38) (.t 42)),z 44 34 (p 1 3 43),z 45 34 (r 1 44),z 46 34 (.call true 71 [.t 45]),z 47 34 (.not (.t 46)),O 48 34 47] (D 48 (s [m 49 0,c 50 124 [.t 49]] (s [x 2 (.mov (.k
 (.val (.string (ByteArray.mk #[])))))] R)) F)) (s [m 51 0,m 52 0,x 53 (.nck (.t 52)),f 54 1 53,l 55 54,q 56 .add 55 1,x 57 (.nck (.t 51)),f 58 1 57,(.mk none none (.store 1 (.t 58) (.t 56)))] (s [m 59 0,x 60 (.nck (.t 59)),f 61 0 60,
 m 63 0,x 64 (.nck (.t 63)),f 65 1 64,l 62 61,l 66 65,q 67 .sub 66 1,i 68 4 62 67,f 69 3 68,l 70 69,m 2 70] R)))),[.t 2]⟩
theorem i228:iF 228 g228:=jF Tryz.func228
end Go.Proofs.YtcegkonjphbfaaaGreatDoor
namespace Go.Proofs.YtcegkonjphbfaaaGreatDoor
open Go.Gh
open Nat (reduceEqDiff reduceLeDiff reduceAdd reduceLT)
open Int (reduceNe)
theorem mxd:Tryz.prog.follows .mixedOrders = true:=Checked.mixed Tryz.checked
theorem w72 (x lo hi:Int):Pu 72 [I x,I lo,I hi] (· = B (decide (lo≤x∧x≤hi))):=by
 refine Z8 mxd i72 rfl (by simp) ?_;refine X0 ?_
 (refine R0 ?_;with_reducible repeat' intro h)<;>simp[*]
theorem w46 (x lo hi:Int):Pu 46 [I x,I lo,I hi] (· = B (decide (lo≤x∧x≤hi))):=by
 refine Z8 mxd i46 rfl (by simp) ?_;refine X0 ?_
 (refine R0 ?_;with_reducible repeat' intro h)<;>simp[*]
theorem w131 (x y:Int×ByteArray):Pu 131 [Occ x,Occ y] (· = B (decide (x=y))):=by
 refine Z8 mxd i131 rfl (by simp) ?_;refine X0 ?_
 (refine R0 ?_;with_reducible repeat' first|intro h|apply jO)<;>simp[Prod.ext_iff, *]
theorem w150 (x y:Int):Pu 150 [I x,I y] (· = I (max x y)):=by
 refine Z8 mxd i150 rfl (by simp) ?_;refine X0 ?_
 (refine R0 ?_;with_reducible repeat' first|intro h|apply jO)<;>simp<;>omega
theorem w132:∀(x y:Exp),Pu 132 [Ex x,Ex y] (· = B (decide (x=y))):=by
 refine Exp.indA fun x ih y=> ?_
 rw[ZA,ZA y]
 refine Z8 mxd i132 rfl (by simp) ?_;refine X0 ?_
 (refine R0 ?_;with_reducible repeat' first|intro h|apply jO)
 all_goals first
  | (simp[Exp.ext_iff, *];done)
  | skip
 refine callS.eq (eqS mxd i159 XT geR_Ex x.args y.args fun a ha b _ => ih a ha b) ?_
 (refine R0 ?_;with_reducible repeat' first|intro h|apply jO)<;>simp[Exp.ext_iff, *]
theorem w53 (k:Int) (hk:k<9223372036854775807):Pu 53 [I k] (· = T (mtext k)):=by
 refine Z8 mxd i53 rfl (by simp) ?_;refine X0 ?_
 (refine R0 ?_;with_reducible repeat' first|intro h|apply jO)
 ·simp[mtext,h]
 have hR:∃R,dig k.toNat k []=R:=⟨_,rfl⟩
 obtain ⟨R,hR⟩:=hR
 refine Zk mxd (ι:={ x:Nat×Int×List UInt8 // dig x.1 x.2.1 x.2.2=R∧x.2.1≤x.1∧0≤x.2.1∧x.2.1+x.2.2.length≤k }) (fun x=>[(0,I x.1.2.1),(3,T ⟨x.1.2.2.toArray⟩)]) (fun _ => []) (fun x=>x.1.1) ⟨(k.toNat,k,[]),hR,by show k≤(k.toNat:Int);omega,by show 0≤k;omega,by simp⟩ (by simp[E2]) rfl ?_
 rintro ⟨⟨f,j,acc⟩,h1,h2,h3,h4⟩
 dsimp only at h1 h2 h3 h4
 have e:j.tdiv 10=j / 10:=Int.tdiv_eq_ediv_of_nonneg h3
 (refine R0 ?_;with_reducible repeat' first|intro h|apply jO)
 ·show ([_]:List UInt8).length + acc.toArray.toList.length ≤ _
  simp;omega
 ·rename_i hj r
  obtain ⟨f',rfl⟩:∃f',f=f'+1:=⟨f-1,by omega⟩
  rw[dig,if_pos hj] at h1
  refine nxF ⟨(f',j.tdiv 10,dgt j::acc),h1,?_,?_,?_⟩ (by simp) (FE.drop Z0) ?_ (by rw[hdel_new])
  ·show j.tdiv 10 ≤ _;omega
  ·show 0≤j.tdiv 10;omega
  ·show j.tdiv 10+((dgt j::acc).length : Int)≤k;simp;omega
  ·simp[E2,dgt,mkS]
   rfl
 ·show ([_]:List UInt8).length + acc.toArray.toList.length ≤ _
  simp;omega
 ·rw[dig_end _ _ h] at h1
  rw[mtext,if_neg (by omega),hR,h1]
  simp[mkS,Z9]
theorem w15 (xs:List ByteArray) (left:Int) (h0:0≤left) (h1:left≤1048576) (hx:∀x∈xs,x.size≤maxLen):Pu 15 [TS xs,I left] (· = I (szv left (wtS wT xs))):=by
 refine GCalls.lenA fun hl=> ?_
 have hlen:=hl.1.1
 simp only[List.length_map,Y9] at hlen
 refine Z8 mxd i15 rfl (by simp) ?_;refine X0 ?_
 (refine R0 ?_;with_reducible repeat' first|intro h|apply jO)
 ·congr 2;simp only[szv,wtS];omega
 refine Zk mxd (ι:={ i:Nat // i≤xs.length∧((xs.length+psum wT xs i:Nat):Int)≤left }) (fun i=>[(0,TS xs),(1,I (left-((xs.length+psum wT xs i.1:Nat):Int))),(5,I i.1)]) (fun _ => []) (fun i=>xs.length-i.1) ⟨0,by simp[psum_zero];omega⟩ (by simp[E2,psum_zero]) rfl ?_
 rintro ⟨i,hi,hp⟩
 simp (maxSteps:=9^7) only[↓ S2,S2,Y8,↓reduceIte,reduceNe,reduceEqDiff,reduceCtorEq,reduceLeDiff,reduceAdd,reduceLT]
 rcases nL i xs.length with h|h
 ·have e1:=psum_succ wT xs i h
  have e2:=psum_le wT xs (i+1)
  have e3:=hx _ (gM h)
  have hz:=ZE xs[i]
  simp only[maxLen,ZE] at e3
  simp only[wT] at e1
  (refine R0 ?_;with_reducible repeat' first|intro h|apply jO)
  ·congr 2;simp only[szv,wtS] at *;omega
  ·exact nx ⟨i+1,by omega,by omega⟩ (by simp;omega) (by simp[E2];omega) rfl
  all_goals (exfalso;omega)
 ·(refine R0 ?_;with_reducible repeat' intro h)
  all_goals first|(exfalso;omega)|skip
  have:i=xs.length:=by omega
  subst this
  rw[psum_all] at *
  congr 2;simp only[szv,wtS];omega
theorem w16 (xs:List ByteArray) (hx:xs.length≤1048576):Pu 16 [TS xs] (· = TS xs):=by
 refine Pure.bor ?_
 refine Z8 mxd i16 rfl (by simp) ?_;refine X0 ?_
 (try refine ⟨by omega,by omega,by omega,by omega,?_⟩)
 intro r hr
 refine Zk mxd (ι:={ i:Nat // i≤xs.length }) (fun i=>[(0,TS xs),(3,.own r 1 0 xs.length),(4,I i.1)]) (fun i=>[(r,1,(xs.take i.1).map T++List.replicate (xs.length-i.1) (T noS))]) (fun i=>xs.length-i.1) ⟨0,by simp⟩ (by simp[E2]) (by simp[noS]) ?_
 rintro ⟨i,hi⟩
 (refine R0 ?_;with_reducible repeat' first|intro h|apply jO)
 ·refine ⟨by simp;omega,nx ⟨i+1,by omega⟩ (by simp;omega) (by simp[E2]) ?_⟩
  rw[fill_set xs T (T noS) i h]
 ·have:i=xs.length:=by omega
  subst this
  exact Bor.allM (fun _ => rfl) (by simp[Z6]) rfl
theorem w18 (xs ys:List ByteArray):Pu 18 [TS xs,TS ys] (· = B (decide (xs=ys))):=by
 refine GCalls.lenA fun hl=> ?_
 have hl:=hl.1.1
 simp only[List.length_map,Y9] at hl
 refine Z8 mxd i18 rfl (by simp) ?_;refine X0 ?_
 (refine R0 ?_;with_reducible repeat' first|intro h|apply jO)
 rotate_left
 ·simp;rintro rfl;exact h rfl
 refine Zk mxd (ι:={ i:Nat // i≤xs.length∧xs.take i=ys.take i }) (fun i=>[(0,TS xs),(1,TS ys),(5,I i.1)]) (fun _ => []) (fun i=>xs.length-i.1) ⟨0,by simp⟩ (by simp[E2]) rfl ?_
 rintro ⟨i,hi,hp⟩
 (refine R0 ?_;with_reducible repeat' first|intro h|apply jO)
 ·exact nx ⟨i+1,by omega,take_eq_step hp (by omega) (by omega) h⟩ (by simp;omega) (by simp[E2]) rfl
 ·simp;rintro rfl;simp at h
 ·have:i=xs.length:=by omega
  subst this
  rw[tL (by omega),tL (by omega)] at hp
  simp[hp]
theorem w92 (x y:Eqn):Pu 92 [Qn x,Qn y] (· = B (decide (x=y))):=by
 refine Z8 mxd i92 rfl (by simp) ?_;refine X0 ?_
 refine callS.eq (w131 (x.pos,x.name) (y.pos,y.name)) ?_
 (refine R1 @XE ?_;with_reducible repeat' first|intro h|apply jO)
 rotate_left
 ·simp_all [Eqn.ext_iff,Prod.ext_iff]
 refine callS.eq (w132 x.expr y.expr) ?_
 (refine R0 ?_;with_reducible repeat' first|intro h|apply jO)<;>simp_all [Eqn.ext_iff,Prod.ext_iff]
theorem w93 (x y:Con):Pu 93 [Co x,Co y] (· = B (decide (x=y))):=by
 refine Z8 mxd i93 rfl (by simp) ?_;refine X0 ?_
 (refine R1 @XE ?_;with_reducible repeat' first|intro h|apply jO)
 all_goals first
  | (simp[Con.ext_iff, *];done)
  | skip
 refine callS.eq (w132 x.goal y.goal) ?_
 (refine R1 @XE ?_;with_reducible repeat' first|intro h|apply jO)
 rotate_left
 ·simp_all [Con.ext_iff]
 refine callS.eq (w132 x.value y.value) ?_
 (refine R0 ?_;with_reducible repeat' first|intro h|apply jO)<;>simp_all [Con.ext_iff]
theorem w17 (x y:Rul):Pu 17 [Ru x,Ru y] (· = B (decide (x=y))):=by
 refine Z8 mxd i17 rfl (by simp) ?_;refine X0 ?_
 (refine R0 ?_;with_reducible repeat' first|intro h|apply jO)
 all_goals first
  | (simp[Rul.ext_iff, *];done)
  | skip
 refine callS.eq (w18 x.right y.right) ?_
 (refine R0 ?_;with_reducible repeat' first|intro h|apply jO)
 all_goals first
  | (simp[Rul.ext_iff, *];done)
  | (simp_all [Rul.ext_iff];done)
  | skip
 refine callS.eq (eqS mxd i51 (fun _ => rfl) (fun _ => rfl) x.eqs y.eqs fun a _ b _ => w92 a b) ?_
 (refine R0 ?_;with_reducible repeat' first|intro h|apply jO)
 rotate_left
 ·simp_all [Rul.ext_iff]
 refine callS.eq (eqS mxd i52 (fun _ => rfl) (fun _ => rfl) x.cons y.cons fun a _ b _ => w93 a b) ?_
 (refine R0 ?_;with_reducible repeat' first|intro h|apply jO)<;>simp_all [Rul.ext_iff]
theorem w164 (n:Int):Pu 164 [I n] (· = I (satV n)):=by
 refine Z8 mxd i164 rfl (by simp) ?_;refine X0 ?_
 (refine R0 ?_)<;>(congr 2;simp only[satV];omega)
theorem w165 (b:Bool):Pu 165 [B b] (· = I (trV b)):=by
 refine Z8 mxd i165 rfl (by simp) ?_;refine X0 ?_
 (refine R0 ?_;with_reducible repeat' first|intro h|apply jO)<;>simp_all [trV]
theorem w210 (b:Bool):Pu 210 [B b] (· = I (trV b)):=by
 refine Z8 mxd i210 rfl (by simp) ?_;refine X0 ?_
 (refine R0 ?_;with_reducible repeat' first|intro h|apply jO)<;>simp_all [trV]
theorem w226 (a b:Int):Pu 226 [I a,I b] (· = I (min a b)):=by
 refine Z8 mxd i226 rfl (by simp) ?_;refine X0 ?_
 (refine R0 ?_;with_reducible repeat' first|intro h|apply jO)<;>(congr 2;omega)
theorem w209 (n:Int):Pu 209 [I n] (· = I (satV n)):=by
 refine Z8 mxd i209 rfl (by simp) ?_;refine X0 ?_
 refine callS.eq (w226 _ _) ?_
 (refine R0 ?_)
 refine callS.eq (w150 _ _) ?_
 (refine R0 ?_)<;>rfl
theorem w135 (v k:Int):Pu 135 [I v,I k] (· = I (coV v k)):=by
 refine Z8 mxd i135 rfl (by simp) ?_;refine X0 ?_
 (refine R0 ?_;with_reducible repeat' first|intro h|apply jO)
 ·refine callS.eq (w164 _) ?_
  (refine R0 ?_)<;>simp_all [coV]
 ·simp_all [coV]
 ·refine callS.eq (w165 _) ?_
  (refine R0 ?_)<;>simp_all [coV]
 ·refine callS.eq (w46 _ _ _) ?_
  (refine R0 ?_;with_reducible repeat' first|intro h|apply jO)<;>simp_all [coV]<;>(intros;omega)
 ·simp_all [coV]
theorem w181 (v k:Int):Pu 181 [I v,I k] (· = I (coV v k)):=by
 refine Z8 mxd i181 rfl (by simp) ?_;refine X0 ?_
 (refine R0 ?_;with_reducible repeat' first|intro h|apply jO)
 ·refine callS.eq (w209 _) ?_
  (refine R0 ?_)<;>simp_all [coV]
 ·simp_all [coV]
 ·refine callS.eq (w210 _) ?_
  (refine R0 ?_)<;>simp_all [coV]
 ·refine callS.eq (w72 _ _ _) ?_
  (refine R0 ?_;with_reducible repeat' first|intro h|apply jO)<;>simp_all [coV]<;>(intros;omega)
 ·simp_all [coV]
theorem w134 (k:Int):Pu 134 [I k] (· = B (decide (1≤k∧k≤4))):=by
 refine Z8 mxd i134 rfl (by simp) ?_;refine X0 ?_
 refine callS.eq (w46 _ _ _) ?_
 (refine R0 ?_;with_reducible repeat' exact trivial)
theorem w100 (v k:Int):Pu 100 [I v,I k] (· = B (okV v k)):=by
 refine Z8 mxd i100 rfl (by simp) ?_;refine X0 ?_
 refine callS.eq (w134 _) ?_
 (refine R0 ?_;with_reducible repeat' first|intro h|apply jO)
 ·refine callS.eq (w135 _ _) ?_
  (refine R0 ?_)<;>simp_all [okV]
 ·simp_all [okV]<;>(intros;omega)
theorem w152 (v k:Int):Pu 152 [I v,I k] (· = B (okV v k)):=by
 refine Z8 mxd i152 rfl (by simp) ?_;refine X0 ?_
 refine callS.eq (w72 _ _ _) ?_
 (refine R0 ?_;with_reducible repeat' first|intro h|apply jO)
 ·refine callS.eq (w181 _ _) ?_
  (refine R0 ?_)<;>simp_all [okV]
 ·simp_all [okV]<;>(intros;omega)
end Go.Proofs.YtcegkonjphbfaaaGreatDoor
namespace Go.Proofs.YtcegkonjphbfaaaGreatDoor
open Go.Gh
open Nat (reduceEqDiff reduceLeDiff reduceAdd reduceLT)
open Int (reduceNe)
theorem w125:∀(e:Exp),wEx e≤1048576→Pu 125 [Ex e] (· = I (Zr e)):=by
 refine Exp.indA fun e ih hw=> ?_
 obtain ⟨hl,ha⟩:=X1 hw
 have hc:=cntE_le e
 have he:=Y0 e
 rw[ZA]
 refine Z8 mxd i125 rfl (by simp) ?_;refine X0 ?_
 refine Zk mxd (ι:={ i:Nat // i≤e.args.length }) (fun i=>[(3,I ((1+((e.args.take i.1).map Zr).sum : Nat):Int)),(7,ExS e.args),(8,I e.args.length),(9,I i.1)]) (fun i=>[]) (fun i=>e.args.length-i.1) ⟨0,by simp⟩ (by simp[E2,mxL]) (by simp) ?_
 rintro ⟨i,hi⟩
 have h1:=sumT_le Zr e.args i
 have h3:=sumT_le Zr e.args (i+1)
 (refine R1 (jO @XT (jO @geR_Ex (jO @gsize_Ex @stor_Ex))) ?_;with_reducible repeat' first|intro h|apply jO)
 ·have h2:=sumT Zr e.args i (by omega)
  refine callS.eq (ih _ (gM _) (ha _ (gM _))) ?_
  (refine R0 ?_)
  refine nx ⟨i+1,by omega⟩ (by simp;omega) ?_ (by simp)
  simp[E2,h2, -List.map_take]
  try (first|omega|(split<;>omega))
 ·have:i=e.args.length:=by omega
  subst this
  simp[he]
theorem w126:∀(e:Exp),wEx e≤1048576→Pu 126 [Ex e] (· = I (dpE e)):=by
 refine Exp.indA fun e ih hw=> ?_
 obtain ⟨hl,ha⟩:=X1 hw
 have hc:=cntE_le e
 have he:=Y0 e
 have hd:=dpE_eq e
 have hq:=sumL_le (l:=e.args) fun a _ => dpE_le a
 rw[ZA]
 refine Z8 mxd i126 rfl (by simp) ?_;refine X0 ?_
 refine Zk mxd (ι:={ i:Nat // i≤e.args.length }) (fun i=>[(3,I (mxL ((e.args.take i.1).map dpE))),(7,ExS e.args),(8,I e.args.length),(9,I i.1)]) (fun i=>[]) (fun i=>e.args.length-i.1) ⟨0,by simp⟩ (by simp[E2,mxL]) (by simp) ?_
 rintro ⟨i,hi⟩
 have h1:=mxT_le dpE e.args i
 (refine R1 (jO @XT (jO @geR_Ex (jO @gsize_Ex @stor_Ex))) ?_;with_reducible repeat' first|intro h|apply jO)
 ·have h2:=mxT dpE e.args i (by omega)
  refine callS.eq (ih _ (gM _) (ha _ (gM _))) ?_
  (refine R0 ?_)
  refine nx ⟨i+1,by omega⟩ (by simp;omega) ?_ (by simp)
  simp[E2,h2, -List.map_take]
  try (first|omega|(split<;>omega))
 ·have:i=e.args.length:=by omega
  subst this
  simp[hd]
  try omega
theorem w117:∀(e:Exp),wEx e≤1048576→Pu 117 [Ex e] (· = I (dpE e)):=by
 refine Exp.indA fun e ih hw=> ?_
 obtain ⟨hl,ha⟩:=X1 hw
 have hc:=cntE_le e
 have he:=Y0 e
 have hd:=dpE_eq e
 have hq:=sumL_le (l:=e.args) fun a _ => dpE_le a
 rw[ZA]
 refine Z8 mxd i117 rfl (by simp) ?_;refine X0 ?_
 refine Zk mxd (ι:={ i:Nat // i≤e.args.length }) (fun i=>[(1,.rop 7 (.agg [I e.kind,I e.n,I e.pos,I e.type,T e.sym,T e.name,ExS e.args])),(3,I (mxL ((e.args.take i.1).map dpE))),(4,I i.1)]) (fun i=>[]) (fun i=>e.args.length-i.1) ⟨0,by simp⟩ (by simp[E2,mxL]) (by simp) ?_
 rintro ⟨i,hi⟩
 have h1:=mxT_le dpE e.args i
 (refine R1 (jO @XT (jO @geR_Ex (jO @gsize_Ex @stor_Ex))) ?_;with_reducible repeat' first|intro h|apply jO)
 ·have h2:=mxT dpE e.args i (by omega)
  refine callS.eq (ih _ (gM _) (ha _ (gM _))) ?_
  (refine R0 ?_)
  refine callS.eq (w150 _ _) ?_
  (refine R0 ?_)
  refine nx ⟨i+1,by omega⟩ (by simp;omega) ?_ (by simp)
  simp[E2,h2, -List.map_take]
  try (first|omega|(split<;>omega))
 ·have:i=e.args.length:=by omega
  subst this
  simp[hd]
  try omega
theorem w116:∀(e:Exp),wEx e≤1048576→∀left:Int,0≤left→left≤1048576→Pu 116 [Ex e,I left] (· = I (max (left-Zr e) (-1))):=by
 refine Exp.indA fun e ih hw left l0 l1=> ?_
 obtain ⟨hl,ha⟩:=X1 hw
 have hc:=cntE_le e
 have he:=Y0 e
 rw[ZA]
 refine Z8 mxd i116 rfl (by simp) ?_;refine X0 ?_
 simp +contextual (disch:=omega) only[Z2]
 refine Zk mxd (ι:={ i:Nat // i≤e.args.length }) (fun i=>[(2,.rop 7 (.agg [I e.kind,I e.n,I e.pos,I e.type,T e.sym,T e.name,ExS e.args])),(1,I (max (left-1-((e.args.take i.1).map Zr).sum) (-1))),(5,I i.1)]) (fun i=>[]) (fun i=>e.args.length-i.1) ⟨0,by simp⟩ (by simp[E2];try omega) (by simp) ?_
 rintro ⟨i,hi⟩
 have h1:=sumT_le Zr e.args i
 generalize hs:((e.args.take i).map Zr).sum = s at *
 (refine R1 (jO @XT (jO @geR_Ex (jO @gsize_Ex @stor_Ex))) ?_;with_reducible repeat' first|intro h|apply jO)
 ·have h2:=sumT Zr e.args i (by omega)
  refine callS.eq (ih _ (gM _) (ha _ (gM _)) _ (by omega) (by omega)) ?_
  (refine R0 ?_)
  refine nx ⟨i+1,by omega⟩ (by simp;omega) ?_ (by simp)
  simp[E2,h2,hs, -List.map_take]
  try omega
 all_goals first|(congr 2;omega)|(rw[tL (by omega)] at hs;congr 2;omega)
theorem w158 (t:List Exp) (f:Nat) (cs:List GV) (p:Exp→Bool) (hp:∀x∈t,Pu f (Ex x::cs) (· = B (p x))) :
 Pu 158 [ExS t,.clo f cs] (· = I (ixOf p t)):=by
 refine GCalls.lenA fun hl=> ?_
 have hlen:=hl.1.1
 simp only[List.length_map,Y9] at hlen
 refine Z8 mxd i158 rfl (by simp) ?_;refine X0 ?_
 refine Zk mxd (ι:={ i:Nat // i≤t.length∧∀y∈t.take i,p y=false }) (fun i=>[(0,ExS t),(1,.clo f cs),(7,I t.length),(8,I i.1)]) (fun _ => []) (fun i=>t.length-i.1) ⟨0,by simp⟩ (by simp[E2]) rfl ?_
 rintro ⟨i,hi,hn⟩
 (refine R1 (jO @XT (jO @geR_Ex (jO @gsize_Ex @stor_Ex))) ?_;with_reducible repeat' first|intro h|apply jO)
 ·refine callS.eq (hp t[i] (gM _)) ?_
  (refine R0 ?_;with_reducible repeat' first|intro h|apply jO)
  ·rw[ixOf_hit (by assumption) h hn]
  ·exact nx ⟨i+1,by omega,take_step (by assumption) h hn⟩ (by simp;omega) (by simp[E2]) rfl
 ·have:i=t.length:=by omega
  subst this
  rw[tL (Nat.le_refl _)] at hn
  rw[ixOf_none hn]
theorem w128 (t:List Exp) (f:Nat) (cs:List GV) (p:Exp→Bool) (hp:∀x∈t,Pu f (Ex x::cs) (· = B (p x))) :
 Pu 128 [ExS t,.clo f cs] (· = B (t.any p)):=by
 refine Z8 mxd i128 rfl (by simp) ?_;refine X0 ?_
 refine callS.eq (w158 t f cs p hp) ?_
 (refine R0 ?_)
 rw[←any_ix]
theorem w86 (f:Nat) (cs:List GV) (p:Exp→Bool) (ok:Exp→Prop) (hok:∀e,ok e→∀a∈e.args,ok a) (hp:∀x,ok x→Pu f (Ex x::cs) (· = B (p x))) :
 ∀e,ok e→Pu 86 [Ex e,.clo f cs] (· = B (YR p e)):=by
 refine Exp.indA fun e ih he=> ?_
 have hq:=hp e he
 rw[ZA] at hq ⊢
 refine Z8 mxd i86 rfl (by simp) ?_;refine X0 ?_
 refine ⟨rfl,callS.eq hq ?_⟩
 (refine R0 ?_;with_reducible repeat' first|intro h|apply jO)
 ·refine callS.eq (w128 e.args _ _ (fun a=> !YR p a) fun a ha=> ?_) ?_
  ·refine Z8 mxd i129 rfl (by simp) ?_;refine X0 ?_
   (refine R1 (jO @XT (jO @geR_Ex (jO @gsize_Ex @stor_Ex))) ?_)
   refine callS.eq (ih a ha (hok e he a ha)) ?_
   (refine R0 ?_;with_reducible repeat' exact trivial)
  ·(refine R0 ?_)
   rw[allE_eq]
   simp_all [any_not]
 ·rw[allE_eq]
  simp_all
theorem w82 (c:UInt8):Pu 82 [.val (.int .u8 c.toNat)] (· = B (Zh c)):=by
 refine Z8 mxd i82 rfl (by simp) ?_;refine X0 ?_
 (refine R0 ?_;with_reducible repeat' first|intro h|apply jO)<;>simp_all [Zh]<;>(intros;omega)
theorem w83 (c:UInt8):Pu 83 [.val (.int .u8 c.toNat)] (· = B (ZG c)):=by
 refine Z8 mxd i83 rfl (by simp) ?_;refine X0 ?_
 (refine R0 ?_;with_reducible repeat' first|intro h|apply jO)<;>simp_all [ZG]<;>(intros;omega)
theorem w149:Pu 149 [] (· = .sl 1 (kwS.map T)):=by
 have o:Gc 149 [] [] (fun g H'=>∃r,g = .own r 1 0 13∧H'=[(r,1,kwS.map T)]):=by
  refine Z8 mxd i149 rfl (by simp) ?_;refine X0 ?_
  intro r hr
  exact ⟨r,rfl,rfl⟩
 refine o.fr ?_
 rintro g H' ⟨r,rfl,rfl⟩
 exact ⟨_,_,FR.freeze Z0 (.all Z0 (by simp[kwS]) (by simp[view,kwS])),rfl⟩
theorem w148 (l:List ByteArray) (s:ByteArray):Pu 148 [.sl 1 (l.map T),T s] (· = B (hasS l s)):=by
 refine GCalls.lenA fun hl=> ?_
 have hlen:=hl.1.1
 simp only[List.length_map,Y9] at hlen
 refine Z8 mxd i148 rfl (by simp) ?_;refine X0 ?_
 refine Zk mxd (ι:={ i:Nat // i≤l.length∧∀y∈l.take i,decide (y=s)=false }) (fun i=>[(0,.sl 1 (l.map T)),(1,T s),(5,I i.1)]) (fun _ => []) (fun i=>l.length-i.1) ⟨0,by simp⟩ (by simp[E2]) rfl ?_
 rintro ⟨i,hi,hn⟩
 (refine R0 ?_;with_reducible repeat' first|intro h|apply jO)
 ·rw[hasS_hit (by assumption) h]
 ·exact nx ⟨i+1,by omega,take_step (by assumption) (by simpa using h) hn⟩ (by simp;omega) (by simp[E2]) rfl
 ·have:i=l.length:=by omega
  subst this
  rw[tL (Nat.le_refl _)] at hn
  rw[hasS_none hn]
theorem w84 (s:ByteArray):Pu 84 [T s] (· = B (resV s)):=by
 refine Z8 mxd i84 rfl (by simp) ?_;refine X0 ?_
 (refine R0 ?_;with_reducible repeat' first|intro h|apply jO)
 all_goals first|(simp_all [resV,hasS,kwS,show ∀x,(x=s)=(s=x) from fun x=>propext eq_comm];done)|skip
theorem w114 (s:ByteArray):Pu 114 [T s] (· = B (resV s)):=by
 refine Z8 mxd i114 rfl (by simp) ?_;refine X0 ?_
 refine callS.eq w149 ?_
 (refine R0 ?_)
 refine callS.eq (w148 _ _) ?_
 (refine R0 ?_)
 rfl
theorem w113 (s : ByteArray) (hs : s.size ≤ maxLen) : Pu 113 [T s] (· = B (shp (Z9 s))) := by
  simp only [maxLen, ZE] at hs
  refine Z8 mxd i113 rfl (by simp) ?_; refine X0 ?_
  refine Zk mxd (ι := { i : Nat // i ≤ (Z9 s).length ∧ ∀ (j : Nat) (h : j < (Z9 s).length), j < i → Zh (Z9 s)[j] = true ∨ (j ≠ 0 ∧ ZG (Z9 s)[j] = true) }) (fun i => [(0, T s), (3, I i.1)]) (fun _ => []) (fun i => (Z9 s).length - i.1) ⟨0, by simp⟩ (by simp [E2]) rfl ?_
  rintro ⟨i, hi, hn⟩
  (refine R0 ?_; with_reducible repeat' first|intro h|refine aO ?_|apply jO)
  all_goals first
    | (rw [shp_bad (i := i) (by assumption) (by simp only [Zh, ZG, Bool.and_eq_true, decide_eq_true_eq]; omega)]; done)
    | (have hlt : i < (Z9 s).length := by omega
       have hg : Zh (Z9 s)[i] = true ∨ (i ≠ 0 ∧ ZG (Z9 s)[i] = true) := by
         simp only [Zh, ZG, Bool.and_eq_true, decide_eq_true_eq]
         omega
       exact nx ⟨i + 1, by omega, shp_step hlt hn hg⟩ (by simp; omega) (by simp [E2]) rfl)
    | (have : i = (Z9 s).length := by omega
       subst this
       rw [shp_end hn]
       simp; done)
    | skip
  all_goals have hlt : i < (Z9 s).length := by omega
  all_goals have hg : Zh (Z9 s)[i] = true ∨ (i ≠ 0 ∧ ZG (Z9 s)[i] = true) := by (simp only [Zh, ZG, Bool.and_eq_true, decide_eq_true_eq]; omega)
  all_goals refine nx ⟨i + 1, by omega, shp_step hlt hn hg⟩ ?_ ?_ rfl
  all_goals first | (simp only; omega) | exact (by simp [E2]) | skip
theorem w71 (s:ByteArray) (hs:s.size≤maxLen):Pu 71 [T s] (· = B (ZS s)):=by
 have hs':=hs
 simp only[maxLen,ZE] at hs'
 refine Z8 mxd i71 rfl (by simp) ?_;refine X0 ?_
 refine callS.eq (w113 s hs) ?_
 (refine R0 ?_;with_reducible repeat' first|intro h|apply jO)
 all_goals try (refine callS.eq (w114 _) ?_;(refine R0 ?_))
 all_goals simp_all [ZS]
 all_goals try (intros;omega)
theorem w44 (s : ByteArray) (hs : s.size ≤ maxLen) : Pu 44 [T s] (· = B (ZS s)) := by
  simp only [maxLen, ZE] at hs
  refine Z8 mxd i44 rfl (by simp) ?_; refine X0 ?_
  refine Zk mxd (ι := { i : Nat // i ≤ (Z9 s).length ∧ ∀ (j : Nat) (h : j < (Z9 s).length), j < i → Zh (Z9 s)[j] = true ∨ ZG (Z9 s)[j] = true }) (fun i => [(0, T s), (5, I (Z9 s).length), (6, I i.1)]) (fun _ => []) (fun i => (Z9 s).length - i.1) ⟨0, by simp⟩ (by simp [E2]) rfl ?_
  rintro ⟨i, hi, hn⟩
  rcases nL i (Z9 s).length with hlt | hge
  · have hnx : Zh (Z9 s)[i] = true ∨ ZG (Z9 s)[i] = true → ∀ (j : Nat) (h : j < (Z9 s).length), j < i + 1 → Zh (Z9 s)[j] = true ∨ ZG (Z9 s)[j] = true := fun hg j hj hji => by
      by_cases e : j = i
      · subst e; exact hg
      · exact hn j hj (by omega)
    (repeat' (first | (with_reducible refine callS.eq (w82 _) ?_) | (with_reducible refine callS.eq (w83 _) ?_) | simp (maxSteps := 9^7) only [↓ S2, S2, Y8, ↓reduceIte, reduceNe, reduceEqDiff, reduceCtorEq, reduceLeDiff, reduceAdd, reduceLT] | simp only [Zj] | simp +contextual (disch := omega) only [Z2] | with_reducible first | intro h | refine And.intro (by omega) ?_ | refine exP (by omega) ?_ | apply And.intro))
    all_goals try exact oF
    · exact nx ⟨i + 1, by omega, hnx (.inl h)⟩ (by show (Z9 s).length - (i + 1) < (Z9 s).length - i; omega) (by simp [E2]) rfl
    · exact nx ⟨i + 1, by omega, hnx (.inr h)⟩ (by show (Z9 s).length - (i + 1) < (Z9 s).length - i; omega) (by simp [E2]) rfl
    · rw [XR, shp_no hlt (by assumption) (by assumption)]; rfl
  · have : i = (Z9 s).length := by omega
    subst this
    (repeat' (first | (with_reducible refine callS.eq (w46 _ _ _) ?_) | (with_reducible refine callS.eq (w82 _) ?_) | (with_reducible refine callS.eq (w84 _) ?_) | simp (maxSteps := 9^7) only [↓ S2, S2, Y8, ↓reduceIte, reduceNe, reduceEqDiff, reduceCtorEq, reduceLeDiff, reduceAdd, reduceLT] | simp only [Zj] | simp +contextual (disch := omega) only [Z2] | with_reducible first | intro h | refine And.intro (by omega) ?_ | refine exP (by omega) ?_ | apply And.intro))
    all_goals try exact oF
    all_goals first
      | (rw [XR, shp_yes (by omega) (by assumption) (fun j h => hn j h h), decide_eq_true (by omega)]; rfl)
      | (rw [XR, shp_no0 (by omega) (by assumption)]; rfl)
      | (rw [XR, decide_eq_false (show ¬ (Z9 s).length ≤ 8 by omega), Bool.and_false]; rfl)
      | (rcases Nat.eq_zero_or_pos (Z9 s).length with h0 | h0
         · rw [XR, List.eq_nil_of_length_eq_zero h0]; rfl
         · rw [XR, decide_eq_false (show ¬ (Z9 s).length ≤ 8 by omega), Bool.and_false]; rfl)
theorem w80 (e:Exp) (k n p t:Int) (s m:ByteArray) (a:List Exp):Pu 80 [Ex e,.agg [I k,I n,I p,I t,T s,T m,ExS a]] (· = B (decide (e.kind=k)&&(decide (e.n=n)&&(decide (e.pos=p)&&(decide (e.type=t)&&(decide (e.sym=s)&&decide (e.name=m))))))):=by
 refine Z8 mxd i80 rfl (by simp) ?_;refine X0 ?_
 (repeat' (first|(with_reducible refine callS.eq (w46 _ _ _) ?_)|simp (maxSteps:=9^7) only[↓ S2,S2,Y8,↓reduceIte,reduceNe,reduceEqDiff,reduceCtorEq,reduceLeDiff,reduceAdd,reduceLT,XE]|simp only[Zj]|simp +contextual (disch:=omega) only[Z2]|with_reducible first|intro h|refine And.intro (by omega) ?_ | refine exP (by omega) ?_ | apply And.intro))
 all_goals (simp_all;done)
end Go.Proofs.YtcegkonjphbfaaaGreatDoor
