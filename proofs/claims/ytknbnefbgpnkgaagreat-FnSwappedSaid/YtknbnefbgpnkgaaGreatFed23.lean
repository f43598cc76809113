/- The laws FnEdits, FnEdited and FnSwapped return true whatever the input, and the input reads behind the call as before. No condition. -/
import Derived.Test.YtknbnefbgpnkgaaGreatFed3
import Derived.Test.YtknbnefbgpnkgaaGreatFed22
set_option maxHeartbeats 40000000
set_option maxRecDepth 20000
set_option linter.unusedSimpArgs false
set_option linter.unusedVariables false
namespace Go.Proofs.YtknbnefbgpnkgaaGreat
open Go.Gh
open Nat (reduceEqDiff reduceLeDiff reduceAdd reduceLT)
open Int (reduceNe)
theorem q122 (t:List Nod) (i:Int) (hl:t.length≤1048576) (hx:∀x∈t,x.kids.length≤1048576):Pu 122 [Tr t,I i] (· = Tr (Y2 t i)):=
 Pure.bor ((o122 t i hl hx []).mono fun g H' ⟨r,h1,h2⟩=>by
  subst h1;subst h2
  exact bor_Tr ZX rfl)
theorem q117 (t:List Nod) (i:Int) (hl:t.length≤1048576) (hx:∀x∈t,x.kids.length≤1048576):Pu 117 [Tr t,I i] (· = Tr (Y2 t i)):=
 Pure.bor ((o117 t i hl hx []).mono fun g H' ⟨r,h1,h2⟩=>by
  subst h1;subst h2
  exact bor_Tr ZX rfl)
theorem n20 (t:List Nod) (id:Int):Pu 20 [Tr t,I id] (· = I (Zz t id)):=w20 t id
theorem n59 (t:List Nod) (id:Int):Pu 59 [Tr t,I id] (· = I (Zz t id)):=w59 t id
def OwnTI (x:List Nod×Int) (H:GH) (v:GV) (H':GH):Prop:=∃r,v = .tup [.agg [.own r 6 0 x.1.length],I x.2]∧H'=(r,6,x.1.map NdO)::H
theorem o66 (g:Gram) (t:List Nod) (i:Nat) (e:Edi) (hg:ZA g) (hl:t.length≤1048576) (hx:∀x∈t,x.kids.length≤1048576) (hi:i<t.length) (H:GH) :
 Gc 66 [Gr g,Tr t,I i,Ed e] H (OwnTI (litEd g t i e.lit) H):=by
 unfold litEd
 rw[Z3 hi]
 refine ZZ mxd i66 rfl (by simp) ?_;refine X0 ?_
 (refine V0 ?_)
 all_goals try exact oF
 refine callS.eq (w76 g _ hg) ?_
 generalize Zl g.rules t[i].rule = r at *
 (refine V0 ?_)
 refine callS.of (o65 t hl hx _) ?_
 rintro v H' ⟨q,rfl,rfl⟩ -
 rcases bC r.lit with hr|hr
 ·simp only[hr,Bool.false_eq_true,false_and,if_false]
  (refine V1 hr ?_)
  exact ⟨q,rfl,rfl⟩
 ·by_cases hv : -1000000≤e.lit∧e.lit≤1000000
  ·have hk:okV e.lit 1=true:=by rw[okV1];exact decide_eq_true hv
   simp only[hr,hv,and_self,if_true]
   (refine V1 hr ?_)
   refine callS.eq (w33 _ _) ?_
   rw[hk]
   (refine V0 ?_)
   all_goals try exact oF
   exact ⟨q,by simp[setLit],by simp only[setLit];rw[Z3 hi,List.map_set]⟩
  ·have hk:okV e.lit 1=false:=by rw[okV1];exact decide_eq_false hv
   simp only[hr,hv,and_false,if_false]
   (refine V1 hr ?_)
   refine callS.eq (w33 _ _) ?_
   rw[hk]
   (refine V0 ?_)
   exact ⟨q,rfl,rfl⟩
theorem o67 (g:Gram) (t:List Nod) (i:Nat) (e:Edi) (hg:ZA g) (hm:Zk 1 t≤400) (hi:i<t.length) (hu1:e.tree.length≤1048576) (hu2:∀x∈e.tree,x.kids.length≤1048576) (H:GH) :
 Gc 67 [Gr g,Tr t,I i,Ed e] H (OwnTI (replT g t i e.tree) H):=by
 obtain ⟨hl,hx⟩:=mk_sm (n:=1048576) (t:=t) oT
 have hl4:=(mk_sm (n:=400) (t:=t) oT).1
 have hsl:=Yr hi
 have hsp:=subLen_pos (t:=t) (i:=i)
 have hts:=YB hi
 have htr:=w29 g e.tree (symN g t i) hg hu1 hu2
 unfold replT
 refine ZZ mxd i67 rfl (by simp) ?_;refine X0 ?_
 (refine V0 ?_)
 refine callS.eq (w21 t i) ?_
 rw[hts]
 (refine V0 ?_)
 refine callS.eq (w30 g t i hg) ?_
 (refine V0 ?_)
 refine callS.eq htr ?_
 rcases bC (Za g e.tree (symN g t i)) with hb|hb
 ·simp only[hb,Bool.false_eq_true,if_false]
  (refine V0 ?_)
  refine callS.of (o65 t hl hx _) ?_
  rintro v H' ⟨q,rfl,rfl⟩ -
  (refine V0 ?_)
  exact ⟨q,rfl,rfl⟩
 ·have hum:=(YU hb).1
  simp only[hb,if_true]
  (refine V0 ?_)
  have hpe:∃p:Nat→Bool,outB t e.tree i=p:=⟨_,rfl⟩
  obtain ⟨p,hpe⟩:=hpe
  rw[hpe]
  refine ZK mxd (ι:={ k:Nat // k≤t.length∧∀j,j<k→p j=false }) (fun k=>[(2,I i),(4,.rop 2 (Gr g)),(5,.rop 1 (Tr t)),(7,.rop 5 (Ed e)),(8,.raw 1),(10,I (ZC t i)),(11,I k.1)]) (fun _ => H) (fun k=>t.length-k.1) ⟨0,by simp⟩ (by simp[E2]) rfl ?_
  rintro ⟨k,hk,hn⟩
  have snoc:p k=false→∀j,j<k+1→p j=false:=fun h j hj=>by
   by_cases e:j=k
   ·rw[e];exact h
   ·exact hn j oT
  rcases nL k t.length with hlt|hge
  ·have hpk:outB t e.tree i k=p k:=by rw[hpe]
   unfold outB at hpk
   rw[Z3 hlt] at hpk
   (refine V0 ?_;with_reducible repeat' first|intro h|refine aO ?_|apply jO)
   all_goals try exact oF
   refine callS.eq (w64 _ _ _) ?_
   by_cases h1:(i:Int)≤k∧(k:Int)≤(i:Int)+ZC t i-1
   ·have h1':=eq_true h1
    rw[decide_eq_true h1] at hpk
    (refine V1 (jO h1' @decide_true) ?_)
    exact nx ⟨k+1,oT,snoc (by rw[←hpk];rfl)⟩ (by simp;omega) (by simp[E2]) rfl
   ·have h1':=eq_false h1
    rw[decide_eq_false h1] at hpk
    (refine V1 (jO h1' @decide_false) ?_)
    all_goals try exact oF
    refine callS.eq (n20 e.tree t[k].id) ?_
    by_cases h2:0≤Zz e.tree t[k].id
    ·have h2':=eq_true h2
     rw[decide_eq_true h2] at hpk
     have hf:(List.range t.length).any p=true:=by
      rw[List.any_eq_true]
      exact ⟨k,by rw[List.mem_range];exact hlt,hpk.symm⟩
     simp only[hf,if_true]
     (refine V1 (jO h2' (jO @ge_iff_le.{0} @decide_true)) ?_)
     refine callS.of (o65 t hl hx _) ?_
     rintro v H' ⟨q,rfl,rfl⟩ -
     (refine V0 ?_)
     exact ⟨q,rfl,rfl⟩
    ·have h2':=eq_false h2
     rw[decide_eq_false h2] at hpk
     (refine V1 (jO h2' (jO @ge_iff_le.{0} @decide_false)) ?_)
     exact nx ⟨k+1,oT,snoc (by rw[←hpk];rfl)⟩ (by simp;omega) (by simp[E2]) rfl
  ·obtain rfl:k=t.length:=by omega
   have hf:(List.range t.length).any p=false:=by
    rw[List.any_eq_false]
    exact fun j hj=>by rw[hn j (by rw[List.mem_range] at hj;exact hj)];simp
   simp only[hf,Bool.false_eq_true,if_false]
   by_cases h3:16<(t.length:Int)-ZC t i+e.tree.length
   ·have h3':=eq_true h3
    simp only[h3,if_true]
    (refine V1 (jO h3' (jO @gt_iff_lt.{0} @decide_true)) ?_;with_reducible repeat' intro h)
    all_goals try exact oF
    refine callS.of (o65 t hl hx _) ?_
    rintro v H' ⟨q,rfl,rfl⟩ -
    (refine V0 ?_)
    exact ⟨q,rfl,rfl⟩
   ·have h3':=eq_false h3
    simp only[h3,if_false]
    (refine V1 (jO h3' (jO @gt_iff_lt.{0} @decide_false)) ?_;with_reducible repeat' intro h)
    all_goals try exact oF
    refine callS.of (o119 t i e.tree hl hx hu1 hu2 _) ?_
    rintro v H' ⟨q,rfl,rfl⟩ -
    (refine V0 ?_)
    exact ⟨q,rfl,rfl⟩
theorem o60 (g:Gram) (t:List Nod) (i:Nat) (e:Edi) (hg:ZA g) (hm:Zk 1 t≤400) (hi:i<t.length) (hu1:e.tree.length≤1048576) (hu2:∀x∈e.tree,x.kids.length≤1048576) (H:GH) :
 Gc 60 [Gr g,Tr t,I i,Tr e.tree] H (OwnTI (replT g t i e.tree) H):=by
 obtain ⟨hl,hx⟩:=mk_sm (n:=1048576) (t:=t) oT
 have hl4:=(mk_sm (n:=400) (t:=t) oT).1
 have hsl:=Yr hi
 have hsp:=subLen_pos (t:=t) (i:=i)
 have hts:=YB hi
 have htr:=w96 g e.tree (symN g t i) hg hu1 hu2
 unfold replT
 refine ZZ mxd i60 rfl (by simp) ?_;refine X0 ?_
 (refine V0 ?_)
 refine callS.eq (w83 g t i hg) ?_
 (refine V0 ?_)
 refine callS.eq htr ?_
 rcases bC (Za g e.tree (symN g t i)) with hb|hb
 ·simp only[hb,Bool.false_eq_true,if_false]
  (refine V0 ?_)
  refine callS.of (o58 t hl hx _) ?_
  rintro v H' ⟨q,rfl,rfl⟩ -
  (refine V0 ?_)
  exact ⟨q,rfl,rfl⟩
 ·have hum:=(YU hb).1
  simp only[hb,if_true]
  (refine V0 ?_)
  refine callS.eq (w115 t i) ?_
  rw[hts]
  (refine V0 ?_)
  have hpe:∃p:Nat→Bool,outB t e.tree i=p:=⟨_,rfl⟩
  obtain ⟨p,hpe⟩:=hpe
  rw[hpe]
  refine ZK mxd (ι:={ k:Nat // k≤t.length∧∀j,j<k→p j=false }) (fun k=>[(2,I i),(4,.rop 2 (Gr g)),(5,.rop 1 (Tr t)),(7,.rop 1 (Tr e.tree)),(8,.raw 1),(10,I (ZC t i)),(27,NdS t),(28,I t.length),(29,I k.1)]) (fun _ => H) (fun k=>t.length-k.1) ⟨0,by simp⟩ (by simp[E2]) rfl ?_
  rintro ⟨k,hk,hn⟩
  have snoc:p k=false→∀j,j<k+1→p j=false:=fun h j hj=>by
   by_cases e:j=k
   ·rw[e];exact h
   ·exact hn j oT
  rcases nL k t.length with hlt|hge
  ·have hpk:outB t e.tree i k=p k:=by rw[hpe]
   unfold outB at hpk
   rw[Z3 hlt] at hpk
   (refine V0 ?_;with_reducible repeat' first|intro h|refine aO ?_|apply jO)
   all_goals try exact oF
   refine callS.eq (w57 _ _ _) ?_
   by_cases h1:(i:Int)≤k∧(k:Int)≤(i:Int)+ZC t i-1
   ·have h1':=eq_true h1
    rw[decide_eq_true h1] at hpk
    (refine V1 (jO h1' @decide_true) ?_)
    exact nx ⟨k+1,oT,snoc (by rw[←hpk];rfl)⟩ (by simp;omega) (by simp[E2]) rfl
   ·have h1':=eq_false h1
    rw[decide_eq_false h1] at hpk
    (refine V1 (jO h1' @decide_false) ?_)
    all_goals try exact oF
    refine callS.eq (n59 e.tree t[k].id) ?_
    by_cases h2:0≤Zz e.tree t[k].id
    ·have h2':=eq_true h2
     rw[decide_eq_true h2] at hpk
     have hf:(List.range t.length).any p=true:=by
      rw[List.any_eq_true]
      exact ⟨k,by rw[List.mem_range];exact hlt,hpk.symm⟩
     simp only[hf,if_true]
     (refine V1 (jO h2' (jO @ge_iff_le.{0} @decide_true)) ?_)
     refine callS.of (o58 t hl hx _) ?_
     rintro v H' ⟨q,rfl,rfl⟩ -
     (refine V0 ?_)
     exact ⟨q,rfl,rfl⟩
    ·have h2':=eq_false h2
     rw[decide_eq_false h2] at hpk
     (refine V1 (jO h2' (jO @ge_iff_le.{0} @decide_false)) ?_)
     exact nx ⟨k+1,oT,snoc (by rw[←hpk];rfl)⟩ (by simp;omega) (by simp[E2]) rfl
  ·obtain rfl:k=t.length:=by omega
   have hf:(List.range t.length).any p=false:=by
    rw[List.any_eq_false]
    exact fun j hj=>by rw[hn j (by rw[List.mem_range] at hj;exact hj)];simp
   simp only[hf,Bool.false_eq_true,if_false]
   by_cases h3:16<(t.length:Int)-ZC t i+e.tree.length
   ·have h3':=eq_true h3
    simp only[h3,if_true]
    (refine V1 (jO h3' (jO @gt_iff_lt.{0} @decide_true)) ?_;with_reducible repeat' intro h)
    all_goals try exact oF
    refine callS.of (o58 t hl hx _) ?_
    rintro v H' ⟨q,rfl,rfl⟩ -
    (refine V0 ?_)
    exact ⟨q,rfl,rfl⟩
   ·have h3':=eq_false h3
    simp only[h3,if_false]
    (refine V1 (jO h3' (jO @gt_iff_lt.{0} @decide_false)) ?_;with_reducible repeat' intro h)
    all_goals try exact oF
    refine callS.of (o116 t i e.tree hl hx hu1 hu2 _) ?_
    rintro v H' ⟨H1,⟨q,rfl,rfl⟩,rfl⟩ -
    (refine V0 ?_)
    exact ⟨q,rfl,rfl⟩
theorem o68 (g:Gram) (t:List Nod) (i k:Int) (hg:ZA g) (hm:Zk 1 t≤400) (hi:0≤i∧i<t.length) (hk:0≤k∧k<t.length) (H:GH) :
 Gc 68 [Gr g,Tr t,I i,I k] H (OwnTI (swT g t (min i k).toNat (max i k).toNat) H):=by
 obtain ⟨hl,hx⟩:=mk_sm (n:=1048576) (t:=t) oT
 obtain ⟨a,ha⟩:∃a:Nat,min i k=a:=⟨(min i k).toNat,oT⟩
 obtain ⟨b,hb⟩:∃b:Nat,max i k=b:=⟨(max i k).toNat,oT⟩
 have hal:a<t.length:=by omega
 have hbl:b<t.length:=by omega
 have ha2:(if k<i then k else i)=(a:Int):=by split<;>omega
 have hb2:(if i<k then k else i)=(b:Int):=by split<;>omega
 have hsl:=Yr hal
 have hts:=YB hal
 unfold swT
 simp only[ha,hb,Int.toNat_natCast]
 refine ZZ mxd i68 rfl (by simp) ?_;refine X0 ?_
 (refine V0 ?_)
 refine callS.eq (w120 i k) ?_
 rw[ha]
 (refine V0 ?_)
 refine callS.eq (w121 i k) ?_
 rw[hb]
 (refine V0 ?_)
 refine callS.eq (w21 t a) ?_
 rw[hts]
 by_cases h1:(b:Int)<(a:Int)+ZC t a
 ·have h1':=eq_true h1
  simp only[h1,if_true]
  (refine V1 (jO h1' @decide_true) ?_)
  all_goals try exact oF
  refine callS.of (o65 t hl hx _) ?_
  rintro v H' ⟨q,rfl,rfl⟩ -
  (refine V0 ?_)
  exact ⟨q,rfl,rfl⟩
 ·have h1':=eq_false h1
  simp only[h1,if_false]
  (refine V1 (jO h1' @decide_false) ?_;with_reducible repeat' intro h)
  all_goals try exact oF
  refine callS.eq (w30 g t a hg) ?_
  (refine V0 ?_)
  refine callS.eq (w30 g t b hg) ?_
  by_cases h2:symN g t a=symN g t b
  ·have hs1:=Ye t a
   have hs2:=Ye t b
   have hr1:=Yf t b (Y2 t a)
   obtain ⟨e1,e2⟩:=mk_sm (n:=1048576) (t:=Y2 t a) oT
   obtain ⟨e3,e4⟩:=mk_sm (n:=1048576) (t:=Y2 t b) oT
   obtain ⟨e5,e6⟩:=mk_sm (n:=1048576) (t:=YV t b (Y2 t a)) oT
   have h2':(ZR (symN g t a)=ZR (symN g t b))=True:=eq_true (by rw[h2])
   rw[if_pos h2]
   (refine V1 (jO h2' @decide_true) ?_)
   refine callS.eq (q122 t a hl hx) ?_
   (refine V0 ?_)
   refine callS.eq (q119 t b (Y2 t a) hl hx e1 e2) ?_
   (refine V0 ?_)
   refine callS.eq (q122 t b hl hx) ?_
   (refine V0 ?_)
   refine callA.of (o119 (YV t b (Y2 t a)) a (Y2 t b) e5 e6 e3 e4 _) (by rintro v H' ⟨r,rfl,rfl⟩;exact ⟨[_],rfl⟩) ?_
   rintro v H' ⟨r,rfl,rfl⟩ -
   (refine V0 ?_)
   exact ⟨r,rfl,rfl⟩
  ·have h2c:¬ZR (symN g t a)=ZR (symN g t b):=fun e=>h2 (chars_inj.1 e)
   have h2':=eq_false h2c
   rw[if_neg h2]
   (refine V1 (jO h2' @decide_false) ?_)
   refine callS.of (o65 t hl hx _) ?_
   rintro v H' ⟨q,rfl,rfl⟩ -
   (refine V0 ?_)
   exact ⟨q,rfl,rfl⟩
theorem o61 (g:Gram) (t:List Nod) (i k:Int) (hg:ZA g) (hm:Zk 1 t≤400) (hi:0≤i∧i<t.length) (hk:0≤k∧k<t.length) (H:GH) :
 Gc 61 [Gr g,Tr t,I i,I k] H (OwnTI (swT g t (min i k).toNat (max i k).toNat) H):=by
 obtain ⟨hl,hx⟩:=mk_sm (n:=1048576) (t:=t) oT
 obtain ⟨a,ha⟩:∃a:Nat,min i k=a:=⟨(min i k).toNat,oT⟩
 obtain ⟨b,hb⟩:∃b:Nat,max i k=b:=⟨(max i k).toNat,oT⟩
 have hal:a<t.length:=by omega
 have hbl:b<t.length:=by omega
 have ha2:(if k<i then k else i)=(a:Int):=by split<;>omega
 have hb2:(if i<k then k else i)=(b:Int):=by split<;>omega
 have hsl:=Yr hal
 have hts:=YB hal
 unfold swT
 simp only[ha,hb,Int.toNat_natCast]
 refine ZZ mxd i61 rfl (by simp) ?_;refine X0 ?_
 (refine V1 (jO ha2 hb2) ?_)
 refine callS.eq (w115 t a) ?_
 rw[hts]
 by_cases h1:(b:Int)<(a:Int)+ZC t a
 ·have h1':=eq_true h1
  simp only[h1,if_true]
  (refine V1 (jO h1' @decide_true) ?_)
  all_goals try exact oF
  refine callS.of (o58 t hl hx _) ?_
  rintro v H' ⟨q,rfl,rfl⟩ -
  (refine V0 ?_)
  exact ⟨q,rfl,rfl⟩
 ·have h1':=eq_false h1
  simp only[h1,if_false]
  (refine V1 (jO h1' @decide_false) ?_;with_reducible repeat' intro h)
  all_goals try exact oF
  refine callS.eq (w83 g t a hg) ?_
  (refine V0 ?_)
  refine callS.eq (w83 g t b hg) ?_
  by_cases h2:symN g t a=symN g t b
  ·have hs1:=Ye t a
   have hs2:=Ye t b
   have hr1:=Yf t b (Y2 t a)
   obtain ⟨e1,e2⟩:=mk_sm (n:=1048576) (t:=Y2 t a) oT
   obtain ⟨e3,e4⟩:=mk_sm (n:=1048576) (t:=Y2 t b) oT
   obtain ⟨e5,e6⟩:=mk_sm (n:=1048576) (t:=YV t b (Y2 t a)) oT
   have h2':(ZR (symN g t a)=ZR (symN g t b))=True:=eq_true (by rw[h2])
   rw[if_pos h2]
   (refine V1 (jO h2' @decide_true) ?_)
   refine callS.eq (q117 t a hl hx) ?_
   (refine V0 ?_)
   refine callS.eq (q117 t b hl hx) ?_
   (refine V0 ?_)
   refine callS.eq (q116 t b (Y2 t a) hl hx e1 e2) ?_
   (refine V0 ?_)
   refine callA.of (o116 (YV t b (Y2 t a)) a (Y2 t b) e5 e6 e3 e4 _) (by rintro v H' ⟨H1,⟨r,rfl,rfl⟩,rfl⟩;exact ⟨[_],rfl⟩) ?_
   rintro v H' ⟨H1,⟨r,rfl,rfl⟩,rfl⟩ -
   (refine V0 ?_)
   exact ⟨r,rfl,rfl⟩
  ·have h2c:¬ZR (symN g t a)=ZR (symN g t b):=fun e=>h2 (chars_inj.1 e)
   have h2':=eq_false h2c
   rw[if_neg h2]
   (refine V1 (jO h2' @decide_false) ?_)
   refine callS.of (o58 t hl hx _) ?_
   rintro v H' ⟨q,rfl,rfl⟩ -
   (refine V0 ?_)
   exact ⟨q,rfl,rfl⟩
end Go.Proofs.YtknbnefbgpnkgaaGreat
