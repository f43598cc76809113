/- The laws FnTreeOrder and FnTreeCycle return true whatever the input, and the input reads behind the call as before. No condition. -/
import Derived.Test.YtofcbmnplanmkaaGreatFoc9
set_option maxHeartbeats 40000000
set_option linter.unusedSimpArgs false
set_option linter.unusedVariables false
namespace Go.Proofs.YtofcbmnplanmkaaGreat
open Go.Gh
open Nat (reduceEqDiff reduceLeDiff reduceAdd reduceLT)
open Int (reduceNe)
set_option maxRecDepth 20000
set_option linter.unusedSimpArgs false
set_option linter.unusedVariables false
theorem o16 (g:Gram) (t:List Nod) (hg:Zx g) (hl:t.length≤1048576) (hk:∀x∈t,x.kids.length≤1048576) (H:GH):Gc 16 [Gr g,Tr t] H (fun v H'=>∃H1,(∃r,v = .own r 1 0 (cyL (ZD g t) (ZD g t).length).length ∧ H1=[(r,1,(cyL (ZD g t) (ZD g t).length).map I)])∧H'=H1++H):=by
 have hT:=tabI_ok hg t
 have q1:=q17 g t hg hl hk
 have h0:Gc 16 [Gr g,Tr t] H (fun v H'=>∃r L,v = .own r 1 0 (cyL (ZD g t) (ZD g t).length).length ∧ ZW L r=some (1,(cyL (ZD g t) (ZD g t).length).map I)∧H'=L++H):=by
  generalize ZD g t=T at *
  have hTl:=hT.1
  refine ZV mxd i16 rfl (by simp) ?_;refine X0 ?_
  refine callS.eq q1 ?_
  (refine V0 ?_;with_reducible repeat' first|exact trivial|intro h|refine aO ?_|refine eO ?_|apply jO)
  rename_i q0
  refine YY mxd (ι:={ y:Nat×Nat // y.2≤T.length }) (fun y=>[(2,.rop 2 (Gr g)),(3,.rop 1 (Tr t)),(5,TbS T),(6,.own y.1.1 1 0 (cyL T y.1.2).length),(7,I y.1.2)]) (fun y=>(y.1.1,1,(cyL T y.1.2).map I)::H) (fun y=>T.length-y.1.2) ⟨(q0,0),by simp⟩ (by simp [E2,cyL]) (by simp [cyL]) ?_
  rintro ⟨⟨q,m⟩,hm⟩ hn
  dsimp only at hm hn ⊢
  replace hn:=Z4 hn
  (replace hn:=hn;simp only [VN] at hn)
  rcases nL m T.length with hlt|hge
  ·have hle:=thR_len T m
   have hNT:=dN_le (T:=T) (i:=m) hlt
   have hcl:=cyL_le (T:=T) m (by omega)
   (refine V1 hn ?_;with_reducible repeat' first|exact trivial|intro h|refine aO ?_|refine eO ?_|apply jO)
   all_goals try exact oF
   refine callS.of (o46 T hT m hlt _) ?_
   rintro v H' ⟨H1,⟨r,rfl,rfl⟩,rfl⟩ hn2
   simp only [List.cons_append,List.nil_append] at hn2 ⊢
   replace hn2:=Z4 hn2
   (replace hn2:=hn2;simp only [VN] at hn2)
   have hcs:cyL T (m+1)=cyF (cyL T m) (thR T m):=rfl
   rw [cyF_if] at hcs
   generalize hb:cyL T m=b at *
   generalize hc:thR T m=l at *
   by_cases e:0<l.length∧(b.length=0∨l.length<b.length)
   ·rw [if_pos e] at hcs
    (refine V1 hn2 ?_;with_reducible repeat' first|exact trivial|intro h|refine aO ?_|refine eO ?_|apply jO)
    all_goals first
     | (exfalso;omega)
     | exact nxF ⟨(r,m+1),by omega⟩ (by simp;omega) (FE.perm (H:=[_,_]) (L:=[(r,_)]) (by repeat' (first|exact trivial|(refine And.intro (by simp only [Z9, *,if_true,if_false];try rfl) (And.intro (by simp [ZS,ZR, *]) ?_))))) (by simp [E2,hcs]) (by simp [hcs])
     | trace_state
   ·rw [if_neg e] at hcs
    (refine V1 hn2 ?_;with_reducible repeat' first|exact trivial|intro h|refine aO ?_|refine eO ?_|apply jO)
    all_goals first
     | (exfalso;omega)
     | exact nxF ⟨(q,m+1),by omega⟩ (by simp;omega) (FE.perm (H:=[_,_]) (L:=[(q,_)]) (by repeat' (first|exact trivial|(refine And.intro (by simp only [Z9, *,if_true,if_false];try rfl) (And.intro (by simp [ZS,ZR, *]) ?_))))) (by simp [E2,hcs]) (by simp [hcs])
     | trace_state
  ·obtain rfl:m=T.length:=by omega
   (refine V1 hn ?_;with_reducible repeat' first|exact trivial|intro h|refine aO ?_|refine eO ?_|apply jO)
   all_goals try exact oF
   exact ⟨q,[(q,_)],rfl,by simp [ZW],rfl⟩
 refine h0.fr ?_
 rintro v H' ⟨r,L,rfl,hr,rfl⟩
 exact ⟨_,_,FR.perm (H:=L) (L:=[(r,1,(cyL (ZD g t) (ZD g t).length).map I)]) ⟨hr,by simp [names],trivial⟩,_,⟨r,rfl,rfl⟩,rfl⟩
theorem o11 (g:Gram) (t:List Nod) (hg:Zx g) (hl:t.length≤1048576) (hk:∀x∈t,x.kids.length≤1048576) (H:GH):Gc 11 [Gr g,Tr t] H (fun v H'=>∃H1,(∃r,v = .own r 1 0 (cyL (ZD g t) (ZD g t).length).length ∧ H1=[(r,1,(cyL (ZD g t) (ZD g t).length).map I)])∧H'=H1++H):=by
 have hT:=tabI_ok hg t
 have q1:=q12 g t hg hl hk
 have q2:=q35 (ZD g t) hT
 have h0:Gc 11 [Gr g,Tr t] H (fun v H'=>(∃r L,v = .own r 1 0 (cyL (ZD g t) (ZD g t).length).length ∧ ZW L r=some (1,(cyL (ZD g t) (ZD g t).length).map I)∧H'=L++H)∨(cyL (ZD g t) (ZD g t).length = []∧v = .val (.slice none 0 0)∧∃L,H'=L++H)):=by
  generalize ZD g t=T at *
  have hTl:=hT.1
  have hFl:(Zf T).length = T.length:=by simp [Zf]
  have q3:∀i:Nat,i<T.length→Pu 40 [TbS (Zf T),I i] (· = IS (dst T i)):=fun i hi=>by
   have:=q40 (Zf T) (fltT_ok hT) (fltT_pos T) i (by omega)
   rw [dst_flt hT] at this
   exact this
  have goT {p:Prop} (h:p):p=True:=eq_true h
  have goF {p:Prop} (h:¬p):p=False:=eq_false h
  refine ZV mxd i11 rfl (by simp) ?_;refine X0 ?_
  refine callS.eq q1 ?_
  (refine V0 ?_;with_reducible repeat' first|exact trivial|intro h|refine aO ?_|refine eO ?_|apply jO)
  refine callS.eq q2 ?_
  (refine V1 hFl ?_;with_reducible repeat' first|exact trivial|intro h|refine aO ?_|refine eO ?_|apply jO)
  refine ZC mxd (ι:={ m:Nat // m≤T.length }) (fun m=>[(2,.rop 2 (Gr g)),(3,.rop 1 (Tr t)),(5,TbS (Zf T)),(6,I (fiL T m.1).1),(7,I (fiL T m.1).2),(21,TbS (Zf T)),(22,I T.length),(23,I m.1)]) (fun _ => H) (fun m=>T.length-m.1) ⟨0,by omega⟩ (by simp [E2,fiL]) rfl ?_
  rintro ⟨m,hm⟩
  rcases nL m T.length with hlt|hge
  ·have hdl:(dst T m).length = T.length:=by rw [dst,Y2]
   have hml:m<(dst T m).length := by omega
   have hfs:fiL T (m+1)=fiF T (fiL T m) m:=rfl
   rw [fiF_if,ZQ hml] at hfs
   (refine V1 hFl ?_;with_reducible repeat' first|exact trivial|intro h|refine aO ?_|refine eO ?_|apply jO)
   all_goals try exact oF
   refine callS.eq (q3 m hlt) ?_
   generalize hs:fiL T m=s at *
   generalize hd:(dst T m)[m]=d at *
   by_cases e:0<d∧(s.1<0∨d<s.2)
   ·rw [if_pos e] at hfs
    (refine V1 (jO hFl (jO hdl (jO hd @List.length_map.{0,0}))) ?_;with_reducible repeat' first|exact trivial|intro h|refine aO ?_|refine eO ?_|apply jO)
    all_goals first
     | (exfalso;omega)
     | exact nx ⟨m+1,by omega⟩ (by simp;omega) (by simp [E2,hfs]) rfl
     | trace_state
   ·rw [if_neg e] at hfs
    (refine V1 (jO hFl (jO hdl (jO hd @List.length_map.{0,0}))) ?_;with_reducible repeat' first|exact trivial|intro h|refine aO ?_|refine eO ?_|apply jO)
    all_goals first
     | (exfalso;omega)
     | exact nx ⟨m+1,by omega⟩ (by simp;omega) (by simp [E2,hfs]) rfl
     | trace_state
  ·obtain rfl:m=T.length:=by omega
   rcases fiL_eq (T:=T) T.length (by omega) with ⟨h1,h2⟩|⟨h1,h2,h3,h4,h5⟩
   ·rw [h1,h2]
    (refine V1 hFl ?_;with_reducible repeat' first|exact trivial|intro h|refine aO ?_|refine eO ?_|apply jO)
    all_goals try exact oF
    exact .inr ⟨[],rfl⟩
   ·generalize fiL T T.length=s at *
    obtain ⟨f,hf⟩:∃f:Nat,s.1=f:=⟨s.1.toNat,by omega⟩
    have hfl:f<T.length:=by omega
    rw [hf,Int.toNat_natCast] at h3 h5
    have hdN:0<dN T f:=by omega
    have hNT:=dN_le (T:=T) (i:=f) hfl
    have hdl:(dst T f).length = T.length:=by rw [dst,Y2]
    rw [hf,h3]
    (refine V1 hFl ?_;with_reducible repeat' first|exact trivial|intro h|refine aO ?_|refine eO ?_|apply jO)
    all_goals try exact oF
    refine callS.eq (q3 f hfl) ?_
    (refine V1 hFl ?_;with_reducible repeat' first|exact trivial|intro h|refine aO ?_|refine eO ?_|apply jO)
    all_goals try exact oF
    rename_i q0
    refine YY mxd (ι:={ y:Nat×Nat // y.2<dN T f }) (fun y=>[(2,.rop 2 (Gr g)),(3,.rop 1 (Tr t)),(5,TbS (Zf T)),(10,IS (dst T f)),(11,.own y.1.1 1 0 (y.1.2+1)),(12,I (stN T f (dN T f) y.1.2).2),(13,I ((dN T f-1-y.1.2:Nat):Int))]) (fun y=>(y.1.1,1,(stN T f (dN T f) (y.1.2+1)).1.map I)::H) (fun y=>dN T f-y.1.2) ⟨(q0,0),hdN⟩ (by simp [E2,stN];omega) (by simp [stN]) ?_
    rintro ⟨⟨q,m⟩,hm⟩ hn
    dsimp only at hm hn ⊢
    replace hn:=Z4 hn
    (replace hn:=hn;simp only [VN] at hn)
    have hsl:=stN_len T f (dN T f) (m+1)
    have hsr:=stN_rng hT (N:=dN T f) hfl m
    rcases nL (m+1) (dN T f) with hlt|hge2
    ·have hnx:=nxA_flt hT hfl hlt
     have hst:(stN T f (dN T f) (m+1+1)).1 = (stN T f (dN T f) (m+1)).1 ++ [(stN T f (dN T f) (m+1)).2]:=rfl
     have hsr2:=stN_rng hT (N:=dN T f) hfl (m+1)
     obtain ⟨a,ha⟩:∃a:Nat,(stN T f (dN T f) m).2 = a:=⟨(stN T f (dN T f) m).2.toNat,by omega⟩
     have ha2:a<T.length:=by omega
     have haf:a<(Zf T).length := by omega
     rw [ha,Int.toNat_natCast,ZQ ha2,←fltT_get haf ha2] at hnx
     rw [ha]
     have hrow:=((fltT_ok hT).2 _ (gM haf))
     have hrp:=fltT_pos T _ (gM haf)
     generalize hR:(Zf T)[a]=R at *
     (refine V1 (jO hn (jO hFl hR)) ?_;with_reducible repeat' first|exact trivial|intro h|refine aO ?_|refine eO ?_|apply jO)
     all_goals try exact oF
     refine ZC mxd (ι:={ j:Nat // j≤R.length }) (fun j=>[(2,.rop 2 (Gr g)),(3,.rop 1 (Tr t)),(5,TbS (Zf T)),(10,IS (dst T f)),(11,.own q 1 0 (m+1)),(12,I a),(13,I ((dN T f-1-m:Nat):Int)),(14,I (Ze (fun k=>decide ((dst T f).getD k.toNat 0=((dN T f-1-m:Nat):Int))) (R.take j.1))),(63,IS R),(64,I R.length),(65,I j.1)]) (fun _ => (q,1,(stN T f (dN T f) (m+1)).1.map I)::H) (fun j=>R.length-j.1) ⟨0,by omega⟩ (by simp [E2,Ze]) rfl ?_
     rintro ⟨j,hj⟩
     rcases nL j R.length with hlt3|hge3
     ·obtain ⟨x,hx⟩:∃x:Nat,R[j]=x:=⟨R[j].toNat,by have:=hrp _ (gM hlt3);omega⟩
      have hxl:x<(dst T f).length := by
       have:=(hrow.2 _ (gM hlt3)).2;omega
      have hL:=YJ (p:=fun k=>decide ((dst T f).getD k.toNat 0=((dN T f-1-m:Nat):Int))) hlt3
      rw [hx] at hL
      simp only [lsF,Int.toNat_natCast,ZQ hxl,Bool.and_eq_true,Bool.or_eq_true,decide_eq_true_eq] at hL
      generalize hB:Ze (fun k=>decide ((dst T f).getD k.toNat 0=((dN T f-1-m:Nat):Int))) (R.take j)=b at *
      generalize hD:(dN T f-1-m)=D at *
      generalize hV:(dst T f)[x]=v at *
      by_cases e:v=(D:Int)∧(b<0∨(x:Int)<b)
      ·rw [if_pos e] at hL
       (refine V1 (jO hn (jO hx (jO hV (jO hdl (jO @Int.toNat_natCast @List.length_map.{0,0}))))) ?_;with_reducible repeat' first|exact trivial|intro h|refine aO ?_|refine eO ?_|apply jO)
       all_goals first
        | (exfalso;omega)
        | exact nx ⟨j+1,by omega⟩ (by simp;omega) (by dsimp only;rw [hL];simp [E2]) rfl
        | trace_state
      ·rw [if_neg e] at hL
       (refine V1 (jO hn (jO hx (jO hV (jO hdl (jO @Int.toNat_natCast @List.length_map.{0,0}))))) ?_;with_reducible repeat' first|exact trivial|intro h|refine aO ?_|refine eO ?_|apply jO)
       all_goals first
        | (exfalso;omega)
        | exact nx ⟨j+1,by omega⟩ (by simp;omega) (by dsimp only;rw [hL];simp [E2]) rfl
        | trace_state
     ·obtain rfl:j=R.length:=by omega
      rw [List.take_length,hnx]
      (refine V1 (jO hn (jO hsl (jO @List.length_append.{0} (jO @List.length_singleton.{0} (jO @List.length_map.{0,0} @ZP))))) ?_;with_reducible repeat' first|exact trivial|intro h|refine aO ?_|refine eO ?_|apply jO)
      all_goals try exact oF
      rename_i r3 _ r4
      refine nxF ⟨(r4,m+1),hlt⟩ (by simp;omega) (FE.perm (H:=[_,_]) (L:=[(r4,_)]) (by repeat' (first|exact trivial|(refine And.intro (by simp only [Z9, *,if_true,if_false];try rfl) (And.intro (by simp [ZS,ZR, *]) ?_))))) (by simp [E2];omega) ?_
      rw [hst,tL (by simp [hsl]),List.map_append]
      rfl
    ·have hme:m+1=dN T f:=by omega
     have hcy:cyL T T.length=(stN T f (dN T f) (m+1)).1 := by rw [h5,thR,hme]
     (refine V1 hn ?_;with_reducible repeat' first|exact trivial|intro h|refine aO ?_|refine eO ?_|apply jO)
     all_goals try exact oF
     exact .inl ⟨q,[(q,_)],by rw [hcy,hsl],by rw [hcy];simp [ZW],rfl⟩
 refine h0.fr ?_
 rintro v H' (⟨r,L,rfl,hr,rfl⟩|⟨e1,rfl,L,rfl⟩)
 ·exact ⟨_,_,FR.perm (H:=L) (L:=[(r,1,(cyL (ZD g t) (ZD g t).length).map I)]) ⟨hr,by simp [names],trivial⟩,_,⟨r,rfl,rfl⟩,rfl⟩
 ·rw [e1]
  exact ⟨_,_,FR.trans (FR.perm (H:=L) (L:=[]) trivial) (FR.trans (FR.addv (r:=YL ([]++H)) (sz:=1) (vname_odd _) (vname_new _)) (FR.sub (Bor.virt (r:=YL ([]++H)) (sz:=1)))),_,⟨YL ([]++H),rfl,rfl⟩,rfl⟩
theorem q16 (g:Gram) (t:List Nod) (hg:Zx g) (hl:t.length≤1048576) (hk:∀x∈t,x.kids.length≤1048576):Pu 16 [Gr g,Tr t] (· = IS (cyL (ZD g t) (ZD g t).length)):=
 Pure.bor ((o16 g t hg hl hk []).mono fun v H' ⟨H1,⟨r,h1,h2⟩,h3⟩=>by
  subst h1;subst h2;subst h3
  exact bor_IS ZX rfl)
theorem q11 (g:Gram) (t:List Nod) (hg:Zx g) (hl:t.length≤1048576) (hk:∀x∈t,x.kids.length≤1048576):Pu 11 [Gr g,Tr t] (· = IS (cyL (ZD g t) (ZD g t).length)):=
 Pure.bor ((o11 g t hg hl hk []).mono fun v H' ⟨H1,⟨r,h1,h2⟩,h3⟩=>by
  subst h1;subst h2;subst h3
  exact bor_IS ZX rfl)
end Go.Proofs.YtofcbmnplanmkaaGreat
