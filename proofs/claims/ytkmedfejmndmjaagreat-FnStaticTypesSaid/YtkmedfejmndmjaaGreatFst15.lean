/- The law FnStaticTypes returns true whatever the input, and the input reads behind the call as before. No condition. -/
import Derived.Test.YtkmedfejmndmjaaGreatFst11
import Derived.Test.YtkmedfejmndmjaaGreatFst14
set_option maxHeartbeats 40000000
set_option maxRecDepth 20000
set_option linter.unusedSimpArgs false
set_option linter.unusedVariables false
namespace Go.Proofs.YtkmedfejmndmjaaGreat
open Go.Gh
open Nat (reduceEqDiff reduceLeDiff reduceAdd reduceLT)
open Int (reduceNe)
theorem o25 (g:Gram) (t:List Nod) (hg:ZE g) (hl:t.length≤1048576) (hk:∀x∈t,x.kids.length≤1048576) (H:GH):Gc 25 [Gr g,Tr t] H (fun v H'=>∃H1,(∃r,v = .own r 1 0 (cyL (Zv g t) (Zv g t).length).length ∧ H1=[(r,1,(cyL (Zv g t) (Zv g t).length).map I)])∧H'=H1++H):=by
 have hT:=tabI_ok hg t
 have q1:=q66 g t hg hl hk
 have h0:Gc 25 [Gr g,Tr t] H (fun v H'=>∃r L,v = .own r 1 0 (cyL (Zv g t) (Zv g t).length).length ∧ ZV L r=some (1,(cyL (Zv g t) (Zv g t).length).map I)∧H'=L++H):=by
  generalize Zv g t=T at *
  have hTl:=hT.1
  refine Z5 mxd i25 rfl (by simp) ?_;refine X0 ?_
  refine callS.eq q1 ?_
  (refine V0 ?_;with_reducible repeat' intro h)
  rename_i q0
  refine Yu mxd (ι:={ y:Nat×Nat // y.2≤T.length }) (fun y=>[(2,.rop 2 (Gr g)),(3,.rop 1 (Tr t)),(5,TbS T),(6,.own y.1.1 1 0 (cyL T y.1.2).length),(7,I y.1.2)]) (fun y=>(y.1.1,1,(cyL T y.1.2).map I)::H) (fun y=>T.length-y.1.2) ⟨(q0,0),by simp⟩ (by simp[E2,cyL]) (by simp[cyL]) ?_
  rintro ⟨⟨q,m⟩,hm⟩ hn
  dsimp only at hm hn ⊢
  replace hn:=Z4 hn
  (replace hn:=hn;simp only[VN] at hn)
  rcases nL m T.length with hlt|hge
  ·have hle:=thR_len T m
   have hNT:=dN_le (T:=T) (i:=m) hlt
   have hcl:=cyL_le (T:=T) m oT
   (refine V1 hn ?_;with_reducible repeat' first|intro h|apply jO)
   all_goals try exact oF
   refine callS.of (o67 T hT m hlt _) ?_
   rintro v H' ⟨H1,⟨r,rfl,rfl⟩,rfl⟩ hn2
   simp only[List.cons_append,List.nil_append] at hn2 ⊢
   replace hn2:=Z4 hn2
   (replace hn2:=hn2;simp only[VN] at hn2)
   have hcs:cyL T (m+1)=cyF (cyL T m) (thR T m):=rfl
   rw[cyF_if] at hcs
   generalize hb:cyL T m=b at *
   generalize hc:thR T m=l at *
   by_cases e:0<l.length∧(b.length=0∨l.length<b.length)
   ·rw[if_pos e] at hcs
    (refine V1 hn2 ?_;with_reducible repeat' first|intro h|apply jO)
    all_goals first
     | (exfalso;omega)
     | exact nxF ⟨(r,m+1),oT⟩ (by simp;omega) (FE.perm (H:=[_,_]) (L:=[(r,_)]) (by repeat' (first|exact trivial|(refine jO (by simp only[Z9, *,if_true,if_false];try rfl) (jO (by simp[ZW,ZU, *]) ?_))))) (by simp[E2,hcs]) (by simp[hcs])
     | trace_state
   ·rw[if_neg e] at hcs
    (refine V1 hn2 ?_;with_reducible repeat' first|intro h|refine aO ?_|apply jO)
    all_goals first
     | (exfalso;omega)
     | exact nxF ⟨(q,m+1),oT⟩ (by simp;omega) (FE.perm (H:=[_,_]) (L:=[(q,_)]) (by repeat' (first|exact trivial|(refine jO (by simp only[Z9, *,if_true,if_false];try rfl) (jO (by simp[ZW,ZU, *]) ?_))))) (by simp[E2,hcs]) (by simp[hcs])
     | trace_state
  ·obtain rfl:m=T.length:=by omega
   (refine V1 hn ?_;with_reducible repeat' intro h)
   all_goals try exact oF
   exact ⟨q,[(q,_)],rfl,by simp[ZV],rfl⟩
 refine h0.fr ?_
 rintro v H' ⟨r,L,rfl,hr,rfl⟩
 exact ⟨_,_,FR.perm (H:=L) (L:=[(r,1,(cyL (Zv g t) (Zv g t).length).map I)]) ⟨hr,by simp[names],trivial⟩,_,⟨r,rfl,rfl⟩,rfl⟩
theorem q25 (g:Gram) (t:List Nod) (hg:ZE g) (hl:t.length≤1048576) (hk:∀x∈t,x.kids.length≤1048576):Pu 25 [Gr g,Tr t] (· = IS (cyL (Zv g t) (Zv g t).length)):=
 Pure.bor ((o25 g t hg hl hk []).mono fun v H' ⟨H1,⟨r,h1,h2⟩,h3⟩=>by
  subst h1;subst h2;subst h3
  exact X6 ZZ rfl)
end Go.Proofs.YtkmedfejmndmjaaGreat
