/- The law FnStaticTypes returns true whatever the input, and the input reads behind the call as before. No condition. -/
import Derived.Test.YtkmedfejmndmjaaGreatFst24
set_option maxHeartbeats 40000000
set_option maxRecDepth 20000
set_option linter.unusedSimpArgs false
set_option linter.unusedVariables false
namespace Go.Proofs.YtkmedfejmndmjaaGreat
open Go.Gh
open Nat (reduceEqDiff reduceLeDiff reduceAdd reduceLT)
open Int (reduceNe)
theorem o123 (X Y:GV) (g:Gram) (r:Rul) (hg:ZE g) (hs:∀s∈g.syms,shSy s) (hr:Y7 r) (hr3:r.right.length≤3) (hY:clean Y=true) :
 Dc Tryz.prog 123 [GrX g X,RuX r Y (.val (.slice none 0 0))] (fun v H1=>∃(cs:List Con) (q:Nat),(cs.length≤2∧∀c∈cs,shCo c)∧v=RuX r Y (.own q 16 0 cs.length)∧H1=[(q,16,cs.map Co)]):=by
 have hg1:=hg.1
 refine Dc.of fun rc H=> ?_
 have hof:∀Z kind,Pu 189 [GrX g X,RuX r Y Z,I kind] (· = OcS (ofO g r kind)):=fun Z kind=>x189 X Y Z g r kind hg hr oT
 have hlf:∀kind k2,Dv Tryz.prog 188 [I kind,OcS (ofO g r k2)] (fun v=>∃e,e.args=[]∧shD 0 e∧v=ExN e):=fun kind k2=>w188 kind _ (ofA_sh hs r k2 _)
 generalize ofO g r=of at *
 refine Z5 mxd i123 rfl (by simp) ?_;refine X0 ?_
 ((refine R1 (jO @Z9 (jO @Z8 @Z7)) ?_;with_reducible repeat' intro h);(repeat' (have h:=Z4 h;simp only[Z0,ZX,Z1,ZY,and_true,true_and] at h;(refine R1 (jO @Z9 (jO @Z8 (jO @Z7 h))) ?_))))
 rename_i rr _
 obtain ⟨v,hv,hvn⟩:=vfresh (names ((rr,6,[RuX r Y (.val (.slice none 0 0))])::(rc,3,[.cur])::H))
 refine YD mxd (ι:={ x:(Nat×List Con)×Nat // x.2≤g.syms.length∧x.1.2.length≤2∧∀c∈x.1.2,shCo c }) (fun x=>[(0,.ptr rc 3 0 0),(4,.rop 2 (GrX g X)),(5,.ptr rr 6 0 0),(6,.raw 6),(7,I x.1.2)]) (fun x=>(x.1.1.1,16,x.1.1.2.map Co)::(rr,6,[RuX r Y (.own x.1.1.1 16 0 x.1.1.2.length)])::(rc,3,[.cur])::H) (fun x=>g.syms.length-x.1.2) ⟨((v,[]),0),by simp⟩ (FE.virtF (sz:=6) (sz1:=16) (i:=0) (j:=5) (es:=[RuX r Y (.val (.slice none 0 0))]) (gs:=[T r.name,T r.left,TS r.right,B r.lit,Y,.val (.slice none 0 0)]) ZZ rfl rfl hv hvn) (by simp[E2]) (by simp[ZC]) ?_
 rintro ⟨⟨⟨q,l⟩,i⟩,hi,hl,hd⟩ hn2
 dsimp only at hi hl hd hn2 ⊢
 have h4:=Z4 hn2
 (replace h4:=h4;simp only[VN] at h4)
 refine Zl mxd ?_
 rcases nL i g.syms.length with hlt|hge
 ·have hsy:=hs _ (gM hlt)
  have hal:=hsy.2.2.1
  ((refine R1 (jO @Z9 (jO @Z8 (jO @Z7 h4))) ?_;with_reducible repeat' first|intro h|refine aO ?_|apply jO);(repeat' (have h:=Z4 h;simp only[Z0,ZX,Z1,ZY,and_true,true_and] at h;(refine R1 (jO @Z9 (jO @Z8 (jO @Z7 (jO h4 h)))) ?_;with_reducible repeat' first|exact trivial|intro h|refine aO ?_|refine eO ?_|apply jO))))
  all_goals try exact oF
  refine YD mxd (ι:={ x:(Nat×List Con)×Nat // x.2≤g.syms[i].atts.length ∧ x.1.2.length≤2∧∀c∈x.1.2,shCo c }) (fun x=>[(0,.ptr rc 3 0 0),(4,.rop 2 (GrX g X)),(5,.ptr rr 6 0 0),(6,.raw 6),(7,I i),(8,I x.1.2)]) (fun x=>(x.1.1.1,16,x.1.1.2.map Co)::(rr,6,[RuX r Y (.own x.1.1.1 16 0 x.1.1.2.length)])::(rc,3,[.cur])::H) (fun x=>g.syms[i].atts.length - x.1.2) ⟨((q,l),0),oT,hl,hd⟩ FE.refl (by simp[E2]) rfl ?_
  rintro ⟨⟨⟨q,l⟩,k⟩,hk,hl,hd⟩ hn2
  dsimp only at hk hl hd hn2 ⊢
  have h4:=Z4 hn2
  (replace h4:=h4;simp only[VN] at h4)
  refine Zl mxd ?_
  rcases nL k g.syms[i].atts.length with hlt2|hge2
  ·have hat:=hsy.2.2.2 _ (gM hlt2)
   ((refine R1 (jO @Z9 (jO @Z8 (jO @Z7 h4))) ?_;with_reducible repeat' first|intro h|apply jO);(repeat' (have h:=Z4 h;simp only[Z0,ZX,Z1,ZY,and_true,true_and] at h;(refine R1 (jO @Z9 (jO @Z8 (jO @Z7 (jO h4 h)))) ?_;with_reducible repeat' first|exact trivial|intro h|refine aO ?_|refine eO ?_|apply jO))))
   all_goals try exact oF
   all_goals try exact nx ⟨((q,l),k+1),by dsimp only;omega,hl,hd⟩ (by dsimp only;omega) (by simp[E2]) rfl
   refine callS.dv (w36 3) (by simp only[Z9,h4,if_true,if_false]) ?_
   rintro _ ⟨b,rfl⟩
   cases b
   ·((refine R1 (jO @Z9 (jO @Z8 (jO @Z7 h4))) ?_);(repeat' (have h:=Z4 h;simp only[Z0,ZX,Z1,ZY,and_true,true_and] at h;(refine R1 (jO @Z9 (jO @Z8 (jO @Z7 (jO h4 h)))) ?_;with_reducible repeat' first|exact trivial|intro h|refine aO ?_|refine eO ?_|apply jO))))
    all_goals try exact oF
    refine callS.eq (hof _ 4) ?_
    ((refine R1 (jO @Z9 (jO @Z8 (jO @Z7 h4))) ?_);(repeat' (have h:=Z4 h;simp only[Z0,ZX,Z1,ZY,and_true,true_and] at h;(refine R1 (jO @Z9 (jO @Z8 (jO @Z7 (jO h4 h)))) ?_;with_reducible repeat' first|exact trivial|intro h|refine aO ?_|refine eO ?_|apply jO))))
    refine callA.dv (hlf 4 4) (by simp only[Z9,h4,if_true,if_false]) ?_
    rintro _ ⟨e1,a1,b1,rfl⟩
    ((refine R1 (jO @Z9 (jO @Z8 (jO @Z7 h4))) ?_);(repeat' (have h:=Z4 h;simp only[Z0,ZX,Z1,ZY,and_true,true_and] at h;(refine R1 (jO @Z9 (jO @Z8 (jO @Z7 (jO h4 h)))) ?_;with_reducible repeat' first|exact trivial|intro h|refine aO ?_|refine eO ?_|apply jO))))
    refine callS.eq (hof _ 2) ?_
    ((refine R1 (jO @Z9 (jO @Z8 (jO @Z7 h4))) ?_);(repeat' (have h:=Z4 h;simp only[Z0,ZX,Z1,ZY,and_true,true_and] at h;(refine R1 (jO @Z9 (jO @Z8 (jO @Z7 (jO h4 h)))) ?_;with_reducible repeat' first|exact trivial|intro h|refine aO ?_|refine eO ?_|apply jO))))
    refine callA.dv (hlf 2 2) (by simp only[Z9,h4,if_true,if_false]) ?_
    rintro _ ⟨e2,a2,b2,rfl⟩
    ((refine R1 (jO @Z9 (jO @Z8 (jO @Z7 (jO h4 (jO @List.length_append.{0} (jO @List.length_singleton.{0} (jO @List.length_map.{0,0} (jO @List.length_take.{0} @ZM)))))))) ?_;with_reducible repeat' intro h);(repeat' (have h:=Z4 h;simp only[Z0,ZX,Z1,ZY,and_true,true_and] at h;(refine R1 (jO @Z9 (jO @Z8 (jO @Z7 (jO h4 (jO @List.length_append.{0} (jO @List.length_singleton.{0} (jO @List.length_map.{0,0} (jO @List.length_take.{0} (jO @ZM h))))))))) ?_;with_reducible repeat' intro h))))
    all_goals try exact oF
    rename_i r3 _ _ r4 _
    rw[tL (by simp)]
    exact nxF ⟨((r4,l++[⟨g.syms[i].name,g.syms[i].atts[k].name,e1,e2⟩]),k+1),by dsimp only;omega,by simp;omega,fun y hy=>(List.mem_append.1 hy).elim (hd y) fun h=>by
     rw[List.mem_singleton] at h;subst h;exact ⟨hsy.1,hat,shD_ex oT b1,shD_ex oT b2⟩⟩ (by dsimp only;omega) (FE.trans (FE.perm (H:=[_,_,_,_]) (L:=[(r4,_),(rr,_),(rc,_)]) (by repeat' (first|exact trivial|(refine jO (by simp only[Z9, *,if_true,if_false];try rfl) (jO (by simp[ZW,ZU, *]) ?_))))) (FE.con a1 a2)) (by simp[E2]) (by simp)
   ·((refine R1 (jO @Z9 (jO @Z8 (jO @Z7 h4))) ?_);(repeat' (have h:=Z4 h;simp only[Z0,ZX,Z1,ZY,and_true,true_and] at h;(refine R1 (jO @Z9 (jO @Z8 (jO @Z7 (jO h4 h)))) ?_;with_reducible repeat' first|exact trivial|intro h|refine aO ?_|refine eO ?_|apply jO))))
    all_goals try exact oF
    exact nx ⟨((q,l),k+1),by dsimp only;omega,hl,hd⟩ (by dsimp only;omega) (by simp[E2]) rfl
  ·((refine R1 (jO @Z9 (jO @Z8 (jO @Z7 h4))) ?_;with_reducible repeat' intro h);(repeat' (have h:=Z4 h;simp only[Z0,ZX,Z1,ZY,and_true,true_and] at h;(refine R1 (jO @Z9 (jO @Z8 (jO @Z7 (jO h4 h)))) ?_;with_reducible repeat' first|exact trivial|intro h|refine aO ?_|refine eO ?_|apply jO))))
   all_goals try exact oF
   exact nx ⟨((q,l),i+1),by dsimp only;omega,hl,hd⟩ (by dsimp only;omega) (by simp[E2]) rfl
 ·((refine R1 (jO @Z9 (jO @Z8 (jO @Z7 h4))) ?_;with_reducible repeat' first|intro h|refine aO ?_);(repeat' (have h:=Z4 h;simp only[Z0,ZX,Z1,ZY,and_true,true_and] at h;(refine R1 (jO @Z9 (jO @Z8 (jO @Z7 (jO h4 h)))) ?_;with_reducible repeat' first|exact trivial|intro h|refine aO ?_|refine eO ?_|apply jO))))
  all_goals try exact oF
  all_goals first
   | exact hY
   | exact ⟨_,[(q,16,l.map Co)],[_,_,_],[],⟨l,q,⟨hl,hd⟩,rfl,rfl⟩,.refl,rfl,(by repeat' (first|exact trivial|(refine jO (by simp only[Z9, *,if_true,if_false];try rfl) (jO (by simp[ZW,ZU, *]) ?_))))⟩
theorem o122 (X:GV) (g:Gram) (r:Rul) (hg:ZE g) (hs:∀s∈g.syms,shSy s) (hs1:1≤g.syms.length) (hr:Y7 r) (hr3:r.right.length≤3) (remote:Bool) :
 Dc Tryz.prog 122 [GrX g X,RuX r (.val (.slice none 0 0)) (.val (.slice none 0 0)),B remote] (fun v H1=>∃(qs:List Eqn) (q:Nat),(qs.length≤64∧∀x∈qs,shT x.name∧shEx x.expr)∧v=RuX r (.own q 9 0 qs.length) (.val (.slice none 0 0))∧H1=[(q,9,qs.map Qn)]):=by
 refine Dc.of fun rc H=> ?_
 have hrl:=reqA_len5 hs r (r.right.length+1)
 have hrs:=reqA_sh hs r (r.right.length+1)
 have hro:∀Y Z,Pu 186 [GrX g X,RuX r Y Z] (· = OcS (reqO g r)):=fun Y Z=>x186 X Y Z g r hg hr hr3
 have hsa:∀Y Z p,Pu 11 [RuX r Y Z,I p] (· = T (Zw r p)):=fun Y Z p=>x11 X Y Z r p hr
 have hfs:∀n,Pu 10 [GrX g X,T n] (· = .tup [Sy (Zy g.syms n),B (hSym g.syms n)]):=fun n=>x10 X X X g n hg
 have hfa:∀n m,Pu 12 [Sy (Zy g.syms n),T m] (· = .tup [At (YE (Zy g.syms n).atts m),B (hAtt (Zy g.syms n).atts m)]):=fun n m=>w12 _ m (YR hg n)
 have hex:∀Y Z (d:Nat),d≤4→∀kind,Dv Tryz.prog 187 [GrX g X,RuX r Y Z,I kind,I d,B remote] (fun v=>∃e,shD d e∧v=Ex e):=fun Y Z d hd kind=>w187 X Y Z g r hg hs hs1 hr oT d hd kind r.lit remote
 change (reqO g r).length ≤ _ at hrl
 change ∀o∈reqO g r,_ at hrs
 generalize reqO g r=need at *
 refine Z5 mxd i122 rfl (by simp) ?_;refine X0 ?_
 ((refine R1 (jO @Z9 (jO @Z8 @Z7)) ?_;with_reducible repeat' intro h);(repeat' (have h:=Z4 h;simp only[Z0,ZX,Z1,ZY,and_true,true_and] at h;(refine R1 (jO @Z9 (jO @Z8 (jO @Z7 h))) ?_))))
 refine callS.eq (hro _ _) ?_
 ((refine R1 (jO @Z9 (jO @Z8 (jO @Z7 h))) ?_);(repeat' (have h:=Z4 h;simp only[Z0,ZX,Z1,ZY,and_true,true_and] at h;(refine R1 (jO @Z9 (jO @Z8 (jO @Z7 (jO h h)))) ?_;with_reducible repeat' first|exact trivial|intro h|refine aO ?_|refine eO ?_|apply jO))))
 rename_i rr _
 obtain ⟨v,hv,hvn⟩:=vfresh (names ((rr,6,[RuX r (.val (.slice none 0 0)) (.val (.slice none 0 0))])::(rc,3,[.cur])::H))
 refine YD mxd (ι:={ x:(Nat×List Eqn)×Nat // x.2≤need.length∧x.1.2.length≤x.2∧∀q∈x.1.2,shT q.name∧shEx q.expr }) (fun x=>[(0,.ptr rc 3 0 0),(3,B remote),(5,.rop 2 (GrX g X)),(6,.ptr rr 6 0 0),(8,.raw 6),(9,OcS need),(10,I x.1.2)]) (fun x=>(x.1.1.1,9,x.1.1.2.map Qn)::(rr,6,[RuX r (.own x.1.1.1 9 0 x.1.1.2.length) (.val (.slice none 0 0))])::(rc,3,[.cur])::H) (fun x=>need.length-x.1.2) ⟨((v,[]),0),by simp⟩ (FE.virtF (sz:=6) (sz1:=9) (i:=0) (j:=4) (es:=[RuX r (.val (.slice none 0 0)) (.val (.slice none 0 0))]) (gs:=[T r.name,T r.left,TS r.right,B r.lit,.val (.slice none 0 0),.val (.slice none 0 0)]) ZZ rfl rfl hv hvn) (by simp[E2]) (by simp[ZC]) ?_
 rintro ⟨⟨⟨q,l⟩,i⟩,hi,hl,hd⟩ hn2
 dsimp only at hi hl hd hn2 ⊢
 have h4:=Z4 hn2
 (replace h4:=h4;simp only[VN] at h4)
 refine Zl mxd ?_
 rcases nL i need.length with hlt|hge
 ·have hli:l.length≤100:=by omega
  ((refine R1 (jO @Z9 (jO @Z8 (jO @Z7 h4))) ?_;with_reducible repeat' first|intro h|apply jO);(repeat' (have h:=Z4 h;simp only[Z0,ZX,Z1,ZY,and_true,true_and] at h;(refine R1 (jO @Z9 (jO @Z8 (jO @Z7 (jO h4 h)))) ?_;with_reducible repeat' first|exact trivial|intro h|refine aO ?_|refine eO ?_|apply jO))))
  all_goals try exact oF
  refine callS.eq (hsa _ _ _) ?_
  ((refine R1 (jO @Z9 (jO @Z8 (jO @Z7 h4))) ?_);(repeat' (have h:=Z4 h;simp only[Z0,ZX,Z1,ZY,and_true,true_and] at h;(refine R1 (jO @Z9 (jO @Z8 (jO @Z7 (jO h4 h)))) ?_;with_reducible repeat' first|exact trivial|intro h|refine aO ?_|refine eO ?_|apply jO))))
  refine callS.eq (hfs _) ?_
  ((refine R1 (jO @Z9 (jO @Z8 (jO @Z7 h4))) ?_);(repeat' (have h:=Z4 h;simp only[Z0,ZX,Z1,ZY,and_true,true_and] at h;(refine R1 (jO @Z9 (jO @Z8 (jO @Z7 (jO h4 h)))) ?_;with_reducible repeat' first|exact trivial|intro h|refine aO ?_|refine eO ?_|apply jO))))
  refine callS.eq (hfa _ _) ?_
  ((refine R1 (jO @Z9 (jO @Z8 (jO @Z7 h4))) ?_);(repeat' (have h:=Z4 h;simp only[Z0,ZX,Z1,ZY,and_true,true_and] at h;(refine R1 (jO @Z9 (jO @Z8 (jO @Z7 (jO h4 h)))) ?_;with_reducible repeat' first|exact trivial|intro h|refine aO ?_|refine eO ?_|apply jO))))
  refine callA.dv (wz75 _ oT) (by simp only[Z9,h4,if_true,if_false]) ?_
  rintro _ ⟨dd,hdd,rfl⟩
  ((refine R1 (jO @Z9 (jO @Z8 (jO @Z7 h4))) ?_);(repeat' (have h:=Z4 h;simp only[Z0,ZX,Z1,ZY,and_true,true_and] at h;(refine R1 (jO @Z9 (jO @Z8 (jO @Z7 (jO h4 h)))) ?_;with_reducible repeat' first|exact trivial|intro h|refine aO ?_|refine eO ?_|apply jO))))
  have e1:(1:Int)+(dd:Int)=((1+dd:Nat):Int):=by omega
  rw[e1]
  refine callA.dv (hex _ _ (1+dd) oT _) (by simp only[Z9,h4,if_true,if_false]) ?_
  rintro _ ⟨e,he,rfl⟩
  have hee:shEx e:=shD_ex oT he
  ((refine R1 (jO @Z9 (jO @Z8 (jO @Z7 (jO h4 @XE)))) ?_;with_reducible repeat' intro h);(repeat' (have h:=Z4 h;simp only[Z0,ZX,Z1,ZY,and_true,true_and] at h;(refine R1 (jO @Z9 (jO @Z8 (jO @Z7 (jO h4 (jO @XE h))))) ?_))))
  refine callS.eq (w128 e (shEx_ok hee).1 (shEx_ok hee).2) ?_
  ((refine R1 (jO @Z9 (jO @Z8 (jO @Z7 (jO h4 @XE)))) ?_;with_reducible repeat' first|intro h|apply jO);(repeat' (have h:=Z4 h;simp only[Z0,ZX,Z1,ZY,and_true,true_and] at h;(refine R1 (jO @Z9 (jO @Z8 (jO @Z7 (jO h4 (jO @XE h))))) ?_;with_reducible repeat' first|exact trivial|intro h|refine aO ?_|refine eO ?_|apply jO))))
  all_goals try exact oF
  ·rename_i re _ h6
   ((refine R1 (jO @Z9 (jO @Z8 (jO @Z7 (jO h4 (jO h6 (jO @XE (jO @List.length_append.{0} (jO @List.length_singleton.{0} (jO @List.length_map.{0,0} (jO @List.length_take.{0} @ZM)))))))))) ?_;with_reducible repeat' intro h);(repeat' (have h:=Z4 h;simp only[Z0,ZX,Z1,ZY,and_true,true_and] at h;(refine R1 (jO @Z9 (jO @Z8 (jO @Z7 (jO h4 (jO h6 (jO @XE (jO @List.length_append.{0} (jO @List.length_singleton.{0} (jO @List.length_map.{0,0} (jO @List.length_take.{0} (jO @ZM h))))))))))) ?_;with_reducible repeat' intro h))))
   all_goals try exact oF
   rename_i r3 _ _ r4 _
   rw[tL (by simp)]
   exact nxF ⟨((r4,l++[⟨need[i].1,need[i].2,e⟩]),i+1),by dsimp only;omega,by simp;omega,fun y hy=>(List.mem_append.1 hy).elim (hd y) fun h=>by
    rw[List.mem_singleton] at h;subst h;exact ⟨hrs _ (gM hlt),hee⟩⟩ (by dsimp only;omega) (FE.perm (H:=[_,_,_,_,_]) (L:=[(r4,_),(rr,_),(rc,_)]) (by repeat' (first|exact trivial|(refine jO (by simp only[Z9, *,if_true,if_false];try rfl) (jO (by simp[ZW,ZU, *]) ?_))))) (by simp[E2]) (by simp)
  ·rename_i re _ h6
   refine callS.dv (w188 _ [] (by simp)) (by simp only[Z9,h4,h6,if_true,if_false]) ?_
   rintro _ ⟨e2,ha2,he2,rfl⟩
   ((refine R1 (jO @Z9 (jO @Z8 (jO @Z7 (jO h4 (jO h6 (jO @XE (jO @List.length_append.{0} (jO @List.length_singleton.{0} (jO @List.length_map.{0,0} (jO @List.length_take.{0} @ZM)))))))))) ?_;with_reducible repeat' intro h);(repeat' (have h:=Z4 h;simp only[Z0,ZX,Z1,ZY,and_true,true_and] at h;(refine R1 (jO @Z9 (jO @Z8 (jO @Z7 (jO h4 (jO h6 (jO @XE (jO @List.length_append.{0} (jO @List.length_singleton.{0} (jO @List.length_map.{0,0} (jO @List.length_take.{0} (jO @ZM h))))))))))) ?_;with_reducible repeat' intro h))))
   all_goals try exact oF
   rename_i r3 _ _ r4 _
   rw[tL (by simp)]
   exact nxF ⟨((r4,l++[⟨need[i].1,need[i].2,e2⟩]),i+1),by dsimp only;omega,by simp;omega,fun y hy=>(List.mem_append.1 hy).elim (hd y) fun h=>by
    rw[List.mem_singleton] at h;subst h;exact ⟨hrs _ (gM hlt),shD_ex oT he2⟩⟩ (by dsimp only;omega) (FE.trans (FE.perm (H:=[_,_,_,_,_]) (L:=[(r4,_),(rr,_),(rc,_)]) (by repeat' (first|exact trivial|(refine jO (by simp only[Z9, *,if_true,if_false];try rfl) (jO (by simp[ZW,ZU, *]) ?_))))) (FE.qn ha2)) (by simp[E2]) (by simp)
 ·((refine R1 (jO @Z9 (jO @Z8 (jO @Z7 (jO h4 @XE)))) ?_;with_reducible repeat' intro h);(repeat' (have h:=Z4 h;simp only[Z0,ZX,Z1,ZY,and_true,true_and] at h;(refine R1 (jO @Z9 (jO @Z8 (jO @Z7 (jO h4 (jO @XE h))))) ?_;with_reducible repeat' first|exact trivial|intro h|refine aO ?_|refine eO ?_|apply jO))))
  all_goals try exact oF
  refine ⟨_,[(q,9,l.map Qn)],[_,_,_],[],⟨l,q,⟨oT,hd⟩,rfl,rfl⟩,.refl,rfl,(by repeat' (first|exact trivial|(refine jO (by simp only[Z9, *,if_true,if_false];try rfl) (jO (by simp[ZW,ZU, *]) ?_))))⟩
theorem nms_take {n0:Nat} (h:n0<3):∃ns:List ByteArray,GV.sl 1 (List.drop (Int.toNat 0) (List.take ((n0+1:Nat):Int).toNat [T (ByteArray.mk #[115]),T (ByteArray.mk #[116]),T (ByteArray.mk #[117])]))=TS ns∧ns.length=n0+1∧∀s∈ns,s.size=1:=by
 have:n0=0∨n0=1∨n0=2:=by omega
 rcases this with rfl|rfl|rfl
 ·exact ⟨[ByteArray.mk #[115]],rfl,rfl,by decide⟩
 ·exact ⟨[ByteArray.mk #[115],ByteArray.mk #[116]],rfl,rfl,by decide⟩
 ·exact ⟨[ByteArray.mk #[115],ByteArray.mk #[116],ByteArray.mk #[117]],rfl,rfl,by decide⟩
theorem l1PickN (ns:List ByteArray) (h:0<ns.length):Dv Tryz.prog 78 [TS ns] (fun g=>∃s,s∈ns∧g=T s):=
 (w78 (ns.map T) (by simp[noAg,nraw];exact fun _ _ => rfl) (by simpa using h)).mono fun g H1 ⟨h1,h2⟩=>by
  obtain ⟨s,hs,rfl⟩:=List.mem_map.1 h1
  exact ⟨⟨s,hs,rfl⟩,h2⟩
theorem w74 (plain:Bool):Dv Tryz.prog 74 [B plain] (fun v=>∃g,drG g∧v=Gr g):=by
 refine Dv.of fun rc H=> ?_
 refine Z5 mxd i74 rfl (by simp) ?_;refine X0 ?_
 ((refine R1 (jO @Z9 (jO @Z8 @Z7)) ?_;with_reducible repeat' intro h);(repeat' (have h:=Z4 h;simp only[Z0,ZX,Z1,ZY,and_true,true_and] at h;(refine R1 (jO @Z9 (jO @Z8 (jO @Z7 h))) ?_))))
 rename_i rg _
 refine callS.dv (wz75 3 oT) (by simp only[Z9,h,if_true,if_false]) ?_
 rintro _ ⟨n0,hn0,rfl⟩
 have e0:(1:Int)+(n0:Int)=((n0+1:Nat):Int):=by omega
 ((refine R1 (jO @Z9 (jO @Z8 (jO @Z7 (jO h e0)))) ?_);(repeat' (have h:=Z4 h;simp only[Z0,ZX,Z1,ZY,and_true,true_and] at h;(refine R1 (jO @Z9 (jO @Z8 (jO @Z7 (jO h (jO e0 h))))) ?_;with_reducible repeat' first|exact trivial|intro h|refine aO ?_|refine eO ?_|apply jO))))
 obtain ⟨ns,h7,hl7,hs7⟩:=nms_take (n0:=n0) oT
 rw[h7]
 clear h7 e0
 have hn3:n0+1≤3:=by omega
 have hn1:1≤n0+1:=by omega
 clear hn0
 generalize n0+1=n at *
 have hsh:∀i (h:i<ns.length),shT ns[i]:=fun i h=>by have:=hs7 _ (gM h);unfold shT;omega
 obtain ⟨v,hv,hvn⟩:=vfresh (names ((rg,2,[.agg [Zp,Zp]])::(rc,3,[.cur])::H))
 refine YD mxd (ι:={ x:(Nat×List Sym)×Nat // x.2≤n∧x.1.2.length≤x.2∧x.2≤x.1.2.length∧∀s∈x.1.2,drS s }) (fun x=>[(0,.ptr rc 3 0 0),(1,B plain),(4,.raw 2),(5,.ptr rg 2 0 0),(6,I n),(7,TS ns),(8,I x.1.2)]) (fun x=>(x.1.1.1,2,x.1.1.2.map Sy)::(rg,2,[.agg [.own x.1.1.1 2 0 x.1.1.2.length,Zp]])::(rc,3,[.cur])::H) (fun x=>n-x.1.2) ⟨((v,[]),0),by simp⟩ (FE.virtF (sz:=2) (sz1:=2) (i:=0) (j:=0) (es:=[.agg [Zp,Zp]]) (gs:=[Zp,Zp]) ZZ rfl rfl hv hvn) (by simp[E2]) (by simp[ZC]) ?_
 rintro ⟨⟨⟨q,l⟩,i⟩,hi,hl1,hl2,hd⟩ hn2
 dsimp only at hi hl1 hl2 hd hn2 ⊢
 have h4:=Z4 hn2
 (replace h4:=h4;simp only[VN] at h4)
 refine Zl mxd ?_
 rcases nL i n with hlt|hge
 ·have hlt':i<ns.length:=by omega
  ((refine R1 (jO @Z9 (jO @Z8 (jO @Z7 h4))) ?_;with_reducible repeat' first|intro h|apply jO);(repeat' (have h:=Z4 h;simp only[Z0,ZX,Z1,ZY,and_true,true_and] at h;(refine R1 (jO @Z9 (jO @Z8 (jO @Z7 (jO h4 h)))) ?_;with_reducible repeat' first|exact trivial|intro h|refine aO ?_|refine eO ?_|apply jO))))
  all_goals try exact oF
  refine callA.dv (w120 ns[i] (hsh _ _) _ plain) (by simp only[Z9,h4,if_true,if_false]) ?_
  rintro _ ⟨y,hy,rfl⟩
  ((refine R1 (jO @Z9 (jO @Z8 (jO @Z7 (jO h4 (jO @List.length_append.{0} (jO @List.length_singleton.{0} (jO @List.length_map.{0,0} (jO @List.length_take.{0} @ZM)))))))) ?_;with_reducible repeat' intro h);(repeat' (have h:=Z4 h;simp only[Z0,ZX,Z1,ZY,and_true,true_and] at h;(refine R1 (jO @Z9 (jO @Z8 (jO @Z7 (jO h4 (jO @List.length_append.{0} (jO @List.length_singleton.{0} (jO @List.length_map.{0,0} (jO @List.length_take.{0} (jO @ZM h))))))))) ?_;with_reducible repeat' intro h))))
  all_goals try exact oF
  rename_i r3 _ _ r4 _
  rw[tL (by simp)]
  exact nxF ⟨((r4,l++[y]),i+1),by dsimp only;omega,by simp;omega,by simp;omega,fun y hy=>(List.mem_append.1 hy).elim (hd y) fun h=>by
   rw[List.mem_singleton] at h;subst h;assumption⟩ (by dsimp only;omega) (FE.perm (H:=[_,_,_,_]) (L:=[(r4,_),(rg,_),(rc,_)]) (by repeat' (first|exact trivial|(refine jO (by simp only[Z9, *,if_true,if_false];try rfl) (jO (by simp[ZW,ZU, *]) ?_))))) (by simp[E2]) (by simp)
 ·have hll:l.length=n:=by omega
  have hls:∀s∈l,shSy s:=fun s hs=>drS_sh (hd s hs)
  have hsm:ZE ⟨l,[]⟩:=⟨by show l.length ≤ _;omega,by simp,fun s hs=>shSy_sm (hls s hs),by simp⟩
  have hru:=fun (X:GV) (r:Rul) (h1:Y7 r) (h2:r.right.length≤3) (b:Bool)=>o122 X ⟨l,[]⟩ r hsm hls (show 1≤l.length by omega) h1 h2 b
  have hpu:=fun (X Y:GV) (r:Rul) (h1:Y7 r) (h2:r.right.length≤3) (h3:clean Y=true)=>o123 X Y ⟨l,[]⟩ r hsm hls h1 h2 h3
  obtain ⟨v2,hv2,hvn2⟩:=vfresh (names ((rg,2,[.agg [SyS l,Zp]])::(rc,3,[.cur])::H))
  ((refine R1 (jO @Z9 (jO @Z8 (jO @Z7 h4))) ?_;with_reducible repeat' intro h);(repeat' (have h:=Z4 h;simp only[Z0,ZX,Z1,ZY,and_true,true_and] at h;(refine R1 (jO @Z9 (jO @Z8 (jO @Z7 (jO h4 h)))) ?_;with_reducible repeat' first|exact trivial|intro h|refine aO ?_|refine eO ?_|apply jO))))
  all_goals try exact oF
  refine YD mxd (ι:={ x:(Nat×List Rul)×Nat // x.2≤n∧x.1.2.length≤3 * x.2∧x.2≤x.1.2.length∧∀r∈x.1.2,shR0 r }) (fun x=>[(0,.ptr rc 3 0 0),(1,B plain),(4,.raw 2),(5,.ptr rg 2 0 0),(6,I n),(7,TS ns),(9,I x.1.2)]) (fun x=>(x.1.1.1,6,x.1.1.2.map Ru0)::(rg,2,[.agg [SyS l,.own x.1.1.1 6 0 x.1.1.2.length]])::(rc,3,[.cur])::H) (fun x=>n-x.1.2) ⟨((v2,[]),0),by simp⟩ (FE.trans (FE.symF (by simp[*]) rfl) (FE.virtF (sz:=2) (sz1:=6) (i:=0) (j:=1) (es:=[.agg [SyS l,Zp]]) (gs:=[SyS l,Zp]) ZZ rfl rfl hv2 hvn2)) (by simp[E2]) (by simp[ZC]) ?_
  clear h h4 hn2 hvn2 hv2 hv hvn
  rintro ⟨⟨⟨q2,L⟩,i⟩,hi,hL1,hL2,hL⟩ hn2
  dsimp only at hi hL1 hL2 hL hn2 ⊢
  have h4:=Z4 hn2
  (replace h4:=h4;simp only[VN] at h4)
  refine Zl mxd ?_
  rcases nL i n with hlt|hge
  ·have hlt':i<ns.length:=by omega
   have hc:(ZR ns[i]).length = 1:=by rw[X4];exact hs7 _ (gM _)
   have hsi:=hsh i hlt'
   obtain ⟨nm,hnm,hnms⟩:=mkS_size (ZR (ByteArray.mk #[108,101,97,102])++ZR ns[i])
   have hnmt:shT nm:=by unfold shT;rw[hnms,List.length_append,hc];exact Nat.le_of_ble_eq_true rfl
   ((refine R1 (jO @Z9 (jO @Z8 (jO @Z7 h4))) ?_;with_reducible repeat' first|intro h|refine aO ?_|apply jO);(repeat' (have h:=Z4 h;simp only[Z0,ZX,Z1,ZY,and_true,true_and] at h;(refine R1 (jO @Z9 (jO @Z8 (jO @Z7 (jO h4 h)))) ?_;with_reducible repeat' first|exact trivial|intro h|refine aO ?_|refine eO ?_|apply jO))))
   all_goals try exact oF
   ·rw[hc];exact Nat.le_of_ble_eq_true rfl
   rw[hnm]
   refine callA.dv (w36 3) (by simp only[Z9,h4,if_true,if_false]) ?_
   rintro _ ⟨b,rfl⟩
   ((refine R1 (jO @Z9 (jO @Z8 (jO @Z7 (jO h4 (jO @List.length_append.{0} (jO @List.length_singleton.{0} (jO @List.length_map.{0,0} (jO @List.length_take.{0} @ZM)))))))) ?_;with_reducible repeat' intro h);(repeat' (have h:=Z4 h;simp only[Z0,ZX,Z1,ZY,and_true,true_and] at h;(refine R1 (jO @Z9 (jO @Z8 (jO @Z7 (jO h4 (jO @List.length_append.{0} (jO @List.length_singleton.{0} (jO @List.length_map.{0,0} (jO @List.length_take.{0} (jO @ZM h))))))))) ?_;with_reducible repeat' intro h))))
   all_goals try exact oF
   rename_i r3 _ _ r4 _
   refine callS.dv (wz75 2 oT) (by simp only[Z9,h4,h,if_true,if_false]) ?_
   rintro _ ⟨m0,hm0,rfl⟩
   have e0:(1:Int)+(m0:Int)=((m0+1:Nat):Int):=by omega
   ((refine R1 (jO @Z9 (jO @Z8 (jO @Z7 (jO h4 (jO h e0))))) ?_);(repeat' (have h:=Z4 h;simp only[Z0,ZX,Z1,ZY,and_true,true_and] at h;(refine R1 (jO @Z9 (jO @Z8 (jO @Z7 (jO h4 (jO h (jO e0 h)))))) ?_;with_reducible repeat' first|exact trivial|intro h|refine aO ?_|refine eO ?_|apply jO))))
   rw[tL (by simp)]
   refine YD mxd (ι:={ x:(Nat×List Rul)×Nat // x.2≤m0+1∧x.1.2.length≤L.length+1+x.2∧L.length+1≤x.1.2.length∧∀r∈x.1.2,shR0 r }) (fun x=>[(0,.ptr rc 3 0 0),(1,B plain),(4,.raw 2),(5,.ptr rg 2 0 0),(6,I n),(7,TS ns),(9,I i),(10,I ((m0+1:Nat):Int)),(11,I x.1.2)]) (fun x=>(x.1.1.1,6,x.1.1.2.map Ru0)::(rg,2,[.agg [SyS l,.own x.1.1.1 6 0 x.1.1.2.length]])::(rc,3,[.cur])::H) (fun x=>m0+1-x.1.2) ⟨((r4,L++[⟨nm,ns[i],[],!b,[],[]⟩]),0),by dsimp only;omega,by simp,by simp,fun y hy=>(List.mem_append.1 hy).elim (hL y) fun h=>by
    rw[List.mem_singleton] at h;subst h;exact ⟨hnmt,hsi,by simp,by simp⟩⟩ (FE.trans (FE.perm (H:=[_,_,_,_]) (L:=[(r4,_),(rg,_),(rc,_)]) (by repeat' (first|exact trivial|(refine jO (by simp only[Z9, *,if_true,if_false];try rfl) (jO (by simp[ZW,ZU, *]) ?_))))) FE.leaf) (by simp[E2]) (by simp) ?_
   rintro ⟨⟨⟨q4,L2⟩,k⟩,hk,hM1,hM2,hM⟩ hn5
   dsimp only at hk hM1 hM2 hM hn5 ⊢
   have h5:=Z4 hn5
   (replace h5:=h5;simp only[VN] at h5)
   refine Zl mxd ?_
   rcases nL k (m0+1) with hlt2|hge2
   ·have hk2:k<2:=by omega
    obtain ⟨n5,e5,l5⟩:=mkS_size (ZR (ByteArray.mk #[112])++ZR ns[i])
    have l5':(ZR n5).length = 2:=by rw[X4,l5,List.length_append,hc];rfl
    obtain ⟨n6,e6,l6⟩:=mkS_size (ZR n5++ZR (ByteArray.mk #[UInt8.ofNat (48+k)]))
    have hn6:shT n6:=by unfold shT;rw[l6,List.length_append,l5'];show 2+1≤16;omega
    ((refine R1 (jO @Z9 (jO @Z8 (jO @Z7 h5))) ?_;with_reducible repeat' first|intro h|apply jO);(repeat' (have h:=Z4 h;simp only[Z0,ZX,Z1,ZY,and_true,true_and] at h;(refine R1 (jO @Z9 (jO @Z8 (jO @Z7 (jO h5 h)))) ?_;with_reducible repeat' first|exact trivial|intro h|refine aO ?_|refine eO ?_|apply jO))))
    all_goals try exact oF
    ·rw[hc];exact Nat.le_of_ble_eq_true rfl
    rw[e5]
    refine callS.eq (v121 k hk2) ?_
    ((refine R1 (jO @Z9 (jO @Z8 (jO @Z7 h5))) ?_;with_reducible repeat' apply jO);(repeat' (have h:=Z4 h;simp only[Z0,ZX,Z1,ZY,and_true,true_and] at h;(refine R1 (jO @Z9 (jO @Z8 (jO @Z7 (jO h5 h)))) ?_;with_reducible repeat' first|exact trivial|intro h|refine aO ?_|refine eO ?_|apply jO))))
    all_goals try exact oF
    ·rw[l5'];show 2+1 ≤ _;omega
    rw[e6]
    refine callA.dv (w36 4) (by simp only[Z9,h5,if_true,if_false]) ?_
    rintro _ ⟨b2,rfl⟩
    ((refine R1 (jO @Z9 (jO @Z8 (jO @Z7 h5))) ?_;with_reducible repeat' intro h);(repeat' (have h:=Z4 h;simp only[Z0,ZX,Z1,ZY,and_true,true_and] at h;(refine R1 (jO @Z9 (jO @Z8 (jO @Z7 (jO h5 h)))) ?_))))
    rename_i r12 _
    have h6:=h
    refine callS.dv (wz75 3 oT) (by simp only[Z9,h5,h6,if_true,if_false]) ?_
    rintro _ ⟨d0,hd0,rfl⟩
    have e1:(1:Int)+(d0:Int)=((d0+1:Nat):Int):=by omega
    obtain ⟨v3,hv3,hvn3⟩:=vfresh (names ((r12,6,[.agg [T n6,T ns[i],Zp,B b2,Zp,Zp]])::(q4,6,L2.map Ru0)::(rg,2,[.agg [SyS l,.own q4 6 0 L2.length]])::(rc,3,[.cur])::H))
    ((refine R1 (jO @Z9 (jO @Z8 (jO @Z7 (jO h5 (jO h6 e1))))) ?_);(repeat' (have h:=Z4 h;simp only[Z0,ZX,Z1,ZY,and_true,true_and] at h;(refine R1 (jO @Z9 (jO @Z8 (jO @Z7 (jO h5 (jO h6 (jO e1 h)))))) ?_;with_reducible repeat' first|exact trivial|intro h|refine aO ?_|refine eO ?_|apply jO))))
    refine YD mxd (ι:={ x:(Nat×List ByteArray)×Nat // x.2≤d0+1∧x.1.2.length≤x.2∧∀s∈x.1.2,shT s }) (fun x=>[(0,.ptr rc 3 0 0),(1,B plain),(4,.raw 2),(5,.ptr rg 2 0 0),(6,I n),(7,TS ns),(9,I i),(10,I ((m0+1:Nat):Int)),(11,I k),(12,.ptr r12 6 0 0),(13,I ((d0+1:Nat):Int)),(14,I x.1.2)]) (fun x=>(x.1.1.1,1,x.1.1.2.map T)::(r12,6,[.agg [T n6,T ns[i],.own x.1.1.1 1 0 x.1.1.2.length,B b2,Zp,Zp]])::(q4,6,L2.map Ru0)::(rg,2,[.agg [SyS l,.own q4 6 0 L2.length]])::(rc,3,[.cur])::H) (fun x=>d0+1-x.1.2) ⟨((v3,[]),0),by simp⟩ (FE.virtF (sz:=6) (sz1:=1) (i:=0) (j:=2) (es:=[.agg [T n6,T ns[i],Zp,B b2,Zp,Zp]]) (gs:=[T n6,T ns[i],Zp,B b2,Zp,Zp]) ZZ rfl rfl hv3 hvn3) (by simp[E2]) (by simp[ZC]) ?_
    clear hv3 hvn3
    rintro ⟨⟨⟨q7,rs⟩,j⟩,hj,hrs1,hrs⟩ hn7
    dsimp only at hj hrs1 hrs hn7 ⊢
    have h7:=Z4 hn7
    (replace h7:=h7;simp only[VN] at h7)
    refine Zl mxd ?_
    rcases nL j (d0+1) with hlt3|hge3
    ·((refine R1 (jO @Z9 (jO @Z8 (jO @Z7 h7))) ?_;with_reducible repeat' first|intro h|apply jO);(repeat' (have h:=Z4 h;simp only[Z0,ZX,Z1,ZY,and_true,true_and] at h;(refine R1 (jO @Z9 (jO @Z8 (jO @Z7 (jO h7 h)))) ?_;with_reducible repeat' intro h))))
     all_goals try exact oF
     refine callA.dv (l1PickN ns oT) (by simp only[Z9,h7,if_true,if_false]) ?_
     rintro _ ⟨s,hs,rfl⟩
     have hst:shT s:=by obtain ⟨z,hz,rfl⟩:=List.mem_iff_getElem.1 hs;exact hsh z hz
     ((refine R1 (jO @Z9 (jO @Z8 (jO @Z7 (jO h7 (jO @List.length_append.{0} (jO @List.length_singleton.{0} (jO @List.length_map.{0,0} (jO @List.length_take.{0} @ZM)))))))) ?_;with_reducible repeat' intro h);(repeat' (have h:=Z4 h;simp only[Z0,ZX,Z1,ZY,and_true,true_and] at h;(refine R1 (jO @Z9 (jO @Z8 (jO @Z7 (jO h7 (jO @List.length_append.{0} (jO @List.length_singleton.{0} (jO @List.length_map.{0,0} (jO @List.length_take.{0} (jO @ZM h))))))))) ?_;with_reducible repeat' intro h))))
     all_goals try exact oF
     rename_i r8 _ _ r9 _
     rw[tL (by simp)]
     exact nxF ⟨((r9,rs++[s]),j+1),by dsimp only;omega,by simp;omega,fun y hy=>(List.mem_append.1 hy).elim (hrs y) fun h=>by
      rw[List.mem_singleton] at h;subst h;exact hst⟩ (by dsimp only;omega) (FE.perm (H:=[_,_,_,_,_,_]) (L:=[(r9,_),(r12,_),(q4,_),(rg,_),(rc,_)]) (by repeat' (first|exact trivial|(refine jO (by simp only[Z9, *,if_true,if_false];try rfl) (jO (by simp[ZW,ZU, *]) ?_))))) (by simp[E2]) (by simp)
    ·((refine R1 (jO @Z9 (jO @Z8 (jO @Z7 (jO h7 (jO @List.length_append.{0} (jO @List.length_singleton.{0} (jO @List.length_map.{0,0} (jO @List.length_take.{0} @ZM)))))))) ?_;with_reducible repeat' intro h);(repeat' (have h:=Z4 h;simp only[Z0,ZX,Z1,ZY,and_true,true_and] at h;(refine R1 (jO @Z9 (jO @Z8 (jO @Z7 (jO h7 (jO @List.length_append.{0} (jO @List.length_singleton.{0} (jO @List.length_map.{0,0} (jO @List.length_take.{0} (jO @ZM h))))))))) ?_;with_reducible repeat' intro h))))
     all_goals try exact oF
     rename_i r8 _ _ r9 _
     rw[tL (by simp)]
     exact nxF ⟨((r9,L2++[⟨n6,ns[i],rs,b2,[],[]⟩]),k+1),by dsimp only;omega,by simp;omega,by simp;omega,fun y hy=>(List.mem_append.1 hy).elim (hM y) fun h=>by
      rw[List.mem_singleton] at h;subst h;exact ⟨hn6,hsi,by show rs.length≤3;omega,hrs⟩⟩ (by dsimp only;omega) (FE.trans (FE.perm (H:=[_,_,_,_,_,_]) (L:=[(r9,_),(q7,_),(rg,_),(rc,_)]) (by repeat' (first|exact trivial|(refine jO (by simp only[Z9, *,if_true,if_false];try rfl) (jO (by simp[ZW,ZU, *]) ?_))))) (FE.ruF (by simp[*]) rfl)) (by simp[E2]) (by simp)
   ·((refine R1 (jO @Z9 (jO @Z8 (jO @Z7 h5))) ?_;with_reducible repeat' intro h);(repeat' (have h:=Z4 h;simp only[Z0,ZX,Z1,ZY,and_true,true_and] at h;(refine R1 (jO @Z9 (jO @Z8 (jO @Z7 (jO h5 h)))) ?_;with_reducible repeat' first|exact trivial|intro h|refine aO ?_|refine eO ?_|apply jO))))
    all_goals try exact oF
    exact nx ⟨((q4,L2),i+1),by dsimp only;omega,by dsimp only;omega,by dsimp only;omega,hM⟩ (by dsimp only;omega) (by simp[E2]) rfl
  ·have hLn:1≤L.length:=by omega
   (((try refine qI ?_);(repeat ((first|with_reducible refine qU ?_ | simp only[ZQ]);try simp (maxSteps:=9^7) only[↓ S2,S2,ZF,↓reduceIte,reduceNe,reduceEqDiff,reduceCtorEq,reduceLeDiff,reduceAdd,reduceLT,Z9,Z8,Z7,h4,Int.toNat_zero,Int.reduceSub,Int.reduceToNat]));(try simp +contextual (disch:=omega) only[Z2,Z9,Z8,Z7,h4,Int.toNat_zero,Int.reduceSub,Int.reduceToNat]);(with_reducible repeat' (first|intro h|refine jO oT ?_ | refine exP oT ?_ | apply jO)));(repeat' (have h:=Z4 h;simp only[Z0,ZX,Z1,ZY,and_true,true_and] at h;((try refine qI ?_);(repeat ((first|with_reducible refine qU ?_ | simp only[ZQ]);try simp (maxSteps:=9^7) only[↓ S2,S2,ZF,↓reduceIte,reduceNe,reduceEqDiff,reduceCtorEq,reduceLeDiff,reduceAdd,reduceLT,Z9,Z8,Z7,h4,Int.toNat_zero,Int.reduceSub,Int.reduceToNat,h]));(try simp +contextual (disch:=omega) only[Z2,Z9,Z8,Z7,h4,Int.toNat_zero,Int.reduceSub,Int.reduceToNat,h]);(with_reducible repeat' (first|intro h|refine jO oT ?_ | refine exP oT ?_ | apply jO))))))
   all_goals try exact oF
   ·refine YD mxd (ι:={ x:List Rul×Nat // x.2≤8∧x.1.length=x.2∧∀r∈x.1,shRu r∧r.right.length≤3 }) (fun x=>[(0,.ptr rc 3 0 0),(1,B plain),(4,.raw 2),(5,.ptr rg 2 0 0),(15,I x.1.2)]) (fun x=>(q2,6,x.1.1.map Ru++(L.drop x.1.2).map Ru0)::(rg,2,[.agg [SyS l,.own q2 6 0 8]])::(rc,3,[.cur])::H) (fun x=>8-x.1.2) ⟨([],0),by simp⟩ FE.refl (by simp[E2]) (by simp) ?_
    rintro ⟨⟨D,j⟩,hj,hD1,hD⟩ hn5
    dsimp only at hj hD1 hD hn5 ⊢
    have h5:=Z4 hn5
    (replace h5:=h5;simp only[VN] at h5)
    refine Zl mxd ?_
    rcases nL j 8 with hlt2|hge2
    ·have hjl:j<L.length:=by omega
     obtain ⟨es,hes,hel,heg,hev,hest⟩:=rul_mid (D:=D) hD1 hjl
     rw[hes]
     clear hes
     have hr:=hL _ (gM hjl)
     ((refine R1 (jO @Z9 (jO @Z8 (jO @Z7 (jO h5 heg)))) ?_;with_reducible repeat' first|intro h|apply jO);(repeat' (have h:=Z4 h;simp only[Z0,ZX,Z1,ZY,and_true,true_and] at h;(refine R1 (jO @Z9 (jO @Z8 (jO @Z7 (jO h5 (jO heg h))))) ?_;with_reducible repeat' first|exact trivial|intro h|refine aO ?_|refine eO ?_|apply jO))))
     all_goals try exact oF
     refine callA.dc (hru _ { L[j] with eqs:=[],cons:=[] } (shR0_sm hr) hr.2.2.1 (!plain)) (by simp only[Z9,h5,if_true,if_false]) ?_
     rintro _ _ ⟨qs,q9,hqs,rfl,rfl⟩ hn9
     have h9:=Z4 hn9
     simp only[List.cons_append,List.nil_append] at h9
     (replace h9:=h9;simp only[VN] at h9)
     cases plain
     ·(((try refine qI ?_);(repeat ((first|with_reducible refine qU ?_ | simp only[ZQ]);try simp (maxSteps:=9^7) only[↓ S2,S2,ZF,↓reduceIte,reduceNe,reduceEqDiff,reduceCtorEq,reduceLeDiff,reduceAdd,reduceLT,Z9,Z8,Z7,h9,heg,Bool.not_false,Bool.not_true,List.getElem_set_self,List.set_set,List.length_set]));(try simp +contextual (disch:=omega) only[Z2,Z9,Z8,Z7,h9,heg,Bool.not_false,Bool.not_true,List.getElem_set_self,List.set_set,List.length_set]);(with_reducible repeat' (first|intro h|refine jO oT ?_ | refine exP oT ?_ | apply jO)));(repeat' (have h:=Z4 h;simp only[Z0,ZX,Z1,ZY,and_true,true_and] at h;((try refine qI ?_);(repeat ((first|with_reducible refine qU ?_ | simp only[ZQ]);try simp (maxSteps:=9^7) only[↓ S2,S2,ZF,↓reduceIte,reduceNe,reduceEqDiff,reduceCtorEq,reduceLeDiff,reduceAdd,reduceLT,Z9,Z8,Z7,h9,heg,Bool.not_false,Bool.not_true,List.getElem_set_self,List.set_set,List.length_set,h]));(try simp +contextual (disch:=omega) only[Z2,Z9,Z8,Z7,h9,heg,Bool.not_false,Bool.not_true,List.getElem_set_self,List.set_set,List.length_set,h]);(with_reducible repeat' (first|intro h|refine jO oT ?_ | refine exP oT ?_ | apply jO))))))
      all_goals try exact oF
      refine callA.dc (hpu _ (.own q9 9 0 qs.length) { L[j] with eqs:=[],cons:=[] } (shR0_sm hr) hr.2.2.1 rfl) (by simp only[Z9,h9,if_true,if_false]) ?_
      rintro _ _ ⟨cs,q10,hcs,rfl,rfl⟩ hn10
      have h10:=Z4 hn10
      simp only[List.cons_append,List.nil_append] at h10
      (replace h10:=h10;simp only[VN] at h10)
      (((try refine qI ?_);(repeat ((first|with_reducible refine qU ?_ | simp only[ZQ]);try simp (maxSteps:=9^7) only[↓ S2,S2,ZF,↓reduceIte,reduceNe,reduceEqDiff,reduceCtorEq,reduceLeDiff,reduceAdd,reduceLT,Z9,Z8,Z7,h10,heg,Bool.not_false,Bool.not_true,List.getElem_set_self,List.set_set,List.length_set]));(try simp +contextual (disch:=omega) only[Z2,Z9,Z8,Z7,h10,heg,Bool.not_false,Bool.not_true,List.getElem_set_self,List.set_set,List.length_set]);(with_reducible repeat' (first|intro h|refine jO oT ?_ | refine exP oT ?_ | apply jO)));(repeat' (have h:=Z4 h;simp only[Z0,ZX,Z1,ZY,and_true,true_and] at h;((try refine qI ?_);(repeat ((first|with_reducible refine qU ?_ | simp only[ZQ]);try simp (maxSteps:=9^7) only[↓ S2,S2,ZF,↓reduceIte,reduceNe,reduceEqDiff,reduceCtorEq,reduceLeDiff,reduceAdd,reduceLT,Z9,Z8,Z7,h10,heg,Bool.not_false,Bool.not_true,List.getElem_set_self,List.set_set,List.length_set,h]));(try simp +contextual (disch:=omega) only[Z2,Z9,Z8,Z7,h10,heg,Bool.not_false,Bool.not_true,List.getElem_set_self,List.set_set,List.length_set,h]);(with_reducible repeat' (first|intro h|refine jO oT ?_ | refine exP oT ?_ | apply jO))))))
      all_goals try exact oF
      exact nxF ⟨(D++[{ L[j] with eqs:=qs,cons:=cs }],j+1),by dsimp only;omega,by simp;omega,fun y hy=>(List.mem_append.1 hy).elim (hD y) fun h=>by
       rw[List.mem_singleton] at h;subst h;exact shRu_of hr hqs.1 hqs.2 hcs.1 hcs.2⟩ (by dsimp only;omega) (FE.ruP (r:=L[j]) (by simp[*]) (by simp[*]) (by simp[*]) oT hev rfl rfl) (by simp[E2]) (by rw[hest])
     ·(((try refine qI ?_);(repeat ((first|with_reducible refine qU ?_ | simp only[ZQ]);try simp (maxSteps:=9^7) only[↓ S2,S2,ZF,↓reduceIte,reduceNe,reduceEqDiff,reduceCtorEq,reduceLeDiff,reduceAdd,reduceLT,Z9,Z8,Z7,h9,heg,Bool.not_false,Bool.not_true,List.getElem_set_self,List.set_set,List.length_set]));(try simp +contextual (disch:=omega) only[Z2,Z9,Z8,Z7,h9,heg,Bool.not_false,Bool.not_true,List.getElem_set_self,List.set_set,List.length_set]);(with_reducible repeat' (first|intro h|refine jO oT ?_ | refine exP oT ?_ | apply jO)));(repeat' (have h:=Z4 h;simp only[Z0,ZX,Z1,ZY,and_true,true_and] at h;((try refine qI ?_);(repeat ((first|with_reducible refine qU ?_ | simp only[ZQ]);try simp (maxSteps:=9^7) only[↓ S2,S2,ZF,↓reduceIte,reduceNe,reduceEqDiff,reduceCtorEq,reduceLeDiff,reduceAdd,reduceLT,Z9,Z8,Z7,h9,heg,Bool.not_false,Bool.not_true,List.getElem_set_self,List.set_set,List.length_set,h]));(try simp +contextual (disch:=omega) only[Z2,Z9,Z8,Z7,h9,heg,Bool.not_false,Bool.not_true,List.getElem_set_self,List.set_set,List.length_set,h]);(with_reducible repeat' (first|intro h|refine jO oT ?_ | refine exP oT ?_ | apply jO))))))
      all_goals try exact oF
      exact nxF ⟨(D++[{ L[j] with eqs:=qs,cons:=[] }],j+1),by dsimp only;omega,by simp;omega,fun y hy=>(List.mem_append.1 hy).elim (hD y) fun h=>by
       rw[List.mem_singleton] at h;subst h;exact shRu_of hr hqs.1 hqs.2 (by simp) (by simp)⟩ (by dsimp only;omega) (FE.ruQ (r:=L[j]) (by simp[*]) oT hev rfl) (by simp[E2]) (by rw[hest])
    ·((refine R1 (jO @Z9 (jO @Z8 (jO @Z7 h5))) ?_;with_reducible repeat' intro h);(repeat' (have h:=Z4 h;simp only[Z0,ZX,Z1,ZY,and_true,true_and] at h;(refine R1 (jO @Z9 (jO @Z8 (jO @Z7 (jO h5 h)))) ?_;with_reducible repeat' first|exact trivial|intro h|refine aO ?_|refine eO ?_|apply jO))))
     all_goals try exact oF
     have hDn:D.length=8:=by omega
     exact ⟨_,[_,_,_],[(q2,6,_)],⟨⟨l,D⟩,drG_of oT oT hd oT oT hD,rfl⟩,bor_rul hDn,rfl,(by repeat' (first|exact trivial|(refine jO (by simp only[Z9, *,if_true,if_false];try rfl) (jO (by simp[ZW,ZU, *]) ?_))))⟩
   ·refine YD mxd (ι:={ x:List Rul×Nat // x.2≤L.length∧x.1.length=x.2∧∀r∈x.1,shRu r∧r.right.length≤3 }) (fun x=>[(0,.ptr rc 3 0 0),(1,B plain),(4,.raw 2),(5,.ptr rg 2 0 0),(15,I x.1.2)]) (fun x=>(q2,6,x.1.1.map Ru++(L.drop x.1.2).map Ru0)::(rg,2,[.agg [SyS l,.own q2 6 0 L.length]])::(rc,3,[.cur])::H) (fun x=>L.length-x.1.2) ⟨([],0),by simp⟩ FE.refl (by simp[E2]) (by simp) ?_
    rintro ⟨⟨D,j⟩,hj,hD1,hD⟩ hn5
    dsimp only at hj hD1 hD hn5 ⊢
    have h5:=Z4 hn5
    (replace h5:=h5;simp only[VN] at h5)
    refine Zl mxd ?_
    rcases nL j L.length with hlt2|hge2
    ·have hjl:j<L.length:=by omega
     obtain ⟨es,hes,hel,heg,hev,hest⟩:=rul_mid (D:=D) hD1 hjl
     rw[hes]
     clear hes
     have hr:=hL _ (gM hjl)
     ((refine R1 (jO @Z9 (jO @Z8 (jO @Z7 (jO h5 heg)))) ?_;with_reducible repeat' first|intro h|apply jO);(repeat' (have h:=Z4 h;simp only[Z0,ZX,Z1,ZY,and_true,true_and] at h;(refine R1 (jO @Z9 (jO @Z8 (jO @Z7 (jO h5 (jO heg h))))) ?_;with_reducible repeat' first|exact trivial|intro h|refine aO ?_|refine eO ?_|apply jO))))
     all_goals try exact oF
     refine callA.dc (hru _ { L[j] with eqs:=[],cons:=[] } (shR0_sm hr) hr.2.2.1 (!plain)) (by simp only[Z9,h5,if_true,if_false]) ?_
     rintro _ _ ⟨qs,q9,hqs,rfl,rfl⟩ hn9
     have h9:=Z4 hn9
     simp only[List.cons_append,List.nil_append] at h9
     (replace h9:=h9;simp only[VN] at h9)
     cases plain
     ·(((try refine qI ?_);(repeat ((first|with_reducible refine qU ?_ | simp only[ZQ]);try simp (maxSteps:=9^7) only[↓ S2,S2,ZF,↓reduceIte,reduceNe,reduceEqDiff,reduceCtorEq,reduceLeDiff,reduceAdd,reduceLT,Z9,Z8,Z7,h9,heg,Bool.not_false,Bool.not_true,List.getElem_set_self,List.set_set,List.length_set]));(try simp +contextual (disch:=omega) only[Z2,Z9,Z8,Z7,h9,heg,Bool.not_false,Bool.not_true,List.getElem_set_self,List.set_set,List.length_set]);(with_reducible repeat' (first|intro h|refine jO oT ?_ | refine exP oT ?_ | apply jO)));(repeat' (have h:=Z4 h;simp only[Z0,ZX,Z1,ZY,and_true,true_and] at h;((try refine qI ?_);(repeat ((first|with_reducible refine qU ?_ | simp only[ZQ]);try simp (maxSteps:=9^7) only[↓ S2,S2,ZF,↓reduceIte,reduceNe,reduceEqDiff,reduceCtorEq,reduceLeDiff,reduceAdd,reduceLT,Z9,Z8,Z7,h9,heg,Bool.not_false,Bool.not_true,List.getElem_set_self,List.set_set,List.length_set,h]));(try simp +contextual (disch:=omega) only[Z2,Z9,Z8,Z7,h9,heg,Bool.not_false,Bool.not_true,List.getElem_set_self,List.set_set,List.length_set,h]);(with_reducible repeat' (first|intro h|refine jO oT ?_ | refine exP oT ?_ | apply jO))))))
      all_goals try exact oF
      refine callA.dc (hpu _ (.own q9 9 0 qs.length) { L[j] with eqs:=[],cons:=[] } (shR0_sm hr) hr.2.2.1 rfl) (by simp only[Z9,h9,if_true,if_false]) ?_
      rintro _ _ ⟨cs,q10,hcs,rfl,rfl⟩ hn10
      have h10:=Z4 hn10
      simp only[List.cons_append,List.nil_append] at h10
      (replace h10:=h10;simp only[VN] at h10)
      (((try refine qI ?_);(repeat ((first|with_reducible refine qU ?_ | simp only[ZQ]);try simp (maxSteps:=9^7) only[↓ S2,S2,ZF,↓reduceIte,reduceNe,reduceEqDiff,reduceCtorEq,reduceLeDiff,reduceAdd,reduceLT,Z9,Z8,Z7,h10,heg,Bool.not_false,Bool.not_true,List.getElem_set_self,List.set_set,List.length_set]));(try simp +contextual (disch:=omega) only[Z2,Z9,Z8,Z7,h10,heg,Bool.not_false,Bool.not_true,List.getElem_set_self,List.set_set,List.length_set]);(with_reducible repeat' (first|intro h|refine jO oT ?_ | refine exP oT ?_ | apply jO)));(repeat' (have h:=Z4 h;simp only[Z0,ZX,Z1,ZY,and_true,true_and] at h;((try refine qI ?_);(repeat ((first|with_reducible refine qU ?_ | simp only[ZQ]);try simp (maxSteps:=9^7) only[↓ S2,S2,ZF,↓reduceIte,reduceNe,reduceEqDiff,reduceCtorEq,reduceLeDiff,reduceAdd,reduceLT,Z9,Z8,Z7,h10,heg,Bool.not_false,Bool.not_true,List.getElem_set_self,List.set_set,List.length_set,h]));(try simp +contextual (disch:=omega) only[Z2,Z9,Z8,Z7,h10,heg,Bool.not_false,Bool.not_true,List.getElem_set_self,List.set_set,List.length_set,h]);(with_reducible repeat' (first|intro h|refine jO oT ?_ | refine exP oT ?_ | apply jO))))))
      all_goals try exact oF
      exact nxF ⟨(D++[{ L[j] with eqs:=qs,cons:=cs }],j+1),by dsimp only;omega,by simp;omega,fun y hy=>(List.mem_append.1 hy).elim (hD y) fun h=>by
       rw[List.mem_singleton] at h;subst h;exact shRu_of hr hqs.1 hqs.2 hcs.1 hcs.2⟩ (by dsimp only;omega) (FE.ruP (r:=L[j]) (by simp[*]) (by simp[*]) (by simp[*]) oT hev rfl rfl) (by simp[E2]) (by rw[hest])
     ·(((try refine qI ?_);(repeat ((first|with_reducible refine qU ?_ | simp only[ZQ]);try simp (maxSteps:=9^7) only[↓ S2,S2,ZF,↓reduceIte,reduceNe,reduceEqDiff,reduceCtorEq,reduceLeDiff,reduceAdd,reduceLT,Z9,Z8,Z7,h9,heg,Bool.not_false,Bool.not_true,List.getElem_set_self,List.set_set,List.length_set]));(try simp +contextual (disch:=omega) only[Z2,Z9,Z8,Z7,h9,heg,Bool.not_false,Bool.not_true,List.getElem_set_self,List.set_set,List.length_set]);(with_reducible repeat' (first|intro h|refine jO oT ?_ | refine exP oT ?_ | apply jO)));(repeat' (have h:=Z4 h;simp only[Z0,ZX,Z1,ZY,and_true,true_and] at h;((try refine qI ?_);(repeat ((first|with_reducible refine qU ?_ | simp only[ZQ]);try simp (maxSteps:=9^7) only[↓ S2,S2,ZF,↓reduceIte,reduceNe,reduceEqDiff,reduceCtorEq,reduceLeDiff,reduceAdd,reduceLT,Z9,Z8,Z7,h9,heg,Bool.not_false,Bool.not_true,List.getElem_set_self,List.set_set,List.length_set,h]));(try simp +contextual (disch:=omega) only[Z2,Z9,Z8,Z7,h9,heg,Bool.not_false,Bool.not_true,List.getElem_set_self,List.set_set,List.length_set,h]);(with_reducible repeat' (first|intro h|refine jO oT ?_ | refine exP oT ?_ | apply jO))))))
      all_goals try exact oF
      exact nxF ⟨(D++[{ L[j] with eqs:=qs,cons:=[] }],j+1),by dsimp only;omega,by simp;omega,fun y hy=>(List.mem_append.1 hy).elim (hD y) fun h=>by
       rw[List.mem_singleton] at h;subst h;exact shRu_of hr hqs.1 hqs.2 (by simp) (by simp)⟩ (by dsimp only;omega) (FE.ruQ (r:=L[j]) (by simp[*]) oT hev rfl) (by simp[E2]) (by rw[hest])
    ·((refine R1 (jO @Z9 (jO @Z8 (jO @Z7 h5))) ?_;with_reducible repeat' intro h);(repeat' (have h:=Z4 h;simp only[Z0,ZX,Z1,ZY,and_true,true_and] at h;(refine R1 (jO @Z9 (jO @Z8 (jO @Z7 (jO h5 h)))) ?_;with_reducible repeat' first|exact trivial|intro h|refine aO ?_|refine eO ?_|apply jO))))
     all_goals try exact oF
     have hDn:D.length=L.length:=by omega
     exact ⟨_,[_,_,_],[(q2,6,_)],⟨⟨l,D⟩,drG_of oT oT hd oT oT hD,rfl⟩,bor_rul hDn,rfl,(by repeat' (first|exact trivial|(refine jO (by simp only[Z9, *,if_true,if_false];try rfl) (jO (by simp[ZW,ZU, *]) ?_))))⟩
theorem w30 (a b:List Int) (ha:a.length≤1000000000):Pu 30 [IS a,IS b] (· = B (decide (a=b))):=by
 refine Z5 mxd i30 rfl (by simp) ?_;refine X0 ?_
 by_cases hl:a.length=b.length
 ·(refine V1 (jO @List.length_map.{0,0} hl) ?_)
  all_goals try exact oF
  refine ZL mxd (ι:={ i:Nat // i≤a.length∧a.take i=b.take i }) (fun i=>[(0,IS a),(1,IS b),(5,I i.1)]) (fun _ => []) (fun i=>a.length-i.1) ⟨0,by simp⟩ (by simp[E2]) rfl ?_
  rintro ⟨i,hi,hp⟩
  dsimp only
  rcases nL i a.length with hlt|hge
  ·have hlb:i<b.length:=by omega
   by_cases he:a[i]=b[i]
   ·have he':=eq_true he
    (refine V1 (jO @List.length_map.{0,0} (jO he' @decide_true)) ?_;with_reducible repeat' first|intro h|apply jO)
    all_goals try exact oF
    exact nx ⟨i+1,oT,by rw[List.take_add_one,List.take_add_one,hp,List.getElem?_eq_getElem hlt,List.getElem?_eq_getElem hlb,he]⟩ (by dsimp only;omega) (by simp[E2]) rfl
   ·have he':=eq_false he
    have hab:(a=b)=False:=eq_false fun e=>he (by subst e;rfl)
    (refine V1 (jO @List.length_map.{0,0} (jO he' (jO hab @decide_false))) ?_;with_reducible repeat' intro h)
    all_goals try exact oF
  ·have hab:(a=b)=True:=eq_true (by rwa [tL oT,tL oT] at hp)
   (refine V1 (jO @List.length_map.{0,0} (jO hab @decide_true)) ?_;with_reducible repeat' first|intro h|refine aO ?_)
   all_goals try exact oF
 ·have hl':((a.length:Int)=b.length)=False:=eq_false oT
  have hab:(a=b)=False:=eq_false fun e=>hl (by subst e;rfl)
  (refine V1 (jO @List.length_map.{0,0} (jO hl' (jO hab @decide_false))) ?_;with_reducible repeat' exact trivial)
  all_goals try exact oF
theorem w6 (bs:List UInt8):Pu 6 [Bs bs] (· = B (decide ((1048576:Int)<bs.length))):=by
 refine Z5 mxd i6 rfl (by simp) ?_;refine X0 ?_
 (refine V1 @List.length_map.{0,0} ?_;with_reducible repeat' exact trivial)
end Go.Proofs.YtkmedfejmndmjaaGreat
