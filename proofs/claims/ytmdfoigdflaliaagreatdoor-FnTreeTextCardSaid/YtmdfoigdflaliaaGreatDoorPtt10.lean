/- The tied card of the law holds. No condition. -/
import Derived.Test.YtmdfoigdflaliaaGreatDoorPtt8
set_option maxHeartbeats 40000000
set_option maxRecDepth 20000
set_option linter.unusedSimpArgs false
set_option linter.unusedVariables false
namespace Go.Proofs.YtmdfoigdflaliaaGreatDoor
open Go.Gh
open Nat (reduceEqDiff reduceLeDiff reduceAdd reduceLT)
open Int (reduceNe)
theorem o51 (X Y:GV) (g:Gram) (r:Rul) (hg:smGr g) (hs:∀s∈g.syms,shSy s) (hr:smRu r) (hr3:r.right.length≤3) (hY:clean Y=true) :
 Dc Tryz.prog 51 [GrX g X,RuX r Y (.val (.slice none 0 0))] (fun v H1=>∃(cs:List Con) (q:Nat),(cs.length≤2∧∀c∈cs,shCo c)∧v=RuX r Y (.own q 16 0 cs.length)∧H1=[(q,16,cs.map Co)]):=by
 have hg1:=hg.1
 refine Dc.of fun rc H=> ?_
 have hof:∀Z kind,Pu 78 [GrX g X,RuX r Y Z,I kind] (· = OcS (ofO g r kind)):=fun Z kind=>x78 X Y Z g r kind hg hr (by omega)
 have hlf:∀kind k2,Dv Tryz.prog 77 [I kind,OcS (ofO g r k2)] (fun v=>∃e,e.args=[]∧shD 0 e∧v=ExN e):=fun kind k2=>w77 kind _ (ofA_sh hs r k2 _)
 generalize ofO g r=of at *
 refine ZN mxd i51 rfl (by simp) ?_;refine X0 ?_
 ((refine R1 (jO @Z9 (jO @Z8 @Z7)) ?_;with_reducible repeat' first|exact trivial|intro h|refine aO ?_|refine eO ?_|apply jO);(repeat' (have h:=Z0 h;simp only[Z1,ZY,Z3,ZZ,and_true,true_and] at h;(refine R1 (jO @Z9 (jO @Z8 (jO @Z7 h))) ?_;with_reducible repeat' first|exact trivial|intro h|refine aO ?_|refine eO ?_|apply jO))))
 rename_i rr _
 obtain ⟨v,hv,hvn⟩:=vfresh (names ((rr,6,[RuX r Y (.val (.slice none 0 0))])::(rc,3,[.cur])::H))
 refine Zd mxd (ι:={ x:(Nat×List Con)×Nat // x.2≤g.syms.length∧x.1.2.length≤2∧∀c∈x.1.2,shCo c }) (fun x=>[(0,.ptr rc 3 0 0),(4,.rop 2 (GrX g X)),(5,.ptr rr 6 0 0),(6,.raw 6),(7,I x.1.2)]) (fun x=>(x.1.1.1,16,x.1.1.2.map Co)::(rr,6,[RuX r Y (.own x.1.1.1 16 0 x.1.1.2.length)])::(rc,3,[.cur])::H) (fun x=>g.syms.length-x.1.2) ⟨((v,[]),0),by simp⟩ (FE.virtF (sz:=6) (sz1:=16) (i:=0) (j:=5) (es:=[RuX r Y (.val (.slice none 0 0))]) (gs:=[T r.name,T r.left,TS r.right,B r.lit,Y,.val (.slice none 0 0)]) ZX rfl rfl hv hvn) (by simp[E2]) (by simp[ZI]) ?_
 rintro ⟨⟨⟨q,l⟩,i⟩,hi,hl,hd⟩ hn2
 dsimp only at hi hl hd hn2 ⊢
 have h4:=Z0 hn2
 (replace h4:=h4;simp only[VN] at h4)
 refine ZD mxd ?_
 rcases nL i g.syms.length with hlt|hge
 ·have hsy:=hs _ (gM hlt)
  have hal:=hsy.2.2.1
  ((refine R1 (jO @Z9 (jO @Z8 (jO @Z7 h4))) ?_;with_reducible repeat' first|exact trivial|intro h|refine aO ?_|refine eO ?_|apply jO);(repeat' (have h:=Z0 h;simp only[Z1,ZY,Z3,ZZ,and_true,true_and] at h;(refine R1 (jO @Z9 (jO @Z8 (jO @Z7 (jO h4 h)))) ?_;with_reducible repeat' first|exact trivial|intro h|refine aO ?_|refine eO ?_|apply jO))))
  all_goals try exact oF
  refine Zd mxd (ι:={ x:(Nat×List Con)×Nat // x.2≤g.syms[i].atts.length ∧ x.1.2.length≤2∧∀c∈x.1.2,shCo c }) (fun x=>[(0,.ptr rc 3 0 0),(4,.rop 2 (GrX g X)),(5,.ptr rr 6 0 0),(6,.raw 6),(7,I i),(8,I x.1.2)]) (fun x=>(x.1.1.1,16,x.1.1.2.map Co)::(rr,6,[RuX r Y (.own x.1.1.1 16 0 x.1.1.2.length)])::(rc,3,[.cur])::H) (fun x=>g.syms[i].atts.length - x.1.2) ⟨((q,l),0),by omega,hl,hd⟩ FE.refl (by simp[E2]) rfl ?_
  rintro ⟨⟨⟨q,l⟩,k⟩,hk,hl,hd⟩ hn2
  dsimp only at hk hl hd hn2 ⊢
  have h4:=Z0 hn2
  (replace h4:=h4;simp only[VN] at h4)
  refine ZD mxd ?_
  rcases nL k g.syms[i].atts.length with hlt2|hge2
  ·have hat:=hsy.2.2.2 _ (gM hlt2)
   ((refine R1 (jO @Z9 (jO @Z8 (jO @Z7 h4))) ?_;with_reducible repeat' first|exact trivial|intro h|refine aO ?_|refine eO ?_|apply jO);(repeat' (have h:=Z0 h;simp only[Z1,ZY,Z3,ZZ,and_true,true_and] at h;(refine R1 (jO @Z9 (jO @Z8 (jO @Z7 (jO h4 h)))) ?_;with_reducible repeat' first|exact trivial|intro h|refine aO ?_|refine eO ?_|apply jO))))
   all_goals try exact oF
   all_goals try exact nx ⟨((q,l),k+1),by dsimp only;omega,hl,hd⟩ (by dsimp only;omega) (by simp[E2]) rfl
   refine callS.dv (w32 3) (by simp only[Z9,h4,if_true,if_false]) ?_
   rintro _ ⟨b,rfl⟩
   cases b
   ·((refine R1 (jO @Z9 (jO @Z8 (jO @Z7 h4))) ?_;with_reducible repeat' first|exact trivial|intro h|refine aO ?_|refine eO ?_|apply jO);(repeat' (have h:=Z0 h;simp only[Z1,ZY,Z3,ZZ,and_true,true_and] at h;(refine R1 (jO @Z9 (jO @Z8 (jO @Z7 (jO h4 h)))) ?_;with_reducible repeat' first|exact trivial|intro h|refine aO ?_|refine eO ?_|apply jO))))
    all_goals try exact oF
    refine callS.eq (hof _ 4) ?_
    ((refine R1 (jO @Z9 (jO @Z8 (jO @Z7 h4))) ?_;with_reducible repeat' first|exact trivial|intro h|refine aO ?_|refine eO ?_|apply jO);(repeat' (have h:=Z0 h;simp only[Z1,ZY,Z3,ZZ,and_true,true_and] at h;(refine R1 (jO @Z9 (jO @Z8 (jO @Z7 (jO h4 h)))) ?_;with_reducible repeat' first|exact trivial|intro h|refine aO ?_|refine eO ?_|apply jO))))
    refine callA.dv (hlf 4 4) (by simp only[Z9,h4,if_true,if_false]) ?_
    rintro _ ⟨e1,a1,b1,rfl⟩
    ((refine R1 (jO @Z9 (jO @Z8 (jO @Z7 h4))) ?_;with_reducible repeat' first|exact trivial|intro h|refine aO ?_|refine eO ?_|apply jO);(repeat' (have h:=Z0 h;simp only[Z1,ZY,Z3,ZZ,and_true,true_and] at h;(refine R1 (jO @Z9 (jO @Z8 (jO @Z7 (jO h4 h)))) ?_;with_reducible repeat' first|exact trivial|intro h|refine aO ?_|refine eO ?_|apply jO))))
    refine callS.eq (hof _ 2) ?_
    ((refine R1 (jO @Z9 (jO @Z8 (jO @Z7 h4))) ?_;with_reducible repeat' first|exact trivial|intro h|refine aO ?_|refine eO ?_|apply jO);(repeat' (have h:=Z0 h;simp only[Z1,ZY,Z3,ZZ,and_true,true_and] at h;(refine R1 (jO @Z9 (jO @Z8 (jO @Z7 (jO h4 h)))) ?_;with_reducible repeat' first|exact trivial|intro h|refine aO ?_|refine eO ?_|apply jO))))
    refine callA.dv (hlf 2 2) (by simp only[Z9,h4,if_true,if_false]) ?_
    rintro _ ⟨e2,a2,b2,rfl⟩
    ((refine R1 (jO @Z9 (jO @Z8 (jO @Z7 (jO h4 (jO @List.length_append.{0} (jO @List.length_singleton.{0} (jO @List.length_map.{0,0} (jO @List.length_take.{0} @ZM)))))))) ?_;with_reducible repeat' first|exact trivial|intro h|refine aO ?_|refine eO ?_|apply jO);(repeat' (have h:=Z0 h;simp only[Z1,ZY,Z3,ZZ,and_true,true_and] at h;(refine R1 (jO @Z9 (jO @Z8 (jO @Z7 (jO h4 (jO @List.length_append.{0} (jO @List.length_singleton.{0} (jO @List.length_map.{0,0} (jO @List.length_take.{0} (jO @ZM h))))))))) ?_;with_reducible repeat' first|exact trivial|intro h|refine aO ?_|refine eO ?_|apply jO))))
    all_goals try exact oF
    rename_i r3 _ _ r4 _
    rw[tL (by simp)]
    exact nxF ⟨((r4,l++[⟨g.syms[i].name,g.syms[i].atts[k].name,e1,e2⟩]),k+1),by dsimp only;omega,by simp;omega,fun y hy=>(List.mem_append.1 hy).elim (hd y) fun h=>by
     rw[List.mem_singleton] at h;subst h;exact ⟨hsy.1,hat,shD_ex (by omega) b1,shD_ex (by omega) b2⟩⟩ (by dsimp only;omega) (FE.trans (FE.perm (H:=[_,_,_,_]) (L:=[(r4,_),(rr,_),(rc,_)]) (by repeat' (first|exact trivial|(refine And.intro (by simp only[Z9, *,if_true,if_false];try rfl) (And.intro (by simp[ZR,ZP, *]) ?_))))) (FE.con a1 a2)) (by simp[E2]) (by simp)
   ·((refine R1 (jO @Z9 (jO @Z8 (jO @Z7 h4))) ?_;with_reducible repeat' first|exact trivial|intro h|refine aO ?_|refine eO ?_|apply jO);(repeat' (have h:=Z0 h;simp only[Z1,ZY,Z3,ZZ,and_true,true_and] at h;(refine R1 (jO @Z9 (jO @Z8 (jO @Z7 (jO h4 h)))) ?_;with_reducible repeat' first|exact trivial|intro h|refine aO ?_|refine eO ?_|apply jO))))
    all_goals try exact oF
    exact nx ⟨((q,l),k+1),by dsimp only;omega,hl,hd⟩ (by dsimp only;omega) (by simp[E2]) rfl
  ·((refine R1 (jO @Z9 (jO @Z8 (jO @Z7 h4))) ?_;with_reducible repeat' first|exact trivial|intro h|refine aO ?_|refine eO ?_|apply jO);(repeat' (have h:=Z0 h;simp only[Z1,ZY,Z3,ZZ,and_true,true_and] at h;(refine R1 (jO @Z9 (jO @Z8 (jO @Z7 (jO h4 h)))) ?_;with_reducible repeat' first|exact trivial|intro h|refine aO ?_|refine eO ?_|apply jO))))
   all_goals try exact oF
   exact nx ⟨((q,l),i+1),by dsimp only;omega,hl,hd⟩ (by dsimp only;omega) (by simp[E2]) rfl
 ·((refine R1 (jO @Z9 (jO @Z8 (jO @Z7 h4))) ?_;with_reducible repeat' first|exact trivial|intro h|refine aO ?_|refine eO ?_|apply jO);(repeat' (have h:=Z0 h;simp only[Z1,ZY,Z3,ZZ,and_true,true_and] at h;(refine R1 (jO @Z9 (jO @Z8 (jO @Z7 (jO h4 h)))) ?_;with_reducible repeat' first|exact trivial|intro h|refine aO ?_|refine eO ?_|apply jO))))
  all_goals try exact oF
  all_goals first
   | exact hY
   | exact ⟨_,[(q,16,l.map Co)],[_,_,_],[],⟨l,q,⟨hl,hd⟩,rfl,rfl⟩,.refl,rfl,(by repeat' (first|exact trivial|(refine And.intro (by simp only[Z9, *,if_true,if_false];try rfl) (And.intro (by simp[ZR,ZP, *]) ?_))))⟩
theorem v45 (k:Nat) (hk:k<2):Pu 45 [I k] (· = T (ByteArray.mk #[UInt8.ofNat (48+k)])):=by
 refine Pure.bor ?_
 have h0:k=0∨k=1:=by omega
 rcases h0 with rfl|rfl
 ·refine ZN mxd i45 rfl (by simp) ?_;refine X0 ?_
  (refine V0 ?_;with_reducible repeat' first|exact trivial|intro h|refine aO ?_|refine eO ?_|apply jO)
  exact .refl
 ·refine ZN mxd i45 rfl (by simp) ?_;refine X0 ?_
  (refine V2 @decide_false ?_;with_reducible repeat' first|exact trivial|intro h|refine aO ?_|refine eO ?_|apply jO)
  refine ploop mxd (ι:=Bool) (fun x=>[(0,I (if x then 0 else 1)),(3,B false),(4,T (if x then ByteArray.mk #[49] else ByteArray.mk #[]))]) (fun _ => []) (fun x=>if x then 0 else 1) false (by simp[E2]) (by simp[subH]) ?_
  intro b _
  have e1:Int.tmod 1 10=1:=rfl
  have e2:Int.tdiv 1 10=0:=rfl
  cases b
  ·((try refine qI ?_);(repeat ((first|with_reducible refine qU ?_ | simp only[Z5]);try simp (maxSteps:=9^7) +contextual only[↓ S2,S2,↓reduceIte,reduceNe,reduceEqDiff,reduceCtorEq,reduceLeDiff,reduceAdd,reduceLT,VQ,Int.reduceEq,Int.reduceLT,decide_false,Bool.false_eq_true,if_false,e1,e2]));(try simp +contextual (disch:=omega) only[Z2,Int.reduceEq,Int.reduceLT,decide_false,Bool.false_eq_true,if_false,e1,e2]);(with_reducible repeat' (first|intro h|refine And.intro (by omega) ?_ | refine exP (by omega) ?_ | apply And.intro)))
   all_goals first
    | exact Nat.le_of_ble_eq_true rfl
    | exact px true (by decide) (by simp[E2];rfl) (by simp[subH])
  ·((try refine qI ?_);(repeat ((first|with_reducible refine qU ?_ | simp only[Z5]);try simp (maxSteps:=9^7) +contextual only[↓ S2,S2,↓reduceIte,reduceNe,reduceEqDiff,reduceCtorEq,reduceLeDiff,reduceAdd,reduceLT,VQ,Int.reduceEq,decide_false,if_true]));(try simp +contextual (disch:=omega) only[Z2,Int.reduceEq,decide_false,if_true]);(with_reducible repeat' (first|intro h|refine And.intro (by omega) ?_ | refine exP (by omega) ?_ | apply And.intro)))
   exact .refl
theorem w48 (s:ByteArray) (hs:shT s) (first plain:Bool):Dv Tryz.prog 48 [T s,B first,B plain] (fun v=>∃y,drS y∧v=Sy y):=
 (o48 s hs first plain).frz fun g H1 ⟨l,r,h1,h2,h3⟩=>by
  subst h2 h3
  exact ⟨_,⟨_,h1,rfl⟩,.agg (.cons .refl (.cons (Bor.allM (fun _ => rfl) ZX rfl) .nil))⟩
end Go.Proofs.YtmdfoigdflaliaaGreatDoor
