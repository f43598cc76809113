/- The law returns true whatever the input, and the input reads behind the call as before. No condition. -/
import Derived.Test.YtkmedfejmndmjaaGreatFty19
import Derived.Test.YtkmedfejmndmjaaGreatFty21
set_option maxHeartbeats 40000000
set_option maxRecDepth 20000
set_option linter.unusedSimpArgs false
set_option linter.unusedVariables false
namespace Go.Proofs.YtkmedfejmndmjaaGreat
open Go.Gh
open Nat (reduceEqDiff reduceLeDiff reduceAdd reduceLT)
open Int (reduceNe)
theorem z123 (rs:Nat) (X Y:GV) (g:Gram) (r:Rul) (hg:Zw g) (hs:∀s∈g.syms,shSy s) (hr:Zk r) (hr3:r.right.length≤3) (hY:clean Y=true) :
 DcR Tryz.prog (syR rs g) 123 [GrO rs g X,RuX r Y (.val (.slice none 0 0))] (fun v H1=>∃(cs:List Con) (q:Nat),(cs.length≤2∧∀c∈cs,shCo c)∧v=RuX r Y (.own q 16 0 cs.length)∧H1=[(q,16,cs.map Co)]):=by
 have hg1:=hg.1
 refine DcR.of fun rc H hne=> ?_
 have hne:rc≠rs:=hne
 change GCalls _ _ _ ((rc,3,[.cur])::(rs,2,g.syms.map Sy)::H) _
 have hof:∀Z kind,PuR Tryz.prog (rs,2,g.syms.map Sy) 189 [GrO rs g X,RuX r Y Z,I kind] (OcS (ofO g r kind)):=fun Z kind=>y189 rs X Y Z g r kind hg hr (by omega)
 have hlf:∀kind k2,Dv Tryz.prog 188 [I kind,OcS (ofO g r k2)] (fun v=>∃e,e.args=[]∧shD 0 e∧v=ExN e):=fun kind k2=>w188 kind _ (ofA_sh hs r k2 _)
 generalize ofO g r=of at *
 refine ZY mxd i123 rfl (by simp) ?_;simp (maxSteps:=9^7) only[↓ S2,S2,Z5,↓reduceIte,reduceNe,reduceEqDiff,reduceCtorEq,reduceLeDiff,reduceAdd,reduceLT]
 (((try refine qI ?_);(repeat ((first|with_reducible refine qU ?_ | simp only[Z8]);try simp (maxSteps:=9^7) only[↓ S2,S2,Z5,↓reduceIte,reduceNe,reduceEqDiff,reduceCtorEq,reduceLeDiff,reduceAdd,reduceLT,Z9,Z7,Z6,hne]));(try simp +contextual (disch:=omega) only[Z2,Z9,Z7,Z6,hne]);(with_reducible repeat' (first|intro h|refine And.intro (by omega) ?_ | refine exP (by omega) ?_ | apply And.intro)));(repeat' (have h:=ZX h;simp only[ZZ,ZV,Z0,ZW,and_true,true_and] at h;((try refine qI ?_);(repeat ((first|with_reducible refine qU ?_ | simp only[Z8]);try simp (maxSteps:=9^7) only[↓ S2,S2,Z5,↓reduceIte,reduceNe,reduceEqDiff,reduceCtorEq,reduceLeDiff,reduceAdd,reduceLT,Z9,Z7,Z6,hne,h]));(try simp +contextual (disch:=omega) only[Z2,Z9,Z7,Z6,hne,h]);(with_reducible repeat' (first|intro h|refine And.intro (by omega) ?_ | refine exP (by omega) ?_ | apply And.intro))))))
 rename_i rr _
 obtain ⟨v,hv,hvn⟩:=vfresh (names ((rr,6,[RuX r Y (.val (.slice none 0 0))])::(rc,3,[.cur])::(rs,2,g.syms.map Sy)::H))
 refine Yw mxd (ι:={ x:(Nat×List Con)×Nat // x.2≤g.syms.length∧x.1.2.length≤2∧∀c∈x.1.2,shCo c }) (fun x=>[(0,.ptr rc 3 0 0),(4,.rop 2 (GrO rs g X)),(5,.ptr rr 6 0 0),(6,.raw 6),(7,I x.1.2)]) (fun x=>(x.1.1.1,16,x.1.1.2.map Co)::(rr,6,[RuX r Y (.own x.1.1.1 16 0 x.1.1.2.length)])::(rc,3,[.cur])::(rs,2,g.syms.map Sy)::H) (fun x=>g.syms.length-x.1.2) ⟨((v,[]),0),by simp⟩ (FE.virtF (sz:=6) (sz1:=16) (i:=0) (j:=5) (es:=[RuX r Y (.val (.slice none 0 0))]) (gs:=[T r.name,T r.left,TS r.right,B r.lit,Y,.val (.slice none 0 0)]) Z4 rfl rfl hv hvn) (by simp[E2]) (by simp[ZD]) ?_
 rintro ⟨⟨⟨q,l⟩,i⟩,hi,hl,hd⟩ hn2
 dsimp only at hi hl hd hn2 ⊢
 have h4:=ZX hn2
 (replace h4:=h4;simp only[VN] at h4)
 refine Zp mxd ?_
 rcases nL i g.syms.length with hlt|hge
 ·have hsy:=hs _ (gM hlt)
  have hal:=hsy.2.2.1
  (((try refine qI ?_);(repeat ((first|with_reducible refine qU ?_ | simp only[Z8]);try simp (maxSteps:=9^7) only[↓ S2,S2,Z5,↓reduceIte,reduceNe,reduceEqDiff,reduceCtorEq,reduceLeDiff,reduceAdd,reduceLT,Z9,Z7,Z6,hne,h4]));(try simp +contextual (disch:=omega) only[Z2,Z9,Z7,Z6,hne,h4]);(with_reducible repeat' (first|intro h|refine And.intro (by omega) ?_ | refine exP (by omega) ?_ | apply And.intro)));(repeat' (have h:=ZX h;simp only[ZZ,ZV,Z0,ZW,and_true,true_and] at h;((try refine qI ?_);(repeat ((first|with_reducible refine qU ?_ | simp only[Z8]);try simp (maxSteps:=9^7) only[↓ S2,S2,Z5,↓reduceIte,reduceNe,reduceEqDiff,reduceCtorEq,reduceLeDiff,reduceAdd,reduceLT,Z9,Z7,Z6,hne,h4,h]));(try simp +contextual (disch:=omega) only[Z2,Z9,Z7,Z6,hne,h4,h]);(with_reducible repeat' (first|intro h|refine And.intro (by omega) ?_ | refine exP (by omega) ?_ | apply And.intro))))))
  all_goals try exact oF
  refine Yw mxd (ι:={ x:(Nat×List Con)×Nat // x.2≤g.syms[i].atts.length ∧ x.1.2.length≤2∧∀c∈x.1.2,shCo c }) (fun x=>[(0,.ptr rc 3 0 0),(4,.rop 2 (GrO rs g X)),(5,.ptr rr 6 0 0),(6,.raw 6),(7,I i),(8,I x.1.2)]) (fun x=>(x.1.1.1,16,x.1.1.2.map Co)::(rr,6,[RuX r Y (.own x.1.1.1 16 0 x.1.1.2.length)])::(rc,3,[.cur])::(rs,2,g.syms.map Sy)::H) (fun x=>g.syms[i].atts.length - x.1.2) ⟨((q,l),0),by omega,hl,hd⟩ FE.refl (by simp[E2]) rfl ?_
  rintro ⟨⟨⟨q,l⟩,k⟩,hk,hl,hd⟩ hn2
  dsimp only at hk hl hd hn2 ⊢
  have h4:=ZX hn2
  (replace h4:=h4;simp only[VN] at h4)
  refine Zp mxd ?_
  rcases nL k g.syms[i].atts.length with hlt2|hge2
  ·have hat:=hsy.2.2.2 _ (gM hlt2)
   (((try refine qI ?_);(repeat ((first|with_reducible refine qU ?_ | simp only[Z8]);try simp (maxSteps:=9^7) only[↓ S2,S2,Z5,↓reduceIte,reduceNe,reduceEqDiff,reduceCtorEq,reduceLeDiff,reduceAdd,reduceLT,Z9,Z7,Z6,hne,h4]));(try simp +contextual (disch:=omega) only[Z2,Z9,Z7,Z6,hne,h4]);(with_reducible repeat' (first|intro h|refine And.intro (by omega) ?_ | refine exP (by omega) ?_ | apply And.intro)));(repeat' (have h:=ZX h;simp only[ZZ,ZV,Z0,ZW,and_true,true_and] at h;((try refine qI ?_);(repeat ((first|with_reducible refine qU ?_ | simp only[Z8]);try simp (maxSteps:=9^7) only[↓ S2,S2,Z5,↓reduceIte,reduceNe,reduceEqDiff,reduceCtorEq,reduceLeDiff,reduceAdd,reduceLT,Z9,Z7,Z6,hne,h4,h]));(try simp +contextual (disch:=omega) only[Z2,Z9,Z7,Z6,hne,h4,h]);(with_reducible repeat' (first|intro h|refine And.intro (by omega) ?_ | refine exP (by omega) ?_ | apply And.intro))))))
   all_goals try exact oF
   all_goals try exact nx ⟨((q,l),k+1),by dsimp only;omega,hl,hd⟩ (by dsimp only;omega) (by simp[E2]) rfl
   refine callS.dv (w36 3) (by simp only[Z9,h4,if_true,if_false]) ?_
   rintro _ ⟨b,rfl⟩
   cases b
   ·(((try refine qI ?_);(repeat ((first|with_reducible refine qU ?_ | simp only[Z8]);try simp (maxSteps:=9^7) only[↓ S2,S2,Z5,↓reduceIte,reduceNe,reduceEqDiff,reduceCtorEq,reduceLeDiff,reduceAdd,reduceLT,Z9,Z7,Z6,hne,h4]));(try simp +contextual (disch:=omega) only[Z2,Z9,Z7,Z6,hne,h4]);(with_reducible repeat' (first|intro h|refine And.intro (by omega) ?_ | refine exP (by omega) ?_ | apply And.intro)));(repeat' (have h:=ZX h;simp only[ZZ,ZV,Z0,ZW,and_true,true_and] at h;((try refine qI ?_);(repeat ((first|with_reducible refine qU ?_ | simp only[Z8]);try simp (maxSteps:=9^7) only[↓ S2,S2,Z5,↓reduceIte,reduceNe,reduceEqDiff,reduceCtorEq,reduceLeDiff,reduceAdd,reduceLT,Z9,Z7,Z6,hne,h4,h]));(try simp +contextual (disch:=omega) only[Z2,Z9,Z7,Z6,hne,h4,h]);(with_reducible repeat' (first|intro h|refine And.intro (by omega) ?_ | refine exP (by omega) ?_ | apply And.intro))))))
    all_goals try exact oF
    refine callS.eqR (hof _ 4) (by simp only[Z9, *,if_true,if_false]) ?_
    (((try refine qI ?_);(repeat ((first|with_reducible refine qU ?_ | simp only[Z8]);try simp (maxSteps:=9^7) only[↓ S2,S2,Z5,↓reduceIte,reduceNe,reduceEqDiff,reduceCtorEq,reduceLeDiff,reduceAdd,reduceLT,Z9,Z7,Z6,hne,h4]));(try simp +contextual (disch:=omega) only[Z2,Z9,Z7,Z6,hne,h4]);(with_reducible repeat' (first|intro h|refine And.intro (by omega) ?_ | refine exP (by omega) ?_ | apply And.intro)));(repeat' (have h:=ZX h;simp only[ZZ,ZV,Z0,ZW,and_true,true_and] at h;((try refine qI ?_);(repeat ((first|with_reducible refine qU ?_ | simp only[Z8]);try simp (maxSteps:=9^7) only[↓ S2,S2,Z5,↓reduceIte,reduceNe,reduceEqDiff,reduceCtorEq,reduceLeDiff,reduceAdd,reduceLT,Z9,Z7,Z6,hne,h4,h]));(try simp +contextual (disch:=omega) only[Z2,Z9,Z7,Z6,hne,h4,h]);(with_reducible repeat' (first|intro h|refine And.intro (by omega) ?_ | refine exP (by omega) ?_ | apply And.intro))))))
    refine callA.dv (hlf 4 4) (by simp only[Z9,h4,if_true,if_false]) ?_
    rintro _ ⟨e1,a1,b1,rfl⟩
    (((try refine qI ?_);(repeat ((first|with_reducible refine qU ?_ | simp only[Z8]);try simp (maxSteps:=9^7) only[↓ S2,S2,Z5,↓reduceIte,reduceNe,reduceEqDiff,reduceCtorEq,reduceLeDiff,reduceAdd,reduceLT,Z9,Z7,Z6,hne,h4]));(try simp +contextual (disch:=omega) only[Z2,Z9,Z7,Z6,hne,h4]);(with_reducible repeat' (first|intro h|refine And.intro (by omega) ?_ | refine exP (by omega) ?_ | apply And.intro)));(repeat' (have h:=ZX h;simp only[ZZ,ZV,Z0,ZW,and_true,true_and] at h;((try refine qI ?_);(repeat ((first|with_reducible refine qU ?_ | simp only[Z8]);try simp (maxSteps:=9^7) only[↓ S2,S2,Z5,↓reduceIte,reduceNe,reduceEqDiff,reduceCtorEq,reduceLeDiff,reduceAdd,reduceLT,Z9,Z7,Z6,hne,h4,h]));(try simp +contextual (disch:=omega) only[Z2,Z9,Z7,Z6,hne,h4,h]);(with_reducible repeat' (first|intro h|refine And.intro (by omega) ?_ | refine exP (by omega) ?_ | apply And.intro))))))
    refine callS.eqR (hof _ 2) (by simp only[Z9, *,if_true,if_false]) ?_
    (((try refine qI ?_);(repeat ((first|with_reducible refine qU ?_ | simp only[Z8]);try simp (maxSteps:=9^7) only[↓ S2,S2,Z5,↓reduceIte,reduceNe,reduceEqDiff,reduceCtorEq,reduceLeDiff,reduceAdd,reduceLT,Z9,Z7,Z6,hne,h4]));(try simp +contextual (disch:=omega) only[Z2,Z9,Z7,Z6,hne,h4]);(with_reducible repeat' (first|intro h|refine And.intro (by omega) ?_ | refine exP (by omega) ?_ | apply And.intro)));(repeat' (have h:=ZX h;simp only[ZZ,ZV,Z0,ZW,and_true,true_and] at h;((try refine qI ?_);(repeat ((first|with_reducible refine qU ?_ | simp only[Z8]);try simp (maxSteps:=9^7) only[↓ S2,S2,Z5,↓reduceIte,reduceNe,reduceEqDiff,reduceCtorEq,reduceLeDiff,reduceAdd,reduceLT,Z9,Z7,Z6,hne,h4,h]));(try simp +contextual (disch:=omega) only[Z2,Z9,Z7,Z6,hne,h4,h]);(with_reducible repeat' (first|intro h|refine And.intro (by omega) ?_ | refine exP (by omega) ?_ | apply And.intro))))))
    refine callA.dv (hlf 2 2) (by simp only[Z9,h4,if_true,if_false]) ?_
    rintro _ ⟨e2,a2,b2,rfl⟩
    (((try refine qI ?_);(repeat ((first|with_reducible refine qU ?_ | simp only[Z8]);try simp (maxSteps:=9^7) only[↓ S2,S2,Z5,↓reduceIte,reduceNe,reduceEqDiff,reduceCtorEq,reduceLeDiff,reduceAdd,reduceLT,Z9,Z7,Z6,hne,h4,List.length_append,List.length_singleton,List.length_map,List.length_take,ZO]));(try simp +contextual (disch:=omega) only[Z2,Z9,Z7,Z6,hne,h4,List.length_append,List.length_singleton,List.length_map,List.length_take,ZO]);(with_reducible repeat' (first|intro h|refine And.intro (by omega) ?_ | refine exP (by omega) ?_ | apply And.intro)));(repeat' (have h:=ZX h;simp only[ZZ,ZV,Z0,ZW,and_true,true_and] at h;((try refine qI ?_);(repeat ((first|with_reducible refine qU ?_ | simp only[Z8]);try simp (maxSteps:=9^7) only[↓ S2,S2,Z5,↓reduceIte,reduceNe,reduceEqDiff,reduceCtorEq,reduceLeDiff,reduceAdd,reduceLT,Z9,Z7,Z6,hne,h4,List.length_append,List.length_singleton,List.length_map,List.length_take,ZO,h]));(try simp +contextual (disch:=omega) only[Z2,Z9,Z7,Z6,hne,h4,List.length_append,List.length_singleton,List.length_map,List.length_take,ZO,h]);(with_reducible repeat' (first|intro h|refine And.intro (by omega) ?_ | refine exP (by omega) ?_ | apply And.intro))))))
    all_goals try exact oF
    rename_i r3 _ _ r4 _
    rw[tL (by simp)]
    exact nxF ⟨((r4,l++[⟨g.syms[i].name,g.syms[i].atts[k].name,e1,e2⟩]),k+1),by dsimp only;omega,by simp;omega,fun y hy=>(List.mem_append.1 hy).elim (hd y) fun h=>by
     rw[List.mem_singleton] at h;subst h;exact ⟨hsy.1,hat,shD_ex (by omega) b1,shD_ex (by omega) b2⟩⟩ (by dsimp only;omega) (FE.trans (FE.perm (H:=[_,_,_,_]) (L:=[(r4,_),(rr,_),(rc,_)]) (by repeat' (first|exact trivial|(refine And.intro (by simp only[Z9, *,if_true,if_false];try rfl) (And.intro (by simp[ZT,ZS, *]) ?_))))) (FE.con a1 a2)) (by simp[E2]) (by simp)
   ·(((try refine qI ?_);(repeat ((first|with_reducible refine qU ?_ | simp only[Z8]);try simp (maxSteps:=9^7) only[↓ S2,S2,Z5,↓reduceIte,reduceNe,reduceEqDiff,reduceCtorEq,reduceLeDiff,reduceAdd,reduceLT,Z9,Z7,Z6,hne,h4]));(try simp +contextual (disch:=omega) only[Z2,Z9,Z7,Z6,hne,h4]);(with_reducible repeat' (first|intro h|refine And.intro (by omega) ?_ | refine exP (by omega) ?_ | apply And.intro)));(repeat' (have h:=ZX h;simp only[ZZ,ZV,Z0,ZW,and_true,true_and] at h;((try refine qI ?_);(repeat ((first|with_reducible refine qU ?_ | simp only[Z8]);try simp (maxSteps:=9^7) only[↓ S2,S2,Z5,↓reduceIte,reduceNe,reduceEqDiff,reduceCtorEq,reduceLeDiff,reduceAdd,reduceLT,Z9,Z7,Z6,hne,h4,h]));(try simp +contextual (disch:=omega) only[Z2,Z9,Z7,Z6,hne,h4,h]);(with_reducible repeat' (first|intro h|refine And.intro (by omega) ?_ | refine exP (by omega) ?_ | apply And.intro))))))
    all_goals try exact oF
    exact nx ⟨((q,l),k+1),by dsimp only;omega,hl,hd⟩ (by dsimp only;omega) (by simp[E2]) rfl
  ·(((try refine qI ?_);(repeat ((first|with_reducible refine qU ?_ | simp only[Z8]);try simp (maxSteps:=9^7) only[↓ S2,S2,Z5,↓reduceIte,reduceNe,reduceEqDiff,reduceCtorEq,reduceLeDiff,reduceAdd,reduceLT,Z9,Z7,Z6,hne,h4]));(try simp +contextual (disch:=omega) only[Z2,Z9,Z7,Z6,hne,h4]);(with_reducible repeat' (first|intro h|refine And.intro (by omega) ?_ | refine exP (by omega) ?_ | apply And.intro)));(repeat' (have h:=ZX h;simp only[ZZ,ZV,Z0,ZW,and_true,true_and] at h;((try refine qI ?_);(repeat ((first|with_reducible refine qU ?_ | simp only[Z8]);try simp (maxSteps:=9^7) only[↓ S2,S2,Z5,↓reduceIte,reduceNe,reduceEqDiff,reduceCtorEq,reduceLeDiff,reduceAdd,reduceLT,Z9,Z7,Z6,hne,h4,h]));(try simp +contextual (disch:=omega) only[Z2,Z9,Z7,Z6,hne,h4,h]);(with_reducible repeat' (first|intro h|refine And.intro (by omega) ?_ | refine exP (by omega) ?_ | apply And.intro))))))
   all_goals try exact oF
   exact nx ⟨((q,l),i+1),by dsimp only;omega,hl,hd⟩ (by dsimp only;omega) (by simp[E2]) rfl
 ·(((try refine qI ?_);(repeat ((first|with_reducible refine qU ?_ | simp only[Z8]);try simp (maxSteps:=9^7) only[↓ S2,S2,Z5,↓reduceIte,reduceNe,reduceEqDiff,reduceCtorEq,reduceLeDiff,reduceAdd,reduceLT,Z9,Z7,Z6,hne,h4]));(try simp +contextual (disch:=omega) only[Z2,Z9,Z7,Z6,hne,h4]);(with_reducible repeat' (first|intro h|refine And.intro (by omega) ?_ | refine exP (by omega) ?_ | apply And.intro)));(repeat' (have h:=ZX h;simp only[ZZ,ZV,Z0,ZW,and_true,true_and] at h;((try refine qI ?_);(repeat ((first|with_reducible refine qU ?_ | simp only[Z8]);try simp (maxSteps:=9^7) only[↓ S2,S2,Z5,↓reduceIte,reduceNe,reduceEqDiff,reduceCtorEq,reduceLeDiff,reduceAdd,reduceLT,Z9,Z7,Z6,hne,h4,h]));(try simp +contextual (disch:=omega) only[Z2,Z9,Z7,Z6,hne,h4,h]);(with_reducible repeat' (first|intro h|refine And.intro (by omega) ?_ | refine exP (by omega) ?_ | apply And.intro))))))
  all_goals try exact oF
  all_goals first
   | exact hY
   | exact ⟨_,[(q,16,l.map Co)],[_,_,_,_],[],⟨l,q,⟨hl,hd⟩,rfl,rfl⟩,.refl,rfl,(by repeat' (first|exact trivial|(refine And.intro (by simp only[Z9, *,if_true,if_false];try rfl) (And.intro (by simp[ZT,ZS, *]) ?_))))⟩
end Go.Proofs.YtkmedfejmndmjaaGreat
