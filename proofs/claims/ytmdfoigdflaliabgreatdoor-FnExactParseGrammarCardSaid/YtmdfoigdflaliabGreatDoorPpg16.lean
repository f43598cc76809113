/- The tied card of the law holds. No condition. -/
import Derived.Test.YtmdfoigdflaliabGreatDoorPpg4
import Derived.Test.YtmdfoigdflaliabGreatDoorPpg5
import Derived.Shelf.Small.Wraps
set_option maxHeartbeats 40000000
set_option maxRecDepth 20000
set_option linter.unusedSimpArgs false
set_option linter.unusedVariables false
namespace Go.Proofs.YtmdfoigdflaliabGreatDoor
open Go.Gh
open Nat (reduceEqDiff reduceLeDiff reduceAdd reduceLT)
open Int (reduceNe)
theorem w54 (k:Int) (l:List ByteArray) (hk:0≤k) (hb:k+smw wS l<9223372036854775807) :
 Pu 54 [TS (smk wS mkTx l k),I k] (· = I (k+smw wS l)):=by
 have e4:=smw_wS l
 refine Z8 mxd i54 rfl (by simp) ?_;refine X0 ?_
 refine Zu mxd (ι:={ i:Nat // i≤l.length }) (fun i=>[(0,TS (smk wS mkTx l k)),(1,I (k+smw wS (l.take i.1))),(5,I i.1)]) (fun i=>[]) (fun i=>l.length-i.1) ⟨0,oT⟩ (by simp[E2,smw]) rfl ?_
 rintro ⟨i,hi⟩
 rcases nL i l.length with h|h
 ·have e1:smw wS (l.take (i+1))=smw wS (l.take i)+1:=Yk wS h
  have e2:=Yj wS l (i+1)
  have hl:i<(smk wS mkTx l k).length := by rw[ZP];exact h
  have e6:(smk wS mkTx l k)[i]=mkTx l[i] (k+smw wS (l.take i)):=smk_getE wS mkTx h hl
  ((try refine qI ?_);(repeat ((first|with_reducible refine qU ?_ | simp only[ZU]);try simp (maxSteps:=9^7) only[↓ S2,S2,Y4,↓reduceIte,reduceNe,reduceEqDiff,reduceCtorEq,reduceLeDiff,reduceAdd,reduceLT,ZP,e6,mkTx]));(try simp +contextual (disch:=omega) only[Z2,ZP,e6,mkTx]);(with_reducible repeat' (first|intro h|refine jO oT ?_ | refine exP oT ?_ | apply jO)))
  all_goals try exact oF
  refine callS.eq (w48 _ oT) ?_
  ((try refine qI ?_);(repeat ((first|with_reducible refine qU ?_ | simp only[ZU]);try simp (maxSteps:=9^7) only[↓ S2,S2,Y4,↓reduceIte,reduceNe,reduceEqDiff,reduceCtorEq,reduceLeDiff,reduceAdd,reduceLT,ZP,e6,mkTx]));(try simp +contextual (disch:=omega) only[Z2,ZP,e6,mkTx]);(with_reducible repeat' (first|intro h|refine jO oT ?_ | refine exP oT ?_ | apply jO)))
  all_goals try exact oF
  exact nx ⟨i+1,oT⟩ (by simp;omega) (by simp[E2];omega) rfl
 ·((try refine qI ?_);(repeat ((first|with_reducible refine qU ?_ | simp only[ZU]);try simp (maxSteps:=9^7) only[↓ S2,S2,Y4,↓reduceIte,reduceNe,reduceEqDiff,reduceCtorEq,reduceLeDiff,reduceAdd,reduceLT,ZP]));(try simp +contextual (disch:=omega) only[Z2,ZP]);(with_reducible repeat' (first|intro h|refine jO oT ?_ | refine exP oT ?_ | apply jO)))
  rw[tL oT]
theorem w55 (k:Int) (l:List Eqn) (hk:0≤k) (hb:k+smw wQ l<9223372036854775807) :
 Pu 55 [QnS (smk wQ mkQ l k),I k] (· = I (k+smw wQ l)):=by
 have e4:=X4 wQ (fun x=>by show 1≤2 + _;omega) l
 refine Z8 mxd i55 rfl (by simp) ?_;refine X0 ?_
 refine Zu mxd (ι:={ i:Nat // i≤l.length }) (fun i=>[(0,QnS (smk wQ mkQ l k)),(1,I (k+smw wQ (l.take i.1))),(5,I i.1)]) (fun i=>[]) (fun i=>l.length-i.1) ⟨0,oT⟩ (by simp[E2,smw]) rfl ?_
 rintro ⟨i,hi⟩
 rcases nL i l.length with h|h
 ·have e0:=ctE_eq l[i].expr
  have e1:smw wQ (l.take (i+1))=smw wQ (l.take i)+(2+ctE l[i].expr):=Yk wQ h
  have e2:=Yj wQ l (i+1)
  have hl:i<(smk wQ mkQ l k).length := by rw[ZP];exact h
  have e6:(smk wQ mkQ l k)[i]=mkQ l[i] (k+smw wQ (l.take i)):=smk_getE wQ mkQ h hl
  have e7:=mkE_eq l[i].expr (k+smw wQ (l.take i)+1+1)
  have hq:=wa84 l[i].expr (k+smw wQ (l.take i)+1+1+1+1+1+1+1+1) oT oT
  generalize l[i].expr.args = a at *
  generalize hM:mkE l[i].expr (k+smw wQ (l.take i)+1+1)=M at *
  ((try refine qI ?_);(repeat ((first|with_reducible refine qU ?_ | simp only[ZU]);try simp (maxSteps:=9^7) only[↓ S2,S2,Y4,↓reduceIte,reduceNe,reduceEqDiff,reduceCtorEq,reduceLeDiff,reduceAdd,reduceLT,ZP,e6,mkQ,hM,e7,Exp.kind,Exp.n,Exp.pos,Exp.type,Exp.sym,Exp.name,Exp.args]));(try simp +contextual (disch:=omega) only[Z2,ZP,e6,mkQ,hM,e7,Exp.kind,Exp.n,Exp.pos,Exp.type,Exp.sym,Exp.name,Exp.args]);(with_reducible repeat' (first|intro h|refine jO oT ?_ | refine exP oT ?_ | apply jO)))
  all_goals try exact oF
  iterate 3
   (refine callS.eq (w48 _ oT) ?_
    ((try refine qI ?_);(repeat ((first|with_reducible refine qU ?_ | simp only[ZU]);try simp (maxSteps:=9^7) only[↓ S2,S2,Y4,↓reduceIte,reduceNe,reduceEqDiff,reduceCtorEq,reduceLeDiff,reduceAdd,reduceLT,ZP,e6,mkQ,hM,e7,Exp.kind,Exp.n,Exp.pos,Exp.type,Exp.sym,Exp.name,Exp.args]));(try simp +contextual (disch:=omega) only[Z2,ZP,e6,mkQ,hM,e7,Exp.kind,Exp.n,Exp.pos,Exp.type,Exp.sym,Exp.name,Exp.args]);(with_reducible repeat' (first|intro h|refine jO oT ?_ | refine exP oT ?_ | apply jO)))
    all_goals try exact oF)
  refine callS.eq hq ?_
  ((try refine qI ?_);(repeat ((first|with_reducible refine qU ?_ | simp only[ZU]);try simp (maxSteps:=9^7) only[↓ S2,S2,Y4,↓reduceIte,reduceNe,reduceEqDiff,reduceCtorEq,reduceLeDiff,reduceAdd,reduceLT,ZP]));(try simp +contextual (disch:=omega) only[Z2,ZP]);(with_reducible repeat' (first|intro h|refine jO oT ?_ | refine exP oT ?_ | apply jO)))
  all_goals try exact oF
  exact nx ⟨i+1,oT⟩ (by simp;omega) (by simp[E2];omega) rfl
 ·((try refine qI ?_);(repeat ((first|with_reducible refine qU ?_ | simp only[ZU]);try simp (maxSteps:=9^7) only[↓ S2,S2,Y4,↓reduceIte,reduceNe,reduceEqDiff,reduceCtorEq,reduceLeDiff,reduceAdd,reduceLT,ZP]));(try simp +contextual (disch:=omega) only[Z2,ZP]);(with_reducible repeat' (first|intro h|refine jO oT ?_ | refine exP oT ?_ | apply jO)))
  rw[tL oT]
theorem w56 (k:Int) (l:List Con) (hk:0≤k) (hb:k+smw wC l<9223372036854775807) :
 Pu 56 [CoS (smk wC mkC l k),I k] (· = I (k+smw wC l)):=by
 have e4:=X4 wC (fun x=>by show 1≤2 + _ + _;omega) l
 refine Z8 mxd i56 rfl (by simp) ?_;refine X0 ?_
 refine Zu mxd (ι:={ i:Nat // i≤l.length }) (fun i=>[(0,CoS (smk wC mkC l k)),(1,I (k+smw wC (l.take i.1))),(5,I i.1)]) (fun i=>[]) (fun i=>l.length-i.1) ⟨0,oT⟩ (by simp[E2,smw]) rfl ?_
 rintro ⟨i,hi⟩
 rcases nL i l.length with h|h
 ·have e0:=ctE_eq l[i].goal
  have e00:=ctE_eq l[i].value
  have e1:smw wC (l.take (i+1))=smw wC (l.take i)+(2+ctE l[i].goal + ctE l[i].value):=Yk wC h
  have e2:=Yj wC l (i+1)
  have hl:i<(smk wC mkC l k).length := by rw[ZP];exact h
  have e6:(smk wC mkC l k)[i]=mkC l[i] (k+smw wC (l.take i)):=smk_getE wC mkC h hl
  have e7:=mkE_eq l[i].goal (k+smw wC (l.take i)+1+1)
  have e8:=mkE_eq l[i].value (k+smw wC (l.take i)+1+1+1+1+1+1+1+1+smw ctE l[i].goal.args)
  have hq:=wa84 l[i].goal (k+smw wC (l.take i)+1+1+1+1+1+1+1+1) oT oT
  have hq2:=wa84 l[i].value (k+smw wC (l.take i)+1+1+1+1+1+1+1+1+smw ctE l[i].goal.args + 1+1+1+1+1+1) oT oT
  have hc:mkC l[i] (k+smw wC (l.take i))=⟨Yn (k+smw wC (l.take i)),Yn (k+smw wC (l.take i)+1),mkE l[i].goal (k+smw wC (l.take i)+1+1),mkE l[i].value (k+smw wC (l.take i)+1+1+1+1+1+1+1+1+smw ctE l[i].goal.args)⟩:=rfl
  rw[hc] at e6
  clear hc
  generalize l[i].goal.args = a at *
  generalize l[i].value.args = b at *
  generalize hM:mkE l[i].goal (k+smw wC (l.take i)+1+1)=M at *
  generalize hN:mkE l[i].value (k+smw wC (l.take i)+1+1+1+1+1+1+1+1+smw ctE a)=N at *
  ((try refine qI ?_);(repeat ((first|with_reducible refine qU ?_ | simp only[ZU]);try simp (maxSteps:=9^7) only[↓ S2,S2,Y4,↓reduceIte,reduceNe,reduceEqDiff,reduceCtorEq,reduceLeDiff,reduceAdd,reduceLT,ZP,e6,e7,e8,Exp.kind,Exp.n,Exp.pos,Exp.type,Exp.sym,Exp.name,Exp.args]));(try simp +contextual (disch:=omega) only[Z2,ZP,e6,e7,e8,Exp.kind,Exp.n,Exp.pos,Exp.type,Exp.sym,Exp.name,Exp.args]);(with_reducible repeat' (first|intro h|refine jO oT ?_ | refine exP oT ?_ | apply jO)))
  all_goals try exact oF
  iterate 4
   (refine callS.eq (w48 _ oT) ?_
    ((try refine qI ?_);(repeat ((first|with_reducible refine qU ?_ | simp only[ZU]);try simp (maxSteps:=9^7) only[↓ S2,S2,Y4,↓reduceIte,reduceNe,reduceEqDiff,reduceCtorEq,reduceLeDiff,reduceAdd,reduceLT,ZP,e6,e7,e8,Exp.kind,Exp.n,Exp.pos,Exp.type,Exp.sym,Exp.name,Exp.args]));(try simp +contextual (disch:=omega) only[Z2,ZP,e6,e7,e8,Exp.kind,Exp.n,Exp.pos,Exp.type,Exp.sym,Exp.name,Exp.args]);(with_reducible repeat' (first|intro h|refine jO oT ?_ | refine exP oT ?_ | apply jO)))
    all_goals try exact oF)
  refine callS.eq hq ?_
  ((try refine qI ?_);(repeat ((first|with_reducible refine qU ?_ | simp only[ZU]);try simp (maxSteps:=9^7) only[↓ S2,S2,Y4,↓reduceIte,reduceNe,reduceEqDiff,reduceCtorEq,reduceLeDiff,reduceAdd,reduceLT,ZP,e6,e7,e8,Exp.kind,Exp.n,Exp.pos,Exp.type,Exp.sym,Exp.name,Exp.args]));(try simp +contextual (disch:=omega) only[Z2,ZP,e6,e7,e8,Exp.kind,Exp.n,Exp.pos,Exp.type,Exp.sym,Exp.name,Exp.args]);(with_reducible repeat' (first|intro h|refine jO oT ?_ | refine exP oT ?_ | apply jO)))
  all_goals try exact oF
  iterate 2
   (refine callS.eq (w48 _ oT) ?_
    ((try refine qI ?_);(repeat ((first|with_reducible refine qU ?_ | simp only[ZU]);try simp (maxSteps:=9^7) only[↓ S2,S2,Y4,↓reduceIte,reduceNe,reduceEqDiff,reduceCtorEq,reduceLeDiff,reduceAdd,reduceLT,ZP,e6,e7,e8,Exp.kind,Exp.n,Exp.pos,Exp.type,Exp.sym,Exp.name,Exp.args]));(try simp +contextual (disch:=omega) only[Z2,ZP,e6,e7,e8,Exp.kind,Exp.n,Exp.pos,Exp.type,Exp.sym,Exp.name,Exp.args]);(with_reducible repeat' (first|intro h|refine jO oT ?_ | refine exP oT ?_ | apply jO)))
    all_goals try exact oF)
  refine callS.eq hq2 ?_
  ((try refine qI ?_);(repeat ((first|with_reducible refine qU ?_ | simp only[ZU]);try simp (maxSteps:=9^7) only[↓ S2,S2,Y4,↓reduceIte,reduceNe,reduceEqDiff,reduceCtorEq,reduceLeDiff,reduceAdd,reduceLT,ZP]));(try simp +contextual (disch:=omega) only[Z2,ZP]);(with_reducible repeat' (first|intro h|refine jO oT ?_ | refine exP oT ?_ | apply jO)))
  all_goals try exact oF
  exact nx ⟨i+1,oT⟩ (by simp;omega) (by simp[E2];omega) rfl
 ·((try refine qI ?_);(repeat ((first|with_reducible refine qU ?_ | simp only[ZU]);try simp (maxSteps:=9^7) only[↓ S2,S2,Y4,↓reduceIte,reduceNe,reduceEqDiff,reduceCtorEq,reduceLeDiff,reduceAdd,reduceLT,ZP]));(try simp +contextual (disch:=omega) only[Z2,ZP]);(with_reducible repeat' (first|intro h|refine jO oT ?_ | refine exP oT ?_ | apply jO)))
  rw[tL oT]
theorem w53 (k:Int) (l:List Att) (hk:0≤k) (hb:k+smw wA l<9223372036854775807) :
 Pu 53 [AtS (smk wA mkA l k),I k] (· = I (k+smw wA l)):=by
 have e4:=X4 wA (fun _ => by simp[wA]) l
 have sl:(smk wA mkA l k).length = l.length:=ZP _ _ _ _
 refine Z8 mxd i53 rfl (by simp) ?_;refine X0 ?_
 refine Zu mxd (ι:={ i:Nat // i≤l.length }) (fun i=>[(0,AtS (smk wA mkA l k)),(1,I (k+smw wA (l.take i.1))),(5,I i.1)]) (fun i=>[]) (fun i=>l.length-i.1) ⟨0,oT⟩ (by simp[E2,smw]) rfl ?_
 rintro ⟨i,hi⟩
 rcases nL i l.length with h|h
 ·have e1:smw wA (l.take (i+1))=smw wA (l.take i)+4:=Yk wA h
  have e2:=Yj wA l (i+1)
  have hl:i<(smk wA mkA l k).length := by rw[ZP];exact h
  have e6:(smk wA mkA l k)[i]=⟨Yn (k+smw wA (l.take i)),k+smw wA (l.take i)+1,k+smw wA (l.take i)+1+1,decide ((k+smw wA (l.take i)+1+1+1).tmod 3=0)⟩:=smk_getE wA mkA h hl
  (refine R1 (jO sl e6) ?_;with_reducible repeat' first|intro h|apply jO)
  all_goals try exact oF
  refine callS.eq (w48 _ oT) ?_
  (refine R1 (jO sl e6) ?_)
  all_goals try exact oF
  exact nx ⟨i+1,oT⟩ (by simp;omega) (by simp[E2];omega) rfl
 ·(refine R1 sl ?_;with_reducible repeat' intro h)
  rw[tL oT]
theorem w24 (k:Int) (l:List Sym) (hk:0≤k) (hb:k+smw Zb l<9223372036854775807) :
 Pu 24 [SyS (smk Zb mkSym l k),I k] (· = I (k+smw Zb l)):=by
 have e4:=X4 Zb (fun x=>by show 1≤1 + _;omega) l
 have sl:(smk Zb mkSym l k).length = l.length:=ZP _ _ _ _
 refine Z8 mxd i24 rfl (by simp) ?_;refine X0 ?_
 refine Zu mxd (ι:={ i:Nat // i≤l.length }) (fun i=>[(0,SyS (smk Zb mkSym l k)),(1,I (k+smw Zb (l.take i.1))),(5,I i.1)]) (fun i=>[]) (fun i=>l.length-i.1) ⟨0,oT⟩ (by simp[E2,smw]) rfl ?_
 rintro ⟨i,hi⟩
 rcases nL i l.length with h|h
 ·have e1:smw Zb (l.take (i+1))=smw Zb (l.take i)+(1+smw wA l[i].atts):=Yk Zb h
  have e2:=Yj Zb l (i+1)
  have hl:i<(smk Zb mkSym l k).length := by rw[ZP];exact h
  have e6:(smk Zb mkSym l k)[i]=⟨Yn (k+smw Zb (l.take i)),smk wA mkA l[i].atts (k+smw Zb (l.take i)+1)⟩:=smk_getE Zb mkSym h hl
  have hq:=w53 (k+smw Zb (l.take i)+1) l[i].atts oT oT
  have n1:(k+(smw Zb (l.take i):Int)+1+smw wA l[i].atts < 0)=False:=eq_false oT
  generalize l[i].atts = a at *
  (refine R1 (jO sl e6) ?_;with_reducible repeat' first|intro h|apply jO)
  all_goals try exact oF
  refine callS.eq (w48 _ oT) ?_
  (refine R1 (jO sl e6) ?_)
  all_goals try exact oF
  refine callS.eq hq ?_
  (refine R1 (jO sl n1) ?_)
  all_goals try exact oF
  exact nx ⟨i+1,oT⟩ (by simp;omega) (by simp[E2];omega) rfl
 ·(refine R1 sl ?_;with_reducible repeat' intro h)
  rw[tL oT]
theorem w25 (k:Int) (l:List Rul) (hk:0≤k) (hb:k+smw wR l<9223372036854775807) :
 Pu 25 [RuS (smk wR mkR l k),I k] (· = I (k+smw wR l)):=by
 have e4:=X4 wR (fun x=>by show 1≤3 + _ + _ + _;omega) l
 have sl:(smk wR mkR l k).length = l.length:=ZP _ _ _ _
 refine Z8 mxd i25 rfl (by simp) ?_;refine X0 ?_
 refine Zu mxd (ι:={ i:Nat // i≤l.length }) (fun i=>[(0,RuS (smk wR mkR l k)),(1,I (k+smw wR (l.take i.1))),(5,I i.1)]) (fun i=>[]) (fun i=>l.length-i.1) ⟨0,oT⟩ (by simp[E2,smw]) rfl ?_
 rintro ⟨i,hi⟩
 rcases nL i l.length with h|h
 ·have e1:smw wR (l.take (i+1))=smw wR (l.take i)+(3+smw wS l[i].right + smw wQ l[i].eqs + smw wC l[i].cons):=Yk wR h
  have e2:=Yj wR l (i+1)
  have hl:i<(smk wR mkR l k).length := by rw[ZP];exact h
  have e6:(smk wR mkR l k)[i]=mkR l[i] (k+smw wR (l.take i)):=smk_getE wR mkR h hl
  have hc:mkR l[i] (k+smw wR (l.take i))=⟨Yn (k+smw wR (l.take i)),Yn (k+smw wR (l.take i)+1),smk wS mkTx l[i].right (k+smw wR (l.take i)+1+1),decide ((k+smw wR (l.take i)+1+1+smw wS l[i].right).tmod 3=0),smk wQ mkQ l[i].eqs (k+smw wR (l.take i)+1+1+smw wS l[i].right + 1),smk wC mkC l[i].cons (k+smw wR (l.take i)+1+1+smw wS l[i].right + 1+smw wQ l[i].eqs)⟩:=rfl
  rw[hc] at e6
  clear hc
  have q1:=w54 (k+smw wR (l.take i)+1+1) l[i].right oT oT
  have q2:=w55 (k+smw wR (l.take i)+1+1+smw wS l[i].right + 1) l[i].eqs oT oT
  have q3:=w56 (k+smw wR (l.take i)+1+1+smw wS l[i].right + 1+smw wQ l[i].eqs) l[i].cons oT oT
  have n1:(k+(smw wR (l.take i):Int)+1+1+smw wS l[i].right < 0)=False:=eq_false oT
  have n2:(k+(smw wR (l.take i):Int)+1+1+smw wS l[i].right + 1+smw wQ l[i].eqs < 0)=False:=eq_false oT
  have n3:(k+(smw wR (l.take i):Int)+1+1+smw wS l[i].right + 1+smw wQ l[i].eqs + smw wC l[i].cons < 0)=False:=eq_false oT
  generalize smw wS l[i].right = u1 at *
  generalize smw wQ l[i].eqs = u2 at *
  generalize smw wC l[i].cons = u3 at *
  (refine R1 (jO sl e6) ?_;with_reducible repeat' first|intro h|apply jO)
  all_goals try exact oF
  iterate 2
   (refine callS.eq (w48 _ oT) ?_
    (refine R1 (jO sl e6) ?_)
    all_goals try exact oF)
  refine callS.eq q1 ?_
  (refine R1 (jO sl (jO e6 n1)) ?_)
  all_goals try exact oF
  refine callS.eq q2 ?_
  (refine R1 (jO sl (jO e6 n2)) ?_)
  all_goals try exact oF
  refine callS.eq q3 ?_
  (refine R1 (jO sl n3) ?_)
  all_goals try exact oF
  exact nx ⟨i+1,oT⟩ (by simp;omega) (by simp[E2];omega) rfl
 ·(refine R1 sl ?_;with_reducible repeat' intro h)
  rw[tL oT]
theorem w8 (k:Int) (x:Gram) (hk:0≤k) (hb:k+smw Zb x.syms+smw wR x.rules<9223372036854775807) :
 Pu 8 [Gr ⟨smk Zb mkSym x.syms k,smk wR mkR x.rules (k+smw Zb x.syms)⟩,I k] (· = I (k+smw Zb x.syms+smw wR x.rules)):=by
 have n1:(k+(smw Zb x.syms:Int)<0)=False:=eq_false oT
 have n2:(k+(smw Zb x.syms:Int)+smw wR x.rules<0)=False:=eq_false oT
 refine Z8 mxd i8 rfl (by simp) ?_;refine X0 ?_
 (refine V0 ?_)
 refine callS.eq (w24 k x.syms hk oT) ?_
 (refine V1 n1 ?_)
 refine callS.eq (w25 _ x.rules oT oT) ?_
 (refine V1 n2 ?_;with_reducible repeat' exact trivial)
end Go.Proofs.YtmdfoigdflaliabGreatDoor
namespace Go.Proofs.YtmdfoigdflaliabGreatDoor
open Go.Gh
open Nat (reduceEqDiff reduceLeDiff reduceAdd reduceLT)
open Int (reduceNe)
open Go.Shelf Go.RowKit Go.Lib Go.Sort
theorem w38 (l:List ByteArray) (x:ByteArray):Pu 38 [TS l,T x] (· = I (ixB l x)):=by
 unfold ixB
 refine GCalls.lenA fun hl=> ?_
 have hlen:=hl.1.1
 simp only[List.length_map,Y1] at hlen
 refine Z8 mxd i38 rfl (by simp) ?_;refine X0 ?_
 refine Zu mxd (ι:={ i:Nat // i≤l.length∧∀y∈l.take i,decide (y=x)=false }) (fun i=>[(0,TS l),(1,T x),(7,I l.length),(8,I i.1)]) (fun _ => []) (fun i=>l.length-i.1) ⟨0,by simp⟩ (by simp[E2]) rfl ?_
 rintro ⟨i,hi,hn⟩
 (refine R0 ?_;with_reducible repeat' first|intro h|apply jO)
 ·subst h
  rw[ixOf_hit (p:=fun y=>decide (y=l[i])) (by assumption) (by simp) hn]
 ·exact nx ⟨i+1,oT,take_step (by assumption) (by simpa[eq_comm] using h) hn⟩ (by simp;omega) (by simp[E2]) rfl
 ·have:i=l.length:=by omega
  subst this
  rw[tL (Nat.le_refl _)] at hn
  rw[ixOf_none hn]
theorem w57 (l:List ByteArray) (x:ByteArray):Pu 57 [TS l,T x] (· = I (ixB l x)):=by
 unfold ixB
 refine GCalls.lenA fun hl=> ?_
 have hlen:=hl.1.1
 simp only[List.length_map,Y1] at hlen
 refine Z8 mxd i57 rfl (by simp) ?_;refine X0 ?_
 refine Zu mxd (ι:={ i:Nat // i≤l.length∧∀y∈l.take i,decide (y=x)=false }) (fun i=>[(0,TS l),(1,T x),(5,I i.1)]) (fun _ => []) (fun i=>l.length-i.1) ⟨0,by simp⟩ (by simp[E2]) rfl ?_
 rintro ⟨i,hi,hn⟩
 (refine R0 ?_;with_reducible repeat' first|intro h|apply jO)
 ·subst h
  rw[ixOf_hit (p:=fun y=>decide (y=l[i])) (by assumption) (by simp) hn]
 ·exact nx ⟨i+1,oT,take_step (by assumption) (by simpa[eq_comm] using h) hn⟩ (by simp;omega) (by simp[E2]) rfl
 ·have:i=l.length:=by omega
  subst this
  rw[tL (Nat.le_refl _)] at hn
  rw[ixOf_none hn]
theorem w14 (s:ByteArray) (c:UInt8) (hs:(Z9 s).length ≤ 1048576):Pu 14 [T s,T ⟨#[c]⟩] (· = .tup [T (bA (if (Z9 s).getLast? = some c then (Z9 s).dropLast else Z9 s)),B (decide ((Z9 s).getLast? = some c))]):=by
 have eg:∀args w,(callFunc 14 args).run Tryz.prog w = .ok (.enter 14 args) w:=enters_of Tryz.func14 (by kernel_rfl) rfl
 refine lib_ok (T:=[]) (fun w D vs hm hn hml=> ?_) (by simp) eg
 obtain rfl:=ml2 hml
 refine (Any.strings_CutSuffix Tryz.ctsL s ⟨#[c]⟩ w (by rw[ZD];omega)).mono ?_
 rintro e w' ⟨rfl,rfl⟩
 have h:=suf_one (Z9 s) c
 have h1:Lib.hasSuffix s.data.toList (⟨#[c]⟩:ByteArray).data.toList = decide ((Z9 s).getLast? = some c):=h.1
 have h2:Lib.trimSuffix s.data.toList (⟨#[c]⟩:ByteArray).data.toList = if (Z9 s).getLast? = some c then (Z9 s).dropLast else Z9 s:=h.2
 rw[h1,h2]
 exact ⟨_,_,rfl,rfl,fun D'=>MV.tup2 _ _,Below.refl _ _⟩
end Go.Proofs.YtmdfoigdflaliabGreatDoor
