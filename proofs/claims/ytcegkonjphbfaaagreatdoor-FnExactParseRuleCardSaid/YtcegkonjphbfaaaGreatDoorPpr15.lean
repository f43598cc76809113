/- The tied card of the law holds. No condition. -/
import Derived.Test.YtcegkonjphbfaaaGreatDoorPpr14
set_option maxHeartbeats 40000000
set_option maxRecDepth 20000
set_option linter.unusedSimpArgs false
set_option linter.unusedVariables false
namespace Go.Proofs.YtcegkonjphbfaaaGreatDoor
open Go.Gh
open Nat (reduceEqDiff reduceLeDiff reduceAdd reduceLT)
open Int (reduceNe)
theorem w56 (k:Int) (l:List ByteArray) (hk:0≤k) (hb:k+smw wS l<9223372036854775807) :
 Pu 56 [TS (smk wS mkTx l k),I k] (· = I (k+smw wS l)):=by
 have e4:=smw_wS l
 refine Z8 mxd i56 rfl (by simp) ?_;refine X0 ?_
 refine Zk mxd (ι:={ i:Nat // i≤l.length }) (fun i=>[(0,TS (smk wS mkTx l k)),(1,I (k+smw wS (l.take i.1))),(5,I i.1)]) (fun i=>[]) (fun i=>l.length-i.1) ⟨0,by omega⟩ (by simp[E2,smw]) rfl ?_
 rintro ⟨i,hi⟩
 rcases nL i l.length with h|h
 ·have e1:smw wS (l.take (i+1))=smw wS (l.take i)+1:=smw_step wS h
  have e2:=smw_take wS l (i+1)
  have hl:i<(smk wS mkTx l k).length := by rw[ZH];exact h
  have e6:(smk wS mkTx l k)[i]=mkTx l[i] (k+smw wS (l.take i)):=smk_getE wS mkTx h hl
  ((try refine qI ?_);(repeat ((first|with_reducible refine qU ?_ | simp only[Zj]);try simp (maxSteps:=9^7) only[↓ S2,S2,Y8,↓reduceIte,reduceNe,reduceEqDiff,reduceCtorEq,reduceLeDiff,reduceAdd,reduceLT,ZH,e6,mkTx]));(try simp +contextual (disch:=omega) only[Z2,ZH,e6,mkTx]);(with_reducible repeat' (first|intro h|refine And.intro (by omega) ?_ | refine exP (by omega) ?_ | apply And.intro)))
  all_goals try exact oF
  refine callS.eq (w53 _ (by omega)) ?_
  ((try refine qI ?_);(repeat ((first|with_reducible refine qU ?_ | simp only[Zj]);try simp (maxSteps:=9^7) only[↓ S2,S2,Y8,↓reduceIte,reduceNe,reduceEqDiff,reduceCtorEq,reduceLeDiff,reduceAdd,reduceLT,ZH,e6,mkTx]));(try simp +contextual (disch:=omega) only[Z2,ZH,e6,mkTx]);(with_reducible repeat' (first|intro h|refine And.intro (by omega) ?_ | refine exP (by omega) ?_ | apply And.intro)))
  all_goals try exact oF
  exact nx ⟨i+1,by omega⟩ (by simp;omega) (by simp[E2];omega) rfl
 ·((try refine qI ?_);(repeat ((first|with_reducible refine qU ?_ | simp only[Zj]);try simp (maxSteps:=9^7) only[↓ S2,S2,Y8,↓reduceIte,reduceNe,reduceEqDiff,reduceCtorEq,reduceLeDiff,reduceAdd,reduceLT,ZH]));(try simp +contextual (disch:=omega) only[Z2,ZH]);(with_reducible repeat' (first|intro h|refine And.intro (by omega) ?_ | refine exP (by omega) ?_ | apply And.intro)))
  rw[tL (by omega)]
theorem w57 (k:Int) (l:List Eqn) (hk:0≤k) (hb:k+smw wQ l<9223372036854775807) :
 Pu 57 [QnS (smk wQ mkQ l k),I k] (· = I (k+smw wQ l)):=by
 have e4:=smw_len wQ (fun x=>by show 1≤2 + _;omega) l
 refine Z8 mxd i57 rfl (by simp) ?_;refine X0 ?_
 refine Zk mxd (ι:={ i:Nat // i≤l.length }) (fun i=>[(0,QnS (smk wQ mkQ l k)),(1,I (k+smw wQ (l.take i.1))),(5,I i.1)]) (fun i=>[]) (fun i=>l.length-i.1) ⟨0,by omega⟩ (by simp[E2,smw]) rfl ?_
 rintro ⟨i,hi⟩
 rcases nL i l.length with h|h
 ·have e0:=ctE_eq l[i].expr
  have e1:smw wQ (l.take (i+1))=smw wQ (l.take i)+(2+ctE l[i].expr):=smw_step wQ h
  have e2:=smw_take wQ l (i+1)
  have hl:i<(smk wQ mkQ l k).length := by rw[ZH];exact h
  have e6:(smk wQ mkQ l k)[i]=mkQ l[i] (k+smw wQ (l.take i)):=smk_getE wQ mkQ h hl
  have e7:=mkE_eq l[i].expr (k+smw wQ (l.take i)+1+1)
  have hq:=wa95 l[i].expr (k+smw wQ (l.take i)+1+1+1+1+1+1+1+1) (by omega) (by omega)
  generalize l[i].expr.args = a at *
  generalize hM:mkE l[i].expr (k+smw wQ (l.take i)+1+1)=M at *
  ((try refine qI ?_);(repeat ((first|with_reducible refine qU ?_ | simp only[Zj]);try simp (maxSteps:=9^7) only[↓ S2,S2,Y8,↓reduceIte,reduceNe,reduceEqDiff,reduceCtorEq,reduceLeDiff,reduceAdd,reduceLT,ZH,e6,mkQ,hM,e7,Exp.kind,Exp.n,Exp.pos,Exp.type,Exp.sym,Exp.name,Exp.args]));(try simp +contextual (disch:=omega) only[Z2,ZH,e6,mkQ,hM,e7,Exp.kind,Exp.n,Exp.pos,Exp.type,Exp.sym,Exp.name,Exp.args]);(with_reducible repeat' (first|intro h|refine And.intro (by omega) ?_ | refine exP (by omega) ?_ | apply And.intro)))
  all_goals try exact oF
  iterate 3
   (refine callS.eq (w53 _ (by omega)) ?_
    ((try refine qI ?_);(repeat ((first|with_reducible refine qU ?_ | simp only[Zj]);try simp (maxSteps:=9^7) only[↓ S2,S2,Y8,↓reduceIte,reduceNe,reduceEqDiff,reduceCtorEq,reduceLeDiff,reduceAdd,reduceLT,ZH,e6,mkQ,hM,e7,Exp.kind,Exp.n,Exp.pos,Exp.type,Exp.sym,Exp.name,Exp.args]));(try simp +contextual (disch:=omega) only[Z2,ZH,e6,mkQ,hM,e7,Exp.kind,Exp.n,Exp.pos,Exp.type,Exp.sym,Exp.name,Exp.args]);(with_reducible repeat' (first|intro h|refine And.intro (by omega) ?_ | refine exP (by omega) ?_ | apply And.intro)))
    all_goals try exact oF)
  refine callS.eq hq ?_
  ((try refine qI ?_);(repeat ((first|with_reducible refine qU ?_ | simp only[Zj]);try simp (maxSteps:=9^7) only[↓ S2,S2,Y8,↓reduceIte,reduceNe,reduceEqDiff,reduceCtorEq,reduceLeDiff,reduceAdd,reduceLT,ZH]));(try simp +contextual (disch:=omega) only[Z2,ZH]);(with_reducible repeat' (first|intro h|refine And.intro (by omega) ?_ | refine exP (by omega) ?_ | apply And.intro)))
  all_goals try exact oF
  exact nx ⟨i+1,by omega⟩ (by simp;omega) (by simp[E2];omega) rfl
 ·((try refine qI ?_);(repeat ((first|with_reducible refine qU ?_ | simp only[Zj]);try simp (maxSteps:=9^7) only[↓ S2,S2,Y8,↓reduceIte,reduceNe,reduceEqDiff,reduceCtorEq,reduceLeDiff,reduceAdd,reduceLT,ZH]));(try simp +contextual (disch:=omega) only[Z2,ZH]);(with_reducible repeat' (first|intro h|refine And.intro (by omega) ?_ | refine exP (by omega) ?_ | apply And.intro)))
  rw[tL (by omega)]
theorem w58 (k:Int) (l:List Con) (hk:0≤k) (hb:k+smw wC l<9223372036854775807) :
 Pu 58 [CoS (smk wC mkC l k),I k] (· = I (k+smw wC l)):=by
 have e4:=smw_len wC (fun x=>by show 1≤2 + _ + _;omega) l
 refine Z8 mxd i58 rfl (by simp) ?_;refine X0 ?_
 refine Zk mxd (ι:={ i:Nat // i≤l.length }) (fun i=>[(0,CoS (smk wC mkC l k)),(1,I (k+smw wC (l.take i.1))),(5,I i.1)]) (fun i=>[]) (fun i=>l.length-i.1) ⟨0,by omega⟩ (by simp[E2,smw]) rfl ?_
 rintro ⟨i,hi⟩
 rcases nL i l.length with h|h
 ·have e0:=ctE_eq l[i].goal
  have e00:=ctE_eq l[i].value
  have e1:smw wC (l.take (i+1))=smw wC (l.take i)+(2+ctE l[i].goal + ctE l[i].value):=smw_step wC h
  have e2:=smw_take wC l (i+1)
  have hl:i<(smk wC mkC l k).length := by rw[ZH];exact h
  have e6:(smk wC mkC l k)[i]=mkC l[i] (k+smw wC (l.take i)):=smk_getE wC mkC h hl
  have e7:=mkE_eq l[i].goal (k+smw wC (l.take i)+1+1)
  have e8:=mkE_eq l[i].value (k+smw wC (l.take i)+1+1+1+1+1+1+1+1+smw ctE l[i].goal.args)
  have hq:=wa95 l[i].goal (k+smw wC (l.take i)+1+1+1+1+1+1+1+1) (by omega) (by omega)
  have hq2:=wa95 l[i].value (k+smw wC (l.take i)+1+1+1+1+1+1+1+1+smw ctE l[i].goal.args + 1+1+1+1+1+1) (by omega) (by omega)
  have hc:mkC l[i] (k+smw wC (l.take i))=⟨mtext (k+smw wC (l.take i)),mtext (k+smw wC (l.take i)+1),mkE l[i].goal (k+smw wC (l.take i)+1+1),mkE l[i].value (k+smw wC (l.take i)+1+1+1+1+1+1+1+1+smw ctE l[i].goal.args)⟩:=rfl
  rw[hc] at e6
  clear hc
  generalize l[i].goal.args = a at *
  generalize l[i].value.args = b at *
  generalize hM:mkE l[i].goal (k+smw wC (l.take i)+1+1)=M at *
  generalize hN:mkE l[i].value (k+smw wC (l.take i)+1+1+1+1+1+1+1+1+smw ctE a)=N at *
  ((try refine qI ?_);(repeat ((first|with_reducible refine qU ?_ | simp only[Zj]);try simp (maxSteps:=9^7) only[↓ S2,S2,Y8,↓reduceIte,reduceNe,reduceEqDiff,reduceCtorEq,reduceLeDiff,reduceAdd,reduceLT,ZH,e6,e7,e8,Exp.kind,Exp.n,Exp.pos,Exp.type,Exp.sym,Exp.name,Exp.args]));(try simp +contextual (disch:=omega) only[Z2,ZH,e6,e7,e8,Exp.kind,Exp.n,Exp.pos,Exp.type,Exp.sym,Exp.name,Exp.args]);(with_reducible repeat' (first|intro h|refine And.intro (by omega) ?_ | refine exP (by omega) ?_ | apply And.intro)))
  all_goals try exact oF
  iterate 4
   (refine callS.eq (w53 _ (by omega)) ?_
    ((try refine qI ?_);(repeat ((first|with_reducible refine qU ?_ | simp only[Zj]);try simp (maxSteps:=9^7) only[↓ S2,S2,Y8,↓reduceIte,reduceNe,reduceEqDiff,reduceCtorEq,reduceLeDiff,reduceAdd,reduceLT,ZH,e6,e7,e8,Exp.kind,Exp.n,Exp.pos,Exp.type,Exp.sym,Exp.name,Exp.args]));(try simp +contextual (disch:=omega) only[Z2,ZH,e6,e7,e8,Exp.kind,Exp.n,Exp.pos,Exp.type,Exp.sym,Exp.name,Exp.args]);(with_reducible repeat' (first|intro h|refine And.intro (by omega) ?_ | refine exP (by omega) ?_ | apply And.intro)))
    all_goals try exact oF)
  refine callS.eq hq ?_
  ((try refine qI ?_);(repeat ((first|with_reducible refine qU ?_ | simp only[Zj]);try simp (maxSteps:=9^7) only[↓ S2,S2,Y8,↓reduceIte,reduceNe,reduceEqDiff,reduceCtorEq,reduceLeDiff,reduceAdd,reduceLT,ZH,e6,e7,e8,Exp.kind,Exp.n,Exp.pos,Exp.type,Exp.sym,Exp.name,Exp.args]));(try simp +contextual (disch:=omega) only[Z2,ZH,e6,e7,e8,Exp.kind,Exp.n,Exp.pos,Exp.type,Exp.sym,Exp.name,Exp.args]);(with_reducible repeat' (first|intro h|refine And.intro (by omega) ?_ | refine exP (by omega) ?_ | apply And.intro)))
  all_goals try exact oF
  iterate 2
   (refine callS.eq (w53 _ (by omega)) ?_
    ((try refine qI ?_);(repeat ((first|with_reducible refine qU ?_ | simp only[Zj]);try simp (maxSteps:=9^7) only[↓ S2,S2,Y8,↓reduceIte,reduceNe,reduceEqDiff,reduceCtorEq,reduceLeDiff,reduceAdd,reduceLT,ZH,e6,e7,e8,Exp.kind,Exp.n,Exp.pos,Exp.type,Exp.sym,Exp.name,Exp.args]));(try simp +contextual (disch:=omega) only[Z2,ZH,e6,e7,e8,Exp.kind,Exp.n,Exp.pos,Exp.type,Exp.sym,Exp.name,Exp.args]);(with_reducible repeat' (first|intro h|refine And.intro (by omega) ?_ | refine exP (by omega) ?_ | apply And.intro)))
    all_goals try exact oF)
  refine callS.eq hq2 ?_
  ((try refine qI ?_);(repeat ((first|with_reducible refine qU ?_ | simp only[Zj]);try simp (maxSteps:=9^7) only[↓ S2,S2,Y8,↓reduceIte,reduceNe,reduceEqDiff,reduceCtorEq,reduceLeDiff,reduceAdd,reduceLT,ZH]));(try simp +contextual (disch:=omega) only[Z2,ZH]);(with_reducible repeat' (first|intro h|refine And.intro (by omega) ?_ | refine exP (by omega) ?_ | apply And.intro)))
  all_goals try exact oF
  exact nx ⟨i+1,by omega⟩ (by simp;omega) (by simp[E2];omega) rfl
 ·((try refine qI ?_);(repeat ((first|with_reducible refine qU ?_ | simp only[Zj]);try simp (maxSteps:=9^7) only[↓ S2,S2,Y8,↓reduceIte,reduceNe,reduceEqDiff,reduceCtorEq,reduceLeDiff,reduceAdd,reduceLT,ZH]));(try simp +contextual (disch:=omega) only[Z2,ZH]);(with_reducible repeat' (first|intro h|refine And.intro (by omega) ?_ | refine exP (by omega) ?_ | apply And.intro)))
  rw[tL (by omega)]
theorem w20 (q1 q2 q3:Nat) (k:Int) (x:Rul) (H:GH) (n12:¬q1=q2) (n13:¬q1=q3) (n23:¬q2=q3) (h1:Z6 H q1=some (1,x.right.map T)) (h2:Z6 H q2=some (9,x.eqs.map QnO)) (h3:Z6 H q3=some (16,x.cons.map CoO)) (hk:0≤k) (hb:k+smw wS x.right+smw wQ x.eqs+smw wC x.cons<9223372036854775807) :
 Gc 20 [.agg [T x.name,T x.left,.own q1 1 0 x.right.length,B x.lit,.own q2 9 0 x.eqs.length,.own q3 16 0 x.cons.length],I k] H (fun g H'=>g=I (k+smw wS x.right+smw wQ x.eqs+smw wC x.cons)∧H'=Z1 (Z1 (Z1 H q1 ((smk wS mkTx x.right k).map T)) q2 ((smk wQ mkQ x.eqs (k+smw wS x.right)).map QnO)) q3 ((smk wC mkC x.cons (k+smw wS x.right+smw wQ x.eqs)).map CoO)):=by
 refine Z8 mxd i20 rfl (by simp) ?_;refine X0 ?_
 (refine V0 ?_)
 refine callS.of (w19 q1 _ k x.right _ h1 rfl hk (by omega)) ?_
 rintro g H' ⟨rfl,rfl⟩ -
 (refine V0 ?_)
 refine callS.of (w54 q2 _ _ x.eqs _ (by rw[hget_set_ne n12];exact h2) rfl (by omega) (by omega)) ?_
 rintro g H' ⟨rfl,rfl⟩ -
 (refine V0 ?_)
 refine callS.of (w55 q3 _ _ x.cons _ (by rw[hget_set_ne n23,hget_set_ne n13];exact h3) rfl (by omega) (by omega)) ?_
 rintro g H' ⟨rfl,rfl⟩ -
 (refine V0 ?_;with_reducible repeat' exact trivial)
theorem w21 (k:Int) (x:Rul) (hk:0≤k) (hb:k+smw wS x.right+smw wQ x.eqs+smw wC x.cons<9223372036854775807) :
 Pu 21 [Ru ⟨x.name,x.left,smk wS mkTx x.right k,x.lit,smk wQ mkQ x.eqs (k+smw wS x.right),smk wC mkC x.cons (k+smw wS x.right+smw wQ x.eqs)⟩,I k] (· = I (k+smw wS x.right+smw wQ x.eqs+smw wC x.cons)):=by
 have n1:¬(k+(smw wS x.right:Int)<0):=by omega
 have n2:¬(k+(smw wS x.right:Int)+smw wQ x.eqs<0):=by omega
 have n3:¬(k+(smw wS x.right:Int)+smw wQ x.eqs+smw wC x.cons<0):=by omega
 refine Z8 mxd i21 rfl (by simp) ?_;refine X0 ?_
 (refine V0 ?_)
 refine callS.eq (w56 k x.right hk (by omega)) ?_
 (refine V1 n1 ?_)
 refine callS.eq (w57 _ x.eqs (by omega) (by omega)) ?_
 (refine V1 n2 ?_)
 refine callS.eq (w58 _ x.cons (by omega) (by omega)) ?_
 (refine V1 n3 ?_;with_reducible repeat' exact trivial)
end Go.Proofs.YtcegkonjphbfaaaGreatDoor
namespace Go.Proofs.YtcegkonjphbfaaaGreatDoor
open Go.Gh
open Nat (reduceEqDiff reduceLeDiff reduceAdd reduceLT)
open Int (reduceNe)
open Go.Lib
theorem p4 (ls:List ByteArray) (hs0:∀x∈ls,x.size≤maxLen):PureT Tryz.prog Tryz.tb 4 [TS ls] (· = B true):=by
 refine (?_ : GCalls _ _ _ _ _)
 refine GCalls.mono (R:=fun g _ => g=B true) ?_ fun _ _ h=>h
 have hz:=w15 ls 1048576 (by omega) (by omega) hs0
 by_cases hw:wtS wT ls≤1048576
 ·rw[szv_pos (by omega)] at hz
  have e0:((1048576:Int)-(wtS wT ls:Nat)<0)=False:=eq_false (by omega)
  obtain ⟨hlen,hls⟩:=wt_sum hw
  have hls':∀l∈ls.map Z9,l.length≤1048576:=fun l hl=>by
   obtain ⟨x,hx,rfl⟩:=List.mem_map.1 hl
   exact hls x hx
  have hsm:=parS_sm (ls:=ls.map Z9) (by rw[List.length_map];exact hlen) hls'
  have hmk:=smR_mk hsm
  have qS:=w11 ls hlen hls
  have qIm:∀H0,(∀x∈Tryz.tb,x∈H0)→Gc 8 [TS ls] H0 (fun g H'=>∃H1,(∃q1 q2 q3,g = .tup [.agg [T ((parS (ls.map Z9)).getD rulZ).name,T ((parS (ls.map Z9)).getD rulZ).left,.own q1 1 0 ((parS (ls.map Z9)).getD rulZ).right.length,B ((parS (ls.map Z9)).getD rulZ).lit,.own q2 9 0 ((parS (ls.map Z9)).getD rulZ).eqs.length,.own q3 16 0 ((parS (ls.map Z9)).getD rulZ).cons.length],B (parS (ls.map Z9)).isSome] ∧
   H1=[(q2,9,((parS (ls.map Z9)).getD rulZ).eqs.map QnO),(q3,16,((parS (ls.map Z9)).getD rulZ).cons.map CoO),(q1,1,((parS (ls.map Z9)).getD rulZ).right.map T)])∧H'=H1++H0):=fun H0 h=>by
   have:=o8 ls hlen hls H0 h
   rw[parI_same] at this
   exact this
  generalize (parS (ls.map Z9)).getD rulZ=R at *
  generalize (parS (ls.map Z9)).isSome = b at *
  have qE:=w17 R R
  rw[decide_eq_true rfl] at qE
  have qT:=w18 ls ls
  rw[decide_eq_true rfl] at qT
  have hws:=smw_wS ls
  refine Z8 mxd i4 rfl (by simp) ?_;simp (maxSteps:=9^7) only[↓ S2,S2,Y8,↓reduceIte,reduceNe,reduceEqDiff,reduceCtorEq,reduceLeDiff,reduceAdd,reduceLT]
  ((try refine qI ?_);(repeat ((first|with_reducible refine qU ?_ | simp only[Zj]);try simp (maxSteps:=9^7) +contextual only[↓ S2,S2,↓reduceIte,reduceNe,reduceEqDiff,reduceCtorEq,reduceLeDiff,reduceAdd,reduceLT,VQ,]));(try simp +contextual (disch:=omega) only[Z2,]);(with_reducible repeat' (first|intro h|refine And.intro (by omega) ?_ | refine exP (by omega) ?_ | apply And.intro)))
  refine callS.eq hz ?_
  ((try refine qI ?_);(repeat ((first|with_reducible refine qU ?_ | simp only[Zj]);try simp (maxSteps:=9^7) +contextual only[↓ S2,S2,↓reduceIte,reduceNe,reduceEqDiff,reduceCtorEq,reduceLeDiff,reduceAdd,reduceLT,VQ,e0]));(try simp +contextual (disch:=omega) only[Z2,e0]);(with_reducible repeat' (first|intro h|refine And.intro (by omega) ?_ | refine exP (by omega) ?_ | apply And.intro)))
  refine callS.eq (w16 ls hlen) ?_
  ((try refine qI ?_);(repeat ((first|with_reducible refine qU ?_ | simp only[Zj]);try simp (maxSteps:=9^7) +contextual only[↓ S2,S2,↓reduceIte,reduceNe,reduceEqDiff,reduceCtorEq,reduceLeDiff,reduceAdd,reduceLT,VQ,]));(try simp +contextual (disch:=omega) only[Z2,]);(with_reducible repeat' (first|intro h|refine And.intro (by omega) ?_ | refine exP (by omega) ?_ | apply And.intro)))
  refine callS.eq qS ?_
  ((try refine qI ?_);(repeat ((first|with_reducible refine qU ?_ | simp only[Zj]);try simp (maxSteps:=9^7) +contextual only[↓ S2,S2,↓reduceIte,reduceNe,reduceEqDiff,reduceCtorEq,reduceLeDiff,reduceAdd,reduceLT,VQ,]));(try simp +contextual (disch:=omega) only[Z2,]);(with_reducible repeat' (first|intro h|refine And.intro (by omega) ?_ | refine exP (by omega) ?_ | apply And.intro)))
  refine callS.of (o16 ls hlen _) ?_
  rintro _ _ ⟨rx,rfl,rfl⟩ hn1
  have h7:=Y3 hn1
  (replace h7:=h7;simp only[VN] at h7)
  ((try refine qI ?_);(repeat ((first|with_reducible refine qU ?_ | simp only[Zj]);try simp (maxSteps:=9^7) +contextual only[↓ S2,S2,↓reduceIte,reduceNe,reduceEqDiff,reduceCtorEq,reduceLeDiff,reduceAdd,reduceLT,VQ,h7]));(try simp +contextual (disch:=omega) only[Z2,h7]);(with_reducible repeat' (first|intro h|refine And.intro (by omega) ?_ | refine exP (by omega) ?_ | apply And.intro)))
  refine callS.lendT qIm Tryz.tbH (fun x hx=>List.mem_cons_of_mem _ hx) (.cons (Bor.seen (f:=T) (fun a=>by simp[view,Y7]) Z0 rfl) .nil) (by rintro v H1 ⟨q1,q2,q3,rfl,rfl⟩;simp[noD,noDL,noDH,noDL_eq,noD_ExO]) ?_
  rintro _ _ ⟨q1,q2,q3,rfl,rfl⟩ hn2
  have h8:=Y3 hn2
  simp only[List.cons_append,List.nil_append] at h8 ⊢
  (replace h8:=h8;simp only[VN] at h8)
  have hb:∀Z:GH,Bor ((q2,9,R.eqs.map QnO)::(q3,16,R.cons.map CoO)::(q1,1,R.right.map T)::Z) (.agg [T R.name,T R.left,.own q1 1 0 R.right.length,B R.lit,.own q2 9 0 R.eqs.length,.own q3 16 0 R.cons.length]) (Ru R):=fun Z=>
   bor_RuO (by simp only[Zd,h8,if_true,if_false]) Z0 (by simp only[Zd,h8,if_true,if_false])
  ((try refine qI ?_);(repeat ((first|with_reducible refine qU ?_ | simp only[Zj]);try simp (maxSteps:=9^7) +contextual only[↓ S2,S2,↓reduceIte,reduceNe,reduceEqDiff,reduceCtorEq,reduceLeDiff,reduceAdd,reduceLT,VQ,h7,h8]));(try simp +contextual (disch:=omega) only[Z2,h7,h8]);(with_reducible repeat' (first|intro h|refine And.intro (by omega) ?_ | refine exP (by omega) ?_ | apply And.intro)))
  refine callS.borA qE (.cons (hb _) (.cons .refl .nil)) rfl ?_
  ((try refine qI ?_);(repeat ((first|with_reducible refine qU ?_ | simp only[Zj]);try simp (maxSteps:=9^7) +contextual only[↓ S2,S2,↓reduceIte,reduceNe,reduceEqDiff,reduceCtorEq,reduceLeDiff,reduceAdd,reduceLT,VQ,h7,h8]));(try simp +contextual (disch:=omega) only[Z2,h7,h8]);(with_reducible repeat' (first|intro h|refine And.intro (by omega) ?_ | refine exP (by omega) ?_ | apply And.intro)))
  refine callS.eq (w16 ls hlen) ?_
  ((try refine qI ?_);(repeat ((first|with_reducible refine qU ?_ | simp only[Zj]);try simp (maxSteps:=9^7) +contextual only[↓ S2,S2,↓reduceIte,reduceNe,reduceEqDiff,reduceCtorEq,reduceLeDiff,reduceAdd,reduceLT,VQ,h7,h8]));(try simp +contextual (disch:=omega) only[Z2,h7,h8]);(with_reducible repeat' (first|intro h|refine And.intro (by omega) ?_ | refine exP (by omega) ?_ | apply And.intro)))
  refine callS.borA qT (.cons (Bor.seen (f:=T) (fun a=>by simp[view,Y7]) (by simp only[Zd,h8,if_true,if_false]) rfl) (.cons .refl .nil)) rfl ?_
  ((try refine qI ?_);(repeat ((first|with_reducible refine qU ?_ | simp only[Zj]);try simp (maxSteps:=9^7) +contextual only[↓ S2,S2,↓reduceIte,reduceNe,reduceEqDiff,reduceCtorEq,reduceLeDiff,reduceAdd,reduceLT,VQ,h7,h8]));(try simp +contextual (disch:=omega) only[Z2,h7,h8]);(with_reducible repeat' (first|intro h|refine And.intro (by omega) ?_ | refine exP (by omega) ?_ | apply And.intro)))
  refine callS.of (w19 rx _ 1 ls _ (by simp only[Zd,h8,if_true,if_false]) rfl (by omega) (by omega)) ?_
  rintro _ _ ⟨rfl,rfl⟩ -
  have e3:(1+(smw wS ls:Int)<0)=False:=eq_false (by omega)
  ((try refine qI ?_);(repeat ((first|with_reducible refine qU ?_ | simp only[Zj]);try simp (maxSteps:=9^7) +contextual only[↓ S2,S2,↓reduceIte,reduceNe,reduceEqDiff,reduceCtorEq,reduceLeDiff,reduceAdd,reduceLT,VQ,h7,h8,e3]));(try simp +contextual (disch:=omega) only[Z2,h7,h8,e3]);(with_reducible repeat' (first|intro h|refine And.intro (by omega) ?_ | refine exP (by omega) ?_ | apply And.intro)))
  refine callS.borA qE (.cons (hb _) (.cons .refl .nil)) rfl ?_
  ((try refine qI ?_);(repeat ((first|with_reducible refine qU ?_ | simp only[Zj]);try simp (maxSteps:=9^7) +contextual only[↓ S2,S2,↓reduceIte,reduceNe,reduceEqDiff,reduceCtorEq,reduceLeDiff,reduceAdd,reduceLT,VQ,h7,h8]));(try simp +contextual (disch:=omega) only[Z2,h7,h8]);(with_reducible repeat' (first|intro h|refine And.intro (by omega) ?_ | refine exP (by omega) ?_ | apply And.intro)))
  refine callS.of (w20 q1 q2 q3 1 R _ (by simp only[h8,not_false_eq_true]) (by simp only[h8,not_false_eq_true]) (by simp only[h8,not_false_eq_true]) (by simp only[Zd,h8,if_true,if_false]) Z0 (by simp only[Zd,h8,if_true,if_false]) (by omega) hmk) ?_
  rintro _ _ ⟨rfl,rfl⟩ -
  simp only[hset_c,h8,if_true,if_false]
  have l1:(smk wS mkTx R.right 1).length = R.right.length:=ZH _ _ _ _
  have l2:(smk wQ mkQ R.eqs (1+smw wS R.right)).length = R.eqs.length:=ZH _ _ _ _
  have l3:(smk wC mkC R.cons (1+smw wS R.right+smw wQ R.eqs)).length = R.cons.length:=ZH _ _ _ _
  have qH:=w21 1 R (by omega) hmk
  generalize smk wS mkTx R.right 1=M1 at *
  generalize smk wQ mkQ R.eqs (1+smw wS R.right)=M2 at *
  generalize smk wC mkC R.cons (1+smw wS R.right+smw wQ R.eqs)=M3 at *
  have hm:∀Z:GH,Z6 Z q1=some (1,M1.map T)→Z6 Z q2=some (9,M2.map QnO)→Z6 Z q3=some (16,M3.map CoO)→Bor Z (.agg [T R.name,T R.left,.own q1 1 0 R.right.length,B R.lit,.own q2 9 0 R.eqs.length,.own q3 16 0 R.cons.length]) (Ru ⟨R.name,R.left,M1,R.lit,M2,M3⟩):=fun Z k1 k2 k3=>bor_RuM k1 k2 k3 l1 l2 l3
  generalize hK:(1:Int)+smw wS R.right+smw wQ R.eqs+smw wC R.cons=K at *
  have e4:(K<0)=False:=eq_false (by omega)
  ((try refine qI ?_);(repeat ((first|with_reducible refine qU ?_ | simp only[Zj]);try simp (maxSteps:=9^7) +contextual only[↓ S2,S2,↓reduceIte,reduceNe,reduceEqDiff,reduceCtorEq,reduceLeDiff,reduceAdd,reduceLT,VQ,h7,h8]));(try simp +contextual (disch:=omega) only[Z2,h7,h8]);(with_reducible repeat' (first|intro h|refine And.intro (by omega) ?_ | refine exP (by omega) ?_ | apply And.intro)))
  refine callS.borA qH (.cons (hm _ (by simp only[Zd,h8,if_true,if_false]) Z0 (by simp only[Zd,h8,if_true,if_false])) (.cons .refl .nil)) rfl ?_
  ((try refine qI ?_);(repeat ((first|with_reducible refine qU ?_ | simp only[Zj]);try simp (maxSteps:=9^7) +contextual only[↓ S2,S2,↓reduceIte,reduceNe,reduceEqDiff,reduceCtorEq,reduceLeDiff,reduceAdd,reduceLT,VQ,h7,h8,e4]));(try simp +contextual (disch:=omega) only[Z2,h7,h8,e4]);(with_reducible repeat' (first|intro h|refine And.intro (by omega) ?_ | refine exP (by omega) ?_ | apply And.intro)))
  refine callS.eq (w16 ls hlen) ?_
  ((try refine qI ?_);(repeat ((first|with_reducible refine qU ?_ | simp only[Zj]);try simp (maxSteps:=9^7) +contextual only[↓ S2,S2,↓reduceIte,reduceNe,reduceEqDiff,reduceCtorEq,reduceLeDiff,reduceAdd,reduceLT,VQ,h7,h8]));(try simp +contextual (disch:=omega) only[Z2,h7,h8]);(with_reducible repeat' (first|intro h|refine And.intro (by omega) ?_ | refine exP (by omega) ?_ | apply And.intro)))
  refine callS.of (qIm _ fun x hx=>List.mem_cons_of_mem _ (List.mem_cons_of_mem _ (List.mem_cons_of_mem _ (List.mem_cons_of_mem _ hx)))) ?_
  rintro _ _ ⟨_,⟨p1,p2,p3,rfl,rfl⟩,rfl⟩ hn3
  have h9:=Y3 hn3
  simp only[List.cons_append,List.nil_append] at h9 ⊢
  (replace h9:=h9;simp only[VN] at h9)
  have hb2:∀Z:GH,Bor ((p2,9,R.eqs.map QnO)::(p3,16,R.cons.map CoO)::(p1,1,R.right.map T)::Z) (.agg [T R.name,T R.left,.own p1 1 0 R.right.length,B R.lit,.own p2 9 0 R.eqs.length,.own p3 16 0 R.cons.length]) (Ru R):=fun Z=>
   bor_RuO (by simp only[Zd,h9,if_true,if_false]) Z0 (by simp only[Zd,h9,if_true,if_false])
  ((try refine qI ?_);(repeat ((first|with_reducible refine qU ?_ | simp only[Zj]);try simp (maxSteps:=9^7) +contextual only[↓ S2,S2,↓reduceIte,reduceNe,reduceEqDiff,reduceCtorEq,reduceLeDiff,reduceAdd,reduceLT,VQ,h9]));(try simp +contextual (disch:=omega) only[Z2,h9]);(with_reducible repeat' (first|intro h|refine And.intro (by omega) ?_ | refine exP (by omega) ?_ | apply And.intro)))
  refine callS.borA qE (.cons (hb2 _) (.cons .refl .nil)) rfl ?_
  ((try refine qI ?_);(repeat ((first|with_reducible refine qU ?_ | simp only[Zj]);try simp (maxSteps:=9^7) +contextual only[↓ S2,S2,↓reduceIte,reduceNe,reduceEqDiff,reduceCtorEq,reduceLeDiff,reduceAdd,reduceLT,VQ,h9]));(try simp +contextual (disch:=omega) only[Z2,h9]);(with_reducible repeat' (first|intro h|refine And.intro (by omega) ?_ | refine exP (by omega) ?_ | apply And.intro)))
  refine callS.borA qH (.cons (hm _ (by simp only[Zd,h9,if_true,if_false]) (by simp only[Zd,h9,if_true,if_false]) (by simp only[Zd,h9,if_true,if_false])) (.cons .refl .nil)) rfl ?_
  ((try refine qI ?_);(repeat ((first|with_reducible refine qU ?_ | simp only[Zj]);try simp (maxSteps:=9^7) +contextual only[↓ S2,S2,↓reduceIte,reduceNe,reduceEqDiff,reduceCtorEq,reduceLeDiff,reduceAdd,reduceLT,VQ,h9,e4]));(try simp +contextual (disch:=omega) only[Z2,h9,e4]);(with_reducible repeat' (first|intro h|refine And.intro (by omega) ?_ | refine exP (by omega) ?_ | apply And.intro)))
 ·rw[szv_out (by omega)] at hz
  refine Z8 mxd i4 rfl (by simp) ?_;simp (maxSteps:=9^7) only[↓ S2,S2,Y8,↓reduceIte,reduceNe,reduceEqDiff,reduceCtorEq,reduceLeDiff,reduceAdd,reduceLT]
  ((try refine qI ?_);(repeat ((first|with_reducible refine qU ?_ | simp only[Zj]);try simp (maxSteps:=9^7) +contextual only[↓ S2,S2,↓reduceIte,reduceNe,reduceEqDiff,reduceCtorEq,reduceLeDiff,reduceAdd,reduceLT,VQ,]));(try simp +contextual (disch:=omega) only[Z2,]);(with_reducible repeat' (first|intro h|refine And.intro (by omega) ?_ | refine exP (by omega) ?_ | apply And.intro)))
  have e1:((-1:Int)<0)=True:=eq_true (by omega)
  refine callS.eq hz ?_
  ((try refine qI ?_);(repeat ((first|with_reducible refine qU ?_ | simp only[Zj]);try simp (maxSteps:=9^7) +contextual only[↓ S2,S2,↓reduceIte,reduceNe,reduceEqDiff,reduceCtorEq,reduceLeDiff,reduceAdd,reduceLT,VQ,e1]));(try simp +contextual (disch:=omega) only[Z2,e1]);(with_reducible repeat' (first|intro h|refine And.intro (by omega) ?_ | refine exP (by omega) ?_ | apply And.intro)))
end Go.Proofs.YtcegkonjphbfaaaGreatDoor
