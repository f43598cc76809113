/- The tied card of the law holds. No condition. -/
import Derived.Test.YtmdfoigdflaliaaGreatDoorPtt4
import Derived.Test.YtmdfoigdflaliaaGreatDoorPtt6
set_option maxHeartbeats 40000000
set_option maxRecDepth 20000
set_option linter.unusedSimpArgs false
set_option linter.unusedVariables false
namespace Go.Proofs.YtmdfoigdflaliaaGreatDoor
open Go.Gh
open Nat (reduceEqDiff reduceLeDiff reduceAdd reduceLT)
open Int (reduceNe)
open Go.Lib
theorem w21 (g:Gram) (t:List Nod) (hg:smGr g) (hl:t.length≤1048576) (hkk:∀x∈t,x.kids.length≤1048576) {D:Int} (hD:∀x∈t,((Z6 x.rule).length : Int)+24≤D) (hD2:D≤4194304):∀(f i:Nat) (p q:Int) (s:ByteArray),0≤Zw g t f i p q s →
 Pu 21 [Gr g,Tr t,I i] (· = .val (mkS (Zj g t f i)))
 | 0,i,p,q,s,h=>by simp[Zw] at h
 | f+1,i,p,q,s,h=>by
  obtain ⟨hi,hlit,hk,hlen⟩:=walkE_node hD hD2 hl h
  have ih:=fun (j:Nat) p q s h=>w21 g t hg hl hkk hD hD2 f j p q s h
  have hkn:=hkk _ (gM hi)
  simp only[Zj,YS hi] at hlen ⊢
  generalize hn:t[i]=n at *
  obtain ⟨A,hA⟩:∃A:Nat→List UInt8,∀j,A j=(n.kids.take j).flatMap fun c=>32::Zj g t f c.toNat:=⟨_,fun _ => rfl⟩
  have hA0:A 0=[]:=by rw[hA];rfl
  have hAs:∀j,∀h:j<n.kids.length,A (j+1)=A j++(32::Zj g t f n.kids[j].toNat):=fun j h=>by rw[hA,hA,fm_st _ _ h]
  have hAe:A n.kids.length=n.kids.flatMap fun c=>32::Zj g t f c.toNat:=by rw[hA,List.take_length]
  have hAl:∀j,(A j).length ≤ (n.kids.flatMap fun c=>32::Zj g t f c.toNat).length := fun j=>by rw[hA];exact fm_len _ _ j
  rw[←hAe] at hlen ⊢
  rw[←hAe] at hAl
  simp only[List.length_append,List.length_cons,List.length_nil] at hlen
  have hil:=itoa_len (n:=n.lit) (by omega) (by omega)
  have hsz:n.rule.size=(Z6 n.rule).length := Zo _
  clear hA h
  refine ZN mxd i21 rfl (by simp) ?_;simp (maxSteps:=9^7) only[↓ S2,S2,ZT,↓reduceIte,reduceNe,reduceEqDiff,reduceCtorEq,reduceLeDiff,reduceAdd,reduceLT]
  ((try refine qI ?_);(repeat ((first|with_reducible refine qU ?_ | simp only[Z5]);try simp (maxSteps:=9^7) +contextual only[↓ S2,S2,↓reduceIte,reduceNe,reduceEqDiff,reduceCtorEq,reduceLeDiff,reduceAdd,reduceLT,VQ,hn]));(try simp +contextual (disch:=omega) only[Z2,hn]);(with_reducible repeat' (first|intro h|refine And.intro (by omega) ?_ | refine exP (by omega) ?_ | apply And.intro)))
  all_goals try exact oF
  all_goals try (with_reducible refine YL ?_;simp;omega)
  refine callS.eq (w44 g _ hg) ?_
  generalize ZH g.rules n.rule=r at *
  rcases bC r.lit with hr|hr
  ·simp only[hr,Bool.false_eq_true,if_false,List.append_nil] at hlen ⊢
   ((try refine qI ?_);(repeat ((first|with_reducible refine qU ?_ | simp only[Z5]);try simp (maxSteps:=9^7) +contextual only[↓ S2,S2,↓reduceIte,reduceNe,reduceEqDiff,reduceCtorEq,reduceLeDiff,reduceAdd,reduceLT,VQ,hr]));(try simp +contextual (disch:=omega) only[Z2,hr]);(with_reducible repeat' (first|intro h|refine And.intro (by omega) ?_ | refine exP (by omega) ?_ | apply And.intro)))
   all_goals try exact oF
   all_goals try (with_reducible refine YL ?_;simp;omega)
   refine Y5 mxd (ι:={ j:Nat // j≤n.kids.length }) (fun j=>[(3,.rop 2 (Gr g)),(4,.rop 1 (Tr t)),(7,.rop 6 (Nd n)),(10,.val (mkS ((40::Z6 n.rule)++A j.1))),(11,I j.1)]) (fun _ => []) (fun j=>n.kids.length-j.1) ⟨0,by simp⟩ (by simp[E2,hA0]<;>first|rfl|(simp only[chk];simp;done)) rfl ?_
   rintro ⟨j,hj⟩
   dsimp only at hj ⊢
   have hjl:=hAl j
   rcases nL j n.kids.length with hlt|hge
   ·obtain ⟨b,hb,p',q',s',hw⟩:=hk _ (gM hlt)
    have hstep:=hAs j hlt
    have hjl2:=hAl (j+1)
    rw[hb,Int.toNat_natCast] at hstep
    have hc:=ih b p' q' s' hw
    generalize Zj g t f b=X at *
    rw[hstep] at hjl2
    simp only[List.length_append,List.length_cons] at hjl2
    ((try refine qI ?_);(repeat ((first|with_reducible refine qU ?_ | simp only[Z5]);try simp (maxSteps:=9^7) +contextual only[↓ S2,S2,↓reduceIte,reduceNe,reduceEqDiff,reduceCtorEq,reduceLeDiff,reduceAdd,reduceLT,VQ,hb]));(try simp +contextual (disch:=omega) only[Z2,hb]);(with_reducible repeat' (first|intro h|refine And.intro (by omega) ?_ | refine exP (by omega) ?_ | apply And.intro)))
    all_goals try exact oF
    all_goals try (with_reducible refine YL ?_;simp;omega)
    refine callS.eq (hc) ?_
    ((try refine qI ?_);(repeat ((first|with_reducible refine qU ?_ | simp only[Z5]);try simp (maxSteps:=9^7) +contextual only[↓ S2,S2,↓reduceIte,reduceNe,reduceEqDiff,reduceCtorEq,reduceLeDiff,reduceAdd,reduceLT,VQ,]));(try simp +contextual (disch:=omega) only[Z2,]);(with_reducible repeat' (first|intro h|refine And.intro (by omega) ?_ | refine exP (by omega) ?_ | apply And.intro)))
    all_goals try exact oF
    all_goals try (with_reducible refine YL ?_;simp;omega)
    all_goals first
     | exact nx ⟨j+1,by omega⟩ (by simp;omega) (by simp[E2,hstep]<;>first|rfl|(simp only[chk];simp;done)) rfl
     | (simp;omega)
   ·obtain rfl:j=n.kids.length:=by omega
    ((try refine qI ?_);(repeat ((first|with_reducible refine qU ?_ | simp only[Z5]);try simp (maxSteps:=9^7) +contextual only[↓ S2,S2,↓reduceIte,reduceNe,reduceEqDiff,reduceCtorEq,reduceLeDiff,reduceAdd,reduceLT,VQ,]));(try simp +contextual (disch:=omega) only[Z2,]);(with_reducible repeat' (first|intro h|refine And.intro (by omega) ?_ | refine exP (by omega) ?_ | apply And.intro)))
    all_goals try exact oF
    all_goals try (with_reducible refine YL ?_;simp;omega)
    all_goals first|(simp;done)|(simp;omega)|(simp only[chk];simp;done)
  ·simp only[hr,if_true] at hlen ⊢
   have hf:=w45 n.lit (by omega) (by omega)
   generalize itoa n.lit=d at *
   simp only[List.length_append,List.length_cons,List.length_nil] at hlen
   ((try refine qI ?_);(repeat ((first|with_reducible refine qU ?_ | simp only[Z5]);try simp (maxSteps:=9^7) +contextual only[↓ S2,S2,↓reduceIte,reduceNe,reduceEqDiff,reduceCtorEq,reduceLeDiff,reduceAdd,reduceLT,VQ,hr]));(try simp +contextual (disch:=omega) only[Z2,hr]);(with_reducible repeat' (first|intro h|refine And.intro (by omega) ?_ | refine exP (by omega) ?_ | apply And.intro)))
   all_goals try exact oF
   all_goals try (with_reducible refine YL ?_;simp;omega)
   refine callS.eq (hf) ?_
   ((try refine qI ?_);(repeat ((first|with_reducible refine qU ?_ | simp only[Z5]);try simp (maxSteps:=9^7) +contextual only[↓ S2,S2,↓reduceIte,reduceNe,reduceEqDiff,reduceCtorEq,reduceLeDiff,reduceAdd,reduceLT,VQ,]));(try simp +contextual (disch:=omega) only[Z2,]);(with_reducible repeat' (first|intro h|refine And.intro (by omega) ?_ | refine exP (by omega) ?_ | apply And.intro)))
   all_goals try exact oF
   all_goals try (with_reducible refine YL ?_;simp;omega)
   refine Y5 mxd (ι:={ j:Nat // j≤n.kids.length }) (fun j=>[(3,.rop 2 (Gr g)),(4,.rop 1 (Tr t)),(7,.rop 6 (Nd n)),(10,.val (mkS (((40::Z6 n.rule)++32::d)++A j.1))),(11,I j.1)]) (fun _ => []) (fun j=>n.kids.length-j.1) ⟨0,by simp⟩ (by simp[E2,hA0]<;>first|rfl|(simp only[chk];simp;done)) rfl ?_
   rintro ⟨j,hj⟩
   dsimp only at hj ⊢
   have hjl:=hAl j
   rcases nL j n.kids.length with hlt|hge
   ·obtain ⟨b,hb,p',q',s',hw⟩:=hk _ (gM hlt)
    have hstep:=hAs j hlt
    have hjl2:=hAl (j+1)
    rw[hb,Int.toNat_natCast] at hstep
    have hc:=ih b p' q' s' hw
    generalize Zj g t f b=X at *
    rw[hstep] at hjl2
    simp only[List.length_append,List.length_cons] at hjl2
    ((try refine qI ?_);(repeat ((first|with_reducible refine qU ?_ | simp only[Z5]);try simp (maxSteps:=9^7) +contextual only[↓ S2,S2,↓reduceIte,reduceNe,reduceEqDiff,reduceCtorEq,reduceLeDiff,reduceAdd,reduceLT,VQ,hb]));(try simp +contextual (disch:=omega) only[Z2,hb]);(with_reducible repeat' (first|intro h|refine And.intro (by omega) ?_ | refine exP (by omega) ?_ | apply And.intro)))
    all_goals try exact oF
    all_goals try (with_reducible refine YL ?_;simp;omega)
    refine callS.eq (hc) ?_
    ((try refine qI ?_);(repeat ((first|with_reducible refine qU ?_ | simp only[Z5]);try simp (maxSteps:=9^7) +contextual only[↓ S2,S2,↓reduceIte,reduceNe,reduceEqDiff,reduceCtorEq,reduceLeDiff,reduceAdd,reduceLT,VQ,]));(try simp +contextual (disch:=omega) only[Z2,]);(with_reducible repeat' (first|intro h|refine And.intro (by omega) ?_ | refine exP (by omega) ?_ | apply And.intro)))
    all_goals try exact oF
    all_goals try (with_reducible refine YL ?_;simp;omega)
    all_goals first
     | exact nx ⟨j+1,by omega⟩ (by simp;omega) (by simp[E2,hstep]<;>first|rfl|(simp only[chk];simp;done)) rfl
     | (simp;omega)
   ·obtain rfl:j=n.kids.length:=by omega
    ((try refine qI ?_);(repeat ((first|with_reducible refine qU ?_ | simp only[Z5]);try simp (maxSteps:=9^7) +contextual only[↓ S2,S2,↓reduceIte,reduceNe,reduceEqDiff,reduceCtorEq,reduceLeDiff,reduceAdd,reduceLT,VQ,]));(try simp +contextual (disch:=omega) only[Z2,]);(with_reducible repeat' (first|intro h|refine And.intro (by omega) ?_ | refine exP (by omega) ?_ | apply And.intro)))
    all_goals try exact oF
    all_goals try (with_reducible refine YL ?_;simp;omega)
    all_goals first|(simp;done)|(simp;omega)|(simp only[chk];simp;done)
theorem p16 (g:Gram) (t:List Nod) (hg:smGr g) (hl:t.length≤1048576) (hkk:∀x∈t,x.kids.length≤1048576) {D:Int} (hD:∀x∈t,((Z6 x.rule).length : Int)+24≤D) (hD2:D≤4194304):∀(f i:Nat) (p q:Int) (s:ByteArray),0≤Zw g t f i p q s →
 PureT Tryz.prog (tab10 1) 16 [Gr g,Tr t,I i] (· = .val (mkS (Zj g t f i)))
 | 0,i,p,q,s,h=>by simp[Zw] at h
 | f+1,i,p,q,s,h=>by
  obtain ⟨hi,hlit,hk,hlen⟩:=walkE_node hD hD2 hl h
  have ih:=fun (j:Nat) p q s h=>p16 g t hg hl hkk hD hD2 f j p q s h
  have hkn:=hkk _ (gM hi)
  simp only[Zj,YS hi] at hlen ⊢
  generalize hn:t[i]=n at *
  obtain ⟨A,hA⟩:∃A:Nat→List UInt8,∀j,A j=(n.kids.take j).flatMap fun c=>32::Zj g t f c.toNat:=⟨_,fun _ => rfl⟩
  have hA0:A 0=[]:=by rw[hA];rfl
  have hAs:∀j,∀h:j<n.kids.length,A (j+1)=A j++(32::Zj g t f n.kids[j].toNat):=fun j h=>by rw[hA,hA,fm_st _ _ h]
  have hAe:A n.kids.length=n.kids.flatMap fun c=>32::Zj g t f c.toNat:=by rw[hA,List.take_length]
  have hAl:∀j,(A j).length ≤ (n.kids.flatMap fun c=>32::Zj g t f c.toNat).length := fun j=>by rw[hA];exact fm_len _ _ j
  rw[←hAe] at hlen ⊢
  rw[←hAe] at hAl
  simp only[List.length_append,List.length_cons,List.length_nil] at hlen
  have hil:=itoa_len (n:=n.lit) (by omega) (by omega)
  have hsz:n.rule.size=(Z6 n.rule).length := Zo _
  clear hA h
  refine ZN mxd i16 rfl (by simp) ?_;simp (maxSteps:=9^7) only[↓ S2,S2,ZT,↓reduceIte,reduceNe,reduceEqDiff,reduceCtorEq,reduceLeDiff,reduceAdd,reduceLT]
  ((try refine qI ?_);(repeat ((first|with_reducible refine qU ?_ | simp only[Z5]);try simp (maxSteps:=9^7) +contextual only[↓ S2,S2,↓reduceIte,reduceNe,reduceEqDiff,reduceCtorEq,reduceLeDiff,reduceAdd,reduceLT,VQ,hn]));(try simp +contextual (disch:=omega) only[Z2,hn]);(with_reducible repeat' (first|intro h|refine And.intro (by omega) ?_ | refine exP (by omega) ?_ | apply And.intro)))
  all_goals try exact oF
  all_goals try (with_reducible refine YL ?_;simp;omega)
  refine callS.eq (w36 g _ hg) ?_
  generalize ZH g.rules n.rule=r at *
  rcases bC r.lit with hr|hr
  ·simp only[hr,Bool.false_eq_true,if_false,List.append_nil] at hlen ⊢
   ((try refine qI ?_);(repeat ((first|with_reducible refine qU ?_ | simp only[Z5]);try simp (maxSteps:=9^7) +contextual only[↓ S2,S2,↓reduceIte,reduceNe,reduceEqDiff,reduceCtorEq,reduceLeDiff,reduceAdd,reduceLT,VQ,hr]));(try simp +contextual (disch:=omega) only[Z2,hr]);(with_reducible repeat' (first|intro h|refine And.intro (by omega) ?_ | refine exP (by omega) ?_ | apply And.intro)))
   all_goals try exact oF
   all_goals try (with_reducible refine YL ?_;simp;omega)
   refine Y5 mxd (ι:={ j:Nat // j≤n.kids.length }) (fun j=>[(3,.rop 2 (Gr g)),(4,.rop 1 (Tr t)),(8,.val (mkS ((40::Z6 n.rule)++A j.1))),(37,IS n.kids),(38,I n.kids.length),(39,I j.1)]) (fun _ => tab10 1) (fun j=>n.kids.length-j.1) ⟨0,by simp⟩ (by simp[E2,hA0]<;>first|rfl|(simp only[chk];simp;done)) rfl ?_
   rintro ⟨j,hj⟩
   dsimp only at hj ⊢
   have hjl:=hAl j
   rcases nL j n.kids.length with hlt|hge
   ·obtain ⟨b,hb,p',q',s',hw⟩:=hk _ (gM hlt)
    have hstep:=hAs j hlt
    have hjl2:=hAl (j+1)
    rw[hb,Int.toNat_natCast] at hstep
    have hc:=ih b p' q' s' hw
    generalize Zj g t f b=X at *
    rw[hstep] at hjl2
    simp only[List.length_append,List.length_cons] at hjl2
    ((try refine qI ?_);(repeat ((first|with_reducible refine qU ?_ | simp only[Z5]);try simp (maxSteps:=9^7) +contextual only[↓ S2,S2,↓reduceIte,reduceNe,reduceEqDiff,reduceCtorEq,reduceLeDiff,reduceAdd,reduceLT,VQ,hb]));(try simp +contextual (disch:=omega) only[Z2,hb]);(with_reducible repeat' (first|intro h|refine And.intro (by omega) ?_ | refine exP (by omega) ?_ | apply And.intro)))
    all_goals try exact oF
    all_goals try (with_reducible refine YL ?_;simp;omega)
    refine callS.eqT (hc) (tabH_10 1) (fun _ h=>h) ?_
    ((try refine qI ?_);(repeat ((first|with_reducible refine qU ?_ | simp only[Z5]);try simp (maxSteps:=9^7) +contextual only[↓ S2,S2,↓reduceIte,reduceNe,reduceEqDiff,reduceCtorEq,reduceLeDiff,reduceAdd,reduceLT,VQ,]));(try simp +contextual (disch:=omega) only[Z2,]);(with_reducible repeat' (first|intro h|refine And.intro (by omega) ?_ | refine exP (by omega) ?_ | apply And.intro)))
    all_goals try exact oF
    all_goals try (with_reducible refine YL ?_;simp;omega)
    all_goals first
     | exact nx ⟨j+1,by omega⟩ (by simp;omega) (by simp[E2,hstep]<;>first|rfl|(simp only[chk];simp;done)) rfl
     | (simp;omega)
   ·obtain rfl:j=n.kids.length:=by omega
    ((try refine qI ?_);(repeat ((first|with_reducible refine qU ?_ | simp only[Z5]);try simp (maxSteps:=9^7) +contextual only[↓ S2,S2,↓reduceIte,reduceNe,reduceEqDiff,reduceCtorEq,reduceLeDiff,reduceAdd,reduceLT,VQ,]));(try simp +contextual (disch:=omega) only[Z2,]);(with_reducible repeat' (first|intro h|refine And.intro (by omega) ?_ | refine exP (by omega) ?_ | apply And.intro)))
    all_goals try exact oF
    all_goals try (with_reducible refine YL ?_;simp;omega)
    all_goals first|(simp;done)|(simp;omega)|(simp only[chk];simp;done)
  ·simp only[hr,if_true] at hlen ⊢
   have hf:=p37 n.lit (by omega) (by omega)
   generalize itoa n.lit=d at *
   simp only[List.length_append,List.length_cons,List.length_nil] at hlen
   ((try refine qI ?_);(repeat ((first|with_reducible refine qU ?_ | simp only[Z5]);try simp (maxSteps:=9^7) +contextual only[↓ S2,S2,↓reduceIte,reduceNe,reduceEqDiff,reduceCtorEq,reduceLeDiff,reduceAdd,reduceLT,VQ,hr]));(try simp +contextual (disch:=omega) only[Z2,hr]);(with_reducible repeat' (first|intro h|refine And.intro (by omega) ?_ | refine exP (by omega) ?_ | apply And.intro)))
   all_goals try exact oF
   all_goals try (with_reducible refine YL ?_;simp;omega)
   refine callS.eqT (hf) (tabH_10 1) (fun _ h=>h) ?_
   ((try refine qI ?_);(repeat ((first|with_reducible refine qU ?_ | simp only[Z5]);try simp (maxSteps:=9^7) +contextual only[↓ S2,S2,↓reduceIte,reduceNe,reduceEqDiff,reduceCtorEq,reduceLeDiff,reduceAdd,reduceLT,VQ,]));(try simp +contextual (disch:=omega) only[Z2,]);(with_reducible repeat' (first|intro h|refine And.intro (by omega) ?_ | refine exP (by omega) ?_ | apply And.intro)))
   all_goals try exact oF
   all_goals try (with_reducible refine YL ?_;simp;omega)
   refine Y5 mxd (ι:={ j:Nat // j≤n.kids.length }) (fun j=>[(3,.rop 2 (Gr g)),(4,.rop 1 (Tr t)),(8,.val (mkS (((40::Z6 n.rule)++32::d)++A j.1))),(37,IS n.kids),(38,I n.kids.length),(39,I j.1)]) (fun _ => tab10 1) (fun j=>n.kids.length-j.1) ⟨0,by simp⟩ (by simp[E2,hA0]<;>first|rfl|(simp only[chk];simp;done)) rfl ?_
   rintro ⟨j,hj⟩
   dsimp only at hj ⊢
   have hjl:=hAl j
   rcases nL j n.kids.length with hlt|hge
   ·obtain ⟨b,hb,p',q',s',hw⟩:=hk _ (gM hlt)
    have hstep:=hAs j hlt
    have hjl2:=hAl (j+1)
    rw[hb,Int.toNat_natCast] at hstep
    have hc:=ih b p' q' s' hw
    generalize Zj g t f b=X at *
    rw[hstep] at hjl2
    simp only[List.length_append,List.length_cons] at hjl2
    ((try refine qI ?_);(repeat ((first|with_reducible refine qU ?_ | simp only[Z5]);try simp (maxSteps:=9^7) +contextual only[↓ S2,S2,↓reduceIte,reduceNe,reduceEqDiff,reduceCtorEq,reduceLeDiff,reduceAdd,reduceLT,VQ,hb]));(try simp +contextual (disch:=omega) only[Z2,hb]);(with_reducible repeat' (first|intro h|refine And.intro (by omega) ?_ | refine exP (by omega) ?_ | apply And.intro)))
    all_goals try exact oF
    all_goals try (with_reducible refine YL ?_;simp;omega)
    refine callS.eqT (hc) (tabH_10 1) (fun _ h=>h) ?_
    ((try refine qI ?_);(repeat ((first|with_reducible refine qU ?_ | simp only[Z5]);try simp (maxSteps:=9^7) +contextual only[↓ S2,S2,↓reduceIte,reduceNe,reduceEqDiff,reduceCtorEq,reduceLeDiff,reduceAdd,reduceLT,VQ,]));(try simp +contextual (disch:=omega) only[Z2,]);(with_reducible repeat' (first|intro h|refine And.intro (by omega) ?_ | refine exP (by omega) ?_ | apply And.intro)))
    all_goals try exact oF
    all_goals try (with_reducible refine YL ?_;simp;omega)
    all_goals first
     | exact nx ⟨j+1,by omega⟩ (by simp;omega) (by simp[E2,hstep]<;>first|rfl|(simp only[chk];simp;done)) rfl
     | (simp;omega)
   ·obtain rfl:j=n.kids.length:=by omega
    ((try refine qI ?_);(repeat ((first|with_reducible refine qU ?_ | simp only[Z5]);try simp (maxSteps:=9^7) +contextual only[↓ S2,S2,↓reduceIte,reduceNe,reduceEqDiff,reduceCtorEq,reduceLeDiff,reduceAdd,reduceLT,VQ,]));(try simp +contextual (disch:=omega) only[Z2,]);(with_reducible repeat' (first|intro h|refine And.intro (by omega) ?_ | refine exP (by omega) ?_ | apply And.intro)))
    all_goals try exact oF
    all_goals try (with_reducible refine YL ?_;simp;omega)
    all_goals first|(simp;done)|(simp;omega)|(simp only[chk];simp;done)
def fmtT (g:Gram) (t:List Nod):List UInt8:=if Y3 g t (symN g t 0)=true then Zj g t t.length 0 else []
theorem w8 (g:Gram) (t:List Nod) (hg:smGr g) (hl:t.length≤1048576) (hkk:∀x∈t,x.kids.length≤1048576) (hr:∀x∈t,(Z6 x.rule).length ≤ 1048576):Pu 8 [Gr g,Tr t] (· = .val (mkS (fmtT g t))):=by
 unfold fmtT
 have hst:=w19 g t (symN g t 0) hg hl hkk
 have htx:Y3 g t (symN g t 0)=true→Pu 21 [Gr g,Tr t,I 0] (· = .val (mkS (Zj g t t.length 0))):=fun h=>by
  obtain ⟨_,_,h1⟩:=Yv h
  exact w21 g t hg hl hkk (D:=1048600) (fun x hx=>by have:=hr x hx;omega) (by omega) t.length 0 (-1) 0 (symN g t 0) (by omega)
 generalize Y3 g t (symN g t 0)=b at *
 refine ZN mxd i8 rfl (by simp) ?_;simp (maxSteps:=9^7) only[↓ S2,S2,ZT,↓reduceIte,reduceNe,reduceEqDiff,reduceCtorEq,reduceLeDiff,reduceAdd,reduceLT]
 ((try refine qI ?_);(repeat ((first|with_reducible refine qU ?_ | simp only[Z5]);try simp (maxSteps:=9^7) +contextual only[↓ S2,S2,↓reduceIte,reduceNe,reduceEqDiff,reduceCtorEq,reduceLeDiff,reduceAdd,reduceLT,VQ,]));(try simp +contextual (disch:=omega) only[Z2,]);(with_reducible repeat' (first|intro h|refine And.intro (by omega) ?_ | refine exP (by omega) ?_ | apply And.intro)))
 refine callS.eq (w20 g t 0 hg) ?_
 ((try refine qI ?_);(repeat ((first|with_reducible refine qU ?_ | simp only[Z5]);try simp (maxSteps:=9^7) +contextual only[↓ S2,S2,↓reduceIte,reduceNe,reduceEqDiff,reduceCtorEq,reduceLeDiff,reduceAdd,reduceLT,VQ,]));(try simp +contextual (disch:=omega) only[Z2,]);(with_reducible repeat' (first|intro h|refine And.intro (by omega) ?_ | refine exP (by omega) ?_ | apply And.intro)))
 refine callS.eq hst ?_
 rcases bC b with hb|hb
 ·simp only[hb,Bool.false_eq_true,if_false]
  ((try refine qI ?_);(repeat ((first|with_reducible refine qU ?_ | simp only[Z5]);try simp (maxSteps:=9^7) +contextual only[↓ S2,S2,↓reduceIte,reduceNe,reduceEqDiff,reduceCtorEq,reduceLeDiff,reduceAdd,reduceLT,VQ,]));(try simp +contextual (disch:=omega) only[Z2,]);(with_reducible repeat' (first|intro h|refine And.intro (by omega) ?_ | refine exP (by omega) ?_ | apply And.intro)))
 ·have hx:=htx hb
  simp only[hb,if_true]
  ((try refine qI ?_);(repeat ((first|with_reducible refine qU ?_ | simp only[Z5]);try simp (maxSteps:=9^7) +contextual only[↓ S2,S2,↓reduceIte,reduceNe,reduceEqDiff,reduceCtorEq,reduceLeDiff,reduceAdd,reduceLT,VQ,]));(try simp +contextual (disch:=omega) only[Z2,]);(with_reducible repeat' (first|intro h|refine And.intro (by omega) ?_ | refine exP (by omega) ?_ | apply And.intro)))
  refine callS.eq hx ?_
  ((try refine qI ?_);(repeat ((first|with_reducible refine qU ?_ | simp only[Z5]);try simp (maxSteps:=9^7) +contextual only[↓ S2,S2,↓reduceIte,reduceNe,reduceEqDiff,reduceCtorEq,reduceLeDiff,reduceAdd,reduceLT,VQ,]));(try simp +contextual (disch:=omega) only[Z2,]);(with_reducible repeat' (first|intro h|refine And.intro (by omega) ?_ | refine exP (by omega) ?_ | apply And.intro)))
theorem p6 (g:Gram) (t:List Nod) (hg:smGr g) (hl:t.length≤1048576) (hkk:∀x∈t,x.kids.length≤1048576) (hr:∀x∈t,(Z6 x.rule).length ≤ 1048576):PureT Tryz.prog (tab10 1) 6 [Gr g,Tr t] (· = .val (mkS (fmtT g t))):=by
 unfold fmtT
 have hst:=w15 g t hg hl hkk
 have htx:Y3 g t (symN g t 0)=true→PureT Tryz.prog (tab10 1) 16 [Gr g,Tr t,I 0] (· = .val (mkS (Zj g t t.length 0))):=fun h=>by
  obtain ⟨_,_,h1⟩:=Yv h
  exact p16 g t hg hl hkk (D:=1048600) (fun x hx=>by have:=hr x hx;omega) (by omega) t.length 0 (-1) 0 (symN g t 0) (by omega)
 generalize Y3 g t (symN g t 0)=b at *
 refine ZN mxd i6 rfl (by simp) ?_;simp (maxSteps:=9^7) only[↓ S2,S2,ZT,↓reduceIte,reduceNe,reduceEqDiff,reduceCtorEq,reduceLeDiff,reduceAdd,reduceLT]
 ((try refine qI ?_);(repeat ((first|with_reducible refine qU ?_ | simp only[Z5]);try simp (maxSteps:=9^7) +contextual only[↓ S2,S2,↓reduceIte,reduceNe,reduceEqDiff,reduceCtorEq,reduceLeDiff,reduceAdd,reduceLT,VQ,]));(try simp +contextual (disch:=omega) only[Z2,]);(with_reducible repeat' (first|intro h|refine And.intro (by omega) ?_ | refine exP (by omega) ?_ | apply And.intro)))
 refine callS.eq hst ?_
 rcases bC b with hb|hb
 ·simp only[hb,Bool.false_eq_true,if_false]
  ((try refine qI ?_);(repeat ((first|with_reducible refine qU ?_ | simp only[Z5]);try simp (maxSteps:=9^7) +contextual only[↓ S2,S2,↓reduceIte,reduceNe,reduceEqDiff,reduceCtorEq,reduceLeDiff,reduceAdd,reduceLT,VQ,]));(try simp +contextual (disch:=omega) only[Z2,]);(with_reducible repeat' (first|intro h|refine And.intro (by omega) ?_ | refine exP (by omega) ?_ | apply And.intro)))
 ·have hx:=htx hb
  simp only[hb,if_true]
  ((try refine qI ?_);(repeat ((first|with_reducible refine qU ?_ | simp only[Z5]);try simp (maxSteps:=9^7) +contextual only[↓ S2,S2,↓reduceIte,reduceNe,reduceEqDiff,reduceCtorEq,reduceLeDiff,reduceAdd,reduceLT,VQ,]));(try simp +contextual (disch:=omega) only[Z2,]);(with_reducible repeat' (first|intro h|refine And.intro (by omega) ?_ | refine exP (by omega) ?_ | apply And.intro)))
  refine callS.eqT hx (tabH_10 1) (fun _ h=>h) ?_
  ((try refine qI ?_);(repeat ((first|with_reducible refine qU ?_ | simp only[Z5]);try simp (maxSteps:=9^7) +contextual only[↓ S2,S2,↓reduceIte,reduceNe,reduceEqDiff,reduceCtorEq,reduceLeDiff,reduceAdd,reduceLT,VQ,]));(try simp +contextual (disch:=omega) only[Z2,]);(with_reducible repeat' (first|intro h|refine And.intro (by omega) ?_ | refine exP (by omega) ?_ | apply And.intro)))
end Go.Proofs.YtmdfoigdflaliaaGreatDoor
