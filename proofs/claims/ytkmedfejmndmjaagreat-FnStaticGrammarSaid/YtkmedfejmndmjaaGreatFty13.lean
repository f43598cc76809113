/- The law returns true whatever the input, and the input reads behind the call as before. No condition. -/
import Derived.Test.YtkmedfejmndmjaaGreatFty12
set_option maxHeartbeats 40000000
set_option maxRecDepth 20000
set_option linter.unusedSimpArgs false
set_option linter.unusedVariables false
namespace Go.Proofs.YtkmedfejmndmjaaGreat
open Go.Gh
open Nat (reduceEqDiff reduceLeDiff reduceAdd reduceLT)
open Int (reduceNe)
theorem w97 (r:Rul) (hr:Zk r):Pu 97 [Ru r] (· = ExS (expR r)):=by
 obtain ⟨m1,m2,m3,m4,m5⟩:=hr
 refine Pure.bor ?_
 refine ZY mxd i97 rfl (by simp) ?_;refine X0 ?_
 (refine V1 @XE ?_;with_reducible repeat' first|exact trivial|intro h|refine aO ?_|refine eO ?_|apply jO)
 rename_i r0
 refine Y1 mxd (ι:={ x:Nat×Nat // x.2≤r.eqs.length }) (fun x=>[(1,.rop 6 (Ru r)),(3,.own x.1.1 7 0 x.1.2),(10,QnS r.eqs),(11,I r.eqs.length),(12,I x.1.2)]) (fun x=>[(x.1.1,7,((r.eqs.take x.1.2).map (·.expr)).map Ex)]) (fun x=>r.eqs.length-x.1.2) ⟨(r0,0),by simp⟩ (by simp[E2]) (by simp[subH,ZU,names]) ?_
 rintro ⟨⟨q,i⟩,hi⟩ -
 dsimp only at hi ⊢
 rcases nL i r.eqs.length with hlt|hge
 ·(refine V1 (jO @XE (jO @List.length_append.{0} (jO @List.length_singleton.{0} (jO @List.length_map.{0,0} (jO @List.length_take.{0} @ZO))))) ?_;with_reducible repeat' first|exact trivial|intro h|refine aO ?_|refine eO ?_|apply jO)
  all_goals try exact oF
  rename_i q2 _ q3
  rw[takeApp2 Ex (·.expr) r.eqs i hlt]
  exact px ⟨(q3,i+1),by omega⟩ (by simp<;>omega) (by simp[E2]) (by repeat' (first|exact trivial|(refine And.intro (by simp only[Z9, *,if_true,if_false];try rfl) (And.intro (by simp[ZT,ZS, *]) ?_))))
 ·obtain rfl:i=r.eqs.length:=by omega
  rw[List.take_length]
  (refine V1 @XE ?_;with_reducible repeat' first|exact trivial|intro h|refine aO ?_|refine eO ?_|apply jO)
  all_goals try exact oF
  refine Y1 mxd (ι:={ x:Nat×Nat // x.2≤r.cons.length }) (fun x=>[(3,.own x.1.1 7 0 (r.eqs.length+2 * x.1.2)),(23,CoS r.cons),(24,I r.cons.length),(25,I x.1.2)]) (fun x=>[(x.1.1,7,(r.eqs.map (·.expr)++cfl (r.cons.take x.1.2)).map Ex)]) (fun x=>r.cons.length-x.1.2) ⟨(q,0),by simp⟩ (by simp[E2]) (by simp[subH,ZU,names,cfl]) ?_
  rintro ⟨⟨q,i⟩,hi⟩ -
  dsimp only at hi ⊢
  rcases nL i r.cons.length with hlt|hge
  ·have hcl:=cfl_len (r.cons.take i)
   rw[List.length_take,Nat.min_eq_left (by omega)] at hcl
   (refine V1 (jO @XE (jO hcl (jO @List.length_append.{0} (jO @List.length_cons.{0} (jO @List.length_nil.{0} (jO @List.length_singleton.{0} (jO @List.length_map.{0,0} (jO @List.length_take.{0} @ZO)))))))) ?_;with_reducible repeat' first|exact trivial|intro h|refine aO ?_|refine eO ?_|apply jO)
   all_goals try exact oF
   rename_i q2
   rw[soT_E2]
   (refine V1 (jO h (jO @XE (jO hcl (jO @List.length_append.{0} (jO @List.length_cons.{0} (jO @List.length_nil.{0} (jO @List.length_singleton.{0} (jO @List.length_map.{0,0} (jO @List.length_take.{0} @ZO))))))))) ?_;with_reducible repeat' first|exact trivial|intro h|refine aO ?_|refine eO ?_|apply jO)
   all_goals try exact oF
   rename_i q3
   rw[show List.take (r.eqs.length+2 * i) (List.map Ex (List.map (fun x=>x.expr) r.eqs++cfl (r.cons.take i)))=List.map Ex (List.map (fun x=>x.expr) r.eqs++cfl (r.cons.take i)) from tL (by simp[hcl])]
   refine px ⟨(q3,i+1),by omega⟩ (by simp<;>omega) (by simp[E2]<;>omega) ?_
   rw[cfl_step hlt,←List.append_assoc,List.map_append (l₁:= _ ++ _)]
   exact (by repeat' (first|exact trivial|(refine And.intro (by simp only[Z9, *,if_true,if_false];try rfl) (And.intro (by simp[ZT,ZS, *]) ?_))))
  ·obtain rfl:i=r.cons.length:=by omega
   rw[List.take_length]
   (refine V1 @XE ?_;with_reducible repeat' first|exact trivial|intro h|refine aO ?_|refine eO ?_|apply jO)
   all_goals try exact oF
   exact bor_ExS Z4 (by rw[expR_eq];simp[cfl_len])
theorem w143 (g:Gram) (r:Rul) (o:Oc) (hg:Zw g) (hr:Zk r):Pu 143 [Occ o,.rop 2 (Gr g),.rop 6 (Ru r)] (· = B (!mayU g r o)):=by
 refine ZY mxd i143 rfl (by simp) ?_;refine X0 ?_
 (refine V0 ?_;with_reducible repeat' first|exact trivial|intro h|refine aO ?_|refine eO ?_|apply jO)
 refine callS.eq (w144 g r o hg hr) ?_
 (refine V0 ?_;with_reducible repeat' first|exact trivial|intro h|refine aO ?_|refine eO ?_|apply jO)
theorem w141 (g:Gram) (r:Rul) (e:Exp) (hg:Zw g) (hr:Zk r) (hw:wEx e≤1048576):Pu 141 [Ex e,.rop 2 (Gr g),.rop 6 (Ru r)] (· = B (YT g r e)):=by
 refine ZY mxd i141 rfl (by simp) ?_;refine X0 ?_
 (refine V1 @XE ?_;with_reducible repeat' first|exact trivial|intro h|refine aO ?_|refine eO ?_|apply jO)
 refine callS.eq (q142 e hw) ?_
 (refine V1 @XE ?_;with_reducible repeat' first|exact trivial|intro h|refine aO ?_|refine eO ?_|apply jO)
 refine callS.eq (w134 (usE e []) 143 [.rop 2 (Gr g),.rop 6 (Ru r)] (fun o=> !mayU g r o) fun x _ => w143 g r x hg hr) ?_
 (refine V0 ?_;with_reducible repeat' first|exact trivial|intro h|refine aO ?_|refine eO ?_|apply jO)
 rfl
theorem w86 (g:Gram) (r:Rul) (hg:Zw g) (hr:Zk r):Pu 86 [Gr g,Ru r] (· = B (misU g r)):=by
 refine ZY mxd i86 rfl (by simp) ?_;refine X0 ?_
 (refine V0 ?_;with_reducible repeat' first|exact trivial|intro h|refine aO ?_|refine eO ?_|apply jO)
 refine callS.eq (w97 r hr) ?_
 (refine V0 ?_;with_reducible repeat' first|exact trivial|intro h|refine aO ?_|refine eO ?_|apply jO)
 refine callS.eq (w96 (expR r) 141 [.rop 2 (Gr g),.rop 6 (Ru r)] (YT g r) fun x hx=>w141 g r x hg hr (expR_sm hr x hx)) ?_
 (refine V0 ?_;with_reducible repeat' first|exact trivial|intro h|refine aO ?_|refine eO ?_|apply jO)
 rfl
theorem w213 (g:Gram) (r:Rul) (e:Exp) (hg:Zw g) (hr:Zk r) (hw:wEx e≤1048576):Pu 213 [Gr g,Ru r,Ex e] (· = B (!YT g r e)):=by
 have hul:=usE_sm hw
 have hub:YT g r e=(usE e []).any fun o=> !mayU g r o:=rfl
 rw[hub]
 refine ZY mxd i213 rfl (by simp) ?_;refine X0 ?_
 (refine V1 @XE ?_;with_reducible repeat' first|exact trivial|intro h|refine aO ?_|refine eO ?_|apply jO)
 refine callS.eq (w183 e hw) ?_
 generalize usE e []=L at *
 (refine V1 @XE ?_;with_reducible repeat' first|exact trivial|intro h|refine aO ?_|refine eO ?_|apply jO)
 refine ZF mxd (ι:={ i:Nat // i≤L.length∧∀o∈L.take i,(!mayU g r o)=false }) (fun i=>[(3,.rop 2 (Gr g)),(4,.rop 6 (Ru r)),(7,OcS L),(8,I i.1)]) (fun _ => []) (fun i=>L.length-i.1) ⟨0,by simp⟩ (by simp[E2]) rfl ?_
 rintro ⟨i,hi,hn⟩
 rcases nL i L.length with hlt|hge
 ·(refine V0 ?_;with_reducible repeat' first|exact trivial|intro h|refine aO ?_|refine eO ?_|apply jO)
  all_goals try exact oF
  refine callS.eq (w242 g r L[i] hg hr) ?_
  rcases bC (mayU g r L[i]) with hv|hv
  ·rw[Yq (p:=fun o=> !mayU g r o) hlt (by rw[hv];rfl)]
   (refine V1 hv ?_;with_reducible repeat' first|exact trivial|intro h|refine aO ?_|refine eO ?_|apply jO)
  ·(refine V1 hv ?_;with_reducible repeat' first|exact trivial|intro h|refine aO ?_|refine eO ?_|apply jO)
   exact nx ⟨i+1,by omega,Zv (p:=fun o=> !mayU g r o) hlt (by rw[hv];rfl) hn⟩ (by simp<;>omega) (by simp[E2]) rfl
 ·obtain rfl:i=L.length:=by omega
  rw[List.take_length] at hn
  rw[any_no (p:=fun o=> !mayU g r o) hn]
  (refine V0 ?_;with_reducible repeat' first|exact trivial|intro h|refine aO ?_|refine eO ?_|apply jO)
  all_goals try exact oF
theorem w151 (g:Gram) (r:Rul) (hg:Zw g) (hr:Zk r):Pu 151 [Gr g,Ru r] (· = B (misU g r)):=by
 obtain ⟨m1,m2,m3,m4,m5⟩:=id hr
 refine ZY mxd i151 rfl (by simp) ?_;refine X0 ?_
 (refine V0 ?_;with_reducible repeat' first|exact trivial|intro h|refine aO ?_|refine eO ?_|apply jO)
 refine ZF mxd (ι:={ i:Nat // i≤r.eqs.length∧∀q∈r.eqs.take i,YT g r q.expr=false }) (fun i=>[(2,.rop 2 (Gr g)),(3,.rop 6 (Ru r)),(5,I i.1)]) (fun _ => []) (fun i=>r.eqs.length-i.1) ⟨0,by simp⟩ (by simp[E2]) rfl ?_
 rintro ⟨i,hi,hn⟩
 rcases nL i r.eqs.length with hlt|hge
 ·(refine V1 @XE ?_;with_reducible repeat' first|exact trivial|intro h|refine aO ?_|refine eO ?_|apply jO)
  all_goals try exact oF
  refine callS.eq (w213 g r r.eqs[i].expr hg hr (m4 _ (gM hlt))) ?_
  rcases bC (YT g r r.eqs[i].expr) with hv|hv
  ·(refine V1 hv ?_;with_reducible repeat' first|exact trivial|intro h|refine aO ?_|refine eO ?_|apply jO)
   exact nx ⟨i+1,by omega,Zv (p:=fun q:Eqn=>YT g r q.expr) hlt hv hn⟩ (by simp<;>omega) (by simp[E2]) rfl
  ·rw[misU_e hlt hv]
   (refine V1 hv ?_;with_reducible repeat' first|exact trivial|intro h|refine aO ?_|refine eO ?_|apply jO)
 ·obtain rfl:i=r.eqs.length:=by omega
  rw[List.take_length] at hn
  (refine V0 ?_;with_reducible repeat' first|exact trivial|intro h|refine aO ?_|refine eO ?_|apply jO)
  all_goals try exact oF
  refine ZF mxd (ι:={ i:Nat // i≤r.cons.length∧∀c∈r.cons.take i,(YT g r c.goal||YT g r c.value)=false }) (fun i=>[(2,.rop 2 (Gr g)),(3,.rop 6 (Ru r)),(6,I i.1)]) (fun _ => []) (fun i=>r.cons.length-i.1) ⟨0,by simp⟩ (by simp[E2]) rfl ?_
  rintro ⟨i,hi,hn2⟩
  rcases nL i r.cons.length with hlt|hge
  ·have hc:=m5 _ (gM hlt)
   (refine V1 @XE ?_;with_reducible repeat' first|exact trivial|intro h|refine aO ?_|refine eO ?_|apply jO)
   all_goals try exact oF
   refine callS.eq (w213 g r r.cons[i].goal hg hr hc.1) ?_
   rcases bC (YT g r r.cons[i].goal) with hv|hv
   ·(refine V1 (jO hv @XE) ?_;with_reducible repeat' first|exact trivial|intro h|refine aO ?_|refine eO ?_|apply jO)
    refine callS.eq (w213 g r r.cons[i].value hg hr hc.2) ?_
    rcases bC (YT g r r.cons[i].value) with hw|hw
    ·(refine V1 hw ?_;with_reducible repeat' first|exact trivial|intro h|refine aO ?_|refine eO ?_|apply jO)
     exact nx ⟨i+1,by omega,Zv (p:=fun c:Con=>YT g r c.goal||YT g r c.value) hlt (by rw[hv,hw];rfl) hn2⟩ (by simp<;>omega) (by simp[E2]) rfl
    ·rw[misU_c hlt (.inr hw)]
     (refine V1 hw ?_;with_reducible repeat' first|exact trivial|intro h|refine aO ?_|refine eO ?_|apply jO)
   ·rw[misU_c hlt (.inl hv)]
    (refine V1 hv ?_;with_reducible repeat' first|exact trivial|intro h|refine aO ?_|refine eO ?_|apply jO)
  ·obtain rfl:i=r.cons.length:=by omega
   rw[List.take_length] at hn2
   rw[misU_n hn hn2]
   (refine V0 ?_;with_reducible repeat' first|exact trivial|intro h|refine aO ?_|refine eO ?_|apply jO)
   all_goals try exact oF
theorem w89 (g:Gram) (r:Rul) (c:Nat) (hg:Zw g) (hr:Zk r) (hr3:r.right.length≤3):Pu 89 [Gr g,Ru r,I c] (· = B (brk g r c)):=by
 simp only[brk]
 refine ZY mxd i89 rfl (by simp) ?_;refine X0 ?_
 by_cases e3:c=3
 ·have i3:((c:Int)=3)=True:=eq_true (by omega)
  rw[if_pos e3]
  (refine V1 (jO i3 @decide_true) ?_;with_reducible repeat' first|exact trivial|intro h|refine aO ?_|refine eO ?_|apply jO)
  refine callS.eq (w148 g r hg hr) ?_
  (refine V0 ?_;with_reducible repeat' first|exact trivial|intro h|refine aO ?_|refine eO ?_|apply jO)
  all_goals simp
 ·have i3:((c:Int)=3)=False:=eq_false (by omega)
  rw[if_neg e3]
  by_cases e4:c=4
  ·have i4:((c:Int)=4)=True:=eq_true (by omega)
   rw[if_pos e4]
   (refine V1 (jO i3 (jO i4 (jO @decide_true @decide_false))) ?_;with_reducible repeat' first|exact trivial|intro h|refine aO ?_|refine eO ?_|apply jO)
   refine callS.eq (w149 g r hg hr hr3) ?_
   (refine V0 ?_;with_reducible repeat' first|exact trivial|intro h|refine aO ?_|refine eO ?_|apply jO)
  ·have i4:((c:Int)=4)=False:=eq_false (by omega)
   rw[if_neg e4]
   by_cases e5:c=5
   ·have i5:((c:Int)=5)=True:=eq_true (by omega)
    rw[if_pos e5]
    (refine V1 (jO i3 (jO i4 (jO i5 (jO @decide_true @decide_false)))) ?_;with_reducible repeat' first|exact trivial|intro h|refine aO ?_|refine eO ?_|apply jO)
    refine callS.eq (w150 g r hg hr hr3) ?_
    (refine V0 ?_;with_reducible repeat' first|exact trivial|intro h|refine aO ?_|refine eO ?_|apply jO)
   ·have i5:((c:Int)=5)=False:=eq_false (by omega)
    rw[if_neg e5]
    (refine V1 (jO i3 (jO i4 (jO i5 @decide_false))) ?_;with_reducible repeat' first|exact trivial|intro h|refine aO ?_|refine eO ?_|apply jO)
    refine callS.eq (w151 g r hg hr) ?_
    (refine V0 ?_;with_reducible repeat' first|exact trivial|intro h|refine aO ?_|refine eO ?_|apply jO)
end Go.Proofs.YtkmedfejmndmjaaGreat
