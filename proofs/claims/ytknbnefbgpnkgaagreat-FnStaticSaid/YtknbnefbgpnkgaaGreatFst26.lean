/- The laws FnStatic and FnStaticTypes return true whatever the input, and the input reads behind the call as before. No condition. -/
import Derived.Test.YtknbnefbgpnkgaaGreatFst11
import Derived.Test.YtknbnefbgpnkgaaGreatFst13
import Derived.Test.YtknbnefbgpnkgaaGreatFst23
import Derived.Test.YtknbnefbgpnkgaaGreatFst25
set_option maxHeartbeats 40000000
set_option maxRecDepth 20000
set_option linter.unusedSimpArgs false
set_option linter.unusedVariables false
namespace Go.Proofs.YtknbnefbgpnkgaaGreat
open Go.Gh
open Nat (reduceEqDiff reduceLeDiff reduceAdd reduceLT)
open Int (reduceNe)
theorem w141 (r:Rul) (hr:Zb r):Pu 141 [Ru r] (· = ExS (expR r)):=by
 obtain ⟨m1,m2,m3,m4,m5⟩:=hr
 refine Pure.bor ?_
 refine Z5 mxd i141 rfl (by simp) ?_;refine X0 ?_
 (refine V1 @XE ?_;with_reducible repeat' intro h)
 rename_i r0
 refine Y2 mxd (ι:={ x:Nat×Nat // x.2≤r.eqs.length }) (fun x=>[(1,.rop 6 (Ru r)),(3,.own x.1.1 7 0 x.1.2),(10,QnS r.eqs),(11,I r.eqs.length),(12,I x.1.2)]) (fun x=>[(x.1.1,7,((r.eqs.take x.1.2).map (·.expr)).map Ex)]) (fun x=>r.eqs.length-x.1.2) ⟨(r0,0),by simp⟩ (by simp[E2]) (by simp[subH,ZV,names]) ?_
 rintro ⟨⟨q,i⟩,hi⟩ -
 dsimp only at hi ⊢
 rcases nL i r.eqs.length with hlt|hge
 ·(refine V1 (jO @XE (jO @List.length_append.{0} (jO @List.length_singleton.{0} (jO @List.length_map.{0,0} (jO @List.length_take.{0} @ZM))))) ?_;with_reducible repeat' first|intro h|refine aO ?_|apply jO)
  all_goals try exact oF
  rename_i q2 _ q3
  rw[Yk Ex (·.expr) r.eqs i hlt]
  exact px ⟨(q3,i+1),oT⟩ (by simp<;>omega) (by simp[E2]) (by repeat' (first|exact trivial|(refine jO (by simp only[Z9, *,if_true,if_false];try rfl) (jO (by simp[ZW,ZU, *]) ?_))))
 ·obtain rfl:i=r.eqs.length:=by omega
  rw[List.take_length]
  (refine V1 @XE ?_;with_reducible repeat' intro h)
  all_goals try exact oF
  refine Y2 mxd (ι:={ x:Nat×Nat // x.2≤r.cons.length }) (fun x=>[(3,.own x.1.1 7 0 (r.eqs.length+2 * x.1.2)),(23,CoS r.cons),(24,I r.cons.length),(25,I x.1.2)]) (fun x=>[(x.1.1,7,(r.eqs.map (·.expr)++cfl (r.cons.take x.1.2)).map Ex)]) (fun x=>r.cons.length-x.1.2) ⟨(q,0),by simp⟩ (by simp[E2]) (by simp[subH,ZV,names,cfl]) ?_
  rintro ⟨⟨q,i⟩,hi⟩ -
  dsimp only at hi ⊢
  rcases nL i r.cons.length with hlt|hge
  ·have hcl:=cfl_len (r.cons.take i)
   rw[List.length_take,Nat.min_eq_left oT] at hcl
   (refine V1 (jO @XE (jO hcl (jO @List.length_append.{0} (jO @List.length_cons.{0} (jO @List.length_nil.{0} (jO @List.length_singleton.{0} (jO @List.length_map.{0,0} (jO @List.length_take.{0} @ZM)))))))) ?_;with_reducible repeat' first|intro h|apply jO)
   all_goals try exact oF
   rename_i q2
   rw[soT_E2]
   (refine V1 (jO h (jO @XE (jO hcl (jO @List.length_append.{0} (jO @List.length_cons.{0} (jO @List.length_nil.{0} (jO @List.length_singleton.{0} (jO @List.length_map.{0,0} (jO @List.length_take.{0} @ZM))))))))) ?_;with_reducible repeat' intro h)
   all_goals try exact oF
   rename_i q3
   rw[show List.take (r.eqs.length+2 * i) (List.map Ex (List.map (fun x=>x.expr) r.eqs++cfl (r.cons.take i)))=List.map Ex (List.map (fun x=>x.expr) r.eqs++cfl (r.cons.take i)) from tL (by simp[hcl])]
   refine px ⟨(q3,i+1),oT⟩ (by simp<;>omega) (by simp[E2]<;>omega) ?_
   rw[cfl_step hlt,←List.append_assoc,List.map_append (l₁:= _ ++ _)]
   exact (by repeat' (first|exact trivial|(refine jO (by simp only[Z9, *,if_true,if_false];try rfl) (jO (by simp[ZW,ZU, *]) ?_))))
  ·obtain rfl:i=r.cons.length:=by omega
   rw[List.take_length]
   (refine V1 @XE ?_;with_reducible repeat' intro h)
   all_goals try exact oF
   exact bor_ExS ZZ (by rw[expR_eq];simp[cfl_len])
theorem w248 (g:Gram) (r:Rul) (o:Oc) (hg:ZI g) (hr:Zb r):Pu 248 [Occ o,.rop 2 (Gr g),.rop 6 (Ru r)] (· = B (!mayU g r o)):=by
 refine Z5 mxd i248 rfl (by simp) ?_;refine X0 ?_
 (refine V0 ?_)
 refine callS.eq (w249 g r o hg hr) ?_
 (refine V0 ?_;with_reducible repeat' exact trivial)
theorem w247 (g:Gram) (r:Rul) (e:Exp) (hg:ZI g) (hr:Zb r) (hw:wEx e≤1048576):Pu 247 [Ex e,.rop 2 (Gr g),.rop 6 (Ru r)] (· = B (Yv g r e)):=by
 refine Z5 mxd i247 rfl (by simp) ?_;refine X0 ?_
 (refine V1 @XE ?_)
 refine callS.eq (q180 e hw) ?_
 (refine V1 @XE ?_)
 refine callS.eq (w240 (usE e []) 248 [.rop 2 (Gr g),.rop 6 (Ru r)] (fun o=> !mayU g r o) fun x _ => w248 g r x hg hr) ?_
 (refine V0 ?_)
 rfl
theorem w210 (g:Gram) (r:Rul) (hg:ZI g) (hr:Zb r):Pu 210 [Gr g,Ru r] (· = B (misU g r)):=by
 refine Z5 mxd i210 rfl (by simp) ?_;refine X0 ?_
 (refine V0 ?_)
 refine callS.eq (w141 r hr) ?_
 (refine V0 ?_)
 refine callS.eq (w140 (expR r) 247 [.rop 2 (Gr g),.rop 6 (Ru r)] (Yv g r) fun x hx=>w247 g r x hg hr (expR_sm hr x hx)) ?_
 (refine V0 ?_)
 rfl
theorem w281 (g:Gram) (r:Rul) (e:Exp) (hg:ZI g) (hr:Zb r) (hw:wEx e≤1048576):Pu 281 [Gr g,Ru r,Ex e] (· = B (!Yv g r e)):=by
 have hul:=usE_sm hw
 have hub:Yv g r e=(usE e []).any fun o=> !mayU g r o:=rfl
 rw[hub]
 refine Z5 mxd i281 rfl (by simp) ?_;refine X0 ?_
 (refine V1 @XE ?_)
 refine callS.eq (w178 e hw) ?_
 generalize usE e []=L at *
 (refine V1 @XE ?_)
 refine ZL mxd (ι:={ i:Nat // i≤L.length∧∀o∈L.take i,(!mayU g r o)=false }) (fun i=>[(3,.rop 2 (Gr g)),(4,.rop 6 (Ru r)),(7,OcS L),(8,I i.1)]) (fun _ => []) (fun i=>L.length-i.1) ⟨0,by simp⟩ (by simp[E2]) rfl ?_
 rintro ⟨i,hi,hn⟩
 rcases nL i L.length with hlt|hge
 ·(refine V0 ?_;with_reducible repeat' first|intro h|apply jO)
  all_goals try exact oF
  refine callS.eq (w299 g r L[i] hg hr) ?_
  rcases bC (mayU g r L[i]) with hv|hv
  ·rw[X2 (p:=fun o=> !mayU g r o) hlt (by rw[hv];rfl)]
   (refine V1 hv ?_;with_reducible repeat' exact trivial)
  ·(refine V1 hv ?_)
   exact nx ⟨i+1,oT,Zt (p:=fun o=> !mayU g r o) hlt (by rw[hv];rfl) hn⟩ (by simp<;>omega) (by simp[E2]) rfl
 ·obtain rfl:i=L.length:=by omega
  rw[List.take_length] at hn
  rw[any_no (p:=fun o=> !mayU g r o) hn]
  (refine V0 ?_;with_reducible repeat' intro h)
  all_goals try exact oF
theorem w256 (g:Gram) (r:Rul) (hg:ZI g) (hr:Zb r):Pu 256 [Gr g,Ru r] (· = B (misU g r)):=by
 obtain ⟨m1,m2,m3,m4,m5⟩:=id hr
 refine Z5 mxd i256 rfl (by simp) ?_;refine X0 ?_
 (refine V0 ?_)
 refine ZL mxd (ι:={ i:Nat // i≤r.eqs.length∧∀q∈r.eqs.take i,Yv g r q.expr=false }) (fun i=>[(2,.rop 2 (Gr g)),(3,.rop 6 (Ru r)),(5,I i.1)]) (fun _ => []) (fun i=>r.eqs.length-i.1) ⟨0,by simp⟩ (by simp[E2]) rfl ?_
 rintro ⟨i,hi,hn⟩
 rcases nL i r.eqs.length with hlt|hge
 ·(refine V1 @XE ?_;with_reducible repeat' first|intro h|apply jO)
  all_goals try exact oF
  refine callS.eq (w281 g r r.eqs[i].expr hg hr (m4 _ (gM hlt))) ?_
  rcases bC (Yv g r r.eqs[i].expr) with hv|hv
  ·(refine V1 hv ?_)
   exact nx ⟨i+1,oT,Zt (p:=fun q:Eqn=>Yv g r q.expr) hlt hv hn⟩ (by simp<;>omega) (by simp[E2]) rfl
  ·rw[misU_e hlt hv]
   (refine V1 hv ?_;with_reducible repeat' exact trivial)
 ·obtain rfl:i=r.eqs.length:=by omega
  rw[List.take_length] at hn
  (refine V0 ?_;with_reducible repeat' intro h)
  all_goals try exact oF
  refine ZL mxd (ι:={ i:Nat // i≤r.cons.length∧∀c∈r.cons.take i,(Yv g r c.goal||Yv g r c.value)=false }) (fun i=>[(2,.rop 2 (Gr g)),(3,.rop 6 (Ru r)),(6,I i.1)]) (fun _ => []) (fun i=>r.cons.length-i.1) ⟨0,by simp⟩ (by simp[E2]) rfl ?_
  rintro ⟨i,hi,hn2⟩
  rcases nL i r.cons.length with hlt|hge
  ·have hc:=m5 _ (gM hlt)
   (refine V1 @XE ?_;with_reducible repeat' first|intro h|apply jO)
   all_goals try exact oF
   refine callS.eq (w281 g r r.cons[i].goal hg hr hc.1) ?_
   rcases bC (Yv g r r.cons[i].goal) with hv|hv
   ·(refine V1 (jO hv @XE) ?_)
    refine callS.eq (w281 g r r.cons[i].value hg hr hc.2) ?_
    rcases bC (Yv g r r.cons[i].value) with hw|hw
    ·(refine V1 hw ?_)
     exact nx ⟨i+1,oT,Zt (p:=fun c:Con=>Yv g r c.goal||Yv g r c.value) hlt (by rw[hv,hw];rfl) hn2⟩ (by simp<;>omega) (by simp[E2]) rfl
    ·rw[misU_c hlt (.inr hw)]
     (refine V1 hw ?_;with_reducible repeat' exact trivial)
   ·rw[misU_c hlt (.inl hv)]
    (refine V1 hv ?_;with_reducible repeat' exact trivial)
  ·obtain rfl:i=r.cons.length:=by omega
   rw[List.take_length] at hn2
   rw[misU_n hn hn2]
   (refine V0 ?_;with_reducible repeat' intro h)
   all_goals try exact oF
theorem w215 (g:Gram) (r:Rul) (c:Nat) (hg:ZI g) (hr:Zb r) (hr3:r.right.length≤3):Pu 215 [Gr g,Ru r,I c] (· = B (brk g r c)):=by
 simp only[brk]
 refine Z5 mxd i215 rfl (by simp) ?_;refine X0 ?_
 by_cases e3:c=3
 ·have i3:((c:Int)=3)=True:=eq_true oT
  rw[if_pos e3]
  (refine V1 (jO i3 @decide_true) ?_)
  refine callS.eq (w253 g r hg hr) ?_
  (refine V0 ?_;with_reducible repeat' exact trivial)
  all_goals simp
 ·have i3:((c:Int)=3)=False:=eq_false oT
  rw[if_neg e3]
  by_cases e4:c=4
  ·have i4:((c:Int)=4)=True:=eq_true oT
   rw[if_pos e4]
   (refine V1 (jO i3 (jO i4 (jO @decide_true @decide_false))) ?_;with_reducible repeat' intro h)
   refine callS.eq (w254 g r hg hr hr3) ?_
   (refine V0 ?_;with_reducible repeat' exact trivial)
  ·have i4:((c:Int)=4)=False:=eq_false oT
   rw[if_neg e4]
   by_cases e5:c=5
   ·have i5:((c:Int)=5)=True:=eq_true oT
    rw[if_pos e5]
    (refine V1 (jO i3 (jO i4 (jO i5 (jO @decide_true @decide_false)))) ?_;with_reducible repeat' intro h)
    refine callS.eq (w255 g r hg hr hr3) ?_
    (refine V0 ?_;with_reducible repeat' exact trivial)
   ·have i5:((c:Int)=5)=False:=eq_false oT
    rw[if_neg e5]
    (refine V1 (jO i3 (jO i4 (jO i5 @decide_false))) ?_;with_reducible repeat' intro h)
    refine callS.eq (w256 g r hg hr) ?_
    (refine V0 ?_;with_reducible repeat' exact trivial)
theorem w168 (g:Gram) (hs:ZI g) (hg:okGr g):Pu 168 [Gr g] (· = .tup [I (shpC g).1,I (shpC g).2]):=by
 obtain ⟨m1,m2,m3,m4⟩:=id hs
 refine Z5 mxd i168 rfl (by simp) ?_;refine X0 ?_
 (refine V0 ?_)
 by_cases h1:(1≤g.syms.length∧g.syms.length≤4)∧(1≤g.rules.length∧g.rules.length≤8)
 ·have a1:((1:Int)≤g.syms.length∧(g.syms.length:Int)≤4):=by omega
  have a2:((1:Int)≤g.rules.length∧(g.rules.length:Int)≤8):=by omega
  (with_reducible repeat' first|refine callS.eq (w57 _ _ _) ?_|exact trivial|refine aO ?_|refine eO ?_|apply jO|refine K1 (jO a1 (jO a2 (jO @and_self @decide_true))) ?_|intro h)
  refine callS.eq (w205 g hs hg) ?_
  by_cases h2:0≤sfI g
  ·rw[shpC_b2 h1 h2]
   (refine V1 (jO h2 (jO @ge_iff_le.{0} @decide_true)) ?_;with_reducible repeat' exact trivial)
  ·have h2':¬sfI g≥0:=h2
   have h00:0<g.syms.length:=by omega
   have e0:g.syms.getD 0 symZ=g.syms[0]:=Z6 h00
   (refine V1 (jO h2 (jO h2' (jO @ge_iff_le.{0} @decide_false))) ?_)
   all_goals try exact oF
   refine callS.eq (w145 g.syms[0].atts 206 [] (fun a=>decide (a.mode=1)) fun x _ => w206 x) ?_
   rcases bC (g.syms[0].atts.any fun a=>decide (a.mode=1)) with hv|hv
   ·have hG:shpG g:=⟨h1,h2,by rw[e0];exact hv⟩
    (refine V1 hv ?_)
    refine ZL mxd (ι:={ c:Nat // 3≤c∧c≤7∧∀d,3≤d→d<c→brF g d = -1 }) (fun c=>[(1,.rop 2 (Gr g)),(5,I c.1)]) (fun _ => []) (fun c=>7-c.1) ⟨3,oT,oT,fun d h3 h4=>by omega⟩ (by simp[E2]) rfl ?_
    rintro ⟨c,hc3,hc7,hcn⟩
    rcases nL c 7 with hclt|hcge
    ·(refine V0 ?_;with_reducible repeat' first|intro h|apply jO)
     all_goals try exact oF
     refine ZL mxd (ι:={ i:Nat // i≤g.rules.length∧∀j (hj:j<g.rules.length),j<i→brk g g.rules[j] c=false }) (fun i=>[(1,.rop 2 (Gr g)),(5,I c),(37,RuS g.rules),(38,I g.rules.length),(39,I i.1)]) (fun _ => []) (fun i=>g.rules.length-i.1) ⟨0,by simp⟩ (by simp[E2]) rfl ?_
     rintro ⟨i,hi,hn⟩
     rcases nL i g.rules.length with hlt|hge
     ·have hr:=m4 _ (gM hlt)
      have hr3:=rulV_len (rul_ok h2 hlt)
      have hnx (hb:brk g g.rules[i] c=false):∀j (hj:j<g.rules.length),j<i+1→brk g g.rules[j] c=false:=fun j hj hji=>by
       rcases Nat.lt_succ_iff_lt_or_eq.1 hji with e|e
       ·exact hn j hj e
       ·subst e;exact hb
      have hit (hb:brk g g.rules[i] c=true):shpC g=((c:Int),(i:Int)):=shpC_hit hG hc3 oT hcn (brF_hit hlt hb hn)
      rcases (by omega:c=3∨c=4∨c=5∨c=6) with e|e|e|e
      ·have i3:((c:Int)=3)=True:=eq_true oT
       have i4:((c:Int)=4)=False:=eq_false oT
       have i5:((c:Int)=5)=False:=eq_false oT
       have hbk:brk g g.rules[i] c=unkR g g.rules[i]:=by subst e;rfl
       rw[hbk] at hnx hit
       (refine V1 (jO i3 (jO i4 (jO i5 (jO @decide_true @decide_false)))) ?_;with_reducible repeat' first|intro h|apply jO)
       all_goals try exact oF
       refine callS.eq (w207 g g.rules[i] hs hr) ?_
       rcases bC (unkR g g.rules[i]) with hw|hw
       ·(refine V1 hw ?_)
        exact nx ⟨i+1,oT,hnx hw⟩ (by simp<;>omega) (by simp[E2]) rfl
       ·rw[hit hw]
        (refine V1 hw ?_;with_reducible repeat' exact trivial)
      ·have i3:((c:Int)=3)=False:=eq_false oT
       have i4:((c:Int)=4)=True:=eq_true oT
       have i5:((c:Int)=5)=False:=eq_false oT
       have hbk:brk g g.rules[i] c=misR g g.rules[i]:=by subst e;rfl
       rw[hbk] at hnx hit
       (refine V1 (jO i3 (jO i4 (jO i5 (jO @decide_true @decide_false)))) ?_;with_reducible repeat' first|intro h|apply jO)
       all_goals try exact oF
       refine callS.eq (w208 g g.rules[i] hs hr hr3) ?_
       rcases bC (misR g g.rules[i]) with hw|hw
       ·(refine V1 hw ?_)
        exact nx ⟨i+1,oT,hnx hw⟩ (by simp<;>omega) (by simp[E2]) rfl
       ·rw[hit hw]
        (refine V1 hw ?_;with_reducible repeat' exact trivial)
      ·have i3:((c:Int)=3)=False:=eq_false oT
       have i4:((c:Int)=4)=False:=eq_false oT
       have i5:((c:Int)=5)=True:=eq_true oT
       have hbk:brk g g.rules[i] c=extR g g.rules[i]:=by subst e;rfl
       rw[hbk] at hnx hit
       (refine V1 (jO i3 (jO i4 (jO i5 (jO @decide_true @decide_false)))) ?_;with_reducible repeat' first|intro h|apply jO)
       all_goals try exact oF
       refine callS.eq (w209 g g.rules[i] hs hr hr3) ?_
       rcases bC (extR g g.rules[i]) with hw|hw
       ·(refine V1 hw ?_)
        exact nx ⟨i+1,oT,hnx hw⟩ (by simp<;>omega) (by simp[E2]) rfl
       ·rw[hit hw]
        (refine V1 hw ?_;with_reducible repeat' exact trivial)
      ·have i3:((c:Int)=3)=False:=eq_false oT
       have i4:((c:Int)=4)=False:=eq_false oT
       have i5:((c:Int)=5)=False:=eq_false oT
       have hbk:brk g g.rules[i] c=misU g g.rules[i]:=by subst e;rfl
       rw[hbk] at hnx hit
       (refine V1 (jO i3 (jO i4 (jO i5 (jO @decide_true @decide_false)))) ?_;with_reducible repeat' first|intro h|apply jO)
       all_goals try exact oF
       refine callS.eq (w210 g g.rules[i] hs hr) ?_
       rcases bC (misU g g.rules[i]) with hw|hw
       ·(refine V1 hw ?_)
        exact nx ⟨i+1,oT,hnx hw⟩ (by simp<;>omega) (by simp[E2]) rfl
       ·rw[hit hw]
        (refine V1 hw ?_;with_reducible repeat' exact trivial)
     ·obtain rfl:i=g.rules.length:=by omega
      (refine V0 ?_;with_reducible repeat' intro h)
      all_goals try exact oF
      exact nx ⟨c+1,oT,oT,fun d hd3 hd=>by
       rcases Nat.lt_succ_iff_lt_or_eq.1 hd with e|e
       ·exact hcn d hd3 e
       ·subst e;exact brF_none fun j hj=>hn j hj hj⟩ (by simp<;>omega) (by simp[E2]) rfl
    ·obtain rfl:c=7:=by omega
     rw[shpC_none hG hcn]
     (refine V0 ?_;with_reducible repeat' intro h)
     all_goals try exact oF
   ·rw[shpC_b3 h1 h2 (by rw[e0];exact hv)]
    (refine V1 hv ?_;with_reducible repeat' exact trivial)
 ·rw[shpC_b1 h1]
  by_cases a1:((1:Int)≤g.syms.length∧(g.syms.length:Int)≤4)
  ·have a2:¬((1:Int)≤g.rules.length∧(g.rules.length:Int)≤8):=by omega
   (with_reducible repeat' first|refine callS.eq (w57 _ _ _) ?_|exact trivial|refine aO ?_|refine eO ?_|apply jO|refine K1 (jO a1 (jO a2 (jO @and_self (jO @decide_true @decide_false)))) ?_|intro h)
  ·(with_reducible repeat' first|refine callS.eq (w57 _ _ _) ?_|exact trivial|refine aO ?_|refine eO ?_|apply jO|refine K1 (jO a1 (jO @decide_true @decide_false)) ?_|intro h)
theorem w172 (g:Gram) (hs:ZI g) (hg:okGr g):Pu 172 [Gr g] (· = .tup [I (shpC g).1,I (shpC g).2]):=by
 obtain ⟨m1,m2,m3,m4⟩:=id hs
 refine Z5 mxd i172 rfl (by simp) ?_;refine X0 ?_
 (refine V0 ?_)
 by_cases h1:(1≤g.syms.length∧g.syms.length≤4)∧(1≤g.rules.length∧g.rules.length≤8)
 ·have a1:((1:Int)≤g.syms.length∧(g.syms.length:Int)≤4):=by omega
  have a2:((1:Int)≤g.rules.length∧(g.rules.length:Int)≤8):=by omega
  (with_reducible repeat' first|refine callS.eq (w64 _ _ _) ?_|exact trivial|refine aO ?_|refine eO ?_|apply jO|refine K1 (jO a1 (jO a2 (jO @and_self @decide_true))) ?_|intro h)
  refine callS.eq (w214 g hs hg) ?_
  by_cases h2:0≤sfI g
  ·rw[shpC_b2 h1 h2]
   (refine V1 (jO h2 (jO @ge_iff_le.{0} @decide_true)) ?_;with_reducible repeat' exact trivial)
  ·have h2':¬sfI g≥0:=h2
   have h00:0<g.syms.length:=by omega
   have e0:g.syms.getD 0 symZ=g.syms[0]:=Z6 h00
   have hal:=m3 _ (gM h00)
   unfold Yw at hal
   (refine V1 (jO h2 (jO h2' (jO @ge_iff_le.{0} @decide_false))) ?_)
   all_goals try exact oF
   refine ZL mxd (ι:={ i:Nat // i≤g.syms[0].atts.length ∧ ∀a∈g.syms[0].atts.take i,decide (a.mode=1)=false }) (fun i=>[(1,.rop 2 (Gr g)),(5,I i.1)]) (fun _ => []) (fun i=>g.syms[0].atts.length - i.1) ⟨0,by simp⟩ (by simp[E2]) rfl ?_
   rintro ⟨i,hi,hn⟩
   rcases nL i g.syms[0].atts.length with hlt|hge
   ·by_cases hm:g.syms[0].atts[i].mode = 1
    ·rw[shpC_b3 h1 h2 (by rw[e0];exact X2 hlt (by simp[hm]))]
     (refine V2 hm ?_;with_reducible repeat' intro h)
     all_goals try exact oF
    ·(refine V2 hm ?_;with_reducible repeat' first|intro h|apply jO)
     all_goals try exact oF
     exact nx ⟨i+1,oT,Zt hlt (by simp[hm]) hn⟩ (by simp<;>omega) (by simp[E2]) rfl
   ·obtain rfl:i=g.syms[0].atts.length := by omega
    rw[List.take_length] at hn
    have hG:shpG g:=⟨h1,h2,by rw[e0];exact any_no hn⟩
    ((try refine qI ?_);(repeat ((first|with_reducible refine qU ?_ | simp only[ZP]);try simp (maxSteps:=9^7) +contextual only[↓ S2,S2,↓reduceIte,reduceNe,reduceEqDiff,reduceCtorEq,reduceLeDiff,reduceAdd,reduceLT,VQ,Int.reduceToNat]));(try simp +contextual (disch:=omega) only[Z2,Int.reduceToNat]);(with_reducible repeat' (first|intro h|refine jO oT ?_ | refine exP oT ?_ | apply jO)))
    all_goals try exact oF
    refine ZL mxd (ι:={ c:Nat // 3≤c∧c≤7∧∀d,3≤d→d<c→brF g d = -1 }) (fun c=>[(1,.rop 2 (Gr g)),(6,I c.1)]) (fun _ => []) (fun c=>7-c.1) ⟨3,oT,oT,fun d h3 h4=>by omega⟩ (by simp[E2]) rfl ?_
    rintro ⟨c,hc3,hc7,hcn⟩
    rcases nL c 7 with hclt|hcge
    ·(refine V0 ?_;with_reducible repeat' first|intro h|apply jO)
     all_goals try exact oF
     refine ZL mxd (ι:={ i:Nat // i≤g.rules.length∧∀j (hj:j<g.rules.length),j<i→brk g g.rules[j] c=false }) (fun i=>[(1,.rop 2 (Gr g)),(6,I c),(7,I i.1)]) (fun _ => []) (fun i=>g.rules.length-i.1) ⟨0,by simp⟩ (by simp[E2]) rfl ?_
     rintro ⟨i,hi,hn⟩
     rcases nL i g.rules.length with hlt|hge
     ·have hr:=m4 _ (gM hlt)
      have hr3:=rulV_len (rul_ok h2 hlt)
      (refine V0 ?_;with_reducible repeat' first|intro h|apply jO)
      all_goals try exact oF
      refine callS.eq (w215 g g.rules[i] c hs hr hr3) ?_
      rcases bC (brk g g.rules[i] c) with hw|hw
      ·(refine V1 hw ?_)
       exact nx ⟨i+1,oT,fun j hj hji=>by
        rcases Nat.lt_succ_iff_lt_or_eq.1 hji with e|e
        ·exact hn j hj e
        ·subst e;exact hw⟩ (by simp<;>omega) (by simp[E2]) rfl
      ·rw[shpC_hit hG hc3 oT hcn (brF_hit hlt hw hn)]
       (refine V1 hw ?_;with_reducible repeat' exact trivial)
     ·obtain rfl:i=g.rules.length:=by omega
      (refine V0 ?_;with_reducible repeat' intro h)
      all_goals try exact oF
      exact nx ⟨c+1,oT,oT,fun d hd3 hd=>by
       rcases Nat.lt_succ_iff_lt_or_eq.1 hd with e|e
       ·exact hcn d hd3 e
       ·subst e;exact brF_none fun j hj=>hn j hj hj⟩ (by simp<;>omega) (by simp[E2]) rfl
    ·obtain rfl:c=7:=by omega
     rw[shpC_none hG hcn]
     (refine V0 ?_;with_reducible repeat' intro h)
     all_goals try exact oF
 ·rw[shpC_b1 h1]
  by_cases a1:((1:Int)≤g.syms.length∧(g.syms.length:Int)≤4)
  ·have a2:¬((1:Int)≤g.rules.length∧(g.rules.length:Int)≤8):=by omega
   (with_reducible repeat' first|refine callS.eq (w64 _ _ _) ?_|exact trivial|refine aO ?_|refine eO ?_|apply jO|refine K1 (jO a1 (jO a2 (jO @and_self (jO @decide_true @decide_false)))) ?_|intro h)
  ·(with_reducible repeat' first|refine callS.eq (w64 _ _ _) ?_|exact trivial|refine aO ?_|refine eO ?_|apply jO|refine K1 (jO a1 (jO @decide_true @decide_false)) ?_|intro h)
theorem w204 (g:Gram) (s:ByteArray) (hg:ZI g):Pu 204 [Gr g,T s] (· = I (Zu (fun y:Sym=>decide (y.name=s)) g.syms)):=by
 have hl:=hg.1
 refine Z5 mxd i204 rfl (by simp) ?_;refine X0 ?_
 (refine V0 ?_)
 refine ZL mxd (ι:={ i:Nat // i≤g.syms.length∧∀y∈g.syms.take i,decide (y.name=s)=false }) (fun i=>[(1,T s),(2,.rop 2 (Gr g)),(5,I i.1)]) (fun _ => []) (fun i=>g.syms.length-i.1) ⟨0,by simp⟩ (by simp[E2]) rfl ?_
 rintro ⟨i,hi,hn⟩
 rcases nL i g.syms.length with hlt|hge
 ·by_cases he:g.syms[i].name = s
  ·rw[YT hlt (by simp[he]) hn]
   (refine V1 he ?_;with_reducible repeat' intro h)
   all_goals try exact oF
  ·(refine V1 he ?_;with_reducible repeat' first|intro h|apply jO)
   all_goals try exact oF
   exact nx ⟨i+1,oT,ZA hlt (by simp[he]) hn⟩ (by simp<;>omega) (by simp[E2]) rfl
 ·obtain rfl:i=g.syms.length:=by omega
  rw[List.take_length] at hn
  rw[YV hn]
  (refine V0 ?_;with_reducible repeat' first|intro h|refine aO ?_)
  all_goals try exact oF
theorem w234 (g:Gram) (s:ByteArray) (out:List Int) (hg:ZI g) (ho:out.length=g.syms.length):Pu 234 [Gr g,T s,IS out] (· = B (rchS g out s)):=by
 have hl:=hg.1
 have hl2:=hg.2.1
 refine Z5 mxd i234 rfl (by simp) ?_;refine X0 ?_
 (refine V0 ?_)
 refine ZL mxd (ι:={ i:Nat // i≤g.rules.length∧∀r∈g.rules.take i,rchR g out s r=false }) (fun i=>[(1,T s),(2,IS out),(3,.rop 2 (Gr g)),(7,I i.1)]) (fun _ => []) (fun i=>g.rules.length-i.1) ⟨0,by simp⟩ (by simp[E2]) rfl ?_
 rintro ⟨i,hi,hn⟩
 rcases nL i g.rules.length with hlt|hge
 ·have hr:=hg.2.2.2 _ (gM hlt)
  have hrl:=hr.1
  (refine V0 ?_;with_reducible repeat' first|intro h|apply jO)
  all_goals try exact oF
  have hz:decide (g.rules[i].left = s)=rchP g out s g.rules[i] 0:=by simp[rchP]
  refine ZL mxd (ι:={ k:Nat // k≤g.rules[i].right.length }) (fun k=>[(1,T s),(2,IS out),(3,.rop 2 (Gr g)),(7,I i),(8,.rop 6 (Ru g.rules[i])),(9,B (rchP g out s g.rules[i] k.1)),(10,I k.1)]) (fun _ => []) (fun k=>g.rules[i].right.length - k.1) ⟨0,by simp⟩ (by simp[E2,hz]) rfl ?_
  rintro ⟨k,hk⟩
  rcases nL k g.rules[i].right.length with hlt2|hge2
  ·have hst:=rchP_step (g:=g) (out:=out) (s:=s) hlt2
   have hix:=XR (fun y:Sym=>decide (y.name=g.rules[i].right[k])) g.syms
   have hho:hOf g out g.rules[i].right[k]=if Zu (fun y:Sym=>decide (y.name=g.rules[i].right[k])) g.syms<0 then 0 else out.getD (Zu (fun y:Sym=>decide (y.name=g.rules[i].right[k])) g.syms).toNat 0:=rfl
   (refine V0 ?_;with_reducible repeat' first|intro h|refine aO ?_|apply jO)
   all_goals try exact oF
   refine callS.eq (w204 g g.rules[i].right[k] hg) ?_
   rcases bC (rchP g out s g.rules[i] k) with hv|hv
   ·rw[hv,Bool.false_and] at hst
    (refine V1 hv ?_)
    exact nx ⟨k+1,oT⟩ (by simp<;>omega) (by simp[E2,hst]) rfl
   ·rw[hv,Bool.true_and] at hst
    rcases hix with hx|⟨hx,hx2⟩
    ·rw[hx] at hho ⊢
     rw[if_pos oT] at hho
     rw[hho] at hst
     (refine V2 (jO hv (jO @ge_iff_le.{0} @decide_false)) ?_)
     exact nx ⟨k+1,oT⟩ (by simp<;>omega) (by simp[E2,hst]) rfl
    ·obtain ⟨a,ha⟩:∃a:Nat,Zu (fun y:Sym=>decide (y.name=g.rules[i].right[k])) g.syms=a:=⟨(Zu (fun y:Sym=>decide (y.name=g.rules[i].right[k])) g.syms).toNat,oT⟩
     rw[ha] at hho hx hx2 ⊢
     have ha2:a<out.length:=by omega
     rw[if_neg oT,Int.toNat_natCast,Z6 ha2] at hho
     rw[hho] at hst
     have hmx:max (a:Int) 0=a:=by omega
     (refine V1 (jO hv (jO hx (jO @ge_iff_le.{0} @decide_true))) ?_)
     refine callS.eq (w121 _ _) ?_
     rw[hmx]
     (refine V1 hst ?_)
     all_goals try exact oF
     exact nx ⟨k+1,oT⟩ (by simp<;>omega) (by simp[E2,hst]) rfl
  ·obtain rfl:k=g.rules[i].right.length := by omega
   have he:=rchP_end g out s g.rules[i]
   rcases bC (rchR g out s g.rules[i]) with hw|hw
   ·rw[he,hw]
    (refine V0 ?_;with_reducible repeat' intro h)
    all_goals try exact oF
    exact nx ⟨i+1,oT,Zt hlt hw hn⟩ (by simp<;>omega) (by simp[E2]) rfl
   ·have:rchS g out s=true:=X2 hlt hw
    rw[he,hw,this]
    (refine V0 ?_;with_reducible repeat' intro h)
    all_goals try exact oF
 ·obtain rfl:i=g.rules.length:=by omega
  rw[List.take_length] at hn
  have:rchS g out s=false:=any_no hn
  rw[this]
  (refine V0 ?_;with_reducible repeat' intro h)
  all_goals try exact oF
theorem w203 (g:Gram) (hg:ZI g) (h4:g.syms.length≤4):Pu 203 [Gr g] (· = IS (hgts g)):=by
 refine Pure.bor ?_
 refine Z5 mxd i203 rfl (by simp) ?_;refine X0 ?_
 (refine V0 ?_;with_reducible repeat' intro h)
 all_goals try exact oF
 rename_i r0
 refine Y2 mxd (ι:={ x:Nat×Nat // x.2≤g.syms.length }) (fun x=>[(1,.rop 2 (Gr g)),(3,.own x.1.1 1 0 g.syms.length),(4,I ((x.1.2:Int)+1))]) (fun x=>[(x.1.1,1,(hIt g x.1.2).map I)]) (fun x=>g.syms.length-x.1.2) ⟨(r0,0),by simp⟩ (by simp[E2]) (by simp[subH,ZV,names,hIt]) ?_
 rintro ⟨⟨q,k⟩,hk⟩ hn0
 dsimp only at hk hn0 ⊢
 have hol:=hIt_len g k
 rcases nL k g.syms.length with hlt|hge
 ·(refine V1 (jO @List.length_map.{0,0} hol) ?_;with_reducible repeat' first|intro h|apply jO)
  all_goals try exact oF
  rename_i q2 hq2 q3
  rw[soT_I hol]
  (refine V1 (jO @List.length_map.{0,0} (jO @List.length_append.{0} (jO @List.length_nil.{0} (jO hol @ZM)))) ?_;with_reducible repeat' intro h)
  all_goals try exact oF
  rename_i r5
  refine Y2 mxd (ι:={ x:Nat×List Int // x.1≤g.syms.length∧nxt g k x.1 x.2 }) (fun x=>[(1,.rop 2 (Gr g)),(3,.own q 1 0 g.syms.length),(4,I ((k:Int)+1)),(5,.own r5 1 0 g.syms.length),(6,I x.1.1)]) (fun x=>[(r5,1,x.1.2.map I),(q,1,(hIt g k).map I)]) (fun x=>g.syms.length-x.1.1) ⟨(0,hIt g k),oT,nxt_0 g k⟩ (by simp[E2]) (by repeat' (first|exact trivial|(refine jO (by simp only[Z9, *,if_true,if_false];try rfl) (jO (by simp[ZW,ZU, *]) ?_)))) ?_
  rintro ⟨⟨i,Y⟩,hi,hY⟩ hn2
  dsimp only at hi hY hn2 ⊢
  (replace hn2:=hn2;simp only[VN] at hn2)
  have hYl:=hY.1
  rcases nL i g.syms.length with hlt2|hge2
  ·have hg1:(hIt g k).getD i 0=(hIt g k)[i]:=Z6 oT
   have hg2:g.syms.getD i symZ=g.syms[i]:=Z6 hlt2
   have hnx:hNext g ((k:Int)+1) (hIt g k) i=if 0<(hIt g k)[i] then (hIt g k)[i] else if rchS g (hIt g k) g.syms[i].name = true then (k:Int)+1 else (hIt g k)[i]:=by simp only[hNext,hg1,hg2]
   have hnn:=hIt_nn g k _ (gM (show i<(hIt g k).length by omega))
   by_cases hz:(hIt g k)[i]=0
   ·rw[if_neg oT] at hnx
    (refine V1 (jO hn2 (jO hz (jO @List.length_map.{0,0} (jO hol (jO hYl @decide_true))))) ?_;with_reducible repeat' first|intro h|apply jO)
    all_goals try exact oF
    refine callS.borA (w234 g g.syms[i].name (hIt g k) hg hol) (.cons .refl (.cons .refl (.cons (Yd (by simp[Z9,hn2]) hol) .nil))) rfl ?_
    rcases bC (rchS g (hIt g k) g.syms[i].name) with hv|hv
    ·rw[hv,if_neg (by simp)] at hnx
     (refine V1 hv ?_)
     exact px ⟨(i+1,Y),oT,nxt_keep hY hlt2 (by rw[hnx,hg1])⟩ (by simp<;>omega) (by simp[E2]) (by repeat' (first|exact trivial|(refine jO (by simp only[Z9, *,if_true,if_false];try rfl) (jO (by simp[ZW,ZU, *]) ?_))))
    ·rw[hv,if_pos rfl] at hnx
     (refine V1 (jO hn2 (jO hv (jO @List.length_map.{0,0} hYl))) ?_)
     all_goals try exact oF
     refine px ⟨(i+1,Y.set i ((k:Int)+1)),oT,nxt_set hY hlt2 hnx⟩ (by simp<;>omega) (by simp[E2]) ?_
     show subH _ [(r5,1,(Y.set i ((k:Int)+1)).map I),(q,1,(hIt g k).map I)]
     rw[List.map_set]
     exact (by repeat' (first|exact trivial|(refine jO (by simp only[Z9, *,if_true,if_false];try rfl) (jO (by simp[ZW,ZU, *]) ?_))))
   ·rw[if_pos oT] at hnx
    (refine V1 (jO hn2 (jO hz (jO @List.length_map.{0,0} (jO hol (jO hYl @decide_false))))) ?_;with_reducible repeat' first|intro h|apply jO)
    all_goals try exact oF
    exact px ⟨(i+1,Y),oT,nxt_keep hY hlt2 (by rw[hnx,hg1])⟩ (by simp<;>omega) (by simp[E2]) (by repeat' (first|exact trivial|(refine jO (by simp only[Z9, *,if_true,if_false];try rfl) (jO (by simp[ZW,ZU, *]) ?_))))
  ·obtain rfl:i=g.syms.length:=by omega
   have hYe:=nxt_n hY
   subst hYe
   (refine V1 hn2 ?_;with_reducible repeat' intro h)
   all_goals try exact oF
   exact px ⟨(r5,k+1),oT⟩ (by simp<;>omega) (by simp[E2]) (by repeat' (first|exact trivial|(refine jO (by simp only[Z9, *,if_true,if_false];try rfl) (jO (by simp[ZW,ZU, *]) ?_))))
 ·obtain rfl:k=g.syms.length:=by omega
  (refine V0 ?_;with_reducible repeat' intro h)
  all_goals try exact oF
  exact Yd ZZ (hgts_len g)
theorem w218 (g:Gram) (s:ByteArray) (hg:ZI g) (h4:g.syms.length≤4):Pu 218 [Gr g,T s] (· = I (minH g s)):=by
 have hl:=hgts_len g
 have hix:=XR (fun y:Sym=>decide (y.name=s)) g.syms
 have hm:minH g s=if Zu (fun y:Sym=>decide (y.name=s)) g.syms<0 then 0 else (hgts g).getD (Zu (fun y:Sym=>decide (y.name=s)) g.syms).toNat 0:=rfl
 refine Z5 mxd i218 rfl (by simp) ?_;refine X0 ?_
 (refine V0 ?_)
 refine callS.eq (w204 g s hg) ?_
 rcases hix with hx|⟨hx,hx2⟩
 ·rw[hx,if_pos oT] at hm
  rw[hx,hm]
  (refine V2 @decide_true ?_;with_reducible repeat' exact trivial)
 ·obtain ⟨a,ha⟩:∃a:Nat,Zu (fun y:Sym=>decide (y.name=s)) g.syms=a:=⟨(Zu (fun y:Sym=>decide (y.name=s)) g.syms).toNat,oT⟩
  rw[ha] at hx hx2 hm ⊢
  rw[if_neg oT,Int.toNat_natCast,Z6 oT] at hm
  rw[hm]
  (refine V0 ?_;with_reducible repeat' intro h)
  all_goals try exact oF
  refine callS.eq (w203 g hg h4) ?_
  (refine V1 (jO @List.length_map.{0,0} hl) ?_;with_reducible repeat' exact trivial)
  all_goals try exact oF
theorem w174 (g:Gram) (s:ByteArray) (hg:ZI g) (h4:g.syms.length≤4):Pu 174 [Gr g,T s] (· = B (decide (0<minH g s))):=by
 refine Z5 mxd i174 rfl (by simp) ?_;refine X0 ?_
 (refine V0 ?_)
 refine callS.eq (w218 g s hg h4) ?_
 (refine V1 @gt_iff_lt.{0} ?_;with_reducible repeat' exact trivial)
theorem o213 (g:Gram) (s:ByteArray) (out:List Int) (rb q n:Nat) (H:GH) (hg:ZI g) (ho:out.length=g.syms.length) (hn:n=g.syms.length) (h1:ZV H rb=some (1,[.own q 1 0 n])) (h2:ZV H q=some (1,out.map I)) :
 Gc 213 [T s,.rop 2 (Gr g),.ptr rb 1 0 0] H (fun v H'=>v=I (hOf g out s)∧H'=H):=by
 have hl:=hg.1
 have hho:hOf g out s=if Zu (fun y:Sym=>decide (y.name=s)) g.syms<0 then 0 else out.getD (Zu (fun y:Sym=>decide (y.name=s)) g.syms).toNat 0:=rfl
 refine Z5 mxd i213 rfl (by simp) ?_;refine X0 ?_
 (refine V0 ?_)
 refine ZL mxd (ι:={ i:Nat // i≤g.syms.length∧∀y∈g.syms.take i,decide (y.name=s)=false }) (fun i=>[(0,T s),(1,.rop 2 (Gr g)),(2,.ptr rb 1 0 0),(8,SyS g.syms),(9,I g.syms.length),(10,I i.1)]) (fun _ => H) (fun i=>g.syms.length-i.1) ⟨0,by simp⟩ (by simp[E2]) rfl ?_
 rintro ⟨i,hi,hn⟩
 rcases nL i g.syms.length with hlt|hge
 ·by_cases he:g.syms[i].name = s
  ·rw[YT hlt (by simp[he]) hn,if_neg oT,Int.toNat_natCast,Z6 oT] at hho
   rw[hho]
   (refine V1 (jO he (jO h1 (jO h2 (jO @List.length_map.{0,0} (jO ho hn))))) ?_;with_reducible repeat' intro h)
   all_goals try exact oF
  ·(refine V1 he ?_;with_reducible repeat' first|intro h|apply jO)
   all_goals try exact oF
   exact nx ⟨i+1,oT,ZA hlt (by simp[he]) hn⟩ (by simp<;>omega) (by simp[E2]) rfl
 ·obtain rfl:i=g.syms.length:=by omega
  rw[List.take_length] at hn
  rw[YV hn,if_pos oT] at hho
  rw[hho]
  (refine V0 ?_;with_reducible repeat' first|intro h|refine aO ?_)
  all_goals try exact oF
theorem w170 (g:Gram) (hg:ZI g) (h4:g.syms.length≤4):Pu 170 [Gr g] (· = IS (hgts g)):=by
 refine Pure.bor ?_
 have hl2:=hg.2.1
 refine Z5 mxd i170 rfl (by simp) ?_;refine X0 ?_
 (refine V0 ?_;with_reducible repeat' intro h)
 all_goals try exact oF
 rename_i q0 _ rb
 refine Y2 mxd (ι:={ x:Nat×Nat // x.2≤g.syms.length }) (fun x=>[(1,.rop 2 (Gr g)),(3,.ptr rb 1 0 0),(4,.clo 213 [.rop 2 (Gr g),.ptr rb 1 0 0]),(5,I ((x.1.2:Int)+1))]) (fun x=>[(rb,1,[.own x.1.1 1 0 g.syms.length]),(x.1.1,1,(hIt g x.1.2).map I)]) (fun x=>g.syms.length-x.1.2) ⟨(q0,0),by simp⟩ (by simp[E2]) ?_ ?_
 ·simp[subH,Z9,names,hIt, *]
 rintro ⟨⟨q,k⟩,hk⟩ hn0
 dsimp only at hk hn0 ⊢
 (replace hn0:=hn0;simp only[VN] at hn0)
 have hol:=hIt_len g k
 rcases nL k g.syms.length with hlt|hge
 ·(refine V1 (jO hn0 (jO @List.length_map.{0,0} hol)) ?_;with_reducible repeat' first|intro h|refine aO ?_|apply jO)
  all_goals try exact oF
  rename_i _ rn
  rw[soT_I hol]
  (refine V1 (jO @List.length_map.{0,0} (jO @List.length_replicate.{0} hol)) ?_)
  all_goals try exact oF
  rw[Nat.min_self]
  refine Y2 mxd (ι:={ x:Nat×List Int // x.1≤g.syms.length∧nxt g k x.1 x.2 }) (fun x=>[(1,.rop 2 (Gr g)),(3,.ptr rb 1 0 0),(4,.clo 213 [.rop 2 (Gr g),.ptr rb 1 0 0]),(5,I ((k:Int)+1)),(6,.own rn 1 0 g.syms.length),(33,SyS g.syms),(34,I g.syms.length),(35,I x.1.1)]) (fun x=>[(rn,1,x.1.2.map I),(rb,1,[.own q 1 0 g.syms.length]),(q,1,(hIt g k).map I)]) (fun x=>g.syms.length-x.1.1) ⟨(0,hIt g k),oT,nxt_0 g k⟩ (by simp[E2]) ?_ ?_
  ·rw[show List.take g.syms.length (List.map I (hIt g k))=List.map I (hIt g k) from tL (by simp[hol]),List.drop_of_length_le (by simp),List.append_nil]
   exact (by repeat' (first|exact trivial|(refine jO (by simp only[Z9, *,if_true,if_false];try rfl) (jO (by simp[ZW,ZU, *]) ?_))))
  rintro ⟨⟨i,Y⟩,hi,hY⟩ hn2
  dsimp only at hi hY hn2 ⊢
  (replace hn2:=hn2;simp only[VN] at hn2)
  have hYl:=hY.1
  rcases nL i g.syms.length with hlt2|hge2
  ·have hg1:(hIt g k).getD i 0=(hIt g k)[i]:=Z6 oT
   have hg2:g.syms.getD i symZ=g.syms[i]:=Z6 hlt2
   have hnx:hNext g ((k:Int)+1) (hIt g k) i=if 0<(hIt g k)[i] then (hIt g k)[i] else if rchS g (hIt g k) g.syms[i].name = true then (k:Int)+1 else (hIt g k)[i]:=by simp only[hNext,hg1,hg2]
   have hnn:=hIt_nn g k _ (gM (show i<(hIt g k).length by omega))
   by_cases hz:0<(hIt g k)[i]
   ·rw[if_pos oT] at hnx
    (refine V1 (jO hn2 (jO hz (jO @List.length_map.{0,0} (jO hol (jO hYl (jO @gt_iff_lt.{0} @decide_true)))))) ?_;with_reducible repeat' first|intro h|apply jO)
    all_goals try exact oF
    exact px ⟨(i+1,Y),oT,nxt_keep hY hlt2 (by rw[hnx,hg1])⟩ (by simp<;>omega) (by simp[E2]) (by repeat' (first|exact trivial|(refine jO (by simp only[Z9, *,if_true,if_false];try rfl) (jO (by simp[ZW,ZU, *]) ?_))))
   ·rw[if_neg hz] at hnx
    have hz0:(hIt g k)[i]=0:=by omega
    (refine V1 (jO hn2 (jO hz (jO @List.length_map.{0,0} (jO hol (jO hYl (jO @gt_iff_lt.{0} @decide_false)))))) ?_;with_reducible repeat' first|intro h|apply jO)
    all_goals try exact oF
    obtain ⟨Z,hZ⟩:∃Z:Nat→List Int,∀j,Z j=if ((g.rules.take j).any (rchR g (hIt g k) g.syms[i].name))=true then Y.set i ((k:Int)+1) else Y:=⟨_,fun _ => rfl⟩
    have hZl:∀j,(Z j).length = g.syms.length:=fun j=>by rw[hZ];split<;>simp[hYl]
    have hZ0:Z 0=Y:=by rw[hZ];simp
    have hZs1:∀j (hj:j<g.rules.length),rchR g (hIt g k) g.syms[i].name g.rules[j]=false→Z (j+1)=Z j:=fun j hj hb=>by
     rw[hZ,hZ,List.take_add_one,List.getElem?_eq_getElem hj,Option.toList_some,List.any_append];simp[hb]
    have hZs2:∀j (hj:j<g.rules.length),rchR g (hIt g k) g.syms[i].name g.rules[j]=true→Z (j+1)=(Z j).set i ((k:Int)+1):=fun j hj hb=>by
     rw[hZ,hZ,List.take_add_one,List.getElem?_eq_getElem hj,Option.toList_some,List.any_append]
     simp only[List.any_cons,hb,Bool.true_or,Bool.or_true,if_true]
     split
     ·rw[List.set_set]
     ·rfl
    have hZe:nxt g k (i+1) (Z g.rules.length):=by
     rw[hZ,List.take_length]
     have e:rchS g (hIt g k) g.syms[i].name = g.rules.any (rchR g (hIt g k) g.syms[i].name):=rfl
     rw[←e]
     split
     ·rename_i hh
      rw[if_pos hh] at hnx
      exact nxt_set hY hlt2 hnx
     ·rename_i hh
      rw[if_neg hh] at hnx
      exact nxt_keep hY hlt2 (by rw[hnx,hg1])
    clear hZ
    refine Y2 mxd (ι:={ j:Nat // j≤g.rules.length }) (fun j=>[(1,.rop 2 (Gr g)),(3,.ptr rb 1 0 0),(4,.clo 213 [.rop 2 (Gr g),.ptr rb 1 0 0]),(5,I ((k:Int)+1)),(6,.own rn 1 0 g.syms.length),(33,SyS g.syms),(34,I g.syms.length),(35,I i),(7,I i),(8,.rop 2 (Sy g.syms[i])),(46,RuS g.rules),(47,I g.rules.length),(48,I j.1)]) (fun j=>[(rn,1,(Z j.1).map I),(rb,1,[.own q 1 0 g.syms.length]),(q,1,(hIt g k).map I)]) (fun j=>g.rules.length-j.1) ⟨0,by simp⟩ (by simp[E2]) (by rw[hZ0];exact (by repeat' (first|exact trivial|(refine jO (by simp only[Z9, *,if_true,if_false];try rfl) (jO (by simp[ZW,ZU, *]) ?_))))) ?_
    rintro ⟨j,hj⟩ hn3
    dsimp only at hj hn3 ⊢
    (replace hn3:=hn3;simp only[VN] at hn3)
    rcases nL j g.rules.length with hlt3|hge3
    ·have hr:=hg.2.2.2 _ (gM hlt3)
     have hrl:=hr.1
     (refine V1 hn3 ?_;with_reducible repeat' first|intro h|apply jO)
     all_goals try exact oF
     have hz1:decide (g.rules[j].left = g.syms[i].name)=rchP g (hIt g k) g.syms[i].name g.rules[j] 0:=by simp[rchP]
     refine ZL mxd (ι:={ m:Nat // m≤g.rules[j].right.length }) (fun m=>[(1,.rop 2 (Gr g)),(3,.ptr rb 1 0 0),(4,.clo 213 [.rop 2 (Gr g),.ptr rb 1 0 0]),(5,I ((k:Int)+1)),(6,.own rn 1 0 g.syms.length),(33,SyS g.syms),(34,I g.syms.length),(35,I i),(7,I i),(8,.rop 2 (Sy g.syms[i])),(46,RuS g.rules),(47,I g.rules.length),(48,I j),(11,B (rchP g (hIt g k) g.syms[i].name g.rules[j] m.1)),(58,TS g.rules[j].right),(59,I g.rules[j].right.length),(60,I m.1)]) (fun _ => [(rn,1,(Z j).map I),(rb,1,[.own q 1 0 g.syms.length]),(q,1,(hIt g k).map I)]) (fun m=>g.rules[j].right.length - m.1) ⟨0,by simp⟩ (by simp[E2,hz1]) rfl ?_
     rintro ⟨m,hm⟩
     rcases nL m g.rules[j].right.length with hlt4|hge4
     ·have hst:=rchP_step (g:=g) (out:=hIt g k) (s:=g.syms[i].name) hlt4
      rcases bC (rchP g (hIt g k) g.syms[i].name g.rules[j] m) with hv|hv
      ·rw[hv,Bool.false_and] at hst
       (refine V1 (jO hn3 hv) ?_;with_reducible repeat' first|intro h|apply jO)
       all_goals try exact oF
       exact nx ⟨m+1,oT⟩ (by simp<;>omega) (by simp[E2,hst]) rfl
      ·rw[hv,Bool.true_and] at hst
       (refine V1 (jO hn3 hv) ?_;with_reducible repeat' first|intro h|refine aO ?_|apply jO)
       all_goals try exact oF
       refine callS.of (o213 g g.rules[j].right[m] (hIt g k) rb q _ _ hg hol rfl (by simp[Z9,hn3]) (by simp[Z9,hn3])) ?_
       rintro v H' ⟨rfl,rfl⟩ -
       (refine V1 (jO hn3 @gt_iff_lt.{0}) ?_)
       exact nx ⟨m+1,oT⟩ (by simp<;>omega) (by simp[E2,hst]) rfl
     ·obtain rfl:m=g.rules[j].right.length := by omega
      rw[rchP_end]
      have hzl:=hZl j
      rcases bC (rchR g (hIt g k) g.syms[i].name g.rules[j]) with hv|hv
      ·rw[hv]
       (refine V1 hn3 ?_;with_reducible repeat' intro h)
       all_goals try exact oF
       refine px ⟨j+1,oT⟩ (by simp<;>omega) (by simp[E2]) ?_
       show subH _ [(rn,1,(Z (j+1)).map I),_,_]
       rw[hZs1 j hlt3 hv]
       exact (by repeat' (first|exact trivial|(refine jO (by simp only[Z9, *,if_true,if_false];try rfl) (jO (by simp[ZW,ZU, *]) ?_))))
      ·rw[hv]
       (refine V1 (jO hn3 (jO @List.length_map.{0,0} hzl)) ?_;with_reducible repeat' first|intro h|refine aO ?_)
       all_goals try exact oF
       refine px ⟨j+1,oT⟩ (by simp<;>omega) (by simp[E2]) ?_
       show subH _ [(rn,1,(Z (j+1)).map I),_,_]
       rw[hZs2 j hlt3 hv,List.map_set]
       exact (by repeat' (first|exact trivial|(refine jO (by simp only[Z9, *,if_true,if_false];try rfl) (jO (by simp[ZW,ZU, *]) ?_))))
    ·obtain rfl:j=g.rules.length:=by omega
     (refine V1 hn3 ?_;with_reducible repeat' intro h)
     all_goals try exact oF
     exact px ⟨(i+1,Z g.rules.length),oT,hZe⟩ (by simp<;>omega) (by simp[E2]) (by repeat' (first|exact trivial|(refine jO (by simp only[Z9, *,if_true,if_false];try rfl) (jO (by simp[ZW,ZU, *]) ?_))))
  ·obtain rfl:i=g.syms.length:=by omega
   have hYe:=nxt_n hY
   subst hYe
   (refine V1 hn2 ?_;with_reducible repeat' intro h)
   all_goals try exact oF
   exact px ⟨(rn,k+1),oT⟩ (by simp<;>omega) (by simp[E2]) (by repeat' (first|exact trivial|(refine jO (by simp only[Z9, *,if_true,if_false];try rfl) (jO (by simp[ZW,ZU, *]) ?_))))
 ·obtain rfl:k=g.syms.length:=by omega
  (refine V1 hn0 ?_;with_reducible repeat' intro h)
  all_goals try exact oF
  exact Yd (by simp[Z9,hn0];rfl) (hgts_len g)
end Go.Proofs.YtknbnefbgpnkgaaGreat
