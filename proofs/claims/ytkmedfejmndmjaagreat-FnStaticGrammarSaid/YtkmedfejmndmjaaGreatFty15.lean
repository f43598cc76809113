/- The law returns true whatever the input, and the input reads behind the call as before. No condition. -/
import Derived.Test.YtkmedfejmndmjaaGreatFty4
set_option maxHeartbeats 40000000
set_option maxRecDepth 20000
set_option linter.unusedSimpArgs false
set_option linter.unusedVariables false
namespace Go.Proofs.YtkmedfejmndmjaaGreat
open Go.Gh
open Nat (reduceEqDiff reduceLeDiff reduceAdd reduceLT)
open Int (reduceNe)
theorem o87 (g:Gram) (s:ByteArray) (out:List Int) (rb q n:Nat) (H:GH) (hg:Zw g) (ho:out.length=g.syms.length) (hn:n=g.syms.length) (h1:ZU H rb=some (1,[.own q 1 0 n])) (h2:ZU H q=some (1,out.map I)) :
 Gc 87 [T s,.rop 2 (Gr g),.ptr rb 1 0 0] H (fun v H'=>v=I (hOf g out s)∧H'=H):=by
 have hl:=hg.1
 have hho:hOf g out s=if Y5 (fun y:Sym=>decide (y.name=s)) g.syms<0 then 0 else out.getD (Y5 (fun y:Sym=>decide (y.name=s)) g.syms).toNat 0:=rfl
 refine ZY mxd i87 rfl (by simp) ?_;refine X0 ?_
 (refine V0 ?_;with_reducible repeat' first|exact trivial|intro h|refine aO ?_|refine eO ?_|apply jO)
 refine ZF mxd (ι:={ i:Nat // i≤g.syms.length∧∀y∈g.syms.take i,decide (y.name=s)=false }) (fun i=>[(0,T s),(1,.rop 2 (Gr g)),(2,.ptr rb 1 0 0),(8,SyS g.syms),(9,I g.syms.length),(10,I i.1)]) (fun _ => H) (fun i=>g.syms.length-i.1) ⟨0,by simp⟩ (by simp[E2]) rfl ?_
 rintro ⟨i,hi,hn⟩
 rcases nL i g.syms.length with hlt|hge
 ·by_cases he:g.syms[i].name = s
  ·rw[YD hlt (by simp[he]) hn,if_neg (by omega),Int.toNat_natCast,Z1 (by omega)] at hho
   rw[hho]
   (refine V1 (jO he (jO h1 (jO h2 (jO @List.length_map.{0,0} (jO ho hn))))) ?_;with_reducible repeat' first|exact trivial|intro h|refine aO ?_|refine eO ?_|apply jO)
   all_goals try exact oF
  ·(refine V1 he ?_;with_reducible repeat' first|exact trivial|intro h|refine aO ?_|refine eO ?_|apply jO)
   all_goals try exact oF
   exact nx ⟨i+1,by omega,Zg hlt (by simp[he]) hn⟩ (by simp<;>omega) (by simp[E2]) rfl
 ·obtain rfl:i=g.syms.length:=by omega
  rw[List.take_length] at hn
  rw[YF hn,if_pos (by omega)] at hho
  rw[hho]
  (refine V0 ?_;with_reducible repeat' first|exact trivial|intro h|refine aO ?_|refine eO ?_|apply jO)
  all_goals try exact oF
theorem w39 (g:Gram) (hg:Zw g) (h4:g.syms.length≤4):Pu 39 [Gr g] (· = IS (hgts g)):=by
 refine Pure.bor ?_
 have hl2:=hg.2.1
 refine ZY mxd i39 rfl (by simp) ?_;refine X0 ?_
 (refine V0 ?_;with_reducible repeat' first|exact trivial|intro h|refine aO ?_|refine eO ?_|apply jO)
 all_goals try exact oF
 rename_i q0 _ rb
 refine Y1 mxd (ι:={ x:Nat×Nat // x.2≤g.syms.length }) (fun x=>[(1,.rop 2 (Gr g)),(3,.ptr rb 1 0 0),(4,.clo 87 [.rop 2 (Gr g),.ptr rb 1 0 0]),(5,I ((x.1.2:Int)+1))]) (fun x=>[(rb,1,[.own x.1.1 1 0 g.syms.length]),(x.1.1,1,(hIt g x.1.2).map I)]) (fun x=>g.syms.length-x.1.2) ⟨(q0,0),by simp⟩ (by simp[E2]) ?_ ?_
 ·simp[subH,Z9,names,hIt, *]
 rintro ⟨⟨q,k⟩,hk⟩ hn0
 dsimp only at hk hn0 ⊢
 (replace hn0:=hn0;simp only[VN] at hn0)
 have hol:=hIt_len g k
 rcases nL k g.syms.length with hlt|hge
 ·(refine V1 (jO hn0 (jO @List.length_map.{0,0} hol)) ?_;with_reducible repeat' first|exact trivial|intro h|refine aO ?_|refine eO ?_|apply jO)
  all_goals try exact oF
  rename_i _ rn
  rw[soT_I hol]
  (refine V1 (jO @List.length_map.{0,0} (jO @List.length_replicate.{0} hol)) ?_;with_reducible repeat' first|exact trivial|intro h|refine aO ?_|refine eO ?_|apply jO)
  all_goals try exact oF
  rw[Nat.min_self]
  refine Y1 mxd (ι:={ x:Nat×List Int // x.1≤g.syms.length∧nxt g k x.1 x.2 }) (fun x=>[(1,.rop 2 (Gr g)),(3,.ptr rb 1 0 0),(4,.clo 87 [.rop 2 (Gr g),.ptr rb 1 0 0]),(5,I ((k:Int)+1)),(6,.own rn 1 0 g.syms.length),(33,SyS g.syms),(34,I g.syms.length),(35,I x.1.1)]) (fun x=>[(rn,1,x.1.2.map I),(rb,1,[.own q 1 0 g.syms.length]),(q,1,(hIt g k).map I)]) (fun x=>g.syms.length-x.1.1) ⟨(0,hIt g k),by omega,nxt_0 g k⟩ (by simp[E2]) ?_ ?_
  ·rw[show List.take g.syms.length (List.map I (hIt g k))=List.map I (hIt g k) from tL (by simp[hol]),List.drop_of_length_le (by simp),List.append_nil]
   exact (by repeat' (first|exact trivial|(refine And.intro (by simp only[Z9, *,if_true,if_false];try rfl) (And.intro (by simp[ZT,ZS, *]) ?_))))
  rintro ⟨⟨i,Y⟩,hi,hY⟩ hn2
  dsimp only at hi hY hn2 ⊢
  (replace hn2:=hn2;simp only[VN] at hn2)
  have hYl:=hY.1
  rcases nL i g.syms.length with hlt2|hge2
  ·have hg1:(hIt g k).getD i 0=(hIt g k)[i]:=Z1 (by omega)
   have hg2:g.syms.getD i symZ=g.syms[i]:=Z1 hlt2
   have hnx:hNext g ((k:Int)+1) (hIt g k) i=if 0<(hIt g k)[i] then (hIt g k)[i] else if rchS g (hIt g k) g.syms[i].name = true then (k:Int)+1 else (hIt g k)[i]:=by simp only[hNext,hg1,hg2]
   have hnn:=hIt_nn g k _ (gM (show i<(hIt g k).length by omega))
   by_cases hz:0<(hIt g k)[i]
   ·rw[if_pos (by omega)] at hnx
    (refine V1 (jO hn2 (jO hz (jO @List.length_map.{0,0} (jO hol (jO hYl (jO @gt_iff_lt.{0} @decide_true)))))) ?_;with_reducible repeat' first|exact trivial|intro h|refine aO ?_|refine eO ?_|apply jO)
    all_goals try exact oF
    exact px ⟨(i+1,Y),by omega,nxt_keep hY hlt2 (by rw[hnx,hg1])⟩ (by simp<;>omega) (by simp[E2]) (by repeat' (first|exact trivial|(refine And.intro (by simp only[Z9, *,if_true,if_false];try rfl) (And.intro (by simp[ZT,ZS, *]) ?_))))
   ·rw[if_neg hz] at hnx
    have hz0:(hIt g k)[i]=0:=by omega
    (refine V1 (jO hn2 (jO hz (jO @List.length_map.{0,0} (jO hol (jO hYl (jO @gt_iff_lt.{0} @decide_false)))))) ?_;with_reducible repeat' first|exact trivial|intro h|refine aO ?_|refine eO ?_|apply jO)
    all_goals try exact oF
    obtain ⟨Z,hZ⟩:∃Z:Nat→List Int,∀j,Z j=if ((g.rules.take j).any (rchR g (hIt g k) g.syms[i].name))=true then Y.set i ((k:Int)+1) else Y:=⟨_,fun _ => rfl⟩
    have hZl:∀j,(Z j).length = g.syms.length:=fun j=>by rw[hZ];split<;>simp[hYl]
    have hZ0:Z 0=Y:=by rw[hZ];simp
    have hZs1:∀j (hj:j<g.rules.length),rchR g (hIt g k) g.syms[i].name g.rules[j]=false→Z (j+1)=Z j:=fun j hj hb=>by
     rw[hZ,hZ,List.take_add_one,List.getElem?_eq_getElem hj,Option.toList_some,List.any_append];simp[hb]
    have hZs2:∀j (hj:j<g.rules.length),rchR g (hIt g k) g.syms[i].name g.rules[j]=true→Z (j+1)=(Z j).set i ((k:Int)+1):=fun j hj hb=>by
     rw[hZ,hZ,List.take_add_one,List.getElem?_eq_getElem hj,Option.toList_some,List.any_append]
     simp only[List.any_cons,hb,Bool.true_or,Bool.or_true,if_true]
     split
     ·rw[List.set_set]
     ·rfl
    have hZe:nxt g k (i+1) (Z g.rules.length):=by
     rw[hZ,List.take_length]
     have e:rchS g (hIt g k) g.syms[i].name = g.rules.any (rchR g (hIt g k) g.syms[i].name):=rfl
     rw[←e]
     split
     ·rename_i hh
      rw[if_pos hh] at hnx
      exact nxt_set hY hlt2 hnx
     ·rename_i hh
      rw[if_neg hh] at hnx
      exact nxt_keep hY hlt2 (by rw[hnx,hg1])
    clear hZ
    refine Y1 mxd (ι:={ j:Nat // j≤g.rules.length }) (fun j=>[(1,.rop 2 (Gr g)),(3,.ptr rb 1 0 0),(4,.clo 87 [.rop 2 (Gr g),.ptr rb 1 0 0]),(5,I ((k:Int)+1)),(6,.own rn 1 0 g.syms.length),(33,SyS g.syms),(34,I g.syms.length),(35,I i),(7,I i),(8,.rop 2 (Sy g.syms[i])),(46,RuS g.rules),(47,I g.rules.length),(48,I j.1)]) (fun j=>[(rn,1,(Z j.1).map I),(rb,1,[.own q 1 0 g.syms.length]),(q,1,(hIt g k).map I)]) (fun j=>g.rules.length-j.1) ⟨0,by simp⟩ (by simp[E2]) (by rw[hZ0];exact (by repeat' (first|exact trivial|(refine And.intro (by simp only[Z9, *,if_true,if_false];try rfl) (And.intro (by simp[ZT,ZS, *]) ?_))))) ?_
    rintro ⟨j,hj⟩ hn3
    dsimp only at hj hn3 ⊢
    (replace hn3:=hn3;simp only[VN] at hn3)
    rcases nL j g.rules.length with hlt3|hge3
    ·have hr:=hg.2.2.2 _ (gM hlt3)
     have hrl:=hr.1
     (refine V1 hn3 ?_;with_reducible repeat' first|exact trivial|intro h|refine aO ?_|refine eO ?_|apply jO)
     all_goals try exact oF
     have hz1:decide (g.rules[j].left = g.syms[i].name)=rchP g (hIt g k) g.syms[i].name g.rules[j] 0:=by simp[rchP]
     refine ZF mxd (ι:={ m:Nat // m≤g.rules[j].right.length }) (fun m=>[(1,.rop 2 (Gr g)),(3,.ptr rb 1 0 0),(4,.clo 87 [.rop 2 (Gr g),.ptr rb 1 0 0]),(5,I ((k:Int)+1)),(6,.own rn 1 0 g.syms.length),(33,SyS g.syms),(34,I g.syms.length),(35,I i),(7,I i),(8,.rop 2 (Sy g.syms[i])),(46,RuS g.rules),(47,I g.rules.length),(48,I j),(11,B (rchP g (hIt g k) g.syms[i].name g.rules[j] m.1)),(58,TS g.rules[j].right),(59,I g.rules[j].right.length),(60,I m.1)]) (fun _ => [(rn,1,(Z j).map I),(rb,1,[.own q 1 0 g.syms.length]),(q,1,(hIt g k).map I)]) (fun m=>g.rules[j].right.length - m.1) ⟨0,by simp⟩ (by simp[E2,hz1]) rfl ?_
     rintro ⟨m,hm⟩
     rcases nL m g.rules[j].right.length with hlt4|hge4
     ·have hst:=rchP_step (g:=g) (out:=hIt g k) (s:=g.syms[i].name) hlt4
      rcases bC (rchP g (hIt g k) g.syms[i].name g.rules[j] m) with hv|hv
      ·rw[hv,Bool.false_and] at hst
       (refine V1 (jO hn3 hv) ?_;with_reducible repeat' first|exact trivial|intro h|refine aO ?_|refine eO ?_|apply jO)
       all_goals try exact oF
       exact nx ⟨m+1,by omega⟩ (by simp<;>omega) (by simp[E2,hst]) rfl
      ·rw[hv,Bool.true_and] at hst
       (refine V1 (jO hn3 hv) ?_;with_reducible repeat' first|exact trivial|intro h|refine aO ?_|refine eO ?_|apply jO)
       all_goals try exact oF
       refine callS.of (o87 g g.rules[j].right[m] (hIt g k) rb q _ _ hg hol rfl (by simp[Z9,hn3]) (by simp[Z9,hn3])) ?_
       rintro v H' ⟨rfl,rfl⟩ -
       (refine V1 (jO hn3 @gt_iff_lt.{0}) ?_;with_reducible repeat' first|exact trivial|intro h|refine aO ?_|refine eO ?_|apply jO)
       exact nx ⟨m+1,by omega⟩ (by simp<;>omega) (by simp[E2,hst]) rfl
     ·obtain rfl:m=g.rules[j].right.length := by omega
      rw[rchP_end]
      have hzl:=hZl j
      rcases bC (rchR g (hIt g k) g.syms[i].name g.rules[j]) with hv|hv
      ·rw[hv]
       (refine V1 hn3 ?_;with_reducible repeat' first|exact trivial|intro h|refine aO ?_|refine eO ?_|apply jO)
       all_goals try exact oF
       refine px ⟨j+1,by omega⟩ (by simp<;>omega) (by simp[E2]) ?_
       show subH _ [(rn,1,(Z (j+1)).map I),_,_]
       rw[hZs1 j hlt3 hv]
       exact (by repeat' (first|exact trivial|(refine And.intro (by simp only[Z9, *,if_true,if_false];try rfl) (And.intro (by simp[ZT,ZS, *]) ?_))))
      ·rw[hv]
       (refine V1 (jO hn3 (jO @List.length_map.{0,0} hzl)) ?_;with_reducible repeat' first|exact trivial|intro h|refine aO ?_|refine eO ?_|apply jO)
       all_goals try exact oF
       refine px ⟨j+1,by omega⟩ (by simp<;>omega) (by simp[E2]) ?_
       show subH _ [(rn,1,(Z (j+1)).map I),_,_]
       rw[hZs2 j hlt3 hv,List.map_set]
       exact (by repeat' (first|exact trivial|(refine And.intro (by simp only[Z9, *,if_true,if_false];try rfl) (And.intro (by simp[ZT,ZS, *]) ?_))))
    ·obtain rfl:j=g.rules.length:=by omega
     (refine V1 hn3 ?_;with_reducible repeat' first|exact trivial|intro h|refine aO ?_|refine eO ?_|apply jO)
     all_goals try exact oF
     exact px ⟨(i+1,Z g.rules.length),by omega,hZe⟩ (by simp<;>omega) (by simp[E2]) (by repeat' (first|exact trivial|(refine And.intro (by simp only[Z9, *,if_true,if_false];try rfl) (And.intro (by simp[ZT,ZS, *]) ?_))))
  ·obtain rfl:i=g.syms.length:=by omega
   have hYe:=nxt_n hY
   subst hYe
   (refine V1 hn2 ?_;with_reducible repeat' first|exact trivial|intro h|refine aO ?_|refine eO ?_|apply jO)
   all_goals try exact oF
   exact px ⟨(rn,k+1),by omega⟩ (by simp<;>omega) (by simp[E2]) (by repeat' (first|exact trivial|(refine And.intro (by simp only[Z9, *,if_true,if_false];try rfl) (And.intro (by simp[ZT,ZS, *]) ?_))))
 ·obtain rfl:k=g.syms.length:=by omega
  (refine V1 hn0 ?_;with_reducible repeat' first|exact trivial|intro h|refine aO ?_|refine eO ?_|apply jO)
  all_goals try exact oF
  exact bor_IS (by simp[Z9,hn0];rfl) (hgts_len g)
theorem w38 (g:Gram) (r:Rul) (hg:Zw g) (hr:Zk r):Pu 38 [Gr g,Ru r] (· = B (misT g r)):=by
 obtain ⟨m1,m2,m3,m4,m5⟩:=id hr
 refine ZY mxd i38 rfl (by simp) ?_;refine X0 ?_
 (refine V1 @XE ?_;with_reducible repeat' first|exact trivial|intro h|refine aO ?_|refine eO ?_|apply jO)
 refine ZF mxd (ι:={ i:Nat // i≤r.eqs.length∧∀q∈r.eqs.take i,decide (tyE g r q.expr=(Zu g r q.pos q.name).type)=true }) (fun i=>[(2,.rop 2 (Gr g)),(3,.rop 6 (Ru r)),(16,QnS r.eqs),(17,I r.eqs.length),(18,I i.1)]) (fun _ => []) (fun i=>r.eqs.length-i.1) ⟨0,by simp⟩ (by simp[E2]) rfl ?_
 rintro ⟨i,hi,hn⟩
 rcases nL i r.eqs.length with hlt|hge
 ·(refine V1 @XE ?_;with_reducible repeat' first|exact trivial|intro h|refine aO ?_|refine eO ?_|apply jO)
  all_goals try exact oF
  refine callS.eq (w45 g r (r.eqs[i].pos,r.eqs[i].name) hg hr) ?_
  (refine V1 @XE ?_;with_reducible repeat' first|exact trivial|intro h|refine aO ?_|refine eO ?_|apply jO)
  refine callS.eq (w13 g r hg hr r.eqs[i].expr (m4 _ (gM hlt))) ?_
  by_cases hb:tyE g r r.eqs[i].expr = (Zu g r r.eqs[i].pos r.eqs[i].name).type
  ·(refine V1 hb ?_;with_reducible repeat' first|exact trivial|intro h|refine aO ?_|refine eO ?_|apply jO)
   exact nx ⟨i+1,by omega,Zv (p:=fun q:Eqn=>decide (tyE g r q.expr=(Zu g r q.pos q.name).type)) hlt (decide_eq_true hb) hn⟩ (by simp<;>omega) (by simp[E2]) rfl
  ·rw[misT_e hlt hb]
   (refine V1 hb ?_;with_reducible repeat' first|exact trivial|intro h|refine aO ?_|refine eO ?_|apply jO)
 ·obtain rfl:i=r.eqs.length:=by omega
  rw[List.take_length] at hn
  (refine V1 @XE ?_;with_reducible repeat' first|exact trivial|intro h|refine aO ?_|refine eO ?_|apply jO)
  all_goals try exact oF
  refine ZF mxd (ι:={ i:Nat // i≤r.cons.length∧∀c∈r.cons.take i,conT g r c=false }) (fun i=>[(2,.rop 2 (Gr g)),(3,.rop 6 (Ru r)),(40,CoS r.cons),(41,I r.cons.length),(42,I i.1)]) (fun _ => []) (fun i=>r.cons.length-i.1) ⟨0,by simp⟩ (by simp[E2]) rfl ?_
  rintro ⟨i,hi,hn2⟩
  rcases nL i r.cons.length with hlt|hge
  ·have hc:=m5 _ (gM hlt)
   (refine V1 @XE ?_;with_reducible repeat' first|exact trivial|intro h|refine aO ?_|refine eO ?_|apply jO)
   all_goals try exact oF
   refine callS.eq (w48 g _ hg) ?_
   (refine V1 @XE ?_;with_reducible repeat' first|exact trivial|intro h|refine aO ?_|refine eO ?_|apply jO)
   refine callS.eq (w49 _ _ (YB hg _)) ?_
   (refine V1 @XE ?_;with_reducible repeat' first|exact trivial|intro h|refine aO ?_|refine eO ?_|apply jO)
   refine callS.eq (w13 g r hg hr r.cons[i].goal hc.1) ?_
   by_cases h1:tyE g r r.cons[i].goal = 4
   ·(refine V1 (jO @XE h1) ?_;with_reducible repeat' first|exact trivial|intro h|refine aO ?_|refine eO ?_|apply jO)
    refine callS.eq (w13 g r hg hr r.cons[i].value hc.2) ?_
    by_cases h2:tyE g r r.cons[i].value = 2
    ·by_cases h3:(fAtt (Zq g.syms r.cons[i].sym).atts r.cons[i].name).mode = 3
     ·(refine V1 (jO h2 h3) ?_;with_reducible repeat' first|exact trivial|intro h|refine aO ?_|refine eO ?_|apply jO)
      exact nx ⟨i+1,by omega,Zv (p:=conT g r) hlt (by simp[conT,h1,h2,h3]) hn2⟩ (by simp<;>omega) (by simp[E2]) rfl
     ·rw[misT_c hlt (by simp[conT,h1,h2,h3])]
      (refine V1 (jO h2 h3) ?_;with_reducible repeat' first|exact trivial|intro h|refine aO ?_|refine eO ?_|apply jO)
    ·rw[misT_c hlt (by simp[conT,h1,h2])]
     (refine V1 h2 ?_;with_reducible repeat' first|exact trivial|intro h|refine aO ?_|refine eO ?_|apply jO)
   ·rw[misT_c hlt (by simp[conT,h1])]
    (refine V1 h1 ?_;with_reducible repeat' first|exact trivial|intro h|refine aO ?_|refine eO ?_|apply jO)
  ·obtain rfl:i=r.cons.length:=by omega
   rw[List.take_length] at hn2
   rw[misT_n hn hn2]
   (refine V0 ?_;with_reducible repeat' first|exact trivial|intro h|refine aO ?_|refine eO ?_|apply jO)
   all_goals try exact oF
theorem w41 (g:Gram) (r:Rul) (hg:Zw g) (hr:Zk r) (hv:∀q∈r.eqs,0≤q.pos∧q.pos≤r.right.length):Pu 41 [Gr g,Ru r] (· = B (!misT g r)):=by
 obtain ⟨m1,m2,m3,m4,m5⟩:=id hr
 refine ZY mxd i41 rfl (by simp) ?_;refine X0 ?_
 (refine V1 @XE ?_;with_reducible repeat' first|exact trivial|intro h|refine aO ?_|refine eO ?_|apply jO)
 refine ZF mxd (ι:={ i:Nat // i≤r.eqs.length∧∀q∈r.eqs.take i,decide (tyE g r q.expr=(Zu g r q.pos q.name).type)=true }) (fun i=>[(2,.rop 2 (Gr g)),(3,.rop 6 (Ru r)),(5,I i.1)]) (fun _ => []) (fun i=>r.eqs.length-i.1) ⟨0,by simp⟩ (by simp[E2]) rfl ?_
 rintro ⟨i,hi,hn⟩
 rcases nL i r.eqs.length with hlt|hge
 ·have hat:Zu g r r.eqs[i].pos r.eqs[i].name = fAtt (Zq g.syms (Zz r r.eqs[i].pos)).atts r.eqs[i].name := by
   unfold Zu;rw[if_pos (hv _ (gM hlt))]
  (refine V1 @XE ?_;with_reducible repeat' first|exact trivial|intro h|refine aO ?_|refine eO ?_|apply jO)
  all_goals try exact oF
  refine callS.eq (w90 g r hg hr r.eqs[i].expr (m4 _ (gM hlt))) ?_
  (refine V1 @XE ?_;with_reducible repeat' first|exact trivial|intro h|refine aO ?_|refine eO ?_|apply jO)
  refine callS.eq (w11 r r.eqs[i].pos hr) ?_
  (refine V1 @XE ?_;with_reducible repeat' first|exact trivial|intro h|refine aO ?_|refine eO ?_|apply jO)
  refine callS.eq (w91 g _ _ hg) ?_
  rw[←hat]
  by_cases hb:tyE g r r.eqs[i].expr = (Zu g r r.eqs[i].pos r.eqs[i].name).type
  ·(refine V1 hb ?_;with_reducible repeat' first|exact trivial|intro h|refine aO ?_|refine eO ?_|apply jO)
   exact nx ⟨i+1,by omega,Zv (p:=fun q:Eqn=>decide (tyE g r q.expr=(Zu g r q.pos q.name).type)) hlt (decide_eq_true hb) hn⟩ (by simp<;>omega) (by simp[E2]) rfl
  ·rw[misT_e hlt hb]
   (refine V1 hb ?_;with_reducible repeat' first|exact trivial|intro h|refine aO ?_|refine eO ?_|apply jO)
 ·obtain rfl:i=r.eqs.length:=by omega
  rw[List.take_length] at hn
  (refine V1 @XE ?_;with_reducible repeat' first|exact trivial|intro h|refine aO ?_|refine eO ?_|apply jO)
  all_goals try exact oF
  refine ZF mxd (ι:={ i:Nat // i≤r.cons.length∧∀c∈r.cons.take i,conT g r c=false }) (fun i=>[(2,.rop 2 (Gr g)),(3,.rop 6 (Ru r)),(7,I i.1)]) (fun _ => []) (fun i=>r.cons.length-i.1) ⟨0,by simp⟩ (by simp[E2]) rfl ?_
  rintro ⟨i,hi,hn2⟩
  rcases nL i r.cons.length with hlt|hge
  ·have hc:=m5 _ (gM hlt)
   (refine V1 @XE ?_;with_reducible repeat' first|exact trivial|intro h|refine aO ?_|refine eO ?_|apply jO)
   all_goals try exact oF
   refine callS.eq (w10 g _ hg) ?_
   (refine V1 @XE ?_;with_reducible repeat' first|exact trivial|intro h|refine aO ?_|refine eO ?_|apply jO)
   refine callS.eq (w12 _ _ (YB hg _)) ?_
   by_cases h3:(fAtt (Zq g.syms r.cons[i].sym).atts r.cons[i].name).mode = 3
   ·have h0:hAtt (Zq g.syms r.cons[i].sym).atts r.cons[i].name = true:=by
     rcases bC (hAtt (Zq g.syms r.cons[i].sym).atts r.cons[i].name) with hh|hh
     ·rw[fAtt_no hh] at h3;simp[attZ] at h3
     ·exact hh
    (refine V1 (jO @XE (jO h0 h3)) ?_;with_reducible repeat' first|exact trivial|intro h|refine aO ?_|refine eO ?_|apply jO)
    refine callS.eq (w90 g r hg hr r.cons[i].goal hc.1) ?_
    by_cases h1:tyE g r r.cons[i].goal = 4
    ·(refine V1 (jO @XE h1) ?_;with_reducible repeat' first|exact trivial|intro h|refine aO ?_|refine eO ?_|apply jO)
     refine callS.eq (w90 g r hg hr r.cons[i].value hc.2) ?_
     by_cases h2:tyE g r r.cons[i].value = 2
     ·(refine V1 h2 ?_;with_reducible repeat' first|exact trivial|intro h|refine aO ?_|refine eO ?_|apply jO)
      exact nx ⟨i+1,by omega,Zv (p:=conT g r) hlt (by simp[conT,h1,h2,h3]) hn2⟩ (by simp<;>omega) (by simp[E2]) rfl
     ·rw[misT_c hlt (by simp[conT,h1,h2])]
      (refine V1 h2 ?_;with_reducible repeat' first|exact trivial|intro h|refine aO ?_|refine eO ?_|apply jO)
    ·rw[misT_c hlt (by simp[conT,h1])]
     (refine V1 h1 ?_;with_reducible repeat' first|exact trivial|intro h|refine aO ?_|refine eO ?_|apply jO)
   ·rw[misT_c hlt (by simp[conT,h3])]
    rcases bC (hAtt (Zq g.syms r.cons[i].sym).atts r.cons[i].name) with hh|hh
    ·(refine V1 (jO @XE hh) ?_;with_reducible repeat' first|exact trivial|intro h|refine aO ?_|refine eO ?_|apply jO)
    ·(refine V1 (jO @XE (jO hh h3)) ?_;with_reducible repeat' first|exact trivial|intro h|refine aO ?_|refine eO ?_|apply jO)
  ·obtain rfl:i=r.cons.length:=by omega
   rw[List.take_length] at hn2
   rw[misT_n hn hn2]
   (refine V0 ?_;with_reducible repeat' first|exact trivial|intro h|refine aO ?_|refine eO ?_|apply jO)
   all_goals try exact oF
end Go.Proofs.YtkmedfejmndmjaaGreat
