/- The tied card of the law holds. No condition. -/
import Derived.Test.YtdlmjpfgpjkebaaGreatDoorPru4
set_option maxHeartbeats 40000000
set_option maxRecDepth 20000
set_option linter.unusedSimpArgs false
set_option linter.unusedVariables false
namespace Go.Proofs.YtdlmjpfgpjkebaaGreatDoor
open Go.Gh
open Nat (reduceEqDiff reduceLeDiff reduceAdd reduceLT)
open Int (reduceNe)
theorem z88:Dc Tryz.prog 88 [] FrW:=by
 refine Dc.of fun rc H=> ?_
 refine Z8 mxd i88 rfl (by simp) ?_;refine X0 ?_
 ((refine R1 (jO @Z4 (jO @ZR @ZS)) ?_);(repeat' (have h:=ZO h;simp only[ZC,Zx,ZH,Zz,and_true,true_and] at h;(refine R1 (jO @Z4 (jO @ZR (jO @ZS h))) ?_;with_reducible repeat' first|exact trivial|intro h|refine aO ?_|refine eO ?_|apply jO))))
 refine callS.dv (w133 _ rfl (by simp)) Z7 ?_
 intro _ hg;obtain ⟨nm,hnm,rfl⟩:=X1 rfl hg;clear hg
 ((refine R1 (jO @Z4 (jO @ZR @ZS)) ?_);(repeat' (have h:=ZO h;simp only[ZC,Zx,ZH,Zz,and_true,true_and] at h;(refine R1 (jO @Z4 (jO @ZR (jO @ZS h))) ?_;with_reducible repeat' first|exact trivial|intro h|refine aO ?_|refine eO ?_|apply jO))))
 refine callS.dv (w133 _ rfl (by simp)) Z7 ?_
 intro _ hg;obtain ⟨lf,hlf,rfl⟩:=X1 rfl hg;clear hg
 ((refine R1 (jO @Z4 (jO @ZR @ZS)) ?_);(repeat' (have h:=ZO h;simp only[ZC,Zx,ZH,Zz,and_true,true_and] at h;(refine R1 (jO @Z4 (jO @ZR (jO @ZS h))) ?_;with_reducible repeat' first|exact trivial|intro h|refine aO ?_|refine eO ?_|apply jO))))
 refine callS.dv (w89 2) Z7 ?_
 rintro _ ⟨lit,rfl⟩
 ((refine R1 (jO @Z4 (jO @ZR @ZS)) ?_;with_reducible repeat' intro h);(repeat' (have h:=ZO h;simp only[ZC,Zx,ZH,Zz,and_true,true_and] at h;(refine R1 (jO @Z4 (jO @ZR (jO @ZS h))) ?_))))
 rename_i rr _
 refine callS.dv (wz90 4 (by omega)) (by simp only[Z4,h,if_true,if_false]) ?_
 rintro _ ⟨n,hn,rfl⟩
 obtain ⟨v,hv,hvn⟩:=XQ (names ((rr,6,[.agg [T nm,T lf,Zu,B lit,Zu,Zu]])::(rc,3,[.cur])::H))
 ((refine R1 (jO @Z4 (jO @ZR (jO @ZS h))) ?_);(repeat' (have h:=ZO h;simp only[ZC,Zx,ZH,Zz,and_true,true_and] at h;(refine R1 (jO @Z4 (jO @ZR (jO @ZS (jO h h)))) ?_;with_reducible repeat' first|exact trivial|intro h|refine aO ?_|refine eO ?_|apply jO))))
 refine wloopF mxd (ι:={ x:(Nat×List ByteArray)×Nat // x.2≤n∧x.1.2.length≤x.2∧x.2≤x.1.2.length∧∀s∈x.1.2,shT s }) (fun x=>[(0,.ptr rc 3 0 0),(2,.raw 6),(3,.ptr rr 6 0 0),(4,I n),(5,I x.1.2)]) (fun x=>(x.1.1.1,1,x.1.1.2.map T)::(rr,6,[.agg [T nm,T lf,.own x.1.1.1 1 0 x.1.1.2.length,B lit,Zu,Zu]])::(rc,3,[.cur])::H) (fun x=>n-x.1.2) ⟨((v,[]),0),by simp⟩ (FE.virtF (sz:=6) (sz1:=1) (i:=0) (j:=2) (es:=[.agg [T nm,T lf,Zu,B lit,Zu,Zu]]) (gs:=[T nm,T lf,Zu,B lit,Zu,Zu]) Z7 rfl rfl hv hvn) (by simp[E2]) (by simp[ZZ]) ?_
 clear hv hvn
 rintro ⟨⟨⟨q,rs⟩,j⟩,hj,hrs1,hrs2,hrs⟩ hn7
 dsimp only at hj hrs1 hrs2 hrs hn7 ⊢
 have h7:=ZO hn7
 (replace h7:=h7;simp only[VN] at h7)
 refine YN mxd ?_
 rcases nL j n with hlt3|hge3
 ·((refine R1 (jO @Z4 (jO @ZR (jO @ZS h7))) ?_;with_reducible repeat' first|intro h|apply jO);(repeat' (have h:=ZO h;simp only[ZC,Zx,ZH,Zz,and_true,true_and] at h;(refine R1 (jO @Z4 (jO @ZR (jO @ZS (jO h7 h)))) ?_;with_reducible repeat' first|exact trivial|intro h|refine aO ?_|refine eO ?_|apply jO))))
  all_goals try exact oF
  refine callA.dv (w133 _ rfl (by simp)) (by simp only[Z4,h7,if_true,if_false]) ?_
  intro _ hg;obtain ⟨s,hst,rfl⟩:=X1 rfl hg;clear hg
  ((refine R1 (jO @Z4 (jO @ZR (jO @ZS (jO h7 (jO @List.length_append.{0} (jO @List.length_singleton.{0} (jO @List.length_map.{0,0} (jO @List.length_take.{0} @Ya)))))))) ?_;with_reducible repeat' intro h);(repeat' (have h:=ZO h;simp only[ZC,Zx,ZH,Zz,and_true,true_and] at h;(refine R1 (jO @Z4 (jO @ZR (jO @ZS (jO h7 (jO @List.length_append.{0} (jO @List.length_singleton.{0} (jO @List.length_map.{0,0} (jO @List.length_take.{0} (jO @Ya h))))))))) ?_;with_reducible repeat' intro h))))
  all_goals try exact oF
  rename_i r8 _ _ r9 _
  rw[tL (by simp)]
  exact nxF ⟨((r9,rs++[s]),j+1),by dsimp only;omega,by simp;omega,by simp;omega,fun y hy=>(List.mem_append.1 hy).elim (hrs y) fun h=>by
   rw[List.mem_singleton] at h;subst h;exact hst⟩ (by dsimp only;omega) (FE.perm (H:=[_,_,_,_]) (L:=[(r9,_),(rr,_),(rc,_)]) (by repeat' (first|exact trivial|(refine And.intro (by simp only[Z4, *,if_true,if_false];try rfl) (And.intro (by simp[Zj,Zb, *]) ?_))))) (by simp[E2]) (by simp)
 ·obtain rfl:n=rs.length:=by omega
  obtain rfl:j=rs.length:=by omega
  ((refine R1 (jO @Z4 (jO @ZR (jO @ZS h7))) ?_;with_reducible repeat' intro h);(repeat' (have h:=ZO h;simp only[ZC,Zx,ZH,Zz,and_true,true_and] at h;(refine R1 (jO @Z4 (jO @ZR (jO @ZS (jO h7 h)))) ?_;with_reducible repeat' first|exact trivial|intro h|refine aO ?_|refine eO ?_|apply jO))))
  all_goals try exact oF
  refine callS.dv (wz90 4 (by omega)) (by simp only[Z4,h7,if_true,if_false]) ?_
  rintro _ ⟨m,hm,rfl⟩
  obtain ⟨v,hv,hvn⟩:=XQ (names ((rr,6,[.agg [T nm,T lf,.own q 1 0 rs.length,B lit,Zu,Zu]])::(q,1,rs.map T)::(rc,3,[.cur])::H))
  obtain ⟨v3,hv3,hvn3⟩:=XQ (names ((rr,6,[.agg [T nm,T lf,.own q 1 0 rs.length,B lit,.own v 9 0 0,Zu]])::(v,9,[])::(q,1,rs.map T)::(rc,3,[.cur])::H))
  ((refine R1 (jO @Z4 (jO @ZR (jO @ZS h7))) ?_);(repeat' (have h:=ZO h;simp only[ZC,Zx,ZH,Zz,and_true,true_and] at h;(refine R1 (jO @Z4 (jO @ZR (jO @ZS (jO h7 h)))) ?_;with_reducible repeat' first|exact trivial|intro h|refine aO ?_|refine eO ?_|apply jO))))
  refine wloopF mxd (ι:={ x:(Nat×List Eqn)×Nat // x.2≤m∧x.1.2.length≤x.2∧∀q∈x.1.2,shT q.name∧shEx q.expr }) (fun x=>[(0,.ptr rc 3 0 0),(2,.raw 6),(3,.ptr rr 6 0 0),(4,I rs.length),(6,I m),(7,I x.1.2)]) (fun x=>(x.1.1.1,9,x.1.1.2.map Qn)::(v3,16,[])::(rr,6,[.agg [T nm,T lf,.own q 1 0 rs.length,B lit,.own x.1.1.1 9 0 x.1.1.2.length,.own v3 16 0 0]])::(q,1,rs.map T)::(rc,3,[.cur])::H) (fun x=>m-x.1.2) ⟨((v,[]),0),by simp⟩ (FE.trans (FE.perm (H:=[_,_,_]) (L:=[(rr,_),(q,_),(rc,_)]) (by repeat' (first|exact trivial|(refine And.intro (by simp only[Z4, *,if_true,if_false];try rfl) (And.intro (by simp[Zj,Zb, *]) ?_))))) (FE.virt2 (s1:=9) (s2:=16) (gs:=[T nm,T lf,.own q 1 0 rs.length,B lit,Zu,Zu]) 4 5 rfl hv hvn rfl hv3 hvn3)) (by simp[E2]) (by simp) ?_
  clear hv hvn hv3 hvn3 h7 hn7
  rintro ⟨⟨⟨q2,l⟩,i⟩,hi,hl,hd⟩ hn2
  dsimp only at hi hl hd hn2 ⊢
  have h4:=ZO hn2
  (replace h4:=h4;simp only[VN] at h4)
  refine YN mxd ?_
  rcases nL i m with hlt|hge
  ·((refine R1 (jO @Z4 (jO @ZR (jO @ZS h4))) ?_;with_reducible repeat' first|intro h|apply jO);(repeat' (have h:=ZO h;simp only[ZC,Zx,ZH,Zz,and_true,true_and] at h;(refine R1 (jO @Z4 (jO @ZR (jO @ZS (jO h4 h)))) ?_;with_reducible repeat' first|exact trivial|intro h|refine aO ?_|refine eO ?_|apply jO))))
   all_goals try exact oF
   refine callS.dv (wz90 3 (by omega)) (by simp only[Z4,h4,if_true,if_false]) ?_
   rintro _ ⟨d0,hd0,rfl⟩
   have e1:(1:Int)+(d0:Int)=((d0+1:Nat):Int):=by omega
   ((refine R1 (jO @Z4 (jO @ZR (jO @ZS (jO h4 e1)))) ?_);(repeat' (have h:=ZO h;simp only[ZC,Zx,ZH,Zz,and_true,true_and] at h;(refine R1 (jO @Z4 (jO @ZR (jO @ZS (jO h4 (jO e1 h))))) ?_;with_reducible repeat' first|exact trivial|intro h|refine aO ?_|refine eO ?_|apply jO))))
   refine callS.dv (Dc.exp (o166 (d0+1) (by omega))) (by simp only[Z4,h4,if_true,if_false]) ?_
   rintro _ ⟨e,he,rfl⟩
   have hee:shEx e:=shD_ex (by omega) he
   ((refine R1 (jO @Z4 (jO @ZR (jO @ZS (jO h4 @XE)))) ?_);(repeat' (have h:=ZO h;simp only[ZC,Zx,ZH,Zz,and_true,true_and] at h;(refine R1 (jO @Z4 (jO @ZR (jO @ZS (jO h4 (jO @XE h))))) ?_;with_reducible repeat' first|exact trivial|intro h|refine aO ?_|refine eO ?_|apply jO))))
   refine callS.eq (w153 e _ (shEx_ok hee).1 (shEx_ok hee).2) ?_
   ((refine R1 (jO @Z4 (jO @ZR (jO @ZS (jO h4 @XE)))) ?_;with_reducible repeat' first|intro h|apply jO);(repeat' (have h:=ZO h;simp only[ZC,Zx,ZH,Zz,and_true,true_and] at h;(refine R1 (jO @Z4 (jO @ZR (jO @ZS (jO h4 (jO @XE h))))) ?_;with_reducible repeat' first|exact trivial|intro h|refine aO ?_|refine eO ?_|apply jO))))
   all_goals try exact oF
   ·have e2:(rs.length:Int)+1=((rs.length+1:Nat):Int):=by omega
    rw[e2]
    refine callA.dv (wz90 _ (by omega)) (by simp only[Z4,h4,if_true,if_false]) ?_
    rintro _ ⟨ps,hps,rfl⟩
    ((refine R1 (jO @Z4 (jO @ZR (jO @ZS (jO h4 @XE)))) ?_);(repeat' (have h:=ZO h;simp only[ZC,Zx,ZH,Zz,and_true,true_and] at h;(refine R1 (jO @Z4 (jO @ZR (jO @ZS (jO h4 (jO @XE h))))) ?_;with_reducible repeat' first|exact trivial|intro h|refine aO ?_|refine eO ?_|apply jO))))
    refine callA.dv w167 (by simp only[Z4,h4,if_true,if_false]) ?_
    rintro _ ⟨n2,hn2',rfl⟩
    ((refine R1 (jO @Z4 (jO @ZR (jO @ZS (jO h4 (jO @XE (jO @List.length_append.{0} (jO @List.length_singleton.{0} (jO @List.length_map.{0,0} (jO @List.length_take.{0} @Ya))))))))) ?_;with_reducible repeat' intro h);(repeat' (have h:=ZO h;simp only[ZC,Zx,ZH,Zz,and_true,true_and] at h;(refine R1 (jO @Z4 (jO @ZR (jO @ZS (jO h4 (jO @XE (jO @List.length_append.{0} (jO @List.length_singleton.{0} (jO @List.length_map.{0,0} (jO @List.length_take.{0} (jO @Ya h)))))))))) ?_;with_reducible repeat' intro h))))
    all_goals try exact oF
    rename_i r3 _ _ r4 _
    rw[tL (by simp)]
    exact nxF ⟨((r4,l++[⟨ps,n2,e⟩]),i+1),by dsimp only;omega,by simp;omega,fun y hy=>(List.mem_append.1 hy).elim (hd y) fun h=>by
     rw[List.mem_singleton] at h;subst h;exact ⟨hn2',hee⟩⟩ (by dsimp only;omega) (FE.perm (H:=[_,_,_,_,_,_]) (L:=[(r4,_),(v3,_),(rr,_),(q,_),(rc,_)]) (by repeat' (first|exact trivial|(refine And.intro (by simp only[Z4, *,if_true,if_false];try rfl) (And.intro (by simp[Zj,Zb, *]) ?_))))) (by simp[E2]) (by simp)
   ·exact nx ⟨((q2,l),i+1),by dsimp only;omega,by dsimp only;omega,hd⟩ (by dsimp only;omega) (by simp[E2]) rfl
  ·((refine R1 (jO @Z4 (jO @ZR (jO @ZS h4))) ?_;with_reducible repeat' intro h);(repeat' (have h:=ZO h;simp only[ZC,Zx,ZH,Zz,and_true,true_and] at h;(refine R1 (jO @Z4 (jO @ZR (jO @ZS (jO h4 h)))) ?_;with_reducible repeat' first|exact trivial|intro h|refine aO ?_|refine eO ?_|apply jO))))
   all_goals try exact oF
   refine callS.dv (w89 4) (by simp only[Z4,h4,if_true,if_false]) ?_
   rintro _ ⟨b,rfl⟩
   cases b
   ·((refine R1 (jO @Z4 (jO @ZR (jO @ZS h4))) ?_);(repeat' (have h:=ZO h;simp only[ZC,Zx,ZH,Zz,and_true,true_and] at h;(refine R1 (jO @Z4 (jO @ZR (jO @ZS (jO h4 h)))) ?_;with_reducible repeat' first|exact trivial|intro h|refine aO ?_|refine eO ?_|apply jO))))
    have hf:frR ⟨nm,lf,rs,lit,l,[]⟩:=⟨hnm,hlf,⟨by show rs.length≤3;omega,hrs⟩,⟨by show l.length≤3;omega,hd⟩,by simp⟩
    exact ⟨RuF ⟨nm,lf,rs,lit,l,[]⟩ q q2,[(q2,9,l.map Qn),(q,1,rs.map T)],[_,_,_,_,_],[(v3,16,[])],⟨_,q,q2,hf,rfl,rfl⟩,.agg (.cons .refl (.cons .refl (.cons .refl (.cons .refl (.cons .refl (.cons (Bor.allM (l:=([]:List Con)) view_Co Z7 rfl) .nil)))))),rfl,(by repeat' (first|exact trivial|(refine And.intro (by simp only[Z4, *,if_true,if_false];try rfl) (And.intro (by simp[Zj,Zb, *]) ?_))))⟩
   ·((refine R1 (jO @Z4 (jO @ZR (jO @ZS h4))) ?_);(repeat' (have h:=ZO h;simp only[ZC,Zx,ZH,Zz,and_true,true_and] at h;(refine R1 (jO @Z4 (jO @ZR (jO @ZS (jO h4 h)))) ?_;with_reducible repeat' first|exact trivial|intro h|refine aO ?_|refine eO ?_|apply jO))))
    refine callA.dv (wz90 4096 (by omega)) (by simp only[Z4,h4,if_true,if_false]) ?_
    rintro _ ⟨cn,hcn,rfl⟩
    ((refine R1 (jO @Z4 (jO @ZR (jO @ZS h4))) ?_);(repeat' (have h:=ZO h;simp only[ZC,Zx,ZH,Zz,and_true,true_and] at h;(refine R1 (jO @Z4 (jO @ZR (jO @ZS (jO h4 h)))) ?_;with_reducible repeat' first|exact trivial|intro h|refine aO ?_|refine eO ?_|apply jO))))
    refine callS.eq (w168 _ _) ?_
    ((refine R1 (jO @Z4 (jO @ZR (jO @ZS (jO h4 (jO @List.length_append.{0} (jO @List.length_singleton.{0} (jO @List.length_map.{0,0} (jO @List.length_take.{0} @Ya)))))))) ?_;with_reducible repeat' intro h);(repeat' (have h:=ZO h;simp only[ZC,Zx,ZH,Zz,and_true,true_and] at h;(refine R1 (jO @Z4 (jO @ZR (jO @ZS (jO h4 (jO @List.length_append.{0} (jO @List.length_singleton.{0} (jO @List.length_map.{0,0} (jO @List.length_take.{0} (jO @Ya h))))))))) ?_;with_reducible repeat' intro h))))
    all_goals try exact oF
    rename_i r3 _ _ r4 _
    have hcn2:shCo ⟨⟨#[115]⟩,⟨#[99]⟩,.mk 6 0 0 0 noS noS [],.mk 1 cn 0 2 noS noS []⟩:=⟨(by decide:shT ⟨#[115]⟩),(by decide:shT ⟨#[99]⟩),conE_sh6,conE_sh⟩
    have hf:frR ⟨nm,lf,rs,lit,l,[⟨⟨#[115]⟩,⟨#[99]⟩,.mk 6 0 0 0 noS noS [],.mk 1 cn 0 2 noS noS []⟩]⟩:=⟨hnm,hlf,⟨by show rs.length≤3;omega,hrs⟩,⟨by show l.length≤3;omega,hd⟩,by simp,fun c hc=>by rw[List.mem_singleton.1 hc];exact hcn2⟩
    exact ⟨RuF _ q q2,[(q2,9,l.map Qn),(q,1,rs.map T)],[_,_,_,_,_,_],[(r4,16,_)],⟨_,q,q2,hf,rfl,rfl⟩,.agg (.cons .refl (.cons .refl (.cons .refl (.cons .refl (.cons .refl (.cons (bor_con1 (e:= .mk 6 0 0 0 noS noS []) (f:= .mk 1 cn 0 2 noS noS []) rfl rfl Z7) .nil)))))),rfl,(by repeat' (first|exact trivial|(refine And.intro (by simp only[Z4, *,if_true,if_false];try rfl) (And.intro (by simp[Zj,Zb, *]) ?_))))⟩
theorem w65:Dv Tryz.prog 65 [] (fun v=>∃r,shRu r∧v=Ru r):=by
 refine Dv.of fun rc H=> ?_
 refine Z8 mxd i65 rfl (by simp) ?_;refine X0 ?_
 ((refine R1 (jO @Z4 (jO @ZR @ZS)) ?_);(repeat' (have h:=ZO h;simp only[ZC,Zx,ZH,Zz,and_true,true_and] at h;(refine R1 (jO @Z4 (jO @ZR (jO @ZS h))) ?_;with_reducible repeat' first|exact trivial|intro h|refine aO ?_|refine eO ?_|apply jO))))
 refine callS.dc z88 Z7 ?_
 rintro _ _ ⟨r,q1,q2,hr,rfl,rfl⟩ hn
 have h4:=ZO hn
 simp only[List.cons_append,List.nil_append] at h4
 (replace h4:=h4;simp only[VN] at h4)
 have hsh:=frR_sh hr
 have hr3:=hr.2.2.1.1
 have hr4:=hr.2.2.2.1.1
 ((refine R1 (jO @Z4 (jO @ZR (jO @ZS h4))) ?_;with_reducible repeat' intro h);(repeat' (have h:=ZO h;simp only[ZC,Zx,ZH,Zz,and_true,true_and] at h;(refine R1 (jO @Z4 (jO @ZR (jO @ZS (jO h4 h)))) ?_))))
 rename_i rr _
 have h6:=h
 refine callS.dv (wz90 12 (by omega)) (by simp only[Z4, *,if_true,if_false]) ?_
 rintro _ ⟨k,hk,rfl⟩
 ((refine R1 (jO @Z4 (jO @ZR (jO @ZS (jO h4 h6)))) ?_;with_reducible repeat' first|intro h|apply jO);(repeat' (have h:=ZO h;simp only[ZC,Zx,ZH,Zz,and_true,true_and] at h;(refine R1 (jO @Z4 (jO @ZR (jO @ZS (jO h4 (jO h6 h))))) ?_))))
 ·refine callS.dv (w133 _ rfl (by simp)) (by simp only[Z4, *,if_true,if_false]) ?_
  intro _ hg;obtain ⟨s,hs,rfl⟩:=X1 rfl hg;clear hg
  ((refine R1 (jO @Z4 (jO @ZR (jO @ZS (jO h4 h6)))) ?_);(repeat' (have h:=ZO h;simp only[ZC,Zx,ZH,Zz,and_true,true_and] at h;(refine R1 (jO @Z4 (jO @ZR (jO @ZS (jO h4 (jO h6 h))))) ?_;with_reducible repeat' first|exact trivial|intro h|refine aO ?_|refine eO ?_|apply jO))))
  exact ⟨_,[_,_,_,_],[(q2,9,r.eqs.map Qn),(q1,1,r.right.map T)],⟨{ r with name:=s },⟨hs,hsh.2⟩,rfl⟩,bor_RuF (r:={ r with name:=s }) (L:=r.right) (by simp[Z5,names, *]) (Nat.le_refl _) List.take_length Z7 rfl,rfl,(by repeat' (first|exact trivial|(refine And.intro (by simp only[Z4, *,if_true,if_false];try rfl) (And.intro (by simp[Zj,Zb, *]) ?_))))⟩
 ·((refine R1 (jO @Z4 (jO @ZR (jO @ZS (jO h4 (jO h6 (jO @soT_T2 (jO @List.length_append.{0} (jO @List.length_cons.{0} (jO @List.length_nil.{0} (jO @List.length_map.{0,0} (jO @List.length_take.{0} @Ya))))))))))) ?_);(repeat' (have h:=ZO h;simp only[ZC,Zx,ZH,Zz,and_true,true_and] at h;(refine R1 (jO @Z4 (jO @ZR (jO @ZS (jO h4 (jO h6 (jO @soT_T2 (jO @List.length_append.{0} (jO @List.length_cons.{0} (jO @List.length_nil.{0} (jO @List.length_map.{0,0} (jO @List.length_take.{0} (jO @Ya h)))))))))))) ?_;with_reducible repeat' first|exact trivial|intro h|refine aO ?_|refine eO ?_|apply jO))))
  all_goals try exact oF
  rename_i r3 _
  have h8:=h
  ((refine R1 (jO @Z4 (jO @ZR (jO @ZS (jO h4 (jO h6 (jO h8 (jO @soT_T2 (jO @List.length_append.{0} (jO @List.length_cons.{0} (jO @List.length_nil.{0} (jO @List.length_map.{0,0} (jO @List.length_take.{0} @Ya)))))))))))) ?_;with_reducible repeat' intro h);(repeat' (have h:=ZO h;simp only[ZC,Zx,ZH,Zz,and_true,true_and] at h;(refine R1 (jO @Z4 (jO @ZR (jO @ZS (jO h4 (jO h6 (jO h8 (jO @soT_T2 (jO @List.length_append.{0} (jO @List.length_cons.{0} (jO @List.length_nil.{0} (jO @List.length_map.{0,0} (jO @List.length_take.{0} (jO @Ya h))))))))))))) ?_))))
  all_goals try exact oF
  rename_i r4 _
  rw[tL (by simp)]
  have hs2:shT ⟨#[115]⟩:=by decide
  exact ⟨_,[_,_,_,_,_],[(q2,9,r.eqs.map Qn),(r4,1,r.right.map T++[T ⟨#[115]⟩,T ⟨#[115]⟩])],⟨{ r with right:=r.right++[⟨#[115]⟩,⟨#[115]⟩] },⟨hsh.1,hsh.2.1,by show (r.right++[_,_]).length ≤ 5;simp;omega,fun s hs=>(List.mem_append.1 hs).elim (hsh.2.2.2.1 s) (fun hs=>by simp only[List.mem_cons,List.not_mem_nil,or_false,or_self] at hs;subst hs;exact hs2),hsh.2.2.2.2⟩,rfl⟩,bor_RuF (r:={ r with right:=r.right++[⟨#[115]⟩,⟨#[115]⟩] }) (L:=r.right++[⟨#[115]⟩,⟨#[115]⟩]) (by simp[Z5,names, *]) (by simp) (tL (by simp)) Z7 rfl,rfl,(by repeat' (first|exact trivial|(refine And.intro (by simp only[Z4, *,if_true,if_false];try rfl) (And.intro (by simp[Zj,Zb, *]) ?_))))⟩
 ·refine callA.dv (wz90 5 (by omega)) (by simp only[Z4, *,if_true,if_false]) ?_
  rintro _ ⟨ps,hps,rfl⟩
  ((refine R1 (jO @Z4 (jO @ZR (jO @ZS (jO h4 h6)))) ?_);(repeat' (have h:=ZO h;simp only[ZC,Zx,ZH,Zz,and_true,true_and] at h;(refine R1 (jO @Z4 (jO @ZR (jO @ZS (jO h4 (jO h6 h))))) ?_;with_reducible repeat' first|exact trivial|intro h|refine aO ?_|refine eO ?_|apply jO))))
  refine callA.dv w141 (by simp only[Z4,h4,h6,if_true,if_false]) ?_
  rintro _ ⟨e,he,rfl⟩
  ((refine R1 (jO @Z4 (jO @ZR (jO @ZS (jO h4 (jO h6 (jO @XE (jO @List.length_append.{0} (jO @List.length_singleton.{0} (jO @List.length_map.{0,0} (jO @List.length_take.{0} @Ya)))))))))) ?_;with_reducible repeat' intro h);(repeat' (have h:=ZO h;simp only[ZC,Zx,ZH,Zz,and_true,true_and] at h;(refine R1 (jO @Z4 (jO @ZR (jO @ZS (jO h4 (jO h6 (jO @XE (jO @List.length_append.{0} (jO @List.length_singleton.{0} (jO @List.length_map.{0,0} (jO @List.length_take.{0} (jO @Ya h))))))))))) ?_;with_reducible repeat' intro h))))
  all_goals try exact oF
  rename_i r3 _ _ r4 _
  rw[tL (by simp)]
  have hs2:shT ⟨#[97]⟩:=by decide
  exact ⟨_,[_,_,_,_,_],[(r4,9,r.eqs.map Qn++[Qn ⟨(ps:Int)-1,⟨#[97]⟩,e⟩]),(q1,1,r.right.map T)],⟨{ r with eqs:=r.eqs++[⟨(ps:Int)-1,⟨#[97]⟩,e⟩] },⟨hsh.1,hsh.2.1,hsh.2.2.1,hsh.2.2.2.1,by show (r.eqs++[_]).length ≤ 64;simp;omega,fun s hs=>(List.mem_append.1 hs).elim (hsh.2.2.2.2.2.1 s) (fun hs=>by rw[List.mem_singleton.1 hs];exact ⟨hs2,he⟩),hsh.2.2.2.2.2.2⟩,rfl⟩,bor_RuF (r:={ r with eqs:=r.eqs++[⟨(ps:Int)-1,⟨#[97]⟩,e⟩] }) (L:=r.right) (by simp[Z5,names, *]) (Nat.le_refl _) List.take_length (by simp[Z5]) (by simp),rfl,(by repeat' (first|exact trivial|(refine And.intro (by simp only[Z4, *,if_true,if_false];try rfl) (And.intro (by simp[Zj,Zb, *]) ?_))))⟩
 ·((refine R1 (jO @Z4 (jO @ZR (jO @ZS (jO h4 h6)))) ?_);(repeat' (have h:=ZO h;simp only[ZC,Zx,ZH,Zz,and_true,true_and] at h;(refine R1 (jO @Z4 (jO @ZR (jO @ZS (jO h4 (jO h6 h))))) ?_;with_reducible repeat' first|exact trivial|intro h|refine aO ?_|refine eO ?_|apply jO))))
  exact ⟨_,[_,_,_,_],[(q2,9,r.eqs.map Qn),(q1,1,r.right.map T)],⟨{ r with left:=⟨#[109,97,120]⟩ },⟨hsh.1,(by decide:shT ⟨#[109,97,120]⟩),hsh.2.2⟩,rfl⟩,bor_RuF (r:={ r with left:=⟨#[109,97,120]⟩ }) (L:=r.right) (by simp[Z5,names, *]) (Nat.le_refl _) List.take_length Z7 rfl,rfl,(by repeat' (first|exact trivial|(refine And.intro (by simp only[Z4, *,if_true,if_false];try rfl) (And.intro (by simp[Zj,Zb, *]) ?_))))⟩
 ·((refine R1 (jO @Z4 (jO @ZR (jO @ZS (jO h4 h6)))) ?_);(repeat' (have h:=ZO h;simp only[ZC,Zx,ZH,Zz,and_true,true_and] at h;(refine R1 (jO @Z4 (jO @ZR (jO @ZS (jO h4 (jO h6 h))))) ?_;with_reducible repeat' first|exact trivial|intro h|refine aO ?_|refine eO ?_|apply jO))))
  have e2:(r.right.length:Int)+1=((r.right.length+1:Nat):Int):=by omega
  rw[e2]
  refine callA.dv (wz90 _ (by omega)) (by simp only[Z4,h4,h6,if_true,if_false]) ?_
  rintro _ ⟨m,hm,rfl⟩
  ((refine R1 (jO @Z4 (jO @ZR (jO @ZS (jO h4 h6)))) ?_);(repeat' (have h:=ZO h;simp only[ZC,Zx,ZH,Zz,and_true,true_and] at h;(refine R1 (jO @Z4 (jO @ZR (jO @ZS (jO h4 (jO h6 h))))) ?_;with_reducible repeat' first|exact trivial|intro h|refine aO ?_|refine eO ?_|apply jO))))
  all_goals try exact oF
  simp only[Int.toNat_zero,Int.sub_zero,Int.toNat_natCast]
  exact ⟨_,[_,_,_,_],[(q2,9,r.eqs.map Qn),(q1,1,r.right.map T)],⟨{ r with right:=r.right.take m },⟨hsh.1,hsh.2.1,by show (r.right.take m).length ≤ 5;rw[List.length_take];omega,fun s hs=>hsh.2.2.2.1 s (List.mem_of_mem_take hs),hsh.2.2.2.2⟩,rfl⟩,bor_RuF (r:={ r with right:=r.right.take m }) (L:=r.right) (by simp[Z5,names, *]) (by omega) rfl Z7 rfl,rfl,(by repeat' (first|exact trivial|(refine And.intro (by simp only[Z4, *,if_true,if_false];try rfl) (And.intro (by simp[Zj,Zb, *]) ?_))))⟩
 ·exact ⟨_,[_,_,_,_],[(q2,9,r.eqs.map Qn),(q1,1,r.right.map T)],⟨r,hsh,rfl⟩,bor_RuF (r:=r) (L:=r.right) (by simp[Z5,names, *]) (Nat.le_refl _) List.take_length Z7 rfl,rfl,(by repeat' (first|exact trivial|(refine And.intro (by simp only[Z4, *,if_true,if_false];try rfl) (And.intro (by simp[Zj,Zb, *]) ?_))))⟩
end Go.Proofs.YtdlmjpfgpjkebaaGreatDoor
namespace Go.Proofs.YtdlmjpfgpjkebaaGreatDoor
open Go.Gh
open Nat (reduceEqDiff reduceLeDiff reduceAdd reduceLT)
open Int (reduceNe)
open Go.Lib
theorem w62 (s:ByteArray) (hs:(Z9 s).length ≤ 500000) (es:List GV) (ha:noAg es=true) (hl:0<es.length) (hm:ltQ 32 es=true):Dv Tryz.prog 62 [T s,.sl 1 es] (fun g=>∃t,(Z9 t).length ≤ (Z9 s).length + 32∧g=T t):=by
 refine Dv.of0 fun rc H=> ?_
 refine Z8 mxd i62 rfl (by simp) ?_;refine X0 ?_
 (refine V0 ?_)
 refine callS.dv (wz90 ((Z9 s).length + 1) (by omega)) Z7 ?_
 rintro _ ⟨k,hk,rfl⟩
 (refine V0 ?_)
 refine callS.dv (wz90 6 (by omega)) Z7 ?_
 rintro _ ⟨j,hj,rfl⟩
 (refine V0 ?_;with_reducible repeat' first|intro h|refine aO ?_|apply jO)
 all_goals try exact oF
 ·refine callA.dv (w133 es ha hl) Z7 ?_
  intro g hg
  obtain ⟨t,ht,rfl⟩:=ltQ_mem hm hg
  (refine V0 ?_;with_reducible repeat' apply jO)
  all_goals try exact oF
  all_goals first
   | (simp only[chA,List.length_append,List.length_take,List.length_drop];omega)
   | exact ⟨_,by simp only[chA,List.length_append,List.length_take,List.length_drop];omega,rfl⟩
   | trace_state
 ·exact ⟨_,by simp only[chA,List.length_take,List.length_drop];omega,rfl⟩
 ·exact ⟨_,by omega,rfl⟩
end Go.Proofs.YtdlmjpfgpjkebaaGreatDoor
