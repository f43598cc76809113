/- The tied card of the law holds. No condition. -/
import Derived.Test.YtcegkonjphbfaaaGreatDoorPpr13
set_option maxHeartbeats 40000000
set_option maxRecDepth 20000
set_option linter.unusedSimpArgs false
set_option linter.unusedVariables false
namespace Go.Proofs.YtcegkonjphbfaaaGreatDoor
open Go.Gh
open Nat (reduceEqDiff reduceLeDiff reduceAdd reduceLT)
open Int (reduceNe)
open Go.Lib
theorem FR.closeL2 {g:GV} {H:GH} {r r1 sz sz1 j n:Nat} {L gs ks:List GV} (hne:¬r=r1) (hg:gs[j]? = some (.own r1 sz1 0 n)) (hn:ks.length=n) :
 FR g ((r,sz,L++[.agg gs])::(r1,sz1,ks)::H) g ((r,sz,L++[.agg (gs.set j (.osl sz1 ks))])::H):=by
 have h:=FR.close (g:=g) (H:=(r,sz,L++[.agg gs])::(r1,sz1,ks)::H) (r:=r) (r1:=r1) (i:=L.length) (j:=j) hne Z0 (by simp) hg (by rw[ZX hne,Z0]) hn
 rw[YU,hdel_old hne,hdel_new] at h
 simpa using h
theorem o30 (s:ByteArray) (hs:(Z9 s).length ≤ 1048576) (re rr:Nat) (es:List Eqn) (hl:es.length≤2097152) (nm lf:ByteArray) (A:GV) (lit:Bool) (C:GV) (Z:GH) (hT:∀x∈Tryz.tb,x∈Z) :
 Gc 30 [.ptr rr 6 0 0,T s] ((re,9,es.map QnO)::(rr,6,[.agg [T nm,T lf,A,B lit,.own re 9 0 es.length,C]])::Z)
  (fun g H'=>∃re',g=B (rqI nmN (Z9 s)).2 ∧ H'=(re',9,(es++[(rqI nmN (Z9 s)).1]).map QnO)::(rr,6,[.agg [T nm,T lf,A,B lit,.own re' 9 0 (es.length+1),C]])::Z):=by
 have hpre:(Z9 ⟨#[101,113,32,36]⟩)=eqP:=rfl
 have hdf:(Z9 ⟨#[32,58,61,32]⟩)=dfT:=rfl
 have hdot:(Z9 ⟨#[46]⟩)=[46]:=rfl
 have q1:=w68 s ⟨#[101,113,32,36]⟩
 rw[hpre] at q1
 have l1:=trim_len eqP (Z9 s)
 have q2:=p67 ⟨(Ze eqP (Z9 s)).toArray⟩ ⟨#[32,58,61,32]⟩ (by rw[chA];omega)
 rw[hdf,chA] at q2
 have l2:=X3 (Ze eqP (Z9 s)) dfT
 unfold rqI
 generalize Ze eqP (Z9 s)=X at *
 generalize cut X dfT=Y at *
 obtain ⟨a,b,f⟩:=Y
 dsimp only at q2 l2 ⊢
 have q3:=p67 ⟨a.toArray⟩ ⟨#[46]⟩ (by rw[chA];omega)
 rw[hdot,chA] at q3
 have l3:=X3 a [46]
 generalize cut a [46]=Y at *
 obtain ⟨c,d,f2⟩:=Y
 dsimp only at q3 l3 ⊢
 have q4:=p70 ⟨c.toArray⟩ (by rw[chA];omega)
 rw[chA] at q4
 have q5:=fun H h=>o69 ⟨b.toArray⟩ (by rw[chA];omega) H h
 simp only[chA] at q5
 generalize nmN c=U at *
 generalize ZD b=V at *
 obtain ⟨n,ok⟩:=U
 obtain ⟨e,err⟩:=V
 dsimp only at q4 q5 ⊢
 have hT2:∀x∈Tryz.tb,x∈(re,9,es.map QnO)::(rr,6,[GV.agg [T nm,T lf,A,B lit,.own re 9 0 es.length,C]])::Z:=fun x hx=>List.mem_cons_of_mem _ (List.mem_cons_of_mem _ (hT x hx))
 refine GCalls.nd fun hn0=> ?_
 have h7:=Y3 hn0
 (replace h7:=h7;simp only[VN] at h7)
 have key:Gc 30 [.ptr rr 6 0 0,T s] ((re,9,es.map QnO)::(rr,6,[.agg [T nm,T lf,A,B lit,.own re 9 0 es.length,C]])::Z) (fun g H'=>∃r r1 r2 y,(¬r2=r1∧¬r2=r∧¬r2=rr∧¬r1=r∧¬r1=rr∧¬r=rr)∧g=B (ok&&decide (err<0))∧H'=(r2,9,es.map QnO++[.agg [I n,T ⟨d.toArray⟩,I e.kind,I e.n,I e.pos,I e.type,T e.sym,T e.name,.own r 7 0 e.args.length]])::(r1,9,y)::(r,7,e.args.map ExO)::(rr,6,[.agg [T nm,T lf,A,B lit,.own r2 9 0 (es.length+1),C]])::Z):=by
  refine Z8 mxd i30 rfl (by simp) ?_;refine X0 ?_
  (refine V0 ?_)
  refine callS.eq q1 ?_
  (refine V0 ?_)
  refine callS.eqT q2 Tryz.tbH hT2 ?_
  (refine V0 ?_)
  refine callS.eqT q3 Tryz.tbH hT2 ?_
  (refine V0 ?_)
  refine callS.eqT q4 Tryz.tbH hT2 ?_
  (refine V0 ?_)
  refine callS.of (q5 _ fun x hx=>hT2 x (Tryz.tbE x hx)) ?_
  rintro _ _ ⟨_,⟨r,rfl,rfl⟩,rfl⟩ hn
  simp only[List.cons_append,List.nil_append] at hn ⊢
  have h8:=Y3 hn
  (replace h8:=h8;simp only[VN] at h8)
  have htk:(es.map QnO).take es.length=es.map QnO:=tL (by simp)
  cases ok
  all_goals (
   (refine V1 (jO h7 (jO h8 (jO @XE (jO @List.length_append.{0} (jO @List.length_singleton.{0} (jO @List.length_map.{0,0} @maxLv)))))) ?_;with_reducible repeat' first|intro h|refine aO ?_)
   all_goals try exact oF
   all_goals (
    rename_i r1 _ r2
    rw[htk]
    first|exact ⟨r,r1,r2,_,by simp[*],rfl⟩|exact ⟨r,r1,r2,_,by simp[*],by simp,rfl⟩))
 refine key.fr ?_
 rintro _ _ ⟨r,r1,r2,y,⟨n1,n2,n3,n4,n5,n6⟩,rfl,rfl⟩
 have m1:¬r1=r2:=fun h=>n1 h.symm
 have m2:¬r=r2:=fun h=>n2 h.symm
 have m3:¬rr=r2:=fun h=>n3 h.symm
 have m4:¬r=r1:=fun h=>n4 h.symm
 have m5:¬rr=r1:=fun h=>n5 h.symm
 have m6:¬rr=r:=fun h=>n6 h.symm
 refine ⟨_,_,FR.trans (FR.perm (H:=[_,_,_,_]) (L:=[(r2,_),(r,_),(rr,_)]) (by repeat' (first|exact trivial|(refine And.intro (by simp only[Zd, *,if_true,if_false];try rfl) (And.intro (by simp[YG,Yt, *]) ?_))))) (FR.closeL2 (j:=8) n2 rfl (by simp)),r2,rfl,?_⟩
 simp
theorem o29 (s:ByteArray) (hs:(Z9 s).length ≤ 1048576) (re rr:Nat) (cs:List Con) (hl:cs.length≤2097152) (nm lf:ByteArray) (A:GV) (lit:Bool) (C:GV) (Z:GH) (hT:∀x∈Tryz.tb,x∈Z) :
 Gc 29 [.ptr rr 6 0 0,T s] ((re,16,cs.map CoO)::(rr,6,[.agg [T nm,T lf,A,B lit,C,.own re 16 0 cs.length]])::Z)
  (fun g H'=>∃re',g=B (rcI (Z9 s)).2 ∧ H'=(re',16,(cs++[(rcI (Z9 s)).1]).map CoO)::(rr,6,[.agg [T nm,T lf,A,B lit,C,.own re' 16 0 (cs.length+1)]])::Z):=by
 have hpre:(Z9 ⟨#[112,117,116,32]⟩)=puP:=rfl
 have hdf:(Z9 ⟨#[32,58,61,32]⟩)=dfT:=rfl
 have hof:(Z9 ⟨#[32,111,102,32]⟩)=ofP':=rfl
 have hdot:(Z9 ⟨#[46]⟩)=[46]:=rfl
 have q1:=w68 s ⟨#[112,117,116,32]⟩
 rw[hpre] at q1
 have l1:=trim_len puP (Z9 s)
 have q2:=p67 ⟨(Ze puP (Z9 s)).toArray⟩ ⟨#[32,58,61,32]⟩ (by rw[chA];omega)
 rw[hdf,chA] at q2
 have l2:=X3 (Ze puP (Z9 s)) dfT
 unfold rcI
 generalize Ze puP (Z9 s)=X at *
 generalize cut X dfT=Y at *
 obtain ⟨a,b,f⟩:=Y
 dsimp only at q2 l2 ⊢
 have q3:=p67 ⟨a.toArray⟩ ⟨#[32,111,102,32]⟩ (by rw[chA];omega)
 rw[hof,chA] at q3
 have l3:=X3 a ofP'
 generalize cut a ofP'=Y at *
 obtain ⟨c,d,f2⟩:=Y
 dsimp only at q3 l3 ⊢
 have q4:=p67 ⟨c.toArray⟩ ⟨#[46]⟩ (by rw[chA];omega)
 rw[hdot,chA] at q4
 generalize cut c [46]=Y at *
 obtain ⟨u,v,f3⟩:=Y
 dsimp only at q4 ⊢
 have q5:=fun H h=>o69 ⟨d.toArray⟩ (by rw[chA];omega) H h
 have q6:=fun H h=>o69 ⟨b.toArray⟩ (by rw[chA];omega) H h
 simp only[chA] at q5 q6
 generalize ZD d=U at *
 generalize ZD b=V at *
 obtain ⟨e1,er1⟩:=U
 obtain ⟨e2,er2⟩:=V
 dsimp only at q5 q6 ⊢
 have hT2:∀x∈Tryz.tb,x∈(re,16,cs.map CoO)::(rr,6,[GV.agg [T nm,T lf,A,B lit,C,.own re 16 0 cs.length]])::Z:=fun x hx=>List.mem_cons_of_mem _ (List.mem_cons_of_mem _ (hT x hx))
 refine GCalls.nd fun hn0=> ?_
 have h7:=Y3 hn0
 (replace h7:=h7;simp only[VN] at h7)
 have key:Gc 29 [.ptr rr 6 0 0,T s] ((re,16,cs.map CoO)::(rr,6,[.agg [T nm,T lf,A,B lit,C,.own re 16 0 cs.length]])::Z) (fun g H'=>∃r rv r1 r2 y,((¬r2=r1∧¬r2=rv∧¬r2=r∧¬r2=rr∧¬r1=rv∧¬r1=r∧¬r1=rr)∧¬rv=r∧¬rv=rr∧¬r=rr)∧g=B (decide (er1<0)&&decide (er2<0))∧H'=(r2,16,cs.map CoO++[.agg [T ⟨u.toArray⟩,T ⟨v.toArray⟩,I e1.kind,I e1.n,I e1.pos,I e1.type,T e1.sym,T e1.name,.own r 7 0 e1.args.length,I e2.kind,I e2.n,I e2.pos,I e2.type,T e2.sym,T e2.name,.own rv 7 0 e2.args.length]])::(r1,16,y)::(rv,7,e2.args.map ExO)::(r,7,e1.args.map ExO)::(rr,6,[.agg [T nm,T lf,A,B lit,C,.own r2 16 0 (cs.length+1)]])::Z):=by
  refine Z8 mxd i29 rfl (by simp) ?_;refine X0 ?_
  (refine V0 ?_)
  refine callS.eq q1 ?_
  (refine V0 ?_)
  refine callS.eqT q2 Tryz.tbH hT2 ?_
  (refine V0 ?_)
  refine callS.eqT q3 Tryz.tbH hT2 ?_
  (refine V0 ?_)
  refine callS.eqT q4 Tryz.tbH hT2 ?_
  (refine V0 ?_)
  refine callS.of (q5 _ fun x hx=>hT2 x (Tryz.tbE x hx)) ?_
  rintro _ _ ⟨_,⟨r,rfl,rfl⟩,rfl⟩ hn
  simp only[List.cons_append,List.nil_append] at hn ⊢
  (refine V0 ?_)
  refine callS.of (q6 _ fun x hx=>List.mem_cons_of_mem _ (hT2 x (Tryz.tbE x hx))) ?_
  rintro _ _ ⟨_,⟨rv,rfl,rfl⟩,rfl⟩ hn
  simp only[List.cons_append,List.nil_append] at hn ⊢
  have h8:=Y3 hn
  (replace h8:=h8;simp only[VN] at h8)
  have htk:(cs.map CoO).take cs.length=cs.map CoO:=tL (by simp)
  (refine V1 (jO h7 (jO h8 (jO @XE (jO @List.length_append.{0} (jO @List.length_singleton.{0} (jO @List.length_map.{0,0} @maxLv)))))) ?_;with_reducible repeat' first|intro h|refine aO ?_|apply jO)
  all_goals try exact oF
  all_goals (
   rename_i r1 _ r2 _
   rw[htk]
   first|exact ⟨r,rv,r1,r2,_,by simp[*],rfl⟩|exact ⟨r,rv,r1,r2,_,by simp[*],by simp[*],rfl⟩)
 refine key.fr ?_
 rintro _ _ ⟨r,rv,r1,r2,y,⟨⟨n1,n2,n3,n4,n5,n6,n7⟩,n8,n9,n10⟩,rfl,rfl⟩
 have m1:¬r1=r2:=fun h=>n1 h.symm
 have m2:¬rv=r2:=fun h=>n2 h.symm
 have m3:¬r=r2:=fun h=>n3 h.symm
 have m4:¬rr=r2:=fun h=>n4 h.symm
 have m5:¬rv=r1:=fun h=>n5 h.symm
 have m6:¬r=r1:=fun h=>n6 h.symm
 have m7:¬rr=r1:=fun h=>n7 h.symm
 have m8:¬r=rv:=fun h=>n8 h.symm
 have m9:¬rr=rv:=fun h=>n9 h.symm
 have m10:¬rr=r:=fun h=>n10 h.symm
 refine ⟨_,_,FR.trans (FR.perm (H:=[_,_,_,_,_]) (L:=[(r2,_),(rv,_),(r,_),(rr,_)]) (by repeat' (first|exact trivial|(refine And.intro (by simp only[Zd, *,if_true,if_false];try rfl) (And.intro (by simp[YG,Yt, *]) ?_))))) (FR.trans (FR.closeL2 (j:=15) n2 rfl (by simp)) (FR.closeL2 (j:=8) n3 rfl (by simp))),r2,rfl,?_⟩
 simp
theorem p26 (s sep:ByteArray) (n:Nat) (hs:(Z9 s).length ≤ 1048576) (h1:1≤(Z9 sep).length) (hn:1≤n) (hn2:n≤1048576):PureT Tryz.prog Tryz.tb 26 [T s,T sep,I n] (· = TS ((splitN (Z9 s) (Z9 sep) n).map bA)):=
 PureT.bor ((o26 s sep n hs h1 hn hn2 (fun _ h=>h)).mono fun g H' ⟨r,h1,h2⟩=>by
  subst h1 h2
  exact Bor.seen (f:=T) (fun a=>by simp[view,Y7]) Z0 (by rw[List.length_map]))
theorem lo7 (r:Rul) (hs:okRu r) (hm:smRu r) (H:GH) (hT:∀x∈tab10 1,x∈H):Gc 7 [Ru r] H (fun g H'=>∃H1,(∃q,g = .own q 1 0 (YK r).length ∧ H1=[(q,1,((YK r).map bA).map T)])∧H'=H1++H):=by
 refine (o7 r hs hm H hT).fr ?_
 rintro g H' (⟨h1,rfl,rfl⟩|⟨q,rfl,rfl⟩)
 ·rw[h1]
  exact ⟨_,_,FR.trans (FR.addv (r:=vname H') (sz:=1) (vname_odd H') (vname_new H')) (FR.sub (Bor.virt (r:=vname H') (sz:=1))),_,⟨vname H',rfl,rfl⟩,rfl⟩
 ·exact ⟨_,_,FR.refl _ _,_,⟨q,rfl,rfl⟩,rfl⟩
theorem Tryz.parR (ls:List ByteArray) (hlen:ls.length≤1048576) (hls:∀l∈ls,(Z9 l).length ≤ 1048576) (H:GH) (hT:∀x∈Tryz.tb,x∈H) (Q:GV→GH→Prop)
 (hF:∀X,parI sp9 nmN (ls.map Z9)=none→Q (.tup [.agg [T noS,T noS,Zt,B false,Zt,Zt],B false]) (X++H))
 (hS:∀(R:Rul) (q q1 q2 q3 rr:Nat) (y:Nat×List GV) (z:List GV),parI sp9 nmN (ls.map Z9)=some R→neH ((q,y)::(q2,9,R.eqs.map QnO)::(rr,6,z)::(q3,16,R.cons.map CoO)::(q1,1,R.right.map T)::[])→Q (.tup [.agg [T R.name,T R.left,.own q1 1 0 R.right.length,B R.lit,.own q2 9 0 R.eqs.length,.own q3 16 0 R.cons.length],B true]) ((q,y)::(q2,9,R.eqs.map QnO)::(rr,6,z)::(q3,16,R.cons.map CoO)::(q1,1,R.right.map T)::H)) :
 Gc 8 [TS ls] H Q:=by
 refine GCalls.nd fun hn0=> ?_
 cases ls with
 | nil=>
  refine Z8 mxd i8 rfl (by simp) ?_;refine X0 ?_
  (refine V0 ?_)
  all_goals exact hF [] rfl
 | cons l0 tl=>
  have hh:=hls l0 (by simp)
  have htl:∀(i:Nat) (h:i<tl.length),(Z9 tl[i]).length ≤ 1048576:=fun i h=>hls _ (by simp)
  have hsl:tl.length+1≤1048576:=hlen
  obtain ⟨hw1,hw2⟩:=sp9_len (Z9 l0)
  have hsp:=p26 l0 ⟨#[32]⟩ 9 hh (by decide) (by omega) (by omega)
  change PureT _ _ _ _ (· = TS ((sp9 (Z9 l0)).map bA)) at hsp
  have hP1:(sp9 (Z9 l0)).length < 4→parI sp9 nmN ((l0::tl).map Z9)=none:=fun h=>by
   simp only[List.map_cons,parI,if_pos h]
  have hP2:¬(sp9 (Z9 l0)).length < 4→rdI nmN (tl.map Z9) [] []=none→parI sp9 nmN ((l0::tl).map Z9)=none:=fun h h2=>by
   simp only[List.map_cons,parI,if_neg h,h2]
  have hP3:¬(sp9 (Z9 l0)).length < 4→∀a b,rdI nmN (tl.map Z9) [] []=some (a,b)→parI sp9 nmN ((l0::tl).map Z9)=if YK (hdI (sp9 (Z9 l0)) a b)=Z9 l0::tl.map Z9 then some (hdI (sp9 (Z9 l0)) a b) else none:=fun h a b h2=>by
   simp only[List.map_cons,parI,if_neg h,h2]
  generalize parI sp9 nmN ((l0::tl).map Z9)=PP at *
  generalize sp9 (Z9 l0)=W at *
  have hw2':∀w∈W,w.length≤1048576:=fun w hw=>Nat.le_trans (hw2 w hw) hh
  obtain ⟨L,hL⟩:∃L,l0::tl=L:=⟨_,rfl⟩
  have hLl:L.length=tl.length+1:=by rw[←hL];rfl
  have hLc:L.map Z9=Z9 l0::tl.map Z9:=by rw[←hL];rfl
  have hg0:L[0]=l0:=by simp only[←hL,List.getElem_cons_zero]
  have hLd:((L.map T).take L.length).drop 1=tl.map T:=by rw[←hL,tL (by simp)];rfl
  rw[hL]
  clear hL hls hlen
  refine gstartG i8 rfl (by simp) ?_
  refine gwpS mxd ?_
  (refine V0 ?_)
  refine gwpS mxd ?_
  (refine V0 ?_;with_reducible repeat' intro h)
  all_goals try exact oF
  refine gwpS mxd ?_
  (refine V2 hg0 ?_)
  all_goals try exact oF
  refine callS.eqT hsp Tryz.tbH hT ?_
  (refine V0 ?_)
  by_cases h4:W.length<4
  ·have e4:((W.length:Int)<4)=True:=eq_true (by omega)
   refine gwpS mxd ?_
   (refine V1 (jO e4 @List.length_map.{0,0}) ?_)
   all_goals exact hF [] (hP1 h4)
  ·have e4:((W.length:Int)<4)=False:=eq_false (by omega)
   replace hP2:=hP2 h4
   replace hP3:=hP3 h4
   have g1:W.getD 1 []=W[1]:=by rw[List.getD_eq_getElem?_getD,List.getElem?_eq_getElem (by omega)];rfl
   have g2:W.getD 2 []=W[2]:=by rw[List.getD_eq_getElem?_getD,List.getElem?_eq_getElem (by omega)];rfl
   obtain ⟨D,hD⟩:∃D,W.drop 4=D:=⟨_,rfl⟩
   have hDl:W.length=D.length+4:=by rw[←hD,List.length_drop];omega
   have htd:(((W.map bA).map T).take W.length).drop 4=(D.map bA).map T:=by rw[tL (by simp),←List.map_drop,←List.map_drop,hD]
   have hsz:∀a b,a.length≤1048576→b.length≤1048576→(∀q∈a,okEq q∧smEq q)→(∀c∈b,okCo c∧smCo c)→okRu (hdI W a b)∧smRu (hdI W a b):=fun a b h1 h2 h3 h4=>hdI_sz hw2' (by omega) h1 h2 h3 h4
   obtain ⟨X,hX⟩:∃X,(if D.getLast?=some litW then D.dropLast else D)=X:=⟨_,rfl⟩
   obtain ⟨lit,hlit⟩:∃lit,decide (D.getLast?=some litW)=lit:=⟨_,rfl⟩
   have hhd:∀a b,hdI W a b=⟨bA W[1],bA W[2],X.map bA,lit,a,b⟩:=fun a b=>by unfold hdI;rw[g1,g2,hD,hX,hlit]
   have hXl:X.length≤D.length:=by rw[←hX];split<;>simp
   have hcl:=o27 (X.map bA) (by rw[List.length_map];omega)
   rw[List.length_map] at hcl
   simp only[hhd] at hsz hP3
   clear hhd g1 g2 hw2 hw2' hsp
   refine gwpS mxd ?_
   (refine V1 (jO e4 @List.length_map.{0,0}) ?_)
   refine gwpS mxd ?_
   (refine V2 (jO htd @List.length_map.{0,0}) ?_;with_reducible repeat' intro h)
   all_goals try exact oF
   rename_i rr
   obtain ⟨w1,hw1'⟩:∃x,bA W[1]=x:=⟨_,rfl⟩
   obtain ⟨w2,hw2'⟩:∃x,bA W[2]=x:=⟨_,rfl⟩
   rw[hw1',hw2'] at hsz hP3 ⊢
   refine GW.cut mxd (fun env' H'=>subE env' [(0,TS L),(2,.raw 6),(3,B false),(5,.ptr rr 6 0 0)]∧H'=(rr,6,[.agg [T w1,T w2,TS (X.map bA),B lit,Zt,Zt]])::H) ?_ ?_
   ·have hlast:D.length=0∨∃hz:0<D.length,D[D.length-1]=litW∨¬D[D.length-1]=litW:=by
     rcases Nat.eq_zero_or_pos D.length with hz|hz
     ·exact .inl hz
     ·exact .inr ⟨hz,Decidable.em _⟩
    rcases hlast with hz|⟨hz,hb|hb⟩
    ·have hDn:D=[]:=List.length_eq_zero_iff.1 hz
     have e5:((0:Int)<D.length)=False:=eq_false (by omega)
     obtain rfl:D=X:=by rw[←hX,hDn];rfl
     obtain rfl:false=lit:=by rw[←hlit,hDn];rfl
     (refine V1 (jO e5 @List.length_map.{0,0}) ?_)
     all_goals try exact oF
     exact (by simp[E2])
    ·have e5:((0:Int)<D.length)=True:=eq_true (by omega)
     have e7:((D.length:Int)-1).toNat = D.length-1:=by omega
     have hla:D.getLast?=some (D[D.length-1]):=by rw[List.getLast?_eq_getElem?,List.getElem?_eq_getElem (by omega)]
     have e6:((⟨(D[D.length-1]).toArray⟩:ByteArray)=⟨#[108,105,116]⟩)=True:=eq_true (congrArg bA hb)
     rw[hb] at hla
     rw[if_pos hla] at hX
     rw[decide_eq_true hla] at hlit
     subst hlit
     have htl2:((D.map bA).map T).take (D.length-1)=(X.map bA).map T:=by rw[←List.map_take,←List.map_take,←hX,List.dropLast_eq_take]
     (refine V2 (jO e5 (jO e6 (jO e7 (jO htl2 (jO @List.length_map.{0,0} @List.drop_zero.{0}))))) ?_;with_reducible repeat' intro h)
     all_goals try exact oF
     exact (by simp[E2])
    ·have e5:((0:Int)<D.length)=True:=eq_true (by omega)
     have e7:((D.length:Int)-1).toNat = D.length-1:=by omega
     have hla:D.getLast?=some (D[D.length-1]):=by rw[List.getLast?_eq_getElem?,List.getElem?_eq_getElem (by omega)]
     have e6:((⟨(D[D.length-1]).toArray⟩:ByteArray)=⟨#[108,105,116]⟩)=False:=eq_false fun h=>hb (congrArg Z9 h)
     have hla2:¬D.getLast?=some litW:=fun h=>hb (by rw[hla] at h;exact Option.some.inj h)
     rw[if_neg hla2] at hX
     rw[decide_eq_false hla2] at hlit
     subst hlit hX
     (refine V2 (jO e5 (jO e6 (jO e7 @List.length_map.{0,0}))) ?_;with_reducible repeat' intro h)
     all_goals try exact oF
     exact (by simp[E2])
   ·rintro env' _ ⟨he,rfl⟩
    refine GW.ent (FE.of he) ?_
    refine gwpS mxd ?_
    (refine V0 ?_)
    refine callS.of (hcl _) ?_
    rintro _ _ ⟨_,⟨q1,rfl,rfl⟩,rfl⟩ hn
    simp only[List.cons_append,List.nil_append] at hn ⊢
    have h7:=Y3 hn
    (replace h7:=h7;simp only[VN] at h7)
    (refine V1 h7 ?_)
    have hqr:¬q1=rr:=by simp only[h7,not_false_eq_true]
    refine GW.cut mxd (fun env' H'=>∃es cs q2 q3,rdP (tl.map Z9) tl.length es cs∧subE env' [(0,TS L),(2,.raw 6),(3,B false),(5,.ptr rr 6 0 0)]∧H'=(q2,9,es.map QnO)::(rr,6,[.agg [T w1,T w2,.own q1 1 0 X.length,B lit,.own q2 9 0 es.length,.own q3 16 0 cs.length]])::(q3,16,cs.map CoO)::(q1,1,(X.map bA).map T)::H) ?_ ?_
    ·obtain ⟨v,hv,hvn⟩:=vfresh (names ((rr,6,[GV.agg [T w1,T w2,.own q1 1 0 X.length,B lit,Zt,Zt]])::(q1,1,(X.map bA).map T)::H))
     obtain ⟨v3,hv3,hvn3⟩:=vfresh (names ((rr,6,[GV.agg [T w1,T w2,.own q1 1 0 X.length,B lit,.own v 9 0 0,Zt]])::(v,9,[])::(q1,1,(X.map bA).map T)::H))
     have htl2:(tl.map Z9).length = tl.length:=List.length_map ..
     (refine V2 (jO hLd @List.length_map.{0,0}) ?_)
     all_goals try exact oF
     refine wloopF mxd (ι:={ x:Nat×Nat×Nat×List Eqn×List Con // rdP (tl.map Z9) x.2.2.1 x.2.2.2.1 x.2.2.2.2 }) (fun x=>[(0,TS L),(2,.raw 6),(3,B false),(5,.ptr rr 6 0 0),(57,TS tl),(58,I tl.length),(59,I x.1.2.2.1)]) (fun x=>(x.1.1,9,x.1.2.2.2.1.map QnO)::(rr,6,[.agg [T w1,T w2,.own q1 1 0 X.length,B lit,.own x.1.1 9 0 x.1.2.2.2.1.length,.own x.1.2.1 16 0 x.1.2.2.2.2.length]])::(x.1.2.1,16,x.1.2.2.2.2.map CoO)::(q1,1,(X.map bA).map T)::H) (fun x=>tl.length-x.1.2.2.1) ⟨(v,v3,0,[],[]),rdP_init _⟩ (FE.virt2p hv hvn hv3 hvn3 hqr) (by simp[E2]) (by simp) ?_
     clear hv hvn hv3 hvn3
     rintro ⟨⟨q2,q3,i,es,cs⟩,hP⟩ hn2
     dsimp only at hP hn2 ⊢
     have h8:=Y3 hn2
     (replace h8:=h8;simp only[VN] at h8)
     obtain ⟨hl1,hl2,hl3,_⟩:=id hP
     rw[htl2] at hl3
     refine Y1 mxd ?_
     rcases nL i tl.length with hlt|hge
     ·have e0:((i:Int)<tl.length)=True:=eq_true (by omega)
      have hx:=htl i hlt
      have hg2:(tl.map Z9)[i]'(by omega)=Z9 tl[i]:=List.getElem_map ..
      have hp1:=w28 tl[i] ⟨#[112,117,116,32]⟩ hx (by decide)
      have hp2:=w28 tl[i] ⟨#[101,113,32,36]⟩ hx (by decide)
      rw[hasPr_pre] at hp1 hp2
      change Gh.Pure _ _ _ (· = B (puP.isPrefixOf (Z9 tl[i]))) at hp1
      change Gh.Pure _ _ _ (· = B (eqP.isPrefixOf (Z9 tl[i]))) at hp2
      have hnone:((puP.isPrefixOf (Z9 tl[i])=true∧(rcI (Z9 tl[i])).2 = false)∨(puP.isPrefixOf (Z9 tl[i])=false∧(eqP.isPrefixOf (Z9 tl[i])=false∨(rqI nmN (Z9 tl[i])).2 = false)))→PP=none:=fun h=>hP2 (rdP_no hP (by rw[htl2];exact hlt) (by rw[hg2];exact h))
      have hTZ:∀x∈Tryz.tb,x∈(q1,1,(X.map bA).map T)::H:=fun x hx=>List.mem_cons_of_mem _ (hT x hx)
      cases hpu:puP.isPrefixOf (Z9 tl[i]) with
      | true=>
       rw[hpu] at hp1 hnone
       have hco:=fun h=>rdP_co hP (by rw[htl2];exact hlt) (by rw[hg2];exact hx) (by rw[hg2];exact hpu) h
       rw[hg2] at hco
       have hC:=GCalls.perm (perm3 (q2,9,es.map QnO) (rr,6,[GV.agg [T w1,T w2,.own q1 1 0 X.length,B lit,.own q2 9 0 es.length,.own q3 16 0 cs.length]]) (q3,16,cs.map CoO) ((q1,1,(X.map bA).map T)::H)) (o29 tl[i] hx q3 rr cs (by omega) w1 w2 (.own q1 1 0 X.length) lit (.own q2 9 0 es.length) ((q2,9,es.map QnO)::(q1,1,(X.map bA).map T)::H) (fun x hx=>List.mem_cons_of_mem _ (hTZ x hx)))
        (R':=fun g H'=>∃q4,g=B (rcI (Z9 tl[i])).2 ∧ H'=(q2,9,es.map QnO)::(rr,6,[.agg [T w1,T w2,.own q1 1 0 X.length,B lit,.own q2 9 0 es.length,.own q4 16 0 (cs.length+1)]])::(q4,16,(cs++[(rcI (Z9 tl[i])).1]).map CoO)::(q1,1,(X.map bA).map T)::H)
        (by rintro g H' ⟨q4,rfl,rfl⟩;exact ⟨_,⟨q4,rfl,rfl⟩,perm3 _ _ _ _⟩)
       have hpe:=pu_eq hpu
       rw[hpe] at hp2
       generalize rcI (Z9 tl[i])=U at *
       obtain ⟨c,ok⟩:=U
       dsimp only at hC hco hnone
       (refine V1 (jO h8 e0) ?_)
       refine callS.eq hp1 ?_
       (refine V1 h8 ?_)
       refine callS.of hC ?_
       rintro _ _ ⟨q4,rfl,rfl⟩ hn4
       cases ok
       ·(refine V0 ?_)
        refine callS.eq hp2 ?_
        (refine V0 ?_)
        exact hF [_,_,_,_] (hnone (.inl ⟨rfl,rfl⟩))
       ·(refine V0 ?_)
        exact nx ⟨(q2,q4,i+1,es,cs++[c]),hco rfl⟩ (by dsimp only;omega) (by simp[E2]) (by simp)
      | false=>
       rw[hpu] at hp1 hnone
       (refine V1 (jO h8 e0) ?_)
       refine callS.eq hp1 ?_
       (refine V1 h8 ?_)
       refine callS.eq hp2 ?_
       cases hpe:eqP.isPrefixOf (Z9 tl[i]) with
       | true=>
        rw[hpe] at hnone
        have hqn:=fun h=>rdP_qn hP (by rw[htl2];exact hlt) (by rw[hg2];exact hx) (by rw[hg2];exact hpu) (by rw[hg2];exact hpe) h
        rw[hg2] at hqn
        have hC:=o30 tl[i] hx q2 rr es (by omega) w1 w2 (.own q1 1 0 X.length) lit (.own q3 16 0 cs.length) ((q3,16,cs.map CoO)::(q1,1,(X.map bA).map T)::H) (fun x hx=>List.mem_cons_of_mem _ (hTZ x hx))
        generalize rqI nmN (Z9 tl[i])=U at *
        obtain ⟨c,ok⟩:=U
        dsimp only at hC hqn hnone
        (refine V1 h8 ?_)
        refine callS.of hC ?_
        rintro _ _ ⟨q4,rfl,rfl⟩ hn4
        cases ok
        ·(refine V0 ?_)
         exact hF [_,_,_,_] (hnone (.inr ⟨rfl,.inr rfl⟩))
        ·(refine V0 ?_)
         exact nx ⟨(q4,q3,i+1,es++[c],cs),hqn rfl⟩ (by dsimp only;omega) (by simp[E2]) (by simp)
       | false=>
        rw[hpe] at hnone
        (refine V1 h8 ?_)
        exact hF [_,_,_,_] (hnone (.inr ⟨rfl,.inl rfl⟩))
     ·obtain rfl:i=tl.length:=by omega
      have e0:((tl.length:Int)<tl.length)=False:=eq_false (by omega)
      (refine V1 (jO h8 e0) ?_)
      exact ⟨es,cs,q2,q3,hP,(by simp[E2]),rfl⟩
    ·rintro env2 _ ⟨es,cs,q2,q3,hP,he2,rfl⟩
     refine GW.ent (FE.of he2) (GW.names fun hn2=> ?_)
     have h8:=Y3 hn2
     (replace h8:=h8;simp only[VN] at h8)
     have hP3':=hP3 es cs (rdP_end (by rw[show (tl.map Z9).length = tl.length from List.length_map ..];exact hP))
     obtain ⟨hl1,hl2,hl3,hl4,hl5,hl6⟩:=hP
     obtain ⟨hs,hm⟩:=hsz es cs (by omega) (by omega) hl5 hl6
     obtain ⟨R,hR⟩:∃R:Rul,(⟨w1,w2,X.map bA,lit,es,cs⟩:Rul)=R:=⟨_,rfl⟩
     have hb:∀Z:GH,Z6 Z q2=some (9,es.map QnO)→Z6 Z q3=some (16,cs.map CoO)→Z6 Z q1=some (1,(X.map bA).map T)→Bor Z (.agg [T w1,T w2,.own q1 1 0 X.length,B lit,.own q2 9 0 es.length,.own q3 16 0 cs.length]) (Ru R):=fun Z k1 k2 k3=>by
      rw[←hR]
      exact .agg (.cons .refl (.cons .refl (.cons (Bor.seen (f:=T) (fun a=>by simp[view,Y7]) k3 (by rw[List.length_map])) (.cons .refl (.cons (Bor.seen view_QnO k1 rfl) (.cons (Bor.seen view_CoO k2 rfl) .nil))))))
     rw[hR] at hs hm hP3'
     have hF':=lo7 R hs hm
     have hE:=w31 ((YK R).map bA) L
     have hD:decide ((YK R).map bA=L)=decide (YK R=Z9 l0::tl.map Z9):=by rw[←hLc];exact decide_eq_decide.2 bA_inj
     rw[hD] at hE
     refine Y1 mxd ?_
     (refine V1 h8 ?_)
     refine callS.lendT hF' (Zq _) (fun x hx=> ?_) (.cons (hb _ Z0 (by simp only[Zd,h8,if_true,if_false]) (by simp only[Zd,h8,if_true,if_false])) .nil) (by rintro v H1 ⟨q,rfl,rfl⟩;simp[noD,noDL,noDH,noDL_eq]) ?_
     ·exact List.mem_cons_of_mem _ (List.mem_cons_of_mem _ (List.mem_cons_of_mem _ (List.mem_cons_of_mem _ (hT x (Tryz.tb10 x hx)))))
     rintro _ _ ⟨q,rfl,rfl⟩ hn3
     have h9:=Y3 hn3
     simp only[List.cons_append,List.nil_append] at h9 ⊢
     (replace h9:=h9;simp only[VN] at h9)
     (refine V1 (jO h8 h9) ?_)
     refine callS.borA hE (.cons (Bor.seen (f:=T) (fun a=>by simp[view,Y7]) Z0 (by rw[List.length_map])) (.cons .refl .nil)) rfl ?_
     by_cases hf:YK R=Z9 l0::tl.map Z9
     ·rw[decide_eq_true hf]
      rw[if_pos hf] at hP3'
      (refine V1 (jO h8 h9) ?_)
      have e:=hS R q q1 q2 q3 rr (1,((YK R).map bA).map T) [GV.agg [T w1,T w2,.own q1 1 0 X.length,B lit,.own q2 9 0 es.length,.own q3 16 0 cs.length]] hP3' (by simp only[neH_cons,neH_nil,neA_cons,neA_nil,h8,h9,not_false_eq_true,and_self])
      have r1:R.name=w1:=by rw[←hR]
      have r2:R.left=w2:=by rw[←hR]
      have r3:R.right=X.map bA:=by rw[←hR]
      have r4:R.lit=lit:=by rw[←hR]
      have r5:R.eqs=es:=by rw[←hR]
      have r6:R.cons=cs:=by rw[←hR]
      rw[r1,r2,r3,r4,r5,r6,List.length_map] at e
      exact e
     ·rw[decide_eq_false hf]
      rw[if_neg hf] at hP3'
      (refine V1 (jO h8 h9) ?_)
      exact hF [_,_,_,_,_] hP3'
theorem o8 (ls:List ByteArray) (hlen:ls.length≤1048576) (hls:∀l∈ls,(Z9 l).length ≤ 1048576) (H:GH) (hT:∀x∈Tryz.tb,x∈H):Gc 8 [TS ls] H (AnsR (parI sp9 nmN (ls.map Z9)) H):=by
 refine GCalls.fr (R:=fun g H'=>(∃X,parI sp9 nmN (ls.map Z9)=none∧g = .tup [.agg [T noS,T noS,Zt,B false,Zt,Zt],B false]∧H'=X++H)∨∃(R:Rul) (q q1 q2 q3 rr:Nat) (y:Nat×List GV) (z:List GV),parI sp9 nmN (ls.map Z9)=some R∧neH ((q,y)::(q2,9,R.eqs.map QnO)::(rr,6,z)::(q3,16,R.cons.map CoO)::(q1,1,R.right.map T)::[])∧g = .tup [.agg [T R.name,T R.left,.own q1 1 0 R.right.length,B R.lit,.own q2 9 0 R.eqs.length,.own q3 16 0 R.cons.length],B true]∧H'=(q,y)::(q2,9,R.eqs.map QnO)::(rr,6,z)::(q3,16,R.cons.map CoO)::(q1,1,R.right.map T)::H) ?_ ?_
 ·exact Tryz.parR ls hlen hls H hT _ (fun X h=> .inl ⟨X,h,rfl,rfl⟩) (fun R q q1 q2 q3 rr y z h hn=> .inr ⟨R,q,q1,q2,q3,rr,y,z,h,hn,rfl,rfl⟩)
 ·rintro g H' (⟨X,h1,rfl,rfl⟩|⟨R,q,q1,q2,q3,rr,y,z,h1,hn,rfl,rfl⟩)
  ·obtain ⟨q1,q2,q3,hf⟩:=FR.nilRu (B false) H
   rw[h1]
   exact ⟨_,_,FR.trans (FR.perm (H:=X) (L:=[]) (by simp[subH,names])) hf,_,⟨q1,q2,q3,rfl,rfl⟩,rfl⟩
  ·rw[h1]
   (replace hn:=hn;simp only[VN] at hn)
   exact ⟨_,_,FR.perm (H:=[_,_,_,_,_]) (L:=[(q2,9,R.eqs.map QnO),(q3,16,R.cons.map CoO),(q1,1,R.right.map T)]) (by simp only[subH,Zd,YG,Yt,hn,if_true,if_false,List.mem_cons,List.not_mem_nil,or_self,not_false_eq_true,and_self]),_,⟨q1,q2,q3,rfl,rfl⟩,rfl⟩
end Go.Proofs.YtcegkonjphbfaaaGreatDoor
