/- The laws FnEdits, FnEdited and FnSwapped return true whatever the input, and the input reads behind the call as before. No condition. -/
import Derived.Test.YtknbnefbgpnkgaaGreatFed2
set_option maxHeartbeats 40000000
set_option maxRecDepth 20000
set_option linter.unusedSimpArgs false
set_option linter.unusedVariables false
namespace Go.Proofs.YtknbnefbgpnkgaaGreat
open Go.Gh
open Nat (reduceEqDiff reduceLeDiff reduceAdd reduceLT)
open Int (reduceNe)
theorem o112 (xs:List Int) (hx:xs.length≤1048576) (H:GH):Gc 112 [IS xs] H (fun g H'=>∃H1,(∃r,g = .own r 1 0 xs.length∧H1=[(r,1,xs.map I)])∧H'=H1++H):=by
 have h0:Gc 112 [IS xs] H (fun g H'=>(xs=[]∧g = .val (.slice none 0 0)∧H'=H)∨∃r,g = .own r 1 0 xs.length∧H'=(r,1,xs.map I)::H):=by
  refine ZZ mxd i112 rfl (by simp) ?_;refine X0 ?_
  (refine R0 ?_)
  by_cases hxs:xs=[]
  ·subst hxs
   simp only[List.map_nil,List.isEmpty_nil,if_true]
   exact ⟨.inl trivial,fun r hr=>⟨by simp,by simp,fun r hr=> .inr ⟨r,rfl,rfl⟩⟩⟩
  ·rw[if_neg (by simpa using hxs)]
   exact fun r hr=>⟨oT,oT,fun r hr=> .inr ⟨r,rfl,rfl⟩⟩
 refine h0.fr ?_
 rintro g H' (⟨rfl,rfl,rfl⟩|⟨r,rfl,rfl⟩)
 ·exact ⟨_,_,FR.trans (FR.addv (r:=YA H') (sz:=1) (Yp H') (Yq H')) (FR.sub (Bor.virt (r:=YA H') (sz:=1))),_,⟨YA H',rfl,rfl⟩,rfl⟩
 ·exact ⟨_,_,FR.refl _ _,_,⟨r,rfl,rfl⟩,rfl⟩
theorem o176 (x:Nod) (b:Int) (hx:x.kids.length≤1048576) (H:GH):Gc 176 [Nd x,I b] H (fun g H'=>∃r,g = .agg [I x.id,I (IntKind.i64.wrap (x.parent+b)),I x.place,I x.lit,T x.rule,.own r 1 0 x.kids.length]∧H'=(r,1,(x.kids.map fun k=>IntKind.i64.wrap (k+b)).map I)::H):=by
 have h0:Gc 176 [Nd x,I b] H (fun g H'=>∃r r0 e,r≠r0∧g = .agg [I x.id,I (IntKind.i64.wrap (x.parent+b)),I x.place,I x.lit,T x.rule,.own r 1 0 x.kids.length]∧H'=(r,1,(x.kids.map fun k=>IntKind.i64.wrap (k+b)).map I)::(r0,6,e)::H):=by
  refine ZZ mxd i176 rfl (by simp) ?_;refine X0 ?_
  (refine R0 ?_;with_reducible repeat' intro h)
  rename_i r0 _ q0
  refine wloopN mxd (ι:={ y:Nat×Nat // y.2≤x.kids.length }) (fun y=>[(1,I b),(2,.ptr r0 6 0 0),(4,.raw 6),(5,.own y.1.1 1 0 y.1.2),(6,I y.1.2)]) (fun y=>(y.1.1,1,((x.kids.take y.1.2).map fun k=>IntKind.i64.wrap (k+b)).map I)::(r0,6,[.agg [I x.id,I x.parent,I x.place,I x.lit,T x.rule,IS x.kids]])::H) (fun y=>x.kids.length-y.1.2) ⟨(q0,0),by simp⟩ (by simp[E2]) rfl ?_
  rintro ⟨⟨q,i⟩,hi⟩ hn
  dsimp only at hi hn ⊢
  have hq:q≠r0:=by simp only[names,List.map_cons,List.nodup_cons,List.mem_cons,not_or] at hn;exact hn.1.1
  (refine R1 (jO (hgO hq) (hsO hq)) ?_;with_reducible repeat' first|intro h|apply jO)
  ·rename_i q2
   have hneq:q2≠q:=ne_of_new h ZX
   (refine R1 (jO (hgO hneq) (jO (hdO hneq) (jO @List.length_append.{0} (jO @List.length_singleton.{0} (jO @List.length_map.{0,0} (jO @List.length_take.{0} (jO @List.take_length.{0} @ZQ))))))) ?_;with_reducible repeat' intro h)
   rename_i q3
   have hq3:q3≠q2:=ne_of_new h ZX
   refine nxF ⟨(q3,i+1),oT⟩ (by simp;omega) (FE.drop (r:=q2) (by rw[YL hq3,ZX])) (by simp[E2]) ?_
   rw[YE hq3,YW]
   exact congrArg (fun l=>(q3,1,l) :: _) (X4 I (fun k=>IntKind.i64.wrap (k+b)) x.kids i (by assumption))
  ·have:i=x.kids.length:=by omega
   subst this
   rw[List.take_length]
   exact ⟨q,r0,_,hq,rfl,rfl⟩
 refine h0.fr ?_
 rintro g H' ⟨r,r0,e,hne,rfl,rfl⟩
 exact ⟨_,_,FR.drop (r:=r0) (by rw[YL hne,ZX]),r,rfl,by rw[YE hne,YW]⟩
theorem o122 (t : List Nod) (i : Int) (hl : t.length ≤ 1048576) (hx : ∀ x ∈ t, x.kids.length ≤ 1048576) (H : GH) : Gc 122 [Tr t, I i] H (fun g H' => ∃ r, g = .agg [.own r 6 0 (Y2 t i).length] ∧ H' = (r, 6, (Y2 t i).map NdO) :: H) := by
  have h0 : Gc 122 [Tr t, I i] H (fun g H' => ∃ r r0 e, r ≠ r0 ∧ g = .agg [.own r 6 0 (Y2 t i).length] ∧ H' = (r, 6, (Y2 t i).map NdO) :: (r0, 1, e) :: H) := by
    refine ZZ mxd i122 rfl (by simp) ?_; refine X0 ?_
    (refine R0 ?_; with_reducible repeat' intro h)
    rename_i r0
    refine callS.eq (w21 t i) ?_
    (refine R0 ?_)
    by_cases hi : 0 ≤ i ∧ i < t.length
    · obtain ⟨i, rfl⟩ : ∃ k : Nat, i = k := ⟨i.toNat, oT⟩
      have hi' : i < t.length := by omega
      have hle := Yr hi'
      rw [YB hi', subT_in hi']
      refine Y5 mxd (ι := { y : Nat × Nat // y.2 ≤ ZC t i }) (fun y => [(1, I i), (2, .rop 1 (Tr t)), (4, .raw 1), (5, .ptr r0 1 0 0), (6, I (ZC t i)), (7, I y.1.2)]) (fun y => (y.1.1, 6, ((List.range y.1.2).map (subK t i)).map NdO) :: (r0, 1, [if y.1.2 = 0 then .agg [.own y.1.1 6 0 y.1.2] else .own y.1.1 6 0 y.1.2]) :: H) (fun y => ZC t i - y.1.2) ⟨(YA ((r0, 1, [.agg [.val (.slice none 0 0)]]) :: H), 0), by simp⟩ (FE.virtF (r := r0) (i := 0) (j := 0) (sz1 := 6) ZX rfl rfl (Yp _) (Yq _)) (by simp [E2]) ?_ ?_
      · rw [YD]; rfl
      rintro ⟨⟨q, k⟩, hk⟩ hn
      dsimp only at hk hn ⊢
      refine ZB mxd ?_
      have hq : q ≠ r0 := by simp only [names, List.map_cons, List.nodup_cons, List.mem_cons, not_or] at hn; exact hn.1.1
      rcases nL k (ZC t i) with hlt | hge
      · have hsh : k = 0 ∨ ¬ k = 0 := by omega
        rcases hsh with hsh | hsh
        all_goals first | simp only [if_pos hsh] at hn ⊢ | simp only [if_neg hsh] at hn ⊢
        all_goals
         (refine R1 (jO (hgO hq) (hsO hq)) ?_; with_reducible repeat' first|intro h|refine aO ?_|apply jO)
        all_goals try exact oF
        all_goals
         refine callS.of (o176 t[i + k] _ (hx _ (gM _)) _) ?_
         rintro g H' ⟨r1, rfl, rfl⟩ hn1
         simp only [names, List.map_cons, List.nodup_cons, List.mem_cons, not_or] at hn1
         (refine R1 (jO @Z9 (jO @Z7 (jO @Z8 (jO hn1 hq)))) ?_; with_reducible repeat' first|intro h|refine aO ?_|apply jO)
        all_goals try exact oF
        all_goals
          rename_i r2 h2
          simp only [names, List.map_cons, List.nodup_cons, List.mem_cons, not_or] at h2
          (refine R1 (jO @Z9 (jO @Z7 (jO @Z8 (jO hn1 (jO hq h2))))) ?_; with_reducible repeat' intro h)
        all_goals
          rename_i r3
          have h3 := h
          simp only [names, List.map_cons, List.nodup_cons, List.mem_cons, not_or] at h3
          ((try refine qI ?_); (repeat ((first | with_reducible refine qU ?_ | simp only [ZP]); try simp (maxSteps := 9^7) only [↓ S2, S2, ZL, ↓reduceIte, reduceNe, reduceEqDiff, reduceCtorEq, reduceLeDiff, reduceAdd, reduceLT, Z9, Z7, Z8, hn1, hq, h2, h3, List.length_append, List.length_singleton, List.length_map, List.length_range, List.length_take, ZQ])); (try simp +contextual (disch := omega) only [Z2, Z9, Z7, Z8, hn1, hq, h2, h3, List.length_append, List.length_singleton, List.length_map, List.length_range, List.length_take, ZQ]); (with_reducible repeat' (first | intro h | refine jO oT ?_ | refine exP oT ?_ | apply jO)))
        all_goals
          rename_i r4
          have h4 := h
          simp only [names, List.map_cons, List.nodup_cons, List.mem_cons, not_or] at h4
          ((try refine qI ?_); (repeat ((first | with_reducible refine qU ?_ | simp only [ZP]); try simp (maxSteps := 9^7) only [↓ S2, S2, ZL, ↓reduceIte, reduceNe, reduceEqDiff, reduceCtorEq, reduceLeDiff, reduceAdd, reduceLT, Z9, Z7, Z8, hn1, hq, h2, h3, h4, List.length_append, List.length_singleton, List.length_map, List.length_range, List.length_take, ZQ])); (try simp +contextual (disch := omega) only [Z2, Z9, Z7, Z8, hn1, hq, h2, h3, h4, List.length_append, List.length_singleton, List.length_map, List.length_range, List.length_take, ZQ]); (with_reducible repeat' (first | intro h | refine jO oT ?_ | refine exP oT ?_ | apply jO)))
          refine nxF ⟨(r4, k + 1), oT⟩ (by simp; omega) (FE.trans (FE.drop (r := r3) (by simp only [Z9, h4, if_true, if_false]; rfl)) (FE.trans (FE.drop (r := r2) (by simp only [Z9, Z8, h4, h3, if_true, if_false]; rfl)) (FE.closeL (r := r4) (r1 := r1) (j := 5) h4.1.2.2.1 (by simp only [Z9, Z8, h4, h3, h2, if_true, if_false]; rfl) rfl (by simp only [Z9, Z8, h4, h3, h2, if_true, if_false]; rfl) (by simp)))) ?_ ?_
          · first
              | (simp [E2]; done)
              | (obtain rfl : k = 0 := by omega
                 simp [E2])
          · simp only [Z8, Z7, h4, h3, h2, hn1, if_true, if_false, List.set]
            have e : t.getD (i + k) ndZ = t[i + k] := Z3 oT
            rw [tL (by simp), ← range_step, List.map_append]
            rw [if_neg (show ¬ k + 1 = 0 by omega)]
            first
              | (simp only [subK, if_pos hsh, e, rootN, movN, List.map_cons, List.map_nil]; done)
              | (simp only [subK, if_neg hsh, e, rootN, movN, List.map_cons, List.map_nil]; done)
      · have : k = ZC t i := by omega
        subst this
        simp only [if_neg (show ¬ ZC t i = 0 by have := subLen_pos (t := t) (i := i); omega)] at hn ⊢
        (refine R1 (jO (hgO hq) (hsO hq)) ?_; with_reducible repeat' intro h)
        all_goals try exact oF
        exact ⟨q, r0, _, hq, by simp, rfl⟩
    · rw [subT_out hi]
      have hz : Y6 t i = 0 := by simp [Y6, hi]
      rw [hz]
      refine Y5 mxd (ι := Unit) (fun _ => [(1, I i), (2, .rop 1 (Tr t)), (4, .raw 1), (5, .ptr r0 1 0 0), (6, I 0), (7, I 0)]) (fun _ => (YA ((r0, 1, [.agg [.val (.slice none 0 0)]]) :: H), 6, []) :: (r0, 1, [.agg [.own (YA ((r0, 1, [.agg [.val (.slice none 0 0)]]) :: H)) 6 0 0]]) :: H) (fun _ => 0) () (FE.virtF (r := r0) (i := 0) (j := 0) (sz1 := 6) ZX rfl rfl (Yp _) (Yq _)) (by simp [E2]) ?_ ?_
      · rw [YD]; rfl
      rintro - hn
      have hq : YA ((r0, 1, [.agg [.val (.slice none 0 0)]]) :: H) ≠ r0 := by simp only [names, List.map_cons, List.nodup_cons, List.mem_cons, not_or] at hn; exact hn.1.1
      refine ZB mxd ?_
      (refine R1 (jO (hgO hq) (hsO hq)) ?_; with_reducible repeat' intro h)
      exact ⟨_, r0, _, hq, by simp, rfl⟩
  refine h0.fr ?_
  rintro g H' ⟨r, r0, e, hne, rfl, rfl⟩
  exact ⟨_, _, FR.drop (r := r0) (by rw [YL hne, ZX]), r, rfl, by rw [YE hne, YW]⟩
theorem o117 (t : List Nod) (i : Int) (hl : t.length ≤ 1048576) (hx : ∀ x ∈ t, x.kids.length ≤ 1048576) (H : GH) : Gc 117 [Tr t, I i] H (fun g H' => ∃ r, g = .agg [.own r 6 0 (Y2 t i).length] ∧ H' = (r, 6, (Y2 t i).map NdO) :: H) := by
  have h0 : Gc 117 [Tr t, I i] H (fun g H' => ∃ r r0 e, r ≠ r0 ∧ g = .agg [.own r 6 0 (Y2 t i).length] ∧ H' = (r, 6, (Y2 t i).map NdO) :: (r0, 1, e) :: H) := by
    refine ZZ mxd i117 rfl (by simp) ?_; refine X0 ?_
    (refine R0 ?_; with_reducible repeat' intro h)
    rename_i r0
    refine callS.eq (w115 t i) ?_
    (refine R0 ?_)
    by_cases hi : 0 ≤ i ∧ i < t.length
    · obtain ⟨i, rfl⟩ : ∃ k : Nat, i = k := ⟨i.toNat, oT⟩
      have hi' : i < t.length := by omega
      have hle := Yr hi'
      rw [YB hi', subT_in hi']
      refine Y5 mxd (ι := { y : Nat × Nat // y.2 ≤ ZC t i }) (fun y => [(1, I i), (2, .rop 1 (Tr t)), (4, .raw 1), (5, .ptr r0 1 0 0), (12, I (ZC t i)), (13, I y.1.2)]) (fun y => (y.1.1, 6, ((List.range y.1.2).map (subK t i)).map NdO) :: (r0, 1, [if y.1.2 = 0 then .agg [.own y.1.1 6 0 y.1.2] else .own y.1.1 6 0 y.1.2]) :: H) (fun y => ZC t i - y.1.2) ⟨(YA ((r0, 1, [.agg [.val (.slice none 0 0)]]) :: H), 0), by simp⟩ (FE.virtF (r := r0) (i := 0) (j := 0) (sz1 := 6) ZX rfl rfl (Yp _) (Yq _)) (by simp [E2]) ?_ ?_
      · rw [YD]; rfl
      rintro ⟨⟨q, k⟩, hk⟩ hn
      dsimp only at hk hn ⊢
      refine ZB mxd ?_
      have hq : q ≠ r0 := by simp only [names, List.map_cons, List.nodup_cons, List.mem_cons, not_or] at hn; exact hn.1.1
      rcases nL k (ZC t i) with hlt | hge
      · have hsh : k = 0 ∨ ¬ k = 0 := by omega
        rcases hsh with hsh | hsh
        all_goals first | simp only [if_pos hsh] at hn ⊢ | simp only [if_neg hsh] at hn ⊢
        all_goals
         (refine R1 (jO (hgO hq) (hsO hq)) ?_; with_reducible repeat' first|intro h|refine aO ?_|apply jO)
        all_goals try exact oF
        all_goals
          rename_i rn
          have hie : ((i : Int) + k).toNat = i + k := by omega
          simp only [hie]
          have hik : i + k < t.length := by omega
          have hxk := hx _ (gM hik)
          obtain ⟨x, hxe⟩ : ∃ x, x = t[i + k] := ⟨_, rfl⟩
          simp only [← hxe] at hxk ⊢
          refine callA.of (o112 _ hxk _) (by rintro g H' ⟨H1, _, rfl⟩; exact ⟨H1, rfl⟩) ?_
          rintro g H' ⟨H1, ⟨rc, rfl, rfl⟩, rfl⟩ hnc
          replace hnc := Z6 hnc
          simp only [List.cons_append, List.nil_append] at hnc ⊢
          (replace hnc := hnc; simp only [VN] at hnc)
          (refine R1 (jO @Z9 (jO @Z7 (jO @Z8 hnc))) ?_; with_reducible repeat' first|exact trivial|intro h|refine aO ?_|refine eO ?_|apply jO)
          refine ZK mxd (ι := { c : Nat // c ≤ x.kids.length }) (fun c => [(1, I i), (2, .rop 1 (Tr t)), (4, .raw 1), (5, .ptr r0 1 0 0), (12, I (ZC t i)), (13, I k), (6, I k), (7, .ptr rn 6 0 0), (34, I x.kids.length), (35, I c.1)])
            (fun c => (rc, 1, ((x.kids.take c.1).map (fun y => IntKind.i64.wrap (y - i)) ++ x.kids.drop c.1).map I) :: (rn, 6, [.agg [I x.id, I (IntKind.i64.wrap (x.parent - i)), I x.place, I x.lit, T x.rule, .own rc 1 0 x.kids.length]]) :: (q, 6, ((List.range k).map (subK t i)).map NdO) :: (r0, 1, [_]) :: H) (fun c => x.kids.length - c.1) ⟨0, oT⟩ (by simp [E2]) rfl ?_
          rintro ⟨c, hc⟩
          have hml : ((x.kids.take c).map (fun y => IntKind.i64.wrap (y - i)) ++ x.kids.drop c).length = x.kids.length := mapm_len
          rcases nL c x.kids.length with hcl | hcl
        all_goals try
          (have hmg := mapm_get (f := fun y => IntKind.i64.wrap (y - i)) hcl oT
           have hms := mapm_set (f := fun y => IntKind.i64.wrap (y - i)) hcl)
        all_goals
          ((try refine qI ?_); (repeat ((first | with_reducible refine qU ?_ | simp only [ZP]); try simp (maxSteps := 9^7) only [↓ S2, S2, ZL, ↓reduceIte, reduceNe, reduceEqDiff, reduceCtorEq, reduceLeDiff, reduceAdd, reduceLT, Z9, Z7, Z8, hnc, hml, List.getElem_map])); (try simp +contextual (disch := omega) only [Z2, Z9, Z7, Z8, hnc, hml, List.getElem_map]); (with_reducible repeat' (first | intro h | refine jO oT ?_ | refine exP oT ?_ | apply jO)))
        all_goals try exact oF
        all_goals try
          (refine nx ⟨c + 1, oT⟩ (by simp; omega) (by simp [E2]) ?_
           simp only [hmg, ← List.map_set]
           exact congrArg (fun l => (rc, 1, List.map I l) :: _) hms)
        all_goals
          rename_i r3
          obtain rfl : c = x.kids.length := by omega
          have h3 := Z6 h
          (replace h3 := h3; simp only [VN] at h3)
          ((try refine qI ?_); (repeat ((first | with_reducible refine qU ?_ | simp only [ZP]); try simp (maxSteps := 9^7) only [↓ S2, S2, ZL, ↓reduceIte, reduceNe, reduceEqDiff, reduceCtorEq, reduceLeDiff, reduceAdd, reduceLT, Z9, Z7, Z8, hnc, h3, List.length_append, List.length_singleton, List.length_map, List.length_range, List.length_take, ZQ])); (try simp +contextual (disch := omega) only [Z2, Z9, Z7, Z8, hnc, h3, List.length_append, List.length_singleton, List.length_map, List.length_range, List.length_take, ZQ]); (with_reducible repeat' (first | intro h | refine jO oT ?_ | refine exP oT ?_ | apply jO)))
        all_goals
          rename_i r4
          have h4 := Z6 h
          (replace h4 := h4; simp only [VN] at h4)
          ((try refine qI ?_); (repeat ((first | with_reducible refine qU ?_ | simp only [ZP]); try simp (maxSteps := 9^7) only [↓ S2, S2, ZL, ↓reduceIte, reduceNe, reduceEqDiff, reduceCtorEq, reduceLeDiff, reduceAdd, reduceLT, Z9, Z7, Z8, hnc, h3, h4, List.length_append, List.length_singleton, List.length_map, List.length_range, List.length_take, ZQ])); (try simp +contextual (disch := omega) only [Z2, Z9, Z7, Z8, hnc, h3, h4, List.length_append, List.length_singleton, List.length_map, List.length_range, List.length_take, ZQ]); (with_reducible repeat' (first | intro h | refine jO oT ?_ | refine exP oT ?_ | apply jO)))
          refine nxF ⟨(r4, k + 1), oT⟩ (by simp; omega) (FE.trans (FE.drop (r := r3) (by simp only [Z9, h4, if_true, if_false]; rfl)) (FE.trans (FE.drop (r := rn) (by simp only [Z9, Z8, hnc, h4, h3, if_true, if_false]; rfl)) (FE.closeL (r := r4) (r1 := rc) (j := 5) h4.1.2.2.1 (by simp only [Z9, Z8, h4, h3, hnc, if_true, if_false]; rfl) rfl (by simp only [Z9, Z8, h4, h3, hnc, if_true, if_false]; rfl) (by simp)))) ?_ ?_
          · first
              | (simp [E2]; done)
              | (obtain rfl : k = 0 := by omega
                 simp [E2])
          · simp only [Z8, Z7, h4, h3, hnc, if_true, if_false, List.set]
            have e : t.getD (i + k) ndZ = t[i + k] := Z3 oT
            rw [← hxe] at e
            have ek : ((x.kids.take x.kids.length).map (fun y => IntKind.i64.wrap (y - i)) ++ x.kids.drop x.kids.length) = x.kids.map fun y => IntKind.i64.wrap (y + (0 - i)) := by
              rw [List.take_length, List.drop_length, List.append_nil]
              exact List.map_congr_left fun y _ => congrArg _ oT
            have ep : x.parent - i = x.parent + (0 - i) := by omega
            rw [ek, tL (by simp), ← range_step, List.map_append]
            try rw [ep]
            rw [if_neg (show ¬ k + 1 = 0 by omega)]
            first
              | (simp only [subK, if_pos hsh, e, rootN, movN, List.map_cons, List.map_nil]; done)
              | (simp only [subK, if_neg hsh, e, rootN, movN, List.map_cons, List.map_nil]; done)
      · have : k = ZC t i := by omega
        subst this
        simp only [if_neg (show ¬ ZC t i = 0 by have := subLen_pos (t := t) (i := i); omega)] at hn ⊢
        (refine R1 (jO (hgO hq) (hsO hq)) ?_; with_reducible repeat' intro h)
        all_goals try exact oF
        exact ⟨q, r0, _, hq, by simp, rfl⟩
    · rw [subT_out hi]
      have hz : Y6 t i = 0 := by simp [Y6, hi]
      rw [hz]
      refine Y5 mxd (ι := Unit) (fun _ => [(1, I i), (2, .rop 1 (Tr t)), (4, .raw 1), (5, .ptr r0 1 0 0), (12, I 0), (13, I 0)]) (fun _ => (YA ((r0, 1, [.agg [.val (.slice none 0 0)]]) :: H), 6, []) :: (r0, 1, [.agg [.own (YA ((r0, 1, [.agg [.val (.slice none 0 0)]]) :: H)) 6 0 0]]) :: H) (fun _ => 0) () (FE.virtF (r := r0) (i := 0) (j := 0) (sz1 := 6) ZX rfl rfl (Yp _) (Yq _)) (by simp [E2]) ?_ ?_
      · rw [YD]; rfl
      rintro - hn
      have hq : YA ((r0, 1, [.agg [.val (.slice none 0 0)]]) :: H) ≠ r0 := by simp only [names, List.map_cons, List.nodup_cons, List.mem_cons, not_or] at hn; exact hn.1.1
      refine ZB mxd ?_
      (refine R1 (jO (hgO hq) (hsO hq)) ?_; with_reducible repeat' intro h)
      exact ⟨_, r0, _, hq, by simp, rfl⟩
  refine h0.fr ?_
  rintro g H' ⟨r, r0, e, hne, rfl, rfl⟩
  exact ⟨_, _, FR.drop (r := r0) (by rw [YL hne, ZX]), r, rfl, by rw [YE hne, YW]⟩
theorem w219 (k e b:Int):Pu 219 [I k,I e,I b] (· = I (shK e b k)):=by
 refine ZZ mxd i219 rfl (by simp) ?_;refine X0 ?_
 (refine R0 ?_;with_reducible repeat' first|intro h|apply jO)
 ·rw[shK,if_pos oT]
 ·rw[shK,if_neg oT]
theorem o175 (x:Nod) (e b:Int) (hx:x.kids.length≤1048576) (H:GH):Gc 175 [Nd x,I e,I b] H (fun g H'=>∃H1,(∃r,g = .agg [I x.id,I (shK e b x.parent),I x.place,I x.lit,T x.rule,.own r 1 0 x.kids.length]∧H1=[(r,1,(x.kids.map (shK e b)).map I)])∧H'=H1++H):=by
 have h0:Gc 175 [Nd x,I e,I b] H (fun g H'=>∃r r0 u,r≠r0∧g = .agg [I x.id,I (shK e b x.parent),I x.place,I x.lit,T x.rule,.own r 1 0 x.kids.length]∧H'=(r,1,(x.kids.map (shK e b)).map I)::(r0,6,u)::H):=by
  refine ZZ mxd i175 rfl (by simp) ?_;refine X0 ?_
  (refine R0 ?_;with_reducible repeat' intro h)
  rename_i r0 _ q0
  refine wloopN mxd (ι:={ y:Nat×Nat // y.2≤x.kids.length }) (fun y=>[(1,I e),(2,I b),(3,.ptr r0 6 0 0),(6,.raw 6),(7,.own y.1.1 1 0 y.1.2),(8,I y.1.2)]) (fun y=>(y.1.1,1,((x.kids.take y.1.2).map (shK e b)).map I)::(r0,6,[.agg [I x.id,I x.parent,I x.place,I x.lit,T x.rule,IS x.kids]])::H) (fun y=>x.kids.length-y.1.2) ⟨(q0,0),by simp⟩ (by simp[E2]) rfl ?_
  rintro ⟨⟨q,i⟩,hi⟩ hn
  dsimp only at hi hn ⊢
  have hq:q≠r0:=by simp only[names,List.map_cons,List.nodup_cons,List.mem_cons,not_or] at hn;exact hn.1.1
  (refine R1 (jO (hgO hq) (hsO hq)) ?_;with_reducible repeat' first|intro h|apply jO)
  ·refine callS.eq (w219 _ _ _) ?_
   (refine R1 (jO (hgO hq) (hsO hq)) ?_;with_reducible repeat' intro h)
   rename_i q2
   have hneq:q2≠q:=ne_of_new h ZX
   (refine R1 (jO (hgO hneq) (jO (hdO hneq) (jO @List.length_append.{0} (jO @List.length_singleton.{0} (jO @List.length_map.{0,0} (jO @List.length_take.{0} (jO @List.take_length.{0} @ZQ))))))) ?_;with_reducible repeat' intro h)
   rename_i q3
   have hq3:q3≠q2:=ne_of_new h ZX
   refine nxF ⟨(q3,i+1),oT⟩ (by simp;omega) (FE.drop (r:=q2) (by rw[YL hq3,ZX])) (by simp[E2]) ?_
   rw[YE hq3,YW]
   exact congrArg (fun l=>(q3,1,l) :: _) (X4 I (shK e b) x.kids i (by assumption))
  ·have:i=x.kids.length:=by omega
   subst this
   refine callS.eq (w219 _ _ _) ?_
   (refine R1 (jO (hgO hq) (hsO hq)) ?_)
   rw[List.take_length]
   exact ⟨q,r0,_,hq,rfl,rfl⟩
 refine h0.fr ?_
 rintro g H' ⟨r,r0,u,hne,rfl,rfl⟩
 exact ⟨_,_,FR.drop (r:=r0) (by rw[YL hne,ZX]),_,⟨r,rfl,rfl⟩,by rw[YE hne,YW];rfl⟩
theorem o65 (t:List Nod) (hl:t.length≤1048576) (hx:∀x∈t,x.kids.length≤1048576) (H:GH):Gc 65 [Tr t] H (fun g H'=>∃r,g = .agg [.own r 6 0 t.length]∧H'=(r,6,t.map NdO)::H):=by
 have h0:Gc 65 [Tr t] H (fun g H'=>∃r r0 e,r≠r0∧g = .agg [.own r 6 0 t.length]∧H'=(r,6,t.map NdO)::(r0,1,e)::H):=by
  refine ZZ mxd i65 rfl (by simp) ?_;refine X0 ?_
  (refine R0 ?_;with_reducible repeat' intro h)
  rename_i r0
  refine Y5 mxd (ι:={ y:Nat×Nat // y.2≤t.length }) (fun y=>[(1,.rop 1 (Tr t)),(2,.raw 1),(3,.ptr r0 1 0 0),(4,I y.1.2)]) (fun y=>(y.1.1,6,(t.take y.1.2).map NdO)::(r0,1,[.own y.1.1 6 0 y.1.2])::H) (fun y=>t.length-y.1.2) ⟨(YA ((r0,1,[.agg [.val (.slice none 0 0)]])::H),0),by simp⟩ (FE.virtU1 (sz1:=6) (Yp _) (Yq _)) (by simp[E2]) rfl ?_
  rintro ⟨⟨q,k⟩,hk⟩ hn
  dsimp only at hk hn ⊢
  refine ZB mxd ?_
  replace hn:=Z6 hn
  (replace hn:=hn;simp only[VN] at hn)
  rcases nL k t.length with hlt|hge
  ·have hxk:=hx _ (gM hlt)
   (refine V1 (jO hn (jO @List.length_append.{0} (jO @List.length_singleton.{0} (jO @List.length_map.{0,0} (jO @List.length_take.{0} @ZQ))))) ?_;with_reducible repeat' first|intro h|refine aO ?_|apply jO)
   ·rename_i rn _ _ _ rc _ r3 _ r4
    refine nxF ⟨(r4,k+1),oT⟩ (by simp;omega) (FE.trans (FE.perm (H:=[_,_,_,_,_]) (L:=[(r4,_),(rc,_),(r0,_)]) (by repeat' (first|exact trivial|(refine jO (by simp only[Z9, *,if_true,if_false];try rfl) (jO (by simp[ZW,ZV, *]) ?_))))) (FE.closeL2 (j:=5) (by simp[*]) rfl (by simp))) (by simp[E2]) ?_
    rw[tL (by simp;omega)]
    exact congrArg (fun l=>(r4,6,l) :: _) (take_snocM NdO hlt)
   all_goals (exfalso;omega)
  ·obtain rfl:k=t.length:=by omega
   (refine V1 (jO hn (jO @List.length_append.{0} (jO @List.length_singleton.{0} (jO @List.length_map.{0,0} (jO @List.length_take.{0} @ZQ))))) ?_;with_reducible repeat' intro h)
   exact ⟨q,r0,_,hn.1.1,rfl,by rw[List.take_length]⟩
 refine h0.fr ?_
 rintro g H' ⟨r,r0,e,hne,rfl,rfl⟩
 exact ⟨_,_,FR.drop (r:=r0) (by rw[YL hne,ZX]),r,rfl,by rw[YE hne,YW]⟩
theorem o58 (t:List Nod) (hl:t.length≤1048576) (hx:∀x∈t,x.kids.length≤1048576) (H:GH):Gc 58 [Tr t] H (fun g H'=>∃r,g = .agg [.own r 6 0 t.length]∧H'=(r,6,t.map NdO)::H):=by
 have h0:Gc 58 [Tr t] H (fun g H'=>∃r r0 e,r≠r0∧g = .agg [.own r 6 0 t.length]∧H'=(r,6,t.map NdO)::(r0,1,e)::H):=by
  refine ZZ mxd i58 rfl (by simp) ?_;refine X0 ?_
  (refine R0 ?_;with_reducible repeat' intro h)
  rename_i r0
  refine Y5 mxd (ι:={ y:Nat×Nat // y.2≤t.length }) (fun y=>[(1,.rop 1 (Tr t)),(2,.raw 1),(3,.ptr r0 1 0 0),(8,NdS t),(9,I t.length),(10,I y.1.2)]) (fun y=>(y.1.1,6,(t.take y.1.2).map NdO)::(r0,1,[.own y.1.1 6 0 y.1.2])::H) (fun y=>t.length-y.1.2) ⟨(YA ((r0,1,[.agg [.val (.slice none 0 0)]])::H),0),by simp⟩ (FE.virtU1 (sz1:=6) (Yp _) (Yq _)) (by simp[E2]) rfl ?_
  rintro ⟨⟨q,k⟩,hk⟩ hn
  dsimp only at hk hn ⊢
  refine ZB mxd ?_
  replace hn:=Z6 hn
  (replace hn:=hn;simp only[VN] at hn)
  rcases nL k t.length with hlt|hge
  ·have hxk:=hx _ (gM hlt)
   (refine V1 (jO hn (jO @List.length_append.{0} (jO @List.length_singleton.{0} (jO @List.length_map.{0,0} (jO @List.length_take.{0} @ZQ))))) ?_;with_reducible repeat' first|intro h|apply jO)
   ·refine callS.of (o112 _ hxk _) ?_
    rintro g H' ⟨H1,⟨rc,rfl,rfl⟩,rfl⟩ hnc
    replace hnc:=Z6 hnc
    simp only[List.cons_append,List.nil_append] at hnc ⊢
    (replace hnc:=hnc;simp only[VN] at hnc)
    (refine V1 (jO hn (jO hnc (jO @List.length_append.{0} (jO @List.length_singleton.{0} (jO @List.length_map.{0,0} (jO @List.length_take.{0} @ZQ)))))) ?_;with_reducible repeat' first|exact trivial|intro h|refine aO ?_|refine eO ?_|apply jO)
    rename_i rn _ r3 _ r4
    refine nxF ⟨(r4,k+1),oT⟩ (by simp;omega) (FE.trans (FE.perm (H:=[_,_,_,_,_]) (L:=[(r4,_),(rc,_),(r0,_)]) (by repeat' (first|exact trivial|(refine jO (by simp only[Z9, *,if_true,if_false];try rfl) (jO (by simp[ZW,ZV, *]) ?_))))) (FE.closeL2 (j:=5) (by simp[*]) rfl (by simp))) (by simp[E2]) ?_
    rw[tL (by simp;omega)]
    exact congrArg (fun l=>(r4,6,l) :: _) (take_snocM NdO hlt)
   all_goals (exfalso;omega)
  ·obtain rfl:k=t.length:=by omega
   (refine V1 (jO hn (jO @List.length_append.{0} (jO @List.length_singleton.{0} (jO @List.length_map.{0,0} (jO @List.length_take.{0} @ZQ))))) ?_;with_reducible repeat' intro h)
   exact ⟨q,r0,_,hn.1.1,rfl,by rw[List.take_length]⟩
 refine h0.fr ?_
 rintro g H' ⟨r,r0,e,hne,rfl,rfl⟩
 exact ⟨_,_,FR.drop (r:=r0) (by rw[YL hne,ZX]),r,rfl,by rw[YE hne,YW]⟩
theorem o119 (t:List Nod) (i:Int) (sub:List Nod) (hl:t.length≤1048576) (hx:∀x∈t,x.kids.length≤1048576) (hsl:sub.length≤1048576) (hsx:∀x∈sub,x.kids.length≤1048576) (H:GH):Gc 119 [Tr t,I i,Tr sub] H (fun g H'=>∃r,g = .agg [.own r 6 0 (YV t i sub).length]∧H'=(r,6,(YV t i sub).map NdO)::H):=by
 have h0:Gc 119 [Tr t,I i,Tr sub] H (fun g H'=>∃r,g = .agg [.own r 6 0 (YV t i sub).length]∧(H'=(r,6,(YV t i sub).map NdO)::H∨∃r0 e,r≠r0∧H'=(r,6,(YV t i sub).map NdO)::(r0,1,e)::H)):=by
  refine ZZ mxd i119 rfl (by simp) ?_;refine X0 ?_
  refine callS.eq (w21 t i) ?_
  by_cases hc:0≤i∧i<t.length∧sub≠[]
  ·obtain ⟨i,rfl⟩:∃k:Nat,i=k:=⟨i.toNat,oT⟩
   have hi:i<t.length:=by omega
   have hle:=Yr hi
   have hpos:=subLen_pos (t:=t) (i:=i)
   have hsn:0<sub.length:=List.length_pos_iff.2 hc.2.2
   have hn0:¬((ZC t i:Int)=0):=by omega
   have hs0:¬((sub.length:Int)=0):=by omega
   obtain ⟨F,hF⟩:∃F,outN (i+ZC t i) (sub.length-ZC t i)=F:=⟨_,rfl⟩
   have hre:YV t i sub=(t.take i).map F++(putT sub t[i] i++(t.drop (i+ZC t i)).map F):=by
    simp only[YV,if_pos hc,hF,Int.toNat_natCast]
    rw[Z3 hi]
   rw[hre]
   clear hre
   rw[YB hi]
   generalize hnn:ZC t i=n at *
   (refine V1 (jO hn0 hs0) ?_;with_reducible repeat' intro h)
   rename_i r0
   refine Y5 mxd (ι:={ y:Nat×Nat // y.2≤i }) (fun y=>[(1,I i),(3,.rop 1 (Tr t)),(5,.rop 1 (Tr sub)),(6,.raw 1),(7,I n),(8,.ptr r0 1 0 0),(9,I (sub.length-n)),(10,I y.1.2)]) (fun y=>(y.1.1,6,((t.take y.1.2).map F).map NdO)::(r0,1,[.own y.1.1 6 0 y.1.2])::H) (fun y=>i-y.1.2) ⟨(YA ((r0,1,[.agg [.val (.slice none 0 0)]])::H),0),by simp⟩ (FE.virtU1 (sz1:=6) (Yp _) (Yq _)) (by simp[E2]) rfl ?_
   rintro ⟨⟨q,k⟩,hk⟩ hn
   dsimp only at hk hn ⊢
   refine ZB mxd ?_
   replace hn:=Z6 hn
   (replace hn:=hn;simp only[VN] at hn)
   rcases nL k i with hlt|hge
   ·have hkt:k<t.length:=by omega
    have hxk:=hx _ (gM hkt)
    (refine V1 (jO hn (jO @List.length_append.{0} (jO @List.length_singleton.{0} (jO @List.length_map.{0,0} (jO @List.length_take.{0} @ZQ))))) ?_;with_reducible repeat' first|intro h|apply jO)
    ·refine callA.of (o175 t[k] _ _ hxk _) (by rintro g H' ⟨H1,_,rfl⟩;exact ⟨H1,rfl⟩) ?_
     rintro g H' ⟨H1,⟨rc,rfl,rfl⟩,rfl⟩ hnc
     replace hnc:=Z6 hnc
     simp only[List.cons_append,List.nil_append] at hnc ⊢
     (replace hnc:=hnc;simp only[VN] at hnc)
     (refine V1 (jO hn (jO hnc (jO @List.length_append.{0} (jO @List.length_singleton.{0} (jO @List.length_map.{0,0} (jO @List.length_take.{0} @ZQ)))))) ?_;with_reducible repeat' first|intro h|refine aO ?_)
     ·rename_i r3 _ r4
      refine nxF ⟨(r4,k+1),oT⟩ (by simp;omega) (FE.trans (FE.perm (H:=[_,_,_,_]) (L:=[(r4,_),(rc,_),(r0,_)]) (by repeat' (first|exact trivial|(refine jO (by simp only[Z9, *,if_true,if_false];try rfl) (jO (by simp[ZW,ZV, *]) ?_))))) (FE.closeL2 (j:=5) (by simp[*]) rfl (by simp))) (by simp[E2]) ?_
      rw[tL (by simp;omega),←take_snocM F hkt,List.map_append,←hF]
      rfl
    all_goals (exfalso;omega)
   ·have hki:i=k:=by omega
    subst hki
    (refine V1 (jO hn (jO @List.length_append.{0} (jO @List.length_singleton.{0} (jO @List.length_map.{0,0} (jO @List.length_take.{0} @ZQ))))) ?_;with_reducible repeat' intro h)
    all_goals try exact oF
    have hpl:(putT sub t[i] i).length = sub.length:=putT_len _ _ _
    have hil:(t.take i).length = i:=by simp;omega
    refine wloopN mxd (ι:={ y:Nat×Nat // y.2≤sub.length }) (fun y=>[(1,I i),(3,.rop 1 (Tr t)),(5,.rop 1 (Tr sub)),(6,.raw 1),(7,I n),(8,.ptr r0 1 0 0),(9,I (sub.length-n)),(11,I y.1.2)]) (fun y=>(y.1.1,6,((t.take i).map F++(putT sub t[i] i).take y.1.2).map NdO)::(r0,1,[.own y.1.1 6 0 (i+y.1.2)])::H) (fun y=>sub.length-y.1.2) ⟨(q,0),by simp⟩ (by simp[E2]) (by simp) ?_
    rintro ⟨⟨q2,k⟩,hk2⟩ hn2
    dsimp only at hk2 hn2 ⊢
    replace hn2:=Z6 hn2
    (replace hn2:=hn2;simp only[VN] at hn2)
    rcases nL k sub.length with hlt|hge
    ·have hxk:=hsx _ (gM hlt)
     have hik:k=0∨¬k=0:=by omega
     have hik':(k:Int)=0↔k=0:=by omega
     rcases hik with hik|hik
     all_goals
      (refine V1 (jO hn2 (jO hik (jO hik' (jO @List.length_append.{0} (jO @List.length_singleton.{0} (jO @List.length_map.{0,0} (jO @List.length_take.{0} @ZQ))))))) ?_;with_reducible repeat' first|intro h|refine aO ?_|apply jO)
     all_goals try exact oF
     all_goals
      refine callS.of (o176 _ _ (hsx _ (gM _)) _) ?_
      rintro g H' ⟨rc,rfl,rfl⟩ hnc
      replace hnc:=Z6 hnc
      (replace hnc:=hnc;simp only[VN] at hnc)
      (refine V1 (jO hn2 (jO hnc (jO hik (jO hik' (jO @List.length_append.{0} (jO @List.length_singleton.{0} (jO @List.length_map.{0,0} (jO @List.length_take.{0} @ZQ)))))))) ?_;with_reducible repeat' first|intro h|refine aO ?_)
     all_goals
      rename_i rx _ r3 _ r4
     ·subst hik
      refine nxF ⟨(r4,0+1),oT⟩ (by simp;omega) (FE.trans (FE.perm (H:=[_,_,_,_,_]) (L:=[(r4,_),(rc,_),(r0,_)]) (by repeat' (first|exact trivial|(refine jO (by simp only[Z9, *,if_true,if_false];try rfl) (jO (by simp[ZW,ZV, *]) ?_))))) (FE.closeL2 (j:=5) (by simp[*]) rfl (by simp))) (by simp[E2]) ?_
      rw[tL (by simp;omega),←putT_take hlt]
      simp only[List.take_zero,List.nil_append,List.append_nil,List.map_append,List.map_cons,List.map_nil,putK,if_true,Z3 hlt]
      rfl
     ·refine nxF ⟨(r4,k+1),oT⟩ (by simp;omega) (FE.trans (FE.perm (H:=[_,_,_,_,_]) (L:=[(r4,_),(rc,_),(r0,_)]) (by repeat' (first|exact trivial|(refine jO (by simp only[Z9, *,if_true,if_false];try rfl) (jO (by simp[ZW,ZV, *]) ?_))))) (FE.closeL2 (j:=5) (by simp[*]) rfl (by simp))) (by simp[E2]) ?_
      rw[tL (by simp;omega),←putT_take hlt]
      simp only[List.map_append,List.map_cons,List.map_nil,putK,if_neg hik,Z3 hlt,List.append_assoc]
      rfl
    ·have hki:k=sub.length:=by omega
     subst hki
     (refine V1 (jO hn2 (jO @List.length_append.{0} (jO @List.length_singleton.{0} (jO @List.length_map.{0,0} (jO @List.length_take.{0} @ZQ))))) ?_;with_reducible repeat' intro h)
     all_goals try exact oF
     have hdl:(t.drop (i+n)).length = t.length-(i+n):=by simp
     refine wloopN mxd (ι:={ y:Nat×Nat // y.2≤t.length-(i+n) }) (fun y=>[(1,I i),(3,.rop 1 (Tr t)),(5,.rop 1 (Tr sub)),(6,.raw 1),(7,I n),(8,.ptr r0 1 0 0),(9,I (sub.length-n)),(13,I ((i+n+y.1.2:Nat):Int))]) (fun y=>(y.1.1,6,((t.take i).map F++(putT sub t[i] i++((t.drop (i+n)).take y.1.2).map F)).map NdO)::(r0,1,[.own y.1.1 6 0 (i+sub.length+y.1.2)])::H) (fun y=>t.length-y.1.2) ⟨(q2,0),by simp⟩ (by simp[E2]) (by simp[tL (Nat.le_of_eq hpl)]) ?_
     rintro ⟨⟨q3,k⟩,hk3⟩ hn3
     dsimp only at hk3 hn3 ⊢
     replace hn3:=Z6 hn3
     (replace hn3:=hn3;simp only[VN] at hn3)
     rcases nL k (t.length-(i+n)) with hlt|hge
     ·have hkt:i+n+k<t.length:=by omega
      have hxk:=hx _ (gM hkt)
      (refine V1 (jO hn3 (jO @List.length_append.{0} (jO @List.length_singleton.{0} (jO @List.length_map.{0,0} (jO @List.length_take.{0} @ZQ))))) ?_;with_reducible repeat' first|intro h|apply jO)
      all_goals try exact oF
      refine callA.of (o175 _ _ _ (hx _ (gM _)) _) (by rintro g H' ⟨H1,_,rfl⟩;exact ⟨H1,rfl⟩) ?_
      rintro g H' ⟨H1,⟨rc,rfl,rfl⟩,rfl⟩ hnc
      replace hnc:=Z6 hnc
      simp only[List.cons_append,List.nil_append] at hnc ⊢
      (replace hnc:=hnc;simp only[VN] at hnc)
      (refine V1 (jO hn3 (jO hnc (jO @List.length_append.{0} (jO @List.length_singleton.{0} (jO @List.length_map.{0,0} (jO @List.length_take.{0} @ZQ)))))) ?_;with_reducible repeat' first|intro h|refine aO ?_)
      all_goals try exact oF
      rename_i r3 _ r4
      refine nxF ⟨(r4,k+1),oT⟩ (by simp;omega) (FE.trans (FE.perm (H:=[_,_,_,_]) (L:=[(r4,_),(rc,_),(r0,_)]) (by repeat' (first|exact trivial|(refine jO (by simp only[Z9, *,if_true,if_false];try rfl) (jO (by simp[ZW,ZV, *]) ?_))))) (FE.closeL2 (j:=5) (by simp[*]) rfl (by simp))) (by simp[E2];omega) ?_
      have hkd:k<(t.drop (i+n)).length := by rw[hdl];omega
      rw[tL (by simp[hpl];omega),←take_snocM F hkd,List.getElem_drop]
      simp only[List.map_append,List.map_cons,List.map_nil,List.append_assoc,←hF]
      rfl
     ·have hki:k=t.length-(i+n):=by omega
      subst hki
      (refine V1 (jO hn3 @ZQ) ?_;with_reducible repeat' intro h)
      all_goals try exact oF
      rw[tL (Nat.le_of_eq hdl)]
      exact ⟨q3,by simp[hpl];omega,.inr ⟨r0,_,hn3.1.1,rfl⟩⟩
  ·have hre:YV t i sub=t:=by simp only[YV,if_neg hc]
   rw[hre]
   have hz:¬(Y6 t i=0)→((sub.length:Int)=0):=fun h=>by
    have:0≤i∧i<t.length:=by
     refine Classical.byContradiction fun h'=>h ?_
     simp[Y6,h']
    have:sub=[]:=Classical.byContradiction fun h'=>hc ⟨this.1,this.2,h'⟩
    simp[this]
   rcases Classical.em (Y6 t i=0) with h0|h0
   ·simp only[h0]
    (refine V1 h0 ?_)
    refine callS.of (o65 t hl hx _) ?_
    rintro g H' ⟨r,rfl,rfl⟩ -
    (refine V1 h0 ?_)
    exact ⟨r,rfl,.inl rfl⟩
   ·have h1:=hz h0
    (refine V1 (jO h0 h1) ?_)
    refine callS.of (o65 t hl hx _) ?_
    rintro g H' ⟨r,rfl,rfl⟩ -
    (refine V1 h0 ?_)
    exact ⟨r,rfl,.inl rfl⟩
 refine h0.fr ?_
 rintro g H' ⟨r,rfl,rfl|⟨r0,e,hne,rfl⟩⟩
 ·exact ⟨_,_,FR.refl _ _,r,rfl,rfl⟩
 ·exact ⟨_,_,FR.drop (r:=r0) (by rw[YL hne,ZX]),r,rfl,by rw[YE hne,YW]⟩
end Go.Proofs.YtknbnefbgpnkgaaGreat
