/- The laws FnStatic and FnStaticTypes return true whatever the input, and the input reads behind the call as before. No condition. -/
import Derived.Test.YtknbnefbgpnkgaaGreatFst2
set_option maxHeartbeats 40000000
set_option maxRecDepth 20000
set_option linter.unusedSimpArgs false
set_option linter.unusedVariables false
namespace Go.Proofs.YtknbnefbgpnkgaaGreat
open Go.Gh
open Nat (reduceEqDiff reduceLeDiff reduceAdd reduceLT)
open Int (reduceNe)
theorem w183 (t:List Exp) (f:Nat) (cs:List GV) (p:Exp→Bool) (hp:∀x∈t,Pu f (Ex x::cs) (· = B (p x))) :
 Pu 183 [ExS t,.clo f cs] (· = I (Zu p t)):=by
 refine GCalls.lenA fun hl=> ?_
 have hlen:=hl.1.1
 simp only[List.length_map,Zn] at hlen
 refine Z5 mxd i183 rfl (by simp) ?_;refine X0 ?_
 refine ZL mxd (ι:={ i:Nat // i≤t.length∧∀y∈t.take i,p y=false }) (fun i=>[(0,ExS t),(1,.clo f cs),(7,I t.length),(8,I i.1)]) (fun _ => []) (fun i=>t.length-i.1) ⟨0,by simp⟩ (by simp[E2]) rfl ?_
 rintro ⟨i,hi,hn⟩
 (refine R1 (jO @XS (jO @geR_Ex (jO @XV @stor_Ex))) ?_;with_reducible repeat' first|intro h|apply jO)
 ·refine callS.eq (hp t[i] (gM _)) ?_
  (refine R0 ?_;with_reducible repeat' first|intro h|apply jO)
  ·rw[YT (by assumption) h hn]
  ·exact nx ⟨i+1,oT,ZA (by assumption) h hn⟩ (by simp;omega) (by simp[E2]) rfl
 ·have:i=t.length:=by omega
  subst this
  rw[tL (Nat.le_refl _)] at hn
  rw[YV hn]
theorem w140 (t:List Exp) (f:Nat) (cs:List GV) (p:Exp→Bool) (hp:∀x∈t,Pu f (Ex x::cs) (· = B (p x))) :
 Pu 140 [ExS t,.clo f cs] (· = B (t.any p)):=by
 refine Z5 mxd i140 rfl (by simp) ?_;refine X0 ?_
 refine callS.eq (w183 t f cs p hp) ?_
 (refine R0 ?_)
 rw[←any_ix]
theorem w184 (f:Nat) (cs:List GV) (p:Exp→Bool) (ok:Exp→Prop) (hok:∀e,ok e→∀a∈e.args,ok a) (hp:∀x,ok x→Pu f (Ex x::cs) (· = B (p x))) :
 ∀e,ok e→Pu 184 [Ex e,.clo f cs] (· = B (allE p e)):=by
 refine Exp.indA fun e ih he=> ?_
 have hq:=hp e he
 rw[Y6] at hq ⊢
 refine Z5 mxd i184 rfl (by simp) ?_;refine X0 ?_
 refine ⟨rfl,callS.eq hq ?_⟩
 (refine R0 ?_;with_reducible repeat' first|intro h|apply jO)
 ·refine callS.eq (w140 e.args _ _ (fun a=> !allE p a) fun a ha=> ?_) ?_
  ·refine Z5 mxd i225 rfl (by simp) ?_;refine X0 ?_
   (refine R1 (jO @XS (jO @geR_Ex (jO @XV @stor_Ex))) ?_)
   refine callS.eq (ih a ha (hok e he a ha)) ?_
   (refine R0 ?_;with_reducible repeat' exact trivial)
  ·(refine R0 ?_)
   rw[allE_eq]
   simp_all [any_not]
 ·rw[allE_eq]
  simp_all
theorem w266 (c:UInt8):Pu 266 [.val (.int .u8 c.toNat)] (· = B (letV c)):=by
 refine Z5 mxd i266 rfl (by simp) ?_;refine X0 ?_
 (refine R0 ?_;with_reducible repeat' first|intro h|apply jO)<;>simp_all [letV]<;>(intros;omega)
theorem w267 (c:UInt8):Pu 267 [.val (.int .u8 c.toNat)] (· = B (digV c)):=by
 refine Z5 mxd i267 rfl (by simp) ?_;refine X0 ?_
 (refine R0 ?_;with_reducible repeat' first|intro h|apply jO)<;>simp_all [digV]<;>(intros;omega)
theorem w305:Pu 305 [] (· = .sl 1 (kwS.map T)):=by
 have o:Gc 305 [] [] (fun g H'=>∃r,g = .own r 1 0 13∧H'=[(r,1,kwS.map T)]):=by
  refine Z5 mxd i305 rfl (by simp) ?_;refine X0 ?_
  intro r hr
  exact ⟨r,rfl,rfl⟩
 refine o.fr ?_
 rintro g H' ⟨r,rfl,rfl⟩
 exact ⟨_,_,FR.freeze ZZ (.all ZZ (by simp[kwS]) (by simp[view,kwS])),rfl⟩
theorem w251 (l:List ByteArray) (s:ByteArray):Pu 251 [.sl 1 (l.map T),T s] (· = B (hasS l s)):=by
 refine GCalls.lenA fun hl=> ?_
 have hlen:=hl.1.1
 simp only[List.length_map,Zn] at hlen
 refine Z5 mxd i251 rfl (by simp) ?_;refine X0 ?_
 refine ZL mxd (ι:={ i:Nat // i≤l.length∧∀y∈l.take i,decide (y=s)=false }) (fun i=>[(0,.sl 1 (l.map T)),(1,T s),(5,I i.1)]) (fun _ => []) (fun i=>l.length-i.1) ⟨0,by simp⟩ (by simp[E2]) rfl ?_
 rintro ⟨i,hi,hn⟩
 (refine R0 ?_;with_reducible repeat' first|intro h|apply jO)
 ·rw[hasS_hit (by assumption) h]
 ·exact nx ⟨i+1,oT,ZA (by assumption) (by simpa using h) hn⟩ (by simp;omega) (by simp[E2]) rfl
 ·have:i=l.length:=by omega
  subst this
  rw[tL (Nat.le_refl _)] at hn
  rw[hasS_none hn]
theorem w268 (s:ByteArray):Pu 268 [T s] (· = B (resV s)):=by
 refine Z5 mxd i268 rfl (by simp) ?_;refine X0 ?_
 (refine R0 ?_;with_reducible repeat' first|intro h|apply jO)
 all_goals first|(simp_all [resV,hasS,kwS,show ∀x,(x=s)=(s=x) from fun x=>propext eq_comm];done)|skip
theorem w296 (s:ByteArray):Pu 296 [T s] (· = B (resV s)):=by
 refine Z5 mxd i296 rfl (by simp) ?_;refine X0 ?_
 refine callS.eq w305 ?_
 (refine R0 ?_)
 refine callS.eq (w251 _ _) ?_
 (refine R0 ?_)
 rfl
theorem w295 (s : ByteArray) (hs : s.size ≤ maxLen) : Pu 295 [T s] (· = B (shp (ZR s))) := by
  simp only [maxLen, Yg] at hs
  refine Z5 mxd i295 rfl (by simp) ?_; refine X0 ?_
  refine ZL mxd (ι := { i : Nat // i ≤ (ZR s).length ∧ ∀ (j : Nat) (h : j < (ZR s).length), j < i → letV (ZR s)[j] = true ∨ (j ≠ 0 ∧ digV (ZR s)[j] = true) }) (fun i => [(0, T s), (3, I i.1)]) (fun _ => []) (fun i => (ZR s).length - i.1) ⟨0, by simp⟩ (by simp [E2]) rfl ?_
  rintro ⟨i, hi, hn⟩
  (refine R0 ?_; with_reducible repeat' first|intro h|refine aO ?_|apply jO)
  all_goals first
    | (rw [shp_bad (i := i) (by assumption) (by simp only [letV, digV, Bool.and_eq_true, decide_eq_true_eq]; omega)]; done)
    | (have hlt : i < (ZR s).length := by omega
       have hg : letV (ZR s)[i] = true ∨ (i ≠ 0 ∧ digV (ZR s)[i] = true) := by
         simp only [letV, digV, Bool.and_eq_true, decide_eq_true_eq]
         omega
       exact nx ⟨i + 1, oT, shp_step hlt hn hg⟩ (by simp; omega) (by simp [E2]) rfl)
    | (have : i = (ZR s).length := by omega
       subst this
       rw [shp_end hn]
       simp; done)
    | skip
  all_goals have hlt : i < (ZR s).length := by omega
  all_goals have hg : letV (ZR s)[i] = true ∨ (i ≠ 0 ∧ digV (ZR s)[i] = true) := by (simp only [letV, digV, Bool.and_eq_true, decide_eq_true_eq]; omega)
  all_goals refine nx ⟨i + 1, oT, shp_step hlt hn hg⟩ ?_ ?_ rfl
  all_goals first | (simp only; omega) | exact (by simp [E2]) | skip
theorem w270 (s:ByteArray) (hs:s.size≤maxLen):Pu 270 [T s] (· = B (Zo s)):=by
 have hs':=hs
 simp only[maxLen,Yg] at hs'
 refine Z5 mxd i270 rfl (by simp) ?_;refine X0 ?_
 refine callS.eq (w295 s hs) ?_
 (refine R0 ?_;with_reducible repeat' first|intro h|apply jO)
 all_goals try (refine callS.eq (w296 _) ?_;(refine R0 ?_))
 all_goals simp_all [Zo]
 all_goals try (intros;omega)
theorem w227 (s : ByteArray) (hs : s.size ≤ maxLen) : Pu 227 [T s] (· = B (Zo s)) := by
  simp only [maxLen, Yg] at hs
  refine Z5 mxd i227 rfl (by simp) ?_; refine X0 ?_
  refine ZL mxd (ι := { i : Nat // i ≤ (ZR s).length ∧ ∀ (j : Nat) (h : j < (ZR s).length), j < i → letV (ZR s)[j] = true ∨ digV (ZR s)[j] = true }) (fun i => [(0, T s), (5, I (ZR s).length), (6, I i.1)]) (fun _ => []) (fun i => (ZR s).length - i.1) ⟨0, by simp⟩ (by simp [E2]) rfl ?_
  rintro ⟨i, hi, hn⟩
  rcases nL i (ZR s).length with hlt | hge
  · have hnx : letV (ZR s)[i] = true ∨ digV (ZR s)[i] = true → ∀ (j : Nat) (h : j < (ZR s).length), j < i + 1 → letV (ZR s)[j] = true ∨ digV (ZR s)[j] = true := fun hg j hj hji => by
      by_cases e : j = i
      · subst e; exact hg
      · exact hn j hj oT
    (repeat' (first | (with_reducible refine callS.eq (w266 _) ?_) | (with_reducible refine callS.eq (w267 _) ?_) | simp (maxSteps := 9^7) only [↓ S2, S2, ZH, ↓reduceIte, reduceNe, reduceEqDiff, reduceCtorEq, reduceLeDiff, reduceAdd, reduceLT] | simp only [ZP] | simp +contextual (disch := omega) only [Z2] | with_reducible first | intro h | refine jO oT ?_ | refine exP oT ?_ | apply jO))
    all_goals try exact oF
    · exact nx ⟨i + 1, oT, hnx (.inl h)⟩ (by show (ZR s).length - (i + 1) < (ZR s).length - i; omega) (by simp [E2]) rfl
    · exact nx ⟨i + 1, oT, hnx (.inr h)⟩ (by show (ZR s).length - (i + 1) < (ZR s).length - i; omega) (by simp [E2]) rfl
    · rw [XP, shp_no hlt (by assumption) (by assumption)]; rfl
  · have : i = (ZR s).length := by omega
    subst this
    (repeat' (first | (with_reducible refine callS.eq (w57 _ _ _) ?_) | (with_reducible refine callS.eq (w266 _) ?_) | (with_reducible refine callS.eq (w268 _) ?_) | simp (maxSteps := 9^7) only [↓ S2, S2, ZH, ↓reduceIte, reduceNe, reduceEqDiff, reduceCtorEq, reduceLeDiff, reduceAdd, reduceLT] | simp only [ZP] | simp +contextual (disch := omega) only [Z2] | with_reducible first | intro h | refine jO oT ?_ | refine exP oT ?_ | apply jO))
    all_goals try exact oF
    all_goals first
      | (rw [XP, shp_yes oT (by assumption) (fun j h => hn j h h), decide_eq_true oT]; rfl)
      | (rw [XP, shp_no0 oT (by assumption)]; rfl)
      | (rw [XP, decide_eq_false (show ¬ (ZR s).length ≤ 8 by omega), Bool.and_false]; rfl)
      | (rcases Nat.eq_zero_or_pos (ZR s).length with h0 | h0
         · rw [XP, List.eq_nil_of_length_eq_zero h0]; rfl
         · rw [XP, decide_eq_false (show ¬ (ZR s).length ≤ 8 by omega), Bool.and_false]; rfl)
theorem w228 (e:Exp) (k n p t:Int) (s m:ByteArray) (a:List Exp):Pu 228 [Ex e,.agg [I k,I n,I p,I t,T s,T m,ExS a]] (· = B (decide (e.kind=k)&&(decide (e.n=n)&&(decide (e.pos=p)&&(decide (e.type=t)&&(decide (e.sym=s)&&decide (e.name=m))))))):=by
 refine Z5 mxd i228 rfl (by simp) ?_;refine X0 ?_
 (repeat' (first|(with_reducible refine callS.eq (w57 _ _ _) ?_)|simp (maxSteps:=9^7) only[↓ S2,S2,ZH,↓reduceIte,reduceNe,reduceEqDiff,reduceCtorEq,reduceLeDiff,reduceAdd,reduceLT,XE]|simp only[ZP]|simp +contextual (disch:=omega) only[Z2]|with_reducible first|intro h|refine jO oT ?_ | refine exP oT ?_ | apply jO))
 all_goals (simp_all;done)
end Go.Proofs.YtknbnefbgpnkgaaGreat
