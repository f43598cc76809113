/- The law FnStaticTypes returns true whatever the input, and the input reads behind the call as before. No condition. -/
import Derived.Test.YtkmedfejmndmjaaGreatFst2
set_option maxHeartbeats 40000000
set_option maxRecDepth 20000
set_option linter.unusedSimpArgs false
set_option linter.unusedVariables false
namespace Go.Proofs.YtkmedfejmndmjaaGreat
open Go.Gh
open Nat (reduceEqDiff reduceLeDiff reduceAdd reduceLT)
open Int (reduceNe)
theorem w152 (g:Gram) (r:Rul) (e:Exp) (hl:e.args.length≤1048576) (ih:∀a∈e.args,Pu 90 [Gr g,Ru r,Ex a] (· = I (tyE g r a))):Pu 152 [Gr g,Ru r,Ex e] (· = I (if (e.args.map (tyE g r)).length = 2∧(e.args.map (tyE g r)).getD 0 0=(opT e.n).1 ∧ (e.args.map (tyE g r)).getD 1 0=(opT e.n).2.1 then (opT e.n).2.2 else 0)):=by
 refine Z5 mxd i152 rfl (by simp) ?_;refine X0 ?_
 (repeat' (first|(with_reducible refine callS.eq (w214 _) ?_)|(with_reducible refine callS.eq (ih _ (gM _)) ?_)|simp (maxSteps:=9^7) only[↓ S2,S2,ZF,↓reduceIte,reduceNe,reduceEqDiff,reduceCtorEq,reduceLeDiff,reduceAdd,reduceLT,XE]|simp only[ZQ]|simp +contextual (disch:=omega) only[Z2]|with_reducible first|intro h|refine jO oT ?_ | refine exP oT ?_ | apply jO))
 all_goals try exact oF
 ·rw[if_pos ⟨oT,by rw[Ye oT];assumption,by rw[Ye oT];assumption⟩]
 ·rw[if_neg (fun ⟨h1,h2,h3⟩=>by rw[Ye oT] at h3;contradiction)]
 ·rw[if_neg (fun ⟨h1,h2,h3⟩=>by rw[Ye oT] at h2;contradiction)]
 ·rw[if_neg (fun ⟨h1,h2,h3⟩=>by omega)]
theorem w153 (g:Gram) (r:Rul) (e:Exp) (hl:e.args.length≤1048576) (ih:∀a∈e.args,Pu 90 [Gr g,Ru r,Ex a] (· = I (tyE g r a))):Pu 153 [Gr g,Ru r,Ex e] (· = I (if (e.args.map (tyE g r)).length = 3∧(e.args.map (tyE g r)).getD 0 0=3∧(e.args.map (tyE g r)).getD 1 0=(e.args.map (tyE g r)).getD 2 0 then (e.args.map (tyE g r)).getD 1 0 else 0)):=by
 refine Z5 mxd i153 rfl (by simp) ?_;refine X0 ?_
 (repeat' (first|(with_reducible refine callS.eq (ih _ (gM _)) ?_)|simp (maxSteps:=9^7) only[↓ S2,S2,ZF,↓reduceIte,reduceNe,reduceEqDiff,reduceCtorEq,reduceLeDiff,reduceAdd,reduceLT,XE]|simp only[ZQ]|simp +contextual (disch:=omega) only[Z2]|with_reducible first|intro h|refine jO oT ?_ | refine exP oT ?_ | apply jO))
 all_goals try exact oF
 ·rw[if_pos ⟨oT,by rw[Ye oT];assumption,by rw[Ye oT,Ye oT];assumption⟩,Ye oT]
  rfl
 ·rw[if_neg (fun ⟨h1,h2,h3⟩=>by rw[Ye oT,Ye oT] at h3;contradiction)]
 ·rw[if_neg (fun ⟨h1,h2,h3⟩=>by rw[Ye oT] at h2;contradiction)]
 ·rw[if_neg (fun ⟨h1,h2,h3⟩=>by omega)]
theorem w90 (g:Gram) (r:Rul) (hg:ZE g) (hr:Y7 r):∀e:Exp,wEx e≤1048576→Pu 90 [Gr g,Ru r,Ex e] (· = I (tyE g r e)):=by
 refine Exp.indA fun e ih hw=> ?_
 obtain ⟨hl,ha⟩:=YT hw
 have hrr:=hr.1
 refine Z5 mxd i90 rfl (by simp) ?_;refine X0 ?_
 rw[tyE_eq]
 have hk:e.kind=1∨e.kind=2∨e.kind=3∨e.kind=4∨e.kind=5∨e.kind=6∨e.kind=7∨e.kind=8∨(¬e.kind=1∧¬e.kind=2∧¬e.kind=3∧¬e.kind=4∧¬e.kind=5∧¬e.kind=6∧¬e.kind=7∧¬e.kind=8):=by omega
 rcases hk with hk|hk|hk|hk|hk|hk|hk|hk|hk
 all_goals (repeat' (first|(with_reducible refine callS.eq (w44 _ _ _) ?_)|(with_reducible refine callS.eq (w11 _ _ hr) ?_)|(with_reducible refine callS.eq (w91 _ _ _ hg) ?_)|(with_reducible refine callS.eq (w152 g r e hl (fun a h=>ih a h (ha a h))) ?_)|(with_reducible refine callS.eq (w153 g r e hl (fun a h=>ih a h (ha a h))) ?_)|(with_reducible refine callS.eq (ih _ (gM _) (ha _ (gM _))) ?_)|simp (maxSteps:=9^7) only[↓ S2,S2,ZF,↓reduceIte,reduceNe,reduceEqDiff,reduceCtorEq,reduceLeDiff,reduceAdd,reduceLT,XE,hk]|simp only[ZQ]|simp +contextual (disch:=omega) only[Z2]|with_reducible first|intro h|refine jO oT ?_ | refine exP oT ?_ | apply jO))
 all_goals try exact oF
 all_goals simp only[tyK,hk,Zk,Int.reduceEq,reduceIte,List.length_map]
 all_goals first
  | (rw[if_pos (by assumption)];done)
  | (rw[if_neg (by assumption)];rfl)
  | (rw[if_pos ⟨oT,by rw[Ye oT];assumption⟩];done)
  | (rw[if_neg (fun ⟨h1,h2⟩=>by rw[Ye oT] at h2;contradiction)];done)
  | (rw[if_neg (fun ⟨h1,h2⟩=>by omega)];done)
  | (rw[if_neg (by simp_all)];done)
  | (split<;>simp_all;done)
  | skip
 by_cases hc:e.args.length=3∧(e.args.map (tyE g r)).getD 0 0=3∧(e.args.map (tyE g r)).getD 1 0=(e.args.map (tyE g r)).getD 2 0
 ·rw[if_pos hc,if_pos hc,hc.2.2]
 ·rw[if_neg hc,if_neg hc]
theorem w157 (t:List Exp) (f:Nat) (cs:List GV) (p:Exp→Bool) (hp:∀x∈t,Pu f (Ex x::cs) (· = B (p x))) :
 Pu 157 [ExS t,.clo f cs] (· = I (Zt p t)):=by
 refine GCalls.lenA fun hl=> ?_
 have hlen:=hl.1.1
 simp only[List.length_map,Zc] at hlen
 refine Z5 mxd i157 rfl (by simp) ?_;refine X0 ?_
 refine ZL mxd (ι:={ i:Nat // i≤t.length∧∀y∈t.take i,p y=false }) (fun i=>[(0,ExS t),(1,.clo f cs),(7,I t.length),(8,I i.1)]) (fun _ => []) (fun i=>t.length-i.1) ⟨0,by simp⟩ (by simp[E2]) rfl ?_
 rintro ⟨i,hi,hn⟩
 (refine R1 (jO @XP (jO @geR_Ex (jO @XS @stor_Ex))) ?_;with_reducible repeat' first|intro h|apply jO)
 ·refine callS.eq (hp t[i] (gM _)) ?_
  (refine R0 ?_;with_reducible repeat' first|intro h|apply jO)
  ·rw[YP (by assumption) h hn]
  ·exact nx ⟨i+1,oT,Zn (by assumption) h hn⟩ (by simp;omega) (by simp[E2]) rfl
 ·have:i=t.length:=by omega
  subst this
  rw[tL (Nat.le_refl _)] at hn
  rw[YO hn]
theorem w96 (t:List Exp) (f:Nat) (cs:List GV) (p:Exp→Bool) (hp:∀x∈t,Pu f (Ex x::cs) (· = B (p x))) :
 Pu 96 [ExS t,.clo f cs] (· = B (t.any p)):=by
 refine Z5 mxd i96 rfl (by simp) ?_;refine X0 ?_
 refine callS.eq (w157 t f cs p hp) ?_
 (refine R0 ?_)
 rw[←any_ix]
theorem w158 (f:Nat) (cs:List GV) (p:Exp→Bool) (ok:Exp→Prop) (hok:∀e,ok e→∀a∈e.args,ok a) (hp:∀x,ok x→Pu f (Ex x::cs) (· = B (p x))) :
 ∀e,ok e→Pu 158 [Ex e,.clo f cs] (· = B (allE p e)):=by
 refine Exp.indA fun e ih he=> ?_
 have hq:=hp e he
 rw[Y3] at hq ⊢
 refine Z5 mxd i158 rfl (by simp) ?_;refine X0 ?_
 refine ⟨rfl,callS.eq hq ?_⟩
 (refine R0 ?_;with_reducible repeat' first|intro h|apply jO)
 ·refine callS.eq (w96 e.args _ _ (fun a=> !allE p a) fun a ha=> ?_) ?_
  ·refine Z5 mxd i216 rfl (by simp) ?_;refine X0 ?_
   (refine R1 (jO @XP (jO @geR_Ex (jO @XS @stor_Ex))) ?_)
   refine callS.eq (ih a ha (hok e he a ha)) ?_
   (refine R0 ?_;with_reducible repeat' exact trivial)
  ·(refine R0 ?_)
   rw[allE_eq]
   simp_all [any_not]
 ·rw[allE_eq]
  simp_all
theorem w231 (c:UInt8):Pu 231 [.val (.int .u8 c.toNat)] (· = B (letV c)):=by
 refine Z5 mxd i231 rfl (by simp) ?_;refine X0 ?_
 (refine R0 ?_;with_reducible repeat' first|intro h|apply jO)<;>simp_all [letV]<;>(intros;omega)
theorem w232 (c:UInt8):Pu 232 [.val (.int .u8 c.toNat)] (· = B (digV c)):=by
 refine Z5 mxd i232 rfl (by simp) ?_;refine X0 ?_
 (refine R0 ?_;with_reducible repeat' first|intro h|apply jO)<;>simp_all [digV]<;>(intros;omega)
theorem w263:Pu 263 [] (· = .sl 1 (kwS.map T)):=by
 have o:Gc 263 [] [] (fun g H'=>∃r,g = .own r 1 0 13∧H'=[(r,1,kwS.map T)]):=by
  refine Z5 mxd i263 rfl (by simp) ?_;refine X0 ?_
  intro r hr
  exact ⟨r,rfl,rfl⟩
 refine o.fr ?_
 rintro g H' ⟨r,rfl,rfl⟩
 exact ⟨_,_,FR.freeze ZZ (.all ZZ (by simp[kwS]) (by simp[view,kwS])),rfl⟩
theorem w146 (l:List ByteArray) (s:ByteArray):Pu 146 [.sl 1 (l.map T),T s] (· = B (hasS l s)):=by
 refine GCalls.lenA fun hl=> ?_
 have hlen:=hl.1.1
 simp only[List.length_map,Zc] at hlen
 refine Z5 mxd i146 rfl (by simp) ?_;refine X0 ?_
 refine ZL mxd (ι:={ i:Nat // i≤l.length∧∀y∈l.take i,decide (y=s)=false }) (fun i=>[(0,.sl 1 (l.map T)),(1,T s),(5,I i.1)]) (fun _ => []) (fun i=>l.length-i.1) ⟨0,by simp⟩ (by simp[E2]) rfl ?_
 rintro ⟨i,hi,hn⟩
 (refine R0 ?_;with_reducible repeat' first|intro h|apply jO)
 ·rw[hasS_hit (by assumption) h]
 ·exact nx ⟨i+1,oT,Zn (by assumption) (by simpa using h) hn⟩ (by simp;omega) (by simp[E2]) rfl
 ·have:i=l.length:=by omega
  subst this
  rw[tL (Nat.le_refl _)] at hn
  rw[hasS_none hn]
theorem w233 (s:ByteArray):Pu 233 [T s] (· = B (resV s)):=by
 refine Z5 mxd i233 rfl (by simp) ?_;refine X0 ?_
 (refine R0 ?_;with_reducible repeat' first|intro h|apply jO)
 all_goals first|(simp_all [resV,hasS,kwS,show ∀x,(x=s)=(s=x) from fun x=>propext eq_comm];done)|skip
theorem w241 (s:ByteArray):Pu 241 [T s] (· = B (resV s)):=by
 refine Z5 mxd i241 rfl (by simp) ?_;refine X0 ?_
 refine callS.eq w263 ?_
 (refine R0 ?_)
 refine callS.eq (w146 _ _) ?_
 (refine R0 ?_)
 rfl
theorem w240 (s : ByteArray) (hs : s.size ≤ maxLen) : Pu 240 [T s] (· = B (shp (ZR s))) := by
  simp only [maxLen, Yc] at hs
  refine Z5 mxd i240 rfl (by simp) ?_; refine X0 ?_
  refine ZL mxd (ι := { i : Nat // i ≤ (ZR s).length ∧ ∀ (j : Nat) (h : j < (ZR s).length), j < i → letV (ZR s)[j] = true ∨ (j ≠ 0 ∧ digV (ZR s)[j] = true) }) (fun i => [(0, T s), (3, I i.1)]) (fun _ => []) (fun i => (ZR s).length - i.1) ⟨0, by simp⟩ (by simp [E2]) rfl ?_
  rintro ⟨i, hi, hn⟩
  (refine R0 ?_; with_reducible repeat' first|intro h|refine aO ?_|apply jO)
  all_goals first
    | (rw [shp_bad (i := i) (by assumption) (by simp only [letV, digV, Bool.and_eq_true, decide_eq_true_eq]; omega)]; done)
    | (have hlt : i < (ZR s).length := by omega
       have hg : letV (ZR s)[i] = true ∨ (i ≠ 0 ∧ digV (ZR s)[i] = true) := by
         simp only [letV, digV, Bool.and_eq_true, decide_eq_true_eq]
         omega
       exact nx ⟨i + 1, oT, shp_step hlt hn hg⟩ (by simp; omega) (by simp [E2]) rfl)
    | (have : i = (ZR s).length := by omega
       subst this
       rw [shp_end hn]
       simp; done)
    | skip
  all_goals have hlt : i < (ZR s).length := by omega
  all_goals have hg : letV (ZR s)[i] = true ∨ (i ≠ 0 ∧ digV (ZR s)[i] = true) := by (simp only [letV, digV, Bool.and_eq_true, decide_eq_true_eq]; omega)
  all_goals refine nx ⟨i + 1, oT, shp_step hlt hn hg⟩ ?_ ?_ rfl
  all_goals first | (simp only; omega) | exact (by simp [E2]) | skip
theorem w209 (s:ByteArray) (hs:s.size≤maxLen):Pu 209 [T s] (· = B (Zj s)):=by
 have hs':=hs
 simp only[maxLen,Yc] at hs'
 refine Z5 mxd i209 rfl (by simp) ?_;refine X0 ?_
 refine callS.eq (w240 s hs) ?_
 (refine R0 ?_;with_reducible repeat' first|intro h|apply jO)
 all_goals try (refine callS.eq (w241 _) ?_;(refine R0 ?_))
 all_goals simp_all [Zj]
 all_goals try (intros;omega)
theorem w199 (s : ByteArray) (hs : s.size ≤ maxLen) : Pu 199 [T s] (· = B (Zj s)) := by
  simp only [maxLen, Yc] at hs
  refine Z5 mxd i199 rfl (by simp) ?_; refine X0 ?_
  refine ZL mxd (ι := { i : Nat // i ≤ (ZR s).length ∧ ∀ (j : Nat) (h : j < (ZR s).length), j < i → letV (ZR s)[j] = true ∨ digV (ZR s)[j] = true }) (fun i => [(0, T s), (5, I (ZR s).length), (6, I i.1)]) (fun _ => []) (fun i => (ZR s).length - i.1) ⟨0, by simp⟩ (by simp [E2]) rfl ?_
  rintro ⟨i, hi, hn⟩
  rcases nL i (ZR s).length with hlt | hge
  · have hnx : letV (ZR s)[i] = true ∨ digV (ZR s)[i] = true → ∀ (j : Nat) (h : j < (ZR s).length), j < i + 1 → letV (ZR s)[j] = true ∨ digV (ZR s)[j] = true := fun hg j hj hji => by
      by_cases e : j = i
      · subst e; exact hg
      · exact hn j hj oT
    (repeat' (first | (with_reducible refine callS.eq (w231 _) ?_) | (with_reducible refine callS.eq (w232 _) ?_) | simp (maxSteps := 9^7) only [↓ S2, S2, ZF, ↓reduceIte, reduceNe, reduceEqDiff, reduceCtorEq, reduceLeDiff, reduceAdd, reduceLT] | simp only [ZQ] | simp +contextual (disch := omega) only [Z2] | with_reducible first | intro h | refine jO oT ?_ | refine exP oT ?_ | apply jO))
    all_goals try exact oF
    · exact nx ⟨i + 1, oT, hnx (.inl h)⟩ (by show (ZR s).length - (i + 1) < (ZR s).length - i; omega) (by simp [E2]) rfl
    · exact nx ⟨i + 1, oT, hnx (.inr h)⟩ (by show (ZR s).length - (i + 1) < (ZR s).length - i; omega) (by simp [E2]) rfl
    · rw [XN, shp_no hlt (by assumption) (by assumption)]; rfl
  · have : i = (ZR s).length := by omega
    subst this
    (repeat' (first | (with_reducible refine callS.eq (w47 _ _ _) ?_) | (with_reducible refine callS.eq (w231 _) ?_) | (with_reducible refine callS.eq (w233 _) ?_) | simp (maxSteps := 9^7) only [↓ S2, S2, ZF, ↓reduceIte, reduceNe, reduceEqDiff, reduceCtorEq, reduceLeDiff, reduceAdd, reduceLT] | simp only [ZQ] | simp +contextual (disch := omega) only [Z2] | with_reducible first | intro h | refine jO oT ?_ | refine exP oT ?_ | apply jO))
    all_goals try exact oF
    all_goals first
      | (rw [XN, shp_yes oT (by assumption) (fun j h => hn j h h), decide_eq_true oT]; rfl)
      | (rw [XN, shp_no0 oT (by assumption)]; rfl)
      | (rw [XN, decide_eq_false (show ¬ (ZR s).length ≤ 8 by omega), Bool.and_false]; rfl)
      | (rcases Nat.eq_zero_or_pos (ZR s).length with h0 | h0
         · rw [XN, List.eq_nil_of_length_eq_zero h0]; rfl
         · rw [XN, decide_eq_false (show ¬ (ZR s).length ≤ 8 by omega), Bool.and_false]; rfl)
theorem w245 (e:Exp) (k n p t:Int) (s m:ByteArray) (a:List Exp):Pu 245 [Ex e,.agg [I k,I n,I p,I t,T s,T m,ExS a]] (· = B (decide (e.kind=k)&&(decide (e.n=n)&&(decide (e.pos=p)&&(decide (e.type=t)&&(decide (e.sym=s)&&decide (e.name=m))))))):=by
 refine Z5 mxd i245 rfl (by simp) ?_;refine X0 ?_
 (repeat' (first|(with_reducible refine callS.eq (w47 _ _ _) ?_)|simp (maxSteps:=9^7) only[↓ S2,S2,ZF,↓reduceIte,reduceNe,reduceEqDiff,reduceCtorEq,reduceLeDiff,reduceAdd,reduceLT,XE]|simp only[ZQ]|simp +contextual (disch:=omega) only[Z2]|with_reducible first|intro h|refine jO oT ?_ | refine exP oT ?_ | apply jO))
 all_goals (simp_all;done)
end Go.Proofs.YtkmedfejmndmjaaGreat
