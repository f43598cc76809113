/- The law returns true whatever the input, and the input reads behind the call as before. No condition. -/
import Derived.Test.YtkmedfejmndmjaaGreatFty3
set_option maxHeartbeats 40000000
set_option maxRecDepth 20000
set_option linter.unusedSimpArgs false
set_option linter.unusedVariables false
namespace Go.Proofs.YtkmedfejmndmjaaGreat
open Go.Gh
open Nat (reduceEqDiff reduceLeDiff reduceAdd reduceLT)
open Int (reduceNe)
theorem w152 (g:Gram) (r:Rul) (e:Exp) (hl:e.args.length≤1048576) (ih:∀a∈e.args,Pu 90 [Gr g,Ru r,Ex a] (· = I (tyE g r a))):Pu 152 [Gr g,Ru r,Ex e] (· = I (if (e.args.map (tyE g r)).length = 2∧(e.args.map (tyE g r)).getD 0 0=(opT e.n).1 ∧ (e.args.map (tyE g r)).getD 1 0=(opT e.n).2.1 then (opT e.n).2.2 else 0)):=by
 refine ZY mxd i152 rfl (by simp) ?_;refine X0 ?_
 (repeat' (first|(with_reducible refine callS.eq (w214 _) ?_)|(with_reducible refine callS.eq (ih _ (gM _)) ?_)|simp (maxSteps:=9^7) only[↓ S2,S2,Z5,↓reduceIte,reduceNe,reduceEqDiff,reduceCtorEq,reduceLeDiff,reduceAdd,reduceLT,XE]|simp only[Z8]|simp +contextual (disch:=omega) only[Z2]|with_reducible first|intro h|refine And.intro (by omega) ?_ | refine exP (by omega) ?_ | apply And.intro))
 all_goals try exact oF
 ·rw[if_pos ⟨by omega,by rw[getDm (by omega)];assumption,by rw[getDm (by omega)];assumption⟩]
 ·rw[if_neg (fun ⟨h1,h2,h3⟩=>by rw[getDm (by omega)] at h3;contradiction)]
 ·rw[if_neg (fun ⟨h1,h2,h3⟩=>by rw[getDm (by omega)] at h2;contradiction)]
 ·rw[if_neg (fun ⟨h1,h2,h3⟩=>by omega)]
theorem w153 (g:Gram) (r:Rul) (e:Exp) (hl:e.args.length≤1048576) (ih:∀a∈e.args,Pu 90 [Gr g,Ru r,Ex a] (· = I (tyE g r a))):Pu 153 [Gr g,Ru r,Ex e] (· = I (if (e.args.map (tyE g r)).length = 3∧(e.args.map (tyE g r)).getD 0 0=3∧(e.args.map (tyE g r)).getD 1 0=(e.args.map (tyE g r)).getD 2 0 then (e.args.map (tyE g r)).getD 1 0 else 0)):=by
 refine ZY mxd i153 rfl (by simp) ?_;refine X0 ?_
 (repeat' (first|(with_reducible refine callS.eq (ih _ (gM _)) ?_)|simp (maxSteps:=9^7) only[↓ S2,S2,Z5,↓reduceIte,reduceNe,reduceEqDiff,reduceCtorEq,reduceLeDiff,reduceAdd,reduceLT,XE]|simp only[Z8]|simp +contextual (disch:=omega) only[Z2]|with_reducible first|intro h|refine And.intro (by omega) ?_ | refine exP (by omega) ?_ | apply And.intro))
 all_goals try exact oF
 ·rw[if_pos ⟨by omega,by rw[getDm (by omega)];assumption,by rw[getDm (by omega),getDm (by omega)];assumption⟩,getDm (by omega)]
  rfl
 ·rw[if_neg (fun ⟨h1,h2,h3⟩=>by rw[getDm (by omega),getDm (by omega)] at h3;contradiction)]
 ·rw[if_neg (fun ⟨h1,h2,h3⟩=>by rw[getDm (by omega)] at h2;contradiction)]
 ·rw[if_neg (fun ⟨h1,h2,h3⟩=>by omega)]
theorem w90 (g:Gram) (r:Rul) (hg:Zw g) (hr:Zk r):∀e:Exp,wEx e≤1048576→Pu 90 [Gr g,Ru r,Ex e] (· = I (tyE g r e)):=by
 refine Exp.indA fun e ih hw=> ?_
 obtain ⟨hl,ha⟩:=Za hw
 have hrr:=hr.1
 refine ZY mxd i90 rfl (by simp) ?_;refine X0 ?_
 rw[tyE_eq]
 have hk:e.kind=1∨e.kind=2∨e.kind=3∨e.kind=4∨e.kind=5∨e.kind=6∨e.kind=7∨e.kind=8∨(¬e.kind=1∧¬e.kind=2∧¬e.kind=3∧¬e.kind=4∧¬e.kind=5∧¬e.kind=6∧¬e.kind=7∧¬e.kind=8):=by omega
 rcases hk with hk|hk|hk|hk|hk|hk|hk|hk|hk
 all_goals (repeat' (first|(with_reducible refine callS.eq (w44 _ _ _) ?_)|(with_reducible refine callS.eq (w11 _ _ hr) ?_)|(with_reducible refine callS.eq (w91 _ _ _ hg) ?_)|(with_reducible refine callS.eq (w152 g r e hl (fun a h=>ih a h (ha a h))) ?_)|(with_reducible refine callS.eq (w153 g r e hl (fun a h=>ih a h (ha a h))) ?_)|(with_reducible refine callS.eq (ih _ (gM _) (ha _ (gM _))) ?_)|simp (maxSteps:=9^7) only[↓ S2,S2,Z5,↓reduceIte,reduceNe,reduceEqDiff,reduceCtorEq,reduceLeDiff,reduceAdd,reduceLT,XE,hk]|simp only[Z8]|simp +contextual (disch:=omega) only[Z2]|with_reducible first|intro h|refine And.intro (by omega) ?_ | refine exP (by omega) ?_ | apply And.intro))
 all_goals try exact oF
 all_goals simp only[tyK,hk,Zu,Int.reduceEq,reduceIte,List.length_map]
 all_goals first
  | (rw[if_pos (by assumption)];done)
  | (rw[if_neg (by assumption)];rfl)
  | (rw[if_pos ⟨by omega,by rw[getDm (by omega)];assumption⟩];done)
  | (rw[if_neg (fun ⟨h1,h2⟩=>by rw[getDm (by omega)] at h2;contradiction)];done)
  | (rw[if_neg (fun ⟨h1,h2⟩=>by omega)];done)
  | (rw[if_neg (by simp_all)];done)
  | (split<;>simp_all;done)
  | skip
 by_cases hc:e.args.length=3∧(e.args.map (tyE g r)).getD 0 0=3∧(e.args.map (tyE g r)).getD 1 0=(e.args.map (tyE g r)).getD 2 0
 ·rw[if_pos hc,if_pos hc,hc.2.2]
 ·rw[if_neg hc,if_neg hc]
theorem w157 (t:List Exp) (f:Nat) (cs:List GV) (p:Exp→Bool) (hp:∀x∈t,Pu f (Ex x::cs) (· = B (p x))) :
 Pu 157 [ExS t,.clo f cs] (· = I (Y5 p t)):=by
 refine GCalls.lenA fun hl=> ?_
 have hlen:=hl.1.1
 simp only[List.length_map,Zi] at hlen
 refine ZY mxd i157 rfl (by simp) ?_;refine X0 ?_
 refine ZF mxd (ι:={ i:Nat // i≤t.length∧∀y∈t.take i,p y=false }) (fun i=>[(0,ExS t),(1,.clo f cs),(7,I t.length),(8,I i.1)]) (fun _ => []) (fun i=>t.length-i.1) ⟨0,by simp⟩ (by simp[E2]) rfl ?_
 rintro ⟨i,hi,hn⟩
 (refine R1 (jO @Y2 (jO @YJ (jO @Y3 @YS))) ?_;with_reducible repeat' first|exact trivial|intro h|refine aO ?_|refine eO ?_|apply jO)
 ·refine callS.eq (hp t[i] (gM _)) ?_
  (refine R0 ?_;with_reducible repeat' first|exact trivial|intro h|refine aO ?_|refine eO ?_|apply jO)
  ·rw[YD (by assumption) h hn]
  ·exact nx ⟨i+1,by omega,Zg (by assumption) h hn⟩ (by simp;omega) (by simp[E2]) rfl
 ·have:i=t.length:=by omega
  subst this
  rw[tL (Nat.le_refl _)] at hn
  rw[YF hn]
theorem w96 (t:List Exp) (f:Nat) (cs:List GV) (p:Exp→Bool) (hp:∀x∈t,Pu f (Ex x::cs) (· = B (p x))) :
 Pu 96 [ExS t,.clo f cs] (· = B (t.any p)):=by
 refine ZY mxd i96 rfl (by simp) ?_;refine X0 ?_
 refine callS.eq (w157 t f cs p hp) ?_
 (refine R0 ?_;with_reducible repeat' first|exact trivial|intro h|refine aO ?_|refine eO ?_|apply jO)
 rw[←any_ix]
theorem w158 (f:Nat) (cs:List GV) (p:Exp→Bool) (ok:Exp→Prop) (hok:∀e,ok e→∀a∈e.args,ok a) (hp:∀x,ok x→Pu f (Ex x::cs) (· = B (p x))) :
 ∀e,ok e→Pu 158 [Ex e,.clo f cs] (· = B (allE p e)):=by
 refine Exp.indA fun e ih he=> ?_
 have hq:=hp e he
 rw[Y6] at hq ⊢
 refine ZY mxd i158 rfl (by simp) ?_;refine X0 ?_
 refine ⟨rfl,callS.eq hq ?_⟩
 (refine R0 ?_;with_reducible repeat' first|exact trivial|intro h|refine aO ?_|refine eO ?_|apply jO)
 ·refine callS.eq (w96 e.args _ _ (fun a=> !allE p a) fun a ha=> ?_) ?_
  ·refine ZY mxd i216 rfl (by simp) ?_;refine X0 ?_
   (refine R1 (jO @Y2 (jO @YJ (jO @Y3 @YS))) ?_;with_reducible repeat' first|exact trivial|intro h|refine aO ?_|refine eO ?_|apply jO)
   refine callS.eq (ih a ha (hok e he a ha)) ?_
   (refine R0 ?_;with_reducible repeat' first|exact trivial|intro h|refine aO ?_|refine eO ?_|apply jO)
  ·(refine R0 ?_;with_reducible repeat' first|exact trivial|intro h|refine aO ?_|refine eO ?_|apply jO)
   rw[allE_eq]
   simp_all [any_not]
 ·rw[allE_eq]
  simp_all
theorem w231 (c:UInt8):Pu 231 [.val (.int .u8 c.toNat)] (· = B (letV c)):=by
 refine ZY mxd i231 rfl (by simp) ?_;refine X0 ?_
 (refine R0 ?_;with_reducible repeat' first|exact trivial|intro h|refine aO ?_|refine eO ?_|apply jO)<;>simp_all [letV]<;>(intros;omega)
theorem w232 (c:UInt8):Pu 232 [.val (.int .u8 c.toNat)] (· = B (digV c)):=by
 refine ZY mxd i232 rfl (by simp) ?_;refine X0 ?_
 (refine R0 ?_;with_reducible repeat' first|exact trivial|intro h|refine aO ?_|refine eO ?_|apply jO)<;>simp_all [digV]<;>(intros;omega)
theorem w263:Pu 263 [] (· = .sl 1 (kwS.map T)):=by
 have o:Gc 263 [] [] (fun g H'=>∃r,g = .own r 1 0 13∧H'=[(r,1,kwS.map T)]):=by
  refine ZY mxd i263 rfl (by simp) ?_;refine X0 ?_
  intro r hr
  exact ⟨r,rfl,rfl⟩
 refine o.fr ?_
 rintro g H' ⟨r,rfl,rfl⟩
 exact ⟨_,_,FR.freeze Z4 (.all Z4 (by simp[kwS]) (by simp[view,kwS])),rfl⟩
theorem w146 (l:List ByteArray) (s:ByteArray):Pu 146 [.sl 1 (l.map T),T s] (· = B (hasS l s)):=by
 refine GCalls.lenA fun hl=> ?_
 have hlen:=hl.1.1
 simp only[List.length_map,Zi] at hlen
 refine ZY mxd i146 rfl (by simp) ?_;refine X0 ?_
 refine ZF mxd (ι:={ i:Nat // i≤l.length∧∀y∈l.take i,decide (y=s)=false }) (fun i=>[(0,.sl 1 (l.map T)),(1,T s),(5,I i.1)]) (fun _ => []) (fun i=>l.length-i.1) ⟨0,by simp⟩ (by simp[E2]) rfl ?_
 rintro ⟨i,hi,hn⟩
 (refine R0 ?_;with_reducible repeat' first|exact trivial|intro h|refine aO ?_|refine eO ?_|apply jO)
 ·rw[hasS_hit (by assumption) h]
 ·exact nx ⟨i+1,by omega,Zg (by assumption) (by simpa using h) hn⟩ (by simp;omega) (by simp[E2]) rfl
 ·have:i=l.length:=by omega
  subst this
  rw[tL (Nat.le_refl _)] at hn
  rw[hasS_none hn]
theorem w233 (s:ByteArray):Pu 233 [T s] (· = B (resV s)):=by
 refine ZY mxd i233 rfl (by simp) ?_;refine X0 ?_
 (refine R0 ?_;with_reducible repeat' first|exact trivial|intro h|refine aO ?_|refine eO ?_|apply jO)
 all_goals first|(simp_all [resV,hasS,kwS,show ∀x,(x=s)=(s=x) from fun x=>propext eq_comm];done)|skip
theorem w241 (s:ByteArray):Pu 241 [T s] (· = B (resV s)):=by
 refine ZY mxd i241 rfl (by simp) ?_;refine X0 ?_
 refine callS.eq w263 ?_
 (refine R0 ?_;with_reducible repeat' first|exact trivial|intro h|refine aO ?_|refine eO ?_|apply jO)
 refine callS.eq (w146 _ _) ?_
 (refine R0 ?_;with_reducible repeat' first|exact trivial|intro h|refine aO ?_|refine eO ?_|apply jO)
 rfl
theorem w240 (s : ByteArray) (hs : s.size ≤ maxLen) : Pu 240 [T s] (· = B (shp (ZP s))) := by
  simp only [maxLen, YG] at hs
  refine ZY mxd i240 rfl (by simp) ?_; refine X0 ?_
  refine ZF mxd (ι := { i : Nat // i ≤ (ZP s).length ∧ ∀ (j : Nat) (h : j < (ZP s).length), j < i → letV (ZP s)[j] = true ∨ (j ≠ 0 ∧ digV (ZP s)[j] = true) }) (fun i => [(0, T s), (3, I i.1)]) (fun _ => []) (fun i => (ZP s).length - i.1) ⟨0, by simp⟩ (by simp [E2]) rfl ?_
  rintro ⟨i, hi, hn⟩
  (refine R0 ?_; with_reducible repeat' first|exact trivial|intro h|refine aO ?_|refine eO ?_|apply jO)
  all_goals first
    | (rw [shp_bad (i := i) (by assumption) (by simp only [letV, digV, Bool.and_eq_true, decide_eq_true_eq]; omega)]; done)
    | (have hlt : i < (ZP s).length := by omega
       have hg : letV (ZP s)[i] = true ∨ (i ≠ 0 ∧ digV (ZP s)[i] = true) := by
         simp only [letV, digV, Bool.and_eq_true, decide_eq_true_eq]
         omega
       exact nx ⟨i + 1, by omega, shp_step hlt hn hg⟩ (by simp; omega) (by simp [E2]) rfl)
    | (have : i = (ZP s).length := by omega
       subst this
       rw [shp_end hn]
       simp; done)
    | skip
  all_goals have hlt : i < (ZP s).length := by omega
  all_goals have hg : letV (ZP s)[i] = true ∨ (i ≠ 0 ∧ digV (ZP s)[i] = true) := by (simp only [letV, digV, Bool.and_eq_true, decide_eq_true_eq]; omega)
  all_goals refine nx ⟨i + 1, by omega, shp_step hlt hn hg⟩ ?_ ?_ rfl
  all_goals first | (simp only; omega) | exact (by simp [E2]) | skip
theorem w209 (s:ByteArray) (hs:s.size≤maxLen):Pu 209 [T s] (· = B (Zx s)):=by
 have hs':=hs
 simp only[maxLen,YG] at hs'
 refine ZY mxd i209 rfl (by simp) ?_;refine X0 ?_
 refine callS.eq (w240 s hs) ?_
 (refine R0 ?_;with_reducible repeat' first|exact trivial|intro h|refine aO ?_|refine eO ?_|apply jO)
 all_goals try (refine callS.eq (w241 _) ?_;(refine R0 ?_;with_reducible repeat' first|exact trivial|intro h|refine aO ?_|refine eO ?_|apply jO))
 all_goals simp_all [Zx]
 all_goals try (intros;omega)
theorem w199 (s : ByteArray) (hs : s.size ≤ maxLen) : Pu 199 [T s] (· = B (Zx s)) := by
  simp only [maxLen, YG] at hs
  refine ZY mxd i199 rfl (by simp) ?_; refine X0 ?_
  refine ZF mxd (ι := { i : Nat // i ≤ (ZP s).length ∧ ∀ (j : Nat) (h : j < (ZP s).length), j < i → letV (ZP s)[j] = true ∨ digV (ZP s)[j] = true }) (fun i => [(0, T s), (5, I (ZP s).length), (6, I i.1)]) (fun _ => []) (fun i => (ZP s).length - i.1) ⟨0, by simp⟩ (by simp [E2]) rfl ?_
  rintro ⟨i, hi, hn⟩
  rcases nL i (ZP s).length with hlt | hge
  · have hnx : letV (ZP s)[i] = true ∨ digV (ZP s)[i] = true → ∀ (j : Nat) (h : j < (ZP s).length), j < i + 1 → letV (ZP s)[j] = true ∨ digV (ZP s)[j] = true := fun hg j hj hji => by
      by_cases e : j = i
      · subst e; exact hg
      · exact hn j hj (by omega)
    (repeat' (first | (with_reducible refine callS.eq (w231 _) ?_) | (with_reducible refine callS.eq (w232 _) ?_) | simp (maxSteps := 9^7) only [↓ S2, S2, Z5, ↓reduceIte, reduceNe, reduceEqDiff, reduceCtorEq, reduceLeDiff, reduceAdd, reduceLT] | simp only [Z8] | simp +contextual (disch := omega) only [Z2] | with_reducible first | intro h | refine And.intro (by omega) ?_ | refine exP (by omega) ?_ | apply And.intro))
    all_goals try exact oF
    · exact nx ⟨i + 1, by omega, hnx (.inl h)⟩ (by show (ZP s).length - (i + 1) < (ZP s).length - i; omega) (by simp [E2]) rfl
    · exact nx ⟨i + 1, by omega, hnx (.inr h)⟩ (by show (ZP s).length - (i + 1) < (ZP s).length - i; omega) (by simp [E2]) rfl
    · rw [Yn, shp_no hlt (by assumption) (by assumption)]; rfl
  · have : i = (ZP s).length := by omega
    subst this
    (repeat' (first | (with_reducible refine callS.eq (w47 _ _ _) ?_) | (with_reducible refine callS.eq (w231 _) ?_) | (with_reducible refine callS.eq (w233 _) ?_) | simp (maxSteps := 9^7) only [↓ S2, S2, Z5, ↓reduceIte, reduceNe, reduceEqDiff, reduceCtorEq, reduceLeDiff, reduceAdd, reduceLT] | simp only [Z8] | simp +contextual (disch := omega) only [Z2] | with_reducible first | intro h | refine And.intro (by omega) ?_ | refine exP (by omega) ?_ | apply And.intro))
    all_goals try exact oF
    all_goals first
      | (rw [Yn, shp_yes (by omega) (by assumption) (fun j h => hn j h h), decide_eq_true (by omega)]; rfl)
      | (rw [Yn, shp_no0 (by omega) (by assumption)]; rfl)
      | (rw [Yn, decide_eq_false (show ¬ (ZP s).length ≤ 8 by omega), Bool.and_false]; rfl)
      | (rcases Nat.eq_zero_or_pos (ZP s).length with h0 | h0
         · rw [Yn, List.eq_nil_of_length_eq_zero h0]; rfl
         · rw [Yn, decide_eq_false (show ¬ (ZP s).length ≤ 8 by omega), Bool.and_false]; rfl)
theorem w245 (e:Exp) (k n p t:Int) (s m:ByteArray) (a:List Exp):Pu 245 [Ex e,.agg [I k,I n,I p,I t,T s,T m,ExS a]] (· = B (decide (e.kind=k)&&(decide (e.n=n)&&(decide (e.pos=p)&&(decide (e.type=t)&&(decide (e.sym=s)&&decide (e.name=m))))))):=by
 refine ZY mxd i245 rfl (by simp) ?_;refine X0 ?_
 (repeat' (first|(with_reducible refine callS.eq (w47 _ _ _) ?_)|simp (maxSteps:=9^7) only[↓ S2,S2,Z5,↓reduceIte,reduceNe,reduceEqDiff,reduceCtorEq,reduceLeDiff,reduceAdd,reduceLT,XE]|simp only[Z8]|simp +contextual (disch:=omega) only[Z2]|with_reducible first|intro h|refine And.intro (by omega) ?_ | refine exP (by omega) ?_ | apply And.intro))
 all_goals (simp_all;done)
theorem Tryz.dec_i {p:Prop} {i:Decidable p}:(@decide p i=true)=p:=propext ⟨of_decide_eq_true,decide_eq_true⟩
theorem Tryz.chN (s:ByteArray):(ZP s=ZP (⟨#[]⟩:ByteArray))=(s=noS):=propext chars_inj
theorem w250 (e:Exp) (hl:e.args.length≤1048576):Pu 250 [Ex e] (· = B (bareV e)):=by
 have hk:e.kind=1∨e.kind=3∨e.kind=4∨e.kind=5∨e.kind=6∨e.kind=8∨(¬e.kind=1∧¬e.kind=3∧¬e.kind=4∧¬e.kind=5∧¬e.kind=6∧¬e.kind=8):=by omega
 have hl0:((e.args.length:Int)=0)=(e.args.length=0):=propext (by omega)
 have hl1:((e.args.length:Int)=1)=(e.args.length=1):=propext (by omega)
 have hl2:((e.args.length:Int)=2)=(e.args.length=2):=propext (by omega)
 have hl3:((e.args.length:Int)=3)=(e.args.length=3):=propext (by omega)
 rcases hk with hk|hk|hk|hk|hk|hk|⟨hk1,hk3,hk4,hk5,hk6,hk8⟩
 all_goals
  refine ZY mxd i250 rfl (by simp) ?_;refine X0 ?_
  first|simp (maxSteps:=9^7) only[↓ S2,S2,Z5,↓reduceIte,reduceNe,reduceEqDiff,reduceCtorEq,reduceLeDiff,reduceAdd,reduceLT,XE,hk,Int.reduceEq,decide_false,decide_true,hl0,hl1,hl2,hl3]|simp (maxSteps:=9^7) only[↓ S2,S2,Z5,↓reduceIte,reduceNe,reduceEqDiff,reduceCtorEq,reduceLeDiff,reduceAdd,reduceLT,XE,hk1,hk3,hk4,hk5,hk6,hk8,Int.reduceEq,decide_false,decide_true,hl0,hl1,hl2,hl3]
  try simp only[Tryz.chN]
  clear hl0 hl1 hl2 hl3
  (with_reducible repeat' (first|intro h|refine And.intro (by omega) ?_ | refine exP (by omega) ?_ | apply And.intro))
  all_goals
   congr 2
   rw[Bool.eq_iff_iff]
   simp[bareV,arity,Tryz.dec_i, *]
theorem w229 (e:Exp) (hl:e.args.length≤1048576) (ho:okE e):Pu 229 [Ex e] (· = B (nodeV e)):=by
 obtain ⟨hs,hm,_⟩:=okE_eq.1 ho
 have hk:e.kind=1∨e.kind=2∨e.kind=3∨e.kind=4∨e.kind=5∨e.kind=6∨e.kind=7∨e.kind=8∨(¬(1≤e.kind∧e.kind≤8)):=by omega
 rcases hk with hk|hk|hk|hk|hk|hk|hk|hk|hk
 all_goals
  refine ZY mxd i229 rfl (by simp) ?_;refine X0 ?_
  (repeat' (first|(with_reducible refine callS.eq (w44 _ _ _) ?_)|(with_reducible refine callS.eq (w250 e hl) ?_)|(with_reducible refine callS.eq (w27 _ _) ?_)|(with_reducible refine callS.eq (w209 _ hs) ?_)|(with_reducible refine callS.eq (w209 _ hm) ?_)|simp (maxSteps:=9^7) only[↓ S2,S2,Z5,↓reduceIte,reduceNe,reduceEqDiff,reduceCtorEq,reduceLeDiff,reduceAdd,reduceLT,XE,hk]|simp only[Z8]|simp +contextual (disch:=omega) only[Z2]|with_reducible first|intro h|refine And.intro (by omega) ?_ | refine exP (by omega) ?_ | apply And.intro))
  all_goals try exact oF
  all_goals first
   | (simp_all [nodeV];done)
   | (simp_all [nodeV];intros;omega)
   | (congr 2;rw[Bool.eq_iff_iff];simp[nodeV,hk, *];done)
theorem w196:∀e:Exp,okE e→wEx e≤1048576→Pu 196 [Ex e] (· = B (allE nodeV e)):=by
 refine Exp.indA fun e ih ho hw=> ?_
 obtain ⟨hl,ha⟩:=Za hw
 obtain ⟨_,_,hoa⟩:=okE_eq.1 ho
 refine ZY mxd i196 rfl (by simp) ?_;refine X0 ?_
 simp (maxSteps:=9^7) only[↓ S2,S2,Z5,↓reduceIte,reduceNe,reduceEqDiff,reduceCtorEq,reduceLeDiff,reduceAdd,reduceLT,XE]
 refine ZF mxd (ι:={ i:Nat // i≤e.args.length∧∀a∈e.args.take i,allE nodeV a=true }) (fun i=>[(1,.rop 7 (Ex e)),(3,I i.1)]) (fun _ => []) (fun i=>e.args.length-i.1) ⟨0,by simp⟩ (by simp[E2]) rfl ?_
 rintro ⟨i,hi,hn⟩
 rcases nL i e.args.length with hlt|hge
 ·(repeat' (first|(with_reducible refine callS.eq (ih _ (gM hlt) (hoa _ (gM hlt)) (ha _ (gM hlt))) ?_)|simp (maxSteps:=9^7) only[↓ S2,S2,Z5,↓reduceIte,reduceNe,reduceEqDiff,reduceCtorEq,reduceLeDiff,reduceAdd,reduceLT,XE]|simp only[Z8]|simp +contextual (disch:=omega) only[Z2]|with_reducible first|intro h|refine And.intro (by omega) ?_ | refine exP (by omega) ?_ | apply And.intro))
  all_goals try exact oF
  ·exact nx ⟨i+1,by omega,all_take hlt (by assumption) hn⟩ (by simp;omega) (by simp[E2]) rfl
  ·rw[allE_no hlt (by assumption)]
 ·have:i=e.args.length:=by omega
  subst this
  rw[tL (Nat.le_refl _)] at hn
  rw[allE_yes hn]
  (repeat' (first|(with_reducible refine callS.eq (w229 e hl ho) ?_)|simp (maxSteps:=9^7) only[↓ S2,S2,Z5,↓reduceIte,reduceNe,reduceEqDiff,reduceCtorEq,reduceLeDiff,reduceAdd,reduceLT,XE]|simp only[Z8]|simp +contextual (disch:=omega) only[Z2]|with_reducible first|intro h|refine And.intro (by omega) ?_ | refine exP (by omega) ?_ | apply And.intro))
theorem w128 (e:Exp) (ho:okE e) (hw:wEx e≤1048576):Pu 128 [Ex e] (· = B (validE e)):=by
 have hc:=cntE_le e
 have hd:=dpE_le e
 refine ZY mxd i128 rfl (by simp) ?_;refine X0 ?_
 (repeat' (first|(with_reducible refine callS.eq (w194 e hw _ (by omega) (by omega)) ?_)|(with_reducible refine callS.eq (w195 e hw) ?_)|(with_reducible refine callS.eq (w196 e ho hw) ?_)|simp (maxSteps:=9^7) only[↓ S2,S2,Z5,↓reduceIte,reduceNe,reduceEqDiff,reduceCtorEq,reduceLeDiff,reduceAdd,reduceLT,XE]|simp only[Z8]|simp +contextual (disch:=omega) only[Z2]|with_reducible first|intro h|refine And.intro (by omega) ?_ | refine exP (by omega) ?_ | apply And.intro))
 all_goals (simp only[validE])
 all_goals first
  | (rw[decide_eq_true (show cntE e≤24 by omega),decide_eq_true (show dpE e≤6 by omega)];rfl)
  | (rw[decide_eq_false (show ¬cntE e≤24 by omega)];rfl)
  | (rw[decide_eq_false (show ¬dpE e≤6 by omega),Bool.and_false];rfl)
theorem Tryz.dec_j {p:Prop} {i:Decidable p}:(@decide p i=true)=p:=propext ⟨of_decide_eq_true,decide_eq_true⟩
theorem w225 (e : Exp) (hl : e.args.length ≤ 1048576) (ho : okE e) : Pu 225 [Ex e] (· = B (nodeV e)) := by
  obtain ⟨hs, hm, _⟩ := okE_eq.1 ho
  refine Pure.bor ?_
  have hl1 : ((e.args.length : Int) = 1) = (e.args.length = 1) := propext (by omega)
  have hl2 : ((e.args.length : Int) = 2) = (e.args.length = 2) := propext (by omega)
  have hl3 : ((e.args.length : Int) = 3) = (e.args.length = 3) := propext (by omega)
  have hk : e.kind = 1 ∨ e.kind = 2 ∨ e.kind = 3 ∨ e.kind = 4 ∨ e.kind = 5 ∨ e.kind = 6 ∨ e.kind = 7 ∨ e.kind = 8 ∨ (¬ e.kind = 1 ∧ ¬ e.kind = 2 ∧ ¬ e.kind = 3 ∧ ¬ e.kind = 4 ∧ ¬ e.kind = 5 ∧ ¬ e.kind = 6 ∧ ¬ e.kind = 7 ∧ ¬ e.kind = 8) := by omega
  rcases hk with hk | hk | hk | hk | hk | hk | hk | hk | hk
  all_goals
    refine ZY mxd i225 rfl (by simp) ?_; refine X0 ?_
    (repeat' (first | (with_reducible refine callS.eq (w47 _ _ _) ?_) | (with_reducible refine callS.eq (w244 _ _) ?_) | (with_reducible refine callS.eq (w199 _ hs) ?_) | (with_reducible refine callS.eq (w199 _ hm) ?_) | (with_reducible refine callS.eq (w245 e _ _ _ _ _ _ _) ?_) | simp (maxSteps := 9^7) only [↓ S2, S2, Z5, ↓reduceIte, reduceNe, reduceEqDiff, reduceCtorEq, reduceLeDiff, reduceAdd, reduceLT, XE, hk] | simp only [Z8] | simp +contextual (disch := omega) only [Z2] | with_reducible first | intro h | refine And.intro (by omega) ?_ | refine exP (by omega) ?_ | apply And.intro))
    all_goals try exact oF
    all_goals refine .of_eq ?_
    all_goals first
      | (simp_all [nodeV, bareV, arity, noS_eq]; done)
      | (simp_all [nodeV, bareV, arity, noS_eq]; intros; omega)
      | (have hr := okV_rng (show okV e.n e.type = true by assumption)
         congr 2
         rw [Bool.eq_iff_iff]
         try simp only [Bool.and_eq_true, Tryz.dec_j]
         try simp only [noS_eq]
         simp [nodeV, bareV, arity, hk]
         try (constructor <;> intro hh <;> (try simp_all) <;> (try omega)))
      | (congr 2
         rw [Bool.eq_iff_iff]
         try simp only [Bool.and_eq_true, Tryz.dec_j]
         try simp only [noS_eq]
         simp [nodeV, bareV, arity, hk]
         try (constructor <;> intro hh <;> (try simp_all) <;> (try omega)))
end Go.Proofs.YtkmedfejmndmjaaGreat
